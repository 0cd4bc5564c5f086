/- The law FnExactInputsText as a statement over numbers and lists, proved; no condition but the sizes and ranges that every input has. -/
import Derived.Test.YtapcjchgcppanaaF18
import Derived.Test.YtapcjchgcppanaaEv
namespace Go.Proofs.Ytapcjchgcppanaa.Pure
open Go.RowKit Go.Proofs.Ytapcjchgcppanaa.Pall Go.Proofs.YtapcjchgcppanaaW.PrintWords
set_option linter.unusedSimpArgs false
set_option linter.unusedVariables false
theorem eqInt_refl (l : List Int) (hn : l.length ≤ 9223372036854775807) : Ev (fun k => laws_eqInt64S.f k l l) true := by
  unfold laws_eqInt64S.f
  simp only [if_pos rfl]
  have h := Ev.allLoop (l := fun k i => laws_eqInt64S.l0 k l l i) (n := l.length) (fun _ => true) false true
    (fun i hi => Evt.all fun k => by
      simp only [laws_eqInt64S.l0]
      rw [if_pos (by omega), if_pos (by omega), if_pos (by omega), wrap_succ hi hn]
      (try simp))
    (Evt.all fun k => by
      simp only [laws_eqInt64S.l0]
      rw [if_neg (by omega)]) l.length 0 (by omega)
  refine h.eq ?_
  rw [if_pos ((allD_iff _ _ _).2 (fun _ _ _ => rfl))]
theorem intactInt_refl (l : List Int) (hn : l.length ≤ 1000000) : Ev (fun k => laws_intactInt64S.f k l l) true := by
  unfold laws_intactInt64S.f
  simp only [if_pos rfl]
  exact eqInt_refl _ (full_le l hn)
theorem toInt_some (k : Nat) (l : List Int) (b : Bool) (hn : l.length ≤ 1000000) : laws_toInt64S.f k l b = some l := by
  unfold laws_toInt64S.f
  rw [if_pos hn]
/-- Texts with another one between them. -/
def joinB (sep : ByteArray) (ws : List ByteArray) : Nat → Nat → ByteArray → ByteArray
  | 0, _, s => s
  | d + 1, i, s => joinB sep ws d (i + 1) ((if 0 < i then s ++ sep else s) ++ rdOf ByteArray.empty ws (i : Int))
theorem join_both (sep : ByteArray) (ws : List ByteArray) (B : Nat) (hs : sep.size ≤ 100) (hw : ∀ i, i < ws.length → (rdOf ByteArray.empty ws (i : Int)).size ≤ B) (hB : B ≤ 1000000) (hl : ws.length ≤ 1000000) :
    ∀ d i s, i + d = ws.length → s.size ≤ i * (B + 100) → Ev (fun k => spec_l01Words.l0 k ws sep s (i : Int)) (joinB sep ws d i s) ∧ Ev (fun k => impl_joinWith.l0 k sep s ws (ws.length : Int) (i : Int)) (joinB sep ws d i s) := by
  intro d
  induction d with
  | zero =>
    intro i s hi hz
    obtain rfl : i = ws.length := by omega
    refine ⟨Ev.dn ?_, Ev.dn ?_⟩
    · simp only [spec_l01Words.l0]
      simp only [if_neg (show ¬ (ws.length : Int) < (ws.length : Int) by omega)]
      exact Ev.now _
    · simp only [impl_joinWith.l0]
      simp only [if_neg (show ¬ (ws.length : Int) < (ws.length : Int) by omega)]
      exact Ev.now _
  | succ d ih =>
    intro i s hi hz
    have hwi := hw i (by omega)
    have hm : i * (B + 100) ≤ 1000100000000 := Nat.le_trans (Nat.mul_le_mul (show i ≤ 1000000 by omega) (show B + 100 ≤ 1000100 by omega)) (by decide)
    have e1 : (i + 1) * (B + 100) = i * (B + 100) + (B + 100) := by rw [Nat.add_mul, Nat.one_mul]
    have ha : (s ++ sep).size = s.size + sep.size := ByteArray.size_append
    have h1 := ih (i + 1) ((if 0 < i then s ++ sep else s) ++ rdOf ByteArray.empty ws (i : Int)) (by omega) (by
      rw [ByteArray.size_append, e1]
      split <;> omega)
    have hsu := wrap_succ (show i < ws.length by omega) (show ws.length ≤ 9223372036854775807 by omega)
    have b1 : s.size + sep.size ≤ 9223372036854775807 := by omega
    have b2 : (s ++ sep).size + (rdOf ByteArray.empty ws (i : Int)).size ≤ 9223372036854775807 := by omega
    have b3 : s.size + (rdOf ByteArray.empty ws (i : Int)).size ≤ 9223372036854775807 := by omega
    clear e1 hm hz ha ih hwi
    have hlt : (i : Int) < (ws.length : Int) := by omega
    have h0 : (0 : Int) ≤ (i : Int) := by omega
    clear hi hw hl hB hs
    obtain ⟨h1, h2⟩ := h1
    refine ⟨Ev.dn (Ev.eq' h1 (fun k => ?_)), Ev.dn (Ev.eq' h2 (fun k => ?_))⟩
    · simp only [spec_l01Words.l0]
      rw [if_pos hlt, hsu]
      by_cases c : 0 < i
      · have c' : (i : Int) > 0 := Int.natCast_pos.2 c
        rw [if_pos c', if_pos b1, if_pos h0, if_pos b2, if_pos c]
      · have c' : ¬ (i : Int) > 0 := fun h => c (Int.natCast_pos.1 h)
        rw [if_neg c', if_pos h0, if_pos b3, if_neg c]
    · simp only [impl_joinWith.l0]
      rw [if_pos (show (i : Int) < (ws.length : Int) by omega), if_pos h0, if_pos hlt, hsu]
      by_cases c : 0 < i
      · have c' : (i : Int) > 0 := Int.natCast_pos.2 c
        rw [if_pos c', if_pos b1, if_pos b2, if_pos c]
      · have c' : ¬ (i : Int) > 0 := fun h => c (Int.natCast_pos.1 h)
        rw [if_neg c', if_pos b3, if_neg c]
def W10 : List ByteArray := (spec_l21Words.f).getD []
theorem words_spec : spec_l21Words.f = some W10 := rfl
theorem words_impl : impl_inputWords.f = some W10 := rfl
theorem W10_len : W10.length = 10 := by simp [W10, spec_l21Words.f]
theorem W10_size : ∀ j : Nat, j < 10 → (rdOf ByteArray.empty W10 (j : Int)).size ≤ 6 := by
  intro j hj
  have : j = 0 ∨ j = 1 ∨ j = 2 ∨ j = 3 ∨ j = 4 ∨ j = 5 ∨ j = 6 ∨ j = 7 ∨ j = 8 ∨ j = 9 := by omega
  rcases this with h | h | h | h | h | h | h | h | h | h <;> subst h <;> decide
def inOk (xs : List Int) : Bool := allD (fun j => decide (0 ≤ rd xs (j : Int)) && decide (rd xs (j : Int) ≤ 9)) 0 xs.length
theorem inOk_iff (xs : List Int) : inOk xs = true ↔ ∀ j, j < xs.length → 0 ≤ rd xs (j : Int) ∧ rd xs (j : Int) ≤ 9 := by
  unfold inOk
  rw [allD_iff]
  simp only [Bool.and_eq_true, decide_eq_true_eq]
  exact ⟨fun h j hj => h j (Nat.zero_le _) (by omega), fun h j _ hj => h j (by omega)⟩
def wordsOf (xs : List Int) : List ByteArray := xs.map fun x => rdOf ByteArray.empty W10 x
theorem wordsOf_len (xs : List Int) : (wordsOf xs).length = xs.length := by simp [wordsOf]
theorem wordsOf_take (xs : List Int) (i : Nat) (h : i < xs.length) : wordsOf (xs.take (i + 1)) = wordsOf (xs.take i) ++ [rdOf ByteArray.empty W10 (rd xs (i : Int))] := by
  rw [List.take_succ_eq_append_getElem h, rd_nat h]
  unfold wordsOf
  rw [List.map_append]
  rfl
theorem wordsOf_rd (xs : List Int) (i : Nat) (h : i < xs.length) : rdOf ByteArray.empty (wordsOf xs) (i : Int) = rdOf ByteArray.empty W10 (rd xs (i : Int)) := by
  rw [rdOf_nat (by rw [wordsOf_len]; exact h), rd_nat h]
  simp [wordsOf]
theorem wordsOf_size (xs : List Int) (ho : inOk xs = true) : ∀ i, i < (wordsOf xs).length → (rdOf ByteArray.empty (wordsOf xs) (i : Int)).size ≤ 6 := by
  intro i hi
  rw [wordsOf_len] at hi
  rw [wordsOf_rd xs i hi]
  have := (inOk_iff xs).1 ho i hi
  obtain ⟨j, hj⟩ := Int.eq_ofNat_of_zero_le this.1
  rw [hj]
  exact W10_size j (by omega)
def spT : ByteArray := ⟨#[32]⟩
def txtOf (xs : List Int) : ByteArray := if xs.length = 0 then ⟨#[45]⟩ else joinB spT (wordsOf xs) xs.length 0 ⟨#[]⟩
theorem spec_text (xs : List Int) (hn : xs.length ≤ 1000000) (ho : inOk xs = true) : Ev (fun k => spec_l21Text.f k xs) (txtOf xs) := by
  unfold spec_l21Text.f
  have key : ∀ d i, i + d = xs.length → Ev (fun k => spec_l21Text.l0 k xs (wordsOf (xs.take i)) (i : Int)) (txtOf xs) := by
    intro d
    induction d with
    | zero =>
      intro i hi
      obtain rfl : i = xs.length := by omega
      refine Ev.dn ?_
      simp only [spec_l21Text.l0]
      simp only [if_neg (show ¬ (xs.length : Int) < (xs.length : Int) by omega), List.take_length, wordsOf_len, txtOf]
      by_cases c : xs.length = 0
      · simp only [if_pos c, if_pos (show (xs.length : Int) = 0 by omega)]
        exact Ev.now _
      · simp only [if_neg c, if_neg (show ¬ (xs.length : Int) = 0 by omega)]
        refine Ev.bind ?_ (Ev.now _)
        unfold spec_l01Words.f
        have h := (join_both spT (wordsOf xs) 6 (by decide) (wordsOf_size xs ho) (by omega) (by rw [wordsOf_len]; exact hn) xs.length 0 ⟨#[]⟩ (by rw [wordsOf_len]; omega) (by decide)).1
        exact h
    | succ d ih =>
      intro i hi
      refine Ev.dn (Ev.eq' (ih (i + 1) (by omega)) (fun k => ?_))
      have hx := (inOk_iff xs).1 ho i (by omega)
      simp only [spec_l21Text.l0, words_spec, Option.bind_some, W10_len]
      rw [if_pos (show (i : Int) < (xs.length : Int) by omega), if_pos (show (0 : Int) ≤ (i : Int) by omega), if_pos hx.1, if_pos (by omega), if_pos (by rw [wordsOf_len, List.length_take]; omega), wrap_succ (show i < xs.length by omega) (show xs.length ≤ 9223372036854775807 by omega), wordsOf_take xs i (by omega)]
  exact key xs.length 0 (by omega)
theorem impl_text (xs : List Int) (hn : xs.length ≤ 1000000) (ho : inOk xs = true) : ∀ d i, i + d = xs.length → Ev (fun k => impl_InputsText.l0 k (wordsOf (xs.take i)) xs (xs.length : Int) (i : Int)) (joinB spT (wordsOf xs) xs.length 0 ⟨#[]⟩, 0) := by
  intro d
  induction d with
  | zero =>
    intro i hi
    obtain rfl : i = xs.length := by omega
    refine Ev.dn ?_
    simp only [impl_InputsText.l0]
    simp only [if_neg (show ¬ (xs.length : Int) < (xs.length : Int) by omega), List.take_length]
    refine Ev.bind ?_ (Ev.now _)
    unfold impl_joinWith.f
    have h := (join_both spT (wordsOf xs) 6 (by decide) (wordsOf_size xs ho) (by omega) (by rw [wordsOf_len]; exact hn) xs.length 0 ⟨#[]⟩ (by rw [wordsOf_len]; omega) (by decide)).2
    exact h
  | succ d ih =>
    intro i hi
    refine Ev.dn (Ev.eq' (ih (i + 1) (by omega)) (fun k => ?_))
    have hx := (inOk_iff xs).1 ho i (by omega)
    simp only [impl_InputsText.l0, words_impl, Option.bind_some, W10_len]
    rw [if_pos (show (i : Int) < (xs.length : Int) by omega), if_pos (show (0 : Int) ≤ (i : Int) by omega), if_pos (show (i : Int) < (xs.length : Int) by omega), if_pos hx.1, if_pos (by omega), if_pos (by rw [wordsOf_len, List.length_take]; omega), wrap_succ (show i < xs.length by omega) (show xs.length ≤ 9223372036854775807 by omega), wordsOf_take xs i (by omega)]
theorem allWithin_ev (xs : List Int) (hn : xs.length ≤ 1000000) : Ev (fun k => impl_allWithin.f k xs 0 9) (inOk xs) := by
  unfold impl_allWithin.f
  have h := Ev.allLoop (l := fun k i => impl_allWithin.l0 k 0 9 xs (xs.length : Int) i) (n := xs.length) (fun j => decide (0 ≤ rd xs (j : Int)) && decide (rd xs (j : Int) ≤ 9)) false true
    (fun i hi => Evt.all fun k => by
      simp only [impl_allWithin.l0, impl_within.f]
      rw [if_pos (by omega), if_pos (by omega), if_pos (by omega), wrap_succ hi (by omega)]
      by_cases h1 : 0 ≤ rd xs (i : Int) <;> by_cases h2 : rd xs (i : Int) ≤ 9 <;> simp [h1, h2])
    (Evt.all fun k => by
      simp only [impl_allWithin.l0]
      rw [if_neg (by omega)]) xs.length 0 (by omega)
  refine h.eq ?_
  unfold inOk
  cases allD (fun j => decide (0 ≤ rd xs (j : Int)) && decide (rd xs (j : Int) ≤ 9)) 0 xs.length <;> simp
def textR (xs : List Int) : ByteArray × Int := if inOk xs = true then (if 60 < xs.length then (⟨#[]⟩, 3) else (txtOf xs, 0)) else (⟨#[]⟩, 2)
theorem spec_InputsText_ev (xs : List Int) (hn : xs.length ≤ 1000000) : Ev (fun k => spec_InputsText.f k xs) (textR xs) := by
  unfold spec_InputsText.f
  have h := Ev.allLoopQ (l := fun k i => spec_InputsText.l0 k xs i) (n := xs.length) (fun j => decide (0 ≤ rd xs (j : Int)) && decide (rd xs (j : Int) ≤ 9)) (⟨#[]⟩, 2) (if 60 < xs.length then (⟨#[]⟩, 3) else (txtOf xs, 0))
    (fun i hi hp => by
      refine ⟨fun hs r hr => Ev.dn (Ev.eq' hr (fun k => ?_)), fun hs => Ev.dn (Ev.eq' (f := fun _ => some (⟨#[]⟩, 2)) (Ev.now _) (fun k => ?_))⟩
      · simp only [Bool.and_eq_true, decide_eq_true_eq] at hs
        simp only [spec_InputsText.l0, spec_l01In.f, ge_iff_le]
        rw [if_pos (by omega), if_pos (by omega), if_pos hs.1, Option.bind_some, decide_eq_true hs.2, if_pos rfl, wrap_succ hi (by omega)]
      · simp only [spec_InputsText.l0, spec_l01In.f, ge_iff_le]
        rw [if_pos (by omega), if_pos (by omega)]
        by_cases h1 : 0 ≤ rd xs (i : Int)
        · have h2 : ¬ rd xs (i : Int) ≤ 9 := fun h2 => by simp [h1, h2] at hs
          rw [if_pos h1, Option.bind_some, decide_eq_false h2]; rfl
        · rw [if_neg h1, Option.bind_some]; rfl)
    (fun hp => by
      have ho : inOk xs = true := by
        rw [inOk_iff]
        intro j hj
        have := hp j hj
        simpa using this
      refine Ev.dn ?_
      simp only [spec_InputsText.l0]
      simp only [if_neg (show ¬ (xs.length : Int) < (xs.length : Int) by omega)]
      by_cases c : 60 < xs.length
      · simp only [if_pos c, if_pos (show (xs.length : Int) > 60 by omega)]
        exact Ev.now _
      · simp only [if_neg c, if_neg (show ¬ (xs.length : Int) > 60 by omega)]
        exact Ev.bind (spec_text xs hn ho) (Ev.now _)) xs.length 0 (by omega) (fun j hj => by omega)
  exact h
theorem impl_InputsText_ev (xs : List Int) (hn : xs.length ≤ 1000000) : Ev (fun k => impl_InputsText.f k xs) (textR xs) := by
  unfold impl_InputsText.f
  refine Ev.bind (allWithin_ev xs hn) ?_
  unfold textR
  cases ho : inOk xs with
  | false => simp only [Bool.false_eq_true, if_false]; exact Ev.now _
  | true =>
    simp only [if_true]
    by_cases c : 60 < xs.length
    · simp only [if_pos c, if_pos (show (xs.length : Int) > 60 by omega)]
      exact Ev.now _
    · simp only [if_neg c, if_neg (show ¬ (xs.length : Int) > 60 by omega)]
      by_cases c2 : xs.length = 0
      · simp only [if_pos (show (xs.length : Int) = 0 by omega), txtOf, if_pos c2]
        exact Ev.now _
      · simp only [if_neg (show ¬ (xs.length : Int) = 0 by omega), txtOf, if_neg c2]
        exact impl_text xs hn ho xs.length 0 (by omega)
theorem FnExactInputsText : ∀ (l0 : List Int), (l0.length ≤ reachBytes ∧ ∀ y ∈ l0, (Lit.int .i64 y).wf = true) → ∃ k, laws_FnExactInputsText.f k l0 = some true := by
  intro xs _
  apply Ev.rounds
  unfold laws_FnExactInputsText.f
  by_cases h : (xs.length : Int) > 1000000
  · simp only [if_pos h]; exact Ev.now _
  have hn : xs.length ≤ 1000000 := by omega
  simp only [if_neg h, Option.bind_some, toInt_some _ xs _ hn]
  have h1 := spec_InputsText_ev xs hn
  have h2 := impl_InputsText_ev xs hn
  refine Ev.bind h1 (Ev.bind h2 ?_)
  simp only [if_true, bne_self_eq_false]
  refine Ev.dn ?_
  simp only [laws_FnExactInputsText.j0, Bool.false_eq_true, if_false, Option.bind_some, toInt_some _ xs _ hn]
  refine Ev.bind (intactInt_refl xs hn) ?_
  simp only [if_true]
  refine Ev.bind h2 ?_
  simp only [if_true]
  exact Ev.now _
end Go.Proofs.Ytapcjchgcppanaa.Pure
