/- The law FnExactLoadBest as a statement over numbers and lists, proved; no condition but the sizes and ranges that every input has. -/
import Derived.Test.YtnfmfebmjlglgaaF23
import Derived.Test.YtnfmfebmjlglgaaEv
namespace Go.Proofs.Ytnfmfebmjlglgaa.Pure
open Go.RowKit Go.Proofs.Ytnfmfebmjlglgaa.Pall Go.Proofs.YtnfmfebmjlglgaaW.PrintWords
set_option linter.unusedSimpArgs false
set_option linter.unusedVariables false
def wdB (s : ByteArray) (j : Nat) : Bool := !decide (bt s (j : Int) < 97) && !decide (bt s (j : Int) > 122)
def isWd (s : ByteArray) : Bool := allD (wdB s) 0 s.size && (decide (1 ≤ s.size) && decide (s.size ≤ 16))
theorem spec_IsWord_ev (s : ByteArray) (hn : s.size ≤ 9223372036854775807) : Ev (fun k => spec_IsWord.f k s) (isWd s) := by
  have h := Ev.allLoop (l := fun k i => spec_IsWord.l0 k s i) (n := s.size) (wdB s) false (decide (1 ≤ s.size) && decide (s.size ≤ 16))
    (fun i hi => Evt.all fun k => by
      simp only [spec_IsWord.l0]
      rw [if_pos (by omega), if_pos (by omega), wrap_succ hi hn]
      by_cases h1 : bt s (i : Int) < 97 <;> by_cases h2 : bt s (i : Int) > 122 <;> simp [wdB, h1, h2])
    (Evt.all fun k => by
      simp only [spec_IsWord.l0, spec_l01In.f]
      rw [if_neg (by omega)]
      by_cases h1 : 1 ≤ s.size
      · have e2 : decide (s.size ≤ 16) = decide ((s.size : Int) ≤ 16) := decide_eq_decide.2 (by omega)
        rw [if_pos (by omega), Option.bind_some, e2, decide_eq_true h1, Bool.true_and]
      · rw [if_neg (by omega), Option.bind_some, decide_eq_false h1, Bool.false_and]) s.size 0 (by omega)
  refine h.eq ?_
  unfold isWd
  cases allD (wdB s) 0 s.size <;> simp
theorem impl_IsWord_ev (s : ByteArray) (hn : s.size ≤ 9223372036854775807) : Ev (fun k => impl_IsWord.f k s) (isWd s) := by
  have hb : Ev (fun k => impl_IsWord.j0 k s true) false := Ev.dn (by simp only [impl_IsWord.j0]; exact Ev.now _)
  unfold impl_IsWord.f isWd
  by_cases h1 : (s.size : Int) < 1
  · simp only [if_pos h1]
    refine hb.eq ?_
    rw [decide_eq_false (show ¬ 1 ≤ s.size by omega)]
    simp
  simp only [if_neg h1]
  rw [decide_eq_true (show 1 ≤ s.size by omega)]
  by_cases h2 : s.size ≤ 16
  · rw [decide_eq_false (show ¬ (s.size : Int) > 16 by omega), decide_eq_true h2]
    refine Ev.dn ?_
    simp only [impl_IsWord.j0, Bool.false_eq_true, if_false]
    have h := Ev.allLoop (l := fun k i => impl_IsWord.l0 k s i) (n := s.size) (wdB s) false true
      (fun i hi => Evt.all fun k => by
        simp only [impl_IsWord.l0]
        rw [if_pos (by omega), if_pos (by omega), wrap_succ hi hn]
        by_cases h1 : bt s (i : Int) < 97 <;> by_cases h2 : bt s (i : Int) > 122 <;> simp [wdB, h1, h2])
      (Evt.all fun k => by
        simp only [impl_IsWord.l0]
        rw [if_neg (by omega)]) s.size 0 (by omega)
    refine h.eq ?_
    cases allD (wdB s) 0 s.size <;> simp
  · rw [decide_eq_true (show (s.size : Int) > 16 by omega), decide_eq_false h2]
    refine hb.eq (by simp)
theorem eqStringS_refl (l : List ByteArray) (hn : l.length ≤ 9223372036854775807) : Ev (fun k => laws_eqStringS.f k l l) true := by
  unfold laws_eqStringS.f
  simp only [if_pos rfl]
  have h := Ev.allLoop (l := fun k i => laws_eqStringS.l0 k l l i) (n := l.length) (fun _ => true) false true
    (fun i hi => Evt.all fun k => by
      simp only [laws_eqStringS.l0]
      rw [if_pos (by omega), if_pos (by omega), if_pos (by omega), wrap_succ hi hn])
    (Evt.all fun k => by
      simp only [laws_eqStringS.l0]
      rw [if_neg (by omega)]) l.length 0 (by omega)
  refine h.eq ?_
  rw [if_pos ((allD_iff _ _ _).2 (fun _ _ _ => rfl))]
theorem intactStringS_refl (l : List ByteArray) (hn : l.length ≤ 1000000) : Ev (fun k => laws_intactStringS.f k l l) true := by
  unfold laws_intactStringS.f
  simp only [if_pos rfl]
  exact eqStringS_refl _ (full_le l hn)
theorem toStringS_some (k : Nat) (l : List ByteArray) (b : Bool) (hn : l.length ≤ 1000000) : laws_toStringS.f k l b = some l := by
  unfold laws_toStringS.f
  rw [if_pos hn]
theorem rdOf_size (l : List ByteArray) (hz : ∀ y ∈ l, y.size ≤ 9223372036854775807) (i : Nat) (hi : i < l.length) : (rdOf ByteArray.empty l (i : Int)).size ≤ 9223372036854775807 := by
  rw [rdOf_nat hi]
  exact hz _ (List.getElem_mem hi)
theorem szStringS_some (l : List ByteArray) (hl : l.length ≤ 9223372036854775807) (hz : ∀ y ∈ l, y.size ≤ 9223372036854775807) (a : Int) (ha : -9223372036854775808 ≤ a - (l.length : Int)) (ha2 : a ≤ 1000000) : ∃ r : Int, Ev (fun k => laws_szStringS.f k l a) r ∧ (¬ r < 0 → l.length ≤ 1000000 ∧ a - (l.length : Int) ≥ 0 ∧ r ≤ 1000000) := by
  unfold laws_szStringS.f
  rw [wrap_id ha (by omega)]
  by_cases h : a - (l.length : Int) < 0
  · simp only [if_pos h]
    exact ⟨-1, Ev.now _, fun h2 => absurd (show (-1 : Int) < 0 by decide) h2⟩
  simp only [if_neg h]
  have key : ∀ d i, i + d = l.length → ∀ x : Int, 0 ≤ x → x ≤ 1000000 → ∃ r : Int, r ≤ 1000000 ∧ Ev (fun k => laws_szStringS.l0 k l x (i : Int)) r := by
    intro d
    induction d with
    | zero =>
      intro i hi x h0 h1
      refine ⟨x, h1, Ev.dn ?_⟩
      simp only [laws_szStringS.l0, if_neg (show ¬ (i : Int) < (l.length : Int) by omega)]
      exact Ev.now _
    | succ d ih =>
      intro i hi x h0 h1
      have hr := rdOf_size l hz i (by omega)
      by_cases g : x - ((rdOf ByteArray.empty l (i : Int)).size : Int) < 0
      · refine ⟨-1, by omega, Ev.dn ?_⟩
        simp only [laws_szStringS.l0, if_pos (show (i : Int) < (l.length : Int) by omega), if_pos (show (0 : Int) ≤ (i : Int) by omega)]
        rw [wrap_id (by omega) (by omega)]
        simp only [if_pos g]
        exact Ev.now _
      · obtain ⟨r, hr1, hr2⟩ := ih (i + 1) (by omega) (x - ((rdOf ByteArray.empty l (i : Int)).size : Int)) (by omega) (by omega)
        refine ⟨r, hr1, Ev.dn ?_⟩
        simp only [laws_szStringS.l0, if_pos (show (i : Int) < (l.length : Int) by omega), if_pos (show (0 : Int) ≤ (i : Int) by omega)]
        rw [wrap_id (by omega) (by omega)]
        simp only [if_neg g, wrap_succ (show i < l.length by omega) hl]
        exact hr2
  obtain ⟨r, hr1, hr2⟩ := key l.length 0 (by omega) (a - (l.length : Int)) (by omega) (by omega)
  exact ⟨r, hr2, fun _ => ⟨by omega, by omega, hr1⟩⟩
def rin (x a b : Int) : Bool := decide (a ≤ x) && decide (x ≤ b)
theorem l01In_eq (x a b : Int) : spec_l01In.f x a b = some (rin x a b) := by
  unfold spec_l01In.f rin
  by_cases h : a ≤ x
  · rw [if_pos h, decide_eq_true h, Bool.true_and]
  · rw [if_neg h, decide_eq_false h, Bool.false_and]
theorem within_eq (x a b : Int) : impl_within.f x a b = some (rin x a b) := by
  unfold impl_within.f rin
  by_cases h : a ≤ x
  · rw [if_pos h, decide_eq_true h, Bool.true_and]
  · rw [if_neg h, decide_eq_false h, Bool.false_and]
theorem rin_iff {x a b : Int} : rin x a b = true ↔ a ≤ x ∧ x ≤ b := by simp [rin]
def allIn (l : List Int) (a b : Int) : Bool := allD (fun j => rin (rd l (j : Int)) a b) 0 l.length
theorem allIn_iff (l : List Int) (a b : Int) : allIn l a b = true ↔ ∀ j : Nat, j < l.length → a ≤ rd l (j : Int) ∧ rd l (j : Int) ≤ b := by
  unfold allIn
  rw [allD_iff]
  simp only [rin_iff]
  exact ⟨fun h j hj => h j (Nat.zero_le _) (by omega), fun h j _ hj => h j (by omega)⟩
theorem allWithin_ev (l : List Int) (a b : Int) (hn : l.length ≤ 9223372036854775807) : Ev (fun k => impl_allWithin.f k l a b) (allIn l a b) := by
  unfold impl_allWithin.f
  have h := Ev.allLoop (l := fun k i => impl_allWithin.l0 k a b l (l.length : Int) i) (n := l.length) (fun j => rin (rd l (j : Int)) a b) false true
    (fun i hi => Evt.all fun k => by
      simp only [impl_allWithin.l0, within_eq, Option.bind_some]
      rw [if_pos (by omega), if_pos (by omega), if_pos (by omega), wrap_succ hi hn])
    (Evt.all fun k => by
      simp only [impl_allWithin.l0]
      rw [if_neg (by omega)]) l.length 0 (by omega)
  refine h.eq ?_
  unfold allIn
  cases allD (fun j => rin (rd l (j : Int)) a b) 0 l.length <;> simp
def szv (n : Nat) (a : Int) : Int := if a < (n : Int) then -1 else a - (n : Int)
theorem sz_eq {n : Nat} {a : Int} (hn : n ≤ 4611686018427387904) (h0 : 0 ≤ a) (h1 : a ≤ 1000000) : (if (wrap64 (a - (n : Int))) < 0 then (some (-1)) else (some (wrap64 (a - (n : Int))))) = some (szv n a) := by
  rw [wrap_id (by omega) (by omega)]
  unfold szv
  by_cases h : a < (n : Int)
  · rw [if_pos (by omega), if_pos h]
  · rw [if_neg (by omega), if_neg h]
theorem szv_ok {n : Nat} {a : Int} (h0 : 0 ≤ a) (h1 : a ≤ 1000000) (h : ¬ szv n a < 0) : n ≤ 1000000 ∧ 0 ≤ szv n a ∧ szv n a ≤ 1000000 := by
  unfold szv at *
  split at h
  · exact absurd (show (-1 : Int) < 0 by decide) h
  · rename_i h2
    rw [if_neg h2]
    omega
theorem markInt_loop (n : Nat) (hn : n ≤ 1000000) : ∀ d i (xs : List Int), i + d = n → xs.length = n → (∀ j, j < i → rd xs (j : Int) = 101 + (j : Int)) →
    ∃ L : List Int, L.length = n ∧ (∀ j, j < n → rd L (j : Int) = 101 + (j : Int)) ∧ Ev (fun k => laws_markInt64S.l0 k xs (101 + (i : Int)) (i : Int)) (101 + (n : Int), L) := by
  intro d
  induction d with
  | zero =>
    intro i xs hi hx hj
    obtain rfl : i = n := by omega
    refine ⟨xs, hx, hj, Ev.dn ?_⟩
    simp only [laws_markInt64S.l0]
    simp only [if_neg (show ¬ (i : Int) < (xs.length : Int) by omega)]
    exact Ev.now _
  | succ d ih =>
    intro i xs hi hx hj
    obtain ⟨L, h1, h2, h3⟩ := ih (i + 1) (xs.set i (101 + (i : Int))) (by omega) (by simpa using hx) (fun j hj2 => by
      have hjl : j < (xs.set i (101 + (i : Int))).length := by rw [List.length_set]; omega
      rw [rd_nat hjl, List.getElem_set]
      by_cases e : i = j
      · rw [if_pos e, e]
      · rw [if_neg e]
        have := hj j (by omega)
        rwa [rd_nat (by omega)] at this)
    refine ⟨L, h1, h2, Ev.dn ?_⟩
    refine Ev.eq' h3 (fun k => ?_)
    simp only [laws_markInt64S.l0]
    rw [if_pos (show (i : Int) < (xs.length : Int) by omega), if_pos (show (0 : Int) ≤ (i : Int) by omega), wrap_succ (show i < n by omega) (by omega), wrap_id (by omega) (by omega), Int.toNat_natCast]
    congr 1
theorem markInt_ev (xs : List Int) (hn : xs.length ≤ 1000000) : ∃ L : List Int, L.length = xs.length ∧ (∀ j, j < L.length → rd L (j : Int) = 101 + (j : Int)) ∧ Ev (fun k => laws_markInt64S.f k xs 101) (101 + (xs.length : Int), L) := by
  obtain ⟨L, h1, h2, h3⟩ := markInt_loop xs.length hn xs.length 0 xs (by omega) rfl (fun j hj => by omega)
  exact ⟨L, h1, fun j hj => h2 j (by omega), h3⟩
theorem heldInt_ev (L : List Int) (hn : L.length ≤ 1000000) (h : ∀ j, j < L.length → rd L (j : Int) = 101 + (j : Int)) : Ev (fun k => laws_heldInt64S.f k L 101) (101 + (L.length : Int)) := by
  have key : ∀ d i, i + d = L.length → Ev (fun k => laws_heldInt64S.l0 k L (101 + (i : Int)) (i : Int)) (101 + (L.length : Int)) := by
    intro d
    induction d with
    | zero =>
      intro i hi
      obtain rfl : i = L.length := by omega
      refine Ev.dn ?_
      simp only [laws_heldInt64S.l0]
      simp only [if_neg (show ¬ (L.length : Int) < (L.length : Int) by omega)]
      exact Ev.now _
    | succ d ih =>
      intro i hi
      refine Ev.dn ?_
      refine Ev.eq' (ih (i + 1) (by omega)) (fun k => ?_)
      simp only [laws_heldInt64S.l0]
      rw [if_pos (show (i : Int) < (L.length : Int) by omega), if_pos (show (0 : Int) ≤ (i : Int) by omega), if_pos (h i (by omega)), wrap_succ (show i < L.length by omega) (by omega), wrap_id (by omega) (by omega)]
      (try congr 1)
  exact key L.length 0 (by omega)
theorem eqInt_refl (l : List Int) (hn : l.length ≤ 9223372036854775807) : Ev (fun k => laws_eqInt64S.f k l l) true := by
  unfold laws_eqInt64S.f
  simp only [if_pos rfl]
  have h := Ev.allLoop (l := fun k i => laws_eqInt64S.l0 k l l i) (n := l.length) (fun _ => true) false true
    (fun i hi => Evt.all fun k => by
      simp only [laws_eqInt64S.l0]
      rw [if_pos (by omega), if_pos (by omega), if_pos (by omega), wrap_succ hi hn]
      (try simp))
    (Evt.all fun k => by
      simp only [laws_eqInt64S.l0]
      rw [if_neg (by omega)]) l.length 0 (by omega)
  refine h.eq ?_
  rw [if_pos ((allD_iff _ _ _).2 (fun _ _ _ => rfl))]
theorem eqArticleS_refl (l : List S67) (hn : l.length ≤ 9223372036854775807) : Ev (fun k => laws_eqArticleS.f k l l) true := by
  unfold laws_eqArticleS.f
  simp only [if_pos rfl]
  have h := Ev.allLoop (l := fun k i => laws_eqArticleS.l0 k l l i) (n := l.length) (fun _ => true) false true
    (fun i hi => Evt.all fun k => by
      simp only [laws_eqArticleS.l0, laws_eqArticle.f]
      rw [if_pos (by omega), if_pos (by omega), if_pos (by omega), wrap_succ hi hn]
      (try simp))
    (Evt.all fun k => by
      simp only [laws_eqArticleS.l0]
      rw [if_neg (by omega)]) l.length 0 (by omega)
  refine h.eq ?_
  rw [if_pos ((allD_iff _ _ _).2 (fun _ _ _ => rfl))]
theorem intactArticleS_refl (l : List S67) (hn : l.length ≤ 1000000) : Ev (fun k => laws_intactArticleS.f k l l) true := by
  unfold laws_intactArticleS.f
  simp only [if_pos rfl]
  exact eqArticleS_refl _ (full_le l hn)
theorem toArticleS_some (k : Nat) (l : List S82) (b : Bool) (hn : l.length ≤ 1000000) : laws_toArticleS.f k l b = some (l.map laws_toArticleS.conv) := by
  unfold laws_toArticleS.f
  rw [if_pos hn]
theorem markText_loop : ∀ n (m : Nat) (s : ByteArray), m < 10 ^ n → n ≤ 18 → s.size + n + 1 ≤ 9223372036854775807 → ∃ r, Ev (fun k => laws_markText.l0 k (m : Int) s) r := by
  intro n
  induction n with
  | zero =>
    intro m s hm _ hs
    obtain rfl : m = 0 := by omega
    refine ⟨(⟨#[109]⟩ : ByteArray) ++ s, Ev.dn ?_⟩
    simp only [laws_markText.l0, if_neg (show ¬ ((0 : Nat) : Int) > 0 by decide), if_pos (show 1 + s.size ≤ 9223372036854775807 by omega)]
    exact Ev.now _
  | succ n ih =>
    intro m s hm hn hs
    by_cases h0 : m = 0
    · subst h0
      refine ⟨(⟨#[109]⟩ : ByteArray) ++ s, Ev.dn ?_⟩
      simp only [laws_markText.l0, if_neg (show ¬ ((0 : Nat) : Int) > 0 by decide), if_pos (show 1 + s.size ≤ 9223372036854775807 by omega)]
      exact Ev.now _
    · have hd : Int.tdiv (m : Int) 10 = ((m / 10 : Nat) : Int) := (Int.ofNat_tdiv m 10).symm
      have hp : 10 ^ (n + 1) ≤ 10 ^ 18 := Nat.pow_le_pow_right (by decide) hn
      have hlt : m / 10 < 10 ^ n := by rw [Nat.pow_succ] at hm; omega
      obtain ⟨y, hy⟩ : ∃ y, y = [(wrap64 (48 + (Int.tmod (m : Int) 10))) % 256] := ⟨_, rfl⟩
      have hsz : (strOfNums y).size = 1 := by rw [hy]; rfl
      obtain ⟨r, hr⟩ := ih (m / 10) (strOfNums y ++ s) hlt (by omega) (by rw [ByteArray.size_append, hsz]; omega)
      refine ⟨r, Ev.dn ?_⟩
      refine Ev.eq' hr (fun k => ?_)
      simp only [laws_markText.l0]
      rw [if_pos (show (m : Int) > 0 by omega), Option.bind_some, ← hy, hsz, if_pos (show 1 + s.size ≤ 9223372036854775807 by omega), hd, wrap_id (by omega) (by omega)]
theorem markText_ev (a : Int) (h1 : 1 ≤ a) (h2 : a ≤ 100000000) : ∃ r, Ev (fun k => laws_markText.f k a) r := by
  obtain ⟨m, rfl⟩ : ∃ m : Nat, a = (m : Int) := ⟨a.toNat, by omega⟩
  obtain ⟨r, hr⟩ := markText_loop 18 m (⟨#[]⟩ : ByteArray) (by omega) (by omega) (by decide)
  refine ⟨r, ?_⟩
  unfold laws_markText.f
  simp only [if_neg (show ¬ (m : Int) ≤ 0 by omega)]
  exact hr
theorem marks : ∃ txt : Int → ByteArray, ∀ a, 1 ≤ a → a ≤ 100000000 → Ev (fun k => laws_markText.f k a) (txt a) := by
  obtain ⟨f, hf⟩ := Classical.axiomOfChoice (r := fun (a : Int) (s : ByteArray) => 1 ≤ a → a ≤ 100000000 → Ev (fun k => laws_markText.f k a) s) (fun a => by
    by_cases h : 1 ≤ a ∧ a ≤ 100000000
    · obtain ⟨r, hr⟩ := markText_ev a h.1 h.2
      exact ⟨r, fun _ _ => hr⟩
    · exact ⟨ByteArray.empty, fun h1 h2 => absurd ⟨h1, h2⟩ h⟩)
  exact ⟨f, hf⟩
theorem rd_T67_nat {l : List S67} {i : Nat} (h : i < l.length) : rd_T67 l (i : Int) = l[i] := by simp [rd_T67, h]
def artB (x : S67) : Bool := isWd x.f0 && rin x.f1 0 3 && rin x.f2 20 300 && rin x.f3 0 10000 && rin x.f4 0 x.f3 && rin x.f5 1 50 && rin x.f6 0 10000 && rin x.f7 1 100000 && rin x.f8 0 3
theorem spec_IsArticle_ev (x : S67) (h : x.f0.size ≤ 9223372036854775807) : Ev (fun k => spec_IsArticle.f k x.f0 x.f1 x.f2 x.f3 x.f4 x.f5 x.f6 x.f7 x.f8) (artB x) := by
  unfold spec_IsArticle.f artB
  refine Ev.bind (spec_IsWord_ev x.f0 h) ?_
  simp only [l01In_eq, Option.bind_some]
  cases isWd x.f0 <;> cases rin x.f1 0 3 <;> cases rin x.f2 20 300 <;> cases rin x.f3 0 10000 <;> cases rin x.f4 0 x.f3 <;> cases rin x.f5 1 50 <;> cases rin x.f6 0 10000 <;> cases rin x.f7 1 100000 <;> exact Ev.now _
theorem impl_IsArticle_ev (x : S67) (h : x.f0.size ≤ 9223372036854775807) : Ev (fun k => impl_IsArticle.f k x.f0 x.f1 x.f2 x.f3 x.f4 x.f5 x.f6 x.f7 x.f8) (artB x) := by
  unfold impl_IsArticle.f artB
  refine Ev.bind (impl_IsWord_ev x.f0 h) ?_
  simp only [within_eq, Option.bind_some]
  cases isWd x.f0 <;> cases rin x.f1 0 3 <;> cases rin x.f2 20 300 <;> cases rin x.f3 0 10000 <;> cases rin x.f4 0 x.f3 <;> cases rin x.f5 1 50 <;> cases rin x.f6 0 10000 <;> cases rin x.f7 1 100000 <;> exact Ev.now _
def artI (l : List S67) (j : Nat) : Bool := artB (rd_T67 l (j : Int)) && (decide (j = 0) || Op.bytesLess (rd_T67 l ((j - 1 : Nat) : Int)).f0.toList (rd_T67 l (j : Int)).f0.toList)
def areArt (l : List S67) : Bool := allD (artI l) 0 l.length && decide (l.length ≤ 12)
def szOkA (l : List S67) : Prop := ∀ j : Nat, j < l.length → (rd_T67 l (j : Int)).f0.size ≤ 9223372036854775807
theorem spec_AreArticles_ev (l : List S67) (hn : l.length ≤ 1000000) (hz : szOkA l) : Ev (fun k => spec_AreArticles.f k l) (areArt l) := by
  have h := Ev.allLoop (l := fun k i => spec_AreArticles.l0 k l i) (n := l.length) (artI l) false (decide (l.length ≤ 12))
    (fun i hi => (spec_IsArticle_ev _ (hz i hi)).evt fun k hk => by
      simp only [spec_AreArticles.l0]
      rw [if_pos (by omega), if_pos (by omega), hk, Option.bind_some, wrap_succ hi (by omega)]
      unfold artI
      by_cases h0 : i = 0
      · rw [if_neg (show ¬ (i : Int) > 0 by omega), decide_eq_true h0, Bool.true_or, Bool.and_true]
      · rw [if_pos (show (i : Int) > 0 by omega), wrap_pred hi (by omega) (by omega), if_pos (show (0 : Int) ≤ ((i - 1 : Nat) : Int) by omega), if_pos (show ((i - 1 : Nat) : Int) < (l.length : Int) by omega), decide_eq_false h0, Bool.false_or]
        cases artB (rd_T67 l (i : Int)) <;> simp)
    (Evt.all fun k => by
      simp only [spec_AreArticles.l0]
      rw [if_neg (by omega)]
      congr 1
      exact decide_eq_decide.2 (by omega)) l.length 0 (by omega)
  refine h.eq ?_
  unfold areArt
  cases allD (artI l) 0 l.length <;> simp
theorem impl_AreArticles_ev (l : List S67) (hn : l.length ≤ 1000000) (hz : szOkA l) : Ev (fun k => impl_AreArticles.f k l) (areArt l) := by
  unfold impl_AreArticles.f
  by_cases hl : (l.length : Int) > 12
  · simp only [if_pos hl]
    refine (Ev.now false).eq ?_
    unfold areArt
    rw [decide_eq_false (by omega), Bool.and_false]
  simp only [if_neg hl]
  have h := Ev.allLoop (l := fun k i => impl_AreArticles.l0 k l l (l.length : Int) i) (n := l.length) (artI l) false true
    (fun i hi => (impl_IsArticle_ev _ (hz i hi)).evt fun k hk => by
      simp only [impl_AreArticles.l0]
      rw [if_pos (by omega), if_pos (by omega), if_pos (by omega), hk, Option.bind_some, wrap_succ hi (by omega)]
      unfold artI
      by_cases h0 : i = 0
      · rw [if_neg (show ¬ (i : Int) > 0 by omega), decide_eq_true h0, Bool.true_or, Bool.and_true]
      · rw [if_pos (show (i : Int) > 0 by omega), wrap_pred hi (by omega) (by omega), if_pos (show (0 : Int) ≤ ((i - 1 : Nat) : Int) by omega), if_pos (show ((i - 1 : Nat) : Int) < (l.length : Int) by omega), decide_eq_false h0, Bool.false_or]
        cases artB (rd_T67 l (i : Int)) <;> simp)
    (Evt.all fun k => by
      simp only [impl_AreArticles.l0]
      rw [if_neg (by omega)]) l.length 0 (by omega)
  refine h.eq ?_
  unfold areArt
  rw [decide_eq_true (by omega : l.length ≤ 12), Bool.and_true]
  cases allD (artI l) 0 l.length <;> simp
/-- The first article with a code, from index i on, or -1. -/
def fndD (l : List S67) (w : ByteArray) : Nat → Nat → Int
  | 0, _ => -1
  | d + 1, i => if (rd_T67 l (i : Int)).f0.toList = w.toList then (i : Int) else fndD l w d (i + 1)
def fnd (l : List S67) (w : ByteArray) : Int := fndD l w l.length 0
theorem fndD_ok (l : List S67) (w : ByteArray) : ∀ d i, i + d = l.length → fndD l w d i = -1 ∨ ∃ j : Nat, i ≤ j ∧ j < l.length ∧ fndD l w d i = (j : Int) ∧ (rd_T67 l (j : Int)).f0.toList = w.toList
  | 0, i, _ => Or.inl rfl
  | d + 1, i, h => by
    simp only [fndD]
    by_cases c : (rd_T67 l (i : Int)).f0.toList = w.toList
    · rw [if_pos c]
      exact Or.inr ⟨i, Nat.le_refl _, by omega, rfl, c⟩
    · rw [if_neg c]
      rcases fndD_ok l w d (i + 1) (by omega) with h1 | ⟨j, h1, h2, h3, h4⟩
      · exact Or.inl h1
      · exact Or.inr ⟨j, by omega, h2, h3, h4⟩
theorem fnd_ok (l : List S67) (w : ByteArray) : fnd l w = -1 ∨ ∃ j : Nat, j < l.length ∧ fnd l w = (j : Int) ∧ (rd_T67 l (j : Int)).f0.toList = w.toList := by
  rcases fndD_ok l w l.length 0 (by omega) with h | ⟨j, _, h2, h3, h4⟩
  · exact Or.inl h
  · exact Or.inr ⟨j, h2, h3, h4⟩
theorem spec_find_ev (l : List S67) (w : ByteArray) (hn : l.length ≤ 1000000) : Ev (fun k => spec_l03Find.f k l w) (fnd l w) := by
  have key : ∀ d i, i + d = l.length → Ev (fun k => spec_l03Find.l0 k l w (i : Int)) (fndD l w d i) := by
    intro d
    induction d with
    | zero =>
      intro i hi
      obtain rfl : i = l.length := by omega
      refine Ev.dn ?_
      simp only [spec_l03Find.l0, if_neg (show ¬ (l.length : Int) < (l.length : Int) by omega)]
      exact Ev.now _
    | succ d ih =>
      intro i hi
      refine Ev.dn ?_
      simp only [spec_l03Find.l0, if_pos (show (i : Int) < (l.length : Int) by omega), if_pos (show (0 : Int) ≤ (i : Int) by omega), wrap_succ (show i < l.length by omega) (show l.length ≤ 9223372036854775807 by omega), fndD]
      by_cases c : (rd_T67 l (i : Int)).f0.toList = w.toList
      · simp only [if_pos c]; exact Ev.now _
      · simp only [if_neg c]; exact ih (i + 1) (by omega)
  exact key l.length 0 (by omega)
theorem impl_find_ev (l : List S67) (w : ByteArray) (hn : l.length ≤ 1000000) : Ev (fun k => impl_articleOf.f k l w) (fnd l w) := by
  have key : ∀ d i, i + d = l.length → Ev (fun k => impl_articleOf.l0 k w l (l.length : Int) (i : Int)) (fndD l w d i) := by
    intro d
    induction d with
    | zero =>
      intro i hi
      obtain rfl : i = l.length := by omega
      refine Ev.dn ?_
      simp only [impl_articleOf.l0, if_neg (show ¬ (l.length : Int) < (l.length : Int) by omega)]
      exact Ev.now _
    | succ d ih =>
      intro i hi
      refine Ev.dn ?_
      simp only [impl_articleOf.l0, if_pos (show (i : Int) < (l.length : Int) by omega), if_pos (show (0 : Int) ≤ (i : Int) by omega), wrap_succ (show i < l.length by omega) (show l.length ≤ 9223372036854775807 by omega), fndD]
      by_cases c : (rd_T67 l (i : Int)).f0.toList = w.toList
      · simp only [if_pos c]; exact Ev.now _
      · simp only [if_neg c]; exact ih (i + 1) (by omega)
  exact key l.length 0 (by omega)
def fitB (x : S67) (t : Int) : Bool := decide (x.f2 ≤ t) && decide ((wrap64 (10 * x.f2)) > (wrap64 (9 * t)))
theorem spec_fits_eq (x : S67) (t : Int) : spec_l17Fits.f x.f0 x.f1 x.f2 x.f3 x.f4 x.f5 x.f6 x.f7 x.f8 t = some (fitB x t) := by
  unfold spec_l17Fits.f fitB
  by_cases h : x.f2 ≤ t
  · rw [if_pos h, decide_eq_true h, Bool.true_and]
  · rw [if_neg h, decide_eq_false h, Bool.false_and]
theorem impl_fits_eq (x : S67) (t : Int) : impl_fits.f x.f0 x.f1 x.f2 x.f3 x.f4 x.f5 x.f6 x.f7 x.f8 t = some (fitB x t) := by
  unfold impl_fits.f fitB
  by_cases h : x.f2 ≤ t
  · rw [if_pos h, decide_eq_true h, Bool.true_and]
  · rw [if_neg h, decide_eq_false h, Bool.false_and]
def rkI (l : List S67) (T : List Int) (L : List ByteArray) (j : Nat) : Bool :=
  decide ((rdOf ByteArray.empty L (j : Int)).toList = []) || (!decide (fnd l (rdOf ByteArray.empty L (j : Int)) < 0) && fitB (rd_T67 l (fnd l (rdOf ByteArray.empty L (j : Int)))) (rd T (j : Int)))
def rackOk (l : List S67) (x y : Int) (T : List Int) (L : List ByteArray) : Bool :=
  areArt l && rin x 0 100000 && rin y 0 100000 && rin (T.length : Int) 1 12 && decide (L.length = T.length) && allIn T 20 300 && allD (rkI l T L) 0 T.length
theorem fnd_in (l : List S67) (w : ByteArray) (h : ¬ fnd l w < 0) : 0 ≤ fnd l w ∧ fnd l w < (l.length : Int) := by
  rcases fnd_ok l w with h1 | ⟨j, h1, h2, _⟩
  · rw [h1] at h; exact absurd (by decide) h
  · rw [h2]; omega
theorem spec_rackLoop (l : List S67) (x y : Int) (T : List Int) (L : List ByteArray) (hn : l.length ≤ 1000000) (hT : T.length ≤ 1000000) (hL : L.length = T.length) :
    Ev (fun k => spec_IsRack.l0 k l 0 x y T L) (allIn T 20 300 && allD (rkI l T L) 0 T.length) := by
  have h := Ev.allLoop (l := fun k i => spec_IsRack.l0 k l i x y T L) (n := T.length) (fun j => rin (rd T (j : Int)) 20 300 && rkI l T L j) false true
    (fun i hi => (spec_find_ev l (rdOf ByteArray.empty L (i : Int)) hn).evt fun k hk => by
      simp only [spec_IsRack.l0, l01In_eq, spec_fits_eq, Option.bind_some]
      rw [if_pos (by omega), if_pos (by omega), if_pos (by omega), hk, Option.bind_some, wrap_succ hi (by omega)]
      unfold rkI
      cases rin (rd T (i : Int)) 20 300 with
      | false => simp
      | true =>
        simp only [if_true, Bool.true_and]
        by_cases c : (rdOf ByteArray.empty L (i : Int)).toList = []
        · rw [if_pos c, decide_eq_true c, Bool.true_or, if_pos rfl]
        · rw [if_neg c, decide_eq_false c, Bool.false_or]
          by_cases c2 : fnd l (rdOf ByteArray.empty L (i : Int)) < 0
          · rw [if_pos c2, decide_eq_true c2]; simp
          · obtain ⟨g1, g2⟩ := fnd_in l _ c2
            rw [if_neg c2, if_pos g1, if_pos g2, decide_eq_false c2]
            cases fitB (rd_T67 l (fnd l (rdOf ByteArray.empty L (i : Int)))) (rd T (i : Int)) <;> simp)
    (Evt.all fun k => by
      simp only [spec_IsRack.l0]
      rw [if_neg (by omega)]) T.length 0 (by omega)
  refine h.eq ?_
  have e : allD (fun j => rin (rd T (j : Int)) 20 300 && rkI l T L j) 0 T.length = (allIn T 20 300 && allD (rkI l T L) 0 T.length) := by
    rw [Bool.eq_iff_iff, Bool.and_eq_true, allIn_iff, allD_iff, allD_iff]
    simp only [Bool.and_eq_true, rin_iff]
    exact ⟨fun h => ⟨fun j hj => (h j (by omega) (by omega)).1, fun j h1 h2 => (h j h1 h2).2⟩, fun h j h1 h2 => ⟨h.1 j (by omega), h.2 j h1 h2⟩⟩
  rw [e]
  cases allIn T 20 300 && allD (rkI l T L) 0 T.length <;> simp
theorem spec_IsRack_ev (l : List S67) (x y : Int) (T : List Int) (L : List ByteArray) (hn : l.length ≤ 1000000) (hz : szOkA l) (hT : T.length ≤ 1000000) :
    Ev (fun k => spec_IsRack.f k l x y T L) (rackOk l x y T L) := by
  have hb : Ev (fun k => spec_IsRack.j0 k l true x y T L) false := Ev.dn (by simp only [spec_IsRack.j0, if_true]; exact Ev.now _)
  unfold spec_IsRack.f rackOk spec_l15Place.f
  refine Ev.bind (spec_AreArticles_ev l hn hz) ?_
  simp only [l01In_eq, Option.bind_some]
  cases areArt l with
  | false => simp only [Bool.false_eq_true, if_false, Bool.false_and]; exact hb
  | true =>
  simp only [if_true, Bool.true_and]
  cases rin x 0 100000 with
  | false => simp only [Bool.false_eq_true, if_false, Bool.false_and, Option.bind_some]; exact hb
  | true =>
  simp only [if_true, Bool.true_and, Option.bind_some]
  cases rin y 0 100000 with
  | false => simp only [Bool.false_eq_true, if_false, Bool.false_and]; exact hb
  | true =>
  simp only [if_true, Bool.true_and]
  cases rin (T.length : Int) 1 12 with
  | false => simp only [Bool.false_eq_true, if_false, Bool.false_and]; exact hb
  | true =>
  simp only [if_true, Bool.true_and]
  by_cases c : L.length = T.length
  · rw [show (((L.length : Int) != (T.length : Int)) : Bool) = false from by rw [c]; simp, decide_eq_true c, Bool.true_and]
    refine Ev.dn ?_
    simp only [spec_IsRack.j0, Bool.false_eq_true, if_false]
    exact spec_rackLoop l x y T L hn hT c
  · have c' : ((L.length : Int) != (T.length : Int)) = true := by
      rw [bne_iff_ne]
      omega
    rw [c', decide_eq_false c, Bool.false_and, Bool.false_and]
    exact hb
theorem impl_rackLoop (l : List S67) (x y : Int) (T : List Int) (L : List ByteArray) (hn : l.length ≤ 1000000) (hT : T.length ≤ 1000000) (hL : L.length = T.length) :
    Ev (fun k => impl_IsRack.l0 k l L (L.length : Int) 0 x y T L) (allD (rkI l T L) 0 T.length) := by
  have h := Ev.allLoop (l := fun k i => impl_IsRack.l0 k l L (L.length : Int) i x y T L) (n := T.length) (rkI l T L) false true
    (fun i hi => (impl_find_ev l (rdOf ByteArray.empty L (i : Int)) hn).evt fun k hk => by
      simp only [impl_IsRack.l0, impl_fits_eq, Option.bind_some]
      rw [if_pos (by omega), if_pos (by omega), if_pos (by omega), hk, Option.bind_some, wrap_succ hi (by omega)]
      unfold rkI
      by_cases c : (rdOf ByteArray.empty L (i : Int)).toList = []
      · rw [if_pos c, decide_eq_true c, Bool.true_or, if_pos rfl]
      · rw [if_neg c, decide_eq_false c, Bool.false_or]
        by_cases c2 : fnd l (rdOf ByteArray.empty L (i : Int)) < 0
        · rw [if_pos c2, decide_eq_true c2]; simp
        · obtain ⟨g1, g2⟩ := fnd_in l _ c2
          rw [if_neg c2, if_pos g1, if_pos g2, if_pos (by omega), decide_eq_false c2]
          cases fitB (rd_T67 l (fnd l (rdOf ByteArray.empty L (i : Int)))) (rd T (i : Int)) <;> simp)
    (Evt.all fun k => by
      simp only [impl_IsRack.l0]
      rw [if_neg (by omega)]) T.length 0 (by omega)
  refine h.eq ?_
  cases allD (rkI l T L) 0 T.length <;> simp
theorem impl_IsRack_ev (l : List S67) (x y : Int) (T : List Int) (L : List ByteArray) (hn : l.length ≤ 1000000) (hz : szOkA l) (hT : T.length ≤ 1000000) :
    Ev (fun k => impl_IsRack.f k l x y T L) (rackOk l x y T L) := by
  have hb : Ev (fun k => impl_IsRack.j0 k l true x y T L) false := Ev.dn (by simp only [impl_IsRack.j0, if_true]; exact Ev.now _)
  unfold impl_IsRack.f rackOk impl_isPlace.f
  refine Ev.bind (impl_AreArticles_ev l hn hz) ?_
  simp only [within_eq, Option.bind_some]
  cases areArt l with
  | false => simp only [Bool.false_eq_true, if_false, Bool.false_and]; exact hb
  | true =>
  simp only [if_true, Bool.true_and]
  cases rin x 0 100000 with
  | false => simp only [Bool.false_eq_true, if_false, Bool.false_and, Option.bind_some]; exact hb
  | true =>
  simp only [if_true, Bool.true_and, Option.bind_some]
  cases rin y 0 100000 with
  | false => simp only [Bool.false_eq_true, if_false, Bool.false_and]; exact hb
  | true =>
  simp only [if_true, Bool.true_and]
  by_cases d1 : (T.length : Int) < 1
  · have e : rin (T.length : Int) 1 12 = false := by
      unfold rin
      rw [decide_eq_false (by omega), Bool.false_and]
    simp only [if_pos d1, e, Bool.false_and]; exact hb
  simp only [if_neg d1]
  by_cases d2 : (T.length : Int) > 12
  · have e : rin (T.length : Int) 1 12 = false := by
      unfold rin
      rw [decide_eq_false (show ¬ (T.length : Int) ≤ 12 by omega), Bool.and_false]
    simp only [if_pos d2, e, Bool.false_and]; exact hb
  have e : rin (T.length : Int) 1 12 = true := rin_iff.2 (by omega)
  simp only [if_neg d2, e, Bool.true_and]
  by_cases c : L.length = T.length
  · simp only [if_pos (show (L.length : Int) = (T.length : Int) by omega), decide_eq_true c, Bool.true_and]
    refine Ev.bind (allWithin_ev T 20 300 (by omega)) ?_
    cases allIn T 20 300 with
    | false => simp only [Bool.not_false, Bool.false_and]; exact hb
    | true =>
      simp only [Bool.not_true, Bool.true_and]
      refine Ev.dn ?_
      simp only [impl_IsRack.j0, Bool.false_eq_true, if_false]
      exact impl_rackLoop l x y T L hn hT c
  · simp only [if_neg (show ¬ (L.length : Int) = (T.length : Int) by omega), decide_eq_false c, Bool.false_and]
    exact hb
theorem rackOk_len {l : List S67} {x y : Int} {T : List Int} {L : List ByteArray} (h : rackOk l x y T L = true) : areArt l = true ∧ L.length = T.length ∧ 1 ≤ T.length ∧ T.length ≤ 12 ∧ l.length ≤ 12 ∧ (∀ j, j < T.length → rkI l T L j = true) := by
  unfold rackOk areArt at *
  simp only [Bool.and_eq_true, decide_eq_true_eq, rin_iff] at h
  obtain ⟨⟨⟨⟨⟨⟨h1, _⟩, _⟩, h2⟩, h3⟩, _⟩, h4⟩ := h
  rw [allD_iff] at h4
  exact ⟨by simp [h1], h3, by omega, by omega, h1.2, fun j hj => h4 j (by omega) (by omega)⟩
/-- The code of articles, a rack and a tube. -/
def cdR (l : List S67) (x y : Int) (T : List Int) (L : List ByteArray) (a : Int) : Int := if rackOk l x y T L = true then (if rin a 0 ((T.length : Int) - 1) = true then 0 else 2) else 1
theorem spec_code_ev (l : List S67) (x y : Int) (T : List Int) (L : List ByteArray) (a : Int) (hn : l.length ≤ 1000000) (hz : szOkA l) (hT : T.length ≤ 1000000) :
    Ev (fun k => spec_l17Code.f k l x y T L a) (cdR l x y T L a) := by
  unfold spec_l17Code.f cdR
  refine Ev.bind (spec_IsRack_ev l x y T L hn hz hT) ?_
  simp only [l01In_eq, Option.bind_some, wrap_id (x := (T.length : Int) - 1) (by omega) (by omega)]
  cases rackOk l x y T L with
  | false => simp only [Bool.false_eq_true, if_false]; exact Ev.now _
  | true =>
    simp only [if_true]
    cases rin a 0 ((T.length : Int) - 1) <;> exact Ev.now _
theorem cdR_0 {l : List S67} {x y : Int} {T : List Int} {L : List ByteArray} (h : rackOk l x y T L = true) : cdR l x y T L 0 = 0 := by
  have := rackOk_len h
  unfold cdR
  rw [if_pos h, if_pos (rin_iff.2 (by omega))]
/-- A loop that writes a mark into each element's fields, c of them, ends. -/
theorem markLoop {α : Type} {F : Nat → List α → Int → Int → Option (Int × List α)} {c n : Nat} (hn : n ≤ 1000000)
    (hstep : ∀ (xs : List α) (a : Int) (i : Nat), xs.length = n → i < n → 1 ≤ a → a + (c : Int) ≤ 100000000 → ∃ ys : List α, ys.length = n ∧ Evt (fun k => F (k + 1) xs a (i : Int) = F k ys (a + (c : Int)) ((i + 1 : Nat) : Int)))
    (hend : ∀ (xs : List α) (a : Int), xs.length = n → Evt (fun k => F (k + 1) xs a (n : Int) = some (a, xs))) :
    ∀ (d i : Nat) (xs : List α) (a : Int), i + d = n → xs.length = n → 1 ≤ a → a + (c : Int) * (d : Int) ≤ 100000000 → ∃ L : List α, L.length = n ∧ Ev (fun k => F k xs a (i : Int)) (a + (c : Int) * (d : Int), L) := by
  intro d
  induction d with
  | zero =>
    intro i xs a hi hx ha hb
    obtain rfl : i = n := by omega
    exact ⟨xs, hx, (Ev.doneE (hend xs a hx)).eq (by simp)⟩
  | succ d ih =>
    intro i xs a hi hx ha hb
    have e : (c : Int) * ((d + 1 : Nat) : Int) = (c : Int) * (d : Int) + (c : Int) := by rw [Int.natCast_succ, Int.mul_add, Int.mul_one]
    have hp : 0 ≤ (c : Int) * (d : Int) := Int.mul_nonneg (Int.natCast_nonneg _) (Int.natCast_nonneg _)
    obtain ⟨ys, hy, hs⟩ := hstep xs a i hx (by omega) ha (by omega)
    obtain ⟨L, hL, hE⟩ := ih (i + 1) ys (a + (c : Int)) (by omega) hy (by omega) (by omega)
    refine ⟨L, hL, (Ev.stepE hs hE).eq ?_⟩
    rw [e]
    congr 1
    omega
theorem markInt_a (xs : List Int) (a : Int) (hn : xs.length ≤ 1000000) (ha : 1 ≤ a) (hb : a + (xs.length : Int) ≤ 100000000) : ∃ L : List Int, L.length = xs.length ∧ Ev (fun k => laws_markInt64S.f k xs a) (a + (xs.length : Int), L) := by
  have h := markLoop (F := laws_markInt64S.l0) (c := 1) (n := xs.length) hn
    (fun ys a i hy hi h1 h2 => ⟨ys.set i a, by simpa using hy, Evt.all fun k => by
      simp only [laws_markInt64S.l0]
      rw [if_pos (by omega), if_pos (by omega), wrap_succ (show i < ys.length by omega) (by omega), wrap_id (by omega) (by omega), Int.toNat_natCast]
      rfl⟩)
    (fun ys a hy => Evt.all fun k => by
      simp only [laws_markInt64S.l0]
      rw [if_neg (by omega)]) xs.length 0 xs a (by omega) rfl ha (by omega)
  obtain ⟨L, h1, h2⟩ := h
  exact ⟨L, h1, h2.eq (by simp)⟩
theorem markStr_a {txt : Int → ByteArray} (htxt : ∀ a, 1 ≤ a → a ≤ 100000000 → Ev (fun k => laws_markText.f k a) (txt a)) (xs : List ByteArray) (a : Int) (hn : xs.length ≤ 1000000) (ha : 1 ≤ a) (hb : a + (xs.length : Int) ≤ 100000000) : ∃ L : List ByteArray, L.length = xs.length ∧ Ev (fun k => laws_markStringS.f k xs a) (a + (xs.length : Int), L) := by
  have h := markLoop (F := laws_markStringS.l0) (c := 1) (n := xs.length) hn
    (fun ys a i hy hi h1 h2 => ⟨ys.set i (txt a), by simpa using hy, (htxt a h1 (by omega)).evt fun k hk => by
      simp only [laws_markStringS.l0, hk, Option.bind_some]
      rw [if_pos (by omega), if_pos (by omega), wrap_succ (show i < ys.length by omega) (by omega), wrap_id (by omega) (by omega), Int.toNat_natCast]
      rfl⟩)
    (fun ys a hy => Evt.all fun k => by
      simp only [laws_markStringS.l0]
      rw [if_neg (by omega)]) xs.length 0 xs a (by omega) rfl ha (by omega)
  obtain ⟨L, h1, h2⟩ := h
  exact ⟨L, h1, h2.eq (by simp)⟩
/-- A step that writes into a list, again and again, lands at the loop's next round with a list of the same length. -/
def Lands {α β : Type} (n : Nat) (F : Nat → List α → Option β) (G : Nat → Option β) : Prop := ∃ ys : List α, ys.length = n ∧ Evt (fun k => G k = F k ys)
theorem Lands.now {α β : Type} {n : Nat} {F : Nat → List α → Option β} {G : Nat → Option β} (ys : List α) (h : ys.length = n) (e : ∀ k, G k = F k ys) : Lands n F G := ⟨ys, h, Evt.all e⟩
theorem Lands.peel {α β : Type} {n : Nat} {F : Nat → List α → Option β} {z : List α} {g : Nat → List α → Option β} (hz : z.length = n) (h : ∀ y : List α, y.length = n → Lands n F (fun k => g k y)) : Lands n F (fun k => (some z).bind (g k)) := by
  obtain ⟨ys, h1, h2⟩ := h z hz
  exact ⟨ys, h1, h2.mono fun k hk => (Option.bind_some z (g k)).trans hk⟩
theorem Lands.via {α β : Type} {n : Nat} {F : Nat → List α → Option β} {G G' : Nat → Option β} (h : Evt (fun k => G k = G' k)) (h' : Lands n F G') : Lands n F G := by
  obtain ⟨ys, h1, h2⟩ := h'
  exact ⟨ys, h1, (h.and h2).mono fun k hk => hk.1.trans hk.2⟩
theorem wr9 (a : Int) (h1 : 1 ≤ a) (h2 : a ≤ 100000000) : wrap64 (a + 1) = a + 1 ∧ wrap64 (a + 1 + 1) = a + 1 + 1 ∧ wrap64 (a + 1 + 1 + 1) = a + 1 + 1 + 1 ∧ wrap64 (a + 1 + 1 + 1 + 1) = a + 1 + 1 + 1 + 1 ∧ wrap64 (a + 1 + 1 + 1 + 1 + 1) = a + 1 + 1 + 1 + 1 + 1 ∧ wrap64 (a + 1 + 1 + 1 + 1 + 1 + 1) = a + 1 + 1 + 1 + 1 + 1 + 1 ∧ wrap64 (a + 1 + 1 + 1 + 1 + 1 + 1 + 1) = a + 1 + 1 + 1 + 1 + 1 + 1 + 1 ∧ wrap64 (a + 1 + 1 + 1 + 1 + 1 + 1 + 1 + 1) = a + 1 + 1 + 1 + 1 + 1 + 1 + 1 + 1 ∧ wrap64 (a + 1 + 1 + 1 + 1 + 1 + 1 + 1 + 1 + 1) = a + 1 + 1 + 1 + 1 + 1 + 1 + 1 + 1 + 1 := ⟨wrap_id (by omega) (by omega), wrap_id (by omega) (by omega), wrap_id (by omega) (by omega), wrap_id (by omega) (by omega), wrap_id (by omega) (by omega), wrap_id (by omega) (by omega), wrap_id (by omega) (by omega), wrap_id (by omega) (by omega), wrap_id (by omega) (by omega)⟩
theorem markArt_a {txt : Int → ByteArray} (htxt : ∀ a, 1 ≤ a → a ≤ 100000000 → Ev (fun k => laws_markText.f k a) (txt a)) (xs : List S67) (a : Int) (hn : xs.length ≤ 1000000) (ha : 1 ≤ a) (hb : a + 9 * (xs.length : Int) ≤ 100000000) : ∃ L : List S67, L.length = xs.length ∧ Ev (fun k => laws_markArticleS.f k xs a) (a + 9 * (xs.length : Int), L) := by
  have hstep : ∀ (ys : List S67) (a : Int) (i : Nat), ys.length = xs.length → i < xs.length → 1 ≤ a → a + ((9 : Nat) : Int) ≤ 100000000 → ∃ zs : List S67, zs.length = xs.length ∧ Evt (fun k => laws_markArticleS.l0 (k + 1) ys a (i : Int) = laws_markArticleS.l0 k zs (a + ((9 : Nat) : Int)) ((i + 1 : Nat) : Int)) := by
    intro ys a i hy hi h1 h2
    have e9 : a + 1 + 1 + 1 + 1 + 1 + 1 + 1 + 1 + 1 = a + ((9 : Nat) : Int) := by omega
    have hs := wrap_succ (show i < ys.length by omega) (show ys.length ≤ 9223372036854775807 by omega)
    have hlt : (i : Int) < (ys.length : Int) := by omega
    have h0 : (0 : Int) ≤ (i : Int) := by omega
    have ht := htxt a h1 (by omega)
    obtain ⟨w1, w2, w3, w4, w5, w6, w7, w8, w9⟩ := wr9 a h1 (by omega)
    clear h2 hi
    show Lands xs.length (fun k ys => laws_markArticleS.l0 k ys (a + ((9 : Nat) : Int)) ((i + 1 : Nat) : Int)) (fun k => laws_markArticleS.l0 (k + 1) ys a (i : Int))
    refine Lands.via (G' := fun k => (some (ys.set (i : Int).toNat (⟨(txt a), (rd_T67 ys (i : Int)).f1, (rd_T67 ys (i : Int)).f2, (rd_T67 ys (i : Int)).f3, (rd_T67 ys (i : Int)).f4, (rd_T67 ys (i : Int)).f5, (rd_T67 ys (i : Int)).f6, (rd_T67 ys (i : Int)).f7, (rd_T67 ys (i : Int)).f8⟩ : S67) : List (S67))).bind fun y283 => ((some (y283.set (i : Int).toNat (⟨(rd_T67 y283 (i : Int)).f0, (a + 1), (rd_T67 y283 (i : Int)).f2, (rd_T67 y283 (i : Int)).f3, (rd_T67 y283 (i : Int)).f4, (rd_T67 y283 (i : Int)).f5, (rd_T67 y283 (i : Int)).f6, (rd_T67 y283 (i : Int)).f7, (rd_T67 y283 (i : Int)).f8⟩ : S67) : List (S67))).bind fun y284 => ((some (y284.set (i : Int).toNat (⟨(rd_T67 y284 (i : Int)).f0, (rd_T67 y284 (i : Int)).f1, (((a + 1)) + 1), (rd_T67 y284 (i : Int)).f3, (rd_T67 y284 (i : Int)).f4, (rd_T67 y284 (i : Int)).f5, (rd_T67 y284 (i : Int)).f6, (rd_T67 y284 (i : Int)).f7, (rd_T67 y284 (i : Int)).f8⟩ : S67) : List (S67))).bind fun y285 => ((some (y285.set (i : Int).toNat (⟨(rd_T67 y285 (i : Int)).f0, (rd_T67 y285 (i : Int)).f1, (rd_T67 y285 (i : Int)).f2, (((((a + 1)) + 1)) + 1), (rd_T67 y285 (i : Int)).f4, (rd_T67 y285 (i : Int)).f5, (rd_T67 y285 (i : Int)).f6, (rd_T67 y285 (i : Int)).f7, (rd_T67 y285 (i : Int)).f8⟩ : S67) : List (S67))).bind fun y286 => ((some (y286.set (i : Int).toNat (⟨(rd_T67 y286 (i : Int)).f0, (rd_T67 y286 (i : Int)).f1, (rd_T67 y286 (i : Int)).f2, (rd_T67 y286 (i : Int)).f3, (((((((a + 1)) + 1)) + 1)) + 1), (rd_T67 y286 (i : Int)).f5, (rd_T67 y286 (i : Int)).f6, (rd_T67 y286 (i : Int)).f7, (rd_T67 y286 (i : Int)).f8⟩ : S67) : List (S67))).bind fun y287 => ((some (y287.set (i : Int).toNat (⟨(rd_T67 y287 (i : Int)).f0, (rd_T67 y287 (i : Int)).f1, (rd_T67 y287 (i : Int)).f2, (rd_T67 y287 (i : Int)).f3, (rd_T67 y287 (i : Int)).f4, (((((((((a + 1)) + 1)) + 1)) + 1)) + 1), (rd_T67 y287 (i : Int)).f6, (rd_T67 y287 (i : Int)).f7, (rd_T67 y287 (i : Int)).f8⟩ : S67) : List (S67))).bind fun y288 => ((some (y288.set (i : Int).toNat (⟨(rd_T67 y288 (i : Int)).f0, (rd_T67 y288 (i : Int)).f1, (rd_T67 y288 (i : Int)).f2, (rd_T67 y288 (i : Int)).f3, (rd_T67 y288 (i : Int)).f4, (rd_T67 y288 (i : Int)).f5, (((((((((((a + 1)) + 1)) + 1)) + 1)) + 1)) + 1), (rd_T67 y288 (i : Int)).f7, (rd_T67 y288 (i : Int)).f8⟩ : S67) : List (S67))).bind fun y289 => ((some (y289.set (i : Int).toNat (⟨(rd_T67 y289 (i : Int)).f0, (rd_T67 y289 (i : Int)).f1, (rd_T67 y289 (i : Int)).f2, (rd_T67 y289 (i : Int)).f3, (rd_T67 y289 (i : Int)).f4, (rd_T67 y289 (i : Int)).f5, (rd_T67 y289 (i : Int)).f6, (((((((((((((a + 1)) + 1)) + 1)) + 1)) + 1)) + 1)) + 1), (rd_T67 y289 (i : Int)).f8⟩ : S67) : List (S67))).bind fun y290 => (laws_markArticleS.l0 k (y290.set (i : Int).toNat (⟨(rd_T67 y290 (i : Int)).f0, (rd_T67 y290 (i : Int)).f1, (rd_T67 y290 (i : Int)).f2, (rd_T67 y290 (i : Int)).f3, (rd_T67 y290 (i : Int)).f4, (rd_T67 y290 (i : Int)).f5, (rd_T67 y290 (i : Int)).f6, (rd_T67 y290 (i : Int)).f7, (((((((((((((((a + 1)) + 1)) + 1)) + 1)) + 1)) + 1)) + 1)) + 1)⟩ : S67)) (a + ((9 : Nat) : Int)) ((i + 1 : Nat) : Int)))))))))) (ht.evt (fun k hk => by
      rw [laws_markArticleS.l0, if_pos hlt, hk]
      rw [show ∀ (g : ByteArray → Option (Int × List S67)), (some (txt a)).bind g = g (txt a) from fun g => rfl]
      rw [if_pos h0, w1, w2, w3, w4, w5, w6, w7, w8, w9, hs, e9])) ?_
    refine Lands.peel (by rw [List.length_set]; exact hy) (fun y1 hy1 => ?_)
    refine Lands.peel (by rw [List.length_set]; exact hy1) (fun y2 hy2 => ?_)
    refine Lands.peel (by rw [List.length_set]; exact hy2) (fun y3 hy3 => ?_)
    refine Lands.peel (by rw [List.length_set]; exact hy3) (fun y4 hy4 => ?_)
    refine Lands.peel (by rw [List.length_set]; exact hy4) (fun y5 hy5 => ?_)
    refine Lands.peel (by rw [List.length_set]; exact hy5) (fun y6 hy6 => ?_)
    refine Lands.peel (by rw [List.length_set]; exact hy6) (fun y7 hy7 => ?_)
    refine Lands.peel (by rw [List.length_set]; exact hy7) (fun y8 hy8 => ?_)
    exact Lands.now _ (by rw [List.length_set]; exact hy8) (fun k => rfl)
  have hend : ∀ (ys : List S67) (a : Int), ys.length = xs.length → Evt (fun k => laws_markArticleS.l0 (k + 1) ys a (xs.length : Int) = some (a, ys)) := fun ys a hy => Evt.all fun k => by
    rw [laws_markArticleS.l0, if_neg (show ¬ (xs.length : Int) < (ys.length : Int) by omega)]
  obtain ⟨L, h1, h2⟩ := markLoop (F := laws_markArticleS.l0) (c := 9) (n := xs.length) hn hstep hend xs.length 0 xs a (by omega) rfl ha (by omega)
  exact ⟨L, h1, h2⟩
theorem markRack_a {txt : Int → ByteArray} (htxt : ∀ a, 1 ≤ a → a ≤ 100000000 → Ev (fun k => laws_markText.f k a) (txt a)) (x y : Int) (T : List Int) (L : List ByteArray) (a : Int) (hT : T.length ≤ 1000000) (hL : L.length ≤ 1000000) (ha : 1 ≤ a) (hb : a ≤ 90000000) :
    ∃ (r : Int) (T' : List Int) (L' : List ByteArray), 1 ≤ r ∧ T'.length = T.length ∧ L'.length = L.length ∧ Ev (fun k => laws_markRack.f k x y T L a) (r, T', L') := by
  obtain ⟨T', h1, h2⟩ := markInt_a T a hT ha (by omega)
  obtain ⟨L', h3, h4⟩ := markStr_a htxt L (a + (T.length : Int)) hL (by omega) (by omega)
  refine ⟨a + (T.length : Int) + (L.length : Int), T', L', by omega, h1, h3, ?_⟩
  unfold laws_markRack.f
  exact Ev.bind h2 (Ev.bind h4 (Ev.now _))
theorem intactInt_refl (l : List Int) (hn : l.length ≤ 1000000) : Ev (fun k => laws_intactInt64S.f k l l) true := by
  unfold laws_intactInt64S.f
  simp only [if_pos rfl]
  exact eqInt_refl _ (full_le l hn)
theorem toInt_some (k : Nat) (l : List Int) (b : Bool) (hn : l.length ≤ 1000000) : laws_toInt64S.f k l b = some l := by
  unfold laws_toInt64S.f
  rw [if_pos hn]
theorem toRack_some (k : Nat) (x y : Int) (T : List Int) (L : List ByteArray) (b : Bool) (hT : T.length ≤ 1000000) (hL : L.length ≤ 1000000) : laws_toRack.f k x y T L b = some (x, y, T, L) := by
  unfold laws_toRack.f
  simp only [toInt_some _ T _ hT, toStringS_some _ L _ hL, Option.bind_some]
theorem intactRack_refl (x y : Int) (T : List Int) (L : List ByteArray) (hT : T.length ≤ 1000000) (hL : L.length ≤ 1000000) : Ev (fun k => laws_intactRack.f k x y T L x y T L) true := by
  unfold laws_intactRack.f
  simp only [if_true]
  refine Ev.bind (intactInt_refl T hT) ?_
  simp only [if_true]
  refine Ev.bind (intactStringS_refl L hL) ?_
  simp only [if_true]
  exact Ev.now _
theorem rd_T82_nat {l : List S82} {i : Nat} (h : i < l.length) : rd_T82 l (i : Int) = l[i] := by simp [rd_T82, h]
theorem szArticleS_some (l : List S82) (hl : l.length ≤ 140737488355328) (hz : ∀ y ∈ l, y.f0.size ≤ 9223372036854775807) (a : Int) (ha : -9223372036854775808 ≤ a - (l.length : Int)) (ha2 : a ≤ 1000000) : ∃ r : Int, Ev (fun k => laws_szArticleS.f k l a) r ∧ (¬ r < 0 → l.length ≤ 1000000 ∧ 0 ≤ r ∧ r ≤ 1000000) := by
  unfold laws_szArticleS.f
  rw [wrap_id ha (by omega)]
  by_cases h : a - (l.length : Int) < 0
  · simp only [if_pos h]
    exact ⟨-1, Ev.now _, fun h2 => absurd (show (-1 : Int) < 0 by decide) h2⟩
  simp only [if_neg h]
  have key : ∀ d i, i + d = l.length → ∀ x : Int, 0 ≤ x → x ≤ 1000000 → ∃ r : Int, r ≤ 1000000 ∧ Ev (fun k => laws_szArticleS.l0 k l x (i : Int)) r := by
    intro d
    induction d with
    | zero =>
      intro i hi x h0 h1
      refine ⟨x, h1, Ev.dn ?_⟩
      simp only [laws_szArticleS.l0, if_neg (show ¬ (i : Int) < (l.length : Int) by omega)]
      exact Ev.now _
    | succ d ih =>
      intro i hi x h0 h1
      have hr : (rd_T82 l (i : Int)).f0.size ≤ 9223372036854775807 := by
        rw [rd_T82_nat (by omega)]
        exact hz _ (List.getElem_mem (by omega))
      by_cases g : x - ((rd_T82 l (i : Int)).f0.size : Int) < 0
      · refine ⟨-1, by omega, Ev.dn ?_⟩
        simp only [laws_szArticleS.l0, laws_szArticle.f, if_pos (show (i : Int) < (l.length : Int) by omega), if_pos (show (0 : Int) ≤ (i : Int) by omega)]
        rw [wrap_id (by omega) (by omega)]
        simp only [if_pos g, Option.bind_some, if_pos (show (-1 : Int) < 0 by decide)]
        exact Ev.now _
      · obtain ⟨r, hr1, hr2⟩ := ih (i + 1) (by omega) (x - ((rd_T82 l (i : Int)).f0.size : Int)) (by omega) (by omega)
        refine ⟨r, hr1, Ev.dn ?_⟩
        simp only [laws_szArticleS.l0, laws_szArticle.f, if_pos (show (i : Int) < (l.length : Int) by omega), if_pos (show (0 : Int) ≤ (i : Int) by omega)]
        rw [wrap_id (by omega) (by omega)]
        simp only [if_neg g, Option.bind_some, wrap_succ (show i < l.length by omega) (show l.length ≤ 9223372036854775807 by omega)]
        exact hr2
  obtain ⟨r, hr1, hr2⟩ := key l.length 0 (by omega) (a - (l.length : Int)) (by omega) (by omega)
  by_cases hneg : r < 0
  · exact ⟨r, hr2, fun h2 => absurd hneg h2⟩
  · exact ⟨r, hr2, fun _ => ⟨by omega, by omega, hr1⟩⟩
theorem szRack_some (x y : Int) (T : List Int) (L : List ByteArray) (a : Int) (hT : T.length ≤ 140737488355328) (hL : L.length ≤ 140737488355328) (hz : ∀ y ∈ L, y.size ≤ 9223372036854775807) (h0 : 0 ≤ a) (h1 : a ≤ 1000000) :
    ∃ r : Int, Ev (fun k => laws_szRack.f k x y T L a) r ∧ (¬ r < 0 → T.length ≤ 1000000 ∧ L.length ≤ 1000000) := by
  unfold laws_szRack.f laws_szInt64S.f
  simp only [sz_eq (show T.length ≤ 4611686018427387904 by omega) h0 h1, Option.bind_some]
  by_cases c : szv T.length a < 0
  · simp only [if_pos c]
    exact ⟨-1, Ev.now _, fun h => absurd (show (-1 : Int) < 0 by decide) h⟩
  simp only [if_neg c]
  obtain ⟨k1, l1, u1⟩ := szv_ok h0 h1 c
  obtain ⟨r, hr, hr2⟩ := szStringS_some L (by omega) hz (szv T.length a) (by omega) u1
  by_cases c2 : r < 0
  · refine ⟨-1, Ev.bind hr ?_, fun h => absurd (show (-1 : Int) < 0 by decide) h⟩
    simp only [if_pos c2]; exact Ev.now _
  · refine ⟨r, Ev.bind hr ?_, fun h => ⟨k1, (hr2 c2).1⟩⟩
    simp only [if_neg c2]; exact Ev.now _
theorem conv_szOkA (l : List S82) (hz : ∀ y ∈ l, y.f0.size ≤ 9223372036854775807) : szOkA (l.map laws_toArticleS.conv) := by
  intro j hj
  rw [rd_T67_nat hj, List.getElem_map]
  exact hz _ (List.getElem_mem _)
theorem copyList_ev (l : List Int) (hn : l.length ≤ 1000000) : Ev (fun k => impl_copyList.f l) l := by
  unfold impl_copyList.f
  simp only [Option.bind_some]
  refine Ev.all (fun k => ?_)
  simp
  try omega
theorem eqRack_refl (x y : Int) (T : List Int) (L : List ByteArray) (hT : T.length ≤ 1000000) (hL : L.length ≤ 1000000) : Ev (fun k => laws_eqRack.f k x y T L x y T L) true := by
  unfold laws_eqRack.f
  simp only [if_true]
  refine Ev.bind (eqInt_refl T (by omega)) ?_
  simp only [if_true]
  refine Ev.bind (eqStringS_refl L (by omega)) ?_
  simp only [if_true]
  exact Ev.now _
theorem markStr_h {txt : Int → ByteArray} (htxt : ∀ a, 1 ≤ a → a ≤ 100000000 → Ev (fun k => laws_markText.f k a) (txt a)) (n : Nat) (a : Int) (hn : n ≤ 1000000) (ha : 1 ≤ a) (hb : a + (n : Int) ≤ 100000000) : ∀ d i (xs : List ByteArray), i + d = n → xs.length = n → (∀ j : Nat, j < i → rdOf ByteArray.empty xs (j : Int) = txt (a + (j : Int))) →
    ∃ M : List ByteArray, M.length = n ∧ (∀ j : Nat, j < n → rdOf ByteArray.empty M (j : Int) = txt (a + (j : Int))) ∧ Ev (fun k => laws_markStringS.l0 k xs (a + (i : Int)) (i : Int)) (a + (n : Int), M) := by
  intro d
  induction d with
  | zero =>
    intro i xs hi hx hj
    obtain rfl : i = n := by omega
    refine ⟨xs, hx, hj, Ev.dn ?_⟩
    simp only [laws_markStringS.l0, if_neg (show ¬ (i : Int) < (xs.length : Int) by omega)]
    exact Ev.now _
  | succ d ih =>
    intro i xs hi hx hj
    obtain ⟨M, h1, h2, h3⟩ := ih (i + 1) (xs.set i (txt (a + (i : Int)))) (by omega) (by simpa using hx) (fun j hj2 => by
      have hjl : j < (xs.set i (txt (a + (i : Int)))).length := by rw [List.length_set]; omega
      rw [rdOf_nat hjl, List.getElem_set]
      by_cases e : i = j
      · rw [if_pos e, e]
      · rw [if_neg e]
        have := hj j (by omega)
        rwa [rdOf_nat (by omega)] at this)
    refine ⟨M, h1, h2, Ev.dn ?_⟩
    have hlt : (i : Int) < (xs.length : Int) := by omega
    have h0 : (0 : Int) ≤ (i : Int) := by omega
    have hw : wrap64 (a + (i : Int) + 1) = a + ((i + 1 : Nat) : Int) := by rw [wrap_id (by omega) (by omega)]; omega
    simp only [laws_markStringS.l0, if_pos hlt, if_pos h0, wrap_succ (show i < n by omega) (by omega), hw, Int.toNat_natCast]
    exact Ev.bind (htxt _ (by omega) (by omega)) h3
theorem heldStr_ev {txt : Int → ByteArray} (htxt : ∀ a, 1 ≤ a → a ≤ 100000000 → Ev (fun k => laws_markText.f k a) (txt a)) (M : List ByteArray) (a : Int) (hn : M.length ≤ 1000000) (ha : 1 ≤ a) (hb : a + (M.length : Int) ≤ 100000000) (h : ∀ j : Nat, j < M.length → rdOf ByteArray.empty M (j : Int) = txt (a + (j : Int))) :
    Ev (fun k => laws_heldStringS.f k M a) (a + (M.length : Int)) := by
  have key : ∀ d i, i + d = M.length → Ev (fun k => laws_heldStringS.l0 k M (a + (i : Int)) (i : Int)) (a + (M.length : Int)) := by
    intro d
    induction d with
    | zero =>
      intro i hi
      obtain rfl : i = M.length := by omega
      refine Ev.dn ?_
      simp only [laws_heldStringS.l0, if_neg (show ¬ (M.length : Int) < (M.length : Int) by omega)]
      exact Ev.now _
    | succ d ih =>
      intro i hi
      refine Ev.dn ?_
      have hlt : (i : Int) < (M.length : Int) := by omega
      have h0 : (0 : Int) ≤ (i : Int) := by omega
      have hw : wrap64 (a + (i : Int) + 1) = a + ((i + 1 : Nat) : Int) := by rw [wrap_id (by omega) (by omega)]; omega
      simp only [laws_heldStringS.l0, if_pos hlt, if_pos h0, wrap_succ (show i < M.length by omega) (by omega), hw]
      refine Ev.bind (htxt _ (by omega) (by omega)) ?_
      simp only [h i (by omega), if_true]
      exact ih (i + 1) (by omega)
  have := key M.length 0 (by omega)
  unfold laws_heldStringS.f
  simpa using this
/-- What is marked in a rack is held in it. -/
theorem markRack_held {txt : Int → ByteArray} (htxt : ∀ a, 1 ≤ a → a ≤ 100000000 → Ev (fun k => laws_markText.f k a) (txt a)) (x y : Int) (T : List Int) (L : List ByteArray) (hT : T.length ≤ 1000000) (hL : L.length ≤ 1000000) :
    ∃ (m : Int) (T' : List Int) (L' : List ByteArray), ¬ m < 0 ∧ Ev (fun k => laws_markRack.f k x y T L 101) (m, T', L') ∧ Ev (fun k => laws_heldRack.f k x y T' L' 101) m := by
  obtain ⟨M, hM1, hM2, hM3⟩ := markInt_ev T hT
  have hH := heldInt_ev M (by omega) hM2
  obtain ⟨S, hS1, hS2, hS3⟩ := markStr_h htxt L.length (101 + (T.length : Int)) hL (by omega) (by omega) L.length 0 L (by omega) rfl (fun j hj => by omega)
  have hG := heldStr_ev htxt S (101 + (T.length : Int)) (by omega) (by omega) (by omega) (fun j hj => hS2 j (by omega))
  refine ⟨101 + (T.length : Int) + (L.length : Int), M, S, by omega, ?_, ?_⟩
  · unfold laws_markRack.f
    refine Ev.bind hM3 ?_
    have hS4 : Ev (fun k => laws_markStringS.f k L (101 + (T.length : Int))) (101 + (T.length : Int) + (L.length : Int), S) := by
      simpa [laws_markStringS.f] using hS3
    refine Ev.bind hS4 ?_
    exact Ev.now _
  · unfold laws_heldRack.f
    refine Ev.bind hH ?_
    simp only [if_neg (show ¬ 101 + (M.length : Int) < 0 by omega)]
    rw [hM1]
    refine Ev.bind hG ?_
    simp only [if_neg (show ¬ 101 + (T.length : Int) + (S.length : Int) < 0 by omega), hS1]
    exact Ev.now _
theorem own_some (l : List Int) (h : l.length ≤ 1000000) : spec_l01Own.f l = some l := by
  unfold spec_l01Own.f
  rw [Option.bind_some, if_pos (by rw [List.length_nil]; omega), List.nil_append]
theorem with_impl (x y : Int) (T : List Int) (L : List ByteArray) (a : Int) (w : ByteArray) (hT : T.length ≤ 1000000) (hL : L.length ≤ 1000000) (h0 : 0 ≤ a) (h1 : a < (L.length : Int)) : Ev (fun k => impl_withLoad.f x y T L a w) (x, y, T, L.set a.toNat w) := by
  unfold impl_withLoad.f
  refine Ev.bind (copyList_ev T hT) ?_
  simp only [Option.bind_some, List.length_nil, List.nil_append, if_pos (show 0 + L.length < 8796093022208 by omega), if_pos h0, if_pos h1]
  exact Ev.now _
theorem with_spec (x y : Int) (T : List Int) (L : List ByteArray) (a : Int) (w : ByteArray) (hT : T.length ≤ 1000000) (hL : L.length ≤ 1000000) (h0 : 0 ≤ a) (h1 : a < (L.length : Int)) : Ev (fun k => spec_l17With.f x y T L a w) (x, y, T, L.set a.toNat w) := by
  unfold spec_l17With.f
  simp only [own_some T hT, Option.bind_some, List.length_nil, List.nil_append, if_pos (show 0 + L.length < 8796093022208 by omega), if_pos h0, if_pos h1]
  exact Ev.now _
/-- The empty tubes into which an article fits, from tube i on. -/
def tbD (a : S67) (T : List Int) (L : List ByteArray) : Nat → Nat → List Int → List Int
  | 0, _, xs => xs
  | d + 1, i, xs => tbD a T L d (i + 1) (if (rdOf ByteArray.empty L (i : Int)).toList = [] ∧ fitB a (rd T (i : Int)) = true then xs ++ [(i : Int)] else xs)
theorem tbD_len (a : S67) (T : List Int) (L : List ByteArray) : ∀ d i xs, (tbD a T L d i xs).length ≤ xs.length + d
  | 0, _, xs => Nat.le_refl _
  | d + 1, i, xs => by
    simp only [tbD]
    refine Nat.le_trans (tbD_len a T L d (i + 1) _) ?_
    split
    · simp; omega
    · omega
theorem tubes_ev (a : S67) (x y : Int) (T : List Int) (L : List ByteArray) (hT : T.length ≤ 1000000) (e : L.length = T.length) : ∀ d i xs, i + d = T.length → xs.length ≤ i →
    Ev (fun k => spec_l17Tubes.l0 k xs (i : Int) a.f0 a.f1 a.f2 a.f3 a.f4 a.f5 a.f6 a.f7 a.f8 x y T L) (tbD a T L d i xs) ∧ Ev (fun k => impl_tubesFor.l0 k xs L (L.length : Int) (i : Int) a.f0 a.f1 a.f2 a.f3 a.f4 a.f5 a.f6 a.f7 a.f8 x y T L) (tbD a T L d i xs) := by
  intro d
  induction d with
  | zero =>
    intro i xs hi hx
    refine ⟨Ev.dn ?_, Ev.dn ?_⟩
    · simp only [spec_l17Tubes.l0, if_neg (show ¬ (i : Int) < (T.length : Int) by omega)]; exact Ev.now _
    · simp only [impl_tubesFor.l0, if_neg (show ¬ (i : Int) < (L.length : Int) by omega)]; exact Ev.now _
  | succ d ih =>
    intro i xs hi hx
    have hs := ih (i + 1) (if (rdOf ByteArray.empty L (i : Int)).toList = [] ∧ fitB a (rd T (i : Int)) = true then xs ++ [(i : Int)] else xs) (by omega) (by split <;> (try simp) <;> omega)
    refine ⟨Ev.dn (Ev.eq' hs.1 (fun k => ?_)), Ev.dn (Ev.eq' hs.2 (fun k => ?_))⟩
    · simp only [spec_l17Tubes.l0, spec_fits_eq, Option.bind_some]
      rw [if_pos (show (i : Int) < (T.length : Int) by omega), if_pos (show (0 : Int) ≤ (i : Int) by omega), if_pos (show (i : Int) < (L.length : Int) by omega), wrap_succ (show i < T.length by omega) (by omega)]
      by_cases q : (rdOf ByteArray.empty L (i : Int)).toList = []
      · rw [if_pos q]
        by_cases q2 : fitB a (rd T (i : Int)) = true
        · rw [if_pos q2, if_pos (show xs.length < 17592186044416 by omega), if_pos ⟨q, q2⟩]
        · rw [if_neg q2, if_neg (fun h => q2 h.2)]
      · rw [if_neg q, if_neg (fun h => q h.1)]
    · simp only [impl_tubesFor.l0, impl_fits_eq, Option.bind_some]
      rw [if_pos (show (i : Int) < (L.length : Int) by omega), if_pos (show (0 : Int) ≤ (i : Int) by omega), if_pos (show (i : Int) < (L.length : Int) by omega), wrap_succ (show i < T.length by omega) (by omega)]
      by_cases q : (rdOf ByteArray.empty L (i : Int)).toList = []
      · rw [if_pos q, if_pos (show (i : Int) < (T.length : Int) by omega)]
        by_cases q2 : fitB a (rd T (i : Int)) = true
        · rw [if_pos q2, if_pos (show xs.length < 17592186044416 by omega), if_pos ⟨q, q2⟩]
        · rw [if_neg q2, if_neg (fun h => q2 h.2)]
      · rw [if_neg q, if_neg (fun h => q h.1)]
/-- The code of articles, a rack, a tube and an article. -/
def cdN (l : List S67) (x y : Int) (T : List Int) (L : List ByteArray) (a : Int) (w : ByteArray) : Int := if cdR l x y T L a = 0 then (if fnd l w < 0 then 4 else 0) else cdR l x y T L a
theorem spec_named_ev (l : List S67) (x y : Int) (T : List Int) (L : List ByteArray) (a : Int) (w : ByteArray) (hn : l.length ≤ 1000000) (hz : szOkA l) (hT : T.length ≤ 1000000) :
    Ev (fun k => spec_l17Named.f k l x y T L a w) (cdN l x y T L a w) := by
  unfold spec_l17Named.f cdN
  refine Ev.bind (spec_code_ev l x y T L a hn hz hT) ?_
  by_cases c : cdR l x y T L a = 0
  · simp only [if_pos c]
    refine Ev.bind (spec_find_ev l w hn) ?_
    by_cases c2 : fnd l w < 0
    · simp only [if_pos c2]; exact Ev.now _
    · simp only [if_neg c2, c]; exact Ev.now _
  · simp only [if_neg c]; exact Ev.now _
/-- The best of the tubes, from one on. -/
def bsD (T xs : List Int) : Nat → Nat → Int → Int
  | 0, _, b => b
  | d + 1, i, b => bsD T xs d (i + 1) (if rd T (rd xs (i : Int)) < rd T b then rd xs (i : Int) else b)
theorem bsD_in (T xs : List Int) (h : ∀ j : Nat, j < xs.length → 0 ≤ rd xs (j : Int) ∧ rd xs (j : Int) < (T.length : Int)) : ∀ d i b, i + d = xs.length → 0 ≤ b → b < (T.length : Int) → 0 ≤ bsD T xs d i b ∧ bsD T xs d i b < (T.length : Int)
  | 0, i, b, _, h0, h1 => ⟨h0, h1⟩
  | d + 1, i, b, hi, h0, h1 => by
    simp only [bsD]
    have hx := h i (by omega)
    split
    · exact bsD_in T xs h d (i + 1) _ (by omega) hx.1 hx.2
    · exact bsD_in T xs h d (i + 1) _ (by omega) h0 h1
theorem best_spec (x y : Int) (T : List Int) (L : List ByteArray) (w : ByteArray) (xs : List Int) (R : Int × Int × List Int × List ByteArray × Int × Int) (hn : xs.length ≤ 1000000) (h : ∀ j : Nat, j < xs.length → 0 ≤ rd xs (j : Int) ∧ rd xs (j : Int) < (T.length : Int)) :
    ∀ d i b, i + d = xs.length → 0 ≤ b → b < (T.length : Int) → Ev (fun k => (spec_l17With.f x y T L (bsD T xs d i b) w).bind fun p => some (p.1, p.2.1, p.2.2.1, p.2.2.2, bsD T xs d i b, (0 : Int))) R → Ev (fun k => spec_LoadBest.l0 k w xs b (i : Int) x y T L) R := by
  intro d
  induction d with
  | zero =>
    intro i b hi h0 h1 hR
    refine Ev.dn ?_
    simp only [spec_LoadBest.l0, if_neg (show ¬ (i : Int) < (xs.length : Int) by omega)]
    exact hR
  | succ d ih =>
    intro i b hi h0 h1 hR
    obtain ⟨k0, k1⟩ := h i (by omega)
    have i0 : (0 : Int) ≤ (i : Int) := by clear ih hR; omega
    have i1 : (i : Int) < (xs.length : Int) := by clear ih hR; omega
    have hw := wrap_succ (show i < xs.length by clear ih hR; omega) (show xs.length ≤ 9223372036854775807 by clear ih hR; omega)
    have hi' : i + 1 + d = xs.length := by clear ih hR; omega
    refine Ev.dn ?_
    simp only [spec_LoadBest.l0, if_pos i1, if_pos i0, if_pos k0, if_pos k1, if_pos h0, if_pos h1, hw]
    simp only [bsD] at hR
    by_cases c : rd T (rd xs (i : Int)) < rd T b
    · simp only [if_pos c] at hR ⊢
      exact ih (i + 1) _ hi' k0 k1 hR
    · simp only [if_neg c] at hR ⊢
      exact ih (i + 1) _ hi' h0 h1 hR
theorem best_impl (x y : Int) (T : List Int) (L : List ByteArray) (w : ByteArray) (xs : List Int) (R : Int × Int × List Int × List ByteArray × Int × Int) (hn : xs.length ≤ 1000000) (h : ∀ j : Nat, j < xs.length → 0 ≤ rd xs (j : Int) ∧ rd xs (j : Int) < (T.length : Int)) :
    ∀ d i b, i + d = xs.length → 0 ≤ b → b < (T.length : Int) → Ev (fun k => (impl_withLoad.f x y T L (bsD T xs d i b) w).bind fun p => some (p.1, p.2.1, p.2.2.1, p.2.2.2, bsD T xs d i b, (0 : Int))) R → Ev (fun k => impl_LoadBest.l0 k w b xs (xs.length : Int) (i : Int) x y T L) R := by
  intro d
  induction d with
  | zero =>
    intro i b hi h0 h1 hR
    refine Ev.dn ?_
    simp only [impl_LoadBest.l0, if_neg (show ¬ (i : Int) < (xs.length : Int) by omega), if_neg (show ¬ b < 0 by omega)]
    exact hR
  | succ d ih =>
    intro i b hi h0 h1 hR
    obtain ⟨k0, k1⟩ := h i (by omega)
    have i0 : (0 : Int) ≤ (i : Int) := by clear ih hR; omega
    have i1 : (i : Int) < (xs.length : Int) := by clear ih hR; omega
    have hb : ¬ b < 0 := by clear ih hR; omega
    have hw := wrap_succ (show i < xs.length by clear ih hR; omega) (show xs.length ≤ 9223372036854775807 by clear ih hR; omega)
    have hi' : i + 1 + d = xs.length := by clear ih hR; omega
    refine Ev.dn ?_
    simp only [impl_LoadBest.l0, if_pos i1, if_pos i0, if_neg hb, if_pos k0, if_pos k1, if_pos h0, if_pos h1, hw]
    simp only [bsD] at hR
    by_cases c : rd T (rd xs (i : Int)) < rd T b
    · simp only [if_pos c] at hR ⊢
      exact ih (i + 1) _ hi' k0 k1 hR
    · simp only [if_neg c] at hR ⊢
      exact ih (i + 1) _ hi' h0 h1 hR
theorem tbD_in (a : S67) (T : List Int) (L : List ByteArray) : ∀ d i xs, (∀ v ∈ xs, 0 ≤ v ∧ v < ((i + d : Nat) : Int)) → ∀ v ∈ tbD a T L d i xs, 0 ≤ v ∧ v < ((i + d : Nat) : Int)
  | 0, i, xs, h => h
  | d + 1, i, xs, h => by
    simp only [tbD]
    have := tbD_in a T L d (i + 1) (if (rdOf ByteArray.empty L (i : Int)).toList = [] ∧ fitB a (rd T (i : Int)) = true then xs ++ [(i : Int)] else xs) (fun v hv => by
      have hx : ∀ v ∈ xs, 0 ≤ v ∧ v < ((i + 1 + d : Nat) : Int) := fun v hv => by have := h v hv; omega
      split at hv
      · rcases List.mem_append.1 hv with h1 | h1
        · exact hx v h1
        · rw [List.mem_singleton.1 h1]; omega
      · exact hx v hv)
    intro v hv
    have := this v hv
    omega
theorem LoadBest_both (l : List S67) (x y : Int) (T : List Int) (L : List ByteArray) (w : ByteArray) (hn : l.length ≤ 1000000) (hz : szOkA l) (hT : T.length ≤ 1000000) :
    ∃ (x' y' : Int) (T' : List Int) (L' : List ByteArray) (b c : Int), Ev (fun k => spec_LoadBest.f k l x y T L w) (x', y', T', L', b, c) ∧ Ev (fun k => impl_LoadBest.f k l x y T L w) (x', y', T', L', b, c) ∧ T'.length ≤ 1000000 ∧ L'.length ≤ 1000000 := by
  have hc := spec_named_ev l x y T L 0 w hn hz hT
  have hi := impl_IsRack_ev l x y T L hn hz hT
  unfold spec_LoadBest.f impl_LoadBest.f
  cases c : rackOk l x y T L with
  | false =>
    rw [c] at hi
    rw [show cdN l x y T L 0 w = 1 by simp [cdN, cdR, c]] at hc
    refine ⟨0, 0, [], [], 0, 1, Ev.bind hc ?_, Ev.bind hi ?_, by simp, by simp⟩
    · simp only [show ¬ ((1 : Int) = 0) by decide, if_false]; exact Ev.now _
    · simp only [Bool.false_eq_true, if_false]; exact Ev.now _
  | true =>
    rw [c] at hi
    have e0 := cdR_0 c
    obtain ⟨_, e, h1, h2, _, _⟩ := rackOk_len c
    by_cases f : fnd l w < 0
    · rw [show cdN l x y T L 0 w = 4 by simp [cdN, e0, f]] at hc
      refine ⟨0, 0, [], [], 0, 4, Ev.bind hc ?_, Ev.bind hi ?_, by simp, by simp⟩
      · simp only [show ¬ ((4 : Int) = 0) by decide, if_false]; exact Ev.now _
      · simp only [if_true]
        refine Ev.bind (impl_find_ev l w hn) ?_
        simp only [if_pos f]; exact Ev.now _
    · rw [show cdN l x y T L 0 w = 0 by simp only [cdN, e0, if_true, if_neg f]] at hc
      obtain ⟨g1, g2⟩ := fnd_in l w f
      have k0 := tubes_ev (rd_T67 l (fnd l w)) x y T L hT e T.length 0 [] (by omega) (by simp)
      have sT : Ev (fun k => spec_l17Tubes.f k (rd_T67 l (fnd l w)).f0 (rd_T67 l (fnd l w)).f1 (rd_T67 l (fnd l w)).f2 (rd_T67 l (fnd l w)).f3 (rd_T67 l (fnd l w)).f4 (rd_T67 l (fnd l w)).f5 (rd_T67 l (fnd l w)).f6 (rd_T67 l (fnd l w)).f7 (rd_T67 l (fnd l w)).f8 x y T L) (tbD (rd_T67 l (fnd l w)) T L T.length 0 []) := k0.1
      have iT : Ev (fun k => impl_tubesFor.f k (rd_T67 l (fnd l w)).f0 (rd_T67 l (fnd l w)).f1 (rd_T67 l (fnd l w)).f2 (rd_T67 l (fnd l w)).f3 (rd_T67 l (fnd l w)).f4 (rd_T67 l (fnd l w)).f5 (rd_T67 l (fnd l w)).f6 (rd_T67 l (fnd l w)).f7 (rd_T67 l (fnd l w)).f8 x y T L) (tbD (rd_T67 l (fnd l w)) T L T.length 0 []) := k0.2
      have hl := tbD_len (rd_T67 l (fnd l w)) T L T.length 0 []
      have hin := tbD_in (rd_T67 l (fnd l w)) T L T.length 0 [] (fun v hv => absurd hv (by simp))
      rw [List.length_nil, Nat.zero_add] at hl
      generalize tbD (rd_T67 l (fnd l w)) T L T.length 0 [] = xs at sT iT hl hin
      have hx : ∀ j : Nat, j < xs.length → 0 ≤ rd xs (j : Int) ∧ rd xs (j : Int) < (T.length : Int) := fun j hj => by
        have := hin (rd xs (j : Int)) (by rw [rd_nat hj]; exact List.getElem_mem hj)
        omega
      by_cases z : xs.length = 0
      · have z' : (xs.length : Int) = 0 := by omega
        have z'' : ¬ ((0 : Nat) : Int) < (xs.length : Int) := by omega
        refine ⟨0, 0, [], [], 0, 5, Ev.bind hc ?_, Ev.bind hi ?_, by simp, by simp⟩
        · simp only [if_true]
          refine Ev.bind (spec_find_ev l w hn) ?_
          simp only [if_pos g1, if_pos g2]
          refine Ev.bind sT ?_
          simp only [if_pos z']; exact Ev.now _
        · simp only [if_true]
          refine Ev.bind (impl_find_ev l w hn) ?_
          simp only [if_neg f, if_pos g1, if_pos g2]
          refine Ev.bind iT (Ev.dn ?_)
          simp only [impl_LoadBest.l0, if_neg (show ¬ (0 : Int) < (xs.length : Int) by omega), if_pos (show (-1 : Int) < 0 by decide)]
          exact Ev.now _
      · have z' : ¬ (xs.length : Int) = 0 := by omega
        have z2 : (0 : Int) < (xs.length : Int) := by omega
        have hx0 := hx 0 (by omega)
        rw [show ((0 : Nat) : Int) = 0 from rfl] at hx0
        obtain ⟨b0, b1⟩ := hx0
        have hbs := bsD_in T xs hx xs.length 0 (rd xs 0) (by omega) b0 b1
        obtain ⟨m, hm⟩ : ∃ m, xs.length = m + 1 := ⟨xs.length - 1, by omega⟩
        have eb : bsD T xs xs.length 0 (rd xs 0) = bsD T xs m 1 (rd xs 0) := by
          rw [hm]
          simp only [bsD]
          rw [show ((0 : Nat) : Int) = 0 from rfl, if_neg (Int.lt_irrefl _)]
        refine ⟨x, y, T, L.set (bsD T xs xs.length 0 (rd xs 0)).toNat w, bsD T xs xs.length 0 (rd xs 0), 0, Ev.bind hc ?_, Ev.bind hi ?_, hT, by rw [List.length_set]; omega⟩
        · simp only [if_true]
          refine Ev.bind (spec_find_ev l w hn) ?_
          simp only [if_pos g1, if_pos g2]
          refine Ev.bind sT ?_
          simp only [if_neg z', if_pos z2]
          exact best_spec x y T L w xs _ (by omega) hx xs.length 0 _ (by omega) b0 b1 (Ev.bind (with_spec x y T L _ w hT (by omega) hbs.1 (by omega)) (Ev.now _))
        · simp only [if_true]
          refine Ev.bind (impl_find_ev l w hn) ?_
          simp only [if_neg f, if_pos g1, if_pos g2]
          refine Ev.bind iT (Ev.dn ?_)
          simp only [impl_LoadBest.l0, if_pos z2, if_pos (show (0 : Int) ≤ 0 by decide), if_pos (show (-1 : Int) < 0 by decide), show wrap64 ((0 : Int) + 1) = ((1 : Nat) : Int) from by unfold wrap64; omega]
          rw [eb] at hbs ⊢
          exact best_impl x y T L w xs _ (by omega) hx m 1 _ (by omega) b0 b1 (Ev.bind (with_impl x y T L _ w hT (by omega) hbs.1 (by omega)) (Ev.now _))
theorem FnExactLoadBest : ∀ (l0 : List S82) (x1_0 : Int) (x1_1 : Int) (x1_2 : List Int) (x1_3 : List ByteArray) (a2 : ByteArray), (l0.length ≤ reachBytes ∧ ∀ y ∈ l0, (y.f0.size ≤ reachBytes ∧ (Lit.int .i64 y.f1).wf = true ∧ (Lit.int .i64 y.f2).wf = true ∧ (Lit.int .i64 y.f3).wf = true ∧ (Lit.int .i64 y.f4).wf = true ∧ (Lit.int .i64 y.f5).wf = true ∧ (Lit.int .i64 y.f6).wf = true ∧ (Lit.int .i64 y.f7).wf = true ∧ (Lit.int .i64 y.f8).wf = true)) → ((Lit.int .i64 x1_0).wf = true ∧ (Lit.int .i64 x1_1).wf = true ∧ (x1_2.length ≤ reachBytes ∧ ∀ y ∈ x1_2, (Lit.int .i64 y).wf = true) ∧ (x1_3.length ≤ reachBytes ∧ ∀ y ∈ x1_3, y.size ≤ reachBytes)) → a2.size ≤ reachBytes → ∃ k, laws_FnExactLoadBest.f k l0 x1_0 x1_1 x1_2 x1_3 a2 = some true := by
  intro l0 x y T L a2 ⟨hm, hy⟩ ⟨_, _, ⟨hT, _⟩, hL, hLy⟩ hw
  unfold reachBytes at *
  apply Ev.rounds
  unfold laws_FnExactLoadBest.f
  have hz : ∀ y ∈ l0, y.f0.size ≤ 9223372036854775807 := fun y h => Nat.le_trans (hy y h).1 (by decide)
  have hzL : ∀ y ∈ L, y.size ≤ 9223372036854775807 := fun y h => Nat.le_trans (hLy y h) (by decide)
  rw [wrap_id (by omega) (by omega)]
  obtain ⟨r, hr, hr2⟩ := szArticleS_some l0 (by omega) hz (1000000 - (a2.size : Int)) (by omega) (by omega)
  refine Ev.bind hr ?_
  by_cases h : r < 0
  · simp only [if_pos h]; exact Ev.now _
  obtain ⟨hl, g0, g1⟩ := hr2 h
  simp only [if_neg h]
  obtain ⟨q, hq, hq2⟩ := szRack_some x y T L r (by omega) (by omega) hzL g0 g1
  refine Ev.bind hq ?_
  by_cases h' : q < 0
  · simp only [if_pos h']; exact Ev.now _
  obtain ⟨kT, kL⟩ := hq2 h'
  simp only [if_neg h', toArticleS_some _ l0 _ hl, toRack_some _ x y T L _ kT kL, Option.bind_some]
  have hc : (l0.map laws_toArticleS.conv).length ≤ 1000000 := by simpa using hl
  have hso := conv_szOkA l0 hz
  generalize hcc : l0.map laws_toArticleS.conv = c at hc hso
  obtain ⟨txt, htxt⟩ := marks
  obtain ⟨x', y', T', L', s, cd, h1, h2, h3, h4⟩ := LoadBest_both c x y T L a2 hc hso kT
  obtain ⟨L0, _, hL0⟩ := markArt_a htxt c 101 hc (by omega) (by omega)
  obtain ⟨m, U, V, hm1, _, _, hR⟩ := markRack_a htxt x y T L (101 + 9 * (c.length : Int)) kT kL (by omega) (by omega)
  obtain ⟨m2, T2, L2, hm2, hM, hH⟩ := markRack_held htxt x' y' T' L' h3 h4
  have hE := eqRack_refl x' y' T' L' h3 h4
  refine Ev.bind h1 (Ev.bind h2 (Ev.bind hE ?_))
  simp only [bne_self_eq_false, if_true]
  refine Ev.dn ?_
  simp only [laws_FnExactLoadBest.j0, Bool.false_eq_true, if_false, toArticleS_some _ l0 _ hl, toRack_some _ x y T L _ kT kL, Option.bind_some, hcc]
  refine Ev.bind (intactArticleS_refl c hc) ?_
  simp only [if_true]
  refine Ev.bind (intactRack_refl x y T L kT kL) ?_
  simp only [if_true]
  refine Ev.bind hL0 (Ev.bind hR ?_)
  simp only [if_neg (show ¬ m < 0 by omega)]
  refine Ev.bind hE ?_
  simp only [bne_self_eq_false, if_true]
  refine Ev.dn ?_
  simp only [laws_FnExactLoadBest.j1, Bool.false_eq_true, if_false, toArticleS_some _ l0 _ hl, toRack_some _ x y T L _ kT kL, Option.bind_some, hcc]
  refine Ev.bind hM (Ev.bind hH ?_)
  simp only [if_neg hm2, if_true]
  refine Ev.bind h2 (Ev.bind hE ?_)
  simp only [bne_self_eq_false, if_true]
  refine Ev.dn ?_
  simp only [laws_FnExactLoadBest.j2, Bool.false_eq_true, if_false]
  refine Ev.bind hH ?_
  simp only [if_neg hm2, if_true]
  exact Ev.now _
end Go.Proofs.Ytnfmfebmjlglgaa.Pure
