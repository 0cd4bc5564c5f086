/- The law FnExactAllowedInputs as a statement over numbers and lists, proved; no condition but the sizes and ranges that every input has. -/
import Derived.Test.YtapcjchgcppanaaF28
import Derived.Test.YtapcjchgcppanaaEv
namespace Go.Proofs.Ytapcjchgcppanaa.Pure
open Go.RowKit Go.Proofs.Ytapcjchgcppanaa.Pall Go.Proofs.YtapcjchgcppanaaW.PrintWords
set_option linter.unusedSimpArgs false
set_option linter.unusedVariables false
abbrev Ct := Bool × Bool × Bool × Bool × Bool × Int
/-- The controller after an input, if it is allowed. -/
def gv (a b c d e : Bool) (n x : Int) : Option Ct :=
  if x = 0 then some (!a, b, c && !a, d && !a, e, n)
  else if x = 1 then some (a, !b, c && !b, d && !b, e, n)
  else if x = 2 then (if (a && b && !e) = true then some (a, b, true, false, e, 0) else none)
  else if x = 3 then some (a, b, false, false, e, n)
  else if x = 4 then (if (c && !d) = true then some (a, b, c, true, e, n) else none)
  else if x = 5 then (if d = true then some (a, b, c, false, e, n) else none)
  else if x = 6 then some (a, b, false, false, true, n)
  else if x = 7 then some (a, b, c, d, e, 0)
  else if x = 8 then some (a, b, c && !decide (mn 4 (wrap64 (n + 1)) > 3), d && !decide (mn 4 (wrap64 (n + 1)) > 3), e, mn 4 (wrap64 (n + 1)))
  else (if (e && !a && !b) = true then some (a, b, c, d, false, n) else none)
theorem mn_comm (x y : Int) : mn x y = mn y x := by unfold mn; (repeat' split) <;> omega
def give7 (s : Ct) (o : Option Ct) : Bool × Bool × Bool × Bool × Bool × Int × Bool :=
  match o with
  | some t => (t.1, t.2.1, t.2.2.1, t.2.2.2.1, t.2.2.2.2.1, t.2.2.2.2.2, true)
  | none => (s.1, s.2.1, s.2.2.1, s.2.2.2.1, s.2.2.2.2.1, s.2.2.2.2.2, false)
theorem spec_gv (a b c d e : Bool) (n x : Int) : spec_l21Give.f a b c d e n x = some (give7 (a, b, c, d, e, n) (gv a b c d e n x)) := by
  unfold spec_l21Give.f gv
  simp only [spec_l21Off.f, Option.bind_some]
  by_cases h0 : x = 0
  · simp only [if_pos h0]; cases a <;> simp [give7]
  simp only [if_neg h0]
  by_cases h1 : x = 1
  · simp only [if_pos h1]; cases b <;> simp [give7]
  simp only [if_neg h1]
  by_cases h2 : x = 2
  · simp only [if_pos h2]; cases a <;> cases b <;> cases e <;> simp [give7]
  simp only [if_neg h2]
  by_cases h3 : x = 3
  · simp only [if_pos h3]; simp [give7]
  simp only [if_neg h3]
  by_cases h4 : x = 4
  · simp only [if_pos h4]; cases c <;> cases d <;> simp [give7]
  simp only [if_neg h4]
  by_cases h5 : x = 5
  · simp only [if_pos h5]; cases d <;> simp [give7]
  simp only [if_neg h5]
  by_cases h6 : x = 6
  · simp only [if_pos h6]; simp [give7]
  simp only [if_neg h6]
  by_cases h7 : x = 7
  · simp only [if_pos h7]; simp [give7]
  simp only [if_neg h7]
  by_cases h8 : x = 8
  · simp only [if_pos h8]
    by_cases hm : mn 4 (wrap64 (n + 1)) > 3
    · simp [give7, hm]
    · simp [give7, hm]
  simp only [if_neg h8]
  cases a <;> cases b <;> cases e <;> simp [give7]
def inp (s : Ct) (x : Int) : Ct × Int :=
  if 0 ≤ x ∧ x ≤ 9 then (match gv s.1 s.2.1 s.2.2.1 s.2.2.2.1 s.2.2.2.2.1 s.2.2.2.2.2 x with
    | some t => (t, 0)
    | none => (s, 5)) else (s, 2)
def fl7 (s : Ct) (y : Int) : Bool × Bool × Bool × Bool × Bool × Int × Int := (s.1, s.2.1, s.2.2.1, s.2.2.2.1, s.2.2.2.2.1, s.2.2.2.2.2, y)
def inpF (s : Ct) (x : Int) : Bool × Bool × Bool × Bool × Bool × Int × Int := if (inp s x).2 = 0 then fl7 (inp s x).1 0 else (false, false, false, false, false, 0, (inp s x).2)
theorem impl_inp (a b c d e : Bool) (n x : Int) : impl_giveInput.f a b c d e n x = some (inpF (a, b, c, d, e, n) x) := by
  unfold impl_giveInput.f inpF inp gv
  simp only [impl_safe.f, Option.bind_some, mn_comm (wrap64 (n + 1)) 4]
  by_cases h0 : x = 0
  · subst h0; cases a <;> simp [fl7]
  simp only [if_neg h0]
  by_cases h1 : x = 1
  · subst h1; cases b <;> simp [fl7]
  simp only [if_neg h1]
  by_cases h2 : x = 2
  · subst h2; cases a <;> cases b <;> cases e <;> simp [fl7]
  simp only [if_neg h2]
  by_cases h3 : x = 3
  · subst h3; simp [fl7]
  simp only [if_neg h3]
  by_cases h4 : x = 4
  · subst h4; cases c <;> cases d <;> simp [fl7]
  simp only [if_neg h4]
  by_cases h5 : x = 5
  · subst h5; cases d <;> simp [fl7]
  simp only [if_neg h5]
  by_cases h6 : x = 6
  · subst h6; simp [fl7]
  simp only [if_neg h6]
  by_cases h7 : x = 7
  · subst h7; simp [fl7]
  simp only [if_neg h7]
  by_cases h8 : x = 8
  · subst h8
    by_cases hm : mn 4 (wrap64 (n + 1)) > 3
    · simp [fl7, hm]
    · simp [fl7, hm]
  simp only [if_neg h8]
  by_cases h9 : x = 9
  · subst h9; cases a <;> cases b <;> cases e <;> simp [fl7]
  simp only [if_neg h9, if_neg (show ¬ (0 ≤ x ∧ x ≤ 9) by omega)]
  simp
/-- Is the controller sound? -/
def snd (a b c d e : Bool) (n : Int) : Bool := decide (0 ≤ n) && decide (n ≤ 4) && (!c || (a && b && !e && decide (n ≤ 3))) && (c || !d)
theorem spec_snd (a b c d e : Bool) (n : Int) : spec_IsSound.f a b c d e n = some (snd a b c d e n) := by
  unfold spec_IsSound.f spec_l01In.f snd
  by_cases h0 : 0 ≤ n <;> by_cases h4 : n ≤ 4 <;> by_cases h3 : n ≤ 3 <;> cases a <;> cases b <;> cases c <;> cases d <;> cases e <;> simp [h0, h4, h3, Int.not_le.1] <;> omega
theorem impl_snd (a b c d e : Bool) (n : Int) : impl_IsSound.f a b c d e n = some (snd a b c d e n) := by
  unfold impl_IsSound.f impl_within.f snd
  by_cases h0 : 0 ≤ n <;> by_cases h4 : n ≤ 4 <;> by_cases h3 : n ≤ 3 <;> cases a <;> cases b <;> cases c <;> cases d <;> cases e <;> simp [h0, h4, h3]
theorem markInt_loop (n : Nat) (hn : n ≤ 1000000) : ∀ d i (xs : List Int), i + d = n → xs.length = n → (∀ j, j < i → rd xs (j : Int) = 101 + (j : Int)) →
    ∃ L : List Int, L.length = n ∧ (∀ j, j < n → rd L (j : Int) = 101 + (j : Int)) ∧ Ev (fun k => laws_markInt64S.l0 k xs (101 + (i : Int)) (i : Int)) (101 + (n : Int), L) := by
  intro d
  induction d with
  | zero =>
    intro i xs hi hx hj
    obtain rfl : i = n := by omega
    refine ⟨xs, hx, hj, Ev.dn ?_⟩
    simp only [laws_markInt64S.l0]
    simp only [if_neg (show ¬ (i : Int) < (xs.length : Int) by omega)]
    exact Ev.now _
  | succ d ih =>
    intro i xs hi hx hj
    obtain ⟨L, h1, h2, h3⟩ := ih (i + 1) (xs.set i (101 + (i : Int))) (by omega) (by simpa using hx) (fun j hj2 => by
      have hjl : j < (xs.set i (101 + (i : Int))).length := by rw [List.length_set]; omega
      rw [rd_nat hjl, List.getElem_set]
      by_cases e : i = j
      · rw [if_pos e, e]
      · rw [if_neg e]
        have := hj j (by omega)
        rwa [rd_nat (by omega)] at this)
    refine ⟨L, h1, h2, Ev.dn ?_⟩
    refine Ev.eq' h3 (fun k => ?_)
    simp only [laws_markInt64S.l0]
    rw [if_pos (show (i : Int) < (xs.length : Int) by omega), if_pos (show (0 : Int) ≤ (i : Int) by omega), wrap_succ (show i < n by omega) (by omega), wrap_id (by omega) (by omega), Int.toNat_natCast]
    congr 1
theorem markInt_ev (xs : List Int) (hn : xs.length ≤ 1000000) : ∃ L : List Int, L.length = xs.length ∧ (∀ j, j < L.length → rd L (j : Int) = 101 + (j : Int)) ∧ Ev (fun k => laws_markInt64S.f k xs 101) (101 + (xs.length : Int), L) := by
  obtain ⟨L, h1, h2, h3⟩ := markInt_loop xs.length hn xs.length 0 xs (by omega) rfl (fun j hj => by omega)
  exact ⟨L, h1, fun j hj => h2 j (by omega), h3⟩
theorem heldInt_ev (L : List Int) (hn : L.length ≤ 1000000) (h : ∀ j, j < L.length → rd L (j : Int) = 101 + (j : Int)) : Ev (fun k => laws_heldInt64S.f k L 101) (101 + (L.length : Int)) := by
  have key : ∀ d i, i + d = L.length → Ev (fun k => laws_heldInt64S.l0 k L (101 + (i : Int)) (i : Int)) (101 + (L.length : Int)) := by
    intro d
    induction d with
    | zero =>
      intro i hi
      obtain rfl : i = L.length := by omega
      refine Ev.dn ?_
      simp only [laws_heldInt64S.l0]
      simp only [if_neg (show ¬ (L.length : Int) < (L.length : Int) by omega)]
      exact Ev.now _
    | succ d ih =>
      intro i hi
      refine Ev.dn ?_
      refine Ev.eq' (ih (i + 1) (by omega)) (fun k => ?_)
      simp only [laws_heldInt64S.l0]
      rw [if_pos (show (i : Int) < (L.length : Int) by omega), if_pos (show (0 : Int) ≤ (i : Int) by omega), if_pos (h i (by omega)), wrap_succ (show i < L.length by omega) (by omega), wrap_id (by omega) (by omega)]
      (try congr 1)
  exact key L.length 0 (by omega)
theorem eqInt_refl (l : List Int) (hn : l.length ≤ 9223372036854775807) : Ev (fun k => laws_eqInt64S.f k l l) true := by
  unfold laws_eqInt64S.f
  simp only [if_pos rfl]
  have h := Ev.allLoop (l := fun k i => laws_eqInt64S.l0 k l l i) (n := l.length) (fun _ => true) false true
    (fun i hi => Evt.all fun k => by
      simp only [laws_eqInt64S.l0]
      rw [if_pos (by omega), if_pos (by omega), if_pos (by omega), wrap_succ hi hn]
      (try simp))
    (Evt.all fun k => by
      simp only [laws_eqInt64S.l0]
      rw [if_neg (by omega)]) l.length 0 (by omega)
  refine h.eq ?_
  rw [if_pos ((allD_iff _ _ _).2 (fun _ _ _ => rfl))]
theorem AllowedInputs_both (a b c d e : Bool) (n : Int) : ∃ r : List Int × Int, Ev (fun k => spec_AllowedInputs.f k a b c d e n) r ∧ Ev (fun k => impl_AllowedInputs.f k a b c d e n) r ∧ r.1.length ≤ 10 := by
  unfold spec_AllowedInputs.f impl_AllowedInputs.f
  simp only [spec_snd, impl_snd, Option.bind_some]
  cases snd a b c d e n with
  | false => exact ⟨([], 1), Ev.now _, Ev.now _, by simp⟩
  | true =>
    simp only [if_true]
    have key : ∀ q i (xs : List Int), i + q = 10 → xs.length ≤ i → ∃ r : List Int × Int, Ev (fun k => spec_AllowedInputs.l0 k xs (i : Int) a b c d e n) r ∧ Ev (fun k => impl_AllowedInputs.l0 k xs (i : Int) a b c d e n) r ∧ r.1.length ≤ 10 := by
      intro q
      induction q with
      | zero =>
        intro i xs hi hx
        obtain rfl : i = 10 := by omega
        refine ⟨(xs, 0), Ev.dn ?_, Ev.dn ?_, hx⟩
        · simp only [spec_AllowedInputs.l0]
          simp only [if_neg (show ¬ ((10 : Nat) : Int) ≤ 9 by omega)]
          exact Ev.now _
        · simp only [impl_AllowedInputs.l0]
          simp only [if_neg (show ¬ ((10 : Nat) : Int) ≤ 9 by omega)]
          exact Ev.now _
      | succ q ih =>
        intro i xs hi hx
        have hw := wrap_succ (show i < 10 by omega) (show 10 ≤ 9223372036854775807 by omega)
        have hin : (0 : Int) ≤ (i : Int) ∧ (i : Int) ≤ 9 := by omega
        cases hg : gv a b c d e n (i : Int) with
        | none =>
          obtain ⟨r, h1, h2, h3⟩ := ih (i + 1) xs (by omega) (by omega)
          refine ⟨r, Ev.dn (Ev.eq' h1 (fun k => ?_)), Ev.dn (Ev.eq' h2 (fun k => ?_)), h3⟩
          · simp only [spec_AllowedInputs.l0, spec_gv, hg, give7, Option.bind_some, hw]
            rw [if_pos (show (i : Int) ≤ 9 by omega), if_neg (by decide)]
          · simp only [impl_AllowedInputs.l0, impl_inp, inpF, inp, if_pos hin, hg, Option.bind_some, hw]
            rw [if_pos (show (i : Int) ≤ 9 by omega)]
            simp
        | some s =>
          obtain ⟨r, h1, h2, h3⟩ := ih (i + 1) (xs ++ [(i : Int)]) (by omega) (by simp; omega)
          refine ⟨r, Ev.dn (Ev.eq' h1 (fun k => ?_)), Ev.dn (Ev.eq' h2 (fun k => ?_)), h3⟩
          · simp only [spec_AllowedInputs.l0, spec_gv, hg, give7, Option.bind_some, hw]
            rw [if_pos (show (i : Int) ≤ 9 by omega), if_pos trivial, if_pos (show xs.length < 17592186044416 by omega)]
          · simp only [impl_AllowedInputs.l0, impl_inp, inpF, inp, if_pos hin, hg, Option.bind_some, hw, if_true, fl7]
            rw [if_pos (show (i : Int) ≤ 9 by omega), if_pos (show xs.length < 17592186044416 by omega)]
    exact key 10 0 [] (by omega) (by simp)
theorem FnExactAllowedInputs : ∀ (x0_0 : Bool) (x0_1 : Bool) (x0_2 : Bool) (x0_3 : Bool) (x0_4 : Bool) (x0_5 : Int), (True ∧ True ∧ True ∧ True ∧ True ∧ (Lit.int .i64 x0_5).wf = true) → ∃ k, laws_FnExactAllowedInputs.f k x0_0 x0_1 x0_2 x0_3 x0_4 x0_5 = some true := by
  intro a b c d e n _
  apply Ev.rounds
  unfold laws_FnExactAllowedInputs.f
  simp only [laws_toController.f, Option.bind_some]
  obtain ⟨r, h1, h2, h3⟩ := AllowedInputs_both a b c d e n
  obtain ⟨L, hL1, hL2, hL3⟩ := markInt_ev r.1 (by omega)
  have hH := heldInt_ev L (by omega) hL2
  refine Ev.bind h1 (Ev.bind h2 (Ev.bind (eqInt_refl _ (by omega)) ?_))
  simp only [if_true, bne_self_eq_false]
  refine Ev.dn ?_
  simp only [laws_FnExactAllowedInputs.j0, Bool.false_eq_true, if_false, laws_toController.f, Option.bind_some]
  refine Ev.bind hL3 (Ev.bind hH ?_)
  simp only [if_neg (show ¬ 101 + (L.length : Int) < 0 by omega), hL1, if_true]
  refine Ev.bind h2 (Ev.bind (eqInt_refl _ (by omega)) ?_)
  simp only [if_true, bne_self_eq_false]
  refine Ev.dn ?_
  simp only [laws_FnExactAllowedInputs.j1, Bool.false_eq_true, if_false]
  refine Ev.bind hH ?_
  simp only [if_neg (show ¬ 101 + (L.length : Int) < 0 by omega), hL1, if_true]
  exact Ev.now _
end Go.Proofs.Ytapcjchgcppanaa.Pure
