/- The law FnExactGiveInputs as a statement over numbers and lists, proved; no condition but the sizes and ranges that every input has. -/
import Derived.Test.YtapcjchgcppanaaF35
import Derived.Test.YtapcjchgcppanaaEv
namespace Go.Proofs.Ytapcjchgcppanaa.Pure
open Go.RowKit Go.Proofs.Ytapcjchgcppanaa.Pall Go.Proofs.YtapcjchgcppanaaW.PrintWords
set_option linter.unusedSimpArgs false
set_option linter.unusedVariables false
abbrev Ct := Bool × Bool × Bool × Bool × Bool × Int
/-- The controller after an input, if it is allowed. -/
def gv (a b c d e : Bool) (n x : Int) : Option Ct :=
  if x = 0 then some (!a, b, c && !a, d && !a, e, n)
  else if x = 1 then some (a, !b, c && !b, d && !b, e, n)
  else if x = 2 then (if (a && b && !e) = true then some (a, b, true, false, e, 0) else none)
  else if x = 3 then some (a, b, false, false, e, n)
  else if x = 4 then (if (c && !d) = true then some (a, b, c, true, e, n) else none)
  else if x = 5 then (if d = true then some (a, b, c, false, e, n) else none)
  else if x = 6 then some (a, b, false, false, true, n)
  else if x = 7 then some (a, b, c, d, e, 0)
  else if x = 8 then some (a, b, c && !decide (mn 4 (wrap64 (n + 1)) > 3), d && !decide (mn 4 (wrap64 (n + 1)) > 3), e, mn 4 (wrap64 (n + 1)))
  else (if (e && !a && !b) = true then some (a, b, c, d, false, n) else none)
theorem mn_comm (x y : Int) : mn x y = mn y x := by unfold mn; (repeat' split) <;> omega
def give7 (s : Ct) (o : Option Ct) : Bool × Bool × Bool × Bool × Bool × Int × Bool :=
  match o with
  | some t => (t.1, t.2.1, t.2.2.1, t.2.2.2.1, t.2.2.2.2.1, t.2.2.2.2.2, true)
  | none => (s.1, s.2.1, s.2.2.1, s.2.2.2.1, s.2.2.2.2.1, s.2.2.2.2.2, false)
theorem spec_gv (a b c d e : Bool) (n x : Int) : spec_l21Give.f a b c d e n x = some (give7 (a, b, c, d, e, n) (gv a b c d e n x)) := by
  unfold spec_l21Give.f gv
  simp only [spec_l21Off.f, Option.bind_some]
  by_cases h0 : x = 0
  · simp only [if_pos h0]; cases a <;> simp [give7]
  simp only [if_neg h0]
  by_cases h1 : x = 1
  · simp only [if_pos h1]; cases b <;> simp [give7]
  simp only [if_neg h1]
  by_cases h2 : x = 2
  · simp only [if_pos h2]; cases a <;> cases b <;> cases e <;> simp [give7]
  simp only [if_neg h2]
  by_cases h3 : x = 3
  · simp only [if_pos h3]; simp [give7]
  simp only [if_neg h3]
  by_cases h4 : x = 4
  · simp only [if_pos h4]; cases c <;> cases d <;> simp [give7]
  simp only [if_neg h4]
  by_cases h5 : x = 5
  · simp only [if_pos h5]; cases d <;> simp [give7]
  simp only [if_neg h5]
  by_cases h6 : x = 6
  · simp only [if_pos h6]; simp [give7]
  simp only [if_neg h6]
  by_cases h7 : x = 7
  · simp only [if_pos h7]; simp [give7]
  simp only [if_neg h7]
  by_cases h8 : x = 8
  · simp only [if_pos h8]
    by_cases hm : mn 4 (wrap64 (n + 1)) > 3
    · simp [give7, hm]
    · simp [give7, hm]
  simp only [if_neg h8]
  cases a <;> cases b <;> cases e <;> simp [give7]
def inp (s : Ct) (x : Int) : Ct × Int :=
  if 0 ≤ x ∧ x ≤ 9 then (match gv s.1 s.2.1 s.2.2.1 s.2.2.2.1 s.2.2.2.2.1 s.2.2.2.2.2 x with
    | some t => (t, 0)
    | none => (s, 5)) else (s, 2)
def fl7 (s : Ct) (y : Int) : Bool × Bool × Bool × Bool × Bool × Int × Int := (s.1, s.2.1, s.2.2.1, s.2.2.2.1, s.2.2.2.2.1, s.2.2.2.2.2, y)
def inpF (s : Ct) (x : Int) : Bool × Bool × Bool × Bool × Bool × Int × Int := if (inp s x).2 = 0 then fl7 (inp s x).1 0 else (false, false, false, false, false, 0, (inp s x).2)
theorem spec_inp (a b c d e : Bool) (n x : Int) : spec_l21Input.f a b c d e n x = some (fl7 (inp (a, b, c, d, e, n) x).1 (inp (a, b, c, d, e, n) x).2) := by
  unfold spec_l21Input.f spec_l01In.f inp
  by_cases h0 : 0 ≤ x
  · by_cases h9 : x ≤ 9
    · simp only [ge_iff_le, if_pos h0, decide_eq_true h9, Option.bind_some, if_true, if_pos (And.intro h0 h9), spec_gv]
      cases gv a b c d e n x <;> simp [give7, fl7]
    · simp only [ge_iff_le, if_pos h0, decide_eq_false h9, Option.bind_some, if_neg (show ¬ (0 ≤ x ∧ x ≤ 9) from fun h => h9 h.2)]
      simp [fl7]
  · simp only [ge_iff_le, if_neg h0, Option.bind_some, if_neg (show ¬ (0 ≤ x ∧ x ≤ 9) from fun h => h0 h.1)]
    simp [fl7]
theorem impl_inp (a b c d e : Bool) (n x : Int) : impl_giveInput.f a b c d e n x = some (inpF (a, b, c, d, e, n) x) := by
  unfold impl_giveInput.f inpF inp gv
  simp only [impl_safe.f, Option.bind_some, mn_comm (wrap64 (n + 1)) 4]
  by_cases h0 : x = 0
  · subst h0; cases a <;> simp [fl7]
  simp only [if_neg h0]
  by_cases h1 : x = 1
  · subst h1; cases b <;> simp [fl7]
  simp only [if_neg h1]
  by_cases h2 : x = 2
  · subst h2; cases a <;> cases b <;> cases e <;> simp [fl7]
  simp only [if_neg h2]
  by_cases h3 : x = 3
  · subst h3; simp [fl7]
  simp only [if_neg h3]
  by_cases h4 : x = 4
  · subst h4; cases c <;> cases d <;> simp [fl7]
  simp only [if_neg h4]
  by_cases h5 : x = 5
  · subst h5; cases d <;> simp [fl7]
  simp only [if_neg h5]
  by_cases h6 : x = 6
  · subst h6; simp [fl7]
  simp only [if_neg h6]
  by_cases h7 : x = 7
  · subst h7; simp [fl7]
  simp only [if_neg h7]
  by_cases h8 : x = 8
  · subst h8
    by_cases hm : mn 4 (wrap64 (n + 1)) > 3
    · simp [fl7, hm]
    · simp [fl7, hm]
  simp only [if_neg h8]
  by_cases h9 : x = 9
  · subst h9; cases a <;> cases b <;> cases e <;> simp [fl7]
  simp only [if_neg h9, if_neg (show ¬ (0 ≤ x ∧ x ≤ 9) by omega)]
  simp
/-- Is the controller sound? -/
def snd (a b c d e : Bool) (n : Int) : Bool := decide (0 ≤ n) && decide (n ≤ 4) && (!c || (a && b && !e && decide (n ≤ 3))) && (c || !d)
theorem spec_snd (a b c d e : Bool) (n : Int) : spec_IsSound.f a b c d e n = some (snd a b c d e n) := by
  unfold spec_IsSound.f spec_l01In.f snd
  by_cases h0 : 0 ≤ n <;> by_cases h4 : n ≤ 4 <;> by_cases h3 : n ≤ 3 <;> cases a <;> cases b <;> cases c <;> cases d <;> cases e <;> simp [h0, h4, h3, Int.not_le.1] <;> omega
theorem impl_snd (a b c d e : Bool) (n : Int) : impl_IsSound.f a b c d e n = some (snd a b c d e n) := by
  unfold impl_IsSound.f impl_within.f snd
  by_cases h0 : 0 ≤ n <;> by_cases h4 : n ≤ 4 <;> by_cases h3 : n ≤ 3 <;> cases a <;> cases b <;> cases c <;> cases d <;> cases e <;> simp [h0, h4, h3]
theorem eqInt_refl (l : List Int) (hn : l.length ≤ 9223372036854775807) : Ev (fun k => laws_eqInt64S.f k l l) true := by
  unfold laws_eqInt64S.f
  simp only [if_pos rfl]
  have h := Ev.allLoop (l := fun k i => laws_eqInt64S.l0 k l l i) (n := l.length) (fun _ => true) false true
    (fun i hi => Evt.all fun k => by
      simp only [laws_eqInt64S.l0]
      rw [if_pos (by omega), if_pos (by omega), if_pos (by omega), wrap_succ hi hn]
      (try simp))
    (Evt.all fun k => by
      simp only [laws_eqInt64S.l0]
      rw [if_neg (by omega)]) l.length 0 (by omega)
  refine h.eq ?_
  rw [if_pos ((allD_iff _ _ _).2 (fun _ _ _ => rfl))]
theorem intactInt_refl (l : List Int) (hn : l.length ≤ 1000000) : Ev (fun k => laws_intactInt64S.f k l l) true := by
  unfold laws_intactInt64S.f
  simp only [if_pos rfl]
  exact eqInt_refl _ (full_le l hn)
theorem toInt_some (k : Nat) (l : List Int) (b : Bool) (hn : l.length ≤ 1000000) : laws_toInt64S.f k l b = some l := by
  unfold laws_toInt64S.f
  rw [if_pos hn]
abbrev R8 := Bool × Bool × Bool × Bool × Bool × Int × Int × Int
def fl8 (s : Ct) (y z : Int) : R8 := (s.1, s.2.1, s.2.2.1, s.2.2.2.1, s.2.2.2.2.1, s.2.2.2.2.2, y, z)
/-- From input i on, q of them. -/
def runI (xs : List Int) : Nat → Nat → Ct → R8
  | 0, i, s => fl8 s (i : Int) 0
  | q + 1, i, s => if (inp s (rd xs (i : Int))).2 = 0 then runI xs q (i + 1) (inp s (rd xs (i : Int))).1 else fl8 s (i : Int) (inp s (rd xs (i : Int))).2
theorem spec_run (xs : List Int) (hn : xs.length ≤ 1000000) : ∀ q i (a b c d e : Bool) (n : Int), i + q = xs.length → Ev (fun k => spec_GiveInputs.l0 k xs (i : Int) a b c d e n) (runI xs q i (a, b, c, d, e, n)) := by
  intro q
  induction q with
  | zero =>
    intro i a b c d e n hi
    obtain rfl : i = xs.length := by omega
    refine Ev.dn ?_
    simp only [spec_GiveInputs.l0]
    simp only [if_neg (show ¬ (xs.length : Int) < (xs.length : Int) by omega)]
    exact Ev.now _
  | succ q ih =>
    intro i a b c d e n hi
    refine Ev.dn ?_
    simp only [spec_GiveInputs.l0, spec_inp, Option.bind_some, runI]
    simp only [if_pos (show (i : Int) < (xs.length : Int) by omega), if_pos (show (0 : Int) ≤ (i : Int) by omega), wrap_succ (show i < xs.length by omega) (show xs.length ≤ 9223372036854775807 by omega), fl7]
    by_cases h : (inp (a, b, c, d, e, n) (rd xs (i : Int))).2 = 0
    · simp only [if_pos h]
      exact ih (i + 1) _ _ _ _ _ _ (by omega)
    · simp only [if_neg h]
      exact Ev.now _
theorem impl_run (xs : List Int) (hn : xs.length ≤ 1000000) : ∀ q i (a b c d e : Bool) (n : Int), i + q = xs.length → Ev (fun k => impl_GiveInputs.l0 k xs xs (xs.length : Int) (i : Int) a b c d e n) (runI xs q i (a, b, c, d, e, n)) := by
  intro q
  induction q with
  | zero =>
    intro i a b c d e n hi
    obtain rfl : i = xs.length := by omega
    refine Ev.dn ?_
    simp only [impl_GiveInputs.l0]
    simp only [if_neg (show ¬ (xs.length : Int) < (xs.length : Int) by omega)]
    exact Ev.now _
  | succ q ih =>
    intro i a b c d e n hi
    refine Ev.dn ?_
    simp only [impl_GiveInputs.l0, impl_inp, Option.bind_some, runI, inpF]
    simp only [if_pos (show (i : Int) < (xs.length : Int) by omega), if_pos (show (0 : Int) ≤ (i : Int) by omega), wrap_succ (show i < xs.length by omega) (show xs.length ≤ 9223372036854775807 by omega)]
    by_cases h : (inp (a, b, c, d, e, n) (rd xs (i : Int))).2 = 0
    · simp only [if_pos h, fl7, if_true]
      exact ih (i + 1) _ _ _ _ _ _ (by omega)
    · simp only [if_neg h]
      exact Ev.now _
def giveAll (a b c d e : Bool) (n : Int) (xs : List Int) : R8 := if snd a b c d e n = true then (if 60 < xs.length then (false, false, false, false, false, 0, 0, 3) else runI xs xs.length 0 (a, b, c, d, e, n)) else (false, false, false, false, false, 0, 0, 1)
theorem GiveInputs_both (a b c d e : Bool) (n : Int) (xs : List Int) (hn : xs.length ≤ 1000000) : Ev (fun k => spec_GiveInputs.f k a b c d e n xs) (giveAll a b c d e n xs) ∧ Ev (fun k => impl_GiveInputs.f k a b c d e n xs) (giveAll a b c d e n xs) := by
  unfold spec_GiveInputs.f impl_GiveInputs.f giveAll
  simp only [spec_snd, impl_snd, Option.bind_some]
  cases snd a b c d e n with
  | false => exact ⟨Ev.now _, Ev.now _⟩
  | true =>
    simp only [if_true]
    by_cases h : 60 < xs.length
    · simp only [if_pos h, if_pos (show (xs.length : Int) > 60 by omega)]
      exact ⟨Ev.now _, Ev.now _⟩
    · simp only [if_neg h, if_neg (show ¬ (xs.length : Int) > 60 by omega)]
      exact ⟨spec_run xs hn xs.length 0 _ _ _ _ _ _ (by omega), impl_run xs hn xs.length 0 _ _ _ _ _ _ (by omega)⟩
theorem eqC_refl (a b c d e : Bool) (n : Int) : laws_eqController.f a b c d e n a b c d e n = some true := by
  unfold laws_eqController.f
  simp
theorem FnExactGiveInputs : ∀ (x0_0 : Bool) (x0_1 : Bool) (x0_2 : Bool) (x0_3 : Bool) (x0_4 : Bool) (x0_5 : Int) (l1 : List Int), (True ∧ True ∧ True ∧ True ∧ True ∧ (Lit.int .i64 x0_5).wf = true) → (l1.length ≤ reachBytes ∧ ∀ y ∈ l1, (Lit.int .i64 y).wf = true) → ∃ k, laws_FnExactGiveInputs.f k x0_0 x0_1 x0_2 x0_3 x0_4 x0_5 l1 = some true := by
  intro a b c d e n xs _ _
  apply Ev.rounds
  unfold laws_FnExactGiveInputs.f
  by_cases h : (xs.length : Int) > 1000000
  · simp only [if_pos h]; exact Ev.now _
  have hn : xs.length ≤ 1000000 := by omega
  simp only [if_neg h, laws_toController.f, Option.bind_some, toInt_some _ xs _ hn]
  obtain ⟨h1, h2⟩ := GiveInputs_both a b c d e n xs hn
  refine Ev.bind h1 (Ev.bind h2 ?_)
  simp only [eqC_refl, Option.bind_some, if_true, bne_self_eq_false]
  refine Ev.dn ?_
  simp only [laws_FnExactGiveInputs.j0, Bool.false_eq_true, if_false, laws_toController.f, Option.bind_some, toInt_some _ xs _ hn]
  refine Ev.bind (intactInt_refl xs hn) ?_
  simp only [if_true]
  refine Ev.bind h2 ?_
  simp only [eqC_refl, Option.bind_some, if_true]
  exact Ev.now _
end Go.Proofs.Ytapcjchgcppanaa.Pure
