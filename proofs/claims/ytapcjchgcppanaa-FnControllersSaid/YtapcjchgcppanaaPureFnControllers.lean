/- The law FnControllers as a statement over numbers and lists, proved; no condition but the sizes and ranges that every input has. -/
import Derived.Test.YtapcjchgcppanaaF36
import Derived.Test.YtapcjchgcppanaaEv
namespace Go.Proofs.Ytapcjchgcppanaa.Pure
open Go.RowKit Go.Proofs.Ytapcjchgcppanaa.Pall Go.Proofs.YtapcjchgcppanaaW.PrintWords
set_option linter.unusedSimpArgs false
set_option linter.unusedVariables false
abbrev Ct := Bool × Bool × Bool × Bool × Bool × Int
/-- The controller after an input, if it is allowed. -/
def gv (a b c d e : Bool) (n x : Int) : Option Ct :=
  if x = 0 then some (!a, b, c && !a, d && !a, e, n)
  else if x = 1 then some (a, !b, c && !b, d && !b, e, n)
  else if x = 2 then (if (a && b && !e) = true then some (a, b, true, false, e, 0) else none)
  else if x = 3 then some (a, b, false, false, e, n)
  else if x = 4 then (if (c && !d) = true then some (a, b, c, true, e, n) else none)
  else if x = 5 then (if d = true then some (a, b, c, false, e, n) else none)
  else if x = 6 then some (a, b, false, false, true, n)
  else if x = 7 then some (a, b, c, d, e, 0)
  else if x = 8 then some (a, b, c && !decide (mn 4 (wrap64 (n + 1)) > 3), d && !decide (mn 4 (wrap64 (n + 1)) > 3), e, mn 4 (wrap64 (n + 1)))
  else (if (e && !a && !b) = true then some (a, b, c, d, false, n) else none)
theorem mn_comm (x y : Int) : mn x y = mn y x := by unfold mn; (repeat' split) <;> omega
def give7 (s : Ct) (o : Option Ct) : Bool × Bool × Bool × Bool × Bool × Int × Bool :=
  match o with
  | some t => (t.1, t.2.1, t.2.2.1, t.2.2.2.1, t.2.2.2.2.1, t.2.2.2.2.2, true)
  | none => (s.1, s.2.1, s.2.2.1, s.2.2.2.1, s.2.2.2.2.1, s.2.2.2.2.2, false)
theorem spec_gv (a b c d e : Bool) (n x : Int) : spec_l21Give.f a b c d e n x = some (give7 (a, b, c, d, e, n) (gv a b c d e n x)) := by
  unfold spec_l21Give.f gv
  simp only [spec_l21Off.f, Option.bind_some]
  by_cases h0 : x = 0
  · simp only [if_pos h0]; cases a <;> simp [give7]
  simp only [if_neg h0]
  by_cases h1 : x = 1
  · simp only [if_pos h1]; cases b <;> simp [give7]
  simp only [if_neg h1]
  by_cases h2 : x = 2
  · simp only [if_pos h2]; cases a <;> cases b <;> cases e <;> simp [give7]
  simp only [if_neg h2]
  by_cases h3 : x = 3
  · simp only [if_pos h3]; simp [give7]
  simp only [if_neg h3]
  by_cases h4 : x = 4
  · simp only [if_pos h4]; cases c <;> cases d <;> simp [give7]
  simp only [if_neg h4]
  by_cases h5 : x = 5
  · simp only [if_pos h5]; cases d <;> simp [give7]
  simp only [if_neg h5]
  by_cases h6 : x = 6
  · simp only [if_pos h6]; simp [give7]
  simp only [if_neg h6]
  by_cases h7 : x = 7
  · simp only [if_pos h7]; simp [give7]
  simp only [if_neg h7]
  by_cases h8 : x = 8
  · simp only [if_pos h8]
    by_cases hm : mn 4 (wrap64 (n + 1)) > 3
    · simp [give7, hm]
    · simp [give7, hm]
  simp only [if_neg h8]
  cases a <;> cases b <;> cases e <;> simp [give7]
def inp (s : Ct) (x : Int) : Ct × Int :=
  if 0 ≤ x ∧ x ≤ 9 then (match gv s.1 s.2.1 s.2.2.1 s.2.2.2.1 s.2.2.2.2.1 s.2.2.2.2.2 x with
    | some t => (t, 0)
    | none => (s, 5)) else (s, 2)
def fl7 (s : Ct) (y : Int) : Bool × Bool × Bool × Bool × Bool × Int × Int := (s.1, s.2.1, s.2.2.1, s.2.2.2.1, s.2.2.2.2.1, s.2.2.2.2.2, y)
def inpF (s : Ct) (x : Int) : Bool × Bool × Bool × Bool × Bool × Int × Int := if (inp s x).2 = 0 then fl7 (inp s x).1 0 else (false, false, false, false, false, 0, (inp s x).2)
theorem spec_inp (a b c d e : Bool) (n x : Int) : spec_l21Input.f a b c d e n x = some (fl7 (inp (a, b, c, d, e, n) x).1 (inp (a, b, c, d, e, n) x).2) := by
  unfold spec_l21Input.f spec_l01In.f inp
  by_cases h0 : 0 ≤ x
  · by_cases h9 : x ≤ 9
    · simp only [ge_iff_le, if_pos h0, decide_eq_true h9, Option.bind_some, if_true, if_pos (And.intro h0 h9), spec_gv]
      cases gv a b c d e n x <;> simp [give7, fl7]
    · simp only [ge_iff_le, if_pos h0, decide_eq_false h9, Option.bind_some, if_neg (show ¬ (0 ≤ x ∧ x ≤ 9) from fun h => h9 h.2)]
      simp [fl7]
  · simp only [ge_iff_le, if_neg h0, Option.bind_some, if_neg (show ¬ (0 ≤ x ∧ x ≤ 9) from fun h => h0 h.1)]
    simp [fl7]
theorem impl_inp (a b c d e : Bool) (n x : Int) : impl_giveInput.f a b c d e n x = some (inpF (a, b, c, d, e, n) x) := by
  unfold impl_giveInput.f inpF inp gv
  simp only [impl_safe.f, Option.bind_some, mn_comm (wrap64 (n + 1)) 4]
  by_cases h0 : x = 0
  · subst h0; cases a <;> simp [fl7]
  simp only [if_neg h0]
  by_cases h1 : x = 1
  · subst h1; cases b <;> simp [fl7]
  simp only [if_neg h1]
  by_cases h2 : x = 2
  · subst h2; cases a <;> cases b <;> cases e <;> simp [fl7]
  simp only [if_neg h2]
  by_cases h3 : x = 3
  · subst h3; simp [fl7]
  simp only [if_neg h3]
  by_cases h4 : x = 4
  · subst h4; cases c <;> cases d <;> simp [fl7]
  simp only [if_neg h4]
  by_cases h5 : x = 5
  · subst h5; cases d <;> simp [fl7]
  simp only [if_neg h5]
  by_cases h6 : x = 6
  · subst h6; simp [fl7]
  simp only [if_neg h6]
  by_cases h7 : x = 7
  · subst h7; simp [fl7]
  simp only [if_neg h7]
  by_cases h8 : x = 8
  · subst h8
    by_cases hm : mn 4 (wrap64 (n + 1)) > 3
    · simp [fl7, hm]
    · simp [fl7, hm]
  simp only [if_neg h8]
  by_cases h9 : x = 9
  · subst h9; cases a <;> cases b <;> cases e <;> simp [fl7]
  simp only [if_neg h9, if_neg (show ¬ (0 ≤ x ∧ x ≤ 9) by omega)]
  simp
/-- Is the controller sound? -/
def snd (a b c d e : Bool) (n : Int) : Bool := decide (0 ≤ n) && decide (n ≤ 4) && (!c || (a && b && !e && decide (n ≤ 3))) && (c || !d)
theorem spec_snd (a b c d e : Bool) (n : Int) : spec_IsSound.f a b c d e n = some (snd a b c d e n) := by
  unfold spec_IsSound.f spec_l01In.f snd
  by_cases h0 : 0 ≤ n <;> by_cases h4 : n ≤ 4 <;> by_cases h3 : n ≤ 3 <;> cases a <;> cases b <;> cases c <;> cases d <;> cases e <;> simp [h0, h4, h3, Int.not_le.1] <;> omega
theorem impl_snd (a b c d e : Bool) (n : Int) : impl_IsSound.f a b c d e n = some (snd a b c d e n) := by
  unfold impl_IsSound.f impl_within.f snd
  by_cases h0 : 0 ≤ n <;> by_cases h4 : n ≤ 4 <;> by_cases h3 : n ≤ 3 <;> cases a <;> cases b <;> cases c <;> cases d <;> cases e <;> simp [h0, h4, h3]
abbrev R8 := Bool × Bool × Bool × Bool × Bool × Int × Int × Int
def fl8 (s : Ct) (y z : Int) : R8 := (s.1, s.2.1, s.2.2.1, s.2.2.2.1, s.2.2.2.2.1, s.2.2.2.2.2, y, z)
/-- From input i on, q of them. -/
def runI (xs : List Int) : Nat → Nat → Ct → R8
  | 0, i, s => fl8 s (i : Int) 0
  | q + 1, i, s => if (inp s (rd xs (i : Int))).2 = 0 then runI xs q (i + 1) (inp s (rd xs (i : Int))).1 else fl8 s (i : Int) (inp s (rd xs (i : Int))).2
theorem spec_run (xs : List Int) (hn : xs.length ≤ 1000000) : ∀ q i (a b c d e : Bool) (n : Int), i + q = xs.length → Ev (fun k => spec_GiveInputs.l0 k xs (i : Int) a b c d e n) (runI xs q i (a, b, c, d, e, n)) := by
  intro q
  induction q with
  | zero =>
    intro i a b c d e n hi
    obtain rfl : i = xs.length := by omega
    refine Ev.dn ?_
    simp only [spec_GiveInputs.l0]
    simp only [if_neg (show ¬ (xs.length : Int) < (xs.length : Int) by omega)]
    exact Ev.now _
  | succ q ih =>
    intro i a b c d e n hi
    refine Ev.dn ?_
    simp only [spec_GiveInputs.l0, spec_inp, Option.bind_some, runI]
    simp only [if_pos (show (i : Int) < (xs.length : Int) by omega), if_pos (show (0 : Int) ≤ (i : Int) by omega), wrap_succ (show i < xs.length by omega) (show xs.length ≤ 9223372036854775807 by omega), fl7]
    by_cases h : (inp (a, b, c, d, e, n) (rd xs (i : Int))).2 = 0
    · simp only [if_pos h]
      exact ih (i + 1) _ _ _ _ _ _ (by omega)
    · simp only [if_neg h]
      exact Ev.now _
theorem impl_run (xs : List Int) (hn : xs.length ≤ 1000000) : ∀ q i (a b c d e : Bool) (n : Int), i + q = xs.length → Ev (fun k => impl_GiveInputs.l0 k xs xs (xs.length : Int) (i : Int) a b c d e n) (runI xs q i (a, b, c, d, e, n)) := by
  intro q
  induction q with
  | zero =>
    intro i a b c d e n hi
    obtain rfl : i = xs.length := by omega
    refine Ev.dn ?_
    simp only [impl_GiveInputs.l0]
    simp only [if_neg (show ¬ (xs.length : Int) < (xs.length : Int) by omega)]
    exact Ev.now _
  | succ q ih =>
    intro i a b c d e n hi
    refine Ev.dn ?_
    simp only [impl_GiveInputs.l0, impl_inp, Option.bind_some, runI, inpF]
    simp only [if_pos (show (i : Int) < (xs.length : Int) by omega), if_pos (show (0 : Int) ≤ (i : Int) by omega), wrap_succ (show i < xs.length by omega) (show xs.length ≤ 9223372036854775807 by omega)]
    by_cases h : (inp (a, b, c, d, e, n) (rd xs (i : Int))).2 = 0
    · simp only [if_pos h, fl7, if_true]
      exact ih (i + 1) _ _ _ _ _ _ (by omega)
    · simp only [if_neg h]
      exact Ev.now _
def giveAll (a b c d e : Bool) (n : Int) (xs : List Int) : R8 := if snd a b c d e n = true then (if 60 < xs.length then (false, false, false, false, false, 0, 0, 3) else runI xs xs.length 0 (a, b, c, d, e, n)) else (false, false, false, false, false, 0, 0, 1)
theorem GiveInputs_both (a b c d e : Bool) (n : Int) (xs : List Int) (hn : xs.length ≤ 1000000) : Ev (fun k => spec_GiveInputs.f k a b c d e n xs) (giveAll a b c d e n xs) ∧ Ev (fun k => impl_GiveInputs.f k a b c d e n xs) (giveAll a b c d e n xs) := by
  unfold spec_GiveInputs.f impl_GiveInputs.f giveAll
  simp only [spec_snd, impl_snd, Option.bind_some]
  cases snd a b c d e n with
  | false => exact ⟨Ev.now _, Ev.now _⟩
  | true =>
    simp only [if_true]
    by_cases h : 60 < xs.length
    · simp only [if_pos h, if_pos (show (xs.length : Int) > 60 by omega)]
      exact ⟨Ev.now _, Ev.now _⟩
    · simp only [if_neg h, if_neg (show ¬ (xs.length : Int) > 60 by omega)]
      exact ⟨spec_run xs hn xs.length 0 _ _ _ _ _ _ (by omega), impl_run xs hn xs.length 0 _ _ _ _ _ _ (by omega)⟩
def giveR (a b c d e : Bool) (n x : Int) : Bool × Bool × Bool × Bool × Bool × Int × Int := if snd a b c d e n = true then inpF (a, b, c, d, e, n) x else (false, false, false, false, false, 0, 1)
theorem impl_give (a b c d e : Bool) (n x : Int) : impl_GiveInput.f a b c d e n x = some (giveR a b c d e n x) := by
  unfold impl_GiveInput.f giveR
  simp only [impl_snd, impl_inp, Option.bind_some]
  cases snd a b c d e n <;> simp
/-- A place in the bytes and a state of the draws. -/
def Gd (L : List Int) (p z : Int) : Prop := 0 ≤ p ∧ p ≤ (L.length : Int) ∧ 0 ≤ z ∧ z < 2147483647
def By (L : List Int) : Prop := L.length ≤ 4096 ∧ ∀ j : Nat, j < L.length → 0 ≤ rd L (j : Int) ∧ rd L (j : Int) ≤ 255
theorem tm_bd {x n : Int} (hx : 0 ≤ x) (hn : 0 < n) : 0 ≤ Int.tmod x n ∧ Int.tmod x n < n := ⟨Int.tmod_nonneg n hx, Int.tmod_lt_of_pos x hn⟩
theorem next_ok {L : List Int} (hL : By L) {p z : Int} (g : Gd L p z) (n : Int) (h1 : 1 ≤ n) (h2 : n ≤ 256) : ∃ v p' z' : Int, spec_l01Next.f L p z n = some (v, p', z') ∧ Gd L p' z' ∧ 0 ≤ v ∧ v < n := by
  obtain ⟨g1, g2, g3, g4⟩ := g
  obtain ⟨hl, hb⟩ := hL
  unfold spec_l01Next.f
  by_cases c1 : n ≤ 1
  · rw [if_pos c1]
    exact ⟨0, p, z, rfl, ⟨g1, g2, g3, g4⟩, by omega, by omega⟩
  rw [if_neg c1]
  have hn : ¬ n = 0 := by omega
  have w1 : wrap64 (z * 48271) = z * 48271 := wrap_id (by omega) (by omega)
  have w2 : wrap64 (z * 48271 + 29) = z * 48271 + 29 := wrap_id (by omega) (by omega)
  obtain ⟨z0, z1⟩ := tm_bd (x := z * 48271 + 29) (n := 2147483647) (by omega) (by decide)
  simp only [w1, w2, if_neg hn]
  generalize Int.tmod (z * 48271 + 29) 2147483647 = y at z0 z1
  have q0 : Int.tdiv y 31 = y / 31 := Int.tdiv_eq_ediv_of_nonneg z0
  obtain ⟨q2, q3⟩ : 0 ≤ y / 31 ∧ y / 31 ≤ 2147483647 := by clear w1 w2 c1 hb; omega
  have q1 : wrap64 (y / 31) = y / 31 := wrap_id (by clear w1 w2 c1 hb q0; omega) (by clear w1 w2 c1 hb q0; omega)
  simp only [q0, q1]
  clear q0 q1 w1 w2
  generalize y / 31 = q at q2 q3
  by_cases c2 : p < (L.length : Int)
  · obtain ⟨m, rfl⟩ := Int.eq_ofNat_of_zero_le g1
    obtain ⟨r0, r1⟩ := hb m (by omega)
    have m0 : (m : Int) < 4096 := by clear z0 z1 q2 q3 r0 r1; omega
    obtain ⟨p1, p2⟩ : wrap64 ((m : Int) + 1) = (m : Int) + 1 ∧ wrap64 ((m : Int) + 1 - 1) = (m : Int) := by
      clear z0 z1 q2 q3 r0 r1 c2 g1 g2 hb hn
      refine ⟨wrap_id (by omega) (by omega), ?_⟩
      rw [wrap_id (by omega) (by omega)]
      omega
    obtain ⟨r2, r3⟩ : wrap64 (rd L (m : Int)) = rd L (m : Int) ∧ wrap64 (q + rd L (m : Int)) = q + rd L (m : Int) := by
      clear p1 p2 c2 g1 g2 hb hn
      generalize rd L (m : Int) = r at r0 r1
      exact ⟨wrap_id (by omega) (by omega), wrap_id (by omega) (by omega)⟩
    have k1 : 0 ≤ (m : Int) + 1 ∧ (m : Int) + 1 ≤ (L.length : Int) := by clear p1 p2 r2 r3 z0 z1 q2 q3 r0 r1; omega
    have k2 : 0 ≤ q + rd L (m : Int) := by clear p1 p2 r2 r3 z0 z1; omega
    have k3 : 0 < n := by clear p1 p2 r2 r3 z0 z1 q2 q3 r0 r1; omega
    simp only [if_pos c2, if_pos g1, if_pos h2, p1, p2, r2, r3]
    obtain ⟨a0, a1⟩ := tm_bd (x := rd L (m : Int)) (n := n) r0 k3
    obtain ⟨b0, b1⟩ := tm_bd (x := q + rd L (m : Int)) (n := n) k2 k3
    by_cases c3 : Int.tmod ((m : Int) + 1) 2 = 0
    · rw [if_pos c3]
      exact ⟨_, _, _, rfl, ⟨k1.1, k1.2, z0, z1⟩, a0, a1⟩
    · rw [if_neg c3]
      exact ⟨_, _, _, rfl, ⟨k1.1, k1.2, z0, z1⟩, b0, b1⟩
  · rw [if_neg c2]
    obtain ⟨b0, b1⟩ := tm_bd (x := q) (n := n) (by omega) (by omega)
    exact ⟨_, _, _, rfl, ⟨g1, g2, z0, z1⟩, b0, b1⟩
theorem pick_ok {L : List Int} (hL : By L) {p z : Int} (g : Gd L p z) (l : List Int) (h1 : 1 ≤ l.length) (h2 : l.length ≤ 256) : ∃ v p' z' : Int, spec_l01Pick.f L p z l = some (v, p', z') ∧ Gd L p' z' := by
  obtain ⟨v, p', z', e, g', v0, v1⟩ := next_ok hL g (l.length : Int) (by omega) (by omega)
  refine ⟨rd l v, p', z', ?_, g'⟩
  unfold spec_l01Pick.f
  rw [e, Option.bind_some, if_pos v0, if_pos v1]
theorem from_ev {L : List Int} (hL : By L) : ∃ z, Ev (fun k => spec_l01From.f k L) (L, 0, z) ∧ Gd L 0 z := by
  have loop : ∀ (d i : Nat) (z : Int), i + d = 64 → 0 ≤ z → z < 2147483647 → ∃ z', Ev (fun k => spec_l01From.l0 k L (i : Int) L 0 z) (L, 0, z') ∧ Gd L 0 z' := by
    intro d
    induction d with
    | zero =>
      intro i z hi h0 h1
      refine ⟨z, Ev.dn ?_, by omega, by omega, h0, h1⟩
      simp only [spec_l01From.l0, if_neg (show ¬ (i : Int) < 64 by omega), ite_self]
      exact Ev.now _
    | succ d ih =>
      intro i z hi h0 h1
      by_cases c : (i : Int) < (L.length : Int)
      · obtain ⟨r0, r1⟩ := hL.2 i (by omega)
        have w1 : wrap64 (z * 83) = z * 83 := wrap_id (by clear ih; omega) (by clear ih; omega)
        have w2 : wrap64 (rd L (i : Int)) = rd L (i : Int) := wrap_id (by clear ih; omega) (by clear ih; omega)
        have w3 : wrap64 (z * 83 + rd L (i : Int)) = z * 83 + rd L (i : Int) := wrap_id (by clear ih; omega) (by clear ih; omega)
        obtain ⟨z0, z1⟩ := tm_bd (x := z * 83 + rd L (i : Int)) (n := 2147483647) (by clear ih; omega) (by decide)
        obtain ⟨z', h2, h3⟩ := ih (i + 1) _ (by clear ih; omega) z0 z1
        refine ⟨z', Ev.dn ?_, h3⟩
        have hw := wrap_succ (i := i) (n := 64) (by clear ih; omega) (by omega)
        simp only [spec_l01From.l0, if_pos c, if_pos (show (i : Int) < 64 by clear ih; omega), if_pos (show (0 : Int) ≤ (i : Int) by clear ih; omega), w1, w2, w3, hw]
        exact h2
      · refine ⟨z, Ev.dn ?_, by omega, by omega, h0, h1⟩
        simp only [spec_l01From.l0, if_neg c]
        exact Ev.now _
  unfold spec_l01From.f
  exact loop 64 0 61043 (by omega) (by omega) (by omega)
theorem inputs_ok {L : List Int} (hL : By L) : ∀ (c : Nat) (x : List Int) (p z : Int), Gd L p z → x.length + c ≤ 90 → ∃ (xs : List Int) (p' z' : Int), Ev (fun k => spec_l21Inputs.l0 k x (c : Int) L p z) (xs, p', z') ∧ Gd L p' z' ∧ xs.length ≤ 100 := by
  intro c
  induction c with
  | zero =>
    intro x p z g hx
    obtain ⟨v, p1, z1, e1, g1, v0, v1⟩ := next_ok hL g 40 (by omega) (by omega)
    by_cases c0 : v = 0
    · obtain ⟨u, p2, z2, e2, g2⟩ := pick_ok hL g1 [(-1), 10] (by decide) (by decide)
      refine ⟨x ++ [u], p2, z2, Ev.dn ?_, g2, by rw [List.length_append, List.length_singleton]; omega⟩
      simp only [spec_l21Inputs.l0, if_neg (show ¬ ((0 : Nat) : Int) > 0 by omega), e1, Option.bind_some, if_pos c0, e2, if_pos (show x.length < 17592186044416 by omega)]
      exact Ev.now _
    · by_cases c1 : v = 1
      · obtain ⟨u, p2, z2, e2, g2, u0, u1⟩ := next_ok hL g1 2 (by omega) (by omega)
        have w : wrap64 (60 + u) = 60 + u := wrap_id (by omega) (by omega)
        refine ⟨List.replicate (60 + u).toNat 0, p2, z2, Ev.dn ?_, g2, by rw [List.length_replicate]; omega⟩
        simp only [spec_l21Inputs.l0, if_neg (show ¬ ((0 : Nat) : Int) > 0 by omega), e1, Option.bind_some, if_neg c0, if_pos c1, e2, w, if_pos (show (0 : Int) ≤ 60 + u by omega), if_pos (show (60 + u).toNat ≤ 35184372088832 by omega)]
        exact Ev.now _
      · refine ⟨x, p1, z1, Ev.dn ?_, g1, by omega⟩
        simp only [spec_l21Inputs.l0, if_neg (show ¬ ((0 : Nat) : Int) > 0 by omega), e1, Option.bind_some, if_neg c0, if_neg c1]
        exact Ev.now _
  | succ c ih =>
    intro x p z g hx
    obtain ⟨v, p1, z1, e1, g1, v0, v1⟩ := next_ok hL g 10 (by omega) (by omega)
    obtain ⟨u, p2, z2, e2, g2⟩ := pick_ok hL g1 [v, 7, 8, 8, 4, 5, 2] (by simp) (by simp)
    obtain ⟨xs, p', z', h1, h2, h3⟩ := ih (x ++ [u]) p2 z2 g2 (by clear ih; rw [List.length_append, List.length_singleton]; omega)
    refine ⟨xs, p', z', Ev.dn ?_, h2, h3⟩
    have w : wrap64 (((c + 1 : Nat) : Int) - 1) = (c : Int) := by rw [wrap_id (by clear ih; omega) (by clear ih; omega)]; clear ih; omega
    simp only [spec_l21Inputs.l0, if_pos (show ((c + 1 : Nat) : Int) > 0 by clear ih; omega), e1, Option.bind_some, e2, if_pos (show x.length < 17592186044416 by clear ih; omega), w]
    exact h1
theorem l21Inputs_ok {L : List Int} (hL : By L) {p z : Int} (g : Gd L p z) : ∃ (xs : List Int) (p' z' : Int), Ev (fun k => spec_l21Inputs.f k L p z) (xs, p', z') ∧ Gd L p' z' ∧ xs.length ≤ 100 := by
  obtain ⟨v, p1, z1, e1, g1, v0, v1⟩ := next_ok hL g 2 (by omega) (by omega)
  obtain ⟨u, p2, z2, e2, g2, u0, u1⟩ := next_ok hL g1 8 (by omega) (by omega)
  obtain ⟨m, rfl⟩ := Int.eq_ofNat_of_zero_le u0
  unfold spec_l21Inputs.f
  by_cases c : v = 0
  · obtain ⟨xs, p', z', h1, h2, h3⟩ := inputs_ok hL m [0, 1, 2] p2 z2 g2 (by simp; omega)
    refine ⟨xs, p', z', ?_, h2, h3⟩
    simp only [Option.bind_some, e1, if_pos c, List.length_nil, List.nil_append]
    simp only [if_pos (show 0 + ([0, 1, 2] : List Int).length < 17592186044416 by decide)]
    refine Ev.dn ?_
    simp only [spec_l21Inputs.j0, e2, Option.bind_some]
    exact h1
  · obtain ⟨xs, p', z', h1, h2, h3⟩ := inputs_ok hL m [] p2 z2 g2 (by simp; omega)
    refine ⟨xs, p', z', ?_, h2, h3⟩
    simp only [Option.bind_some, e1, if_neg c]
    refine Ev.dn ?_
    simp only [spec_l21Inputs.j0, e2, Option.bind_some]
    exact h1
theorem l21Draw_ok {L : List Int} (hL : By L) {p z : Int} (g : Gd L p z) : ∃ (a b c d e : Bool) (n p' z' : Int), Ev (fun k => spec_l21Draw.f k L p z) (a, b, c, d, e, n, p', z') ∧ Gd L p' z' := by
  obtain ⟨xs, p1, z1, h1, g1, hl⟩ := l21Inputs_ok hL g
  have hG := (GiveInputs_both false false false false false 0 xs (by omega)).1
  generalize giveAll false false false false false 0 xs = G at hG
  obtain ⟨v, p2, z2, e2, g2, _, _⟩ := next_ok hL g1 24 (by omega) (by omega)
  have hg : Ev (fun k => spec_l21Good.f k L p z) (G.1, G.2.1, G.2.2.1, G.2.2.2.1, G.2.2.2.2.1, G.2.2.2.2.2.1, p1, z1) := by
    unfold spec_l21Good.f
    exact Ev.bind h1 (Ev.bind hG (Ev.now _))
  unfold spec_l21Draw.f
  by_cases c0 : v = 0
  · refine ⟨G.1, G.2.1, true, G.2.2.2.1, G.2.2.2.2.1, G.2.2.2.2.2.1, p2, z2, Ev.bind hg ?_, g2⟩
    simp only [e2, Option.bind_some, if_pos c0]
    exact Ev.now _
  by_cases c1 : v = 1
  · refine ⟨G.1, G.2.1, G.2.2.1, true, G.2.2.2.2.1, G.2.2.2.2.2.1, p2, z2, Ev.bind hg ?_, g2⟩
    simp only [e2, Option.bind_some, if_neg c0, if_pos c1]
    exact Ev.now _
  by_cases c2 : v = 2
  · obtain ⟨u, p3, z3, e3, g3⟩ := pick_ok hL g2 [(-1), 3, 4, 5] (by decide) (by decide)
    refine ⟨G.1, G.2.1, G.2.2.1, G.2.2.2.1, G.2.2.2.2.1, u, p3, z3, Ev.bind hg ?_, g3⟩
    simp only [e2, Option.bind_some, if_neg c0, if_neg c1, if_pos c2, e3]
    exact Ev.now _
  by_cases c3 : v = 3
  · refine ⟨G.1, G.2.1, G.2.2.1, G.2.2.2.1, true, G.2.2.2.2.2.1, p2, z2, Ev.bind hg ?_, g2⟩
    simp only [e2, Option.bind_some, if_neg c0, if_neg c1, if_neg c2, if_pos c3]
    exact Ev.now _
  · refine ⟨G.1, G.2.1, G.2.2.1, G.2.2.2.1, G.2.2.2.2.1, G.2.2.2.2.2.1, p2, z2, Ev.bind hg ?_, g2⟩
    simp only [e2, Option.bind_some, if_neg c0, if_neg c1, if_neg c2, if_neg c3]
    exact Ev.now _
theorem snd_inp (a b c d e : Bool) (n x : Int) (h : snd a b c d e n = true) (h2 : (inp (a, b, c, d, e, n) x).2 = 0) :
    snd (inp (a, b, c, d, e, n) x).1.1 (inp (a, b, c, d, e, n) x).1.2.1 (inp (a, b, c, d, e, n) x).1.2.2.1 (inp (a, b, c, d, e, n) x).1.2.2.2.1 (inp (a, b, c, d, e, n) x).1.2.2.2.2.1 (inp (a, b, c, d, e, n) x).1.2.2.2.2.2 = true := by
  have hn : 0 ≤ n ∧ n ≤ 4 := by
    simp only [snd, Bool.and_eq_true, decide_eq_true_eq] at h
    exact ⟨h.1.1.1, h.1.1.2⟩
  have hm : wrap64 (n + 1) = n + 1 := wrap_id (by omega) (by omega)
  obtain ⟨m0, m1⟩ : 0 ≤ mn 4 (n + 1) ∧ mn 4 (n + 1) ≤ 4 := by clear hm; unfold mn; split <;> omega
  unfold inp at h2 ⊢
  split at h2
  · rename_i hx
    rw [if_pos hx]
    simp only [gv, hm] at h2 ⊢
    generalize mn 4 (n + 1) = m at m0 m1 h2 ⊢
    by_cases x0 : x = 0
    · simp only [if_pos x0]; revert h; clear h2 hm; cases a <;> cases b <;> cases c <;> cases d <;> cases e <;> simp [snd] <;> omega
    by_cases x1 : x = 1
    · simp only [if_neg x0, if_pos x1]; revert h; clear h2 hm; cases a <;> cases b <;> cases c <;> cases d <;> cases e <;> simp [snd] <;> omega
    by_cases x2 : x = 2
    · simp only [if_neg x0, if_neg x1, if_pos x2] at h2 ⊢; clear hm; revert h h2; cases a <;> cases b <;> cases c <;> cases d <;> cases e <;> simp [snd] <;> omega
    by_cases x3 : x = 3
    · simp only [if_neg x0, if_neg x1, if_neg x2, if_pos x3]; revert h; clear h2 hm; cases a <;> cases b <;> cases c <;> cases d <;> cases e <;> simp [snd] <;> omega
    by_cases x4 : x = 4
    · simp only [if_neg x0, if_neg x1, if_neg x2, if_neg x3, if_pos x4] at h2 ⊢; clear hm; revert h h2; cases a <;> cases b <;> cases c <;> cases d <;> cases e <;> simp [snd] <;> omega
    by_cases x5 : x = 5
    · simp only [if_neg x0, if_neg x1, if_neg x2, if_neg x3, if_neg x4, if_pos x5] at h2 ⊢; clear hm; revert h h2; cases a <;> cases b <;> cases c <;> cases d <;> cases e <;> simp [snd] <;> omega
    by_cases x6 : x = 6
    · simp only [if_neg x0, if_neg x1, if_neg x2, if_neg x3, if_neg x4, if_neg x5, if_pos x6]; revert h; clear h2 hm; cases a <;> cases b <;> cases c <;> cases d <;> cases e <;> simp [snd] <;> omega
    by_cases x7 : x = 7
    · simp only [if_neg x0, if_neg x1, if_neg x2, if_neg x3, if_neg x4, if_neg x5, if_neg x6, if_pos x7]; revert h; clear h2 hm; cases a <;> cases b <;> cases c <;> cases d <;> cases e <;> simp [snd] <;> omega
    by_cases x8 : x = 8
    · simp only [if_neg x0, if_neg x1, if_neg x2, if_neg x3, if_neg x4, if_neg x5, if_neg x6, if_neg x7, if_pos x8]
      by_cases c3 : m > 3
      · rw [decide_eq_true c3]
        simp only [snd, Bool.not_true, Bool.and_false, Bool.not_false, Bool.true_or, Bool.or_true, Bool.and_true, Bool.and_eq_true, decide_eq_true_eq]
        exact ⟨m0, m1⟩
      · rw [decide_eq_false c3]
        revert h; clear h2 hm
        cases a <;> cases b <;> cases c <;> cases d <;> cases e <;> simp [snd] <;> omega
    · simp only [if_neg x0, if_neg x1, if_neg x2, if_neg x3, if_neg x4, if_neg x5, if_neg x6, if_neg x7, if_neg x8] at h2 ⊢; clear hm; revert h h2; cases a <;> cases b <;> cases c <;> cases d <;> cases e <;> simp [snd] <;> omega
  · exact absurd h2 (show ¬ (2 : Int) = 0 by decide)
theorem inp_code (s : Ct) (x : Int) : (inp s x).2 = 0 ∨ (inp s x).2 = 2 ∨ (inp s x).2 = 5 := by
  unfold inp
  split
  · split
    · exact .inl rfl
    · exact .inr (.inr rfl)
  · exact .inr (.inl rfl)
theorem impl_may (a b c d e : Bool) (n : Int) : impl_MayFire.f a b c d e n = some (if snd a b c d e n = true then (c && !d, 0) else (false, 1)) := by
  unfold impl_MayFire.f
  rw [impl_snd, Option.bind_some]
  cases snd a b c d e n with
  | false => rfl
  | true => cases c <;> cases d <;> rfl
theorem safe_ok (a b c d e : Bool) (n : Int) (h : snd a b c d e n = true) : giveR a b c d e n 6 = (a, b, false, false, true, n, 0) ∧ impl_MayFire.f a b false false true n = some (false, 0) := by
  constructor
  · unfold giveR
    rw [if_pos h]
    rfl
  · rw [impl_may, if_pos]
    · rfl
    · revert h
      cases a <;> cases b <;> cases c <;> cases d <;> cases e <;> simp [snd] <;> omega
/-- The law's tail: the result is what the inputs before the index lead to. -/
theorem ctl_end (xs : List Int) (i : Nat) (z : Int) (a b c d e : Bool) (n : Int) (h : snd a b c d e n = true) (hz : z = 0 ∨ (i < xs.length ∧ z ≠ 0 ∧ (inp (a, b, c, d, e, n) (rd xs (i : Int))).2 = z)) :
    Ev (fun k => laws_FnControllers.l0 k xs (i : Int) z (i : Int) a b c d e n a b c d e n) true := by
  obtain ⟨g6, mf⟩ := safe_ok a b c d e n h
  refine Ev.dn ?_
  simp only [laws_FnControllers.l0, if_neg (Int.lt_irrefl _), beq_self_eq_true, Bool.not_true, Bool.or_self, Bool.false_eq_true, if_false, impl_snd, Option.bind_some, h]
  refine Ev.dn ?_
  rcases hz with hz | ⟨hi, hz, hc⟩
  · simp only [laws_FnControllers.j3, Bool.false_eq_true, if_false, if_pos hz, impl_give, Option.bind_some, g6, mf, if_true, Bool.not_false]
    exact Ev.now _
  · have hg : giveR a b c d e n (rd xs (i : Int)) = (false, false, false, false, false, 0, z) := by
      unfold giveR inpF
      rw [if_pos h, if_neg (by rw [hc]; exact hz), hc]
    simp only [laws_FnControllers.j3, Bool.false_eq_true, if_false, if_neg hz, if_pos (show (0 : Int) ≤ (i : Int) by omega), if_pos (show (i : Int) < (xs.length : Int) by omega), impl_give, Option.bind_some, hg, g6, mf, if_true, Bool.not_false]
    exact Ev.now _
theorem ctl_run (xs : List Int) (hn : xs.length ≤ 1000000) : ∀ q i (a b c d e : Bool) (n : Int), i + q = xs.length → snd a b c d e n = true →
    ∃ (j : Nat) (t : Ct) (z : Int), runI xs q i (a, b, c, d, e, n) = fl8 t (j : Int) z ∧ i ≤ j ∧ z ≠ 1 ∧ z ≠ 3 ∧ Ev (fun k => laws_FnControllers.l0 k xs (j : Int) z (i : Int) t.1 t.2.1 t.2.2.1 t.2.2.2.1 t.2.2.2.2.1 t.2.2.2.2.2 a b c d e n) true := by
  intro q
  induction q with
  | zero =>
    intro i a b c d e n _ h
    exact ⟨i, (a, b, c, d, e, n), 0, rfl, Nat.le_refl _, by decide, by decide, ctl_end xs i 0 a b c d e n h (.inl rfl)⟩
  | succ q ih =>
    intro i a b c d e n hi h
    have hil : i < xs.length := by omega
    by_cases hc : (inp (a, b, c, d, e, n) (rd xs (i : Int))).2 = 0
    · obtain ⟨j, t, z, h1, h2, h3, h4, h5⟩ := ih (i + 1) _ _ _ _ _ _ (by omega) (snd_inp a b c d e n _ h hc)
      refine ⟨j, t, z, ?_, by omega, h3, h4, Ev.dn ?_⟩
      · simp only [runI, if_pos hc]
        exact h1
      · have hg : giveR a b c d e n (rd xs (i : Int)) = fl7 (inp (a, b, c, d, e, n) (rd xs (i : Int))).1 0 := by
          unfold giveR inpF
          rw [if_pos h, if_pos hc]
        simp only [laws_FnControllers.l0, if_pos (show (i : Int) < (j : Int) by omega), if_pos (show (0 : Int) ≤ (i : Int) by omega), if_pos (show (i : Int) < (xs.length : Int) by omega), impl_give, Option.bind_some, hg, fl7, if_true, wrap_succ hil (show xs.length ≤ 9223372036854775807 by omega)]
        exact h5
    · refine ⟨i, (a, b, c, d, e, n), (inp (a, b, c, d, e, n) (rd xs (i : Int))).2, ?_, Nat.le_refl _, ?_, ?_, ctl_end xs i _ a b c d e n h (.inr ⟨hil, hc, rfl⟩)⟩
      · simp only [runI, if_neg hc]
      · rcases inp_code (a, b, c, d, e, n) (rd xs (i : Int)) with h1 | h1 | h1 <;> rw [h1] <;> decide
      · rcases inp_code (a, b, c, d, e, n) (rd xs (i : Int)) with h1 | h1 | h1 <;> rw [h1] <;> decide
theorem drawGs_ok {L : List Int} (hL : By L) : ∃ (a b c d e : Bool) (n : Int) (xs : List Int), Ev (fun k => spec_DrawGiveInputs.f k L) (a, b, c, d, e, n, xs) ∧ xs.length ≤ 100 := by
  obtain ⟨z, hz, g⟩ := from_ev hL
  obtain ⟨a, b, c, d, e, n, p1, z1, h1, g1⟩ := l21Draw_ok hL g
  obtain ⟨v, p2, z2, e2, g2, _, _⟩ := next_ok hL g1 2 (by omega) (by omega)
  obtain ⟨xs, p3, z3, h3, g3, hl⟩ := l21Inputs_ok hL g2
  unfold spec_DrawGiveInputs.f
  by_cases c0 : v = 0
  · refine ⟨false, false, false, false, false, 0, xs, Ev.bind hz (Ev.bind h1 ?_), hl⟩
    simp only [e2, Option.bind_some, if_pos c0]
    exact Ev.bind h3 (Ev.now _)
  · refine ⟨a, b, c, d, e, n, xs, Ev.bind hz (Ev.bind h1 ?_), hl⟩
    simp only [e2, Option.bind_some, if_neg c0]
    exact Ev.bind h3 (Ev.now _)
theorem FnControllers : ∀ (l0 : List Int), (l0.length ≤ reachBytes ∧ ∀ y ∈ l0, (Lit.int .u8 y).wf = true) → ∃ k, laws_FnControllers.f k l0 = some true := by
  intro L ⟨_, hb⟩
  apply Ev.rounds
  unfold laws_FnControllers.f laws_big.f
  simp only [Option.bind_some]
  by_cases hbig : (L.length : Int) > 4096
  · simp only [decide_eq_true hbig, if_true]; exact Ev.now _
  simp only [decide_eq_false hbig, Bool.false_eq_true, if_false]
  have hL : By L := by
    refine ⟨by omega, fun j hj => ?_⟩
    rw [rd_nat hj]
    have := hb _ (List.getElem_mem hj)
    simp only [Lit.wf, Bool.and_eq_true, decide_eq_true_eq] at this
    have m1 : IntKind.u8.min = 0 := by decide
    have m2 : IntKind.u8.max = 255 := by decide
    omega
  obtain ⟨a, b, c, d, e, n, xs, hd, hl⟩ := drawGs_ok hL
  obtain ⟨s1, s2⟩ := GiveInputs_both a b c d e n xs (by omega)
  refine Ev.bind hd (Ev.bind s2 (Ev.bind s1 ?_))
  simp only [beq_self_eq_true, bne_self_eq_false, Bool.not_true, Bool.or_self, Bool.false_eq_true, if_false, if_true]
  refine Ev.dn ?_
  simp only [laws_FnControllers.j0, Bool.false_eq_true, if_false]
  have out : ∀ (r : R8), r.2.2.2.2.2.2.2 = 1 ∨ r.2.2.2.2.2.2.2 = 3 → Ev (fun k => if r.2.2.2.2.2.2.2 = 1 then laws_FnControllers.j1 k xs r.2.2.2.2.2.2.1 r.2.2.2.2.2.2.2 true a b c d e n r.1 r.2.1 r.2.2.1 r.2.2.2.1 r.2.2.2.2.1 r.2.2.2.2.2.1 else laws_FnControllers.j1 k xs r.2.2.2.2.2.2.1 r.2.2.2.2.2.2.2 (r.2.2.2.2.2.2.2 == 3) a b c d e n r.1 r.2.1 r.2.2.1 r.2.2.2.1 r.2.2.2.2.1 r.2.2.2.2.2.1) true := by
    intro r hr
    by_cases h1 : r.2.2.2.2.2.2.2 = 1
    · simp only [if_pos h1]
      refine Ev.dn ?_
      simp only [laws_FnControllers.j1, if_true]
      exact Ev.now _
    · simp only [if_neg h1, show (r.2.2.2.2.2.2.2 == 3) = true from beq_iff_eq.2 (hr.resolve_left h1)]
      refine Ev.dn ?_
      simp only [laws_FnControllers.j1, if_true]
      exact Ev.now _
  by_cases hs : snd a b c d e n = true
  · by_cases h60 : 60 < xs.length
    · refine out _ (.inr ?_)
      unfold giveAll
      rw [if_pos hs, if_pos h60]
    · obtain ⟨j, t, z, h1, _, h3, h4, h5⟩ := ctl_run xs (by omega) xs.length 0 a b c d e n (by omega) hs
      have hG : giveAll a b c d e n xs = fl8 t (j : Int) z := by unfold giveAll; rw [if_pos hs, if_neg h60]; exact h1
      rw [hG]
      simp only [fl8, if_neg h3]
      refine Ev.dn ?_
      simp only [laws_FnControllers.j1, if_neg h3, show (z == 3) = false from beq_eq_false_iff_ne.2 h4, Bool.false_eq_true, if_false]
      exact h5
  · refine out _ (.inl ?_)
    unfold giveAll
    rw [if_neg hs]
end Go.Proofs.Ytapcjchgcppanaa.Pure
