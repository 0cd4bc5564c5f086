/- The law FnInputs as a statement over numbers and lists, proved; no condition but the sizes and ranges that every input has. -/
import Derived.Test.YtapcjchgcppanaaF38
import Derived.Test.YtapcjchgcppanaaEv
namespace Go.Proofs.Ytapcjchgcppanaa.Pure
open Go.RowKit Go.Proofs.Ytapcjchgcppanaa.Pall Go.Proofs.YtapcjchgcppanaaW.PrintWords
set_option linter.unusedSimpArgs false
set_option linter.unusedVariables false
abbrev Ct := Bool × Bool × Bool × Bool × Bool × Int
/-- The controller after an input, if it is allowed. -/
def gv (a b c d e : Bool) (n x : Int) : Option Ct :=
  if x = 0 then some (!a, b, c && !a, d && !a, e, n)
  else if x = 1 then some (a, !b, c && !b, d && !b, e, n)
  else if x = 2 then (if (a && b && !e) = true then some (a, b, true, false, e, 0) else none)
  else if x = 3 then some (a, b, false, false, e, n)
  else if x = 4 then (if (c && !d) = true then some (a, b, c, true, e, n) else none)
  else if x = 5 then (if d = true then some (a, b, c, false, e, n) else none)
  else if x = 6 then some (a, b, false, false, true, n)
  else if x = 7 then some (a, b, c, d, e, 0)
  else if x = 8 then some (a, b, c && !decide (mn 4 (wrap64 (n + 1)) > 3), d && !decide (mn 4 (wrap64 (n + 1)) > 3), e, mn 4 (wrap64 (n + 1)))
  else (if (e && !a && !b) = true then some (a, b, c, d, false, n) else none)
theorem mn_comm (x y : Int) : mn x y = mn y x := by unfold mn; (repeat' split) <;> omega
def give7 (s : Ct) (o : Option Ct) : Bool × Bool × Bool × Bool × Bool × Int × Bool :=
  match o with
  | some t => (t.1, t.2.1, t.2.2.1, t.2.2.2.1, t.2.2.2.2.1, t.2.2.2.2.2, true)
  | none => (s.1, s.2.1, s.2.2.1, s.2.2.2.1, s.2.2.2.2.1, s.2.2.2.2.2, false)
theorem spec_gv (a b c d e : Bool) (n x : Int) : spec_l21Give.f a b c d e n x = some (give7 (a, b, c, d, e, n) (gv a b c d e n x)) := by
  unfold spec_l21Give.f gv
  simp only [spec_l21Off.f, Option.bind_some]
  by_cases h0 : x = 0
  · simp only [if_pos h0]; cases a <;> simp [give7]
  simp only [if_neg h0]
  by_cases h1 : x = 1
  · simp only [if_pos h1]; cases b <;> simp [give7]
  simp only [if_neg h1]
  by_cases h2 : x = 2
  · simp only [if_pos h2]; cases a <;> cases b <;> cases e <;> simp [give7]
  simp only [if_neg h2]
  by_cases h3 : x = 3
  · simp only [if_pos h3]; simp [give7]
  simp only [if_neg h3]
  by_cases h4 : x = 4
  · simp only [if_pos h4]; cases c <;> cases d <;> simp [give7]
  simp only [if_neg h4]
  by_cases h5 : x = 5
  · simp only [if_pos h5]; cases d <;> simp [give7]
  simp only [if_neg h5]
  by_cases h6 : x = 6
  · simp only [if_pos h6]; simp [give7]
  simp only [if_neg h6]
  by_cases h7 : x = 7
  · simp only [if_pos h7]; simp [give7]
  simp only [if_neg h7]
  by_cases h8 : x = 8
  · simp only [if_pos h8]
    by_cases hm : mn 4 (wrap64 (n + 1)) > 3
    · simp [give7, hm]
    · simp [give7, hm]
  simp only [if_neg h8]
  cases a <;> cases b <;> cases e <;> simp [give7]
def inp (s : Ct) (x : Int) : Ct × Int :=
  if 0 ≤ x ∧ x ≤ 9 then (match gv s.1 s.2.1 s.2.2.1 s.2.2.2.1 s.2.2.2.2.1 s.2.2.2.2.2 x with
    | some t => (t, 0)
    | none => (s, 5)) else (s, 2)
def fl7 (s : Ct) (y : Int) : Bool × Bool × Bool × Bool × Bool × Int × Int := (s.1, s.2.1, s.2.2.1, s.2.2.2.1, s.2.2.2.2.1, s.2.2.2.2.2, y)
def inpF (s : Ct) (x : Int) : Bool × Bool × Bool × Bool × Bool × Int × Int := if (inp s x).2 = 0 then fl7 (inp s x).1 0 else (false, false, false, false, false, 0, (inp s x).2)
theorem spec_inp (a b c d e : Bool) (n x : Int) : spec_l21Input.f a b c d e n x = some (fl7 (inp (a, b, c, d, e, n) x).1 (inp (a, b, c, d, e, n) x).2) := by
  unfold spec_l21Input.f spec_l01In.f inp
  by_cases h0 : 0 ≤ x
  · by_cases h9 : x ≤ 9
    · simp only [ge_iff_le, if_pos h0, decide_eq_true h9, Option.bind_some, if_true, if_pos (And.intro h0 h9), spec_gv]
      cases gv a b c d e n x <;> simp [give7, fl7]
    · simp only [ge_iff_le, if_pos h0, decide_eq_false h9, Option.bind_some, if_neg (show ¬ (0 ≤ x ∧ x ≤ 9) from fun h => h9 h.2)]
      simp [fl7]
  · simp only [ge_iff_le, if_neg h0, Option.bind_some, if_neg (show ¬ (0 ≤ x ∧ x ≤ 9) from fun h => h0 h.1)]
    simp [fl7]
theorem impl_inp (a b c d e : Bool) (n x : Int) : impl_giveInput.f a b c d e n x = some (inpF (a, b, c, d, e, n) x) := by
  unfold impl_giveInput.f inpF inp gv
  simp only [impl_safe.f, Option.bind_some, mn_comm (wrap64 (n + 1)) 4]
  by_cases h0 : x = 0
  · subst h0; cases a <;> simp [fl7]
  simp only [if_neg h0]
  by_cases h1 : x = 1
  · subst h1; cases b <;> simp [fl7]
  simp only [if_neg h1]
  by_cases h2 : x = 2
  · subst h2; cases a <;> cases b <;> cases e <;> simp [fl7]
  simp only [if_neg h2]
  by_cases h3 : x = 3
  · subst h3; simp [fl7]
  simp only [if_neg h3]
  by_cases h4 : x = 4
  · subst h4; cases c <;> cases d <;> simp [fl7]
  simp only [if_neg h4]
  by_cases h5 : x = 5
  · subst h5; cases d <;> simp [fl7]
  simp only [if_neg h5]
  by_cases h6 : x = 6
  · subst h6; simp [fl7]
  simp only [if_neg h6]
  by_cases h7 : x = 7
  · subst h7; simp [fl7]
  simp only [if_neg h7]
  by_cases h8 : x = 8
  · subst h8
    by_cases hm : mn 4 (wrap64 (n + 1)) > 3
    · simp [fl7, hm]
    · simp [fl7, hm]
  simp only [if_neg h8]
  by_cases h9 : x = 9
  · subst h9; cases a <;> cases b <;> cases e <;> simp [fl7]
  simp only [if_neg h9, if_neg (show ¬ (0 ≤ x ∧ x ≤ 9) by omega)]
  simp
/-- Is the controller sound? -/
def snd (a b c d e : Bool) (n : Int) : Bool := decide (0 ≤ n) && decide (n ≤ 4) && (!c || (a && b && !e && decide (n ≤ 3))) && (c || !d)
theorem spec_snd (a b c d e : Bool) (n : Int) : spec_IsSound.f a b c d e n = some (snd a b c d e n) := by
  unfold spec_IsSound.f spec_l01In.f snd
  by_cases h0 : 0 ≤ n <;> by_cases h4 : n ≤ 4 <;> by_cases h3 : n ≤ 3 <;> cases a <;> cases b <;> cases c <;> cases d <;> cases e <;> simp [h0, h4, h3, Int.not_le.1] <;> omega
theorem impl_snd (a b c d e : Bool) (n : Int) : impl_IsSound.f a b c d e n = some (snd a b c d e n) := by
  unfold impl_IsSound.f impl_within.f snd
  by_cases h0 : 0 ≤ n <;> by_cases h4 : n ≤ 4 <;> by_cases h3 : n ≤ 3 <;> cases a <;> cases b <;> cases c <;> cases d <;> cases e <;> simp [h0, h4, h3]
abbrev R8 := Bool × Bool × Bool × Bool × Bool × Int × Int × Int
def fl8 (s : Ct) (y z : Int) : R8 := (s.1, s.2.1, s.2.2.1, s.2.2.2.1, s.2.2.2.2.1, s.2.2.2.2.2, y, z)
/-- From input i on, q of them. -/
def runI (xs : List Int) : Nat → Nat → Ct → R8
  | 0, i, s => fl8 s (i : Int) 0
  | q + 1, i, s => if (inp s (rd xs (i : Int))).2 = 0 then runI xs q (i + 1) (inp s (rd xs (i : Int))).1 else fl8 s (i : Int) (inp s (rd xs (i : Int))).2
theorem spec_run (xs : List Int) (hn : xs.length ≤ 1000000) : ∀ q i (a b c d e : Bool) (n : Int), i + q = xs.length → Ev (fun k => spec_GiveInputs.l0 k xs (i : Int) a b c d e n) (runI xs q i (a, b, c, d, e, n)) := by
  intro q
  induction q with
  | zero =>
    intro i a b c d e n hi
    obtain rfl : i = xs.length := by omega
    refine Ev.dn ?_
    simp only [spec_GiveInputs.l0]
    simp only [if_neg (show ¬ (xs.length : Int) < (xs.length : Int) by omega)]
    exact Ev.now _
  | succ q ih =>
    intro i a b c d e n hi
    refine Ev.dn ?_
    simp only [spec_GiveInputs.l0, spec_inp, Option.bind_some, runI]
    simp only [if_pos (show (i : Int) < (xs.length : Int) by omega), if_pos (show (0 : Int) ≤ (i : Int) by omega), wrap_succ (show i < xs.length by omega) (show xs.length ≤ 9223372036854775807 by omega), fl7]
    by_cases h : (inp (a, b, c, d, e, n) (rd xs (i : Int))).2 = 0
    · simp only [if_pos h]
      exact ih (i + 1) _ _ _ _ _ _ (by omega)
    · simp only [if_neg h]
      exact Ev.now _
def giveAll (a b c d e : Bool) (n : Int) (xs : List Int) : R8 := if snd a b c d e n = true then (if 60 < xs.length then (false, false, false, false, false, 0, 0, 3) else runI xs xs.length 0 (a, b, c, d, e, n)) else (false, false, false, false, false, 0, 0, 1)
theorem GiveInputs_both (a b c d e : Bool) (n : Int) (xs : List Int) (hn : xs.length ≤ 1000000) : Ev (fun k => spec_GiveInputs.f k a b c d e n xs) (giveAll a b c d e n xs) ∧ True := by
  unfold spec_GiveInputs.f giveAll
  simp only [spec_snd, Option.bind_some]
  cases snd a b c d e n with
  | false => exact ⟨Ev.now _, trivial⟩
  | true =>
    simp only [if_true]
    by_cases h : 60 < xs.length
    · simp only [if_pos h, if_pos (show (xs.length : Int) > 60 by omega)]
      exact ⟨Ev.now _, trivial⟩
    · simp only [if_neg h, if_neg (show ¬ (xs.length : Int) > 60 by omega)]
      exact ⟨spec_run xs hn xs.length 0 _ _ _ _ _ _ (by omega), trivial⟩
def giveR (a b c d e : Bool) (n x : Int) : Bool × Bool × Bool × Bool × Bool × Int × Int := if snd a b c d e n = true then inpF (a, b, c, d, e, n) x else (false, false, false, false, false, 0, 1)
theorem spec_give (a b c d e : Bool) (n x : Int) : spec_GiveInput.f a b c d e n x = some (giveR a b c d e n x) := by
  unfold spec_GiveInput.f giveR
  simp only [spec_snd, spec_inp, Option.bind_some]
  cases snd a b c d e n with
  | false => simp
  | true =>
    simp only [if_true, inpF]
    by_cases h : (inp (a, b, c, d, e, n) x).2 = 0 <;> simp [fl7, h]
theorem impl_give (a b c d e : Bool) (n x : Int) : impl_GiveInput.f a b c d e n x = some (giveR a b c d e n x) := by
  unfold impl_GiveInput.f giveR
  simp only [impl_snd, impl_inp, Option.bind_some]
  cases snd a b c d e n <;> simp
/-- A place in the bytes and a state of the draws. -/
def Gd (L : List Int) (p z : Int) : Prop := 0 ≤ p ∧ p ≤ (L.length : Int) ∧ 0 ≤ z ∧ z < 2147483647
def By (L : List Int) : Prop := L.length ≤ 4096 ∧ ∀ j : Nat, j < L.length → 0 ≤ rd L (j : Int) ∧ rd L (j : Int) ≤ 255
theorem tm_bd {x n : Int} (hx : 0 ≤ x) (hn : 0 < n) : 0 ≤ Int.tmod x n ∧ Int.tmod x n < n := ⟨Int.tmod_nonneg n hx, Int.tmod_lt_of_pos x hn⟩
theorem next_ok {L : List Int} (hL : By L) {p z : Int} (g : Gd L p z) (n : Int) (h1 : 1 ≤ n) (h2 : n ≤ 1000000) : ∃ v p' z' : Int, spec_l01Next.f L p z n = some (v, p', z') ∧ Gd L p' z' ∧ 0 ≤ v ∧ v < n := by
  obtain ⟨g1, g2, g3, g4⟩ := g
  obtain ⟨hl, hb⟩ := hL
  unfold spec_l01Next.f
  by_cases c1 : n ≤ 1
  · rw [if_pos c1]
    exact ⟨0, p, z, rfl, ⟨g1, g2, g3, g4⟩, by omega, by omega⟩
  rw [if_neg c1]
  have hn : ¬ n = 0 := by omega
  have w1 : wrap64 (z * 48271) = z * 48271 := wrap_id (by omega) (by omega)
  have w2 : wrap64 (z * 48271 + 29) = z * 48271 + 29 := wrap_id (by omega) (by omega)
  obtain ⟨z0, z1⟩ := tm_bd (x := z * 48271 + 29) (n := 2147483647) (by omega) (by decide)
  simp only [w1, w2, if_neg hn]
  generalize Int.tmod (z * 48271 + 29) 2147483647 = y at z0 z1
  have q0 : Int.tdiv y 31 = y / 31 := Int.tdiv_eq_ediv_of_nonneg z0
  obtain ⟨q2, q3⟩ : 0 ≤ y / 31 ∧ y / 31 ≤ 2147483647 := by clear w1 w2 c1 hb; omega
  have q1 : wrap64 (y / 31) = y / 31 := wrap_id (by clear w1 w2 c1 hb q0; omega) (by clear w1 w2 c1 hb q0; omega)
  simp only [q0, q1]
  clear q0 q1 w1 w2
  generalize y / 31 = q at q2 q3
  by_cases c2 : p < (L.length : Int)
  · obtain ⟨m, rfl⟩ := Int.eq_ofNat_of_zero_le g1
    obtain ⟨r0, r1⟩ := hb m (by omega)
    have m0 : (m : Int) < 4096 := by clear z0 z1 q2 q3 r0 r1; omega
    obtain ⟨p1, p2⟩ : wrap64 ((m : Int) + 1) = (m : Int) + 1 ∧ wrap64 ((m : Int) + 1 - 1) = (m : Int) := by
      clear z0 z1 q2 q3 r0 r1 c2 g1 g2 hb hn
      refine ⟨wrap_id (by omega) (by omega), ?_⟩
      rw [wrap_id (by omega) (by omega)]
      omega
    obtain ⟨r2, r3⟩ : wrap64 (rd L (m : Int)) = rd L (m : Int) ∧ wrap64 (q + rd L (m : Int)) = q + rd L (m : Int) := by
      clear p1 p2 c2 g1 g2 hb hn
      generalize rd L (m : Int) = r at r0 r1
      exact ⟨wrap_id (by omega) (by omega), wrap_id (by omega) (by omega)⟩
    have k1 : 0 ≤ (m : Int) + 1 ∧ (m : Int) + 1 ≤ (L.length : Int) := by clear p1 p2 r2 r3 z0 z1 q2 q3 r0 r1; omega
    have k2 : 0 ≤ q + rd L (m : Int) := by clear p1 p2 r2 r3 z0 z1; omega
    have k3 : 0 < n := by clear p1 p2 r2 r3 z0 z1 q2 q3 r0 r1; omega
    obtain ⟨a0, a1⟩ := tm_bd (x := rd L (m : Int)) (n := n) r0 k3
    obtain ⟨b0, b1⟩ := tm_bd (x := q + rd L (m : Int)) (n := n) k2 k3
    by_cases c4 : n ≤ 256
    · simp only [if_pos c2, if_pos g1, if_pos c4, p1, p2, r2, r3]
      by_cases c3 : Int.tmod ((m : Int) + 1) 2 = 0
      · rw [if_pos c3]
        exact ⟨_, _, _, rfl, ⟨k1.1, k1.2, z0, z1⟩, a0, a1⟩
      · rw [if_neg c3]
        exact ⟨_, _, _, rfl, ⟨k1.1, k1.2, z0, z1⟩, b0, b1⟩
    · simp only [if_pos c2, if_pos g1, if_neg c4, p1, p2, r2, r3]
      exact ⟨_, _, _, rfl, ⟨k1.1, k1.2, z0, z1⟩, b0, b1⟩
  · rw [if_neg c2]
    obtain ⟨b0, b1⟩ := tm_bd (x := q) (n := n) (by omega) (by omega)
    exact ⟨_, _, _, rfl, ⟨g1, g2, z0, z1⟩, b0, b1⟩
theorem pick_ok {L : List Int} (hL : By L) {p z : Int} (g : Gd L p z) (l : List Int) (h1 : 1 ≤ l.length) (h2 : l.length ≤ 256) : ∃ v p' z' : Int, spec_l01Pick.f L p z l = some (v, p', z') ∧ Gd L p' z' := by
  obtain ⟨v, p', z', e, g', v0, v1⟩ := next_ok hL g (l.length : Int) (by omega) (by omega)
  refine ⟨rd l v, p', z', ?_, g'⟩
  unfold spec_l01Pick.f
  rw [e, Option.bind_some, if_pos v0, if_pos v1]
theorem from_ev {L : List Int} (hL : By L) : ∃ z, Ev (fun k => spec_l01From.f k L) (L, 0, z) ∧ Gd L 0 z := by
  have loop : ∀ (d i : Nat) (z : Int), i + d = 64 → 0 ≤ z → z < 2147483647 → ∃ z', Ev (fun k => spec_l01From.l0 k L (i : Int) L 0 z) (L, 0, z') ∧ Gd L 0 z' := by
    intro d
    induction d with
    | zero =>
      intro i z hi h0 h1
      refine ⟨z, Ev.dn ?_, by omega, by omega, h0, h1⟩
      simp only [spec_l01From.l0, if_neg (show ¬ (i : Int) < 64 by omega), ite_self]
      exact Ev.now _
    | succ d ih =>
      intro i z hi h0 h1
      by_cases c : (i : Int) < (L.length : Int)
      · obtain ⟨r0, r1⟩ := hL.2 i (by omega)
        have w1 : wrap64 (z * 83) = z * 83 := wrap_id (by clear ih; omega) (by clear ih; omega)
        have w2 : wrap64 (rd L (i : Int)) = rd L (i : Int) := wrap_id (by clear ih; omega) (by clear ih; omega)
        have w3 : wrap64 (z * 83 + rd L (i : Int)) = z * 83 + rd L (i : Int) := wrap_id (by clear ih; omega) (by clear ih; omega)
        obtain ⟨z0, z1⟩ := tm_bd (x := z * 83 + rd L (i : Int)) (n := 2147483647) (by clear ih; omega) (by decide)
        obtain ⟨z', h2, h3⟩ := ih (i + 1) _ (by clear ih; omega) z0 z1
        refine ⟨z', Ev.dn ?_, h3⟩
        have hw := wrap_succ (i := i) (n := 64) (by clear ih; omega) (by omega)
        simp only [spec_l01From.l0, if_pos c, if_pos (show (i : Int) < 64 by clear ih; omega), if_pos (show (0 : Int) ≤ (i : Int) by clear ih; omega), w1, w2, w3, hw]
        exact h2
      · refine ⟨z, Ev.dn ?_, by omega, by omega, h0, h1⟩
        simp only [spec_l01From.l0, if_neg c]
        exact Ev.now _
  unfold spec_l01From.f
  exact loop 64 0 61043 (by omega) (by omega) (by omega)
theorem inputs_ok {L : List Int} (hL : By L) : ∀ (c : Nat) (x : List Int) (p z : Int), Gd L p z → x.length + c ≤ 90 → ∃ (xs : List Int) (p' z' : Int), Ev (fun k => spec_l21Inputs.l0 k x (c : Int) L p z) (xs, p', z') ∧ Gd L p' z' ∧ xs.length ≤ 100 := by
  intro c
  induction c with
  | zero =>
    intro x p z g hx
    obtain ⟨v, p1, z1, e1, g1, v0, v1⟩ := next_ok hL g 40 (by omega) (by omega)
    by_cases c0 : v = 0
    · obtain ⟨u, p2, z2, e2, g2⟩ := pick_ok hL g1 [(-1), 10] (by decide) (by decide)
      refine ⟨x ++ [u], p2, z2, Ev.dn ?_, g2, by rw [List.length_append, List.length_singleton]; omega⟩
      simp only [spec_l21Inputs.l0, if_neg (show ¬ ((0 : Nat) : Int) > 0 by omega), e1, Option.bind_some, if_pos c0, e2, if_pos (show x.length < 17592186044416 by omega)]
      exact Ev.now _
    · by_cases c1 : v = 1
      · obtain ⟨u, p2, z2, e2, g2, u0, u1⟩ := next_ok hL g1 2 (by omega) (by omega)
        have w : wrap64 (60 + u) = 60 + u := wrap_id (by omega) (by omega)
        refine ⟨List.replicate (60 + u).toNat 0, p2, z2, Ev.dn ?_, g2, by rw [List.length_replicate]; omega⟩
        simp only [spec_l21Inputs.l0, if_neg (show ¬ ((0 : Nat) : Int) > 0 by omega), e1, Option.bind_some, if_neg c0, if_pos c1, e2, w, if_pos (show (0 : Int) ≤ 60 + u by omega), if_pos (show (60 + u).toNat ≤ 35184372088832 by omega)]
        exact Ev.now _
      · refine ⟨x, p1, z1, Ev.dn ?_, g1, by omega⟩
        simp only [spec_l21Inputs.l0, if_neg (show ¬ ((0 : Nat) : Int) > 0 by omega), e1, Option.bind_some, if_neg c0, if_neg c1]
        exact Ev.now _
  | succ c ih =>
    intro x p z g hx
    obtain ⟨v, p1, z1, e1, g1, v0, v1⟩ := next_ok hL g 10 (by omega) (by omega)
    obtain ⟨u, p2, z2, e2, g2⟩ := pick_ok hL g1 [v, 7, 8, 8, 4, 5, 2] (by simp) (by simp)
    obtain ⟨xs, p', z', h1, h2, h3⟩ := ih (x ++ [u]) p2 z2 g2 (by clear ih; rw [List.length_append, List.length_singleton]; omega)
    refine ⟨xs, p', z', Ev.dn ?_, h2, h3⟩
    have w : wrap64 (((c + 1 : Nat) : Int) - 1) = (c : Int) := by rw [wrap_id (by clear ih; omega) (by clear ih; omega)]; clear ih; omega
    simp only [spec_l21Inputs.l0, if_pos (show ((c + 1 : Nat) : Int) > 0 by clear ih; omega), e1, Option.bind_some, e2, if_pos (show x.length < 17592186044416 by clear ih; omega), w]
    exact h1
theorem l21Inputs_ok {L : List Int} (hL : By L) {p z : Int} (g : Gd L p z) : ∃ (xs : List Int) (p' z' : Int), Ev (fun k => spec_l21Inputs.f k L p z) (xs, p', z') ∧ Gd L p' z' ∧ xs.length ≤ 100 := by
  obtain ⟨v, p1, z1, e1, g1, v0, v1⟩ := next_ok hL g 2 (by omega) (by omega)
  obtain ⟨u, p2, z2, e2, g2, u0, u1⟩ := next_ok hL g1 8 (by omega) (by omega)
  obtain ⟨m, rfl⟩ := Int.eq_ofNat_of_zero_le u0
  unfold spec_l21Inputs.f
  by_cases c : v = 0
  · obtain ⟨xs, p', z', h1, h2, h3⟩ := inputs_ok hL m [0, 1, 2] p2 z2 g2 (by simp; omega)
    refine ⟨xs, p', z', ?_, h2, h3⟩
    simp only [Option.bind_some, e1, if_pos c, List.length_nil, List.nil_append]
    simp only [if_pos (show 0 + ([0, 1, 2] : List Int).length < 17592186044416 by decide)]
    refine Ev.dn ?_
    simp only [spec_l21Inputs.j0, e2, Option.bind_some]
    exact h1
  · obtain ⟨xs, p', z', h1, h2, h3⟩ := inputs_ok hL m [] p2 z2 g2 (by simp; omega)
    refine ⟨xs, p', z', ?_, h2, h3⟩
    simp only [Option.bind_some, e1, if_neg c]
    refine Ev.dn ?_
    simp only [spec_l21Inputs.j0, e2, Option.bind_some]
    exact h1
theorem l21Draw_ok {L : List Int} (hL : By L) {p z : Int} (g : Gd L p z) : ∃ (a b c d e : Bool) (n p' z' : Int), Ev (fun k => spec_l21Draw.f k L p z) (a, b, c, d, e, n, p', z') ∧ Gd L p' z' := by
  obtain ⟨xs, p1, z1, h1, g1, hl⟩ := l21Inputs_ok hL g
  have hG := (GiveInputs_both false false false false false 0 xs (by omega)).1
  generalize giveAll false false false false false 0 xs = G at hG
  obtain ⟨v, p2, z2, e2, g2, _, _⟩ := next_ok hL g1 24 (by omega) (by omega)
  have hg : Ev (fun k => spec_l21Good.f k L p z) (G.1, G.2.1, G.2.2.1, G.2.2.2.1, G.2.2.2.2.1, G.2.2.2.2.2.1, p1, z1) := by
    unfold spec_l21Good.f
    exact Ev.bind h1 (Ev.bind hG (Ev.now _))
  unfold spec_l21Draw.f
  by_cases c0 : v = 0
  · refine ⟨G.1, G.2.1, true, G.2.2.2.1, G.2.2.2.2.1, G.2.2.2.2.2.1, p2, z2, Ev.bind hg ?_, g2⟩
    simp only [e2, Option.bind_some, if_pos c0]
    exact Ev.now _
  by_cases c1 : v = 1
  · refine ⟨G.1, G.2.1, G.2.2.1, true, G.2.2.2.2.1, G.2.2.2.2.2.1, p2, z2, Ev.bind hg ?_, g2⟩
    simp only [e2, Option.bind_some, if_neg c0, if_pos c1]
    exact Ev.now _
  by_cases c2 : v = 2
  · obtain ⟨u, p3, z3, e3, g3⟩ := pick_ok hL g2 [(-1), 3, 4, 5] (by decide) (by decide)
    refine ⟨G.1, G.2.1, G.2.2.1, G.2.2.2.1, G.2.2.2.2.1, u, p3, z3, Ev.bind hg ?_, g3⟩
    simp only [e2, Option.bind_some, if_neg c0, if_neg c1, if_pos c2, e3]
    exact Ev.now _
  by_cases c3 : v = 3
  · refine ⟨G.1, G.2.1, G.2.2.1, G.2.2.2.1, true, G.2.2.2.2.2.1, p2, z2, Ev.bind hg ?_, g2⟩
    simp only [e2, Option.bind_some, if_neg c0, if_neg c1, if_neg c2, if_pos c3]
    exact Ev.now _
  · refine ⟨G.1, G.2.1, G.2.2.1, G.2.2.2.1, G.2.2.2.2.1, G.2.2.2.2.2.1, p2, z2, Ev.bind hg ?_, g2⟩
    simp only [e2, Option.bind_some, if_neg c0, if_neg c1, if_neg c2, if_neg c3]
    exact Ev.now _
theorem snd_inp (a b c d e : Bool) (n x : Int) (h : snd a b c d e n = true) (h2 : (inp (a, b, c, d, e, n) x).2 = 0) :
    snd (inp (a, b, c, d, e, n) x).1.1 (inp (a, b, c, d, e, n) x).1.2.1 (inp (a, b, c, d, e, n) x).1.2.2.1 (inp (a, b, c, d, e, n) x).1.2.2.2.1 (inp (a, b, c, d, e, n) x).1.2.2.2.2.1 (inp (a, b, c, d, e, n) x).1.2.2.2.2.2 = true := by
  have hn : 0 ≤ n ∧ n ≤ 4 := by
    simp only [snd, Bool.and_eq_true, decide_eq_true_eq] at h
    exact ⟨h.1.1.1, h.1.1.2⟩
  have hm : wrap64 (n + 1) = n + 1 := wrap_id (by omega) (by omega)
  obtain ⟨m0, m1⟩ : 0 ≤ mn 4 (n + 1) ∧ mn 4 (n + 1) ≤ 4 := by clear hm; unfold mn; split <;> omega
  unfold inp at h2 ⊢
  split at h2
  · rename_i hx
    rw [if_pos hx]
    simp only [gv, hm] at h2 ⊢
    generalize mn 4 (n + 1) = m at m0 m1 h2 ⊢
    by_cases x0 : x = 0
    · simp only [if_pos x0]; revert h; clear h2 hm; cases a <;> cases b <;> cases c <;> cases d <;> cases e <;> simp [snd] <;> omega
    by_cases x1 : x = 1
    · simp only [if_neg x0, if_pos x1]; revert h; clear h2 hm; cases a <;> cases b <;> cases c <;> cases d <;> cases e <;> simp [snd] <;> omega
    by_cases x2 : x = 2
    · simp only [if_neg x0, if_neg x1, if_pos x2] at h2 ⊢; clear hm; revert h h2; cases a <;> cases b <;> cases c <;> cases d <;> cases e <;> simp [snd] <;> omega
    by_cases x3 : x = 3
    · simp only [if_neg x0, if_neg x1, if_neg x2, if_pos x3]; revert h; clear h2 hm; cases a <;> cases b <;> cases c <;> cases d <;> cases e <;> simp [snd] <;> omega
    by_cases x4 : x = 4
    · simp only [if_neg x0, if_neg x1, if_neg x2, if_neg x3, if_pos x4] at h2 ⊢; clear hm; revert h h2; cases a <;> cases b <;> cases c <;> cases d <;> cases e <;> simp [snd] <;> omega
    by_cases x5 : x = 5
    · simp only [if_neg x0, if_neg x1, if_neg x2, if_neg x3, if_neg x4, if_pos x5] at h2 ⊢; clear hm; revert h h2; cases a <;> cases b <;> cases c <;> cases d <;> cases e <;> simp [snd] <;> omega
    by_cases x6 : x = 6
    · simp only [if_neg x0, if_neg x1, if_neg x2, if_neg x3, if_neg x4, if_neg x5, if_pos x6]; revert h; clear h2 hm; cases a <;> cases b <;> cases c <;> cases d <;> cases e <;> simp [snd] <;> omega
    by_cases x7 : x = 7
    · simp only [if_neg x0, if_neg x1, if_neg x2, if_neg x3, if_neg x4, if_neg x5, if_neg x6, if_pos x7]; revert h; clear h2 hm; cases a <;> cases b <;> cases c <;> cases d <;> cases e <;> simp [snd] <;> omega
    by_cases x8 : x = 8
    · simp only [if_neg x0, if_neg x1, if_neg x2, if_neg x3, if_neg x4, if_neg x5, if_neg x6, if_neg x7, if_pos x8]
      by_cases c3 : m > 3
      · rw [decide_eq_true c3]
        simp only [snd, Bool.not_true, Bool.and_false, Bool.not_false, Bool.true_or, Bool.or_true, Bool.and_true, Bool.and_eq_true, decide_eq_true_eq]
        exact ⟨m0, m1⟩
      · rw [decide_eq_false c3]
        revert h; clear h2 hm
        cases a <;> cases b <;> cases c <;> cases d <;> cases e <;> simp [snd] <;> omega
    · simp only [if_neg x0, if_neg x1, if_neg x2, if_neg x3, if_neg x4, if_neg x5, if_neg x6, if_neg x7, if_neg x8] at h2 ⊢; clear hm; revert h h2; cases a <;> cases b <;> cases c <;> cases d <;> cases e <;> simp [snd] <;> omega
  · exact absurd h2 (show ¬ (2 : Int) = 0 by decide)
theorem impl_may (a b c d e : Bool) (n : Int) : impl_MayFire.f a b c d e n = some (if snd a b c d e n = true then (c && !d, 0) else (false, 1)) := by
  unfold impl_MayFire.f
  rw [impl_snd, Option.bind_some]
  cases snd a b c d e n with
  | false => rfl
  | true => cases c <;> cases d <;> rfl
theorem impl_ticks (a b c d e : Bool) (n : Int) : impl_TicksLeft.f a b c d e n = some (if snd a b c d e n = true then (if c = true then (wrap64 (3 - n), 0) else (0, 0)) else (0, 1)) := by
  unfold impl_TicksLeft.f
  rw [impl_snd, Option.bind_some]
  cases snd a b c d e n <;> cases c <;> rfl
theorem spec_ticks (a b c d e : Bool) (n : Int) : spec_TicksLeft.f a b c d e n = some (if snd a b c d e n = true then (if c = true then (wrap64 (3 - n), 0) else (0, 0)) else (0, 1)) := by
  unfold spec_TicksLeft.f
  rw [spec_snd, Option.bind_some]
  cases snd a b c d e n <;> cases c <;> rfl
theorem spec_may (a b c d e : Bool) (n : Int) : spec_MayFire.f a b c d e n = some (if snd a b c d e n = true then (c && !d, 0) else (false, 1)) := by
  unfold spec_MayFire.f
  rw [spec_snd, Option.bind_some]
  cases snd a b c d e n <;> cases c <;> cases d <;> rfl
def alB (a b c d e : Bool) (n : Int) (i : Nat) : Bool := (gv a b c d e n (i : Int)).isSome
/-- The allowed inputs, from input i on. -/
def alI (a b c d e : Bool) (n : Int) : Nat → Nat → List Int → List Int
  | 0, _, xs => xs
  | q + 1, i, xs => alI a b c d e n q (i + 1) (if alB a b c d e n i = true then xs ++ [(i : Int)] else xs)
theorem alI_mem (a b c d e : Bool) (n x : Int) : ∀ q i xs, x ∈ alI a b c d e n q i xs ↔ (x ∈ xs ∨ ∃ j : Nat, i ≤ j ∧ j < i + q ∧ x = (j : Int) ∧ alB a b c d e n j = true) := by
  intro q
  induction q with
  | zero => intro i xs; simp only [alI]; exact ⟨.inl, fun h => h.elim id fun ⟨j, h1, h2, _⟩ => absurd h2 (by omega)⟩
  | succ q ih =>
    intro i xs
    simp only [alI, ih]
    constructor
    · rintro (h | ⟨j, h1, h2, h3⟩)
      · by_cases c0 : alB a b c d e n i = true
        · rw [if_pos c0, List.mem_append, List.mem_singleton] at h
          rcases h with h | h
          · exact .inl h
          · exact .inr ⟨i, Nat.le_refl _, by omega, h, c0⟩
        · rw [if_neg c0] at h; exact .inl h
      · exact .inr ⟨j, by omega, by omega, h3⟩
    · rintro (h | ⟨j, h1, h2, h3, h4⟩)
      · left
        split
        · exact List.mem_append.2 (.inl h)
        · exact h
      · by_cases e0 : j = i
        · subst e0
          left
          rw [if_pos h4, List.mem_append, List.mem_singleton]
          exact .inr h3
        · exact .inr ⟨j, by omega, by omega, h3, h4⟩
theorem alI_len (a b c d e : Bool) (n : Int) : ∀ q i xs, (alI a b c d e n q i xs).length ≤ xs.length + q
  | 0, _, _ => Nat.le_refl _
  | q + 1, i, xs => by
    simp only [alI]
    refine Nat.le_trans (alI_len a b c d e n q (i + 1) _) ?_
    split
    · rw [List.length_append, List.length_singleton]; omega
    · omega
def alR (a b c d e : Bool) (n : Int) : List Int × Int := if snd a b c d e n = true then (alI a b c d e n 10 0 [], 0) else ([], 1)
theorem al_both (a b c d e : Bool) (n : Int) : Ev (fun k => spec_AllowedInputs.f k a b c d e n) (alR a b c d e n) ∧ Ev (fun k => impl_AllowedInputs.f k a b c d e n) (alR a b c d e n) := by
  unfold spec_AllowedInputs.f impl_AllowedInputs.f alR
  simp only [spec_snd, impl_snd, Option.bind_some]
  cases snd a b c d e n with
  | false => exact ⟨Ev.now _, Ev.now _⟩
  | true =>
    simp only [if_true]
    have key : ∀ q i (xs : List Int), i + q = 10 → xs.length ≤ i → Ev (fun k => spec_AllowedInputs.l0 k xs (i : Int) a b c d e n) (alI a b c d e n q i xs, 0) ∧ Ev (fun k => impl_AllowedInputs.l0 k xs (i : Int) a b c d e n) (alI a b c d e n q i xs, 0) := by
      intro q
      induction q with
      | zero =>
        intro i xs hi hx
        obtain rfl : i = 10 := by omega
        refine ⟨Ev.dn ?_, Ev.dn ?_⟩
        · simp only [spec_AllowedInputs.l0]
          simp only [if_neg (show ¬ ((10 : Nat) : Int) ≤ 9 by omega)]
          exact Ev.now _
        · simp only [impl_AllowedInputs.l0]
          simp only [if_neg (show ¬ ((10 : Nat) : Int) ≤ 9 by omega)]
          exact Ev.now _
      | succ q ih =>
        intro i xs hi hx
        have hw := wrap_succ (show i < 10 by omega) (show 10 ≤ 9223372036854775807 by omega)
        have hin : (0 : Int) ≤ (i : Int) ∧ (i : Int) ≤ 9 := by omega
        cases hg : gv a b c d e n (i : Int) with
        | none =>
          have hb : ¬ alB a b c d e n i = true := by unfold alB; rw [hg]; decide
          obtain ⟨h1, h2⟩ := ih (i + 1) xs (by omega) (by omega)
          simp only [alI, if_neg hb]
          refine ⟨Ev.dn (Ev.eq' h1 (fun k => ?_)), Ev.dn (Ev.eq' h2 (fun k => ?_))⟩
          · simp only [spec_AllowedInputs.l0, spec_gv, hg, give7, Option.bind_some, hw]
            rw [if_pos (show (i : Int) ≤ 9 by omega), if_neg (by decide)]
          · simp only [impl_AllowedInputs.l0, impl_inp, inpF, inp, if_pos hin, hg, Option.bind_some, hw]
            rw [if_pos (show (i : Int) ≤ 9 by omega)]
            simp
        | some s =>
          have hb : alB a b c d e n i = true := by unfold alB; rw [hg]; rfl
          obtain ⟨h1, h2⟩ := ih (i + 1) (xs ++ [(i : Int)]) (by omega) (by simp; omega)
          simp only [alI, if_pos hb]
          refine ⟨Ev.dn (Ev.eq' h1 (fun k => ?_)), Ev.dn (Ev.eq' h2 (fun k => ?_))⟩
          · simp only [spec_AllowedInputs.l0, spec_gv, hg, give7, Option.bind_some, hw]
            rw [if_pos (show (i : Int) ≤ 9 by omega), if_pos trivial, if_pos (show xs.length < 17592186044416 by omega)]
          · simp only [impl_AllowedInputs.l0, impl_inp, inpF, inp, if_pos hin, hg, Option.bind_some, hw, if_true, fl7]
            rw [if_pos (show (i : Int) ≤ 9 by omega), if_pos (show xs.length < 17592186044416 by omega)]
    exact key 10 0 [] (by omega) (by simp)
theorem likeInts_refl (l : List Int) (hn : l.length ≤ 1000000) : Ev (fun k => laws_likeInts.f k l l) true := by
  unfold laws_likeInts.f
  simp only [if_true]
  have h := Ev.allLoop (l := fun k j => laws_likeInts.l0 k l l j) (n := l.length) (fun _ => true) false true
    (fun j hj => Evt.all fun k => by
      simp only [laws_likeInts.l0]
      rw [if_pos (by omega), if_pos (by omega), if_pos (by omega), wrap_succ hj (by omega)])
    (Evt.all fun k => by
      simp only [laws_likeInts.l0]
      rw [if_neg (by omega)]) l.length 0 (by omega)
  refine Ev.eq h ?_
  rw [(allD_iff _ _ _).2 (fun _ _ _ => rfl)]
  rfl
theorem hasI_ev (l : List Int) (v : Int) (hn : l.length ≤ 1000) : ∃ b : Bool, Ev (fun k => laws_hasInt.f k l v) b ∧ (b = true ↔ v ∈ l) := by
  have loop : ∀ d j, j + d = l.length → ∃ b : Bool, Ev (fun k => laws_hasInt.l0 k l v (j : Int)) b ∧ (b = true ↔ v ∈ l.drop j) := by
    intro d
    induction d with
    | zero =>
      intro j hj
      refine ⟨false, Ev.dn ?_, ?_⟩
      · simp only [laws_hasInt.l0, if_neg (show ¬ (j : Int) < (l.length : Int) by omega)]
        exact Ev.now _
      · rw [List.drop_of_length_le (by omega)]; simp
    | succ d ih =>
      intro j hj
      have hjl : j < l.length := by omega
      have hw := wrap_succ hjl (show l.length ≤ 9223372036854775807 by omega)
      rw [List.drop_eq_getElem_cons hjl]
      by_cases c : rd l (j : Int) = v
      · refine ⟨true, Ev.dn ?_, ?_⟩
        · simp only [laws_hasInt.l0, if_pos (show (j : Int) < (l.length : Int) by omega), if_pos (show (0 : Int) ≤ (j : Int) by omega), if_pos c]
          exact Ev.now _
        · rw [rd_nat hjl] at c
          simp [c]
      · obtain ⟨b, h1, h2⟩ := ih (j + 1) (by omega)
        refine ⟨b, Ev.dn ?_, ?_⟩
        · simp only [laws_hasInt.l0, if_pos (show (j : Int) < (l.length : Int) by omega), if_pos (show (0 : Int) ≤ (j : Int) by omega), if_neg c, hw]
          exact h1
        · rw [rd_nat hjl] at c
          rw [h2, List.mem_cons]
          exact ⟨.inr, fun h => h.elim (fun e => absurd e.symm c) id⟩
  unfold laws_hasInt.f
  obtain ⟨b, h1, h2⟩ := loop l.length 0 (by omega)
  exact ⟨b, h1, h2⟩
theorem tick_end (x6 x17 x18 x21 : Int) (a b c d e : Bool) (n : Int) (A B C D E : Bool) (N : Int) (hG : x6 = 0 → snd A B C D E N = true) : Ev (fun k => laws_FnInputs.j4 k x6 x17 x18 x21 false a b c d e n A B C D E N) true := by
  refine Ev.dn ?_
  simp only [laws_FnInputs.j4, Bool.false_eq_true, if_false]
  by_cases h : x6 = 0
  · simp only [if_pos h, impl_snd, Option.bind_some, hG h]; exact Ev.now _
  · simp only [if_neg h]; exact Ev.now _
theorem tick_run (x6 x17 : Int) (A B C D E : Bool) (N : Int) (hG : x6 = 0 → snd A B C D E N = true) : ∀ (q i : Nat) (a b c d e : Bool) (n : Int), snd a b c d e n = true → i + q ≤ 100 → (c = true → n + (x17 - (i : Int)) = 3 ∧ 4 - n ≤ (q : Int)) →
    Ev (fun k => laws_FnInputs.l0 k x6 x17 0 (i : Int) a b c d e n A B C D E N) true := by
  intro q
  induction q with
  | zero =>
    intro i a b c d e n hs hi hc
    cases c with
    | false =>
      refine Ev.dn ?_
      simp only [laws_FnInputs.l0, if_true, Bool.false_eq_true, if_false]
      exact tick_end _ _ _ _ _ _ _ _ _ _ _ _ _ _ _ _ hG
    | true =>
      have h3 : n ≤ 3 := by simp only [snd, Bool.and_eq_true, Bool.or_eq_true, Bool.not_true, Bool.false_eq_true, false_or, decide_eq_true_eq] at hs; exact hs.1.2.2
      have := hc rfl
      omega
  | succ q ih =>
    intro i a b c d e n hs hi hc
    cases c with
    | false =>
      refine Ev.dn ?_
      simp only [laws_FnInputs.l0, if_true, Bool.false_eq_true, if_false]
      exact tick_end _ _ _ _ _ _ _ _ _ _ _ _ _ _ _ _ hG
    | true =>
      obtain ⟨hc1, hc2⟩ := hc rfl
      obtain ⟨h0, h3⟩ : 0 ≤ n ∧ n ≤ 3 := by
        simp only [snd, Bool.and_eq_true, Bool.or_eq_true, Bool.not_true, Bool.false_eq_true, false_or, decide_eq_true_eq] at hs
        exact ⟨hs.1.1.1, hs.1.2.2⟩
      have hm : wrap64 (n + 1) = n + 1 := wrap_id (by clear ih; omega) (by clear ih; omega)
      have hmn : mn 4 (n + 1) = n + 1 := by clear ih hm; unfold mn; split <;> omega
      have hw : wrap64 ((i : Int) + 1) = ((i + 1 : Nat) : Int) := wrap_succ (n := 1000) (by clear ih; omega) (by omega)
      have hg : inp (a, b, true, d, e, n) 8 = ((a, b, !decide (n + 1 > 3), d && !decide (n + 1 > 3), e, n + 1), 0) := by
        unfold inp
        rw [if_pos (by decide)]
        simp only [gv, hm, hmn, Bool.true_and]
        rfl
      have hr : giveR a b true d e n 8 = (a, b, !decide (n + 1 > 3), d && !decide (n + 1 > 3), e, n + 1, 0) := by
        unfold giveR inpF
        rw [if_pos hs, hg]
        rfl
      have hs' := snd_inp a b true d e n 8 hs (by rw [hg])
      rw [hg] at hs'
      have hdec : (!decide (n + 1 > 3)) = decide ((i : Int) < x17) := by
        by_cases c3 : n + 1 > 3
        · rw [decide_eq_true c3, decide_eq_false (by clear ih; omega)]; rfl
        · rw [decide_eq_false c3, decide_eq_true (by clear ih; omega)]; rfl
      refine Ev.dn ?_
      simp only [laws_FnInputs.l0, if_true, decide_eq_true (show (i : Int) ≤ x17 by clear ih; omega)]
      refine Ev.dn ?_
      simp only [laws_FnInputs.j4, if_true, impl_give, Option.bind_some, hr, hdec, bne_self_eq_false, Bool.false_eq_true, if_false, hw]
      rw [hdec] at hs'
      refine ih (i + 1) a b (decide ((i : Int) < x17)) (d && decide ((i : Int) < x17)) e (n + 1) hs' (by clear ih; omega) (fun hcc => ?_)
      have := of_decide_eq_true hcc
      clear ih
      constructor <;> omega
theorem drawG_ok {L : List Int} (hL : By L) : ∃ (a b c d e : Bool) (n x : Int), Ev (fun k => spec_DrawGiveInput.f k L) (a, b, c, d, e, n, x) := by
  obtain ⟨z, hz, g⟩ := from_ev hL
  obtain ⟨a, b, c, d, e, n, p1, z1, h1, g1⟩ := l21Draw_ok hL g
  obtain ⟨v, p2, z2, e2, g2, _, _⟩ := next_ok hL g1 12 (by omega) (by omega)
  unfold spec_DrawGiveInput.f
  refine ⟨a, b, c, d, e, n, wrap64 (v - 1), Ev.bind hz (Ev.bind h1 ?_)⟩
  simp only [e2, Option.bind_some]
  exact Ev.now _
theorem FnInputs : ∀ (l0 : List Int), (l0.length ≤ reachBytes ∧ ∀ y ∈ l0, (Lit.int .u8 y).wf = true) → ∃ k, laws_FnInputs.f k l0 = some true := by
  intro L ⟨_, hb⟩
  apply Ev.rounds
  unfold laws_FnInputs.f laws_big.f
  simp only [Option.bind_some]
  by_cases hbig : (L.length : Int) > 4096
  · simp only [decide_eq_true hbig, if_true]; exact Ev.now _
  simp only [decide_eq_false hbig, Bool.false_eq_true, if_false]
  have hL : By L := by
    refine ⟨by omega, fun j hj => ?_⟩
    rw [rd_nat hj]
    have := hb _ (List.getElem_mem hj)
    simp only [Lit.wf, Bool.and_eq_true, decide_eq_true_eq] at this
    have m1 : IntKind.u8.min = 0 := by decide
    have m2 : IntKind.u8.max = 255 := by decide
    omega
  obtain ⟨a, b, c, d, e, n, x, hd⟩ := drawG_ok hL
  obtain ⟨a1, a2⟩ := al_both a b c d e n
  have hal : (alR a b c d e n).1.length ≤ 1000 := by
    unfold alR
    split
    · exact Nat.le_trans (alI_len a b c d e n 10 0 []) (by simp)
    · simp
  refine Ev.bind hd ?_
  simp only [impl_give, spec_give, Option.bind_some]
  refine Ev.bind a2 (Ev.bind a1 ?_)
  simp only [impl_may, spec_may, impl_ticks, spec_ticks, Option.bind_some, beq_self_eq_true, bne_self_eq_false, Bool.not_true, Bool.or_self, Bool.false_eq_true, if_false, if_true]
  refine Ev.bind (likeInts_refl _ (by omega)) ?_
  simp only [if_true, impl_snd, Option.bind_some]
  cases hs : snd a b c d e n with
  | false =>
    have hal0 : alR a b c d e n = ([], 1) := by unfold alR; rw [hs]; rfl
    have hg0 : giveR a b c d e n x = (false, false, false, false, false, 0, 1) := by unfold giveR; rw [hs]; rfl
    simp only [hal0, hg0, Bool.false_eq_true, if_false]
    refine Ev.dn ?_
    simp only [laws_FnInputs.j0, show (false != ((1 : Int) == 0)) = false by decide, Bool.false_eq_true, if_false, if_neg (show ¬ (1 : Int) = 0 by decide)]
    refine Ev.dn ?_
    simp only [laws_FnInputs.j1, Bool.false_eq_true, if_false, if_neg (show ¬ (1 : Int) = 0 by decide)]
    refine Ev.dn ?_
    simp only [laws_FnInputs.j2, Bool.false_eq_true, if_false]
    refine Ev.dn ?_
    simp only [laws_FnInputs.l0, if_neg (show ¬ (1 : Int) = 0 by decide)]
    exact tick_end _ _ _ _ _ _ _ _ _ _ _ _ _ _ _ _ (fun h => absurd h (by decide))
  | true =>
    have hal1 : alR a b c d e n = (alI a b c d e n 10 0 [], 0) := by unfold alR; rw [hs]; rfl
    have hg1 : giveR a b c d e n x = inpF (a, b, c, d, e, n) x := by unfold giveR; rw [hs]; rfl
    rw [hal1] at hal
    simp only [hal1, hg1, if_true]
    obtain ⟨hb1, h1, h2⟩ := hasI_ev (alI a b c d e n 10 0 []) x hal
    have hcode : (inpF (a, b, c, d, e, n) x).2.2.2.2.2.2 = (inp (a, b, c, d, e, n) x).2 := by
      unfold inpF fl7
      split
      · rename_i h; rw [h]
      · rfl
    have hiff : hb1 = ((inp (a, b, c, d, e, n) x).2 == 0) := by
      have h3 : x ∈ alI a b c d e n 10 0 [] ↔ (inp (a, b, c, d, e, n) x).2 = 0 := by
        rw [alI_mem]
        unfold inp
        constructor
        · rintro (h | ⟨j, _, hj, rfl, hA⟩)
          · exact absurd h (by simp)
          · rw [if_pos (by omega)]
            unfold alB at hA
            show (match gv a b c d e n (j : Int) with | some t => (t, (0 : Int)) | none => ((a, b, c, d, e, n), 5)).2 = 0
            cases hgv : gv a b c d e n (j : Int) with
            | none => rw [hgv] at hA; exact absurd hA (by decide)
            | some t => rfl
        · intro h
          by_cases hx : 0 ≤ x ∧ x ≤ 9
          · rw [if_pos hx] at h
            obtain ⟨j, rfl⟩ := Int.eq_ofNat_of_zero_le hx.1
            refine .inr ⟨j, by omega, by omega, rfl, ?_⟩
            unfold alB
            have h' : (match gv a b c d e n (j : Int) with | some t => (t, (0 : Int)) | none => ((a, b, c, d, e, n), 5)).2 = 0 := h
            cases hgv : gv a b c d e n (j : Int) with
            | none => rw [hgv] at h'; exact absurd h' (show ¬ (5 : Int) = 0 by decide)
            | some t => rfl
          · rw [if_neg hx] at h
            exact absurd h (show ¬ (2 : Int) = 0 by decide)
      rw [h3] at h2
      cases hb1 with
      | true => rw [h2.1 rfl]; rfl
      | false =>
        symm
        exact beq_eq_false_iff_ne.2 (fun h => absurd (h2.2 h) (by decide))
    have hG : (inpF (a, b, c, d, e, n) x).2.2.2.2.2.2 = 0 → snd (inpF (a, b, c, d, e, n) x).1 (inpF (a, b, c, d, e, n) x).2.1 (inpF (a, b, c, d, e, n) x).2.2.1 (inpF (a, b, c, d, e, n) x).2.2.2.1 (inpF (a, b, c, d, e, n) x).2.2.2.2.1 (inpF (a, b, c, d, e, n) x).2.2.2.2.2.1 = true := fun h => by
      rw [hcode] at h
      have := snd_inp a b c d e n x hs h
      unfold inpF
      rw [if_pos h]
      exact this
    refine Ev.dn ?_
    simp only [laws_FnInputs.j0, show (true != ((0 : Int) == 0)) = false by decide, Bool.false_eq_true, if_false, if_true]
    refine Ev.bind h1 ?_
    simp only [hcode, hiff, bne_self_eq_false]
    rw [hcode] at hG
    refine Ev.dn ?_
    simp only [laws_FnInputs.j1, Bool.false_eq_true, if_false, if_true]
    have tail : Ev (fun k => laws_FnInputs.j2 k (inp (a, b, c, d, e, n) x).2 (if c = true then (wrap64 (3 - n), (0 : Int)) else (0, 0)).1 (if c = true then (wrap64 (3 - n), (0 : Int)) else (0, 0)).2 false a b c d e n (inpF (a, b, c, d, e, n) x).1 (inpF (a, b, c, d, e, n) x).2.1 (inpF (a, b, c, d, e, n) x).2.2.1 (inpF (a, b, c, d, e, n) x).2.2.2.1 (inpF (a, b, c, d, e, n) x).2.2.2.2.1 (inpF (a, b, c, d, e, n) x).2.2.2.2.2.1) true := by
      refine Ev.dn ?_
      simp only [laws_FnInputs.j2, Bool.false_eq_true, if_false]
      cases c with
      | false => exact tick_run _ 0 _ _ _ _ _ _ hG 0 0 a b false d e n hs (by omega) (fun h => absurd h (by decide))
      | true =>
        obtain ⟨h0, h3⟩ : 0 ≤ n ∧ n ≤ 3 := by
          simp only [snd, Bool.and_eq_true, Bool.or_eq_true, Bool.not_true, Bool.false_eq_true, false_or, decide_eq_true_eq] at hs
          exact ⟨hs.1.1.1, hs.1.2.2⟩
        have hwn : wrap64 (3 - n) = 3 - n := wrap_id (by omega) (by omega)
        simp only [if_true, hwn]
        exact tick_run _ (3 - n) _ _ _ _ _ _ hG 4 0 a b true d e n hs (by omega) (fun _ => ⟨by omega, by omega⟩)
    revert tail hs
    cases c with
    | false => intro hs tail; simp only [Bool.false_and, Bool.false_eq_true, if_false]; exact tail
    | true =>
      cases d with
      | true => intro hs tail; simp only [Bool.not_true, Bool.and_false, Bool.false_eq_true, if_false]; exact tail
      | false =>
        cases a <;> cases b <;> cases e <;> intro hs tail <;> simp only [snd, Bool.not_true, Bool.not_false, Bool.and_true, Bool.true_and, Bool.and_false, Bool.false_and, Bool.false_or, Bool.or_true, Bool.or_false, Bool.false_eq_true, Bool.and_eq_true, decide_eq_true_eq, and_false, false_and] at hs
        simp only [Bool.not_false, Bool.and_true, if_true, Bool.false_eq_true, if_false, decide_eq_false (show ¬ n > 3 by omega)]
        exact tail
end Go.Proofs.Ytapcjchgcppanaa.Pure
