/- The law FnExactRefusedSignals as a statement over numbers and lists, proved; no condition but the sizes and ranges that every input has. -/
import Derived.Test.YtjgbncpbenmjoaaF21
import Derived.Test.YtjgbncpbenmjoaaEv
namespace Go.Proofs.Ytjgbncpbenmjoaa.Pure
open Go.RowKit Go.Proofs.Ytjgbncpbenmjoaa.Pall Go.Proofs.YtjgbncpbenmjoaaW.PrintWords
set_option linter.unusedSimpArgs false
set_option linter.unusedVariables false
/-- Is the signal with the index j right, beside the one before it? -/
def sgB (l : List S33) (j : Nat) : Bool :=
  decide (0 ≤ (rd_T33 l (j : Int)).f0) && decide ((rd_T33 l (j : Int)).f0 ≤ 100000) && decide (0 ≤ (rd_T33 l (j : Int)).f1) && decide ((rd_T33 l (j : Int)).f1 ≤ 9) && !decide ((rd_T33 l (j : Int)).f1 = 8) && (decide (j = 0) || decide ((rd_T33 l ((j - 1 : Nat) : Int)).f0 ≤ (rd_T33 l (j : Int)).f0))
def areSig (l : List S33) : Bool := allD (sgB l) 0 l.length && decide (l.length ≤ 40)
theorem spec_AreSignals_ev (l : List S33) (hn : l.length ≤ 9223372036854775807) : Ev (fun k => spec_AreSignals.f k l) (areSig l) := by
  have h := Ev.allLoop (l := fun k i => spec_AreSignals.l0 k l i) (n := l.length) (sgB l) false (decide (l.length ≤ 40))
    (fun i hi => Evt.all fun k => by
      simp only [spec_AreSignals.l0, spec_l01In.f]
      rw [if_pos (by omega), if_pos (by omega), wrap_succ hi hn]
      generalize spec_AreSignals.l0 k l ((i + 1 : Nat) : Int) = R
      by_cases h0 : i = 0
      · have hz : (i = 0) = True := eq_true h0
        have hp : ¬ 0 < i := by omega
        clear h0
        by_cases h1 : 0 ≤ (rd_T33 l (i : Int)).f0 <;> by_cases h2 : (rd_T33 l (i : Int)).f0 ≤ 100000 <;> by_cases h3 : 0 ≤ (rd_T33 l (i : Int)).f1 <;> by_cases h4 : (rd_T33 l (i : Int)).f1 ≤ 9 <;> by_cases h5 : (rd_T33 l (i : Int)).f1 = 8 <;> simp [sgB, hz, hp, h1, h2, h3, h4, h5]
      · have hp : (i : Int) > 0 := by omega
        rw [wrap_pred hi (by omega) hn]
        have q1 : (0 : Int) ≤ ((i - 1 : Nat) : Int) := by omega
        have q2 : ((i - 1 : Nat) : Int) < (l.length : Int) := by omega
        by_cases h1 : 0 ≤ (rd_T33 l (i : Int)).f0 <;> by_cases h2 : (rd_T33 l (i : Int)).f0 ≤ 100000 <;> by_cases h3 : 0 ≤ (rd_T33 l (i : Int)).f1 <;> by_cases h4 : (rd_T33 l (i : Int)).f1 ≤ 9 <;> by_cases h5 : (rd_T33 l (i : Int)).f1 = 8 <;> by_cases h6 : (rd_T33 l ((i - 1 : Nat) : Int)).f0 ≤ (rd_T33 l (i : Int)).f0 <;> simp [sgB, h0, q1, q2, h1, h2, h3, h4, h5, h6, Int.not_lt.2, Int.not_le.1] <;> (try omega))
    (Evt.all fun k => by
      simp only [spec_AreSignals.l0]
      rw [if_neg (by omega)]
      congr 1
      exact decide_eq_decide.2 (by omega)) l.length 0 (by omega)
  refine (congrArg (Ev _) ?_).mp h
  unfold areSig
  cases allD (sgB l) 0 l.length <;> simp
theorem impl_AreSignals_ev (l : List S33) (hn : l.length ≤ 9223372036854775807) : Ev (fun k => impl_AreSignals.f k l) (areSig l) := by
  unfold impl_AreSignals.f
  by_cases hl : (l.length : Int) > 40
  · simp only [if_pos hl]
    have : areSig l = false := by
      unfold areSig
      rw [decide_eq_false (by omega), Bool.and_false]
    rw [this]
    exact Ev.now _
  simp only [if_neg hl]
  have h := Ev.allLoop (l := fun k i => impl_AreSignals.l0 k l l (l.length : Int) i) (n := l.length) (sgB l) false true
    (fun i hi => Evt.all fun k => by
      simp only [impl_AreSignals.l0, impl_isTick.f, impl_within.f]
      rw [if_pos (by omega), if_pos (by omega), if_pos (by omega), wrap_succ hi hn]
      generalize impl_AreSignals.l0 k l l (l.length : Int) ((i + 1 : Nat) : Int) = R
      by_cases h0 : i = 0
      · have hz : (i = 0) = True := eq_true h0
        have hp : ¬ 0 < i := by omega
        clear h0
        by_cases h1 : 0 ≤ (rd_T33 l (i : Int)).f0 <;> by_cases h2 : (rd_T33 l (i : Int)).f0 ≤ 100000 <;> by_cases h3 : 0 ≤ (rd_T33 l (i : Int)).f1 <;> by_cases h4 : (rd_T33 l (i : Int)).f1 ≤ 9 <;> by_cases h5 : (rd_T33 l (i : Int)).f1 = 8 <;> simp [sgB, hz, hp, h1, h2, h3, h4, h5]
      · have hp : (i : Int) > 0 := by omega
        rw [wrap_pred hi (by omega) hn]
        have q1 : (0 : Int) ≤ ((i - 1 : Nat) : Int) := by omega
        have q2 : ((i - 1 : Nat) : Int) < (l.length : Int) := by omega
        by_cases h1 : 0 ≤ (rd_T33 l (i : Int)).f0 <;> by_cases h2 : (rd_T33 l (i : Int)).f0 ≤ 100000 <;> by_cases h3 : 0 ≤ (rd_T33 l (i : Int)).f1 <;> by_cases h4 : (rd_T33 l (i : Int)).f1 ≤ 9 <;> by_cases h5 : (rd_T33 l (i : Int)).f1 = 8 <;> by_cases h6 : (rd_T33 l ((i - 1 : Nat) : Int)).f0 ≤ (rd_T33 l (i : Int)).f0 <;> simp [sgB, h0, q1, q2, h1, h2, h3, h4, h5, h6, Int.not_lt.2, Int.not_le.1] <;> (try omega))
    (Evt.all fun k => by
      simp only [impl_AreSignals.l0]
      rw [if_neg (by omega)]) l.length 0 (by omega)
  refine (congrArg (Ev _) ?_).mp h
  unfold areSig
  rw [decide_eq_true (by omega : l.length ≤ 40), Bool.and_true]
  cases allD (sgB l) 0 l.length <;> simp
theorem eqSignalS_refl (l : List S33) (hn : l.length ≤ 9223372036854775807) : Ev (fun k => laws_eqSignalS.f k l l) true := by
  unfold laws_eqSignalS.f
  simp only [if_pos rfl]
  have h := Ev.allLoop (l := fun k i => laws_eqSignalS.l0 k l l i) (n := l.length) (fun _ => true) false true
    (fun i hi => Evt.all fun k => by
      simp only [laws_eqSignalS.l0, laws_eqSignal.f]
      rw [if_pos (by omega), if_pos (by omega), if_pos (by omega), wrap_succ hi hn]
      simp)
    (Evt.all fun k => by
      simp only [laws_eqSignalS.l0]
      rw [if_neg (by omega)]) l.length 0 (by omega)
  refine (congrArg (Ev _) ?_).mp h
  rw [if_pos ((allD_iff _ _ _).2 (fun _ _ _ => rfl))]
theorem intactSignalS_refl (l : List S33) (hn : l.length ≤ 1000000) : Ev (fun k => laws_intactSignalS.f k l l) true := by
  unfold laws_intactSignalS.f
  simp only [if_pos rfl]
  exact eqSignalS_refl _ (full_le l hn)
theorem szSignalS_some (l : List S30) (hn : l.length ≤ 9223372036854775807) : laws_szSignalS.f l 1000000 = some (if 1000000 < l.length then -1 else 1000000 - (l.length : Int)) := by
  unfold laws_szSignalS.f
  exact sz_some hn
theorem toSignalS_some (k : Nat) (l : List S30) (b : Bool) (hn : l.length ≤ 1000000) : laws_toSignalS.f k l b = some (l.map laws_toSignalS.conv) := by
  unfold laws_toSignalS.f
  rw [if_pos hn]
theorem rd_T33_nat {l : List S33} {i : Nat} (h : i < l.length) : rd_T33 l (i : Int) = l[i] := by simp [rd_T33, h]
def sgM (i : Nat) : S33 := ⟨101 + 2 * (i : Int), 102 + 2 * (i : Int)⟩
theorem markSignalS_ev (l : List S33) (hn : l.length ≤ 1000000) : ∃ L : List S33, L.length = l.length ∧ (∀ j, j < L.length → rd_T33 L (j : Int) = sgM j) ∧ Ev (fun k => laws_markSignalS.f k l 101) (101 + 2 * (l.length : Int), L) := by
  have key : ∀ d i (xs : List S33), i + d = l.length → xs.length = l.length → (∀ j, j < i → rd_T33 xs (j : Int) = sgM j) →
      ∃ L : List S33, L.length = l.length ∧ (∀ j, j < l.length → rd_T33 L (j : Int) = sgM j) ∧ Ev (fun k => laws_markSignalS.l0 k xs (101 + 2 * (i : Int)) (i : Int)) (101 + 2 * (l.length : Int), L) := by
    intro d
    induction d with
    | zero =>
      intro i xs hi hx hj
      obtain rfl : i = l.length := by omega
      refine ⟨xs, hx, hj, Ev.dn ?_⟩
      simp only [laws_markSignalS.l0]
      simp only [if_neg (show ¬ (l.length : Int) < (xs.length : Int) by omega)]
      exact Ev.now _
    | succ d ih =>
      intro i xs hi hx hj
      obtain ⟨y, hy⟩ : ∃ y, y = xs.set i (⟨101 + 2 * (i : Int), (rd_T33 xs (i : Int)).f1⟩ : S33) := ⟨_, rfl⟩
      have hyl : y.length = l.length := by rw [hy, List.length_set, hx]
      have hyi : (rd_T33 y (i : Int)).f0 = 101 + 2 * (i : Int) := by rw [rd_T33_nat (by omega)]; simp [hy]
      have ez : y.set i (⟨(rd_T33 y (i : Int)).f0, 101 + 2 * (i : Int) + 1⟩ : S33) = xs.set i (sgM i) := by
        rw [hyi, hy, List.set_set]
        unfold sgM
        congr 2
        omega
      obtain ⟨L, h1, h2, h3⟩ := ih (i + 1) (xs.set i (sgM i)) (by omega) (by simpa using hx) (fun j hj2 => by
        have hjl : j < (xs.set i (sgM i)).length := by rw [List.length_set]; omega
        rw [rd_T33_nat hjl, List.getElem_set]
        by_cases e : i = j
        · rw [if_pos e, e]
        · rw [if_neg e]
          have := hj j (by omega)
          rwa [rd_T33_nat (by omega)] at this)
      refine ⟨L, h1, h2, Ev.dn ?_⟩
      refine Ev.eq' h3 (fun k => ?_)
      simp only [laws_markSignalS.l0]
      rw [if_pos (show (i : Int) < (xs.length : Int) by omega), if_pos (show (0 : Int) ≤ (i : Int) by omega), Option.bind_some, Int.toNat_natCast, ← hy, wrap_succ (show i < l.length by omega) (by omega), wrap_id (x := 101 + 2 * (i : Int) + 1) (by omega) (by omega), wrap_id (x := 101 + 2 * (i : Int) + 1 + 1) (by omega) (by omega), ez]
      first | done | (congr 1; done) | (congr 1; omega)
  obtain ⟨L, h1, h2, h3⟩ := key l.length 0 l (by omega) rfl (fun j hj => by omega)
  exact ⟨L, h1, fun j hj => h2 j (by omega), h3⟩
theorem markInt_loop (n : Nat) (hn : n ≤ 1000000) : ∀ d i (xs : List Int), i + d = n → xs.length = n → (∀ j, j < i → rd xs (j : Int) = 101 + (j : Int)) →
    ∃ L : List Int, L.length = n ∧ (∀ j, j < n → rd L (j : Int) = 101 + (j : Int)) ∧ Ev (fun k => laws_markInt64S.l0 k xs (101 + (i : Int)) (i : Int)) (101 + (n : Int), L) := by
  intro d
  induction d with
  | zero =>
    intro i xs hi hx hj
    obtain rfl : i = n := by omega
    refine ⟨xs, hx, hj, Ev.dn ?_⟩
    simp only [laws_markInt64S.l0]
    simp only [if_neg (show ¬ (i : Int) < (xs.length : Int) by omega)]
    exact Ev.now _
  | succ d ih =>
    intro i xs hi hx hj
    obtain ⟨L, h1, h2, h3⟩ := ih (i + 1) (xs.set i (101 + (i : Int))) (by omega) (by simpa using hx) (fun j hj2 => by
      have hjl : j < (xs.set i (101 + (i : Int))).length := by rw [List.length_set]; omega
      rw [rd_nat hjl, List.getElem_set]
      by_cases e : i = j
      · rw [if_pos e, e]
      · rw [if_neg e]
        have := hj j (by omega)
        rwa [rd_nat (by omega)] at this)
    refine ⟨L, h1, h2, Ev.dn ?_⟩
    refine Ev.eq' h3 (fun k => ?_)
    simp only [laws_markInt64S.l0]
    rw [if_pos (show (i : Int) < (xs.length : Int) by omega), if_pos (show (0 : Int) ≤ (i : Int) by omega), wrap_succ (show i < n by omega) (by omega), wrap_id (by omega) (by omega), Int.toNat_natCast]
    congr 1
theorem markInt_ev (xs : List Int) (hn : xs.length ≤ 1000000) : ∃ L : List Int, L.length = xs.length ∧ (∀ j, j < L.length → rd L (j : Int) = 101 + (j : Int)) ∧ Ev (fun k => laws_markInt64S.f k xs 101) (101 + (xs.length : Int), L) := by
  obtain ⟨L, h1, h2, h3⟩ := markInt_loop xs.length hn xs.length 0 xs (by omega) rfl (fun j hj => by omega)
  exact ⟨L, h1, fun j hj => h2 j (by omega), h3⟩
theorem heldInt_ev (L : List Int) (hn : L.length ≤ 1000000) (h : ∀ j, j < L.length → rd L (j : Int) = 101 + (j : Int)) : Ev (fun k => laws_heldInt64S.f k L 101) (101 + (L.length : Int)) := by
  have key : ∀ d i, i + d = L.length → Ev (fun k => laws_heldInt64S.l0 k L (101 + (i : Int)) (i : Int)) (101 + (L.length : Int)) := by
    intro d
    induction d with
    | zero =>
      intro i hi
      obtain rfl : i = L.length := by omega
      refine Ev.dn ?_
      simp only [laws_heldInt64S.l0]
      simp only [if_neg (show ¬ (L.length : Int) < (L.length : Int) by omega)]
      exact Ev.now _
    | succ d ih =>
      intro i hi
      refine Ev.dn ?_
      refine Ev.eq' (ih (i + 1) (by omega)) (fun k => ?_)
      simp only [laws_heldInt64S.l0]
      rw [if_pos (show (i : Int) < (L.length : Int) by omega), if_pos (show (0 : Int) ≤ (i : Int) by omega), if_pos (h i (by omega)), wrap_succ (show i < L.length by omega) (by omega), wrap_id (by omega) (by omega)]
      (try congr 1)
  exact key L.length 0 (by omega)
theorem eqInt_refl (l : List Int) (hn : l.length ≤ 9223372036854775807) : Ev (fun k => laws_eqInt64S.f k l l) true := by
  unfold laws_eqInt64S.f
  simp only [if_pos rfl]
  have h := Ev.allLoop (l := fun k i => laws_eqInt64S.l0 k l l i) (n := l.length) (fun _ => true) false true
    (fun i hi => Evt.all fun k => by
      simp only [laws_eqInt64S.l0]
      rw [if_pos (by omega), if_pos (by omega), if_pos (by omega), wrap_succ hi hn]
      (try simp))
    (Evt.all fun k => by
      simp only [laws_eqInt64S.l0]
      rw [if_neg (by omega)]) l.length 0 (by omega)
  refine h.eq ?_
  rw [if_pos ((allD_iff _ _ _).2 (fun _ _ _ => rfl))]
abbrev Ct := Bool × Bool × Bool × Bool × Bool × Int
/-- The controller after an input, if it is allowed. -/
def gv (a b c d e : Bool) (n x : Int) : Option Ct :=
  if x = 0 then some (!a, b, c && !a, d && !a, e, n)
  else if x = 1 then some (a, !b, c && !b, d && !b, e, n)
  else if x = 2 then (if (a && b && !e) = true then some (a, b, true, false, e, 0) else none)
  else if x = 3 then some (a, b, false, false, e, n)
  else if x = 4 then (if (c && !d) = true then some (a, b, c, true, e, n) else none)
  else if x = 5 then (if d = true then some (a, b, c, false, e, n) else none)
  else if x = 6 then some (a, b, false, false, true, n)
  else if x = 7 then some (a, b, c, d, e, 0)
  else if x = 8 then some (a, b, c && !decide (mn 4 (wrap64 (n + 1)) > 3), d && !decide (mn 4 (wrap64 (n + 1)) > 3), e, mn 4 (wrap64 (n + 1)))
  else (if (e && !a && !b) = true then some (a, b, c, d, false, n) else none)
theorem mn_comm (x y : Int) : mn x y = mn y x := by unfold mn; (repeat' split) <;> omega
def give7 (s : Ct) (o : Option Ct) : Bool × Bool × Bool × Bool × Bool × Int × Bool :=
  match o with
  | some t => (t.1, t.2.1, t.2.2.1, t.2.2.2.1, t.2.2.2.2.1, t.2.2.2.2.2, true)
  | none => (s.1, s.2.1, s.2.2.1, s.2.2.2.1, s.2.2.2.2.1, s.2.2.2.2.2, false)
theorem spec_gv (a b c d e : Bool) (n x : Int) : spec_l21Give.f a b c d e n x = some (give7 (a, b, c, d, e, n) (gv a b c d e n x)) := by
  unfold spec_l21Give.f gv
  simp only [spec_l21Off.f, Option.bind_some]
  by_cases h0 : x = 0
  · simp only [if_pos h0]; cases a <;> simp [give7]
  simp only [if_neg h0]
  by_cases h1 : x = 1
  · simp only [if_pos h1]; cases b <;> simp [give7]
  simp only [if_neg h1]
  by_cases h2 : x = 2
  · simp only [if_pos h2]; cases a <;> cases b <;> cases e <;> simp [give7]
  simp only [if_neg h2]
  by_cases h3 : x = 3
  · simp only [if_pos h3]; simp [give7]
  simp only [if_neg h3]
  by_cases h4 : x = 4
  · simp only [if_pos h4]; cases c <;> cases d <;> simp [give7]
  simp only [if_neg h4]
  by_cases h5 : x = 5
  · simp only [if_pos h5]; cases d <;> simp [give7]
  simp only [if_neg h5]
  by_cases h6 : x = 6
  · simp only [if_pos h6]; simp [give7]
  simp only [if_neg h6]
  by_cases h7 : x = 7
  · simp only [if_pos h7]; simp [give7]
  simp only [if_neg h7]
  by_cases h8 : x = 8
  · simp only [if_pos h8]
    by_cases hm : mn 4 (wrap64 (n + 1)) > 3
    · simp [give7, hm]
    · simp [give7, hm]
  simp only [if_neg h8]
  cases a <;> cases b <;> cases e <;> simp [give7]
def inp (s : Ct) (x : Int) : Ct × Int :=
  if 0 ≤ x ∧ x ≤ 9 then (match gv s.1 s.2.1 s.2.2.1 s.2.2.2.1 s.2.2.2.2.1 s.2.2.2.2.2 x with
    | some t => (t, 0)
    | none => (s, 5)) else (s, 2)
def fl7 (s : Ct) (y : Int) : Bool × Bool × Bool × Bool × Bool × Int × Int := (s.1, s.2.1, s.2.2.1, s.2.2.2.1, s.2.2.2.2.1, s.2.2.2.2.2, y)
def inpF (s : Ct) (x : Int) : Bool × Bool × Bool × Bool × Bool × Int × Int := if (inp s x).2 = 0 then fl7 (inp s x).1 0 else (false, false, false, false, false, 0, (inp s x).2)
theorem impl_inp (a b c d e : Bool) (n x : Int) : impl_giveInput.f a b c d e n x = some (inpF (a, b, c, d, e, n) x) := by
  unfold impl_giveInput.f inpF inp gv
  simp only [impl_safe.f, Option.bind_some, mn_comm (wrap64 (n + 1)) 4]
  by_cases h0 : x = 0
  · subst h0; cases a <;> simp [fl7]
  simp only [if_neg h0]
  by_cases h1 : x = 1
  · subst h1; cases b <;> simp [fl7]
  simp only [if_neg h1]
  by_cases h2 : x = 2
  · subst h2; cases a <;> cases b <;> cases e <;> simp [fl7]
  simp only [if_neg h2]
  by_cases h3 : x = 3
  · subst h3; simp [fl7]
  simp only [if_neg h3]
  by_cases h4 : x = 4
  · subst h4; cases c <;> cases d <;> simp [fl7]
  simp only [if_neg h4]
  by_cases h5 : x = 5
  · subst h5; cases d <;> simp [fl7]
  simp only [if_neg h5]
  by_cases h6 : x = 6
  · subst h6; simp [fl7]
  simp only [if_neg h6]
  by_cases h7 : x = 7
  · subst h7; simp [fl7]
  simp only [if_neg h7]
  by_cases h8 : x = 8
  · subst h8
    by_cases hm : mn 4 (wrap64 (n + 1)) > 3
    · simp [fl7, hm]
    · simp [fl7, hm]
  simp only [if_neg h8]
  by_cases h9 : x = 9
  · subst h9; cases a <;> cases b <;> cases e <;> simp [fl7]
  simp only [if_neg h9, if_neg (show ¬ (0 ≤ x ∧ x ≤ 9) by omega)]
  simp
/-- The controller after a tick. -/
def tk (s : Ct) : Ct := (s.1, s.2.1, s.2.2.1 && !decide (mn 4 (wrap64 (s.2.2.2.2.2 + 1)) > 3), s.2.2.2.1 && !decide (mn 4 (wrap64 (s.2.2.2.2.2 + 1)) > 3), s.2.2.2.2.1, mn 4 (wrap64 (s.2.2.2.2.2 + 1)))
def okc (s : Ct) : Prop := 0 ≤ s.2.2.2.2.2 ∧ s.2.2.2.2.2 ≤ 4
theorem gv_tick (s : Ct) : gv s.1 s.2.1 s.2.2.1 s.2.2.2.1 s.2.2.2.2.1 s.2.2.2.2.2 8 = some (tk s) := by
  unfold gv tk
  rw [if_neg (by decide), if_neg (by decide), if_neg (by decide), if_neg (by decide), if_neg (by decide), if_neg (by decide), if_neg (by decide), if_neg (by decide), if_pos rfl]
def fl6 (s : Ct) : Bool × Bool × Bool × Bool × Bool × Int := s
theorem impl_tick (a b c d e : Bool) (n : Int) : impl_giveInput.f a b c d e n 8 = some (fl7 (tk (a, b, c, d, e, n)) 0) := by
  have h := gv_tick (a, b, c, d, e, n)
  dsimp only at h
  rw [impl_inp]
  unfold inpF inp
  simp only [if_pos (show (0 : Int) ≤ 8 ∧ (8 : Int) ≤ 9 by decide), h, if_pos]
theorem spec_tick (a b c d e : Bool) (n : Int) : spec_l21Give.f a b c d e n 8 = some (give7 (a, b, c, d, e, n) (some (tk (a, b, c, d, e, n)))) := by
  have h := gv_tick (a, b, c, d, e, n)
  dsimp only at h
  rw [spec_gv, h]
theorem mn4 {n : Int} (h0 : 0 ≤ n) (h4 : n ≤ 4) : mn 4 (wrap64 (n + 1)) = if n = 4 then 4 else n + 1 := by
  have hw : wrap64 (n + 1) = n + 1 := wrap_id (by omega) (by omega)
  rw [hw]
  unfold mn
  split <;> split <;> omega
theorem okc_tk {s : Ct} (h : okc s) : okc (tk s) := by
  obtain ⟨h0, h4⟩ := h
  unfold okc tk
  dsimp only
  rw [mn4 h0 h4]
  split <;> omega
theorem okc_gv {s t : Ct} {x : Int} (h : okc s) (hg : gv s.1 s.2.1 s.2.2.1 s.2.2.2.1 s.2.2.2.2.1 s.2.2.2.2.2 x = some t) : okc t := by
  have ht := okc_tk h
  obtain ⟨a, b, c, d, e, n⟩ := s
  obtain ⟨h0, h4⟩ := h
  dsimp only at h0 h4 hg
  unfold okc
  unfold gv at hg
  by_cases x0 : x = 0
  · rw [if_pos x0] at hg; cases hg; exact ⟨h0, h4⟩
  rw [if_neg x0] at hg
  by_cases x1 : x = 1
  · rw [if_pos x1] at hg; cases hg; exact ⟨h0, h4⟩
  rw [if_neg x1] at hg
  by_cases x2 : x = 2
  · rw [if_pos x2] at hg
    split at hg
    · cases hg; exact ⟨Int.le_refl _, by show (0 : Int) ≤ 4; decide⟩
    · cases hg
  rw [if_neg x2] at hg
  by_cases x3 : x = 3
  · rw [if_pos x3] at hg; cases hg; exact ⟨h0, h4⟩
  rw [if_neg x3] at hg
  by_cases x4 : x = 4
  · rw [if_pos x4] at hg
    split at hg
    · cases hg; exact ⟨h0, h4⟩
    · cases hg
  rw [if_neg x4] at hg
  by_cases x5 : x = 5
  · rw [if_pos x5] at hg
    split at hg
    · cases hg; exact ⟨h0, h4⟩
    · cases hg
  rw [if_neg x5] at hg
  by_cases x6 : x = 6
  · rw [if_pos x6] at hg; cases hg; exact ⟨h0, h4⟩
  rw [if_neg x6] at hg
  by_cases x7 : x = 7
  · rw [if_pos x7] at hg; cases hg; exact ⟨Int.le_refl _, by show (0 : Int) ≤ 4; decide⟩
  rw [if_neg x7] at hg
  by_cases x8 : x = 8
  · rw [if_pos x8] at hg; cases hg; exact ht
  rw [if_neg x8] at hg
  split at hg
  · cases hg; exact ⟨h0, h4⟩
  · cases hg
theorem tk_low (a b c d e : Bool) {n : Int} (h0 : 0 ≤ n) (h : n ≤ 2) : tk (a, b, c, d, e, n) = (a, b, c, d, e, n + 1) := by
  unfold tk
  dsimp only
  rw [mn4 h0 (by omega), if_neg (by omega), decide_eq_false (show ¬ n + 1 > 3 by omega)]
  simp
theorem tk_high (a b c d e : Bool) {n : Int} (h0 : 3 ≤ n) (h : n ≤ 4) : tk (a, b, c, d, e, n) = (a, b, false, false, e, 4) := by
  unfold tk
  dsimp only
  rw [mn4 (by omega) h]
  by_cases h4 : n = 4
  · rw [if_pos h4, decide_eq_true (show (4 : Int) > 3 by decide)]; simp
  · obtain rfl : n = 3 := by omega
    rw [if_neg h4, decide_eq_true (show (3 : Int) + 1 > 3 by decide)]; simp
/-- Some ticks. -/
def tks : Nat → Ct → Ct
  | 0, s => s
  | n + 1, s => tks n (tk s)
/-- Behind five ticks a sixth changes nothing. -/
theorem tks_five {s : Ct} (h : okc s) : tks 6 s = tks 5 s := by
  obtain ⟨a, b, c, d, e, n⟩ := s
  obtain ⟨h0, h4⟩ := h
  dsimp only at h0 h4
  obtain rfl | rfl | rfl | rfl | rfl : n = 0 ∨ n = 1 ∨ n = 2 ∨ n = 3 ∨ n = 4 := by omega
  · simp only [tks, tk_low a b c d e (show (0 : Int) ≤ 0 by decide) (by decide), tk_low a b c d e (show (0 : Int) ≤ 0 + 1 by decide) (by decide), tk_low a b c d e (show (0 : Int) ≤ 0 + 1 + 1 by decide) (by decide), tk_high _ _ _ _ _ (show (3 : Int) ≤ 0 + 1 + 1 + 1 by decide) (by decide), tk_high _ _ _ _ _ (show (3 : Int) ≤ 4 by decide) (by decide)]
  · simp only [tks, tk_low a b c d e (show (0 : Int) ≤ 1 by decide) (by decide), tk_low a b c d e (show (0 : Int) ≤ 1 + 1 by decide) (by decide), tk_high _ _ _ _ _ (show (3 : Int) ≤ 1 + 1 + 1 by decide) (by decide), tk_high _ _ _ _ _ (show (3 : Int) ≤ 4 by decide) (by decide)]
  · simp only [tks, tk_low a b c d e (show (0 : Int) ≤ 2 by decide) (by decide), tk_high _ _ _ _ _ (show (3 : Int) ≤ 2 + 1 by decide) (by decide), tk_high _ _ _ _ _ (show (3 : Int) ≤ 4 by decide) (by decide)]
  · simp only [tks, tk_high _ _ _ _ _ (show (3 : Int) ≤ 3 by decide) (by decide), tk_high _ _ _ _ _ (show (3 : Int) ≤ 4 by decide) (by decide)]
  · simp only [tks, tk_high _ _ _ _ _ (show (3 : Int) ≤ 4 by decide) (by decide)]
def tksI (n : Int) (s : Ct) : Ct := tks (min n.toNat 5) s
theorem tksI_zero (s : Ct) : tksI 0 s = s := rfl
theorem tksI_succ {n : Int} (hn : 1 ≤ n) {s : Ct} (h : okc s) : tksI n s = tksI (n - 1) (tk s) := by
  unfold tksI
  by_cases c : n ≤ 5
  · obtain ⟨m, rfl⟩ : ∃ m : Nat, n = (m : Int) + 1 := ⟨(n - 1).toNat, by omega⟩
    have e1 : min ((m : Int) + 1).toNat 5 = m + 1 := by omega
    have e2 : min ((m : Int) + 1 - 1).toNat 5 = m := by omega
    rw [e1, e2]
    rfl
  · have e1 : min n.toNat 5 = 5 := by omega
    have e2 : min (n - 1).toNat 5 = 5 := by omega
    rw [e1, e2]
    exact (tks_five h).symm
theorem spec_ticks_ev (n : Nat) : ∀ (a b c d e : Bool) (m : Int), n ≤ 5 → Ev (fun k => spec_l22Ticks.l0 k (n : Int) a b c d e m) (fl6 (tks n (a, b, c, d, e, m))) := by
  induction n with
  | zero =>
    intro a b c d e m _
    refine Ev.dn ?_
    simp only [spec_l22Ticks.l0]
    simp only [if_neg (show ¬ ((0 : Nat) : Int) > 0 by omega)]
    exact Ev.now _
  | succ n ih =>
    intro a b c d e m hn
    have h := ih (tk (a, b, c, d, e, m)).1 (tk (a, b, c, d, e, m)).2.1 (tk (a, b, c, d, e, m)).2.2.1 (tk (a, b, c, d, e, m)).2.2.2.1 (tk (a, b, c, d, e, m)).2.2.2.2.1 (tk (a, b, c, d, e, m)).2.2.2.2.2 (by omega)
    refine Ev.dn (Ev.eq' h (fun k => ?_))
    have hw : wrap64 (((n + 1 : Nat) : Int) - 1) = (n : Int) := by rw [show ((n + 1 : Nat) : Int) - 1 = (n : Int) by omega]; exact wrap_id (by omega) (by omega)
    simp only [spec_l22Ticks.l0, spec_tick, Option.bind_some, give7]
    rw [if_pos (by omega), hw]
theorem spec_l22Ticks_ev (a b c d e : Bool) (m n : Int) (hn : 0 ≤ n) : Ev (fun k => spec_l22Ticks.f k a b c d e m n) (fl6 (tksI n (a, b, c, d, e, m))) := by
  have e : mn n 5 = ((min n.toNat 5 : Nat) : Int) := by unfold mn; split <;> omega
  unfold spec_l22Ticks.f
  rw [e]
  exact spec_ticks_ev _ _ _ _ _ _ _ (by omega)
def sg (l : List S33) (i : Nat) : S33 := rd_T33 l (i : Int)
/-- A signal is given, or refused. -/
def app (s : Ct) (r : List Int) (i : Nat) (x : Int) : Ct × List Int := match gv s.1 s.2.1 s.2.2.1 s.2.2.2.1 s.2.2.2.2.1 s.2.2.2.2.2 x with
  | some t => (t, r)
  | none => (s, r ++ [(i : Int)])
theorem okc_app {s : Ct} (h : okc s) (r : List Int) (i : Nat) (x : Int) : okc (app s r i x).1 := by
  unfold app
  cases hg : gv s.1 s.2.1 s.2.2.1 s.2.2.2.1 s.2.2.2.2.1 s.2.2.2.2.2 x with
  | some t => exact okc_gv h hg
  | none => exact h
theorem app_len (s : Ct) (r : List Int) (i : Nat) (x : Int) : (app s r i x).2.length ≤ r.length + 1 := by
  unfold app
  split
  · exact Nat.le_succ _
  · simp
/-- From signal i on, at the time now: the controller in tick T, and what is refused. -/
def sp (l : List S33) (T : Int) : Nat → Nat → Int → Ct → List Int → Ct × List Int
  | 0, _, now, s, r => (tksI (T - now) s, r)
  | d + 1, i, now, s, r => if (sg l i).f0 ≤ T then sp l T d (i + 1) (sg l i).f0 (app (tksI ((sg l i).f0 - now) s) r i (sg l i).f1).1 (app (tksI ((sg l i).f0 - now) s) r i (sg l i).f1).2 else (tksI (T - now) s, r)
/-- The signals of a tick. -/
def bg (l : List S33) (t : Int) : Nat → Nat → Ct → List Int → Nat × Ct × List Int
  | 0, i, s, r => (i, s, r)
  | d + 1, i, s, r => if (sg l i).f0 = t then bg l t d (i + 1) (app s r i (sg l i).f1).1 (app s r i (sg l i).f1).2 else (i, s, r)
theorem bg_sp (l : List S33) {t T : Int} (hT : t ≤ T) : ∀ d i s r, i + d = l.length →
    i ≤ (bg l t d i s r).1 ∧ (bg l t d i s r).1 ≤ l.length ∧ ((bg l t d i s r).1 = l.length ∨ (sg l (bg l t d i s r).1).f0 ≠ t) ∧
      sp l T (l.length - (bg l t d i s r).1) (bg l t d i s r).1 t (bg l t d i s r).2.1 (bg l t d i s r).2.2 = sp l T d i t s r := by
  intro d
  induction d with
  | zero =>
    intro i s r hi
    simp only [bg]
    obtain rfl : i = l.length := by omega
    exact ⟨Nat.le_refl _, Nat.le_refl _, .inl rfl, by rw [Nat.sub_self]⟩
  | succ d ih =>
    intro i s r hi
    simp only [bg]
    by_cases c : (sg l i).f0 = t
    · rw [if_pos c]
      obtain ⟨h1, h2, h3, h4⟩ := ih (i + 1) (app s r i (sg l i).f1).1 (app s r i (sg l i).f1).2 (by omega)
      refine ⟨by omega, h2, h3, h4.trans ?_⟩
      simp only [sp]
      rw [if_pos (by omega), c, Int.sub_self, tksI_zero]
    · rw [if_neg c]
      exact ⟨Nat.le_refl _, by dsimp only; omega, .inr c, by dsimp only; rw [show l.length - i = d + 1 by omega]⟩
theorem bg_okc (l : List S33) (t : Int) : ∀ d i s r, okc s → okc (bg l t d i s r).2.1 := by
  intro d
  induction d with
  | zero => exact fun _ _ _ h => h
  | succ d ih =>
    intro i s r h
    simp only [bg]
    split
    · exact ih _ _ _ (okc_app h _ _ _)
    · exact h
theorem bg_len (l : List S33) (t : Int) : ∀ d i s r, r.length ≤ i → (bg l t d i s r).2.2.length ≤ (bg l t d i s r).1 := by
  intro d
  induction d with
  | zero => exact fun _ _ _ h => h
  | succ d ih =>
    intro i s r h
    simp only [bg]
    split
    · refine ih _ _ _ ?_
      have := app_len s r i (sg l i).f1
      omega
    · exact h
theorem tick_sp (l : List S33) {t T : Int} (hT : t < T) {i : Nat} {s : Ct} (hs : okc s) (r : List Int) (hi : i ≤ l.length) (h : i < l.length → t < (sg l i).f0) :
    sp l T (l.length - i) i t s r = sp l T (l.length - i) i (t + 1) (tk s) r := by
  have e : ∀ u : Int, t < u → tksI (u - t) s = tksI (u - (t + 1)) (tk s) := fun u hu => by
    rw [tksI_succ (show 1 ≤ u - t by omega) hs, show u - t - 1 = u - (t + 1) by omega]
  cases hd : l.length - i with
  | zero => simp only [sp]; rw [e T hT]
  | succ d =>
    have hf := h (by omega)
    simp only [sp]
    rw [e _ hf, e T hT]
theorem end_sp (l : List S33) (T : Int) {i : Nat} (s : Ct) (r : List Int) (h : i < l.length → T < (sg l i).f0) : sp l T (l.length - i) i T s r = (s, r) := by
  cases hd : l.length - i with
  | zero => simp only [sp]; rw [Int.sub_self, tksI_zero]
  | succ d =>
    have hf := h (by omega)
    simp only [sp]
    rw [if_neg (by omega), Int.sub_self, tksI_zero]
def z6 : Ct := (false, false, false, false, false, 0)
/-- The controller in tick T, and the signals that are refused. -/
def atT (l : List S33) (T : Int) : Ct × List Int := sp l T l.length 0 0 z6 []
theorem okc_z6 : okc z6 := ⟨Int.le_refl _, by decide⟩
theorem sig_of (l : List S33) (h : areSig l = true) : l.length ≤ 40 ∧ (∀ j, j < l.length → 0 ≤ (sg l j).f0 ∧ (sg l j).f0 ≤ 100000 ∧ 0 ≤ (sg l j).f1 ∧ (sg l j).f1 ≤ 9) ∧ ∀ i j, i ≤ j → j < l.length → (sg l i).f0 ≤ (sg l j).f0 := by
  unfold areSig at h
  simp only [Bool.and_eq_true, decide_eq_true_eq] at h
  obtain ⟨h1, h2⟩ := h
  have h3 := (allD_iff _ _ _).1 h1
  have h4 : ∀ j, j < l.length → 0 ≤ (sg l j).f0 ∧ (sg l j).f0 ≤ 100000 ∧ 0 ≤ (sg l j).f1 ∧ (sg l j).f1 ≤ 9 ∧ (j = 0 ∨ (sg l (j - 1)).f0 ≤ (sg l j).f0) := fun j hj => by
    have := h3 j (Nat.zero_le _) (by omega)
    unfold sgB at this
    simp only [Bool.and_eq_true, Bool.or_eq_true, decide_eq_true_eq] at this
    exact ⟨this.1.1.1.1.1, this.1.1.1.1.2, this.1.1.1.2, this.1.1.2, this.2⟩
  refine ⟨h2, fun j hj => ⟨(h4 j hj).1, (h4 j hj).2.1, (h4 j hj).2.2.1, (h4 j hj).2.2.2.1⟩, ?_⟩
  intro i j
  induction j with
  | zero => intro hij _; obtain rfl : i = 0 := (by omega); exact Int.le_refl _
  | succ j ih =>
    intro hij hj
    by_cases e : i = j + 1
    · rw [e]; exact Int.le_refl _
    · have h5 := ih (by omega) (by omega)
      rcases (h4 (j + 1) hj).2.2.2.2 with h6 | h6
      · omega
      · exact Int.le_trans h5 h6
def flB (p : Nat × Ct × List Int) : Int × Bool × Bool × Bool × Bool × Bool × Int × List Int := ((p.1 : Int), p.2.1.1, p.2.1.2.1, p.2.1.2.2.1, p.2.1.2.2.2.1, p.2.1.2.2.2.2.1, p.2.1.2.2.2.2.2, p.2.2)
theorem impl_app (s : Ct) (r : List Int) (i : Nat) (x : Int) (h0 : 0 ≤ x) (h9 : x ≤ 9) :
    (gv s.1 s.2.1 s.2.2.1 s.2.2.2.1 s.2.2.2.2.1 s.2.2.2.2.2 x = none ∧ app s r i x = (s, r ++ [(i : Int)]) ∧ impl_giveInput.f s.1 s.2.1 s.2.2.1 s.2.2.2.1 s.2.2.2.2.1 s.2.2.2.2.2 x = some (false, false, false, false, false, 0, 5)) ∨
    ∃ t, gv s.1 s.2.1 s.2.2.1 s.2.2.2.1 s.2.2.2.2.1 s.2.2.2.2.2 x = some t ∧ app s r i x = (t, r) ∧ impl_giveInput.f s.1 s.2.1 s.2.2.1 s.2.2.2.1 s.2.2.2.2.1 s.2.2.2.2.2 x = some (fl7 t 0) := by
  rw [impl_inp]
  unfold inpF inp app
  simp only [if_pos (And.intro h0 h9)]
  cases gv s.1 s.2.1 s.2.2.1 s.2.2.2.1 s.2.2.2.2.1 s.2.2.2.2.2 x with
  | none => exact .inl ⟨rfl, rfl, rfl⟩
  | some t => exact .inr ⟨t, rfl, rfl, rfl⟩
theorem impl_begin_ev (l : List S33) (hl : areSig l = true) (t : Int) : ∀ d i (s : Ct) r, i + d = l.length → r.length ≤ i →
    Ev (fun k => impl_desk_begin.l0 k l (i : Int) t s.1 s.2.1 s.2.2.1 s.2.2.2.1 s.2.2.2.2.1 s.2.2.2.2.2 r) (flB (bg l t d i s r)) := by
  obtain ⟨hn, hv, hs⟩ := sig_of l hl
  intro d
  induction d with
  | zero =>
    intro i s r hi hr
    refine Ev.dn ?_
    simp only [impl_desk_begin.l0, bg]
    simp only [if_neg (show ¬ (i : Int) < (l.length : Int) by omega)]
    exact Ev.now _
  | succ d ih =>
    intro i s r hi hr
    refine Ev.dn ?_
    simp only [impl_desk_begin.l0, bg]
    simp only [if_pos (show (i : Int) < (l.length : Int) by omega), if_pos (show (0 : Int) ≤ (i : Int) by omega)]
    have hx := hv i (by omega)
    have hw : wrap64 ((i : Int) + 1) = ((i + 1 : Nat) : Int) := wrap_succ (show i < l.length by omega) (by omega)
    by_cases c : (sg l i).f0 = t
    · rw [if_pos c]
      have c' : (rd_T33 l (i : Int)).f0 = t := c
      simp only [if_pos c']
      rcases impl_app s r i (sg l i).f1 hx.2.2.1 hx.2.2.2 with ⟨_, h2, h3⟩ | ⟨u, _, h2, h3⟩
      · rw [h2]
        have h := ih (i + 1) s (r ++ [(i : Int)]) (by omega) (by simp; omega)
        refine Ev.eq' h (fun k => ?_)
        have h3' : impl_giveInput.f s.1 s.2.1 s.2.2.1 s.2.2.2.1 s.2.2.2.2.1 s.2.2.2.2.2 (rd_T33 l (i : Int)).f1 = some (false, false, false, false, false, 0, 5) := h3
        rw [h3', Option.bind_some, hw]
        dsimp only
        rw [if_neg (by decide), if_pos (by omega)]
      · rw [h2]
        have h := ih (i + 1) u r (by omega) (by omega)
        refine Ev.eq' h (fun k => ?_)
        have h3' : impl_giveInput.f s.1 s.2.1 s.2.2.1 s.2.2.2.1 s.2.2.2.2.1 s.2.2.2.2.2 (rd_T33 l (i : Int)).f1 = some (fl7 u 0) := h3
        rw [h3', Option.bind_some, hw]
        unfold fl7
        dsimp only
        rw [if_pos rfl]
    · rw [if_neg c]
      have c' : ¬ (rd_T33 l (i : Int)).f0 = t := c
      simp only [if_neg c']
      exact Ev.now _
/-- What holds ahead of a tick's signals. -/
def Dsk (l : List S33) (t : Int) (i : Nat) (s : Ct) (r : List Int) : Prop :=
  i ≤ l.length ∧ okc s ∧ r.length ≤ i ∧ (∀ j, i ≤ j → j < l.length → t ≤ (sg l j).f0) ∧ ∀ T, t ≤ T → sp l T (l.length - i) i t s r = atT l T
theorem Dsk.start (l : List S33) (hl : areSig l = true) : Dsk l 0 0 z6 [] :=
  ⟨Nat.zero_le _, okc_z6, Nat.le_refl _, fun j _ hj => ((sig_of l hl).2.1 j hj).1, fun T _ => rfl⟩
/-- Behind a tick's signals: the controller of that tick; and on to the next. -/
theorem Dsk.step {l : List S33} (hl : areSig l = true) {t : Int} {i : Nat} {s : Ct} {r : List Int} (h : Dsk l t i s r) :
    (bg l t (l.length - i) i s r).2 = atT l t ∧ ((bg l t (l.length - i) i s r).1 < l.length → t < (sg l (bg l t (l.length - i) i s r).1).f0) ∧ Dsk l (t + 1) (bg l t (l.length - i) i s r).1 (tk (bg l t (l.length - i) i s r).2.1) (bg l t (l.length - i) i s r).2.2 := by
  obtain ⟨h1, h2, h3, h4, h5⟩ := h
  obtain ⟨hn, hv, hs⟩ := sig_of l hl
  have hk := bg_okc l t (l.length - i) i s r h2
  have hr := bg_len l t (l.length - i) i s r h3
  obtain ⟨b1, b2, b3, b4⟩ := bg_sp l (Int.le_refl t) (l.length - i) i s r (by omega)
  have b5 : ∀ T, t ≤ T → sp l T (l.length - (bg l t (l.length - i) i s r).1) (bg l t (l.length - i) i s r).1 t (bg l t (l.length - i) i s r).2.1 (bg l t (l.length - i) i s r).2.2 = atT l T := fun T hT => (bg_sp l hT (l.length - i) i s r (by omega)).2.2.2.trans (h5 T hT)
  generalize bg l t (l.length - i) i s r = p at hk hr b1 b2 b3 b4 b5 ⊢
  obtain ⟨i', s', r'⟩ := p
  dsimp only at hk hr b1 b2 b3 b4 b5 ⊢
  have hgt : i' < l.length → t < (sg l i').f0 := fun hi => by
    have := h4 i' b1 hi
    rcases b3 with b3 | b3
    · omega
    · omega
  have e := b5 t (Int.le_refl _)
  rw [end_sp l t s' r' hgt] at e
  refine ⟨e, hgt, b2, okc_tk hk, hr, fun j hj hjl => ?_, fun T hT => ?_⟩
  · have := hgt (by omega)
    have := hs i' j hj hjl
    omega
  · rw [← b5 T (by omega)]
    exact (tick_sp l (by omega) hk r' b2 hgt).symm
theorem spec_app (s : Ct) (r : List Int) (i : Nat) (x : Int) :
    (app s r i x = (s, r ++ [(i : Int)]) ∧ spec_l21Give.f s.1 s.2.1 s.2.2.1 s.2.2.2.1 s.2.2.2.2.1 s.2.2.2.2.2 x = some (s.1, s.2.1, s.2.2.1, s.2.2.2.1, s.2.2.2.2.1, s.2.2.2.2.2, false)) ∨
    ∃ t : Ct, app s r i x = (t, r) ∧ spec_l21Give.f s.1 s.2.1 s.2.2.1 s.2.2.2.1 s.2.2.2.2.1 s.2.2.2.2.2 x = some (t.1, t.2.1, t.2.2.1, t.2.2.2.1, t.2.2.2.2.1, t.2.2.2.2.2, true) := by
  rw [spec_gv]
  unfold app give7
  cases gv s.1 s.2.1 s.2.2.1 s.2.2.2.1 s.2.2.2.2.1 s.2.2.2.2.2 x with
  | none => exact .inl ⟨rfl, rfl⟩
  | some t => exact .inr ⟨t, rfl, rfl⟩
def flA (p : Ct × List Int) : Bool × Bool × Bool × Bool × Bool × Int × List Int := (p.1.1, p.1.2.1, p.1.2.2.1, p.1.2.2.2.1, p.1.2.2.2.2.1, p.1.2.2.2.2.2, p.2)
theorem spec_at_ev (l : List S33) (hl : areSig l = true) (T : Int) (hT : T ≤ 100000) : ∀ d i (now : Int) (s : Ct) r, i + d = l.length → r.length ≤ i → 0 ≤ now → now ≤ T → (∀ j, i ≤ j → j < l.length → now ≤ (sg l j).f0) →
    Ev (fun k => spec_l22At.l0 k l T now r (i : Int) s.1 s.2.1 s.2.2.1 s.2.2.2.1 s.2.2.2.2.1 s.2.2.2.2.2) (flA (sp l T d i now s r)) := by
  obtain ⟨hn, hv, hs⟩ := sig_of l hl
  have fin : ∀ i (now : Int) (s : Ct) r, 0 ≤ now → now ≤ T → Ev (fun k => spec_l22At.j1 k l T now r (i : Int) false s.1 s.2.1 s.2.2.1 s.2.2.2.1 s.2.2.2.2.1 s.2.2.2.2.2) (flA (tksI (T - now) s, r)) := by
    intro i now s r h0 h1
    refine Ev.dn ?_
    simp only [spec_l22At.j1, Bool.false_eq_true, if_false]
    have hw : wrap64 (T - now) = T - now := wrap_id (by omega) (by omega)
    simp only [hw]
    exact Ev.bind (spec_l22Ticks_ev _ _ _ _ _ _ _ (by omega)) (Ev.now _)
  intro d
  induction d with
  | zero =>
    intro i now s r hi hr h0 h1 hnow
    refine Ev.dn ?_
    simp only [spec_l22At.l0, sp]
    simp only [if_neg (show ¬ (i : Int) < (l.length : Int) by omega)]
    exact fin i now s r h0 h1
  | succ d ih =>
    intro i now s r hi hr h0 h1 hnow
    have hx := hv i (by omega)
    have hm := hnow i (Nat.le_refl _) (by omega)
    have hw : wrap64 ((i : Int) + 1) = ((i + 1 : Nat) : Int) := wrap_succ (show i < l.length by omega) (by omega)
    refine Ev.dn ?_
    simp only [spec_l22At.l0, sp]
    simp only [if_pos (show (i : Int) < (l.length : Int) by omega), if_pos (show (0 : Int) ≤ (i : Int) by omega)]
    by_cases c : (sg l i).f0 ≤ T
    · rw [if_pos c]
      have c' : (rd_T33 l (i : Int)).f0 ≤ T := c
      simp only [decide_eq_true c']
      refine Ev.dn ?_
      simp only [spec_l22At.j1, if_true]
      simp only [if_pos (show (0 : Int) ≤ (i : Int) by omega), if_pos (show (i : Int) < (l.length : Int) by omega)]
      have hw2 : wrap64 ((rd_T33 l (i : Int)).f0 - now) = (sg l i).f0 - now := wrap_id (show _ ≤ (sg l i).f0 - now by omega) (show (sg l i).f0 - now ≤ _ by omega)
      simp only [hw2]
      refine Ev.bind (spec_l22Ticks_ev _ _ _ _ _ _ _ (by omega)) ?_
      have hnext : ∀ j, i + 1 ≤ j → j < l.length → (sg l i).f0 ≤ (sg l j).f0 := fun j hj hjl => hs i j (by omega) hjl
      generalize hu : tksI ((sg l i).f0 - now) (s.1, s.2.1, s.2.2.1, s.2.2.2.1, s.2.2.2.2.1, s.2.2.2.2.2) = u
      rcases spec_app u r i (sg l i).f1 with ⟨h2, h3⟩ | ⟨v, h2, h3⟩
      · rw [h2]
        have h := ih (i + 1) (sg l i).f0 u (r ++ [(i : Int)]) (by omega) (by simp; omega) (by omega) c hnext
        refine Ev.eq' h (fun k => ?_)
        have h3' : spec_l21Give.f (fl6 u).1 (fl6 u).2.1 (fl6 u).2.2.1 (fl6 u).2.2.2.1 (fl6 u).2.2.2.2.1 (fl6 u).2.2.2.2.2 (rd_T33 l (i : Int)).f1 = some (u.1, u.2.1, u.2.2.1, u.2.2.2.1, u.2.2.2.2.1, u.2.2.2.2.2, false) := h3
        rw [h3', Option.bind_some, hw]
        simp only [Bool.false_eq_true, if_false]
        rw [if_pos (by omega)]
        rfl
      · rw [h2]
        have h := ih (i + 1) (sg l i).f0 v r (by omega) (by omega) (by omega) c hnext
        refine Ev.eq' h (fun k => ?_)
        have h3' : spec_l21Give.f (fl6 u).1 (fl6 u).2.1 (fl6 u).2.2.1 (fl6 u).2.2.2.1 (fl6 u).2.2.2.2.1 (fl6 u).2.2.2.2.2 (rd_T33 l (i : Int)).f1 = some (v.1, v.2.1, v.2.2.1, v.2.2.2.1, v.2.2.2.2.1, v.2.2.2.2.2, true) := h3
        rw [h3', Option.bind_some, hw]
        simp only [if_true]
        rfl
    · rw [if_neg c]
      have c' : ¬ (rd_T33 l (i : Int)).f0 ≤ T := c
      simp only [decide_eq_false c']
      exact fin i now s r h0 h1
theorem spec_l22At_ev (l : List S33) (hl : areSig l = true) (T : Int) (h0 : 0 ≤ T) (hT : T ≤ 100000) : Ev (fun k => spec_l22At.f k l T) (flA (atT l T)) := by
  unfold spec_l22At.f
  exact spec_at_ev l hl T hT l.length 0 0 z6 [] (by omega) (Nat.le_refl _) (Int.le_refl _) h0 (fun j _ hj => ((sig_of l hl).2.1 j hj).1)
theorem spec_l22Code_ev (l : List S33) (hn : l.length ≤ 9223372036854775807) (t : Int) : Ev (fun k => spec_l22Code.f k l t) (if areSig l = true then (if 0 ≤ t ∧ t ≤ 100000 then 0 else 2) else 1) := by
  unfold spec_l22Code.f
  refine Ev.bind (spec_AreSignals_ev l hn) ?_
  cases areSig l with
  | false => simp only [Bool.false_eq_true, if_false]; exact Ev.now _
  | true =>
    simp only [if_true, spec_l01In.f]
    by_cases h0 : 0 ≤ t
    · by_cases h1 : t ≤ 100000
      · simp [h0, h1]; exact Ev.now _
      · simp [h0, h1]; exact Ev.now _
    · simp [h0]; exact Ev.now _
theorem impl_rfs_loop (l : List S33) (hl : areSig l = true) : ∀ (d : Nat) (t : Int) (i : Nat) (s : Ct) (r : List Int), 0 ≤ t → t + d = 100000 → Dsk l t i s r →
    Ev (fun k => impl_RefusedSignals.l0 k l ((bg l t (l.length - i) i s r).1 : Int) t (bg l t (l.length - i) i s r).2.1.1 (bg l t (l.length - i) i s r).2.1.2.1 (bg l t (l.length - i) i s r).2.1.2.2.1 (bg l t (l.length - i) i s r).2.1.2.2.2.1 (bg l t (l.length - i) i s r).2.1.2.2.2.2.1 (bg l t (l.length - i) i s r).2.1.2.2.2.2.2 (bg l t (l.length - i) i s r).2.2) ((atT l 100000).2, 0) := by
  have stop : ∀ (t : Int) (i : Nat) (s : Ct) (r : List Int), t ≤ 100000 → Dsk l t i s r → (bg l t (l.length - i) i s r).1 = l.length → (bg l t (l.length - i) i s r).2.2 = (atT l 100000).2 := by
    intro t i s r ht h e
    have h2 := (bg_sp l ht (l.length - i) i s r (by have := h.1; omega)).2.2.2.trans (h.2.2.2.2 100000 ht)
    rw [e, Nat.sub_self] at h2
    simp only [sp] at h2
    rw [← h2]
  intro d
  induction d with
  | zero =>
    intro t i s r h0 ht h
    obtain ⟨_, e, h2⟩ := Dsk.step hl h
    have hb : (bg l t (l.length - i) i s r).1 = l.length := by
      have h3 := h2.1
      by_cases c : (bg l t (l.length - i) i s r).1 < l.length
      · have := e c
        have := ((sig_of l hl).2.1 _ c).2.1
        omega
      · omega
    have h4 := stop t i s r (by omega) h hb
    refine Ev.dn ?_
    simp only [impl_RefusedSignals.l0]
    rw [h4, hb]
    simp only [if_neg (show ¬ (l.length : Int) < (l.length : Int) by omega)]
    exact Ev.now _
  | succ d ih =>
    intro t i s r h0 ht h
    obtain ⟨_, _, h2⟩ := Dsk.step hl h
    by_cases c : (bg l t (l.length - i) i s r).1 < l.length
    · have hw : wrap64 (t + 1) = t + 1 := wrap_id (by omega) (by omega)
      have h3 := ih (t + 1) _ _ _ (by omega) (by omega) h2
      refine Ev.dn ?_
      simp only [impl_RefusedSignals.l0, if_pos (show ((bg l t (l.length - i) i s r).1 : Int) < (l.length : Int) by omega), impl_tick, Option.bind_some, hw, fl7]
      generalize bg l t (l.length - i) i s r = p at h2 h3 ⊢
      exact Ev.bind (impl_begin_ev l hl (t + 1) (l.length - p.1) p.1 (tk p.2.1) p.2.2 (by have := h2.1; omega) h2.2.2.1) h3
    · have hb : (bg l t (l.length - i) i s r).1 = l.length := by have h3 := h2.1; omega
      have h4 := stop t i s r (by omega) h hb
      refine Ev.dn ?_
      simp only [impl_RefusedSignals.l0]
      rw [h4, hb]
      simp only [if_neg (show ¬ (l.length : Int) < (l.length : Int) by omega)]
      exact Ev.now _
def rfsR (l : List S33) : List Int × Int := if areSig l = true then ((atT l 100000).2, 0) else ([], 1)
theorem impl_rfs_ev (l : List S33) (hn : l.length ≤ 9223372036854775807) : Ev (fun k => impl_RefusedSignals.f k l) (rfsR l) := by
  unfold impl_RefusedSignals.f rfsR
  refine Ev.bind (impl_AreSignals_ev l hn) ?_
  cases hl : areSig l with
  | false => simp only [Bool.false_eq_true, if_false]; exact Ev.now _
  | true =>
    simp only [if_true]
    have h := Dsk.start l hl
    refine Ev.bind (impl_begin_ev l hl 0 l.length 0 z6 [] (by omega) (Nat.le_refl _)) ?_
    have h2 := impl_rfs_loop l hl 100000 0 0 z6 [] (Int.le_refl _) (by decide) h
    simp only [Nat.sub_zero] at h2
    exact h2
theorem spec_rfs_ev (l : List S33) (hn : l.length ≤ 9223372036854775807) : Ev (fun k => spec_RefusedSignals.f k l) (rfsR l) := by
  unfold spec_RefusedSignals.f rfsR
  refine Ev.bind (spec_l22Code_ev l hn 0) ?_
  by_cases hl : areSig l = true
  · simp only [if_pos hl, if_pos (show (0 : Int) ≤ 0 ∧ (0 : Int) ≤ 100000 by decide), if_true]
    exact Ev.bind (spec_l22At_ev l hl 100000 (by decide) (Int.le_refl _)) (Ev.now _)
  · simp only [if_neg hl, if_neg (show ¬ (1 : Int) = 0 by decide)]
    exact Ev.now _
theorem sp_len (l : List S33) (T : Int) : ∀ d i now s r, (sp l T d i now s r).2.length ≤ r.length + d := by
  intro d
  induction d with
  | zero => intro i now s r; exact Nat.le_refl _
  | succ d ih =>
    intro i now s r
    simp only [sp]
    split
    · have := ih (i + 1) (sg l i).f0 (app (tksI ((sg l i).f0 - now) s) r i (sg l i).f1).1 (app (tksI ((sg l i).f0 - now) s) r i (sg l i).f1).2
      have := app_len (tksI ((sg l i).f0 - now) s) r i (sg l i).f1
      omega
    · dsimp only; omega
theorem rfsR_len (l : List S33) : (rfsR l).1.length ≤ l.length := by
  unfold rfsR
  split
  · have := sp_len l 100000 l.length 0 0 z6 []
    simp at this
    exact this
  · exact Nat.zero_le _
theorem FnExactRefusedSignals : ∀ (l0 : List S30), (l0.length ≤ reachBytes ∧ ∀ y ∈ l0, ((Lit.int .i64 y.f0).wf = true ∧ (Lit.int .i64 y.f1).wf = true)) → ∃ k, laws_FnExactRefusedSignals.f k l0 = some true := by
  intro l0 ⟨hm, _⟩
  unfold reachBytes at hm
  apply Ev.rounds
  unfold laws_FnExactRefusedSignals.f
  rw [szSignalS_some l0 (by omega)]
  simp only [Option.bind_some]
  by_cases h : 1000000 < l0.length
  · simp only [if_pos h, if_pos (show (-1 : Int) < 0 by decide)]
    exact Ev.now _
  have hl : l0.length ≤ 1000000 := by omega
  simp only [if_neg h, if_neg (show ¬ (1000000 - (l0.length : Int) < 0) by omega), toSignalS_some _ l0 _ hl, Option.bind_some]
  have hc : (l0.map laws_toSignalS.conv).length ≤ 1000000 := by simpa using hl
  generalize hcc : l0.map laws_toSignalS.conv = c at hc
  have h1 := spec_rfs_ev c (by omega)
  have h2 := impl_rfs_ev c (by omega)
  have h3 : (rfsR c).1.length ≤ 1000000 := by have := rfsR_len c; omega
  obtain ⟨L0, _, _, hL0⟩ := markSignalS_ev c hc
  obtain ⟨L, hL1, hL2, hL⟩ := markInt_ev (rfsR c).1 h3
  have hH := heldInt_ev L (by omega) hL2
  rw [hL1] at hH
  have hE := eqInt_refl (rfsR c).1 (by omega)
  refine Ev.bind h1 (Ev.bind h2 (Ev.bind hE ?_))
  simp only [bne_self_eq_false, if_true]
  refine Ev.dn ?_
  simp only [laws_FnExactRefusedSignals.j0, Bool.false_eq_true, if_false, toSignalS_some _ l0 _ hl, Option.bind_some, hcc]
  refine Ev.bind (intactSignalS_refl c hc) ?_
  simp only [if_true]
  refine Ev.bind hL0 ?_
  simp only [if_neg (show ¬ 101 + 2 * (c.length : Int) < 0 by omega)]
  refine Ev.bind hE ?_
  simp only [bne_self_eq_false, if_true]
  refine Ev.dn ?_
  simp only [laws_FnExactRefusedSignals.j1, Bool.false_eq_true, if_false]
  refine Ev.bind hL (Ev.bind hH ?_)
  simp only [if_neg (show ¬ 101 + (((rfsR c).1.length : Nat) : Int) < 0 by omega), if_true, toSignalS_some _ l0 _ hl, Option.bind_some, hcc]
  refine Ev.bind h2 (Ev.bind hE ?_)
  simp only [bne_self_eq_false, if_true]
  refine Ev.dn ?_
  simp only [laws_FnExactRefusedSignals.j2, Bool.false_eq_true, if_false]
  refine Ev.bind hH ?_
  simp only [if_neg (show ¬ 101 + (((rfsR c).1.length : Nat) : Int) < 0 by omega), if_true]
  exact Ev.now _
end Go.Proofs.Ytjgbncpbenmjoaa.Pure
