/- The law FnExactAreSignals as a statement over numbers and lists, proved; no condition but the sizes and ranges that every input has. -/
import Derived.Test.YtjgbncpbenmjoaaF04
import Derived.Test.YtjgbncpbenmjoaaEv
namespace Go.Proofs.Ytjgbncpbenmjoaa.Pure
open Go.RowKit Go.Proofs.Ytjgbncpbenmjoaa.Pall Go.Proofs.YtjgbncpbenmjoaaW.PrintWords
set_option linter.unusedSimpArgs false
set_option linter.unusedVariables false
/-- Is the signal with the index j right, beside the one before it? -/
def sgB (l : List S33) (j : Nat) : Bool :=
  decide (0 ≤ (rd_T33 l (j : Int)).f0) && decide ((rd_T33 l (j : Int)).f0 ≤ 100000) && decide (0 ≤ (rd_T33 l (j : Int)).f1) && decide ((rd_T33 l (j : Int)).f1 ≤ 9) && !decide ((rd_T33 l (j : Int)).f1 = 8) && (decide (j = 0) || decide ((rd_T33 l ((j - 1 : Nat) : Int)).f0 ≤ (rd_T33 l (j : Int)).f0))
def areSig (l : List S33) : Bool := allD (sgB l) 0 l.length && decide (l.length ≤ 40)
theorem spec_AreSignals_ev (l : List S33) (hn : l.length ≤ 9223372036854775807) : Ev (fun k => spec_AreSignals.f k l) (areSig l) := by
  have h := Ev.allLoop (l := fun k i => spec_AreSignals.l0 k l i) (n := l.length) (sgB l) false (decide (l.length ≤ 40))
    (fun i hi => Evt.all fun k => by
      simp only [spec_AreSignals.l0, spec_l01In.f]
      rw [if_pos (by omega), if_pos (by omega), wrap_succ hi hn]
      generalize spec_AreSignals.l0 k l ((i + 1 : Nat) : Int) = R
      by_cases h0 : i = 0
      · have hz : (i = 0) = True := eq_true h0
        have hp : ¬ 0 < i := by omega
        clear h0
        by_cases h1 : 0 ≤ (rd_T33 l (i : Int)).f0 <;> by_cases h2 : (rd_T33 l (i : Int)).f0 ≤ 100000 <;> by_cases h3 : 0 ≤ (rd_T33 l (i : Int)).f1 <;> by_cases h4 : (rd_T33 l (i : Int)).f1 ≤ 9 <;> by_cases h5 : (rd_T33 l (i : Int)).f1 = 8 <;> simp [sgB, hz, hp, h1, h2, h3, h4, h5]
      · have hp : (i : Int) > 0 := by omega
        rw [wrap_pred hi (by omega) hn]
        have q1 : (0 : Int) ≤ ((i - 1 : Nat) : Int) := by omega
        have q2 : ((i - 1 : Nat) : Int) < (l.length : Int) := by omega
        by_cases h1 : 0 ≤ (rd_T33 l (i : Int)).f0 <;> by_cases h2 : (rd_T33 l (i : Int)).f0 ≤ 100000 <;> by_cases h3 : 0 ≤ (rd_T33 l (i : Int)).f1 <;> by_cases h4 : (rd_T33 l (i : Int)).f1 ≤ 9 <;> by_cases h5 : (rd_T33 l (i : Int)).f1 = 8 <;> by_cases h6 : (rd_T33 l ((i - 1 : Nat) : Int)).f0 ≤ (rd_T33 l (i : Int)).f0 <;> simp [sgB, h0, q1, q2, h1, h2, h3, h4, h5, h6, Int.not_lt.2, Int.not_le.1] <;> (try omega))
    (Evt.all fun k => by
      simp only [spec_AreSignals.l0]
      rw [if_neg (by omega)]
      congr 1
      exact decide_eq_decide.2 (by omega)) l.length 0 (by omega)
  refine (congrArg (Ev _) ?_).mp h
  unfold areSig
  cases allD (sgB l) 0 l.length <;> simp
theorem impl_AreSignals_ev (l : List S33) (hn : l.length ≤ 9223372036854775807) : Ev (fun k => impl_AreSignals.f k l) (areSig l) := by
  unfold impl_AreSignals.f
  by_cases hl : (l.length : Int) > 40
  · simp only [if_pos hl]
    have : areSig l = false := by
      unfold areSig
      rw [decide_eq_false (by omega), Bool.and_false]
    rw [this]
    exact Ev.now _
  simp only [if_neg hl]
  have h := Ev.allLoop (l := fun k i => impl_AreSignals.l0 k l l (l.length : Int) i) (n := l.length) (sgB l) false true
    (fun i hi => Evt.all fun k => by
      simp only [impl_AreSignals.l0, impl_isTick.f, impl_within.f]
      rw [if_pos (by omega), if_pos (by omega), if_pos (by omega), wrap_succ hi hn]
      generalize impl_AreSignals.l0 k l l (l.length : Int) ((i + 1 : Nat) : Int) = R
      by_cases h0 : i = 0
      · have hz : (i = 0) = True := eq_true h0
        have hp : ¬ 0 < i := by omega
        clear h0
        by_cases h1 : 0 ≤ (rd_T33 l (i : Int)).f0 <;> by_cases h2 : (rd_T33 l (i : Int)).f0 ≤ 100000 <;> by_cases h3 : 0 ≤ (rd_T33 l (i : Int)).f1 <;> by_cases h4 : (rd_T33 l (i : Int)).f1 ≤ 9 <;> by_cases h5 : (rd_T33 l (i : Int)).f1 = 8 <;> simp [sgB, hz, hp, h1, h2, h3, h4, h5]
      · have hp : (i : Int) > 0 := by omega
        rw [wrap_pred hi (by omega) hn]
        have q1 : (0 : Int) ≤ ((i - 1 : Nat) : Int) := by omega
        have q2 : ((i - 1 : Nat) : Int) < (l.length : Int) := by omega
        by_cases h1 : 0 ≤ (rd_T33 l (i : Int)).f0 <;> by_cases h2 : (rd_T33 l (i : Int)).f0 ≤ 100000 <;> by_cases h3 : 0 ≤ (rd_T33 l (i : Int)).f1 <;> by_cases h4 : (rd_T33 l (i : Int)).f1 ≤ 9 <;> by_cases h5 : (rd_T33 l (i : Int)).f1 = 8 <;> by_cases h6 : (rd_T33 l ((i - 1 : Nat) : Int)).f0 ≤ (rd_T33 l (i : Int)).f0 <;> simp [sgB, h0, q1, q2, h1, h2, h3, h4, h5, h6, Int.not_lt.2, Int.not_le.1] <;> (try omega))
    (Evt.all fun k => by
      simp only [impl_AreSignals.l0]
      rw [if_neg (by omega)]) l.length 0 (by omega)
  refine (congrArg (Ev _) ?_).mp h
  unfold areSig
  rw [decide_eq_true (by omega : l.length ≤ 40), Bool.and_true]
  cases allD (sgB l) 0 l.length <;> simp
theorem eqSignalS_refl (l : List S33) (hn : l.length ≤ 9223372036854775807) : Ev (fun k => laws_eqSignalS.f k l l) true := by
  unfold laws_eqSignalS.f
  simp only [if_pos rfl]
  have h := Ev.allLoop (l := fun k i => laws_eqSignalS.l0 k l l i) (n := l.length) (fun _ => true) false true
    (fun i hi => Evt.all fun k => by
      simp only [laws_eqSignalS.l0, laws_eqSignal.f]
      rw [if_pos (by omega), if_pos (by omega), if_pos (by omega), wrap_succ hi hn]
      simp)
    (Evt.all fun k => by
      simp only [laws_eqSignalS.l0]
      rw [if_neg (by omega)]) l.length 0 (by omega)
  refine (congrArg (Ev _) ?_).mp h
  rw [if_pos ((allD_iff _ _ _).2 (fun _ _ _ => rfl))]
theorem full_le {α : Type} [Fil α] (l : List α) (h : l.length ≤ 1000000) : (full l).length ≤ 9223372036854775807 := by
  have hl : roomN l.length ≤ 1000000 := by unfold roomN; (repeat' split) <;> omega
  rw [full_length]
  omega
theorem intactSignalS_refl (l : List S33) (hn : l.length ≤ 1000000) : Ev (fun k => laws_intactSignalS.f k l l) true := by
  unfold laws_intactSignalS.f
  simp only [if_pos rfl]
  exact eqSignalS_refl _ (full_le l hn)
theorem szSignalS_some (l : List S30) (hn : l.length ≤ 9223372036854775807) : laws_szSignalS.f l 1000000 = some (if 1000000 < l.length then -1 else 1000000 - (l.length : Int)) := by
  unfold laws_szSignalS.f
  rw [wrap_id (by omega) (by omega)]
  by_cases h : 1000000 < l.length
  · rw [if_pos (by omega), if_pos h]
  · rw [if_neg (by omega), if_neg h]
theorem toSignalS_some (k : Nat) (l : List S30) (b : Bool) (hn : l.length ≤ 1000000) : laws_toSignalS.f k l b = some (l.map laws_toSignalS.conv) := by
  unfold laws_toSignalS.f
  rw [if_pos hn]
theorem FnExactAreSignals : ∀ (l0 : List S30), (l0.length ≤ maxLen ∧ ∀ y ∈ l0, ((Lit.int .i64 y.f0).wf = true ∧ (Lit.int .i64 y.f1).wf = true)) → ∃ k, laws_FnExactAreSignals.f k l0 = some true := by
  intro l0 ⟨hm, _⟩
  unfold maxLen at hm
  apply Ev.rounds
  unfold laws_FnExactAreSignals.f
  rw [szSignalS_some l0 hm]
  simp only [Option.bind_some]
  by_cases h : 1000000 < l0.length
  · simp only [if_pos h, if_pos (show (-1 : Int) < 0 by decide)]
    exact Ev.now _
  · have hl : l0.length ≤ 1000000 := by omega
    simp only [if_neg h, if_neg (show ¬ (1000000 - (l0.length : Int) < 0) by omega), toSignalS_some _ l0 _ hl, Option.bind_some]
    have hc : (l0.map laws_toSignalS.conv).length ≤ 1000000 := by simpa using hl
    have hc2 : (l0.map laws_toSignalS.conv).length ≤ 9223372036854775807 := by omega
    generalize l0.map laws_toSignalS.conv = c at hc hc2
    refine Ev.bind (spec_AreSignals_ev c hc2) (Ev.bind (impl_AreSignals_ev c hc2) ?_)
    simp only [bne_self_eq_false, Bool.false_eq_true, if_false]
    refine Ev.bind (intactSignalS_refl c hc) ?_
    simp only [if_true]
    refine Ev.bind (impl_AreSignals_ev c hc2) ?_
    simp only [bne_self_eq_false, Bool.false_eq_true, if_false]
    exact Ev.now _
end Go.Proofs.Ytjgbncpbenmjoaa.Pure
