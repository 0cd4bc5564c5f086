/- The law FnExactStopTick as a statement over numbers and lists, proved; no condition but the sizes and ranges that every input has. -/
import Derived.Test.YtllhghcepbkpeaaF26
import Derived.Test.YtllhghcepbkpeaaEv
namespace Go.Proofs.Ytllhghcepbkpeaa.Pure
open Go.RowKit Go.Proofs.Ytllhghcepbkpeaa.Pall Go.Proofs.YtllhghcepbkpeaaW.PrintWords
set_option linter.unusedSimpArgs false
set_option linter.unusedVariables false
def mdI (l : List S103) (j : Nat) : Bool :=
  decide (0 ≤ (rd_T103 l (j : Int)).f1) && decide ((rd_T103 l (j : Int)).f1 ≤ 32) && (decide (j = 0) || (decide (0 ≤ (rd_T103 l (j : Int)).f0) && decide ((rd_T103 l (j : Int)).f0 ≤ ((j - 1 : Nat) : Int))))
def areMod (l : List S103) : Bool := decide (1 ≤ l.length) && decide (l.length ≤ 12) && decide ((rd_T103 l ((0 : Nat) : Int)).f0 = -1) && allD (mdI l) 0 l.length
def mdS (l : List S103) (j : Nat) : Bool := mdI l j && (decide (¬ j = 0) || decide ((rd_T103 l (j : Int)).f0 = -1))
theorem spec_AreModules_ev (l : List S103) (hn : l.length ≤ 9223372036854775807) : Ev (fun k => spec_AreModules.f k l) (areMod l) := by
  have h := Ev.allLoop (l := fun k i => spec_AreModules.l0 k l i) (n := l.length) (mdS l) false (decide (1 ≤ l.length) && decide (l.length ≤ 12))
    (fun i hi => Evt.all fun k => by
      simp only [spec_AreModules.l0, spec_l01In.f]
      rw [if_pos (by omega), if_pos (by omega), wrap_succ hi hn]
      generalize spec_AreModules.l0 k l ((i + 1 : Nat) : Int) = R
      by_cases h0 : i = 0
      · have hz : (i = 0) = True := eq_true h0
        have hp : ¬ 0 < i := by omega
        clear h0
        by_cases h1 : 0 ≤ (rd_T103 l (i : Int)).f1 <;> by_cases h2 : (rd_T103 l (i : Int)).f1 ≤ 32 <;> by_cases h3 : (rd_T103 l (i : Int)).f0 = -1 <;> simp [mdS, mdI, hz, hp, h1, h2, h3]
      · have hp : 0 < i := by omega
        rw [wrap_pred hi (by omega) hn]
        by_cases h1 : 0 ≤ (rd_T103 l (i : Int)).f1 <;> by_cases h2 : (rd_T103 l (i : Int)).f1 ≤ 32 <;> by_cases h3 : 0 ≤ (rd_T103 l (i : Int)).f0 <;> by_cases h4 : (rd_T103 l (i : Int)).f0 ≤ ((i - 1 : Nat) : Int) <;> simp [mdS, mdI, h0, hp, h1, h2, h3, h4])
    (Evt.all fun k => by
      simp only [spec_AreModules.l0, spec_l01In.f]
      rw [if_neg (by omega)]
      by_cases h1 : 1 ≤ l.length
      · have e2 : decide (l.length ≤ 12) = decide ((l.length : Int) ≤ 12) := decide_eq_decide.2 (by omega)
        rw [if_pos (by omega), Option.bind_some, e2, decide_eq_true h1, Bool.true_and]
      · rw [if_neg (by omega), Option.bind_some, decide_eq_false h1, Bool.false_and]) l.length 0 (by omega)
  refine h.eq ?_
  unfold areMod
  cases hl : l.length with
  | zero => simp [allD]
  | succ n =>
    have e : allD (mdS l) (0 + 1) n = allD (mdI l) (0 + 1) n := allD_congr n _ (fun j h1 _ => by
      have : ¬ j = 0 := by omega
      simp [mdS, this])
    have key : allD (mdS l) 0 (n + 1) = (decide ((rd_T103 l ((0 : Nat) : Int)).f0 = -1) && allD (mdI l) 0 (n + 1)) := by
      have e2 : mdS l 0 = (mdI l 0 && decide ((rd_T103 l ((0 : Nat) : Int)).f0 = -1)) := by
        unfold mdS
        rw [show decide (¬ (0 : Nat) = 0) = false from rfl, Bool.false_or]
      simp only [allD]
      rw [e, e2]
      generalize decide ((rd_T103 l ((0 : Nat) : Int)).f0 = -1) = x
      generalize mdI l 0 = y
      generalize allD (mdI l) (0 + 1) n = z
      cases x <;> cases y <;> cases z <;> rfl
    rw [key]
    generalize decide ((rd_T103 l ((0 : Nat) : Int)).f0 = -1) = x
    generalize allD (mdI l) 0 (n + 1) = y
    generalize (decide (1 ≤ n + 1) && decide (n + 1 ≤ 12)) = z
    cases x <;> cases y <;> cases z <;> rfl
theorem impl_AreModules_ev (l : List S103) (hn : l.length ≤ 9223372036854775807) : Ev (fun k => impl_AreModules.f k l) (areMod l) := by
  have hb : Ev (fun k => impl_AreModules.j0 k l true) false := Ev.dn (by simp only [impl_AreModules.j0]; exact Ev.now _)
  unfold impl_AreModules.f
  by_cases h1 : (l.length : Int) < 1
  · simp only [if_pos h1]
    refine hb.eq ?_
    unfold areMod
    rw [decide_eq_false (by omega)]
    simp
  simp only [if_neg h1]
  by_cases h2 : (l.length : Int) > 12
  · simp only [if_pos h2]
    refine hb.eq ?_
    unfold areMod
    rw [decide_eq_false (by omega : ¬ l.length ≤ 12)]
    simp
  simp only [if_neg h2, if_pos (show 0 < (l.length : Int) by omega)]
  unfold areMod
  rw [decide_eq_true (show 1 ≤ l.length by omega), decide_eq_true (show l.length ≤ 12 by omega)]
  by_cases h3 : (rd_T103 l ((0 : Nat) : Int)).f0 = -1
  · have e3 : ((rd_T103 l 0).f0 != -1) = false := by simpa using h3
    rw [e3, decide_eq_true h3]
    refine Ev.dn ?_
    simp only [impl_AreModules.j0, Bool.false_eq_true, if_false]
    have h := Ev.allLoop (l := fun k i => impl_AreModules.l0 k l (l.length : Int) i) (n := l.length) (mdI l) false true
      (fun i hi => Evt.all fun k => by
        simp only [impl_AreModules.l0, impl_within.f]
        rw [if_pos (by omega), if_pos (by omega), if_pos (by omega), wrap_succ hi hn]
        generalize impl_AreModules.l0 k l (l.length : Int) ((i + 1 : Nat) : Int) = R
        by_cases h0 : i = 0
        · have hz : (i = 0) = True := eq_true h0
          have hp : ¬ 0 < i := by omega
          clear h0
          by_cases h1 : 0 ≤ (rd_T103 l (i : Int)).f1 <;> by_cases h2 : (rd_T103 l (i : Int)).f1 ≤ 32 <;> simp [mdI, hz, hp, h1, h2]
        · have hp : 0 < i := by omega
          rw [wrap_pred hi (by omega) hn]
          by_cases h1 : 0 ≤ (rd_T103 l (i : Int)).f1 <;> by_cases h2 : (rd_T103 l (i : Int)).f1 ≤ 32 <;> by_cases h3 : 0 ≤ (rd_T103 l (i : Int)).f0 <;> by_cases h4 : (rd_T103 l (i : Int)).f0 ≤ ((i - 1 : Nat) : Int) <;> simp [mdI, h0, hp, h1, h2, h3, h4])
      (Evt.all fun k => by
        simp only [impl_AreModules.l0]
        rw [if_neg (by omega)]) l.length 0 (by omega)
    refine h.eq ?_
    cases allD (mdI l) 0 l.length <;> simp
  · have e3 : ((rd_T103 l 0).f0 != -1) = true := by simpa using h3
    rw [e3, decide_eq_false h3]
    refine hb.eq (by simp)
theorem way_eq (k : Nat) : ∀ (l : List S103) (a : Int) (xs : List Int), impl_wayToMaster.l0 k l a xs = spec_l12Way.l0 k l a xs := by
  induction k with
  | zero => intro l a xs; simp only [impl_wayToMaster.l0, spec_l12Way.l0]
  | succ k ih => intro l a xs; simp only [impl_wayToMaster.l0, spec_l12Way.l0, ih]
/-- The way to the master ends: each module's parent stands before it. -/
theorem way_ev (l : List S103) (hm : areMod l = true) : ∀ (n : Nat) (a : Int) (xs : List Int), a < (n : Int) → a < (l.length : Int) → xs.length + n ≤ 100 → ∃ r, Ev (fun k => spec_l12Way.l0 k l a xs) r := by
  unfold areMod at hm
  simp only [Bool.and_eq_true, decide_eq_true_eq] at hm
  obtain ⟨⟨⟨_, _⟩, h0⟩, hall⟩ := hm
  intro n
  induction n with
  | zero =>
    intro a xs h1 h2 h3
    refine ⟨xs, Ev.dn ?_⟩
    simp only [spec_l12Way.l0]
    simp only [if_neg (show ¬ a ≥ 0 by omega)]
    exact Ev.now _
  | succ n ih =>
    intro a xs h1 h2 h3
    by_cases ha : a ≥ 0
    · obtain ⟨j, rfl⟩ := Int.eq_ofNat_of_zero_le ha
      have hp : (rd_T103 l (j : Int)).f0 < (j : Int) := by
        have hs := (allD_iff _ _ _).1 hall j (by omega) (by omega)
        unfold mdI at hs
        by_cases hj : j = 0
        · subst hj; rw [h0]; omega
        · simp only [Bool.and_eq_true, Bool.or_eq_true, decide_eq_true_eq] at hs
          rcases hs.2 with h4 | h4
          · exact absurd h4 hj
          · omega
      obtain ⟨r, hr⟩ := ih (rd_T103 l (j : Int)).f0 (xs ++ [(j : Int)]) (by omega) (by omega) (by simp; omega)
      refine ⟨r, Ev.dn ?_⟩
      simp only [spec_l12Way.l0]
      simp only [if_pos ha, if_pos (show xs.length < 17592186044416 by omega), if_pos (show (0 : Int) ≤ (j : Int) by omega), if_pos h2]
      exact hr
    · refine ⟨xs, Ev.dn ?_⟩
      simp only [spec_l12Way.l0]
      simp only [if_neg ha]
      exact Ev.now _
theorem eqModuleS_refl (l : List S103) (hn : l.length ≤ 9223372036854775807) : Ev (fun k => laws_eqModuleS.f k l l) true := by
  unfold laws_eqModuleS.f
  simp only [if_pos rfl]
  have h := Ev.allLoop (l := fun k i => laws_eqModuleS.l0 k l l i) (n := l.length) (fun _ => true) false true
    (fun i hi => Evt.all fun k => by
      simp only [laws_eqModuleS.l0, laws_eqModule.f]
      rw [if_pos (by omega), if_pos (by omega), if_pos (by omega), wrap_succ hi hn]
      simp)
    (Evt.all fun k => by
      simp only [laws_eqModuleS.l0]
      rw [if_neg (by omega)]) l.length 0 (by omega)
  refine h.eq ?_
  rw [if_pos ((allD_iff _ _ _).2 (fun _ _ _ => rfl))]
theorem intactModuleS_refl (l : List S103) (hn : l.length ≤ 1000000) : Ev (fun k => laws_intactModuleS.f k l l) true := by
  unfold laws_intactModuleS.f
  simp only [if_pos rfl]
  exact eqModuleS_refl _ (full_le l hn)
theorem toModuleS_some (k : Nat) (l : List S105) (b : Bool) (hn : l.length ≤ 1000000) : laws_toModuleS.f k l b = some (l.map laws_toModuleS.conv) := by
  unfold laws_toModuleS.f
  rw [if_pos hn]
theorem StopTick_both (l : List S103) (hn : l.length ≤ 1000000) (a1 a2 a3 : Int) : ∃ r : Int × Int, Ev (fun k => spec_StopTick.f k l a1 a2 a3) r ∧ Ev (fun k => impl_StopTick.f k l a1 a2 a3) r := by
  have hs := spec_AreModules_ev l (by omega)
  have hi := impl_AreModules_ev l (by omega)
  cases hm : areMod l with
  | false =>
    rw [hm] at hs hi
    refine ⟨(0, 1), ?_, ?_⟩
    · unfold spec_StopTick.f spec_l23Code.f spec_l12Code.f
      refine Ev.bind (a := 1) (Ev.bind (a := 1) (Ev.bind hs ?_) ?_) ?_
      · simp only [Bool.false_eq_true, if_false]; exact Ev.now _
      · simp only [show ¬ ((1 : Int) = 0) by decide, if_false]; exact Ev.now _
      · simp only [show ¬ ((1 : Int) = 0) by decide, if_false]; exact Ev.now _
    · unfold impl_StopTick.f
      refine Ev.bind hi ?_
      simp only [Bool.false_eq_true, if_false]; exact Ev.now _
  | true =>
    rw [hm] at hs hi
    have hw : wrap64 ((l.length : Int) - 1) = (l.length : Int) - 1 := wrap_id (by omega) (by omega)
    by_cases hx : (0 ≤ a3 ∧ a3 ≤ (l.length : Int) - 1) ∧ (1 ≤ a1 ∧ a1 ≤ 10) ∧ (0 ≤ a2 ∧ a2 ≤ 100000)
    · obtain ⟨⟨h1, h2⟩, ⟨h3, h4⟩, h5, h6⟩ := hx
      obtain ⟨r, hr⟩ := way_ev l hm l.length a3 [] (by omega) (by omega) (by
        unfold areMod at hm
        simp only [Bool.and_eq_true, decide_eq_true_eq] at hm
        simp
        omega)
      refine ⟨(wrap64 (a2 + (wrap64 (a1 * (wrap64 ((r.length : Int) - 1))))), 0), ?_, ?_⟩
      · unfold spec_StopTick.f spec_l23Code.f spec_l12Code.f
        refine Ev.bind (a := 0) (Ev.bind (a := 0) (Ev.bind hs ?_) ?_) ?_
        · simp only [if_true, spec_l01In.f, hw, ge_iff_le, if_pos h1, Option.bind_some, decide_eq_true h2]; exact Ev.now _
        · simp only [if_true, spec_l01In.f, ge_iff_le, if_pos h3, if_pos h5, Option.bind_some, decide_eq_true h4, decide_eq_true h6]; exact Ev.now _
        · simp only [if_true]
          unfold spec_l23Tick.f spec_l12Way.f
          exact Ev.bind (Ev.bind hr (Ev.now _)) (Ev.now _)
      · unfold impl_StopTick.f
        refine Ev.bind hi ?_
        simp only [if_true, impl_isHop.f, impl_isTick.f, impl_isIndex.f, impl_within.f, hw, if_pos h1, if_pos h3, if_pos h5, Option.bind_some, decide_eq_true h2, decide_eq_true h4, decide_eq_true h6]
        unfold impl_stopTick.f impl_wayToMaster.f
        simp only [way_eq]
        exact Ev.bind (Ev.bind hr (Ev.now _)) (Ev.now _)
    · refine ⟨(0, 2), ?_, ?_⟩
      · unfold spec_StopTick.f
        refine Ev.bind (a := 2) ?_ (by simp only [show ¬ ((2 : Int) = 0) by decide, if_false]; exact Ev.now _)
        unfold spec_l23Code.f spec_l12Code.f
        by_cases g : 0 ≤ a3 ∧ a3 ≤ (l.length : Int) - 1
        · refine Ev.bind (a := 0) (Ev.bind hs ?_) ?_
          · simp only [if_true, spec_l01In.f, hw, ge_iff_le, if_pos g.1, Option.bind_some, decide_eq_true g.2]; exact Ev.now _
          · refine (Ev.now (2 : Int)).eq' ?_
            intro k
            simp only [if_true, spec_l01In.f, ge_iff_le]
            by_cases h3 : 1 ≤ a1 <;> by_cases h4 : a1 ≤ 10 <;> by_cases h5 : 0 ≤ a2 <;> by_cases h6 : a2 ≤ 100000 <;> simp [h3, h4, h5, h6]
            exact hx ⟨g, ⟨h3, h4⟩, h5, h6⟩
        · refine Ev.bind (a := 2) (Ev.bind hs ?_) ?_
          · refine (Ev.now (2 : Int)).eq' ?_
            intro k
            simp only [if_true, spec_l01In.f, ge_iff_le, hw]
            by_cases h3 : 0 ≤ a3 <;> by_cases h4 : a3 ≤ (l.length : Int) - 1 <;> simp [h3, h4]
            exact g ⟨h3, h4⟩
          · simp only [show ¬ ((2 : Int) = 0) by decide, if_false]; exact Ev.now _
      · unfold impl_StopTick.f
        refine Ev.bind hi ?_
        refine (Ev.now ((0 : Int), (2 : Int))).eq' ?_
        intro k
        simp only [if_true, impl_isHop.f, impl_isTick.f, impl_isIndex.f, impl_within.f, hw]
        by_cases h1 : 0 ≤ a3 <;> by_cases h2 : a3 ≤ (l.length : Int) - 1 <;> by_cases h3 : 1 ≤ a1 <;> by_cases h4 : a1 ≤ 10 <;> by_cases h5 : 0 ≤ a2 <;> by_cases h6 : a2 ≤ 100000 <;> simp [h1, h2, h3, h4, h5, h6]
        exact absurd ⟨⟨h1, h2⟩, ⟨h3, h4⟩, h5, h6⟩ hx
theorem FnExactStopTick : ∀ (l0 : List S105) (a1 : Int) (a2 : Int) (a3 : Int), (l0.length ≤ maxLen ∧ ∀ y ∈ l0, ((Lit.int .i64 y.f0).wf = true ∧ (Lit.int .i64 y.f1).wf = true)) → (Lit.int .i64 a1).wf = true → (Lit.int .i64 a2).wf = true → (Lit.int .i64 a3).wf = true → ∃ k, laws_FnExactStopTick.f k l0 a1 a2 a3 = some true := by
  intro l0 a1 a2 a3 ⟨hm, _⟩ _ _ _
  unfold maxLen at hm
  apply Ev.rounds
  unfold laws_FnExactStopTick.f laws_szModuleS.f
  rw [sz_some hm]
  simp only [Option.bind_some]
  by_cases h : 1000000 < l0.length
  · simp only [if_pos h, if_pos (show (-1 : Int) < 0 by decide)]
    exact Ev.now _
  · have hl : l0.length ≤ 1000000 := by omega
    simp only [if_neg h, if_neg (show ¬ (1000000 - (l0.length : Int) < 0) by omega), toModuleS_some _ l0 _ hl, Option.bind_some]
    have hc : (l0.map laws_toModuleS.conv).length ≤ 1000000 := by simpa using hl
    have ht := fun k b => toModuleS_some k l0 b hl
    generalize l0.map laws_toModuleS.conv = c at hc ht ⊢
    obtain ⟨r, hs, hi⟩ := StopTick_both c hc a1 a2 a3
    refine Ev.bind hs (Ev.bind hi ?_)
    simp only [if_true, bne_self_eq_false]
    refine Ev.dn ?_
    simp only [laws_FnExactStopTick.j0, Bool.false_eq_true, if_false, ht, Option.bind_some]
    refine Ev.bind (intactModuleS_refl c hc) ?_
    simp only [if_true]
    refine Ev.bind hi ?_
    simp only [if_true]
    exact Ev.now _
end Go.Proofs.Ytllhghcepbkpeaa.Pure
