/- The law FnExactCostOf as a statement over numbers and lists, proved; no condition but the sizes and ranges that every input has. -/
import Derived.Test.YtancnecddlbhkaaF23
import Derived.Test.YtancnecddlbhkaaEv
namespace Go.Proofs.Ytancnecddlbhkaa.Pure
open Go.RowKit Go.Proofs.Ytancnecddlbhkaa.Pall Go.Proofs.YtancnecddlbhkaaW.PrintWords
set_option linter.unusedSimpArgs false
set_option linter.unusedVariables false
def rin (x a b : Int) : Bool := decide (a ≤ x) && decide (x ≤ b)
theorem l01In_eq (x a b : Int) : spec_l01In.f x a b = some (rin x a b) := by
  unfold spec_l01In.f rin
  by_cases h : a ≤ x
  · rw [if_pos h, decide_eq_true h, Bool.true_and]
  · rw [if_neg h, decide_eq_false h, Bool.false_and]
theorem within_eq (x a b : Int) : impl_within.f x a b = some (rin x a b) := by
  unfold impl_within.f rin
  by_cases h : a ≤ x
  · rw [if_pos h, decide_eq_true h, Bool.true_and]
  · rw [if_neg h, decide_eq_false h, Bool.false_and]
theorem rin_iff {x a b : Int} : rin x a b = true ↔ a ≤ x ∧ x ≤ b := by simp [rin]
def allIn (l : List Int) (a b : Int) : Bool := allD (fun j => rin (rd l (j : Int)) a b) 0 l.length
theorem allIn_iff (l : List Int) (a b : Int) : allIn l a b = true ↔ ∀ j : Nat, j < l.length → a ≤ rd l (j : Int) ∧ rd l (j : Int) ≤ b := by
  unfold allIn
  rw [allD_iff]
  simp only [rin_iff]
  exact ⟨fun h j hj => h j (Nat.zero_le _) (by omega), fun h j _ hj => h j (by omega)⟩
theorem allWithin_ev (l : List Int) (a b : Int) (hn : l.length ≤ 9223372036854775807) : Ev (fun k => impl_allWithin.f k l a b) (allIn l a b) := by
  unfold impl_allWithin.f
  have h := Ev.allLoop (l := fun k i => impl_allWithin.l0 k a b l (l.length : Int) i) (n := l.length) (fun j => rin (rd l (j : Int)) a b) false true
    (fun i hi => Evt.all fun k => by
      simp only [impl_allWithin.l0, within_eq, Option.bind_some]
      rw [if_pos (by omega), if_pos (by omega), if_pos (by omega), wrap_succ hi hn])
    (Evt.all fun k => by
      simp only [impl_allWithin.l0]
      rw [if_neg (by omega)]) l.length 0 (by omega)
  refine h.eq ?_
  unfold allIn
  cases allD (fun j => rin (rd l (j : Int)) a b) 0 l.length <;> simp
def szv (n : Nat) (a : Int) : Int := if a < (n : Int) then -1 else a - (n : Int)
theorem sz_eq {n : Nat} {a : Int} (hn : n ≤ 4611686018427387904) (h0 : 0 ≤ a) (h1 : a ≤ 1000000) : (if (wrap64 (a - (n : Int))) < 0 then (some (-1)) else (some (wrap64 (a - (n : Int))))) = some (szv n a) := by
  rw [wrap_id (by omega) (by omega)]
  unfold szv
  by_cases h : a < (n : Int)
  · rw [if_pos (by omega), if_pos h]
  · rw [if_neg (by omega), if_neg h]
theorem szv_ok {n : Nat} {a : Int} (h0 : 0 ≤ a) (h1 : a ≤ 1000000) (h : ¬ szv n a < 0) : n ≤ 1000000 ∧ 0 ≤ szv n a ∧ szv n a ≤ 1000000 := by
  unfold szv at *
  split at h
  · exact absurd (show (-1 : Int) < 0 by decide) h
  · rename_i h2
    rw [if_neg h2]
    omega
theorem eqInt_refl (l : List Int) (hn : l.length ≤ 9223372036854775807) : Ev (fun k => laws_eqInt64S.f k l l) true := by
  unfold laws_eqInt64S.f
  simp only [if_pos rfl]
  have h := Ev.allLoop (l := fun k i => laws_eqInt64S.l0 k l l i) (n := l.length) (fun _ => true) false true
    (fun i hi => Evt.all fun k => by
      simp only [laws_eqInt64S.l0]
      rw [if_pos (by omega), if_pos (by omega), if_pos (by omega), wrap_succ hi hn]
      (try simp))
    (Evt.all fun k => by
      simp only [laws_eqInt64S.l0]
      rw [if_neg (by omega)]) l.length 0 (by omega)
  refine h.eq ?_
  rw [if_pos ((allD_iff _ _ _).2 (fun _ _ _ => rfl))]
theorem eqDemandS_refl (l : List S98) (hn : l.length ≤ 9223372036854775807) : Ev (fun k => laws_eqDemandS.f k l l) true := by
  unfold laws_eqDemandS.f
  simp only [if_pos rfl]
  have h := Ev.allLoop (l := fun k i => laws_eqDemandS.l0 k l l i) (n := l.length) (fun _ => true) false true
    (fun i hi => Evt.all fun k => by
      simp only [laws_eqDemandS.l0, laws_eqDemand.f]
      rw [if_pos (by omega), if_pos (by omega), if_pos (by omega), wrap_succ hi hn]
      (try simp))
    (Evt.all fun k => by
      simp only [laws_eqDemandS.l0]
      rw [if_neg (by omega)]) l.length 0 (by omega)
  refine h.eq ?_
  rw [if_pos ((allD_iff _ _ _).2 (fun _ _ _ => rfl))]
theorem intactDemandS_refl (l : List S98) (hn : l.length ≤ 1000000) : Ev (fun k => laws_intactDemandS.f k l l) true := by
  unfold laws_intactDemandS.f
  simp only [if_pos rfl]
  exact eqDemandS_refl _ (full_le l hn)
theorem toDemandS_some (k : Nat) (l : List S100) (b : Bool) (hn : l.length ≤ 1000000) : laws_toDemandS.f k l b = some (l.map laws_toDemandS.conv) := by
  unfold laws_toDemandS.f
  rw [if_pos hn]
theorem eqAreaS_refl (l : List S103) (hn : l.length ≤ 9223372036854775807) : Ev (fun k => laws_eqAreaS.f k l l) true := by
  unfold laws_eqAreaS.f
  simp only [if_pos rfl]
  have h := Ev.allLoop (l := fun k i => laws_eqAreaS.l0 k l l i) (n := l.length) (fun _ => true) false true
    (fun i hi => Evt.all fun k => by
      simp only [laws_eqAreaS.l0, laws_eqArea.f]
      rw [if_pos (by omega), if_pos (by omega), if_pos (by omega), wrap_succ hi hn]
      (try simp))
    (Evt.all fun k => by
      simp only [laws_eqAreaS.l0]
      rw [if_neg (by omega)]) l.length 0 (by omega)
  refine h.eq ?_
  rw [if_pos ((allD_iff _ _ _).2 (fun _ _ _ => rfl))]
theorem intactAreaS_refl (l : List S103) (hn : l.length ≤ 1000000) : Ev (fun k => laws_intactAreaS.f k l l) true := by
  unfold laws_intactAreaS.f
  simp only [if_pos rfl]
  exact eqAreaS_refl _ (full_le l hn)
theorem toAreaS_some (k : Nat) (l : List S105) (b : Bool) (hn : l.length ≤ 1000000) : laws_toAreaS.f k l b = some (l.map laws_toAreaS.conv) := by
  unfold laws_toAreaS.f
  rw [if_pos hn]
def ordB (l : List S98) (i j : Nat) : Bool :=
  decide ((rd_T98 l (i : Int)).f0 < (rd_T98 l (j : Int)).f0) || (decide ((rd_T98 l (i : Int)).f0 = (rd_T98 l (j : Int)).f0) && decide ((rd_T98 l (i : Int)).f1 < (rd_T98 l (j : Int)).f1) && decide ((rd_T98 l (i : Int)).f2 ≤ (rd_T98 l (j : Int)).f2))
def tbB (l : List S98) (j : Nat) : Bool :=
  rin (rd_T98 l (j : Int)).f0 0 3 && rin (rd_T98 l (j : Int)).f1 20 300 && rin (rd_T98 l (j : Int)).f2 0 10000 && (decide (j = 0) || ordB l (j - 1) j)
def tblOk (l : List S98) : Bool := allD (tbB l) 0 l.length && decide (l.length ≤ 12)
theorem spec_IsTable_ev (l : List S98) (hn : l.length ≤ 1000000) : Ev (fun k => spec_IsTable.f k l) (tblOk l) := by
  have h := Ev.allLoopQ (l := fun k i => spec_IsTable.l0 k l i) (n := l.length) (tbB l) false (decide (l.length ≤ 12))
    (fun i hi _ => by
      have main : ∀ r, (tbB l i = true → Ev (fun k => spec_IsTable.l0 k l ((i + 1 : Nat) : Int)) r) → (tbB l i = false → r = false) → Ev (fun k => spec_IsTable.l0 k l (i : Int)) r := by
        intro r h1 h2
        have hbad : ∀ x y z, tbB l i = false → Ev (fun k => spec_IsTable.j1 k l (i : Int) true x y z) r := fun x y z hb => Ev.dn (by
          rw [h2 hb]; simp only [spec_IsTable.j1, if_true]; exact Ev.now _)
        refine Ev.dn ?_
        simp only [spec_IsTable.l0, l01In_eq, Option.bind_some, if_pos (show (i : Int) < (l.length : Int) by omega), if_pos (show (0 : Int) ≤ (i : Int) by omega)]
        cases c0 : rin (rd_T98 l (i : Int)).f0 0 3 with
        | false => simp only [Bool.false_eq_true, if_false]; exact hbad _ _ _ (by simp [tbB, c0])
        | true =>
        simp only [if_true]
        cases c1 : rin (rd_T98 l (i : Int)).f1 20 300 with
        | false => simp only [Bool.false_eq_true, if_false]; exact hbad _ _ _ (by simp [tbB, c1])
        | true =>
        simp only [if_true]
        cases c2 : rin (rd_T98 l (i : Int)).f2 0 10000 with
        | false => simp only [Bool.not_false]; exact hbad _ _ _ (by simp [tbB, c2])
        | true =>
        simp only [Bool.not_true]
        refine Ev.dn ?_
        simp only [spec_IsTable.j1, Bool.false_eq_true, if_false]
        by_cases h0 : i = 0
        · simp only [if_neg (show ¬ (i : Int) > 0 by omega), wrap_succ hi (show l.length ≤ 9223372036854775807 by omega)]
          exact h1 (by unfold tbB; rw [c0, c1, c2, decide_eq_true h0]; rfl)
        · have hp : wrap64 ((i : Int) - 1) = ((i - 1 : Nat) : Int) := wrap_pred hi (by omega) (by omega)
          simp only [if_pos (show (i : Int) > 0 by omega), hp, if_pos (show (0 : Int) ≤ ((i - 1 : Nat) : Int) by omega), if_pos (show ((i - 1 : Nat) : Int) < (l.length : Int) by omega), spec_l16Before.f, wrap_succ hi (show l.length ≤ 9223372036854775807 by omega)]
          have ht : tbB l i = ordB l (i - 1) i := by simp [tbB, c0, c1, c2, h0]
          rw [ht] at h1 h2
          unfold ordB at h1 h2
          generalize rd_T98 l ((i - 1 : Nat) : Int) = p at h1 h2 ⊢
          generalize rd_T98 l (i : Int) = q at h1 h2 ⊢
          by_cases d0 : p.f0 < q.f0
          · have d1 : ¬ p.f0 = q.f0 := by omega
            simp only [if_pos d0, Option.bind_some, if_true, if_neg d1]
            exact h1 (by simp [d0])
          · by_cases d1 : p.f0 = q.f0
            · simp only [if_neg d0, if_pos d1, Option.bind_some]
              by_cases d2 : p.f1 < q.f1
              · simp only [decide_eq_true d2, if_true]
                by_cases d3 : p.f2 > q.f2
                · simp only [if_pos d3]
                  rw [h2 (by simp [d0, d1, d2]; omega)]
                  exact Ev.now _
                · simp only [if_neg d3]
                  exact h1 (by simp [d0, d1, d2]; omega)
              · simp only [decide_eq_false d2, Bool.false_eq_true, if_false]
                rw [h2 (by simp [d0, d1, d2])]
                exact Ev.now _
            · simp only [if_neg d0, if_neg d1, Option.bind_some, Bool.false_eq_true, if_false]
              rw [h2 (by simp [d0, d1])]
              exact Ev.now _
      exact ⟨fun hs r hr => main r (fun _ => hr) (fun hf => by rw [hs] at hf; exact absurd hf (by decide)), fun hs => main false (fun ht => by rw [hs] at ht; exact absurd ht (by decide)) (fun _ => rfl)⟩)
    (fun _ => by
      refine Ev.dn ?_
      simp only [spec_IsTable.l0, if_neg (show ¬ (l.length : Int) < (l.length : Int) by omega)]
      have e : decide ((l.length : Int) ≤ 12) = decide (l.length ≤ 12) := decide_eq_decide.2 (by omega)
      rw [e]
      exact Ev.now _) l.length 0 (by omega) (fun j hj => by omega)
  refine h.eq ?_
  unfold tblOk
  cases allD (tbB l) 0 l.length <;> simp
theorem impl_IsTable_ev (l : List S98) (hn : l.length ≤ 1000000) : Ev (fun k => impl_IsTable.f k l) (tblOk l) := by
  unfold impl_IsTable.f
  by_cases hl : (l.length : Int) > 12
  · simp only [if_pos hl]
    refine (Ev.now false).eq ?_
    unfold tblOk
    rw [decide_eq_false (by omega), Bool.and_false]
  simp only [if_neg hl]
  have h := Ev.allLoopQ (l := fun k i => impl_IsTable.l0 k l l (l.length : Int) i) (n := l.length) (tbB l) false true
    (fun i hi _ => by
      have main : ∀ r, (tbB l i = true → Ev (fun k => impl_IsTable.l0 k l l (l.length : Int) ((i + 1 : Nat) : Int)) r) → (tbB l i = false → r = false) → Ev (fun k => impl_IsTable.l0 k l l (l.length : Int) (i : Int)) r := by
        intro r h1 h2
        have hbad : ∀ x y z, tbB l i = false → Ev (fun k => impl_IsTable.j1 k l (i : Int) l (l.length : Int) (i : Int) true x y z) r := fun x y z hb => Ev.dn (by
          rw [h2 hb]; simp only [impl_IsTable.j1, if_true]; exact Ev.now _)
        refine Ev.dn ?_
        simp only [impl_IsTable.l0, impl_isKind.f, impl_isCalibre.f, within_eq, Option.bind_some, if_pos (show (i : Int) < (l.length : Int) by omega), if_pos (show (0 : Int) ≤ (i : Int) by omega)]
        cases c0 : rin (rd_T98 l (i : Int)).f0 0 3 with
        | false => simp only [Bool.false_eq_true, if_false]; exact hbad _ _ _ (by simp [tbB, c0])
        | true =>
        simp only [if_true]
        cases c1 : rin (rd_T98 l (i : Int)).f1 20 300 with
        | false => simp only [Bool.false_eq_true, if_false]; exact hbad _ _ _ (by simp [tbB, c1])
        | true =>
        simp only [if_true]
        cases c2 : rin (rd_T98 l (i : Int)).f2 0 10000 with
        | false => simp only [Bool.not_false]; exact hbad _ _ _ (by simp [tbB, c2])
        | true =>
        simp only [Bool.not_true]
        refine Ev.dn ?_
        simp only [impl_IsTable.j1, Bool.false_eq_true, if_false]
        by_cases h0 : i = 0
        · simp only [if_pos (show (i : Int) = 0 by omega), wrap_succ hi (show l.length ≤ 9223372036854775807 by omega)]
          exact h1 (by unfold tbB; rw [c0, c1, c2, decide_eq_true h0]; rfl)
        · have hp : wrap64 ((i : Int) - 1) = ((i - 1 : Nat) : Int) := wrap_pred hi (by omega) (by omega)
          simp only [if_neg (show ¬ (i : Int) = 0 by omega), hp, if_pos (show (0 : Int) ≤ ((i - 1 : Nat) : Int) by omega), if_pos (show ((i - 1 : Nat) : Int) < (l.length : Int) by omega), wrap_succ hi (show l.length ≤ 9223372036854775807 by omega)]
          have ht : tbB l i = ordB l (i - 1) i := by simp [tbB, c0, c1, c2, h0]
          rw [ht] at h1 h2
          unfold ordB at h1 h2
          generalize rd_T98 l ((i - 1 : Nat) : Int) = p at h1 h2 ⊢
          generalize rd_T98 l (i : Int) = q at h1 h2 ⊢
          by_cases d0 : p.f0 > q.f0
          · simp only [if_pos d0]
            rw [h2 (by simp; omega)]
            exact Ev.now _
          · simp only [if_neg d0]
            by_cases d1 : p.f0 = q.f0
            · simp only [if_pos d1]
              by_cases d2 : p.f1 ≥ q.f1
              · simp only [if_pos d2]
                rw [h2 (by simp; omega)]
                exact Ev.now _
              · simp only [if_neg d2]
                by_cases d3 : p.f2 > q.f2
                · simp only [if_pos d3]
                  rw [h2 (by simp; omega)]
                  exact Ev.now _
                · simp only [if_neg d3]
                  exact h1 (by simp; omega)
            · simp only [if_neg d1]
              exact h1 (by simp; omega)
      exact ⟨fun hs r hr => main r (fun _ => hr) (fun hf => by rw [hs] at hf; exact absurd hf (by decide)), fun hs => main false (fun ht => by rw [hs] at ht; exact absurd ht (by decide)) (fun _ => rfl)⟩)
    (fun _ => by
      refine Ev.dn ?_
      simp only [impl_IsTable.l0, if_neg (show ¬ (l.length : Int) < (l.length : Int) by omega)]
      exact Ev.now _) l.length 0 (by omega) (fun j hj => by omega)
  refine h.eq ?_
  unfold tblOk
  rw [decide_eq_true (by omega : l.length ≤ 12), Bool.and_true]
  cases allD (tbB l) 0 l.length <;> simp
def arB (x : S103) : Bool := rin x.f0 0 3 && (rin x.f1 0 100000 && rin x.f2 0 100000) && rin x.f3 1 (100000 - x.f1) && rin x.f4 1 (100000 - x.f2)
theorem spec_IsArea_eq (x : S103) : spec_IsArea.f x.f0 x.f1 x.f2 x.f3 x.f4 = some (arB x) := by
  unfold spec_IsArea.f spec_l15Place.f arB
  simp only [l01In_eq, Option.bind_some]
  cases rin x.f0 0 3 with
  | false => simp
  | true =>
    cases h1 : rin x.f1 0 100000 with
    | false => simp
    | true =>
      cases h2 : rin x.f2 0 100000 with
      | false => simp
      | true =>
        have e1 := rin_iff.1 h1
        have e2 := rin_iff.1 h2
        rw [wrap_id (x := 100000 - x.f1) (by omega) (by omega), wrap_id (x := 100000 - x.f2) (by omega) (by omega)]
        cases rin x.f3 1 (100000 - x.f1) <;> simp
theorem impl_IsArea_eq (x : S103) : impl_IsArea.f x.f0 x.f1 x.f2 x.f3 x.f4 = some (arB x) := by
  unfold impl_IsArea.f impl_isKind.f impl_isPlace.f arB
  simp only [within_eq, Option.bind_some]
  cases rin x.f0 0 3 with
  | false => simp
  | true =>
    cases h1 : rin x.f1 0 100000 with
    | false => simp
    | true =>
      cases h2 : rin x.f2 0 100000 with
      | false => simp
      | true =>
        have e1 := rin_iff.1 h1
        have e2 := rin_iff.1 h2
        simp only [if_true]
        rw [wrap_id (x := 100000 - x.f1) (by omega) (by omega), wrap_id (x := 100000 - x.f2) (by omega) (by omega)]
        cases rin x.f3 1 (100000 - x.f1) <;> simp
def siteOk (l : List S103) : Bool := allD (fun j => arB (rd_T103 l (j : Int))) 0 l.length && decide (l.length ≤ 10)
theorem spec_IsSite_ev (l : List S103) (hn : l.length ≤ 1000000) : Ev (fun k => spec_IsSite.f k l) (siteOk l) := by
  have h := Ev.allLoop (l := fun k i => spec_IsSite.l0 k l i) (n := l.length) (fun j => arB (rd_T103 l (j : Int))) false (decide (l.length ≤ 10))
    (fun i hi => Evt.all fun k => by
      simp only [spec_IsSite.l0, spec_IsArea_eq, Option.bind_some]
      rw [if_pos (by omega), if_pos (by omega), wrap_succ hi (by omega)])
    (Evt.all fun k => by
      simp only [spec_IsSite.l0]
      rw [if_neg (by omega)]
      congr 1
      exact decide_eq_decide.2 (by omega)) l.length 0 (by omega)
  refine h.eq ?_
  unfold siteOk
  cases allD (fun j => arB (rd_T103 l (j : Int))) 0 l.length <;> simp
theorem impl_IsSite_ev (l : List S103) (hn : l.length ≤ 1000000) : Ev (fun k => impl_IsSite.f k l) (siteOk l) := by
  unfold impl_IsSite.f
  by_cases hl : (l.length : Int) > 10
  · simp only [if_pos hl]
    refine (Ev.now false).eq ?_
    unfold siteOk
    rw [decide_eq_false (by omega), Bool.and_false]
  simp only [if_neg hl]
  have h := Ev.allLoop (l := fun k i => impl_IsSite.l0 k l (l.length : Int) i) (n := l.length) (fun j => arB (rd_T103 l (j : Int))) false true
    (fun i hi => Evt.all fun k => by
      simp only [impl_IsSite.l0, impl_IsArea_eq, Option.bind_some]
      rw [if_pos (by omega), if_pos (by omega), if_pos (by omega), wrap_succ hi (by omega)])
    (Evt.all fun k => by
      simp only [impl_IsSite.l0]
      rw [if_neg (by omega)]) l.length 0 (by omega)
  refine h.eq ?_
  unfold siteOk
  rw [decide_eq_true (by omega : l.length ≤ 10), Bool.and_true]
  cases allD (fun j => arB (rd_T103 l (j : Int))) 0 l.length <;> simp
def fldOk (T : List S98) (S : List S103) (C X Y : List Int) (g : Int) : Bool :=
  tblOk T && siteOk S && decide (C.length ≤ 4) && allIn C 20 300 && decide (X.length ≤ 7) && decide (Y.length = X.length) && allIn X 0 100000 && allIn Y 0 100000 && rin g 0 10000
theorem impl_IsField_ev (T : List S98) (S : List S103) (C X Y : List Int) (g : Int) (h1 : T.length ≤ 1000000) (h2 : S.length ≤ 1000000) (h3 : C.length ≤ 1000000) (h4 : X.length ≤ 1000000) (h5 : Y.length ≤ 1000000) :
    Ev (fun k => impl_IsField.f k T S C X Y g) (fldOk T S C X Y g) := by
  unfold impl_IsField.f fldOk
  refine Ev.bind (impl_IsTable_ev T h1) ?_
  cases tblOk T with
  | false => simp only [Bool.false_eq_true, if_false, Bool.false_and]; exact Ev.now _
  | true =>
  simp only [if_true, Bool.true_and]
  refine Ev.bind (impl_IsSite_ev S h2) ?_
  cases siteOk S with
  | false => simp only [Bool.false_eq_true, if_false, Bool.false_and]; exact Ev.now _
  | true =>
  simp only [if_true, Bool.true_and]
  by_cases c1 : C.length ≤ 4
  case neg => simp only [if_neg (show ¬ (C.length : Int) ≤ 4 by omega), decide_eq_false c1, Bool.false_and]; exact Ev.now _
  simp only [if_pos (show (C.length : Int) ≤ 4 by omega), decide_eq_true c1, Bool.true_and]
  refine Ev.bind (allWithin_ev C 20 300 (by omega)) ?_
  cases allIn C 20 300 with
  | false => simp only [Bool.false_eq_true, if_false, Bool.false_and]; exact Ev.now _
  | true =>
  simp only [if_true, Bool.true_and]
  by_cases c2 : X.length ≤ 7
  case neg => simp only [if_neg (show ¬ (X.length : Int) ≤ 7 by omega), decide_eq_false c2, Bool.false_and]; exact Ev.now _
  simp only [if_pos (show (X.length : Int) ≤ 7 by omega), decide_eq_true c2, Bool.true_and]
  by_cases c3 : Y.length = X.length
  case neg => simp only [if_neg (show ¬ (Y.length : Int) = (X.length : Int) by omega), decide_eq_false c3, Bool.false_and]; exact Ev.now _
  simp only [if_pos (show (Y.length : Int) = (X.length : Int) by omega), decide_eq_true c3, Bool.true_and]
  refine Ev.bind (allWithin_ev X 0 100000 (by omega)) ?_
  cases allIn X 0 100000 with
  | false => simp only [Bool.false_eq_true, if_false, Bool.false_and]; exact Ev.now _
  | true =>
  simp only [if_true, Bool.true_and]
  refine Ev.bind (allWithin_ev Y 0 100000 (by omega)) ?_
  cases allIn Y 0 100000 with
  | false => simp only [Bool.false_eq_true, if_false, Bool.false_and]; exact Ev.now _
  | true =>
  simp only [if_true, Bool.true_and, within_eq, Option.bind_some]
  exact Ev.now _
theorem spec_IsField_ev (T : List S98) (S : List S103) (C X Y : List Int) (g : Int) (h1 : T.length ≤ 1000000) (h2 : S.length ≤ 1000000) (h3 : C.length ≤ 1000000) (h4 : X.length ≤ 1000000) (h5 : Y.length ≤ 1000000) :
    Ev (fun k => spec_IsField.f k T S C X Y g) (fldOk T S C X Y g) := by
  have hend : Ev (fun k => ((spec_IsTable.f k T).bind fun t1285 => (if t1285 = true then ((spec_IsSite.f k S).bind fun t1286 => (if t1286 = true then ((spec_l01In.f g 0 10000).bind fun t1287 => (some t1287)) else (some false))) else (some false)))) (tblOk T && siteOk S && rin g 0 10000) := by
    refine Ev.bind (spec_IsTable_ev T h1) ?_
    cases tblOk T with
    | false => simp only [Bool.false_eq_true, if_false, Bool.false_and]; exact Ev.now _
    | true =>
    simp only [if_true, Bool.true_and]
    refine Ev.bind (spec_IsSite_ev S h2) ?_
    cases siteOk S with
    | false => simp only [Bool.false_eq_true, if_false, Bool.false_and]; exact Ev.now _
    | true =>
    simp only [if_true, Bool.true_and, l01In_eq, Option.bind_some]
    exact Ev.now _
  have hxy : Y.length = X.length → Ev (fun k => spec_IsField.l1 k 0 T S C X Y g) (allIn X 0 100000 && allIn Y 0 100000 && (tblOk T && siteOk S && rin g 0 10000)) := by
    intro hl
    have h := Ev.allLoopQ (l := fun k i => spec_IsField.l1 k i T S C X Y g) (n := X.length) (fun j => rin (rd X (j : Int)) 0 100000 && rin (rd Y (j : Int)) 0 100000) false (tblOk T && siteOk S && rin g 0 10000)
      (fun i hi _ => by
        refine ⟨fun hs r hr => Ev.dn (Ev.eq' hr (fun k => ?_)), fun hs => Ev.dn (Ev.eq' (f := fun _ => some false) (Ev.now _) (fun k => ?_))⟩
        · simp only [Bool.and_eq_true] at hs
          simp only [spec_IsField.l1, spec_l15Place.f, l01In_eq, Option.bind_some, hs.1, hs.2, if_true]
          rw [if_pos (show (i : Int) < (X.length : Int) by omega), if_pos (show (0 : Int) ≤ (i : Int) by omega), if_pos (show (i : Int) < (Y.length : Int) by omega), wrap_succ hi (by omega)]
        · simp only [spec_IsField.l1, spec_l15Place.f, l01In_eq, Option.bind_some]
          rw [if_pos (show (i : Int) < (X.length : Int) by omega), if_pos (show (0 : Int) ≤ (i : Int) by omega), if_pos (show (i : Int) < (Y.length : Int) by omega)]
          cases c : rin (rd X (i : Int)) 0 100000 with
          | false => simp
          | true => rw [c, Bool.true_and] at hs; simp [hs])
      (fun _ => by
        refine Ev.dn ?_
        simp only [spec_IsField.l1, if_neg (show ¬ (X.length : Int) < (X.length : Int) by omega)]
        exact hend) X.length 0 (by omega) (fun j hj => by omega)
    refine h.eq ?_
    have e : allD (fun j => rin (rd X (j : Int)) 0 100000 && rin (rd Y (j : Int)) 0 100000) 0 X.length = (allIn X 0 100000 && allIn Y 0 100000) := by
      rw [Bool.eq_iff_iff, Bool.and_eq_true, allIn_iff, allIn_iff, allD_iff]
      simp only [Bool.and_eq_true, rin_iff, hl]
      exact ⟨fun h => ⟨fun j hj => (h j (by omega) (by omega)).1, fun j hj => (h j (by omega) (by omega)).2⟩, fun h j _ hj => ⟨h.1 j (by omega), h.2 j (by omega)⟩⟩
    rw [e]
    cases allIn X 0 100000 && allIn Y 0 100000 <;> simp
  have hj : ∀ b, Ev (fun k => spec_IsField.j1 k b T S C X Y g) (if b = true then false else (if Y.length = X.length then (allIn X 0 100000 && allIn Y 0 100000 && (tblOk T && siteOk S && rin g 0 10000)) else false)) ∨ (b = false ∧ ¬ Y.length = X.length) := by
    intro b
    cases b with
    | true => exact Or.inl (Ev.dn (by simp only [spec_IsField.j1, if_true]; exact Ev.now _))
    | false =>
      by_cases hl : Y.length = X.length
      · refine Or.inl (Ev.dn ?_)
        simp only [spec_IsField.j1, Bool.false_eq_true, if_false, if_pos hl]
        exact hxy hl
      · exact Or.inr ⟨rfl, hl⟩
  have h := Ev.allLoopQ (l := fun k i => spec_IsField.l0 k i T S C X Y g) (n := C.length) (fun j => rin (rd C (j : Int)) 20 300) false (decide (C.length ≤ 4) && decide (X.length ≤ 7) && decide (Y.length = X.length) && (allIn X 0 100000 && allIn Y 0 100000 && (tblOk T && siteOk S && rin g 0 10000)))
    (fun i hi _ => by
      refine ⟨fun hs r hr => Ev.dn (Ev.eq' hr (fun k => ?_)), fun hs => Ev.dn (Ev.eq' (f := fun _ => some false) (Ev.now _) (fun k => ?_))⟩
      · simp only [spec_IsField.l0, l01In_eq, Option.bind_some, hs, if_true]
        rw [if_pos (show (i : Int) < (C.length : Int) by omega), if_pos (show (0 : Int) ≤ (i : Int) by omega), wrap_succ hi (by omega)]
      · simp only [spec_IsField.l0, l01In_eq, Option.bind_some, hs]
        rw [if_pos (show (i : Int) < (C.length : Int) by omega), if_pos (show (0 : Int) ≤ (i : Int) by omega)]
        rfl)
    (fun _ => by
      refine Ev.dn ?_
      simp only [spec_IsField.l0, if_neg (show ¬ (C.length : Int) < (C.length : Int) by omega)]
      have hjt := (hj true).resolve_right (fun h => by simp at h)
      by_cases c1 : Y.length = X.length
      · have hjf := (hj false).resolve_right (fun h => h.2 c1)
        simp only [if_pos (show (X.length : Int) = (Y.length : Int) by omega)]
        by_cases c2 : X.length ≤ 7
        · simp only [if_neg (show ¬ (X.length : Int) > 7 by omega)]
          by_cases c3 : C.length ≤ 4
          · rw [decide_eq_false (show ¬ (C.length : Int) > 4 by omega)]
            refine hjf.eq ?_
            simp [c1, c2, c3]
          · rw [decide_eq_true (show (C.length : Int) > 4 by omega)]
            refine hjt.eq ?_
            simp [c3]
        · simp only [if_pos (show (X.length : Int) > 7 by omega)]
          refine hjt.eq ?_
          simp [c2]
      · simp only [if_neg (show ¬ (X.length : Int) = (Y.length : Int) by omega)]
        refine hjt.eq ?_
        simp [c1]) C.length 0 (by omega) (fun j hj => by omega)
  refine h.eq ?_
  unfold fldOk
  rw [show allD (fun j => rin (rd C (j : Int)) 20 300) 0 C.length = allIn C 20 300 from rfl]
  generalize tblOk T = b1
  generalize siteOk S = b2
  generalize decide (C.length ≤ 4) = b3
  generalize allIn C 20 300 = b4
  generalize decide (X.length ≤ 7) = b5
  generalize decide (Y.length = X.length) = b6
  generalize allIn X 0 100000 = b7
  generalize allIn Y 0 100000 = b8
  generalize rin g 0 10000 = b9
  cases b1 <;> cases b2 <;> cases b3 <;> cases b4 <;> cases b5 <;> cases b6 <;> cases b7 <;> cases b8 <;> rfl
theorem intactInt_refl (l : List Int) (hn : l.length ≤ 1000000) : Ev (fun k => laws_intactInt64S.f k l l) true := by
  unfold laws_intactInt64S.f
  simp only [if_pos rfl]
  exact eqInt_refl _ (full_le l hn)
theorem toInt_some (k : Nat) (l : List Int) (b : Bool) (hn : l.length ≤ 1000000) : laws_toInt64S.f k l b = some l := by
  unfold laws_toInt64S.f
  rw [if_pos hn]
theorem szField_some (T : List S100) (S : List S105) (C X Y : List Int) (g a : Int) (h1 : T.length ≤ reachBytes) (h2 : S.length ≤ reachBytes) (h3 : C.length ≤ reachBytes) (h4 : X.length ≤ reachBytes) (h5 : Y.length ≤ reachBytes) (h0 : 0 ≤ a) (ha : a ≤ 1000000) :
    ∃ r, laws_szField.f T S C X Y g a = some r ∧ (¬ r < 0 → T.length ≤ 1000000 ∧ S.length ≤ 1000000 ∧ C.length ≤ 1000000 ∧ X.length ≤ 1000000 ∧ Y.length ≤ 1000000 ∧ 0 ≤ r ∧ r ≤ 1000000) := by
  unfold reachBytes at *
  unfold laws_szField.f laws_szDemandS.f laws_szAreaS.f laws_szInt64S.f
  have bad : ∃ r : Int, some (-1 : Int) = some r ∧ (¬ r < 0 → T.length ≤ 1000000 ∧ S.length ≤ 1000000 ∧ C.length ≤ 1000000 ∧ X.length ≤ 1000000 ∧ Y.length ≤ 1000000 ∧ 0 ≤ r ∧ r ≤ 1000000) := ⟨-1, rfl, fun h => absurd (show (-1 : Int) < 0 by decide) h⟩
  rw [sz_eq (by omega) h0 ha, Option.bind_some]
  by_cases c1 : szv T.length a < 0
  · rw [if_pos c1]; exact bad
  rw [if_neg c1]
  obtain ⟨k1, l1, u1⟩ := szv_ok h0 ha c1
  generalize szv T.length a = a1 at l1 u1
  rw [sz_eq (by omega) l1 u1, Option.bind_some]
  by_cases c2 : szv S.length a1 < 0
  · rw [if_pos c2]; exact bad
  rw [if_neg c2]
  obtain ⟨k2, l2, u2⟩ := szv_ok l1 u1 c2
  generalize szv S.length a1 = a2 at l2 u2
  rw [sz_eq (by omega) l2 u2, Option.bind_some]
  by_cases c3 : szv C.length a2 < 0
  · rw [if_pos c3]; exact bad
  rw [if_neg c3]
  obtain ⟨k3, l3, u3⟩ := szv_ok l2 u2 c3
  generalize szv C.length a2 = a3 at l3 u3
  rw [sz_eq (by omega) l3 u3, Option.bind_some]
  by_cases c4 : szv X.length a3 < 0
  · rw [if_pos c4]; exact bad
  rw [if_neg c4]
  obtain ⟨k4, l4, u4⟩ := szv_ok l3 u3 c4
  generalize szv X.length a3 = a4 at l4 u4
  rw [sz_eq (by omega) l4 u4, Option.bind_some]
  by_cases c5 : szv Y.length a4 < 0
  · rw [if_pos c5]; exact bad
  rw [if_neg c5]
  obtain ⟨k5, l5, u5⟩ := szv_ok l4 u4 c5
  exact ⟨_, rfl, fun _ => ⟨k1, k2, k3, k4, k5, l5, u5⟩⟩
theorem toField_some (k : Nat) (T : List S100) (S : List S105) (C X Y : List Int) (g : Int) (b : Bool) (h1 : T.length ≤ 1000000) (h2 : S.length ≤ 1000000) (h3 : C.length ≤ 1000000) (h4 : X.length ≤ 1000000) (h5 : Y.length ≤ 1000000) :
    laws_toField.f k T S C X Y g b = some (T.map laws_toDemandS.conv, S.map laws_toAreaS.conv, C, X, Y, g) := by
  unfold laws_toField.f
  simp only [toDemandS_some _ T _ h1, toAreaS_some _ S _ h2, toInt_some _ C _ h3, toInt_some _ X _ h4, toInt_some _ Y _ h5, Option.bind_some]
theorem intactField_refl (T : List S98) (S : List S103) (C X Y : List Int) (g : Int) (h1 : T.length ≤ 1000000) (h2 : S.length ≤ 1000000) (h3 : C.length ≤ 1000000) (h4 : X.length ≤ 1000000) (h5 : Y.length ≤ 1000000) :
    Ev (fun k => laws_intactField.f k T S C X Y g T S C X Y g) true := by
  unfold laws_intactField.f
  refine Ev.bind (intactDemandS_refl T h1) ?_
  simp only [if_true]
  refine Ev.bind (intactAreaS_refl S h2) ?_
  simp only [if_true]
  refine Ev.bind (intactInt_refl C h3) ?_
  simp only [if_true]
  refine Ev.bind (intactInt_refl X h4) ?_
  simp only [if_true]
  refine Ev.bind (intactInt_refl Y h5) ?_
  simp only [if_true]
  exact Ev.now _
/-- The distance that a table asks of a kind at a calibre, from row i on. -/
def dsD (T : List S98) (c kd : Int) : Nat → Nat → Int → Int
  | 0, _, m => m
  | d + 1, i, m => if (rd_T98 T (i : Int)).f0 = kd then (if (rd_T98 T (i : Int)).f1 ≥ c then (rd_T98 T (i : Int)).f2 else dsD T c kd d (i + 1) (-1)) else dsD T c kd d (i + 1) m
def dst (T : List S98) (c kd : Int) : Int := dsD T c kd T.length 0 0
theorem dist_ev (T : List S98) (c kd : Int) (hn : T.length ≤ 1000000) : ∀ d i m, i + d = T.length →
    Ev (fun k => spec_l16Distance.l0 k T c kd m (i : Int)) (dsD T c kd d i m) ∧ Ev (fun k => impl_distanceFor.l0 k c kd m T (T.length : Int) (i : Int)) (dsD T c kd d i m) := by
  intro d
  induction d with
  | zero =>
    intro i m hi
    refine ⟨Ev.dn ?_, Ev.dn ?_⟩
    · simp only [spec_l16Distance.l0, if_neg (show ¬ (i : Int) < (T.length : Int) by omega)]; exact Ev.now _
    · simp only [impl_distanceFor.l0, if_neg (show ¬ (i : Int) < (T.length : Int) by omega)]; exact Ev.now _
  | succ d ih =>
    intro i m hi
    have h1 := ih (i + 1) (-1) (by omega)
    have h2 := ih (i + 1) m (by omega)
    refine ⟨Ev.dn ?_, Ev.dn ?_⟩
    · simp only [spec_l16Distance.l0, dsD, if_pos (show (i : Int) < (T.length : Int) by omega), if_pos (show (0 : Int) ≤ (i : Int) by omega), wrap_succ (show i < T.length by omega) (show T.length ≤ 9223372036854775807 by omega)]
      split
      · split
        · exact Ev.now _
        · exact h1.1
      · exact h2.1
    · simp only [impl_distanceFor.l0, dsD, if_pos (show (i : Int) < (T.length : Int) by omega), if_pos (show (0 : Int) ≤ (i : Int) by omega), wrap_succ (show i < T.length by omega) (show T.length ≤ 9223372036854775807 by omega)]
      split
      · split
        · exact Ev.now _
        · exact h1.2
      · exact h2.2
theorem spec_dist_ev (T : List S98) (c kd : Int) (hn : T.length ≤ 1000000) : Ev (fun k => spec_l16Distance.f k T c kd) (dst T c kd) := (dist_ev T c kd hn T.length 0 0 (by omega)).1
theorem impl_dist_ev (T : List S98) (c kd : Int) (hn : T.length ≤ 1000000) : Ev (fun k => impl_distanceFor.f k T c kd) (dst T c kd) := (dist_ev T c kd hn T.length 0 0 (by omega)).2
/-- The square of the distance from a place to an area. -/
def sqv (a : S103) (x y : Int) : Int := wrap64 ((wrap64 ((mx (mx 0 (wrap64 (a.f1 - x))) (wrap64 ((wrap64 (x - a.f1)) - a.f3))) * (mx (mx 0 (wrap64 (a.f1 - x))) (wrap64 ((wrap64 (x - a.f1)) - a.f3))))) + (wrap64 ((mx (mx 0 (wrap64 (a.f2 - y))) (wrap64 ((wrap64 (y - a.f2)) - a.f4))) * (mx (mx 0 (wrap64 (a.f2 - y))) (wrap64 ((wrap64 (y - a.f2)) - a.f4))))))
theorem impl_square_eq (a : S103) (x y : Int) : impl_squareTo.f a.f0 a.f1 a.f2 a.f3 a.f4 x y = some (sqv a x y) := rfl
theorem wrap_away (x a w : Int) : wrap64 (x - wrap64 (a + w)) = wrap64 (wrap64 (x - a) - w) := by unfold wrap64; omega
theorem spec_square_eq (a : S103) (x y : Int) : spec_l15Square.f a.f0 a.f1 a.f2 a.f3 a.f4 x y = some (sqv a x y) := by
  unfold spec_l15Square.f spec_l15Away.f sqv
  simp only [Option.bind_some, wrap_away]
def agB (T : List S98) (c x y : Int) (a : S103) : Bool := decide (dst T c a.f0 < 0) || decide (sqv a x y < wrap64 (dst T c a.f0 * dst T c a.f0))
/-- The areas that stand against a spot, from area i on. -/
def agD (T : List S98) (S : List S103) (c x y : Int) : Nat → Nat → List Int → List Int
  | 0, _, xs => xs
  | d + 1, i, xs => agD T S c x y d (i + 1) (if agB T c x y (rd_T103 S (i : Int)) = true then xs ++ [(i : Int)] else xs)
def ags (T : List S98) (S : List S103) (c x y : Int) : List Int := agD T S c x y S.length 0 []
theorem against_ev (T : List S98) (S : List S103) (c x y : Int) (hn : T.length ≤ 1000000) (hS : S.length ≤ 1000000) : ∀ d i xs, i + d = S.length → xs.length ≤ i →
    Ev (fun k => spec_l16Against.l0 k T S c x y xs (i : Int)) (agD T S c x y d i xs) ∧ Ev (fun k => impl_areasAgainst.l0 k T c x y xs S (S.length : Int) (i : Int)) (agD T S c x y d i xs) := by
  intro d
  induction d with
  | zero =>
    intro i xs hi hx
    refine ⟨Ev.dn ?_, Ev.dn ?_⟩
    · simp only [spec_l16Against.l0, if_neg (show ¬ (i : Int) < (S.length : Int) by omega)]; exact Ev.now _
    · simp only [impl_areasAgainst.l0, if_neg (show ¬ (i : Int) < (S.length : Int) by omega)]; exact Ev.now _
  | succ d ih =>
    intro i xs hi hx
    have h1 := ih (i + 1) (xs ++ [(i : Int)]) (by omega) (by simp; omega)
    have h2 := ih (i + 1) xs (by omega) (by omega)
    have hs := wrap_succ (show i < S.length by omega) (show S.length ≤ 9223372036854775807 by omega)
    refine ⟨Ev.dn ?_, Ev.dn ?_⟩
    · simp only [spec_l16Against.l0, agD, if_pos (show (i : Int) < (S.length : Int) by omega), if_pos (show (0 : Int) ≤ (i : Int) by omega), hs, if_pos (show xs.length < 17592186044416 by omega), spec_square_eq, Option.bind_some]
      refine Ev.bind (spec_dist_ev T c _ hn) ?_
      by_cases c1 : dst T c (rd_T103 S (i : Int)).f0 < 0
      · rw [if_pos (show agB T c x y (rd_T103 S (i : Int)) = true by unfold agB; rw [decide_eq_true c1, Bool.true_or])]
        simp only [if_pos c1]
        exact h1.1
      · simp only [if_neg c1]
        by_cases c2 : sqv (rd_T103 S (i : Int)) x y < wrap64 (dst T c (rd_T103 S (i : Int)).f0 * dst T c (rd_T103 S (i : Int)).f0)
        · rw [if_pos (show agB T c x y (rd_T103 S (i : Int)) = true by unfold agB; rw [decide_eq_true c2, Bool.or_true])]
          simp only [if_pos c2]
          exact h1.1
        · rw [if_neg (show ¬ agB T c x y (rd_T103 S (i : Int)) = true by unfold agB; rw [decide_eq_false c1, decide_eq_false c2]; decide)]
          simp only [if_neg c2]
          exact h2.1
    · simp only [impl_areasAgainst.l0, agD, if_pos (show (i : Int) < (S.length : Int) by omega), if_pos (show (0 : Int) ≤ (i : Int) by omega), hs, if_pos (show xs.length < 17592186044416 by omega), impl_square_eq, Option.bind_some]
      refine Ev.bind (impl_dist_ev T c _ hn) ?_
      by_cases c1 : dst T c (rd_T103 S (i : Int)).f0 < 0
      · rw [if_pos (show agB T c x y (rd_T103 S (i : Int)) = true by unfold agB; rw [decide_eq_true c1, Bool.true_or])]
        simp only [if_pos c1]
        exact h1.2
      · simp only [if_neg c1]
        by_cases c2 : sqv (rd_T103 S (i : Int)) x y < wrap64 (dst T c (rd_T103 S (i : Int)).f0 * dst T c (rd_T103 S (i : Int)).f0)
        · rw [if_pos (show agB T c x y (rd_T103 S (i : Int)) = true by unfold agB; rw [decide_eq_true c2, Bool.or_true])]
          simp only [if_pos c2]
          exact h1.2
        · rw [if_neg (show ¬ agB T c x y (rd_T103 S (i : Int)) = true by unfold agB; rw [decide_eq_false c1, decide_eq_false c2]; decide)]
          simp only [if_neg c2]
          exact h2.2
theorem spec_against_ev (T : List S98) (S : List S103) (c x y : Int) (hn : T.length ≤ 1000000) (hS : S.length ≤ 1000000) : Ev (fun k => spec_l16Against.f k T S c x y) (ags T S c x y) :=
  (against_ev T S c x y hn hS S.length 0 [] (by omega) (by simp)).1
theorem impl_against_ev (T : List S98) (S : List S103) (c x y : Int) (hn : T.length ≤ 1000000) (hS : S.length ≤ 1000000) : Ev (fun k => impl_areasAgainst.f k T S c x y) (ags T S c x y) :=
  (against_ev T S c x y hn hS S.length 0 [] (by omega) (by simp)).2
def alw (T : List S98) (S : List S103) (c x y : Int) : Bool := ((ags T S c x y).length : Int) == 0
theorem impl_isAllowed_ev (T : List S98) (S : List S103) (c x y : Int) (hn : T.length ≤ 1000000) (hS : S.length ≤ 1000000) : Ev (fun k => impl_isAllowed.f k T S c x y) (alw T S c x y) := by
  unfold impl_isAllowed.f
  exact Ev.bind (impl_against_ev T S c x y hn hS) (Ev.now _)
/-- The spots that a rack of a calibre may hold, from spot j on. -/
def spD (T : List S98) (S : List S103) (X Y : List Int) (c : Int) : Nat → Nat → List Int → List Int
  | 0, _, xs => xs
  | d + 1, j, xs => spD T S X Y c d (j + 1) (if alw T S c (rd X (j : Int)) (rd Y (j : Int)) = true then xs ++ [(j : Int)] else xs)
theorem spD_len (T : List S98) (S : List S103) (X Y : List Int) (c : Int) : ∀ d j xs, (spD T S X Y c d j xs).length ≤ xs.length + d
  | 0, _, xs => Nat.le_refl _
  | d + 1, j, xs => by
    simp only [spD]
    refine Nat.le_trans (spD_len T S X Y c d (j + 1) _) ?_
    split
    · simp; omega
    · omega
def sps (T : List S98) (S : List S103) (X Y : List Int) (c : Int) : List Int := spD T S X Y c X.length 0 []
/-- The spots of each rack, from rack i on. -/
def stD (T : List S98) (S : List S103) (C X Y : List Int) : Nat → Nat → List (List Int) → List (List Int)
  | 0, _, a => a
  | d + 1, i, a => stD T S C X Y d (i + 1) (a ++ [sps T S X Y (rd C (i : Int))])
theorem stD_len (T : List S98) (S : List S103) (C X Y : List Int) : ∀ d i a, (stD T S C X Y d i a).length = a.length + d
  | 0, _, a => rfl
  | d + 1, i, a => by
    simp only [stD]
    rw [stD_len T S C X Y d (i + 1) _]
    simp; omega
theorem stD_old (T : List S98) (S : List S103) (C X Y : List Int) : ∀ d i a j, j < a.length → (stD T S C X Y d i a).getD j [] = a.getD j []
  | 0, _, a, j, _ => rfl
  | d + 1, i, a, j, h => by
    simp only [stD]
    rw [stD_old T S C X Y d (i + 1) _ j (by simp; omega)]
    simp [List.getD, List.getElem?_append_left h]
theorem stD_get (T : List S98) (S : List S103) (C X Y : List Int) : ∀ d i a j, a.length = i → i ≤ j → j < i + d → (stD T S C X Y d i a).getD j [] = sps T S X Y (rd C (j : Int))
  | 0, i, a, j, _, h1, h2 => by omega
  | d + 1, i, a, j, ha, h1, h2 => by
    simp only [stD]
    by_cases e : j = i
    · subst e
      rw [stD_old T S C X Y d (j + 1) _ j (by simp; omega)]
      subst ha
      simp [List.getD]
    · exact stD_get T S C X Y d (i + 1) _ j (by simp; omega) (by omega) (by omega)
def sts (T : List S98) (S : List S103) (C X Y : List Int) : List (List Int) := stD T S C X Y C.length 0 []
theorem sts_rd (T : List S98) (S : List S103) (C X Y : List Int) (i : Int) (h0 : 0 ≤ i) (h1 : i < (C.length : Int)) : rd_L5 (sts T S C X Y) i = sps T S X Y (rd C i) := by
  obtain ⟨n, rfl⟩ := Int.eq_ofNat_of_zero_le h0
  unfold rd_L5 sts
  rw [Int.toNat_natCast]
  exact stD_get T S C X Y C.length 0 [] n rfl (by omega) (by omega)
theorem sts_len (T : List S98) (S : List S103) (C X Y : List Int) : (sts T S C X Y).length = C.length := by
  unfold sts
  rw [stD_len]
  simp
theorem idx3 {X Y xs : List Int} {j d : Nat} (h4 : X.length ≤ 1000000) (e : Y.length = X.length) (hj : j + (d + 1) = X.length) (hx : xs.length ≤ j) :
    (j : Int) < (X.length : Int) ∧ (0 : Int) ≤ (j : Int) ∧ (j : Int) < (Y.length : Int) ∧ xs.length < 17592186044416 ∧ wrap64 ((j : Int) + 1) = ((j + 1 : Nat) : Int) ∧ (xs ++ [(j : Int)]).length ≤ j + 1 ∧ xs.length ≤ j + 1 ∧ j + 1 + d = X.length :=
  ⟨by omega, by omega, by omega, by omega, wrap_succ (show j < X.length by omega) (by omega), by simp; omega, by omega, by omega⟩
theorem idx3z {X : List Int} {j : Nat} (hj : j + 0 = X.length) : ¬ (j : Int) < (X.length : Int) := by omega
theorem spots_inner (T : List S98) (S : List S103) (C X Y : List Int) (g : Int) (h1 : T.length ≤ 1000000) (h2 : S.length ≤ 1000000) (h3 : C.length ≤ 1000000) (h4 : X.length ≤ 1000000) (e : Y.length = X.length) (a : List (List Int)) (i : Nat) (R : List (List Int)) (hi : i < C.length) (ha : a.length ≤ 1000000) (hR : Ev (fun k => spec_l18Spots.l0 k (a ++ [sps T S X Y (rd C (i : Int))]) ((i + 1 : Nat) : Int) T S C X Y g) R) :
    ∀ d j xs, j + d = X.length → xs.length ≤ j → spD T S X Y (rd C (i : Int)) d j xs = sps T S X Y (rd C (i : Int)) → Ev (fun k => spec_l18Spots.l1 k a (i : Int) xs (j : Int) T S C X Y g) R := by
  have hiC : (i : Int) < (C.length : Int) := by omega
  have hi0 : (0 : Int) ≤ (i : Int) := by omega
  have hwi := wrap_succ hi (show C.length ≤ 9223372036854775807 by omega)
  have ha' : a.length < 5864062014805 := by omega
  intro d
  induction d with
  | zero =>
    intro j xs hj hx hq
    refine Ev.dn ?_
    simp only [spD] at hq
    simp only [spec_l18Spots.l1, if_neg (idx3z hj), if_pos ha', hwi, hq]
    exact hR
  | succ d ih =>
    intro j xs hj hx hq
    simp only [spD] at hq
    obtain ⟨q1, q2, q3, q4, hs, q5, q6, q7⟩ := idx3 h4 e hj hx
    refine Ev.dn ?_
    simp only [spec_l18Spots.l1, if_pos q1, if_pos hi0, if_pos hiC, if_pos q2, if_pos q3, if_pos q4, hs]
    refine Ev.bind (spec_against_ev T S _ _ _ h1 h2) ?_
    by_cases c : ((ags T S (rd C (i : Int)) (rd X (j : Int)) (rd Y (j : Int))).length : Int) = 0
    · rw [show alw T S (rd C (i : Int)) (rd X (j : Int)) (rd Y (j : Int)) = true by unfold alw; simpa using c] at hq
      simp only [if_true] at hq
      simp only [if_pos c]
      exact ih (j + 1) (xs ++ [(j : Int)]) q7 q5 hq
    · rw [show alw T S (rd C (i : Int)) (rd X (j : Int)) (rd Y (j : Int)) = false by unfold alw; simpa using c] at hq
      simp only [Bool.false_eq_true, if_false] at hq
      simp only [if_neg c]
      exact ih (j + 1) xs q7 q6 hq
theorem spec_spots_ev (T : List S98) (S : List S103) (C X Y : List Int) (g : Int) (h1 : T.length ≤ 1000000) (h2 : S.length ≤ 1000000) (h3 : C.length ≤ 1000000) (h4 : X.length ≤ 1000000) (e : Y.length = X.length) :
    Ev (fun k => spec_l18Spots.f k T S C X Y g) (sts T S C X Y) := by
  have outer : ∀ d i a, i + d = C.length → a.length = i → Ev (fun k => spec_l18Spots.l0 k a (i : Int) T S C X Y g) (stD T S C X Y d i a) := by
    intro d
    induction d with
    | zero =>
      intro i a hi ha
      refine Ev.dn ?_
      simp only [spec_l18Spots.l0, if_neg (show ¬ (i : Int) < (C.length : Int) by omega)]
      exact Ev.now _
    | succ d ih =>
      intro i a hi ha
      refine Ev.dn ?_
      simp only [spec_l18Spots.l0, if_pos (show (i : Int) < (C.length : Int) by omega)]
      exact spots_inner T S C X Y g h1 h2 h3 h4 e a i _ (by omega) (by omega) (ih (i + 1) _ (by omega) (by simp; omega)) X.length 0 [] (by omega) (by simp) rfl
  exact outer C.length 0 [] (by omega) rfl
theorem fldOk_len {T : List S98} {S : List S103} {C X Y : List Int} {g : Int} (h : fldOk T S C X Y g = true) : T.length ≤ 12 ∧ S.length ≤ 10 ∧ C.length ≤ 4 ∧ X.length ≤ 7 ∧ Y.length = X.length := by
  simp only [fldOk, tblOk, siteOk, Bool.and_eq_true, decide_eq_true_eq] at h
  omega
theorem has_ev (l : List Int) (v : Int) (hn : l.length ≤ 1000000) : Ev (fun k => spec_l01Has.f k l v) (!allD (fun j => decide (rd l (j : Int) ≠ v)) 0 l.length) := by
  have h := Ev.allLoop (l := fun k i => spec_l01Has.l0 k l v i) (n := l.length) (fun j => decide (rd l (j : Int) ≠ v)) true false
    (fun i hi => Evt.all fun k => by
      simp only [spec_l01Has.l0]
      rw [if_pos (show (i : Int) < (l.length : Int) by omega), if_pos (show (0 : Int) ≤ (i : Int) by omega), wrap_succ hi (by omega)]
      by_cases c : rd l (i : Int) = v
      · rw [if_pos c, decide_eq_false (fun h => h c), if_neg (by decide)]
      · rw [if_neg c, decide_eq_true c, if_pos rfl])
    (Evt.all fun k => by
      simp only [spec_l01Has.l0]
      rw [if_neg (by omega)]) l.length 0 (by omega)
  unfold spec_l01Has.f
  refine h.eq ?_
  cases allD (fun j => decide (rd l (j : Int) ≠ v)) 0 l.length <;> rfl
theorem hasB_iff (l : List Int) (v : Int) : (!allD (fun j => decide (rd l (j : Int) ≠ v)) 0 l.length) = true ↔ v ∈ l := by
  rw [Bool.not_eq_true', ← Bool.not_eq_true, allD_iff, List.mem_iff_getElem]
  constructor
  · intro h
    refine Classical.byContradiction fun h2 => h fun j _ hj => decide_eq_true fun e => h2 ⟨j, by omega, ?_⟩
    rw [← e, rd_nat (by omega)]
  · rintro ⟨j, hj, e⟩ h
    have := of_decide_eq_true (h j (by omega) (by omega))
    rw [rd_nat hj] at this
    exact this e
theorem mem_spD (T : List S98) (S : List S103) (X Y : List Int) (c v : Int) : ∀ d j xs, v ∈ spD T S X Y c d j xs ↔ v ∈ xs ∨ ∃ n : Nat, j ≤ n ∧ n < j + d ∧ v = (n : Int) ∧ alw T S c (rd X v) (rd Y v) = true
  | 0, j, xs => by
    simp only [spD]
    exact ⟨Or.inl, fun h => h.elim id (fun ⟨n, h1, h2, _⟩ => by omega)⟩
  | d + 1, j, xs => by
    simp only [spD]
    rw [mem_spD T S X Y c v d (j + 1) _]
    constructor
    · rintro (h | ⟨n, h1, h2, h3⟩)
      · split at h
        · rename_i q
          rcases List.mem_append.1 h with h | h
          · exact Or.inl h
          · obtain rfl := List.mem_singleton.1 h
            exact Or.inr ⟨j, Nat.le_refl _, by omega, rfl, q⟩
        · exact Or.inl h
      · exact Or.inr ⟨n, by omega, by omega, h3⟩
    · rintro (h | ⟨n, h1, h2, h3, h4⟩)
      · refine Or.inl ?_
        split
        · exact List.mem_append.2 (Or.inl h)
        · exact h
      · by_cases e : n = j
        · subst e
          subst h3
          rw [if_pos h4]
          exact Or.inl (by simp)
        · exact Or.inr ⟨n, by omega, by omega, h3, h4⟩
theorem mem_sps (T : List S98) (S : List S103) (X Y : List Int) (c v : Int) (h0 : 0 ≤ v) (h1 : v < (X.length : Int)) : v ∈ sps T S X Y c ↔ alw T S c (rd X v) (rd Y v) = true := by
  unfold sps
  rw [mem_spD]
  constructor
  · rintro (h | ⟨n, _, _, _, h⟩)
    · exact absurd h (by simp)
    · exact h
  · intro h
    exact Or.inr ⟨v.toNat, by omega, by omega, by omega, h⟩
theorem sps_len (T : List S98) (S : List S103) (X Y : List Int) (c : Int) : (sps T S X Y c).length ≤ X.length := by
  have := spD_len T S X Y c X.length 0 []
  simpa [sps] using this
/-- The square of the distance of two spots. -/
def sq2 (X Y : List Int) (a b : Int) : Int := wrap64 ((wrap64 ((wrap64 ((rd X a) - (rd X b))) * (wrap64 ((rd X a) - (rd X b))))) + (wrap64 ((wrap64 ((rd Y a) - (rd Y b))) * (wrap64 ((rd Y a) - (rd Y b))))))
theorem rd_bound {X : List Int} {a b v : Int} (h : allIn X a b = true) (h0 : 0 ≤ v) (h1 : v < (X.length : Int)) : a ≤ rd X v ∧ rd X v ≤ b := by
  obtain ⟨n, rfl⟩ := Int.eq_ofNat_of_zero_le h0
  exact (allIn_iff X a b).1 h n (by omega)
theorem sq2_comm {X Y : List Int} {a b : Int} (hX : allIn X 0 100000 = true) (hY : allIn Y 0 100000 = true) (e : Y.length = X.length) (a0 : 0 ≤ a) (a1 : a < (X.length : Int)) (b0 : 0 ≤ b) (b1 : b < (X.length : Int)) : sq2 X Y a b = sq2 X Y b a := by
  obtain ⟨x1, x2⟩ := rd_bound hX a0 a1
  obtain ⟨x3, x4⟩ := rd_bound hX b0 b1
  obtain ⟨y1, y2⟩ := rd_bound hY a0 (by omega)
  obtain ⟨y3, y4⟩ := rd_bound hY b0 (by omega)
  unfold sq2
  generalize rd X a = p at *
  generalize rd X b = q at *
  generalize rd Y a = s at *
  generalize rd Y b = t at *
  have e1 : wrap64 (p - q) = - wrap64 (q - p) := by rw [wrap_id (by omega) (by omega), wrap_id (by omega) (by omega)]; omega
  have e2 : wrap64 (s - t) = - wrap64 (t - s) := by rw [wrap_id (by omega) (by omega), wrap_id (by omega) (by omega)]; omega
  rw [e1, e2, Int.neg_mul_neg, Int.neg_mul_neg]
theorem rd_take {l : List Int} {i j : Nat} (h : j < i) (hi : i ≤ l.length) : rd (l.take i) (j : Int) = rd l (j : Int) := by
  rw [rd_nat (by rw [List.length_take]; omega), rd_nat (by omega)]
  simp
theorem has_take_ev (l : List Int) (v : Int) (i : Nat) (hi : i ≤ l.length) (hn : l.length ≤ 1000000) : Ev (fun k => spec_l01Has.f k (l.take i) v) (!allD (fun j => decide (rd l (j : Int) ≠ v)) 0 i) := by
  have e : (l.take i).length = i := by rw [List.length_take]; omega
  refine (has_ev (l.take i) v (by omega)).eq ?_
  rw [e]
  congr 1
  exact allD_congr i 0 (fun j _ hj => by rw [rd_take (by omega) hi])
theorem has_sps_ev (T : List S98) (S : List S103) (X Y : List Int) (c v : Int) (hX : X.length ≤ 1000000) (h0 : 0 ≤ v) (h1 : v < (X.length : Int)) : Ev (fun k => spec_l01Has.f k (sps T S X Y c) v) (alw T S c (rd X v) (rd Y v)) := by
  have := sps_len T S X Y c
  refine (has_ev _ v (by omega)).eq ?_
  rw [Bool.eq_iff_iff, hasB_iff, mem_sps T S X Y c v h0 h1]
/-- A spot apart from an earlier one. -/
def apB (X Y l : List Int) (g : Int) (i j : Nat) : Bool := !decide (sq2 X Y (rd l (j : Int)) (rd l (i : Int)) < wrap64 (g * g))
/-- The spot of rack i is allowed, and free of those ahead of it. -/
def okI (T : List S98) (S : List S103) (C X Y : List Int) (g : Int) (l : List Int) (i : Nat) : Bool :=
  alw T S (rd C (i : Int)) (rd X (rd l (i : Int))) (rd Y (rd l (i : Int))) && allD (fun j => decide (rd l (j : Int) ≠ rd l (i : Int))) 0 i && allD (apB X Y l g i) 0 i
theorem is_inner (T : List S98) (S : List S103) (C X Y : List Int) (g : Int) (l : List Int) (e : Y.length = X.length) (hn : l.length ≤ 1000000) (hin : ∀ j : Nat, j < l.length → 0 ≤ rd l (j : Int) ∧ rd l (j : Int) < (X.length : Int)) (L : List (List Int)) (i : Nat) (hi : i < l.length) (R : Bool) :
    ∀ d j, j + d = i → (allD (apB X Y l g i) j d = true → Ev (fun k => spec_l18Is.l0 k l L ((i + 1 : Nat) : Int) T S C X Y g) R) → (allD (apB X Y l g i) j d = false → R = false) → Ev (fun k => spec_l18Is.l1 k l L (i : Int) (j : Int) T S C X Y g) R := by
  obtain ⟨i0, i1⟩ := hin i hi
  have hwi := wrap_succ hi (show l.length ≤ 9223372036854775807 by omega)
  have p0 : (0 : Int) ≤ (i : Int) := by omega
  have p1 : (i : Int) < (l.length : Int) := by omega
  intro d
  induction d with
  | zero =>
    intro j hj h1 h2
    refine Ev.dn ?_
    simp only [spec_l18Is.l1, if_neg (show ¬ (j : Int) < (i : Int) by omega), hwi]
    exact h1 rfl
  | succ d ih =>
    intro j hj h1 h2
    obtain ⟨j0, j1⟩ := hin j (by omega)
    have hwj := wrap_succ (show j < i by omega) (show i ≤ 9223372036854775807 by omega)
    have hq : spec_l18Square.f T S C X Y g (rd l (j : Int)) (rd l (i : Int)) = some (sq2 X Y (rd l (j : Int)) (rd l (i : Int))) := by
      unfold spec_l18Square.f sq2
      rw [if_pos j0, if_pos j1, if_pos i0, if_pos i1, if_pos (by omega), if_pos (by omega)]
    simp only [allD] at h1 h2
    refine Ev.dn ?_
    simp only [spec_l18Is.l1, if_pos (show (j : Int) < (i : Int) by omega), if_pos (show (0 : Int) ≤ (j : Int) by omega), if_pos (show (j : Int) < (l.length : Int) by omega), if_pos p0, if_pos p1, hq, Option.bind_some, hwj]
    by_cases c : sq2 X Y (rd l (j : Int)) (rd l (i : Int)) < wrap64 (g * g)
    · simp only [if_pos c]
      rw [h2 (by unfold apB; rw [decide_eq_true c]; rfl)]
      exact Ev.now _
    · simp only [if_neg c]
      have ha : apB X Y l g i j = true := by unfold apB; rw [decide_eq_false c]; rfl
      rw [ha, Bool.true_and] at h1 h2
      exact ih (j + 1) (by omega) h1 h2
theorem spec_is_ev (T : List S98) (S : List S103) (C X Y : List Int) (g : Int) (l : List Int) (k1 : T.length ≤ 1000000) (k2 : S.length ≤ 1000000) (k3 : C.length ≤ 1000000) (k4 : X.length ≤ 1000000) (e : Y.length = X.length) (hl : l.length = C.length) (hin : ∀ j : Nat, j < l.length → 0 ≤ rd l (j : Int) ∧ rd l (j : Int) < (X.length : Int)) :
    Ev (fun k => spec_l18Is.f k T S C X Y g l) (allD (okI T S C X Y g l) 0 l.length) := by
  have hn : l.length ≤ 1000000 := by omega
  unfold spec_l18Is.f
  refine Ev.bind (spec_spots_ev T S C X Y g k1 k2 k3 k4 e) ?_
  have h := Ev.allLoopQ (l := fun k i => spec_l18Is.l0 k l (sts T S C X Y) i T S C X Y g) (n := l.length) (okI T S C X Y g l) false true
    (fun i hi _ => by
      obtain ⟨i0, i1⟩ := hin i hi
      have main : ∀ r, (okI T S C X Y g l i = true → Ev (fun k => spec_l18Is.l0 k l (sts T S C X Y) ((i + 1 : Nat) : Int) T S C X Y g) r) → (okI T S C X Y g l i = false → r = false) → Ev (fun k => spec_l18Is.l0 k l (sts T S C X Y) (i : Int) T S C X Y g) r := by
        intro r h1 h2
        unfold okI at h1 h2
        refine Ev.dn ?_
        simp only [spec_l18Is.l0, sts_len, if_pos (show (i : Int) < (l.length : Int) by omega), if_pos (show (0 : Int) ≤ (i : Int) by omega), if_pos (show (i : Int) < (C.length : Int) by omega), if_pos (show (i : Int) ≤ (l.length : Int) by omega), Int.toNat_natCast, sts_rd T S C X Y (i : Int) (by omega) (by omega)]
        refine Ev.bind (has_sps_ev T S X Y (rd C (i : Int)) (rd l (i : Int)) k4 i0 i1) ?_
        cases c1 : alw T S (rd C (i : Int)) (rd X (rd l (i : Int))) (rd Y (rd l (i : Int))) with
        | false =>
          simp only [Bool.false_eq_true, if_false]
          refine Ev.dn ?_
          simp only [spec_l18Is.j1, if_true]
          rw [h2 (by rw [c1]; rfl)]
          exact Ev.now _
        | true =>
          rw [c1, Bool.true_and] at h1 h2
          simp only [if_true]
          refine Ev.bind (has_take_ev l (rd l (i : Int)) i (by omega) hn) ?_
          refine Ev.dn ?_
          cases c2 : allD (fun j => decide (rd l (j : Int) ≠ rd l (i : Int))) 0 i with
          | false =>
            simp only [spec_l18Is.j1, Bool.not_false, if_true]
            rw [h2 (by rw [c2]; rfl)]
            exact Ev.now _
          | true =>
            rw [c2, Bool.true_and] at h1 h2
            simp only [spec_l18Is.j1, Bool.not_true, Bool.false_eq_true, if_false]
            exact is_inner T S C X Y g l e hn hin (sts T S C X Y) i hi r i 0 (by omega) h1 h2
      exact ⟨fun hs r hr => main r (fun _ => hr) (fun hf => by rw [hs] at hf; exact absurd hf (by decide)), fun hs => main false (fun ht => by rw [hs] at ht; exact absurd ht (by decide)) (fun _ => rfl)⟩)
    (fun _ => by
      refine Ev.dn ?_
      simp only [spec_l18Is.l0, if_neg (show ¬ (l.length : Int) < (l.length : Int) by omega)]
      exact Ev.now _) l.length 0 (by omega) (fun j hj => by omega)
  refine h.eq ?_
  cases allD (okI T S C X Y g l) 0 l.length <;> rfl
theorem impl_isFree_ev (T : List S98) (S : List S103) (C X Y : List Int) (g : Int) (l : List Int) (k1 : T.length ≤ 1000000) (k2 : S.length ≤ 1000000) (hX : allIn X 0 100000 = true) (hY : allIn Y 0 100000 = true) (e : Y.length = X.length) (hl : l.length = C.length) (hn : l.length ≤ 1000000) (hin : ∀ j : Nat, j < l.length → 0 ≤ rd l (j : Int) ∧ rd l (j : Int) < (X.length : Int)) (i : Nat) (hi : i < l.length) :
    Ev (fun k => impl_isFree.f k T S C X Y g (l.take i) (i : Int) (rd l (i : Int))) (okI T S C X Y g l i) := by
  obtain ⟨i0, i1⟩ := hin i hi
  have eT : (l.take i).length = i := by rw [List.length_take]; omega
  unfold impl_isFree.f
  simp only [if_pos (show (0 : Int) ≤ (i : Int) by omega), if_pos (show (i : Int) < (C.length : Int) by omega), if_pos i0, if_pos i1, if_pos (show rd l (i : Int) < (Y.length : Int) by omega)]
  refine Ev.bind (impl_isAllowed_ev T S _ _ _ k1 k2) ?_
  unfold okI
  cases alw T S (rd C (i : Int)) (rd X (rd l (i : Int))) (rd Y (rd l (i : Int))) with
  | false => simp only [Bool.false_eq_true, if_false, Bool.false_and]; exact Ev.now _
  | true =>
  simp only [if_true, Bool.true_and]
  have h := Ev.allLoop (l := fun k j => impl_isFree.l0 k (rd l (i : Int)) (l.take i) ((l.take i).length : Int) j T S C X Y g) (n := i) (fun j => decide (rd l (j : Int) ≠ rd l (i : Int)) && apB X Y l g i j) false true
    (fun j hj => Evt.all fun k => by
      obtain ⟨j0, j1⟩ := hin j (by omega)
      have hq : wrap64 ((wrap64 ((wrap64 ((rd X (rd l (i : Int))) - (rd X (rd l (j : Int))))) * (wrap64 ((rd X (rd l (i : Int))) - (rd X (rd l (j : Int))))))) + (wrap64 ((wrap64 ((rd Y (rd l (i : Int))) - (rd Y (rd l (j : Int))))) * (wrap64 ((rd Y (rd l (i : Int))) - (rd Y (rd l (j : Int)))))))) = sq2 X Y (rd l (j : Int)) (rd l (i : Int)) := sq2_comm hX hY e i0 i1 j0 j1
      simp only [impl_isFree.l0, eT, rd_take hj (show i ≤ l.length by omega), hq]
      rw [if_pos (show (j : Int) < (i : Int) by omega), if_pos (show (0 : Int) ≤ (j : Int) by omega), if_pos (show (j : Int) < (i : Int) by omega), if_pos i0, if_pos i1, if_pos j0, if_pos j1, if_pos (show rd l (i : Int) < (Y.length : Int) by omega), if_pos (show rd l (j : Int) < (Y.length : Int) by omega), wrap_succ hj (by omega)]
      unfold apB
      by_cases c1 : rd l (i : Int) = rd l (j : Int)
      · have n1 : decide (rd l (j : Int) ≠ rd l (i : Int)) = false := decide_eq_false (fun h => h c1.symm)
        rw [if_pos c1, n1, Bool.false_and]
        rfl
      · have n1 : decide (rd l (j : Int) ≠ rd l (i : Int)) = true := decide_eq_true (fun h => c1 h.symm)
        rw [if_neg c1, n1, Bool.true_and]
        by_cases c2 : sq2 X Y (rd l (j : Int)) (rd l (i : Int)) < wrap64 (g * g)
        · rw [if_pos c2, decide_eq_true c2]
          rfl
        · rw [if_neg c2, decide_eq_false c2]
          rfl)
    (Evt.all fun k => by
      simp only [impl_isFree.l0, eT]
      rw [if_neg (by omega)]) i 0 (by omega)
  refine h.eq ?_
  have key : allD (fun j => decide (rd l (j : Int) ≠ rd l (i : Int)) && apB X Y l g i j) 0 i = (allD (fun j => decide (rd l (j : Int) ≠ rd l (i : Int))) 0 i && allD (apB X Y l g i) 0 i) := by
    rw [Bool.eq_iff_iff, Bool.and_eq_true, allD_iff, allD_iff, allD_iff]
    constructor
    · intro h2
      exact ⟨fun j a b => ((Bool.and_eq_true _ _).mp (h2 j a b)).1, fun j a b => ((Bool.and_eq_true _ _).mp (h2 j a b)).2⟩
    · intro h1 j a b
      exact (Bool.and_eq_true _ _).mpr ⟨h1.1 j a b, h1.2 j a b⟩
  rw [key]
  cases allD (fun j => decide (rd l (j : Int) ≠ rd l (i : Int))) 0 i && allD (apB X Y l g i) 0 i <;> rfl
theorem impl_is_ev (T : List S98) (S : List S103) (C X Y : List Int) (g : Int) (l : List Int) (k1 : T.length ≤ 1000000) (k2 : S.length ≤ 1000000) (hX : allIn X 0 100000 = true) (hY : allIn Y 0 100000 = true) (e : Y.length = X.length) (hl : l.length = C.length) (hn : l.length ≤ 1000000) (hin : ∀ j : Nat, j < l.length → 0 ≤ rd l (j : Int) ∧ rd l (j : Int) < (X.length : Int)) :
    Ev (fun k => impl_isPlacing.f k T S C X Y g l) (allD (okI T S C X Y g l) 0 l.length) := by
  unfold impl_isPlacing.f
  have h := Ev.allLoopQ (l := fun k i => impl_isPlacing.l0 k l l (l.length : Int) i T S C X Y g) (n := l.length) (okI T S C X Y g l) false true
    (fun i hi _ => by
      have hf := impl_isFree_ev T S C X Y g l k1 k2 hX hY e hl hn hin i hi
      have hw := wrap_succ hi (show l.length ≤ 9223372036854775807 by omega)
      refine ⟨fun hs r hr => Ev.dn ?_, fun hs => Ev.dn ?_⟩
      · simp only [impl_isPlacing.l0, if_pos (show (i : Int) < (l.length : Int) by omega), if_pos (show (0 : Int) ≤ (i : Int) by omega), if_pos (show (i : Int) ≤ (l.length : Int) by omega), Int.toNat_natCast, hw]
        refine Ev.bind hf ?_
        simp only [hs, if_true]
        exact hr
      · simp only [impl_isPlacing.l0, if_pos (show (i : Int) < (l.length : Int) by omega), if_pos (show (0 : Int) ≤ (i : Int) by omega), if_pos (show (i : Int) ≤ (l.length : Int) by omega), Int.toNat_natCast, hw]
        refine Ev.bind hf ?_
        simp only [hs, Bool.false_eq_true, if_false]
        exact Ev.now _)
    (fun _ => by
      refine Ev.dn ?_
      simp only [impl_isPlacing.l0, if_neg (show ¬ (l.length : Int) < (l.length : Int) by omega)]
      exact Ev.now _) l.length 0 (by omega) (fun j hj => by omega)
  refine h.eq ?_
  cases allD (okI T S C X Y g l) 0 l.length <;> rfl
/-- The code of a field and a list of spots. -/
def spcd (T : List S98) (S : List S103) (C X Y : List Int) (g : Int) (l : List Int) : Int :=
  if fldOk T S C X Y g = true then (if (decide (l.length = C.length) && allIn l 0 ((X.length : Int) - 1)) = true then 0 else 2) else 1
theorem fldOk_xy {T : List S98} {S : List S103} {C X Y : List Int} {g : Int} (h : fldOk T S C X Y g = true) : allIn X 0 100000 = true ∧ allIn Y 0 100000 = true := by
  simp only [fldOk, Bool.and_eq_true] at h
  exact ⟨h.1.1.2, h.1.2⟩
theorem spec_code_ev (T : List S98) (S : List S103) (C X Y : List Int) (g : Int) (l : List Int) (h1 : T.length ≤ 1000000) (h2 : S.length ≤ 1000000) (h3 : C.length ≤ 1000000) (h4 : X.length ≤ 1000000) (h5 : Y.length ≤ 1000000) (hn : l.length ≤ 1000000) :
    Ev (fun k => spec_l18Code.f k T S C X Y g l) (spcd T S C X Y g l) := by
  unfold spec_l18Code.f spcd
  refine Ev.bind (spec_IsField_ev T S C X Y g h1 h2 h3 h4 h5) ?_
  cases fldOk T S C X Y g with
  | false => simp only [Bool.false_eq_true, if_false]; exact Ev.now _
  | true =>
  simp only [if_true]
  have hw : wrap64 ((X.length : Int) - 1) = (X.length : Int) - 1 := wrap_id (by omega) (by omega)
  have h := Ev.allLoop (l := fun k i => spec_l18Code.l0 k l i T S C X Y g) (n := l.length) (fun j => rin (rd l (j : Int)) 0 ((X.length : Int) - 1)) (2 : Int) (if l.length = C.length then 0 else 2)
    (fun i hi => Evt.all fun k => by
      simp only [spec_l18Code.l0, l01In_eq, Option.bind_some, hw]
      rw [if_pos (show (i : Int) < (l.length : Int) by omega), if_pos (show (0 : Int) ≤ (i : Int) by omega), wrap_succ hi (by omega)])
    (Evt.all fun k => by
      simp only [spec_l18Code.l0]
      rw [if_neg (show ¬ (l.length : Int) < (l.length : Int) by omega)]
      by_cases c : l.length = C.length
      · rw [if_pos (by omega), if_pos c]
      · rw [if_neg (by omega), if_neg c]) l.length 0 (by omega)
  refine h.eq ?_
  unfold allIn
  by_cases c : l.length = C.length <;> cases allD (fun j => rin (rd l (j : Int)) 0 ((X.length : Int) - 1)) 0 l.length <;> simp [c]
theorem impl_areSpots_ev (T : List S98) (S : List S103) (C X Y : List Int) (g : Int) (l : List Int) (h4 : X.length ≤ 1000000) (hn : l.length ≤ 1000000) :
    Ev (fun k => impl_areSpots.f k T S C X Y g l) (decide (l.length = C.length) && allIn l 0 ((X.length : Int) - 1)) := by
  unfold impl_areSpots.f
  rw [wrap_id (x := (X.length : Int) - 1) (by omega) (by omega)]
  by_cases c : l.length = C.length
  · rw [decide_eq_true c, Bool.true_and]
    simp only [if_pos (show (l.length : Int) = (C.length : Int) by omega)]
    exact Ev.bind (allWithin_ev l 0 _ (by omega)) (Ev.now _)
  · rw [decide_eq_false c, Bool.false_and]
    simp only [if_neg (show ¬ (l.length : Int) = (C.length : Int) by omega)]
    exact Ev.now _
theorem sz_eq_neg {n : Nat} {a : Int} (hn : n ≤ 4611686018427387904) (h0 : -4611686018427387904 ≤ a) (h1 : a < 0) : (if (wrap64 (a - (n : Int))) < 0 then (some (-1)) else (some (wrap64 (a - (n : Int))))) = some (-1 : Int) := by
  rw [wrap_id (by omega) (by omega), if_pos (by omega)]
theorem szField_neg (T : List S100) (S : List S105) (C X Y : List Int) (g a : Int) (h1 : T.length ≤ reachBytes) (h2 : S.length ≤ reachBytes) (h3 : C.length ≤ reachBytes) (h4 : X.length ≤ reachBytes) (h5 : Y.length ≤ reachBytes) (h0 : -4611686018427387904 ≤ a) (ha : a < 0) :
    ∃ r, laws_szField.f T S C X Y g a = some r ∧ r < 0 := by
  unfold reachBytes at *
  unfold laws_szField.f laws_szDemandS.f laws_szAreaS.f laws_szInt64S.f
  rw [sz_eq_neg (by omega) h0 ha, Option.bind_some, if_pos (by decide)]
  exact ⟨-1, rfl, by decide⟩
theorem wrap_add3 (s x y : Int) : wrap64 (wrap64 (s + x) + y) = wrap64 (s + wrap64 (x + y)) := by unfold wrap64; omega
/-- The cost of a list of spots, from spot i on. -/
def coD (X Y l : List Int) : Nat → Nat → Int → Int
  | 0, _, s => s
  | d + 1, i, s => coD X Y l d (i + 1) (wrap64 (s + wrap64 (rd X (rd l (i : Int)) + rd Y (rd l (i : Int)))))
theorem cost_ev (T : List S98) (S : List S103) (C X Y : List Int) (g : Int) (l : List Int) (e : Y.length = X.length) (hn : l.length ≤ 1000000) (hin : ∀ j : Nat, j < l.length → 0 ≤ rd l (j : Int) ∧ rd l (j : Int) < (X.length : Int)) : ∀ d i s, i + d = l.length →
    Ev (fun k => spec_l18Cost.l0 k l s (i : Int) T S C X Y g) (coD X Y l d i s) ∧ Ev (fun k => impl_costOf.l0 k s l (l.length : Int) (i : Int) T S C X Y g) (coD X Y l d i s) := by
  intro d
  induction d with
  | zero =>
    intro i s hi
    refine ⟨Ev.dn ?_, Ev.dn ?_⟩
    · simp only [spec_l18Cost.l0, if_neg (show ¬ (i : Int) < (l.length : Int) by omega)]; exact Ev.now _
    · simp only [impl_costOf.l0, if_neg (show ¬ (i : Int) < (l.length : Int) by omega)]; exact Ev.now _
  | succ d ih =>
    intro i s hi
    obtain ⟨i0, i1⟩ := hin i (by omega)
    have hw := wrap_succ (show i < l.length by omega) (show l.length ≤ 9223372036854775807 by omega)
    have h1 := ih (i + 1) (wrap64 (s + wrap64 (rd X (rd l (i : Int)) + rd Y (rd l (i : Int))))) (by omega)
    refine ⟨Ev.dn ?_, Ev.dn ?_⟩
    · simp only [spec_l18Cost.l0, coD, if_pos (show (i : Int) < (l.length : Int) by omega), if_pos (show (0 : Int) ≤ (i : Int) by omega), if_pos i0, if_pos i1, if_pos (show rd l (i : Int) < (Y.length : Int) by omega), hw, wrap_add3]
      exact h1.1
    · simp only [impl_costOf.l0, coD, if_pos (show (i : Int) < (l.length : Int) by omega), if_pos (show (0 : Int) ≤ (i : Int) by omega), if_pos i0, if_pos i1, if_pos (show rd l (i : Int) < (Y.length : Int) by omega), hw]
      exact h1.2
theorem CostOf_both (T : List S98) (S : List S103) (C X Y : List Int) (g : Int) (l : List Int) (h1 : T.length ≤ 1000000) (h2 : S.length ≤ 1000000) (h3 : C.length ≤ 1000000) (h4 : X.length ≤ 1000000) (h5 : Y.length ≤ 1000000) (hn : l.length ≤ 1000000) :
    ∃ r : Int × Int, Ev (fun k => spec_CostOf.f k T S C X Y g l) r ∧ Ev (fun k => impl_CostOf.f k T S C X Y g l) r := by
  have hs := spec_code_ev T S C X Y g l h1 h2 h3 h4 h5 hn
  have hi := impl_IsField_ev T S C X Y g h1 h2 h3 h4 h5
  have ha := impl_areSpots_ev T S C X Y g l h4 hn
  unfold spec_CostOf.f impl_CostOf.f
  unfold spcd at hs
  cases c : fldOk T S C X Y g with
  | false =>
    simp only [c, Bool.false_eq_true, if_false] at hs hi
    refine ⟨(0, 1), Ev.bind hs ?_, Ev.bind hi ?_⟩
    · simp only [if_neg (show ¬ ((1 : Int) = 0) by decide)]
      refine Ev.dn ?_
      simp only [spec_CostOf.j0, Bool.false_eq_true, if_false, if_neg (show ¬ ((1 : Int) = 0) by decide)]
      exact Ev.now _
    · simp only [Bool.false_eq_true, if_false]; exact Ev.now _
  | true =>
    simp only [c, if_true] at hs hi
    obtain ⟨_, _, l3, l4, e⟩ := fldOk_len c
    obtain ⟨hX, hY⟩ := fldOk_xy c
    cases q : decide (l.length = C.length) && allIn l 0 ((X.length : Int) - 1) with
    | false =>
      simp only [q, Bool.false_eq_true, if_false] at hs ha
      refine ⟨(0, 2), Ev.bind hs ?_, Ev.bind hi ?_⟩
      · simp only [if_neg (show ¬ ((2 : Int) = 0) by decide)]
        refine Ev.dn ?_
        simp only [spec_CostOf.j0, Bool.false_eq_true, if_false, if_neg (show ¬ ((2 : Int) = 0) by decide)]
        exact Ev.now _
      · simp only [if_true]
        refine Ev.bind ha ?_
        simp only [Bool.false_eq_true, if_false]; exact Ev.now _
    | true =>
      simp only [q, if_true] at hs ha
      rw [Bool.and_eq_true, decide_eq_true_eq] at q
      obtain ⟨q1, q2⟩ := q
      have hin : ∀ j : Nat, j < l.length → 0 ≤ rd l (j : Int) ∧ rd l (j : Int) < (X.length : Int) := fun j hj => by
        have := (allIn_iff l 0 ((X.length : Int) - 1)).1 q2 j hj
        omega
      have s1 := spec_is_ev T S C X Y g l h1 h2 h3 h4 e q1 hin
      have s2 := impl_is_ev T S C X Y g l h1 h2 hX hY e q1 hn hin
      have co := cost_ev T S C X Y g l e hn hin l.length 0 0 (by omega)
      cases p : allD (okI T S C X Y g l) 0 l.length with
      | false =>
        rw [p] at s1 s2
        refine ⟨(0, 5), Ev.bind hs ?_, Ev.bind hi ?_⟩
        · simp only [if_true]
          refine Ev.bind s1 ?_
          refine Ev.dn ?_
          simp only [spec_CostOf.j0, Bool.not_false, if_true, if_neg (show ¬ ((5 : Int) = 0) by decide)]
          exact Ev.now _
        · simp only [if_true]
          refine Ev.bind ha ?_
          simp only [if_true]
          refine Ev.bind s2 ?_
          simp only [Bool.false_eq_true, if_false]
          exact Ev.now _
      | true =>
        rw [p] at s1 s2
        refine ⟨(coD X Y l l.length 0 0, 0), Ev.bind hs ?_, Ev.bind hi ?_⟩
        · simp only [if_true]
          refine Ev.bind s1 ?_
          refine Ev.dn ?_
          simp only [spec_CostOf.j0, Bool.not_true, Bool.false_eq_true, if_false, if_true]
          unfold spec_l18Cost.f
          exact Ev.bind co.1 (Ev.now _)
        · simp only [if_true]
          refine Ev.bind ha ?_
          simp only [if_true]
          refine Ev.bind s2 ?_
          simp only [if_true]
          unfold impl_costOf.f
          exact Ev.bind co.2 (Ev.now _)
theorem FnExactCostOf : ∀ (x0_0 : List S100) (x0_1 : List S105) (x0_2 : List Int) (x0_3 : List Int) (x0_4 : List Int) (x0_5 : Int) (l1 : List Int), ((x0_0.length ≤ reachBytes ∧ ∀ y ∈ x0_0, ((Lit.int .i64 y.f0).wf = true ∧ (Lit.int .i64 y.f1).wf = true ∧ (Lit.int .i64 y.f2).wf = true)) ∧ (x0_1.length ≤ reachBytes ∧ ∀ y ∈ x0_1, ((Lit.int .i64 y.f0).wf = true ∧ (Lit.int .i64 y.f1).wf = true ∧ (Lit.int .i64 y.f2).wf = true ∧ (Lit.int .i64 y.f3).wf = true ∧ (Lit.int .i64 y.f4).wf = true)) ∧ (x0_2.length ≤ reachBytes ∧ ∀ y ∈ x0_2, (Lit.int .i64 y).wf = true) ∧ (x0_3.length ≤ reachBytes ∧ ∀ y ∈ x0_3, (Lit.int .i64 y).wf = true) ∧ (x0_4.length ≤ reachBytes ∧ ∀ y ∈ x0_4, (Lit.int .i64 y).wf = true) ∧ (Lit.int .i64 x0_5).wf = true) → (l1.length ≤ reachBytes ∧ ∀ y ∈ l1, (Lit.int .i64 y).wf = true) → ∃ k, laws_FnExactCostOf.f k x0_0 x0_1 x0_2 x0_3 x0_4 x0_5 l1 = some true := by
  intro T0 S0 C X Y g l ⟨⟨b1, _⟩, ⟨b2, _⟩, ⟨b3, _⟩, ⟨b4, _⟩, ⟨b5, _⟩, _⟩ ⟨b6, _⟩
  apply Ev.rounds
  unfold laws_FnExactCostOf.f
  have b6' := b6
  unfold reachBytes at b6'
  rw [wrap_id (x := 1000000 - (l.length : Int)) (by omega) (by omega)]
  by_cases hl : l.length ≤ 1000000
  case neg =>
    have : ∃ r : Int, laws_szField.f T0 S0 C X Y g (1000000 - (l.length : Int)) = some r ∧ r < 0 := szField_neg T0 S0 C X Y g _ b1 b2 b3 b4 b5 (by omega) (by omega)
    obtain ⟨r, hr, hr0⟩ := this
    simp only [hr, Option.bind_some, if_pos hr0]
    exact Ev.now _
  obtain ⟨r, hr, hr2⟩ := szField_some T0 S0 C X Y g (1000000 - (l.length : Int)) b1 b2 b3 b4 b5 (by omega) (by omega)
  simp only [hr, Option.bind_some]
  by_cases h : r < 0
  · simp only [if_pos h]; exact Ev.now _
  obtain ⟨h1, h2, h3, h4, h5, _, _⟩ := hr2 h
  simp only [if_neg h, toField_some _ T0 S0 C X Y g _ h1 h2 h3 h4 h5, toInt_some _ l _ hl, Option.bind_some]
  have k1 : (T0.map laws_toDemandS.conv).length ≤ 1000000 := by simpa using h1
  have k2 : (S0.map laws_toAreaS.conv).length ≤ 1000000 := by simpa using h2
  generalize hT : T0.map laws_toDemandS.conv = T at k1
  generalize hS : S0.map laws_toAreaS.conv = S at k2
  obtain ⟨p, p1, p2⟩ := CostOf_both T S C X Y g l k1 k2 h3 h4 h5 hl
  refine Ev.bind p1 (Ev.bind p2 ?_)
  simp only [bne_self_eq_false, if_true]
  refine Ev.dn ?_
  simp only [laws_FnExactCostOf.j0, Bool.false_eq_true, if_false, toField_some _ T0 S0 C X Y g _ h1 h2 h3 h4 h5, toInt_some _ l _ hl, Option.bind_some, hT, hS]
  refine Ev.bind (intactField_refl T S C X Y g k1 k2 h3 h4 h5) ?_
  simp only [if_true]
  refine Ev.bind (intactInt_refl l hl) ?_
  simp only [if_true]
  refine Ev.bind p2 ?_
  simp only [if_true]
  exact Ev.now _
end Go.Proofs.Ytancnecddlbhkaa.Pure
