/- The law FnExactWithoutAreas as a statement over numbers and lists, proved; no condition but the sizes and ranges that every input has. -/
import Derived.Test.YtancnecddlbhkaaF35
import Derived.Test.YtancnecddlbhkaaEv
namespace Go.Proofs.Ytancnecddlbhkaa.Pure
open Go.RowKit Go.Proofs.Ytancnecddlbhkaa.Pall Go.Proofs.YtancnecddlbhkaaW.PrintWords
set_option linter.unusedSimpArgs false
set_option linter.unusedVariables false
def rin (x a b : Int) : Bool := decide (a ≤ x) && decide (x ≤ b)
theorem l01In_eq (x a b : Int) : spec_l01In.f x a b = some (rin x a b) := by
  unfold spec_l01In.f rin
  by_cases h : a ≤ x
  · rw [if_pos h, decide_eq_true h, Bool.true_and]
  · rw [if_neg h, decide_eq_false h, Bool.false_and]
theorem within_eq (x a b : Int) : impl_within.f x a b = some (rin x a b) := by
  unfold impl_within.f rin
  by_cases h : a ≤ x
  · rw [if_pos h, decide_eq_true h, Bool.true_and]
  · rw [if_neg h, decide_eq_false h, Bool.false_and]
theorem rin_iff {x a b : Int} : rin x a b = true ↔ a ≤ x ∧ x ≤ b := by simp [rin]
def allIn (l : List Int) (a b : Int) : Bool := allD (fun j => rin (rd l (j : Int)) a b) 0 l.length
theorem allIn_iff (l : List Int) (a b : Int) : allIn l a b = true ↔ ∀ j : Nat, j < l.length → a ≤ rd l (j : Int) ∧ rd l (j : Int) ≤ b := by
  unfold allIn
  rw [allD_iff]
  simp only [rin_iff]
  exact ⟨fun h j hj => h j (Nat.zero_le _) (by omega), fun h j _ hj => h j (by omega)⟩
theorem allWithin_ev (l : List Int) (a b : Int) (hn : l.length ≤ 9223372036854775807) : Ev (fun k => impl_allWithin.f k l a b) (allIn l a b) := by
  unfold impl_allWithin.f
  have h := Ev.allLoop (l := fun k i => impl_allWithin.l0 k a b l (l.length : Int) i) (n := l.length) (fun j => rin (rd l (j : Int)) a b) false true
    (fun i hi => Evt.all fun k => by
      simp only [impl_allWithin.l0, within_eq, Option.bind_some]
      rw [if_pos (by omega), if_pos (by omega), if_pos (by omega), wrap_succ hi hn])
    (Evt.all fun k => by
      simp only [impl_allWithin.l0]
      rw [if_neg (by omega)]) l.length 0 (by omega)
  refine h.eq ?_
  unfold allIn
  cases allD (fun j => rin (rd l (j : Int)) a b) 0 l.length <;> simp
def szv (n : Nat) (a : Int) : Int := if a < (n : Int) then -1 else a - (n : Int)
theorem sz_eq {n : Nat} {a : Int} (hn : n ≤ 4611686018427387904) (h0 : 0 ≤ a) (h1 : a ≤ 1000000) : (if (wrap64 (a - (n : Int))) < 0 then (some (-1)) else (some (wrap64 (a - (n : Int))))) = some (szv n a) := by
  rw [wrap_id (by omega) (by omega)]
  unfold szv
  by_cases h : a < (n : Int)
  · rw [if_pos (by omega), if_pos h]
  · rw [if_neg (by omega), if_neg h]
theorem szv_ok {n : Nat} {a : Int} (h0 : 0 ≤ a) (h1 : a ≤ 1000000) (h : ¬ szv n a < 0) : n ≤ 1000000 ∧ 0 ≤ szv n a ∧ szv n a ≤ 1000000 := by
  unfold szv at *
  split at h
  · exact absurd (show (-1 : Int) < 0 by decide) h
  · rename_i h2
    rw [if_neg h2]
    omega
theorem eqInt_refl (l : List Int) (hn : l.length ≤ 9223372036854775807) : Ev (fun k => laws_eqInt64S.f k l l) true := by
  unfold laws_eqInt64S.f
  simp only [if_pos rfl]
  have h := Ev.allLoop (l := fun k i => laws_eqInt64S.l0 k l l i) (n := l.length) (fun _ => true) false true
    (fun i hi => Evt.all fun k => by
      simp only [laws_eqInt64S.l0]
      rw [if_pos (by omega), if_pos (by omega), if_pos (by omega), wrap_succ hi hn]
      (try simp))
    (Evt.all fun k => by
      simp only [laws_eqInt64S.l0]
      rw [if_neg (by omega)]) l.length 0 (by omega)
  refine h.eq ?_
  rw [if_pos ((allD_iff _ _ _).2 (fun _ _ _ => rfl))]
theorem eqDemandS_refl (l : List S98) (hn : l.length ≤ 9223372036854775807) : Ev (fun k => laws_eqDemandS.f k l l) true := by
  unfold laws_eqDemandS.f
  simp only [if_pos rfl]
  have h := Ev.allLoop (l := fun k i => laws_eqDemandS.l0 k l l i) (n := l.length) (fun _ => true) false true
    (fun i hi => Evt.all fun k => by
      simp only [laws_eqDemandS.l0, laws_eqDemand.f]
      rw [if_pos (by omega), if_pos (by omega), if_pos (by omega), wrap_succ hi hn]
      (try simp))
    (Evt.all fun k => by
      simp only [laws_eqDemandS.l0]
      rw [if_neg (by omega)]) l.length 0 (by omega)
  refine h.eq ?_
  rw [if_pos ((allD_iff _ _ _).2 (fun _ _ _ => rfl))]
theorem intactDemandS_refl (l : List S98) (hn : l.length ≤ 1000000) : Ev (fun k => laws_intactDemandS.f k l l) true := by
  unfold laws_intactDemandS.f
  simp only [if_pos rfl]
  exact eqDemandS_refl _ (full_le l hn)
theorem toDemandS_some (k : Nat) (l : List S100) (b : Bool) (hn : l.length ≤ 1000000) : laws_toDemandS.f k l b = some (l.map laws_toDemandS.conv) := by
  unfold laws_toDemandS.f
  rw [if_pos hn]
theorem eqAreaS_refl (l : List S103) (hn : l.length ≤ 9223372036854775807) : Ev (fun k => laws_eqAreaS.f k l l) true := by
  unfold laws_eqAreaS.f
  simp only [if_pos rfl]
  have h := Ev.allLoop (l := fun k i => laws_eqAreaS.l0 k l l i) (n := l.length) (fun _ => true) false true
    (fun i hi => Evt.all fun k => by
      simp only [laws_eqAreaS.l0, laws_eqArea.f]
      rw [if_pos (by omega), if_pos (by omega), if_pos (by omega), wrap_succ hi hn]
      (try simp))
    (Evt.all fun k => by
      simp only [laws_eqAreaS.l0]
      rw [if_neg (by omega)]) l.length 0 (by omega)
  refine h.eq ?_
  rw [if_pos ((allD_iff _ _ _).2 (fun _ _ _ => rfl))]
theorem intactAreaS_refl (l : List S103) (hn : l.length ≤ 1000000) : Ev (fun k => laws_intactAreaS.f k l l) true := by
  unfold laws_intactAreaS.f
  simp only [if_pos rfl]
  exact eqAreaS_refl _ (full_le l hn)
theorem toAreaS_some (k : Nat) (l : List S105) (b : Bool) (hn : l.length ≤ 1000000) : laws_toAreaS.f k l b = some (l.map laws_toAreaS.conv) := by
  unfold laws_toAreaS.f
  rw [if_pos hn]
def ordB (l : List S98) (i j : Nat) : Bool :=
  decide ((rd_T98 l (i : Int)).f0 < (rd_T98 l (j : Int)).f0) || (decide ((rd_T98 l (i : Int)).f0 = (rd_T98 l (j : Int)).f0) && decide ((rd_T98 l (i : Int)).f1 < (rd_T98 l (j : Int)).f1) && decide ((rd_T98 l (i : Int)).f2 ≤ (rd_T98 l (j : Int)).f2))
def tbB (l : List S98) (j : Nat) : Bool :=
  rin (rd_T98 l (j : Int)).f0 0 3 && rin (rd_T98 l (j : Int)).f1 20 300 && rin (rd_T98 l (j : Int)).f2 0 10000 && (decide (j = 0) || ordB l (j - 1) j)
def tblOk (l : List S98) : Bool := allD (tbB l) 0 l.length && decide (l.length ≤ 12)
theorem spec_IsTable_ev (l : List S98) (hn : l.length ≤ 1000000) : Ev (fun k => spec_IsTable.f k l) (tblOk l) := by
  have h := Ev.allLoopQ (l := fun k i => spec_IsTable.l0 k l i) (n := l.length) (tbB l) false (decide (l.length ≤ 12))
    (fun i hi _ => by
      have main : ∀ r, (tbB l i = true → Ev (fun k => spec_IsTable.l0 k l ((i + 1 : Nat) : Int)) r) → (tbB l i = false → r = false) → Ev (fun k => spec_IsTable.l0 k l (i : Int)) r := by
        intro r h1 h2
        have hbad : ∀ x y z, tbB l i = false → Ev (fun k => spec_IsTable.j1 k l (i : Int) true x y z) r := fun x y z hb => Ev.dn (by
          rw [h2 hb]; simp only [spec_IsTable.j1, if_true]; exact Ev.now _)
        refine Ev.dn ?_
        simp only [spec_IsTable.l0, l01In_eq, Option.bind_some, if_pos (show (i : Int) < (l.length : Int) by omega), if_pos (show (0 : Int) ≤ (i : Int) by omega)]
        cases c0 : rin (rd_T98 l (i : Int)).f0 0 3 with
        | false => simp only [Bool.false_eq_true, if_false]; exact hbad _ _ _ (by simp [tbB, c0])
        | true =>
        simp only [if_true]
        cases c1 : rin (rd_T98 l (i : Int)).f1 20 300 with
        | false => simp only [Bool.false_eq_true, if_false]; exact hbad _ _ _ (by simp [tbB, c1])
        | true =>
        simp only [if_true]
        cases c2 : rin (rd_T98 l (i : Int)).f2 0 10000 with
        | false => simp only [Bool.not_false]; exact hbad _ _ _ (by simp [tbB, c2])
        | true =>
        simp only [Bool.not_true]
        refine Ev.dn ?_
        simp only [spec_IsTable.j1, Bool.false_eq_true, if_false]
        by_cases h0 : i = 0
        · simp only [if_neg (show ¬ (i : Int) > 0 by omega), wrap_succ hi (show l.length ≤ 9223372036854775807 by omega)]
          exact h1 (by unfold tbB; rw [c0, c1, c2, decide_eq_true h0]; rfl)
        · have hp : wrap64 ((i : Int) - 1) = ((i - 1 : Nat) : Int) := wrap_pred hi (by omega) (by omega)
          simp only [if_pos (show (i : Int) > 0 by omega), hp, if_pos (show (0 : Int) ≤ ((i - 1 : Nat) : Int) by omega), if_pos (show ((i - 1 : Nat) : Int) < (l.length : Int) by omega), spec_l16Before.f, wrap_succ hi (show l.length ≤ 9223372036854775807 by omega)]
          have ht : tbB l i = ordB l (i - 1) i := by simp [tbB, c0, c1, c2, h0]
          rw [ht] at h1 h2
          unfold ordB at h1 h2
          generalize rd_T98 l ((i - 1 : Nat) : Int) = p at h1 h2 ⊢
          generalize rd_T98 l (i : Int) = q at h1 h2 ⊢
          by_cases d0 : p.f0 < q.f0
          · have d1 : ¬ p.f0 = q.f0 := by omega
            simp only [if_pos d0, Option.bind_some, if_true, if_neg d1]
            exact h1 (by simp [d0])
          · by_cases d1 : p.f0 = q.f0
            · simp only [if_neg d0, if_pos d1, Option.bind_some]
              by_cases d2 : p.f1 < q.f1
              · simp only [decide_eq_true d2, if_true]
                by_cases d3 : p.f2 > q.f2
                · simp only [if_pos d3]
                  rw [h2 (by simp [d0, d1, d2]; omega)]
                  exact Ev.now _
                · simp only [if_neg d3]
                  exact h1 (by simp [d0, d1, d2]; omega)
              · simp only [decide_eq_false d2, Bool.false_eq_true, if_false]
                rw [h2 (by simp [d0, d1, d2])]
                exact Ev.now _
            · simp only [if_neg d0, if_neg d1, Option.bind_some, Bool.false_eq_true, if_false]
              rw [h2 (by simp [d0, d1])]
              exact Ev.now _
      exact ⟨fun hs r hr => main r (fun _ => hr) (fun hf => by rw [hs] at hf; exact absurd hf (by decide)), fun hs => main false (fun ht => by rw [hs] at ht; exact absurd ht (by decide)) (fun _ => rfl)⟩)
    (fun _ => by
      refine Ev.dn ?_
      simp only [spec_IsTable.l0, if_neg (show ¬ (l.length : Int) < (l.length : Int) by omega)]
      have e : decide ((l.length : Int) ≤ 12) = decide (l.length ≤ 12) := decide_eq_decide.2 (by omega)
      rw [e]
      exact Ev.now _) l.length 0 (by omega) (fun j hj => by omega)
  refine h.eq ?_
  unfold tblOk
  cases allD (tbB l) 0 l.length <;> simp
theorem impl_IsTable_ev (l : List S98) (hn : l.length ≤ 1000000) : Ev (fun k => impl_IsTable.f k l) (tblOk l) := by
  unfold impl_IsTable.f
  by_cases hl : (l.length : Int) > 12
  · simp only [if_pos hl]
    refine (Ev.now false).eq ?_
    unfold tblOk
    rw [decide_eq_false (by omega), Bool.and_false]
  simp only [if_neg hl]
  have h := Ev.allLoopQ (l := fun k i => impl_IsTable.l0 k l l (l.length : Int) i) (n := l.length) (tbB l) false true
    (fun i hi _ => by
      have main : ∀ r, (tbB l i = true → Ev (fun k => impl_IsTable.l0 k l l (l.length : Int) ((i + 1 : Nat) : Int)) r) → (tbB l i = false → r = false) → Ev (fun k => impl_IsTable.l0 k l l (l.length : Int) (i : Int)) r := by
        intro r h1 h2
        have hbad : ∀ x y z, tbB l i = false → Ev (fun k => impl_IsTable.j1 k l (i : Int) l (l.length : Int) (i : Int) true x y z) r := fun x y z hb => Ev.dn (by
          rw [h2 hb]; simp only [impl_IsTable.j1, if_true]; exact Ev.now _)
        refine Ev.dn ?_
        simp only [impl_IsTable.l0, impl_isKind.f, impl_isCalibre.f, within_eq, Option.bind_some, if_pos (show (i : Int) < (l.length : Int) by omega), if_pos (show (0 : Int) ≤ (i : Int) by omega)]
        cases c0 : rin (rd_T98 l (i : Int)).f0 0 3 with
        | false => simp only [Bool.false_eq_true, if_false]; exact hbad _ _ _ (by simp [tbB, c0])
        | true =>
        simp only [if_true]
        cases c1 : rin (rd_T98 l (i : Int)).f1 20 300 with
        | false => simp only [Bool.false_eq_true, if_false]; exact hbad _ _ _ (by simp [tbB, c1])
        | true =>
        simp only [if_true]
        cases c2 : rin (rd_T98 l (i : Int)).f2 0 10000 with
        | false => simp only [Bool.not_false]; exact hbad _ _ _ (by simp [tbB, c2])
        | true =>
        simp only [Bool.not_true]
        refine Ev.dn ?_
        simp only [impl_IsTable.j1, Bool.false_eq_true, if_false]
        by_cases h0 : i = 0
        · simp only [if_pos (show (i : Int) = 0 by omega), wrap_succ hi (show l.length ≤ 9223372036854775807 by omega)]
          exact h1 (by unfold tbB; rw [c0, c1, c2, decide_eq_true h0]; rfl)
        · have hp : wrap64 ((i : Int) - 1) = ((i - 1 : Nat) : Int) := wrap_pred hi (by omega) (by omega)
          simp only [if_neg (show ¬ (i : Int) = 0 by omega), hp, if_pos (show (0 : Int) ≤ ((i - 1 : Nat) : Int) by omega), if_pos (show ((i - 1 : Nat) : Int) < (l.length : Int) by omega), wrap_succ hi (show l.length ≤ 9223372036854775807 by omega)]
          have ht : tbB l i = ordB l (i - 1) i := by simp [tbB, c0, c1, c2, h0]
          rw [ht] at h1 h2
          unfold ordB at h1 h2
          generalize rd_T98 l ((i - 1 : Nat) : Int) = p at h1 h2 ⊢
          generalize rd_T98 l (i : Int) = q at h1 h2 ⊢
          by_cases d0 : p.f0 > q.f0
          · simp only [if_pos d0]
            rw [h2 (by simp; omega)]
            exact Ev.now _
          · simp only [if_neg d0]
            by_cases d1 : p.f0 = q.f0
            · simp only [if_pos d1]
              by_cases d2 : p.f1 ≥ q.f1
              · simp only [if_pos d2]
                rw [h2 (by simp; omega)]
                exact Ev.now _
              · simp only [if_neg d2]
                by_cases d3 : p.f2 > q.f2
                · simp only [if_pos d3]
                  rw [h2 (by simp; omega)]
                  exact Ev.now _
                · simp only [if_neg d3]
                  exact h1 (by simp; omega)
            · simp only [if_neg d1]
              exact h1 (by simp; omega)
      exact ⟨fun hs r hr => main r (fun _ => hr) (fun hf => by rw [hs] at hf; exact absurd hf (by decide)), fun hs => main false (fun ht => by rw [hs] at ht; exact absurd ht (by decide)) (fun _ => rfl)⟩)
    (fun _ => by
      refine Ev.dn ?_
      simp only [impl_IsTable.l0, if_neg (show ¬ (l.length : Int) < (l.length : Int) by omega)]
      exact Ev.now _) l.length 0 (by omega) (fun j hj => by omega)
  refine h.eq ?_
  unfold tblOk
  rw [decide_eq_true (by omega : l.length ≤ 12), Bool.and_true]
  cases allD (tbB l) 0 l.length <;> simp
def arB (x : S103) : Bool := rin x.f0 0 3 && (rin x.f1 0 100000 && rin x.f2 0 100000) && rin x.f3 1 (100000 - x.f1) && rin x.f4 1 (100000 - x.f2)
theorem spec_IsArea_eq (x : S103) : spec_IsArea.f x.f0 x.f1 x.f2 x.f3 x.f4 = some (arB x) := by
  unfold spec_IsArea.f spec_l15Place.f arB
  simp only [l01In_eq, Option.bind_some]
  cases rin x.f0 0 3 with
  | false => simp
  | true =>
    cases h1 : rin x.f1 0 100000 with
    | false => simp
    | true =>
      cases h2 : rin x.f2 0 100000 with
      | false => simp
      | true =>
        have e1 := rin_iff.1 h1
        have e2 := rin_iff.1 h2
        rw [wrap_id (x := 100000 - x.f1) (by omega) (by omega), wrap_id (x := 100000 - x.f2) (by omega) (by omega)]
        cases rin x.f3 1 (100000 - x.f1) <;> simp
theorem impl_IsArea_eq (x : S103) : impl_IsArea.f x.f0 x.f1 x.f2 x.f3 x.f4 = some (arB x) := by
  unfold impl_IsArea.f impl_isKind.f impl_isPlace.f arB
  simp only [within_eq, Option.bind_some]
  cases rin x.f0 0 3 with
  | false => simp
  | true =>
    cases h1 : rin x.f1 0 100000 with
    | false => simp
    | true =>
      cases h2 : rin x.f2 0 100000 with
      | false => simp
      | true =>
        have e1 := rin_iff.1 h1
        have e2 := rin_iff.1 h2
        simp only [if_true]
        rw [wrap_id (x := 100000 - x.f1) (by omega) (by omega), wrap_id (x := 100000 - x.f2) (by omega) (by omega)]
        cases rin x.f3 1 (100000 - x.f1) <;> simp
def siteOk (l : List S103) : Bool := allD (fun j => arB (rd_T103 l (j : Int))) 0 l.length && decide (l.length ≤ 10)
theorem spec_IsSite_ev (l : List S103) (hn : l.length ≤ 1000000) : Ev (fun k => spec_IsSite.f k l) (siteOk l) := by
  have h := Ev.allLoop (l := fun k i => spec_IsSite.l0 k l i) (n := l.length) (fun j => arB (rd_T103 l (j : Int))) false (decide (l.length ≤ 10))
    (fun i hi => Evt.all fun k => by
      simp only [spec_IsSite.l0, spec_IsArea_eq, Option.bind_some]
      rw [if_pos (by omega), if_pos (by omega), wrap_succ hi (by omega)])
    (Evt.all fun k => by
      simp only [spec_IsSite.l0]
      rw [if_neg (by omega)]
      congr 1
      exact decide_eq_decide.2 (by omega)) l.length 0 (by omega)
  refine h.eq ?_
  unfold siteOk
  cases allD (fun j => arB (rd_T103 l (j : Int))) 0 l.length <;> simp
theorem impl_IsSite_ev (l : List S103) (hn : l.length ≤ 1000000) : Ev (fun k => impl_IsSite.f k l) (siteOk l) := by
  unfold impl_IsSite.f
  by_cases hl : (l.length : Int) > 10
  · simp only [if_pos hl]
    refine (Ev.now false).eq ?_
    unfold siteOk
    rw [decide_eq_false (by omega), Bool.and_false]
  simp only [if_neg hl]
  have h := Ev.allLoop (l := fun k i => impl_IsSite.l0 k l (l.length : Int) i) (n := l.length) (fun j => arB (rd_T103 l (j : Int))) false true
    (fun i hi => Evt.all fun k => by
      simp only [impl_IsSite.l0, impl_IsArea_eq, Option.bind_some]
      rw [if_pos (by omega), if_pos (by omega), if_pos (by omega), wrap_succ hi (by omega)])
    (Evt.all fun k => by
      simp only [impl_IsSite.l0]
      rw [if_neg (by omega)]) l.length 0 (by omega)
  refine h.eq ?_
  unfold siteOk
  rw [decide_eq_true (by omega : l.length ≤ 10), Bool.and_true]
  cases allD (fun j => arB (rd_T103 l (j : Int))) 0 l.length <;> simp
def fldOk (T : List S98) (S : List S103) (C X Y : List Int) (g : Int) : Bool :=
  tblOk T && siteOk S && decide (C.length ≤ 4) && allIn C 20 300 && decide (X.length ≤ 7) && decide (Y.length = X.length) && allIn X 0 100000 && allIn Y 0 100000 && rin g 0 10000
theorem impl_IsField_ev (T : List S98) (S : List S103) (C X Y : List Int) (g : Int) (h1 : T.length ≤ 1000000) (h2 : S.length ≤ 1000000) (h3 : C.length ≤ 1000000) (h4 : X.length ≤ 1000000) (h5 : Y.length ≤ 1000000) :
    Ev (fun k => impl_IsField.f k T S C X Y g) (fldOk T S C X Y g) := by
  unfold impl_IsField.f fldOk
  refine Ev.bind (impl_IsTable_ev T h1) ?_
  cases tblOk T with
  | false => simp only [Bool.false_eq_true, if_false, Bool.false_and]; exact Ev.now _
  | true =>
  simp only [if_true, Bool.true_and]
  refine Ev.bind (impl_IsSite_ev S h2) ?_
  cases siteOk S with
  | false => simp only [Bool.false_eq_true, if_false, Bool.false_and]; exact Ev.now _
  | true =>
  simp only [if_true, Bool.true_and]
  by_cases c1 : C.length ≤ 4
  case neg => simp only [if_neg (show ¬ (C.length : Int) ≤ 4 by omega), decide_eq_false c1, Bool.false_and]; exact Ev.now _
  simp only [if_pos (show (C.length : Int) ≤ 4 by omega), decide_eq_true c1, Bool.true_and]
  refine Ev.bind (allWithin_ev C 20 300 (by omega)) ?_
  cases allIn C 20 300 with
  | false => simp only [Bool.false_eq_true, if_false, Bool.false_and]; exact Ev.now _
  | true =>
  simp only [if_true, Bool.true_and]
  by_cases c2 : X.length ≤ 7
  case neg => simp only [if_neg (show ¬ (X.length : Int) ≤ 7 by omega), decide_eq_false c2, Bool.false_and]; exact Ev.now _
  simp only [if_pos (show (X.length : Int) ≤ 7 by omega), decide_eq_true c2, Bool.true_and]
  by_cases c3 : Y.length = X.length
  case neg => simp only [if_neg (show ¬ (Y.length : Int) = (X.length : Int) by omega), decide_eq_false c3, Bool.false_and]; exact Ev.now _
  simp only [if_pos (show (Y.length : Int) = (X.length : Int) by omega), decide_eq_true c3, Bool.true_and]
  refine Ev.bind (allWithin_ev X 0 100000 (by omega)) ?_
  cases allIn X 0 100000 with
  | false => simp only [Bool.false_eq_true, if_false, Bool.false_and]; exact Ev.now _
  | true =>
  simp only [if_true, Bool.true_and]
  refine Ev.bind (allWithin_ev Y 0 100000 (by omega)) ?_
  cases allIn Y 0 100000 with
  | false => simp only [Bool.false_eq_true, if_false, Bool.false_and]; exact Ev.now _
  | true =>
  simp only [if_true, Bool.true_and, within_eq, Option.bind_some]
  exact Ev.now _
theorem spec_IsField_ev (T : List S98) (S : List S103) (C X Y : List Int) (g : Int) (h1 : T.length ≤ 1000000) (h2 : S.length ≤ 1000000) (h3 : C.length ≤ 1000000) (h4 : X.length ≤ 1000000) (h5 : Y.length ≤ 1000000) :
    Ev (fun k => spec_IsField.f k T S C X Y g) (fldOk T S C X Y g) := by
  have hend : Ev (fun k => ((spec_IsTable.f k T).bind fun t1285 => (if t1285 = true then ((spec_IsSite.f k S).bind fun t1286 => (if t1286 = true then ((spec_l01In.f g 0 10000).bind fun t1287 => (some t1287)) else (some false))) else (some false)))) (tblOk T && siteOk S && rin g 0 10000) := by
    refine Ev.bind (spec_IsTable_ev T h1) ?_
    cases tblOk T with
    | false => simp only [Bool.false_eq_true, if_false, Bool.false_and]; exact Ev.now _
    | true =>
    simp only [if_true, Bool.true_and]
    refine Ev.bind (spec_IsSite_ev S h2) ?_
    cases siteOk S with
    | false => simp only [Bool.false_eq_true, if_false, Bool.false_and]; exact Ev.now _
    | true =>
    simp only [if_true, Bool.true_and, l01In_eq, Option.bind_some]
    exact Ev.now _
  have hxy : Y.length = X.length → Ev (fun k => spec_IsField.l1 k 0 T S C X Y g) (allIn X 0 100000 && allIn Y 0 100000 && (tblOk T && siteOk S && rin g 0 10000)) := by
    intro hl
    have h := Ev.allLoopQ (l := fun k i => spec_IsField.l1 k i T S C X Y g) (n := X.length) (fun j => rin (rd X (j : Int)) 0 100000 && rin (rd Y (j : Int)) 0 100000) false (tblOk T && siteOk S && rin g 0 10000)
      (fun i hi _ => by
        refine ⟨fun hs r hr => Ev.dn (Ev.eq' hr (fun k => ?_)), fun hs => Ev.dn (Ev.eq' (f := fun _ => some false) (Ev.now _) (fun k => ?_))⟩
        · simp only [Bool.and_eq_true] at hs
          simp only [spec_IsField.l1, spec_l15Place.f, l01In_eq, Option.bind_some, hs.1, hs.2, if_true]
          rw [if_pos (show (i : Int) < (X.length : Int) by omega), if_pos (show (0 : Int) ≤ (i : Int) by omega), if_pos (show (i : Int) < (Y.length : Int) by omega), wrap_succ hi (by omega)]
        · simp only [spec_IsField.l1, spec_l15Place.f, l01In_eq, Option.bind_some]
          rw [if_pos (show (i : Int) < (X.length : Int) by omega), if_pos (show (0 : Int) ≤ (i : Int) by omega), if_pos (show (i : Int) < (Y.length : Int) by omega)]
          cases c : rin (rd X (i : Int)) 0 100000 with
          | false => simp
          | true => rw [c, Bool.true_and] at hs; simp [hs])
      (fun _ => by
        refine Ev.dn ?_
        simp only [spec_IsField.l1, if_neg (show ¬ (X.length : Int) < (X.length : Int) by omega)]
        exact hend) X.length 0 (by omega) (fun j hj => by omega)
    refine h.eq ?_
    have e : allD (fun j => rin (rd X (j : Int)) 0 100000 && rin (rd Y (j : Int)) 0 100000) 0 X.length = (allIn X 0 100000 && allIn Y 0 100000) := by
      rw [Bool.eq_iff_iff, Bool.and_eq_true, allIn_iff, allIn_iff, allD_iff]
      simp only [Bool.and_eq_true, rin_iff, hl]
      exact ⟨fun h => ⟨fun j hj => (h j (by omega) (by omega)).1, fun j hj => (h j (by omega) (by omega)).2⟩, fun h j _ hj => ⟨h.1 j (by omega), h.2 j (by omega)⟩⟩
    rw [e]
    cases allIn X 0 100000 && allIn Y 0 100000 <;> simp
  have hj : ∀ b, Ev (fun k => spec_IsField.j1 k b T S C X Y g) (if b = true then false else (if Y.length = X.length then (allIn X 0 100000 && allIn Y 0 100000 && (tblOk T && siteOk S && rin g 0 10000)) else false)) ∨ (b = false ∧ ¬ Y.length = X.length) := by
    intro b
    cases b with
    | true => exact Or.inl (Ev.dn (by simp only [spec_IsField.j1, if_true]; exact Ev.now _))
    | false =>
      by_cases hl : Y.length = X.length
      · refine Or.inl (Ev.dn ?_)
        simp only [spec_IsField.j1, Bool.false_eq_true, if_false, if_pos hl]
        exact hxy hl
      · exact Or.inr ⟨rfl, hl⟩
  have h := Ev.allLoopQ (l := fun k i => spec_IsField.l0 k i T S C X Y g) (n := C.length) (fun j => rin (rd C (j : Int)) 20 300) false (decide (C.length ≤ 4) && decide (X.length ≤ 7) && decide (Y.length = X.length) && (allIn X 0 100000 && allIn Y 0 100000 && (tblOk T && siteOk S && rin g 0 10000)))
    (fun i hi _ => by
      refine ⟨fun hs r hr => Ev.dn (Ev.eq' hr (fun k => ?_)), fun hs => Ev.dn (Ev.eq' (f := fun _ => some false) (Ev.now _) (fun k => ?_))⟩
      · simp only [spec_IsField.l0, l01In_eq, Option.bind_some, hs, if_true]
        rw [if_pos (show (i : Int) < (C.length : Int) by omega), if_pos (show (0 : Int) ≤ (i : Int) by omega), wrap_succ hi (by omega)]
      · simp only [spec_IsField.l0, l01In_eq, Option.bind_some, hs]
        rw [if_pos (show (i : Int) < (C.length : Int) by omega), if_pos (show (0 : Int) ≤ (i : Int) by omega)]
        rfl)
    (fun _ => by
      refine Ev.dn ?_
      simp only [spec_IsField.l0, if_neg (show ¬ (C.length : Int) < (C.length : Int) by omega)]
      have hjt := (hj true).resolve_right (fun h => by simp at h)
      by_cases c1 : Y.length = X.length
      · have hjf := (hj false).resolve_right (fun h => h.2 c1)
        simp only [if_pos (show (X.length : Int) = (Y.length : Int) by omega)]
        by_cases c2 : X.length ≤ 7
        · simp only [if_neg (show ¬ (X.length : Int) > 7 by omega)]
          by_cases c3 : C.length ≤ 4
          · rw [decide_eq_false (show ¬ (C.length : Int) > 4 by omega)]
            refine hjf.eq ?_
            simp [c1, c2, c3]
          · rw [decide_eq_true (show (C.length : Int) > 4 by omega)]
            refine hjt.eq ?_
            simp [c3]
        · simp only [if_pos (show (X.length : Int) > 7 by omega)]
          refine hjt.eq ?_
          simp [c2]
      · simp only [if_neg (show ¬ (X.length : Int) = (Y.length : Int) by omega)]
        refine hjt.eq ?_
        simp [c1]) C.length 0 (by omega) (fun j hj => by omega)
  refine h.eq ?_
  unfold fldOk
  rw [show allD (fun j => rin (rd C (j : Int)) 20 300) 0 C.length = allIn C 20 300 from rfl]
  generalize tblOk T = b1
  generalize siteOk S = b2
  generalize decide (C.length ≤ 4) = b3
  generalize allIn C 20 300 = b4
  generalize decide (X.length ≤ 7) = b5
  generalize decide (Y.length = X.length) = b6
  generalize allIn X 0 100000 = b7
  generalize allIn Y 0 100000 = b8
  generalize rin g 0 10000 = b9
  cases b1 <;> cases b2 <;> cases b3 <;> cases b4 <;> cases b5 <;> cases b6 <;> cases b7 <;> cases b8 <;> rfl
theorem intactInt_refl (l : List Int) (hn : l.length ≤ 1000000) : Ev (fun k => laws_intactInt64S.f k l l) true := by
  unfold laws_intactInt64S.f
  simp only [if_pos rfl]
  exact eqInt_refl _ (full_le l hn)
theorem toInt_some (k : Nat) (l : List Int) (b : Bool) (hn : l.length ≤ 1000000) : laws_toInt64S.f k l b = some l := by
  unfold laws_toInt64S.f
  rw [if_pos hn]
theorem szField_some (T : List S100) (S : List S105) (C X Y : List Int) (g a : Int) (h1 : T.length ≤ reachBytes) (h2 : S.length ≤ reachBytes) (h3 : C.length ≤ reachBytes) (h4 : X.length ≤ reachBytes) (h5 : Y.length ≤ reachBytes) (h0 : 0 ≤ a) (ha : a ≤ 1000000) :
    ∃ r, laws_szField.f T S C X Y g a = some r ∧ (¬ r < 0 → T.length ≤ 1000000 ∧ S.length ≤ 1000000 ∧ C.length ≤ 1000000 ∧ X.length ≤ 1000000 ∧ Y.length ≤ 1000000 ∧ 0 ≤ r ∧ r ≤ 1000000) := by
  unfold reachBytes at *
  unfold laws_szField.f laws_szDemandS.f laws_szAreaS.f laws_szInt64S.f
  have bad : ∃ r : Int, some (-1 : Int) = some r ∧ (¬ r < 0 → T.length ≤ 1000000 ∧ S.length ≤ 1000000 ∧ C.length ≤ 1000000 ∧ X.length ≤ 1000000 ∧ Y.length ≤ 1000000 ∧ 0 ≤ r ∧ r ≤ 1000000) := ⟨-1, rfl, fun h => absurd (show (-1 : Int) < 0 by decide) h⟩
  rw [sz_eq (by omega) h0 ha, Option.bind_some]
  by_cases c1 : szv T.length a < 0
  · rw [if_pos c1]; exact bad
  rw [if_neg c1]
  obtain ⟨k1, l1, u1⟩ := szv_ok h0 ha c1
  generalize szv T.length a = a1 at l1 u1
  rw [sz_eq (by omega) l1 u1, Option.bind_some]
  by_cases c2 : szv S.length a1 < 0
  · rw [if_pos c2]; exact bad
  rw [if_neg c2]
  obtain ⟨k2, l2, u2⟩ := szv_ok l1 u1 c2
  generalize szv S.length a1 = a2 at l2 u2
  rw [sz_eq (by omega) l2 u2, Option.bind_some]
  by_cases c3 : szv C.length a2 < 0
  · rw [if_pos c3]; exact bad
  rw [if_neg c3]
  obtain ⟨k3, l3, u3⟩ := szv_ok l2 u2 c3
  generalize szv C.length a2 = a3 at l3 u3
  rw [sz_eq (by omega) l3 u3, Option.bind_some]
  by_cases c4 : szv X.length a3 < 0
  · rw [if_pos c4]; exact bad
  rw [if_neg c4]
  obtain ⟨k4, l4, u4⟩ := szv_ok l3 u3 c4
  generalize szv X.length a3 = a4 at l4 u4
  rw [sz_eq (by omega) l4 u4, Option.bind_some]
  by_cases c5 : szv Y.length a4 < 0
  · rw [if_pos c5]; exact bad
  rw [if_neg c5]
  obtain ⟨k5, l5, u5⟩ := szv_ok l4 u4 c5
  exact ⟨_, rfl, fun _ => ⟨k1, k2, k3, k4, k5, l5, u5⟩⟩
theorem toField_some (k : Nat) (T : List S100) (S : List S105) (C X Y : List Int) (g : Int) (b : Bool) (h1 : T.length ≤ 1000000) (h2 : S.length ≤ 1000000) (h3 : C.length ≤ 1000000) (h4 : X.length ≤ 1000000) (h5 : Y.length ≤ 1000000) :
    laws_toField.f k T S C X Y g b = some (T.map laws_toDemandS.conv, S.map laws_toAreaS.conv, C, X, Y, g) := by
  unfold laws_toField.f
  simp only [toDemandS_some _ T _ h1, toAreaS_some _ S _ h2, toInt_some _ C _ h3, toInt_some _ X _ h4, toInt_some _ Y _ h5, Option.bind_some]
theorem intactField_refl (T : List S98) (S : List S103) (C X Y : List Int) (g : Int) (h1 : T.length ≤ 1000000) (h2 : S.length ≤ 1000000) (h3 : C.length ≤ 1000000) (h4 : X.length ≤ 1000000) (h5 : Y.length ≤ 1000000) :
    Ev (fun k => laws_intactField.f k T S C X Y g T S C X Y g) true := by
  unfold laws_intactField.f
  refine Ev.bind (intactDemandS_refl T h1) ?_
  simp only [if_true]
  refine Ev.bind (intactAreaS_refl S h2) ?_
  simp only [if_true]
  refine Ev.bind (intactInt_refl C h3) ?_
  simp only [if_true]
  refine Ev.bind (intactInt_refl X h4) ?_
  simp only [if_true]
  refine Ev.bind (intactInt_refl Y h5) ?_
  simp only [if_true]
  exact Ev.now _
theorem wr5 (a : Int) (h1 : 1 ≤ a) (h2 : a ≤ 100000000) : wrap64 (a + 1) = a + 1 ∧ wrap64 (a + 1 + 1) = a + 1 + 1 ∧ wrap64 (a + 1 + 1 + 1) = a + 1 + 1 + 1 ∧ wrap64 (a + 1 + 1 + 1 + 1) = a + 1 + 1 + 1 + 1 ∧ wrap64 (a + 1 + 1 + 1 + 1 + 1) = a + 1 + 1 + 1 + 1 + 1 :=
  ⟨wrap_id (by omega) (by omega), wrap_id (by omega) (by omega), wrap_id (by omega) (by omega), wrap_id (by omega) (by omega), wrap_id (by omega) (by omega)⟩
theorem rd_T98_nat {l : List S98} {i : Nat} (h : i < l.length) : rd_T98 l (i : Int) = l[i] := by simp [rd_T98, h]
theorem rd_T103_nat {l : List S103} {i : Nat} (h : i < l.length) : rd_T103 l (i : Int) = l[i] := by simp [rd_T103, h]
theorem rds_D (l : List S98) (i : Nat) (v : S98) (h : i < l.length) : rd_T98 (l.set i v) (i : Int) = v := by
  rw [rd_T98_nat (by simpa using h)]
  simp
theorem rds_A (l : List S103) (i : Nat) (v : S103) (h : i < l.length) : rd_T103 (l.set i v) (i : Int) = v := by
  rw [rd_T103_nat (by simpa using h)]
  simp
theorem sz_eq_neg {n : Nat} {a : Int} (hn : n ≤ 4611686018427387904) (h0 : -4611686018427387904 ≤ a) (h1 : a < 0) : (if (wrap64 (a - (n : Int))) < 0 then (some (-1)) else (some (wrap64 (a - (n : Int))))) = some (-1 : Int) := by
  rw [wrap_id (by omega) (by omega), if_pos (by omega)]
theorem szField_neg (T : List S100) (S : List S105) (C X Y : List Int) (g a : Int) (h1 : T.length ≤ reachBytes) (h2 : S.length ≤ reachBytes) (h3 : C.length ≤ reachBytes) (h4 : X.length ≤ reachBytes) (h5 : Y.length ≤ reachBytes) (h0 : -4611686018427387904 ≤ a) (ha : a < 0) :
    ∃ r, laws_szField.f T S C X Y g a = some r ∧ r < 0 := by
  unfold reachBytes at *
  unfold laws_szField.f laws_szDemandS.f laws_szAreaS.f laws_szInt64S.f
  rw [sz_eq_neg (by omega) h0 ha, Option.bind_some, if_pos (by decide)]
  exact ⟨-1, rfl, by decide⟩
theorem has_ev (l : List Int) (v : Int) (hn : l.length ≤ 1000000) : Ev (fun k => spec_l01Has.f k l v) (!allD (fun j => decide (rd l (j : Int) ≠ v)) 0 l.length) := by
  have h := Ev.allLoop (l := fun k i => spec_l01Has.l0 k l v i) (n := l.length) (fun j => decide (rd l (j : Int) ≠ v)) true false
    (fun i hi => Evt.all fun k => by
      simp only [spec_l01Has.l0]
      rw [if_pos (show (i : Int) < (l.length : Int) by omega), if_pos (show (0 : Int) ≤ (i : Int) by omega), wrap_succ hi (by omega)]
      by_cases c : rd l (i : Int) = v
      · rw [if_pos c, decide_eq_false (fun h => h c), if_neg (by decide)]
      · rw [if_neg c, decide_eq_true c, if_pos rfl])
    (Evt.all fun k => by
      simp only [spec_l01Has.l0]
      rw [if_neg (by omega)]) l.length 0 (by omega)
  unfold spec_l01Has.f
  refine h.eq ?_
  cases allD (fun j => decide (rd l (j : Int) ≠ v)) 0 l.length <;> rfl
theorem copyList_ev (l : List Int) (hn : l.length ≤ 1000000) : Ev (fun k => impl_copyList.f l) l := by
  unfold impl_copyList.f
  simp only [Option.bind_some]
  refine Ev.all (fun k => ?_)
  simp
  try omega
theorem own_some (l : List Int) (h : l.length ≤ 1000000) : spec_l01Own.f l = some l := by
  unfold spec_l01Own.f
  rw [Option.bind_some, if_pos (by rw [List.length_nil]; omega), List.nil_append]
/-- Whether a list has a number; the areas that are not in a list. -/
def hsB (l : List Int) (v : Int) : Bool := !allD (fun j => decide (rd l (j : Int) ≠ v)) 0 l.length
def woD (S : List S103) (l : List Int) : Nat → Nat → List S103 → List S103
  | 0, _, a => a
  | d + 1, i, a => woD S l d (i + 1) (if hsB l (i : Int) = true then a else a ++ [rd_T103 S (i : Int)])
def wo (S : List S103) (l : List Int) : List S103 := woD S l S.length 0 []
theorem woD_len (S : List S103) (l : List Int) : ∀ d i a, (woD S l d i a).length ≤ a.length + d
  | 0, _, a => Nat.le_refl _
  | d + 1, i, a => by
    simp only [woD]
    refine Nat.le_trans (woD_len S l d (i + 1) _) ?_
    split
    · omega
    · rw [List.length_append, List.length_singleton]; omega
theorem wo_len (S : List S103) (l : List Int) : (wo S l).length ≤ S.length := by
  have := woD_len S l S.length 0 []
  rw [List.length_nil, Nat.zero_add] at this
  exact this
theorem spec_wo_loop (T : List S98) (S : List S103) (C X Y : List Int) (g : Int) (l : List Int) (h2 : S.length ≤ 1000000) (hl : l.length ≤ 1000000) (T' : List S98) (C' X' Y' : List Int) (g' : Int) :
    ∀ d i a, i + d = S.length → a.length ≤ i → Ev (fun k => spec_l19Without.l0 k l (i : Int) T S C X Y g T' a C' X' Y' g') (T', woD S l d i a, C', X', Y', g') := by
  intro d
  induction d with
  | zero =>
    intro i a hi ha
    refine Ev.dn ?_
    simp only [spec_l19Without.l0, if_neg (show ¬ (i : Int) < (S.length : Int) by omega)]
    exact Ev.now _
  | succ d ih =>
    intro i a hi ha
    have i0 : (0 : Int) ≤ (i : Int) := by clear ih; omega
    have i1 : (i : Int) < (S.length : Int) := by clear ih; omega
    have hi' : i + 1 + d = S.length := by clear ih; omega
    have hw := wrap_succ (show i < S.length by clear ih; omega) (show S.length ≤ 9223372036854775807 by clear ih; omega)
    refine Ev.dn ?_
    simp only [spec_l19Without.l0, if_pos i1, woD, hw]
    refine Ev.bind (has_ev l (i : Int) hl) ?_
    by_cases c : hsB l (i : Int) = true
    · simp only [if_pos c]
      rw [show (!allD (fun j => decide (rd l (j : Int) ≠ (i : Int))) 0 l.length) = true from c]
      simp only [if_true]
      exact ih (i + 1) a hi' (by clear ih; omega)
    · simp only [if_neg c]
      rw [show (!allD (fun j => decide (rd l (j : Int) ≠ (i : Int))) 0 l.length) = false from Bool.eq_false_iff.2 c]
      simp only [Bool.false_eq_true, if_false, if_pos i0, if_pos (show a.length < 3518437208883 by clear ih; omega)]
      exact ih (i + 1) _ hi' (by clear ih; rw [List.length_append, List.length_singleton]; omega)
theorem spec_wo_ev (T : List S98) (S : List S103) (C X Y : List Int) (g : Int) (l : List Int) (h1 : T.length ≤ 1000000) (h2 : S.length ≤ 1000000) (h3 : C.length ≤ 1000000) (h4 : X.length ≤ 1000000) (h5 : Y.length ≤ 1000000) (hl : l.length ≤ 1000000) :
    Ev (fun k => spec_l19Without.f k T S C X Y g l) (T, wo S l, C, X, Y, g) := by
  unfold spec_l19Without.f
  simp only [Option.bind_some, List.length_nil, List.nil_append, if_pos (show 0 + T.length < 5864062014805 by omega), own_some C h3, own_some X h4, own_some Y h5]
  exact spec_wo_loop T S C X Y g l h2 hl T C X Y g S.length 0 [] (by omega) (by simp)
theorem impl_wo_in (T : List S98) (S : List S103) (C X Y : List Int) (g : Int) (l : List Int) (a : List S103) (i : Nat) (R : List S98 × List S103 × List Int × List Int × List Int × Int) (hi : i < S.length) (h2 : S.length ≤ 1000000) (hl : l.length ≤ 1000000) (ha : a.length ≤ 1000000) :
    ∀ d j (b : Bool), j + d = l.length → Ev (fun k => impl_withoutAreas.l0 k l S (S.length : Int) ((i + 1 : Nat) : Int) T (if (b || !allD (fun j => decide (rd l (j : Int) ≠ (i : Int))) j d) = true then a else a ++ [rd_T103 S (i : Int)]) C X Y g) R →
      Ev (fun k => impl_withoutAreas.l1 k l (i : Int) b S (S.length : Int) (i : Int) l (l.length : Int) (j : Int) T a C X Y g (rd_T103 S (i : Int)).f0 (rd_T103 S (i : Int)).f1 (rd_T103 S (i : Int)).f2 (rd_T103 S (i : Int)).f3 (rd_T103 S (i : Int)).f4) R := by
  have hwi := wrap_succ hi (show S.length ≤ 9223372036854775807 by omega)
  intro d
  induction d with
  | zero =>
    intro j b hj h
    refine Ev.dn ?_
    simp only [impl_withoutAreas.l1, if_neg (show ¬ (j : Int) < (l.length : Int) by omega), hwi]
    simp only [allD, Bool.not_true, Bool.or_false] at h
    cases b with
    | true =>
      simp only [if_true] at h ⊢
      exact h
    | false =>
      simp only [Bool.false_eq_true, if_false, if_pos (show a.length < 3518437208883 by omega)] at h ⊢
      exact h
  | succ d ih =>
    intro j b hj h
    have j0 : (0 : Int) ≤ (j : Int) := by clear ih h; omega
    have j1 : (j : Int) < (l.length : Int) := by clear ih h; omega
    have hj' : j + 1 + d = l.length := by clear ih h; omega
    have hw := wrap_succ (show j < l.length by clear ih h; omega) (show l.length ≤ 9223372036854775807 by clear ih h; omega)
    refine Ev.dn ?_
    simp only [impl_withoutAreas.l1, if_pos j1, if_pos j0, hw]
    simp only [allD, Bool.not_and] at h
    have e : (!decide (rd l (j : Int) ≠ (i : Int))) = (rd l (j : Int) == (i : Int)) := by
      by_cases c : rd l (j : Int) = (i : Int)
      · rw [decide_eq_false (fun h => h c), c]; simp
      · rw [decide_eq_true c, beq_eq_false_iff_ne.2 c]; rfl
    rw [e] at h
    cases b with
    | true =>
      simp only [if_true]
      exact ih (j + 1) true hj' (by simpa only [Bool.true_or] using h)
    | false =>
      simp only [Bool.false_eq_true, if_false]
      exact ih (j + 1) _ hj' (by simpa only [Bool.false_or] using h)
theorem impl_wo_loop (T : List S98) (S : List S103) (C X Y : List Int) (g : Int) (l : List Int) (h2 : S.length ≤ 1000000) (hl : l.length ≤ 1000000) :
    ∀ d i a, i + d = S.length → a.length ≤ i → Ev (fun k => impl_withoutAreas.l0 k l S (S.length : Int) (i : Int) T a C X Y g) (T, woD S l d i a, C, X, Y, g) := by
  intro d
  induction d with
  | zero =>
    intro i a hi ha
    refine Ev.dn ?_
    simp only [impl_withoutAreas.l0, if_neg (show ¬ (i : Int) < (S.length : Int) by omega)]
    exact Ev.now _
  | succ d ih =>
    intro i a hi ha
    have i0 : (0 : Int) ≤ (i : Int) := by clear ih; omega
    have i1 : (i : Int) < (S.length : Int) := by clear ih; omega
    have hil : i < S.length := by clear ih; omega
    have hi' : i + 1 + d = S.length := by clear ih; omega
    refine Ev.dn ?_
    simp only [impl_withoutAreas.l0, if_pos i1, if_pos i0, woD]
    refine impl_wo_in T S C X Y g l a i _ hil h2 hl (by clear ih; omega) l.length 0 false (by clear ih; omega) ?_
    rw [Bool.false_or]
    refine ih (i + 1) _ hi' ?_
    clear ih
    split
    · omega
    · rw [List.length_append, List.length_singleton]; omega
theorem impl_wo_ev (T : List S98) (S : List S103) (C X Y : List Int) (g : Int) (l : List Int) (h1 : T.length ≤ 1000000) (h2 : S.length ≤ 1000000) (h3 : C.length ≤ 1000000) (h4 : X.length ≤ 1000000) (h5 : Y.length ≤ 1000000) (hl : l.length ≤ 1000000) :
    Ev (fun k => impl_withoutAreas.f k T S C X Y g l) (T, wo S l, C, X, Y, g) := by
  unfold impl_withoutAreas.f
  simp only [Option.bind_some, List.length_nil, List.nil_append, if_pos (show 0 + T.length < 5864062014805 by omega)]
  refine Ev.bind (copyList_ev C h3) (Ev.bind (copyList_ev X h4) (Ev.bind (copyList_ev Y h5) ?_))
  exact impl_wo_loop T S C X Y g l h2 hl S.length 0 [] (by omega) (by simp)
/-- Strictly rising numbers below n. -/
def rsJ (l : List Int) (n : Int) (j : Nat) : Bool := rin (rd l (j : Int)) 0 (n - 1) && (decide (j = 0) || decide (rd l ((j - 1 : Nat) : Int) < rd l (j : Int)))
def rsB (l : List Int) (n : Int) : Bool := allD (rsJ l n) 0 l.length
theorem spec_rises_ev (l : List Int) (n : Nat) (hl : l.length ≤ 1000000) (hn : n ≤ 1000000) : Ev (fun k => spec_l01Rises.f k l (n : Int)) (rsB l (n : Int)) := by
  have h := Ev.allLoop (l := fun k i => spec_l01Rises.l0 k l (n : Int) i) (n := l.length) (rsJ l (n : Int)) false true
    (fun i hi => Evt.all fun k => by
      simp only [spec_l01Rises.l0, l01In_eq, Option.bind_some, wrap_id (x := (n : Int) - 1) (by omega) (by omega)]
      rw [if_pos (show (i : Int) < (l.length : Int) by omega), if_pos (show (0 : Int) ≤ (i : Int) by omega), wrap_succ hi (by omega)]
      unfold rsJ
      cases rin (rd l (i : Int)) 0 ((n : Int) - 1) with
      | false => simp only [Bool.false_eq_true, if_false, Bool.false_and]
      | true =>
        simp only [if_true, Bool.true_and]
        by_cases z : i = 0
        · subst z
          rw [if_neg (by omega), decide_eq_true rfl, Bool.true_or, if_pos rfl]
        · rw [if_pos (show (i : Int) > 0 by omega), wrap_pred (i := i) (n := l.length) hi (by omega) (by omega), if_pos (by omega), if_pos (by omega), decide_eq_false z, Bool.false_or]
          by_cases c : rd l (i : Int) ≤ rd l ((i - 1 : Nat) : Int)
          · rw [if_pos c, decide_eq_false (by omega), if_neg (by decide)]
          · rw [if_neg c, decide_eq_true (by omega), if_pos rfl])
    (Evt.all fun k => by
      simp only [spec_l01Rises.l0]
      rw [if_neg (by omega)]) l.length 0 (by omega)
  unfold spec_l01Rises.f
  refine h.eq ?_
  unfold rsB
  cases allD (rsJ l (n : Int)) 0 l.length <;> rfl
theorem impl_asked_loop (T : List S98) (S : List S103) (C X Y : List Int) (g : Int) (l : List Int) (hl : l.length ≤ 1000000) (hn : S.length ≤ 1000000) : Ev (fun k => impl_fieldAsked.l0 k l l (l.length : Int) 0 T S C X Y g) (if rsB l (S.length : Int) = true then (0 : Int) else 2) := by
  have h := Ev.allLoop (l := fun k i => impl_fieldAsked.l0 k l l (l.length : Int) i T S C X Y g) (n := l.length) (rsJ l (S.length : Int)) (2 : Int) 0
    (fun i hi => Evt.all fun k => by
      simp only [impl_fieldAsked.l0, impl_isIndex.f, within_eq, Option.bind_some, wrap_id (x := (S.length : Int) - 1) (by omega) (by omega)]
      rw [if_pos (show (i : Int) < (l.length : Int) by omega), if_pos (show (0 : Int) ≤ (i : Int) by omega), if_pos (show (i : Int) < (l.length : Int) by omega), wrap_succ hi (by omega)]
      unfold rsJ
      cases rin (rd l (i : Int)) 0 ((S.length : Int) - 1) with
      | false => simp only [Bool.false_eq_true, if_false, Bool.false_and]
      | true =>
        simp only [if_true, Bool.true_and]
        by_cases z : i = 0
        · subst z
          rw [if_neg (by omega), decide_eq_true rfl, Bool.true_or, if_pos rfl]
        · rw [if_pos (show (i : Int) > 0 by omega), wrap_pred (i := i) (n := l.length) hi (by omega) (by omega), if_pos (by omega), if_pos (by omega), decide_eq_false z, Bool.false_or]
          by_cases c : rd l ((i - 1 : Nat) : Int) ≥ rd l (i : Int)
          · rw [if_pos c, decide_eq_false (by omega), if_neg (by decide)]
          · rw [if_neg c, decide_eq_true (by omega), if_pos rfl])
    (Evt.all fun k => by
      simp only [impl_fieldAsked.l0]
      rw [if_neg (by omega)]) l.length 0 (by omega)
  exact h
/-- The code of a field and a list of areas. -/
def askC (T : List S98) (S : List S103) (C X Y : List Int) (g : Int) (l : List Int) : Int :=
  if fldOk T S C X Y g = true then (if (S.length : Int) > 6 then 3 else (if rsB l (S.length : Int) = true then 0 else 2)) else 1
theorem spec_ask_ev (T : List S98) (S : List S103) (C X Y : List Int) (g : Int) (l : List Int) (h1 : T.length ≤ 1000000) (h2 : S.length ≤ 1000000) (h3 : C.length ≤ 1000000) (h4 : X.length ≤ 1000000) (h5 : Y.length ≤ 1000000) (hl : l.length ≤ 1000000) :
    Ev (fun k => spec_l19Code.f k T S C X Y g l) (askC T S C X Y g l) := by
  unfold spec_l19Code.f askC
  refine Ev.bind (spec_IsField_ev T S C X Y g h1 h2 h3 h4 h5) ?_
  cases fldOk T S C X Y g with
  | false => simp only [Bool.false_eq_true, if_false]; exact Ev.now _
  | true =>
    simp only [if_true]
    by_cases c : (S.length : Int) > 6
    · simp only [if_pos c]; exact Ev.now _
    · simp only [if_neg c]
      refine Ev.bind (spec_rises_ev l S.length hl h2) ?_
      cases rsB l (S.length : Int) with
      | false => simp only [Bool.false_eq_true, if_false]; exact Ev.now _
      | true => simp only [if_true]; exact Ev.now _
theorem impl_ask_ev (T : List S98) (S : List S103) (C X Y : List Int) (g : Int) (l : List Int) (h1 : T.length ≤ 1000000) (h2 : S.length ≤ 1000000) (h3 : C.length ≤ 1000000) (h4 : X.length ≤ 1000000) (h5 : Y.length ≤ 1000000) (hl : l.length ≤ 1000000) :
    Ev (fun k => impl_fieldAsked.f k T S C X Y g l) (askC T S C X Y g l) := by
  unfold impl_fieldAsked.f askC
  refine Ev.bind (impl_IsField_ev T S C X Y g h1 h2 h3 h4 h5) ?_
  cases fldOk T S C X Y g with
  | false => simp only [Bool.false_eq_true, if_false]; exact Ev.now _
  | true =>
    simp only [if_true]
    by_cases c : (S.length : Int) > 6
    · simp only [if_pos c]; exact Ev.now _
    · simp only [if_neg c]
      exact impl_asked_loop T S C X Y g l hl h2
/-- A loop that writes marks into the elements leaves in element j what mk tells for its first mark; and such a list is held. -/
theorem fillLoop {α : Type} {F : Nat → List α → Int → Int → Option (Int × List α)} {c n : Nat} (mk : Int → α)
    (hstep : ∀ (xs : List α) (a : Int) (i : Nat), xs.length = n → i < n → 1 ≤ a → a + (c : Int) ≤ 100000000 → Evt (fun k => F (k + 1) xs a (i : Int) = F k (xs.set i (mk a)) (a + (c : Int)) ((i + 1 : Nat) : Int)))
    (hend : ∀ (xs : List α) (a : Int), xs.length = n → Evt (fun k => F (k + 1) xs a (n : Int) = some (a, xs))) (a0 : Int) (ha : 1 ≤ a0) (hb : a0 + (c : Int) * (n : Int) ≤ 100000000) :
    ∀ (d i : Nat) (xs : List α), i + d = n → xs.length = n → (∀ j : Nat, j < i → xs[j]? = some (mk (a0 + (c : Int) * (j : Int)))) → ∃ L : List α, L.length = n ∧ (∀ j : Nat, j < n → L[j]? = some (mk (a0 + (c : Int) * (j : Int)))) ∧ Ev (fun k => F k xs (a0 + (c : Int) * (i : Int)) (i : Int)) (a0 + (c : Int) * (n : Int), L) := by
  intro d
  induction d with
  | zero =>
    intro i xs hi hx hj
    obtain rfl : i = n := by omega
    exact ⟨xs, hx, hj, Ev.doneE (hend xs _ hx)⟩
  | succ d ih =>
    intro i xs hi hx hj
    have e : (c : Int) * ((i + 1 : Nat) : Int) = (c : Int) * (i : Int) + (c : Int) := by rw [Int.natCast_succ, Int.mul_add, Int.mul_one]
    have hp : 0 ≤ (c : Int) * (i : Int) := Int.mul_nonneg (Int.natCast_nonneg _) (Int.natCast_nonneg _)
    have hq : (c : Int) * ((i + 1 : Nat) : Int) ≤ (c : Int) * (n : Int) := Int.mul_le_mul_of_nonneg_left (by omega) (Int.natCast_nonneg _)
    obtain ⟨L, h1, h2, h3⟩ := ih (i + 1) (xs.set i (mk (a0 + (c : Int) * (i : Int)))) (by omega) (by simpa using hx) (fun j hj2 => by
      rw [List.getElem?_set]
      by_cases q : i = j
      · rw [if_pos q, if_pos (by omega), q]
      · rw [if_neg q]
        exact hj j (by omega))
    refine ⟨L, h1, h2, Ev.stepE (hstep xs _ i hx (by omega) (by omega) (by omega)) ?_⟩
    rw [e, ← Int.add_assoc] at h3
    exact h3
theorem heldLoop {α : Type} {G : Nat → List α → Int → Int → Option Int} {c n : Nat} (mk : Int → α) (L : List α) (a0 : Int) (ha : 1 ≤ a0) (hb : a0 + (c : Int) * (n : Int) ≤ 100000000) (hL : L.length = n) (hj : ∀ j : Nat, j < n → L[j]? = some (mk (a0 + (c : Int) * (j : Int))))
    (hstep : ∀ (a : Int) (i : Nat), i < n → 1 ≤ a → a + (c : Int) ≤ 100000000 → L[i]? = some (mk a) → Evt (fun k => G (k + 1) L a (i : Int) = G k L (a + (c : Int)) ((i + 1 : Nat) : Int)))
    (hend : ∀ a : Int, Evt (fun k => G (k + 1) L a (n : Int) = some a)) :
    ∀ d i : Nat, i + d = n → Ev (fun k => G k L (a0 + (c : Int) * (i : Int)) (i : Int)) (a0 + (c : Int) * (n : Int)) := by
  intro d
  induction d with
  | zero =>
    intro i hi
    obtain rfl : i = n := by omega
    exact Ev.doneE (hend _)
  | succ d ih =>
    intro i hi
    have e : (c : Int) * ((i + 1 : Nat) : Int) = (c : Int) * (i : Int) + (c : Int) := by rw [Int.natCast_succ, Int.mul_add, Int.mul_one]
    have hp : 0 ≤ (c : Int) * (i : Int) := Int.mul_nonneg (Int.natCast_nonneg _) (Int.natCast_nonneg _)
    have hq : (c : Int) * ((i + 1 : Nat) : Int) ≤ (c : Int) * (n : Int) := Int.mul_le_mul_of_nonneg_left (by omega) (Int.natCast_nonneg _)
    have h3 := ih (i + 1) (by omega)
    rw [e, ← Int.add_assoc] at h3
    exact Ev.stepE (hstep _ i (by omega) (by omega) (by omega) (hj i (by omega))) h3
theorem start_eq (a : Int) (c : Nat) : a + (c : Int) * ((0 : Nat) : Int) = a := by simp
theorem mhInt (xs : List Int) (a : Int) (hn : xs.length ≤ 1000000) (ha : 1 ≤ a) (hb : a + ((1 : Nat) : Int) * (xs.length : Int) ≤ 100000000) : ∃ L : List Int, L.length = xs.length ∧ Ev (fun k => laws_markInt64S.f k xs a) (a + ((1 : Nat) : Int) * (xs.length : Int), L) ∧ Ev (fun k => laws_heldInt64S.f k L a) (a + ((1 : Nat) : Int) * (xs.length : Int)) := by
  obtain ⟨L, h1, h2, h3⟩ := fillLoop (F := laws_markInt64S.l0) (c := 1) (n := xs.length) (fun a => a)
    (fun ys a i hy hi h1 h2 => Evt.all fun k => by
      simp only [laws_markInt64S.l0]
      rw [if_pos (by omega), if_pos (by omega), wrap_succ (show i < ys.length by omega) (by omega), wrap_id (by omega) (by omega), Int.toNat_natCast]
      rfl)
    (fun ys a hy => Evt.all fun k => by
      simp only [laws_markInt64S.l0]
      rw [if_neg (by omega)]) a ha hb xs.length 0 xs (by omega) rfl (fun j hj => by omega)
  have h4 := heldLoop (G := laws_heldInt64S.l0) (c := 1) (n := xs.length) (fun a => a) L a ha hb h1 h2
    (fun a i hi q1 q2 he => Evt.all fun k => by
      have hv : rd L (i : Int) = a := by
        obtain ⟨hl, he⟩ := List.getElem?_eq_some_iff.1 he
        rw [rd_nat hl, he]
      simp only [laws_heldInt64S.l0]
      rw [if_pos (by omega), if_pos (by omega), if_pos hv, wrap_succ (show i < xs.length by omega) (by omega), wrap_id (by omega) (by omega)]
      rfl)
    (fun a => Evt.all fun k => by
      simp only [laws_heldInt64S.l0]
      rw [if_neg (by omega)]) xs.length 0 (by omega)
  rw [start_eq] at h3 h4
  exact ⟨L, h1, h3, h4⟩
theorem mhDem (xs : List S98) (a : Int) (hn : xs.length ≤ 1000000) (ha : 1 ≤ a) (hb : a + ((3 : Nat) : Int) * (xs.length : Int) ≤ 100000000) : ∃ L : List S98, L.length = xs.length ∧ Ev (fun k => laws_markDemandS.f k xs a) (a + ((3 : Nat) : Int) * (xs.length : Int), L) ∧ Ev (fun k => laws_heldDemandS.f k L a) (a + ((3 : Nat) : Int) * (xs.length : Int)) := by
  obtain ⟨L, h1, h2, h3⟩ := fillLoop (F := laws_markDemandS.l0) (c := 3) (n := xs.length) (fun a => (⟨a, a + 1, a + 1 + 1⟩ : S98))
    (fun ys a i hy hi h1 h2 => Evt.all fun k => by
      have e3 : a + 1 + 1 + 1 = a + ((3 : Nat) : Int) := by omega
      have hs := wrap_succ (show i < ys.length by omega) (show ys.length ≤ 9223372036854775807 by omega)
      have hlt : (i : Int) < (ys.length : Int) := by omega
      have hil : i < ys.length := by omega
      have h0 : (0 : Int) ≤ (i : Int) := by omega
      obtain ⟨w1, w2, w3, _, _⟩ := wr5 a h1 (by omega)
      rw [laws_markDemandS.l0, if_pos hlt, if_pos h0, Option.bind_some, Option.bind_some, Int.toNat_natCast, rds_D _ _ _ hil, rds_D _ _ _ (by simpa using hil), w1, w2, w3, hs, e3, List.set_set, List.set_set])
    (fun ys a hy => Evt.all fun k => by
      rw [laws_markDemandS.l0, if_neg (show ¬ (xs.length : Int) < (ys.length : Int) by omega)]) a ha hb xs.length 0 xs (by omega) rfl (fun j hj => by omega)
  have h4 := heldLoop (G := laws_heldDemandS.l0) (c := 3) (n := xs.length) (fun a => (⟨a, a + 1, a + 1 + 1⟩ : S98)) L a ha hb h1 h2
    (fun a i hi q1 q2 he => Evt.all fun k => by
      have hv : rd_T98 L (i : Int) = ⟨a, a + 1, a + 1 + 1⟩ := by
        obtain ⟨hl, he⟩ := List.getElem?_eq_some_iff.1 he
        rw [rd_T98_nat hl, he]
      have e3 : a + 1 + 1 + 1 = a + ((3 : Nat) : Int) := by omega
      obtain ⟨w1, w2, w3, _, _⟩ := wr5 a q1 (by omega)
      rw [laws_heldDemandS.l0, if_pos (show (i : Int) < (L.length : Int) by omega), if_pos (show (0 : Int) ≤ (i : Int) by omega), hv, w1, w2, w3, if_pos rfl, if_pos rfl, if_pos rfl, wrap_succ (show i < xs.length by omega) (by omega), e3])
    (fun a => Evt.all fun k => by
      rw [laws_heldDemandS.l0, if_neg (show ¬ (xs.length : Int) < (L.length : Int) by omega)]) xs.length 0 (by omega)
  rw [start_eq] at h3 h4
  exact ⟨L, h1, h3, h4⟩
theorem mhArea (xs : List S103) (a : Int) (hn : xs.length ≤ 1000000) (ha : 1 ≤ a) (hb : a + ((5 : Nat) : Int) * (xs.length : Int) ≤ 100000000) : ∃ L : List S103, L.length = xs.length ∧ Ev (fun k => laws_markAreaS.f k xs a) (a + ((5 : Nat) : Int) * (xs.length : Int), L) ∧ Ev (fun k => laws_heldAreaS.f k L a) (a + ((5 : Nat) : Int) * (xs.length : Int)) := by
  obtain ⟨L, h1, h2, h3⟩ := fillLoop (F := laws_markAreaS.l0) (c := 5) (n := xs.length) (fun a => (⟨a, a + 1, a + 1 + 1, a + 1 + 1 + 1, a + 1 + 1 + 1 + 1⟩ : S103))
    (fun ys a i hy hi h1 h2 => Evt.all fun k => by
      have e5 : a + 1 + 1 + 1 + 1 + 1 = a + ((5 : Nat) : Int) := by omega
      have hs := wrap_succ (show i < ys.length by omega) (show ys.length ≤ 9223372036854775807 by omega)
      have hlt : (i : Int) < (ys.length : Int) := by omega
      have hil : i < ys.length := by omega
      have h0 : (0 : Int) ≤ (i : Int) := by omega
      obtain ⟨w1, w2, w3, w4, w5⟩ := wr5 a h1 (by omega)
      obtain ⟨o, eo⟩ : ∃ o, o = rd_T103 ys (i : Int) := ⟨_, rfl⟩
      rw [laws_markAreaS.l0, if_pos hlt, if_pos h0, ← eo, Option.bind_some, Int.toNat_natCast, rds_A _ _ _ hil, Option.bind_some, rds_A _ _ _ (by simpa using hil), Option.bind_some, rds_A _ _ _ (by simpa using hil), Option.bind_some, rds_A _ _ _ (by simpa using hil), w1, w2, w3, w4, w5, hs, e5, List.set_set, List.set_set, List.set_set, List.set_set])
    (fun ys a hy => Evt.all fun k => by
      rw [laws_markAreaS.l0, if_neg (show ¬ (xs.length : Int) < (ys.length : Int) by omega)]) a ha hb xs.length 0 xs (by omega) rfl (fun j hj => by omega)
  have h4 := heldLoop (G := laws_heldAreaS.l0) (c := 5) (n := xs.length) (fun a => (⟨a, a + 1, a + 1 + 1, a + 1 + 1 + 1, a + 1 + 1 + 1 + 1⟩ : S103)) L a ha hb h1 h2
    (fun a i hi q1 q2 he => Evt.all fun k => by
      have hv : rd_T103 L (i : Int) = ⟨a, a + 1, a + 1 + 1, a + 1 + 1 + 1, a + 1 + 1 + 1 + 1⟩ := by
        obtain ⟨hl, he⟩ := List.getElem?_eq_some_iff.1 he
        rw [rd_T103_nat hl, he]
      have e5 : a + 1 + 1 + 1 + 1 + 1 = a + ((5 : Nat) : Int) := by omega
      obtain ⟨w1, w2, w3, w4, w5⟩ := wr5 a q1 (by omega)
      rw [laws_heldAreaS.l0, if_pos (show (i : Int) < (L.length : Int) by omega), if_pos (show (0 : Int) ≤ (i : Int) by omega), hv, w1, w2, w3, w4, w5, if_pos rfl, if_pos rfl, if_pos rfl, if_pos rfl, if_pos rfl, wrap_succ (show i < xs.length by omega) (by omega), e5])
    (fun a => Evt.all fun k => by
      rw [laws_heldAreaS.l0, if_neg (show ¬ (xs.length : Int) < (L.length : Int) by omega)]) xs.length 0 (by omega)
  rw [start_eq] at h3 h4
  exact ⟨L, h1, h3, h4⟩
theorem mhField (T : List S98) (S : List S103) (C X Y : List Int) (g : Int) (h1 : T.length ≤ 1000000) (h2 : S.length ≤ 1000000) (h3 : C.length ≤ 1000000) (h4 : X.length ≤ 1000000) (h5 : Y.length ≤ 1000000) :
    ∃ (r : Int) (T' : List S98) (S' : List S103) (C' X' Y' : List Int), 1 ≤ r ∧ r ≤ 20000000 ∧ Ev (fun k => laws_markField.f k T S C X Y g 101) (r, T', S', C', X', Y') ∧ Ev (fun k => laws_heldField.f k T' S' C' X' Y' g 101) r := by
  obtain ⟨T', _, t2, t3⟩ := mhDem T 101 h1 (by omega) (by omega)
  obtain ⟨a1, e1⟩ : ∃ a1, a1 = 101 + ((3 : Nat) : Int) * (T.length : Int) := ⟨_, rfl⟩
  rw [← e1] at t2 t3
  obtain ⟨S', _, s2, s3⟩ := mhArea S a1 h2 (by omega) (by omega)
  obtain ⟨a2, e2⟩ : ∃ a2, a2 = a1 + ((5 : Nat) : Int) * (S.length : Int) := ⟨_, rfl⟩
  rw [← e2] at s2 s3
  obtain ⟨C', _, c2, c3⟩ := mhInt C a2 h3 (by omega) (by omega)
  obtain ⟨a3, e3⟩ : ∃ a3, a3 = a2 + ((1 : Nat) : Int) * (C.length : Int) := ⟨_, rfl⟩
  rw [← e3] at c2 c3
  obtain ⟨X', _, x2, x3⟩ := mhInt X a3 h4 (by omega) (by omega)
  obtain ⟨a4, e4⟩ : ∃ a4, a4 = a3 + ((1 : Nat) : Int) * (X.length : Int) := ⟨_, rfl⟩
  rw [← e4] at x2 x3
  obtain ⟨Y', _, y2, y3⟩ := mhInt Y a4 h5 (by omega) (by omega)
  obtain ⟨a5, e5⟩ : ∃ a5, a5 = a4 + ((1 : Nat) : Int) * (Y.length : Int) := ⟨_, rfl⟩
  rw [← e5] at y2 y3
  refine ⟨a5, T', S', C', X', Y', by omega, by omega, ?_, ?_⟩
  · unfold laws_markField.f
    exact Ev.bind t2 (Ev.bind s2 (Ev.bind c2 (Ev.bind x2 (Ev.bind y2 (Ev.now _)))))
  · unfold laws_heldField.f
    refine Ev.bind t3 ?_
    simp only [if_neg (show ¬ a1 < 0 by omega)]
    refine Ev.bind s3 ?_
    simp only [if_neg (show ¬ a2 < 0 by omega)]
    refine Ev.bind c3 ?_
    simp only [if_neg (show ¬ a3 < 0 by omega)]
    refine Ev.bind x3 ?_
    simp only [if_neg (show ¬ a4 < 0 by omega)]
    refine Ev.bind y3 ?_
    simp only [if_neg (show ¬ a5 < 0 by omega)]
    exact Ev.now _
theorem eqField_refl (T : List S98) (S : List S103) (C X Y : List Int) (g : Int) (h1 : T.length ≤ 1000000) (h2 : S.length ≤ 1000000) (h3 : C.length ≤ 1000000) (h4 : X.length ≤ 1000000) (h5 : Y.length ≤ 1000000) :
    Ev (fun k => laws_eqField.f k T S C X Y g T S C X Y g) true := by
  unfold laws_eqField.f
  refine Ev.bind (eqDemandS_refl T (by omega)) ?_
  simp only [if_true]
  refine Ev.bind (eqAreaS_refl S (by omega)) ?_
  simp only [if_true]
  refine Ev.bind (eqInt_refl C (by omega)) ?_
  simp only [if_true]
  refine Ev.bind (eqInt_refl X (by omega)) ?_
  simp only [if_true]
  refine Ev.bind (eqInt_refl Y (by omega)) ?_
  simp only [if_true]
  exact Ev.now _
theorem WithoutAreas_both (T : List S98) (S : List S103) (C X Y : List Int) (g : Int) (l : List Int) (h1 : T.length ≤ 1000000) (h2 : S.length ≤ 1000000) (h3 : C.length ≤ 1000000) (h4 : X.length ≤ 1000000) (h5 : Y.length ≤ 1000000) (hl : l.length ≤ 1000000) :
    ∃ (T' : List S98) (S' : List S103) (C' X' Y' : List Int) (g' c : Int), Ev (fun k => spec_WithoutAreas.f k T S C X Y g l) (T', S', C', X', Y', g', c) ∧ Ev (fun k => impl_WithoutAreas.f k T S C X Y g l) (T', S', C', X', Y', g', c) ∧ T'.length ≤ 1000000 ∧ S'.length ≤ 1000000 ∧ C'.length ≤ 1000000 ∧ X'.length ≤ 1000000 ∧ Y'.length ≤ 1000000 := by
  have hs := spec_ask_ev T S C X Y g l h1 h2 h3 h4 h5 hl
  have hi := impl_ask_ev T S C X Y g l h1 h2 h3 h4 h5 hl
  unfold spec_WithoutAreas.f impl_WithoutAreas.f
  by_cases c : askC T S C X Y g l = 0
  · rw [c] at hs hi
    refine ⟨T, wo S l, C, X, Y, g, 0, Ev.bind hs ?_, Ev.bind hi ?_, h1, Nat.le_trans (wo_len S l) h2, h3, h4, h5⟩
    · simp only [if_true]
      exact Ev.bind (spec_wo_ev T S C X Y g l h1 h2 h3 h4 h5 hl) (Ev.now _)
    · simp only [if_true]
      exact Ev.bind (impl_wo_ev T S C X Y g l h1 h2 h3 h4 h5 hl) (Ev.now _)
  · refine ⟨[], [], [], [], [], 0, askC T S C X Y g l, Ev.bind hs ?_, Ev.bind hi ?_, by simp, by simp, by simp, by simp, by simp⟩
    · simp only [if_neg c]; exact Ev.now _
    · simp only [if_neg c]; exact Ev.now _
theorem FnExactWithoutAreas : ∀ (x0_0 : List S100) (x0_1 : List S105) (x0_2 : List Int) (x0_3 : List Int) (x0_4 : List Int) (x0_5 : Int) (l1 : List Int), ((x0_0.length ≤ reachBytes ∧ ∀ y ∈ x0_0, ((Lit.int .i64 y.f0).wf = true ∧ (Lit.int .i64 y.f1).wf = true ∧ (Lit.int .i64 y.f2).wf = true)) ∧ (x0_1.length ≤ reachBytes ∧ ∀ y ∈ x0_1, ((Lit.int .i64 y.f0).wf = true ∧ (Lit.int .i64 y.f1).wf = true ∧ (Lit.int .i64 y.f2).wf = true ∧ (Lit.int .i64 y.f3).wf = true ∧ (Lit.int .i64 y.f4).wf = true)) ∧ (x0_2.length ≤ reachBytes ∧ ∀ y ∈ x0_2, (Lit.int .i64 y).wf = true) ∧ (x0_3.length ≤ reachBytes ∧ ∀ y ∈ x0_3, (Lit.int .i64 y).wf = true) ∧ (x0_4.length ≤ reachBytes ∧ ∀ y ∈ x0_4, (Lit.int .i64 y).wf = true) ∧ (Lit.int .i64 x0_5).wf = true) → (l1.length ≤ reachBytes ∧ ∀ y ∈ l1, (Lit.int .i64 y).wf = true) → ∃ k, laws_FnExactWithoutAreas.f k x0_0 x0_1 x0_2 x0_3 x0_4 x0_5 l1 = some true := by
  intro T0 S0 C X Y g l ⟨⟨b1, _⟩, ⟨b2, _⟩, ⟨b3, _⟩, ⟨b4, _⟩, ⟨b5, _⟩, _⟩ ⟨b6, _⟩
  apply Ev.rounds
  unfold laws_FnExactWithoutAreas.f
  have b6' := b6
  unfold reachBytes at b6'
  rw [wrap_id (x := 1000000 - (l.length : Int)) (by omega) (by omega)]
  by_cases hl : l.length ≤ 1000000
  case neg =>
    have : ∃ r : Int, laws_szField.f T0 S0 C X Y g (1000000 - (l.length : Int)) = some r ∧ r < 0 := szField_neg T0 S0 C X Y g _ b1 b2 b3 b4 b5 (by omega) (by omega)
    obtain ⟨r, hr, hr0⟩ := this
    simp only [hr, Option.bind_some, if_pos hr0]
    exact Ev.now _
  obtain ⟨r, hr, hr2⟩ := szField_some T0 S0 C X Y g (1000000 - (l.length : Int)) b1 b2 b3 b4 b5 (by omega) (by omega)
  simp only [hr, Option.bind_some]
  by_cases h : r < 0
  · simp only [if_pos h]; exact Ev.now _
  obtain ⟨h1, h2, h3, h4, h5, _, _⟩ := hr2 h
  simp only [if_neg h, toField_some _ T0 S0 C X Y g _ h1 h2 h3 h4 h5, toInt_some _ l _ hl, Option.bind_some]
  have k1 : (T0.map laws_toDemandS.conv).length ≤ 1000000 := by simpa using h1
  have k2 : (S0.map laws_toAreaS.conv).length ≤ 1000000 := by simpa using h2
  generalize hT : T0.map laws_toDemandS.conv = T at k1
  generalize hS : S0.map laws_toAreaS.conv = S at k2
  obtain ⟨T', S', C', X', Y', g', cd, p1, p2, q1, q2, q3, q4, q5⟩ := WithoutAreas_both T S C X Y g l k1 k2 h3 h4 h5 hl
  obtain ⟨m, T1, S1, C1, X1, Y1, hm1, hm2, hM, _⟩ := mhField T S C X Y g k1 k2 h3 h4 h5
  obtain ⟨L1, _, hL1, _⟩ := mhInt l m hl hm1 (by omega)
  obtain ⟨n, T2, S2, C2, X2, Y2, hn1, _, hN, hH⟩ := mhField T' S' C' X' Y' g' q1 q2 q3 q4 q5
  have hE := eqField_refl T' S' C' X' Y' g' q1 q2 q3 q4 q5
  refine Ev.bind p1 (Ev.bind p2 (Ev.bind hE ?_))
  simp only [bne_self_eq_false, if_true]
  refine Ev.dn ?_
  simp only [laws_FnExactWithoutAreas.j0, Bool.false_eq_true, if_false, toField_some _ T0 S0 C X Y g _ h1 h2 h3 h4 h5, toInt_some _ l _ hl, Option.bind_some, hT, hS]
  refine Ev.bind (intactField_refl T S C X Y g k1 k2 h3 h4 h5) ?_
  simp only [if_true]
  refine Ev.bind (intactInt_refl l hl) ?_
  simp only [if_true]
  refine Ev.bind hM (Ev.bind hL1 ?_)
  simp only [if_neg (show ¬ m + ((1 : Nat) : Int) * (l.length : Int) < 0 by omega)]
  refine Ev.bind hE ?_
  simp only [bne_self_eq_false, if_true]
  refine Ev.dn ?_
  simp only [laws_FnExactWithoutAreas.j1, Bool.false_eq_true, if_false, toField_some _ T0 S0 C X Y g _ h1 h2 h3 h4 h5, toInt_some _ l _ hl, Option.bind_some, hT, hS]
  refine Ev.bind hN (Ev.bind hH ?_)
  simp only [if_neg (show ¬ n < 0 by omega), if_true]
  refine Ev.bind p2 (Ev.bind hE ?_)
  simp only [bne_self_eq_false, if_true]
  refine Ev.dn ?_
  simp only [laws_FnExactWithoutAreas.j2, Bool.false_eq_true, if_false]
  refine Ev.bind hH ?_
  simp only [if_neg (show ¬ n < 0 by omega), if_true]
  exact Ev.now _
end Go.Proofs.Ytancnecddlbhkaa.Pure
