/- The law FnGaps as a statement over numbers and lists, proved; no condition but the sizes and ranges that every input has. -/
import Derived.Test.YtancnecddlbhkaaF35
import Derived.Test.YtancnecddlbhkaaEv
namespace Go.Proofs.Ytancnecddlbhkaa.Pure
open Go.RowKit Go.Proofs.Ytancnecddlbhkaa.Pall Go.Proofs.YtancnecddlbhkaaW.PrintWords
set_option linter.unusedSimpArgs false
set_option linter.unusedVariables false
def rin (x a b : Int) : Bool := decide (a ≤ x) && decide (x ≤ b)
theorem l01In_eq (x a b : Int) : spec_l01In.f x a b = some (rin x a b) := by
  unfold spec_l01In.f rin
  by_cases h : a ≤ x
  · rw [if_pos h, decide_eq_true h, Bool.true_and]
  · rw [if_neg h, decide_eq_false h, Bool.false_and]
theorem within_eq (x a b : Int) : impl_within.f x a b = some (rin x a b) := by
  unfold impl_within.f rin
  by_cases h : a ≤ x
  · rw [if_pos h, decide_eq_true h, Bool.true_and]
  · rw [if_neg h, decide_eq_false h, Bool.false_and]
theorem rin_iff {x a b : Int} : rin x a b = true ↔ a ≤ x ∧ x ≤ b := by simp [rin]
def allIn (l : List Int) (a b : Int) : Bool := allD (fun j => rin (rd l (j : Int)) a b) 0 l.length
theorem allIn_iff (l : List Int) (a b : Int) : allIn l a b = true ↔ ∀ j : Nat, j < l.length → a ≤ rd l (j : Int) ∧ rd l (j : Int) ≤ b := by
  unfold allIn
  rw [allD_iff]
  simp only [rin_iff]
  exact ⟨fun h j hj => h j (Nat.zero_le _) (by omega), fun h j _ hj => h j (by omega)⟩
theorem allWithin_ev (l : List Int) (a b : Int) (hn : l.length ≤ 9223372036854775807) : Ev (fun k => impl_allWithin.f k l a b) (allIn l a b) := by
  unfold impl_allWithin.f
  have h := Ev.allLoop (l := fun k i => impl_allWithin.l0 k a b l (l.length : Int) i) (n := l.length) (fun j => rin (rd l (j : Int)) a b) false true
    (fun i hi => Evt.all fun k => by
      simp only [impl_allWithin.l0, within_eq, Option.bind_some]
      rw [if_pos (by omega), if_pos (by omega), if_pos (by omega), wrap_succ hi hn])
    (Evt.all fun k => by
      simp only [impl_allWithin.l0]
      rw [if_neg (by omega)]) l.length 0 (by omega)
  refine h.eq ?_
  unfold allIn
  cases allD (fun j => rin (rd l (j : Int)) a b) 0 l.length <;> simp
def ordB (l : List S98) (i j : Nat) : Bool :=
  decide ((rd_T98 l (i : Int)).f0 < (rd_T98 l (j : Int)).f0) || (decide ((rd_T98 l (i : Int)).f0 = (rd_T98 l (j : Int)).f0) && decide ((rd_T98 l (i : Int)).f1 < (rd_T98 l (j : Int)).f1) && decide ((rd_T98 l (i : Int)).f2 ≤ (rd_T98 l (j : Int)).f2))
def tbB (l : List S98) (j : Nat) : Bool :=
  rin (rd_T98 l (j : Int)).f0 0 3 && rin (rd_T98 l (j : Int)).f1 20 300 && rin (rd_T98 l (j : Int)).f2 0 10000 && (decide (j = 0) || ordB l (j - 1) j)
def tblOk (l : List S98) : Bool := allD (tbB l) 0 l.length && decide (l.length ≤ 12)
theorem spec_IsTable_ev (l : List S98) (hn : l.length ≤ 1000000) : Ev (fun k => spec_IsTable.f k l) (tblOk l) := by
  have h := Ev.allLoopQ (l := fun k i => spec_IsTable.l0 k l i) (n := l.length) (tbB l) false (decide (l.length ≤ 12))
    (fun i hi _ => by
      have main : ∀ r, (tbB l i = true → Ev (fun k => spec_IsTable.l0 k l ((i + 1 : Nat) : Int)) r) → (tbB l i = false → r = false) → Ev (fun k => spec_IsTable.l0 k l (i : Int)) r := by
        intro r h1 h2
        have hbad : ∀ x y z, tbB l i = false → Ev (fun k => spec_IsTable.j1 k l (i : Int) true x y z) r := fun x y z hb => Ev.dn (by
          rw [h2 hb]; simp only [spec_IsTable.j1, if_true]; exact Ev.now _)
        refine Ev.dn ?_
        simp only [spec_IsTable.l0, l01In_eq, Option.bind_some, if_pos (show (i : Int) < (l.length : Int) by omega), if_pos (show (0 : Int) ≤ (i : Int) by omega)]
        cases c0 : rin (rd_T98 l (i : Int)).f0 0 3 with
        | false => simp only [Bool.false_eq_true, if_false]; exact hbad _ _ _ (by simp [tbB, c0])
        | true =>
        simp only [if_true]
        cases c1 : rin (rd_T98 l (i : Int)).f1 20 300 with
        | false => simp only [Bool.false_eq_true, if_false]; exact hbad _ _ _ (by simp [tbB, c1])
        | true =>
        simp only [if_true]
        cases c2 : rin (rd_T98 l (i : Int)).f2 0 10000 with
        | false => simp only [Bool.not_false]; exact hbad _ _ _ (by simp [tbB, c2])
        | true =>
        simp only [Bool.not_true]
        refine Ev.dn ?_
        simp only [spec_IsTable.j1, Bool.false_eq_true, if_false]
        by_cases h0 : i = 0
        · simp only [if_neg (show ¬ (i : Int) > 0 by omega), wrap_succ hi (show l.length ≤ 9223372036854775807 by omega)]
          exact h1 (by unfold tbB; rw [c0, c1, c2, decide_eq_true h0]; rfl)
        · have hp : wrap64 ((i : Int) - 1) = ((i - 1 : Nat) : Int) := wrap_pred hi (by omega) (by omega)
          simp only [if_pos (show (i : Int) > 0 by omega), hp, if_pos (show (0 : Int) ≤ ((i - 1 : Nat) : Int) by omega), if_pos (show ((i - 1 : Nat) : Int) < (l.length : Int) by omega), spec_l16Before.f, wrap_succ hi (show l.length ≤ 9223372036854775807 by omega)]
          have ht : tbB l i = ordB l (i - 1) i := by simp [tbB, c0, c1, c2, h0]
          rw [ht] at h1 h2
          unfold ordB at h1 h2
          generalize rd_T98 l ((i - 1 : Nat) : Int) = p at h1 h2 ⊢
          generalize rd_T98 l (i : Int) = q at h1 h2 ⊢
          by_cases d0 : p.f0 < q.f0
          · have d1 : ¬ p.f0 = q.f0 := by omega
            simp only [if_pos d0, Option.bind_some, if_true, if_neg d1]
            exact h1 (by simp [d0])
          · by_cases d1 : p.f0 = q.f0
            · simp only [if_neg d0, if_pos d1, Option.bind_some]
              by_cases d2 : p.f1 < q.f1
              · simp only [decide_eq_true d2, if_true]
                by_cases d3 : p.f2 > q.f2
                · simp only [if_pos d3]
                  rw [h2 (by simp [d0, d1, d2]; omega)]
                  exact Ev.now _
                · simp only [if_neg d3]
                  exact h1 (by simp [d0, d1, d2]; omega)
              · simp only [decide_eq_false d2, Bool.false_eq_true, if_false]
                rw [h2 (by simp [d0, d1, d2])]
                exact Ev.now _
            · simp only [if_neg d0, if_neg d1, Option.bind_some, Bool.false_eq_true, if_false]
              rw [h2 (by simp [d0, d1])]
              exact Ev.now _
      exact ⟨fun hs r hr => main r (fun _ => hr) (fun hf => by rw [hs] at hf; exact absurd hf (by decide)), fun hs => main false (fun ht => by rw [hs] at ht; exact absurd ht (by decide)) (fun _ => rfl)⟩)
    (fun _ => by
      refine Ev.dn ?_
      simp only [spec_IsTable.l0, if_neg (show ¬ (l.length : Int) < (l.length : Int) by omega)]
      have e : decide ((l.length : Int) ≤ 12) = decide (l.length ≤ 12) := decide_eq_decide.2 (by omega)
      rw [e]
      exact Ev.now _) l.length 0 (by omega) (fun j hj => by omega)
  refine h.eq ?_
  unfold tblOk
  cases allD (tbB l) 0 l.length <;> simp
theorem impl_IsTable_ev (l : List S98) (hn : l.length ≤ 1000000) : Ev (fun k => impl_IsTable.f k l) (tblOk l) := by
  unfold impl_IsTable.f
  by_cases hl : (l.length : Int) > 12
  · simp only [if_pos hl]
    refine (Ev.now false).eq ?_
    unfold tblOk
    rw [decide_eq_false (by omega), Bool.and_false]
  simp only [if_neg hl]
  have h := Ev.allLoopQ (l := fun k i => impl_IsTable.l0 k l l (l.length : Int) i) (n := l.length) (tbB l) false true
    (fun i hi _ => by
      have main : ∀ r, (tbB l i = true → Ev (fun k => impl_IsTable.l0 k l l (l.length : Int) ((i + 1 : Nat) : Int)) r) → (tbB l i = false → r = false) → Ev (fun k => impl_IsTable.l0 k l l (l.length : Int) (i : Int)) r := by
        intro r h1 h2
        have hbad : ∀ x y z, tbB l i = false → Ev (fun k => impl_IsTable.j1 k l (i : Int) l (l.length : Int) (i : Int) true x y z) r := fun x y z hb => Ev.dn (by
          rw [h2 hb]; simp only [impl_IsTable.j1, if_true]; exact Ev.now _)
        refine Ev.dn ?_
        simp only [impl_IsTable.l0, impl_isKind.f, impl_isCalibre.f, within_eq, Option.bind_some, if_pos (show (i : Int) < (l.length : Int) by omega), if_pos (show (0 : Int) ≤ (i : Int) by omega)]
        cases c0 : rin (rd_T98 l (i : Int)).f0 0 3 with
        | false => simp only [Bool.false_eq_true, if_false]; exact hbad _ _ _ (by simp [tbB, c0])
        | true =>
        simp only [if_true]
        cases c1 : rin (rd_T98 l (i : Int)).f1 20 300 with
        | false => simp only [Bool.false_eq_true, if_false]; exact hbad _ _ _ (by simp [tbB, c1])
        | true =>
        simp only [if_true]
        cases c2 : rin (rd_T98 l (i : Int)).f2 0 10000 with
        | false => simp only [Bool.not_false]; exact hbad _ _ _ (by simp [tbB, c2])
        | true =>
        simp only [Bool.not_true]
        refine Ev.dn ?_
        simp only [impl_IsTable.j1, Bool.false_eq_true, if_false]
        by_cases h0 : i = 0
        · simp only [if_pos (show (i : Int) = 0 by omega), wrap_succ hi (show l.length ≤ 9223372036854775807 by omega)]
          exact h1 (by unfold tbB; rw [c0, c1, c2, decide_eq_true h0]; rfl)
        · have hp : wrap64 ((i : Int) - 1) = ((i - 1 : Nat) : Int) := wrap_pred hi (by omega) (by omega)
          simp only [if_neg (show ¬ (i : Int) = 0 by omega), hp, if_pos (show (0 : Int) ≤ ((i - 1 : Nat) : Int) by omega), if_pos (show ((i - 1 : Nat) : Int) < (l.length : Int) by omega), wrap_succ hi (show l.length ≤ 9223372036854775807 by omega)]
          have ht : tbB l i = ordB l (i - 1) i := by simp [tbB, c0, c1, c2, h0]
          rw [ht] at h1 h2
          unfold ordB at h1 h2
          generalize rd_T98 l ((i - 1 : Nat) : Int) = p at h1 h2 ⊢
          generalize rd_T98 l (i : Int) = q at h1 h2 ⊢
          by_cases d0 : p.f0 > q.f0
          · simp only [if_pos d0]
            rw [h2 (by simp; omega)]
            exact Ev.now _
          · simp only [if_neg d0]
            by_cases d1 : p.f0 = q.f0
            · simp only [if_pos d1]
              by_cases d2 : p.f1 ≥ q.f1
              · simp only [if_pos d2]
                rw [h2 (by simp; omega)]
                exact Ev.now _
              · simp only [if_neg d2]
                by_cases d3 : p.f2 > q.f2
                · simp only [if_pos d3]
                  rw [h2 (by simp; omega)]
                  exact Ev.now _
                · simp only [if_neg d3]
                  exact h1 (by simp; omega)
            · simp only [if_neg d1]
              exact h1 (by simp; omega)
      exact ⟨fun hs r hr => main r (fun _ => hr) (fun hf => by rw [hs] at hf; exact absurd hf (by decide)), fun hs => main false (fun ht => by rw [hs] at ht; exact absurd ht (by decide)) (fun _ => rfl)⟩)
    (fun _ => by
      refine Ev.dn ?_
      simp only [impl_IsTable.l0, if_neg (show ¬ (l.length : Int) < (l.length : Int) by omega)]
      exact Ev.now _) l.length 0 (by omega) (fun j hj => by omega)
  refine h.eq ?_
  unfold tblOk
  rw [decide_eq_true (by omega : l.length ≤ 12), Bool.and_true]
  cases allD (tbB l) 0 l.length <;> simp
def arB (x : S103) : Bool := rin x.f0 0 3 && (rin x.f1 0 100000 && rin x.f2 0 100000) && rin x.f3 1 (100000 - x.f1) && rin x.f4 1 (100000 - x.f2)
theorem spec_IsArea_eq (x : S103) : spec_IsArea.f x.f0 x.f1 x.f2 x.f3 x.f4 = some (arB x) := by
  unfold spec_IsArea.f spec_l15Place.f arB
  simp only [l01In_eq, Option.bind_some]
  cases rin x.f0 0 3 with
  | false => simp
  | true =>
    cases h1 : rin x.f1 0 100000 with
    | false => simp
    | true =>
      cases h2 : rin x.f2 0 100000 with
      | false => simp
      | true =>
        have e1 := rin_iff.1 h1
        have e2 := rin_iff.1 h2
        rw [wrap_id (x := 100000 - x.f1) (by omega) (by omega), wrap_id (x := 100000 - x.f2) (by omega) (by omega)]
        cases rin x.f3 1 (100000 - x.f1) <;> simp
theorem impl_IsArea_eq (x : S103) : impl_IsArea.f x.f0 x.f1 x.f2 x.f3 x.f4 = some (arB x) := by
  unfold impl_IsArea.f impl_isKind.f impl_isPlace.f arB
  simp only [within_eq, Option.bind_some]
  cases rin x.f0 0 3 with
  | false => simp
  | true =>
    cases h1 : rin x.f1 0 100000 with
    | false => simp
    | true =>
      cases h2 : rin x.f2 0 100000 with
      | false => simp
      | true =>
        have e1 := rin_iff.1 h1
        have e2 := rin_iff.1 h2
        simp only [if_true]
        rw [wrap_id (x := 100000 - x.f1) (by omega) (by omega), wrap_id (x := 100000 - x.f2) (by omega) (by omega)]
        cases rin x.f3 1 (100000 - x.f1) <;> simp
def siteOk (l : List S103) : Bool := allD (fun j => arB (rd_T103 l (j : Int))) 0 l.length && decide (l.length ≤ 10)
theorem spec_IsSite_ev (l : List S103) (hn : l.length ≤ 1000000) : Ev (fun k => spec_IsSite.f k l) (siteOk l) := by
  have h := Ev.allLoop (l := fun k i => spec_IsSite.l0 k l i) (n := l.length) (fun j => arB (rd_T103 l (j : Int))) false (decide (l.length ≤ 10))
    (fun i hi => Evt.all fun k => by
      simp only [spec_IsSite.l0, spec_IsArea_eq, Option.bind_some]
      rw [if_pos (by omega), if_pos (by omega), wrap_succ hi (by omega)])
    (Evt.all fun k => by
      simp only [spec_IsSite.l0]
      rw [if_neg (by omega)]
      congr 1
      exact decide_eq_decide.2 (by omega)) l.length 0 (by omega)
  refine h.eq ?_
  unfold siteOk
  cases allD (fun j => arB (rd_T103 l (j : Int))) 0 l.length <;> simp
theorem impl_IsSite_ev (l : List S103) (hn : l.length ≤ 1000000) : Ev (fun k => impl_IsSite.f k l) (siteOk l) := by
  unfold impl_IsSite.f
  by_cases hl : (l.length : Int) > 10
  · simp only [if_pos hl]
    refine (Ev.now false).eq ?_
    unfold siteOk
    rw [decide_eq_false (by omega), Bool.and_false]
  simp only [if_neg hl]
  have h := Ev.allLoop (l := fun k i => impl_IsSite.l0 k l (l.length : Int) i) (n := l.length) (fun j => arB (rd_T103 l (j : Int))) false true
    (fun i hi => Evt.all fun k => by
      simp only [impl_IsSite.l0, impl_IsArea_eq, Option.bind_some]
      rw [if_pos (by omega), if_pos (by omega), if_pos (by omega), wrap_succ hi (by omega)])
    (Evt.all fun k => by
      simp only [impl_IsSite.l0]
      rw [if_neg (by omega)]) l.length 0 (by omega)
  refine h.eq ?_
  unfold siteOk
  rw [decide_eq_true (by omega : l.length ≤ 10), Bool.and_true]
  cases allD (fun j => arB (rd_T103 l (j : Int))) 0 l.length <;> simp
def fldOk (T : List S98) (S : List S103) (C X Y : List Int) (g : Int) : Bool :=
  tblOk T && siteOk S && decide (C.length ≤ 4) && allIn C 20 300 && decide (X.length ≤ 7) && decide (Y.length = X.length) && allIn X 0 100000 && allIn Y 0 100000 && rin g 0 10000
theorem impl_IsField_ev (T : List S98) (S : List S103) (C X Y : List Int) (g : Int) (h1 : T.length ≤ 1000000) (h2 : S.length ≤ 1000000) (h3 : C.length ≤ 1000000) (h4 : X.length ≤ 1000000) (h5 : Y.length ≤ 1000000) :
    Ev (fun k => impl_IsField.f k T S C X Y g) (fldOk T S C X Y g) := by
  unfold impl_IsField.f fldOk
  refine Ev.bind (impl_IsTable_ev T h1) ?_
  cases tblOk T with
  | false => simp only [Bool.false_eq_true, if_false, Bool.false_and]; exact Ev.now _
  | true =>
  simp only [if_true, Bool.true_and]
  refine Ev.bind (impl_IsSite_ev S h2) ?_
  cases siteOk S with
  | false => simp only [Bool.false_eq_true, if_false, Bool.false_and]; exact Ev.now _
  | true =>
  simp only [if_true, Bool.true_and]
  by_cases c1 : C.length ≤ 4
  case neg => simp only [if_neg (show ¬ (C.length : Int) ≤ 4 by omega), decide_eq_false c1, Bool.false_and]; exact Ev.now _
  simp only [if_pos (show (C.length : Int) ≤ 4 by omega), decide_eq_true c1, Bool.true_and]
  refine Ev.bind (allWithin_ev C 20 300 (by omega)) ?_
  cases allIn C 20 300 with
  | false => simp only [Bool.false_eq_true, if_false, Bool.false_and]; exact Ev.now _
  | true =>
  simp only [if_true, Bool.true_and]
  by_cases c2 : X.length ≤ 7
  case neg => simp only [if_neg (show ¬ (X.length : Int) ≤ 7 by omega), decide_eq_false c2, Bool.false_and]; exact Ev.now _
  simp only [if_pos (show (X.length : Int) ≤ 7 by omega), decide_eq_true c2, Bool.true_and]
  by_cases c3 : Y.length = X.length
  case neg => simp only [if_neg (show ¬ (Y.length : Int) = (X.length : Int) by omega), decide_eq_false c3, Bool.false_and]; exact Ev.now _
  simp only [if_pos (show (Y.length : Int) = (X.length : Int) by omega), decide_eq_true c3, Bool.true_and]
  refine Ev.bind (allWithin_ev X 0 100000 (by omega)) ?_
  cases allIn X 0 100000 with
  | false => simp only [Bool.false_eq_true, if_false, Bool.false_and]; exact Ev.now _
  | true =>
  simp only [if_true, Bool.true_and]
  refine Ev.bind (allWithin_ev Y 0 100000 (by omega)) ?_
  cases allIn Y 0 100000 with
  | false => simp only [Bool.false_eq_true, if_false, Bool.false_and]; exact Ev.now _
  | true =>
  simp only [if_true, Bool.true_and, within_eq, Option.bind_some]
  exact Ev.now _
theorem spec_IsField_ev (T : List S98) (S : List S103) (C X Y : List Int) (g : Int) (h1 : T.length ≤ 1000000) (h2 : S.length ≤ 1000000) (h3 : C.length ≤ 1000000) (h4 : X.length ≤ 1000000) (h5 : Y.length ≤ 1000000) :
    Ev (fun k => spec_IsField.f k T S C X Y g) (fldOk T S C X Y g) := by
  have hend : Ev (fun k => ((spec_IsTable.f k T).bind fun t1285 => (if t1285 = true then ((spec_IsSite.f k S).bind fun t1286 => (if t1286 = true then ((spec_l01In.f g 0 10000).bind fun t1287 => (some t1287)) else (some false))) else (some false)))) (tblOk T && siteOk S && rin g 0 10000) := by
    refine Ev.bind (spec_IsTable_ev T h1) ?_
    cases tblOk T with
    | false => simp only [Bool.false_eq_true, if_false, Bool.false_and]; exact Ev.now _
    | true =>
    simp only [if_true, Bool.true_and]
    refine Ev.bind (spec_IsSite_ev S h2) ?_
    cases siteOk S with
    | false => simp only [Bool.false_eq_true, if_false, Bool.false_and]; exact Ev.now _
    | true =>
    simp only [if_true, Bool.true_and, l01In_eq, Option.bind_some]
    exact Ev.now _
  have hxy : Y.length = X.length → Ev (fun k => spec_IsField.l1 k 0 T S C X Y g) (allIn X 0 100000 && allIn Y 0 100000 && (tblOk T && siteOk S && rin g 0 10000)) := by
    intro hl
    have h := Ev.allLoopQ (l := fun k i => spec_IsField.l1 k i T S C X Y g) (n := X.length) (fun j => rin (rd X (j : Int)) 0 100000 && rin (rd Y (j : Int)) 0 100000) false (tblOk T && siteOk S && rin g 0 10000)
      (fun i hi _ => by
        refine ⟨fun hs r hr => Ev.dn (Ev.eq' hr (fun k => ?_)), fun hs => Ev.dn (Ev.eq' (f := fun _ => some false) (Ev.now _) (fun k => ?_))⟩
        · simp only [Bool.and_eq_true] at hs
          simp only [spec_IsField.l1, spec_l15Place.f, l01In_eq, Option.bind_some, hs.1, hs.2, if_true]
          rw [if_pos (show (i : Int) < (X.length : Int) by omega), if_pos (show (0 : Int) ≤ (i : Int) by omega), if_pos (show (i : Int) < (Y.length : Int) by omega), wrap_succ hi (by omega)]
        · simp only [spec_IsField.l1, spec_l15Place.f, l01In_eq, Option.bind_some]
          rw [if_pos (show (i : Int) < (X.length : Int) by omega), if_pos (show (0 : Int) ≤ (i : Int) by omega), if_pos (show (i : Int) < (Y.length : Int) by omega)]
          cases c : rin (rd X (i : Int)) 0 100000 with
          | false => simp
          | true => rw [c, Bool.true_and] at hs; simp [hs])
      (fun _ => by
        refine Ev.dn ?_
        simp only [spec_IsField.l1, if_neg (show ¬ (X.length : Int) < (X.length : Int) by omega)]
        exact hend) X.length 0 (by omega) (fun j hj => by omega)
    refine h.eq ?_
    have e : allD (fun j => rin (rd X (j : Int)) 0 100000 && rin (rd Y (j : Int)) 0 100000) 0 X.length = (allIn X 0 100000 && allIn Y 0 100000) := by
      rw [Bool.eq_iff_iff, Bool.and_eq_true, allIn_iff, allIn_iff, allD_iff]
      simp only [Bool.and_eq_true, rin_iff, hl]
      exact ⟨fun h => ⟨fun j hj => (h j (by omega) (by omega)).1, fun j hj => (h j (by omega) (by omega)).2⟩, fun h j _ hj => ⟨h.1 j (by omega), h.2 j (by omega)⟩⟩
    rw [e]
    cases allIn X 0 100000 && allIn Y 0 100000 <;> simp
  have hj : ∀ b, Ev (fun k => spec_IsField.j1 k b T S C X Y g) (if b = true then false else (if Y.length = X.length then (allIn X 0 100000 && allIn Y 0 100000 && (tblOk T && siteOk S && rin g 0 10000)) else false)) ∨ (b = false ∧ ¬ Y.length = X.length) := by
    intro b
    cases b with
    | true => exact Or.inl (Ev.dn (by simp only [spec_IsField.j1, if_true]; exact Ev.now _))
    | false =>
      by_cases hl : Y.length = X.length
      · refine Or.inl (Ev.dn ?_)
        simp only [spec_IsField.j1, Bool.false_eq_true, if_false, if_pos hl]
        exact hxy hl
      · exact Or.inr ⟨rfl, hl⟩
  have h := Ev.allLoopQ (l := fun k i => spec_IsField.l0 k i T S C X Y g) (n := C.length) (fun j => rin (rd C (j : Int)) 20 300) false (decide (C.length ≤ 4) && decide (X.length ≤ 7) && decide (Y.length = X.length) && (allIn X 0 100000 && allIn Y 0 100000 && (tblOk T && siteOk S && rin g 0 10000)))
    (fun i hi _ => by
      refine ⟨fun hs r hr => Ev.dn (Ev.eq' hr (fun k => ?_)), fun hs => Ev.dn (Ev.eq' (f := fun _ => some false) (Ev.now _) (fun k => ?_))⟩
      · simp only [spec_IsField.l0, l01In_eq, Option.bind_some, hs, if_true]
        rw [if_pos (show (i : Int) < (C.length : Int) by omega), if_pos (show (0 : Int) ≤ (i : Int) by omega), wrap_succ hi (by omega)]
      · simp only [spec_IsField.l0, l01In_eq, Option.bind_some, hs]
        rw [if_pos (show (i : Int) < (C.length : Int) by omega), if_pos (show (0 : Int) ≤ (i : Int) by omega)]
        rfl)
    (fun _ => by
      refine Ev.dn ?_
      simp only [spec_IsField.l0, if_neg (show ¬ (C.length : Int) < (C.length : Int) by omega)]
      have hjt := (hj true).resolve_right (fun h => by simp at h)
      by_cases c1 : Y.length = X.length
      · have hjf := (hj false).resolve_right (fun h => h.2 c1)
        simp only [if_pos (show (X.length : Int) = (Y.length : Int) by omega)]
        by_cases c2 : X.length ≤ 7
        · simp only [if_neg (show ¬ (X.length : Int) > 7 by omega)]
          by_cases c3 : C.length ≤ 4
          · rw [decide_eq_false (show ¬ (C.length : Int) > 4 by omega)]
            refine hjf.eq ?_
            simp [c1, c2, c3]
          · rw [decide_eq_true (show (C.length : Int) > 4 by omega)]
            refine hjt.eq ?_
            simp [c3]
        · simp only [if_pos (show (X.length : Int) > 7 by omega)]
          refine hjt.eq ?_
          simp [c2]
      · simp only [if_neg (show ¬ (X.length : Int) = (Y.length : Int) by omega)]
        refine hjt.eq ?_
        simp [c1]) C.length 0 (by omega) (fun j hj => by omega)
  refine h.eq ?_
  unfold fldOk
  rw [show allD (fun j => rin (rd C (j : Int)) 20 300) 0 C.length = allIn C 20 300 from rfl]
  generalize tblOk T = b1
  generalize siteOk S = b2
  generalize decide (C.length ≤ 4) = b3
  generalize allIn C 20 300 = b4
  generalize decide (X.length ≤ 7) = b5
  generalize decide (Y.length = X.length) = b6
  generalize allIn X 0 100000 = b7
  generalize allIn Y 0 100000 = b8
  generalize rin g 0 10000 = b9
  cases b1 <;> cases b2 <;> cases b3 <;> cases b4 <;> cases b5 <;> cases b6 <;> cases b7 <;> cases b8 <;> rfl
def dsD (T : List S98) (c kd : Int) : Nat → Nat → Int → Int
  | 0, _, m => m
  | d + 1, i, m => if (rd_T98 T (i : Int)).f0 = kd then (if (rd_T98 T (i : Int)).f1 ≥ c then (rd_T98 T (i : Int)).f2 else dsD T c kd d (i + 1) (-1)) else dsD T c kd d (i + 1) m
def dst (T : List S98) (c kd : Int) : Int := dsD T c kd T.length 0 0
theorem dist_ev (T : List S98) (c kd : Int) (hn : T.length ≤ 1000000) : ∀ d i m, i + d = T.length →
    Ev (fun k => spec_l16Distance.l0 k T c kd m (i : Int)) (dsD T c kd d i m) ∧ Ev (fun k => impl_distanceFor.l0 k c kd m T (T.length : Int) (i : Int)) (dsD T c kd d i m) := by
  intro d
  induction d with
  | zero =>
    intro i m hi
    refine ⟨Ev.dn ?_, Ev.dn ?_⟩
    · simp only [spec_l16Distance.l0, if_neg (show ¬ (i : Int) < (T.length : Int) by omega)]; exact Ev.now _
    · simp only [impl_distanceFor.l0, if_neg (show ¬ (i : Int) < (T.length : Int) by omega)]; exact Ev.now _
  | succ d ih =>
    intro i m hi
    have h1 := ih (i + 1) (-1) (by omega)
    have h2 := ih (i + 1) m (by omega)
    refine ⟨Ev.dn ?_, Ev.dn ?_⟩
    · simp only [spec_l16Distance.l0, dsD, if_pos (show (i : Int) < (T.length : Int) by omega), if_pos (show (0 : Int) ≤ (i : Int) by omega), wrap_succ (show i < T.length by omega) (show T.length ≤ 9223372036854775807 by omega)]
      split
      · split
        · exact Ev.now _
        · exact h1.1
      · exact h2.1
    · simp only [impl_distanceFor.l0, dsD, if_pos (show (i : Int) < (T.length : Int) by omega), if_pos (show (0 : Int) ≤ (i : Int) by omega), wrap_succ (show i < T.length by omega) (show T.length ≤ 9223372036854775807 by omega)]
      split
      · split
        · exact Ev.now _
        · exact h1.2
      · exact h2.2
theorem spec_dist_ev (T : List S98) (c kd : Int) (hn : T.length ≤ 1000000) : Ev (fun k => spec_l16Distance.f k T c kd) (dst T c kd) := (dist_ev T c kd hn T.length 0 0 (by omega)).1
theorem impl_dist_ev (T : List S98) (c kd : Int) (hn : T.length ≤ 1000000) : Ev (fun k => impl_distanceFor.f k T c kd) (dst T c kd) := (dist_ev T c kd hn T.length 0 0 (by omega)).2
def sqv (a : S103) (x y : Int) : Int := wrap64 ((wrap64 ((mx (mx 0 (wrap64 (a.f1 - x))) (wrap64 ((wrap64 (x - a.f1)) - a.f3))) * (mx (mx 0 (wrap64 (a.f1 - x))) (wrap64 ((wrap64 (x - a.f1)) - a.f3))))) + (wrap64 ((mx (mx 0 (wrap64 (a.f2 - y))) (wrap64 ((wrap64 (y - a.f2)) - a.f4))) * (mx (mx 0 (wrap64 (a.f2 - y))) (wrap64 ((wrap64 (y - a.f2)) - a.f4))))))
theorem impl_square_eq (a : S103) (x y : Int) : impl_squareTo.f a.f0 a.f1 a.f2 a.f3 a.f4 x y = some (sqv a x y) := rfl
theorem wrap_away (x a w : Int) : wrap64 (x - wrap64 (a + w)) = wrap64 (wrap64 (x - a) - w) := by unfold wrap64; omega
theorem spec_square_eq (a : S103) (x y : Int) : spec_l15Square.f a.f0 a.f1 a.f2 a.f3 a.f4 x y = some (sqv a x y) := by
  unfold spec_l15Square.f spec_l15Away.f sqv
  simp only [Option.bind_some, wrap_away]
def agB (T : List S98) (c x y : Int) (a : S103) : Bool := decide (dst T c a.f0 < 0) || decide (sqv a x y < wrap64 (dst T c a.f0 * dst T c a.f0))
def agD (T : List S98) (S : List S103) (c x y : Int) : Nat → Nat → List Int → List Int
  | 0, _, xs => xs
  | d + 1, i, xs => agD T S c x y d (i + 1) (if agB T c x y (rd_T103 S (i : Int)) = true then xs ++ [(i : Int)] else xs)
def ags (T : List S98) (S : List S103) (c x y : Int) : List Int := agD T S c x y S.length 0 []
theorem against_ev (T : List S98) (S : List S103) (c x y : Int) (hn : T.length ≤ 1000000) (hS : S.length ≤ 1000000) : ∀ d i xs, i + d = S.length → xs.length ≤ i →
    Ev (fun k => spec_l16Against.l0 k T S c x y xs (i : Int)) (agD T S c x y d i xs) ∧ Ev (fun k => impl_areasAgainst.l0 k T c x y xs S (S.length : Int) (i : Int)) (agD T S c x y d i xs) := by
  intro d
  induction d with
  | zero =>
    intro i xs hi hx
    refine ⟨Ev.dn ?_, Ev.dn ?_⟩
    · simp only [spec_l16Against.l0, if_neg (show ¬ (i : Int) < (S.length : Int) by omega)]; exact Ev.now _
    · simp only [impl_areasAgainst.l0, if_neg (show ¬ (i : Int) < (S.length : Int) by omega)]; exact Ev.now _
  | succ d ih =>
    intro i xs hi hx
    have h1 := ih (i + 1) (xs ++ [(i : Int)]) (by omega) (by simp; omega)
    have h2 := ih (i + 1) xs (by omega) (by omega)
    have hs := wrap_succ (show i < S.length by omega) (show S.length ≤ 9223372036854775807 by omega)
    refine ⟨Ev.dn ?_, Ev.dn ?_⟩
    · simp only [spec_l16Against.l0, agD, if_pos (show (i : Int) < (S.length : Int) by omega), if_pos (show (0 : Int) ≤ (i : Int) by omega), hs, if_pos (show xs.length < 17592186044416 by omega), spec_square_eq, Option.bind_some]
      refine Ev.bind (spec_dist_ev T c _ hn) ?_
      by_cases c1 : dst T c (rd_T103 S (i : Int)).f0 < 0
      · rw [if_pos (show agB T c x y (rd_T103 S (i : Int)) = true by unfold agB; rw [decide_eq_true c1, Bool.true_or])]
        simp only [if_pos c1]
        exact h1.1
      · simp only [if_neg c1]
        by_cases c2 : sqv (rd_T103 S (i : Int)) x y < wrap64 (dst T c (rd_T103 S (i : Int)).f0 * dst T c (rd_T103 S (i : Int)).f0)
        · rw [if_pos (show agB T c x y (rd_T103 S (i : Int)) = true by unfold agB; rw [decide_eq_true c2, Bool.or_true])]
          simp only [if_pos c2]
          exact h1.1
        · rw [if_neg (show ¬ agB T c x y (rd_T103 S (i : Int)) = true by unfold agB; rw [decide_eq_false c1, decide_eq_false c2]; decide)]
          simp only [if_neg c2]
          exact h2.1
    · simp only [impl_areasAgainst.l0, agD, if_pos (show (i : Int) < (S.length : Int) by omega), if_pos (show (0 : Int) ≤ (i : Int) by omega), hs, if_pos (show xs.length < 17592186044416 by omega), impl_square_eq, Option.bind_some]
      refine Ev.bind (impl_dist_ev T c _ hn) ?_
      by_cases c1 : dst T c (rd_T103 S (i : Int)).f0 < 0
      · rw [if_pos (show agB T c x y (rd_T103 S (i : Int)) = true by unfold agB; rw [decide_eq_true c1, Bool.true_or])]
        simp only [if_pos c1]
        exact h1.2
      · simp only [if_neg c1]
        by_cases c2 : sqv (rd_T103 S (i : Int)) x y < wrap64 (dst T c (rd_T103 S (i : Int)).f0 * dst T c (rd_T103 S (i : Int)).f0)
        · rw [if_pos (show agB T c x y (rd_T103 S (i : Int)) = true by unfold agB; rw [decide_eq_true c2, Bool.or_true])]
          simp only [if_pos c2]
          exact h1.2
        · rw [if_neg (show ¬ agB T c x y (rd_T103 S (i : Int)) = true by unfold agB; rw [decide_eq_false c1, decide_eq_false c2]; decide)]
          simp only [if_neg c2]
          exact h2.2
theorem spec_against_ev (T : List S98) (S : List S103) (c x y : Int) (hn : T.length ≤ 1000000) (hS : S.length ≤ 1000000) : Ev (fun k => spec_l16Against.f k T S c x y) (ags T S c x y) :=
  (against_ev T S c x y hn hS S.length 0 [] (by omega) (by simp)).1
theorem impl_against_ev (T : List S98) (S : List S103) (c x y : Int) (hn : T.length ≤ 1000000) (hS : S.length ≤ 1000000) : Ev (fun k => impl_areasAgainst.f k T S c x y) (ags T S c x y) :=
  (against_ev T S c x y hn hS S.length 0 [] (by omega) (by simp)).2
def alw (T : List S98) (S : List S103) (c x y : Int) : Bool := ((ags T S c x y).length : Int) == 0
theorem impl_isAllowed_ev (T : List S98) (S : List S103) (c x y : Int) (hn : T.length ≤ 1000000) (hS : S.length ≤ 1000000) : Ev (fun k => impl_isAllowed.f k T S c x y) (alw T S c x y) := by
  unfold impl_isAllowed.f
  exact Ev.bind (impl_against_ev T S c x y hn hS) (Ev.now _)
def spD (T : List S98) (S : List S103) (X Y : List Int) (c : Int) : Nat → Nat → List Int → List Int
  | 0, _, xs => xs
  | d + 1, j, xs => spD T S X Y c d (j + 1) (if alw T S c (rd X (j : Int)) (rd Y (j : Int)) = true then xs ++ [(j : Int)] else xs)
theorem spD_len (T : List S98) (S : List S103) (X Y : List Int) (c : Int) : ∀ d j xs, (spD T S X Y c d j xs).length ≤ xs.length + d
  | 0, _, xs => Nat.le_refl _
  | d + 1, j, xs => by
    simp only [spD]
    refine Nat.le_trans (spD_len T S X Y c d (j + 1) _) ?_
    split
    · simp; omega
    · omega
def sps (T : List S98) (S : List S103) (X Y : List Int) (c : Int) : List Int := spD T S X Y c X.length 0 []
def stD (T : List S98) (S : List S103) (C X Y : List Int) : Nat → Nat → List (List Int) → List (List Int)
  | 0, _, a => a
  | d + 1, i, a => stD T S C X Y d (i + 1) (a ++ [sps T S X Y (rd C (i : Int))])
theorem stD_len (T : List S98) (S : List S103) (C X Y : List Int) : ∀ d i a, (stD T S C X Y d i a).length = a.length + d
  | 0, _, a => rfl
  | d + 1, i, a => by
    simp only [stD]
    rw [stD_len T S C X Y d (i + 1) _]
    simp; omega
theorem stD_old (T : List S98) (S : List S103) (C X Y : List Int) : ∀ d i a j, j < a.length → (stD T S C X Y d i a).getD j [] = a.getD j []
  | 0, _, a, j, _ => rfl
  | d + 1, i, a, j, h => by
    simp only [stD]
    rw [stD_old T S C X Y d (i + 1) _ j (by simp; omega)]
    simp [List.getD, List.getElem?_append_left h]
theorem stD_get (T : List S98) (S : List S103) (C X Y : List Int) : ∀ d i a j, a.length = i → i ≤ j → j < i + d → (stD T S C X Y d i a).getD j [] = sps T S X Y (rd C (j : Int))
  | 0, i, a, j, _, h1, h2 => by omega
  | d + 1, i, a, j, ha, h1, h2 => by
    simp only [stD]
    by_cases e : j = i
    · subst e
      rw [stD_old T S C X Y d (j + 1) _ j (by simp; omega)]
      subst ha
      simp [List.getD]
    · exact stD_get T S C X Y d (i + 1) _ j (by simp; omega) (by omega) (by omega)
def sts (T : List S98) (S : List S103) (C X Y : List Int) : List (List Int) := stD T S C X Y C.length 0 []
theorem sts_rd (T : List S98) (S : List S103) (C X Y : List Int) (i : Int) (h0 : 0 ≤ i) (h1 : i < (C.length : Int)) : rd_L5 (sts T S C X Y) i = sps T S X Y (rd C i) := by
  obtain ⟨n, rfl⟩ := Int.eq_ofNat_of_zero_le h0
  unfold rd_L5 sts
  rw [Int.toNat_natCast]
  exact stD_get T S C X Y C.length 0 [] n rfl (by omega) (by omega)
theorem sts_len (T : List S98) (S : List S103) (C X Y : List Int) : (sts T S C X Y).length = C.length := by
  unfold sts
  rw [stD_len]
  simp
theorem idx3 {X Y xs : List Int} {j d : Nat} (h4 : X.length ≤ 1000000) (e : Y.length = X.length) (hj : j + (d + 1) = X.length) (hx : xs.length ≤ j) :
    (j : Int) < (X.length : Int) ∧ (0 : Int) ≤ (j : Int) ∧ (j : Int) < (Y.length : Int) ∧ xs.length < 17592186044416 ∧ wrap64 ((j : Int) + 1) = ((j + 1 : Nat) : Int) ∧ (xs ++ [(j : Int)]).length ≤ j + 1 ∧ xs.length ≤ j + 1 ∧ j + 1 + d = X.length :=
  ⟨by omega, by omega, by omega, by omega, wrap_succ (show j < X.length by omega) (by omega), by simp; omega, by omega, by omega⟩
theorem idx3z {X : List Int} {j : Nat} (hj : j + 0 = X.length) : ¬ (j : Int) < (X.length : Int) := by omega
theorem spots_inner (T : List S98) (S : List S103) (C X Y : List Int) (g : Int) (h1 : T.length ≤ 1000000) (h2 : S.length ≤ 1000000) (h3 : C.length ≤ 1000000) (h4 : X.length ≤ 1000000) (e : Y.length = X.length) (a : List (List Int)) (i : Nat) (R : List (List Int)) (hi : i < C.length) (ha : a.length ≤ 1000000) (hR : Ev (fun k => spec_l18Spots.l0 k (a ++ [sps T S X Y (rd C (i : Int))]) ((i + 1 : Nat) : Int) T S C X Y g) R) :
    ∀ d j xs, j + d = X.length → xs.length ≤ j → spD T S X Y (rd C (i : Int)) d j xs = sps T S X Y (rd C (i : Int)) → Ev (fun k => spec_l18Spots.l1 k a (i : Int) xs (j : Int) T S C X Y g) R := by
  have hiC : (i : Int) < (C.length : Int) := by omega
  have hi0 : (0 : Int) ≤ (i : Int) := by omega
  have hwi := wrap_succ hi (show C.length ≤ 9223372036854775807 by omega)
  have ha' : a.length < 5864062014805 := by omega
  intro d
  induction d with
  | zero =>
    intro j xs hj hx hq
    refine Ev.dn ?_
    simp only [spD] at hq
    simp only [spec_l18Spots.l1, if_neg (idx3z hj), if_pos ha', hwi, hq]
    exact hR
  | succ d ih =>
    intro j xs hj hx hq
    simp only [spD] at hq
    obtain ⟨q1, q2, q3, q4, hs, q5, q6, q7⟩ := idx3 h4 e hj hx
    refine Ev.dn ?_
    simp only [spec_l18Spots.l1, if_pos q1, if_pos hi0, if_pos hiC, if_pos q2, if_pos q3, if_pos q4, hs]
    refine Ev.bind (spec_against_ev T S _ _ _ h1 h2) ?_
    by_cases c : ((ags T S (rd C (i : Int)) (rd X (j : Int)) (rd Y (j : Int))).length : Int) = 0
    · rw [show alw T S (rd C (i : Int)) (rd X (j : Int)) (rd Y (j : Int)) = true by unfold alw; simpa using c] at hq
      simp only [if_true] at hq
      simp only [if_pos c]
      exact ih (j + 1) (xs ++ [(j : Int)]) q7 q5 hq
    · rw [show alw T S (rd C (i : Int)) (rd X (j : Int)) (rd Y (j : Int)) = false by unfold alw; simpa using c] at hq
      simp only [Bool.false_eq_true, if_false] at hq
      simp only [if_neg c]
      exact ih (j + 1) xs q7 q6 hq
theorem spec_spots_ev (T : List S98) (S : List S103) (C X Y : List Int) (g : Int) (h1 : T.length ≤ 1000000) (h2 : S.length ≤ 1000000) (h3 : C.length ≤ 1000000) (h4 : X.length ≤ 1000000) (e : Y.length = X.length) :
    Ev (fun k => spec_l18Spots.f k T S C X Y g) (sts T S C X Y) := by
  have outer : ∀ d i a, i + d = C.length → a.length = i → Ev (fun k => spec_l18Spots.l0 k a (i : Int) T S C X Y g) (stD T S C X Y d i a) := by
    intro d
    induction d with
    | zero =>
      intro i a hi ha
      refine Ev.dn ?_
      simp only [spec_l18Spots.l0, if_neg (show ¬ (i : Int) < (C.length : Int) by omega)]
      exact Ev.now _
    | succ d ih =>
      intro i a hi ha
      refine Ev.dn ?_
      simp only [spec_l18Spots.l0, if_pos (show (i : Int) < (C.length : Int) by omega)]
      exact spots_inner T S C X Y g h1 h2 h3 h4 e a i _ (by omega) (by omega) (ih (i + 1) _ (by omega) (by simp; omega)) X.length 0 [] (by omega) (by simp) rfl
  exact outer C.length 0 [] (by omega) rfl
theorem impl_spots_ev (T : List S98) (S : List S103) (C X Y : List Int) (g a : Int) (h1 : T.length ≤ 1000000) (h2 : S.length ≤ 1000000) (h4 : X.length ≤ 1000000) (e : Y.length = X.length) (a0 : 0 ≤ a) (a1 : a < (C.length : Int)) : ∀ d j xs, j + d = X.length → xs.length ≤ j →
    Ev (fun k => impl_SpotsFor.l0 k a xs X (X.length : Int) (j : Int) T S C X Y g) (spD T S X Y (rd C a) d j xs, 0) := by
  intro d
  induction d with
  | zero =>
    intro j xs hj hx
    refine Ev.dn ?_
    simp only [impl_SpotsFor.l0, if_neg (show ¬ (j : Int) < (X.length : Int) by omega)]
    exact Ev.now _
  | succ d ih =>
    intro j xs hj hx
    have hs := wrap_succ (show j < X.length by omega) (show X.length ≤ 9223372036854775807 by omega)
    refine Ev.dn ?_
    simp only [impl_SpotsFor.l0, spD, if_pos (show (j : Int) < (X.length : Int) by omega), if_pos (show (0 : Int) ≤ (j : Int) by omega), if_pos a0, if_pos a1, if_pos (show (j : Int) < (Y.length : Int) by omega), if_pos (show xs.length < 17592186044416 by omega), hs]
    refine Ev.bind (impl_isAllowed_ev T S _ _ _ h1 h2) ?_
    cases alw T S (rd C a) (rd X (j : Int)) (rd Y (j : Int)) with
    | true => simp only [if_true]; exact ih (j + 1) (xs ++ [(j : Int)]) (by omega) (by simp; omega)
    | false => simp only [Bool.false_eq_true, if_false]; exact ih (j + 1) xs (by omega) (by omega)
theorem fldOk_len {T : List S98} {S : List S103} {C X Y : List Int} {g : Int} (h : fldOk T S C X Y g = true) : T.length ≤ 12 ∧ S.length ≤ 10 ∧ C.length ≤ 4 ∧ X.length ≤ 7 ∧ Y.length = X.length := by
  simp only [fldOk, tblOk, siteOk, Bool.and_eq_true, decide_eq_true_eq] at h
  omega
theorem has_ev (l : List Int) (v : Int) (hn : l.length ≤ 1000000) : Ev (fun k => spec_l01Has.f k l v) (!allD (fun j => decide (rd l (j : Int) ≠ v)) 0 l.length) := by
  have h := Ev.allLoop (l := fun k i => spec_l01Has.l0 k l v i) (n := l.length) (fun j => decide (rd l (j : Int) ≠ v)) true false
    (fun i hi => Evt.all fun k => by
      simp only [spec_l01Has.l0]
      rw [if_pos (show (i : Int) < (l.length : Int) by omega), if_pos (show (0 : Int) ≤ (i : Int) by omega), wrap_succ hi (by omega)]
      by_cases c : rd l (i : Int) = v
      · rw [if_pos c, decide_eq_false (fun h => h c), if_neg (by decide)]
      · rw [if_neg c, decide_eq_true c, if_pos rfl])
    (Evt.all fun k => by
      simp only [spec_l01Has.l0]
      rw [if_neg (by omega)]) l.length 0 (by omega)
  unfold spec_l01Has.f
  refine h.eq ?_
  cases allD (fun j => decide (rd l (j : Int) ≠ v)) 0 l.length <;> rfl
theorem mem_spD (T : List S98) (S : List S103) (X Y : List Int) (c v : Int) : ∀ d j xs, v ∈ spD T S X Y c d j xs ↔ v ∈ xs ∨ ∃ n : Nat, j ≤ n ∧ n < j + d ∧ v = (n : Int) ∧ alw T S c (rd X v) (rd Y v) = true
  | 0, j, xs => by
    simp only [spD]
    exact ⟨Or.inl, fun h => h.elim id (fun ⟨n, h1, h2, _⟩ => by omega)⟩
  | d + 1, j, xs => by
    simp only [spD]
    rw [mem_spD T S X Y c v d (j + 1) _]
    constructor
    · rintro (h | ⟨n, h1, h2, h3⟩)
      · split at h
        · rename_i q
          rcases List.mem_append.1 h with h | h
          · exact Or.inl h
          · obtain rfl := List.mem_singleton.1 h
            exact Or.inr ⟨j, Nat.le_refl _, by omega, rfl, q⟩
        · exact Or.inl h
      · exact Or.inr ⟨n, by omega, by omega, h3⟩
    · rintro (h | ⟨n, h1, h2, h3, h4⟩)
      · refine Or.inl ?_
        split
        · exact List.mem_append.2 (Or.inl h)
        · exact h
      · by_cases e : n = j
        · subst e
          subst h3
          rw [if_pos h4]
          exact Or.inl (by simp)
        · exact Or.inr ⟨n, by omega, by omega, h3, h4⟩
theorem mem_sps (T : List S98) (S : List S103) (X Y : List Int) (c v : Int) (h0 : 0 ≤ v) (h1 : v < (X.length : Int)) : v ∈ sps T S X Y c ↔ alw T S c (rd X v) (rd Y v) = true := by
  unfold sps
  rw [mem_spD]
  constructor
  · rintro (h | ⟨n, _, _, _, h⟩)
    · exact absurd h (by simp)
    · exact h
  · intro h
    exact Or.inr ⟨v.toNat, by omega, by omega, by omega, h⟩
theorem sps_len (T : List S98) (S : List S103) (X Y : List Int) (c : Int) : (sps T S X Y c).length ≤ X.length := by
  have := spD_len T S X Y c X.length 0 []
  simpa [sps] using this
def sq2 (X Y : List Int) (a b : Int) : Int := wrap64 ((wrap64 ((wrap64 ((rd X a) - (rd X b))) * (wrap64 ((rd X a) - (rd X b))))) + (wrap64 ((wrap64 ((rd Y a) - (rd Y b))) * (wrap64 ((rd Y a) - (rd Y b))))))
theorem rd_bound {X : List Int} {a b v : Int} (h : allIn X a b = true) (h0 : 0 ≤ v) (h1 : v < (X.length : Int)) : a ≤ rd X v ∧ rd X v ≤ b := by
  obtain ⟨n, rfl⟩ := Int.eq_ofNat_of_zero_le h0
  exact (allIn_iff X a b).1 h n (by omega)
theorem sq2_comm {X Y : List Int} {a b : Int} (hX : allIn X 0 100000 = true) (hY : allIn Y 0 100000 = true) (e : Y.length = X.length) (a0 : 0 ≤ a) (a1 : a < (X.length : Int)) (b0 : 0 ≤ b) (b1 : b < (X.length : Int)) : sq2 X Y a b = sq2 X Y b a := by
  obtain ⟨x1, x2⟩ := rd_bound hX a0 a1
  obtain ⟨x3, x4⟩ := rd_bound hX b0 b1
  obtain ⟨y1, y2⟩ := rd_bound hY a0 (by omega)
  obtain ⟨y3, y4⟩ := rd_bound hY b0 (by omega)
  unfold sq2
  generalize rd X a = p at *
  generalize rd X b = q at *
  generalize rd Y a = s at *
  generalize rd Y b = t at *
  have e1 : wrap64 (p - q) = - wrap64 (q - p) := by rw [wrap_id (by omega) (by omega), wrap_id (by omega) (by omega)]; omega
  have e2 : wrap64 (s - t) = - wrap64 (t - s) := by rw [wrap_id (by omega) (by omega), wrap_id (by omega) (by omega)]; omega
  rw [e1, e2, Int.neg_mul_neg, Int.neg_mul_neg]
theorem fldOk_xy {T : List S98} {S : List S103} {C X Y : List Int} {g : Int} (h : fldOk T S C X Y g = true) : allIn X 0 100000 = true ∧ allIn Y 0 100000 = true := by
  simp only [fldOk, Bool.and_eq_true] at h
  exact ⟨h.1.1.2, h.1.2⟩
theorem copyList_ev (l : List Int) (hn : l.length ≤ 1000000) : Ev (fun k => impl_copyList.f l) l := by
  unfold impl_copyList.f
  simp only [Option.bind_some]
  refine Ev.all (fun k => ?_)
  simp
  try omega
def nwB (p : List Int) (n : Int) : Bool := allD (fun j => decide (rd p (j : Int) ≠ n)) 0 p.length
def apP (X Y p : List Int) (g n : Int) (j : Nat) : Bool := !decide (sq2 X Y (rd p (j : Int)) n < wrap64 (g * g))
def frB (T : List S98) (S : List S103) (C X Y : List Int) (g : Int) (p : List Int) (n : Int) : Bool :=
  alw T S (rd C (p.length : Int)) (rd X n) (rd Y n) && (nwB p n && allD (apP X Y p g n) 0 p.length)
def plA (F : Nat → List (List Int)) : Nat → Nat → List (List Int) → List (List Int)
  | 0, _, a => a
  | e + 1, i, a => plA F e (i + 1) (a ++ F i)
def plD (T : List S98) (S : List S103) (C X Y : List Int) (g : Int) : Nat → List Int → List (List Int)
  | 0, p => [p]
  | d + 1, p => plA (fun n => if frB T S C X Y g p (n : Int) = true then plD T S C X Y g d (p ++ [(n : Int)]) else []) X.length 0 []
theorem plA_len (F : Nat → List (List Int)) (B : Nat) (hF : ∀ n, (F n).length ≤ B) : ∀ e i a, (plA F e i a).length ≤ a.length + e * B
  | 0, _, a => by simp [plA]
  | e + 1, i, a => by
    simp only [plA]
    refine Nat.le_trans (plA_len F B hF e (i + 1) (a ++ F i)) ?_
    have := hF i
    rw [List.length_append, Nat.succ_mul]
    omega
theorem plD_len (T : List S98) (S : List S103) (C X Y : List Int) (g : Int) (hX : X.length ≤ 7) : ∀ d p, (plD T S C X Y g d p).length ≤ 7 ^ d
  | 0, p => by simp [plD]
  | d + 1, p => by
    simp only [plD]
    refine Nat.le_trans (plA_len _ (7 ^ d) (fun n => ?_) X.length 0 []) ?_
    · split
      · exact plD_len T S C X Y g hX d _
      · simp
    · rw [List.length_nil, Nat.zero_add, Nat.pow_succ, Nat.mul_comm (7 ^ d) 7]
      exact Nat.mul_le_mul_right _ hX
def inX (X p : List Int) : Prop := ∀ j : Nat, j < p.length → 0 ≤ rd p (j : Int) ∧ rd p (j : Int) < (X.length : Int)
theorem inX_snoc {X p : List Int} (h : inX X p) (n : Nat) (hn : n < X.length) : inX X (p ++ [(n : Int)]) := by
  intro j hj
  rw [List.length_append, List.length_singleton] at hj
  rw [rd_nat (by rw [List.length_append, List.length_singleton]; exact hj)]
  by_cases c : j < p.length
  · rw [List.getElem_append_left c]
    have := h j c
    rwa [rd_nat c] at this
  · rw [List.getElem_append_right (by omega)]
    simp only [List.getElem_singleton]
    omega
theorem isFree_p_ev (T : List S98) (S : List S103) (C X Y : List Int) (g : Int) (p : List Int) (k1 : T.length ≤ 1000000) (k2 : S.length ≤ 1000000) (hX : allIn X 0 100000 = true) (hY : allIn Y 0 100000 = true) (e : Y.length = X.length) (hp : p.length < C.length) (hn : p.length ≤ 1000000) (hin : inX X p) (n : Nat) (i1 : n < X.length) :
    Ev (fun k => impl_isFree.f k T S C X Y g p (p.length : Int) (n : Int)) (frB T S C X Y g p (n : Int)) := by
  unfold impl_isFree.f
  have n0 : (0 : Int) ≤ (n : Int) := by omega
  have n1 : (n : Int) < (X.length : Int) := by omega
  have n2 : (n : Int) < (Y.length : Int) := by omega
  simp only [if_pos (show (0 : Int) ≤ (p.length : Int) by omega), if_pos (show (p.length : Int) < (C.length : Int) by omega), if_pos n0, if_pos n1, if_pos n2]
  refine Ev.bind (impl_isAllowed_ev T S _ _ _ k1 k2) ?_
  unfold frB
  cases alw T S (rd C (p.length : Int)) (rd X (n : Int)) (rd Y (n : Int)) with
  | false => simp only [Bool.false_eq_true, if_false, Bool.false_and]; exact Ev.now _
  | true =>
  simp only [if_true, Bool.true_and]
  have h := Ev.allLoop (l := fun k j => impl_isFree.l0 k (n : Int) p (p.length : Int) j T S C X Y g) (n := p.length) (fun j => decide (rd p (j : Int) ≠ (n : Int)) && apP X Y p g (n : Int) j) false true
    (fun j hj => Evt.all fun k => by
      obtain ⟨j0, j1⟩ := hin j hj
      have hq : wrap64 ((wrap64 ((wrap64 ((rd X (n : Int)) - (rd X (rd p (j : Int))))) * (wrap64 ((rd X (n : Int)) - (rd X (rd p (j : Int))))))) + (wrap64 ((wrap64 ((rd Y (n : Int)) - (rd Y (rd p (j : Int))))) * (wrap64 ((rd Y (n : Int)) - (rd Y (rd p (j : Int)))))))) = sq2 X Y (rd p (j : Int)) (n : Int) := sq2_comm hX hY e n0 n1 j0 j1
      simp only [impl_isFree.l0, hq]
      rw [if_pos (show (j : Int) < (p.length : Int) by omega), if_pos (show (0 : Int) ≤ (j : Int) by omega), if_pos (show (j : Int) < (p.length : Int) by omega), if_pos n0, if_pos n1, if_pos j0, if_pos j1, if_pos n2, if_pos (show rd p (j : Int) < (Y.length : Int) by omega), wrap_succ hj (by omega)]
      unfold apP
      by_cases c1 : (n : Int) = rd p (j : Int)
      · have n1 : decide (rd p (j : Int) ≠ (n : Int)) = false := decide_eq_false (fun h => h c1.symm)
        rw [if_pos c1, n1, Bool.false_and]
        rfl
      · have n1 : decide (rd p (j : Int) ≠ (n : Int)) = true := decide_eq_true (fun h => c1 h.symm)
        rw [if_neg c1, n1, Bool.true_and]
        by_cases c2 : sq2 X Y (rd p (j : Int)) (n : Int) < wrap64 (g * g)
        · rw [if_pos c2, decide_eq_true c2]
          rfl
        · rw [if_neg c2, decide_eq_false c2]
          rfl)
    (Evt.all fun k => by
      simp only [impl_isFree.l0]
      rw [if_neg (by omega)]) p.length 0 (by omega)
  refine h.eq ?_
  have key : allD (fun j => decide (rd p (j : Int) ≠ (n : Int)) && apP X Y p g (n : Int) j) 0 p.length = (nwB p (n : Int) && allD (apP X Y p g (n : Int)) 0 p.length) := by
    unfold nwB
    rw [Bool.eq_iff_iff, Bool.and_eq_true, allD_iff, allD_iff, allD_iff]
    constructor
    · intro h2
      exact ⟨fun j a b => ((Bool.and_eq_true _ _).mp (h2 j a b)).1, fun j a b => ((Bool.and_eq_true _ _).mp (h2 j a b)).2⟩
    · intro h1 j a b
      exact (Bool.and_eq_true _ _).mpr ⟨h1.1 j a b, h1.2 j a b⟩
  rw [key]
  cases nwB p (n : Int) && allD (apP X Y p g (n : Int)) 0 p.length <;> rfl
theorem len_small {a b i K x : Nat} (h : a ≤ i * K) (hb : b ≤ K) (hi : i < x) (hx : x ≤ 7) (hK : K = 2401) : a + b < 5864062014805 := by
  subst hK
  omega
theorem len_next {a b i K : Nat} (h : a ≤ i * K) (hb : b ≤ K) : a + b ≤ (i + 1) * K := by
  rw [Nat.succ_mul]
  omega
theorem len_keep {a i K : Nat} (h : a ≤ i * K) : a ≤ (i + 1) * K := len_next (b := 0) h (Nat.zero_le _)
theorem impl_placings_ev (T : List S98) (S : List S103) (C X Y : List Int) (g : Int) (k1 : T.length ≤ 1000000) (k2 : S.length ≤ 1000000) (k3 : C.length ≤ 4) (k4 : X.length ≤ 7) (hX : allIn X 0 100000 = true) (hY : allIn Y 0 100000 = true) (e : Y.length = X.length) :
    ∀ d p, p.length + d = C.length → inX X p → Ev (fun k => impl_placings.f k T S C X Y g p) (plD T S C X Y g d p) := by
  intro d
  induction d with
  | zero =>
    intro p hp hi
    refine Ev.dn ?_
    simp only [impl_placings.f, plD, if_pos (show (p.length : Int) = (C.length : Int) by omega)]
    exact Ev.now _
  | succ d ih =>
    intro p hp hi
    refine Ev.dn ?_
    simp only [impl_placings.f, plD, if_neg (show ¬ (p.length : Int) = (C.length : Int) by omega)]
    obtain ⟨K, hK⟩ : ∃ K : Nat, K = 2401 := ⟨_, rfl⟩
    have hB : ∀ n : Nat, (plD T S C X Y g d (p ++ [(n : Int)])).length ≤ K := hK ▸ fun n => Nat.le_trans (plD_len T S C X Y g k4 d _) (Nat.le_trans (Nat.pow_le_pow_right (by decide) (show d ≤ 4 by omega)) (by decide))
    have loop : ∀ m i a, i + m = X.length → a.length ≤ i * K → Ev (fun k => impl_placings.l0 k p (p.length : Int) a (X.length : Int) (i : Int) T S C X Y g) (plA (fun n => if frB T S C X Y g p (n : Int) = true then plD T S C X Y g d (p ++ [(n : Int)]) else []) m i a) := by
      intro m
      induction m with
      | zero =>
        intro i a him ha
        refine Ev.dn ?_
        simp only [impl_placings.l0, if_neg (show ¬ (i : Int) < (X.length : Int) by omega)]
        exact Ev.now _
      | succ m ihm =>
        intro i a him ha
        have hil : i < X.length := by clear ihm ih; omega
        have him' : (i + 1) + m = X.length := by clear ihm ih; omega
        have hp1 : p.length < C.length := by clear ihm ih; omega
        have hp2 : p.length ≤ 1000000 := by clear ihm ih; omega
        have hp3 : p.length + 1 < 17592186044416 := by clear ihm ih; omega
        have hp4 : (p ++ [(i : Int)]).length + d = C.length := by clear ihm ih; rw [List.length_append, List.length_singleton]; omega
        have hw := wrap_succ hil (show X.length ≤ 9223372036854775807 by omega)
        refine Ev.dn ?_
        simp only [impl_placings.l0, plA, if_pos (show (i : Int) < (X.length : Int) by omega), hw, Option.bind_some]
        refine Ev.bind (isFree_p_ev T S C X Y g p k1 k2 hX hY e hp1 hp2 hi i hil) ?_
        cases c : frB T S C X Y g p (i : Int) with
        | false =>
          simp only [Bool.false_eq_true, if_false, List.append_nil]
          exact ihm (i + 1) a him' (len_keep ha)
        | true =>
          simp only [if_true]
          refine Ev.bind (copyList_ev p hp2) ?_
          simp only [List.length_singleton, if_pos hp3]
          refine Ev.bind (ih (p ++ [(i : Int)]) hp4 (inX_snoc hi i hil)) ?_
          have hb := hB i
          simp only [if_pos (len_small ha hb hil k4 hK)]
          exact ihm (i + 1) _ him' (by rw [List.length_append]; exact len_next ha hb)
    exact loop X.length 0 [] (by omega) (by simp)
theorem own_some (l : List Int) (h : l.length ≤ 1000000) : spec_l01Own.f l = some l := by
  unfold spec_l01Own.f
  rw [Option.bind_some, if_pos (by rw [List.length_nil]; omega), List.nil_append]
def flD (F : Int → List (List Int)) (q : List Int) : Nat → Nat → List (List Int) → List (List Int)
  | 0, _, a => a
  | d + 1, i, a => flD F q d (i + 1) (a ++ F (rd q (i : Int)))
theorem flD_eq (F : Int → List (List Int)) (q : List Int) : ∀ d i a, i + d = q.length → flD F q d i a = a ++ (q.drop i).flatMap F
  | 0, i, a, h => by
    rw [List.drop_eq_nil_of_le (by omega)]
    simp [flD]
  | d + 1, i, a, h => by
    simp only [flD]
    rw [flD_eq F q d (i + 1) _ (by omega), List.drop_eq_getElem_cons (show i < q.length by omega), rd_nat (show i < q.length by omega), List.flatMap_cons, List.append_assoc]
theorem plA_eq (G : Nat → List (List Int)) : ∀ e i a, plA G e i a = a ++ (List.range' i e).flatMap G
  | 0, i, a => by simp [plA]
  | e + 1, i, a => by
    simp only [plA]
    rw [plA_eq G e (i + 1) _, List.range'_succ, List.flatMap_cons, List.append_assoc]
theorem spD_eq (T : List S98) (S : List S103) (X Y : List Int) (c : Int) : ∀ d j xs, spD T S X Y c d j xs = xs ++ (List.range' j d).flatMap (fun n : Nat => if alw T S c (rd X (n : Int)) (rd Y (n : Int)) = true then [(n : Int)] else [])
  | 0, j, xs => by simp [spD]
  | d + 1, j, xs => by
    simp only [spD]
    rw [spD_eq T S X Y c d (j + 1) _, List.range'_succ, List.flatMap_cons]
    by_cases c1 : alw T S c (rd X (j : Int)) (rd Y (j : Int)) = true
    · rw [if_pos c1, if_pos c1, List.append_assoc]
    · rw [if_neg c1, if_neg c1, List.nil_append]
def plF (T : List S98) (S : List S103) (C X Y : List Int) (g : Int) (d : Nat) (p : List Int) (s : Int) : List (List Int) :=
  if (nwB p s && allD (apP X Y p g s) 0 p.length) = true then plD T S C X Y g d (p ++ [s]) else []
theorem flD_plD (T : List S98) (S : List S103) (C X Y : List Int) (g : Int) (d : Nat) (p : List Int) :
    flD (plF T S C X Y g d p) (sps T S X Y (rd C (p.length : Int))) (sps T S X Y (rd C (p.length : Int))).length 0 [] = plD T S C X Y g (d + 1) p := by
  rw [flD_eq _ _ _ _ _ (by omega)]
  simp only [plD]
  rw [plA_eq, List.drop_zero, List.nil_append, List.nil_append]
  unfold sps
  rw [spD_eq, List.nil_append, List.flatMap_assoc]
  congr 1
  funext n
  unfold frB plF
  cases alw T S (rd C (p.length : Int)) (rd X (n : Int)) (rd Y (n : Int)) with
  | false => simp
  | true => simp
theorem sps_in (T : List S98) (S : List S103) (X Y : List Int) (c : Int) (i : Nat) (h : i < (sps T S X Y c).length) : ∃ n : Nat, n < X.length ∧ rd (sps T S X Y c) (i : Int) = (n : Int) := by
  have hm : rd (sps T S X Y c) (i : Int) ∈ sps T S X Y c := by
    rw [rd_nat h]
    exact List.getElem_mem h
  unfold sps at hm ⊢
  rcases (mem_spD T S X Y c _ _ _ _).1 hm with h1 | ⟨n, _, h2, h3, _⟩
  · exact absurd h1 (by simp)
  · exact ⟨n, by omega, h3⟩
theorem square_some (T : List S98) (S : List S103) (C X Y : List Int) (g a b : Int) (e : Y.length = X.length) (a0 : 0 ≤ a) (a1 : a < (X.length : Int)) (b0 : 0 ≤ b) (b1 : b < (X.length : Int)) : spec_l18Square.f T S C X Y g a b = some (sq2 X Y a b) := by
  unfold spec_l18Square.f sq2
  rw [if_pos a0, if_pos a1, if_pos b0, if_pos b1, if_pos (by omega), if_pos (by omega)]
theorem all_l1 (T : List S98) (S : List S103) (C X Y : List Int) (g : Int) (L : List (List Int)) (p : List Int) (a : List (List Int)) (q : List Int) (i n : Nat) (e : Y.length = X.length) (hi : i < q.length) (hq : q.length ≤ 1000000) (hp : p.length ≤ 1000000) (hin : inX X p) (hn : n < X.length) (hr : rd q (i : Int) = (n : Int)) (R : List (List Int)) :
    ∀ d j (b : Bool), j + d = p.length → Ev (fun k => spec_l18All.l1 k L p a q (i : Int) (b && allD (apP X Y p g (n : Int)) j d) (p.length : Int) T S C X Y g) R → Ev (fun k => spec_l18All.l1 k L p a q (i : Int) b (j : Int) T S C X Y g) R := by
  have i0 : (0 : Int) ≤ (i : Int) := by omega
  have i1 : (i : Int) < (q.length : Int) := by omega
  intro d
  induction d with
  | zero =>
    intro j b hj h
    obtain rfl : j = p.length := by omega
    simp only [allD, Bool.and_true] at h
    exact h
  | succ d ih =>
    intro j b hj h
    have hjl : j < p.length := by clear ih; omega
    have hw := wrap_succ hjl (show p.length ≤ 9223372036854775807 by clear ih; omega)
    have j0 : (0 : Int) ≤ (j : Int) := by clear ih; omega
    have j1 : (j : Int) < (p.length : Int) := by clear ih; omega
    have hj' : j + 1 + d = p.length := by clear ih; omega
    obtain ⟨s0, s1⟩ := hin j hjl
    refine Ev.dn ?_
    simp only [allD] at h
    cases b with
    | false =>
      simp only [spec_l18All.l1, if_pos j1, Bool.false_eq_true, if_false, hw]
      refine ih (j + 1) false hj' ?_
      simp only [Bool.false_and] at h ⊢
      exact h
    | true =>
      simp only [spec_l18All.l1, if_pos j1, if_true, if_pos j0, if_pos i0, if_pos i1, hr, square_some T S C X Y g _ _ e s0 s1 (Int.natCast_nonneg n) (Int.ofNat_lt.2 hn), Option.bind_some, hw]
      refine ih (j + 1) _ hj' ?_
      have ha : decide (sq2 X Y (rd p (j : Int)) (n : Int) ≥ wrap64 (g * g)) = apP X Y p g (n : Int) j := by
        unfold apP
        by_cases c : sq2 X Y (rd p (j : Int)) (n : Int) < wrap64 (g * g)
        · rw [decide_eq_true c, decide_eq_false (by omega)]; rfl
        · rw [decide_eq_false c, decide_eq_true (by omega)]; rfl
      rw [ha]
      simpa only [Bool.true_and] using h
theorem spec_all_ev (T : List S98) (S : List S103) (C X Y : List Int) (g : Int) (k3 : C.length ≤ 4) (k4 : X.length ≤ 7) (e : Y.length = X.length) :
    ∀ d p, p.length + d = C.length → inX X p → Ev (fun k => spec_l18All.f k T S C X Y g (sts T S C X Y) p) (plD T S C X Y g d p) := by
  intro d
  induction d with
  | zero =>
    intro p hp hi
    refine Ev.dn ?_
    simp only [spec_l18All.f, plD, sts_len, if_pos (show (p.length : Int) = (C.length : Int) by omega)]
    exact Ev.now _
  | succ d ih =>
    intro p hp hi
    have hp1 : p.length ≤ 1000000 := by clear ih; omega
    have hp2 : (p.length : Int) < (C.length : Int) := by clear ih; omega
    have hp0 : (0 : Int) ≤ (p.length : Int) := by clear ih; omega
    have hpl : ¬ (p.length : Int) < (p.length : Int) := by clear ih; omega
    have hp3 : p.length + 1 < 17592186044416 := by clear ih; omega
    obtain ⟨K, hK⟩ : ∃ K : Nat, K = 2401 := ⟨_, rfl⟩
    have hB : ∀ s : Int, (plD T S C X Y g d (p ++ [s])).length ≤ K := hK ▸ fun s => Nat.le_trans (plD_len T S C X Y g k4 d _) (Nat.le_trans (Nat.pow_le_pow_right (by decide) (show d ≤ 4 by omega)) (by decide))
    have hsl := sps_len T S X Y (rd C (p.length : Int))
    have hE : Ev (fun k => spec_l18All.l0 k (sts T S C X Y) p [] (sps T S X Y (rd C (p.length : Int))) ((0 : Nat) : Int) T S C X Y g) (flD (plF T S C X Y g d p) (sps T S X Y (rd C (p.length : Int))) (sps T S X Y (rd C (p.length : Int))).length 0 []) := by
      have hin := sps_in T S X Y (rd C (p.length : Int))
      generalize sps T S X Y (rd C (p.length : Int)) = q at hsl hin
      have hq7 : q.length ≤ 7 := by clear ih; omega
      have loop : ∀ m i a, i + m = q.length → a.length ≤ i * K → Ev (fun k => spec_l18All.l0 k (sts T S C X Y) p a q (i : Int) T S C X Y g) (flD (plF T S C X Y g d p) q m i a) := by
        intro m
        induction m with
        | zero =>
          intro i a him ha
          refine Ev.dn ?_
          simp only [spec_l18All.l0, if_neg (show ¬ (i : Int) < (q.length : Int) by omega)]
          exact Ev.now _
        | succ m ihm =>
          intro i a him ha
          have hil : i < q.length := by clear ihm ih; omega
          have him' : (i + 1) + m = q.length := by clear ihm ih; omega
          have hq6 : q.length ≤ 1000000 := by clear ihm ih; omega
          have i0 : (0 : Int) ≤ (i : Int) := by clear ihm ih; omega
          have i1 : (i : Int) < (q.length : Int) := by clear ihm ih; omega
          have hw := wrap_succ hil (show q.length ≤ 9223372036854775807 by clear ihm ih; omega)
          obtain ⟨n, hn, hr⟩ := hin i hil
          refine Ev.dn ?_
          simp only [spec_l18All.l0, flD, if_pos i1, if_pos i0, hr]
          refine Ev.bind (has_ev p (n : Int) hp1) ?_
          simp only [Bool.not_not]
          refine all_l1 T S C X Y g (sts T S C X Y) p a q i n e hil hq6 hp1 hi hn hr _ p.length 0 _ (by clear ihm ih; omega) ?_
          refine Ev.dn ?_
          rw [show allD (fun j => decide (rd p (j : Int) ≠ (n : Int))) 0 p.length = nwB p (n : Int) from rfl]
          unfold plF
          cases c : nwB p (n : Int) && allD (apP X Y p g (n : Int)) 0 p.length with
          | false =>
            simp only [spec_l18All.l1, if_neg hpl, Bool.false_eq_true, if_false, hw, List.append_nil]
            exact ihm (i + 1) a him' (len_keep ha)
          | true =>
            simp only [spec_l18All.l1, if_neg hpl, if_true, hw, own_some p hp1, Option.bind_some, if_pos i0, if_pos i1, hr, List.length_singleton, if_pos hp3]
            refine Ev.bind (ih (p ++ [(n : Int)]) (by rw [List.length_append, List.length_singleton]; clear ihm ih; omega) (inX_snoc hi n hn)) ?_
            simp only [if_pos (len_small ha (hB (n : Int)) hil hq7 hK)]
            exact ihm (i + 1) _ him' (by rw [List.length_append]; exact len_next ha (hB (n : Int)))
      exact loop q.length 0 [] (by omega) (by simp)
    rw [flD_plD] at hE
    refine Ev.dn ?_
    simp only [spec_l18All.f, sts_len, if_neg (show ¬ (p.length : Int) = (C.length : Int) by omega), if_pos hp0, if_pos hp2, sts_rd T S C X Y (p.length : Int) hp0 hp2]
    exact hE
theorem plA_all {Q : List Int → Prop} (F : Nat → List (List Int)) (hF : ∀ n, ∀ x ∈ F n, Q x) : ∀ e i a, (∀ x ∈ a, Q x) → ∀ x ∈ plA F e i a, Q x
  | 0, _, a, h => h
  | e + 1, i, a, h => plA_all F hF e (i + 1) (a ++ F i) (fun x hx => (List.mem_append.1 hx).elim (h x) (hF i x))
theorem plD_all (T : List S98) (S : List S103) (C X Y : List Int) (g : Int) : ∀ d p, ∀ x ∈ plD T S C X Y g d p, x.length = p.length + d
  | 0, p => fun x hx => by
    obtain rfl := List.mem_singleton.1 hx
    rfl
  | d + 1, p => by
    simp only [plD]
    refine plA_all (Q := fun x => x.length = p.length + (d + 1)) _ (fun n x hx => ?_) X.length 0 [] (fun x hx => absurd hx (by simp))
    split at hx
    · have := plD_all T S C X Y g d _ x hx
      rw [List.length_append, List.length_singleton] at this
      omega
    · exact absurd hx (by simp)
theorem rd_L5_mem {P : List (List Int)} {i : Nat} (h : i < P.length) : rd_L5 P (i : Int) ∈ P := by
  have e : rd_L5 P (i : Int) = P[i] := by simp [rd_L5, h]
  rw [e]
  exact List.getElem_mem h
def neB (l : List (List Int)) : Bool := !l.isEmpty
theorem neB_iff (l : List (List Int)) : neB l = true ↔ l ≠ [] := by cases l <;> simp [neB]
theorem neB_plA (F : Nat → List (List Int)) (m i : Nat) : neB (plA F (m + 1) i []) = (neB (F i) || neB (plA F m (i + 1) [])) := by
  rw [plA_eq, plA_eq, List.nil_append, List.nil_append, List.range'_succ, List.flatMap_cons]
  unfold neB
  generalize F i = a
  generalize (List.range' (i + 1) m).flatMap F = b
  cases a <;> cases b <;> simp
theorem hasPlacing_ev (T : List S98) (S : List S103) (C X Y : List Int) (g : Int) (k1 : T.length ≤ 1000000) (k2 : S.length ≤ 1000000) (k3 : C.length ≤ 4) (k4 : X.length ≤ 7) (hX : allIn X 0 100000 = true) (hY : allIn Y 0 100000 = true) (e : Y.length = X.length) :
    ∀ d p, p.length + d = C.length → inX X p → Ev (fun k => impl_hasPlacing.f k T S C X Y g p) (neB (plD T S C X Y g d p)) := by
  intro d
  induction d with
  | zero =>
    intro p hp hi
    refine Ev.dn ?_
    simp only [impl_hasPlacing.f, plD, if_pos (show (p.length : Int) = (C.length : Int) by omega)]
    exact Ev.now _
  | succ d ih =>
    intro p hp hi
    refine Ev.dn ?_
    simp only [impl_hasPlacing.f, plD, if_neg (show ¬ (p.length : Int) = (C.length : Int) by omega)]
    have loop : ∀ m i, i + m = X.length → Ev (fun k => impl_hasPlacing.l0 k p (p.length : Int) (X.length : Int) (i : Int) T S C X Y g) (neB (plA (fun n => if frB T S C X Y g p (n : Int) = true then plD T S C X Y g d (p ++ [(n : Int)]) else []) m i [])) := by
      intro m
      induction m with
      | zero =>
        intro i him
        refine Ev.dn ?_
        simp only [impl_hasPlacing.l0, if_neg (show ¬ (i : Int) < (X.length : Int) by omega)]
        exact Ev.now _
      | succ m ihm =>
        intro i him
        have hil : i < X.length := by clear ihm ih; omega
        have him' : (i + 1) + m = X.length := by clear ihm ih; omega
        have hp1 : p.length < C.length := by clear ihm ih; omega
        have hp2 : p.length ≤ 1000000 := by clear ihm ih; omega
        have hp3 : p.length + 1 < 17592186044416 := by clear ihm ih; omega
        have hp4 : (p ++ [(i : Int)]).length + d = C.length := by clear ihm ih; rw [List.length_append, List.length_singleton]; omega
        have hw := wrap_succ hil (show X.length ≤ 9223372036854775807 by omega)
        rw [neB_plA]
        refine Ev.dn ?_
        simp only [impl_hasPlacing.l0, if_pos (show (i : Int) < (X.length : Int) by omega), hw, Option.bind_some]
        refine Ev.bind (isFree_p_ev T S C X Y g p k1 k2 hX hY e hp1 hp2 hi i hil) ?_
        cases c : frB T S C X Y g p (i : Int) with
        | false =>
          simp only [Bool.false_eq_true, if_false, neB, List.isEmpty_nil, Bool.not_true, Bool.false_or]
          exact ihm (i + 1) him'
        | true =>
          simp only [if_true]
          refine Ev.bind (copyList_ev p hp2) ?_
          simp only [List.length_singleton, if_pos hp3]
          refine Ev.bind (ih (p ++ [(i : Int)]) hp4 (inX_snoc hi i hil)) ?_
          cases neB (plD T S C X Y g d (p ++ [(i : Int)])) with
          | false =>
            simp only [Bool.false_eq_true, if_false, Bool.false_or]
            exact ihm (i + 1) him'
          | true =>
            simp only [if_true, Bool.true_or]
            exact Ev.now _
    exact loop X.length 0 (by omega)
theorem mul_self_bd (u : Int) (h1 : -100000 ≤ u) (h2 : u ≤ 100000) : 0 ≤ u * u ∧ u * u ≤ 10000000000 := by
  rcases Int.le_total 0 u with h | h
  · exact ⟨Int.mul_nonneg h h, by have := Int.mul_le_mul h2 h2 h (by omega); omega⟩
  · rw [show u * u = (-u) * (-u) from (Int.neg_mul_neg u u).symm]
    exact ⟨Int.mul_nonneg (by omega) (by omega), by have := Int.mul_le_mul (show -u ≤ 100000 by omega) (show -u ≤ 100000 by omega) (by omega) (by omega); omega⟩
theorem sq2_bd {X Y : List Int} {a b : Int} (hX : allIn X 0 100000 = true) (hY : allIn Y 0 100000 = true) (e : Y.length = X.length) (a0 : 0 ≤ a) (a1 : a < (X.length : Int)) (b0 : 0 ≤ b) (b1 : b < (X.length : Int)) : 0 ≤ sq2 X Y a b ∧ sq2 X Y a b ≤ 20000000000 := by
  obtain ⟨x1, x2⟩ := rd_bound hX a0 a1
  obtain ⟨x3, x4⟩ := rd_bound hX b0 b1
  obtain ⟨y1, y2⟩ := rd_bound hY a0 (by omega)
  obtain ⟨y3, y4⟩ := rd_bound hY b0 (by omega)
  unfold sq2
  generalize rd X a = p at *
  generalize rd X b = q at *
  generalize rd Y a = s at *
  generalize rd Y b = t at *
  rw [wrap_id (x := p - q) (by omega) (by omega), wrap_id (x := s - t) (by omega) (by omega)]
  obtain ⟨m1, m2⟩ := mul_self_bd (p - q) (by omega) (by omega)
  obtain ⟨m3, m4⟩ := mul_self_bd (s - t) (by omega) (by omega)
  generalize (p - q) * (p - q) = m at *
  generalize (s - t) * (s - t) = n at *
  rw [wrap_id (x := m) (by omega) (by omega), wrap_id (x := n) (by omega) (by omega), wrap_id (x := m + n) (by omega) (by omega)]
  omega
theorem ap_zero {X Y p : List Int} (hX : allIn X 0 100000 = true) (hY : allIn Y 0 100000 = true) (e : Y.length = X.length) (hin : inX X p) {n : Nat} (hn : n < X.length) {j : Nat} (hj : j < p.length) : apP X Y p 0 (n : Int) j = true := by
  obtain ⟨j0, j1⟩ := hin j hj
  have h := (sq2_bd hX hY e j0 j1 (Int.natCast_nonneg n) (Int.ofNat_lt.2 hn)).1
  have w : wrap64 (0 * 0) = 0 := wrap_id (x := 0) (by omega) (by omega)
  unfold apP
  rw [w, decide_eq_false (by omega)]
  rfl
theorem fr_gap (T : List S98) (S : List S103) (C : List Int) {X Y p : List Int} (g : Int) (hX : allIn X 0 100000 = true) (hY : allIn Y 0 100000 = true) (e : Y.length = X.length) (hin : inX X p) {n : Nat} (hn : n < X.length) :
    frB T S C X Y g p (n : Int) = true ↔ (frB T S C X Y 0 p (n : Int) = true ∧ ∀ j : Nat, j < p.length → apP X Y p g (n : Int) j = true) := by
  have h0 : allD (apP X Y p 0 (n : Int)) 0 p.length = true := (allD_iff _ _ _).2 fun j _ hj => ap_zero hX hY e hin hn (by omega)
  unfold frB
  rw [h0, Bool.and_true, Bool.and_eq_true, Bool.and_eq_true, Bool.and_eq_true, allD_iff]
  constructor
  · rintro ⟨h1, h2, h3⟩
    exact ⟨⟨h1, h2⟩, fun j hj => h3 j (by omega) (by omega)⟩
  · rintro ⟨⟨h1, h2⟩, h3⟩
    exact ⟨h1, h2, fun j _ hj => h3 j (by omega)⟩
theorem mem_plD (T : List S98) (S : List S103) (C X Y : List Int) (g : Int) (d : Nat) (p x : List Int) :
    x ∈ plD T S C X Y g (d + 1) p ↔ ∃ n : Nat, n < X.length ∧ frB T S C X Y g p (n : Int) = true ∧ x ∈ plD T S C X Y g d (p ++ [(n : Int)]) := by
  simp only [plD]
  rw [plA_eq, List.nil_append, List.mem_flatMap]
  constructor
  · rintro ⟨n, hn, hx⟩
    by_cases c : frB T S C X Y g p (n : Int) = true
    · rw [if_pos c] at hx
      exact ⟨n, by have := (List.mem_range'_1.1 hn).2; omega, c, hx⟩
    · rw [if_neg c] at hx
      exact absurd hx (by simp)
  · rintro ⟨n, hn, c, hx⟩
    exact ⟨n, List.mem_range'_1.2 ⟨by omega, by omega⟩, by rw [if_pos c]; exact hx⟩
theorem plD_pre (T : List S98) (S : List S103) (C X Y : List Int) (g : Int) : ∀ d p x, x ∈ plD T S C X Y g d p → ∃ q, x = p ++ q
  | 0, p, x, h => ⟨[], by rw [List.append_nil]; exact List.mem_singleton.1 h⟩
  | d + 1, p, x, h => by
    obtain ⟨n, _, _, hx⟩ := (mem_plD T S C X Y g d p x).1 h
    obtain ⟨q, rfl⟩ := plD_pre T S C X Y g d _ x hx
    exact ⟨(n : Int) :: q, by simp⟩
theorem rd_left {p q : List Int} {j : Nat} (h : j < p.length) : rd (p ++ q) (j : Int) = rd p (j : Int) := by
  rw [rd_nat h, rd_nat (by rw [List.length_append]; omega), List.getElem_append_left h]
theorem rd_mid {p q : List Int} {v : Int} : rd (p ++ [v] ++ q) (p.length : Int) = v := by
  rw [rd_nat (by simp <;> omega)]
  simp
theorem plD_gap (T : List S98) (S : List S103) (C X Y : List Int) (g : Int) (hX : allIn X 0 100000 = true) (hY : allIn Y 0 100000 = true) (e : Y.length = X.length) : ∀ d p, inX X p → ∀ x,
    x ∈ plD T S C X Y g d p ↔ (x ∈ plD T S C X Y 0 d p ∧ ∀ k : Nat, p.length ≤ k → k < p.length + d → ∀ j : Nat, j < k → apP X Y x g (rd x (k : Int)) j = true) := by
  intro d
  induction d with
  | zero =>
    intro p _ x
    simp only [plD]
    exact ⟨fun h => ⟨h, fun k h1 h2 => by omega⟩, fun h => h.1⟩
  | succ d ih =>
    intro p hin x
    have key : ∀ n : Nat, x ∈ plD T S C X Y 0 d (p ++ [(n : Int)]) → ∀ j : Nat, j < p.length → apP X Y x g (rd x (p.length : Int)) j = apP X Y p g (n : Int) j := by
      intro n hx j hj
      obtain ⟨q, rfl⟩ := plD_pre T S C X Y 0 d _ x hx
      unfold apP
      rw [rd_mid, List.append_assoc, rd_left hj]
    constructor
    · intro h
      obtain ⟨n, hn, hf, hx⟩ := (mem_plD T S C X Y g d p x).1 h
      obtain ⟨hx0, hk⟩ := (ih (p ++ [(n : Int)]) (inX_snoc hin n hn) x).1 hx
      obtain ⟨f0, fa⟩ := (fr_gap T S C g hX hY e hin hn).1 hf
      refine ⟨(mem_plD T S C X Y 0 d p x).2 ⟨n, hn, f0, hx0⟩, fun k k1 k2 j hj => ?_⟩
      by_cases c : k = p.length
      · subst c
        rw [key n hx0 j hj]
        exact fa j hj
      · exact hk k (by rw [List.length_append, List.length_singleton]; omega) (by rw [List.length_append, List.length_singleton]; omega) j hj
    · rintro ⟨h0, hk⟩
      obtain ⟨n, hn, f0, hx0⟩ := (mem_plD T S C X Y 0 d p x).1 h0
      refine (mem_plD T S C X Y g d p x).2 ⟨n, hn, (fr_gap T S C g hX hY e hin hn).2 ⟨f0, fun j hj => ?_⟩, (ih (p ++ [(n : Int)]) (inX_snoc hin n hn) x).2 ⟨hx0, fun k k1 k2 j hj => ?_⟩⟩
      · rw [← key n hx0 j hj]
        exact hk p.length (Nat.le_refl _) (by omega) j hj
      · rw [List.length_append, List.length_singleton] at k1 k2
        exact hk k (by omega) (by omega) j hj
theorem mem_inX (T : List S98) (S : List S103) (C X Y : List Int) (g : Int) : ∀ d p, inX X p → ∀ x, x ∈ plD T S C X Y g d p → inX X x
  | 0, p, hp, x, h => by rw [List.mem_singleton.1 h]; exact hp
  | d + 1, p, hp, x, h => by
    obtain ⟨n, hn, _, hx⟩ := (mem_plD T S C X Y g d p x).1 h
    exact mem_inX T S C X Y g d _ (inX_snoc hp n hn) x hx
theorem le_mn {g a b : Int} : g ≤ mn a b ↔ g ≤ a ∧ g ≤ b := by
  unfold mn
  split <;> omega
theorem le_mx {g a b : Int} : g ≤ mx a b ↔ g ≤ a ∨ g ≤ b := by
  unfold mx
  split <;> omega
def gpJ (R : Int → Int) (X Y x : List Int) (k : Nat) : Nat → Nat → Int → Int
  | 0, _, a => a
  | d + 1, j, a => gpJ R X Y x k d (j + 1) (mn a (R (sq2 X Y (rd x (j : Int)) (rd x (k : Int)))))
def gpK (R : Int → Int) (X Y x : List Int) : Nat → Nat → Int → Int
  | 0, _, a => a
  | d + 1, k, a => gpK R X Y x d (k + 1) (gpJ R X Y x k k 0 a)
def gpI (R : Int → Int) (X Y : List Int) (P : List (List Int)) : Nat → Nat → Int → Int
  | 0, _, b => b
  | d + 1, i, b => gpI R X Y P d (i + 1) (mx b (gpK R X Y (rd_L5 P (i : Int)) (rd_L5 P (i : Int)).length 0 10000))
theorem gpJ_le (R : Int → Int) (X Y x : List Int) (k : Nat) (g : Int) : ∀ d j a, g ≤ gpJ R X Y x k d j a ↔ (g ≤ a ∧ ∀ i : Nat, j ≤ i → i < j + d → g ≤ R (sq2 X Y (rd x (i : Int)) (rd x (k : Int))))
  | 0, j, a => ⟨fun h => ⟨h, fun i h1 h2 => by omega⟩, fun h => h.1⟩
  | d + 1, j, a => by
    simp only [gpJ]
    rw [gpJ_le R X Y x k g d (j + 1) _, le_mn]
    constructor
    · rintro ⟨⟨h1, h2⟩, h3⟩
      refine ⟨h1, fun i i1 i2 => ?_⟩
      by_cases c : i = j
      · subst c; exact h2
      · exact h3 i (by omega) (by omega)
    · rintro ⟨h1, h2⟩
      exact ⟨⟨h1, h2 j (Nat.le_refl _) (by omega)⟩, fun i i1 i2 => h2 i (by omega) (by omega)⟩
theorem gpK_le (R : Int → Int) (X Y x : List Int) (g : Int) : ∀ d k a, g ≤ gpK R X Y x d k a ↔ (g ≤ a ∧ ∀ i : Nat, k ≤ i → i < k + d → ∀ j : Nat, j < i → g ≤ R (sq2 X Y (rd x (j : Int)) (rd x (i : Int))))
  | 0, k, a => ⟨fun h => ⟨h, fun i h1 h2 => by omega⟩, fun h => h.1⟩
  | d + 1, k, a => by
    simp only [gpK]
    rw [gpK_le R X Y x g d (k + 1) _, gpJ_le]
    constructor
    · rintro ⟨⟨h1, h2⟩, h3⟩
      refine ⟨h1, fun i i1 i2 j hj => ?_⟩
      by_cases c : i = k
      · subst c; exact h2 j (Nat.zero_le _) (by omega)
      · exact h3 i (by omega) (by omega) j hj
    · rintro ⟨h1, h2⟩
      exact ⟨⟨h1, fun j _ hj => h2 k (Nat.le_refl _) (by omega) j (by omega)⟩, fun i i1 i2 j hj => h2 i (by omega) (by omega) j hj⟩
theorem gpI_le (R : Int → Int) (X Y : List Int) (P : List (List Int)) (g : Int) : ∀ d i b, g ≤ gpI R X Y P d i b ↔ (g ≤ b ∨ ∃ j : Nat, i ≤ j ∧ j < i + d ∧ g ≤ gpK R X Y (rd_L5 P (j : Int)) (rd_L5 P (j : Int)).length 0 10000)
  | 0, i, b => ⟨fun h => .inl h, fun h => h.elim id fun ⟨j, h1, h2, _⟩ => by omega⟩
  | d + 1, i, b => by
    simp only [gpI]
    rw [gpI_le R X Y P g d (i + 1) _, le_mx]
    constructor
    · rintro ((h | h) | ⟨j, h1, h2, h3⟩)
      · exact .inl h
      · exact .inr ⟨i, Nat.le_refl _, by omega, h⟩
      · exact .inr ⟨j, by omega, by omega, h3⟩
    · rintro (h | ⟨j, h1, h2, h3⟩)
      · exact .inl (.inl h)
      · by_cases c : j = i
        · subst c; exact .inl (.inr h3)
        · exact .inr ⟨j, by omega, by omega, h3⟩
def isRoot (R : Int → Int) : Prop := ∀ s g : Int, 0 ≤ s → s ≤ 20000000000 → 0 ≤ g → g ≤ 10000 → (g ≤ R s ↔ g * g ≤ s)
theorem gap_far {R : Int → Int} (hR : isRoot R) {X Y x : List Int} (hX : allIn X 0 100000 = true) (hY : allIn Y 0 100000 = true) (e : Y.length = X.length) (hin : inX X x) {g : Int} (g0 : 0 ≤ g) (g1 : g ≤ 10000) :
    g ≤ gpK R X Y x x.length 0 10000 ↔ ∀ k : Nat, k < x.length → ∀ j : Nat, j < k → apP X Y x g (rd x (k : Int)) j = true := by
  have gg : wrap64 (g * g) = g * g := by
    have := mul_self_bd g (by omega) (by omega)
    exact wrap_id (by omega) (by omega)
  rw [gpK_le]
  have key : ∀ k j : Nat, k < x.length → j < k → (g ≤ R (sq2 X Y (rd x (j : Int)) (rd x (k : Int))) ↔ apP X Y x g (rd x (k : Int)) j = true) := by
    intro k j hk hj
    obtain ⟨a0, a1⟩ := hin j (by omega)
    obtain ⟨b0, b1⟩ := hin k hk
    obtain ⟨s0, s1⟩ := sq2_bd hX hY e a0 a1 b0 b1
    rw [hR _ g s0 s1 g0 g1]
    unfold apP
    rw [gg]
    simp
  constructor
  · rintro ⟨_, h⟩ k hk j hj
    exact (key k j hk hj).1 (h k (Nat.zero_le _) (by omega) j hj)
  · intro h
    exact ⟨g1, fun k _ hk j hj => (key k j (by omega) hj).2 (h k (by omega) j hj)⟩
theorem has_gap {R : Int → Int} (hR : isRoot R) (T : List S98) (S : List S103) (C X Y : List Int) (hX : allIn X 0 100000 = true) (hY : allIn Y 0 100000 = true) (e : Y.length = X.length) {g : Int} (g0 : 0 ≤ g) (g1 : g ≤ 10000) :
    plD T S C X Y g C.length [] ≠ [] ↔ (plD T S C X Y 0 C.length [] ≠ [] ∧ g ≤ gpI R X Y (plD T S C X Y 0 C.length []) (plD T S C X Y 0 C.length []).length 0 0) := by
  have hin0 : inX X [] := fun j hj => absurd hj (by simp)
  have hm : ∀ x, x ∈ plD T S C X Y g C.length [] ↔ (x ∈ plD T S C X Y 0 C.length [] ∧ g ≤ gpK R X Y x x.length 0 10000) := by
    intro x
    rw [plD_gap T S C X Y g hX hY e C.length [] hin0 x]
    constructor
    · rintro ⟨h1, h2⟩
      have hl := plD_all T S C X Y 0 C.length [] x h1
      rw [List.length_nil, Nat.zero_add] at hl
      refine ⟨h1, (gap_far hR hX hY e (mem_inX T S C X Y 0 C.length [] hin0 x h1) g0 g1).2 fun k hk j hj => h2 k (Nat.zero_le _) (by rw [List.length_nil]; omega) j hj⟩
    · rintro ⟨h1, h2⟩
      have hl := plD_all T S C X Y 0 C.length [] x h1
      rw [List.length_nil, Nat.zero_add] at hl
      refine ⟨h1, fun k _ hk j hj => (gap_far hR hX hY e (mem_inX T S C X Y 0 C.length [] hin0 x h1) g0 g1).1 h2 k (by rw [List.length_nil] at hk; omega) j hj⟩
  rw [gpI_le]
  constructor
  · intro h
    obtain ⟨x, hx⟩ := List.exists_mem_of_ne_nil _ h
    obtain ⟨h1, h2⟩ := (hm x).1 hx
    refine ⟨List.ne_nil_of_mem h1, .inr ?_⟩
    obtain ⟨i, hi, hx⟩ := List.mem_iff_getElem.1 h1
    have er : rd_L5 (plD T S C X Y 0 C.length []) (i : Int) = x := by rw [← hx]; simp [rd_L5, hi]
    exact ⟨i, Nat.zero_le _, by omega, by rw [er]; exact h2⟩
  · rintro ⟨h1, h2⟩
    rcases h2 with h2 | ⟨j, _, hj, h3⟩
    · obtain ⟨x, hx⟩ := List.exists_mem_of_ne_nil _ h1
      have : g = 0 := by omega
      subst this
      exact h1
    · exact List.ne_nil_of_mem ((hm _).2 ⟨rd_L5_mem (by omega), h3⟩)
theorem gpI_bd (R : Int → Int) (X Y : List Int) (P : List (List Int)) (b : Int) (d i : Nat) (h0 : 0 ≤ b) (h1 : b ≤ 10000) : 0 ≤ gpI R X Y P d i b ∧ gpI R X Y P d i b ≤ 10000 := by
  constructor
  · exact (gpI_le R X Y P 0 d i b).2 (.inl h0)
  · apply Classical.byContradiction
    intro h
    rcases (gpI_le R X Y P 10001 d i b).1 (by omega) with h2 | ⟨j, _, _, h3⟩
    · omega
    · have := ((gpK_le R X Y _ 10001 _ 0 10000).1 h3).1
      omega
theorem wrap_add3 (s x y : Int) : wrap64 (wrap64 (s + x) + y) = wrap64 (s + wrap64 (x + y)) := by unfold wrap64; omega
def coD (X Y l : List Int) : Nat → Nat → Int → Int
  | 0, _, s => s
  | d + 1, i, s => coD X Y l d (i + 1) (wrap64 (s + wrap64 (rd X (rd l (i : Int)) + rd Y (rd l (i : Int)))))
theorem cost_ev (T : List S98) (S : List S103) (C X Y : List Int) (g : Int) (l : List Int) (e : Y.length = X.length) (hn : l.length ≤ 1000000) (hin : ∀ j : Nat, j < l.length → 0 ≤ rd l (j : Int) ∧ rd l (j : Int) < (X.length : Int)) : ∀ d i s, i + d = l.length →
    Ev (fun k => spec_l18Cost.l0 k l s (i : Int) T S C X Y g) (coD X Y l d i s) ∧ Ev (fun k => impl_costOf.l0 k s l (l.length : Int) (i : Int) T S C X Y g) (coD X Y l d i s) := by
  intro d
  induction d with
  | zero =>
    intro i s hi
    refine ⟨Ev.dn ?_, Ev.dn ?_⟩
    · simp only [spec_l18Cost.l0, if_neg (show ¬ (i : Int) < (l.length : Int) by omega)]; exact Ev.now _
    · simp only [impl_costOf.l0, if_neg (show ¬ (i : Int) < (l.length : Int) by omega)]; exact Ev.now _
  | succ d ih =>
    intro i s hi
    obtain ⟨i0, i1⟩ := hin i (by omega)
    have hw := wrap_succ (show i < l.length by omega) (show l.length ≤ 9223372036854775807 by omega)
    have h1 := ih (i + 1) (wrap64 (s + wrap64 (rd X (rd l (i : Int)) + rd Y (rd l (i : Int))))) (by omega)
    refine ⟨Ev.dn ?_, Ev.dn ?_⟩
    · simp only [spec_l18Cost.l0, coD, if_pos (show (i : Int) < (l.length : Int) by omega), if_pos (show (0 : Int) ≤ (i : Int) by omega), if_pos i0, if_pos i1, if_pos (show rd l (i : Int) < (Y.length : Int) by omega), hw, wrap_add3]
      exact h1.1
    · simp only [impl_costOf.l0, coD, if_pos (show (i : Int) < (l.length : Int) by omega), if_pos (show (0 : Int) ≤ (i : Int) by omega), if_pos i0, if_pos i1, if_pos (show rd l (i : Int) < (Y.length : Int) by omega), hw]
      exact h1.2
def cst (X Y l : List Int) : Int := coD X Y l l.length 0 0
theorem cst_ev (T : List S98) (S : List S103) (C X Y : List Int) (g : Int) (l : List Int) (e : Y.length = X.length) (hn : l.length ≤ 1000000) (hin : inX X l) :
    Ev (fun k => spec_l18Cost.f k T S C X Y g l) (cst X Y l) ∧ Ev (fun k => impl_costOf.f k T S C X Y g l) (cst X Y l) := by
  unfold spec_l18Cost.f impl_costOf.f cst
  exact cost_ev T S C X Y g l e hn hin l.length 0 0 (by omega)
def bpD (X Y : List Int) (P : List (List Int)) : Nat → Nat → List Int → List Int
  | 0, _, b => b
  | d + 1, i, b => bpD X Y P d (i + 1) (if cst X Y (rd_L5 P (i : Int)) < cst X Y b then rd_L5 P (i : Int) else b)
theorem best_ev (T : List S98) (S : List S103) (C X Y : List Int) (g : Int) (e : Y.length = X.length) (P : List (List Int)) (hP : P.length ≤ 1000000) (hin : ∀ x ∈ P, inX X x ∧ x.length ≤ 1000) :
    ∀ d i b, i + d = P.length → inX X b → b.length ≤ 1000 →
      Ev (fun k => spec_BestPlacing.l0 k P b (i : Int) T S C X Y g) (bpD X Y P d i b, cst X Y (bpD X Y P d i b), 0) ∧ Ev (fun k => impl_bestPlacing.l0 k b P (P.length : Int) (i : Int) T S C X Y g) (bpD X Y P d i b, true) ∧ inX X (bpD X Y P d i b) ∧ (bpD X Y P d i b).length ≤ 1000 := by
  intro d
  induction d with
  | zero =>
    intro i b hi hb hl
    have hc := cst_ev T S C X Y g b e (by omega) hb
    refine ⟨Ev.dn ?_, Ev.dn ?_, hb, hl⟩
    · simp only [spec_BestPlacing.l0, bpD, if_neg (show ¬ (i : Int) < (P.length : Int) by omega)]
      exact Ev.bind hc.1 (Ev.now _)
    · simp only [impl_bestPlacing.l0, bpD, if_neg (show ¬ (i : Int) < (P.length : Int) by omega)]
      exact Ev.now _
  | succ d ih =>
    intro i b hi hb hl
    have hip : i < P.length := by clear ih; omega
    have i0 : (0 : Int) ≤ (i : Int) := Int.natCast_nonneg i
    have i1 : (i : Int) < (P.length : Int) := by clear ih; omega
    have hw := wrap_succ hip (show P.length ≤ 9223372036854775807 by clear ih; omega)
    obtain ⟨r1, r2⟩ := hin _ (rd_L5_mem hip)
    have hc := cst_ev T S C X Y g b e (by clear ih; omega) hb
    have hr := cst_ev T S C X Y g (rd_L5 P (i : Int)) e (by clear ih; omega) r1
    have hi2 : i + 1 + d = P.length := by clear ih; omega
    simp only [bpD]
    by_cases c : cst X Y (rd_L5 P (i : Int)) < cst X Y b
    · rw [if_pos c]
      obtain ⟨h1, h2, h3⟩ := ih (i + 1) (rd_L5 P (i : Int)) hi2 r1 r2
      refine ⟨Ev.dn ?_, Ev.dn ?_, h3⟩
      · simp only [spec_BestPlacing.l0, if_pos i1, if_pos i0, hw]
        refine Ev.bind hr.1 (Ev.bind hc.1 ?_)
        simp only [if_pos c]
        exact h1
      · simp only [impl_bestPlacing.l0, if_pos i1, if_pos i0, hw]
        refine Ev.bind hr.2 (Ev.bind hc.2 ?_)
        simp only [if_pos c]
        exact h2
    · rw [if_neg c]
      obtain ⟨h1, h2, h3⟩ := ih (i + 1) b hi2 hb hl
      refine ⟨Ev.dn ?_, Ev.dn ?_, h3⟩
      · simp only [spec_BestPlacing.l0, if_pos i1, if_pos i0, hw]
        refine Ev.bind hr.1 (Ev.bind hc.1 ?_)
        simp only [if_neg c]
        exact h1
      · simp only [impl_bestPlacing.l0, if_pos i1, if_pos i0, hw]
        refine Ev.bind hr.2 (Ev.bind hc.2 ?_)
        simp only [if_neg c]
        exact h2
theorem hasI_ev (l : List Int) (v : Int) (hn : l.length ≤ 1000) : ∃ b : Bool, Ev (fun k => laws_hasInt.f k l v) b ∧ (b = true ↔ v ∈ l) := by
  have loop : ∀ d j, j + d = l.length → ∃ b : Bool, Ev (fun k => laws_hasInt.l0 k l v (j : Int)) b ∧ (b = true ↔ v ∈ l.drop j) := by
    intro d
    induction d with
    | zero =>
      intro j hj
      refine ⟨false, Ev.dn ?_, ?_⟩
      · simp only [laws_hasInt.l0, if_neg (show ¬ (j : Int) < (l.length : Int) by omega)]
        exact Ev.now _
      · rw [List.drop_of_length_le (by omega)]; simp
    | succ d ih =>
      intro j hj
      have hjl : j < l.length := by omega
      have hw := wrap_succ hjl (show l.length ≤ 9223372036854775807 by omega)
      rw [List.drop_eq_getElem_cons hjl]
      by_cases c : rd l (j : Int) = v
      · refine ⟨true, Ev.dn ?_, ?_⟩
        · simp only [laws_hasInt.l0, if_pos (show (j : Int) < (l.length : Int) by omega), if_pos (show (0 : Int) ≤ (j : Int) by omega), if_pos c]
          exact Ev.now _
        · rw [rd_nat hjl] at c
          simp [c]
      · obtain ⟨b, h1, h2⟩ := ih (j + 1) (by omega)
        refine ⟨b, Ev.dn ?_, ?_⟩
        · simp only [laws_hasInt.l0, if_pos (show (j : Int) < (l.length : Int) by omega), if_pos (show (0 : Int) ≤ (j : Int) by omega), if_neg c, hw]
          exact h1
        · rw [rd_nat hjl] at c
          rw [h2, List.mem_cons]
          exact ⟨.inr, fun h => h.elim (fun e => absurd e.symm c) id⟩
  unfold laws_hasInt.f
  obtain ⟨b, h1, h2⟩ := loop l.length 0 (by omega)
  exact ⟨b, h1, h2⟩
def Gd (L : List Int) (p z : Int) : Prop := 0 ≤ p ∧ p ≤ (L.length : Int) ∧ 0 ≤ z ∧ z < 2147483647
def By (L : List Int) : Prop := L.length ≤ 4096 ∧ ∀ j : Nat, j < L.length → 0 ≤ rd L (j : Int) ∧ rd L (j : Int) ≤ 255
theorem tm_bd {x n : Int} (hx : 0 ≤ x) (hn : 0 < n) : 0 ≤ Int.tmod x n ∧ Int.tmod x n < n := ⟨Int.tmod_nonneg n hx, Int.tmod_lt_of_pos x hn⟩
theorem next_ok {L : List Int} (hL : By L) {p z : Int} (g : Gd L p z) (n : Int) (h1 : 1 ≤ n) (h2 : n ≤ 100000000) : ∃ v p' z' : Int, spec_l01Next.f L p z n = some (v, p', z') ∧ Gd L p' z' ∧ 0 ≤ v ∧ v < n := by
  obtain ⟨g1, g2, g3, g4⟩ := g
  obtain ⟨hl, hb⟩ := hL
  unfold spec_l01Next.f
  by_cases c1 : n ≤ 1
  · rw [if_pos c1]
    exact ⟨0, p, z, rfl, ⟨g1, g2, g3, g4⟩, by omega, by omega⟩
  rw [if_neg c1]
  have hn : ¬ n = 0 := by omega
  have w1 : wrap64 (z * 48271) = z * 48271 := wrap_id (by omega) (by omega)
  have w2 : wrap64 (z * 48271 + 29) = z * 48271 + 29 := wrap_id (by omega) (by omega)
  obtain ⟨z0, z1⟩ := tm_bd (x := z * 48271 + 29) (n := 2147483647) (by omega) (by decide)
  simp only [w1, w2, if_neg hn]
  generalize Int.tmod (z * 48271 + 29) 2147483647 = y at z0 z1
  have q0 : Int.tdiv y 31 = y / 31 := Int.tdiv_eq_ediv_of_nonneg z0
  obtain ⟨q2, q3⟩ : 0 ≤ y / 31 ∧ y / 31 ≤ 2147483647 := by clear w1 w2 c1 hb; omega
  have q1 : wrap64 (y / 31) = y / 31 := wrap_id (by clear w1 w2 c1 hb q0; omega) (by clear w1 w2 c1 hb q0; omega)
  simp only [q0, q1]
  clear q0 q1 w1 w2
  generalize y / 31 = q at q2 q3
  by_cases c2 : p < (L.length : Int)
  · obtain ⟨m, rfl⟩ := Int.eq_ofNat_of_zero_le g1
    obtain ⟨r0, r1⟩ := hb m (by omega)
    have m0 : (m : Int) < 4096 := by clear z0 z1 q2 q3 r0 r1; omega
    obtain ⟨p1, p2⟩ : wrap64 ((m : Int) + 1) = (m : Int) + 1 ∧ wrap64 ((m : Int) + 1 - 1) = (m : Int) := by
      clear z0 z1 q2 q3 r0 r1 c2 g1 g2 hb hn
      refine ⟨wrap_id (by omega) (by omega), ?_⟩
      rw [wrap_id (by omega) (by omega)]
      omega
    obtain ⟨r2, r3⟩ : wrap64 (rd L (m : Int)) = rd L (m : Int) ∧ wrap64 (q + rd L (m : Int)) = q + rd L (m : Int) := by
      clear p1 p2 c2 g1 g2 hb hn
      generalize rd L (m : Int) = r at r0 r1
      exact ⟨wrap_id (by omega) (by omega), wrap_id (by omega) (by omega)⟩
    have k1 : 0 ≤ (m : Int) + 1 ∧ (m : Int) + 1 ≤ (L.length : Int) := by clear p1 p2 r2 r3 z0 z1 q2 q3 r0 r1; omega
    have k2 : 0 ≤ q + rd L (m : Int) := by clear p1 p2 r2 r3 z0 z1; omega
    have k3 : 0 < n := by clear p1 p2 r2 r3 z0 z1 q2 q3 r0 r1; omega
    obtain ⟨a0, a1⟩ := tm_bd (x := rd L (m : Int)) (n := n) r0 k3
    obtain ⟨b0, b1⟩ := tm_bd (x := q + rd L (m : Int)) (n := n) k2 k3
    by_cases c4 : n ≤ 256
    · simp only [if_pos c2, if_pos g1, if_pos c4, p1, p2, r2, r3]
      by_cases c3 : Int.tmod ((m : Int) + 1) 2 = 0
      · rw [if_pos c3]
        exact ⟨_, _, _, rfl, ⟨k1.1, k1.2, z0, z1⟩, a0, a1⟩
      · rw [if_neg c3]
        exact ⟨_, _, _, rfl, ⟨k1.1, k1.2, z0, z1⟩, b0, b1⟩
    · simp only [if_pos c2, if_pos g1, if_neg c4, p1, p2, r2, r3]
      exact ⟨_, _, _, rfl, ⟨k1.1, k1.2, z0, z1⟩, b0, b1⟩
  · rw [if_neg c2]
    obtain ⟨b0, b1⟩ := tm_bd (x := q) (n := n) (by omega) (by omega)
    exact ⟨_, _, _, rfl, ⟨g1, g2, z0, z1⟩, b0, b1⟩
theorem pick_ok {L : List Int} (hL : By L) {p z : Int} (g : Gd L p z) (l : List Int) (h1 : 1 ≤ l.length) (h2 : l.length ≤ 256) : ∃ v p' z' : Int, spec_l01Pick.f L p z l = some (v, p', z') ∧ Gd L p' z' := by
  obtain ⟨v, p', z', e, g', v0, v1⟩ := next_ok hL g (l.length : Int) (by omega) (by omega)
  refine ⟨rd l v, p', z', ?_, g'⟩
  unfold spec_l01Pick.f
  rw [e, Option.bind_some, if_pos v0, if_pos v1]
theorem from_ev {L : List Int} (hL : By L) : ∃ z, Ev (fun k => spec_l01From.f k L) (L, 0, z) ∧ Gd L 0 z := by
  have loop : ∀ (d i : Nat) (z : Int), i + d = 64 → 0 ≤ z → z < 2147483647 → ∃ z', Ev (fun k => spec_l01From.l0 k L (i : Int) L 0 z) (L, 0, z') ∧ Gd L 0 z' := by
    intro d
    induction d with
    | zero =>
      intro i z hi h0 h1
      refine ⟨z, Ev.dn ?_, by omega, by omega, h0, h1⟩
      simp only [spec_l01From.l0, if_neg (show ¬ (i : Int) < 64 by omega), ite_self]
      exact Ev.now _
    | succ d ih =>
      intro i z hi h0 h1
      by_cases c : (i : Int) < (L.length : Int)
      · obtain ⟨r0, r1⟩ := hL.2 i (by omega)
        have w1 : wrap64 (z * 83) = z * 83 := wrap_id (by clear ih; omega) (by clear ih; omega)
        have w2 : wrap64 (rd L (i : Int)) = rd L (i : Int) := wrap_id (by clear ih; omega) (by clear ih; omega)
        have w3 : wrap64 (z * 83 + rd L (i : Int)) = z * 83 + rd L (i : Int) := wrap_id (by clear ih; omega) (by clear ih; omega)
        obtain ⟨z0, z1⟩ := tm_bd (x := z * 83 + rd L (i : Int)) (n := 2147483647) (by clear ih; omega) (by decide)
        obtain ⟨z', h2, h3⟩ := ih (i + 1) _ (by clear ih; omega) z0 z1
        refine ⟨z', Ev.dn ?_, h3⟩
        have hw := wrap_succ (i := i) (n := 64) (by clear ih; omega) (by omega)
        simp only [spec_l01From.l0, if_pos c, if_pos (show (i : Int) < 64 by clear ih; omega), if_pos (show (0 : Int) ≤ (i : Int) by clear ih; omega), w1, w2, w3, hw]
        exact h2
      · refine ⟨z, Ev.dn ?_, by omega, by omega, h0, h1⟩
        simp only [spec_l01From.l0, if_neg c]
        exact Ev.now _
  unfold spec_l01From.f
  exact loop 64 0 61043 (by omega) (by omega) (by omega)
theorem good15_ok {L : List Int} (hL : By L) {p z : Int} (g : Gd L p z) : ∃ a b c d e p' z' : Int, spec_l15Good.f L p z = some (a, b, c, d, e, p', z') ∧ Gd L p' z' := by
  obtain ⟨v1, p1, z1, e1, g1, _, _⟩ := next_ok hL g 4 (by omega) (by omega)
  obtain ⟨v2, p2, z2, e2, g2, _, _⟩ := next_ok hL g1 2000 (by omega) (by omega)
  obtain ⟨v3, p3, z3, e3, g3, _, _⟩ := next_ok hL g2 2000 (by omega) (by omega)
  obtain ⟨v4, p4, z4, e4, g4, _, _⟩ := next_ok hL g3 400 (by omega) (by omega)
  obtain ⟨v5, p5, z5, e5, g5, _, _⟩ := next_ok hL g4 400 (by omega) (by omega)
  refine ⟨v1, v2, v3, wrap64 (1 + v4), wrap64 (1 + v5), p5, z5, ?_, g5⟩
  simp only [spec_l15Good.f, e1, e2, e3, e4, e5, Option.bind_some]
theorem draw15_ok {L : List Int} (hL : By L) {p z : Int} (g : Gd L p z) : ∃ a b c d e p' z' : Int, spec_l15Draw.f L p z = some (a, b, c, d, e, p', z') ∧ Gd L p' z' := by
  obtain ⟨a, b, c, d, e, p1, z1, e1, g1⟩ := good15_ok hL g
  obtain ⟨v, p2, z2, e2, g2, _, _⟩ := next_ok hL g1 60 (by omega) (by omega)
  by_cases c0 : v = 0
  · obtain ⟨u, p3, z3, e3, g3⟩ := pick_ok hL g2 [(-1), 4] (by decide) (by decide)
    refine ⟨u, b, c, d, e, p3, z3, ?_, g3⟩
    simp only [spec_l15Draw.f, e1, e2, Option.bind_some, if_pos c0, e3]
  by_cases c1 : v = 1
  · obtain ⟨u, p3, z3, e3, g3⟩ := pick_ok hL g2 [0, wrap64 (100000 - b), wrap64 ((wrap64 (100000 - b)) + 1)] (by simp) (by simp)
    refine ⟨a, b, c, u, e, p3, z3, ?_, g3⟩
    simp only [spec_l15Draw.f, e1, e2, Option.bind_some, if_neg c0, if_pos c1, e3]
  by_cases c2 : v = 2
  · obtain ⟨u, p3, z3, e3, g3⟩ := pick_ok hL g2 [(-1), 0, 100000] (by decide) (by decide)
    refine ⟨a, b, u, d, e, p3, z3, ?_, g3⟩
    simp only [spec_l15Draw.f, e1, e2, Option.bind_some, if_neg c0, if_neg c1, if_pos c2, e3]
  · refine ⟨a, b, c, d, e, p2, z2, ?_, g2⟩
    simp only [spec_l15Draw.f, e1, e2, Option.bind_some, if_neg c0, if_neg c1, if_neg c2]
theorem site15_l1 {L : List Int} (hL : By L) : ∀ (d : Nat) (x : List S103) (p z : Int), Gd L p z → 11 ≤ x.length + d → x.length ≤ 90 → ∃ (xs : List S103) (p' z' : Int), Ev (fun k => spec_l15Site.l1 k x L p z) (xs, p', z') ∧ Gd L p' z' ∧ xs.length ≤ 100 := by
  intro d
  induction d with
  | zero =>
    intro x p z g hd hx
    obtain ⟨v, p1, z1, e1, g1, v0, v1⟩ := next_ok hL g 2 (by omega) (by omega)
    have w : wrap64 (10 + v) = 10 + v := wrap_id (by omega) (by omega)
    refine ⟨x, p1, z1, Ev.dn ?_, g1, by omega⟩
    simp only [spec_l15Site.l1, e1, Option.bind_some, w, if_neg (show ¬ (x.length : Int) < 10 + v by omega)]
    exact Ev.now _
  | succ d ih =>
    intro x p z g hd hx
    obtain ⟨v, p1, z1, e1, g1, v0, v1⟩ := next_ok hL g 2 (by omega) (by omega)
    have w : wrap64 (10 + v) = 10 + v := wrap_id (by omega) (by omega)
    by_cases c : (x.length : Int) < 10 + v
    · obtain ⟨a, b, c3, d4, e5, p2, z2, e2, g2⟩ := good15_ok hL g1
      obtain ⟨xs, p3, z3, h, g3, hn⟩ := ih (x ++ [(⟨a, b, c3, d4, e5⟩ : S103)]) p2 z2 g2 (by rw [List.length_append, List.length_singleton]; omega) (by rw [List.length_append, List.length_singleton]; omega)
      refine ⟨xs, p3, z3, Ev.dn ?_, g3, hn⟩
      simp only [spec_l15Site.l1, e1, Option.bind_some, w, if_pos c, e2, if_pos (show x.length < 3518437208883 by omega)]
      exact h
    · refine ⟨x, p1, z1, Ev.dn ?_, g1, by omega⟩
      simp only [spec_l15Site.l1, e1, Option.bind_some, w, if_neg c]
      exact Ev.now _
theorem site15_l0 {L : List Int} (hL : By L) : ∀ (c : Nat) (x : List S103) (p z : Int), Gd L p z → x.length + c ≤ 50 → ∃ (xs : List S103) (p' z' : Int), Ev (fun k => spec_l15Site.l0 k x (c : Int) L p z) (xs, p', z') ∧ Gd L p' z' ∧ xs.length ≤ 100 := by
  intro c
  induction c with
  | zero =>
    intro x p z g hx
    obtain ⟨v, p1, z1, e1, g1, _, _⟩ := next_ok hL g 30 (by omega) (by omega)
    by_cases c : v = 0
    · obtain ⟨xs, p2, z2, h, g2, hn⟩ := site15_l1 hL 11 x p1 z1 g1 (by omega) (by omega)
      refine ⟨xs, p2, z2, Ev.dn ?_, g2, hn⟩
      simp only [spec_l15Site.l0, if_neg (show ¬ ((0 : Nat) : Int) > 0 by decide), e1, Option.bind_some, if_pos c]
      exact h
    · refine ⟨x, p1, z1, Ev.dn ?_, g1, by omega⟩
      simp only [spec_l15Site.l0, if_neg (show ¬ ((0 : Nat) : Int) > 0 by decide), e1, Option.bind_some, if_neg c]
      exact Ev.now _
  | succ c ih =>
    intro x p z g hx
    obtain ⟨a, b, c3, d4, e5, p2, z2, e2, g2⟩ := draw15_ok hL g
    have w : wrap64 (((c + 1 : Nat) : Int) - 1) = (c : Int) := by rw [wrap_id (by omega) (by omega)]; omega
    obtain ⟨xs, p3, z3, h, g3, hn⟩ := ih (x ++ [(⟨a, b, c3, d4, e5⟩ : S103)]) p2 z2 g2 (by rw [List.length_append, List.length_singleton]; omega)
    refine ⟨xs, p3, z3, Ev.dn ?_, g3, hn⟩
    simp only [spec_l15Site.l0, if_pos (show ((c + 1 : Nat) : Int) > 0 by omega), e2, Option.bind_some, w, if_pos (show x.length < 3518437208883 by omega)]
    exact h
theorem site15_ok {L : List Int} (hL : By L) {p z : Int} (g : Gd L p z) : ∃ (xs : List S103) (p' z' : Int), Ev (fun k => spec_l15Site.f k L p z) (xs, p', z') ∧ Gd L p' z' ∧ xs.length ≤ 100 := by
  obtain ⟨v, p1, z1, e1, g1, v0, v1⟩ := next_ok hL g 6 (by omega) (by omega)
  obtain ⟨c, rfl⟩ : ∃ c : Nat, v = (c : Int) := ⟨v.toNat, by omega⟩
  obtain ⟨xs, p2, z2, h, g2, hn⟩ := site15_l0 hL c [] p1 z1 g1 (by simp; omega)
  refine ⟨xs, p2, z2, ?_, g2, hn⟩
  simp only [spec_l15Site.f, e1, Option.bind_some]
  exact h
theorem good16_l1 {L : List Int} (hL : By L) (i B : Nat) (hB : B ≤ 50) (hk : ∀ (x : List S98) (p z : Int), Gd L p z → x.length ≤ B → ∃ (xs : List S98) (p' z' : Int), Ev (fun k => spec_l16Good.l0 k x (wrap64 ((i : Int) + 1)) L p z) (xs, p', z') ∧ Gd L p' z' ∧ xs.length ≤ 50) :
    ∀ (c : Nat) (x : List S98) (t u p z : Int), Gd L p z → x.length + c ≤ B → ∃ (xs : List S98) (p' z' : Int), Ev (fun k => spec_l16Good.l1 k x (i : Int) t u (c : Int) L p z) (xs, p', z') ∧ Gd L p' z' ∧ xs.length ≤ 50 := by
  have no : ∀ (x : List S98) (t u y p z : Int), Gd L p z → x.length ≤ B → ∃ (xs : List S98) (p' z' : Int), Ev (fun k => spec_l16Good.j2 k x (i : Int) t u y false L p z) (xs, p', z') ∧ Gd L p' z' ∧ xs.length ≤ 50 := by
    intro x t u y p z g hx
    obtain ⟨xs, p1, z1, h, r⟩ := hk x p z g hx
    refine ⟨xs, p1, z1, Ev.dn ?_, r⟩
    simp only [spec_l16Good.j2, Bool.false_eq_true, if_false]
    exact h
  intro c
  induction c with
  | zero =>
    intro x t u p z g hx
    obtain ⟨xs, p1, z1, h, r⟩ := no x t u 0 p z g (by omega)
    refine ⟨xs, p1, z1, Ev.dn ?_, r⟩
    simp only [spec_l16Good.l1, if_neg (show ¬ ((0 : Nat) : Int) > 0 by decide)]
    exact h
  | succ c ih =>
    intro x t u p z g hx
    by_cases ct : t < 300
    · obtain ⟨v1, p1, z1, e1, g1, _, _⟩ := next_ok hL g 120 (by omega) (by omega)
      obtain ⟨v2, p2, z2, e2, g2⟩ := pick_ok hL g1 [30, 55, wrap64 (1 + v1), 280] (by simp) (by simp)
      obtain ⟨v3, p3, z3, e3, g3, _, _⟩ := next_ok hL g2 300 (by omega) (by omega)
      have w : wrap64 (((c + 1 : Nat) : Int) - 1) = (c : Int) := by rw [wrap_id (by omega) (by omega)]; omega
      obtain ⟨xs, p4, z4, h, r⟩ := ih (x ++ [(⟨(i : Int), mn 300 (wrap64 (t + v2)), wrap64 (u + v3)⟩ : S98)]) (mn 300 (wrap64 (t + v2))) (wrap64 (u + v3)) p3 z3 g3 (by rw [List.length_append, List.length_singleton]; omega)
      refine ⟨xs, p4, z4, Ev.dn (Ev.dn ?_), r⟩
      simp only [spec_l16Good.l1, if_pos (show ((c + 1 : Nat) : Int) > 0 by omega), decide_eq_true ct, spec_l16Good.j2, if_true, e1, e2, e3, Option.bind_some, w, if_pos (show x.length < 5864062014805 by omega)]
      exact h
    · obtain ⟨xs, p1, z1, h, r⟩ := no x t u ((c + 1 : Nat) : Int) p z g (by omega)
      refine ⟨xs, p1, z1, Ev.dn ?_, r⟩
      simp only [spec_l16Good.l1, if_pos (show ((c + 1 : Nat) : Int) > 0 by omega), decide_eq_false ct]
      exact h
theorem good16_l0 {L : List Int} (hL : By L) : ∀ (d i : Nat) (x : List S98) (p z : Int), i + d = 4 → Gd L p z → x.length ≤ 3 * i → ∃ (xs : List S98) (p' z' : Int), Ev (fun k => spec_l16Good.l0 k x (i : Int) L p z) (xs, p', z') ∧ Gd L p' z' ∧ xs.length ≤ 50 := by
  intro d
  induction d with
  | zero =>
    intro i x p z hi g hx
    refine ⟨x, p, z, Ev.dn ?_, g, by omega⟩
    simp only [spec_l16Good.l0, if_neg (show ¬ (i : Int) < 4 by omega)]
    exact Ev.now _
  | succ d ih =>
    intro i x p z hi g hx
    obtain ⟨v, p1, z1, e1, g1, v0, v1⟩ := next_ok hL g 4 (by omega) (by omega)
    obtain ⟨c, rfl⟩ : ∃ c : Nat, v = (c : Int) := ⟨v.toNat, by omega⟩
    have w : wrap64 ((i : Int) + 1) = ((i + 1 : Nat) : Int) := wrap_succ (show i < 4 by omega) (by omega)
    obtain ⟨xs, p2, z2, h, r⟩ := good16_l1 hL i (3 * (i + 1)) (by omega) (fun x p z g hx => by rw [w]; exact ih (i + 1) x p z (by omega) g hx) c x 20 0 p1 z1 g1 (by omega)
    refine ⟨xs, p2, z2, Ev.dn ?_, r⟩
    simp only [spec_l16Good.l0, if_pos (show (i : Int) < 4 by omega), e1, Option.bind_some]
    exact h
theorem good16_ok {L : List Int} (hL : By L) {p z : Int} (g : Gd L p z) : ∃ (xs : List S98) (p' z' : Int), Ev (fun k => spec_l16Good.f k L p z) (xs, p', z') ∧ Gd L p' z' ∧ xs.length ≤ 50 := good16_l0 hL 4 0 [] p z rfl g (by simp)
theorem draw16_ok {L : List Int} (hL : By L) {p z : Int} (g : Gd L p z) : ∃ (xs : List S98) (p' z' : Int), Ev (fun k => spec_l16Draw.f k L p z) (xs, p', z') ∧ Gd L p' z' ∧ xs.length ≤ 100 := by
  obtain ⟨x, p1, z1, h1, g1, hn⟩ := good16_ok hL g
  unfold spec_l16Draw.f
  by_cases c : (x.length : Int) > 0
  · obtain ⟨v, p2, z2, e2, g2, v0, v1⟩ := next_ok hL g1 (x.length : Int) (by omega) (by omega)
    obtain ⟨u, p3, z3, e3, g3, _, _⟩ := next_ok hL g2 30 (by omega) (by omega)
    by_cases c0 : u = 0
    · obtain ⟨q, p4, z4, e4, g4⟩ := pick_ok hL g3 [(-1), 0, 10000, 10001] (by decide) (by decide)
      refine ⟨_, p4, z4, Ev.bind h1 (?_ : Ev _ (x.set v.toNat (⟨(rd_T98 x v).f0, (rd_T98 x v).f1, q⟩ : S98), p4, z4)), g4, by rw [List.length_set]; omega⟩
      simp only [if_pos c, e2, e3, e4, Option.bind_some, if_pos c0, if_pos v0, if_pos v1]
      exact Ev.now _
    by_cases c1 : u = 1
    · obtain ⟨q, p4, z4, e4, g4⟩ := pick_ok hL g3 [19, 20, 300, 301] (by decide) (by decide)
      refine ⟨_, p4, z4, Ev.bind h1 (?_ : Ev _ (x.set v.toNat (⟨(rd_T98 x v).f0, q, (rd_T98 x v).f2⟩ : S98), p4, z4)), g4, by rw [List.length_set]; omega⟩
      simp only [if_pos c, e2, e3, e4, Option.bind_some, if_neg c0, if_pos c1, if_pos v0, if_pos v1]
      exact Ev.now _
    by_cases c2 : u = 2
    · refine ⟨_, p3, z3, Ev.bind h1 (?_ : Ev _ (x ++ [(⟨(rd_T98 x v).f0, (rd_T98 x v).f1, (rd_T98 x v).f2⟩ : S98)], p3, z3)), g3, by rw [List.length_append, List.length_singleton]; omega⟩
      simp only [if_pos c, e2, e3, Option.bind_some, if_neg c0, if_neg c1, if_pos c2, if_pos v0, if_pos v1, if_pos (show x.length < 5864062014805 by omega)]
      exact Ev.now _
    · refine ⟨x, p3, z3, Ev.bind h1 ?_, g3, by omega⟩
      simp only [if_pos c, e2, e3, Option.bind_some, if_neg c0, if_neg c1, if_neg c2]
      exact Ev.now _
  · refine ⟨x, p1, z1, Ev.bind h1 ?_, g1, by omega⟩
    simp only [if_neg c]
    exact Ev.now _
def FQ (L : List Int) (f : Nat → Option (List S98 × List S103 × List Int × List Int × List Int × Int × Int × Int)) : Prop :=
  ∃ (T : List S98) (S : List S103) (C X Y : List Int) (g p z : Int), Ev f (T, S, C, X, Y, g, p, z) ∧ T.length ≤ 100 ∧ S.length ≤ 100 ∧ C.length ≤ 100 ∧ X.length ≤ 100 ∧ Y.length ≤ 100 ∧ 1 ≤ X.length ∧ Gd L p z
theorem FQ.dn {L : List Int} {f : Nat → Option (List S98 × List S103 × List Int × List Int × List Int × Int × Int × Int)} (h : FQ L (fun k => f (k + 1))) : FQ L f := by
  obtain ⟨T, S, C, X, Y, g, p, z, e, r⟩ := h
  exact ⟨T, S, C, X, Y, g, p, z, Ev.dn e, r⟩
theorem FQ.now {L : List Int} {T : List S98} {S : List S103} {C X Y : List Int} {g p z : Int} (h1 : T.length ≤ 100) (h2 : S.length ≤ 100) (h3 : C.length ≤ 100) (h4 : X.length ≤ 100) (h5 : Y.length ≤ 100) (h7 : 1 ≤ X.length) (h6 : Gd L p z) : FQ L (fun _ => some (T, S, C, X, Y, g, p, z)) := ⟨T, S, C, X, Y, g, p, z, Ev.now _, h1, h2, h3, h4, h5, h7, h6⟩
theorem FQ.bind {α : Type} {L : List Int} {f : Nat → Option α} {r : α} {q : Nat → α → Option (List S98 × List S103 × List Int × List Int × List Int × Int × Int × Int)} (h : Ev f r) (k : FQ L (fun n => q n r)) : FQ L (fun n => (f n).bind (q n)) := by
  obtain ⟨T, S, C, X, Y, g, p, z, e, r⟩ := k
  exact ⟨T, S, C, X, Y, g, p, z, Ev.bind h e, r⟩
theorem draw18_l2 {L : List Int} (hL : By L) (T : List S98) (S : List S103) (C : List Int) (w : Int) (hT : T.length ≤ 50) (hS : S.length ≤ 50) (hC : C.length ≤ 50) : ∀ (c : Nat) (X Y : List Int) (p z : Int), Gd L p z → 1 ≤ X.length + c → X.length + c ≤ 50 → Y.length + c ≤ 50 → FQ L (fun k => spec_l18Draw.l2 k (c : Int) L p z T S C X Y w) := by
  intro c
  induction c with
  | zero =>
    intro X Y p z g hx1 hX hY
    obtain ⟨v, p1, z1, e1, g1, _, _⟩ := next_ok hL g 40 (by omega) (by omega)
    refine FQ.dn ?_
    simp only [spec_l18Draw.l2, if_neg (show ¬ ((0 : Nat) : Int) > 0 by decide), e1, Option.bind_some]
    by_cases c0 : v = 0
    · simp only [if_pos c0]
      obtain ⟨x, p2, z2, h, g2, hn⟩ := draw16_ok hL g1
      exact FQ.bind h (FQ.now hn (by omega) (by omega) (by omega) (by omega) (by omega) g2)
    simp only [if_neg c0]
    by_cases c1 : v = 1
    · simp only [if_pos c1]
      obtain ⟨x, p2, z2, h, g2, hn⟩ := site15_ok hL g1
      exact FQ.bind h (FQ.now (by omega) hn (by omega) (by omega) (by omega) (by omega) g2)
    simp only [if_neg c1]
    by_cases c2 : v = 2
    · obtain ⟨q, p4, z4, e4, g4⟩ := pick_ok hL g1 [(-1), 10000, 10001] (by decide) (by decide)
      simp only [if_pos c2, e4, Option.bind_some]
      exact FQ.now (by omega) (by omega) (by omega) (by omega) (by omega) (by omega) g4
    simp only [if_neg c2]
    by_cases c3 : v = 3
    · obtain ⟨q, p4, z4, e4, g4⟩ := pick_ok hL g1 [19, 20, 300, 301] (by decide) (by decide)
      simp only [if_pos c3, e4, Option.bind_some]
      exact FQ.now (by omega) (by omega) (by simp) (by omega) (by omega) (by omega) g4
    simp only [if_neg c3]
    by_cases c4 : v = 4
    · simp only [if_pos c4, if_pos (show X.length < 17592186044416 by omega)]
      exact FQ.now (by omega) (by omega) (by omega) (by rw [List.length_append, List.length_singleton]; omega) (by omega) (by rw [List.length_append, List.length_singleton]; omega) g1
    simp only [if_neg c4]
    by_cases c5 : v = 5
    · obtain ⟨q, p4, z4, e4, g4, q0, q1⟩ := next_ok hL g1 2 (by omega) (by omega)
      have hw : wrap64 (4 + q) = 4 + q := wrap_id (by omega) (by omega)
      simp only [if_pos c5, e4, Option.bind_some, hw, if_pos (show 0 ≤ 4 + q by omega)]
      rw [show (((([50, 50, 50, 50, 50] : List Int).length : Nat)) : Int) = 5 from rfl]
      simp only [if_pos (show 4 + q ≤ 5 by omega)]
      exact FQ.now (by omega) (by omega) (by rw [List.length_take]; simp; omega) (by omega) (by omega) (by omega) g4
    · simp only [if_neg c5]
      exact FQ.now (by omega) (by omega) (by omega) (by omega) (by omega) (by omega) g1
  | succ c ih =>
    intro X Y p z g hx1 hX hY
    obtain ⟨v1, p1, z1, e1, g1, _, _⟩ := next_ok hL g 2400 (by omega) (by omega)
    obtain ⟨v2, p2, z2, e2, g2, _, _⟩ := next_ok hL g1 2400 (by omega) (by omega)
    have hw : wrap64 (((c + 1 : Nat) : Int) - 1) = (c : Int) := by rw [wrap_id (by omega) (by omega)]; omega
    refine FQ.dn ?_
    simp only [spec_l18Draw.l2, if_pos (show ((c + 1 : Nat) : Int) > 0 by omega), e1, e2, Option.bind_some, hw, if_pos (show X.length < 17592186044416 by omega), if_pos (show Y.length < 17592186044416 by omega)]
    exact ih (X ++ [v1]) (Y ++ [v2]) p2 z2 g2 (by rw [List.length_append, List.length_singleton]; omega) (by rw [List.length_append, List.length_singleton]; omega) (by rw [List.length_append, List.length_singleton]; omega)
theorem draw18_l1 {L : List Int} (hL : By L) (T : List S98) (S : List S103) (w : Int) (hT : T.length ≤ 50) (hS : S.length ≤ 50) : ∀ (c : Nat) (C : List Int) (p z : Int), Gd L p z → C.length + c ≤ 50 → FQ L (fun k => spec_l18Draw.l1 k (c : Int) L p z T S C [] [] w) := by
  intro c
  induction c with
  | zero =>
    intro C p z g hC
    obtain ⟨v, p1, z1, e1, g1, v0, v1⟩ := next_ok hL g 5 (by omega) (by omega)
    obtain ⟨n, rfl⟩ : ∃ n : Nat, v = (n : Int) := ⟨v.toNat, by omega⟩
    have hw : wrap64 (2 + (n : Int)) = ((2 + n : Nat) : Int) := by rw [wrap_id (by omega) (by omega)]; omega
    refine FQ.dn ?_
    simp only [spec_l18Draw.l1, if_neg (show ¬ ((0 : Nat) : Int) > 0 by decide), e1, Option.bind_some, hw]
    exact draw18_l2 hL T S C w hT hS (by omega) (2 + n) [] [] p1 z1 g1 (by simp; omega) (by simp; omega) (by simp; omega)
  | succ c ih =>
    intro C p z g hC
    obtain ⟨v1, p1, z1, e1, g1⟩ := pick_ok hL g [50, 75, 100, 150] (by decide) (by decide)
    have hw : wrap64 (((c + 1 : Nat) : Int) - 1) = (c : Int) := by rw [wrap_id (by omega) (by omega)]; omega
    refine FQ.dn ?_
    simp only [spec_l18Draw.l1, if_pos (show ((c + 1 : Nat) : Int) > 0 by omega), e1, Option.bind_some, hw, if_pos (show C.length < 17592186044416 by omega)]
    exact ih (C ++ [v1]) p1 z1 g1 (by rw [List.length_append, List.length_singleton]; omega)
theorem draw18_l0 {L : List Int} (hL : By L) (T : List S98) (w : Int) (hT : T.length ≤ 50) : ∀ (c : Nat) (S : List S103) (p z : Int), Gd L p z → S.length + c ≤ 50 → FQ L (fun k => spec_l18Draw.l0 k (c : Int) L p z T S [] [] [] w) := by
  intro c
  induction c with
  | zero =>
    intro S p z g hS
    obtain ⟨v, p1, z1, e1, g1, v0, v1⟩ := next_ok hL g 4 (by omega) (by omega)
    obtain ⟨n, rfl⟩ : ∃ n : Nat, v = (n : Int) := ⟨v.toNat, by omega⟩
    refine FQ.dn ?_
    simp only [spec_l18Draw.l0, if_neg (show ¬ ((0 : Nat) : Int) > 0 by decide), e1, Option.bind_some]
    exact draw18_l1 hL T S w hT (by omega) n [] p1 z1 g1 (by simp; omega)
  | succ c ih =>
    intro S p z g hS
    obtain ⟨a, b, c3, d4, e5, p2, z2, e2, g2⟩ := good15_ok hL g
    have hw : wrap64 (((c + 1 : Nat) : Int) - 1) = (c : Int) := by rw [wrap_id (by omega) (by omega)]; omega
    refine FQ.dn ?_
    simp only [spec_l18Draw.l0, if_pos (show ((c + 1 : Nat) : Int) > 0 by omega), e2, Option.bind_some, hw, if_pos (show S.length < 3518437208883 by omega)]
    exact ih (S ++ [(⟨a, b, c3, d4, e5⟩ : S103)]) p2 z2 g2 (by rw [List.length_append, List.length_singleton]; omega)
theorem draw18_ok {L : List Int} (hL : By L) {p z : Int} (g : Gd L p z) : FQ L (fun k => spec_l18Draw.f k L p z) := by
  obtain ⟨T, p1, z1, h1, g1, hT⟩ := good16_ok hL g
  obtain ⟨v1, p2, z2, e2, g2, _, _⟩ := next_ok hL g1 900 (by omega) (by omega)
  obtain ⟨v2, p3, z3, e3, g3, _, _⟩ := next_ok hL g2 200 (by omega) (by omega)
  obtain ⟨w, p4, z4, e4, g4⟩ := pick_ok hL g3 [0, v1, v2] (by simp) (by simp)
  obtain ⟨v, p5, z5, e5, g5, q0, q1⟩ := next_ok hL g4 4 (by omega) (by omega)
  obtain ⟨n, rfl⟩ : ∃ n : Nat, v = (n : Int) := ⟨v.toNat, by omega⟩
  unfold spec_l18Draw.f
  refine FQ.bind h1 ?_
  simp only [e2, e3, e4, e5, Option.bind_some]
  exact draw18_l0 hL T w hT n [] p5 z5 g5 (by simp; omega)
theorem sq_mono {a b : Int} (h0 : 0 ≤ a) (h : a ≤ b) : a * a ≤ b * b := Int.mul_le_mul h h h0 (by omega)
theorem root_loop (s : Int) : ∀ (n : Nat) (low high : Int), 0 ≤ low → low < high → high ≤ 100001 → low * low ≤ s → (high = 100001 ∨ s < high * high) → high - low ≤ (n : Int) + 1 →
    ∃ r, Ev (fun k => spec_l15Root.l0 k s low high) r ∧ 0 ≤ r ∧ r * r ≤ s ∧ (r = 100000 ∨ s < (r + 1) * (r + 1)) := by
  intro n
  induction n with
  | zero =>
    intro low high h0 h1 h2 h3 h4 h5
    obtain rfl : high = low + 1 := by omega
    refine ⟨low, Ev.dn ?_, h0, h3, ?_⟩
    · simp only [spec_l15Root.l0, wrap_id (x := low + 1) (by omega) (by omega), if_neg (Int.lt_irrefl _)]
      exact Ev.now _
    · rcases h4 with h4 | h4
      · exact .inl (by omega)
      · exact .inr h4
  | succ n ih =>
    intro low high h0 h1 h2 h3 h4 h5
    by_cases c : low + 1 < high
    · have e1 : wrap64 (low + 1) = low + 1 := wrap_id (by omega) (by omega)
      have e2 : wrap64 (low + high) = low + high := wrap_id (by omega) (by omega)
      obtain ⟨m, hm⟩ : ∃ m, m = (low + high) / 2 := ⟨_, rfl⟩
      have e3 : Int.tdiv (low + high) 2 = m := by rw [Int.tdiv_eq_ediv_of_nonneg (by omega), hm]
      have e4 : wrap64 m = m := wrap_id (by omega) (by omega)
      have m0 : low < m := by omega
      have m1 : m < high := by omega
      have m2 : m * m ≤ 100001 * 100001 := sq_mono (by omega) (by omega)
      have m3 : 0 ≤ m * m := Int.mul_nonneg (by omega) (by omega)
      have e5 : wrap64 (m * m) = m * m := by
        generalize m * m = q at m2 m3
        exact wrap_id (by omega) (by omega)
      by_cases c2 : m * m ≤ s
      · obtain ⟨r, hr, hr2⟩ := ih m high (by omega) m1 h2 c2 h4 (by omega)
        refine ⟨r, Ev.dn ?_, hr2⟩
        simp only [spec_l15Root.l0, e1, if_pos c, e2, e3, e4, e5, if_pos c2]
        exact hr
      · obtain ⟨r, hr, hr2⟩ := ih low m h0 m0 (by omega) h3 (.inr (by omega)) (by omega)
        refine ⟨r, Ev.dn ?_, hr2⟩
        simp only [spec_l15Root.l0, e1, if_pos c, e2, e3, e4, e5, if_neg c2]
        exact hr
    · exact ih low high h0 h1 h2 h3 h4 (by omega)
theorem root_ex (s : Int) (h : 0 ≤ s) : ∃ r, Ev (fun k => spec_l15Root.f k s) r ∧ ∀ g : Int, 0 ≤ g → g ≤ 10000 → (g ≤ r ↔ g * g ≤ s) := by
  obtain ⟨r, hr, r0, r1, r2⟩ := root_loop s 100000 0 100001 (by omega) (by omega) (by omega) (by omega) (.inl rfl) (by omega)
  refine ⟨r, hr, fun g g0 g1 => ⟨fun hg => Int.le_trans (sq_mono g0 hg) r1, fun hg => ?_⟩⟩
  apply Classical.byContradiction
  intro hn
  rcases r2 with r2 | r2
  · omega
  · have := sq_mono (show 0 ≤ r + 1 by omega) (show r + 1 ≤ g by omega)
    omega
theorem roots : ∃ R : Int → Int, isRoot R ∧ ∀ s : Int, 0 ≤ s → Ev (fun k => spec_l15Root.f k s) (R s) := by
  refine ⟨fun s => if h : 0 ≤ s then Classical.choose (root_ex s h) else 0, fun s g h0 _ g0 g1 => ?_, fun s h => ?_⟩
  · simp only [dif_pos h0]
    exact (Classical.choose_spec (root_ex s h0)).2 g g0 g1
  · simp only [dif_pos h]
    exact (Classical.choose_spec (root_ex s h)).1
theorem gap_search (T : List S98) (S : List S103) (C X Y : List Int) (B : Int) (b0 : -1 ≤ B) (b1 : B ≤ 10000) (hH : ∀ g : Int, 0 ≤ g → g ≤ 10000 → Ev (fun k => impl_hasPlacing.f k T S C X Y g []) (decide (g ≤ B))) :
    ∀ (n : Nat) (low high g : Int), -1 ≤ low → low ≤ B → B ≤ high → high ≤ 10000 → high - low ≤ (n : Int) → Ev (fun k => impl_GreatestGap.l0 k low high T S C X Y g) (if B < 0 then ((0 : Int), (4 : Int)) else (B, 0)) := by
  intro n
  induction n with
  | zero =>
    intro low high g h0 h1 h2 h3 h4
    obtain rfl : low = B := by omega
    obtain rfl : high = low := by omega
    refine Ev.dn ?_
    simp only [impl_GreatestGap.l0, if_neg (Int.lt_irrefl _)]
    by_cases c : high < 0
    · simp only [if_pos c]; exact Ev.now _
    · simp only [if_neg c]; exact Ev.now _
  | succ n ih =>
    intro low high g h0 h1 h2 h3 h4
    by_cases c : low < high
    · have e1 : wrap64 (wrap64 (low + high) + 1) = low + high + 1 := by rw [wrap_id (x := low + high) (by omega) (by omega), wrap_id (by omega) (by omega)]
      have e2 : ¬ Int.tmod (low + high + 1) 2 < 0 := by have := Int.tmod_nonneg 2 (show 0 ≤ low + high + 1 by omega); omega
      obtain ⟨m, hm⟩ : ∃ m, m = (low + high + 1) / 2 := ⟨_, rfl⟩
      have e3 : Int.tdiv (low + high + 1) 2 = m := by rw [Int.tdiv_eq_ediv_of_nonneg (by omega), hm]
      have e4 : wrap64 m = m := wrap_id (by omega) (by omega)
      have m0 : low < m := by omega
      have m1 : m ≤ high := by omega
      have e5 : wrap64 (m - 1) = m - 1 := wrap_id (by omega) (by omega)
      refine Ev.dn ?_
      simp only [impl_GreatestGap.l0, if_pos c, e1, impl_floorDiv.f, if_neg (show ¬ (2 : Int) = 0 by decide), if_neg e2, e3, e4, Option.bind_some]
      refine Ev.bind (hH m (by omega) (by omega)) ?_
      by_cases q : m ≤ B
      · simp only [decide_eq_true q, if_true]
        exact ih m high m (by omega) q h2 h3 (by omega)
      · simp only [decide_eq_false q, Bool.false_eq_true, if_false, e5]
        exact ih low (m - 1) m h0 h1 (by omega) (by omega) (by omega)
    · exact ih low high g h0 h1 h2 h3 (by omega)
theorem gg_l2 (R : Int → Int) (hR : ∀ s : Int, 0 ≤ s → Ev (fun k => spec_l15Root.f k s) (R s)) (T : List S98) (S : List S103) (C X Y : List Int) (hX : allIn X 0 100000 = true) (hY : allIn Y 0 100000 = true) (e : Y.length = X.length) (P : List (List Int)) (b : Int) (i kk : Nat) (Res : Int × Int) (hi : i < P.length) (hin : inX X (rd_L5 P (i : Int))) (hk : kk < (rd_L5 P (i : Int)).length) (hm : (rd_L5 P (i : Int)).length ≤ 1000000) :
    ∀ d j a, j + d = kk → Ev (fun k => spec_GreatestGap.l1 k P b (i : Int) (gpJ R X Y (rd_L5 P (i : Int)) kk d j a) ((kk + 1 : Nat) : Int) T S C X Y 0) Res → Ev (fun k => spec_GreatestGap.l2 k P b (i : Int) a (kk : Int) (j : Int) T S C X Y 0) Res := by
  have hwk := wrap_succ hk (show (rd_L5 P (i : Int)).length ≤ 9223372036854775807 by omega)
  intro d
  induction d with
  | zero =>
    intro j a hj h
    refine Ev.dn ?_
    simp only [spec_GreatestGap.l2, if_neg (show ¬ (j : Int) < (kk : Int) by omega), hwk]
    exact h
  | succ d ih =>
    intro j a hj h
    have j0 : (0 : Int) ≤ (j : Int) := by clear ih h; omega
    have j1 : (j : Int) < ((rd_L5 P (i : Int)).length : Int) := by clear ih h; omega
    have j2 : (j : Int) < (kk : Int) := by clear ih h; omega
    have k0 : (0 : Int) ≤ (kk : Int) := by clear ih h; omega
    have k1 : (kk : Int) < ((rd_L5 P (i : Int)).length : Int) := by clear ih h; omega
    have i0 : (0 : Int) ≤ (i : Int) := by clear ih h; omega
    have i1 : (i : Int) < (P.length : Int) := by clear ih h; omega
    have hj' : j + 1 + d = kk := by clear ih h; omega
    have hw := wrap_succ (show j < kk by clear ih h; omega) (show kk ≤ 9223372036854775807 by clear ih h; omega)
    obtain ⟨a0, a1⟩ := hin j (by clear ih h; omega)
    obtain ⟨b0, b1⟩ := hin kk hk
    obtain ⟨s0, _⟩ := sq2_bd hX hY e a0 a1 b0 b1
    refine Ev.dn ?_
    simp only [spec_GreatestGap.l2, if_pos j2, if_pos i0, if_pos i1, if_pos j0, if_pos j1, if_pos k0, if_pos k1, square_some T S C X Y 0 _ _ e a0 a1 b0 b1, Option.bind_some, hw]
    refine Ev.bind (hR _ s0) ?_
    exact ih (j + 1) _ hj' h
theorem gg_l1 (R : Int → Int) (hR : ∀ s : Int, 0 ≤ s → Ev (fun k => spec_l15Root.f k s) (R s)) (T : List S98) (S : List S103) (C X Y : List Int) (hX : allIn X 0 100000 = true) (hY : allIn Y 0 100000 = true) (e : Y.length = X.length) (P : List (List Int)) (b : Int) (i : Nat) (Res : Int × Int) (hi : i < P.length) (hP : P.length ≤ 1000000) (hin : inX X (rd_L5 P (i : Int))) (hm : (rd_L5 P (i : Int)).length ≤ 1000000) :
    ∀ d kk a, kk + d = (rd_L5 P (i : Int)).length → Ev (fun k => spec_GreatestGap.l0 k P (mx b (gpK R X Y (rd_L5 P (i : Int)) d kk a)) ((i + 1 : Nat) : Int) T S C X Y 0) Res → Ev (fun k => spec_GreatestGap.l1 k P b (i : Int) a (kk : Int) T S C X Y 0) Res := by
  have hwi := wrap_succ hi (show P.length ≤ 9223372036854775807 by omega)
  have i0 : (0 : Int) ≤ (i : Int) := by omega
  have i1 : (i : Int) < (P.length : Int) := by omega
  intro d
  induction d with
  | zero =>
    intro kk a hk h
    refine Ev.dn ?_
    simp only [spec_GreatestGap.l1, if_pos i0, if_pos i1, if_neg (show ¬ (kk : Int) < ((rd_L5 P (i : Int)).length : Int) by omega), hwi]
    exact h
  | succ d ih =>
    intro kk a hk h
    refine Ev.dn ?_
    simp only [spec_GreatestGap.l1, if_pos i0, if_pos i1, if_pos (show (kk : Int) < ((rd_L5 P (i : Int)).length : Int) by omega)]
    exact gg_l2 R hR T S C X Y hX hY e P b i kk Res hi hin (by omega) hm kk 0 a (by omega) (ih (kk + 1) _ (by omega) h)
theorem gg_l0 (R : Int → Int) (hR : ∀ s : Int, 0 ≤ s → Ev (fun k => spec_l15Root.f k s) (R s)) (T : List S98) (S : List S103) (C X Y : List Int) (hX : allIn X 0 100000 = true) (hY : allIn Y 0 100000 = true) (e : Y.length = X.length) (P : List (List Int)) (hP : P.length ≤ 1000000) (hin : ∀ i : Nat, i < P.length → inX X (rd_L5 P (i : Int)) ∧ (rd_L5 P (i : Int)).length ≤ 1000000) :
    ∀ d i b, i + d = P.length → Ev (fun k => spec_GreatestGap.l0 k P b (i : Int) T S C X Y 0) (gpI R X Y P d i b, 0) := by
  intro d
  induction d with
  | zero =>
    intro i b hi
    refine Ev.dn ?_
    simp only [spec_GreatestGap.l0, if_neg (show ¬ (i : Int) < (P.length : Int) by omega)]
    exact Ev.now _
  | succ d ih =>
    intro i b hi
    have hil : i < P.length := by omega
    refine Ev.dn ?_
    simp only [spec_GreatestGap.l0, if_pos (show (i : Int) < (P.length : Int) by omega)]
    exact gg_l1 R hR T S C X Y hX hY e P b i _ hil hP (hin i hil).1 (hin i hil).2 (rd_L5 P (i : Int)).length 0 10000 (by omega) (ih (i + 1) _ (by omega))
def fxR (q : List Int) : Nat → Nat → List Int → List Int
  | 0, _, x => x
  | d + 1, j, x => fxR q d (j + 1) (if rd q (j : Int) = rd x (j : Int) then x else x.set j (-1))
theorem fxR_len (q : List Int) : ∀ d j x, (fxR q d j x).length = x.length
  | 0, _, x => rfl
  | d + 1, j, x => by
    simp only [fxR]
    rw [fxR_len q d (j + 1) _]
    split
    · rfl
    · simp
def fxA (P : List (List Int)) (n : Nat) : Nat → Nat → List Int → List Int
  | 0, _, x => x
  | d + 1, i, x => fxA P n d (i + 1) (fxR (rd_L5 P (i : Int)) n 0 x)
theorem fxA_len (P : List (List Int)) (n : Nat) : ∀ d i x, (fxA P n d i x).length = x.length
  | 0, _, x => rfl
  | d + 1, i, x => by
    simp only [fxA]
    rw [fxA_len P n d (i + 1) _, fxR_len]
theorem fx_spec1 (P : List (List Int)) (i n : Nat) (R : List Int × Int) (hi : i < P.length) (hn : n ≤ 1000000) (hP : P.length ≤ 1000000) (hq : (rd_L5 P (i : Int)).length = n) :
    ∀ d j x, j + d = n → x.length = n → Ev (fun k => spec_FixedSpots.l0 k P (fxR (rd_L5 P (i : Int)) d j x) ((i + 1 : Nat) : Int)) R → Ev (fun k => spec_FixedSpots.l1 k P x (i : Int) (j : Int)) R := by
  have i0 : (0 : Int) ≤ (i : Int) := by omega
  have i1 : (i : Int) < (P.length : Int) := by omega
  have hwi := wrap_succ hi (show P.length ≤ 9223372036854775807 by omega)
  intro d
  induction d with
  | zero =>
    intro j x hj hx h
    have c : ¬ (j : Int) < (x.length : Int) := by omega
    refine Ev.dn ?_
    simp only [spec_FixedSpots.l1, if_neg c, hwi]
    exact h
  | succ d ih =>
    intro j x hj hx h
    have j0 : (0 : Int) ≤ (j : Int) := by clear ih; omega
    have j1 : (j : Int) < (x.length : Int) := by clear ih; omega
    have j2 : (j : Int) < ((rd_L5 P (i : Int)).length : Int) := by clear ih; omega
    have hj' : j + 1 + d = n := by clear ih; omega
    have hw := wrap_succ (show j < n by clear ih; omega) (show n ≤ 9223372036854775807 by clear ih; omega)
    simp only [fxR] at h
    refine Ev.dn ?_
    simp only [spec_FixedSpots.l1, if_pos j1, if_pos i0, if_pos i1, if_pos j0, if_pos j2, hw, Int.toNat_natCast]
    by_cases c : rd (rd_L5 P (i : Int)) (j : Int) = rd x (j : Int)
    · simp only [if_pos c] at h ⊢
      exact ih (j + 1) x hj' hx h
    · simp only [if_neg c] at h ⊢
      exact ih (j + 1) _ hj' (by rw [List.length_set]; exact hx) h
theorem fx_impl1 (P : List (List Int)) (i n : Nat) (R : List Int × Int) (hi : i < P.length) (hn : n ≤ 1000000) (hP : P.length ≤ 1000000) (hq : (rd_L5 P (i : Int)).length = n) :
    ∀ d j x, j + d = n → x.length = n → Ev (fun k => impl_FixedSpots.l0 k (fxR (rd_L5 P (i : Int)) d j x) P (P.length : Int) ((i + 1 : Nat) : Int)) R → Ev (fun k => impl_FixedSpots.l1 k x P (P.length : Int) (i : Int) (rd_L5 P (i : Int)) ((rd_L5 P (i : Int)).length : Int) (j : Int)) R := by
  have hwi := wrap_succ hi (show P.length ≤ 9223372036854775807 by omega)
  intro d
  induction d with
  | zero =>
    intro j x hj hx h
    have c : ¬ (j : Int) < ((rd_L5 P (i : Int)).length : Int) := by omega
    refine Ev.dn ?_
    simp only [impl_FixedSpots.l1, if_neg c, hwi]
    exact h
  | succ d ih =>
    intro j x hj hx h
    have j0 : (0 : Int) ≤ (j : Int) := by clear ih; omega
    have j1 : (j : Int) < (x.length : Int) := by clear ih; omega
    have j2 : (j : Int) < ((rd_L5 P (i : Int)).length : Int) := by clear ih; omega
    have hj' : j + 1 + d = n := by clear ih; omega
    have hw := wrap_succ (show j < n by clear ih; omega) (show n ≤ 9223372036854775807 by clear ih; omega)
    simp only [fxR] at h
    refine Ev.dn ?_
    simp only [impl_FixedSpots.l1, if_pos j1, if_pos j0, if_pos j2, hw, Int.toNat_natCast]
    by_cases c : rd (rd_L5 P (i : Int)) (j : Int) = rd x (j : Int)
    · simp only [if_pos c] at h
      simp only [if_pos c.symm]
      exact ih (j + 1) x hj' hx h
    · simp only [if_neg c] at h
      simp only [if_neg (fun e => c (Eq.symm e))]
      exact ih (j + 1) _ hj' (by rw [List.length_set]; exact hx) h
theorem fx_ev (P : List (List Int)) (n : Nat) (hn : n ≤ 1000000) (hP : P.length ≤ 1000000) (hq : ∀ i : Nat, i < P.length → (rd_L5 P (i : Int)).length = n) :
    ∀ d i x, i + d = P.length → x.length = n → Ev (fun k => spec_FixedSpots.l0 k P x (i : Int)) (fxA P n d i x, 0) ∧ Ev (fun k => impl_FixedSpots.l0 k x P (P.length : Int) (i : Int)) (fxA P n d i x, 0) := by
  intro d
  induction d with
  | zero =>
    intro i x hi hx
    have c : ¬ (i : Int) < (P.length : Int) := by omega
    refine ⟨Ev.dn ?_, Ev.dn ?_⟩
    · simp only [spec_FixedSpots.l0, if_neg c]; exact Ev.now _
    · simp only [impl_FixedSpots.l0, if_neg c]; exact Ev.now _
  | succ d ih =>
    intro i x hi hx
    have hil : i < P.length := by clear ih; omega
    have i0 : (0 : Int) ≤ (i : Int) := by clear ih; omega
    have i1 : (i : Int) < (P.length : Int) := by clear ih; omega
    have h := ih (i + 1) (fxR (rd_L5 P (i : Int)) n 0 x) (by clear ih; omega) (by rw [fxR_len]; exact hx)
    refine ⟨Ev.dn ?_, Ev.dn ?_⟩
    · simp only [spec_FixedSpots.l0, if_pos i1]
      exact fx_spec1 P i n _ hil hn hP (hq i hil) n 0 x (by omega) hx h.1
    · simp only [impl_FixedSpots.l0, if_pos i1, if_pos i0]
      exact fx_impl1 P i n _ hil hn hP (hq i hil) n 0 x (by omega) hx h.2
theorem inX_nil (X : List Int) : inX X [] := fun j hj => absurd hj (by simp)
theorem likeInts_refl (l : List Int) (hn : l.length ≤ 1000000) : Ev (fun k => laws_likeInts.f k l l) true := by
  unfold laws_likeInts.f
  simp only [if_true]
  have h := Ev.allLoop (l := fun k j => laws_likeInts.l0 k l l j) (n := l.length) (fun _ => true) false true
    (fun j hj => Evt.all fun k => by
      simp only [laws_likeInts.l0]
      rw [if_pos (by omega), if_pos (by omega), if_pos (by omega), wrap_succ hj (by omega)])
    (Evt.all fun k => by
      simp only [laws_likeInts.l0]
      rw [if_neg (by omega)]) l.length 0 (by omega)
  refine Ev.eq h ?_
  rw [(allD_iff _ _ _).2 (fun _ _ _ => rfl)]
  rfl
theorem count_ev (T : List S98) (S : List S103) (C X Y : List Int) (g : Int) (c : fldOk T S C X Y g = true) : Ev (fun k => impl_CountPlacings.f k T S C X Y g) (((plD T S C X Y g C.length []).length : Int), 0) := by
  obtain ⟨l1, l2, l3, l4, e⟩ := fldOk_len c
  obtain ⟨hX, hY⟩ := fldOk_xy c
  have hi := impl_IsField_ev T S C X Y g (by omega) (by omega) (by omega) (by omega) (by omega)
  rw [c] at hi
  unfold impl_CountPlacings.f
  refine Ev.bind hi ?_
  simp only [if_true]
  exact Ev.bind (impl_placings_ev T S C X Y g (by omega) (by omega) l3 l4 hX hY e C.length [] (by simp) (inX_nil X)) (Ev.now _)
theorem fldOk_gap {T : List S98} {S : List S103} {C X Y : List Int} {g h : Int} (c : fldOk T S C X Y g = true) (h0 : 0 ≤ h) (h1 : h ≤ 10000) : fldOk T S C X Y h = true := by
  have e : rin h 0 10000 = true := rin_iff.2 ⟨h0, h1⟩
  simp only [fldOk, Bool.and_eq_true] at c ⊢
  exact ⟨c.1, e⟩
theorem bpD_mem (X Y : List Int) (P : List (List Int)) : ∀ d i b, i + d = P.length → bpD X Y P d i b = b ∨ bpD X Y P d i b ∈ P
  | 0, _, b, _ => .inl rfl
  | d + 1, i, b, h => by
    simp only [bpD]
    split
    · exact .inr ((bpD_mem X Y P d (i + 1) _ (by omega)).elim (fun e => by rw [e]; exact rd_L5_mem (by omega)) id)
    · exact bpD_mem X Y P d (i + 1) b (by omega)
theorem BestPlacing_is (T : List S98) (S : List S103) (C X Y : List Int) (g : Int) (h1 : T.length ≤ 1000000) (h2 : S.length ≤ 1000000) (h3 : C.length ≤ 1000000) (h4 : X.length ≤ 1000000) (h5 : Y.length ≤ 1000000) :
    ∃ r : List Int × Int × Int, Ev (fun k => spec_BestPlacing.f k T S C X Y g) r ∧ Ev (fun k => impl_BestPlacing.f k T S C X Y g) r ∧ r.1.length ≤ 1000 ∧ (fldOk T S C X Y g = true → plD T S C X Y g C.length [] ≠ [] → r.2.2 = 0 ∧ r.1 ∈ plD T S C X Y g C.length []) := by
  have hs := spec_IsField_ev T S C X Y g h1 h2 h3 h4 h5
  have hi := impl_IsField_ev T S C X Y g h1 h2 h3 h4 h5
  unfold spec_BestPlacing.f impl_BestPlacing.f
  cases c : fldOk T S C X Y g with
  | false =>
    rw [c] at hs hi
    refine ⟨([], 0, 1), Ev.bind hs ?_, Ev.bind hi ?_, by simp, fun h => absurd h (by decide)⟩
    · simp only [Bool.false_eq_true, if_false]; exact Ev.now _
    · simp only [Bool.false_eq_true, if_false]; exact Ev.now _
  | true =>
    rw [c] at hs hi
    obtain ⟨_, _, l3, l4, e⟩ := fldOk_len c
    obtain ⟨hX, hY⟩ := fldOk_xy c
    have sp : Ev (fun k => spec_l18Placings.f k T S C X Y g) (plD T S C X Y g C.length []) := by
      unfold spec_l18Placings.f
      exact Ev.bind (spec_spots_ev T S C X Y g h1 h2 h3 h4 e) (Ev.bind (spec_all_ev T S C X Y g l3 l4 e C.length [] (by simp) (inX_nil X)) (Ev.now _))
    have ip := impl_placings_ev T S C X Y g h1 h2 l3 l4 hX hY e C.length [] (by simp) (inX_nil X)
    have hlen := plD_len T S C X Y g l4 C.length []
    have hpw : 7 ^ C.length ≤ 2401 := Nat.le_trans (Nat.pow_le_pow_right (by decide) l3) (by decide)
    have hin : ∀ x ∈ plD T S C X Y g C.length [], inX X x ∧ x.length ≤ 1000 := fun x hx => ⟨mem_inX T S C X Y g C.length [] (inX_nil X) x hx, by have := plD_all T S C X Y g C.length [] x hx; rw [List.length_nil] at this; omega⟩
    have hP : (plD T S C X Y g C.length []).length ≤ 1000000 := by omega
    clear hlen
    generalize plD T S C X Y g C.length [] = P at sp ip hin hP ⊢
    cases P with
    | nil =>
      refine ⟨([], 0, 4), Ev.bind hs ?_, Ev.bind hi ?_, by simp, fun _ h => absurd rfl h⟩
      · simp only [if_true]
        refine Ev.bind sp ?_
        simp only [if_pos (show ((([] : List (List Int)).length : Nat) : Int) = 0 by rfl)]
        exact Ev.now _
      · simp only [if_true]
        have hb : Ev (fun k => impl_bestPlacing.f k T S C X Y g) (([] : List Int), false) := by
          unfold impl_bestPlacing.f
          refine Ev.bind ip ?_
          simp only [if_pos (show ((([] : List (List Int)).length : Nat) : Int) = 0 by rfl)]
          exact Ev.now _
        refine Ev.bind hb ?_
        simp only [Bool.false_eq_true, if_false]
        exact Ev.now _
    | cons p ps =>
      have z0 : ¬ (((p :: ps).length : Nat) : Int) = 0 := by rw [List.length_cons]; omega
      have z1 : (0 : Int) < (((p :: ps).length : Nat) : Int) := by rw [List.length_cons]; omega
      have hr0 : rd_L5 (p :: ps) 0 = p := rfl
      obtain ⟨q1, q2⟩ := hin p (List.mem_cons_self ..)
      obtain ⟨b1, b2, b3, b4⟩ := best_ev T S C X Y g e (p :: ps) hP hin (p :: ps).length 0 p (by omega) q1 q2
      have hc := cst_ev T S C X Y g _ e (by omega) b3
      refine ⟨(bpD X Y (p :: ps) (p :: ps).length 0 p, cst X Y (bpD X Y (p :: ps) (p :: ps).length 0 p), 0), Ev.bind hs ?_, Ev.bind hi ?_, b4, fun _ _ => ⟨rfl, (bpD_mem X Y (p :: ps) (p :: ps).length 0 p (by omega)).elim (fun e => by show bpD X Y (p :: ps) (p :: ps).length 0 p ∈ _; rw [e]; exact List.mem_cons_self ..) id⟩⟩
      · simp only [if_true]
        refine Ev.bind sp ?_
        simp only [if_neg z0, if_pos z1, hr0]
        exact b1
      · simp only [if_true]
        have hb : Ev (fun k => impl_bestPlacing.f k T S C X Y g) (bpD X Y (p :: ps) (p :: ps).length 0 p, true) := by
          unfold impl_bestPlacing.f
          refine Ev.bind ip ?_
          simp only [if_neg z0, if_pos z1, hr0]
          exact b2
        refine Ev.bind hb ?_
        simp only [if_true]
        exact Ev.bind hc.2 (Ev.now _)
theorem GreatestGap_is (T : List S98) (S : List S103) (C X Y : List Int) (g : Int) (h1 : T.length ≤ 1000000) (h2 : S.length ≤ 1000000) (h3 : C.length ≤ 1000000) (h4 : X.length ≤ 1000000) (h5 : Y.length ≤ 1000000) :
    ∃ r : Int × Int, Ev (fun k => spec_GreatestGap.f k T S C X Y g) r ∧ Ev (fun k => impl_GreatestGap.f k T S C X Y g) r ∧ (r.2 = 0 → fldOk T S C X Y g = true ∧ 0 ≤ r.1 ∧ r.1 ≤ 10000 ∧ ∀ h : Int, 0 ≤ h → h ≤ 10000 → (plD T S C X Y h C.length [] ≠ [] ↔ h ≤ r.1)) := by
  have hs := spec_IsField_ev T S C X Y g h1 h2 h3 h4 h5
  have hi := impl_IsField_ev T S C X Y g h1 h2 h3 h4 h5
  unfold spec_GreatestGap.f impl_GreatestGap.f
  cases c : fldOk T S C X Y g with
  | false =>
    rw [c] at hs hi
    refine ⟨(0, 1), Ev.bind hs ?_, Ev.bind hi ?_, fun h => absurd h (by decide)⟩
    · simp only [Bool.false_eq_true, if_false]; exact Ev.now _
    · simp only [Bool.false_eq_true, if_false]; exact Ev.now _
  | true =>
    rw [c] at hs hi
    obtain ⟨_, _, l3, l4, e⟩ := fldOk_len c
    obtain ⟨hX, hY⟩ := fldOk_xy c
    have hp : inX X [] := fun j hj => absurd hj (by simp)
    obtain ⟨R, hR, hRe⟩ := roots
    have sp : Ev (fun k => spec_l18Placings.f k T S C X Y 0) (plD T S C X Y 0 C.length []) := by
      unfold spec_l18Placings.f
      exact Ev.bind (spec_spots_ev T S C X Y 0 h1 h2 h3 h4 e) (Ev.bind (spec_all_ev T S C X Y 0 l3 l4 e C.length [] (by simp) hp) (Ev.now _))
    have ip : ∀ g : Int, Ev (fun k => impl_hasPlacing.f k T S C X Y g []) (neB (plD T S C X Y g C.length [])) := fun g => hasPlacing_ev T S C X Y g h1 h2 l3 l4 hX hY e C.length [] (by simp) hp
    have hg : ∀ g : Int, 0 ≤ g → g ≤ 10000 → (plD T S C X Y g C.length [] ≠ [] ↔ (plD T S C X Y 0 C.length [] ≠ [] ∧ g ≤ gpI R X Y (plD T S C X Y 0 C.length []) (plD T S C X Y 0 C.length []).length 0 0)) := fun g g0 g1 => has_gap hR T S C X Y hX hY e g0 g1
    have hlen := plD_all T S C X Y 0 C.length []
    have hinx := mem_inX T S C X Y 0 C.length [] hp
    have hsz : (plD T S C X Y 0 C.length []).length ≤ 1000000 := Nat.le_trans (plD_len T S C X Y 0 l4 C.length []) (Nat.le_trans (Nat.pow_le_pow_right (by decide) l3) (by decide))
    simp only [List.length_nil, Nat.zero_add] at hlen
    generalize plD T S C X Y 0 C.length [] = P at sp hg hlen hsz hinx
    have hbd := gpI_bd R X Y P 0 P.length 0 (by omega) (by omega)
    by_cases z : P = []
    · subst z
      refine ⟨(0, 4), Ev.bind hs ?_, Ev.bind hi ?_, fun h => absurd h (by decide)⟩
      · simp only [if_true]
        refine Ev.bind sp ?_
        simp only [List.length_nil, show ((0 : Nat) : Int) = 0 from rfl, if_true]
        exact Ev.now _
      · simp only [if_true]
        exact gap_search T S C X Y (-1) (by omega) (by omega) (fun g g0 g1 => (ip g).eq (by
          rw [decide_eq_false (by omega), ← Bool.not_eq_true, neB_iff]
          exact fun h => ((hg g g0 g1).1 h).1 rfl)) 10001 (-1) 10000 g (by omega) (by omega) (by omega) (by omega) (by omega)
    · have z' : ¬ (P.length : Int) = 0 := by
        have : P.length ≠ 0 := fun h => z (List.length_eq_zero_iff.1 h)
        omega
      refine ⟨(gpI R X Y P P.length 0 0, 0), Ev.bind hs ?_, Ev.bind hi ?_, fun _ => ⟨rfl, hbd.1, hbd.2, fun h h0 h1 => (hg h h0 h1).trans ⟨fun q => q.2, fun q => ⟨z, q⟩⟩⟩⟩
      · simp only [if_true]
        refine Ev.bind sp ?_
        simp only [if_neg z']
        exact gg_l0 R hRe T S C X Y hX hY e P hsz (fun i hi => ⟨hinx _ (rd_L5_mem hi), by rw [hlen _ (rd_L5_mem hi)]; exact h3⟩) P.length 0 0 (by omega)
      · simp only [if_true]
        have h := gap_search T S C X Y (gpI R X Y P P.length 0 0) (by omega) hbd.2 (fun g g0 g1 => (ip g).eq (by
          rw [Bool.eq_iff_iff, neB_iff, hg g g0 g1, decide_eq_true_eq]
          exact ⟨fun h => h.2, fun h => ⟨z, h⟩⟩)) 10001 (-1) 10000 g (by omega) (by omega) hbd.2 (by omega) (by omega)
        rwa [if_neg (by omega)] at h
theorem fxR_at (q : List Int) (i : Nat) : ∀ d j x, i < x.length → rd (fxR q d j x) (i : Int) = rd x (i : Int) ∧ (j ≤ i → i < j + d → rd q (i : Int) = rd x (i : Int)) ∨ rd (fxR q d j x) (i : Int) = -1
  | 0, j, x, _ => .inl ⟨rfl, fun h1 h2 => by omega⟩
  | d + 1, j, x, h => by
    simp only [fxR]
    by_cases c : rd q (j : Int) = rd x (j : Int)
    · rw [if_pos c]
      refine (fxR_at q i d (j + 1) x h).imp (fun ⟨h1, h2⟩ => ⟨h1, fun h3 h4 => ?_⟩) id
      by_cases e : i = j
      · subst e; exact c
      · exact h2 (by omega) (by omega)
    · rw [if_neg c]
      have hl : i < (x.set j (-1)).length := by rw [List.length_set]; exact h
      by_cases e : i = j
      · subst e
        have hr : rd (x.set i (-1)) (i : Int) = -1 := by rw [rd_nat hl]; simp
        exact .inr ((fxR_at q i d (i + 1) _ hl).elim (fun h => h.1.trans hr) id)
      · have hr : rd (x.set j (-1)) (i : Int) = rd x (i : Int) := by rw [rd_nat hl, rd_nat h]; exact List.getElem_set_ne (fun q => e q.symm) _
        rw [← hr]
        exact (fxR_at q i d (j + 1) _ hl).imp (fun ⟨h1, h2⟩ => ⟨h1, fun h3 h4 => h2 (by omega) (by omega)⟩) id
theorem fxA_at (P : List (List Int)) (n j : Nat) (hj : j < n) : ∀ d i x, x.length = n → rd (fxA P n d i x) (j : Int) = -1 ∨ (rd (fxA P n d i x) (j : Int) = rd x (j : Int) ∧ ∀ m : Nat, i ≤ m → m < i + d → rd (fxA P n d i x) (j : Int) = rd (rd_L5 P (m : Int)) (j : Int))
  | 0, i, x, _ => .inr ⟨rfl, fun m h1 h2 => by omega⟩
  | d + 1, i, x, h => by
    simp only [fxA]
    rcases fxA_at P n j hj d (i + 1) (fxR (rd_L5 P (i : Int)) n 0 x) (by rw [fxR_len]; exact h) with h1 | ⟨h1, h2⟩
    · exact .inl h1
    · rcases fxR_at (rd_L5 P (i : Int)) j n 0 x (by omega) with ⟨h3, h4⟩ | h3
      · refine .inr ⟨h1.trans h3, fun m h5 h6 => ?_⟩
        by_cases e : m = i
        · subst e
          rw [h1, h3, h4 (Nat.zero_le _) (by omega)]
        · exact h2 m (by omega) (by omega)
      · exact .inl (h1.trans h3)
theorem FixedSpots_is (T : List S98) (S : List S103) (C X Y : List Int) (g : Int) (h1 : T.length ≤ 1000000) (h2 : S.length ≤ 1000000) (h3 : C.length ≤ 1000000) (h4 : X.length ≤ 1000000) (h5 : Y.length ≤ 1000000) :
    ∃ r : List Int × Int, Ev (fun k => spec_FixedSpots.f k T S C X Y g) r ∧ Ev (fun k => impl_FixedSpots.f k T S C X Y g) r ∧ r.1.length ≤ 1000 ∧ (r.2 = 0 → fldOk T S C X Y g = true ∧ plD T S C X Y g C.length [] ≠ [] ∧ r.1.length = C.length ∧ ∀ x ∈ plD T S C X Y g C.length [], ∀ j : Nat, j < C.length → rd r.1 (j : Int) = -1 ∨ rd r.1 (j : Int) = rd x (j : Int)) := by
  have hs := spec_IsField_ev T S C X Y g h1 h2 h3 h4 h5
  have hi := impl_IsField_ev T S C X Y g h1 h2 h3 h4 h5
  unfold spec_FixedSpots.f impl_FixedSpots.f
  cases c : fldOk T S C X Y g with
  | false =>
    rw [c] at hs hi
    refine ⟨([], 1), Ev.bind hs ?_, Ev.bind hi ?_, by simp, fun h => absurd h (by decide)⟩
    · simp only [Bool.false_eq_true, if_false]; exact Ev.now _
    · simp only [Bool.false_eq_true, if_false]; exact Ev.now _
  | true =>
    rw [c] at hs hi
    obtain ⟨_, _, l3, l4, e⟩ := fldOk_len c
    obtain ⟨hX, hY⟩ := fldOk_xy c
    have hp : inX X [] := fun j hj => absurd hj (by simp)
    have sp : Ev (fun k => spec_l18Placings.f k T S C X Y g) (plD T S C X Y g C.length []) := by
      unfold spec_l18Placings.f
      exact Ev.bind (spec_spots_ev T S C X Y g h1 h2 h3 h4 e) (Ev.bind (spec_all_ev T S C X Y g l3 l4 e C.length [] (by simp) hp) (Ev.now _))
    have ip := impl_placings_ev T S C X Y g h1 h2 l3 l4 hX hY e C.length [] (by simp) hp
    have hlen := plD_all T S C X Y g C.length []
    have hsz : (plD T S C X Y g C.length []).length ≤ 1000000 := Nat.le_trans (plD_len T S C X Y g l4 C.length []) (Nat.le_trans (Nat.pow_le_pow_right (by decide) l3) (by decide))
    simp only [List.length_nil, Nat.zero_add] at hlen
    generalize plD T S C X Y g C.length [] = P at sp ip hlen hsz ⊢
    have hq : ∀ i : Nat, i < P.length → (rd_L5 P (i : Int)).length = C.length := fun i h => hlen _ (rd_L5_mem h)
    by_cases z : P.length = 0
    · have z' : (P.length : Int) = 0 := by omega
      refine ⟨([], 4), Ev.bind hs ?_, Ev.bind hi ?_, by simp, fun h => absurd h (by decide)⟩
      · simp only [if_true]
        refine Ev.bind sp ?_
        simp only [if_pos z']; exact Ev.now _
      · simp only [if_true]
        refine Ev.bind ip ?_
        simp only [if_pos z']; exact Ev.now _
    · have z' : ¬ (P.length : Int) = 0 := by omega
      have z2 : (0 : Int) < (P.length : Int) := by omega
      have q0 := hq 0 (by omega)
      have hf := fx_ev P C.length h3 hsz hq P.length 0 (rd_L5 P ((0 : Nat) : Int)) (by omega) q0
      have hl0 : (rd_L5 P ((0 : Nat) : Int)).length ≤ 1000000 := by omega
      refine ⟨(fxA P C.length P.length 0 (rd_L5 P ((0 : Nat) : Int)), 0), Ev.bind hs ?_, Ev.bind hi ?_, ?_, fun _ => ⟨rfl, fun h => z (by rw [h]; rfl), by simp only [fxA_len]; exact q0, fun x hx j hj => ?_⟩⟩
      · simp only [if_true]
        refine Ev.bind sp ?_
        simp only [if_neg z', if_pos z2]
        refine Ev.bind (Ev.all fun k => own_some _ hl0) ?_
        exact hf.1
      · simp only [if_true]
        refine Ev.bind ip ?_
        simp only [if_neg z', if_pos z2]
        refine Ev.bind (copyList_ev _ hl0) ?_
        exact hf.2
      · simp only [fxA_len]
        omega
      · obtain ⟨m, hm, rfl⟩ := List.getElem_of_mem hx
        have e : rd_L5 P (m : Int) = P[m] := by simp [rd_L5, hm]
        have := fxA_at P C.length j hj P.length 0 (rd_L5 P ((0 : Nat) : Int)) q0
        rw [← e]
        exact this.imp id fun h => h.2 m (Nat.zero_le _) (by omega)
theorem SpotsFor_is (T : List S98) (S : List S103) (C X Y : List Int) (g a : Int) (h1 : T.length ≤ 1000000) (h2 : S.length ≤ 1000000) (h3 : C.length ≤ 1000000) (h4 : X.length ≤ 1000000) (h5 : Y.length ≤ 1000000) :
    ∃ r : List Int × Int, Ev (fun k => spec_SpotsFor.f k T S C X Y g a) r ∧ Ev (fun k => impl_SpotsFor.f k T S C X Y g a) r ∧ r.1.length ≤ 1000 ∧ (r.2 = 0 → fldOk T S C X Y g = true ∧ 0 ≤ a ∧ a < (C.length : Int) ∧ r.1 = sps T S X Y (rd C a)) := by
  have hs := spec_IsField_ev T S C X Y g h1 h2 h3 h4 h5
  have hi := impl_IsField_ev T S C X Y g h1 h2 h3 h4 h5
  unfold spec_SpotsFor.f impl_SpotsFor.f impl_isIndex.f
  simp only [l01In_eq, within_eq, Option.bind_some]
  cases c : fldOk T S C X Y g with
  | false =>
    rw [c] at hs hi
    refine ⟨([], 1), Ev.bind hs ?_, Ev.bind hi ?_, by simp, fun h => absurd h (by decide)⟩
    · simp only [Bool.false_eq_true, if_false]; exact Ev.now _
    · simp only [Bool.false_eq_true, if_false]; exact Ev.now _
  | true =>
    rw [c] at hs hi
    obtain ⟨_, _, l3, l4, e⟩ := fldOk_len c
    cases q : rin a 0 (wrap64 ((C.length : Int) - 1)) with
    | false =>
      refine ⟨([], 2), Ev.bind hs ?_, Ev.bind hi ?_, by simp, fun h => absurd h (by decide)⟩
      · simp only [if_true, Bool.false_eq_true, if_false]; exact Ev.now _
      · simp only [if_true, Bool.false_eq_true, if_false]; exact Ev.now _
    | true =>
      rw [wrap_id (by omega) (by omega)] at q
      obtain ⟨a0, a1⟩ := rin_iff.1 q
      refine ⟨(sps T S X Y (rd C a), 0), Ev.bind hs ?_, Ev.bind hi ?_, ?_, fun _ => ⟨rfl, a0, by omega, rfl⟩⟩
      · simp only [if_true]
        refine Ev.bind (spec_spots_ev T S C X Y g h1 h2 h3 h4 e) ?_
        simp only [sts_len, if_pos a0, if_pos (show a < (C.length : Int) by omega), sts_rd T S C X Y a a0 (by omega)]
        exact Ev.now _
      · simp only [if_true]
        exact impl_spots_ev T S C X Y g a h1 h2 h4 e a0 (by omega) X.length 0 [] (by omega) (by simp)
      · have := spD_len T S X Y (rd C a) X.length 0 []
        simp only [sps]
        simp at this
        omega
theorem IsAllowed_ev (T : List S98) (S : List S103) (C X Y : List Int) (g a : Int) (j : Nat) (c : fldOk T S C X Y g = true) (a0 : 0 ≤ a) (a1 : a < (C.length : Int)) (hj : j < X.length) : Ev (fun k => impl_IsAllowed.f k T S (rd C a) (rd X (j : Int)) (rd Y (j : Int))) (alw T S (rd C a) (rd X (j : Int)) (rd Y (j : Int)), 0) := by
  obtain ⟨l1, l2, _, _, e⟩ := fldOk_len c
  obtain ⟨hX, hY⟩ := fldOk_xy c
  simp only [fldOk, Bool.and_eq_true] at c
  have hC := rin_iff.2 (rd_bound c.1.1.1.1.1.2 a0 a1)
  have x1 := rin_iff.2 ((allIn_iff _ _ _).1 hX j hj)
  have y1 := rin_iff.2 ((allIn_iff _ _ _).1 hY j (by omega))
  have ht := impl_IsTable_ev T (by omega)
  have hs := impl_IsSite_ev S (by omega)
  rw [c.1.1.1.1.1.1.1.1] at ht
  rw [c.1.1.1.1.1.1.1.2] at hs
  unfold impl_IsAllowed.f
  refine Ev.bind ht ?_
  simp only [if_true]
  refine Ev.bind hs ?_
  refine Ev.dn ?_
  simp only [impl_IsAllowed.j0, impl_isCalibre.f, impl_isPlace.f, Bool.not_true, Bool.false_eq_true, if_false, if_true, within_eq, Option.bind_some, hC, x1, y1]
  exact Ev.bind (impl_isAllowed_ev T S _ _ _ (by omega) (by omega)) (Ev.now _)
theorem dGap {L : List Int} (hL : By L) : ∃ (T : List S98) (S : List S103) (C X Y : List Int) (g : Int), Ev (fun k => spec_DrawGreatestGap.f k L) (T, S, C, X, Y, g) ∧ T.length ≤ 100 ∧ S.length ≤ 100 ∧ C.length ≤ 100 ∧ X.length ≤ 100 ∧ Y.length ≤ 100 := by
  obtain ⟨z, h0, g0⟩ := from_ev hL
  obtain ⟨T, S, C, X, Y, g, p1, z1, h1, n1, n2, n3, n4, n5, _, _⟩ := draw18_ok hL g0
  refine ⟨T, S, C, X, Y, g, ?_, n1, n2, n3, n4, n5⟩
  unfold spec_DrawGreatestGap.f
  exact Ev.bind h0 (Ev.bind h1 (Ev.now _))
theorem dSp {L : List Int} (hL : By L) : ∃ (T : List S98) (S : List S103) (C X Y : List Int) (g a : Int), Ev (fun k => spec_DrawSpotsFor.f k L) (T, S, C, X, Y, g, a) ∧ T.length ≤ 100 ∧ S.length ≤ 100 ∧ C.length ≤ 100 ∧ X.length ≤ 100 ∧ Y.length ≤ 100 := by
  obtain ⟨z, h0, g0⟩ := from_ev hL
  obtain ⟨T, S, C, X, Y, g, p1, z1, h1, n1, n2, n3, n4, n5, _, g1⟩ := draw18_ok hL g0
  obtain ⟨u, p2, z2, e2, g2, _, _⟩ := next_ok hL g1 ((C.length : Int) + 1) (by omega) (by omega)
  obtain ⟨v, p3, z3, e3, g3, _, _⟩ := next_ok hL g2 24 (by omega) (by omega)
  have hw : wrap64 ((C.length : Int) + 1) = (C.length : Int) + 1 := wrap_id (by omega) (by omega)
  refine ⟨T, S, C, X, Y, g, _, (?_ : Ev _ (T, S, C, X, Y, g, wrap64 (u - wrap64 (Int.tdiv v 23)))), n1, n2, n3, n4, n5⟩
  unfold spec_DrawSpotsFor.f
  refine Ev.bind h0 (Ev.bind h1 ?_)
  simp only [hw, e2, e3, Option.bind_some]
  exact Ev.now _
def gpU (T : List S98) (S : List S103) (C X Y : List Int) (g u : Int) : Prop := fldOk T S C X Y g = true ∧ 0 ≤ u ∧ u ≤ 10000 ∧ ∀ h : Int, 0 ≤ h → h ≤ 10000 → (plD T S C X Y h C.length [] ≠ [] ↔ h ≤ u)
theorem gp_j5 (T : List S98) (S : List S103) (C X Y : List Int) (g u e : Int) (hu : e = 0 → gpU T S C X Y g u) : Ev (fun k => laws_FnGaps.j5 k u e T S C X Y g) true := by
  refine Ev.dn ?_
  by_cases c : e = 0
  · obtain ⟨c1, u0, u1, hp⟩ := hu c
    have h1 := count_ev T S C X Y u (fldOk_gap c1 u0 u1)
    have hpos : ((plD T S C X Y u C.length []).length : Int) > 0 := by
      have := List.length_pos_iff.2 ((hp u u0 u1).2 (Int.le_refl u))
      omega
    have hn : ¬ ((plD T S C X Y u C.length []).length : Int) = 0 := by omega
    simp only [laws_FnGaps.j5, if_pos c]
    refine Ev.bind h1 ?_
    simp only [if_true, if_neg hn]
    by_cases d : u = 10000
    · simp only [if_pos d, decide_eq_true hpos]
      exact Ev.now _
    · have hw : wrap64 (u + 1) = u + 1 := wrap_id (by omega) (by omega)
      have h2 := count_ev T S C X Y (u + 1) (fldOk_gap c1 (by omega) (by omega))
      have hz : plD T S C X Y (u + 1) C.length [] = [] := Classical.byContradiction fun q => by
        have := (hp (u + 1) (by omega) (by omega)).1 q
        omega
      rw [hz] at h2
      simp only [if_neg d, hw]
      exact Ev.bind h2 (Ev.now _)
  · simp only [laws_FnGaps.j5, if_neg c]
    exact Ev.now _
theorem gp_l1 (T : List S98) (S : List S103) (C X Y : List Int) (g u e : Int) (hu : e = 0 → gpU T S C X Y g u) (x b : List Int) (hn : x.length ≤ 1000) (hb : b.length = x.length) (hx : ∀ j : Nat, j < x.length → rd x (j : Int) = -1 ∨ rd x (j : Int) = rd b (j : Int)) : ∀ d i, i + d = x.length → Ev (fun k => laws_FnGaps.l1 k u e x b (i : Int) T S C X Y g) true := by
  intro d
  induction d with
  | zero =>
    intro i hi
    refine Ev.dn ?_
    simp only [laws_FnGaps.l1, if_neg (show ¬ (i : Int) < (x.length : Int) by omega)]
    exact gp_j5 T S C X Y g u e hu
  | succ d ih =>
    intro i hi
    have hil : i < x.length := by omega
    have h := ih (i + 1) (by omega)
    have hw := wrap_succ hil (show x.length ≤ 9223372036854775807 by omega)
    refine Ev.dn ?_
    simp only [laws_FnGaps.l1, if_pos (show (i : Int) < (x.length : Int) by omega), if_pos (show (0 : Int) ≤ (i : Int) by omega), if_pos (show (i : Int) < (b.length : Int) by omega), hw]
    by_cases c : rd x (i : Int) = -1
    · simp only [if_pos c]
      exact h
    · simp only [if_neg c, if_pos ((hx i hil).resolve_left c)]
      exact h
theorem gp_j2f (T : List S98) (S : List S103) (C X Y : List Int) (g u e : Int) (n1 : T.length ≤ 100) (n2 : S.length ≤ 100) (n3 : C.length ≤ 100) (n4 : X.length ≤ 100) (n5 : Y.length ≤ 100) (hu : e = 0 → gpU T S C X Y g u) (x : List Int) (o : Int) (hn : x.length ≤ 1000)
    (hx : o = 0 → fldOk T S C X Y g = true ∧ plD T S C X Y g C.length [] ≠ [] ∧ x.length = C.length ∧ ∀ y ∈ plD T S C X Y g C.length [], ∀ j : Nat, j < C.length → rd x (j : Int) = -1 ∨ rd x (j : Int) = rd y (j : Int))
    (T' : List S98) (S' : List S103) (C' X' Y' : List Int) (g' a t i : Int) (s : List Int) : Ev (fun k => laws_FnGaps.j2 k u e x o a s t i false T S C X Y g T' S' C' X' Y' g') true := by
  refine Ev.dn ?_
  by_cases c : o = 0
  · obtain ⟨c1, c2, c3, c4⟩ := hx c
    obtain ⟨r, r1, r2, r3, r4⟩ := BestPlacing_is T S C X Y g (by omega) (by omega) (by omega) (by omega) (by omega)
    obtain ⟨r5, r6⟩ := r4 c1 c2
    have hl := plD_all T S C X Y g C.length [] r.1 r6
    rw [List.length_nil, Nat.zero_add] at hl
    have h := gp_l1 T S C X Y g u e hu x r.1 hn (by omega) (fun j hj => c4 r.1 r6 j (by omega)) x.length 0 (by omega)
    simp only [laws_FnGaps.j2, Bool.false_eq_true, if_false, if_pos c]
    refine Ev.bind r2 (Ev.bind r1 ?_)
    simp only [if_true]
    refine Ev.bind (likeInts_refl r.1 (by omega)) ?_
    refine Ev.dn ?_
    simp only [laws_FnGaps.j3, Bool.not_true, Bool.false_eq_true, if_false, if_pos r5]
    exact h
  · simp only [laws_FnGaps.j2, Bool.false_eq_true, if_false, if_neg c]
    exact gp_j5 T S C X Y g u e hu
theorem gp_loop (T : List S98) (S : List S103) (C X Y : List Int) (g u e : Int) (x : List Int) (o : Int) (T' : List S98) (S' : List S103) (C' X' Y' : List Int) (g' a t : Int) (s : List Int) (hs : s.length ≤ 1000) (h4 : t = 0 → fldOk T' S' C' X' Y' g' = true ∧ 0 ≤ a ∧ a < (C'.length : Int) ∧ s = sps T' S' X' Y' (rd C' a))
    (hend : ∀ i, Ev (fun k => laws_FnGaps.j2 k u e x o a s t i false T S C X Y g T' S' C' X' Y' g') true) : ∀ d i, i + d = X'.length → Ev (fun k => laws_FnGaps.l0 k u e x o a s t (i : Int) T S C X Y g T' S' C' X' Y' g') true := by
  by_cases c : t = 0
  · obtain ⟨c1, a0, a1, c2⟩ := h4 c
    obtain ⟨_, _, _, l4, e⟩ := fldOk_len c1
    intro d
    induction d with
    | zero =>
      intro i hi
      refine Ev.dn ?_
      simp only [laws_FnGaps.l0, if_pos c, decide_eq_false (show ¬ (i : Int) < (X'.length : Int) by omega)]
      exact hend _
    | succ d ih =>
      intro i hi
      have hil : i < X'.length := by clear ih; omega
      have i0 : (0 : Int) ≤ (i : Int) := by clear ih; omega
      have i1 : (i : Int) < (X'.length : Int) := by clear ih; omega
      have i2 : (i : Int) < (Y'.length : Int) := by clear ih; omega
      have h := ih (i + 1) (by clear ih; omega)
      have hw := wrap_succ hil (show X'.length ≤ 9223372036854775807 by clear ih h; omega)
      obtain ⟨b, h1, h2⟩ := hasI_ev s (i : Int) hs
      have hbe : b = alw T' S' (rd C' a) (rd X' (i : Int)) (rd Y' (i : Int)) := by
        rw [Bool.eq_iff_iff, h2, c2]
        exact mem_sps T' S' X' Y' (rd C' a) (i : Int) i0 i1
      have ha := IsAllowed_ev T' S' C' X' Y' g' a i c1 a0 a1 hil
      rw [← hbe] at ha
      refine Ev.dn ?_
      simp only [laws_FnGaps.l0, if_pos c, decide_eq_true i1]
      refine Ev.dn ?_
      simp only [laws_FnGaps.j2, if_true, if_pos a0, if_pos a1, if_pos i0, if_pos i1, if_pos i2, hw]
      refine Ev.bind ha ?_
      simp only [if_true]
      refine Ev.bind h1 ?_
      simp only [bne_self_eq_false, Bool.false_eq_true, if_false]
      exact h
  · intro d i hi
    refine Ev.dn ?_
    simp only [laws_FnGaps.l0, if_neg c]
    exact hend _
theorem FnGaps : ∀ (l0 : List Int), (l0.length ≤ reachBytes ∧ ∀ y ∈ l0, (Lit.int .u8 y).wf = true) → ∃ k, laws_FnGaps.f k l0 = some true := by
  intro L ⟨_, hb⟩
  apply Ev.rounds
  unfold laws_FnGaps.f laws_big.f
  simp only [Option.bind_some]
  by_cases hbig : (L.length : Int) > 4096
  · simp only [decide_eq_true hbig, if_true]; exact Ev.now _
  simp only [decide_eq_false hbig, Bool.false_eq_true, if_false]
  have hL : By L := by
    refine ⟨by omega, fun j hj => ?_⟩
    rw [show rd L (j : Int) = L[j] by simp [rd, hj]]
    have := hb _ (List.getElem_mem hj)
    simp only [Lit.wf, Bool.and_eq_true, decide_eq_true_eq] at this
    have m1 : IntKind.u8.min = 0 := by decide
    have m2 : IntKind.u8.max = 255 := by decide
    omega
  obtain ⟨T, S, C, X, Y, g, d1, n1, n2, n3, n4, n5⟩ := dGap hL
  obtain ⟨T', S', C', X', Y', g', a, d2, m1, m2, m3, m4, m5⟩ := dSp hL
  obtain ⟨r, r1, r2, r3⟩ := GreatestGap_is T S C X Y g (by omega) (by omega) (by omega) (by omega) (by omega)
  obtain ⟨x, x1, x2, x3, x4⟩ := FixedSpots_is T S C X Y g (by omega) (by omega) (by omega) (by omega) (by omega)
  obtain ⟨s, s1, s2, s3, s4⟩ := SpotsFor_is T' S' C' X' Y' g' a (by omega) (by omega) (by omega) (by omega) (by omega)
  have hend := fun i => gp_j2f T S C X Y g r.1 r.2 n1 n2 n3 n4 n5 r3 x.1 x.2 x3 x4 T' S' C' X' Y' g' a s.2 i s.1
  have loop := gp_loop T S C X Y g r.1 r.2 x.1 x.2 T' S' C' X' Y' g' a s.2 s.1 s3 s4 hend
  refine Ev.bind d1 (Ev.bind r2 (Ev.bind r1 (Ev.bind x2 (Ev.bind x1 (Ev.bind d2 (Ev.bind s2 (Ev.bind s1 ?_)))))))
  simp only [if_true]
  refine Ev.bind (likeInts_refl x.1 (by omega)) ?_
  simp only [if_true]
  refine Ev.bind (likeInts_refl s.1 (by omega)) ?_
  refine Ev.dn ?_
  simp only [laws_FnGaps.j0, Bool.not_true, Bool.false_eq_true, if_false]
  exact loop X'.length 0 (by omega)
end Go.Proofs.Ytancnecddlbhkaa.Pure
