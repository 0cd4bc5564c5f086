/- The law FnPlacings as a statement over numbers and lists, proved; no condition but the sizes and ranges that every input has. -/
import Derived.Test.YtancnecddlbhkaaF27
import Derived.Test.YtancnecddlbhkaaEv
namespace Go.Proofs.Ytancnecddlbhkaa.Pure
open Go.RowKit Go.Proofs.Ytancnecddlbhkaa.Pall Go.Proofs.YtancnecddlbhkaaW.PrintWords
set_option linter.unusedSimpArgs false
set_option linter.unusedVariables false
def rin (x a b : Int) : Bool := decide (a ≤ x) && decide (x ≤ b)
theorem l01In_eq (x a b : Int) : spec_l01In.f x a b = some (rin x a b) := by
 unfold spec_l01In.f rin
 by_cases h : a ≤ x
 ·rw [if_pos h, decide_eq_true h, Bool.true_and]
 ·rw [if_neg h, decide_eq_false h, Bool.false_and]
theorem within_eq (x a b : Int) : impl_within.f x a b = some (rin x a b) := by
 unfold impl_within.f rin
 by_cases h : a ≤ x
 ·rw [if_pos h, decide_eq_true h, Bool.true_and]
 ·rw [if_neg h, decide_eq_false h, Bool.false_and]
theorem rin_iff {x a b : Int} : rin x a b = true ↔ a ≤ x ∧ x ≤ b := by simp [rin]
def allIn (l : List Int) (a b : Int) : Bool := allD (fun j => rin (rd l (j : Int)) a b) 0 l.length
theorem allIn_iff (l : List Int) (a b : Int) : allIn l a b = true ↔ ∀ j : Nat, j < l.length → a ≤ rd l (j : Int) ∧ rd l (j : Int) ≤ b := by
 unfold allIn
 rw [allD_iff]
 simp only [rin_iff]
 exact ⟨fun h j hj => h j (Nat.zero_le _) (by omega), fun h j _ hj => h j (by omega)⟩
theorem allWithin_ev (l : List Int) (a b : Int) (hn : l.length ≤ 9223372036854775807) : Ev (fun k => impl_allWithin.f k l a b) (allIn l a b) := by
 unfold impl_allWithin.f
 have h := Ev.allLoop (l := fun k i => impl_allWithin.l0 k a b l (l.length : Int) i) (n := l.length) (fun j => rin (rd l (j : Int)) a b) false true
  (fun i hi => Evt.all fun k => by
   simp only [impl_allWithin.l0, within_eq, Option.bind_some]
   rw [if_pos (by omega), if_pos (by omega), if_pos (by omega), wrap_succ hi hn])
  (Evt.all fun k => by
   simp only [impl_allWithin.l0]
   rw [if_neg (by omega)]) l.length 0 (by omega)
 refine h.eq ?_
 unfold allIn
 cases allD (fun j => rin (rd l (j : Int)) a b) 0 l.length <;> simp
def ordB (l : List S98) (i j : Nat) : Bool :=
 decide ((rd_T98 l (i : Int)).f0 < (rd_T98 l (j : Int)).f0) || (decide ((rd_T98 l (i : Int)).f0 = (rd_T98 l (j : Int)).f0) && decide ((rd_T98 l (i : Int)).f1 < (rd_T98 l (j : Int)).f1) && decide ((rd_T98 l (i : Int)).f2 ≤ (rd_T98 l (j : Int)).f2))
def tbB (l : List S98) (j : Nat) : Bool :=
 rin (rd_T98 l (j : Int)).f0 0 3 && rin (rd_T98 l (j : Int)).f1 20 300 && rin (rd_T98 l (j : Int)).f2 0 10000 && (decide (j = 0) || ordB l (j - 1) j)
def tblOk (l : List S98) : Bool := allD (tbB l) 0 l.length && decide (l.length ≤ 12)
theorem spec_IsTable_ev (l : List S98) (hn : l.length ≤ 1000000) : Ev (fun k => spec_IsTable.f k l) (tblOk l) := by
 have h := Ev.allLoopQ (l := fun k i => spec_IsTable.l0 k l i) (n := l.length) (tbB l) false (decide (l.length ≤ 12))
  (fun i hi _ => by
   have main : ∀ r, (tbB l i = true → Ev (fun k => spec_IsTable.l0 k l ((i + 1 : Nat) : Int)) r) → (tbB l i = false → r = false) → Ev (fun k => spec_IsTable.l0 k l (i : Int)) r := by
    intro r h1 h2
    have hbad : ∀ x y z, tbB l i = false → Ev (fun k => spec_IsTable.j1 k l (i : Int) true x y z) r := fun x y z hb => Ev.dn (by
     rw [h2 hb]; simp only [spec_IsTable.j1, if_true]; exact Ev.now _)
    refine Ev.dn ?_
    simp only [spec_IsTable.l0, l01In_eq, Option.bind_some, if_pos (show (i : Int) < (l.length : Int) by omega), if_pos (show (0 : Int) ≤ (i : Int) by omega)]
    cases c0 : rin (rd_T98 l (i : Int)).f0 0 3 with
    | false => simp only [Bool.false_eq_true, if_false]; exact hbad _ _ _ (by simp [tbB, c0])
    | true =>
    simp only [if_true]
    cases c1 : rin (rd_T98 l (i : Int)).f1 20 300 with
    | false => simp only [Bool.false_eq_true, if_false]; exact hbad _ _ _ (by simp [tbB, c1])
    | true =>
    simp only [if_true]
    cases c2 : rin (rd_T98 l (i : Int)).f2 0 10000 with
    | false => simp only [Bool.not_false]; exact hbad _ _ _ (by simp [tbB, c2])
    | true =>
    simp only [Bool.not_true]
    refine Ev.dn ?_
    simp only [spec_IsTable.j1, Bool.false_eq_true, if_false]
    by_cases h0 : i = 0
    ·simp only [if_neg (show ¬ (i : Int) > 0 by omega), wrap_succ hi (show l.length ≤ 9223372036854775807 by omega)]
     exact h1 (by unfold tbB; rw [c0, c1, c2, decide_eq_true h0]; rfl)
    ·have hp : wrap64 ((i : Int) - 1) = ((i - 1 : Nat) : Int) := wrap_pred hi (by omega) (by omega)
     simp only [if_pos (show (i : Int) > 0 by omega), hp, if_pos (show (0 : Int) ≤ ((i - 1 : Nat) : Int) by omega), if_pos (show ((i - 1 : Nat) : Int) < (l.length : Int) by omega), spec_l16Before.f, wrap_succ hi (show l.length ≤ 9223372036854775807 by omega)]
     have ht : tbB l i = ordB l (i - 1) i := by simp [tbB, c0, c1, c2, h0]
     rw [ht] at h1 h2
     unfold ordB at h1 h2
     generalize rd_T98 l ((i - 1 : Nat) : Int) = p at h1 h2 ⊢
     generalize rd_T98 l (i : Int) = q at h1 h2 ⊢
     by_cases d0 : p.f0 < q.f0
     ·have d1 : ¬ p.f0 = q.f0 := by omega
      simp only [if_pos d0, Option.bind_some, if_true, if_neg d1]
      exact h1 (by simp [d0])
     ·by_cases d1 : p.f0 = q.f0
      ·simp only [if_neg d0, if_pos d1, Option.bind_some]
       by_cases d2 : p.f1 < q.f1
       ·simp only [decide_eq_true d2, if_true]
        by_cases d3 : p.f2 > q.f2
        ·simp only [if_pos d3]
         rw [h2 (by simp [d0, d1, d2]; omega)]
         exact Ev.now _
        ·simp only [if_neg d3]
         exact h1 (by simp [d0, d1, d2]; omega)
       ·simp only [decide_eq_false d2, Bool.false_eq_true, if_false]
        rw [h2 (by simp [d0, d1, d2])]
        exact Ev.now _
      ·simp only [if_neg d0, if_neg d1, Option.bind_some, Bool.false_eq_true, if_false]
       rw [h2 (by simp [d0, d1])]
       exact Ev.now _
   exact ⟨fun hs r hr => main r (fun _ => hr) (fun hf => by rw [hs] at hf; exact absurd hf (by decide)), fun hs => main false (fun ht => by rw [hs] at ht; exact absurd ht (by decide)) (fun _ => rfl)⟩)
  (fun _ => by
   refine Ev.dn ?_
   simp only [spec_IsTable.l0, if_neg (show ¬ (l.length : Int) < (l.length : Int) by omega)]
   have e : decide ((l.length : Int) ≤ 12) = decide (l.length ≤ 12) := decide_eq_decide.2 (by omega)
   rw [e]
   exact Ev.now _) l.length 0 (by omega) (fun j hj => by omega)
 refine h.eq ?_
 unfold tblOk
 cases allD (tbB l) 0 l.length <;> simp
theorem impl_IsTable_ev (l : List S98) (hn : l.length ≤ 1000000) : Ev (fun k => impl_IsTable.f k l) (tblOk l) := by
 unfold impl_IsTable.f
 by_cases hl : (l.length : Int) > 12
 ·simp only [if_pos hl]
  refine (Ev.now false).eq ?_
  unfold tblOk
  rw [decide_eq_false (by omega), Bool.and_false]
 simp only [if_neg hl]
 have h := Ev.allLoopQ (l := fun k i => impl_IsTable.l0 k l l (l.length : Int) i) (n := l.length) (tbB l) false true
  (fun i hi _ => by
   have main : ∀ r, (tbB l i = true → Ev (fun k => impl_IsTable.l0 k l l (l.length : Int) ((i + 1 : Nat) : Int)) r) → (tbB l i = false → r = false) → Ev (fun k => impl_IsTable.l0 k l l (l.length : Int) (i : Int)) r := by
    intro r h1 h2
    have hbad : ∀ x y z, tbB l i = false → Ev (fun k => impl_IsTable.j1 k l (i : Int) l (l.length : Int) (i : Int) true x y z) r := fun x y z hb => Ev.dn (by
     rw [h2 hb]; simp only [impl_IsTable.j1, if_true]; exact Ev.now _)
    refine Ev.dn ?_
    simp only [impl_IsTable.l0, impl_isKind.f, impl_isCalibre.f, within_eq, Option.bind_some, if_pos (show (i : Int) < (l.length : Int) by omega), if_pos (show (0 : Int) ≤ (i : Int) by omega)]
    cases c0 : rin (rd_T98 l (i : Int)).f0 0 3 with
    | false => simp only [Bool.false_eq_true, if_false]; exact hbad _ _ _ (by simp [tbB, c0])
    | true =>
    simp only [if_true]
    cases c1 : rin (rd_T98 l (i : Int)).f1 20 300 with
    | false => simp only [Bool.false_eq_true, if_false]; exact hbad _ _ _ (by simp [tbB, c1])
    | true =>
    simp only [if_true]
    cases c2 : rin (rd_T98 l (i : Int)).f2 0 10000 with
    | false => simp only [Bool.not_false]; exact hbad _ _ _ (by simp [tbB, c2])
    | true =>
    simp only [Bool.not_true]
    refine Ev.dn ?_
    simp only [impl_IsTable.j1, Bool.false_eq_true, if_false]
    by_cases h0 : i = 0
    ·simp only [if_pos (show (i : Int) = 0 by omega), wrap_succ hi (show l.length ≤ 9223372036854775807 by omega)]
     exact h1 (by unfold tbB; rw [c0, c1, c2, decide_eq_true h0]; rfl)
    ·have hp : wrap64 ((i : Int) - 1) = ((i - 1 : Nat) : Int) := wrap_pred hi (by omega) (by omega)
     simp only [if_neg (show ¬ (i : Int) = 0 by omega), hp, if_pos (show (0 : Int) ≤ ((i - 1 : Nat) : Int) by omega), if_pos (show ((i - 1 : Nat) : Int) < (l.length : Int) by omega), wrap_succ hi (show l.length ≤ 9223372036854775807 by omega)]
     have ht : tbB l i = ordB l (i - 1) i := by simp [tbB, c0, c1, c2, h0]
     rw [ht] at h1 h2
     unfold ordB at h1 h2
     generalize rd_T98 l ((i - 1 : Nat) : Int) = p at h1 h2 ⊢
     generalize rd_T98 l (i : Int) = q at h1 h2 ⊢
     by_cases d0 : p.f0 > q.f0
     ·simp only [if_pos d0]
      rw [h2 (by simp; omega)]
      exact Ev.now _
     ·simp only [if_neg d0]
      by_cases d1 : p.f0 = q.f0
      ·simp only [if_pos d1]
       by_cases d2 : p.f1 ≥ q.f1
       ·simp only [if_pos d2]
        rw [h2 (by simp; omega)]
        exact Ev.now _
       ·simp only [if_neg d2]
        by_cases d3 : p.f2 > q.f2
        ·simp only [if_pos d3]
         rw [h2 (by simp; omega)]
         exact Ev.now _
        ·simp only [if_neg d3]
         exact h1 (by simp; omega)
      ·simp only [if_neg d1]
       exact h1 (by simp; omega)
   exact ⟨fun hs r hr => main r (fun _ => hr) (fun hf => by rw [hs] at hf; exact absurd hf (by decide)), fun hs => main false (fun ht => by rw [hs] at ht; exact absurd ht (by decide)) (fun _ => rfl)⟩)
  (fun _ => by
   refine Ev.dn ?_
   simp only [impl_IsTable.l0, if_neg (show ¬ (l.length : Int) < (l.length : Int) by omega)]
   exact Ev.now _) l.length 0 (by omega) (fun j hj => by omega)
 refine h.eq ?_
 unfold tblOk
 rw [decide_eq_true (by omega : l.length ≤ 12), Bool.and_true]
 cases allD (tbB l) 0 l.length <;> simp
def arB (x : S103) : Bool := rin x.f0 0 3 && (rin x.f1 0 100000 && rin x.f2 0 100000) && rin x.f3 1 (100000 - x.f1) && rin x.f4 1 (100000 - x.f2)
theorem spec_IsArea_eq (x : S103) : spec_IsArea.f x.f0 x.f1 x.f2 x.f3 x.f4 = some (arB x) := by
 unfold spec_IsArea.f spec_l15Place.f arB
 simp only [l01In_eq, Option.bind_some]
 cases rin x.f0 0 3 with
 | false => simp
 | true =>
  cases h1 : rin x.f1 0 100000 with
  | false => simp
  | true =>
   cases h2 : rin x.f2 0 100000 with
   | false => simp
   | true =>
    have e1 := rin_iff.1 h1
    have e2 := rin_iff.1 h2
    rw [wrap_id (x := 100000 - x.f1) (by omega) (by omega), wrap_id (x := 100000 - x.f2) (by omega) (by omega)]
    cases rin x.f3 1 (100000 - x.f1) <;> simp
theorem impl_IsArea_eq (x : S103) : impl_IsArea.f x.f0 x.f1 x.f2 x.f3 x.f4 = some (arB x) := by
 unfold impl_IsArea.f impl_isKind.f impl_isPlace.f arB
 simp only [within_eq, Option.bind_some]
 cases rin x.f0 0 3 with
 | false => simp
 | true =>
  cases h1 : rin x.f1 0 100000 with
  | false => simp
  | true =>
   cases h2 : rin x.f2 0 100000 with
   | false => simp
   | true =>
    have e1 := rin_iff.1 h1
    have e2 := rin_iff.1 h2
    simp only [if_true]
    rw [wrap_id (x := 100000 - x.f1) (by omega) (by omega), wrap_id (x := 100000 - x.f2) (by omega) (by omega)]
    cases rin x.f3 1 (100000 - x.f1) <;> simp
def siteOk (l : List S103) : Bool := allD (fun j => arB (rd_T103 l (j : Int))) 0 l.length && decide (l.length ≤ 10)
theorem spec_IsSite_ev (l : List S103) (hn : l.length ≤ 1000000) : Ev (fun k => spec_IsSite.f k l) (siteOk l) := by
 have h := Ev.allLoop (l := fun k i => spec_IsSite.l0 k l i) (n := l.length) (fun j => arB (rd_T103 l (j : Int))) false (decide (l.length ≤ 10))
  (fun i hi => Evt.all fun k => by
   simp only [spec_IsSite.l0, spec_IsArea_eq, Option.bind_some]
   rw [if_pos (by omega), if_pos (by omega), wrap_succ hi (by omega)])
  (Evt.all fun k => by
   simp only [spec_IsSite.l0]
   rw [if_neg (by omega)]
   congr 1
   exact decide_eq_decide.2 (by omega)) l.length 0 (by omega)
 refine h.eq ?_
 unfold siteOk
 cases allD (fun j => arB (rd_T103 l (j : Int))) 0 l.length <;> simp
theorem impl_IsSite_ev (l : List S103) (hn : l.length ≤ 1000000) : Ev (fun k => impl_IsSite.f k l) (siteOk l) := by
 unfold impl_IsSite.f
 by_cases hl : (l.length : Int) > 10
 ·simp only [if_pos hl]
  refine (Ev.now false).eq ?_
  unfold siteOk
  rw [decide_eq_false (by omega), Bool.and_false]
 simp only [if_neg hl]
 have h := Ev.allLoop (l := fun k i => impl_IsSite.l0 k l (l.length : Int) i) (n := l.length) (fun j => arB (rd_T103 l (j : Int))) false true
  (fun i hi => Evt.all fun k => by
   simp only [impl_IsSite.l0, impl_IsArea_eq, Option.bind_some]
   rw [if_pos (by omega), if_pos (by omega), if_pos (by omega), wrap_succ hi (by omega)])
  (Evt.all fun k => by
   simp only [impl_IsSite.l0]
   rw [if_neg (by omega)]) l.length 0 (by omega)
 refine h.eq ?_
 unfold siteOk
 rw [decide_eq_true (by omega : l.length ≤ 10), Bool.and_true]
 cases allD (fun j => arB (rd_T103 l (j : Int))) 0 l.length <;> simp
def fldOk (T : List S98) (S : List S103) (C X Y : List Int) (g : Int) : Bool :=
 tblOk T && siteOk S && decide (C.length ≤ 4) && allIn C 20 300 && decide (X.length ≤ 7) && decide (Y.length = X.length) && allIn X 0 100000 && allIn Y 0 100000 && rin g 0 10000
theorem impl_IsField_ev (T : List S98) (S : List S103) (C X Y : List Int) (g : Int) (h1 : T.length ≤ 1000000) (h2 : S.length ≤ 1000000) (h3 : C.length ≤ 1000000) (h4 : X.length ≤ 1000000) (h5 : Y.length ≤ 1000000) :
  Ev (fun k => impl_IsField.f k T S C X Y g) (fldOk T S C X Y g) := by
 unfold impl_IsField.f fldOk
 refine Ev.bind (impl_IsTable_ev T h1) ?_
 cases tblOk T with
 | false => simp only [Bool.false_eq_true, if_false, Bool.false_and]; exact Ev.now _
 | true =>
 simp only [if_true, Bool.true_and]
 refine Ev.bind (impl_IsSite_ev S h2) ?_
 cases siteOk S with
 | false => simp only [Bool.false_eq_true, if_false, Bool.false_and]; exact Ev.now _
 | true =>
 simp only [if_true, Bool.true_and]
 by_cases c1 : C.length ≤ 4
 case neg => simp only [if_neg (show ¬ (C.length : Int) ≤ 4 by omega), decide_eq_false c1, Bool.false_and]; exact Ev.now _
 simp only [if_pos (show (C.length : Int) ≤ 4 by omega), decide_eq_true c1, Bool.true_and]
 refine Ev.bind (allWithin_ev C 20 300 (by omega)) ?_
 cases allIn C 20 300 with
 | false => simp only [Bool.false_eq_true, if_false, Bool.false_and]; exact Ev.now _
 | true =>
 simp only [if_true, Bool.true_and]
 by_cases c2 : X.length ≤ 7
 case neg => simp only [if_neg (show ¬ (X.length : Int) ≤ 7 by omega), decide_eq_false c2, Bool.false_and]; exact Ev.now _
 simp only [if_pos (show (X.length : Int) ≤ 7 by omega), decide_eq_true c2, Bool.true_and]
 by_cases c3 : Y.length = X.length
 case neg => simp only [if_neg (show ¬ (Y.length : Int) = (X.length : Int) by omega), decide_eq_false c3, Bool.false_and]; exact Ev.now _
 simp only [if_pos (show (Y.length : Int) = (X.length : Int) by omega), decide_eq_true c3, Bool.true_and]
 refine Ev.bind (allWithin_ev X 0 100000 (by omega)) ?_
 cases allIn X 0 100000 with
 | false => simp only [Bool.false_eq_true, if_false, Bool.false_and]; exact Ev.now _
 | true =>
 simp only [if_true, Bool.true_and]
 refine Ev.bind (allWithin_ev Y 0 100000 (by omega)) ?_
 cases allIn Y 0 100000 with
 | false => simp only [Bool.false_eq_true, if_false, Bool.false_and]; exact Ev.now _
 | true =>
 simp only [if_true, Bool.true_and, within_eq, Option.bind_some]
 exact Ev.now _
theorem spec_IsField_ev (T : List S98) (S : List S103) (C X Y : List Int) (g : Int) (h1 : T.length ≤ 1000000) (h2 : S.length ≤ 1000000) (h3 : C.length ≤ 1000000) (h4 : X.length ≤ 1000000) (h5 : Y.length ≤ 1000000) :
  Ev (fun k => spec_IsField.f k T S C X Y g) (fldOk T S C X Y g) := by
 have hend : Ev (fun k => ((spec_IsTable.f k T).bind fun t1285 => (if t1285 = true then ((spec_IsSite.f k S).bind fun t1286 => (if t1286 = true then ((spec_l01In.f g 0 10000).bind fun t1287 => (some t1287)) else (some false))) else (some false)))) (tblOk T && siteOk S && rin g 0 10000) := by
  refine Ev.bind (spec_IsTable_ev T h1) ?_
  cases tblOk T with
  | false => simp only [Bool.false_eq_true, if_false, Bool.false_and]; exact Ev.now _
  | true =>
  simp only [if_true, Bool.true_and]
  refine Ev.bind (spec_IsSite_ev S h2) ?_
  cases siteOk S with
  | false => simp only [Bool.false_eq_true, if_false, Bool.false_and]; exact Ev.now _
  | true =>
  simp only [if_true, Bool.true_and, l01In_eq, Option.bind_some]
  exact Ev.now _
 have hxy : Y.length = X.length → Ev (fun k => spec_IsField.l1 k 0 T S C X Y g) (allIn X 0 100000 && allIn Y 0 100000 && (tblOk T && siteOk S && rin g 0 10000)) := by
  intro hl
  have h := Ev.allLoopQ (l := fun k i => spec_IsField.l1 k i T S C X Y g) (n := X.length) (fun j => rin (rd X (j : Int)) 0 100000 && rin (rd Y (j : Int)) 0 100000) false (tblOk T && siteOk S && rin g 0 10000)
   (fun i hi _ => by
    refine ⟨fun hs r hr => Ev.dn (Ev.eq' hr (fun k => ?_)), fun hs => Ev.dn (Ev.eq' (f := fun _ => some false) (Ev.now _) (fun k => ?_))⟩
    ·simp only [Bool.and_eq_true] at hs
     simp only [spec_IsField.l1, spec_l15Place.f, l01In_eq, Option.bind_some, hs.1, hs.2, if_true]
     rw [if_pos (show (i : Int) < (X.length : Int) by omega), if_pos (show (0 : Int) ≤ (i : Int) by omega), if_pos (show (i : Int) < (Y.length : Int) by omega), wrap_succ hi (by omega)]
    ·simp only [spec_IsField.l1, spec_l15Place.f, l01In_eq, Option.bind_some]
     rw [if_pos (show (i : Int) < (X.length : Int) by omega), if_pos (show (0 : Int) ≤ (i : Int) by omega), if_pos (show (i : Int) < (Y.length : Int) by omega)]
     cases c : rin (rd X (i : Int)) 0 100000 with
     | false => simp
     | true => rw [c, Bool.true_and] at hs; simp [hs])
   (fun _ => by
    refine Ev.dn ?_
    simp only [spec_IsField.l1, if_neg (show ¬ (X.length : Int) < (X.length : Int) by omega)]
    exact hend) X.length 0 (by omega) (fun j hj => by omega)
  refine h.eq ?_
  have e : allD (fun j => rin (rd X (j : Int)) 0 100000 && rin (rd Y (j : Int)) 0 100000) 0 X.length = (allIn X 0 100000 && allIn Y 0 100000) := by
   rw [Bool.eq_iff_iff, Bool.and_eq_true, allIn_iff, allIn_iff, allD_iff]
   simp only [Bool.and_eq_true, rin_iff, hl]
   exact ⟨fun h => ⟨fun j hj => (h j (by omega) (by omega)).1, fun j hj => (h j (by omega) (by omega)).2⟩, fun h j _ hj => ⟨h.1 j (by omega), h.2 j (by omega)⟩⟩
  rw [e]
  cases allIn X 0 100000 && allIn Y 0 100000 <;> simp
 have hj : ∀ b, Ev (fun k => spec_IsField.j1 k b T S C X Y g) (if b = true then false else (if Y.length = X.length then (allIn X 0 100000 && allIn Y 0 100000 && (tblOk T && siteOk S && rin g 0 10000)) else false)) ∨ (b = false ∧ ¬ Y.length = X.length) := by
  intro b
  cases b with
  | true => exact Or.inl (Ev.dn (by simp only [spec_IsField.j1, if_true]; exact Ev.now _))
  | false =>
   by_cases hl : Y.length = X.length
   ·refine Or.inl (Ev.dn ?_)
    simp only [spec_IsField.j1, Bool.false_eq_true, if_false, if_pos hl]
    exact hxy hl
   ·exact Or.inr ⟨rfl, hl⟩
 have h := Ev.allLoopQ (l := fun k i => spec_IsField.l0 k i T S C X Y g) (n := C.length) (fun j => rin (rd C (j : Int)) 20 300) false (decide (C.length ≤ 4) && decide (X.length ≤ 7) && decide (Y.length = X.length) && (allIn X 0 100000 && allIn Y 0 100000 && (tblOk T && siteOk S && rin g 0 10000)))
  (fun i hi _ => by
   refine ⟨fun hs r hr => Ev.dn (Ev.eq' hr (fun k => ?_)), fun hs => Ev.dn (Ev.eq' (f := fun _ => some false) (Ev.now _) (fun k => ?_))⟩
   ·simp only [spec_IsField.l0, l01In_eq, Option.bind_some, hs, if_true]
    rw [if_pos (show (i : Int) < (C.length : Int) by omega), if_pos (show (0 : Int) ≤ (i : Int) by omega), wrap_succ hi (by omega)]
   ·simp only [spec_IsField.l0, l01In_eq, Option.bind_some, hs]
    rw [if_pos (show (i : Int) < (C.length : Int) by omega), if_pos (show (0 : Int) ≤ (i : Int) by omega)]
    rfl)
  (fun _ => by
   refine Ev.dn ?_
   simp only [spec_IsField.l0, if_neg (show ¬ (C.length : Int) < (C.length : Int) by omega)]
   have hjt := (hj true).resolve_right (fun h => by simp at h)
   by_cases c1 : Y.length = X.length
   ·have hjf := (hj false).resolve_right (fun h => h.2 c1)
    simp only [if_pos (show (X.length : Int) = (Y.length : Int) by omega)]
    by_cases c2 : X.length ≤ 7
    ·simp only [if_neg (show ¬ (X.length : Int) > 7 by omega)]
     by_cases c3 : C.length ≤ 4
     ·rw [decide_eq_false (show ¬ (C.length : Int) > 4 by omega)]
      refine hjf.eq ?_
      simp [c1, c2, c3]
     ·rw [decide_eq_true (show (C.length : Int) > 4 by omega)]
      refine hjt.eq ?_
      simp [c3]
    ·simp only [if_pos (show (X.length : Int) > 7 by omega)]
     refine hjt.eq ?_
     simp [c2]
   ·simp only [if_neg (show ¬ (X.length : Int) = (Y.length : Int) by omega)]
    refine hjt.eq ?_
    simp [c1]) C.length 0 (by omega) (fun j hj => by omega)
 refine h.eq ?_
 unfold fldOk
 rw [show allD (fun j => rin (rd C (j : Int)) 20 300) 0 C.length = allIn C 20 300 from rfl]
 generalize tblOk T = b1
 generalize siteOk S = b2
 generalize decide (C.length ≤ 4) = b3
 generalize allIn C 20 300 = b4
 generalize decide (X.length ≤ 7) = b5
 generalize decide (Y.length = X.length) = b6
 generalize allIn X 0 100000 = b7
 generalize allIn Y 0 100000 = b8
 generalize rin g 0 10000 = b9
 cases b1 <;> cases b2 <;> cases b3 <;> cases b4 <;> cases b5 <;> cases b6 <;> cases b7 <;> cases b8 <;> rfl
def dsD (T : List S98) (c kd : Int) : Nat → Nat → Int → Int
 | 0, _, m => m
 | d + 1, i, m => if (rd_T98 T (i : Int)).f0 = kd then (if (rd_T98 T (i : Int)).f1 ≥ c then (rd_T98 T (i : Int)).f2 else dsD T c kd d (i + 1) (-1)) else dsD T c kd d (i + 1) m
def dst (T : List S98) (c kd : Int) : Int := dsD T c kd T.length 0 0
theorem dist_ev (T : List S98) (c kd : Int) (hn : T.length ≤ 1000000) : ∀ d i m, i + d = T.length →
  Ev (fun k => spec_l16Distance.l0 k T c kd m (i : Int)) (dsD T c kd d i m) ∧ Ev (fun k => impl_distanceFor.l0 k c kd m T (T.length : Int) (i : Int)) (dsD T c kd d i m) := by
 intro d
 induction d with
 | zero =>
  intro i m hi
  refine ⟨Ev.dn ?_, Ev.dn ?_⟩
  ·simp only [spec_l16Distance.l0, if_neg (show ¬ (i : Int) < (T.length : Int) by omega)]; exact Ev.now _
  ·simp only [impl_distanceFor.l0, if_neg (show ¬ (i : Int) < (T.length : Int) by omega)]; exact Ev.now _
 | succ d ih =>
  intro i m hi
  have h1 := ih (i + 1) (-1) (by omega)
  have h2 := ih (i + 1) m (by omega)
  refine ⟨Ev.dn ?_, Ev.dn ?_⟩
  ·simp only [spec_l16Distance.l0, dsD, if_pos (show (i : Int) < (T.length : Int) by omega), if_pos (show (0 : Int) ≤ (i : Int) by omega), wrap_succ (show i < T.length by omega) (show T.length ≤ 9223372036854775807 by omega)]
   split
   ·split
    ·exact Ev.now _
    ·exact h1.1
   ·exact h2.1
  ·simp only [impl_distanceFor.l0, dsD, if_pos (show (i : Int) < (T.length : Int) by omega), if_pos (show (0 : Int) ≤ (i : Int) by omega), wrap_succ (show i < T.length by omega) (show T.length ≤ 9223372036854775807 by omega)]
   split
   ·split
    ·exact Ev.now _
    ·exact h1.2
   ·exact h2.2
theorem spec_dist_ev (T : List S98) (c kd : Int) (hn : T.length ≤ 1000000) : Ev (fun k => spec_l16Distance.f k T c kd) (dst T c kd) := (dist_ev T c kd hn T.length 0 0 (by omega)).1
theorem impl_dist_ev (T : List S98) (c kd : Int) (hn : T.length ≤ 1000000) : Ev (fun k => impl_distanceFor.f k T c kd) (dst T c kd) := (dist_ev T c kd hn T.length 0 0 (by omega)).2
def sqv (a : S103) (x y : Int) : Int := wrap64 ((wrap64 ((mx (mx 0 (wrap64 (a.f1 - x))) (wrap64 ((wrap64 (x - a.f1)) - a.f3))) * (mx (mx 0 (wrap64 (a.f1 - x))) (wrap64 ((wrap64 (x - a.f1)) - a.f3))))) + (wrap64 ((mx (mx 0 (wrap64 (a.f2 - y))) (wrap64 ((wrap64 (y - a.f2)) - a.f4))) * (mx (mx 0 (wrap64 (a.f2 - y))) (wrap64 ((wrap64 (y - a.f2)) - a.f4))))))
theorem impl_square_eq (a : S103) (x y : Int) : impl_squareTo.f a.f0 a.f1 a.f2 a.f3 a.f4 x y = some (sqv a x y) := rfl
theorem wrap_away (x a w : Int) : wrap64 (x - wrap64 (a + w)) = wrap64 (wrap64 (x - a) - w) := by unfold wrap64; omega
theorem spec_square_eq (a : S103) (x y : Int) : spec_l15Square.f a.f0 a.f1 a.f2 a.f3 a.f4 x y = some (sqv a x y) := by
 unfold spec_l15Square.f spec_l15Away.f sqv
 simp only [Option.bind_some, wrap_away]
def agB (T : List S98) (c x y : Int) (a : S103) : Bool := decide (dst T c a.f0 < 0) || decide (sqv a x y < wrap64 (dst T c a.f0 * dst T c a.f0))
def agD (T : List S98) (S : List S103) (c x y : Int) : Nat → Nat → List Int → List Int
 | 0, _, xs => xs
 | d + 1, i, xs => agD T S c x y d (i + 1) (if agB T c x y (rd_T103 S (i : Int)) = true then xs ++ [(i : Int)] else xs)
def ags (T : List S98) (S : List S103) (c x y : Int) : List Int := agD T S c x y S.length 0 []
theorem against_ev (T : List S98) (S : List S103) (c x y : Int) (hn : T.length ≤ 1000000) (hS : S.length ≤ 1000000) : ∀ d i xs, i + d = S.length → xs.length ≤ i →
  Ev (fun k => spec_l16Against.l0 k T S c x y xs (i : Int)) (agD T S c x y d i xs) ∧ Ev (fun k => impl_areasAgainst.l0 k T c x y xs S (S.length : Int) (i : Int)) (agD T S c x y d i xs) := by
 intro d
 induction d with
 | zero =>
  intro i xs hi hx
  refine ⟨Ev.dn ?_, Ev.dn ?_⟩
  ·simp only [spec_l16Against.l0, if_neg (show ¬ (i : Int) < (S.length : Int) by omega)]; exact Ev.now _
  ·simp only [impl_areasAgainst.l0, if_neg (show ¬ (i : Int) < (S.length : Int) by omega)]; exact Ev.now _
 | succ d ih =>
  intro i xs hi hx
  have h1 := ih (i + 1) (xs ++ [(i : Int)]) (by omega) (by simp; omega)
  have h2 := ih (i + 1) xs (by omega) (by omega)
  have hs := wrap_succ (show i < S.length by omega) (show S.length ≤ 9223372036854775807 by omega)
  refine ⟨Ev.dn ?_, Ev.dn ?_⟩
  ·simp only [spec_l16Against.l0, agD, if_pos (show (i : Int) < (S.length : Int) by omega), if_pos (show (0 : Int) ≤ (i : Int) by omega), hs, if_pos (show xs.length < 17592186044416 by omega), spec_square_eq, Option.bind_some]
   refine Ev.bind (spec_dist_ev T c _ hn) ?_
   by_cases c1 : dst T c (rd_T103 S (i : Int)).f0 < 0
   ·rw [if_pos (show agB T c x y (rd_T103 S (i : Int)) = true by unfold agB; rw [decide_eq_true c1, Bool.true_or])]
    simp only [if_pos c1]
    exact h1.1
   ·simp only [if_neg c1]
    by_cases c2 : sqv (rd_T103 S (i : Int)) x y < wrap64 (dst T c (rd_T103 S (i : Int)).f0 * dst T c (rd_T103 S (i : Int)).f0)
    ·rw [if_pos (show agB T c x y (rd_T103 S (i : Int)) = true by unfold agB; rw [decide_eq_true c2, Bool.or_true])]
     simp only [if_pos c2]
     exact h1.1
    ·rw [if_neg (show ¬ agB T c x y (rd_T103 S (i : Int)) = true by unfold agB; rw [decide_eq_false c1, decide_eq_false c2]; decide)]
     simp only [if_neg c2]
     exact h2.1
  ·simp only [impl_areasAgainst.l0, agD, if_pos (show (i : Int) < (S.length : Int) by omega), if_pos (show (0 : Int) ≤ (i : Int) by omega), hs, if_pos (show xs.length < 17592186044416 by omega), impl_square_eq, Option.bind_some]
   refine Ev.bind (impl_dist_ev T c _ hn) ?_
   by_cases c1 : dst T c (rd_T103 S (i : Int)).f0 < 0
   ·rw [if_pos (show agB T c x y (rd_T103 S (i : Int)) = true by unfold agB; rw [decide_eq_true c1, Bool.true_or])]
    simp only [if_pos c1]
    exact h1.2
   ·simp only [if_neg c1]
    by_cases c2 : sqv (rd_T103 S (i : Int)) x y < wrap64 (dst T c (rd_T103 S (i : Int)).f0 * dst T c (rd_T103 S (i : Int)).f0)
    ·rw [if_pos (show agB T c x y (rd_T103 S (i : Int)) = true by unfold agB; rw [decide_eq_true c2, Bool.or_true])]
     simp only [if_pos c2]
     exact h1.2
    ·rw [if_neg (show ¬ agB T c x y (rd_T103 S (i : Int)) = true by unfold agB; rw [decide_eq_false c1, decide_eq_false c2]; decide)]
     simp only [if_neg c2]
     exact h2.2
theorem spec_against_ev (T : List S98) (S : List S103) (c x y : Int) (hn : T.length ≤ 1000000) (hS : S.length ≤ 1000000) : Ev (fun k => spec_l16Against.f k T S c x y) (ags T S c x y) :=
 (against_ev T S c x y hn hS S.length 0 [] (by omega) (by simp)).1
theorem impl_against_ev (T : List S98) (S : List S103) (c x y : Int) (hn : T.length ≤ 1000000) (hS : S.length ≤ 1000000) : Ev (fun k => impl_areasAgainst.f k T S c x y) (ags T S c x y) :=
 (against_ev T S c x y hn hS S.length 0 [] (by omega) (by simp)).2
def alw (T : List S98) (S : List S103) (c x y : Int) : Bool := ((ags T S c x y).length : Int) == 0
theorem impl_isAllowed_ev (T : List S98) (S : List S103) (c x y : Int) (hn : T.length ≤ 1000000) (hS : S.length ≤ 1000000) : Ev (fun k => impl_isAllowed.f k T S c x y) (alw T S c x y) := by
 unfold impl_isAllowed.f
 exact Ev.bind (impl_against_ev T S c x y hn hS) (Ev.now _)
def spD (T : List S98) (S : List S103) (X Y : List Int) (c : Int) : Nat → Nat → List Int → List Int
 | 0, _, xs => xs
 | d + 1, j, xs => spD T S X Y c d (j + 1) (if alw T S c (rd X (j : Int)) (rd Y (j : Int)) = true then xs ++ [(j : Int)] else xs)
theorem spD_len (T : List S98) (S : List S103) (X Y : List Int) (c : Int) : ∀ d j xs, (spD T S X Y c d j xs).length ≤ xs.length + d
 | 0, _, xs => Nat.le_refl _
 | d + 1, j, xs => by
  simp only [spD]
  refine Nat.le_trans (spD_len T S X Y c d (j + 1) _) ?_
  split
  ·simp; omega
  ·omega
def sps (T : List S98) (S : List S103) (X Y : List Int) (c : Int) : List Int := spD T S X Y c X.length 0 []
def stD (T : List S98) (S : List S103) (C X Y : List Int) : Nat → Nat → List (List Int) → List (List Int)
 | 0, _, a => a
 | d + 1, i, a => stD T S C X Y d (i + 1) (a ++ [sps T S X Y (rd C (i : Int))])
theorem stD_len (T : List S98) (S : List S103) (C X Y : List Int) : ∀ d i a, (stD T S C X Y d i a).length = a.length + d
 | 0, _, a => rfl
 | d + 1, i, a => by
  simp only [stD]
  rw [stD_len T S C X Y d (i + 1) _]
  simp; omega
theorem stD_old (T : List S98) (S : List S103) (C X Y : List Int) : ∀ d i a j, j < a.length → (stD T S C X Y d i a).getD j [] = a.getD j []
 | 0, _, a, j, _ => rfl
 | d + 1, i, a, j, h => by
  simp only [stD]
  rw [stD_old T S C X Y d (i + 1) _ j (by simp; omega)]
  simp [List.getD, List.getElem?_append_left h]
theorem stD_get (T : List S98) (S : List S103) (C X Y : List Int) : ∀ d i a j, a.length = i → i ≤ j → j < i + d → (stD T S C X Y d i a).getD j [] = sps T S X Y (rd C (j : Int))
 | 0, i, a, j, _, h1, h2 => by omega
 | d + 1, i, a, j, ha, h1, h2 => by
  simp only [stD]
  by_cases e : j = i
  ·subst e
   rw [stD_old T S C X Y d (j + 1) _ j (by simp; omega)]
   subst ha
   simp [List.getD]
  ·exact stD_get T S C X Y d (i + 1) _ j (by simp; omega) (by omega) (by omega)
def sts (T : List S98) (S : List S103) (C X Y : List Int) : List (List Int) := stD T S C X Y C.length 0 []
theorem sts_rd (T : List S98) (S : List S103) (C X Y : List Int) (i : Int) (h0 : 0 ≤ i) (h1 : i < (C.length : Int)) : rd_L5 (sts T S C X Y) i = sps T S X Y (rd C i) := by
 obtain ⟨n, rfl⟩ := Int.eq_ofNat_of_zero_le h0
 unfold rd_L5 sts
 rw [Int.toNat_natCast]
 exact stD_get T S C X Y C.length 0 [] n rfl (by omega) (by omega)
theorem sts_len (T : List S98) (S : List S103) (C X Y : List Int) : (sts T S C X Y).length = C.length := by
 unfold sts
 rw [stD_len]
 simp
theorem idx3 {X Y xs : List Int} {j d : Nat} (h4 : X.length ≤ 1000000) (e : Y.length = X.length) (hj : j + (d + 1) = X.length) (hx : xs.length ≤ j) :
  (j : Int) < (X.length : Int) ∧ (0 : Int) ≤ (j : Int) ∧ (j : Int) < (Y.length : Int) ∧ xs.length < 17592186044416 ∧ wrap64 ((j : Int) + 1) = ((j + 1 : Nat) : Int) ∧ (xs ++ [(j : Int)]).length ≤ j + 1 ∧ xs.length ≤ j + 1 ∧ j + 1 + d = X.length :=
 ⟨by omega, by omega, by omega, by omega, wrap_succ (show j < X.length by omega) (by omega), by simp; omega, by omega, by omega⟩
theorem idx3z {X : List Int} {j : Nat} (hj : j + 0 = X.length) : ¬ (j : Int) < (X.length : Int) := by omega
theorem spots_inner (T : List S98) (S : List S103) (C X Y : List Int) (g : Int) (h1 : T.length ≤ 1000000) (h2 : S.length ≤ 1000000) (h3 : C.length ≤ 1000000) (h4 : X.length ≤ 1000000) (e : Y.length = X.length) (a : List (List Int)) (i : Nat) (R : List (List Int)) (hi : i < C.length) (ha : a.length ≤ 1000000) (hR : Ev (fun k => spec_l18Spots.l0 k (a ++ [sps T S X Y (rd C (i : Int))]) ((i + 1 : Nat) : Int) T S C X Y g) R) :
  ∀ d j xs, j + d = X.length → xs.length ≤ j → spD T S X Y (rd C (i : Int)) d j xs = sps T S X Y (rd C (i : Int)) → Ev (fun k => spec_l18Spots.l1 k a (i : Int) xs (j : Int) T S C X Y g) R := by
 have hiC : (i : Int) < (C.length : Int) := by omega
 have hi0 : (0 : Int) ≤ (i : Int) := by omega
 have hwi := wrap_succ hi (show C.length ≤ 9223372036854775807 by omega)
 have ha' : a.length < 5864062014805 := by omega
 intro d
 induction d with
 | zero =>
  intro j xs hj hx hq
  refine Ev.dn ?_
  simp only [spD] at hq
  simp only [spec_l18Spots.l1, if_neg (idx3z hj), if_pos ha', hwi, hq]
  exact hR
 | succ d ih =>
  intro j xs hj hx hq
  simp only [spD] at hq
  obtain ⟨q1, q2, q3, q4, hs, q5, q6, q7⟩ := idx3 h4 e hj hx
  refine Ev.dn ?_
  simp only [spec_l18Spots.l1, if_pos q1, if_pos hi0, if_pos hiC, if_pos q2, if_pos q3, if_pos q4, hs]
  refine Ev.bind (spec_against_ev T S _ _ _ h1 h2) ?_
  by_cases c : ((ags T S (rd C (i : Int)) (rd X (j : Int)) (rd Y (j : Int))).length : Int) = 0
  ·rw [show alw T S (rd C (i : Int)) (rd X (j : Int)) (rd Y (j : Int)) = true by unfold alw; simpa using c] at hq
   simp only [if_true] at hq
   simp only [if_pos c]
   exact ih (j + 1) (xs ++ [(j : Int)]) q7 q5 hq
  ·rw [show alw T S (rd C (i : Int)) (rd X (j : Int)) (rd Y (j : Int)) = false by unfold alw; simpa using c] at hq
   simp only [Bool.false_eq_true, if_false] at hq
   simp only [if_neg c]
   exact ih (j + 1) xs q7 q6 hq
theorem spec_spots_ev (T : List S98) (S : List S103) (C X Y : List Int) (g : Int) (h1 : T.length ≤ 1000000) (h2 : S.length ≤ 1000000) (h3 : C.length ≤ 1000000) (h4 : X.length ≤ 1000000) (e : Y.length = X.length) :
  Ev (fun k => spec_l18Spots.f k T S C X Y g) (sts T S C X Y) := by
 have outer : ∀ d i a, i + d = C.length → a.length = i → Ev (fun k => spec_l18Spots.l0 k a (i : Int) T S C X Y g) (stD T S C X Y d i a) := by
  intro d
  induction d with
  | zero =>
   intro i a hi ha
   refine Ev.dn ?_
   simp only [spec_l18Spots.l0, if_neg (show ¬ (i : Int) < (C.length : Int) by omega)]
   exact Ev.now _
  | succ d ih =>
   intro i a hi ha
   refine Ev.dn ?_
   simp only [spec_l18Spots.l0, if_pos (show (i : Int) < (C.length : Int) by omega)]
   exact spots_inner T S C X Y g h1 h2 h3 h4 e a i _ (by omega) (by omega) (ih (i + 1) _ (by omega) (by simp; omega)) X.length 0 [] (by omega) (by simp) rfl
 exact outer C.length 0 [] (by omega) rfl
theorem fldOk_len {T : List S98} {S : List S103} {C X Y : List Int} {g : Int} (h : fldOk T S C X Y g = true) : T.length ≤ 12 ∧ S.length ≤ 10 ∧ C.length ≤ 4 ∧ X.length ≤ 7 ∧ Y.length = X.length := by
 simp only [fldOk, tblOk, siteOk, Bool.and_eq_true, decide_eq_true_eq] at h
 omega
theorem has_ev (l : List Int) (v : Int) (hn : l.length ≤ 1000000) : Ev (fun k => spec_l01Has.f k l v) (!allD (fun j => decide (rd l (j : Int) ≠ v)) 0 l.length) := by
 have h := Ev.allLoop (l := fun k i => spec_l01Has.l0 k l v i) (n := l.length) (fun j => decide (rd l (j : Int) ≠ v)) true false
  (fun i hi => Evt.all fun k => by
   simp only [spec_l01Has.l0]
   rw [if_pos (show (i : Int) < (l.length : Int) by omega), if_pos (show (0 : Int) ≤ (i : Int) by omega), wrap_succ hi (by omega)]
   by_cases c : rd l (i : Int) = v
   ·rw [if_pos c, decide_eq_false (fun h => h c), if_neg (by decide)]
   ·rw [if_neg c, decide_eq_true c, if_pos rfl])
  (Evt.all fun k => by
   simp only [spec_l01Has.l0]
   rw [if_neg (by omega)]) l.length 0 (by omega)
 unfold spec_l01Has.f
 refine h.eq ?_
 cases allD (fun j => decide (rd l (j : Int) ≠ v)) 0 l.length <;> rfl
theorem hasB_iff (l : List Int) (v : Int) : (!allD (fun j => decide (rd l (j : Int) ≠ v)) 0 l.length) = true ↔ v ∈ l := by
 rw [Bool.not_eq_true', ← Bool.not_eq_true, allD_iff, List.mem_iff_getElem]
 constructor
 ·intro h
  refine Classical.byContradiction fun h2 => h fun j _ hj => decide_eq_true fun e => h2 ⟨j, by omega, ?_⟩
  rw [← e, rd_nat (by omega)]
 ·rintro ⟨j, hj, e⟩ h
  have := of_decide_eq_true (h j (by omega) (by omega))
  rw [rd_nat hj] at this
  exact this e
theorem mem_spD (T : List S98) (S : List S103) (X Y : List Int) (c v : Int) : ∀ d j xs, v ∈ spD T S X Y c d j xs ↔ v ∈ xs ∨ ∃ n : Nat, j ≤ n ∧ n < j + d ∧ v = (n : Int) ∧ alw T S c (rd X v) (rd Y v) = true
 | 0, j, xs => by
  simp only [spD]
  exact ⟨Or.inl, fun h => h.elim id (fun ⟨n, h1, h2, _⟩ => by omega)⟩
 | d + 1, j, xs => by
  simp only [spD]
  rw [mem_spD T S X Y c v d (j + 1) _]
  constructor
  ·rintro (h | ⟨n, h1, h2, h3⟩)
   ·split at h
    ·rename_i q
     rcases List.mem_append.1 h with h | h
     ·exact Or.inl h
     ·obtain rfl := List.mem_singleton.1 h
      exact Or.inr ⟨j, Nat.le_refl _, by omega, rfl, q⟩
    ·exact Or.inl h
   ·exact Or.inr ⟨n, by omega, by omega, h3⟩
  ·rintro (h | ⟨n, h1, h2, h3, h4⟩)
   ·refine Or.inl ?_
    split
    ·exact List.mem_append.2 (Or.inl h)
    ·exact h
   ·by_cases e : n = j
    ·subst e
     subst h3
     rw [if_pos h4]
     exact Or.inl (by simp)
    ·exact Or.inr ⟨n, by omega, by omega, h3, h4⟩
theorem mem_sps (T : List S98) (S : List S103) (X Y : List Int) (c v : Int) (h0 : 0 ≤ v) (h1 : v < (X.length : Int)) : v ∈ sps T S X Y c ↔ alw T S c (rd X v) (rd Y v) = true := by
 unfold sps
 rw [mem_spD]
 constructor
 ·rintro (h | ⟨n, _, _, _, h⟩)
  ·exact absurd h (by simp)
  ·exact h
 ·intro h
  exact Or.inr ⟨v.toNat, by omega, by omega, by omega, h⟩
theorem sps_len (T : List S98) (S : List S103) (X Y : List Int) (c : Int) : (sps T S X Y c).length ≤ X.length := by
 have := spD_len T S X Y c X.length 0 []
 simpa [sps] using this
def sq2 (X Y : List Int) (a b : Int) : Int := wrap64 ((wrap64 ((wrap64 ((rd X a) - (rd X b))) * (wrap64 ((rd X a) - (rd X b))))) + (wrap64 ((wrap64 ((rd Y a) - (rd Y b))) * (wrap64 ((rd Y a) - (rd Y b))))))
theorem rd_bound {X : List Int} {a b v : Int} (h : allIn X a b = true) (h0 : 0 ≤ v) (h1 : v < (X.length : Int)) : a ≤ rd X v ∧ rd X v ≤ b := by
 obtain ⟨n, rfl⟩ := Int.eq_ofNat_of_zero_le h0
 exact (allIn_iff X a b).1 h n (by omega)
theorem sq2_comm {X Y : List Int} {a b : Int} (hX : allIn X 0 100000 = true) (hY : allIn Y 0 100000 = true) (e : Y.length = X.length) (a0 : 0 ≤ a) (a1 : a < (X.length : Int)) (b0 : 0 ≤ b) (b1 : b < (X.length : Int)) : sq2 X Y a b = sq2 X Y b a := by
 obtain ⟨x1, x2⟩ := rd_bound hX a0 a1
 obtain ⟨x3, x4⟩ := rd_bound hX b0 b1
 obtain ⟨y1, y2⟩ := rd_bound hY a0 (by omega)
 obtain ⟨y3, y4⟩ := rd_bound hY b0 (by omega)
 unfold sq2
 generalize rd X a = p at *
 generalize rd X b = q at *
 generalize rd Y a = s at *
 generalize rd Y b = t at *
 have e1 : wrap64 (p - q) = - wrap64 (q - p) := by rw [wrap_id (by omega) (by omega), wrap_id (by omega) (by omega)]; omega
 have e2 : wrap64 (s - t) = - wrap64 (t - s) := by rw [wrap_id (by omega) (by omega), wrap_id (by omega) (by omega)]; omega
 rw [e1, e2, Int.neg_mul_neg, Int.neg_mul_neg]
theorem rd_take {l : List Int} {i j : Nat} (h : j < i) (hi : i ≤ l.length) : rd (l.take i) (j : Int) = rd l (j : Int) := by
 rw [rd_nat (by rw [List.length_take]; omega), rd_nat (by omega)]
 simp
theorem has_take_ev (l : List Int) (v : Int) (i : Nat) (hi : i ≤ l.length) (hn : l.length ≤ 1000000) : Ev (fun k => spec_l01Has.f k (l.take i) v) (!allD (fun j => decide (rd l (j : Int) ≠ v)) 0 i) := by
 have e : (l.take i).length = i := by rw [List.length_take]; omega
 refine (has_ev (l.take i) v (by omega)).eq ?_
 rw [e]
 congr 1
 exact allD_congr i 0 (fun j _ hj => by rw [rd_take (by omega) hi])
theorem has_sps_ev (T : List S98) (S : List S103) (X Y : List Int) (c v : Int) (hX : X.length ≤ 1000000) (h0 : 0 ≤ v) (h1 : v < (X.length : Int)) : Ev (fun k => spec_l01Has.f k (sps T S X Y c) v) (alw T S c (rd X v) (rd Y v)) := by
 have := sps_len T S X Y c
 refine (has_ev _ v (by omega)).eq ?_
 rw [Bool.eq_iff_iff, hasB_iff, mem_sps T S X Y c v h0 h1]
def apB (X Y l : List Int) (g : Int) (i j : Nat) : Bool := !decide (sq2 X Y (rd l (j : Int)) (rd l (i : Int)) < wrap64 (g * g))
def okI (T : List S98) (S : List S103) (C X Y : List Int) (g : Int) (l : List Int) (i : Nat) : Bool :=
 alw T S (rd C (i : Int)) (rd X (rd l (i : Int))) (rd Y (rd l (i : Int))) && allD (fun j => decide (rd l (j : Int) ≠ rd l (i : Int))) 0 i && allD (apB X Y l g i) 0 i
theorem is_inner (T : List S98) (S : List S103) (C X Y : List Int) (g : Int) (l : List Int) (e : Y.length = X.length) (hn : l.length ≤ 1000000) (hin : ∀ j : Nat, j < l.length → 0 ≤ rd l (j : Int) ∧ rd l (j : Int) < (X.length : Int)) (L : List (List Int)) (i : Nat) (hi : i < l.length) (R : Bool) :
  ∀ d j, j + d = i → (allD (apB X Y l g i) j d = true → Ev (fun k => spec_l18Is.l0 k l L ((i + 1 : Nat) : Int) T S C X Y g) R) → (allD (apB X Y l g i) j d = false → R = false) → Ev (fun k => spec_l18Is.l1 k l L (i : Int) (j : Int) T S C X Y g) R := by
 obtain ⟨i0, i1⟩ := hin i hi
 have hwi := wrap_succ hi (show l.length ≤ 9223372036854775807 by omega)
 have p0 : (0 : Int) ≤ (i : Int) := by omega
 have p1 : (i : Int) < (l.length : Int) := by omega
 intro d
 induction d with
 | zero =>
  intro j hj h1 h2
  refine Ev.dn ?_
  simp only [spec_l18Is.l1, if_neg (show ¬ (j : Int) < (i : Int) by omega), hwi]
  exact h1 rfl
 | succ d ih =>
  intro j hj h1 h2
  obtain ⟨j0, j1⟩ := hin j (by omega)
  have hwj := wrap_succ (show j < i by omega) (show i ≤ 9223372036854775807 by omega)
  have hq : spec_l18Square.f T S C X Y g (rd l (j : Int)) (rd l (i : Int)) = some (sq2 X Y (rd l (j : Int)) (rd l (i : Int))) := by
   unfold spec_l18Square.f sq2
   rw [if_pos j0, if_pos j1, if_pos i0, if_pos i1, if_pos (by omega), if_pos (by omega)]
  simp only [allD] at h1 h2
  refine Ev.dn ?_
  simp only [spec_l18Is.l1, if_pos (show (j : Int) < (i : Int) by omega), if_pos (show (0 : Int) ≤ (j : Int) by omega), if_pos (show (j : Int) < (l.length : Int) by omega), if_pos p0, if_pos p1, hq, Option.bind_some, hwj]
  by_cases c : sq2 X Y (rd l (j : Int)) (rd l (i : Int)) < wrap64 (g * g)
  ·simp only [if_pos c]
   rw [h2 (by unfold apB; rw [decide_eq_true c]; rfl)]
   exact Ev.now _
  ·simp only [if_neg c]
   have ha : apB X Y l g i j = true := by unfold apB; rw [decide_eq_false c]; rfl
   rw [ha, Bool.true_and] at h1 h2
   exact ih (j + 1) (by omega) h1 h2
theorem spec_is_ev (T : List S98) (S : List S103) (C X Y : List Int) (g : Int) (l : List Int) (k1 : T.length ≤ 1000000) (k2 : S.length ≤ 1000000) (k3 : C.length ≤ 1000000) (k4 : X.length ≤ 1000000) (e : Y.length = X.length) (hl : l.length = C.length) (hin : ∀ j : Nat, j < l.length → 0 ≤ rd l (j : Int) ∧ rd l (j : Int) < (X.length : Int)) :
  Ev (fun k => spec_l18Is.f k T S C X Y g l) (allD (okI T S C X Y g l) 0 l.length) := by
 have hn : l.length ≤ 1000000 := by omega
 unfold spec_l18Is.f
 refine Ev.bind (spec_spots_ev T S C X Y g k1 k2 k3 k4 e) ?_
 have h := Ev.allLoopQ (l := fun k i => spec_l18Is.l0 k l (sts T S C X Y) i T S C X Y g) (n := l.length) (okI T S C X Y g l) false true
  (fun i hi _ => by
   obtain ⟨i0, i1⟩ := hin i hi
   have main : ∀ r, (okI T S C X Y g l i = true → Ev (fun k => spec_l18Is.l0 k l (sts T S C X Y) ((i + 1 : Nat) : Int) T S C X Y g) r) → (okI T S C X Y g l i = false → r = false) → Ev (fun k => spec_l18Is.l0 k l (sts T S C X Y) (i : Int) T S C X Y g) r := by
    intro r h1 h2
    unfold okI at h1 h2
    refine Ev.dn ?_
    simp only [spec_l18Is.l0, sts_len, if_pos (show (i : Int) < (l.length : Int) by omega), if_pos (show (0 : Int) ≤ (i : Int) by omega), if_pos (show (i : Int) < (C.length : Int) by omega), if_pos (show (i : Int) ≤ (l.length : Int) by omega), Int.toNat_natCast, sts_rd T S C X Y (i : Int) (by omega) (by omega)]
    refine Ev.bind (has_sps_ev T S X Y (rd C (i : Int)) (rd l (i : Int)) k4 i0 i1) ?_
    cases c1 : alw T S (rd C (i : Int)) (rd X (rd l (i : Int))) (rd Y (rd l (i : Int))) with
    | false =>
     simp only [Bool.false_eq_true, if_false]
     refine Ev.dn ?_
     simp only [spec_l18Is.j1, if_true]
     rw [h2 (by rw [c1]; rfl)]
     exact Ev.now _
    | true =>
     rw [c1, Bool.true_and] at h1 h2
     simp only [if_true]
     refine Ev.bind (has_take_ev l (rd l (i : Int)) i (by omega) hn) ?_
     refine Ev.dn ?_
     cases c2 : allD (fun j => decide (rd l (j : Int) ≠ rd l (i : Int))) 0 i with
     | false =>
      simp only [spec_l18Is.j1, Bool.not_false, if_true]
      rw [h2 (by rw [c2]; rfl)]
      exact Ev.now _
     | true =>
      rw [c2, Bool.true_and] at h1 h2
      simp only [spec_l18Is.j1, Bool.not_true, Bool.false_eq_true, if_false]
      exact is_inner T S C X Y g l e hn hin (sts T S C X Y) i hi r i 0 (by omega) h1 h2
   exact ⟨fun hs r hr => main r (fun _ => hr) (fun hf => by rw [hs] at hf; exact absurd hf (by decide)), fun hs => main false (fun ht => by rw [hs] at ht; exact absurd ht (by decide)) (fun _ => rfl)⟩)
  (fun _ => by
   refine Ev.dn ?_
   simp only [spec_l18Is.l0, if_neg (show ¬ (l.length : Int) < (l.length : Int) by omega)]
   exact Ev.now _) l.length 0 (by omega) (fun j hj => by omega)
 refine h.eq ?_
 cases allD (okI T S C X Y g l) 0 l.length <;> rfl
theorem impl_isFree_ev (T : List S98) (S : List S103) (C X Y : List Int) (g : Int) (l : List Int) (k1 : T.length ≤ 1000000) (k2 : S.length ≤ 1000000) (hX : allIn X 0 100000 = true) (hY : allIn Y 0 100000 = true) (e : Y.length = X.length) (hl : l.length = C.length) (hn : l.length ≤ 1000000) (hin : ∀ j : Nat, j < l.length → 0 ≤ rd l (j : Int) ∧ rd l (j : Int) < (X.length : Int)) (i : Nat) (hi : i < l.length) :
  Ev (fun k => impl_isFree.f k T S C X Y g (l.take i) (i : Int) (rd l (i : Int))) (okI T S C X Y g l i) := by
 obtain ⟨i0, i1⟩ := hin i hi
 have eT : (l.take i).length = i := by rw [List.length_take]; omega
 unfold impl_isFree.f
 simp only [if_pos (show (0 : Int) ≤ (i : Int) by omega), if_pos (show (i : Int) < (C.length : Int) by omega), if_pos i0, if_pos i1, if_pos (show rd l (i : Int) < (Y.length : Int) by omega)]
 refine Ev.bind (impl_isAllowed_ev T S _ _ _ k1 k2) ?_
 unfold okI
 cases alw T S (rd C (i : Int)) (rd X (rd l (i : Int))) (rd Y (rd l (i : Int))) with
 | false => simp only [Bool.false_eq_true, if_false, Bool.false_and]; exact Ev.now _
 | true =>
 simp only [if_true, Bool.true_and]
 have h := Ev.allLoop (l := fun k j => impl_isFree.l0 k (rd l (i : Int)) (l.take i) ((l.take i).length : Int) j T S C X Y g) (n := i) (fun j => decide (rd l (j : Int) ≠ rd l (i : Int)) && apB X Y l g i j) false true
  (fun j hj => Evt.all fun k => by
   obtain ⟨j0, j1⟩ := hin j (by omega)
   have hq : wrap64 ((wrap64 ((wrap64 ((rd X (rd l (i : Int))) - (rd X (rd l (j : Int))))) * (wrap64 ((rd X (rd l (i : Int))) - (rd X (rd l (j : Int))))))) + (wrap64 ((wrap64 ((rd Y (rd l (i : Int))) - (rd Y (rd l (j : Int))))) * (wrap64 ((rd Y (rd l (i : Int))) - (rd Y (rd l (j : Int)))))))) = sq2 X Y (rd l (j : Int)) (rd l (i : Int)) := sq2_comm hX hY e i0 i1 j0 j1
   simp only [impl_isFree.l0, eT, rd_take hj (show i ≤ l.length by omega), hq]
   rw [if_pos (show (j : Int) < (i : Int) by omega), if_pos (show (0 : Int) ≤ (j : Int) by omega), if_pos (show (j : Int) < (i : Int) by omega), if_pos i0, if_pos i1, if_pos j0, if_pos j1, if_pos (show rd l (i : Int) < (Y.length : Int) by omega), if_pos (show rd l (j : Int) < (Y.length : Int) by omega), wrap_succ hj (by omega)]
   unfold apB
   by_cases c1 : rd l (i : Int) = rd l (j : Int)
   ·have n1 : decide (rd l (j : Int) ≠ rd l (i : Int)) = false := decide_eq_false (fun h => h c1.symm)
    rw [if_pos c1, n1, Bool.false_and]
    rfl
   ·have n1 : decide (rd l (j : Int) ≠ rd l (i : Int)) = true := decide_eq_true (fun h => c1 h.symm)
    rw [if_neg c1, n1, Bool.true_and]
    by_cases c2 : sq2 X Y (rd l (j : Int)) (rd l (i : Int)) < wrap64 (g * g)
    ·rw [if_pos c2, decide_eq_true c2]
     rfl
    ·rw [if_neg c2, decide_eq_false c2]
     rfl)
  (Evt.all fun k => by
   simp only [impl_isFree.l0, eT]
   rw [if_neg (by omega)]) i 0 (by omega)
 refine h.eq ?_
 have key : allD (fun j => decide (rd l (j : Int) ≠ rd l (i : Int)) && apB X Y l g i j) 0 i = (allD (fun j => decide (rd l (j : Int) ≠ rd l (i : Int))) 0 i && allD (apB X Y l g i) 0 i) := by
  rw [Bool.eq_iff_iff, Bool.and_eq_true, allD_iff, allD_iff, allD_iff]
  constructor
  ·intro h2
   exact ⟨fun j a b => ((Bool.and_eq_true _ _).mp (h2 j a b)).1, fun j a b => ((Bool.and_eq_true _ _).mp (h2 j a b)).2⟩
  ·intro h1 j a b
   exact (Bool.and_eq_true _ _).mpr ⟨h1.1 j a b, h1.2 j a b⟩
 rw [key]
 cases allD (fun j => decide (rd l (j : Int) ≠ rd l (i : Int))) 0 i && allD (apB X Y l g i) 0 i <;> rfl
theorem impl_is_ev (T : List S98) (S : List S103) (C X Y : List Int) (g : Int) (l : List Int) (k1 : T.length ≤ 1000000) (k2 : S.length ≤ 1000000) (hX : allIn X 0 100000 = true) (hY : allIn Y 0 100000 = true) (e : Y.length = X.length) (hl : l.length = C.length) (hn : l.length ≤ 1000000) (hin : ∀ j : Nat, j < l.length → 0 ≤ rd l (j : Int) ∧ rd l (j : Int) < (X.length : Int)) :
  Ev (fun k => impl_isPlacing.f k T S C X Y g l) (allD (okI T S C X Y g l) 0 l.length) := by
 unfold impl_isPlacing.f
 have h := Ev.allLoopQ (l := fun k i => impl_isPlacing.l0 k l l (l.length : Int) i T S C X Y g) (n := l.length) (okI T S C X Y g l) false true
  (fun i hi _ => by
   have hf := impl_isFree_ev T S C X Y g l k1 k2 hX hY e hl hn hin i hi
   have hw := wrap_succ hi (show l.length ≤ 9223372036854775807 by omega)
   refine ⟨fun hs r hr => Ev.dn ?_, fun hs => Ev.dn ?_⟩
   ·simp only [impl_isPlacing.l0, if_pos (show (i : Int) < (l.length : Int) by omega), if_pos (show (0 : Int) ≤ (i : Int) by omega), if_pos (show (i : Int) ≤ (l.length : Int) by omega), Int.toNat_natCast, hw]
    refine Ev.bind hf ?_
    simp only [hs, if_true]
    exact hr
   ·simp only [impl_isPlacing.l0, if_pos (show (i : Int) < (l.length : Int) by omega), if_pos (show (0 : Int) ≤ (i : Int) by omega), if_pos (show (i : Int) ≤ (l.length : Int) by omega), Int.toNat_natCast, hw]
    refine Ev.bind hf ?_
    simp only [hs, Bool.false_eq_true, if_false]
    exact Ev.now _)
  (fun _ => by
   refine Ev.dn ?_
   simp only [impl_isPlacing.l0, if_neg (show ¬ (l.length : Int) < (l.length : Int) by omega)]
   exact Ev.now _) l.length 0 (by omega) (fun j hj => by omega)
 refine h.eq ?_
 cases allD (okI T S C X Y g l) 0 l.length <;> rfl
theorem copyList_ev (l : List Int) (hn : l.length ≤ 1000000) : Ev (fun k => impl_copyList.f l) l := by
 unfold impl_copyList.f
 simp only [Option.bind_some]
 refine Ev.all (fun k => ?_)
 simp
 try omega
def nwB (p : List Int) (n : Int) : Bool := allD (fun j => decide (rd p (j : Int) ≠ n)) 0 p.length
def apP (X Y p : List Int) (g n : Int) (j : Nat) : Bool := !decide (sq2 X Y (rd p (j : Int)) n < wrap64 (g * g))
def frB (T : List S98) (S : List S103) (C X Y : List Int) (g : Int) (p : List Int) (n : Int) : Bool :=
 alw T S (rd C (p.length : Int)) (rd X n) (rd Y n) && (nwB p n && allD (apP X Y p g n) 0 p.length)
def plA (F : Nat → List (List Int)) : Nat → Nat → List (List Int) → List (List Int)
 | 0, _, a => a
 | e + 1, i, a => plA F e (i + 1) (a ++ F i)
def plD (T : List S98) (S : List S103) (C X Y : List Int) (g : Int) : Nat → List Int → List (List Int)
 | 0, p => [p]
 | d + 1, p => plA (fun n => if frB T S C X Y g p (n : Int) = true then plD T S C X Y g d (p ++ [(n : Int)]) else []) X.length 0 []
theorem plA_len (F : Nat → List (List Int)) (B : Nat) (hF : ∀ n, (F n).length ≤ B) : ∀ e i a, (plA F e i a).length ≤ a.length + e * B
 | 0, _, a => by simp [plA]
 | e + 1, i, a => by
  simp only [plA]
  refine Nat.le_trans (plA_len F B hF e (i + 1) (a ++ F i)) ?_
  have := hF i
  rw [List.length_append, Nat.succ_mul]
  omega
theorem plD_len (T : List S98) (S : List S103) (C X Y : List Int) (g : Int) (hX : X.length ≤ 7) : ∀ d p, (plD T S C X Y g d p).length ≤ 7 ^ d
 | 0, p => by simp [plD]
 | d + 1, p => by
  simp only [plD]
  refine Nat.le_trans (plA_len _ (7 ^ d) (fun n => ?_) X.length 0 []) ?_
  ·split
   ·exact plD_len T S C X Y g hX d _
   ·simp
  ·rw [List.length_nil, Nat.zero_add, Nat.pow_succ, Nat.mul_comm (7 ^ d) 7]
   exact Nat.mul_le_mul_right _ hX
def inX (X p : List Int) : Prop := ∀ j : Nat, j < p.length → 0 ≤ rd p (j : Int) ∧ rd p (j : Int) < (X.length : Int)
theorem inX_snoc {X p : List Int} (h : inX X p) (n : Nat) (hn : n < X.length) : inX X (p ++ [(n : Int)]) := by
 intro j hj
 rw [List.length_append, List.length_singleton] at hj
 rw [rd_nat (by rw [List.length_append, List.length_singleton]; exact hj)]
 by_cases c : j < p.length
 ·rw [List.getElem_append_left c]
  have := h j c
  rwa [rd_nat c] at this
 ·rw [List.getElem_append_right (by omega)]
  simp only [List.getElem_singleton]
  omega
theorem isFree_p_ev (T : List S98) (S : List S103) (C X Y : List Int) (g : Int) (p : List Int) (k1 : T.length ≤ 1000000) (k2 : S.length ≤ 1000000) (hX : allIn X 0 100000 = true) (hY : allIn Y 0 100000 = true) (e : Y.length = X.length) (hp : p.length < C.length) (hn : p.length ≤ 1000000) (hin : inX X p) (n : Nat) (i1 : n < X.length) :
  Ev (fun k => impl_isFree.f k T S C X Y g p (p.length : Int) (n : Int)) (frB T S C X Y g p (n : Int)) := by
 unfold impl_isFree.f
 have n0 : (0 : Int) ≤ (n : Int) := by omega
 have n1 : (n : Int) < (X.length : Int) := by omega
 have n2 : (n : Int) < (Y.length : Int) := by omega
 simp only [if_pos (show (0 : Int) ≤ (p.length : Int) by omega), if_pos (show (p.length : Int) < (C.length : Int) by omega), if_pos n0, if_pos n1, if_pos n2]
 refine Ev.bind (impl_isAllowed_ev T S _ _ _ k1 k2) ?_
 unfold frB
 cases alw T S (rd C (p.length : Int)) (rd X (n : Int)) (rd Y (n : Int)) with
 | false => simp only [Bool.false_eq_true, if_false, Bool.false_and]; exact Ev.now _
 | true =>
 simp only [if_true, Bool.true_and]
 have h := Ev.allLoop (l := fun k j => impl_isFree.l0 k (n : Int) p (p.length : Int) j T S C X Y g) (n := p.length) (fun j => decide (rd p (j : Int) ≠ (n : Int)) && apP X Y p g (n : Int) j) false true
  (fun j hj => Evt.all fun k => by
   obtain ⟨j0, j1⟩ := hin j hj
   have hq : wrap64 ((wrap64 ((wrap64 ((rd X (n : Int)) - (rd X (rd p (j : Int))))) * (wrap64 ((rd X (n : Int)) - (rd X (rd p (j : Int))))))) + (wrap64 ((wrap64 ((rd Y (n : Int)) - (rd Y (rd p (j : Int))))) * (wrap64 ((rd Y (n : Int)) - (rd Y (rd p (j : Int)))))))) = sq2 X Y (rd p (j : Int)) (n : Int) := sq2_comm hX hY e n0 n1 j0 j1
   simp only [impl_isFree.l0, hq]
   rw [if_pos (show (j : Int) < (p.length : Int) by omega), if_pos (show (0 : Int) ≤ (j : Int) by omega), if_pos (show (j : Int) < (p.length : Int) by omega), if_pos n0, if_pos n1, if_pos j0, if_pos j1, if_pos n2, if_pos (show rd p (j : Int) < (Y.length : Int) by omega), wrap_succ hj (by omega)]
   unfold apP
   by_cases c1 : (n : Int) = rd p (j : Int)
   ·have n1 : decide (rd p (j : Int) ≠ (n : Int)) = false := decide_eq_false (fun h => h c1.symm)
    rw [if_pos c1, n1, Bool.false_and]
    rfl
   ·have n1 : decide (rd p (j : Int) ≠ (n : Int)) = true := decide_eq_true (fun h => c1 h.symm)
    rw [if_neg c1, n1, Bool.true_and]
    by_cases c2 : sq2 X Y (rd p (j : Int)) (n : Int) < wrap64 (g * g)
    ·rw [if_pos c2, decide_eq_true c2]
     rfl
    ·rw [if_neg c2, decide_eq_false c2]
     rfl)
  (Evt.all fun k => by
   simp only [impl_isFree.l0]
   rw [if_neg (by omega)]) p.length 0 (by omega)
 refine h.eq ?_
 have key : allD (fun j => decide (rd p (j : Int) ≠ (n : Int)) && apP X Y p g (n : Int) j) 0 p.length = (nwB p (n : Int) && allD (apP X Y p g (n : Int)) 0 p.length) := by
  unfold nwB
  rw [Bool.eq_iff_iff, Bool.and_eq_true, allD_iff, allD_iff, allD_iff]
  constructor
  ·intro h2
   exact ⟨fun j a b => ((Bool.and_eq_true _ _).mp (h2 j a b)).1, fun j a b => ((Bool.and_eq_true _ _).mp (h2 j a b)).2⟩
  ·intro h1 j a b
   exact (Bool.and_eq_true _ _).mpr ⟨h1.1 j a b, h1.2 j a b⟩
 rw [key]
 cases nwB p (n : Int) && allD (apP X Y p g (n : Int)) 0 p.length <;> rfl
theorem len_small {a b i K x : Nat} (h : a ≤ i * K) (hb : b ≤ K) (hi : i < x) (hx : x ≤ 7) (hK : K = 2401) : a + b < 5864062014805 := by
 subst hK
 omega
theorem len_next {a b i K : Nat} (h : a ≤ i * K) (hb : b ≤ K) : a + b ≤ (i + 1) * K := by
 rw [Nat.succ_mul]
 omega
theorem len_keep {a i K : Nat} (h : a ≤ i * K) : a ≤ (i + 1) * K := len_next (b := 0) h (Nat.zero_le _)
theorem impl_placings_ev (T : List S98) (S : List S103) (C X Y : List Int) (g : Int) (k1 : T.length ≤ 1000000) (k2 : S.length ≤ 1000000) (k3 : C.length ≤ 4) (k4 : X.length ≤ 7) (hX : allIn X 0 100000 = true) (hY : allIn Y 0 100000 = true) (e : Y.length = X.length) :
  ∀ d p, p.length + d = C.length → inX X p → Ev (fun k => impl_placings.f k T S C X Y g p) (plD T S C X Y g d p) := by
 intro d
 induction d with
 | zero =>
  intro p hp hi
  refine Ev.dn ?_
  simp only [impl_placings.f, plD, if_pos (show (p.length : Int) = (C.length : Int) by omega)]
  exact Ev.now _
 | succ d ih =>
  intro p hp hi
  refine Ev.dn ?_
  simp only [impl_placings.f, plD, if_neg (show ¬ (p.length : Int) = (C.length : Int) by omega)]
  obtain ⟨K, hK⟩ : ∃ K : Nat, K = 2401 := ⟨_, rfl⟩
  have hB : ∀ n : Nat, (plD T S C X Y g d (p ++ [(n : Int)])).length ≤ K := hK ▸ fun n => Nat.le_trans (plD_len T S C X Y g k4 d _) (Nat.le_trans (Nat.pow_le_pow_right (by decide) (show d ≤ 4 by omega)) (by decide))
  have loop : ∀ m i a, i + m = X.length → a.length ≤ i * K → Ev (fun k => impl_placings.l0 k p (p.length : Int) a (X.length : Int) (i : Int) T S C X Y g) (plA (fun n => if frB T S C X Y g p (n : Int) = true then plD T S C X Y g d (p ++ [(n : Int)]) else []) m i a) := by
   intro m
   induction m with
   | zero =>
    intro i a him ha
    refine Ev.dn ?_
    simp only [impl_placings.l0, if_neg (show ¬ (i : Int) < (X.length : Int) by omega)]
    exact Ev.now _
   | succ m ihm =>
    intro i a him ha
    have hil : i < X.length := by clear ihm ih; omega
    have him' : (i + 1) + m = X.length := by clear ihm ih; omega
    have hp1 : p.length < C.length := by clear ihm ih; omega
    have hp2 : p.length ≤ 1000000 := by clear ihm ih; omega
    have hp3 : p.length + 1 < 17592186044416 := by clear ihm ih; omega
    have hp4 : (p ++ [(i : Int)]).length + d = C.length := by clear ihm ih; rw [List.length_append, List.length_singleton]; omega
    have hw := wrap_succ hil (show X.length ≤ 9223372036854775807 by omega)
    refine Ev.dn ?_
    simp only [impl_placings.l0, plA, if_pos (show (i : Int) < (X.length : Int) by omega), hw, Option.bind_some]
    refine Ev.bind (isFree_p_ev T S C X Y g p k1 k2 hX hY e hp1 hp2 hi i hil) ?_
    cases c : frB T S C X Y g p (i : Int) with
    | false =>
     simp only [Bool.false_eq_true, if_false, List.append_nil]
     exact ihm (i + 1) a him' (len_keep ha)
    | true =>
     simp only [if_true]
     refine Ev.bind (copyList_ev p hp2) ?_
     simp only [List.length_singleton, if_pos hp3]
     refine Ev.bind (ih (p ++ [(i : Int)]) hp4 (inX_snoc hi i hil)) ?_
     have hb := hB i
     simp only [if_pos (len_small ha hb hil k4 hK)]
     exact ihm (i + 1) _ him' (by rw [List.length_append]; exact len_next ha hb)
  exact loop X.length 0 [] (by omega) (by simp)
theorem own_some (l : List Int) (h : l.length ≤ 1000000) : spec_l01Own.f l = some l := by
 unfold spec_l01Own.f
 rw [Option.bind_some, if_pos (by rw [List.length_nil]; omega), List.nil_append]
def flD (F : Int → List (List Int)) (q : List Int) : Nat → Nat → List (List Int) → List (List Int)
 | 0, _, a => a
 | d + 1, i, a => flD F q d (i + 1) (a ++ F (rd q (i : Int)))
theorem flD_eq (F : Int → List (List Int)) (q : List Int) : ∀ d i a, i + d = q.length → flD F q d i a = a ++ (q.drop i).flatMap F
 | 0, i, a, h => by
  rw [List.drop_eq_nil_of_le (by omega)]
  simp [flD]
 | d + 1, i, a, h => by
  simp only [flD]
  rw [flD_eq F q d (i + 1) _ (by omega), List.drop_eq_getElem_cons (show i < q.length by omega), rd_nat (show i < q.length by omega), List.flatMap_cons, List.append_assoc]
theorem plA_eq (G : Nat → List (List Int)) : ∀ e i a, plA G e i a = a ++ (List.range' i e).flatMap G
 | 0, i, a => by simp [plA]
 | e + 1, i, a => by
  simp only [plA]
  rw [plA_eq G e (i + 1) _, List.range'_succ, List.flatMap_cons, List.append_assoc]
theorem spD_eq (T : List S98) (S : List S103) (X Y : List Int) (c : Int) : ∀ d j xs, spD T S X Y c d j xs = xs ++ (List.range' j d).flatMap (fun n : Nat => if alw T S c (rd X (n : Int)) (rd Y (n : Int)) = true then [(n : Int)] else [])
 | 0, j, xs => by simp [spD]
 | d + 1, j, xs => by
  simp only [spD]
  rw [spD_eq T S X Y c d (j + 1) _, List.range'_succ, List.flatMap_cons]
  by_cases c1 : alw T S c (rd X (j : Int)) (rd Y (j : Int)) = true
  ·rw [if_pos c1, if_pos c1, List.append_assoc]
  ·rw [if_neg c1, if_neg c1, List.nil_append]
def plF (T : List S98) (S : List S103) (C X Y : List Int) (g : Int) (d : Nat) (p : List Int) (s : Int) : List (List Int) :=
 if (nwB p s && allD (apP X Y p g s) 0 p.length) = true then plD T S C X Y g d (p ++ [s]) else []
theorem flD_plD (T : List S98) (S : List S103) (C X Y : List Int) (g : Int) (d : Nat) (p : List Int) :
  flD (plF T S C X Y g d p) (sps T S X Y (rd C (p.length : Int))) (sps T S X Y (rd C (p.length : Int))).length 0 [] = plD T S C X Y g (d + 1) p := by
 rw [flD_eq _ _ _ _ _ (by omega)]
 simp only [plD]
 rw [plA_eq, List.drop_zero, List.nil_append, List.nil_append]
 unfold sps
 rw [spD_eq, List.nil_append, List.flatMap_assoc]
 congr 1
 funext n
 unfold frB plF
 cases alw T S (rd C (p.length : Int)) (rd X (n : Int)) (rd Y (n : Int)) with
 | false => simp
 | true => simp
theorem sps_in (T : List S98) (S : List S103) (X Y : List Int) (c : Int) (i : Nat) (h : i < (sps T S X Y c).length) : ∃ n : Nat, n < X.length ∧ rd (sps T S X Y c) (i : Int) = (n : Int) := by
 have hm : rd (sps T S X Y c) (i : Int) ∈ sps T S X Y c := by
  rw [rd_nat h]
  exact List.getElem_mem h
 unfold sps at hm ⊢
 rcases (mem_spD T S X Y c _ _ _ _).1 hm with h1 | ⟨n, _, h2, h3, _⟩
 ·exact absurd h1 (by simp)
 ·exact ⟨n, by omega, h3⟩
theorem square_some (T : List S98) (S : List S103) (C X Y : List Int) (g a b : Int) (e : Y.length = X.length) (a0 : 0 ≤ a) (a1 : a < (X.length : Int)) (b0 : 0 ≤ b) (b1 : b < (X.length : Int)) : spec_l18Square.f T S C X Y g a b = some (sq2 X Y a b) := by
 unfold spec_l18Square.f sq2
 rw [if_pos a0, if_pos a1, if_pos b0, if_pos b1, if_pos (by omega), if_pos (by omega)]
theorem all_l1 (T : List S98) (S : List S103) (C X Y : List Int) (g : Int) (L : List (List Int)) (p : List Int) (a : List (List Int)) (q : List Int) (i n : Nat) (e : Y.length = X.length) (hi : i < q.length) (hq : q.length ≤ 1000000) (hp : p.length ≤ 1000000) (hin : inX X p) (hn : n < X.length) (hr : rd q (i : Int) = (n : Int)) (R : List (List Int)) :
  ∀ d j (b : Bool), j + d = p.length → Ev (fun k => spec_l18All.l1 k L p a q (i : Int) (b && allD (apP X Y p g (n : Int)) j d) (p.length : Int) T S C X Y g) R → Ev (fun k => spec_l18All.l1 k L p a q (i : Int) b (j : Int) T S C X Y g) R := by
 have i0 : (0 : Int) ≤ (i : Int) := by omega
 have i1 : (i : Int) < (q.length : Int) := by omega
 intro d
 induction d with
 | zero =>
  intro j b hj h
  obtain rfl : j = p.length := by omega
  simp only [allD, Bool.and_true] at h
  exact h
 | succ d ih =>
  intro j b hj h
  have hjl : j < p.length := by clear ih; omega
  have hw := wrap_succ hjl (show p.length ≤ 9223372036854775807 by clear ih; omega)
  have j0 : (0 : Int) ≤ (j : Int) := by clear ih; omega
  have j1 : (j : Int) < (p.length : Int) := by clear ih; omega
  have hj' : j + 1 + d = p.length := by clear ih; omega
  obtain ⟨s0, s1⟩ := hin j hjl
  refine Ev.dn ?_
  simp only [allD] at h
  cases b with
  | false =>
   simp only [spec_l18All.l1, if_pos j1, Bool.false_eq_true, if_false, hw]
   refine ih (j + 1) false hj' ?_
   simp only [Bool.false_and] at h ⊢
   exact h
  | true =>
   simp only [spec_l18All.l1, if_pos j1, if_true, if_pos j0, if_pos i0, if_pos i1, hr, square_some T S C X Y g _ _ e s0 s1 (Int.natCast_nonneg n) (Int.ofNat_lt.2 hn), Option.bind_some, hw]
   refine ih (j + 1) _ hj' ?_
   have ha : decide (sq2 X Y (rd p (j : Int)) (n : Int) ≥ wrap64 (g * g)) = apP X Y p g (n : Int) j := by
    unfold apP
    by_cases c : sq2 X Y (rd p (j : Int)) (n : Int) < wrap64 (g * g)
    ·rw [decide_eq_true c, decide_eq_false (by omega)]; rfl
    ·rw [decide_eq_false c, decide_eq_true (by omega)]; rfl
   rw [ha]
   simpa only [Bool.true_and] using h
theorem spec_all_ev (T : List S98) (S : List S103) (C X Y : List Int) (g : Int) (k3 : C.length ≤ 4) (k4 : X.length ≤ 7) (e : Y.length = X.length) :
  ∀ d p, p.length + d = C.length → inX X p → Ev (fun k => spec_l18All.f k T S C X Y g (sts T S C X Y) p) (plD T S C X Y g d p) := by
 intro d
 induction d with
 | zero =>
  intro p hp hi
  refine Ev.dn ?_
  simp only [spec_l18All.f, plD, sts_len, if_pos (show (p.length : Int) = (C.length : Int) by omega)]
  exact Ev.now _
 | succ d ih =>
  intro p hp hi
  have hp1 : p.length ≤ 1000000 := by clear ih; omega
  have hp2 : (p.length : Int) < (C.length : Int) := by clear ih; omega
  have hp0 : (0 : Int) ≤ (p.length : Int) := by clear ih; omega
  have hpl : ¬ (p.length : Int) < (p.length : Int) := by clear ih; omega
  have hp3 : p.length + 1 < 17592186044416 := by clear ih; omega
  obtain ⟨K, hK⟩ : ∃ K : Nat, K = 2401 := ⟨_, rfl⟩
  have hB : ∀ s : Int, (plD T S C X Y g d (p ++ [s])).length ≤ K := hK ▸ fun s => Nat.le_trans (plD_len T S C X Y g k4 d _) (Nat.le_trans (Nat.pow_le_pow_right (by decide) (show d ≤ 4 by omega)) (by decide))
  have hsl := sps_len T S X Y (rd C (p.length : Int))
  have hE : Ev (fun k => spec_l18All.l0 k (sts T S C X Y) p [] (sps T S X Y (rd C (p.length : Int))) ((0 : Nat) : Int) T S C X Y g) (flD (plF T S C X Y g d p) (sps T S X Y (rd C (p.length : Int))) (sps T S X Y (rd C (p.length : Int))).length 0 []) := by
   have hin := sps_in T S X Y (rd C (p.length : Int))
   generalize sps T S X Y (rd C (p.length : Int)) = q at hsl hin
   have hq7 : q.length ≤ 7 := by clear ih; omega
   have loop : ∀ m i a, i + m = q.length → a.length ≤ i * K → Ev (fun k => spec_l18All.l0 k (sts T S C X Y) p a q (i : Int) T S C X Y g) (flD (plF T S C X Y g d p) q m i a) := by
    intro m
    induction m with
    | zero =>
     intro i a him ha
     refine Ev.dn ?_
     simp only [spec_l18All.l0, if_neg (show ¬ (i : Int) < (q.length : Int) by omega)]
     exact Ev.now _
    | succ m ihm =>
     intro i a him ha
     have hil : i < q.length := by clear ihm ih; omega
     have him' : (i + 1) + m = q.length := by clear ihm ih; omega
     have hq6 : q.length ≤ 1000000 := by clear ihm ih; omega
     have i0 : (0 : Int) ≤ (i : Int) := by clear ihm ih; omega
     have i1 : (i : Int) < (q.length : Int) := by clear ihm ih; omega
     have hw := wrap_succ hil (show q.length ≤ 9223372036854775807 by clear ihm ih; omega)
     obtain ⟨n, hn, hr⟩ := hin i hil
     refine Ev.dn ?_
     simp only [spec_l18All.l0, flD, if_pos i1, if_pos i0, hr]
     refine Ev.bind (has_ev p (n : Int) hp1) ?_
     simp only [Bool.not_not]
     refine all_l1 T S C X Y g (sts T S C X Y) p a q i n e hil hq6 hp1 hi hn hr _ p.length 0 _ (by clear ihm ih; omega) ?_
     refine Ev.dn ?_
     rw [show allD (fun j => decide (rd p (j : Int) ≠ (n : Int))) 0 p.length = nwB p (n : Int) from rfl]
     unfold plF
     cases c : nwB p (n : Int) && allD (apP X Y p g (n : Int)) 0 p.length with
     | false =>
      simp only [spec_l18All.l1, if_neg hpl, Bool.false_eq_true, if_false, hw, List.append_nil]
      exact ihm (i + 1) a him' (len_keep ha)
     | true =>
      simp only [spec_l18All.l1, if_neg hpl, if_true, hw, own_some p hp1, Option.bind_some, if_pos i0, if_pos i1, hr, List.length_singleton, if_pos hp3]
      refine Ev.bind (ih (p ++ [(n : Int)]) (by rw [List.length_append, List.length_singleton]; clear ihm ih; omega) (inX_snoc hi n hn)) ?_
      simp only [if_pos (len_small ha (hB (n : Int)) hil hq7 hK)]
      exact ihm (i + 1) _ him' (by rw [List.length_append]; exact len_next ha (hB (n : Int)))
   exact loop q.length 0 [] (by omega) (by simp)
  rw [flD_plD] at hE
  refine Ev.dn ?_
  simp only [spec_l18All.f, sts_len, if_neg (show ¬ (p.length : Int) = (C.length : Int) by omega), if_pos hp0, if_pos hp2, sts_rd T S C X Y (p.length : Int) hp0 hp2]
  exact hE
theorem plA_all {Q : List Int → Prop} (F : Nat → List (List Int)) (hF : ∀ n, ∀ x ∈ F n, Q x) : ∀ e i a, (∀ x ∈ a, Q x) → ∀ x ∈ plA F e i a, Q x
 | 0, _, a, h => h
 | e + 1, i, a, h => plA_all F hF e (i + 1) (a ++ F i) (fun x hx => (List.mem_append.1 hx).elim (h x) (hF i x))
theorem plD_all (T : List S98) (S : List S103) (C X Y : List Int) (g : Int) : ∀ d p, ∀ x ∈ plD T S C X Y g d p, x.length = p.length + d
 | 0, p => fun x hx => by
  obtain rfl := List.mem_singleton.1 hx
  rfl
 | d + 1, p => by
  simp only [plD]
  refine plA_all (Q := fun x => x.length = p.length + (d + 1)) _ (fun n x hx => ?_) X.length 0 [] (fun x hx => absurd hx (by simp))
  split at hx
  ·have := plD_all T S C X Y g d _ x hx
   rw [List.length_append, List.length_singleton] at this
   omega
  ·exact absurd hx (by simp)
theorem rd_L5_mem {P : List (List Int)} {i : Nat} (h : i < P.length) : rd_L5 P (i : Int) ∈ P := by
 have e : rd_L5 P (i : Int) = P[i] := by simp [rd_L5, h]
 rw [e]
 exact List.getElem_mem h
theorem mem_plD (T : List S98) (S : List S103) (C X Y : List Int) (g : Int) (d : Nat) (p x : List Int) :
  x ∈ plD T S C X Y g (d + 1) p ↔ ∃ n : Nat, n < X.length ∧ frB T S C X Y g p (n : Int) = true ∧ x ∈ plD T S C X Y g d (p ++ [(n : Int)]) := by
 simp only [plD]
 rw [plA_eq, List.nil_append, List.mem_flatMap]
 constructor
 ·rintro ⟨n, hn, hx⟩
  by_cases c : frB T S C X Y g p (n : Int) = true
  ·rw [if_pos c] at hx
   exact ⟨n, by have := (List.mem_range'_1.1 hn).2; omega, c, hx⟩
  ·rw [if_neg c] at hx
   exact absurd hx (by simp)
 ·rintro ⟨n, hn, c, hx⟩
  exact ⟨n, List.mem_range'_1.2 ⟨by omega, by omega⟩, by rw [if_pos c]; exact hx⟩
theorem mem_inX (T : List S98) (S : List S103) (C X Y : List Int) (g : Int) : ∀ d p, inX X p → ∀ x, x ∈ plD T S C X Y g d p → inX X x
 | 0, p, hp, x, h => by rw [List.mem_singleton.1 h]; exact hp
 | d + 1, p, hp, x, h => by
  obtain ⟨n, hn, _, hx⟩ := (mem_plD T S C X Y g d p x).1 h
  exact mem_inX T S C X Y g d _ (inX_snoc hp n hn) x hx
theorem wrap_add3 (s x y : Int) : wrap64 (wrap64 (s + x) + y) = wrap64 (s + wrap64 (x + y)) := by unfold wrap64; omega
def coD (X Y l : List Int) : Nat → Nat → Int → Int
 | 0, _, s => s
 | d + 1, i, s => coD X Y l d (i + 1) (wrap64 (s + wrap64 (rd X (rd l (i : Int)) + rd Y (rd l (i : Int)))))
theorem cost_ev (T : List S98) (S : List S103) (C X Y : List Int) (g : Int) (l : List Int) (e : Y.length = X.length) (hn : l.length ≤ 1000000) (hin : ∀ j : Nat, j < l.length → 0 ≤ rd l (j : Int) ∧ rd l (j : Int) < (X.length : Int)) : ∀ d i s, i + d = l.length →
  Ev (fun k => spec_l18Cost.l0 k l s (i : Int) T S C X Y g) (coD X Y l d i s) ∧ Ev (fun k => impl_costOf.l0 k s l (l.length : Int) (i : Int) T S C X Y g) (coD X Y l d i s) := by
 intro d
 induction d with
 | zero =>
  intro i s hi
  refine ⟨Ev.dn ?_, Ev.dn ?_⟩
  ·simp only [spec_l18Cost.l0, if_neg (show ¬ (i : Int) < (l.length : Int) by omega)]; exact Ev.now _
  ·simp only [impl_costOf.l0, if_neg (show ¬ (i : Int) < (l.length : Int) by omega)]; exact Ev.now _
 | succ d ih =>
  intro i s hi
  obtain ⟨i0, i1⟩ := hin i (by omega)
  have hw := wrap_succ (show i < l.length by omega) (show l.length ≤ 9223372036854775807 by omega)
  have h1 := ih (i + 1) (wrap64 (s + wrap64 (rd X (rd l (i : Int)) + rd Y (rd l (i : Int))))) (by omega)
  refine ⟨Ev.dn ?_, Ev.dn ?_⟩
  ·simp only [spec_l18Cost.l0, coD, if_pos (show (i : Int) < (l.length : Int) by omega), if_pos (show (0 : Int) ≤ (i : Int) by omega), if_pos i0, if_pos i1, if_pos (show rd l (i : Int) < (Y.length : Int) by omega), hw, wrap_add3]
   exact h1.1
  ·simp only [impl_costOf.l0, coD, if_pos (show (i : Int) < (l.length : Int) by omega), if_pos (show (0 : Int) ≤ (i : Int) by omega), if_pos i0, if_pos i1, if_pos (show rd l (i : Int) < (Y.length : Int) by omega), hw]
   exact h1.2
def spcd (T : List S98) (S : List S103) (C X Y : List Int) (g : Int) (l : List Int) : Int :=
 if fldOk T S C X Y g = true then (if (decide (l.length = C.length) && allIn l 0 ((X.length : Int) - 1)) = true then 0 else 2) else 1
theorem fldOk_xy {T : List S98} {S : List S103} {C X Y : List Int} {g : Int} (h : fldOk T S C X Y g = true) : allIn X 0 100000 = true ∧ allIn Y 0 100000 = true := by
 simp only [fldOk, Bool.and_eq_true] at h
 exact ⟨h.1.1.2, h.1.2⟩
theorem spec_code_ev (T : List S98) (S : List S103) (C X Y : List Int) (g : Int) (l : List Int) (h1 : T.length ≤ 1000000) (h2 : S.length ≤ 1000000) (h3 : C.length ≤ 1000000) (h4 : X.length ≤ 1000000) (h5 : Y.length ≤ 1000000) (hn : l.length ≤ 1000000) :
  Ev (fun k => spec_l18Code.f k T S C X Y g l) (spcd T S C X Y g l) := by
 unfold spec_l18Code.f spcd
 refine Ev.bind (spec_IsField_ev T S C X Y g h1 h2 h3 h4 h5) ?_
 cases fldOk T S C X Y g with
 | false => simp only [Bool.false_eq_true, if_false]; exact Ev.now _
 | true =>
 simp only [if_true]
 have hw : wrap64 ((X.length : Int) - 1) = (X.length : Int) - 1 := wrap_id (by omega) (by omega)
 have h := Ev.allLoop (l := fun k i => spec_l18Code.l0 k l i T S C X Y g) (n := l.length) (fun j => rin (rd l (j : Int)) 0 ((X.length : Int) - 1)) (2 : Int) (if l.length = C.length then 0 else 2)
  (fun i hi => Evt.all fun k => by
   simp only [spec_l18Code.l0, l01In_eq, Option.bind_some, hw]
   rw [if_pos (show (i : Int) < (l.length : Int) by omega), if_pos (show (0 : Int) ≤ (i : Int) by omega), wrap_succ hi (by omega)])
  (Evt.all fun k => by
   simp only [spec_l18Code.l0]
   rw [if_neg (show ¬ (l.length : Int) < (l.length : Int) by omega)]
   by_cases c : l.length = C.length
   ·rw [if_pos (by omega), if_pos c]
   ·rw [if_neg (by omega), if_neg c]) l.length 0 (by omega)
 refine h.eq ?_
 unfold allIn
 by_cases c : l.length = C.length <;> cases allD (fun j => rin (rd l (j : Int)) 0 ((X.length : Int) - 1)) 0 l.length <;> simp [c]
theorem impl_areSpots_ev (T : List S98) (S : List S103) (C X Y : List Int) (g : Int) (l : List Int) (h4 : X.length ≤ 1000000) (hn : l.length ≤ 1000000) :
  Ev (fun k => impl_areSpots.f k T S C X Y g l) (decide (l.length = C.length) && allIn l 0 ((X.length : Int) - 1)) := by
 unfold impl_areSpots.f
 rw [wrap_id (x := (X.length : Int) - 1) (by omega) (by omega)]
 by_cases c : l.length = C.length
 ·rw [decide_eq_true c, Bool.true_and]
  simp only [if_pos (show (l.length : Int) = (C.length : Int) by omega)]
  exact Ev.bind (allWithin_ev l 0 _ (by omega)) (Ev.now _)
 ·rw [decide_eq_false c, Bool.false_and]
  simp only [if_neg (show ¬ (l.length : Int) = (C.length : Int) by omega)]
  exact Ev.now _
theorem inX_nil (X : List Int) : inX X [] := fun j hj => absurd hj (by simp)
def isP (T : List S98) (S : List S103) (C X Y : List Int) (g : Int) (l : List Int) : Bool := allD (okI T S C X Y g l) 0 l.length
theorem okI_fr (T : List S98) (S : List S103) (C X Y : List Int) (g : Int) (l : List Int) (i : Nat) (hi : i < l.length) : okI T S C X Y g l i = frB T S C X Y g (l.take i) (rd l (i : Int)) := by
 have hl : (l.take i).length = i := by rw [List.length_take]; omega
 unfold okI frB nwB
 rw [hl, Bool.and_assoc]
 congr 1
 congr 1
 ·exact allD_congr _ _ (fun j _ hj => by rw [rd_take (show j < i by omega) (by omega)])
 ·exact allD_congr _ _ (fun j _ hj => by unfold apB apP; rw [rd_take (show j < i by omega) (by omega)])
theorem isP_iff (T : List S98) (S : List S103) (C X Y : List Int) (g : Int) (l : List Int) : isP T S C X Y g l = true ↔ ∀ i, i < l.length → frB T S C X Y g (l.take i) (rd l (i : Int)) = true := by
 unfold isP
 rw [allD_iff]
 constructor
 ·intro h i hi
  rw [← okI_fr T S C X Y g l i hi]
  exact h i (Nat.zero_le _) (by omega)
 ·intro h j _ hj
  rw [okI_fr T S C X Y g l j (by omega)]
  exact h j (by omega)
theorem rd_app_0 (p s : List Int) (v : Int) : rd (p ++ v :: s) (p.length : Int) = v := by simp [rd]
theorem plD_iff (T : List S98) (S : List S103) (C X Y : List Int) (g : Int) : ∀ (d : Nat) (p x : List Int), x ∈ plD T S C X Y g d p ↔ ∃ s : List Int, x = p ++ s ∧ s.length = d ∧ (∀ v ∈ s, 0 ≤ v ∧ v < (X.length : Int)) ∧ ∀ i, p.length ≤ i → i < x.length → frB T S C X Y g (x.take i) (rd x (i : Int)) = true
 | 0, p, x => by
  simp only [plD, List.mem_singleton]
  constructor
  ·rintro rfl
   exact ⟨[], by simp, rfl, fun v h => absurd h (by simp), fun i h1 h2 => absurd h1 (by omega)⟩
  ·rintro ⟨s, h1, h2, _⟩
   rw [h1, List.length_eq_zero_iff.1 h2, List.append_nil]
 | d + 1, p, x => by
  simp only [plD]
  rw [plA_eq, List.nil_append, List.mem_flatMap]
  constructor
  ·rintro ⟨n, hn, hx⟩
   have hn2 : n < X.length := by have := List.mem_range'_1.1 hn; omega
   split at hx
   ·rename_i hf
    obtain ⟨s, rfl, h2, h3, h4⟩ := (plD_iff T S C X Y g d _ x).1 hx
    have e : p ++ [(n : Int)] ++ s = p ++ (n : Int) :: s := by simp
    rw [e] at h4 ⊢
    refine ⟨(n : Int) :: s, rfl, by simp [h2], fun v hv => ?_, fun i h5 h6 => ?_⟩
    ·rcases List.mem_cons.1 hv with rfl | hv
     ·omega
     ·exact h3 v hv
    ·by_cases c : i = p.length
     ·subst c
      rw [List.take_left, rd_app_0]
      exact hf
     ·exact h4 i (by simp; omega) h6
   ·exact absurd hx (by simp)
  ·rintro ⟨s, rfl, h2, h3, h4⟩
   obtain ⟨v, s, rfl⟩ : ∃ v s', s = v :: s' := by
    cases s with
    | nil => simp at h2
    | cons v s => exact ⟨v, s, rfl⟩
   obtain ⟨v0, v1⟩ := h3 v (by simp)
   obtain ⟨n, rfl⟩ : ∃ n : Nat, v = (n : Int) := ⟨v.toNat, by omega⟩
   refine ⟨n, List.mem_range'_1.2 ⟨Nat.zero_le _, by omega⟩, ?_⟩
   have hf := h4 p.length (Nat.le_refl _) (by simp)
   rw [List.take_left, rd_app_0] at hf
   rw [if_pos hf]
   have e : p ++ (n : Int) :: s = p ++ [(n : Int)] ++ s := by simp
   rw [e] at h4 ⊢
   refine (plD_iff T S C X Y g d _ _).2 ⟨s, rfl, by simpa using h2, fun v hv => h3 v (by simp [hv]), fun i h5 h6 => h4 i (by simp at h5; omega) h6⟩
theorem plD_isP (T : List S98) (S : List S103) (C X Y : List Int) (g : Int) (x : List Int) : x ∈ plD T S C X Y g C.length [] ↔ x.length = C.length ∧ inX X x ∧ isP T S C X Y g x = true := by
 rw [plD_iff, isP_iff]
 constructor
 ·rintro ⟨s, rfl, h2, h3, h4⟩
  refine ⟨h2, fun j hj => ?_, fun i hi => h4 i (Nat.zero_le _) hi⟩
  rw [rd_nat hj]
  exact h3 _ (List.getElem_mem hj)
 ·rintro ⟨h1, h2, h3⟩
  refine ⟨x, rfl, h1, fun v hv => ?_, fun i _ hi => h3 i hi⟩
  obtain ⟨j, hj, rfl⟩ := List.getElem_of_mem hv
  have := h2 j hj
  rw [rd_nat hj] at this
  exact this
def cst (X Y l : List Int) : Int := coD X Y l l.length 0 0
theorem cst_ev (T : List S98) (S : List S103) (C X Y : List Int) (g : Int) (l : List Int) (e : Y.length = X.length) (hn : l.length ≤ 1000000) (hin : inX X l) :
  Ev (fun k => spec_l18Cost.f k T S C X Y g l) (cst X Y l) ∧ Ev (fun k => impl_costOf.f k T S C X Y g l) (cst X Y l) := by
 unfold spec_l18Cost.f impl_costOf.f cst
 exact cost_ev T S C X Y g l e hn hin l.length 0 0 (by omega)
def bpD (X Y : List Int) (P : List (List Int)) : Nat → Nat → List Int → List Int
 | 0, _, b => b
 | d + 1, i, b => bpD X Y P d (i + 1) (if cst X Y (rd_L5 P (i : Int)) < cst X Y b then rd_L5 P (i : Int) else b)
theorem best_ev (T : List S98) (S : List S103) (C X Y : List Int) (g : Int) (e : Y.length = X.length) (P : List (List Int)) (hP : P.length ≤ 1000000) (hin : ∀ x ∈ P, inX X x ∧ x.length ≤ 1000) :
  ∀ d i b, i + d = P.length → inX X b → b.length ≤ 1000 →
   Ev (fun k => spec_BestPlacing.l0 k P b (i : Int) T S C X Y g) (bpD X Y P d i b, cst X Y (bpD X Y P d i b), 0) ∧ Ev (fun k => impl_bestPlacing.l0 k b P (P.length : Int) (i : Int) T S C X Y g) (bpD X Y P d i b, true) ∧ inX X (bpD X Y P d i b) ∧ (bpD X Y P d i b).length ≤ 1000 := by
 intro d
 induction d with
 | zero =>
  intro i b hi hb hl
  have hc := cst_ev T S C X Y g b e (by omega) hb
  refine ⟨Ev.dn ?_, Ev.dn ?_, hb, hl⟩
  ·simp only [spec_BestPlacing.l0, bpD, if_neg (show ¬ (i : Int) < (P.length : Int) by omega)]
   exact Ev.bind hc.1 (Ev.now _)
  ·simp only [impl_bestPlacing.l0, bpD, if_neg (show ¬ (i : Int) < (P.length : Int) by omega)]
   exact Ev.now _
 | succ d ih =>
  intro i b hi hb hl
  have hip : i < P.length := by clear ih; omega
  have i0 : (0 : Int) ≤ (i : Int) := Int.natCast_nonneg i
  have i1 : (i : Int) < (P.length : Int) := by clear ih; omega
  have hw := wrap_succ hip (show P.length ≤ 9223372036854775807 by clear ih; omega)
  obtain ⟨r1, r2⟩ := hin _ (rd_L5_mem hip)
  have hc := cst_ev T S C X Y g b e (by clear ih; omega) hb
  have hr := cst_ev T S C X Y g (rd_L5 P (i : Int)) e (by clear ih; omega) r1
  have hi2 : i + 1 + d = P.length := by clear ih; omega
  simp only [bpD]
  by_cases c : cst X Y (rd_L5 P (i : Int)) < cst X Y b
  ·rw [if_pos c]
   obtain ⟨h1, h2, h3⟩ := ih (i + 1) (rd_L5 P (i : Int)) hi2 r1 r2
   refine ⟨Ev.dn ?_, Ev.dn ?_, h3⟩
   ·simp only [spec_BestPlacing.l0, if_pos i1, if_pos i0, hw]
    refine Ev.bind hr.1 (Ev.bind hc.1 ?_)
    simp only [if_pos c]
    exact h1
   ·simp only [impl_bestPlacing.l0, if_pos i1, if_pos i0, hw]
    refine Ev.bind hr.2 (Ev.bind hc.2 ?_)
    simp only [if_pos c]
    exact h2
  ·rw [if_neg c]
   obtain ⟨h1, h2, h3⟩ := ih (i + 1) b hi2 hb hl
   refine ⟨Ev.dn ?_, Ev.dn ?_, h3⟩
   ·simp only [spec_BestPlacing.l0, if_pos i1, if_pos i0, hw]
    refine Ev.bind hr.1 (Ev.bind hc.1 ?_)
    simp only [if_neg c]
    exact h1
   ·simp only [impl_bestPlacing.l0, if_pos i1, if_pos i0, hw]
    refine Ev.bind hr.2 (Ev.bind hc.2 ?_)
    simp only [if_neg c]
    exact h2
theorem bpD_min (X Y : List Int) (P : List (List Int)) : ∀ d i b, i + d = P.length → (bpD X Y P d i b = b ∨ bpD X Y P d i b ∈ P) ∧ cst X Y (bpD X Y P d i b) ≤ cst X Y b ∧ ∀ j (hj : j < P.length), i ≤ j → cst X Y (bpD X Y P d i b) ≤ cst X Y P[j] := by
 intro d
 induction d with
 | zero =>
  intro i b hi
  exact ⟨.inl rfl, Int.le_refl _, fun j hj h => absurd hj (by omega)⟩
 | succ d ih =>
  intro i b hi
  have hil : i < P.length := by omega
  have hr : rd_L5 P (i : Int) = P[i] := by simp [rd_L5, hil]
  simp only [bpD]
  rw [hr]
  by_cases c : cst X Y P[i] < cst X Y b
  ·rw [if_pos c]
   obtain ⟨h1, h2, h3⟩ := ih (i + 1) P[i] (by omega)
   refine ⟨.inr (h1.elim (fun e => by rw [e]; exact List.getElem_mem hil) id), by omega, fun j hj hle => ?_⟩
   by_cases e : j = i
   ·subst e; exact h2
   ·exact h3 j hj (by omega)
  ·rw [if_neg c]
   obtain ⟨h1, h2, h3⟩ := ih (i + 1) b (by omega)
   refine ⟨h1, h2, fun j hj hle => ?_⟩
   by_cases e : j = i
   ·subst e; omega
   ·exact h3 j hj (by omega)
def Gd (L : List Int) (p z : Int) : Prop := 0 ≤ p ∧ p ≤ (L.length : Int) ∧ 0 ≤ z ∧ z < 2147483647
def By (L : List Int) : Prop := L.length ≤ 4096 ∧ ∀ j : Nat, j < L.length → 0 ≤ rd L (j : Int) ∧ rd L (j : Int) ≤ 255
theorem tm_bd {x n : Int} (hx : 0 ≤ x) (hn : 0 < n) : 0 ≤ Int.tmod x n ∧ Int.tmod x n < n := ⟨Int.tmod_nonneg n hx, Int.tmod_lt_of_pos x hn⟩
theorem next_ok {L : List Int} (hL : By L) {p z : Int} (g : Gd L p z) (n : Int) (h1 : 1 ≤ n) (h2 : n ≤ 100000000) : ∃ v p' z' : Int, spec_l01Next.f L p z n = some (v, p', z') ∧ Gd L p' z' ∧ 0 ≤ v ∧ v < n := by
 obtain ⟨g1, g2, g3, g4⟩ := g
 obtain ⟨hl, hb⟩ := hL
 unfold spec_l01Next.f
 by_cases c1 : n ≤ 1
 ·rw [if_pos c1]
  exact ⟨0, p, z, rfl, ⟨g1, g2, g3, g4⟩, by omega, by omega⟩
 rw [if_neg c1]
 have hn : ¬ n = 0 := by omega
 have w1 : wrap64 (z * 48271) = z * 48271 := wrap_id (by omega) (by omega)
 have w2 : wrap64 (z * 48271 + 29) = z * 48271 + 29 := wrap_id (by omega) (by omega)
 obtain ⟨z0, z1⟩ := tm_bd (x := z * 48271 + 29) (n := 2147483647) (by omega) (by decide)
 simp only [w1, w2, if_neg hn]
 generalize Int.tmod (z * 48271 + 29) 2147483647 = y at z0 z1
 have q0 : Int.tdiv y 31 = y / 31 := Int.tdiv_eq_ediv_of_nonneg z0
 obtain ⟨q2, q3⟩ : 0 ≤ y / 31 ∧ y / 31 ≤ 2147483647 := by clear w1 w2 c1 hb; omega
 have q1 : wrap64 (y / 31) = y / 31 := wrap_id (by clear w1 w2 c1 hb q0; omega) (by clear w1 w2 c1 hb q0; omega)
 simp only [q0, q1]
 clear q0 q1 w1 w2
 generalize y / 31 = q at q2 q3
 by_cases c2 : p < (L.length : Int)
 ·obtain ⟨m, rfl⟩ := Int.eq_ofNat_of_zero_le g1
  obtain ⟨r0, r1⟩ := hb m (by omega)
  have m0 : (m : Int) < 4096 := by clear z0 z1 q2 q3 r0 r1; omega
  obtain ⟨p1, p2⟩ : wrap64 ((m : Int) + 1) = (m : Int) + 1 ∧ wrap64 ((m : Int) + 1 - 1) = (m : Int) := by
   clear z0 z1 q2 q3 r0 r1 c2 g1 g2 hb hn
   refine ⟨wrap_id (by omega) (by omega), ?_⟩
   rw [wrap_id (by omega) (by omega)]
   omega
  obtain ⟨r2, r3⟩ : wrap64 (rd L (m : Int)) = rd L (m : Int) ∧ wrap64 (q + rd L (m : Int)) = q + rd L (m : Int) := by
   clear p1 p2 c2 g1 g2 hb hn
   generalize rd L (m : Int) = r at r0 r1
   exact ⟨wrap_id (by omega) (by omega), wrap_id (by omega) (by omega)⟩
  have k1 : 0 ≤ (m : Int) + 1 ∧ (m : Int) + 1 ≤ (L.length : Int) := by clear p1 p2 r2 r3 z0 z1 q2 q3 r0 r1; omega
  have k2 : 0 ≤ q + rd L (m : Int) := by clear p1 p2 r2 r3 z0 z1; omega
  have k3 : 0 < n := by clear p1 p2 r2 r3 z0 z1 q2 q3 r0 r1; omega
  obtain ⟨a0, a1⟩ := tm_bd (x := rd L (m : Int)) (n := n) r0 k3
  obtain ⟨b0, b1⟩ := tm_bd (x := q + rd L (m : Int)) (n := n) k2 k3
  by_cases c4 : n ≤ 256
  ·simp only [if_pos c2, if_pos g1, if_pos c4, p1, p2, r2, r3]
   by_cases c3 : Int.tmod ((m : Int) + 1) 2 = 0
   ·rw [if_pos c3]
    exact ⟨_, _, _, rfl, ⟨k1.1, k1.2, z0, z1⟩, a0, a1⟩
   ·rw [if_neg c3]
    exact ⟨_, _, _, rfl, ⟨k1.1, k1.2, z0, z1⟩, b0, b1⟩
  ·simp only [if_pos c2, if_pos g1, if_neg c4, p1, p2, r2, r3]
   exact ⟨_, _, _, rfl, ⟨k1.1, k1.2, z0, z1⟩, b0, b1⟩
 ·rw [if_neg c2]
  obtain ⟨b0, b1⟩ := tm_bd (x := q) (n := n) (by omega) (by omega)
  exact ⟨_, _, _, rfl, ⟨g1, g2, z0, z1⟩, b0, b1⟩
theorem pick_ok {L : List Int} (hL : By L) {p z : Int} (g : Gd L p z) (l : List Int) (h1 : 1 ≤ l.length) (h2 : l.length ≤ 256) : ∃ v p' z' : Int, spec_l01Pick.f L p z l = some (v, p', z') ∧ Gd L p' z' := by
 obtain ⟨v, p', z', e, g', v0, v1⟩ := next_ok hL g (l.length : Int) (by omega) (by omega)
 refine ⟨rd l v, p', z', ?_, g'⟩
 unfold spec_l01Pick.f
 rw [e, Option.bind_some, if_pos v0, if_pos v1]
theorem from_ev {L : List Int} (hL : By L) : ∃ z, Ev (fun k => spec_l01From.f k L) (L, 0, z) ∧ Gd L 0 z := by
 have loop : ∀ (d i : Nat) (z : Int), i + d = 64 → 0 ≤ z → z < 2147483647 → ∃ z', Ev (fun k => spec_l01From.l0 k L (i : Int) L 0 z) (L, 0, z') ∧ Gd L 0 z' := by
  intro d
  induction d with
  | zero =>
   intro i z hi h0 h1
   refine ⟨z, Ev.dn ?_, by omega, by omega, h0, h1⟩
   simp only [spec_l01From.l0, if_neg (show ¬ (i : Int) < 64 by omega), ite_self]
   exact Ev.now _
  | succ d ih =>
   intro i z hi h0 h1
   by_cases c : (i : Int) < (L.length : Int)
   ·obtain ⟨r0, r1⟩ := hL.2 i (by omega)
    have w1 : wrap64 (z * 83) = z * 83 := wrap_id (by clear ih; omega) (by clear ih; omega)
    have w2 : wrap64 (rd L (i : Int)) = rd L (i : Int) := wrap_id (by clear ih; omega) (by clear ih; omega)
    have w3 : wrap64 (z * 83 + rd L (i : Int)) = z * 83 + rd L (i : Int) := wrap_id (by clear ih; omega) (by clear ih; omega)
    obtain ⟨z0, z1⟩ := tm_bd (x := z * 83 + rd L (i : Int)) (n := 2147483647) (by clear ih; omega) (by decide)
    obtain ⟨z', h2, h3⟩ := ih (i + 1) _ (by clear ih; omega) z0 z1
    refine ⟨z', Ev.dn ?_, h3⟩
    have hw := wrap_succ (i := i) (n := 64) (by clear ih; omega) (by omega)
    simp only [spec_l01From.l0, if_pos c, if_pos (show (i : Int) < 64 by clear ih; omega), if_pos (show (0 : Int) ≤ (i : Int) by clear ih; omega), w1, w2, w3, hw]
    exact h2
   ·refine ⟨z, Ev.dn ?_, by omega, by omega, h0, h1⟩
    simp only [spec_l01From.l0, if_neg c]
    exact Ev.now _
 unfold spec_l01From.f
 exact loop 64 0 61043 (by omega) (by omega) (by omega)
theorem good15_ok {L : List Int} (hL : By L) {p z : Int} (g : Gd L p z) : ∃ a b c d e p' z' : Int, spec_l15Good.f L p z = some (a, b, c, d, e, p', z') ∧ Gd L p' z' := by
 obtain ⟨v1, p1, z1, e1, g1, _, _⟩ := next_ok hL g 4 (by omega) (by omega)
 obtain ⟨v2, p2, z2, e2, g2, _, _⟩ := next_ok hL g1 2000 (by omega) (by omega)
 obtain ⟨v3, p3, z3, e3, g3, _, _⟩ := next_ok hL g2 2000 (by omega) (by omega)
 obtain ⟨v4, p4, z4, e4, g4, _, _⟩ := next_ok hL g3 400 (by omega) (by omega)
 obtain ⟨v5, p5, z5, e5, g5, _, _⟩ := next_ok hL g4 400 (by omega) (by omega)
 refine ⟨v1, v2, v3, wrap64 (1 + v4), wrap64 (1 + v5), p5, z5, ?_, g5⟩
 simp only [spec_l15Good.f, e1, e2, e3, e4, e5, Option.bind_some]
theorem draw15_ok {L : List Int} (hL : By L) {p z : Int} (g : Gd L p z) : ∃ a b c d e p' z' : Int, spec_l15Draw.f L p z = some (a, b, c, d, e, p', z') ∧ Gd L p' z' := by
 obtain ⟨a, b, c, d, e, p1, z1, e1, g1⟩ := good15_ok hL g
 obtain ⟨v, p2, z2, e2, g2, _, _⟩ := next_ok hL g1 60 (by omega) (by omega)
 by_cases c0 : v = 0
 ·obtain ⟨u, p3, z3, e3, g3⟩ := pick_ok hL g2 [(-1), 4] (by decide) (by decide)
  refine ⟨u, b, c, d, e, p3, z3, ?_, g3⟩
  simp only [spec_l15Draw.f, e1, e2, Option.bind_some, if_pos c0, e3]
 by_cases c1 : v = 1
 ·obtain ⟨u, p3, z3, e3, g3⟩ := pick_ok hL g2 [0, wrap64 (100000 - b), wrap64 ((wrap64 (100000 - b)) + 1)] (by simp) (by simp)
  refine ⟨a, b, c, u, e, p3, z3, ?_, g3⟩
  simp only [spec_l15Draw.f, e1, e2, Option.bind_some, if_neg c0, if_pos c1, e3]
 by_cases c2 : v = 2
 ·obtain ⟨u, p3, z3, e3, g3⟩ := pick_ok hL g2 [(-1), 0, 100000] (by decide) (by decide)
  refine ⟨a, b, u, d, e, p3, z3, ?_, g3⟩
  simp only [spec_l15Draw.f, e1, e2, Option.bind_some, if_neg c0, if_neg c1, if_pos c2, e3]
 ·refine ⟨a, b, c, d, e, p2, z2, ?_, g2⟩
  simp only [spec_l15Draw.f, e1, e2, Option.bind_some, if_neg c0, if_neg c1, if_neg c2]
theorem site15_l1 {L : List Int} (hL : By L) : ∀ (d : Nat) (x : List S103) (p z : Int), Gd L p z → 11 ≤ x.length + d → x.length ≤ 90 → ∃ (xs : List S103) (p' z' : Int), Ev (fun k => spec_l15Site.l1 k x L p z) (xs, p', z') ∧ Gd L p' z' ∧ xs.length ≤ 100 := by
 intro d
 induction d with
 | zero =>
  intro x p z g hd hx
  obtain ⟨v, p1, z1, e1, g1, v0, v1⟩ := next_ok hL g 2 (by omega) (by omega)
  have w : wrap64 (10 + v) = 10 + v := wrap_id (by omega) (by omega)
  refine ⟨x, p1, z1, Ev.dn ?_, g1, by omega⟩
  simp only [spec_l15Site.l1, e1, Option.bind_some, w, if_neg (show ¬ (x.length : Int) < 10 + v by omega)]
  exact Ev.now _
 | succ d ih =>
  intro x p z g hd hx
  obtain ⟨v, p1, z1, e1, g1, v0, v1⟩ := next_ok hL g 2 (by omega) (by omega)
  have w : wrap64 (10 + v) = 10 + v := wrap_id (by omega) (by omega)
  by_cases c : (x.length : Int) < 10 + v
  ·obtain ⟨a, b, c3, d4, e5, p2, z2, e2, g2⟩ := good15_ok hL g1
   obtain ⟨xs, p3, z3, h, g3, hn⟩ := ih (x ++ [(⟨a, b, c3, d4, e5⟩ : S103)]) p2 z2 g2 (by rw [List.length_append, List.length_singleton]; omega) (by rw [List.length_append, List.length_singleton]; omega)
   refine ⟨xs, p3, z3, Ev.dn ?_, g3, hn⟩
   simp only [spec_l15Site.l1, e1, Option.bind_some, w, if_pos c, e2, if_pos (show x.length < 3518437208883 by omega)]
   exact h
  ·refine ⟨x, p1, z1, Ev.dn ?_, g1, by omega⟩
   simp only [spec_l15Site.l1, e1, Option.bind_some, w, if_neg c]
   exact Ev.now _
theorem site15_l0 {L : List Int} (hL : By L) : ∀ (c : Nat) (x : List S103) (p z : Int), Gd L p z → x.length + c ≤ 50 → ∃ (xs : List S103) (p' z' : Int), Ev (fun k => spec_l15Site.l0 k x (c : Int) L p z) (xs, p', z') ∧ Gd L p' z' ∧ xs.length ≤ 100 := by
 intro c
 induction c with
 | zero =>
  intro x p z g hx
  obtain ⟨v, p1, z1, e1, g1, _, _⟩ := next_ok hL g 30 (by omega) (by omega)
  by_cases c : v = 0
  ·obtain ⟨xs, p2, z2, h, g2, hn⟩ := site15_l1 hL 11 x p1 z1 g1 (by omega) (by omega)
   refine ⟨xs, p2, z2, Ev.dn ?_, g2, hn⟩
   simp only [spec_l15Site.l0, if_neg (show ¬ ((0 : Nat) : Int) > 0 by decide), e1, Option.bind_some, if_pos c]
   exact h
  ·refine ⟨x, p1, z1, Ev.dn ?_, g1, by omega⟩
   simp only [spec_l15Site.l0, if_neg (show ¬ ((0 : Nat) : Int) > 0 by decide), e1, Option.bind_some, if_neg c]
   exact Ev.now _
 | succ c ih =>
  intro x p z g hx
  obtain ⟨a, b, c3, d4, e5, p2, z2, e2, g2⟩ := draw15_ok hL g
  have w : wrap64 (((c + 1 : Nat) : Int) - 1) = (c : Int) := by rw [wrap_id (by omega) (by omega)]; omega
  obtain ⟨xs, p3, z3, h, g3, hn⟩ := ih (x ++ [(⟨a, b, c3, d4, e5⟩ : S103)]) p2 z2 g2 (by rw [List.length_append, List.length_singleton]; omega)
  refine ⟨xs, p3, z3, Ev.dn ?_, g3, hn⟩
  simp only [spec_l15Site.l0, if_pos (show ((c + 1 : Nat) : Int) > 0 by omega), e2, Option.bind_some, w, if_pos (show x.length < 3518437208883 by omega)]
  exact h
theorem site15_ok {L : List Int} (hL : By L) {p z : Int} (g : Gd L p z) : ∃ (xs : List S103) (p' z' : Int), Ev (fun k => spec_l15Site.f k L p z) (xs, p', z') ∧ Gd L p' z' ∧ xs.length ≤ 100 := by
 obtain ⟨v, p1, z1, e1, g1, v0, v1⟩ := next_ok hL g 6 (by omega) (by omega)
 obtain ⟨c, rfl⟩ : ∃ c : Nat, v = (c : Int) := ⟨v.toNat, by omega⟩
 obtain ⟨xs, p2, z2, h, g2, hn⟩ := site15_l0 hL c [] p1 z1 g1 (by simp; omega)
 refine ⟨xs, p2, z2, ?_, g2, hn⟩
 simp only [spec_l15Site.f, e1, Option.bind_some]
 exact h
theorem good16_l1 {L : List Int} (hL : By L) (i B : Nat) (hB : B ≤ 50) (hk : ∀ (x : List S98) (p z : Int), Gd L p z → x.length ≤ B → ∃ (xs : List S98) (p' z' : Int), Ev (fun k => spec_l16Good.l0 k x (wrap64 ((i : Int) + 1)) L p z) (xs, p', z') ∧ Gd L p' z' ∧ xs.length ≤ 50) :
  ∀ (c : Nat) (x : List S98) (t u p z : Int), Gd L p z → x.length + c ≤ B → ∃ (xs : List S98) (p' z' : Int), Ev (fun k => spec_l16Good.l1 k x (i : Int) t u (c : Int) L p z) (xs, p', z') ∧ Gd L p' z' ∧ xs.length ≤ 50 := by
 have no : ∀ (x : List S98) (t u y p z : Int), Gd L p z → x.length ≤ B → ∃ (xs : List S98) (p' z' : Int), Ev (fun k => spec_l16Good.j2 k x (i : Int) t u y false L p z) (xs, p', z') ∧ Gd L p' z' ∧ xs.length ≤ 50 := by
  intro x t u y p z g hx
  obtain ⟨xs, p1, z1, h, r⟩ := hk x p z g hx
  refine ⟨xs, p1, z1, Ev.dn ?_, r⟩
  simp only [spec_l16Good.j2, Bool.false_eq_true, if_false]
  exact h
 intro c
 induction c with
 | zero =>
  intro x t u p z g hx
  obtain ⟨xs, p1, z1, h, r⟩ := no x t u 0 p z g (by omega)
  refine ⟨xs, p1, z1, Ev.dn ?_, r⟩
  simp only [spec_l16Good.l1, if_neg (show ¬ ((0 : Nat) : Int) > 0 by decide)]
  exact h
 | succ c ih =>
  intro x t u p z g hx
  by_cases ct : t < 300
  ·obtain ⟨v1, p1, z1, e1, g1, _, _⟩ := next_ok hL g 120 (by omega) (by omega)
   obtain ⟨v2, p2, z2, e2, g2⟩ := pick_ok hL g1 [30, 55, wrap64 (1 + v1), 280] (by simp) (by simp)
   obtain ⟨v3, p3, z3, e3, g3, _, _⟩ := next_ok hL g2 300 (by omega) (by omega)
   have w : wrap64 (((c + 1 : Nat) : Int) - 1) = (c : Int) := by rw [wrap_id (by omega) (by omega)]; omega
   obtain ⟨xs, p4, z4, h, r⟩ := ih (x ++ [(⟨(i : Int), mn 300 (wrap64 (t + v2)), wrap64 (u + v3)⟩ : S98)]) (mn 300 (wrap64 (t + v2))) (wrap64 (u + v3)) p3 z3 g3 (by rw [List.length_append, List.length_singleton]; omega)
   refine ⟨xs, p4, z4, Ev.dn (Ev.dn ?_), r⟩
   simp only [spec_l16Good.l1, if_pos (show ((c + 1 : Nat) : Int) > 0 by omega), decide_eq_true ct, spec_l16Good.j2, if_true, e1, e2, e3, Option.bind_some, w, if_pos (show x.length < 5864062014805 by omega)]
   exact h
  ·obtain ⟨xs, p1, z1, h, r⟩ := no x t u ((c + 1 : Nat) : Int) p z g (by omega)
   refine ⟨xs, p1, z1, Ev.dn ?_, r⟩
   simp only [spec_l16Good.l1, if_pos (show ((c + 1 : Nat) : Int) > 0 by omega), decide_eq_false ct]
   exact h
theorem good16_l0 {L : List Int} (hL : By L) : ∀ (d i : Nat) (x : List S98) (p z : Int), i + d = 4 → Gd L p z → x.length ≤ 3 * i → ∃ (xs : List S98) (p' z' : Int), Ev (fun k => spec_l16Good.l0 k x (i : Int) L p z) (xs, p', z') ∧ Gd L p' z' ∧ xs.length ≤ 50 := by
 intro d
 induction d with
 | zero =>
  intro i x p z hi g hx
  refine ⟨x, p, z, Ev.dn ?_, g, by omega⟩
  simp only [spec_l16Good.l0, if_neg (show ¬ (i : Int) < 4 by omega)]
  exact Ev.now _
 | succ d ih =>
  intro i x p z hi g hx
  obtain ⟨v, p1, z1, e1, g1, v0, v1⟩ := next_ok hL g 4 (by omega) (by omega)
  obtain ⟨c, rfl⟩ : ∃ c : Nat, v = (c : Int) := ⟨v.toNat, by omega⟩
  have w : wrap64 ((i : Int) + 1) = ((i + 1 : Nat) : Int) := wrap_succ (show i < 4 by omega) (by omega)
  obtain ⟨xs, p2, z2, h, r⟩ := good16_l1 hL i (3 * (i + 1)) (by omega) (fun x p z g hx => by rw [w]; exact ih (i + 1) x p z (by omega) g hx) c x 20 0 p1 z1 g1 (by omega)
  refine ⟨xs, p2, z2, Ev.dn ?_, r⟩
  simp only [spec_l16Good.l0, if_pos (show (i : Int) < 4 by omega), e1, Option.bind_some]
  exact h
theorem good16_ok {L : List Int} (hL : By L) {p z : Int} (g : Gd L p z) : ∃ (xs : List S98) (p' z' : Int), Ev (fun k => spec_l16Good.f k L p z) (xs, p', z') ∧ Gd L p' z' ∧ xs.length ≤ 50 := good16_l0 hL 4 0 [] p z rfl g (by simp)
theorem draw16_ok {L : List Int} (hL : By L) {p z : Int} (g : Gd L p z) : ∃ (xs : List S98) (p' z' : Int), Ev (fun k => spec_l16Draw.f k L p z) (xs, p', z') ∧ Gd L p' z' ∧ xs.length ≤ 100 := by
 obtain ⟨x, p1, z1, h1, g1, hn⟩ := good16_ok hL g
 unfold spec_l16Draw.f
 by_cases c : (x.length : Int) > 0
 ·obtain ⟨v, p2, z2, e2, g2, v0, v1⟩ := next_ok hL g1 (x.length : Int) (by omega) (by omega)
  obtain ⟨u, p3, z3, e3, g3, _, _⟩ := next_ok hL g2 30 (by omega) (by omega)
  by_cases c0 : u = 0
  ·obtain ⟨q, p4, z4, e4, g4⟩ := pick_ok hL g3 [(-1), 0, 10000, 10001] (by decide) (by decide)
   refine ⟨_, p4, z4, Ev.bind h1 (?_ : Ev _ (x.set v.toNat (⟨(rd_T98 x v).f0, (rd_T98 x v).f1, q⟩ : S98), p4, z4)), g4, by rw [List.length_set]; omega⟩
   simp only [if_pos c, e2, e3, e4, Option.bind_some, if_pos c0, if_pos v0, if_pos v1]
   exact Ev.now _
  by_cases c1 : u = 1
  ·obtain ⟨q, p4, z4, e4, g4⟩ := pick_ok hL g3 [19, 20, 300, 301] (by decide) (by decide)
   refine ⟨_, p4, z4, Ev.bind h1 (?_ : Ev _ (x.set v.toNat (⟨(rd_T98 x v).f0, q, (rd_T98 x v).f2⟩ : S98), p4, z4)), g4, by rw [List.length_set]; omega⟩
   simp only [if_pos c, e2, e3, e4, Option.bind_some, if_neg c0, if_pos c1, if_pos v0, if_pos v1]
   exact Ev.now _
  by_cases c2 : u = 2
  ·refine ⟨_, p3, z3, Ev.bind h1 (?_ : Ev _ (x ++ [(⟨(rd_T98 x v).f0, (rd_T98 x v).f1, (rd_T98 x v).f2⟩ : S98)], p3, z3)), g3, by rw [List.length_append, List.length_singleton]; omega⟩
   simp only [if_pos c, e2, e3, Option.bind_some, if_neg c0, if_neg c1, if_pos c2, if_pos v0, if_pos v1, if_pos (show x.length < 5864062014805 by omega)]
   exact Ev.now _
  ·refine ⟨x, p3, z3, Ev.bind h1 ?_, g3, by omega⟩
   simp only [if_pos c, e2, e3, Option.bind_some, if_neg c0, if_neg c1, if_neg c2]
   exact Ev.now _
 ·refine ⟨x, p1, z1, Ev.bind h1 ?_, g1, by omega⟩
  simp only [if_neg c]
  exact Ev.now _
def FQ (L : List Int) (f : Nat → Option (List S98 × List S103 × List Int × List Int × List Int × Int × Int × Int)) : Prop :=
 ∃ (T : List S98) (S : List S103) (C X Y : List Int) (g p z : Int), Ev f (T, S, C, X, Y, g, p, z) ∧ T.length ≤ 100 ∧ S.length ≤ 100 ∧ C.length ≤ 100 ∧ X.length ≤ 100 ∧ Y.length ≤ 100 ∧ 1 ≤ X.length ∧ Gd L p z
theorem FQ.dn {L : List Int} {f : Nat → Option (List S98 × List S103 × List Int × List Int × List Int × Int × Int × Int)} (h : FQ L (fun k => f (k + 1))) : FQ L f := by
 obtain ⟨T, S, C, X, Y, g, p, z, e, r⟩ := h
 exact ⟨T, S, C, X, Y, g, p, z, Ev.dn e, r⟩
theorem FQ.now {L : List Int} {T : List S98} {S : List S103} {C X Y : List Int} {g p z : Int} (h1 : T.length ≤ 100) (h2 : S.length ≤ 100) (h3 : C.length ≤ 100) (h4 : X.length ≤ 100) (h5 : Y.length ≤ 100) (h7 : 1 ≤ X.length) (h6 : Gd L p z) : FQ L (fun _ => some (T, S, C, X, Y, g, p, z)) := ⟨T, S, C, X, Y, g, p, z, Ev.now _, h1, h2, h3, h4, h5, h7, h6⟩
theorem FQ.bind {α : Type} {L : List Int} {f : Nat → Option α} {r : α} {q : Nat → α → Option (List S98 × List S103 × List Int × List Int × List Int × Int × Int × Int)} (h : Ev f r) (k : FQ L (fun n => q n r)) : FQ L (fun n => (f n).bind (q n)) := by
 obtain ⟨T, S, C, X, Y, g, p, z, e, r⟩ := k
 exact ⟨T, S, C, X, Y, g, p, z, Ev.bind h e, r⟩
theorem draw18_l2 {L : List Int} (hL : By L) (T : List S98) (S : List S103) (C : List Int) (w : Int) (hT : T.length ≤ 50) (hS : S.length ≤ 50) (hC : C.length ≤ 50) : ∀ (c : Nat) (X Y : List Int) (p z : Int), Gd L p z → 1 ≤ X.length + c → X.length + c ≤ 50 → Y.length + c ≤ 50 → FQ L (fun k => spec_l18Draw.l2 k (c : Int) L p z T S C X Y w) := by
 intro c
 induction c with
 | zero =>
  intro X Y p z g hx1 hX hY
  obtain ⟨v, p1, z1, e1, g1, _, _⟩ := next_ok hL g 40 (by omega) (by omega)
  refine FQ.dn ?_
  simp only [spec_l18Draw.l2, if_neg (show ¬ ((0 : Nat) : Int) > 0 by decide), e1, Option.bind_some]
  by_cases c0 : v = 0
  ·simp only [if_pos c0]
   obtain ⟨x, p2, z2, h, g2, hn⟩ := draw16_ok hL g1
   exact FQ.bind h (FQ.now hn (by omega) (by omega) (by omega) (by omega) (by omega) g2)
  simp only [if_neg c0]
  by_cases c1 : v = 1
  ·simp only [if_pos c1]
   obtain ⟨x, p2, z2, h, g2, hn⟩ := site15_ok hL g1
   exact FQ.bind h (FQ.now (by omega) hn (by omega) (by omega) (by omega) (by omega) g2)
  simp only [if_neg c1]
  by_cases c2 : v = 2
  ·obtain ⟨q, p4, z4, e4, g4⟩ := pick_ok hL g1 [(-1), 10000, 10001] (by decide) (by decide)
   simp only [if_pos c2, e4, Option.bind_some]
   exact FQ.now (by omega) (by omega) (by omega) (by omega) (by omega) (by omega) g4
  simp only [if_neg c2]
  by_cases c3 : v = 3
  ·obtain ⟨q, p4, z4, e4, g4⟩ := pick_ok hL g1 [19, 20, 300, 301] (by decide) (by decide)
   simp only [if_pos c3, e4, Option.bind_some]
   exact FQ.now (by omega) (by omega) (by simp) (by omega) (by omega) (by omega) g4
  simp only [if_neg c3]
  by_cases c4 : v = 4
  ·simp only [if_pos c4, if_pos (show X.length < 17592186044416 by omega)]
   exact FQ.now (by omega) (by omega) (by omega) (by rw [List.length_append, List.length_singleton]; omega) (by omega) (by rw [List.length_append, List.length_singleton]; omega) g1
  simp only [if_neg c4]
  by_cases c5 : v = 5
  ·obtain ⟨q, p4, z4, e4, g4, q0, q1⟩ := next_ok hL g1 2 (by omega) (by omega)
   have hw : wrap64 (4 + q) = 4 + q := wrap_id (by omega) (by omega)
   simp only [if_pos c5, e4, Option.bind_some, hw, if_pos (show 0 ≤ 4 + q by omega)]
   rw [show (((([50, 50, 50, 50, 50] : List Int).length : Nat)) : Int) = 5 from rfl]
   simp only [if_pos (show 4 + q ≤ 5 by omega)]
   exact FQ.now (by omega) (by omega) (by rw [List.length_take]; simp; omega) (by omega) (by omega) (by omega) g4
  ·simp only [if_neg c5]
   exact FQ.now (by omega) (by omega) (by omega) (by omega) (by omega) (by omega) g1
 | succ c ih =>
  intro X Y p z g hx1 hX hY
  obtain ⟨v1, p1, z1, e1, g1, _, _⟩ := next_ok hL g 2400 (by omega) (by omega)
  obtain ⟨v2, p2, z2, e2, g2, _, _⟩ := next_ok hL g1 2400 (by omega) (by omega)
  have hw : wrap64 (((c + 1 : Nat) : Int) - 1) = (c : Int) := by rw [wrap_id (by omega) (by omega)]; omega
  refine FQ.dn ?_
  simp only [spec_l18Draw.l2, if_pos (show ((c + 1 : Nat) : Int) > 0 by omega), e1, e2, Option.bind_some, hw, if_pos (show X.length < 17592186044416 by omega), if_pos (show Y.length < 17592186044416 by omega)]
  exact ih (X ++ [v1]) (Y ++ [v2]) p2 z2 g2 (by rw [List.length_append, List.length_singleton]; omega) (by rw [List.length_append, List.length_singleton]; omega) (by rw [List.length_append, List.length_singleton]; omega)
theorem draw18_l1 {L : List Int} (hL : By L) (T : List S98) (S : List S103) (w : Int) (hT : T.length ≤ 50) (hS : S.length ≤ 50) : ∀ (c : Nat) (C : List Int) (p z : Int), Gd L p z → C.length + c ≤ 50 → FQ L (fun k => spec_l18Draw.l1 k (c : Int) L p z T S C [] [] w) := by
 intro c
 induction c with
 | zero =>
  intro C p z g hC
  obtain ⟨v, p1, z1, e1, g1, v0, v1⟩ := next_ok hL g 5 (by omega) (by omega)
  obtain ⟨n, rfl⟩ : ∃ n : Nat, v = (n : Int) := ⟨v.toNat, by omega⟩
  have hw : wrap64 (2 + (n : Int)) = ((2 + n : Nat) : Int) := by rw [wrap_id (by omega) (by omega)]; omega
  refine FQ.dn ?_
  simp only [spec_l18Draw.l1, if_neg (show ¬ ((0 : Nat) : Int) > 0 by decide), e1, Option.bind_some, hw]
  exact draw18_l2 hL T S C w hT hS (by omega) (2 + n) [] [] p1 z1 g1 (by simp; omega) (by simp; omega) (by simp; omega)
 | succ c ih =>
  intro C p z g hC
  obtain ⟨v1, p1, z1, e1, g1⟩ := pick_ok hL g [50, 75, 100, 150] (by decide) (by decide)
  have hw : wrap64 (((c + 1 : Nat) : Int) - 1) = (c : Int) := by rw [wrap_id (by omega) (by omega)]; omega
  refine FQ.dn ?_
  simp only [spec_l18Draw.l1, if_pos (show ((c + 1 : Nat) : Int) > 0 by omega), e1, Option.bind_some, hw, if_pos (show C.length < 17592186044416 by omega)]
  exact ih (C ++ [v1]) p1 z1 g1 (by rw [List.length_append, List.length_singleton]; omega)
theorem draw18_l0 {L : List Int} (hL : By L) (T : List S98) (w : Int) (hT : T.length ≤ 50) : ∀ (c : Nat) (S : List S103) (p z : Int), Gd L p z → S.length + c ≤ 50 → FQ L (fun k => spec_l18Draw.l0 k (c : Int) L p z T S [] [] [] w) := by
 intro c
 induction c with
 | zero =>
  intro S p z g hS
  obtain ⟨v, p1, z1, e1, g1, v0, v1⟩ := next_ok hL g 4 (by omega) (by omega)
  obtain ⟨n, rfl⟩ : ∃ n : Nat, v = (n : Int) := ⟨v.toNat, by omega⟩
  refine FQ.dn ?_
  simp only [spec_l18Draw.l0, if_neg (show ¬ ((0 : Nat) : Int) > 0 by decide), e1, Option.bind_some]
  exact draw18_l1 hL T S w hT (by omega) n [] p1 z1 g1 (by simp; omega)
 | succ c ih =>
  intro S p z g hS
  obtain ⟨a, b, c3, d4, e5, p2, z2, e2, g2⟩ := good15_ok hL g
  have hw : wrap64 (((c + 1 : Nat) : Int) - 1) = (c : Int) := by rw [wrap_id (by omega) (by omega)]; omega
  refine FQ.dn ?_
  simp only [spec_l18Draw.l0, if_pos (show ((c + 1 : Nat) : Int) > 0 by omega), e2, Option.bind_some, hw, if_pos (show S.length < 3518437208883 by omega)]
  exact ih (S ++ [(⟨a, b, c3, d4, e5⟩ : S103)]) p2 z2 g2 (by rw [List.length_append, List.length_singleton]; omega)
theorem draw18_ok {L : List Int} (hL : By L) {p z : Int} (g : Gd L p z) : FQ L (fun k => spec_l18Draw.f k L p z) := by
 obtain ⟨T, p1, z1, h1, g1, hT⟩ := good16_ok hL g
 obtain ⟨v1, p2, z2, e2, g2, _, _⟩ := next_ok hL g1 900 (by omega) (by omega)
 obtain ⟨v2, p3, z3, e3, g3, _, _⟩ := next_ok hL g2 200 (by omega) (by omega)
 obtain ⟨w, p4, z4, e4, g4⟩ := pick_ok hL g3 [0, v1, v2] (by simp) (by simp)
 obtain ⟨v, p5, z5, e5, g5, q0, q1⟩ := next_ok hL g4 4 (by omega) (by omega)
 obtain ⟨n, rfl⟩ : ∃ n : Nat, v = (n : Int) := ⟨v.toNat, by omega⟩
 unfold spec_l18Draw.f
 refine FQ.bind h1 ?_
 simp only [e2, e3, e4, e5, Option.bind_some]
 exact draw18_l0 hL T w hT n [] p5 z5 g5 (by simp; omega)
theorem likeInts_refl (l : List Int) (hn : l.length ≤ 1000000) : Ev (fun k => laws_likeInts.f k l l) true := by
 unfold laws_likeInts.f
 simp only [if_true]
 have h := Ev.allLoop (l := fun k j => laws_likeInts.l0 k l l j) (n := l.length) (fun _ => true) false true
  (fun j hj => Evt.all fun k => by
   simp only [laws_likeInts.l0]
   rw [if_pos (by omega), if_pos (by omega), if_pos (by omega), wrap_succ hj (by omega)])
  (Evt.all fun k => by
   simp only [laws_likeInts.l0]
   rw [if_neg (by omega)]) l.length 0 (by omega)
 refine Ev.eq h ?_
 rw [(allD_iff _ _ _).2 (fun _ _ _ => rfl)]
 rfl
def okS (C X l : List Int) : Bool := decide (l.length = C.length) && allIn l 0 ((X.length : Int) - 1)
def ipR (T : List S98) (S : List S103) (C X Y : List Int) (g : Int) (l : List Int) : Bool × Int := if fldOk T S C X Y g = true then (if okS C X l = true then (isP T S C X Y g l, 0) else (false, 2)) else (false, 1)
def coR (T : List S98) (S : List S103) (C X Y : List Int) (g : Int) (l : List Int) : Int × Int := if fldOk T S C X Y g = true then (if okS C X l = true then (if isP T S C X Y g l = true then (cst X Y l, 0) else (0, 5)) else (0, 2)) else (0, 1)
def cnR (T : List S98) (S : List S103) (C X Y : List Int) (g : Int) : Int × Int := if fldOk T S C X Y g = true then (((plD T S C X Y g C.length []).length : Int), 0) else (0, 1)
theorem okS_iff (C X l : List Int) : okS C X l = true ↔ l.length = C.length ∧ inX X l := by
 unfold okS inX
 rw [Bool.and_eq_true, decide_eq_true_eq, allIn_iff]
 constructor
 ·rintro ⟨h1, h2⟩
  exact ⟨h1, fun j hj => by have := h2 j hj; omega⟩
 ·rintro ⟨h1, h2⟩
  exact ⟨h1, fun j hj => by have := h2 j hj; omega⟩
theorem IsPlacing_is (T : List S98) (S : List S103) (C X Y : List Int) (g : Int) (l : List Int) (h1 : T.length ≤ 1000000) (h2 : S.length ≤ 1000000) (h3 : C.length ≤ 1000000) (h4 : X.length ≤ 1000000) (h5 : Y.length ≤ 1000000) (hn : l.length ≤ 1000000) :
  ∃ r : Bool × Int, Ev (fun k => spec_IsPlacing.f k T S C X Y g l) r ∧ Ev (fun k => impl_IsPlacing.f k T S C X Y g l) r ∧ r = ipR T S C X Y g l := by
 have hs := spec_code_ev T S C X Y g l h1 h2 h3 h4 h5 hn
 have hi := impl_IsField_ev T S C X Y g h1 h2 h3 h4 h5
 have ha := impl_areSpots_ev T S C X Y g l h4 hn
 unfold spec_IsPlacing.f impl_IsPlacing.f
 unfold spcd at hs
 cases c : fldOk T S C X Y g with
 | false =>
  simp only [c, Bool.false_eq_true, if_false] at hs hi
  refine ⟨(false, 1), Ev.bind hs ?_, Ev.bind hi ?_, by simp [ipR, c]⟩
  ·simp only [if_neg (show ¬ ((1 : Int) = 0) by decide)]; exact Ev.now _
  ·simp only [Bool.false_eq_true, if_false]; exact Ev.now _
 | true =>
  simp only [c, if_true] at hs hi
  obtain ⟨_, _, l3, l4, e⟩ := fldOk_len c
  obtain ⟨hX, hY⟩ := fldOk_xy c
  cases q : decide (l.length = C.length) && allIn l 0 ((X.length : Int) - 1) with
  | false =>
   simp only [q, Bool.false_eq_true, if_false] at hs ha
   refine ⟨(false, 2), Ev.bind hs ?_, Ev.bind hi ?_, by unfold ipR okS; rw [if_pos c, q]; rfl⟩
   ·simp only [if_neg (show ¬ ((2 : Int) = 0) by decide)]; exact Ev.now _
   ·simp only [if_true]
    refine Ev.bind ha ?_
    simp only [Bool.false_eq_true, if_false]; exact Ev.now _
  | true =>
   simp only [q, if_true] at hs ha
   have q0 := q
   rw [Bool.and_eq_true, decide_eq_true_eq] at q
   obtain ⟨q1, q2⟩ := q
   have hin : ∀ j : Nat, j < l.length → 0 ≤ rd l (j : Int) ∧ rd l (j : Int) < (X.length : Int) := fun j hj => by
    have := (allIn_iff l 0 ((X.length : Int) - 1)).1 q2 j hj
    omega
   refine ⟨(allD (okI T S C X Y g l) 0 l.length, 0), Ev.bind hs ?_, Ev.bind hi ?_, by unfold ipR okS; rw [if_pos c, q0]; rfl⟩
   ·simp only [if_true]
    exact Ev.bind (spec_is_ev T S C X Y g l h1 h2 h3 h4 e q1 hin) (Ev.now _)
   ·simp only [if_true]
    refine Ev.bind ha ?_
    simp only [if_true]
    exact Ev.bind (impl_is_ev T S C X Y g l h1 h2 hX hY e q1 hn hin) (Ev.now _)
theorem CostOf_is (T : List S98) (S : List S103) (C X Y : List Int) (g : Int) (l : List Int) (h1 : T.length ≤ 1000000) (h2 : S.length ≤ 1000000) (h3 : C.length ≤ 1000000) (h4 : X.length ≤ 1000000) (h5 : Y.length ≤ 1000000) (hn : l.length ≤ 1000000) :
  ∃ r : Int × Int, Ev (fun k => spec_CostOf.f k T S C X Y g l) r ∧ Ev (fun k => impl_CostOf.f k T S C X Y g l) r ∧ r = coR T S C X Y g l := by
 have hs := spec_code_ev T S C X Y g l h1 h2 h3 h4 h5 hn
 have hi := impl_IsField_ev T S C X Y g h1 h2 h3 h4 h5
 have ha := impl_areSpots_ev T S C X Y g l h4 hn
 unfold spec_CostOf.f impl_CostOf.f
 unfold spcd at hs
 cases c : fldOk T S C X Y g with
 | false =>
  simp only [c, Bool.false_eq_true, if_false] at hs hi
  refine ⟨(0, 1), Ev.bind hs ?_, Ev.bind hi ?_, by simp [coR, c]⟩
  ·simp only [if_neg (show ¬ ((1 : Int) = 0) by decide)]
   refine Ev.dn ?_
   simp only [spec_CostOf.j0, Bool.false_eq_true, if_false, if_neg (show ¬ ((1 : Int) = 0) by decide)]
   exact Ev.now _
  ·simp only [Bool.false_eq_true, if_false]; exact Ev.now _
 | true =>
  simp only [c, if_true] at hs hi
  obtain ⟨_, _, l3, l4, e⟩ := fldOk_len c
  obtain ⟨hX, hY⟩ := fldOk_xy c
  cases q : decide (l.length = C.length) && allIn l 0 ((X.length : Int) - 1) with
  | false =>
   simp only [q, Bool.false_eq_true, if_false] at hs ha
   refine ⟨(0, 2), Ev.bind hs ?_, Ev.bind hi ?_, by unfold coR okS; rw [if_pos c, q]; rfl⟩
   ·simp only [if_neg (show ¬ ((2 : Int) = 0) by decide)]
    refine Ev.dn ?_
    simp only [spec_CostOf.j0, Bool.false_eq_true, if_false, if_neg (show ¬ ((2 : Int) = 0) by decide)]
    exact Ev.now _
   ·simp only [if_true]
    refine Ev.bind ha ?_
    simp only [Bool.false_eq_true, if_false]; exact Ev.now _
  | true =>
   simp only [q, if_true] at hs ha
   have q0 := q
   rw [Bool.and_eq_true, decide_eq_true_eq] at q
   obtain ⟨q1, q2⟩ := q
   have hin : ∀ j : Nat, j < l.length → 0 ≤ rd l (j : Int) ∧ rd l (j : Int) < (X.length : Int) := fun j hj => by
    have := (allIn_iff l 0 ((X.length : Int) - 1)).1 q2 j hj
    omega
   have s1 := spec_is_ev T S C X Y g l h1 h2 h3 h4 e q1 hin
   have s2 := impl_is_ev T S C X Y g l h1 h2 hX hY e q1 hn hin
   have co := cost_ev T S C X Y g l e hn hin l.length 0 0 (by omega)
   cases p : allD (okI T S C X Y g l) 0 l.length with
   | false =>
    rw [p] at s1 s2
    refine ⟨(0, 5), Ev.bind hs ?_, Ev.bind hi ?_, by unfold coR okS isP; rw [if_pos c, q0, p]; rfl⟩
    ·simp only [if_true]
     refine Ev.bind s1 ?_
     refine Ev.dn ?_
     simp only [spec_CostOf.j0, Bool.not_false, if_true, if_neg (show ¬ ((5 : Int) = 0) by decide)]
     exact Ev.now _
    ·simp only [if_true]
     refine Ev.bind ha ?_
     simp only [if_true]
     refine Ev.bind s2 ?_
     simp only [Bool.false_eq_true, if_false]
     exact Ev.now _
   | true =>
    rw [p] at s1 s2
    refine ⟨(coD X Y l l.length 0 0, 0), Ev.bind hs ?_, Ev.bind hi ?_, by unfold coR okS isP; rw [if_pos c, q0, p]; rfl⟩
    ·simp only [if_true]
     refine Ev.bind s1 ?_
     refine Ev.dn ?_
     simp only [spec_CostOf.j0, Bool.not_true, Bool.false_eq_true, if_false, if_true]
     unfold spec_l18Cost.f
     exact Ev.bind co.1 (Ev.now _)
    ·simp only [if_true]
     refine Ev.bind ha ?_
     simp only [if_true]
     refine Ev.bind s2 ?_
     simp only [if_true]
     unfold impl_costOf.f
     exact Ev.bind co.2 (Ev.now _)
theorem CountPlacings_is (T : List S98) (S : List S103) (C X Y : List Int) (g : Int) (h1 : T.length ≤ 1000000) (h2 : S.length ≤ 1000000) (h3 : C.length ≤ 1000000) (h4 : X.length ≤ 1000000) (h5 : Y.length ≤ 1000000) :
  ∃ r : Int × Int, Ev (fun k => spec_CountPlacings.f k T S C X Y g) r ∧ Ev (fun k => impl_CountPlacings.f k T S C X Y g) r ∧ r = cnR T S C X Y g := by
 have hs := spec_IsField_ev T S C X Y g h1 h2 h3 h4 h5
 have hi := impl_IsField_ev T S C X Y g h1 h2 h3 h4 h5
 unfold spec_CountPlacings.f impl_CountPlacings.f
 cases c : fldOk T S C X Y g with
 | false =>
  rw [c] at hs hi
  refine ⟨(0, 1), Ev.bind hs ?_, Ev.bind hi ?_, by simp [cnR, c]⟩
  ·simp only [Bool.false_eq_true, if_false]; exact Ev.now _
  ·simp only [Bool.false_eq_true, if_false]; exact Ev.now _
 | true =>
  rw [c] at hs hi
  obtain ⟨_, _, l3, l4, e⟩ := fldOk_len c
  obtain ⟨hX, hY⟩ := fldOk_xy c
  have hp : inX X [] := fun j hj => absurd hj (by simp)
  refine ⟨(((plD T S C X Y g C.length []).length : Int), 0), Ev.bind hs ?_, Ev.bind hi ?_, by simp [cnR, c]⟩
  ·simp only [if_true]
   unfold spec_l18Placings.f
   refine Ev.bind (Ev.bind (spec_spots_ev T S C X Y g h1 h2 h3 h4 e) (Ev.bind (spec_all_ev T S C X Y g l3 l4 e C.length [] (by simp) hp) (Ev.now _))) ?_
   exact Ev.now _
  ·simp only [if_true]
   refine Ev.bind (impl_placings_ev T S C X Y g h1 h2 l3 l4 hX hY e C.length [] (by simp) hp) ?_
   exact Ev.now _
theorem BestPlacing_is (T : List S98) (S : List S103) (C X Y : List Int) (g : Int) (h1 : T.length ≤ 1000000) (h2 : S.length ≤ 1000000) (h3 : C.length ≤ 1000000) (h4 : X.length ≤ 1000000) (h5 : Y.length ≤ 1000000) :
  ∃ r : List Int × Int × Int, Ev (fun k => spec_BestPlacing.f k T S C X Y g) r ∧ Ev (fun k => impl_BestPlacing.f k T S C X Y g) r ∧ r.1.length ≤ 1000 ∧ (fldOk T S C X Y g = false → r.2.2 = 1) ∧ (fldOk T S C X Y g = true → (plD T S C X Y g C.length [] = [] → r.2.2 = 4) ∧ (plD T S C X Y g C.length [] ≠ [] → r.2.2 = 0 ∧ r.1 ∈ plD T S C X Y g C.length [] ∧ r.2.1 = cst X Y r.1 ∧ ∀ x ∈ plD T S C X Y g C.length [], r.2.1 ≤ cst X Y x)) := by
 have hs := spec_IsField_ev T S C X Y g h1 h2 h3 h4 h5
 have hi := impl_IsField_ev T S C X Y g h1 h2 h3 h4 h5
 unfold spec_BestPlacing.f impl_BestPlacing.f
 cases c : fldOk T S C X Y g with
 | false =>
  rw [c] at hs hi
  refine ⟨([], 0, 1), Ev.bind hs ?_, Ev.bind hi ?_, by simp, fun _ => rfl, fun h => absurd h (by decide)⟩
  ·simp only [Bool.false_eq_true, if_false]; exact Ev.now _
  ·simp only [Bool.false_eq_true, if_false]; exact Ev.now _
 | true =>
  rw [c] at hs hi
  obtain ⟨_, _, l3, l4, e⟩ := fldOk_len c
  obtain ⟨hX, hY⟩ := fldOk_xy c
  have sp : Ev (fun k => spec_l18Placings.f k T S C X Y g) (plD T S C X Y g C.length []) := by
   unfold spec_l18Placings.f
   exact Ev.bind (spec_spots_ev T S C X Y g h1 h2 h3 h4 e) (Ev.bind (spec_all_ev T S C X Y g l3 l4 e C.length [] (by simp) (inX_nil X)) (Ev.now _))
  have ip := impl_placings_ev T S C X Y g h1 h2 l3 l4 hX hY e C.length [] (by simp) (inX_nil X)
  have hlen := plD_len T S C X Y g l4 C.length []
  have hpw : 7 ^ C.length ≤ 2401 := Nat.le_trans (Nat.pow_le_pow_right (by decide) l3) (by decide)
  have hin : ∀ x ∈ plD T S C X Y g C.length [], inX X x ∧ x.length ≤ 1000 := fun x hx => ⟨mem_inX T S C X Y g C.length [] (inX_nil X) x hx, by have := plD_all T S C X Y g C.length [] x hx; rw [List.length_nil] at this; omega⟩
  have hP : (plD T S C X Y g C.length []).length ≤ 1000000 := by omega
  clear hlen
  generalize plD T S C X Y g C.length [] = P at sp ip hin hP ⊢
  cases P with
  | nil =>
   refine ⟨([], 0, 4), Ev.bind hs ?_, Ev.bind hi ?_, by simp, fun h => absurd h (by decide), fun _ => ⟨fun _ => rfl, fun h => absurd rfl h⟩⟩
   ·simp only [if_true]
    refine Ev.bind sp ?_
    simp only [if_pos (show ((([] : List (List Int)).length : Nat) : Int) = 0 by rfl)]
    exact Ev.now _
   ·simp only [if_true]
    have hb : Ev (fun k => impl_bestPlacing.f k T S C X Y g) (([] : List Int), false) := by
     unfold impl_bestPlacing.f
     refine Ev.bind ip ?_
     simp only [if_pos (show ((([] : List (List Int)).length : Nat) : Int) = 0 by rfl)]
     exact Ev.now _
    refine Ev.bind hb ?_
    simp only [Bool.false_eq_true, if_false]
    exact Ev.now _
  | cons p ps =>
   have z0 : ¬ (((p :: ps).length : Nat) : Int) = 0 := by rw [List.length_cons]; omega
   have z1 : (0 : Int) < (((p :: ps).length : Nat) : Int) := by rw [List.length_cons]; omega
   have hr0 : rd_L5 (p :: ps) 0 = p := rfl
   obtain ⟨q1, q2⟩ := hin p (List.mem_cons_self ..)
   obtain ⟨b1, b2, b3, b4⟩ := best_ev T S C X Y g e (p :: ps) hP hin (p :: ps).length 0 p (by omega) q1 q2
   obtain ⟨m1, _, m3⟩ := bpD_min X Y (p :: ps) (p :: ps).length 0 p (by omega)
   have hc := cst_ev T S C X Y g _ e (by omega) b3
   refine ⟨(bpD X Y (p :: ps) (p :: ps).length 0 p, cst X Y (bpD X Y (p :: ps) (p :: ps).length 0 p), 0), Ev.bind hs ?_, Ev.bind hi ?_, b4, fun h => absurd h (by decide), fun _ => ⟨fun h => absurd h (by simp), fun _ => ⟨rfl, m1.elim (fun e => by show bpD X Y (p :: ps) (p :: ps).length 0 p ∈ _; rw [e]; exact List.mem_cons_self ..) id, rfl, fun x hx => by obtain ⟨j, hj, rfl⟩ := List.getElem_of_mem hx; exact m3 j hj (Nat.zero_le _)⟩⟩⟩
   ·simp only [if_true]
    refine Ev.bind sp ?_
    simp only [if_neg z0, if_pos z1, hr0]
    exact b1
   ·simp only [if_true]
    have hb : Ev (fun k => impl_bestPlacing.f k T S C X Y g) (bpD X Y (p :: ps) (p :: ps).length 0 p, true) := by
     unfold impl_bestPlacing.f
     refine Ev.bind ip ?_
     simp only [if_neg z0, if_pos z1, hr0]
     exact b2
    refine Ev.bind hb ?_
    simp only [if_true]
    exact Ev.bind hc.2 (Ev.now _)
theorem dPl_loop {L : List Int} (hL : By L) (T : List S98) (S : List S103) (C X Y : List Int) (g : Int) (hC : C.length ≤ 100) (hX : X.length ≤ 100) (hX1 : 1 ≤ X.length) : ∀ (d i : Nat) (x : List Int) (p z : Int), i + d = C.length → Gd L p z → x.length ≤ i → ∃ l : List Int, Ev (fun k => spec_DrawIsPlacing.l0 k x (i : Int) L p z T S C X Y g) (T, S, C, X, Y, g, l) ∧ l.length ≤ 1000 := by
 intro d
 induction d with
 | zero =>
  intro i x p z hi gd hx
  obtain ⟨v, p1, z1, e1, g1, _, _⟩ := next_ok hL gd 24 (by omega) (by omega)
  by_cases c : v = 0
  ·refine ⟨x ++ [0], Ev.dn ?_, by rw [List.length_append, List.length_singleton]; omega⟩
   simp only [spec_DrawIsPlacing.l0, if_neg (show ¬ (i : Int) < (C.length : Int) by omega), e1, Option.bind_some, if_pos c, if_pos (show x.length < 17592186044416 by omega)]
   exact Ev.now _
  ·refine ⟨x, Ev.dn ?_, by omega⟩
   simp only [spec_DrawIsPlacing.l0, if_neg (show ¬ (i : Int) < (C.length : Int) by omega), e1, Option.bind_some, if_neg c]
   exact Ev.now _
 | succ d ih =>
  intro i x p z hi gd hx
  obtain ⟨v, p1, z1, e1, g1, v0, v1⟩ := next_ok hL gd 12 (by omega) (by omega)
  have t0 : 0 ≤ Int.tdiv v 11 ∧ Int.tdiv v 11 ≤ 1 := by
   obtain ⟨n, rfl⟩ : ∃ n : Nat, v = (n : Int) := ⟨v.toNat, by omega⟩
   rw [show Int.tdiv (n : Int) 11 = ((n / 11 : Nat) : Int) from (Int.ofNat_tdiv n 11).symm]
   omega
  have w1 : wrap64 (Int.tdiv v 11) = Int.tdiv v 11 := wrap_id (by omega) (by omega)
  have w2 : wrap64 ((X.length : Int) + Int.tdiv v 11) = (X.length : Int) + Int.tdiv v 11 := wrap_id (by omega) (by omega)
  obtain ⟨u, p2, z2, e2, g2, _, _⟩ := next_ok hL g1 ((X.length : Int) + Int.tdiv v 11) (by omega) (by omega)
  obtain ⟨l, h, hl⟩ := ih (i + 1) (x ++ [u]) p2 z2 (by omega) g2 (by rw [List.length_append, List.length_singleton]; omega)
  refine ⟨l, Ev.dn ?_, hl⟩
  simp only [spec_DrawIsPlacing.l0, if_pos (show (i : Int) < (C.length : Int) by omega), e1, Option.bind_some, w1, w2, e2, if_pos (show x.length < 17592186044416 by omega), wrap_succ (show i < C.length by omega) (show C.length ≤ 9223372036854775807 by omega)]
  exact h
theorem dPl {L : List Int} (hL : By L) : ∃ (T : List S98) (S : List S103) (C X Y : List Int) (g : Int) (l : List Int), Ev (fun k => spec_DrawIsPlacing.f k L) (T, S, C, X, Y, g, l) ∧ T.length ≤ 100 ∧ S.length ≤ 100 ∧ C.length ≤ 100 ∧ X.length ≤ 100 ∧ Y.length ≤ 100 ∧ l.length ≤ 1000 := by
 obtain ⟨z, h0, g0⟩ := from_ev hL
 obtain ⟨T, S, C, X, Y, g, p1, z1, h1, n1, n2, n3, n4, n5, n6, g1⟩ := draw18_ok hL g0
 obtain ⟨r, b1, b2, b3, _⟩ := BestPlacing_is T S C X Y g (by omega) (by omega) (by omega) (by omega) (by omega)
 have no : ∀ p z, Gd L p z → ∃ l : List Int, Ev (fun k => spec_DrawIsPlacing.j0 k r.1 false L p z T S C X Y g) (T, S, C, X, Y, g, l) ∧ l.length ≤ 1000 := by
  intro p z gd
  obtain ⟨l, h, hl⟩ := dPl_loop hL T S C X Y g n3 n4 n6 C.length 0 [] p z (by omega) gd (by simp)
  refine ⟨l, Ev.dn ?_, hl⟩
  simp only [spec_DrawIsPlacing.j0, Bool.false_eq_true, if_false]
  exact h
 unfold spec_DrawIsPlacing.f
 by_cases c : r.2.2 = 0
 ·obtain ⟨v, p2, z2, e2, g2, _, _⟩ := next_ok hL g1 2 (by omega) (by omega)
  by_cases cv : v = 0
  ·refine ⟨T, S, C, X, Y, g, r.1, Ev.bind h0 (Ev.bind h1 (Ev.bind b1 ?_)), n1, n2, n3, n4, n5, b3⟩
   simp only [if_pos c, e2, Option.bind_some, cv]
   refine Ev.dn ?_
   simp only [spec_DrawIsPlacing.j0, beq_self_eq_true, if_true]
   exact Ev.now _
  ·obtain ⟨l, h, hl⟩ := no p2 z2 g2
   refine ⟨T, S, C, X, Y, g, l, Ev.bind h0 (Ev.bind h1 (Ev.bind b1 ?_)), n1, n2, n3, n4, n5, hl⟩
   simp only [if_pos c, e2, Option.bind_some, beq_eq_false_iff_ne.2 cv]
   exact h
 ·obtain ⟨l, h, hl⟩ := no p1 z1 g1
  refine ⟨T, S, C, X, Y, g, l, Ev.bind h0 (Ev.bind h1 (Ev.bind b1 ?_)), n1, n2, n3, n4, n5, hl⟩
  simp only [if_neg c]
  exact h
theorem ip_in (T : List S98) (S : List S103) (C X Y : List Int) (g : Int) (l : List Int) (c : fldOk T S C X Y g = true) (h : l ∈ plD T S C X Y g C.length []) : ipR T S C X Y g l = (true, 0) ∧ coR T S C X Y g l = (cst X Y l, 0) := by
 obtain ⟨h1, h2, h3⟩ := (plD_isP T S C X Y g l).1 h
 have hs := (okS_iff C X l).2 ⟨h1, h2⟩
 unfold ipR coR
 rw [if_pos c, if_pos c, if_pos hs, if_pos hs, h3]
 exact ⟨rfl, rfl⟩
theorem plc_j1 (T : List S98) (S : List S103) (C X Y : List Int) (g : Int) (l : List Int) (r : List Int × Int × Int) (n1 : T.length ≤ 100) (n2 : S.length ≤ 100) (n3 : C.length ≤ 100) (n4 : X.length ≤ 100) (n5 : Y.length ≤ 100) (hr : r.1.length ≤ 1000)
  (f1 : fldOk T S C X Y g = false → r.2.2 = 1) (f2 : fldOk T S C X Y g = true → (plD T S C X Y g C.length [] = [] → r.2.2 = 4) ∧ (plD T S C X Y g C.length [] ≠ [] → r.2.2 = 0 ∧ r.1 ∈ plD T S C X Y g C.length [] ∧ r.2.1 = cst X Y r.1 ∧ ∀ x ∈ plD T S C X Y g C.length [], r.2.1 ≤ cst X Y x)) :
  Ev (fun k => laws_FnPlacings.j1 k (ipR T S C X Y g l).1 (ipR T S C X Y g l).2 r.1 r.2.1 r.2.2 (coR T S C X Y g l).1 (coR T S C X Y g l).2 false T S C X Y g) true := by
 refine Ev.dn ?_
 simp only [laws_FnPlacings.j1, Bool.false_eq_true, if_false]
 cases c : fldOk T S C X Y g with
 | false =>
  have hi : ipR T S C X Y g l = (false, 1) := by simp [ipR, c]
  rw [f1 c, hi]
  simp only [show ¬ ((1 : Int) = 0) by decide, if_false]
  exact Ev.now _
 | true =>
  obtain ⟨a1, a2⟩ := f2 c
  by_cases e : plD T S C X Y g C.length [] = []
  ·rw [a1 e]
   simp only [show ¬ ((4 : Int) = 0) by decide, if_false]
   cases q : okS C X l with
   | false =>
    have hi : ipR T S C X Y g l = (false, 2) := by unfold ipR; rw [if_pos c, q]; rfl
    rw [hi]
    simp only [show ¬ ((2 : Int) = 0) by decide, if_false]
    exact Ev.now _
   | true =>
    have hp : isP T S C X Y g l = false := by
     cases hp : isP T S C X Y g l with
     | false => rfl
     | true =>
      obtain ⟨q1, q2⟩ := (okS_iff C X l).1 q
      have := (plD_isP T S C X Y g l).2 ⟨q1, q2, hp⟩
      rw [e] at this
      exact absurd this (by simp)
    have hi : ipR T S C X Y g l = (false, 0) := by unfold ipR; rw [if_pos c, if_pos q, hp]
    have hc : coR T S C X Y g l = (0, 5) := by unfold coR; rw [if_pos c, if_pos q, hp]; rfl
    rw [hi, hc]
    refine (Ev.now true).eq' (fun k => ?_)
    rfl
  ·obtain ⟨b1, b2, b3, b4⟩ := a2 e
   obtain ⟨i1, i2⟩ := ip_in T S C X Y g r.1 c b2
   obtain ⟨s, _, s2, s3⟩ := IsPlacing_is T S C X Y g r.1 (by omega) (by omega) (by omega) (by omega) (by omega) (by omega)
   obtain ⟨t, _, t2, t3⟩ := CostOf_is T S C X Y g r.1 (by omega) (by omega) (by omega) (by omega) (by omega) (by omega)
   rw [s3, i1] at s2
   rw [t3, i2] at t2
   rw [b1]
   simp only [if_true]
   refine Ev.bind s2 (Ev.bind t2 ?_)
   simp only [if_true, if_pos b3.symm]
   cases q : okS C X l with
   | false =>
    have hi : ipR T S C X Y g l = (false, 2) := by unfold ipR; rw [if_pos c, q]; rfl
    rw [hi]
    simp only [show ¬ ((2 : Int) = 0) by decide, if_false]
    exact Ev.now _
   | true =>
    cases hp : isP T S C X Y g l with
    | false =>
     have hi : ipR T S C X Y g l = (false, 0) := by unfold ipR; rw [if_pos c, if_pos q, hp]
     have hc : coR T S C X Y g l = (0, 5) := by unfold coR; rw [if_pos c, if_pos q, hp]; rfl
     rw [hi, hc]
     refine (Ev.now true).eq' (fun k => ?_)
     rfl
    | true =>
     obtain ⟨q1, q2⟩ := (okS_iff C X l).1 q
     have hm := (plD_isP T S C X Y g l).2 ⟨q1, q2, hp⟩
     have hi : ipR T S C X Y g l = (true, 0) := by unfold ipR; rw [if_pos c, if_pos q, hp]
     have hc : coR T S C X Y g l = (cst X Y l, 0) := by unfold coR; rw [if_pos c, if_pos q, hp]; rfl
     rw [hi, hc]
     simp only [if_true, beq_self_eq_true, decide_eq_true (b4 l hm)]
     exact Ev.now _
theorem FnPlacings : ∀ (l0 : List Int), (l0.length ≤ reachBytes ∧ ∀ y ∈ l0, (Lit.int .u8 y).wf = true) → ∃ k, laws_FnPlacings.f k l0 = some true := by
 intro L ⟨_, hb⟩
 apply Ev.rounds
 unfold laws_FnPlacings.f laws_big.f
 simp only [Option.bind_some]
 by_cases hbig : (L.length : Int) > 4096
 ·simp only [decide_eq_true hbig, if_true]; exact Ev.now _
 simp only [decide_eq_false hbig, Bool.false_eq_true, if_false]
 have hL : By L := by
  refine ⟨by omega, fun j hj => ?_⟩
  rw [show rd L (j : Int) = L[j] by simp [rd, hj]]
  have := hb _ (List.getElem_mem hj)
  simp only [Lit.wf, Bool.and_eq_true, decide_eq_true_eq] at this
  have m1 : IntKind.u8.min = 0 := by decide
  have m2 : IntKind.u8.max = 255 := by decide
  omega
 obtain ⟨T, S, C, X, Y, g, l, d1, n1, n2, n3, n4, n5, n6⟩ := dPl hL
 obtain ⟨s, s1, s2, s3⟩ := IsPlacing_is T S C X Y g l (by omega) (by omega) (by omega) (by omega) (by omega) (by omega)
 obtain ⟨r, r1, r2, r3, r4, r5⟩ := BestPlacing_is T S C X Y g (by omega) (by omega) (by omega) (by omega) (by omega)
 obtain ⟨t, t1, t2, t3⟩ := CostOf_is T S C X Y g l (by omega) (by omega) (by omega) (by omega) (by omega) (by omega)
 obtain ⟨u, u1, u2, u3⟩ := CountPlacings_is T S C X Y g (by omega) (by omega) (by omega) (by omega) (by omega)
 have hf := impl_IsField_ev T S C X Y g (by omega) (by omega) (by omega) (by omega) (by omega)
 have h1 := plc_j1 T S C X Y g l r n1 n2 n3 n4 n5 r3 r4 r5
 rw [← s3, ← t3] at h1
 refine Ev.bind d1 (Ev.bind s2 (Ev.bind s1 (Ev.bind r2 (Ev.bind r1 (Ev.bind t2 (Ev.bind t1 (Ev.bind u2 (Ev.bind u1 ?_))))))))
 simp only [if_true, bne_self_eq_false, Bool.false_eq_true, if_false]
 refine Ev.bind (likeInts_refl r.1 (by omega)) ?_
 simp only [if_true]
 refine Ev.bind hf ?_
 refine Ev.dn ?_
 have hx : (fldOk T S C X Y g != (u.2 == 0)) = false := by
  rw [u3]
  unfold cnR
  cases fldOk T S C X Y g <;> rfl
 simp only [laws_FnPlacings.j0, hx, Bool.false_eq_true, if_false]
 cases c : fldOk T S C X Y g with
 | false =>
  have hu : u.2 = 1 := by rw [u3]; unfold cnR; rw [c]; rfl
  simp only [hu, show ¬ ((1 : Int) = 0) by decide, if_false]
  exact h1
 | true =>
  have hu : u = (((plD T S C X Y g C.length []).length : Int), 0) := by rw [u3]; unfold cnR; rw [if_pos c]
  have hq : ((decide (u.1 > 0)) != (r.2.2 == 0)) = false := by
   rw [hu]
   obtain ⟨a1, a2⟩ := r5 c
   by_cases e : plD T S C X Y g C.length [] = []
   ·rw [a1 e, e]; rfl
   ·rw [(a2 e).1]
    have : ((plD T S C X Y g C.length []).length : Int) > 0 := by
     have := List.length_pos_iff.2 e
     omega
    rw [decide_eq_true this]; rfl
  rw [hq]
  simp only [hu, if_true]
  exact h1
end Go.Proofs.Ytancnecddlbhkaa.Pure
