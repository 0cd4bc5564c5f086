/- The law FnExactIsField as a statement over numbers and lists, proved; no condition but the sizes and ranges that every input has. -/
import Derived.Test.YtnfmfebmjlglgaaF31
import Derived.Test.YtnfmfebmjlglgaaEv
namespace Go.Proofs.Ytnfmfebmjlglgaa.Pure
open Go.RowKit Go.Proofs.Ytnfmfebmjlglgaa.Pall Go.Proofs.YtnfmfebmjlglgaaW.PrintWords
set_option linter.unusedSimpArgs false
set_option linter.unusedVariables false
def rin (x a b : Int) : Bool := decide (a ≤ x) && decide (x ≤ b)
theorem l01In_eq (x a b : Int) : spec_l01In.f x a b = some (rin x a b) := by
  unfold spec_l01In.f rin
  by_cases h : a ≤ x
  · rw [if_pos h, decide_eq_true h, Bool.true_and]
  · rw [if_neg h, decide_eq_false h, Bool.false_and]
theorem within_eq (x a b : Int) : impl_within.f x a b = some (rin x a b) := by
  unfold impl_within.f rin
  by_cases h : a ≤ x
  · rw [if_pos h, decide_eq_true h, Bool.true_and]
  · rw [if_neg h, decide_eq_false h, Bool.false_and]
theorem rin_iff {x a b : Int} : rin x a b = true ↔ a ≤ x ∧ x ≤ b := by simp [rin]
def allIn (l : List Int) (a b : Int) : Bool := allD (fun j => rin (rd l (j : Int)) a b) 0 l.length
theorem allIn_iff (l : List Int) (a b : Int) : allIn l a b = true ↔ ∀ j : Nat, j < l.length → a ≤ rd l (j : Int) ∧ rd l (j : Int) ≤ b := by
  unfold allIn
  rw [allD_iff]
  simp only [rin_iff]
  exact ⟨fun h j hj => h j (Nat.zero_le _) (by omega), fun h j _ hj => h j (by omega)⟩
theorem allWithin_ev (l : List Int) (a b : Int) (hn : l.length ≤ 9223372036854775807) : Ev (fun k => impl_allWithin.f k l a b) (allIn l a b) := by
  unfold impl_allWithin.f
  have h := Ev.allLoop (l := fun k i => impl_allWithin.l0 k a b l (l.length : Int) i) (n := l.length) (fun j => rin (rd l (j : Int)) a b) false true
    (fun i hi => Evt.all fun k => by
      simp only [impl_allWithin.l0, within_eq, Option.bind_some]
      rw [if_pos (by omega), if_pos (by omega), if_pos (by omega), wrap_succ hi hn])
    (Evt.all fun k => by
      simp only [impl_allWithin.l0]
      rw [if_neg (by omega)]) l.length 0 (by omega)
  refine h.eq ?_
  unfold allIn
  cases allD (fun j => rin (rd l (j : Int)) a b) 0 l.length <;> simp
def szv (n : Nat) (a : Int) : Int := if a < (n : Int) then -1 else a - (n : Int)
theorem sz_eq {n : Nat} {a : Int} (hn : n ≤ 4611686018427387904) (h0 : 0 ≤ a) (h1 : a ≤ 1000000) : (if (wrap64 (a - (n : Int))) < 0 then (some (-1)) else (some (wrap64 (a - (n : Int))))) = some (szv n a) := by
  rw [wrap_id (by omega) (by omega)]
  unfold szv
  by_cases h : a < (n : Int)
  · rw [if_pos (by omega), if_pos h]
  · rw [if_neg (by omega), if_neg h]
theorem szv_ok {n : Nat} {a : Int} (h0 : 0 ≤ a) (h1 : a ≤ 1000000) (h : ¬ szv n a < 0) : n ≤ 1000000 ∧ 0 ≤ szv n a ∧ szv n a ≤ 1000000 := by
  unfold szv at *
  split at h
  · exact absurd (show (-1 : Int) < 0 by decide) h
  · rename_i h2
    rw [if_neg h2]
    omega
theorem eqInt_refl (l : List Int) (hn : l.length ≤ 9223372036854775807) : Ev (fun k => laws_eqInt64S.f k l l) true := by
  unfold laws_eqInt64S.f
  simp only [if_pos rfl]
  have h := Ev.allLoop (l := fun k i => laws_eqInt64S.l0 k l l i) (n := l.length) (fun _ => true) false true
    (fun i hi => Evt.all fun k => by
      simp only [laws_eqInt64S.l0]
      rw [if_pos (by omega), if_pos (by omega), if_pos (by omega), wrap_succ hi hn]
      (try simp))
    (Evt.all fun k => by
      simp only [laws_eqInt64S.l0]
      rw [if_neg (by omega)]) l.length 0 (by omega)
  refine h.eq ?_
  rw [if_pos ((allD_iff _ _ _).2 (fun _ _ _ => rfl))]
theorem eqDemandS_refl (l : List S126) (hn : l.length ≤ 9223372036854775807) : Ev (fun k => laws_eqDemandS.f k l l) true := by
  unfold laws_eqDemandS.f
  simp only [if_pos rfl]
  have h := Ev.allLoop (l := fun k i => laws_eqDemandS.l0 k l l i) (n := l.length) (fun _ => true) false true
    (fun i hi => Evt.all fun k => by
      simp only [laws_eqDemandS.l0, laws_eqDemand.f]
      rw [if_pos (by omega), if_pos (by omega), if_pos (by omega), wrap_succ hi hn]
      (try simp))
    (Evt.all fun k => by
      simp only [laws_eqDemandS.l0]
      rw [if_neg (by omega)]) l.length 0 (by omega)
  refine h.eq ?_
  rw [if_pos ((allD_iff _ _ _).2 (fun _ _ _ => rfl))]
theorem intactDemandS_refl (l : List S126) (hn : l.length ≤ 1000000) : Ev (fun k => laws_intactDemandS.f k l l) true := by
  unfold laws_intactDemandS.f
  simp only [if_pos rfl]
  exact eqDemandS_refl _ (full_le l hn)
theorem toDemandS_some (k : Nat) (l : List S132) (b : Bool) (hn : l.length ≤ 1000000) : laws_toDemandS.f k l b = some (l.map laws_toDemandS.conv) := by
  unfold laws_toDemandS.f
  rw [if_pos hn]
theorem eqAreaS_refl (l : List S130) (hn : l.length ≤ 9223372036854775807) : Ev (fun k => laws_eqAreaS.f k l l) true := by
  unfold laws_eqAreaS.f
  simp only [if_pos rfl]
  have h := Ev.allLoop (l := fun k i => laws_eqAreaS.l0 k l l i) (n := l.length) (fun _ => true) false true
    (fun i hi => Evt.all fun k => by
      simp only [laws_eqAreaS.l0, laws_eqArea.f]
      rw [if_pos (by omega), if_pos (by omega), if_pos (by omega), wrap_succ hi hn]
      (try simp))
    (Evt.all fun k => by
      simp only [laws_eqAreaS.l0]
      rw [if_neg (by omega)]) l.length 0 (by omega)
  refine h.eq ?_
  rw [if_pos ((allD_iff _ _ _).2 (fun _ _ _ => rfl))]
theorem intactAreaS_refl (l : List S130) (hn : l.length ≤ 1000000) : Ev (fun k => laws_intactAreaS.f k l l) true := by
  unfold laws_intactAreaS.f
  simp only [if_pos rfl]
  exact eqAreaS_refl _ (full_le l hn)
theorem toAreaS_some (k : Nat) (l : List S135) (b : Bool) (hn : l.length ≤ 1000000) : laws_toAreaS.f k l b = some (l.map laws_toAreaS.conv) := by
  unfold laws_toAreaS.f
  rw [if_pos hn]
def ordB (l : List S126) (i j : Nat) : Bool :=
  decide ((rd_T126 l (i : Int)).f0 < (rd_T126 l (j : Int)).f0) || (decide ((rd_T126 l (i : Int)).f0 = (rd_T126 l (j : Int)).f0) && decide ((rd_T126 l (i : Int)).f1 < (rd_T126 l (j : Int)).f1) && decide ((rd_T126 l (i : Int)).f2 ≤ (rd_T126 l (j : Int)).f2))
def tbB (l : List S126) (j : Nat) : Bool :=
  rin (rd_T126 l (j : Int)).f0 0 3 && rin (rd_T126 l (j : Int)).f1 20 300 && rin (rd_T126 l (j : Int)).f2 0 10000 && (decide (j = 0) || ordB l (j - 1) j)
def tblOk (l : List S126) : Bool := allD (tbB l) 0 l.length && decide (l.length ≤ 12)
theorem spec_IsTable_ev (l : List S126) (hn : l.length ≤ 1000000) : Ev (fun k => spec_IsTable.f k l) (tblOk l) := by
  have h := Ev.allLoopQ (l := fun k i => spec_IsTable.l0 k l i) (n := l.length) (tbB l) false (decide (l.length ≤ 12))
    (fun i hi _ => by
      have main : ∀ r, (tbB l i = true → Ev (fun k => spec_IsTable.l0 k l ((i + 1 : Nat) : Int)) r) → (tbB l i = false → r = false) → Ev (fun k => spec_IsTable.l0 k l (i : Int)) r := by
        intro r h1 h2
        have hbad : ∀ x y z, tbB l i = false → Ev (fun k => spec_IsTable.j1 k l (i : Int) true x y z) r := fun x y z hb => Ev.dn (by
          rw [h2 hb]; simp only [spec_IsTable.j1, if_true]; exact Ev.now _)
        refine Ev.dn ?_
        simp only [spec_IsTable.l0, l01In_eq, Option.bind_some, if_pos (show (i : Int) < (l.length : Int) by omega), if_pos (show (0 : Int) ≤ (i : Int) by omega)]
        cases c0 : rin (rd_T126 l (i : Int)).f0 0 3 with
        | false => simp only [Bool.false_eq_true, if_false]; exact hbad _ _ _ (by simp [tbB, c0])
        | true =>
        simp only [if_true]
        cases c1 : rin (rd_T126 l (i : Int)).f1 20 300 with
        | false => simp only [Bool.false_eq_true, if_false]; exact hbad _ _ _ (by simp [tbB, c1])
        | true =>
        simp only [if_true]
        cases c2 : rin (rd_T126 l (i : Int)).f2 0 10000 with
        | false => simp only [Bool.not_false]; exact hbad _ _ _ (by simp [tbB, c2])
        | true =>
        simp only [Bool.not_true]
        refine Ev.dn ?_
        simp only [spec_IsTable.j1, Bool.false_eq_true, if_false]
        by_cases h0 : i = 0
        · simp only [if_neg (show ¬ (i : Int) > 0 by omega), wrap_succ hi (show l.length ≤ 9223372036854775807 by omega)]
          exact h1 (by unfold tbB; rw [c0, c1, c2, decide_eq_true h0]; rfl)
        · have hp : wrap64 ((i : Int) - 1) = ((i - 1 : Nat) : Int) := wrap_pred hi (by omega) (by omega)
          simp only [if_pos (show (i : Int) > 0 by omega), hp, if_pos (show (0 : Int) ≤ ((i - 1 : Nat) : Int) by omega), if_pos (show ((i - 1 : Nat) : Int) < (l.length : Int) by omega), spec_l16Before.f, wrap_succ hi (show l.length ≤ 9223372036854775807 by omega)]
          have ht : tbB l i = ordB l (i - 1) i := by simp [tbB, c0, c1, c2, h0]
          rw [ht] at h1 h2
          unfold ordB at h1 h2
          generalize rd_T126 l ((i - 1 : Nat) : Int) = p at h1 h2 ⊢
          generalize rd_T126 l (i : Int) = q at h1 h2 ⊢
          by_cases d0 : p.f0 < q.f0
          · have d1 : ¬ p.f0 = q.f0 := by omega
            simp only [if_pos d0, Option.bind_some, if_true, if_neg d1]
            exact h1 (by simp [d0])
          · by_cases d1 : p.f0 = q.f0
            · simp only [if_neg d0, if_pos d1, Option.bind_some]
              by_cases d2 : p.f1 < q.f1
              · simp only [decide_eq_true d2, if_true]
                by_cases d3 : p.f2 > q.f2
                · simp only [if_pos d3]
                  rw [h2 (by simp [d0, d1, d2]; omega)]
                  exact Ev.now _
                · simp only [if_neg d3]
                  exact h1 (by simp [d0, d1, d2]; omega)
              · simp only [decide_eq_false d2, Bool.false_eq_true, if_false]
                rw [h2 (by simp [d0, d1, d2])]
                exact Ev.now _
            · simp only [if_neg d0, if_neg d1, Option.bind_some, Bool.false_eq_true, if_false]
              rw [h2 (by simp [d0, d1])]
              exact Ev.now _
      exact ⟨fun hs r hr => main r (fun _ => hr) (fun hf => by rw [hs] at hf; exact absurd hf (by decide)), fun hs => main false (fun ht => by rw [hs] at ht; exact absurd ht (by decide)) (fun _ => rfl)⟩)
    (fun _ => by
      refine Ev.dn ?_
      simp only [spec_IsTable.l0, if_neg (show ¬ (l.length : Int) < (l.length : Int) by omega)]
      have e : decide ((l.length : Int) ≤ 12) = decide (l.length ≤ 12) := decide_eq_decide.2 (by omega)
      rw [e]
      exact Ev.now _) l.length 0 (by omega) (fun j hj => by omega)
  refine h.eq ?_
  unfold tblOk
  cases allD (tbB l) 0 l.length <;> simp
theorem impl_IsTable_ev (l : List S126) (hn : l.length ≤ 1000000) : Ev (fun k => impl_IsTable.f k l) (tblOk l) := by
  unfold impl_IsTable.f
  by_cases hl : (l.length : Int) > 12
  · simp only [if_pos hl]
    refine (Ev.now false).eq ?_
    unfold tblOk
    rw [decide_eq_false (by omega), Bool.and_false]
  simp only [if_neg hl]
  have h := Ev.allLoopQ (l := fun k i => impl_IsTable.l0 k l l (l.length : Int) i) (n := l.length) (tbB l) false true
    (fun i hi _ => by
      have main : ∀ r, (tbB l i = true → Ev (fun k => impl_IsTable.l0 k l l (l.length : Int) ((i + 1 : Nat) : Int)) r) → (tbB l i = false → r = false) → Ev (fun k => impl_IsTable.l0 k l l (l.length : Int) (i : Int)) r := by
        intro r h1 h2
        have hbad : ∀ x y z, tbB l i = false → Ev (fun k => impl_IsTable.j1 k l (i : Int) l (l.length : Int) (i : Int) true x y z) r := fun x y z hb => Ev.dn (by
          rw [h2 hb]; simp only [impl_IsTable.j1, if_true]; exact Ev.now _)
        refine Ev.dn ?_
        simp only [impl_IsTable.l0, impl_isKind.f, impl_isCalibre.f, within_eq, Option.bind_some, if_pos (show (i : Int) < (l.length : Int) by omega), if_pos (show (0 : Int) ≤ (i : Int) by omega)]
        cases c0 : rin (rd_T126 l (i : Int)).f0 0 3 with
        | false => simp only [Bool.false_eq_true, if_false]; exact hbad _ _ _ (by simp [tbB, c0])
        | true =>
        simp only [if_true]
        cases c1 : rin (rd_T126 l (i : Int)).f1 20 300 with
        | false => simp only [Bool.false_eq_true, if_false]; exact hbad _ _ _ (by simp [tbB, c1])
        | true =>
        simp only [if_true]
        cases c2 : rin (rd_T126 l (i : Int)).f2 0 10000 with
        | false => simp only [Bool.not_false]; exact hbad _ _ _ (by simp [tbB, c2])
        | true =>
        simp only [Bool.not_true]
        refine Ev.dn ?_
        simp only [impl_IsTable.j1, Bool.false_eq_true, if_false]
        by_cases h0 : i = 0
        · simp only [if_pos (show (i : Int) = 0 by omega), wrap_succ hi (show l.length ≤ 9223372036854775807 by omega)]
          exact h1 (by unfold tbB; rw [c0, c1, c2, decide_eq_true h0]; rfl)
        · have hp : wrap64 ((i : Int) - 1) = ((i - 1 : Nat) : Int) := wrap_pred hi (by omega) (by omega)
          simp only [if_neg (show ¬ (i : Int) = 0 by omega), hp, if_pos (show (0 : Int) ≤ ((i - 1 : Nat) : Int) by omega), if_pos (show ((i - 1 : Nat) : Int) < (l.length : Int) by omega), wrap_succ hi (show l.length ≤ 9223372036854775807 by omega)]
          have ht : tbB l i = ordB l (i - 1) i := by simp [tbB, c0, c1, c2, h0]
          rw [ht] at h1 h2
          unfold ordB at h1 h2
          generalize rd_T126 l ((i - 1 : Nat) : Int) = p at h1 h2 ⊢
          generalize rd_T126 l (i : Int) = q at h1 h2 ⊢
          by_cases d0 : p.f0 > q.f0
          · simp only [if_pos d0]
            rw [h2 (by simp; omega)]
            exact Ev.now _
          · simp only [if_neg d0]
            by_cases d1 : p.f0 = q.f0
            · simp only [if_pos d1]
              by_cases d2 : p.f1 ≥ q.f1
              · simp only [if_pos d2]
                rw [h2 (by simp; omega)]
                exact Ev.now _
              · simp only [if_neg d2]
                by_cases d3 : p.f2 > q.f2
                · simp only [if_pos d3]
                  rw [h2 (by simp; omega)]
                  exact Ev.now _
                · simp only [if_neg d3]
                  exact h1 (by simp; omega)
            · simp only [if_neg d1]
              exact h1 (by simp; omega)
      exact ⟨fun hs r hr => main r (fun _ => hr) (fun hf => by rw [hs] at hf; exact absurd hf (by decide)), fun hs => main false (fun ht => by rw [hs] at ht; exact absurd ht (by decide)) (fun _ => rfl)⟩)
    (fun _ => by
      refine Ev.dn ?_
      simp only [impl_IsTable.l0, if_neg (show ¬ (l.length : Int) < (l.length : Int) by omega)]
      exact Ev.now _) l.length 0 (by omega) (fun j hj => by omega)
  refine h.eq ?_
  unfold tblOk
  rw [decide_eq_true (by omega : l.length ≤ 12), Bool.and_true]
  cases allD (tbB l) 0 l.length <;> simp
def arB (x : S130) : Bool := rin x.f0 0 3 && (rin x.f1 0 100000 && rin x.f2 0 100000) && rin x.f3 1 (100000 - x.f1) && rin x.f4 1 (100000 - x.f2)
theorem spec_IsArea_eq (x : S130) : spec_IsArea.f x.f0 x.f1 x.f2 x.f3 x.f4 = some (arB x) := by
  unfold spec_IsArea.f spec_l15Place.f arB
  simp only [l01In_eq, Option.bind_some]
  cases rin x.f0 0 3 with
  | false => simp
  | true =>
    cases h1 : rin x.f1 0 100000 with
    | false => simp
    | true =>
      cases h2 : rin x.f2 0 100000 with
      | false => simp
      | true =>
        have e1 := rin_iff.1 h1
        have e2 := rin_iff.1 h2
        rw [wrap_id (x := 100000 - x.f1) (by omega) (by omega), wrap_id (x := 100000 - x.f2) (by omega) (by omega)]
        cases rin x.f3 1 (100000 - x.f1) <;> simp
theorem impl_IsArea_eq (x : S130) : impl_IsArea.f x.f0 x.f1 x.f2 x.f3 x.f4 = some (arB x) := by
  unfold impl_IsArea.f impl_isKind.f impl_isPlace.f arB
  simp only [within_eq, Option.bind_some]
  cases rin x.f0 0 3 with
  | false => simp
  | true =>
    cases h1 : rin x.f1 0 100000 with
    | false => simp
    | true =>
      cases h2 : rin x.f2 0 100000 with
      | false => simp
      | true =>
        have e1 := rin_iff.1 h1
        have e2 := rin_iff.1 h2
        simp only [if_true]
        rw [wrap_id (x := 100000 - x.f1) (by omega) (by omega), wrap_id (x := 100000 - x.f2) (by omega) (by omega)]
        cases rin x.f3 1 (100000 - x.f1) <;> simp
def siteOk (l : List S130) : Bool := allD (fun j => arB (rd_T130 l (j : Int))) 0 l.length && decide (l.length ≤ 10)
theorem spec_IsSite_ev (l : List S130) (hn : l.length ≤ 1000000) : Ev (fun k => spec_IsSite.f k l) (siteOk l) := by
  have h := Ev.allLoop (l := fun k i => spec_IsSite.l0 k l i) (n := l.length) (fun j => arB (rd_T130 l (j : Int))) false (decide (l.length ≤ 10))
    (fun i hi => Evt.all fun k => by
      simp only [spec_IsSite.l0, spec_IsArea_eq, Option.bind_some]
      rw [if_pos (by omega), if_pos (by omega), wrap_succ hi (by omega)])
    (Evt.all fun k => by
      simp only [spec_IsSite.l0]
      rw [if_neg (by omega)]
      congr 1
      exact decide_eq_decide.2 (by omega)) l.length 0 (by omega)
  refine h.eq ?_
  unfold siteOk
  cases allD (fun j => arB (rd_T130 l (j : Int))) 0 l.length <;> simp
theorem impl_IsSite_ev (l : List S130) (hn : l.length ≤ 1000000) : Ev (fun k => impl_IsSite.f k l) (siteOk l) := by
  unfold impl_IsSite.f
  by_cases hl : (l.length : Int) > 10
  · simp only [if_pos hl]
    refine (Ev.now false).eq ?_
    unfold siteOk
    rw [decide_eq_false (by omega), Bool.and_false]
  simp only [if_neg hl]
  have h := Ev.allLoop (l := fun k i => impl_IsSite.l0 k l (l.length : Int) i) (n := l.length) (fun j => arB (rd_T130 l (j : Int))) false true
    (fun i hi => Evt.all fun k => by
      simp only [impl_IsSite.l0, impl_IsArea_eq, Option.bind_some]
      rw [if_pos (by omega), if_pos (by omega), if_pos (by omega), wrap_succ hi (by omega)])
    (Evt.all fun k => by
      simp only [impl_IsSite.l0]
      rw [if_neg (by omega)]) l.length 0 (by omega)
  refine h.eq ?_
  unfold siteOk
  rw [decide_eq_true (by omega : l.length ≤ 10), Bool.and_true]
  cases allD (fun j => arB (rd_T130 l (j : Int))) 0 l.length <;> simp
def fldOk (T : List S126) (S : List S130) (C X Y : List Int) (g : Int) : Bool :=
  tblOk T && siteOk S && decide (C.length ≤ 4) && allIn C 20 300 && decide (X.length ≤ 7) && decide (Y.length = X.length) && allIn X 0 100000 && allIn Y 0 100000 && rin g 0 10000
theorem impl_IsField_ev (T : List S126) (S : List S130) (C X Y : List Int) (g : Int) (h1 : T.length ≤ 1000000) (h2 : S.length ≤ 1000000) (h3 : C.length ≤ 1000000) (h4 : X.length ≤ 1000000) (h5 : Y.length ≤ 1000000) :
    Ev (fun k => impl_IsField.f k T S C X Y g) (fldOk T S C X Y g) := by
  unfold impl_IsField.f fldOk
  refine Ev.bind (impl_IsTable_ev T h1) ?_
  cases tblOk T with
  | false => simp only [Bool.false_eq_true, if_false, Bool.false_and]; exact Ev.now _
  | true =>
  simp only [if_true, Bool.true_and]
  refine Ev.bind (impl_IsSite_ev S h2) ?_
  cases siteOk S with
  | false => simp only [Bool.false_eq_true, if_false, Bool.false_and]; exact Ev.now _
  | true =>
  simp only [if_true, Bool.true_and]
  by_cases c1 : C.length ≤ 4
  case neg => simp only [if_neg (show ¬ (C.length : Int) ≤ 4 by omega), decide_eq_false c1, Bool.false_and]; exact Ev.now _
  simp only [if_pos (show (C.length : Int) ≤ 4 by omega), decide_eq_true c1, Bool.true_and]
  refine Ev.bind (allWithin_ev C 20 300 (by omega)) ?_
  cases allIn C 20 300 with
  | false => simp only [Bool.false_eq_true, if_false, Bool.false_and]; exact Ev.now _
  | true =>
  simp only [if_true, Bool.true_and]
  by_cases c2 : X.length ≤ 7
  case neg => simp only [if_neg (show ¬ (X.length : Int) ≤ 7 by omega), decide_eq_false c2, Bool.false_and]; exact Ev.now _
  simp only [if_pos (show (X.length : Int) ≤ 7 by omega), decide_eq_true c2, Bool.true_and]
  by_cases c3 : Y.length = X.length
  case neg => simp only [if_neg (show ¬ (Y.length : Int) = (X.length : Int) by omega), decide_eq_false c3, Bool.false_and]; exact Ev.now _
  simp only [if_pos (show (Y.length : Int) = (X.length : Int) by omega), decide_eq_true c3, Bool.true_and]
  refine Ev.bind (allWithin_ev X 0 100000 (by omega)) ?_
  cases allIn X 0 100000 with
  | false => simp only [Bool.false_eq_true, if_false, Bool.false_and]; exact Ev.now _
  | true =>
  simp only [if_true, Bool.true_and]
  refine Ev.bind (allWithin_ev Y 0 100000 (by omega)) ?_
  cases allIn Y 0 100000 with
  | false => simp only [Bool.false_eq_true, if_false, Bool.false_and]; exact Ev.now _
  | true =>
  simp only [if_true, Bool.true_and, within_eq, Option.bind_some]
  exact Ev.now _
theorem spec_IsField_ev (T : List S126) (S : List S130) (C X Y : List Int) (g : Int) (h1 : T.length ≤ 1000000) (h2 : S.length ≤ 1000000) (h3 : C.length ≤ 1000000) (h4 : X.length ≤ 1000000) (h5 : Y.length ≤ 1000000) :
    Ev (fun k => spec_IsField.f k T S C X Y g) (fldOk T S C X Y g) := by
  have hend : Ev (fun k => ((spec_IsTable.f k T).bind fun t1285 => (if t1285 = true then ((spec_IsSite.f k S).bind fun t1286 => (if t1286 = true then ((spec_l01In.f g 0 10000).bind fun t1287 => (some t1287)) else (some false))) else (some false)))) (tblOk T && siteOk S && rin g 0 10000) := by
    refine Ev.bind (spec_IsTable_ev T h1) ?_
    cases tblOk T with
    | false => simp only [Bool.false_eq_true, if_false, Bool.false_and]; exact Ev.now _
    | true =>
    simp only [if_true, Bool.true_and]
    refine Ev.bind (spec_IsSite_ev S h2) ?_
    cases siteOk S with
    | false => simp only [Bool.false_eq_true, if_false, Bool.false_and]; exact Ev.now _
    | true =>
    simp only [if_true, Bool.true_and, l01In_eq, Option.bind_some]
    exact Ev.now _
  have hxy : Y.length = X.length → Ev (fun k => spec_IsField.l1 k 0 T S C X Y g) (allIn X 0 100000 && allIn Y 0 100000 && (tblOk T && siteOk S && rin g 0 10000)) := by
    intro hl
    have h := Ev.allLoopQ (l := fun k i => spec_IsField.l1 k i T S C X Y g) (n := X.length) (fun j => rin (rd X (j : Int)) 0 100000 && rin (rd Y (j : Int)) 0 100000) false (tblOk T && siteOk S && rin g 0 10000)
      (fun i hi _ => by
        refine ⟨fun hs r hr => Ev.dn (Ev.eq' hr (fun k => ?_)), fun hs => Ev.dn (Ev.eq' (f := fun _ => some false) (Ev.now _) (fun k => ?_))⟩
        · simp only [Bool.and_eq_true] at hs
          simp only [spec_IsField.l1, spec_l15Place.f, l01In_eq, Option.bind_some, hs.1, hs.2, if_true]
          rw [if_pos (show (i : Int) < (X.length : Int) by omega), if_pos (show (0 : Int) ≤ (i : Int) by omega), if_pos (show (i : Int) < (Y.length : Int) by omega), wrap_succ hi (by omega)]
        · simp only [spec_IsField.l1, spec_l15Place.f, l01In_eq, Option.bind_some]
          rw [if_pos (show (i : Int) < (X.length : Int) by omega), if_pos (show (0 : Int) ≤ (i : Int) by omega), if_pos (show (i : Int) < (Y.length : Int) by omega)]
          cases c : rin (rd X (i : Int)) 0 100000 with
          | false => simp
          | true => rw [c, Bool.true_and] at hs; simp [hs])
      (fun _ => by
        refine Ev.dn ?_
        simp only [spec_IsField.l1, if_neg (show ¬ (X.length : Int) < (X.length : Int) by omega)]
        exact hend) X.length 0 (by omega) (fun j hj => by omega)
    refine h.eq ?_
    have e : allD (fun j => rin (rd X (j : Int)) 0 100000 && rin (rd Y (j : Int)) 0 100000) 0 X.length = (allIn X 0 100000 && allIn Y 0 100000) := by
      rw [Bool.eq_iff_iff, Bool.and_eq_true, allIn_iff, allIn_iff, allD_iff]
      simp only [Bool.and_eq_true, rin_iff, hl]
      exact ⟨fun h => ⟨fun j hj => (h j (by omega) (by omega)).1, fun j hj => (h j (by omega) (by omega)).2⟩, fun h j _ hj => ⟨h.1 j (by omega), h.2 j (by omega)⟩⟩
    rw [e]
    cases allIn X 0 100000 && allIn Y 0 100000 <;> simp
  have hj : ∀ b, Ev (fun k => spec_IsField.j1 k b T S C X Y g) (if b = true then false else (if Y.length = X.length then (allIn X 0 100000 && allIn Y 0 100000 && (tblOk T && siteOk S && rin g 0 10000)) else false)) ∨ (b = false ∧ ¬ Y.length = X.length) := by
    intro b
    cases b with
    | true => exact Or.inl (Ev.dn (by simp only [spec_IsField.j1, if_true]; exact Ev.now _))
    | false =>
      by_cases hl : Y.length = X.length
      · refine Or.inl (Ev.dn ?_)
        simp only [spec_IsField.j1, Bool.false_eq_true, if_false, if_pos hl]
        exact hxy hl
      · exact Or.inr ⟨rfl, hl⟩
  have h := Ev.allLoopQ (l := fun k i => spec_IsField.l0 k i T S C X Y g) (n := C.length) (fun j => rin (rd C (j : Int)) 20 300) false (decide (C.length ≤ 4) && decide (X.length ≤ 7) && decide (Y.length = X.length) && (allIn X 0 100000 && allIn Y 0 100000 && (tblOk T && siteOk S && rin g 0 10000)))
    (fun i hi _ => by
      refine ⟨fun hs r hr => Ev.dn (Ev.eq' hr (fun k => ?_)), fun hs => Ev.dn (Ev.eq' (f := fun _ => some false) (Ev.now _) (fun k => ?_))⟩
      · simp only [spec_IsField.l0, l01In_eq, Option.bind_some, hs, if_true]
        rw [if_pos (show (i : Int) < (C.length : Int) by omega), if_pos (show (0 : Int) ≤ (i : Int) by omega), wrap_succ hi (by omega)]
      · simp only [spec_IsField.l0, l01In_eq, Option.bind_some, hs]
        rw [if_pos (show (i : Int) < (C.length : Int) by omega), if_pos (show (0 : Int) ≤ (i : Int) by omega)]
        rfl)
    (fun _ => by
      refine Ev.dn ?_
      simp only [spec_IsField.l0, if_neg (show ¬ (C.length : Int) < (C.length : Int) by omega)]
      have hjt := (hj true).resolve_right (fun h => by simp at h)
      by_cases c1 : Y.length = X.length
      · have hjf := (hj false).resolve_right (fun h => h.2 c1)
        simp only [if_pos (show (X.length : Int) = (Y.length : Int) by omega)]
        by_cases c2 : X.length ≤ 7
        · simp only [if_neg (show ¬ (X.length : Int) > 7 by omega)]
          by_cases c3 : C.length ≤ 4
          · rw [decide_eq_false (show ¬ (C.length : Int) > 4 by omega)]
            refine hjf.eq ?_
            simp [c1, c2, c3]
          · rw [decide_eq_true (show (C.length : Int) > 4 by omega)]
            refine hjt.eq ?_
            simp [c3]
        · simp only [if_pos (show (X.length : Int) > 7 by omega)]
          refine hjt.eq ?_
          simp [c2]
      · simp only [if_neg (show ¬ (X.length : Int) = (Y.length : Int) by omega)]
        refine hjt.eq ?_
        simp [c1]) C.length 0 (by omega) (fun j hj => by omega)
  refine h.eq ?_
  unfold fldOk
  rw [show allD (fun j => rin (rd C (j : Int)) 20 300) 0 C.length = allIn C 20 300 from rfl]
  generalize tblOk T = b1
  generalize siteOk S = b2
  generalize decide (C.length ≤ 4) = b3
  generalize allIn C 20 300 = b4
  generalize decide (X.length ≤ 7) = b5
  generalize decide (Y.length = X.length) = b6
  generalize allIn X 0 100000 = b7
  generalize allIn Y 0 100000 = b8
  generalize rin g 0 10000 = b9
  cases b1 <;> cases b2 <;> cases b3 <;> cases b4 <;> cases b5 <;> cases b6 <;> cases b7 <;> cases b8 <;> rfl
theorem intactInt_refl (l : List Int) (hn : l.length ≤ 1000000) : Ev (fun k => laws_intactInt64S.f k l l) true := by
  unfold laws_intactInt64S.f
  simp only [if_pos rfl]
  exact eqInt_refl _ (full_le l hn)
theorem toInt_some (k : Nat) (l : List Int) (b : Bool) (hn : l.length ≤ 1000000) : laws_toInt64S.f k l b = some l := by
  unfold laws_toInt64S.f
  rw [if_pos hn]
theorem szField_some (T : List S132) (S : List S135) (C X Y : List Int) (g a : Int) (h1 : T.length ≤ reachBytes) (h2 : S.length ≤ reachBytes) (h3 : C.length ≤ reachBytes) (h4 : X.length ≤ reachBytes) (h5 : Y.length ≤ reachBytes) (h0 : 0 ≤ a) (ha : a ≤ 1000000) :
    ∃ r, laws_szField.f T S C X Y g a = some r ∧ (¬ r < 0 → T.length ≤ 1000000 ∧ S.length ≤ 1000000 ∧ C.length ≤ 1000000 ∧ X.length ≤ 1000000 ∧ Y.length ≤ 1000000 ∧ 0 ≤ r ∧ r ≤ 1000000) := by
  unfold reachBytes at *
  unfold laws_szField.f laws_szDemandS.f laws_szAreaS.f laws_szInt64S.f
  have bad : ∃ r : Int, some (-1 : Int) = some r ∧ (¬ r < 0 → T.length ≤ 1000000 ∧ S.length ≤ 1000000 ∧ C.length ≤ 1000000 ∧ X.length ≤ 1000000 ∧ Y.length ≤ 1000000 ∧ 0 ≤ r ∧ r ≤ 1000000) := ⟨-1, rfl, fun h => absurd (show (-1 : Int) < 0 by decide) h⟩
  rw [sz_eq (by omega) h0 ha, Option.bind_some]
  by_cases c1 : szv T.length a < 0
  · rw [if_pos c1]; exact bad
  rw [if_neg c1]
  obtain ⟨k1, l1, u1⟩ := szv_ok h0 ha c1
  generalize szv T.length a = a1 at l1 u1
  rw [sz_eq (by omega) l1 u1, Option.bind_some]
  by_cases c2 : szv S.length a1 < 0
  · rw [if_pos c2]; exact bad
  rw [if_neg c2]
  obtain ⟨k2, l2, u2⟩ := szv_ok l1 u1 c2
  generalize szv S.length a1 = a2 at l2 u2
  rw [sz_eq (by omega) l2 u2, Option.bind_some]
  by_cases c3 : szv C.length a2 < 0
  · rw [if_pos c3]; exact bad
  rw [if_neg c3]
  obtain ⟨k3, l3, u3⟩ := szv_ok l2 u2 c3
  generalize szv C.length a2 = a3 at l3 u3
  rw [sz_eq (by omega) l3 u3, Option.bind_some]
  by_cases c4 : szv X.length a3 < 0
  · rw [if_pos c4]; exact bad
  rw [if_neg c4]
  obtain ⟨k4, l4, u4⟩ := szv_ok l3 u3 c4
  generalize szv X.length a3 = a4 at l4 u4
  rw [sz_eq (by omega) l4 u4, Option.bind_some]
  by_cases c5 : szv Y.length a4 < 0
  · rw [if_pos c5]; exact bad
  rw [if_neg c5]
  obtain ⟨k5, l5, u5⟩ := szv_ok l4 u4 c5
  exact ⟨_, rfl, fun _ => ⟨k1, k2, k3, k4, k5, l5, u5⟩⟩
theorem toField_some (k : Nat) (T : List S132) (S : List S135) (C X Y : List Int) (g : Int) (b : Bool) (h1 : T.length ≤ 1000000) (h2 : S.length ≤ 1000000) (h3 : C.length ≤ 1000000) (h4 : X.length ≤ 1000000) (h5 : Y.length ≤ 1000000) :
    laws_toField.f k T S C X Y g b = some (T.map laws_toDemandS.conv, S.map laws_toAreaS.conv, C, X, Y, g) := by
  unfold laws_toField.f
  simp only [toDemandS_some _ T _ h1, toAreaS_some _ S _ h2, toInt_some _ C _ h3, toInt_some _ X _ h4, toInt_some _ Y _ h5, Option.bind_some]
theorem intactField_refl (T : List S126) (S : List S130) (C X Y : List Int) (g : Int) (h1 : T.length ≤ 1000000) (h2 : S.length ≤ 1000000) (h3 : C.length ≤ 1000000) (h4 : X.length ≤ 1000000) (h5 : Y.length ≤ 1000000) :
    Ev (fun k => laws_intactField.f k T S C X Y g T S C X Y g) true := by
  unfold laws_intactField.f
  refine Ev.bind (intactDemandS_refl T h1) ?_
  simp only [if_true]
  refine Ev.bind (intactAreaS_refl S h2) ?_
  simp only [if_true]
  refine Ev.bind (intactInt_refl C h3) ?_
  simp only [if_true]
  refine Ev.bind (intactInt_refl X h4) ?_
  simp only [if_true]
  refine Ev.bind (intactInt_refl Y h5) ?_
  simp only [if_true]
  exact Ev.now _
theorem FnExactIsField : ∀ (x0_0 : List S132) (x0_1 : List S135) (x0_2 : List Int) (x0_3 : List Int) (x0_4 : List Int) (x0_5 : Int), ((x0_0.length ≤ reachBytes ∧ ∀ y ∈ x0_0, ((Lit.int .i64 y.f0).wf = true ∧ (Lit.int .i64 y.f1).wf = true ∧ (Lit.int .i64 y.f2).wf = true)) ∧ (x0_1.length ≤ reachBytes ∧ ∀ y ∈ x0_1, ((Lit.int .i64 y.f0).wf = true ∧ (Lit.int .i64 y.f1).wf = true ∧ (Lit.int .i64 y.f2).wf = true ∧ (Lit.int .i64 y.f3).wf = true ∧ (Lit.int .i64 y.f4).wf = true)) ∧ (x0_2.length ≤ reachBytes ∧ ∀ y ∈ x0_2, (Lit.int .i64 y).wf = true) ∧ (x0_3.length ≤ reachBytes ∧ ∀ y ∈ x0_3, (Lit.int .i64 y).wf = true) ∧ (x0_4.length ≤ reachBytes ∧ ∀ y ∈ x0_4, (Lit.int .i64 y).wf = true) ∧ (Lit.int .i64 x0_5).wf = true) → ∃ k, laws_FnExactIsField.f k x0_0 x0_1 x0_2 x0_3 x0_4 x0_5 = some true := by
  intro T0 S0 C X Y g ⟨⟨b1, _⟩, ⟨b2, _⟩, ⟨b3, _⟩, ⟨b4, _⟩, ⟨b5, _⟩, _⟩
  apply Ev.rounds
  unfold laws_FnExactIsField.f
  obtain ⟨r, hr, hr2⟩ := szField_some T0 S0 C X Y g 1000000 b1 b2 b3 b4 b5 (by omega) (by omega)
  simp only [hr, Option.bind_some]
  by_cases h : r < 0
  · simp only [if_pos h]; exact Ev.now _
  obtain ⟨h1, h2, h3, h4, h5, _, _⟩ := hr2 h
  simp only [if_neg h, toField_some _ T0 S0 C X Y g _ h1 h2 h3 h4 h5, Option.bind_some]
  have k1 : (T0.map laws_toDemandS.conv).length ≤ 1000000 := by simpa using h1
  have k2 : (S0.map laws_toAreaS.conv).length ≤ 1000000 := by simpa using h2
  generalize T0.map laws_toDemandS.conv = T at k1
  generalize S0.map laws_toAreaS.conv = S at k2
  have hs := spec_IsField_ev T S C X Y g k1 k2 h3 h4 h5
  have hi := impl_IsField_ev T S C X Y g k1 k2 h3 h4 h5
  refine Ev.bind hs (Ev.bind hi ?_)
  simp only [bne_self_eq_false, Bool.false_eq_true, if_false]
  refine Ev.bind (intactField_refl T S C X Y g k1 k2 h3 h4 h5) ?_
  simp only [if_true]
  refine Ev.bind hi ?_
  simp only [bne_self_eq_false, Bool.false_eq_true, if_false]
  exact Ev.now _
end Go.Proofs.Ytnfmfebmjlglgaa.Pure
