/- The law FnExactAddMove as a statement over numbers and lists, proved; no condition but the sizes and ranges that every input has. -/
import Derived.Test.YtllhghcepbkpeaaF16
import Derived.Test.YtllhghcepbkpeaaEv
namespace Go.Proofs.Ytllhghcepbkpeaa.Pure
open Go.RowKit Go.Proofs.Ytllhghcepbkpeaa.Pall Go.Proofs.YtllhghcepbkpeaaW.PrintWords
set_option linter.unusedSimpArgs false
set_option linter.unusedVariables false
def wdB (s : ByteArray) (j : Nat) : Bool := !decide (bt s (j : Int) < 97) && !decide (bt s (j : Int) > 122)
def isWd (s : ByteArray) : Bool := allD (wdB s) 0 s.size && (decide (1 ≤ s.size) && decide (s.size ≤ 16))
theorem spec_IsWord_ev (s : ByteArray) (hn : s.size ≤ 9223372036854775807) : Ev (fun k => spec_IsWord.f k s) (isWd s) := by
  have h := Ev.allLoop (l := fun k i => spec_IsWord.l0 k s i) (n := s.size) (wdB s) false (decide (1 ≤ s.size) && decide (s.size ≤ 16))
    (fun i hi => Evt.all fun k => by
      simp only [spec_IsWord.l0]
      rw [if_pos (by omega), if_pos (by omega), wrap_succ hi hn]
      by_cases h1 : bt s (i : Int) < 97 <;> by_cases h2 : bt s (i : Int) > 122 <;> simp [wdB, h1, h2])
    (Evt.all fun k => by
      simp only [spec_IsWord.l0, spec_l01In.f]
      rw [if_neg (by omega)]
      by_cases h1 : 1 ≤ s.size
      · have e2 : decide (s.size ≤ 16) = decide ((s.size : Int) ≤ 16) := decide_eq_decide.2 (by omega)
        rw [if_pos (by omega), Option.bind_some, e2, decide_eq_true h1, Bool.true_and]
      · rw [if_neg (by omega), Option.bind_some, decide_eq_false h1, Bool.false_and]) s.size 0 (by omega)
  refine h.eq ?_
  unfold isWd
  cases allD (wdB s) 0 s.size <;> simp
theorem impl_IsWord_ev (s : ByteArray) (hn : s.size ≤ 9223372036854775807) : Ev (fun k => impl_IsWord.f k s) (isWd s) := by
  have hb : Ev (fun k => impl_IsWord.j0 k s true) false := Ev.dn (by simp only [impl_IsWord.j0]; exact Ev.now _)
  unfold impl_IsWord.f isWd
  by_cases h1 : (s.size : Int) < 1
  · simp only [if_pos h1]
    refine hb.eq ?_
    rw [decide_eq_false (show ¬ 1 ≤ s.size by omega)]
    simp
  simp only [if_neg h1]
  rw [decide_eq_true (show 1 ≤ s.size by omega)]
  by_cases h2 : s.size ≤ 16
  · rw [decide_eq_false (show ¬ (s.size : Int) > 16 by omega), decide_eq_true h2]
    refine Ev.dn ?_
    simp only [impl_IsWord.j0, Bool.false_eq_true, if_false]
    have h := Ev.allLoop (l := fun k i => impl_IsWord.l0 k s i) (n := s.size) (wdB s) false true
      (fun i hi => Evt.all fun k => by
        simp only [impl_IsWord.l0]
        rw [if_pos (by omega), if_pos (by omega), wrap_succ hi hn]
        by_cases h1 : bt s (i : Int) < 97 <;> by_cases h2 : bt s (i : Int) > 122 <;> simp [wdB, h1, h2])
      (Evt.all fun k => by
        simp only [impl_IsWord.l0]
        rw [if_neg (by omega)]) s.size 0 (by omega)
    refine h.eq ?_
    cases allD (wdB s) 0 s.size <;> simp
  · rw [decide_eq_true (show (s.size : Int) > 16 by omega), decide_eq_false h2]
    refine hb.eq (by simp)
theorem rd_T42_nat {l : List S42} {i : Nat} (h : i < l.length) : rd_T42 l (i : Int) = l[i] := by simp [rd_T42, h]
/-- The people of a zone behind the first n moves. -/
def ppl (l : List S42) (z : ByteArray) : Nat → Int
  | 0 => 0
  | n + 1 => if (rd_T42 l (n : Int)).f1.toList = z.toList then ppl l z n + (rd_T42 l (n : Int)).f2 else ppl l z n
/-- The same, of the moves up to a time. -/
def pplT (l : List S42) (z : ByteArray) (t : Int) : Nat → Int
  | 0 => 0
  | n + 1 => if (rd_T42 l (n : Int)).f1.toList = z.toList ∧ (rd_T42 l (n : Int)).f0 ≤ t then pplT l z t n + (rd_T42 l (n : Int)).f2 else pplT l z t n
def chg (l : List S42) (n : Nat) : Prop := ∀ j, j < n → -1000 ≤ (rd_T42 l (j : Int)).f2 ∧ (rd_T42 l (j : Int)).f2 ≤ 1000
theorem ppl_bd (l : List S42) (z : ByteArray) : ∀ n, chg l n → -(1000 * (n : Int)) ≤ ppl l z n ∧ ppl l z n ≤ 1000 * (n : Int)
  | 0, _ => by simp [ppl]
  | n + 1, h => by
    have ih := ppl_bd l z n (fun j hj => h j (by omega))
    have := h n (by omega)
    simp only [ppl]
    split <;> omega
theorem pplT_bd (l : List S42) (z : ByteArray) (t : Int) : ∀ n, chg l n → -(1000 * (n : Int)) ≤ pplT l z t n ∧ pplT l z t n ≤ 1000 * (n : Int)
  | 0, _ => by simp [pplT]
  | n + 1, h => by
    have ih := pplT_bd l z t n (fun j hj => h j (by omega))
    have := h n (by omega)
    simp only [pplT]
    split <;> omega
theorem pplT_ppl (l : List S42) (z : ByteArray) (t : Int) : ∀ n : Nat, (∀ j, j < n → (rd_T42 l (j : Int)).f0 ≤ t) → pplT l z t n = ppl l z n
  | 0, _ => rfl
  | n + 1, h => by
    have := h n (by omega)
    simp only [pplT, ppl, this, and_true]
    rw [pplT_ppl l z t n (fun j hj => h j (by omega))]
theorem rd_take (l : List S42) (m j : Nat) (h : j < m) : rd_T42 (l.take m) (j : Int) = rd_T42 l (j : Int) := by
  simp [rd_T42, List.getElem?_take, h]
theorem ppl_take (l : List S42) (z : ByteArray) (t : Int) (m : Nat) : ∀ n, n ≤ m → pplT (l.take m) z t n = pplT l z t n
  | 0, _ => rfl
  | n + 1, h => by
    simp only [pplT]
    rw [rd_take l m n (by omega), ppl_take l z t m n (by omega)]
theorem spec_l20People_ev (l : List S42) (z : ByteArray) (n : Nat) (hn : n ≤ l.length) (hl : l.length ≤ 1000000) (hc : chg l n) : Ev (fun k => spec_l20People.f k l z (n : Int)) (ppl l z n) := by
  have key : ∀ d i, i + d = n → Ev (fun k => spec_l20People.l0 k l z (n : Int) (ppl l z i) (i : Int)) (ppl l z n) := by
    intro d
    induction d with
    | zero =>
      intro i hi
      obtain rfl : i = n := by omega
      refine Ev.dn ?_
      simp only [spec_l20People.l0, if_neg (show ¬ (i : Int) < (i : Int) by omega)]
      exact Ev.now _
    | succ d ih =>
      intro i hi
      have hb := ppl_bd l z i (fun j hj => hc j (by omega))
      have hci := hc i (by omega)
      have hs := ih (i + 1) (by omega)
      refine Ev.dn ?_
      simp only [spec_l20People.l0, if_pos (show (i : Int) < (n : Int) by omega), if_pos (show (0 : Int) ≤ (i : Int) by omega), if_pos (show (i : Int) < (l.length : Int) by omega), wrap_succ (show i < n by omega) (show n ≤ 9223372036854775807 by omega)]
      by_cases h1 : (rd_T42 l (i : Int)).f1.toList = z.toList
      · simp only [if_pos h1]
        rw [wrap_id (by omega) (by omega)]
        simpa only [ppl, if_pos h1] using hs
      · simp only [if_neg h1]
        simpa only [ppl, if_neg h1] using hs
  exact key n 0 (by omega)
theorem impl_peopleIn_ev (l : List S42) (z : ByteArray) (t : Int) (hl : l.length ≤ 1000000) (hc : chg l l.length) : Ev (fun k => impl_peopleIn.f k l z t) (pplT l z t l.length) := by
  have key : ∀ d i, i + d = l.length → Ev (fun k => impl_peopleIn.l0 k z t (pplT l z t i) l (l.length : Int) (i : Int)) (pplT l z t l.length) := by
    intro d
    induction d with
    | zero =>
      intro i hi
      obtain rfl : i = l.length := by omega
      refine Ev.dn ?_
      simp only [impl_peopleIn.l0, if_neg (show ¬ (l.length : Int) < (l.length : Int) by omega)]
      exact Ev.now _
    | succ d ih =>
      intro i hi
      have hb := pplT_bd l z t i (fun j hj => hc j (by omega))
      have hci := hc i (by omega)
      have hs := ih (i + 1) (by omega)
      refine Ev.dn ?_
      simp only [impl_peopleIn.l0, if_pos (show (i : Int) < (l.length : Int) by omega), if_pos (show (0 : Int) ≤ (i : Int) by omega), wrap_succ (show i < l.length by omega) (show l.length ≤ 9223372036854775807 by omega)]
      by_cases h1 : (rd_T42 l (i : Int)).f1.toList = z.toList
      · simp only [if_pos h1]
        by_cases h2 : (rd_T42 l (i : Int)).f0 ≤ t
        · simp only [if_pos h2]
          rw [wrap_id (by omega) (by omega)]
          simpa only [pplT, if_pos (And.intro h1 h2)] using hs
        · simp only [if_neg h2]
          simpa only [pplT, if_neg (fun h3 : _ ∧ _ => h2 h3.2)] using hs
      · simp only [if_neg h1]
        simpa only [pplT, if_neg (fun h3 : _ ∧ _ => h1 h3.1)] using hs
  exact key l.length 0 (by omega)
def mvB (l : List S42) (j : Nat) : Bool :=
  decide (0 ≤ (rd_T42 l (j : Int)).f0) && decide ((rd_T42 l (j : Int)).f0 ≤ 10000000) && isWd (rd_T42 l (j : Int)).f1 &&
    decide (-1000 ≤ (rd_T42 l (j : Int)).f2) && decide ((rd_T42 l (j : Int)).f2 ≤ 1000) && !decide ((rd_T42 l (j : Int)).f2 = 0) &&
    (decide (j = 0) || decide ((rd_T42 l ((j - 1 : Nat) : Int)).f0 ≤ (rd_T42 l (j : Int)).f0)) && !decide (ppl l (rd_T42 l (j : Int)).f1 (j + 1) < 0)
def areMv (l : List S42) : Bool := allD (mvB l) 0 l.length && decide (l.length ≤ 40)
theorem mvB_chg {l : List S42} {n : Nat} (h : ∀ j, j < n → mvB l j = true) : chg l n := by
  intro j hj
  have := h j hj
  unfold mvB at this
  simp only [Bool.and_eq_true, decide_eq_true_eq] at this
  omega
theorem mvB_sorted {l : List S42} {n : Nat} (h : ∀ j, j < n → mvB l j = true) : ∀ b a, a ≤ b → b < n → (rd_T42 l (a : Int)).f0 ≤ (rd_T42 l (b : Int)).f0
  | 0, a, h1, _ => by obtain rfl : a = 0 := by omega
                      exact Int.le_refl _
  | b + 1, a, h1, h2 => by
    by_cases e : a = b + 1
    · rw [e]
      exact Int.le_refl _
    · have ih := mvB_sorted h b a (by omega) (by omega)
      have hs := h (b + 1) h2
      unfold mvB at hs
      simp only [Bool.and_eq_true, Bool.or_eq_true, decide_eq_true_eq] at hs
      rcases hs.1.2 with h3 | h3
      · exact absurd h3 (by omega)
      · exact Int.le_trans ih h3
def szOk (l : List S42) : Prop := ∀ j, j < l.length → (rd_T42 l (j : Int)).f1.size ≤ 9223372036854775807
theorem spec_AreMoves_ev (l : List S42) (hn : l.length ≤ 1000000) (hz : szOk l) : Ev (fun k => spec_AreMoves.f k l) (areMv l) := by
  have h := Ev.allLoopP (l := fun k i => spec_AreMoves.l0 k l i) (n := l.length) (mvB l) false (decide (l.length ≤ 40))
    (fun i hi hp => by
      have hw := spec_IsWord_ev (rd_T42 l (i : Int)).f1 (hz i hi)
      by_cases hc : -1000 ≤ (rd_T42 l (i : Int)).f2 ∧ (rd_T42 l (i : Int)).f2 ≤ 1000
      · have hch : chg l (i + 1) := fun j hj => by
          by_cases e : j = i
          · rw [e]; exact hc
          · exact mvB_chg hp j (by omega)
        refine hw.evt2 (spec_l20People_ev l (rd_T42 l (i : Int)).f1 (i + 1) (by omega) hn hch) (fun k hk hk2 => ?_)
        simp only [spec_AreMoves.l0, spec_l01IsTime.f, spec_l01In.f]
        rw [if_pos (by omega), if_pos (by omega), wrap_succ hi (by omega), hk, hk2]
        generalize spec_AreMoves.l0 k l ((i + 1 : Nat) : Int) = R
        by_cases h0 : i = 0
        · have hz : (i = 0) = True := eq_true h0
          have hq : ¬ 0 < i := by omega
          clear h0
          by_cases h1 : 0 ≤ (rd_T42 l (i : Int)).f0 <;> by_cases h2 : (rd_T42 l (i : Int)).f0 ≤ 10000000 <;> cases h3 : isWd (rd_T42 l (i : Int)).f1 <;> by_cases h4 : (rd_T42 l (i : Int)).f2 = 0 <;> by_cases h5 : ppl l (rd_T42 l (i : Int)).f1 (i + 1) < 0 <;> simp [mvB, hz, hq, hc.1, hc.2, h1, h2, h3, h4, h5]
        · have hq : 0 < i := by omega
          rw [wrap_pred hi (by omega) (by omega)]
          have q1 : (0 : Int) ≤ ((i - 1 : Nat) : Int) := by omega
          have q2 : ((i - 1 : Nat) : Int) < (l.length : Int) := by omega
          by_cases h1 : 0 ≤ (rd_T42 l (i : Int)).f0 <;> by_cases h2 : (rd_T42 l (i : Int)).f0 ≤ 10000000 <;> cases h3 : isWd (rd_T42 l (i : Int)).f1 <;> by_cases h4 : (rd_T42 l (i : Int)).f2 = 0 <;> by_cases h5 : ppl l (rd_T42 l (i : Int)).f1 (i + 1) < 0 <;> by_cases h6 : (rd_T42 l ((i - 1 : Nat) : Int)).f0 ≤ (rd_T42 l (i : Int)).f0 <;> simp [mvB, h0, hq, q1, q2, hc.1, hc.2, h1, h2, h3, h4, h5, h6, Int.not_lt.2, Int.not_le.1] <;> (try omega)
      · refine hw.evt (fun k hk => ?_)
        simp only [spec_AreMoves.l0, spec_l01IsTime.f, spec_l01In.f]
        rw [if_pos (by omega), if_pos (by omega), hk]
        have hmv : mvB l i = false := by
          unfold mvB
          by_cases h7 : -1000 ≤ (rd_T42 l (i : Int)).f2
          · have h8 : ¬ (rd_T42 l (i : Int)).f2 ≤ 1000 := fun h9 => hc ⟨h7, h9⟩
            simp [h8]
          · simp [h7]
        rw [hmv]
        by_cases h1 : 0 ≤ (rd_T42 l (i : Int)).f0 <;> by_cases h2 : (rd_T42 l (i : Int)).f0 ≤ 10000000 <;> cases h3 : isWd (rd_T42 l (i : Int)).f1 <;> by_cases h7 : -1000 ≤ (rd_T42 l (i : Int)).f2 <;> by_cases h8 : (rd_T42 l (i : Int)).f2 ≤ 1000 <;> simp [h1, h2, h3, h7, h8]
        exact absurd ⟨h7, h8⟩ hc)
    (fun _ => Evt.all fun k => by
      simp only [spec_AreMoves.l0]
      rw [if_neg (by omega)]
      congr 1
      exact decide_eq_decide.2 (by omega)) l.length 0 (by omega) (fun j hj => by omega)
  refine h.eq ?_
  unfold areMv
  cases allD (mvB l) 0 l.length <;> simp
theorem impl_AreMoves_ev (l : List S42) (hn : l.length ≤ 1000000) (hz : szOk l) : Ev (fun k => impl_AreMoves.f k l) (areMv l) := by
  unfold impl_AreMoves.f
  by_cases hl : (l.length : Int) > 40
  · simp only [if_pos hl]
    refine (Ev.now false).eq ?_
    unfold areMv
    rw [decide_eq_false (by omega), Bool.and_false]
  simp only [if_neg hl]
  have h := Ev.allLoopQ (l := fun k i => impl_AreMoves.l0 k l l (l.length : Int) i) (n := l.length) (mvB l) false true
    (fun i hi hp => by
      have hw := impl_IsWord_ev (rd_T42 l (i : Int)).f1 (hz i hi)
      have hs1 := wrap_succ hi (show l.length ≤ 9223372036854775807 by omega)
      have hbad : Ev (fun k => impl_AreMoves.j1 k l (i : Int) l (l.length : Int) (i : Int) true (rd_T42 l (i : Int)).f0 (rd_T42 l (i : Int)).f1 (rd_T42 l (i : Int)).f2) false := Ev.dn (by simp only [impl_AreMoves.j1]; exact Ev.now _)
      have hgood : chg l (i + 1) → (∀ j, j < i + 1 → (rd_T42 l (j : Int)).f0 ≤ (rd_T42 l (i : Int)).f0) → ∀ r, (0 ≤ ppl l (rd_T42 l (i : Int)).f1 (i + 1) → Ev (fun k => impl_AreMoves.l0 k l l (l.length : Int) ((i + 1 : Nat) : Int)) r) → (ppl l (rd_T42 l (i : Int)).f1 (i + 1) < 0 → r = false) →
          Ev (fun k => impl_AreMoves.j1 k l (i : Int) l (l.length : Int) (i : Int) false (rd_T42 l (i : Int)).f0 (rd_T42 l (i : Int)).f1 (rd_T42 l (i : Int)).f2) r := by
        intro hch hts r hr hr2
        refine Ev.dn ?_
        simp only [impl_AreMoves.j1, hs1, Bool.false_eq_true, if_false, if_pos (show (0 : Int) ≤ ((i + 1 : Nat) : Int) by omega), if_pos (show ((i + 1 : Nat) : Int) ≤ (l.length : Int) by omega), Int.toNat_natCast]
        have hlt : (l.take (i + 1)).length = i + 1 := by rw [List.length_take]; omega
        have hpe := impl_peopleIn_ev (l.take (i + 1)) (rd_T42 l (i : Int)).f1 (rd_T42 l (i : Int)).f0 (by omega) (fun j hj => by rw [rd_take l (i + 1) j (by omega)]; exact hch j (by omega))
        rw [hlt, ppl_take _ _ _ _ _ (Nat.le_refl _), pplT_ppl _ _ _ _ hts] at hpe
        refine Ev.bind hpe ?_
        by_cases h9 : ppl l (rd_T42 l (i : Int)).f1 (i + 1) < 0
        · simp only [if_pos h9]
          rw [hr2 h9]
          exact Ev.now _
        · simp only [if_neg h9]
          exact hr (by omega)
      have hmain : ∀ r, (mvB l i = true → Ev (fun k => impl_AreMoves.l0 k l l (l.length : Int) ((i + 1 : Nat) : Int)) r) → (mvB l i = false → r = false) → Ev (fun k => impl_AreMoves.l0 k l l (l.length : Int) (i : Int)) r := by
        intro r hr hr2
        refine Ev.dn ?_
        simp only [impl_AreMoves.l0, impl_isTime.f, impl_within.f, if_pos (show (i : Int) < (l.length : Int) by omega), if_pos (show (0 : Int) ≤ (i : Int) by omega)]
        by_cases h1 : 0 ≤ (rd_T42 l (i : Int)).f0
        case neg =>
          simp only [if_neg h1, Option.bind_some, Bool.false_eq_true, if_false]
          exact hbad.eq (hr2 (by simp [mvB, h1])).symm
        simp only [if_pos h1, Option.bind_some]
        by_cases h2 : (rd_T42 l (i : Int)).f0 ≤ 10000000
        case neg =>
          simp only [decide_eq_false h2, Bool.false_eq_true, if_false]
          exact hbad.eq (hr2 (by simp [mvB, h2])).symm
        simp only [decide_eq_true h2, if_true]
        refine Ev.bind hw ?_
        cases h3 : isWd (rd_T42 l (i : Int)).f1 with
        | false =>
          simp only [Bool.false_eq_true, if_false]
          exact hbad.eq (hr2 (by simp [mvB, h3])).symm
        | true =>
        simp only [if_true]
        by_cases h4 : -1000 ≤ (rd_T42 l (i : Int)).f2
        case neg =>
          simp only [if_neg h4, Option.bind_some, Bool.false_eq_true, if_false]
          exact hbad.eq (hr2 (by simp [mvB, h4])).symm
        simp only [if_pos h4, Option.bind_some]
        by_cases h5 : (rd_T42 l (i : Int)).f2 ≤ 1000
        case neg =>
          simp only [decide_eq_false h5, Bool.false_eq_true, if_false]
          exact hbad.eq (hr2 (by simp [mvB, h5])).symm
        simp only [decide_eq_true h5, if_true]
        by_cases h6 : (rd_T42 l (i : Int)).f2 = 0
        case pos =>
          simp only [if_pos h6]
          exact hbad.eq (hr2 (by simp [mvB, h6])).symm
        simp only [if_neg h6]
        have hch : chg l (i + 1) := fun j hj => by
          by_cases e : j = i
          · rw [e]; exact ⟨h4, h5⟩
          · exact mvB_chg hp j (by omega)
        by_cases h0 : i = 0
        · have hz0 : (i = 0) = True := eq_true h0
          simp only [if_neg (show ¬ (i : Int) > 0 by omega)]
          refine hgood hch (fun j hj => by rw [show j = i by omega]; exact Int.le_refl _) r (fun h9 => hr ?_) (fun h9 => hr2 ?_)
          · simp [mvB, hz0, h1, h2, h3, h4, h5, h6, h9]
          · simp [mvB, h9]
        · simp only [if_pos (show (i : Int) > 0 by omega), wrap_pred hi (show 0 < i by omega) (show l.length ≤ 9223372036854775807 by omega), if_pos (show (0 : Int) ≤ ((i - 1 : Nat) : Int) by omega), if_pos (show ((i - 1 : Nat) : Int) < (l.length : Int) by omega)]
          by_cases h7 : (rd_T42 l ((i - 1 : Nat) : Int)).f0 ≤ (rd_T42 l (i : Int)).f0
          · rw [decide_eq_false (show ¬ (rd_T42 l ((i - 1 : Nat) : Int)).f0 > (rd_T42 l (i : Int)).f0 by omega)]
            refine hgood hch (fun j hj => ?_) r (fun h9 => hr ?_) (fun h9 => hr2 ?_)
            · by_cases e : j = i
              · rw [e]; exact Int.le_refl _
              · exact Int.le_trans (mvB_sorted hp (i - 1) j (by omega) (by omega)) h7
            · simp [mvB, h1, h2, h3, h4, h5, h6, h7, h9]
            · simp [mvB, h9]
          · rw [decide_eq_true (show (rd_T42 l ((i - 1 : Nat) : Int)).f0 > (rd_T42 l (i : Int)).f0 by omega)]
            exact hbad.eq (hr2 (by simp [mvB, h0, h7])).symm
      exact ⟨fun hs r hr => hmain r (fun _ => hr) (fun h => by rw [hs] at h; exact absurd h (by decide)), fun hs => hmain false (fun h => by rw [hs] at h; exact absurd h (by decide)) (fun _ => rfl)⟩)
    (fun _ => Ev.dn (by
      simp only [impl_AreMoves.l0, if_neg (show ¬ (l.length : Int) < (l.length : Int) by omega)]
      exact Ev.now _)) l.length 0 (by omega) (fun j hj => by omega)
  refine h.eq ?_
  unfold areMv
  rw [decide_eq_true (by omega : l.length ≤ 40), Bool.and_true]
  cases allD (mvB l) 0 l.length <;> simp
theorem eqMoveS_refl (l : List S42) (hn : l.length ≤ 9223372036854775807) : Ev (fun k => laws_eqMoveS.f k l l) true := by
  unfold laws_eqMoveS.f
  simp only [if_pos rfl]
  have h := Ev.allLoop (l := fun k i => laws_eqMoveS.l0 k l l i) (n := l.length) (fun _ => true) false true
    (fun i hi => Evt.all fun k => by
      simp only [laws_eqMoveS.l0, laws_eqMove.f]
      rw [if_pos (by omega), if_pos (by omega), if_pos (by omega), wrap_succ hi hn]
      simp)
    (Evt.all fun k => by
      simp only [laws_eqMoveS.l0]
      rw [if_neg (by omega)]) l.length 0 (by omega)
  refine h.eq ?_
  rw [if_pos ((allD_iff _ _ _).2 (fun _ _ _ => rfl))]
theorem intactMoveS_refl (l : List S42) (hn : l.length ≤ 1000000) : Ev (fun k => laws_intactMoveS.f k l l) true := by
  unfold laws_intactMoveS.f
  simp only [if_pos rfl]
  exact eqMoveS_refl _ (full_le l hn)
theorem toMoveS_some (k : Nat) (l : List S38) (b : Bool) (hn : l.length ≤ 1000000) : laws_toMoveS.f k l b = some (l.map laws_toMoveS.conv) := by
  unfold laws_toMoveS.f
  rw [if_pos hn]
theorem szMoveS_some (l : List S38) (hl : l.length ≤ 9223372036854775807) (hz : ∀ y ∈ l, y.f1.size ≤ 9223372036854775807) (a : Int) (ha : -9223372036854775808 ≤ a - (l.length : Int)) (ha2 : a ≤ 1000000) : ∃ r : Int, Ev (fun k => laws_szMoveS.f k l a) r ∧ (¬ r < 0 → l.length ≤ 1000000 ∧ a - (l.length : Int) ≥ 0 ∧ r ≤ 1000000) := by
  unfold laws_szMoveS.f
  rw [wrap_id ha (by omega)]
  by_cases h : a - (l.length : Int) < 0
  · simp only [if_pos h]
    exact ⟨-1, Ev.now _, fun h2 => absurd (show (-1 : Int) < 0 by decide) h2⟩
  simp only [if_neg h]
  have key : ∀ d i, i + d = l.length → ∀ x : Int, 0 ≤ x → x ≤ 1000000 → ∃ r : Int, r ≤ 1000000 ∧ Ev (fun k => laws_szMoveS.l0 k l x (i : Int)) r := by
    intro d
    induction d with
    | zero =>
      intro i hi x h0 h1
      refine ⟨x, h1, Ev.dn ?_⟩
      simp only [laws_szMoveS.l0, if_neg (show ¬ (i : Int) < (l.length : Int) by omega)]
      exact Ev.now _
    | succ d ih =>
      intro i hi x h0 h1
      have hs := hz l[i] (List.getElem_mem (by omega))
      have hr : (rd_T38 l (i : Int)).f1.size ≤ 9223372036854775807 := by
        rw [show rd_T38 l (i : Int) = l[i] by simp [rd_T38, show i < l.length by omega]]
        exact hs
      by_cases g : x - ((rd_T38 l (i : Int)).f1.size : Int) < 0
      · refine ⟨-1, by omega, Ev.dn ?_⟩
        simp only [laws_szMoveS.l0, laws_szMove.f, if_pos (show (i : Int) < (l.length : Int) by omega), if_pos (show (0 : Int) ≤ (i : Int) by omega)]
        rw [wrap_id (by omega) (by omega)]
        simp only [if_pos g, Option.bind_some, if_pos (show (-1 : Int) < 0 by decide)]
        exact Ev.now _
      · obtain ⟨r, hr1, hr2⟩ := ih (i + 1) (by omega) (x - ((rd_T38 l (i : Int)).f1.size : Int)) (by omega) (by omega)
        refine ⟨r, hr1, Ev.dn ?_⟩
        simp only [laws_szMoveS.l0, laws_szMove.f, if_pos (show (i : Int) < (l.length : Int) by omega), if_pos (show (0 : Int) ≤ (i : Int) by omega)]
        rw [wrap_id (by omega) (by omega)]
        simp only [if_neg g, Option.bind_some, wrap_succ (show i < l.length by omega) hl]
        exact hr2
  obtain ⟨r, hr1, hr2⟩ := key l.length 0 (by omega) (a - (l.length : Int)) (by omega) (by omega)
  exact ⟨r, hr2, fun _ => ⟨by omega, by omega, hr1⟩⟩
theorem conv_szOk (l : List S38) (hz : ∀ y ∈ l, y.f1.size ≤ 9223372036854775807) : szOk (l.map laws_toMoveS.conv) := by
  intro j hj
  have hj2 : j < l.length := by simpa using hj
  rw [rd_T42_nat hj]
  simpa [laws_toMoveS.conv] using hz l[j] (List.getElem_mem hj2)
theorem areMv_ok {l : List S42} (h : areMv l = true) : (∀ j, j < l.length → mvB l j = true) ∧ l.length ≤ 40 := by
  unfold areMv at h
  simp only [Bool.and_eq_true, decide_eq_true_eq] at h
  exact ⟨fun j hj => (allD_iff _ _ _).1 h.1 j (by omega) (by omega), h.2⟩
theorem markText_loop : ∀ n (m : Nat) (s : ByteArray), m < 10 ^ n → n ≤ 18 → s.size + n + 1 ≤ 9223372036854775807 → ∃ r, Ev (fun k => laws_markText.l0 k (m : Int) s) r := by
  intro n
  induction n with
  | zero =>
    intro m s hm _ hs
    obtain rfl : m = 0 := by omega
    refine ⟨(⟨#[109]⟩ : ByteArray) ++ s, Ev.dn ?_⟩
    simp only [laws_markText.l0, if_neg (show ¬ ((0 : Nat) : Int) > 0 by decide), if_pos (show 1 + s.size ≤ 9223372036854775807 by omega)]
    exact Ev.now _
  | succ n ih =>
    intro m s hm hn hs
    by_cases h0 : m = 0
    · subst h0
      refine ⟨(⟨#[109]⟩ : ByteArray) ++ s, Ev.dn ?_⟩
      simp only [laws_markText.l0, if_neg (show ¬ ((0 : Nat) : Int) > 0 by decide), if_pos (show 1 + s.size ≤ 9223372036854775807 by omega)]
      exact Ev.now _
    · have hd : Int.tdiv (m : Int) 10 = ((m / 10 : Nat) : Int) := (Int.ofNat_tdiv m 10).symm
      have hp : 10 ^ (n + 1) ≤ 10 ^ 18 := Nat.pow_le_pow_right (by decide) hn
      have hlt : m / 10 < 10 ^ n := by rw [Nat.pow_succ] at hm; omega
      obtain ⟨y, hy⟩ : ∃ y, y = [(wrap64 (48 + (Int.tmod (m : Int) 10))) % 256] := ⟨_, rfl⟩
      have hsz : (strOfNums y).size = 1 := by rw [hy]; rfl
      obtain ⟨r, hr⟩ := ih (m / 10) (strOfNums y ++ s) hlt (by omega) (by rw [ByteArray.size_append, hsz]; omega)
      refine ⟨r, Ev.dn ?_⟩
      refine Ev.eq' hr (fun k => ?_)
      simp only [laws_markText.l0]
      rw [if_pos (show (m : Int) > 0 by omega), Option.bind_some, ← hy, hsz, if_pos (show 1 + s.size ≤ 9223372036854775807 by omega), hd, wrap_id (by omega) (by omega)]
theorem markText_ev (a : Int) (h1 : 1 ≤ a) (h2 : a ≤ 100000000) : ∃ r, Ev (fun k => laws_markText.f k a) r := by
  obtain ⟨m, rfl⟩ : ∃ m : Nat, a = (m : Int) := ⟨a.toNat, by omega⟩
  obtain ⟨r, hr⟩ := markText_loop 18 m (⟨#[]⟩ : ByteArray) (by omega) (by omega) (by decide)
  refine ⟨r, ?_⟩
  unfold laws_markText.f
  simp only [if_neg (show ¬ (m : Int) ≤ 0 by omega)]
  exact hr
theorem marks : ∃ txt : Int → ByteArray, ∀ a, 1 ≤ a → a ≤ 100000000 → Ev (fun k => laws_markText.f k a) (txt a) := by
  obtain ⟨f, hf⟩ := Classical.axiomOfChoice (r := fun (a : Int) (s : ByteArray) => 1 ≤ a → a ≤ 100000000 → Ev (fun k => laws_markText.f k a) s) (fun a => by
    by_cases h : 1 ≤ a ∧ a ≤ 100000000
    · obtain ⟨r, hr⟩ := markText_ev a h.1 h.2
      exact ⟨r, fun _ _ => hr⟩
    · exact ⟨ByteArray.empty, fun h1 h2 => absurd ⟨h1, h2⟩ h⟩)
  exact ⟨f, hf⟩
theorem rd_set_self (l : List S42) (i : Nat) (v : S42) (h : i < l.length) : rd_T42 (l.set i v) (i : Int) = v := by
  simp [rd_T42, h]
theorem rd_set_ne (l : List S42) (i j : Nat) (v : S42) (h : i ≠ j) : rd_T42 (l.set i v) (j : Int) = rd_T42 l (j : Int) := by
  simp [rd_T42, List.getElem?_set_ne h]
theorem markMoveS_ev {txt : Int → ByteArray} (ht : ∀ a, 1 ≤ a → a ≤ 100000000 → Ev (fun k => laws_markText.f k a) (txt a)) (l : List S42) (hn : l.length ≤ 1000000) :
    ∃ L : List S42, Ev (fun k => laws_markMoveS.f k l 101) (101 + 3 * (l.length : Int), L) ∧ L.length = l.length ∧ ∀ j, j < l.length → rd_T42 L (j : Int) = ⟨101 + 3 * (j : Int), txt (102 + 3 * (j : Int)), 103 + 3 * (j : Int)⟩ := by
  have key : ∀ d i (x0 : List S42), i + d = l.length → x0.length = l.length → (∀ j, j < i → rd_T42 x0 (j : Int) = ⟨101 + 3 * (j : Int), txt (102 + 3 * (j : Int)), 103 + 3 * (j : Int)⟩) →
      ∃ L : List S42, Ev (fun k => laws_markMoveS.l0 k x0 (101 + 3 * (i : Int)) (i : Int)) (101 + 3 * (l.length : Int), L) ∧ L.length = l.length ∧ ∀ j, j < l.length → rd_T42 L (j : Int) = ⟨101 + 3 * (j : Int), txt (102 + 3 * (j : Int)), 103 + 3 * (j : Int)⟩ := by
    intro d
    induction d with
    | zero =>
      intro i x0 hi hx hm
      obtain rfl : i = l.length := by omega
      refine ⟨x0, Ev.dn ?_, hx, hm⟩
      simp only [laws_markMoveS.l0, if_neg (show ¬ (l.length : Int) < (x0.length : Int) by omega)]
      exact Ev.now _
    | succ d ih =>
      intro i x0 hi hx hm
      have h0 := ht (102 + 3 * (i : Int)) (by omega) (by omega)
      have hw1 : wrap64 (101 + 3 * (i : Int) + 1) = 102 + 3 * (i : Int) := by rw [wrap_id (by omega) (by omega)]; omega
      have hw2 : wrap64 (102 + 3 * (i : Int) + 1) = 103 + 3 * (i : Int) := by rw [wrap_id (by omega) (by omega)]; omega
      have hw3 : wrap64 (103 + 3 * (i : Int) + 1) = 101 + 3 * ((i + 1 : Nat) : Int) := by rw [wrap_id (by omega) (by omega)]; omega
      obtain ⟨y1, e1⟩ : ∃ y1, y1 = x0.set i (⟨101 + 3 * (i : Int), (rd_T42 x0 (i : Int)).f1, (rd_T42 x0 (i : Int)).f2⟩ : S42) := ⟨_, rfl⟩
      obtain ⟨y2, e2⟩ : ∃ y2, y2 = y1.set i (⟨(rd_T42 y1 (i : Int)).f0, txt (102 + 3 * (i : Int)), (rd_T42 y1 (i : Int)).f2⟩ : S42) := ⟨_, rfl⟩
      obtain ⟨y3, e3⟩ : ∃ y3, y3 = y2.set i (⟨(rd_T42 y2 (i : Int)).f0, (rd_T42 y2 (i : Int)).f1, 103 + 3 * (i : Int)⟩ : S42) := ⟨_, rfl⟩
      have n1 : y1.length = l.length := by rw [e1, List.length_set, hx]
      have n2 : y2.length = l.length := by rw [e2, List.length_set, n1]
      have n3 : y3.length = l.length := by rw [e3, List.length_set, n2]
      have r1 : rd_T42 y1 (i : Int) = ⟨101 + 3 * (i : Int), (rd_T42 x0 (i : Int)).f1, (rd_T42 x0 (i : Int)).f2⟩ := by rw [e1]; exact rd_set_self _ _ _ (by omega)
      have r2 : rd_T42 y2 (i : Int) = ⟨101 + 3 * (i : Int), txt (102 + 3 * (i : Int)), (rd_T42 x0 (i : Int)).f2⟩ := by rw [e2, rd_set_self _ _ _ (by omega), r1]
      have r3 : rd_T42 y3 (i : Int) = ⟨101 + 3 * (i : Int), txt (102 + 3 * (i : Int)), 103 + 3 * (i : Int)⟩ := by rw [e3, rd_set_self _ _ _ (by omega), r2]
      obtain ⟨L, hL, hL2, hL3⟩ := ih (i + 1) y3 (by omega) n3 (fun j hj => by
        by_cases e : j = i
        · rw [e]; exact r3
        · rw [e3, rd_set_ne _ _ _ _ (Ne.symm e), e2, rd_set_ne _ _ _ _ (Ne.symm e), e1, rd_set_ne _ _ _ _ (Ne.symm e)]
          exact hm j (by omega))
      refine ⟨L, Ev.dn ?_, hL2, hL3⟩
      simp only [laws_markMoveS.l0, if_pos (show (i : Int) < (x0.length : Int) by omega), if_pos (show (0 : Int) ≤ (i : Int) by omega), Int.toNat_natCast, hw1, hw2, hw3, wrap_succ (show i < l.length by omega) (show l.length ≤ 9223372036854775807 by omega), Option.bind_some, ← e1]
      refine Ev.bind h0 ?_
      simp only [← e2, Option.bind_some, ← e3]
      exact hL
  exact key l.length 0 l (by omega) rfl (fun j hj => by omega)
theorem heldMoveS_ev {txt : Int → ByteArray} (ht : ∀ a, 1 ≤ a → a ≤ 100000000 → Ev (fun k => laws_markText.f k a) (txt a)) (L : List S42) (hn : L.length ≤ 1000000)
    (hL : ∀ j, j < L.length → rd_T42 L (j : Int) = ⟨101 + 3 * (j : Int), txt (102 + 3 * (j : Int)), 103 + 3 * (j : Int)⟩) : Ev (fun k => laws_heldMoveS.f k L 101) (101 + 3 * (L.length : Int)) := by
  have key : ∀ d i, i + d = L.length → Ev (fun k => laws_heldMoveS.l0 k L (101 + 3 * (i : Int)) (i : Int)) (101 + 3 * (L.length : Int)) := by
    intro d
    induction d with
    | zero =>
      intro i hi
      obtain rfl : i = L.length := by omega
      refine Ev.dn ?_
      simp only [laws_heldMoveS.l0, if_neg (show ¬ (L.length : Int) < (L.length : Int) by omega)]
      exact Ev.now _
    | succ d ih =>
      intro i hi
      have hs := ih (i + 1) (by omega)
      have h0 := ht (102 + 3 * (i : Int)) (by omega) (by omega)
      have hw1 : wrap64 (101 + 3 * (i : Int) + 1) = 102 + 3 * (i : Int) := by rw [wrap_id (by omega) (by omega)]; omega
      have hw2 : wrap64 (102 + 3 * (i : Int) + 1) = 103 + 3 * (i : Int) := by rw [wrap_id (by omega) (by omega)]; omega
      have hw3 : wrap64 (103 + 3 * (i : Int) + 1) = 101 + 3 * ((i + 1 : Nat) : Int) := by rw [wrap_id (by omega) (by omega)]; omega
      refine Ev.dn ?_
      simp only [laws_heldMoveS.l0, hL i (by omega), if_pos (show (i : Int) < (L.length : Int) by omega), if_pos (show (0 : Int) ≤ (i : Int) by omega), hw1, hw2, hw3, wrap_succ (show i < L.length by omega) (show L.length ≤ 9223372036854775807 by omega), if_true]
      refine Ev.bind h0 ?_
      simp only [if_true]
      exact hs
  exact key L.length 0 (by omega)
theorem AddMove_both (l : List S42) (a : Int) (z : ByteArray) (b : Int) (hl : l.length ≤ 1000000) (hz : szOk l) (hs : z.size ≤ 9223372036854775807) : ∃ r : List S42 × Int, Ev (fun k => spec_AddMove.f k l a z b) r ∧ Ev (fun k => impl_AddMove.f k l a z b) r ∧ r.1.length ≤ 1000 := by
  have h1 := spec_AreMoves_ev l hl hz
  have h2 := impl_AreMoves_ev l hl hz
  unfold spec_AddMove.f impl_AddMove.f
  cases g1 : areMv l with
  | false =>
    rw [g1] at h1 h2
    refine ⟨([], 1), ?_, ?_, by simp⟩
    · refine Ev.bind h1 ?_
      simp only [Bool.false_eq_true, if_false]
      exact Ev.now _
    · refine Ev.bind h2 ?_
      simp only [Bool.false_eq_true, if_false]
      exact Ev.now _
  | true =>
  rw [g1] at h1 h2
  obtain ⟨hb, hn⟩ := areMv_ok g1
  by_cases g2 : (l.length : Int) = 40
  · refine ⟨([], 3), ?_, ?_, by simp⟩
    · refine Ev.bind h1 ?_
      simp only [if_true, if_pos g2]
      exact Ev.now _
    · refine Ev.bind h2 ?_
      simp only [if_true, if_pos g2]
      exact Ev.now _
  obtain ⟨y1, e1⟩ : ∃ y1, y1 = ([] : List S42) ++ l := ⟨_, rfl⟩
  obtain ⟨y2, e2⟩ : ∃ y2, y2 = ([(⟨a, z, b⟩ : S42)] : List S42) := ⟨_, rfl⟩
  obtain ⟨y3, e3⟩ : ∃ y3, y3 = y1 ++ y2 := ⟨_, rfl⟩
  have n1 : y1.length = l.length := by rw [e1]; rfl
  have n3 : y3.length = l.length + 1 := by rw [e3, e2, List.length_append, n1]; rfl
  have hz3 : szOk y3 := by
    intro j hj
    rw [e3, e2, e1, List.nil_append]
    by_cases c : j < l.length
    · have := hz j c
      rw [rd_T42_nat (by simp; omega), List.getElem_append_left c]
      rwa [rd_T42_nat c] at this
    · rw [rd_T42_nat (by simp; omega), List.getElem_append_right (by omega)]
      simpa using hs
  have k1 := spec_AreMoves_ev y3 (by omega) hz3
  have k2 := impl_AreMoves_ev y3 (by omega) hz3
  refine ⟨if areMv y3 = true then (y3, 0) else ([], 5), ?_, ?_, ?_⟩
  · refine Ev.bind h1 ?_
    refine Ev.eq' (f := fun k => (spec_AreMoves.f k y3).bind fun t => if t = true then some (y3, 0) else some ([], 5)) ?_ (fun k => ?_)
    · refine Ev.bind k1 ?_
      cases areMv y3 <;> exact Ev.now _
    · rw [if_pos rfl, if_neg g2, Option.bind_some, if_pos (by simp; omega), ← e1, Option.bind_some, ← e2, Option.bind_some, if_pos (by rw [n1, e2]; simp; omega), ← e3, Option.bind_some]
  · refine Ev.bind h2 ?_
    refine Ev.eq' (f := fun k => (impl_AreMoves.f k y3).bind fun t => if t = true then some (y3, 0) else some ([], 5)) ?_ (fun k => ?_)
    · refine Ev.bind k2 ?_
      cases areMv y3 <;> exact Ev.now _
    · rw [if_pos rfl, if_neg g2, Option.bind_some, if_pos (by simp; omega), ← e1, Option.bind_some, ← e2, Option.bind_some, if_pos (by rw [n1, e2]; simp; omega), ← e3, Option.bind_some]
  · split
    · show y3.length ≤ 1000
      omega
    · simp
theorem FnExactAddMove : ∀ (l0 : List S38) (x1_0 : Int) (x1_1 : ByteArray) (x1_2 : Int), (l0.length ≤ reachBytes ∧ ∀ y ∈ l0, ((Lit.int .i64 y.f0).wf = true ∧ y.f1.size ≤ reachBytes ∧ (Lit.int .i64 y.f2).wf = true)) → ((Lit.int .i64 x1_0).wf = true ∧ x1_1.size ≤ reachBytes ∧ (Lit.int .i64 x1_2).wf = true) → ∃ k, laws_FnExactAddMove.f k l0 x1_0 x1_1 x1_2 = some true := by
  intro l0 x1_0 x1_1 x1_2 ⟨hm, hy⟩ ⟨hw1, hs, hw2⟩
  unfold reachBytes at hm hy hs
  apply Ev.rounds
  unfold laws_FnExactAddMove.f
  have hz : ∀ y ∈ l0, y.f1.size ≤ 9223372036854775807 := fun y h => Nat.le_trans (hy y h).2.1 (by decide)
  obtain ⟨r, hr, hr2⟩ := szMoveS_some l0 (by omega) hz 1000000 (by omega) (by omega)
  refine Ev.bind hr ?_
  by_cases h : r < 0
  · simp only [if_pos h]
    exact Ev.now _
  obtain ⟨hl, _, hr3⟩ := hr2 h
  simp only [if_neg h, laws_szMove.f]
  rw [wrap_id (by omega) (by omega)]
  by_cases h' : r - (x1_1.size : Int) < 0
  · simp only [if_pos h', Option.bind_some, if_pos (show (-1 : Int) < 0 by decide)]
    exact Ev.now _
  simp only [if_neg h', Option.bind_some, toMoveS_some _ l0 _ hl, laws_toMove.f]
  have hc : (l0.map laws_toMoveS.conv).length ≤ 1000000 := by simpa using hl
  have hso := conv_szOk l0 hz
  generalize hcc : l0.map laws_toMoveS.conv = c at hc hso
  obtain ⟨txt, htxt⟩ := marks
  obtain ⟨p, h1, h2, h3⟩ := AddMove_both c x1_0 x1_1 x1_2 hc hso (by omega)
  obtain ⟨L0, hL0, _, _⟩ := markMoveS_ev htxt c hc
  obtain ⟨L, hL, hL2, hL3⟩ := markMoveS_ev htxt p.1 (by omega)
  have hH := heldMoveS_ev htxt L (by omega) (fun j hj => hL3 j (by omega))
  rw [hL2] at hH
  refine Ev.bind h1 (Ev.bind h2 (Ev.bind (eqMoveS_refl p.1 (by omega)) ?_))
  simp only [bne_self_eq_false, if_true]
  refine Ev.dn ?_
  simp only [laws_FnExactAddMove.j0, Bool.false_eq_true, if_false, toMoveS_some _ l0 _ hl, Option.bind_some, hcc]
  refine Ev.bind (intactMoveS_refl c hc) ?_
  simp only [if_true]
  refine Ev.bind hL0 ?_
  simp only [if_neg (show ¬ 101 + 3 * (c.length : Int) < 0 by omega)]
  refine Ev.bind (eqMoveS_refl p.1 (by omega)) ?_
  simp only [bne_self_eq_false, if_true]
  refine Ev.dn ?_
  simp only [laws_FnExactAddMove.j1, Bool.false_eq_true, if_false]
  refine Ev.bind hL ?_
  refine Ev.bind hH ?_
  simp only [if_neg (show ¬ 101 + 3 * (p.1.length : Int) < 0 by omega), if_true, toMoveS_some _ l0 _ hl, Option.bind_some, hcc, laws_toMove.f]
  refine Ev.bind h2 (Ev.bind (eqMoveS_refl p.1 (by omega)) ?_)
  simp only [bne_self_eq_false, if_true]
  refine Ev.dn ?_
  simp only [laws_FnExactAddMove.j2, Bool.false_eq_true, if_false]
  refine Ev.bind hH ?_
  simp only [if_neg (show ¬ 101 + 3 * (p.1.length : Int) < 0 by omega), if_true]
  exact Ev.now _
end Go.Proofs.Ytllhghcepbkpeaa.Pure
