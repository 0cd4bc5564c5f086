/- The law FnExactAreAllClear as a statement over numbers and lists, proved; no condition but the sizes and ranges that every input has. -/
import Derived.Test.YtllhghcepbkpeaaF20
import Derived.Test.YtllhghcepbkpeaaEv
namespace Go.Proofs.Ytllhghcepbkpeaa.Pure
open Go.RowKit Go.Proofs.Ytllhghcepbkpeaa.Pall Go.Proofs.YtllhghcepbkpeaaW.PrintWords
set_option linter.unusedSimpArgs false
set_option linter.unusedVariables false
def wdB (s : ByteArray) (j : Nat) : Bool := !decide (bt s (j : Int) < 97) && !decide (bt s (j : Int) > 122)
def isWd (s : ByteArray) : Bool := allD (wdB s) 0 s.size && (decide (1 ≤ s.size) && decide (s.size ≤ 16))
theorem spec_IsWord_ev (s : ByteArray) (hn : s.size ≤ 9223372036854775807) : Ev (fun k => spec_IsWord.f k s) (isWd s) := by
  have h := Ev.allLoop (l := fun k i => spec_IsWord.l0 k s i) (n := s.size) (wdB s) false (decide (1 ≤ s.size) && decide (s.size ≤ 16))
    (fun i hi => Evt.all fun k => by
      simp only [spec_IsWord.l0]
      rw [if_pos (by omega), if_pos (by omega), wrap_succ hi hn]
      by_cases h1 : bt s (i : Int) < 97 <;> by_cases h2 : bt s (i : Int) > 122 <;> simp [wdB, h1, h2])
    (Evt.all fun k => by
      simp only [spec_IsWord.l0, spec_l01In.f]
      rw [if_neg (by omega)]
      by_cases h1 : 1 ≤ s.size
      · have e2 : decide (s.size ≤ 16) = decide ((s.size : Int) ≤ 16) := decide_eq_decide.2 (by omega)
        rw [if_pos (by omega), Option.bind_some, e2, decide_eq_true h1, Bool.true_and]
      · rw [if_neg (by omega), Option.bind_some, decide_eq_false h1, Bool.false_and]) s.size 0 (by omega)
  refine h.eq ?_
  unfold isWd
  cases allD (wdB s) 0 s.size <;> simp
theorem impl_IsWord_ev (s : ByteArray) (hn : s.size ≤ 9223372036854775807) : Ev (fun k => impl_IsWord.f k s) (isWd s) := by
  have hb : Ev (fun k => impl_IsWord.j0 k s true) false := Ev.dn (by simp only [impl_IsWord.j0]; exact Ev.now _)
  unfold impl_IsWord.f isWd
  by_cases h1 : (s.size : Int) < 1
  · simp only [if_pos h1]
    refine hb.eq ?_
    rw [decide_eq_false (show ¬ 1 ≤ s.size by omega)]
    simp
  simp only [if_neg h1]
  rw [decide_eq_true (show 1 ≤ s.size by omega)]
  by_cases h2 : s.size ≤ 16
  · rw [decide_eq_false (show ¬ (s.size : Int) > 16 by omega), decide_eq_true h2]
    refine Ev.dn ?_
    simp only [impl_IsWord.j0, Bool.false_eq_true, if_false]
    have h := Ev.allLoop (l := fun k i => impl_IsWord.l0 k s i) (n := s.size) (wdB s) false true
      (fun i hi => Evt.all fun k => by
        simp only [impl_IsWord.l0]
        rw [if_pos (by omega), if_pos (by omega), wrap_succ hi hn]
        by_cases h1 : bt s (i : Int) < 97 <;> by_cases h2 : bt s (i : Int) > 122 <;> simp [wdB, h1, h2])
      (Evt.all fun k => by
        simp only [impl_IsWord.l0]
        rw [if_neg (by omega)]) s.size 0 (by omega)
    refine h.eq ?_
    cases allD (wdB s) 0 s.size <;> simp
  · rw [decide_eq_true (show (s.size : Int) > 16 by omega), decide_eq_false h2]
    refine hb.eq (by simp)
theorem rd_T42_nat {l : List S42} {i : Nat} (h : i < l.length) : rd_T42 l (i : Int) = l[i] := by simp [rd_T42, h]
/-- The people of a zone behind the first n moves. -/
def ppl (l : List S42) (z : ByteArray) : Nat → Int
  | 0 => 0
  | n + 1 => if (rd_T42 l (n : Int)).f1.toList = z.toList then ppl l z n + (rd_T42 l (n : Int)).f2 else ppl l z n
/-- The same, of the moves up to a time. -/
def pplT (l : List S42) (z : ByteArray) (t : Int) : Nat → Int
  | 0 => 0
  | n + 1 => if (rd_T42 l (n : Int)).f1.toList = z.toList ∧ (rd_T42 l (n : Int)).f0 ≤ t then pplT l z t n + (rd_T42 l (n : Int)).f2 else pplT l z t n
def chg (l : List S42) (n : Nat) : Prop := ∀ j, j < n → -1000 ≤ (rd_T42 l (j : Int)).f2 ∧ (rd_T42 l (j : Int)).f2 ≤ 1000
theorem ppl_bd (l : List S42) (z : ByteArray) : ∀ n, chg l n → -(1000 * (n : Int)) ≤ ppl l z n ∧ ppl l z n ≤ 1000 * (n : Int)
  | 0, _ => by simp [ppl]
  | n + 1, h => by
    have ih := ppl_bd l z n (fun j hj => h j (by omega))
    have := h n (by omega)
    simp only [ppl]
    split <;> omega
theorem pplT_bd (l : List S42) (z : ByteArray) (t : Int) : ∀ n, chg l n → -(1000 * (n : Int)) ≤ pplT l z t n ∧ pplT l z t n ≤ 1000 * (n : Int)
  | 0, _ => by simp [pplT]
  | n + 1, h => by
    have ih := pplT_bd l z t n (fun j hj => h j (by omega))
    have := h n (by omega)
    simp only [pplT]
    split <;> omega
theorem pplT_ppl (l : List S42) (z : ByteArray) (t : Int) : ∀ n : Nat, (∀ j, j < n → (rd_T42 l (j : Int)).f0 ≤ t) → pplT l z t n = ppl l z n
  | 0, _ => rfl
  | n + 1, h => by
    have := h n (by omega)
    simp only [pplT, ppl, this, and_true]
    rw [pplT_ppl l z t n (fun j hj => h j (by omega))]
theorem pplT_stop (l : List S42) (z : ByteArray) (t : Int) (m : Nat) : ∀ n, m ≤ n → (∀ j, m ≤ j → j < n → ¬ (rd_T42 l (j : Int)).f0 ≤ t) → pplT l z t n = pplT l z t m
  | 0, h, _ => by obtain rfl : m = 0 := by omega
                  rfl
  | n + 1, h, hj => by
    by_cases e : m = n + 1
    · rw [e]
    · have := hj n (by omega) (by omega)
      simp only [pplT, this, and_false, if_false]
      exact pplT_stop l z t m n (by omega) (fun j h1 h2 => hj j h1 (by omega))
theorem rd_take (l : List S42) (m j : Nat) (h : j < m) : rd_T42 (l.take m) (j : Int) = rd_T42 l (j : Int) := by
  simp [rd_T42, List.getElem?_take, h]
theorem ppl_take (l : List S42) (z : ByteArray) (t : Int) (m : Nat) : ∀ n, n ≤ m → pplT (l.take m) z t n = pplT l z t n
  | 0, _ => rfl
  | n + 1, h => by
    simp only [pplT]
    rw [rd_take l m n (by omega), ppl_take l z t m n (by omega)]
theorem spec_l20People_ev (l : List S42) (z : ByteArray) (n : Nat) (hn : n ≤ l.length) (hl : l.length ≤ 1000000) (hc : chg l n) : Ev (fun k => spec_l20People.f k l z (n : Int)) (ppl l z n) := by
  have key : ∀ d i, i + d = n → Ev (fun k => spec_l20People.l0 k l z (n : Int) (ppl l z i) (i : Int)) (ppl l z n) := by
    intro d
    induction d with
    | zero =>
      intro i hi
      obtain rfl : i = n := by omega
      refine Ev.dn ?_
      simp only [spec_l20People.l0, if_neg (show ¬ (i : Int) < (i : Int) by omega)]
      exact Ev.now _
    | succ d ih =>
      intro i hi
      have hb := ppl_bd l z i (fun j hj => hc j (by omega))
      have hci := hc i (by omega)
      have hs := ih (i + 1) (by omega)
      refine Ev.dn ?_
      simp only [spec_l20People.l0, if_pos (show (i : Int) < (n : Int) by omega), if_pos (show (0 : Int) ≤ (i : Int) by omega), if_pos (show (i : Int) < (l.length : Int) by omega), wrap_succ (show i < n by omega) (show n ≤ 9223372036854775807 by omega)]
      by_cases h1 : (rd_T42 l (i : Int)).f1.toList = z.toList
      · simp only [if_pos h1]
        rw [wrap_id (by omega) (by omega)]
        simpa only [ppl, if_pos h1] using hs
      · simp only [if_neg h1]
        simpa only [ppl, if_neg h1] using hs
  exact key n 0 (by omega)
theorem impl_peopleIn_ev (l : List S42) (z : ByteArray) (t : Int) (hl : l.length ≤ 1000000) (hc : chg l l.length) : Ev (fun k => impl_peopleIn.f k l z t) (pplT l z t l.length) := by
  have key : ∀ d i, i + d = l.length → Ev (fun k => impl_peopleIn.l0 k z t (pplT l z t i) l (l.length : Int) (i : Int)) (pplT l z t l.length) := by
    intro d
    induction d with
    | zero =>
      intro i hi
      obtain rfl : i = l.length := by omega
      refine Ev.dn ?_
      simp only [impl_peopleIn.l0, if_neg (show ¬ (l.length : Int) < (l.length : Int) by omega)]
      exact Ev.now _
    | succ d ih =>
      intro i hi
      have hb := pplT_bd l z t i (fun j hj => hc j (by omega))
      have hci := hc i (by omega)
      have hs := ih (i + 1) (by omega)
      refine Ev.dn ?_
      simp only [impl_peopleIn.l0, if_pos (show (i : Int) < (l.length : Int) by omega), if_pos (show (0 : Int) ≤ (i : Int) by omega), wrap_succ (show i < l.length by omega) (show l.length ≤ 9223372036854775807 by omega)]
      by_cases h1 : (rd_T42 l (i : Int)).f1.toList = z.toList
      · simp only [if_pos h1]
        by_cases h2 : (rd_T42 l (i : Int)).f0 ≤ t
        · simp only [if_pos h2]
          rw [wrap_id (by omega) (by omega)]
          simpa only [pplT, if_pos (And.intro h1 h2)] using hs
        · simp only [if_neg h2]
          simpa only [pplT, if_neg (fun h3 : _ ∧ _ => h2 h3.2)] using hs
      · simp only [if_neg h1]
        simpa only [pplT, if_neg (fun h3 : _ ∧ _ => h1 h3.1)] using hs
  exact key l.length 0 (by omega)
def mvB (l : List S42) (j : Nat) : Bool :=
  decide (0 ≤ (rd_T42 l (j : Int)).f0) && decide ((rd_T42 l (j : Int)).f0 ≤ 10000000) && isWd (rd_T42 l (j : Int)).f1 &&
    decide (-1000 ≤ (rd_T42 l (j : Int)).f2) && decide ((rd_T42 l (j : Int)).f2 ≤ 1000) && !decide ((rd_T42 l (j : Int)).f2 = 0) &&
    (decide (j = 0) || decide ((rd_T42 l ((j - 1 : Nat) : Int)).f0 ≤ (rd_T42 l (j : Int)).f0)) && !decide (ppl l (rd_T42 l (j : Int)).f1 (j + 1) < 0)
def areMv (l : List S42) : Bool := allD (mvB l) 0 l.length && decide (l.length ≤ 40)
theorem mvB_chg {l : List S42} {n : Nat} (h : ∀ j, j < n → mvB l j = true) : chg l n := by
  intro j hj
  have := h j hj
  unfold mvB at this
  simp only [Bool.and_eq_true, decide_eq_true_eq] at this
  omega
theorem mvB_sorted {l : List S42} {n : Nat} (h : ∀ j, j < n → mvB l j = true) : ∀ b a, a ≤ b → b < n → (rd_T42 l (a : Int)).f0 ≤ (rd_T42 l (b : Int)).f0
  | 0, a, h1, _ => by obtain rfl : a = 0 := by omega
                      exact Int.le_refl _
  | b + 1, a, h1, h2 => by
    by_cases e : a = b + 1
    · rw [e]
      exact Int.le_refl _
    · have ih := mvB_sorted h b a (by omega) (by omega)
      have hs := h (b + 1) h2
      unfold mvB at hs
      simp only [Bool.and_eq_true, Bool.or_eq_true, decide_eq_true_eq] at hs
      rcases hs.1.2 with h3 | h3
      · exact absurd h3 (by omega)
      · exact Int.le_trans ih h3
def szOk (l : List S42) : Prop := ∀ j, j < l.length → (rd_T42 l (j : Int)).f1.size ≤ 9223372036854775807
theorem spec_AreMoves_ev (l : List S42) (hn : l.length ≤ 1000000) (hz : szOk l) : Ev (fun k => spec_AreMoves.f k l) (areMv l) := by
  have h := Ev.allLoopP (l := fun k i => spec_AreMoves.l0 k l i) (n := l.length) (mvB l) false (decide (l.length ≤ 40))
    (fun i hi hp => by
      have hw := spec_IsWord_ev (rd_T42 l (i : Int)).f1 (hz i hi)
      by_cases hc : -1000 ≤ (rd_T42 l (i : Int)).f2 ∧ (rd_T42 l (i : Int)).f2 ≤ 1000
      · have hch : chg l (i + 1) := fun j hj => by
          by_cases e : j = i
          · rw [e]; exact hc
          · exact mvB_chg hp j (by omega)
        refine hw.evt2 (spec_l20People_ev l (rd_T42 l (i : Int)).f1 (i + 1) (by omega) hn hch) (fun k hk hk2 => ?_)
        simp only [spec_AreMoves.l0, spec_l01IsTime.f, spec_l01In.f]
        rw [if_pos (by omega), if_pos (by omega), wrap_succ hi (by omega), hk, hk2]
        generalize spec_AreMoves.l0 k l ((i + 1 : Nat) : Int) = R
        by_cases h0 : i = 0
        · have hz : (i = 0) = True := eq_true h0
          have hq : ¬ 0 < i := by omega
          clear h0
          by_cases h1 : 0 ≤ (rd_T42 l (i : Int)).f0 <;> by_cases h2 : (rd_T42 l (i : Int)).f0 ≤ 10000000 <;> cases h3 : isWd (rd_T42 l (i : Int)).f1 <;> by_cases h4 : (rd_T42 l (i : Int)).f2 = 0 <;> by_cases h5 : ppl l (rd_T42 l (i : Int)).f1 (i + 1) < 0 <;> simp [mvB, hz, hq, hc.1, hc.2, h1, h2, h3, h4, h5]
        · have hq : 0 < i := by omega
          rw [wrap_pred hi (by omega) (by omega)]
          have q1 : (0 : Int) ≤ ((i - 1 : Nat) : Int) := by omega
          have q2 : ((i - 1 : Nat) : Int) < (l.length : Int) := by omega
          by_cases h1 : 0 ≤ (rd_T42 l (i : Int)).f0 <;> by_cases h2 : (rd_T42 l (i : Int)).f0 ≤ 10000000 <;> cases h3 : isWd (rd_T42 l (i : Int)).f1 <;> by_cases h4 : (rd_T42 l (i : Int)).f2 = 0 <;> by_cases h5 : ppl l (rd_T42 l (i : Int)).f1 (i + 1) < 0 <;> by_cases h6 : (rd_T42 l ((i - 1 : Nat) : Int)).f0 ≤ (rd_T42 l (i : Int)).f0 <;> simp [mvB, h0, hq, q1, q2, hc.1, hc.2, h1, h2, h3, h4, h5, h6, Int.not_lt.2, Int.not_le.1] <;> (try omega)
      · refine hw.evt (fun k hk => ?_)
        simp only [spec_AreMoves.l0, spec_l01IsTime.f, spec_l01In.f]
        rw [if_pos (by omega), if_pos (by omega), hk]
        have hmv : mvB l i = false := by
          unfold mvB
          by_cases h7 : -1000 ≤ (rd_T42 l (i : Int)).f2
          · have h8 : ¬ (rd_T42 l (i : Int)).f2 ≤ 1000 := fun h9 => hc ⟨h7, h9⟩
            simp [h8]
          · simp [h7]
        rw [hmv]
        by_cases h1 : 0 ≤ (rd_T42 l (i : Int)).f0 <;> by_cases h2 : (rd_T42 l (i : Int)).f0 ≤ 10000000 <;> cases h3 : isWd (rd_T42 l (i : Int)).f1 <;> by_cases h7 : -1000 ≤ (rd_T42 l (i : Int)).f2 <;> by_cases h8 : (rd_T42 l (i : Int)).f2 ≤ 1000 <;> simp [h1, h2, h3, h7, h8]
        exact absurd ⟨h7, h8⟩ hc)
    (fun _ => Evt.all fun k => by
      simp only [spec_AreMoves.l0]
      rw [if_neg (by omega)]
      congr 1
      exact decide_eq_decide.2 (by omega)) l.length 0 (by omega) (fun j hj => by omega)
  refine h.eq ?_
  unfold areMv
  cases allD (mvB l) 0 l.length <;> simp
theorem impl_AreMoves_ev (l : List S42) (hn : l.length ≤ 1000000) (hz : szOk l) : Ev (fun k => impl_AreMoves.f k l) (areMv l) := by
  unfold impl_AreMoves.f
  by_cases hl : (l.length : Int) > 40
  · simp only [if_pos hl]
    refine (Ev.now false).eq ?_
    unfold areMv
    rw [decide_eq_false (by omega), Bool.and_false]
  simp only [if_neg hl]
  have h := Ev.allLoopQ (l := fun k i => impl_AreMoves.l0 k l l (l.length : Int) i) (n := l.length) (mvB l) false true
    (fun i hi hp => by
      have hw := impl_IsWord_ev (rd_T42 l (i : Int)).f1 (hz i hi)
      have hs1 := wrap_succ hi (show l.length ≤ 9223372036854775807 by omega)
      have hbad : Ev (fun k => impl_AreMoves.j1 k l (i : Int) l (l.length : Int) (i : Int) true (rd_T42 l (i : Int)).f0 (rd_T42 l (i : Int)).f1 (rd_T42 l (i : Int)).f2) false := Ev.dn (by simp only [impl_AreMoves.j1]; exact Ev.now _)
      have hgood : chg l (i + 1) → (∀ j, j < i + 1 → (rd_T42 l (j : Int)).f0 ≤ (rd_T42 l (i : Int)).f0) → ∀ r, (0 ≤ ppl l (rd_T42 l (i : Int)).f1 (i + 1) → Ev (fun k => impl_AreMoves.l0 k l l (l.length : Int) ((i + 1 : Nat) : Int)) r) → (ppl l (rd_T42 l (i : Int)).f1 (i + 1) < 0 → r = false) →
          Ev (fun k => impl_AreMoves.j1 k l (i : Int) l (l.length : Int) (i : Int) false (rd_T42 l (i : Int)).f0 (rd_T42 l (i : Int)).f1 (rd_T42 l (i : Int)).f2) r := by
        intro hch hts r hr hr2
        refine Ev.dn ?_
        simp only [impl_AreMoves.j1, hs1, Bool.false_eq_true, if_false, if_pos (show (0 : Int) ≤ ((i + 1 : Nat) : Int) by omega), if_pos (show ((i + 1 : Nat) : Int) ≤ (l.length : Int) by omega), Int.toNat_natCast]
        have hlt : (l.take (i + 1)).length = i + 1 := by rw [List.length_take]; omega
        have hpe := impl_peopleIn_ev (l.take (i + 1)) (rd_T42 l (i : Int)).f1 (rd_T42 l (i : Int)).f0 (by omega) (fun j hj => by rw [rd_take l (i + 1) j (by omega)]; exact hch j (by omega))
        rw [hlt, ppl_take _ _ _ _ _ (Nat.le_refl _), pplT_ppl _ _ _ _ hts] at hpe
        refine Ev.bind hpe ?_
        by_cases h9 : ppl l (rd_T42 l (i : Int)).f1 (i + 1) < 0
        · simp only [if_pos h9]
          rw [hr2 h9]
          exact Ev.now _
        · simp only [if_neg h9]
          exact hr (by omega)
      have hmain : ∀ r, (mvB l i = true → Ev (fun k => impl_AreMoves.l0 k l l (l.length : Int) ((i + 1 : Nat) : Int)) r) → (mvB l i = false → r = false) → Ev (fun k => impl_AreMoves.l0 k l l (l.length : Int) (i : Int)) r := by
        intro r hr hr2
        refine Ev.dn ?_
        simp only [impl_AreMoves.l0, impl_isTime.f, impl_within.f, if_pos (show (i : Int) < (l.length : Int) by omega), if_pos (show (0 : Int) ≤ (i : Int) by omega)]
        by_cases h1 : 0 ≤ (rd_T42 l (i : Int)).f0
        case neg =>
          simp only [if_neg h1, Option.bind_some, Bool.false_eq_true, if_false]
          exact hbad.eq (hr2 (by simp [mvB, h1])).symm
        simp only [if_pos h1, Option.bind_some]
        by_cases h2 : (rd_T42 l (i : Int)).f0 ≤ 10000000
        case neg =>
          simp only [decide_eq_false h2, Bool.false_eq_true, if_false]
          exact hbad.eq (hr2 (by simp [mvB, h2])).symm
        simp only [decide_eq_true h2, if_true]
        refine Ev.bind hw ?_
        cases h3 : isWd (rd_T42 l (i : Int)).f1 with
        | false =>
          simp only [Bool.false_eq_true, if_false]
          exact hbad.eq (hr2 (by simp [mvB, h3])).symm
        | true =>
        simp only [if_true]
        by_cases h4 : -1000 ≤ (rd_T42 l (i : Int)).f2
        case neg =>
          simp only [if_neg h4, Option.bind_some, Bool.false_eq_true, if_false]
          exact hbad.eq (hr2 (by simp [mvB, h4])).symm
        simp only [if_pos h4, Option.bind_some]
        by_cases h5 : (rd_T42 l (i : Int)).f2 ≤ 1000
        case neg =>
          simp only [decide_eq_false h5, Bool.false_eq_true, if_false]
          exact hbad.eq (hr2 (by simp [mvB, h5])).symm
        simp only [decide_eq_true h5, if_true]
        by_cases h6 : (rd_T42 l (i : Int)).f2 = 0
        case pos =>
          simp only [if_pos h6]
          exact hbad.eq (hr2 (by simp [mvB, h6])).symm
        simp only [if_neg h6]
        have hch : chg l (i + 1) := fun j hj => by
          by_cases e : j = i
          · rw [e]; exact ⟨h4, h5⟩
          · exact mvB_chg hp j (by omega)
        by_cases h0 : i = 0
        · have hz0 : (i = 0) = True := eq_true h0
          simp only [if_neg (show ¬ (i : Int) > 0 by omega)]
          refine hgood hch (fun j hj => by rw [show j = i by omega]; exact Int.le_refl _) r (fun h9 => hr ?_) (fun h9 => hr2 ?_)
          · simp [mvB, hz0, h1, h2, h3, h4, h5, h6, h9]
          · simp [mvB, h9]
        · simp only [if_pos (show (i : Int) > 0 by omega), wrap_pred hi (show 0 < i by omega) (show l.length ≤ 9223372036854775807 by omega), if_pos (show (0 : Int) ≤ ((i - 1 : Nat) : Int) by omega), if_pos (show ((i - 1 : Nat) : Int) < (l.length : Int) by omega)]
          by_cases h7 : (rd_T42 l ((i - 1 : Nat) : Int)).f0 ≤ (rd_T42 l (i : Int)).f0
          · rw [decide_eq_false (show ¬ (rd_T42 l ((i - 1 : Nat) : Int)).f0 > (rd_T42 l (i : Int)).f0 by omega)]
            refine hgood hch (fun j hj => ?_) r (fun h9 => hr ?_) (fun h9 => hr2 ?_)
            · by_cases e : j = i
              · rw [e]; exact Int.le_refl _
              · exact Int.le_trans (mvB_sorted hp (i - 1) j (by omega) (by omega)) h7
            · simp [mvB, h1, h2, h3, h4, h5, h6, h7, h9]
            · simp [mvB, h9]
          · rw [decide_eq_true (show (rd_T42 l ((i - 1 : Nat) : Int)).f0 > (rd_T42 l (i : Int)).f0 by omega)]
            exact hbad.eq (hr2 (by simp [mvB, h0, h7])).symm
      exact ⟨fun hs r hr => hmain r (fun _ => hr) (fun h => by rw [hs] at h; exact absurd h (by decide)), fun hs => hmain false (fun h => by rw [hs] at h; exact absurd h (by decide)) (fun _ => rfl)⟩)
    (fun _ => Ev.dn (by
      simp only [impl_AreMoves.l0, if_neg (show ¬ (l.length : Int) < (l.length : Int) by omega)]
      exact Ev.now _)) l.length 0 (by omega) (fun j hj => by omega)
  refine h.eq ?_
  unfold areMv
  rw [decide_eq_true (by omega : l.length ≤ 40), Bool.and_true]
  cases allD (mvB l) 0 l.length <;> simp
theorem eqMoveS_refl (l : List S42) (hn : l.length ≤ 9223372036854775807) : Ev (fun k => laws_eqMoveS.f k l l) true := by
  unfold laws_eqMoveS.f
  simp only [if_pos rfl]
  have h := Ev.allLoop (l := fun k i => laws_eqMoveS.l0 k l l i) (n := l.length) (fun _ => true) false true
    (fun i hi => Evt.all fun k => by
      simp only [laws_eqMoveS.l0, laws_eqMove.f]
      rw [if_pos (by omega), if_pos (by omega), if_pos (by omega), wrap_succ hi hn]
      simp)
    (Evt.all fun k => by
      simp only [laws_eqMoveS.l0]
      rw [if_neg (by omega)]) l.length 0 (by omega)
  refine h.eq ?_
  rw [if_pos ((allD_iff _ _ _).2 (fun _ _ _ => rfl))]
theorem intactMoveS_refl (l : List S42) (hn : l.length ≤ 1000000) : Ev (fun k => laws_intactMoveS.f k l l) true := by
  unfold laws_intactMoveS.f
  simp only [if_pos rfl]
  exact eqMoveS_refl _ (full_le l hn)
theorem toMoveS_some (k : Nat) (l : List S38) (b : Bool) (hn : l.length ≤ 1000000) : laws_toMoveS.f k l b = some (l.map laws_toMoveS.conv) := by
  unfold laws_toMoveS.f
  rw [if_pos hn]
theorem szMoveS_some (l : List S38) (hl : l.length ≤ 9223372036854775807) (hz : ∀ y ∈ l, y.f1.size ≤ 9223372036854775807) (a : Int) (ha : -9223372036854775808 ≤ a - (l.length : Int)) (ha2 : a ≤ 1000000) : ∃ r : Int, Ev (fun k => laws_szMoveS.f k l a) r ∧ (¬ r < 0 → l.length ≤ 1000000 ∧ a - (l.length : Int) ≥ 0 ∧ r ≤ 1000000) := by
  unfold laws_szMoveS.f
  rw [wrap_id ha (by omega)]
  by_cases h : a - (l.length : Int) < 0
  · simp only [if_pos h]
    exact ⟨-1, Ev.now _, fun h2 => absurd (show (-1 : Int) < 0 by decide) h2⟩
  simp only [if_neg h]
  have key : ∀ d i, i + d = l.length → ∀ x : Int, 0 ≤ x → x ≤ 1000000 → ∃ r : Int, r ≤ 1000000 ∧ Ev (fun k => laws_szMoveS.l0 k l x (i : Int)) r := by
    intro d
    induction d with
    | zero =>
      intro i hi x h0 h1
      refine ⟨x, h1, Ev.dn ?_⟩
      simp only [laws_szMoveS.l0, if_neg (show ¬ (i : Int) < (l.length : Int) by omega)]
      exact Ev.now _
    | succ d ih =>
      intro i hi x h0 h1
      have hs := hz l[i] (List.getElem_mem (by omega))
      have hr : (rd_T38 l (i : Int)).f1.size ≤ 9223372036854775807 := by
        rw [show rd_T38 l (i : Int) = l[i] by simp [rd_T38, show i < l.length by omega]]
        exact hs
      by_cases g : x - ((rd_T38 l (i : Int)).f1.size : Int) < 0
      · refine ⟨-1, by omega, Ev.dn ?_⟩
        simp only [laws_szMoveS.l0, laws_szMove.f, if_pos (show (i : Int) < (l.length : Int) by omega), if_pos (show (0 : Int) ≤ (i : Int) by omega)]
        rw [wrap_id (by omega) (by omega)]
        simp only [if_pos g, Option.bind_some, if_pos (show (-1 : Int) < 0 by decide)]
        exact Ev.now _
      · obtain ⟨r, hr1, hr2⟩ := ih (i + 1) (by omega) (x - ((rd_T38 l (i : Int)).f1.size : Int)) (by omega) (by omega)
        refine ⟨r, hr1, Ev.dn ?_⟩
        simp only [laws_szMoveS.l0, laws_szMove.f, if_pos (show (i : Int) < (l.length : Int) by omega), if_pos (show (0 : Int) ≤ (i : Int) by omega)]
        rw [wrap_id (by omega) (by omega)]
        simp only [if_neg g, Option.bind_some, wrap_succ (show i < l.length by omega) hl]
        exact hr2
  obtain ⟨r, hr1, hr2⟩ := key l.length 0 (by omega) (a - (l.length : Int)) (by omega) (by omega)
  exact ⟨r, hr2, fun _ => ⟨by omega, by omega, hr1⟩⟩
theorem conv_szOk (l : List S38) (hz : ∀ y ∈ l, y.f1.size ≤ 9223372036854775807) : szOk (l.map laws_toMoveS.conv) := by
  intro j hj
  have hj2 : j < l.length := by simpa using hj
  rw [rd_T42_nat hj]
  simpa [laws_toMoveS.conv] using hz l[j] (List.getElem_mem hj2)
theorem areMv_ok {l : List S42} (h : areMv l = true) : (∀ j, j < l.length → mvB l j = true) ∧ l.length ≤ 40 := by
  unfold areMv at h
  simp only [Bool.and_eq_true, decide_eq_true_eq] at h
  exact ⟨fun j hj => (allD_iff _ _ _).1 h.1 j (by omega) (by omega), h.2⟩
theorem mvB_time {l : List S42} {j : Nat} (h : mvB l j = true) : 0 ≤ (rd_T42 l (j : Int)).f0 ∧ (rd_T42 l (j : Int)).f0 ≤ 10000000 := by
  unfold mvB at h
  simp only [Bool.and_eq_true, decide_eq_true_eq] at h
  omega
/-- What the question's code is. -/
def cdZ (l : List S42) (z : ByteArray) (t : Int) : Int := if areMv l = true ∧ isWd z = true then (if 0 ≤ t ∧ t ≤ 10000000 then 0 else 2) else 1
theorem spec_l20Code_ev (l : List S42) (z : ByteArray) (t : Int) (hn : l.length ≤ 1000000) (hz : szOk l) (hs : z.size ≤ 9223372036854775807) : Ev (fun k => spec_l20Code.f k l z t) (cdZ l z t) := by
  unfold spec_l20Code.f cdZ
  refine Ev.bind (spec_AreMoves_ev l hn hz) ?_
  have hb : Ev (fun k => spec_l20Code.j0 k t true) 1 := Ev.dn (by simp only [spec_l20Code.j0]; exact Ev.now _)
  cases h1 : areMv l with
  | false =>
    simp only [Bool.false_eq_true, if_false, false_and]
    exact hb
  | true =>
    simp only [if_true, true_and]
    refine Ev.bind (spec_IsWord_ev z hs) ?_
    cases h2 : isWd z with
    | false =>
      simp only [Bool.not_false, Bool.false_eq_true, if_false]
      exact hb
    | true =>
      simp only [Bool.not_true, if_true]
      refine Ev.dn ?_
      simp only [spec_l20Code.j0, spec_l01IsTime.f, spec_l01In.f, Bool.false_eq_true, if_false]
      by_cases h3 : 0 ≤ t <;> by_cases h4 : t ≤ 10000000 <;> simp only [ge_iff_le, h3, h4, if_true, if_false, Option.bind_some, decide_true, decide_false, Bool.false_eq_true, and_self, and_true, and_false, false_and, true_and] <;> exact Ev.now _
/-- How many moves lead the row that are not after t. -/
def upto (l : List S42) (t : Int) : Nat → Nat → Nat
  | i, 0 => i
  | i, d + 1 => if (rd_T42 l (i : Int)).f0 ≤ t then upto l t (i + 1) d else i
theorem upto_spec (l : List S42) (t : Int) : ∀ d i, i ≤ upto l t i d ∧ upto l t i d ≤ i + d ∧ (∀ j, i ≤ j → j < upto l t i d → (rd_T42 l (j : Int)).f0 ≤ t) ∧ (upto l t i d < i + d → ¬ (rd_T42 l ((upto l t i d : Nat) : Int)).f0 ≤ t)
  | 0, i => ⟨Nat.le_refl _, Nat.le_refl _, fun j h1 h2 => absurd h2 (by simp only [upto]; omega), fun h => absurd h (by simp only [upto]; omega)⟩
  | d + 1, i => by
    by_cases h : (rd_T42 l (i : Int)).f0 ≤ t
    · obtain ⟨h1, h2, h3, h4⟩ := upto_spec l t d (i + 1)
      simp only [upto, if_pos h]
      refine ⟨by omega, by omega, fun j hj hj2 => ?_, fun hh => h4 (by omega)⟩
      by_cases e : j = i
      · rw [e]; exact h
      · exact h3 j (by omega) hj2
    · simp only [upto, if_neg h]
      exact ⟨Nat.le_refl _, by omega, fun j h1 h2 => by omega, fun _ => h⟩
theorem spec_l20Upto_ev (l : List S42) (t : Int) (hn : l.length ≤ 1000000) : Ev (fun k => spec_l20Upto.f k l t) ((upto l t 0 l.length : Nat) : Int) := by
  have key : ∀ d i, i + d = l.length → Ev (fun k => spec_l20Upto.l0 k l t (i : Int)) ((upto l t i d : Nat) : Int) := by
    intro d
    induction d with
    | zero =>
      intro i hi
      refine Ev.dn ?_
      simp only [spec_l20Upto.l0, if_neg (show ¬ (i : Int) < (l.length : Int) by omega), upto]
      exact Ev.now _
    | succ d ih =>
      intro i hi
      have := ih (i + 1) (by omega)
      refine Ev.dn ?_
      simp only [spec_l20Upto.l0, if_pos (show (i : Int) < (l.length : Int) by omega), if_pos (show (0 : Int) ≤ (i : Int) by omega), wrap_succ (show i < l.length by omega) (show l.length ≤ 9223372036854775807 by omega), upto]
      by_cases h : (rd_T42 l (i : Int)).f0 ≤ t
      · simp only [if_pos h]; exact this
      · simp only [if_neg h]; exact Ev.now _
  exact key l.length 0 (by omega)
theorem ppl_upto {l : List S42} (z : ByteArray) (t : Int) (hm : ∀ j, j < l.length → mvB l j = true) : ppl l z (upto l t 0 l.length) = pplT l z t l.length := by
  obtain ⟨h1, h2, h3, h4⟩ := upto_spec l t l.length 0
  rw [← pplT_ppl l z t _ (fun j hj => h3 j (by omega) hj), pplT_stop l z t (upto l t 0 l.length) l.length (by omega) (fun j hj hj2 hh => ?_)]
  exact h4 (by omega) (Int.le_trans (mvB_sorted hm j (upto l t 0 l.length) hj hj2) hh)
/-- Does the move j leave the zone clear at t? -/
def clB (l : List S42) (z : ByteArray) (t : Int) (j : Nat) : Bool :=
  !(decide ((rd_T42 l (j : Int)).f1.toList = z.toList) && decide ((rd_T42 l (j : Int)).f0 ≤ t) && decide (t - (rd_T42 l (j : Int)).f0 < 30000))
def clr (l : List S42) (z : ByteArray) (t : Int) : Bool := allD (clB l z t) 0 l.length && (pplT l z t l.length == 0)
theorem impl_isClear_ev (l : List S42) (z : ByteArray) (t : Int) (hm : areMv l = true) (h0 : 0 ≤ t) (h1 : t ≤ 10000000) : Ev (fun k => impl_isClear.f k l z t) (clr l z t) := by
  obtain ⟨hb, hn⟩ := areMv_ok hm
  have h := Ev.allLoop (l := fun k i => impl_isClear.l0 k l z t l (l.length : Int) i) (n := l.length) (clB l z t) false (pplT l z t l.length == 0)
    (fun i hi => Evt.all fun k => by
      have ht := mvB_time (hb i hi)
      simp only [impl_isClear.l0]
      rw [if_pos (by omega), if_pos (by omega), if_pos (by omega), wrap_succ hi (by omega), wrap_id (by omega) (by omega)]
      by_cases g1 : (rd_T42 l (i : Int)).f1.toList = z.toList <;> by_cases g2 : (rd_T42 l (i : Int)).f0 ≤ t <;> by_cases g3 : t - (rd_T42 l (i : Int)).f0 < 30000 <;> simp [clB, g1, g2, g3])
    ((impl_peopleIn_ev l z t (by omega) (mvB_chg hb)).evt fun k hk => by
      simp only [impl_isClear.l0]
      rw [if_neg (by omega), hk, Option.bind_some]) l.length 0 (by omega)
  refine h.eq ?_
  unfold clr
  cases allD (clB l z t) 0 l.length <;> simp
theorem spec_l20Clear_ev (l : List S42) (z : ByteArray) (t : Int) (hm : areMv l = true) (h0 : 0 ≤ t) (h1 : t ≤ 10000000) : Ev (fun k => spec_l20Clear.f k l z t) (clr l z t) := by
  obtain ⟨hb, hn⟩ := areMv_ok hm
  obtain ⟨u1, u2, u3, u4⟩ := upto_spec l t l.length 0
  have hp := ppl_upto z t hb
  unfold spec_l20Clear.f
  refine Ev.bind (spec_l20Upto_ev l t (by omega)) ?_
  have h := Ev.allLoop (l := fun k i => spec_l20Clear.l0 k l z t ((upto l t 0 l.length : Nat) : Int) i) (n := upto l t 0 l.length) (clB l z t) false (pplT l z t l.length == 0)
    (fun i hi => Evt.all fun k => by
      have ht := mvB_time (hb i (by omega))
      have hu := u3 i (by omega) hi
      simp only [spec_l20Clear.l0]
      rw [if_pos (by omega), if_pos (by omega), if_pos (by omega), wrap_succ hi (by omega), wrap_id (by omega) (by omega)]
      by_cases g1 : (rd_T42 l (i : Int)).f1.toList = z.toList
      · by_cases g3 : t - (rd_T42 l (i : Int)).f0 < 30000
        · rw [if_pos g1, if_pos (by omega)]
          simp [clB, g1, hu, g3]
        · rw [if_pos g1, if_neg (by omega)]
          simp [clB, g1, hu, g3]
      · rw [if_neg g1]
        simp [clB, g1])
    ((spec_l20People_ev l z (upto l t 0 l.length) (by omega) (by omega) (fun j hj => mvB_chg hb j (by omega))).evt fun k hk => by
      simp only [spec_l20Clear.l0]
      rw [if_neg (by omega), hk, Option.bind_some, hp]) (upto l t 0 l.length) 0 (by omega)
  refine h.eq ?_
  have e : allD (clB l z t) 0 (upto l t 0 l.length) = allD (clB l z t) 0 l.length := by
    rw [Bool.eq_iff_iff, allD_iff, allD_iff]
    constructor
    · intro hh j hj hj2
      by_cases c : j < upto l t 0 l.length
      · exact hh j hj (by omega)
      · have : ¬ (rd_T42 l (j : Int)).f0 ≤ t := fun hle => u4 (by omega) (Int.le_trans (mvB_sorted hb j (upto l t 0 l.length) (by omega) (by omega)) hle)
        simp [clB, this]
    · exact fun hh j hj hj2 => hh j hj (by omega)
  rw [e]
  unfold clr
  cases allD (clB l z t) 0 l.length <;> simp
theorem eqStringS_refl (l : List ByteArray) (hn : l.length ≤ 9223372036854775807) : Ev (fun k => laws_eqStringS.f k l l) true := by
  unfold laws_eqStringS.f
  simp only [if_pos rfl]
  have h := Ev.allLoop (l := fun k i => laws_eqStringS.l0 k l l i) (n := l.length) (fun _ => true) false true
    (fun i hi => Evt.all fun k => by
      simp only [laws_eqStringS.l0]
      rw [if_pos (by omega), if_pos (by omega), if_pos (by omega), wrap_succ hi hn])
    (Evt.all fun k => by
      simp only [laws_eqStringS.l0]
      rw [if_neg (by omega)]) l.length 0 (by omega)
  refine h.eq ?_
  rw [if_pos ((allD_iff _ _ _).2 (fun _ _ _ => rfl))]
theorem intactStringS_refl (l : List ByteArray) (hn : l.length ≤ 1000000) : Ev (fun k => laws_intactStringS.f k l l) true := by
  unfold laws_intactStringS.f
  simp only [if_pos rfl]
  exact eqStringS_refl _ (full_le l hn)
theorem toStringS_some (k : Nat) (l : List ByteArray) (b : Bool) (hn : l.length ≤ 1000000) : laws_toStringS.f k l b = some l := by
  unfold laws_toStringS.f
  rw [if_pos hn]
theorem rdOf_size (l : List ByteArray) (hz : ∀ y ∈ l, y.size ≤ 9223372036854775807) (i : Nat) (hi : i < l.length) : (rdOf ByteArray.empty l (i : Int)).size ≤ 9223372036854775807 := by
  rw [rdOf_nat hi]
  exact hz _ (List.getElem_mem hi)
theorem szStringS_some (l : List ByteArray) (hl : l.length ≤ 9223372036854775807) (hz : ∀ y ∈ l, y.size ≤ 9223372036854775807) (a : Int) (ha : -9223372036854775808 ≤ a - (l.length : Int)) (ha2 : a ≤ 1000000) : ∃ r : Int, Ev (fun k => laws_szStringS.f k l a) r ∧ (¬ r < 0 → l.length ≤ 1000000 ∧ a - (l.length : Int) ≥ 0 ∧ r ≤ 1000000) := by
  unfold laws_szStringS.f
  rw [wrap_id ha (by omega)]
  by_cases h : a - (l.length : Int) < 0
  · simp only [if_pos h]
    exact ⟨-1, Ev.now _, fun h2 => absurd (show (-1 : Int) < 0 by decide) h2⟩
  simp only [if_neg h]
  have key : ∀ d i, i + d = l.length → ∀ x : Int, 0 ≤ x → x ≤ 1000000 → ∃ r : Int, r ≤ 1000000 ∧ Ev (fun k => laws_szStringS.l0 k l x (i : Int)) r := by
    intro d
    induction d with
    | zero =>
      intro i hi x h0 h1
      refine ⟨x, h1, Ev.dn ?_⟩
      simp only [laws_szStringS.l0, if_neg (show ¬ (i : Int) < (l.length : Int) by omega)]
      exact Ev.now _
    | succ d ih =>
      intro i hi x h0 h1
      have hr := rdOf_size l hz i (by omega)
      by_cases g : x - ((rdOf ByteArray.empty l (i : Int)).size : Int) < 0
      · refine ⟨-1, by omega, Ev.dn ?_⟩
        simp only [laws_szStringS.l0, if_pos (show (i : Int) < (l.length : Int) by omega), if_pos (show (0 : Int) ≤ (i : Int) by omega)]
        rw [wrap_id (by omega) (by omega)]
        simp only [if_pos g]
        exact Ev.now _
      · obtain ⟨r, hr1, hr2⟩ := ih (i + 1) (by omega) (x - ((rdOf ByteArray.empty l (i : Int)).size : Int)) (by omega) (by omega)
        refine ⟨r, hr1, Ev.dn ?_⟩
        simp only [laws_szStringS.l0, if_pos (show (i : Int) < (l.length : Int) by omega), if_pos (show (0 : Int) ≤ (i : Int) by omega)]
        rw [wrap_id (by omega) (by omega)]
        simp only [if_neg g, wrap_succ (show i < l.length by omega) hl]
        exact hr2
  obtain ⟨r, hr1, hr2⟩ := key l.length 0 (by omega) (a - (l.length : Int)) (by omega) (by omega)
  exact ⟨r, hr2, fun _ => ⟨by omega, by omega, hr1⟩⟩
def allWd (zs : List ByteArray) : Bool := allD (fun j => isWd (rdOf ByteArray.empty zs (j : Int))) 0 zs.length
def zsOk (zs : List ByteArray) : Prop := ∀ y ∈ zs, y.size ≤ 9223372036854775807
theorem spec_l01All_ev (zs : List ByteArray) (hn : zs.length ≤ 1000000) (hz : zsOk zs) : Ev (fun k => spec_l01All.f k zs) (allWd zs) := by
  have h := Ev.allLoop (l := fun k i => spec_l01All.l0 k zs i) (n := zs.length) (fun j => isWd (rdOf ByteArray.empty zs (j : Int))) false true
    (fun i hi => (spec_IsWord_ev _ (rdOf_size zs hz i hi)).evt fun k hk => by
      simp only [spec_l01All.l0]
      rw [if_pos (by omega), if_pos (by omega), hk, Option.bind_some, wrap_succ hi (by omega)])
    (Evt.all fun k => by
      simp only [spec_l01All.l0]
      rw [if_neg (by omega)]) zs.length 0 (by omega)
  refine h.eq ?_
  unfold allWd
  cases allD (fun j => isWd (rdOf ByteArray.empty zs (j : Int))) 0 zs.length <;> simp
theorem impl_areZones_ev (zs : List ByteArray) (hn : zs.length ≤ 1000000) (hz : zsOk zs) : Ev (fun k => impl_areZones.f k zs) (allWd zs && decide (zs.length ≤ 60)) := by
  unfold impl_areZones.f
  by_cases g : (zs.length : Int) > 60
  · simp only [if_pos g]
    refine (Ev.now false).eq ?_
    rw [decide_eq_false (by omega), Bool.and_false]
  simp only [if_neg g]
  have h := Ev.allLoop (l := fun k i => impl_areZones.l0 k zs (zs.length : Int) i) (n := zs.length) (fun j => isWd (rdOf ByteArray.empty zs (j : Int))) false true
    (fun i hi => (impl_IsWord_ev _ (rdOf_size zs hz i hi)).evt fun k hk => by
      simp only [impl_areZones.l0]
      rw [if_pos (by omega), if_pos (by omega), if_pos (by omega), hk, Option.bind_some, wrap_succ hi (by omega)])
    (Evt.all fun k => by
      simp only [impl_areZones.l0]
      rw [if_neg (by omega)]) zs.length 0 (by omega)
  refine h.eq ?_
  unfold allWd
  rw [decide_eq_true (show zs.length ≤ 60 by omega), Bool.and_true]
  cases allD (fun j => isWd (rdOf ByteArray.empty zs (j : Int))) 0 zs.length <;> simp
theorem allClear_both (l : List S42) (zs : List ByteArray) (t : Int) (hn : zs.length ≤ 1000000) (hm : areMv l = true) (h0 : 0 ≤ t) (h1 : t ≤ 10000000) : ∃ b : Bool, Ev (fun k => spec_AreAllClear.l0 k l zs t 0) (b, 0) ∧ Ev (fun k => impl_areAllClear.f k l zs t) b := by
  refine ⟨allD (fun j => clr l (rdOf ByteArray.empty zs (j : Int)) t) 0 zs.length, ?_, ?_⟩
  · have h := Ev.allLoop (l := fun k i => spec_AreAllClear.l0 k l zs t i) (n := zs.length) (fun j => clr l (rdOf ByteArray.empty zs (j : Int)) t) (false, 0) (true, 0)
      (fun i hi => (spec_l20Clear_ev l (rdOf ByteArray.empty zs (i : Int)) t hm h0 h1).evt fun k hk => by
        simp only [spec_AreAllClear.l0]
        rw [if_pos (by omega), if_pos (by omega), hk, Option.bind_some, wrap_succ hi (by omega)])
      (Evt.all fun k => by
        simp only [spec_AreAllClear.l0]
        rw [if_neg (by omega)]) zs.length 0 (by omega)
    refine Ev.eq h ?_
    cases allD (fun j => clr l (rdOf ByteArray.empty zs (j : Int)) t) 0 zs.length <;> simp
  · unfold impl_areAllClear.f
    have h := Ev.allLoop (l := fun k i => impl_areAllClear.l0 k l t zs (zs.length : Int) i) (n := zs.length) (fun j => clr l (rdOf ByteArray.empty zs (j : Int)) t) false true
      (fun i hi => (impl_isClear_ev l (rdOf ByteArray.empty zs (i : Int)) t hm h0 h1).evt fun k hk => by
        simp only [impl_areAllClear.l0]
        rw [if_pos (by omega), if_pos (by omega), if_pos (by omega), hk, Option.bind_some, wrap_succ hi (by omega)])
      (Evt.all fun k => by
        simp only [impl_areAllClear.l0]
        rw [if_neg (by omega)]) zs.length 0 (by omega)
    refine Ev.eq h ?_
    cases allD (fun j => clr l (rdOf ByteArray.empty zs (j : Int)) t) 0 zs.length <;> simp
theorem wd_a : isWd (⟨#[97]⟩ : ByteArray) = true := by decide
theorem AreAllClear_both (l : List S42) (zs : List ByteArray) (t : Int) (hl : l.length ≤ 1000000) (hz : szOk l) (hn : zs.length ≤ 1000000) (hs : zsOk zs) : ∃ r : Bool × Int, Ev (fun k => spec_AreAllClear.f k l zs t) r ∧ Ev (fun k => impl_AreAllClear.f k l zs t) r := by
  have hsb : Ev (fun k => spec_AreAllClear.j0 k l zs t true) (false, 1) := Ev.dn (by simp only [spec_AreAllClear.j0]; exact Ev.now _)
  have hib : Ev (fun k => impl_AreAllClear.j0 k l zs t true) (false, 1) := Ev.dn (by simp only [impl_AreAllClear.j0]; exact Ev.now _)
  have hA := spec_l01All_ev zs hn hs
  have hB := impl_areZones_ev zs hn hs
  have hM := impl_AreMoves_ev l hl hz
  have hC := spec_l20Code_ev l (⟨#[97]⟩ : ByteArray) t hl hz (by decide)
  unfold spec_AreAllClear.f impl_AreAllClear.f
  cases g1 : allWd zs with
  | false =>
    rw [g1] at hA hB
    refine ⟨(false, 1), ?_, ?_⟩
    · refine Ev.bind hA ?_
      simp only [Bool.false_eq_true, if_false]
      exact hsb
    · refine Ev.bind hM ?_
      cases areMv l with
      | false => simp only [Bool.false_eq_true, if_false]; exact hib
      | true =>
        simp only [if_true]
        refine Ev.bind hB ?_
        simp only [Bool.false_and, Bool.not_false]
        exact hib
  | true =>
  rw [g1] at hA hB
  by_cases g2 : zs.length ≤ 60
  case neg =>
    refine ⟨(false, 1), ?_, ?_⟩
    · refine Ev.bind hA ?_
      simp only [if_true, decide_eq_true (show (zs.length : Int) > 60 by omega)]
      exact hsb
    · refine Ev.bind hM ?_
      cases areMv l with
      | false => simp only [Bool.false_eq_true, if_false]; exact hib
      | true =>
        simp only [if_true]
        refine Ev.bind hB ?_
        simp only [decide_eq_false g2, Bool.and_false, Bool.not_false]
        exact hib
  rw [decide_eq_true g2, Bool.and_true] at hB
  cases g3 : areMv l with
  | false =>
    have hc : cdZ l (⟨#[97]⟩ : ByteArray) t = 1 := by simp [cdZ, g3]
    rw [hc] at hC
    rw [g3] at hM
    refine ⟨(false, 1), ?_, ?_⟩
    · refine Ev.bind hA ?_
      simp only [if_true, decide_eq_false (show ¬ (zs.length : Int) > 60 by omega)]
      refine Ev.dn ?_
      simp only [spec_AreAllClear.j0, Bool.false_eq_true, if_false]
      refine Ev.bind hC ?_
      simp only [show ¬ ((1 : Int) = 0) by decide, if_false]
      exact Ev.now _
    · refine Ev.bind hM ?_
      simp only [Bool.false_eq_true, if_false]
      exact hib
  | true =>
  rw [g3] at hM
  by_cases g4 : 0 ≤ t ∧ t ≤ 10000000
  · have hc : cdZ l (⟨#[97]⟩ : ByteArray) t = 0 := by simp [cdZ, g3, wd_a, g4]
    rw [hc] at hC
    obtain ⟨b, hb1, hb2⟩ := allClear_both l zs t hn g3 g4.1 g4.2
    refine ⟨(b, 0), ?_, ?_⟩
    · refine Ev.bind hA ?_
      simp only [if_true, decide_eq_false (show ¬ (zs.length : Int) > 60 by omega)]
      refine Ev.dn ?_
      simp only [spec_AreAllClear.j0, Bool.false_eq_true, if_false]
      refine Ev.bind hC ?_
      simp only [if_true]
      exact hb1
    · refine Ev.bind hM ?_
      simp only [if_true]
      refine Ev.bind hB ?_
      simp only [Bool.not_true]
      refine Ev.dn ?_
      simp only [impl_AreAllClear.j0, impl_isTime.f, impl_within.f, Bool.false_eq_true, if_false, if_pos g4.1, Option.bind_some, decide_eq_true g4.2, if_true]
      exact Ev.bind hb2 (Ev.now _)
  · have hc : cdZ l (⟨#[97]⟩ : ByteArray) t = 2 := by simp [cdZ, g3, wd_a]; omega
    rw [hc] at hC
    refine ⟨(false, 2), ?_, ?_⟩
    · refine Ev.bind hA ?_
      simp only [if_true, decide_eq_false (show ¬ (zs.length : Int) > 60 by omega)]
      refine Ev.dn ?_
      simp only [spec_AreAllClear.j0, Bool.false_eq_true, if_false]
      refine Ev.bind hC ?_
      simp only [show ¬ ((2 : Int) = 0) by decide, if_false]
      exact Ev.now _
    · refine Ev.bind hM ?_
      simp only [if_true]
      refine Ev.bind hB ?_
      simp only [Bool.not_true]
      refine Ev.dn ?_
      simp only [impl_AreAllClear.j0, impl_isTime.f, impl_within.f, Bool.false_eq_true, if_false]
      by_cases g5 : 0 ≤ t
      · have g6 : ¬ t ≤ 10000000 := fun g => g4 ⟨g5, g⟩
        simp only [if_pos g5, Option.bind_some, decide_eq_false g6, Bool.false_eq_true, if_false]
        exact Ev.now _
      · simp only [if_neg g5, Option.bind_some, Bool.false_eq_true, if_false]
        exact Ev.now _
theorem FnExactAreAllClear : ∀ (l0 : List S38) (l1 : List ByteArray) (a2 : Int), (l0.length ≤ reachBytes ∧ ∀ y ∈ l0, ((Lit.int .i64 y.f0).wf = true ∧ y.f1.size ≤ reachBytes ∧ (Lit.int .i64 y.f2).wf = true)) → (l1.length ≤ reachBytes ∧ ∀ y ∈ l1, y.size ≤ reachBytes) → (Lit.int .i64 a2).wf = true → ∃ k, laws_FnExactAreAllClear.f k l0 l1 a2 = some true := by
  intro l0 l1 a2 ⟨hm, hy⟩ ⟨hm1, hy1⟩ hw
  unfold reachBytes at hm hy hm1 hy1
  apply Ev.rounds
  unfold laws_FnExactAreAllClear.f
  have hz : ∀ y ∈ l0, y.f1.size ≤ 9223372036854775807 := fun y h => Nat.le_trans (hy y h).2.1 (by decide)
  have hz1 : zsOk l1 := fun y h => Nat.le_trans (hy1 y h) (by decide)
  obtain ⟨r, hr, hr2⟩ := szMoveS_some l0 (by omega) hz 1000000 (by omega) (by omega)
  refine Ev.bind hr ?_
  by_cases h : r < 0
  · simp only [if_pos h]
    exact Ev.now _
  obtain ⟨hl, _, hr3⟩ := hr2 h
  simp only [if_neg h]
  obtain ⟨q, hq, hq2⟩ := szStringS_some l1 (by omega) hz1 r (by omega) hr3
  refine Ev.bind hq ?_
  by_cases h' : q < 0
  · simp only [if_pos h']
    exact Ev.now _
  obtain ⟨hl1, _, _⟩ := hq2 h'
  simp only [if_neg h', toMoveS_some _ l0 _ hl, toStringS_some _ l1 _ hl1, Option.bind_some]
  have hc : (l0.map laws_toMoveS.conv).length ≤ 1000000 := by simpa using hl
  have hso := conv_szOk l0 hz
  generalize hcc : l0.map laws_toMoveS.conv = c at hc hso
  obtain ⟨p, h1, h2⟩ := AreAllClear_both c l1 a2 hc hso hl1 hz1
  refine Ev.bind h1 (Ev.bind h2 ?_)
  simp only [bne_self_eq_false, Bool.false_eq_true, if_false]
  refine Ev.dn ?_
  simp only [laws_FnExactAreAllClear.j0, Bool.false_eq_true, if_false, toMoveS_some _ l0 _ hl, toStringS_some _ l1 _ hl1, Option.bind_some, hcc]
  refine Ev.bind (intactMoveS_refl c hc) ?_
  simp only [if_true]
  refine Ev.bind (intactStringS_refl l1 hl1) ?_
  simp only [if_true]
  refine Ev.bind h2 ?_
  simp only [bne_self_eq_false, Bool.false_eq_true, if_false, if_true]
  exact Ev.now _
end Go.Proofs.Ytllhghcepbkpeaa.Pure
