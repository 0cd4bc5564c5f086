/- The law FnZones as a statement over numbers and lists, proved; no condition but the sizes and ranges that every input has. -/
import Derived.Test.YtllhghcepbkpeaaF34
import Derived.Test.YtllhghcepbkpeaaEv
namespace Go.Proofs.Ytllhghcepbkpeaa.Pure
open Go.RowKit Go.Proofs.Ytllhghcepbkpeaa.Pall Go.Proofs.YtllhghcepbkpeaaW.PrintWords
set_option linter.unusedSimpArgs false
set_option linter.unusedVariables false
def wdB (s : ByteArray) (j : Nat) : Bool := !decide (bt s (j : Int) < 97) && !decide (bt s (j : Int) > 122)
def isWd (s : ByteArray) : Bool := allD (wdB s) 0 s.size && (decide (1 ≤ s.size) && decide (s.size ≤ 16))
theorem spec_IsWord_ev (s : ByteArray) (hn : s.size ≤ 9223372036854775807) : Ev (fun k => spec_IsWord.f k s) (isWd s) := by
  have h := Ev.allLoop (l := fun k i => spec_IsWord.l0 k s i) (n := s.size) (wdB s) false (decide (1 ≤ s.size) && decide (s.size ≤ 16))
    (fun i hi => Evt.all fun k => by
      simp only [spec_IsWord.l0]
      rw [if_pos (by omega), if_pos (by omega), wrap_succ hi hn]
      by_cases h1 : bt s (i : Int) < 97 <;> by_cases h2 : bt s (i : Int) > 122 <;> simp [wdB, h1, h2])
    (Evt.all fun k => by
      simp only [spec_IsWord.l0, spec_l01In.f]
      rw [if_neg (by omega)]
      by_cases h1 : 1 ≤ s.size
      · have e2 : decide (s.size ≤ 16) = decide ((s.size : Int) ≤ 16) := decide_eq_decide.2 (by omega)
        rw [if_pos (by omega), Option.bind_some, e2, decide_eq_true h1, Bool.true_and]
      · rw [if_neg (by omega), Option.bind_some, decide_eq_false h1, Bool.false_and]) s.size 0 (by omega)
  refine h.eq ?_
  unfold isWd
  cases allD (wdB s) 0 s.size <;> simp
theorem impl_IsWord_ev (s : ByteArray) (hn : s.size ≤ 9223372036854775807) : Ev (fun k => impl_IsWord.f k s) (isWd s) := by
  have hb : Ev (fun k => impl_IsWord.j0 k s true) false := Ev.dn (by simp only [impl_IsWord.j0]; exact Ev.now _)
  unfold impl_IsWord.f isWd
  by_cases h1 : (s.size : Int) < 1
  · simp only [if_pos h1]
    refine hb.eq ?_
    rw [decide_eq_false (show ¬ 1 ≤ s.size by omega)]
    simp
  simp only [if_neg h1]
  rw [decide_eq_true (show 1 ≤ s.size by omega)]
  by_cases h2 : s.size ≤ 16
  · rw [decide_eq_false (show ¬ (s.size : Int) > 16 by omega), decide_eq_true h2]
    refine Ev.dn ?_
    simp only [impl_IsWord.j0, Bool.false_eq_true, if_false]
    have h := Ev.allLoop (l := fun k i => impl_IsWord.l0 k s i) (n := s.size) (wdB s) false true
      (fun i hi => Evt.all fun k => by
        simp only [impl_IsWord.l0]
        rw [if_pos (by omega), if_pos (by omega), wrap_succ hi hn]
        by_cases h1 : bt s (i : Int) < 97 <;> by_cases h2 : bt s (i : Int) > 122 <;> simp [wdB, h1, h2])
      (Evt.all fun k => by
        simp only [impl_IsWord.l0]
        rw [if_neg (by omega)]) s.size 0 (by omega)
    refine h.eq ?_
    cases allD (wdB s) 0 s.size <;> simp
  · rw [decide_eq_true (show (s.size : Int) > 16 by omega), decide_eq_false h2]
    refine hb.eq (by simp)
theorem rd_T42_nat {l : List S42} {i : Nat} (h : i < l.length) : rd_T42 l (i : Int) = l[i] := by simp [rd_T42, h]
/-- The people of a zone behind the first n moves. -/
def ppl (l : List S42) (z : ByteArray) : Nat → Int
  | 0 => 0
  | n + 1 => if (rd_T42 l (n : Int)).f1.toList = z.toList then ppl l z n + (rd_T42 l (n : Int)).f2 else ppl l z n
/-- The same, of the moves up to a time. -/
def pplT (l : List S42) (z : ByteArray) (t : Int) : Nat → Int
  | 0 => 0
  | n + 1 => if (rd_T42 l (n : Int)).f1.toList = z.toList ∧ (rd_T42 l (n : Int)).f0 ≤ t then pplT l z t n + (rd_T42 l (n : Int)).f2 else pplT l z t n
def chg (l : List S42) (n : Nat) : Prop := ∀ j, j < n → -1000 ≤ (rd_T42 l (j : Int)).f2 ∧ (rd_T42 l (j : Int)).f2 ≤ 1000
theorem ppl_bd (l : List S42) (z : ByteArray) : ∀ n, chg l n → -(1000 * (n : Int)) ≤ ppl l z n ∧ ppl l z n ≤ 1000 * (n : Int)
  | 0, _ => by simp [ppl]
  | n + 1, h => by
    have ih := ppl_bd l z n (fun j hj => h j (by omega))
    have := h n (by omega)
    simp only [ppl]
    split <;> omega
theorem pplT_bd (l : List S42) (z : ByteArray) (t : Int) : ∀ n, chg l n → -(1000 * (n : Int)) ≤ pplT l z t n ∧ pplT l z t n ≤ 1000 * (n : Int)
  | 0, _ => by simp [pplT]
  | n + 1, h => by
    have ih := pplT_bd l z t n (fun j hj => h j (by omega))
    have := h n (by omega)
    simp only [pplT]
    split <;> omega
theorem pplT_ppl (l : List S42) (z : ByteArray) (t : Int) : ∀ n : Nat, (∀ j, j < n → (rd_T42 l (j : Int)).f0 ≤ t) → pplT l z t n = ppl l z n
  | 0, _ => rfl
  | n + 1, h => by
    have := h n (by omega)
    simp only [pplT, ppl, this, and_true]
    rw [pplT_ppl l z t n (fun j hj => h j (by omega))]
theorem pplT_stop (l : List S42) (z : ByteArray) (t : Int) (m : Nat) : ∀ n, m ≤ n → (∀ j, m ≤ j → j < n → ¬ (rd_T42 l (j : Int)).f0 ≤ t) → pplT l z t n = pplT l z t m
  | 0, h, _ => by obtain rfl : m = 0 := by omega
                  rfl
  | n + 1, h, hj => by
    by_cases e : m = n + 1
    · rw [e]
    · have := hj n (by omega) (by omega)
      simp only [pplT, this, and_false, if_false]
      exact pplT_stop l z t m n (by omega) (fun j h1 h2 => hj j h1 (by omega))
theorem rd_take (l : List S42) (m j : Nat) (h : j < m) : rd_T42 (l.take m) (j : Int) = rd_T42 l (j : Int) := by
  simp [rd_T42, List.getElem?_take, h]
theorem ppl_take (l : List S42) (z : ByteArray) (t : Int) (m : Nat) : ∀ n, n ≤ m → pplT (l.take m) z t n = pplT l z t n
  | 0, _ => rfl
  | n + 1, h => by
    simp only [pplT]
    rw [rd_take l m n (by omega), ppl_take l z t m n (by omega)]
theorem spec_l20People_ev (l : List S42) (z : ByteArray) (n : Nat) (hn : n ≤ l.length) (hl : l.length ≤ 1000000) (hc : chg l n) : Ev (fun k => spec_l20People.f k l z (n : Int)) (ppl l z n) := by
  have key : ∀ d i, i + d = n → Ev (fun k => spec_l20People.l0 k l z (n : Int) (ppl l z i) (i : Int)) (ppl l z n) := by
    intro d
    induction d with
    | zero =>
      intro i hi
      obtain rfl : i = n := by omega
      refine Ev.dn ?_
      simp only [spec_l20People.l0, if_neg (show ¬ (i : Int) < (i : Int) by omega)]
      exact Ev.now _
    | succ d ih =>
      intro i hi
      have hb := ppl_bd l z i (fun j hj => hc j (by omega))
      have hci := hc i (by omega)
      have hs := ih (i + 1) (by omega)
      refine Ev.dn ?_
      simp only [spec_l20People.l0, if_pos (show (i : Int) < (n : Int) by omega), if_pos (show (0 : Int) ≤ (i : Int) by omega), if_pos (show (i : Int) < (l.length : Int) by omega), wrap_succ (show i < n by omega) (show n ≤ 9223372036854775807 by omega)]
      by_cases h1 : (rd_T42 l (i : Int)).f1.toList = z.toList
      · simp only [if_pos h1]
        rw [wrap_id (by omega) (by omega)]
        simpa only [ppl, if_pos h1] using hs
      · simp only [if_neg h1]
        simpa only [ppl, if_neg h1] using hs
  exact key n 0 (by omega)
theorem impl_peopleIn_ev (l : List S42) (z : ByteArray) (t : Int) (hl : l.length ≤ 1000000) (hc : chg l l.length) : Ev (fun k => impl_peopleIn.f k l z t) (pplT l z t l.length) := by
  have key : ∀ d i, i + d = l.length → Ev (fun k => impl_peopleIn.l0 k z t (pplT l z t i) l (l.length : Int) (i : Int)) (pplT l z t l.length) := by
    intro d
    induction d with
    | zero =>
      intro i hi
      obtain rfl : i = l.length := by omega
      refine Ev.dn ?_
      simp only [impl_peopleIn.l0, if_neg (show ¬ (l.length : Int) < (l.length : Int) by omega)]
      exact Ev.now _
    | succ d ih =>
      intro i hi
      have hb := pplT_bd l z t i (fun j hj => hc j (by omega))
      have hci := hc i (by omega)
      have hs := ih (i + 1) (by omega)
      refine Ev.dn ?_
      simp only [impl_peopleIn.l0, if_pos (show (i : Int) < (l.length : Int) by omega), if_pos (show (0 : Int) ≤ (i : Int) by omega), wrap_succ (show i < l.length by omega) (show l.length ≤ 9223372036854775807 by omega)]
      by_cases h1 : (rd_T42 l (i : Int)).f1.toList = z.toList
      · simp only [if_pos h1]
        by_cases h2 : (rd_T42 l (i : Int)).f0 ≤ t
        · simp only [if_pos h2]
          rw [wrap_id (by omega) (by omega)]
          simpa only [pplT, if_pos (And.intro h1 h2)] using hs
        · simp only [if_neg h2]
          simpa only [pplT, if_neg (fun h3 : _ ∧ _ => h2 h3.2)] using hs
      · simp only [if_neg h1]
        simpa only [pplT, if_neg (fun h3 : _ ∧ _ => h1 h3.1)] using hs
  exact key l.length 0 (by omega)
def mvB (l : List S42) (j : Nat) : Bool :=
  decide (0 ≤ (rd_T42 l (j : Int)).f0) && decide ((rd_T42 l (j : Int)).f0 ≤ 10000000) && isWd (rd_T42 l (j : Int)).f1 &&
    decide (-1000 ≤ (rd_T42 l (j : Int)).f2) && decide ((rd_T42 l (j : Int)).f2 ≤ 1000) && !decide ((rd_T42 l (j : Int)).f2 = 0) &&
    (decide (j = 0) || decide ((rd_T42 l ((j - 1 : Nat) : Int)).f0 ≤ (rd_T42 l (j : Int)).f0)) && !decide (ppl l (rd_T42 l (j : Int)).f1 (j + 1) < 0)
def areMv (l : List S42) : Bool := allD (mvB l) 0 l.length && decide (l.length ≤ 40)
theorem mvB_chg {l : List S42} {n : Nat} (h : ∀ j, j < n → mvB l j = true) : chg l n := by
  intro j hj
  have := h j hj
  unfold mvB at this
  simp only [Bool.and_eq_true, decide_eq_true_eq] at this
  omega
theorem mvB_sorted {l : List S42} {n : Nat} (h : ∀ j, j < n → mvB l j = true) : ∀ b a, a ≤ b → b < n → (rd_T42 l (a : Int)).f0 ≤ (rd_T42 l (b : Int)).f0
  | 0, a, h1, _ => by obtain rfl : a = 0 := by omega
                      exact Int.le_refl _
  | b + 1, a, h1, h2 => by
    by_cases e : a = b + 1
    · rw [e]
      exact Int.le_refl _
    · have ih := mvB_sorted h b a (by omega) (by omega)
      have hs := h (b + 1) h2
      unfold mvB at hs
      simp only [Bool.and_eq_true, Bool.or_eq_true, decide_eq_true_eq] at hs
      rcases hs.1.2 with h3 | h3
      · exact absurd h3 (by omega)
      · exact Int.le_trans ih h3
def szOk (l : List S42) : Prop := ∀ j, j < l.length → (rd_T42 l (j : Int)).f1.size ≤ 9223372036854775807
theorem spec_AreMoves_ev (l : List S42) (hn : l.length ≤ 1000000) (hz : szOk l) : Ev (fun k => spec_AreMoves.f k l) (areMv l) := by
  have h := Ev.allLoopP (l := fun k i => spec_AreMoves.l0 k l i) (n := l.length) (mvB l) false (decide (l.length ≤ 40))
    (fun i hi hp => by
      have hw := spec_IsWord_ev (rd_T42 l (i : Int)).f1 (hz i hi)
      by_cases hc : -1000 ≤ (rd_T42 l (i : Int)).f2 ∧ (rd_T42 l (i : Int)).f2 ≤ 1000
      · have hch : chg l (i + 1) := fun j hj => by
          by_cases e : j = i
          · rw [e]; exact hc
          · exact mvB_chg hp j (by omega)
        refine hw.evt2 (spec_l20People_ev l (rd_T42 l (i : Int)).f1 (i + 1) (by omega) hn hch) (fun k hk hk2 => ?_)
        simp only [spec_AreMoves.l0, spec_l01IsTime.f, spec_l01In.f]
        rw [if_pos (by omega), if_pos (by omega), wrap_succ hi (by omega), hk, hk2]
        generalize spec_AreMoves.l0 k l ((i + 1 : Nat) : Int) = R
        by_cases h0 : i = 0
        · have hz : (i = 0) = True := eq_true h0
          have hq : ¬ 0 < i := by omega
          clear h0
          by_cases h1 : 0 ≤ (rd_T42 l (i : Int)).f0 <;> by_cases h2 : (rd_T42 l (i : Int)).f0 ≤ 10000000 <;> cases h3 : isWd (rd_T42 l (i : Int)).f1 <;> by_cases h4 : (rd_T42 l (i : Int)).f2 = 0 <;> by_cases h5 : ppl l (rd_T42 l (i : Int)).f1 (i + 1) < 0 <;> simp [mvB, hz, hq, hc.1, hc.2, h1, h2, h3, h4, h5]
        · have hq : 0 < i := by omega
          rw [wrap_pred hi (by omega) (by omega)]
          have q1 : (0 : Int) ≤ ((i - 1 : Nat) : Int) := by omega
          have q2 : ((i - 1 : Nat) : Int) < (l.length : Int) := by omega
          by_cases h1 : 0 ≤ (rd_T42 l (i : Int)).f0 <;> by_cases h2 : (rd_T42 l (i : Int)).f0 ≤ 10000000 <;> cases h3 : isWd (rd_T42 l (i : Int)).f1 <;> by_cases h4 : (rd_T42 l (i : Int)).f2 = 0 <;> by_cases h5 : ppl l (rd_T42 l (i : Int)).f1 (i + 1) < 0 <;> by_cases h6 : (rd_T42 l ((i - 1 : Nat) : Int)).f0 ≤ (rd_T42 l (i : Int)).f0 <;> simp [mvB, h0, hq, q1, q2, hc.1, hc.2, h1, h2, h3, h4, h5, h6, Int.not_lt.2, Int.not_le.1] <;> (try omega)
      · refine hw.evt (fun k hk => ?_)
        simp only [spec_AreMoves.l0, spec_l01IsTime.f, spec_l01In.f]
        rw [if_pos (by omega), if_pos (by omega), hk]
        have hmv : mvB l i = false := by
          unfold mvB
          by_cases h7 : -1000 ≤ (rd_T42 l (i : Int)).f2
          · have h8 : ¬ (rd_T42 l (i : Int)).f2 ≤ 1000 := fun h9 => hc ⟨h7, h9⟩
            simp [h8]
          · simp [h7]
        rw [hmv]
        by_cases h1 : 0 ≤ (rd_T42 l (i : Int)).f0 <;> by_cases h2 : (rd_T42 l (i : Int)).f0 ≤ 10000000 <;> cases h3 : isWd (rd_T42 l (i : Int)).f1 <;> by_cases h7 : -1000 ≤ (rd_T42 l (i : Int)).f2 <;> by_cases h8 : (rd_T42 l (i : Int)).f2 ≤ 1000 <;> simp [h1, h2, h3, h7, h8]
        exact absurd ⟨h7, h8⟩ hc)
    (fun _ => Evt.all fun k => by
      simp only [spec_AreMoves.l0]
      rw [if_neg (by omega)]
      congr 1
      exact decide_eq_decide.2 (by omega)) l.length 0 (by omega) (fun j hj => by omega)
  refine h.eq ?_
  unfold areMv
  cases allD (mvB l) 0 l.length <;> simp
theorem impl_AreMoves_ev (l : List S42) (hn : l.length ≤ 1000000) (hz : szOk l) : Ev (fun k => impl_AreMoves.f k l) (areMv l) := by
  unfold impl_AreMoves.f
  by_cases hl : (l.length : Int) > 40
  · simp only [if_pos hl]
    refine (Ev.now false).eq ?_
    unfold areMv
    rw [decide_eq_false (by omega), Bool.and_false]
  simp only [if_neg hl]
  have h := Ev.allLoopQ (l := fun k i => impl_AreMoves.l0 k l l (l.length : Int) i) (n := l.length) (mvB l) false true
    (fun i hi hp => by
      have hw := impl_IsWord_ev (rd_T42 l (i : Int)).f1 (hz i hi)
      have hs1 := wrap_succ hi (show l.length ≤ 9223372036854775807 by omega)
      have hbad : Ev (fun k => impl_AreMoves.j1 k l (i : Int) l (l.length : Int) (i : Int) true (rd_T42 l (i : Int)).f0 (rd_T42 l (i : Int)).f1 (rd_T42 l (i : Int)).f2) false := Ev.dn (by simp only [impl_AreMoves.j1]; exact Ev.now _)
      have hgood : chg l (i + 1) → (∀ j, j < i + 1 → (rd_T42 l (j : Int)).f0 ≤ (rd_T42 l (i : Int)).f0) → ∀ r, (0 ≤ ppl l (rd_T42 l (i : Int)).f1 (i + 1) → Ev (fun k => impl_AreMoves.l0 k l l (l.length : Int) ((i + 1 : Nat) : Int)) r) → (ppl l (rd_T42 l (i : Int)).f1 (i + 1) < 0 → r = false) →
          Ev (fun k => impl_AreMoves.j1 k l (i : Int) l (l.length : Int) (i : Int) false (rd_T42 l (i : Int)).f0 (rd_T42 l (i : Int)).f1 (rd_T42 l (i : Int)).f2) r := by
        intro hch hts r hr hr2
        refine Ev.dn ?_
        simp only [impl_AreMoves.j1, hs1, Bool.false_eq_true, if_false, if_pos (show (0 : Int) ≤ ((i + 1 : Nat) : Int) by omega), if_pos (show ((i + 1 : Nat) : Int) ≤ (l.length : Int) by omega), Int.toNat_natCast]
        have hlt : (l.take (i + 1)).length = i + 1 := by rw [List.length_take]; omega
        have hpe := impl_peopleIn_ev (l.take (i + 1)) (rd_T42 l (i : Int)).f1 (rd_T42 l (i : Int)).f0 (by omega) (fun j hj => by rw [rd_take l (i + 1) j (by omega)]; exact hch j (by omega))
        rw [hlt, ppl_take _ _ _ _ _ (Nat.le_refl _), pplT_ppl _ _ _ _ hts] at hpe
        refine Ev.bind hpe ?_
        by_cases h9 : ppl l (rd_T42 l (i : Int)).f1 (i + 1) < 0
        · simp only [if_pos h9]
          rw [hr2 h9]
          exact Ev.now _
        · simp only [if_neg h9]
          exact hr (by omega)
      have hmain : ∀ r, (mvB l i = true → Ev (fun k => impl_AreMoves.l0 k l l (l.length : Int) ((i + 1 : Nat) : Int)) r) → (mvB l i = false → r = false) → Ev (fun k => impl_AreMoves.l0 k l l (l.length : Int) (i : Int)) r := by
        intro r hr hr2
        refine Ev.dn ?_
        simp only [impl_AreMoves.l0, impl_isTime.f, impl_within.f, if_pos (show (i : Int) < (l.length : Int) by omega), if_pos (show (0 : Int) ≤ (i : Int) by omega)]
        by_cases h1 : 0 ≤ (rd_T42 l (i : Int)).f0
        case neg =>
          simp only [if_neg h1, Option.bind_some, Bool.false_eq_true, if_false]
          exact hbad.eq (hr2 (by simp [mvB, h1])).symm
        simp only [if_pos h1, Option.bind_some]
        by_cases h2 : (rd_T42 l (i : Int)).f0 ≤ 10000000
        case neg =>
          simp only [decide_eq_false h2, Bool.false_eq_true, if_false]
          exact hbad.eq (hr2 (by simp [mvB, h2])).symm
        simp only [decide_eq_true h2, if_true]
        refine Ev.bind hw ?_
        cases h3 : isWd (rd_T42 l (i : Int)).f1 with
        | false =>
          simp only [Bool.false_eq_true, if_false]
          exact hbad.eq (hr2 (by simp [mvB, h3])).symm
        | true =>
        simp only [if_true]
        by_cases h4 : -1000 ≤ (rd_T42 l (i : Int)).f2
        case neg =>
          simp only [if_neg h4, Option.bind_some, Bool.false_eq_true, if_false]
          exact hbad.eq (hr2 (by simp [mvB, h4])).symm
        simp only [if_pos h4, Option.bind_some]
        by_cases h5 : (rd_T42 l (i : Int)).f2 ≤ 1000
        case neg =>
          simp only [decide_eq_false h5, Bool.false_eq_true, if_false]
          exact hbad.eq (hr2 (by simp [mvB, h5])).symm
        simp only [decide_eq_true h5, if_true]
        by_cases h6 : (rd_T42 l (i : Int)).f2 = 0
        case pos =>
          simp only [if_pos h6]
          exact hbad.eq (hr2 (by simp [mvB, h6])).symm
        simp only [if_neg h6]
        have hch : chg l (i + 1) := fun j hj => by
          by_cases e : j = i
          · rw [e]; exact ⟨h4, h5⟩
          · exact mvB_chg hp j (by omega)
        by_cases h0 : i = 0
        · have hz0 : (i = 0) = True := eq_true h0
          simp only [if_neg (show ¬ (i : Int) > 0 by omega)]
          refine hgood hch (fun j hj => by rw [show j = i by omega]; exact Int.le_refl _) r (fun h9 => hr ?_) (fun h9 => hr2 ?_)
          · simp [mvB, hz0, h1, h2, h3, h4, h5, h6, h9]
          · simp [mvB, h9]
        · simp only [if_pos (show (i : Int) > 0 by omega), wrap_pred hi (show 0 < i by omega) (show l.length ≤ 9223372036854775807 by omega), if_pos (show (0 : Int) ≤ ((i - 1 : Nat) : Int) by omega), if_pos (show ((i - 1 : Nat) : Int) < (l.length : Int) by omega)]
          by_cases h7 : (rd_T42 l ((i - 1 : Nat) : Int)).f0 ≤ (rd_T42 l (i : Int)).f0
          · rw [decide_eq_false (show ¬ (rd_T42 l ((i - 1 : Nat) : Int)).f0 > (rd_T42 l (i : Int)).f0 by omega)]
            refine hgood hch (fun j hj => ?_) r (fun h9 => hr ?_) (fun h9 => hr2 ?_)
            · by_cases e : j = i
              · rw [e]; exact Int.le_refl _
              · exact Int.le_trans (mvB_sorted hp (i - 1) j (by omega) (by omega)) h7
            · simp [mvB, h1, h2, h3, h4, h5, h6, h7, h9]
            · simp [mvB, h9]
          · rw [decide_eq_true (show (rd_T42 l ((i - 1 : Nat) : Int)).f0 > (rd_T42 l (i : Int)).f0 by omega)]
            exact hbad.eq (hr2 (by simp [mvB, h0, h7])).symm
      exact ⟨fun hs r hr => hmain r (fun _ => hr) (fun h => by rw [hs] at h; exact absurd h (by decide)), fun hs => hmain false (fun h => by rw [hs] at h; exact absurd h (by decide)) (fun _ => rfl)⟩)
    (fun _ => Ev.dn (by
      simp only [impl_AreMoves.l0, if_neg (show ¬ (l.length : Int) < (l.length : Int) by omega)]
      exact Ev.now _)) l.length 0 (by omega) (fun j hj => by omega)
  refine h.eq ?_
  unfold areMv
  rw [decide_eq_true (by omega : l.length ≤ 40), Bool.and_true]
  cases allD (mvB l) 0 l.length <;> simp
theorem areMv_ok {l : List S42} (h : areMv l = true) : (∀ j, j < l.length → mvB l j = true) ∧ l.length ≤ 40 := by
  unfold areMv at h
  simp only [Bool.and_eq_true, decide_eq_true_eq] at h
  exact ⟨fun j hj => (allD_iff _ _ _).1 h.1 j (by omega) (by omega), h.2⟩
theorem mvB_time {l : List S42} {j : Nat} (h : mvB l j = true) : 0 ≤ (rd_T42 l (j : Int)).f0 ∧ (rd_T42 l (j : Int)).f0 ≤ 10000000 := by
  unfold mvB at h
  simp only [Bool.and_eq_true, decide_eq_true_eq] at h
  omega
/-- What the question's code is. -/
def cdZ (l : List S42) (z : ByteArray) (t : Int) : Int := if areMv l = true ∧ isWd z = true then (if 0 ≤ t ∧ t ≤ 10000000 then 0 else 2) else 1
theorem cdZ_zero {l : List S42} {z : ByteArray} {t : Int} (h : cdZ l z t = 0) : areMv l = true ∧ 0 ≤ t ∧ t ≤ 10000000 := by
  unfold cdZ at h
  by_cases h1 : areMv l = true ∧ isWd z = true
  · by_cases h2 : 0 ≤ t ∧ t ≤ 10000000
    · exact ⟨h1.1, h2⟩
    · simp [h1, h2] at h
  · rw [if_neg h1] at h
    exact absurd h (by decide)
theorem spec_l20Code_ev (l : List S42) (z : ByteArray) (t : Int) (hn : l.length ≤ 1000000) (hz : szOk l) (hs : z.size ≤ 9223372036854775807) : Ev (fun k => spec_l20Code.f k l z t) (cdZ l z t) := by
  unfold spec_l20Code.f cdZ
  refine Ev.bind (spec_AreMoves_ev l hn hz) ?_
  have hb : Ev (fun k => spec_l20Code.j0 k t true) 1 := Ev.dn (by simp only [spec_l20Code.j0]; exact Ev.now _)
  cases h1 : areMv l with
  | false =>
    simp only [Bool.false_eq_true, if_false, false_and]
    exact hb
  | true =>
    simp only [if_true, true_and]
    refine Ev.bind (spec_IsWord_ev z hs) ?_
    cases h2 : isWd z with
    | false =>
      simp only [Bool.not_false, Bool.false_eq_true, if_false]
      exact hb
    | true =>
      simp only [Bool.not_true, if_true]
      refine Ev.dn ?_
      simp only [spec_l20Code.j0, spec_l01IsTime.f, spec_l01In.f, Bool.false_eq_true, if_false]
      by_cases h3 : 0 ≤ t <;> by_cases h4 : t ≤ 10000000 <;> simp only [ge_iff_le, h3, h4, if_true, if_false, Option.bind_some, decide_true, decide_false, Bool.false_eq_true, and_self, and_true, and_false, false_and, true_and] <;> exact Ev.now _
theorem impl_zoneAsked_ev (l : List S42) (z : ByteArray) (t : Int) (hn : l.length ≤ 1000000) (hz : szOk l) (hs : z.size ≤ 9223372036854775807) : Ev (fun k => impl_zoneAsked.f k l z t) (cdZ l z t) := by
  unfold impl_zoneAsked.f cdZ
  refine Ev.bind (impl_AreMoves_ev l hn hz) ?_
  have hb : Ev (fun k => impl_zoneAsked.j0 k t true) 1 := Ev.dn (by simp only [impl_zoneAsked.j0]; exact Ev.now _)
  cases h1 : areMv l with
  | false =>
    simp only [Bool.false_eq_true, if_false, false_and]
    exact hb
  | true =>
    simp only [if_true, true_and]
    refine Ev.bind (impl_IsWord_ev z hs) ?_
    cases h2 : isWd z with
    | false =>
      simp only [Bool.not_false, Bool.false_eq_true, if_false]
      exact hb
    | true =>
      simp only [Bool.not_true, if_true]
      refine Ev.dn ?_
      simp only [impl_zoneAsked.j0, impl_isTime.f, impl_within.f, Bool.false_eq_true, if_false]
      by_cases h3 : 0 ≤ t <;> by_cases h4 : t ≤ 10000000 <;> simp only [h3, h4, if_true, if_false, Option.bind_some, decide_true, decide_false, Bool.false_eq_true, and_self, and_true, and_false, false_and, true_and] <;> exact Ev.now _
/-- How many moves lead the row that are not after t. -/
def upto (l : List S42) (t : Int) : Nat → Nat → Nat
  | i, 0 => i
  | i, d + 1 => if (rd_T42 l (i : Int)).f0 ≤ t then upto l t (i + 1) d else i
theorem upto_spec (l : List S42) (t : Int) : ∀ d i, i ≤ upto l t i d ∧ upto l t i d ≤ i + d ∧ (∀ j, i ≤ j → j < upto l t i d → (rd_T42 l (j : Int)).f0 ≤ t) ∧ (upto l t i d < i + d → ¬ (rd_T42 l ((upto l t i d : Nat) : Int)).f0 ≤ t)
  | 0, i => ⟨Nat.le_refl _, Nat.le_refl _, fun j h1 h2 => absurd h2 (by simp only [upto]; omega), fun h => absurd h (by simp only [upto]; omega)⟩
  | d + 1, i => by
    by_cases h : (rd_T42 l (i : Int)).f0 ≤ t
    · obtain ⟨h1, h2, h3, h4⟩ := upto_spec l t d (i + 1)
      simp only [upto, if_pos h]
      refine ⟨by omega, by omega, fun j hj hj2 => ?_, fun hh => h4 (by omega)⟩
      by_cases e : j = i
      · rw [e]; exact h
      · exact h3 j (by omega) hj2
    · simp only [upto, if_neg h]
      exact ⟨Nat.le_refl _, by omega, fun j h1 h2 => by omega, fun _ => h⟩
theorem spec_l20Upto_ev (l : List S42) (t : Int) (hn : l.length ≤ 1000000) : Ev (fun k => spec_l20Upto.f k l t) ((upto l t 0 l.length : Nat) : Int) := by
  have key : ∀ d i, i + d = l.length → Ev (fun k => spec_l20Upto.l0 k l t (i : Int)) ((upto l t i d : Nat) : Int) := by
    intro d
    induction d with
    | zero =>
      intro i hi
      refine Ev.dn ?_
      simp only [spec_l20Upto.l0, if_neg (show ¬ (i : Int) < (l.length : Int) by omega), upto]
      exact Ev.now _
    | succ d ih =>
      intro i hi
      have := ih (i + 1) (by omega)
      refine Ev.dn ?_
      simp only [spec_l20Upto.l0, if_pos (show (i : Int) < (l.length : Int) by omega), if_pos (show (0 : Int) ≤ (i : Int) by omega), wrap_succ (show i < l.length by omega) (show l.length ≤ 9223372036854775807 by omega), upto]
      by_cases h : (rd_T42 l (i : Int)).f0 ≤ t
      · simp only [if_pos h]; exact this
      · simp only [if_neg h]; exact Ev.now _
  exact key l.length 0 (by omega)
theorem ppl_upto {l : List S42} (z : ByteArray) (t : Int) (hm : ∀ j, j < l.length → mvB l j = true) : ppl l z (upto l t 0 l.length) = pplT l z t l.length := by
  obtain ⟨h1, h2, h3, h4⟩ := upto_spec l t l.length 0
  rw [← pplT_ppl l z t _ (fun j hj => h3 j (by omega) hj), pplT_stop l z t (upto l t 0 l.length) l.length (by omega) (fun j hj hj2 hh => ?_)]
  exact h4 (by omega) (Int.le_trans (mvB_sorted hm j (upto l t 0 l.length) hj hj2) hh)
theorem toList_loop (s : ByteArray) : ∀ d i r, i + d = s.size → ByteArray.toList.loop s i r = r.reverse ++ s.data.toList.drop i := by
  intro d
  induction d with
  | zero =>
    intro i r h
    have e : s.data.toList.drop i = [] := List.drop_of_length_le (by rw [Array.length_toList]; exact Nat.le_of_eq h.symm)
    rw [ByteArray.toList.loop, if_neg (by omega), e, List.append_nil]
  | succ d ih =>
    intro i r h
    have hi : i < s.data.toList.length := by rw [Array.length_toList]; show i < s.size; omega
    rw [ByteArray.toList.loop, if_pos (by omega), ih (i + 1) _ (by omega), List.drop_eq_getElem_cons hi]
    simp [ByteArray.get!]
    exact getElem!_pos s.data i (by simpa using hi)
theorem toList_data (s : ByteArray) : s.toList = s.data.toList := by
  unfold ByteArray.toList
  rw [toList_loop s s.size 0 [] (by omega)]
  simp
theorem toList_inj {a b : ByteArray} (h : a.toList = b.toList) : a = b := by
  rw [toList_data, toList_data] at h
  cases a; cases b
  congr
  exact Array.toList_inj.1 h
theorem less_irrefl : ∀ x : List UInt8, Op.bytesLess x x = false
  | [] => rfl
  | a :: x => by
    have h : ¬ a < a := by rw [UInt8.lt_iff_toNat_lt]; omega
    simp [Op.bytesLess, h, less_irrefl x]
theorem less_trans : ∀ x y z : List UInt8, Op.bytesLess x y = true → Op.bytesLess y z = true → Op.bytesLess x z = true
  | [], [], z, h, _ => by simp [Op.bytesLess] at h
  | [], _ :: _, [], _, h => by simp [Op.bytesLess] at h
  | [], _ :: _, _ :: _, _, _ => by simp [Op.bytesLess]
  | _ :: _, [], _, h, _ => by simp [Op.bytesLess] at h
  | _ :: _, _ :: _, [], _, h => by simp [Op.bytesLess] at h
  | a :: x, b :: y, c :: z, h, g => by
    have ih := less_trans x y z
    simp only [Op.bytesLess, Bool.or_eq_true, Bool.and_eq_true, decide_eq_true_eq, beq_iff_eq] at h g ⊢
    rcases h with h | ⟨rfl, h⟩ <;> rcases g with g | ⟨rfl, g⟩
    · left; rw [UInt8.lt_iff_toNat_lt] at h g ⊢; omega
    · exact .inl h
    · exact .inl g
    · exact .inr ⟨rfl, ih h g⟩
theorem less_tri : ∀ x y : List UInt8, Op.bytesLess x y = false → Op.bytesLess y x = false → x = y
  | [], [], _, _ => rfl
  | [], _ :: _, h, _ => by simp [Op.bytesLess] at h
  | _ :: _, [], _, h => by simp [Op.bytesLess] at h
  | a :: x, b :: y, h, g => by
    have ih := less_tri x y
    simp only [Op.bytesLess, Bool.or_eq_false_iff, Bool.and_eq_false_iff, decide_eq_false_iff_not, beq_eq_false_iff_ne] at h g
    have e : a = b := by
      have h1 := h.1
      have g1 := g.1
      rw [UInt8.lt_iff_toNat_lt] at h1 g1
      exact UInt8.toNat_inj.1 (by omega)
    subst e
    rw [ih (h.2.resolve_left (fun q => q rfl)) (g.2.resolve_left (fun q => q rfl))]
def blt (a b : ByteArray) : Bool := Op.bytesLess a.toList b.toList
theorem blt_irrefl (a : ByteArray) : blt a a = false := less_irrefl _
theorem blt_trans {a b c : ByteArray} (h : blt a b = true) (g : blt b c = true) : blt a c = true := less_trans _ _ _ h g
theorem blt_asym {a b : ByteArray} (h : blt a b = true) : blt b a = false := by
  cases c : blt b a with
  | false => rfl
  | true => have := blt_trans h c; rw [blt_irrefl] at this; exact this.symm
def Inc (l : List ByteArray) : Prop := l.Pairwise (fun a b => blt a b = true)
/-- Strictly increasing words with one more. -/
def insW : List ByteArray → ByteArray → List ByteArray
  | [], w => [w]
  | x :: l, w => if blt w x = true then w :: x :: l else if blt x w = true then x :: insW l w else x :: l
theorem insW_mem : ∀ (l : List ByteArray) (w x : ByteArray), x ∈ insW l w ↔ x = w ∨ x ∈ l
  | [], w, x => by simp [insW]
  | y :: l, w, x => by
    have ih := insW_mem l w x
    unfold insW
    by_cases h1 : blt w y = true
    · rw [if_pos h1]; simp
    · rw [if_neg h1]
      by_cases h2 : blt y w = true
      · rw [if_pos h2, List.mem_cons, ih, List.mem_cons]
        constructor
        · rintro (h | h | h)
          · exact .inr (.inl h)
          · exact .inl h
          · exact .inr (.inr h)
        · rintro (h | h | h)
          · exact .inr (.inl h)
          · exact .inl h
          · exact .inr (.inr h)
      · rw [if_neg h2]
        have e : w = y := toList_inj (less_tri _ _ (by simpa [blt] using h1) (by simpa [blt] using h2))
        subst e
        simp
theorem insW_inc : ∀ (l : List ByteArray) (w : ByteArray), Inc l → Inc (insW l w)
  | [], w, _ => List.pairwise_singleton _ _
  | y :: l, w, h => by
    have hp := List.pairwise_cons.1 h
    have ih := insW_inc l w hp.2
    unfold insW
    by_cases h1 : blt w y = true
    · rw [if_pos h1]
      refine List.pairwise_cons.2 ⟨fun z hz => ?_, h⟩
      rcases List.mem_cons.1 hz with rfl | hz
      · exact h1
      · exact blt_trans h1 (hp.1 z hz)
    · rw [if_neg h1]
      by_cases h2 : blt y w = true
      · rw [if_pos h2]
        refine List.pairwise_cons.2 ⟨fun z hz => ?_, ih⟩
        rcases (insW_mem l w z).1 hz with rfl | hz
        · exact h2
        · exact hp.1 z hz
      · rw [if_neg h2]; exact h
theorem insW_len : ∀ (l : List ByteArray) (w : ByteArray), (insW l w).length ≤ l.length + 1
  | [], w => by simp [insW]
  | y :: l, w => by
    have ih := insW_len l w
    unfold insW
    split
    · simp
    · split
      · simp only [List.length_cons]; omega
      · simp
theorem insW_at : ∀ (l : List ByteArray) (w : ByteArray) (m : Nat), m ≤ l.length → (∀ x ∈ l.take m, blt x w = true) → (∀ x ∈ l.drop m, blt w x = true) → insW l w = l.take m ++ [w] ++ l.drop m
  | [], w, m, _, _, _ => by simp [insW]
  | y :: l, w, 0, _, _, h2 => by
    have := h2 y (by simp)
    unfold insW
    rw [if_pos this]
    rfl
  | y :: l, w, m + 1, hm, h1, h2 => by
    have hy := h1 y (by simp)
    have ih := insW_at l w m (by simpa using hm) (fun x hx => h1 x (by rw [List.take_succ_cons]; exact List.mem_cons_of_mem _ hx)) h2
    unfold insW
    rw [if_neg (by rw [blt_asym hy]; decide), if_pos hy, ih]
    rfl
theorem insW_in : ∀ (l : List ByteArray) (w : ByteArray), Inc l → w ∈ l → insW l w = l
  | [], w, _, h => by simp at h
  | y :: l, w, hi, h => by
    have hp := List.pairwise_cons.1 hi
    unfold insW
    rcases List.mem_cons.1 h with rfl | h
    · rw [blt_irrefl]; rfl
    · have := hp.1 w h
      rw [if_neg (by rw [blt_asym this]; decide), if_pos this, insW_in l w hp.2 h]
theorem inc_at {l : List ByteArray} (h : Inc l) (i j : Nat) (hij : i < j) (hj : j < l.length) : blt (l[i]'(by omega)) l[j] = true := List.pairwise_iff_getElem.1 h i j (by omega) hj hij
theorem take_lt {l : List ByteArray} (h : Inc l) (w : ByteArray) (m : Nat) (hm : m < l.length) (hw : blt l[m] w = true) : ∀ x ∈ l.take (m + 1), blt x w = true := by
  intro x hx
  obtain ⟨j, hj, rfl⟩ := List.getElem_of_mem hx
  rw [List.length_take] at hj
  rw [List.getElem_take]
  by_cases e : j = m
  · subst e; exact hw
  · exact blt_trans (inc_at h j m (by omega) hm) hw
theorem drop_gt {l : List ByteArray} (h : Inc l) (w : ByteArray) (m : Nat) (hm : m < l.length) (hw : blt w l[m] = true) : ∀ x ∈ l.drop m, blt w x = true := by
  intro x hx
  obtain ⟨j, hj, rfl⟩ := List.getElem_of_mem hx
  rw [List.length_drop] at hj
  rw [List.getElem_drop]
  by_cases e : j = 0
  · subst e; exact hw
  · exact blt_trans hw (inc_at h m (m + j) (by omega) (by omega))
theorem impl_putWord_ev (l : List ByteArray) (w : ByteArray) (hi : Inc l) (hn : l.length ≤ 1000000) : Ev (fun k => impl_putWord.f k l w) (insW l w) := by
  have key : ∀ m : Nat, m ≤ l.length → (∀ x ∈ l.drop m, blt w x = true) → Ev (fun k => impl_putWord.l0 k l w (m : Int)) (insW l w) := by
    intro m
    induction m with
    | zero =>
      intro hm hd
      refine Ev.dn ?_
      rw [insW_at l w 0 hm (by simp) hd]
      simp only [impl_putWord.l0]
      refine Ev.all fun k => ?_
      rw [if_neg (by omega), if_pos (show l.length < 8796093022208 by omega), Option.bind_some, show wrap64 (((0 : Nat) : Int) + 1) = 1 from wrap_id (by omega) (by omega), if_pos (by omega), if_pos (by simp; omega), if_pos (by omega), if_pos (by simp; omega)]
      rfl
    | succ m ih =>
      intro hm hd
      have hw : wrap64 (((m + 1 : Nat) : Int) - 1) = (m : Int) := by rw [wrap_id (by omega) (by omega)]; omega
      by_cases h1 : blt w l[m] = true
      · have hs := ih (by omega) (drop_gt hi w m (by omega) h1)
        refine Ev.dn ?_
        refine Ev.eq' hs (fun k => ?_)
        simp only [impl_putWord.l0]
        rw [if_pos (by omega), hw, if_pos (by omega), if_pos (by omega), rdOf_nat (by omega)]
        rw [if_pos (show Op.bytesLess w.toList l[m].toList = true from h1)]
      · refine Ev.dn (Ev.all fun k => ?_)
        simp only [impl_putWord.l0]
        rw [if_pos (by omega), hw, if_pos (by omega), if_pos (by omega), rdOf_nat (by omega), if_neg (show ¬ Op.bytesLess w.toList l[m].toList = true from h1)]
        by_cases h2 : l[m].toList = w.toList
        · rw [if_pos h2, insW_in l w hi (by rw [← toList_inj h2]; exact List.getElem_mem _)]
        · have h3 : blt l[m] w = true := by
            cases c : blt l[m] w with
            | true => rfl
            | false => exact absurd (less_tri _ _ c (by simpa [blt] using h1)) h2
          rw [if_neg h2, if_pos (show l.length < 8796093022208 by omega), Option.bind_some, show wrap64 (((m + 1 : Nat) : Int) + 1) = ((m + 2 : Nat) : Int) by rw [wrap_id (by omega) (by omega)]; omega, if_pos (by omega), if_pos (by simp; omega), if_pos (by omega), if_pos (by simp; omega), Int.toNat_natCast, insW_at l w (m + 1) hm (take_lt hi w m (by omega) h3) hd]
  unfold impl_putWord.f
  exact key l.length (Nat.le_refl _) (by simp)
theorem spec_l20Insert_ev (l : List ByteArray) (w : ByteArray) (hi : Inc l) (hn : l.length ≤ 1000000) : Ev (fun k => spec_l20Insert.f k l w) (insW l w) := by
  have fin : ∀ m : Nat, m ≤ l.length → (([] : List ByteArray) ++ l.take m).length + [w].length < 8796093022208 ∧ (([] : List ByteArray) ++ l.take m ++ [w]).length + (l.drop m).length < 8796093022208 := by
    intro m hm
    simp only [List.nil_append, List.length_append, List.length_take, List.length_drop, List.length_cons, List.length_nil]
    omega
  have key : ∀ d m : Nat, m + d = l.length → (∀ x ∈ l.take m, blt x w = true) → Ev (fun k => spec_l20Insert.l0 k l w (m : Int)) (insW l w) := by
    intro d
    induction d with
    | zero =>
      intro m hm hd
      obtain ⟨f1, f2⟩ := fin m (by omega)
      have f0 : ([] : List ByteArray).length + (l.take m).length < 8796093022208 := by simp only [List.length_take, List.length_nil]; omega
      refine Ev.dn (Ev.all fun k => ?_)
      simp only [spec_l20Insert.l0]
      rw [if_neg (by omega), Option.bind_some, if_pos (by omega), if_pos (by omega), Option.bind_some, Int.toNat_natCast, if_pos f0, Option.bind_some, Option.bind_some, if_pos f1, Option.bind_some, Option.bind_some, if_pos f2, insW_at l w m (by omega) hd (by rw [List.drop_eq_nil_of_le (by omega)]; simp)]
      rfl
    | succ d ih =>
      intro m hm hd
      by_cases h1 : blt l[m] w = true
      · have hs := ih (m + 1) (by omega) (take_lt hi w m (by omega) h1)
        refine Ev.dn (Ev.eq' hs (fun k => ?_))
        simp only [spec_l20Insert.l0]
        rw [if_pos (by omega), if_pos (by omega), rdOf_nat (by omega), if_pos (show Op.bytesLess l[m].toList w.toList = true from h1), wrap_succ (show m < l.length by omega) (by omega)]
      · refine Ev.dn (Ev.all fun k => ?_)
        simp only [spec_l20Insert.l0]
        rw [if_pos (by omega), if_pos (by omega), rdOf_nat (by omega), if_neg (show ¬ Op.bytesLess l[m].toList w.toList = true from h1)]
        by_cases h2 : l[m].toList = w.toList
        · rw [if_pos h2, insW_in l w hi (by rw [← toList_inj h2]; exact List.getElem_mem _)]
        · have h3 : blt w l[m] = true := by
            cases c : blt w l[m] with
            | true => rfl
            | false => exact absurd (less_tri _ _ (by simpa [blt] using h1) c) h2
          obtain ⟨f1, f2⟩ := fin m (by omega)
          have f0 : ([] : List ByteArray).length + (l.take m).length < 8796093022208 := by simp only [List.length_take, List.length_nil]; omega
          rw [if_neg h2, Option.bind_some, if_pos (by omega), Option.bind_some, Int.toNat_natCast, if_pos f0, Option.bind_some, Option.bind_some, if_pos f1, Option.bind_some, Option.bind_some, if_pos f2, insW_at l w m (by omega) hd (drop_gt hi w m (by omega) h3)]
          rfl
  unfold spec_l20Insert.f
  exact key l.length 0 (by omega) (by simp)
/-- The zones that are occupied: those of the first n moves with people at t. -/
def occ (l : List S42) (t : Int) : Nat → List ByteArray
  | 0 => []
  | n + 1 => if pplT l (rd_T42 l (n : Int)).f1 t l.length > 0 then insW (occ l t n) (rd_T42 l (n : Int)).f1 else occ l t n
theorem occ_inc (l : List S42) (t : Int) : ∀ n, Inc (occ l t n)
  | 0 => List.Pairwise.nil
  | n + 1 => by
    have ih := occ_inc l t n
    simp only [occ]
    split
    · exact insW_inc _ _ ih
    · exact ih
theorem occ_len (l : List S42) (t : Int) : ∀ n, (occ l t n).length ≤ n
  | 0 => by simp [occ]
  | n + 1 => by
    have ih := occ_len l t n
    simp only [occ]
    split
    · exact Nat.le_trans (insW_len _ _) (by omega)
    · omega
theorem occ_mem (l : List S42) (t : Int) : ∀ n x, x ∈ occ l t n ↔ ∃ j, j < n ∧ (rd_T42 l (j : Int)).f1 = x ∧ pplT l x t l.length > 0
  | 0, x => by simp [occ]
  | n + 1, x => by
    have ih := occ_mem l t n x
    have old : (∃ j, j < n ∧ (rd_T42 l (j : Int)).f1 = x ∧ pplT l x t l.length > 0) → ∃ j, j < n + 1 ∧ (rd_T42 l (j : Int)).f1 = x ∧ pplT l x t l.length > 0 := fun ⟨j, h1, h2⟩ => ⟨j, by omega, h2⟩
    simp only [occ]
    by_cases h : pplT l (rd_T42 l (n : Int)).f1 t l.length > 0
    · rw [if_pos h, insW_mem, ih]
      constructor
      · rintro (rfl | hh)
        · exact ⟨n, by omega, rfl, h⟩
        · exact old hh
      · rintro ⟨j, h1, h2, h3⟩
        by_cases e : j = n
        · subst e; exact .inl h2.symm
        · exact .inr ⟨j, by omega, h2, h3⟩
    · rw [if_neg h, ih]
      constructor
      · exact old
      · rintro ⟨j, h1, h2, h3⟩
        by_cases e : j = n
        · subst e; subst h2; exact absurd h3 h
        · exact ⟨j, by omega, h2, h3⟩
theorem pplT_pos (l : List S42) (z : ByteArray) (t : Int) : ∀ n, pplT l z t n > 0 → ∃ j, j < n ∧ (rd_T42 l (j : Int)).f1.toList = z.toList ∧ (rd_T42 l (j : Int)).f0 ≤ t
  | 0, h => by simp [pplT] at h
  | n + 1, h => by
    simp only [pplT] at h
    by_cases c : (rd_T42 l (n : Int)).f1.toList = z.toList ∧ (rd_T42 l (n : Int)).f0 ≤ t
    · exact ⟨n, by omega, c⟩
    · rw [if_neg c] at h
      obtain ⟨j, h1, h2⟩ := pplT_pos l z t n h
      exact ⟨j, by omega, h2⟩
theorem occ_stop (l : List S42) (t : Int) (m : Nat) (hb : ∀ j, j < l.length → mvB l j = true) (hm : ∀ j, j < l.length → (rd_T42 l (j : Int)).f0 ≤ t → j < m) : ∀ n, m ≤ n → occ l t n = occ l t m
  | 0, h => by rw [show m = 0 by omega]
  | n + 1, h => by
    by_cases e : m = n + 1
    · rw [e]
    · have ih := occ_stop l t m hb hm n (by omega)
      simp only [occ]
      by_cases c : pplT l (rd_T42 l (n : Int)).f1 t l.length > 0
      · rw [if_pos c]
        obtain ⟨j, h1, h2, h3⟩ := pplT_pos l _ t _ c
        have hj := hm j h1 h3
        rw [insW_in _ _ (occ_inc l t n) ((occ_mem l t n _).2 ⟨j, by omega, toList_inj h2, c⟩), ih]
      · rw [if_neg c, ih]
theorem isWd_a : isWd (⟨#[97]⟩ : ByteArray) = true := by decide
def ocR (l : List S42) (t : Int) : List ByteArray × Int := if areMv l = true then (if 0 ≤ t ∧ t ≤ 10000000 then (occ l t l.length, 0) else ([], 2)) else ([], 1)
theorem ocR_len (l : List S42) (t : Int) (hn : l.length ≤ 1000000) : (ocR l t).1.length ≤ 1000000 := by
  unfold ocR
  split
  · split
    · exact Nat.le_trans (occ_len l t l.length) hn
    · exact Nat.zero_le _
  · exact Nat.zero_le _
theorem spec_OccupiedAt_is (l : List S42) (t : Int) (hn : l.length ≤ 1000000) (hz : szOk l) : Ev (fun k => spec_OccupiedAt.f k l t) (ocR l t) := by
  unfold spec_OccupiedAt.f
  refine Ev.bind (spec_l20Code_ev l _ t hn hz (by decide)) ?_
  by_cases h : cdZ l (⟨#[97]⟩ : ByteArray) t = 0
  · obtain ⟨hm, h0, h1⟩ := cdZ_zero h
    obtain ⟨hb, hl⟩ := areMv_ok hm
    obtain ⟨u1, u2, u3, u4⟩ := upto_spec l t l.length 0
    simp only [if_pos h]
    refine Ev.bind (spec_l20Upto_ev l t hn) ?_
    have e : ocR l t = (occ l t (upto l t 0 l.length), 0) := by
      unfold ocR
      rw [if_pos hm, if_pos ⟨h0, h1⟩, occ_stop l t (upto l t 0 l.length) hb (fun j hj hle => by
        rcases Nat.lt_or_ge j (upto l t 0 l.length) with q | q
        · exact q
        · exact absurd (Int.le_trans (mvB_sorted hb j (upto l t 0 l.length) q hj) hle) (u4 (by omega))) l.length (by omega)]
    rw [e]
    obtain ⟨m, em⟩ : ∃ m, m = upto l t 0 l.length := ⟨_, rfl⟩
    have hp : ∀ z, ppl l z m = pplT l z t l.length := fun z => by rw [em]; exact ppl_upto z t hb
    rw [← em] at u2 ⊢
    have key : ∀ d i, i + d = m → Ev (fun k => spec_OccupiedAt.l0 k l (occ l t i) (m : Int) (i : Int)) (occ l t m, 0) := by
      intro d
      induction d with
      | zero =>
        intro i hi
        obtain rfl : i = m := by omega
        refine Ev.dn ?_
        simp only [spec_OccupiedAt.l0, if_neg (show ¬ (i : Int) < (i : Int) by omega)]
        exact Ev.now _
      | succ d ih =>
        intro i hi
        have hs := ih (i + 1) (by omega)
        refine Ev.dn ?_
        simp only [spec_OccupiedAt.l0, if_pos (show (i : Int) < (m : Int) by omega), if_pos (show (0 : Int) ≤ (i : Int) by omega), if_pos (show (i : Int) < (l.length : Int) by omega), wrap_succ (show i < m by omega) (show m ≤ 9223372036854775807 by omega)]
        refine Ev.bind (spec_l20People_ev l (rd_T42 l (i : Int)).f1 m (by omega) hn (fun j hj => mvB_chg hb j (by omega))) ?_
        rw [hp]
        simp only [occ] at hs
        by_cases g : pplT l (rd_T42 l (i : Int)).f1 t l.length > 0
        · simp only [if_pos g] at hs ⊢
          exact Ev.bind (spec_l20Insert_ev _ _ (occ_inc l t i) (by have := occ_len l t i; omega)) hs
        · simp only [if_neg g] at hs ⊢
          exact hs
    exact key m 0 (by omega)
  · simp only [if_neg h]
    have e : ocR l t = ([], cdZ l (⟨#[97]⟩ : ByteArray) t) := by
      unfold ocR
      by_cases h1 : areMv l = true
      · rw [if_pos h1]
        by_cases h2 : 0 ≤ t ∧ t ≤ 10000000
        · exact absurd (by unfold cdZ; rw [if_pos ⟨h1, isWd_a⟩, if_pos h2]) h
        · unfold cdZ
          rw [if_neg h2, if_pos ⟨h1, isWd_a⟩, if_neg h2]
      · unfold cdZ
        rw [if_neg h1, if_neg (fun q => h1 q.1)]
    rw [e]
    exact Ev.now _
theorem impl_OccupiedAt_is (l : List S42) (t : Int) (hn : l.length ≤ 1000000) (hz : szOk l) : Ev (fun k => impl_OccupiedAt.f k l t) (ocR l t) := by
  unfold impl_OccupiedAt.f ocR
  refine Ev.bind (impl_AreMoves_ev l hn hz) ?_
  by_cases hm : areMv l = true
  · obtain ⟨hb, hl⟩ := areMv_ok hm
    simp only [if_pos hm]
    have key : ∀ d i, i + d = l.length → Ev (fun k => impl_OccupiedAt.l0 k l t (occ l t i) l (l.length : Int) (i : Int)) (occ l t l.length, 0) := by
      intro d
      induction d with
      | zero =>
        intro i hi
        obtain rfl : i = l.length := by omega
        refine Ev.dn ?_
        simp only [impl_OccupiedAt.l0, if_neg (show ¬ (l.length : Int) < (l.length : Int) by omega)]
        exact Ev.now _
      | succ d ih =>
        intro i hi
        have hs := ih (i + 1) (by omega)
        refine Ev.dn ?_
        simp only [impl_OccupiedAt.l0, if_pos (show (i : Int) < (l.length : Int) by omega), if_pos (show (0 : Int) ≤ (i : Int) by omega), wrap_succ (show i < l.length by omega) (show l.length ≤ 9223372036854775807 by omega)]
        refine Ev.bind (impl_peopleIn_ev l (rd_T42 l (i : Int)).f1 t hn (mvB_chg hb)) ?_
        simp only [occ] at hs
        by_cases g : pplT l (rd_T42 l (i : Int)).f1 t l.length > 0
        · simp only [if_pos g] at hs ⊢
          exact Ev.bind (impl_putWord_ev _ _ (occ_inc l t i) (by have := occ_len l t i; omega)) hs
        · simp only [if_neg g] at hs ⊢
          exact hs
    simp only [impl_isTime.f, impl_within.f]
    by_cases h0 : 0 ≤ t
    · by_cases h1 : t ≤ 10000000
      · simp only [if_pos h0, h1, decide_true, Option.bind_some, if_true, and_true, h0]
        exact key l.length 0 (by omega)
      · simp only [if_pos h0, h1, decide_false, Option.bind_some, Bool.false_eq_true, if_false, and_false]
        exact Ev.now _
    · simp only [if_neg h0, Option.bind_some, Bool.false_eq_true, if_false, h0, false_and]
      exact Ev.now _
  · simp only [if_neg hm]
    exact Ev.now _
/-- A place in the bytes and a state of the draws. -/
def Gd (L : List Int) (p z : Int) : Prop := 0 ≤ p ∧ p ≤ (L.length : Int) ∧ 0 ≤ z ∧ z < 2147483647
def By (L : List Int) : Prop := L.length ≤ 4096 ∧ ∀ j : Nat, j < L.length → 0 ≤ rd L (j : Int) ∧ rd L (j : Int) ≤ 255
theorem tm_bd {x n : Int} (hx : 0 ≤ x) (hn : 0 < n) : 0 ≤ Int.tmod x n ∧ Int.tmod x n < n := ⟨Int.tmod_nonneg n hx, Int.tmod_lt_of_pos x hn⟩
theorem next_ok {L : List Int} (hL : By L) {p z : Int} (g : Gd L p z) (n : Int) (h1 : 1 ≤ n) (h2 : n ≤ 100000000) : ∃ v p' z' : Int, spec_l01Next.f L p z n = some (v, p', z') ∧ Gd L p' z' ∧ 0 ≤ v ∧ v < n := by
  obtain ⟨g1, g2, g3, g4⟩ := g
  obtain ⟨hl, hb⟩ := hL
  unfold spec_l01Next.f
  by_cases c1 : n ≤ 1
  · rw [if_pos c1]
    exact ⟨0, p, z, rfl, ⟨g1, g2, g3, g4⟩, by omega, by omega⟩
  rw [if_neg c1]
  have hn : ¬ n = 0 := by omega
  have w1 : wrap64 (z * 48271) = z * 48271 := wrap_id (by omega) (by omega)
  have w2 : wrap64 (z * 48271 + 29) = z * 48271 + 29 := wrap_id (by omega) (by omega)
  obtain ⟨z0, z1⟩ := tm_bd (x := z * 48271 + 29) (n := 2147483647) (by omega) (by decide)
  simp only [w1, w2, if_neg hn]
  generalize Int.tmod (z * 48271 + 29) 2147483647 = y at z0 z1
  have q0 : Int.tdiv y 31 = y / 31 := Int.tdiv_eq_ediv_of_nonneg z0
  obtain ⟨q2, q3⟩ : 0 ≤ y / 31 ∧ y / 31 ≤ 2147483647 := by clear w1 w2 c1 hb; omega
  have q1 : wrap64 (y / 31) = y / 31 := wrap_id (by clear w1 w2 c1 hb q0; omega) (by clear w1 w2 c1 hb q0; omega)
  simp only [q0, q1]
  clear q0 q1 w1 w2
  generalize y / 31 = q at q2 q3
  by_cases c2 : p < (L.length : Int)
  · obtain ⟨m, rfl⟩ := Int.eq_ofNat_of_zero_le g1
    obtain ⟨r0, r1⟩ := hb m (by omega)
    have m0 : (m : Int) < 4096 := by clear z0 z1 q2 q3 r0 r1; omega
    obtain ⟨p1, p2⟩ : wrap64 ((m : Int) + 1) = (m : Int) + 1 ∧ wrap64 ((m : Int) + 1 - 1) = (m : Int) := by
      clear z0 z1 q2 q3 r0 r1 c2 g1 g2 hb hn
      refine ⟨wrap_id (by omega) (by omega), ?_⟩
      rw [wrap_id (by omega) (by omega)]
      omega
    obtain ⟨r2, r3⟩ : wrap64 (rd L (m : Int)) = rd L (m : Int) ∧ wrap64 (q + rd L (m : Int)) = q + rd L (m : Int) := by
      clear p1 p2 c2 g1 g2 hb hn
      generalize rd L (m : Int) = r at r0 r1
      exact ⟨wrap_id (by omega) (by omega), wrap_id (by omega) (by omega)⟩
    have k1 : 0 ≤ (m : Int) + 1 ∧ (m : Int) + 1 ≤ (L.length : Int) := by clear p1 p2 r2 r3 z0 z1 q2 q3 r0 r1; omega
    have k2 : 0 ≤ q + rd L (m : Int) := by clear p1 p2 r2 r3 z0 z1; omega
    have k3 : 0 < n := by clear p1 p2 r2 r3 z0 z1 q2 q3 r0 r1; omega
    obtain ⟨a0, a1⟩ := tm_bd (x := rd L (m : Int)) (n := n) r0 k3
    obtain ⟨b0, b1⟩ := tm_bd (x := q + rd L (m : Int)) (n := n) k2 k3
    by_cases c4 : n ≤ 256
    · simp only [if_pos c2, if_pos g1, if_pos c4, p1, p2, r2, r3]
      by_cases c3 : Int.tmod ((m : Int) + 1) 2 = 0
      · rw [if_pos c3]
        exact ⟨_, _, _, rfl, ⟨k1.1, k1.2, z0, z1⟩, a0, a1⟩
      · rw [if_neg c3]
        exact ⟨_, _, _, rfl, ⟨k1.1, k1.2, z0, z1⟩, b0, b1⟩
    · simp only [if_pos c2, if_pos g1, if_neg c4, p1, p2, r2, r3]
      exact ⟨_, _, _, rfl, ⟨k1.1, k1.2, z0, z1⟩, b0, b1⟩
  · rw [if_neg c2]
    obtain ⟨b0, b1⟩ := tm_bd (x := q) (n := n) (by omega) (by omega)
    exact ⟨_, _, _, rfl, ⟨g1, g2, z0, z1⟩, b0, b1⟩
theorem pick_ok {L : List Int} (hL : By L) {p z : Int} (g : Gd L p z) (l : List Int) (h1 : 1 ≤ l.length) (h2 : l.length ≤ 256) : ∃ v p' z' : Int, spec_l01Pick.f L p z l = some (v, p', z') ∧ Gd L p' z' := by
  obtain ⟨v, p', z', e, g', v0, v1⟩ := next_ok hL g (l.length : Int) (by omega) (by omega)
  refine ⟨rd l v, p', z', ?_, g'⟩
  unfold spec_l01Pick.f
  rw [e, Option.bind_some, if_pos v0, if_pos v1]
theorem from_ev {L : List Int} (hL : By L) : ∃ z, Ev (fun k => spec_l01From.f k L) (L, 0, z) ∧ Gd L 0 z := by
  have loop : ∀ (d i : Nat) (z : Int), i + d = 64 → 0 ≤ z → z < 2147483647 → ∃ z', Ev (fun k => spec_l01From.l0 k L (i : Int) L 0 z) (L, 0, z') ∧ Gd L 0 z' := by
    intro d
    induction d with
    | zero =>
      intro i z hi h0 h1
      refine ⟨z, Ev.dn ?_, by omega, by omega, h0, h1⟩
      simp only [spec_l01From.l0, if_neg (show ¬ (i : Int) < 64 by omega), ite_self]
      exact Ev.now _
    | succ d ih =>
      intro i z hi h0 h1
      by_cases c : (i : Int) < (L.length : Int)
      · obtain ⟨r0, r1⟩ := hL.2 i (by omega)
        have w1 : wrap64 (z * 83) = z * 83 := wrap_id (by clear ih; omega) (by clear ih; omega)
        have w2 : wrap64 (rd L (i : Int)) = rd L (i : Int) := wrap_id (by clear ih; omega) (by clear ih; omega)
        have w3 : wrap64 (z * 83 + rd L (i : Int)) = z * 83 + rd L (i : Int) := wrap_id (by clear ih; omega) (by clear ih; omega)
        obtain ⟨z0, z1⟩ := tm_bd (x := z * 83 + rd L (i : Int)) (n := 2147483647) (by clear ih; omega) (by decide)
        obtain ⟨z', h2, h3⟩ := ih (i + 1) _ (by clear ih; omega) z0 z1
        refine ⟨z', Ev.dn ?_, h3⟩
        have hw := wrap_succ (i := i) (n := 64) (by clear ih; omega) (by omega)
        simp only [spec_l01From.l0, if_pos c, if_pos (show (i : Int) < 64 by clear ih; omega), if_pos (show (0 : Int) ≤ (i : Int) by clear ih; omega), w1, w2, w3, hw]
        exact h2
      · refine ⟨z, Ev.dn ?_, by omega, by omega, h0, h1⟩
        simp only [spec_l01From.l0, if_neg c]
        exact Ev.now _
  unfold spec_l01From.f
  exact loop 64 0 61043 (by omega) (by omega) (by omega)
/-- Moves whose zones are short. -/
def mvOk (l : List S42) : Prop := ∀ y ∈ l, y.f1.size ≤ 100
theorem mvOk_sz {l : List S42} (h : mvOk l) : szOk l := fun j hj => by
  rw [rd_T42_nat hj]
  exact Nat.le_trans (h _ (List.getElem_mem hj)) (by decide)
theorem mvOk_snoc {l : List S42} {m : S42} (h : mvOk l) (hm : m.f1.size ≤ 100) : mvOk (l ++ [m]) := by
  intro y hy
  rcases List.mem_append.1 hy with h1 | h1
  · exact h y h1
  · rw [List.mem_singleton.1 h1]; exact hm
theorem mvOk_nil : mvOk ([] : List S42) := fun y hy => by simp at hy
theorem areMv_len {l : List S42} (h : areMv l = true) : l.length ≤ 40 := by
  unfold areMv at h
  simp only [Bool.and_eq_true, decide_eq_true_eq] at h
  exact h.2
theorem areMv_chg {l : List S42} (h : areMv l = true) : chg l l.length := by
  unfold areMv at h
  simp only [Bool.and_eq_true, decide_eq_true_eq] at h
  exact mvB_chg (fun j hj => (allD_iff _ _ _).1 h.1 j (Nat.zero_le _) (by omega))
theorem rdOf_sz (l : List ByteArray) (hz : ∀ y ∈ l, y.size ≤ 100) (m : Nat) (hm : m < l.length) : (rdOf ByteArray.empty l (m : Int)).size ≤ 100 := by
  rw [rdOf_nat hm]
  exact hz _ (List.getElem_mem hm)
theorem zone_ok {L : List Int} (hL : By L) {p z : Int} (g : Gd L p z) : ∃ (v : ByteArray) (p' z' : Int), spec_l20Zone.f L p z = some (v, p', z') ∧ Gd L p' z' ∧ v.size ≤ 100 := by
  obtain ⟨v, p', z', e, g', v0, v1⟩ := next_ok hL g 3 (by omega) (by omega)
  obtain ⟨m, rfl⟩ := Int.eq_ofNat_of_zero_le v0
  unfold spec_l20Zone.f
  simp only [Option.bind_some, e, if_pos v0]
  rw [if_pos (by simp only [List.length_cons, List.length_nil]; omega)]
  exact ⟨_, p', z', rfl, g', rdOf_sz _ (by decide) m (by simp only [List.length_cons, List.length_nil]; omega)⟩
theorem good01_ok {L : List Int} (hL : By L) {p z : Int} (g : Gd L p z) : ∃ (v : ByteArray) (p' z' : Int), spec_l01Good.f L p z = some (v, p', z') ∧ Gd L p' z' ∧ v.size ≤ 100 := by
  obtain ⟨v, p', z', e, g', v0, v1⟩ := next_ok hL g 12 (by omega) (by omega)
  obtain ⟨m, rfl⟩ := Int.eq_ofNat_of_zero_le v0
  unfold spec_l01Good.f
  simp only [Option.bind_some, e, if_pos v0]
  rw [if_pos (by simp only [List.length_cons, List.length_nil]; omega)]
  exact ⟨_, p', z', rfl, g', rdOf_sz _ (by decide) m (by simp only [List.length_cons, List.length_nil]; omega)⟩
theorem word_ok {L : List Int} (hL : By L) {p z : Int} (g : Gd L p z) : ∃ (v : ByteArray) (p' z' : Int), spec_l01DrawWord.f L p z = some (v, p', z') ∧ Gd L p' z' ∧ v.size ≤ 100 := by
  obtain ⟨v, p1, z1, e, g1, v0, v1⟩ := next_ok hL g 24 (by omega) (by omega)
  unfold spec_l01DrawWord.f
  by_cases c : v = 0
  · obtain ⟨u, p', z', e2, g', u0, u1⟩ := next_ok hL g1 6 (by omega) (by omega)
    obtain ⟨m, rfl⟩ := Int.eq_ofNat_of_zero_le u0
    simp only [Option.bind_some, e, if_pos c, e2, if_pos u0]
    rw [if_pos (by simp only [List.length_cons, List.length_nil]; omega)]
    exact ⟨_, p', z', rfl, g', rdOf_sz _ (by decide) m (by simp only [List.length_cons, List.length_nil]; omega)⟩
  · obtain ⟨u, p', z', e2, g', hu⟩ := good01_ok hL g1
    simp only [Option.bind_some, e, if_neg c, e2]
    exact ⟨u, p', z', rfl, g', hu⟩
theorem addmv_ok (l : List S42) (a : Int) (z : ByteArray) (c : Int) (hl : l.length ≤ 100) (hm : mvOk l) (hz : z.size ≤ 100) : ∃ (o : List S42) (d : Int), Ev (fun k => spec_AddMove.f k l a z c) (o, d) ∧ (d = 0 → areMv o = true ∧ mvOk o) := by
  unfold spec_AddMove.f
  have hs : mvOk (l ++ [(⟨a, z, c⟩ : S42)]) := mvOk_snoc hm hz
  have e1 := spec_AreMoves_ev l (by omega) (mvOk_sz hm)
  have e2 := spec_AreMoves_ev (l ++ [(⟨a, z, c⟩ : S42)]) (by rw [List.length_append, List.length_singleton]; omega) (mvOk_sz hs)
  cases h1 : areMv l with
  | false =>
    rw [h1] at e1
    refine ⟨[], 1, Ev.bind e1 ?_, fun h => absurd h (by decide)⟩
    simp only [Bool.false_eq_true, if_false]
    exact Ev.now _
  | true =>
    rw [h1] at e1
    by_cases c40 : (l.length : Int) = 40
    · refine ⟨[], 3, Ev.bind e1 ?_, fun h => absurd h (by decide)⟩
      simp only [if_true, if_pos c40]
      exact Ev.now _
    · cases h2 : areMv (l ++ [(⟨a, z, c⟩ : S42)]) with
      | false =>
        rw [h2] at e2
        refine ⟨[], 5, Ev.bind e1 ?_, fun h => absurd h (by decide)⟩
        simp only [if_true, if_neg c40, Option.bind_some, List.nil_append, List.length_nil, List.length_singleton, Nat.zero_add, if_pos (show l.length < 4398046511104 by omega), if_pos (show l.length + 1 < 4398046511104 by omega)]
        refine Ev.bind e2 ?_
        simp only [Bool.false_eq_true, if_false]
        exact Ev.now _
      | true =>
        rw [h2] at e2
        refine ⟨l ++ [(⟨a, z, c⟩ : S42)], 0, Ev.bind e1 ?_, fun _ => ⟨h2, hs⟩⟩
        simp only [if_true, if_neg c40, Option.bind_some, List.nil_append, List.length_nil, List.length_singleton, Nat.zero_add, if_pos (show l.length < 4398046511104 by omega), if_pos (show l.length + 1 < 4398046511104 by omega)]
        refine Ev.bind e2 ?_
        simp only [if_true]
        exact Ev.now _
theorem good20_loop {L : List Int} (hL : By L) : ∀ (c : Nat) (x : List S42) (t p z : Int), c ≤ 100 → Gd L p z → areMv x = true → mvOk x → ∃ (xs : List S42) (p' z' : Int), Ev (fun k => spec_l20Good.l0 k x t (c : Int) L p z) (xs, p', z') ∧ Gd L p' z' ∧ areMv xs = true ∧ mvOk xs := by
  intro c
  induction c with
  | zero =>
    intro x t p z hc g ha hm
    refine ⟨x, p, z, Ev.dn ?_, g, ha, hm⟩
    simp only [spec_l20Good.l0, if_neg (show ¬ ((0 : Nat) : Int) > 0 by omega)]
    exact Ev.now _
  | succ c ih =>
    intro x t p z hc g ha hm
    have h40 := areMv_len ha
    have hch := areMv_chg ha
    obtain ⟨zn, p1, z1, e1, g1, hz⟩ := zone_ok hL g
    obtain ⟨v2, p2, z2, e2, g2, _, _⟩ := next_ok hL g1 4 (by omega) (by omega)
    have hp := spec_l20People_ev x zn x.length (Nat.le_refl _) (by omega) hch
    have w : wrap64 (((c + 1 : Nat) : Int) - 1) = (c : Int) := by rw [wrap_id (by clear ih; omega) (by clear ih; omega)]; clear ih; omega
    have J2 : ∀ (p z ch : Int), Gd L p z → ∃ (xs : List S42) (p' z' : Int), Ev (fun k => spec_l20Good.j2 k x t ((c + 1 : Nat) : Int) L p z t zn ch) (xs, p', z') ∧ Gd L p' z' ∧ areMv xs = true ∧ mvOk xs := by
      intro p z ch g
      obtain ⟨o, d, ea, ho⟩ := addmv_ok x t zn ch (by omega) hm hz
      obtain ⟨v3, p3, z3, e3, g3, _, _⟩ := next_ok hL g 20000 (by omega) (by omega)
      obtain ⟨v4, p4, z4, e4, g4, _, _⟩ := next_ok hL g3 60000 (by omega) (by omega)
      obtain ⟨v5, p5, z5, e5, g5⟩ := pick_ok hL g4 [0, v3, v4] (by simp) (by simp)
      by_cases cd : d = 0
      · obtain ⟨ha2, hm2⟩ := ho cd
        obtain ⟨xs, p', z', h1, h2, h3, h4⟩ := ih o (wrap64 (t + v5)) p5 z5 (by omega) g5 ha2 hm2
        refine ⟨xs, p', z', Ev.dn ?_, h2, h3, h4⟩
        simp only [spec_l20Good.j2]
        refine Ev.bind ea ?_
        simp only [if_pos cd, e3, e4, e5, Option.bind_some, w]
        exact h1
      · obtain ⟨xs, p', z', h1, h2, h3, h4⟩ := ih x (wrap64 (t + v5)) p5 z5 (by omega) g5 ha hm
        refine ⟨xs, p', z', Ev.dn ?_, h2, h3, h4⟩
        simp only [spec_l20Good.j2]
        refine Ev.bind ea ?_
        simp only [if_neg cd, e3, e4, e5, Option.bind_some, w]
        exact h1
    have J1 : ∀ (b : Bool) (p z q ch : Int), Gd L p z → ∃ (xs : List S42) (p' z' : Int), Ev (fun k => spec_l20Good.j1 k x t ((c + 1 : Nat) : Int) q b L p z t zn ch) (xs, p', z') ∧ Gd L p' z' ∧ areMv xs = true ∧ mvOk xs := by
      intro b p z q ch g
      cases b with
      | true =>
        obtain ⟨v, p1, z1, e, g1⟩ := pick_ok hL g [q, 1, q] (by simp) (by simp)
        obtain ⟨xs, p', z', h1, r⟩ := J2 p1 z1 (wrap64 (-v)) g1
        refine ⟨xs, p', z', Ev.dn ?_, r⟩
        simp only [spec_l20Good.j1, if_true, e, Option.bind_some]
        exact h1
      | false =>
        obtain ⟨xs, p', z', h1, r⟩ := J2 p z ch g
        refine ⟨xs, p', z', Ev.dn ?_, r⟩
        simp only [spec_l20Good.j1, Bool.false_eq_true, if_false]
        exact h1
    by_cases cp : ppl x zn x.length > 0
    · obtain ⟨v3, p3, z3, e3, g3, _, _⟩ := next_ok hL g2 3 (by omega) (by omega)
      obtain ⟨xs, p', z', h1, r⟩ := J1 (decide (v3 > 0)) p3 z3 (ppl x zn x.length) (wrap64 (1 + v2)) g3
      refine ⟨xs, p', z', Ev.dn ?_, r⟩
      simp only [spec_l20Good.l0, if_pos (show ((c + 1 : Nat) : Int) > 0 by clear ih; omega), e1, e2, Option.bind_some]
      refine Ev.bind hp ?_
      simp only [if_pos cp, e3, Option.bind_some]
      exact h1
    · obtain ⟨xs, p', z', h1, r⟩ := J1 false p2 z2 (ppl x zn x.length) (wrap64 (1 + v2)) g2
      refine ⟨xs, p', z', Ev.dn ?_, r⟩
      simp only [spec_l20Good.l0, if_pos (show ((c + 1 : Nat) : Int) > 0 by clear ih; omega), e1, e2, Option.bind_some]
      refine Ev.bind hp ?_
      simp only [if_neg cp]
      exact h1
theorem good20_ok {L : List Int} (hL : By L) {p z : Int} (g : Gd L p z) : ∃ (xs : List S42) (p' z' : Int), Ev (fun k => spec_l20Good.f k L p z) (xs, p', z') ∧ Gd L p' z' ∧ areMv xs = true ∧ mvOk xs := by
  obtain ⟨v, p1, z1, e1, g1, _, _⟩ := next_ok hL g 5000 (by omega) (by omega)
  obtain ⟨q, p2, z2, e2, g2, q0, q1⟩ := next_ok hL g1 9 (by omega) (by omega)
  obtain ⟨m, rfl⟩ := Int.eq_ofNat_of_zero_le q0
  obtain ⟨xs, p', z', h1, r⟩ := good20_loop hL m [] v p2 z2 (by omega) g2 (by decide) mvOk_nil
  refine ⟨xs, p', z', ?_, r⟩
  unfold spec_l20Good.f
  simp only [e1, e2, Option.bind_some]
  exact h1
theorem draw20_loop {L : List Int} (hL : By L) : ∀ (d : Nat) (x : List S42) (p z : Int), Gd L p z → 41 ≤ x.length + d → x.length ≤ 90 → mvOk x → ∃ (xs : List S42) (p' z' : Int), Ev (fun k => spec_l20Draw.l0 k x L p z) (xs, p', z') ∧ Gd L p' z' ∧ xs.length ≤ 100 ∧ mvOk xs := by
  intro d
  induction d with
  | zero =>
    intro x p z g hd hx hm
    obtain ⟨v, p1, z1, e1, g1, v0, v1⟩ := next_ok hL g 2 (by omega) (by omega)
    have w : wrap64 (40 + v) = 40 + v := wrap_id (by omega) (by omega)
    refine ⟨x, p1, z1, Ev.dn ?_, g1, by omega, hm⟩
    simp only [spec_l20Draw.l0, e1, Option.bind_some, w, if_neg (show ¬ (x.length : Int) < 40 + v by omega)]
    exact Ev.now _
  | succ d ih =>
    intro x p z g hd hx hm
    obtain ⟨v, p1, z1, e1, g1, v0, v1⟩ := next_ok hL g 2 (by omega) (by omega)
    have w : wrap64 (40 + v) = 40 + v := wrap_id (by omega) (by omega)
    by_cases c : (x.length : Int) < 40 + v
    · obtain ⟨xs, p', z', h1, h2⟩ := ih (x ++ [(⟨900000, (⟨#[102, 105, 101, 108, 100]⟩ : ByteArray), 1⟩ : S42)]) p1 z1 g1 (by rw [List.length_append, List.length_singleton]; omega) (by rw [List.length_append, List.length_singleton]; omega) (mvOk_snoc hm (by decide))
      refine ⟨xs, p', z', Ev.dn ?_, h2⟩
      simp only [spec_l20Draw.l0, e1, Option.bind_some, w, if_pos c, if_pos (show x.length < 4398046511104 by clear ih; omega)]
      exact h1
    · refine ⟨x, p1, z1, Ev.dn ?_, g1, by omega, hm⟩
      simp only [spec_l20Draw.l0, e1, Option.bind_some, w, if_neg c]
      exact Ev.now _
theorem draw20_ok {L : List Int} (hL : By L) {p z : Int} (g : Gd L p z) : ∃ (xs : List S42) (p' z' : Int), Ev (fun k => spec_l20Draw.f k L p z) (xs, p', z') ∧ Gd L p' z' ∧ xs.length ≤ 100 ∧ mvOk xs := by
  obtain ⟨x, p1, z1, h1, g1, ha, hm⟩ := good20_ok hL g
  have h40 := areMv_len ha
  obtain ⟨v, p2, z2, e2, g2, v0, v1⟩ := next_ok hL g1 30 (by omega) (by omega)
  unfold spec_l20Draw.f
  by_cases c0 : v = 0
  · obtain ⟨u, p3, z3, e3, g3⟩ := pick_ok hL g2 [0, 10000000, 10000001] (by decide) (by decide)
    obtain ⟨zn, p4, z4, e4, g4, hz⟩ := zone_ok hL g3
    obtain ⟨q, p5, z5, e5, g5⟩ := pick_ok hL g4 [(-1), 0, 1000, 1001] (by decide) (by decide)
    refine ⟨x ++ [(⟨u, zn, q⟩ : S42)], p5, z5, Ev.bind h1 ?_, g5, ?_, mvOk_snoc hm hz⟩
    · simp only [e2, Option.bind_some, if_pos c0, e3, e4, e5, if_pos (show x.length < 4398046511104 by omega)]
      exact Ev.now _
    · rw [List.length_append, List.length_singleton]; omega
  by_cases c1 : v = 1
  · obtain ⟨xs, p3, z3, h3, g3, r⟩ := draw20_loop hL 41 x p2 z2 g2 (by omega) (by omega) hm
    refine ⟨xs, p3, z3, Ev.bind h1 ?_, g3, r⟩
    simp only [e2, Option.bind_some, if_neg c0, if_pos c1]
    exact h3
  · refine ⟨x, p2, z2, Ev.bind h1 ?_, g2, by omega, hm⟩
    simp only [e2, Option.bind_some, if_neg c0, if_neg c1]
    exact Ev.now _
theorem time_ok {L : List Int} (hL : By L) {p z : Int} (g : Gd L p z) : ∃ v p' z' : Int, spec_l01DrawTime.f L p z = some (v, p', z') ∧ Gd L p' z' := by
  obtain ⟨v, p1, z1, e1, g1, _, _⟩ := next_ok hL g 16 (by omega) (by omega)
  unfold spec_l01DrawTime.f
  by_cases c : v = 0
  · obtain ⟨u, p2, z2, e2, g2⟩ := pick_ok hL g1 [0, 10000000, 10000001, (-1)] (by decide) (by decide)
    refine ⟨u, p2, z2, ?_, g2⟩
    simp only [e1, Option.bind_some, if_pos c, e2]
  · obtain ⟨u2, p2, z2, e2, g2, _, _⟩ := next_ok hL g1 1000000 (by omega) (by omega)
    obtain ⟨u3, p3, z3, e3, g3, _, _⟩ := next_ok hL g2 60000 (by omega) (by omega)
    obtain ⟨u4, p4, z4, e4, g4, _, _⟩ := next_ok hL g3 10000001 (by omega) (by omega)
    obtain ⟨u, p5, z5, e5, g5⟩ := pick_ok hL g4 [u2, u3, u4] (by simp) (by simp)
    refine ⟨u, p5, z5, ?_, g5⟩
    simp only [e1, Option.bind_some, if_neg c, e2, e3, e4, e5]
theorem dPpl {L : List Int} (hL : By L) : ∃ (l : List S42) (zn : ByteArray) (t : Int), Ev (fun k => spec_DrawPeopleIn.f k L) (l, zn, t) ∧ l.length ≤ 100 ∧ mvOk l ∧ zn.size ≤ 100 := by
  obtain ⟨z, h0, g0⟩ := from_ev hL
  obtain ⟨l, p1, z1, h1, g1, hn, hm⟩ := draw20_ok hL g0
  obtain ⟨zn, p2, z2, e2, g2, hz⟩ := zone_ok hL g1
  obtain ⟨v, p3, z3, e3, g3, _, _⟩ := next_ok hL g2 24 (by omega) (by omega)
  have J1 : ∀ (b : Bool) (zn : ByteArray) (p z : Int), Gd L p z → (b = true → 0 < l.length) → ∃ t : Int, Ev (fun k => spec_DrawPeopleIn.j1 k l zn b L p z) (l, zn, t) := by
    intro b zn p z g hb
    cases b with
    | true =>
      have hb := hb rfl
      obtain ⟨v, p1, z1, e1, g1, v0, v1⟩ := next_ok hL g (l.length : Int) (by omega) (by omega)
      obtain ⟨u, p2, z2, e2, g2⟩ := pick_ok hL g1 [0, (-1), 30000, 29999, 1] (by decide) (by decide)
      refine ⟨wrap64 ((rd_T42 l v).f0 + u), Ev.dn ?_⟩
      simp only [spec_DrawPeopleIn.j1, if_true, e1, Option.bind_some, if_pos v0, if_pos v1, e2]
      exact Ev.now _
    | false =>
      obtain ⟨u2, p2, z2, e2, g2, _, _⟩ := next_ok hL g 300000 (by omega) (by omega)
      obtain ⟨u3, p3, z3, e3, g3, _, _⟩ := next_ok hL g2 300000 (by omega) (by omega)
      obtain ⟨u4, p4, z4, e4, g4⟩ := time_ok hL g3
      obtain ⟨u, p5, z5, e5, g5⟩ := pick_ok hL g4 [u2, u3, u4] (by simp) (by simp)
      refine ⟨u, Ev.dn ?_⟩
      simp only [spec_DrawPeopleIn.j1, Bool.false_eq_true, if_false, e2, e3, e4, e5, Option.bind_some]
      exact Ev.now _
  have J0 : ∀ (zn : ByteArray) (p z : Int), Gd L p z → ∃ t : Int, Ev (fun k => spec_DrawPeopleIn.j0 k l zn L p z) (l, zn, t) := by
    intro zn p z g
    by_cases c : (l.length : Int) > 0
    · obtain ⟨v, p1, z1, e1, g1, _, _⟩ := next_ok hL g 2 (by omega) (by omega)
      obtain ⟨t, h⟩ := J1 (v == 0) zn p1 z1 g1 (fun _ => by omega)
      refine ⟨t, Ev.dn ?_⟩
      simp only [spec_DrawPeopleIn.j0, if_pos c, e1, Option.bind_some]
      exact h
    · obtain ⟨t, h⟩ := J1 false zn p z g (fun h => absurd h (by decide))
      refine ⟨t, Ev.dn ?_⟩
      simp only [spec_DrawPeopleIn.j0, if_neg c]
      exact h
  unfold spec_DrawPeopleIn.f
  by_cases c : v = 0
  · obtain ⟨wd, p4, z4, e4, g4, hw⟩ := word_ok hL g3
    obtain ⟨t, h⟩ := J0 wd p4 z4 g4
    refine ⟨l, wd, t, Ev.bind h0 (Ev.bind h1 ?_), hn, hm, hw⟩
    simp only [e2, e3, Option.bind_some, if_pos c, e4]
    exact h
  · obtain ⟨t, h⟩ := J0 zn p3 z3 g3
    refine ⟨l, zn, t, Ev.bind h0 (Ev.bind h1 ?_), hn, hm, hz⟩
    simp only [e2, e3, Option.bind_some, if_neg c]
    exact h
theorem dAdd {L : List Int} (hL : By L) : ∃ (l : List S42) (a : Int) (zn : ByteArray) (b : Int), Ev (fun k => spec_DrawAddMove.f k L) (l, a, zn, b) ∧ l.length ≤ 100 ∧ mvOk l ∧ zn.size ≤ 100 := by
  obtain ⟨z, h0, g0⟩ := from_ev hL
  obtain ⟨l, p1, z1, h1, g1, hn, hm⟩ := draw20_ok hL g0
  obtain ⟨v, p2, z2, e2, g2, _, _⟩ := next_ok hL g1 200000 (by omega) (by omega)
  obtain ⟨a, p3, z3, e3, g3⟩ := pick_ok hL g2 [600000, v, 10000001] (by simp) (by simp)
  obtain ⟨zn, p4, z4, e4, g4, hz⟩ := zone_ok hL g3
  obtain ⟨b, p5, z5, e5, g5⟩ := pick_ok hL g4 [1, 2, (-1), (-2), 0] (by decide) (by decide)
  refine ⟨l, a, zn, b, ?_, hn, hm, hz⟩
  unfold spec_DrawAddMove.f
  refine Ev.bind h0 (Ev.bind h1 ?_)
  simp only [e2, e3, e4, e5, Option.bind_some]
  exact Ev.now _
/-- PeopleIn's answer. -/
def ppR (l : List S42) (z : ByteArray) (t : Int) : Int × Int := if cdZ l z t = 0 then (pplT l z t l.length, 0) else (0, cdZ l z t)
theorem PeopleIn_is2 (l : List S42) (z : ByteArray) (t : Int) (hn : l.length ≤ 1000000) (hz : szOk l) (hs : z.size ≤ 9223372036854775807) : Ev (fun k => spec_PeopleIn.f k l z t) (ppR l z t) ∧ Ev (fun k => impl_PeopleIn.f k l z t) (ppR l z t) := by
  unfold spec_PeopleIn.f impl_PeopleIn.f ppR
  by_cases h : cdZ l z t = 0
  · obtain ⟨hm, h0, h1⟩ := cdZ_zero h
    obtain ⟨hb, hl⟩ := areMv_ok hm
    rw [if_pos h]
    refine ⟨?_, ?_⟩
    · refine Ev.bind (spec_l20Code_ev l z t hn hz hs) ?_
      simp only [if_pos h]
      refine Ev.bind (spec_l20Upto_ev l t hn) ?_
      obtain ⟨u1, u2, u3, u4⟩ := upto_spec l t l.length 0
      refine Ev.bind (spec_l20People_ev l z (upto l t 0 l.length) (by omega) hn (fun j hj => mvB_chg hb j (by omega))) ?_
      simp only [ppl_upto z t hb]
      exact Ev.now _
    · refine Ev.bind (impl_zoneAsked_ev l z t hn hz hs) ?_
      simp only [if_pos h]
      exact Ev.bind (impl_peopleIn_ev l z t hn (mvB_chg hb)) (Ev.now _)
  · rw [if_neg h]
    refine ⟨?_, ?_⟩
    · refine Ev.bind (spec_l20Code_ev l z t hn hz hs) ?_
      simp only [if_neg h]
      exact Ev.now _
    · refine Ev.bind (impl_zoneAsked_ev l z t hn hz hs) ?_
      simp only [if_neg h]
      exact Ev.now _
/-- The fullest time of the first n moves, and how many there are then. -/
def ful (l : List S42) (z : ByteArray) : Nat → Int × Int
  | 0 => (0, 0)
  | n + 1 => if pplT l z (rd_T42 l (n : Int)).f0 l.length > (ful l z n).2 then ((rd_T42 l (n : Int)).f0, pplT l z (rd_T42 l (n : Int)).f0 l.length) else ful l z n
theorem ful_ge (l : List S42) (z : ByteArray) : ∀ n, 0 ≤ (ful l z n).2 ∧ ∀ j, j < n → pplT l z (rd_T42 l (j : Int)).f0 l.length ≤ (ful l z n).2
  | 0 => ⟨Int.le_refl _, fun j h => absurd h (by omega)⟩
  | n + 1 => by
    obtain ⟨h1, h2⟩ := ful_ge l z n
    simp only [ful]
    by_cases c : pplT l z (rd_T42 l (n : Int)).f0 l.length > (ful l z n).2
    · rw [if_pos c]
      refine ⟨by dsimp only; omega, fun j hj => ?_⟩
      by_cases e : j = n
      · rw [e]; exact Int.le_refl _
      · exact Int.le_trans (h2 j (by omega)) (Int.le_of_lt c)
    · rw [if_neg c]
      refine ⟨h1, fun j hj => ?_⟩
      by_cases e : j = n
      · rw [e]; exact Int.not_lt.1 c
      · exact h2 j (by omega)
theorem ful_at (l : List S42) (z : ByteArray) : ∀ n, (ful l z n).2 > 0 → ∃ j, j < n ∧ (ful l z n).1 = (rd_T42 l (j : Int)).f0 ∧ (ful l z n).2 = pplT l z (rd_T42 l (j : Int)).f0 l.length
  | 0, h => absurd h (by simp [ful])
  | n + 1, h => by
    simp only [ful] at h ⊢
    by_cases c : pplT l z (rd_T42 l (n : Int)).f0 l.length > (ful l z n).2
    · rw [if_pos c]
      exact ⟨n, by omega, rfl, rfl⟩
    · rw [if_neg c] at h ⊢
      obtain ⟨j, h1, h2⟩ := ful_at l z n h
      exact ⟨j, by omega, h2⟩
/-- FullestTime's answer. -/
def flR (l : List S42) (z : ByteArray) : Int × Int × Int := if areMv l = true ∧ isWd z = true then ((ful l z l.length).1, (ful l z l.length).2, 0) else (0, 0, 1)
theorem FullestTime_is (l : List S42) (z : ByteArray) (hn : l.length ≤ 1000000) (hz : szOk l) (hs : z.size ≤ 9223372036854775807) : Ev (fun k => spec_FullestTime.f k l z) (flR l z) ∧ Ev (fun k => impl_FullestTime.f k l z) (flR l z) := by
  unfold spec_FullestTime.f impl_FullestTime.f
  have hbad : Ev (fun k => impl_FullestTime.j0 k l z true) (0, 0, 1) := Ev.dn (by simp only [impl_FullestTime.j0]; exact Ev.now _)
  have hcode := spec_l20Code_ev l z 0 hn hz hs
  have hmv := impl_AreMoves_ev l hn hz
  cases h1 : areMv l with
  | false =>
    have hc : cdZ l z 0 = 1 := by simp [cdZ, h1]
    have he : flR l z = (0, 0, 1) := by simp [flR, h1]
    rw [hc] at hcode
    rw [h1] at hmv
    rw [he]
    refine ⟨?_, ?_⟩
    · refine Ev.bind hcode ?_
      simp only [show ¬ ((1 : Int) = 0) by decide, if_false]
      exact Ev.now _
    · refine Ev.bind hmv ?_
      simp only [Bool.false_eq_true, if_false]
      exact hbad
  | true =>
  rw [h1] at hmv
  cases h2 : isWd z with
  | false =>
    have hc : cdZ l z 0 = 1 := by simp [cdZ, h2]
    have he : flR l z = (0, 0, 1) := by simp [flR, h2]
    rw [hc] at hcode
    rw [he]
    refine ⟨?_, ?_⟩
    · refine Ev.bind hcode ?_
      simp only [show ¬ ((1 : Int) = 0) by decide, if_false]
      exact Ev.now _
    · refine Ev.bind hmv ?_
      simp only [if_true]
      refine Ev.bind (impl_IsWord_ev z hs) ?_
      simp only [h2, Bool.not_false]
      exact hbad
  | true =>
  have hc : cdZ l z 0 = 0 := by simp [cdZ, h1, h2]
  have he : flR l z = ((ful l z l.length).1, (ful l z l.length).2, 0) := by simp [flR, h1, h2]
  rw [hc] at hcode
  rw [he]
  obtain ⟨hb, hl⟩ := areMv_ok h1
  have key : ∀ d i, i + d = l.length → Ev (fun k => spec_FullestTime.l0 k l z (ful l z i).1 (ful l z i).2 (i : Int)) ((ful l z l.length).1, (ful l z l.length).2, 0) ∧ Ev (fun k => impl_FullestTime.l0 k l z (ful l z i).1 (ful l z i).2 l (l.length : Int) (i : Int)) ((ful l z l.length).1, (ful l z l.length).2, 0) := by
    intro d
    induction d with
    | zero =>
      intro i hi
      obtain rfl : i = l.length := by omega
      refine ⟨Ev.dn ?_, Ev.dn ?_⟩
      · simp only [spec_FullestTime.l0, if_neg (show ¬ (l.length : Int) < (l.length : Int) by omega)]
        exact Ev.now _
      · simp only [impl_FullestTime.l0, if_neg (show ¬ (l.length : Int) < (l.length : Int) by omega)]
        exact Ev.now _
    | succ d ih =>
      intro i hi
      obtain ⟨hr1, hr2⟩ := ih (i + 1) (by omega)
      simp only [ful] at hr1 hr2
      have hp := ppl_upto z (rd_T42 l (i : Int)).f0 hb
      obtain ⟨t, ht⟩ : ∃ t, t = (rd_T42 l (i : Int)).f0 := ⟨_, rfl⟩
      rw [← ht] at hr1 hr2 hp
      obtain ⟨q, hq⟩ : ∃ q, q = pplT l z t l.length := ⟨_, rfl⟩
      rw [← hq] at hr1 hr2 hp
      obtain ⟨u1, u2, u3, u4⟩ := upto_spec l t l.length 0
      refine ⟨Ev.dn ?_, Ev.dn ?_⟩
      · simp only [spec_FullestTime.l0, if_pos (show (i : Int) < (l.length : Int) by omega), if_pos (show (0 : Int) ≤ (i : Int) by omega), wrap_succ (show i < l.length by omega) (show l.length ≤ 9223372036854775807 by omega), ← ht]
        refine Ev.bind (spec_l20Upto_ev l t hn) ?_
        refine Ev.bind (spec_l20People_ev l z (upto l t 0 l.length) (by omega) hn (fun j hj => mvB_chg hb j (by omega))) ?_
        rw [hp]
        by_cases g : q > (ful l z i).2
        · simp only [if_pos g] at hr1 ⊢; exact hr1
        · simp only [if_neg g] at hr1 ⊢; exact hr1
      · simp only [impl_FullestTime.l0, if_pos (show (i : Int) < (l.length : Int) by omega), if_pos (show (0 : Int) ≤ (i : Int) by omega), wrap_succ (show i < l.length by omega) (show l.length ≤ 9223372036854775807 by omega), ← ht]
        refine Ev.bind (impl_peopleIn_ev l z t hn (mvB_chg hb)) ?_
        rw [← hq]
        by_cases g : q > (ful l z i).2
        · simp only [if_pos g] at hr2 ⊢; exact hr2
        · simp only [if_neg g] at hr2 ⊢; exact hr2
  obtain ⟨hr1, hr2⟩ := key l.length 0 (by omega)
  refine ⟨?_, ?_⟩
  · refine Ev.bind hcode ?_
    simp only [if_true]
    exact hr1
  · refine Ev.bind hmv ?_
    simp only [if_true]
    refine Ev.bind (impl_IsWord_ev z hs) ?_
    simp only [h2, Bool.not_true]
    refine Ev.dn ?_
    simp only [impl_FullestTime.j0, Bool.false_eq_true, if_false]
    exact hr2
theorem ppl_same (l : List S42) (z z' : ByteArray) (h : z.toList = z'.toList) : ∀ n, ppl l z n = ppl l z' n
  | 0 => rfl
  | n + 1 => by simp only [ppl]; rw [ppl_same l z z' h n, h]
theorem ppl_nonneg {l : List S42} (hb : ∀ j, j < l.length → mvB l j = true) (z : ByteArray) : ∀ n, n ≤ l.length → 0 ≤ ppl l z n
  | 0, _ => Int.le_refl _
  | n + 1, h => by
    have ih := ppl_nonneg hb z n (by omega)
    by_cases c : (rd_T42 l (n : Int)).f1.toList = z.toList
    · have := hb n (by omega)
      unfold mvB at this
      simp only [Bool.and_eq_true, Bool.not_eq_true', decide_eq_false_iff_not] at this
      have h2 := this.2
      rw [ppl_same l _ z c] at h2
      omega
    · simp only [ppl, if_neg c]
      exact ih
theorem people_in {l : List S42} (hb : ∀ j, j < l.length → mvB l j = true) (z : ByteArray) (t : Int) : 0 ≤ pplT l z t l.length ∧ pplT l z t l.length ≤ (ful l z l.length).2 := by
  obtain ⟨u1, u2, u3, u4⟩ := upto_spec l t l.length 0
  have hp := ppl_upto z t hb
  obtain ⟨f1, f2⟩ := ful_ge l z l.length
  generalize upto l t 0 l.length = m at u2 u3 u4 hp
  rw [← hp]
  refine ⟨ppl_nonneg hb z m (by omega), ?_⟩
  by_cases e : m = 0
  · rw [e]; exact f1
  · have h := f2 (m - 1) (by omega)
    have ht := u3 (m - 1) (by omega) (by omega)
    rw [pplT_stop l z _ m l.length (by omega) (fun j h1 h2 hle => u4 (by omega) (Int.le_trans (Int.le_trans (mvB_sorted hb j m h1 h2) hle) ht)), pplT_ppl l z _ m (fun j hj => mvB_sorted hb (m - 1) j (by omega) (by omega))] at h
    exact h
theorem hasText_ev (l : List ByteArray) (w : ByteArray) (hn : l.length ≤ 1000000) : ∃ b, Ev (fun k => laws_hasText.f k l w) b ∧ (b = true ↔ w ∈ l) := by
  have h := Ev.allLoop (l := fun k i => laws_hasText.l0 k l w i) (n := l.length) (fun j => !decide ((rdOf ByteArray.empty l (j : Int)).toList = w.toList)) true false
    (fun i hi => Evt.all fun k => by
      simp only [laws_hasText.l0]
      rw [if_pos (by omega), if_pos (by omega), wrap_succ hi (by omega)]
      by_cases c : (rdOf ByteArray.empty l (i : Int)).toList = w.toList <;> simp [c])
    (Evt.all fun k => by
      simp only [laws_hasText.l0]
      rw [if_neg (by omega)]) l.length 0 (by omega)
  refine ⟨_, h, ?_⟩
  by_cases c : allD (fun j => !decide ((rdOf ByteArray.empty l (j : Int)).toList = w.toList)) 0 l.length = true
  · rw [if_pos c]
    refine ⟨fun h => absurd h (by decide), fun hm => ?_⟩
    obtain ⟨j, hj, e⟩ := List.getElem_of_mem hm
    have := (allD_iff _ _ _).1 c j (by omega) (by omega)
    rw [rdOf_nat hj, e] at this
    simp at this
  · rw [if_neg c]
    refine ⟨fun _ => ?_, fun _ => rfl⟩
    apply Classical.byContradiction
    intro hm
    refine c ((allD_iff _ _ _).2 fun j _ hj => ?_)
    rw [rdOf_nat (by omega)]
    have : ¬ (l[j]'(by omega)).toList = w.toList := fun e => hm (by rw [← toList_inj e]; exact List.getElem_mem _)
    simp [this]
theorem likeTexts_refl (l : List ByteArray) (hn : l.length ≤ 1000000) : Ev (fun k => laws_likeTexts.f k l l) true := by
  unfold laws_likeTexts.f
  simp only [if_pos rfl]
  have h := Ev.allLoop (l := fun k i => laws_likeTexts.l0 k l l i) (n := l.length) (fun _ => true) false true
    (fun i hi => Evt.all fun k => by
      simp only [laws_likeTexts.l0]
      rw [if_pos (by omega), if_pos (by omega), if_pos (by omega), wrap_succ hi (by omega)]
      (try simp))
    (Evt.all fun k => by
      simp only [laws_likeTexts.l0]
      rw [if_neg (by omega)]) l.length 0 (by omega)
  refine h.eq ?_
  rw [if_pos ((allD_iff _ _ _).2 (fun _ _ _ => rfl))]
theorem likeMoves_refl (l : List S42) (hn : l.length ≤ 1000000) : Ev (fun k => laws_likeMoves.f k l l) true := by
  unfold laws_likeMoves.f
  simp only [if_pos rfl]
  have h := Ev.allLoop (l := fun k i => laws_likeMoves.l0 k l l i) (n := l.length) (fun _ => true) false true
    (fun i hi => Evt.all fun k => by
      simp only [laws_likeMoves.l0]
      rw [if_pos (by omega), if_pos (by omega), if_pos (by omega), wrap_succ hi (by omega)]
      simp)
    (Evt.all fun k => by
      simp only [laws_likeMoves.l0]
      rw [if_neg (by omega)]) l.length 0 (by omega)
  refine h.eq ?_
  rw [if_pos ((allD_iff _ _ _).2 (fun _ _ _ => rfl))]
/-- AddMove's answer. -/
def amR (l : List S42) (m : S42) : List S42 × Int := if areMv l = true then (if (l.length : Int) = 40 then ([], 3) else if areMv (l ++ [m]) = true then (l ++ [m], 0) else ([], 5)) else ([], 1)
theorem AddMove_is (l : List S42) (a : Int) (z : ByteArray) (b : Int) (hl : l.length ≤ 1000000) (hz : szOk l) (hs : z.size ≤ 9223372036854775807) : Ev (fun k => spec_AddMove.f k l a z b) (amR l ⟨a, z, b⟩) ∧ Ev (fun k => impl_AddMove.f k l a z b) (amR l ⟨a, z, b⟩) := by
  have h1 := spec_AreMoves_ev l hl hz
  have h2 := impl_AreMoves_ev l hl hz
  unfold spec_AddMove.f impl_AddMove.f amR
  cases g1 : areMv l with
  | false =>
    rw [g1] at h1 h2
    rw [if_neg (by decide)]
    refine ⟨?_, ?_⟩
    · refine Ev.bind h1 ?_
      simp only [Bool.false_eq_true, if_false]
      exact Ev.now _
    · refine Ev.bind h2 ?_
      simp only [Bool.false_eq_true, if_false]
      exact Ev.now _
  | true =>
  rw [g1] at h1 h2
  rw [if_pos rfl]
  obtain ⟨hb, hn⟩ := areMv_ok g1
  by_cases g2 : (l.length : Int) = 40
  · rw [if_pos g2]
    refine ⟨?_, ?_⟩
    · refine Ev.bind h1 ?_
      simp only [if_true, if_pos g2]
      exact Ev.now _
    · refine Ev.bind h2 ?_
      simp only [if_true, if_pos g2]
      exact Ev.now _
  rw [if_neg g2]
  obtain ⟨y1, e1⟩ : ∃ y1, y1 = ([] : List S42) ++ l := ⟨_, rfl⟩
  obtain ⟨y2, e2⟩ : ∃ y2, y2 = ([(⟨a, z, b⟩ : S42)] : List S42) := ⟨_, rfl⟩
  obtain ⟨y3, e3⟩ : ∃ y3, y3 = y1 ++ y2 := ⟨_, rfl⟩
  have n1 : y1.length = l.length := by rw [e1]; rfl
  have n3 : y3.length = l.length + 1 := by rw [e3, e2, List.length_append, n1]; rfl
  have hz3 : szOk y3 := by
    intro j hj
    rw [e3, e2, e1, List.nil_append]
    by_cases c : j < l.length
    · have := hz j c
      rw [rd_T42_nat (by simp; omega), List.getElem_append_left c]
      rwa [rd_T42_nat c] at this
    · rw [rd_T42_nat (by simp; omega), List.getElem_append_right (by omega)]
      simpa using hs
  have k1 := spec_AreMoves_ev y3 (by omega) hz3
  have k2 := impl_AreMoves_ev y3 (by omega) hz3
  have e4 : l ++ [(⟨a, z, b⟩ : S42)] = y3 := by rw [e3, e2, e1]; rfl
  rw [e4]
  refine ⟨?_, ?_⟩
  · refine Ev.bind h1 ?_
    refine Ev.eq' (f := fun k => (spec_AreMoves.f k y3).bind fun t => if t = true then some (y3, 0) else some ([], 5)) ?_ (fun k => ?_)
    · refine Ev.bind k1 ?_
      cases areMv y3 <;> exact Ev.now _
    · rw [if_pos rfl, if_neg g2, Option.bind_some, if_pos (by simp; omega), ← e1, Option.bind_some, ← e2, Option.bind_some, if_pos (by rw [n1, e2]; simp; omega), ← e3, Option.bind_some]
  · refine Ev.bind h2 ?_
    refine Ev.eq' (f := fun k => (impl_AreMoves.f k y3).bind fun t => if t = true then some (y3, 0) else some ([], 5)) ?_ (fun k => ?_)
    · refine Ev.bind k2 ?_
      cases areMv y3 <;> exact Ev.now _
    · rw [if_pos rfl, if_neg g2, Option.bind_some, if_pos (by simp; omega), ← e1, Option.bind_some, ← e2, Option.bind_some, if_pos (by rw [n1, e2]; simp; omega), ← e3, Option.bind_some]
theorem pplT_add (l : List S42) (m : S42) (z : ByteArray) (t : Int) : pplT (l ++ [m]) z t (l ++ [m]).length = if m.f1.toList = z.toList ∧ m.f0 ≤ t then pplT l z t l.length + m.f2 else pplT l z t l.length := by
  have e : pplT (l ++ [m]) z t l.length = pplT l z t l.length := by
    have := ppl_take (l ++ [m]) z t l.length l.length (Nat.le_refl _)
    rw [List.take_left] at this
    exact this.symm
  have hr : rd_T42 (l ++ [m]) (l.length : Int) = m := by
    rw [rd_T42_nat (by simp)]
    simp
  rw [show (l ++ [m]).length = l.length + 1 by simp]
  simp only [pplT]
  rw [hr, e]
theorem cdZ_ok {l : List S42} {z : ByteArray} {t : Int} (h1 : areMv l = true) (h2 : isWd z = true) (h3 : 0 ≤ t) (h4 : t ≤ 10000000) : cdZ l z t = 0 := by
  unfold cdZ
  rw [if_pos ⟨h1, h2⟩, if_pos ⟨h3, h4⟩]
theorem mvB_word {l : List S42} {j : Nat} (h : mvB l j = true) : isWd (rd_T42 l (j : Int)).f1 = true := by
  unfold mvB at h
  simp only [Bool.and_eq_true] at h
  exact h.1.1.1.1.1.2
theorem PeopleIn_now (l : List S42) (z : ByteArray) (t : Int) (hn : l.length ≤ 1000000) (hz : szOk l) (hs : z.size ≤ 9223372036854775807) (h1 : areMv l = true) (h2 : isWd z = true) (h3 : 0 ≤ t) (h4 : t ≤ 10000000) : Ev (fun k => impl_PeopleIn.f k l z t) (pplT l z t l.length, 0) := by
  have h := (PeopleIn_is2 l z t hn hz hs).2
  unfold ppR at h
  rw [if_pos (cdZ_ok h1 h2 h3 h4)] at h
  exact h
/-- Behind a move: the other zones' people are the same, its own are changed. -/
theorem zones_l0 (l : List S42) (m : S42) (hl : l.length ≤ 100) (hz : szOk l) (hs : m.f1.size ≤ 100) (h1 : areMv l = true) (h2 : areMv (l ++ [m]) = true) : ∀ d i, i + d = l.length →
    Ev (fun k => laws_FnZones.l0 k l (l ++ [m]) (i : Int) m.f0 m.f1 m.f2) true := by
  obtain ⟨hb, hn⟩ := areMv_ok h1
  obtain ⟨hb2, hn2⟩ := areMv_ok h2
  have hla : (l ++ [m]).length = l.length + 1 := by simp
  have hr : rd_T42 (l ++ [m]) (l.length : Int) = m := by
    rw [rd_T42_nat (by simp)]
    simp
  have hz2 : szOk (l ++ [m]) := by
    intro j hj
    by_cases c : j < l.length
    · have := hz j c
      rw [rd_T42_nat (by simp; omega), List.getElem_append_left c]
      rwa [rd_T42_nat c] at this
    · rw [show j = l.length by omega, hr]
      omega
  have hml := hb2 l.length (by omega)
  have hmt := mvB_time hml
  have hmw := mvB_word hml
  have hmc := mvB_chg hb2 l.length (by omega)
  rw [hr] at hmt hmw hmc
  have hp := pplT_bd l m.f1 10000000 l.length (mvB_chg hb)
  intro d
  induction d with
  | zero =>
    intro i hi
    obtain rfl : i = l.length := by omega
    have a1 := PeopleIn_now l m.f1 10000000 (by omega) hz (by omega) h1 hmw (by omega) (by omega)
    have a2 := PeopleIn_now (l ++ [m]) m.f1 10000000 (by omega) hz2 (by omega) h2 hmw (by omega) (by omega)
    rw [pplT_add, if_pos ⟨rfl, hmt.2⟩] at a2
    refine Ev.dn ?_
    simp only [laws_FnZones.l0, if_neg (show ¬ (l.length : Int) < (l.length : Int) by omega)]
    refine Ev.bind a1 (Ev.bind a2 ?_)
    rw [wrap_id (show -9223372036854775808 ≤ pplT l m.f1 10000000 l.length + m.f2 by omega) (by omega), wrap_id (show -9223372036854775808 ≤ (l.length : Int) + 1 by omega) (by omega), hla]
    simp only [if_true]
    refine (Ev.now _).eq ?_
    simp
  | succ d ih =>
    intro i hi
    have hs2 := ih (i + 1) (by omega)
    have hw : wrap64 ((i : Int) + 1) = ((i + 1 : Nat) : Int) := wrap_succ (show i < l.length by omega) (by omega)
    refine Ev.dn ?_
    by_cases c : (rd_T42 l (i : Int)).f1.toList = m.f1.toList
    · simp only [laws_FnZones.l0, if_pos (show (i : Int) < (l.length : Int) by omega), if_pos (show (0 : Int) ≤ (i : Int) by omega), if_pos c, hw]
      exact hs2
    · have hwd := mvB_word (hb i (by omega))
      have hsz := hz i (by omega)
      have a1 := PeopleIn_now l (rd_T42 l (i : Int)).f1 10000000 (by omega) hz hsz h1 hwd (by omega) (by omega)
      have a2 := PeopleIn_now (l ++ [m]) (rd_T42 l (i : Int)).f1 10000000 (by omega) hz2 hsz h2 hwd (by omega) (by omega)
      rw [pplT_add, if_neg (fun h => c h.1.symm)] at a2
      simp only [laws_FnZones.l0, if_pos (show (i : Int) < (l.length : Int) by omega), if_pos (show (0 : Int) ≤ (i : Int) by omega), if_neg c, hw]
      refine Ev.bind a1 (Ev.bind a2 ?_)
      simp only [if_true]
      exact hs2
theorem zones_j3 (l : List S42) (m : S42) (hl : l.length ≤ 100) (hz : szOk l) (hs : m.f1.size ≤ 100) : Ev (fun k => laws_FnZones.j3 k l (amR l m).1 (amR l m).2 m.f0 m.f1 m.f2) true := by
  refine Ev.dn ?_
  simp only [laws_FnZones.j3]
  unfold amR
  by_cases h1 : areMv l = true
  · by_cases h2 : (l.length : Int) = 40
    · simp only [if_pos h1, if_pos h2, show ¬ ((3 : Int) = 0) by decide, if_false]
      exact Ev.now _
    · by_cases h3 : areMv (l ++ [m]) = true
      · simp only [if_pos h1, if_neg h2, if_pos h3, if_true]
        exact zones_l0 l m hl hz hs h1 h3 l.length 0 (by omega)
      · simp only [if_pos h1, if_neg h2, if_neg h3, show ¬ ((5 : Int) = 0) by decide, if_false]
        exact Ev.now _
  · simp only [if_neg h1, show ¬ ((1 : Int) = 0) by decide, if_false]
    exact Ev.now _
theorem zones_j1 (l : List S42) (m : S42) (hl : l.length ≤ 100) (hz : szOk l) (hs : m.f1.size ≤ 100) (x : List S42) (z : ByteArray) (hn : x.length ≤ 1000000) (hx : szOk x) (hq : z.size ≤ 9223372036854775807) :
    Ev (fun k => laws_FnZones.j1 k l (amR l m).1 (amR l m).2 x z (flR x z).1 (flR x z).2.1 (flR x z).2.2 false m.f0 m.f1 m.f2) true := by
  have h3 := zones_j3 l m hl hz hs
  generalize (amR l m).1 = A at h3
  generalize (amR l m).2 = B at h3
  have no : ∀ f n, Ev (fun k => laws_FnZones.j2 k l A B x z f n false m.f0 m.f1 m.f2) true := fun f n => by
    refine Ev.dn ?_
    simp only [laws_FnZones.j2, Bool.false_eq_true, if_false]
    exact h3
  refine Ev.dn ?_
  simp only [laws_FnZones.j1, Bool.false_eq_true, if_false]
  unfold flR
  by_cases c : areMv x = true ∧ isWd z = true
  · simp only [if_pos c, if_true]
    by_cases g : (ful x z x.length).2 > 0
    · obtain ⟨hb, _⟩ := areMv_ok c.1
      obtain ⟨j, j1, j2, j3⟩ := ful_at x z x.length g
      have ht := mvB_time (hb j j1)
      have a := PeopleIn_now x z (ful x z x.length).1 hn hx hq c.1 c.2 (by rw [j2]; exact ht.1) (by rw [j2]; exact ht.2)
      rw [show pplT x z (ful x z x.length).1 x.length = (ful x z x.length).2 by rw [j2]; exact j3.symm] at a
      rw [decide_eq_true g]
      refine Ev.dn ?_
      simp only [laws_FnZones.j2, if_true]
      refine Ev.bind a ?_
      simp only [if_true]
      exact h3
    · rw [decide_eq_false g]
      exact no _ _
  · simp only [if_neg c, show ¬ ((1 : Int) = 0) by decide, if_false]
    exact no _ _
theorem zones_j0 (l : List S42) (m : S42) (hl : l.length ≤ 100) (hz : szOk l) (hs : m.f1.size ≤ 100) (x : List S42) (z : ByteArray) (t : Int) (hn : x.length ≤ 1000000) (hx : szOk x) (hq : z.size ≤ 9223372036854775807) :
    Ev (fun k => laws_FnZones.j0 k l (amR l m).1 (amR l m).2 x z (ppR x z t).1 (ppR x z t).2 (ocR x t).1 (flR x z).1 (flR x z).2.1 (flR x z).2.2 false m.f0 m.f1 m.f2) true := by
  have h1 := zones_j1 l m hl hz hs x z hn hx hq
  refine Ev.dn ?_
  simp only [laws_FnZones.j0, Bool.false_eq_true, if_false]
  by_cases cd : cdZ x z t = 0
  · have hp : ppR x z t = (pplT x z t x.length, 0) := by unfold ppR; rw [if_pos cd]
    obtain ⟨hm, t0, t1⟩ := cdZ_zero cd
    obtain ⟨hb, _⟩ := areMv_ok hm
    obtain ⟨p0, p1⟩ := people_in hb z t
    have hw : isWd z = true := by
      by_cases w : isWd z = true
      · exact w
      · unfold cdZ at cd
        rw [if_neg (fun q => w q.2)] at cd
        exact absurd cd (by decide)
    have ho : ocR x t = (occ x t x.length, 0) := by unfold ocR; rw [if_pos hm, if_pos ⟨t0, t1⟩]
    have hf : flR x z = ((ful x z x.length).1, (ful x z x.length).2, 0) := by unfold flR; rw [if_pos ⟨hm, hw⟩]
    obtain ⟨b, e, hbm⟩ := hasText_ev (occ x t x.length) z (Nat.le_trans (occ_len x t x.length) hn)
    have hbe : b = decide (pplT x z t x.length > 0) := by
      rw [Bool.eq_iff_iff, hbm, occ_mem, decide_eq_true_eq]
      constructor
      · rintro ⟨j, _, _, h⟩; exact h
      · intro h
        obtain ⟨j, j1, j2, j3⟩ := pplT_pos x z t _ h
        exact ⟨j, j1, toList_inj j2, h⟩
    rw [hf] at h1 ⊢
    simp only [hp, ho, if_true, if_neg (show ¬ pplT x z t x.length < 0 by omega), if_neg (show ¬ pplT x z t x.length > (ful x z x.length).2 by omega)]
    refine Ev.bind e ?_
    rw [hbe]
    simp only [bne_self_eq_false]
    exact h1
  · have hp : ppR x z t = (0, cdZ x z t) := by unfold ppR; rw [if_neg cd]
    simp only [hp, if_neg cd]
    exact h1
theorem amR_len (l : List S42) (m : S42) (hl : l.length ≤ 100) : (amR l m).1.length ≤ 1000000 := by
  unfold amR
  split
  · split
    · exact Nat.zero_le _
    · split
      · show (l ++ [m]).length ≤ 1000000
        simp; omega
      · exact Nat.zero_le _
  · exact Nat.zero_le _
theorem amR_one (l : List S42) (m : S42) : (areMv l != ((amR l m).2 != 1)) = false := by
  unfold amR
  cases areMv l with
  | false => rfl
  | true =>
    rw [if_pos rfl]
    split
    · rfl
    · split <;> rfl
theorem FnZones : ∀ (l0 : List Int), (l0.length ≤ reachBytes ∧ ∀ y ∈ l0, (Lit.int .u8 y).wf = true) → ∃ k, laws_FnZones.f k l0 = some true := by
  intro L ⟨_, hb⟩
  apply Ev.rounds
  unfold laws_FnZones.f laws_big.f
  simp only [Option.bind_some]
  by_cases hbig : (L.length : Int) > 4096
  · simp only [decide_eq_true hbig, if_true]; exact Ev.now _
  simp only [decide_eq_false hbig, Bool.false_eq_true, if_false]
  have hL : By L := by
    refine ⟨by omega, fun j hj => ?_⟩
    rw [show rd L (j : Int) = L[j] by simp [rd, hj]]
    have := hb _ (List.getElem_mem hj)
    simp only [Lit.wf, Bool.and_eq_true, decide_eq_true_eq] at this
    have m1 : IntKind.u8.min = 0 := by decide
    have m2 : IntKind.u8.max = 255 := by decide
    omega
  obtain ⟨l, a, zn, b, d1, n1, m1, s1⟩ := dAdd hL
  obtain ⟨x, z, t, d2, n2, m2, s2⟩ := dPpl hL
  have hz := mvOk_sz m1
  have hz2 := mvOk_sz m2
  obtain ⟨a1, a2⟩ := AddMove_is l a zn b (by omega) hz (by omega)
  obtain ⟨p1, p2⟩ := PeopleIn_is2 x z t (by omega) hz2 (by omega)
  have o1 := spec_OccupiedAt_is x t (by omega) hz2
  have o2 := impl_OccupiedAt_is x t (by omega) hz2
  obtain ⟨f1, f2⟩ := FullestTime_is x z (by omega) hz2 (by omega)
  have hm := impl_AreMoves_ev l (by omega) hz
  have h0 := zones_j0 l ⟨a, zn, b⟩ n1 hz s1 x z t (by omega) hz2 (by omega)
  refine Ev.bind d1 (Ev.bind a2 (Ev.bind a1 (Ev.bind d2 (Ev.bind p2 (Ev.bind p1 (Ev.bind o2 (Ev.bind o1 (Ev.bind f2 (Ev.bind f1 ?_)))))))))
  simp only [if_true]
  refine Ev.bind (likeMoves_refl _ (amR_len l _ n1)) ?_
  simp only [if_true]
  refine Ev.bind (likeTexts_refl _ (ocR_len x t (by omega))) ?_
  simp only [if_true]
  refine Ev.bind hm ?_
  rw [amR_one]
  exact h0
end Go.Proofs.Ytllhghcepbkpeaa.Pure
