/- The law FnExactClearFrom as a statement over numbers and lists, proved; no condition but the sizes and ranges that every input has. -/
import Derived.Test.YtllhghcepbkpeaaF17
import Derived.Test.YtllhghcepbkpeaaEv
namespace Go.Proofs.Ytllhghcepbkpeaa.Pure
open Go.RowKit Go.Proofs.Ytllhghcepbkpeaa.Pall Go.Proofs.YtllhghcepbkpeaaW.PrintWords
set_option linter.unusedSimpArgs false
set_option linter.unusedVariables false
def wdB (s : ByteArray) (j : Nat) : Bool := !decide (bt s (j : Int) < 97) && !decide (bt s (j : Int) > 122)
def isWd (s : ByteArray) : Bool := allD (wdB s) 0 s.size && (decide (1 ≤ s.size) && decide (s.size ≤ 16))
theorem spec_IsWord_ev (s : ByteArray) (hn : s.size ≤ 9223372036854775807) : Ev (fun k => spec_IsWord.f k s) (isWd s) := by
  have h := Ev.allLoop (l := fun k i => spec_IsWord.l0 k s i) (n := s.size) (wdB s) false (decide (1 ≤ s.size) && decide (s.size ≤ 16))
    (fun i hi => Evt.all fun k => by
      simp only [spec_IsWord.l0]
      rw [if_pos (by omega), if_pos (by omega), wrap_succ hi hn]
      by_cases h1 : bt s (i : Int) < 97 <;> by_cases h2 : bt s (i : Int) > 122 <;> simp [wdB, h1, h2])
    (Evt.all fun k => by
      simp only [spec_IsWord.l0, spec_l01In.f]
      rw [if_neg (by omega)]
      by_cases h1 : 1 ≤ s.size
      · have e2 : decide (s.size ≤ 16) = decide ((s.size : Int) ≤ 16) := decide_eq_decide.2 (by omega)
        rw [if_pos (by omega), Option.bind_some, e2, decide_eq_true h1, Bool.true_and]
      · rw [if_neg (by omega), Option.bind_some, decide_eq_false h1, Bool.false_and]) s.size 0 (by omega)
  refine h.eq ?_
  unfold isWd
  cases allD (wdB s) 0 s.size <;> simp
theorem impl_IsWord_ev (s : ByteArray) (hn : s.size ≤ 9223372036854775807) : Ev (fun k => impl_IsWord.f k s) (isWd s) := by
  have hb : Ev (fun k => impl_IsWord.j0 k s true) false := Ev.dn (by simp only [impl_IsWord.j0]; exact Ev.now _)
  unfold impl_IsWord.f isWd
  by_cases h1 : (s.size : Int) < 1
  · simp only [if_pos h1]
    refine hb.eq ?_
    rw [decide_eq_false (show ¬ 1 ≤ s.size by omega)]
    simp
  simp only [if_neg h1]
  rw [decide_eq_true (show 1 ≤ s.size by omega)]
  by_cases h2 : s.size ≤ 16
  · rw [decide_eq_false (show ¬ (s.size : Int) > 16 by omega), decide_eq_true h2]
    refine Ev.dn ?_
    simp only [impl_IsWord.j0, Bool.false_eq_true, if_false]
    have h := Ev.allLoop (l := fun k i => impl_IsWord.l0 k s i) (n := s.size) (wdB s) false true
      (fun i hi => Evt.all fun k => by
        simp only [impl_IsWord.l0]
        rw [if_pos (by omega), if_pos (by omega), wrap_succ hi hn]
        by_cases h1 : bt s (i : Int) < 97 <;> by_cases h2 : bt s (i : Int) > 122 <;> simp [wdB, h1, h2])
      (Evt.all fun k => by
        simp only [impl_IsWord.l0]
        rw [if_neg (by omega)]) s.size 0 (by omega)
    refine h.eq ?_
    cases allD (wdB s) 0 s.size <;> simp
  · rw [decide_eq_true (show (s.size : Int) > 16 by omega), decide_eq_false h2]
    refine hb.eq (by simp)
theorem rd_T42_nat {l : List S42} {i : Nat} (h : i < l.length) : rd_T42 l (i : Int) = l[i] := by simp [rd_T42, h]
/-- The people of a zone behind the first n moves. -/
def ppl (l : List S42) (z : ByteArray) : Nat → Int
  | 0 => 0
  | n + 1 => if (rd_T42 l (n : Int)).f1.toList = z.toList then ppl l z n + (rd_T42 l (n : Int)).f2 else ppl l z n
/-- The same, of the moves up to a time. -/
def pplT (l : List S42) (z : ByteArray) (t : Int) : Nat → Int
  | 0 => 0
  | n + 1 => if (rd_T42 l (n : Int)).f1.toList = z.toList ∧ (rd_T42 l (n : Int)).f0 ≤ t then pplT l z t n + (rd_T42 l (n : Int)).f2 else pplT l z t n
def chg (l : List S42) (n : Nat) : Prop := ∀ j, j < n → -1000 ≤ (rd_T42 l (j : Int)).f2 ∧ (rd_T42 l (j : Int)).f2 ≤ 1000
theorem ppl_bd (l : List S42) (z : ByteArray) : ∀ n, chg l n → -(1000 * (n : Int)) ≤ ppl l z n ∧ ppl l z n ≤ 1000 * (n : Int)
  | 0, _ => by simp [ppl]
  | n + 1, h => by
    have ih := ppl_bd l z n (fun j hj => h j (by omega))
    have := h n (by omega)
    simp only [ppl]
    split <;> omega
theorem pplT_bd (l : List S42) (z : ByteArray) (t : Int) : ∀ n, chg l n → -(1000 * (n : Int)) ≤ pplT l z t n ∧ pplT l z t n ≤ 1000 * (n : Int)
  | 0, _ => by simp [pplT]
  | n + 1, h => by
    have ih := pplT_bd l z t n (fun j hj => h j (by omega))
    have := h n (by omega)
    simp only [pplT]
    split <;> omega
theorem pplT_ppl (l : List S42) (z : ByteArray) (t : Int) : ∀ n : Nat, (∀ j, j < n → (rd_T42 l (j : Int)).f0 ≤ t) → pplT l z t n = ppl l z n
  | 0, _ => rfl
  | n + 1, h => by
    have := h n (by omega)
    simp only [pplT, ppl, this, and_true]
    rw [pplT_ppl l z t n (fun j hj => h j (by omega))]
theorem pplT_stop (l : List S42) (z : ByteArray) (t : Int) (m : Nat) : ∀ n, m ≤ n → (∀ j, m ≤ j → j < n → ¬ (rd_T42 l (j : Int)).f0 ≤ t) → pplT l z t n = pplT l z t m
  | 0, h, _ => by obtain rfl : m = 0 := by omega
                  rfl
  | n + 1, h, hj => by
    by_cases e : m = n + 1
    · rw [e]
    · have := hj n (by omega) (by omega)
      simp only [pplT, this, and_false, if_false]
      exact pplT_stop l z t m n (by omega) (fun j h1 h2 => hj j h1 (by omega))
theorem rd_take (l : List S42) (m j : Nat) (h : j < m) : rd_T42 (l.take m) (j : Int) = rd_T42 l (j : Int) := by
  simp [rd_T42, List.getElem?_take, h]
theorem ppl_take (l : List S42) (z : ByteArray) (t : Int) (m : Nat) : ∀ n, n ≤ m → pplT (l.take m) z t n = pplT l z t n
  | 0, _ => rfl
  | n + 1, h => by
    simp only [pplT]
    rw [rd_take l m n (by omega), ppl_take l z t m n (by omega)]
theorem spec_l20People_ev (l : List S42) (z : ByteArray) (n : Nat) (hn : n ≤ l.length) (hl : l.length ≤ 1000000) (hc : chg l n) : Ev (fun k => spec_l20People.f k l z (n : Int)) (ppl l z n) := by
  have key : ∀ d i, i + d = n → Ev (fun k => spec_l20People.l0 k l z (n : Int) (ppl l z i) (i : Int)) (ppl l z n) := by
    intro d
    induction d with
    | zero =>
      intro i hi
      obtain rfl : i = n := by omega
      refine Ev.dn ?_
      simp only [spec_l20People.l0, if_neg (show ¬ (i : Int) < (i : Int) by omega)]
      exact Ev.now _
    | succ d ih =>
      intro i hi
      have hb := ppl_bd l z i (fun j hj => hc j (by omega))
      have hci := hc i (by omega)
      have hs := ih (i + 1) (by omega)
      refine Ev.dn ?_
      simp only [spec_l20People.l0, if_pos (show (i : Int) < (n : Int) by omega), if_pos (show (0 : Int) ≤ (i : Int) by omega), if_pos (show (i : Int) < (l.length : Int) by omega), wrap_succ (show i < n by omega) (show n ≤ 9223372036854775807 by omega)]
      by_cases h1 : (rd_T42 l (i : Int)).f1.toList = z.toList
      · simp only [if_pos h1]
        rw [wrap_id (by omega) (by omega)]
        simpa only [ppl, if_pos h1] using hs
      · simp only [if_neg h1]
        simpa only [ppl, if_neg h1] using hs
  exact key n 0 (by omega)
theorem impl_peopleIn_ev (l : List S42) (z : ByteArray) (t : Int) (hl : l.length ≤ 1000000) (hc : chg l l.length) : Ev (fun k => impl_peopleIn.f k l z t) (pplT l z t l.length) := by
  have key : ∀ d i, i + d = l.length → Ev (fun k => impl_peopleIn.l0 k z t (pplT l z t i) l (l.length : Int) (i : Int)) (pplT l z t l.length) := by
    intro d
    induction d with
    | zero =>
      intro i hi
      obtain rfl : i = l.length := by omega
      refine Ev.dn ?_
      simp only [impl_peopleIn.l0, if_neg (show ¬ (l.length : Int) < (l.length : Int) by omega)]
      exact Ev.now _
    | succ d ih =>
      intro i hi
      have hb := pplT_bd l z t i (fun j hj => hc j (by omega))
      have hci := hc i (by omega)
      have hs := ih (i + 1) (by omega)
      refine Ev.dn ?_
      simp only [impl_peopleIn.l0, if_pos (show (i : Int) < (l.length : Int) by omega), if_pos (show (0 : Int) ≤ (i : Int) by omega), wrap_succ (show i < l.length by omega) (show l.length ≤ 9223372036854775807 by omega)]
      by_cases h1 : (rd_T42 l (i : Int)).f1.toList = z.toList
      · simp only [if_pos h1]
        by_cases h2 : (rd_T42 l (i : Int)).f0 ≤ t
        · simp only [if_pos h2]
          rw [wrap_id (by omega) (by omega)]
          simpa only [pplT, if_pos (And.intro h1 h2)] using hs
        · simp only [if_neg h2]
          simpa only [pplT, if_neg (fun h3 : _ ∧ _ => h2 h3.2)] using hs
      · simp only [if_neg h1]
        simpa only [pplT, if_neg (fun h3 : _ ∧ _ => h1 h3.1)] using hs
  exact key l.length 0 (by omega)
def mvB (l : List S42) (j : Nat) : Bool :=
  decide (0 ≤ (rd_T42 l (j : Int)).f0) && decide ((rd_T42 l (j : Int)).f0 ≤ 10000000) && isWd (rd_T42 l (j : Int)).f1 &&
    decide (-1000 ≤ (rd_T42 l (j : Int)).f2) && decide ((rd_T42 l (j : Int)).f2 ≤ 1000) && !decide ((rd_T42 l (j : Int)).f2 = 0) &&
    (decide (j = 0) || decide ((rd_T42 l ((j - 1 : Nat) : Int)).f0 ≤ (rd_T42 l (j : Int)).f0)) && !decide (ppl l (rd_T42 l (j : Int)).f1 (j + 1) < 0)
def areMv (l : List S42) : Bool := allD (mvB l) 0 l.length && decide (l.length ≤ 40)
theorem mvB_chg {l : List S42} {n : Nat} (h : ∀ j, j < n → mvB l j = true) : chg l n := by
  intro j hj
  have := h j hj
  unfold mvB at this
  simp only [Bool.and_eq_true, decide_eq_true_eq] at this
  omega
theorem mvB_sorted {l : List S42} {n : Nat} (h : ∀ j, j < n → mvB l j = true) : ∀ b a, a ≤ b → b < n → (rd_T42 l (a : Int)).f0 ≤ (rd_T42 l (b : Int)).f0
  | 0, a, h1, _ => by obtain rfl : a = 0 := by omega
                      exact Int.le_refl _
  | b + 1, a, h1, h2 => by
    by_cases e : a = b + 1
    · rw [e]
      exact Int.le_refl _
    · have ih := mvB_sorted h b a (by omega) (by omega)
      have hs := h (b + 1) h2
      unfold mvB at hs
      simp only [Bool.and_eq_true, Bool.or_eq_true, decide_eq_true_eq] at hs
      rcases hs.1.2 with h3 | h3
      · exact absurd h3 (by omega)
      · exact Int.le_trans ih h3
def szOk (l : List S42) : Prop := ∀ j, j < l.length → (rd_T42 l (j : Int)).f1.size ≤ 9223372036854775807
theorem spec_AreMoves_ev (l : List S42) (hn : l.length ≤ 1000000) (hz : szOk l) : Ev (fun k => spec_AreMoves.f k l) (areMv l) := by
  have h := Ev.allLoopP (l := fun k i => spec_AreMoves.l0 k l i) (n := l.length) (mvB l) false (decide (l.length ≤ 40))
    (fun i hi hp => by
      have hw := spec_IsWord_ev (rd_T42 l (i : Int)).f1 (hz i hi)
      by_cases hc : -1000 ≤ (rd_T42 l (i : Int)).f2 ∧ (rd_T42 l (i : Int)).f2 ≤ 1000
      · have hch : chg l (i + 1) := fun j hj => by
          by_cases e : j = i
          · rw [e]; exact hc
          · exact mvB_chg hp j (by omega)
        refine hw.evt2 (spec_l20People_ev l (rd_T42 l (i : Int)).f1 (i + 1) (by omega) hn hch) (fun k hk hk2 => ?_)
        simp only [spec_AreMoves.l0, spec_l01IsTime.f, spec_l01In.f]
        rw [if_pos (by omega), if_pos (by omega), wrap_succ hi (by omega), hk, hk2]
        generalize spec_AreMoves.l0 k l ((i + 1 : Nat) : Int) = R
        by_cases h0 : i = 0
        · have hz : (i = 0) = True := eq_true h0
          have hq : ¬ 0 < i := by omega
          clear h0
          by_cases h1 : 0 ≤ (rd_T42 l (i : Int)).f0 <;> by_cases h2 : (rd_T42 l (i : Int)).f0 ≤ 10000000 <;> cases h3 : isWd (rd_T42 l (i : Int)).f1 <;> by_cases h4 : (rd_T42 l (i : Int)).f2 = 0 <;> by_cases h5 : ppl l (rd_T42 l (i : Int)).f1 (i + 1) < 0 <;> simp [mvB, hz, hq, hc.1, hc.2, h1, h2, h3, h4, h5]
        · have hq : 0 < i := by omega
          rw [wrap_pred hi (by omega) (by omega)]
          have q1 : (0 : Int) ≤ ((i - 1 : Nat) : Int) := by omega
          have q2 : ((i - 1 : Nat) : Int) < (l.length : Int) := by omega
          by_cases h1 : 0 ≤ (rd_T42 l (i : Int)).f0 <;> by_cases h2 : (rd_T42 l (i : Int)).f0 ≤ 10000000 <;> cases h3 : isWd (rd_T42 l (i : Int)).f1 <;> by_cases h4 : (rd_T42 l (i : Int)).f2 = 0 <;> by_cases h5 : ppl l (rd_T42 l (i : Int)).f1 (i + 1) < 0 <;> by_cases h6 : (rd_T42 l ((i - 1 : Nat) : Int)).f0 ≤ (rd_T42 l (i : Int)).f0 <;> simp [mvB, h0, hq, q1, q2, hc.1, hc.2, h1, h2, h3, h4, h5, h6, Int.not_lt.2, Int.not_le.1] <;> (try omega)
      · refine hw.evt (fun k hk => ?_)
        simp only [spec_AreMoves.l0, spec_l01IsTime.f, spec_l01In.f]
        rw [if_pos (by omega), if_pos (by omega), hk]
        have hmv : mvB l i = false := by
          unfold mvB
          by_cases h7 : -1000 ≤ (rd_T42 l (i : Int)).f2
          · have h8 : ¬ (rd_T42 l (i : Int)).f2 ≤ 1000 := fun h9 => hc ⟨h7, h9⟩
            simp [h8]
          · simp [h7]
        rw [hmv]
        by_cases h1 : 0 ≤ (rd_T42 l (i : Int)).f0 <;> by_cases h2 : (rd_T42 l (i : Int)).f0 ≤ 10000000 <;> cases h3 : isWd (rd_T42 l (i : Int)).f1 <;> by_cases h7 : -1000 ≤ (rd_T42 l (i : Int)).f2 <;> by_cases h8 : (rd_T42 l (i : Int)).f2 ≤ 1000 <;> simp [h1, h2, h3, h7, h8]
        exact absurd ⟨h7, h8⟩ hc)
    (fun _ => Evt.all fun k => by
      simp only [spec_AreMoves.l0]
      rw [if_neg (by omega)]
      congr 1
      exact decide_eq_decide.2 (by omega)) l.length 0 (by omega) (fun j hj => by omega)
  refine h.eq ?_
  unfold areMv
  cases allD (mvB l) 0 l.length <;> simp
theorem impl_AreMoves_ev (l : List S42) (hn : l.length ≤ 1000000) (hz : szOk l) : Ev (fun k => impl_AreMoves.f k l) (areMv l) := by
  unfold impl_AreMoves.f
  by_cases hl : (l.length : Int) > 40
  · simp only [if_pos hl]
    refine (Ev.now false).eq ?_
    unfold areMv
    rw [decide_eq_false (by omega), Bool.and_false]
  simp only [if_neg hl]
  have h := Ev.allLoopQ (l := fun k i => impl_AreMoves.l0 k l l (l.length : Int) i) (n := l.length) (mvB l) false true
    (fun i hi hp => by
      have hw := impl_IsWord_ev (rd_T42 l (i : Int)).f1 (hz i hi)
      have hs1 := wrap_succ hi (show l.length ≤ 9223372036854775807 by omega)
      have hbad : Ev (fun k => impl_AreMoves.j1 k l (i : Int) l (l.length : Int) (i : Int) true (rd_T42 l (i : Int)).f0 (rd_T42 l (i : Int)).f1 (rd_T42 l (i : Int)).f2) false := Ev.dn (by simp only [impl_AreMoves.j1]; exact Ev.now _)
      have hgood : chg l (i + 1) → (∀ j, j < i + 1 → (rd_T42 l (j : Int)).f0 ≤ (rd_T42 l (i : Int)).f0) → ∀ r, (0 ≤ ppl l (rd_T42 l (i : Int)).f1 (i + 1) → Ev (fun k => impl_AreMoves.l0 k l l (l.length : Int) ((i + 1 : Nat) : Int)) r) → (ppl l (rd_T42 l (i : Int)).f1 (i + 1) < 0 → r = false) →
          Ev (fun k => impl_AreMoves.j1 k l (i : Int) l (l.length : Int) (i : Int) false (rd_T42 l (i : Int)).f0 (rd_T42 l (i : Int)).f1 (rd_T42 l (i : Int)).f2) r := by
        intro hch hts r hr hr2
        refine Ev.dn ?_
        simp only [impl_AreMoves.j1, hs1, Bool.false_eq_true, if_false, if_pos (show (0 : Int) ≤ ((i + 1 : Nat) : Int) by omega), if_pos (show ((i + 1 : Nat) : Int) ≤ (l.length : Int) by omega), Int.toNat_natCast]
        have hlt : (l.take (i + 1)).length = i + 1 := by rw [List.length_take]; omega
        have hpe := impl_peopleIn_ev (l.take (i + 1)) (rd_T42 l (i : Int)).f1 (rd_T42 l (i : Int)).f0 (by omega) (fun j hj => by rw [rd_take l (i + 1) j (by omega)]; exact hch j (by omega))
        rw [hlt, ppl_take _ _ _ _ _ (Nat.le_refl _), pplT_ppl _ _ _ _ hts] at hpe
        refine Ev.bind hpe ?_
        by_cases h9 : ppl l (rd_T42 l (i : Int)).f1 (i + 1) < 0
        · simp only [if_pos h9]
          rw [hr2 h9]
          exact Ev.now _
        · simp only [if_neg h9]
          exact hr (by omega)
      have hmain : ∀ r, (mvB l i = true → Ev (fun k => impl_AreMoves.l0 k l l (l.length : Int) ((i + 1 : Nat) : Int)) r) → (mvB l i = false → r = false) → Ev (fun k => impl_AreMoves.l0 k l l (l.length : Int) (i : Int)) r := by
        intro r hr hr2
        refine Ev.dn ?_
        simp only [impl_AreMoves.l0, impl_isTime.f, impl_within.f, if_pos (show (i : Int) < (l.length : Int) by omega), if_pos (show (0 : Int) ≤ (i : Int) by omega)]
        by_cases h1 : 0 ≤ (rd_T42 l (i : Int)).f0
        case neg =>
          simp only [if_neg h1, Option.bind_some, Bool.false_eq_true, if_false]
          exact hbad.eq (hr2 (by simp [mvB, h1])).symm
        simp only [if_pos h1, Option.bind_some]
        by_cases h2 : (rd_T42 l (i : Int)).f0 ≤ 10000000
        case neg =>
          simp only [decide_eq_false h2, Bool.false_eq_true, if_false]
          exact hbad.eq (hr2 (by simp [mvB, h2])).symm
        simp only [decide_eq_true h2, if_true]
        refine Ev.bind hw ?_
        cases h3 : isWd (rd_T42 l (i : Int)).f1 with
        | false =>
          simp only [Bool.false_eq_true, if_false]
          exact hbad.eq (hr2 (by simp [mvB, h3])).symm
        | true =>
        simp only [if_true]
        by_cases h4 : -1000 ≤ (rd_T42 l (i : Int)).f2
        case neg =>
          simp only [if_neg h4, Option.bind_some, Bool.false_eq_true, if_false]
          exact hbad.eq (hr2 (by simp [mvB, h4])).symm
        simp only [if_pos h4, Option.bind_some]
        by_cases h5 : (rd_T42 l (i : Int)).f2 ≤ 1000
        case neg =>
          simp only [decide_eq_false h5, Bool.false_eq_true, if_false]
          exact hbad.eq (hr2 (by simp [mvB, h5])).symm
        simp only [decide_eq_true h5, if_true]
        by_cases h6 : (rd_T42 l (i : Int)).f2 = 0
        case pos =>
          simp only [if_pos h6]
          exact hbad.eq (hr2 (by simp [mvB, h6])).symm
        simp only [if_neg h6]
        have hch : chg l (i + 1) := fun j hj => by
          by_cases e : j = i
          · rw [e]; exact ⟨h4, h5⟩
          · exact mvB_chg hp j (by omega)
        by_cases h0 : i = 0
        · have hz0 : (i = 0) = True := eq_true h0
          simp only [if_neg (show ¬ (i : Int) > 0 by omega)]
          refine hgood hch (fun j hj => by rw [show j = i by omega]; exact Int.le_refl _) r (fun h9 => hr ?_) (fun h9 => hr2 ?_)
          · simp [mvB, hz0, h1, h2, h3, h4, h5, h6, h9]
          · simp [mvB, h9]
        · simp only [if_pos (show (i : Int) > 0 by omega), wrap_pred hi (show 0 < i by omega) (show l.length ≤ 9223372036854775807 by omega), if_pos (show (0 : Int) ≤ ((i - 1 : Nat) : Int) by omega), if_pos (show ((i - 1 : Nat) : Int) < (l.length : Int) by omega)]
          by_cases h7 : (rd_T42 l ((i - 1 : Nat) : Int)).f0 ≤ (rd_T42 l (i : Int)).f0
          · rw [decide_eq_false (show ¬ (rd_T42 l ((i - 1 : Nat) : Int)).f0 > (rd_T42 l (i : Int)).f0 by omega)]
            refine hgood hch (fun j hj => ?_) r (fun h9 => hr ?_) (fun h9 => hr2 ?_)
            · by_cases e : j = i
              · rw [e]; exact Int.le_refl _
              · exact Int.le_trans (mvB_sorted hp (i - 1) j (by omega) (by omega)) h7
            · simp [mvB, h1, h2, h3, h4, h5, h6, h7, h9]
            · simp [mvB, h9]
          · rw [decide_eq_true (show (rd_T42 l ((i - 1 : Nat) : Int)).f0 > (rd_T42 l (i : Int)).f0 by omega)]
            exact hbad.eq (hr2 (by simp [mvB, h0, h7])).symm
      exact ⟨fun hs r hr => hmain r (fun _ => hr) (fun h => by rw [hs] at h; exact absurd h (by decide)), fun hs => hmain false (fun h => by rw [hs] at h; exact absurd h (by decide)) (fun _ => rfl)⟩)
    (fun _ => Ev.dn (by
      simp only [impl_AreMoves.l0, if_neg (show ¬ (l.length : Int) < (l.length : Int) by omega)]
      exact Ev.now _)) l.length 0 (by omega) (fun j hj => by omega)
  refine h.eq ?_
  unfold areMv
  rw [decide_eq_true (by omega : l.length ≤ 40), Bool.and_true]
  cases allD (mvB l) 0 l.length <;> simp
theorem eqMoveS_refl (l : List S42) (hn : l.length ≤ 9223372036854775807) : Ev (fun k => laws_eqMoveS.f k l l) true := by
  unfold laws_eqMoveS.f
  simp only [if_pos rfl]
  have h := Ev.allLoop (l := fun k i => laws_eqMoveS.l0 k l l i) (n := l.length) (fun _ => true) false true
    (fun i hi => Evt.all fun k => by
      simp only [laws_eqMoveS.l0, laws_eqMove.f]
      rw [if_pos (by omega), if_pos (by omega), if_pos (by omega), wrap_succ hi hn]
      simp)
    (Evt.all fun k => by
      simp only [laws_eqMoveS.l0]
      rw [if_neg (by omega)]) l.length 0 (by omega)
  refine h.eq ?_
  rw [if_pos ((allD_iff _ _ _).2 (fun _ _ _ => rfl))]
theorem intactMoveS_refl (l : List S42) (hn : l.length ≤ 1000000) : Ev (fun k => laws_intactMoveS.f k l l) true := by
  unfold laws_intactMoveS.f
  simp only [if_pos rfl]
  exact eqMoveS_refl _ (full_le l hn)
theorem toMoveS_some (k : Nat) (l : List S38) (b : Bool) (hn : l.length ≤ 1000000) : laws_toMoveS.f k l b = some (l.map laws_toMoveS.conv) := by
  unfold laws_toMoveS.f
  rw [if_pos hn]
theorem szMoveS_some (l : List S38) (hl : l.length ≤ 9223372036854775807) (hz : ∀ y ∈ l, y.f1.size ≤ 9223372036854775807) (a : Int) (ha : -9223372036854775808 ≤ a - (l.length : Int)) (ha2 : a ≤ 1000000) : ∃ r : Int, Ev (fun k => laws_szMoveS.f k l a) r ∧ (¬ r < 0 → l.length ≤ 1000000 ∧ a - (l.length : Int) ≥ 0 ∧ r ≤ 1000000) := by
  unfold laws_szMoveS.f
  rw [wrap_id ha (by omega)]
  by_cases h : a - (l.length : Int) < 0
  · simp only [if_pos h]
    exact ⟨-1, Ev.now _, fun h2 => absurd (show (-1 : Int) < 0 by decide) h2⟩
  simp only [if_neg h]
  have key : ∀ d i, i + d = l.length → ∀ x : Int, 0 ≤ x → x ≤ 1000000 → ∃ r : Int, r ≤ 1000000 ∧ Ev (fun k => laws_szMoveS.l0 k l x (i : Int)) r := by
    intro d
    induction d with
    | zero =>
      intro i hi x h0 h1
      refine ⟨x, h1, Ev.dn ?_⟩
      simp only [laws_szMoveS.l0, if_neg (show ¬ (i : Int) < (l.length : Int) by omega)]
      exact Ev.now _
    | succ d ih =>
      intro i hi x h0 h1
      have hs := hz l[i] (List.getElem_mem (by omega))
      have hr : (rd_T38 l (i : Int)).f1.size ≤ 9223372036854775807 := by
        rw [show rd_T38 l (i : Int) = l[i] by simp [rd_T38, show i < l.length by omega]]
        exact hs
      by_cases g : x - ((rd_T38 l (i : Int)).f1.size : Int) < 0
      · refine ⟨-1, by omega, Ev.dn ?_⟩
        simp only [laws_szMoveS.l0, laws_szMove.f, if_pos (show (i : Int) < (l.length : Int) by omega), if_pos (show (0 : Int) ≤ (i : Int) by omega)]
        rw [wrap_id (by omega) (by omega)]
        simp only [if_pos g, Option.bind_some, if_pos (show (-1 : Int) < 0 by decide)]
        exact Ev.now _
      · obtain ⟨r, hr1, hr2⟩ := ih (i + 1) (by omega) (x - ((rd_T38 l (i : Int)).f1.size : Int)) (by omega) (by omega)
        refine ⟨r, hr1, Ev.dn ?_⟩
        simp only [laws_szMoveS.l0, laws_szMove.f, if_pos (show (i : Int) < (l.length : Int) by omega), if_pos (show (0 : Int) ≤ (i : Int) by omega)]
        rw [wrap_id (by omega) (by omega)]
        simp only [if_neg g, Option.bind_some, wrap_succ (show i < l.length by omega) hl]
        exact hr2
  obtain ⟨r, hr1, hr2⟩ := key l.length 0 (by omega) (a - (l.length : Int)) (by omega) (by omega)
  exact ⟨r, hr2, fun _ => ⟨by omega, by omega, hr1⟩⟩
theorem conv_szOk (l : List S38) (hz : ∀ y ∈ l, y.f1.size ≤ 9223372036854775807) : szOk (l.map laws_toMoveS.conv) := by
  intro j hj
  have hj2 : j < l.length := by simpa using hj
  rw [rd_T42_nat hj]
  simpa [laws_toMoveS.conv] using hz l[j] (List.getElem_mem hj2)
theorem areMv_ok {l : List S42} (h : areMv l = true) : (∀ j, j < l.length → mvB l j = true) ∧ l.length ≤ 40 := by
  unfold areMv at h
  simp only [Bool.and_eq_true, decide_eq_true_eq] at h
  exact ⟨fun j hj => (allD_iff _ _ _).1 h.1 j (by omega) (by omega), h.2⟩
theorem mvB_time {l : List S42} {j : Nat} (h : mvB l j = true) : 0 ≤ (rd_T42 l (j : Int)).f0 ∧ (rd_T42 l (j : Int)).f0 ≤ 10000000 := by
  unfold mvB at h
  simp only [Bool.and_eq_true, decide_eq_true_eq] at h
  omega
/-- What the question's code is. -/
def cdZ (l : List S42) (z : ByteArray) (t : Int) : Int := if areMv l = true ∧ isWd z = true then (if 0 ≤ t ∧ t ≤ 10000000 then 0 else 2) else 1
theorem cdZ_zero {l : List S42} {z : ByteArray} {t : Int} (h : cdZ l z t = 0) : areMv l = true ∧ 0 ≤ t ∧ t ≤ 10000000 := by
  unfold cdZ at h
  by_cases h1 : areMv l = true ∧ isWd z = true
  · by_cases h2 : 0 ≤ t ∧ t ≤ 10000000
    · exact ⟨h1.1, h2⟩
    · simp [h1, h2] at h
  · rw [if_neg h1] at h
    exact absurd h (by decide)
theorem spec_l20Code_ev (l : List S42) (z : ByteArray) (t : Int) (hn : l.length ≤ 1000000) (hz : szOk l) (hs : z.size ≤ 9223372036854775807) : Ev (fun k => spec_l20Code.f k l z t) (cdZ l z t) := by
  unfold spec_l20Code.f cdZ
  refine Ev.bind (spec_AreMoves_ev l hn hz) ?_
  have hb : Ev (fun k => spec_l20Code.j0 k t true) 1 := Ev.dn (by simp only [spec_l20Code.j0]; exact Ev.now _)
  cases h1 : areMv l with
  | false =>
    simp only [Bool.false_eq_true, if_false, false_and]
    exact hb
  | true =>
    simp only [if_true, true_and]
    refine Ev.bind (spec_IsWord_ev z hs) ?_
    cases h2 : isWd z with
    | false =>
      simp only [Bool.not_false, Bool.false_eq_true, if_false]
      exact hb
    | true =>
      simp only [Bool.not_true, if_true]
      refine Ev.dn ?_
      simp only [spec_l20Code.j0, spec_l01IsTime.f, spec_l01In.f, Bool.false_eq_true, if_false]
      by_cases h3 : 0 ≤ t <;> by_cases h4 : t ≤ 10000000 <;> simp only [ge_iff_le, h3, h4, if_true, if_false, Option.bind_some, decide_true, decide_false, Bool.false_eq_true, and_self, and_true, and_false, false_and, true_and] <;> exact Ev.now _
theorem impl_zoneAsked_ev (l : List S42) (z : ByteArray) (t : Int) (hn : l.length ≤ 1000000) (hz : szOk l) (hs : z.size ≤ 9223372036854775807) : Ev (fun k => impl_zoneAsked.f k l z t) (cdZ l z t) := by
  unfold impl_zoneAsked.f cdZ
  refine Ev.bind (impl_AreMoves_ev l hn hz) ?_
  have hb : Ev (fun k => impl_zoneAsked.j0 k t true) 1 := Ev.dn (by simp only [impl_zoneAsked.j0]; exact Ev.now _)
  cases h1 : areMv l with
  | false =>
    simp only [Bool.false_eq_true, if_false, false_and]
    exact hb
  | true =>
    simp only [if_true, true_and]
    refine Ev.bind (impl_IsWord_ev z hs) ?_
    cases h2 : isWd z with
    | false =>
      simp only [Bool.not_false, Bool.false_eq_true, if_false]
      exact hb
    | true =>
      simp only [Bool.not_true, if_true]
      refine Ev.dn ?_
      simp only [impl_zoneAsked.j0, impl_isTime.f, impl_within.f, Bool.false_eq_true, if_false]
      by_cases h3 : 0 ≤ t <;> by_cases h4 : t ≤ 10000000 <;> simp only [h3, h4, if_true, if_false, Option.bind_some, decide_true, decide_false, Bool.false_eq_true, and_self, and_true, and_false, false_and, true_and] <;> exact Ev.now _
/-- How many moves lead the row that are not after t. -/
def upto (l : List S42) (t : Int) : Nat → Nat → Nat
  | i, 0 => i
  | i, d + 1 => if (rd_T42 l (i : Int)).f0 ≤ t then upto l t (i + 1) d else i
theorem upto_spec (l : List S42) (t : Int) : ∀ d i, i ≤ upto l t i d ∧ upto l t i d ≤ i + d ∧ (∀ j, i ≤ j → j < upto l t i d → (rd_T42 l (j : Int)).f0 ≤ t) ∧ (upto l t i d < i + d → ¬ (rd_T42 l ((upto l t i d : Nat) : Int)).f0 ≤ t)
  | 0, i => ⟨Nat.le_refl _, Nat.le_refl _, fun j h1 h2 => absurd h2 (by simp only [upto]; omega), fun h => absurd h (by simp only [upto]; omega)⟩
  | d + 1, i => by
    by_cases h : (rd_T42 l (i : Int)).f0 ≤ t
    · obtain ⟨h1, h2, h3, h4⟩ := upto_spec l t d (i + 1)
      simp only [upto, if_pos h]
      refine ⟨by omega, by omega, fun j hj hj2 => ?_, fun hh => h4 (by omega)⟩
      by_cases e : j = i
      · rw [e]; exact h
      · exact h3 j (by omega) hj2
    · simp only [upto, if_neg h]
      exact ⟨Nat.le_refl _, by omega, fun j h1 h2 => by omega, fun _ => h⟩
theorem spec_l20Upto_ev (l : List S42) (t : Int) (hn : l.length ≤ 1000000) : Ev (fun k => spec_l20Upto.f k l t) ((upto l t 0 l.length : Nat) : Int) := by
  have key : ∀ d i, i + d = l.length → Ev (fun k => spec_l20Upto.l0 k l t (i : Int)) ((upto l t i d : Nat) : Int) := by
    intro d
    induction d with
    | zero =>
      intro i hi
      refine Ev.dn ?_
      simp only [spec_l20Upto.l0, if_neg (show ¬ (i : Int) < (l.length : Int) by omega), upto]
      exact Ev.now _
    | succ d ih =>
      intro i hi
      have := ih (i + 1) (by omega)
      refine Ev.dn ?_
      simp only [spec_l20Upto.l0, if_pos (show (i : Int) < (l.length : Int) by omega), if_pos (show (0 : Int) ≤ (i : Int) by omega), wrap_succ (show i < l.length by omega) (show l.length ≤ 9223372036854775807 by omega), upto]
      by_cases h : (rd_T42 l (i : Int)).f0 ≤ t
      · simp only [if_pos h]; exact this
      · simp only [if_neg h]; exact Ev.now _
  exact key l.length 0 (by omega)
theorem ppl_upto {l : List S42} (z : ByteArray) (t : Int) (hm : ∀ j, j < l.length → mvB l j = true) : ppl l z (upto l t 0 l.length) = pplT l z t l.length := by
  obtain ⟨h1, h2, h3, h4⟩ := upto_spec l t l.length 0
  rw [← pplT_ppl l z t _ (fun j hj => h3 j (by omega) hj), pplT_stop l z t (upto l t 0 l.length) l.length (by omega) (fun j hj hj2 hh => ?_)]
  exact h4 (by omega) (Int.le_trans (mvB_sorted hm j (upto l t 0 l.length) hj hj2) hh)
/-- Does the move j leave the zone clear at t? -/
def clB (l : List S42) (z : ByteArray) (t : Int) (j : Nat) : Bool :=
  !(decide ((rd_T42 l (j : Int)).f1.toList = z.toList) && decide ((rd_T42 l (j : Int)).f0 ≤ t) && decide (t - (rd_T42 l (j : Int)).f0 < 30000))
def clr (l : List S42) (z : ByteArray) (t : Int) : Bool := allD (clB l z t) 0 l.length && (pplT l z t l.length == 0)
theorem impl_isClear_ev (l : List S42) (z : ByteArray) (t : Int) (hm : areMv l = true) (h0 : 0 ≤ t) (h1 : t ≤ 10000000) : Ev (fun k => impl_isClear.f k l z t) (clr l z t) := by
  obtain ⟨hb, hn⟩ := areMv_ok hm
  have h := Ev.allLoop (l := fun k i => impl_isClear.l0 k l z t l (l.length : Int) i) (n := l.length) (clB l z t) false (pplT l z t l.length == 0)
    (fun i hi => Evt.all fun k => by
      have ht := mvB_time (hb i hi)
      simp only [impl_isClear.l0]
      rw [if_pos (by omega), if_pos (by omega), if_pos (by omega), wrap_succ hi (by omega), wrap_id (by omega) (by omega)]
      by_cases g1 : (rd_T42 l (i : Int)).f1.toList = z.toList <;> by_cases g2 : (rd_T42 l (i : Int)).f0 ≤ t <;> by_cases g3 : t - (rd_T42 l (i : Int)).f0 < 30000 <;> simp [clB, g1, g2, g3])
    ((impl_peopleIn_ev l z t (by omega) (mvB_chg hb)).evt fun k hk => by
      simp only [impl_isClear.l0]
      rw [if_neg (by omega), hk, Option.bind_some]) l.length 0 (by omega)
  refine h.eq ?_
  unfold clr
  cases allD (clB l z t) 0 l.length <;> simp
theorem spec_l20Clear_ev (l : List S42) (z : ByteArray) (t : Int) (hm : areMv l = true) (h0 : 0 ≤ t) (h1 : t ≤ 10000000) : Ev (fun k => spec_l20Clear.f k l z t) (clr l z t) := by
  obtain ⟨hb, hn⟩ := areMv_ok hm
  obtain ⟨u1, u2, u3, u4⟩ := upto_spec l t l.length 0
  have hp := ppl_upto z t hb
  unfold spec_l20Clear.f
  refine Ev.bind (spec_l20Upto_ev l t (by omega)) ?_
  have h := Ev.allLoop (l := fun k i => spec_l20Clear.l0 k l z t ((upto l t 0 l.length : Nat) : Int) i) (n := upto l t 0 l.length) (clB l z t) false (pplT l z t l.length == 0)
    (fun i hi => Evt.all fun k => by
      have ht := mvB_time (hb i (by omega))
      have hu := u3 i (by omega) hi
      simp only [spec_l20Clear.l0]
      rw [if_pos (by omega), if_pos (by omega), if_pos (by omega), wrap_succ hi (by omega), wrap_id (by omega) (by omega)]
      by_cases g1 : (rd_T42 l (i : Int)).f1.toList = z.toList
      · by_cases g3 : t - (rd_T42 l (i : Int)).f0 < 30000
        · rw [if_pos g1, if_pos (by omega)]
          simp [clB, g1, hu, g3]
        · rw [if_pos g1, if_neg (by omega)]
          simp [clB, g1, hu, g3]
      · rw [if_neg g1]
        simp [clB, g1])
    ((spec_l20People_ev l z (upto l t 0 l.length) (by omega) (by omega) (fun j hj => mvB_chg hb j (by omega))).evt fun k hk => by
      simp only [spec_l20Clear.l0]
      rw [if_neg (by omega), hk, Option.bind_some, hp]) (upto l t 0 l.length) 0 (by omega)
  refine h.eq ?_
  have e : allD (clB l z t) 0 (upto l t 0 l.length) = allD (clB l z t) 0 l.length := by
    rw [Bool.eq_iff_iff, allD_iff, allD_iff]
    constructor
    · intro hh j hj hj2
      by_cases c : j < upto l t 0 l.length
      · exact hh j hj (by omega)
      · have : ¬ (rd_T42 l (j : Int)).f0 ≤ t := fun hle => u4 (by omega) (Int.le_trans (mvB_sorted hb j (upto l t 0 l.length) (by omega) (by omega)) hle)
        simp [clB, this]
    · exact fun hh j hj hj2 => hh j hj (by omega)
  rw [e]
  unfold clr
  cases allD (clB l z t) 0 l.length <;> simp
theorem rdi_set_self (l : List Int) (i : Nat) (v : Int) (h : i < l.length) : rd (l.set i v) (i : Int) = v := by
  simp [rd, h]
theorem rdi_set_ne (l : List Int) (i j : Nat) (v : Int) (h : i ≠ j) : rd (l.set i v) (j : Int) = rd l (j : Int) := by
  simp [rd, List.getElem?_set_ne h]
/-- The same values stand in both lists. -/
def sameVals (x y : List Int) : Prop := y.length = x.length ∧ (∀ j, j < x.length → ∃ i, i < x.length ∧ rd y (j : Int) = rd x (i : Int)) ∧ (∀ j, j < x.length → ∃ i, i < x.length ∧ rd x (j : Int) = rd y (i : Int))
theorem sameVals_refl (x : List Int) : sameVals x x := ⟨rfl, fun j hj => ⟨j, hj, rfl⟩, fun j hj => ⟨j, hj, rfl⟩⟩
theorem sameVals_trans {x y z : List Int} (h : sameVals x y) (g : sameVals y z) : sameVals x z := by
  obtain ⟨h1, h2, h3⟩ := h
  obtain ⟨g1, g2, g3⟩ := g
  refine ⟨by omega, fun j hj => ?_, fun j hj => ?_⟩
  · obtain ⟨i, hi, e⟩ := g2 j (by omega)
    obtain ⟨m, hm, e2⟩ := h2 i (by omega)
    exact ⟨m, hm, e.trans e2⟩
  · obtain ⟨i, hi, e⟩ := h3 j (by omega)
    obtain ⟨m, hm, e2⟩ := g3 i (by omega)
    exact ⟨m, by omega, e.trans e2⟩
def swp (x : List Int) (p : Nat) : List Int := (x.set p (rd x ((p - 1 : Nat) : Int))).set (p - 1) (rd x (p : Int))
theorem swp_len (x : List Int) (p : Nat) : (swp x p).length = x.length := by simp [swp]
theorem swp_lo (x : List Int) (p : Nat) (h0 : 0 < p) (h : p < x.length) : rd (swp x p) ((p - 1 : Nat) : Int) = rd x (p : Int) := by
  unfold swp
  exact rdi_set_self _ _ _ (by simp; omega)
theorem swp_hi (x : List Int) (p : Nat) (h0 : 0 < p) (h : p < x.length) : rd (swp x p) (p : Int) = rd x ((p - 1 : Nat) : Int) := by
  unfold swp
  rw [rdi_set_ne _ _ _ _ (by omega), rdi_set_self _ _ _ h]
theorem swp_ne (x : List Int) (p j : Nat) (h1 : j ≠ p) (h2 : j ≠ p - 1) : rd (swp x p) (j : Int) = rd x (j : Int) := by
  unfold swp
  rw [rdi_set_ne _ _ _ _ (by omega), rdi_set_ne _ _ _ _ (by omega)]
theorem swp_same (x : List Int) (p : Nat) (h0 : 0 < p) (h : p < x.length) : sameVals x (swp x p) := by
  refine ⟨swp_len x p, fun j hj => ?_, fun j hj => ?_⟩
  · by_cases e : j = p
    · exact ⟨p - 1, by omega, by rw [e]; exact swp_hi x p h0 h⟩
    · by_cases e2 : j = p - 1
      · exact ⟨p, h, by rw [e2]; exact swp_lo x p h0 h⟩
      · exact ⟨j, hj, swp_ne x p j e e2⟩
  · by_cases e : j = p
    · exact ⟨p - 1, by omega, by rw [e]; exact (swp_lo x p h0 h).symm⟩
    · by_cases e2 : j = p - 1
      · exact ⟨p, h, by rw [e2]; exact (swp_hi x p h0 h).symm⟩
      · exact ⟨j, hj, (swp_ne x p j e e2).symm⟩
/-- The first n are in order. -/
def ordN (x : List Int) (n : Nat) : Prop := ∀ b, b < n → ∀ a, a < b → rd x (a : Int) ≤ rd x (b : Int)
/-- The first n are in order but for what stands at p. -/
def ordBut (x : List Int) (n p : Nat) : Prop := ∀ b, b < n → b ≠ p → ∀ a, a < b → rd x (a : Int) ≤ rd x (b : Int)
theorem ordBut_step {x : List Int} {n p : Nat} (h0 : 0 < p) (hp : p < n) (hn : n ≤ x.length) (h : ordBut x n p) (hg : rd x (p : Int) < rd x ((p - 1 : Nat) : Int)) : ordBut (swp x p) n (p - 1) := by
  intro b hb hne a ha
  have hlo := swp_lo x p h0 (by omega)
  have hhi := swp_hi x p h0 (by omega)
  by_cases e : b = p
  · rw [e, hhi]
    by_cases e2 : a = p - 1
    · rw [e2, hlo]; omega
    · rw [swp_ne x p a (by omega) e2]
      exact h (p - 1) (by omega) (by omega) a (by omega)
  · rw [swp_ne x p b e hne]
    by_cases e2 : a = p - 1
    · rw [e2, hlo]
      exact h b hb e p (by omega)
    · by_cases e3 : a = p
      · rw [e3, hhi]
        exact h b hb e (p - 1) (by omega)
      · rw [swp_ne x p a e3 e2]
        exact h b hb e a ha
theorem ordBut_stop {x : List Int} {n p : Nat} (hp : p < n) (h : ordBut x n p) (hg : p = 0 ∨ rd x ((p - 1 : Nat) : Int) ≤ rd x (p : Int)) : ordN x n := by
  intro b hb a ha
  by_cases e : b = p
  · rcases hg with hg | hg
    · omega
    · rw [e]
      by_cases e2 : a = p - 1
      · rw [e2]; exact hg
      · exact Int.le_trans (h (p - 1) (by omega) (by omega) a (by omega)) hg
  · exact h b hb e a ha
theorem sorted_ev (x : List Int) (hx : x.length ≤ 1000000) : ∃ y, Ev (fun k => impl_sorted.f k x) y ∧ sameVals x y ∧ ordN y x.length := by
  have inner : ∀ p (z : List Int) (i : Nat), p ≤ i → i < z.length → z.length ≤ 1000000 → ordBut z (i + 1) p → ∃ y, sameVals z y ∧ ordN y (i + 1) ∧ ∀ r n, Ev (fun k => impl_sorted.l0 k y n ((i + 1 : Nat) : Int)) r → Ev (fun k => impl_sorted.l1 k z (p : Int) n (i : Int)) r := by
    intro p
    induction p with
    | zero =>
      intro z i hp hi hz h
      refine ⟨z, sameVals_refl z, ordBut_stop (by omega) h (Or.inl rfl), fun r n hr => Ev.dn ?_⟩
      simp only [impl_sorted.l1, if_neg (show ¬ ((0 : Nat) : Int) > 0 by decide), wrap_succ (show i < z.length by omega) (show z.length ≤ 9223372036854775807 by omega)]
      exact hr
    | succ p ih =>
      intro z i hp hi hz h
      have w1 : wrap64 (((p + 1 : Nat) : Int) - 1) = (p : Int) := by rw [wrap_id (by omega) (by omega)]; omega
      by_cases g : rd z (p : Int) > rd z ((p + 1 : Nat) : Int)
      · obtain ⟨y, hy1, hy2, hy3⟩ := ih (swp z (p + 1)) i (by omega) (by rw [swp_len]; omega) (by rw [swp_len]; omega) (by
          have := ordBut_step (x := z) (n := i + 1) (p := p + 1) (by omega) (by omega) (by omega) h (by simpa using g)
          simpa using this)
        refine ⟨y, sameVals_trans (swp_same z (p + 1) (by omega) (by omega)) hy1, hy2, fun r n hr => Ev.dn ?_⟩
        have e := hy3 r n hr
        simp only [impl_sorted.l1, if_pos (show ((p + 1 : Nat) : Int) > 0 by omega), w1, if_pos (show (0 : Int) ≤ (p : Int) by omega), if_pos (show (p : Int) < (z.length : Int) by omega), if_pos (show (0 : Int) ≤ ((p + 1 : Nat) : Int) by omega), if_pos (show ((p + 1 : Nat) : Int) < (z.length : Int) by omega), if_pos g, Int.toNat_natCast]
        simpa [swp] using e
      · refine ⟨z, sameVals_refl z, ordBut_stop (by omega) h (Or.inr (by simpa using Int.not_lt.1 g)), fun r n hr => Ev.dn ?_⟩
        simp only [impl_sorted.l1, if_pos (show ((p + 1 : Nat) : Int) > 0 by omega), w1, if_pos (show (0 : Int) ≤ (p : Int) by omega), if_pos (show (p : Int) < (z.length : Int) by omega), if_pos (show (0 : Int) ≤ ((p + 1 : Nat) : Int) by omega), if_pos (show ((p + 1 : Nat) : Int) < (z.length : Int) by omega), if_neg g, wrap_succ (show i < z.length by omega) (show z.length ≤ 9223372036854775807 by omega)]
        exact hr
  have outer : ∀ d i (z : List Int), i + d = x.length → z.length = x.length → ordN z i → ∃ y, Ev (fun k => impl_sorted.l0 k z (x.length : Int) (i : Int)) y ∧ sameVals z y ∧ ordN y x.length := by
    intro d
    induction d with
    | zero =>
      intro i z hi hz h
      obtain rfl : i = x.length := by omega
      refine ⟨z, Ev.dn ?_, sameVals_refl z, h⟩
      simp only [impl_sorted.l0, if_neg (show ¬ (x.length : Int) < (x.length : Int) by omega)]
      exact Ev.now _
    | succ d ih =>
      intro i z hi hz h
      obtain ⟨y, h1, h2, h3⟩ := inner i z i (Nat.le_refl _) (by omega) (by omega) (fun b hb hne a ha => h b (by omega) a ha)
      obtain ⟨q, q1, q2, q3⟩ := ih (i + 1) y (by omega) (by have := h1.1; omega) h2
      refine ⟨q, Ev.dn ?_, sameVals_trans h1 q2, q3⟩
      simp only [impl_sorted.l0, if_pos (show (i : Int) < (x.length : Int) by omega)]
      exact h3 _ _ q1
  obtain ⟨y, h1, h2, h3⟩ := outer x.length 0 x (by omega) rfl (fun b hb => by omega)
  refine ⟨y, ?_, h2, h3⟩
  unfold impl_sorted.f
  refine Ev.eq' h1 (fun k => ?_)
  have e : impl_copyList.f x = some x := by
    unfold impl_copyList.f
    rw [Option.bind_some, if_pos (by simp; omega)]
    rfl
  rw [e, Option.bind_some]
  rfl
/-- A row of moves that is not clear before, but clear later on, in a zone: some move of the zone with its wait lies between, and then it is clear, too. -/
theorem clr_first {l : List S42} {z : ByteArray} {t s : Int} (hb : ∀ j, j < l.length → mvB l j = true) (hts : t < s) (h1 : clr l z t = false) (h2 : clr l z s = true) :
    ∃ j, j < l.length ∧ (rd_T42 l (j : Int)).f1.toList = z.toList ∧ t < (rd_T42 l (j : Int)).f0 + 30000 ∧ (rd_T42 l (j : Int)).f0 + 30000 ≤ s ∧ clr l z ((rd_T42 l (j : Int)).f0 + 30000) = true := by
  have good : ∀ u, u ≤ s → (∀ j, j < l.length → (rd_T42 l (j : Int)).f1.toList = z.toList → (rd_T42 l (j : Int)).f0 ≤ s → (rd_T42 l (j : Int)).f0 + 30000 ≤ u) → clr l z u = true := by
    intro u hu hj
    unfold clr at h2 ⊢
    rw [Bool.and_eq_true] at h2 ⊢
    have hsame : ∀ n, n ≤ l.length → pplT l z u n = pplT l z s n := by
      intro n
      induction n with
      | zero => exact fun _ => rfl
      | succ n ih =>
        intro hn
        simp only [pplT]
        rw [ih (by omega)]
        by_cases c : (rd_T42 l (n : Int)).f1.toList = z.toList
        · by_cases d : (rd_T42 l (n : Int)).f0 ≤ s
          · have := hj n (by omega) c d
            rw [if_pos ⟨c, by omega⟩, if_pos ⟨c, d⟩]
          · rw [if_neg (fun q => d (Int.le_trans q.2 hu)), if_neg (fun q => d q.2)]
        · rw [if_neg (fun q => c q.1), if_neg (fun q => c q.1)]
    refine ⟨(allD_iff _ _ _).2 (fun j _ hjl => ?_), by rw [hsame _ (Nat.le_refl _)]; exact h2.2⟩
    unfold clB
    by_cases c : (rd_T42 l (j : Int)).f1.toList = z.toList
    · by_cases d : (rd_T42 l (j : Int)).f0 ≤ u
      · have := hj j (by omega) c (by omega)
        rw [decide_eq_false (show ¬ u - (rd_T42 l (j : Int)).f0 < 30000 by omega), Bool.and_false, Bool.not_false]
      · simp [d]
    · simp [c]
  have hs : ∀ j, j < l.length → (rd_T42 l (j : Int)).f1.toList = z.toList → (rd_T42 l (j : Int)).f0 ≤ s → (rd_T42 l (j : Int)).f0 + 30000 ≤ s := by
    intro j hj c d
    unfold clr at h2
    rw [Bool.and_eq_true] at h2
    have := (allD_iff _ _ _).1 h2.1 j (by omega) (by omega)
    unfold clB at this
    by_cases e : s - (rd_T42 l (j : Int)).f0 < 30000
    · simp [c, d, e] at this
    · omega
  -- the last move of the zone that is not behind s
  have last : ∀ n, n ≤ l.length → (∀ j, j < n → ¬ ((rd_T42 l (j : Int)).f1.toList = z.toList ∧ (rd_T42 l (j : Int)).f0 ≤ s)) ∨ ∃ j, j < n ∧ ((rd_T42 l (j : Int)).f1.toList = z.toList ∧ (rd_T42 l (j : Int)).f0 ≤ s) ∧ ∀ i, j < i → i < n → ¬ ((rd_T42 l (i : Int)).f1.toList = z.toList ∧ (rd_T42 l (i : Int)).f0 ≤ s) := by
    intro n
    induction n with
    | zero => exact fun _ => Or.inl (fun j hj => by omega)
    | succ n ih =>
      intro hn
      by_cases c : (rd_T42 l (n : Int)).f1.toList = z.toList ∧ (rd_T42 l (n : Int)).f0 ≤ s
      · exact Or.inr ⟨n, by omega, c, fun i h1 h2 => by omega⟩
      · rcases ih (by omega) with h | ⟨j, q1, q2, q3⟩
        · refine Or.inl (fun j hj => ?_)
          by_cases e : j = n
          · rw [e]; exact c
          · exact h j (by omega)
        · refine Or.inr ⟨j, by omega, q2, fun i h1 h2 => ?_⟩
          by_cases e : i = n
          · rw [e]; exact c
          · exact q3 i h1 (by omega)
  rcases last l.length (Nat.le_refl _) with h | ⟨j, q1, q2, q3⟩
  · have := good t (by omega) (fun j hj c d => absurd ⟨c, d⟩ (h j hj))
    rw [h1] at this
    exact absurd this (by decide)
  · have hle : ∀ i, i < l.length → (rd_T42 l (i : Int)).f1.toList = z.toList → (rd_T42 l (i : Int)).f0 ≤ s → (rd_T42 l (i : Int)).f0 ≤ (rd_T42 l (j : Int)).f0 := by
      intro i hi c d
      by_cases e : i ≤ j
      · exact mvB_sorted hb j i e q1
      · exact absurd ⟨c, d⟩ (q3 i (by omega) hi)
    refine ⟨j, q1, q2.1, ?_, hs j q1 q2.1 q2.2, good _ (hs j q1 q2.1 q2.2) (fun i hi c d => by have := hle i hi c d; omega)⟩
    by_cases e : t < (rd_T42 l (j : Int)).f0 + 30000
    · exact e
    · have := good t (by omega) (fun i hi c d => by have := hle i hi c d; omega)
      rw [h1] at this
      exact absurd this (by decide)
/-- What both find: the least time among those told that is clear, or none. -/
def firstOf (S : Int → Prop) (c : Int → Bool) (r : Int × Int) : Prop := (∃ s, S s ∧ c s = true ∧ (∀ q, S q → c q = true → s ≤ q) ∧ r = (s, 0)) ∨ ((∀ q, S q → c q = false) ∧ r = (0, 4))
theorem firstOf_eq {S S' : Int → Prop} {c : Int → Bool} {r r' : Int × Int} (h : firstOf S c r) (h' : firstOf S' c r') (hs : ∀ q, S q → S' q) (hs' : ∀ q, S' q → c q = true → ∃ p, S p ∧ c p = true ∧ p ≤ q) : r = r' := by
  rcases h with ⟨s, h1, h2, h3, rfl⟩ | ⟨h1, rfl⟩
  · rcases h' with ⟨s', g1, g2, g3, rfl⟩ | ⟨g1, rfl⟩
    · have a := g3 s (hs s h1) h2
      obtain ⟨p, p1, p2, p3⟩ := hs' s' g1 g2
      have b := h3 p p1 p2
      have : s = s' := by omega
      rw [this]
    · have := g1 s (hs s h1)
      rw [h2] at this
      exact absurd this (by decide)
  · rcases h' with ⟨s', g1, g2, g3, rfl⟩ | ⟨g1, rfl⟩
    · obtain ⟨p, p1, p2, p3⟩ := hs' s' g1 g2
      have := h1 p p1
      rw [p2] at this
      exact absurd this (by decide)
    · rfl
def zoneAt (l : List S42) (z : ByteArray) (t : Int) (i : Nat) (s : Int) : Prop := ∃ j, i ≤ j ∧ j < l.length ∧ (rd_T42 l (j : Int)).f1.toList = z.toList ∧ t < (rd_T42 l (j : Int)).f0 + 30000 ∧ (rd_T42 l (j : Int)).f0 + 30000 ≤ 10000000 ∧ s = (rd_T42 l (j : Int)).f0 + 30000
theorem spec_find (l : List S42) (z : ByteArray) (t : Int) (hm : areMv l = true) (h0 : 0 ≤ t) : ∀ d i, i + d = l.length → ∃ r : Int × Int, Ev (fun k => spec_ClearFrom.l0 k l z t (i : Int)) r ∧ firstOf (zoneAt l z t i) (clr l z) r := by
  obtain ⟨hb, hl⟩ := areMv_ok hm
  intro d
  induction d with
  | zero =>
    intro i hi
    refine ⟨(0, 4), Ev.dn ?_, Or.inr ⟨fun q hq => ?_, rfl⟩⟩
    · simp only [spec_ClearFrom.l0, if_neg (show ¬ (i : Int) < (l.length : Int) by omega)]
      exact Ev.now _
    · obtain ⟨j, h1, h2, _⟩ := hq
      omega
  | succ d ih =>
    intro i hi
    obtain ⟨r, hr, hf⟩ := ih (i + 1) (by omega)
    have ht := mvB_time (hb i (by omega))
    have hw : wrap64 ((rd_T42 l (i : Int)).f0 + 30000) = (rd_T42 l (i : Int)).f0 + 30000 := wrap_id (by omega) (by omega)
    have skip : ¬ ((rd_T42 l (i : Int)).f1.toList = z.toList ∧ t < (rd_T42 l (i : Int)).f0 + 30000 ∧ (rd_T42 l (i : Int)).f0 + 30000 ≤ 10000000 ∧ clr l z ((rd_T42 l (i : Int)).f0 + 30000) = true) → firstOf (zoneAt l z t i) (clr l z) r := by
      intro hn
      have hcase : ∀ q, zoneAt l z t i q → clr l z q = true → zoneAt l z t (i + 1) q := by
        intro q ⟨j, a1, a2, a3, a4, a5, a6⟩ hq
        by_cases e : j = i
        · subst e
          exact absurd ⟨a3, a4, a5, by rw [← a6]; exact hq⟩ hn
        · exact ⟨j, by omega, a2, a3, a4, a5, a6⟩
      rcases hf with ⟨s, s1, s2, s3, s4⟩ | ⟨s1, s2⟩
      · obtain ⟨j, a1, a2⟩ := s1
        exact Or.inl ⟨s, ⟨j, by omega, a2⟩, s2, fun q hq hc => s3 q (hcase q hq hc) hc, s4⟩
      · refine Or.inr ⟨fun q hq => ?_, s2⟩
        cases hc : clr l z q with
        | false => rfl
        | true =>
          have := s1 q (hcase q hq hc)
          rw [hc] at this
          exact this
    have hrun : (fun k => spec_ClearFrom.l0 (k + 1) l z t (i : Int)) = fun k => if (rd_T42 l (i : Int)).f1.toList = z.toList then (if (rd_T42 l (i : Int)).f0 + 30000 > t then ((spec_l01IsTime.f ((rd_T42 l (i : Int)).f0 + 30000)).bind fun t369 => (if t369 = true then ((spec_l20Clear.f k l z ((rd_T42 l (i : Int)).f0 + 30000)).bind fun t370 => (if t370 = true then (some ((rd_T42 l (i : Int)).f0 + 30000, 0)) else (spec_ClearFrom.l0 k l z t ((i + 1 : Nat) : Int)))) else (spec_ClearFrom.l0 k l z t ((i + 1 : Nat) : Int)))) else (spec_ClearFrom.l0 k l z t ((i + 1 : Nat) : Int))) else (spec_ClearFrom.l0 k l z t ((i + 1 : Nat) : Int)) := by
      funext k
      simp only [spec_ClearFrom.l0]
      rw [if_pos (show (i : Int) < (l.length : Int) by omega), if_pos (show (0 : Int) ≤ (i : Int) by omega), hw, wrap_succ (show i < l.length by omega) (show l.length ≤ 9223372036854775807 by omega)]
    by_cases c1 : (rd_T42 l (i : Int)).f1.toList = z.toList
    case neg =>
      refine ⟨r, Ev.dn ?_, skip (fun h => c1 h.1)⟩
      rw [hrun]; simp only [if_neg c1]; exact hr
    by_cases c2 : (rd_T42 l (i : Int)).f0 + 30000 > t
    case neg =>
      refine ⟨r, Ev.dn ?_, skip (fun h => c2 (by omega))⟩
      rw [hrun]; simp only [if_pos c1, if_neg c2]; exact hr
    by_cases c3 : (rd_T42 l (i : Int)).f0 + 30000 ≤ 10000000
    case neg =>
      refine ⟨r, Ev.dn ?_, skip (fun h => c3 h.2.2.1)⟩
      rw [hrun]; simp only [if_pos c1, if_pos c2, spec_l01IsTime.f, spec_l01In.f, ge_iff_le, if_pos (show 0 ≤ (rd_T42 l (i : Int)).f0 + 30000 by omega), Option.bind_some, decide_eq_false c3, Bool.false_eq_true, if_false]; exact hr
    have hcl := spec_l20Clear_ev l z ((rd_T42 l (i : Int)).f0 + 30000) hm (by omega) c3
    cases c4 : clr l z ((rd_T42 l (i : Int)).f0 + 30000) with
    | false =>
      refine ⟨r, Ev.dn ?_, skip (fun h => by rw [c4] at h; exact absurd h.2.2.2 (by decide))⟩
      rw [hrun]; simp only [if_pos c1, if_pos c2, spec_l01IsTime.f, spec_l01In.f, ge_iff_le, if_pos (show 0 ≤ (rd_T42 l (i : Int)).f0 + 30000 by omega), Option.bind_some, decide_eq_true c3, if_true]
      refine Ev.bind hcl ?_
      simp only [c4, Bool.false_eq_true, if_false]; exact hr
    | true =>
      refine ⟨((rd_T42 l (i : Int)).f0 + 30000, 0), Ev.dn ?_, Or.inl ⟨_, ⟨i, Nat.le_refl _, by omega, c1, by omega, c3, rfl⟩, c4, fun q hq hc => ?_, rfl⟩⟩
      · rw [hrun]; simp only [if_pos c1, if_pos c2, spec_l01IsTime.f, spec_l01In.f, ge_iff_le, if_pos (show 0 ≤ (rd_T42 l (i : Int)).f0 + 30000 by omega), Option.bind_some, decide_eq_true c3, if_true]
        refine Ev.bind hcl ?_
        simp only [c4, if_true]; exact Ev.now _
      · obtain ⟨j, a1, a2, a3, a4, a5, a6⟩ := hq
        have := mvB_sorted hb j i a1 a2
        omega
def inRow (ys : List Int) (i : Nat) (s : Int) : Prop := ∃ j, i ≤ j ∧ j < ys.length ∧ s = rd ys (j : Int) ∧ s ≤ 10000000
theorem impl_find (l : List S42) (z : ByteArray) (ys : List Int) (hm : areMv l = true) (hn : ys.length ≤ 1000000) (ho : ordN ys ys.length) (hp : ∀ j, j < ys.length → 0 ≤ rd ys (j : Int)) :
    ∀ d i, i + d = ys.length → ∃ r : Int × Int, Ev (fun k => impl_ClearFrom.l1 k l z ys (ys.length : Int) (i : Int)) r ∧ firstOf (inRow ys i) (clr l z) r := by
  intro d
  induction d with
  | zero =>
    intro i hi
    refine ⟨(0, 4), Ev.dn ?_, Or.inr ⟨fun q hq => ?_, rfl⟩⟩
    · simp only [impl_ClearFrom.l1, if_neg (show ¬ (i : Int) < (ys.length : Int) by omega)]
      exact Ev.now _
    · obtain ⟨j, h1, h2, _⟩ := hq
      omega
  | succ d ih =>
    intro i hi
    obtain ⟨r, hr, hf⟩ := ih (i + 1) (by omega)
    have skip : ¬ (rd ys (i : Int) ≤ 10000000 ∧ clr l z (rd ys (i : Int)) = true) → firstOf (inRow ys i) (clr l z) r := by
      intro hn
      have hcase : ∀ q, inRow ys i q → clr l z q = true → inRow ys (i + 1) q := by
        intro q ⟨j, a1, a2, a3, a4⟩ hq
        by_cases e : j = i
        · subst e
          exact absurd ⟨by omega, by rw [← a3]; exact hq⟩ hn
        · exact ⟨j, by omega, a2, a3, a4⟩
      rcases hf with ⟨s, s1, s2, s3, s4⟩ | ⟨s1, s2⟩
      · obtain ⟨j, a1, a2⟩ := s1
        exact Or.inl ⟨s, ⟨j, by omega, a2⟩, s2, fun q hq hc => s3 q (hcase q hq hc) hc, s4⟩
      · refine Or.inr ⟨fun q hq => ?_, s2⟩
        cases hc : clr l z q with
        | false => rfl
        | true =>
          have := s1 q (hcase q hq hc)
          rw [hc] at this
          exact this
    by_cases c3 : rd ys (i : Int) ≤ 10000000
    case neg =>
      refine ⟨r, Ev.dn ?_, skip (fun h => c3 h.1)⟩
      simp only [impl_ClearFrom.l1, if_pos (show (i : Int) < (ys.length : Int) by omega), if_pos (show (0 : Int) ≤ (i : Int) by omega), if_neg c3, wrap_succ (show i < ys.length by omega) (show ys.length ≤ 9223372036854775807 by omega)]
      exact hr
    have hcl := impl_isClear_ev l z (rd ys (i : Int)) hm (hp i (by omega)) c3
    cases c4 : clr l z (rd ys (i : Int)) with
    | false =>
      refine ⟨r, Ev.dn ?_, skip (fun h => by rw [c4] at h; exact absurd h.2 (by decide))⟩
      simp only [impl_ClearFrom.l1, if_pos (show (i : Int) < (ys.length : Int) by omega), if_pos (show (0 : Int) ≤ (i : Int) by omega), if_pos c3, wrap_succ (show i < ys.length by omega) (show ys.length ≤ 9223372036854775807 by omega)]
      refine Ev.bind hcl ?_
      simp only [c4, Bool.false_eq_true, if_false]; exact hr
    | true =>
      refine ⟨(rd ys (i : Int), 0), Ev.dn ?_, Or.inl ⟨_, ⟨i, Nat.le_refl _, by omega, rfl, c3⟩, c4, fun q hq hc => ?_, rfl⟩⟩
      · simp only [impl_ClearFrom.l1, if_pos (show (i : Int) < (ys.length : Int) by omega), if_pos (show (0 : Int) ≤ (i : Int) by omega), if_pos c3, wrap_succ (show i < ys.length by omega) (show ys.length ≤ 9223372036854775807 by omega)]
        refine Ev.bind hcl ?_
        simp only [c4, if_true]; exact Ev.now _
      · obtain ⟨j, a1, a2, a3, a4⟩ := hq
        by_cases e : j = i
        · rw [a3, e]; exact Int.le_refl _
        · rw [a3]; exact ho j a2 i (by omega)
def told (l : List S42) (t : Int) : List Int → Nat → Nat → List Int
  | xs, _, 0 => xs
  | xs, i, d + 1 => told l t (if (rd_T42 l (i : Int)).f0 + 30000 > t then xs ++ [(rd_T42 l (i : Int)).f0 + 30000] else xs) (i + 1) d
theorem told_len (l : List S42) (t : Int) : ∀ d i xs, (told l t xs i d).length ≤ xs.length + d
  | 0, _, _ => by simp [told]
  | d + 1, i, xs => by
    have := told_len l t d (i + 1) (if (rd_T42 l (i : Int)).f0 + 30000 > t then xs ++ [(rd_T42 l (i : Int)).f0 + 30000] else xs)
    simp only [told]
    refine Nat.le_trans this ?_
    split
    · simp; omega
    · omega
theorem told_mem (l : List S42) (t : Int) (q : Int) : ∀ d i xs, q ∈ told l t xs i d ↔ q ∈ xs ∨ ∃ j, i ≤ j ∧ j < i + d ∧ (rd_T42 l (j : Int)).f0 + 30000 > t ∧ q = (rd_T42 l (j : Int)).f0 + 30000
  | 0, i, xs => by
    simp only [told]
    exact ⟨Or.inl, fun h => h.elim id (fun ⟨j, h1, h2, _⟩ => by omega)⟩
  | d + 1, i, xs => by
    simp only [told]
    rw [told_mem l t q d (i + 1)]
    constructor
    · rintro (h | ⟨j, h1, h2, h3⟩)
      · by_cases c : (rd_T42 l (i : Int)).f0 + 30000 > t
        · rw [if_pos c] at h
          rcases List.mem_append.1 h with h | h
          · exact Or.inl h
          · exact Or.inr ⟨i, Nat.le_refl _, by omega, c, by simpa using h⟩
        · rw [if_neg c] at h
          exact Or.inl h
      · exact Or.inr ⟨j, by omega, by omega, h3⟩
    · rintro (h | ⟨j, h1, h2, h3, h4⟩)
      · left
        split
        · exact List.mem_append_left _ h
        · exact h
      · by_cases e : j = i
        · left
          subst e
          rw [if_pos h3]
          exact List.mem_append_right _ (by simp [h4])
        · exact Or.inr ⟨j, by omega, by omega, h3, h4⟩
theorem ClearFrom_both (l : List S42) (z : ByteArray) (t : Int) (hn : l.length ≤ 1000000) (hz : szOk l) (hs : z.size ≤ 9223372036854775807) : ∃ r : Int × Int, Ev (fun k => spec_ClearFrom.f k l z t) r ∧ Ev (fun k => impl_ClearFrom.f k l z t) r := by
  unfold spec_ClearFrom.f impl_ClearFrom.f
  by_cases h : cdZ l z t = 0
  case neg =>
    refine ⟨(0, cdZ l z t), ?_, ?_⟩
    · refine Ev.bind (spec_l20Code_ev l z t hn hz hs) ?_
      simp only [if_neg h]
      exact Ev.now _
    · refine Ev.bind (impl_zoneAsked_ev l z t hn hz hs) ?_
      simp only [if_neg h]
      exact Ev.now _
  obtain ⟨hm, h0, h1⟩ := cdZ_zero h
  obtain ⟨hb, hl⟩ := areMv_ok hm
  obtain ⟨xs, ex⟩ : ∃ xs, xs = told l t [t] 0 l.length := ⟨_, rfl⟩
  have hxl : xs.length ≤ 1 + l.length := by rw [ex]; exact told_len l t l.length 0 [t]
  obtain ⟨ys, hy1, hy2, hy3⟩ := sorted_ev xs (by omega)
  have hyl : ys.length = xs.length := hy2.1
  have hxpos : ∀ q, q ∈ xs → 0 ≤ q := by
    intro q hq
    rw [ex, told_mem] at hq
    rcases hq with hq | ⟨j, a1, a2, a3, a4⟩
    · have : q = t := by simpa using hq
      omega
    · have := mvB_time (hb j (by omega))
      omega
  have hmem : ∀ q, (∃ j, j < ys.length ∧ q = rd ys (j : Int)) ↔ q ∈ xs := by
    intro q
    constructor
    · rintro ⟨j, hj, rfl⟩
      obtain ⟨i, hi, e⟩ := hy2.2.1 j (by omega)
      rw [e, rd_nat hi]
      exact List.getElem_mem hi
    · intro hq
      obtain ⟨i, hi, rfl⟩ := List.getElem_of_mem hq
      obtain ⟨j, hj, e⟩ := hy2.2.2 i hi
      exact ⟨j, by omega, by rw [← e, rd_nat hi]⟩
  obtain ⟨r2, hr2, hf2⟩ := impl_find l z ys hm (by omega) (by rw [hyl]; exact hy3) (fun j hj => hxpos _ ((hmem _).1 ⟨j, hj, rfl⟩)) ys.length 0 (by omega)
  have hcollect : ∀ d i (x9 : List Int), i + d = l.length → x9.length ≤ 1 + i → told l t x9 i d = xs → Ev (fun k => impl_ClearFrom.l0 k l z t x9 l (l.length : Int) (i : Int)) r2 := by
    intro d
    induction d with
    | zero =>
      intro i x9 hi hx e
      simp only [told] at e
      subst e
      refine Ev.dn ?_
      simp only [impl_ClearFrom.l0, if_neg (show ¬ (i : Int) < (l.length : Int) by omega)]
      exact Ev.bind hy1 hr2
    | succ d ih =>
      intro i x9 hi hx e
      simp only [told] at e
      have ht := mvB_time (hb i (by omega))
      have hw : wrap64 ((rd_T42 l (i : Int)).f0 + 30000) = (rd_T42 l (i : Int)).f0 + 30000 := wrap_id (by omega) (by omega)
      have hs := ih (i + 1) _ (by omega) (by split <;> (try simp) <;> omega) e
      refine Ev.dn ?_
      refine Ev.eq' hs (fun k => ?_)
      simp only [impl_ClearFrom.l0]
      rw [if_pos (show (i : Int) < (l.length : Int) by omega), if_pos (show (0 : Int) ≤ (i : Int) by omega), if_pos (show (i : Int) < (l.length : Int) by omega), hw, wrap_succ (show i < l.length by omega) (show l.length ≤ 9223372036854775807 by omega)]
      by_cases c : (rd_T42 l (i : Int)).f0 + 30000 > t
      · rw [if_pos c, if_pos (show x9.length < 17592186044416 by omega), if_pos c]
      · rw [if_neg c, if_neg c]
  have himpl : Ev (fun k => impl_ClearFrom.l0 k l z t ([t] : List Int) l (l.length : Int) 0) r2 := hcollect l.length 0 [t] (by omega) (by simp) ex.symm
  cases hc : clr l z t with
  | true =>
    have e2 : r2 = (t, 0) := by
      have ht : inRow ys 0 t := by
        obtain ⟨j, hj, e⟩ := (hmem t).2 (by rw [ex, told_mem]; exact Or.inl (by simp))
        exact ⟨j, by omega, hj, e, h1⟩
      have hmin : ∀ q, inRow ys 0 q → t ≤ q := by
        intro q ⟨j, _, hj, e, _⟩
        have := (hmem q).1 ⟨j, hj, e⟩
        rw [ex, told_mem] at this
        rcases this with hq | ⟨i, a1, a2, a3, a4⟩
        · have : q = t := by simpa using hq
          omega
        · omega
      rcases hf2 with ⟨s, s1, s2, s3, s4⟩ | ⟨s1, _⟩
      · have a := s3 t ht hc
        have b := hmin s s1
        rw [s4, show s = t by omega]
      · have := s1 t ht
        rw [hc] at this
        exact absurd this (by decide)
    refine ⟨(t, 0), ?_, ?_⟩
    · refine Ev.bind (spec_l20Code_ev l z t hn hz hs) ?_
      simp only [if_pos h]
      refine Ev.bind (spec_l20Clear_ev l z t hm h0 h1) ?_
      simp only [hc, if_true]
      exact Ev.now _
    · refine Ev.bind (impl_zoneAsked_ev l z t hn hz hs) ?_
      simp only [if_pos h]
      rw [← e2]
      exact himpl
  | false =>
    obtain ⟨r1, hr1, hf1⟩ := spec_find l z t hm h0 l.length 0 (by omega)
    have e12 : r1 = r2 := by
      refine firstOf_eq hf1 hf2 (fun q hq => ?_) (fun q hq hcq => ?_)
      · obtain ⟨j, a1, a2, a3, a4, a5, a6⟩ := hq
        obtain ⟨i, hi, e⟩ := (hmem q).2 (by rw [ex, told_mem]; exact Or.inr ⟨j, by omega, by omega, by omega, a6⟩)
        exact ⟨i, by omega, hi, e, by omega⟩
      · obtain ⟨j, _, hj, e, hle⟩ := hq
        have hx := (hmem q).1 ⟨j, hj, e⟩
        rw [ex, told_mem] at hx
        rcases hx with hx | ⟨i, a1, a2, a3, a4⟩
        · have : q = t := by simpa using hx
          rw [this, hc] at hcq
          exact absurd hcq (by decide)
        · obtain ⟨p, p1, p2, p3, p4, p5⟩ := clr_first hb (show t < q by omega) hc hcq
          exact ⟨_, ⟨p, by omega, p1, p2, p3, by omega, rfl⟩, p5, p4⟩
    refine ⟨r2, ?_, ?_⟩
    · refine Ev.bind (spec_l20Code_ev l z t hn hz hs) ?_
      simp only [if_pos h]
      refine Ev.bind (spec_l20Clear_ev l z t hm h0 h1) ?_
      simp only [hc, Bool.false_eq_true, if_false]
      rw [← e12]
      exact hr1
    · refine Ev.bind (impl_zoneAsked_ev l z t hn hz hs) ?_
      simp only [if_pos h]
      exact himpl
theorem FnExactClearFrom : ∀ (l0 : List S38) (a1 : ByteArray) (a2 : Int), (l0.length ≤ reachBytes ∧ ∀ y ∈ l0, ((Lit.int .i64 y.f0).wf = true ∧ y.f1.size ≤ reachBytes ∧ (Lit.int .i64 y.f2).wf = true)) → a1.size ≤ reachBytes → (Lit.int .i64 a2).wf = true → ∃ k, laws_FnExactClearFrom.f k l0 a1 a2 = some true := by
  intro l0 a1 a2 ⟨hm, hy⟩ hs hw
  unfold reachBytes at hm hy hs
  apply Ev.rounds
  unfold laws_FnExactClearFrom.f
  have hz : ∀ y ∈ l0, y.f1.size ≤ 9223372036854775807 := fun y h => Nat.le_trans (hy y h).2.1 (by decide)
  rw [wrap_id (by omega) (by omega)]
  obtain ⟨r, hr, hr2⟩ := szMoveS_some l0 (by omega) hz (1000000 - (a1.size : Int)) (by omega) (by omega)
  refine Ev.bind hr ?_
  by_cases h : r < 0
  · simp only [if_pos h]
    exact Ev.now _
  · obtain ⟨hl, _, _⟩ := hr2 h
    simp only [if_neg h, toMoveS_some _ l0 _ hl, Option.bind_some]
    have hc : (l0.map laws_toMoveS.conv).length ≤ 1000000 := by simpa using hl
    have hso := conv_szOk l0 hz
    generalize hcc : l0.map laws_toMoveS.conv = c at hc hso
    obtain ⟨q, h1, h2⟩ := ClearFrom_both c a1 a2 hc hso (by omega)
    refine Ev.bind h1 (Ev.bind h2 ?_)
    simp only [if_true, bne_self_eq_false]
    refine Ev.dn ?_
    simp only [laws_FnExactClearFrom.j0, Bool.false_eq_true, if_false, toMoveS_some _ l0 _ hl, Option.bind_some, hcc]
    refine Ev.bind (intactMoveS_refl c hc) ?_
    simp only [if_true]
    refine Ev.bind h2 ?_
    simp only [if_true]
    exact Ev.now _
end Go.Proofs.Ytllhghcepbkpeaa.Pure
