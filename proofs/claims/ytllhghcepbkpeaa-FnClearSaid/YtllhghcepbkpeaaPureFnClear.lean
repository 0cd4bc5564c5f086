/- The law FnClear as a statement over numbers and lists, proved; no condition but the sizes and ranges that every input has. -/
import Derived.Test.YtllhghcepbkpeaaF28
import Derived.Test.YtllhghcepbkpeaaEv
namespace Go.Proofs.Ytllhghcepbkpeaa.Pure
open Go.RowKit Go.Proofs.Ytllhghcepbkpeaa.Pall Go.Proofs.YtllhghcepbkpeaaW.PrintWords
set_option linter.unusedSimpArgs false
set_option linter.unusedVariables false
def wdB (s : ByteArray) (j : Nat) : Bool := !decide (bt s (j : Int) < 97) && !decide (bt s (j : Int) > 122)
def isWd (s : ByteArray) : Bool := allD (wdB s) 0 s.size && (decide (1 ≤ s.size) && decide (s.size ≤ 16))
theorem spec_IsWord_ev (s : ByteArray) (hn : s.size ≤ 9223372036854775807) : Ev (fun k => spec_IsWord.f k s) (isWd s) := by
  have h := Ev.allLoop (l := fun k i => spec_IsWord.l0 k s i) (n := s.size) (wdB s) false (decide (1 ≤ s.size) && decide (s.size ≤ 16))
    (fun i hi => Evt.all fun k => by
      simp only [spec_IsWord.l0]
      rw [if_pos (by omega), if_pos (by omega), wrap_succ hi hn]
      by_cases h1 : bt s (i : Int) < 97 <;> by_cases h2 : bt s (i : Int) > 122 <;> simp [wdB, h1, h2])
    (Evt.all fun k => by
      simp only [spec_IsWord.l0, spec_l01In.f]
      rw [if_neg (by omega)]
      by_cases h1 : 1 ≤ s.size
      · have e2 : decide (s.size ≤ 16) = decide ((s.size : Int) ≤ 16) := decide_eq_decide.2 (by omega)
        rw [if_pos (by omega), Option.bind_some, e2, decide_eq_true h1, Bool.true_and]
      · rw [if_neg (by omega), Option.bind_some, decide_eq_false h1, Bool.false_and]) s.size 0 (by omega)
  refine h.eq ?_
  unfold isWd
  cases allD (wdB s) 0 s.size <;> simp
theorem impl_IsWord_ev (s : ByteArray) (hn : s.size ≤ 9223372036854775807) : Ev (fun k => impl_IsWord.f k s) (isWd s) := by
  have hb : Ev (fun k => impl_IsWord.j0 k s true) false := Ev.dn (by simp only [impl_IsWord.j0]; exact Ev.now _)
  unfold impl_IsWord.f isWd
  by_cases h1 : (s.size : Int) < 1
  · simp only [if_pos h1]
    refine hb.eq ?_
    rw [decide_eq_false (show ¬ 1 ≤ s.size by omega)]
    simp
  simp only [if_neg h1]
  rw [decide_eq_true (show 1 ≤ s.size by omega)]
  by_cases h2 : s.size ≤ 16
  · rw [decide_eq_false (show ¬ (s.size : Int) > 16 by omega), decide_eq_true h2]
    refine Ev.dn ?_
    simp only [impl_IsWord.j0, Bool.false_eq_true, if_false]
    have h := Ev.allLoop (l := fun k i => impl_IsWord.l0 k s i) (n := s.size) (wdB s) false true
      (fun i hi => Evt.all fun k => by
        simp only [impl_IsWord.l0]
        rw [if_pos (by omega), if_pos (by omega), wrap_succ hi hn]
        by_cases h1 : bt s (i : Int) < 97 <;> by_cases h2 : bt s (i : Int) > 122 <;> simp [wdB, h1, h2])
      (Evt.all fun k => by
        simp only [impl_IsWord.l0]
        rw [if_neg (by omega)]) s.size 0 (by omega)
    refine h.eq ?_
    cases allD (wdB s) 0 s.size <;> simp
  · rw [decide_eq_true (show (s.size : Int) > 16 by omega), decide_eq_false h2]
    refine hb.eq (by simp)
theorem rdOf_size (l : List ByteArray) (hz : ∀ y ∈ l, y.size ≤ 9223372036854775807) (i : Nat) (hi : i < l.length) : (rdOf ByteArray.empty l (i : Int)).size ≤ 9223372036854775807 := by
  rw [rdOf_nat hi]
  exact hz _ (List.getElem_mem hi)
theorem rd_T42_nat {l : List S42} {i : Nat} (h : i < l.length) : rd_T42 l (i : Int) = l[i] := by simp [rd_T42, h]
/-- The people of a zone behind the first n moves. -/
def ppl (l : List S42) (z : ByteArray) : Nat → Int
  | 0 => 0
  | n + 1 => if (rd_T42 l (n : Int)).f1.toList = z.toList then ppl l z n + (rd_T42 l (n : Int)).f2 else ppl l z n
/-- The same, of the moves up to a time. -/
def pplT (l : List S42) (z : ByteArray) (t : Int) : Nat → Int
  | 0 => 0
  | n + 1 => if (rd_T42 l (n : Int)).f1.toList = z.toList ∧ (rd_T42 l (n : Int)).f0 ≤ t then pplT l z t n + (rd_T42 l (n : Int)).f2 else pplT l z t n
def chg (l : List S42) (n : Nat) : Prop := ∀ j, j < n → -1000 ≤ (rd_T42 l (j : Int)).f2 ∧ (rd_T42 l (j : Int)).f2 ≤ 1000
theorem ppl_bd (l : List S42) (z : ByteArray) : ∀ n, chg l n → -(1000 * (n : Int)) ≤ ppl l z n ∧ ppl l z n ≤ 1000 * (n : Int)
  | 0, _ => by simp [ppl]
  | n + 1, h => by
    have ih := ppl_bd l z n (fun j hj => h j (by omega))
    have := h n (by omega)
    simp only [ppl]
    split <;> omega
theorem pplT_bd (l : List S42) (z : ByteArray) (t : Int) : ∀ n, chg l n → -(1000 * (n : Int)) ≤ pplT l z t n ∧ pplT l z t n ≤ 1000 * (n : Int)
  | 0, _ => by simp [pplT]
  | n + 1, h => by
    have ih := pplT_bd l z t n (fun j hj => h j (by omega))
    have := h n (by omega)
    simp only [pplT]
    split <;> omega
theorem pplT_ppl (l : List S42) (z : ByteArray) (t : Int) : ∀ n : Nat, (∀ j, j < n → (rd_T42 l (j : Int)).f0 ≤ t) → pplT l z t n = ppl l z n
  | 0, _ => rfl
  | n + 1, h => by
    have := h n (by omega)
    simp only [pplT, ppl, this, and_true]
    rw [pplT_ppl l z t n (fun j hj => h j (by omega))]
theorem pplT_stop (l : List S42) (z : ByteArray) (t : Int) (m : Nat) : ∀ n, m ≤ n → (∀ j, m ≤ j → j < n → ¬ (rd_T42 l (j : Int)).f0 ≤ t) → pplT l z t n = pplT l z t m
  | 0, h, _ => by obtain rfl : m = 0 := by omega
                  rfl
  | n + 1, h, hj => by
    by_cases e : m = n + 1
    · rw [e]
    · have := hj n (by omega) (by omega)
      simp only [pplT, this, and_false, if_false]
      exact pplT_stop l z t m n (by omega) (fun j h1 h2 => hj j h1 (by omega))
theorem rd_take (l : List S42) (m j : Nat) (h : j < m) : rd_T42 (l.take m) (j : Int) = rd_T42 l (j : Int) := by
  simp [rd_T42, List.getElem?_take, h]
theorem ppl_take (l : List S42) (z : ByteArray) (t : Int) (m : Nat) : ∀ n, n ≤ m → pplT (l.take m) z t n = pplT l z t n
  | 0, _ => rfl
  | n + 1, h => by
    simp only [pplT]
    rw [rd_take l m n (by omega), ppl_take l z t m n (by omega)]
theorem spec_l20People_ev (l : List S42) (z : ByteArray) (n : Nat) (hn : n ≤ l.length) (hl : l.length ≤ 1000000) (hc : chg l n) : Ev (fun k => spec_l20People.f k l z (n : Int)) (ppl l z n) := by
  have key : ∀ d i, i + d = n → Ev (fun k => spec_l20People.l0 k l z (n : Int) (ppl l z i) (i : Int)) (ppl l z n) := by
    intro d
    induction d with
    | zero =>
      intro i hi
      obtain rfl : i = n := by omega
      refine Ev.dn ?_
      simp only [spec_l20People.l0, if_neg (show ¬ (i : Int) < (i : Int) by omega)]
      exact Ev.now _
    | succ d ih =>
      intro i hi
      have hb := ppl_bd l z i (fun j hj => hc j (by omega))
      have hci := hc i (by omega)
      have hs := ih (i + 1) (by omega)
      refine Ev.dn ?_
      simp only [spec_l20People.l0, if_pos (show (i : Int) < (n : Int) by omega), if_pos (show (0 : Int) ≤ (i : Int) by omega), if_pos (show (i : Int) < (l.length : Int) by omega), wrap_succ (show i < n by omega) (show n ≤ 9223372036854775807 by omega)]
      by_cases h1 : (rd_T42 l (i : Int)).f1.toList = z.toList
      · simp only [if_pos h1]
        rw [wrap_id (by omega) (by omega)]
        simpa only [ppl, if_pos h1] using hs
      · simp only [if_neg h1]
        simpa only [ppl, if_neg h1] using hs
  exact key n 0 (by omega)
theorem impl_peopleIn_ev (l : List S42) (z : ByteArray) (t : Int) (hl : l.length ≤ 1000000) (hc : chg l l.length) : Ev (fun k => impl_peopleIn.f k l z t) (pplT l z t l.length) := by
  have key : ∀ d i, i + d = l.length → Ev (fun k => impl_peopleIn.l0 k z t (pplT l z t i) l (l.length : Int) (i : Int)) (pplT l z t l.length) := by
    intro d
    induction d with
    | zero =>
      intro i hi
      obtain rfl : i = l.length := by omega
      refine Ev.dn ?_
      simp only [impl_peopleIn.l0, if_neg (show ¬ (l.length : Int) < (l.length : Int) by omega)]
      exact Ev.now _
    | succ d ih =>
      intro i hi
      have hb := pplT_bd l z t i (fun j hj => hc j (by omega))
      have hci := hc i (by omega)
      have hs := ih (i + 1) (by omega)
      refine Ev.dn ?_
      simp only [impl_peopleIn.l0, if_pos (show (i : Int) < (l.length : Int) by omega), if_pos (show (0 : Int) ≤ (i : Int) by omega), wrap_succ (show i < l.length by omega) (show l.length ≤ 9223372036854775807 by omega)]
      by_cases h1 : (rd_T42 l (i : Int)).f1.toList = z.toList
      · simp only [if_pos h1]
        by_cases h2 : (rd_T42 l (i : Int)).f0 ≤ t
        · simp only [if_pos h2]
          rw [wrap_id (by omega) (by omega)]
          simpa only [pplT, if_pos (And.intro h1 h2)] using hs
        · simp only [if_neg h2]
          simpa only [pplT, if_neg (fun h3 : _ ∧ _ => h2 h3.2)] using hs
      · simp only [if_neg h1]
        simpa only [pplT, if_neg (fun h3 : _ ∧ _ => h1 h3.1)] using hs
  exact key l.length 0 (by omega)
def mvB (l : List S42) (j : Nat) : Bool :=
  decide (0 ≤ (rd_T42 l (j : Int)).f0) && decide ((rd_T42 l (j : Int)).f0 ≤ 10000000) && isWd (rd_T42 l (j : Int)).f1 &&
    decide (-1000 ≤ (rd_T42 l (j : Int)).f2) && decide ((rd_T42 l (j : Int)).f2 ≤ 1000) && !decide ((rd_T42 l (j : Int)).f2 = 0) &&
    (decide (j = 0) || decide ((rd_T42 l ((j - 1 : Nat) : Int)).f0 ≤ (rd_T42 l (j : Int)).f0)) && !decide (ppl l (rd_T42 l (j : Int)).f1 (j + 1) < 0)
def areMv (l : List S42) : Bool := allD (mvB l) 0 l.length && decide (l.length ≤ 40)
theorem mvB_chg {l : List S42} {n : Nat} (h : ∀ j, j < n → mvB l j = true) : chg l n := by
  intro j hj
  have := h j hj
  unfold mvB at this
  simp only [Bool.and_eq_true, decide_eq_true_eq] at this
  omega
theorem mvB_sorted {l : List S42} {n : Nat} (h : ∀ j, j < n → mvB l j = true) : ∀ b a, a ≤ b → b < n → (rd_T42 l (a : Int)).f0 ≤ (rd_T42 l (b : Int)).f0
  | 0, a, h1, _ => by obtain rfl : a = 0 := by omega
                      exact Int.le_refl _
  | b + 1, a, h1, h2 => by
    by_cases e : a = b + 1
    · rw [e]
      exact Int.le_refl _
    · have ih := mvB_sorted h b a (by omega) (by omega)
      have hs := h (b + 1) h2
      unfold mvB at hs
      simp only [Bool.and_eq_true, Bool.or_eq_true, decide_eq_true_eq] at hs
      rcases hs.1.2 with h3 | h3
      · exact absurd h3 (by omega)
      · exact Int.le_trans ih h3
def szOk (l : List S42) : Prop := ∀ j, j < l.length → (rd_T42 l (j : Int)).f1.size ≤ 9223372036854775807
theorem spec_AreMoves_ev (l : List S42) (hn : l.length ≤ 1000000) (hz : szOk l) : Ev (fun k => spec_AreMoves.f k l) (areMv l) := by
  have h := Ev.allLoopP (l := fun k i => spec_AreMoves.l0 k l i) (n := l.length) (mvB l) false (decide (l.length ≤ 40))
    (fun i hi hp => by
      have hw := spec_IsWord_ev (rd_T42 l (i : Int)).f1 (hz i hi)
      by_cases hc : -1000 ≤ (rd_T42 l (i : Int)).f2 ∧ (rd_T42 l (i : Int)).f2 ≤ 1000
      · have hch : chg l (i + 1) := fun j hj => by
          by_cases e : j = i
          · rw [e]; exact hc
          · exact mvB_chg hp j (by omega)
        refine hw.evt2 (spec_l20People_ev l (rd_T42 l (i : Int)).f1 (i + 1) (by omega) hn hch) (fun k hk hk2 => ?_)
        simp only [spec_AreMoves.l0, spec_l01IsTime.f, spec_l01In.f]
        rw [if_pos (by omega), if_pos (by omega), wrap_succ hi (by omega), hk, hk2]
        generalize spec_AreMoves.l0 k l ((i + 1 : Nat) : Int) = R
        by_cases h0 : i = 0
        · have hz : (i = 0) = True := eq_true h0
          have hq : ¬ 0 < i := by omega
          clear h0
          by_cases h1 : 0 ≤ (rd_T42 l (i : Int)).f0 <;> by_cases h2 : (rd_T42 l (i : Int)).f0 ≤ 10000000 <;> cases h3 : isWd (rd_T42 l (i : Int)).f1 <;> by_cases h4 : (rd_T42 l (i : Int)).f2 = 0 <;> by_cases h5 : ppl l (rd_T42 l (i : Int)).f1 (i + 1) < 0 <;> simp [mvB, hz, hq, hc.1, hc.2, h1, h2, h3, h4, h5]
        · have hq : 0 < i := by omega
          rw [wrap_pred hi (by omega) (by omega)]
          have q1 : (0 : Int) ≤ ((i - 1 : Nat) : Int) := by omega
          have q2 : ((i - 1 : Nat) : Int) < (l.length : Int) := by omega
          by_cases h1 : 0 ≤ (rd_T42 l (i : Int)).f0 <;> by_cases h2 : (rd_T42 l (i : Int)).f0 ≤ 10000000 <;> cases h3 : isWd (rd_T42 l (i : Int)).f1 <;> by_cases h4 : (rd_T42 l (i : Int)).f2 = 0 <;> by_cases h5 : ppl l (rd_T42 l (i : Int)).f1 (i + 1) < 0 <;> by_cases h6 : (rd_T42 l ((i - 1 : Nat) : Int)).f0 ≤ (rd_T42 l (i : Int)).f0 <;> simp [mvB, h0, hq, q1, q2, hc.1, hc.2, h1, h2, h3, h4, h5, h6, Int.not_lt.2, Int.not_le.1] <;> (try omega)
      · refine hw.evt (fun k hk => ?_)
        simp only [spec_AreMoves.l0, spec_l01IsTime.f, spec_l01In.f]
        rw [if_pos (by omega), if_pos (by omega), hk]
        have hmv : mvB l i = false := by
          unfold mvB
          by_cases h7 : -1000 ≤ (rd_T42 l (i : Int)).f2
          · have h8 : ¬ (rd_T42 l (i : Int)).f2 ≤ 1000 := fun h9 => hc ⟨h7, h9⟩
            simp [h8]
          · simp [h7]
        rw [hmv]
        by_cases h1 : 0 ≤ (rd_T42 l (i : Int)).f0 <;> by_cases h2 : (rd_T42 l (i : Int)).f0 ≤ 10000000 <;> cases h3 : isWd (rd_T42 l (i : Int)).f1 <;> by_cases h7 : -1000 ≤ (rd_T42 l (i : Int)).f2 <;> by_cases h8 : (rd_T42 l (i : Int)).f2 ≤ 1000 <;> simp [h1, h2, h3, h7, h8]
        exact absurd ⟨h7, h8⟩ hc)
    (fun _ => Evt.all fun k => by
      simp only [spec_AreMoves.l0]
      rw [if_neg (by omega)]
      congr 1
      exact decide_eq_decide.2 (by omega)) l.length 0 (by omega) (fun j hj => by omega)
  refine h.eq ?_
  unfold areMv
  cases allD (mvB l) 0 l.length <;> simp
theorem impl_AreMoves_ev (l : List S42) (hn : l.length ≤ 1000000) (hz : szOk l) : Ev (fun k => impl_AreMoves.f k l) (areMv l) := by
  unfold impl_AreMoves.f
  by_cases hl : (l.length : Int) > 40
  · simp only [if_pos hl]
    refine (Ev.now false).eq ?_
    unfold areMv
    rw [decide_eq_false (by omega), Bool.and_false]
  simp only [if_neg hl]
  have h := Ev.allLoopQ (l := fun k i => impl_AreMoves.l0 k l l (l.length : Int) i) (n := l.length) (mvB l) false true
    (fun i hi hp => by
      have hw := impl_IsWord_ev (rd_T42 l (i : Int)).f1 (hz i hi)
      have hs1 := wrap_succ hi (show l.length ≤ 9223372036854775807 by omega)
      have hbad : Ev (fun k => impl_AreMoves.j1 k l (i : Int) l (l.length : Int) (i : Int) true (rd_T42 l (i : Int)).f0 (rd_T42 l (i : Int)).f1 (rd_T42 l (i : Int)).f2) false := Ev.dn (by simp only [impl_AreMoves.j1]; exact Ev.now _)
      have hgood : chg l (i + 1) → (∀ j, j < i + 1 → (rd_T42 l (j : Int)).f0 ≤ (rd_T42 l (i : Int)).f0) → ∀ r, (0 ≤ ppl l (rd_T42 l (i : Int)).f1 (i + 1) → Ev (fun k => impl_AreMoves.l0 k l l (l.length : Int) ((i + 1 : Nat) : Int)) r) → (ppl l (rd_T42 l (i : Int)).f1 (i + 1) < 0 → r = false) →
          Ev (fun k => impl_AreMoves.j1 k l (i : Int) l (l.length : Int) (i : Int) false (rd_T42 l (i : Int)).f0 (rd_T42 l (i : Int)).f1 (rd_T42 l (i : Int)).f2) r := by
        intro hch hts r hr hr2
        refine Ev.dn ?_
        simp only [impl_AreMoves.j1, hs1, Bool.false_eq_true, if_false, if_pos (show (0 : Int) ≤ ((i + 1 : Nat) : Int) by omega), if_pos (show ((i + 1 : Nat) : Int) ≤ (l.length : Int) by omega), Int.toNat_natCast]
        have hlt : (l.take (i + 1)).length = i + 1 := by rw [List.length_take]; omega
        have hpe := impl_peopleIn_ev (l.take (i + 1)) (rd_T42 l (i : Int)).f1 (rd_T42 l (i : Int)).f0 (by omega) (fun j hj => by rw [rd_take l (i + 1) j (by omega)]; exact hch j (by omega))
        rw [hlt, ppl_take _ _ _ _ _ (Nat.le_refl _), pplT_ppl _ _ _ _ hts] at hpe
        refine Ev.bind hpe ?_
        by_cases h9 : ppl l (rd_T42 l (i : Int)).f1 (i + 1) < 0
        · simp only [if_pos h9]
          rw [hr2 h9]
          exact Ev.now _
        · simp only [if_neg h9]
          exact hr (by omega)
      have hmain : ∀ r, (mvB l i = true → Ev (fun k => impl_AreMoves.l0 k l l (l.length : Int) ((i + 1 : Nat) : Int)) r) → (mvB l i = false → r = false) → Ev (fun k => impl_AreMoves.l0 k l l (l.length : Int) (i : Int)) r := by
        intro r hr hr2
        refine Ev.dn ?_
        simp only [impl_AreMoves.l0, impl_isTime.f, impl_within.f, if_pos (show (i : Int) < (l.length : Int) by omega), if_pos (show (0 : Int) ≤ (i : Int) by omega)]
        by_cases h1 : 0 ≤ (rd_T42 l (i : Int)).f0
        case neg =>
          simp only [if_neg h1, Option.bind_some, Bool.false_eq_true, if_false]
          exact hbad.eq (hr2 (by simp [mvB, h1])).symm
        simp only [if_pos h1, Option.bind_some]
        by_cases h2 : (rd_T42 l (i : Int)).f0 ≤ 10000000
        case neg =>
          simp only [decide_eq_false h2, Bool.false_eq_true, if_false]
          exact hbad.eq (hr2 (by simp [mvB, h2])).symm
        simp only [decide_eq_true h2, if_true]
        refine Ev.bind hw ?_
        cases h3 : isWd (rd_T42 l (i : Int)).f1 with
        | false =>
          simp only [Bool.false_eq_true, if_false]
          exact hbad.eq (hr2 (by simp [mvB, h3])).symm
        | true =>
        simp only [if_true]
        by_cases h4 : -1000 ≤ (rd_T42 l (i : Int)).f2
        case neg =>
          simp only [if_neg h4, Option.bind_some, Bool.false_eq_true, if_false]
          exact hbad.eq (hr2 (by simp [mvB, h4])).symm
        simp only [if_pos h4, Option.bind_some]
        by_cases h5 : (rd_T42 l (i : Int)).f2 ≤ 1000
        case neg =>
          simp only [decide_eq_false h5, Bool.false_eq_true, if_false]
          exact hbad.eq (hr2 (by simp [mvB, h5])).symm
        simp only [decide_eq_true h5, if_true]
        by_cases h6 : (rd_T42 l (i : Int)).f2 = 0
        case pos =>
          simp only [if_pos h6]
          exact hbad.eq (hr2 (by simp [mvB, h6])).symm
        simp only [if_neg h6]
        have hch : chg l (i + 1) := fun j hj => by
          by_cases e : j = i
          · rw [e]; exact ⟨h4, h5⟩
          · exact mvB_chg hp j (by omega)
        by_cases h0 : i = 0
        · have hz0 : (i = 0) = True := eq_true h0
          simp only [if_neg (show ¬ (i : Int) > 0 by omega)]
          refine hgood hch (fun j hj => by rw [show j = i by omega]; exact Int.le_refl _) r (fun h9 => hr ?_) (fun h9 => hr2 ?_)
          · simp [mvB, hz0, h1, h2, h3, h4, h5, h6, h9]
          · simp [mvB, h9]
        · simp only [if_pos (show (i : Int) > 0 by omega), wrap_pred hi (show 0 < i by omega) (show l.length ≤ 9223372036854775807 by omega), if_pos (show (0 : Int) ≤ ((i - 1 : Nat) : Int) by omega), if_pos (show ((i - 1 : Nat) : Int) < (l.length : Int) by omega)]
          by_cases h7 : (rd_T42 l ((i - 1 : Nat) : Int)).f0 ≤ (rd_T42 l (i : Int)).f0
          · rw [decide_eq_false (show ¬ (rd_T42 l ((i - 1 : Nat) : Int)).f0 > (rd_T42 l (i : Int)).f0 by omega)]
            refine hgood hch (fun j hj => ?_) r (fun h9 => hr ?_) (fun h9 => hr2 ?_)
            · by_cases e : j = i
              · rw [e]; exact Int.le_refl _
              · exact Int.le_trans (mvB_sorted hp (i - 1) j (by omega) (by omega)) h7
            · simp [mvB, h1, h2, h3, h4, h5, h6, h7, h9]
            · simp [mvB, h9]
          · rw [decide_eq_true (show (rd_T42 l ((i - 1 : Nat) : Int)).f0 > (rd_T42 l (i : Int)).f0 by omega)]
            exact hbad.eq (hr2 (by simp [mvB, h0, h7])).symm
      exact ⟨fun hs r hr => hmain r (fun _ => hr) (fun h => by rw [hs] at h; exact absurd h (by decide)), fun hs => hmain false (fun h => by rw [hs] at h; exact absurd h (by decide)) (fun _ => rfl)⟩)
    (fun _ => Ev.dn (by
      simp only [impl_AreMoves.l0, if_neg (show ¬ (l.length : Int) < (l.length : Int) by omega)]
      exact Ev.now _)) l.length 0 (by omega) (fun j hj => by omega)
  refine h.eq ?_
  unfold areMv
  rw [decide_eq_true (by omega : l.length ≤ 40), Bool.and_true]
  cases allD (mvB l) 0 l.length <;> simp
theorem areMv_ok {l : List S42} (h : areMv l = true) : (∀ j, j < l.length → mvB l j = true) ∧ l.length ≤ 40 := by
  unfold areMv at h
  simp only [Bool.and_eq_true, decide_eq_true_eq] at h
  exact ⟨fun j hj => (allD_iff _ _ _).1 h.1 j (by omega) (by omega), h.2⟩
theorem mvB_time {l : List S42} {j : Nat} (h : mvB l j = true) : 0 ≤ (rd_T42 l (j : Int)).f0 ∧ (rd_T42 l (j : Int)).f0 ≤ 10000000 := by
  unfold mvB at h
  simp only [Bool.and_eq_true, decide_eq_true_eq] at h
  omega
/-- What the question's code is. -/
def cdZ (l : List S42) (z : ByteArray) (t : Int) : Int := if areMv l = true ∧ isWd z = true then (if 0 ≤ t ∧ t ≤ 10000000 then 0 else 2) else 1
theorem cdZ_zero {l : List S42} {z : ByteArray} {t : Int} (h : cdZ l z t = 0) : areMv l = true ∧ 0 ≤ t ∧ t ≤ 10000000 := by
  unfold cdZ at h
  by_cases h1 : areMv l = true ∧ isWd z = true
  · by_cases h2 : 0 ≤ t ∧ t ≤ 10000000
    · exact ⟨h1.1, h2⟩
    · simp [h1, h2] at h
  · rw [if_neg h1] at h
    exact absurd h (by decide)
theorem spec_l20Code_ev (l : List S42) (z : ByteArray) (t : Int) (hn : l.length ≤ 1000000) (hz : szOk l) (hs : z.size ≤ 9223372036854775807) : Ev (fun k => spec_l20Code.f k l z t) (cdZ l z t) := by
  unfold spec_l20Code.f cdZ
  refine Ev.bind (spec_AreMoves_ev l hn hz) ?_
  have hb : Ev (fun k => spec_l20Code.j0 k t true) 1 := Ev.dn (by simp only [spec_l20Code.j0]; exact Ev.now _)
  cases h1 : areMv l with
  | false =>
    simp only [Bool.false_eq_true, if_false, false_and]
    exact hb
  | true =>
    simp only [if_true, true_and]
    refine Ev.bind (spec_IsWord_ev z hs) ?_
    cases h2 : isWd z with
    | false =>
      simp only [Bool.not_false, Bool.false_eq_true, if_false]
      exact hb
    | true =>
      simp only [Bool.not_true, if_true]
      refine Ev.dn ?_
      simp only [spec_l20Code.j0, spec_l01IsTime.f, spec_l01In.f, Bool.false_eq_true, if_false]
      by_cases h3 : 0 ≤ t <;> by_cases h4 : t ≤ 10000000 <;> simp only [ge_iff_le, h3, h4, if_true, if_false, Option.bind_some, decide_true, decide_false, Bool.false_eq_true, and_self, and_true, and_false, false_and, true_and] <;> exact Ev.now _
theorem impl_zoneAsked_ev (l : List S42) (z : ByteArray) (t : Int) (hn : l.length ≤ 1000000) (hz : szOk l) (hs : z.size ≤ 9223372036854775807) : Ev (fun k => impl_zoneAsked.f k l z t) (cdZ l z t) := by
  unfold impl_zoneAsked.f cdZ
  refine Ev.bind (impl_AreMoves_ev l hn hz) ?_
  have hb : Ev (fun k => impl_zoneAsked.j0 k t true) 1 := Ev.dn (by simp only [impl_zoneAsked.j0]; exact Ev.now _)
  cases h1 : areMv l with
  | false =>
    simp only [Bool.false_eq_true, if_false, false_and]
    exact hb
  | true =>
    simp only [if_true, true_and]
    refine Ev.bind (impl_IsWord_ev z hs) ?_
    cases h2 : isWd z with
    | false =>
      simp only [Bool.not_false, Bool.false_eq_true, if_false]
      exact hb
    | true =>
      simp only [Bool.not_true, if_true]
      refine Ev.dn ?_
      simp only [impl_zoneAsked.j0, impl_isTime.f, impl_within.f, Bool.false_eq_true, if_false]
      by_cases h3 : 0 ≤ t <;> by_cases h4 : t ≤ 10000000 <;> simp only [h3, h4, if_true, if_false, Option.bind_some, decide_true, decide_false, Bool.false_eq_true, and_self, and_true, and_false, false_and, true_and] <;> exact Ev.now _
/-- How many moves lead the row that are not after t. -/
def upto (l : List S42) (t : Int) : Nat → Nat → Nat
  | i, 0 => i
  | i, d + 1 => if (rd_T42 l (i : Int)).f0 ≤ t then upto l t (i + 1) d else i
theorem upto_spec (l : List S42) (t : Int) : ∀ d i, i ≤ upto l t i d ∧ upto l t i d ≤ i + d ∧ (∀ j, i ≤ j → j < upto l t i d → (rd_T42 l (j : Int)).f0 ≤ t) ∧ (upto l t i d < i + d → ¬ (rd_T42 l ((upto l t i d : Nat) : Int)).f0 ≤ t)
  | 0, i => ⟨Nat.le_refl _, Nat.le_refl _, fun j h1 h2 => absurd h2 (by simp only [upto]; omega), fun h => absurd h (by simp only [upto]; omega)⟩
  | d + 1, i => by
    by_cases h : (rd_T42 l (i : Int)).f0 ≤ t
    · obtain ⟨h1, h2, h3, h4⟩ := upto_spec l t d (i + 1)
      simp only [upto, if_pos h]
      refine ⟨by omega, by omega, fun j hj hj2 => ?_, fun hh => h4 (by omega)⟩
      by_cases e : j = i
      · rw [e]; exact h
      · exact h3 j (by omega) hj2
    · simp only [upto, if_neg h]
      exact ⟨Nat.le_refl _, by omega, fun j h1 h2 => by omega, fun _ => h⟩
theorem spec_l20Upto_ev (l : List S42) (t : Int) (hn : l.length ≤ 1000000) : Ev (fun k => spec_l20Upto.f k l t) ((upto l t 0 l.length : Nat) : Int) := by
  have key : ∀ d i, i + d = l.length → Ev (fun k => spec_l20Upto.l0 k l t (i : Int)) ((upto l t i d : Nat) : Int) := by
    intro d
    induction d with
    | zero =>
      intro i hi
      refine Ev.dn ?_
      simp only [spec_l20Upto.l0, if_neg (show ¬ (i : Int) < (l.length : Int) by omega), upto]
      exact Ev.now _
    | succ d ih =>
      intro i hi
      have := ih (i + 1) (by omega)
      refine Ev.dn ?_
      simp only [spec_l20Upto.l0, if_pos (show (i : Int) < (l.length : Int) by omega), if_pos (show (0 : Int) ≤ (i : Int) by omega), wrap_succ (show i < l.length by omega) (show l.length ≤ 9223372036854775807 by omega), upto]
      by_cases h : (rd_T42 l (i : Int)).f0 ≤ t
      · simp only [if_pos h]; exact this
      · simp only [if_neg h]; exact Ev.now _
  exact key l.length 0 (by omega)
theorem ppl_upto {l : List S42} (z : ByteArray) (t : Int) (hm : ∀ j, j < l.length → mvB l j = true) : ppl l z (upto l t 0 l.length) = pplT l z t l.length := by
  obtain ⟨h1, h2, h3, h4⟩ := upto_spec l t l.length 0
  rw [← pplT_ppl l z t _ (fun j hj => h3 j (by omega) hj), pplT_stop l z t (upto l t 0 l.length) l.length (by omega) (fun j hj hj2 hh => ?_)]
  exact h4 (by omega) (Int.le_trans (mvB_sorted hm j (upto l t 0 l.length) hj hj2) hh)
/-- Does the move j leave the zone clear at t? -/
def clB (l : List S42) (z : ByteArray) (t : Int) (j : Nat) : Bool :=
  !(decide ((rd_T42 l (j : Int)).f1.toList = z.toList) && decide ((rd_T42 l (j : Int)).f0 ≤ t) && decide (t - (rd_T42 l (j : Int)).f0 < 30000))
def clr (l : List S42) (z : ByteArray) (t : Int) : Bool := allD (clB l z t) 0 l.length && (pplT l z t l.length == 0)
theorem impl_isClear_ev (l : List S42) (z : ByteArray) (t : Int) (hm : areMv l = true) (h0 : 0 ≤ t) (h1 : t ≤ 10000000) : Ev (fun k => impl_isClear.f k l z t) (clr l z t) := by
  obtain ⟨hb, hn⟩ := areMv_ok hm
  have h := Ev.allLoop (l := fun k i => impl_isClear.l0 k l z t l (l.length : Int) i) (n := l.length) (clB l z t) false (pplT l z t l.length == 0)
    (fun i hi => Evt.all fun k => by
      have ht := mvB_time (hb i hi)
      simp only [impl_isClear.l0]
      rw [if_pos (by omega), if_pos (by omega), if_pos (by omega), wrap_succ hi (by omega), wrap_id (by omega) (by omega)]
      by_cases g1 : (rd_T42 l (i : Int)).f1.toList = z.toList <;> by_cases g2 : (rd_T42 l (i : Int)).f0 ≤ t <;> by_cases g3 : t - (rd_T42 l (i : Int)).f0 < 30000 <;> simp [clB, g1, g2, g3])
    ((impl_peopleIn_ev l z t (by omega) (mvB_chg hb)).evt fun k hk => by
      simp only [impl_isClear.l0]
      rw [if_neg (by omega), hk, Option.bind_some]) l.length 0 (by omega)
  refine h.eq ?_
  unfold clr
  cases allD (clB l z t) 0 l.length <;> simp
theorem spec_l20Clear_ev (l : List S42) (z : ByteArray) (t : Int) (hm : areMv l = true) (h0 : 0 ≤ t) (h1 : t ≤ 10000000) : Ev (fun k => spec_l20Clear.f k l z t) (clr l z t) := by
  obtain ⟨hb, hn⟩ := areMv_ok hm
  obtain ⟨u1, u2, u3, u4⟩ := upto_spec l t l.length 0
  have hp := ppl_upto z t hb
  unfold spec_l20Clear.f
  refine Ev.bind (spec_l20Upto_ev l t (by omega)) ?_
  have h := Ev.allLoop (l := fun k i => spec_l20Clear.l0 k l z t ((upto l t 0 l.length : Nat) : Int) i) (n := upto l t 0 l.length) (clB l z t) false (pplT l z t l.length == 0)
    (fun i hi => Evt.all fun k => by
      have ht := mvB_time (hb i (by omega))
      have hu := u3 i (by omega) hi
      simp only [spec_l20Clear.l0]
      rw [if_pos (by omega), if_pos (by omega), if_pos (by omega), wrap_succ hi (by omega), wrap_id (by omega) (by omega)]
      by_cases g1 : (rd_T42 l (i : Int)).f1.toList = z.toList
      · by_cases g3 : t - (rd_T42 l (i : Int)).f0 < 30000
        · rw [if_pos g1, if_pos (by omega)]
          simp [clB, g1, hu, g3]
        · rw [if_pos g1, if_neg (by omega)]
          simp [clB, g1, hu, g3]
      · rw [if_neg g1]
        simp [clB, g1])
    ((spec_l20People_ev l z (upto l t 0 l.length) (by omega) (by omega) (fun j hj => mvB_chg hb j (by omega))).evt fun k hk => by
      simp only [spec_l20Clear.l0]
      rw [if_neg (by omega), hk, Option.bind_some, hp]) (upto l t 0 l.length) 0 (by omega)
  refine h.eq ?_
  have e : allD (clB l z t) 0 (upto l t 0 l.length) = allD (clB l z t) 0 l.length := by
    rw [Bool.eq_iff_iff, allD_iff, allD_iff]
    constructor
    · intro hh j hj hj2
      by_cases c : j < upto l t 0 l.length
      · exact hh j hj (by omega)
      · have : ¬ (rd_T42 l (j : Int)).f0 ≤ t := fun hle => u4 (by omega) (Int.le_trans (mvB_sorted hb j (upto l t 0 l.length) (by omega) (by omega)) hle)
        simp [clB, this]
    · exact fun hh j hj hj2 => hh j hj (by omega)
  rw [e]
  unfold clr
  cases allD (clB l z t) 0 l.length <;> simp
theorem rdi_set_self (l : List Int) (i : Nat) (v : Int) (h : i < l.length) : rd (l.set i v) (i : Int) = v := by
  simp [rd, h]
theorem rdi_set_ne (l : List Int) (i j : Nat) (v : Int) (h : i ≠ j) : rd (l.set i v) (j : Int) = rd l (j : Int) := by
  simp [rd, List.getElem?_set_ne h]
/-- The same values stand in both lists. -/
def sameVals (x y : List Int) : Prop := y.length = x.length ∧ (∀ j, j < x.length → ∃ i, i < x.length ∧ rd y (j : Int) = rd x (i : Int)) ∧ (∀ j, j < x.length → ∃ i, i < x.length ∧ rd x (j : Int) = rd y (i : Int))
theorem sameVals_refl (x : List Int) : sameVals x x := ⟨rfl, fun j hj => ⟨j, hj, rfl⟩, fun j hj => ⟨j, hj, rfl⟩⟩
theorem sameVals_trans {x y z : List Int} (h : sameVals x y) (g : sameVals y z) : sameVals x z := by
  obtain ⟨h1, h2, h3⟩ := h
  obtain ⟨g1, g2, g3⟩ := g
  refine ⟨by omega, fun j hj => ?_, fun j hj => ?_⟩
  · obtain ⟨i, hi, e⟩ := g2 j (by omega)
    obtain ⟨m, hm, e2⟩ := h2 i (by omega)
    exact ⟨m, hm, e.trans e2⟩
  · obtain ⟨i, hi, e⟩ := h3 j (by omega)
    obtain ⟨m, hm, e2⟩ := g3 i (by omega)
    exact ⟨m, by omega, e.trans e2⟩
def swp (x : List Int) (p : Nat) : List Int := (x.set p (rd x ((p - 1 : Nat) : Int))).set (p - 1) (rd x (p : Int))
theorem swp_len (x : List Int) (p : Nat) : (swp x p).length = x.length := by simp [swp]
theorem swp_lo (x : List Int) (p : Nat) (h0 : 0 < p) (h : p < x.length) : rd (swp x p) ((p - 1 : Nat) : Int) = rd x (p : Int) := by
  unfold swp
  exact rdi_set_self _ _ _ (by simp; omega)
theorem swp_hi (x : List Int) (p : Nat) (h0 : 0 < p) (h : p < x.length) : rd (swp x p) (p : Int) = rd x ((p - 1 : Nat) : Int) := by
  unfold swp
  rw [rdi_set_ne _ _ _ _ (by omega), rdi_set_self _ _ _ h]
theorem swp_ne (x : List Int) (p j : Nat) (h1 : j ≠ p) (h2 : j ≠ p - 1) : rd (swp x p) (j : Int) = rd x (j : Int) := by
  unfold swp
  rw [rdi_set_ne _ _ _ _ (by omega), rdi_set_ne _ _ _ _ (by omega)]
theorem swp_same (x : List Int) (p : Nat) (h0 : 0 < p) (h : p < x.length) : sameVals x (swp x p) := by
  refine ⟨swp_len x p, fun j hj => ?_, fun j hj => ?_⟩
  · by_cases e : j = p
    · exact ⟨p - 1, by omega, by rw [e]; exact swp_hi x p h0 h⟩
    · by_cases e2 : j = p - 1
      · exact ⟨p, h, by rw [e2]; exact swp_lo x p h0 h⟩
      · exact ⟨j, hj, swp_ne x p j e e2⟩
  · by_cases e : j = p
    · exact ⟨p - 1, by omega, by rw [e]; exact (swp_lo x p h0 h).symm⟩
    · by_cases e2 : j = p - 1
      · exact ⟨p, h, by rw [e2]; exact (swp_hi x p h0 h).symm⟩
      · exact ⟨j, hj, (swp_ne x p j e e2).symm⟩
/-- The first n are in order. -/
def ordN (x : List Int) (n : Nat) : Prop := ∀ b, b < n → ∀ a, a < b → rd x (a : Int) ≤ rd x (b : Int)
/-- The first n are in order but for what stands at p. -/
def ordBut (x : List Int) (n p : Nat) : Prop := ∀ b, b < n → b ≠ p → ∀ a, a < b → rd x (a : Int) ≤ rd x (b : Int)
theorem ordBut_step {x : List Int} {n p : Nat} (h0 : 0 < p) (hp : p < n) (hn : n ≤ x.length) (h : ordBut x n p) (hg : rd x (p : Int) < rd x ((p - 1 : Nat) : Int)) : ordBut (swp x p) n (p - 1) := by
  intro b hb hne a ha
  have hlo := swp_lo x p h0 (by omega)
  have hhi := swp_hi x p h0 (by omega)
  by_cases e : b = p
  · rw [e, hhi]
    by_cases e2 : a = p - 1
    · rw [e2, hlo]; omega
    · rw [swp_ne x p a (by omega) e2]
      exact h (p - 1) (by omega) (by omega) a (by omega)
  · rw [swp_ne x p b e hne]
    by_cases e2 : a = p - 1
    · rw [e2, hlo]
      exact h b hb e p (by omega)
    · by_cases e3 : a = p
      · rw [e3, hhi]
        exact h b hb e (p - 1) (by omega)
      · rw [swp_ne x p a e3 e2]
        exact h b hb e a ha
theorem ordBut_stop {x : List Int} {n p : Nat} (hp : p < n) (h : ordBut x n p) (hg : p = 0 ∨ rd x ((p - 1 : Nat) : Int) ≤ rd x (p : Int)) : ordN x n := by
  intro b hb a ha
  by_cases e : b = p
  · rcases hg with hg | hg
    · omega
    · rw [e]
      by_cases e2 : a = p - 1
      · rw [e2]; exact hg
      · exact Int.le_trans (h (p - 1) (by omega) (by omega) a (by omega)) hg
  · exact h b hb e a ha
theorem sorted_ev (x : List Int) (hx : x.length ≤ 1000000) : ∃ y, Ev (fun k => impl_sorted.f k x) y ∧ sameVals x y ∧ ordN y x.length := by
  have inner : ∀ p (z : List Int) (i : Nat), p ≤ i → i < z.length → z.length ≤ 1000000 → ordBut z (i + 1) p → ∃ y, sameVals z y ∧ ordN y (i + 1) ∧ ∀ r n, Ev (fun k => impl_sorted.l0 k y n ((i + 1 : Nat) : Int)) r → Ev (fun k => impl_sorted.l1 k z (p : Int) n (i : Int)) r := by
    intro p
    induction p with
    | zero =>
      intro z i hp hi hz h
      refine ⟨z, sameVals_refl z, ordBut_stop (by omega) h (Or.inl rfl), fun r n hr => Ev.dn ?_⟩
      simp only [impl_sorted.l1, if_neg (show ¬ ((0 : Nat) : Int) > 0 by decide), wrap_succ (show i < z.length by omega) (show z.length ≤ 9223372036854775807 by omega)]
      exact hr
    | succ p ih =>
      intro z i hp hi hz h
      have w1 : wrap64 (((p + 1 : Nat) : Int) - 1) = (p : Int) := by rw [wrap_id (by omega) (by omega)]; omega
      by_cases g : rd z (p : Int) > rd z ((p + 1 : Nat) : Int)
      · obtain ⟨y, hy1, hy2, hy3⟩ := ih (swp z (p + 1)) i (by omega) (by rw [swp_len]; omega) (by rw [swp_len]; omega) (by
          have := ordBut_step (x := z) (n := i + 1) (p := p + 1) (by omega) (by omega) (by omega) h (by simpa using g)
          simpa using this)
        refine ⟨y, sameVals_trans (swp_same z (p + 1) (by omega) (by omega)) hy1, hy2, fun r n hr => Ev.dn ?_⟩
        have e := hy3 r n hr
        simp only [impl_sorted.l1, if_pos (show ((p + 1 : Nat) : Int) > 0 by omega), w1, if_pos (show (0 : Int) ≤ (p : Int) by omega), if_pos (show (p : Int) < (z.length : Int) by omega), if_pos (show (0 : Int) ≤ ((p + 1 : Nat) : Int) by omega), if_pos (show ((p + 1 : Nat) : Int) < (z.length : Int) by omega), if_pos g, Int.toNat_natCast]
        simpa [swp] using e
      · refine ⟨z, sameVals_refl z, ordBut_stop (by omega) h (Or.inr (by simpa using Int.not_lt.1 g)), fun r n hr => Ev.dn ?_⟩
        simp only [impl_sorted.l1, if_pos (show ((p + 1 : Nat) : Int) > 0 by omega), w1, if_pos (show (0 : Int) ≤ (p : Int) by omega), if_pos (show (p : Int) < (z.length : Int) by omega), if_pos (show (0 : Int) ≤ ((p + 1 : Nat) : Int) by omega), if_pos (show ((p + 1 : Nat) : Int) < (z.length : Int) by omega), if_neg g, wrap_succ (show i < z.length by omega) (show z.length ≤ 9223372036854775807 by omega)]
        exact hr
  have outer : ∀ d i (z : List Int), i + d = x.length → z.length = x.length → ordN z i → ∃ y, Ev (fun k => impl_sorted.l0 k z (x.length : Int) (i : Int)) y ∧ sameVals z y ∧ ordN y x.length := by
    intro d
    induction d with
    | zero =>
      intro i z hi hz h
      obtain rfl : i = x.length := by omega
      refine ⟨z, Ev.dn ?_, sameVals_refl z, h⟩
      simp only [impl_sorted.l0, if_neg (show ¬ (x.length : Int) < (x.length : Int) by omega)]
      exact Ev.now _
    | succ d ih =>
      intro i z hi hz h
      obtain ⟨y, h1, h2, h3⟩ := inner i z i (Nat.le_refl _) (by omega) (by omega) (fun b hb hne a ha => h b (by omega) a ha)
      obtain ⟨q, q1, q2, q3⟩ := ih (i + 1) y (by omega) (by have := h1.1; omega) h2
      refine ⟨q, Ev.dn ?_, sameVals_trans h1 q2, q3⟩
      simp only [impl_sorted.l0, if_pos (show (i : Int) < (x.length : Int) by omega)]
      exact h3 _ _ q1
  obtain ⟨y, h1, h2, h3⟩ := outer x.length 0 x (by omega) rfl (fun b hb => by omega)
  refine ⟨y, ?_, h2, h3⟩
  unfold impl_sorted.f
  refine Ev.eq' h1 (fun k => ?_)
  have e : impl_copyList.f x = some x := by
    unfold impl_copyList.f
    rw [Option.bind_some, if_pos (by simp; omega)]
    rfl
  rw [e, Option.bind_some]
  rfl
/-- A row of moves that is not clear before, but clear later on, in a zone: some move of the zone with its wait lies between, and then it is clear, too. -/
theorem clr_first {l : List S42} {z : ByteArray} {t s : Int} (hb : ∀ j, j < l.length → mvB l j = true) (hts : t < s) (h1 : clr l z t = false) (h2 : clr l z s = true) :
    ∃ j, j < l.length ∧ (rd_T42 l (j : Int)).f1.toList = z.toList ∧ t < (rd_T42 l (j : Int)).f0 + 30000 ∧ (rd_T42 l (j : Int)).f0 + 30000 ≤ s ∧ clr l z ((rd_T42 l (j : Int)).f0 + 30000) = true := by
  have good : ∀ u, u ≤ s → (∀ j, j < l.length → (rd_T42 l (j : Int)).f1.toList = z.toList → (rd_T42 l (j : Int)).f0 ≤ s → (rd_T42 l (j : Int)).f0 + 30000 ≤ u) → clr l z u = true := by
    intro u hu hj
    unfold clr at h2 ⊢
    rw [Bool.and_eq_true] at h2 ⊢
    have hsame : ∀ n, n ≤ l.length → pplT l z u n = pplT l z s n := by
      intro n
      induction n with
      | zero => exact fun _ => rfl
      | succ n ih =>
        intro hn
        simp only [pplT]
        rw [ih (by omega)]
        by_cases c : (rd_T42 l (n : Int)).f1.toList = z.toList
        · by_cases d : (rd_T42 l (n : Int)).f0 ≤ s
          · have := hj n (by omega) c d
            rw [if_pos ⟨c, by omega⟩, if_pos ⟨c, d⟩]
          · rw [if_neg (fun q => d (Int.le_trans q.2 hu)), if_neg (fun q => d q.2)]
        · rw [if_neg (fun q => c q.1), if_neg (fun q => c q.1)]
    refine ⟨(allD_iff _ _ _).2 (fun j _ hjl => ?_), by rw [hsame _ (Nat.le_refl _)]; exact h2.2⟩
    unfold clB
    by_cases c : (rd_T42 l (j : Int)).f1.toList = z.toList
    · by_cases d : (rd_T42 l (j : Int)).f0 ≤ u
      · have := hj j (by omega) c (by omega)
        rw [decide_eq_false (show ¬ u - (rd_T42 l (j : Int)).f0 < 30000 by omega), Bool.and_false, Bool.not_false]
      · simp [d]
    · simp [c]
  have hs : ∀ j, j < l.length → (rd_T42 l (j : Int)).f1.toList = z.toList → (rd_T42 l (j : Int)).f0 ≤ s → (rd_T42 l (j : Int)).f0 + 30000 ≤ s := by
    intro j hj c d
    unfold clr at h2
    rw [Bool.and_eq_true] at h2
    have := (allD_iff _ _ _).1 h2.1 j (by omega) (by omega)
    unfold clB at this
    by_cases e : s - (rd_T42 l (j : Int)).f0 < 30000
    · simp [c, d, e] at this
    · omega
  -- the last move of the zone that is not behind s
  have last : ∀ n, n ≤ l.length → (∀ j, j < n → ¬ ((rd_T42 l (j : Int)).f1.toList = z.toList ∧ (rd_T42 l (j : Int)).f0 ≤ s)) ∨ ∃ j, j < n ∧ ((rd_T42 l (j : Int)).f1.toList = z.toList ∧ (rd_T42 l (j : Int)).f0 ≤ s) ∧ ∀ i, j < i → i < n → ¬ ((rd_T42 l (i : Int)).f1.toList = z.toList ∧ (rd_T42 l (i : Int)).f0 ≤ s) := by
    intro n
    induction n with
    | zero => exact fun _ => Or.inl (fun j hj => by omega)
    | succ n ih =>
      intro hn
      by_cases c : (rd_T42 l (n : Int)).f1.toList = z.toList ∧ (rd_T42 l (n : Int)).f0 ≤ s
      · exact Or.inr ⟨n, by omega, c, fun i h1 h2 => by omega⟩
      · rcases ih (by omega) with h | ⟨j, q1, q2, q3⟩
        · refine Or.inl (fun j hj => ?_)
          by_cases e : j = n
          · rw [e]; exact c
          · exact h j (by omega)
        · refine Or.inr ⟨j, by omega, q2, fun i h1 h2 => ?_⟩
          by_cases e : i = n
          · rw [e]; exact c
          · exact q3 i h1 (by omega)
  rcases last l.length (Nat.le_refl _) with h | ⟨j, q1, q2, q3⟩
  · have := good t (by omega) (fun j hj c d => absurd ⟨c, d⟩ (h j hj))
    rw [h1] at this
    exact absurd this (by decide)
  · have hle : ∀ i, i < l.length → (rd_T42 l (i : Int)).f1.toList = z.toList → (rd_T42 l (i : Int)).f0 ≤ s → (rd_T42 l (i : Int)).f0 ≤ (rd_T42 l (j : Int)).f0 := by
      intro i hi c d
      by_cases e : i ≤ j
      · exact mvB_sorted hb j i e q1
      · exact absurd ⟨c, d⟩ (q3 i (by omega) hi)
    refine ⟨j, q1, q2.1, ?_, hs j q1 q2.1 q2.2, good _ (hs j q1 q2.1 q2.2) (fun i hi c d => by have := hle i hi c d; omega)⟩
    by_cases e : t < (rd_T42 l (j : Int)).f0 + 30000
    · exact e
    · have := good t (by omega) (fun i hi c d => by have := hle i hi c d; omega)
      rw [h1] at this
      exact absurd this (by decide)
/-- What both find: the least time among those told that is clear, or none. -/
def firstOf (S : Int → Prop) (c : Int → Bool) (r : Int × Int) : Prop := (∃ s, S s ∧ c s = true ∧ (∀ q, S q → c q = true → s ≤ q) ∧ r = (s, 0)) ∨ ((∀ q, S q → c q = false) ∧ r = (0, 4))
theorem firstOf_eq {S S' : Int → Prop} {c : Int → Bool} {r r' : Int × Int} (h : firstOf S c r) (h' : firstOf S' c r') (hs : ∀ q, S q → S' q) (hs' : ∀ q, S' q → c q = true → ∃ p, S p ∧ c p = true ∧ p ≤ q) : r = r' := by
  rcases h with ⟨s, h1, h2, h3, rfl⟩ | ⟨h1, rfl⟩
  · rcases h' with ⟨s', g1, g2, g3, rfl⟩ | ⟨g1, rfl⟩
    · have a := g3 s (hs s h1) h2
      obtain ⟨p, p1, p2, p3⟩ := hs' s' g1 g2
      have b := h3 p p1 p2
      have : s = s' := by omega
      rw [this]
    · have := g1 s (hs s h1)
      rw [h2] at this
      exact absurd this (by decide)
  · rcases h' with ⟨s', g1, g2, g3, rfl⟩ | ⟨g1, rfl⟩
    · obtain ⟨p, p1, p2, p3⟩ := hs' s' g1 g2
      have := h1 p p1
      rw [p2] at this
      exact absurd this (by decide)
    · rfl
def zoneAt (l : List S42) (z : ByteArray) (t : Int) (i : Nat) (s : Int) : Prop := ∃ j, i ≤ j ∧ j < l.length ∧ (rd_T42 l (j : Int)).f1.toList = z.toList ∧ t < (rd_T42 l (j : Int)).f0 + 30000 ∧ (rd_T42 l (j : Int)).f0 + 30000 ≤ 10000000 ∧ s = (rd_T42 l (j : Int)).f0 + 30000
theorem spec_find (l : List S42) (z : ByteArray) (t : Int) (hm : areMv l = true) (h0 : 0 ≤ t) : ∀ d i, i + d = l.length → ∃ r : Int × Int, Ev (fun k => spec_ClearFrom.l0 k l z t (i : Int)) r ∧ firstOf (zoneAt l z t i) (clr l z) r := by
  obtain ⟨hb, hl⟩ := areMv_ok hm
  intro d
  induction d with
  | zero =>
    intro i hi
    refine ⟨(0, 4), Ev.dn ?_, Or.inr ⟨fun q hq => ?_, rfl⟩⟩
    · simp only [spec_ClearFrom.l0, if_neg (show ¬ (i : Int) < (l.length : Int) by omega)]
      exact Ev.now _
    · obtain ⟨j, h1, h2, _⟩ := hq
      omega
  | succ d ih =>
    intro i hi
    obtain ⟨r, hr, hf⟩ := ih (i + 1) (by omega)
    have ht := mvB_time (hb i (by omega))
    have hw : wrap64 ((rd_T42 l (i : Int)).f0 + 30000) = (rd_T42 l (i : Int)).f0 + 30000 := wrap_id (by omega) (by omega)
    have skip : ¬ ((rd_T42 l (i : Int)).f1.toList = z.toList ∧ t < (rd_T42 l (i : Int)).f0 + 30000 ∧ (rd_T42 l (i : Int)).f0 + 30000 ≤ 10000000 ∧ clr l z ((rd_T42 l (i : Int)).f0 + 30000) = true) → firstOf (zoneAt l z t i) (clr l z) r := by
      intro hn
      have hcase : ∀ q, zoneAt l z t i q → clr l z q = true → zoneAt l z t (i + 1) q := by
        intro q ⟨j, a1, a2, a3, a4, a5, a6⟩ hq
        by_cases e : j = i
        · subst e
          exact absurd ⟨a3, a4, a5, by rw [← a6]; exact hq⟩ hn
        · exact ⟨j, by omega, a2, a3, a4, a5, a6⟩
      rcases hf with ⟨s, s1, s2, s3, s4⟩ | ⟨s1, s2⟩
      · obtain ⟨j, a1, a2⟩ := s1
        exact Or.inl ⟨s, ⟨j, by omega, a2⟩, s2, fun q hq hc => s3 q (hcase q hq hc) hc, s4⟩
      · refine Or.inr ⟨fun q hq => ?_, s2⟩
        cases hc : clr l z q with
        | false => rfl
        | true =>
          have := s1 q (hcase q hq hc)
          rw [hc] at this
          exact this
    have hrun : (fun k => spec_ClearFrom.l0 (k + 1) l z t (i : Int)) = fun k => if (rd_T42 l (i : Int)).f1.toList = z.toList then (if (rd_T42 l (i : Int)).f0 + 30000 > t then ((spec_l01IsTime.f ((rd_T42 l (i : Int)).f0 + 30000)).bind fun t369 => (if t369 = true then ((spec_l20Clear.f k l z ((rd_T42 l (i : Int)).f0 + 30000)).bind fun t370 => (if t370 = true then (some ((rd_T42 l (i : Int)).f0 + 30000, 0)) else (spec_ClearFrom.l0 k l z t ((i + 1 : Nat) : Int)))) else (spec_ClearFrom.l0 k l z t ((i + 1 : Nat) : Int)))) else (spec_ClearFrom.l0 k l z t ((i + 1 : Nat) : Int))) else (spec_ClearFrom.l0 k l z t ((i + 1 : Nat) : Int)) := by
      funext k
      simp only [spec_ClearFrom.l0]
      rw [if_pos (show (i : Int) < (l.length : Int) by omega), if_pos (show (0 : Int) ≤ (i : Int) by omega), hw, wrap_succ (show i < l.length by omega) (show l.length ≤ 9223372036854775807 by omega)]
    by_cases c1 : (rd_T42 l (i : Int)).f1.toList = z.toList
    case neg =>
      refine ⟨r, Ev.dn ?_, skip (fun h => c1 h.1)⟩
      rw [hrun]; simp only [if_neg c1]; exact hr
    by_cases c2 : (rd_T42 l (i : Int)).f0 + 30000 > t
    case neg =>
      refine ⟨r, Ev.dn ?_, skip (fun h => c2 (by omega))⟩
      rw [hrun]; simp only [if_pos c1, if_neg c2]; exact hr
    by_cases c3 : (rd_T42 l (i : Int)).f0 + 30000 ≤ 10000000
    case neg =>
      refine ⟨r, Ev.dn ?_, skip (fun h => c3 h.2.2.1)⟩
      rw [hrun]; simp only [if_pos c1, if_pos c2, spec_l01IsTime.f, spec_l01In.f, ge_iff_le, if_pos (show 0 ≤ (rd_T42 l (i : Int)).f0 + 30000 by omega), Option.bind_some, decide_eq_false c3, Bool.false_eq_true, if_false]; exact hr
    have hcl := spec_l20Clear_ev l z ((rd_T42 l (i : Int)).f0 + 30000) hm (by omega) c3
    cases c4 : clr l z ((rd_T42 l (i : Int)).f0 + 30000) with
    | false =>
      refine ⟨r, Ev.dn ?_, skip (fun h => by rw [c4] at h; exact absurd h.2.2.2 (by decide))⟩
      rw [hrun]; simp only [if_pos c1, if_pos c2, spec_l01IsTime.f, spec_l01In.f, ge_iff_le, if_pos (show 0 ≤ (rd_T42 l (i : Int)).f0 + 30000 by omega), Option.bind_some, decide_eq_true c3, if_true]
      refine Ev.bind hcl ?_
      simp only [c4, Bool.false_eq_true, if_false]; exact hr
    | true =>
      refine ⟨((rd_T42 l (i : Int)).f0 + 30000, 0), Ev.dn ?_, Or.inl ⟨_, ⟨i, Nat.le_refl _, by omega, c1, by omega, c3, rfl⟩, c4, fun q hq hc => ?_, rfl⟩⟩
      · rw [hrun]; simp only [if_pos c1, if_pos c2, spec_l01IsTime.f, spec_l01In.f, ge_iff_le, if_pos (show 0 ≤ (rd_T42 l (i : Int)).f0 + 30000 by omega), Option.bind_some, decide_eq_true c3, if_true]
        refine Ev.bind hcl ?_
        simp only [c4, if_true]; exact Ev.now _
      · obtain ⟨j, a1, a2, a3, a4, a5, a6⟩ := hq
        have := mvB_sorted hb j i a1 a2
        omega
def inRow (ys : List Int) (i : Nat) (s : Int) : Prop := ∃ j, i ≤ j ∧ j < ys.length ∧ s = rd ys (j : Int) ∧ s ≤ 10000000
theorem impl_find (l : List S42) (z : ByteArray) (ys : List Int) (hm : areMv l = true) (hn : ys.length ≤ 1000000) (ho : ordN ys ys.length) (hp : ∀ j, j < ys.length → 0 ≤ rd ys (j : Int)) :
    ∀ d i, i + d = ys.length → ∃ r : Int × Int, Ev (fun k => impl_ClearFrom.l1 k l z ys (ys.length : Int) (i : Int)) r ∧ firstOf (inRow ys i) (clr l z) r := by
  intro d
  induction d with
  | zero =>
    intro i hi
    refine ⟨(0, 4), Ev.dn ?_, Or.inr ⟨fun q hq => ?_, rfl⟩⟩
    · simp only [impl_ClearFrom.l1, if_neg (show ¬ (i : Int) < (ys.length : Int) by omega)]
      exact Ev.now _
    · obtain ⟨j, h1, h2, _⟩ := hq
      omega
  | succ d ih =>
    intro i hi
    obtain ⟨r, hr, hf⟩ := ih (i + 1) (by omega)
    have skip : ¬ (rd ys (i : Int) ≤ 10000000 ∧ clr l z (rd ys (i : Int)) = true) → firstOf (inRow ys i) (clr l z) r := by
      intro hn
      have hcase : ∀ q, inRow ys i q → clr l z q = true → inRow ys (i + 1) q := by
        intro q ⟨j, a1, a2, a3, a4⟩ hq
        by_cases e : j = i
        · subst e
          exact absurd ⟨by omega, by rw [← a3]; exact hq⟩ hn
        · exact ⟨j, by omega, a2, a3, a4⟩
      rcases hf with ⟨s, s1, s2, s3, s4⟩ | ⟨s1, s2⟩
      · obtain ⟨j, a1, a2⟩ := s1
        exact Or.inl ⟨s, ⟨j, by omega, a2⟩, s2, fun q hq hc => s3 q (hcase q hq hc) hc, s4⟩
      · refine Or.inr ⟨fun q hq => ?_, s2⟩
        cases hc : clr l z q with
        | false => rfl
        | true =>
          have := s1 q (hcase q hq hc)
          rw [hc] at this
          exact this
    by_cases c3 : rd ys (i : Int) ≤ 10000000
    case neg =>
      refine ⟨r, Ev.dn ?_, skip (fun h => c3 h.1)⟩
      simp only [impl_ClearFrom.l1, if_pos (show (i : Int) < (ys.length : Int) by omega), if_pos (show (0 : Int) ≤ (i : Int) by omega), if_neg c3, wrap_succ (show i < ys.length by omega) (show ys.length ≤ 9223372036854775807 by omega)]
      exact hr
    have hcl := impl_isClear_ev l z (rd ys (i : Int)) hm (hp i (by omega)) c3
    cases c4 : clr l z (rd ys (i : Int)) with
    | false =>
      refine ⟨r, Ev.dn ?_, skip (fun h => by rw [c4] at h; exact absurd h.2 (by decide))⟩
      simp only [impl_ClearFrom.l1, if_pos (show (i : Int) < (ys.length : Int) by omega), if_pos (show (0 : Int) ≤ (i : Int) by omega), if_pos c3, wrap_succ (show i < ys.length by omega) (show ys.length ≤ 9223372036854775807 by omega)]
      refine Ev.bind hcl ?_
      simp only [c4, Bool.false_eq_true, if_false]; exact hr
    | true =>
      refine ⟨(rd ys (i : Int), 0), Ev.dn ?_, Or.inl ⟨_, ⟨i, Nat.le_refl _, by omega, rfl, c3⟩, c4, fun q hq hc => ?_, rfl⟩⟩
      · simp only [impl_ClearFrom.l1, if_pos (show (i : Int) < (ys.length : Int) by omega), if_pos (show (0 : Int) ≤ (i : Int) by omega), if_pos c3, wrap_succ (show i < ys.length by omega) (show ys.length ≤ 9223372036854775807 by omega)]
        refine Ev.bind hcl ?_
        simp only [c4, if_true]; exact Ev.now _
      · obtain ⟨j, a1, a2, a3, a4⟩ := hq
        by_cases e : j = i
        · rw [a3, e]; exact Int.le_refl _
        · rw [a3]; exact ho j a2 i (by omega)
def told (l : List S42) (t : Int) : List Int → Nat → Nat → List Int
  | xs, _, 0 => xs
  | xs, i, d + 1 => told l t (if (rd_T42 l (i : Int)).f0 + 30000 > t then xs ++ [(rd_T42 l (i : Int)).f0 + 30000] else xs) (i + 1) d
theorem told_len (l : List S42) (t : Int) : ∀ d i xs, (told l t xs i d).length ≤ xs.length + d
  | 0, _, _ => by simp [told]
  | d + 1, i, xs => by
    have := told_len l t d (i + 1) (if (rd_T42 l (i : Int)).f0 + 30000 > t then xs ++ [(rd_T42 l (i : Int)).f0 + 30000] else xs)
    simp only [told]
    refine Nat.le_trans this ?_
    split
    · simp; omega
    · omega
theorem told_mem (l : List S42) (t : Int) (q : Int) : ∀ d i xs, q ∈ told l t xs i d ↔ q ∈ xs ∨ ∃ j, i ≤ j ∧ j < i + d ∧ (rd_T42 l (j : Int)).f0 + 30000 > t ∧ q = (rd_T42 l (j : Int)).f0 + 30000
  | 0, i, xs => by
    simp only [told]
    exact ⟨Or.inl, fun h => h.elim id (fun ⟨j, h1, h2, _⟩ => by omega)⟩
  | d + 1, i, xs => by
    simp only [told]
    rw [told_mem l t q d (i + 1)]
    constructor
    · rintro (h | ⟨j, h1, h2, h3⟩)
      · by_cases c : (rd_T42 l (i : Int)).f0 + 30000 > t
        · rw [if_pos c] at h
          rcases List.mem_append.1 h with h | h
          · exact Or.inl h
          · exact Or.inr ⟨i, Nat.le_refl _, by omega, c, by simpa using h⟩
        · rw [if_neg c] at h
          exact Or.inl h
      · exact Or.inr ⟨j, by omega, by omega, h3⟩
    · rintro (h | ⟨j, h1, h2, h3, h4⟩)
      · left
        split
        · exact List.mem_append_left _ h
        · exact h
      · by_cases e : j = i
        · left
          subst e
          rw [if_pos h3]
          exact List.mem_append_right _ (by simp [h4])
        · exact Or.inr ⟨j, by omega, by omega, h3, h4⟩
theorem ClearFrom_is (l : List S42) (z : ByteArray) (t : Int) (hn : l.length ≤ 1000000) (hz : szOk l) (hs : z.size ≤ 9223372036854775807) : ∃ r : Int × Int, Ev (fun k => spec_ClearFrom.f k l z t) r ∧ Ev (fun k => impl_ClearFrom.f k l z t) r ∧ ((¬ cdZ l z t = 0 ∧ r = (0, cdZ l z t)) ∨ (cdZ l z t = 0 ∧ clr l z t = true ∧ r = (t, 0)) ∨ (cdZ l z t = 0 ∧ clr l z t = false ∧ firstOf (zoneAt l z t 0) (clr l z) r)) := by
  unfold spec_ClearFrom.f impl_ClearFrom.f
  by_cases h : cdZ l z t = 0
  case neg =>
    refine ⟨(0, cdZ l z t), ?_, ?_, .inl ⟨h, rfl⟩⟩
    · refine Ev.bind (spec_l20Code_ev l z t hn hz hs) ?_
      simp only [if_neg h]
      exact Ev.now _
    · refine Ev.bind (impl_zoneAsked_ev l z t hn hz hs) ?_
      simp only [if_neg h]
      exact Ev.now _
  obtain ⟨hm, h0, h1⟩ := cdZ_zero h
  obtain ⟨hb, hl⟩ := areMv_ok hm
  obtain ⟨xs, ex⟩ : ∃ xs, xs = told l t [t] 0 l.length := ⟨_, rfl⟩
  have hxl : xs.length ≤ 1 + l.length := by rw [ex]; exact told_len l t l.length 0 [t]
  obtain ⟨ys, hy1, hy2, hy3⟩ := sorted_ev xs (by omega)
  have hyl : ys.length = xs.length := hy2.1
  have hxpos : ∀ q, q ∈ xs → 0 ≤ q := by
    intro q hq
    rw [ex, told_mem] at hq
    rcases hq with hq | ⟨j, a1, a2, a3, a4⟩
    · have : q = t := by simpa using hq
      omega
    · have := mvB_time (hb j (by omega))
      omega
  have hmem : ∀ q, (∃ j, j < ys.length ∧ q = rd ys (j : Int)) ↔ q ∈ xs := by
    intro q
    constructor
    · rintro ⟨j, hj, rfl⟩
      obtain ⟨i, hi, e⟩ := hy2.2.1 j (by omega)
      rw [e, rd_nat hi]
      exact List.getElem_mem hi
    · intro hq
      obtain ⟨i, hi, rfl⟩ := List.getElem_of_mem hq
      obtain ⟨j, hj, e⟩ := hy2.2.2 i hi
      exact ⟨j, by omega, by rw [← e, rd_nat hi]⟩
  obtain ⟨r2, hr2, hf2⟩ := impl_find l z ys hm (by omega) (by rw [hyl]; exact hy3) (fun j hj => hxpos _ ((hmem _).1 ⟨j, hj, rfl⟩)) ys.length 0 (by omega)
  have hcollect : ∀ d i (x9 : List Int), i + d = l.length → x9.length ≤ 1 + i → told l t x9 i d = xs → Ev (fun k => impl_ClearFrom.l0 k l z t x9 l (l.length : Int) (i : Int)) r2 := by
    intro d
    induction d with
    | zero =>
      intro i x9 hi hx e
      simp only [told] at e
      subst e
      refine Ev.dn ?_
      simp only [impl_ClearFrom.l0, if_neg (show ¬ (i : Int) < (l.length : Int) by omega)]
      exact Ev.bind hy1 hr2
    | succ d ih =>
      intro i x9 hi hx e
      simp only [told] at e
      have ht := mvB_time (hb i (by omega))
      have hw : wrap64 ((rd_T42 l (i : Int)).f0 + 30000) = (rd_T42 l (i : Int)).f0 + 30000 := wrap_id (by omega) (by omega)
      have hs := ih (i + 1) _ (by omega) (by split <;> (try simp) <;> omega) e
      refine Ev.dn ?_
      refine Ev.eq' hs (fun k => ?_)
      simp only [impl_ClearFrom.l0]
      rw [if_pos (show (i : Int) < (l.length : Int) by omega), if_pos (show (0 : Int) ≤ (i : Int) by omega), if_pos (show (i : Int) < (l.length : Int) by omega), hw, wrap_succ (show i < l.length by omega) (show l.length ≤ 9223372036854775807 by omega)]
      by_cases c : (rd_T42 l (i : Int)).f0 + 30000 > t
      · rw [if_pos c, if_pos (show x9.length < 17592186044416 by omega), if_pos c]
      · rw [if_neg c, if_neg c]
  have himpl : Ev (fun k => impl_ClearFrom.l0 k l z t ([t] : List Int) l (l.length : Int) 0) r2 := hcollect l.length 0 [t] (by omega) (by simp) ex.symm
  cases hc : clr l z t with
  | true =>
    have e2 : r2 = (t, 0) := by
      have ht : inRow ys 0 t := by
        obtain ⟨j, hj, e⟩ := (hmem t).2 (by rw [ex, told_mem]; exact Or.inl (by simp))
        exact ⟨j, by omega, hj, e, h1⟩
      have hmin : ∀ q, inRow ys 0 q → t ≤ q := by
        intro q ⟨j, _, hj, e, _⟩
        have := (hmem q).1 ⟨j, hj, e⟩
        rw [ex, told_mem] at this
        rcases this with hq | ⟨i, a1, a2, a3, a4⟩
        · have : q = t := by simpa using hq
          omega
        · omega
      rcases hf2 with ⟨s, s1, s2, s3, s4⟩ | ⟨s1, _⟩
      · have a := s3 t ht hc
        have b := hmin s s1
        rw [s4, show s = t by omega]
      · have := s1 t ht
        rw [hc] at this
        exact absurd this (by decide)
    refine ⟨(t, 0), ?_, ?_, .inr (.inl ⟨h, (by first | rfl | exact hc), rfl⟩)⟩
    · refine Ev.bind (spec_l20Code_ev l z t hn hz hs) ?_
      simp only [if_pos h]
      refine Ev.bind (spec_l20Clear_ev l z t hm h0 h1) ?_
      simp only [hc, if_true]
      exact Ev.now _
    · refine Ev.bind (impl_zoneAsked_ev l z t hn hz hs) ?_
      simp only [if_pos h]
      rw [← e2]
      exact himpl
  | false =>
    obtain ⟨r1, hr1, hf1⟩ := spec_find l z t hm h0 l.length 0 (by omega)
    have e12 : r1 = r2 := by
      refine firstOf_eq hf1 hf2 (fun q hq => ?_) (fun q hq hcq => ?_)
      · obtain ⟨j, a1, a2, a3, a4, a5, a6⟩ := hq
        obtain ⟨i, hi, e⟩ := (hmem q).2 (by rw [ex, told_mem]; exact Or.inr ⟨j, by omega, by omega, by omega, a6⟩)
        exact ⟨i, by omega, hi, e, by omega⟩
      · obtain ⟨j, _, hj, e, hle⟩ := hq
        have hx := (hmem q).1 ⟨j, hj, e⟩
        rw [ex, told_mem] at hx
        rcases hx with hx | ⟨i, a1, a2, a3, a4⟩
        · have : q = t := by simpa using hx
          rw [this, hc] at hcq
          exact absurd hcq (by decide)
        · obtain ⟨p, p1, p2, p3, p4, p5⟩ := clr_first hb (show t < q by omega) hc hcq
          exact ⟨_, ⟨p, by omega, p1, p2, p3, by omega, rfl⟩, p5, p4⟩
    refine ⟨r2, ?_, ?_, .inr (.inr ⟨h, (by first | rfl | exact hc), by rw [← e12]; exact hf1⟩)⟩
    · refine Ev.bind (spec_l20Code_ev l z t hn hz hs) ?_
      simp only [if_pos h]
      refine Ev.bind (spec_l20Clear_ev l z t hm h0 h1) ?_
      simp only [hc, Bool.false_eq_true, if_false]
      rw [← e12]
      exact hr1
    · refine Ev.bind (impl_zoneAsked_ev l z t hn hz hs) ?_
      simp only [if_pos h]
      exact himpl
def allWd (zs : List ByteArray) : Bool := allD (fun j => isWd (rdOf ByteArray.empty zs (j : Int))) 0 zs.length
def zsOk (zs : List ByteArray) : Prop := ∀ y ∈ zs, y.size ≤ 9223372036854775807
theorem spec_l01All_ev (zs : List ByteArray) (hn : zs.length ≤ 1000000) (hz : zsOk zs) : Ev (fun k => spec_l01All.f k zs) (allWd zs) := by
  have h := Ev.allLoop (l := fun k i => spec_l01All.l0 k zs i) (n := zs.length) (fun j => isWd (rdOf ByteArray.empty zs (j : Int))) false true
    (fun i hi => (spec_IsWord_ev _ (rdOf_size zs hz i hi)).evt fun k hk => by
      simp only [spec_l01All.l0]
      rw [if_pos (by omega), if_pos (by omega), hk, Option.bind_some, wrap_succ hi (by omega)])
    (Evt.all fun k => by
      simp only [spec_l01All.l0]
      rw [if_neg (by omega)]) zs.length 0 (by omega)
  refine h.eq ?_
  unfold allWd
  cases allD (fun j => isWd (rdOf ByteArray.empty zs (j : Int))) 0 zs.length <;> simp
theorem impl_areZones_ev (zs : List ByteArray) (hn : zs.length ≤ 1000000) (hz : zsOk zs) : Ev (fun k => impl_areZones.f k zs) (allWd zs && decide (zs.length ≤ 60)) := by
  unfold impl_areZones.f
  by_cases g : (zs.length : Int) > 60
  · simp only [if_pos g]
    refine (Ev.now false).eq ?_
    rw [decide_eq_false (by omega), Bool.and_false]
  simp only [if_neg g]
  have h := Ev.allLoop (l := fun k i => impl_areZones.l0 k zs (zs.length : Int) i) (n := zs.length) (fun j => isWd (rdOf ByteArray.empty zs (j : Int))) false true
    (fun i hi => (impl_IsWord_ev _ (rdOf_size zs hz i hi)).evt fun k hk => by
      simp only [impl_areZones.l0]
      rw [if_pos (by omega), if_pos (by omega), if_pos (by omega), hk, Option.bind_some, wrap_succ hi (by omega)])
    (Evt.all fun k => by
      simp only [impl_areZones.l0]
      rw [if_neg (by omega)]) zs.length 0 (by omega)
  refine h.eq ?_
  unfold allWd
  rw [decide_eq_true (show zs.length ≤ 60 by omega), Bool.and_true]
  cases allD (fun j => isWd (rdOf ByteArray.empty zs (j : Int))) 0 zs.length <;> simp
def allClr (l : List S42) (zs : List ByteArray) (t : Int) : Bool := allD (fun j => clr l (rdOf ByteArray.empty zs (j : Int)) t) 0 zs.length
theorem allClear_is (l : List S42) (zs : List ByteArray) (t : Int) (hn : zs.length ≤ 1000000) (hm : areMv l = true) (h0 : 0 ≤ t) (h1 : t ≤ 10000000) : Ev (fun k => spec_AreAllClear.l0 k l zs t 0) (allClr l zs t, 0) ∧ Ev (fun k => impl_areAllClear.f k l zs t) (allClr l zs t) := by
  unfold allClr
  refine ⟨?_, ?_⟩
  · have h := Ev.allLoop (l := fun k i => spec_AreAllClear.l0 k l zs t i) (n := zs.length) (fun j => clr l (rdOf ByteArray.empty zs (j : Int)) t) (false, 0) (true, 0)
      (fun i hi => (spec_l20Clear_ev l (rdOf ByteArray.empty zs (i : Int)) t hm h0 h1).evt fun k hk => by
        simp only [spec_AreAllClear.l0]
        rw [if_pos (by omega), if_pos (by omega), hk, Option.bind_some, wrap_succ hi (by omega)])
      (Evt.all fun k => by
        simp only [spec_AreAllClear.l0]
        rw [if_neg (by omega)]) zs.length 0 (by omega)
    refine Ev.eq h ?_
    cases allD (fun j => clr l (rdOf ByteArray.empty zs (j : Int)) t) 0 zs.length <;> simp
  · unfold impl_areAllClear.f
    have h := Ev.allLoop (l := fun k i => impl_areAllClear.l0 k l t zs (zs.length : Int) i) (n := zs.length) (fun j => clr l (rdOf ByteArray.empty zs (j : Int)) t) false true
      (fun i hi => (impl_isClear_ev l (rdOf ByteArray.empty zs (i : Int)) t hm h0 h1).evt fun k hk => by
        simp only [impl_areAllClear.l0]
        rw [if_pos (by omega), if_pos (by omega), if_pos (by omega), hk, Option.bind_some, wrap_succ hi (by omega)])
      (Evt.all fun k => by
        simp only [impl_areAllClear.l0]
        rw [if_neg (by omega)]) zs.length 0 (by omega)
    refine Ev.eq h ?_
    cases allD (fun j => clr l (rdOf ByteArray.empty zs (j : Int)) t) 0 zs.length <;> simp
theorem wd_a : isWd (⟨#[97]⟩ : ByteArray) = true := by decide
theorem AreAllClear_is (l : List S42) (zs : List ByteArray) (t : Int) (hl : l.length ≤ 1000000) (hz : szOk l) (hn : zs.length ≤ 1000000) (hs : zsOk zs) : ∃ r : Bool × Int, Ev (fun k => spec_AreAllClear.f k l zs t) r ∧ Ev (fun k => impl_AreAllClear.f k l zs t) r ∧ (r.2 = 0 → areMv l = true ∧ allWd zs = true ∧ (0 ≤ t ∧ t ≤ 10000000) ∧ r.1 = allClr l zs t) := by
  have hsb : Ev (fun k => spec_AreAllClear.j0 k l zs t true) (false, 1) := Ev.dn (by simp only [spec_AreAllClear.j0]; exact Ev.now _)
  have hib : Ev (fun k => impl_AreAllClear.j0 k l zs t true) (false, 1) := Ev.dn (by simp only [impl_AreAllClear.j0]; exact Ev.now _)
  have hA := spec_l01All_ev zs hn hs
  have hB := impl_areZones_ev zs hn hs
  have hM := impl_AreMoves_ev l hl hz
  have hC := spec_l20Code_ev l (⟨#[97]⟩ : ByteArray) t hl hz (by decide)
  unfold spec_AreAllClear.f impl_AreAllClear.f
  cases g1 : allWd zs with
  | false =>
    rw [g1] at hA hB
    refine ⟨(false, 1), ?_, ?_, fun hh => absurd hh (by decide)⟩
    · refine Ev.bind hA ?_
      simp only [Bool.false_eq_true, if_false]
      exact hsb
    · refine Ev.bind hM ?_
      cases areMv l with
      | false => simp only [Bool.false_eq_true, if_false]; exact hib
      | true =>
        simp only [if_true]
        refine Ev.bind hB ?_
        simp only [Bool.false_and, Bool.not_false]
        exact hib
  | true =>
  rw [g1] at hA hB
  by_cases g2 : zs.length ≤ 60
  case neg =>
    refine ⟨(false, 1), ?_, ?_, fun hh => absurd hh (by decide)⟩
    · refine Ev.bind hA ?_
      simp only [if_true, decide_eq_true (show (zs.length : Int) > 60 by omega)]
      exact hsb
    · refine Ev.bind hM ?_
      cases areMv l with
      | false => simp only [Bool.false_eq_true, if_false]; exact hib
      | true =>
        simp only [if_true]
        refine Ev.bind hB ?_
        simp only [decide_eq_false g2, Bool.and_false, Bool.not_false]
        exact hib
  rw [decide_eq_true g2, Bool.and_true] at hB
  cases g3 : areMv l with
  | false =>
    have hc : cdZ l (⟨#[97]⟩ : ByteArray) t = 1 := by simp [cdZ, g3]
    rw [hc] at hC
    rw [g3] at hM
    refine ⟨(false, 1), ?_, ?_, fun hh => absurd hh (by decide)⟩
    · refine Ev.bind hA ?_
      simp only [if_true, decide_eq_false (show ¬ (zs.length : Int) > 60 by omega)]
      refine Ev.dn ?_
      simp only [spec_AreAllClear.j0, Bool.false_eq_true, if_false]
      refine Ev.bind hC ?_
      simp only [show ¬ ((1 : Int) = 0) by decide, if_false]
      exact Ev.now _
    · refine Ev.bind hM ?_
      simp only [Bool.false_eq_true, if_false]
      exact hib
  | true =>
  rw [g3] at hM
  by_cases g4 : 0 ≤ t ∧ t ≤ 10000000
  · have hc : cdZ l (⟨#[97]⟩ : ByteArray) t = 0 := by simp [cdZ, g3, wd_a, g4]
    rw [hc] at hC
    obtain ⟨hb1, hb2⟩ := allClear_is l zs t hn g3 g4.1 g4.2
    refine ⟨(allClr l zs t, 0), ?_, ?_, fun _ => ⟨(by first | rfl | exact g3), (by first | rfl | exact g1), g4, rfl⟩⟩
    · refine Ev.bind hA ?_
      simp only [if_true, decide_eq_false (show ¬ (zs.length : Int) > 60 by omega)]
      refine Ev.dn ?_
      simp only [spec_AreAllClear.j0, Bool.false_eq_true, if_false]
      refine Ev.bind hC ?_
      simp only [if_true]
      exact hb1
    · refine Ev.bind hM ?_
      simp only [if_true]
      refine Ev.bind hB ?_
      simp only [Bool.not_true]
      refine Ev.dn ?_
      simp only [impl_AreAllClear.j0, impl_isTime.f, impl_within.f, Bool.false_eq_true, if_false, if_pos g4.1, Option.bind_some, decide_eq_true g4.2, if_true]
      exact Ev.bind hb2 (Ev.now _)
  · have hc : cdZ l (⟨#[97]⟩ : ByteArray) t = 2 := by simp [cdZ, g3, wd_a]; omega
    rw [hc] at hC
    refine ⟨(false, 2), ?_, ?_, fun hh => absurd hh (by decide)⟩
    · refine Ev.bind hA ?_
      simp only [if_true, decide_eq_false (show ¬ (zs.length : Int) > 60 by omega)]
      refine Ev.dn ?_
      simp only [spec_AreAllClear.j0, Bool.false_eq_true, if_false]
      refine Ev.bind hC ?_
      simp only [show ¬ ((2 : Int) = 0) by decide, if_false]
      exact Ev.now _
    · refine Ev.bind hM ?_
      simp only [if_true]
      refine Ev.bind hB ?_
      simp only [Bool.not_true]
      refine Ev.dn ?_
      simp only [impl_AreAllClear.j0, impl_isTime.f, impl_within.f, Bool.false_eq_true, if_false]
      by_cases g5 : 0 ≤ t
      · have g6 : ¬ t ≤ 10000000 := fun g => g4 ⟨g5, g⟩
        simp only [if_pos g5, Option.bind_some, decide_eq_false g6, Bool.false_eq_true, if_false]
        exact Ev.now _
      · simp only [if_neg g5, Option.bind_some, Bool.false_eq_true, if_false]
        exact Ev.now _
def isC (l : List S42) (z : ByteArray) (t : Int) : Bool × Int := if cdZ l z t = 0 then (clr l z t, 0) else (false, cdZ l z t)
theorem IsClear_is (l : List S42) (z : ByteArray) (t : Int) (hn : l.length ≤ 1000000) (hz : szOk l) (hs : z.size ≤ 9223372036854775807) : Ev (fun k => spec_IsClear.f k l z t) (isC l z t) ∧ Ev (fun k => impl_IsClear.f k l z t) (isC l z t) := by
  unfold spec_IsClear.f impl_IsClear.f isC
  by_cases h : cdZ l z t = 0
  · obtain ⟨hm, h0, h1⟩ := cdZ_zero h
    rw [if_pos h]
    refine ⟨?_, ?_⟩
    · refine Ev.bind (spec_l20Code_ev l z t hn hz hs) ?_
      simp only [if_pos h]
      exact Ev.bind (spec_l20Clear_ev l z t hm h0 h1) (Ev.now _)
    · refine Ev.bind (impl_zoneAsked_ev l z t hn hz hs) ?_
      simp only [if_pos h]
      exact Ev.bind (impl_isClear_ev l z t hm h0 h1) (Ev.now _)
  · rw [if_neg h]
    refine ⟨?_, ?_⟩
    · refine Ev.bind (spec_l20Code_ev l z t hn hz hs) ?_
      simp only [if_neg h]
      exact Ev.now _
    · refine Ev.bind (impl_zoneAsked_ev l z t hn hz hs) ?_
      simp only [if_neg h]
      exact Ev.now _
theorem PeopleIn_is (l : List S42) (z : ByteArray) (t : Int) (hn : l.length ≤ 1000000) (hz : szOk l) (hs : z.size ≤ 9223372036854775807) (h : cdZ l z t = 0) : Ev (fun k => impl_PeopleIn.f k l z t) (pplT l z t l.length, 0) := by
  unfold impl_PeopleIn.f
  obtain ⟨hm, h0, h1⟩ := cdZ_zero h
  obtain ⟨hb, hl⟩ := areMv_ok hm
  refine Ev.bind (impl_zoneAsked_ev l z t hn hz hs) ?_
  simp only [if_pos h]
  exact Ev.bind (impl_peopleIn_ev l z t hn (mvB_chg hb)) (Ev.now _)
theorem ppl_congr (l : List S42) (z z' : ByteArray) (h : z.toList = z'.toList) : ∀ n, ppl l z n = ppl l z' n
  | 0 => rfl
  | n + 1 => by simp only [ppl]; rw [ppl_congr l z z' h n, h]
theorem clr_zero {l : List S42} {z : ByteArray} {t : Int} (h : clr l z t = true) : pplT l z t l.length = 0 := by
  unfold clr at h
  rw [Bool.and_eq_true] at h
  simpa using h.2
/-- Behind t nothing of the zone moves up to s. -/
theorem clr_quiet {l : List S42} {z : ByteArray} {t s : Int} (hb : ∀ j, j < l.length → mvB l j = true) (hc : clr l z t = true) (hno : ∀ j, j < l.length → (rd_T42 l (j : Int)).f1.toList = z.toList → 0 < (rd_T42 l (j : Int)).f2 → t < (rd_T42 l (j : Int)).f0 → ¬ (rd_T42 l (j : Int)).f0 ≤ s) :
    ∀ n, n ≤ l.length → ∀ j, j < n → (rd_T42 l (j : Int)).f1.toList = z.toList → (rd_T42 l (j : Int)).f0 ≤ s → (rd_T42 l (j : Int)).f0 ≤ t := by
  have c2 := clr_zero hc
  intro n
  induction n with
  | zero => intro _ j hj; exact absurd hj (by omega)
  | succ n ih =>
    intro hn j hj hz hs
    have ih := ih (by omega)
    by_cases e : j < n
    · exact ih j e hz hs
    obtain rfl : j = n := by omega
    by_cases d : (rd_T42 l (j : Int)).f0 ≤ t
    · exact d
    exfalso
    have p1 : pplT l z t l.length = pplT l z t j := pplT_stop l z t j l.length (by omega) (fun i h1 h2 => by have := mvB_sorted hb i j h1 h2; omega)
    have p2 : ∀ m, m ≤ j → pplT l z t m = ppl l z m := by
      intro m
      induction m with
      | zero => intro _; rfl
      | succ m ihm =>
        intro hm
        simp only [pplT, ppl]
        rw [ihm (by omega)]
        by_cases c : (rd_T42 l (m : Int)).f1.toList = z.toList
        · have h1 := mvB_sorted hb j m (by omega) (by omega)
          have h2 := ih m (by omega) c (by omega)
          rw [if_pos ⟨c, h2⟩, if_pos c]
        · rw [if_neg (fun q => c q.1), if_neg c]
    have h1 := hb j (by omega)
    unfold mvB at h1
    simp only [Bool.and_eq_true, decide_eq_true_eq, Bool.not_eq_true', decide_eq_false_iff_not] at h1
    have h3 := h1.2
    have h4 := h1.1.1.2
    rw [ppl_congr l _ z hz] at h3
    simp only [ppl] at h3
    rw [if_pos hz, ← p2 j (Nat.le_refl _), ← p1, c2] at h3
    have h5 := hno j (by omega) hz
    by_cases h6 : 0 < (rd_T42 l (j : Int)).f2
    · exact h5 h6 (by omega) hs
    · omega
theorem clr_stays {l : List S42} {z : ByteArray} {t s : Int} (hb : ∀ j, j < l.length → mvB l j = true) (hts : t ≤ s) (hc : clr l z t = true) (hno : ∀ j, j < l.length → (rd_T42 l (j : Int)).f1.toList = z.toList → 0 < (rd_T42 l (j : Int)).f2 → t < (rd_T42 l (j : Int)).f0 → ¬ (rd_T42 l (j : Int)).f0 ≤ s) : clr l z s = true := by
  have q := clr_quiet hb hc hno l.length (Nat.le_refl _)
  have c2 := clr_zero hc
  unfold clr at hc ⊢
  rw [Bool.and_eq_true] at hc ⊢
  refine ⟨(allD_iff _ _ _).2 (fun j h1 hj => ?_), ?_⟩
  · have h := (allD_iff _ _ _).1 hc.1 j h1 hj
    have hjl : j < l.length := by omega
    unfold clB at h ⊢
    by_cases c : (rd_T42 l (j : Int)).f1.toList = z.toList
    · by_cases d : (rd_T42 l (j : Int)).f0 ≤ s
      · have e := q j hjl c d
        have e2 : ¬ t - (rd_T42 l (j : Int)).f0 < 30000 := fun e2 => by simp [c, e, e2] at h
        rw [decide_eq_false (show ¬ s - (rd_T42 l (j : Int)).f0 < 30000 by omega), Bool.and_false, Bool.not_false]
      · simp [d]
    · simp [c]
  · have hsame : ∀ n, n ≤ l.length → pplT l z s n = pplT l z t n := by
      intro n
      induction n with
      | zero => exact fun _ => rfl
      | succ n ih =>
        intro hn
        simp only [pplT]
        rw [ih (by omega)]
        by_cases c : (rd_T42 l (n : Int)).f1.toList = z.toList
        · by_cases d : (rd_T42 l (n : Int)).f0 ≤ s
          · have := q n (by omega) c d
            rw [if_pos ⟨c, d⟩, if_pos ⟨c, this⟩]
          · rw [if_neg (fun q => d q.2), if_neg (fun q => d (Int.le_trans q.2 hts))]
        · rw [if_neg (fun q => c q.1), if_neg (fun q => c q.1)]
    rw [hsame _ (Nat.le_refl _), c2]
    rfl
theorem first_is {l : List S42} {z : ByteArray} {t : Int} {r : Int × Int} (hf : firstOf (zoneAt l z t 0) (clr l z) r) (h0 : r.2 = 0) : t < r.1 ∧ r.1 ≤ 10000000 ∧ clr l z r.1 = true := by
  rcases hf with ⟨v, ⟨i, a1, a2, a3, a4, a5, a6⟩, v2, v3, rfl⟩ | ⟨_, rfl⟩
  · exact ⟨by show t < v; omega, by show v ≤ 10000000; omega, v2⟩
  · exact absurd h0 (by decide)
theorem first_none {l : List S42} {z : ByteArray} {t s : Int} {r : Int × Int} (hb : ∀ j, j < l.length → mvB l j = true) (hc : clr l z t = false) (hf : firstOf (zoneAt l z t 0) (clr l z) r) (h0 : r.2 = 0) (h1 : t ≤ s) (h2 : s < r.1) : clr l z s = false := by
  obtain ⟨b0, b1, _⟩ := first_is hf h0
  cases hs : clr l z s with
  | false => rfl
  | true =>
    exfalso
    by_cases e : s = t
    · rw [e, hc] at hs; exact absurd hs (by decide)
    · obtain ⟨j, q1, q2, q3, q4, q5⟩ := clr_first hb (show t < s by omega) hc hs
      rcases hf with ⟨v, v1, v2, v3, rfl⟩ | ⟨_, rfl⟩
      · have := v3 _ ⟨j, Nat.zero_le _, q1, q2, q3, by dsimp only at b1 h2; omega, rfl⟩ q5
        dsimp only at h2
        omega
      · exact absurd h0 (by decide)
/-- A place in the bytes and a state of the draws. -/
def Gd (L : List Int) (p z : Int) : Prop := 0 ≤ p ∧ p ≤ (L.length : Int) ∧ 0 ≤ z ∧ z < 2147483647
def By (L : List Int) : Prop := L.length ≤ 4096 ∧ ∀ j : Nat, j < L.length → 0 ≤ rd L (j : Int) ∧ rd L (j : Int) ≤ 255
theorem tm_bd {x n : Int} (hx : 0 ≤ x) (hn : 0 < n) : 0 ≤ Int.tmod x n ∧ Int.tmod x n < n := ⟨Int.tmod_nonneg n hx, Int.tmod_lt_of_pos x hn⟩
theorem next_ok {L : List Int} (hL : By L) {p z : Int} (g : Gd L p z) (n : Int) (h1 : 1 ≤ n) (h2 : n ≤ 100000000) : ∃ v p' z' : Int, spec_l01Next.f L p z n = some (v, p', z') ∧ Gd L p' z' ∧ 0 ≤ v ∧ v < n := by
  obtain ⟨g1, g2, g3, g4⟩ := g
  obtain ⟨hl, hb⟩ := hL
  unfold spec_l01Next.f
  by_cases c1 : n ≤ 1
  · rw [if_pos c1]
    exact ⟨0, p, z, rfl, ⟨g1, g2, g3, g4⟩, by omega, by omega⟩
  rw [if_neg c1]
  have hn : ¬ n = 0 := by omega
  have w1 : wrap64 (z * 48271) = z * 48271 := wrap_id (by omega) (by omega)
  have w2 : wrap64 (z * 48271 + 29) = z * 48271 + 29 := wrap_id (by omega) (by omega)
  obtain ⟨z0, z1⟩ := tm_bd (x := z * 48271 + 29) (n := 2147483647) (by omega) (by decide)
  simp only [w1, w2, if_neg hn]
  generalize Int.tmod (z * 48271 + 29) 2147483647 = y at z0 z1
  have q0 : Int.tdiv y 31 = y / 31 := Int.tdiv_eq_ediv_of_nonneg z0
  obtain ⟨q2, q3⟩ : 0 ≤ y / 31 ∧ y / 31 ≤ 2147483647 := by clear w1 w2 c1 hb; omega
  have q1 : wrap64 (y / 31) = y / 31 := wrap_id (by clear w1 w2 c1 hb q0; omega) (by clear w1 w2 c1 hb q0; omega)
  simp only [q0, q1]
  clear q0 q1 w1 w2
  generalize y / 31 = q at q2 q3
  by_cases c2 : p < (L.length : Int)
  · obtain ⟨m, rfl⟩ := Int.eq_ofNat_of_zero_le g1
    obtain ⟨r0, r1⟩ := hb m (by omega)
    have m0 : (m : Int) < 4096 := by clear z0 z1 q2 q3 r0 r1; omega
    obtain ⟨p1, p2⟩ : wrap64 ((m : Int) + 1) = (m : Int) + 1 ∧ wrap64 ((m : Int) + 1 - 1) = (m : Int) := by
      clear z0 z1 q2 q3 r0 r1 c2 g1 g2 hb hn
      refine ⟨wrap_id (by omega) (by omega), ?_⟩
      rw [wrap_id (by omega) (by omega)]
      omega
    obtain ⟨r2, r3⟩ : wrap64 (rd L (m : Int)) = rd L (m : Int) ∧ wrap64 (q + rd L (m : Int)) = q + rd L (m : Int) := by
      clear p1 p2 c2 g1 g2 hb hn
      generalize rd L (m : Int) = r at r0 r1
      exact ⟨wrap_id (by omega) (by omega), wrap_id (by omega) (by omega)⟩
    have k1 : 0 ≤ (m : Int) + 1 ∧ (m : Int) + 1 ≤ (L.length : Int) := by clear p1 p2 r2 r3 z0 z1 q2 q3 r0 r1; omega
    have k2 : 0 ≤ q + rd L (m : Int) := by clear p1 p2 r2 r3 z0 z1; omega
    have k3 : 0 < n := by clear p1 p2 r2 r3 z0 z1 q2 q3 r0 r1; omega
    obtain ⟨a0, a1⟩ := tm_bd (x := rd L (m : Int)) (n := n) r0 k3
    obtain ⟨b0, b1⟩ := tm_bd (x := q + rd L (m : Int)) (n := n) k2 k3
    by_cases c4 : n ≤ 256
    · simp only [if_pos c2, if_pos g1, if_pos c4, p1, p2, r2, r3]
      by_cases c3 : Int.tmod ((m : Int) + 1) 2 = 0
      · rw [if_pos c3]
        exact ⟨_, _, _, rfl, ⟨k1.1, k1.2, z0, z1⟩, a0, a1⟩
      · rw [if_neg c3]
        exact ⟨_, _, _, rfl, ⟨k1.1, k1.2, z0, z1⟩, b0, b1⟩
    · simp only [if_pos c2, if_pos g1, if_neg c4, p1, p2, r2, r3]
      exact ⟨_, _, _, rfl, ⟨k1.1, k1.2, z0, z1⟩, b0, b1⟩
  · rw [if_neg c2]
    obtain ⟨b0, b1⟩ := tm_bd (x := q) (n := n) (by omega) (by omega)
    exact ⟨_, _, _, rfl, ⟨g1, g2, z0, z1⟩, b0, b1⟩
theorem pick_ok {L : List Int} (hL : By L) {p z : Int} (g : Gd L p z) (l : List Int) (h1 : 1 ≤ l.length) (h2 : l.length ≤ 256) : ∃ v p' z' : Int, spec_l01Pick.f L p z l = some (v, p', z') ∧ Gd L p' z' := by
  obtain ⟨v, p', z', e, g', v0, v1⟩ := next_ok hL g (l.length : Int) (by omega) (by omega)
  refine ⟨rd l v, p', z', ?_, g'⟩
  unfold spec_l01Pick.f
  rw [e, Option.bind_some, if_pos v0, if_pos v1]
theorem from_ev {L : List Int} (hL : By L) : ∃ z, Ev (fun k => spec_l01From.f k L) (L, 0, z) ∧ Gd L 0 z := by
  have loop : ∀ (d i : Nat) (z : Int), i + d = 64 → 0 ≤ z → z < 2147483647 → ∃ z', Ev (fun k => spec_l01From.l0 k L (i : Int) L 0 z) (L, 0, z') ∧ Gd L 0 z' := by
    intro d
    induction d with
    | zero =>
      intro i z hi h0 h1
      refine ⟨z, Ev.dn ?_, by omega, by omega, h0, h1⟩
      simp only [spec_l01From.l0, if_neg (show ¬ (i : Int) < 64 by omega), ite_self]
      exact Ev.now _
    | succ d ih =>
      intro i z hi h0 h1
      by_cases c : (i : Int) < (L.length : Int)
      · obtain ⟨r0, r1⟩ := hL.2 i (by omega)
        have w1 : wrap64 (z * 83) = z * 83 := wrap_id (by clear ih; omega) (by clear ih; omega)
        have w2 : wrap64 (rd L (i : Int)) = rd L (i : Int) := wrap_id (by clear ih; omega) (by clear ih; omega)
        have w3 : wrap64 (z * 83 + rd L (i : Int)) = z * 83 + rd L (i : Int) := wrap_id (by clear ih; omega) (by clear ih; omega)
        obtain ⟨z0, z1⟩ := tm_bd (x := z * 83 + rd L (i : Int)) (n := 2147483647) (by clear ih; omega) (by decide)
        obtain ⟨z', h2, h3⟩ := ih (i + 1) _ (by clear ih; omega) z0 z1
        refine ⟨z', Ev.dn ?_, h3⟩
        have hw := wrap_succ (i := i) (n := 64) (by clear ih; omega) (by omega)
        simp only [spec_l01From.l0, if_pos c, if_pos (show (i : Int) < 64 by clear ih; omega), if_pos (show (0 : Int) ≤ (i : Int) by clear ih; omega), w1, w2, w3, hw]
        exact h2
      · refine ⟨z, Ev.dn ?_, by omega, by omega, h0, h1⟩
        simp only [spec_l01From.l0, if_neg c]
        exact Ev.now _
  unfold spec_l01From.f
  exact loop 64 0 61043 (by omega) (by omega) (by omega)
/-- Moves whose zones are short. -/
def mvOk (l : List S42) : Prop := ∀ y ∈ l, y.f1.size ≤ 100
theorem mvOk_sz {l : List S42} (h : mvOk l) : szOk l := fun j hj => by
  rw [rd_T42_nat hj]
  exact Nat.le_trans (h _ (List.getElem_mem hj)) (by decide)
theorem mvOk_snoc {l : List S42} {m : S42} (h : mvOk l) (hm : m.f1.size ≤ 100) : mvOk (l ++ [m]) := by
  intro y hy
  rcases List.mem_append.1 hy with h1 | h1
  · exact h y h1
  · rw [List.mem_singleton.1 h1]; exact hm
theorem mvOk_nil : mvOk ([] : List S42) := fun y hy => by simp at hy
theorem areMv_len {l : List S42} (h : areMv l = true) : l.length ≤ 40 := by
  unfold areMv at h
  simp only [Bool.and_eq_true, decide_eq_true_eq] at h
  exact h.2
theorem areMv_chg {l : List S42} (h : areMv l = true) : chg l l.length := by
  unfold areMv at h
  simp only [Bool.and_eq_true, decide_eq_true_eq] at h
  exact mvB_chg (fun j hj => (allD_iff _ _ _).1 h.1 j (Nat.zero_le _) (by omega))
theorem rdOf_sz (l : List ByteArray) (hz : ∀ y ∈ l, y.size ≤ 100) (m : Nat) (hm : m < l.length) : (rdOf ByteArray.empty l (m : Int)).size ≤ 100 := by
  rw [rdOf_nat hm]
  exact hz _ (List.getElem_mem hm)
theorem zone_ok {L : List Int} (hL : By L) {p z : Int} (g : Gd L p z) : ∃ (v : ByteArray) (p' z' : Int), spec_l20Zone.f L p z = some (v, p', z') ∧ Gd L p' z' ∧ v.size ≤ 100 := by
  obtain ⟨v, p', z', e, g', v0, v1⟩ := next_ok hL g 3 (by omega) (by omega)
  obtain ⟨m, rfl⟩ := Int.eq_ofNat_of_zero_le v0
  unfold spec_l20Zone.f
  simp only [Option.bind_some, e, if_pos v0]
  rw [if_pos (by simp only [List.length_cons, List.length_nil]; omega)]
  exact ⟨_, p', z', rfl, g', rdOf_sz _ (by decide) m (by simp only [List.length_cons, List.length_nil]; omega)⟩
theorem good01_ok {L : List Int} (hL : By L) {p z : Int} (g : Gd L p z) : ∃ (v : ByteArray) (p' z' : Int), spec_l01Good.f L p z = some (v, p', z') ∧ Gd L p' z' ∧ v.size ≤ 100 := by
  obtain ⟨v, p', z', e, g', v0, v1⟩ := next_ok hL g 12 (by omega) (by omega)
  obtain ⟨m, rfl⟩ := Int.eq_ofNat_of_zero_le v0
  unfold spec_l01Good.f
  simp only [Option.bind_some, e, if_pos v0]
  rw [if_pos (by simp only [List.length_cons, List.length_nil]; omega)]
  exact ⟨_, p', z', rfl, g', rdOf_sz _ (by decide) m (by simp only [List.length_cons, List.length_nil]; omega)⟩
theorem word_ok {L : List Int} (hL : By L) {p z : Int} (g : Gd L p z) : ∃ (v : ByteArray) (p' z' : Int), spec_l01DrawWord.f L p z = some (v, p', z') ∧ Gd L p' z' ∧ v.size ≤ 100 := by
  obtain ⟨v, p1, z1, e, g1, v0, v1⟩ := next_ok hL g 24 (by omega) (by omega)
  unfold spec_l01DrawWord.f
  by_cases c : v = 0
  · obtain ⟨u, p', z', e2, g', u0, u1⟩ := next_ok hL g1 6 (by omega) (by omega)
    obtain ⟨m, rfl⟩ := Int.eq_ofNat_of_zero_le u0
    simp only [Option.bind_some, e, if_pos c, e2, if_pos u0]
    rw [if_pos (by simp only [List.length_cons, List.length_nil]; omega)]
    exact ⟨_, p', z', rfl, g', rdOf_sz _ (by decide) m (by simp only [List.length_cons, List.length_nil]; omega)⟩
  · obtain ⟨u, p', z', e2, g', hu⟩ := good01_ok hL g1
    simp only [Option.bind_some, e, if_neg c, e2]
    exact ⟨u, p', z', rfl, g', hu⟩
theorem addmv_ok (l : List S42) (a : Int) (z : ByteArray) (c : Int) (hl : l.length ≤ 100) (hm : mvOk l) (hz : z.size ≤ 100) : ∃ (o : List S42) (d : Int), Ev (fun k => spec_AddMove.f k l a z c) (o, d) ∧ (d = 0 → areMv o = true ∧ mvOk o) := by
  unfold spec_AddMove.f
  have hs : mvOk (l ++ [(⟨a, z, c⟩ : S42)]) := mvOk_snoc hm hz
  have e1 := spec_AreMoves_ev l (by omega) (mvOk_sz hm)
  have e2 := spec_AreMoves_ev (l ++ [(⟨a, z, c⟩ : S42)]) (by rw [List.length_append, List.length_singleton]; omega) (mvOk_sz hs)
  cases h1 : areMv l with
  | false =>
    rw [h1] at e1
    refine ⟨[], 1, Ev.bind e1 ?_, fun h => absurd h (by decide)⟩
    simp only [Bool.false_eq_true, if_false]
    exact Ev.now _
  | true =>
    rw [h1] at e1
    by_cases c40 : (l.length : Int) = 40
    · refine ⟨[], 3, Ev.bind e1 ?_, fun h => absurd h (by decide)⟩
      simp only [if_true, if_pos c40]
      exact Ev.now _
    · cases h2 : areMv (l ++ [(⟨a, z, c⟩ : S42)]) with
      | false =>
        rw [h2] at e2
        refine ⟨[], 5, Ev.bind e1 ?_, fun h => absurd h (by decide)⟩
        simp only [if_true, if_neg c40, Option.bind_some, List.nil_append, List.length_nil, List.length_singleton, Nat.zero_add, if_pos (show l.length < 4398046511104 by omega), if_pos (show l.length + 1 < 4398046511104 by omega)]
        refine Ev.bind e2 ?_
        simp only [Bool.false_eq_true, if_false]
        exact Ev.now _
      | true =>
        rw [h2] at e2
        refine ⟨l ++ [(⟨a, z, c⟩ : S42)], 0, Ev.bind e1 ?_, fun _ => ⟨h2, hs⟩⟩
        simp only [if_true, if_neg c40, Option.bind_some, List.nil_append, List.length_nil, List.length_singleton, Nat.zero_add, if_pos (show l.length < 4398046511104 by omega), if_pos (show l.length + 1 < 4398046511104 by omega)]
        refine Ev.bind e2 ?_
        simp only [if_true]
        exact Ev.now _
theorem good20_loop {L : List Int} (hL : By L) : ∀ (c : Nat) (x : List S42) (t p z : Int), c ≤ 100 → Gd L p z → areMv x = true → mvOk x → ∃ (xs : List S42) (p' z' : Int), Ev (fun k => spec_l20Good.l0 k x t (c : Int) L p z) (xs, p', z') ∧ Gd L p' z' ∧ areMv xs = true ∧ mvOk xs := by
  intro c
  induction c with
  | zero =>
    intro x t p z hc g ha hm
    refine ⟨x, p, z, Ev.dn ?_, g, ha, hm⟩
    simp only [spec_l20Good.l0, if_neg (show ¬ ((0 : Nat) : Int) > 0 by omega)]
    exact Ev.now _
  | succ c ih =>
    intro x t p z hc g ha hm
    have h40 := areMv_len ha
    have hch := areMv_chg ha
    obtain ⟨zn, p1, z1, e1, g1, hz⟩ := zone_ok hL g
    obtain ⟨v2, p2, z2, e2, g2, _, _⟩ := next_ok hL g1 4 (by omega) (by omega)
    have hp := spec_l20People_ev x zn x.length (Nat.le_refl _) (by omega) hch
    have w : wrap64 (((c + 1 : Nat) : Int) - 1) = (c : Int) := by rw [wrap_id (by clear ih; omega) (by clear ih; omega)]; clear ih; omega
    have J2 : ∀ (p z ch : Int), Gd L p z → ∃ (xs : List S42) (p' z' : Int), Ev (fun k => spec_l20Good.j2 k x t ((c + 1 : Nat) : Int) L p z t zn ch) (xs, p', z') ∧ Gd L p' z' ∧ areMv xs = true ∧ mvOk xs := by
      intro p z ch g
      obtain ⟨o, d, ea, ho⟩ := addmv_ok x t zn ch (by omega) hm hz
      obtain ⟨v3, p3, z3, e3, g3, _, _⟩ := next_ok hL g 20000 (by omega) (by omega)
      obtain ⟨v4, p4, z4, e4, g4, _, _⟩ := next_ok hL g3 60000 (by omega) (by omega)
      obtain ⟨v5, p5, z5, e5, g5⟩ := pick_ok hL g4 [0, v3, v4] (by simp) (by simp)
      by_cases cd : d = 0
      · obtain ⟨ha2, hm2⟩ := ho cd
        obtain ⟨xs, p', z', h1, h2, h3, h4⟩ := ih o (wrap64 (t + v5)) p5 z5 (by omega) g5 ha2 hm2
        refine ⟨xs, p', z', Ev.dn ?_, h2, h3, h4⟩
        simp only [spec_l20Good.j2]
        refine Ev.bind ea ?_
        simp only [if_pos cd, e3, e4, e5, Option.bind_some, w]
        exact h1
      · obtain ⟨xs, p', z', h1, h2, h3, h4⟩ := ih x (wrap64 (t + v5)) p5 z5 (by omega) g5 ha hm
        refine ⟨xs, p', z', Ev.dn ?_, h2, h3, h4⟩
        simp only [spec_l20Good.j2]
        refine Ev.bind ea ?_
        simp only [if_neg cd, e3, e4, e5, Option.bind_some, w]
        exact h1
    have J1 : ∀ (b : Bool) (p z q ch : Int), Gd L p z → ∃ (xs : List S42) (p' z' : Int), Ev (fun k => spec_l20Good.j1 k x t ((c + 1 : Nat) : Int) q b L p z t zn ch) (xs, p', z') ∧ Gd L p' z' ∧ areMv xs = true ∧ mvOk xs := by
      intro b p z q ch g
      cases b with
      | true =>
        obtain ⟨v, p1, z1, e, g1⟩ := pick_ok hL g [q, 1, q] (by simp) (by simp)
        obtain ⟨xs, p', z', h1, r⟩ := J2 p1 z1 (wrap64 (-v)) g1
        refine ⟨xs, p', z', Ev.dn ?_, r⟩
        simp only [spec_l20Good.j1, if_true, e, Option.bind_some]
        exact h1
      | false =>
        obtain ⟨xs, p', z', h1, r⟩ := J2 p z ch g
        refine ⟨xs, p', z', Ev.dn ?_, r⟩
        simp only [spec_l20Good.j1, Bool.false_eq_true, if_false]
        exact h1
    by_cases cp : ppl x zn x.length > 0
    · obtain ⟨v3, p3, z3, e3, g3, _, _⟩ := next_ok hL g2 3 (by omega) (by omega)
      obtain ⟨xs, p', z', h1, r⟩ := J1 (decide (v3 > 0)) p3 z3 (ppl x zn x.length) (wrap64 (1 + v2)) g3
      refine ⟨xs, p', z', Ev.dn ?_, r⟩
      simp only [spec_l20Good.l0, if_pos (show ((c + 1 : Nat) : Int) > 0 by clear ih; omega), e1, e2, Option.bind_some]
      refine Ev.bind hp ?_
      simp only [if_pos cp, e3, Option.bind_some]
      exact h1
    · obtain ⟨xs, p', z', h1, r⟩ := J1 false p2 z2 (ppl x zn x.length) (wrap64 (1 + v2)) g2
      refine ⟨xs, p', z', Ev.dn ?_, r⟩
      simp only [spec_l20Good.l0, if_pos (show ((c + 1 : Nat) : Int) > 0 by clear ih; omega), e1, e2, Option.bind_some]
      refine Ev.bind hp ?_
      simp only [if_neg cp]
      exact h1
theorem good20_ok {L : List Int} (hL : By L) {p z : Int} (g : Gd L p z) : ∃ (xs : List S42) (p' z' : Int), Ev (fun k => spec_l20Good.f k L p z) (xs, p', z') ∧ Gd L p' z' ∧ areMv xs = true ∧ mvOk xs := by
  obtain ⟨v, p1, z1, e1, g1, _, _⟩ := next_ok hL g 5000 (by omega) (by omega)
  obtain ⟨q, p2, z2, e2, g2, q0, q1⟩ := next_ok hL g1 9 (by omega) (by omega)
  obtain ⟨m, rfl⟩ := Int.eq_ofNat_of_zero_le q0
  obtain ⟨xs, p', z', h1, r⟩ := good20_loop hL m [] v p2 z2 (by omega) g2 (by decide) mvOk_nil
  refine ⟨xs, p', z', ?_, r⟩
  unfold spec_l20Good.f
  simp only [e1, e2, Option.bind_some]
  exact h1
theorem draw20_loop {L : List Int} (hL : By L) : ∀ (d : Nat) (x : List S42) (p z : Int), Gd L p z → 41 ≤ x.length + d → x.length ≤ 90 → mvOk x → ∃ (xs : List S42) (p' z' : Int), Ev (fun k => spec_l20Draw.l0 k x L p z) (xs, p', z') ∧ Gd L p' z' ∧ xs.length ≤ 100 ∧ mvOk xs := by
  intro d
  induction d with
  | zero =>
    intro x p z g hd hx hm
    obtain ⟨v, p1, z1, e1, g1, v0, v1⟩ := next_ok hL g 2 (by omega) (by omega)
    have w : wrap64 (40 + v) = 40 + v := wrap_id (by omega) (by omega)
    refine ⟨x, p1, z1, Ev.dn ?_, g1, by omega, hm⟩
    simp only [spec_l20Draw.l0, e1, Option.bind_some, w, if_neg (show ¬ (x.length : Int) < 40 + v by omega)]
    exact Ev.now _
  | succ d ih =>
    intro x p z g hd hx hm
    obtain ⟨v, p1, z1, e1, g1, v0, v1⟩ := next_ok hL g 2 (by omega) (by omega)
    have w : wrap64 (40 + v) = 40 + v := wrap_id (by omega) (by omega)
    by_cases c : (x.length : Int) < 40 + v
    · obtain ⟨xs, p', z', h1, h2⟩ := ih (x ++ [(⟨900000, (⟨#[102, 105, 101, 108, 100]⟩ : ByteArray), 1⟩ : S42)]) p1 z1 g1 (by rw [List.length_append, List.length_singleton]; omega) (by rw [List.length_append, List.length_singleton]; omega) (mvOk_snoc hm (by decide))
      refine ⟨xs, p', z', Ev.dn ?_, h2⟩
      simp only [spec_l20Draw.l0, e1, Option.bind_some, w, if_pos c, if_pos (show x.length < 4398046511104 by clear ih; omega)]
      exact h1
    · refine ⟨x, p1, z1, Ev.dn ?_, g1, by omega, hm⟩
      simp only [spec_l20Draw.l0, e1, Option.bind_some, w, if_neg c]
      exact Ev.now _
theorem draw20_ok {L : List Int} (hL : By L) {p z : Int} (g : Gd L p z) : ∃ (xs : List S42) (p' z' : Int), Ev (fun k => spec_l20Draw.f k L p z) (xs, p', z') ∧ Gd L p' z' ∧ xs.length ≤ 100 ∧ mvOk xs := by
  obtain ⟨x, p1, z1, h1, g1, ha, hm⟩ := good20_ok hL g
  have h40 := areMv_len ha
  obtain ⟨v, p2, z2, e2, g2, v0, v1⟩ := next_ok hL g1 30 (by omega) (by omega)
  unfold spec_l20Draw.f
  by_cases c0 : v = 0
  · obtain ⟨u, p3, z3, e3, g3⟩ := pick_ok hL g2 [0, 10000000, 10000001] (by decide) (by decide)
    obtain ⟨zn, p4, z4, e4, g4, hz⟩ := zone_ok hL g3
    obtain ⟨q, p5, z5, e5, g5⟩ := pick_ok hL g4 [(-1), 0, 1000, 1001] (by decide) (by decide)
    refine ⟨x ++ [(⟨u, zn, q⟩ : S42)], p5, z5, Ev.bind h1 ?_, g5, ?_, mvOk_snoc hm hz⟩
    · simp only [e2, Option.bind_some, if_pos c0, e3, e4, e5, if_pos (show x.length < 4398046511104 by omega)]
      exact Ev.now _
    · rw [List.length_append, List.length_singleton]; omega
  by_cases c1 : v = 1
  · obtain ⟨xs, p3, z3, h3, g3, r⟩ := draw20_loop hL 41 x p2 z2 g2 (by omega) (by omega) hm
    refine ⟨xs, p3, z3, Ev.bind h1 ?_, g3, r⟩
    simp only [e2, Option.bind_some, if_neg c0, if_pos c1]
    exact h3
  · refine ⟨x, p2, z2, Ev.bind h1 ?_, g2, by omega, hm⟩
    simp only [e2, Option.bind_some, if_neg c0, if_neg c1]
    exact Ev.now _
theorem below_ok {L : List Int} (hL : By L) (h n : Int) (h1 : 1 ≤ n) (h2 : n ≤ 100000000) : ∃ v q h' : Int, laws_dice_below.f L 0 h n = some (v, q, h') ∧ 0 ≤ v ∧ v < n := by
  obtain ⟨y, hy⟩ : ∃ y, IntKind.u64.wrap ((IntKind.u64.wrap (h * 6364136223846793005)) + 1442695040888963407) = y := ⟨_, rfl⟩
  have hb : 0 ≤ y ∧ y < 18446744073709551616 := by
    rw [← hy, IntKind.wrap_u64]
    generalize (IntKind.u64.wrap (h * 6364136223846793005)) + 1442695040888963407 = z
    omega
  have hm : Go.bits .and .u64 (y / 8589934592) 16777215 = (y / 8589934592) % 16777216 := by
    have := bits_mask .u64 31 (by decide) (fun n h₀ h₁ => by rw [IntKind.wrap_u64]; omega) 24 (by decide) (y / 8589934592) (by omega) (by omega)
    simpa using this
  obtain ⟨m, hmm⟩ : ∃ m, (y / 8589934592) % 16777216 = m := ⟨_, rfl⟩
  have hm2 : 0 ≤ m ∧ m < 16777216 := by rw [← hmm]; omega
  have w1 : wrap64 m = m := wrap_id (by omega) (by omega)
  have hn : ¬ n = 0 := by omega
  unfold laws_dice_below.f
  simp only [hy, hm, hmm, w1, if_neg hn]
  by_cases c : (0 : Int) < (L.length : Int)
  · obtain ⟨r0, r1⟩ := hL.2 0 (by omega)
    have r0' : 0 ≤ rd L 0 := r0
    have r1' : rd L 0 ≤ 255 := r1
    have w2 : wrap64 (rd L 0) = rd L 0 := wrap_id (by omega) (by omega)
    have w3 : wrap64 (m + rd L 0) = m + rd L 0 := wrap_id (by omega) (by omega)
    simp only [if_pos c, if_pos (Int.le_refl (0 : Int)), w2, w3]
    obtain ⟨b0, b1⟩ := tm_bd (x := m + rd L 0) (n := n) (by omega) (by omega)
    exact ⟨_, _, _, rfl, b0, b1⟩
  · simp only [if_neg c]
    obtain ⟨b0, b1⟩ := tm_bd (x := m) (n := n) hm2.1 (by omega)
    exact ⟨_, _, _, rfl, b0, b1⟩
theorem time_ok {L : List Int} (hL : By L) {p z : Int} (g : Gd L p z) : ∃ v p' z' : Int, spec_l01DrawTime.f L p z = some (v, p', z') ∧ Gd L p' z' := by
  obtain ⟨v, p1, z1, e1, g1, _, _⟩ := next_ok hL g 16 (by omega) (by omega)
  unfold spec_l01DrawTime.f
  by_cases c : v = 0
  · obtain ⟨u, p2, z2, e2, g2⟩ := pick_ok hL g1 [0, 10000000, 10000001, (-1)] (by decide) (by decide)
    refine ⟨u, p2, z2, ?_, g2⟩
    simp only [e1, Option.bind_some, if_pos c, e2]
  · obtain ⟨u2, p2, z2, e2, g2, _, _⟩ := next_ok hL g1 1000000 (by omega) (by omega)
    obtain ⟨u3, p3, z3, e3, g3, _, _⟩ := next_ok hL g2 60000 (by omega) (by omega)
    obtain ⟨u4, p4, z4, e4, g4, _, _⟩ := next_ok hL g3 10000001 (by omega) (by omega)
    obtain ⟨u, p5, z5, e5, g5⟩ := pick_ok hL g4 [u2, u3, u4] (by simp) (by simp)
    refine ⟨u, p5, z5, ?_, g5⟩
    simp only [e1, Option.bind_some, if_neg c, e2, e3, e4, e5]
theorem dPpl {L : List Int} (hL : By L) : ∃ (l : List S42) (zn : ByteArray) (t : Int), Ev (fun k => spec_DrawPeopleIn.f k L) (l, zn, t) ∧ l.length ≤ 100 ∧ mvOk l ∧ zn.size ≤ 100 := by
  obtain ⟨z, h0, g0⟩ := from_ev hL
  obtain ⟨l, p1, z1, h1, g1, hn, hm⟩ := draw20_ok hL g0
  obtain ⟨zn, p2, z2, e2, g2, hz⟩ := zone_ok hL g1
  obtain ⟨v, p3, z3, e3, g3, _, _⟩ := next_ok hL g2 24 (by omega) (by omega)
  have J1 : ∀ (b : Bool) (zn : ByteArray) (p z : Int), Gd L p z → (b = true → 0 < l.length) → ∃ t : Int, Ev (fun k => spec_DrawPeopleIn.j1 k l zn b L p z) (l, zn, t) := by
    intro b zn p z g hb
    cases b with
    | true =>
      have hb := hb rfl
      obtain ⟨v, p1, z1, e1, g1, v0, v1⟩ := next_ok hL g (l.length : Int) (by omega) (by omega)
      obtain ⟨u, p2, z2, e2, g2⟩ := pick_ok hL g1 [0, (-1), 30000, 29999, 1] (by decide) (by decide)
      refine ⟨wrap64 ((rd_T42 l v).f0 + u), Ev.dn ?_⟩
      simp only [spec_DrawPeopleIn.j1, if_true, e1, Option.bind_some, if_pos v0, if_pos v1, e2]
      exact Ev.now _
    | false =>
      obtain ⟨u2, p2, z2, e2, g2, _, _⟩ := next_ok hL g 300000 (by omega) (by omega)
      obtain ⟨u3, p3, z3, e3, g3, _, _⟩ := next_ok hL g2 300000 (by omega) (by omega)
      obtain ⟨u4, p4, z4, e4, g4⟩ := time_ok hL g3
      obtain ⟨u, p5, z5, e5, g5⟩ := pick_ok hL g4 [u2, u3, u4] (by simp) (by simp)
      refine ⟨u, Ev.dn ?_⟩
      simp only [spec_DrawPeopleIn.j1, Bool.false_eq_true, if_false, e2, e3, e4, e5, Option.bind_some]
      exact Ev.now _
  have J0 : ∀ (zn : ByteArray) (p z : Int), Gd L p z → ∃ t : Int, Ev (fun k => spec_DrawPeopleIn.j0 k l zn L p z) (l, zn, t) := by
    intro zn p z g
    by_cases c : (l.length : Int) > 0
    · obtain ⟨v, p1, z1, e1, g1, _, _⟩ := next_ok hL g 2 (by omega) (by omega)
      obtain ⟨t, h⟩ := J1 (v == 0) zn p1 z1 g1 (fun _ => by omega)
      refine ⟨t, Ev.dn ?_⟩
      simp only [spec_DrawPeopleIn.j0, if_pos c, e1, Option.bind_some]
      exact h
    · obtain ⟨t, h⟩ := J1 false zn p z g (fun h => absurd h (by decide))
      refine ⟨t, Ev.dn ?_⟩
      simp only [spec_DrawPeopleIn.j0, if_neg c]
      exact h
  unfold spec_DrawPeopleIn.f
  by_cases c : v = 0
  · obtain ⟨wd, p4, z4, e4, g4, hw⟩ := word_ok hL g3
    obtain ⟨t, h⟩ := J0 wd p4 z4 g4
    refine ⟨l, wd, t, Ev.bind h0 (Ev.bind h1 ?_), hn, hm, hw⟩
    simp only [e2, e3, Option.bind_some, if_pos c, e4]
    exact h
  · obtain ⟨t, h⟩ := J0 zn p3 z3 g3
    refine ⟨l, zn, t, Ev.bind h0 (Ev.bind h1 ?_), hn, hm, hz⟩
    simp only [e2, e3, Option.bind_some, if_neg c]
    exact h
theorem dClr {L : List Int} (hL : By L) : ∃ (l : List S42) (zn : ByteArray) (t : Int), Ev (fun k => spec_DrawClearFrom.f k L) (l, zn, t) ∧ l.length ≤ 100 ∧ mvOk l ∧ zn.size ≤ 100 := by
  obtain ⟨l, zn, t, h, r⟩ := dPpl hL
  refine ⟨l, zn, t, ?_, r⟩
  unfold spec_DrawClearFrom.f
  exact Ev.bind h (Ev.now _)
def wsOk (zs : List ByteArray) : Prop := ∀ y ∈ zs, y.size ≤ 100
theorem dAll_loop {L : List Int} (hL : By L) (l : List S42) (t : Int) : ∀ (d : Nat) (x : List ByteArray) (p z : Int), Gd L p z → 61 ≤ x.length + d → x.length ≤ 90 → wsOk x → ∃ xs : List ByteArray, Ev (fun k => spec_DrawAreAllClear.l0 k l t x L p z) (l, xs, t) ∧ xs.length ≤ 100 ∧ wsOk xs := by
  intro d
  induction d with
  | zero =>
    intro x p z g hd hx hm
    obtain ⟨v, p1, z1, e1, g1, v0, v1⟩ := next_ok hL g 2 (by omega) (by omega)
    have w : wrap64 (60 + v) = 60 + v := wrap_id (by omega) (by omega)
    refine ⟨x, Ev.dn ?_, by omega, hm⟩
    simp only [spec_DrawAreAllClear.l0, e1, Option.bind_some, w, if_neg (show ¬ (x.length : Int) < 60 + v by omega)]
    exact Ev.now _
  | succ d ih =>
    intro x p z g hd hx hm
    obtain ⟨v, p1, z1, e1, g1, v0, v1⟩ := next_ok hL g 2 (by omega) (by omega)
    have w : wrap64 (60 + v) = 60 + v := wrap_id (by omega) (by omega)
    by_cases c : (x.length : Int) < 60 + v
    · have hm2 : wsOk (x ++ [(⟨#[98, 97, 110, 107]⟩ : ByteArray)]) := by
        intro y hy
        rcases List.mem_append.1 hy with h | h
        · exact hm y h
        · rw [List.mem_singleton.1 h]; decide
      obtain ⟨xs, h1, h2⟩ := ih (x ++ [(⟨#[98, 97, 110, 107]⟩ : ByteArray)]) p1 z1 g1 (by rw [List.length_append, List.length_singleton]; omega) (by rw [List.length_append, List.length_singleton]; omega) hm2
      refine ⟨xs, Ev.dn ?_, h2⟩
      simp only [spec_DrawAreAllClear.l0, e1, Option.bind_some, w, if_pos c, if_pos (show x.length < 8796093022208 by clear ih; omega)]
      exact h1
    · refine ⟨x, Ev.dn ?_, by omega, hm⟩
      simp only [spec_DrawAreAllClear.l0, e1, Option.bind_some, w, if_neg c]
      exact Ev.now _
theorem dAll {L : List Int} (hL : By L) : ∃ (l : List S42) (zs : List ByteArray) (t : Int), Ev (fun k => spec_DrawAreAllClear.f k L) (l, zs, t) ∧ l.length ≤ 100 ∧ mvOk l ∧ zs.length ≤ 100 ∧ wsOk zs := by
  obtain ⟨z, h0, g0⟩ := from_ev hL
  obtain ⟨l, zn, t, h1, hn, hm, hz⟩ := dPpl hL
  obtain ⟨v, p2, z2, e2, g2, v0, v1⟩ := next_ok hL g0 4 (by omega) (by omega)
  obtain ⟨u, p3, z3, e3, g3, _, _⟩ := next_ok hL g2 24 (by omega) (by omega)
  obtain ⟨y, hy⟩ : ∃ y, ([zn, (⟨#[98, 97, 110, 107]⟩ : ByteArray), (⟨#[114, 105, 118, 101, 114]⟩ : ByteArray)] : List ByteArray) = y := ⟨_, rfl⟩
  have hyl : y.length = 3 := by rw [← hy]; rfl
  have hyo : wsOk y := by
    intro q hq
    rw [← hy] at hq
    simp only [List.mem_cons, List.not_mem_nil, or_false] at hq
    rcases hq with rfl | rfl | rfl
    · exact hz
    · decide
    · decide
  have hto : wsOk (y.take v.toNat) := fun q hq => hyo q (List.mem_of_mem_take hq)
  have htl : (y.take v.toNat).length ≤ 3 := by rw [List.length_take]; omega
  unfold spec_DrawAreAllClear.f
  by_cases c : u = 0
  · obtain ⟨xs, h4, r⟩ := dAll_loop hL l t 61 (y.take v.toNat) p3 z3 g3 (by omega) (by omega) hto
    refine ⟨l, xs, t, Ev.bind h0 (Ev.bind h1 ?_), hn, hm, r⟩
    simp only [Option.bind_some, hy, e2, if_pos v0, if_pos (show v ≤ (y.length : Int) by omega), e3, if_pos c]
    exact h4
  · refine ⟨l, y.take v.toNat, t, Ev.bind h0 (Ev.bind h1 ?_), hn, hm, by omega, hto⟩
    simp only [Option.bind_some, hy, e2, if_pos v0, if_pos (show v ≤ (y.length : Int) by omega), e3, if_neg c]
    exact Ev.now _
theorem roll_ev {L : List Int} (hL : By L) (a : Int) : ∃ h : Int, Ev (fun k => laws_roll.f k L a) (L, 0, h) := by
  have loop : ∀ (d i : Nat) (h : Int), i + d = L.length → ∃ h', Ev (fun k => laws_roll.l0 k L (i : Int) L 0 h) (L, 0, h') := by
    intro d
    induction d with
    | zero =>
      intro i h hi
      refine ⟨h, Ev.dn ?_⟩
      simp only [laws_roll.l0, if_neg (show ¬ (i : Int) < (L.length : Int) by omega)]
      exact Ev.now _
    | succ d ih =>
      intro i h hi
      obtain ⟨h', e⟩ := ih (i + 1) (IntKind.u64.wrap ((IntKind.u64.wrap ((IntKind.u64.wrap (h * 1099511628211)) + (IntKind.u64.wrap (rd L (i : Int))))) + 3)) (by omega)
      have hw := wrap_succ (i := i) (n := L.length) (by omega) (by have := hL.1; omega)
      refine ⟨h', Ev.dn ?_⟩
      simp only [laws_roll.l0, if_pos (show (i : Int) < (L.length : Int) by omega), if_pos (show (0 : Int) ≤ (i : Int) by omega), hw]
      exact e
  unfold laws_roll.f
  exact loop L.length 0 _ (by omega)
theorem cdZ_at {l : List S42} {z : ByteArray} {t s : Int} (h : cdZ l z t = 0) (h0 : 0 ≤ s) (h1 : s ≤ 10000000) : cdZ l z s = 0 := by
  unfold cdZ at h ⊢
  by_cases c : areMv l = true ∧ isWd z = true
  · rw [if_pos c, if_pos ⟨h0, h1⟩]
  · rw [if_neg c] at h; exact absurd h (by decide)
theorem isC_at {l : List S42} {z : ByteArray} {t : Int} (h : cdZ l z t = 0) : isC l z t = (clr l z t, 0) := by
  unfold isC
  rw [if_pos h]
/-- What ClearFrom finds. -/
def clrF (l : List S42) (z : ByteArray) (t : Int) (r : Int × Int) : Prop := (¬ cdZ l z t = 0 ∧ r = (0, cdZ l z t)) ∨ (cdZ l z t = 0 ∧ clr l z t = true ∧ r = (t, 0)) ∨ (cdZ l z t = 0 ∧ clr l z t = false ∧ firstOf (zoneAt l z t 0) (clr l z) r)
theorem sz100 {z : ByteArray} (h : z.size ≤ 100) : z.size ≤ 9223372036854775807 := Nat.le_trans h (by decide)
theorem clear_j7 {L : List Int} (hL : By L) (l : List S42) (z : ByteArray) (t : Int) (r : Int × Int) (hl : l.length ≤ 1000000) (hz : szOk l) (hs : z.size ≤ 100) (T : clrF l z t r) (h0 : r.2 = 0) : Ev (fun k => laws_FnClear.j7 k L l z t r.1 (isC l z t).1 false) true := by
  refine Ev.dn ?_
  simp only [laws_FnClear.j7, Bool.false_eq_true, if_false]
  rcases T with ⟨cn, rfl⟩ | ⟨cd, hc, rfl⟩ | ⟨cd, hc, hf⟩
  · exact absurd h0 cn
  · rw [isC_at cd, hc]
    simp only [if_true]
    exact Ev.now _
  · obtain ⟨hm, t0, t1⟩ := cdZ_zero cd
    obtain ⟨hb, _⟩ := areMv_ok hm
    obtain ⟨b0, b1, _⟩ := first_is hf h0
    obtain ⟨f, hff⟩ : ∃ f, r.1 = f := ⟨_, rfl⟩
    have none_ := fun s h1 h2 => first_none (s := s) hb hc hf h0 h1 h2
    rw [hff] at b0 b1 none_ ⊢
    obtain ⟨h, eR⟩ := roll_ev hL 2001
    have w : wrap64 (f - t) = f - t := wrap_id (by omega) (by omega)
    obtain ⟨v, q, h', eB, v0, v1⟩ := below_ok hL h (f - t) (by omega) (by omega)
    have w2 : wrap64 (t + v) = t + v := wrap_id (by omega) (by omega)
    have e := (IsClear_is l z (t + v) hl hz (sz100 hs)).2
    rw [isC_at (cdZ_at cd (by omega) (by omega)), none_ (t + v) (by omega) (by omega)] at e
    simp only [if_neg (show ¬ f = t by omega)]
    refine Ev.bind eR ?_
    simp only [w, eB, Option.bind_some, w2]
    refine Ev.bind e ?_
    simp only [if_true, Bool.not_false]
    exact Ev.now _
theorem clear_j6 {L : List Int} (hL : By L) (l : List S42) (z : ByteArray) (t : Int) (r : Int × Int) (hl : l.length ≤ 1000000) (hz : szOk l) (hs : z.size ≤ 100) (T : clrF l z t r) : Ev (fun k => laws_FnClear.j6 k L l z t r.1 r.2 (isC l z t).1) true := by
  refine Ev.dn ?_
  by_cases h0 : r.2 = 0
  · have h7 := clear_j7 hL l z t r hl hz hs T h0
    have key : isC l z r.1 = (true, 0) ∧ t ≤ r.1 := by
      rcases T with ⟨cn, rfl⟩ | ⟨cd, hc, rfl⟩ | ⟨cd, hc, hf⟩
      · exact absurd h0 cn
      · exact ⟨by rw [isC_at cd, hc], Int.le_refl _⟩
      · obtain ⟨_, t0, t1⟩ := cdZ_zero cd
        obtain ⟨b0, b1, b2⟩ := first_is hf h0
        exact ⟨by rw [isC_at (cdZ_at cd (by omega) b1), b2], by omega⟩
    have e := (IsClear_is l z r.1 hl hz (sz100 hs)).2
    rw [key.1] at e
    simp only [laws_FnClear.j6, if_pos h0]
    refine Ev.bind e ?_
    simp only [if_true, decide_eq_false (show ¬ r.1 < t by omega)]
    exact h7
  · simp only [laws_FnClear.j6, if_neg h0]
    exact Ev.now _
theorem clear_l1 (L : List Int) (l : List S42) (z : ByteArray) (t s a b : Int) (c : Bool) (hl : l.length ≤ 1000000) (hz : szOk l) (hs : z.size ≤ 100) (cd : cdZ l z s = 0) (hts : t ≤ s) (hc : clr l z t = true) (H6 : Ev (fun k => laws_FnClear.j6 k L l z t a b c) true) : ∀ d i (m : Bool), i + d = l.length →
    (m = false → ∀ j, j < i → (rd_T42 l (j : Int)).f1.toList = z.toList → 0 < (rd_T42 l (j : Int)).f2 → t < (rd_T42 l (j : Int)).f0 → ¬ (rd_T42 l (j : Int)).f0 ≤ s) → Ev (fun k => laws_FnClear.l1 k L l z t a b c s m (i : Int)) true := by
  obtain ⟨hm, _, _⟩ := cdZ_zero cd
  obtain ⟨hb, _⟩ := areMv_ok hm
  intro d
  induction d with
  | zero =>
    intro i m hi hno
    obtain rfl : i = l.length := by omega
    have e := (IsClear_is l z s hl hz (sz100 hs)).2
    rw [isC_at cd] at e
    refine Ev.dn ?_
    simp only [laws_FnClear.l1, if_neg (show ¬ (l.length : Int) < (l.length : Int) by omega)]
    refine Ev.bind e ?_
    cases m with
    | true =>
      simp only [if_true]
      exact H6
    | false =>
      have h := clr_stays hb hts hc (hno rfl)
      simp only [h, if_true, Bool.false_eq_true, if_false]
      exact H6
  | succ d ih =>
    intro i m hi hno
    have hi2 : i < l.length := by omega
    have hw : wrap64 ((i : Int) + 1) = ((i + 1 : Nat) : Int) := wrap_succ hi2 (by omega)
    refine Ev.dn ?_
    cases m with
    | true =>
      simp only [laws_FnClear.l1, if_pos (show (i : Int) < (l.length : Int) by omega), if_true, hw]
      exact ih (i + 1) true (by omega) (fun h => absurd h (by decide))
    | false =>
      have hno := hno rfl
      have step : ¬ ((rd_T42 l (i : Int)).f1.toList = z.toList ∧ 0 < (rd_T42 l (i : Int)).f2 ∧ t < (rd_T42 l (i : Int)).f0 ∧ (rd_T42 l (i : Int)).f0 ≤ s) → Ev (fun k => laws_FnClear.l1 k L l z t a b c s false ((i + 1 : Nat) : Int)) true := by
        intro hn
        refine ih (i + 1) false (by omega) (fun _ j hj p1 p2 p3 p4 => ?_)
        by_cases e : j = i
        · subst e
          exact hn ⟨p1, p2, p3, p4⟩
        · exact hno j (by omega) p1 p2 p3 p4
      simp only [laws_FnClear.l1, if_pos (show (i : Int) < (l.length : Int) by omega), Bool.false_eq_true, if_false, if_pos (show (0 : Int) ≤ (i : Int) by omega), hw]
      by_cases c1 : (rd_T42 l (i : Int)).f1.toList = z.toList
      · by_cases c2 : (rd_T42 l (i : Int)).f2 > 0
        · by_cases c3 : (rd_T42 l (i : Int)).f0 > t
          · simp only [if_pos c1, if_pos c2, if_pos c3]
            by_cases c4 : (rd_T42 l (i : Int)).f0 ≤ s
            · rw [decide_eq_true c4]
              exact ih (i + 1) true (by omega) (fun h => absurd h (by decide))
            · rw [decide_eq_false c4]
              exact step (fun h => c4 h.2.2.2)
          · simp only [if_pos c1, if_pos c2, if_neg c3]
            exact step (fun h => c3 h.2.2.1)
        · simp only [if_pos c1, if_neg c2]
          exact step (fun h => c2 h.2.1)
      · simp only [if_neg c1]
        exact step (fun h => c1 h.1)
theorem clear_j4 {L : List Int} (hL : By L) (l : List S42) (z : ByteArray) (t a b : Int) (c : Bool) (hl : l.length ≤ 1000000) (hz : szOk l) (hs : z.size ≤ 100) (cd : cdZ l z t = 0) (hc : clr l z t = true) (H6 : Ev (fun k => laws_FnClear.j6 k L l z t a b c) true) : Ev (fun k => laws_FnClear.j4 k L l z t a b c false) true := by
  obtain ⟨_, t0, t1⟩ := cdZ_zero cd
  obtain ⟨h, eR⟩ := roll_ev hL 2002
  have w1 : wrap64 (10000000 - t) = 10000000 - t := wrap_id (by omega) (by omega)
  have w : wrap64 (10000000 - t + 1) = 10000001 - t := by rw [wrap_id (by omega) (by omega)]; omega
  obtain ⟨v, q, h', eB, v0, v1⟩ := below_ok hL h (10000001 - t) (by omega) (by omega)
  have w2 : wrap64 (t + v) = t + v := wrap_id (by omega) (by omega)
  refine Ev.dn ?_
  simp only [laws_FnClear.j4, Bool.false_eq_true, if_false]
  refine Ev.bind eR ?_
  simp only [w1, w, eB, Option.bind_some, w2]
  exact clear_l1 L l z t (t + v) a b c hl hz hs (cdZ_at cd (by omega) (by omega)) (by omega) hc H6 l.length 0 false (by omega) (fun _ j hj => absurd hj (by omega))
theorem clear_j3 {L : List Int} (hL : By L) (l : List S42) (z : ByteArray) (t : Int) (r : Int × Int) (hl : l.length ≤ 1000000) (hz : szOk l) (hs : z.size ≤ 100) (T : clrF l z t r) (m : Bool) (hm : m = true → cdZ l z t = 0 ∧ clr l z t = true) : Ev (fun k => laws_FnClear.j3 k L l z t r.1 r.2 (isC l z t).1 m) true := by
  have h6 := clear_j6 hL l z t r hl hz hs T
  refine Ev.dn ?_
  cases m with
  | false =>
    simp only [laws_FnClear.j3, Bool.false_eq_true, if_false]
    exact h6
  | true =>
    obtain ⟨cd, hc⟩ := hm rfl
    have hr : r = (t, 0) := by
      rcases T with ⟨cn, _⟩ | ⟨_, _, h⟩ | ⟨_, h, _⟩
      · exact absurd cd cn
      · exact h
      · rw [hc] at h; exact absurd h (by decide)
    have hp := PeopleIn_is l z t hl hz (sz100 hs) cd
    rw [clr_zero hc] at hp
    have h4 := clear_j4 hL l z t r.1 r.2 (isC l z t).1 hl hz hs cd hc h6
    subst hr
    simp only [laws_FnClear.j3, if_true]
    refine Ev.bind hp ?_
    simp only [if_true, bne_self_eq_false]
    exact h4
theorem clear_j2 {L : List Int} (hL : By L) (l : List S42) (z : ByteArray) (t : Int) (r : Int × Int) (hl : l.length ≤ 1000000) (hz : szOk l) (hs : z.size ≤ 100) (T : clrF l z t r) : Ev (fun k => laws_FnClear.j2 k L l z t r.1 r.2 (isC l z t).1 (isC l z t).2) true := by
  refine Ev.dn ?_
  simp only [laws_FnClear.j2]
  by_cases h : (isC l z t).2 = 0
  · simp only [if_pos h]
    refine clear_j3 hL l z t r hl hz hs T _ (fun hm => ?_)
    unfold isC at h hm
    by_cases cd : cdZ l z t = 0
    · rw [if_pos cd] at hm
      exact ⟨cd, hm⟩
    · rw [if_neg cd] at h
      exact absurd h cd
  · simp only [if_neg h]
    exact clear_j3 hL l z t r hl hz hs T false (fun hm => absurd hm (by decide))
theorem clear_l0 (L : List Int) (l : List S42) (z : ByteArray) (t f b : Int) (c : Bool) (o : Int) (x : List S42) (zs : List ByteArray) (u : Int) (hl : x.length ≤ 1000000) (hz : szOk x) (hq : zsOk zs) (hn : zs.length ≤ 1000000) (ha : areMv x = true) (hw : allWd zs = true) (hu : 0 ≤ u ∧ u ≤ 10000000) (H2 : Ev (fun k => laws_FnClear.j2 k L l z t f b c o) true) : ∀ d i (m : Bool), i + d = zs.length →
    (m && allD (fun j => clr x (rdOf ByteArray.empty zs (j : Int)) u) i d) = allClr x zs u → Ev (fun k => laws_FnClear.l0 k L l z t f b c o x zs u (allClr x zs u) m (i : Int)) true := by
  intro d
  induction d with
  | zero =>
    intro i m hi hm
    obtain rfl : i = zs.length := by omega
    simp only [allD, Bool.and_true] at hm
    subst hm
    refine Ev.dn ?_
    simp only [laws_FnClear.l0, if_neg (show ¬ (zs.length : Int) < (zs.length : Int) by omega), bne_self_eq_false, Bool.false_eq_true, if_false]
    exact H2
  | succ d ih =>
    intro i m hi hm
    have hi2 : i < zs.length := by omega
    have hs : wrap64 ((i : Int) + 1) = ((i + 1 : Nat) : Int) := wrap_succ hi2 (by omega)
    have cd : cdZ x (rdOf ByteArray.empty zs (i : Int)) u = 0 := by
      unfold cdZ
      have h := (allD_iff _ _ _).1 hw i (Nat.zero_le _) (by omega)
      rw [if_pos ⟨ha, h⟩, if_pos hu]
    have e := (IsClear_is x (rdOf ByteArray.empty zs (i : Int)) u hl hz (rdOf_size zs hq i hi2)).2
    rw [isC_at cd] at e
    simp only [allD] at hm
    refine Ev.dn ?_
    simp only [laws_FnClear.l0, if_pos (show (i : Int) < (zs.length : Int) by omega), if_pos (show (0 : Int) ≤ (i : Int) by omega), hs]
    refine Ev.bind e ?_
    cases m with
    | true =>
      simp only [if_true]
      exact ih (i + 1) _ (by omega) (by simpa using hm)
    | false =>
      simp only [Bool.false_eq_true, if_false]
      exact ih (i + 1) false (by omega) (by simpa using hm)
theorem FnClear : ∀ (l0 : List Int), (l0.length ≤ reachBytes ∧ ∀ y ∈ l0, (Lit.int .u8 y).wf = true) → ∃ k, laws_FnClear.f k l0 = some true := by
  intro L ⟨_, hb⟩
  apply Ev.rounds
  unfold laws_FnClear.f laws_big.f
  simp only [Option.bind_some]
  by_cases hbig : (L.length : Int) > 4096
  · simp only [decide_eq_true hbig, if_true]; exact Ev.now _
  simp only [decide_eq_false hbig, Bool.false_eq_true, if_false]
  have hL : By L := by
    refine ⟨by omega, fun j hj => ?_⟩
    rw [show rd L (j : Int) = L[j] by simp [rd, hj]]
    have := hb _ (List.getElem_mem hj)
    simp only [Lit.wf, Bool.and_eq_true, decide_eq_true_eq] at this
    have m1 : IntKind.u8.min = 0 := by decide
    have m2 : IntKind.u8.max = 255 := by decide
    omega
  obtain ⟨l, z, t, d1, n1, m1, s1⟩ := dClr hL
  obtain ⟨x, zs, u, d2, n2, m2, n3, s2⟩ := dAll hL
  have hz := mvOk_sz m1
  have hz2 := mvOk_sz m2
  have hq : zsOk zs := fun y h => sz100 (s2 y h)
  obtain ⟨r, a1, a2, T⟩ := ClearFrom_is l z t (by omega) hz (sz100 s1)
  obtain ⟨b1, b2⟩ := IsClear_is l z t (by omega) hz (sz100 s1)
  obtain ⟨q, c1, c2, Q⟩ := AreAllClear_is x zs u (by omega) hz2 (by omega) hq
  have h2 := clear_j2 hL l z t r (by omega) hz s1 T
  refine Ev.bind d1 (Ev.bind a2 (Ev.bind a1 (Ev.bind b2 (Ev.bind b1 (Ev.bind d2 (Ev.bind c2 (Ev.bind c1 ?_)))))))
  simp only [if_true, bne_self_eq_false, Bool.false_eq_true, if_false]
  refine Ev.dn ?_
  simp only [laws_FnClear.j0, Bool.false_eq_true, if_false]
  by_cases h : q.2 = 0
  · obtain ⟨k1, k2, k3, k4⟩ := Q h
    simp only [if_pos h]
    rw [k4]
    exact clear_l0 L l z t r.1 r.2 (isC l z t).1 (isC l z t).2 x zs u (by omega) hz2 hq (by omega) k1 k2 k3 h2 zs.length 0 true (by omega) (by rw [Bool.true_and]; rfl)
  · simp only [if_neg h]
    exact h2
end Go.Proofs.Ytllhghcepbkpeaa.Pure
