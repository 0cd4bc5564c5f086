/- The law FnExactOccupiedAt as a statement over numbers and lists, proved; no condition but the sizes and ranges that every input has. -/
import Derived.Test.YtllhghcepbkpeaaF27
import Derived.Test.YtllhghcepbkpeaaEv
namespace Go.Proofs.Ytllhghcepbkpeaa.Pure
open Go.RowKit Go.Proofs.Ytllhghcepbkpeaa.Pall Go.Proofs.YtllhghcepbkpeaaW.PrintWords
set_option linter.unusedSimpArgs false
set_option linter.unusedVariables false
def wdB (s : ByteArray) (j : Nat) : Bool := !decide (bt s (j : Int) < 97) && !decide (bt s (j : Int) > 122)
def isWd (s : ByteArray) : Bool := allD (wdB s) 0 s.size && (decide (1 ≤ s.size) && decide (s.size ≤ 16))
theorem spec_IsWord_ev (s : ByteArray) (hn : s.size ≤ 9223372036854775807) : Ev (fun k => spec_IsWord.f k s) (isWd s) := by
  have h := Ev.allLoop (l := fun k i => spec_IsWord.l0 k s i) (n := s.size) (wdB s) false (decide (1 ≤ s.size) && decide (s.size ≤ 16))
    (fun i hi => Evt.all fun k => by
      simp only [spec_IsWord.l0]
      rw [if_pos (by omega), if_pos (by omega), wrap_succ hi hn]
      by_cases h1 : bt s (i : Int) < 97 <;> by_cases h2 : bt s (i : Int) > 122 <;> simp [wdB, h1, h2])
    (Evt.all fun k => by
      simp only [spec_IsWord.l0, spec_l01In.f]
      rw [if_neg (by omega)]
      by_cases h1 : 1 ≤ s.size
      · have e2 : decide (s.size ≤ 16) = decide ((s.size : Int) ≤ 16) := decide_eq_decide.2 (by omega)
        rw [if_pos (by omega), Option.bind_some, e2, decide_eq_true h1, Bool.true_and]
      · rw [if_neg (by omega), Option.bind_some, decide_eq_false h1, Bool.false_and]) s.size 0 (by omega)
  refine h.eq ?_
  unfold isWd
  cases allD (wdB s) 0 s.size <;> simp
theorem impl_IsWord_ev (s : ByteArray) (hn : s.size ≤ 9223372036854775807) : Ev (fun k => impl_IsWord.f k s) (isWd s) := by
  have hb : Ev (fun k => impl_IsWord.j0 k s true) false := Ev.dn (by simp only [impl_IsWord.j0]; exact Ev.now _)
  unfold impl_IsWord.f isWd
  by_cases h1 : (s.size : Int) < 1
  · simp only [if_pos h1]
    refine hb.eq ?_
    rw [decide_eq_false (show ¬ 1 ≤ s.size by omega)]
    simp
  simp only [if_neg h1]
  rw [decide_eq_true (show 1 ≤ s.size by omega)]
  by_cases h2 : s.size ≤ 16
  · rw [decide_eq_false (show ¬ (s.size : Int) > 16 by omega), decide_eq_true h2]
    refine Ev.dn ?_
    simp only [impl_IsWord.j0, Bool.false_eq_true, if_false]
    have h := Ev.allLoop (l := fun k i => impl_IsWord.l0 k s i) (n := s.size) (wdB s) false true
      (fun i hi => Evt.all fun k => by
        simp only [impl_IsWord.l0]
        rw [if_pos (by omega), if_pos (by omega), wrap_succ hi hn]
        by_cases h1 : bt s (i : Int) < 97 <;> by_cases h2 : bt s (i : Int) > 122 <;> simp [wdB, h1, h2])
      (Evt.all fun k => by
        simp only [impl_IsWord.l0]
        rw [if_neg (by omega)]) s.size 0 (by omega)
    refine h.eq ?_
    cases allD (wdB s) 0 s.size <;> simp
  · rw [decide_eq_true (show (s.size : Int) > 16 by omega), decide_eq_false h2]
    refine hb.eq (by simp)
theorem eqStringS_refl (l : List ByteArray) (hn : l.length ≤ 9223372036854775807) : Ev (fun k => laws_eqStringS.f k l l) true := by
  unfold laws_eqStringS.f
  simp only [if_pos rfl]
  have h := Ev.allLoop (l := fun k i => laws_eqStringS.l0 k l l i) (n := l.length) (fun _ => true) false true
    (fun i hi => Evt.all fun k => by
      simp only [laws_eqStringS.l0]
      rw [if_pos (by omega), if_pos (by omega), if_pos (by omega), wrap_succ hi hn])
    (Evt.all fun k => by
      simp only [laws_eqStringS.l0]
      rw [if_neg (by omega)]) l.length 0 (by omega)
  refine h.eq ?_
  rw [if_pos ((allD_iff _ _ _).2 (fun _ _ _ => rfl))]
theorem rd_T42_nat {l : List S42} {i : Nat} (h : i < l.length) : rd_T42 l (i : Int) = l[i] := by simp [rd_T42, h]
/-- The people of a zone behind the first n moves. -/
def ppl (l : List S42) (z : ByteArray) : Nat → Int
  | 0 => 0
  | n + 1 => if (rd_T42 l (n : Int)).f1.toList = z.toList then ppl l z n + (rd_T42 l (n : Int)).f2 else ppl l z n
/-- The same, of the moves up to a time. -/
def pplT (l : List S42) (z : ByteArray) (t : Int) : Nat → Int
  | 0 => 0
  | n + 1 => if (rd_T42 l (n : Int)).f1.toList = z.toList ∧ (rd_T42 l (n : Int)).f0 ≤ t then pplT l z t n + (rd_T42 l (n : Int)).f2 else pplT l z t n
def chg (l : List S42) (n : Nat) : Prop := ∀ j, j < n → -1000 ≤ (rd_T42 l (j : Int)).f2 ∧ (rd_T42 l (j : Int)).f2 ≤ 1000
theorem ppl_bd (l : List S42) (z : ByteArray) : ∀ n, chg l n → -(1000 * (n : Int)) ≤ ppl l z n ∧ ppl l z n ≤ 1000 * (n : Int)
  | 0, _ => by simp [ppl]
  | n + 1, h => by
    have ih := ppl_bd l z n (fun j hj => h j (by omega))
    have := h n (by omega)
    simp only [ppl]
    split <;> omega
theorem pplT_bd (l : List S42) (z : ByteArray) (t : Int) : ∀ n, chg l n → -(1000 * (n : Int)) ≤ pplT l z t n ∧ pplT l z t n ≤ 1000 * (n : Int)
  | 0, _ => by simp [pplT]
  | n + 1, h => by
    have ih := pplT_bd l z t n (fun j hj => h j (by omega))
    have := h n (by omega)
    simp only [pplT]
    split <;> omega
theorem pplT_ppl (l : List S42) (z : ByteArray) (t : Int) : ∀ n : Nat, (∀ j, j < n → (rd_T42 l (j : Int)).f0 ≤ t) → pplT l z t n = ppl l z n
  | 0, _ => rfl
  | n + 1, h => by
    have := h n (by omega)
    simp only [pplT, ppl, this, and_true]
    rw [pplT_ppl l z t n (fun j hj => h j (by omega))]
theorem pplT_stop (l : List S42) (z : ByteArray) (t : Int) (m : Nat) : ∀ n, m ≤ n → (∀ j, m ≤ j → j < n → ¬ (rd_T42 l (j : Int)).f0 ≤ t) → pplT l z t n = pplT l z t m
  | 0, h, _ => by obtain rfl : m = 0 := by omega
                  rfl
  | n + 1, h, hj => by
    by_cases e : m = n + 1
    · rw [e]
    · have := hj n (by omega) (by omega)
      simp only [pplT, this, and_false, if_false]
      exact pplT_stop l z t m n (by omega) (fun j h1 h2 => hj j h1 (by omega))
theorem rd_take (l : List S42) (m j : Nat) (h : j < m) : rd_T42 (l.take m) (j : Int) = rd_T42 l (j : Int) := by
  simp [rd_T42, List.getElem?_take, h]
theorem ppl_take (l : List S42) (z : ByteArray) (t : Int) (m : Nat) : ∀ n, n ≤ m → pplT (l.take m) z t n = pplT l z t n
  | 0, _ => rfl
  | n + 1, h => by
    simp only [pplT]
    rw [rd_take l m n (by omega), ppl_take l z t m n (by omega)]
theorem spec_l20People_ev (l : List S42) (z : ByteArray) (n : Nat) (hn : n ≤ l.length) (hl : l.length ≤ 1000000) (hc : chg l n) : Ev (fun k => spec_l20People.f k l z (n : Int)) (ppl l z n) := by
  have key : ∀ d i, i + d = n → Ev (fun k => spec_l20People.l0 k l z (n : Int) (ppl l z i) (i : Int)) (ppl l z n) := by
    intro d
    induction d with
    | zero =>
      intro i hi
      obtain rfl : i = n := by omega
      refine Ev.dn ?_
      simp only [spec_l20People.l0, if_neg (show ¬ (i : Int) < (i : Int) by omega)]
      exact Ev.now _
    | succ d ih =>
      intro i hi
      have hb := ppl_bd l z i (fun j hj => hc j (by omega))
      have hci := hc i (by omega)
      have hs := ih (i + 1) (by omega)
      refine Ev.dn ?_
      simp only [spec_l20People.l0, if_pos (show (i : Int) < (n : Int) by omega), if_pos (show (0 : Int) ≤ (i : Int) by omega), if_pos (show (i : Int) < (l.length : Int) by omega), wrap_succ (show i < n by omega) (show n ≤ 9223372036854775807 by omega)]
      by_cases h1 : (rd_T42 l (i : Int)).f1.toList = z.toList
      · simp only [if_pos h1]
        rw [wrap_id (by omega) (by omega)]
        simpa only [ppl, if_pos h1] using hs
      · simp only [if_neg h1]
        simpa only [ppl, if_neg h1] using hs
  exact key n 0 (by omega)
theorem impl_peopleIn_ev (l : List S42) (z : ByteArray) (t : Int) (hl : l.length ≤ 1000000) (hc : chg l l.length) : Ev (fun k => impl_peopleIn.f k l z t) (pplT l z t l.length) := by
  have key : ∀ d i, i + d = l.length → Ev (fun k => impl_peopleIn.l0 k z t (pplT l z t i) l (l.length : Int) (i : Int)) (pplT l z t l.length) := by
    intro d
    induction d with
    | zero =>
      intro i hi
      obtain rfl : i = l.length := by omega
      refine Ev.dn ?_
      simp only [impl_peopleIn.l0, if_neg (show ¬ (l.length : Int) < (l.length : Int) by omega)]
      exact Ev.now _
    | succ d ih =>
      intro i hi
      have hb := pplT_bd l z t i (fun j hj => hc j (by omega))
      have hci := hc i (by omega)
      have hs := ih (i + 1) (by omega)
      refine Ev.dn ?_
      simp only [impl_peopleIn.l0, if_pos (show (i : Int) < (l.length : Int) by omega), if_pos (show (0 : Int) ≤ (i : Int) by omega), wrap_succ (show i < l.length by omega) (show l.length ≤ 9223372036854775807 by omega)]
      by_cases h1 : (rd_T42 l (i : Int)).f1.toList = z.toList
      · simp only [if_pos h1]
        by_cases h2 : (rd_T42 l (i : Int)).f0 ≤ t
        · simp only [if_pos h2]
          rw [wrap_id (by omega) (by omega)]
          simpa only [pplT, if_pos (And.intro h1 h2)] using hs
        · simp only [if_neg h2]
          simpa only [pplT, if_neg (fun h3 : _ ∧ _ => h2 h3.2)] using hs
      · simp only [if_neg h1]
        simpa only [pplT, if_neg (fun h3 : _ ∧ _ => h1 h3.1)] using hs
  exact key l.length 0 (by omega)
def mvB (l : List S42) (j : Nat) : Bool :=
  decide (0 ≤ (rd_T42 l (j : Int)).f0) && decide ((rd_T42 l (j : Int)).f0 ≤ 10000000) && isWd (rd_T42 l (j : Int)).f1 &&
    decide (-1000 ≤ (rd_T42 l (j : Int)).f2) && decide ((rd_T42 l (j : Int)).f2 ≤ 1000) && !decide ((rd_T42 l (j : Int)).f2 = 0) &&
    (decide (j = 0) || decide ((rd_T42 l ((j - 1 : Nat) : Int)).f0 ≤ (rd_T42 l (j : Int)).f0)) && !decide (ppl l (rd_T42 l (j : Int)).f1 (j + 1) < 0)
def areMv (l : List S42) : Bool := allD (mvB l) 0 l.length && decide (l.length ≤ 40)
theorem mvB_chg {l : List S42} {n : Nat} (h : ∀ j, j < n → mvB l j = true) : chg l n := by
  intro j hj
  have := h j hj
  unfold mvB at this
  simp only [Bool.and_eq_true, decide_eq_true_eq] at this
  omega
theorem mvB_sorted {l : List S42} {n : Nat} (h : ∀ j, j < n → mvB l j = true) : ∀ b a, a ≤ b → b < n → (rd_T42 l (a : Int)).f0 ≤ (rd_T42 l (b : Int)).f0
  | 0, a, h1, _ => by obtain rfl : a = 0 := by omega
                      exact Int.le_refl _
  | b + 1, a, h1, h2 => by
    by_cases e : a = b + 1
    · rw [e]
      exact Int.le_refl _
    · have ih := mvB_sorted h b a (by omega) (by omega)
      have hs := h (b + 1) h2
      unfold mvB at hs
      simp only [Bool.and_eq_true, Bool.or_eq_true, decide_eq_true_eq] at hs
      rcases hs.1.2 with h3 | h3
      · exact absurd h3 (by omega)
      · exact Int.le_trans ih h3
def szOk (l : List S42) : Prop := ∀ j, j < l.length → (rd_T42 l (j : Int)).f1.size ≤ 9223372036854775807
theorem spec_AreMoves_ev (l : List S42) (hn : l.length ≤ 1000000) (hz : szOk l) : Ev (fun k => spec_AreMoves.f k l) (areMv l) := by
  have h := Ev.allLoopP (l := fun k i => spec_AreMoves.l0 k l i) (n := l.length) (mvB l) false (decide (l.length ≤ 40))
    (fun i hi hp => by
      have hw := spec_IsWord_ev (rd_T42 l (i : Int)).f1 (hz i hi)
      by_cases hc : -1000 ≤ (rd_T42 l (i : Int)).f2 ∧ (rd_T42 l (i : Int)).f2 ≤ 1000
      · have hch : chg l (i + 1) := fun j hj => by
          by_cases e : j = i
          · rw [e]; exact hc
          · exact mvB_chg hp j (by omega)
        refine hw.evt2 (spec_l20People_ev l (rd_T42 l (i : Int)).f1 (i + 1) (by omega) hn hch) (fun k hk hk2 => ?_)
        simp only [spec_AreMoves.l0, spec_l01IsTime.f, spec_l01In.f]
        rw [if_pos (by omega), if_pos (by omega), wrap_succ hi (by omega), hk, hk2]
        generalize spec_AreMoves.l0 k l ((i + 1 : Nat) : Int) = R
        by_cases h0 : i = 0
        · have hz : (i = 0) = True := eq_true h0
          have hq : ¬ 0 < i := by omega
          clear h0
          by_cases h1 : 0 ≤ (rd_T42 l (i : Int)).f0 <;> by_cases h2 : (rd_T42 l (i : Int)).f0 ≤ 10000000 <;> cases h3 : isWd (rd_T42 l (i : Int)).f1 <;> by_cases h4 : (rd_T42 l (i : Int)).f2 = 0 <;> by_cases h5 : ppl l (rd_T42 l (i : Int)).f1 (i + 1) < 0 <;> simp [mvB, hz, hq, hc.1, hc.2, h1, h2, h3, h4, h5]
        · have hq : 0 < i := by omega
          rw [wrap_pred hi (by omega) (by omega)]
          have q1 : (0 : Int) ≤ ((i - 1 : Nat) : Int) := by omega
          have q2 : ((i - 1 : Nat) : Int) < (l.length : Int) := by omega
          by_cases h1 : 0 ≤ (rd_T42 l (i : Int)).f0 <;> by_cases h2 : (rd_T42 l (i : Int)).f0 ≤ 10000000 <;> cases h3 : isWd (rd_T42 l (i : Int)).f1 <;> by_cases h4 : (rd_T42 l (i : Int)).f2 = 0 <;> by_cases h5 : ppl l (rd_T42 l (i : Int)).f1 (i + 1) < 0 <;> by_cases h6 : (rd_T42 l ((i - 1 : Nat) : Int)).f0 ≤ (rd_T42 l (i : Int)).f0 <;> simp [mvB, h0, hq, q1, q2, hc.1, hc.2, h1, h2, h3, h4, h5, h6, Int.not_lt.2, Int.not_le.1] <;> (try omega)
      · refine hw.evt (fun k hk => ?_)
        simp only [spec_AreMoves.l0, spec_l01IsTime.f, spec_l01In.f]
        rw [if_pos (by omega), if_pos (by omega), hk]
        have hmv : mvB l i = false := by
          unfold mvB
          by_cases h7 : -1000 ≤ (rd_T42 l (i : Int)).f2
          · have h8 : ¬ (rd_T42 l (i : Int)).f2 ≤ 1000 := fun h9 => hc ⟨h7, h9⟩
            simp [h8]
          · simp [h7]
        rw [hmv]
        by_cases h1 : 0 ≤ (rd_T42 l (i : Int)).f0 <;> by_cases h2 : (rd_T42 l (i : Int)).f0 ≤ 10000000 <;> cases h3 : isWd (rd_T42 l (i : Int)).f1 <;> by_cases h7 : -1000 ≤ (rd_T42 l (i : Int)).f2 <;> by_cases h8 : (rd_T42 l (i : Int)).f2 ≤ 1000 <;> simp [h1, h2, h3, h7, h8]
        exact absurd ⟨h7, h8⟩ hc)
    (fun _ => Evt.all fun k => by
      simp only [spec_AreMoves.l0]
      rw [if_neg (by omega)]
      congr 1
      exact decide_eq_decide.2 (by omega)) l.length 0 (by omega) (fun j hj => by omega)
  refine h.eq ?_
  unfold areMv
  cases allD (mvB l) 0 l.length <;> simp
theorem impl_AreMoves_ev (l : List S42) (hn : l.length ≤ 1000000) (hz : szOk l) : Ev (fun k => impl_AreMoves.f k l) (areMv l) := by
  unfold impl_AreMoves.f
  by_cases hl : (l.length : Int) > 40
  · simp only [if_pos hl]
    refine (Ev.now false).eq ?_
    unfold areMv
    rw [decide_eq_false (by omega), Bool.and_false]
  simp only [if_neg hl]
  have h := Ev.allLoopQ (l := fun k i => impl_AreMoves.l0 k l l (l.length : Int) i) (n := l.length) (mvB l) false true
    (fun i hi hp => by
      have hw := impl_IsWord_ev (rd_T42 l (i : Int)).f1 (hz i hi)
      have hs1 := wrap_succ hi (show l.length ≤ 9223372036854775807 by omega)
      have hbad : Ev (fun k => impl_AreMoves.j1 k l (i : Int) l (l.length : Int) (i : Int) true (rd_T42 l (i : Int)).f0 (rd_T42 l (i : Int)).f1 (rd_T42 l (i : Int)).f2) false := Ev.dn (by simp only [impl_AreMoves.j1]; exact Ev.now _)
      have hgood : chg l (i + 1) → (∀ j, j < i + 1 → (rd_T42 l (j : Int)).f0 ≤ (rd_T42 l (i : Int)).f0) → ∀ r, (0 ≤ ppl l (rd_T42 l (i : Int)).f1 (i + 1) → Ev (fun k => impl_AreMoves.l0 k l l (l.length : Int) ((i + 1 : Nat) : Int)) r) → (ppl l (rd_T42 l (i : Int)).f1 (i + 1) < 0 → r = false) →
          Ev (fun k => impl_AreMoves.j1 k l (i : Int) l (l.length : Int) (i : Int) false (rd_T42 l (i : Int)).f0 (rd_T42 l (i : Int)).f1 (rd_T42 l (i : Int)).f2) r := by
        intro hch hts r hr hr2
        refine Ev.dn ?_
        simp only [impl_AreMoves.j1, hs1, Bool.false_eq_true, if_false, if_pos (show (0 : Int) ≤ ((i + 1 : Nat) : Int) by omega), if_pos (show ((i + 1 : Nat) : Int) ≤ (l.length : Int) by omega), Int.toNat_natCast]
        have hlt : (l.take (i + 1)).length = i + 1 := by rw [List.length_take]; omega
        have hpe := impl_peopleIn_ev (l.take (i + 1)) (rd_T42 l (i : Int)).f1 (rd_T42 l (i : Int)).f0 (by omega) (fun j hj => by rw [rd_take l (i + 1) j (by omega)]; exact hch j (by omega))
        rw [hlt, ppl_take _ _ _ _ _ (Nat.le_refl _), pplT_ppl _ _ _ _ hts] at hpe
        refine Ev.bind hpe ?_
        by_cases h9 : ppl l (rd_T42 l (i : Int)).f1 (i + 1) < 0
        · simp only [if_pos h9]
          rw [hr2 h9]
          exact Ev.now _
        · simp only [if_neg h9]
          exact hr (by omega)
      have hmain : ∀ r, (mvB l i = true → Ev (fun k => impl_AreMoves.l0 k l l (l.length : Int) ((i + 1 : Nat) : Int)) r) → (mvB l i = false → r = false) → Ev (fun k => impl_AreMoves.l0 k l l (l.length : Int) (i : Int)) r := by
        intro r hr hr2
        refine Ev.dn ?_
        simp only [impl_AreMoves.l0, impl_isTime.f, impl_within.f, if_pos (show (i : Int) < (l.length : Int) by omega), if_pos (show (0 : Int) ≤ (i : Int) by omega)]
        by_cases h1 : 0 ≤ (rd_T42 l (i : Int)).f0
        case neg =>
          simp only [if_neg h1, Option.bind_some, Bool.false_eq_true, if_false]
          exact hbad.eq (hr2 (by simp [mvB, h1])).symm
        simp only [if_pos h1, Option.bind_some]
        by_cases h2 : (rd_T42 l (i : Int)).f0 ≤ 10000000
        case neg =>
          simp only [decide_eq_false h2, Bool.false_eq_true, if_false]
          exact hbad.eq (hr2 (by simp [mvB, h2])).symm
        simp only [decide_eq_true h2, if_true]
        refine Ev.bind hw ?_
        cases h3 : isWd (rd_T42 l (i : Int)).f1 with
        | false =>
          simp only [Bool.false_eq_true, if_false]
          exact hbad.eq (hr2 (by simp [mvB, h3])).symm
        | true =>
        simp only [if_true]
        by_cases h4 : -1000 ≤ (rd_T42 l (i : Int)).f2
        case neg =>
          simp only [if_neg h4, Option.bind_some, Bool.false_eq_true, if_false]
          exact hbad.eq (hr2 (by simp [mvB, h4])).symm
        simp only [if_pos h4, Option.bind_some]
        by_cases h5 : (rd_T42 l (i : Int)).f2 ≤ 1000
        case neg =>
          simp only [decide_eq_false h5, Bool.false_eq_true, if_false]
          exact hbad.eq (hr2 (by simp [mvB, h5])).symm
        simp only [decide_eq_true h5, if_true]
        by_cases h6 : (rd_T42 l (i : Int)).f2 = 0
        case pos =>
          simp only [if_pos h6]
          exact hbad.eq (hr2 (by simp [mvB, h6])).symm
        simp only [if_neg h6]
        have hch : chg l (i + 1) := fun j hj => by
          by_cases e : j = i
          · rw [e]; exact ⟨h4, h5⟩
          · exact mvB_chg hp j (by omega)
        by_cases h0 : i = 0
        · have hz0 : (i = 0) = True := eq_true h0
          simp only [if_neg (show ¬ (i : Int) > 0 by omega)]
          refine hgood hch (fun j hj => by rw [show j = i by omega]; exact Int.le_refl _) r (fun h9 => hr ?_) (fun h9 => hr2 ?_)
          · simp [mvB, hz0, h1, h2, h3, h4, h5, h6, h9]
          · simp [mvB, h9]
        · simp only [if_pos (show (i : Int) > 0 by omega), wrap_pred hi (show 0 < i by omega) (show l.length ≤ 9223372036854775807 by omega), if_pos (show (0 : Int) ≤ ((i - 1 : Nat) : Int) by omega), if_pos (show ((i - 1 : Nat) : Int) < (l.length : Int) by omega)]
          by_cases h7 : (rd_T42 l ((i - 1 : Nat) : Int)).f0 ≤ (rd_T42 l (i : Int)).f0
          · rw [decide_eq_false (show ¬ (rd_T42 l ((i - 1 : Nat) : Int)).f0 > (rd_T42 l (i : Int)).f0 by omega)]
            refine hgood hch (fun j hj => ?_) r (fun h9 => hr ?_) (fun h9 => hr2 ?_)
            · by_cases e : j = i
              · rw [e]; exact Int.le_refl _
              · exact Int.le_trans (mvB_sorted hp (i - 1) j (by omega) (by omega)) h7
            · simp [mvB, h1, h2, h3, h4, h5, h6, h7, h9]
            · simp [mvB, h9]
          · rw [decide_eq_true (show (rd_T42 l ((i - 1 : Nat) : Int)).f0 > (rd_T42 l (i : Int)).f0 by omega)]
            exact hbad.eq (hr2 (by simp [mvB, h0, h7])).symm
      exact ⟨fun hs r hr => hmain r (fun _ => hr) (fun h => by rw [hs] at h; exact absurd h (by decide)), fun hs => hmain false (fun h => by rw [hs] at h; exact absurd h (by decide)) (fun _ => rfl)⟩)
    (fun _ => Ev.dn (by
      simp only [impl_AreMoves.l0, if_neg (show ¬ (l.length : Int) < (l.length : Int) by omega)]
      exact Ev.now _)) l.length 0 (by omega) (fun j hj => by omega)
  refine h.eq ?_
  unfold areMv
  rw [decide_eq_true (by omega : l.length ≤ 40), Bool.and_true]
  cases allD (mvB l) 0 l.length <;> simp
theorem eqMoveS_refl (l : List S42) (hn : l.length ≤ 9223372036854775807) : Ev (fun k => laws_eqMoveS.f k l l) true := by
  unfold laws_eqMoveS.f
  simp only [if_pos rfl]
  have h := Ev.allLoop (l := fun k i => laws_eqMoveS.l0 k l l i) (n := l.length) (fun _ => true) false true
    (fun i hi => Evt.all fun k => by
      simp only [laws_eqMoveS.l0, laws_eqMove.f]
      rw [if_pos (by omega), if_pos (by omega), if_pos (by omega), wrap_succ hi hn]
      simp)
    (Evt.all fun k => by
      simp only [laws_eqMoveS.l0]
      rw [if_neg (by omega)]) l.length 0 (by omega)
  refine h.eq ?_
  rw [if_pos ((allD_iff _ _ _).2 (fun _ _ _ => rfl))]
theorem intactMoveS_refl (l : List S42) (hn : l.length ≤ 1000000) : Ev (fun k => laws_intactMoveS.f k l l) true := by
  unfold laws_intactMoveS.f
  simp only [if_pos rfl]
  exact eqMoveS_refl _ (full_le l hn)
theorem toMoveS_some (k : Nat) (l : List S38) (b : Bool) (hn : l.length ≤ 1000000) : laws_toMoveS.f k l b = some (l.map laws_toMoveS.conv) := by
  unfold laws_toMoveS.f
  rw [if_pos hn]
theorem szMoveS_some (l : List S38) (hl : l.length ≤ 9223372036854775807) (hz : ∀ y ∈ l, y.f1.size ≤ 9223372036854775807) (a : Int) (ha : -9223372036854775808 ≤ a - (l.length : Int)) (ha2 : a ≤ 1000000) : ∃ r : Int, Ev (fun k => laws_szMoveS.f k l a) r ∧ (¬ r < 0 → l.length ≤ 1000000 ∧ a - (l.length : Int) ≥ 0 ∧ r ≤ 1000000) := by
  unfold laws_szMoveS.f
  rw [wrap_id ha (by omega)]
  by_cases h : a - (l.length : Int) < 0
  · simp only [if_pos h]
    exact ⟨-1, Ev.now _, fun h2 => absurd (show (-1 : Int) < 0 by decide) h2⟩
  simp only [if_neg h]
  have key : ∀ d i, i + d = l.length → ∀ x : Int, 0 ≤ x → x ≤ 1000000 → ∃ r : Int, r ≤ 1000000 ∧ Ev (fun k => laws_szMoveS.l0 k l x (i : Int)) r := by
    intro d
    induction d with
    | zero =>
      intro i hi x h0 h1
      refine ⟨x, h1, Ev.dn ?_⟩
      simp only [laws_szMoveS.l0, if_neg (show ¬ (i : Int) < (l.length : Int) by omega)]
      exact Ev.now _
    | succ d ih =>
      intro i hi x h0 h1
      have hs := hz l[i] (List.getElem_mem (by omega))
      have hr : (rd_T38 l (i : Int)).f1.size ≤ 9223372036854775807 := by
        rw [show rd_T38 l (i : Int) = l[i] by simp [rd_T38, show i < l.length by omega]]
        exact hs
      by_cases g : x - ((rd_T38 l (i : Int)).f1.size : Int) < 0
      · refine ⟨-1, by omega, Ev.dn ?_⟩
        simp only [laws_szMoveS.l0, laws_szMove.f, if_pos (show (i : Int) < (l.length : Int) by omega), if_pos (show (0 : Int) ≤ (i : Int) by omega)]
        rw [wrap_id (by omega) (by omega)]
        simp only [if_pos g, Option.bind_some, if_pos (show (-1 : Int) < 0 by decide)]
        exact Ev.now _
      · obtain ⟨r, hr1, hr2⟩ := ih (i + 1) (by omega) (x - ((rd_T38 l (i : Int)).f1.size : Int)) (by omega) (by omega)
        refine ⟨r, hr1, Ev.dn ?_⟩
        simp only [laws_szMoveS.l0, laws_szMove.f, if_pos (show (i : Int) < (l.length : Int) by omega), if_pos (show (0 : Int) ≤ (i : Int) by omega)]
        rw [wrap_id (by omega) (by omega)]
        simp only [if_neg g, Option.bind_some, wrap_succ (show i < l.length by omega) hl]
        exact hr2
  obtain ⟨r, hr1, hr2⟩ := key l.length 0 (by omega) (a - (l.length : Int)) (by omega) (by omega)
  exact ⟨r, hr2, fun _ => ⟨by omega, by omega, hr1⟩⟩
theorem conv_szOk (l : List S38) (hz : ∀ y ∈ l, y.f1.size ≤ 9223372036854775807) : szOk (l.map laws_toMoveS.conv) := by
  intro j hj
  have hj2 : j < l.length := by simpa using hj
  rw [rd_T42_nat hj]
  simpa [laws_toMoveS.conv] using hz l[j] (List.getElem_mem hj2)
theorem areMv_ok {l : List S42} (h : areMv l = true) : (∀ j, j < l.length → mvB l j = true) ∧ l.length ≤ 40 := by
  unfold areMv at h
  simp only [Bool.and_eq_true, decide_eq_true_eq] at h
  exact ⟨fun j hj => (allD_iff _ _ _).1 h.1 j (by omega) (by omega), h.2⟩
/-- What the question's code is. -/
def cdZ (l : List S42) (z : ByteArray) (t : Int) : Int := if areMv l = true ∧ isWd z = true then (if 0 ≤ t ∧ t ≤ 10000000 then 0 else 2) else 1
theorem cdZ_zero {l : List S42} {z : ByteArray} {t : Int} (h : cdZ l z t = 0) : areMv l = true ∧ 0 ≤ t ∧ t ≤ 10000000 := by
  unfold cdZ at h
  by_cases h1 : areMv l = true ∧ isWd z = true
  · by_cases h2 : 0 ≤ t ∧ t ≤ 10000000
    · exact ⟨h1.1, h2⟩
    · simp [h1, h2] at h
  · rw [if_neg h1] at h
    exact absurd h (by decide)
theorem spec_l20Code_ev (l : List S42) (z : ByteArray) (t : Int) (hn : l.length ≤ 1000000) (hz : szOk l) (hs : z.size ≤ 9223372036854775807) : Ev (fun k => spec_l20Code.f k l z t) (cdZ l z t) := by
  unfold spec_l20Code.f cdZ
  refine Ev.bind (spec_AreMoves_ev l hn hz) ?_
  have hb : Ev (fun k => spec_l20Code.j0 k t true) 1 := Ev.dn (by simp only [spec_l20Code.j0]; exact Ev.now _)
  cases h1 : areMv l with
  | false =>
    simp only [Bool.false_eq_true, if_false, false_and]
    exact hb
  | true =>
    simp only [if_true, true_and]
    refine Ev.bind (spec_IsWord_ev z hs) ?_
    cases h2 : isWd z with
    | false =>
      simp only [Bool.not_false, Bool.false_eq_true, if_false]
      exact hb
    | true =>
      simp only [Bool.not_true, if_true]
      refine Ev.dn ?_
      simp only [spec_l20Code.j0, spec_l01IsTime.f, spec_l01In.f, Bool.false_eq_true, if_false]
      by_cases h3 : 0 ≤ t <;> by_cases h4 : t ≤ 10000000 <;> simp only [ge_iff_le, h3, h4, if_true, if_false, Option.bind_some, decide_true, decide_false, Bool.false_eq_true, and_self, and_true, and_false, false_and, true_and] <;> exact Ev.now _
/-- How many moves lead the row that are not after t. -/
def upto (l : List S42) (t : Int) : Nat → Nat → Nat
  | i, 0 => i
  | i, d + 1 => if (rd_T42 l (i : Int)).f0 ≤ t then upto l t (i + 1) d else i
theorem upto_spec (l : List S42) (t : Int) : ∀ d i, i ≤ upto l t i d ∧ upto l t i d ≤ i + d ∧ (∀ j, i ≤ j → j < upto l t i d → (rd_T42 l (j : Int)).f0 ≤ t) ∧ (upto l t i d < i + d → ¬ (rd_T42 l ((upto l t i d : Nat) : Int)).f0 ≤ t)
  | 0, i => ⟨Nat.le_refl _, Nat.le_refl _, fun j h1 h2 => absurd h2 (by simp only [upto]; omega), fun h => absurd h (by simp only [upto]; omega)⟩
  | d + 1, i => by
    by_cases h : (rd_T42 l (i : Int)).f0 ≤ t
    · obtain ⟨h1, h2, h3, h4⟩ := upto_spec l t d (i + 1)
      simp only [upto, if_pos h]
      refine ⟨by omega, by omega, fun j hj hj2 => ?_, fun hh => h4 (by omega)⟩
      by_cases e : j = i
      · rw [e]; exact h
      · exact h3 j (by omega) hj2
    · simp only [upto, if_neg h]
      exact ⟨Nat.le_refl _, by omega, fun j h1 h2 => by omega, fun _ => h⟩
theorem spec_l20Upto_ev (l : List S42) (t : Int) (hn : l.length ≤ 1000000) : Ev (fun k => spec_l20Upto.f k l t) ((upto l t 0 l.length : Nat) : Int) := by
  have key : ∀ d i, i + d = l.length → Ev (fun k => spec_l20Upto.l0 k l t (i : Int)) ((upto l t i d : Nat) : Int) := by
    intro d
    induction d with
    | zero =>
      intro i hi
      refine Ev.dn ?_
      simp only [spec_l20Upto.l0, if_neg (show ¬ (i : Int) < (l.length : Int) by omega), upto]
      exact Ev.now _
    | succ d ih =>
      intro i hi
      have := ih (i + 1) (by omega)
      refine Ev.dn ?_
      simp only [spec_l20Upto.l0, if_pos (show (i : Int) < (l.length : Int) by omega), if_pos (show (0 : Int) ≤ (i : Int) by omega), wrap_succ (show i < l.length by omega) (show l.length ≤ 9223372036854775807 by omega), upto]
      by_cases h : (rd_T42 l (i : Int)).f0 ≤ t
      · simp only [if_pos h]; exact this
      · simp only [if_neg h]; exact Ev.now _
  exact key l.length 0 (by omega)
theorem ppl_upto {l : List S42} (z : ByteArray) (t : Int) (hm : ∀ j, j < l.length → mvB l j = true) : ppl l z (upto l t 0 l.length) = pplT l z t l.length := by
  obtain ⟨h1, h2, h3, h4⟩ := upto_spec l t l.length 0
  rw [← pplT_ppl l z t _ (fun j hj => h3 j (by omega) hj), pplT_stop l z t (upto l t 0 l.length) l.length (by omega) (fun j hj hj2 hh => ?_)]
  exact h4 (by omega) (Int.le_trans (mvB_sorted hm j (upto l t 0 l.length) hj hj2) hh)
theorem toList_loop (s : ByteArray) : ∀ d i r, i + d = s.size → ByteArray.toList.loop s i r = r.reverse ++ s.data.toList.drop i := by
  intro d
  induction d with
  | zero =>
    intro i r h
    have e : s.data.toList.drop i = [] := List.drop_of_length_le (by rw [Array.length_toList]; exact Nat.le_of_eq h.symm)
    rw [ByteArray.toList.loop, if_neg (by omega), e, List.append_nil]
  | succ d ih =>
    intro i r h
    have hi : i < s.data.toList.length := by rw [Array.length_toList]; show i < s.size; omega
    rw [ByteArray.toList.loop, if_pos (by omega), ih (i + 1) _ (by omega), List.drop_eq_getElem_cons hi]
    simp [ByteArray.get!]
    exact getElem!_pos s.data i (by simpa using hi)
theorem toList_data (s : ByteArray) : s.toList = s.data.toList := by
  unfold ByteArray.toList
  rw [toList_loop s s.size 0 [] (by omega)]
  simp
theorem toList_inj {a b : ByteArray} (h : a.toList = b.toList) : a = b := by
  rw [toList_data, toList_data] at h
  cases a; cases b
  congr
  exact Array.toList_inj.1 h
theorem markText_loop : ∀ n (m : Nat) (s : ByteArray), m < 10 ^ n → n ≤ 18 → s.size + n + 1 ≤ 9223372036854775807 → ∃ r, Ev (fun k => laws_markText.l0 k (m : Int) s) r := by
  intro n
  induction n with
  | zero =>
    intro m s hm _ hs
    obtain rfl : m = 0 := by omega
    refine ⟨(⟨#[109]⟩ : ByteArray) ++ s, Ev.dn ?_⟩
    simp only [laws_markText.l0, if_neg (show ¬ ((0 : Nat) : Int) > 0 by decide), if_pos (show 1 + s.size ≤ 9223372036854775807 by omega)]
    exact Ev.now _
  | succ n ih =>
    intro m s hm hn hs
    by_cases h0 : m = 0
    · subst h0
      refine ⟨(⟨#[109]⟩ : ByteArray) ++ s, Ev.dn ?_⟩
      simp only [laws_markText.l0, if_neg (show ¬ ((0 : Nat) : Int) > 0 by decide), if_pos (show 1 + s.size ≤ 9223372036854775807 by omega)]
      exact Ev.now _
    · have hd : Int.tdiv (m : Int) 10 = ((m / 10 : Nat) : Int) := (Int.ofNat_tdiv m 10).symm
      have hp : 10 ^ (n + 1) ≤ 10 ^ 18 := Nat.pow_le_pow_right (by decide) hn
      have hlt : m / 10 < 10 ^ n := by rw [Nat.pow_succ] at hm; omega
      obtain ⟨y, hy⟩ : ∃ y, y = [(wrap64 (48 + (Int.tmod (m : Int) 10))) % 256] := ⟨_, rfl⟩
      have hsz : (strOfNums y).size = 1 := by rw [hy]; rfl
      obtain ⟨r, hr⟩ := ih (m / 10) (strOfNums y ++ s) hlt (by omega) (by rw [ByteArray.size_append, hsz]; omega)
      refine ⟨r, Ev.dn ?_⟩
      refine Ev.eq' hr (fun k => ?_)
      simp only [laws_markText.l0]
      rw [if_pos (show (m : Int) > 0 by omega), Option.bind_some, ← hy, hsz, if_pos (show 1 + s.size ≤ 9223372036854775807 by omega), hd, wrap_id (by omega) (by omega)]
theorem markText_ev (a : Int) (h1 : 1 ≤ a) (h2 : a ≤ 100000000) : ∃ r, Ev (fun k => laws_markText.f k a) r := by
  obtain ⟨m, rfl⟩ : ∃ m : Nat, a = (m : Int) := ⟨a.toNat, by omega⟩
  obtain ⟨r, hr⟩ := markText_loop 18 m (⟨#[]⟩ : ByteArray) (by omega) (by omega) (by decide)
  refine ⟨r, ?_⟩
  unfold laws_markText.f
  simp only [if_neg (show ¬ (m : Int) ≤ 0 by omega)]
  exact hr
theorem marks : ∃ txt : Int → ByteArray, ∀ a, 1 ≤ a → a ≤ 100000000 → Ev (fun k => laws_markText.f k a) (txt a) := by
  obtain ⟨f, hf⟩ := Classical.axiomOfChoice (r := fun (a : Int) (s : ByteArray) => 1 ≤ a → a ≤ 100000000 → Ev (fun k => laws_markText.f k a) s) (fun a => by
    by_cases h : 1 ≤ a ∧ a ≤ 100000000
    · obtain ⟨r, hr⟩ := markText_ev a h.1 h.2
      exact ⟨r, fun _ _ => hr⟩
    · exact ⟨ByteArray.empty, fun h1 h2 => absurd ⟨h1, h2⟩ h⟩)
  exact ⟨f, hf⟩
theorem rd_set_self (l : List S42) (i : Nat) (v : S42) (h : i < l.length) : rd_T42 (l.set i v) (i : Int) = v := by
  simp [rd_T42, h]
theorem rd_set_ne (l : List S42) (i j : Nat) (v : S42) (h : i ≠ j) : rd_T42 (l.set i v) (j : Int) = rd_T42 l (j : Int) := by
  simp [rd_T42, List.getElem?_set_ne h]
theorem markMoveS_ev {txt : Int → ByteArray} (ht : ∀ a, 1 ≤ a → a ≤ 100000000 → Ev (fun k => laws_markText.f k a) (txt a)) (l : List S42) (hn : l.length ≤ 1000000) :
    ∃ L : List S42, Ev (fun k => laws_markMoveS.f k l 101) (101 + 3 * (l.length : Int), L) ∧ L.length = l.length ∧ ∀ j, j < l.length → rd_T42 L (j : Int) = ⟨101 + 3 * (j : Int), txt (102 + 3 * (j : Int)), 103 + 3 * (j : Int)⟩ := by
  have key : ∀ d i (x0 : List S42), i + d = l.length → x0.length = l.length → (∀ j, j < i → rd_T42 x0 (j : Int) = ⟨101 + 3 * (j : Int), txt (102 + 3 * (j : Int)), 103 + 3 * (j : Int)⟩) →
      ∃ L : List S42, Ev (fun k => laws_markMoveS.l0 k x0 (101 + 3 * (i : Int)) (i : Int)) (101 + 3 * (l.length : Int), L) ∧ L.length = l.length ∧ ∀ j, j < l.length → rd_T42 L (j : Int) = ⟨101 + 3 * (j : Int), txt (102 + 3 * (j : Int)), 103 + 3 * (j : Int)⟩ := by
    intro d
    induction d with
    | zero =>
      intro i x0 hi hx hm
      obtain rfl : i = l.length := by omega
      refine ⟨x0, Ev.dn ?_, hx, hm⟩
      simp only [laws_markMoveS.l0, if_neg (show ¬ (l.length : Int) < (x0.length : Int) by omega)]
      exact Ev.now _
    | succ d ih =>
      intro i x0 hi hx hm
      have h0 := ht (102 + 3 * (i : Int)) (by omega) (by omega)
      have hw1 : wrap64 (101 + 3 * (i : Int) + 1) = 102 + 3 * (i : Int) := by rw [wrap_id (by omega) (by omega)]; omega
      have hw2 : wrap64 (102 + 3 * (i : Int) + 1) = 103 + 3 * (i : Int) := by rw [wrap_id (by omega) (by omega)]; omega
      have hw3 : wrap64 (103 + 3 * (i : Int) + 1) = 101 + 3 * ((i + 1 : Nat) : Int) := by rw [wrap_id (by omega) (by omega)]; omega
      obtain ⟨y1, e1⟩ : ∃ y1, y1 = x0.set i (⟨101 + 3 * (i : Int), (rd_T42 x0 (i : Int)).f1, (rd_T42 x0 (i : Int)).f2⟩ : S42) := ⟨_, rfl⟩
      obtain ⟨y2, e2⟩ : ∃ y2, y2 = y1.set i (⟨(rd_T42 y1 (i : Int)).f0, txt (102 + 3 * (i : Int)), (rd_T42 y1 (i : Int)).f2⟩ : S42) := ⟨_, rfl⟩
      obtain ⟨y3, e3⟩ : ∃ y3, y3 = y2.set i (⟨(rd_T42 y2 (i : Int)).f0, (rd_T42 y2 (i : Int)).f1, 103 + 3 * (i : Int)⟩ : S42) := ⟨_, rfl⟩
      have n1 : y1.length = l.length := by rw [e1, List.length_set, hx]
      have n2 : y2.length = l.length := by rw [e2, List.length_set, n1]
      have n3 : y3.length = l.length := by rw [e3, List.length_set, n2]
      have r1 : rd_T42 y1 (i : Int) = ⟨101 + 3 * (i : Int), (rd_T42 x0 (i : Int)).f1, (rd_T42 x0 (i : Int)).f2⟩ := by rw [e1]; exact rd_set_self _ _ _ (by omega)
      have r2 : rd_T42 y2 (i : Int) = ⟨101 + 3 * (i : Int), txt (102 + 3 * (i : Int)), (rd_T42 x0 (i : Int)).f2⟩ := by rw [e2, rd_set_self _ _ _ (by omega), r1]
      have r3 : rd_T42 y3 (i : Int) = ⟨101 + 3 * (i : Int), txt (102 + 3 * (i : Int)), 103 + 3 * (i : Int)⟩ := by rw [e3, rd_set_self _ _ _ (by omega), r2]
      obtain ⟨L, hL, hL2, hL3⟩ := ih (i + 1) y3 (by omega) n3 (fun j hj => by
        by_cases e : j = i
        · rw [e]; exact r3
        · rw [e3, rd_set_ne _ _ _ _ (Ne.symm e), e2, rd_set_ne _ _ _ _ (Ne.symm e), e1, rd_set_ne _ _ _ _ (Ne.symm e)]
          exact hm j (by omega))
      refine ⟨L, Ev.dn ?_, hL2, hL3⟩
      simp only [laws_markMoveS.l0, if_pos (show (i : Int) < (x0.length : Int) by omega), if_pos (show (0 : Int) ≤ (i : Int) by omega), Int.toNat_natCast, hw1, hw2, hw3, wrap_succ (show i < l.length by omega) (show l.length ≤ 9223372036854775807 by omega), Option.bind_some, ← e1]
      refine Ev.bind h0 ?_
      simp only [← e2, Option.bind_some, ← e3]
      exact hL
  exact key l.length 0 l (by omega) rfl (fun j hj => by omega)
theorem rds_set_self (l : List ByteArray) (i : Nat) (v : ByteArray) (h : i < l.length) : rdOf ByteArray.empty (l.set i v) (i : Int) = v := by
  simp [rdOf, h]
theorem rds_set_ne (l : List ByteArray) (i j : Nat) (v : ByteArray) (h : i ≠ j) : rdOf ByteArray.empty (l.set i v) (j : Int) = rdOf ByteArray.empty l (j : Int) := by
  simp [rdOf, List.getElem?_set_ne h]
theorem markStringS_ev {txt : Int → ByteArray} (ht : ∀ a, 1 ≤ a → a ≤ 100000000 → Ev (fun k => laws_markText.f k a) (txt a)) (l : List ByteArray) (hn : l.length ≤ 1000000) :
    ∃ L : List ByteArray, Ev (fun k => laws_markStringS.f k l 101) (101 + (l.length : Int), L) ∧ L.length = l.length ∧ ∀ j, j < l.length → rdOf ByteArray.empty L (j : Int) = txt (101 + (j : Int)) := by
  have key : ∀ d i (x0 : List ByteArray), i + d = l.length → x0.length = l.length → (∀ j, j < i → rdOf ByteArray.empty x0 (j : Int) = txt (101 + (j : Int))) →
      ∃ L : List ByteArray, Ev (fun k => laws_markStringS.l0 k x0 (101 + (i : Int)) (i : Int)) (101 + (l.length : Int), L) ∧ L.length = l.length ∧ ∀ j, j < l.length → rdOf ByteArray.empty L (j : Int) = txt (101 + (j : Int)) := by
    intro d
    induction d with
    | zero =>
      intro i x0 hi hx hm
      obtain rfl : i = l.length := by omega
      refine ⟨x0, Ev.dn ?_, hx, hm⟩
      simp only [laws_markStringS.l0, if_neg (show ¬ (l.length : Int) < (x0.length : Int) by omega)]
      exact Ev.now _
    | succ d ih =>
      intro i x0 hi hx hm
      have h0 := ht (101 + (i : Int)) (by omega) (by omega)
      have hw : wrap64 (101 + (i : Int) + 1) = 101 + ((i + 1 : Nat) : Int) := by rw [wrap_id (by omega) (by omega)]; omega
      obtain ⟨L, hL, hL2, hL3⟩ := ih (i + 1) (x0.set i (txt (101 + (i : Int)))) (by omega) (by rw [List.length_set, hx]) (fun j hj => by
        by_cases e : j = i
        · rw [e]; exact rds_set_self _ _ _ (by omega)
        · rw [rds_set_ne _ _ _ _ (Ne.symm e)]
          exact hm j (by omega))
      refine ⟨L, Ev.dn ?_, hL2, hL3⟩
      simp only [laws_markStringS.l0, if_pos (show (i : Int) < (x0.length : Int) by omega), if_pos (show (0 : Int) ≤ (i : Int) by omega), Int.toNat_natCast, hw, wrap_succ (show i < l.length by omega) (show l.length ≤ 9223372036854775807 by omega)]
      exact Ev.bind h0 hL
  exact key l.length 0 l (by omega) rfl (fun j hj => by omega)
theorem heldStringS_ev {txt : Int → ByteArray} (ht : ∀ a, 1 ≤ a → a ≤ 100000000 → Ev (fun k => laws_markText.f k a) (txt a)) (L : List ByteArray) (hn : L.length ≤ 1000000)
    (hL : ∀ j, j < L.length → rdOf ByteArray.empty L (j : Int) = txt (101 + (j : Int))) : Ev (fun k => laws_heldStringS.f k L 101) (101 + (L.length : Int)) := by
  have key : ∀ d i, i + d = L.length → Ev (fun k => laws_heldStringS.l0 k L (101 + (i : Int)) (i : Int)) (101 + (L.length : Int)) := by
    intro d
    induction d with
    | zero =>
      intro i hi
      obtain rfl : i = L.length := by omega
      refine Ev.dn ?_
      simp only [laws_heldStringS.l0, if_neg (show ¬ (L.length : Int) < (L.length : Int) by omega)]
      exact Ev.now _
    | succ d ih =>
      intro i hi
      have hs := ih (i + 1) (by omega)
      have h0 := ht (101 + (i : Int)) (by omega) (by omega)
      have hw : wrap64 (101 + (i : Int) + 1) = 101 + ((i + 1 : Nat) : Int) := by rw [wrap_id (by omega) (by omega)]; omega
      have e := congrArg ByteArray.toList (hL i (by omega))
      refine Ev.dn ?_
      simp only [laws_heldStringS.l0, if_pos (show (i : Int) < (L.length : Int) by omega), if_pos (show (0 : Int) ≤ (i : Int) by omega), hw, wrap_succ (show i < L.length by omega) (show L.length ≤ 9223372036854775807 by omega)]
      refine Ev.bind h0 ?_
      simp only [if_pos e]
      exact hs
  exact key L.length 0 (by omega)
theorem less_irrefl : ∀ x : List UInt8, Op.bytesLess x x = false
  | [] => rfl
  | a :: x => by
    have h : ¬ a < a := by rw [UInt8.lt_iff_toNat_lt]; omega
    simp [Op.bytesLess, h, less_irrefl x]
theorem less_trans : ∀ x y z : List UInt8, Op.bytesLess x y = true → Op.bytesLess y z = true → Op.bytesLess x z = true
  | [], [], z, h, _ => by simp [Op.bytesLess] at h
  | [], _ :: _, [], _, h => by simp [Op.bytesLess] at h
  | [], _ :: _, _ :: _, _, _ => by simp [Op.bytesLess]
  | _ :: _, [], _, h, _ => by simp [Op.bytesLess] at h
  | _ :: _, _ :: _, [], _, h => by simp [Op.bytesLess] at h
  | a :: x, b :: y, c :: z, h, g => by
    have ih := less_trans x y z
    simp only [Op.bytesLess, Bool.or_eq_true, Bool.and_eq_true, decide_eq_true_eq, beq_iff_eq] at h g ⊢
    rcases h with h | ⟨rfl, h⟩ <;> rcases g with g | ⟨rfl, g⟩
    · left; rw [UInt8.lt_iff_toNat_lt] at h g ⊢; omega
    · exact .inl h
    · exact .inl g
    · exact .inr ⟨rfl, ih h g⟩
theorem less_tri : ∀ x y : List UInt8, Op.bytesLess x y = false → Op.bytesLess y x = false → x = y
  | [], [], _, _ => rfl
  | [], _ :: _, h, _ => by simp [Op.bytesLess] at h
  | _ :: _, [], _, h => by simp [Op.bytesLess] at h
  | a :: x, b :: y, h, g => by
    have ih := less_tri x y
    simp only [Op.bytesLess, Bool.or_eq_false_iff, Bool.and_eq_false_iff, decide_eq_false_iff_not, beq_eq_false_iff_ne] at h g
    have e : a = b := by
      have h1 := h.1
      have g1 := g.1
      rw [UInt8.lt_iff_toNat_lt] at h1 g1
      exact UInt8.toNat_inj.1 (by omega)
    subst e
    rw [ih (h.2.resolve_left (fun q => q rfl)) (g.2.resolve_left (fun q => q rfl))]
def blt (a b : ByteArray) : Bool := Op.bytesLess a.toList b.toList
theorem blt_irrefl (a : ByteArray) : blt a a = false := less_irrefl _
theorem blt_trans {a b c : ByteArray} (h : blt a b = true) (g : blt b c = true) : blt a c = true := less_trans _ _ _ h g
theorem blt_asym {a b : ByteArray} (h : blt a b = true) : blt b a = false := by
  cases c : blt b a with
  | false => rfl
  | true => have := blt_trans h c; rw [blt_irrefl] at this; exact this.symm
def Inc (l : List ByteArray) : Prop := l.Pairwise (fun a b => blt a b = true)
/-- Strictly increasing words with one more. -/
def insW : List ByteArray → ByteArray → List ByteArray
  | [], w => [w]
  | x :: l, w => if blt w x = true then w :: x :: l else if blt x w = true then x :: insW l w else x :: l
theorem insW_mem : ∀ (l : List ByteArray) (w x : ByteArray), x ∈ insW l w ↔ x = w ∨ x ∈ l
  | [], w, x => by simp [insW]
  | y :: l, w, x => by
    have ih := insW_mem l w x
    unfold insW
    by_cases h1 : blt w y = true
    · rw [if_pos h1]; simp
    · rw [if_neg h1]
      by_cases h2 : blt y w = true
      · rw [if_pos h2, List.mem_cons, ih, List.mem_cons]
        constructor
        · rintro (h | h | h)
          · exact .inr (.inl h)
          · exact .inl h
          · exact .inr (.inr h)
        · rintro (h | h | h)
          · exact .inr (.inl h)
          · exact .inl h
          · exact .inr (.inr h)
      · rw [if_neg h2]
        have e : w = y := toList_inj (less_tri _ _ (by simpa [blt] using h1) (by simpa [blt] using h2))
        subst e
        simp
theorem insW_inc : ∀ (l : List ByteArray) (w : ByteArray), Inc l → Inc (insW l w)
  | [], w, _ => List.pairwise_singleton _ _
  | y :: l, w, h => by
    have hp := List.pairwise_cons.1 h
    have ih := insW_inc l w hp.2
    unfold insW
    by_cases h1 : blt w y = true
    · rw [if_pos h1]
      refine List.pairwise_cons.2 ⟨fun z hz => ?_, h⟩
      rcases List.mem_cons.1 hz with rfl | hz
      · exact h1
      · exact blt_trans h1 (hp.1 z hz)
    · rw [if_neg h1]
      by_cases h2 : blt y w = true
      · rw [if_pos h2]
        refine List.pairwise_cons.2 ⟨fun z hz => ?_, ih⟩
        rcases (insW_mem l w z).1 hz with rfl | hz
        · exact h2
        · exact hp.1 z hz
      · rw [if_neg h2]; exact h
theorem insW_len : ∀ (l : List ByteArray) (w : ByteArray), (insW l w).length ≤ l.length + 1
  | [], w => by simp [insW]
  | y :: l, w => by
    have ih := insW_len l w
    unfold insW
    split
    · simp
    · split
      · simp only [List.length_cons]; omega
      · simp
theorem insW_at : ∀ (l : List ByteArray) (w : ByteArray) (m : Nat), m ≤ l.length → (∀ x ∈ l.take m, blt x w = true) → (∀ x ∈ l.drop m, blt w x = true) → insW l w = l.take m ++ [w] ++ l.drop m
  | [], w, m, _, _, _ => by simp [insW]
  | y :: l, w, 0, _, _, h2 => by
    have := h2 y (by simp)
    unfold insW
    rw [if_pos this]
    rfl
  | y :: l, w, m + 1, hm, h1, h2 => by
    have hy := h1 y (by simp)
    have ih := insW_at l w m (by simpa using hm) (fun x hx => h1 x (by rw [List.take_succ_cons]; exact List.mem_cons_of_mem _ hx)) h2
    unfold insW
    rw [if_neg (by rw [blt_asym hy]; decide), if_pos hy, ih]
    rfl
theorem insW_in : ∀ (l : List ByteArray) (w : ByteArray), Inc l → w ∈ l → insW l w = l
  | [], w, _, h => by simp at h
  | y :: l, w, hi, h => by
    have hp := List.pairwise_cons.1 hi
    unfold insW
    rcases List.mem_cons.1 h with rfl | h
    · rw [blt_irrefl]; rfl
    · have := hp.1 w h
      rw [if_neg (by rw [blt_asym this]; decide), if_pos this, insW_in l w hp.2 h]
theorem inc_at {l : List ByteArray} (h : Inc l) (i j : Nat) (hij : i < j) (hj : j < l.length) : blt (l[i]'(by omega)) l[j] = true := List.pairwise_iff_getElem.1 h i j (by omega) hj hij
theorem take_lt {l : List ByteArray} (h : Inc l) (w : ByteArray) (m : Nat) (hm : m < l.length) (hw : blt l[m] w = true) : ∀ x ∈ l.take (m + 1), blt x w = true := by
  intro x hx
  obtain ⟨j, hj, rfl⟩ := List.getElem_of_mem hx
  rw [List.length_take] at hj
  rw [List.getElem_take]
  by_cases e : j = m
  · subst e; exact hw
  · exact blt_trans (inc_at h j m (by omega) hm) hw
theorem drop_gt {l : List ByteArray} (h : Inc l) (w : ByteArray) (m : Nat) (hm : m < l.length) (hw : blt w l[m] = true) : ∀ x ∈ l.drop m, blt w x = true := by
  intro x hx
  obtain ⟨j, hj, rfl⟩ := List.getElem_of_mem hx
  rw [List.length_drop] at hj
  rw [List.getElem_drop]
  by_cases e : j = 0
  · subst e; exact hw
  · exact blt_trans hw (inc_at h m (m + j) (by omega) (by omega))
theorem impl_putWord_ev (l : List ByteArray) (w : ByteArray) (hi : Inc l) (hn : l.length ≤ 1000000) : Ev (fun k => impl_putWord.f k l w) (insW l w) := by
  have key : ∀ m : Nat, m ≤ l.length → (∀ x ∈ l.drop m, blt w x = true) → Ev (fun k => impl_putWord.l0 k l w (m : Int)) (insW l w) := by
    intro m
    induction m with
    | zero =>
      intro hm hd
      refine Ev.dn ?_
      rw [insW_at l w 0 hm (by simp) hd]
      simp only [impl_putWord.l0]
      refine Ev.all fun k => ?_
      rw [if_neg (by omega), if_pos (show l.length < 8796093022208 by omega), Option.bind_some, show wrap64 (((0 : Nat) : Int) + 1) = 1 from wrap_id (by omega) (by omega), if_pos (by omega), if_pos (by simp; omega), if_pos (by omega), if_pos (by simp; omega)]
      rfl
    | succ m ih =>
      intro hm hd
      have hw : wrap64 (((m + 1 : Nat) : Int) - 1) = (m : Int) := by rw [wrap_id (by omega) (by omega)]; omega
      by_cases h1 : blt w l[m] = true
      · have hs := ih (by omega) (drop_gt hi w m (by omega) h1)
        refine Ev.dn ?_
        refine Ev.eq' hs (fun k => ?_)
        simp only [impl_putWord.l0]
        rw [if_pos (by omega), hw, if_pos (by omega), if_pos (by omega), rdOf_nat (by omega)]
        rw [if_pos (show Op.bytesLess w.toList l[m].toList = true from h1)]
      · refine Ev.dn (Ev.all fun k => ?_)
        simp only [impl_putWord.l0]
        rw [if_pos (by omega), hw, if_pos (by omega), if_pos (by omega), rdOf_nat (by omega), if_neg (show ¬ Op.bytesLess w.toList l[m].toList = true from h1)]
        by_cases h2 : l[m].toList = w.toList
        · rw [if_pos h2, insW_in l w hi (by rw [← toList_inj h2]; exact List.getElem_mem _)]
        · have h3 : blt l[m] w = true := by
            cases c : blt l[m] w with
            | true => rfl
            | false => exact absurd (less_tri _ _ c (by simpa [blt] using h1)) h2
          rw [if_neg h2, if_pos (show l.length < 8796093022208 by omega), Option.bind_some, show wrap64 (((m + 1 : Nat) : Int) + 1) = ((m + 2 : Nat) : Int) by rw [wrap_id (by omega) (by omega)]; omega, if_pos (by omega), if_pos (by simp; omega), if_pos (by omega), if_pos (by simp; omega), Int.toNat_natCast, insW_at l w (m + 1) hm (take_lt hi w m (by omega) h3) hd]
  unfold impl_putWord.f
  exact key l.length (Nat.le_refl _) (by simp)
theorem spec_l20Insert_ev (l : List ByteArray) (w : ByteArray) (hi : Inc l) (hn : l.length ≤ 1000000) : Ev (fun k => spec_l20Insert.f k l w) (insW l w) := by
  have fin : ∀ m : Nat, m ≤ l.length → (([] : List ByteArray) ++ l.take m).length + [w].length < 8796093022208 ∧ (([] : List ByteArray) ++ l.take m ++ [w]).length + (l.drop m).length < 8796093022208 := by
    intro m hm
    simp only [List.nil_append, List.length_append, List.length_take, List.length_drop, List.length_cons, List.length_nil]
    omega
  have key : ∀ d m : Nat, m + d = l.length → (∀ x ∈ l.take m, blt x w = true) → Ev (fun k => spec_l20Insert.l0 k l w (m : Int)) (insW l w) := by
    intro d
    induction d with
    | zero =>
      intro m hm hd
      obtain ⟨f1, f2⟩ := fin m (by omega)
      have f0 : ([] : List ByteArray).length + (l.take m).length < 8796093022208 := by simp only [List.length_take, List.length_nil]; omega
      refine Ev.dn (Ev.all fun k => ?_)
      simp only [spec_l20Insert.l0]
      rw [if_neg (by omega), Option.bind_some, if_pos (by omega), if_pos (by omega), Option.bind_some, Int.toNat_natCast, if_pos f0, Option.bind_some, Option.bind_some, if_pos f1, Option.bind_some, Option.bind_some, if_pos f2, insW_at l w m (by omega) hd (by rw [List.drop_eq_nil_of_le (by omega)]; simp)]
      rfl
    | succ d ih =>
      intro m hm hd
      by_cases h1 : blt l[m] w = true
      · have hs := ih (m + 1) (by omega) (take_lt hi w m (by omega) h1)
        refine Ev.dn (Ev.eq' hs (fun k => ?_))
        simp only [spec_l20Insert.l0]
        rw [if_pos (by omega), if_pos (by omega), rdOf_nat (by omega), if_pos (show Op.bytesLess l[m].toList w.toList = true from h1), wrap_succ (show m < l.length by omega) (by omega)]
      · refine Ev.dn (Ev.all fun k => ?_)
        simp only [spec_l20Insert.l0]
        rw [if_pos (by omega), if_pos (by omega), rdOf_nat (by omega), if_neg (show ¬ Op.bytesLess l[m].toList w.toList = true from h1)]
        by_cases h2 : l[m].toList = w.toList
        · rw [if_pos h2, insW_in l w hi (by rw [← toList_inj h2]; exact List.getElem_mem _)]
        · have h3 : blt w l[m] = true := by
            cases c : blt w l[m] with
            | true => rfl
            | false => exact absurd (less_tri _ _ (by simpa [blt] using h1) c) h2
          obtain ⟨f1, f2⟩ := fin m (by omega)
          have f0 : ([] : List ByteArray).length + (l.take m).length < 8796093022208 := by simp only [List.length_take, List.length_nil]; omega
          rw [if_neg h2, Option.bind_some, if_pos (by omega), Option.bind_some, Int.toNat_natCast, if_pos f0, Option.bind_some, Option.bind_some, if_pos f1, Option.bind_some, Option.bind_some, if_pos f2, insW_at l w m (by omega) hd (drop_gt hi w m (by omega) h3)]
          rfl
  unfold spec_l20Insert.f
  exact key l.length 0 (by omega) (by simp)
/-- The zones that are occupied: those of the first n moves with people at t. -/
def occ (l : List S42) (t : Int) : Nat → List ByteArray
  | 0 => []
  | n + 1 => if pplT l (rd_T42 l (n : Int)).f1 t l.length > 0 then insW (occ l t n) (rd_T42 l (n : Int)).f1 else occ l t n
theorem occ_inc (l : List S42) (t : Int) : ∀ n, Inc (occ l t n)
  | 0 => List.Pairwise.nil
  | n + 1 => by
    have ih := occ_inc l t n
    simp only [occ]
    split
    · exact insW_inc _ _ ih
    · exact ih
theorem occ_len (l : List S42) (t : Int) : ∀ n, (occ l t n).length ≤ n
  | 0 => by simp [occ]
  | n + 1 => by
    have ih := occ_len l t n
    simp only [occ]
    split
    · exact Nat.le_trans (insW_len _ _) (by omega)
    · omega
theorem occ_mem (l : List S42) (t : Int) : ∀ n x, x ∈ occ l t n ↔ ∃ j, j < n ∧ (rd_T42 l (j : Int)).f1 = x ∧ pplT l x t l.length > 0
  | 0, x => by simp [occ]
  | n + 1, x => by
    have ih := occ_mem l t n x
    have old : (∃ j, j < n ∧ (rd_T42 l (j : Int)).f1 = x ∧ pplT l x t l.length > 0) → ∃ j, j < n + 1 ∧ (rd_T42 l (j : Int)).f1 = x ∧ pplT l x t l.length > 0 := fun ⟨j, h1, h2⟩ => ⟨j, by omega, h2⟩
    simp only [occ]
    by_cases h : pplT l (rd_T42 l (n : Int)).f1 t l.length > 0
    · rw [if_pos h, insW_mem, ih]
      constructor
      · rintro (rfl | hh)
        · exact ⟨n, by omega, rfl, h⟩
        · exact old hh
      · rintro ⟨j, h1, h2, h3⟩
        by_cases e : j = n
        · subst e; exact .inl h2.symm
        · exact .inr ⟨j, by omega, h2, h3⟩
    · rw [if_neg h, ih]
      constructor
      · exact old
      · rintro ⟨j, h1, h2, h3⟩
        by_cases e : j = n
        · subst e; subst h2; exact absurd h3 h
        · exact ⟨j, by omega, h2, h3⟩
theorem pplT_pos (l : List S42) (z : ByteArray) (t : Int) : ∀ n, pplT l z t n > 0 → ∃ j, j < n ∧ (rd_T42 l (j : Int)).f1.toList = z.toList ∧ (rd_T42 l (j : Int)).f0 ≤ t
  | 0, h => by simp [pplT] at h
  | n + 1, h => by
    simp only [pplT] at h
    by_cases c : (rd_T42 l (n : Int)).f1.toList = z.toList ∧ (rd_T42 l (n : Int)).f0 ≤ t
    · exact ⟨n, by omega, c⟩
    · rw [if_neg c] at h
      obtain ⟨j, h1, h2⟩ := pplT_pos l z t n h
      exact ⟨j, by omega, h2⟩
theorem occ_stop (l : List S42) (t : Int) (m : Nat) (hb : ∀ j, j < l.length → mvB l j = true) (hm : ∀ j, j < l.length → (rd_T42 l (j : Int)).f0 ≤ t → j < m) : ∀ n, m ≤ n → occ l t n = occ l t m
  | 0, h => by rw [show m = 0 by omega]
  | n + 1, h => by
    by_cases e : m = n + 1
    · rw [e]
    · have ih := occ_stop l t m hb hm n (by omega)
      simp only [occ]
      by_cases c : pplT l (rd_T42 l (n : Int)).f1 t l.length > 0
      · rw [if_pos c]
        obtain ⟨j, h1, h2, h3⟩ := pplT_pos l _ t _ c
        have hj := hm j h1 h3
        rw [insW_in _ _ (occ_inc l t n) ((occ_mem l t n _).2 ⟨j, by omega, toList_inj h2, c⟩), ih]
      · rw [if_neg c, ih]
theorem isWd_a : isWd (⟨#[97]⟩ : ByteArray) = true := by decide
def ocR (l : List S42) (t : Int) : List ByteArray × Int := if areMv l = true then (if 0 ≤ t ∧ t ≤ 10000000 then (occ l t l.length, 0) else ([], 2)) else ([], 1)
theorem ocR_len (l : List S42) (t : Int) (hn : l.length ≤ 1000000) : (ocR l t).1.length ≤ 1000000 := by
  unfold ocR
  split
  · split
    · exact Nat.le_trans (occ_len l t l.length) hn
    · exact Nat.zero_le _
  · exact Nat.zero_le _
theorem spec_OccupiedAt_is (l : List S42) (t : Int) (hn : l.length ≤ 1000000) (hz : szOk l) : Ev (fun k => spec_OccupiedAt.f k l t) (ocR l t) := by
  unfold spec_OccupiedAt.f
  refine Ev.bind (spec_l20Code_ev l _ t hn hz (by decide)) ?_
  by_cases h : cdZ l (⟨#[97]⟩ : ByteArray) t = 0
  · obtain ⟨hm, h0, h1⟩ := cdZ_zero h
    obtain ⟨hb, hl⟩ := areMv_ok hm
    obtain ⟨u1, u2, u3, u4⟩ := upto_spec l t l.length 0
    simp only [if_pos h]
    refine Ev.bind (spec_l20Upto_ev l t hn) ?_
    have e : ocR l t = (occ l t (upto l t 0 l.length), 0) := by
      unfold ocR
      rw [if_pos hm, if_pos ⟨h0, h1⟩, occ_stop l t (upto l t 0 l.length) hb (fun j hj hle => by
        rcases Nat.lt_or_ge j (upto l t 0 l.length) with q | q
        · exact q
        · exact absurd (Int.le_trans (mvB_sorted hb j (upto l t 0 l.length) q hj) hle) (u4 (by omega))) l.length (by omega)]
    rw [e]
    obtain ⟨m, em⟩ : ∃ m, m = upto l t 0 l.length := ⟨_, rfl⟩
    have hp : ∀ z, ppl l z m = pplT l z t l.length := fun z => by rw [em]; exact ppl_upto z t hb
    rw [← em] at u2 ⊢
    have key : ∀ d i, i + d = m → Ev (fun k => spec_OccupiedAt.l0 k l (occ l t i) (m : Int) (i : Int)) (occ l t m, 0) := by
      intro d
      induction d with
      | zero =>
        intro i hi
        obtain rfl : i = m := by omega
        refine Ev.dn ?_
        simp only [spec_OccupiedAt.l0, if_neg (show ¬ (i : Int) < (i : Int) by omega)]
        exact Ev.now _
      | succ d ih =>
        intro i hi
        have hs := ih (i + 1) (by omega)
        refine Ev.dn ?_
        simp only [spec_OccupiedAt.l0, if_pos (show (i : Int) < (m : Int) by omega), if_pos (show (0 : Int) ≤ (i : Int) by omega), if_pos (show (i : Int) < (l.length : Int) by omega), wrap_succ (show i < m by omega) (show m ≤ 9223372036854775807 by omega)]
        refine Ev.bind (spec_l20People_ev l (rd_T42 l (i : Int)).f1 m (by omega) hn (fun j hj => mvB_chg hb j (by omega))) ?_
        rw [hp]
        simp only [occ] at hs
        by_cases g : pplT l (rd_T42 l (i : Int)).f1 t l.length > 0
        · simp only [if_pos g] at hs ⊢
          exact Ev.bind (spec_l20Insert_ev _ _ (occ_inc l t i) (by have := occ_len l t i; omega)) hs
        · simp only [if_neg g] at hs ⊢
          exact hs
    exact key m 0 (by omega)
  · simp only [if_neg h]
    have e : ocR l t = ([], cdZ l (⟨#[97]⟩ : ByteArray) t) := by
      unfold ocR
      by_cases h1 : areMv l = true
      · rw [if_pos h1]
        by_cases h2 : 0 ≤ t ∧ t ≤ 10000000
        · exact absurd (by unfold cdZ; rw [if_pos ⟨h1, isWd_a⟩, if_pos h2]) h
        · unfold cdZ
          rw [if_neg h2, if_pos ⟨h1, isWd_a⟩, if_neg h2]
      · unfold cdZ
        rw [if_neg h1, if_neg (fun q => h1 q.1)]
    rw [e]
    exact Ev.now _
theorem impl_OccupiedAt_is (l : List S42) (t : Int) (hn : l.length ≤ 1000000) (hz : szOk l) : Ev (fun k => impl_OccupiedAt.f k l t) (ocR l t) := by
  unfold impl_OccupiedAt.f ocR
  refine Ev.bind (impl_AreMoves_ev l hn hz) ?_
  by_cases hm : areMv l = true
  · obtain ⟨hb, hl⟩ := areMv_ok hm
    simp only [if_pos hm]
    have key : ∀ d i, i + d = l.length → Ev (fun k => impl_OccupiedAt.l0 k l t (occ l t i) l (l.length : Int) (i : Int)) (occ l t l.length, 0) := by
      intro d
      induction d with
      | zero =>
        intro i hi
        obtain rfl : i = l.length := by omega
        refine Ev.dn ?_
        simp only [impl_OccupiedAt.l0, if_neg (show ¬ (l.length : Int) < (l.length : Int) by omega)]
        exact Ev.now _
      | succ d ih =>
        intro i hi
        have hs := ih (i + 1) (by omega)
        refine Ev.dn ?_
        simp only [impl_OccupiedAt.l0, if_pos (show (i : Int) < (l.length : Int) by omega), if_pos (show (0 : Int) ≤ (i : Int) by omega), wrap_succ (show i < l.length by omega) (show l.length ≤ 9223372036854775807 by omega)]
        refine Ev.bind (impl_peopleIn_ev l (rd_T42 l (i : Int)).f1 t hn (mvB_chg hb)) ?_
        simp only [occ] at hs
        by_cases g : pplT l (rd_T42 l (i : Int)).f1 t l.length > 0
        · simp only [if_pos g] at hs ⊢
          exact Ev.bind (impl_putWord_ev _ _ (occ_inc l t i) (by have := occ_len l t i; omega)) hs
        · simp only [if_neg g] at hs ⊢
          exact hs
    simp only [impl_isTime.f, impl_within.f]
    by_cases h0 : 0 ≤ t
    · by_cases h1 : t ≤ 10000000
      · simp only [if_pos h0, h1, decide_true, Option.bind_some, if_true, and_true, h0]
        exact key l.length 0 (by omega)
      · simp only [if_pos h0, h1, decide_false, Option.bind_some, Bool.false_eq_true, if_false, and_false]
        exact Ev.now _
    · simp only [if_neg h0, Option.bind_some, Bool.false_eq_true, if_false, h0, false_and]
      exact Ev.now _
  · simp only [if_neg hm]
    exact Ev.now _
theorem FnExactOccupiedAt : ∀ (l0 : List S38) (a1 : Int), (l0.length ≤ reachBytes ∧ ∀ y ∈ l0, ((Lit.int .i64 y.f0).wf = true ∧ y.f1.size ≤ reachBytes ∧ (Lit.int .i64 y.f2).wf = true)) → (Lit.int .i64 a1).wf = true → ∃ k, laws_FnExactOccupiedAt.f k l0 a1 = some true := by
  intro l0 a1 ⟨hm, hy⟩ hw
  unfold reachBytes at hm hy
  apply Ev.rounds
  unfold laws_FnExactOccupiedAt.f
  have hz : ∀ y ∈ l0, y.f1.size ≤ 9223372036854775807 := fun y h => Nat.le_trans (hy y h).2.1 (by decide)
  obtain ⟨r, hr, hr2⟩ := szMoveS_some l0 (by omega) hz 1000000 (by omega) (by omega)
  refine Ev.bind hr ?_
  by_cases h : r < 0
  · simp only [if_pos h]
    exact Ev.now _
  obtain ⟨hl, _, _⟩ := hr2 h
  simp only [if_neg h, toMoveS_some _ l0 _ hl, Option.bind_some]
  have hc : (l0.map laws_toMoveS.conv).length ≤ 1000000 := by simpa using hl
  have hso := conv_szOk l0 hz
  generalize hcc : l0.map laws_toMoveS.conv = c at hc hso
  have h1 := spec_OccupiedAt_is c a1 hc hso
  have h2 := impl_OccupiedAt_is c a1 hc hso
  have hq := ocR_len c a1 hc
  generalize ocR c a1 = q at h1 h2 hq
  obtain ⟨txt, ht⟩ := marks
  obtain ⟨M, m1, _, _⟩ := markMoveS_ev ht c hc
  obtain ⟨L, s1, s2, s3⟩ := markStringS_ev ht q.1 hq
  have hd := heldStringS_ev ht L (by omega) (fun j hj => s3 j (by omega))
  rw [s2] at hd
  have he := eqStringS_refl q.1 (by omega)
  refine Ev.bind h1 (Ev.bind h2 (Ev.bind he ?_))
  simp only [if_true, bne_self_eq_false]
  refine Ev.dn ?_
  simp only [laws_FnExactOccupiedAt.j0, Bool.false_eq_true, if_false, toMoveS_some _ l0 _ hl, Option.bind_some, hcc]
  refine Ev.bind (intactMoveS_refl c hc) ?_
  simp only [if_true]
  refine Ev.bind m1 ?_
  simp only [if_neg (show ¬ (101 + 3 * (c.length : Int)) < 0 by omega)]
  refine Ev.bind he ?_
  simp only [if_true, bne_self_eq_false]
  refine Ev.dn ?_
  simp only [laws_FnExactOccupiedAt.j1, Bool.false_eq_true, if_false]
  refine Ev.bind s1 (Ev.bind hd ?_)
  simp only [if_neg (show ¬ (101 + (q.1.length : Int)) < 0 by omega), if_true, toMoveS_some _ l0 _ hl, Option.bind_some, hcc]
  refine Ev.bind h2 (Ev.bind he ?_)
  simp only [if_true, bne_self_eq_false]
  refine Ev.dn ?_
  simp only [laws_FnExactOccupiedAt.j2, Bool.false_eq_true, if_false]
  refine Ev.bind hd ?_
  simp only [if_neg (show ¬ (101 + (q.1.length : Int)) < 0 by omega), if_true]
  exact Ev.now _
end Go.Proofs.Ytllhghcepbkpeaa.Pure
