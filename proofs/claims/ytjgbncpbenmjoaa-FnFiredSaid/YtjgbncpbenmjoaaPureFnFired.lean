/- The law FnFired as a statement over numbers and lists, proved; no condition but the sizes and ranges that every input has. -/
import Derived.Test.YtjgbncpbenmjoaaF41
import Derived.Test.YtjgbncpbenmjoaaEv
namespace Go.Proofs.Ytjgbncpbenmjoaa.Pure
open Go.RowKit Go.Proofs.Ytjgbncpbenmjoaa.Pall Go.Proofs.YtjgbncpbenmjoaaW.PrintWords
set_option linter.unusedSimpArgs false
set_option linter.unusedVariables false
def wdB (s : ByteArray) (j : Nat) : Bool := !decide (bt s (j : Int) < 97) && !decide (bt s (j : Int) > 122)
def isWd (s : ByteArray) : Bool := allD (wdB s) 0 s.size && (decide (1 ≤ s.size) && decide (s.size ≤ 16))
theorem spec_IsWord_ev (s : ByteArray) (hn : s.size ≤ 9223372036854775807) : Ev (fun k => spec_IsWord.f k s) (isWd s) := by
  have h := Ev.allLoop (l := fun k i => spec_IsWord.l0 k s i) (n := s.size) (wdB s) false (decide (1 ≤ s.size) && decide (s.size ≤ 16))
    (fun i hi => Evt.all fun k => by
      simp only [spec_IsWord.l0]
      rw [if_pos (by omega), if_pos (by omega), wrap_succ hi hn]
      by_cases h1 : bt s (i : Int) < 97 <;> by_cases h2 : bt s (i : Int) > 122 <;> simp [wdB, h1, h2])
    (Evt.all fun k => by
      simp only [spec_IsWord.l0, spec_l01In.f]
      rw [if_neg (by omega)]
      by_cases h1 : 1 ≤ s.size
      · have e2 : decide (s.size ≤ 16) = decide ((s.size : Int) ≤ 16) := decide_eq_decide.2 (by omega)
        rw [if_pos (by omega), Option.bind_some, e2, decide_eq_true h1, Bool.true_and]
      · rw [if_neg (by omega), Option.bind_some, decide_eq_false h1, Bool.false_and]) s.size 0 (by omega)
  refine h.eq ?_
  unfold isWd
  cases allD (wdB s) 0 s.size <;> simp
theorem impl_IsWord_ev (s : ByteArray) (hn : s.size ≤ 9223372036854775807) : Ev (fun k => impl_IsWord.f k s) (isWd s) := by
  have hb : Ev (fun k => impl_IsWord.j0 k s true) false := Ev.dn (by simp only [impl_IsWord.j0]; exact Ev.now _)
  unfold impl_IsWord.f isWd
  by_cases h1 : (s.size : Int) < 1
  · simp only [if_pos h1]
    refine hb.eq ?_
    rw [decide_eq_false (show ¬ 1 ≤ s.size by omega)]
    simp
  simp only [if_neg h1]
  rw [decide_eq_true (show 1 ≤ s.size by omega)]
  by_cases h2 : s.size ≤ 16
  · rw [decide_eq_false (show ¬ (s.size : Int) > 16 by omega), decide_eq_true h2]
    refine Ev.dn ?_
    simp only [impl_IsWord.j0, Bool.false_eq_true, if_false]
    have h := Ev.allLoop (l := fun k i => impl_IsWord.l0 k s i) (n := s.size) (wdB s) false true
      (fun i hi => Evt.all fun k => by
        simp only [impl_IsWord.l0]
        rw [if_pos (by omega), if_pos (by omega), wrap_succ hi hn]
        by_cases h1 : bt s (i : Int) < 97 <;> by_cases h2 : bt s (i : Int) > 122 <;> simp [wdB, h1, h2])
      (Evt.all fun k => by
        simp only [impl_IsWord.l0]
        rw [if_neg (by omega)]) s.size 0 (by omega)
    refine h.eq ?_
    cases allD (wdB s) 0 s.size <;> simp
  · rw [decide_eq_true (show (s.size : Int) > 16 by omega), decide_eq_false h2]
    refine hb.eq (by simp)
theorem rdOf_size (l : List ByteArray) (hz : ∀ y ∈ l, y.size ≤ 9223372036854775807) (i : Nat) (hi : i < l.length) : (rdOf ByteArray.empty l (i : Int)).size ≤ 9223372036854775807 := by
  rw [rdOf_nat hi]
  exact hz _ (List.getElem_mem hi)
theorem rd_T111_nat {l : List S111} {i : Nat} (h : i < l.length) : rd_T111 l (i : Int) = l[i] := by simp [rd_T111, h]
/-- The people of a zone behind the first n moves. -/
def ppl (l : List S111) (z : ByteArray) : Nat → Int
  | 0 => 0
  | n + 1 => if (rd_T111 l (n : Int)).f1.toList = z.toList then ppl l z n + (rd_T111 l (n : Int)).f2 else ppl l z n
/-- The same, of the moves up to a time. -/
def pplT (l : List S111) (z : ByteArray) (t : Int) : Nat → Int
  | 0 => 0
  | n + 1 => if (rd_T111 l (n : Int)).f1.toList = z.toList ∧ (rd_T111 l (n : Int)).f0 ≤ t then pplT l z t n + (rd_T111 l (n : Int)).f2 else pplT l z t n
def chg (l : List S111) (n : Nat) : Prop := ∀ j, j < n → -1000 ≤ (rd_T111 l (j : Int)).f2 ∧ (rd_T111 l (j : Int)).f2 ≤ 1000
theorem ppl_bd (l : List S111) (z : ByteArray) : ∀ n, chg l n → -(1000 * (n : Int)) ≤ ppl l z n ∧ ppl l z n ≤ 1000 * (n : Int)
  | 0, _ => by simp [ppl]
  | n + 1, h => by
    have ih := ppl_bd l z n (fun j hj => h j (by omega))
    have := h n (by omega)
    simp only [ppl]
    split <;> omega
theorem pplT_bd (l : List S111) (z : ByteArray) (t : Int) : ∀ n, chg l n → -(1000 * (n : Int)) ≤ pplT l z t n ∧ pplT l z t n ≤ 1000 * (n : Int)
  | 0, _ => by simp [pplT]
  | n + 1, h => by
    have ih := pplT_bd l z t n (fun j hj => h j (by omega))
    have := h n (by omega)
    simp only [pplT]
    split <;> omega
theorem pplT_ppl (l : List S111) (z : ByteArray) (t : Int) : ∀ n : Nat, (∀ j, j < n → (rd_T111 l (j : Int)).f0 ≤ t) → pplT l z t n = ppl l z n
  | 0, _ => rfl
  | n + 1, h => by
    have := h n (by omega)
    simp only [pplT, ppl, this, and_true]
    rw [pplT_ppl l z t n (fun j hj => h j (by omega))]
theorem pplT_stop (l : List S111) (z : ByteArray) (t : Int) (m : Nat) : ∀ n, m ≤ n → (∀ j, m ≤ j → j < n → ¬ (rd_T111 l (j : Int)).f0 ≤ t) → pplT l z t n = pplT l z t m
  | 0, h, _ => by obtain rfl : m = 0 := by omega
                  rfl
  | n + 1, h, hj => by
    by_cases e : m = n + 1
    · rw [e]
    · have := hj n (by omega) (by omega)
      simp only [pplT, this, and_false, if_false]
      exact pplT_stop l z t m n (by omega) (fun j h1 h2 => hj j h1 (by omega))
theorem rd_take (l : List S111) (m j : Nat) (h : j < m) : rd_T111 (l.take m) (j : Int) = rd_T111 l (j : Int) := by
  simp [rd_T111, List.getElem?_take, h]
theorem ppl_take (l : List S111) (z : ByteArray) (t : Int) (m : Nat) : ∀ n, n ≤ m → pplT (l.take m) z t n = pplT l z t n
  | 0, _ => rfl
  | n + 1, h => by
    simp only [pplT]
    rw [rd_take l m n (by omega), ppl_take l z t m n (by omega)]
theorem spec_l20People_ev (l : List S111) (z : ByteArray) (n : Nat) (hn : n ≤ l.length) (hl : l.length ≤ 1000000) (hc : chg l n) : Ev (fun k => spec_l20People.f k l z (n : Int)) (ppl l z n) := by
  have key : ∀ d i, i + d = n → Ev (fun k => spec_l20People.l0 k l z (n : Int) (ppl l z i) (i : Int)) (ppl l z n) := by
    intro d
    induction d with
    | zero =>
      intro i hi
      obtain rfl : i = n := by omega
      refine Ev.dn ?_
      simp only [spec_l20People.l0, if_neg (show ¬ (i : Int) < (i : Int) by omega)]
      exact Ev.now _
    | succ d ih =>
      intro i hi
      have hb := ppl_bd l z i (fun j hj => hc j (by omega))
      have hci := hc i (by omega)
      have hs := ih (i + 1) (by omega)
      refine Ev.dn ?_
      simp only [spec_l20People.l0, if_pos (show (i : Int) < (n : Int) by omega), if_pos (show (0 : Int) ≤ (i : Int) by omega), if_pos (show (i : Int) < (l.length : Int) by omega), wrap_succ (show i < n by omega) (show n ≤ 9223372036854775807 by omega)]
      by_cases h1 : (rd_T111 l (i : Int)).f1.toList = z.toList
      · simp only [if_pos h1]
        rw [wrap_id (by omega) (by omega)]
        simpa only [ppl, if_pos h1] using hs
      · simp only [if_neg h1]
        simpa only [ppl, if_neg h1] using hs
  exact key n 0 (by omega)
theorem impl_peopleIn_ev (l : List S111) (z : ByteArray) (t : Int) (hl : l.length ≤ 1000000) (hc : chg l l.length) : Ev (fun k => impl_peopleIn.f k l z t) (pplT l z t l.length) := by
  have key : ∀ d i, i + d = l.length → Ev (fun k => impl_peopleIn.l0 k z t (pplT l z t i) l (l.length : Int) (i : Int)) (pplT l z t l.length) := by
    intro d
    induction d with
    | zero =>
      intro i hi
      obtain rfl : i = l.length := by omega
      refine Ev.dn ?_
      simp only [impl_peopleIn.l0, if_neg (show ¬ (l.length : Int) < (l.length : Int) by omega)]
      exact Ev.now _
    | succ d ih =>
      intro i hi
      have hb := pplT_bd l z t i (fun j hj => hc j (by omega))
      have hci := hc i (by omega)
      have hs := ih (i + 1) (by omega)
      refine Ev.dn ?_
      simp only [impl_peopleIn.l0, if_pos (show (i : Int) < (l.length : Int) by omega), if_pos (show (0 : Int) ≤ (i : Int) by omega), wrap_succ (show i < l.length by omega) (show l.length ≤ 9223372036854775807 by omega)]
      by_cases h1 : (rd_T111 l (i : Int)).f1.toList = z.toList
      · simp only [if_pos h1]
        by_cases h2 : (rd_T111 l (i : Int)).f0 ≤ t
        · simp only [if_pos h2]
          rw [wrap_id (by omega) (by omega)]
          simpa only [pplT, if_pos (And.intro h1 h2)] using hs
        · simp only [if_neg h2]
          simpa only [pplT, if_neg (fun h3 : _ ∧ _ => h2 h3.2)] using hs
      · simp only [if_neg h1]
        simpa only [pplT, if_neg (fun h3 : _ ∧ _ => h1 h3.1)] using hs
  exact key l.length 0 (by omega)
def mvB (l : List S111) (j : Nat) : Bool :=
  decide (0 ≤ (rd_T111 l (j : Int)).f0) && decide ((rd_T111 l (j : Int)).f0 ≤ 10000000) && isWd (rd_T111 l (j : Int)).f1 &&
    decide (-1000 ≤ (rd_T111 l (j : Int)).f2) && decide ((rd_T111 l (j : Int)).f2 ≤ 1000) && !decide ((rd_T111 l (j : Int)).f2 = 0) &&
    (decide (j = 0) || decide ((rd_T111 l ((j - 1 : Nat) : Int)).f0 ≤ (rd_T111 l (j : Int)).f0)) && !decide (ppl l (rd_T111 l (j : Int)).f1 (j + 1) < 0)
def areMv (l : List S111) : Bool := allD (mvB l) 0 l.length && decide (l.length ≤ 40)
theorem mvB_chg {l : List S111} {n : Nat} (h : ∀ j, j < n → mvB l j = true) : chg l n := by
  intro j hj
  have := h j hj
  unfold mvB at this
  simp only [Bool.and_eq_true, decide_eq_true_eq] at this
  omega
theorem mvB_sorted {l : List S111} {n : Nat} (h : ∀ j, j < n → mvB l j = true) : ∀ b a, a ≤ b → b < n → (rd_T111 l (a : Int)).f0 ≤ (rd_T111 l (b : Int)).f0
  | 0, a, h1, _ => by obtain rfl : a = 0 := by omega
                      exact Int.le_refl _
  | b + 1, a, h1, h2 => by
    by_cases e : a = b + 1
    · rw [e]
      exact Int.le_refl _
    · have ih := mvB_sorted h b a (by omega) (by omega)
      have hs := h (b + 1) h2
      unfold mvB at hs
      simp only [Bool.and_eq_true, Bool.or_eq_true, decide_eq_true_eq] at hs
      rcases hs.1.2 with h3 | h3
      · exact absurd h3 (by omega)
      · exact Int.le_trans ih h3
def szOk (l : List S111) : Prop := ∀ j, j < l.length → (rd_T111 l (j : Int)).f1.size ≤ 9223372036854775807
theorem spec_AreMoves_ev (l : List S111) (hn : l.length ≤ 1000000) (hz : szOk l) : Ev (fun k => spec_AreMoves.f k l) (areMv l) := by
  have h := Ev.allLoopP (l := fun k i => spec_AreMoves.l0 k l i) (n := l.length) (mvB l) false (decide (l.length ≤ 40))
    (fun i hi hp => by
      have hw := spec_IsWord_ev (rd_T111 l (i : Int)).f1 (hz i hi)
      by_cases hc : -1000 ≤ (rd_T111 l (i : Int)).f2 ∧ (rd_T111 l (i : Int)).f2 ≤ 1000
      · have hch : chg l (i + 1) := fun j hj => by
          by_cases e : j = i
          · rw [e]; exact hc
          · exact mvB_chg hp j (by omega)
        refine hw.evt2 (spec_l20People_ev l (rd_T111 l (i : Int)).f1 (i + 1) (by omega) hn hch) (fun k hk hk2 => ?_)
        simp only [spec_AreMoves.l0, spec_l01IsTime.f, spec_l01In.f]
        rw [if_pos (by omega), if_pos (by omega), wrap_succ hi (by omega), hk, hk2]
        generalize spec_AreMoves.l0 k l ((i + 1 : Nat) : Int) = R
        by_cases h0 : i = 0
        · have hz : (i = 0) = True := eq_true h0
          have hq : ¬ 0 < i := by omega
          clear h0
          by_cases h1 : 0 ≤ (rd_T111 l (i : Int)).f0 <;> by_cases h2 : (rd_T111 l (i : Int)).f0 ≤ 10000000 <;> cases h3 : isWd (rd_T111 l (i : Int)).f1 <;> by_cases h4 : (rd_T111 l (i : Int)).f2 = 0 <;> by_cases h5 : ppl l (rd_T111 l (i : Int)).f1 (i + 1) < 0 <;> simp [mvB, hz, hq, hc.1, hc.2, h1, h2, h3, h4, h5]
        · have hq : 0 < i := by omega
          rw [wrap_pred hi (by omega) (by omega)]
          have q1 : (0 : Int) ≤ ((i - 1 : Nat) : Int) := by omega
          have q2 : ((i - 1 : Nat) : Int) < (l.length : Int) := by omega
          by_cases h1 : 0 ≤ (rd_T111 l (i : Int)).f0 <;> by_cases h2 : (rd_T111 l (i : Int)).f0 ≤ 10000000 <;> cases h3 : isWd (rd_T111 l (i : Int)).f1 <;> by_cases h4 : (rd_T111 l (i : Int)).f2 = 0 <;> by_cases h5 : ppl l (rd_T111 l (i : Int)).f1 (i + 1) < 0 <;> by_cases h6 : (rd_T111 l ((i - 1 : Nat) : Int)).f0 ≤ (rd_T111 l (i : Int)).f0 <;> simp [mvB, h0, hq, q1, q2, hc.1, hc.2, h1, h2, h3, h4, h5, h6, Int.not_lt.2, Int.not_le.1] <;> (try omega)
      · refine hw.evt (fun k hk => ?_)
        simp only [spec_AreMoves.l0, spec_l01IsTime.f, spec_l01In.f]
        rw [if_pos (by omega), if_pos (by omega), hk]
        have hmv : mvB l i = false := by
          unfold mvB
          by_cases h7 : -1000 ≤ (rd_T111 l (i : Int)).f2
          · have h8 : ¬ (rd_T111 l (i : Int)).f2 ≤ 1000 := fun h9 => hc ⟨h7, h9⟩
            simp [h8]
          · simp [h7]
        rw [hmv]
        by_cases h1 : 0 ≤ (rd_T111 l (i : Int)).f0 <;> by_cases h2 : (rd_T111 l (i : Int)).f0 ≤ 10000000 <;> cases h3 : isWd (rd_T111 l (i : Int)).f1 <;> by_cases h7 : -1000 ≤ (rd_T111 l (i : Int)).f2 <;> by_cases h8 : (rd_T111 l (i : Int)).f2 ≤ 1000 <;> simp [h1, h2, h3, h7, h8]
        exact absurd ⟨h7, h8⟩ hc)
    (fun _ => Evt.all fun k => by
      simp only [spec_AreMoves.l0]
      rw [if_neg (by omega)]
      congr 1
      exact decide_eq_decide.2 (by omega)) l.length 0 (by omega) (fun j hj => by omega)
  refine h.eq ?_
  unfold areMv
  cases allD (mvB l) 0 l.length <;> simp
theorem impl_AreMoves_ev (l : List S111) (hn : l.length ≤ 1000000) (hz : szOk l) : Ev (fun k => impl_AreMoves.f k l) (areMv l) := by
  unfold impl_AreMoves.f
  by_cases hl : (l.length : Int) > 40
  · simp only [if_pos hl]
    refine (Ev.now false).eq ?_
    unfold areMv
    rw [decide_eq_false (by omega), Bool.and_false]
  simp only [if_neg hl]
  have h := Ev.allLoopQ (l := fun k i => impl_AreMoves.l0 k l l (l.length : Int) i) (n := l.length) (mvB l) false true
    (fun i hi hp => by
      have hw := impl_IsWord_ev (rd_T111 l (i : Int)).f1 (hz i hi)
      have hs1 := wrap_succ hi (show l.length ≤ 9223372036854775807 by omega)
      have hbad : Ev (fun k => impl_AreMoves.j1 k l (i : Int) l (l.length : Int) (i : Int) true (rd_T111 l (i : Int)).f0 (rd_T111 l (i : Int)).f1 (rd_T111 l (i : Int)).f2) false := Ev.dn (by simp only [impl_AreMoves.j1]; exact Ev.now _)
      have hgood : chg l (i + 1) → (∀ j, j < i + 1 → (rd_T111 l (j : Int)).f0 ≤ (rd_T111 l (i : Int)).f0) → ∀ r, (0 ≤ ppl l (rd_T111 l (i : Int)).f1 (i + 1) → Ev (fun k => impl_AreMoves.l0 k l l (l.length : Int) ((i + 1 : Nat) : Int)) r) → (ppl l (rd_T111 l (i : Int)).f1 (i + 1) < 0 → r = false) →
          Ev (fun k => impl_AreMoves.j1 k l (i : Int) l (l.length : Int) (i : Int) false (rd_T111 l (i : Int)).f0 (rd_T111 l (i : Int)).f1 (rd_T111 l (i : Int)).f2) r := by
        intro hch hts r hr hr2
        refine Ev.dn ?_
        simp only [impl_AreMoves.j1, hs1, Bool.false_eq_true, if_false, if_pos (show (0 : Int) ≤ ((i + 1 : Nat) : Int) by omega), if_pos (show ((i + 1 : Nat) : Int) ≤ (l.length : Int) by omega), Int.toNat_natCast]
        have hlt : (l.take (i + 1)).length = i + 1 := by rw [List.length_take]; omega
        have hpe := impl_peopleIn_ev (l.take (i + 1)) (rd_T111 l (i : Int)).f1 (rd_T111 l (i : Int)).f0 (by omega) (fun j hj => by rw [rd_take l (i + 1) j (by omega)]; exact hch j (by omega))
        rw [hlt, ppl_take _ _ _ _ _ (Nat.le_refl _), pplT_ppl _ _ _ _ hts] at hpe
        refine Ev.bind hpe ?_
        by_cases h9 : ppl l (rd_T111 l (i : Int)).f1 (i + 1) < 0
        · simp only [if_pos h9]
          rw [hr2 h9]
          exact Ev.now _
        · simp only [if_neg h9]
          exact hr (by omega)
      have hmain : ∀ r, (mvB l i = true → Ev (fun k => impl_AreMoves.l0 k l l (l.length : Int) ((i + 1 : Nat) : Int)) r) → (mvB l i = false → r = false) → Ev (fun k => impl_AreMoves.l0 k l l (l.length : Int) (i : Int)) r := by
        intro r hr hr2
        refine Ev.dn ?_
        simp only [impl_AreMoves.l0, impl_isTime.f, impl_within.f, if_pos (show (i : Int) < (l.length : Int) by omega), if_pos (show (0 : Int) ≤ (i : Int) by omega)]
        by_cases h1 : 0 ≤ (rd_T111 l (i : Int)).f0
        case neg =>
          simp only [if_neg h1, Option.bind_some, Bool.false_eq_true, if_false]
          exact hbad.eq (hr2 (by simp [mvB, h1])).symm
        simp only [if_pos h1, Option.bind_some]
        by_cases h2 : (rd_T111 l (i : Int)).f0 ≤ 10000000
        case neg =>
          simp only [decide_eq_false h2, Bool.false_eq_true, if_false]
          exact hbad.eq (hr2 (by simp [mvB, h2])).symm
        simp only [decide_eq_true h2, if_true]
        refine Ev.bind hw ?_
        cases h3 : isWd (rd_T111 l (i : Int)).f1 with
        | false =>
          simp only [Bool.false_eq_true, if_false]
          exact hbad.eq (hr2 (by simp [mvB, h3])).symm
        | true =>
        simp only [if_true]
        by_cases h4 : -1000 ≤ (rd_T111 l (i : Int)).f2
        case neg =>
          simp only [if_neg h4, Option.bind_some, Bool.false_eq_true, if_false]
          exact hbad.eq (hr2 (by simp [mvB, h4])).symm
        simp only [if_pos h4, Option.bind_some]
        by_cases h5 : (rd_T111 l (i : Int)).f2 ≤ 1000
        case neg =>
          simp only [decide_eq_false h5, Bool.false_eq_true, if_false]
          exact hbad.eq (hr2 (by simp [mvB, h5])).symm
        simp only [decide_eq_true h5, if_true]
        by_cases h6 : (rd_T111 l (i : Int)).f2 = 0
        case pos =>
          simp only [if_pos h6]
          exact hbad.eq (hr2 (by simp [mvB, h6])).symm
        simp only [if_neg h6]
        have hch : chg l (i + 1) := fun j hj => by
          by_cases e : j = i
          · rw [e]; exact ⟨h4, h5⟩
          · exact mvB_chg hp j (by omega)
        by_cases h0 : i = 0
        · have hz0 : (i = 0) = True := eq_true h0
          simp only [if_neg (show ¬ (i : Int) > 0 by omega)]
          refine hgood hch (fun j hj => by rw [show j = i by omega]; exact Int.le_refl _) r (fun h9 => hr ?_) (fun h9 => hr2 ?_)
          · simp [mvB, hz0, h1, h2, h3, h4, h5, h6, h9]
          · simp [mvB, h9]
        · simp only [if_pos (show (i : Int) > 0 by omega), wrap_pred hi (show 0 < i by omega) (show l.length ≤ 9223372036854775807 by omega), if_pos (show (0 : Int) ≤ ((i - 1 : Nat) : Int) by omega), if_pos (show ((i - 1 : Nat) : Int) < (l.length : Int) by omega)]
          by_cases h7 : (rd_T111 l ((i - 1 : Nat) : Int)).f0 ≤ (rd_T111 l (i : Int)).f0
          · rw [decide_eq_false (show ¬ (rd_T111 l ((i - 1 : Nat) : Int)).f0 > (rd_T111 l (i : Int)).f0 by omega)]
            refine hgood hch (fun j hj => ?_) r (fun h9 => hr ?_) (fun h9 => hr2 ?_)
            · by_cases e : j = i
              · rw [e]; exact Int.le_refl _
              · exact Int.le_trans (mvB_sorted hp (i - 1) j (by omega) (by omega)) h7
            · simp [mvB, h1, h2, h3, h4, h5, h6, h7, h9]
            · simp [mvB, h9]
          · rw [decide_eq_true (show (rd_T111 l ((i - 1 : Nat) : Int)).f0 > (rd_T111 l (i : Int)).f0 by omega)]
            exact hbad.eq (hr2 (by simp [mvB, h0, h7])).symm
      exact ⟨fun hs r hr => hmain r (fun _ => hr) (fun h => by rw [hs] at h; exact absurd h (by decide)), fun hs => hmain false (fun h => by rw [hs] at h; exact absurd h (by decide)) (fun _ => rfl)⟩)
    (fun _ => Ev.dn (by
      simp only [impl_AreMoves.l0, if_neg (show ¬ (l.length : Int) < (l.length : Int) by omega)]
      exact Ev.now _)) l.length 0 (by omega) (fun j hj => by omega)
  refine h.eq ?_
  unfold areMv
  rw [decide_eq_true (by omega : l.length ≤ 40), Bool.and_true]
  cases allD (mvB l) 0 l.length <;> simp
theorem areMv_ok {l : List S111} (h : areMv l = true) : (∀ j, j < l.length → mvB l j = true) ∧ l.length ≤ 40 := by
  unfold areMv at h
  simp only [Bool.and_eq_true, decide_eq_true_eq] at h
  exact ⟨fun j hj => (allD_iff _ _ _).1 h.1 j (by omega) (by omega), h.2⟩
theorem mvB_time {l : List S111} {j : Nat} (h : mvB l j = true) : 0 ≤ (rd_T111 l (j : Int)).f0 ∧ (rd_T111 l (j : Int)).f0 ≤ 10000000 := by
  unfold mvB at h
  simp only [Bool.and_eq_true, decide_eq_true_eq] at h
  omega
/-- How many moves lead the row that are not after t. -/
def upto (l : List S111) (t : Int) : Nat → Nat → Nat
  | i, 0 => i
  | i, d + 1 => if (rd_T111 l (i : Int)).f0 ≤ t then upto l t (i + 1) d else i
theorem upto_spec (l : List S111) (t : Int) : ∀ d i, i ≤ upto l t i d ∧ upto l t i d ≤ i + d ∧ (∀ j, i ≤ j → j < upto l t i d → (rd_T111 l (j : Int)).f0 ≤ t) ∧ (upto l t i d < i + d → ¬ (rd_T111 l ((upto l t i d : Nat) : Int)).f0 ≤ t)
  | 0, i => ⟨Nat.le_refl _, Nat.le_refl _, fun j h1 h2 => absurd h2 (by simp only [upto]; omega), fun h => absurd h (by simp only [upto]; omega)⟩
  | d + 1, i => by
    by_cases h : (rd_T111 l (i : Int)).f0 ≤ t
    · obtain ⟨h1, h2, h3, h4⟩ := upto_spec l t d (i + 1)
      simp only [upto, if_pos h]
      refine ⟨by omega, by omega, fun j hj hj2 => ?_, fun hh => h4 (by omega)⟩
      by_cases e : j = i
      · rw [e]; exact h
      · exact h3 j (by omega) hj2
    · simp only [upto, if_neg h]
      exact ⟨Nat.le_refl _, by omega, fun j h1 h2 => by omega, fun _ => h⟩
theorem spec_l20Upto_ev (l : List S111) (t : Int) (hn : l.length ≤ 1000000) : Ev (fun k => spec_l20Upto.f k l t) ((upto l t 0 l.length : Nat) : Int) := by
  have key : ∀ d i, i + d = l.length → Ev (fun k => spec_l20Upto.l0 k l t (i : Int)) ((upto l t i d : Nat) : Int) := by
    intro d
    induction d with
    | zero =>
      intro i hi
      refine Ev.dn ?_
      simp only [spec_l20Upto.l0, if_neg (show ¬ (i : Int) < (l.length : Int) by omega), upto]
      exact Ev.now _
    | succ d ih =>
      intro i hi
      have := ih (i + 1) (by omega)
      refine Ev.dn ?_
      simp only [spec_l20Upto.l0, if_pos (show (i : Int) < (l.length : Int) by omega), if_pos (show (0 : Int) ≤ (i : Int) by omega), wrap_succ (show i < l.length by omega) (show l.length ≤ 9223372036854775807 by omega), upto]
      by_cases h : (rd_T111 l (i : Int)).f0 ≤ t
      · simp only [if_pos h]; exact this
      · simp only [if_neg h]; exact Ev.now _
  exact key l.length 0 (by omega)
theorem ppl_upto {l : List S111} (z : ByteArray) (t : Int) (hm : ∀ j, j < l.length → mvB l j = true) : ppl l z (upto l t 0 l.length) = pplT l z t l.length := by
  obtain ⟨h1, h2, h3, h4⟩ := upto_spec l t l.length 0
  rw [← pplT_ppl l z t _ (fun j hj => h3 j (by omega) hj), pplT_stop l z t (upto l t 0 l.length) l.length (by omega) (fun j hj hj2 hh => ?_)]
  exact h4 (by omega) (Int.le_trans (mvB_sorted hm j (upto l t 0 l.length) hj hj2) hh)
/-- Does the move j leave the zone clear at t? -/
def clB (l : List S111) (z : ByteArray) (t : Int) (j : Nat) : Bool :=
  !(decide ((rd_T111 l (j : Int)).f1.toList = z.toList) && decide ((rd_T111 l (j : Int)).f0 ≤ t) && decide (t - (rd_T111 l (j : Int)).f0 < 30000))
def clr (l : List S111) (z : ByteArray) (t : Int) : Bool := allD (clB l z t) 0 l.length && (pplT l z t l.length == 0)
theorem impl_isClear_ev (l : List S111) (z : ByteArray) (t : Int) (hm : areMv l = true) (h0 : 0 ≤ t) (h1 : t ≤ 10000000) : Ev (fun k => impl_isClear.f k l z t) (clr l z t) := by
  obtain ⟨hb, hn⟩ := areMv_ok hm
  have h := Ev.allLoop (l := fun k i => impl_isClear.l0 k l z t l (l.length : Int) i) (n := l.length) (clB l z t) false (pplT l z t l.length == 0)
    (fun i hi => Evt.all fun k => by
      have ht := mvB_time (hb i hi)
      simp only [impl_isClear.l0]
      rw [if_pos (by omega), if_pos (by omega), if_pos (by omega), wrap_succ hi (by omega), wrap_id (by omega) (by omega)]
      by_cases g1 : (rd_T111 l (i : Int)).f1.toList = z.toList <;> by_cases g2 : (rd_T111 l (i : Int)).f0 ≤ t <;> by_cases g3 : t - (rd_T111 l (i : Int)).f0 < 30000 <;> simp [clB, g1, g2, g3])
    ((impl_peopleIn_ev l z t (by omega) (mvB_chg hb)).evt fun k hk => by
      simp only [impl_isClear.l0]
      rw [if_neg (by omega), hk, Option.bind_some]) l.length 0 (by omega)
  refine h.eq ?_
  unfold clr
  cases allD (clB l z t) 0 l.length <;> simp
theorem spec_l20Clear_ev (l : List S111) (z : ByteArray) (t : Int) (hm : areMv l = true) (h0 : 0 ≤ t) (h1 : t ≤ 10000000) : Ev (fun k => spec_l20Clear.f k l z t) (clr l z t) := by
  obtain ⟨hb, hn⟩ := areMv_ok hm
  obtain ⟨u1, u2, u3, u4⟩ := upto_spec l t l.length 0
  have hp := ppl_upto z t hb
  unfold spec_l20Clear.f
  refine Ev.bind (spec_l20Upto_ev l t (by omega)) ?_
  have h := Ev.allLoop (l := fun k i => spec_l20Clear.l0 k l z t ((upto l t 0 l.length : Nat) : Int) i) (n := upto l t 0 l.length) (clB l z t) false (pplT l z t l.length == 0)
    (fun i hi => Evt.all fun k => by
      have ht := mvB_time (hb i (by omega))
      have hu := u3 i (by omega) hi
      simp only [spec_l20Clear.l0]
      rw [if_pos (by omega), if_pos (by omega), if_pos (by omega), wrap_succ hi (by omega), wrap_id (by omega) (by omega)]
      by_cases g1 : (rd_T111 l (i : Int)).f1.toList = z.toList
      · by_cases g3 : t - (rd_T111 l (i : Int)).f0 < 30000
        · rw [if_pos g1, if_pos (by omega)]
          simp [clB, g1, hu, g3]
        · rw [if_pos g1, if_neg (by omega)]
          simp [clB, g1, hu, g3]
      · rw [if_neg g1]
        simp [clB, g1])
    ((spec_l20People_ev l z (upto l t 0 l.length) (by omega) (by omega) (fun j hj => mvB_chg hb j (by omega))).evt fun k hk => by
      simp only [spec_l20Clear.l0]
      rw [if_neg (by omega), hk, Option.bind_some, hp]) (upto l t 0 l.length) 0 (by omega)
  refine h.eq ?_
  have e : allD (clB l z t) 0 (upto l t 0 l.length) = allD (clB l z t) 0 l.length := by
    rw [Bool.eq_iff_iff, allD_iff, allD_iff]
    constructor
    · intro hh j hj hj2
      by_cases c : j < upto l t 0 l.length
      · exact hh j hj (by omega)
      · have : ¬ (rd_T111 l (j : Int)).f0 ≤ t := fun hle => u4 (by omega) (Int.le_trans (mvB_sorted hb j (upto l t 0 l.length) (by omega) (by omega)) hle)
        simp [clB, this]
    · exact fun hh j hj hj2 => hh j hj (by omega)
  rw [e]
  unfold clr
  cases allD (clB l z t) 0 l.length <;> simp
def allWd (zs : List ByteArray) : Bool := allD (fun j => isWd (rdOf ByteArray.empty zs (j : Int))) 0 zs.length
def zsOk (zs : List ByteArray) : Prop := ∀ y ∈ zs, y.size ≤ 9223372036854775807
theorem spec_l01All_ev (zs : List ByteArray) (hn : zs.length ≤ 1000000) (hz : zsOk zs) : Ev (fun k => spec_l01All.f k zs) (allWd zs) := by
  have h := Ev.allLoop (l := fun k i => spec_l01All.l0 k zs i) (n := zs.length) (fun j => isWd (rdOf ByteArray.empty zs (j : Int))) false true
    (fun i hi => (spec_IsWord_ev _ (rdOf_size zs hz i hi)).evt fun k hk => by
      simp only [spec_l01All.l0]
      rw [if_pos (by omega), if_pos (by omega), hk, Option.bind_some, wrap_succ hi (by omega)])
    (Evt.all fun k => by
      simp only [spec_l01All.l0]
      rw [if_neg (by omega)]) zs.length 0 (by omega)
  refine h.eq ?_
  unfold allWd
  cases allD (fun j => isWd (rdOf ByteArray.empty zs (j : Int))) 0 zs.length <;> simp
theorem impl_areZones_ev (zs : List ByteArray) (hn : zs.length ≤ 1000000) (hz : zsOk zs) : Ev (fun k => impl_areZones.f k zs) (allWd zs && decide (zs.length ≤ 60)) := by
  unfold impl_areZones.f
  by_cases g : (zs.length : Int) > 60
  · simp only [if_pos g]
    refine (Ev.now false).eq ?_
    rw [decide_eq_false (by omega), Bool.and_false]
  simp only [if_neg g]
  have h := Ev.allLoop (l := fun k i => impl_areZones.l0 k zs (zs.length : Int) i) (n := zs.length) (fun j => isWd (rdOf ByteArray.empty zs (j : Int))) false true
    (fun i hi => (impl_IsWord_ev _ (rdOf_size zs hz i hi)).evt fun k hk => by
      simp only [impl_areZones.l0]
      rw [if_pos (by omega), if_pos (by omega), if_pos (by omega), hk, Option.bind_some, wrap_succ hi (by omega)])
    (Evt.all fun k => by
      simp only [impl_areZones.l0]
      rw [if_neg (by omega)]) zs.length 0 (by omega)
  refine h.eq ?_
  unfold allWd
  rw [decide_eq_true (show zs.length ≤ 60 by omega), Bool.and_true]
  cases allD (fun j => isWd (rdOf ByteArray.empty zs (j : Int))) 0 zs.length <;> simp
def allClr (l : List S111) (zs : List ByteArray) (t : Int) : Bool := allD (fun j => clr l (rdOf ByteArray.empty zs (j : Int)) t) 0 zs.length
theorem impl_areAllClear_ev (l : List S111) (zs : List ByteArray) (t : Int) (hn : zs.length ≤ 1000000) (hm : areMv l = true) (h0 : 0 ≤ t) (h1 : t ≤ 10000000) : Ev (fun k => impl_areAllClear.f k l zs t) (allClr l zs t) := by
    unfold impl_areAllClear.f
    have h := Ev.allLoop (l := fun k i => impl_areAllClear.l0 k l t zs (zs.length : Int) i) (n := zs.length) (fun j => clr l (rdOf ByteArray.empty zs (j : Int)) t) false true
      (fun i hi => (impl_isClear_ev l (rdOf ByteArray.empty zs (i : Int)) t hm h0 h1).evt fun k hk => by
        simp only [impl_areAllClear.l0]
        rw [if_pos (by omega), if_pos (by omega), if_pos (by omega), hk, Option.bind_some, wrap_succ hi (by omega)])
      (Evt.all fun k => by
        simp only [impl_areAllClear.l0]
        rw [if_neg (by omega)]) zs.length 0 (by omega)
    refine Ev.eq h ?_
    unfold allClr
    cases allD (fun j => clr l (rdOf ByteArray.empty zs (j : Int)) t) 0 zs.length <;> simp
/-- Is the signal with the index j right, beside the one before it? -/
def sgB (l : List S33) (j : Nat) : Bool :=
  decide (0 ≤ (rd_T33 l (j : Int)).f0) && decide ((rd_T33 l (j : Int)).f0 ≤ 100000) && decide (0 ≤ (rd_T33 l (j : Int)).f1) && decide ((rd_T33 l (j : Int)).f1 ≤ 9) && !decide ((rd_T33 l (j : Int)).f1 = 8) && (decide (j = 0) || decide ((rd_T33 l ((j - 1 : Nat) : Int)).f0 ≤ (rd_T33 l (j : Int)).f0))
def areSig (l : List S33) : Bool := allD (sgB l) 0 l.length && decide (l.length ≤ 40)
theorem spec_AreSignals_ev (l : List S33) (hn : l.length ≤ 9223372036854775807) : Ev (fun k => spec_AreSignals.f k l) (areSig l) := by
  have h := Ev.allLoop (l := fun k i => spec_AreSignals.l0 k l i) (n := l.length) (sgB l) false (decide (l.length ≤ 40))
    (fun i hi => Evt.all fun k => by
      simp only [spec_AreSignals.l0, spec_l01In.f]
      rw [if_pos (by omega), if_pos (by omega), wrap_succ hi hn]
      generalize spec_AreSignals.l0 k l ((i + 1 : Nat) : Int) = R
      by_cases h0 : i = 0
      · have hz : (i = 0) = True := eq_true h0
        have hp : ¬ 0 < i := by omega
        clear h0
        by_cases h1 : 0 ≤ (rd_T33 l (i : Int)).f0 <;> by_cases h2 : (rd_T33 l (i : Int)).f0 ≤ 100000 <;> by_cases h3 : 0 ≤ (rd_T33 l (i : Int)).f1 <;> by_cases h4 : (rd_T33 l (i : Int)).f1 ≤ 9 <;> by_cases h5 : (rd_T33 l (i : Int)).f1 = 8 <;> simp [sgB, hz, hp, h1, h2, h3, h4, h5]
      · have hp : (i : Int) > 0 := by omega
        rw [wrap_pred hi (by omega) hn]
        have q1 : (0 : Int) ≤ ((i - 1 : Nat) : Int) := by omega
        have q2 : ((i - 1 : Nat) : Int) < (l.length : Int) := by omega
        by_cases h1 : 0 ≤ (rd_T33 l (i : Int)).f0 <;> by_cases h2 : (rd_T33 l (i : Int)).f0 ≤ 100000 <;> by_cases h3 : 0 ≤ (rd_T33 l (i : Int)).f1 <;> by_cases h4 : (rd_T33 l (i : Int)).f1 ≤ 9 <;> by_cases h5 : (rd_T33 l (i : Int)).f1 = 8 <;> by_cases h6 : (rd_T33 l ((i - 1 : Nat) : Int)).f0 ≤ (rd_T33 l (i : Int)).f0 <;> simp [sgB, h0, q1, q2, h1, h2, h3, h4, h5, h6, Int.not_lt.2, Int.not_le.1] <;> (try omega))
    (Evt.all fun k => by
      simp only [spec_AreSignals.l0]
      rw [if_neg (by omega)]
      congr 1
      exact decide_eq_decide.2 (by omega)) l.length 0 (by omega)
  refine (congrArg (Ev _) ?_).mp h
  unfold areSig
  cases allD (sgB l) 0 l.length <;> simp
theorem impl_AreSignals_ev (l : List S33) (hn : l.length ≤ 9223372036854775807) : Ev (fun k => impl_AreSignals.f k l) (areSig l) := by
  unfold impl_AreSignals.f
  by_cases hl : (l.length : Int) > 40
  · simp only [if_pos hl]
    have : areSig l = false := by
      unfold areSig
      rw [decide_eq_false (by omega), Bool.and_false]
    rw [this]
    exact Ev.now _
  simp only [if_neg hl]
  have h := Ev.allLoop (l := fun k i => impl_AreSignals.l0 k l l (l.length : Int) i) (n := l.length) (sgB l) false true
    (fun i hi => Evt.all fun k => by
      simp only [impl_AreSignals.l0, impl_isTick.f, impl_within.f]
      rw [if_pos (by omega), if_pos (by omega), if_pos (by omega), wrap_succ hi hn]
      generalize impl_AreSignals.l0 k l l (l.length : Int) ((i + 1 : Nat) : Int) = R
      by_cases h0 : i = 0
      · have hz : (i = 0) = True := eq_true h0
        have hp : ¬ 0 < i := by omega
        clear h0
        by_cases h1 : 0 ≤ (rd_T33 l (i : Int)).f0 <;> by_cases h2 : (rd_T33 l (i : Int)).f0 ≤ 100000 <;> by_cases h3 : 0 ≤ (rd_T33 l (i : Int)).f1 <;> by_cases h4 : (rd_T33 l (i : Int)).f1 ≤ 9 <;> by_cases h5 : (rd_T33 l (i : Int)).f1 = 8 <;> simp [sgB, hz, hp, h1, h2, h3, h4, h5]
      · have hp : (i : Int) > 0 := by omega
        rw [wrap_pred hi (by omega) hn]
        have q1 : (0 : Int) ≤ ((i - 1 : Nat) : Int) := by omega
        have q2 : ((i - 1 : Nat) : Int) < (l.length : Int) := by omega
        by_cases h1 : 0 ≤ (rd_T33 l (i : Int)).f0 <;> by_cases h2 : (rd_T33 l (i : Int)).f0 ≤ 100000 <;> by_cases h3 : 0 ≤ (rd_T33 l (i : Int)).f1 <;> by_cases h4 : (rd_T33 l (i : Int)).f1 ≤ 9 <;> by_cases h5 : (rd_T33 l (i : Int)).f1 = 8 <;> by_cases h6 : (rd_T33 l ((i - 1 : Nat) : Int)).f0 ≤ (rd_T33 l (i : Int)).f0 <;> simp [sgB, h0, q1, q2, h1, h2, h3, h4, h5, h6, Int.not_lt.2, Int.not_le.1] <;> (try omega))
    (Evt.all fun k => by
      simp only [impl_AreSignals.l0]
      rw [if_neg (by omega)]) l.length 0 (by omega)
  refine (congrArg (Ev _) ?_).mp h
  unfold areSig
  rw [decide_eq_true (by omega : l.length ≤ 40), Bool.and_true]
  cases allD (sgB l) 0 l.length <;> simp
abbrev Ct := Bool × Bool × Bool × Bool × Bool × Int
/-- The controller after an input, if it is allowed. -/
def gv (a b c d e : Bool) (n x : Int) : Option Ct :=
  if x = 0 then some (!a, b, c && !a, d && !a, e, n)
  else if x = 1 then some (a, !b, c && !b, d && !b, e, n)
  else if x = 2 then (if (a && b && !e) = true then some (a, b, true, false, e, 0) else none)
  else if x = 3 then some (a, b, false, false, e, n)
  else if x = 4 then (if (c && !d) = true then some (a, b, c, true, e, n) else none)
  else if x = 5 then (if d = true then some (a, b, c, false, e, n) else none)
  else if x = 6 then some (a, b, false, false, true, n)
  else if x = 7 then some (a, b, c, d, e, 0)
  else if x = 8 then some (a, b, c && !decide (mn 4 (wrap64 (n + 1)) > 3), d && !decide (mn 4 (wrap64 (n + 1)) > 3), e, mn 4 (wrap64 (n + 1)))
  else (if (e && !a && !b) = true then some (a, b, c, d, false, n) else none)
theorem mn_comm (x y : Int) : mn x y = mn y x := by unfold mn; (repeat' split) <;> omega
def give7 (s : Ct) (o : Option Ct) : Bool × Bool × Bool × Bool × Bool × Int × Bool :=
  match o with
  | some t => (t.1, t.2.1, t.2.2.1, t.2.2.2.1, t.2.2.2.2.1, t.2.2.2.2.2, true)
  | none => (s.1, s.2.1, s.2.2.1, s.2.2.2.1, s.2.2.2.2.1, s.2.2.2.2.2, false)
theorem spec_gv (a b c d e : Bool) (n x : Int) : spec_l21Give.f a b c d e n x = some (give7 (a, b, c, d, e, n) (gv a b c d e n x)) := by
  unfold spec_l21Give.f gv
  simp only [spec_l21Off.f, Option.bind_some]
  by_cases h0 : x = 0
  · simp only [if_pos h0]; cases a <;> simp [give7]
  simp only [if_neg h0]
  by_cases h1 : x = 1
  · simp only [if_pos h1]; cases b <;> simp [give7]
  simp only [if_neg h1]
  by_cases h2 : x = 2
  · simp only [if_pos h2]; cases a <;> cases b <;> cases e <;> simp [give7]
  simp only [if_neg h2]
  by_cases h3 : x = 3
  · simp only [if_pos h3]; simp [give7]
  simp only [if_neg h3]
  by_cases h4 : x = 4
  · simp only [if_pos h4]; cases c <;> cases d <;> simp [give7]
  simp only [if_neg h4]
  by_cases h5 : x = 5
  · simp only [if_pos h5]; cases d <;> simp [give7]
  simp only [if_neg h5]
  by_cases h6 : x = 6
  · simp only [if_pos h6]; simp [give7]
  simp only [if_neg h6]
  by_cases h7 : x = 7
  · simp only [if_pos h7]; simp [give7]
  simp only [if_neg h7]
  by_cases h8 : x = 8
  · simp only [if_pos h8]
    by_cases hm : mn 4 (wrap64 (n + 1)) > 3
    · simp [give7, hm]
    · simp [give7, hm]
  simp only [if_neg h8]
  cases a <;> cases b <;> cases e <;> simp [give7]
def inp (s : Ct) (x : Int) : Ct × Int :=
  if 0 ≤ x ∧ x ≤ 9 then (match gv s.1 s.2.1 s.2.2.1 s.2.2.2.1 s.2.2.2.2.1 s.2.2.2.2.2 x with
    | some t => (t, 0)
    | none => (s, 5)) else (s, 2)
def fl7 (s : Ct) (y : Int) : Bool × Bool × Bool × Bool × Bool × Int × Int := (s.1, s.2.1, s.2.2.1, s.2.2.2.1, s.2.2.2.2.1, s.2.2.2.2.2, y)
def inpF (s : Ct) (x : Int) : Bool × Bool × Bool × Bool × Bool × Int × Int := if (inp s x).2 = 0 then fl7 (inp s x).1 0 else (false, false, false, false, false, 0, (inp s x).2)
theorem impl_inp (a b c d e : Bool) (n x : Int) : impl_giveInput.f a b c d e n x = some (inpF (a, b, c, d, e, n) x) := by
  unfold impl_giveInput.f inpF inp gv
  simp only [impl_safe.f, Option.bind_some, mn_comm (wrap64 (n + 1)) 4]
  by_cases h0 : x = 0
  · subst h0; cases a <;> simp [fl7]
  simp only [if_neg h0]
  by_cases h1 : x = 1
  · subst h1; cases b <;> simp [fl7]
  simp only [if_neg h1]
  by_cases h2 : x = 2
  · subst h2; cases a <;> cases b <;> cases e <;> simp [fl7]
  simp only [if_neg h2]
  by_cases h3 : x = 3
  · subst h3; simp [fl7]
  simp only [if_neg h3]
  by_cases h4 : x = 4
  · subst h4; cases c <;> cases d <;> simp [fl7]
  simp only [if_neg h4]
  by_cases h5 : x = 5
  · subst h5; cases d <;> simp [fl7]
  simp only [if_neg h5]
  by_cases h6 : x = 6
  · subst h6; simp [fl7]
  simp only [if_neg h6]
  by_cases h7 : x = 7
  · subst h7; simp [fl7]
  simp only [if_neg h7]
  by_cases h8 : x = 8
  · subst h8
    by_cases hm : mn 4 (wrap64 (n + 1)) > 3
    · simp [fl7, hm]
    · simp [fl7, hm]
  simp only [if_neg h8]
  by_cases h9 : x = 9
  · subst h9; cases a <;> cases b <;> cases e <;> simp [fl7]
  simp only [if_neg h9, if_neg (show ¬ (0 ≤ x ∧ x ≤ 9) by omega)]
  simp
/-- The controller after a tick. -/
def tk (s : Ct) : Ct := (s.1, s.2.1, s.2.2.1 && !decide (mn 4 (wrap64 (s.2.2.2.2.2 + 1)) > 3), s.2.2.2.1 && !decide (mn 4 (wrap64 (s.2.2.2.2.2 + 1)) > 3), s.2.2.2.2.1, mn 4 (wrap64 (s.2.2.2.2.2 + 1)))
def okc (s : Ct) : Prop := 0 ≤ s.2.2.2.2.2 ∧ s.2.2.2.2.2 ≤ 4
theorem gv_tick (s : Ct) : gv s.1 s.2.1 s.2.2.1 s.2.2.2.1 s.2.2.2.2.1 s.2.2.2.2.2 8 = some (tk s) := by
  unfold gv tk
  rw [if_neg (by decide), if_neg (by decide), if_neg (by decide), if_neg (by decide), if_neg (by decide), if_neg (by decide), if_neg (by decide), if_neg (by decide), if_pos rfl]
def fl6 (s : Ct) : Bool × Bool × Bool × Bool × Bool × Int := s
theorem impl_tick (a b c d e : Bool) (n : Int) : impl_giveInput.f a b c d e n 8 = some (fl7 (tk (a, b, c, d, e, n)) 0) := by
  have h := gv_tick (a, b, c, d, e, n)
  dsimp only at h
  rw [impl_inp]
  unfold inpF inp
  simp only [if_pos (show (0 : Int) ≤ 8 ∧ (8 : Int) ≤ 9 by decide), h, if_pos]
theorem spec_tick (a b c d e : Bool) (n : Int) : spec_l21Give.f a b c d e n 8 = some (give7 (a, b, c, d, e, n) (some (tk (a, b, c, d, e, n)))) := by
  have h := gv_tick (a, b, c, d, e, n)
  dsimp only at h
  rw [spec_gv, h]
theorem mn4 {n : Int} (h0 : 0 ≤ n) (h4 : n ≤ 4) : mn 4 (wrap64 (n + 1)) = if n = 4 then 4 else n + 1 := by
  have hw : wrap64 (n + 1) = n + 1 := wrap_id (by omega) (by omega)
  rw [hw]
  unfold mn
  split <;> split <;> omega
theorem okc_tk {s : Ct} (h : okc s) : okc (tk s) := by
  obtain ⟨h0, h4⟩ := h
  unfold okc tk
  dsimp only
  rw [mn4 h0 h4]
  split <;> omega
theorem okc_gv {s t : Ct} {x : Int} (h : okc s) (hg : gv s.1 s.2.1 s.2.2.1 s.2.2.2.1 s.2.2.2.2.1 s.2.2.2.2.2 x = some t) : okc t := by
  have ht := okc_tk h
  obtain ⟨a, b, c, d, e, n⟩ := s
  obtain ⟨h0, h4⟩ := h
  dsimp only at h0 h4 hg
  unfold okc
  unfold gv at hg
  by_cases x0 : x = 0
  · rw [if_pos x0] at hg; cases hg; exact ⟨h0, h4⟩
  rw [if_neg x0] at hg
  by_cases x1 : x = 1
  · rw [if_pos x1] at hg; cases hg; exact ⟨h0, h4⟩
  rw [if_neg x1] at hg
  by_cases x2 : x = 2
  · rw [if_pos x2] at hg
    split at hg
    · cases hg; exact ⟨Int.le_refl _, by show (0 : Int) ≤ 4; decide⟩
    · cases hg
  rw [if_neg x2] at hg
  by_cases x3 : x = 3
  · rw [if_pos x3] at hg; cases hg; exact ⟨h0, h4⟩
  rw [if_neg x3] at hg
  by_cases x4 : x = 4
  · rw [if_pos x4] at hg
    split at hg
    · cases hg; exact ⟨h0, h4⟩
    · cases hg
  rw [if_neg x4] at hg
  by_cases x5 : x = 5
  · rw [if_pos x5] at hg
    split at hg
    · cases hg; exact ⟨h0, h4⟩
    · cases hg
  rw [if_neg x5] at hg
  by_cases x6 : x = 6
  · rw [if_pos x6] at hg; cases hg; exact ⟨h0, h4⟩
  rw [if_neg x6] at hg
  by_cases x7 : x = 7
  · rw [if_pos x7] at hg; cases hg; exact ⟨Int.le_refl _, by show (0 : Int) ≤ 4; decide⟩
  rw [if_neg x7] at hg
  by_cases x8 : x = 8
  · rw [if_pos x8] at hg; cases hg; exact ht
  rw [if_neg x8] at hg
  split at hg
  · cases hg; exact ⟨h0, h4⟩
  · cases hg
theorem tk_low (a b c d e : Bool) {n : Int} (h0 : 0 ≤ n) (h : n ≤ 2) : tk (a, b, c, d, e, n) = (a, b, c, d, e, n + 1) := by
  unfold tk
  dsimp only
  rw [mn4 h0 (by omega), if_neg (by omega), decide_eq_false (show ¬ n + 1 > 3 by omega)]
  simp
theorem tk_high (a b c d e : Bool) {n : Int} (h0 : 3 ≤ n) (h : n ≤ 4) : tk (a, b, c, d, e, n) = (a, b, false, false, e, 4) := by
  unfold tk
  dsimp only
  rw [mn4 (by omega) h]
  by_cases h4 : n = 4
  · rw [if_pos h4, decide_eq_true (show (4 : Int) > 3 by decide)]; simp
  · obtain rfl : n = 3 := by omega
    rw [if_neg h4, decide_eq_true (show (3 : Int) + 1 > 3 by decide)]; simp
/-- Some ticks. -/
def tks : Nat → Ct → Ct
  | 0, s => s
  | n + 1, s => tks n (tk s)
/-- Behind five ticks a sixth changes nothing. -/
theorem tks_five {s : Ct} (h : okc s) : tks 6 s = tks 5 s := by
  obtain ⟨a, b, c, d, e, n⟩ := s
  obtain ⟨h0, h4⟩ := h
  dsimp only at h0 h4
  obtain rfl | rfl | rfl | rfl | rfl : n = 0 ∨ n = 1 ∨ n = 2 ∨ n = 3 ∨ n = 4 := by omega
  · simp only [tks, tk_low a b c d e (show (0 : Int) ≤ 0 by decide) (by decide), tk_low a b c d e (show (0 : Int) ≤ 0 + 1 by decide) (by decide), tk_low a b c d e (show (0 : Int) ≤ 0 + 1 + 1 by decide) (by decide), tk_high _ _ _ _ _ (show (3 : Int) ≤ 0 + 1 + 1 + 1 by decide) (by decide), tk_high _ _ _ _ _ (show (3 : Int) ≤ 4 by decide) (by decide)]
  · simp only [tks, tk_low a b c d e (show (0 : Int) ≤ 1 by decide) (by decide), tk_low a b c d e (show (0 : Int) ≤ 1 + 1 by decide) (by decide), tk_high _ _ _ _ _ (show (3 : Int) ≤ 1 + 1 + 1 by decide) (by decide), tk_high _ _ _ _ _ (show (3 : Int) ≤ 4 by decide) (by decide)]
  · simp only [tks, tk_low a b c d e (show (0 : Int) ≤ 2 by decide) (by decide), tk_high _ _ _ _ _ (show (3 : Int) ≤ 2 + 1 by decide) (by decide), tk_high _ _ _ _ _ (show (3 : Int) ≤ 4 by decide) (by decide)]
  · simp only [tks, tk_high _ _ _ _ _ (show (3 : Int) ≤ 3 by decide) (by decide), tk_high _ _ _ _ _ (show (3 : Int) ≤ 4 by decide) (by decide)]
  · simp only [tks, tk_high _ _ _ _ _ (show (3 : Int) ≤ 4 by decide) (by decide)]
def tksI (n : Int) (s : Ct) : Ct := tks (min n.toNat 5) s
theorem tksI_zero (s : Ct) : tksI 0 s = s := rfl
theorem tksI_succ {n : Int} (hn : 1 ≤ n) {s : Ct} (h : okc s) : tksI n s = tksI (n - 1) (tk s) := by
  unfold tksI
  by_cases c : n ≤ 5
  · obtain ⟨m, rfl⟩ : ∃ m : Nat, n = (m : Int) + 1 := ⟨(n - 1).toNat, by omega⟩
    have e1 : min ((m : Int) + 1).toNat 5 = m + 1 := by omega
    have e2 : min ((m : Int) + 1 - 1).toNat 5 = m := by omega
    rw [e1, e2]
    rfl
  · have e1 : min n.toNat 5 = 5 := by omega
    have e2 : min (n - 1).toNat 5 = 5 := by omega
    rw [e1, e2]
    exact (tks_five h).symm
theorem spec_ticks_ev (n : Nat) : ∀ (a b c d e : Bool) (m : Int), n ≤ 5 → Ev (fun k => spec_l22Ticks.l0 k (n : Int) a b c d e m) (fl6 (tks n (a, b, c, d, e, m))) := by
  induction n with
  | zero =>
    intro a b c d e m _
    refine Ev.dn ?_
    simp only [spec_l22Ticks.l0]
    simp only [if_neg (show ¬ ((0 : Nat) : Int) > 0 by omega)]
    exact Ev.now _
  | succ n ih =>
    intro a b c d e m hn
    have h := ih (tk (a, b, c, d, e, m)).1 (tk (a, b, c, d, e, m)).2.1 (tk (a, b, c, d, e, m)).2.2.1 (tk (a, b, c, d, e, m)).2.2.2.1 (tk (a, b, c, d, e, m)).2.2.2.2.1 (tk (a, b, c, d, e, m)).2.2.2.2.2 (by omega)
    refine Ev.dn (Ev.eq' h (fun k => ?_))
    have hw : wrap64 (((n + 1 : Nat) : Int) - 1) = (n : Int) := by rw [show ((n + 1 : Nat) : Int) - 1 = (n : Int) by omega]; exact wrap_id (by omega) (by omega)
    simp only [spec_l22Ticks.l0, spec_tick, Option.bind_some, give7]
    rw [if_pos (by omega), hw]
theorem spec_l22Ticks_ev (a b c d e : Bool) (m n : Int) (hn : 0 ≤ n) : Ev (fun k => spec_l22Ticks.f k a b c d e m n) (fl6 (tksI n (a, b, c, d, e, m))) := by
  have e : mn n 5 = ((min n.toNat 5 : Nat) : Int) := by unfold mn; split <;> omega
  unfold spec_l22Ticks.f
  rw [e]
  exact spec_ticks_ev _ _ _ _ _ _ _ (by omega)
def sg (l : List S33) (i : Nat) : S33 := rd_T33 l (i : Int)
/-- A signal is given, or refused. -/
def app (s : Ct) (r : List Int) (i : Nat) (x : Int) : Ct × List Int := match gv s.1 s.2.1 s.2.2.1 s.2.2.2.1 s.2.2.2.2.1 s.2.2.2.2.2 x with
  | some t => (t, r)
  | none => (s, r ++ [(i : Int)])
theorem okc_app {s : Ct} (h : okc s) (r : List Int) (i : Nat) (x : Int) : okc (app s r i x).1 := by
  unfold app
  cases hg : gv s.1 s.2.1 s.2.2.1 s.2.2.2.1 s.2.2.2.2.1 s.2.2.2.2.2 x with
  | some t => exact okc_gv h hg
  | none => exact h
theorem app_len (s : Ct) (r : List Int) (i : Nat) (x : Int) : (app s r i x).2.length ≤ r.length + 1 := by
  unfold app
  split
  · exact Nat.le_succ _
  · simp
/-- From signal i on, at the time now: the controller in tick T, and what is refused. -/
def sp (l : List S33) (T : Int) : Nat → Nat → Int → Ct → List Int → Ct × List Int
  | 0, _, now, s, r => (tksI (T - now) s, r)
  | d + 1, i, now, s, r => if (sg l i).f0 ≤ T then sp l T d (i + 1) (sg l i).f0 (app (tksI ((sg l i).f0 - now) s) r i (sg l i).f1).1 (app (tksI ((sg l i).f0 - now) s) r i (sg l i).f1).2 else (tksI (T - now) s, r)
/-- The signals of a tick. -/
def bg (l : List S33) (t : Int) : Nat → Nat → Ct → List Int → Nat × Ct × List Int
  | 0, i, s, r => (i, s, r)
  | d + 1, i, s, r => if (sg l i).f0 = t then bg l t d (i + 1) (app s r i (sg l i).f1).1 (app s r i (sg l i).f1).2 else (i, s, r)
theorem bg_sp (l : List S33) {t T : Int} (hT : t ≤ T) : ∀ d i s r, i + d = l.length →
    i ≤ (bg l t d i s r).1 ∧ (bg l t d i s r).1 ≤ l.length ∧ ((bg l t d i s r).1 = l.length ∨ (sg l (bg l t d i s r).1).f0 ≠ t) ∧
      sp l T (l.length - (bg l t d i s r).1) (bg l t d i s r).1 t (bg l t d i s r).2.1 (bg l t d i s r).2.2 = sp l T d i t s r := by
  intro d
  induction d with
  | zero =>
    intro i s r hi
    simp only [bg]
    obtain rfl : i = l.length := by omega
    exact ⟨Nat.le_refl _, Nat.le_refl _, .inl rfl, by rw [Nat.sub_self]⟩
  | succ d ih =>
    intro i s r hi
    simp only [bg]
    by_cases c : (sg l i).f0 = t
    · rw [if_pos c]
      obtain ⟨h1, h2, h3, h4⟩ := ih (i + 1) (app s r i (sg l i).f1).1 (app s r i (sg l i).f1).2 (by omega)
      refine ⟨by omega, h2, h3, h4.trans ?_⟩
      simp only [sp]
      rw [if_pos (by omega), c, Int.sub_self, tksI_zero]
    · rw [if_neg c]
      exact ⟨Nat.le_refl _, by dsimp only; omega, .inr c, by dsimp only; rw [show l.length - i = d + 1 by omega]⟩
theorem bg_okc (l : List S33) (t : Int) : ∀ d i s r, okc s → okc (bg l t d i s r).2.1 := by
  intro d
  induction d with
  | zero => exact fun _ _ _ h => h
  | succ d ih =>
    intro i s r h
    simp only [bg]
    split
    · exact ih _ _ _ (okc_app h _ _ _)
    · exact h
theorem bg_len (l : List S33) (t : Int) : ∀ d i s r, r.length ≤ i → (bg l t d i s r).2.2.length ≤ (bg l t d i s r).1 := by
  intro d
  induction d with
  | zero => exact fun _ _ _ h => h
  | succ d ih =>
    intro i s r h
    simp only [bg]
    split
    · refine ih _ _ _ ?_
      have := app_len s r i (sg l i).f1
      omega
    · exact h
theorem tick_sp (l : List S33) {t T : Int} (hT : t < T) {i : Nat} {s : Ct} (hs : okc s) (r : List Int) (hi : i ≤ l.length) (h : i < l.length → t < (sg l i).f0) :
    sp l T (l.length - i) i t s r = sp l T (l.length - i) i (t + 1) (tk s) r := by
  have e : ∀ u : Int, t < u → tksI (u - t) s = tksI (u - (t + 1)) (tk s) := fun u hu => by
    rw [tksI_succ (show 1 ≤ u - t by omega) hs, show u - t - 1 = u - (t + 1) by omega]
  cases hd : l.length - i with
  | zero => simp only [sp]; rw [e T hT]
  | succ d =>
    have hf := h (by omega)
    simp only [sp]
    rw [e _ hf, e T hT]
theorem end_sp (l : List S33) (T : Int) {i : Nat} (s : Ct) (r : List Int) (h : i < l.length → T < (sg l i).f0) : sp l T (l.length - i) i T s r = (s, r) := by
  cases hd : l.length - i with
  | zero => simp only [sp]; rw [Int.sub_self, tksI_zero]
  | succ d =>
    have hf := h (by omega)
    simp only [sp]
    rw [if_neg (by omega), Int.sub_self, tksI_zero]
def z6 : Ct := (false, false, false, false, false, 0)
/-- The controller in tick T, and the signals that are refused. -/
def atT (l : List S33) (T : Int) : Ct × List Int := sp l T l.length 0 0 z6 []
theorem okc_z6 : okc z6 := ⟨Int.le_refl _, by decide⟩
theorem sig_of (l : List S33) (h : areSig l = true) : l.length ≤ 40 ∧ (∀ j, j < l.length → 0 ≤ (sg l j).f0 ∧ (sg l j).f0 ≤ 100000 ∧ 0 ≤ (sg l j).f1 ∧ (sg l j).f1 ≤ 9) ∧ ∀ i j, i ≤ j → j < l.length → (sg l i).f0 ≤ (sg l j).f0 := by
  unfold areSig at h
  simp only [Bool.and_eq_true, decide_eq_true_eq] at h
  obtain ⟨h1, h2⟩ := h
  have h3 := (allD_iff _ _ _).1 h1
  have h4 : ∀ j, j < l.length → 0 ≤ (sg l j).f0 ∧ (sg l j).f0 ≤ 100000 ∧ 0 ≤ (sg l j).f1 ∧ (sg l j).f1 ≤ 9 ∧ (j = 0 ∨ (sg l (j - 1)).f0 ≤ (sg l j).f0) := fun j hj => by
    have := h3 j (Nat.zero_le _) (by omega)
    unfold sgB at this
    simp only [Bool.and_eq_true, Bool.or_eq_true, decide_eq_true_eq] at this
    exact ⟨this.1.1.1.1.1, this.1.1.1.1.2, this.1.1.1.2, this.1.1.2, this.2⟩
  refine ⟨h2, fun j hj => ⟨(h4 j hj).1, (h4 j hj).2.1, (h4 j hj).2.2.1, (h4 j hj).2.2.2.1⟩, ?_⟩
  intro i j
  induction j with
  | zero => intro hij _; obtain rfl : i = 0 := (by omega); exact Int.le_refl _
  | succ j ih =>
    intro hij hj
    by_cases e : i = j + 1
    · rw [e]; exact Int.le_refl _
    · have h5 := ih (by omega) (by omega)
      rcases (h4 (j + 1) hj).2.2.2.2 with h6 | h6
      · omega
      · exact Int.le_trans h5 h6
def flB (p : Nat × Ct × List Int) : Int × Bool × Bool × Bool × Bool × Bool × Int × List Int := ((p.1 : Int), p.2.1.1, p.2.1.2.1, p.2.1.2.2.1, p.2.1.2.2.2.1, p.2.1.2.2.2.2.1, p.2.1.2.2.2.2.2, p.2.2)
theorem impl_app (s : Ct) (r : List Int) (i : Nat) (x : Int) (h0 : 0 ≤ x) (h9 : x ≤ 9) :
    (gv s.1 s.2.1 s.2.2.1 s.2.2.2.1 s.2.2.2.2.1 s.2.2.2.2.2 x = none ∧ app s r i x = (s, r ++ [(i : Int)]) ∧ impl_giveInput.f s.1 s.2.1 s.2.2.1 s.2.2.2.1 s.2.2.2.2.1 s.2.2.2.2.2 x = some (false, false, false, false, false, 0, 5)) ∨
    ∃ t, gv s.1 s.2.1 s.2.2.1 s.2.2.2.1 s.2.2.2.2.1 s.2.2.2.2.2 x = some t ∧ app s r i x = (t, r) ∧ impl_giveInput.f s.1 s.2.1 s.2.2.1 s.2.2.2.1 s.2.2.2.2.1 s.2.2.2.2.2 x = some (fl7 t 0) := by
  rw [impl_inp]
  unfold inpF inp app
  simp only [if_pos (And.intro h0 h9)]
  cases gv s.1 s.2.1 s.2.2.1 s.2.2.2.1 s.2.2.2.2.1 s.2.2.2.2.2 x with
  | none => exact .inl ⟨rfl, rfl, rfl⟩
  | some t => exact .inr ⟨t, rfl, rfl, rfl⟩
theorem impl_begin_ev (l : List S33) (hl : areSig l = true) (t : Int) : ∀ d i (s : Ct) r, i + d = l.length → r.length ≤ i →
    Ev (fun k => impl_desk_begin.l0 k l (i : Int) t s.1 s.2.1 s.2.2.1 s.2.2.2.1 s.2.2.2.2.1 s.2.2.2.2.2 r) (flB (bg l t d i s r)) := by
  obtain ⟨hn, hv, hs⟩ := sig_of l hl
  intro d
  induction d with
  | zero =>
    intro i s r hi hr
    refine Ev.dn ?_
    simp only [impl_desk_begin.l0, bg]
    simp only [if_neg (show ¬ (i : Int) < (l.length : Int) by omega)]
    exact Ev.now _
  | succ d ih =>
    intro i s r hi hr
    refine Ev.dn ?_
    simp only [impl_desk_begin.l0, bg]
    simp only [if_pos (show (i : Int) < (l.length : Int) by omega), if_pos (show (0 : Int) ≤ (i : Int) by omega)]
    have hx := hv i (by omega)
    have hw : wrap64 ((i : Int) + 1) = ((i + 1 : Nat) : Int) := wrap_succ (show i < l.length by omega) (by omega)
    by_cases c : (sg l i).f0 = t
    · rw [if_pos c]
      have c' : (rd_T33 l (i : Int)).f0 = t := c
      simp only [if_pos c']
      rcases impl_app s r i (sg l i).f1 hx.2.2.1 hx.2.2.2 with ⟨_, h2, h3⟩ | ⟨u, _, h2, h3⟩
      · rw [h2]
        have h := ih (i + 1) s (r ++ [(i : Int)]) (by omega) (by simp; omega)
        refine Ev.eq' h (fun k => ?_)
        have h3' : impl_giveInput.f s.1 s.2.1 s.2.2.1 s.2.2.2.1 s.2.2.2.2.1 s.2.2.2.2.2 (rd_T33 l (i : Int)).f1 = some (false, false, false, false, false, 0, 5) := h3
        rw [h3', Option.bind_some, hw]
        dsimp only
        rw [if_neg (by decide), if_pos (by omega)]
      · rw [h2]
        have h := ih (i + 1) u r (by omega) (by omega)
        refine Ev.eq' h (fun k => ?_)
        have h3' : impl_giveInput.f s.1 s.2.1 s.2.2.1 s.2.2.2.1 s.2.2.2.2.1 s.2.2.2.2.2 (rd_T33 l (i : Int)).f1 = some (fl7 u 0) := h3
        rw [h3', Option.bind_some, hw]
        unfold fl7
        dsimp only
        rw [if_pos rfl]
    · rw [if_neg c]
      have c' : ¬ (rd_T33 l (i : Int)).f0 = t := c
      simp only [if_neg c']
      exact Ev.now _
/-- What holds ahead of a tick's signals. -/
def Dsk (l : List S33) (t : Int) (i : Nat) (s : Ct) (r : List Int) : Prop :=
  i ≤ l.length ∧ okc s ∧ r.length ≤ i ∧ (∀ j, i ≤ j → j < l.length → t ≤ (sg l j).f0) ∧ ∀ T, t ≤ T → sp l T (l.length - i) i t s r = atT l T
theorem Dsk.start (l : List S33) (hl : areSig l = true) : Dsk l 0 0 z6 [] :=
  ⟨Nat.zero_le _, okc_z6, Nat.le_refl _, fun j _ hj => ((sig_of l hl).2.1 j hj).1, fun T _ => rfl⟩
/-- Behind a tick's signals: the controller of that tick; and on to the next. -/
theorem Dsk.step {l : List S33} (hl : areSig l = true) {t : Int} {i : Nat} {s : Ct} {r : List Int} (h : Dsk l t i s r) :
    (bg l t (l.length - i) i s r).2 = atT l t ∧ ((bg l t (l.length - i) i s r).1 < l.length → t < (sg l (bg l t (l.length - i) i s r).1).f0) ∧ Dsk l (t + 1) (bg l t (l.length - i) i s r).1 (tk (bg l t (l.length - i) i s r).2.1) (bg l t (l.length - i) i s r).2.2 := by
  obtain ⟨h1, h2, h3, h4, h5⟩ := h
  obtain ⟨hn, hv, hs⟩ := sig_of l hl
  have hk := bg_okc l t (l.length - i) i s r h2
  have hr := bg_len l t (l.length - i) i s r h3
  obtain ⟨b1, b2, b3, b4⟩ := bg_sp l (Int.le_refl t) (l.length - i) i s r (by omega)
  have b5 : ∀ T, t ≤ T → sp l T (l.length - (bg l t (l.length - i) i s r).1) (bg l t (l.length - i) i s r).1 t (bg l t (l.length - i) i s r).2.1 (bg l t (l.length - i) i s r).2.2 = atT l T := fun T hT => (bg_sp l hT (l.length - i) i s r (by omega)).2.2.2.trans (h5 T hT)
  generalize bg l t (l.length - i) i s r = p at hk hr b1 b2 b3 b4 b5 ⊢
  obtain ⟨i', s', r'⟩ := p
  dsimp only at hk hr b1 b2 b3 b4 b5 ⊢
  have hgt : i' < l.length → t < (sg l i').f0 := fun hi => by
    have := h4 i' b1 hi
    rcases b3 with b3 | b3
    · omega
    · omega
  have e := b5 t (Int.le_refl _)
  rw [end_sp l t s' r' hgt] at e
  refine ⟨e, hgt, b2, okc_tk hk, hr, fun j hj hjl => ?_, fun T hT => ?_⟩
  · have := hgt (by omega)
    have := hs i' j hj hjl
    omega
  · rw [← b5 T (by omega)]
    exact (tick_sp l (by omega) hk r' b2 hgt).symm
theorem spec_app (s : Ct) (r : List Int) (i : Nat) (x : Int) :
    (app s r i x = (s, r ++ [(i : Int)]) ∧ spec_l21Give.f s.1 s.2.1 s.2.2.1 s.2.2.2.1 s.2.2.2.2.1 s.2.2.2.2.2 x = some (s.1, s.2.1, s.2.2.1, s.2.2.2.1, s.2.2.2.2.1, s.2.2.2.2.2, false)) ∨
    ∃ t : Ct, app s r i x = (t, r) ∧ spec_l21Give.f s.1 s.2.1 s.2.2.1 s.2.2.2.1 s.2.2.2.2.1 s.2.2.2.2.2 x = some (t.1, t.2.1, t.2.2.1, t.2.2.2.1, t.2.2.2.2.1, t.2.2.2.2.2, true) := by
  rw [spec_gv]
  unfold app give7
  cases gv s.1 s.2.1 s.2.2.1 s.2.2.2.1 s.2.2.2.2.1 s.2.2.2.2.2 x with
  | none => exact .inl ⟨rfl, rfl⟩
  | some t => exact .inr ⟨t, rfl, rfl⟩
def flA (p : Ct × List Int) : Bool × Bool × Bool × Bool × Bool × Int × List Int := (p.1.1, p.1.2.1, p.1.2.2.1, p.1.2.2.2.1, p.1.2.2.2.2.1, p.1.2.2.2.2.2, p.2)
theorem spec_at_ev (l : List S33) (hl : areSig l = true) (T : Int) (hT : T ≤ 100000) : ∀ d i (now : Int) (s : Ct) r, i + d = l.length → r.length ≤ i → 0 ≤ now → now ≤ T → (∀ j, i ≤ j → j < l.length → now ≤ (sg l j).f0) →
    Ev (fun k => spec_l22At.l0 k l T now r (i : Int) s.1 s.2.1 s.2.2.1 s.2.2.2.1 s.2.2.2.2.1 s.2.2.2.2.2) (flA (sp l T d i now s r)) := by
  obtain ⟨hn, hv, hs⟩ := sig_of l hl
  have fin : ∀ i (now : Int) (s : Ct) r, 0 ≤ now → now ≤ T → Ev (fun k => spec_l22At.j1 k l T now r (i : Int) false s.1 s.2.1 s.2.2.1 s.2.2.2.1 s.2.2.2.2.1 s.2.2.2.2.2) (flA (tksI (T - now) s, r)) := by
    intro i now s r h0 h1
    refine Ev.dn ?_
    simp only [spec_l22At.j1, Bool.false_eq_true, if_false]
    have hw : wrap64 (T - now) = T - now := wrap_id (by omega) (by omega)
    simp only [hw]
    exact Ev.bind (spec_l22Ticks_ev _ _ _ _ _ _ _ (by omega)) (Ev.now _)
  intro d
  induction d with
  | zero =>
    intro i now s r hi hr h0 h1 hnow
    refine Ev.dn ?_
    simp only [spec_l22At.l0, sp]
    simp only [if_neg (show ¬ (i : Int) < (l.length : Int) by omega)]
    exact fin i now s r h0 h1
  | succ d ih =>
    intro i now s r hi hr h0 h1 hnow
    have hx := hv i (by omega)
    have hm := hnow i (Nat.le_refl _) (by omega)
    have hw : wrap64 ((i : Int) + 1) = ((i + 1 : Nat) : Int) := wrap_succ (show i < l.length by omega) (by omega)
    refine Ev.dn ?_
    simp only [spec_l22At.l0, sp]
    simp only [if_pos (show (i : Int) < (l.length : Int) by omega), if_pos (show (0 : Int) ≤ (i : Int) by omega)]
    by_cases c : (sg l i).f0 ≤ T
    · rw [if_pos c]
      have c' : (rd_T33 l (i : Int)).f0 ≤ T := c
      simp only [decide_eq_true c']
      refine Ev.dn ?_
      simp only [spec_l22At.j1, if_true]
      simp only [if_pos (show (0 : Int) ≤ (i : Int) by omega), if_pos (show (i : Int) < (l.length : Int) by omega)]
      have hw2 : wrap64 ((rd_T33 l (i : Int)).f0 - now) = (sg l i).f0 - now := wrap_id (show _ ≤ (sg l i).f0 - now by omega) (show (sg l i).f0 - now ≤ _ by omega)
      simp only [hw2]
      refine Ev.bind (spec_l22Ticks_ev _ _ _ _ _ _ _ (by omega)) ?_
      have hnext : ∀ j, i + 1 ≤ j → j < l.length → (sg l i).f0 ≤ (sg l j).f0 := fun j hj hjl => hs i j (by omega) hjl
      generalize hu : tksI ((sg l i).f0 - now) (s.1, s.2.1, s.2.2.1, s.2.2.2.1, s.2.2.2.2.1, s.2.2.2.2.2) = u
      rcases spec_app u r i (sg l i).f1 with ⟨h2, h3⟩ | ⟨v, h2, h3⟩
      · rw [h2]
        have h := ih (i + 1) (sg l i).f0 u (r ++ [(i : Int)]) (by omega) (by simp; omega) (by omega) c hnext
        refine Ev.eq' h (fun k => ?_)
        have h3' : spec_l21Give.f (fl6 u).1 (fl6 u).2.1 (fl6 u).2.2.1 (fl6 u).2.2.2.1 (fl6 u).2.2.2.2.1 (fl6 u).2.2.2.2.2 (rd_T33 l (i : Int)).f1 = some (u.1, u.2.1, u.2.2.1, u.2.2.2.1, u.2.2.2.2.1, u.2.2.2.2.2, false) := h3
        rw [h3', Option.bind_some, hw]
        simp only [Bool.false_eq_true, if_false]
        rw [if_pos (by omega)]
        rfl
      · rw [h2]
        have h := ih (i + 1) (sg l i).f0 v r (by omega) (by omega) (by omega) c hnext
        refine Ev.eq' h (fun k => ?_)
        have h3' : spec_l21Give.f (fl6 u).1 (fl6 u).2.1 (fl6 u).2.2.1 (fl6 u).2.2.2.1 (fl6 u).2.2.2.2.1 (fl6 u).2.2.2.2.2 (rd_T33 l (i : Int)).f1 = some (v.1, v.2.1, v.2.2.1, v.2.2.2.1, v.2.2.2.2.1, v.2.2.2.2.2, true) := h3
        rw [h3', Option.bind_some, hw]
        simp only [if_true]
        rfl
    · rw [if_neg c]
      have c' : ¬ (rd_T33 l (i : Int)).f0 ≤ T := c
      simp only [decide_eq_false c']
      exact fin i now s r h0 h1
theorem spec_l22At_ev (l : List S33) (hl : areSig l = true) (T : Int) (h0 : 0 ≤ T) (hT : T ≤ 100000) : Ev (fun k => spec_l22At.f k l T) (flA (atT l T)) := by
  unfold spec_l22At.f
  exact spec_at_ev l hl T hT l.length 0 0 z6 [] (by omega) (Nat.le_refl _) (Int.le_refl _) h0 (fun j _ hj => ((sig_of l hl).2.1 j hj).1)
/-- May the controller fire in this tick? -/
def fire (l : List S33) (t : Int) : Bool := (atT l t).1.2.2.1 && !(atT l t).1.2.2.2.1
theorem mayf (a b c d e : Bool) (n : Int) : impl_mayFire.f a b c d e n = some (c && !d) := by
  unfold impl_mayFire.f
  cases c <;> simp
theorem idx_lt {i d n : Nat} (h : i + (d + 1) = n) : (i : Int) < (n : Int) := by omega
theorem idx_ge {i n : Nat} (h : i + 0 = n) : ¬ (i : Int) < (n : Int) := by omega
theorem idx_0 (i : Nat) : (0 : Int) ≤ (i : Int) := by omega
def fireZ (l : List S33) (mv : List S111) (zs : List ByteArray) (t : Int) : Bool := fire l t && allClr mv zs (t * 100)
/-- The tick of a time. -/
def tkq (x : Int) : Int := Int.tdiv x 100
theorem tkq_bd {x : Int} (h0 : 0 ≤ x) (h1 : x ≤ 10000000) : 0 ≤ tkq x ∧ tkq x ≤ 100000 ∧ wrap64 (Int.tdiv x 100) = tkq x := by
  unfold tkq
  rw [Int.tdiv_eq_ediv_of_nonneg h0]
  refine ⟨by omega, by omega, wrap_id (by omega) (by omega)⟩
def fq (l : List S33) (mv : List S111) (zs : List ByteArray) (x : Int) : Int := if fireZ l mv zs (tkq x) = true then tkq x else -1
def firR (l : List S33) (mv : List S111) (zs : List ByteArray) (ts : List Int) : List Int := ts.map (fq l mv zs)
def tsOk (ts : List Int) : Prop := ts.length ≤ 20 ∧ ∀ j, j < ts.length → 0 ≤ rd ts (j : Int) ∧ rd ts (j : Int) ≤ 10000000
theorem rd_at {l : List Int} {i : Nat} (h : i < l.length) : rd l (i : Int) = l[i] := by simp [rd, h]
/-- A row of n numbers, told by index. -/
def Isr (o : List Int) (n : Nat) (h : Nat → Int) : Prop := o.length = n ∧ ∀ j, j < n → rd o (j : Int) = h j
theorem Isr.set {o : List Int} {n : Nat} {h h' : Nat → Int} {i : Nat} {v : Int} (ho : Isr o n h) (hi : i < n) (hv : h' i = v) (hh : ∀ j, j < n → j ≠ i → h' j = h j) : Isr (o.set i v) n h' := by
  refine ⟨by rw [List.length_set]; exact ho.1, fun j hj => ?_⟩
  have hl : j < (o.set i v).length := by rw [List.length_set, ho.1]; exact hj
  rw [rd_at hl, List.getElem_set]
  by_cases e : i = j
  · rw [if_pos e, ← e, hv]
  · rw [if_neg e, hh j hj (fun x => e x.symm), ← ho.2 j hj, rd_at (by rw [ho.1]; exact hj)]
theorem Isr.congr {o : List Int} {n : Nat} {h h' : Nat → Int} (ho : Isr o n h) (hh : ∀ j, j < n → h' j = h j) : Isr o n h' := ⟨ho.1, fun j hj => by rw [ho.2 j hj, hh j hj]⟩
theorem Isr.uniq {o o' : List Int} {n : Nat} {h : Nat → Int} (ho : Isr o n h) (ho' : Isr o' n h) : o = o' := by
  apply List.ext_getElem
  · rw [ho.1, ho'.1]
  · intro i h1 h2
    rw [← rd_at h1, ← rd_at h2, ho.2 i (by rw [← ho.1]; exact h1), ho'.2 i (by rw [← ho.1]; exact h1)]
theorem firR_is (l : List S33) (mv : List S111) (zs : List ByteArray) (ts : List Int) : Isr (firR l mv zs ts) ts.length (fun j => fq l mv zs (rd ts (j : Int))) := by
  refine ⟨by unfold firR; rw [List.length_map], fun j hj => ?_⟩
  unfold firR
  rw [rd_at (by rw [List.length_map]; exact hj), List.getElem_map]
  show fq l mv zs ts[j] = fq l mv zs (rd ts (j : Int))
  rw [rd_at hj]
theorem spec_zones (l : List S33) (mv : List S111) (zs : List ByteArray) (hm : areMv mv = true) (hn : zs.length ≤ 1000000) (ts acc : List Int) (x10 t : Int) (h0 : 0 ≤ t) (h1 : t ≤ 100000) {R : List Int} : ∀ d i (b : Bool), i + d = zs.length →
    Ev (fun k => spec_l22Fired.l1 k ts l mv zs acc x10 t (b && allD (fun j => clr mv (rdOf ByteArray.empty zs (j : Int)) (t * 100)) i d) (zs.length : Int)) R → Ev (fun k => spec_l22Fired.l1 k ts l mv zs acc x10 t b (i : Int)) R := by
  have hw : wrap64 (t * 100) = t * 100 := wrap_id (by omega) (by omega)
  intro d
  induction d with
  | zero =>
    intro i b hi h
    obtain rfl : i = zs.length := by omega
    simp only [allD, Bool.and_true] at h
    exact h
  | succ d ih =>
    intro i b hi h
    have hs : wrap64 ((i : Int) + 1) = ((i + 1 : Nat) : Int) := wrap_succ (show i < zs.length by omega) (by omega)
    refine Ev.dn ?_
    simp only [spec_l22Fired.l1, if_pos (show (i : Int) < (zs.length : Int) by omega)]
    cases b with
    | false =>
      simp only [Bool.false_eq_true, if_false, hs]
      refine ih (i + 1) false (by omega) ?_
      simpa using h
    | true =>
      simp only [if_true, if_pos (show (0 : Int) ≤ (i : Int) by omega), hw, hs]
      refine Ev.bind (spec_l20Clear_ev mv (rdOf ByteArray.empty zs (i : Int)) (t * 100) hm (by omega) (by omega)) ?_
      refine ih (i + 1) _ (by omega) ?_
      simpa [allD] using h
theorem spec_fired_loop (l : List S33) (hl : areSig l = true) (mv : List S111) (zs : List ByteArray) (hm : areMv mv = true) (hn : zs.length ≤ 1000000) (ts : List Int) (ht : tsOk ts) : ∀ d i, i + d = ts.length →
    Ev (fun k => spec_l22Fired.l0 k ts l mv zs ((firR l mv zs ts).take i) (i : Int)) (firR l mv zs ts) := by
  intro d
  induction d with
  | zero =>
    intro i hi
    obtain rfl : i = ts.length := by omega
    refine Ev.dn ?_
    simp only [spec_l22Fired.l0, if_neg (show ¬ (ts.length : Int) < (ts.length : Int) by omega)]
    rw [List.take_of_length_le (by rw [(firR_is l mv zs ts).1]; exact Nat.le_refl _)]
    exact Ev.now _
  | succ d ih =>
    intro i hi
    have hx := ht.2 i (by omega)
    obtain ⟨q0, q1, q2⟩ := tkq_bd hx.1 hx.2
    have hs : wrap64 ((i : Int) + 1) = ((i + 1 : Nat) : Int) := wrap_succ (show i < ts.length by omega) (by have := ht.1; omega)
    have hlen : ((firR l mv zs ts).take i).length < 17592186044416 := by
      rw [List.length_take, (firR_is l mv zs ts).1]
      have := ht.1
      omega
    have htk : (firR l mv zs ts).take i ++ [fq l mv zs (rd ts (i : Int))] = (firR l mv zs ts).take (i + 1) := by
      have hil : i < (firR l mv zs ts).length := by rw [(firR_is l mv zs ts).1]; omega
      rw [List.take_succ_eq_append_getElem hil, ← rd_at hil, (firR_is l mv zs ts).2 i (by omega)]
    refine Ev.dn ?_
    simp only [spec_l22Fired.l0, if_pos (show (i : Int) < (ts.length : Int) by omega), if_pos (show (0 : Int) ≤ (i : Int) by omega), q2]
    refine Ev.bind (spec_l22At_ev l hl _ q0 q1) ?_
    have key : Ev (fun k => spec_l22Fired.j1 k ts l mv zs ((firR l mv zs ts).take i) (i : Int) (tkq (rd ts (i : Int))) (fire l (tkq (rd ts (i : Int))))) (firR l mv zs ts) := by
      refine Ev.dn ?_
      simp only [spec_l22Fired.j1]
      refine spec_zones l mv zs hm hn ts _ _ _ q0 q1 zs.length 0 _ (by omega) ?_
      have e : (fire l (tkq (rd ts (i : Int))) && allD (fun j => clr mv (rdOf ByteArray.empty zs (j : Int)) (tkq (rd ts (i : Int)) * 100)) 0 zs.length) = fireZ l mv zs (tkq (rd ts (i : Int))) := rfl
      rw [e]
      refine Ev.dn ?_
      simp only [spec_l22Fired.l1, if_neg (show ¬ (zs.length : Int) < (zs.length : Int) by omega), if_pos hlen, hs]
      have h := ih (i + 1) (by omega)
      rw [← htk] at h
      unfold fq at h
      cases hf : fireZ l mv zs (tkq (rd ts (i : Int))) with
      | true => rw [hf] at h; simp only [if_true] at h ⊢; exact h
      | false => rw [hf] at h; simp only [Bool.false_eq_true, if_false] at h ⊢; exact h
    unfold fire at key
    generalize atT l (tkq (rd ts (i : Int))) = p at key ⊢
    obtain ⟨⟨a, b, c, d, e, n⟩, rr⟩ := p
    dsimp only [flA] at key ⊢
    cases c
    · simpa using key
    · simpa using key
theorem spec_l22Fired_ev (l : List S33) (hl : areSig l = true) (mv : List S111) (zs : List ByteArray) (hm : areMv mv = true) (hn : zs.length ≤ 1000000) (ts : List Int) (ht : tsOk ts) : Ev (fun k => spec_l22Fired.f k ts l mv zs) (firR l mv zs ts) := by
  unfold spec_l22Fired.f
  have h := spec_fired_loop l hl mv zs hm hn ts ht ts.length 0 (by omega)
  simpa using h
/-- What is written behind the ticks below t. -/
def oT (l : List S33) (mv : List S111) (zs : List ByteArray) (ts : List Int) (t : Int) (j : Nat) : Int := if tkq (rd ts (j : Int)) < t then fq l mv zs (rd ts (j : Int)) else -1
theorem impl_fired_l2 (l : List S33) (mv : List S111) (zs : List ByteArray) (hm : areMv mv = true) (hn : zs.length ≤ 1000000) (ts : List Int) (ht : tsOk ts) (t m x n : Int) (b0 b1 b2 b3 b4 : Bool) (r : List Int) (h0 : 0 ≤ t) (h1 : t ≤ 100000) (hf : fire l t = true) {R : List Int}
    (hc : ∀ o, Isr o ts.length (oT l mv zs ts (t + 1)) → Ev (fun k => impl_firedTicks.l1 k ts l mv zs o m x (t + 1) (tk (b0, b1, b2, b3, b4, n)).1 (tk (b0, b1, b2, b3, b4, n)).2.1 (tk (b0, b1, b2, b3, b4, n)).2.2.1 (tk (b0, b1, b2, b3, b4, n)).2.2.2.1 (tk (b0, b1, b2, b3, b4, n)).2.2.2.2.1 (tk (b0, b1, b2, b3, b4, n)).2.2.2.2.2 r) R) : ∀ d i o, i + d = ts.length →
    Isr o ts.length (fun j => if j < i then oT l mv zs ts (t + 1) j else oT l mv zs ts t j) → Ev (fun k => impl_firedTicks.l2 k ts l mv zs o m x t b0 b1 b2 b3 b4 n r (i : Int)) R := by
  have hw : wrap64 (t * 100) = t * 100 := wrap_id (by omega) (by omega)
  have hw1 : wrap64 (t + 1) = t + 1 := wrap_id (by omega) (by omega)
  intro d
  induction d with
  | zero =>
    intro i o hi ho
    refine Ev.dn ?_
    simp only [impl_firedTicks.l2, if_neg (idx_ge hi), impl_tick, Option.bind_some, hw1, fl7]
    exact hc o (Isr.congr ho fun j hj => by rw [if_pos (show j < i by omega)])
  | succ d ih =>
    intro i o hi ho
    have hx := ht.2 i (by omega)
    obtain ⟨q0, q1, q2⟩ := tkq_bd hx.1 hx.2
    have hs : wrap64 ((i : Int) + 1) = ((i + 1 : Nat) : Int) := wrap_succ (show i < ts.length by omega) (by have := ht.1; omega)
    have hol := ho.1
    refine Ev.dn ?_
    simp only [impl_firedTicks.l2, if_pos (idx_lt hi), if_pos (idx_0 i), if_pos (hol.symm ▸ idx_lt hi : (i : Int) < (o.length : Int)), q2, hw, hs, Int.toNat_natCast]
    clear hw hw1 hs q2 hc
    by_cases c : tkq (rd ts (i : Int)) = t
    · simp only [if_pos c]
      refine Ev.bind (impl_areAllClear_ev mv zs (t * 100) hn hm (by omega) (by omega)) ?_
      have hz : fireZ l mv zs t = allClr mv zs (t * 100) := by unfold fireZ; rw [hf, Bool.true_and]
      cases ha : allClr mv zs (t * 100) with
      | true =>
        simp only [if_true]
        refine ih (i + 1) _ (by omega) (Isr.set ho (by omega) ?_ ?_)
        · rw [if_pos (Nat.lt_succ_self i)]
          unfold oT fq
          rw [c, if_pos (by omega), hz, ha, if_pos rfl]
        · intro j hj hne
          by_cases cj : j < i
          · rw [if_pos cj, if_pos (by omega)]
          · rw [if_neg cj, if_neg (by omega)]
      | false =>
        simp only [Bool.false_eq_true, if_false]
        refine ih (i + 1) _ (by omega) (Isr.congr ho fun j hj => ?_)
        by_cases cj : j < i
        · rw [if_pos cj, if_pos (by omega)]
        · by_cases ce : j = i
          · subst ce
            rw [if_neg cj, if_pos (Nat.lt_succ_self _)]
            unfold oT fq
            rw [c, if_pos (by omega), hz, ha, if_neg (by decide), if_neg (by omega)]
          · rw [if_neg cj, if_neg (by omega)]
    · simp only [if_neg c, Option.bind_some, Bool.false_eq_true, if_false]
      refine ih (i + 1) _ (by omega) (Isr.congr ho fun j hj => ?_)
      by_cases cj : j < i
      · rw [if_pos cj, if_pos (by omega)]
      · by_cases ce : j = i
        · subst ce
          rw [if_neg cj, if_pos (Nat.lt_succ_self _)]
          unfold oT
          by_cases cl : tkq (rd ts (j : Int)) < t
          · rw [if_pos cl, if_pos (by omega)]
          · rw [if_neg cl, if_neg (by omega)]
        · rw [if_neg cj, if_neg (by omega)]
theorem impl_fired_l1 (l : List S33) (hl : areSig l = true) (mv : List S111) (zs : List ByteArray) (hm : areMv mv = true) (hn : zs.length ≤ 1000000) (ts : List Int) (ht : tsOk ts) (m : Int) (hmx : m ≤ 100000) (hm2 : ∀ j, j < ts.length → tkq (rd ts (j : Int)) ≤ m) : ∀ (d : Nat) (t : Int) (i : Nat) (s : Ct) (r : List Int) o, 0 ≤ t → t + d = m + 1 → Dsk l t i s r → Isr o ts.length (oT l mv zs ts t) →
    Ev (fun k => impl_firedTicks.l1 k ts l mv zs o m (i : Int) t s.1 s.2.1 s.2.2.1 s.2.2.2.1 s.2.2.2.2.1 s.2.2.2.2.2 r) (firR l mv zs ts) := by
  intro d
  induction d with
  | zero =>
    intro t i s r o h0 htd h ho
    refine Ev.dn ?_
    simp only [impl_firedTicks.l1, if_neg (show ¬ t ≤ m by omega)]
    rw [Isr.uniq ho (Isr.congr (firR_is l mv zs ts) fun j hj => by
      unfold oT
      rw [if_pos (by have := hm2 j hj; omega)])]
    exact Ev.now _
  | succ d ih =>
    intro t i s r o h0 htd h ho
    obtain ⟨e, _, h2⟩ := Dsk.step hl h
    have hw : wrap64 (t + 1) = t + 1 := wrap_id (by omega) (by omega)
    have hf : ((bg l t (l.length - i) i s r).2.1.2.2.1 && !(bg l t (l.length - i) i s r).2.1.2.2.2.1) = fire l t := by unfold fire; rw [e]
    refine Ev.dn ?_
    simp only [impl_firedTicks.l1, if_pos (show t ≤ m by omega)]
    refine Ev.bind (impl_begin_ev l hl t (l.length - i) i s r (by have := h.1; omega) h.2.2.1) ?_
    simp only [flB, mayf, Option.bind_some, hf]
    have h3 := fun o (hoo : Isr o ts.length (oT l mv zs ts (t + 1))) => ih (t + 1) _ _ _ o (by omega) (by omega) h2 hoo
    generalize bg l t (l.length - i) i s r = p at h2 h3 hf ⊢
    cases hc : fire l t with
    | true =>
      simp only [if_true]
      exact impl_fired_l2 l mv zs hm hn ts ht t m _ _ _ _ _ _ _ _ h0 (by omega) hc h3 ts.length 0 o (by omega) (Isr.congr ho fun j hj => by rw [if_neg (Nat.not_lt_zero j)])
    | false =>
      simp only [Bool.false_eq_true, if_false, impl_tick, Option.bind_some, hw, fl7]
      refine h3 o (Isr.congr ho fun j hj => ?_)
      unfold oT
      by_cases cl : tkq (rd ts (j : Int)) < t
      · rw [if_pos cl, if_pos (by omega)]
      · rw [if_neg cl]
        by_cases c2 : tkq (rd ts (j : Int)) < t + 1
        · rw [if_pos c2]
          unfold fq fireZ
          rw [show tkq (rd ts (j : Int)) = t by omega, hc, Bool.false_and, if_neg (by decide)]
        · rw [if_neg c2]
theorem mx_ge (a b : Int) : a ≤ mx a b ∧ b ≤ mx a b ∧ (mx a b = a ∨ mx a b = b) := by
  unfold mx
  split <;> omega
theorem impl_fired_l0 (l : List S33) (hl : areSig l = true) (mv : List S111) (zs : List ByteArray) (hm : areMv mv = true) (hn : zs.length ≤ 1000000) (ts : List Int) (ht : tsOk ts) : ∀ d i o (m : Int), i + d = ts.length → 0 ≤ m → m ≤ 100000 → (∀ j, j < i → tkq (rd ts (j : Int)) ≤ m) → o.length = ts.length → (∀ j, j < i → rd o (j : Int) = -1) →
    Ev (fun k => impl_firedTicks.l0 k ts l mv zs o m (i : Int)) (firR l mv zs ts) := by
  intro d
  induction d with
  | zero =>
    intro i o m hi h0 h1 hm2 hol ho
    obtain rfl : i = ts.length := by omega
    refine Ev.dn ?_
    simp only [impl_firedTicks.l0, if_neg (show ¬ (ts.length : Int) < (ts.length : Int) by omega)]
    refine impl_fired_l1 l hl mv zs hm hn ts ht m h1 hm2 (m + 1).toNat 0 0 z6 [] o (Int.le_refl _) (by omega) (Dsk.start l hl) ⟨hol, fun j hj => ?_⟩
    rw [ho j hj]
    unfold oT
    rw [if_neg (by have := ht.2 j hj; have := (tkq_bd this.1 this.2).1; omega)]
  | succ d ih =>
    intro i o m hi h0 h1 hm2 hol ho
    have hx := ht.2 i (by omega)
    obtain ⟨q0, q1, q2⟩ := tkq_bd hx.1 hx.2
    have hs : wrap64 ((i : Int) + 1) = ((i + 1 : Nat) : Int) := wrap_succ (show i < ts.length by omega) (by have := ht.1; omega)
    obtain ⟨g1, g2, g3⟩ := mx_ge m (tkq (rd ts (i : Int)))
    refine Ev.dn ?_
    simp only [impl_firedTicks.l0, if_pos (show (i : Int) < (ts.length : Int) by omega), if_pos (show (0 : Int) ≤ (i : Int) by omega), if_pos (show (i : Int) < (o.length : Int) by omega), q2, hs, Int.toNat_natCast]
    have hset : Isr (o.set i (-1)) ts.length (fun j => if j = i then -1 else rd o (j : Int)) := Isr.set (h := fun j => rd o (j : Int)) ⟨hol, fun _ _ => rfl⟩ (by omega) (by rw [if_pos rfl]) (fun j _ hne => by rw [if_neg hne])
    refine ih (i + 1) _ _ (by omega) (by omega) (by omega) (fun j hj => ?_) hset.1 (fun j hj => ?_)
    · by_cases c : j = i
      · rw [c]; exact g2
      · exact Int.le_trans (hm2 j (by omega)) g1
    · rw [hset.2 j (by omega)]
      show (if j = i then (-1 : Int) else rd o (j : Int)) = -1
      by_cases c : j = i
      · rw [if_pos c]
      · rw [if_neg c]; exact ho j (by omega)
theorem impl_firedTicks_ev (l : List S33) (hl : areSig l = true) (mv : List S111) (zs : List ByteArray) (hm : areMv mv = true) (hn : zs.length ≤ 1000000) (ts : List Int) (ht : tsOk ts) : Ev (fun k => impl_firedTicks.f k ts l mv zs) (firR l mv zs ts) := by
  unfold impl_firedTicks.f
  simp only [if_pos (show ts.length ≤ 35184372088832 by have := ht.1; omega)]
  exact impl_fired_l0 l hl mv zs hm hn ts ht ts.length 0 _ 0 (by omega) (Int.le_refl _) (by decide) (fun j hj => absurd hj (Nat.not_lt_zero j)) (by rw [List.length_replicate]) (fun j hj => absurd hj (Nat.not_lt_zero j))
def tmB (ts : List Int) (j : Nat) : Bool := decide (0 ≤ rd ts (j : Int)) && decide (rd ts (j : Int) ≤ 10000000)
def tsB (ts : List Int) : Bool := allD (tmB ts) 0 ts.length && decide (ts.length ≤ 20)
theorem tsB_ok {ts : List Int} (h : tsB ts = true) : tsOk ts := by
  unfold tsB at h
  simp only [Bool.and_eq_true, decide_eq_true_eq] at h
  refine ⟨h.2, fun j hj => ?_⟩
  have h2 := (allD_iff _ _ _).1 h.1 j (Nat.zero_le _) (by omega)
  unfold tmB at h2
  simpa only [Bool.and_eq_true, decide_eq_true_eq] using h2
/-- Are there cue times, signals, moves and zones? -/
def firC (ts : List Int) (l : List S33) (mv : List S111) (zs : List ByteArray) : Bool := tsB ts && (areSig l && (areMv mv && (allWd zs && decide (zs.length ≤ 60))))
theorem within_g (x a b : Int) : impl_within.f x a b = some (decide (a ≤ x ∧ x ≤ b)) := by
  unfold impl_within.f
  by_cases h0 : a ≤ x
  · by_cases h1 : x ≤ b <;> simp [h0, h1]
  · simp [h0]
theorem impl_areCueTimes_ev (ts : List Int) (hn : ts.length ≤ 1000000) : Ev (fun k => impl_areCueTimes.f k ts) (tsB ts) := by
  unfold impl_areCueTimes.f impl_allWithin.f tsB
  by_cases c : (ts.length : Int) ≤ 20
  · simp only [if_pos c, decide_eq_true (show ts.length ≤ 20 by omega), Bool.and_true]
    have h := Ev.allLoop (l := fun k i => impl_allWithin.l0 k 0 10000000 ts (ts.length : Int) i) (n := ts.length) (tmB ts) false true
      (fun i hi => Evt.all fun k => by
        simp only [impl_allWithin.l0, within_g, Option.bind_some]
        rw [if_pos (by omega), if_pos (by omega), if_pos (by omega), wrap_succ hi (by omega)]
        unfold tmB
        by_cases h0 : 0 ≤ rd ts (i : Int) <;> by_cases h1 : rd ts (i : Int) ≤ 10000000 <;> simp [h0, h1])
      (Evt.all fun k => by
        simp only [impl_allWithin.l0]
        rw [if_neg (by omega)]) ts.length 0 (by omega)
    refine Ev.bind h ?_
    cases allD (tmB ts) 0 ts.length with
    | true => exact Ev.now _
    | false => exact Ev.now _
  · simp only [if_neg c, decide_eq_false (show ¬ ts.length ≤ 20 by omega), Bool.and_false]
    exact Ev.now _
theorem impl_areFired_ev (ts : List Int) (l : List S33) (mv : List S111) (zs : List ByteArray) (h0 : ts.length ≤ 1000000) (h1 : l.length ≤ 1000000) (h2 : mv.length ≤ 1000000) (h3 : zs.length ≤ 1000000) (hm : szOk mv) (hz : zsOk zs) : Ev (fun k => impl_areFired.f k ts l mv zs) (firC ts l mv zs) := by
  unfold impl_areFired.f firC
  refine Ev.bind (impl_areCueTimes_ev ts h0) ?_
  cases tsB ts with
  | false => simp only [Bool.false_eq_true, if_false, Bool.false_and]; exact Ev.now _
  | true =>
    simp only [if_true, Bool.true_and]
    refine Ev.bind (impl_AreSignals_ev l (by omega)) ?_
    cases areSig l with
    | false => simp only [Bool.false_eq_true, if_false, Bool.false_and]; exact Ev.now _
    | true =>
      simp only [if_true, Bool.true_and]
      refine Ev.bind (impl_AreMoves_ev mv h2 hm) ?_
      cases areMv mv with
      | false => simp only [Bool.false_eq_true, if_false, Bool.false_and]; exact Ev.now _
      | true =>
        simp only [if_true, Bool.true_and]
        exact Ev.bind (impl_areZones_ev zs h3 hz) (Ev.now _)
theorem spec_l22Times_ev (ts : List Int) (l : List S33) (mv : List S111) (zs : List ByteArray) (h0 : ts.length ≤ 1000000) (h1 : l.length ≤ 1000000) (h2 : mv.length ≤ 1000000) (h3 : zs.length ≤ 1000000) (hm : szOk mv) (hz : zsOk zs) : Ev (fun k => spec_l22Times.f k ts l mv zs) (if firC ts l mv zs = true then 0 else 1) := by
  have last : Ev (fun k => spec_l22Times.l0 k ts l mv zs (ts.length : Int)) (if (decide (ts.length ≤ 20) && (areSig l && (areMv mv && (allWd zs && decide (zs.length ≤ 60))))) = true then 0 else 1) := by
    refine Ev.dn ?_
    simp only [spec_l22Times.l0, if_neg (show ¬ (ts.length : Int) < (ts.length : Int) by omega)]
    by_cases c : (ts.length : Int) > 20
    · simp only [if_pos c, decide_eq_false (show ¬ ts.length ≤ 20 by omega), Bool.false_and, Bool.false_eq_true, if_false]
      exact Ev.now _
    simp only [if_neg c, decide_eq_true (show ts.length ≤ 20 by omega), Bool.true_and]
    refine Ev.bind (spec_AreSignals_ev l (by omega)) ?_
    cases areSig l with
    | false => simp only [Bool.false_eq_true, if_false, Bool.false_and]; exact Ev.now _
    | true =>
      simp only [if_true, Bool.true_and]
      refine Ev.bind (spec_AreMoves_ev mv h2 hm) ?_
      cases areMv mv with
      | false => simp only [Bool.false_eq_true, if_false, Bool.false_and]; exact Ev.now _
      | true =>
        simp only [if_true, Bool.true_and]
        refine Ev.bind (spec_l01All_ev zs h3 hz) ?_
        cases allWd zs with
        | false => simp only [Bool.false_eq_true, if_false, Bool.false_and]; exact Ev.now _
        | true =>
          simp only [if_true, Bool.true_and]
          by_cases c2 : (zs.length : Int) > 60
          · simp only [if_pos c2, decide_eq_false (show ¬ zs.length ≤ 60 by omega), Bool.false_eq_true, if_false]
            exact Ev.now _
          · simp only [if_neg c2, decide_eq_true (show zs.length ≤ 60 by omega), if_true]
            exact Ev.now _
  have key : ∀ d i, i + d = ts.length → Ev (fun k => spec_l22Times.l0 k ts l mv zs (i : Int)) (if (allD (tmB ts) i d && (decide (ts.length ≤ 20) && (areSig l && (areMv mv && (allWd zs && decide (zs.length ≤ 60)))))) = true then 0 else 1) := by
    intro d
    induction d with
    | zero =>
      intro i hi
      obtain rfl : i = ts.length := by omega
      simp only [allD, Bool.true_and]
      exact last
    | succ d ih =>
      intro i hi
      have hs : wrap64 ((i : Int) + 1) = ((i + 1 : Nat) : Int) := wrap_succ (show i < ts.length by omega) (by omega)
      have ht : spec_l01IsTime.f (rd ts (i : Int)) = some (tmB ts i) := by
        unfold spec_l01IsTime.f spec_l01In.f tmB
        by_cases c0 : 0 ≤ rd ts (i : Int)
        · simp [c0]
        · simp [c0]
      refine Ev.dn ?_
      simp only [spec_l22Times.l0, if_pos (show (i : Int) < (ts.length : Int) by omega), if_pos (show (0 : Int) ≤ (i : Int) by omega), ht, Option.bind_some, hs, allD]
      by_cases cb : tmB ts i = true
      · simp only [cb, if_true, Bool.true_and]
        exact ih (i + 1) (by omega)
      · have cb' := Bool.eq_false_iff.mpr cb
        simp only [cb', Bool.false_eq_true, if_false, Bool.false_and]
        exact Ev.now _
  unfold spec_l22Times.f firC tsB
  have h := key ts.length 0 (by omega)
  simp only [Bool.and_assoc]
  exact h
def fsR (ts : List Int) (l : List S33) (mv : List S111) (zs : List ByteArray) : List Int × Int := if firC ts l mv zs = true then (firR l mv zs ts, 0) else ([], 1)
theorem firC_parts {ts : List Int} {l : List S33} {mv : List S111} {zs : List ByteArray} (h : firC ts l mv zs = true) : tsOk ts ∧ areSig l = true ∧ areMv mv = true := by
  unfold firC at h
  simp only [Bool.and_eq_true] at h
  exact ⟨tsB_ok h.1, h.2.1, h.2.2.1⟩
theorem fsR_len (ts : List Int) (l : List S33) (mv : List S111) (zs : List ByteArray) : (fsR ts l mv zs).1.length ≤ ts.length := by
  unfold fsR
  split
  · rw [(firR_is l mv zs ts).1]; exact Nat.le_refl _
  · exact Nat.zero_le _
theorem spec_fs_ev (ts : List Int) (l : List S33) (mv : List S111) (zs : List ByteArray) (h0 : ts.length ≤ 1000000) (h1 : l.length ≤ 1000000) (h2 : mv.length ≤ 1000000) (h3 : zs.length ≤ 1000000) (hm : szOk mv) (hz : zsOk zs) : Ev (fun k => spec_FiredSafely.f k ts l mv zs) (fsR ts l mv zs) := by
  unfold spec_FiredSafely.f fsR
  refine Ev.bind (spec_l22Times_ev ts l mv zs h0 h1 h2 h3 hm hz) ?_
  by_cases c : firC ts l mv zs = true
  · obtain ⟨a, b, d⟩ := firC_parts c
    simp only [if_pos c, if_true]
    exact Ev.bind (spec_l22Fired_ev l b mv zs d h3 ts a) (Ev.now _)
  · simp only [if_neg c, if_neg (show ¬ (1 : Int) = 0 by decide)]
    exact Ev.now _
theorem impl_fs_ev (ts : List Int) (l : List S33) (mv : List S111) (zs : List ByteArray) (h0 : ts.length ≤ 1000000) (h1 : l.length ≤ 1000000) (h2 : mv.length ≤ 1000000) (h3 : zs.length ≤ 1000000) (hm : szOk mv) (hz : zsOk zs) : Ev (fun k => impl_FiredSafely.f k ts l mv zs) (fsR ts l mv zs) := by
  unfold impl_FiredSafely.f fsR
  refine Ev.bind (impl_areFired_ev ts l mv zs h0 h1 h2 h3 hm hz) ?_
  by_cases c : firC ts l mv zs = true
  · obtain ⟨a, b, d⟩ := firC_parts c
    simp only [if_pos c]
    exact Ev.bind (impl_firedTicks_ev l b mv zs d h3 ts a) (Ev.now _)
  · simp only [if_neg c]
    exact Ev.now _
/-- The indices from i on, d of them, that are missed. -/
def mis (o : List Int) : Nat → Nat → List Int → List Int
  | 0, _, a => a
  | d + 1, i, a => mis o d (i + 1) (if rd o (i : Int) < 0 then a ++ [(i : Int)] else a)
theorem mis_len (o : List Int) : ∀ d i a, (mis o d i a).length ≤ a.length + d := by
  intro d
  induction d with
  | zero => intro i a; exact Nat.le_refl _
  | succ d ih =>
    intro i a
    simp only [mis]
    have := ih (i + 1) (if rd o (i : Int) < 0 then a ++ [(i : Int)] else a)
    split at this
    · rw [List.length_append, List.length_singleton] at this
      rename_i c
      rw [if_pos c]
      omega
    · rename_i c
      rw [if_neg c]
      omega
theorem mis_spec (o : List Int) (hn : o.length ≤ 1000000) : ∀ d i a, i + d = o.length → a.length ≤ i → Ev (fun k => spec_MissedCues.l0 k a o (i : Int)) (mis o d i a, 0) := by
  intro d
  induction d with
  | zero =>
    intro i a hi ha
    refine Ev.dn ?_
    simp only [spec_MissedCues.l0, mis, if_neg (show ¬ (i : Int) < (o.length : Int) by omega)]
    exact Ev.now _
  | succ d ih =>
    intro i a hi ha
    have hs : wrap64 ((i : Int) + 1) = ((i + 1 : Nat) : Int) := wrap_succ (show i < o.length by omega) (by omega)
    refine Ev.dn ?_
    simp only [spec_MissedCues.l0, mis, if_pos (show (i : Int) < (o.length : Int) by omega), if_pos (show (0 : Int) ≤ (i : Int) by omega), if_pos (show a.length < 17592186044416 by omega), hs]
    by_cases c : rd o (i : Int) < 0
    · simp only [if_pos c]
      exact ih (i + 1) _ (by omega) (by rw [List.length_append, List.length_singleton]; omega)
    · simp only [if_neg c]
      exact ih (i + 1) _ (by omega) (by omega)
theorem mis_impl (o : List Int) (hn : o.length ≤ 1000000) : ∀ d i a, i + d = o.length → a.length ≤ i → Ev (fun k => impl_MissedCues.l0 k a o (o.length : Int) (i : Int)) (mis o d i a, 0) := by
  intro d
  induction d with
  | zero =>
    intro i a hi ha
    refine Ev.dn ?_
    simp only [impl_MissedCues.l0, mis, if_neg (show ¬ (i : Int) < (o.length : Int) by omega)]
    exact Ev.now _
  | succ d ih =>
    intro i a hi ha
    have hs : wrap64 ((i : Int) + 1) = ((i + 1 : Nat) : Int) := wrap_succ (show i < o.length by omega) (by omega)
    refine Ev.dn ?_
    simp only [impl_MissedCues.l0, mis, if_pos (show (i : Int) < (o.length : Int) by omega), if_pos (show (0 : Int) ≤ (i : Int) by omega), if_pos (show a.length < 17592186044416 by omega), hs]
    by_cases c : rd o (i : Int) < 0
    · simp only [if_pos c]
      exact ih (i + 1) _ (by omega) (by rw [List.length_append, List.length_singleton]; omega)
    · simp only [if_neg c]
      exact ih (i + 1) _ (by omega) (by omega)
def mcR (ts : List Int) (l : List S33) (mv : List S111) (zs : List ByteArray) : List Int × Int := if firC ts l mv zs = true then (mis (firR l mv zs ts) ts.length 0 [], 0) else ([], 1)
theorem mcR_len (ts : List Int) (l : List S33) (mv : List S111) (zs : List ByteArray) : (mcR ts l mv zs).1.length ≤ ts.length := by
  unfold mcR
  split
  · have := mis_len (firR l mv zs ts) ts.length 0 []
    simpa using this
  · exact Nat.zero_le _
theorem spec_mc_ev (ts : List Int) (l : List S33) (mv : List S111) (zs : List ByteArray) (h0 : ts.length ≤ 1000000) (h1 : l.length ≤ 1000000) (h2 : mv.length ≤ 1000000) (h3 : zs.length ≤ 1000000) (hm : szOk mv) (hz : zsOk zs) : Ev (fun k => spec_MissedCues.f k ts l mv zs) (mcR ts l mv zs) := by
  unfold spec_MissedCues.f mcR
  refine Ev.bind (spec_l22Times_ev ts l mv zs h0 h1 h2 h3 hm hz) ?_
  by_cases c : firC ts l mv zs = true
  · obtain ⟨a, b, d⟩ := firC_parts c
    simp only [if_pos c, if_true]
    refine Ev.bind (spec_l22Fired_ev l b mv zs d h3 ts a) ?_
    have hl := (firR_is l mv zs ts).1
    exact mis_spec (firR l mv zs ts) (by omega) ts.length 0 [] (by omega) (Nat.le_refl _)
  · simp only [if_neg c, if_neg (show ¬ (1 : Int) = 0 by decide)]
    exact Ev.now _
theorem impl_mc_ev (ts : List Int) (l : List S33) (mv : List S111) (zs : List ByteArray) (h0 : ts.length ≤ 1000000) (h1 : l.length ≤ 1000000) (h2 : mv.length ≤ 1000000) (h3 : zs.length ≤ 1000000) (hm : szOk mv) (hz : zsOk zs) : Ev (fun k => impl_MissedCues.f k ts l mv zs) (mcR ts l mv zs) := by
  unfold impl_MissedCues.f mcR
  refine Ev.bind (impl_areFired_ev ts l mv zs h0 h1 h2 h3 hm hz) ?_
  by_cases c : firC ts l mv zs = true
  · obtain ⟨a, b, d⟩ := firC_parts c
    simp only [if_pos c]
    refine Ev.bind (impl_firedTicks_ev l b mv zs d h3 ts a) ?_
    have hl := (firR_is l mv zs ts).1
    exact mis_impl (firR l mv zs ts) (by omega) ts.length 0 [] (by omega) (Nat.le_refl _)
  · simp only [if_neg c]
    exact Ev.now _
theorem areMv_nil : areMv ([] : List S111) = true := by decide
theorem allWd_nil : allWd ([] : List ByteArray) = true := by decide
theorem firC_nil (ts : List Int) (l : List S33) : firC ts l [] [] = (tsB ts && areSig l) := by
  unfold firC
  rw [areMv_nil, allWd_nil]
  simp
theorem szOk_nil : szOk ([] : List S111) := fun j hj => absurd hj (Nat.not_lt_zero j)
theorem zsOk_nil : zsOk [] := fun y hy => by simp at hy
theorem spec_fticks_ev (ts : List Int) (l : List S33) (h0 : ts.length ≤ 1000000) (h1 : l.length ≤ 1000000) : Ev (fun k => spec_FiredTicks.f k ts l) (fsR ts l [] []) := by
  unfold spec_FiredTicks.f fsR
  refine Ev.bind (spec_l22Times_ev ts l [] [] h0 h1 (Nat.zero_le _) (Nat.zero_le _) szOk_nil zsOk_nil) ?_
  by_cases c : firC ts l [] [] = true
  · obtain ⟨a, b, d⟩ := firC_parts c
    simp only [if_pos c, if_true]
    exact Ev.bind (spec_l22Fired_ev l b [] [] d (Nat.zero_le _) ts a) (Ev.now _)
  · simp only [if_neg c, if_neg (show ¬ (1 : Int) = 0 by decide)]
    exact Ev.now _
theorem impl_fticks_ev (ts : List Int) (l : List S33) (h0 : ts.length ≤ 1000000) (h1 : l.length ≤ 1000000) : Ev (fun k => impl_FiredTicks.f k ts l) (fsR ts l [] []) := by
  unfold impl_FiredTicks.f fsR
  refine Ev.bind (impl_areCueTimes_ev ts h0) ?_
  rw [firC_nil]
  cases ha : tsB ts with
  | false => simp only [Bool.false_eq_true, if_false, Bool.false_and]; exact Ev.now _
  | true =>
    simp only [if_true, Bool.true_and]
    refine Ev.bind (impl_AreSignals_ev l (by omega)) ?_
    cases hs : areSig l with
    | false => simp only [Bool.false_eq_true, if_false]; exact Ev.now _
    | true =>
      simp only [if_true]
      exact Ev.bind (impl_firedTicks_ev l hs [] [] areMv_nil (Nat.zero_le _) ts (tsB_ok ha)) (Ev.now _)
theorem hasI_ev (l : List Int) (v : Int) (hn : l.length ≤ 1000) : ∃ b : Bool, Ev (fun k => laws_hasInt.f k l v) b ∧ (b = true ↔ v ∈ l) := by
  have loop : ∀ d j, j + d = l.length → ∃ b : Bool, Ev (fun k => laws_hasInt.l0 k l v (j : Int)) b ∧ (b = true ↔ v ∈ l.drop j) := by
    intro d
    induction d with
    | zero =>
      intro j hj
      refine ⟨false, Ev.dn ?_, ?_⟩
      · simp only [laws_hasInt.l0, if_neg (show ¬ (j : Int) < (l.length : Int) by omega)]
        exact Ev.now _
      · rw [List.drop_of_length_le (by omega)]; simp
    | succ d ih =>
      intro j hj
      have hjl : j < l.length := by omega
      have hw := wrap_succ hjl (show l.length ≤ 9223372036854775807 by omega)
      rw [List.drop_eq_getElem_cons hjl]
      by_cases c : rd l (j : Int) = v
      · refine ⟨true, Ev.dn ?_, ?_⟩
        · simp only [laws_hasInt.l0, if_pos (show (j : Int) < (l.length : Int) by omega), if_pos (show (0 : Int) ≤ (j : Int) by omega), if_pos c]
          exact Ev.now _
        · rw [rd_nat hjl] at c
          simp [c]
      · obtain ⟨b, h1, h2⟩ := ih (j + 1) (by omega)
        refine ⟨b, Ev.dn ?_, ?_⟩
        · simp only [laws_hasInt.l0, if_pos (show (j : Int) < (l.length : Int) by omega), if_pos (show (0 : Int) ≤ (j : Int) by omega), if_neg c, hw]
          exact h1
        · rw [rd_nat hjl] at c
          rw [h2, List.mem_cons]
          exact ⟨.inr, fun h => h.elim (fun e => absurd e.symm c) id⟩
  unfold laws_hasInt.f
  obtain ⟨b, h1, h2⟩ := loop l.length 0 (by omega)
  exact ⟨b, h1, h2⟩
theorem likeInts_refl (l : List Int) (hn : l.length ≤ 1000000) : Ev (fun k => laws_likeInts.f k l l) true := by
  unfold laws_likeInts.f
  simp only [if_true]
  have h := Ev.allLoop (l := fun k i => laws_likeInts.l0 k l l i) (n := l.length) (fun _ => true) false true
    (fun i hi => Evt.all fun k => by
      simp only [laws_likeInts.l0]
      rw [if_pos (by omega), if_pos (by omega), if_pos (by omega), wrap_succ hi (by omega)])
    (Evt.all fun k => by
      simp only [laws_likeInts.l0]
      rw [if_neg (by omega)]) l.length 0 (by omega)
  refine (congrArg (Ev _) ?_).mp h
  rw [if_pos ((allD_iff _ _ _).2 (fun _ _ _ => rfl))]
/-- A place in the bytes and a state of the draws. -/
def Gd (L : List Int) (p z : Int) : Prop := 0 ≤ p ∧ p ≤ (L.length : Int) ∧ 0 ≤ z ∧ z < 2147483647
def By (L : List Int) : Prop := L.length ≤ 4096 ∧ ∀ j : Nat, j < L.length → 0 ≤ rd L (j : Int) ∧ rd L (j : Int) ≤ 255
theorem tm_bd {x n : Int} (hx : 0 ≤ x) (hn : 0 < n) : 0 ≤ Int.tmod x n ∧ Int.tmod x n < n := ⟨Int.tmod_nonneg n hx, Int.tmod_lt_of_pos x hn⟩
theorem next_ok {L : List Int} (hL : By L) {p z : Int} (g : Gd L p z) (n : Int) (h1 : 1 ≤ n) (h2 : n ≤ 100000000) : ∃ v p' z' : Int, spec_l01Next.f L p z n = some (v, p', z') ∧ Gd L p' z' ∧ 0 ≤ v ∧ v < n := by
  obtain ⟨g1, g2, g3, g4⟩ := g
  obtain ⟨hl, hb⟩ := hL
  unfold spec_l01Next.f
  by_cases c1 : n ≤ 1
  · rw [if_pos c1]
    exact ⟨0, p, z, rfl, ⟨g1, g2, g3, g4⟩, by omega, by omega⟩
  rw [if_neg c1]
  have hn : ¬ n = 0 := by omega
  have w1 : wrap64 (z * 48271) = z * 48271 := wrap_id (by omega) (by omega)
  have w2 : wrap64 (z * 48271 + 29) = z * 48271 + 29 := wrap_id (by omega) (by omega)
  obtain ⟨z0, z1⟩ := tm_bd (x := z * 48271 + 29) (n := 2147483647) (by omega) (by decide)
  simp only [w1, w2, if_neg hn]
  generalize Int.tmod (z * 48271 + 29) 2147483647 = y at z0 z1
  have q0 : Int.tdiv y 31 = y / 31 := Int.tdiv_eq_ediv_of_nonneg z0
  obtain ⟨q2, q3⟩ : 0 ≤ y / 31 ∧ y / 31 ≤ 2147483647 := by clear w1 w2 c1 hb; omega
  have q1 : wrap64 (y / 31) = y / 31 := wrap_id (by clear w1 w2 c1 hb q0; omega) (by clear w1 w2 c1 hb q0; omega)
  simp only [q0, q1]
  clear q0 q1 w1 w2
  generalize y / 31 = q at q2 q3
  by_cases c2 : p < (L.length : Int)
  · obtain ⟨m, rfl⟩ := Int.eq_ofNat_of_zero_le g1
    obtain ⟨r0, r1⟩ := hb m (by omega)
    have m0 : (m : Int) < 4096 := by clear z0 z1 q2 q3 r0 r1; omega
    obtain ⟨p1, p2⟩ : wrap64 ((m : Int) + 1) = (m : Int) + 1 ∧ wrap64 ((m : Int) + 1 - 1) = (m : Int) := by
      clear z0 z1 q2 q3 r0 r1 c2 g1 g2 hb hn
      refine ⟨wrap_id (by omega) (by omega), ?_⟩
      rw [wrap_id (by omega) (by omega)]
      omega
    obtain ⟨r2, r3⟩ : wrap64 (rd L (m : Int)) = rd L (m : Int) ∧ wrap64 (q + rd L (m : Int)) = q + rd L (m : Int) := by
      clear p1 p2 c2 g1 g2 hb hn
      generalize rd L (m : Int) = r at r0 r1
      exact ⟨wrap_id (by omega) (by omega), wrap_id (by omega) (by omega)⟩
    have k1 : 0 ≤ (m : Int) + 1 ∧ (m : Int) + 1 ≤ (L.length : Int) := by clear p1 p2 r2 r3 z0 z1 q2 q3 r0 r1; omega
    have k2 : 0 ≤ q + rd L (m : Int) := by clear p1 p2 r2 r3 z0 z1; omega
    have k3 : 0 < n := by clear p1 p2 r2 r3 z0 z1 q2 q3 r0 r1; omega
    obtain ⟨a0, a1⟩ := tm_bd (x := rd L (m : Int)) (n := n) r0 k3
    obtain ⟨b0, b1⟩ := tm_bd (x := q + rd L (m : Int)) (n := n) k2 k3
    by_cases c4 : n ≤ 256
    · simp only [if_pos c2, if_pos g1, if_pos c4, p1, p2, r2, r3]
      by_cases c3 : Int.tmod ((m : Int) + 1) 2 = 0
      · rw [if_pos c3]
        exact ⟨_, _, _, rfl, ⟨k1.1, k1.2, z0, z1⟩, a0, a1⟩
      · rw [if_neg c3]
        exact ⟨_, _, _, rfl, ⟨k1.1, k1.2, z0, z1⟩, b0, b1⟩
    · simp only [if_pos c2, if_pos g1, if_neg c4, p1, p2, r2, r3]
      exact ⟨_, _, _, rfl, ⟨k1.1, k1.2, z0, z1⟩, b0, b1⟩
  · rw [if_neg c2]
    obtain ⟨b0, b1⟩ := tm_bd (x := q) (n := n) (by omega) (by omega)
    exact ⟨_, _, _, rfl, ⟨g1, g2, z0, z1⟩, b0, b1⟩
theorem pick_ok {L : List Int} (hL : By L) {p z : Int} (g : Gd L p z) (l : List Int) (h1 : 1 ≤ l.length) (h2 : l.length ≤ 256) : ∃ v p' z' : Int, spec_l01Pick.f L p z l = some (v, p', z') ∧ Gd L p' z' := by
  obtain ⟨v, p', z', e, g', v0, v1⟩ := next_ok hL g (l.length : Int) (by omega) (by omega)
  refine ⟨rd l v, p', z', ?_, g'⟩
  unfold spec_l01Pick.f
  rw [e, Option.bind_some, if_pos v0, if_pos v1]
theorem from_ev {L : List Int} (hL : By L) : ∃ z, Ev (fun k => spec_l01From.f k L) (L, 0, z) ∧ Gd L 0 z := by
  have loop : ∀ (d i : Nat) (z : Int), i + d = 64 → 0 ≤ z → z < 2147483647 → ∃ z', Ev (fun k => spec_l01From.l0 k L (i : Int) L 0 z) (L, 0, z') ∧ Gd L 0 z' := by
    intro d
    induction d with
    | zero =>
      intro i z hi h0 h1
      refine ⟨z, Ev.dn ?_, by omega, by omega, h0, h1⟩
      simp only [spec_l01From.l0, if_neg (show ¬ (i : Int) < 64 by omega), ite_self]
      exact Ev.now _
    | succ d ih =>
      intro i z hi h0 h1
      by_cases c : (i : Int) < (L.length : Int)
      · obtain ⟨r0, r1⟩ := hL.2 i (by omega)
        have w1 : wrap64 (z * 83) = z * 83 := wrap_id (by clear ih; omega) (by clear ih; omega)
        have w2 : wrap64 (rd L (i : Int)) = rd L (i : Int) := wrap_id (by clear ih; omega) (by clear ih; omega)
        have w3 : wrap64 (z * 83 + rd L (i : Int)) = z * 83 + rd L (i : Int) := wrap_id (by clear ih; omega) (by clear ih; omega)
        obtain ⟨z0, z1⟩ := tm_bd (x := z * 83 + rd L (i : Int)) (n := 2147483647) (by clear ih; omega) (by decide)
        obtain ⟨z', h2, h3⟩ := ih (i + 1) _ (by clear ih; omega) z0 z1
        refine ⟨z', Ev.dn ?_, h3⟩
        have hw := wrap_succ (i := i) (n := 64) (by clear ih; omega) (by omega)
        simp only [spec_l01From.l0, if_pos c, if_pos (show (i : Int) < 64 by clear ih; omega), if_pos (show (0 : Int) ≤ (i : Int) by clear ih; omega), w1, w2, w3, hw]
        exact h2
      · refine ⟨z, Ev.dn ?_, by omega, by omega, h0, h1⟩
        simp only [spec_l01From.l0, if_neg c]
        exact Ev.now _
  unfold spec_l01From.f
  exact loop 64 0 61043 (by omega) (by omega) (by omega)
theorem good22_loop {L : List Int} (hL : By L) : ∀ (c : Nat) (x : List S33) (t p z : Int), Gd L p z → x.length + c ≤ 90 → ∃ (xs : List S33) (p' z' : Int), Ev (fun k => spec_l22Good.l0 k x t (c : Int) L p z) (xs, p', z') ∧ Gd L p' z' ∧ xs.length ≤ 90 := by
  intro c
  induction c with
  | zero =>
    intro x t p z g hx
    refine ⟨x, p, z, Ev.dn ?_, g, by omega⟩
    simp only [spec_l22Good.l0, if_neg (show ¬ ((0 : Nat) : Int) > 0 by omega)]
    exact Ev.now _
  | succ c ih =>
    intro x t p z g hx
    obtain ⟨v, p1, z1, e1, g1⟩ := pick_ok hL g [0, 1, 2, 3, 4] (by decide) (by decide)
    obtain ⟨u, p2, z2, e2, g2⟩ := pick_ok hL g1 [7, 7, 7, 7, 2, 4, 5, 0, 6, 3, 9] (by decide) (by decide)
    obtain ⟨xs, p', z', h1, h2, h3⟩ := ih (x ++ [(⟨wrap64 (t + v), u⟩ : S33)]) (wrap64 (t + v)) p2 z2 g2 (by rw [List.length_append, List.length_singleton]; omega)
    refine ⟨xs, p', z', Ev.dn ?_, h2, h3⟩
    have w : wrap64 (((c + 1 : Nat) : Int) - 1) = (c : Int) := by rw [wrap_id (by clear ih; omega) (by clear ih; omega)]; clear ih; omega
    simp only [spec_l22Good.l0, if_pos (show ((c + 1 : Nat) : Int) > 0 by clear ih; omega), e1, Option.bind_some, e2, if_pos (show x.length < 8796093022208 by clear ih; omega), w]
    exact h1
theorem good22_ok {L : List Int} (hL : By L) {p z : Int} (g : Gd L p z) : ∃ (xs : List S33) (p' z' : Int), Ev (fun k => spec_l22Good.f k L p z) (xs, p', z') ∧ Gd L p' z' ∧ xs.length ≤ 90 := by
  obtain ⟨v, p1, z1, e1, g1, v0, v1⟩ := next_ok hL g 5 (by omega) (by omega)
  obtain ⟨u, p2, z2, e2, g2, u0, u1⟩ := next_ok hL g1 6 (by omega) (by omega)
  obtain ⟨q, p3, z3, e3, g3, q0, q1⟩ := next_ok hL g2 20 (by omega) (by omega)
  obtain ⟨m, rfl⟩ := Int.eq_ofNat_of_zero_le q0
  unfold spec_l22Good.f
  by_cases c : u > 0
  · obtain ⟨xs, p', z', h1, h2, h3⟩ := good22_loop hL m [(⟨v, 0⟩ : S33), (⟨v, 1⟩ : S33), (⟨wrap64 (v + 1), 2⟩ : S33)] (wrap64 (v + 1)) p3 z3 g3 (by simp; omega)
    refine ⟨xs, p', z', ?_, h2, h3⟩
    simp only [Option.bind_some, e1, e2, if_pos c, List.nil_append]
    simp only [List.length_nil, List.length_cons, if_pos (show 0 + (0 + 1 + 1 + 1) < 8796093022208 by decide)]
    refine Ev.dn ?_
    simp only [spec_l22Good.j0, e3, Option.bind_some]
    exact h1
  · obtain ⟨xs, p', z', h1, h2, h3⟩ := good22_loop hL m [] v p3 z3 g3 (by simp; omega)
    refine ⟨xs, p', z', ?_, h2, h3⟩
    simp only [Option.bind_some, e1, e2, if_neg c]
    refine Ev.dn ?_
    simp only [spec_l22Good.j0, e3, Option.bind_some]
    exact h1
theorem draw22_loop {L : List Int} (hL : By L) : ∀ (d : Nat) (x : List S33) (p z : Int), Gd L p z → 41 ≤ x.length + d → x.length ≤ 90 → ∃ (xs : List S33) (p' z' : Int), Ev (fun k => spec_l22Draw.l0 k x L p z) (xs, p', z') ∧ Gd L p' z' ∧ xs.length ≤ 100 := by
  intro d
  induction d with
  | zero =>
    intro x p z g hd hx
    obtain ⟨v, p1, z1, e1, g1, v0, v1⟩ := next_ok hL g 2 (by omega) (by omega)
    have w : wrap64 (40 + v) = 40 + v := wrap_id (by omega) (by omega)
    refine ⟨x, p1, z1, Ev.dn ?_, g1, by omega⟩
    simp only [spec_l22Draw.l0, e1, Option.bind_some, w, if_neg (show ¬ (x.length : Int) < 40 + v by omega)]
    exact Ev.now _
  | succ d ih =>
    intro x p z g hd hx
    obtain ⟨v, p1, z1, e1, g1, v0, v1⟩ := next_ok hL g 2 (by omega) (by omega)
    have w : wrap64 (40 + v) = 40 + v := wrap_id (by omega) (by omega)
    by_cases c : (x.length : Int) < 40 + v
    · obtain ⟨xs, p', z', h1, h2, h3⟩ := ih (x ++ [(⟨300, 7⟩ : S33)]) p1 z1 g1 (by rw [List.length_append, List.length_singleton]; omega) (by rw [List.length_append, List.length_singleton]; omega)
      refine ⟨xs, p', z', Ev.dn ?_, h2, h3⟩
      simp only [spec_l22Draw.l0, e1, Option.bind_some, w, if_pos c, if_pos (show x.length < 8796093022208 by clear ih; omega)]
      exact h1
    · refine ⟨x, p1, z1, Ev.dn ?_, g1, by omega⟩
      simp only [spec_l22Draw.l0, e1, Option.bind_some, w, if_neg c]
      exact Ev.now _
theorem draw22_ok {L : List Int} (hL : By L) {p z : Int} (g : Gd L p z) : ∃ (xs : List S33) (p' z' : Int), Ev (fun k => spec_l22Draw.f k L p z) (xs, p', z') ∧ Gd L p' z' ∧ xs.length ≤ 100 := by
  obtain ⟨x, p1, z1, h1, g1, hx⟩ := good22_ok hL g
  obtain ⟨v, p2, z2, e2, g2, v0, v1⟩ := next_ok hL g1 40 (by omega) (by omega)
  unfold spec_l22Draw.f
  by_cases c0 : v = 0
  · obtain ⟨u, p3, z3, e3, g3⟩ := pick_ok hL g2 [8, (-1), 10, 7] (by decide) (by decide)
    refine ⟨x ++ [(⟨200, u⟩ : S33)], p3, z3, Ev.bind h1 ?_, g3, ?_⟩
    · simp only [e2, Option.bind_some, if_pos c0, e3, if_pos (show x.length < 8796093022208 by omega)]
      exact Ev.now _
    · rw [List.length_append, List.length_singleton]; omega
  by_cases c1 : v = 1
  · obtain ⟨u, p3, z3, e3, g3⟩ := pick_ok hL g2 [0, 100000, 100001] (by decide) (by decide)
    refine ⟨x ++ [(⟨u, 7⟩ : S33)], p3, z3, Ev.bind h1 ?_, g3, ?_⟩
    · simp only [e2, Option.bind_some, if_neg c0, if_pos c1, e3, if_pos (show x.length < 8796093022208 by omega)]
      exact Ev.now _
    · rw [List.length_append, List.length_singleton]; omega
  by_cases c2 : v = 2
  · obtain ⟨xs, p3, z3, h3, g3, hl⟩ := draw22_loop hL 41 x p2 z2 g2 (by omega) hx
    refine ⟨xs, p3, z3, Ev.bind h1 ?_, g3, hl⟩
    simp only [e2, Option.bind_some, if_neg c0, if_neg c1, if_pos c2]
    exact h3
  · refine ⟨x, p2, z2, Ev.bind h1 ?_, g2, by omega⟩
    simp only [e2, Option.bind_some, if_neg c0, if_neg c1, if_neg c2]
    exact Ev.now _
/-- Moves whose zones are short. -/
def mvOk (l : List S111) : Prop := ∀ y ∈ l, y.f1.size ≤ 100
theorem mvOk_sz {l : List S111} (h : mvOk l) : szOk l := fun j hj => by
  rw [rd_T111_nat hj]
  exact Nat.le_trans (h _ (List.getElem_mem hj)) (by decide)
theorem mvOk_snoc {l : List S111} {m : S111} (h : mvOk l) (hm : m.f1.size ≤ 100) : mvOk (l ++ [m]) := by
  intro y hy
  rcases List.mem_append.1 hy with h1 | h1
  · exact h y h1
  · rw [List.mem_singleton.1 h1]; exact hm
theorem mvOk_nil : mvOk ([] : List S111) := fun y hy => by simp at hy
theorem areMv_len {l : List S111} (h : areMv l = true) : l.length ≤ 40 := by
  unfold areMv at h
  simp only [Bool.and_eq_true, decide_eq_true_eq] at h
  exact h.2
theorem areMv_chg {l : List S111} (h : areMv l = true) : chg l l.length := by
  unfold areMv at h
  simp only [Bool.and_eq_true, decide_eq_true_eq] at h
  exact mvB_chg (fun j hj => (allD_iff _ _ _).1 h.1 j (Nat.zero_le _) (by omega))
theorem rdOf_sz (l : List ByteArray) (hz : ∀ y ∈ l, y.size ≤ 100) (m : Nat) (hm : m < l.length) : (rdOf ByteArray.empty l (m : Int)).size ≤ 100 := by
  rw [rdOf_nat hm]
  exact hz _ (List.getElem_mem hm)
theorem zone_ok {L : List Int} (hL : By L) {p z : Int} (g : Gd L p z) : ∃ (v : ByteArray) (p' z' : Int), spec_l20Zone.f L p z = some (v, p', z') ∧ Gd L p' z' ∧ v.size ≤ 100 := by
  obtain ⟨v, p', z', e, g', v0, v1⟩ := next_ok hL g 3 (by omega) (by omega)
  obtain ⟨m, rfl⟩ := Int.eq_ofNat_of_zero_le v0
  unfold spec_l20Zone.f
  simp only [Option.bind_some, e, if_pos v0]
  rw [if_pos (by simp only [List.length_cons, List.length_nil]; omega)]
  exact ⟨_, p', z', rfl, g', rdOf_sz _ (by decide) m (by simp only [List.length_cons, List.length_nil]; omega)⟩
theorem good01_ok {L : List Int} (hL : By L) {p z : Int} (g : Gd L p z) : ∃ (v : ByteArray) (p' z' : Int), spec_l01Good.f L p z = some (v, p', z') ∧ Gd L p' z' ∧ v.size ≤ 100 := by
  obtain ⟨v, p', z', e, g', v0, v1⟩ := next_ok hL g 12 (by omega) (by omega)
  obtain ⟨m, rfl⟩ := Int.eq_ofNat_of_zero_le v0
  unfold spec_l01Good.f
  simp only [Option.bind_some, e, if_pos v0]
  rw [if_pos (by simp only [List.length_cons, List.length_nil]; omega)]
  exact ⟨_, p', z', rfl, g', rdOf_sz _ (by decide) m (by simp only [List.length_cons, List.length_nil]; omega)⟩
theorem word_ok {L : List Int} (hL : By L) {p z : Int} (g : Gd L p z) : ∃ (v : ByteArray) (p' z' : Int), spec_l01DrawWord.f L p z = some (v, p', z') ∧ Gd L p' z' ∧ v.size ≤ 100 := by
  obtain ⟨v, p1, z1, e, g1, v0, v1⟩ := next_ok hL g 24 (by omega) (by omega)
  unfold spec_l01DrawWord.f
  by_cases c : v = 0
  · obtain ⟨u, p', z', e2, g', u0, u1⟩ := next_ok hL g1 6 (by omega) (by omega)
    obtain ⟨m, rfl⟩ := Int.eq_ofNat_of_zero_le u0
    simp only [Option.bind_some, e, if_pos c, e2, if_pos u0]
    rw [if_pos (by simp only [List.length_cons, List.length_nil]; omega)]
    exact ⟨_, p', z', rfl, g', rdOf_sz _ (by decide) m (by simp only [List.length_cons, List.length_nil]; omega)⟩
  · obtain ⟨u, p', z', e2, g', hu⟩ := good01_ok hL g1
    simp only [Option.bind_some, e, if_neg c, e2]
    exact ⟨u, p', z', rfl, g', hu⟩
theorem addmv_ok (l : List S111) (a : Int) (z : ByteArray) (c : Int) (hl : l.length ≤ 100) (hm : mvOk l) (hz : z.size ≤ 100) : ∃ (o : List S111) (d : Int), Ev (fun k => spec_AddMove.f k l a z c) (o, d) ∧ (d = 0 → areMv o = true ∧ mvOk o) := by
  unfold spec_AddMove.f
  have hs : mvOk (l ++ [(⟨a, z, c⟩ : S111)]) := mvOk_snoc hm hz
  have e1 := spec_AreMoves_ev l (by omega) (mvOk_sz hm)
  have e2 := spec_AreMoves_ev (l ++ [(⟨a, z, c⟩ : S111)]) (by rw [List.length_append, List.length_singleton]; omega) (mvOk_sz hs)
  cases h1 : areMv l with
  | false =>
    rw [h1] at e1
    refine ⟨[], 1, Ev.bind e1 ?_, fun h => absurd h (by decide)⟩
    simp only [Bool.false_eq_true, if_false]
    exact Ev.now _
  | true =>
    rw [h1] at e1
    by_cases c40 : (l.length : Int) = 40
    · refine ⟨[], 3, Ev.bind e1 ?_, fun h => absurd h (by decide)⟩
      simp only [if_true, if_pos c40]
      exact Ev.now _
    · cases h2 : areMv (l ++ [(⟨a, z, c⟩ : S111)]) with
      | false =>
        rw [h2] at e2
        refine ⟨[], 5, Ev.bind e1 ?_, fun h => absurd h (by decide)⟩
        simp only [if_true, if_neg c40, Option.bind_some, List.nil_append, List.length_nil, List.length_singleton, Nat.zero_add, if_pos (show l.length < 4398046511104 by omega), if_pos (show l.length + 1 < 4398046511104 by omega)]
        refine Ev.bind e2 ?_
        simp only [Bool.false_eq_true, if_false]
        exact Ev.now _
      | true =>
        rw [h2] at e2
        refine ⟨l ++ [(⟨a, z, c⟩ : S111)], 0, Ev.bind e1 ?_, fun _ => ⟨h2, hs⟩⟩
        simp only [if_true, if_neg c40, Option.bind_some, List.nil_append, List.length_nil, List.length_singleton, Nat.zero_add, if_pos (show l.length < 4398046511104 by omega), if_pos (show l.length + 1 < 4398046511104 by omega)]
        refine Ev.bind e2 ?_
        simp only [if_true]
        exact Ev.now _
theorem good20_loop {L : List Int} (hL : By L) : ∀ (c : Nat) (x : List S111) (t p z : Int), c ≤ 100 → Gd L p z → areMv x = true → mvOk x → ∃ (xs : List S111) (p' z' : Int), Ev (fun k => spec_l20Good.l0 k x t (c : Int) L p z) (xs, p', z') ∧ Gd L p' z' ∧ areMv xs = true ∧ mvOk xs := by
  intro c
  induction c with
  | zero =>
    intro x t p z hc g ha hm
    refine ⟨x, p, z, Ev.dn ?_, g, ha, hm⟩
    simp only [spec_l20Good.l0, if_neg (show ¬ ((0 : Nat) : Int) > 0 by omega)]
    exact Ev.now _
  | succ c ih =>
    intro x t p z hc g ha hm
    have h40 := areMv_len ha
    have hch := areMv_chg ha
    obtain ⟨zn, p1, z1, e1, g1, hz⟩ := zone_ok hL g
    obtain ⟨v2, p2, z2, e2, g2, _, _⟩ := next_ok hL g1 4 (by omega) (by omega)
    have hp := spec_l20People_ev x zn x.length (Nat.le_refl _) (by omega) hch
    have w : wrap64 (((c + 1 : Nat) : Int) - 1) = (c : Int) := by rw [wrap_id (by clear ih; omega) (by clear ih; omega)]; clear ih; omega
    have J2 : ∀ (p z ch : Int), Gd L p z → ∃ (xs : List S111) (p' z' : Int), Ev (fun k => spec_l20Good.j2 k x t ((c + 1 : Nat) : Int) L p z t zn ch) (xs, p', z') ∧ Gd L p' z' ∧ areMv xs = true ∧ mvOk xs := by
      intro p z ch g
      obtain ⟨o, d, ea, ho⟩ := addmv_ok x t zn ch (by omega) hm hz
      obtain ⟨v3, p3, z3, e3, g3, _, _⟩ := next_ok hL g 20000 (by omega) (by omega)
      obtain ⟨v4, p4, z4, e4, g4, _, _⟩ := next_ok hL g3 60000 (by omega) (by omega)
      obtain ⟨v5, p5, z5, e5, g5⟩ := pick_ok hL g4 [0, v3, v4] (by simp) (by simp)
      by_cases cd : d = 0
      · obtain ⟨ha2, hm2⟩ := ho cd
        obtain ⟨xs, p', z', h1, h2, h3, h4⟩ := ih o (wrap64 (t + v5)) p5 z5 (by omega) g5 ha2 hm2
        refine ⟨xs, p', z', Ev.dn ?_, h2, h3, h4⟩
        simp only [spec_l20Good.j2]
        refine Ev.bind ea ?_
        simp only [if_pos cd, e3, e4, e5, Option.bind_some, w]
        exact h1
      · obtain ⟨xs, p', z', h1, h2, h3, h4⟩ := ih x (wrap64 (t + v5)) p5 z5 (by omega) g5 ha hm
        refine ⟨xs, p', z', Ev.dn ?_, h2, h3, h4⟩
        simp only [spec_l20Good.j2]
        refine Ev.bind ea ?_
        simp only [if_neg cd, e3, e4, e5, Option.bind_some, w]
        exact h1
    have J1 : ∀ (b : Bool) (p z q ch : Int), Gd L p z → ∃ (xs : List S111) (p' z' : Int), Ev (fun k => spec_l20Good.j1 k x t ((c + 1 : Nat) : Int) q b L p z t zn ch) (xs, p', z') ∧ Gd L p' z' ∧ areMv xs = true ∧ mvOk xs := by
      intro b p z q ch g
      cases b with
      | true =>
        obtain ⟨v, p1, z1, e, g1⟩ := pick_ok hL g [q, 1, q] (by simp) (by simp)
        obtain ⟨xs, p', z', h1, r⟩ := J2 p1 z1 (wrap64 (-v)) g1
        refine ⟨xs, p', z', Ev.dn ?_, r⟩
        simp only [spec_l20Good.j1, if_true, e, Option.bind_some]
        exact h1
      | false =>
        obtain ⟨xs, p', z', h1, r⟩ := J2 p z ch g
        refine ⟨xs, p', z', Ev.dn ?_, r⟩
        simp only [spec_l20Good.j1, Bool.false_eq_true, if_false]
        exact h1
    by_cases cp : ppl x zn x.length > 0
    · obtain ⟨v3, p3, z3, e3, g3, _, _⟩ := next_ok hL g2 3 (by omega) (by omega)
      obtain ⟨xs, p', z', h1, r⟩ := J1 (decide (v3 > 0)) p3 z3 (ppl x zn x.length) (wrap64 (1 + v2)) g3
      refine ⟨xs, p', z', Ev.dn ?_, r⟩
      simp only [spec_l20Good.l0, if_pos (show ((c + 1 : Nat) : Int) > 0 by clear ih; omega), e1, e2, Option.bind_some]
      refine Ev.bind hp ?_
      simp only [if_pos cp, e3, Option.bind_some]
      exact h1
    · obtain ⟨xs, p', z', h1, r⟩ := J1 false p2 z2 (ppl x zn x.length) (wrap64 (1 + v2)) g2
      refine ⟨xs, p', z', Ev.dn ?_, r⟩
      simp only [spec_l20Good.l0, if_pos (show ((c + 1 : Nat) : Int) > 0 by clear ih; omega), e1, e2, Option.bind_some]
      refine Ev.bind hp ?_
      simp only [if_neg cp]
      exact h1
theorem good20_ok {L : List Int} (hL : By L) {p z : Int} (g : Gd L p z) : ∃ (xs : List S111) (p' z' : Int), Ev (fun k => spec_l20Good.f k L p z) (xs, p', z') ∧ Gd L p' z' ∧ areMv xs = true ∧ mvOk xs := by
  obtain ⟨v, p1, z1, e1, g1, _, _⟩ := next_ok hL g 5000 (by omega) (by omega)
  obtain ⟨q, p2, z2, e2, g2, q0, q1⟩ := next_ok hL g1 9 (by omega) (by omega)
  obtain ⟨m, rfl⟩ := Int.eq_ofNat_of_zero_le q0
  obtain ⟨xs, p', z', h1, r⟩ := good20_loop hL m [] v p2 z2 (by omega) g2 (by decide) mvOk_nil
  refine ⟨xs, p', z', ?_, r⟩
  unfold spec_l20Good.f
  simp only [e1, e2, Option.bind_some]
  exact h1
theorem draw20_loop {L : List Int} (hL : By L) : ∀ (d : Nat) (x : List S111) (p z : Int), Gd L p z → 41 ≤ x.length + d → x.length ≤ 90 → mvOk x → ∃ (xs : List S111) (p' z' : Int), Ev (fun k => spec_l20Draw.l0 k x L p z) (xs, p', z') ∧ Gd L p' z' ∧ xs.length ≤ 100 ∧ mvOk xs := by
  intro d
  induction d with
  | zero =>
    intro x p z g hd hx hm
    obtain ⟨v, p1, z1, e1, g1, v0, v1⟩ := next_ok hL g 2 (by omega) (by omega)
    have w : wrap64 (40 + v) = 40 + v := wrap_id (by omega) (by omega)
    refine ⟨x, p1, z1, Ev.dn ?_, g1, by omega, hm⟩
    simp only [spec_l20Draw.l0, e1, Option.bind_some, w, if_neg (show ¬ (x.length : Int) < 40 + v by omega)]
    exact Ev.now _
  | succ d ih =>
    intro x p z g hd hx hm
    obtain ⟨v, p1, z1, e1, g1, v0, v1⟩ := next_ok hL g 2 (by omega) (by omega)
    have w : wrap64 (40 + v) = 40 + v := wrap_id (by omega) (by omega)
    by_cases c : (x.length : Int) < 40 + v
    · obtain ⟨xs, p', z', h1, h2⟩ := ih (x ++ [(⟨900000, (⟨#[102, 105, 101, 108, 100]⟩ : ByteArray), 1⟩ : S111)]) p1 z1 g1 (by rw [List.length_append, List.length_singleton]; omega) (by rw [List.length_append, List.length_singleton]; omega) (mvOk_snoc hm (by decide))
      refine ⟨xs, p', z', Ev.dn ?_, h2⟩
      simp only [spec_l20Draw.l0, e1, Option.bind_some, w, if_pos c, if_pos (show x.length < 4398046511104 by clear ih; omega)]
      exact h1
    · refine ⟨x, p1, z1, Ev.dn ?_, g1, by omega, hm⟩
      simp only [spec_l20Draw.l0, e1, Option.bind_some, w, if_neg c]
      exact Ev.now _
theorem draw20_ok {L : List Int} (hL : By L) {p z : Int} (g : Gd L p z) : ∃ (xs : List S111) (p' z' : Int), Ev (fun k => spec_l20Draw.f k L p z) (xs, p', z') ∧ Gd L p' z' ∧ xs.length ≤ 100 ∧ mvOk xs := by
  obtain ⟨x, p1, z1, h1, g1, ha, hm⟩ := good20_ok hL g
  have h40 := areMv_len ha
  obtain ⟨v, p2, z2, e2, g2, v0, v1⟩ := next_ok hL g1 30 (by omega) (by omega)
  unfold spec_l20Draw.f
  by_cases c0 : v = 0
  · obtain ⟨u, p3, z3, e3, g3⟩ := pick_ok hL g2 [0, 10000000, 10000001] (by decide) (by decide)
    obtain ⟨zn, p4, z4, e4, g4, hz⟩ := zone_ok hL g3
    obtain ⟨q, p5, z5, e5, g5⟩ := pick_ok hL g4 [(-1), 0, 1000, 1001] (by decide) (by decide)
    refine ⟨x ++ [(⟨u, zn, q⟩ : S111)], p5, z5, Ev.bind h1 ?_, g5, ?_, mvOk_snoc hm hz⟩
    · simp only [e2, Option.bind_some, if_pos c0, e3, e4, e5, if_pos (show x.length < 4398046511104 by omega)]
      exact Ev.now _
    · rw [List.length_append, List.length_singleton]; omega
  by_cases c1 : v = 1
  · obtain ⟨xs, p3, z3, h3, g3, r⟩ := draw20_loop hL 41 x p2 z2 g2 (by omega) (by omega) hm
    refine ⟨xs, p3, z3, Ev.bind h1 ?_, g3, r⟩
    simp only [e2, Option.bind_some, if_neg c0, if_pos c1]
    exact h3
  · refine ⟨x, p2, z2, Ev.bind h1 ?_, g2, by omega, hm⟩
    simp only [e2, Option.bind_some, if_neg c0, if_neg c1]
    exact Ev.now _
theorem times_loop {L : List Int} (hL : By L) : ∀ (c : Nat) (x : List Int) (p z : Int), Gd L p z → x.length + c ≤ 50 → ∃ (xs : List Int) (p' z' : Int), Ev (fun k => spec_l22DrawTimes.l0 k x (c : Int) L p z) (xs, p', z') ∧ Gd L p' z' ∧ xs.length ≤ 100 := by
  intro c
  induction c with
  | zero =>
    intro x p z g hx
    obtain ⟨v, p1, z1, e1, g1, v0, v1⟩ := next_ok hL g 40 (by omega) (by omega)
    by_cases c0 : v = 0
    · obtain ⟨u, p2, z2, e2, g2⟩ := pick_ok hL g1 [(-1), 10000000, 10000001] (by decide) (by decide)
      refine ⟨x ++ [u], p2, z2, Ev.dn ?_, g2, by rw [List.length_append, List.length_singleton]; omega⟩
      simp only [spec_l22DrawTimes.l0, if_neg (show ¬ ((0 : Nat) : Int) > 0 by omega), e1, Option.bind_some, if_pos c0, e2, if_pos (show x.length < 17592186044416 by omega)]
      exact Ev.now _
    by_cases c1 : v = 1
    · obtain ⟨u, p2, z2, e2, g2, u0, u1⟩ := next_ok hL g1 2 (by omega) (by omega)
      have w : wrap64 (20 + u) = 20 + u := wrap_id (by omega) (by omega)
      refine ⟨List.replicate (20 + u).toNat 0, p2, z2, Ev.dn ?_, g2, by rw [List.length_replicate]; omega⟩
      simp only [spec_l22DrawTimes.l0, if_neg (show ¬ ((0 : Nat) : Int) > 0 by omega), e1, Option.bind_some, if_neg c0, if_pos c1, e2, w, if_pos (show 0 ≤ 20 + u by omega), if_pos (show (20 + u).toNat ≤ 35184372088832 by omega)]
      exact Ev.now _
    · refine ⟨x, p1, z1, Ev.dn ?_, g1, by omega⟩
      simp only [spec_l22DrawTimes.l0, if_neg (show ¬ ((0 : Nat) : Int) > 0 by omega), e1, Option.bind_some, if_neg c0, if_neg c1]
      exact Ev.now _
  | succ c ih =>
    intro x p z g hx
    obtain ⟨v, p1, z1, e1, g1, v0, v1⟩ := next_ok hL g 5000 (by omega) (by omega)
    obtain ⟨xs, p', z', h1, h2⟩ := ih (x ++ [v]) p1 z1 g1 (by rw [List.length_append, List.length_singleton]; omega)
    refine ⟨xs, p', z', Ev.dn ?_, h2⟩
    have w : wrap64 (((c + 1 : Nat) : Int) - 1) = (c : Int) := by rw [wrap_id (by clear ih; omega) (by clear ih; omega)]; clear ih; omega
    simp only [spec_l22DrawTimes.l0, if_pos (show ((c + 1 : Nat) : Int) > 0 by clear ih; omega), e1, Option.bind_some, if_pos (show x.length < 17592186044416 by clear ih; omega), w]
    exact h1
theorem times_ok {L : List Int} (hL : By L) {p z : Int} (g : Gd L p z) : ∃ (xs : List Int) (p' z' : Int), Ev (fun k => spec_l22DrawTimes.f k L p z) (xs, p', z') ∧ Gd L p' z' ∧ xs.length ≤ 100 := by
  obtain ⟨q, p2, z2, e2, g2, q0, q1⟩ := next_ok hL g 8 (by omega) (by omega)
  obtain ⟨m, rfl⟩ := Int.eq_ofNat_of_zero_le q0
  obtain ⟨xs, p', z', h1, r⟩ := times_loop hL m [] p2 z2 g2 (by simp only [List.length_nil]; omega)
  refine ⟨xs, p', z', ?_, r⟩
  unfold spec_l22DrawTimes.f
  simp only [e2, Option.bind_some]
  exact h1
theorem fs_j1 {L : List Int} (hL : By L) (ts : List Int) (l : List S33) (mv : List S111) (p z : Int) (g : Gd L p z) : ∃ zs : List ByteArray, Ev (fun k => spec_DrawFiredSafely.j1 k ts l mv L p z) (ts, l, mv, zs) ∧ zs.length ≤ 3 ∧ ∀ y ∈ zs, y.size ≤ 100 := by
  obtain ⟨v, p1, z1, e1, g1, v0, v1⟩ := next_ok hL g 4 (by omega) (by omega)
  obtain ⟨u, p2, z2, e2, g2, _, _⟩ := next_ok hL g1 30 (by omega) (by omega)
  have hv : v ≤ (([(⟨#[102, 105, 101, 108, 100]⟩ : ByteArray), (⟨#[98, 97, 110, 107]⟩ : ByteArray), (⟨#[114, 105, 118, 101, 114]⟩ : ByteArray)] : List ByteArray).length : Int) := by simp only [List.length_cons, List.length_nil]; omega
  have hall : ∀ y ∈ ([(⟨#[102, 105, 101, 108, 100]⟩ : ByteArray), (⟨#[98, 97, 110, 107]⟩ : ByteArray), (⟨#[114, 105, 118, 101, 114]⟩ : ByteArray)] : List ByteArray), y.size ≤ 100 := by decide
  by_cases c : u = 0
  · obtain ⟨wd, p3, z3, e3, g3, hw⟩ := word_ok hL g2
    refine ⟨[wd], Ev.dn ?_, by simp, fun y hy => by rw [List.mem_singleton.1 hy]; exact hw⟩
    simp only [spec_DrawFiredSafely.j1, Option.bind_some, e1, if_pos v0, if_pos hv, e2, if_pos c, e3]
    exact Ev.now _
  · refine ⟨([(⟨#[102, 105, 101, 108, 100]⟩ : ByteArray), (⟨#[98, 97, 110, 107]⟩ : ByteArray), (⟨#[114, 105, 118, 101, 114]⟩ : ByteArray)] : List ByteArray).take v.toNat, Ev.dn ?_, ?_, fun y hy => hall y (List.mem_of_mem_take hy)⟩
    · simp only [spec_DrawFiredSafely.j1, Option.bind_some, e1, if_pos v0, if_pos hv, e2, if_neg c]
      exact Ev.now _
    · rw [List.length_take]; omega
theorem dMis {L : List Int} (hL : By L) : ∃ (ts : List Int) (l : List S33) (mv : List S111) (zs : List ByteArray), Ev (fun k => spec_DrawMissedCues.f k L) (ts, l, mv, zs) ∧ ts.length ≤ 100 ∧ l.length ≤ 100 ∧ mv.length ≤ 100 ∧ mvOk mv ∧ zs.length ≤ 3 ∧ ∀ y ∈ zs, y.size ≤ 100 := by
  obtain ⟨z, h0, g0⟩ := from_ev hL
  obtain ⟨ts, p1, z1, h1, g1, n1⟩ := times_ok hL g0
  obtain ⟨l, p2, z2, h2, g2, n2⟩ := draw22_ok hL g1
  obtain ⟨mv, p3, z3, h3, g3, n3, hm⟩ := draw20_ok hL g2
  obtain ⟨v, p4, z4, e4, g4, v0, v1⟩ := next_ok hL g3 3 (by omega) (by omega)
  obtain ⟨u, p5, z5, e5, g5, _, _⟩ := next_ok hL g4 3000 (by omega) (by omega)
  have J0 : ∀ b : Bool, ∃ (mv' : List S111) (zs : List ByteArray), Ev (fun k => spec_DrawFiredSafely.j0 k ts l mv b L p4 z4) (ts, l, mv', zs) ∧ mv'.length ≤ 100 ∧ mvOk mv' ∧ zs.length ≤ 3 ∧ ∀ y ∈ zs, y.size ≤ 100 := by
    intro b
    cases b with
    | true =>
      obtain ⟨zs, h, r⟩ := fs_j1 hL ts l [(⟨wrap64 (1000 + u), (⟨#[102, 105, 101, 108, 100]⟩ : ByteArray), 2⟩ : S111)] p5 z5 g5
      refine ⟨[(⟨wrap64 (1000 + u), (⟨#[102, 105, 101, 108, 100]⟩ : ByteArray), 2⟩ : S111)], zs, Ev.dn ?_, ?_, ?_, r⟩
      · simp only [spec_DrawFiredSafely.j0, if_true, e5, Option.bind_some]
        exact h
      · simp
      · intro y hy
        rw [List.mem_singleton.1 hy]
        show (5 : Nat) ≤ 100
        decide
    | false =>
      obtain ⟨zs, h, r⟩ := fs_j1 hL ts l mv p4 z4 g4
      refine ⟨mv, zs, Ev.dn ?_, n3, hm, r⟩
      simp only [spec_DrawFiredSafely.j0, Bool.false_eq_true, if_false]
      exact h
  by_cases c : v > 0
  · obtain ⟨mv', zs, h, r1, r2, r3, r4⟩ := J0 (decide ((mv.length : Int) > 0))
    refine ⟨ts, l, mv', zs, ?_, n1, n2, r1, r2, r3, r4⟩
    have hd : Ev (fun k => spec_DrawFiredSafely.f k L) (ts, l, mv', zs) := by
      unfold spec_DrawFiredSafely.f
      refine Ev.bind h0 (Ev.bind h1 (Ev.bind h2 (Ev.bind h3 ?_)))
      simp only [e4, Option.bind_some, if_pos c]
      exact h
    unfold spec_DrawMissedCues.f
    exact Ev.bind hd (Ev.now _)
  · obtain ⟨mv', zs, h, r1, r2, r3, r4⟩ := J0 false
    refine ⟨ts, l, mv', zs, ?_, n1, n2, r1, r2, r3, r4⟩
    have hd : Ev (fun k => spec_DrawFiredSafely.f k L) (ts, l, mv', zs) := by
      unfold spec_DrawFiredSafely.f
      refine Ev.bind h0 (Ev.bind h1 (Ev.bind h2 (Ev.bind h3 ?_)))
      simp only [e4, Option.bind_some, if_neg c]
      exact h
    unfold spec_DrawMissedCues.f
    exact Ev.bind hd (Ev.now _)
theorem mem_mis (o : List Int) (v : Int) : ∀ d i a, v ∈ mis o d i a ↔ v ∈ a ∨ ∃ q : Nat, i ≤ q ∧ q < i + d ∧ rd o (q : Int) < 0 ∧ v = (q : Int) := by
  intro d
  induction d with
  | zero =>
    intro i a
    simp only [mis]
    refine ⟨.inl, fun h => h.elim id ?_⟩
    rintro ⟨q, h1, h2, _⟩
    exact absurd h2 (by omega)
  | succ d ih =>
    intro i a
    simp only [mis]
    rw [ih]
    constructor
    · rintro (h | ⟨q, h1, h2, h3, h4⟩)
      · by_cases c : rd o (i : Int) < 0
        · rw [if_pos c] at h
          rcases List.mem_append.1 h with h | h
          · exact .inl h
          · exact .inr ⟨i, Nat.le_refl _, by omega, c, List.mem_singleton.1 h⟩
        · rw [if_neg c] at h; exact .inl h
      · exact .inr ⟨q, by omega, by omega, h3, h4⟩
    · rintro (h | ⟨q, h1, h2, h3, h4⟩)
      · left
        split
        · exact List.mem_append.2 (.inl h)
        · exact h
      · by_cases e : q = i
        · subst e
          left
          rw [if_pos h3]
          exact List.mem_append.2 (.inr (List.mem_singleton.2 h4))
        · exact .inr ⟨q, by omega, by omega, h3, h4⟩
theorem fq_two (l : List S33) (mv : List S111) (zs : List ByteArray) (x : Int) (h0 : 0 ≤ x) (h1 : x ≤ 10000000) : fq l mv zs x = -1 ∨ 0 ≤ fq l mv zs x ∧ fq l [] [] x = fq l mv zs x := by
  obtain ⟨b0, _, _⟩ := tkq_bd h0 h1
  unfold fq
  by_cases c : fireZ l mv zs (tkq x) = true
  · right
    rw [if_pos c]
    have c2 : fireZ l [] [] (tkq x) = true := by
      unfold fireZ at c ⊢
      simp only [Bool.and_eq_true] at c ⊢
      exact ⟨c.1, rfl⟩
    rw [if_pos c2]
    exact ⟨b0, rfl⟩
  · left
    rw [if_neg c]
theorem fired_loop (ts : List Int) (l : List S33) (mv : List S111) (zs : List ByteArray) (ht : tsOk ts) : ∀ d i, i + d = ts.length → Ev (fun k => laws_FnFired.l0 k ts (mis (firR l mv zs ts) ts.length 0 []) 0 (firR l mv zs ts) (firR l [] [] ts) 0 (i : Int)) true := by
  have hl := mis_len (firR l mv zs ts) ts.length 0 []
  obtain ⟨t20, tbd⟩ := ht
  obtain ⟨h1, h2⟩ := firR_is l mv zs ts
  obtain ⟨h3, h4⟩ := firR_is l [] [] ts
  obtain ⟨M, hM⟩ : ∃ M, mis (firR l mv zs ts) ts.length 0 [] = M := ⟨_, rfl⟩
  obtain ⟨F, hF⟩ : ∃ F, firR l mv zs ts = F := ⟨_, rfl⟩
  obtain ⟨T, hT⟩ : ∃ T, firR l [] [] ts = T := ⟨_, rfl⟩
  rw [hM] at hl ⊢
  rw [hF] at h1 h2 hM ⊢
  rw [hT] at h3 h4 ⊢
  have hl2 : M.length ≤ 1000 := by simp only [List.length_nil] at hl; omega
  intro d
  induction d with
  | zero =>
    intro i hi
    refine Ev.dn ?_
    simp only [laws_FnFired.l0, if_true, decide_eq_false (show ¬ (i : Int) < (ts.length : Int) by omega)]
    refine Ev.dn ?_
    simp only [laws_FnFired.j2, Bool.false_eq_true, if_false]
    exact Ev.now _
  | succ d ih =>
    intro i hi
    have hi2 : i < ts.length := by omega
    obtain ⟨bb, eH, hb⟩ := hasI_ev M (i : Int) hl2
    have hs : wrap64 ((i : Int) + 1) = ((i + 1 : Nat) : Int) := wrap_succ hi2 (by omega)
    have hd : rd F (i : Int) = -1 ∨ 0 ≤ rd F (i : Int) ∧ rd T (i : Int) = rd F (i : Int) := by
      rw [h2 i hi2, h4 i hi2]
      exact fq_two l mv zs _ (tbd i hi2).1 (tbd i hi2).2
    have hm : bb = (rd F (i : Int) == -1) := by
      rw [Bool.eq_iff_iff, hb, ← hM, mem_mis, beq_iff_eq]
      constructor
      · rintro (h | ⟨q, q1, q2, q3, q4⟩)
        · exact absurd h (by simp)
        · have e : q = i := by omega
          subst e
          rcases hd with e | ⟨e, _⟩
          · exact e
          · omega
      · intro e
        exact .inr ⟨i, Nat.zero_le _, by omega, by omega, rfl⟩
    refine Ev.dn ?_
    simp only [laws_FnFired.l0, if_true, decide_eq_true (show (i : Int) < (ts.length : Int) by omega)]
    refine Ev.dn ?_
    simp only [laws_FnFired.j2, if_true]
    refine Ev.bind eH ?_
    simp only [hm, bne_self_eq_false, if_pos (show (0 : Int) ≤ (i : Int) by omega), if_pos (show (i : Int) < (F.length : Int) by omega), Bool.false_eq_true, if_false, hs]
    by_cases c : rd F (i : Int) ≥ 0
    · rcases hd with e | ⟨_, e⟩
      · exact absurd c (by omega)
      · simp only [if_pos c, if_pos (show (i : Int) < (T.length : Int) by omega), if_pos e]
        exact ih (i + 1) (by omega)
    · simp only [if_neg c]
      exact ih (i + 1) (by omega)
theorem FnFired : ∀ (l0 : List Int), (l0.length ≤ reachBytes ∧ ∀ y ∈ l0, (Lit.int .u8 y).wf = true) → ∃ k, laws_FnFired.f k l0 = some true := by
  intro L ⟨_, hb⟩
  apply Ev.rounds
  unfold laws_FnFired.f laws_big.f
  simp only [Option.bind_some]
  by_cases hbig : (L.length : Int) > 4096
  · simp only [decide_eq_true hbig, if_true]; exact Ev.now _
  simp only [decide_eq_false hbig, Bool.false_eq_true, if_false]
  have hL : By L := by
    refine ⟨by omega, fun j hj => ?_⟩
    rw [show rd L (j : Int) = L[j] by simp [rd, hj]]
    have := hb _ (List.getElem_mem hj)
    simp only [Lit.wf, Bool.and_eq_true, decide_eq_true_eq] at this
    have m1 : IntKind.u8.min = 0 := by decide
    have m2 : IntKind.u8.max = 255 := by decide
    omega
  obtain ⟨ts, l, mv, zs, d1, n1, n2, n3, hmv, n4, hzs⟩ := dMis hL
  have hz := mvOk_sz hmv
  have hq : zsOk zs := fun y h => Nat.le_trans (hzs y h) (by decide)
  have i1 := impl_mc_ev ts l mv zs (by omega) (by omega) (by omega) (by omega) hz hq
  have s1 := spec_mc_ev ts l mv zs (by omega) (by omega) (by omega) (by omega) hz hq
  have i2 := impl_fs_ev ts l mv zs (by omega) (by omega) (by omega) (by omega) hz hq
  have s2 := spec_fs_ev ts l mv zs (by omega) (by omega) (by omega) (by omega) hz hq
  have i3 := impl_fticks_ev ts l (by omega) (by omega)
  have s3 := spec_fticks_ev ts l (by omega) (by omega)
  have k1 := mcR_len ts l mv zs
  have k2 := fsR_len ts l mv zs
  have k3 := fsR_len ts l [] []
  refine Ev.bind d1 (Ev.bind i1 (Ev.bind s1 (Ev.bind i2 (Ev.bind s2 (Ev.bind i3 (Ev.bind s3 ?_))))))
  simp only [if_true]
  refine Ev.bind (likeInts_refl (mcR ts l mv zs).1 (by omega)) ?_
  simp only [if_true]
  refine Ev.bind (likeInts_refl (fsR ts l mv zs).1 (by omega)) ?_
  simp only [if_true]
  refine Ev.bind (likeInts_refl (fsR ts l [] []).1 (by omega)) ?_
  simp only [if_true]
  refine Ev.dn ?_
  by_cases c : firC ts l mv zs = true
  · obtain ⟨a, b, e⟩ := firC_parts c
    have c2 : firC ts l [] [] = true := by
      rw [firC_nil]
      unfold firC at c
      simp only [Bool.and_eq_true] at c ⊢
      exact ⟨c.1, c.2.1⟩
    have r1 : mcR ts l mv zs = (mis (firR l mv zs ts) ts.length 0 [], 0) := by unfold mcR; rw [if_pos c]
    have r2 : fsR ts l mv zs = (firR l mv zs ts, 0) := by unfold fsR; rw [if_pos c]
    have r3 : fsR ts l [] [] = (firR l [] [] ts, 0) := by unfold fsR; rw [if_pos c2]
    rw [r1, r2, r3]
    simp only [laws_FnFired.j0, bne_self_eq_false, Bool.false_eq_true, if_false]
    exact fired_loop ts l mv zs a ts.length 0 (by omega)
  · have r1 : mcR ts l mv zs = ([], 1) := by unfold mcR; rw [if_neg c]
    have r2 : fsR ts l mv zs = ([], 1) := by unfold fsR; rw [if_neg c]
    rw [r1, r2]
    simp only [laws_FnFired.j0, bne_self_eq_false, Bool.false_eq_true, if_false]
    refine Ev.dn ?_
    simp only [laws_FnFired.l0, if_neg (show ¬ (1 : Int) = 0 by decide)]
    refine Ev.dn ?_
    simp only [laws_FnFired.j2, Bool.false_eq_true, if_false]
    exact Ev.now _
end Go.Proofs.Ytjgbncpbenmjoaa.Pure
