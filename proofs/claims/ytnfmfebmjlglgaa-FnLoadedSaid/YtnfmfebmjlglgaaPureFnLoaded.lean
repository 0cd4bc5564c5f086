/- The law FnLoaded as a statement over numbers and lists, proved; no condition but the sizes and ranges that every input has. -/
import Derived.Test.YtnfmfebmjlglgaaF35
import Derived.Test.YtnfmfebmjlglgaaEv
namespace Go.Proofs.Ytnfmfebmjlglgaa.Pure
open Go.RowKit Go.Proofs.Ytnfmfebmjlglgaa.Pall Go.Proofs.YtnfmfebmjlglgaaW.PrintWords
set_option linter.unusedSimpArgs false
set_option linter.unusedVariables false
def wdB (s : ByteArray) (j : Nat) : Bool := !decide (bt s (j : Int) < 97) && !decide (bt s (j : Int) > 122)
def isWd (s : ByteArray) : Bool := allD (wdB s) 0 s.size && (decide (1 ≤ s.size) && decide (s.size ≤ 16))
theorem spec_IsWord_ev (s : ByteArray) (hn : s.size ≤ 9223372036854775807) : Ev (fun k => spec_IsWord.f k s) (isWd s) := by
  have h := Ev.allLoop (l := fun k i => spec_IsWord.l0 k s i) (n := s.size) (wdB s) false (decide (1 ≤ s.size) && decide (s.size ≤ 16))
    (fun i hi => Evt.all fun k => by
      simp only [spec_IsWord.l0]
      rw [if_pos (by omega), if_pos (by omega), wrap_succ hi hn]
      by_cases h1 : bt s (i : Int) < 97 <;> by_cases h2 : bt s (i : Int) > 122 <;> simp [wdB, h1, h2])
    (Evt.all fun k => by
      simp only [spec_IsWord.l0, spec_l01In.f]
      rw [if_neg (by omega)]
      by_cases h1 : 1 ≤ s.size
      · have e2 : decide (s.size ≤ 16) = decide ((s.size : Int) ≤ 16) := decide_eq_decide.2 (by omega)
        rw [if_pos (by omega), Option.bind_some, e2, decide_eq_true h1, Bool.true_and]
      · rw [if_neg (by omega), Option.bind_some, decide_eq_false h1, Bool.false_and]) s.size 0 (by omega)
  refine h.eq ?_
  unfold isWd
  cases allD (wdB s) 0 s.size <;> simp
theorem impl_IsWord_ev (s : ByteArray) (hn : s.size ≤ 9223372036854775807) : Ev (fun k => impl_IsWord.f k s) (isWd s) := by
  have hb : Ev (fun k => impl_IsWord.j0 k s true) false := Ev.dn (by simp only [impl_IsWord.j0]; exact Ev.now _)
  unfold impl_IsWord.f isWd
  by_cases h1 : (s.size : Int) < 1
  · simp only [if_pos h1]
    refine hb.eq ?_
    rw [decide_eq_false (show ¬ 1 ≤ s.size by omega)]
    simp
  simp only [if_neg h1]
  rw [decide_eq_true (show 1 ≤ s.size by omega)]
  by_cases h2 : s.size ≤ 16
  · rw [decide_eq_false (show ¬ (s.size : Int) > 16 by omega), decide_eq_true h2]
    refine Ev.dn ?_
    simp only [impl_IsWord.j0, Bool.false_eq_true, if_false]
    have h := Ev.allLoop (l := fun k i => impl_IsWord.l0 k s i) (n := s.size) (wdB s) false true
      (fun i hi => Evt.all fun k => by
        simp only [impl_IsWord.l0]
        rw [if_pos (by omega), if_pos (by omega), wrap_succ hi hn]
        by_cases h1 : bt s (i : Int) < 97 <;> by_cases h2 : bt s (i : Int) > 122 <;> simp [wdB, h1, h2])
      (Evt.all fun k => by
        simp only [impl_IsWord.l0]
        rw [if_neg (by omega)]) s.size 0 (by omega)
    refine h.eq ?_
    cases allD (wdB s) 0 s.size <;> simp
  · rw [decide_eq_true (show (s.size : Int) > 16 by omega), decide_eq_false h2]
    refine hb.eq (by simp)
def rin (x a b : Int) : Bool := decide (a ≤ x) && decide (x ≤ b)
theorem l01In_eq (x a b : Int) : spec_l01In.f x a b = some (rin x a b) := by
  unfold spec_l01In.f rin
  by_cases h : a ≤ x
  · rw [if_pos h, decide_eq_true h, Bool.true_and]
  · rw [if_neg h, decide_eq_false h, Bool.false_and]
theorem within_eq (x a b : Int) : impl_within.f x a b = some (rin x a b) := by
  unfold impl_within.f rin
  by_cases h : a ≤ x
  · rw [if_pos h, decide_eq_true h, Bool.true_and]
  · rw [if_neg h, decide_eq_false h, Bool.false_and]
theorem rin_iff {x a b : Int} : rin x a b = true ↔ a ≤ x ∧ x ≤ b := by simp [rin]
def allIn (l : List Int) (a b : Int) : Bool := allD (fun j => rin (rd l (j : Int)) a b) 0 l.length
theorem allIn_iff (l : List Int) (a b : Int) : allIn l a b = true ↔ ∀ j : Nat, j < l.length → a ≤ rd l (j : Int) ∧ rd l (j : Int) ≤ b := by
  unfold allIn
  rw [allD_iff]
  simp only [rin_iff]
  exact ⟨fun h j hj => h j (Nat.zero_le _) (by omega), fun h j _ hj => h j (by omega)⟩
theorem allWithin_ev (l : List Int) (a b : Int) (hn : l.length ≤ 9223372036854775807) : Ev (fun k => impl_allWithin.f k l a b) (allIn l a b) := by
  unfold impl_allWithin.f
  have h := Ev.allLoop (l := fun k i => impl_allWithin.l0 k a b l (l.length : Int) i) (n := l.length) (fun j => rin (rd l (j : Int)) a b) false true
    (fun i hi => Evt.all fun k => by
      simp only [impl_allWithin.l0, within_eq, Option.bind_some]
      rw [if_pos (by omega), if_pos (by omega), if_pos (by omega), wrap_succ hi hn])
    (Evt.all fun k => by
      simp only [impl_allWithin.l0]
      rw [if_neg (by omega)]) l.length 0 (by omega)
  refine h.eq ?_
  unfold allIn
  cases allD (fun j => rin (rd l (j : Int)) a b) 0 l.length <;> simp
theorem toList_loop (s : ByteArray) : ∀ d i r, i + d = s.size → ByteArray.toList.loop s i r = r.reverse ++ s.data.toList.drop i := by
  intro d
  induction d with
  | zero =>
    intro i r h
    have e : s.data.toList.drop i = [] := List.drop_of_length_le (by rw [Array.length_toList]; exact Nat.le_of_eq h.symm)
    rw [ByteArray.toList.loop, if_neg (by omega), e, List.append_nil]
  | succ d ih =>
    intro i r h
    have hi : i < s.data.toList.length := by rw [Array.length_toList]; show i < s.size; omega
    rw [ByteArray.toList.loop, if_pos (by omega), ih (i + 1) _ (by omega), List.drop_eq_getElem_cons hi]
    simp [ByteArray.get!]
    exact getElem!_pos s.data i (by simpa using hi)
theorem toList_data (s : ByteArray) : s.toList = s.data.toList := by
  unfold ByteArray.toList
  rw [toList_loop s s.size 0 [] (by omega)]
  simp
theorem toList_len (s : ByteArray) : s.toList.length = s.size := by rw [toList_data, Array.length_toList]; rfl
theorem rd_T67_nat {l : List S67} {i : Nat} (h : i < l.length) : rd_T67 l (i : Int) = l[i] := by simp [rd_T67, h]
def artB (x : S67) : Bool := isWd x.f0 && rin x.f1 0 3 && rin x.f2 20 300 && rin x.f3 0 10000 && rin x.f4 0 x.f3 && rin x.f5 1 50 && rin x.f6 0 10000 && rin x.f7 1 100000 && rin x.f8 0 3
theorem spec_IsArticle_ev (x : S67) (h : x.f0.size ≤ 9223372036854775807) : Ev (fun k => spec_IsArticle.f k x.f0 x.f1 x.f2 x.f3 x.f4 x.f5 x.f6 x.f7 x.f8) (artB x) := by
  unfold spec_IsArticle.f artB
  refine Ev.bind (spec_IsWord_ev x.f0 h) ?_
  simp only [l01In_eq, Option.bind_some]
  cases isWd x.f0 <;> cases rin x.f1 0 3 <;> cases rin x.f2 20 300 <;> cases rin x.f3 0 10000 <;> cases rin x.f4 0 x.f3 <;> cases rin x.f5 1 50 <;> cases rin x.f6 0 10000 <;> cases rin x.f7 1 100000 <;> exact Ev.now _
theorem impl_IsArticle_ev (x : S67) (h : x.f0.size ≤ 9223372036854775807) : Ev (fun k => impl_IsArticle.f k x.f0 x.f1 x.f2 x.f3 x.f4 x.f5 x.f6 x.f7 x.f8) (artB x) := by
  unfold impl_IsArticle.f artB
  refine Ev.bind (impl_IsWord_ev x.f0 h) ?_
  simp only [within_eq, Option.bind_some]
  cases isWd x.f0 <;> cases rin x.f1 0 3 <;> cases rin x.f2 20 300 <;> cases rin x.f3 0 10000 <;> cases rin x.f4 0 x.f3 <;> cases rin x.f5 1 50 <;> cases rin x.f6 0 10000 <;> cases rin x.f7 1 100000 <;> exact Ev.now _
def artI (l : List S67) (j : Nat) : Bool := artB (rd_T67 l (j : Int)) && (decide (j = 0) || Op.bytesLess (rd_T67 l ((j - 1 : Nat) : Int)).f0.toList (rd_T67 l (j : Int)).f0.toList)
def areArt (l : List S67) : Bool := allD (artI l) 0 l.length && decide (l.length ≤ 12)
def szOkA (l : List S67) : Prop := ∀ j : Nat, j < l.length → (rd_T67 l (j : Int)).f0.size ≤ 9223372036854775807
theorem spec_AreArticles_ev (l : List S67) (hn : l.length ≤ 1000000) (hz : szOkA l) : Ev (fun k => spec_AreArticles.f k l) (areArt l) := by
  have h := Ev.allLoop (l := fun k i => spec_AreArticles.l0 k l i) (n := l.length) (artI l) false (decide (l.length ≤ 12))
    (fun i hi => (spec_IsArticle_ev _ (hz i hi)).evt fun k hk => by
      simp only [spec_AreArticles.l0]
      rw [if_pos (by omega), if_pos (by omega), hk, Option.bind_some, wrap_succ hi (by omega)]
      unfold artI
      by_cases h0 : i = 0
      · rw [if_neg (show ¬ (i : Int) > 0 by omega), decide_eq_true h0, Bool.true_or, Bool.and_true]
      · rw [if_pos (show (i : Int) > 0 by omega), wrap_pred hi (by omega) (by omega), if_pos (show (0 : Int) ≤ ((i - 1 : Nat) : Int) by omega), if_pos (show ((i - 1 : Nat) : Int) < (l.length : Int) by omega), decide_eq_false h0, Bool.false_or]
        cases artB (rd_T67 l (i : Int)) <;> simp)
    (Evt.all fun k => by
      simp only [spec_AreArticles.l0]
      rw [if_neg (by omega)]
      congr 1
      exact decide_eq_decide.2 (by omega)) l.length 0 (by omega)
  refine h.eq ?_
  unfold areArt
  cases allD (artI l) 0 l.length <;> simp
theorem impl_AreArticles_ev (l : List S67) (hn : l.length ≤ 1000000) (hz : szOkA l) : Ev (fun k => impl_AreArticles.f k l) (areArt l) := by
  unfold impl_AreArticles.f
  by_cases hl : (l.length : Int) > 12
  · simp only [if_pos hl]
    refine (Ev.now false).eq ?_
    unfold areArt
    rw [decide_eq_false (by omega), Bool.and_false]
  simp only [if_neg hl]
  have h := Ev.allLoop (l := fun k i => impl_AreArticles.l0 k l l (l.length : Int) i) (n := l.length) (artI l) false true
    (fun i hi => (impl_IsArticle_ev _ (hz i hi)).evt fun k hk => by
      simp only [impl_AreArticles.l0]
      rw [if_pos (by omega), if_pos (by omega), if_pos (by omega), hk, Option.bind_some, wrap_succ hi (by omega)]
      unfold artI
      by_cases h0 : i = 0
      · rw [if_neg (show ¬ (i : Int) > 0 by omega), decide_eq_true h0, Bool.true_or, Bool.and_true]
      · rw [if_pos (show (i : Int) > 0 by omega), wrap_pred hi (by omega) (by omega), if_pos (show (0 : Int) ≤ ((i - 1 : Nat) : Int) by omega), if_pos (show ((i - 1 : Nat) : Int) < (l.length : Int) by omega), decide_eq_false h0, Bool.false_or]
        cases artB (rd_T67 l (i : Int)) <;> simp)
    (Evt.all fun k => by
      simp only [impl_AreArticles.l0]
      rw [if_neg (by omega)]) l.length 0 (by omega)
  refine h.eq ?_
  unfold areArt
  rw [decide_eq_true (by omega : l.length ≤ 12), Bool.and_true]
  cases allD (artI l) 0 l.length <;> simp
def fndD (l : List S67) (w : ByteArray) : Nat → Nat → Int
  | 0, _ => -1
  | d + 1, i => if (rd_T67 l (i : Int)).f0.toList = w.toList then (i : Int) else fndD l w d (i + 1)
def fnd (l : List S67) (w : ByteArray) : Int := fndD l w l.length 0
theorem fndD_ok (l : List S67) (w : ByteArray) : ∀ d i, i + d = l.length → fndD l w d i = -1 ∨ ∃ j : Nat, i ≤ j ∧ j < l.length ∧ fndD l w d i = (j : Int) ∧ (rd_T67 l (j : Int)).f0.toList = w.toList
  | 0, i, _ => Or.inl rfl
  | d + 1, i, h => by
    simp only [fndD]
    by_cases c : (rd_T67 l (i : Int)).f0.toList = w.toList
    · rw [if_pos c]
      exact Or.inr ⟨i, Nat.le_refl _, by omega, rfl, c⟩
    · rw [if_neg c]
      rcases fndD_ok l w d (i + 1) (by omega) with h1 | ⟨j, h1, h2, h3, h4⟩
      · exact Or.inl h1
      · exact Or.inr ⟨j, by omega, h2, h3, h4⟩
theorem fnd_ok (l : List S67) (w : ByteArray) : fnd l w = -1 ∨ ∃ j : Nat, j < l.length ∧ fnd l w = (j : Int) ∧ (rd_T67 l (j : Int)).f0.toList = w.toList := by
  rcases fndD_ok l w l.length 0 (by omega) with h | ⟨j, _, h2, h3, h4⟩
  · exact Or.inl h
  · exact Or.inr ⟨j, h2, h3, h4⟩
theorem spec_find_ev (l : List S67) (w : ByteArray) (hn : l.length ≤ 1000000) : Ev (fun k => spec_l03Find.f k l w) (fnd l w) := by
  have key : ∀ d i, i + d = l.length → Ev (fun k => spec_l03Find.l0 k l w (i : Int)) (fndD l w d i) := by
    intro d
    induction d with
    | zero =>
      intro i hi
      obtain rfl : i = l.length := by omega
      refine Ev.dn ?_
      simp only [spec_l03Find.l0, if_neg (show ¬ (l.length : Int) < (l.length : Int) by omega)]
      exact Ev.now _
    | succ d ih =>
      intro i hi
      refine Ev.dn ?_
      simp only [spec_l03Find.l0, if_pos (show (i : Int) < (l.length : Int) by omega), if_pos (show (0 : Int) ≤ (i : Int) by omega), wrap_succ (show i < l.length by omega) (show l.length ≤ 9223372036854775807 by omega), fndD]
      by_cases c : (rd_T67 l (i : Int)).f0.toList = w.toList
      · simp only [if_pos c]; exact Ev.now _
      · simp only [if_neg c]; exact ih (i + 1) (by omega)
  exact key l.length 0 (by omega)
theorem impl_find_ev (l : List S67) (w : ByteArray) (hn : l.length ≤ 1000000) : Ev (fun k => impl_articleOf.f k l w) (fnd l w) := by
  have key : ∀ d i, i + d = l.length → Ev (fun k => impl_articleOf.l0 k w l (l.length : Int) (i : Int)) (fndD l w d i) := by
    intro d
    induction d with
    | zero =>
      intro i hi
      obtain rfl : i = l.length := by omega
      refine Ev.dn ?_
      simp only [impl_articleOf.l0, if_neg (show ¬ (l.length : Int) < (l.length : Int) by omega)]
      exact Ev.now _
    | succ d ih =>
      intro i hi
      refine Ev.dn ?_
      simp only [impl_articleOf.l0, if_pos (show (i : Int) < (l.length : Int) by omega), if_pos (show (0 : Int) ≤ (i : Int) by omega), wrap_succ (show i < l.length by omega) (show l.length ≤ 9223372036854775807 by omega), fndD]
      by_cases c : (rd_T67 l (i : Int)).f0.toList = w.toList
      · simp only [if_pos c]; exact Ev.now _
      · simp only [if_neg c]; exact ih (i + 1) (by omega)
  exact key l.length 0 (by omega)
def fitB (x : S67) (t : Int) : Bool := decide (x.f2 ≤ t) && decide ((wrap64 (10 * x.f2)) > (wrap64 (9 * t)))
theorem spec_fits_eq (x : S67) (t : Int) : spec_l17Fits.f x.f0 x.f1 x.f2 x.f3 x.f4 x.f5 x.f6 x.f7 x.f8 t = some (fitB x t) := by
  unfold spec_l17Fits.f fitB
  by_cases h : x.f2 ≤ t
  · rw [if_pos h, decide_eq_true h, Bool.true_and]
  · rw [if_neg h, decide_eq_false h, Bool.false_and]
theorem impl_fits_eq (x : S67) (t : Int) : impl_fits.f x.f0 x.f1 x.f2 x.f3 x.f4 x.f5 x.f6 x.f7 x.f8 t = some (fitB x t) := by
  unfold impl_fits.f fitB
  by_cases h : x.f2 ≤ t
  · rw [if_pos h, decide_eq_true h, Bool.true_and]
  · rw [if_neg h, decide_eq_false h, Bool.false_and]
def rkI (l : List S67) (T : List Int) (L : List ByteArray) (j : Nat) : Bool :=
  decide ((rdOf ByteArray.empty L (j : Int)).toList = []) || (!decide (fnd l (rdOf ByteArray.empty L (j : Int)) < 0) && fitB (rd_T67 l (fnd l (rdOf ByteArray.empty L (j : Int)))) (rd T (j : Int)))
def rackOk (l : List S67) (x y : Int) (T : List Int) (L : List ByteArray) : Bool :=
  areArt l && rin x 0 100000 && rin y 0 100000 && rin (T.length : Int) 1 12 && decide (L.length = T.length) && allIn T 20 300 && allD (rkI l T L) 0 T.length
theorem fnd_in (l : List S67) (w : ByteArray) (h : ¬ fnd l w < 0) : 0 ≤ fnd l w ∧ fnd l w < (l.length : Int) := by
  rcases fnd_ok l w with h1 | ⟨j, h1, h2, _⟩
  · rw [h1] at h; exact absurd (by decide) h
  · rw [h2]; omega
theorem spec_rackLoop (l : List S67) (x y : Int) (T : List Int) (L : List ByteArray) (hn : l.length ≤ 1000000) (hT : T.length ≤ 1000000) (hL : L.length = T.length) :
    Ev (fun k => spec_IsRack.l0 k l 0 x y T L) (allIn T 20 300 && allD (rkI l T L) 0 T.length) := by
  have h := Ev.allLoop (l := fun k i => spec_IsRack.l0 k l i x y T L) (n := T.length) (fun j => rin (rd T (j : Int)) 20 300 && rkI l T L j) false true
    (fun i hi => (spec_find_ev l (rdOf ByteArray.empty L (i : Int)) hn).evt fun k hk => by
      simp only [spec_IsRack.l0, l01In_eq, spec_fits_eq, Option.bind_some]
      rw [if_pos (by omega), if_pos (by omega), if_pos (by omega), hk, Option.bind_some, wrap_succ hi (by omega)]
      unfold rkI
      cases rin (rd T (i : Int)) 20 300 with
      | false => simp
      | true =>
        simp only [if_true, Bool.true_and]
        by_cases c : (rdOf ByteArray.empty L (i : Int)).toList = []
        · rw [if_pos c, decide_eq_true c, Bool.true_or, if_pos rfl]
        · rw [if_neg c, decide_eq_false c, Bool.false_or]
          by_cases c2 : fnd l (rdOf ByteArray.empty L (i : Int)) < 0
          · rw [if_pos c2, decide_eq_true c2]; simp
          · obtain ⟨g1, g2⟩ := fnd_in l _ c2
            rw [if_neg c2, if_pos g1, if_pos g2, decide_eq_false c2]
            cases fitB (rd_T67 l (fnd l (rdOf ByteArray.empty L (i : Int)))) (rd T (i : Int)) <;> simp)
    (Evt.all fun k => by
      simp only [spec_IsRack.l0]
      rw [if_neg (by omega)]) T.length 0 (by omega)
  refine h.eq ?_
  have e : allD (fun j => rin (rd T (j : Int)) 20 300 && rkI l T L j) 0 T.length = (allIn T 20 300 && allD (rkI l T L) 0 T.length) := by
    rw [Bool.eq_iff_iff, Bool.and_eq_true, allIn_iff, allD_iff, allD_iff]
    simp only [Bool.and_eq_true, rin_iff]
    exact ⟨fun h => ⟨fun j hj => (h j (by omega) (by omega)).1, fun j h1 h2 => (h j h1 h2).2⟩, fun h j h1 h2 => ⟨h.1 j (by omega), h.2 j h1 h2⟩⟩
  rw [e]
  cases allIn T 20 300 && allD (rkI l T L) 0 T.length <;> simp
theorem spec_IsRack_ev (l : List S67) (x y : Int) (T : List Int) (L : List ByteArray) (hn : l.length ≤ 1000000) (hz : szOkA l) (hT : T.length ≤ 1000000) :
    Ev (fun k => spec_IsRack.f k l x y T L) (rackOk l x y T L) := by
  have hb : Ev (fun k => spec_IsRack.j0 k l true x y T L) false := Ev.dn (by simp only [spec_IsRack.j0, if_true]; exact Ev.now _)
  unfold spec_IsRack.f rackOk spec_l15Place.f
  refine Ev.bind (spec_AreArticles_ev l hn hz) ?_
  simp only [l01In_eq, Option.bind_some]
  cases areArt l with
  | false => simp only [Bool.false_eq_true, if_false, Bool.false_and]; exact hb
  | true =>
  simp only [if_true, Bool.true_and]
  cases rin x 0 100000 with
  | false => simp only [Bool.false_eq_true, if_false, Bool.false_and, Option.bind_some]; exact hb
  | true =>
  simp only [if_true, Bool.true_and, Option.bind_some]
  cases rin y 0 100000 with
  | false => simp only [Bool.false_eq_true, if_false, Bool.false_and]; exact hb
  | true =>
  simp only [if_true, Bool.true_and]
  cases rin (T.length : Int) 1 12 with
  | false => simp only [Bool.false_eq_true, if_false, Bool.false_and]; exact hb
  | true =>
  simp only [if_true, Bool.true_and]
  by_cases c : L.length = T.length
  · rw [show (((L.length : Int) != (T.length : Int)) : Bool) = false from by rw [c]; simp, decide_eq_true c, Bool.true_and]
    refine Ev.dn ?_
    simp only [spec_IsRack.j0, Bool.false_eq_true, if_false]
    exact spec_rackLoop l x y T L hn hT c
  · have c' : ((L.length : Int) != (T.length : Int)) = true := by
      rw [bne_iff_ne]
      omega
    rw [c', decide_eq_false c, Bool.false_and, Bool.false_and]
    exact hb
theorem impl_rackLoop (l : List S67) (x y : Int) (T : List Int) (L : List ByteArray) (hn : l.length ≤ 1000000) (hT : T.length ≤ 1000000) (hL : L.length = T.length) :
    Ev (fun k => impl_IsRack.l0 k l L (L.length : Int) 0 x y T L) (allD (rkI l T L) 0 T.length) := by
  have h := Ev.allLoop (l := fun k i => impl_IsRack.l0 k l L (L.length : Int) i x y T L) (n := T.length) (rkI l T L) false true
    (fun i hi => (impl_find_ev l (rdOf ByteArray.empty L (i : Int)) hn).evt fun k hk => by
      simp only [impl_IsRack.l0, impl_fits_eq, Option.bind_some]
      rw [if_pos (by omega), if_pos (by omega), if_pos (by omega), hk, Option.bind_some, wrap_succ hi (by omega)]
      unfold rkI
      by_cases c : (rdOf ByteArray.empty L (i : Int)).toList = []
      · rw [if_pos c, decide_eq_true c, Bool.true_or, if_pos rfl]
      · rw [if_neg c, decide_eq_false c, Bool.false_or]
        by_cases c2 : fnd l (rdOf ByteArray.empty L (i : Int)) < 0
        · rw [if_pos c2, decide_eq_true c2]; simp
        · obtain ⟨g1, g2⟩ := fnd_in l _ c2
          rw [if_neg c2, if_pos g1, if_pos g2, if_pos (by omega), decide_eq_false c2]
          cases fitB (rd_T67 l (fnd l (rdOf ByteArray.empty L (i : Int)))) (rd T (i : Int)) <;> simp)
    (Evt.all fun k => by
      simp only [impl_IsRack.l0]
      rw [if_neg (by omega)]) T.length 0 (by omega)
  refine h.eq ?_
  cases allD (rkI l T L) 0 T.length <;> simp
theorem impl_IsRack_ev (l : List S67) (x y : Int) (T : List Int) (L : List ByteArray) (hn : l.length ≤ 1000000) (hz : szOkA l) (hT : T.length ≤ 1000000) :
    Ev (fun k => impl_IsRack.f k l x y T L) (rackOk l x y T L) := by
  have hb : Ev (fun k => impl_IsRack.j0 k l true x y T L) false := Ev.dn (by simp only [impl_IsRack.j0, if_true]; exact Ev.now _)
  unfold impl_IsRack.f rackOk impl_isPlace.f
  refine Ev.bind (impl_AreArticles_ev l hn hz) ?_
  simp only [within_eq, Option.bind_some]
  cases areArt l with
  | false => simp only [Bool.false_eq_true, if_false, Bool.false_and]; exact hb
  | true =>
  simp only [if_true, Bool.true_and]
  cases rin x 0 100000 with
  | false => simp only [Bool.false_eq_true, if_false, Bool.false_and, Option.bind_some]; exact hb
  | true =>
  simp only [if_true, Bool.true_and, Option.bind_some]
  cases rin y 0 100000 with
  | false => simp only [Bool.false_eq_true, if_false, Bool.false_and]; exact hb
  | true =>
  simp only [if_true, Bool.true_and]
  by_cases d1 : (T.length : Int) < 1
  · have e : rin (T.length : Int) 1 12 = false := by
      unfold rin
      rw [decide_eq_false (by omega), Bool.false_and]
    simp only [if_pos d1, e, Bool.false_and]; exact hb
  simp only [if_neg d1]
  by_cases d2 : (T.length : Int) > 12
  · have e : rin (T.length : Int) 1 12 = false := by
      unfold rin
      rw [decide_eq_false (show ¬ (T.length : Int) ≤ 12 by omega), Bool.and_false]
    simp only [if_pos d2, e, Bool.false_and]; exact hb
  have e : rin (T.length : Int) 1 12 = true := rin_iff.2 (by omega)
  simp only [if_neg d2, e, Bool.true_and]
  by_cases c : L.length = T.length
  · simp only [if_pos (show (L.length : Int) = (T.length : Int) by omega), decide_eq_true c, Bool.true_and]
    refine Ev.bind (allWithin_ev T 20 300 (by omega)) ?_
    cases allIn T 20 300 with
    | false => simp only [Bool.not_false, Bool.false_and]; exact hb
    | true =>
      simp only [Bool.not_true, Bool.true_and]
      refine Ev.dn ?_
      simp only [impl_IsRack.j0, Bool.false_eq_true, if_false]
      exact impl_rackLoop l x y T L hn hT c
  · simp only [if_neg (show ¬ (L.length : Int) = (T.length : Int) by omega), decide_eq_false c, Bool.false_and]
    exact hb
theorem rackOk_len {l : List S67} {x y : Int} {T : List Int} {L : List ByteArray} (h : rackOk l x y T L = true) : areArt l = true ∧ L.length = T.length ∧ 1 ≤ T.length ∧ T.length ≤ 12 ∧ l.length ≤ 12 ∧ (∀ j, j < T.length → rkI l T L j = true) := by
  unfold rackOk areArt at *
  simp only [Bool.and_eq_true, decide_eq_true_eq, rin_iff] at h
  obtain ⟨⟨⟨⟨⟨⟨h1, _⟩, _⟩, h2⟩, h3⟩, _⟩, h4⟩ := h
  rw [allD_iff] at h4
  exact ⟨by simp [h1], h3, by omega, by omega, h1.2, fun j hj => h4 j (by omega) (by omega)⟩
def cdR (l : List S67) (x y : Int) (T : List Int) (L : List ByteArray) (a : Int) : Int := if rackOk l x y T L = true then (if rin a 0 ((T.length : Int) - 1) = true then 0 else 2) else 1
theorem spec_code_ev (l : List S67) (x y : Int) (T : List Int) (L : List ByteArray) (a : Int) (hn : l.length ≤ 1000000) (hz : szOkA l) (hT : T.length ≤ 1000000) :
    Ev (fun k => spec_l17Code.f k l x y T L a) (cdR l x y T L a) := by
  unfold spec_l17Code.f cdR
  refine Ev.bind (spec_IsRack_ev l x y T L hn hz hT) ?_
  simp only [l01In_eq, Option.bind_some, wrap_id (x := (T.length : Int) - 1) (by omega) (by omega)]
  cases rackOk l x y T L with
  | false => simp only [Bool.false_eq_true, if_false]; exact Ev.now _
  | true =>
    simp only [if_true]
    cases rin a 0 ((T.length : Int) - 1) <;> exact Ev.now _
theorem cdR_0 {l : List S67} {x y : Int} {T : List Int} {L : List ByteArray} (h : rackOk l x y T L = true) : cdR l x y T L 0 = 0 := by
  have := rackOk_len h
  unfold cdR
  rw [if_pos h, if_pos (rin_iff.2 (by omega))]
theorem copyList_ev (l : List Int) (hn : l.length ≤ 1000000) : Ev (fun k => impl_copyList.f l) l := by
  unfold impl_copyList.f
  simp only [Option.bind_some]
  refine Ev.all (fun k => ?_)
  simp
  try omega
theorem own_some (l : List Int) (h : l.length ≤ 1000000) : spec_l01Own.f l = some l := by
  unfold spec_l01Own.f
  rw [Option.bind_some, if_pos (by rw [List.length_nil]; omega), List.nil_append]
theorem with_impl (x y : Int) (T : List Int) (L : List ByteArray) (a : Int) (w : ByteArray) (hT : T.length ≤ 1000000) (hL : L.length ≤ 1000000) (h0 : 0 ≤ a) (h1 : a < (L.length : Int)) : Ev (fun k => impl_withLoad.f x y T L a w) (x, y, T, L.set a.toNat w) := by
  unfold impl_withLoad.f
  refine Ev.bind (copyList_ev T hT) ?_
  simp only [Option.bind_some, List.length_nil, List.nil_append, if_pos (show 0 + L.length < 8796093022208 by omega), if_pos h0, if_pos h1]
  exact Ev.now _
theorem with_spec (x y : Int) (T : List Int) (L : List ByteArray) (a : Int) (w : ByteArray) (hT : T.length ≤ 1000000) (hL : L.length ≤ 1000000) (h0 : 0 ≤ a) (h1 : a < (L.length : Int)) : Ev (fun k => spec_l17With.f x y T L a w) (x, y, T, L.set a.toNat w) := by
  unfold spec_l17With.f
  simp only [own_some T hT, Option.bind_some, List.length_nil, List.nil_append, if_pos (show 0 + L.length < 8796093022208 by omega), if_pos h0, if_pos h1]
  exact Ev.now _
theorem index_eq (a : Int) (n : Nat) (hn : n ≤ 1000000) : impl_isIndex.f a (n : Int) = some (rin a 0 ((n : Int) - 1)) := by
  unfold impl_isIndex.f
  rw [within_eq, wrap_id (by omega) (by omega)]
  rfl
def tbD (a : S67) (T : List Int) (L : List ByteArray) : Nat → Nat → List Int → List Int
  | 0, _, xs => xs
  | d + 1, i, xs => tbD a T L d (i + 1) (if (rdOf ByteArray.empty L (i : Int)).toList = [] ∧ fitB a (rd T (i : Int)) = true then xs ++ [(i : Int)] else xs)
theorem tbD_len (a : S67) (T : List Int) (L : List ByteArray) : ∀ d i xs, (tbD a T L d i xs).length ≤ xs.length + d
  | 0, _, xs => Nat.le_refl _
  | d + 1, i, xs => by
    simp only [tbD]
    refine Nat.le_trans (tbD_len a T L d (i + 1) _) ?_
    split
    · simp; omega
    · omega
theorem tubes_ev (a : S67) (x y : Int) (T : List Int) (L : List ByteArray) (hT : T.length ≤ 1000000) (e : L.length = T.length) : ∀ d i xs, i + d = T.length → xs.length ≤ i →
    Ev (fun k => spec_l17Tubes.l0 k xs (i : Int) a.f0 a.f1 a.f2 a.f3 a.f4 a.f5 a.f6 a.f7 a.f8 x y T L) (tbD a T L d i xs) := by
  intro d
  induction d with
  | zero =>
    intro i xs hi hx
    refine Ev.dn ?_
    simp only [spec_l17Tubes.l0, if_neg (show ¬ (i : Int) < (T.length : Int) by omega)]; exact Ev.now _
  | succ d ih =>
    intro i xs hi hx
    have hs := ih (i + 1) (if (rdOf ByteArray.empty L (i : Int)).toList = [] ∧ fitB a (rd T (i : Int)) = true then xs ++ [(i : Int)] else xs) (by omega) (by split <;> (try simp) <;> omega)
    refine Ev.dn (Ev.eq' hs (fun k => ?_))
    · simp only [spec_l17Tubes.l0, spec_fits_eq, Option.bind_some]
      rw [if_pos (show (i : Int) < (T.length : Int) by omega), if_pos (show (0 : Int) ≤ (i : Int) by omega), if_pos (show (i : Int) < (L.length : Int) by omega), wrap_succ (show i < T.length by omega) (by omega)]
      by_cases q : (rdOf ByteArray.empty L (i : Int)).toList = []
      · rw [if_pos q]
        by_cases q2 : fitB a (rd T (i : Int)) = true
        · rw [if_pos q2, if_pos (show xs.length < 17592186044416 by omega), if_pos ⟨q, q2⟩]
        · rw [if_neg q2, if_neg (fun h => q2 h.2)]
      · rw [if_neg q, if_neg (fun h => q h.1)]
def cdN (l : List S67) (x y : Int) (T : List Int) (L : List ByteArray) (a : Int) (w : ByteArray) : Int := if cdR l x y T L a = 0 then (if fnd l w < 0 then 4 else 0) else cdR l x y T L a
theorem spec_named_ev (l : List S67) (x y : Int) (T : List Int) (L : List ByteArray) (a : Int) (w : ByteArray) (hn : l.length ≤ 1000000) (hz : szOkA l) (hT : T.length ≤ 1000000) :
    Ev (fun k => spec_l17Named.f k l x y T L a w) (cdN l x y T L a w) := by
  unfold spec_l17Named.f cdN
  refine Ev.bind (spec_code_ev l x y T L a hn hz hT) ?_
  by_cases c : cdR l x y T L a = 0
  · simp only [if_pos c]
    refine Ev.bind (spec_find_ev l w hn) ?_
    by_cases c2 : fnd l w < 0
    · simp only [if_pos c2]; exact Ev.now _
    · simp only [if_neg c2, c]; exact Ev.now _
  · simp only [if_neg c]; exact Ev.now _
def bsD (T xs : List Int) : Nat → Nat → Int → Int
  | 0, _, b => b
  | d + 1, i, b => bsD T xs d (i + 1) (if rd T (rd xs (i : Int)) < rd T b then rd xs (i : Int) else b)
theorem bsD_in (T xs : List Int) (h : ∀ j : Nat, j < xs.length → 0 ≤ rd xs (j : Int) ∧ rd xs (j : Int) < (T.length : Int)) : ∀ d i b, i + d = xs.length → 0 ≤ b → b < (T.length : Int) → 0 ≤ bsD T xs d i b ∧ bsD T xs d i b < (T.length : Int)
  | 0, i, b, _, h0, h1 => ⟨h0, h1⟩
  | d + 1, i, b, hi, h0, h1 => by
    simp only [bsD]
    have hx := h i (by omega)
    split
    · exact bsD_in T xs h d (i + 1) _ (by omega) hx.1 hx.2
    · exact bsD_in T xs h d (i + 1) _ (by omega) h0 h1
theorem best_spec (x y : Int) (T : List Int) (L : List ByteArray) (w : ByteArray) (xs : List Int) (R : Int × Int × List Int × List ByteArray × Int × Int) (hn : xs.length ≤ 1000000) (h : ∀ j : Nat, j < xs.length → 0 ≤ rd xs (j : Int) ∧ rd xs (j : Int) < (T.length : Int)) :
    ∀ d i b, i + d = xs.length → 0 ≤ b → b < (T.length : Int) → Ev (fun k => (spec_l17With.f x y T L (bsD T xs d i b) w).bind fun p => some (p.1, p.2.1, p.2.2.1, p.2.2.2, bsD T xs d i b, (0 : Int))) R → Ev (fun k => spec_LoadBest.l0 k w xs b (i : Int) x y T L) R := by
  intro d
  induction d with
  | zero =>
    intro i b hi h0 h1 hR
    refine Ev.dn ?_
    simp only [spec_LoadBest.l0, if_neg (show ¬ (i : Int) < (xs.length : Int) by omega)]
    exact hR
  | succ d ih =>
    intro i b hi h0 h1 hR
    obtain ⟨k0, k1⟩ := h i (by omega)
    have i0 : (0 : Int) ≤ (i : Int) := by clear ih hR; omega
    have i1 : (i : Int) < (xs.length : Int) := by clear ih hR; omega
    have hw := wrap_succ (show i < xs.length by clear ih hR; omega) (show xs.length ≤ 9223372036854775807 by clear ih hR; omega)
    have hi' : i + 1 + d = xs.length := by clear ih hR; omega
    refine Ev.dn ?_
    simp only [spec_LoadBest.l0, if_pos i1, if_pos i0, if_pos k0, if_pos k1, if_pos h0, if_pos h1, hw]
    simp only [bsD] at hR
    by_cases c : rd T (rd xs (i : Int)) < rd T b
    · simp only [if_pos c] at hR ⊢
      exact ih (i + 1) _ hi' k0 k1 hR
    · simp only [if_neg c] at hR ⊢
      exact ih (i + 1) _ hi' h0 h1 hR
theorem tbD_in (a : S67) (T : List Int) (L : List ByteArray) : ∀ d i xs, (∀ v ∈ xs, 0 ≤ v ∧ v < ((i + d : Nat) : Int)) → ∀ v ∈ tbD a T L d i xs, 0 ≤ v ∧ v < ((i + d : Nat) : Int)
  | 0, i, xs, h => h
  | d + 1, i, xs, h => by
    simp only [tbD]
    have := tbD_in a T L d (i + 1) (if (rdOf ByteArray.empty L (i : Int)).toList = [] ∧ fitB a (rd T (i : Int)) = true then xs ++ [(i : Int)] else xs) (fun v hv => by
      have hx : ∀ v ∈ xs, 0 ≤ v ∧ v < ((i + 1 + d : Nat) : Int) := fun v hv => by have := h v hv; omega
      split at hv
      · rcases List.mem_append.1 hv with h1 | h1
        · exact hx v h1
        · rw [List.mem_singleton.1 h1]; omega
      · exact hx v hv)
    intro v hv
    have := this v hv
    omega
theorem bsD_min (T xs : List Int) : ∀ d i b, i + d = xs.length → (bsD T xs d i b = b ∨ bsD T xs d i b ∈ xs) ∧ rd T (bsD T xs d i b) ≤ rd T b ∧ ∀ j : Nat, i ≤ j → j < xs.length → rd T (bsD T xs d i b) ≤ rd T (rd xs (j : Int)) := by
  intro d
  induction d with
  | zero => exact fun i b hi => ⟨.inl rfl, Int.le_refl _, fun j h1 h2 => by omega⟩
  | succ d ih =>
    intro i b hi
    have hil : i < xs.length := by omega
    simp only [bsD]
    by_cases c : rd T (rd xs (i : Int)) < rd T b
    · rw [if_pos c]
      obtain ⟨h1, h2, h3⟩ := ih (i + 1) (rd xs (i : Int)) (by omega)
      refine ⟨.inr (h1.elim (fun e => by rw [e, rd_nat hil]; exact List.getElem_mem hil) id), by omega, fun j hle hj => ?_⟩
      by_cases e : j = i
      · subst e; exact h2
      · exact h3 j (by omega) hj
    · rw [if_neg c]
      obtain ⟨h1, h2, h3⟩ := ih (i + 1) b (by omega)
      refine ⟨h1, h2, fun j hle hj => ?_⟩
      by_cases e : j = i
      · subst e; omega
      · exact h3 j (by omega) hj
theorem LoadBest_is (l : List S67) (x y : Int) (T : List Int) (L : List ByteArray) (w : ByteArray) (hn : l.length ≤ 1000000) (hz : szOkA l) (hT : T.length ≤ 1000000) :
    ∃ (x' y' : Int) (T' : List Int) (L' : List ByteArray) (b c : Int), Ev (fun k => spec_LoadBest.f k l x y T L w) (x', y', T', L', b, c) ∧ True ∧ T'.length ≤ 1000000 ∧ L'.length ≤ 1000000 ∧ (c = 0 → rackOk l x y T L = true ∧ ¬ fnd l w < 0 ∧ x' = x ∧ y' = y ∧ T' = T ∧ L' = L.set b.toNat w ∧ b ∈ tbD (rd_T67 l (fnd l w)) T L T.length 0 [] ∧ ∀ v ∈ tbD (rd_T67 l (fnd l w)) T L T.length 0 [], rd T b ≤ rd T v) := by
  have hc := spec_named_ev l x y T L 0 w hn hz hT
  unfold spec_LoadBest.f
  cases c : rackOk l x y T L with
  | false =>
    rw [show cdN l x y T L 0 w = 1 by simp [cdN, cdR, c]] at hc
    refine ⟨0, 0, [], [], 0, 1, Ev.bind hc ?_, trivial, by simp, by simp, fun h => absurd h (by decide)⟩
    · simp only [show ¬ ((1 : Int) = 0) by decide, if_false]; exact Ev.now _
  | true =>
    have e0 := cdR_0 c
    obtain ⟨_, e, h1, h2, _, _⟩ := rackOk_len c
    by_cases f : fnd l w < 0
    · rw [show cdN l x y T L 0 w = 4 by simp [cdN, e0, f]] at hc
      refine ⟨0, 0, [], [], 0, 4, Ev.bind hc ?_, trivial, by simp, by simp, fun h => absurd h (by decide)⟩
      · simp only [show ¬ ((4 : Int) = 0) by decide, if_false]; exact Ev.now _
    · rw [show cdN l x y T L 0 w = 0 by simp only [cdN, e0, if_true, if_neg f]] at hc
      obtain ⟨g1, g2⟩ := fnd_in l w f
      have k0 := tubes_ev (rd_T67 l (fnd l w)) x y T L hT e T.length 0 [] (by omega) (by simp)
      have sT : Ev (fun k => spec_l17Tubes.f k (rd_T67 l (fnd l w)).f0 (rd_T67 l (fnd l w)).f1 (rd_T67 l (fnd l w)).f2 (rd_T67 l (fnd l w)).f3 (rd_T67 l (fnd l w)).f4 (rd_T67 l (fnd l w)).f5 (rd_T67 l (fnd l w)).f6 (rd_T67 l (fnd l w)).f7 (rd_T67 l (fnd l w)).f8 x y T L) (tbD (rd_T67 l (fnd l w)) T L T.length 0 []) := k0
      have hl := tbD_len (rd_T67 l (fnd l w)) T L T.length 0 []
      have hin := tbD_in (rd_T67 l (fnd l w)) T L T.length 0 [] (fun v hv => absurd hv (by simp))
      rw [List.length_nil, Nat.zero_add] at hl
      generalize tbD (rd_T67 l (fnd l w)) T L T.length 0 [] = xs at sT hl hin ⊢
      have hx : ∀ j : Nat, j < xs.length → 0 ≤ rd xs (j : Int) ∧ rd xs (j : Int) < (T.length : Int) := fun j hj => by
        have := hin (rd xs (j : Int)) (by rw [rd_nat hj]; exact List.getElem_mem hj)
        omega
      by_cases z : xs.length = 0
      · have z' : (xs.length : Int) = 0 := by omega
        have z'' : ¬ ((0 : Nat) : Int) < (xs.length : Int) := by omega
        refine ⟨0, 0, [], [], 0, 5, Ev.bind hc ?_, trivial, by simp, by simp, fun h => absurd h (by decide)⟩
        · simp only [if_true]
          refine Ev.bind (spec_find_ev l w hn) ?_
          simp only [if_pos g1, if_pos g2]
          refine Ev.bind sT ?_
          simp only [if_pos z']; exact Ev.now _
      · have z' : ¬ (xs.length : Int) = 0 := by omega
        have z2 : (0 : Int) < (xs.length : Int) := by omega
        have hx0 := hx 0 (by omega)
        rw [show ((0 : Nat) : Int) = 0 from rfl] at hx0
        obtain ⟨b0, b1⟩ := hx0
        have hbs := bsD_in T xs hx xs.length 0 (rd xs 0) (by omega) b0 b1
        refine ⟨x, y, T, L.set (bsD T xs xs.length 0 (rd xs 0)).toNat w, bsD T xs xs.length 0 (rd xs 0), 0, Ev.bind hc ?_, trivial, hT, by rw [List.length_set]; omega, fun _ => ⟨rfl, f, rfl, rfl, rfl, rfl, ?_, ?_⟩⟩
        · simp only [if_true]
          refine Ev.bind (spec_find_ev l w hn) ?_
          simp only [if_pos g1, if_pos g2]
          refine Ev.bind sT ?_
          simp only [if_neg z', if_pos z2]
          exact best_spec x y T L w xs _ (by omega) hx xs.length 0 _ (by omega) b0 b1 (Ev.bind (with_spec x y T L _ w hT (by omega) hbs.1 (by omega)) (Ev.now _))
        · rcases (bsD_min T xs xs.length 0 (rd xs 0) (by omega)).1 with h | h
          · rw [h, show (0 : Int) = ((0 : Nat) : Int) from rfl, rd_nat (show 0 < xs.length by omega)]
            exact List.getElem_mem _
          · exact h
        · intro v hv
          obtain ⟨j, hj, rfl⟩ := List.getElem_of_mem hv
          have := (bsD_min T xs xs.length 0 (rd xs 0) (by omega)).2.2 j (Nat.zero_le _) hj
          rwa [rd_nat hj] at this
def empD (L : List ByteArray) : Nat → Nat → List Int → List Int
  | 0, _, xs => xs
  | d + 1, i, xs => empD L d (i + 1) (if (rdOf ByteArray.empty L (i : Int)).toList = [] then xs ++ [(i : Int)] else xs)
theorem empD_len (L : List ByteArray) : ∀ d i xs, (empD L d i xs).length ≤ xs.length + d
  | 0, _, xs => Nat.le_refl _
  | d + 1, i, xs => by
    simp only [empD]
    refine Nat.le_trans (empD_len L d (i + 1) _) ?_
    split
    · simp; omega
    · omega
theorem EmptyTubes_is (l : List S67) (x y : Int) (T : List Int) (L : List ByteArray) (hn : l.length ≤ 1000000) (hz : szOkA l) (hT : T.length ≤ 1000000) :
    ∃ r : List Int × Int, True ∧ Ev (fun k => impl_EmptyTubes.f k l x y T L) r ∧ r.1.length ≤ 1000 ∧ r = (if rackOk l x y T L = true then (empD L T.length 0 [], 0) else ([], 1)) := by
  have hi := impl_IsRack_ev l x y T L hn hz hT
  unfold impl_EmptyTubes.f
  cases c : rackOk l x y T L with
  | false =>
    rw [c] at hi
    refine ⟨([], 1), trivial, Ev.bind hi ?_, by simp, rfl⟩
    · simp only [Bool.false_eq_true, if_false]; exact Ev.now _
  | true =>
    rw [c] at hi
    obtain ⟨_, e, h1, h2, _, _⟩ := rackOk_len c
    have ks : ∀ d i xs, i + d = T.length → xs.length ≤ i → Ev (fun k => impl_EmptyTubes.l0 k xs L (L.length : Int) (i : Int)) (empD L d i xs, 0) := by
      intro d
      induction d with
      | zero =>
        intro i xs hi hx
        obtain rfl : i = T.length := by omega
        refine Ev.dn ?_
        · simp only [impl_EmptyTubes.l0, if_neg (show ¬ (T.length : Int) < (L.length : Int) by omega)]; exact Ev.now _
      | succ d ih =>
        intro i xs hi hx
        have hs := ih (i + 1) (if (rdOf ByteArray.empty L (i : Int)).toList = [] then xs ++ [(i : Int)] else xs) (by omega) (by split <;> (try simp) <;> omega)
        refine Ev.dn (Ev.eq' hs (fun k => ?_))
        · simp only [impl_EmptyTubes.l0]
          rw [if_pos (show (i : Int) < (L.length : Int) by omega), if_pos (show (0 : Int) ≤ (i : Int) by omega), if_pos (show (i : Int) < (L.length : Int) by omega), wrap_succ (show i < T.length by omega) (by omega)]
          by_cases q : (rdOf ByteArray.empty L (i : Int)).toList = []
          · rw [if_pos q, if_pos (show xs.length < 17592186044416 by omega), if_pos q]
          · rw [if_neg q, if_neg q]
    have k0 := ks T.length 0 [] (by omega) (by simp)
    refine ⟨(empD L T.length 0 [], 0), trivial, Ev.bind hi ?_, ?_, rfl⟩
    · simp only [if_true]; exact k0
    · have := empD_len L T.length 0 []
      simp at this ⊢
      omega
theorem TubesFor_is (l : List S67) (x y : Int) (T : List Int) (L : List ByteArray) (w : ByteArray) (hn : l.length ≤ 1000000) (hz : szOkA l) (hT : T.length ≤ 1000000) :
    ∃ r : List Int × Int, Ev (fun k => spec_TubesFor.f k l x y T L w) r ∧ True ∧ r.1.length ≤ 1000 ∧ (r.2 = 0 → rackOk l x y T L = true ∧ ¬ fnd l w < 0 ∧ r.1 = tbD (rd_T67 l (fnd l w)) T L T.length 0 []) ∧ (rackOk l x y T L = true → ¬ fnd l w < 0 → r.2 = 0) := by
  have hc := spec_named_ev l x y T L 0 w hn hz hT
  unfold spec_TubesFor.f
  cases c : rackOk l x y T L with
  | false =>
    rw [show cdN l x y T L 0 w = 1 by simp [cdN, cdR, c]] at hc
    refine ⟨([], 1), Ev.bind hc ?_, trivial, by simp, fun h => absurd h (by decide), fun h => absurd h (by decide)⟩
    · simp only [show ¬ ((1 : Int) = 0) by decide, if_false]; exact Ev.now _
  | true =>
    have e0 := cdR_0 c
    obtain ⟨_, e, h1, h2, _, _⟩ := rackOk_len c
    by_cases f : fnd l w < 0
    · rw [show cdN l x y T L 0 w = 4 by simp [cdN, e0, f]] at hc
      refine ⟨([], 4), Ev.bind hc ?_, trivial, by simp, fun h => absurd h (by decide), fun _ h => absurd f h⟩
      · simp only [show ¬ ((4 : Int) = 0) by decide, if_false]; exact Ev.now _
    · rw [show cdN l x y T L 0 w = 0 by simp only [cdN, e0, if_true, if_neg f]] at hc
      obtain ⟨g1, g2⟩ := fnd_in l w f
      have k0 := tubes_ev (rd_T67 l (fnd l w)) x y T L hT e T.length 0 [] (by omega) (by simp)
      refine ⟨(tbD (rd_T67 l (fnd l w)) T L T.length 0 [], 0), Ev.bind hc ?_, trivial, ?_, fun _ => ⟨rfl, f, rfl⟩, fun _ _ => rfl⟩
      · simp only [if_true]
        refine Ev.bind (spec_find_ev l w hn) ?_
        simp only [if_pos g1, if_pos g2]
        unfold spec_l17Tubes.f
        exact Ev.bind k0 (Ev.now _)
      · have := tbD_len (rd_T67 l (fnd l w)) T L T.length 0 []
        simp at this ⊢
        omega
def Gd (L : List Int) (p z : Int) : Prop := 0 ≤ p ∧ p ≤ (L.length : Int) ∧ 0 ≤ z ∧ z < 2147483647
def By (L : List Int) : Prop := L.length ≤ 4096 ∧ ∀ j : Nat, j < L.length → 0 ≤ rd L (j : Int) ∧ rd L (j : Int) ≤ 255
theorem tm_bd {x n : Int} (hx : 0 ≤ x) (hn : 0 < n) : 0 ≤ Int.tmod x n ∧ Int.tmod x n < n := ⟨Int.tmod_nonneg n hx, Int.tmod_lt_of_pos x hn⟩
theorem next_ok {L : List Int} (hL : By L) {p z : Int} (g : Gd L p z) (n : Int) (h1 : 1 ≤ n) (h2 : n ≤ 100000000) : ∃ v p' z' : Int, spec_l01Next.f L p z n = some (v, p', z') ∧ Gd L p' z' ∧ 0 ≤ v ∧ v < n := by
  obtain ⟨g1, g2, g3, g4⟩ := g
  obtain ⟨hl, hb⟩ := hL
  unfold spec_l01Next.f
  by_cases c1 : n ≤ 1
  · rw [if_pos c1]
    exact ⟨0, p, z, rfl, ⟨g1, g2, g3, g4⟩, by omega, by omega⟩
  rw [if_neg c1]
  have hn : ¬ n = 0 := by omega
  have w1 : wrap64 (z * 48271) = z * 48271 := wrap_id (by omega) (by omega)
  have w2 : wrap64 (z * 48271 + 29) = z * 48271 + 29 := wrap_id (by omega) (by omega)
  obtain ⟨z0, z1⟩ := tm_bd (x := z * 48271 + 29) (n := 2147483647) (by omega) (by decide)
  simp only [w1, w2, if_neg hn]
  generalize Int.tmod (z * 48271 + 29) 2147483647 = y at z0 z1
  have q0 : Int.tdiv y 31 = y / 31 := Int.tdiv_eq_ediv_of_nonneg z0
  obtain ⟨q2, q3⟩ : 0 ≤ y / 31 ∧ y / 31 ≤ 2147483647 := by clear w1 w2 c1 hb; omega
  have q1 : wrap64 (y / 31) = y / 31 := wrap_id (by clear w1 w2 c1 hb q0; omega) (by clear w1 w2 c1 hb q0; omega)
  simp only [q0, q1]
  clear q0 q1 w1 w2
  generalize y / 31 = q at q2 q3
  by_cases c2 : p < (L.length : Int)
  · obtain ⟨m, rfl⟩ := Int.eq_ofNat_of_zero_le g1
    obtain ⟨r0, r1⟩ := hb m (by omega)
    have m0 : (m : Int) < 4096 := by clear z0 z1 q2 q3 r0 r1; omega
    obtain ⟨p1, p2⟩ : wrap64 ((m : Int) + 1) = (m : Int) + 1 ∧ wrap64 ((m : Int) + 1 - 1) = (m : Int) := by
      clear z0 z1 q2 q3 r0 r1 c2 g1 g2 hb hn
      refine ⟨wrap_id (by omega) (by omega), ?_⟩
      rw [wrap_id (by omega) (by omega)]
      omega
    obtain ⟨r2, r3⟩ : wrap64 (rd L (m : Int)) = rd L (m : Int) ∧ wrap64 (q + rd L (m : Int)) = q + rd L (m : Int) := by
      clear p1 p2 c2 g1 g2 hb hn
      generalize rd L (m : Int) = r at r0 r1
      exact ⟨wrap_id (by omega) (by omega), wrap_id (by omega) (by omega)⟩
    have k1 : 0 ≤ (m : Int) + 1 ∧ (m : Int) + 1 ≤ (L.length : Int) := by clear p1 p2 r2 r3 z0 z1 q2 q3 r0 r1; omega
    have k2 : 0 ≤ q + rd L (m : Int) := by clear p1 p2 r2 r3 z0 z1; omega
    have k3 : 0 < n := by clear p1 p2 r2 r3 z0 z1 q2 q3 r0 r1; omega
    obtain ⟨a0, a1⟩ := tm_bd (x := rd L (m : Int)) (n := n) r0 k3
    obtain ⟨b0, b1⟩ := tm_bd (x := q + rd L (m : Int)) (n := n) k2 k3
    by_cases c4 : n ≤ 256
    · simp only [if_pos c2, if_pos g1, if_pos c4, p1, p2, r2, r3]
      by_cases c3 : Int.tmod ((m : Int) + 1) 2 = 0
      · rw [if_pos c3]
        exact ⟨_, _, _, rfl, ⟨k1.1, k1.2, z0, z1⟩, a0, a1⟩
      · rw [if_neg c3]
        exact ⟨_, _, _, rfl, ⟨k1.1, k1.2, z0, z1⟩, b0, b1⟩
    · simp only [if_pos c2, if_pos g1, if_neg c4, p1, p2, r2, r3]
      exact ⟨_, _, _, rfl, ⟨k1.1, k1.2, z0, z1⟩, b0, b1⟩
  · rw [if_neg c2]
    obtain ⟨b0, b1⟩ := tm_bd (x := q) (n := n) (by omega) (by omega)
    exact ⟨_, _, _, rfl, ⟨g1, g2, z0, z1⟩, b0, b1⟩
theorem pick_ok {L : List Int} (hL : By L) {p z : Int} (g : Gd L p z) (l : List Int) (h1 : 1 ≤ l.length) (h2 : l.length ≤ 256) : ∃ v p' z' : Int, spec_l01Pick.f L p z l = some (v, p', z') ∧ Gd L p' z' := by
  obtain ⟨v, p', z', e, g', v0, v1⟩ := next_ok hL g (l.length : Int) (by omega) (by omega)
  refine ⟨rd l v, p', z', ?_, g'⟩
  unfold spec_l01Pick.f
  rw [e, Option.bind_some, if_pos v0, if_pos v1]
theorem from_ev {L : List Int} (hL : By L) : ∃ z, Ev (fun k => spec_l01From.f k L) (L, 0, z) ∧ Gd L 0 z := by
  have loop : ∀ (d i : Nat) (z : Int), i + d = 64 → 0 ≤ z → z < 2147483647 → ∃ z', Ev (fun k => spec_l01From.l0 k L (i : Int) L 0 z) (L, 0, z') ∧ Gd L 0 z' := by
    intro d
    induction d with
    | zero =>
      intro i z hi h0 h1
      refine ⟨z, Ev.dn ?_, by omega, by omega, h0, h1⟩
      simp only [spec_l01From.l0, if_neg (show ¬ (i : Int) < 64 by omega), ite_self]
      exact Ev.now _
    | succ d ih =>
      intro i z hi h0 h1
      by_cases c : (i : Int) < (L.length : Int)
      · obtain ⟨r0, r1⟩ := hL.2 i (by omega)
        have w1 : wrap64 (z * 83) = z * 83 := wrap_id (by clear ih; omega) (by clear ih; omega)
        have w2 : wrap64 (rd L (i : Int)) = rd L (i : Int) := wrap_id (by clear ih; omega) (by clear ih; omega)
        have w3 : wrap64 (z * 83 + rd L (i : Int)) = z * 83 + rd L (i : Int) := wrap_id (by clear ih; omega) (by clear ih; omega)
        obtain ⟨z0, z1⟩ := tm_bd (x := z * 83 + rd L (i : Int)) (n := 2147483647) (by clear ih; omega) (by decide)
        obtain ⟨z', h2, h3⟩ := ih (i + 1) _ (by clear ih; omega) z0 z1
        refine ⟨z', Ev.dn ?_, h3⟩
        have hw := wrap_succ (i := i) (n := 64) (by clear ih; omega) (by omega)
        simp only [spec_l01From.l0, if_pos c, if_pos (show (i : Int) < 64 by clear ih; omega), if_pos (show (0 : Int) ≤ (i : Int) by clear ih; omega), w1, w2, w3, hw]
        exact h2
      · refine ⟨z, Ev.dn ?_, by omega, by omega, h0, h1⟩
        simp only [spec_l01From.l0, if_neg c]
        exact Ev.now _
  unfold spec_l01From.f
  exact loop 64 0 61043 (by omega) (by omega) (by omega)
theorem word_ok {L : List Int} (hL : By L) {p z : Int} (g : Gd L p z) : ∃ (w : ByteArray) (p' z' : Int), spec_l01DrawWord.f L p z = some (w, p', z') ∧ Gd L p' z' := by
  obtain ⟨v, p1, z1, e1, g1, _, _⟩ := next_ok hL g 24 (by omega) (by omega)
  unfold spec_l01DrawWord.f
  by_cases c : v = 0
  · obtain ⟨u, p2, z2, e2, g2, u0, u1⟩ := next_ok hL g1 6 (by omega) (by omega)
    simp only [e1, Option.bind_some, if_pos c, e2, if_pos u0]
    rw [if_pos (by simpa using u1)]
    exact ⟨_, _, _, rfl, g2⟩
  · obtain ⟨u, p2, z2, e2, g2, u0, u1⟩ := next_ok hL g1 12 (by omega) (by omega)
    simp only [e1, Option.bind_some, if_neg c, spec_l01Good.f, e2, if_pos u0]
    rw [if_pos (by simpa using u1)]
    exact ⟨_, _, _, rfl, g2⟩
theorem good03_ok {L : List Int} (hL : By L) {p z : Int} (g : Gd L p z) (w : ByteArray) : ∃ a b c d e f h i p' z' : Int, spec_l03Good.f L p z w = some (w, a, b, c, d, e, f, h, i, p', z') ∧ Gd L p' z' := by
  obtain ⟨v1, p1, z1, e1, g1, _, _⟩ := next_ok hL g 4 (by omega) (by omega)
  obtain ⟨v2, p2, z2, e2, g2, _, _⟩ := next_ok hL g1 281 (by omega) (by omega)
  obtain ⟨v3, p3, z3, e3, g3⟩ := pick_ok hL g2 [50, 75, 100, 150, wrap64 (20 + v2)] (by simp) (by simp)
  obtain ⟨v4, p4, z4, e4, g4, _, _⟩ := next_ok hL g3 5000 (by omega) (by omega)
  obtain ⟨v5, p5, z5, e5, g5, _, _⟩ := next_ok hL g4 300 (by omega) (by omega)
  obtain ⟨v6, p6, z6, e6, g6, _, _⟩ := next_ok hL g5 2000 (by omega) (by omega)
  obtain ⟨v7, p7, z7, e7, g7, _, _⟩ := next_ok hL g6 4 (by omega) (by omega)
  obtain ⟨v8, p8, z8, e8, g8, _, _⟩ := next_ok hL g7 8 (by omega) (by omega)
  obtain ⟨v9, p9, z9, e9, g9, _, _⟩ := next_ok hL g8 2000 (by omega) (by omega)
  unfold spec_l03Good.f
  simp only [e1, e2, e3, e4, e5, e6, e7, Option.bind_some]
  by_cases c1 : v1 = 1
  · simp only [if_pos c1, e8, e9, Option.bind_some]
    by_cases c2 : v1 = 2
    · simp only [if_pos c2]
      exact ⟨_, _, _, _, _, _, _, _, _, _, rfl, g9⟩
    · simp only [if_neg c2]
      exact ⟨_, _, _, _, _, _, _, _, _, _, rfl, g9⟩
  · simp only [if_neg c1]
    by_cases c2 : v1 = 2
    · simp only [if_pos c2]
      exact ⟨_, _, _, _, _, _, _, _, _, _, rfl, g7⟩
    · simp only [if_neg c2]
      exact ⟨_, _, _, _, _, _, _, _, _, _, rfl, g7⟩
def RQ (L : List Int) (f : Nat → Option (List S67 × Int × Int × List Int × List ByteArray × Int × Int)) : Prop :=
  ∃ (l : List S67) (x y : Int) (T : List Int) (N : List ByteArray) (p z : Int), Ev f (l, x, y, T, N, p, z) ∧ l.length ≤ 100 ∧ szOkA l ∧ T.length ≤ 60 ∧ N.length ≤ 80 ∧ 1 ≤ T.length ∧ 1 ≤ N.length ∧ Gd L p z
theorem RQ.dn {L : List Int} {f : Nat → Option (List S67 × Int × Int × List Int × List ByteArray × Int × Int)} (h : RQ L (fun k => f (k + 1))) : RQ L f := by
  obtain ⟨l, x, y, T, N, p, z, e, r⟩ := h
  exact ⟨l, x, y, T, N, p, z, Ev.dn e, r⟩
theorem RQ.now {L : List Int} {l : List S67} {x y : Int} {T : List Int} {N : List ByteArray} {p z : Int} (h1 : l.length ≤ 100) (h2 : szOkA l) (h3 : T.length ≤ 60) (h4 : N.length ≤ 80) (h5 : 1 ≤ T.length) (h6 : 1 ≤ N.length) (h7 : Gd L p z) : RQ L (fun _ => some (l, x, y, T, N, p, z)) := ⟨l, x, y, T, N, p, z, Ev.now _, h1, h2, h3, h4, h5, h6, h7⟩
theorem RQ.bind {α : Type} {L : List Int} {f : Nat → Option α} {r : α} {q : Nat → α → Option (List S67 × Int × Int × List Int × List ByteArray × Int × Int)} (h : Ev f r) (k : RQ L (fun n => q n r)) : RQ L (fun n => (f n).bind (q n)) := by
  obtain ⟨l, x, y, T, N, p, z, e, r⟩ := k
  exact ⟨l, x, y, T, N, p, z, Ev.bind h e, r⟩
theorem szOkA_snoc {l : List S67} (h : szOkA l) (a : S67) (ha : a.f0.size ≤ 9223372036854775807) : szOkA (l ++ [a]) := by
  intro j hj
  rw [List.length_append, List.length_singleton] at hj
  by_cases c : j < l.length
  · rw [show rd_T67 (l ++ [a]) (j : Int) = rd_T67 l (j : Int) by simp [rd_T67, List.getElem?_append_left c]]
    exact h j c
  · obtain rfl : j = l.length := by omega
    rw [show rd_T67 (l ++ [a]) ((l.length : Nat) : Int) = a by simp [rd_T67]]
    exact ha
theorem good17_l2 {L : List Int} (hL : By L) (l : List S67) (hl : l.length ≤ 100) (hz : szOkA l) : ∀ (c : Nat), c ≤ 100 → ∀ (x y : Int) (T : List Int) (N : List ByteArray) (p z : Int), Gd L p z → T.length ≤ 50 → N.length = T.length → 1 ≤ T.length → RQ L (fun k => spec_l17Good.l2 k l (c : Int) L p z x y T N) := by
  have fin : ∀ (n x y : Int) (T : List Int) (N : List ByteArray) (p z : Int), Gd L p z → T.length ≤ 50 → N.length = T.length → 1 ≤ T.length → RQ L (fun k => spec_l17Good.j3 k l n false L p z x y T N) := by
    intro n x y T N p z g h1 h2 h3
    refine RQ.dn ?_
    simp only [spec_l17Good.j3, Bool.false_eq_true, if_false]
    exact RQ.now hl hz (by omega) (by omega) h3 (by omega) g
  intro c
  induction c with
  | zero =>
    intro _ x y T N p z g h1 h2 h3
    refine RQ.dn ?_
    simp only [spec_l17Good.l2, if_neg (show ¬ ((0 : Nat) : Int) > 0 by decide)]
    exact fin _ x y T N p z g h1 h2 h3
  | succ c ih =>
    intro hc x y T N p z g h1 h2 h3
    refine RQ.dn ?_
    simp only [spec_l17Good.l2, if_pos (show ((c + 1 : Nat) : Int) > 0 by omega)]
    by_cases e : l.length = 0
    · rw [decide_eq_false (show ¬ (l.length : Int) > 0 by omega)]
      exact fin _ x y T N p z g h1 h2 h3
    · rw [decide_eq_true (show (l.length : Int) > 0 by omega)]
      obtain ⟨v, p1, z1, e1, g1, v0, v1⟩ := next_ok hL g (l.length : Int) (by omega) (by omega)
      obtain ⟨x', y', T', N', b, cc, s1, _, _, _, s5⟩ := LoadBest_is l x y T N ((rd_T67 l v).f0) (by omega) hz (by omega)
      have hw : wrap64 (((c + 1 : Nat) : Int) - 1) = (c : Int) := by rw [wrap_id (by omega) (by omega)]; omega
      refine RQ.dn ?_
      simp only [spec_l17Good.j3, if_true, e1, Option.bind_some, if_pos v0, if_pos v1, hw]
      refine RQ.bind s1 ?_
      by_cases q : cc = 0
      · obtain ⟨_, _, _, _, rfl, rfl, _, _⟩ := s5 q
        simp only [if_pos q]
        exact ih (by omega) x' y' T' _ p1 z1 g1 h1 (by rw [List.length_set]; exact h2) h3
      · simp only [if_neg q]
        exact ih (by omega) x y T N p1 z1 g1 h1 h2 h3
theorem good17_l1 {L : List Int} (hL : By L) (l : List S67) (hl : l.length ≤ 100) (hz : szOkA l) (x y : Int) : ∀ (c : Nat) (T : List Int) (N : List ByteArray) (p z : Int), Gd L p z → T.length + c ≤ 50 → N.length = T.length → 1 ≤ T.length + c → RQ L (fun k => spec_l17Good.l1 k l (c : Int) L p z x y T N) := by
  intro c
  induction c with
  | zero =>
    intro T N p z g h1 h2 h3
    obtain ⟨v, p1, z1, e1, g1, v0, v1⟩ := next_ok hL g 6 (by omega) (by omega)
    obtain ⟨n, rfl⟩ : ∃ n : Nat, v = (n : Int) := ⟨v.toNat, by omega⟩
    refine RQ.dn ?_
    simp only [spec_l17Good.l1, if_neg (show ¬ ((0 : Nat) : Int) > 0 by decide), e1, Option.bind_some]
    exact good17_l2 hL l hl hz n (by omega) x y T N p1 z1 g1 (by omega) h2 (by omega)
  | succ c ih =>
    intro T N p z g h1 h2 h3
    obtain ⟨v, p1, z1, e1, g1⟩ := pick_ok hL g [50, 75, 100, 55, 80] (by decide) (by decide)
    have hw : wrap64 (((c + 1 : Nat) : Int) - 1) = (c : Int) := by rw [wrap_id (by omega) (by omega)]; omega
    refine RQ.dn ?_
    simp only [spec_l17Good.l1, if_pos (show ((c + 1 : Nat) : Int) > 0 by omega), e1, Option.bind_some, hw, if_pos (show T.length < 17592186044416 by omega), if_pos (show N.length < 8796093022208 by omega)]
    exact ih (T ++ [v]) (N ++ [(⟨#[]⟩ : ByteArray)]) p1 z1 g1 (by rw [List.length_append, List.length_singleton]; omega) (by rw [List.length_append, List.length_append, List.length_singleton, List.length_singleton]; omega) (by rw [List.length_append, List.length_singleton]; omega)
theorem good17_l0 {L : List Int} (hL : By L) (W : List ByteArray) (hW : W.length ≤ 10) (hs : ∀ j : Nat, j < W.length → (rdOf ByteArray.empty W (j : Int)).size ≤ 9223372036854775807) : ∀ (d i : Nat) (l : List S67) (p z : Int), i + d = W.length → Gd L p z → l.length ≤ i → szOkA l → RQ L (fun k => spec_l17Good.l0 k l W (i : Int) L p z) := by
  intro d
  induction d with
  | zero =>
    intro i l p z hi g hl hz
    obtain ⟨v1, p1, z1, e1, g1, _, _⟩ := next_ok hL g 2000 (by omega) (by omega)
    obtain ⟨v2, p2, z2, e2, g2, _, _⟩ := next_ok hL g1 2000 (by omega) (by omega)
    obtain ⟨v, p3, z3, e3, g3, v0, w1⟩ := next_ok hL g2 7 (by omega) (by omega)
    obtain ⟨n, rfl⟩ : ∃ n : Nat, v = (n : Int) := ⟨v.toNat, by omega⟩
    have hw : wrap64 (1 + (n : Int)) = ((1 + n : Nat) : Int) := by rw [wrap_id (by omega) (by omega)]; omega
    refine RQ.dn ?_
    simp only [spec_l17Good.l0, if_neg (show ¬ (i : Int) < (W.length : Int) by omega), e1, e2, e3, Option.bind_some, hw]
    exact good17_l1 hL l (by omega) hz v1 v2 (1 + n) [] [] p3 z3 g3 (by simp; omega) (by simp) (by simp)
  | succ d ih =>
    intro i l p z hi g hl hz
    obtain ⟨v1, p1, z1, e1, g1, _, _⟩ := next_ok hL g 3 (by omega) (by omega)
    have hw := wrap_succ (show i < W.length by omega) (show W.length ≤ 9223372036854775807 by omega)
    refine RQ.dn ?_
    simp only [spec_l17Good.l0, if_pos (show (i : Int) < (W.length : Int) by omega), e1, Option.bind_some, hw]
    by_cases c : v1 > 0
    · obtain ⟨a, b, cc, dd, e, f, h, i2, p2, z2, e2, g2⟩ := good03_ok hL g1 (rdOf ByteArray.empty W (i : Int))
      obtain ⟨v3, p3, z3, e3, g3⟩ := pick_ok hL g2 [50, 72, 75, 100, 98] (by decide) (by decide)
      simp only [if_pos c, if_pos (show (0 : Int) ≤ (i : Int) by omega), e2, e3, Option.bind_some, if_pos (show l.length < 1759218604441 by omega)]
      exact ih (i + 1) _ p3 z3 (by omega) g3 (by rw [List.length_append, List.length_singleton]; omega) (szOkA_snoc hz _ (hs i (by omega)))
    · simp only [if_neg c]
      exact ih (i + 1) l p1 z1 (by omega) g1 (by omega) hz
theorem szOkA_nil : szOkA [] := fun j hj => absurd hj (by simp)
theorem good17_ok {L : List Int} (hL : By L) {p z : Int} (g : Gd L p z) : RQ L (fun k => spec_l17Good.f k L p z) := by
  unfold spec_l17Good.f spec_l03Names.f
  simp only [Option.bind_some]
  refine good17_l0 hL _ (by simp) (fun j hj => ?_) 6 0 [] p z (by simp) g (by simp) szOkA_nil
  have h6 : j < 6 := by simpa using hj
  have : ∀ j : Nat, j < 6 → (rdOf ByteArray.empty [(⟨#[97, 115, 116, 101, 114]⟩ : ByteArray), (⟨#[99, 111, 109, 101, 116]⟩ : ByteArray), (⟨#[100, 97, 104, 108, 105, 97]⟩ : ByteArray), (⟨#[112, 97, 108, 109]⟩ : ByteArray), (⟨#[112, 101, 111, 110, 121]⟩ : ByteArray), (⟨#[119, 105, 108, 108, 111, 119]⟩ : ByteArray)] (j : Int)).size ≤ 9223372036854775807 := by decide
  exact this j h6
def RR (L : List Int) (f : Nat → Option (List S67 × Int × Int × List Int × List ByteArray × Int × Int)) : Prop :=
  ∃ (l : List S67) (x y : Int) (T : List Int) (N : List ByteArray) (p z : Int), Ev f (l, x, y, T, N, p, z) ∧ l.length ≤ 100 ∧ szOkA l ∧ T.length ≤ 200 ∧ N.length ≤ 200 ∧ Gd L p z
theorem RR.dn {L : List Int} {f : Nat → Option (List S67 × Int × Int × List Int × List ByteArray × Int × Int)} (h : RR L (fun k => f (k + 1))) : RR L f := by
  obtain ⟨l, x, y, T, N, p, z, e, r⟩ := h
  exact ⟨l, x, y, T, N, p, z, Ev.dn e, r⟩
theorem RR.now {L : List Int} {l : List S67} {x y : Int} {T : List Int} {N : List ByteArray} {p z : Int} (h1 : l.length ≤ 100) (h2 : szOkA l) (h3 : T.length ≤ 200) (h4 : N.length ≤ 200) (h7 : Gd L p z) : RR L (fun _ => some (l, x, y, T, N, p, z)) := ⟨l, x, y, T, N, p, z, Ev.now _, h1, h2, h3, h4, h7⟩
theorem RR.bind {α : Type} {L : List Int} {f : Nat → Option α} {r : α} {q : Nat → α → Option (List S67 × Int × Int × List Int × List ByteArray × Int × Int)} (h : Ev f r) (k : RR L (fun n => q n r)) : RR L (fun n => (f n).bind (q n)) := by
  obtain ⟨l, x, y, T, N, p, z, e, r⟩ := k
  exact ⟨l, x, y, T, N, p, z, Ev.bind h e, r⟩
theorem draw17_l0 {L : List Int} (hL : By L) (l : List S67) (hl : l.length ≤ 100) (hz : szOkA l) (x y : Int) : ∀ (d : Nat) (T : List Int) (N : List ByteArray) (p z : Int), Gd L p z → 13 ≤ T.length + d → T.length + d ≤ 200 → N.length + d ≤ 200 → RR L (fun k => spec_l17Draw.l0 k l L p z x y T N) := by
  intro d
  induction d with
  | zero =>
    intro T N p z g h1 h2 h3
    obtain ⟨v, p1, z1, e1, g1, v0, v1⟩ := next_ok hL g 2 (by omega) (by omega)
    have hw : wrap64 (12 + v) = 12 + v := wrap_id (by omega) (by omega)
    refine RR.dn ?_
    simp only [spec_l17Draw.l0, e1, Option.bind_some, hw, if_neg (show ¬ (T.length : Int) < 12 + v by omega)]
    exact RR.now hl hz (by omega) (by omega) g1
  | succ d ih =>
    intro T N p z g h1 h2 h3
    obtain ⟨v, p1, z1, e1, g1, v0, v1⟩ := next_ok hL g 2 (by omega) (by omega)
    have hw : wrap64 (12 + v) = 12 + v := wrap_id (by omega) (by omega)
    refine RR.dn ?_
    simp only [spec_l17Draw.l0, e1, Option.bind_some, hw]
    by_cases c : (T.length : Int) < 12 + v
    · simp only [if_pos c, if_pos (show T.length < 17592186044416 by omega), if_pos (show N.length < 8796093022208 by omega)]
      exact ih (T ++ [60]) (N ++ [(⟨#[]⟩ : ByteArray)]) p1 z1 g1 (by rw [List.length_append, List.length_singleton]; omega) (by rw [List.length_append, List.length_singleton]; omega) (by rw [List.length_append, List.length_singleton]; omega)
    · simp only [if_neg c]
      exact RR.now hl hz (by omega) (by omega) g1
theorem draw17_ok {L : List Int} (hL : By L) {p z : Int} (g : Gd L p z) : RR L (fun k => spec_l17Draw.f k L p z) := by
  obtain ⟨l, x, y, T, N, p1, z1, h0, n1, n2, n3, n4, n5, n6, g1⟩ := good17_ok hL g
  obtain ⟨v, p2, z2, e2, g2, _, _⟩ := next_ok hL g1 40 (by omega) (by omega)
  unfold spec_l17Draw.f
  refine RR.bind h0 ?_
  simp only [e2, Option.bind_some]
  by_cases c0 : v = 0
  · simp only [if_pos c0, if_pos (show N.length < 8796093022208 by omega)]
    exact RR.now n1 n2 (by omega) (by rw [List.length_append, List.length_singleton]; omega) g2
  simp only [if_neg c0]
  by_cases c1 : v = 1
  · obtain ⟨u, p3, z3, e3, g3⟩ := pick_ok hL g2 [19, 20, 300, 301] (by decide) (by decide)
    simp only [if_pos c1, e3, Option.bind_some, if_pos (show (0 : Int) < (T.length : Int) by omega)]
    exact RR.now n1 n2 (by rw [List.length_set]; omega) (by omega) g3
  simp only [if_neg c1]
  by_cases c2 : v = 2
  · obtain ⟨w, p3, z3, e3, g3⟩ := word_ok hL g2
    simp only [if_pos c2, e3, Option.bind_some, if_pos (show (0 : Int) < (N.length : Int) by omega)]
    exact RR.now n1 n2 (by omega) (by rw [List.length_set]; omega) g3
  simp only [if_neg c2]
  by_cases c3 : v = 3
  · obtain ⟨u, p3, z3, e3, g3⟩ := pick_ok hL g2 [(-1), 100000, 100001] (by decide) (by decide)
    simp only [if_pos c3, e3, Option.bind_some]
    exact RR.now n1 n2 (by omega) (by omega) g3
  simp only [if_neg c3]
  by_cases c4 : v = 4
  · simp only [if_pos c4]
    exact draw17_l0 hL l n1 n2 x y (13 - T.length) T N p2 z2 g2 (by omega) (by omega) (by omega)
  · simp only [if_neg c4]
    exact RR.now n1 n2 (by omega) (by omega) g2
theorem name17_ok {L : List Int} (hL : By L) {p z : Int} (g : Gd L p z) (l : List S67) (hl : l.length ≤ 100) : ∃ (w : ByteArray) (p' z' : Int), Ev (fun k => spec_l17Name.f k L p z l) (w, p', z') ∧ Gd L p' z' := by
  have no : ∀ p z, Gd L p z → ∃ (w : ByteArray) (p' z' : Int), Ev (fun k => spec_l17Name.j0 k l false L p z) (w, p', z') ∧ Gd L p' z' := by
    intro p z g
    obtain ⟨v, p1, z1, e1, g1, v0, v1⟩ := next_ok hL g 4 (by omega) (by omega)
    refine ⟨_, p1, z1, Ev.dn (?_ : Ev _ (rdOf ByteArray.empty [(⟨#[110, 111, 110, 101]⟩ : ByteArray), (⟨#[]⟩ : ByteArray), (⟨#[45]⟩ : ByteArray), (⟨#[112, 101, 111, 110, 121]⟩ : ByteArray)] v, p1, z1)), g1⟩
    simp only [spec_l17Name.j0, Bool.false_eq_true, if_false, Option.bind_some, e1, if_pos v0]
    refine (Ev.now _).eq' (fun k => ?_)
    rw [if_pos (by simpa using v1)]
  unfold spec_l17Name.f
  by_cases c : (l.length : Int) > 0
  · obtain ⟨v, p1, z1, e1, g1, _, _⟩ := next_ok hL g 8 (by omega) (by omega)
    by_cases q : v > 0
    · obtain ⟨u, p2, z2, e2, g2, u0, u1⟩ := next_ok hL g1 (l.length : Int) (by omega) (by omega)
      refine ⟨(rd_T67 l u).f0, p2, z2, ?_, g2⟩
      simp only [if_pos c, e1, Option.bind_some, decide_eq_true q]
      refine Ev.dn ?_
      simp only [spec_l17Name.j0, if_true, e2, Option.bind_some, if_pos u0, if_pos u1]
      exact Ev.now _
    · obtain ⟨w, p2, z2, h, g2⟩ := no p1 z1 g1
      refine ⟨w, p2, z2, ?_, g2⟩
      simp only [if_pos c, e1, Option.bind_some, decide_eq_false q]
      exact h
  · obtain ⟨w, p2, z2, h, g2⟩ := no p z g
    refine ⟨w, p2, z2, ?_, g2⟩
    simp only [if_neg c]
    exact h
theorem likeInts_refl (l : List Int) (hn : l.length ≤ 1000000) : Ev (fun k => laws_likeInts.f k l l) true := by
  unfold laws_likeInts.f
  simp only [if_true]
  have h := Ev.allLoop (l := fun k j => laws_likeInts.l0 k l l j) (n := l.length) (fun _ => true) false true
    (fun j hj => Evt.all fun k => by
      simp only [laws_likeInts.l0]
      rw [if_pos (by omega), if_pos (by omega), if_pos (by omega), wrap_succ hj (by omega)])
    (Evt.all fun k => by
      simp only [laws_likeInts.l0]
      rw [if_neg (by omega)]) l.length 0 (by omega)
  refine Ev.eq h ?_
  rw [(allD_iff _ _ _).2 (fun _ _ _ => rfl)]
  rfl
theorem likeTexts_ev (N M : List ByteArray) (hn : N.length ≤ 1000000) (e : N.length = M.length) (h : ∀ j : Nat, j < N.length → (rdOf ByteArray.empty N (j : Int)).toList = (rdOf ByteArray.empty M (j : Int)).toList) : Ev (fun k => laws_likeTexts.f k N M) true := by
  have loop : ∀ d i, i + d = N.length → Ev (fun k => laws_likeTexts.l0 k N M (i : Int)) true := by
    intro d
    induction d with
    | zero =>
      intro i hi
      refine Ev.dn ?_
      simp only [laws_likeTexts.l0, if_neg (show ¬ (i : Int) < (N.length : Int) by omega)]
      exact Ev.now _
    | succ d ih =>
      intro i hi
      have hil : i < N.length := by omega
      have h1 := ih (i + 1) (by omega)
      refine Ev.dn ?_
      simp only [laws_likeTexts.l0, if_pos (show (i : Int) < (N.length : Int) by omega), if_pos (show (0 : Int) ≤ (i : Int) by omega), if_pos (show (i : Int) < (M.length : Int) by omega), if_pos (h i hil), wrap_succ hil (show N.length ≤ 9223372036854775807 by omega)]
      exact h1
  unfold laws_likeTexts.f
  simp only [if_pos (show (N.length : Int) = (M.length : Int) by omega)]
  exact loop N.length 0 (by omega)
theorem likeRack_ev (x y : Int) (T : List Int) (N M : List ByteArray) (hT : T.length ≤ 1000000) (hn : N.length ≤ 1000000) (e : N.length = M.length) (h : ∀ j : Nat, j < N.length → (rdOf ByteArray.empty N (j : Int)).toList = (rdOf ByteArray.empty M (j : Int)).toList) : Ev (fun k => laws_likeRack.f k x y T N x y T M) true := by
  unfold laws_likeRack.f
  simp only [if_true]
  refine Ev.bind (likeInts_refl T hT) ?_
  simp only [if_true]
  exact Ev.bind (likeTexts_ev N M hn e h) (Ev.now _)
theorem rdOf_set (L : List ByteArray) (b j : Nat) (w : ByteArray) (hb : b < L.length) : rdOf ByteArray.empty (L.set b w) (j : Int) = if j = b then w else rdOf ByteArray.empty L (j : Int) := by
  unfold rdOf
  rw [Int.toNat_natCast]
  by_cases e : j = b
  · subst e
    rw [if_pos rfl]
    simp [List.getD, hb]
  · rw [if_neg e]
    simp [List.getD, List.getElem?_set_ne (Ne.symm e)]
theorem rack_set {l : List S67} {x y : Int} {T : List Int} {L : List ByteArray} (h : rackOk l x y T L = true) {b : Nat} (hb : b < T.length) (w : ByteArray) (hw : w.toList = [] ∨ (¬ fnd l w < 0 ∧ fitB (rd_T67 l (fnd l w)) (rd T (b : Int)) = true)) : rackOk l x y T (L.set b w) = true := by
  obtain ⟨_, e, _⟩ := rackOk_len h
  unfold rackOk at h ⊢
  simp only [Bool.and_eq_true, decide_eq_true_eq, List.length_set] at h ⊢
  refine ⟨h.1, ?_⟩
  have h2 := h.2
  rw [allD_iff] at h2 ⊢
  intro j h0 hj
  have := h2 j h0 hj
  unfold rkI at this ⊢
  rw [rdOf_set L b j w (by omega)]
  by_cases q : j = b
  · subst q
    rw [if_pos rfl]
    rcases hw with q | ⟨q1, q2⟩
    · rw [decide_eq_true q, Bool.true_or]
    · rw [decide_eq_false q1, q2]
      simp
  · rw [if_neg q]
    exact this
theorem LoadTube_is (l : List S67) (x y : Int) (T : List Int) (L : List ByteArray) (a : Int) (w : ByteArray) (hn : l.length ≤ 1000000) (hz : szOkA l) (hT : T.length ≤ 1000000) :
    ∃ (x' y' : Int) (T' : List Int) (L' : List ByteArray) (c : Int), Ev (fun k => spec_LoadTube.f k l x y T L a w) (x', y', T', L', c) ∧ Ev (fun k => impl_LoadTube.f k l x y T L a w) (x', y', T', L', c) ∧ T'.length ≤ 1000000 ∧ L'.length ≤ 1000000 ∧ (c = 0 → rackOk l x y T L = true ∧ 0 ≤ a ∧ a < (T.length : Int) ∧ ¬ fnd l w < 0 ∧ fitB (rd_T67 l (fnd l w)) (rd T a) = true ∧ x' = x ∧ y' = y ∧ T' = T ∧ L' = L.set a.toNat w) := by
  have hc := spec_named_ev l x y T L a w hn hz hT
  have hi := impl_IsRack_ev l x y T L hn hz hT
  unfold spec_LoadTube.f impl_LoadTube.f
  cases c : rackOk l x y T L with
  | false =>
    rw [c] at hi
    rw [show cdN l x y T L a w = 1 by simp [cdN, cdR, c]] at hc
    refine ⟨0, 0, [], [], 1, Ev.bind hc ?_, Ev.bind hi ?_, by simp, by simp, fun h => absurd h (by decide)⟩
    · simp only [show ¬ ((1 : Int) = 0) by decide, if_false]
      refine Ev.dn ?_
      simp only [spec_LoadTube.j0, Bool.false_eq_true, if_false, show ¬ ((1 : Int) = 0) by decide]
      exact Ev.now _
    · simp only [Bool.false_eq_true, if_false]; exact Ev.now _
  | true =>
    rw [c] at hi
    obtain ⟨_, e, h1, h2, _, _⟩ := rackOk_len c
    cases q : rin a 0 ((T.length : Int) - 1) with
    | false =>
      rw [show cdN l x y T L a w = 2 by simp [cdN, cdR, c, q]] at hc
      refine ⟨0, 0, [], [], 2, Ev.bind hc ?_, Ev.bind hi ?_, by simp, by simp, fun h => absurd h (by decide)⟩
      · simp only [show ¬ ((2 : Int) = 0) by decide, if_false]
        refine Ev.dn ?_
        simp only [spec_LoadTube.j0, Bool.false_eq_true, if_false, show ¬ ((2 : Int) = 0) by decide]
        exact Ev.now _
      · simp only [if_true, index_eq a T.length hT, q, Option.bind_some, Bool.false_eq_true, if_false]; exact Ev.now _
    | true =>
      have e0 : cdR l x y T L a = 0 := by simp [cdR, c, q]
      obtain ⟨q0, q1⟩ := rin_iff.1 q
      have q2 : a < (L.length : Int) := by omega
      have q3 : a < (T.length : Int) := by omega
      by_cases f : fnd l w < 0
      · rw [show cdN l x y T L a w = 4 by simp [cdN, e0, f]] at hc
        refine ⟨0, 0, [], [], 4, Ev.bind hc ?_, Ev.bind hi ?_, by simp, by simp, fun h => absurd h (by decide)⟩
        · simp only [show ¬ ((4 : Int) = 0) by decide, if_false]
          refine Ev.dn ?_
          simp only [spec_LoadTube.j0, Bool.false_eq_true, if_false, show ¬ ((4 : Int) = 0) by decide]
          exact Ev.now _
        · simp only [if_true, index_eq a T.length hT, q, Option.bind_some]
          refine Ev.bind (impl_find_ev l w hn) ?_
          simp only [if_pos f]; exact Ev.now _
      · rw [show cdN l x y T L a w = 0 by simp only [cdN, e0, if_true, if_neg f]] at hc
        obtain ⟨g1, g2⟩ := fnd_in l w f
        by_cases z : (rdOf ByteArray.empty L a).toList = []
        · cases ft : fitB (rd_T67 l (fnd l w)) (rd T a) with
          | false =>
            refine ⟨0, 0, [], [], 5, Ev.bind hc ?_, Ev.bind hi ?_, by simp, by simp, fun h => absurd h (by decide)⟩
            · simp only [if_true, if_pos q0, if_pos q2, if_pos z]
              refine Ev.bind (spec_find_ev l w hn) ?_
              simp only [if_pos g1, if_pos g2, if_pos q3, spec_fits_eq, Option.bind_some, ft, Bool.not_false]
              refine Ev.dn ?_
              simp only [spec_LoadTube.j0, if_true, show ¬ ((5 : Int) = 0) by decide, if_false]
              exact Ev.now _
            · simp only [if_true, index_eq a T.length hT, q, Option.bind_some]
              refine Ev.bind (impl_find_ev l w hn) ?_
              simp only [if_neg f, if_pos q0, if_pos q2, if_pos z, if_pos g1, if_pos g2, if_pos q3, impl_fits_eq, Option.bind_some, ft, Bool.false_eq_true, if_false]
              exact Ev.now _
          | true =>
            refine ⟨x, y, T, L.set a.toNat w, 0, Ev.bind hc ?_, Ev.bind hi ?_, hT, by rw [List.length_set]; omega, fun _ => ⟨rfl, q0, q3, f, rfl, rfl, rfl, rfl, rfl⟩⟩
            · simp only [if_true, if_pos q0, if_pos q2, if_pos z]
              refine Ev.bind (spec_find_ev l w hn) ?_
              simp only [if_pos g1, if_pos g2, if_pos q3, spec_fits_eq, Option.bind_some, ft, Bool.not_true]
              refine Ev.dn ?_
              simp only [spec_LoadTube.j0, Bool.false_eq_true, if_false, if_true]
              exact Ev.bind (with_spec x y T L a w hT (by omega) q0 q2) (Ev.now _)
            · simp only [if_true, index_eq a T.length hT, q, Option.bind_some]
              refine Ev.bind (impl_find_ev l w hn) ?_
              simp only [if_neg f, if_pos q0, if_pos q2, if_pos z, if_pos g1, if_pos g2, if_pos q3, impl_fits_eq, Option.bind_some, ft, if_true]
              exact Ev.bind (with_impl x y T L a w hT (by omega) q0 q2) (Ev.now _)
        · refine ⟨0, 0, [], [], 5, Ev.bind hc ?_, Ev.bind hi ?_, by simp, by simp, fun h => absurd h (by decide)⟩
          · simp only [if_true, if_pos q0, if_pos q2, if_neg z]
            refine Ev.dn ?_
            simp only [spec_LoadTube.j0, if_true, show ¬ ((5 : Int) = 0) by decide, if_false]
            exact Ev.now _
          · simp only [if_true, index_eq a T.length hT, q, Option.bind_some]
            refine Ev.bind (impl_find_ev l w hn) ?_
            simp only [if_neg f, if_pos q0, if_pos q2, if_neg z]
            exact Ev.now _
theorem UnloadTube_is (l : List S67) (x y : Int) (T : List Int) (L : List ByteArray) (a : Int) (hn : l.length ≤ 1000000) (hz : szOkA l) (hT : T.length ≤ 1000000) :
    ∃ (x' y' : Int) (T' : List Int) (L' : List ByteArray) (s : ByteArray) (c : Int), Ev (fun k => spec_UnloadTube.f k l x y T L a) (x', y', T', L', s, c) ∧ Ev (fun k => impl_UnloadTube.f k l x y T L a) (x', y', T', L', s, c) ∧ T'.length ≤ 1000000 ∧ L'.length ≤ 1000000 ∧ (c = 0 → rackOk l x y T L = true ∧ 0 ≤ a ∧ a < (T.length : Int) ∧ ¬ (rdOf ByteArray.empty L a).toList = [] ∧ x' = x ∧ y' = y ∧ T' = T ∧ L' = L.set a.toNat ⟨#[]⟩ ∧ s = rdOf ByteArray.empty L a) := by
  have hc := spec_code_ev l x y T L a hn hz hT
  have hi := impl_IsRack_ev l x y T L hn hz hT
  unfold spec_UnloadTube.f impl_UnloadTube.f
  cases c : rackOk l x y T L with
  | false =>
    rw [c] at hi
    rw [show cdR l x y T L a = 1 by simp [cdR, c]] at hc
    refine ⟨0, 0, [], [], ⟨#[]⟩, 1, Ev.bind hc ?_, Ev.bind hi ?_, by simp, by simp, fun h => absurd h (by decide)⟩
    · simp only [show ¬ ((1 : Int) = 0) by decide, if_false]
      refine Ev.dn ?_
      simp only [spec_UnloadTube.j0, Bool.false_eq_true, if_false, show ¬ ((1 : Int) = 0) by decide]
      exact Ev.now _
    · simp only [Bool.false_eq_true, if_false]; exact Ev.now _
  | true =>
    rw [c] at hi
    obtain ⟨_, e, h1, h2, _, _⟩ := rackOk_len c
    cases q : rin a 0 ((T.length : Int) - 1) with
    | false =>
      rw [show cdR l x y T L a = 2 by simp [cdR, c, q]] at hc
      refine ⟨0, 0, [], [], ⟨#[]⟩, 2, Ev.bind hc ?_, Ev.bind hi ?_, by simp, by simp, fun h => absurd h (by decide)⟩
      · simp only [show ¬ ((2 : Int) = 0) by decide, if_false]
        refine Ev.dn ?_
        simp only [spec_UnloadTube.j0, Bool.false_eq_true, if_false, show ¬ ((2 : Int) = 0) by decide]
        exact Ev.now _
      · simp only [if_true, index_eq a T.length hT, q, Option.bind_some, Bool.false_eq_true, if_false]; exact Ev.now _
    | true =>
      rw [show cdR l x y T L a = 0 by simp [cdR, c, q]] at hc
      obtain ⟨q0, q1⟩ := rin_iff.1 q
      have q2 : a < (L.length : Int) := by omega
      by_cases z : (rdOf ByteArray.empty L a).toList = []
      · refine ⟨0, 0, [], [], ⟨#[]⟩, 5, Ev.bind hc ?_, Ev.bind hi ?_, by simp, by simp, fun h => absurd h (by decide)⟩
        · simp only [if_true, if_pos q0, if_pos q2, z, beq_self_eq_true]
          refine Ev.dn ?_
          simp only [spec_UnloadTube.j0, if_true, show ¬ ((5 : Int) = 0) by decide, if_false]
          exact Ev.now _
        · simp only [if_true, index_eq a T.length hT, q, Option.bind_some, if_pos q0, if_pos q2, if_pos z]; exact Ev.now _
      · refine ⟨x, y, T, L.set a.toNat ⟨#[]⟩, rdOf ByteArray.empty L a, 0, Ev.bind hc ?_, Ev.bind hi ?_, hT, by rw [List.length_set]; omega, fun _ => ⟨rfl, q0, by omega, z, rfl, rfl, rfl, rfl, rfl⟩⟩
        · simp only [if_true, if_pos q0, if_pos q2, beq_eq_false_iff_ne.2 z]
          refine Ev.dn ?_
          simp only [spec_UnloadTube.j0, Bool.false_eq_true, if_false, if_true]
          refine Ev.bind (with_spec x y T L a _ hT (by omega) q0 q2) ?_
          simp only [if_pos q0, if_pos q2]
          exact Ev.now _
        · simp only [if_true, index_eq a T.length hT, q, Option.bind_some, if_pos q0, if_pos q2, if_neg z]
          exact Ev.bind (with_impl x y T L a _ hT (by omega) q0 q2) (Ev.now _)
theorem fndD_congr (l : List S67) {v w : ByteArray} (h : v.toList = w.toList) : ∀ d i, fndD l v d i = fndD l w d i
  | 0, _ => rfl
  | d + 1, i => by simp only [fndD, h, fndD_congr l h d (i + 1)]
theorem fnd_self (l : List S67) (w : ByteArray) (h : ¬ fnd l w < 0) : fnd l (rd_T67 l (fnd l w)).f0 = fnd l w := by
  rcases fnd_ok l w with h1 | ⟨j, h1, h2, h3⟩
  · rw [h1] at h; exact absurd (by decide) h
  · rw [h2, ← h2]
    have e : (rd_T67 l (fnd l w)).f0.toList = w.toList := by rw [h2]; exact h3
    exact fndD_congr l e _ _
def ldL (l : List S67) (L : List ByteArray) : Nat → Nat → List S67
  | 0, _ => []
  | d + 1, i => if (rdOf ByteArray.empty L (i : Int)).toList = [] then ldL l L d (i + 1) else rd_T67 l (fnd l (rdOf ByteArray.empty L (i : Int))) :: ldL l L d (i + 1)
theorem ldL_len (l : List S67) (L : List ByteArray) : ∀ d i, (ldL l L d i).length ≤ d
  | 0, _ => Nat.le_refl _
  | d + 1, i => by
    have := ldL_len l L d (i + 1)
    simp only [ldL]
    split
    · omega
    · simp; omega
def cf (l : List S67) (out : List Int) (a : S67) : List Int := out.set (fnd l a.f0).toNat (wrap64 (rd out (fnd l a.f0) + 1))
theorem cf_len (l : List S67) (out : List Int) (a : S67) : (cf l out a).length = out.length := by simp [cf]
theorem load_found {l : List S67} {T : List Int} {L : List ByteArray} {i : Nat} (h : rkI l T L i = true) (q : ¬ (rdOf ByteArray.empty L (i : Int)).toList = []) : ¬ fnd l (rdOf ByteArray.empty L (i : Int)) < 0 := by
  unfold rkI at h
  rw [decide_eq_false q, Bool.false_or, Bool.and_eq_true] at h
  simpa using h.1
theorem loaded_ev (l : List S67) (x y : Int) (T : List Int) (L : List ByteArray) (hn : l.length ≤ 1000000) (c : rackOk l x y T L = true) : Ev (fun k => impl_loaded.f k l x y T L) (ldL l L T.length 0) := by
  obtain ⟨_, e, h1, h2, h12, hr⟩ := rackOk_len c
  have kl : ∀ d i (xs : List S67), i + d = T.length → xs.length ≤ i → Ev (fun k => impl_loaded.l0 k l xs L (L.length : Int) (i : Int)) (xs ++ ldL l L d i) := by
    intro d
    induction d with
    | zero =>
      intro i xs hi hx
      refine Ev.dn ?_
      simp only [impl_loaded.l0, if_neg (show ¬ (i : Int) < (L.length : Int) by omega), ldL, List.append_nil]; exact Ev.now _
    | succ d ih =>
      intro i xs hi hx
      by_cases q : (rdOf ByteArray.empty L (i : Int)).toList = []
      · refine Ev.dn (Ev.eq' ((ih (i + 1) xs (by omega) (by omega)).eq (by simp only [ldL, if_pos q])) (fun k => ?_))
        simp only [impl_loaded.l0]
        rw [if_pos (show (i : Int) < (L.length : Int) by omega), if_pos (show (0 : Int) ≤ (i : Int) by omega), if_pos (show (i : Int) < (L.length : Int) by omega), if_pos q, wrap_succ (show i < T.length by omega) (by omega)]
      · have hf := load_found (hr i (by omega)) q
        obtain ⟨g1, g2⟩ := fnd_in l _ hf
        have hs := ih (i + 1) (xs ++ [rd_T67 l (fnd l (rdOf ByteArray.empty L (i : Int)))]) (by omega) (by simp; omega)
        refine Ev.dn ?_
        simp only [impl_loaded.l0]
        simp only [if_pos (show (i : Int) < (L.length : Int) by omega), if_pos (show (0 : Int) ≤ (i : Int) by omega), if_neg q, wrap_succ (show i < T.length by omega) (show T.length ≤ 9223372036854775807 by omega)]
        refine Ev.bind (impl_find_ev l (rdOf ByteArray.empty L (i : Int)) hn) ?_
        simp only [if_pos g1, if_pos g2, if_pos (show xs.length < 1759218604441 by omega)]
        exact hs.eq (by simp only [ldL, if_neg q, List.append_assoc, List.singleton_append])
  unfold impl_loaded.f
  exact (kl T.length 0 [] (by omega) (by simp)).eq (List.nil_append _)
theorem ldL_in {l : List S67} {x y : Int} {T : List Int} {L : List ByteArray} (c : rackOk l x y T L = true) : ∀ a ∈ ldL l L T.length 0, (0 ≤ fnd l a.f0 ∧ fnd l a.f0 < (l.length : Int)) ∧ a = rd_T67 l (fnd l a.f0) := by
  obtain ⟨_, e, h1, h2, h12, hr⟩ := rackOk_len c
  have hin : ∀ d i, i + d = T.length → ∀ a ∈ ldL l L d i, (0 ≤ fnd l a.f0 ∧ fnd l a.f0 < (l.length : Int)) ∧ a = rd_T67 l (fnd l a.f0) := by
    intro d
    induction d with
    | zero => intro i _ a ha; simp [ldL] at ha
    | succ d ih =>
      intro i hi a ha
      simp only [ldL] at ha
      by_cases q : (rdOf ByteArray.empty L (i : Int)).toList = []
      · rw [if_pos q] at ha
        exact ih (i + 1) (by omega) a ha
      · rw [if_neg q] at ha
        have hf := load_found (hr i (by omega)) q
        rcases List.mem_cons.1 ha with ha | ha
        · rw [ha, fnd_self l _ hf]
          exact ⟨fnd_in l _ hf, rfl⟩
        · exact ih (i + 1) (by omega) a ha
  exact hin T.length 0 (by omega)
theorem CountLoads_is (l : List S67) (x y : Int) (T : List Int) (L : List ByteArray) (hn : l.length ≤ 1000000) (hz : szOkA l) (hT : T.length ≤ 1000000) :
    ∃ r : List Int × Int, Ev (fun k => spec_CountLoads.f k l x y T L) r ∧ Ev (fun k => impl_CountLoads.f k l x y T L) r ∧ r.1.length ≤ 1000 ∧ (r.2 = 0 → rackOk l x y T L = true ∧ r.1 = (ldL l L T.length 0).foldl (cf l) (List.replicate l.length 0)) := by
  have hc := spec_code_ev l x y T L 0 hn hz hT
  have hi := impl_IsRack_ev l x y T L hn hz hT
  unfold spec_CountLoads.f impl_CountLoads.f
  cases c : rackOk l x y T L with
  | false =>
    rw [c] at hi
    rw [show cdR l x y T L 0 = 1 by simp [cdR, c]] at hc
    refine ⟨([], 1), Ev.bind hc ?_, Ev.bind hi ?_, by simp, fun h => absurd h (by decide)⟩
    · simp only [show ¬ ((1 : Int) = 0) by decide, if_false]; exact Ev.now _
    · simp only [Bool.false_eq_true, if_false]; exact Ev.now _
  | true =>
    rw [c] at hi
    rw [cdR_0 c] at hc
    obtain ⟨_, e, h1, h2, h12, hr⟩ := rackOk_len c
    have ks : ∀ d i (out : List Int), i + d = T.length → out.length = l.length → Ev (fun k => spec_CountLoads.l0 k l out (i : Int) x y T L) ((ldL l L d i).foldl (cf l) out, 0) := by
      intro d
      induction d with
      | zero =>
        intro i out hi ho
        refine Ev.dn ?_
        simp only [spec_CountLoads.l0, if_neg (show ¬ (i : Int) < (L.length : Int) by omega)]; exact Ev.now _
      | succ d ih =>
        intro i out hi ho
        by_cases q : (rdOf ByteArray.empty L (i : Int)).toList = []
        · refine Ev.dn (Ev.eq' ((ih (i + 1) out (by omega) ho).eq (by simp only [ldL, if_pos q])) (fun k => ?_))
          simp only [spec_CountLoads.l0]
          rw [if_pos (show (i : Int) < (L.length : Int) by omega), if_pos (show (0 : Int) ≤ (i : Int) by omega), if_pos q, wrap_succ (show i < T.length by omega) (by omega)]
        · have hf := load_found (hr i (by omega)) q
          obtain ⟨g1, g2⟩ := fnd_in l _ hf
          have hs := ih (i + 1) (cf l out (rd_T67 l (fnd l (rdOf ByteArray.empty L (i : Int))))) (by omega) (by rw [cf_len]; exact ho)
          refine Ev.dn ?_
          simp only [spec_CountLoads.l0]
          simp only [if_pos (show (i : Int) < (L.length : Int) by omega), if_pos (show (0 : Int) ≤ (i : Int) by omega), if_neg q, wrap_succ (show i < T.length by omega) (show T.length ≤ 9223372036854775807 by omega)]
          refine Ev.bind (spec_find_ev l (rdOf ByteArray.empty L (i : Int)) hn) ?_
          simp only [if_pos g1, if_pos (show fnd l (rdOf ByteArray.empty L (i : Int)) < (out.length : Int) by omega)]
          refine (Ev.eq' hs (fun k => ?_)).eq (by simp only [ldL, if_neg q, List.foldl_cons])
          unfold cf
          rw [fnd_self l _ hf]
    have kc : ∀ (A : List S67), A.length ≤ 100 → (∀ a ∈ A, 0 ≤ fnd l a.f0 ∧ fnd l a.f0 < (l.length : Int)) → ∀ d j (out : List Int), j + d = A.length → out.length = l.length →
        Ev (fun k => impl_CountLoads.l0 k l out A (A.length : Int) (j : Int)) ((A.drop j).foldl (cf l) out, 0) := by
      intro A hA hAf d
      induction d with
      | zero =>
        intro j out hj ho
        refine Ev.dn ?_
        simp only [impl_CountLoads.l0, if_neg (show ¬ (j : Int) < (A.length : Int) by omega), List.drop_of_length_le (show A.length ≤ j by omega), List.foldl_nil]; exact Ev.now _
      | succ d ih =>
        intro j out hj ho
        have hjl : j < A.length := by omega
        have ea : rd_T67 A (j : Int) = A[j] := rd_T67_nat hjl
        obtain ⟨g1, g2⟩ := hAf A[j] (List.getElem_mem hjl)
        have hs := ih (j + 1) (cf l out A[j]) (by omega) (by rw [cf_len]; exact ho)
        refine Ev.dn ?_
        simp only [impl_CountLoads.l0]
        simp only [if_pos (show (j : Int) < (A.length : Int) by omega), if_pos (show (0 : Int) ≤ (j : Int) by omega), wrap_succ hjl (show A.length ≤ 9223372036854775807 by omega), ea]
        refine Ev.bind (impl_find_ev l A[j].f0 hn) ?_
        simp only [if_pos g1, if_pos (show fnd l A[j].f0 < (out.length : Int) by omega)]
        rw [List.drop_eq_getElem_cons hjl, List.foldl_cons]
        exact hs
    have hrl : (List.replicate l.length (0 : Int)).length = l.length := by simp
    refine ⟨((ldL l L T.length 0).foldl (cf l) (List.replicate l.length 0), 0), Ev.bind hc ?_, Ev.bind hi ?_, ?_, fun _ => ⟨rfl, rfl⟩⟩
    · simp only [if_true, if_pos (show (0 : Int) ≤ (l.length : Int) by omega), Int.toNat_natCast, if_pos (show l.length ≤ 35184372088832 by omega)]
      exact ks T.length 0 _ (by omega) hrl
    · simp only [if_true, if_pos (show (0 : Int) ≤ (l.length : Int) by omega), Int.toNat_natCast, if_pos (show l.length ≤ 35184372088832 by omega)]
      refine Ev.bind (loaded_ev l x y T L hn c) ?_
      have hlen := ldL_len l L T.length 0
      have hk := kc (ldL l L T.length 0) (by omega) (fun a ha => (ldL_in c a ha).1) (ldL l L T.length 0).length 0 (List.replicate l.length 0) (by omega) hrl
      simpa using hk
    · have : ∀ (A : List S67) (out : List Int), (A.foldl (cf l) out).length = out.length := by
        intro A
        induction A with
        | nil => intro out; rfl
        | cons a A ih => intro out; rw [List.foldl_cons, ih, cf_len]
      show ((ldL l L T.length 0).foldl (cf l) (List.replicate l.length 0)).length ≤ 1000
      rw [this, hrl]
      omega
theorem load_ok (l : List S67) (x y : Int) (T : List Int) (L : List ByteArray) (a : Int) (w : ByteArray) (hn : l.length ≤ 1000000) (hz : szOkA l) (hT : T.length ≤ 1000000) (c : rackOk l x y T L = true) (a0 : 0 ≤ a) (a1 : a < (T.length : Int)) (f : ¬ fnd l w < 0) (z : (rdOf ByteArray.empty L a).toList = []) (ft : fitB (rd_T67 l (fnd l w)) (rd T a) = true) :
    Ev (fun k => impl_LoadTube.f k l x y T L a w) (x, y, T, L.set a.toNat w, 0) := by
  have hi := impl_IsRack_ev l x y T L hn hz hT
  rw [c] at hi
  obtain ⟨_, e, h1, h2, _, _⟩ := rackOk_len c
  have q : rin a 0 ((T.length : Int) - 1) = true := rin_iff.2 ⟨a0, by omega⟩
  have q2 : a < (L.length : Int) := by omega
  obtain ⟨g1, g2⟩ := fnd_in l w f
  unfold impl_LoadTube.f
  refine Ev.bind hi ?_
  simp only [if_true, index_eq a T.length hT, q, Option.bind_some]
  refine Ev.bind (impl_find_ev l w hn) ?_
  simp only [if_neg f, if_pos a0, if_pos q2, if_pos z, if_pos g1, if_pos g2, if_pos a1, impl_fits_eq, Option.bind_some, ft, if_true]
  exact Ev.bind (with_impl x y T L a w hT (by omega) a0 q2) (Ev.now _)
def nf (s : Int) (a : S67) : Int := wrap64 (s + a.f7)
def gf (s : Int) (a : S67) : Int := mx s a.f2
theorem RackNet_is (l : List S67) (x y : Int) (T : List Int) (L : List ByteArray) (hn : l.length ≤ 1000000) (hz : szOkA l) (hT : T.length ≤ 1000000) :
    ∃ r : Int × Int, Ev (fun k => spec_RackNet.f k l x y T L) r ∧ Ev (fun k => impl_RackNet.f k l x y T L) r ∧ (rackOk l x y T L = true → r.1 = (ldL l L T.length 0).foldl nf 0) := by
  have hc := spec_code_ev l x y T L 0 hn hz hT
  have hi := impl_IsRack_ev l x y T L hn hz hT
  unfold spec_RackNet.f impl_RackNet.f
  cases c : rackOk l x y T L with
  | false =>
    rw [c] at hi
    rw [show cdR l x y T L 0 = 1 by simp [cdR, c]] at hc
    refine ⟨(0, 1), Ev.bind hc ?_, Ev.bind hi ?_, fun h => absurd h (by decide)⟩
    · simp only [show ¬ ((1 : Int) = 0) by decide, if_false]; exact Ev.now _
    · simp only [Bool.false_eq_true, if_false]; exact Ev.now _
  | true =>
    rw [c] at hi
    rw [cdR_0 c] at hc
    obtain ⟨_, e, h1, h2, h12, hr⟩ := rackOk_len c
    have ks : ∀ d i (s : Int), i + d = T.length → Ev (fun k => spec_RackNet.l0 k l s (i : Int) x y T L) ((ldL l L d i).foldl nf s, 0) := by
      intro d
      induction d with
      | zero =>
        intro i s hi
        refine Ev.dn ?_
        simp only [spec_RackNet.l0, if_neg (show ¬ (i : Int) < (L.length : Int) by omega)]; exact Ev.now _
      | succ d ih =>
        intro i s hi
        by_cases q : (rdOf ByteArray.empty L (i : Int)).toList = []
        · refine Ev.dn (Ev.eq' ((ih (i + 1) s (by omega)).eq (by simp only [ldL, if_pos q])) (fun k => ?_))
          simp only [spec_RackNet.l0]
          rw [if_pos (show (i : Int) < (L.length : Int) by omega), if_pos (show (0 : Int) ≤ (i : Int) by omega), if_pos q, wrap_succ (show i < T.length by omega) (by omega)]
        · have hf := load_found (hr i (by omega)) q
          obtain ⟨g1, g2⟩ := fnd_in l _ hf
          have hs := ih (i + 1) (nf s (rd_T67 l (fnd l (rdOf ByteArray.empty L (i : Int))))) (by omega)
          refine Ev.dn ?_
          simp only [spec_RackNet.l0]
          simp only [if_pos (show (i : Int) < (L.length : Int) by omega), if_pos (show (0 : Int) ≤ (i : Int) by omega), if_neg q, wrap_succ (show i < T.length by omega) (show T.length ≤ 9223372036854775807 by omega)]
          refine Ev.bind (spec_find_ev l (rdOf ByteArray.empty L (i : Int)) hn) ?_
          simp only [if_pos g1, if_pos g2]
          exact hs.eq (by simp only [ldL, if_neg q, List.foldl_cons])
    have kc : ∀ (A : List S67), A.length ≤ 100 → ∀ d j (s : Int), j + d = A.length → Ev (fun k => impl_RackNet.l0 k s A (A.length : Int) (j : Int)) ((A.drop j).foldl nf s, 0) := by
      intro A hA d
      induction d with
      | zero =>
        intro j s hj
        refine Ev.dn ?_
        simp only [impl_RackNet.l0, if_neg (show ¬ (j : Int) < (A.length : Int) by omega), List.drop_of_length_le (show A.length ≤ j by omega), List.foldl_nil]; exact Ev.now _
      | succ d ih =>
        intro j s hj
        have hjl : j < A.length := by omega
        have ea : rd_T67 A (j : Int) = A[j] := rd_T67_nat hjl
        have hs := ih (j + 1) (nf s A[j]) (by omega)
        refine Ev.dn ?_
        simp only [impl_RackNet.l0]
        simp only [if_pos (show (j : Int) < (A.length : Int) by omega), if_pos (show (0 : Int) ≤ (j : Int) by omega), wrap_succ hjl (show A.length ≤ 9223372036854775807 by omega), ea]
        rw [List.drop_eq_getElem_cons hjl, List.foldl_cons]
        exact hs
    refine ⟨((ldL l L T.length 0).foldl nf 0, 0), Ev.bind hc ?_, Ev.bind hi ?_, fun _ => rfl⟩
    · simp only [if_true]
      exact ks T.length 0 0 (by omega)
    · simp only [if_true]
      refine Ev.bind (loaded_ev l x y T L hn c) ?_
      have hlen := ldL_len l L T.length 0
      have hk := kc (ldL l L T.length 0) (by omega) (ldL l L T.length 0).length 0 0 (by omega)
      simpa using hk
theorem GreatestLoad_is (l : List S67) (x y : Int) (T : List Int) (L : List ByteArray) (hn : l.length ≤ 1000000) (hz : szOkA l) (hT : T.length ≤ 1000000) :
    ∃ r : Int × Int, Ev (fun k => spec_GreatestLoad.f k l x y T L) r ∧ Ev (fun k => impl_GreatestLoad.f k l x y T L) r ∧ (rackOk l x y T L = true → r.1 = (ldL l L T.length 0).foldl gf 0) := by
  have hc := spec_code_ev l x y T L 0 hn hz hT
  have hi := impl_IsRack_ev l x y T L hn hz hT
  unfold spec_GreatestLoad.f impl_GreatestLoad.f
  cases c : rackOk l x y T L with
  | false =>
    rw [c] at hi
    rw [show cdR l x y T L 0 = 1 by simp [cdR, c]] at hc
    refine ⟨(0, 1), Ev.bind hc ?_, Ev.bind hi ?_, fun h => absurd h (by decide)⟩
    · simp only [show ¬ ((1 : Int) = 0) by decide, if_false]; exact Ev.now _
    · simp only [Bool.false_eq_true, if_false]; exact Ev.now _
  | true =>
    rw [c] at hi
    rw [cdR_0 c] at hc
    obtain ⟨_, e, h1, h2, h12, hr⟩ := rackOk_len c
    have ks : ∀ d i (s : Int), i + d = T.length → Ev (fun k => spec_GreatestLoad.l0 k l s (i : Int) x y T L) ((ldL l L d i).foldl gf s, 0) := by
      intro d
      induction d with
      | zero =>
        intro i s hi
        refine Ev.dn ?_
        simp only [spec_GreatestLoad.l0, if_neg (show ¬ (i : Int) < (L.length : Int) by omega)]; exact Ev.now _
      | succ d ih =>
        intro i s hi
        by_cases q : (rdOf ByteArray.empty L (i : Int)).toList = []
        · refine Ev.dn (Ev.eq' ((ih (i + 1) s (by omega)).eq (by simp only [ldL, if_pos q])) (fun k => ?_))
          simp only [spec_GreatestLoad.l0]
          rw [if_pos (show (i : Int) < (L.length : Int) by omega), if_pos (show (0 : Int) ≤ (i : Int) by omega), if_pos q, wrap_succ (show i < T.length by omega) (by omega)]
        · have hf := load_found (hr i (by omega)) q
          obtain ⟨g1, g2⟩ := fnd_in l _ hf
          have hs := ih (i + 1) (gf s (rd_T67 l (fnd l (rdOf ByteArray.empty L (i : Int))))) (by omega)
          refine Ev.dn ?_
          simp only [spec_GreatestLoad.l0]
          simp only [if_pos (show (i : Int) < (L.length : Int) by omega), if_pos (show (0 : Int) ≤ (i : Int) by omega), if_neg q, wrap_succ (show i < T.length by omega) (show T.length ≤ 9223372036854775807 by omega)]
          refine Ev.bind (spec_find_ev l (rdOf ByteArray.empty L (i : Int)) hn) ?_
          simp only [if_pos g1, if_pos g2]
          exact hs.eq (by simp only [ldL, if_neg q, List.foldl_cons])
    have kc : ∀ (A : List S67), A.length ≤ 100 → ∀ d j (s : Int), j + d = A.length → Ev (fun k => impl_GreatestLoad.l0 k s A (A.length : Int) (j : Int)) ((A.drop j).foldl gf s, 0) := by
      intro A hA d
      induction d with
      | zero =>
        intro j s hj
        refine Ev.dn ?_
        simp only [impl_GreatestLoad.l0, if_neg (show ¬ (j : Int) < (A.length : Int) by omega), List.drop_of_length_le (show A.length ≤ j by omega), List.foldl_nil]; exact Ev.now _
      | succ d ih =>
        intro j s hj
        have hjl : j < A.length := by omega
        have ea : rd_T67 A (j : Int) = A[j] := rd_T67_nat hjl
        have hs := ih (j + 1) (gf s A[j]) (by omega)
        refine Ev.dn ?_
        simp only [impl_GreatestLoad.l0]
        simp only [if_pos (show (j : Int) < (A.length : Int) by omega), if_pos (show (0 : Int) ≤ (j : Int) by omega), wrap_succ hjl (show A.length ≤ 9223372036854775807 by omega), ea]
        rw [List.drop_eq_getElem_cons hjl, List.foldl_cons]
        exact hs
    refine ⟨((ldL l L T.length 0).foldl gf 0, 0), Ev.bind hc ?_, Ev.bind hi ?_, fun _ => rfl⟩
    · simp only [if_true]
      exact ks T.length 0 0 (by omega)
    · simp only [if_true]
      refine Ev.bind (loaded_ev l x y T L hn c) ?_
      have hlen := ldL_len l L T.length 0
      have hk := kc (ldL l L T.length 0) (by omega) (ldL l L T.length 0).length 0 0 (by omega)
      simpa using hk
theorem emp_ld (l : List S67) (L : List ByteArray) : ∀ d i xs, (empD L d i xs).length + (ldL l L d i).length = xs.length + d
  | 0, _, _ => by simp [empD, ldL]
  | d + 1, i, xs => by
    simp only [empD, ldL]
    by_cases q : (rdOf ByteArray.empty L (i : Int)).toList = []
    · rw [if_pos q, if_pos q]
      have := emp_ld l L d (i + 1) (xs ++ [(i : Int)])
      rw [List.length_append, List.length_singleton] at this
      omega
    · rw [if_neg q, if_neg q, List.length_cons]
      have := emp_ld l L d (i + 1) xs
      omega
def sw (g : Nat → Int) (o : List Int) : Nat → Nat → Int
  | 0, _ => 0
  | d + 1, i => g i * rd o (i : Int) + sw g o d (i + 1)
theorem sw_set (g : Nat → Int) (o : List Int) (j : Nat) (hj : j < o.length) (v : Int) : ∀ d i, i + d = o.length → sw g (o.set j v) d i = sw g o d i + (if i ≤ j then g j * (v - rd o (j : Int)) else 0)
  | 0, i, h => by simp only [sw]; rw [if_neg (by omega)]; rfl
  | d + 1, i, h => by
    simp only [sw]
    rw [sw_set g o j hj v d (i + 1) (by omega)]
    by_cases e : i = j
    · subst e
      rw [if_neg (by omega), if_pos (Nat.le_refl _), show rd (o.set i v) (i : Int) = v by rw [rd_nat (by simpa using hj)]; simp, Int.mul_sub]
      omega
    · rw [show rd (o.set j v) (i : Int) = rd o (i : Int) by rw [rd_nat (by simp; omega), rd_nat (by omega)]; exact List.getElem_set_ne (fun q => e q.symm) _]
      by_cases q : i ≤ j
      · rw [if_pos q, if_pos (by omega)]
        omega
      · rw [if_neg q, if_neg (by omega)]
        omega
theorem sw_zero (g : Nat → Int) (n : Nat) : ∀ d i, i + d = n → sw g (List.replicate n 0) d i = 0
  | 0, i, _ => rfl
  | d + 1, i, h => by
    simp only [sw]
    rw [sw_zero g n d (i + 1) (by omega), show rd (List.replicate n (0 : Int)) (i : Int) = 0 by rw [rd_nat (by simp; omega)]; simp]
    simp
theorem cf_fold (l : List S67) (g : Nat → Int) : ∀ (A : List S67) (o : List Int) (B : Nat), o.length = l.length → B + A.length ≤ 500 → (∀ j : Nat, j < o.length → 0 ≤ rd o (j : Int) ∧ rd o (j : Int) ≤ (B : Int)) → (∀ a ∈ A, 0 ≤ fnd l a.f0 ∧ fnd l a.f0 < (l.length : Int)) →
    (A.foldl (cf l) o).length = l.length ∧ (∀ j : Nat, j < l.length → 0 ≤ rd (A.foldl (cf l) o) (j : Int) ∧ rd (A.foldl (cf l) o) (j : Int) ≤ ((B + A.length : Nat) : Int)) ∧ (∀ j : Nat, j < l.length → rd (A.foldl (cf l) o) (j : Int) > 0 → rd o (j : Int) > 0 ∨ ∃ a ∈ A, fnd l a.f0 = (j : Int)) ∧
    sw g (A.foldl (cf l) o) l.length 0 = A.foldl (fun s a => s + g (fnd l a.f0).toNat) (sw g o l.length 0)
  | [], o, B, ho, _, hb, _ => ⟨ho, fun j hj => by have := hb j (by omega); simpa using this, fun j _ h => .inl h, rfl⟩
  | a :: A, o, B, ho, hB, hb, hA => by
    obtain ⟨a0, a1⟩ := hA a (List.mem_cons_self ..)
    obtain ⟨n, hn⟩ : ∃ n : Nat, fnd l a.f0 = (n : Int) := ⟨(fnd l a.f0).toNat, by omega⟩
    have hno : n < o.length := by omega
    obtain ⟨b0, b1⟩ := hb n hno
    rw [List.length_cons] at hB
    have hw : wrap64 (rd o (n : Int) + 1) = rd o (n : Int) + 1 := wrap_id (by omega) (by omega)
    have hcf : cf l o a = o.set n (rd o (n : Int) + 1) := by
      unfold cf
      rw [hn, hw, Int.toNat_natCast]
    have hrd : ∀ j : Nat, j < o.length → rd (cf l o a) (j : Int) = if j = n then rd o (n : Int) + 1 else rd o (j : Int) := by
      intro j hj
      rw [hcf]
      by_cases e : j = n
      · subst e
        rw [if_pos rfl, rd_nat (by simpa using hj)]
        simp
      · rw [if_neg e, rd_nat (by simpa using hj), rd_nat hj]
        exact List.getElem_set_ne (fun q => e q.symm) _
    have hlc : (cf l o a).length = o.length := cf_len l o a
    obtain ⟨h1, h2, h3, h4⟩ := cf_fold l g A (cf l o a) (B + 1) (by omega) (by omega) (fun j hj => by
      rw [hrd j (by omega)]
      have := hb j (by omega)
      split <;> omega) (fun x hx => hA x (List.mem_cons_of_mem _ hx))
    simp only [List.foldl_cons, List.length_cons]
    refine ⟨h1, fun j hj => by have := h2 j hj; omega, fun j hj hp => ?_, ?_⟩
    · rcases h3 j hj hp with h | ⟨x, hx, hx2⟩
      · rw [hrd j (by omega)] at h
        by_cases e : j = n
        · subst e
          exact .inr ⟨a, List.mem_cons_self .., hn⟩
        · rw [if_neg e] at h
          exact .inl h
      · exact .inr ⟨x, List.mem_cons_of_mem _ hx, hx2⟩
    · rw [h4, hn, Int.toNat_natCast]
      congr 1
      rw [hcf, sw_set g o n hno _ l.length 0 (by omega), if_pos (Nat.zero_le _)]
      rw [show rd o (n : Int) + 1 - rd o (n : Int) = 1 by omega, Int.mul_one]
theorem nf_fold : ∀ (A : List S67) (s : Int) (B : Nat), (∀ a ∈ A, 1 ≤ a.f7 ∧ a.f7 ≤ 100000) → B + A.length ≤ 500 → 0 ≤ s → s ≤ 100000 * (B : Int) → A.foldl nf s = A.foldl (fun s a => s + a.f7) s
  | [], _, _, _, _, _, _ => rfl
  | a :: A, s, B, h, hB, h0, h1 => by
    obtain ⟨a0, a1⟩ := h a (List.mem_cons_self ..)
    rw [List.length_cons] at hB
    simp only [List.foldl_cons]
    rw [show nf s a = s + a.f7 from wrap_id (by omega) (by omega)]
    exact nf_fold A (s + a.f7) (B + 1) (fun x hx => h x (List.mem_cons_of_mem _ hx)) (by omega) (by omega) (by omega)
theorem gf_fold : ∀ (A : List S67) (s : Int), s ≤ A.foldl gf s ∧ ∀ a ∈ A, a.f2 ≤ A.foldl gf s
  | [], s => ⟨Int.le_refl _, fun a h => absurd h (by simp)⟩
  | a :: A, s => by
    obtain ⟨h1, h2⟩ := gf_fold A (gf s a)
    have h3 : s ≤ gf s a ∧ a.f2 ≤ gf s a := by
      unfold gf mx
      split <;> omega
    simp only [List.foldl_cons]
    refine ⟨by omega, fun x hx => ?_⟩
    rcases List.mem_cons.1 hx with rfl | hx
    · omega
    · exact h2 x hx
theorem one_fold : ∀ (A : List S67) (s : Int), A.foldl (fun s _ => s + 1) s = s + (A.length : Int)
  | [], s => by simp
  | a :: A, s => by
    simp only [List.foldl_cons, List.length_cons]
    rw [one_fold A (s + 1)]
    omega
theorem sum_ev (o : List Int) (hn : o.length ≤ 100) (hb : ∀ j : Nat, j < o.length → 0 ≤ rd o (j : Int) ∧ rd o (j : Int) ≤ 1000) : Ev (fun k => laws_sum.f k o) (sw (fun _ => 1) o o.length 0) := by
  have loop : ∀ d i (s : Int), i + d = o.length → 0 ≤ s → s ≤ 1000 * (i : Int) → Ev (fun k => laws_sum.l0 k o s (i : Int)) (s + sw (fun _ => 1) o d i) := by
    intro d
    induction d with
    | zero =>
      intro i s hi h0 h1
      refine Ev.dn ?_
      simp only [laws_sum.l0, if_neg (show ¬ (i : Int) < (o.length : Int) by omega), sw, Int.add_zero]
      exact Ev.now _
    | succ d ih =>
      intro i s hi h0 h1
      have hil : i < o.length := by omega
      obtain ⟨b0, b1⟩ := hb i hil
      have hw : wrap64 (s + rd o (i : Int)) = s + rd o (i : Int) := wrap_id (by omega) (by omega)
      have h := ih (i + 1) (s + rd o (i : Int)) (by omega) (by omega) (by omega)
      refine Ev.dn ?_
      simp only [laws_sum.l0, if_pos (show (i : Int) < (o.length : Int) by omega), if_pos (show (0 : Int) ≤ (i : Int) by omega), hw, wrap_succ hil (show o.length ≤ 9223372036854775807 by omega)]
      exact h.eq (by simp only [sw]; omega)
  unfold laws_sum.f
  exact (loop o.length 0 0 (by omega) (by omega) (by omega)).eq (by omega)
theorem net_ev (l : List S67) (o : List Int) (hz : szOkA l) (hA : areArt l = true) (hl : l.length ≤ 12) (ho : o.length = l.length) (hb : ∀ j : Nat, j < o.length → 0 ≤ rd o (j : Int) ∧ rd o (j : Int) ≤ 1000) (h7 : ∀ j : Nat, j < l.length → 1 ≤ (rd_T67 l (j : Int)).f7 ∧ (rd_T67 l (j : Int)).f7 ≤ 100000) :
    Ev (fun k => impl_NetOfOrder.f k l o) (sw (fun j => (rd_T67 l (j : Int)).f7) o l.length 0, 0) := by
  have ha := impl_AreArticles_ev l (by omega) hz
  rw [hA] at ha
  have hcn : Ev (fun k => impl_areCounts.f k l o) true := by
    unfold impl_areCounts.f
    simp only [if_pos (show (o.length : Int) = (l.length : Int) by omega)]
    have := allWithin_ev o 0 1000 (by omega)
    rw [(allIn_iff o 0 1000).2 hb] at this
    exact Ev.bind this (Ev.now _)
  have loop : ∀ d i (s : Int), i + d = l.length → 0 ≤ s → s ≤ 100000000 * (i : Int) → Ev (fun k => impl_NetOfOrder.l0 k o s l (l.length : Int) (i : Int)) (s + sw (fun j => (rd_T67 l (j : Int)).f7) o d i, 0) := by
    intro d
    induction d with
    | zero =>
      intro i s hi h0 h1
      refine Ev.dn ?_
      simp only [impl_NetOfOrder.l0, if_neg (show ¬ (i : Int) < (l.length : Int) by omega), sw, Int.add_zero]
      exact Ev.now _
    | succ d ih =>
      intro i s hi h0 h1
      have hil : i < l.length := by omega
      obtain ⟨b0, b1⟩ := hb i (by omega)
      obtain ⟨c0, c1⟩ := h7 i hil
      have hm0 : 0 ≤ (rd_T67 l (i : Int)).f7 * rd o (i : Int) := Int.mul_nonneg (by omega) b0
      have hm1 : (rd_T67 l (i : Int)).f7 * rd o (i : Int) ≤ 100000 * 1000 := Int.mul_le_mul c1 b1 b0 (by omega)
      have hs : ∀ m : Int, m = (rd_T67 l (i : Int)).f7 * rd o (i : Int) → 0 ≤ m → m ≤ 100000 * 1000 → wrap64 m = m ∧ wrap64 (s + m) = s + m := fun m _ p q => ⟨wrap_id (by omega) (by omega), wrap_id (by omega) (by omega)⟩
      obtain ⟨w1, w2⟩ := hs _ rfl hm0 hm1
      have h := ih (i + 1) (s + (rd_T67 l (i : Int)).f7 * rd o (i : Int)) (by omega) (by omega) (by generalize (rd_T67 l (i : Int)).f7 * rd o (i : Int) = m at *; omega)
      refine Ev.dn ?_
      simp only [impl_NetOfOrder.l0, if_pos (show (i : Int) < (l.length : Int) by omega), if_pos (show (0 : Int) ≤ (i : Int) by omega), if_pos (show (i : Int) < (o.length : Int) by omega), w1, w2, wrap_succ hil (show l.length ≤ 9223372036854775807 by omega)]
      exact h.eq (by simp only [sw]; rw [Int.add_assoc])
  unfold impl_NetOfOrder.f
  refine Ev.bind ha ?_
  simp only [if_true]
  refine Ev.bind hcn ?_
  simp only [if_true]
  exact (loop l.length 0 0 (by omega) (by omega) (by omega)).eq (by rw [Int.zero_add])
theorem dLd {L : List Int} (hL : By L) : ∃ (l : List S67) (x y : Int) (T : List Int) (N : List ByteArray) (a : Int) (w : ByteArray), Ev (fun k => spec_DrawLoadTube.f k L) (l, x, y, T, N, a, w) ∧ l.length ≤ 100 ∧ szOkA l ∧ T.length ≤ 200 ∧ N.length ≤ 200 := by
  obtain ⟨z, h0, g0⟩ := from_ev hL
  obtain ⟨l, x, y, T, N, p1, z1, h1, n1, n2, n3, n4, g1⟩ := draw17_ok hL g0
  obtain ⟨w, p2, z2, h2, g2⟩ := name17_ok hL g1 l n1
  obtain ⟨t, t1, _, t3, _, _⟩ := TubesFor_is l x y T N w (by omega) n2 (by omega)
  have no : ∀ p z, Gd L p z → ∃ a, Ev (fun k => spec_DrawLoadTube.j0 k l w t.1 false L p z x y T N) (l, x, y, T, N, a, w) := by
    intro p z g
    obtain ⟨u, p3, z3, e3, g3, _, _⟩ := next_ok hL g ((T.length : Int) + 1) (by omega) (by omega)
    obtain ⟨v, p4, z4, e4, g4, _, _⟩ := next_ok hL g3 24 (by omega) (by omega)
    refine ⟨_, Ev.dn (?_ : Ev _ (l, x, y, T, N, wrap64 (u - wrap64 (Int.tdiv v 23)), w))⟩
    simp only [spec_DrawLoadTube.j0, Bool.false_eq_true, if_false, wrap_id (x := (T.length : Int) + 1) (by omega) (by omega), e3, e4, Option.bind_some]
    exact Ev.now _
  unfold spec_DrawLoadTube.f
  by_cases c : t.2 = 0
  · by_cases c2 : (t.1.length : Int) > 0
    · obtain ⟨u, p3, z3, e3, g3, _, _⟩ := next_ok hL g2 2 (by omega) (by omega)
      by_cases c3 : u = 0
      · obtain ⟨v, p4, z4, e4, g4, v0, v1⟩ := next_ok hL g3 (t.1.length : Int) (by omega) (by omega)
        refine ⟨l, x, y, T, N, rd t.1 v, w, Ev.bind h0 (Ev.bind h1 (Ev.bind h2 (Ev.bind t1 ?_))), n1, n2, n3, n4⟩
        simp only [if_pos c, if_pos c2, e3, Option.bind_some, c3]
        refine Ev.dn ?_
        simp only [spec_DrawLoadTube.j0, beq_self_eq_true, if_true, e4, Option.bind_some, if_pos v0, if_pos v1]
        exact Ev.now _
      · obtain ⟨a, h⟩ := no p3 z3 g3
        refine ⟨l, x, y, T, N, a, w, Ev.bind h0 (Ev.bind h1 (Ev.bind h2 (Ev.bind t1 ?_))), n1, n2, n3, n4⟩
        simp only [if_pos c, if_pos c2, e3, Option.bind_some, beq_eq_false_iff_ne.2 c3]
        exact h
    · obtain ⟨a, h⟩ := no p2 z2 g2
      refine ⟨l, x, y, T, N, a, w, Ev.bind h0 (Ev.bind h1 (Ev.bind h2 (Ev.bind t1 ?_))), n1, n2, n3, n4⟩
      simp only [if_pos c, if_neg c2]
      exact h
  · obtain ⟨a, h⟩ := no p2 z2 g2
    refine ⟨l, x, y, T, N, a, w, Ev.bind h0 (Ev.bind h1 (Ev.bind h2 (Ev.bind t1 ?_))), n1, n2, n3, n4⟩
    simp only [if_neg c]
    exact h
theorem dUl {L : List Int} (hL : By L) : ∃ (l : List S67) (x y : Int) (T : List Int) (N : List ByteArray) (a : Int), Ev (fun k => spec_DrawUnloadTube.f k L) (l, x, y, T, N, a) ∧ l.length ≤ 100 ∧ szOkA l ∧ T.length ≤ 200 ∧ N.length ≤ 200 := by
  obtain ⟨z, h0, g0⟩ := from_ev hL
  obtain ⟨l, x, y, T, N, p1, z1, h1, n1, n2, n3, n4, g1⟩ := draw17_ok hL g0
  obtain ⟨u, p3, z3, e3, g3, _, _⟩ := next_ok hL g1 ((T.length : Int) + 1) (by omega) (by omega)
  obtain ⟨v, p4, z4, e4, g4, _, _⟩ := next_ok hL g3 24 (by omega) (by omega)
  refine ⟨l, x, y, T, N, _, (?_ : Ev _ (l, x, y, T, N, wrap64 (u - wrap64 (Int.tdiv v 23)))), n1, n2, n3, n4⟩
  unfold spec_DrawUnloadTube.f
  refine Ev.bind h0 (Ev.bind h1 ?_)
  simp only [wrap_id (x := (T.length : Int) + 1) (by omega) (by omega), e3, e4, Option.bind_some]
  exact Ev.now _
theorem fold_eq {f g : Int → S67 → Int} : ∀ (A : List S67) (s : Int), (∀ a ∈ A, ∀ s, f s a = g s a) → A.foldl f s = A.foldl g s
  | [], _, _ => rfl
  | a :: A, s, h => by
    simp only [List.foldl_cons]
    rw [h a (List.mem_cons_self ..) s]
    exact fold_eq A _ (fun x hx => h x (List.mem_cons_of_mem _ hx))
def ldH (l : List S67) (x y : Int) (T : List Int) (N : List ByteArray) (a : Int) (w : ByteArray) (c : Int) : Prop := c = 0 → rackOk l x y T N = true ∧ 0 ≤ a ∧ a < (N.length : Int) ∧ (rdOf ByteArray.empty N a).toList = w.toList
theorem ld_fin (l : List S67) (x y : Int) (T : List Int) (N : List ByteArray) (a : Int) (w : ByteArray) (c : Int) (hl : l.length ≤ 1000000) (hz : szOkA l) (hT : T.length ≤ 1000000) (h : ldH l x y T N a w c) :
    Ev (fun k => if c = 0 then ((impl_IsRack.f k l x y T N).bind fun t => (if t = true then (if 0 ≤ a then (if a < (N.length : Int) then (some ((rdOf ByteArray.empty N a).toList == w.toList)) else (none)) else (none)) else (some false))) else (some true)) true := by
  by_cases q : c = 0
  · obtain ⟨h1, h2, h3, h4⟩ := h q
    have hi := impl_IsRack_ev l x y T N hl hz hT
    rw [h1] at hi
    simp only [if_pos q]
    refine Ev.bind hi ?_
    simp only [if_true, if_pos h2, if_pos h3, h4, beq_self_eq_true]
    exact Ev.now _
  · simp only [if_neg q]
    exact Ev.now _
theorem ld_l0 (l : List S67) (x y : Int) (T : List Int) (N : List ByteArray) (a : Int) (w : ByteArray) (c : Int) (hl : l.length ≤ 1000000) (hz : szOkA l) (hT : T.length ≤ 1000000) (h : ldH l x y T N a w c) (m : List S67) (g : Int) (o : List Int) (hm : m.length ≤ 1000000) (ho : o.length = m.length)
    (hg : ∀ j : Nat, j < m.length → rd o (j : Int) > 0 → (rd_T67 m (j : Int)).f2 ≤ g) : ∀ d i, i + d = m.length → Ev (fun k => laws_FnLoaded.l0 k l a w c m g o (i : Int) x y T N) true := by
  intro d
  induction d with
  | zero =>
    intro i hi
    refine Ev.dn ?_
    simp only [laws_FnLoaded.l0, if_neg (show ¬ (i : Int) < (m.length : Int) by omega)]
    exact ld_fin l x y T N a w c hl hz hT h
  | succ d ih =>
    intro i hi
    have hil : i < m.length := by omega
    have h1 := ih (i + 1) (by omega)
    have hw := wrap_succ hil (show m.length ≤ 9223372036854775807 by omega)
    refine Ev.dn ?_
    simp only [laws_FnLoaded.l0, if_pos (show (i : Int) < (m.length : Int) by omega), if_pos (show (0 : Int) ≤ (i : Int) by omega), if_pos (show (i : Int) < (o.length : Int) by omega), hw]
    by_cases q : rd o (i : Int) > 0
    · have := hg i hil q
      simp only [if_pos q, if_neg (show ¬ (rd_T67 m (i : Int)).f2 > g by omega)]
      exact h1
    · simp only [if_neg q]
      exact h1
theorem art_f7 {l : List S67} (hA : areArt l = true) (j : Nat) (hj : j < l.length) : 1 ≤ (rd_T67 l (j : Int)).f7 ∧ (rd_T67 l (j : Int)).f7 ≤ 100000 := by
  unfold areArt at hA
  rw [Bool.and_eq_true, allD_iff] at hA
  have h := hA.1 j (Nat.zero_le _) (by omega)
  simp only [artI, artB, Bool.and_eq_true] at h
  exact rin_iff.1 h.1.1.2
theorem cnt_facts {l : List S67} {x y : Int} {T : List Int} {N : List ByteArray} (c : rackOk l x y T N = true) (o : List Int) (ho : o = (ldL l N T.length 0).foldl (cf l) (List.replicate l.length 0)) :
    o.length = l.length ∧ (∀ j : Nat, j < o.length → 0 ≤ rd o (j : Int) ∧ rd o (j : Int) ≤ 1000) ∧ (∀ j : Nat, j < l.length → rd o (j : Int) > 0 → (rd_T67 l (j : Int)).f2 ≤ (ldL l N T.length 0).foldl gf 0) ∧ sw (fun _ => 1) o o.length 0 = ((ldL l N T.length 0).length : Int) ∧ sw (fun j => (rd_T67 l (j : Int)).f7) o l.length 0 = (ldL l N T.length 0).foldl nf 0 := by
  obtain ⟨hA, e, h1, h2, h12, _⟩ := rackOk_len c
  have hin := ldL_in c
  have hlen := ldL_len l N T.length 0
  generalize ldL l N T.length 0 = A at ho hin hlen ⊢
  have hr : (List.replicate l.length (0 : Int)).length = l.length := by simp
  have hr0 : ∀ j : Nat, j < (List.replicate l.length (0 : Int)).length → rd (List.replicate l.length (0 : Int)) (j : Int) = 0 := fun j hj => by rw [rd_nat hj]; simp
  obtain ⟨k1, k2, k3, k4⟩ := cf_fold l (fun _ => 1) A (List.replicate l.length 0) 0 hr (by omega) (fun j hj => by rw [hr0 j hj]; omega) (fun a ha => (hin a ha).1)
  obtain ⟨_, _, _, k5⟩ := cf_fold l (fun j => (rd_T67 l (j : Int)).f7) A (List.replicate l.length 0) 0 hr (by omega) (fun j hj => by rw [hr0 j hj]; omega) (fun a ha => (hin a ha).1)
  rw [← ho] at k1 k2 k3 k4 k5
  refine ⟨k1, fun j hj => by have := k2 j (by omega); omega, fun j hj hp => ?_, ?_, ?_⟩
  · rcases k3 j hj hp with h | ⟨a, ha, h⟩
    · rw [hr0 j (by omega)] at h
      omega
    · have := (gf_fold A 0).2 a ha
      rw [(hin a ha).2, h] at this
      exact this
  · rw [k1, k4, one_fold, sw_zero _ l.length l.length 0 (by omega)]
    omega
  · rw [k5, sw_zero _ l.length l.length 0 (by omega)]
    have h7 : ∀ a ∈ A, 1 ≤ a.f7 ∧ a.f7 ≤ 100000 := fun a ha => by
      obtain ⟨⟨p1, p2⟩, p3⟩ := hin a ha
      have := art_f7 hA (fnd l a.f0).toNat (by omega)
      rw [Int.toNat_of_nonneg p1, ← p3] at this
      exact this
    rw [nf_fold A 0 0 h7 (by omega) (by omega) (by omega)]
    refine fold_eq A 0 (fun a ha s => ?_)
    obtain ⟨⟨p1, p2⟩, p3⟩ := hin a ha
    rw [Int.toNat_of_nonneg p1, ← p3]
theorem ld_j1 (l : List S67) (x y : Int) (T : List Int) (N : List ByteArray) (a : Int) (w : ByteArray) (c : Int) (hl : l.length ≤ 1000000) (hz : szOkA l) (hT : T.length ≤ 1000000) (h : ldH l x y T N a w c) (m : List S67) (x' y' : Int) (T' : List Int) (N' : List ByteArray) (hm : m.length ≤ 100) (hz' : szOkA m) (hT' : T'.length ≤ 1000000) (n g cc : Int) (o : List Int)
    (ho : cc = 0 → rackOk m x' y' T' N' = true ∧ o = (ldL m N' T'.length 0).foldl (cf m) (List.replicate m.length 0)) (hn : rackOk m x' y' T' N' = true → n = (ldL m N' T'.length 0).foldl nf 0) (hg : rackOk m x' y' T' N' = true → g = (ldL m N' T'.length 0).foldl gf 0) :
    Ev (fun k => laws_FnLoaded.j1 k l a w c m n g o cc x y T N x' y' T' N') true := by
  refine Ev.dn ?_
  by_cases q : cc = 0
  · obtain ⟨c1, h1⟩ := ho q
    obtain ⟨k1, k2, k3, k4, k5⟩ := cnt_facts c1 o h1
    obtain ⟨hA, e, p1, p2, p12, _⟩ := rackOk_len c1
    obtain ⟨r, _, r2, r3, r4⟩ := EmptyTubes_is m x' y' T' N' (by omega) hz' hT'
    rw [if_pos c1] at r4
    have he := emp_ld m N' T'.length 0 []
    rw [List.length_nil, Nat.zero_add] at he
    have hs := sum_ev o (by omega) k2
    rw [k4] at hs
    have hw : wrap64 (((ldL m N' T'.length 0).length : Int) + ((empD N' T'.length 0 []).length : Int)) = (T'.length : Int) := by
      rw [wrap_id (by omega) (by omega)]
      omega
    have hnet := net_ev m o hz' hA p12 k1 k2 (fun j hj => art_f7 hA j hj)
    rw [k5, ← hn c1] at hnet
    rw [← hg c1] at k3
    have hend := ld_l0 l x y T N a w c hl hz hT h m g o (by omega) k1 k3 m.length 0 (by omega)
    simp only [laws_FnLoaded.j1, if_pos q]
    refine Ev.bind r2 (Ev.bind hnet ?_)
    simp only [r4, if_true]
    refine Ev.bind hs ?_
    simp only [hw, if_true, bne_self_eq_false]
    refine Ev.dn ?_
    simp only [laws_FnLoaded.j2, Bool.false_eq_true, if_false]
    exact hend
  · simp only [laws_FnLoaded.j1, if_neg q]
    exact ld_fin l x y T N a w c hl hz hT h
theorem FnLoaded : ∀ (l0 : List Int), (l0.length ≤ reachBytes ∧ ∀ y ∈ l0, (Lit.int .u8 y).wf = true) → ∃ k, laws_FnLoaded.f k l0 = some true := by
  intro L ⟨_, hb⟩
  apply Ev.rounds
  unfold laws_FnLoaded.f laws_big.f
  simp only [Option.bind_some]
  by_cases hbig : (L.length : Int) > 4096
  · simp only [decide_eq_true hbig, if_true]; exact Ev.now _
  simp only [decide_eq_false hbig, Bool.false_eq_true, if_false]
  have hL : By L := by
    refine ⟨by omega, fun j hj => ?_⟩
    rw [show rd L (j : Int) = L[j] by simp [rd, hj]]
    have := hb _ (List.getElem_mem hj)
    simp only [Lit.wf, Bool.and_eq_true, decide_eq_true_eq] at this
    have m1 : IntKind.u8.min = 0 := by decide
    have m2 : IntKind.u8.max = 255 := by decide
    omega
  obtain ⟨l, x, y, T, N, a, w, d1, n1, hz, n3, n4⟩ := dLd hL
  obtain ⟨m, X, Y, V, M, b, d2, m1, hy, m3, m4⟩ := dUl hL
  obtain ⟨x', y', T', N', c, l1, l2, l3, l4, l5⟩ := LoadTube_is l x y T N a w (by omega) hz (by omega)
  obtain ⟨X', Y', V', M', s, e, u1, u2, u3, u4, u5⟩ := UnloadTube_is m X Y V M b (by omega) hy (by omega)
  obtain ⟨r, r1, r2, r3⟩ := RackNet_is m X Y V M (by omega) hy (by omega)
  obtain ⟨g, g1, g2, g3⟩ := GreatestLoad_is m X Y V M (by omega) hy (by omega)
  obtain ⟨o, o1, o2, o3, o4⟩ := CountLoads_is m X Y V M (by omega) hy (by omega)
  have hH : ldH l x' y' T' N' a w c := by
    intro q
    obtain ⟨c1, a0, a1, f, ft, rfl, rfl, rfl, rfl⟩ := l5 q
    obtain ⟨n, rfl⟩ := Int.eq_ofNat_of_zero_le a0
    obtain ⟨_, eN, _⟩ := rackOk_len c1
    rw [Int.toNat_natCast]
    refine ⟨rack_set c1 (by omega) w (.inr ⟨f, ft⟩), a0, by rw [List.length_set]; omega, ?_⟩
    rw [rdOf_set N n n w (by omega), if_pos rfl]
  have h1 := ld_j1 l x' y' T' N' a w c (by omega) hz l3 hH m X Y V M m1 hy (by omega) r.1 g.1 o.2 o.1 o4 r3 g3
  refine Ev.bind d1 (Ev.bind l2 (Ev.bind l1 (Ev.bind d2 (Ev.bind u2 (Ev.bind u1 (Ev.bind r2 (Ev.bind r1 (Ev.bind g2 (Ev.bind g1 (Ev.bind o2 (Ev.bind o1 ?_)))))))))))
  simp only [if_true]
  refine Ev.bind (likeRack_ev x' y' T' N' N' l3 l4 rfl (fun _ _ => rfl)) ?_
  simp only [if_true]
  refine Ev.bind (likeRack_ev X' Y' V' M' M' u3 u4 rfl (fun _ _ => rfl)) ?_
  simp only [if_true]
  refine Ev.bind (likeInts_refl o.1 (by omega)) ?_
  refine Ev.dn ?_
  simp only [laws_FnLoaded.j0, Bool.not_true, Bool.false_eq_true, if_false]
  by_cases q : e = 0
  · obtain ⟨c1, b0, b1, hne, rfl, rfl, rfl, rfl, rfl⟩ := u5 q
    obtain ⟨n, rfl⟩ := Int.eq_ofNat_of_zero_le b0
    obtain ⟨_, eM, _, _, _, hr⟩ := rackOk_len c1
    have hri := hr n (by omega)
    have hf := load_found hri hne
    have hft : fitB (rd_T67 m (fnd m (rdOf ByteArray.empty M (n : Int)))) (rd V' (n : Int)) = true := by
      unfold rkI at hri
      rw [decide_eq_false hne, Bool.false_or, Bool.and_eq_true] at hri
      exact hri.2
    have hnil : (⟨#[]⟩ : ByteArray).toList = [] := List.eq_nil_of_length_eq_zero (by rw [toList_len]; rfl)
    rw [Int.toNat_natCast]
    have hb := load_ok m X' Y' V' (M.set n ⟨#[]⟩) (n : Int) (rdOf ByteArray.empty M (n : Int)) (by omega) hy (by omega) (rack_set c1 (by omega) _ (.inl hnil)) b0 b1 hf (by rw [rdOf_set M n n _ (by omega), if_pos rfl]; exact hnil) hft
    rw [Int.toNat_natCast] at hb
    simp only [if_pos q]
    refine Ev.bind hb ?_
    simp only [if_true]
    refine Ev.bind (likeRack_ev X' Y' V' _ M (by omega) (by simp; omega) (by simp) (fun j hj => ?_)) ?_
    · rw [rdOf_set _ n j _ (by simp; omega)]
      by_cases z : j = n
      · subst z
        rw [if_pos rfl]
      · rw [if_neg z, rdOf_set M n j _ (by omega), if_neg z]
    simp only [if_true]
    exact h1
  · simp only [if_neg q]
    exact h1
end Go.Proofs.Ytnfmfebmjlglgaa.Pure
