/- The law FnExactReadInputs as a statement over numbers and lists, proved; no condition but the sizes and ranges that every input has. -/
import Derived.Test.YtapcjchgcppanaaF15
import Derived.Test.YtapcjchgcppanaaEv
namespace Go.Proofs.Ytapcjchgcppanaa.Pure
open Go.RowKit Go.Proofs.Ytapcjchgcppanaa.Pall Go.Proofs.YtapcjchgcppanaaW.PrintWords
set_option linter.unusedSimpArgs false
set_option linter.unusedVariables false
theorem toList_loop (s : ByteArray) : ∀ d i r, i + d = s.size → ByteArray.toList.loop s i r = r.reverse ++ s.data.toList.drop i := by
  intro d
  induction d with
  | zero =>
    intro i r h
    have e : s.data.toList.drop i = [] := List.drop_of_length_le (by rw [Array.length_toList]; exact Nat.le_of_eq h.symm)
    rw [ByteArray.toList.loop, if_neg (by omega), e, List.append_nil]
  | succ d ih =>
    intro i r h
    have hi : i < s.data.toList.length := by rw [Array.length_toList]; show i < s.size; omega
    rw [ByteArray.toList.loop, if_pos (by omega), ih (i + 1) _ (by omega), List.drop_eq_getElem_cons hi]
    simp [ByteArray.get!]
    exact getElem!_pos s.data i (by simpa using hi)
theorem toList_data (s : ByteArray) : s.toList = s.data.toList := by
  unfold ByteArray.toList
  rw [toList_loop s s.size 0 [] (by omega)]
  simp
theorem toList_len (s : ByteArray) : s.toList.length = s.size := by rw [toList_data, Array.length_toList]; rfl
theorem extract_toList (s : ByteArray) (a b : Nat) : (s.extract a b).toList = (s.toList.take b).drop a := by
  rw [toList_data, toList_data]
  simp only [ByteArray.data_extract, Array.toList_extract]
  rw [List.drop_take]
theorem markInt_loop (n : Nat) (hn : n ≤ 1000000) : ∀ d i (xs : List Int), i + d = n → xs.length = n → (∀ j, j < i → rd xs (j : Int) = 101 + (j : Int)) →
    ∃ L : List Int, L.length = n ∧ (∀ j, j < n → rd L (j : Int) = 101 + (j : Int)) ∧ Ev (fun k => laws_markInt64S.l0 k xs (101 + (i : Int)) (i : Int)) (101 + (n : Int), L) := by
  intro d
  induction d with
  | zero =>
    intro i xs hi hx hj
    obtain rfl : i = n := by omega
    refine ⟨xs, hx, hj, Ev.dn ?_⟩
    simp only [laws_markInt64S.l0]
    simp only [if_neg (show ¬ (i : Int) < (xs.length : Int) by omega)]
    exact Ev.now _
  | succ d ih =>
    intro i xs hi hx hj
    obtain ⟨L, h1, h2, h3⟩ := ih (i + 1) (xs.set i (101 + (i : Int))) (by omega) (by simpa using hx) (fun j hj2 => by
      have hjl : j < (xs.set i (101 + (i : Int))).length := by rw [List.length_set]; omega
      rw [rd_nat hjl, List.getElem_set]
      by_cases e : i = j
      · rw [if_pos e, e]
      · rw [if_neg e]
        have := hj j (by omega)
        rwa [rd_nat (by omega)] at this)
    refine ⟨L, h1, h2, Ev.dn ?_⟩
    refine Ev.eq' h3 (fun k => ?_)
    simp only [laws_markInt64S.l0]
    rw [if_pos (show (i : Int) < (xs.length : Int) by omega), if_pos (show (0 : Int) ≤ (i : Int) by omega), wrap_succ (show i < n by omega) (by omega), wrap_id (by omega) (by omega), Int.toNat_natCast]
    congr 1
theorem markInt_ev (xs : List Int) (hn : xs.length ≤ 1000000) : ∃ L : List Int, L.length = xs.length ∧ (∀ j, j < L.length → rd L (j : Int) = 101 + (j : Int)) ∧ Ev (fun k => laws_markInt64S.f k xs 101) (101 + (xs.length : Int), L) := by
  obtain ⟨L, h1, h2, h3⟩ := markInt_loop xs.length hn xs.length 0 xs (by omega) rfl (fun j hj => by omega)
  exact ⟨L, h1, fun j hj => h2 j (by omega), h3⟩
theorem heldInt_ev (L : List Int) (hn : L.length ≤ 1000000) (h : ∀ j, j < L.length → rd L (j : Int) = 101 + (j : Int)) : Ev (fun k => laws_heldInt64S.f k L 101) (101 + (L.length : Int)) := by
  have key : ∀ d i, i + d = L.length → Ev (fun k => laws_heldInt64S.l0 k L (101 + (i : Int)) (i : Int)) (101 + (L.length : Int)) := by
    intro d
    induction d with
    | zero =>
      intro i hi
      obtain rfl : i = L.length := by omega
      refine Ev.dn ?_
      simp only [laws_heldInt64S.l0]
      simp only [if_neg (show ¬ (L.length : Int) < (L.length : Int) by omega)]
      exact Ev.now _
    | succ d ih =>
      intro i hi
      refine Ev.dn ?_
      refine Ev.eq' (ih (i + 1) (by omega)) (fun k => ?_)
      simp only [laws_heldInt64S.l0]
      rw [if_pos (show (i : Int) < (L.length : Int) by omega), if_pos (show (0 : Int) ≤ (i : Int) by omega), if_pos (h i (by omega)), wrap_succ (show i < L.length by omega) (by omega), wrap_id (by omega) (by omega)]
      (try congr 1)
  exact key L.length 0 (by omega)
theorem eqInt_refl (l : List Int) (hn : l.length ≤ 9223372036854775807) : Ev (fun k => laws_eqInt64S.f k l l) true := by
  unfold laws_eqInt64S.f
  simp only [if_pos rfl]
  have h := Ev.allLoop (l := fun k i => laws_eqInt64S.l0 k l l i) (n := l.length) (fun _ => true) false true
    (fun i hi => Evt.all fun k => by
      simp only [laws_eqInt64S.l0]
      rw [if_pos (by omega), if_pos (by omega), if_pos (by omega), wrap_succ hi hn]
      (try simp))
    (Evt.all fun k => by
      simp only [laws_eqInt64S.l0]
      rw [if_neg (by omega)]) l.length 0 (by omega)
  refine h.eq ?_
  rw [if_pos ((allD_iff _ _ _).2 (fun _ _ _ => rfl))]
/-- Split at a byte. -/
def splL (b : Int) : List UInt8 → List UInt8 → List (List UInt8)
  | cur, [] => [cur]
  | cur, c :: cs => if (c.toNat : Int) = b then cur :: splL b [] cs else splL b (cur ++ [c]) cs
theorem bt_get (s : ByteArray) (i : Nat) (h : i < s.toList.length) : bt s (i : Int) = (s.toList[i].toNat : Int) := by
  have h2 : i < s.size := by rwa [toList_len] at h
  rw [← bt_at s (i : Int) (by simpa using h2)]
  congr 1
  have : s.toList[i] = s.data.toList[i]'(by rw [← toList_data]; exact h) := by congr 1; exact toList_data s
  rw [this]
  rfl
theorem cut_succ (l : List UInt8) (a i : Nat) (h : i < l.length) (ha : a ≤ i) : (l.take (i + 1)).drop a = (l.take i).drop a ++ [l[i]] := by
  rw [List.take_succ_eq_append_getElem h, List.drop_append_of_le_length (by rw [List.length_take]; omega)]
theorem split_both (s : ByteArray) (b : Int) (hn : s.size ≤ 1000000) : ∀ d i a (ws : List ByteArray), i + d = s.size → a ≤ i → ws.length ≤ i →
    ∃ r : List ByteArray, r.map ByteArray.toList = ws.map ByteArray.toList ++ splL b ((s.toList.take i).drop a) (s.toList.drop i) ∧ r.length ≤ s.size + 1 ∧
      Ev (fun k => spec_l01Split.l0 k s b ws (a : Int) (i : Int)) r ∧ Ev (fun k => impl_splitAt.l0 k s b ws (a : Int) (i : Int)) r := by
  intro d
  induction d with
  | zero =>
    intro i a ws hi ha hw
    obtain rfl : i = s.size := by omega
    refine ⟨ws ++ [s.extract a s.size], ?_, by simp; omega, ?_, ?_⟩
    · rw [List.map_append, show s.toList.drop s.size = [] from List.drop_of_length_le (by rw [toList_len]; exact Nat.le_refl _)]
      simp only [splL, List.map_cons, List.map_nil, extract_toList]
    · refine Ev.dn ?_
      refine Ev.dn ?_
      refine Ev.eq' (f := fun _ => some (ws ++ [s.extract a s.size])) (Ev.now _) (fun k => ?_)
      simp only [spec_l01Split.l0]
      rw [if_pos (show (s.size : Int) ≤ (s.size : Int) by omega), if_pos trivial, if_pos (show (0 : Int) ≤ (a : Int) by omega), if_pos (show (a : Int) ≤ (s.size : Int) by omega), if_pos (show ws.length < 8796093022208 by omega),
        if_neg (show ¬ wrap64 ((s.size : Int) + 1) ≤ (s.size : Int) by rw [wrap_id (by omega) (by omega)]; omega), Int.toNat_natCast, Int.toNat_natCast]
    · refine Ev.dn ?_
      refine Ev.eq' (f := fun _ => some (ws ++ [s.extract a s.size])) (Ev.now _) (fun k => ?_)
      simp only [impl_splitAt.l0]
      rw [if_neg (show ¬ (s.size : Int) < (s.size : Int) by omega), if_pos (show (0 : Int) ≤ (a : Int) by omega), if_pos (show (a : Int) ≤ (s.size : Int) by omega), if_pos (show ws.length < 8796093022208 by omega), Int.toNat_natCast]
  | succ d ih =>
    intro i a ws hi ha hw
    have hil : i < s.toList.length := by rw [toList_len]; omega
    have hbt := bt_get s i hil
    have hw1 := wrap_succ (show i < s.size by omega) (show s.size ≤ 9223372036854775807 by omega)
    by_cases c : bt s (i : Int) = b
    · obtain ⟨r, h1, h2, h3, h4⟩ := ih (i + 1) (i + 1) (ws ++ [s.extract a i]) (by omega) (by omega) (by simp; omega)
      refine ⟨r, ?_, h2, Ev.dn (Ev.eq' h3 (fun k => ?_)), Ev.dn (Ev.eq' h4 (fun k => ?_))⟩
      · rw [h1, List.drop_of_length_le (by rw [List.length_take]; omega), List.drop_eq_getElem_cons hil]
        simp only [splL, List.map_append, List.map_cons, List.map_nil, extract_toList]
        rw [if_pos (by rw [← hbt]; exact c)]
        simp
      · simp only [spec_l01Split.l0]
        rw [if_pos (show (i : Int) ≤ (s.size : Int) by omega), if_neg (show ¬ (i : Int) = (s.size : Int) by omega), if_pos (show (0 : Int) ≤ (i : Int) by omega), if_pos (show (i : Int) < (s.size : Int) by omega), if_pos c, if_pos (show (0 : Int) ≤ (a : Int) by omega), if_pos (show (a : Int) ≤ (i : Int) by omega), if_pos (show ws.length < 8796093022208 by omega), hw1, Int.toNat_natCast, Int.toNat_natCast]
      · simp only [impl_splitAt.l0]
        rw [if_pos (show (i : Int) < (s.size : Int) by omega), if_pos (show (0 : Int) ≤ (i : Int) by omega), if_pos c, if_pos (show (0 : Int) ≤ (a : Int) by omega), if_pos (show (a : Int) ≤ (i : Int) by omega), if_pos (show (i : Int) ≤ (s.size : Int) by omega), if_pos (show ws.length < 8796093022208 by omega), hw1, Int.toNat_natCast, Int.toNat_natCast]
    · obtain ⟨r, h1, h2, h3, h4⟩ := ih (i + 1) a ws (by omega) (by omega) (by omega)
      refine ⟨r, ?_, h2, Ev.dn (Ev.eq' h3 (fun k => ?_)), Ev.dn (Ev.eq' h4 (fun k => ?_))⟩
      · rw [h1, cut_succ _ _ _ hil ha, List.drop_eq_getElem_cons hil]
        simp only [splL]
        rw [if_neg (by rw [← hbt]; exact c)]
      · simp only [spec_l01Split.l0]
        rw [if_pos (show (i : Int) ≤ (s.size : Int) by omega), if_neg (show ¬ (i : Int) = (s.size : Int) by omega), if_pos (show (0 : Int) ≤ (i : Int) by omega), if_pos (show (i : Int) < (s.size : Int) by omega), if_neg c, hw1]
      · simp only [impl_splitAt.l0]
        rw [if_pos (show (i : Int) < (s.size : Int) by omega), if_pos (show (0 : Int) ≤ (i : Int) by omega), if_neg c, hw1]
theorem split_ev (s : ByteArray) (b : Int) (hn : s.size ≤ 1000000) : ∃ r : List ByteArray, r.map ByteArray.toList = splL b [] s.toList ∧ r.length ≤ s.size + 1 ∧
    Ev (fun k => spec_l01Split.f k s b) r ∧ Ev (fun k => impl_splitAt.f k s b) r := by
  obtain ⟨r, h1, h2, h3, h4⟩ := split_both s b hn s.size 0 0 [] (by omega) (by omega) (by simp)
  exact ⟨r, by simpa using h1, h2, h3, h4⟩
def W10 : List ByteArray := (spec_l21Words.f).getD []
theorem words_spec : spec_l21Words.f = some W10 := rfl
theorem words_impl : impl_inputWords.f = some W10 := rfl
theorem W10_len : W10.length = 10 := by simp [W10, spec_l21Words.f]
/-- The last word from index i on, d of them, that is w, else a. -/
def wix (w : ByteArray) : Nat → Nat → Int → Int
  | 0, _, a => a
  | d + 1, i, a => wix w d (i + 1) (if (rdOf ByteArray.empty W10 (i : Int)).toList = w.toList then (i : Int) else a)
theorem spec_word (xs : List Int) (ws : List ByteArray) (i : Nat) (hi : i < ws.length) {r : List Int × Int} : ∀ d n a, n + d = 10 →
    Ev (fun k => spec_ReadInputs.l1 k xs ws (i : Int) (wix (rdOf ByteArray.empty ws (i : Int)) d n a) ((10 : Nat) : Int)) r → Ev (fun k => spec_ReadInputs.l1 k xs ws (i : Int) a (n : Int)) r := by
  intro d
  induction d with
  | zero =>
    intro n a hn h
    obtain rfl : n = 10 := by omega
    exact h
  | succ d ih =>
    intro n a hn h
    refine Ev.dn (Ev.eq' (ih (n + 1) _ (by omega) h) (fun k => ?_))
    simp only [spec_ReadInputs.l1, words_spec, Option.bind_some, W10_len]
    rw [if_pos (show (n : Int) ≤ 9 by omega), if_pos (show (0 : Int) ≤ (n : Int) by omega), if_pos (show (n : Int) < ((10 : Nat) : Int) by omega), if_pos (show (0 : Int) ≤ (i : Int) by omega), if_pos (show (i : Int) < (ws.length : Int) by omega), wrap_succ (show n < 10 by omega) (by omega)]
    by_cases c : (rdOf ByteArray.empty W10 (n : Int)).toList = (rdOf ByteArray.empty ws (i : Int)).toList
    · rw [if_pos c, if_pos c]
    · rw [if_neg c, if_neg c]
theorem impl_word (xs : List Int) (w : ByteArray) (x18 : List ByteArray) (x19 x20 : Int) {r : List Int × Int} : ∀ d n a, n + d = 10 →
    Ev (fun k => impl_ReadInputs.l1 k xs w (wix w d n a) x18 x19 x20 W10 ((10 : Nat) : Int) ((10 : Nat) : Int)) r → Ev (fun k => impl_ReadInputs.l1 k xs w a x18 x19 x20 W10 ((10 : Nat) : Int) (n : Int)) r := by
  intro d
  induction d with
  | zero =>
    intro n a hn h
    obtain rfl : n = 10 := by omega
    exact h
  | succ d ih =>
    intro n a hn h
    refine Ev.dn (Ev.eq' (ih (n + 1) _ (by omega) h) (fun k => ?_))
    simp only [impl_ReadInputs.l1, W10_len]
    rw [if_pos (show (n : Int) < ((10 : Nat) : Int) by omega), if_pos (show (0 : Int) ≤ (n : Int) by omega), if_pos (show (n : Int) < ((10 : Nat) : Int) by omega), wrap_succ (show n < 10 by omega) (by omega)]
    by_cases c : (rdOf ByteArray.empty W10 (n : Int)).toList = w.toList
    · rw [if_pos c, if_pos c]
    · rw [if_neg c, if_neg c]
def wdI (ws : List ByteArray) (j : Nat) : Int := wix (rdOf ByteArray.empty ws (j : Int)) 10 0 (-1)
/-- What reading comes to, from word j on. -/
def outW (ws : List ByteArray) : Nat → Nat → List Int → List Int × Int
  | 0, _, xs => (xs, 0)
  | d + 1, j, xs => if wdI ws j < 0 then ([], 6) else outW ws d (j + 1) (xs ++ [wdI ws j])
def limW (p : List Int × Int) : List Int × Int := if 60 < p.1.length then ([], 6) else p
theorem outW_len (ws : List ByteArray) : ∀ d j xs, outW ws d j xs = ([], 6) ∨ ((outW ws d j xs).1.length = xs.length + d ∧ (outW ws d j xs).2 = 0)
  | 0, _, xs => Or.inr ⟨rfl, rfl⟩
  | d + 1, j, xs => by
    simp only [outW]
    split
    · exact Or.inl rfl
    · rcases outW_len ws d (j + 1) (xs ++ [wdI ws j]) with h | ⟨h1, h2⟩
      · exact Or.inl h
      · refine Or.inr ⟨?_, h2⟩
        rw [h1]; simp; omega
theorem spec_read (ws : List ByteArray) (hw : ws.length ≤ 2000000) : ∀ d j xs, j + d = ws.length → xs.length = j → Ev (fun k => spec_ReadInputs.l0 k xs ws (j : Int)) (limW (outW ws d j xs)) := by
  intro d
  induction d with
  | zero =>
    intro j xs hj hx
    obtain rfl : j = ws.length := by omega
    refine Ev.dn ?_
    simp only [spec_ReadInputs.l0]
    simp only [if_neg (show ¬ (ws.length : Int) < (ws.length : Int) by omega), outW]
    by_cases c : 60 < xs.length
    · have e : limW (xs, 0) = ([], 6) := if_pos c
      simp only [if_pos (show (xs.length : Int) > 60 by omega), e]; exact Ev.now _
    · have e : limW (xs, 0) = (xs, 0) := if_neg c
      simp only [if_neg (show ¬ (xs.length : Int) > 60 by omega), e]; exact Ev.now _
  | succ d ih =>
    intro j xs hj hx
    refine Ev.dn ?_
    simp only [spec_ReadInputs.l0]
    simp only [if_pos (show (j : Int) < (ws.length : Int) by omega)]
    refine spec_word xs ws j (by omega) 10 0 (-1) (by omega) ?_
    refine Ev.dn ?_
    simp only [spec_ReadInputs.l1]
    simp only [if_neg (show ¬ ((10 : Nat) : Int) ≤ 9 by omega), outW]
    show Ev (fun k => if wdI ws j < 0 then _ else _) _
    by_cases c : wdI ws j < 0
    · simp only [if_pos c, limW]; exact Ev.now _
    · simp only [if_neg c, if_pos (show xs.length < 17592186044416 by omega), wrap_succ (show j < ws.length by omega) (by omega)]
      exact ih (j + 1) _ (by omega) (by simp; omega)
theorem impl_read (ws : List ByteArray) (hw : ws.length ≤ 60) : ∀ d j xs, j + d = ws.length → xs.length = j → Ev (fun k => impl_ReadInputs.l0 k xs ws (ws.length : Int) (j : Int)) (outW ws d j xs) := by
  intro d
  induction d with
  | zero =>
    intro j xs hj hx
    obtain rfl : j = ws.length := by omega
    refine Ev.dn ?_
    simp only [impl_ReadInputs.l0]
    simp only [if_neg (show ¬ (ws.length : Int) < (ws.length : Int) by omega), outW]
    exact Ev.now _
  | succ d ih =>
    intro j xs hj hx
    refine Ev.dn ?_
    simp only [impl_ReadInputs.l0, words_impl, Option.bind_some, W10_len]
    simp only [if_pos (show (j : Int) < (ws.length : Int) by omega), if_pos (show (0 : Int) ≤ (j : Int) by omega)]
    refine impl_word xs _ ws _ _ 10 0 (-1) (by omega) ?_
    refine Ev.dn ?_
    simp only [impl_ReadInputs.l1]
    simp only [if_neg (show ¬ ((10 : Nat) : Int) < ((10 : Nat) : Int) by omega), outW]
    show Ev (fun k => if wdI ws j < 0 then _ else _) _
    by_cases c : wdI ws j < 0
    · simp only [if_pos c]; exact Ev.now _
    · simp only [if_neg c, if_pos (show xs.length < 17592186044416 by omega), wrap_succ (show j < ws.length by omega) (by omega)]
      exact ih (j + 1) _ (by omega) (by simp; omega)
/-- What both readings come to. -/
theorem ReadInputs_both (s : ByteArray) (hn : s.size ≤ 1000000) : ∃ ws : List ByteArray, ws.map ByteArray.toList = splL 32 [] s.toList ∧
    (let r := if s.toList = ([45] : List UInt8) then ([], 0) else if 60 < ws.length then ([], 6) else outW ws ws.length 0 []
     Ev (fun k => spec_ReadInputs.f k s) r ∧ Ev (fun k => impl_ReadInputs.f k s) r ∧ r.1.length ≤ 60) := by
  obtain ⟨ws, h1, h2, h3, h4⟩ := split_ev s 32 hn
  refine ⟨ws, h1, ?_⟩
  unfold spec_ReadInputs.f impl_ReadInputs.f
  by_cases c : s.toList = ([45] : List UInt8)
  · simp only [if_pos c, Option.bind_some]
    exact ⟨Ev.now _, Ev.now _, by simp⟩
  simp only [if_neg c, Option.bind_some]
  have hs := spec_read ws (by omega) ws.length 0 [] (by omega) rfl
  by_cases c2 : 60 < ws.length
  · simp only [if_pos c2]
    refine ⟨?_, ?_, by simp⟩
    · refine Ev.bind h3 (hs.eq ?_)
      rcases outW_len ws ws.length 0 [] with h | ⟨h5, h6⟩
      · rw [h]; rfl
      · unfold limW
        rw [if_pos (by rw [h5]; simp; omega)]
    · refine Ev.bind h4 ?_
      simp only [if_pos (show (ws.length : Int) > 60 by omega)]
      exact Ev.now _
  · simp only [if_neg c2]
    have hlen : (outW ws ws.length 0 []).1.length ≤ 60 := by
      rcases outW_len ws ws.length 0 [] with h | ⟨h5, h6⟩
      · rw [h]; simp
      · rw [h5]; simp; omega
    refine ⟨?_, ?_, hlen⟩
    · refine Ev.bind h3 (hs.eq ?_)
      unfold limW
      rw [if_neg (by omega)]
    · refine Ev.bind h4 ?_
      simp only [if_neg (show ¬ (ws.length : Int) > 60 by omega)]
      exact impl_read ws (by omega) ws.length 0 [] (by omega) rfl
theorem FnExactReadInputs : ∀ (a0 : ByteArray), a0.size ≤ 140737488351232 → ∃ k, laws_FnExactReadInputs.f k a0 = some true := by
  intro a0 hs
  apply Ev.rounds
  unfold laws_FnExactReadInputs.f
  by_cases h : (a0.size : Int) > 1000000
  · simp only [if_pos h]; exact Ev.now _
  simp only [if_neg h]
  obtain ⟨ws, _, hb⟩ := ReadInputs_both a0 (by omega)
  obtain ⟨r, hr⟩ : ∃ r, r = (if a0.toList = ([45] : List UInt8) then ([], 0) else if 60 < ws.length then ([], 6) else outW ws ws.length 0 [] : List Int × Int) := ⟨_, rfl⟩
  simp only [← hr] at hb
  obtain ⟨h1, h2, h3⟩ := hb
  obtain ⟨L, hL1, hL2, hL3⟩ := markInt_ev r.1 (by omega)
  have hH := heldInt_ev L (by omega) hL2
  refine Ev.bind h1 (Ev.bind h2 (Ev.bind (eqInt_refl _ (by omega)) ?_))
  simp only [if_true, bne_self_eq_false]
  refine Ev.dn ?_
  simp only [laws_FnExactReadInputs.j0, Bool.false_eq_true, if_false]
  refine Ev.bind hL3 (Ev.bind hH ?_)
  simp only [if_neg (show ¬ 101 + (L.length : Int) < 0 by omega), hL1, if_true]
  refine Ev.bind h2 (Ev.bind (eqInt_refl _ (by omega)) ?_)
  simp only [if_true, bne_self_eq_false]
  refine Ev.dn ?_
  simp only [laws_FnExactReadInputs.j1, Bool.false_eq_true, if_false]
  refine Ev.bind hH ?_
  simp only [if_neg (show ¬ 101 + (L.length : Int) < 0 by omega), hL1, if_true]
  exact Ev.now _
end Go.Proofs.Ytapcjchgcppanaa.Pure
