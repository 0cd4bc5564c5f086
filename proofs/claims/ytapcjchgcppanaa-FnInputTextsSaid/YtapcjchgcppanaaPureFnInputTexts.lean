/- The law FnInputTexts as a statement over numbers and lists, proved; no condition but the sizes and ranges that every input has. -/
import Derived.Test.YtapcjchgcppanaaF30
import Derived.Test.YtapcjchgcppanaaEv
namespace Go.Proofs.Ytapcjchgcppanaa.Pure
open Go.RowKit Go.Proofs.Ytapcjchgcppanaa.Pall Go.Proofs.YtapcjchgcppanaaW.PrintWords
set_option linter.unusedSimpArgs false
set_option linter.unusedVariables false
/-- A place in the bytes and a state of the draws. -/
def Gd (L : List Int) (p z : Int) : Prop := 0 ≤ p ∧ p ≤ (L.length : Int) ∧ 0 ≤ z ∧ z < 2147483647
def By (L : List Int) : Prop := L.length ≤ 4096 ∧ ∀ j : Nat, j < L.length → 0 ≤ rd L (j : Int) ∧ rd L (j : Int) ≤ 255
theorem tm_bd {x n : Int} (hx : 0 ≤ x) (hn : 0 < n) : 0 ≤ Int.tmod x n ∧ Int.tmod x n < n := ⟨Int.tmod_nonneg n hx, Int.tmod_lt_of_pos x hn⟩
theorem next_ok {L : List Int} (hL : By L) {p z : Int} (g : Gd L p z) (n : Int) (h1 : 1 ≤ n) (h2 : n ≤ 1000000) : ∃ v p' z' : Int, spec_l01Next.f L p z n = some (v, p', z') ∧ Gd L p' z' ∧ 0 ≤ v ∧ v < n := by
  obtain ⟨g1, g2, g3, g4⟩ := g
  obtain ⟨hl, hb⟩ := hL
  unfold spec_l01Next.f
  by_cases c1 : n ≤ 1
  · rw [if_pos c1]
    exact ⟨0, p, z, rfl, ⟨g1, g2, g3, g4⟩, by omega, by omega⟩
  rw [if_neg c1]
  have hn : ¬ n = 0 := by omega
  have w1 : wrap64 (z * 48271) = z * 48271 := wrap_id (by omega) (by omega)
  have w2 : wrap64 (z * 48271 + 29) = z * 48271 + 29 := wrap_id (by omega) (by omega)
  obtain ⟨z0, z1⟩ := tm_bd (x := z * 48271 + 29) (n := 2147483647) (by omega) (by decide)
  simp only [w1, w2, if_neg hn]
  generalize Int.tmod (z * 48271 + 29) 2147483647 = y at z0 z1
  have q0 : Int.tdiv y 31 = y / 31 := Int.tdiv_eq_ediv_of_nonneg z0
  obtain ⟨q2, q3⟩ : 0 ≤ y / 31 ∧ y / 31 ≤ 2147483647 := by clear w1 w2 c1 hb; omega
  have q1 : wrap64 (y / 31) = y / 31 := wrap_id (by clear w1 w2 c1 hb q0; omega) (by clear w1 w2 c1 hb q0; omega)
  simp only [q0, q1]
  clear q0 q1 w1 w2
  generalize y / 31 = q at q2 q3
  by_cases c2 : p < (L.length : Int)
  · obtain ⟨m, rfl⟩ := Int.eq_ofNat_of_zero_le g1
    obtain ⟨r0, r1⟩ := hb m (by omega)
    have m0 : (m : Int) < 4096 := by clear z0 z1 q2 q3 r0 r1; omega
    obtain ⟨p1, p2⟩ : wrap64 ((m : Int) + 1) = (m : Int) + 1 ∧ wrap64 ((m : Int) + 1 - 1) = (m : Int) := by
      clear z0 z1 q2 q3 r0 r1 c2 g1 g2 hb hn
      refine ⟨wrap_id (by omega) (by omega), ?_⟩
      rw [wrap_id (by omega) (by omega)]
      omega
    obtain ⟨r2, r3⟩ : wrap64 (rd L (m : Int)) = rd L (m : Int) ∧ wrap64 (q + rd L (m : Int)) = q + rd L (m : Int) := by
      clear p1 p2 c2 g1 g2 hb hn
      generalize rd L (m : Int) = r at r0 r1
      exact ⟨wrap_id (by omega) (by omega), wrap_id (by omega) (by omega)⟩
    have k1 : 0 ≤ (m : Int) + 1 ∧ (m : Int) + 1 ≤ (L.length : Int) := by clear p1 p2 r2 r3 z0 z1 q2 q3 r0 r1; omega
    have k2 : 0 ≤ q + rd L (m : Int) := by clear p1 p2 r2 r3 z0 z1; omega
    have k3 : 0 < n := by clear p1 p2 r2 r3 z0 z1 q2 q3 r0 r1; omega
    obtain ⟨a0, a1⟩ := tm_bd (x := rd L (m : Int)) (n := n) r0 k3
    obtain ⟨b0, b1⟩ := tm_bd (x := q + rd L (m : Int)) (n := n) k2 k3
    by_cases c4 : n ≤ 256
    · simp only [if_pos c2, if_pos g1, if_pos c4, p1, p2, r2, r3]
      by_cases c3 : Int.tmod ((m : Int) + 1) 2 = 0
      · rw [if_pos c3]
        exact ⟨_, _, _, rfl, ⟨k1.1, k1.2, z0, z1⟩, a0, a1⟩
      · rw [if_neg c3]
        exact ⟨_, _, _, rfl, ⟨k1.1, k1.2, z0, z1⟩, b0, b1⟩
    · simp only [if_pos c2, if_pos g1, if_neg c4, p1, p2, r2, r3]
      exact ⟨_, _, _, rfl, ⟨k1.1, k1.2, z0, z1⟩, b0, b1⟩
  · rw [if_neg c2]
    obtain ⟨b0, b1⟩ := tm_bd (x := q) (n := n) (by omega) (by omega)
    exact ⟨_, _, _, rfl, ⟨g1, g2, z0, z1⟩, b0, b1⟩
theorem pick_ok {L : List Int} (hL : By L) {p z : Int} (g : Gd L p z) (l : List Int) (h1 : 1 ≤ l.length) (h2 : l.length ≤ 256) : ∃ v p' z' : Int, spec_l01Pick.f L p z l = some (v, p', z') ∧ Gd L p' z' := by
  obtain ⟨v, p', z', e, g', v0, v1⟩ := next_ok hL g (l.length : Int) (by omega) (by omega)
  refine ⟨rd l v, p', z', ?_, g'⟩
  unfold spec_l01Pick.f
  rw [e, Option.bind_some, if_pos v0, if_pos v1]
theorem from_ev {L : List Int} (hL : By L) : ∃ z, Ev (fun k => spec_l01From.f k L) (L, 0, z) ∧ Gd L 0 z := by
  have loop : ∀ (d i : Nat) (z : Int), i + d = 64 → 0 ≤ z → z < 2147483647 → ∃ z', Ev (fun k => spec_l01From.l0 k L (i : Int) L 0 z) (L, 0, z') ∧ Gd L 0 z' := by
    intro d
    induction d with
    | zero =>
      intro i z hi h0 h1
      refine ⟨z, Ev.dn ?_, by omega, by omega, h0, h1⟩
      simp only [spec_l01From.l0, if_neg (show ¬ (i : Int) < 64 by omega), ite_self]
      exact Ev.now _
    | succ d ih =>
      intro i z hi h0 h1
      by_cases c : (i : Int) < (L.length : Int)
      · obtain ⟨r0, r1⟩ := hL.2 i (by omega)
        have w1 : wrap64 (z * 83) = z * 83 := wrap_id (by clear ih; omega) (by clear ih; omega)
        have w2 : wrap64 (rd L (i : Int)) = rd L (i : Int) := wrap_id (by clear ih; omega) (by clear ih; omega)
        have w3 : wrap64 (z * 83 + rd L (i : Int)) = z * 83 + rd L (i : Int) := wrap_id (by clear ih; omega) (by clear ih; omega)
        obtain ⟨z0, z1⟩ := tm_bd (x := z * 83 + rd L (i : Int)) (n := 2147483647) (by clear ih; omega) (by decide)
        obtain ⟨z', h2, h3⟩ := ih (i + 1) _ (by clear ih; omega) z0 z1
        refine ⟨z', Ev.dn ?_, h3⟩
        have hw := wrap_succ (i := i) (n := 64) (by clear ih; omega) (by omega)
        simp only [spec_l01From.l0, if_pos c, if_pos (show (i : Int) < 64 by clear ih; omega), if_pos (show (0 : Int) ≤ (i : Int) by clear ih; omega), w1, w2, w3, hw]
        exact h2
      · refine ⟨z, Ev.dn ?_, by omega, by omega, h0, h1⟩
        simp only [spec_l01From.l0, if_neg c]
        exact Ev.now _
  unfold spec_l01From.f
  exact loop 64 0 61043 (by omega) (by omega) (by omega)
theorem inputs_ok {L : List Int} (hL : By L) : ∀ (c : Nat) (x : List Int) (p z : Int), Gd L p z → x.length + c ≤ 90 → ∃ (xs : List Int) (p' z' : Int), Ev (fun k => spec_l21Inputs.l0 k x (c : Int) L p z) (xs, p', z') ∧ Gd L p' z' ∧ xs.length ≤ 100 := by
  intro c
  induction c with
  | zero =>
    intro x p z g hx
    obtain ⟨v, p1, z1, e1, g1, v0, v1⟩ := next_ok hL g 40 (by omega) (by omega)
    by_cases c0 : v = 0
    · obtain ⟨u, p2, z2, e2, g2⟩ := pick_ok hL g1 [(-1), 10] (by decide) (by decide)
      refine ⟨x ++ [u], p2, z2, Ev.dn ?_, g2, by rw [List.length_append, List.length_singleton]; omega⟩
      simp only [spec_l21Inputs.l0, if_neg (show ¬ ((0 : Nat) : Int) > 0 by omega), e1, Option.bind_some, if_pos c0, e2, if_pos (show x.length < 17592186044416 by omega)]
      exact Ev.now _
    · by_cases c1 : v = 1
      · obtain ⟨u, p2, z2, e2, g2, u0, u1⟩ := next_ok hL g1 2 (by omega) (by omega)
        have w : wrap64 (60 + u) = 60 + u := wrap_id (by omega) (by omega)
        refine ⟨List.replicate (60 + u).toNat 0, p2, z2, Ev.dn ?_, g2, by rw [List.length_replicate]; omega⟩
        simp only [spec_l21Inputs.l0, if_neg (show ¬ ((0 : Nat) : Int) > 0 by omega), e1, Option.bind_some, if_neg c0, if_pos c1, e2, w, if_pos (show (0 : Int) ≤ 60 + u by omega), if_pos (show (60 + u).toNat ≤ 35184372088832 by omega)]
        exact Ev.now _
      · refine ⟨x, p1, z1, Ev.dn ?_, g1, by omega⟩
        simp only [spec_l21Inputs.l0, if_neg (show ¬ ((0 : Nat) : Int) > 0 by omega), e1, Option.bind_some, if_neg c0, if_neg c1]
        exact Ev.now _
  | succ c ih =>
    intro x p z g hx
    obtain ⟨v, p1, z1, e1, g1, v0, v1⟩ := next_ok hL g 10 (by omega) (by omega)
    obtain ⟨u, p2, z2, e2, g2⟩ := pick_ok hL g1 [v, 7, 8, 8, 4, 5, 2] (by simp) (by simp)
    obtain ⟨xs, p', z', h1, h2, h3⟩ := ih (x ++ [u]) p2 z2 g2 (by clear ih; rw [List.length_append, List.length_singleton]; omega)
    refine ⟨xs, p', z', Ev.dn ?_, h2, h3⟩
    have w : wrap64 (((c + 1 : Nat) : Int) - 1) = (c : Int) := by rw [wrap_id (by clear ih; omega) (by clear ih; omega)]; clear ih; omega
    simp only [spec_l21Inputs.l0, if_pos (show ((c + 1 : Nat) : Int) > 0 by clear ih; omega), e1, Option.bind_some, e2, if_pos (show x.length < 17592186044416 by clear ih; omega), w]
    exact h1
theorem l21Inputs_ok {L : List Int} (hL : By L) {p z : Int} (g : Gd L p z) : ∃ (xs : List Int) (p' z' : Int), Ev (fun k => spec_l21Inputs.f k L p z) (xs, p', z') ∧ Gd L p' z' ∧ xs.length ≤ 100 := by
  obtain ⟨v, p1, z1, e1, g1, v0, v1⟩ := next_ok hL g 2 (by omega) (by omega)
  obtain ⟨u, p2, z2, e2, g2, u0, u1⟩ := next_ok hL g1 8 (by omega) (by omega)
  obtain ⟨m, rfl⟩ := Int.eq_ofNat_of_zero_le u0
  unfold spec_l21Inputs.f
  by_cases c : v = 0
  · obtain ⟨xs, p', z', h1, h2, h3⟩ := inputs_ok hL m [0, 1, 2] p2 z2 g2 (by simp; omega)
    refine ⟨xs, p', z', ?_, h2, h3⟩
    simp only [Option.bind_some, e1, if_pos c, List.length_nil, List.nil_append]
    simp only [if_pos (show 0 + ([0, 1, 2] : List Int).length < 17592186044416 by decide)]
    refine Ev.dn ?_
    simp only [spec_l21Inputs.j0, e2, Option.bind_some]
    exact h1
  · obtain ⟨xs, p', z', h1, h2, h3⟩ := inputs_ok hL m [] p2 z2 g2 (by simp; omega)
    refine ⟨xs, p', z', ?_, h2, h3⟩
    simp only [Option.bind_some, e1, if_neg c]
    refine Ev.dn ?_
    simp only [spec_l21Inputs.j0, e2, Option.bind_some]
    exact h1
theorem toList_loop (s : ByteArray) : ∀ d i r, i + d = s.size → ByteArray.toList.loop s i r = r.reverse ++ s.data.toList.drop i := by
  intro d
  induction d with
  | zero =>
    intro i r h
    have e : s.data.toList.drop i = [] := List.drop_of_length_le (by rw [Array.length_toList]; exact Nat.le_of_eq h.symm)
    rw [ByteArray.toList.loop, if_neg (by omega), e, List.append_nil]
  | succ d ih =>
    intro i r h
    have hi : i < s.data.toList.length := by rw [Array.length_toList]; show i < s.size; omega
    rw [ByteArray.toList.loop, if_pos (by omega), ih (i + 1) _ (by omega), List.drop_eq_getElem_cons hi]
    simp [ByteArray.get!]
    exact getElem!_pos s.data i (by simpa using hi)
theorem toList_data (s : ByteArray) : s.toList = s.data.toList := by
  unfold ByteArray.toList
  rw [toList_loop s s.size 0 [] (by omega)]
  simp
theorem toList_len (s : ByteArray) : s.toList.length = s.size := by rw [toList_data, Array.length_toList]; rfl
theorem extract_toList (s : ByteArray) (a b : Nat) : (s.extract a b).toList = (s.toList.take b).drop a := by
  rw [toList_data, toList_data]
  simp only [ByteArray.data_extract, Array.toList_extract]
  rw [List.drop_take]
theorem append_toList (a b : ByteArray) : (a ++ b).toList = a.toList ++ b.toList := by
  rw [toList_data, toList_data, toList_data]
  simp
/-- Split at a byte. -/
def splL (b : Int) : List UInt8 → List UInt8 → List (List UInt8)
  | cur, [] => [cur]
  | cur, c :: cs => if (c.toNat : Int) = b then cur :: splL b [] cs else splL b (cur ++ [c]) cs
theorem bt_get (s : ByteArray) (i : Nat) (h : i < s.toList.length) : bt s (i : Int) = (s.toList[i].toNat : Int) := by
  have h2 : i < s.size := by rwa [toList_len] at h
  rw [← bt_at s (i : Int) (by simpa using h2)]
  congr 1
  have : s.toList[i] = s.data.toList[i]'(by rw [← toList_data]; exact h) := by congr 1; exact toList_data s
  rw [this]
  rfl
theorem cut_succ (l : List UInt8) (a i : Nat) (h : i < l.length) (ha : a ≤ i) : (l.take (i + 1)).drop a = (l.take i).drop a ++ [l[i]] := by
  rw [List.take_succ_eq_append_getElem h, List.drop_append_of_le_length (by rw [List.length_take]; omega)]
theorem split_both (s : ByteArray) (b : Int) (hn : s.size ≤ 1000000) : ∀ d i a (ws : List ByteArray), i + d = s.size → a ≤ i → ws.length ≤ i →
    ∃ r : List ByteArray, r.map ByteArray.toList = ws.map ByteArray.toList ++ splL b ((s.toList.take i).drop a) (s.toList.drop i) ∧ r.length ≤ s.size + 1 ∧
      Ev (fun k => spec_l01Split.l0 k s b ws (a : Int) (i : Int)) r ∧ Ev (fun k => impl_splitAt.l0 k s b ws (a : Int) (i : Int)) r := by
  intro d
  induction d with
  | zero =>
    intro i a ws hi ha hw
    obtain rfl : i = s.size := by omega
    refine ⟨ws ++ [s.extract a s.size], ?_, by simp; omega, ?_, ?_⟩
    · rw [List.map_append, show s.toList.drop s.size = [] from List.drop_of_length_le (by rw [toList_len]; exact Nat.le_refl _)]
      simp only [splL, List.map_cons, List.map_nil, extract_toList]
    · refine Ev.dn ?_
      refine Ev.dn ?_
      refine Ev.eq' (f := fun _ => some (ws ++ [s.extract a s.size])) (Ev.now _) (fun k => ?_)
      simp only [spec_l01Split.l0]
      rw [if_pos (show (s.size : Int) ≤ (s.size : Int) by omega), if_pos trivial, if_pos (show (0 : Int) ≤ (a : Int) by omega), if_pos (show (a : Int) ≤ (s.size : Int) by omega), if_pos (show ws.length < 8796093022208 by omega),
        if_neg (show ¬ wrap64 ((s.size : Int) + 1) ≤ (s.size : Int) by rw [wrap_id (by omega) (by omega)]; omega), Int.toNat_natCast, Int.toNat_natCast]
    · refine Ev.dn ?_
      refine Ev.eq' (f := fun _ => some (ws ++ [s.extract a s.size])) (Ev.now _) (fun k => ?_)
      simp only [impl_splitAt.l0]
      rw [if_neg (show ¬ (s.size : Int) < (s.size : Int) by omega), if_pos (show (0 : Int) ≤ (a : Int) by omega), if_pos (show (a : Int) ≤ (s.size : Int) by omega), if_pos (show ws.length < 8796093022208 by omega), Int.toNat_natCast]
  | succ d ih =>
    intro i a ws hi ha hw
    have hil : i < s.toList.length := by rw [toList_len]; omega
    have hbt := bt_get s i hil
    have hw1 := wrap_succ (show i < s.size by omega) (show s.size ≤ 9223372036854775807 by omega)
    by_cases c : bt s (i : Int) = b
    · obtain ⟨r, h1, h2, h3, h4⟩ := ih (i + 1) (i + 1) (ws ++ [s.extract a i]) (by omega) (by omega) (by simp; omega)
      refine ⟨r, ?_, h2, Ev.dn (Ev.eq' h3 (fun k => ?_)), Ev.dn (Ev.eq' h4 (fun k => ?_))⟩
      · rw [h1, List.drop_of_length_le (by rw [List.length_take]; omega), List.drop_eq_getElem_cons hil]
        simp only [splL, List.map_append, List.map_cons, List.map_nil, extract_toList]
        rw [if_pos (by rw [← hbt]; exact c)]
        simp
      · simp only [spec_l01Split.l0]
        rw [if_pos (show (i : Int) ≤ (s.size : Int) by omega), if_neg (show ¬ (i : Int) = (s.size : Int) by omega), if_pos (show (0 : Int) ≤ (i : Int) by omega), if_pos (show (i : Int) < (s.size : Int) by omega), if_pos c, if_pos (show (0 : Int) ≤ (a : Int) by omega), if_pos (show (a : Int) ≤ (i : Int) by omega), if_pos (show ws.length < 8796093022208 by omega), hw1, Int.toNat_natCast, Int.toNat_natCast]
      · simp only [impl_splitAt.l0]
        rw [if_pos (show (i : Int) < (s.size : Int) by omega), if_pos (show (0 : Int) ≤ (i : Int) by omega), if_pos c, if_pos (show (0 : Int) ≤ (a : Int) by omega), if_pos (show (a : Int) ≤ (i : Int) by omega), if_pos (show (i : Int) ≤ (s.size : Int) by omega), if_pos (show ws.length < 8796093022208 by omega), hw1, Int.toNat_natCast, Int.toNat_natCast]
    · obtain ⟨r, h1, h2, h3, h4⟩ := ih (i + 1) a ws (by omega) (by omega) (by omega)
      refine ⟨r, ?_, h2, Ev.dn (Ev.eq' h3 (fun k => ?_)), Ev.dn (Ev.eq' h4 (fun k => ?_))⟩
      · rw [h1, cut_succ _ _ _ hil ha, List.drop_eq_getElem_cons hil]
        simp only [splL]
        rw [if_neg (by rw [← hbt]; exact c)]
      · simp only [spec_l01Split.l0]
        rw [if_pos (show (i : Int) ≤ (s.size : Int) by omega), if_neg (show ¬ (i : Int) = (s.size : Int) by omega), if_pos (show (0 : Int) ≤ (i : Int) by omega), if_pos (show (i : Int) < (s.size : Int) by omega), if_neg c, hw1]
      · simp only [impl_splitAt.l0]
        rw [if_pos (show (i : Int) < (s.size : Int) by omega), if_pos (show (0 : Int) ≤ (i : Int) by omega), if_neg c, hw1]
theorem split_ev (s : ByteArray) (b : Int) (hn : s.size ≤ 1000000) : ∃ r : List ByteArray, r.map ByteArray.toList = splL b [] s.toList ∧ r.length ≤ s.size + 1 ∧
    Ev (fun k => spec_l01Split.f k s b) r ∧ Ev (fun k => impl_splitAt.f k s b) r := by
  obtain ⟨r, h1, h2, h3, h4⟩ := split_both s b hn s.size 0 0 [] (by omega) (by omega) (by simp)
  exact ⟨r, by simpa using h1, h2, h3, h4⟩
/-- Texts with another one between them. -/
def joinB (sep : ByteArray) (ws : List ByteArray) : Nat → Nat → ByteArray → ByteArray
  | 0, _, s => s
  | d + 1, i, s => joinB sep ws d (i + 1) ((if 0 < i then s ++ sep else s) ++ rdOf ByteArray.empty ws (i : Int))
theorem join_both (sep : ByteArray) (ws : List ByteArray) (B : Nat) (hs : sep.size ≤ 100) (hw : ∀ i, i < ws.length → (rdOf ByteArray.empty ws (i : Int)).size ≤ B) (hB : B ≤ 1000000) (hl : ws.length ≤ 1000000) :
    ∀ d i s, i + d = ws.length → s.size ≤ i * (B + 100) → Ev (fun k => spec_l01Words.l0 k ws sep s (i : Int)) (joinB sep ws d i s) ∧ Ev (fun k => impl_joinWith.l0 k sep s ws (ws.length : Int) (i : Int)) (joinB sep ws d i s) := by
  intro d
  induction d with
  | zero =>
    intro i s hi hz
    obtain rfl : i = ws.length := by omega
    refine ⟨Ev.dn ?_, Ev.dn ?_⟩
    · simp only [spec_l01Words.l0]
      simp only [if_neg (show ¬ (ws.length : Int) < (ws.length : Int) by omega)]
      exact Ev.now _
    · simp only [impl_joinWith.l0]
      simp only [if_neg (show ¬ (ws.length : Int) < (ws.length : Int) by omega)]
      exact Ev.now _
  | succ d ih =>
    intro i s hi hz
    have hwi := hw i (by omega)
    have hm : i * (B + 100) ≤ 1000100000000 := Nat.le_trans (Nat.mul_le_mul (show i ≤ 1000000 by omega) (show B + 100 ≤ 1000100 by omega)) (by decide)
    have e1 : (i + 1) * (B + 100) = i * (B + 100) + (B + 100) := by rw [Nat.add_mul, Nat.one_mul]
    have ha : (s ++ sep).size = s.size + sep.size := ByteArray.size_append
    have h1 := ih (i + 1) ((if 0 < i then s ++ sep else s) ++ rdOf ByteArray.empty ws (i : Int)) (by omega) (by
      rw [ByteArray.size_append, e1]
      split <;> omega)
    have hsu := wrap_succ (show i < ws.length by omega) (show ws.length ≤ 9223372036854775807 by omega)
    have b1 : s.size + sep.size ≤ 9223372036854775807 := by omega
    have b2 : (s ++ sep).size + (rdOf ByteArray.empty ws (i : Int)).size ≤ 9223372036854775807 := by omega
    have b3 : s.size + (rdOf ByteArray.empty ws (i : Int)).size ≤ 9223372036854775807 := by omega
    clear e1 hm hz ha ih hwi
    have hlt : (i : Int) < (ws.length : Int) := by omega
    have h0 : (0 : Int) ≤ (i : Int) := by omega
    clear hi hw hl hB hs
    obtain ⟨h1, h2⟩ := h1
    refine ⟨Ev.dn (Ev.eq' h1 (fun k => ?_)), Ev.dn (Ev.eq' h2 (fun k => ?_))⟩
    · simp only [spec_l01Words.l0]
      rw [if_pos hlt, hsu]
      by_cases c : 0 < i
      · have c' : (i : Int) > 0 := Int.natCast_pos.2 c
        rw [if_pos c', if_pos b1, if_pos h0, if_pos b2, if_pos c]
      · have c' : ¬ (i : Int) > 0 := fun h => c (Int.natCast_pos.1 h)
        rw [if_neg c', if_pos h0, if_pos b3, if_neg c]
    · simp only [impl_joinWith.l0]
      rw [if_pos (show (i : Int) < (ws.length : Int) by omega), if_pos h0, if_pos hlt, hsu]
      by_cases c : 0 < i
      · have c' : (i : Int) > 0 := Int.natCast_pos.2 c
        rw [if_pos c', if_pos b1, if_pos b2, if_pos c]
      · have c' : ¬ (i : Int) > 0 := fun h => c (Int.natCast_pos.1 h)
        rw [if_neg c', if_pos b3, if_neg c]
def W10 : List ByteArray := (spec_l21Words.f).getD []
theorem words_spec : spec_l21Words.f = some W10 := rfl
theorem words_impl : impl_inputWords.f = some W10 := rfl
theorem W10_len : W10.length = 10 := by simp [W10, spec_l21Words.f]
theorem W10_size : ∀ j : Nat, j < 10 → (rdOf ByteArray.empty W10 (j : Int)).size ≤ 6 := by
  intro j hj
  have : j = 0 ∨ j = 1 ∨ j = 2 ∨ j = 3 ∨ j = 4 ∨ j = 5 ∨ j = 6 ∨ j = 7 ∨ j = 8 ∨ j = 9 := by omega
  rcases this with h | h | h | h | h | h | h | h | h | h <;> subst h <;> decide
def inOk (xs : List Int) : Bool := allD (fun j => decide (0 ≤ rd xs (j : Int)) && decide (rd xs (j : Int) ≤ 9)) 0 xs.length
theorem inOk_iff (xs : List Int) : inOk xs = true ↔ ∀ j, j < xs.length → 0 ≤ rd xs (j : Int) ∧ rd xs (j : Int) ≤ 9 := by
  unfold inOk
  rw [allD_iff]
  simp only [Bool.and_eq_true, decide_eq_true_eq]
  exact ⟨fun h j hj => h j (Nat.zero_le _) (by omega), fun h j _ hj => h j (by omega)⟩
def wordsOf (xs : List Int) : List ByteArray := xs.map fun x => rdOf ByteArray.empty W10 x
theorem wordsOf_len (xs : List Int) : (wordsOf xs).length = xs.length := by simp [wordsOf]
theorem wordsOf_take (xs : List Int) (i : Nat) (h : i < xs.length) : wordsOf (xs.take (i + 1)) = wordsOf (xs.take i) ++ [rdOf ByteArray.empty W10 (rd xs (i : Int))] := by
  rw [List.take_succ_eq_append_getElem h, rd_nat h]
  unfold wordsOf
  rw [List.map_append]
  rfl
theorem wordsOf_rd (xs : List Int) (i : Nat) (h : i < xs.length) : rdOf ByteArray.empty (wordsOf xs) (i : Int) = rdOf ByteArray.empty W10 (rd xs (i : Int)) := by
  rw [rdOf_nat (by rw [wordsOf_len]; exact h), rd_nat h]
  simp [wordsOf]
theorem wordsOf_size (xs : List Int) (ho : inOk xs = true) : ∀ i, i < (wordsOf xs).length → (rdOf ByteArray.empty (wordsOf xs) (i : Int)).size ≤ 6 := by
  intro i hi
  rw [wordsOf_len] at hi
  rw [wordsOf_rd xs i hi]
  have := (inOk_iff xs).1 ho i hi
  obtain ⟨j, hj⟩ := Int.eq_ofNat_of_zero_le this.1
  rw [hj]
  exact W10_size j (by omega)
def spT : ByteArray := ⟨#[32]⟩
def txtOf (xs : List Int) : ByteArray := if xs.length = 0 then ⟨#[45]⟩ else joinB spT (wordsOf xs) xs.length 0 ⟨#[]⟩
theorem spec_text (xs : List Int) (hn : xs.length ≤ 1000000) (ho : inOk xs = true) : Ev (fun k => spec_l21Text.f k xs) (txtOf xs) := by
  unfold spec_l21Text.f
  have key : ∀ d i, i + d = xs.length → Ev (fun k => spec_l21Text.l0 k xs (wordsOf (xs.take i)) (i : Int)) (txtOf xs) := by
    intro d
    induction d with
    | zero =>
      intro i hi
      obtain rfl : i = xs.length := by omega
      refine Ev.dn ?_
      simp only [spec_l21Text.l0]
      simp only [if_neg (show ¬ (xs.length : Int) < (xs.length : Int) by omega), List.take_length, wordsOf_len, txtOf]
      by_cases c : xs.length = 0
      · simp only [if_pos c, if_pos (show (xs.length : Int) = 0 by omega)]
        exact Ev.now _
      · simp only [if_neg c, if_neg (show ¬ (xs.length : Int) = 0 by omega)]
        refine Ev.bind ?_ (Ev.now _)
        unfold spec_l01Words.f
        have h := (join_both spT (wordsOf xs) 6 (by decide) (wordsOf_size xs ho) (by omega) (by rw [wordsOf_len]; exact hn) xs.length 0 ⟨#[]⟩ (by rw [wordsOf_len]; omega) (by decide)).1
        exact h
    | succ d ih =>
      intro i hi
      refine Ev.dn (Ev.eq' (ih (i + 1) (by omega)) (fun k => ?_))
      have hx := (inOk_iff xs).1 ho i (by omega)
      simp only [spec_l21Text.l0, words_spec, Option.bind_some, W10_len]
      rw [if_pos (show (i : Int) < (xs.length : Int) by omega), if_pos (show (0 : Int) ≤ (i : Int) by omega), if_pos hx.1, if_pos (by omega), if_pos (by rw [wordsOf_len, List.length_take]; omega), wrap_succ (show i < xs.length by omega) (show xs.length ≤ 9223372036854775807 by omega), wordsOf_take xs i (by omega)]
  exact key xs.length 0 (by omega)
theorem impl_text (xs : List Int) (hn : xs.length ≤ 1000000) (ho : inOk xs = true) : ∀ d i, i + d = xs.length → Ev (fun k => impl_InputsText.l0 k (wordsOf (xs.take i)) xs (xs.length : Int) (i : Int)) (joinB spT (wordsOf xs) xs.length 0 ⟨#[]⟩, 0) := by
  intro d
  induction d with
  | zero =>
    intro i hi
    obtain rfl : i = xs.length := by omega
    refine Ev.dn ?_
    simp only [impl_InputsText.l0]
    simp only [if_neg (show ¬ (xs.length : Int) < (xs.length : Int) by omega), List.take_length]
    refine Ev.bind ?_ (Ev.now _)
    unfold impl_joinWith.f
    have h := (join_both spT (wordsOf xs) 6 (by decide) (wordsOf_size xs ho) (by omega) (by rw [wordsOf_len]; exact hn) xs.length 0 ⟨#[]⟩ (by rw [wordsOf_len]; omega) (by decide)).2
    exact h
  | succ d ih =>
    intro i hi
    refine Ev.dn (Ev.eq' (ih (i + 1) (by omega)) (fun k => ?_))
    have hx := (inOk_iff xs).1 ho i (by omega)
    simp only [impl_InputsText.l0, words_impl, Option.bind_some, W10_len]
    rw [if_pos (show (i : Int) < (xs.length : Int) by omega), if_pos (show (0 : Int) ≤ (i : Int) by omega), if_pos (show (i : Int) < (xs.length : Int) by omega), if_pos hx.1, if_pos (by omega), if_pos (by rw [wordsOf_len, List.length_take]; omega), wrap_succ (show i < xs.length by omega) (show xs.length ≤ 9223372036854775807 by omega), wordsOf_take xs i (by omega)]
theorem allWithin_ev (xs : List Int) (hn : xs.length ≤ 1000000) : Ev (fun k => impl_allWithin.f k xs 0 9) (inOk xs) := by
  unfold impl_allWithin.f
  have h := Ev.allLoop (l := fun k i => impl_allWithin.l0 k 0 9 xs (xs.length : Int) i) (n := xs.length) (fun j => decide (0 ≤ rd xs (j : Int)) && decide (rd xs (j : Int) ≤ 9)) false true
    (fun i hi => Evt.all fun k => by
      simp only [impl_allWithin.l0, impl_within.f]
      rw [if_pos (by omega), if_pos (by omega), if_pos (by omega), wrap_succ hi (by omega)]
      by_cases h1 : 0 ≤ rd xs (i : Int) <;> by_cases h2 : rd xs (i : Int) ≤ 9 <;> simp [h1, h2])
    (Evt.all fun k => by
      simp only [impl_allWithin.l0]
      rw [if_neg (by omega)]) xs.length 0 (by omega)
  refine h.eq ?_
  unfold inOk
  cases allD (fun j => decide (0 ≤ rd xs (j : Int)) && decide (rd xs (j : Int) ≤ 9)) 0 xs.length <;> simp
def textR (xs : List Int) : ByteArray × Int := if inOk xs = true then (if 60 < xs.length then (⟨#[]⟩, 3) else (txtOf xs, 0)) else (⟨#[]⟩, 2)
theorem spec_InputsText_ev (xs : List Int) (hn : xs.length ≤ 1000000) : Ev (fun k => spec_InputsText.f k xs) (textR xs) := by
  unfold spec_InputsText.f
  have h := Ev.allLoopQ (l := fun k i => spec_InputsText.l0 k xs i) (n := xs.length) (fun j => decide (0 ≤ rd xs (j : Int)) && decide (rd xs (j : Int) ≤ 9)) (⟨#[]⟩, 2) (if 60 < xs.length then (⟨#[]⟩, 3) else (txtOf xs, 0))
    (fun i hi hp => by
      refine ⟨fun hs r hr => Ev.dn (Ev.eq' hr (fun k => ?_)), fun hs => Ev.dn (Ev.eq' (f := fun _ => some (⟨#[]⟩, 2)) (Ev.now _) (fun k => ?_))⟩
      · simp only [Bool.and_eq_true, decide_eq_true_eq] at hs
        simp only [spec_InputsText.l0, spec_l01In.f, ge_iff_le]
        rw [if_pos (by omega), if_pos (by omega), if_pos hs.1, Option.bind_some, decide_eq_true hs.2, if_pos rfl, wrap_succ hi (by omega)]
      · simp only [spec_InputsText.l0, spec_l01In.f, ge_iff_le]
        rw [if_pos (by omega), if_pos (by omega)]
        by_cases h1 : 0 ≤ rd xs (i : Int)
        · have h2 : ¬ rd xs (i : Int) ≤ 9 := fun h2 => by simp [h1, h2] at hs
          rw [if_pos h1, Option.bind_some, decide_eq_false h2]; rfl
        · rw [if_neg h1, Option.bind_some]; rfl)
    (fun hp => by
      have ho : inOk xs = true := by
        rw [inOk_iff]
        intro j hj
        have := hp j hj
        simpa using this
      refine Ev.dn ?_
      simp only [spec_InputsText.l0]
      simp only [if_neg (show ¬ (xs.length : Int) < (xs.length : Int) by omega)]
      by_cases c : 60 < xs.length
      · simp only [if_pos c, if_pos (show (xs.length : Int) > 60 by omega)]
        exact Ev.now _
      · simp only [if_neg c, if_neg (show ¬ (xs.length : Int) > 60 by omega)]
        exact Ev.bind (spec_text xs hn ho) (Ev.now _)) xs.length 0 (by omega) (fun j hj => by omega)
  exact h
theorem impl_InputsText_ev (xs : List Int) (hn : xs.length ≤ 1000000) : Ev (fun k => impl_InputsText.f k xs) (textR xs) := by
  unfold impl_InputsText.f
  refine Ev.bind (allWithin_ev xs hn) ?_
  unfold textR
  cases ho : inOk xs with
  | false => simp only [Bool.false_eq_true, if_false]; exact Ev.now _
  | true =>
    simp only [if_true]
    by_cases c : 60 < xs.length
    · simp only [if_pos c, if_pos (show (xs.length : Int) > 60 by omega)]
      exact Ev.now _
    · simp only [if_neg c, if_neg (show ¬ (xs.length : Int) > 60 by omega)]
      by_cases c2 : xs.length = 0
      · simp only [if_pos (show (xs.length : Int) = 0 by omega), txtOf, if_pos c2]
        exact Ev.now _
      · simp only [if_neg (show ¬ (xs.length : Int) = 0 by omega), txtOf, if_neg c2]
        exact impl_text xs hn ho xs.length 0 (by omega)
/-- The last word from index i on, d of them, that is w, else a. -/
def wix (w : ByteArray) : Nat → Nat → Int → Int
  | 0, _, a => a
  | d + 1, i, a => wix w d (i + 1) (if (rdOf ByteArray.empty W10 (i : Int)).toList = w.toList then (i : Int) else a)
theorem spec_word (xs : List Int) (ws : List ByteArray) (i : Nat) (hi : i < ws.length) {r : List Int × Int} : ∀ d n a, n + d = 10 →
    Ev (fun k => spec_ReadInputs.l1 k xs ws (i : Int) (wix (rdOf ByteArray.empty ws (i : Int)) d n a) ((10 : Nat) : Int)) r → Ev (fun k => spec_ReadInputs.l1 k xs ws (i : Int) a (n : Int)) r := by
  intro d
  induction d with
  | zero =>
    intro n a hn h
    obtain rfl : n = 10 := by omega
    exact h
  | succ d ih =>
    intro n a hn h
    refine Ev.dn (Ev.eq' (ih (n + 1) _ (by omega) h) (fun k => ?_))
    simp only [spec_ReadInputs.l1, words_spec, Option.bind_some, W10_len]
    rw [if_pos (show (n : Int) ≤ 9 by omega), if_pos (show (0 : Int) ≤ (n : Int) by omega), if_pos (show (n : Int) < ((10 : Nat) : Int) by omega), if_pos (show (0 : Int) ≤ (i : Int) by omega), if_pos (show (i : Int) < (ws.length : Int) by omega), wrap_succ (show n < 10 by omega) (by omega)]
    by_cases c : (rdOf ByteArray.empty W10 (n : Int)).toList = (rdOf ByteArray.empty ws (i : Int)).toList
    · rw [if_pos c, if_pos c]
    · rw [if_neg c, if_neg c]
theorem impl_word (xs : List Int) (w : ByteArray) (x18 : List ByteArray) (x19 x20 : Int) {r : List Int × Int} : ∀ d n a, n + d = 10 →
    Ev (fun k => impl_ReadInputs.l1 k xs w (wix w d n a) x18 x19 x20 W10 ((10 : Nat) : Int) ((10 : Nat) : Int)) r → Ev (fun k => impl_ReadInputs.l1 k xs w a x18 x19 x20 W10 ((10 : Nat) : Int) (n : Int)) r := by
  intro d
  induction d with
  | zero =>
    intro n a hn h
    obtain rfl : n = 10 := by omega
    exact h
  | succ d ih =>
    intro n a hn h
    refine Ev.dn (Ev.eq' (ih (n + 1) _ (by omega) h) (fun k => ?_))
    simp only [impl_ReadInputs.l1, W10_len]
    rw [if_pos (show (n : Int) < ((10 : Nat) : Int) by omega), if_pos (show (0 : Int) ≤ (n : Int) by omega), if_pos (show (n : Int) < ((10 : Nat) : Int) by omega), wrap_succ (show n < 10 by omega) (by omega)]
    by_cases c : (rdOf ByteArray.empty W10 (n : Int)).toList = w.toList
    · rw [if_pos c, if_pos c]
    · rw [if_neg c, if_neg c]
def wdI (ws : List ByteArray) (j : Nat) : Int := wix (rdOf ByteArray.empty ws (j : Int)) 10 0 (-1)
/-- What reading comes to, from word j on. -/
def outW (ws : List ByteArray) : Nat → Nat → List Int → List Int × Int
  | 0, _, xs => (xs, 0)
  | d + 1, j, xs => if wdI ws j < 0 then ([], 6) else outW ws d (j + 1) (xs ++ [wdI ws j])
def limW (p : List Int × Int) : List Int × Int := if 60 < p.1.length then ([], 6) else p
theorem outW_len (ws : List ByteArray) : ∀ d j xs, outW ws d j xs = ([], 6) ∨ ((outW ws d j xs).1.length = xs.length + d ∧ (outW ws d j xs).2 = 0)
  | 0, _, xs => Or.inr ⟨rfl, rfl⟩
  | d + 1, j, xs => by
    simp only [outW]
    split
    · exact Or.inl rfl
    · rcases outW_len ws d (j + 1) (xs ++ [wdI ws j]) with h | ⟨h1, h2⟩
      · exact Or.inl h
      · refine Or.inr ⟨?_, h2⟩
        rw [h1]; simp; omega
theorem spec_read (ws : List ByteArray) (hw : ws.length ≤ 2000000) : ∀ d j xs, j + d = ws.length → xs.length = j → Ev (fun k => spec_ReadInputs.l0 k xs ws (j : Int)) (limW (outW ws d j xs)) := by
  intro d
  induction d with
  | zero =>
    intro j xs hj hx
    obtain rfl : j = ws.length := by omega
    refine Ev.dn ?_
    simp only [spec_ReadInputs.l0]
    simp only [if_neg (show ¬ (ws.length : Int) < (ws.length : Int) by omega), outW]
    by_cases c : 60 < xs.length
    · have e : limW (xs, 0) = ([], 6) := if_pos c
      simp only [if_pos (show (xs.length : Int) > 60 by omega), e]; exact Ev.now _
    · have e : limW (xs, 0) = (xs, 0) := if_neg c
      simp only [if_neg (show ¬ (xs.length : Int) > 60 by omega), e]; exact Ev.now _
  | succ d ih =>
    intro j xs hj hx
    refine Ev.dn ?_
    simp only [spec_ReadInputs.l0]
    simp only [if_pos (show (j : Int) < (ws.length : Int) by omega)]
    refine spec_word xs ws j (by omega) 10 0 (-1) (by omega) ?_
    refine Ev.dn ?_
    simp only [spec_ReadInputs.l1]
    simp only [if_neg (show ¬ ((10 : Nat) : Int) ≤ 9 by omega), outW]
    show Ev (fun k => if wdI ws j < 0 then _ else _) _
    by_cases c : wdI ws j < 0
    · simp only [if_pos c, limW]; exact Ev.now _
    · simp only [if_neg c, if_pos (show xs.length < 17592186044416 by omega), wrap_succ (show j < ws.length by omega) (by omega)]
      exact ih (j + 1) _ (by omega) (by simp; omega)
theorem impl_read (ws : List ByteArray) (hw : ws.length ≤ 60) : ∀ d j xs, j + d = ws.length → xs.length = j → Ev (fun k => impl_ReadInputs.l0 k xs ws (ws.length : Int) (j : Int)) (outW ws d j xs) := by
  intro d
  induction d with
  | zero =>
    intro j xs hj hx
    obtain rfl : j = ws.length := by omega
    refine Ev.dn ?_
    simp only [impl_ReadInputs.l0]
    simp only [if_neg (show ¬ (ws.length : Int) < (ws.length : Int) by omega), outW]
    exact Ev.now _
  | succ d ih =>
    intro j xs hj hx
    refine Ev.dn ?_
    simp only [impl_ReadInputs.l0, words_impl, Option.bind_some, W10_len]
    simp only [if_pos (show (j : Int) < (ws.length : Int) by omega), if_pos (show (0 : Int) ≤ (j : Int) by omega)]
    refine impl_word xs _ ws _ _ 10 0 (-1) (by omega) ?_
    refine Ev.dn ?_
    simp only [impl_ReadInputs.l1]
    simp only [if_neg (show ¬ ((10 : Nat) : Int) < ((10 : Nat) : Int) by omega), outW]
    show Ev (fun k => if wdI ws j < 0 then _ else _) _
    by_cases c : wdI ws j < 0
    · simp only [if_pos c]; exact Ev.now _
    · simp only [if_neg c, if_pos (show xs.length < 17592186044416 by omega), wrap_succ (show j < ws.length by omega) (by omega)]
      exact ih (j + 1) _ (by omega) (by simp; omega)
/-- What both readings come to. -/
theorem ReadInputs_both (s : ByteArray) (hn : s.size ≤ 1000000) : ∃ ws : List ByteArray, ws.map ByteArray.toList = splL 32 [] s.toList ∧
    (let r := if s.toList = ([45] : List UInt8) then ([], 0) else if 60 < ws.length then ([], 6) else outW ws ws.length 0 []
     Ev (fun k => spec_ReadInputs.f k s) r ∧ Ev (fun k => impl_ReadInputs.f k s) r ∧ r.1.length ≤ 60) := by
  obtain ⟨ws, h1, h2, h3, h4⟩ := split_ev s 32 hn
  refine ⟨ws, h1, ?_⟩
  unfold spec_ReadInputs.f impl_ReadInputs.f
  by_cases c : s.toList = ([45] : List UInt8)
  · simp only [if_pos c, Option.bind_some]
    exact ⟨Ev.now _, Ev.now _, by simp⟩
  simp only [if_neg c, Option.bind_some]
  have hs := spec_read ws (by omega) ws.length 0 [] (by omega) rfl
  by_cases c2 : 60 < ws.length
  · simp only [if_pos c2]
    refine ⟨?_, ?_, by simp⟩
    · refine Ev.bind h3 (hs.eq ?_)
      rcases outW_len ws ws.length 0 [] with h | ⟨h5, h6⟩
      · rw [h]; rfl
      · unfold limW
        rw [if_pos (by rw [h5]; simp; omega)]
    · refine Ev.bind h4 ?_
      simp only [if_pos (show (ws.length : Int) > 60 by omega)]
      exact Ev.now _
  · simp only [if_neg c2]
    have hlen : (outW ws ws.length 0 []).1.length ≤ 60 := by
      rcases outW_len ws ws.length 0 [] with h | ⟨h5, h6⟩
      · rw [h]; simp
      · rw [h5]; simp; omega
    refine ⟨?_, ?_, hlen⟩
    · refine Ev.bind h3 (hs.eq ?_)
      unfold limW
      rw [if_neg (by omega)]
    · refine Ev.bind h4 ?_
      simp only [if_neg (show ¬ (ws.length : Int) > 60 by omega)]
      exact impl_read ws (by omega) ws.length 0 [] (by omega) rfl
/-- Texts told as bytes, a space ahead of each. -/
def jt : List (List UInt8) → List UInt8
  | [] => []
  | w :: ws => 32 :: (w ++ jt ws)
def jl : List (List UInt8) → List UInt8
  | [] => []
  | w :: ws => w ++ jt ws
theorem splL_word (w : List UInt8) (h : ∀ c ∈ w, c ≠ 32) : ∀ (cur rest : List UInt8), splL 32 cur (w ++ rest) = splL 32 (cur ++ w) rest := by
  induction w with
  | nil => intro cur rest; simp
  | cons c w ih =>
    intro cur rest
    have hc : ¬ (c.toNat : Int) = 32 := fun he => h c (List.mem_cons_self ..) (UInt8.toNat_inj.1 (by have : (32 : UInt8).toNat = 32 := rfl; omega))
    rw [List.cons_append, splL, if_neg hc, ih (fun x hx => h x (List.mem_cons_of_mem _ hx))]
    simp
theorem splL_jt : ∀ (ws : List (List UInt8)) (cur : List UInt8), (∀ w ∈ ws, ∀ c ∈ w, c ≠ 32) → splL 32 cur (jt ws) = cur :: ws
  | [], cur, _ => rfl
  | w :: ws, cur, h => by
    simp only [jt]
    rw [splL, if_pos (show (((32 : UInt8).toNat : Nat) : Int) = 32 by rfl), splL_word w (h w (List.mem_cons_self ..)), List.nil_append, splL_jt ws w (fun x hx => h x (List.mem_cons_of_mem _ hx))]
theorem splL_jl (ws : List (List UInt8)) (h0 : ws ≠ []) (h : ∀ w ∈ ws, ∀ c ∈ w, c ≠ 32) : splL 32 [] (jl ws) = ws := by
  cases ws with
  | nil => exact absurd rfl h0
  | cons w ws =>
    simp only [jl]
    rw [splL_word w (h w (List.mem_cons_self ..)), List.nil_append, splL_jt ws w (fun x hx => h x (List.mem_cons_of_mem _ hx))]
theorem jl_splL : ∀ (cs cur : List UInt8), ∃ w ws, splL 32 cur cs = w :: ws ∧ w ++ jt ws = cur ++ cs
  | [], cur => ⟨cur, [], rfl, rfl⟩
  | c :: cs, cur => by
    by_cases h : (c.toNat : Int) = 32
    · obtain ⟨w, ws, h1, h2⟩ := jl_splL cs []
      refine ⟨cur, w :: ws, by rw [splL, if_pos h, h1], ?_⟩
      have hc : c = 32 := UInt8.toNat_inj.1 (by have : (32 : UInt8).toNat = 32 := rfl; omega)
      simp only [jt]
      rw [h2, hc, List.nil_append]
    · obtain ⟨w, ws, h1, h2⟩ := jl_splL cs (cur ++ [c])
      refine ⟨w, ws, by rw [splL, if_neg h, h1], ?_⟩
      rw [h2]
      simp
theorem jl_of_split (cs : List UInt8) : jl (splL 32 [] cs) = cs := by
  obtain ⟨w, ws, h1, h2⟩ := jl_splL cs []
  rw [h1]
  simp only [jl]
  exact h2
theorem joinB_tail (ws : List ByteArray) : ∀ d i s, i + d = ws.length → 0 < i → (joinB spT ws d i s).toList = s.toList ++ jt ((ws.drop i).map ByteArray.toList)
  | 0, i, s, h, _ => by simp only [joinB]; rw [List.drop_of_length_le (by omega)]; simp [jt]
  | d + 1, i, s, h, hi => by
    have hil : i < ws.length := by omega
    simp only [joinB, if_pos hi]
    rw [joinB_tail ws d (i + 1) _ (by omega) (by omega), append_toList, append_toList, List.drop_eq_getElem_cons hil, List.map_cons, rdOf_nat hil]
    have : spT.toList = [32] := by rw [toList_data]; rfl
    rw [this]
    simp [jt]
theorem joinB_list (ws : List ByteArray) : (joinB spT ws ws.length 0 ⟨#[]⟩).toList = jl (ws.map ByteArray.toList) := by
  cases ws with
  | nil => rw [toList_data]; rfl
  | cons w ws =>
    have e : (⟨#[]⟩ : ByteArray).toList = [] := by rw [toList_data]
    rw [List.length_cons]
    simp only [joinB, if_neg (Nat.lt_irrefl 0)]
    rw [joinB_tail (w :: ws) ws.length 1 _ (by simp only [List.length_cons]; try omega) (by omega), append_toList, e]
    simp [jl, rdOf]
/-- The words as bytes. -/
def TBL : List (List UInt8) := [[107, 101, 121, 97], [107, 101, 121, 98], [97, 114, 109], [100, 105, 115, 97, 114, 109], [104, 111, 108, 100], [114, 101, 115, 117, 109, 101], [115, 116, 111, 112], [112, 114, 101, 115, 115], [116, 105, 99, 107], [114, 101, 115, 101, 116]]
theorem W10_tbl : W10.map ByteArray.toList = TBL := by
  simp [W10, spec_l21Words.f, TBL, toList_data]
theorem word_tbl (v : Nat) (h : v < 10) : (rdOf ByteArray.empty W10 (v : Int)).toList = TBL.getD v [] := by
  rw [← W10_tbl, rdOf_nat (by rw [W10_len]; exact h), List.getD_eq_getElem?_getD, List.getElem?_map, List.getElem?_eq_getElem (by rw [W10_len]; exact h)]
  rfl
/-- As wix, over bytes. -/
def wxL (w : List UInt8) : Nat → Nat → Int → Int
  | 0, _, a => a
  | d + 1, i, a => wxL w d (i + 1) (if TBL.getD i [] = w then (i : Int) else a)
theorem wix_wxL (w : ByteArray) : ∀ d i a, i + d ≤ 10 → wix w d i a = wxL w.toList d i a
  | 0, _, _, _ => rfl
  | d + 1, i, a, h => by
    simp only [wix, wxL]
    rw [word_tbl i (by omega), wix_wxL w d (i + 1) _ (by omega)]
theorem wxL_word : ∀ v : Fin 10, wxL (TBL.getD v.val []) 10 0 (-1) = (v.val : Int) := by decide
theorem tbl_no : ∀ v : Fin 10, (TBL.getD v.val []).contains 32 = false ∧ (TBL.getD v.val [] == [45]) = false := by decide
theorem wxL_out (w : List UInt8) : ∀ d i a, i + d ≤ 10 → wxL w d i a = a ∨ ∃ v : Nat, v < 10 ∧ wxL w d i a = (v : Int) ∧ TBL.getD v [] = w
  | 0, _, _, _ => .inl rfl
  | d + 1, i, a, h => by
    simp only [wxL]
    rcases wxL_out w d (i + 1) (if TBL.getD i [] = w then (i : Int) else a) (by omega) with h1 | h1
    · by_cases c : TBL.getD i [] = w
      · rw [if_pos c] at h1 ⊢
        exact .inr ⟨i, by omega, h1, c⟩
      · rw [if_neg c] at h1 ⊢
        exact .inl h1
    · exact .inr h1
def rdR (s : ByteArray) (ws : List ByteArray) : List Int × Int := if s.toList = ([45] : List UInt8) then ([], 0) else if 60 < ws.length then ([], 6) else outW ws ws.length 0 []
def wordL (x : Int) : List UInt8 := (rdOf ByteArray.empty W10 x).toList
theorem wdI_ok (ws : List ByteArray) (j : Nat) (hj : j < ws.length) (h : ¬ wdI ws j < 0) : 0 ≤ wdI ws j ∧ wdI ws j ≤ 9 ∧ wordL (wdI ws j) = (ws[j]).toList := by
  unfold wdI at h ⊢
  rw [rdOf_nat hj, wix_wxL _ 10 0 (-1) (by omega)] at h ⊢
  rcases wxL_out (ws[j]).toList 10 0 (-1) (by omega) with h1 | ⟨v, h1, h2, h3⟩
  · rw [h1] at h; exact absurd (show (-1 : Int) < 0 by decide) h
  · rw [h2]
    refine ⟨by omega, by omega, ?_⟩
    unfold wordL
    rw [word_tbl v h1]
    exact h3
theorem outW_ok (ws : List ByteArray) : ∀ d j a xs, j + d = ws.length → outW ws d j a = (xs, 0) →
    ∃ ys, xs = a ++ ys ∧ ys.map wordL = (ws.drop j).map ByteArray.toList ∧ ∀ y ∈ ys, 0 ≤ y ∧ y ≤ 9
  | 0, j, a, xs, h, e => by
    simp only [outW, Prod.mk.injEq, and_true] at e
    refine ⟨[], by rw [e, List.append_nil], ?_, fun y hy => absurd hy (by simp)⟩
    rw [List.drop_of_length_le (by omega)]
    rfl
  | d + 1, j, a, xs, h, e => by
    simp only [outW] at e
    by_cases c : wdI ws j < 0
    · rw [if_pos c] at e
      exact absurd (congrArg Prod.snd e) (show ¬ (6 : Int) = 0 by decide)
    · rw [if_neg c] at e
      have hj : j < ws.length := by omega
      obtain ⟨w1, w2, w3⟩ := wdI_ok ws j hj c
      obtain ⟨ys, h1, h2, h3⟩ := outW_ok ws d (j + 1) _ xs (by omega) e
      refine ⟨wdI ws j :: ys, by rw [h1, List.append_assoc]; rfl, ?_, fun y hy => ?_⟩
      · rw [List.map_cons, w3, h2, List.drop_eq_getElem_cons hj, List.map_cons]
      · rcases List.mem_cons.1 hy with rfl | hy
        · exact ⟨w1, w2⟩
        · exact h3 y hy
theorem inOk_of (xs : List Int) (h : ∀ y ∈ xs, 0 ≤ y ∧ y ≤ 9) : inOk xs = true := by
  rw [inOk_iff]
  intro j hj
  rw [rd_nat hj]
  exact h _ (List.getElem_mem hj)
theorem txtOf_list (xs : List Int) (h : xs ≠ []) : (txtOf xs).toList = jl (xs.map wordL) := by
  unfold txtOf
  rw [if_neg (fun e => h (List.eq_nil_of_length_eq_zero e))]
  have := joinB_list (wordsOf xs)
  rw [wordsOf_len] at this
  rw [this]
  unfold wordsOf wordL
  rw [List.map_map]
  rfl
theorem read_text (s : ByteArray) (ws : List ByteArray) (hw : ws.map ByteArray.toList = splL 32 [] s.toList) (xs : List Int) (h : rdR s ws = (xs, 0)) : textR xs = (txtOf xs, 0) ∧ (txtOf xs).toList = s.toList := by
  unfold rdR at h
  by_cases c : s.toList = ([45] : List UInt8)
  · rw [if_pos c, Prod.mk.injEq] at h
    obtain rfl := h.1
    refine ⟨rfl, ?_⟩
    rw [c, toList_data]
    rfl
  · rw [if_neg c] at h
    by_cases c2 : 60 < ws.length
    · rw [if_pos c2] at h
      exact absurd (congrArg Prod.snd h) (show ¬ (6 : Int) = 0 by decide)
    · rw [if_neg c2] at h
      obtain ⟨ys, h1, h2, h3⟩ := outW_ok ws ws.length 0 [] xs (by omega) h
      rw [List.nil_append] at h1
      subst h1
      rw [List.drop_zero, hw] at h2
      have hl : xs.length = ws.length := by
        have := congrArg List.length h2
        rw [List.length_map, ← hw, List.length_map] at this
        exact this
      have hne : xs ≠ [] := fun e => by
        obtain ⟨w, rs, k1, _⟩ := jl_splL s.toList []
        rw [k1, e] at h2
        exact absurd h2 (by simp)
      refine ⟨?_, ?_⟩
      · unfold textR
        rw [if_pos (inOk_of xs h3), if_neg (by omega)]
      · rw [txtOf_list xs hne, h2, jl_of_split]
theorem wordL_of {x : Int} (h : 0 ≤ x ∧ x ≤ 9) : ∃ v : Fin 10, x = (v.val : Int) ∧ wordL x = TBL.getD v.val [] := by
  obtain ⟨v, rfl⟩ := Int.eq_ofNat_of_zero_le h.1
  have hv : v < 10 := by omega
  exact ⟨⟨v, hv⟩, rfl, word_tbl v hv⟩
theorem outW_eq (ws : List ByteArray) (xs : List Int) (hx : ∀ y ∈ xs, 0 ≤ y ∧ y ≤ 9) (hw : ws.map ByteArray.toList = xs.map wordL) : ∀ d j, j + d = xs.length → outW ws d j (xs.take j) = (xs, 0)
  | 0, j, h => by simp only [outW]; rw [List.take_of_length_le (by omega)]
  | d + 1, j, h => by
    have hl : ws.length = xs.length := by
      have := congrArg List.length hw
      rwa [List.length_map, List.length_map] at this
    have hj : j < xs.length := by omega
    obtain ⟨v, v1, v2⟩ := wordL_of (hx _ (List.getElem_mem hj))
    have e : (ws[j]'(by omega)).toList = wordL xs[j] := by
      have := congrArg (fun l => l[j]?) hw
      simp only [List.getElem?_map, List.getElem?_eq_getElem (show j < ws.length by omega), List.getElem?_eq_getElem hj, Option.map_some, Option.some.injEq] at this
      exact this
    have hd : wdI ws j = xs[j] := by
      unfold wdI
      rw [rdOf_nat (by omega), wix_wxL _ 10 0 (-1) (by omega), e, v2, wxL_word v, v1]
    have hn : ¬ wdI ws j < 0 := by rw [hd, v1]; omega
    simp only [outW]
    rw [if_neg hn, hd]
    have ht : xs.take j ++ [xs[j]] = xs.take (j + 1) := by rw [List.take_add_one, List.getElem?_eq_getElem hj]; rfl
    rw [ht]
    exact outW_eq ws xs hx hw d (j + 1) (by omega)
theorem text_read (xs : List Int) (ws : List ByteArray) (ho : inOk xs = true) (h60 : xs.length ≤ 60) (hw : ws.map ByteArray.toList = splL 32 [] (txtOf xs).toList) : rdR (txtOf xs) ws = (xs, 0) := by
  have hx : ∀ y ∈ xs, 0 ≤ y ∧ y ≤ 9 := fun y hy => by
    obtain ⟨j, hj, rfl⟩ := List.getElem_of_mem hy
    have := (inOk_iff xs).1 ho j hj
    rwa [rd_nat hj] at this
  unfold rdR
  cases xs with
  | nil =>
    rw [if_pos]
    unfold txtOf
    simp only [List.length_nil, if_true]
    rw [toList_data]
  | cons x xs =>
    have hno : ∀ w ∈ (x :: xs).map wordL, (∀ c ∈ w, c ≠ 32) ∧ w ≠ [45] := fun w hm => by
      obtain ⟨y, hy, rfl⟩ := List.mem_map.1 hm
      obtain ⟨v, _, v2⟩ := wordL_of (hx y hy)
      obtain ⟨t1, t2⟩ := tbl_no v
      rw [v2]
      refine ⟨fun c hc he => ?_, fun he => ?_⟩
      · rw [he] at hc
        rw [List.contains_iff_mem.2 hc] at t1
        exact absurd t1 (by decide)
      · rw [he] at t2
        exact absurd t2 (by decide)
    have hs : splL 32 [] (txtOf (x :: xs)).toList = (x :: xs).map wordL := by
      rw [txtOf_list _ (by simp)]
      exact splL_jl _ (by simp) (fun w hm => (hno w hm).1)
    rw [hs] at hw
    have h45 : ¬ (txtOf (x :: xs)).toList = ([45] : List UInt8) := fun he => by
      rw [he] at hs
      have h1 : splL 32 [] ([45] : List UInt8) = [[45]] := by decide
      rw [h1] at hs
      exact (hno [45] (by rw [← hs]; simp)).2 rfl
    have hl : ws.length = (x :: xs).length := by
      have := congrArg List.length hw
      rwa [List.length_map, List.length_map] at this
    rw [if_neg h45, if_neg (by omega), hl]
    exact outW_eq ws (x :: xs) hx hw (x :: xs).length 0 (by omega)
theorem likeInts_refl (l : List Int) (hn : l.length ≤ 1000000) : Ev (fun k => laws_likeInts.f k l l) true := by
  unfold laws_likeInts.f
  simp only [if_true]
  have h := Ev.allLoop (l := fun k j => laws_likeInts.l0 k l l j) (n := l.length) (fun _ => true) false true
    (fun j hj => Evt.all fun k => by
      simp only [laws_likeInts.l0]
      rw [if_pos (by omega), if_pos (by omega), if_pos (by omega), wrap_succ hj (by omega)])
    (Evt.all fun k => by
      simp only [laws_likeInts.l0]
      rw [if_neg (by omega)]) l.length 0 (by omega)
  refine Ev.eq h ?_
  rw [(allD_iff _ _ _).2 (fun _ _ _ => rfl)]
  rfl
theorem damage_ok {L : List Int} (hL : By L) {p z : Int} (g : Gd L p z) (a : ByteArray) (ha : a.size ≤ 10000) : ∃ (s : ByteArray) (p' z' : Int), spec_l01Damage.f L p z a = some (s, p', z') ∧ s.size ≤ a.size + 1 := by
  have hw : wrap64 ((a.size : Int) + 1) = (a.size : Int) + 1 := wrap_id (by omega) (by omega)
  obtain ⟨v, p1, z1, e1, g1, v0, v1⟩ := next_ok hL g ((a.size : Int) + 1) (by omega) (by omega)
  obtain ⟨u, p2, z2, e2, g2, u0, u1⟩ := next_ok hL g1 8 (by omega) (by omega)
  have v2 : v ≤ (a.size : Int) := by omega
  unfold spec_l01Damage.f
  simp only [hw, e1, e2, Option.bind_some]
  by_cases c0 : u = 0
  · refine ⟨a.extract 0 v.toNat, p2, z2, ?_, ?_⟩
    · simp only [if_pos c0, if_pos v0, if_pos v2]
    · rw [ByteArray.size_extract]; omega
  by_cases c1 : u = 1
  · obtain ⟨w, p3, z3, e3, g3, w0, w1⟩ := next_ok hL g2 8 (by omega) (by omega)
    obtain ⟨m, rfl⟩ := Int.eq_ofNat_of_zero_le w0
    have hY : ∀ m : Fin 8, (rdOf ByteArray.empty [(⟨#[48]⟩ : ByteArray), (⟨#[35]⟩ : ByteArray), (⟨#[46]⟩ : ByteArray), (⟨#[47]⟩ : ByteArray), (⟨#[32]⟩ : ByteArray), (⟨#[97]⟩ : ByteArray), (⟨#[45]⟩ : ByteArray), (⟨#[10]⟩ : ByteArray)] (m.val : Int)).size = 1 := by decide
    have hm := hY ⟨m, by omega⟩
    simp only at hm
    have hl : (m : Int) < (([(⟨#[48]⟩ : ByteArray), (⟨#[35]⟩ : ByteArray), (⟨#[46]⟩ : ByteArray), (⟨#[47]⟩ : ByteArray), (⟨#[32]⟩ : ByteArray), (⟨#[97]⟩ : ByteArray), (⟨#[45]⟩ : ByteArray), (⟨#[10]⟩ : ByteArray)] : List ByteArray).length : Int) := by simp; omega
    obtain ⟨q, hq⟩ : ∃ q, q = rdOf ByteArray.empty [(⟨#[48]⟩ : ByteArray), (⟨#[35]⟩ : ByteArray), (⟨#[46]⟩ : ByteArray), (⟨#[47]⟩ : ByteArray), (⟨#[32]⟩ : ByteArray), (⟨#[97]⟩ : ByteArray), (⟨#[45]⟩ : ByteArray), (⟨#[10]⟩ : ByteArray)] (m : Int) := ⟨_, rfl⟩
    rw [← hq] at hm
    refine ⟨a.extract 0 v.toNat ++ q ++ a.extract v.toNat a.size, p3, z3, ?_, ?_⟩
    · simp only [if_neg c0, if_pos c1, if_pos v0, if_pos v2, e3, Option.bind_some, if_pos w0, if_pos hl, ← hq]
      rw [if_pos (by rw [ByteArray.size_extract]; omega), if_pos (by rw [ByteArray.size_append, ByteArray.size_extract, ByteArray.size_extract]; omega)]
    · rw [ByteArray.size_append, ByteArray.size_append, ByteArray.size_extract, ByteArray.size_extract]; omega
  by_cases c2 : u = 2
  · by_cases c3 : v < (a.size : Int)
    · have w1 : wrap64 (v + 1) = v + 1 := wrap_id (by omega) (by omega)
      refine ⟨a.extract 0 v.toNat ++ a.extract (v + 1).toNat a.size, p2, z2, ?_, ?_⟩
      · simp only [if_neg c0, if_neg c1, if_pos c2, if_pos c3, if_pos v0, if_pos v2, w1, if_pos (show (0 : Int) ≤ v + 1 by omega), if_pos (show v + 1 ≤ (a.size : Int) by omega)]
        rw [if_pos (by rw [ByteArray.size_extract, ByteArray.size_extract]; omega)]
      · rw [ByteArray.size_append, ByteArray.size_extract, ByteArray.size_extract]; omega
    · refine ⟨a, p2, z2, ?_, by omega⟩
      simp only [if_neg c0, if_neg c1, if_pos c2, if_neg c3]
  · refine ⟨a, p2, z2, ?_, by omega⟩
    simp only [if_neg c0, if_neg c1, if_neg c2]
theorem jt_len : ∀ ws : List (List UInt8), (∀ w ∈ ws, w.length ≤ 6) → (jt ws).length ≤ 7 * ws.length
  | [], _ => by simp [jt]
  | w :: ws, h => by
    have h1 := jt_len ws (fun x hx => h x (List.mem_cons_of_mem _ hx))
    have h2 := h w (List.mem_cons_self ..)
    simp only [jt, List.length_cons, List.length_append]
    omega
theorem jl_len (ws : List (List UInt8)) (h : ∀ w ∈ ws, w.length ≤ 6) : (jl ws).length ≤ 7 * ws.length := by
  cases ws with
  | nil => simp [jl]
  | cons w ws =>
    have h1 := jt_len ws (fun x hx => h x (List.mem_cons_of_mem _ hx))
    have h2 := h w (List.mem_cons_self ..)
    simp only [jl, List.length_cons, List.length_append]
    omega
theorem tbl_len : ∀ v : Fin 10, (TBL.getD v.val []).length ≤ 6 := by decide
theorem textR_size (xs : List Int) : (textR xs).1.size ≤ 1000 := by
  unfold textR
  by_cases ho : inOk xs = true
  · rw [if_pos ho]
    by_cases h60 : 60 < xs.length
    · rw [if_pos h60]; exact Nat.zero_le _
    · rw [if_neg h60]
      show (txtOf xs).size ≤ 1000
      by_cases e : xs = []
      · subst e; exact (by decide : (1 : Nat) ≤ 1000)
      · rw [← toList_len, txtOf_list xs e]
        refine Nat.le_trans (jl_len _ (fun w hw => ?_)) (by rw [List.length_map]; omega)
        obtain ⟨y, hy, rfl⟩ := List.mem_map.1 hw
        obtain ⟨j, hj, rfl⟩ := List.getElem_of_mem hy
        have := (inOk_iff xs).1 ho j hj
        rw [rd_nat hj] at this
        obtain ⟨v, _, v2⟩ := wordL_of this
        rw [v2]
        exact tbl_len v
  · rw [if_neg ho]; exact Nat.zero_le _
theorem drawRd_ok {L : List Int} (hL : By L) : ∃ s : ByteArray, Ev (fun k => spec_DrawReadInputs.f k L) s ∧ s.size ≤ 1000000 := by
  obtain ⟨z, hz, g⟩ := from_ev hL
  obtain ⟨xs, p1, z1, h1, g1, hl⟩ := l21Inputs_ok hL g
  have hT := spec_InputsText_ev xs (by omega)
  have hS := textR_size xs
  have tail : ∀ a : ByteArray, a.size ≤ 1000 → ∃ s : ByteArray, Ev (fun k => spec_DrawReadInputs.j0 k a L p1 z1) s ∧ s.size ≤ 1000000 := by
    intro a ha
    obtain ⟨v, p2, z2, e2, g2, _, _⟩ := next_ok hL g1 3 (by omega) (by omega)
    by_cases c : v = 0
    · obtain ⟨s, p3, z3, e3, hs⟩ := damage_ok hL g2 a (by omega)
      refine ⟨s, Ev.dn ?_, by omega⟩
      simp only [spec_DrawReadInputs.j0, e2, Option.bind_some, if_pos c, e3]
      exact Ev.now _
    · refine ⟨a, Ev.dn ?_, by omega⟩
      simp only [spec_DrawReadInputs.j0, e2, Option.bind_some, if_neg c]
      exact Ev.now _
  unfold spec_DrawReadInputs.f
  by_cases c : (textR xs).2 = 0
  · obtain ⟨s, h2, h3⟩ := tail _ hS
    refine ⟨s, Ev.bind hz (Ev.bind h1 (Ev.bind hT ?_)), h3⟩
    simp only [if_pos c]
    exact h2
  · obtain ⟨s, h2, h3⟩ := tail (⟨#[107, 101, 121, 97, 32, 116, 105, 99, 107]⟩ : ByteArray) (by decide)
    refine ⟨s, Ev.bind hz (Ev.bind h1 (Ev.bind hT ?_)), h3⟩
    simp only [if_neg c]
    exact h2
theorem FnInputTexts : ∀ (l0 : List Int), (l0.length ≤ reachBytes ∧ ∀ y ∈ l0, (Lit.int .u8 y).wf = true) → ∃ k, laws_FnInputTexts.f k l0 = some true := by
  intro L ⟨_, hb⟩
  apply Ev.rounds
  unfold laws_FnInputTexts.f laws_big.f
  simp only [Option.bind_some]
  by_cases hbig : (L.length : Int) > 4096
  · simp only [decide_eq_true hbig, if_true]; exact Ev.now _
  simp only [decide_eq_false hbig, Bool.false_eq_true, if_false]
  have hL : By L := by
    refine ⟨by omega, fun j hj => ?_⟩
    rw [rd_nat hj]
    have := hb _ (List.getElem_mem hj)
    simp only [Lit.wf, Bool.and_eq_true, decide_eq_true_eq] at this
    have m1 : IntKind.u8.min = 0 := by decide
    have m2 : IntKind.u8.max = 255 := by decide
    omega
  obtain ⟨z, hz, g⟩ := from_ev hL
  obtain ⟨xs, p1, z1, h1, g1, hl⟩ := l21Inputs_ok hL g
  have hD : Ev (fun k => spec_DrawInputsText.f k L) xs := by
    unfold spec_DrawInputsText.f
    exact Ev.bind hz (Ev.bind h1 (Ev.now _))
  obtain ⟨s, hs, hs2⟩ := drawRd_ok hL
  obtain ⟨ws, k1, k2, k3, k4⟩ := ReadInputs_both s hs2
  have k2' : Ev (fun k => spec_ReadInputs.f k s) (rdR s ws) := k2
  have k3' : Ev (fun k => impl_ReadInputs.f k s) (rdR s ws) := k3
  have k4' : (rdR s ws).1.length ≤ 60 := k4
  have hrt := read_text s ws k1
  obtain ⟨wt, t1, t2, t3, t4⟩ := ReadInputs_both (textR xs).1 (Nat.le_trans (textR_size xs) (by decide))
  have t3' : Ev (fun k => impl_ReadInputs.f k (textR xs).1) (rdR (textR xs).1 wt) := t3
  have htr : (textR xs).2 = 0 → rdR (textR xs).1 wt = (xs, 0) := fun h0 => by
    unfold textR at h0 t1 ⊢
    by_cases ho : inOk xs = true
    · rw [if_pos ho] at h0 t1 ⊢
      by_cases h60 : 60 < xs.length
      · rw [if_pos h60] at h0
        exact absurd h0 (show ¬ (3 : Int) = 0 by decide)
      · rw [if_neg h60] at t1 ⊢
        exact text_read xs wt ho (by omega) t1
    · rw [if_neg ho] at h0
      exact absurd h0 (show ¬ (2 : Int) = 0 by decide)
  have j1 : Ev (fun k => laws_FnInputTexts.j1 k xs (textR xs).1 (textR xs).2) true := by
    refine Ev.dn ?_
    simp only [laws_FnInputTexts.j1]
    by_cases c : (textR xs).2 = 0
    · simp only [if_pos c]
      have h := htr c
      rw [h] at t3'
      refine Ev.bind t3' ?_
      simp only [if_true]
      exact Ev.bind (likeInts_refl xs (by omega)) (Ev.now _)
    · simp only [if_neg c]
      exact Ev.now _
  refine Ev.bind hD (Ev.bind (impl_InputsText_ev xs (by omega)) (Ev.bind (spec_InputsText_ev xs (by omega)) (Ev.bind hs (Ev.bind k3' (Ev.bind k2' ?_)))))
  simp only [if_true]
  refine Ev.bind (likeInts_refl _ (by omega)) ?_
  simp only [Bool.not_true]
  refine Ev.dn ?_
  simp only [laws_FnInputTexts.j0, Bool.false_eq_true, if_false]
  by_cases c : (rdR s ws).2 = 0
  · simp only [if_pos c]
    obtain ⟨e1, e2⟩ := hrt (rdR s ws).1 (by rw [← c])
    have hI := impl_InputsText_ev (rdR s ws).1 (by omega)
    rw [e1] at hI
    refine Ev.bind hI ?_
    simp only [if_true, e2]
    exact j1
  · simp only [if_neg c]
    exact j1
end Go.Proofs.Ytapcjchgcppanaa.Pure
