/- Go functions of the program, each as a Lean function, and the proof that each call comes to what the Lean function tells; no condition beyond those that stand there. -/
import Derived.Test.YtapcjchgcppanaaF00
import Derived.Test.YtapcjchgcppanaaF10
import Derived.Test.YtapcjchgcppanaaF11
import Derived.Test.YtapcjchgcppanaaSq
import Derived.Test.YtapcjchgcppanaaWLast
import Derived.Test.YtapcjchgcppanaaWTab
import Derived.Test.YtapcjchgcppanaaSpare
import Derived.Test.YtapcjchgcppanaaCm
import Derived.Test.YtapcjchgcppanaaCm3
namespace Go.Proofs.Ytapcjchgcppanaa.Pall
open Go.RowKit Go.Proofs.YtapcjchgcppanaaW.PrintWords Go.Proofs.YtapcjchgcppanaaW.PrintLast
set_option linter.unusedVariables false
set_option linter.unusedSimpArgs false

/-! ### spec_ReadInputs: function 21 -/
mutual
def spec_ReadInputs.l0 : Nat → List Int → List ByteArray → Int → Option (List Int × Int)
 | 0, _, _, _ => none
 | k + 1, x4, x5, x6 => if x6 < (x5.length : Int) then (spec_ReadInputs.l1 k x4 x5 x6 (-1) 0) else (if (x4.length : Int) > 60 then (some (([] : List Int), 6)) else (some (x4, 0)))
def spec_ReadInputs.l1 : Nat → List Int → List ByteArray → Int → Int → Int → Option (List Int × Int)
 | 0, _, _, _, _, _ => none
 | k + 1, x4, x5, x6, x7, x8 => if x8 ≤ 9 then ((spec_l21Words.f).bind fun t186 => (if 0 ≤ x8 then (if x8 < (t186.length : Int) then (if 0 ≤ x6 then (if x6 < (x5.length : Int) then (if (rdOf ByteArray.empty t186 x8).toList = (rdOf ByteArray.empty x5 x6).toList then (spec_ReadInputs.l1 k x4 x5 x6 x8 (wrap64 (x8 + 1))) else (spec_ReadInputs.l1 k x4 x5 x6 x7 (wrap64 (x8 + 1)))) else (none)) else (none)) else (none)) else (none))) else (if x7 < 0 then (some (([] : List Int), 6)) else (if x4.length < 17592186044416 then (spec_ReadInputs.l0 k (x4 ++ [x7]) x5 (wrap64 (x6 + 1))) else (none)))
end
def spec_ReadInputs.f (k : Nat) (a0 : ByteArray) : Option (List Int × Int) := (some (([] : List Int) : List Int)).bind fun y180 => (if a0.toList = ([45] : List UInt8) then (some (y180, 0)) else ((spec_l01Split.f k a0 32).bind fun t183 => (spec_ReadInputs.l0 k y180 t183 0)))
theorem spec_ReadInputs.mono_l : ∀ k, (∀ y0 y1 y2, LeO (spec_ReadInputs.l0 k y0 y1 y2) (spec_ReadInputs.l0 (k + 1) y0 y1 y2)) ∧ (∀ y0 y1 y2 y3 y4, LeO (spec_ReadInputs.l1 k y0 y1 y2 y3 y4) (spec_ReadInputs.l1 (k + 1) y0 y1 y2 y3 y4))
 | 0 => ⟨fun _ _ _ r h => by simp [spec_ReadInputs.l0] at h, fun _ _ _ _ _ r h => by simp [spec_ReadInputs.l1] at h⟩
 | k + 1 => by
  obtain ⟨ih0, ih1⟩ := spec_ReadInputs.mono_l k; refine ⟨?_, ?_⟩
  ·intro y0 y1 y2; unfold spec_ReadInputs.l0
   repeat' first | (with_reducible first | exact ih0 _ _ _ | exact ih1 _ _ _ _ _ | exact spec_l01Split.mono _ _ _ | exact LeO.refl _ | exact LeO.none _ | refine LeO.ite ?_ ?_ | refine LeO.bind ?_ (fun _ => ?_)) | exact ih0 _ _ _ | exact ih1 _ _ _ _ _ | exact spec_l01Split.mono _ _ _ | exact LeO.none _ | refine LeO.ite ?_ ?_ | refine LeO.bind ?_ (fun _ => ?_)
  ·intro y0 y1 y2 y3 y4; unfold spec_ReadInputs.l1
   repeat' first | (with_reducible first | exact ih0 _ _ _ | exact ih1 _ _ _ _ _ | exact spec_l01Split.mono _ _ _ | exact LeO.refl _ | exact LeO.none _ | refine LeO.ite ?_ ?_ | refine LeO.bind ?_ (fun _ => ?_)) | exact ih0 _ _ _ | exact ih1 _ _ _ _ _ | exact spec_l01Split.mono _ _ _ | exact LeO.none _ | refine LeO.ite ?_ ?_ | refine LeO.bind ?_ (fun _ => ?_)
theorem spec_ReadInputs.mono : ∀ a0 k, LeO (spec_ReadInputs.f k a0) (spec_ReadInputs.f (k + 1) a0) := by
 intro a0 k; obtain ⟨ih0, ih1⟩ := spec_ReadInputs.mono_l k; unfold spec_ReadInputs.f
 repeat' first | (with_reducible first | exact ih0 _ _ _ | exact ih1 _ _ _ _ _ | exact spec_l01Split.mono _ _ _ | exact LeO.refl _ | exact LeO.none _ | refine LeO.ite ?_ ?_ | refine LeO.bind ?_ (fun _ => ?_)) | exact ih0 _ _ _ | exact ih1 _ _ _ _ _ | exact spec_l01Split.mono _ _ _ | exact LeO.none _ | refine LeO.ite ?_ ?_ | refine LeO.bind ?_ (fun _ => ?_)
def spec_ReadInputs.T12 : Bool × List (List Nat × List Nat) := (true, [([], []), ([], []), ([0, 1], [0, 1]), ([2], [2]), ([], []), ([], []), ([4, 5], [4, 5]), ([6], [6]), ([3, 7], [3, 7])])
def spec_ReadInputs.B12 : List Nat := [0, 0, 3, 7, 0, 0, 48, 112, 255]
theorem spec_ReadInputs.tab12 : rtab .any (opsOf Try.f21 12) = spec_ReadInputs.T12 := by kernel_rfl
theorem spec_ReadInputs.bits12 : waitsOk spec_ReadInputs.T12.2 spec_ReadInputs.B12 = true := by kernel_rfl
set_option maxHeartbeats 8000000 in
set_option maxRecDepth 100000 in
theorem spec_ReadInputs.calls (k : Nat) (a0 : ByteArray) (r1 : List Int) (r2 : Int) (w : World) (h : spec_ReadInputs.f k a0 = some (r1, r2)) :
  Calls Try.prog 21 #[.string a0] w fun e w' => ∃ v0_ : Value, e = .returned (.tuple #[v0_, .int .i64 r2]) ∧ Kd.R (Kd.int .i64) 2 w' w.heap.size (fun _ => True) v0_ r1 ∧ Below w.heap.size w w' := by
 have HB := ak (Below.refl w.heap.size w); unfold spec_ReadInputs.f at h; have H := h; clear h; obtain ⟨y180, Ny180, H⟩ := bnE H; by_cases c2 : a0.toList = ([45] : List UInt8)
 ·rw [if_pos c2] at H; obtain ⟨c2b0, c2b1⟩ := bqt c2; clear c2; simp only [Option.some.injEq, Prod.mk.injEq] at H
  obtain ⟨rfl, rfl⟩ := H; go_enter Try.func21, Try.ntmps21; go_wp2_with (first | ((with_reducible refine gate_dst (N := 9) rfl ?_); refine Kd.R_lit (Kd.int .i64) _ 2 ?hg (N := 9) ?hd (xs := ([] : List Int)) (inner := []) (ok := fun _ => True) (okp := fun _ => True) ?hr ?hp (fun _ hk => hk) trivial (Below.refl _ _) (Nat.le_refl _) (by simp) ?_; (case hd => rfl); (case hg => rfl); (case hr => first | (go_simp; done) | (go_simp; rfl)); (case hp => exact (Reps.none _ _)); intro v181 w3 ho4 hb hg_ hnew_; clear hg_ hnew_; (first | rw [← Ny180.out] at ho4 | (simp only [Int.reduceToNat] at ho4; rw [← Ny180.out] at ho4)); have HO182 := ak (Kd.R_lower ho4 (below_size (vb HB.out))); replace HB := bs HB hb; clear hb ho4))
  go_ret2
  exact ⟨_, ew, by (with_reducible repeat (first | apply Kd.R_alloc | apply Kd.R_drewN | apply Kd.R_drew)); exact HO182.out, vb HB.out⟩
 ·rw [if_neg c2] at H; obtain ⟨c2b0, c2b1⟩ := bqf c2; obtain ⟨t183, A5, H⟩ := bnk H; have H' := ak H; clear H; go_enter Try.func21, Try.ntmps21; go_wp2_with (first | ((with_reducible refine gate_dst (N := 9) rfl ?_); refine Kd.R_lit (Kd.int .i64) _ 2 ?hg (N := 9) ?hd (xs := ([] : List Int)) (inner := []) (ok := fun _ => True) (okp := fun _ => True) ?hr ?hp (fun _ hk => hk) trivial (Below.refl _ _) (Nat.le_refl _) (by simp) ?_; (case hd => rfl); (case hg => rfl); (case hr => first | (go_simp; done) | (go_simp; rfl)); (case hp => exact (Reps.none _ _)); intro v181 w6 ho7 hb hg_ hnew_; clear hg_ hnew_; (first | rw [← Ny180.out] at ho7 | (simp only [Int.reduceToNat] at ho7; rw [← Ny180.out] at ho7)); have HO182 := ak (Kd.R_lower ho7 (below_size (vb HB.out))); replace HB := bs HB hb; clear hb ho7) | ((with_reducible refine at_fn (f := 47) rfl ?_); refine gl (some 14) Try.func47 #[.string a0, .int .u8 32] ?_; (with_reducible refine (spec_l01Split.calls k a0 32 t183 _ A5.out).mono ?_); rintro e w8 ⟨v184, rfl, ho0, hb⟩; refine ⟨_, rfl, ?_⟩; replace HO182 := ak (Kd.R_below (vr HO182.out) hb); have HO185 := ak (Kd.R_lower ho0 (below_size (vb HB.out))); replace HB := bs HB hb; (try clear hb); (try clear hb2); (try clear hk); (try clear hi); (try clear ho0)))
  go_loopg [4, 6] k (fun kq v4 v6 w' => ∃ (x4_1 : List Int) (x6_1 : Int), v6 = .int .i64 x6_1 ∧ Aside0 (spec_ReadInputs.l0 kq x4_1 t183 x6_1 = some (r1, r2)) ∧ Aside0 (kq ≤ k) ∧ Aside0 (Kd.R (Kd.int .i64) 2 w' w.heap.size (fun _ => True) v4 x4_1) ∧ Aside0 (Kd.R Kd.string 9 w' w.heap.size (fun _ => True) v184 t183) ∧ Aside0 (Below w.heap.size w w'))
  case atStart => exact ⟨(y180), (0), (by first | rfl | (simp; done) | (simp [*]; done)), H', ⟨Nat.le_refl _⟩, ⟨by (with_reducible repeat (first | apply Kd.R_alloc | apply Kd.R_drewN | apply Kd.R_drew)); exact HO182.out⟩, ⟨by (with_reducible repeat (first | apply Kd.R_alloc | apply Kd.R_drewN | apply Kd.R_drew)); exact HO185.out⟩, ⟨vb HB.out⟩⟩
  case round =>
   clear H'; (try clear c2); (try clear c2b0); (try clear c2b1); (try clear p2); (try clear c4); obtain ⟨x4_1, x6_1, rfl, HA, HK1, HO_4, HO_5, HB⟩ := hrel
   cases gk with
   | zero => exact absurd HA.out (by simp [spec_ReadInputs.l0])
   | succ k1 =>
    have H := HA.out; clear HA; simp only [spec_ReadInputs.l0] at H
    by_cases c9 : x6_1 < (t183.length : Int)
    ·rw [if_pos c9] at H; have c9b0 := decide_eq_true c9; clear c9; have H' := ak H; clear H; obtain ⟨Ao10, co10, eo10⟩ := Kd.R_slice HO_5.out; subst eo10; go_wp2
     go_loopg [7, 8] k1 (fun kq v7 v8 w' => ∃ (x7_2 : Int) (x8_2 : Int), v7 = .int .i64 x7_2 ∧ v8 = .int .i64 x8_2 ∧ Aside0 (spec_ReadInputs.l1 kq x4_1 t183 x6_1 x7_2 x8_2 = some (r1, r2)) ∧ Aside0 (kq ≤ k1) ∧ Aside0 (Kd.R (Kd.int .i64) 2 w' w.heap.size (fun _ => True) u4 x4_1) ∧ Aside0 (Kd.R Kd.string 9 w' w.heap.size (fun _ => True) (.slice Ao10 t183.length co10) t183) ∧ Aside0 (Below w.heap.size w w'))
     case atStart => exact ⟨((-1)), (0), (by first | rfl | (simp; done) | (simp [*]; done)), (by first | rfl | (simp; done) | (simp [*]; done)), H', ⟨Nat.le_refl _⟩, ⟨by (with_reducible repeat (first | apply Kd.R_alloc | apply Kd.R_drewN | apply Kd.R_drew)); exact HO_4.out⟩, ⟨by (with_reducible repeat (first | apply Kd.R_alloc | apply Kd.R_drewN | apply Kd.R_drew)); exact HO_5.out⟩, ⟨vb HB.out⟩⟩
     case round =>
      clear H'; (try clear c2); (try clear c2b0); (try clear c2b1); (try clear p2); (try clear c4); (try clear c9); (try clear c9b0); (try clear p2); obtain ⟨x7_2, x8_2, rfl, rfl, HA, HK2, HO_4, HO_5, HB⟩ := hrel
      cases gk with
      | zero => exact absurd HA.out (by simp [spec_ReadInputs.l1])
      | succ k2 =>
       have H := HA.out; clear HA; simp only [spec_ReadInputs.l1] at H
       by_cases c11 : x8_2 ≤ 9
       ·rw [if_pos c11] at H; have c11b0 := decide_eq_true c11; clear c11; obtain ⟨t186, A12, H⟩ := bnk H; by_cases c13 : 0 ≤ x8_2
        ·rw [if_pos c13] at H; have c13b0 := decide_eq_true c13; clear c13; by_cases c14 : x8_2 < (t186.length : Int)
         ·rw [if_pos c14] at H; have c14b0 := decide_eq_true c14; clear c14; by_cases c15 : 0 ≤ x6_1
          ·rw [if_pos c15] at H; have c15b0 := decide_eq_true c15; clear c15; by_cases c16 : x6_1 < (t183.length : Int)
           ·rw [if_pos c16] at H; have c16b0 := decide_eq_true c16; clear c16; by_cases c17 : (rdOf ByteArray.empty t186 x8_2).toList = (rdOf ByteArray.empty t183 x6_1).toList
            ·rw [if_pos c17] at H; have c17b0 : ((rdOf ByteArray.empty t186 x8_2).toList == (rdOf ByteArray.empty t183 x6_1).toList) = true := beq_iff_eq.mpr c17; have c17b1 : ((rdOf ByteArray.empty t186 x8_2).toList != (rdOf ByteArray.empty t183 x6_1).toList) = false := bne_eq_false_iff_eq.mpr c17; clear c17; have H' := ak H; clear H; (try go_wp2)
             replace HO_4 := ak (Kd.R_drew HO_4.out); replace HO_5 := ak (Kd.R_drew HO_5.out); replace HB := ak (below_drew1 HB.out); have p190 : 0 ≤ (x6_1 : Int) := od; have q190 : x6_1 < (t183.length : Int) := od; obtain ⟨ad190, e190, hx190_0⟩ := Kd.at_string (Kd.R_reads' HO_5.out).2.2 x6_1 p190 q190
             cases e190; replace p190 := eq_true p190; replace q190 := eq_true q190; refine start_ (n := 9) (S := fun w' => w'.cell? (ad190.add (x6_1).toNat) = some (.string (rdOf ByteArray.empty t183 x6_1))) (ds := []) (tf 0 9) (by kernel_rfl) rfl rfl hx190_0 (fun hHeld => ?_); refine with_tabW spec_ReadInputs.tab12 spec_ReadInputs.bits12 (fun HT_ HW_ => ?_); generalize wr.drew = w18 at HO_4 HO_5 HB hx190_0 hHeld ⊢; refine pu_ 1 26 #[false, true, false, false, false, false, false, false, false] rfl rfl ?_; refine pu_ 4 29 #[false, true, false, false, true, false, false, false, false] rfl rfl ?_; refine pu_ 5 30 #[false, true, false, false, true, true, false, false, false] rfl rfl ?_; refine pu_ 6 31 #[false, true, false, false, true, true, true, false, false] rfl rfl ?_; refine ta1_ 7 32 #[false, true, false, false, true, true, true, true, false] rfl rfl ?_; refine one_ (i := 0) (N := some 25) #[true, true, false, false, true, true, true, true, false] rfl rfl (one_of HT_.out (by kernel_rfl)) (by decide) (fun K hK => ?_); refine goes_ Try.func48 (by kernel_rfl) rfl #[] (by rfl) rfl rfl (by (try simp only [List.map_toArray, List.map_cons, List.map_nil]); first | done | rfl | (simp only [List.length_drop, List.length_take]; rfl)) ?_; with_reducible refine (spec_l21Words.calls  t186 _ A12.out).mono ?_
             rintro e w19 ⟨v187, rfl, ho0, hb⟩; have HS0_ := (hb.cell (World.block_lt_of_cell? _ _ (hHeld))).trans (hHeld); refine ⟨_, rfl, ?_⟩; replace HO_4 := ak (Kd.R_below (vr HO_4.out) hb); have HO188 := ak (Kd.R_lower (Kd.R_new' ho0 (Kd.R_lt (vr HO_5.out))) (below_size (vb HB.out))); replace HO_5 := ak (Kd.R_elder' (vr HO_5.out) (Kd.R_base ho0) hb); replace HB := bs HB hb; (try clear hb)
             (try clear hb2)
             (try clear hk)
             (try clear hi)
             (try clear ho0)
             obtain ⟨Ao20, co20, eo20⟩ := Kd.R_slice HO188.out; (first | subst eo20 | (injection eo20 with f1_ f2_ f3_; have f4_ := f1_.symm; have f5_ := f3_.symm; clear f1_ f2_ f3_; subst f4_; subst f5_))
             have p189 : 0 ≤ (x8_2 : Int) := od; have q189 : x8_2 < (t186.length : Int) := od; obtain ⟨ad189, e189, hx189_0⟩ := Kd.at_string (Kd.R_reads' HO188.out).2.2 x8_2 p189 q189
             cases e189; replace p189 := eq_true p189; replace q189 := eq_true q189; refine hK.out _ _ HS0_ (fun hHeld => ?_); clear hK K; refine norm_ (a' := ?_) ?_ ?_
             rotate_left
             ·show Act.put _ (some 25) _ = _
              simp only [Act.put, List.setIfInBounds_toArray, List.set_cons_zero, List.set_cons_succ, i64_w, i32_w]
              rfl
             refine pu_ 2 27 #[true, true, true, false, true, true, true, true, false] rfl rfl ?_; refine one_ (i := 3) (N := some 28) (tf 8 1) rfl rfl (one_of HT_.out (by kernel_rfl)) (by decide) (fun K hK => ?_); refine value_ (w1 := ?_) (v := ?_) (by rfl) rfl ?_ ?_
             rotate_left 2
             ·go_simp
              constructor
              ·rfl
              ·rfl
             refine hK.out _ _ hHeld (fun hHeld => ?_); clear hK K; refine norm_ (a' := ?_) ?_ ?_
             rotate_left
             ·show Act.put _ (some 28) _ = _
              simp only [Act.put, List.setIfInBounds_toArray, List.set_cons_zero, List.set_cons_succ, i64_w, i32_w]
              rfl
             refine pu_ 8 33 (tf 9 0) rfl rfl ?_; refine done_ (done_of HT_.out (by kernel_rfl)) ?_; (try go_wp2)
             go_roundg k2
             case measure => have := HK1.out; have := HK2.out; omega
             case rel => exact ⟨(x8_2), (wrap64 (x8_2 + 1)), (by first | rfl | (simp; done) | (simp [*]; done)), (by first | rfl | (simp; done) | (simp [*]; done)), H', ⟨by have := HK1.out; have := HK2.out; omega⟩, ⟨by (with_reducible repeat (first | apply Kd.R_alloc | apply Kd.R_drewN | apply Kd.R_drew)); exact HO_4.out⟩, ⟨by (with_reducible repeat (first | apply Kd.R_alloc | apply Kd.R_drewN | apply Kd.R_drew)); exact Kd.R_mono HO_5.out (fun _ hk => trivial)⟩, ⟨vb HB.out⟩⟩
            ·rw [if_neg c17] at H; have c17b0 : ((rdOf ByteArray.empty t186 x8_2).toList == (rdOf ByteArray.empty t183 x6_1).toList) = false := beq_eq_false_iff_ne.mpr c17; have c17b1 : ((rdOf ByteArray.empty t186 x8_2).toList != (rdOf ByteArray.empty t183 x6_1).toList) = true := bne_iff_ne.mpr c17; have H' := ak H; clear H; (try go_wp2)
             replace HO_4 := ak (Kd.R_drew HO_4.out); replace HO_5 := ak (Kd.R_drew HO_5.out); replace HB := ak (below_drew1 HB.out); have p190 : 0 ≤ (x6_1 : Int) := od; have q190 : x6_1 < (t183.length : Int) := od; obtain ⟨ad190, e190, hx190_0⟩ := Kd.at_string (Kd.R_reads' HO_5.out).2.2 x6_1 p190 q190
             cases e190; replace p190 := eq_true p190; replace q190 := eq_true q190; refine start_ (n := 9) (S := fun w' => w'.cell? (ad190.add (x6_1).toNat) = some (.string (rdOf ByteArray.empty t183 x6_1))) (ds := []) (tf 0 9) (by kernel_rfl) rfl rfl hx190_0 (fun hHeld => ?_); refine with_tabW spec_ReadInputs.tab12 spec_ReadInputs.bits12 (fun HT_ HW_ => ?_); generalize wr.drew = w21 at HO_4 HO_5 HB hx190_0 hHeld ⊢; refine pu_ 1 26 #[false, true, false, false, false, false, false, false, false] rfl rfl ?_; refine pu_ 4 29 #[false, true, false, false, true, false, false, false, false] rfl rfl ?_; refine pu_ 5 30 #[false, true, false, false, true, true, false, false, false] rfl rfl ?_; refine pu_ 6 31 #[false, true, false, false, true, true, true, false, false] rfl rfl ?_; refine ta1_ 7 32 #[false, true, false, false, true, true, true, true, false] rfl rfl ?_; refine one_ (i := 0) (N := some 25) #[true, true, false, false, true, true, true, true, false] rfl rfl (one_of HT_.out (by kernel_rfl)) (by decide) (fun K hK => ?_); refine goes_ Try.func48 (by kernel_rfl) rfl #[] (by rfl) rfl rfl (by (try simp only [List.map_toArray, List.map_cons, List.map_nil]); first | done | rfl | (simp only [List.length_drop, List.length_take]; rfl)) ?_; with_reducible refine (spec_l21Words.calls  t186 _ A12.out).mono ?_
             rintro e w22 ⟨v187, rfl, ho0, hb⟩; have HS0_ := (hb.cell (World.block_lt_of_cell? _ _ (hHeld))).trans (hHeld); refine ⟨_, rfl, ?_⟩; replace HO_4 := ak (Kd.R_below (vr HO_4.out) hb); have HO188 := ak (Kd.R_lower (Kd.R_new' ho0 (Kd.R_lt (vr HO_5.out))) (below_size (vb HB.out))); replace HO_5 := ak (Kd.R_elder' (vr HO_5.out) (Kd.R_base ho0) hb); replace HB := bs HB hb; (try clear hb)
             (try clear hb2)
             (try clear hk)
             (try clear hi)
             (try clear ho0)
             obtain ⟨Ao23, co23, eo23⟩ := Kd.R_slice HO188.out; (first | subst eo23 | (injection eo23 with f1_ f2_ f3_; have f4_ := f1_.symm; have f5_ := f3_.symm; clear f1_ f2_ f3_; subst f4_; subst f5_))
             have p189 : 0 ≤ (x8_2 : Int) := od; have q189 : x8_2 < (t186.length : Int) := od; obtain ⟨ad189, e189, hx189_0⟩ := Kd.at_string (Kd.R_reads' HO188.out).2.2 x8_2 p189 q189
             cases e189; replace p189 := eq_true p189; replace q189 := eq_true q189; refine hK.out _ _ HS0_ (fun hHeld => ?_); clear hK K; refine norm_ (a' := ?_) ?_ ?_
             rotate_left
             ·show Act.put _ (some 25) _ = _
              simp only [Act.put, List.setIfInBounds_toArray, List.set_cons_zero, List.set_cons_succ, i64_w, i32_w]
              rfl
             refine pu_ 2 27 #[true, true, true, false, true, true, true, true, false] rfl rfl ?_; refine one_ (i := 3) (N := some 28) (tf 8 1) rfl rfl (one_of HT_.out (by kernel_rfl)) (by decide) (fun K hK => ?_); refine value_ (w1 := ?_) (v := ?_) (by rfl) rfl ?_ ?_
             rotate_left 2
             ·go_simp
              constructor
              ·rfl
              ·rfl
             refine hK.out _ _ hHeld (fun hHeld => ?_); clear hK K; refine norm_ (a' := ?_) ?_ ?_
             rotate_left
             ·show Act.put _ (some 28) _ = _
              simp only [Act.put, List.setIfInBounds_toArray, List.set_cons_zero, List.set_cons_succ, i64_w, i32_w]
              rfl
             refine pu_ 8 33 (tf 9 0) rfl rfl ?_; refine done_ (done_of HT_.out (by kernel_rfl)) ?_; (try go_wp2)
             go_roundg k2
             case measure => have := HK1.out; have := HK2.out; omega
             case rel => exact ⟨(x7_2), (wrap64 (x8_2 + 1)), (by first | rfl | (simp; done) | (simp [*]; done)), (by first | rfl | (simp; done) | (simp [*]; done)), H', ⟨by have := HK1.out; have := HK2.out; omega⟩, ⟨by (with_reducible repeat (first | apply Kd.R_alloc | apply Kd.R_drewN | apply Kd.R_drew)); exact HO_4.out⟩, ⟨by (with_reducible repeat (first | apply Kd.R_alloc | apply Kd.R_drewN | apply Kd.R_drew)); exact Kd.R_mono HO_5.out (fun _ hk => trivial)⟩, ⟨vb HB.out⟩⟩
           ·rw [if_neg c16] at H; exact absurd H (by simp)
          ·rw [if_neg c15] at H; exact absurd H (by simp)
         ·rw [if_neg c14] at H; exact absurd H (by simp)
        ·rw [if_neg c13] at H; exact absurd H (by simp)
       ·rw [if_neg c11] at H; have c11b0 := decide_eq_false c11; clear c11; by_cases c24 : x7_2 < 0
        ·rw [if_pos c24] at H; have c24b0 := decide_eq_true c24; clear c24; simp only [Option.some.injEq, Prod.mk.injEq] at H
         obtain ⟨rfl, rfl⟩ := H; go_wp2
         go_ret2
         exact ⟨_, ew, by first | exact Kd.R_nil _ _ _ _ _ | exact Kd.N_nil _ _ _ _ _ | exact Kd.V_nil _ _ _ _ _ | exact Kd.Q_nil _ _ _ _ _ | exact Kd.S_nil _ _ _ _ _, vb HB.out⟩
        ·rw [if_neg c24] at H; have c24b0 := decide_eq_false c24; clear c24; by_cases c25 : x4_1.length < 17592186044416
         ·rw [if_pos c25] at H; have LMc25 := ak c25; clear c25; obtain ⟨y191, hy191⟩ := gen_ ((x4_1 ++ [x7_2] : List Int)); rw [← hy191] at H; have Ny191 := ak hy191; clear hy191; have H' := ak H; clear H; go_wp2_with (first | ((with_reducible refine at_bi (b := .append) (xs := #[.tmp 37, .tmp 39]) rfl ?_); at_builtin; refine Kd.R_append (Kd.int .i64) (w0 := w) w.heap.size rfl (.tmp 37) (.tmp 39) 32 2 (.int .i64 0) 8 rfl Try.underlying32 info2 rfl (by decide) (by omega) u4 x4_1 x7_2 [.int .i64 x7_2] (fun _ => True) (fun _ => False) rfl rfl ?aP (fun _ hk => hk.elim) ?aF ?aO ?aB ?aS ?aL ?_; (case aP => exact rfl); (case aB => exact (vb HB.out)); (case aF => exact (fun _ _ => trivial)); (case aO => exact (vr HO_4.out)); (case aS => exact (below_size (vb HB.out))); (case aL => have := LMc25.out; omega); intro v192 w26 ho hb hg hat; rw [← Ny191.out] at ho; have n0_ := ak (Kd.R_over' (vr HO_5.out) (Kd.R_typed (vr HO_4.out)) (by decide) hg); have n1_ := ak (hb); have n2_ := ak (ho); clear HO_5; clear HB; clear HO_4; have HO_5 := n0_; have HB := n1_; have HO193 := n2_; clear n0_ n1_ n2_; clear ho hb hg hat))
          go_roundg k2
          case measure => have := HK1.out; have := HK2.out; omega
          case rel => exact ⟨(y191), (wrap64 (x6_1 + 1)), (by first | rfl | (simp; done) | (simp [*]; done)), H', ⟨by have := HK1.out; have := HK2.out; omega⟩, ⟨by (with_reducible repeat (first | apply Kd.R_alloc | apply Kd.R_drewN | apply Kd.R_drew)); exact HO193.out⟩, ⟨by (with_reducible repeat (first | apply Kd.R_alloc | apply Kd.R_drewN | apply Kd.R_drew)); exact HO_5.out⟩, ⟨vb HB.out⟩⟩
         ·rw [if_neg c25] at H; exact absurd H (by simp)
    ·rw [if_neg c9] at H; have c9b0 := decide_eq_false c9; clear c9; by_cases c27 : (x4_1.length : Int) > 60
     ·rw [if_pos c27] at H; have c27b0 := decide_eq_true c27; have c27b1 : decide (60 < x4_1.length) = true := decide_eq_true (by omega); clear c27; simp only [Option.some.injEq, Prod.mk.injEq] at H
      obtain ⟨rfl, rfl⟩ := H; obtain ⟨Ao28, co28, eo28⟩ := Kd.R_slice HO_5.out; subst eo28; obtain ⟨Ao29, co29, eo29⟩ := Kd.R_slice HO_4.out; subst eo29; go_wp2
      go_ret2
      exact ⟨_, ew, by first | exact Kd.R_nil _ _ _ _ _ | exact Kd.N_nil _ _ _ _ _ | exact Kd.V_nil _ _ _ _ _ | exact Kd.Q_nil _ _ _ _ _ | exact Kd.S_nil _ _ _ _ _, vb HB.out⟩
     ·rw [if_neg c27] at H; have c27b0 := decide_eq_false c27; have c27b1 : decide (60 < x4_1.length) = false := decide_eq_false (by omega); clear c27; simp only [Option.some.injEq, Prod.mk.injEq] at H
      obtain ⟨rfl, rfl⟩ := H; obtain ⟨Ao30, co30, eo30⟩ := Kd.R_slice HO_5.out; subst eo30; obtain ⟨Ao31, co31, eo31⟩ := Kd.R_slice HO_4.out; subst eo31; go_wp2
      go_ret2
      exact ⟨_, ew, by (with_reducible repeat (first | apply Kd.R_alloc | apply Kd.R_drewN | apply Kd.R_drew)); exact HO_4.out, vb HB.out⟩


/-! ### impl_splitAt: function 49 -/
def impl_splitAt.l0 : Nat → ByteArray → Int → List ByteArray → Int → Int → Option (List ByteArray)
 | 0, _, _, _, _, _ => none
 | k + 1, x0, x1, x5, x6, x7 => if x7 < (x0.size : Int) then (if 0 ≤ x7 then (if (bt x0 x7) = x1 then (if 0 ≤ x6 then (if x6 ≤ x7 then (if x7 ≤ (x0.size : Int) then (if x5.length < 8796093022208 then (impl_splitAt.l0 k x0 x1 (x5 ++ [x0.extract (x6 : Int).toNat (x7 : Int).toNat]) (wrap64 (x7 + 1)) (wrap64 (x7 + 1))) else (none)) else (none)) else (none)) else (none)) else (impl_splitAt.l0 k x0 x1 x5 x6 (wrap64 (x7 + 1)))) else (none)) else (if 0 ≤ x6 then (if x6 ≤ (x0.size : Int) then (if x5.length < 8796093022208 then (some (x5 ++ [x0.extract (x6 : Int).toNat x0.size])) else (none)) else (none)) else (none))
def impl_splitAt.f (k : Nat) (a0 : ByteArray) (a1 : Int) : Option (List ByteArray) := impl_splitAt.l0 k a0 a1 ([] : List ByteArray) 0 0
theorem impl_splitAt.mono_l : ∀ k, (∀ y0 y1 y2 y3 y4, LeO (impl_splitAt.l0 k y0 y1 y2 y3 y4) (impl_splitAt.l0 (k + 1) y0 y1 y2 y3 y4))
 | 0 => fun _ _ _ _ _ r h => by simp [impl_splitAt.l0] at h
 | k + 1 => by
  have ih0 := impl_splitAt.mono_l k
  ·intro y0 y1 y2 y3 y4; unfold impl_splitAt.l0
   repeat' first | (with_reducible first | exact ih0 _ _ _ _ _ | exact LeO.refl _ | exact LeO.none _ | refine LeO.ite ?_ ?_ | refine LeO.bind ?_ (fun _ => ?_)) | exact ih0 _ _ _ _ _ | exact LeO.none _ | refine LeO.ite ?_ ?_ | refine LeO.bind ?_ (fun _ => ?_)
theorem impl_splitAt.mono : ∀ a0 a1 k, LeO (impl_splitAt.f k a0 a1) (impl_splitAt.f (k + 1) a0 a1) := by
 intro a0 a1 k; have ih0 := impl_splitAt.mono_l k; unfold impl_splitAt.f
 repeat' first | (with_reducible first | exact ih0 _ _ _ _ _ | exact LeO.refl _ | exact LeO.none _ | refine LeO.ite ?_ ?_ | refine LeO.bind ?_ (fun _ => ?_)) | exact ih0 _ _ _ _ _ | exact LeO.none _ | refine LeO.ite ?_ ?_ | refine LeO.bind ?_ (fun _ => ?_)
set_option maxHeartbeats 8000000 in
set_option maxRecDepth 100000 in
theorem impl_splitAt.calls (k : Nat) (a0 : ByteArray) (a1 : Int) (r : List ByteArray) (w : World) (h : impl_splitAt.f k a0 a1 = some r) :
  Calls Try.prog 49 #[.string a0, .int .u8 a1] w fun e w' => ∃ v0_ : Value, e = .returned (v0_) ∧ Kd.R Kd.string 9 w' w.heap.size (fun _ => True) v0_ r ∧ Below w.heap.size w w' := by
 have HB := ak (Below.refl w.heap.size w); unfold impl_splitAt.f at h; have H := h; clear h; have H' := ak H; clear H; go_enter Try.func49, Try.ntmps49; go_wp2
 go_loopg [5, 6, 7] k (fun kq v5 v6 v7 w' => ∃ (x5_1 : List ByteArray) (x6_1 : Int) (x7_1 : Int), v6 = .int .i64 x6_1 ∧ v7 = .int .i64 x7_1 ∧ Aside0 (impl_splitAt.l0 kq a0 a1 x5_1 x6_1 x7_1 = some r) ∧ Aside0 (kq ≤ k) ∧ Aside0 (Kd.R Kd.string 9 w' w.heap.size (fun _ => True) v5 x5_1) ∧ Aside0 (Below w.heap.size w w'))
 case atStart => exact ⟨(([] : List ByteArray)), (0), (0), (by first | rfl | (simp; done) | (simp [*]; done)), (by first | rfl | (simp; done) | (simp [*]; done)), H', ⟨Nat.le_refl _⟩, ⟨by first | exact Kd.R_nil _ _ _ _ _ | exact Kd.N_nil _ _ _ _ _ | exact Kd.V_nil _ _ _ _ _ | exact Kd.Q_nil _ _ _ _ _ | exact Kd.S_nil _ _ _ _ _⟩, ⟨vb HB.out⟩⟩
 case round =>
  clear H'; (try clear p2); obtain ⟨x5_1, x6_1, x7_1, rfl, rfl, HA, HK1, HO_5, HB⟩ := hrel
  cases gk with
  | zero => exact absurd HA.out (by simp [impl_splitAt.l0])
  | succ k1 =>
   have H := HA.out; clear HA; simp only [impl_splitAt.l0] at H
   by_cases c3 : x7_1 < (a0.size : Int)
   ·rw [if_pos c3] at H; have c3b0 := decide_eq_true c3; clear c3; by_cases c4 : 0 ≤ x7_1
    ·rw [if_pos c4] at H; have c4b0 := decide_eq_true c4; clear c4; by_cases c6 : (bt a0 x7_1) = a1
     ·rw [if_pos c6] at H; obtain ⟨c6b0, c6b1⟩ := bqt c6; clear c6; by_cases c7 : 0 ≤ x6_1
      ·rw [if_pos c7] at H; have c7b0 := eq_true c7; have c7b1 : decide (0 ≤ x6_1) = true := decide_eq_true c7; clear c7; by_cases c8 : x6_1 ≤ x7_1
       ·rw [if_pos c8] at H; have c8b0 := eq_true c8; have c8b1 : decide (x6_1 ≤ x7_1) = true := decide_eq_true c8; clear c8; by_cases c9 : x7_1 ≤ (a0.size : Int)
        ·rw [if_pos c9] at H; have c9b0 := eq_true c9; have c9b1 : decide (x7_1 ≤ (a0.size : Int)) = true := decide_eq_true c9; clear c9; by_cases c10 : x5_1.length < 8796093022208
         ·rw [if_pos c10] at H; have LMc10 := ak c10; clear c10; obtain ⟨y194, hy194⟩ := gen_ ((x5_1 ++ [a0.extract (x6_1 : Int).toNat (x7_1 : Int).toNat] : List ByteArray)); rw [← hy194] at H; have Ny194 := ak hy194; clear hy194; have H' := ak H; clear H; have p5 : 0 ≤ (x7_1 : Int) := od; have q5 : x7_1 < (a0.size : Int) := od; have hx5 := bt_at a0 x7_1; replace p5 := eq_true p5; replace q5 := eq_true q5; go_wp2_with (first | ((with_reducible refine at_bi (b := .append) (xs := #[.tmp 19, .tmp 24]) rfl ?_); at_builtin; refine Kd.R_append Kd.string (w0 := w) w.heap.size rfl (.tmp 19) (.tmp 24) 59 9 (.string ⟨#[]⟩) 16 rfl Try.underlying59 info9 rfl (by decide) (by omega) u5 x5_1 (a0.extract (x6_1 : Int).toNat (x7_1 : Int).toNat) [.string (a0.extract (x6_1 : Int).toNat (x7_1 : Int).toNat)] (fun _ => True) (fun _ => False) rfl rfl ?aP (fun _ hk => hk.elim) ?aF ?aO ?aB ?aS ?aL ?_; (case aP => exact rfl); (case aB => exact (vb HB.out)); (case aF => exact (fun _ _ => trivial)); (case aO => exact (vr HO_5.out)); (case aS => exact (below_size (vb HB.out))); (case aL => have := LMc10.out; omega); intro v195 w11 ho hb hg hat; rw [← Ny194.out] at ho; have n0_ := ak (hb); have n1_ := ak (ho); clear HB; clear HO_5; have HB := n0_; have HO196 := n1_; clear n0_ n1_; clear ho hb hg hat))
          go_roundg k1
          case measure => have := HK1.out; omega
          case rel => exact ⟨(y194), (wrap64 (x7_1 + 1)), (wrap64 (x7_1 + 1)), (by first | rfl | (simp; done) | (simp [*]; done)), (by first | rfl | (simp; done) | (simp [*]; done)), H', ⟨by have := HK1.out; omega⟩, ⟨by (with_reducible repeat (first | apply Kd.R_alloc | apply Kd.R_drewN | apply Kd.R_drew)); exact HO196.out⟩, ⟨vb HB.out⟩⟩
         ·rw [if_neg c10] at H; exact absurd H (by simp)
        ·rw [if_neg c9] at H; exact absurd H (by simp)
       ·rw [if_neg c8] at H; exact absurd H (by simp)
      ·rw [if_neg c7] at H; exact absurd H (by simp)
     ·rw [if_neg c6] at H; obtain ⟨c6b0, c6b1⟩ := bqf c6; have H' := ak H; clear H; have p5 : 0 ≤ (x7_1 : Int) := od; have q5 : x7_1 < (a0.size : Int) := od; have hx5 := bt_at a0 x7_1; replace p5 := eq_true p5; replace q5 := eq_true q5; go_wp2
      go_roundg k1
      case measure => have := HK1.out; omega
      case rel => exact ⟨(x5_1), (x6_1), (wrap64 (x7_1 + 1)), (by first | rfl | (simp; done) | (simp [*]; done)), (by first | rfl | (simp; done) | (simp [*]; done)), H', ⟨by have := HK1.out; omega⟩, ⟨by (with_reducible repeat (first | apply Kd.R_alloc | apply Kd.R_drewN | apply Kd.R_drew)); exact HO_5.out⟩, ⟨vb HB.out⟩⟩
    ·rw [if_neg c4] at H; exact absurd H (by simp)
   ·rw [if_neg c3] at H; have c3b0 := decide_eq_false c3; clear c3; by_cases c12 : 0 ≤ x6_1
    ·rw [if_pos c12] at H; have c12b0 := eq_true c12; have c12b1 : decide (0 ≤ x6_1) = true := decide_eq_true c12; clear c12; by_cases c13 : x6_1 ≤ (a0.size : Int)
     ·rw [if_pos c13] at H; have c13b0 := eq_true c13; have c13b1 : decide (x6_1 ≤ (a0.size : Int)) = true := decide_eq_true c13; clear c13; by_cases c14 : x5_1.length < 8796093022208
      ·rw [if_pos c14] at H; have LMc14 := ak c14; clear c14; obtain ⟨y197, hy197⟩ := gen_ ((x5_1 ++ [a0.extract (x6_1 : Int).toNat a0.size] : List ByteArray)); rw [← hy197] at H; have Ny197 := ak hy197; clear hy197; obtain rfl := Option.some.inj H; go_wp2_with (first | ((with_reducible refine at_bi (b := .append) (xs := #[.tmp 28, .tmp 32]) rfl ?_); at_builtin; refine Kd.R_append Kd.string (w0 := w) w.heap.size rfl (.tmp 28) (.tmp 32) 59 9 (.string ⟨#[]⟩) 16 rfl Try.underlying59 info9 rfl (by decide) (by omega) u5 x5_1 (a0.extract (x6_1 : Int).toNat a0.size) [.string (a0.extract (x6_1 : Int).toNat a0.size)] (fun _ => True) (fun _ => False) rfl rfl ?aP (fun _ hk => hk.elim) ?aF ?aO ?aB ?aS ?aL ?_; (case aP => exact rfl); (case aB => exact (vb HB.out)); (case aF => exact (fun _ _ => trivial)); (case aO => exact (vr HO_5.out)); (case aS => exact (below_size (vb HB.out))); (case aL => have := LMc14.out; omega); intro v198 w15 ho hb hg hat; rw [← Ny197.out] at ho; have n0_ := ak (hb); have n1_ := ak (ho); clear HB; clear HO_5; have HB := n0_; have HO199 := n1_; clear n0_ n1_; clear ho hb hg hat))
       go_ret
       exact ⟨_, ew, by (with_reducible repeat (first | apply Kd.R_alloc | apply Kd.R_drewN | apply Kd.R_drew)); exact HO199.out, vb HB.out⟩
      ·rw [if_neg c14] at H; exact absurd H (by simp)
     ·rw [if_neg c13] at H; exact absurd H (by simp)
    ·rw [if_neg c12] at H; exact absurd H (by simp)


/-! ### impl_ReadInputs: function 22 -/
mutual
def impl_ReadInputs.l0 : Nat → List Int → List ByteArray → Int → Int → Option (List Int × Int)
 | 0, _, _, _, _ => none
 | k + 1, x5, x18, x19, x20 => if x20 < x19 then (if 0 ≤ x20 then (if x20 < (x18.length : Int) then ((impl_inputWords.f).bind fun t207 => (impl_ReadInputs.l1 k x5 (rdOf ByteArray.empty x18 x20) (-1) x18 x19 x20 t207 (t207.length : Int) 0)) else (none)) else (none)) else (some (x5, 0))
def impl_ReadInputs.l1 : Nat → List Int → ByteArray → Int → List ByteArray → Int → Int → List ByteArray → Int → Int → Option (List Int × Int)
 | 0, _, _, _, _, _, _, _, _, _ => none
 | k + 1, x5, x7, x8, x18, x19, x20, x24, x25, x26 => if x26 < x25 then (if 0 ≤ x26 then (if x26 < (x24.length : Int) then (if (rdOf ByteArray.empty x24 x26).toList = x7.toList then (impl_ReadInputs.l1 k x5 x7 x26 x18 x19 x20 x24 x25 (wrap64 (x26 + 1))) else (impl_ReadInputs.l1 k x5 x7 x8 x18 x19 x20 x24 x25 (wrap64 (x26 + 1)))) else (none)) else (none)) else (if x8 < 0 then (some (([] : List Int), 6)) else (if x5.length < 17592186044416 then (impl_ReadInputs.l0 k (x5 ++ [x8]) x18 x19 (wrap64 (x20 + 1))) else (none)))
end
def impl_ReadInputs.f (k : Nat) (a0 : ByteArray) : Option (List Int × Int) := if a0.toList = ([45] : List UInt8) then (some (([] : List Int), 0)) else ((impl_splitAt.f k a0 32).bind fun t203 => (if (t203.length : Int) > 60 then (some (([] : List Int), 6)) else (impl_ReadInputs.l0 k ([] : List Int) t203 (t203.length : Int) 0)))
theorem impl_ReadInputs.mono_l : ∀ k, (∀ y0 y1 y2 y3, LeO (impl_ReadInputs.l0 k y0 y1 y2 y3) (impl_ReadInputs.l0 (k + 1) y0 y1 y2 y3)) ∧ (∀ y0 y1 y2 y3 y4 y5 y6 y7 y8, LeO (impl_ReadInputs.l1 k y0 y1 y2 y3 y4 y5 y6 y7 y8) (impl_ReadInputs.l1 (k + 1) y0 y1 y2 y3 y4 y5 y6 y7 y8))
 | 0 => ⟨fun _ _ _ _ r h => by simp [impl_ReadInputs.l0] at h, fun _ _ _ _ _ _ _ _ _ r h => by simp [impl_ReadInputs.l1] at h⟩
 | k + 1 => by
  obtain ⟨ih0, ih1⟩ := impl_ReadInputs.mono_l k; refine ⟨?_, ?_⟩
  ·intro y0 y1 y2 y3; unfold impl_ReadInputs.l0
   repeat' first | (with_reducible first | exact ih0 _ _ _ _ | exact ih1 _ _ _ _ _ _ _ _ _ | exact impl_splitAt.mono _ _ _ | exact LeO.refl _ | exact LeO.none _ | refine LeO.ite ?_ ?_ | refine LeO.bind ?_ (fun _ => ?_)) | exact ih0 _ _ _ _ | exact ih1 _ _ _ _ _ _ _ _ _ | exact impl_splitAt.mono _ _ _ | exact LeO.none _ | refine LeO.ite ?_ ?_ | refine LeO.bind ?_ (fun _ => ?_)
  ·intro y0 y1 y2 y3 y4 y5 y6 y7 y8; unfold impl_ReadInputs.l1
   repeat' first | (with_reducible first | exact ih0 _ _ _ _ | exact ih1 _ _ _ _ _ _ _ _ _ | exact impl_splitAt.mono _ _ _ | exact LeO.refl _ | exact LeO.none _ | refine LeO.ite ?_ ?_ | refine LeO.bind ?_ (fun _ => ?_)) | exact ih0 _ _ _ _ | exact ih1 _ _ _ _ _ _ _ _ _ | exact impl_splitAt.mono _ _ _ | exact LeO.none _ | refine LeO.ite ?_ ?_ | refine LeO.bind ?_ (fun _ => ?_)
theorem impl_ReadInputs.mono : ∀ a0 k, LeO (impl_ReadInputs.f k a0) (impl_ReadInputs.f (k + 1) a0) := by
 intro a0 k; obtain ⟨ih0, ih1⟩ := impl_ReadInputs.mono_l k; unfold impl_ReadInputs.f
 repeat' first | (with_reducible first | exact ih0 _ _ _ _ | exact ih1 _ _ _ _ _ _ _ _ _ | exact impl_splitAt.mono _ _ _ | exact LeO.refl _ | exact LeO.none _ | refine LeO.ite ?_ ?_ | refine LeO.bind ?_ (fun _ => ?_)) | exact ih0 _ _ _ _ | exact ih1 _ _ _ _ _ _ _ _ _ | exact impl_splitAt.mono _ _ _ | exact LeO.none _ | refine LeO.ite ?_ ?_ | refine LeO.bind ?_ (fun _ => ?_)
set_option maxHeartbeats 8000000 in
set_option maxRecDepth 100000 in
theorem impl_ReadInputs.calls (k : Nat) (a0 : ByteArray) (r1 : List Int) (r2 : Int) (w : World) (h : impl_ReadInputs.f k a0 = some (r1, r2)) :
  Calls Try.prog 22 #[.string a0] w fun e w' => ∃ v0_ : Value, e = .returned (.tuple #[v0_, .int .i64 r2]) ∧ Kd.R (Kd.int .i64) 2 w' w.heap.size (fun _ => True) v0_ r1 ∧ Below w.heap.size w w' := by
 have HB := ak (Below.refl w.heap.size w); unfold impl_ReadInputs.f at h; have H := h; clear h; by_cases c2 : a0.toList = ([45] : List UInt8)
 rw [if_pos c2] at H; obtain ⟨c2b0, c2b1⟩ := bqt c2; clear c2; simp only [Option.some.injEq, Prod.mk.injEq] at H
 obtain ⟨rfl, rfl⟩ := H; rotate_left
 rw [if_neg c2] at H; obtain ⟨c2b0, c2b1⟩ := bqf c2; obtain ⟨t203, A3, H⟩ := bnk H; by_cases c4 : (t203.length : Int) > 60
 rw [if_pos c4] at H; have c4b0 := decide_eq_true c4; have c4b1 : decide (60 < t203.length) = true := decide_eq_true (by omega); clear c4; simp only [Option.some.injEq, Prod.mk.injEq] at H
 obtain ⟨rfl, rfl⟩ := H; rotate_left
 ·rw [if_neg c4] at H; have c4b0 := decide_eq_false c4; have c4b1 : decide (60 < t203.length) = false := decide_eq_false (by omega); clear c4; have H' := ak H; clear H; go_enter Try.func22, Try.ntmps22; go_wp2_with (first | ((with_reducible refine at_fn (f := 49) rfl ?_); refine gl (some 14) Try.func49 #[.string a0, .int .u8 32] ?_; (with_reducible refine (impl_splitAt.calls k a0 32 t203 _ A3.out).mono ?_); rintro e w7 ⟨v204, rfl, ho0, hb⟩; refine ⟨_, rfl, ?_⟩; have HO205 := ak (Kd.R_lower ho0 (below_size (vb HB.out))); replace HB := bs HB hb; (try clear hb); (try clear hb2); (try clear hk); (try clear hi); (try clear ho0); obtain ⟨Ao8, co8, eo8⟩ := Kd.R_slice HO205.out; subst eo8))
  go_loopg [5, 20] k (fun kq v5 v20 w' => ∃ (x5_1 : List Int) (x20_1 : Int), v20 = .int .i64 x20_1 ∧ Aside0 (impl_ReadInputs.l0 kq x5_1 t203 (t203.length : Int) x20_1 = some (r1, r2)) ∧ Aside0 (kq ≤ k) ∧ Aside0 (Kd.R (Kd.int .i64) 2 w' w.heap.size (fun _ => True) v5 x5_1) ∧ Aside0 (Kd.R Kd.string 9 w' w.heap.size (fun _ => True) (.slice Ao8 t203.length co8) t203) ∧ Aside0 (Below w.heap.size w w'))
  case atStart => exact ⟨(([] : List Int)), (0), (by first | rfl | (simp; done) | (simp [*]; done)), H', ⟨Nat.le_refl _⟩, ⟨by first | exact Kd.R_nil _ _ _ _ _ | exact Kd.N_nil _ _ _ _ _ | exact Kd.V_nil _ _ _ _ _ | exact Kd.Q_nil _ _ _ _ _ | exact Kd.S_nil _ _ _ _ _⟩, ⟨by (with_reducible repeat (first | apply Kd.R_alloc | apply Kd.R_drewN | apply Kd.R_drew)); exact HO205.out⟩, ⟨vb HB.out⟩⟩
  case round =>
   clear H'; (try clear c2); (try clear c2b0); (try clear c2b1); (try clear p2); (try clear c4); (try clear c4b0); (try clear c4b1); obtain ⟨x5_1, x20_1, rfl, HA, HK1, HO_5, HO_18, HB⟩ := hrel
   cases gk with
   | zero => exact absurd HA.out (by simp [impl_ReadInputs.l0])
   | succ k1 =>
    have H := HA.out; clear HA; simp only [impl_ReadInputs.l0] at H
    by_cases c9 : x20_1 < (t203.length : Int)
    ·rw [if_pos c9] at H; have c9b0 := decide_eq_true c9; clear c9; by_cases c10 : 0 ≤ x20_1
     ·rw [if_pos c10] at H; have c10b0 := decide_eq_true c10; clear c10; by_cases c11 : x20_1 < (t203.length : Int)
      ·rw [if_pos c11] at H; have c11b0 := decide_eq_true c11; clear c11; obtain ⟨t207, A12, H⟩ := bnk H; have H' := ak H; clear H; have p206 : 0 ≤ (x20_1 : Int) := od; have q206 : x20_1 < (t203.length : Int) := od; obtain ⟨ad206, e206, hx206_0⟩ := Kd.at_string (Kd.R_reads' HO_18.out).2.2 x20_1 p206 q206
       cases e206; replace p206 := eq_true p206; replace q206 := eq_true q206; go_wp2_with (first | ((with_reducible refine at_fn (f := 50) rfl ?_); refine gl (some 24) Try.func50 #[] ?_; (with_reducible refine (impl_inputWords.calls  t207 _ A12.out).mono ?_); rintro e w13 ⟨v208, rfl, ho0, hb⟩; refine ⟨_, rfl, ?_⟩; replace HO_5 := ak (Kd.R_below (vr HO_5.out) hb); have HO209 := ak (Kd.R_lower (Kd.R_new' ho0 (Kd.R_lt (vr HO_18.out))) (below_size (vb HB.out))); replace HO_18 := ak (Kd.R_elder' (vr HO_18.out) (Kd.R_base ho0) hb); replace HB := bs HB hb; (try clear hb); (try clear hb2); (try clear hk); (try clear hi); (try clear ho0); obtain ⟨Ao14, co14, eo14⟩ := Kd.R_slice HO209.out; subst eo14))
       go_loopg [8, 26] k1 (fun kq v8 v26 w' => ∃ (x8_2 : Int) (x26_2 : Int), v8 = .int .i64 x8_2 ∧ v26 = .int .i64 x26_2 ∧ Aside0 (impl_ReadInputs.l1 kq x5_1 (rdOf ByteArray.empty t203 x20_1) x8_2 t203 (t203.length : Int) x20_1 t207 (t207.length : Int) x26_2 = some (r1, r2)) ∧ Aside0 (kq ≤ k1) ∧ Aside0 (Kd.R (Kd.int .i64) 2 w' w.heap.size (fun _ => True) u5 x5_1) ∧ Aside0 (Kd.R Kd.string 9 w' w.heap.size (fun k_ => some k_ ≠ ((.slice Ao14 t207.length co14) : Value).ownBlock) (.slice (some ad206) t203.length co8) t203) ∧ Aside0 (Kd.R Kd.string 9 w' w.heap.size (fun k_ => some k_ ≠ ((.slice (some ad206) t203.length co8) : Value).ownBlock) (.slice Ao14 t207.length co14) t207) ∧ Aside0 (Below w.heap.size w w'))
       case atStart => exact ⟨((-1)), (0), (by first | rfl | (simp; done) | (simp [*]; done)), (by first | rfl | (simp; done) | (simp [*]; done)), H', ⟨Nat.le_refl _⟩, ⟨by (with_reducible repeat (first | apply Kd.R_alloc | apply Kd.R_drewN | apply Kd.R_drew)); exact HO_5.out⟩, ⟨by (with_reducible repeat (first | apply Kd.R_alloc | apply Kd.R_drewN | apply Kd.R_drew)); exact Kd.R_mono HO_18.out (fun _ hk => hk.2)⟩, ⟨by (with_reducible repeat (first | apply Kd.R_alloc | apply Kd.R_drewN | apply Kd.R_drew)); exact Kd.R_mono HO209.out (fun _ hk => hk.2)⟩, ⟨vb HB.out⟩⟩
       case round =>
        clear H'; (try clear c1); (try clear c2); (try clear c2b0); (try clear c2b1); (try clear p2); (try clear q2); (try clear hx2); (try clear c4); (try clear c4b0); (try clear c4b1); (try clear c5); (try clear c9); (try clear c9b0); (try clear c10); (try clear c10b0); (try clear c11); (try clear c11b0); (try clear hx206_0); (try clear p2); (try clear p206); (try clear q206); obtain ⟨x8_2, x26_2, rfl, rfl, HA, HK2, HO_5, HO_18, HO_24, HB⟩ := hrel
        cases gk with
        | zero => exact absurd HA.out (by simp [impl_ReadInputs.l1])
        | succ k2 =>
         have H := HA.out; clear HA; simp only [impl_ReadInputs.l1] at H
         by_cases c15 : x26_2 < (t207.length : Int)
         ·rw [if_pos c15] at H; have c15b0 := decide_eq_true c15; clear c15; by_cases c16 : 0 ≤ x26_2
          ·rw [if_pos c16] at H; have c16b0 := decide_eq_true c16; clear c16; by_cases c17 : x26_2 < (t207.length : Int)
           ·rw [if_pos c17] at H; have c17b0 := decide_eq_true c17; clear c17; by_cases c18 : (rdOf ByteArray.empty t207 x26_2).toList = (rdOf ByteArray.empty t203 x20_1).toList
            ·rw [if_pos c18] at H; have c18b0 : ((rdOf ByteArray.empty t207 x26_2).toList == (rdOf ByteArray.empty t203 x20_1).toList) = true := beq_iff_eq.mpr c18; have c18b1 : ((rdOf ByteArray.empty t207 x26_2).toList != (rdOf ByteArray.empty t203 x20_1).toList) = false := bne_eq_false_iff_eq.mpr c18; clear c18; have H' := ak H; clear H; have p210 : 0 ≤ (x26_2 : Int) := od; have q210 : x26_2 < (t207.length : Int) := od; obtain ⟨ad210, e210, hx210_0⟩ := Kd.at_string (Kd.R_reads' HO_24.out).2.2 x26_2 p210 q210
             cases e210; replace p210 := eq_true p210; replace q210 := eq_true q210; go_wp2
             go_roundg k2
             case measure => have := HK1.out; have := HK2.out; omega
             case rel => exact ⟨(x26_2), (wrap64 (x26_2 + 1)), (by first | rfl | (simp; done) | (simp [*]; done)), (by first | rfl | (simp; done) | (simp [*]; done)), H', ⟨by have := HK1.out; have := HK2.out; omega⟩, ⟨by (with_reducible repeat (first | apply Kd.R_alloc | apply Kd.R_drewN | apply Kd.R_drew)); exact HO_5.out⟩, ⟨by (with_reducible repeat (first | apply Kd.R_alloc | apply Kd.R_drewN | apply Kd.R_drew)); exact HO_18.out⟩, ⟨by (with_reducible repeat (first | apply Kd.R_alloc | apply Kd.R_drewN | apply Kd.R_drew)); exact HO_24.out⟩, ⟨vb HB.out⟩⟩
            ·rw [if_neg c18] at H; have c18b0 : ((rdOf ByteArray.empty t207 x26_2).toList == (rdOf ByteArray.empty t203 x20_1).toList) = false := beq_eq_false_iff_ne.mpr c18; have c18b1 : ((rdOf ByteArray.empty t207 x26_2).toList != (rdOf ByteArray.empty t203 x20_1).toList) = true := bne_iff_ne.mpr c18; have H' := ak H; clear H; have p210 : 0 ≤ (x26_2 : Int) := od; have q210 : x26_2 < (t207.length : Int) := od; obtain ⟨ad210, e210, hx210_0⟩ := Kd.at_string (Kd.R_reads' HO_24.out).2.2 x26_2 p210 q210
             cases e210; replace p210 := eq_true p210; replace q210 := eq_true q210; go_wp2
             go_roundg k2
             case measure => have := HK1.out; have := HK2.out; omega
             case rel => exact ⟨(x8_2), (wrap64 (x26_2 + 1)), (by first | rfl | (simp; done) | (simp [*]; done)), (by first | rfl | (simp; done) | (simp [*]; done)), H', ⟨by have := HK1.out; have := HK2.out; omega⟩, ⟨by (with_reducible repeat (first | apply Kd.R_alloc | apply Kd.R_drewN | apply Kd.R_drew)); exact HO_5.out⟩, ⟨by (with_reducible repeat (first | apply Kd.R_alloc | apply Kd.R_drewN | apply Kd.R_drew)); exact HO_18.out⟩, ⟨by (with_reducible repeat (first | apply Kd.R_alloc | apply Kd.R_drewN | apply Kd.R_drew)); exact HO_24.out⟩, ⟨vb HB.out⟩⟩
           ·rw [if_neg c17] at H; exact absurd H (by simp)
          ·rw [if_neg c16] at H; exact absurd H (by simp)
         ·rw [if_neg c15] at H; have c15b0 := decide_eq_false c15; clear c15; by_cases c19 : x8_2 < 0
          ·rw [if_pos c19] at H; have c19b0 := decide_eq_true c19; clear c19; simp only [Option.some.injEq, Prod.mk.injEq] at H
           obtain ⟨rfl, rfl⟩ := H; go_wp2
           go_ret2
           exact ⟨_, ew, by first | exact Kd.R_nil _ _ _ _ _ | exact Kd.N_nil _ _ _ _ _ | exact Kd.V_nil _ _ _ _ _ | exact Kd.Q_nil _ _ _ _ _ | exact Kd.S_nil _ _ _ _ _, vb HB.out⟩
          ·rw [if_neg c19] at H; have c19b0 := decide_eq_false c19; clear c19; by_cases c20 : x5_1.length < 17592186044416
           ·rw [if_pos c20] at H; have LMc20 := ak c20; clear c20; obtain ⟨y211, hy211⟩ := gen_ ((x5_1 ++ [x8_2] : List Int)); rw [← hy211] at H; have Ny211 := ak hy211; clear hy211; have H' := ak H; clear H; go_wp2_with (first | ((with_reducible refine at_bi (b := .append) (xs := #[.tmp 38, .tmp 40]) rfl ?_); at_builtin; refine Kd.R_append (Kd.int .i64) (w0 := w) w.heap.size rfl (.tmp 38) (.tmp 40) 32 2 (.int .i64 0) 8 rfl Try.underlying32 info2 rfl (by decide) (by omega) u5 x5_1 x8_2 [.int .i64 x8_2] (fun _ => True) (fun _ => False) rfl rfl ?aP (fun _ hk => hk.elim) ?aF ?aO ?aB ?aS ?aL ?_; (case aP => exact rfl); (case aB => exact (vb HB.out)); (case aF => exact (fun _ _ => trivial)); (case aO => exact (vr HO_5.out)); (case aS => exact (below_size (vb HB.out))); (case aL => have := LMc20.out; omega); intro v212 w21 ho hb hg hat; rw [← Ny211.out] at ho; have n0_ := ak (Kd.R_over' (vr HO_18.out) (Kd.R_typed (vr HO_5.out)) (by decide) hg); have n1_ := ak (Kd.R_over' (vr HO_24.out) (Kd.R_typed (vr HO_5.out)) (by decide) hg); have n2_ := ak (hb); have n3_ := ak (ho); clear HO_18; clear HO_24; clear HB; clear HO_5; have HO_18 := n0_; have HO_24 := n1_; have HB := n2_; have HO213 := n3_; clear n0_ n1_ n2_ n3_; clear ho hb hg hat))
            go_roundg k2
            case measure => have := HK1.out; have := HK2.out; omega
            case rel => exact ⟨(y211), (wrap64 (x20_1 + 1)), (by first | rfl | (simp; done) | (simp [*]; done)), H', ⟨by have := HK1.out; have := HK2.out; omega⟩, ⟨by (with_reducible repeat (first | apply Kd.R_alloc | apply Kd.R_drewN | apply Kd.R_drew)); exact HO213.out⟩, ⟨by (with_reducible repeat (first | apply Kd.R_alloc | apply Kd.R_drewN | apply Kd.R_drew)); exact Kd.R_mono HO_18.out (fun _ hk => trivial)⟩, ⟨vb HB.out⟩⟩
           ·rw [if_neg c20] at H; exact absurd H (by simp)
      ·rw [if_neg c11] at H; exact absurd H (by simp)
     ·rw [if_neg c10] at H; exact absurd H (by simp)
    ·rw [if_neg c9] at H; have c9b0 := decide_eq_false c9; clear c9; simp only [Option.some.injEq, Prod.mk.injEq] at H
     obtain ⟨rfl, rfl⟩ := H; go_wp2
     go_ret2
     exact ⟨_, ew, by (with_reducible repeat (first | apply Kd.R_alloc | apply Kd.R_drewN | apply Kd.R_drew)); exact HO_5.out, vb HB.out⟩
 all_goals
  go_enter Try.func22, Try.ntmps22; go_wp2_with (first | ((with_reducible refine at_fn (f := 49) rfl ?_); refine gl (some 14) Try.func49 #[.string a0, .int .u8 32] ?_; (with_reducible refine (impl_splitAt.calls k a0 32 t203 _ A3.out).mono ?_); rintro e w9 ⟨v204, rfl, ho0, hb⟩; refine ⟨_, rfl, ?_⟩; have HO205 := ak (Kd.R_lower ho0 (below_size (vb HB.out))); replace HB := bs HB hb; (try clear hb); (try clear hb2); (try clear hk); (try clear hi); (try clear ho0); obtain ⟨Ao900, co900, eo900⟩ := Kd.R_slice HO205.out; subst eo900))
  go_ret2
  exact ⟨_, ew, by first | exact Kd.R_nil _ _ _ _ _ | exact Kd.N_nil _ _ _ _ _ | exact Kd.V_nil _ _ _ _ _ | exact Kd.Q_nil _ _ _ _ _ | exact Kd.S_nil _ _ _ _ _, vb HB.out⟩


end Go.Proofs.Ytapcjchgcppanaa.Pall
