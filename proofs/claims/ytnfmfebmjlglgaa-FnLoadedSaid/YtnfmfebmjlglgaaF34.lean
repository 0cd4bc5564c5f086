/- Go functions of the program, each as a Lean function, and the proof that each call comes to what the Lean function tells; no condition beyond those that stand there. -/
import Derived.Test.YtnfmfebmjlglgaaF0e
import Derived.Test.YtnfmfebmjlglgaaF04
import Derived.Test.YtnfmfebmjlglgaaF05
import Derived.Test.YtnfmfebmjlglgaaF07
import Derived.Test.YtnfmfebmjlglgaaF11
import Derived.Test.YtnfmfebmjlglgaaF15
import Derived.Test.YtnfmfebmjlglgaaF30
import Derived.Test.YtnfmfebmjlglgaaF32
import Derived.Test.YtnfmfebmjlglgaaSq
import Derived.Test.YtnfmfebmjlglgaaWFoot
import Derived.Test.YtnfmfebmjlglgaaWGuard
import Derived.Test.YtnfmfebmjlglgaaWLast
import Derived.Test.YtnfmfebmjlglgaaWMore
import Derived.Test.YtnfmfebmjlglgaaWTab
import Derived.Test.YtnfmfebmjlglgaaSpare
import Derived.Test.YtnfmfebmjlglgaaCm
import Derived.Test.YtnfmfebmjlglgaaCm3
import Derived.Test.YtnfmfebmjlglgaaCm6
import Derived.Test.YtnfmfebmjlglgaaCm10
import Derived.Test.YtnfmfebmjlglgaaCm9
namespace Go.Proofs.Ytnfmfebmjlglgaa.Pall
open Go.RowKit Go.Proofs.YtnfmfebmjlglgaaW.PrintWords Go.Proofs.YtnfmfebmjlglgaaW.PrintLast Go.Proofs.YtnfmfebmjlglgaaW.PrintMore
attribute [local go_sem] max2_int min2_int max_two min_two max_three min_three max_four min_four
set_option linter.unusedVariables false
set_option linter.unusedSimpArgs false

/-! ### spec_DrawLoadTube: function 43 -/
def spec_DrawLoadTube.j0 : Nat → List (S67) → ByteArray → List Int → Bool → List Int → Int → Int → Int → Int → List Int → List ByteArray → Option ((List (S67)) × Int × Int × List Int × List ByteArray × Int × ByteArray)
 | 0, _, _, _, _, _, _, _, _, _, _, _ => none
 | k + 1, x12, x42, x8, x26, x39, x18, x19, x49, x50, x11, x14 => if x26 = true then ((spec_l01Next.f x39 x18 x19 (x8.length : Int)).bind fun bt24 => (if 0 ≤ bt24.1 then (if bt24.1 < (x8.length : Int) then (some (x12, x49, x50, x11, x14, rd x8 bt24.1, x42)) else (none)) else (none))) else ((spec_l01Next.f x39 x18 x19 (wrap64 ((x11.length : Int) + 1))).bind fun bt36 => ((spec_l01Next.f x39 bt36.2.1 bt36.2.2 24).bind fun bt38 => (some (x12, x49, x50, x11, x14, wrap64 (bt36.1 - (wrap64 (Int.tdiv bt38.1 23))), x42))))
def spec_DrawLoadTube.f (k : Nat) (l0 : List Int) : Option ((List (S67)) × Int × Int × List Int × List ByteArray × Int × ByteArray) := (spec_l01From.f k l0).bind fun bt3 => ((spec_l17Draw.f k bt3.1 bt3.2.1 bt3.2.2).bind fun bt5 => ((spec_l17Name.f k bt3.1 bt5.2.2.2.2.2.1 bt5.2.2.2.2.2.2 bt5.1).bind fun bt21 => ((spec_TubesFor.f k bt5.1 bt5.2.1 bt5.2.2.1 bt5.2.2.2.1 bt5.2.2.2.2.1 bt21.1).bind fun bt13 => (if bt13.2 = 0 then (if (bt13.1.length : Int) > 0 then ((spec_l01Next.f bt3.1 bt21.2.1 bt21.2.2 2).bind fun bt33 => (spec_DrawLoadTube.j0 k bt5.1 bt21.1 bt13.1 (bt33.1 == 0) bt3.1 bt33.2.1 bt33.2.2 bt5.2.1 bt5.2.2.1 bt5.2.2.2.1 bt5.2.2.2.2.1)) else (spec_DrawLoadTube.j0 k bt5.1 bt21.1 bt13.1 false bt3.1 bt21.2.1 bt21.2.2 bt5.2.1 bt5.2.2.1 bt5.2.2.2.1 bt5.2.2.2.2.1)) else (spec_DrawLoadTube.j0 k bt5.1 bt21.1 bt13.1 false bt3.1 bt21.2.1 bt21.2.2 bt5.2.1 bt5.2.2.1 bt5.2.2.2.1 bt5.2.2.2.2.1)))))
def spec_DrawLoadTube.T6 : Bool × List (List Nat × List Nat) := (true, [([], []), ([], []), ([], []), ([], []), ([], []), ([4], [4]), ([3, 5], [3, 5]), ([2, 6], [2, 6]), ([7], [7]), ([], []), ([0, 6, 0], [0]), ([1, 10, 0, 1, 10], [1]), ([8, 11, 0, 1, 2, 3, 4, 5, 6, 7, 8, 10, 11], [8]), ([9, 12, 0, 1, 2, 3, 4, 5, 6, 7, 8, 9, 10, 11, 12], [9])])
def spec_DrawLoadTube.B6 : List Nat := [0, 0, 0, 0, 0, 16, 56, 124, 252, 0, 121, 1147, 3583, 8191]
theorem spec_DrawLoadTube.tab6 : rtab .any (opsOf Try.f43 6) = spec_DrawLoadTube.T6 := by kernel_rfl
theorem spec_DrawLoadTube.bits6 : waitsOk spec_DrawLoadTube.T6.2 spec_DrawLoadTube.B6 = true := by kernel_rfl
def spec_DrawLoadTube.T7 : Bool × List (List Nat × List Nat) := (true, [([], []), ([], []), ([], []), ([], []), ([3], [3]), ([4], [4]), ([5], [5]), ([2, 6], [2, 6]), ([], []), ([8, 7], [8]), ([9], [9]), ([7, 10], [7, 10]), ([], []), ([0, 9, 0], [0]), ([1, 13, 0, 1, 13], [1]), ([11, 14, 0, 1, 2, 3, 4, 5, 6, 7, 8, 9, 10, 11, 13, 14], [11]), ([12, 15, 0, 1, 2, 3, 4, 5, 6, 7, 8, 9, 10, 11, 12, 13, 14, 15], [12])])
def spec_DrawLoadTube.B7 : List Nat := [0, 0, 0, 0, 8, 24, 56, 124, 0, 508, 1020, 2044, 0, 1021, 9215, 28671, 65535]
theorem spec_DrawLoadTube.tab7 : rtab .any (opsOf Try.f43 7) = spec_DrawLoadTube.T7 := by kernel_rfl
theorem spec_DrawLoadTube.bits7 : waitsOk spec_DrawLoadTube.T7.2 spec_DrawLoadTube.B7 = true := by kernel_rfl
set_option maxHeartbeats 8000000 in
set_option maxRecDepth 100000 in
theorem spec_DrawLoadTube.calls (k : Nat) (A0 : Option Addr) (c0 : Nat) (l0 : List Int) (r1 : List (S67)) (r2 : Int) (r3 : Int) (r4 : List Int) (r5 : List ByteArray) (r6 : Int) (r7 : ByteArray) (w : World) (hr0 : Kd.C (Kd.int .u8) w A0 l0.length l0) (hc0 : l0.length ≤ c0) (h : spec_DrawLoadTube.f k l0 = some (r1, r2, r3, r4, r5, r6, r7)) :
  Calls Try.prog 43 #[.slice A0 l0.length c0] w fun e w' => ∃ v0_ v3_ v4_ : Value, e = .returned (.tuple #[v0_, .agg #[.int .i64 r2, .int .i64 r3, v3_, v4_], .int .i64 r6, .string r7]) ∧ Kd.R k67 67 w' w.heap.size (fun _ => True) v0_ r1 ∧ Kd.R (Kd.int .i64) 2 w' w.heap.size (fun _ => True) v3_ r4 ∧ Kd.R Kd.string 9 w' w.heap.size (fun _ => True) v4_ r5 ∧ Below w.heap.size w w' := by
 have hu33 := Try.underlying33; have HR0 := ak hr0; have HC0 := ak hc0; clear hr0 hc0; have HB := ak (Below.refl w.heap.size w); unfold spec_DrawLoadTube.f at h; have H := h; clear h; obtain ⟨⟨t3, t43, t44⟩, A20, H⟩ := bnd H; dsimp only at H
 have A2 := ak A20; clear A20; obtain ⟨⟨t5, t16, t17, t9, t10, t27, t28⟩, A30, H⟩ := bnd H; dsimp only at H; have A3 := ak A30; clear A30; obtain ⟨⟨t21, t29, t30⟩, A40, H⟩ := bnd H; dsimp only at H
 have A4 := ak A40; clear A40; obtain ⟨⟨t13, t46⟩, A50, H⟩ := bnd H; dsimp only at H; have A5 := ak A50; clear A50; have HC6 := ak H; clear H; go_enter Try.func43, Try.ntmps43; go_upto_region 5 with (first | ((with_reducible refine gate_dst (N := 3) rfl ?_); (try (refine gate_guard (by rfl) ?_; dsimp only)); refine bx 3 #[.int .i64 0, .int .i64 0, .slice none 0 0, .slice none 0 0] 33 ?_; intro gb0 hg w7 hbox hb; have BK0 := ak hbox; have GW1360 := gw hg HB; have GE0 := gw hg HB; replace HB := bs HB hb; clear hb hbox hg) | ((with_reducible refine at_fn (f := 88) rfl ?_); refine gl (some 13) Try.func88 #[.slice A0 l0.length c0] ?_; (with_reducible refine (spec_l01From.calls k _ _ l0 t3 t43 t44 w _ ?_ HR0.1 HC0.1 A2.1).mono ?_); exact vq HB.1 GE0.1; rintro e w8 ⟨g1364, rfl, hi, hb, hb2⟩; refine ⟨_, rfl, ?_⟩; replace HB := ak (hb); have HI1 := ak (hi); have NB1_0 := ak (IsS122.ne_blk hi (blk_below (vk BK0.1) hb2) (by decide)); have NB0_1 := ak (Ne.symm (IsS122.ne_blk hi (blk_below (vk BK0.1) hb2) (by decide))); replace BK0 := ak (blk_below (vk BK0.1) hb2); (try clear hb); (try clear hb2); (try clear hi)) | ((with_reducible refine at_fn (f := 89) rfl ?_); refine gl (some 16) Try.func89 #[.pointer (some ⟨g1364, 0, none⟩)] ?_; (with_reducible refine (spec_l17Draw.calls k g1364 t3 t43 t44 t5 t16 t17 t9 t10 t27 t28 w _ ?side1 ?_ A3.1).mono ?_); (case side1 => exact vY122 HI1.1); exact vg122 HB.1 HI1.1 GE0.1; rintro e w9 ⟨v59, v60, v61, rfl, ho25, ho40, ho41, hi, hb, hk⟩; refine ⟨_, rfl, ?_⟩; replace BK0 := kk hk BK0 NB0_1; have HO15 := ak (Kd.R_lower ho25 (below_size (by exact vg122 HB.1 HI1.1 GE0.1))); have HO20 := ak (Kd.R_lower ho40 (below_size (by exact vg122 HB.1 HI1.1 GE0.1))); have HO22 := ak (Kd.R_lower ho41 (below_size (by exact vg122 HB.1 HI1.1 GE0.1))); replace HB := ak (hb); replace HI1 := ak (hi); (try clear hb); (try clear hk); (try clear hi); (try clear ho25); (try clear ho40); (try clear ho41)) | ((with_reducible refine gate_dst (N := 8) rfl ?_); (try (refine gate_guard (by rfl) ?_; dsimp only)); refine bx 8 #[.int .i64 0, .int .i64 0, .slice none 0 0, .slice none 0 0] 33 ?_; intro gb2 hg w10 hbox hb; replace HO15 := rb HO15 hb; replace HO20 := rb HO20 hb; replace HO22 := rb HO22 hb; have BK2 := ak hbox; have GW1378 := ak ((by rw [hg]; exact (below_size (by exact vg122 HB.1 HI1.1 GE0.1)) : w.heap.size ≤ gb2)); have GE2 := ak ((by rw [hg]; exact (below_size (by exact vg122 HB.1 HI1.1 GE0.1)) : w.heap.size ≤ gb2)); replace HB := ak (below_step (by exact vg122 HB.1 HI1.1 GE0.1) hb); have NB0_2 := nl hg BK0; have NB2_0 := nr hg BK0; replace BK0 := kb BK0 hb; have NB1_2 := ak ((by rw [hg]; exact Nat.ne_of_lt (IsS122.lt (show IsS122 w _ g1364 t3 t27 t28 from vY122 HI1.1)) : g1364 ≠ gb2)); have NB2_1 := ak ((by rw [hg]; exact Nat.ne_of_gt (IsS122.lt (show IsS122 w _ g1364 t3 t27 t28 from vY122 HI1.1)) : gb2 ≠ g1364)); replace HI1 := ak (IsS122.below (vY122 HI1.1) hb); clear hb hbox hg; have := NB2_0.1; have := NB0_2.1; have := NB2_1.1; have := NB1_2.1; have hcz57 := cz4 BK2.1; obtain ⟨Ao6, co6, rfl⟩ := Kd.R_slice HO20.1; obtain ⟨Ao7, co7, rfl⟩ := Kd.R_slice HO22.1; obtain ⟨Ao31, co31, rfl⟩ := Kd.R_slice HO15.1) | ((with_reducible refine at_fn (f := 90) rfl ?_); refine gl (some 21) Try.func90 #[.pointer (some ⟨g1364, 0, none⟩), .slice Ao31 t5.length co31] ?_; (with_reducible refine (spec_l17Name.calls k g1364 t3 t27 t28 _ _ t5 t21 t29 t30 w _ ?side1 ?side2 ?_ ?_ A4.1).mono ?_); (case side1 => exact vY122 HI1.1); (case side2 => exact vZ122 HB.1 HI1.1); exact Kd.C_foot_own (IsS122.apart (show IsS122 w _ g1364 t3 t27 t28 from vY122 HI1.1) (rz HO15.1 BK2.1) (by decide)) (fun _ h_ => h_.2); exact rl_ HO15; rintro e w17 ⟨rfl, hi, hb, hk⟩; refine ⟨_, rfl, ?_⟩; replace BK0 := kk hk BK0 NB0_1; replace HO15 := ak (vA122 (show IsS122 w _ g1364 t3 t27 t28 from vY122 HI1.1) (rz HO15.1 BK2.1) hk); replace HO20 := ak (vA122 (show IsS122 w _ g1364 t3 t27 t28 from vY122 HI1.1) (rz HO20.1 BK2.1) hk); replace HO22 := ak (vA122 (show IsS122 w _ g1364 t3 t27 t28 from vY122 HI1.1) (rz HO22.1 BK2.1) hk); replace BK2 := ak (KeepBut.blk hk (g' := gb2) (o := .cells #[.int .i64 t16, .int .i64 t17, .slice Ao6 t9.length co6, .slice Ao7 t10.length co7] 33 (0, 0)) (vz BK2.1) NB2_1.1 (by simp)); replace HB := ak (hb); replace HI1 := ak (hi); (try clear hb); (try clear hk); (try clear hi); have hcz58 := cz4 BK2.1) | ((with_reducible refine at_fn (f := 27) rfl ?_); refine gl (some 26) Try.func27 #[.slice Ao31 t5.length co31, .agg #[.int .i64 t16, .int .i64 t17, .slice Ao6 t9.length co6, .slice Ao7 t10.length co7], .string t21] ?_; (with_reducible refine (spec_TubesFor.calls k _ _ t5 t16 t17 _ _ t9 _ _ t10 t21 t13 t46 _ ?_ ?_ ?_ ?_ ?_ ?_ A5.1).mono ?_); exact rc_ HO15; exact rl_ HO15; exact rc_ HO20; exact rl_ HO20; exact rc_ HO22; exact rl_ HO22; rintro e w19 ⟨v45, rfl, ho25, hb⟩; refine ⟨_, rfl, ?_⟩; replace HO15 := rb HO15 hb; replace HO22 := rb HO22 hb; have HO32 := ak (Kd.R_lower (Kd.R_new' ho25 (Kd.R_lt (vr HO20.1))) (below_size (vZ122 HB.1 HI1.1))); replace HO20 := ro HO20 ho25 hb; replace BK0 := kb BK0 hb; replace BK2 := kb BK2 hb; replace HB := ak (below_step (vZ122 HB.1 HI1.1) hb); replace HI1 := ak (IsS122.below (vY122 HI1.1) hb); (try clear hb)))
 (try simp only [Act.put, List.setIfInBounds_toArray, List.set_cons_zero, List.set_cons_succ])
 go_cut [40] (fun v26 wc => ∃ (kq : Nat) (x26_4 : Bool) (x18_4 : Int) (x19_4 : Int), v26 = .bool x26_4 ∧ Aside0 (spec_DrawLoadTube.j0 kq t5 t21 t13 x26_4 t3 x18_4 x19_4 t16 t17 t9 t10 = some (r1, r2, r3, r4, r5, r6, r7)) ∧ Aside0 (kq ≤ k) ∧ Aside0 (Kd.R k67 67 wc w.heap.size (fun _ => True) (.slice Ao31 t5.length co31) t5) ∧ Aside0 (Kd.R (Kd.int .i64) 2 wc w.heap.size (fun k_ => nB k_ Ao6 t9.length co6) v45 t13) ∧ Aside0 (Kd.R (Kd.int .i64) 2 wc w.heap.size (fun k_ => some k_ ≠ (v45 : Value).ownBlock) (.slice Ao6 t9.length co6) t9) ∧ Aside0 (Kd.R Kd.string 9 wc w.heap.size (fun _ => True) (.slice Ao7 t10.length co7) t10) ∧ Aside0 (wc.heap[gb0]? = some (.cells #[.int .i64 0, .int .i64 0, (.slice none 0 0), (.slice none 0 0)] 33 (0, 0))) ∧ Aside0 (wc.heap[gb2]? = some (.cells #[.int .i64 t16, .int .i64 t17, (.slice Ao6 t9.length co6), (.slice Ao7 t10.length co7)] 33 (0, 0))) ∧ Aside0 (IsS122 w wc g1364 t3 x18_4 x19_4) ∧ Aside0 (Below w.heap.size w wc))
 case first =>
  have H := HC6.1; clear HC6; by_cases c20 : t46 = 0
  ·rw [if_pos c20] at H; obtain ⟨c20b0, c20b1⟩ := bqt c20; clear c20; (first | rw [c20b0] | (simp only [i64_w, i32_w]; rw [c20b0]) | skip)
   by_cases c21 : (t13.length : Int) > 0
   ·rw [if_pos c21] at H; have c21b0 := decide_eq_true c21; have c21b1 : decide (0 < t13.length) = true := decide_eq_true (by omega); clear c21; obtain ⟨⟨t33, t47, t48⟩, A220, H⟩ := bnd H; dsimp only at H; have A22 := ak A220; clear A220; have H' := ak H; clear H; obtain ⟨Ao51, co51, rfl⟩ := Kd.R_slice HO32.1; go_wp2_with (first | (go_at_call 91; (with_reducible refine (spec_l01Next.calls g1364 t3 t29 t30 2 t33 t47 t48 w _ ?side1 ?side2 A22.1).mono ?_); (case side1 => exact vY122 HI1.1); (case side2 => exact vZ122 HB.1 HI1.1); rintro e w24 ⟨rfl, hi, hb, hk⟩; replace BK0 := kk hk BK0 NB0_1; replace HO15 := ak (vA122 (show IsS122 w _ g1364 t3 t29 t30 from vY122 HI1.1) (vr HO15.1) hk); replace HO20 := ak (vA122 (show IsS122 w _ g1364 t3 t29 t30 from vY122 HI1.1) (vr HO20.1) hk); replace HO22 := ak (vA122 (show IsS122 w _ g1364 t3 t29 t30 from vY122 HI1.1) (vr HO22.1) hk); replace BK2 := kk hk BK2 NB2_1; replace HO32 := ak (vA122 (show IsS122 w _ g1364 t3 t29 t30 from vY122 HI1.1) (vr HO32.1) hk); replace HB := ak (hb); replace HI1 := ak (hi); (try clear hb); (try clear hk); (try clear hi)))
    go_meet
    case rel => exact ⟨_, ((t33 == 0)), (t47), (t48), es, H', ⟨by first | omega | exact Nat.le_refl _⟩, ⟨vr HO15.1⟩, vm HO32, vm HO20, ⟨vr HO22.1⟩, ⟨vk BK0.1⟩, ⟨vk BK2.1⟩, ⟨vY122 HI1.1⟩, ⟨vZ122 HB.1 HI1.1⟩⟩
   ·rw [if_neg c21] at H; have c21b0 := decide_eq_false c21; have c21b1 : decide (0 < t13.length) = false := decide_eq_false (by omega); clear c21; have H' := ak H; clear H; obtain ⟨Ao52, co52, rfl⟩ := Kd.R_slice HO32.1; go_wp2
    go_meet
    case rel => exact ⟨_, (false), (t29), (t30), es, H', ⟨by first | omega | exact Nat.le_refl _⟩, ⟨vr HO15.1⟩, vm HO32, vm HO20, ⟨vr HO22.1⟩, ⟨vk BK0.1⟩, ⟨vk BK2.1⟩, ⟨vY122 HI1.1⟩, ⟨vZ122 HB.1 HI1.1⟩⟩
  ·rw [if_neg c20] at H; obtain ⟨c20b0, c20b1⟩ := bqf c20; (first | rw [c20b0] | (simp only [i64_w, i32_w]; rw [c20b0]) | skip)
   have H' := ak H; clear H; go_wp2
   go_meet
   case rel => exact ⟨_, (false), (t29), (t30), es, H', ⟨by first | omega | exact Nat.le_refl _⟩, ⟨vr HO15.1⟩, vm HO32, vm HO20, ⟨vr HO22.1⟩, ⟨vk BK0.1⟩, ⟨vk BK2.1⟩, ⟨vY122 HI1.1⟩, ⟨vZ122 HB.1 HI1.1⟩⟩
 case rest =>
  clear HC6; obtain ⟨kq, x26_4, x18_4, x19_4, rfl, HA, HJ5, HO_12, HO_8, HO_11, HO_14, BK0, BK2, HI1, HB⟩ := hcut
  cases kq with
  | zero => exact absurd HA.1 (by simp [spec_DrawLoadTube.j0])
  | succ kj5 =>
   have H := HA.1; clear HA; simp only [spec_DrawLoadTube.j0] at H
   by_cases c26 : x26_4 = true
   ·subst c26; rw [if_pos rfl] at H; obtain ⟨⟨t24, t53, t54⟩, A270, H⟩ := bnd H; dsimp only at H; have A27 := ak A270; clear A270; by_cases c28 : 0 ≤ t24
    ·rw [if_pos c28] at H; have c28b0 := decide_eq_true c28; clear c28; by_cases c29 : t24 < (t13.length : Int)
     ·rw [if_pos c29] at H; have c29b0 := decide_eq_true c29; clear c29; simp only [Option.some.injEq, Prod.mk.injEq] at H
      obtain ⟨rfl, rfl, rfl, rfl, rfl, rfl, rfl⟩ := H; (try go_wp2)
      replace HO_12 := ak (Kd.R_drew HO_12.1); replace HO_8 := ak (Kd.R_drew HO_8.1); replace HO_11 := ak (Kd.R_drew HO_11.1); replace HO_14 := ak (Kd.R_drew HO_14.1); replace BK0 := ak (blk_drew BK0.1); replace BK2 := ak (blk_drew BK2.1); replace HI1 := ak (IsS122.drew HI1.1); replace HB := ak (below_drew1 HB.1); obtain ⟨Ao37, co37, eo37⟩ := Kd.R_slice HO_8.1; (first | subst eo37 | (injection eo37 with f1_ f2_ f3_; have f4_ := f1_.symm; have f5_ := f3_.symm; clear f1_ f2_ f3_; subst f4_; subst f5_))
      have p23 : 0 ≤ (t24 : Int) := od; have q23 : t24 < (t13.length : Int) := od; obtain ⟨ad23, e23, hx23_25⟩ := Kd.at_int (Kd.R_reads' HO_8.1).2.2 t24 p23 q23
      cases e23; replace p23 := eq_true p23; replace q23 := eq_true q23; refine start_ (n := 14) (S := fun w' => w'.cell? ⟨gb2, 0, none⟩ = some (.int .i64 t16) ∧ w'.cell? ⟨gb2, 1, none⟩ = some (.int .i64 t17) ∧ w'.cell? ⟨gb2, 2, none⟩ = some (.slice Ao6 t9.length co6) ∧ w'.cell? ⟨gb2, 3, none⟩ = some (.slice Ao7 t10.length co7) ∧ w'.cell? (ad23.add (t24).toNat) = some (.int .i64 (rd t13 t24))) (ds := []) (tf 0 14) (by kernel_rfl) rfl rfl ⟨bk BK2.1 0, bk BK2.1 1, bk BK2.1 2, bk BK2.1 3, hx23_25⟩ (fun hHeld => ?_); refine with_tabW spec_DrawLoadTube.tab6 spec_DrawLoadTube.bits6 (fun HT_ HW_ => ?_); generalize wc.drew = w30 at HO_12 HO_8 HO_11 HO_14 BK0 BK2 HI1 HB hx23_25 hHeld ⊢; refine pu_ 0 41 (tf 1 13) rfl rfl ?_; refine pu_ 2 43 (tM [1, 1, 1, 11]) rfl rfl ?_; refine pu_ 3 44 (tM [1, 1, 2, 10]) rfl rfl ?_; refine pu_ 4 45 (tM [1, 1, 3, 9]) rfl rfl ?_; refine pu_ 5 46 (tM [1, 1, 4, 8]) rfl rfl ?_; refine pu_ 9 50 (tM [1, 1, 4, 3, 1, 4]) rfl rfl ?_; refine ta5_ 1 42 (tM [6, 3, 1, 4]) rfl rfl ?_
      refine one_ (i := 6) (N := some 47) (tM [7, 2, 1, 4]) rfl rfl (one_of HT_.1 (by kernel_rfl)) (by decide) (fun K hK => ?_); refine goes_ Try.func91 (by kernel_rfl) rfl #[.pointer (some ⟨g1364, 0, none⟩), .int .i64 (t13.length : Int)] (by rfl) rfl rfl (by (try simp only [List.map_toArray, List.map_cons, List.map_nil]); first | done | rfl | (simp only [List.length_drop, List.length_take]; rfl)) ?_; with_reducible refine (spec_l01Next.calls g1364 t3 x18_4 x19_4 (t13.length : Int) t24 t53 t54 w _ ?side1 ?side2 A27.1).mono ?_
      (case side1 => exact vY122 HI1.1)
      (case side2 => exact vZ122 HB.1 HI1.1)
      rintro e w32 ⟨rfl, hi, hb, hk⟩; have HS4_ := keep_cell hk (hHeld.2.2.2.2) (by first | (rw [add_block]; exact Kd.own_blk (IsS122.own_ne HI1.1 HO_8.1 (by decide))) | (show (Addr.add _ _).block ≠ _; rw [add_block]; exact Kd.own_blk (IsS122.own_ne HI1.1 HO_8.1 (by decide))) | exact Kd.own_blk (IsS122.own_ne HI1.1 HO_8.1 (by decide))); refine ⟨_, rfl, ?_⟩; replace HO_12 := ak (vA122 (show IsS122 w _ g1364 t3 x18_4 x19_4 from vY122 HI1.1) (vr HO_12.1) hk); replace HO_8 := ak (vA122 (show IsS122 w _ g1364 t3 x18_4 x19_4 from vY122 HI1.1) (vr HO_8.1) hk); replace HO_11 := ak (vA122 (show IsS122 w _ g1364 t3 x18_4 x19_4 from vY122 HI1.1) (vr HO_11.1) hk)
      replace HO_14 := ak (vA122 (show IsS122 w _ g1364 t3 x18_4 x19_4 from vY122 HI1.1) (vr HO_14.1) hk); replace BK0 := kk hk BK0 NB0_1; replace BK2 := kk hk BK2 NB2_1; replace HB := ak (hb); replace HI1 := ak (hi); (try clear hb)
      (try clear hb2)
      (try clear hk)
      (try clear hi)
      refine hK.out _ _ ⟨bk BK2.1 0, bk BK2.1 1, bk BK2.1 2, bk BK2.1 3, HS4_⟩ (fun hHeld => ?_); clear hK K; refine norm_ (a' := ?_) ?_ ?_
      rotate_left
      ·show Act.put _ (some 47) _ = _
       simp only [Act.put, List.setIfInBounds_toArray, List.set_cons_zero, List.set_cons_succ, i64_w, i32_w]
       rfl
      refine pu_ 7 48 (tM [8, 1, 1, 4]) rfl rfl ?_; refine pu_ 10 2 (tM [8, 1, 2, 3]) rfl rfl ?_; refine ta5_ 8 49 (tf 11 3) rfl rfl ?_; refine one_ (i := 11) (N := none) (tf 12 2) rfl rfl (one_of HT_.1 (by kernel_rfl)) (by decide) (fun K hK => ?_); have hs33 : w32.cell? ⟨gb0, 0, none⟩ = some (.int .i64 0) := bk BK0.1 0; have hfs33 := blk_frozen BK0.1 0; have hns33_1 := NB2_0.1; have hms33_1 := NB0_2.1; have hs34 : w32.cell? ⟨gb0, 1, none⟩ = some (.int .i64 0) := bk BK0.1 1; have hfs34 := blk_frozen BK0.1 1; have hns34_1 := NB2_0.1; have hms34_1 := NB0_2.1; have hs35 : w32.cell? ⟨gb0, 2, none⟩ = some (.slice none 0 0) := bk BK0.1 2; have hfs35 := blk_frozen BK0.1 2; have hns35_1 := NB2_0.1; have hms35_1 := NB0_2.1; have hs36 : w32.cell? ⟨gb0, 3, none⟩ = some (.slice none 0 0) := bk BK0.1 3; have hfs36 := blk_frozen BK0.1 3; have hns36_1 := NB2_0.1; have hms36_1 := NB0_2.1; refine skip_ (w1 := ?_) (by rfl) rfl ?_ ?_
      rotate_left
      ·go_simp
       rfl
      refine hK.out _ _ ⟨cfa hHeld.1, cfa hHeld.2.1, cfa hHeld.2.2.1, cfa hHeld.2.2.2.1, ((cell_far (p := ⟨gb0, _, none⟩) (bq (ob HO_8 BK0)) _).trans (((cell_far (p := ⟨gb0, _, none⟩) (bq (ob HO_8 BK0)) _).trans (((cell_far (p := ⟨gb0, _, none⟩) (bq (ob HO_8 BK0)) _).trans (((cell_far (p := ⟨gb0, _, none⟩) (bq (ob HO_8 BK0)) _).trans (hHeld.2.2.2.2))))))))⟩ (fun hHeld => ?_)
      clear hK K; refine pu_ 12 4 (tf 13 1) rfl rfl ?_; refine pu_ 13 5 (tf 14 0) rfl rfl ?_; refine done_ (done_of HT_.1 (by kernel_rfl)) ?_; (try go_wp2)
      refine bodyPost_ret (results_list (rs := [.tmp 2, .cell 3 33, .tmp 4, .tmp 5]) rfl (by simp) (.tmp (.cell gb0 33 #[.int .i64 t16, .int .i64 t17, .slice Ao6 t9.length co6, .slice Ao7 t10.length co7] (0, 0) _ rfl (vz BK0.1) Try.underlying33 rfl (by kernel_rfl) (.tmp (.tmp .nil))))) rfl ?_; exact ⟨_, _, _, ew, vr (Kd.R_mono (fr gb0 3 (fr gb0 2 (fr gb0 1 (fr gb0 0 (Kd.R_types HO_12.1 BK0.1 (by decide)) (fun _ hk => hk.2) (.int .i64 t16)) (fun _ hk => hk.2) (.int .i64 t17)) (fun _ hk => hk.2) (.slice Ao6 t9.length co6)) (fun _ hk => hk.2) (.slice Ao7 t10.length co7)) (fun _ hk => trivial)), vr (Kd.R_mono (fr gb0 3 (fr gb0 2 (fr gb0 1 (fr gb0 0 (Kd.R_types HO_11.1 BK0.1 (by decide)) (fun _ hk => hk.2) (.int .i64 t16)) (fun _ hk => hk.2) (.int .i64 t17)) (fun _ hk => hk.2) (.slice Ao6 t9.length co6)) (fun _ hk => hk.2) (.slice Ao7 t10.length co7)) (fun _ hk => trivial)), vr (Kd.R_mono (fr gb0 3 (fr gb0 2 (fr gb0 1 (fr gb0 0 (Kd.R_types HO_14.1 BK0.1 (by decide)) (fun _ hk => hk.2) (.int .i64 t16)) (fun _ hk => hk.2) (.int .i64 t17)) (fun _ hk => hk.2) (.slice Ao6 t9.length co6)) (fun _ hk => hk.2) (.slice Ao7 t10.length co7)) (fun _ hk => trivial)), vZ122 HB.1 HI1.1⟩
     ·exact nO_ c29 H
    ·exact nO_ c28 H
   ·replace c26 := Bool.eq_false_iff.mpr c26; subst c26; rw [if_neg nf] at H; obtain ⟨⟨t36, t34, t35⟩, A370, H⟩ := bnd H; dsimp only at H; have A37 := ak A370; clear A370; obtain ⟨⟨t38, t55, t56⟩, A380, H⟩ := bnd H; dsimp only at H; have A38 := ak A380; clear A380; simp only [Option.some.injEq, Prod.mk.injEq] at H
    obtain ⟨rfl, rfl, rfl, rfl, rfl, rfl, rfl⟩ := H; (try go_wp2)
    replace HO_12 := ak (Kd.R_drew HO_12.1); replace HO_8 := ak (Kd.R_drew HO_8.1); replace HO_11 := ak (Kd.R_drew HO_11.1); replace HO_14 := ak (Kd.R_drew HO_14.1); replace BK0 := ak (blk_drew BK0.1); replace BK2 := ak (blk_drew BK2.1); replace HI1 := ak (IsS122.drew HI1.1); replace HB := ak (below_drew1 HB.1); refine start_ (n := 17) (S := fun w' => w'.cell? ⟨gb2, 0, none⟩ = some (.int .i64 t16) ∧ w'.cell? ⟨gb2, 1, none⟩ = some (.int .i64 t17) ∧ w'.cell? ⟨gb2, 2, none⟩ = some (.slice Ao6 t9.length co6) ∧ w'.cell? ⟨gb2, 3, none⟩ = some (.slice Ao7 t10.length co7)) (ds := []) (tf 0 17) (by kernel_rfl) rfl rfl (cy4 BK2.1) (fun hHeld => ?_); refine with_tabW spec_DrawLoadTube.tab7 spec_DrawLoadTube.bits7 (fun HT_ HW_ => ?_); generalize wc.drew = w39 at HO_12 HO_8 HO_11 HO_14 BK0 BK2 HI1 HB hHeld ⊢; refine pu_ 0 51 (tf 1 16) rfl rfl ?_; refine pu_ 2 53 (tM [1, 1, 1, 14]) rfl rfl ?_; refine pu_ 3 54 (tM [1, 1, 2, 13]) rfl rfl ?_; refine pu_ 8 59 (tM [1, 1, 2, 4, 1, 8]) rfl rfl ?_; refine pu_ 12 63 (tM [1, 1, 2, 4, 1, 3, 1, 4]) rfl rfl ?_
    refine ta4_ 1 52 (tM [4, 4, 1, 3, 1, 4]) rfl rfl ?_; refine ta4_ 4 55 (tM [5, 3, 1, 3, 1, 4]) rfl rfl ?_; refine pu_ 5 56 (tM [6, 2, 1, 3, 1, 4]) rfl rfl ?_; refine pu_ 6 57 (tM [7, 1, 1, 3, 1, 4]) rfl rfl ?_; refine one_ (i := 7) (N := some 58) (tM [9, 3, 1, 4]) rfl rfl (one_of HT_.1 (by kernel_rfl)) (by decide) (fun K hK => ?_); refine goes_ Try.func91 (by kernel_rfl) rfl #[.pointer (some ⟨g1364, 0, none⟩), .int .i64 (wrap64 ((t9.length : Int) + 1))] (by rfl) rfl rfl (by (try simp only [List.map_toArray, List.map_cons, List.map_nil]); first | done | rfl | (simp only [List.length_drop, List.length_take]; rfl)) ?_; with_reducible refine (spec_l01Next.calls g1364 t3 x18_4 x19_4 (wrap64 ((t9.length : Int) + 1)) t36 t34 t35 w _ ?side1 ?side2 A37.1).mono ?_
    (case side1 => exact vY122 HI1.1)
    (case side2 => exact vZ122 HB.1 HI1.1)
    rintro e w40 ⟨rfl, hi, hb, hk⟩; refine ⟨_, rfl, ?_⟩; replace HO_12 := ak (vA122 (show IsS122 w _ g1364 t3 x18_4 x19_4 from vY122 HI1.1) (vr HO_12.1) hk); replace HO_8 := ak (vA122 (show IsS122 w _ g1364 t3 x18_4 x19_4 from vY122 HI1.1) (vr HO_8.1) hk); replace HO_11 := ak (vA122 (show IsS122 w _ g1364 t3 x18_4 x19_4 from vY122 HI1.1) (vr HO_11.1) hk); replace HO_14 := ak (vA122 (show IsS122 w _ g1364 t3 x18_4 x19_4 from vY122 HI1.1) (vr HO_14.1) hk)
    replace BK0 := kk hk BK0 NB0_1; replace BK2 := kk hk BK2 NB2_1; replace HB := ak (hb); replace HI1 := ak (hi); (try clear hb)
    (try clear hb2)
    (try clear hk)
    (try clear hi)
    refine hK.out _ _ (cy4 BK2.1) (fun hHeld => ?_); clear hK K; refine norm_ (a' := ?_) ?_ ?_
    rotate_left
    ·show Act.put _ (some 58) _ = _
     simp only [Act.put, List.setIfInBounds_toArray, List.set_cons_zero, List.set_cons_succ, i64_w, i32_w]
     rfl
    refine one_ (i := 9) (N := some 60) (tM [10, 2, 1, 4]) rfl rfl (one_of HT_.1 (by kernel_rfl)) (by decide) (fun K hK => ?_); refine goes_ Try.func91 (by kernel_rfl) rfl #[.pointer (some ⟨g1364, 0, none⟩), .int .i64 24] (by rfl) rfl rfl (by (try simp only [List.map_toArray, List.map_cons, List.map_nil]); first | done | rfl | (simp only [List.length_drop, List.length_take]; rfl)) ?_; with_reducible refine (spec_l01Next.calls g1364 t3 t34 t35 24 t38 t55 t56 w _ ?side1 ?side2 A38.1).mono ?_
    (case side1 => exact vY122 HI1.1)
    (case side2 => exact vZ122 HB.1 HI1.1)
    rintro e w41 ⟨rfl, hi, hb, hk⟩; refine ⟨_, rfl, ?_⟩; replace HO_12 := ak (vA122 (show IsS122 w _ g1364 t3 t34 t35 from vY122 HI1.1) (vr HO_12.1) hk); replace HO_8 := ak (vA122 (show IsS122 w _ g1364 t3 t34 t35 from vY122 HI1.1) (vr HO_8.1) hk); replace HO_11 := ak (vA122 (show IsS122 w _ g1364 t3 t34 t35 from vY122 HI1.1) (vr HO_11.1) hk); replace HO_14 := ak (vA122 (show IsS122 w _ g1364 t3 t34 t35 from vY122 HI1.1) (vr HO_14.1) hk)
    replace BK0 := kk hk BK0 NB0_1; replace BK2 := kk hk BK2 NB2_1; replace HB := ak (hb); replace HI1 := ak (hi); (try clear hb)
    (try clear hb2)
    (try clear hk)
    (try clear hi)
    refine hK.out _ _ (cy4 BK2.1) (fun hHeld => ?_); clear hK K; refine norm_ (a' := ?_) ?_ ?_
    rotate_left
    ·show Act.put _ (some 60) _ = _
     simp only [Act.put, List.setIfInBounds_toArray, List.set_cons_zero, List.set_cons_succ, i64_w, i32_w]
     rfl
    refine pu_ 10 61 (tM [11, 1, 1, 4]) rfl rfl ?_; refine pu_ 11 62 (tf 13 4) rfl rfl ?_; refine pu_ 13 2 (tf 14 3) rfl rfl ?_; refine one_ (i := 14) (N := none) (tf 15 2) rfl rfl (one_of HT_.1 (by kernel_rfl)) (by decide) (fun K hK => ?_); have hs42 : w41.cell? ⟨gb0, 0, none⟩ = some (.int .i64 0) := bk BK0.1 0; have hfs42 := blk_frozen BK0.1 0; have hns42_1 := NB2_0.1; have hms42_1 := NB0_2.1; have hs43 : w41.cell? ⟨gb0, 1, none⟩ = some (.int .i64 0) := bk BK0.1 1; have hfs43 := blk_frozen BK0.1 1; have hns43_1 := NB2_0.1; have hms43_1 := NB0_2.1; have hs44 : w41.cell? ⟨gb0, 2, none⟩ = some (.slice none 0 0) := bk BK0.1 2; have hfs44 := blk_frozen BK0.1 2; have hns44_1 := NB2_0.1; have hms44_1 := NB0_2.1; have hs45 : w41.cell? ⟨gb0, 3, none⟩ = some (.slice none 0 0) := bk BK0.1 3; have hfs45 := blk_frozen BK0.1 3; have hns45_1 := NB2_0.1; have hms45_1 := NB0_2.1; refine skip_ (w1 := ?_) (by rfl) rfl ?_ ?_
    rotate_left
    ·go_simp
     rfl
    refine hK.out _ _ ⟨cfa hHeld.1, cfa hHeld.2.1, cfa hHeld.2.2.1, cfa hHeld.2.2.2⟩ (fun hHeld => ?_); clear hK K; refine pu_ 15 4 (tf 16 1) rfl rfl ?_; refine pu_ 16 5 (tf 17 0) rfl rfl ?_; refine done_ (done_of HT_.1 (by kernel_rfl)) ?_; (try go_wp2)
    refine bodyPost_ret (results_list (rs := [.tmp 2, .cell 3 33, .tmp 4, .tmp 5]) rfl (by simp) (.tmp (.cell gb0 33 #[.int .i64 t16, .int .i64 t17, .slice Ao6 t9.length co6, .slice Ao7 t10.length co7] (0, 0) _ rfl (vz BK0.1) Try.underlying33 rfl (by kernel_rfl) (.tmp (.tmp .nil))))) rfl ?_; exact ⟨_, _, _, ew, vr (Kd.R_mono (fr gb0 3 (fr gb0 2 (fr gb0 1 (fr gb0 0 (Kd.R_types HO_12.1 BK0.1 (by decide)) (fun _ hk => hk.2) (.int .i64 t16)) (fun _ hk => hk.2) (.int .i64 t17)) (fun _ hk => hk.2) (.slice Ao6 t9.length co6)) (fun _ hk => hk.2) (.slice Ao7 t10.length co7)) (fun _ hk => trivial)), vr (Kd.R_mono (fr gb0 3 (fr gb0 2 (fr gb0 1 (fr gb0 0 (Kd.R_types HO_11.1 BK0.1 (by decide)) (fun _ hk => hk.2) (.int .i64 t16)) (fun _ hk => hk.2) (.int .i64 t17)) (fun _ hk => hk.2) (.slice Ao6 t9.length co6)) (fun _ hk => hk.2) (.slice Ao7 t10.length co7)) (fun _ hk => trivial)), vr (Kd.R_mono (fr gb0 3 (fr gb0 2 (fr gb0 1 (fr gb0 0 (Kd.R_types HO_14.1 BK0.1 (by decide)) (fun _ hk => hk.2) (.int .i64 t16)) (fun _ hk => hk.2) (.int .i64 t17)) (fun _ hk => hk.2) (.slice Ao6 t9.length co6)) (fun _ hk => hk.2) (.slice Ao7 t10.length co7)) (fun _ hk => trivial)), vZ122 HB.1 HI1.1⟩


/-! ### spec_DrawUnloadTube: function 44 -/
def spec_DrawUnloadTube.f (k : Nat) (l0 : List Int) : Option ((List (S67)) × Int × Int × List Int × List ByteArray × Int) := (spec_l01From.f k l0).bind fun bt9 => ((spec_l17Draw.f k bt9.1 bt9.2.1 bt9.2.2).bind fun bt13 => ((spec_l01Next.f bt9.1 bt13.2.2.2.2.2.1 bt13.2.2.2.2.2.2 (wrap64 ((bt13.2.2.2.1.length : Int) + 1))).bind fun bt16 => ((spec_l01Next.f bt9.1 bt16.2.1 bt16.2.2 24).bind fun bt19 => (some (bt13.1, bt13.2.1, bt13.2.2.1, bt13.2.2.2.1, bt13.2.2.2.2.1, wrap64 (bt16.1 - (wrap64 (Int.tdiv bt19.1 23))))))))
def spec_DrawUnloadTube.T3 : Bool × List (List Nat × List Nat) := (true, [([], []), ([], []), ([], []), ([], []), ([3], [3]), ([4], [4]), ([5], [5]), ([2, 6], [2, 6]), ([], []), ([8, 7], [8]), ([9], [9]), ([7, 10], [7, 10]), ([0, 9, 0], [0]), ([1, 12, 0, 1, 12], [1]), ([11, 13, 0, 1, 2, 3, 4, 5, 6, 7, 8, 9, 10, 11, 12, 13], [11])])
def spec_DrawUnloadTube.B3 : List Nat := [0, 0, 0, 0, 8, 24, 56, 124, 0, 508, 1020, 2044, 1021, 5119, 16383]
theorem spec_DrawUnloadTube.tab3 : rtab .any (opsOf Try.f44 3) = spec_DrawUnloadTube.T3 := by kernel_rfl
theorem spec_DrawUnloadTube.bits3 : waitsOk spec_DrawUnloadTube.T3.2 spec_DrawUnloadTube.B3 = true := by kernel_rfl
set_option maxHeartbeats 8000000 in
set_option maxRecDepth 100000 in
theorem spec_DrawUnloadTube.calls (k : Nat) (A0 : Option Addr) (c0 : Nat) (l0 : List Int) (r1 : List (S67)) (r2 : Int) (r3 : Int) (r4 : List Int) (r5 : List ByteArray) (r6 : Int) (w : World) (hr0 : Kd.C (Kd.int .u8) w A0 l0.length l0) (hc0 : l0.length ≤ c0) (h : spec_DrawUnloadTube.f k l0 = some (r1, r2, r3, r4, r5, r6)) :
  Calls Try.prog 44 #[.slice A0 l0.length c0] w fun e w' => ∃ v0_ v3_ v4_ : Value, e = .returned (.tuple #[v0_, .agg #[.int .i64 r2, .int .i64 r3, v3_, v4_], .int .i64 r6]) ∧ Kd.R k67 67 w' w.heap.size (fun _ => True) v0_ r1 ∧ Kd.R (Kd.int .i64) 2 w' w.heap.size (fun _ => True) v3_ r4 ∧ Kd.R Kd.string 9 w' w.heap.size (fun _ => True) v4_ r5 ∧ Below w.heap.size w w' := by
 have hu33 := Try.underlying33; have HR0 := ak hr0; have HC0 := ak hc0; clear hr0 hc0; have HB := ak (Below.refl w.heap.size w); unfold spec_DrawUnloadTube.f at h; have H := h; clear h; obtain ⟨⟨t9, t23, t24⟩, A20, H⟩ := bnd H; dsimp only at H; have A2 := ak A20; clear A20; obtain ⟨⟨t13, t6, t7, t5, t8, t14, t15⟩, A30, H⟩ := bnd H; dsimp only at H
 have A3 := ak A30; clear A30; obtain ⟨⟨t16, t17, t18⟩, A40, H⟩ := bnd H; dsimp only at H; have A4 := ak A40; clear A40; obtain ⟨⟨t19, t26, t27⟩, A50, H⟩ := bnd H; dsimp only at H; have A5 := ak A50; clear A50; simp only [Option.some.injEq, Prod.mk.injEq] at H
 obtain ⟨rfl, rfl, rfl, rfl, rfl, rfl⟩ := H; go_enter Try.func44, Try.ntmps44; (try go_wp2_with (first | ((with_reducible refine gate_dst (N := 3) rfl ?_); refine bx 3 #[.int .i64 0, .int .i64 0, .slice none 0 0, .slice none 0 0] 33 ?_; intro gb1 hg w6 hbox hb; have BK1 := ak hbox; have GW1399 := gw hg HB; have GE1 := gw hg HB; replace HB := bs HB hb; clear hb hbox hg) | ((with_reducible refine at_fn (f := 88) rfl ?_); refine gl (some 9) Try.func88 #[.slice A0 l0.length c0] ?_; (with_reducible refine (spec_l01From.calls k _ _ l0 t9 t23 t24 w _ ?_ HR0.1 HC0.1 A2.1).mono ?_); exact vq HB.1 GE1.1; rintro e w7 ⟨g1403, rfl, hi, hb, hb2⟩; refine ⟨_, rfl, ?_⟩; replace HB := ak (hb); have HI2 := ak (hi); have NB2_1 := ak (IsS122.ne_blk hi (blk_below (vk BK1.1) hb2) (by decide)); have NB1_2 := ak (Ne.symm (IsS122.ne_blk hi (blk_below (vk BK1.1) hb2) (by decide))); replace BK1 := ak (blk_below (vk BK1.1) hb2); (try clear hb); (try clear hb2); (try clear hi)) | ((with_reducible refine at_fn (f := 89) rfl ?_); refine gl (some 12) Try.func89 #[.pointer (some ⟨g1403, 0, none⟩)] ?_; (with_reducible refine (spec_l17Draw.calls k g1403 t9 t23 t24 t13 t6 t7 t5 t8 t14 t15 w _ ?side1 ?_ A3.1).mono ?_); (case side1 => exact vY122 HI2.1); exact vg122 HB.1 HI2.1 GE1.1; rintro e w8 ⟨v25, v29, v30, rfl, ho20, ho21, ho22, hi, hb, hk⟩; refine ⟨_, rfl, ?_⟩; replace BK1 := kk hk BK1 NB1_2; have HO12 := ak (Kd.R_lower ho20 (below_size (by exact vg122 HB.1 HI2.1 GE1.1))); have HO10 := ak (Kd.R_lower ho21 (below_size (by exact vg122 HB.1 HI2.1 GE1.1))); have HO11 := ak (Kd.R_lower ho22 (below_size (by exact vg122 HB.1 HI2.1 GE1.1))); replace HB := ak (hb); replace HI2 := ak (hi); (try clear hb); (try clear hk); (try clear hi); (try clear ho20); (try clear ho21); (try clear ho22)) | ((with_reducible refine gate_dst (N := 7) rfl ?_); refine bx 7 #[.int .i64 0, .int .i64 0, .slice none 0 0, .slice none 0 0] 33 ?_; intro gb0 hg w9 hbox hb; replace HO12 := rb HO12 hb; replace HO10 := rb HO10 hb; replace HO11 := rb HO11 hb; have BK0 := ak hbox; have GW1417 := ak ((by rw [hg]; exact (below_size (by exact vg122 HB.1 HI2.1 GE1.1)) : w.heap.size ≤ gb0)); have GE0 := ak ((by rw [hg]; exact (below_size (by exact vg122 HB.1 HI2.1 GE1.1)) : w.heap.size ≤ gb0)); replace HB := ak (below_step (by exact vg122 HB.1 HI2.1 GE1.1) hb); have NB1_0 := nl hg BK1; have NB0_1 := nr hg BK1; replace BK1 := kb BK1 hb; have NB2_0 := ak ((by rw [hg]; exact Nat.ne_of_lt (IsS122.lt (show IsS122 w _ g1403 t9 t14 t15 from vY122 HI2.1)) : g1403 ≠ gb0)); have NB0_2 := ak ((by rw [hg]; exact Nat.ne_of_gt (IsS122.lt (show IsS122 w _ g1403 t9 t14 t15 from vY122 HI2.1)) : gb0 ≠ g1403)); replace HI2 := ak (IsS122.below (vY122 HI2.1) hb); clear hb hbox hg; have := NB0_1.1; have := NB1_0.1; have := NB0_2.1; have := NB2_0.1; have hcz28 := cz4 BK0.1; obtain ⟨Ao3, co3, rfl⟩ := Kd.R_slice HO10.1; obtain ⟨Ao4, co4, rfl⟩ := Kd.R_slice HO11.1)))
 have n0_ : Aside0 (Kd.R k67 67 ((((w9.setCell ⟨gb0, 0, none⟩ (.int .i64 t6)).setCell ⟨gb0, 1, none⟩ (.int .i64 t7)).setCell ⟨gb0, 2, none⟩ (.slice Ao3 t5.length co3)).setCell ⟨gb0, 3, none⟩ (.slice Ao4 t8.length co4)) w.heap.size (fun _ => True) v25 t13) := ⟨vr (Kd.R_mono (fr gb0 3 (fr gb0 2 (fr gb0 1 (fr gb0 0 (Kd.R_types HO12.1 BK0.1 (by decide)) (fun _ hk => hk.2) (.int .i64 t6)) (fun _ hk => hk.2) (.int .i64 t7)) (fun _ hk => hk.2) (.slice Ao3 t5.length co3)) (fun _ hk => hk.2) (.slice Ao4 t8.length co4)) (fun _ hk => trivial))⟩; have n1_ : Aside0 (Kd.R (Kd.int .i64) 2 ((((w9.setCell ⟨gb0, 0, none⟩ (.int .i64 t6)).setCell ⟨gb0, 1, none⟩ (.int .i64 t7)).setCell ⟨gb0, 2, none⟩ (.slice Ao3 t5.length co3)).setCell ⟨gb0, 3, none⟩ (.slice Ao4 t8.length co4)) w.heap.size (fun _ => True) (.slice Ao3 t5.length co3) t5) := ⟨vr (Kd.R_mono (fr gb0 3 (fr gb0 2 (fr gb0 1 (fr gb0 0 (Kd.R_types HO10.1 BK0.1 (by decide)) (fun _ hk => hk.2) (.int .i64 t6)) (fun _ hk => hk.2) (.int .i64 t7)) (fun _ hk => hk.2) (.slice Ao3 t5.length co3)) (fun _ hk => hk.2) (.slice Ao4 t8.length co4)) (fun _ hk => trivial))⟩
 have n2_ : Aside0 (Kd.R Kd.string 9 ((((w9.setCell ⟨gb0, 0, none⟩ (.int .i64 t6)).setCell ⟨gb0, 1, none⟩ (.int .i64 t7)).setCell ⟨gb0, 2, none⟩ (.slice Ao3 t5.length co3)).setCell ⟨gb0, 3, none⟩ (.slice Ao4 t8.length co4)) w.heap.size (fun _ => True) (.slice Ao4 t8.length co4) t8) := ⟨vr (Kd.R_mono (fr gb0 3 (fr gb0 2 (fr gb0 1 (fr gb0 0 (Kd.R_types HO11.1 BK0.1 (by decide)) (fun _ hk => hk.2) (.int .i64 t6)) (fun _ hk => hk.2) (.int .i64 t7)) (fun _ hk => hk.2) (.slice Ao3 t5.length co3)) (fun _ hk => hk.2) (.slice Ao4 t8.length co4)) (fun _ hk => trivial))⟩; have n3_ : Aside0 (((((w9.setCell ⟨gb0, 0, none⟩ (.int .i64 t6)).setCell ⟨gb0, 1, none⟩ (.int .i64 t7)).setCell ⟨gb0, 2, none⟩ (.slice Ao3 t5.length co3)).setCell ⟨gb0, 3, none⟩ (.slice Ao4 t8.length co4)).heap[gb1]? = some (.cells #[.int .i64 0, .int .i64 0, .slice none 0 0, .slice none 0 0] 33 (0, 0))) := ⟨by (with_reducible repeat (first | refine blk_drewN ?_ _ | refine blk_drew ?_ | refine blk_alloc ?_ _)); refine blk_far ?_ NB1_0.1 _; (with_reducible repeat (first | refine blk_drewN ?_ _ | refine blk_drew ?_ | refine blk_alloc ?_ _)); refine blk_far ?_ NB1_0.1 _; (with_reducible repeat (first | refine blk_drewN ?_ _ | refine blk_drew ?_ | refine blk_alloc ?_ _)); refine blk_far ?_ NB1_0.1 _; (with_reducible repeat (first | refine blk_drewN ?_ _ | refine blk_drew ?_ | refine blk_alloc ?_ _)); refine blk_far ?_ NB1_0.1 _; exact vk BK1.1⟩
 have n4_ : Aside0 (((((w9.setCell ⟨gb0, 0, none⟩ (.int .i64 t6)).setCell ⟨gb0, 1, none⟩ (.int .i64 t7)).setCell ⟨gb0, 2, none⟩ (.slice Ao3 t5.length co3)).setCell ⟨gb0, 3, none⟩ (.slice Ao4 t8.length co4)).heap[gb0]? = some (.cells #[.int .i64 t6, .int .i64 t7, .slice Ao3 t5.length co3, .slice Ao4 t8.length co4] 33 (0, 0))) := ⟨by (with_reducible repeat (first | refine blk_drewN ?_ _ | refine blk_drew ?_ | refine blk_alloc ?_ _)); refine blk_put (cs := #[.int .i64 t6, .int .i64 t7, .slice Ao3 t5.length co3, .slice none 0 0]) ?_ 3 _ rfl; (with_reducible repeat (first | refine blk_drewN ?_ _ | refine blk_drew ?_ | refine blk_alloc ?_ _)); refine blk_put (cs := #[.int .i64 t6, .int .i64 t7, .slice none 0 0, .slice none 0 0]) ?_ 2 _ rfl; (with_reducible repeat (first | refine blk_drewN ?_ _ | refine blk_drew ?_ | refine blk_alloc ?_ _)); refine blk_put (cs := #[.int .i64 t6, .int .i64 0, .slice none 0 0, .slice none 0 0]) ?_ 1 _ rfl; (with_reducible repeat (first | refine blk_drewN ?_ _ | refine blk_drew ?_ | refine blk_alloc ?_ _)); refine blk_put (cs := #[.int .i64 0, .int .i64 0, .slice none 0 0, .slice none 0 0]) ?_ 0 _ rfl; exact vk BK0.1⟩; have n5_ : Aside0 (IsS122 w ((((w9.setCell ⟨gb0, 0, none⟩ (.int .i64 t6)).setCell ⟨gb0, 1, none⟩ (.int .i64 t7)).setCell ⟨gb0, 2, none⟩ (.slice Ao3 t5.length co3)).setCell ⟨gb0, 3, none⟩ (.slice Ao4 t8.length co4)) g1403 t9 t14 t15) := ⟨vY122 HI2.1⟩
 have n6_ : Aside0 (Below w.heap.size w ((((w9.setCell ⟨gb0, 0, none⟩ (.int .i64 t6)).setCell ⟨gb0, 1, none⟩ (.int .i64 t7)).setCell ⟨gb0, 2, none⟩ (.slice Ao3 t5.length co3)).setCell ⟨gb0, 3, none⟩ (.slice Ao4 t8.length co4))) := ⟨vZ122 HB.1 HI2.1⟩
 (try clear HO10)
 (try clear HO11)
 (try clear BK1)
 (try clear BK0)
 (try clear HI2)
 (try clear HB)
 generalize ((((w9.setCell ⟨gb0, 0, none⟩ (.int .i64 t6)).setCell ⟨gb0, 1, none⟩ (.int .i64 t7)).setCell ⟨gb0, 2, none⟩ (.slice Ao3 t5.length co3)).setCell ⟨gb0, 3, none⟩ (.slice Ao4 t8.length co4)) = w15 at n0_ n1_ n2_ n3_ n4_ n5_ n6_ ⊢; have HO12 := n0_; have HO10 := n1_; have HO11 := n2_; have BK1 := n3_; have BK0 := n4_; have HI2 := n5_; have HB := n6_; clear n0_ n1_ n2_ n3_ n4_ n5_ n6_; replace HO12 := ak (Kd.R_drew HO12.1); replace HO10 := ak (Kd.R_drew HO10.1); replace HO11 := ak (Kd.R_drew HO11.1); replace BK1 := ak (blk_drew BK1.1); replace BK0 := ak (blk_drew BK0.1); replace HI2 := ak (IsS122.drew HI2.1); replace HB := ak (below_drew1 HB.1); refine start_ (n := 15) (S := fun w' => w'.cell? ⟨gb0, 0, none⟩ = some (.int .i64 t6) ∧ w'.cell? ⟨gb0, 1, none⟩ = some (.int .i64 t7) ∧ w'.cell? ⟨gb0, 2, none⟩ = some (.slice Ao3 t5.length co3) ∧ w'.cell? ⟨gb0, 3, none⟩ = some (.slice Ao4 t8.length co4)) (ds := []) (tf 0 15) (by kernel_rfl) rfl rfl (cy4 BK0.1) (fun hHeld => ?_); refine with_tabW spec_DrawUnloadTube.tab3 spec_DrawUnloadTube.bits3 (fun HT_ HW_ => ?_); generalize w15.drew = w16 at HO12 HO10 HO11 BK1 BK0 HI2 HB hHeld ⊢; refine pu_ 0 15 (tf 1 14) rfl rfl ?_; refine pu_ 2 17 (tM [1, 1, 1, 12]) rfl rfl ?_
 refine pu_ 3 18 (tM [1, 1, 2, 11]) rfl rfl ?_; refine pu_ 8 23 (tM [1, 1, 2, 4, 1, 6]) rfl rfl ?_; refine ta4_ 1 16 (tM [4, 4, 1, 6]) rfl rfl ?_; refine ta4_ 4 19 (tM [5, 3, 1, 6]) rfl rfl ?_; refine pu_ 5 20 (tM [6, 2, 1, 6]) rfl rfl ?_; refine pu_ 6 21 (tM [7, 1, 1, 6]) rfl rfl ?_; refine one_ (i := 7) (N := some 22) (tf 9 6) rfl rfl (one_of HT_.1 (by kernel_rfl)) (by decide) (fun K hK => ?_); refine goes_ Try.func91 (by kernel_rfl) rfl #[.pointer (some ⟨g1403, 0, none⟩), .int .i64 (wrap64 ((t5.length : Int) + 1))] (by rfl) rfl rfl (by (try simp only [List.map_toArray, List.map_cons, List.map_nil]); first | done | rfl | (simp only [List.length_drop, List.length_take]; rfl)) ?_; with_reducible refine (spec_l01Next.calls g1403 t9 t14 t15 (wrap64 ((t5.length : Int) + 1)) t16 t17 t18 w _ ?side1 ?side2 A4.1).mono ?_
 (case side1 => exact vY122 HI2.1)
 (case side2 => exact vZ122 HB.1 HI2.1)
 rintro e w17 ⟨rfl, hi, hb, hk⟩; refine ⟨_, rfl, ?_⟩; replace BK1 := kk hk BK1 NB1_2; replace HO12 := ak (vA122 (show IsS122 w _ g1403 t9 t14 t15 from vY122 HI2.1) (vr HO12.1) hk); replace HO10 := ak (vA122 (show IsS122 w _ g1403 t9 t14 t15 from vY122 HI2.1) (vr HO10.1) hk); replace HO11 := ak (vA122 (show IsS122 w _ g1403 t9 t14 t15 from vY122 HI2.1) (vr HO11.1) hk)
 replace BK0 := kk hk BK0 NB0_2; replace HB := ak (hb); replace HI2 := ak (hi); (try clear hb)
 (try clear hb2)
 (try clear hk)
 (try clear hi)
 refine hK.out _ _ (cy4 BK0.1) (fun hHeld => ?_); clear hK K; refine norm_ (a' := ?_) ?_ ?_
 rotate_left
 ·show Act.put _ (some 22) _ = _
  simp only [Act.put, List.setIfInBounds_toArray, List.set_cons_zero, List.set_cons_succ, i64_w, i32_w]
  rfl
 refine one_ (i := 9) (N := some 24) (tf 10 5) rfl rfl (one_of HT_.1 (by kernel_rfl)) (by decide) (fun K hK => ?_); refine goes_ Try.func91 (by kernel_rfl) rfl #[.pointer (some ⟨g1403, 0, none⟩), .int .i64 24] (by rfl) rfl rfl (by (try simp only [List.map_toArray, List.map_cons, List.map_nil]); first | done | rfl | (simp only [List.length_drop, List.length_take]; rfl)) ?_; with_reducible refine (spec_l01Next.calls g1403 t9 t17 t18 24 t19 t26 t27 w _ ?side1 ?side2 A5.1).mono ?_
 (case side1 => exact vY122 HI2.1)
 (case side2 => exact vZ122 HB.1 HI2.1)
 rintro e w18 ⟨rfl, hi, hb, hk⟩; refine ⟨_, rfl, ?_⟩; replace BK1 := kk hk BK1 NB1_2; replace HO12 := ak (vA122 (show IsS122 w _ g1403 t9 t17 t18 from vY122 HI2.1) (vr HO12.1) hk); replace HO10 := ak (vA122 (show IsS122 w _ g1403 t9 t17 t18 from vY122 HI2.1) (vr HO10.1) hk); replace HO11 := ak (vA122 (show IsS122 w _ g1403 t9 t17 t18 from vY122 HI2.1) (vr HO11.1) hk)
 replace BK0 := kk hk BK0 NB0_2; replace HB := ak (hb); replace HI2 := ak (hi); (try clear hb)
 (try clear hb2)
 (try clear hk)
 (try clear hi)
 refine hK.out _ _ (cy4 BK0.1) (fun hHeld => ?_); clear hK K; refine norm_ (a' := ?_) ?_ ?_
 rotate_left
 ·show Act.put _ (some 24) _ = _
  simp only [Act.put, List.setIfInBounds_toArray, List.set_cons_zero, List.set_cons_succ, i64_w, i32_w]
  rfl
 refine pu_ 10 25 (tf 11 4) rfl rfl ?_; refine pu_ 11 26 (tf 12 3) rfl rfl ?_; refine pu_ 12 2 (tf 13 2) rfl rfl ?_; refine one_ (i := 13) (N := none) (tf 14 1) rfl rfl (one_of HT_.1 (by kernel_rfl)) (by decide) (fun K hK => ?_); have hs19 : w18.cell? ⟨gb1, 0, none⟩ = some (.int .i64 0) := bk BK1.1 0; have hfs19 := blk_frozen BK1.1 0; have hns19_1 := NB0_1.1; have hms19_1 := NB1_0.1; have hs20 : w18.cell? ⟨gb1, 1, none⟩ = some (.int .i64 0) := bk BK1.1 1; have hfs20 := blk_frozen BK1.1 1; have hns20_1 := NB0_1.1; have hms20_1 := NB1_0.1; have hs21 : w18.cell? ⟨gb1, 2, none⟩ = some (.slice none 0 0) := bk BK1.1 2; have hfs21 := blk_frozen BK1.1 2; have hns21_1 := NB0_1.1; have hms21_1 := NB1_0.1; have hs22 : w18.cell? ⟨gb1, 3, none⟩ = some (.slice none 0 0) := bk BK1.1 3; have hfs22 := blk_frozen BK1.1 3; have hns22_1 := NB0_1.1; have hms22_1 := NB1_0.1; refine skip_ (w1 := ?_) (by rfl) rfl ?_ ?_
 rotate_left
 ·go_simp
  rfl
 refine hK.out _ _ ⟨cfa hHeld.1, cfa hHeld.2.1, cfa hHeld.2.2.1, cfa hHeld.2.2.2⟩ (fun hHeld => ?_); clear hK K; refine pu_ 14 4 (tf 15 0) rfl rfl ?_; refine done_ (done_of HT_.1 (by kernel_rfl)) ?_; (try go_wp2)
 refine bodyPost_ret (results_list (rs := [.tmp 2, .cell 3 33, .tmp 4]) rfl (by simp) (.tmp (.cell gb1 33 #[.int .i64 t6, .int .i64 t7, .slice Ao3 t5.length co3, .slice Ao4 t8.length co4] (0, 0) _ rfl (vz BK1.1) Try.underlying33 rfl (by kernel_rfl) (.tmp .nil)))) rfl ?_; exact ⟨_, _, _, ew, vr (Kd.R_mono (fr gb1 3 (fr gb1 2 (fr gb1 1 (fr gb1 0 (Kd.R_types HO12.1 BK1.1 (by decide)) (fun _ hk => hk.2) (.int .i64 t6)) (fun _ hk => hk.2) (.int .i64 t7)) (fun _ hk => hk.2) (.slice Ao3 t5.length co3)) (fun _ hk => hk.2) (.slice Ao4 t8.length co4)) (fun _ hk => trivial)), vr (Kd.R_mono (fr gb1 3 (fr gb1 2 (fr gb1 1 (fr gb1 0 (Kd.R_types HO10.1 BK1.1 (by decide)) (fun _ hk => hk.2) (.int .i64 t6)) (fun _ hk => hk.2) (.int .i64 t7)) (fun _ hk => hk.2) (.slice Ao3 t5.length co3)) (fun _ hk => hk.2) (.slice Ao4 t8.length co4)) (fun _ hk => trivial)), vr (Kd.R_mono (fr gb1 3 (fr gb1 2 (fr gb1 1 (fr gb1 0 (Kd.R_types HO11.1 BK1.1 (by decide)) (fun _ hk => hk.2) (.int .i64 t6)) (fun _ hk => hk.2) (.int .i64 t7)) (fun _ hk => hk.2) (.slice Ao3 t5.length co3)) (fun _ hk => hk.2) (.slice Ao4 t8.length co4)) (fun _ hk => trivial)), vZ122 HB.1 HI2.1⟩


/-! ### impl_RackNet: function 45 -/
def impl_RackNet.l0 : Nat → Int → List (S67) → Int → Int → Option (Int × Int)
 | 0, _, _, _, _ => none
 | k + 1, x6, x7, x11, x1 => if x1 < x11 then (if 0 ≤ x1 then (if x1 < (x7.length : Int) then (impl_RackNet.l0 k (wrap64 (x6 + ((rd_T67 x7 x1).f7))) x7 x11 (wrap64 (x1 + 1))) else (none)) else (none)) else (some (x6, 0))
def impl_RackNet.f (k : Nat) (l0 : List (S67)) (a1_0 : Int) (a1_1 : Int) (l1_2 : List Int) (l1_3 : List ByteArray) : Option (Int × Int) := (impl_IsRack.f k l0 a1_0 a1_1 l1_2 l1_3).bind fun t10 => (if t10 = true then ((impl_loaded.f k l0 a1_0 a1_1 l1_2 l1_3).bind fun t4 => (impl_RackNet.l0 k 0 t4 (t4.length : Int) 0)) else (some (0, 1)))
set_option maxHeartbeats 8000000 in
set_option maxRecDepth 100000 in
theorem impl_RackNet.calls (k : Nat) (A0 : Option Addr) (c0 : Nat) (l0 : List (S67)) (a1_0 : Int) (a1_1 : Int) (A1_2 : Option Addr) (c1_2 : Nat) (l1_2 : List Int) (A1_3 : Option Addr) (c1_3 : Nat) (l1_3 : List ByteArray) (r1 : Int) (r2 : Int) (w : World) (hr0 : Kd.C k67 w A0 l0.length l0) (hc0 : l0.length ≤ c0) (hr1_2 : Kd.C (Kd.int .i64) w A1_2 l1_2.length l1_2) (hc1_2 : l1_2.length ≤ c1_2) (hr1_3 : Kd.C Kd.string w A1_3 l1_3.length l1_3) (hc1_3 : l1_3.length ≤ c1_3) (h : impl_RackNet.f k l0 a1_0 a1_1 l1_2 l1_3 = some (r1, r2)) :
  Calls Try.prog 45 #[.slice A0 l0.length c0, .agg #[.int .i64 a1_0, .int .i64 a1_1, .slice A1_2 l1_2.length c1_2, .slice A1_3 l1_3.length c1_3]] w fun e w' => e = .returned (.tuple #[.int .i64 r1, .int .i64 r2]) ∧ Below w.heap.size w w' := by
 have hu33 := Try.underlying33; have hu67 := Try.underlying67; have HR0 := ak hr0; have HC0 := ak hc0; clear hr0 hc0; have HR1_2 := ak hr1_2; have HC1_2 := ak hc1_2; clear hr1_2 hc1_2; have HR1_3 := ak hr1_3; have HC1_3 := ak hc1_3; clear hr1_3 hc1_3; have HB := ak (Below.refl w.heap.size w); unfold impl_RackNet.f at h; have H := h; clear h; obtain ⟨t10, A3, H⟩ := bnk H; by_cases c4 : t10 = true
 ·subst c4; rw [if_pos rfl] at H; obtain ⟨t4, A5, H⟩ := bnk H; have H' := ak H; clear H; go_enter Try.func45, Try.ntmps45; go_wp2_with (first | ((with_reducible refine gate_dst (N := 3) rfl ?_); refine bx 3 #[.int .i64 a1_0, .int .i64 a1_1, .slice A1_2 l1_2.length c1_2, .slice A1_3 l1_3.length c1_3] 33 ?_; intro gb0 hg w6 hbox hb; have BK0 := ak hbox; have GW1424 := gw hg HB; have GE0 := gw hg HB; replace HB := bs HB hb; clear hb hbox hg; have hcz13 := cz4 BK0.1) | ((with_reducible refine at_fn (f := 41) rfl ?_); refine gl (some 11) Try.func41 #[.slice A0 l0.length c0, .agg #[.int .i64 a1_0, .int .i64 a1_1, .slice A1_2 l1_2.length c1_2, .slice A1_3 l1_3.length c1_3]] ?_; (with_reducible refine (impl_IsRack.calls k _ _ l0 a1_0 a1_1 _ _ l1_2 _ _ l1_3 _ _ ?_ HC0.1 ?_ HC1_2.1 ?_ HC1_3.1 A3.1).mono ?_); exact vd HR0.1 HB.1; exact vd HR1_2.1 HB.1; exact vd HR1_3.1 HB.1; rintro e w8 ⟨rfl, hb⟩; refine ⟨_, rfl, ?_⟩; replace BK0 := kb BK0 hb; replace HB := bs HB hb; (try clear hb); have hcz19 := cz4 BK0.1) | ((with_reducible refine at_fn (f := 71) rfl ?_); refine gl (some 15) Try.func71 #[.slice A0 l0.length c0, .agg #[.int .i64 a1_0, .int .i64 a1_1, .slice A1_2 l1_2.length c1_2, .slice A1_3 l1_3.length c1_3]] ?_; (with_reducible refine (impl_loaded.calls k _ _ l0 a1_0 a1_1 _ _ l1_2 _ _ l1_3 t4 _ ?_ HC0.1 ?_ HC1_2.1 ?_ HC1_3.1 A5.1).mono ?_); exact vd HR0.1 HB.1; exact vd HR1_2.1 HB.1; exact vd HR1_3.1 HB.1; rintro e w10 ⟨v21, rfl, ho8, hb⟩; refine ⟨_, rfl, ?_⟩; have HO12 := ak (Kd.R_lower ho8 (below_size (vb HB.1))); replace BK0 := kb BK0 hb; replace HB := bs HB hb; (try clear hb); (try clear ho8); obtain ⟨Ao9, co9, rfl⟩ := Kd.R_slice HO12.1))
  go_loopg [6, 17] k (fun kq v6 v1 w' => ∃ (x6_3 : Int) (x1_3 : Int), v6 = .int .i64 x6_3 ∧ v1 = .int .i64 x1_3 ∧ Aside0 (impl_RackNet.l0 kq x6_3 t4 (t4.length : Int) x1_3 = some (r1, r2)) ∧ Aside0 (kq ≤ k) ∧ Aside0 (Kd.R k67 67 w' w.heap.size (fun _ => True) (.slice Ao9 t4.length co9) t4) ∧ Aside0 (w'.heap[gb0]? = some (.cells #[.int .i64 a1_0, .int .i64 a1_1, (.slice A1_2 l1_2.length c1_2), (.slice A1_3 l1_3.length c1_3)] 33 (0, 0))) ∧ Aside0 (Below w.heap.size w w'))
  case atStart => exact ⟨(0), (0), es, es, H', ⟨Nat.le_refl _⟩, ⟨vr HO12.1⟩, ⟨vk BK0.1⟩, ⟨vb HB.1⟩⟩
  case round =>
   clear H'; obtain ⟨x6_3, x1_3, rfl, rfl, HA, HK1, HO_7, BK0, HB⟩ := hrel
   cases gk with
   | zero => exact absurd HA.1 (by simp [impl_RackNet.l0])
   | succ k1 =>
    have H := HA.1; clear HA; simp only [impl_RackNet.l0] at H
    by_cases c12 : x1_3 < (t4.length : Int)
    ·rw [if_pos c12] at H; have c12b0 := decide_eq_true c12; clear c12; by_cases c13 : 0 ≤ x1_3
     ·rw [if_pos c13] at H; have c13b0 := decide_eq_true c13; clear c13; by_cases c14 : x1_3 < (t4.length : Int)
      ·rw [if_pos c14] at H; have c14b0 := decide_eq_true c14; clear c14; have H' := ak H; clear H; have p5 : 0 ≤ (x1_3 : Int) := od; have q5 : x1_3 < (t4.length : Int) := od; obtain ⟨ad5, e5, hx5_8, hx5_3, hx5_14, hx5_15, hx5_16, hx5_17, hx5_6, hx5_13, hx5_18⟩ := at_T67 (Kd.R_reads' HO_7.1).2.2 x1_3 p5 q5
       cases e5; replace p5 := eq_true p5; replace q5 := eq_true q5; go_wp2_with (first | ((with_reducible refine gate_dst (N := 8) rfl ?_); refine bx 8 #[.string (⟨#[]⟩ : ByteArray), .int .i64 0, .int .i64 0, .int .i64 0, .int .i64 0, .int .i64 0, .int .i64 0, .int .i64 0, .int .i64 0] 67 ?_; intro gb2 hg w15 hbox hb; replace HO_7 := ak (Kd.R_below (Kd.R_elderB (vr HO_7.1) gb2 (Nat.le_of_eq hg.symm)) hb); have BK2 := ak hbox; have GW1430 := gw hg HB; have GE2 := gw hg HB; replace HB := bs HB hb; have NB0_2 := nl hg BK0; have NB2_0 := nr hg BK0; replace BK0 := kb BK0 hb; clear hb hbox hg; have := NB2_0.1; have := NB0_2.1; have hcz1 := cz9 BK2.1))
       go_roundg k1
       case measure => have := HK1.1; omega
       case rel => exact ⟨(wrap64 (x6_3 + ((rd_T67 t4 x1_3).f7))), (wrap64 (x1_3 + 1)), es, es, H', ⟨by have := HK1.1; omega⟩, ⟨vr (Kd.R_mono (fr gb2 8 (fr gb2 7 (fr gb2 6 (fr gb2 5 (fr gb2 4 (fr gb2 3 (fr gb2 2 (fr gb2 1 (fr gb2 0 (Kd.R_mono HO_7.1 (fun k_ hk => (⟨hk, hk.2⟩ : _ ∧ k_ ≠ gb2))) (fun _ hk => hk.2) (.string ((rd_T67 t4 x1_3).f0))) (fun _ hk => hk.2) (.int .i64 ((rd_T67 t4 x1_3).f1))) (fun _ hk => hk.2) (.int .i64 ((rd_T67 t4 x1_3).f2))) (fun _ hk => hk.2) (.int .i64 ((rd_T67 t4 x1_3).f3))) (fun _ hk => hk.2) (.int .i64 ((rd_T67 t4 x1_3).f4))) (fun _ hk => hk.2) (.int .i64 ((rd_T67 t4 x1_3).f5))) (fun _ hk => hk.2) (.int .i64 ((rd_T67 t4 x1_3).f6))) (fun _ hk => hk.2) (.int .i64 ((rd_T67 t4 x1_3).f7))) (fun _ hk => hk.2) (.int .i64 ((rd_T67 t4 x1_3).f8))) (fun _ hk => trivial))⟩, ⟨by (with_reducible repeat (first | refine blk_drewN ?_ _ | refine blk_drew ?_ | refine blk_alloc ?_ _)); refine blk_far ?_ NB0_2.1 _; (with_reducible repeat (first | refine blk_drewN ?_ _ | refine blk_drew ?_ | refine blk_alloc ?_ _)); refine blk_far ?_ NB0_2.1 _; (with_reducible repeat (first | refine blk_drewN ?_ _ | refine blk_drew ?_ | refine blk_alloc ?_ _)); refine blk_far ?_ NB0_2.1 _; (with_reducible repeat (first | refine blk_drewN ?_ _ | refine blk_drew ?_ | refine blk_alloc ?_ _)); refine blk_far ?_ NB0_2.1 _; (with_reducible repeat (first | refine blk_drewN ?_ _ | refine blk_drew ?_ | refine blk_alloc ?_ _)); refine blk_far ?_ NB0_2.1 _; (with_reducible repeat (first | refine blk_drewN ?_ _ | refine blk_drew ?_ | refine blk_alloc ?_ _)); refine blk_far ?_ NB0_2.1 _; (with_reducible repeat (first | refine blk_drewN ?_ _ | refine blk_drew ?_ | refine blk_alloc ?_ _)); refine blk_far ?_ NB0_2.1 _; (with_reducible repeat (first | refine blk_drewN ?_ _ | refine blk_drew ?_ | refine blk_alloc ?_ _)); refine blk_far ?_ NB0_2.1 _; (with_reducible repeat (first | refine blk_drewN ?_ _ | refine blk_drew ?_ | refine blk_alloc ?_ _)); refine blk_far ?_ NB0_2.1 _; exact vk BK0.1⟩, ⟨vb HB.1⟩⟩
      ·exact nO_ c14 H
     ·exact nO_ c13 H
    ·rw [if_neg c12] at H; have c12b0 := decide_eq_false c12; clear c12; simp only [Option.some.injEq, Prod.mk.injEq] at H
     obtain ⟨rfl, rfl⟩ := H; go_wp2
     go_ret2
     exact ⟨ew, vb HB.1⟩
 ·replace c4 := Bool.eq_false_iff.mpr c4; subst c4; rw [if_neg nf] at H; simp only [Option.some.injEq, Prod.mk.injEq] at H
  obtain ⟨rfl, rfl⟩ := H; go_enter Try.func45, Try.ntmps45; go_wp2_with (first | ((with_reducible refine gate_dst (N := 3) rfl ?_); refine bx 3 #[.int .i64 a1_0, .int .i64 a1_1, .slice A1_2 l1_2.length c1_2, .slice A1_3 l1_3.length c1_3] 33 ?_; intro gb0 hg w18 hbox hb; have BK0 := ak hbox; have GW1424 := gw hg HB; have GE0 := gw hg HB; replace HB := bs HB hb; clear hb hbox hg; have hcz20 := cz4 BK0.1) | ((with_reducible refine at_fn (f := 41) rfl ?_); refine gl (some 11) Try.func41 #[.slice A0 l0.length c0, .agg #[.int .i64 a1_0, .int .i64 a1_1, .slice A1_2 l1_2.length c1_2, .slice A1_3 l1_3.length c1_3]] ?_; (with_reducible refine (impl_IsRack.calls k _ _ l0 a1_0 a1_1 _ _ l1_2 _ _ l1_3 _ _ ?_ HC0.1 ?_ HC1_2.1 ?_ HC1_3.1 A3.1).mono ?_); exact vd HR0.1 HB.1; exact vd HR1_2.1 HB.1; exact vd HR1_3.1 HB.1; rintro e w20 ⟨rfl, hb⟩; refine ⟨_, rfl, ?_⟩; replace BK0 := kb BK0 hb; replace HB := bs HB hb; (try clear hb)))
  go_ret2
  exact ⟨ew, vb HB.1⟩


/-! ### spec_RackNet: function 46 -/
def spec_RackNet.l0 : Nat → List (S67) → Int → Int → Int → Int → List Int → List ByteArray → Option (Int × Int)
 | 0, _, _, _, _, _, _, _ => none
 | k + 1, x5, x7, x0, x11, x12, x13, x10 => if x0 < (x10.length : Int) then (if 0 ≤ x0 then (if (rdOf ByteArray.empty x10 x0).toList = ([] : List UInt8) then (spec_RackNet.l0 k x5 x7 (wrap64 (x0 + 1)) x11 x12 x13 x10) else ((spec_l03Find.f k x5 (rdOf ByteArray.empty x10 x0)).bind fun t8 => (if 0 ≤ t8 then (if t8 < (x5.length : Int) then (spec_RackNet.l0 k x5 (wrap64 (x7 + ((rd_T67 x5 t8).f7))) (wrap64 (x0 + 1)) x11 x12 x13 x10) else (none)) else (none)))) else (none)) else (some (x7, 0))
def spec_RackNet.f (k : Nat) (l0 : List (S67)) (a1_0 : Int) (a1_1 : Int) (l1_2 : List Int) (l1_3 : List ByteArray) : Option (Int × Int) := (spec_l17Code.f k l0 a1_0 a1_1 l1_2 l1_3 0).bind fun t9 => (if t9 = 0 then (spec_RackNet.l0 k l0 0 0 a1_0 a1_1 l1_2 l1_3) else (some (0, t9)))
set_option maxHeartbeats 8000000 in
set_option maxRecDepth 100000 in
theorem spec_RackNet.calls (k : Nat) (A0 : Option Addr) (c0 : Nat) (l0 : List (S67)) (a1_0 : Int) (a1_1 : Int) (A1_2 : Option Addr) (c1_2 : Nat) (l1_2 : List Int) (A1_3 : Option Addr) (c1_3 : Nat) (l1_3 : List ByteArray) (r1 : Int) (r2 : Int) (w : World) (hr0 : Kd.C k67 w A0 l0.length l0) (hc0 : l0.length ≤ c0) (hr1_2 : Kd.C (Kd.int .i64) w A1_2 l1_2.length l1_2) (hc1_2 : l1_2.length ≤ c1_2) (hr1_3 : Kd.C Kd.string w A1_3 l1_3.length l1_3) (hc1_3 : l1_3.length ≤ c1_3) (h : spec_RackNet.f k l0 a1_0 a1_1 l1_2 l1_3 = some (r1, r2)) :
  Calls Try.prog 46 #[.slice A0 l0.length c0, .agg #[.int .i64 a1_0, .int .i64 a1_1, .slice A1_2 l1_2.length c1_2, .slice A1_3 l1_3.length c1_3]] w fun e w' => e = .returned (.tuple #[.int .i64 r1, .int .i64 r2]) ∧ Below w.heap.size w w' := by
 have hu33 := Try.underlying33; have HR0 := ak hr0; have HC0 := ak hc0; clear hr0 hc0; have HR1_2 := ak hr1_2; have HC1_2 := ak hc1_2; clear hr1_2 hc1_2; have HR1_3 := ak hr1_3; have HC1_3 := ak hc1_3; clear hr1_3 hc1_3; have HB := ak (Below.refl w.heap.size w); unfold spec_RackNet.f at h; have H := h; clear h; obtain ⟨t9, A3, H⟩ := bnk H; by_cases c4 : t9 = 0
 ·rw [if_pos c4] at H; obtain ⟨c4b0, c4b1⟩ := bqt c4; clear c4; have H' := ak H; clear H; go_enter Try.func46, Try.ntmps46; go_wp2_with (first | ((with_reducible refine gate_dst (N := 3) rfl ?_); refine bx 3 #[.int .i64 a1_0, .int .i64 a1_1, .slice A1_2 l1_2.length c1_2, .slice A1_3 l1_3.length c1_3] 33 ?_; intro gb3 hg w5 hbox hb; have BK3 := ak hbox; have GW1431 := gw hg HB; have GE3 := gw hg HB; replace HB := bs HB hb; clear hb hbox hg; have hcz14 := cz4 BK3.1) | ((with_reducible refine at_fn (f := 59) rfl ?_); refine gl (some 11) Try.func59 #[.slice A0 l0.length c0, .agg #[.int .i64 a1_0, .int .i64 a1_1, .slice A1_2 l1_2.length c1_2, .slice A1_3 l1_3.length c1_3], .int .i64 0] ?_; (with_reducible refine (spec_l17Code.calls k _ _ l0 a1_0 a1_1 _ _ l1_2 _ _ l1_3 0 t9 _ ?_ HC0.1 ?_ HC1_2.1 ?_ HC1_3.1 A3.1).mono ?_); exact vd HR0.1 HB.1; exact vd HR1_2.1 HB.1; exact vd HR1_3.1 HB.1; rintro e w7 ⟨rfl, hb⟩; refine ⟨_, rfl, ?_⟩; replace BK3 := kb BK3 hb; replace HB := bs HB hb; (try clear hb)))
  go_loopg [7, 8] k (fun kq v7 v0 w' => ∃ (x7_1 : Int) (x0_1 : Int), v7 = .int .i64 x7_1 ∧ v0 = .int .i64 x0_1 ∧ Aside0 (spec_RackNet.l0 kq l0 x7_1 x0_1 a1_0 a1_1 l1_2 l1_3 = some (r1, r2)) ∧ Aside0 (kq ≤ k) ∧ Aside0 (w'.heap[gb3]? = some (.cells #[.int .i64 a1_0, .int .i64 a1_1, (.slice A1_2 l1_2.length c1_2), (.slice A1_3 l1_3.length c1_3)] 33 (0, 0))) ∧ Aside0 (Below w.heap.size w w'))
  case atStart => exact ⟨(0), (0), es, es, H', ⟨Nat.le_refl _⟩, ⟨vk BK3.1⟩, ⟨vb HB.1⟩⟩
  case round =>
   clear H'; obtain ⟨x7_1, x0_1, rfl, rfl, HA, HK1, BK3, HB⟩ := hrel
   cases gk with
   | zero => exact absurd HA.1 (by simp [spec_RackNet.l0])
   | succ k1 =>
    have H := HA.1; clear HA; simp only [spec_RackNet.l0] at H
    by_cases c8 : x0_1 < (l1_3.length : Int)
    ·rw [if_pos c8] at H; have c8b0 := decide_eq_true c8; clear c8; by_cases c9 : 0 ≤ x0_1
     ·rw [if_pos c9] at H; have c9b0 := decide_eq_true c9; clear c9; by_cases c10 : (rdOf ByteArray.empty l1_3 x0_1).toList = ([] : List UInt8)
      ·rw [if_pos c10] at H; have c10b0 : ((rdOf ByteArray.empty l1_3 x0_1).toList == ([] : List UInt8)) = true := beq_iff_eq.mpr c10; have c10b1 : ((rdOf ByteArray.empty l1_3 x0_1).toList != ([] : List UInt8)) = false := bne_eq_false_iff_eq.mpr c10; clear c10; have H' := ak H; clear H; have hcz19 := cz4 BK3.1; have p2 : 0 ≤ (x0_1 : Int) := od; have q2 : x0_1 < (l1_3.length : Int) := od; obtain ⟨ad2, e2, hx2_5⟩ := Kd.at_string HR1_3.1 x0_1 p2 q2
       cases e2; replace hx2_5 := cb HB.1 hx2_5; replace p2 := eq_true p2; replace q2 := eq_true q2; go_wp2
       go_roundg k1
       case measure => have := HK1.1; omega
       case rel => exact ⟨(x7_1), (wrap64 (x0_1 + 1)), es, es, H', ⟨by have := HK1.1; omega⟩, ⟨vk BK3.1⟩, ⟨vb HB.1⟩⟩
      ·rw [if_neg c10] at H; have c10b0 : ((rdOf ByteArray.empty l1_3 x0_1).toList == ([] : List UInt8)) = false := beq_eq_false_iff_ne.mpr c10; have c10b1 : ((rdOf ByteArray.empty l1_3 x0_1).toList != ([] : List UInt8)) = true := bne_iff_ne.mpr c10; obtain ⟨t8, A12, H⟩ := bnk H; by_cases c13 : 0 ≤ t8
       ·rw [if_pos c13] at H; have c13b0 := decide_eq_true c13; clear c13; by_cases c14 : t8 < (l0.length : Int)
        ·rw [if_pos c14] at H; have c14b0 := decide_eq_true c14; clear c14; have H' := ak H; clear H; have hcz20 := cz4 BK3.1; have p2 : 0 ≤ (x0_1 : Int) := od; have q2 : x0_1 < (l1_3.length : Int) := od; obtain ⟨ad2, e2, hx2_5⟩ := Kd.at_string HR1_3.1 x0_1 p2 q2
         cases e2; replace hx2_5 := cb HB.1 hx2_5; replace p2 := eq_true p2; replace q2 := eq_true q2; have p6 : 0 ≤ (x0_1 : Int) := od; have q6 : x0_1 < (l1_3.length : Int) := od; obtain ⟨ad6, e6, hx6_5⟩ := Kd.at_string HR1_3.1 x0_1 p6 q6; obtain rfl : ad2 = ad6 := (by injection e6); replace hx6_5 := cb HB.1 hx6_5; replace p6 := eq_true p6; replace q6 := eq_true q6; go_wp2_with (first | ((with_reducible refine at_fn (f := 70) rfl ?_); refine gl (some 36) Try.func70 #[.slice A0 l0.length c0, .string (rdOf ByteArray.empty l1_3 x0_1)] ?_; (with_reducible refine (spec_l03Find.calls k1 _ _ l0 (rdOf ByteArray.empty l1_3 x0_1) t8 _ ?_ HC0.1 A12.1).mono ?_); exact vd HR0.1 HB.1; rintro e w' ⟨rfl, ⟨nd, rfl⟩⟩; refine ⟨_, rfl, ?_⟩; have p4 : 0 ≤ (t8 : Int) := od; have q4 : t8 < (l0.length : Int) := od; obtain ⟨ad4, e4, hx4_5, hx4_1, hx4_15, hx4_16, hx4_17, hx4_18, hx4_14, hx4_7, hx4_0⟩ := at_T67b HR0.1 HB.1 t8 p4 q4; cases e4; replace p4 := eq_true p4; replace q4 := eq_true q4))
         go_roundg k1
         case measure => have := HK1.1; omega
         case rel => exact ⟨(wrap64 (x7_1 + ((rd_T67 l0 t8).f7))), (wrap64 (x0_1 + 1)), es, es, H', ⟨by have := HK1.1; omega⟩, ⟨vk BK3.1⟩, ⟨vb HB.1⟩⟩
        ·exact nO_ c14 H
       ·exact nO_ c13 H
     ·exact nO_ c9 H
    ·rw [if_neg c8] at H; have c8b0 := decide_eq_false c8; clear c8; simp only [Option.some.injEq, Prod.mk.injEq] at H
     obtain ⟨rfl, rfl⟩ := H; have hcz21 := cz4 BK3.1; go_wp2
     go_ret2
     exact ⟨ew, vb HB.1⟩
 ·rw [if_neg c4] at H; obtain ⟨c4b0, c4b1⟩ := bqf c4; simp only [Option.some.injEq, Prod.mk.injEq] at H
  obtain ⟨rfl, rfl⟩ := H; go_enter Try.func46, Try.ntmps46; go_wp2_with (first | ((with_reducible refine gate_dst (N := 3) rfl ?_); refine bx 3 #[.int .i64 a1_0, .int .i64 a1_1, .slice A1_2 l1_2.length c1_2, .slice A1_3 l1_3.length c1_3] 33 ?_; intro gb3 hg w17 hbox hb; have BK3 := ak hbox; have GW1431 := gw hg HB; have GE3 := gw hg HB; replace HB := bs HB hb; clear hb hbox hg; have hcz22 := cz4 BK3.1) | ((with_reducible refine at_fn (f := 59) rfl ?_); refine gl (some 11) Try.func59 #[.slice A0 l0.length c0, .agg #[.int .i64 a1_0, .int .i64 a1_1, .slice A1_2 l1_2.length c1_2, .slice A1_3 l1_3.length c1_3], .int .i64 0] ?_; (with_reducible refine (spec_l17Code.calls k _ _ l0 a1_0 a1_1 _ _ l1_2 _ _ l1_3 0 t9 _ ?_ HC0.1 ?_ HC1_2.1 ?_ HC1_3.1 A3.1).mono ?_); exact vd HR0.1 HB.1; exact vd HR1_2.1 HB.1; exact vd HR1_3.1 HB.1; rintro e w19 ⟨rfl, hb⟩; refine ⟨_, rfl, ?_⟩; replace BK3 := kb BK3 hb; replace HB := bs HB hb; (try clear hb)))
  go_ret2
  exact ⟨ew, vb HB.1⟩


/-! ### impl_GreatestLoad: function 47 -/
def impl_GreatestLoad.l0 : Nat → Int → List (S67) → Int → Int → Option (Int × Int)
 | 0, _, _, _, _ => none
 | k + 1, x6, x7, x11, x2 => if x2 < x11 then (if 0 ≤ x2 then (if x2 < (x7.length : Int) then (impl_GreatestLoad.l0 k (mx x6 ((rd_T67 x7 x2).f2)) x7 x11 (wrap64 (x2 + 1))) else (none)) else (none)) else (some (x6, 0))
def impl_GreatestLoad.f (k : Nat) (l0 : List (S67)) (a1_0 : Int) (a1_1 : Int) (l1_2 : List Int) (l1_3 : List ByteArray) : Option (Int × Int) := (impl_IsRack.f k l0 a1_0 a1_1 l1_2 l1_3).bind fun t10 => (if t10 = true then ((impl_loaded.f k l0 a1_0 a1_1 l1_2 l1_3).bind fun t4 => (impl_GreatestLoad.l0 k 0 t4 (t4.length : Int) 0)) else (some (0, 1)))
set_option maxHeartbeats 8000000 in
set_option maxRecDepth 100000 in
theorem impl_GreatestLoad.calls (k : Nat) (A0 : Option Addr) (c0 : Nat) (l0 : List (S67)) (a1_0 : Int) (a1_1 : Int) (A1_2 : Option Addr) (c1_2 : Nat) (l1_2 : List Int) (A1_3 : Option Addr) (c1_3 : Nat) (l1_3 : List ByteArray) (r1 : Int) (r2 : Int) (w : World) (hr0 : Kd.C k67 w A0 l0.length l0) (hc0 : l0.length ≤ c0) (hr1_2 : Kd.C (Kd.int .i64) w A1_2 l1_2.length l1_2) (hc1_2 : l1_2.length ≤ c1_2) (hr1_3 : Kd.C Kd.string w A1_3 l1_3.length l1_3) (hc1_3 : l1_3.length ≤ c1_3) (h : impl_GreatestLoad.f k l0 a1_0 a1_1 l1_2 l1_3 = some (r1, r2)) :
  Calls Try.prog 47 #[.slice A0 l0.length c0, .agg #[.int .i64 a1_0, .int .i64 a1_1, .slice A1_2 l1_2.length c1_2, .slice A1_3 l1_3.length c1_3]] w fun e w' => e = .returned (.tuple #[.int .i64 r1, .int .i64 r2]) ∧ Below w.heap.size w w' := by
 have hu33 := Try.underlying33; have hu67 := Try.underlying67; have HR0 := ak hr0; have HC0 := ak hc0; clear hr0 hc0; have HR1_2 := ak hr1_2; have HC1_2 := ak hc1_2; clear hr1_2 hc1_2; have HR1_3 := ak hr1_3; have HC1_3 := ak hc1_3; clear hr1_3 hc1_3; have HB := ak (Below.refl w.heap.size w); unfold impl_GreatestLoad.f at h; have H := h; clear h; obtain ⟨t10, A3, H⟩ := bnk H; by_cases c4 : t10 = true
 ·subst c4; rw [if_pos rfl] at H; obtain ⟨t4, A5, H⟩ := bnk H; have H' := ak H; clear H; go_enter Try.func47, Try.ntmps47; go_wp2_with (first | ((with_reducible refine gate_dst (N := 3) rfl ?_); refine bx 3 #[.int .i64 a1_0, .int .i64 a1_1, .slice A1_2 l1_2.length c1_2, .slice A1_3 l1_3.length c1_3] 33 ?_; intro gb0 hg w6 hbox hb; have BK0 := ak hbox; have GW1437 := gw hg HB; have GE0 := gw hg HB; replace HB := bs HB hb; clear hb hbox hg; have hcz13 := cz4 BK0.1) | ((with_reducible refine at_fn (f := 41) rfl ?_); refine gl (some 11) Try.func41 #[.slice A0 l0.length c0, .agg #[.int .i64 a1_0, .int .i64 a1_1, .slice A1_2 l1_2.length c1_2, .slice A1_3 l1_3.length c1_3]] ?_; (with_reducible refine (impl_IsRack.calls k _ _ l0 a1_0 a1_1 _ _ l1_2 _ _ l1_3 _ _ ?_ HC0.1 ?_ HC1_2.1 ?_ HC1_3.1 A3.1).mono ?_); exact vd HR0.1 HB.1; exact vd HR1_2.1 HB.1; exact vd HR1_3.1 HB.1; rintro e w8 ⟨rfl, hb⟩; refine ⟨_, rfl, ?_⟩; replace BK0 := kb BK0 hb; replace HB := bs HB hb; (try clear hb); have hcz19 := cz4 BK0.1) | ((with_reducible refine at_fn (f := 71) rfl ?_); refine gl (some 15) Try.func71 #[.slice A0 l0.length c0, .agg #[.int .i64 a1_0, .int .i64 a1_1, .slice A1_2 l1_2.length c1_2, .slice A1_3 l1_3.length c1_3]] ?_; (with_reducible refine (impl_loaded.calls k _ _ l0 a1_0 a1_1 _ _ l1_2 _ _ l1_3 t4 _ ?_ HC0.1 ?_ HC1_2.1 ?_ HC1_3.1 A5.1).mono ?_); exact vd HR0.1 HB.1; exact vd HR1_2.1 HB.1; exact vd HR1_3.1 HB.1; rintro e w10 ⟨v22, rfl, ho8, hb⟩; refine ⟨_, rfl, ?_⟩; have HO12 := ak (Kd.R_lower ho8 (below_size (vb HB.1))); replace BK0 := kb BK0 hb; replace HB := bs HB hb; (try clear hb); (try clear ho8); obtain ⟨Ao9, co9, rfl⟩ := Kd.R_slice HO12.1))
  go_loopg [6, 17] k (fun kq v6 v2 w' => ∃ (x6_1 : Int) (x2_1 : Int), v6 = .int .i64 x6_1 ∧ v2 = .int .i64 x2_1 ∧ Aside0 (impl_GreatestLoad.l0 kq x6_1 t4 (t4.length : Int) x2_1 = some (r1, r2)) ∧ Aside0 (kq ≤ k) ∧ Aside0 (Kd.R k67 67 w' w.heap.size (fun _ => True) (.slice Ao9 t4.length co9) t4) ∧ Aside0 (w'.heap[gb0]? = some (.cells #[.int .i64 a1_0, .int .i64 a1_1, (.slice A1_2 l1_2.length c1_2), (.slice A1_3 l1_3.length c1_3)] 33 (0, 0))) ∧ Aside0 (Below w.heap.size w w'))
  case atStart => exact ⟨(0), (0), es, es, H', ⟨Nat.le_refl _⟩, ⟨vr HO12.1⟩, ⟨vk BK0.1⟩, ⟨vb HB.1⟩⟩
  case round =>
   clear H'; obtain ⟨x6_1, x2_1, rfl, rfl, HA, HK1, HO_7, BK0, HB⟩ := hrel
   cases gk with
   | zero => exact absurd HA.1 (by simp [impl_GreatestLoad.l0])
   | succ k1 =>
    have H := HA.1; clear HA; simp only [impl_GreatestLoad.l0] at H
    by_cases c12 : x2_1 < (t4.length : Int)
    ·rw [if_pos c12] at H; have c12b0 := decide_eq_true c12; clear c12; by_cases c13 : 0 ≤ x2_1
     ·rw [if_pos c13] at H; have c13b0 := decide_eq_true c13; clear c13; by_cases c14 : x2_1 < (t4.length : Int)
      ·rw [if_pos c14] at H; have c14b0 := decide_eq_true c14; clear c14; obtain ⟨ji7, hji15⟩ : ∃ j_ : Int, (mx x6_1 ((rd_T67 t4 x2_1).f2)) = j_ := ⟨_, rfl⟩; replace H : (impl_GreatestLoad.l0 k1 ji7 t4 (t4.length : Int) (wrap64 (x2_1 + 1))) = some (r1, r2) := by first | (rw [hji15] at H; exact H) | (simp only [hji15] at H ⊢; exact H)
       have hji15_ : (if x6_1 < ((rd_T67 t4 x2_1).f2) then ((rd_T67 t4 x2_1).f2) else x6_1) = ji7 := hji15; have H' := ak H; clear H; have p5 : 0 ≤ (x2_1 : Int) := od; have q5 : x2_1 < (t4.length : Int) := od; obtain ⟨ad5, e5, hx5_8, hx5_1, hx5_14, hx5_15, hx5_16, hx5_17, hx5_6, hx5_13, hx5_18⟩ := at_T67 (Kd.R_reads' HO_7.1).2.2 x2_1 p5 q5
       cases e5; replace p5 := eq_true p5; replace q5 := eq_true q5; go_wp2_with (first | ((with_reducible refine gate_dst (N := 8) rfl ?_); refine bx 8 #[.string (⟨#[]⟩ : ByteArray), .int .i64 0, .int .i64 0, .int .i64 0, .int .i64 0, .int .i64 0, .int .i64 0, .int .i64 0, .int .i64 0] 67 ?_; intro gb3 hg w16 hbox hb; replace HO_7 := ak (Kd.R_below (Kd.R_elderB (vr HO_7.1) gb3 (Nat.le_of_eq hg.symm)) hb); have BK3 := ak hbox; have GW1443 := gw hg HB; have GE3 := gw hg HB; replace HB := bs HB hb; have NB0_3 := nl hg BK0; have NB3_0 := nr hg BK0; replace BK0 := kb BK0 hb; clear hb hbox hg; have := NB3_0.1; have := NB0_3.1; have hcz20 := cz9 BK3.1))
       go_roundg k1
       case measure => have := HK1.1; omega
       case rel => exact ⟨(ji7), (wrap64 (x2_1 + 1)), (by first | rfl | (simp; done) | (simp only [← hji15] <;> (first | rfl | simp)) | (simp [*]; done)), es, H', ⟨by have := HK1.1; omega⟩, ⟨vr (Kd.R_mono (fr gb3 8 (fr gb3 7 (fr gb3 6 (fr gb3 5 (fr gb3 4 (fr gb3 3 (fr gb3 2 (fr gb3 1 (fr gb3 0 (Kd.R_mono HO_7.1 (fun k_ hk => (⟨hk, hk.2⟩ : _ ∧ k_ ≠ gb3))) (fun _ hk => hk.2) (.string ((rd_T67 t4 x2_1).f0))) (fun _ hk => hk.2) (.int .i64 ((rd_T67 t4 x2_1).f1))) (fun _ hk => hk.2) (.int .i64 ((rd_T67 t4 x2_1).f2))) (fun _ hk => hk.2) (.int .i64 ((rd_T67 t4 x2_1).f3))) (fun _ hk => hk.2) (.int .i64 ((rd_T67 t4 x2_1).f4))) (fun _ hk => hk.2) (.int .i64 ((rd_T67 t4 x2_1).f5))) (fun _ hk => hk.2) (.int .i64 ((rd_T67 t4 x2_1).f6))) (fun _ hk => hk.2) (.int .i64 ((rd_T67 t4 x2_1).f7))) (fun _ hk => hk.2) (.int .i64 ((rd_T67 t4 x2_1).f8))) (fun _ hk => trivial))⟩, ⟨by (with_reducible repeat (first | refine blk_drewN ?_ _ | refine blk_drew ?_ | refine blk_alloc ?_ _)); refine blk_far ?_ NB0_3.1 _; (with_reducible repeat (first | refine blk_drewN ?_ _ | refine blk_drew ?_ | refine blk_alloc ?_ _)); refine blk_far ?_ NB0_3.1 _; (with_reducible repeat (first | refine blk_drewN ?_ _ | refine blk_drew ?_ | refine blk_alloc ?_ _)); refine blk_far ?_ NB0_3.1 _; (with_reducible repeat (first | refine blk_drewN ?_ _ | refine blk_drew ?_ | refine blk_alloc ?_ _)); refine blk_far ?_ NB0_3.1 _; (with_reducible repeat (first | refine blk_drewN ?_ _ | refine blk_drew ?_ | refine blk_alloc ?_ _)); refine blk_far ?_ NB0_3.1 _; (with_reducible repeat (first | refine blk_drewN ?_ _ | refine blk_drew ?_ | refine blk_alloc ?_ _)); refine blk_far ?_ NB0_3.1 _; (with_reducible repeat (first | refine blk_drewN ?_ _ | refine blk_drew ?_ | refine blk_alloc ?_ _)); refine blk_far ?_ NB0_3.1 _; (with_reducible repeat (first | refine blk_drewN ?_ _ | refine blk_drew ?_ | refine blk_alloc ?_ _)); refine blk_far ?_ NB0_3.1 _; (with_reducible repeat (first | refine blk_drewN ?_ _ | refine blk_drew ?_ | refine blk_alloc ?_ _)); refine blk_far ?_ NB0_3.1 _; exact vk BK0.1⟩, ⟨vb HB.1⟩⟩
      ·exact nO_ c14 H
     ·exact nO_ c13 H
    ·rw [if_neg c12] at H; have c12b0 := decide_eq_false c12; clear c12; simp only [Option.some.injEq, Prod.mk.injEq] at H
     obtain ⟨rfl, rfl⟩ := H; go_wp2
     go_ret2
     exact ⟨ew, vb HB.1⟩
 ·replace c4 := Bool.eq_false_iff.mpr c4; subst c4; rw [if_neg nf] at H; simp only [Option.some.injEq, Prod.mk.injEq] at H
  obtain ⟨rfl, rfl⟩ := H; go_enter Try.func47, Try.ntmps47; go_wp2_with (first | ((with_reducible refine gate_dst (N := 3) rfl ?_); refine bx 3 #[.int .i64 a1_0, .int .i64 a1_1, .slice A1_2 l1_2.length c1_2, .slice A1_3 l1_3.length c1_3] 33 ?_; intro gb0 hg w19 hbox hb; have BK0 := ak hbox; have GW1437 := gw hg HB; have GE0 := gw hg HB; replace HB := bs HB hb; clear hb hbox hg; have hcz21 := cz4 BK0.1) | ((with_reducible refine at_fn (f := 41) rfl ?_); refine gl (some 11) Try.func41 #[.slice A0 l0.length c0, .agg #[.int .i64 a1_0, .int .i64 a1_1, .slice A1_2 l1_2.length c1_2, .slice A1_3 l1_3.length c1_3]] ?_; (with_reducible refine (impl_IsRack.calls k _ _ l0 a1_0 a1_1 _ _ l1_2 _ _ l1_3 _ _ ?_ HC0.1 ?_ HC1_2.1 ?_ HC1_3.1 A3.1).mono ?_); exact vd HR0.1 HB.1; exact vd HR1_2.1 HB.1; exact vd HR1_3.1 HB.1; rintro e w21 ⟨rfl, hb⟩; refine ⟨_, rfl, ?_⟩; replace BK0 := kb BK0 hb; replace HB := bs HB hb; (try clear hb)))
  go_ret2
  exact ⟨ew, vb HB.1⟩


/-! ### spec_GreatestLoad: function 48 -/
def spec_GreatestLoad.l0 : Nat → List (S67) → Int → Int → Int → Int → List Int → List ByteArray → Option (Int × Int)
 | 0, _, _, _, _, _, _, _ => none
 | k + 1, x5, x6, x0, x12, x13, x14, x10 => if x0 < (x10.length : Int) then (if 0 ≤ x0 then (if (rdOf ByteArray.empty x10 x0).toList = ([] : List UInt8) then (spec_GreatestLoad.l0 k x5 x6 (wrap64 (x0 + 1)) x12 x13 x14 x10) else ((spec_l03Find.f k x5 (rdOf ByteArray.empty x10 x0)).bind fun t8 => (if 0 ≤ t8 then (if t8 < (x5.length : Int) then (spec_GreatestLoad.l0 k x5 (mx x6 ((rd_T67 x5 t8).f2)) (wrap64 (x0 + 1)) x12 x13 x14 x10) else (none)) else (none)))) else (none)) else (some (x6, 0))
def spec_GreatestLoad.f (k : Nat) (l0 : List (S67)) (a1_0 : Int) (a1_1 : Int) (l1_2 : List Int) (l1_3 : List ByteArray) : Option (Int × Int) := (spec_l17Code.f k l0 a1_0 a1_1 l1_2 l1_3 0).bind fun t9 => (if t9 = 0 then (spec_GreatestLoad.l0 k l0 0 0 a1_0 a1_1 l1_2 l1_3) else (some (0, t9)))
set_option maxHeartbeats 8000000 in
set_option maxRecDepth 100000 in
theorem spec_GreatestLoad.calls (k : Nat) (A0 : Option Addr) (c0 : Nat) (l0 : List (S67)) (a1_0 : Int) (a1_1 : Int) (A1_2 : Option Addr) (c1_2 : Nat) (l1_2 : List Int) (A1_3 : Option Addr) (c1_3 : Nat) (l1_3 : List ByteArray) (r1 : Int) (r2 : Int) (w : World) (hr0 : Kd.C k67 w A0 l0.length l0) (hc0 : l0.length ≤ c0) (hr1_2 : Kd.C (Kd.int .i64) w A1_2 l1_2.length l1_2) (hc1_2 : l1_2.length ≤ c1_2) (hr1_3 : Kd.C Kd.string w A1_3 l1_3.length l1_3) (hc1_3 : l1_3.length ≤ c1_3) (h : spec_GreatestLoad.f k l0 a1_0 a1_1 l1_2 l1_3 = some (r1, r2)) :
  Calls Try.prog 48 #[.slice A0 l0.length c0, .agg #[.int .i64 a1_0, .int .i64 a1_1, .slice A1_2 l1_2.length c1_2, .slice A1_3 l1_3.length c1_3]] w fun e w' => e = .returned (.tuple #[.int .i64 r1, .int .i64 r2]) ∧ Below w.heap.size w w' := by
 have hu33 := Try.underlying33; have HR0 := ak hr0; have HC0 := ak hc0; clear hr0 hc0; have HR1_2 := ak hr1_2; have HC1_2 := ak hc1_2; clear hr1_2 hc1_2; have HR1_3 := ak hr1_3; have HC1_3 := ak hc1_3; clear hr1_3 hc1_3; have HB := ak (Below.refl w.heap.size w); unfold spec_GreatestLoad.f at h; have H := h; clear h; obtain ⟨t9, A3, H⟩ := bnk H; by_cases c4 : t9 = 0
 ·rw [if_pos c4] at H; obtain ⟨c4b0, c4b1⟩ := bqt c4; clear c4; have H' := ak H; clear H; go_enter Try.func48, Try.ntmps48; go_wp2_with (first | ((with_reducible refine gate_dst (N := 3) rfl ?_); refine bx 3 #[.int .i64 a1_0, .int .i64 a1_1, .slice A1_2 l1_2.length c1_2, .slice A1_3 l1_3.length c1_3] 33 ?_; intro gb3 hg w5 hbox hb; have BK3 := ak hbox; have GW1444 := gw hg HB; have GE3 := gw hg HB; replace HB := bs HB hb; clear hb hbox hg; have hcz15 := cz4 BK3.1) | ((with_reducible refine at_fn (f := 59) rfl ?_); refine gl (some 11) Try.func59 #[.slice A0 l0.length c0, .agg #[.int .i64 a1_0, .int .i64 a1_1, .slice A1_2 l1_2.length c1_2, .slice A1_3 l1_3.length c1_3], .int .i64 0] ?_; (with_reducible refine (spec_l17Code.calls k _ _ l0 a1_0 a1_1 _ _ l1_2 _ _ l1_3 0 t9 _ ?_ HC0.1 ?_ HC1_2.1 ?_ HC1_3.1 A3.1).mono ?_); exact vd HR0.1 HB.1; exact vd HR1_2.1 HB.1; exact vd HR1_3.1 HB.1; rintro e w7 ⟨rfl, hb⟩; refine ⟨_, rfl, ?_⟩; replace BK3 := kb BK3 hb; replace HB := bs HB hb; (try clear hb)))
  go_loopg [7, 8] k (fun kq v6 v0 w' => ∃ (x6_1 : Int) (x0_1 : Int), v6 = .int .i64 x6_1 ∧ v0 = .int .i64 x0_1 ∧ Aside0 (spec_GreatestLoad.l0 kq l0 x6_1 x0_1 a1_0 a1_1 l1_2 l1_3 = some (r1, r2)) ∧ Aside0 (kq ≤ k) ∧ Aside0 (w'.heap[gb3]? = some (.cells #[.int .i64 a1_0, .int .i64 a1_1, (.slice A1_2 l1_2.length c1_2), (.slice A1_3 l1_3.length c1_3)] 33 (0, 0))) ∧ Aside0 (Below w.heap.size w w'))
  case atStart => exact ⟨(0), (0), es, es, H', ⟨Nat.le_refl _⟩, ⟨vk BK3.1⟩, ⟨vb HB.1⟩⟩
  case round =>
   clear H'; obtain ⟨x6_1, x0_1, rfl, rfl, HA, HK1, BK3, HB⟩ := hrel
   cases gk with
   | zero => exact absurd HA.1 (by simp [spec_GreatestLoad.l0])
   | succ k1 =>
    have H := HA.1; clear HA; simp only [spec_GreatestLoad.l0] at H
    by_cases c8 : x0_1 < (l1_3.length : Int)
    ·rw [if_pos c8] at H; have c8b0 := decide_eq_true c8; clear c8; by_cases c9 : 0 ≤ x0_1
     ·rw [if_pos c9] at H; have c9b0 := decide_eq_true c9; clear c9; by_cases c10 : (rdOf ByteArray.empty l1_3 x0_1).toList = ([] : List UInt8)
      ·rw [if_pos c10] at H; have c10b0 : ((rdOf ByteArray.empty l1_3 x0_1).toList == ([] : List UInt8)) = true := beq_iff_eq.mpr c10; have c10b1 : ((rdOf ByteArray.empty l1_3 x0_1).toList != ([] : List UInt8)) = false := bne_eq_false_iff_eq.mpr c10; clear c10; have H' := ak H; clear H; have hcz20 := cz4 BK3.1; have p2 : 0 ≤ (x0_1 : Int) := od; have q2 : x0_1 < (l1_3.length : Int) := od; obtain ⟨ad2, e2, hx2_5⟩ := Kd.at_string HR1_3.1 x0_1 p2 q2
       cases e2; replace hx2_5 := cb HB.1 hx2_5; replace p2 := eq_true p2; replace q2 := eq_true q2; go_wp2
       go_roundg k1
       case measure => have := HK1.1; omega
       case rel => exact ⟨(x6_1), (wrap64 (x0_1 + 1)), es, es, H', ⟨by have := HK1.1; omega⟩, ⟨vk BK3.1⟩, ⟨vb HB.1⟩⟩
      ·rw [if_neg c10] at H; have c10b0 : ((rdOf ByteArray.empty l1_3 x0_1).toList == ([] : List UInt8)) = false := beq_eq_false_iff_ne.mpr c10; have c10b1 : ((rdOf ByteArray.empty l1_3 x0_1).toList != ([] : List UInt8)) = true := bne_iff_ne.mpr c10; obtain ⟨t8, A12, H⟩ := bnk H; by_cases c13 : 0 ≤ t8
       ·rw [if_pos c13] at H; have c13b0 := decide_eq_true c13; clear c13; by_cases c14 : t8 < (l0.length : Int)
        ·rw [if_pos c14] at H; have c14b0 := decide_eq_true c14; clear c14; obtain ⟨ji11, hji15⟩ : ∃ j_ : Int, (mx x6_1 ((rd_T67 l0 t8).f2)) = j_ := ⟨_, rfl⟩; replace H : (spec_GreatestLoad.l0 k1 l0 ji11 (wrap64 (x0_1 + 1)) a1_0 a1_1 l1_2 l1_3) = some (r1, r2) := by first | (rw [hji15] at H; exact H) | (simp only [hji15] at H ⊢; exact H)
         (try rw [hji15] at A12)
         have hji15_ : (if x6_1 < ((rd_T67 l0 t8).f2) then ((rd_T67 l0 t8).f2) else x6_1) = ji11 := hji15; have H' := ak H; clear H; have hcz21 := cz4 BK3.1; have p2 : 0 ≤ (x0_1 : Int) := od; have q2 : x0_1 < (l1_3.length : Int) := od; obtain ⟨ad2, e2, hx2_5⟩ := Kd.at_string HR1_3.1 x0_1 p2 q2
         cases e2; replace hx2_5 := cb HB.1 hx2_5; replace p2 := eq_true p2; replace q2 := eq_true q2; have p7 : 0 ≤ (x0_1 : Int) := od; have q7 : x0_1 < (l1_3.length : Int) := od; obtain ⟨ad7, e7, hx7_5⟩ := Kd.at_string HR1_3.1 x0_1 p7 q7; obtain rfl : ad2 = ad7 := (by injection e7); replace hx7_5 := cb HB.1 hx7_5; replace p7 := eq_true p7; replace q7 := eq_true q7; go_wp2_with (first | ((with_reducible refine at_fn (f := 70) rfl ?_); refine gl (some 36) Try.func70 #[.slice A0 l0.length c0, .string (rdOf ByteArray.empty l1_3 x0_1)] ?_; (with_reducible refine (spec_l03Find.calls k1 _ _ l0 (rdOf ByteArray.empty l1_3 x0_1) t8 _ ?_ HC0.1 A12.1).mono ?_); exact vd HR0.1 HB.1; rintro e w' ⟨rfl, ⟨nd, rfl⟩⟩; refine ⟨_, rfl, ?_⟩; have p4 : 0 ≤ (t8 : Int) := od; have q4 : t8 < (l0.length : Int) := od; obtain ⟨ad4, e4, hx4_5, hx4_1, hx4_16, hx4_17, hx4_18, hx4_19, hx4_15, hx4_6, hx4_0⟩ := at_T67b HR0.1 HB.1 t8 p4 q4; cases e4; replace p4 := eq_true p4; replace q4 := eq_true q4))
         go_roundg k1
         case measure => have := HK1.1; omega
         case rel => exact ⟨(ji11), (wrap64 (x0_1 + 1)), (by first | rfl | (simp; done) | (simp only [← hji15] <;> (first | rfl | simp)) | (simp [*]; done)), es, H', ⟨by have := HK1.1; omega⟩, ⟨vk BK3.1⟩, ⟨vb HB.1⟩⟩
        ·exact nO_ c14 H
       ·exact nO_ c13 H
     ·exact nO_ c9 H
    ·rw [if_neg c8] at H; have c8b0 := decide_eq_false c8; clear c8; simp only [Option.some.injEq, Prod.mk.injEq] at H
     obtain ⟨rfl, rfl⟩ := H; have hcz22 := cz4 BK3.1; go_wp2
     go_ret2
     exact ⟨ew, vb HB.1⟩
 ·rw [if_neg c4] at H; obtain ⟨c4b0, c4b1⟩ := bqf c4; simp only [Option.some.injEq, Prod.mk.injEq] at H
  obtain ⟨rfl, rfl⟩ := H; go_enter Try.func48, Try.ntmps48; go_wp2_with (first | ((with_reducible refine gate_dst (N := 3) rfl ?_); refine bx 3 #[.int .i64 a1_0, .int .i64 a1_1, .slice A1_2 l1_2.length c1_2, .slice A1_3 l1_3.length c1_3] 33 ?_; intro gb3 hg w18 hbox hb; have BK3 := ak hbox; have GW1444 := gw hg HB; have GE3 := gw hg HB; replace HB := bs HB hb; clear hb hbox hg; have hcz23 := cz4 BK3.1) | ((with_reducible refine at_fn (f := 59) rfl ?_); refine gl (some 11) Try.func59 #[.slice A0 l0.length c0, .agg #[.int .i64 a1_0, .int .i64 a1_1, .slice A1_2 l1_2.length c1_2, .slice A1_3 l1_3.length c1_3], .int .i64 0] ?_; (with_reducible refine (spec_l17Code.calls k _ _ l0 a1_0 a1_1 _ _ l1_2 _ _ l1_3 0 t9 _ ?_ HC0.1 ?_ HC1_2.1 ?_ HC1_3.1 A3.1).mono ?_); exact vd HR0.1 HB.1; exact vd HR1_2.1 HB.1; exact vd HR1_3.1 HB.1; rintro e w20 ⟨rfl, hb⟩; refine ⟨_, rfl, ?_⟩; replace BK3 := kb BK3 hb; replace HB := bs HB hb; (try clear hb)))
  go_ret2
  exact ⟨ew, vb HB.1⟩


/-! ### impl_areCounts: function 92 -/
def impl_areCounts.f (k : Nat) (l0 : List (S67)) (l1 : List Int) : Option (Bool) := if (l1.length : Int) = (l0.length : Int) then ((impl_allWithin.f k l1 0 1000).bind fun t0 => (some t0)) else (some false)
set_option maxHeartbeats 8000000 in
set_option maxRecDepth 100000 in
theorem impl_areCounts.calls (k : Nat) (A0 : Option Addr) (c0 : Nat) (l0 : List (S67)) (A1 : Option Addr) (c1 : Nat) (l1 : List Int) (r : Bool) (w : World) (hr0 : Kd.C k67 w A0 l0.length l0) (hc0 : l0.length ≤ c0) (hr1 : Kd.C (Kd.int .i64) w A1 l1.length l1) (hc1 : l1.length ≤ c1) (h : impl_areCounts.f k l0 l1 = some r) :
  Calls Try.prog 92 #[.slice A0 l0.length c0, .slice A1 l1.length c1] w fun e w' => e = .returned (.bool r) ∧ Drawn0 w w' := by
 have HR0 := ak hr0; have HC0 := ak hc0; clear hr0 hc0; have HR1 := ak hr1; have HC1 := ak hc1; clear hr1 hc1; unfold impl_areCounts.f at h; have H := h; clear h; by_cases c3 : (l1.length : Int) = (l0.length : Int)
 rw [if_pos c3] at H; obtain ⟨c3b0, c3b1⟩ := bqt c3; have c3b2 : (l1.length == l0.length) = true := by first | simpa using c3 | (simp at c3 ⊢; omega)
 clear c3; obtain ⟨t0, A4, H⟩ := bnk H; obtain rfl := sj H; rotate_left
 rw [if_neg c3] at H; obtain ⟨c3b0, c3b1⟩ := bqf c3; have c3b2 : (l1.length == l0.length) = false := by first | simpa using c3 | (simp at c3 ⊢; omega)
 obtain rfl := sj H; rotate_left
 all_goals
  go_enter Try.func92, Try.ntmps92; go_wp2_with (first | (go_at_call 87; (with_reducible refine (impl_allWithin.calls k _ _ l1 0 1000 t0 _ ?_ HC1.1 A4.1).mono ?_); exact vc HR1.1; rintro e w' ⟨rfl, ⟨nd, rfl⟩⟩))
  go_ret
  exact ⟨by first | rfl | (simp; done) | (simp [*]; done), by repeat (first | exact Drawn0.refl _ | apply Drawn0.step)⟩


/-! ### impl_NetOfOrder: function 49 -/
def impl_NetOfOrder.l0 : Nat → List Int → Int → List (S67) → Int → Int → Option (Int × Int)
 | 0, _, _, _, _, _ => none
 | k + 1, x0, x5, x8, x11, x1 => if x1 < x11 then (if 0 ≤ x1 then (if x1 < (x8.length : Int) then (if x1 < (x0.length : Int) then (impl_NetOfOrder.l0 k x0 (wrap64 (x5 + (wrap64 (((rd_T67 x8 x1).f7) * (rd x0 x1))))) x8 x11 (wrap64 (x1 + 1))) else (none)) else (none)) else (none)) else (some (x5, 0))
def impl_NetOfOrder.f (k : Nat) (l0 : List (S67)) (l1 : List Int) : Option (Int × Int) := (impl_AreArticles.f k l0).bind fun t9 => (if t9 = true then ((impl_areCounts.f k l0 l1).bind fun t10 => (if t10 = true then (impl_NetOfOrder.l0 k l1 0 l0 (l0.length : Int) 0) else (some (0, 2)))) else (some (0, 1)))
set_option maxHeartbeats 8000000 in
set_option maxRecDepth 100000 in
theorem impl_NetOfOrder.calls (k : Nat) (A0 : Option Addr) (c0 : Nat) (l0 : List (S67)) (A1 : Option Addr) (c1 : Nat) (l1 : List Int) (r1 : Int) (r2 : Int) (w : World) (hr0 : Kd.C k67 w A0 l0.length l0) (hc0 : l0.length ≤ c0) (hr1 : Kd.C (Kd.int .i64) w A1 l1.length l1) (hc1 : l1.length ≤ c1) (h : impl_NetOfOrder.f k l0 l1 = some (r1, r2)) :
  Calls Try.prog 49 #[.slice A0 l0.length c0, .slice A1 l1.length c1] w fun e w' => e = .returned (.tuple #[.int .i64 r1, .int .i64 r2]) ∧ Below w.heap.size w w' := by
 have hu67 := Try.underlying67; have HR0 := ak hr0; have HC0 := ak hc0; clear hr0 hc0; have HR1 := ak hr1; have HC1 := ak hc1; clear hr1 hc1; have HB := ak (Below.refl w.heap.size w); unfold impl_NetOfOrder.f at h; have H := h; clear h; obtain ⟨t9, A3, H⟩ := bnk H; by_cases c4 : t9 = true
 ·subst c4; rw [if_pos rfl] at H; obtain ⟨t10, A5, H⟩ := bnk H; by_cases c6 : t10 = true
  ·subst c6; rw [if_pos rfl] at H; have H' := ak H; clear H; go_enter Try.func49, Try.ntmps49; go_wp2_with (first | (go_at_call 85; (with_reducible refine (impl_AreArticles.calls k _ _ l0 _ _ ?_ HC0.1 A3.1).mono ?_); exact vc HR0.1; rintro e w7 ⟨rfl, hb⟩; replace HB := bs HB hb; (try clear hb)) | (go_at_call 92; (with_reducible refine (impl_areCounts.calls k _ _ l0 _ _ l1 _ _ ?_ HC0.1 ?_ HC1.1 A5.1).mono ?_); exact vd HR0.1 HB.1; exact vd HR1.1 HB.1; rintro e w' ⟨rfl, ⟨nd, rfl⟩⟩; (try first | exact ⟨rfl, _, World.drewN_drewN _ _ _⟩ | exact ⟨rfl, _, Eq.trans (World.drewN_drewN _ _ _) (congrArg (World.drewN _) (Nat.add_assoc _ _ _))⟩)))
   repeat (go_quiet (first | (go_at_call 85; (with_reducible refine (impl_AreArticles.calls k _ _ l0 _ _ ?_ HC0.1 A3.1).mono ?_); exact vc HR0.1; rintro e w7 ⟨rfl, hb⟩; replace HB := bs HB hb; (try clear hb)) | (go_at_call 92; (with_reducible refine (impl_areCounts.calls k _ _ l0 _ _ l1 _ _ ?_ HC0.1 ?_ HC1.1 A5.1).mono ?_); exact vd HR0.1 HB.1; exact vd HR1.1 HB.1; rintro e w' ⟨rfl, ⟨nd, rfl⟩⟩; (try first | exact ⟨rfl, _, World.drewN_drewN _ _ _⟩ | exact ⟨rfl, _, Eq.trans (World.drewN_drewN _ _ _) (congrArg (World.drewN _) (Nat.add_assoc _ _ _))⟩))); try go_wp2_with (first | (go_at_call 85; (with_reducible refine (impl_AreArticles.calls k _ _ l0 _ _ ?_ HC0.1 A3.1).mono ?_); exact vc HR0.1; rintro e w7 ⟨rfl, hb⟩; replace HB := bs HB hb; (try clear hb)) | (go_at_call 92; (with_reducible refine (impl_areCounts.calls k _ _ l0 _ _ l1 _ _ ?_ HC0.1 ?_ HC1.1 A5.1).mono ?_); exact vd HR0.1 HB.1; exact vd HR1.1 HB.1; rintro e w' ⟨rfl, ⟨nd, rfl⟩⟩; (try first | exact ⟨rfl, _, World.drewN_drewN _ _ _⟩ | exact ⟨rfl, _, Eq.trans (World.drewN_drewN _ _ _) (congrArg (World.drewN _) (Nat.add_assoc _ _ _))⟩))))
   go_loopg [6, 18] k (fun kq v5 v1 w' => ∃ (x5_0 : Int) (x1_0 : Int), v5 = .int .i64 x5_0 ∧ v1 = .int .i64 x1_0 ∧ Aside0 (impl_NetOfOrder.l0 kq l1 x5_0 l0 (l0.length : Int) x1_0 = some (r1, r2)) ∧ Aside0 (kq ≤ k) ∧ Aside0 (Below w.heap.size w w'))
   case atStart => exact ⟨(0), (0), es, es, H', ⟨Nat.le_refl _⟩, ⟨vb HB.1⟩⟩
   case round =>
    clear H'; obtain ⟨x5_0, x1_0, rfl, rfl, HA, HK1, HB⟩ := hrel
    cases gk with
    | zero => exact absurd HA.1 (by simp [impl_NetOfOrder.l0])
    | succ k1 =>
     have H := HA.1; clear HA; simp only [impl_NetOfOrder.l0] at H
     by_cases c8 : x1_0 < (l0.length : Int)
     ·rw [if_pos c8] at H; have c8b0 := decide_eq_true c8; clear c8; by_cases c9 : 0 ≤ x1_0
      ·rw [if_pos c9] at H; have c9b0 := decide_eq_true c9; clear c9; by_cases c10 : x1_0 < (l0.length : Int)
       ·rw [if_pos c10] at H; have c10b0 := decide_eq_true c10; clear c10; by_cases c11 : x1_0 < (l1.length : Int)
        ·rw [if_pos c11] at H; have c11b0 := decide_eq_true c11; clear c11; have H' := ak H; clear H; have p2 : 0 ≤ (x1_0 : Int) := od; have q2 : x1_0 < (l0.length : Int) := od; obtain ⟨ad2, e2, hx2_7, hx2_0, hx2_6, hx2_12, hx2_13, hx2_14, hx2_5, hx2_15, hx2_16⟩ := at_T67b HR0.1 HB.1 x1_0 p2 q2
         cases e2; replace p2 := eq_true p2; replace q2 := eq_true q2; have p4 : 0 ≤ (x1_0 : Int) := od; have q4 : x1_0 < (l1.length : Int) := od; obtain ⟨ad4, e4, hx4_7⟩ := Kd.at_int HR1.1 x1_0 p4 q4; cases e4; go_upto_region 9 with (first | ((with_reducible refine gate_dst (N := 8) rfl ?_); refine bx 8 #[.string (⟨#[]⟩ : ByteArray), .int .i64 0, .int .i64 0, .int .i64 0, .int .i64 0, .int .i64 0, .int .i64 0, .int .i64 0, .int .i64 0] 67 ?_; intro gb3 hg w12 hbox hb; have BK3 := ak hbox; have GW1454 := gw hg HB; have GE3 := gw hg HB; replace HB := bs HB hb; clear hb hbox hg; have hczb := cz9 BK3.1))
         obtain ⟨wz, hwz⟩ : ∃ wz : World, wz = (((((((((w12.setCell ⟨gb3, 0, none⟩ (.string ((rd_T67 l0 x1_0).f0))).setCell ⟨gb3, 1, none⟩ (.int .i64 ((rd_T67 l0 x1_0).f1))).setCell ⟨gb3, 2, none⟩ (.int .i64 ((rd_T67 l0 x1_0).f2))).setCell ⟨gb3, 3, none⟩ (.int .i64 ((rd_T67 l0 x1_0).f3))).setCell ⟨gb3, 4, none⟩ (.int .i64 ((rd_T67 l0 x1_0).f4))).setCell ⟨gb3, 5, none⟩ (.int .i64 ((rd_T67 l0 x1_0).f5))).setCell ⟨gb3, 6, none⟩ (.int .i64 ((rd_T67 l0 x1_0).f6))).setCell ⟨gb3, 7, none⟩ (.int .i64 ((rd_T67 l0 x1_0).f7))).setCell ⟨gb3, 8, none⟩ (.int .i64 ((rd_T67 l0 x1_0).f8))) := ⟨_, rfl⟩
         have m6 : wz.heap[gb3]? = some (.cells #[.string ((rd_T67 l0 x1_0).f0), .int .i64 ((rd_T67 l0 x1_0).f1), .int .i64 ((rd_T67 l0 x1_0).f2), .int .i64 ((rd_T67 l0 x1_0).f3), .int .i64 ((rd_T67 l0 x1_0).f4), .int .i64 ((rd_T67 l0 x1_0).f5), .int .i64 ((rd_T67 l0 x1_0).f6), .int .i64 ((rd_T67 l0 x1_0).f7), .int .i64 ((rd_T67 l0 x1_0).f8)] 67 (0, 0)) := by rw [hwz]; exact vw BK3.1
         have mB : Below w.heap.size w wz := by rw [hwz]; exact vb HB.1
         rw [← hwz]; clear hwz; clear hczb BK3 HB; have BK3 := ak m6; have HB := ak mB; have hcy2 := cz9 m6; clear m6 mB; replace hx4_7 := cb HB.1 hx4_7; replace p4 := eq_true p4; replace q4 := eq_true q4
         go_wp2
         repeat (go_quiet (fail); try go_wp2)
         go_roundg k1
         case measure => have := HK1.1; omega
         case rel => exact ⟨(wrap64 (x5_0 + (wrap64 (((rd_T67 l0 x1_0).f7) * (rd l1 x1_0))))), (wrap64 (x1_0 + 1)), es, es, H', ⟨by have := HK1.1; omega⟩, ⟨vb HB.1⟩⟩
        ·exact nO_ c11 H
       ·exact nO_ c10 H
      ·exact nO_ c9 H
     ·rw [if_neg c8] at H; have c8b0 := decide_eq_false c8; clear c8; simp only [Option.some.injEq, Prod.mk.injEq] at H
      obtain ⟨rfl, rfl⟩ := H; go_wp2
      repeat (go_quiet (fail); try go_wp2)
      go_ret2
      exact ⟨ew, vb HB.1⟩
  ·replace c6 := Bool.eq_false_iff.mpr c6; subst c6; rw [if_neg nf] at H; simp only [Option.some.injEq, Prod.mk.injEq] at H
   obtain ⟨rfl, rfl⟩ := H; go_enter Try.func49, Try.ntmps49; go_wp2_with (first | (go_at_call 85; (with_reducible refine (impl_AreArticles.calls k _ _ l0 _ _ ?_ HC0.1 A3.1).mono ?_); exact vc HR0.1; rintro e w14 ⟨rfl, hb⟩; replace HB := bs HB hb; (try clear hb)) | (go_at_call 92; (with_reducible refine (impl_areCounts.calls k _ _ l0 _ _ l1 _ _ ?_ HC0.1 ?_ HC1.1 A5.1).mono ?_); exact vd HR0.1 HB.1; exact vd HR1.1 HB.1; rintro e w' ⟨rfl, ⟨nd, rfl⟩⟩; (try first | exact ⟨rfl, _, World.drewN_drewN _ _ _⟩ | exact ⟨rfl, _, Eq.trans (World.drewN_drewN _ _ _) (congrArg (World.drewN _) (Nat.add_assoc _ _ _))⟩)))
   repeat (go_quiet (first | (go_at_call 85; (with_reducible refine (impl_AreArticles.calls k _ _ l0 _ _ ?_ HC0.1 A3.1).mono ?_); exact vc HR0.1; rintro e w14 ⟨rfl, hb⟩; replace HB := bs HB hb; (try clear hb)) | (go_at_call 92; (with_reducible refine (impl_areCounts.calls k _ _ l0 _ _ l1 _ _ ?_ HC0.1 ?_ HC1.1 A5.1).mono ?_); exact vd HR0.1 HB.1; exact vd HR1.1 HB.1; rintro e w' ⟨rfl, ⟨nd, rfl⟩⟩; (try first | exact ⟨rfl, _, World.drewN_drewN _ _ _⟩ | exact ⟨rfl, _, Eq.trans (World.drewN_drewN _ _ _) (congrArg (World.drewN _) (Nat.add_assoc _ _ _))⟩))); try go_wp2_with (first | (go_at_call 85; (with_reducible refine (impl_AreArticles.calls k _ _ l0 _ _ ?_ HC0.1 A3.1).mono ?_); exact vc HR0.1; rintro e w14 ⟨rfl, hb⟩; replace HB := bs HB hb; (try clear hb)) | (go_at_call 92; (with_reducible refine (impl_areCounts.calls k _ _ l0 _ _ l1 _ _ ?_ HC0.1 ?_ HC1.1 A5.1).mono ?_); exact vd HR0.1 HB.1; exact vd HR1.1 HB.1; rintro e w' ⟨rfl, ⟨nd, rfl⟩⟩; (try first | exact ⟨rfl, _, World.drewN_drewN _ _ _⟩ | exact ⟨rfl, _, Eq.trans (World.drewN_drewN _ _ _) (congrArg (World.drewN _) (Nat.add_assoc _ _ _))⟩))))
   go_ret2
   exact ⟨ew, vb HB.1⟩
 ·replace c4 := Bool.eq_false_iff.mpr c4; subst c4; rw [if_neg nf] at H; simp only [Option.some.injEq, Prod.mk.injEq] at H
  obtain ⟨rfl, rfl⟩ := H; go_enter Try.func49, Try.ntmps49; go_wp2_with (first | (go_at_call 85; (with_reducible refine (impl_AreArticles.calls k _ _ l0 _ _ ?_ HC0.1 A3.1).mono ?_); exact vc HR0.1; rintro e w15 ⟨rfl, hb⟩; replace HB := bs HB hb; (try clear hb)))
  repeat (go_quiet (first | (go_at_call 85; (with_reducible refine (impl_AreArticles.calls k _ _ l0 _ _ ?_ HC0.1 A3.1).mono ?_); exact vc HR0.1; rintro e w15 ⟨rfl, hb⟩; replace HB := bs HB hb; (try clear hb))); try go_wp2_with (first | (go_at_call 85; (with_reducible refine (impl_AreArticles.calls k _ _ l0 _ _ ?_ HC0.1 A3.1).mono ?_); exact vc HR0.1; rintro e w15 ⟨rfl, hb⟩; replace HB := bs HB hb; (try clear hb))))
  go_ret2
  exact ⟨ew, vb HB.1⟩


/-! ### laws_sum: function 50 -/
def laws_sum.l0 : Nat → List Int → Int → Int → Option (Int)
 | 0, _, _, _ => none
 | k + 1, x4, x3, x0 => if x0 < (x4.length : Int) then (if 0 ≤ x0 then (laws_sum.l0 k x4 (wrap64 (x3 + (rd x4 x0))) (wrap64 (x0 + 1))) else (none)) else (some x3)
def laws_sum.f (k : Nat) (l0 : List Int) : Option (Int) := laws_sum.l0 k l0 0 0
set_option maxHeartbeats 8000000 in
set_option maxRecDepth 100000 in
theorem laws_sum.calls (k : Nat) (A0 : Option Addr) (c0 : Nat) (l0 : List Int) (r : Int) (w : World) (hr0 : Kd.C (Kd.int .i64) w A0 l0.length l0) (hc0 : l0.length ≤ c0) (h : laws_sum.f k l0 = some r) :
  Calls Try.prog 50 #[.slice A0 l0.length c0] w fun e w' => e = .returned (.int .i64 r) ∧ Drawn0 w w' := by
 have HR0 := ak hr0; have HC0 := ak hc0; clear hr0 hc0; unfold laws_sum.f at h; have H := h; clear h; have H' := ak H; clear H; go_enter Try.func50, Try.ntmps50; go_wp2
 go_loopg [3, 4] k (fun kq v3 v0 w' => ∃ (x3_1 : Int) (x0_1 : Int), v3 = .int .i64 x3_1 ∧ v0 = .int .i64 x0_1 ∧ Aside0 (laws_sum.l0 kq l0 x3_1 x0_1 = some r) ∧ Aside0 (kq ≤ k) ∧ Drawn0 w w')
 case atStart => exact ⟨(0), (0), es, es, H', ⟨Nat.le_refl _⟩, by repeat (first | exact Drawn0.refl _ | apply Drawn0.step)⟩
 case round =>
  clear H'; obtain ⟨x3_1, x0_1, rfl, rfl, HA, HK1, ⟨m1, rfl⟩⟩ := hrel
  cases gk with
  | zero => exact absurd HA.1 (by simp [laws_sum.l0])
  | succ k1 =>
   have H := HA.1; clear HA; simp only [laws_sum.l0] at H
   by_cases c2 : x0_1 < (l0.length : Int)
   ·rw [if_pos c2] at H; have c2b0 := decide_eq_true c2; clear c2; by_cases c3 : 0 ≤ x0_1
    ·rw [if_pos c3] at H; have c3b0 := decide_eq_true c3; clear c3; have H' := ak H; clear H; have p2 : 0 ≤ (x0_1 : Int) := od; have q2 : x0_1 < (l0.length : Int) := od; obtain ⟨ad2, e2, hx2_4⟩ := Kd.at_int HR0.1 x0_1 p2 q2
     cases e2; replace p2 := eq_true p2; replace q2 := eq_true q2; go_wp2
     go_roundg k1
     case measure => have := HK1.1; omega
     case rel => exact ⟨(wrap64 (x3_1 + (rd l0 x0_1))), (wrap64 (x0_1 + 1)), es, es, H', ⟨by have := HK1.1; omega⟩, by repeat (first | exact Drawn0.refl _ | apply Drawn0.step)⟩
    ·exact nO_ c3 H
   ·rw [if_neg c2] at H; have c2b0 := decide_eq_false c2; clear c2; obtain rfl := sj H; go_wp2
    go_ret
    exact ⟨by first | rfl | (simp; done) | (simp [*]; done), by repeat (first | exact Drawn0.refl _ | apply Drawn0.step)⟩


end Go.Proofs.Ytnfmfebmjlglgaa.Pall
