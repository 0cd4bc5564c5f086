/- Go functions of the program, each as a Lean function, and the proof that each call comes to what the Lean function tells; no condition beyond those that stand there. -/
import Derived.Test.YtnfmfebmjlglgaaF00
import Derived.Test.YtnfmfebmjlglgaaF05
import Derived.Test.YtnfmfebmjlglgaaF19
import Derived.Test.YtnfmfebmjlglgaaSq
import Derived.Test.YtnfmfebmjlglgaaWLast
import Derived.Test.YtnfmfebmjlglgaaWTab
import Derived.Test.YtnfmfebmjlglgaaSpare
import Derived.Test.YtnfmfebmjlglgaaCm
import Derived.Test.YtnfmfebmjlglgaaCm3
import Derived.Test.YtnfmfebmjlglgaaCm6
import Derived.Test.YtnfmfebmjlglgaaCm10
import Derived.Test.YtnfmfebmjlglgaaCm9
namespace Go.Proofs.Ytnfmfebmjlglgaa.Pall
open Go.RowKit Go.Proofs.YtnfmfebmjlglgaaW.PrintWords Go.Proofs.YtnfmfebmjlglgaaW.PrintLast
set_option linter.unusedVariables false
set_option linter.unusedSimpArgs false

/-! ### spec_UnloadTube: function 29 -/
def spec_UnloadTube.j0 : Nat → Int → Int → Bool → Int → Int → List Int → List ByteArray → Option (Int × Int × List Int × List ByteArray × ByteArray × Int)
 | 0, _, _, _, _, _, _, _ => none
 | k + 1, x8, x17, x9, x21, x22, x23, x11 => if x9 = true then (if 5 = 0 then ((spec_l17With.f x21 x22 x23 x11 x8 (⟨#[]⟩ : ByteArray)).bind fun bt13 => (if 0 ≤ x8 then (if x8 < (x11.length : Int) then (some (bt13.1, bt13.2.1, bt13.2.2.1, bt13.2.2.2, rdOf ByteArray.empty x11 x8, 0)) else (none)) else (none))) else (some (0, 0, ([] : List Int), ([] : List ByteArray), (⟨#[]⟩ : ByteArray), 5))) else (if x17 = 0 then ((spec_l17With.f x21 x22 x23 x11 x8 (⟨#[]⟩ : ByteArray)).bind fun bt7 => (if 0 ≤ x8 then (if x8 < (x11.length : Int) then (some (bt7.1, bt7.2.1, bt7.2.2.1, bt7.2.2.2, rdOf ByteArray.empty x11 x8, 0)) else (none)) else (none))) else (some (0, 0, ([] : List Int), ([] : List ByteArray), (⟨#[]⟩ : ByteArray), x17)))
def spec_UnloadTube.f (k : Nat) (l0 : List (S67)) (a1_0 : Int) (a1_1 : Int) (l1_2 : List Int) (l1_3 : List ByteArray) (a2 : Int) : Option (Int × Int × List Int × List ByteArray × ByteArray × Int) := (spec_l17Code.f k l0 a1_0 a1_1 l1_2 l1_3 a2).bind fun t10 => (if t10 = 0 then (if 0 ≤ a2 then (if a2 < (l1_3.length : Int) then (spec_UnloadTube.j0 k a2 t10 ((rdOf ByteArray.empty l1_3 a2).toList == ([] : List UInt8)) a1_0 a1_1 l1_2 l1_3) else (none)) else (none)) else (spec_UnloadTube.j0 k a2 t10 false a1_0 a1_1 l1_2 l1_3))
def spec_UnloadTube.T6 : Bool × List (List Nat × List Nat) := (true, [([], []), ([], []), ([0, 1], [0, 1]), ([], []), ([3], [3]), ([], []), ([4, 5], [4, 5]), ([6], [6]), ([2, 2, 0, 1, 2], [2]), ([7, 8, 0, 1, 2, 3, 4, 5, 6, 7, 8], [7]), ([9, 0, 1, 2, 3, 4, 5, 6, 7, 8, 9], [])])
def spec_UnloadTube.B6 : List Nat := [0, 0, 3, 0, 8, 0, 56, 120, 7, 511, 1023]
theorem spec_UnloadTube.tab6 : rtab .any (opsOf Try.f29 6) = spec_UnloadTube.T6 := by kernel_rfl
theorem spec_UnloadTube.bits6 : waitsOk spec_UnloadTube.T6.2 spec_UnloadTube.B6 = true := by kernel_rfl
set_option maxHeartbeats 8000000 in
set_option maxRecDepth 100000 in
theorem spec_UnloadTube.calls (k : Nat) (A0 : Option Addr) (c0 : Nat) (l0 : List (S67)) (a1_0 : Int) (a1_1 : Int) (A1_2 : Option Addr) (c1_2 : Nat) (l1_2 : List Int) (A1_3 : Option Addr) (c1_3 : Nat) (l1_3 : List ByteArray) (a2 : Int) (r1 : Int) (r2 : Int) (r3 : List Int) (r4 : List ByteArray) (r5 : ByteArray) (r6 : Int) (w : World) (hr0 : Kd.C k67 w A0 l0.length l0) (hc0 : l0.length ≤ c0) (hr1_2 : Kd.C (Kd.int .i64) w A1_2 l1_2.length l1_2) (hc1_2 : l1_2.length ≤ c1_2) (hr1_3 : Kd.C Kd.string w A1_3 l1_3.length l1_3) (hc1_3 : l1_3.length ≤ c1_3) (h : spec_UnloadTube.f k l0 a1_0 a1_1 l1_2 l1_3 a2 = some (r1, r2, r3, r4, r5, r6)) :
  Calls Try.prog 29 #[.slice A0 l0.length c0, .agg #[.int .i64 a1_0, .int .i64 a1_1, .slice A1_2 l1_2.length c1_2, .slice A1_3 l1_3.length c1_3], .int .i64 a2] w fun e w' => ∃ v2_ v3_ : Value, e = .returned (.tuple #[.agg #[.int .i64 r1, .int .i64 r2, v2_, v3_], .string r5, .int .i64 r6]) ∧ Kd.R (Kd.int .i64) 2 w' w.heap.size (fun _ => True) v2_ r3 ∧ Kd.R Kd.string 9 w' w.heap.size (fun _ => True) v3_ r4 ∧ Below w.heap.size w w' := by
 have hu33 := Try.underlying33; have HR0 := ak hr0; have HC0 := ak hc0; clear hr0 hc0; have HR1_2 := ak hr1_2; have HC1_2 := ak hc1_2; clear hr1_2 hc1_2; have HR1_3 := ak hr1_3; have HC1_3 := ak hc1_3; clear hr1_3 hc1_3; have HB := ak (Below.refl w.heap.size w); unfold spec_UnloadTube.f at h; have H := h; clear h; obtain ⟨t10, A4, H⟩ := bnk H; have HC5 := ak H; clear H; go_enter Try.func29, Try.ntmps29; go_upto_region 2 with (first | ((with_reducible refine gate_dst (N := 4) rfl ?_); refine bx 4 #[.int .i64 a1_0, .int .i64 a1_1, .slice A1_2 l1_2.length c1_2, .slice A1_3 l1_3.length c1_3] 33 ?_; intro gb1 hg w6 hbox hb; have BK1 := ak hbox; have GW608 := gw hg HB; have GE1 := gw hg HB; replace HB := bs HB hb; clear hb hbox hg) | ((with_reducible refine gate_dst (N := 6) rfl ?_); refine bx 6 #[.int .i64 0, .int .i64 0, .slice none 0 0, .slice none 0 0] 33 ?_; intro gb0 hg w7 hbox hb; have BK0 := ak hbox; have GW609 := gw hg HB; have GE0 := gw hg HB; replace HB := bs HB hb; have NB1_0 := nl hg BK1; have NB0_1 := nr hg BK1; replace BK1 := kb BK1 hb; clear hb hbox hg; have := NB1_0.1; have := NB0_1.1; have hcz17 := cz4 BK1.1) | ((with_reducible refine at_fn (f := 59) rfl ?_); refine gl (some 13) Try.func59 #[.slice A0 l0.length c0, .agg #[.int .i64 a1_0, .int .i64 a1_1, .slice A1_2 l1_2.length c1_2, .slice A1_3 l1_3.length c1_3], .int .i64 a2] ?_; (with_reducible refine (spec_l17Code.calls k _ _ l0 a1_0 a1_1 _ _ l1_2 _ _ l1_3 a2 t10 _ ?_ HC0.1 ?_ HC1_2.1 ?_ HC1_3.1 A4.1).mono ?_); exact vd HR0.1 HB.1; exact vd HR1_2.1 HB.1; exact vd HR1_3.1 HB.1; rintro e w10 ⟨rfl, hb⟩; refine ⟨_, rfl, ?_⟩; replace BK1 := kb BK1 hb; replace BK0 := kb BK0 hb; replace HB := bs HB hb; (try clear hb)))
 (try simp only [Act.put, List.setIfInBounds_toArray, List.set_cons_zero, List.set_cons_succ])
 go_cut [23] (fun v9 wc => ∃ (kq : Nat) (x9_12 : Bool), v9 = .bool x9_12 ∧ Aside0 (spec_UnloadTube.j0 kq a2 t10 x9_12 a1_0 a1_1 l1_2 l1_3 = some (r1, r2, r3, r4, r5, r6)) ∧ Aside0 (kq ≤ k) ∧ Aside0 (wc.heap[gb1]? = some (.cells #[.int .i64 a1_0, .int .i64 a1_1, (.slice A1_2 l1_2.length c1_2), (.slice A1_3 l1_3.length c1_3)] 33 (0, 0))) ∧ Aside0 (wc.heap[gb0]? = some (.cells #[.int .i64 0, .int .i64 0, (.slice none 0 0), (.slice none 0 0)] 33 (0, 0))) ∧ Aside0 (Below w.heap.size w wc))
 case first =>
  have H := HC5.1; clear HC5; by_cases c11 : t10 = 0
  ·rw [if_pos c11] at H; obtain ⟨c11b0, c11b1⟩ := bqt c11; clear c11; (first | rw [c11b0] | (simp only [i64_w, i32_w]; rw [c11b0]) | skip)
   by_cases c12 : 0 ≤ a2
   ·rw [if_pos c12] at H; have c12b0 := decide_eq_true c12; clear c12; by_cases c13 : a2 < (l1_3.length : Int)
    ·rw [if_pos c13] at H; have c13b0 := decide_eq_true c13; clear c13; have H' := ak H; clear H; have := NB1_0.1; have := NB0_1.1; have hcz24 := cz4 BK1.1; have p4 : 0 ≤ (a2 : Int) := od; have q4 : a2 < (l1_3.length : Int) := od; obtain ⟨ad4, e4, hx4_3⟩ := Kd.at_string HR1_3.1 a2 p4 q4
     cases e4; replace hx4_3 := cb HB.1 hx4_3; replace p4 := eq_true p4; replace q4 := eq_true q4; go_wp2
     go_meet
     case rel => exact ⟨_, (((rdOf ByteArray.empty l1_3 a2).toList == ([] : List UInt8))), es, H', ⟨by first | omega | exact Nat.le_refl _⟩, ⟨vk BK1.1⟩, ⟨vk BK0.1⟩, ⟨vb HB.1⟩⟩
    ·exact nO_ c13 H
   ·exact nO_ c12 H
  ·rw [if_neg c11] at H; obtain ⟨c11b0, c11b1⟩ := bqf c11; (first | rw [c11b0] | (simp only [i64_w, i32_w]; rw [c11b0]) | skip)
   have H' := ak H; clear H; go_wp2
   go_meet
   case rel => exact ⟨_, (false), es, H', ⟨by first | omega | exact Nat.le_refl _⟩, ⟨vk BK1.1⟩, ⟨vk BK0.1⟩, ⟨vb HB.1⟩⟩
 case rest =>
  clear HC5; obtain ⟨kq, x9_12, rfl, HA, HJ4, BK1, BK0, HB⟩ := hcut
  cases kq with
  | zero => exact absurd HA.1 (by simp [spec_UnloadTube.j0])
  | succ kj4 =>
   have H := HA.1; clear HA; simp only [spec_UnloadTube.j0] at H
   by_cases c16 : x9_12 = true
   ·subst c16; rw [if_pos rfl] at H; by_cases c17 : 5 = 0
    ·exact absurd c17 (by decide)
    ·rw [if_neg c17] at H; obtain ⟨c17b0, c17b1⟩ := bqf c17; simp only [Option.some.injEq, Prod.mk.injEq] at H
     obtain ⟨rfl, rfl, rfl, rfl, rfl, rfl⟩ := H; have := NB0_1.1; have := NB1_0.1; have hcz25 := cz4 BK0.1; go_wp2
     refine bodyPost_ret (results_ctt rfl _ _ gb0 33 #[.int .i64 0, .int .i64 0, .slice none 0 0, .slice none 0 0] (0, 0) _ rfl (vz BK0.1) Try.underlying33 rfl (by kernel_rfl)) rfl ?_; exact ⟨_, _, ew, by first | exact Kd.R_nil _ _ _ _ _ | exact Kd.N_nil _ _ _ _ _ | exact Kd.V_nil _ _ _ _ _ | exact Kd.Q_nil _ _ _ _ _ | exact Kd.S_nil _ _ _ _ _, by first | exact Kd.R_nil _ _ _ _ _ | exact Kd.N_nil _ _ _ _ _ | exact Kd.V_nil _ _ _ _ _ | exact Kd.Q_nil _ _ _ _ _ | exact Kd.S_nil _ _ _ _ _, vb HB.1⟩
   ·replace c16 := Bool.eq_false_iff.mpr c16; subst c16; rw [if_neg nf] at H; by_cases c31 : t10 = 0
    ·rw [if_pos c31] at H; obtain ⟨c31b0, c31b1⟩ := bqt c31; clear c31; obtain ⟨⟨t7, t14, t15, t16⟩, A320, H⟩ := bnd H; dsimp only at H; have A32 := ak A320; clear A320; by_cases c33 : 0 ≤ a2
     ·rw [if_pos c33] at H; have c33b0 := decide_eq_true c33; clear c33; by_cases c34 : a2 < (l1_3.length : Int)
      ·rw [if_pos c34] at H; have c34b0 := decide_eq_true c34; clear c34; simp only [Option.some.injEq, Prod.mk.injEq] at H
       obtain ⟨rfl, rfl, rfl, rfl, rfl, rfl⟩ := H; (try go_wp2)
       replace BK1 := ak (blk_drew BK1.1); replace BK0 := ak (blk_drew BK0.1); replace HB := ak (below_drew1 HB.1); have p2 : 0 ≤ (a2 : Int) := od; have q2 : a2 < (l1_3.length : Int) := od; obtain ⟨ad2, e2, hx2_3⟩ := Kd.at_string HR1_3.1 a2 p2 q2; have hw2_3 := hx2_3
       cases e2; replace hx2_3 := cb HB.1 hx2_3; replace p2 := eq_true p2; replace q2 := eq_true q2; refine start_ (n := 11) (S := fun w' => w'.cell? ⟨gb1, 0, none⟩ = some (.int .i64 a1_0) ∧ w'.cell? ⟨gb1, 1, none⟩ = some (.int .i64 a1_1) ∧ w'.cell? ⟨gb1, 2, none⟩ = some (.slice A1_2 l1_2.length c1_2) ∧ w'.cell? ⟨gb1, 3, none⟩ = some (.slice (some ad2) l1_3.length c1_3) ∧ w'.cell? (ad2.add (a2).toNat) = some (.string (rdOf ByteArray.empty l1_3 a2))) (ds := []) (tf 0 11) (by kernel_rfl) rfl rfl ⟨bk BK1.1 0, bk BK1.1 1, bk BK1.1 2, bk BK1.1 3, (cb HB.1 hw2_3 :)⟩ (fun hHeld => ?_); refine with_tabW spec_UnloadTube.tab6 spec_UnloadTube.bits6 (fun HT_ HW_ => ?_); generalize wc.drew = w35 at BK1 BK0 HB hx2_3 hHeld ⊢; refine pu_ 1 29 (tM [0, 1, 1, 9]) rfl rfl ?_; refine pu_ 3 31 (tM [0, 1, 1, 1, 1, 7]) rfl rfl ?_; refine pu_ 5 33 (tM [0, 1, 1, 1, 1, 1, 1, 5]) rfl rfl ?_; refine ta5_ 0 28 (tM [2, 1, 1, 1, 1, 5]) rfl rfl ?_; refine ta5_ 4 32 (tM [2, 1, 3, 5]) rfl rfl ?_; refine pu_ 6 34 (tM [2, 1, 4, 4]) rfl rfl ?_
       refine ta5_ 7 35 (tM [2, 1, 5, 3]) rfl rfl ?_; refine one_ (i := 2) (N := some 30) (tf 8 3) rfl rfl (one_of HT_.1 (by kernel_rfl)) (by decide) (fun K hK => ?_); refine goes_ Try.func76 (by kernel_rfl) rfl #[.agg #[.int .i64 a1_0, .int .i64 a1_1, .slice A1_2 l1_2.length c1_2, .slice (some ad2) l1_3.length c1_3], .int .i64 a2, .string (⟨#[]⟩ : ByteArray)] (by rfl) rfl rfl (by (try simp only [List.map_toArray, List.map_cons, List.map_nil]); first | done | rfl | (simp only [List.length_drop, List.length_take]; rfl)) ?_; with_reducible refine (spec_l17With.calls a1_0 a1_1 _ _ l1_2 _ _ l1_3 a2 (⟨#[]⟩ : ByteArray) t7 t14 t15 t16 _ ?_ ?_ ?_ ?_ A32.1).mono ?_
       exact vd HR1_2.1 HB.1
       exact HC1_2.1
       exact vd HR1_3.1 HB.1
       exact HC1_3.1
       rintro e w36 ⟨v27, v28, rfl, ho3, ho18, hb⟩; refine ⟨_, rfl, ?_⟩; have HO19 := ak (Kd.R_lower ho3 (below_size (vb HB.1))); have HO20 := ak (Kd.R_lower ho18 (below_size (vb HB.1))); replace BK1 := kb BK1 hb; replace BK0 := kb BK0 hb; replace HB := bs HB hb; (try clear hb)
       (try clear hb2)
       (try clear hk)
       (try clear hi)
       (try clear ho3)
       (try clear ho18)
       obtain ⟨Ao5, co5, eo5⟩ := Kd.R_slice HO19.1; (first | subst eo5 | (injection eo5 with f1_ f2_ f3_; have f4_ := f1_.symm; have f5_ := f3_.symm; clear f1_ f2_ f3_; subst f4_; subst f5_))
       obtain ⟨Ao6, co6, eo6⟩ := Kd.R_slice HO20.1; (first | subst eo6 | (injection eo6 with f1_ f2_ f3_; have f4_ := f1_.symm; have f5_ := f3_.symm; clear f1_ f2_ f3_; subst f4_; subst f5_))
       refine hK.out _ _ ⟨bk BK1.1 0, bk BK1.1 1, bk BK1.1 2, bk BK1.1 3, (cb HB.1 hw2_3 :)⟩ (fun hHeld => ?_); clear hK K; refine norm_ (a' := ?_) ?_ ?_
       rotate_left
       ·show Act.put _ (some 30) _ = _
        simp only [Act.put, List.setIfInBounds_toArray, List.set_cons_zero, List.set_cons_succ, i64_w, i32_w]
        rfl
       refine one_ (i := 8) (N := none) (tf 9 2) rfl rfl (one_of HT_.1 (by kernel_rfl)) (by decide) (fun K hK => ?_); have hs37 : w36.cell? ⟨gb0, 0, none⟩ = some (.int .i64 0) := bk BK0.1 0; have hfs37 := blk_frozen BK0.1 0; have hns37_0 := NB1_0.1; have hms37_0 := NB0_1.1; have hs38 : w36.cell? ⟨gb0, 1, none⟩ = some (.int .i64 0) := bk BK0.1 1; have hfs38 := blk_frozen BK0.1 1; have hns38_0 := NB1_0.1; have hms38_0 := NB0_1.1; have hs40 : w36.cell? ⟨gb0, 2, none⟩ = some (.slice none 0 0) := bk BK0.1 2; have hfs40 := blk_frozen BK0.1 2; have hns40_0 := NB1_0.1; have hms40_0 := NB0_1.1; have hs42 : w36.cell? ⟨gb0, 3, none⟩ = some (.slice none 0 0) := bk BK0.1 3; have hfs42 := blk_frozen BK0.1 3; have hns42_0 := NB1_0.1; have hms42_0 := NB0_1.1; refine skip_ (w1 := ?_) (by rfl) rfl ?_ ?_
       rotate_left
       ·go_simp
        rfl
       refine hK.out _ _ ⟨cfa hHeld.1, cfa hHeld.2.1, cfa hHeld.2.2.1, cfa hHeld.2.2.2.1, ((cell_far (p := ⟨gb0, _, none⟩) (by first | exact Nat.ne_of_lt (Nat.lt_of_lt_of_le (by have := World.block_lt_of_cell? _ _ hw2_3; first | rwa [add_block] at this | exact this) GW609.1) | (rw [add_block]; exact Nat.ne_of_lt (Nat.lt_of_lt_of_le (by have := World.block_lt_of_cell? _ _ hw2_3; first | rwa [add_block] at this | exact this) GW609.1)) | (show (Addr.add _ _).block ≠ _; rw [add_block]; exact Nat.ne_of_lt (Nat.lt_of_lt_of_le (by have := World.block_lt_of_cell? _ _ hw2_3; first | rwa [add_block] at this | exact this) GW609.1)) | (dsimp only; exact Nat.ne_of_lt (Nat.lt_of_lt_of_le (by have := World.block_lt_of_cell? _ _ hw2_3; first | rwa [add_block] at this | exact this) GW609.1))) _).trans (((cell_far (p := ⟨gb0, _, none⟩) (by first | exact Nat.ne_of_lt (Nat.lt_of_lt_of_le (by have := World.block_lt_of_cell? _ _ hw2_3; first | rwa [add_block] at this | exact this) GW609.1) | (rw [add_block]; exact Nat.ne_of_lt (Nat.lt_of_lt_of_le (by have := World.block_lt_of_cell? _ _ hw2_3; first | rwa [add_block] at this | exact this) GW609.1)) | (show (Addr.add _ _).block ≠ _; rw [add_block]; exact Nat.ne_of_lt (Nat.lt_of_lt_of_le (by have := World.block_lt_of_cell? _ _ hw2_3; first | rwa [add_block] at this | exact this) GW609.1)) | (dsimp only; exact Nat.ne_of_lt (Nat.lt_of_lt_of_le (by have := World.block_lt_of_cell? _ _ hw2_3; first | rwa [add_block] at this | exact this) GW609.1))) _).trans (((cell_far (p := ⟨gb0, _, none⟩) (by first | exact Nat.ne_of_lt (Nat.lt_of_lt_of_le (by have := World.block_lt_of_cell? _ _ hw2_3; first | rwa [add_block] at this | exact this) GW609.1) | (rw [add_block]; exact Nat.ne_of_lt (Nat.lt_of_lt_of_le (by have := World.block_lt_of_cell? _ _ hw2_3; first | rwa [add_block] at this | exact this) GW609.1)) | (show (Addr.add _ _).block ≠ _; rw [add_block]; exact Nat.ne_of_lt (Nat.lt_of_lt_of_le (by have := World.block_lt_of_cell? _ _ hw2_3; first | rwa [add_block] at this | exact this) GW609.1)) | (dsimp only; exact Nat.ne_of_lt (Nat.lt_of_lt_of_le (by have := World.block_lt_of_cell? _ _ hw2_3; first | rwa [add_block] at this | exact this) GW609.1))) _).trans (((cell_far (p := ⟨gb0, _, none⟩) (by first | exact Nat.ne_of_lt (Nat.lt_of_lt_of_le (by have := World.block_lt_of_cell? _ _ hw2_3; first | rwa [add_block] at this | exact this) GW609.1) | (rw [add_block]; exact Nat.ne_of_lt (Nat.lt_of_lt_of_le (by have := World.block_lt_of_cell? _ _ hw2_3; first | rwa [add_block] at this | exact this) GW609.1)) | (show (Addr.add _ _).block ≠ _; rw [add_block]; exact Nat.ne_of_lt (Nat.lt_of_lt_of_le (by have := World.block_lt_of_cell? _ _ hw2_3; first | rwa [add_block] at this | exact this) GW609.1)) | (dsimp only; exact Nat.ne_of_lt (Nat.lt_of_lt_of_le (by have := World.block_lt_of_cell? _ _ hw2_3; first | rwa [add_block] at this | exact this) GW609.1))) _).trans (hHeld.2.2.2.2))))))))⟩ (fun hHeld => ?_)
       clear hK K; refine pu_ 9 7 (tf 10 1) rfl rfl ?_; refine pu_ 10 8 (tf 11 0) rfl rfl ?_; refine done_ (done_of HT_.1 (by kernel_rfl)) ?_; (try go_wp2)
       refine bodyPost_ret (results_ctt rfl _ _ gb0 33 #[.int .i64 t7, .int .i64 t14, .slice Ao5 t15.length co5, .slice Ao6 t16.length co6] (0, 0) _ rfl (vz BK0.1) Try.underlying33 rfl (by kernel_rfl)) rfl ?_; exact ⟨_, _, ew, vr (Kd.R_mono (fr gb0 3 (fr gb0 2 (fr gb0 1 (fr gb0 0 (Kd.R_types HO19.1 BK0.1 (by decide)) (fun _ hk => hk.2) (.int .i64 t7)) (fun _ hk => hk.2) (.int .i64 t14)) (fun _ hk => hk.2) (.slice Ao5 t15.length co5)) (fun _ hk => hk.2) (.slice Ao6 t16.length co6)) (fun _ hk => trivial)), vr (Kd.R_mono (fr gb0 3 (fr gb0 2 (fr gb0 1 (fr gb0 0 (Kd.R_types HO20.1 BK0.1 (by decide)) (fun _ hk => hk.2) (.int .i64 t7)) (fun _ hk => hk.2) (.int .i64 t14)) (fun _ hk => hk.2) (.slice Ao5 t15.length co5)) (fun _ hk => hk.2) (.slice Ao6 t16.length co6)) (fun _ hk => trivial)), vb HB.1⟩
      ·exact nO_ c34 H
     ·exact nO_ c33 H
    ·rw [if_neg c31] at H; obtain ⟨c31b0, c31b1⟩ := bqf c31; simp only [Option.some.injEq, Prod.mk.injEq] at H
     obtain ⟨rfl, rfl, rfl, rfl, rfl, rfl⟩ := H; have := NB0_1.1; have := NB1_0.1; have hcz26 := cz4 BK0.1; go_wp2
     refine bodyPost_ret (results_ctt rfl _ _ gb0 33 #[.int .i64 0, .int .i64 0, .slice none 0 0, .slice none 0 0] (0, 0) _ rfl (vz BK0.1) Try.underlying33 rfl (by kernel_rfl)) rfl ?_; exact ⟨_, _, ew, by first | exact Kd.R_nil _ _ _ _ _ | exact Kd.N_nil _ _ _ _ _ | exact Kd.V_nil _ _ _ _ _ | exact Kd.Q_nil _ _ _ _ _ | exact Kd.S_nil _ _ _ _ _, by first | exact Kd.R_nil _ _ _ _ _ | exact Kd.N_nil _ _ _ _ _ | exact Kd.V_nil _ _ _ _ _ | exact Kd.Q_nil _ _ _ _ _ | exact Kd.S_nil _ _ _ _ _, vb HB.1⟩


end Go.Proofs.Ytnfmfebmjlglgaa.Pall
