/- Go functions of the program, each as a Lean function, and the proof that each call comes to what the Lean function tells; no condition beyond those that stand there. -/
import Derived.Test.YtancnecddlbhkaaF00
import Derived.Test.YtancnecddlbhkaaF02
import Derived.Test.YtancnecddlbhkaaF07
import Derived.Test.YtancnecddlbhkaaF09
import Derived.Test.YtancnecddlbhkaaF21
import Derived.Test.YtancnecddlbhkaaSq
import Derived.Test.YtancnecddlbhkaaWLast
import Derived.Test.YtancnecddlbhkaaWMore
import Derived.Test.YtancnecddlbhkaaWN
import Derived.Test.YtancnecddlbhkaaWTab
import Derived.Test.YtancnecddlbhkaaSpare
import Derived.Test.YtancnecddlbhkaaCm
import Derived.Test.YtancnecddlbhkaaCm4
import Derived.Test.YtancnecddlbhkaaCm3
import Derived.Test.YtancnecddlbhkaaCm6
namespace Go.Proofs.Ytancnecddlbhkaa.Pall
open Go.RowKit Go.Proofs.YtancnecddlbhkaaW.PrintWords Go.Proofs.YtancnecddlbhkaaW.PrintLast Go.Proofs.YtancnecddlbhkaaW.PrintMore
set_option linter.unusedVariables false
set_option linter.unusedSimpArgs false

/-! ### spec_BestPlacing: function 35 -/
def spec_BestPlacing.l0 : Nat → List (List Int) → List Int → Int → List (S98) → List (S103) → List Int → List Int → List Int → Int → Option (List Int × Int × Int)
 | 0, _, _, _, _, _, _, _, _, _ => none
 | k + 1, x7, x1, x4, x17, x18, x19, x20, x21, x22 => if x4 < (x7.length : Int) then (if 0 ≤ x4 then ((spec_l18Cost.f k x17 x18 x19 x20 x21 x22 (rd_L5 x7 x4)).bind fun t15 => ((spec_l18Cost.f k x17 x18 x19 x20 x21 x22 x1).bind fun t16 => (if t15 < t16 then (spec_BestPlacing.l0 k x7 (rd_L5 x7 x4) (wrap64 (x4 + 1)) x17 x18 x19 x20 x21 x22) else (spec_BestPlacing.l0 k x7 x1 (wrap64 (x4 + 1)) x17 x18 x19 x20 x21 x22)))) else (none)) else ((spec_l18Cost.f k x17 x18 x19 x20 x21 x22 x1).bind fun t24 => (some (x1, t24, 0)))
def spec_BestPlacing.f (k : Nat) (l0_0 : List (S98)) (l0_1 : List (S103)) (l0_2 : List Int) (l0_3 : List Int) (l0_4 : List Int) (a0_5 : Int) : Option (List Int × Int × Int) := (spec_IsField.f k l0_0 l0_1 l0_2 l0_3 l0_4 a0_5).bind fun t23 => (if t23 = true then ((spec_l18Placings.f k l0_0 l0_1 l0_2 l0_3 l0_4 a0_5).bind fun t6 => (if (t6.length : Int) = 0 then (some (([] : List Int), 0, 4)) else (if 0 < (t6.length : Int) then (spec_BestPlacing.l0 k t6 (rd_L5 t6 0) 0 l0_0 l0_1 l0_2 l0_3 l0_4 a0_5) else (none)))) else (some (([] : List Int), 0, 1)))
def spec_BestPlacing.T10 : Bool × List (List Nat × List Nat) := (true, [([], []), ([], []), ([], []), ([1, 2], [1, 2]), ([3], [3]), ([0, 4], [0, 4]), ([], []), ([], []), ([6, 7, 5], [6, 7]), ([5, 8], [5, 8])])
def spec_BestPlacing.B10 : List Nat := [0, 0, 0, 6, 14, 31, 0, 0, 255, 511]
theorem spec_BestPlacing.tab10 : rtab .any (opsOf Try.f35 10) = spec_BestPlacing.T10 := by kernel_rfl
theorem spec_BestPlacing.bits10 : waitsOk spec_BestPlacing.T10.2 spec_BestPlacing.B10 = true := by kernel_rfl
set_option maxHeartbeats 8000000 in
set_option maxRecDepth 100000 in
theorem spec_BestPlacing.calls (k : Nat) (A0_0 : Option Addr) (c0_0 : Nat) (l0_0 : List (S98)) (A0_1 : Option Addr) (c0_1 : Nat) (l0_1 : List (S103)) (A0_2 : Option Addr) (c0_2 : Nat) (l0_2 : List Int) (A0_3 : Option Addr) (c0_3 : Nat) (l0_3 : List Int) (A0_4 : Option Addr) (c0_4 : Nat) (l0_4 : List Int) (a0_5 : Int) (r1 : List Int) (r2 : Int) (r3 : Int) (w : World) (hr0_0 : Kd.C k98 w A0_0 l0_0.length l0_0) (hc0_0 : l0_0.length ≤ c0_0) (hr0_1 : Kd.C k103 w A0_1 l0_1.length l0_1) (hc0_1 : l0_1.length ≤ c0_1) (hr0_2 : Kd.C (Kd.int .i64) w A0_2 l0_2.length l0_2) (hc0_2 : l0_2.length ≤ c0_2) (hr0_3 : Kd.C (Kd.int .i64) w A0_3 l0_3.length l0_3) (hc0_3 : l0_3.length ≤ c0_3) (hr0_4 : Kd.C (Kd.int .i64) w A0_4 l0_4.length l0_4) (hc0_4 : l0_4.length ≤ c0_4) (h : spec_BestPlacing.f k l0_0 l0_1 l0_2 l0_3 l0_4 a0_5 = some (r1, r2, r3)) :
  Calls Try.prog 35 #[.agg (f5 A0_0 l0_0 c0_0 A0_1 l0_1 c0_1 A0_2 l0_2 c0_2 A0_3 l0_3 c0_3 A0_4 l0_4 c0_4 a0_5)] w fun e w' => ∃ v0_ : Value, e = .returned (.tuple #[v0_, .int .i64 r2, .int .i64 r3]) ∧ Kd.V (Kd.int .i64) 2 w' w.heap.size (fun k_ => (w.heap.size ≤ k_)) v0_ r1 ∧ Below w.heap.size w w' := by
 have hu33 := Try.underlying33; have HR0_0 := ak hr0_0; have HC0_0 := ak hc0_0; clear hr0_0 hc0_0; have HR0_1 := ak hr0_1; have HC0_1 := ak hc0_1; clear hr0_1 hc0_1; have HR0_2 := ak hr0_2; have HC0_2 := ak hc0_2; clear hr0_2 hc0_2; have HR0_3 := ak hr0_3; have HC0_3 := ak hc0_3; clear hr0_3 hc0_3; have HR0_4 := ak hr0_4; have HC0_4 := ak hc0_4; clear hr0_4 hc0_4; have HB := ak (Below.refl w.heap.size w); unfold spec_BestPlacing.f at h; have H := h; clear h; obtain ⟨t23, A2, H⟩ := bnk H; by_cases c3 : t23 = true
 subst c3; rw [if_pos rfl] at H; obtain ⟨t6, A4, H⟩ := bnk H; by_cases c5 : (t6.length : Int) = 0
 rw [if_pos c5] at H; obtain ⟨c5b0, c5b1⟩ := bqt c5; clear c5; simp only [Option.some.injEq, Prod.mk.injEq] at H
 obtain ⟨rfl, rfl, rfl⟩ := H; rotate_left
 rw [if_neg c5] at H; obtain ⟨c5b0, c5b1⟩ := bqf c5; have c5b2 : ¬ (t6 = []) := fun h_ => c5 (by rw [h_]; rfl)
 by_cases c12 : 0 < (t6.length : Int)
 ·rw [if_pos c12] at H; have c12b0 := decide_eq_true c12; have c12b1 : decide (0 < t6.length) = true := decide_eq_true (by omega); clear c12; have H' := ak H; clear H; go_enter Try.func35, Try.ntmps35; go_wp2_with (first | ((with_reducible refine gate_dst (N := 1) rfl ?_); refine bx 1 (f5 A0_0 l0_0 c0_0 A0_1 l0_1 c0_1 A0_2 l0_2 c0_2 A0_3 l0_3 c0_3 A0_4 l0_4 c0_4 a0_5) 33 ?_; intro gb0 hg w13 hbox hb; have BK0 := ak hbox; have GW859 := gw hg HB; have GE0 := gw hg HB; replace HB := bs HB hb; clear hb hbox hg; have hcz28 := cz6 BK0.1) | ((with_reducible refine at_fn (f := 58) rfl ?_); refine gl (some 9) Try.func58 #[.agg (f5 A0_0 l0_0 c0_0 A0_1 l0_1 c0_1 A0_2 l0_2 c0_2 A0_3 l0_3 c0_3 A0_4 l0_4 c0_4 a0_5)] ?_; (with_reducible refine (spec_IsField.calls k _ _ l0_0 _ _ l0_1 _ _ l0_2 _ _ l0_3 _ _ l0_4 a0_5 _ _ ?_ HC0_0.1 ?_ HC0_1.1 ?_ HC0_2.1 ?_ HC0_3.1 ?_ HC0_4.1 A2.1).mono ?_); exact vd HR0_0.1 HB.1; exact vd HR0_1.1 HB.1; exact vd HR0_2.1 HB.1; exact vd HR0_3.1 HB.1; exact vd HR0_4.1 HB.1; rintro e w15 ⟨rfl, hb⟩; refine ⟨_, rfl, ?_⟩; replace BK0 := kb BK0 hb; replace HB := bs HB hb; (try clear hb); have hcz29 := cz6 BK0.1) | ((with_reducible refine at_fn (f := 59) rfl ?_); refine gl (some 12) Try.func59 #[.agg (f5 A0_0 l0_0 c0_0 A0_1 l0_1 c0_1 A0_2 l0_2 c0_2 A0_3 l0_3 c0_3 A0_4 l0_4 c0_4 a0_5)] ?_; (with_reducible refine (spec_l18Placings.calls k _ _ l0_0 _ _ l0_1 _ _ l0_2 _ _ l0_3 _ _ l0_4 a0_5 t6 _ ?_ HC0_0.1 ?_ HC0_1.1 ?_ HC0_2.1 ?_ HC0_3.1 ?_ HC0_4.1 A4.1).mono ?_); exact vd HR0_0.1 HB.1; exact vd HR0_1.1 HB.1; exact vd HR0_2.1 HB.1; exact vd HR0_3.1 HB.1; exact vd HR0_4.1 HB.1; rintro e w17 ⟨v27, rfl, ho5, hb⟩; refine ⟨_, rfl, ?_⟩; have HO10 := ak (Kd.N_lower (Kd.N_mono (ok' := fun k_ => (w.heap.size ≤ k_) ∧ k_ ≠ gb0) ho5 (fun k_ hk_ => ⟨(Nat.le_trans (below_size (vb HB.1)) hk_), (Kd.freshB (g := gb0) (o := .cells (f5 A0_0 l0_0 c0_0 A0_1 l0_1 c0_1 A0_2 l0_2 c0_2 A0_3 l0_3 c0_3 A0_4 l0_4 c0_4 a0_5) 33 (0, 0)) (vk BK0.1) k_ hk_)⟩)) (below_size (vb HB.1))); replace BK0 := kb BK0 hb; replace HB := bs HB hb; (try clear hb); (try clear ho5); obtain ⟨Ao13, co13, eo13⟩ := Kd.N_slice HO10.1; subst eo13; have p8 : 0 ≤ (0 : Int) := (by omega); have q8 : 0 < (t6.length : Int) := od; obtain ⟨ad8, A864_0, c864_0, e8, hx8_5, hl864_0, hi864_0⟩ := at_L5 (Kd.N_reads' HO10.1).2.2 0 p8 q8; cases e8; obtain ⟨ce864, hce864, hMe864, hcc864⟩ := Kd.N_get HO10.1 [] 0 p8 (by first | exact q8 | exact od | (have e_ := (Kd.N_reads' HO10.1).1; omega)); obtain ⟨ua864_0, uc864_0, rfl, ul864_0, ge864_0⟩ := Kd.FK_slice_open hMe864; have hv8_5 := hcc864 0 _ rfl; rw [Nat.add_zero, show ((Kd.slice 2 (Kd.int .i64))).sz = 1 from rfl, Nat.mul_one] at hv8_5; replace hv8_5 := Option.some.inj (hv8_5.symm.trans hx8_5); injection hv8_5 with hva_ hvn_ hvc_; rw [hva_] at ge864_0; rw [hvc_] at ul864_0; have HL864_0 := ak (show Kd.V (Kd.int .i64) 2 _ w.heap.size _ _ (rd_L5 t6 0) from Kd.V_mk ul864_0 ge864_0); clear hva_ hvn_ hvc_ ge864_0 ul864_0; clear hcc864 hce864; have qi864 : (0 < t6.length) = True := eq_true (by omega); (try rw [show ((0 : Int)).toNat = 0 from rfl] at hx8_5); (try rw [Addr.add_zero'] at hx8_5); have HR864_0 := ak hi864_0; have HC864_0 := ak hl864_0; clear hi864_0 hl864_0; replace p8 := eq_true p8; replace q8 := eq_true q8))
  go_loopg [6, 7] k (fun kq v1 v4 w' => ∃ (x1_3 : List Int) (x4_3 : Int), v4 = .int .i64 x4_3 ∧ Aside0 (spec_BestPlacing.l0 kq t6 x1_3 x4_3 l0_0 l0_1 l0_2 l0_3 l0_4 a0_5 = some (r1, r2, r3)) ∧ Aside0 (kq ≤ k) ∧ Aside0 (Kd.N (Kd.slice 2 (Kd.int .i64)) 24 w' w.heap.size (fun k_ => (w.heap.size ≤ k_) ∧ k_ ≠ gb0) (.slice (some ad8) t6.length co13) t6) ∧ Aside0 (Kd.V (Kd.int .i64) 2 w' w.heap.size (fun k_ => (w.heap.size ≤ k_) ∧ nB k_ (some ad8) t6.length co13 ∧ k_ ≠ gb0) v1 x1_3) ∧ Aside0 (w'.heap[gb0]? = some (.cells (f5 A0_0 l0_0 c0_0 A0_1 l0_1 c0_1 A0_2 l0_2 c0_2 A0_3 l0_3 c0_3 A0_4 l0_4 c0_4 a0_5) 33 (0, 0))) ∧ Aside0 (Kd.C (Kd.int .i64) w' A864_0 (rd_L5 t6 0).length (rd_L5 t6 0)) ∧ Aside0 (Below w.heap.size w w'))
  case atStart => exact ⟨(rd_L5 t6 0), (0), es, H', ⟨Nat.le_refl _⟩, ⟨vN HO10.1⟩, ⟨by (with_reducible repeat (first | apply Kd.V_alloc | apply Kd.V_drewN | apply Kd.V_drew)); exact Kd.V_mono HL864_0.1 (fun _ hk => ⟨hk.1.1, ⟨hk.2, hk.1.2⟩⟩)⟩, ⟨vk BK0.1⟩, ⟨by repeat (first | (with_reducible exact HR864_0.1) | (with_reducible refine Kd.C_alloc ?_ _) | (with_reducible refine Kd.C_drewN ?_ _) | (with_reducible refine Kd.C_drew ?_) | exact HR864_0.1)⟩, ⟨vb HB.1⟩⟩
  case round =>
   clear H'; obtain ⟨x1_3, x4_3, rfl, HA, HK1, HO_7, HO_1, BK0, HR864_0, HB⟩ := hrel
   cases gk with
   | zero => exact absurd HA.1 (by simp [spec_BestPlacing.l0])
   | succ k1 =>
    have H := HA.1; clear HA; simp only [spec_BestPlacing.l0] at H
    by_cases c19 : x4_3 < (t6.length : Int)
    ·rw [if_pos c19] at H; have c19b0 := decide_eq_true c19; clear c19; by_cases c20 : 0 ≤ x4_3
     ·rw [if_pos c20] at H; have c20b0 := decide_eq_true c20; clear c20; obtain ⟨t15, A21, H⟩ := bnk H; obtain ⟨t16, A22, H⟩ := bnk H; by_cases c23 : t15 < t16
      ·rw [if_pos c23] at H; have c23b0 := decide_eq_true c23; clear c23; have H' := ak H; clear H; (try go_wp2)
       replace HO_7 := ak (Kd.N_drew HO_7.1); replace HO_1 := ak (Kd.V_drew HO_1.1); replace BK0 := ak (blk_drew BK0.1); replace HR864_0 := ak (Kd.C_drew HR864_0.1); replace HB := ak (below_drew1 HB.1); have p2 : 0 ≤ (x4_3 : Int) := od; have q2 : x4_3 < (t6.length : Int) := od; obtain ⟨ad2, A866_0, c866_0, e2, hx2_5, hl866_0, hi866_0⟩ := at_L5 (Kd.N_reads' HO_7.1).2.2 x4_3 p2 q2; obtain rfl : ad8 = ad2 := (by injection e2); obtain ⟨ce866, hce866, hMe866, hcc866⟩ := Kd.N_get HO_7.1 [] x4_3 p2 (by first | exact q2 | exact od | (have e_ := (Kd.N_reads' HO_7.1).1; omega)); obtain ⟨ua866_0, uc866_0, rfl, ul866_0, ge866_0⟩ := Kd.FK_slice_open hMe866; have hv2_5 := hcc866 0 _ rfl; rw [Nat.add_zero, show ((Kd.slice 2 (Kd.int .i64))).sz = 1 from rfl, Nat.mul_one] at hv2_5; replace hv2_5 := Option.some.inj (hv2_5.symm.trans hx2_5); injection hv2_5 with hva_ hvn_ hvc_
       rw [hva_] at ge866_0; rw [hvc_] at ul866_0; have HL866_0 := ak (show Kd.V (Kd.int .i64) 2 _ w.heap.size _ _ (rd_L5 t6 x4_3) from Kd.V_mk ul866_0 ge866_0); clear hva_ hvn_ hvc_ ge866_0 ul866_0; clear hcc866 hce866; have HR866_0 := ak hi866_0; have HC866_0 := ak hl866_0; clear hi866_0 hl866_0; replace p2 := eq_true p2; replace q2 := eq_true q2; refine start_ (n := 10) (S := fun w' => w'.cell? ⟨gb0, 0, none⟩ = some (.slice A0_0 l0_0.length c0_0) ∧ w'.cell? ⟨gb0, 1, none⟩ = some (.slice A0_1 l0_1.length c0_1) ∧ w'.cell? ⟨gb0, 2, none⟩ = some (.slice A0_2 l0_2.length c0_2) ∧ w'.cell? ⟨gb0, 3, none⟩ = some (.slice A0_3 l0_3.length c0_3) ∧ w'.cell? ⟨gb0, 4, none⟩ = some (.slice A0_4 l0_4.length c0_4) ∧ w'.cell? ⟨gb0, 5, none⟩ = some (.int .i64 a0_5) ∧ w'.cell? (ad8.add (x4_3).toNat) = some (.slice A866_0 (rd_L5 t6 x4_3).length c866_0)) (ds := []) (tf 0 10) (by kernel_rfl) rfl rfl ⟨bk BK0.1 0, bk BK0.1 1, bk BK0.1 2, bk BK0.1 3, bk BK0.1 4, bk BK0.1 5, hx2_5⟩ (fun hHeld => ?_); refine with_tabW spec_BestPlacing.tab10 spec_BestPlacing.bits10 (fun HT_ HW_ => ?_); generalize wr.drew = w24 at HO_7 HO_1 BK0 HR864_0 HB HL866_0 HR866_0 hx2_5 hHeld ⊢; refine pu_ 1 26 (tM [0, 1, 1, 8]) rfl rfl ?_; refine pu_ 2 27 (tM [0, 1, 2, 7]) rfl rfl ?_
       refine pu_ 3 28 (tM [0, 1, 3, 6]) rfl rfl ?_; refine pu_ 7 32 (tM [0, 1, 3, 3, 1, 2]) rfl rfl ?_; refine ta7_ 0 25 (tM [4, 3, 1, 2]) rfl rfl ?_; refine ta7_ 4 29 (tM [5, 2, 1, 2]) rfl rfl ?_; refine ta7_ 6 31 (tM [5, 1, 2, 2]) rfl rfl ?_; refine one_ (i := 5) (N := some 30) (tf 8 2) rfl rfl (one_of HT_.1 (by kernel_rfl)) (by decide) (fun K hK => ?_); refine goes_ Try.func76 (by kernel_rfl) rfl #[.agg (f5 A0_0 l0_0 c0_0 A0_1 l0_1 c0_1 A0_2 l0_2 c0_2 A0_3 l0_3 c0_3 A0_4 l0_4 c0_4 a0_5), .slice A866_0 (rd_L5 t6 x4_3).length c866_0] (by rfl) rfl rfl (by (try simp only [List.map_toArray, List.map_cons, List.map_nil]); first | done | rfl | (simp only [List.length_drop, List.length_take]; rfl)) ?_; with_reducible refine (spec_l18Cost.calls k1 _ _ l0_0 _ _ l0_1 _ _ l0_2 _ _ l0_3 _ _ l0_4 a0_5 _ _ (rd_L5 t6 x4_3) t15 _ ?_ ?_ ?_ ?_ ?_ ?_ ?_ ?_ ?_ ?_ ?side11 ?_ A21.1).mono ?_
       exact vd HR0_0.1 HB.1
       exact HC0_0.1
       exact vd HR0_1.1 HB.1
       exact HC0_1.1
       exact vd HR0_2.1 HB.1
       exact HC0_2.1
       exact vd HR0_3.1 HB.1
       exact HC0_3.1
       exact vd HR0_4.1 HB.1
       exact HC0_4.1
       (case side11 => repeat (first | exact (by repeat (first | (with_reducible exact HR866_0.1) | (with_reducible refine Kd.C_alloc ?_ _) | (with_reducible refine Kd.C_drewN ?_ _) | (with_reducible refine Kd.C_drew ?_) | exact HR866_0.1)) | (with_reducible refine Kd.C_alloc ?_ _) | (with_reducible refine Kd.C_drewN ?_ _) | (with_reducible refine Kd.C_drew ?_)))
       exact HC866_0.1
       rintro e w25 ⟨rfl, hb⟩; have HS6_ := (hb.cell (World.block_lt_of_cell? _ _ (hHeld.2.2.2.2.2.2))).trans (hHeld.2.2.2.2.2.2); refine ⟨_, rfl, ?_⟩; replace HO_7 := ak (Kd.N_below (vN HO_7.1) hb); replace HO_1 := ak (Kd.V_below (vV HO_1.1) hb); replace HL866_0 := ak (Kd.V_below (vV HL866_0.1) hb); replace BK0 := kb BK0 hb; replace HR864_0 := ak (Kd.C_below (by repeat (first | (with_reducible exact HR864_0.1) | (with_reducible refine Kd.C_alloc ?_ _) | (with_reducible refine Kd.C_drewN ?_ _) | (with_reducible refine Kd.C_drew ?_) | exact HR864_0.1)) hb); replace HR866_0 := ak (Kd.C_below (by repeat (first | (with_reducible exact HR866_0.1) | (with_reducible refine Kd.C_alloc ?_ _) | (with_reducible refine Kd.C_drewN ?_ _) | (with_reducible refine Kd.C_drew ?_) | exact HR866_0.1)) hb); replace HB := bs HB hb; (try clear hb)
       (try clear hb2)
       (try clear hk)
       (try clear hi)
       obtain ⟨Ao11, co11, eo11⟩ := Kd.V_slice HO_1.1; (first | subst eo11 | (injection eo11 with f1_ f2_ f3_; have f4_ := f1_.symm; have f5_ := f3_.symm; clear f1_ f2_ f3_; subst f4_; subst f5_))
       refine hK.out _ _ ⟨bk BK0.1 0, bk BK0.1 1, bk BK0.1 2, bk BK0.1 3, bk BK0.1 4, bk BK0.1 5, HS6_⟩ (fun hHeld => ?_); clear hK K; refine norm_ (a' := ?_) ?_ ?_
       rotate_left
       ·show Act.put _ (some 30) _ = _
        simp only [Act.put, List.setIfInBounds_toArray, List.set_cons_zero, List.set_cons_succ, i64_w, i32_w]
        rfl
       refine one_ (i := 8) (N := some 33) (tf 9 1) rfl rfl (one_of HT_.1 (by kernel_rfl)) (by decide) (fun K hK => ?_); refine goes_ Try.func76 (by kernel_rfl) rfl #[.agg (f5 A0_0 l0_0 c0_0 A0_1 l0_1 c0_1 A0_2 l0_2 c0_2 A0_3 l0_3 c0_3 A0_4 l0_4 c0_4 a0_5), .slice Ao11 x1_3.length co11] (by rfl) rfl rfl (by (try simp only [List.map_toArray, List.map_cons, List.map_nil]); first | done | rfl | (simp only [List.length_drop, List.length_take]; rfl)) ?_; with_reducible refine (spec_l18Cost.calls k1 _ _ l0_0 _ _ l0_1 _ _ l0_2 _ _ l0_3 _ _ l0_4 a0_5 _ _ x1_3 t16 _ ?_ ?_ ?_ ?_ ?_ ?_ ?_ ?_ ?_ ?_ ?_ ?_ A22.1).mono ?_
       exact vd HR0_0.1 HB.1
       exact HC0_0.1
       exact vd HR0_1.1 HB.1
       exact HC0_1.1
       exact vd HR0_2.1 HB.1
       exact HC0_2.1
       exact vd HR0_3.1 HB.1
       exact HC0_3.1
       exact vd HR0_4.1 HB.1
       exact HC0_4.1
       exact vc (Kd.V_reads' HO_1.1).2.2
       exact (Kd.V_reads' HO_1.1).2.1
       rintro e w27 ⟨rfl, hb⟩; have HS6_ := (hb.cell (World.block_lt_of_cell? _ _ (hHeld.2.2.2.2.2.2))).trans (hHeld.2.2.2.2.2.2); refine ⟨_, rfl, ?_⟩; replace HO_7 := ak (Kd.N_below (vN HO_7.1) hb); replace HO_1 := ak (Kd.V_below (vV HO_1.1) hb); replace HL866_0 := ak (Kd.V_below (vV HL866_0.1) hb); replace BK0 := kb BK0 hb; replace HR864_0 := ak (Kd.C_below (by repeat (first | (with_reducible exact HR864_0.1) | (with_reducible refine Kd.C_alloc ?_ _) | (with_reducible refine Kd.C_drewN ?_ _) | (with_reducible refine Kd.C_drew ?_) | exact HR864_0.1)) hb); replace HR866_0 := ak (Kd.C_below (by repeat (first | (with_reducible exact HR866_0.1) | (with_reducible refine Kd.C_alloc ?_ _) | (with_reducible refine Kd.C_drewN ?_ _) | (with_reducible refine Kd.C_drew ?_) | exact HR866_0.1)) hb); replace HB := bs HB hb; (try clear hb)
       (try clear hb2)
       (try clear hk)
       (try clear hi)
       refine hK.out _ _ ⟨bk BK0.1 0, bk BK0.1 1, bk BK0.1 2, bk BK0.1 3, bk BK0.1 4, bk BK0.1 5, HS6_⟩ (fun hHeld => ?_); clear hK K; refine norm_ (a' := ?_) ?_ ?_
       rotate_left
       ·show Act.put _ (some 33) _ = _
        simp only [Act.put, List.setIfInBounds_toArray, List.set_cons_zero, List.set_cons_succ, i64_w, i32_w]
        rfl
       refine pu_ 9 34 (tf 10 0) rfl rfl ?_; refine done_ (done_of HT_.1 (by kernel_rfl)) ?_; have p9 : 0 ≤ (x4_3 : Int) := od; have q9 : x4_3 < (t6.length : Int) := od; obtain ⟨ad9, A869_0, c869_0, e9, hx9_5, hl869_0, hi869_0⟩ := at_L5 (Kd.N_reads' HO_7.1).2.2 x4_3 p9 q9
       (try clear hHeld)
       (try clear HS6_)
       obtain rfl : ad8 = ad9 := (by injection e9); obtain ⟨ce869, hce869, hMe869, hcc869⟩ := Kd.N_get HO_7.1 [] x4_3 p9 (by first | exact q9 | exact od | (have e_ := (Kd.N_reads' HO_7.1).1; omega)); obtain ⟨ua869_0, uc869_0, rfl, ul869_0, ge869_0⟩ := Kd.FK_slice_open hMe869; have hv9_5 := hcc869 0 _ rfl; rw [Nat.add_zero, show ((Kd.slice 2 (Kd.int .i64))).sz = 1 from rfl, Nat.mul_one] at hv9_5; replace hv9_5 := Option.some.inj (hv9_5.symm.trans hx9_5); injection hv9_5 with hva_ hvn_ hvc_
       rw [hva_] at ge869_0; rw [hvc_] at ul869_0; have HL869_0 := ak (show Kd.V (Kd.int .i64) 2 _ w.heap.size _ _ (rd_L5 t6 x4_3) from Kd.V_mk ul869_0 ge869_0); clear hva_ hvn_ hvc_ ge869_0 ul869_0; clear hcc869 hce869; have HR869_0 := ak hi869_0; have HC869_0 := ak hl869_0; clear hi869_0 hl869_0; replace p9 := eq_true p9; replace q9 := eq_true q9; (try go_wp2)
       go_roundg k1
       case measure => have := HK1.1; omega
       case rel => exact ⟨(rd_L5 t6 x4_3), (wrap64 (x4_3 + 1)), es, H', ⟨by have := HK1.1; omega⟩, ⟨vN HO_7.1⟩, ⟨by (with_reducible repeat (first | apply Kd.V_alloc | apply Kd.V_drewN | apply Kd.V_drew)); exact Kd.V_mono HL869_0.1 (fun _ hk => ⟨hk.1.1, ⟨hk.2, hk.1.2⟩⟩)⟩, ⟨vk BK0.1⟩, ⟨by repeat (first | (with_reducible exact HR864_0.1) | (with_reducible refine Kd.C_alloc ?_ _) | (with_reducible refine Kd.C_drewN ?_ _) | (with_reducible refine Kd.C_drew ?_) | exact HR864_0.1)⟩, ⟨vb HB.1⟩⟩
      ·rw [if_neg c23] at H; have c23b0 := decide_eq_false c23; clear c23; have H' := ak H; clear H; (try go_wp2)
       replace HO_7 := ak (Kd.N_drew HO_7.1); replace HO_1 := ak (Kd.V_drew HO_1.1); replace BK0 := ak (blk_drew BK0.1); replace HR864_0 := ak (Kd.C_drew HR864_0.1); replace HB := ak (below_drew1 HB.1); have p2 : 0 ≤ (x4_3 : Int) := od; have q2 : x4_3 < (t6.length : Int) := od; obtain ⟨ad2, A866_0, c866_0, e2, hx2_5, hl866_0, hi866_0⟩ := at_L5 (Kd.N_reads' HO_7.1).2.2 x4_3 p2 q2; obtain rfl : ad8 = ad2 := (by injection e2); obtain ⟨ce866, hce866, hMe866, hcc866⟩ := Kd.N_get HO_7.1 [] x4_3 p2 (by first | exact q2 | exact od | (have e_ := (Kd.N_reads' HO_7.1).1; omega)); obtain ⟨ua866_0, uc866_0, rfl, ul866_0, ge866_0⟩ := Kd.FK_slice_open hMe866; have hv2_5 := hcc866 0 _ rfl; rw [Nat.add_zero, show ((Kd.slice 2 (Kd.int .i64))).sz = 1 from rfl, Nat.mul_one] at hv2_5; replace hv2_5 := Option.some.inj (hv2_5.symm.trans hx2_5); injection hv2_5 with hva_ hvn_ hvc_
       rw [hva_] at ge866_0; rw [hvc_] at ul866_0; have HL866_0 := ak (show Kd.V (Kd.int .i64) 2 _ w.heap.size _ _ (rd_L5 t6 x4_3) from Kd.V_mk ul866_0 ge866_0); clear hva_ hvn_ hvc_ ge866_0 ul866_0; clear hcc866 hce866; have HR866_0 := ak hi866_0; have HC866_0 := ak hl866_0; clear hi866_0 hl866_0; replace p2 := eq_true p2; replace q2 := eq_true q2; refine start_ (n := 10) (S := fun w' => w'.cell? ⟨gb0, 0, none⟩ = some (.slice A0_0 l0_0.length c0_0) ∧ w'.cell? ⟨gb0, 1, none⟩ = some (.slice A0_1 l0_1.length c0_1) ∧ w'.cell? ⟨gb0, 2, none⟩ = some (.slice A0_2 l0_2.length c0_2) ∧ w'.cell? ⟨gb0, 3, none⟩ = some (.slice A0_3 l0_3.length c0_3) ∧ w'.cell? ⟨gb0, 4, none⟩ = some (.slice A0_4 l0_4.length c0_4) ∧ w'.cell? ⟨gb0, 5, none⟩ = some (.int .i64 a0_5) ∧ w'.cell? (ad8.add (x4_3).toNat) = some (.slice A866_0 (rd_L5 t6 x4_3).length c866_0)) (ds := []) (tf 0 10) (by kernel_rfl) rfl rfl ⟨bk BK0.1 0, bk BK0.1 1, bk BK0.1 2, bk BK0.1 3, bk BK0.1 4, bk BK0.1 5, hx2_5⟩ (fun hHeld => ?_); refine with_tabW spec_BestPlacing.tab10 spec_BestPlacing.bits10 (fun HT_ HW_ => ?_); generalize wr.drew = w28 at HO_7 HO_1 BK0 HR864_0 HB HL866_0 HR866_0 hx2_5 hHeld ⊢; refine pu_ 1 26 (tM [0, 1, 1, 8]) rfl rfl ?_; refine pu_ 2 27 (tM [0, 1, 2, 7]) rfl rfl ?_
       refine pu_ 3 28 (tM [0, 1, 3, 6]) rfl rfl ?_; refine pu_ 7 32 (tM [0, 1, 3, 3, 1, 2]) rfl rfl ?_; refine ta7_ 0 25 (tM [4, 3, 1, 2]) rfl rfl ?_; refine ta7_ 4 29 (tM [5, 2, 1, 2]) rfl rfl ?_; refine ta7_ 6 31 (tM [5, 1, 2, 2]) rfl rfl ?_; refine one_ (i := 5) (N := some 30) (tf 8 2) rfl rfl (one_of HT_.1 (by kernel_rfl)) (by decide) (fun K hK => ?_); refine goes_ Try.func76 (by kernel_rfl) rfl #[.agg (f5 A0_0 l0_0 c0_0 A0_1 l0_1 c0_1 A0_2 l0_2 c0_2 A0_3 l0_3 c0_3 A0_4 l0_4 c0_4 a0_5), .slice A866_0 (rd_L5 t6 x4_3).length c866_0] (by rfl) rfl rfl (by (try simp only [List.map_toArray, List.map_cons, List.map_nil]); first | done | rfl | (simp only [List.length_drop, List.length_take]; rfl)) ?_; with_reducible refine (spec_l18Cost.calls k1 _ _ l0_0 _ _ l0_1 _ _ l0_2 _ _ l0_3 _ _ l0_4 a0_5 _ _ (rd_L5 t6 x4_3) t15 _ ?_ ?_ ?_ ?_ ?_ ?_ ?_ ?_ ?_ ?_ ?side11 ?_ A21.1).mono ?_
       exact vd HR0_0.1 HB.1
       exact HC0_0.1
       exact vd HR0_1.1 HB.1
       exact HC0_1.1
       exact vd HR0_2.1 HB.1
       exact HC0_2.1
       exact vd HR0_3.1 HB.1
       exact HC0_3.1
       exact vd HR0_4.1 HB.1
       exact HC0_4.1
       (case side11 => repeat (first | exact (by repeat (first | (with_reducible exact HR866_0.1) | (with_reducible refine Kd.C_alloc ?_ _) | (with_reducible refine Kd.C_drewN ?_ _) | (with_reducible refine Kd.C_drew ?_) | exact HR866_0.1)) | (with_reducible refine Kd.C_alloc ?_ _) | (with_reducible refine Kd.C_drewN ?_ _) | (with_reducible refine Kd.C_drew ?_)))
       exact HC866_0.1
       rintro e w29 ⟨rfl, hb⟩; have HS6_ := (hb.cell (World.block_lt_of_cell? _ _ (hHeld.2.2.2.2.2.2))).trans (hHeld.2.2.2.2.2.2); refine ⟨_, rfl, ?_⟩; replace HO_7 := ak (Kd.N_below (vN HO_7.1) hb); replace HO_1 := ak (Kd.V_below (vV HO_1.1) hb); replace HL866_0 := ak (Kd.V_below (vV HL866_0.1) hb); replace BK0 := kb BK0 hb; replace HR864_0 := ak (Kd.C_below (by repeat (first | (with_reducible exact HR864_0.1) | (with_reducible refine Kd.C_alloc ?_ _) | (with_reducible refine Kd.C_drewN ?_ _) | (with_reducible refine Kd.C_drew ?_) | exact HR864_0.1)) hb); replace HR866_0 := ak (Kd.C_below (by repeat (first | (with_reducible exact HR866_0.1) | (with_reducible refine Kd.C_alloc ?_ _) | (with_reducible refine Kd.C_drewN ?_ _) | (with_reducible refine Kd.C_drew ?_) | exact HR866_0.1)) hb); replace HB := bs HB hb; (try clear hb)
       (try clear hb2)
       (try clear hk)
       (try clear hi)
       obtain ⟨Ao12, co12, eo12⟩ := Kd.V_slice HO_1.1; (first | subst eo12 | (injection eo12 with f1_ f2_ f3_; have f4_ := f1_.symm; have f5_ := f3_.symm; clear f1_ f2_ f3_; subst f4_; subst f5_))
       refine hK.out _ _ ⟨bk BK0.1 0, bk BK0.1 1, bk BK0.1 2, bk BK0.1 3, bk BK0.1 4, bk BK0.1 5, HS6_⟩ (fun hHeld => ?_); clear hK K; refine norm_ (a' := ?_) ?_ ?_
       rotate_left
       ·show Act.put _ (some 30) _ = _
        simp only [Act.put, List.setIfInBounds_toArray, List.set_cons_zero, List.set_cons_succ, i64_w, i32_w]
        rfl
       refine one_ (i := 8) (N := some 33) (tf 9 1) rfl rfl (one_of HT_.1 (by kernel_rfl)) (by decide) (fun K hK => ?_); refine goes_ Try.func76 (by kernel_rfl) rfl #[.agg (f5 A0_0 l0_0 c0_0 A0_1 l0_1 c0_1 A0_2 l0_2 c0_2 A0_3 l0_3 c0_3 A0_4 l0_4 c0_4 a0_5), .slice Ao12 x1_3.length co12] (by rfl) rfl rfl (by (try simp only [List.map_toArray, List.map_cons, List.map_nil]); first | done | rfl | (simp only [List.length_drop, List.length_take]; rfl)) ?_; with_reducible refine (spec_l18Cost.calls k1 _ _ l0_0 _ _ l0_1 _ _ l0_2 _ _ l0_3 _ _ l0_4 a0_5 _ _ x1_3 t16 _ ?_ ?_ ?_ ?_ ?_ ?_ ?_ ?_ ?_ ?_ ?_ ?_ A22.1).mono ?_
       exact vd HR0_0.1 HB.1
       exact HC0_0.1
       exact vd HR0_1.1 HB.1
       exact HC0_1.1
       exact vd HR0_2.1 HB.1
       exact HC0_2.1
       exact vd HR0_3.1 HB.1
       exact HC0_3.1
       exact vd HR0_4.1 HB.1
       exact HC0_4.1
       exact vc (Kd.V_reads' HO_1.1).2.2
       exact (Kd.V_reads' HO_1.1).2.1
       rintro e w31 ⟨rfl, hb⟩; have HS6_ := (hb.cell (World.block_lt_of_cell? _ _ (hHeld.2.2.2.2.2.2))).trans (hHeld.2.2.2.2.2.2); refine ⟨_, rfl, ?_⟩; replace HO_7 := ak (Kd.N_below (vN HO_7.1) hb); replace HO_1 := ak (Kd.V_below (vV HO_1.1) hb); replace HL866_0 := ak (Kd.V_below (vV HL866_0.1) hb); replace BK0 := kb BK0 hb; replace HR864_0 := ak (Kd.C_below (by repeat (first | (with_reducible exact HR864_0.1) | (with_reducible refine Kd.C_alloc ?_ _) | (with_reducible refine Kd.C_drewN ?_ _) | (with_reducible refine Kd.C_drew ?_) | exact HR864_0.1)) hb); replace HR866_0 := ak (Kd.C_below (by repeat (first | (with_reducible exact HR866_0.1) | (with_reducible refine Kd.C_alloc ?_ _) | (with_reducible refine Kd.C_drewN ?_ _) | (with_reducible refine Kd.C_drew ?_) | exact HR866_0.1)) hb); replace HB := bs HB hb; (try clear hb)
       (try clear hb2)
       (try clear hk)
       (try clear hi)
       refine hK.out _ _ ⟨bk BK0.1 0, bk BK0.1 1, bk BK0.1 2, bk BK0.1 3, bk BK0.1 4, bk BK0.1 5, HS6_⟩ (fun hHeld => ?_); clear hK K; refine norm_ (a' := ?_) ?_ ?_
       rotate_left
       ·show Act.put _ (some 33) _ = _
        simp only [Act.put, List.setIfInBounds_toArray, List.set_cons_zero, List.set_cons_succ, i64_w, i32_w]
        rfl
       refine pu_ 9 34 (tf 10 0) rfl rfl ?_; refine done_ (done_of HT_.1 (by kernel_rfl)) ?_; (try go_wp2)
       go_roundg k1
       case measure => have := HK1.1; omega
       case rel => exact ⟨(x1_3), (wrap64 (x4_3 + 1)), es, H', ⟨by have := HK1.1; omega⟩, ⟨vN HO_7.1⟩, ⟨vV HO_1.1⟩, ⟨vk BK0.1⟩, ⟨by repeat (first | (with_reducible exact HR864_0.1) | (with_reducible refine Kd.C_alloc ?_ _) | (with_reducible refine Kd.C_drewN ?_ _) | (with_reducible refine Kd.C_drew ?_) | exact HR864_0.1)⟩, ⟨vb HB.1⟩⟩
     ·exact nO_ c20 H
    ·rw [if_neg c19] at H; have c19b0 := decide_eq_false c19; clear c19; obtain ⟨t24, A32, H⟩ := bnk H; simp only [Option.some.injEq, Prod.mk.injEq] at H
     obtain ⟨rfl, rfl, rfl⟩ := H; have hcz30 := cz6 BK0.1; obtain ⟨Ao14, co14, eo14⟩ := Kd.V_slice HO_1.1; subst eo14; go_wp2_with (first | ((with_reducible refine at_fn (f := 76) rfl ?_); refine gl (some 42) Try.func76 #[.agg (f5 A0_0 l0_0 c0_0 A0_1 l0_1 c0_1 A0_2 l0_2 c0_2 A0_3 l0_3 c0_3 A0_4 l0_4 c0_4 a0_5), .slice Ao14 x1_3.length co14] ?_; (with_reducible refine (spec_l18Cost.calls k1 _ _ l0_0 _ _ l0_1 _ _ l0_2 _ _ l0_3 _ _ l0_4 a0_5 _ _ x1_3 t24 _ ?_ HC0_0.1 ?_ HC0_1.1 ?_ HC0_2.1 ?_ HC0_3.1 ?_ HC0_4.1 ?_ ?_ A32.1).mono ?_); exact vd HR0_0.1 HB.1; exact vd HR0_1.1 HB.1; exact vd HR0_2.1 HB.1; exact vd HR0_3.1 HB.1; exact vd HR0_4.1 HB.1; exact vc (Kd.V_reads' HO_1.1).2.2; exact (Kd.V_reads' HO_1.1).2.1; rintro e w35 ⟨rfl, hb⟩; refine ⟨_, rfl, ?_⟩; replace HO_7 := ak (Kd.N_below (vN HO_7.1) hb); replace HO_1 := ak (Kd.V_below (vV HO_1.1) hb); replace BK0 := kb BK0 hb; replace HR864_0 := ak (Kd.C_below (by repeat (first | (with_reducible exact HR864_0.1) | (with_reducible refine Kd.C_alloc ?_ _) | (with_reducible refine Kd.C_drewN ?_ _) | (with_reducible refine Kd.C_drew ?_) | exact HR864_0.1)) hb); replace HB := bs HB hb; (try clear hb)))
     go_ret3
     exact ⟨_, ew, by (with_reducible repeat (first | apply Kd.V_alloc | apply Kd.V_drewN | apply Kd.V_drew)); exact Kd.V_mono HO_1.1 (fun _ hk => hk.1), vb HB.1⟩
 ·exact nO_ c12 H
 replace c3 := Bool.eq_false_iff.mpr c3; subst c3; rw [if_neg nf] at H; simp only [Option.some.injEq, Prod.mk.injEq] at H
 obtain ⟨rfl, rfl, rfl⟩ := H; rotate_left
 all_goals
  go_enter Try.func35, Try.ntmps35; go_wp2_with (first | ((with_reducible refine gate_dst (N := 1) rfl ?_); refine bx 1 (f5 A0_0 l0_0 c0_0 A0_1 l0_1 c0_1 A0_2 l0_2 c0_2 A0_3 l0_3 c0_3 A0_4 l0_4 c0_4 a0_5) 33 ?_; intro gb0 hg w9 hbox hb; have BK0 := ak hbox; have GW859 := gw hg HB; have GE0 := gw hg HB; replace HB := bs HB hb; clear hb hbox hg; have hcz26 := cz6 BK0.1) | ((with_reducible refine at_fn (f := 58) rfl ?_); refine gl (some 9) Try.func58 #[.agg (f5 A0_0 l0_0 c0_0 A0_1 l0_1 c0_1 A0_2 l0_2 c0_2 A0_3 l0_3 c0_3 A0_4 l0_4 c0_4 a0_5)] ?_; (with_reducible refine (spec_IsField.calls k _ _ l0_0 _ _ l0_1 _ _ l0_2 _ _ l0_3 _ _ l0_4 a0_5 _ _ ?_ HC0_0.1 ?_ HC0_1.1 ?_ HC0_2.1 ?_ HC0_3.1 ?_ HC0_4.1 A2.1).mono ?_); exact vd HR0_0.1 HB.1; exact vd HR0_1.1 HB.1; exact vd HR0_2.1 HB.1; exact vd HR0_3.1 HB.1; exact vd HR0_4.1 HB.1; rintro e w9 ⟨rfl, hb⟩; refine ⟨_, rfl, ?_⟩; replace BK0 := kb BK0 hb; replace HB := bs HB hb; (try clear hb); have hcz26 := cz6 BK0.1) | ((with_reducible refine at_fn (f := 59) rfl ?_); refine gl (some 12) Try.func59 #[.agg (f5 A0_0 l0_0 c0_0 A0_1 l0_1 c0_1 A0_2 l0_2 c0_2 A0_3 l0_3 c0_3 A0_4 l0_4 c0_4 a0_5)] ?_; (with_reducible refine (spec_l18Placings.calls k _ _ l0_0 _ _ l0_1 _ _ l0_2 _ _ l0_3 _ _ l0_4 a0_5 t6 _ ?_ HC0_0.1 ?_ HC0_1.1 ?_ HC0_2.1 ?_ HC0_3.1 ?_ HC0_4.1 A4.1).mono ?_); exact vd HR0_0.1 HB.1; exact vd HR0_1.1 HB.1; exact vd HR0_2.1 HB.1; exact vd HR0_3.1 HB.1; exact vd HR0_4.1 HB.1; rintro e w9 ⟨v27, rfl, ho5, hb⟩; refine ⟨_, rfl, ?_⟩; have HO10 := ak (Kd.N_lower (Kd.N_mono (ok' := fun k_ => (w.heap.size ≤ k_) ∧ k_ ≠ gb0) ho5 (fun k_ hk_ => ⟨(Nat.le_trans (below_size (vb HB.1)) hk_), (Kd.freshB (g := gb0) (o := .cells (f5 A0_0 l0_0 c0_0 A0_1 l0_1 c0_1 A0_2 l0_2 c0_2 A0_3 l0_3 c0_3 A0_4 l0_4 c0_4 a0_5) 33 (0, 0)) (vk BK0.1) k_ hk_)⟩)) (below_size (vb HB.1))); replace BK0 := kb BK0 hb; replace HB := bs HB hb; (try clear hb); (try clear ho5); obtain ⟨Ao25, co25, eo25⟩ := Kd.N_slice HO10.1; subst eo25))
  go_ret3
  exact ⟨_, ew, Kd.V_nil _ _ _ _ _, vb HB.1⟩


/-! ### impl_bestPlacing: function 81 -/
def impl_bestPlacing.l0 : Nat → List Int → List (List Int) → Int → Int → List (S98) → List (S103) → List Int → List Int → List Int → Int → Option (List Int × Bool)
 | 0, _, _, _, _, _, _, _, _, _, _ => none
 | k + 1, x2, x7, x22, x4, x15, x16, x17, x18, x19, x20 => if x4 < x22 then (if 0 ≤ x4 then (if x4 < (x7.length : Int) then ((impl_costOf.f k x15 x16 x17 x18 x19 x20 (rd_L5 x7 x4)).bind fun t13 => ((impl_costOf.f k x15 x16 x17 x18 x19 x20 x2).bind fun t14 => (if t13 < t14 then (impl_bestPlacing.l0 k (rd_L5 x7 x4) x7 x22 (wrap64 (x4 + 1)) x15 x16 x17 x18 x19 x20) else (impl_bestPlacing.l0 k x2 x7 x22 (wrap64 (x4 + 1)) x15 x16 x17 x18 x19 x20)))) else (none)) else (none)) else (some (x2, true))
def impl_bestPlacing.f (k : Nat) (l0_0 : List (S98)) (l0_1 : List (S103)) (l0_2 : List Int) (l0_3 : List Int) (l0_4 : List Int) (a0_5 : Int) : Option (List Int × Bool) := (impl_placings.f k l0_0 l0_1 l0_2 l0_3 l0_4 a0_5 ([] : List Int)).bind fun t3 => (if (t3.length : Int) = 0 then (some (([] : List Int), false)) else (if 0 < (t3.length : Int) then (impl_bestPlacing.l0 k (rd_L5 t3 0) t3 (t3.length : Int) 0 l0_0 l0_1 l0_2 l0_3 l0_4 a0_5) else (none)))
set_option maxHeartbeats 8000000 in
set_option maxRecDepth 100000 in
theorem impl_bestPlacing.calls (k : Nat) (A0_0 : Option Addr) (c0_0 : Nat) (l0_0 : List (S98)) (A0_1 : Option Addr) (c0_1 : Nat) (l0_1 : List (S103)) (A0_2 : Option Addr) (c0_2 : Nat) (l0_2 : List Int) (A0_3 : Option Addr) (c0_3 : Nat) (l0_3 : List Int) (A0_4 : Option Addr) (c0_4 : Nat) (l0_4 : List Int) (a0_5 : Int) (r1 : List Int) (r2 : Bool) (w : World) (hr0_0 : Kd.C k98 w A0_0 l0_0.length l0_0) (hc0_0 : l0_0.length ≤ c0_0) (hr0_1 : Kd.C k103 w A0_1 l0_1.length l0_1) (hc0_1 : l0_1.length ≤ c0_1) (hr0_2 : Kd.C (Kd.int .i64) w A0_2 l0_2.length l0_2) (hc0_2 : l0_2.length ≤ c0_2) (hr0_3 : Kd.C (Kd.int .i64) w A0_3 l0_3.length l0_3) (hc0_3 : l0_3.length ≤ c0_3) (hr0_4 : Kd.C (Kd.int .i64) w A0_4 l0_4.length l0_4) (hc0_4 : l0_4.length ≤ c0_4) (h : impl_bestPlacing.f k l0_0 l0_1 l0_2 l0_3 l0_4 a0_5 = some (r1, r2)) :
  Calls Try.prog 81 #[.agg (f5 A0_0 l0_0 c0_0 A0_1 l0_1 c0_1 A0_2 l0_2 c0_2 A0_3 l0_3 c0_3 A0_4 l0_4 c0_4 a0_5)] w fun e w' => ∃ v0_ : Value, e = .returned (.tuple #[v0_, .bool r2]) ∧ Kd.V (Kd.int .i64) 2 w' w.heap.size (fun k_ => (w.heap.size ≤ k_)) v0_ r1 ∧ Below w.heap.size w w' := by
 have hu33 := Try.underlying33; have HR0_0 := ak hr0_0; have HC0_0 := ak hc0_0; clear hr0_0 hc0_0; have HR0_1 := ak hr0_1; have HC0_1 := ak hc0_1; clear hr0_1 hc0_1; have HR0_2 := ak hr0_2; have HC0_2 := ak hc0_2; clear hr0_2 hc0_2; have HR0_3 := ak hr0_3; have HC0_3 := ak hc0_3; clear hr0_3 hc0_3; have HR0_4 := ak hr0_4; have HC0_4 := ak hc0_4; clear hr0_4 hc0_4; have HB := ak (Below.refl w.heap.size w); unfold impl_bestPlacing.f at h; have H := h; clear h; obtain ⟨t3, A2, H⟩ := bnk H; by_cases c3 : (t3.length : Int) = 0
 ·rw [if_pos c3] at H; obtain ⟨c3b0, c3b1⟩ := bqt c3; clear c3; simp only [Option.some.injEq, Prod.mk.injEq] at H
  obtain ⟨rfl, rfl⟩ := H; go_enter Try.func81, Try.ntmps81; go_wp2_with (first | ((with_reducible refine gate_dst (N := 1) rfl ?_); refine bx 1 (f5 A0_0 l0_0 c0_0 A0_1 l0_1 c0_1 A0_2 l0_2 c0_2 A0_3 l0_3 c0_3 A0_4 l0_4 c0_4 a0_5) 33 ?_; intro gb0 hg w4 hbox hb; have BK0 := ak hbox; have GW1167 := gw hg HB; have GE0 := gw hg HB; replace HB := bs HB hb; clear hb hbox hg; have hcz2 := cz6 BK0.1) | ((with_reducible refine at_fn (f := 62) rfl ?_); refine gl (some 9) Try.func62 #[.agg (f5 A0_0 l0_0 c0_0 A0_1 l0_1 c0_1 A0_2 l0_2 c0_2 A0_3 l0_3 c0_3 A0_4 l0_4 c0_4 a0_5), .slice none 0 0] ?_; (refine (impl_placings.calls k _ _ l0_0 _ _ l0_1 _ _ l0_2 _ _ l0_3 _ _ l0_4 a0_5 (fun k_ => False) _ _ ([] : List Int) t3 _ ?_ ?_ ?_ ?_ ?_ ?_ ?_ ?_ ?_ ?_ ?_ A2.1).mono ?_); exact vd HR0_0.1 HB.1; exact HC0_0.1; exact vd HR0_1.1 HB.1; exact HC0_1.1; exact vd HR0_2.1 HB.1; exact HC0_2.1; exact vd HR0_3.1 HB.1; exact HC0_3.1; exact vd HR0_4.1 HB.1; exact HC0_4.1; exact Kd.V_nil _ _ _ _ _; rintro e w6 ⟨v23, rfl, ho6, hb⟩; refine ⟨_, rfl, ?_⟩; have HO9 := ak (Kd.N_lower (Kd.N_mono (ok' := fun k_ => (w.heap.size ≤ k_) ∧ k_ ≠ gb0) ho6 (fun k_ hk_ => ⟨Or.elim hk_ (fun hs_ => (hs_).elim) (fun hn_ => (Nat.le_trans (below_size (vb HB.1)) hn_)), Or.elim hk_ (fun hs_ => (hs_).elim) (fun hn_ => (Kd.freshB (g := gb0) (o := .cells (f5 A0_0 l0_0 c0_0 A0_1 l0_1 c0_1 A0_2 l0_2 c0_2 A0_3 l0_3 c0_3 A0_4 l0_4 c0_4 a0_5) 33 (0, 0)) (vk BK0.1) k_ hn_))⟩)) (below_size (vb HB.1))); replace BK0 := kb BK0 hb; replace HB := bs HB hb; (try clear hb); (try clear ho6); obtain ⟨Ao21, co21, eo21⟩ := Kd.N_slice HO9.1; subst eo21))
  go_ret2
  exact ⟨_, ew, Kd.V_nil _ _ _ _ _, vb HB.1⟩
 ·rw [if_neg c3] at H; obtain ⟨c3b0, c3b1⟩ := bqf c3; have c3b2 : ¬ (t3 = []) := fun h_ => c3 (by rw [h_]; rfl)
  by_cases c8 : 0 < (t3.length : Int)
  ·rw [if_pos c8] at H; have c8b0 := decide_eq_true c8; have c8b1 : decide (0 < t3.length) = true := decide_eq_true (by omega); clear c8; have H' := ak H; clear H; go_enter Try.func81, Try.ntmps81; go_wp2_with (first | ((with_reducible refine gate_dst (N := 1) rfl ?_); refine bx 1 (f5 A0_0 l0_0 c0_0 A0_1 l0_1 c0_1 A0_2 l0_2 c0_2 A0_3 l0_3 c0_3 A0_4 l0_4 c0_4 a0_5) 33 ?_; intro gb0 hg w9 hbox hb; have BK0 := ak hbox; have GW1167 := gw hg HB; have GE0 := gw hg HB; replace HB := bs HB hb; clear hb hbox hg; have hcz24 := cz6 BK0.1) | ((with_reducible refine at_fn (f := 62) rfl ?_); refine gl (some 9) Try.func62 #[.agg (f5 A0_0 l0_0 c0_0 A0_1 l0_1 c0_1 A0_2 l0_2 c0_2 A0_3 l0_3 c0_3 A0_4 l0_4 c0_4 a0_5), .slice none 0 0] ?_; (refine (impl_placings.calls k _ _ l0_0 _ _ l0_1 _ _ l0_2 _ _ l0_3 _ _ l0_4 a0_5 (fun k_ => False) _ _ ([] : List Int) t3 _ ?_ ?_ ?_ ?_ ?_ ?_ ?_ ?_ ?_ ?_ ?_ A2.1).mono ?_); exact vd HR0_0.1 HB.1; exact HC0_0.1; exact vd HR0_1.1 HB.1; exact HC0_1.1; exact vd HR0_2.1 HB.1; exact HC0_2.1; exact vd HR0_3.1 HB.1; exact HC0_3.1; exact vd HR0_4.1 HB.1; exact HC0_4.1; exact Kd.V_nil _ _ _ _ _; rintro e w11 ⟨v23, rfl, ho6, hb⟩; refine ⟨_, rfl, ?_⟩; have HO9 := ak (Kd.N_lower (Kd.N_mono (ok' := fun k_ => (w.heap.size ≤ k_) ∧ k_ ≠ gb0) ho6 (fun k_ hk_ => ⟨Or.elim hk_ (fun hs_ => (hs_).elim) (fun hn_ => (Nat.le_trans (below_size (vb HB.1)) hn_)), Or.elim hk_ (fun hs_ => (hs_).elim) (fun hn_ => (Kd.freshB (g := gb0) (o := .cells (f5 A0_0 l0_0 c0_0 A0_1 l0_1 c0_1 A0_2 l0_2 c0_2 A0_3 l0_3 c0_3 A0_4 l0_4 c0_4 a0_5) 33 (0, 0)) (vk BK0.1) k_ hn_))⟩)) (below_size (vb HB.1))); replace BK0 := kb BK0 hb; replace HB := bs HB hb; (try clear hb); (try clear ho6); obtain ⟨Ao12, co12, eo12⟩ := Kd.N_slice HO9.1; subst eo12; have p8 : 0 ≤ (0 : Int) := (by omega); have q8 : 0 < (t3.length : Int) := od; obtain ⟨ad8, A1171_0, c1171_0, e8, hx8_6, hl1171_0, hi1171_0⟩ := at_L5 (Kd.N_reads' HO9.1).2.2 0 p8 q8; cases e8; obtain ⟨ce1171, hce1171, hMe1171, hcc1171⟩ := Kd.N_get HO9.1 [] 0 p8 (by first | exact q8 | exact od | (have e_ := (Kd.N_reads' HO9.1).1; omega)); obtain ⟨ua1171_0, uc1171_0, rfl, ul1171_0, ge1171_0⟩ := Kd.FK_slice_open hMe1171; have hv8_6 := hcc1171 0 _ rfl; rw [Nat.add_zero, show ((Kd.slice 2 (Kd.int .i64))).sz = 1 from rfl, Nat.mul_one] at hv8_6; replace hv8_6 := Option.some.inj (hv8_6.symm.trans hx8_6); injection hv8_6 with hva_ hvn_ hvc_; rw [hva_] at ge1171_0; rw [hvc_] at ul1171_0; have HL1171_0 := ak (show Kd.V (Kd.int .i64) 2 _ w.heap.size _ _ (rd_L5 t3 0) from Kd.V_mk ul1171_0 ge1171_0); clear hva_ hvn_ hvc_ ge1171_0 ul1171_0; clear hcc1171 hce1171; have qi1171 : (0 < t3.length) = True := eq_true (by omega); (try rw [show ((0 : Int)).toNat = 0 from rfl] at hx8_6); (try rw [Addr.add_zero'] at hx8_6); have HR1171_0 := ak hi1171_0; have HC1171_0 := ak hl1171_0; clear hi1171_0 hl1171_0; replace p8 := eq_true p8; replace q8 := eq_true q8))
   go_loopg [5, 18] k (fun kq v2 v4 w' => ∃ (x2_5 : List Int) (x4_5 : Int), v4 = .int .i64 x4_5 ∧ Aside0 (impl_bestPlacing.l0 kq x2_5 t3 (t3.length : Int) x4_5 l0_0 l0_1 l0_2 l0_3 l0_4 a0_5 = some (r1, r2)) ∧ Aside0 (kq ≤ k) ∧ Aside0 (Kd.V (Kd.int .i64) 2 w' w.heap.size (fun k_ => (w.heap.size ≤ k_) ∧ nB k_ (some ad8) t3.length co12 ∧ k_ ≠ gb0) v2 x2_5) ∧ Aside0 (Kd.N (Kd.slice 2 (Kd.int .i64)) 24 w' w.heap.size (fun k_ => (w.heap.size ≤ k_) ∧ k_ ≠ gb0) (.slice (some ad8) t3.length co12) t3) ∧ Aside0 (w'.heap[gb0]? = some (.cells (f5 A0_0 l0_0 c0_0 A0_1 l0_1 c0_1 A0_2 l0_2 c0_2 A0_3 l0_3 c0_3 A0_4 l0_4 c0_4 a0_5) 33 (0, 0))) ∧ Aside0 (Kd.C (Kd.int .i64) w' A1171_0 (rd_L5 t3 0).length (rd_L5 t3 0)) ∧ Aside0 (Below w.heap.size w w'))
   case atStart => exact ⟨(rd_L5 t3 0), (0), es, H', ⟨Nat.le_refl _⟩, ⟨by (with_reducible repeat (first | apply Kd.V_alloc | apply Kd.V_drewN | apply Kd.V_drew)); exact Kd.V_mono HL1171_0.1 (fun _ hk => ⟨hk.1.1, ⟨hk.2, hk.1.2⟩⟩)⟩, ⟨vN HO9.1⟩, ⟨vk BK0.1⟩, ⟨by repeat (first | (with_reducible exact HR1171_0.1) | (with_reducible refine Kd.C_alloc ?_ _) | (with_reducible refine Kd.C_drewN ?_ _) | (with_reducible refine Kd.C_drew ?_) | exact HR1171_0.1)⟩, ⟨vb HB.1⟩⟩
   case round =>
    clear H'; obtain ⟨x2_5, x4_5, rfl, HA, HK1, HO_2, HO_7, BK0, HR1171_0, HB⟩ := hrel
    cases gk with
    | zero => exact absurd HA.1 (by simp [impl_bestPlacing.l0])
    | succ k1 =>
     have H := HA.1; clear HA; simp only [impl_bestPlacing.l0] at H
     by_cases c13 : x4_5 < (t3.length : Int)
     ·rw [if_pos c13] at H; have c13b0 := decide_eq_true c13; clear c13; by_cases c14 : 0 ≤ x4_5
      ·rw [if_pos c14] at H; have c14b0 := decide_eq_true c14; clear c14; by_cases c15 : x4_5 < (t3.length : Int)
       ·rw [if_pos c15] at H; have c15b0 := decide_eq_true c15; clear c15; obtain ⟨t13, A16, H⟩ := bnk H; obtain ⟨t14, A17, H⟩ := bnk H; by_cases c18 : t13 < t14
        ·rw [if_pos c18] at H; have c18b0 := decide_eq_true c18; clear c18; have H' := ak H; clear H; have p1 : 0 ≤ (x4_5 : Int) := od; have q1 : x4_5 < (t3.length : Int) := od; obtain ⟨ad1, A1172_0, c1172_0, e1, hx1_6, hl1172_0, hi1172_0⟩ := at_L5 (Kd.N_reads' HO_7.1).2.2 x4_5 p1 q1; obtain rfl : ad8 = ad1 := (by injection e1); obtain ⟨ce1172, hce1172, hMe1172, hcc1172⟩ := Kd.N_get HO_7.1 [] x4_5 p1 (by first | exact q1 | exact od | (have e_ := (Kd.N_reads' HO_7.1).1; omega)); obtain ⟨ua1172_0, uc1172_0, rfl, ul1172_0, ge1172_0⟩ := Kd.FK_slice_open hMe1172; have hv1_6 := hcc1172 0 _ rfl; rw [Nat.add_zero, show ((Kd.slice 2 (Kd.int .i64))).sz = 1 from rfl, Nat.mul_one] at hv1_6; replace hv1_6 := Option.some.inj (hv1_6.symm.trans hx1_6); injection hv1_6 with hva_ hvn_ hvc_
         rw [hva_] at ge1172_0; rw [hvc_] at ul1172_0; have HL1172_0 := ak (show Kd.V (Kd.int .i64) 2 _ w.heap.size _ _ (rd_L5 t3 x4_5) from Kd.V_mk ul1172_0 ge1172_0); clear hva_ hvn_ hvc_ ge1172_0 ul1172_0; clear hcc1172 hce1172; have HR1172_0 := ak hi1172_0; have HC1172_0 := ak hl1172_0; clear hi1172_0 hl1172_0; replace p1 := eq_true p1; replace q1 := eq_true q1; (try go_wp2)
         replace HO_2 := ak (Kd.V_drew HO_2.1); replace HO_7 := ak (Kd.N_drew HO_7.1); replace HL1172_0 := ak (Kd.V_drew HL1172_0.1); replace BK0 := ak (blk_drew BK0.1); replace HR1171_0 := ak (Kd.C_drew HR1171_0.1); replace HR1172_0 := ak (Kd.C_drew HR1172_0.1); replace HB := ak (below_drew1 HB.1); refine start_ (n := 7) (S := fun w' => w'.cell? ⟨gb0, 0, none⟩ = some (.slice A0_0 l0_0.length c0_0) ∧ w'.cell? ⟨gb0, 1, none⟩ = some (.slice A0_1 l0_1.length c0_1) ∧ w'.cell? ⟨gb0, 2, none⟩ = some (.slice A0_2 l0_2.length c0_2) ∧ w'.cell? ⟨gb0, 3, none⟩ = some (.slice A0_3 l0_3.length c0_3) ∧ w'.cell? ⟨gb0, 4, none⟩ = some (.slice A0_4 l0_4.length c0_4) ∧ w'.cell? ⟨gb0, 5, none⟩ = some (.int .i64 a0_5)) (ds := []) (tf 0 7) (by kernel_rfl) rfl rfl (cy6 BK0.1) (fun hHeld => ?_); generalize wr.drew = w19 at HO_2 HO_7 HL1172_0 BK0 HR1171_0 HR1172_0 HB hHeld ⊢; refine pu_ 1 23 (tM [0, 1, 1, 5]) rfl rfl ?_ (by kernel_rfl); refine pu_ 4 26 (tM [0, 1, 1, 2, 1, 2]) rfl rfl ?_ (by kernel_rfl); refine ta6_ 0 22 (tM [2, 2, 1, 2]) rfl rfl ?_ (by kernel_rfl); refine ta6_ 3 25 (tM [2, 1, 2, 2]) rfl rfl ?_ (by kernel_rfl); refine one_ (i := 2) (N := some 24) (tf 5 2) rfl rfl (by kernel_rfl) (by decide) (fun K hK => ?_); refine goes_ Try.func77 (by kernel_rfl) rfl #[.agg (f5 A0_0 l0_0 c0_0 A0_1 l0_1 c0_1 A0_2 l0_2 c0_2 A0_3 l0_3 c0_3 A0_4 l0_4 c0_4 a0_5), .slice A1172_0 (rd_L5 t3 x4_5).length c1172_0] (by rfl) rfl rfl (by (try simp only [List.map_toArray, List.map_cons, List.map_nil]); first | done | rfl | (simp only [List.length_drop, List.length_take]; rfl)) ?_
         with_reducible refine (impl_costOf.calls k1 _ _ l0_0 _ _ l0_1 _ _ l0_2 _ _ l0_3 _ _ l0_4 a0_5 _ _ (rd_L5 t3 x4_5) t13 _ ?_ ?_ ?_ ?_ ?_ ?_ ?_ ?_ ?_ ?_ ?side11 ?_ A16.1).mono ?_
         exact vd HR0_0.1 HB.1
         exact HC0_0.1
         exact vd HR0_1.1 HB.1
         exact HC0_1.1
         exact vd HR0_2.1 HB.1
         exact HC0_2.1
         exact vd HR0_3.1 HB.1
         exact HC0_3.1
         exact vd HR0_4.1 HB.1
         exact HC0_4.1
         (case side11 => repeat (first | exact (by repeat (first | (with_reducible exact HR1172_0.1) | (with_reducible refine Kd.C_alloc ?_ _) | (with_reducible refine Kd.C_drewN ?_ _) | (with_reducible refine Kd.C_drew ?_) | exact HR1172_0.1)) | (with_reducible refine Kd.C_alloc ?_ _) | (with_reducible refine Kd.C_drewN ?_ _) | (with_reducible refine Kd.C_drew ?_)))
         exact HC1172_0.1
         rintro e w20 ⟨rfl, hb⟩; refine ⟨_, rfl, ?_⟩; replace HO_2 := ak (Kd.V_below (vV HO_2.1) hb); replace HO_7 := ak (Kd.N_below (vN HO_7.1) hb); replace HL1172_0 := ak (Kd.V_below (vV HL1172_0.1) hb); replace BK0 := kb BK0 hb; replace HR1171_0 := ak (Kd.C_below (by repeat (first | (with_reducible exact HR1171_0.1) | (with_reducible refine Kd.C_alloc ?_ _) | (with_reducible refine Kd.C_drewN ?_ _) | (with_reducible refine Kd.C_drew ?_) | exact HR1171_0.1)) hb); replace HR1172_0 := ak (Kd.C_below (by repeat (first | (with_reducible exact HR1172_0.1) | (with_reducible refine Kd.C_alloc ?_ _) | (with_reducible refine Kd.C_drewN ?_ _) | (with_reducible refine Kd.C_drew ?_) | exact HR1172_0.1)) hb); replace HB := bs HB hb; (try clear hb)
         (try clear hb2)
         (try clear hk)
         (try clear hi)
         obtain ⟨Ao10, co10, eo10⟩ := Kd.V_slice HO_2.1; (first | subst eo10 | (injection eo10 with f1_ f2_ f3_; have f4_ := f1_.symm; have f5_ := f3_.symm; clear f1_ f2_ f3_; subst f4_; subst f5_))
         refine hK.out _ _ (cy6 BK0.1) (fun hHeld => ?_); clear hK K; refine norm_ (a' := ?_) ?_ ?_
         rotate_left
         ·show Act.put _ (some 24) _ = _
          simp only [Act.put, List.setIfInBounds_toArray, List.set_cons_zero, List.set_cons_succ, i64_w, i32_w]
          rfl
         refine one_ (i := 5) (N := some 27) (tf 6 1) rfl rfl (by kernel_rfl) (by decide) (fun K hK => ?_); refine goes_ Try.func77 (by kernel_rfl) rfl #[.agg (f5 A0_0 l0_0 c0_0 A0_1 l0_1 c0_1 A0_2 l0_2 c0_2 A0_3 l0_3 c0_3 A0_4 l0_4 c0_4 a0_5), .slice Ao10 x2_5.length co10] (by rfl) rfl rfl (by (try simp only [List.map_toArray, List.map_cons, List.map_nil]); first | done | rfl | (simp only [List.length_drop, List.length_take]; rfl)) ?_; with_reducible refine (impl_costOf.calls k1 _ _ l0_0 _ _ l0_1 _ _ l0_2 _ _ l0_3 _ _ l0_4 a0_5 _ _ x2_5 t14 _ ?_ ?_ ?_ ?_ ?_ ?_ ?_ ?_ ?_ ?_ ?_ ?_ A17.1).mono ?_
         exact vd HR0_0.1 HB.1
         exact HC0_0.1
         exact vd HR0_1.1 HB.1
         exact HC0_1.1
         exact vd HR0_2.1 HB.1
         exact HC0_2.1
         exact vd HR0_3.1 HB.1
         exact HC0_3.1
         exact vd HR0_4.1 HB.1
         exact HC0_4.1
         exact vc (Kd.V_reads' HO_2.1).2.2
         exact (Kd.V_reads' HO_2.1).2.1
         rintro e w22 ⟨rfl, hb⟩; refine ⟨_, rfl, ?_⟩; replace HO_2 := ak (Kd.V_below (vV HO_2.1) hb); replace HO_7 := ak (Kd.N_below (vN HO_7.1) hb); replace HL1172_0 := ak (Kd.V_below (vV HL1172_0.1) hb); replace BK0 := kb BK0 hb; replace HR1171_0 := ak (Kd.C_below (by repeat (first | (with_reducible exact HR1171_0.1) | (with_reducible refine Kd.C_alloc ?_ _) | (with_reducible refine Kd.C_drewN ?_ _) | (with_reducible refine Kd.C_drew ?_) | exact HR1171_0.1)) hb); replace HR1172_0 := ak (Kd.C_below (by repeat (first | (with_reducible exact HR1172_0.1) | (with_reducible refine Kd.C_alloc ?_ _) | (with_reducible refine Kd.C_drewN ?_ _) | (with_reducible refine Kd.C_drew ?_) | exact HR1172_0.1)) hb); replace HB := bs HB hb; (try clear hb)
         (try clear hb2)
         (try clear hk)
         (try clear hi)
         refine hK.out _ _ (cy6 BK0.1) (fun hHeld => ?_); clear hK K; refine norm_ (a' := ?_) ?_ ?_
         rotate_left
         ·show Act.put _ (some 27) _ = _
          simp only [Act.put, List.setIfInBounds_toArray, List.set_cons_zero, List.set_cons_succ, i64_w, i32_w]
          rfl
         refine pu_ 6 28 (tf 7 0) rfl rfl ?_ (by kernel_rfl); refine done_ (by kernel_rfl) ?_; (try go_wp2)
         go_roundg k1
         case measure => have := HK1.1; omega
         case rel => exact ⟨(rd_L5 t3 x4_5), (wrap64 (x4_5 + 1)), es, H', ⟨by have := HK1.1; omega⟩, ⟨by (with_reducible repeat (first | apply Kd.V_alloc | apply Kd.V_drewN | apply Kd.V_drew)); exact Kd.V_mono HL1172_0.1 (fun _ hk => ⟨hk.1.1, ⟨hk.2, hk.1.2⟩⟩)⟩, ⟨vN HO_7.1⟩, ⟨vk BK0.1⟩, ⟨by repeat (first | (with_reducible exact HR1171_0.1) | (with_reducible refine Kd.C_alloc ?_ _) | (with_reducible refine Kd.C_drewN ?_ _) | (with_reducible refine Kd.C_drew ?_) | exact HR1171_0.1)⟩, ⟨vb HB.1⟩⟩
        ·rw [if_neg c18] at H; have c18b0 := decide_eq_false c18; clear c18; have H' := ak H; clear H; have p1 : 0 ≤ (x4_5 : Int) := od; have q1 : x4_5 < (t3.length : Int) := od; obtain ⟨ad1, A1172_0, c1172_0, e1, hx1_6, hl1172_0, hi1172_0⟩ := at_L5 (Kd.N_reads' HO_7.1).2.2 x4_5 p1 q1; obtain rfl : ad8 = ad1 := (by injection e1); obtain ⟨ce1172, hce1172, hMe1172, hcc1172⟩ := Kd.N_get HO_7.1 [] x4_5 p1 (by first | exact q1 | exact od | (have e_ := (Kd.N_reads' HO_7.1).1; omega)); obtain ⟨ua1172_0, uc1172_0, rfl, ul1172_0, ge1172_0⟩ := Kd.FK_slice_open hMe1172; have hv1_6 := hcc1172 0 _ rfl; rw [Nat.add_zero, show ((Kd.slice 2 (Kd.int .i64))).sz = 1 from rfl, Nat.mul_one] at hv1_6; replace hv1_6 := Option.some.inj (hv1_6.symm.trans hx1_6); injection hv1_6 with hva_ hvn_ hvc_
         rw [hva_] at ge1172_0; rw [hvc_] at ul1172_0; have HL1172_0 := ak (show Kd.V (Kd.int .i64) 2 _ w.heap.size _ _ (rd_L5 t3 x4_5) from Kd.V_mk ul1172_0 ge1172_0); clear hva_ hvn_ hvc_ ge1172_0 ul1172_0; clear hcc1172 hce1172; have HR1172_0 := ak hi1172_0; have HC1172_0 := ak hl1172_0; clear hi1172_0 hl1172_0; replace p1 := eq_true p1; replace q1 := eq_true q1; (try go_wp2)
         replace HO_2 := ak (Kd.V_drew HO_2.1); replace HO_7 := ak (Kd.N_drew HO_7.1); replace HL1172_0 := ak (Kd.V_drew HL1172_0.1); replace BK0 := ak (blk_drew BK0.1); replace HR1171_0 := ak (Kd.C_drew HR1171_0.1); replace HR1172_0 := ak (Kd.C_drew HR1172_0.1); replace HB := ak (below_drew1 HB.1); refine start_ (n := 7) (S := fun w' => w'.cell? ⟨gb0, 0, none⟩ = some (.slice A0_0 l0_0.length c0_0) ∧ w'.cell? ⟨gb0, 1, none⟩ = some (.slice A0_1 l0_1.length c0_1) ∧ w'.cell? ⟨gb0, 2, none⟩ = some (.slice A0_2 l0_2.length c0_2) ∧ w'.cell? ⟨gb0, 3, none⟩ = some (.slice A0_3 l0_3.length c0_3) ∧ w'.cell? ⟨gb0, 4, none⟩ = some (.slice A0_4 l0_4.length c0_4) ∧ w'.cell? ⟨gb0, 5, none⟩ = some (.int .i64 a0_5)) (ds := []) (tf 0 7) (by kernel_rfl) rfl rfl (cy6 BK0.1) (fun hHeld => ?_); generalize wr.drew = w23 at HO_2 HO_7 HL1172_0 BK0 HR1171_0 HR1172_0 HB hHeld ⊢; refine pu_ 1 23 (tM [0, 1, 1, 5]) rfl rfl ?_ (by kernel_rfl); refine pu_ 4 26 (tM [0, 1, 1, 2, 1, 2]) rfl rfl ?_ (by kernel_rfl); refine ta6_ 0 22 (tM [2, 2, 1, 2]) rfl rfl ?_ (by kernel_rfl); refine ta6_ 3 25 (tM [2, 1, 2, 2]) rfl rfl ?_ (by kernel_rfl); refine one_ (i := 2) (N := some 24) (tf 5 2) rfl rfl (by kernel_rfl) (by decide) (fun K hK => ?_); refine goes_ Try.func77 (by kernel_rfl) rfl #[.agg (f5 A0_0 l0_0 c0_0 A0_1 l0_1 c0_1 A0_2 l0_2 c0_2 A0_3 l0_3 c0_3 A0_4 l0_4 c0_4 a0_5), .slice A1172_0 (rd_L5 t3 x4_5).length c1172_0] (by rfl) rfl rfl (by (try simp only [List.map_toArray, List.map_cons, List.map_nil]); first | done | rfl | (simp only [List.length_drop, List.length_take]; rfl)) ?_
         with_reducible refine (impl_costOf.calls k1 _ _ l0_0 _ _ l0_1 _ _ l0_2 _ _ l0_3 _ _ l0_4 a0_5 _ _ (rd_L5 t3 x4_5) t13 _ ?_ ?_ ?_ ?_ ?_ ?_ ?_ ?_ ?_ ?_ ?side11 ?_ A16.1).mono ?_
         exact vd HR0_0.1 HB.1
         exact HC0_0.1
         exact vd HR0_1.1 HB.1
         exact HC0_1.1
         exact vd HR0_2.1 HB.1
         exact HC0_2.1
         exact vd HR0_3.1 HB.1
         exact HC0_3.1
         exact vd HR0_4.1 HB.1
         exact HC0_4.1
         (case side11 => repeat (first | exact (by repeat (first | (with_reducible exact HR1172_0.1) | (with_reducible refine Kd.C_alloc ?_ _) | (with_reducible refine Kd.C_drewN ?_ _) | (with_reducible refine Kd.C_drew ?_) | exact HR1172_0.1)) | (with_reducible refine Kd.C_alloc ?_ _) | (with_reducible refine Kd.C_drewN ?_ _) | (with_reducible refine Kd.C_drew ?_)))
         exact HC1172_0.1
         rintro e w24 ⟨rfl, hb⟩; refine ⟨_, rfl, ?_⟩; replace HO_2 := ak (Kd.V_below (vV HO_2.1) hb); replace HO_7 := ak (Kd.N_below (vN HO_7.1) hb); replace HL1172_0 := ak (Kd.V_below (vV HL1172_0.1) hb); replace BK0 := kb BK0 hb; replace HR1171_0 := ak (Kd.C_below (by repeat (first | (with_reducible exact HR1171_0.1) | (with_reducible refine Kd.C_alloc ?_ _) | (with_reducible refine Kd.C_drewN ?_ _) | (with_reducible refine Kd.C_drew ?_) | exact HR1171_0.1)) hb); replace HR1172_0 := ak (Kd.C_below (by repeat (first | (with_reducible exact HR1172_0.1) | (with_reducible refine Kd.C_alloc ?_ _) | (with_reducible refine Kd.C_drewN ?_ _) | (with_reducible refine Kd.C_drew ?_) | exact HR1172_0.1)) hb); replace HB := bs HB hb; (try clear hb)
         (try clear hb2)
         (try clear hk)
         (try clear hi)
         obtain ⟨Ao11, co11, eo11⟩ := Kd.V_slice HO_2.1; (first | subst eo11 | (injection eo11 with f1_ f2_ f3_; have f4_ := f1_.symm; have f5_ := f3_.symm; clear f1_ f2_ f3_; subst f4_; subst f5_))
         refine hK.out _ _ (cy6 BK0.1) (fun hHeld => ?_); clear hK K; refine norm_ (a' := ?_) ?_ ?_
         rotate_left
         ·show Act.put _ (some 24) _ = _
          simp only [Act.put, List.setIfInBounds_toArray, List.set_cons_zero, List.set_cons_succ, i64_w, i32_w]
          rfl
         refine one_ (i := 5) (N := some 27) (tf 6 1) rfl rfl (by kernel_rfl) (by decide) (fun K hK => ?_); refine goes_ Try.func77 (by kernel_rfl) rfl #[.agg (f5 A0_0 l0_0 c0_0 A0_1 l0_1 c0_1 A0_2 l0_2 c0_2 A0_3 l0_3 c0_3 A0_4 l0_4 c0_4 a0_5), .slice Ao11 x2_5.length co11] (by rfl) rfl rfl (by (try simp only [List.map_toArray, List.map_cons, List.map_nil]); first | done | rfl | (simp only [List.length_drop, List.length_take]; rfl)) ?_; with_reducible refine (impl_costOf.calls k1 _ _ l0_0 _ _ l0_1 _ _ l0_2 _ _ l0_3 _ _ l0_4 a0_5 _ _ x2_5 t14 _ ?_ ?_ ?_ ?_ ?_ ?_ ?_ ?_ ?_ ?_ ?_ ?_ A17.1).mono ?_
         exact vd HR0_0.1 HB.1
         exact HC0_0.1
         exact vd HR0_1.1 HB.1
         exact HC0_1.1
         exact vd HR0_2.1 HB.1
         exact HC0_2.1
         exact vd HR0_3.1 HB.1
         exact HC0_3.1
         exact vd HR0_4.1 HB.1
         exact HC0_4.1
         exact vc (Kd.V_reads' HO_2.1).2.2
         exact (Kd.V_reads' HO_2.1).2.1
         rintro e w26 ⟨rfl, hb⟩; refine ⟨_, rfl, ?_⟩; replace HO_2 := ak (Kd.V_below (vV HO_2.1) hb); replace HO_7 := ak (Kd.N_below (vN HO_7.1) hb); replace HL1172_0 := ak (Kd.V_below (vV HL1172_0.1) hb); replace BK0 := kb BK0 hb; replace HR1171_0 := ak (Kd.C_below (by repeat (first | (with_reducible exact HR1171_0.1) | (with_reducible refine Kd.C_alloc ?_ _) | (with_reducible refine Kd.C_drewN ?_ _) | (with_reducible refine Kd.C_drew ?_) | exact HR1171_0.1)) hb); replace HR1172_0 := ak (Kd.C_below (by repeat (first | (with_reducible exact HR1172_0.1) | (with_reducible refine Kd.C_alloc ?_ _) | (with_reducible refine Kd.C_drewN ?_ _) | (with_reducible refine Kd.C_drew ?_) | exact HR1172_0.1)) hb); replace HB := bs HB hb; (try clear hb)
         (try clear hb2)
         (try clear hk)
         (try clear hi)
         refine hK.out _ _ (cy6 BK0.1) (fun hHeld => ?_); clear hK K; refine norm_ (a' := ?_) ?_ ?_
         rotate_left
         ·show Act.put _ (some 27) _ = _
          simp only [Act.put, List.setIfInBounds_toArray, List.set_cons_zero, List.set_cons_succ, i64_w, i32_w]
          rfl
         refine pu_ 6 28 (tf 7 0) rfl rfl ?_ (by kernel_rfl); refine done_ (by kernel_rfl) ?_; (try go_wp2)
         go_roundg k1
         case measure => have := HK1.1; omega
         case rel => exact ⟨(x2_5), (wrap64 (x4_5 + 1)), es, H', ⟨by have := HK1.1; omega⟩, ⟨vV HO_2.1⟩, ⟨vN HO_7.1⟩, ⟨vk BK0.1⟩, ⟨by repeat (first | (with_reducible exact HR1171_0.1) | (with_reducible refine Kd.C_alloc ?_ _) | (with_reducible refine Kd.C_drewN ?_ _) | (with_reducible refine Kd.C_drew ?_) | exact HR1171_0.1)⟩, ⟨vb HB.1⟩⟩
       ·exact nO_ c15 H
      ·exact nO_ c14 H
     ·rw [if_neg c13] at H; have c13b0 := decide_eq_false c13; clear c13; simp only [Option.some.injEq, Prod.mk.injEq] at H
      obtain ⟨rfl, rfl⟩ := H; go_wp2
      go_ret2
      exact ⟨_, ew, by (with_reducible repeat (first | apply Kd.V_alloc | apply Kd.V_drewN | apply Kd.V_drew)); exact Kd.V_mono HO_2.1 (fun _ hk => hk.1), vb HB.1⟩
  ·exact nO_ c8 H


/-! ### impl_BestPlacing: function 34 -/
def impl_BestPlacing.f (k : Nat) (l0_0 : List (S98)) (l0_1 : List (S103)) (l0_2 : List Int) (l0_3 : List Int) (l0_4 : List Int) (a0_5 : Int) : Option (List Int × Int × Int) := (impl_IsField.f k l0_0 l0_1 l0_2 l0_3 l0_4 a0_5).bind fun t5 => (if t5 = true then ((impl_bestPlacing.f k l0_0 l0_1 l0_2 l0_3 l0_4 a0_5).bind fun bt1 => (if bt1.2 = true then ((impl_costOf.f k l0_0 l0_1 l0_2 l0_3 l0_4 a0_5 bt1.1).bind fun t6 => (some (bt1.1, t6, 0))) else (some (([] : List Int), 0, 4)))) else (some (([] : List Int), 0, 1)))
set_option maxHeartbeats 8000000 in
set_option maxRecDepth 100000 in
theorem impl_BestPlacing.calls (k : Nat) (A0_0 : Option Addr) (c0_0 : Nat) (l0_0 : List (S98)) (A0_1 : Option Addr) (c0_1 : Nat) (l0_1 : List (S103)) (A0_2 : Option Addr) (c0_2 : Nat) (l0_2 : List Int) (A0_3 : Option Addr) (c0_3 : Nat) (l0_3 : List Int) (A0_4 : Option Addr) (c0_4 : Nat) (l0_4 : List Int) (a0_5 : Int) (r1 : List Int) (r2 : Int) (r3 : Int) (w : World) (hr0_0 : Kd.C k98 w A0_0 l0_0.length l0_0) (hc0_0 : l0_0.length ≤ c0_0) (hr0_1 : Kd.C k103 w A0_1 l0_1.length l0_1) (hc0_1 : l0_1.length ≤ c0_1) (hr0_2 : Kd.C (Kd.int .i64) w A0_2 l0_2.length l0_2) (hc0_2 : l0_2.length ≤ c0_2) (hr0_3 : Kd.C (Kd.int .i64) w A0_3 l0_3.length l0_3) (hc0_3 : l0_3.length ≤ c0_3) (hr0_4 : Kd.C (Kd.int .i64) w A0_4 l0_4.length l0_4) (hc0_4 : l0_4.length ≤ c0_4) (h : impl_BestPlacing.f k l0_0 l0_1 l0_2 l0_3 l0_4 a0_5 = some (r1, r2, r3)) :
  Calls Try.prog 34 #[.agg (f5 A0_0 l0_0 c0_0 A0_1 l0_1 c0_1 A0_2 l0_2 c0_2 A0_3 l0_3 c0_3 A0_4 l0_4 c0_4 a0_5)] w fun e w' => ∃ v0_ : Value, e = .returned (.tuple #[v0_, .int .i64 r2, .int .i64 r3]) ∧ Kd.V (Kd.int .i64) 2 w' w.heap.size (fun k_ => (w.heap.size ≤ k_)) v0_ r1 ∧ Below w.heap.size w w' := by
 have hu33 := Try.underlying33; have HR0_0 := ak hr0_0; have HC0_0 := ak hc0_0; clear hr0_0 hc0_0; have HR0_1 := ak hr0_1; have HC0_1 := ak hc0_1; clear hr0_1 hc0_1; have HR0_2 := ak hr0_2; have HC0_2 := ak hc0_2; clear hr0_2 hc0_2; have HR0_3 := ak hr0_3; have HC0_3 := ak hc0_3; clear hr0_3 hc0_3; have HR0_4 := ak hr0_4; have HC0_4 := ak hc0_4; clear hr0_4 hc0_4; have HB := ak (Below.refl w.heap.size w); unfold impl_BestPlacing.f at h; have H := h; clear h; obtain ⟨t5, A2, H⟩ := bnk H; by_cases c3 : t5 = true
 subst c3; rw [if_pos rfl] at H; obtain ⟨⟨t1, t9⟩, A40, H⟩ := bnd H; dsimp only at H; have A4 := ak A40; clear A40; by_cases c5 : t9 = true
 ·subst c5; rw [if_pos rfl] at H; obtain ⟨t6, A6, H⟩ := bnk H; simp only [Option.some.injEq, Prod.mk.injEq] at H
  obtain ⟨rfl, rfl, rfl⟩ := H; go_enter Try.func34, Try.ntmps34; go_wp2_with (first | ((with_reducible refine gate_dst (N := 1) rfl ?_); refine bx 1 (f5 A0_0 l0_0 c0_0 A0_1 l0_1 c0_1 A0_2 l0_2 c0_2 A0_3 l0_3 c0_3 A0_4 l0_4 c0_4 a0_5) 33 ?_; intro gb0 hg w7 hbox hb; have BK0 := ak hbox; have GW1175 := gw hg HB; have GE0 := gw hg HB; replace HB := bs HB hb; clear hb hbox hg; have hcz10 := cz6 BK0.1) | ((with_reducible refine at_fn (f := 37) rfl ?_); refine gl (some 8) Try.func37 #[.agg (f5 A0_0 l0_0 c0_0 A0_1 l0_1 c0_1 A0_2 l0_2 c0_2 A0_3 l0_3 c0_3 A0_4 l0_4 c0_4 a0_5)] ?_; (with_reducible refine (impl_IsField.calls k _ _ l0_0 _ _ l0_1 _ _ l0_2 _ _ l0_3 _ _ l0_4 a0_5 _ _ ?_ HC0_0.1 ?_ HC0_1.1 ?_ HC0_2.1 ?_ HC0_3.1 ?_ HC0_4.1 A2.1).mono ?_); exact vd HR0_0.1 HB.1; exact vd HR0_1.1 HB.1; exact vd HR0_2.1 HB.1; exact vd HR0_3.1 HB.1; exact vd HR0_4.1 HB.1; rintro e w9 ⟨rfl, hb⟩; refine ⟨_, rfl, ?_⟩; replace BK0 := kb BK0 hb; replace HB := bs HB hb; (try clear hb); have hcz11 := cz6 BK0.1) | ((with_reducible refine at_fn (f := 81) rfl ?_); refine gl (some 12) Try.func81 #[.agg (f5 A0_0 l0_0 c0_0 A0_1 l0_1 c0_1 A0_2 l0_2 c0_2 A0_3 l0_3 c0_3 A0_4 l0_4 c0_4 a0_5)] ?_; (with_reducible refine (impl_bestPlacing.calls k _ _ l0_0 _ _ l0_1 _ _ l0_2 _ _ l0_3 _ _ l0_4 a0_5 t1 _ _ ?_ HC0_0.1 ?_ HC0_1.1 ?_ HC0_2.1 ?_ HC0_3.1 ?_ HC0_4.1 A4.1).mono ?_); exact vd HR0_0.1 HB.1; exact vd HR0_1.1 HB.1; exact vd HR0_2.1 HB.1; exact vd HR0_3.1 HB.1; exact vd HR0_4.1 HB.1; rintro e w11 ⟨v8, rfl, ho3, hb⟩; refine ⟨_, rfl, ?_⟩; have HO2 := ak (Kd.V_lower (Kd.V_mono (ok' := fun k_ => (w.heap.size ≤ k_) ∧ k_ ≠ gb0) ho3 (fun k_ hk_ => ⟨(Nat.le_trans (below_size (vb HB.1)) hk_), (Kd.freshB (g := gb0) (o := .cells (f5 A0_0 l0_0 c0_0 A0_1 l0_1 c0_1 A0_2 l0_2 c0_2 A0_3 l0_3 c0_3 A0_4 l0_4 c0_4 a0_5) 33 (0, 0)) (vk BK0.1) k_ hk_)⟩)) (below_size (vb HB.1))); replace BK0 := kb BK0 hb; replace HB := bs HB hb; (try clear hb); (try clear ho3); have hcz12 := cz6 BK0.1; obtain ⟨Ao4, co4, eo4⟩ := Kd.V_slice HO2.1; subst eo4) | ((with_reducible refine at_fn (f := 77) rfl ?_); refine gl (some 20) Try.func77 #[.agg (f5 A0_0 l0_0 c0_0 A0_1 l0_1 c0_1 A0_2 l0_2 c0_2 A0_3 l0_3 c0_3 A0_4 l0_4 c0_4 a0_5), .slice Ao4 t1.length co4] ?_; (with_reducible refine (impl_costOf.calls k _ _ l0_0 _ _ l0_1 _ _ l0_2 _ _ l0_3 _ _ l0_4 a0_5 _ _ t1 t6 _ ?_ HC0_0.1 ?_ HC0_1.1 ?_ HC0_2.1 ?_ HC0_3.1 ?_ HC0_4.1 ?_ ?_ A6.1).mono ?_); exact vd HR0_0.1 HB.1; exact vd HR0_1.1 HB.1; exact vd HR0_2.1 HB.1; exact vd HR0_3.1 HB.1; exact vd HR0_4.1 HB.1; exact vc (Kd.V_reads' HO2.1).2.2; exact (Kd.V_reads' HO2.1).2.1; rintro e w14 ⟨rfl, hb⟩; refine ⟨_, rfl, ?_⟩; replace HO2 := ak (Kd.V_below (vV HO2.1) hb); replace BK0 := kb BK0 hb; replace HB := bs HB hb; (try clear hb)))
  go_ret3
  exact ⟨_, ew, by (with_reducible repeat (first | apply Kd.V_alloc | apply Kd.V_drewN | apply Kd.V_drew)); exact Kd.V_mono HO2.1 (fun _ hk => hk.1), vb HB.1⟩
 replace c5 := Bool.eq_false_iff.mpr c5; subst c5; rw [if_neg nf] at H; simp only [Option.some.injEq, Prod.mk.injEq] at H
 obtain ⟨rfl, rfl, rfl⟩ := H; rotate_left
 replace c3 := Bool.eq_false_iff.mpr c3; subst c3; rw [if_neg nf] at H; simp only [Option.some.injEq, Prod.mk.injEq] at H
 obtain ⟨rfl, rfl, rfl⟩ := H; rotate_left
 all_goals
  go_enter Try.func34, Try.ntmps34; go_wp2_with (first | ((with_reducible refine gate_dst (N := 1) rfl ?_); refine bx 1 (f5 A0_0 l0_0 c0_0 A0_1 l0_1 c0_1 A0_2 l0_2 c0_2 A0_3 l0_3 c0_3 A0_4 l0_4 c0_4 a0_5) 33 ?_; intro gb0 hg w9 hbox hb; have BK0 := ak hbox; have GW1175 := gw hg HB; have GE0 := gw hg HB; replace HB := bs HB hb; clear hb hbox hg; have hcz7 := cz6 BK0.1) | ((with_reducible refine at_fn (f := 37) rfl ?_); refine gl (some 8) Try.func37 #[.agg (f5 A0_0 l0_0 c0_0 A0_1 l0_1 c0_1 A0_2 l0_2 c0_2 A0_3 l0_3 c0_3 A0_4 l0_4 c0_4 a0_5)] ?_; (with_reducible refine (impl_IsField.calls k _ _ l0_0 _ _ l0_1 _ _ l0_2 _ _ l0_3 _ _ l0_4 a0_5 _ _ ?_ HC0_0.1 ?_ HC0_1.1 ?_ HC0_2.1 ?_ HC0_3.1 ?_ HC0_4.1 A2.1).mono ?_); exact vd HR0_0.1 HB.1; exact vd HR0_1.1 HB.1; exact vd HR0_2.1 HB.1; exact vd HR0_3.1 HB.1; exact vd HR0_4.1 HB.1; rintro e w9 ⟨rfl, hb⟩; refine ⟨_, rfl, ?_⟩; replace BK0 := kb BK0 hb; replace HB := bs HB hb; (try clear hb); have hcz7 := cz6 BK0.1) | ((with_reducible refine at_fn (f := 81) rfl ?_); refine gl (some 12) Try.func81 #[.agg (f5 A0_0 l0_0 c0_0 A0_1 l0_1 c0_1 A0_2 l0_2 c0_2 A0_3 l0_3 c0_3 A0_4 l0_4 c0_4 a0_5)] ?_; (with_reducible refine (impl_bestPlacing.calls k _ _ l0_0 _ _ l0_1 _ _ l0_2 _ _ l0_3 _ _ l0_4 a0_5 t1 _ _ ?_ HC0_0.1 ?_ HC0_1.1 ?_ HC0_2.1 ?_ HC0_3.1 ?_ HC0_4.1 A4.1).mono ?_); exact vd HR0_0.1 HB.1; exact vd HR0_1.1 HB.1; exact vd HR0_2.1 HB.1; exact vd HR0_3.1 HB.1; exact vd HR0_4.1 HB.1; rintro e w9 ⟨v8, rfl, ho3, hb⟩; refine ⟨_, rfl, ?_⟩; have HO2 := ak (Kd.V_lower (Kd.V_mono (ok' := fun k_ => (w.heap.size ≤ k_) ∧ k_ ≠ gb0) ho3 (fun k_ hk_ => ⟨(Nat.le_trans (below_size (vb HB.1)) hk_), (Kd.freshB (g := gb0) (o := .cells (f5 A0_0 l0_0 c0_0 A0_1 l0_1 c0_1 A0_2 l0_2 c0_2 A0_3 l0_3 c0_3 A0_4 l0_4 c0_4 a0_5) 33 (0, 0)) (vk BK0.1) k_ hk_)⟩)) (below_size (vb HB.1))); replace BK0 := kb BK0 hb; replace HB := bs HB hb; (try clear hb); (try clear ho3)))
  go_ret3
  exact ⟨_, ew, Kd.V_nil _ _ _ _ _, vb HB.1⟩


/-! ### laws_likeInts: function 36 -/
def laws_likeInts.l0 : Nat → List Int → List Int → Int → Option (Bool)
 | 0, _, _, _ => none
 | k + 1, x4, x1, x0 => if x0 < (x4.length : Int) then (if 0 ≤ x0 then (if x0 < (x1.length : Int) then (if (rd x4 x0) = (rd x1 x0) then (laws_likeInts.l0 k x4 x1 (wrap64 (x0 + 1))) else (some false)) else (none)) else (none)) else (some true)
def laws_likeInts.f (k : Nat) (l0 : List Int) (l1 : List Int) : Option (Bool) := if (l0.length : Int) = (l1.length : Int) then (laws_likeInts.l0 k l0 l1 0) else (some false)
set_option maxHeartbeats 8000000 in
set_option maxRecDepth 100000 in
theorem laws_likeInts.calls (k : Nat) (A0 : Option Addr) (c0 : Nat) (l0 : List Int) (A1 : Option Addr) (c1 : Nat) (l1 : List Int) (r : Bool) (w : World) (hr0 : Kd.C (Kd.int .i64) w A0 l0.length l0) (hc0 : l0.length ≤ c0) (hr1 : Kd.C (Kd.int .i64) w A1 l1.length l1) (hc1 : l1.length ≤ c1) (h : laws_likeInts.f k l0 l1 = some r) :
  Calls Try.prog 36 #[.slice A0 l0.length c0, .slice A1 l1.length c1] w fun e w' => e = .returned (.bool r) ∧ Drawn0 w w' := by
 have HR0 := ak hr0; have HC0 := ak hc0; clear hr0 hc0; have HR1 := ak hr1; have HC1 := ak hc1; clear hr1 hc1; unfold laws_likeInts.f at h; have H := h; clear h; by_cases c3 : (l0.length : Int) = (l1.length : Int)
 ·rw [if_pos c3] at H; obtain ⟨c3b0, c3b1⟩ := bqt c3; have c3b2 : (l0.length == l1.length) = true := by first | simpa using c3 | (simp at c3 ⊢; omega)
  clear c3; have H' := ak H; clear H; go_enter Try.func36, Try.ntmps36; go_wp2
  repeat (go_quiet (fail); try go_wp2)
  go_loopg [5] k (fun kq v0 w' => ∃ (x0_1 : Int), v0 = .int .i64 x0_1 ∧ Aside0 (laws_likeInts.l0 kq l0 l1 x0_1 = some r) ∧ Aside0 (kq ≤ k) ∧ Drawn0 w w')
  case atStart => exact ⟨(0), es, H', ⟨Nat.le_refl _⟩, by repeat (first | exact Drawn0.refl _ | apply Drawn0.step)⟩
  case round =>
   clear H'; obtain ⟨x0_1, rfl, HA, HK1, ⟨m1, rfl⟩⟩ := hrel
   cases gk with
   | zero => exact absurd HA.1 (by simp [laws_likeInts.l0])
   | succ k1 =>
    have H := HA.1; clear HA; simp only [laws_likeInts.l0] at H
    by_cases c4 : x0_1 < (l0.length : Int)
    ·rw [if_pos c4] at H; have c4b0 := decide_eq_true c4; clear c4; by_cases c5 : 0 ≤ x0_1
     ·rw [if_pos c5] at H; have c5b0 := decide_eq_true c5; clear c5; by_cases c6 : x0_1 < (l1.length : Int)
      ·rw [if_pos c6] at H; have c6b0 := decide_eq_true c6; clear c6; by_cases c7 : (rd l0 x0_1) = (rd l1 x0_1)
       ·rw [if_pos c7] at H; obtain ⟨c7b0, c7b1⟩ := bqt c7; clear c7; have H' := ak H; clear H; have p2 : 0 ≤ (x0_1 : Int) := od; have q2 : x0_1 < (l0.length : Int) := od; obtain ⟨ad2, e2, hx2_4⟩ := Kd.at_int HR0.1 x0_1 p2 q2
        cases e2; replace p2 := eq_true p2; replace q2 := eq_true q2; have p3 : 0 ≤ (x0_1 : Int) := od; have q3 : x0_1 < (l1.length : Int) := od; obtain ⟨ad3, e3, hx3_4⟩ := Kd.at_int HR1.1 x0_1 p3 q3
        cases e3; replace p3 := eq_true p3; replace q3 := eq_true q3; go_wp2
        repeat (go_quiet (fail); try go_wp2)
        go_roundg k1
        case measure => have := HK1.1; omega
        case rel => exact ⟨(wrap64 (x0_1 + 1)), es, H', ⟨by have := HK1.1; omega⟩, by repeat (first | exact Drawn0.refl _ | apply Drawn0.step)⟩
       ·rw [if_neg c7] at H; obtain ⟨c7b0, c7b1⟩ := bqf c7; obtain rfl := sj H; have p2 : 0 ≤ (x0_1 : Int) := od; have q2 : x0_1 < (l0.length : Int) := od; obtain ⟨ad2, e2, hx2_4⟩ := Kd.at_int HR0.1 x0_1 p2 q2
        cases e2; replace p2 := eq_true p2; replace q2 := eq_true q2; have p3 : 0 ≤ (x0_1 : Int) := od; have q3 : x0_1 < (l1.length : Int) := od; obtain ⟨ad3, e3, hx3_4⟩ := Kd.at_int HR1.1 x0_1 p3 q3
        cases e3; replace p3 := eq_true p3; replace q3 := eq_true q3; go_wp2
        repeat (go_quiet (fail); try go_wp2)
        go_ret
        exact ⟨by first | rfl | (simp; done) | (simp [*]; done), by repeat (first | exact Drawn0.refl _ | apply Drawn0.step)⟩
      ·exact nO_ c6 H
     ·exact nO_ c5 H
    ·rw [if_neg c4] at H; have c4b0 := decide_eq_false c4; clear c4; obtain rfl := sj H; go_wp2
     repeat (go_quiet (fail); try go_wp2)
     go_ret
     exact ⟨by first | rfl | (simp; done) | (simp [*]; done), by repeat (first | exact Drawn0.refl _ | apply Drawn0.step)⟩
 ·rw [if_neg c3] at H; obtain ⟨c3b0, c3b1⟩ := bqf c3; have c3b2 : (l0.length == l1.length) = false := by first | simpa using c3 | (simp at c3 ⊢; omega)
  obtain rfl := sj H; go_enter Try.func36, Try.ntmps36; go_wp2
  repeat (go_quiet (fail); try go_wp2)
  go_ret
  exact ⟨by first | rfl | (simp; done) | (simp [*]; done), by repeat (first | exact Drawn0.refl _ | apply Drawn0.step)⟩


end Go.Proofs.Ytancnecddlbhkaa.Pall
