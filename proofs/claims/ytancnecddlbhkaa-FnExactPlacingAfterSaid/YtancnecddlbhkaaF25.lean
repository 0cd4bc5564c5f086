/- Go functions of the program, each as a Lean function, and the proof that each call comes to what the Lean function tells; no condition beyond those that stand there. -/
import Derived.Test.YtancnecddlbhkaaF00
import Derived.Test.YtancnecddlbhkaaF02
import Derived.Test.YtancnecddlbhkaaF04
import Derived.Test.YtancnecddlbhkaaF05
import Derived.Test.YtancnecddlbhkaaF07
import Derived.Test.YtancnecddlbhkaaF09
import Derived.Test.YtancnecddlbhkaaF21
import Derived.Test.YtancnecddlbhkaaSq
import Derived.Test.YtancnecddlbhkaaWApart
import Derived.Test.YtancnecddlbhkaaWLast
import Derived.Test.YtancnecddlbhkaaWMore
import Derived.Test.YtancnecddlbhkaaWN
import Derived.Test.YtancnecddlbhkaaWNEv
import Derived.Test.YtancnecddlbhkaaWRepsOne
import Derived.Test.YtancnecddlbhkaaWShare
import Derived.Test.YtancnecddlbhkaaWTab
import Derived.Test.YtancnecddlbhkaaSpare
import Derived.Test.YtancnecddlbhkaaCm
import Derived.Test.YtancnecddlbhkaaCm4
import Derived.Test.YtancnecddlbhkaaCm3
import Derived.Test.YtancnecddlbhkaaCm6
namespace Go.Proofs.Ytancnecddlbhkaa.Pall
open Go.RowKit Go.Proofs.YtancnecddlbhkaaW.PrintWords Go.Proofs.YtancnecddlbhkaaW.PrintLast Go.Proofs.YtancnecddlbhkaaW.PrintMore
set_option linter.unusedVariables false
set_option linter.unusedSimpArgs false

/-! ### spec_BestPlacing: function 35 -/
def spec_BestPlacing.l0 : Nat → List (List Int) → List Int → Int → List (S98) → List (S103) → List Int → List Int → List Int → Int → Option (List Int × Int × Int)
 | 0, _, _, _, _, _, _, _, _, _ => none
 | k + 1, x5, x6, x7, x860000, x860001, x860002, x860003, x860004, x860005 => if x7 < (x5.length : Int) then (if 0 ≤ x7 then ((spec_l18Cost.f k x860000 x860001 x860002 x860003 x860004 x860005 (rd_L5 x5 x7)).bind fun t867 => ((spec_l18Cost.f k x860000 x860001 x860002 x860003 x860004 x860005 x6).bind fun t868 => (if t867 < t868 then (spec_BestPlacing.l0 k x5 (rd_L5 x5 x7) (wrap64 (x7 + 1)) x860000 x860001 x860002 x860003 x860004 x860005) else (spec_BestPlacing.l0 k x5 x6 (wrap64 (x7 + 1)) x860000 x860001 x860002 x860003 x860004 x860005)))) else (none)) else ((spec_l18Cost.f k x860000 x860001 x860002 x860003 x860004 x860005 x6).bind fun t865 => (some (x6, t865, 0)))
def spec_BestPlacing.f (k : Nat) (l0_0 : List (S98)) (l0_1 : List (S103)) (l0_2 : List Int) (l0_3 : List Int) (l0_4 : List Int) (a0_5 : Int) : Option (List Int × Int × Int) := (spec_IsField.f k l0_0 l0_1 l0_2 l0_3 l0_4 a0_5).bind fun t860 => (if t860 = true then ((spec_l18Placings.f k l0_0 l0_1 l0_2 l0_3 l0_4 a0_5).bind fun t861 => (if (t861.length : Int) = 0 then (some (([] : List Int), 0, 4)) else (if 0 < (t861.length : Int) then (spec_BestPlacing.l0 k t861 (rd_L5 t861 0) 0 l0_0 l0_1 l0_2 l0_3 l0_4 a0_5) else (none)))) else (some (([] : List Int), 0, 1)))
theorem spec_BestPlacing.mono_l : ∀ k, (∀ y0 y1 y2 y3 y4 y5 y6 y7 y8, LeO (spec_BestPlacing.l0 k y0 y1 y2 y3 y4 y5 y6 y7 y8) (spec_BestPlacing.l0 (k + 1) y0 y1 y2 y3 y4 y5 y6 y7 y8))
 | 0 => fun _ _ _ _ _ _ _ _ _ r h => by simp [spec_BestPlacing.l0] at h
 | k + 1 => by
  have ih0 := spec_BestPlacing.mono_l k
  ·intro y0 y1 y2 y3 y4 y5 y6 y7 y8; unfold spec_BestPlacing.l0
   repeat' (with_reducible first | exact ih0 .. | exact spec_IsField.mono .. | exact spec_l18Cost.mono .. | exact spec_l18Placings.mono .. | exact lm | refine LeO.ite ?_ ?_ | refine LeO.bind ?_ (fun _ => ?_))
theorem spec_BestPlacing.mono : ∀ a0 a1 a2 a3 a4 a5 k, LeO (spec_BestPlacing.f k a0 a1 a2 a3 a4 a5) (spec_BestPlacing.f (k + 1) a0 a1 a2 a3 a4 a5) := by
 intro a0 a1 a2 a3 a4 a5 k; have ih0 := spec_BestPlacing.mono_l k; unfold spec_BestPlacing.f
 repeat' (with_reducible first | exact ih0 .. | exact spec_IsField.mono .. | exact spec_l18Cost.mono .. | exact spec_l18Placings.mono .. | exact lm | refine LeO.ite ?_ ?_ | refine LeO.bind ?_ (fun _ => ?_))
def spec_BestPlacing.T10 : Bool × List (List Nat × List Nat) := (true, [([], []), ([], []), ([], []), ([1, 2], [1, 2]), ([3], [3]), ([0, 4], [0, 4]), ([], []), ([], []), ([6, 7, 5], [6, 7]), ([5, 8], [5, 8])])
def spec_BestPlacing.B10 : List Nat := [0, 0, 0, 6, 14, 31, 0, 0, 255, 511]
theorem spec_BestPlacing.tab10 : rtab .any (opsOf Try.f35 10) = spec_BestPlacing.T10 := by kernel_rfl
theorem spec_BestPlacing.bits10 : waitsOk spec_BestPlacing.T10.2 spec_BestPlacing.B10 = true := by kernel_rfl
set_option maxHeartbeats 8000000 in
set_option maxRecDepth 100000 in
theorem spec_BestPlacing.calls (k : Nat) (A0_0 : Option Addr) (c0_0 : Nat) (l0_0 : List (S98)) (A0_1 : Option Addr) (c0_1 : Nat) (l0_1 : List (S103)) (A0_2 : Option Addr) (c0_2 : Nat) (l0_2 : List Int) (A0_3 : Option Addr) (c0_3 : Nat) (l0_3 : List Int) (A0_4 : Option Addr) (c0_4 : Nat) (l0_4 : List Int) (a0_5 : Int) (r1 : List Int) (r2 : Int) (r3 : Int) (w : World) (hr0_0 : Kd.C k98 w A0_0 l0_0.length l0_0) (hc0_0 : l0_0.length ≤ c0_0) (hr0_1 : Kd.C k103 w A0_1 l0_1.length l0_1) (hc0_1 : l0_1.length ≤ c0_1) (hr0_2 : Kd.C (Kd.int .i64) w A0_2 l0_2.length l0_2) (hc0_2 : l0_2.length ≤ c0_2) (hr0_3 : Kd.C (Kd.int .i64) w A0_3 l0_3.length l0_3) (hc0_3 : l0_3.length ≤ c0_3) (hr0_4 : Kd.C (Kd.int .i64) w A0_4 l0_4.length l0_4) (hc0_4 : l0_4.length ≤ c0_4) (h : spec_BestPlacing.f k l0_0 l0_1 l0_2 l0_3 l0_4 a0_5 = some (r1, r2, r3)) :
  Calls Try.prog 35 #[.agg (f5 A0_0 l0_0 c0_0 A0_1 l0_1 c0_1 A0_2 l0_2 c0_2 A0_3 l0_3 c0_3 A0_4 l0_4 c0_4 a0_5)] w fun e w' => ∃ v0_ : Value, e = .returned (.tuple #[v0_, .int .i64 r2, .int .i64 r3]) ∧ Kd.V (Kd.int .i64) 2 w' w.heap.size (fun k_ => (w.heap.size ≤ k_)) v0_ r1 ∧ Below w.heap.size w w' := by
 have hu33 := Try.underlying33; have HR0_0 := ak hr0_0; have HC0_0 := ak hc0_0; clear hr0_0 hc0_0; have HR0_1 := ak hr0_1; have HC0_1 := ak hc0_1; clear hr0_1 hc0_1; have HR0_2 := ak hr0_2; have HC0_2 := ak hc0_2; clear hr0_2 hc0_2; have HR0_3 := ak hr0_3; have HC0_3 := ak hc0_3; clear hr0_3 hc0_3; have HR0_4 := ak hr0_4; have HC0_4 := ak hc0_4; clear hr0_4 hc0_4; have HB := ak (Below.refl w.heap.size w); unfold spec_BestPlacing.f at h; have H := h; clear h; obtain ⟨t860, A2, H⟩ := bnk H; by_cases c3 : t860 = true
 subst c3; rw [if_pos rfl] at H; obtain ⟨t861, A4, H⟩ := bnk H; by_cases c5 : (t861.length : Int) = 0
 rw [if_pos c5] at H; obtain ⟨c5b0, c5b1⟩ := bqt c5; clear c5; simp only [Option.some.injEq, Prod.mk.injEq] at H
 obtain ⟨rfl, rfl, rfl⟩ := H; rotate_left
 rw [if_neg c5] at H; obtain ⟨c5b0, c5b1⟩ := bqf c5; have c5b2 : ¬ (t861 = []) := fun h_ => c5 (by rw [h_]; rfl)
 by_cases c12 : 0 < (t861.length : Int)
 ·rw [if_pos c12] at H; have c12b0 := decide_eq_true c12; have c12b1 : decide (0 < t861.length) = true := decide_eq_true (by omega); clear c12; have H' := ak H; clear H; go_enter Try.func35, Try.ntmps35; go_wp2_with (first | ((with_reducible refine gate_dst (N := 1) rfl ?_); refine bx 1 (f5 A0_0 l0_0 c0_0 A0_1 l0_1 c0_1 A0_2 l0_2 c0_2 A0_3 l0_3 c0_3 A0_4 l0_4 c0_4 a0_5) 33 ?_; intro gb859 hg w13 hbox hb; have BK859 := ak hbox; have GW859 := gw hg HB; have GE859 := gw hg HB; replace HB := bs HB hb; clear hb hbox hg; have hcz14 := cz6 BK859.out) | ((with_reducible refine at_fn (f := 58) rfl ?_); refine gl (some 9) Try.func58 #[.agg (f5 A0_0 l0_0 c0_0 A0_1 l0_1 c0_1 A0_2 l0_2 c0_2 A0_3 l0_3 c0_3 A0_4 l0_4 c0_4 a0_5)] ?_; (with_reducible refine (spec_IsField.calls k _ _ l0_0 _ _ l0_1 _ _ l0_2 _ _ l0_3 _ _ l0_4 a0_5 _ _ ?_ HC0_0.out ?_ HC0_1.out ?_ HC0_2.out ?_ HC0_3.out ?_ HC0_4.out A2.out).mono ?_); exact vd HR0_0.out HB.out; exact vd HR0_1.out HB.out; exact vd HR0_2.out HB.out; exact vd HR0_3.out HB.out; exact vd HR0_4.out HB.out; rintro e w15 ⟨rfl, hb⟩; refine ⟨_, rfl, ?_⟩; replace BK859 := kb BK859 hb; replace HB := bs HB hb; (try clear hb); have hcz16 := cz6 BK859.out) | ((with_reducible refine at_fn (f := 59) rfl ?_); refine gl (some 12) Try.func59 #[.agg (f5 A0_0 l0_0 c0_0 A0_1 l0_1 c0_1 A0_2 l0_2 c0_2 A0_3 l0_3 c0_3 A0_4 l0_4 c0_4 a0_5)] ?_; (with_reducible refine (spec_l18Placings.calls k _ _ l0_0 _ _ l0_1 _ _ l0_2 _ _ l0_3 _ _ l0_4 a0_5 t861 _ ?_ HC0_0.out ?_ HC0_1.out ?_ HC0_2.out ?_ HC0_3.out ?_ HC0_4.out A4.out).mono ?_); exact vd HR0_0.out HB.out; exact vd HR0_1.out HB.out; exact vd HR0_2.out HB.out; exact vd HR0_3.out HB.out; exact vd HR0_4.out HB.out; rintro e w17 ⟨v862, rfl, ho0, hb⟩; refine ⟨_, rfl, ?_⟩; have HO863 := ak (Kd.N_lower (Kd.N_mono (ok' := fun k_ => (w.heap.size ≤ k_) ∧ k_ ≠ gb859) ho0 (fun k_ hk_ => ⟨(Nat.le_trans (below_size (vb HB.out)) hk_), (Kd.freshB (g := gb859) (o := .cells (f5 A0_0 l0_0 c0_0 A0_1 l0_1 c0_1 A0_2 l0_2 c0_2 A0_3 l0_3 c0_3 A0_4 l0_4 c0_4 a0_5) 33 (0, 0)) (vk BK859.out) k_ hk_)⟩)) (below_size (vb HB.out))); replace BK859 := kb BK859 hb; replace HB := bs HB hb; (try clear hb); (try clear ho0); obtain ⟨Ao18, co18, eo18⟩ := Kd.N_slice HO863.out; subst eo18; have p864 : 0 ≤ (0 : Int) := (by omega); have q864 : 0 < (t861.length : Int) := od; obtain ⟨ad864, A864_0, c864_0, e864, hx864_0, hl864_0, hi864_0⟩ := at_L5 (Kd.N_reads' HO863.out).2.2 0 p864 q864; cases e864; obtain ⟨ce864, hce864, hMe864, hcc864⟩ := Kd.N_get HO863.out [] 0 p864 (by first | exact q864 | exact od | (have e_ := (Kd.N_reads' HO863.out).1; omega)); obtain ⟨ua864_0, uc864_0, rfl, ul864_0, ge864_0⟩ := Kd.FK_slice_open hMe864; have hv864_0 := hcc864 0 _ rfl; rw [Nat.add_zero, show ((Kd.slice 2 (Kd.int .i64))).sz = 1 from rfl, Nat.mul_one] at hv864_0; replace hv864_0 := Option.some.inj (hv864_0.symm.trans hx864_0); injection hv864_0 with hva_ hvn_ hvc_; rw [hva_] at ge864_0; rw [hvc_] at ul864_0; have HL864_0 := ak (show Kd.V (Kd.int .i64) 2 _ w.heap.size _ _ (rd_L5 t861 0) from Kd.V_mk ul864_0 ge864_0); clear hva_ hvn_ hvc_ ge864_0 ul864_0; clear hcc864 hce864; have qi864 : (0 < t861.length) = True := eq_true (by omega); (try rw [show ((0 : Int)).toNat = 0 from rfl] at hx864_0); (try rw [Addr.add_zero'] at hx864_0); have HR864_0 := ak hi864_0; have HC864_0 := ak hl864_0; clear hi864_0 hl864_0; replace p864 := eq_true p864; replace q864 := eq_true q864))
  go_loopg [6, 7] k (fun kq v6 v7 w' => ∃ (x6_1 : List Int) (x7_1 : Int), v7 = .int .i64 x7_1 ∧ Aside0 (spec_BestPlacing.l0 kq t861 x6_1 x7_1 l0_0 l0_1 l0_2 l0_3 l0_4 a0_5 = some (r1, r2, r3)) ∧ Aside0 (kq ≤ k) ∧ Aside0 (Kd.N (Kd.slice 2 (Kd.int .i64)) 24 w' w.heap.size (fun k_ => (w.heap.size ≤ k_) ∧ k_ ≠ gb859) (.slice (some ad864) t861.length co18) t861) ∧ Aside0 (Kd.V (Kd.int .i64) 2 w' w.heap.size (fun k_ => (w.heap.size ≤ k_) ∧ some k_ ≠ ((.slice (some ad864) t861.length co18) : Value).ownBlock ∧ k_ ≠ gb859) v6 x6_1) ∧ Aside0 (w'.heap[gb859]? = some (.cells (f5 A0_0 l0_0 c0_0 A0_1 l0_1 c0_1 A0_2 l0_2 c0_2 A0_3 l0_3 c0_3 A0_4 l0_4 c0_4 a0_5) 33 (0, 0))) ∧ Aside0 (Kd.C (Kd.int .i64) w' A864_0 (rd_L5 t861 0).length (rd_L5 t861 0)) ∧ Aside0 (Below w.heap.size w w'))
  case atStart => exact ⟨(rd_L5 t861 0), (0), es, H', ⟨Nat.le_refl _⟩, ⟨vN HO863.out⟩, ⟨by (with_reducible repeat (first | apply Kd.V_alloc | apply Kd.V_drewN | apply Kd.V_drew)); exact Kd.V_mono HL864_0.out (fun _ hk => ⟨hk.1.1, ⟨hk.2, hk.1.2⟩⟩)⟩, ⟨vk BK859.out⟩, ⟨by repeat (first | (with_reducible exact HR864_0.out) | (with_reducible refine Kd.C_alloc ?_ _) | (with_reducible refine Kd.C_drewN ?_ _) | (with_reducible refine Kd.C_drew ?_) | exact HR864_0.out)⟩, ⟨vb HB.out⟩⟩
  case round =>
   clear H'; obtain ⟨x6_1, x7_1, rfl, HA, HK1, HO_5, HO_6, BK859, HR864_0, HB⟩ := hrel
   cases gk with
   | zero => exact absurd HA.out (by simp [spec_BestPlacing.l0])
   | succ k1 =>
    have H := HA.out; clear HA; simp only [spec_BestPlacing.l0] at H
    by_cases c19 : x7_1 < (t861.length : Int)
    ·rw [if_pos c19] at H; have c19b0 := decide_eq_true c19; clear c19; by_cases c20 : 0 ≤ x7_1
     ·rw [if_pos c20] at H; have c20b0 := decide_eq_true c20; clear c20; obtain ⟨t867, A21, H⟩ := bnk H; obtain ⟨t868, A22, H⟩ := bnk H; by_cases c23 : t867 < t868
      ·rw [if_pos c23] at H; have c23b0 := decide_eq_true c23; clear c23; have H' := ak H; clear H; (try go_wp2)
       replace HO_5 := ak (Kd.N_drew HO_5.out); replace HO_6 := ak (Kd.V_drew HO_6.out); replace BK859 := ak (blk_drew BK859.out); replace HR864_0 := ak (Kd.C_drew HR864_0.out); replace HB := ak (below_drew1 HB.out); have p866 : 0 ≤ (x7_1 : Int) := od; have q866 : x7_1 < (t861.length : Int) := od; obtain ⟨ad866, A866_0, c866_0, e866, hx866_0, hl866_0, hi866_0⟩ := at_L5 (Kd.N_reads' HO_5.out).2.2 x7_1 p866 q866; obtain rfl : ad864 = ad866 := (by injection e866); obtain ⟨ce866, hce866, hMe866, hcc866⟩ := Kd.N_get HO_5.out [] x7_1 p866 (by first | exact q866 | exact od | (have e_ := (Kd.N_reads' HO_5.out).1; omega)); obtain ⟨ua866_0, uc866_0, rfl, ul866_0, ge866_0⟩ := Kd.FK_slice_open hMe866; have hv866_0 := hcc866 0 _ rfl; rw [Nat.add_zero, show ((Kd.slice 2 (Kd.int .i64))).sz = 1 from rfl, Nat.mul_one] at hv866_0; replace hv866_0 := Option.some.inj (hv866_0.symm.trans hx866_0); injection hv866_0 with hva_ hvn_ hvc_
       rw [hva_] at ge866_0; rw [hvc_] at ul866_0; have HL866_0 := ak (show Kd.V (Kd.int .i64) 2 _ w.heap.size _ _ (rd_L5 t861 x7_1) from Kd.V_mk ul866_0 ge866_0); clear hva_ hvn_ hvc_ ge866_0 ul866_0; clear hcc866 hce866; have HR866_0 := ak hi866_0; have HC866_0 := ak hl866_0; clear hi866_0 hl866_0; replace p866 := eq_true p866; replace q866 := eq_true q866; refine start_ (n := 10) (S := fun w' => w'.cell? ⟨gb859, 0, none⟩ = some (.slice A0_0 l0_0.length c0_0) ∧ w'.cell? ⟨gb859, 1, none⟩ = some (.slice A0_1 l0_1.length c0_1) ∧ w'.cell? ⟨gb859, 2, none⟩ = some (.slice A0_2 l0_2.length c0_2) ∧ w'.cell? ⟨gb859, 3, none⟩ = some (.slice A0_3 l0_3.length c0_3) ∧ w'.cell? ⟨gb859, 4, none⟩ = some (.slice A0_4 l0_4.length c0_4) ∧ w'.cell? ⟨gb859, 5, none⟩ = some (.int .i64 a0_5) ∧ w'.cell? (ad864.add (x7_1).toNat) = some (.slice A866_0 (rd_L5 t861 x7_1).length c866_0)) (ds := []) (tf 0 10) (by kernel_rfl) rfl rfl ⟨bk BK859.out 0, bk BK859.out 1, bk BK859.out 2, bk BK859.out 3, bk BK859.out 4, bk BK859.out 5, hx866_0⟩ (fun hHeld => ?_); refine with_tabW spec_BestPlacing.tab10 spec_BestPlacing.bits10 (fun HT_ HW_ => ?_); generalize wr.drew = w24 at HO_5 HO_6 BK859 HR864_0 HB HL866_0 HR866_0 hx866_0 hHeld ⊢; refine pu_ 1 26 (tM [0, 1, 1, 8]) rfl rfl ?_; refine pu_ 2 27 (tM [0, 1, 2, 7]) rfl rfl ?_
       refine pu_ 3 28 (tM [0, 1, 3, 6]) rfl rfl ?_; refine pu_ 7 32 (tM [0, 1, 3, 3, 1, 2]) rfl rfl ?_; refine ta7_ 0 25 (tM [4, 3, 1, 2]) rfl rfl ?_; refine ta7_ 4 29 (tM [5, 2, 1, 2]) rfl rfl ?_; refine ta7_ 6 31 (tM [5, 1, 2, 2]) rfl rfl ?_; refine one_ (i := 5) (N := some 30) (tf 8 2) rfl rfl (one_of HT_.out (by kernel_rfl)) (by decide) (fun K hK => ?_); refine goes_ Try.func76 (by kernel_rfl) rfl #[.agg (f5 A0_0 l0_0 c0_0 A0_1 l0_1 c0_1 A0_2 l0_2 c0_2 A0_3 l0_3 c0_3 A0_4 l0_4 c0_4 a0_5), .slice A866_0 (rd_L5 t861 x7_1).length c866_0] (by rfl) rfl rfl (by (try simp only [List.map_toArray, List.map_cons, List.map_nil]); first | done | rfl | (simp only [List.length_drop, List.length_take]; rfl)) ?_; with_reducible refine (spec_l18Cost.calls k1 _ _ l0_0 _ _ l0_1 _ _ l0_2 _ _ l0_3 _ _ l0_4 a0_5 _ _ (rd_L5 t861 x7_1) t867 _ ?_ ?_ ?_ ?_ ?_ ?_ ?_ ?_ ?_ ?_ ?side11 ?_ A21.out).mono ?_
       exact vd HR0_0.out HB.out
       exact HC0_0.out
       exact vd HR0_1.out HB.out
       exact HC0_1.out
       exact vd HR0_2.out HB.out
       exact HC0_2.out
       exact vd HR0_3.out HB.out
       exact HC0_3.out
       exact vd HR0_4.out HB.out
       exact HC0_4.out
       (case side11 => repeat (first | exact (by repeat (first | (with_reducible exact HR866_0.out) | (with_reducible refine Kd.C_alloc ?_ _) | (with_reducible refine Kd.C_drewN ?_ _) | (with_reducible refine Kd.C_drew ?_) | exact HR866_0.out)) | (with_reducible refine Kd.C_alloc ?_ _) | (with_reducible refine Kd.C_drewN ?_ _) | (with_reducible refine Kd.C_drew ?_)))
       exact HC866_0.out
       rintro e w25 ⟨rfl, hb⟩; have HS6_ := (hb.cell (World.block_lt_of_cell? _ _ (hHeld.2.2.2.2.2.2))).trans (hHeld.2.2.2.2.2.2); refine ⟨_, rfl, ?_⟩; replace HO_5 := ak (Kd.N_below (vN HO_5.out) hb); replace HO_6 := ak (Kd.V_below (vV HO_6.out) hb); replace HL866_0 := ak (Kd.V_below (vV HL866_0.out) hb); replace BK859 := kb BK859 hb; replace HR864_0 := ak (Kd.C_below (by repeat (first | (with_reducible exact HR864_0.out) | (with_reducible refine Kd.C_alloc ?_ _) | (with_reducible refine Kd.C_drewN ?_ _) | (with_reducible refine Kd.C_drew ?_) | exact HR864_0.out)) hb); replace HR866_0 := ak (Kd.C_below (by repeat (first | (with_reducible exact HR866_0.out) | (with_reducible refine Kd.C_alloc ?_ _) | (with_reducible refine Kd.C_drewN ?_ _) | (with_reducible refine Kd.C_drew ?_) | exact HR866_0.out)) hb); replace HB := bs HB hb; (try clear hb)
       (try clear hb2)
       (try clear hk)
       (try clear hi)
       obtain ⟨Ao26, co26, eo26⟩ := Kd.V_slice HO_6.out; (first | subst eo26 | (injection eo26 with f1_ f2_ f3_; have f4_ := f1_.symm; have f5_ := f3_.symm; clear f1_ f2_ f3_; subst f4_; subst f5_))
       refine hK.out _ _ ⟨bk BK859.out 0, bk BK859.out 1, bk BK859.out 2, bk BK859.out 3, bk BK859.out 4, bk BK859.out 5, HS6_⟩ (fun hHeld => ?_); clear hK K; refine norm_ (a' := ?_) ?_ ?_
       rotate_left
       ·show Act.put _ (some 30) _ = _
        simp only [Act.put, List.setIfInBounds_toArray, List.set_cons_zero, List.set_cons_succ, i64_w, i32_w]
        rfl
       refine one_ (i := 8) (N := some 33) (tf 9 1) rfl rfl (one_of HT_.out (by kernel_rfl)) (by decide) (fun K hK => ?_); refine goes_ Try.func76 (by kernel_rfl) rfl #[.agg (f5 A0_0 l0_0 c0_0 A0_1 l0_1 c0_1 A0_2 l0_2 c0_2 A0_3 l0_3 c0_3 A0_4 l0_4 c0_4 a0_5), .slice Ao26 x6_1.length co26] (by rfl) rfl rfl (by (try simp only [List.map_toArray, List.map_cons, List.map_nil]); first | done | rfl | (simp only [List.length_drop, List.length_take]; rfl)) ?_; with_reducible refine (spec_l18Cost.calls k1 _ _ l0_0 _ _ l0_1 _ _ l0_2 _ _ l0_3 _ _ l0_4 a0_5 _ _ x6_1 t868 _ ?_ ?_ ?_ ?_ ?_ ?_ ?_ ?_ ?_ ?_ ?_ ?_ A22.out).mono ?_
       exact vd HR0_0.out HB.out
       exact HC0_0.out
       exact vd HR0_1.out HB.out
       exact HC0_1.out
       exact vd HR0_2.out HB.out
       exact HC0_2.out
       exact vd HR0_3.out HB.out
       exact HC0_3.out
       exact vd HR0_4.out HB.out
       exact HC0_4.out
       exact vc (Kd.V_reads' HO_6.out).2.2
       exact (Kd.V_reads' HO_6.out).2.1
       rintro e w27 ⟨rfl, hb⟩; have HS6_ := (hb.cell (World.block_lt_of_cell? _ _ (hHeld.2.2.2.2.2.2))).trans (hHeld.2.2.2.2.2.2); refine ⟨_, rfl, ?_⟩; replace HO_5 := ak (Kd.N_below (vN HO_5.out) hb); replace HO_6 := ak (Kd.V_below (vV HO_6.out) hb); replace HL866_0 := ak (Kd.V_below (vV HL866_0.out) hb); replace BK859 := kb BK859 hb; replace HR864_0 := ak (Kd.C_below (by repeat (first | (with_reducible exact HR864_0.out) | (with_reducible refine Kd.C_alloc ?_ _) | (with_reducible refine Kd.C_drewN ?_ _) | (with_reducible refine Kd.C_drew ?_) | exact HR864_0.out)) hb); replace HR866_0 := ak (Kd.C_below (by repeat (first | (with_reducible exact HR866_0.out) | (with_reducible refine Kd.C_alloc ?_ _) | (with_reducible refine Kd.C_drewN ?_ _) | (with_reducible refine Kd.C_drew ?_) | exact HR866_0.out)) hb); replace HB := bs HB hb; (try clear hb)
       (try clear hb2)
       (try clear hk)
       (try clear hi)
       refine hK.out _ _ ⟨bk BK859.out 0, bk BK859.out 1, bk BK859.out 2, bk BK859.out 3, bk BK859.out 4, bk BK859.out 5, HS6_⟩ (fun hHeld => ?_); clear hK K; refine norm_ (a' := ?_) ?_ ?_
       rotate_left
       ·show Act.put _ (some 33) _ = _
        simp only [Act.put, List.setIfInBounds_toArray, List.set_cons_zero, List.set_cons_succ, i64_w, i32_w]
        rfl
       refine pu_ 9 34 (tf 10 0) rfl rfl ?_; refine done_ (done_of HT_.out (by kernel_rfl)) ?_; have p869 : 0 ≤ (x7_1 : Int) := od; have q869 : x7_1 < (t861.length : Int) := od; obtain ⟨ad869, A869_0, c869_0, e869, hx869_0, hl869_0, hi869_0⟩ := at_L5 (Kd.N_reads' HO_5.out).2.2 x7_1 p869 q869
       (try clear hHeld)
       (try clear HS6_)
       obtain rfl : ad864 = ad869 := (by injection e869); obtain ⟨ce869, hce869, hMe869, hcc869⟩ := Kd.N_get HO_5.out [] x7_1 p869 (by first | exact q869 | exact od | (have e_ := (Kd.N_reads' HO_5.out).1; omega)); obtain ⟨ua869_0, uc869_0, rfl, ul869_0, ge869_0⟩ := Kd.FK_slice_open hMe869; have hv869_0 := hcc869 0 _ rfl; rw [Nat.add_zero, show ((Kd.slice 2 (Kd.int .i64))).sz = 1 from rfl, Nat.mul_one] at hv869_0; replace hv869_0 := Option.some.inj (hv869_0.symm.trans hx869_0); injection hv869_0 with hva_ hvn_ hvc_
       rw [hva_] at ge869_0; rw [hvc_] at ul869_0; have HL869_0 := ak (show Kd.V (Kd.int .i64) 2 _ w.heap.size _ _ (rd_L5 t861 x7_1) from Kd.V_mk ul869_0 ge869_0); clear hva_ hvn_ hvc_ ge869_0 ul869_0; clear hcc869 hce869; have HR869_0 := ak hi869_0; have HC869_0 := ak hl869_0; clear hi869_0 hl869_0; replace p869 := eq_true p869; replace q869 := eq_true q869; (try go_wp2)
       go_roundg k1
       case measure => have := HK1.out; omega
       case rel => exact ⟨(rd_L5 t861 x7_1), (wrap64 (x7_1 + 1)), es, H', ⟨by have := HK1.out; omega⟩, ⟨vN HO_5.out⟩, ⟨by (with_reducible repeat (first | apply Kd.V_alloc | apply Kd.V_drewN | apply Kd.V_drew)); exact Kd.V_mono HL869_0.out (fun _ hk => ⟨hk.1.1, ⟨hk.2, hk.1.2⟩⟩)⟩, ⟨vk BK859.out⟩, ⟨by repeat (first | (with_reducible exact HR864_0.out) | (with_reducible refine Kd.C_alloc ?_ _) | (with_reducible refine Kd.C_drewN ?_ _) | (with_reducible refine Kd.C_drew ?_) | exact HR864_0.out)⟩, ⟨vb HB.out⟩⟩
      ·rw [if_neg c23] at H; have c23b0 := decide_eq_false c23; clear c23; have H' := ak H; clear H; (try go_wp2)
       replace HO_5 := ak (Kd.N_drew HO_5.out); replace HO_6 := ak (Kd.V_drew HO_6.out); replace BK859 := ak (blk_drew BK859.out); replace HR864_0 := ak (Kd.C_drew HR864_0.out); replace HB := ak (below_drew1 HB.out); have p866 : 0 ≤ (x7_1 : Int) := od; have q866 : x7_1 < (t861.length : Int) := od; obtain ⟨ad866, A866_0, c866_0, e866, hx866_0, hl866_0, hi866_0⟩ := at_L5 (Kd.N_reads' HO_5.out).2.2 x7_1 p866 q866; obtain rfl : ad864 = ad866 := (by injection e866); obtain ⟨ce866, hce866, hMe866, hcc866⟩ := Kd.N_get HO_5.out [] x7_1 p866 (by first | exact q866 | exact od | (have e_ := (Kd.N_reads' HO_5.out).1; omega)); obtain ⟨ua866_0, uc866_0, rfl, ul866_0, ge866_0⟩ := Kd.FK_slice_open hMe866; have hv866_0 := hcc866 0 _ rfl; rw [Nat.add_zero, show ((Kd.slice 2 (Kd.int .i64))).sz = 1 from rfl, Nat.mul_one] at hv866_0; replace hv866_0 := Option.some.inj (hv866_0.symm.trans hx866_0); injection hv866_0 with hva_ hvn_ hvc_
       rw [hva_] at ge866_0; rw [hvc_] at ul866_0; have HL866_0 := ak (show Kd.V (Kd.int .i64) 2 _ w.heap.size _ _ (rd_L5 t861 x7_1) from Kd.V_mk ul866_0 ge866_0); clear hva_ hvn_ hvc_ ge866_0 ul866_0; clear hcc866 hce866; have HR866_0 := ak hi866_0; have HC866_0 := ak hl866_0; clear hi866_0 hl866_0; replace p866 := eq_true p866; replace q866 := eq_true q866; refine start_ (n := 10) (S := fun w' => w'.cell? ⟨gb859, 0, none⟩ = some (.slice A0_0 l0_0.length c0_0) ∧ w'.cell? ⟨gb859, 1, none⟩ = some (.slice A0_1 l0_1.length c0_1) ∧ w'.cell? ⟨gb859, 2, none⟩ = some (.slice A0_2 l0_2.length c0_2) ∧ w'.cell? ⟨gb859, 3, none⟩ = some (.slice A0_3 l0_3.length c0_3) ∧ w'.cell? ⟨gb859, 4, none⟩ = some (.slice A0_4 l0_4.length c0_4) ∧ w'.cell? ⟨gb859, 5, none⟩ = some (.int .i64 a0_5) ∧ w'.cell? (ad864.add (x7_1).toNat) = some (.slice A866_0 (rd_L5 t861 x7_1).length c866_0)) (ds := []) (tf 0 10) (by kernel_rfl) rfl rfl ⟨bk BK859.out 0, bk BK859.out 1, bk BK859.out 2, bk BK859.out 3, bk BK859.out 4, bk BK859.out 5, hx866_0⟩ (fun hHeld => ?_); refine with_tabW spec_BestPlacing.tab10 spec_BestPlacing.bits10 (fun HT_ HW_ => ?_); generalize wr.drew = w28 at HO_5 HO_6 BK859 HR864_0 HB HL866_0 HR866_0 hx866_0 hHeld ⊢; refine pu_ 1 26 (tM [0, 1, 1, 8]) rfl rfl ?_; refine pu_ 2 27 (tM [0, 1, 2, 7]) rfl rfl ?_
       refine pu_ 3 28 (tM [0, 1, 3, 6]) rfl rfl ?_; refine pu_ 7 32 (tM [0, 1, 3, 3, 1, 2]) rfl rfl ?_; refine ta7_ 0 25 (tM [4, 3, 1, 2]) rfl rfl ?_; refine ta7_ 4 29 (tM [5, 2, 1, 2]) rfl rfl ?_; refine ta7_ 6 31 (tM [5, 1, 2, 2]) rfl rfl ?_; refine one_ (i := 5) (N := some 30) (tf 8 2) rfl rfl (one_of HT_.out (by kernel_rfl)) (by decide) (fun K hK => ?_); refine goes_ Try.func76 (by kernel_rfl) rfl #[.agg (f5 A0_0 l0_0 c0_0 A0_1 l0_1 c0_1 A0_2 l0_2 c0_2 A0_3 l0_3 c0_3 A0_4 l0_4 c0_4 a0_5), .slice A866_0 (rd_L5 t861 x7_1).length c866_0] (by rfl) rfl rfl (by (try simp only [List.map_toArray, List.map_cons, List.map_nil]); first | done | rfl | (simp only [List.length_drop, List.length_take]; rfl)) ?_; with_reducible refine (spec_l18Cost.calls k1 _ _ l0_0 _ _ l0_1 _ _ l0_2 _ _ l0_3 _ _ l0_4 a0_5 _ _ (rd_L5 t861 x7_1) t867 _ ?_ ?_ ?_ ?_ ?_ ?_ ?_ ?_ ?_ ?_ ?side11 ?_ A21.out).mono ?_
       exact vd HR0_0.out HB.out
       exact HC0_0.out
       exact vd HR0_1.out HB.out
       exact HC0_1.out
       exact vd HR0_2.out HB.out
       exact HC0_2.out
       exact vd HR0_3.out HB.out
       exact HC0_3.out
       exact vd HR0_4.out HB.out
       exact HC0_4.out
       (case side11 => repeat (first | exact (by repeat (first | (with_reducible exact HR866_0.out) | (with_reducible refine Kd.C_alloc ?_ _) | (with_reducible refine Kd.C_drewN ?_ _) | (with_reducible refine Kd.C_drew ?_) | exact HR866_0.out)) | (with_reducible refine Kd.C_alloc ?_ _) | (with_reducible refine Kd.C_drewN ?_ _) | (with_reducible refine Kd.C_drew ?_)))
       exact HC866_0.out
       rintro e w29 ⟨rfl, hb⟩; have HS6_ := (hb.cell (World.block_lt_of_cell? _ _ (hHeld.2.2.2.2.2.2))).trans (hHeld.2.2.2.2.2.2); refine ⟨_, rfl, ?_⟩; replace HO_5 := ak (Kd.N_below (vN HO_5.out) hb); replace HO_6 := ak (Kd.V_below (vV HO_6.out) hb); replace HL866_0 := ak (Kd.V_below (vV HL866_0.out) hb); replace BK859 := kb BK859 hb; replace HR864_0 := ak (Kd.C_below (by repeat (first | (with_reducible exact HR864_0.out) | (with_reducible refine Kd.C_alloc ?_ _) | (with_reducible refine Kd.C_drewN ?_ _) | (with_reducible refine Kd.C_drew ?_) | exact HR864_0.out)) hb); replace HR866_0 := ak (Kd.C_below (by repeat (first | (with_reducible exact HR866_0.out) | (with_reducible refine Kd.C_alloc ?_ _) | (with_reducible refine Kd.C_drewN ?_ _) | (with_reducible refine Kd.C_drew ?_) | exact HR866_0.out)) hb); replace HB := bs HB hb; (try clear hb)
       (try clear hb2)
       (try clear hk)
       (try clear hi)
       obtain ⟨Ao30, co30, eo30⟩ := Kd.V_slice HO_6.out; (first | subst eo30 | (injection eo30 with f1_ f2_ f3_; have f4_ := f1_.symm; have f5_ := f3_.symm; clear f1_ f2_ f3_; subst f4_; subst f5_))
       refine hK.out _ _ ⟨bk BK859.out 0, bk BK859.out 1, bk BK859.out 2, bk BK859.out 3, bk BK859.out 4, bk BK859.out 5, HS6_⟩ (fun hHeld => ?_); clear hK K; refine norm_ (a' := ?_) ?_ ?_
       rotate_left
       ·show Act.put _ (some 30) _ = _
        simp only [Act.put, List.setIfInBounds_toArray, List.set_cons_zero, List.set_cons_succ, i64_w, i32_w]
        rfl
       refine one_ (i := 8) (N := some 33) (tf 9 1) rfl rfl (one_of HT_.out (by kernel_rfl)) (by decide) (fun K hK => ?_); refine goes_ Try.func76 (by kernel_rfl) rfl #[.agg (f5 A0_0 l0_0 c0_0 A0_1 l0_1 c0_1 A0_2 l0_2 c0_2 A0_3 l0_3 c0_3 A0_4 l0_4 c0_4 a0_5), .slice Ao30 x6_1.length co30] (by rfl) rfl rfl (by (try simp only [List.map_toArray, List.map_cons, List.map_nil]); first | done | rfl | (simp only [List.length_drop, List.length_take]; rfl)) ?_; with_reducible refine (spec_l18Cost.calls k1 _ _ l0_0 _ _ l0_1 _ _ l0_2 _ _ l0_3 _ _ l0_4 a0_5 _ _ x6_1 t868 _ ?_ ?_ ?_ ?_ ?_ ?_ ?_ ?_ ?_ ?_ ?_ ?_ A22.out).mono ?_
       exact vd HR0_0.out HB.out
       exact HC0_0.out
       exact vd HR0_1.out HB.out
       exact HC0_1.out
       exact vd HR0_2.out HB.out
       exact HC0_2.out
       exact vd HR0_3.out HB.out
       exact HC0_3.out
       exact vd HR0_4.out HB.out
       exact HC0_4.out
       exact vc (Kd.V_reads' HO_6.out).2.2
       exact (Kd.V_reads' HO_6.out).2.1
       rintro e w31 ⟨rfl, hb⟩; have HS6_ := (hb.cell (World.block_lt_of_cell? _ _ (hHeld.2.2.2.2.2.2))).trans (hHeld.2.2.2.2.2.2); refine ⟨_, rfl, ?_⟩; replace HO_5 := ak (Kd.N_below (vN HO_5.out) hb); replace HO_6 := ak (Kd.V_below (vV HO_6.out) hb); replace HL866_0 := ak (Kd.V_below (vV HL866_0.out) hb); replace BK859 := kb BK859 hb; replace HR864_0 := ak (Kd.C_below (by repeat (first | (with_reducible exact HR864_0.out) | (with_reducible refine Kd.C_alloc ?_ _) | (with_reducible refine Kd.C_drewN ?_ _) | (with_reducible refine Kd.C_drew ?_) | exact HR864_0.out)) hb); replace HR866_0 := ak (Kd.C_below (by repeat (first | (with_reducible exact HR866_0.out) | (with_reducible refine Kd.C_alloc ?_ _) | (with_reducible refine Kd.C_drewN ?_ _) | (with_reducible refine Kd.C_drew ?_) | exact HR866_0.out)) hb); replace HB := bs HB hb; (try clear hb)
       (try clear hb2)
       (try clear hk)
       (try clear hi)
       refine hK.out _ _ ⟨bk BK859.out 0, bk BK859.out 1, bk BK859.out 2, bk BK859.out 3, bk BK859.out 4, bk BK859.out 5, HS6_⟩ (fun hHeld => ?_); clear hK K; refine norm_ (a' := ?_) ?_ ?_
       rotate_left
       ·show Act.put _ (some 33) _ = _
        simp only [Act.put, List.setIfInBounds_toArray, List.set_cons_zero, List.set_cons_succ, i64_w, i32_w]
        rfl
       refine pu_ 9 34 (tf 10 0) rfl rfl ?_; refine done_ (done_of HT_.out (by kernel_rfl)) ?_; (try go_wp2)
       go_roundg k1
       case measure => have := HK1.out; omega
       case rel => exact ⟨(x6_1), (wrap64 (x7_1 + 1)), es, H', ⟨by have := HK1.out; omega⟩, ⟨vN HO_5.out⟩, ⟨vV HO_6.out⟩, ⟨vk BK859.out⟩, ⟨by repeat (first | (with_reducible exact HR864_0.out) | (with_reducible refine Kd.C_alloc ?_ _) | (with_reducible refine Kd.C_drewN ?_ _) | (with_reducible refine Kd.C_drew ?_) | exact HR864_0.out)⟩, ⟨vb HB.out⟩⟩
     ·exact nO_ c20 H
    ·rw [if_neg c19] at H; have c19b0 := decide_eq_false c19; clear c19; obtain ⟨t865, A32, H⟩ := bnk H; simp only [Option.some.injEq, Prod.mk.injEq] at H
     obtain ⟨rfl, rfl, rfl⟩ := H; have hcz33 := cz6 BK859.out; obtain ⟨Ao34, co34, eo34⟩ := Kd.V_slice HO_6.out; subst eo34; go_wp2_with (first | ((with_reducible refine at_fn (f := 76) rfl ?_); refine gl (some 42) Try.func76 #[.agg (f5 A0_0 l0_0 c0_0 A0_1 l0_1 c0_1 A0_2 l0_2 c0_2 A0_3 l0_3 c0_3 A0_4 l0_4 c0_4 a0_5), .slice Ao34 x6_1.length co34] ?_; (with_reducible refine (spec_l18Cost.calls k1 _ _ l0_0 _ _ l0_1 _ _ l0_2 _ _ l0_3 _ _ l0_4 a0_5 _ _ x6_1 t865 _ ?_ HC0_0.out ?_ HC0_1.out ?_ HC0_2.out ?_ HC0_3.out ?_ HC0_4.out ?_ ?_ A32.out).mono ?_); exact vd HR0_0.out HB.out; exact vd HR0_1.out HB.out; exact vd HR0_2.out HB.out; exact vd HR0_3.out HB.out; exact vd HR0_4.out HB.out; exact vc (Kd.V_reads' HO_6.out).2.2; exact (Kd.V_reads' HO_6.out).2.1; rintro e w35 ⟨rfl, hb⟩; refine ⟨_, rfl, ?_⟩; replace HO_5 := ak (Kd.N_below (vN HO_5.out) hb); replace HO_6 := ak (Kd.V_below (vV HO_6.out) hb); replace BK859 := kb BK859 hb; replace HR864_0 := ak (Kd.C_below (by repeat (first | (with_reducible exact HR864_0.out) | (with_reducible refine Kd.C_alloc ?_ _) | (with_reducible refine Kd.C_drewN ?_ _) | (with_reducible refine Kd.C_drew ?_) | exact HR864_0.out)) hb); replace HB := bs HB hb; (try clear hb)))
     go_ret3
     exact ⟨_, ew, by (with_reducible repeat (first | apply Kd.V_alloc | apply Kd.V_drewN | apply Kd.V_drew)); exact Kd.V_mono HO_6.out (fun _ hk => hk.1), vb HB.out⟩
 ·exact nO_ c12 H
 replace c3 := Bool.eq_false_iff.mpr c3; subst c3; rw [if_neg nf] at H; simp only [Option.some.injEq, Prod.mk.injEq] at H
 obtain ⟨rfl, rfl, rfl⟩ := H; rotate_left
 all_goals
  go_enter Try.func35, Try.ntmps35; go_wp2_with (first | ((with_reducible refine gate_dst (N := 1) rfl ?_); refine bx 1 (f5 A0_0 l0_0 c0_0 A0_1 l0_1 c0_1 A0_2 l0_2 c0_2 A0_3 l0_3 c0_3 A0_4 l0_4 c0_4 a0_5) 33 ?_; intro gb859 hg w9 hbox hb; have BK859 := ak hbox; have GW859 := gw hg HB; have GE859 := gw hg HB; replace HB := bs HB hb; clear hb hbox hg; have hcz9 := cz6 BK859.out) | ((with_reducible refine at_fn (f := 58) rfl ?_); refine gl (some 9) Try.func58 #[.agg (f5 A0_0 l0_0 c0_0 A0_1 l0_1 c0_1 A0_2 l0_2 c0_2 A0_3 l0_3 c0_3 A0_4 l0_4 c0_4 a0_5)] ?_; (with_reducible refine (spec_IsField.calls k _ _ l0_0 _ _ l0_1 _ _ l0_2 _ _ l0_3 _ _ l0_4 a0_5 _ _ ?_ HC0_0.out ?_ HC0_1.out ?_ HC0_2.out ?_ HC0_3.out ?_ HC0_4.out A2.out).mono ?_); exact vd HR0_0.out HB.out; exact vd HR0_1.out HB.out; exact vd HR0_2.out HB.out; exact vd HR0_3.out HB.out; exact vd HR0_4.out HB.out; rintro e w9 ⟨rfl, hb⟩; refine ⟨_, rfl, ?_⟩; replace BK859 := kb BK859 hb; replace HB := bs HB hb; (try clear hb); have hcz9 := cz6 BK859.out) | ((with_reducible refine at_fn (f := 59) rfl ?_); refine gl (some 12) Try.func59 #[.agg (f5 A0_0 l0_0 c0_0 A0_1 l0_1 c0_1 A0_2 l0_2 c0_2 A0_3 l0_3 c0_3 A0_4 l0_4 c0_4 a0_5)] ?_; (with_reducible refine (spec_l18Placings.calls k _ _ l0_0 _ _ l0_1 _ _ l0_2 _ _ l0_3 _ _ l0_4 a0_5 t861 _ ?_ HC0_0.out ?_ HC0_1.out ?_ HC0_2.out ?_ HC0_3.out ?_ HC0_4.out A4.out).mono ?_); exact vd HR0_0.out HB.out; exact vd HR0_1.out HB.out; exact vd HR0_2.out HB.out; exact vd HR0_3.out HB.out; exact vd HR0_4.out HB.out; rintro e w9 ⟨v862, rfl, ho0, hb⟩; refine ⟨_, rfl, ?_⟩; have HO863 := ak (Kd.N_lower (Kd.N_mono (ok' := fun k_ => (w.heap.size ≤ k_) ∧ k_ ≠ gb859) ho0 (fun k_ hk_ => ⟨(Nat.le_trans (below_size (vb HB.out)) hk_), (Kd.freshB (g := gb859) (o := .cells (f5 A0_0 l0_0 c0_0 A0_1 l0_1 c0_1 A0_2 l0_2 c0_2 A0_3 l0_3 c0_3 A0_4 l0_4 c0_4 a0_5) 33 (0, 0)) (vk BK859.out) k_ hk_)⟩)) (below_size (vb HB.out))); replace BK859 := kb BK859 hb; replace HB := bs HB hb; (try clear hb); (try clear ho0); obtain ⟨Ao900, co900, eo900⟩ := Kd.N_slice HO863.out; subst eo900))
  go_ret3
  exact ⟨_, ew, Kd.V_nil _ _ _ _ _, vb HB.out⟩


/-! ### impl_bestPlacing: function 81 -/
/-- A row of numbers of one's own, over b, in Q (both fixed). -/
def kR (b : Nat) (Q : Nat → Prop) : Kd (List Int) where
 sz := 1
 E := [2]
 K := fun w xs cs => ∃ v, cs = [v] ∧ (Kd.int .i64).R 2 w b Q v xs
 M := fun w base ok xs cs => ∃ v, cs = [v] ∧ ∃ c, b ≤ c ∧ base ≤ c ∧ (Kd.int .i64).R 2 w c (fun k => ok k ∧ Q k) v xs
 K_len := by
  rintro w x cs ⟨v, rfl, _⟩; rfl
 K_one := by
  rintro w x cs ⟨v, rfl, h⟩ u hu; obtain ⟨A, c, rfl⟩ := Kd.R_slice h; rw [List.mem_singleton.1 hu]; rfl
 K_below := by
  rintro w w1 x cs hb ⟨v, rfl, h⟩; exact ⟨v, rfl, Kd.R_below h hb⟩
 K_of_M := by
  rintro w base ok x cs ⟨v, rfl, c, h1, _, h⟩; exact ⟨v, rfl, Kd.R_mono (Kd.R_lower h h1) (fun _ hk => hk.2)⟩
 M_mono := by
  rintro w base ok ok' x cs hok ⟨v, rfl, c, h1, h2, h⟩; exact ⟨v, rfl, c, h1, h2, Kd.R_mono h (fun k hk => ⟨hok k hk.1, hk.2⟩)⟩
 M_bound := by
  rintro w base ok x cs ⟨v, rfl, c, h1, h2, h⟩; exact ⟨v, rfl, c, h1, h2, Kd.R_mono (Kd.R_bound h) (fun k hk => ⟨⟨hk.1.1, Nat.le_trans h2 hk.2.1, hk.2.2.1, hk.2.2.2⟩, hk.1.2⟩)⟩
 M_move := by
  rintro w w1 base ok x cs hm ⟨v, rfl, c, h1, h2, h⟩; exact ⟨v, rfl, c, h1, h2, Kd.R_move h (fun k hk => hm k hk.1)⟩
 M_lower := by
  rintro w base base' ok x cs hb ⟨v, rfl, c, h1, h2, h⟩; exact ⟨v, rfl, c, h1, Nat.le_trans hb h2, h⟩
theorem kR_sz (b : Nat) (Q : Nat → Prop) : (kR b Q).sz = 1 := rfl
theorem kR_mk {b : Nat} {Q ok : Nat → Prop} {W : World} {v : Value} {l : List Int} (h : (Kd.int .i64).R 2 W b ok v l) (hQ : ∀ k, ok k → Q k) : Kd.FK (kR b Q) W ok l [v] := fun _ hW => ⟨v, rfl, Kd.R_mono (Kd.R_step h hW) hQ⟩
theorem kR_open {b : Nat} {Q ok : Nat → Prop} {W : World} {l : List Int} {cs : List Value} (h : Kd.FK (kR b Q) W ok l cs) : ∃ A c, cs = [.slice A l.length c] ∧ l.length ≤ c ∧ (Kd.int .i64).R 2 W b Q (.slice A l.length c) l := by
 obtain ⟨v, rfl, hR⟩ := Kd.FK_now h; obtain ⟨A, c, rfl⟩ := Kd.R_slice hR; exact ⟨A, c, rfl, (Kd.R_reads' hR).2.1, hR⟩
theorem kR_C {b n : Nat} {Q : Nat → Prop} {W : World} {A : Option Addr} {xs : List (List Int)} (h : (kR b Q).C W A n xs) : (Kd.slice 2 (Kd.int .i64)).C W A n xs := by
 obtain ⟨h1, h2, h3⟩ := h; refine ⟨h1, h2, fun h0 => ?_⟩; obtain ⟨ad, e, hh⟩ := h3 h0; refine ⟨ad, e, fun j p hj => ?_⟩; obtain ⟨c, c1, ⟨v, rfl, hR⟩, c3⟩ := hh j p hj; obtain ⟨A', c', rfl, hl, hr⟩ := Kd.R_reads hR; exact ⟨_, c1, ⟨A', c', rfl, hl, hr⟩, c3⟩
theorem N_kR {b e base : Nat} {Q Q' ok : Nat → Prop} {W : World} {v : Value} {xs : List (List Int)} (h : Kd.N (kR b Q) e W base ok v xs) (hQ : ∀ k, Q k → Q' k) : Kd.N (kR b Q') e W base ok v xs := by
 obtain ⟨h0, rows, hl, hR, hf⟩ := h; exact ⟨h0, rows, hl, hR, fun j x c hx hc => Foot.imp (hf j x c hx hc) (fun _ ⟨v, e, r⟩ => ⟨v, e, Kd.R_mono r hQ⟩)⟩
def impl_bestPlacing.l0 : Nat → List Int → List (List Int) → Int → Int → List (S98) → List (S103) → List Int → List Int → List Int → Int → Option (List Int × Bool)
 | 0, _, _, _, _, _, _, _, _, _, _ => none
 | k + 1, x5, x16, x17, x18, x1168000, x1168001, x1168002, x1168003, x1168004, x1168005 => if x18 < x17 then (if 0 ≤ x18 then (if x18 < (x16.length : Int) then ((impl_costOf.f k x1168000 x1168001 x1168002 x1168003 x1168004 x1168005 (rd_L5 x16 x18)).bind fun t1173 => ((impl_costOf.f k x1168000 x1168001 x1168002 x1168003 x1168004 x1168005 x5).bind fun t1174 => (if t1173 < t1174 then (impl_bestPlacing.l0 k (rd_L5 x16 x18) x16 x17 (wrap64 (x18 + 1)) x1168000 x1168001 x1168002 x1168003 x1168004 x1168005) else (impl_bestPlacing.l0 k x5 x16 x17 (wrap64 (x18 + 1)) x1168000 x1168001 x1168002 x1168003 x1168004 x1168005)))) else (none)) else (none)) else (some (x5, true))
def impl_bestPlacing.f (k : Nat) (l0_0 : List (S98)) (l0_1 : List (S103)) (l0_2 : List Int) (l0_3 : List Int) (l0_4 : List Int) (a0_5 : Int) : Option (List Int × Bool) := (impl_placings.f k l0_0 l0_1 l0_2 l0_3 l0_4 a0_5 ([] : List Int)).bind fun t1168 => (if (t1168.length : Int) = 0 then (some (([] : List Int), false)) else (if 0 < (t1168.length : Int) then (impl_bestPlacing.l0 k (rd_L5 t1168 0) t1168 (t1168.length : Int) 0 l0_0 l0_1 l0_2 l0_3 l0_4 a0_5) else (none)))
theorem impl_bestPlacing.mono_l : ∀ k, (∀ y0 y1 y2 y3 y4 y5 y6 y7 y8 y9, LeO (impl_bestPlacing.l0 k y0 y1 y2 y3 y4 y5 y6 y7 y8 y9) (impl_bestPlacing.l0 (k + 1) y0 y1 y2 y3 y4 y5 y6 y7 y8 y9))
 | 0 => fun _ _ _ _ _ _ _ _ _ _ r h => by simp [impl_bestPlacing.l0] at h
 | k + 1 => by
  have ih0 := impl_bestPlacing.mono_l k
  ·intro y0 y1 y2 y3 y4 y5 y6 y7 y8 y9; unfold impl_bestPlacing.l0
   repeat' (with_reducible first | exact ih0 .. | exact impl_costOf.mono .. | exact impl_placings.mono .. | exact lm | refine LeO.ite ?_ ?_ | refine LeO.bind ?_ (fun _ => ?_))
theorem impl_bestPlacing.mono : ∀ a0 a1 a2 a3 a4 a5 k, LeO (impl_bestPlacing.f k a0 a1 a2 a3 a4 a5) (impl_bestPlacing.f (k + 1) a0 a1 a2 a3 a4 a5) := by
 intro a0 a1 a2 a3 a4 a5 k; have ih0 := impl_bestPlacing.mono_l k; unfold impl_bestPlacing.f
 repeat' (with_reducible first | exact ih0 .. | exact impl_costOf.mono .. | exact impl_placings.mono .. | exact lm | refine LeO.ite ?_ ?_ | refine LeO.bind ?_ (fun _ => ?_))
set_option maxHeartbeats 8000000 in
set_option maxRecDepth 100000 in
theorem impl_placings.callsR (k : Nat) : ∀ (A0_0 : Option Addr) (c0_0 : Nat) (l0_0 : List (S98)) (A0_1 : Option Addr) (c0_1 : Nat) (l0_1 : List (S103)) (A0_2 : Option Addr) (c0_2 : Nat) (l0_2 : List Int) (A0_3 : Option Addr) (c0_3 : Nat) (l0_3 : List Int) (A0_4 : Option Addr) (c0_4 : Nat) (l0_4 : List Int) (a0_5 : Int) (P1_ : Nat → Prop) (A1 : Option Addr) (c1 : Nat) (l1 : List Int) (r : List (List Int)) (b_ : Nat) (w : World) (hb_ : b_ ≤ w.heap.size) (hr0_0 : Kd.C k98 w A0_0 l0_0.length l0_0) (hc0_0 : l0_0.length ≤ c0_0) (hr0_1 : Kd.C k103 w A0_1 l0_1.length l0_1) (hc0_1 : l0_1.length ≤ c0_1) (hr0_2 : Kd.C (Kd.int .i64) w A0_2 l0_2.length l0_2) (hc0_2 : l0_2.length ≤ c0_2) (hr0_3 : Kd.C (Kd.int .i64) w A0_3 l0_3.length l0_3) (hc0_3 : l0_3.length ≤ c0_3) (hr0_4 : Kd.C (Kd.int .i64) w A0_4 l0_4.length l0_4) (hc0_4 : l0_4.length ≤ c0_4) (hs1 : Kd.R (Kd.int .i64) 2 w b_ (fun k_ => P1_ k_) (.slice A1 l1.length c1) l1) (h : impl_placings.f k l0_0 l0_1 l0_2 l0_3 l0_4 a0_5 l1 = some r),
  Calls Try.prog 62 #[.agg (f5 A0_0 l0_0 c0_0 A0_1 l0_1 c0_1 A0_2 l0_2 c0_2 A0_3 l0_3 c0_3 A0_4 l0_4 c0_4 a0_5), .slice A1 l1.length c1] w fun e w' => ∃ v0_ : Value, e = .returned (v0_) ∧ Kd.N (kR b_ (fun k_ => P1_ k_ ∨ w.heap.size ≤ k_)) 24 w' w.heap.size (fun k_ => (P1_ k_ ∨ w.heap.size ≤ k_)) v0_ r ∧ Below w.heap.size w w' := by
 induction k using Nat.strongRecOn with
 | _ k ih =>
 intro A0_0 c0_0 l0_0 A0_1 c0_1 l0_1 A0_2 c0_2 l0_2 A0_3 c0_3 l0_3 A0_4 c0_4 l0_4 a0_5 P1_ A1 c1 l1 r b_ w hb_ hr0_0 hc0_0 hr0_1 hc0_1 hr0_2 hc0_2 hr0_3 hc0_3 hr0_4 hc0_4 hs1 h
 cases k with
 | zero => exact absurd h (by simp [impl_placings.f])
 | succ k =>
 simp only [impl_placings.f] at h
 have hu33 := Try.underlying33; have HR0_0 := ak hr0_0; have HC0_0 := ak hc0_0; clear hr0_0 hc0_0; have HR0_1 := ak hr0_1; have HC0_1 := ak hc0_1; clear hr0_1 hc0_1; have HR0_2 := ak hr0_2; have HC0_2 := ak hc0_2; clear hr0_2 hc0_2; have HR0_3 := ak hr0_3; have HC0_3 := ak hc0_3; clear hr0_3 hc0_3; have HR0_4 := ak hr0_4; have HC0_4 := ak hc0_4; clear hr0_4 hc0_4; have HO1 := ak (show Kd.R (Kd.int .i64) 2 w b_ (fun k_ => (P1_ k_ ∨ w.heap.size ≤ k_)) (.slice A1 l1.length c1) l1 from Kd.R_mono hs1 (fun k_ hk => .inl hk)); have HB := ak (Below.refl w.heap.size w); have H := h; clear h; by_cases c3 : (l1.length : Int) = (l0_2.length : Int)
 ·rw [if_pos c3] at H; obtain ⟨c3b0, c3b1⟩ := bqt c3; have c3b2 : (l1.length == l0_2.length) = true := by first | simpa using c3 | (simp at c3 ⊢; omega)
  clear c3; obtain ⟨y363, hy363⟩ := gen_ (([l1] : List (List Int))); rw [← hy363] at H; have Ny363 := ak hy363; clear hy363; obtain rfl := sj H; go_enter Try.func62, Try.ntmps62; go_wp2_with (first | ((with_reducible refine gate_dst (N := 2) rfl ?_); refine bx 2 (f5 A0_0 l0_0 c0_0 A0_1 l0_1 c0_1 A0_2 l0_2 c0_2 A0_3 l0_3 c0_3 A0_4 l0_4 c0_4 a0_5) 33 ?_; intro gb362 hg w4 hbox hb; replace HO1 := ak (Kd.R_below (Kd.R_elderB (vr HO1.out) gb362 (Nat.le_of_eq hg.symm)) hb); have BK362 := ak hbox; have GW362 := gw hg HB; have GE362 := gw hg HB; replace HB := bs HB hb; clear hb hbox hg; have hcz5 := cz6 BK362.out) | ((with_reducible refine gate_dst (N := 16) rfl ?_); refine Kd.N_lit (kR b_ (fun k_ => P1_ k_ ∨ w.heap.size ≤ k_)) _ 24 ?hg (N' := 16) ?hd (xs := ([l1] : List (List Int))) (inner := [.slice A1 l1.length c1]) (ok := (fun k_ => (P1_ k_ ∨ w.heap.size ≤ k_) ∧ k_ ≠ gb362)) (okp := (fun k_ => (P1_ k_ ∨ w.heap.size ≤ k_) ∧ k_ ≠ gb362)) ?hr ?hp (fun _ hk => hk) ((show ∀ k_, w4.heap.size ≤ k_ → (fun k_ => (P1_ k_ ∨ w.heap.size ≤ k_) ∧ k_ ≠ gb362) k_ from fun k_ hk => ⟨(.inr (Nat.le_trans (below_size (vb HB.out)) hk)), Kd.freshB (g := gb362) (o := .cells (f5 A0_0 l0_0 c0_0 A0_1 l0_1 c0_1 A0_2 l0_2 c0_2 A0_3 l0_3 c0_3 A0_4 l0_4 c0_4 a0_5) 33 (0, 0)) (vk BK362.out) k_ hk⟩) _ (Nat.le_refl _)) (Below.refl _ _) (Nat.le_refl _) (by simp) ?_; (case hd => rfl); (case hg => rfl); (case hr => first | (go_simp; done) | (go_simp; rfl)); (case hp => exact (Reps.one (show Kd.FK (kR b_ (fun k_ => P1_ k_ ∨ w.heap.size ≤ k_)) _ _ l1 [.slice A1 l1.length c1] from (kR_mk (Kd.R_mono (ok' := (fun k_ => (P1_ k_ ∨ w.heap.size ≤ k_) ∧ k_ ≠ gb362)) (HO1.out) (fun k_ hk => ⟨hk.1, hk.2⟩)) (fun _ hk => hk.1))) (Reps.none _ _))); intro v364 w6 ho7 hb hg_ hnew_; clear hg_ hnew_; (first | rw [← Ny363.out] at ho7 | (simp only [Int.reduceToNat] at ho7; rw [← Ny363.out] at ho7)); replace HO1 := ak (Kd.R_elder' (vr HO1.out) (Kd.N_base ho7) hb); have HO365 := ak (Kd.N_lower ho7 (below_size (vb HB.out))); replace BK362 := kb BK362 hb; replace HB := bs HB hb; clear hb ho7))
  go_ret
  exact ⟨_, ew, vN (Kd.N_mono HO365.out (fun _ hk => hk.1)), vb HB.out⟩
 ·rw [if_neg c3] at H; obtain ⟨c3b0, c3b1⟩ := bqf c3; have c3b2 : (l1.length == l0_2.length) = false := by first | simpa using c3 | (simp at c3 ⊢; omega)
  have H' := ak H; clear H; go_enter Try.func62, Try.ntmps62; go_wp2_with (first | ((with_reducible refine gate_dst (N := 2) rfl ?_); refine bx 2 (f5 A0_0 l0_0 c0_0 A0_1 l0_1 c0_1 A0_2 l0_2 c0_2 A0_3 l0_3 c0_3 A0_4 l0_4 c0_4 a0_5) 33 ?_; intro gb362 hg w8 hbox hb; replace HO1 := ak (Kd.R_below (Kd.R_elderB (vr HO1.out) gb362 (Nat.le_of_eq hg.symm)) hb); have BK362 := ak hbox; have GW362 := gw hg HB; have GE362 := gw hg HB; replace HB := bs HB hb; clear hb hbox hg; have hcz9 := cz6 BK362.out))
  go_loopg [6, 20] k (fun kq v6 v20 w' => ∃ (x6_1 : List (List Int)) (x20_1 : Int), v20 = .int .i64 x20_1 ∧ Aside0 (impl_placings.l0 kq l1 (l1.length : Int) x6_1 (l0_3.length : Int) x20_1 l0_0 l0_1 l0_2 l0_3 l0_4 a0_5 = some r) ∧ Aside0 (kq ≤ k) ∧ Aside0 (Kd.R (Kd.int .i64) 2 w' b_ (fun k_ => (P1_ k_ ∨ w.heap.size ≤ k_) ∧ some k_ ≠ (v6 : Value).ownBlock ∧ k_ ≠ gb362) (.slice A1 l1.length c1) l1) ∧ Aside0 (Kd.N (kR b_ (fun k_ => P1_ k_ ∨ w.heap.size ≤ k_)) 24 w' w.heap.size (fun k_ => (P1_ k_ ∨ w.heap.size ≤ k_) ∧ k_ ≠ gb362) v6 x6_1) ∧ Aside0 (w'.heap[gb362]? = some (.cells (f5 A0_0 l0_0 c0_0 A0_1 l0_1 c0_1 A0_2 l0_2 c0_2 A0_3 l0_3 c0_3 A0_4 l0_4 c0_4 a0_5) 33 (0, 0))) ∧ Aside0 (Below w.heap.size w w'))
  case atStart => exact ⟨(([] : List (List Int))), (0), es, H', ⟨Nat.le_refl _⟩, ⟨vr (Kd.R_mono HO1.out (fun _ hk => ⟨hk.1, ⟨(by simp [Value.ownBlock]), hk.2⟩⟩))⟩, ⟨by first | exact Kd.S_nil _ _ _ _ _ | exact Kd.N_nil _ _ _ _ _ | exact Kd.V_nil _ _ _ _ _ | exact Kd.Q_nil _ _ _ _ _ | exact Kd.R_nil _ _ _ _ _⟩, ⟨vk BK362.out⟩, ⟨vb HB.out⟩⟩
  case round =>
   clear H'; obtain ⟨x6_1, x20_1, rfl, HA, HK1, HO_1, HO_6, BK362, HB⟩ := hrel
   cases gk with
   | zero => exact absurd HA.out (by simp [impl_placings.l0])
   | succ k1 =>
    have H := HA.out; clear HA; simp only [impl_placings.l0] at H
    by_cases c10 : x20_1 < (l0_3.length : Int)
    ·rw [if_pos c10] at H; have c10b0 := decide_eq_true c10; clear c10; obtain ⟨t366, A11, H⟩ := bnk H; by_cases c12 : t366 = true
     ·subst c12; rw [if_pos rfl] at H; obtain ⟨t367, A13, H⟩ := bnk H; obtain ⟨y370, Ny370, H⟩ := bnE H; by_cases c14 : t367.length + y370.length < 17592186044416
      ·rw [if_pos c14] at H; have LMc14 := ak c14; clear c14; obtain ⟨y373, hy373⟩ := gen_ ((t367 ++ y370 : List Int)); rw [← hy373] at H; have Ny373 := ak hy373; clear hy373; obtain ⟨t376, A15, H⟩ := bnk H; by_cases c16 : x6_1.length + t376.length < 5864062014805
       ·rw [if_pos c16] at H; have LMc16 := ak c16; clear c16; obtain ⟨y379, hy379⟩ := gen_ ((x6_1 ++ t376 : List (List Int))); rw [← hy379] at H; have Ny379 := ak hy379; clear hy379; have H' := ak H; clear H; have hcz17 := cz6 BK362.out; (try go_wp2_with (first | ((with_reducible refine at_fn (f := 113) rfl ?_); refine gl (some 27) Try.func113 #[.agg (f5 A0_0 l0_0 c0_0 A0_1 l0_1 c0_1 A0_2 l0_2 c0_2 A0_3 l0_3 c0_3 A0_4 l0_4 c0_4 a0_5), .slice A1 l1.length c1, .int .i64 (l1.length : Int), .int .i64 x20_1] ?_; (with_reducible refine (impl_isFree.calls k1 _ _ l0_0 _ _ l0_1 _ _ l0_2 _ _ l0_3 _ _ l0_4 a0_5 _ _ l1 (l1.length : Int) x20_1 _ _ ?_ HC0_0.out ?_ HC0_1.out ?_ HC0_2.out ?_ HC0_3.out ?_ HC0_4.out ?_ ?_ A11.out).mono ?_); exact vd HR0_0.out HB.out; exact vd HR0_1.out HB.out; exact vd HR0_2.out HB.out; exact vd HR0_3.out HB.out; exact vd HR0_4.out HB.out; exact vc (Kd.R_reads' HO_1.out).2.2; exact (Kd.R_reads' HO_1.out).2.1; rintro e w18 ⟨rfl, hb⟩; refine ⟨_, rfl, ?_⟩; replace HO_1 := ak (Kd.R_below (vr HO_1.out) hb); replace HO_6 := ak (Kd.N_below (vN HO_6.out) hb); replace BK362 := kb BK362 hb; replace HB := bs HB hb; (try clear hb); obtain ⟨Ao19, co19, eo19⟩ := Kd.N_slice HO_6.out; subst eo19)))
        replace HO_1 := ak (Kd.R_drew HO_1.out); replace HO_6 := ak (Kd.N_drew HO_6.out); replace BK362 := ak (blk_drew BK362.out); replace HB := ak (below_drew1 HB.out); refine start_ (n := 10) (S := fun w' => w'.cell? ⟨gb362, 0, none⟩ = some (.slice A0_0 l0_0.length c0_0) ∧ w'.cell? ⟨gb362, 1, none⟩ = some (.slice A0_1 l0_1.length c0_1) ∧ w'.cell? ⟨gb362, 2, none⟩ = some (.slice A0_2 l0_2.length c0_2) ∧ w'.cell? ⟨gb362, 3, none⟩ = some (.slice A0_3 l0_3.length c0_3) ∧ w'.cell? ⟨gb362, 4, none⟩ = some (.slice A0_4 l0_4.length c0_4) ∧ w'.cell? ⟨gb362, 5, none⟩ = some (.int .i64 a0_5)) (ds := []) (tf 0 10) (by kernel_rfl) rfl rfl (cy6 BK362.out) (fun hHeld => ?_); refine with_tabW impl_placings.tab9 impl_placings.bits9 (fun HT_ HW_ => ?_); generalize w18.drew = w20 at HO_1 HO_6 BK362 HB hHeld ⊢; refine pu_ 0 28 (tf 1 9) rfl rfl ?_; refine pu_ 2 30 (tM [1, 1, 1, 7]) rfl rfl ?_; refine pu_ 4 32 (tM [1, 1, 1, 1, 1, 5]) rfl rfl ?_; refine ta6_ 1 29 (tM [3, 1, 1, 5]) rfl rfl ?_; refine join_ (σ := Value × Value) 4 (tf 6 4) (fun s_ => [(31, s_.1), (33, s_.2)]) (fun s_ w' => (w'.cell? ⟨gb362, 0, none⟩ = some (.slice A0_0 l0_0.length c0_0) ∧ w'.cell? ⟨gb362, 1, none⟩ = some (.slice A0_1 l0_1.length c0_1) ∧ w'.cell? ⟨gb362, 2, none⟩ = some (.slice A0_2 l0_2.length c0_2) ∧ w'.cell? ⟨gb362, 3, none⟩ = some (.slice A0_3 l0_3.length c0_3) ∧ w'.cell? ⟨gb362, 4, none⟩ = some (.slice A0_4 l0_4.length c0_4) ∧ w'.cell? ⟨gb362, 5, none⟩ = some (.int .i64 a0_5)) ∧ (Kd.R (Kd.int .i64) 2 w' w.heap.size (fun k_ => (w.heap.size ≤ k_) ∧ some k_ ≠ (s_.2 : Value).ownBlock) s_.1 t367) ∧ (Kd.R (Kd.int .i64) 2 w' w.heap.size (fun k_ => (w.heap.size ≤ k_) ∧ some k_ ≠ (s_.1 : Value).ownBlock) s_.2 y370) ∧ (Kd.R (Kd.int .i64) 2 w' b_ (fun k_ => (P1_ k_ ∨ w.heap.size ≤ k_) ∧ some k_ ≠ (s_.1 : Value).ownBlock ∧ some k_ ≠ (s_.2 : Value).ownBlock ∧ some k_ ≠ (.slice Ao19 x6_1.length co19 : Value).ownBlock ∧ k_ ≠ gb362) (.slice A1 l1.length c1) l1) ∧ (Kd.N (kR b_ (fun k_ => P1_ k_ ∨ w.heap.size ≤ k_)) 24 w' w.heap.size (fun k_ => (P1_ k_ ∨ w.heap.size ≤ k_) ∧ some k_ ≠ (s_.1 : Value).ownBlock ∧ some k_ ≠ (s_.2 : Value).ownBlock ∧ k_ ≠ gb362) (.slice Ao19 x6_1.length co19) x6_1) ∧ (w'.heap[gb362]? = some (.cells (f5 A0_0 l0_0 c0_0 A0_1 l0_1 c0_1 A0_2 l0_2 c0_2 A0_3 l0_3 c0_3 A0_4 l0_4 c0_4 a0_5) 33 (0, 0))) ∧ (Below w.heap.size w w')) ?_ ?_
        rotate_left
        ·intro hCont; refine two_ (i := 3) (j := 5) (Ni := some 31) (Nj := some 33) (tf 5 5) (tM [3, 1, 2, 4]) rfl rfl rfl rfl (two_of HT_.out (by kernel_rfl)) (by decide) (by decide) (fun K hK => ?_) (fun K hK => ?_)
         ·skip
          refine goes_ Try.func91 (by kernel_rfl) rfl #[.slice A1 l1.length c1] (by rfl) rfl rfl (by (try simp only [List.map_toArray, List.map_cons, List.map_nil]); first | done | rfl | (simp only [List.length_drop, List.length_take]; rfl)) ?_; with_reducible refine (impl_copyList.calls _ _ l1 t367 _ ?_ ?_ A13.out).mono ?_
          exact vc (Kd.R_reads' HO_1.out).2.2
          exact (Kd.R_reads' HO_1.out).2.1
          rintro e w21 ⟨v368, rfl, ho0, hb⟩; refine ⟨_, rfl, ?_⟩; replace HO_1 := ak (Kd.R_elder' (vr HO_1.out) (Kd.R_base ho0) hb); replace HO_6 := ak (Kd.N_elder' (vN HO_6.out) (Kd.R_base ho0) hb); have HO369 := ak (Kd.R_lower (Kd.R_newM (M := fun k_ => (w.heap.size ≤ k_)) ho0 (below_size (vb HB.out)) (fun k_ h_ => h_)) (below_size (vb HB.out))); replace BK362 := kb BK362 hb; replace HB := bs HB hb; (try clear hb)
          (try clear hb2)
          (try clear hk)
          (try clear hi)
          (try clear ho0)
          refine hK.out _ _ (cy6 BK362.out) (fun hHeld => ?_); clear hK K; refine norm_ (a' := ?_) ?_ ?_
          rotate_left
          ·show Act.put _ (some 31) _ = _
           simp only [Act.put, List.setIfInBounds_toArray, List.set_cons_zero, List.set_cons_succ, i64_w, i32_w]
           rfl
          refine one_ (i := 5) (N := some 33) (tf 6 4) rfl rfl (one_of HT_.out (by kernel_rfl)) (by decide) (fun K hK => ?_); refine Kd.R_lit_step (Kd.int .i64) _ 2 ?hg (N := 33) ?hd (xs := ([x20_1] : List Int)) (inner := [.int .i64 x20_1]) (ok := fun _ => True) (okp := fun _ => True) ?hr ?hp (fun _ hk => hk) trivial (Below.refl _ _) (Nat.le_refl _) (by simp) ?_; (case hd => rfl); (case hg => rfl); (case hr => first | (go_simp; done) | (go_simp; rfl)); (case hp => exact (Reps.one (show Kd.M (Kd.int .i64) _ _ _ x20_1 [.int .i64 x20_1] from rfl) (Reps.none _ _))); intro v371 w22 ho23 hb hg_ hnew_; clear hg_ hnew_; (first | rw [← Ny370.out] at ho23 | (simp only [Int.reduceToNat] at ho23; rw [← Ny370.out] at ho23))
          replace HO_1 := ak (Kd.R_elder' (vr HO_1.out) (Kd.R_base ho23) hb); replace HO_6 := ak (Kd.N_elder' (vN HO_6.out) (Kd.R_base ho23) hb); have HO372 := ak (Kd.R_lower (Kd.R_new' (Kd.R_newM (M := fun k_ => (w.heap.size ≤ k_)) ho23 (below_size (vb HB.out)) (fun k_ h_ => h_)) (Kd.R_lt (vr HO369.out))) (below_size (vb HB.out))); replace HO369 := ak (Kd.R_elder' (vr HO369.out) (Kd.R_base ho23) hb); replace BK362 := kb BK362 hb; replace HB := bs HB hb; clear hb ho23; refine hK.out _ _ (cy6 BK362.out) (fun hHeld => ?_); clear hK K; refine norm_ (a' := ?_) ?_ ?_
          rotate_left
          ·show Act.put _ (some 33) _ = _
           simp only [Act.put, List.setIfInBounds_toArray, List.set_cons_zero, List.set_cons_succ, i64_w, i32_w]
           rfl
          exact norm_ (by simp only [putAll, Act.put, List.setIfInBounds_toArray, List.set_cons_zero, List.set_cons_succ]) (hCont (v368, v371) _ ⟨hHeld, (vr (Kd.R_mono HO369.out (fun _ hk => ⟨hk.1.1, hk.2⟩))), (vr (Kd.R_mono HO372.out (fun _ hk => ⟨hk.1.1, hk.2⟩))), (vr (Kd.R_mono HO_1.out (fun _ hk => ⟨hk.1.1.1, ⟨hk.1.2, ⟨hk.2, ⟨hk.1.1.2.1, hk.1.1.2.2⟩⟩⟩⟩))), (vN (Kd.N_mono HO_6.out (fun _ hk => ⟨hk.1.1.1, ⟨hk.1.2, ⟨hk.2, hk.1.1.2⟩⟩⟩))), (vk BK362.out), (vb HB.out)⟩)
         ·skip
          refine Kd.R_lit_step (Kd.int .i64) _ 2 ?hg (N := 33) ?hd (xs := ([x20_1] : List Int)) (inner := [.int .i64 x20_1]) (ok := fun _ => True) (okp := fun _ => True) ?hr ?hp (fun _ hk => hk) trivial (Below.refl _ _) (Nat.le_refl _) (by simp) ?_; (case hd => rfl); (case hg => rfl); (case hr => first | (go_simp; done) | (go_simp; rfl)); (case hp => exact (Reps.one (show Kd.M (Kd.int .i64) _ _ _ x20_1 [.int .i64 x20_1] from rfl) (Reps.none _ _))); intro v371 w21 ho22 hb hg_ hnew_; clear hg_ hnew_; (first | rw [← Ny370.out] at ho22 | (simp only [Int.reduceToNat] at ho22; rw [← Ny370.out] at ho22))
          replace HO_1 := ak (Kd.R_elder' (vr HO_1.out) (Kd.R_base ho22) hb); replace HO_6 := ak (Kd.N_elder' (vN HO_6.out) (Kd.R_base ho22) hb); have HO372 := ak (Kd.R_lower (Kd.R_newM (M := fun k_ => (w.heap.size ≤ k_)) ho22 (below_size (vb HB.out)) (fun k_ h_ => h_)) (below_size (vb HB.out))); replace BK362 := kb BK362 hb; replace HB := bs HB hb; clear hb ho22; refine hK.out _ _ (cy6 BK362.out) (fun hHeld => ?_); clear hK K; refine norm_ (a' := ?_) ?_ ?_
          rotate_left
          ·show Act.put _ (some 33) _ = _
           simp only [Act.put, List.setIfInBounds_toArray, List.set_cons_zero, List.set_cons_succ, i64_w, i32_w]
           rfl
          refine one_ (i := 3) (N := some 31) (tf 6 4) rfl rfl (one_of HT_.out (by kernel_rfl)) (by decide) (fun K hK => ?_); refine goes_ Try.func91 (by kernel_rfl) rfl #[.slice A1 l1.length c1] (by rfl) rfl rfl (by (try simp only [List.map_toArray, List.map_cons, List.map_nil]); first | done | rfl | (simp only [List.length_drop, List.length_take]; rfl)) ?_; with_reducible refine (impl_copyList.calls _ _ l1 t367 _ ?_ ?_ A13.out).mono ?_
          exact vc (Kd.R_reads' HO_1.out).2.2
          exact (Kd.R_reads' HO_1.out).2.1
          rintro e w23 ⟨v368, rfl, ho0, hb⟩; refine ⟨_, rfl, ?_⟩; replace HO_1 := ak (Kd.R_elder' (vr HO_1.out) (Kd.R_base ho0) hb); replace HO_6 := ak (Kd.N_elder' (vN HO_6.out) (Kd.R_base ho0) hb); have HO369 := ak (Kd.R_lower (Kd.R_new' (Kd.R_newM (M := fun k_ => (w.heap.size ≤ k_)) ho0 (below_size (vb HB.out)) (fun k_ h_ => h_)) (Kd.R_lt (vr HO372.out))) (below_size (vb HB.out))); replace HO372 := ak (Kd.R_elder' (vr HO372.out) (Kd.R_base ho0) hb); replace BK362 := kb BK362 hb; replace HB := bs HB hb; (try clear hb)
          (try clear hb2)
          (try clear hk)
          (try clear hi)
          (try clear ho0)
          refine hK.out _ _ (cy6 BK362.out) (fun hHeld => ?_); clear hK K; refine norm_ (a' := ?_) ?_ ?_
          rotate_left
          ·show Act.put _ (some 31) _ = _
           simp only [Act.put, List.setIfInBounds_toArray, List.set_cons_zero, List.set_cons_succ, i64_w, i32_w]
           rfl
          exact norm_ (by simp only [putAll, Act.put, List.setIfInBounds_toArray, List.set_cons_zero, List.set_cons_succ]) (hCont (v368, v371) _ ⟨hHeld, (vr (Kd.R_mono HO369.out (fun _ hk => ⟨hk.1.1, hk.2⟩))), (vr (Kd.R_mono HO372.out (fun _ hk => ⟨hk.1.1, hk.2⟩))), (vr (Kd.R_mono HO_1.out (fun _ hk => ⟨hk.1.1.1, ⟨hk.2, ⟨hk.1.2, ⟨hk.1.1.2.1, hk.1.1.2.2⟩⟩⟩⟩))), (vN (Kd.N_mono HO_6.out (fun _ hk => ⟨hk.1.1.1, ⟨hk.2, ⟨hk.1.2, hk.1.1.2⟩⟩⟩))), (vk BK362.out), (vb HB.out)⟩)
        rintro ⟨v368, v371⟩ w24 ⟨hS_, h0_, h1_, h2_, h3_, h4_, h5_⟩; have n0_ : Aside0 (Kd.R (Kd.int .i64) 2 w24 w.heap.size (fun k_ => (w.heap.size ≤ k_) ∧ some k_ ≠ (v371 : Value).ownBlock) v368 t367) := ⟨h0_⟩; have n1_ : Aside0 (Kd.R (Kd.int .i64) 2 w24 w.heap.size (fun k_ => (w.heap.size ≤ k_) ∧ some k_ ≠ (v368 : Value).ownBlock) v371 y370) := ⟨h1_⟩; have n2_ : Aside0 (Kd.R (Kd.int .i64) 2 w24 b_ (fun k_ => (P1_ k_ ∨ w.heap.size ≤ k_) ∧ some k_ ≠ (v368 : Value).ownBlock ∧ some k_ ≠ (v371 : Value).ownBlock ∧ some k_ ≠ (.slice Ao19 x6_1.length co19 : Value).ownBlock ∧ k_ ≠ gb362) (.slice A1 l1.length c1) l1) := ⟨h2_⟩; have n3_ : Aside0 (Kd.N (kR b_ (fun k_ => P1_ k_ ∨ w.heap.size ≤ k_)) 24 w24 w.heap.size (fun k_ => (P1_ k_ ∨ w.heap.size ≤ k_) ∧ some k_ ≠ (v368 : Value).ownBlock ∧ some k_ ≠ (v371 : Value).ownBlock ∧ k_ ≠ gb362) (.slice Ao19 x6_1.length co19) x6_1) := ⟨h3_⟩; have n4_ : Aside0 (w24.heap[gb362]? = some (.cells (f5 A0_0 l0_0 c0_0 A0_1 l0_1 c0_1 A0_2 l0_2 c0_2 A0_3 l0_3 c0_3 A0_4 l0_4 c0_4 a0_5) 33 (0, 0))) := ⟨h4_⟩; have n5_ : Aside0 (Below w.heap.size w w24) := ⟨h5_⟩; clear HO_1; clear HO_6; clear BK362; clear HB; clear h0_ h1_ h2_ h3_ h4_ h5_; have HO369 := n0_; have HO372 := n1_; have HO_1 := n2_; have HO_6 := n3_; have BK362 := n4_; have HB := n5_; clear n0_ n1_ n2_ n3_ n4_ n5_; have hHeld : w24.cell? ⟨gb362, 0, none⟩ = some (.slice A0_0 l0_0.length c0_0) ∧ w24.cell? ⟨gb362, 1, none⟩ = some (.slice A0_1 l0_1.length c0_1) ∧ w24.cell? ⟨gb362, 2, none⟩ = some (.slice A0_2 l0_2.length c0_2) ∧ w24.cell? ⟨gb362, 3, none⟩ = some (.slice A0_3 l0_3.length c0_3) ∧ w24.cell? ⟨gb362, 4, none⟩ = some (.slice A0_4 l0_4.length c0_4) ∧ w24.cell? ⟨gb362, 5, none⟩ = some (.int .i64 a0_5) := hS_
        obtain ⟨Ao26, co26, eo26⟩ := Kd.R_slice HO372.out; (first | subst eo26 | (injection eo26 with f1_ f2_ f3_; have f4_ := f1_.symm; have f5_ := f3_.symm; clear f1_ f2_ f3_; subst f4_; subst f5_))
        refine norm_ (a' := ?_) ?_ ?_
        rotate_left
        ·simp only [putAll, Act.put, List.setIfInBounds_toArray, List.set_cons_zero, List.set_cons_succ]
         rfl
        refine one_ (i := 6) (N := some 34) (tf 7 3) rfl rfl (one_of HT_.out (by kernel_rfl)) (by decide) (fun K hK => ?_); refine Kd.R_append_rows_step (Kd.int .i64) (w0 := w) w.heap.size (by rfl) (.tmp 31) (.tmp 33) 24 2 (.int .i64 0) 8 rfl Try.underlying24 info2 rfl (by decide) (by omega) v368 t367 y370 _ _ _ (fun k_ => (w.heap.size ≤ k_) ∧ some k_ ≠ (.slice Ao26 y370.length co26 : Value).ownBlock) (fun _ => False) rfl rfl ?aO ?aR (fun _ _ h => h) (fun _ h => h.elim) ?aF ?aB ?aS ?aL ?_; (case aR => exact vc (Kd.R_reads' HO372.out).2.2)
        (case aB => exact (vb HB.out))
        (case aF => exact (fun k_ hk => ⟨(Nat.le_trans (below_size (vb HB.out)) hk), Kd.fresh' (Kd.R_lt (vr HO372.out)) k_ hk⟩))
        (case aO => exact (vr HO369.out))
        (case aS => exact (below_size (vb HB.out)))
        (case aL => have := LMc14.out; omega)
        intro v374 w25 ho hb hg hat; rw [← Ny373.out] at ho; have n0_ := ak (Kd.R_after (ok := (fun k_ => (P1_ k_ ∨ w.heap.size ≤ k_) ∧ some k_ ≠ (.slice Ao19 x6_1.length co19 : Value).ownBlock ∧ some k_ ≠ (.slice Ao26 y370.length co26 : Value).ownBlock ∧ k_ ≠ gb362)) (vr (Kd.R_mono HO_1.out (fun _ hk => ⟨⟨hk.1, ⟨hk.2.2.2.1, ⟨hk.2.2.1, hk.2.2.2.2⟩⟩⟩, hk.2.1⟩))) hg hat); have n1_ := ak (Kd.N_afterv (ok := (fun k_ => (P1_ k_ ∨ w.heap.size ≤ k_) ∧ some k_ ≠ (.slice Ao26 y370.length co26 : Value).ownBlock ∧ k_ ≠ gb362)) (vN (Kd.N_mono HO_6.out (fun _ hk => ⟨⟨hk.1, ⟨hk.2.2.1, hk.2.2.2⟩⟩, hk.2.1⟩))) hg hat); have n2_ := ak (blk_grown (g := gb362) (o := .cells (f5 A0_0 l0_0 c0_0 A0_1 l0_1 c0_1 A0_2 l0_2 c0_2 A0_3 l0_3 c0_3 A0_4 l0_4 c0_4 a0_5) 33 (0, 0)) (vk BK362.out) hg (Kd.R_ne HO369.out BK362.out (by decide))); have n3_ := ak (Kd.R_after (ok := (fun k_ => (w.heap.size ≤ k_))) (vr HO372.out) hg hat); have n4_ := ak (hb); have n5_ := ak (ho); clear HO_1; clear HO_6; clear BK362; clear HO372; clear HB; clear HO369; have HO_1 := n0_; have HO_6 := n1_; have BK362 := n2_; have HO372 := n3_; have HB := n4_; have HO375 := n5_; clear n0_ n1_ n2_ n3_ n4_ n5_; clear ho hb hg hat; obtain ⟨Ao27, co27, eo27⟩ := Kd.R_slice HO375.out
        (first | subst eo27 | (injection eo27 with f1_ f2_ f3_; have f4_ := f1_.symm; have f5_ := f3_.symm; clear f1_ f2_ f3_; subst f4_; subst f5_))
        refine hK.out _ _ (cy6 BK362.out) (fun hHeld => ?_); clear hK K; refine norm_ (a' := ?_) ?_ ?_
        rotate_left
        ·show Act.put _ (some 34) _ = _
         simp only [Act.put, List.setIfInBounds_toArray, List.set_cons_zero, List.set_cons_succ, i64_w, i32_w]
         rfl
        refine one_ (i := 7) (N := some 35) (tf 8 2) rfl rfl (one_of HT_.out (by kernel_rfl)) (by decide) (fun K hK => ?_); refine goes_ Try.func62 (by kernel_rfl) rfl #[.agg (f5 A0_0 l0_0 c0_0 A0_1 l0_1 c0_1 A0_2 l0_2 c0_2 A0_3 l0_3 c0_3 A0_4 l0_4 c0_4 a0_5), .slice Ao27 y373.length co27] (by rfl) rfl rfl (by (try simp only [List.map_toArray, List.map_cons, List.map_nil]); first | done | rfl | (simp only [List.length_drop, List.length_take]; rfl)) ?_; with_reducible refine (ih k1 (by have := HK1.out; omega) _ _ l0_0 _ _ l0_1 _ _ l0_2 _ _ l0_3 _ _ l0_4 a0_5 (fun k_ => some k_ = (.slice Ao27 y373.length co27 : Value).ownBlock) _ _ y373 t376 b_ _ ?sideb ?_ ?_ ?_ ?_ ?_ ?_ ?_ ?_ ?_ ?_ ?_ A15.out).mono ?_
        (case sideb => exact Nat.le_trans hb_ (below_size (vb HB.out)))
        exact vd HR0_0.out HB.out
        exact HC0_0.out
        exact vd HR0_1.out HB.out
        exact HC0_1.out
        exact vd HR0_2.out HB.out
        exact HC0_2.out
        exact vd HR0_3.out HB.out
        exact HC0_3.out
        exact vd HR0_4.out HB.out
        exact HC0_4.out
        exact Kd.R_lower (Kd.R_tight rfl (Kd.R_types (Kd.R_apart' (HO375.out) (Kd.N_typed HO_6.out) (by decide)) BK362.out (by decide))) hb_
        rintro e w28 ⟨v377, rfl, ho0, hb⟩; refine ⟨_, rfl, ?_⟩; replace HO_1 := ak (Kd.R_elder' (vr HO_1.out) (Kd.N_base ho0) hb); have HO378 := ak (Kd.N_lower (Kd.N_mono (ok' := fun k_ => (P1_ k_ ∨ w.heap.size ≤ k_) ∧ some k_ ≠ (.slice Ao19 x6_1.length co19 : Value).ownBlock ∧ some k_ ≠ (.slice Ao26 y370.length co26 : Value).ownBlock ∧ k_ ≠ gb362) (N_kR ho0 (fun k_ hk_ => (show (fun k_ => (P1_ k_ ∨ w.heap.size ≤ k_) ∧ some k_ ≠ (.slice Ao19 x6_1.length co19 : Value).ownBlock ∧ some k_ ≠ (.slice Ao26 y370.length co26 : Value).ownBlock ∧ k_ ≠ gb362) k_ from ⟨Or.elim hk_ (fun hs_ => (.inr (((Kd.R_types (Kd.R_apart' (HO375.out) (Kd.N_typed HO_6.out) (by decide)) BK362.out (by decide)).1 k_ hs_.symm).1.1.1))) (fun hn_ => (.inr (Nat.le_trans (below_size (vb HB.out)) hn_))), Or.elim hk_ (fun hs_ => ((Kd.R_types (Kd.R_apart' (HO375.out) (Kd.N_typed HO_6.out) (by decide)) BK362.out (by decide)).1 k_ hs_.symm).1.2) (fun hn_ => (Kd.fresh' (Kd.N_lt (vN HO_6.out)) k_ hn_)), Or.elim hk_ (fun hs_ => ((Kd.R_types (Kd.R_apart' (HO375.out) (Kd.N_typed HO_6.out) (by decide)) BK362.out (by decide)).1 k_ hs_.symm).1.1.2) (fun hn_ => (Kd.fresh' (Kd.R_lt (vr HO372.out)) k_ hn_)), Or.elim hk_ (fun hs_ => ((Kd.R_types (Kd.R_apart' (HO375.out) (Kd.N_typed HO_6.out) (by decide)) BK362.out (by decide)).1 k_ hs_.symm).2) (fun hn_ => (Kd.freshB (g := gb362) (o := .cells (f5 A0_0 l0_0 c0_0 A0_1 l0_1 c0_1 A0_2 l0_2 c0_2 A0_3 l0_3 c0_3 A0_4 l0_4 c0_4 a0_5) 33 (0, 0)) (vk BK362.out) k_ hn_))⟩).1)) (fun k_ hk_ => ⟨Or.elim hk_ (fun hs_ => (.inr (((Kd.R_types (Kd.R_apart' (HO375.out) (Kd.N_typed HO_6.out) (by decide)) BK362.out (by decide)).1 k_ hs_.symm).1.1.1))) (fun hn_ => (.inr (Nat.le_trans (below_size (vb HB.out)) hn_))), Or.elim hk_ (fun hs_ => ((Kd.R_types (Kd.R_apart' (HO375.out) (Kd.N_typed HO_6.out) (by decide)) BK362.out (by decide)).1 k_ hs_.symm).1.2) (fun hn_ => (Kd.fresh' (Kd.N_lt (vN HO_6.out)) k_ hn_)), Or.elim hk_ (fun hs_ => ((Kd.R_types (Kd.R_apart' (HO375.out) (Kd.N_typed HO_6.out) (by decide)) BK362.out (by decide)).1 k_ hs_.symm).1.1.2) (fun hn_ => (Kd.fresh' (Kd.R_lt (vr HO372.out)) k_ hn_)), Or.elim hk_ (fun hs_ => ((Kd.R_types (Kd.R_apart' (HO375.out) (Kd.N_typed HO_6.out) (by decide)) BK362.out (by decide)).1 k_ hs_.symm).2) (fun hn_ => (Kd.freshB (g := gb362) (o := .cells (f5 A0_0 l0_0 c0_0 A0_1 l0_1 c0_1 A0_2 l0_2 c0_2 A0_3 l0_3 c0_3 A0_4 l0_4 c0_4 a0_5) 33 (0, 0)) (vk BK362.out) k_ hn_))⟩)) (below_size (vb HB.out)))
        replace HO_6 := ak (Kd.N_elder' (vN HO_6.out) (Kd.N_base ho0) hb); replace HO372 := ak (Kd.R_below (vr HO372.out) hb); replace HO375 := ak (Kd.R_below (vr HO375.out) hb); replace BK362 := kb BK362 hb; replace HB := bs HB hb; (try clear hb)
        (try clear hb2)
        (try clear hk)
        (try clear hi)
        (try clear ho0)
        obtain ⟨Ao30, co30, eo30⟩ := Kd.N_slice HO378.out; (first | subst eo30 | (injection eo30 with f1_ f2_ f3_; have f4_ := f1_.symm; have f5_ := f3_.symm; clear f1_ f2_ f3_; subst f4_; subst f5_))
        refine hK.out _ _ (cy6 BK362.out) (fun hHeld => ?_); clear hK K; refine norm_ (a' := ?_) ?_ ?_
        rotate_left
        ·show Act.put _ (some 35) _ = _
         simp only [Act.put, List.setIfInBounds_toArray, List.set_cons_zero, List.set_cons_succ, i64_w, i32_w]
         rfl
        refine one_ (i := 8) (N := some 36) (tf 9 1) rfl rfl (one_of HT_.out (by kernel_rfl)) (by decide) (fun K hK => ?_); refine Kd.N_append_rows_step (kR b_ (fun k_ => P1_ k_ ∨ w.heap.size ≤ k_)) (w0 := w) w.heap.size (by rfl) (.tmp 28) (.tmp 35) 65 24 (.slice none 0 0) 24 rfl Try.underlying65 info24 rfl Nat.one_pos (by omega) (.slice Ao19 x6_1.length co19) x6_1 t376 _ _ _ (fun k_ => (P1_ k_ ∨ w.heap.size ≤ k_) ∧ some k_ ≠ (.slice Ao26 y370.length co26 : Value).ownBlock ∧ k_ ≠ gb362) (fun k_ => ((fun k_ => (P1_ k_ ∨ w.heap.size ≤ k_) ∧ some k_ ≠ (.slice Ao26 y370.length co26 : Value).ownBlock ∧ k_ ≠ gb362)) k_ ∧ some k_ ≠ (.slice Ao19 x6_1.length co19 : Value).ownBlock) rfl rfl ?aO ?aR (fun _ hk => hk) ?aF ?aB ?aS ?aL ?_; (case aR => exact (by skip; exact Kd.N_F (Kd.N_mono (ok' := (fun k_ => ((fun k_ => (P1_ k_ ∨ w.heap.size ≤ k_) ∧ some k_ ≠ (.slice Ao26 y370.length co26 : Value).ownBlock ∧ k_ ≠ gb362)) k_ ∧ some k_ ≠ (.slice Ao19 x6_1.length co19 : Value).ownBlock)) (HO378.out) (fun k_ hk => ⟨⟨hk.1, ⟨hk.2.2.1, hk.2.2.2⟩⟩, hk.2.1⟩))))
        (case aB => exact (vb HB.out))
        (case aF => exact (fun k_ hk => ⟨(.inr (Nat.le_trans (below_size (vb HB.out)) hk)), Kd.fresh' (Kd.R_lt (vr HO372.out)) k_ hk, Kd.freshB (g := gb362) (o := .cells (f5 A0_0 l0_0 c0_0 A0_1 l0_1 c0_1 A0_2 l0_2 c0_2 A0_3 l0_3 c0_3 A0_4 l0_4 c0_4 a0_5) 33 (0, 0)) (vk BK362.out) k_ hk⟩))
        (case aO => exact (vN (Kd.N_mono HO_6.out (fun _ hk => ⟨hk.1.1.1, ⟨hk.1.1.2.1, hk.1.1.2.2⟩⟩))))
        (case aS => exact (below_size (vb HB.out)))
        (case aL => have := LMc16.out; omega)
        intro v380 w29 ho hb hg hat; rw [← Ny379.out] at ho; have n0_ := ak (Kd.R_after (ok := (fun k_ => (P1_ k_ ∨ w.heap.size ≤ k_) ∧ some k_ ≠ (.slice Ao26 y370.length co26 : Value).ownBlock ∧ some k_ ≠ (.slice Ao27 y373.length co27 : Value).ownBlock ∧ some k_ ≠ (.slice Ao30 t376.length co30 : Value).ownBlock ∧ k_ ≠ gb362)) (vr (Kd.R_mono HO_1.out (fun _ hk => ⟨⟨hk.1.1.1, ⟨hk.1.1.2.2.1, ⟨hk.1.2, ⟨hk.2, hk.1.1.2.2.2⟩⟩⟩⟩, hk.1.1.2.1⟩))) hg hat); have n1_ := ak (blk_grown (g := gb362) (o := .cells (f5 A0_0 l0_0 c0_0 A0_1 l0_1 c0_1 A0_2 l0_2 c0_2 A0_3 l0_3 c0_3 A0_4 l0_4 c0_4 a0_5) 33 (0, 0)) (vk BK362.out) hg (Kd.N_ne HO_6.out BK362.out (by decide))); have n2_ := ak (Kd.R_over' (vr HO372.out) (Kd.N_typed (vN HO_6.out)) (by decide) hg); have n3_ := ak (Kd.R_over' (vr HO375.out) (Kd.N_typed (vN HO_6.out)) (by decide) hg); have n4_ := ak (Kd.N_afterv (ok := (fun k_ => (P1_ k_ ∨ w.heap.size ≤ k_) ∧ some k_ ≠ (.slice Ao26 y370.length co26 : Value).ownBlock ∧ k_ ≠ gb362)) (vN (Kd.N_mono HO378.out (fun _ hk => ⟨⟨hk.1, ⟨hk.2.2.1, hk.2.2.2⟩⟩, hk.2.1⟩))) hg hat)
        have n5_ := ak (hb); have n6_ := ak (ho); clear HO_1; clear BK362; clear HO372; clear HO375; clear HO378; clear HB; clear HO_6; have HO_1 := n0_; have BK362 := n1_; have HO372 := n2_; have HO375 := n3_; have HO378 := n4_; have HB := n5_; have HO381 := n6_; clear n0_ n1_ n2_ n3_ n4_ n5_ n6_; clear ho hb hg hat; refine hK.out _ _ (cy6 BK362.out) (fun hHeld => ?_); clear hK K; refine norm_ (a' := ?_) ?_ ?_
        rotate_left
        ·show Act.put _ (some 36) _ = _
         simp only [Act.put, List.setIfInBounds_toArray, List.set_cons_zero, List.set_cons_succ, i64_w, i32_w]
         rfl
        refine pu_ 9 6 (tf 10 0) rfl rfl ?_; refine done_ (done_of HT_.out (by kernel_rfl)) ?_; (try go_wp2)
        go_roundg k1
        case measure => have := HK1.out; omega
        case rel => exact ⟨(y379), (wrap64 (x20_1 + 1)), es, H', ⟨by have := HK1.out; omega⟩, ⟨vr (Kd.R_mono HO_1.out (fun _ hk => ⟨hk.1.1, ⟨hk.2, hk.1.2.2.2.2⟩⟩))⟩, ⟨vN (Kd.N_mono HO381.out (fun _ hk => ⟨hk.1, hk.2.2⟩))⟩, ⟨vk BK362.out⟩, ⟨vb HB.out⟩⟩
       ·exact nO_ c16 H
      ·exact nO_ c14 H
     ·replace c12 := Bool.eq_false_iff.mpr c12; subst c12; rw [if_neg nf] at H; have H' := ak H; clear H; have hcz31 := cz6 BK362.out; go_wp2_with (first | ((with_reducible refine at_fn (f := 113) rfl ?_); refine gl (some 27) Try.func113 #[.agg (f5 A0_0 l0_0 c0_0 A0_1 l0_1 c0_1 A0_2 l0_2 c0_2 A0_3 l0_3 c0_3 A0_4 l0_4 c0_4 a0_5), .slice A1 l1.length c1, .int .i64 (l1.length : Int), .int .i64 x20_1] ?_; (with_reducible refine (impl_isFree.calls k1 _ _ l0_0 _ _ l0_1 _ _ l0_2 _ _ l0_3 _ _ l0_4 a0_5 _ _ l1 (l1.length : Int) x20_1 _ _ ?_ HC0_0.out ?_ HC0_1.out ?_ HC0_2.out ?_ HC0_3.out ?_ HC0_4.out ?_ ?_ A11.out).mono ?_); exact vd HR0_0.out HB.out; exact vd HR0_1.out HB.out; exact vd HR0_2.out HB.out; exact vd HR0_3.out HB.out; exact vd HR0_4.out HB.out; exact vc (Kd.R_reads' HO_1.out).2.2; exact (Kd.R_reads' HO_1.out).2.1; rintro e w32 ⟨rfl, hb⟩; refine ⟨_, rfl, ?_⟩; replace HO_1 := ak (Kd.R_below (vr HO_1.out) hb); replace HO_6 := ak (Kd.N_below (vN HO_6.out) hb); replace BK362 := kb BK362 hb; replace HB := bs HB hb; (try clear hb)))
      go_roundg k1
      case measure => have := HK1.out; omega
      case rel => exact ⟨(x6_1), (wrap64 (x20_1 + 1)), es, H', ⟨by have := HK1.out; omega⟩, ⟨vr HO_1.out⟩, ⟨vN HO_6.out⟩, ⟨vk BK362.out⟩, ⟨vb HB.out⟩⟩
    ·rw [if_neg c10] at H; have c10b0 := decide_eq_false c10; clear c10; obtain rfl := sj H; go_wp2
     go_ret
     exact ⟨_, ew, vN (Kd.N_mono HO_6.out (fun _ hk => hk.1)), vb HB.out⟩

set_option maxHeartbeats 8000000 in
set_option maxRecDepth 100000 in
theorem impl_bestPlacing.calls0 (k : Nat) (A0_0 : Option Addr) (c0_0 : Nat) (l0_0 : List (S98)) (A0_1 : Option Addr) (c0_1 : Nat) (l0_1 : List (S103)) (A0_2 : Option Addr) (c0_2 : Nat) (l0_2 : List Int) (A0_3 : Option Addr) (c0_3 : Nat) (l0_3 : List Int) (A0_4 : Option Addr) (c0_4 : Nat) (l0_4 : List Int) (a0_5 : Int) (r1 : List Int) (r2 : Bool) (w : World) (hr0_0 : Kd.C k98 w A0_0 l0_0.length l0_0) (hc0_0 : l0_0.length ≤ c0_0) (hr0_1 : Kd.C k103 w A0_1 l0_1.length l0_1) (hc0_1 : l0_1.length ≤ c0_1) (hr0_2 : Kd.C (Kd.int .i64) w A0_2 l0_2.length l0_2) (hc0_2 : l0_2.length ≤ c0_2) (hr0_3 : Kd.C (Kd.int .i64) w A0_3 l0_3.length l0_3) (hc0_3 : l0_3.length ≤ c0_3) (hr0_4 : Kd.C (Kd.int .i64) w A0_4 l0_4.length l0_4) (hc0_4 : l0_4.length ≤ c0_4) (h : impl_bestPlacing.f k l0_0 l0_1 l0_2 l0_3 l0_4 a0_5 = some (r1, r2)) :
  Calls Try.prog 81 #[.agg (f5 A0_0 l0_0 c0_0 A0_1 l0_1 c0_1 A0_2 l0_2 c0_2 A0_3 l0_3 c0_3 A0_4 l0_4 c0_4 a0_5)] w fun e w' => ∃ v0_ : Value, e = .returned (.tuple #[v0_, .bool r2]) ∧ Kd.R (Kd.int .i64) 2 w' w.heap.size (fun k_ => (w.heap.size ≤ k_)) v0_ r1 ∧ Below w.heap.size w w' := by
 have hu33 := Try.underlying33; have HR0_0 := ak hr0_0; have HC0_0 := ak hc0_0; clear hr0_0 hc0_0; have HR0_1 := ak hr0_1; have HC0_1 := ak hc0_1; clear hr0_1 hc0_1; have HR0_2 := ak hr0_2; have HC0_2 := ak hc0_2; clear hr0_2 hc0_2; have HR0_3 := ak hr0_3; have HC0_3 := ak hc0_3; clear hr0_3 hc0_3; have HR0_4 := ak hr0_4; have HC0_4 := ak hc0_4; clear hr0_4 hc0_4; have HB := ak (Below.refl w.heap.size w); unfold impl_bestPlacing.f at h; have H := h; clear h; obtain ⟨t1168, A2, H⟩ := bnk H; by_cases c3 : (t1168.length : Int) = 0
 ·rw [if_pos c3] at H; obtain ⟨c3b0, c3b1⟩ := bqt c3; clear c3; simp only [Option.some.injEq, Prod.mk.injEq] at H
  obtain ⟨rfl, rfl⟩ := H; go_enter Try.func81, Try.ntmps81; go_wp2_with (first | ((with_reducible refine gate_dst (N := 1) rfl ?_); refine bx 1 (f5 A0_0 l0_0 c0_0 A0_1 l0_1 c0_1 A0_2 l0_2 c0_2 A0_3 l0_3 c0_3 A0_4 l0_4 c0_4 a0_5) 33 ?_; intro gb1167 hg w4 hbox hb; have BK1167 := ak hbox; have GW1167 := gw hg HB; have GE1167 := gw hg HB; replace HB := bs HB hb; clear hb hbox hg; have hcz5 := cz6 BK1167.out) | ((with_reducible refine at_fn (f := 62) rfl ?_); refine gl (some 9) Try.func62 #[.agg (f5 A0_0 l0_0 c0_0 A0_1 l0_1 c0_1 A0_2 l0_2 c0_2 A0_3 l0_3 c0_3 A0_4 l0_4 c0_4 a0_5), .slice none 0 0] ?_; (refine (impl_placings.callsR k _ _ l0_0 _ _ l0_1 _ _ l0_2 _ _ l0_3 _ _ l0_4 a0_5 (fun k_ => False) _ _ ([] : List Int) t1168 w.heap.size _ ?sideb ?_ ?_ ?_ ?_ ?_ ?_ ?_ ?_ ?_ ?_ ?_ A2.out).mono ?_); (case sideb => exact below_size (vb HB.out)); exact vd HR0_0.out HB.out; exact HC0_0.out; exact vd HR0_1.out HB.out; exact HC0_1.out; exact vd HR0_2.out HB.out; exact HC0_2.out; exact vd HR0_3.out HB.out; exact HC0_3.out; exact vd HR0_4.out HB.out; exact HC0_4.out; exact Kd.R_nil _ _ _ _ _; rintro e w6 ⟨v1169, rfl, ho0, hb⟩; refine ⟨_, rfl, ?_⟩; have HO1170 := ak (Kd.N_lower (Kd.N_mono (ok' := fun k_ => (w.heap.size ≤ k_) ∧ k_ ≠ gb1167) (N_kR ho0 (fun k_ hk_ => (show (fun k_ => (w.heap.size ≤ k_) ∧ k_ ≠ gb1167) k_ from ⟨Or.elim hk_ (fun hs_ => (hs_).elim) (fun hn_ => (Nat.le_trans (below_size (vb HB.out)) hn_)), Or.elim hk_ (fun hs_ => (hs_).elim) (fun hn_ => (Kd.freshB (g := gb1167) (o := .cells (f5 A0_0 l0_0 c0_0 A0_1 l0_1 c0_1 A0_2 l0_2 c0_2 A0_3 l0_3 c0_3 A0_4 l0_4 c0_4 a0_5) 33 (0, 0)) (vk BK1167.out) k_ hn_))⟩).1)) (fun k_ hk_ => ⟨Or.elim hk_ (fun hs_ => (hs_).elim) (fun hn_ => (Nat.le_trans (below_size (vb HB.out)) hn_)), Or.elim hk_ (fun hs_ => (hs_).elim) (fun hn_ => (Kd.freshB (g := gb1167) (o := .cells (f5 A0_0 l0_0 c0_0 A0_1 l0_1 c0_1 A0_2 l0_2 c0_2 A0_3 l0_3 c0_3 A0_4 l0_4 c0_4 a0_5) 33 (0, 0)) (vk BK1167.out) k_ hn_))⟩)) (below_size (vb HB.out))); replace BK1167 := kb BK1167 hb; replace HB := bs HB hb; (try clear hb); (try clear ho0); obtain ⟨Ao7, co7, eo7⟩ := Kd.N_slice HO1170.out; subst eo7))
  go_ret2
  exact ⟨_, ew, id (by first | exact Kd.R_nil _ _ _ _ _ | exact Kd.N_nil _ _ _ _ _ | exact Kd.V_nil _ _ _ _ _ | exact Kd.Q_nil _ _ _ _ _ | exact Kd.S_nil _ _ _ _ _), vb HB.out⟩
 ·rw [if_neg c3] at H; obtain ⟨c3b0, c3b1⟩ := bqf c3; have c3b2 : ¬ (t1168 = []) := fun h_ => c3 (by rw [h_]; rfl)
  by_cases c8 : 0 < (t1168.length : Int)
  ·rw [if_pos c8] at H; have c8b0 := decide_eq_true c8; have c8b1 : decide (0 < t1168.length) = true := decide_eq_true (by omega); clear c8; have H' := ak H; clear H; go_enter Try.func81, Try.ntmps81; go_wp2_with (first | ((with_reducible refine gate_dst (N := 1) rfl ?_); refine bx 1 (f5 A0_0 l0_0 c0_0 A0_1 l0_1 c0_1 A0_2 l0_2 c0_2 A0_3 l0_3 c0_3 A0_4 l0_4 c0_4 a0_5) 33 ?_; intro gb1167 hg w9 hbox hb; have BK1167 := ak hbox; have GW1167 := gw hg HB; have GE1167 := gw hg HB; replace HB := bs HB hb; clear hb hbox hg; have hcz10 := cz6 BK1167.out) | ((with_reducible refine at_fn (f := 62) rfl ?_); refine gl (some 9) Try.func62 #[.agg (f5 A0_0 l0_0 c0_0 A0_1 l0_1 c0_1 A0_2 l0_2 c0_2 A0_3 l0_3 c0_3 A0_4 l0_4 c0_4 a0_5), .slice none 0 0] ?_; (refine (impl_placings.callsR k _ _ l0_0 _ _ l0_1 _ _ l0_2 _ _ l0_3 _ _ l0_4 a0_5 (fun k_ => False) _ _ ([] : List Int) t1168 w.heap.size _ ?sideb ?_ ?_ ?_ ?_ ?_ ?_ ?_ ?_ ?_ ?_ ?_ A2.out).mono ?_); (case sideb => exact below_size (vb HB.out)); exact vd HR0_0.out HB.out; exact HC0_0.out; exact vd HR0_1.out HB.out; exact HC0_1.out; exact vd HR0_2.out HB.out; exact HC0_2.out; exact vd HR0_3.out HB.out; exact HC0_3.out; exact vd HR0_4.out HB.out; exact HC0_4.out; exact Kd.R_nil _ _ _ _ _; rintro e w11 ⟨v1169, rfl, ho0, hb⟩; refine ⟨_, rfl, ?_⟩; have HO1170 := ak (Kd.N_lower (Kd.N_mono (ok' := fun k_ => (w.heap.size ≤ k_) ∧ k_ ≠ gb1167) (N_kR ho0 (fun k_ hk_ => (show (fun k_ => (w.heap.size ≤ k_) ∧ k_ ≠ gb1167) k_ from ⟨Or.elim hk_ (fun hs_ => (hs_).elim) (fun hn_ => (Nat.le_trans (below_size (vb HB.out)) hn_)), Or.elim hk_ (fun hs_ => (hs_).elim) (fun hn_ => (Kd.freshB (g := gb1167) (o := .cells (f5 A0_0 l0_0 c0_0 A0_1 l0_1 c0_1 A0_2 l0_2 c0_2 A0_3 l0_3 c0_3 A0_4 l0_4 c0_4 a0_5) 33 (0, 0)) (vk BK1167.out) k_ hn_))⟩).1)) (fun k_ hk_ => ⟨Or.elim hk_ (fun hs_ => (hs_).elim) (fun hn_ => (Nat.le_trans (below_size (vb HB.out)) hn_)), Or.elim hk_ (fun hs_ => (hs_).elim) (fun hn_ => (Kd.freshB (g := gb1167) (o := .cells (f5 A0_0 l0_0 c0_0 A0_1 l0_1 c0_1 A0_2 l0_2 c0_2 A0_3 l0_3 c0_3 A0_4 l0_4 c0_4 a0_5) 33 (0, 0)) (vk BK1167.out) k_ hn_))⟩)) (below_size (vb HB.out))); replace BK1167 := kb BK1167 hb; replace HB := bs HB hb; (try clear hb); (try clear ho0); obtain ⟨Ao12, co12, eo12⟩ := Kd.N_slice HO1170.out; subst eo12; have p1171 : 0 ≤ (0 : Int) := (by omega); have q1171 : 0 < (t1168.length : Int) := od; obtain ⟨ad1171, A1171_0, c1171_0, e1171, hx1171_0, hl1171_0, hi1171_0⟩ := at_L5 (kR_C (Kd.N_reads' HO1170.out).2.2) 0 p1171 q1171; cases e1171; obtain ⟨ce1171, hce1171, hMe1171, hcc1171⟩ := Kd.N_get HO1170.out [] 0 p1171 (by first | exact q1171 | exact od | (have e_ := (Kd.N_reads' HO1170.out).1; omega)); obtain ⟨ua1171_0, uc1171_0, rfl, ul1171_0, ge1171_0⟩ := kR_open hMe1171; have hv1171_0 := hcc1171 0 _ rfl; rw [Nat.add_zero, kR_sz, Nat.mul_one] at hv1171_0; replace hv1171_0 := Option.some.inj (hv1171_0.symm.trans hx1171_0); injection hv1171_0 with hva_ hvn_ hvc_; rw [hva_, hvc_] at ge1171_0; rw [hvc_] at ul1171_0; have HL1171_0 := ak (show Kd.R (Kd.int .i64) 2 _ w.heap.size _ _ (rd_L5 t1168 0) from Kd.R_apart' (Kd.R_types ge1171_0 BK1167.out (by decide)) (Kd.N_typed HO1170.out) (by decide)); clear hva_ hvn_ hvc_ ge1171_0 ul1171_0; clear hcc1171 hce1171; have qi1171 : (0 < t1168.length) = True := eq_true (by omega); (try rw [show ((0 : Int)).toNat = 0 from rfl] at hx1171_0); (try rw [Addr.add_zero'] at hx1171_0); have HR1171_0 := ak hi1171_0; have HC1171_0 := ak hl1171_0; clear hi1171_0 hl1171_0; replace p1171 := eq_true p1171; replace q1171 := eq_true q1171))
   go_loopg [5, 18] k (fun kq v5 v18 w' => ∃ (x5_1 : List Int) (x18_1 : Int), v18 = .int .i64 x18_1 ∧ Aside0 (impl_bestPlacing.l0 kq x5_1 t1168 (t1168.length : Int) x18_1 l0_0 l0_1 l0_2 l0_3 l0_4 a0_5 = some (r1, r2)) ∧ Aside0 (kq ≤ k) ∧ Aside0 (Kd.R (Kd.int .i64) 2 w' w.heap.size (fun k_ => (w.heap.size ≤ k_) ∧ some k_ ≠ ((.slice (some ad1171) t1168.length co12) : Value).ownBlock ∧ k_ ≠ gb1167) v5 x5_1) ∧ Aside0 (Kd.N (kR w.heap.size (fun k_ => w.heap.size ≤ k_)) 24 w' w.heap.size (fun k_ => (w.heap.size ≤ k_) ∧ k_ ≠ gb1167) (.slice (some ad1171) t1168.length co12) t1168) ∧ Aside0 (w'.heap[gb1167]? = some (.cells (f5 A0_0 l0_0 c0_0 A0_1 l0_1 c0_1 A0_2 l0_2 c0_2 A0_3 l0_3 c0_3 A0_4 l0_4 c0_4 a0_5) 33 (0, 0))) ∧ Aside0 (Kd.C (Kd.int .i64) w' A1171_0 (rd_L5 t1168 0).length (rd_L5 t1168 0)) ∧ Aside0 (Below w.heap.size w w'))
   case atStart => exact ⟨(rd_L5 t1168 0), (0), es, H', ⟨Nat.le_refl _⟩, ⟨vr (Kd.R_mono HL1171_0.out (fun _ hk => ⟨hk.1.1, ⟨hk.2, hk.1.2⟩⟩))⟩, ⟨vN HO1170.out⟩, ⟨vk BK1167.out⟩, ⟨by repeat (first | (with_reducible exact HR1171_0.out) | (with_reducible refine Kd.C_alloc ?_ _) | (with_reducible refine Kd.C_drewN ?_ _) | (with_reducible refine Kd.C_drew ?_) | exact HR1171_0.out)⟩, ⟨vb HB.out⟩⟩
   case round =>
    clear H'; obtain ⟨x5_1, x18_1, rfl, HA, HK1, HO_5, HO_16, BK1167, HR1171_0, HB⟩ := hrel
    cases gk with
    | zero => exact absurd HA.out (by simp [impl_bestPlacing.l0])
    | succ k1 =>
     have H := HA.out; clear HA; simp only [impl_bestPlacing.l0] at H
     by_cases c13 : x18_1 < (t1168.length : Int)
     ·rw [if_pos c13] at H; have c13b0 := decide_eq_true c13; clear c13; by_cases c14 : 0 ≤ x18_1
      ·rw [if_pos c14] at H; have c14b0 := decide_eq_true c14; clear c14; by_cases c15 : x18_1 < (t1168.length : Int)
       ·rw [if_pos c15] at H; have c15b0 := decide_eq_true c15; clear c15; obtain ⟨t1173, A16, H⟩ := bnk H; obtain ⟨t1174, A17, H⟩ := bnk H; by_cases c18 : t1173 < t1174
        ·rw [if_pos c18] at H; have c18b0 := decide_eq_true c18; clear c18; have H' := ak H; clear H; have p1172 : 0 ≤ (x18_1 : Int) := od; have q1172 : x18_1 < (t1168.length : Int) := od; obtain ⟨ad1172, A1172_0, c1172_0, e1172, hx1172_0, hl1172_0, hi1172_0⟩ := at_L5 (kR_C (Kd.N_reads' HO_16.out).2.2) x18_1 p1172 q1172; obtain rfl : ad1171 = ad1172 := (by injection e1172); obtain ⟨ce1172, hce1172, hMe1172, hcc1172⟩ := Kd.N_get HO_16.out [] x18_1 p1172 (by first | exact q1172 | exact od | (have e_ := (Kd.N_reads' HO_16.out).1; omega)); obtain ⟨ua1172_0, uc1172_0, rfl, ul1172_0, ge1172_0⟩ := kR_open hMe1172; have hv1172_0 := hcc1172 0 _ rfl; rw [Nat.add_zero, kR_sz, Nat.mul_one] at hv1172_0; replace hv1172_0 := Option.some.inj (hv1172_0.symm.trans hx1172_0); injection hv1172_0 with hva_ hvn_ hvc_
         rw [hva_, hvc_] at ge1172_0; rw [hvc_] at ul1172_0; have HL1172_0 := ak (show Kd.R (Kd.int .i64) 2 _ w.heap.size _ _ (rd_L5 t1168 x18_1) from Kd.R_apart' (Kd.R_types ge1172_0 BK1167.out (by decide)) (Kd.N_typed HO_16.out) (by decide)); clear hva_ hvn_ hvc_ ge1172_0 ul1172_0; clear hcc1172 hce1172; have HR1172_0 := ak hi1172_0; have HC1172_0 := ak hl1172_0; clear hi1172_0 hl1172_0; replace p1172 := eq_true p1172; replace q1172 := eq_true q1172; (try go_wp2)
         replace HO_5 := ak (Kd.R_drew HO_5.out); replace HO_16 := ak (Kd.N_drew HO_16.out); replace HL1172_0 := ak (Kd.R_drew HL1172_0.out); replace BK1167 := ak (blk_drew BK1167.out); replace HR1171_0 := ak (Kd.C_drew HR1171_0.out); replace HR1172_0 := ak (Kd.C_drew HR1172_0.out); replace HB := ak (below_drew1 HB.out); refine start_ (n := 7) (S := fun w' => w'.cell? ⟨gb1167, 0, none⟩ = some (.slice A0_0 l0_0.length c0_0) ∧ w'.cell? ⟨gb1167, 1, none⟩ = some (.slice A0_1 l0_1.length c0_1) ∧ w'.cell? ⟨gb1167, 2, none⟩ = some (.slice A0_2 l0_2.length c0_2) ∧ w'.cell? ⟨gb1167, 3, none⟩ = some (.slice A0_3 l0_3.length c0_3) ∧ w'.cell? ⟨gb1167, 4, none⟩ = some (.slice A0_4 l0_4.length c0_4) ∧ w'.cell? ⟨gb1167, 5, none⟩ = some (.int .i64 a0_5)) (ds := []) (tf 0 7) (by kernel_rfl) rfl rfl (cy6 BK1167.out) (fun hHeld => ?_); generalize wr.drew = w19 at HO_5 HO_16 HL1172_0 BK1167 HR1171_0 HR1172_0 HB hHeld ⊢; refine pu_ 1 23 (tM [0, 1, 1, 5]) rfl rfl ?_ (by kernel_rfl); refine pu_ 4 26 (tM [0, 1, 1, 2, 1, 2]) rfl rfl ?_ (by kernel_rfl); refine ta6_ 0 22 (tM [2, 2, 1, 2]) rfl rfl ?_ (by kernel_rfl); refine ta6_ 3 25 (tM [2, 1, 2, 2]) rfl rfl ?_ (by kernel_rfl); refine one_ (i := 2) (N := some 24) (tf 5 2) rfl rfl (by kernel_rfl) (by decide) (fun K hK => ?_); refine goes_ Try.func77 (by kernel_rfl) rfl #[.agg (f5 A0_0 l0_0 c0_0 A0_1 l0_1 c0_1 A0_2 l0_2 c0_2 A0_3 l0_3 c0_3 A0_4 l0_4 c0_4 a0_5), .slice A1172_0 (rd_L5 t1168 x18_1).length c1172_0] (by rfl) rfl rfl (by (try simp only [List.map_toArray, List.map_cons, List.map_nil]); first | done | rfl | (simp only [List.length_drop, List.length_take]; rfl)) ?_
         with_reducible refine (impl_costOf.calls k1 _ _ l0_0 _ _ l0_1 _ _ l0_2 _ _ l0_3 _ _ l0_4 a0_5 _ _ (rd_L5 t1168 x18_1) t1173 _ ?_ ?_ ?_ ?_ ?_ ?_ ?_ ?_ ?_ ?_ ?side11 ?_ A16.out).mono ?_
         exact vd HR0_0.out HB.out
         exact HC0_0.out
         exact vd HR0_1.out HB.out
         exact HC0_1.out
         exact vd HR0_2.out HB.out
         exact HC0_2.out
         exact vd HR0_3.out HB.out
         exact HC0_3.out
         exact vd HR0_4.out HB.out
         exact HC0_4.out
         (case side11 => repeat (first | exact (by repeat (first | (with_reducible exact HR1172_0.out) | (with_reducible refine Kd.C_alloc ?_ _) | (with_reducible refine Kd.C_drewN ?_ _) | (with_reducible refine Kd.C_drew ?_) | exact HR1172_0.out)) | (with_reducible refine Kd.C_alloc ?_ _) | (with_reducible refine Kd.C_drewN ?_ _) | (with_reducible refine Kd.C_drew ?_)))
         exact HC1172_0.out
         rintro e w20 ⟨rfl, hb⟩; refine ⟨_, rfl, ?_⟩; replace HO_5 := ak (Kd.R_below (vr HO_5.out) hb); replace HO_16 := ak (Kd.N_below (vN HO_16.out) hb); replace HL1172_0 := ak (Kd.R_below (vr HL1172_0.out) hb); replace BK1167 := kb BK1167 hb; replace HR1171_0 := ak (Kd.C_below (by repeat (first | (with_reducible exact HR1171_0.out) | (with_reducible refine Kd.C_alloc ?_ _) | (with_reducible refine Kd.C_drewN ?_ _) | (with_reducible refine Kd.C_drew ?_) | exact HR1171_0.out)) hb); replace HR1172_0 := ak (Kd.C_below (by repeat (first | (with_reducible exact HR1172_0.out) | (with_reducible refine Kd.C_alloc ?_ _) | (with_reducible refine Kd.C_drewN ?_ _) | (with_reducible refine Kd.C_drew ?_) | exact HR1172_0.out)) hb); replace HB := bs HB hb; (try clear hb)
         (try clear hb2)
         (try clear hk)
         (try clear hi)
         obtain ⟨Ao21, co21, eo21⟩ := Kd.R_slice HO_5.out; (first | subst eo21 | (injection eo21 with f1_ f2_ f3_; have f4_ := f1_.symm; have f5_ := f3_.symm; clear f1_ f2_ f3_; subst f4_; subst f5_))
         refine hK.out _ _ (cy6 BK1167.out) (fun hHeld => ?_); clear hK K; refine norm_ (a' := ?_) ?_ ?_
         rotate_left
         ·show Act.put _ (some 24) _ = _
          simp only [Act.put, List.setIfInBounds_toArray, List.set_cons_zero, List.set_cons_succ, i64_w, i32_w]
          rfl
         refine one_ (i := 5) (N := some 27) (tf 6 1) rfl rfl (by kernel_rfl) (by decide) (fun K hK => ?_); refine goes_ Try.func77 (by kernel_rfl) rfl #[.agg (f5 A0_0 l0_0 c0_0 A0_1 l0_1 c0_1 A0_2 l0_2 c0_2 A0_3 l0_3 c0_3 A0_4 l0_4 c0_4 a0_5), .slice Ao21 x5_1.length co21] (by rfl) rfl rfl (by (try simp only [List.map_toArray, List.map_cons, List.map_nil]); first | done | rfl | (simp only [List.length_drop, List.length_take]; rfl)) ?_; with_reducible refine (impl_costOf.calls k1 _ _ l0_0 _ _ l0_1 _ _ l0_2 _ _ l0_3 _ _ l0_4 a0_5 _ _ x5_1 t1174 _ ?_ ?_ ?_ ?_ ?_ ?_ ?_ ?_ ?_ ?_ ?_ ?_ A17.out).mono ?_
         exact vd HR0_0.out HB.out
         exact HC0_0.out
         exact vd HR0_1.out HB.out
         exact HC0_1.out
         exact vd HR0_2.out HB.out
         exact HC0_2.out
         exact vd HR0_3.out HB.out
         exact HC0_3.out
         exact vd HR0_4.out HB.out
         exact HC0_4.out
         exact vc (Kd.R_reads' HO_5.out).2.2
         exact (Kd.R_reads' HO_5.out).2.1
         rintro e w22 ⟨rfl, hb⟩; refine ⟨_, rfl, ?_⟩; replace HO_5 := ak (Kd.R_below (vr HO_5.out) hb); replace HO_16 := ak (Kd.N_below (vN HO_16.out) hb); replace HL1172_0 := ak (Kd.R_below (vr HL1172_0.out) hb); replace BK1167 := kb BK1167 hb; replace HR1171_0 := ak (Kd.C_below (by repeat (first | (with_reducible exact HR1171_0.out) | (with_reducible refine Kd.C_alloc ?_ _) | (with_reducible refine Kd.C_drewN ?_ _) | (with_reducible refine Kd.C_drew ?_) | exact HR1171_0.out)) hb); replace HR1172_0 := ak (Kd.C_below (by repeat (first | (with_reducible exact HR1172_0.out) | (with_reducible refine Kd.C_alloc ?_ _) | (with_reducible refine Kd.C_drewN ?_ _) | (with_reducible refine Kd.C_drew ?_) | exact HR1172_0.out)) hb); replace HB := bs HB hb; (try clear hb)
         (try clear hb2)
         (try clear hk)
         (try clear hi)
         refine hK.out _ _ (cy6 BK1167.out) (fun hHeld => ?_); clear hK K; refine norm_ (a' := ?_) ?_ ?_
         rotate_left
         ·show Act.put _ (some 27) _ = _
          simp only [Act.put, List.setIfInBounds_toArray, List.set_cons_zero, List.set_cons_succ, i64_w, i32_w]
          rfl
         refine pu_ 6 28 (tf 7 0) rfl rfl ?_ (by kernel_rfl); refine done_ (by kernel_rfl) ?_; (try go_wp2)
         go_roundg k1
         case measure => have := HK1.out; omega
         case rel => exact ⟨(rd_L5 t1168 x18_1), (wrap64 (x18_1 + 1)), es, H', ⟨by have := HK1.out; omega⟩, ⟨vr (Kd.R_mono HL1172_0.out (fun _ hk => ⟨hk.1.1, ⟨hk.2, hk.1.2⟩⟩))⟩, ⟨vN HO_16.out⟩, ⟨vk BK1167.out⟩, ⟨by repeat (first | (with_reducible exact HR1171_0.out) | (with_reducible refine Kd.C_alloc ?_ _) | (with_reducible refine Kd.C_drewN ?_ _) | (with_reducible refine Kd.C_drew ?_) | exact HR1171_0.out)⟩, ⟨vb HB.out⟩⟩
        ·rw [if_neg c18] at H; have c18b0 := decide_eq_false c18; clear c18; have H' := ak H; clear H; have p1172 : 0 ≤ (x18_1 : Int) := od; have q1172 : x18_1 < (t1168.length : Int) := od; obtain ⟨ad1172, A1172_0, c1172_0, e1172, hx1172_0, hl1172_0, hi1172_0⟩ := at_L5 (kR_C (Kd.N_reads' HO_16.out).2.2) x18_1 p1172 q1172; obtain rfl : ad1171 = ad1172 := (by injection e1172); obtain ⟨ce1172, hce1172, hMe1172, hcc1172⟩ := Kd.N_get HO_16.out [] x18_1 p1172 (by first | exact q1172 | exact od | (have e_ := (Kd.N_reads' HO_16.out).1; omega)); obtain ⟨ua1172_0, uc1172_0, rfl, ul1172_0, ge1172_0⟩ := kR_open hMe1172; have hv1172_0 := hcc1172 0 _ rfl; rw [Nat.add_zero, kR_sz, Nat.mul_one] at hv1172_0; replace hv1172_0 := Option.some.inj (hv1172_0.symm.trans hx1172_0); injection hv1172_0 with hva_ hvn_ hvc_
         rw [hva_, hvc_] at ge1172_0; rw [hvc_] at ul1172_0; have HL1172_0 := ak (show Kd.R (Kd.int .i64) 2 _ w.heap.size _ _ (rd_L5 t1168 x18_1) from Kd.R_apart' (Kd.R_types ge1172_0 BK1167.out (by decide)) (Kd.N_typed HO_16.out) (by decide)); clear hva_ hvn_ hvc_ ge1172_0 ul1172_0; clear hcc1172 hce1172; have HR1172_0 := ak hi1172_0; have HC1172_0 := ak hl1172_0; clear hi1172_0 hl1172_0; replace p1172 := eq_true p1172; replace q1172 := eq_true q1172; (try go_wp2)
         replace HO_5 := ak (Kd.R_drew HO_5.out); replace HO_16 := ak (Kd.N_drew HO_16.out); replace HL1172_0 := ak (Kd.R_drew HL1172_0.out); replace BK1167 := ak (blk_drew BK1167.out); replace HR1171_0 := ak (Kd.C_drew HR1171_0.out); replace HR1172_0 := ak (Kd.C_drew HR1172_0.out); replace HB := ak (below_drew1 HB.out); refine start_ (n := 7) (S := fun w' => w'.cell? ⟨gb1167, 0, none⟩ = some (.slice A0_0 l0_0.length c0_0) ∧ w'.cell? ⟨gb1167, 1, none⟩ = some (.slice A0_1 l0_1.length c0_1) ∧ w'.cell? ⟨gb1167, 2, none⟩ = some (.slice A0_2 l0_2.length c0_2) ∧ w'.cell? ⟨gb1167, 3, none⟩ = some (.slice A0_3 l0_3.length c0_3) ∧ w'.cell? ⟨gb1167, 4, none⟩ = some (.slice A0_4 l0_4.length c0_4) ∧ w'.cell? ⟨gb1167, 5, none⟩ = some (.int .i64 a0_5)) (ds := []) (tf 0 7) (by kernel_rfl) rfl rfl (cy6 BK1167.out) (fun hHeld => ?_); generalize wr.drew = w23 at HO_5 HO_16 HL1172_0 BK1167 HR1171_0 HR1172_0 HB hHeld ⊢; refine pu_ 1 23 (tM [0, 1, 1, 5]) rfl rfl ?_ (by kernel_rfl); refine pu_ 4 26 (tM [0, 1, 1, 2, 1, 2]) rfl rfl ?_ (by kernel_rfl); refine ta6_ 0 22 (tM [2, 2, 1, 2]) rfl rfl ?_ (by kernel_rfl); refine ta6_ 3 25 (tM [2, 1, 2, 2]) rfl rfl ?_ (by kernel_rfl); refine one_ (i := 2) (N := some 24) (tf 5 2) rfl rfl (by kernel_rfl) (by decide) (fun K hK => ?_); refine goes_ Try.func77 (by kernel_rfl) rfl #[.agg (f5 A0_0 l0_0 c0_0 A0_1 l0_1 c0_1 A0_2 l0_2 c0_2 A0_3 l0_3 c0_3 A0_4 l0_4 c0_4 a0_5), .slice A1172_0 (rd_L5 t1168 x18_1).length c1172_0] (by rfl) rfl rfl (by (try simp only [List.map_toArray, List.map_cons, List.map_nil]); first | done | rfl | (simp only [List.length_drop, List.length_take]; rfl)) ?_
         with_reducible refine (impl_costOf.calls k1 _ _ l0_0 _ _ l0_1 _ _ l0_2 _ _ l0_3 _ _ l0_4 a0_5 _ _ (rd_L5 t1168 x18_1) t1173 _ ?_ ?_ ?_ ?_ ?_ ?_ ?_ ?_ ?_ ?_ ?side11 ?_ A16.out).mono ?_
         exact vd HR0_0.out HB.out
         exact HC0_0.out
         exact vd HR0_1.out HB.out
         exact HC0_1.out
         exact vd HR0_2.out HB.out
         exact HC0_2.out
         exact vd HR0_3.out HB.out
         exact HC0_3.out
         exact vd HR0_4.out HB.out
         exact HC0_4.out
         (case side11 => repeat (first | exact (by repeat (first | (with_reducible exact HR1172_0.out) | (with_reducible refine Kd.C_alloc ?_ _) | (with_reducible refine Kd.C_drewN ?_ _) | (with_reducible refine Kd.C_drew ?_) | exact HR1172_0.out)) | (with_reducible refine Kd.C_alloc ?_ _) | (with_reducible refine Kd.C_drewN ?_ _) | (with_reducible refine Kd.C_drew ?_)))
         exact HC1172_0.out
         rintro e w24 ⟨rfl, hb⟩; refine ⟨_, rfl, ?_⟩; replace HO_5 := ak (Kd.R_below (vr HO_5.out) hb); replace HO_16 := ak (Kd.N_below (vN HO_16.out) hb); replace HL1172_0 := ak (Kd.R_below (vr HL1172_0.out) hb); replace BK1167 := kb BK1167 hb; replace HR1171_0 := ak (Kd.C_below (by repeat (first | (with_reducible exact HR1171_0.out) | (with_reducible refine Kd.C_alloc ?_ _) | (with_reducible refine Kd.C_drewN ?_ _) | (with_reducible refine Kd.C_drew ?_) | exact HR1171_0.out)) hb); replace HR1172_0 := ak (Kd.C_below (by repeat (first | (with_reducible exact HR1172_0.out) | (with_reducible refine Kd.C_alloc ?_ _) | (with_reducible refine Kd.C_drewN ?_ _) | (with_reducible refine Kd.C_drew ?_) | exact HR1172_0.out)) hb); replace HB := bs HB hb; (try clear hb)
         (try clear hb2)
         (try clear hk)
         (try clear hi)
         obtain ⟨Ao25, co25, eo25⟩ := Kd.R_slice HO_5.out; (first | subst eo25 | (injection eo25 with f1_ f2_ f3_; have f4_ := f1_.symm; have f5_ := f3_.symm; clear f1_ f2_ f3_; subst f4_; subst f5_))
         refine hK.out _ _ (cy6 BK1167.out) (fun hHeld => ?_); clear hK K; refine norm_ (a' := ?_) ?_ ?_
         rotate_left
         ·show Act.put _ (some 24) _ = _
          simp only [Act.put, List.setIfInBounds_toArray, List.set_cons_zero, List.set_cons_succ, i64_w, i32_w]
          rfl
         refine one_ (i := 5) (N := some 27) (tf 6 1) rfl rfl (by kernel_rfl) (by decide) (fun K hK => ?_); refine goes_ Try.func77 (by kernel_rfl) rfl #[.agg (f5 A0_0 l0_0 c0_0 A0_1 l0_1 c0_1 A0_2 l0_2 c0_2 A0_3 l0_3 c0_3 A0_4 l0_4 c0_4 a0_5), .slice Ao25 x5_1.length co25] (by rfl) rfl rfl (by (try simp only [List.map_toArray, List.map_cons, List.map_nil]); first | done | rfl | (simp only [List.length_drop, List.length_take]; rfl)) ?_; with_reducible refine (impl_costOf.calls k1 _ _ l0_0 _ _ l0_1 _ _ l0_2 _ _ l0_3 _ _ l0_4 a0_5 _ _ x5_1 t1174 _ ?_ ?_ ?_ ?_ ?_ ?_ ?_ ?_ ?_ ?_ ?_ ?_ A17.out).mono ?_
         exact vd HR0_0.out HB.out
         exact HC0_0.out
         exact vd HR0_1.out HB.out
         exact HC0_1.out
         exact vd HR0_2.out HB.out
         exact HC0_2.out
         exact vd HR0_3.out HB.out
         exact HC0_3.out
         exact vd HR0_4.out HB.out
         exact HC0_4.out
         exact vc (Kd.R_reads' HO_5.out).2.2
         exact (Kd.R_reads' HO_5.out).2.1
         rintro e w26 ⟨rfl, hb⟩; refine ⟨_, rfl, ?_⟩; replace HO_5 := ak (Kd.R_below (vr HO_5.out) hb); replace HO_16 := ak (Kd.N_below (vN HO_16.out) hb); replace HL1172_0 := ak (Kd.R_below (vr HL1172_0.out) hb); replace BK1167 := kb BK1167 hb; replace HR1171_0 := ak (Kd.C_below (by repeat (first | (with_reducible exact HR1171_0.out) | (with_reducible refine Kd.C_alloc ?_ _) | (with_reducible refine Kd.C_drewN ?_ _) | (with_reducible refine Kd.C_drew ?_) | exact HR1171_0.out)) hb); replace HR1172_0 := ak (Kd.C_below (by repeat (first | (with_reducible exact HR1172_0.out) | (with_reducible refine Kd.C_alloc ?_ _) | (with_reducible refine Kd.C_drewN ?_ _) | (with_reducible refine Kd.C_drew ?_) | exact HR1172_0.out)) hb); replace HB := bs HB hb; (try clear hb)
         (try clear hb2)
         (try clear hk)
         (try clear hi)
         refine hK.out _ _ (cy6 BK1167.out) (fun hHeld => ?_); clear hK K; refine norm_ (a' := ?_) ?_ ?_
         rotate_left
         ·show Act.put _ (some 27) _ = _
          simp only [Act.put, List.setIfInBounds_toArray, List.set_cons_zero, List.set_cons_succ, i64_w, i32_w]
          rfl
         refine pu_ 6 28 (tf 7 0) rfl rfl ?_ (by kernel_rfl); refine done_ (by kernel_rfl) ?_; (try go_wp2)
         go_roundg k1
         case measure => have := HK1.out; omega
         case rel => exact ⟨(x5_1), (wrap64 (x18_1 + 1)), es, H', ⟨by have := HK1.out; omega⟩, ⟨vr HO_5.out⟩, ⟨vN HO_16.out⟩, ⟨vk BK1167.out⟩, ⟨by repeat (first | (with_reducible exact HR1171_0.out) | (with_reducible refine Kd.C_alloc ?_ _) | (with_reducible refine Kd.C_drewN ?_ _) | (with_reducible refine Kd.C_drew ?_) | exact HR1171_0.out)⟩, ⟨vb HB.out⟩⟩
       ·exact nO_ c15 H
      ·exact nO_ c14 H
     ·rw [if_neg c13] at H; have c13b0 := decide_eq_false c13; clear c13; simp only [Option.some.injEq, Prod.mk.injEq] at H
      obtain ⟨rfl, rfl⟩ := H; go_wp2
      go_ret2
      exact ⟨_, ew, vr (Kd.R_mono HO_5.out (fun _ hk => hk.1)), vb HB.out⟩
  ·exact nO_ c8 H
theorem impl_bestPlacing.calls (k : Nat) (A0_0 : Option Addr) (c0_0 : Nat) (l0_0 : List (S98)) (A0_1 : Option Addr) (c0_1 : Nat) (l0_1 : List (S103)) (A0_2 : Option Addr) (c0_2 : Nat) (l0_2 : List Int) (A0_3 : Option Addr) (c0_3 : Nat) (l0_3 : List Int) (A0_4 : Option Addr) (c0_4 : Nat) (l0_4 : List Int) (a0_5 : Int) (r1 : List Int) (r2 : Bool) (w : World) (hr0_0 : Kd.C k98 w A0_0 l0_0.length l0_0) (hc0_0 : l0_0.length ≤ c0_0) (hr0_1 : Kd.C k103 w A0_1 l0_1.length l0_1) (hc0_1 : l0_1.length ≤ c0_1) (hr0_2 : Kd.C (Kd.int .i64) w A0_2 l0_2.length l0_2) (hc0_2 : l0_2.length ≤ c0_2) (hr0_3 : Kd.C (Kd.int .i64) w A0_3 l0_3.length l0_3) (hc0_3 : l0_3.length ≤ c0_3) (hr0_4 : Kd.C (Kd.int .i64) w A0_4 l0_4.length l0_4) (hc0_4 : l0_4.length ≤ c0_4) (h : impl_bestPlacing.f k l0_0 l0_1 l0_2 l0_3 l0_4 a0_5 = some (r1, r2)) :
  Calls Try.prog 81 #[.agg (f5 A0_0 l0_0 c0_0 A0_1 l0_1 c0_1 A0_2 l0_2 c0_2 A0_3 l0_3 c0_3 A0_4 l0_4 c0_4 a0_5)] w fun e w' => ∃ v0_ : Value, e = .returned (.tuple #[v0_, .bool r2]) ∧ Kd.R (Kd.int .i64) 2 w' w.heap.size (fun _ => True) v0_ r1 ∧ Below w.heap.size w w' := (impl_bestPlacing.calls0 k A0_0 c0_0 l0_0 A0_1 c0_1 l0_1 A0_2 c0_2 l0_2 A0_3 c0_3 l0_3 A0_4 c0_4 l0_4 a0_5 r1 r2 w hr0_0 hc0_0 hr0_1 hc0_1 hr0_2 hc0_2 hr0_3 hc0_3 hr0_4 hc0_4 h).mono (fun _ _ ⟨v, he, hR, hb⟩ => ⟨v, he, Kd.R_mono hR (fun _ _ => trivial), hb⟩)


end Go.Proofs.Ytancnecddlbhkaa.Pall
