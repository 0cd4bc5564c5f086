/- Go functions of the program, each as a Lean function, and the proof that each call comes to what the Lean function tells; no condition beyond those that stand there. -/
import Derived.Test.YtancnecddlbhkaaF00
import Derived.Test.YtancnecddlbhkaaF02
import Derived.Test.YtancnecddlbhkaaF07
import Derived.Test.YtancnecddlbhkaaF09
import Derived.Test.YtancnecddlbhkaaF21
import Derived.Test.YtancnecddlbhkaaSq
import Derived.Test.YtancnecddlbhkaaWLast
import Derived.Test.YtancnecddlbhkaaWMore
import Derived.Test.YtancnecddlbhkaaWN
import Derived.Test.YtancnecddlbhkaaWTab
import Derived.Test.YtancnecddlbhkaaSpare
import Derived.Test.YtancnecddlbhkaaCm
import Derived.Test.YtancnecddlbhkaaCm4
import Derived.Test.YtancnecddlbhkaaCm3
import Derived.Test.YtancnecddlbhkaaCm6
namespace Go.Proofs.Ytancnecddlbhkaa.Pall
open Go.RowKit Go.Proofs.YtancnecddlbhkaaW.PrintWords Go.Proofs.YtancnecddlbhkaaW.PrintLast Go.Proofs.YtancnecddlbhkaaW.PrintMore
set_option linter.unusedVariables false
set_option linter.unusedSimpArgs false

/-! ### spec_BestPlacing: function 35 -/
def spec_BestPlacing.l0 : Nat → List (List Int) → List Int → Int → List (S98) → List (S103) → List Int → List Int → List Int → Int → Option (List Int × Int × Int)
 | 0, _, _, _, _, _, _, _, _, _ => none
 | k + 1, x5, x6, x7, x860000, x860001, x860002, x860003, x860004, x860005 => if x7 < (x5.length : Int) then (if 0 ≤ x7 then ((spec_l18Cost.f k x860000 x860001 x860002 x860003 x860004 x860005 (rd_L5 x5 x7)).bind fun t867 => ((spec_l18Cost.f k x860000 x860001 x860002 x860003 x860004 x860005 x6).bind fun t868 => (if t867 < t868 then (spec_BestPlacing.l0 k x5 (rd_L5 x5 x7) (wrap64 (x7 + 1)) x860000 x860001 x860002 x860003 x860004 x860005) else (spec_BestPlacing.l0 k x5 x6 (wrap64 (x7 + 1)) x860000 x860001 x860002 x860003 x860004 x860005)))) else (none)) else ((spec_l18Cost.f k x860000 x860001 x860002 x860003 x860004 x860005 x6).bind fun t865 => (some (x6, t865, 0)))
def spec_BestPlacing.f (k : Nat) (l0_0 : List (S98)) (l0_1 : List (S103)) (l0_2 : List Int) (l0_3 : List Int) (l0_4 : List Int) (a0_5 : Int) : Option (List Int × Int × Int) := (spec_IsField.f k l0_0 l0_1 l0_2 l0_3 l0_4 a0_5).bind fun t860 => (if t860 = true then ((spec_l18Placings.f k l0_0 l0_1 l0_2 l0_3 l0_4 a0_5).bind fun t861 => (if (t861.length : Int) = 0 then (some (([] : List Int), 0, 4)) else (if 0 < (t861.length : Int) then (spec_BestPlacing.l0 k t861 (rd_L5 t861 0) 0 l0_0 l0_1 l0_2 l0_3 l0_4 a0_5) else (none)))) else (some (([] : List Int), 0, 1)))
theorem spec_BestPlacing.mono_l : ∀ k, (∀ y0 y1 y2 y3 y4 y5 y6 y7 y8, LeO (spec_BestPlacing.l0 k y0 y1 y2 y3 y4 y5 y6 y7 y8) (spec_BestPlacing.l0 (k + 1) y0 y1 y2 y3 y4 y5 y6 y7 y8))
 | 0 => fun _ _ _ _ _ _ _ _ _ r h => by simp [spec_BestPlacing.l0] at h
 | k + 1 => by
  have ih0 := spec_BestPlacing.mono_l k
  ·intro y0 y1 y2 y3 y4 y5 y6 y7 y8; unfold spec_BestPlacing.l0
   repeat' (with_reducible first | exact ih0 .. | exact spec_IsField.mono .. | exact spec_l18Cost.mono .. | exact spec_l18Placings.mono .. | exact lm | refine LeO.ite ?_ ?_ | refine LeO.bind ?_ (fun _ => ?_))
theorem spec_BestPlacing.mono : ∀ a0 a1 a2 a3 a4 a5 k, LeO (spec_BestPlacing.f k a0 a1 a2 a3 a4 a5) (spec_BestPlacing.f (k + 1) a0 a1 a2 a3 a4 a5) := by
 intro a0 a1 a2 a3 a4 a5 k; have ih0 := spec_BestPlacing.mono_l k; unfold spec_BestPlacing.f
 repeat' (with_reducible first | exact ih0 .. | exact spec_IsField.mono .. | exact spec_l18Cost.mono .. | exact spec_l18Placings.mono .. | exact lm | refine LeO.ite ?_ ?_ | refine LeO.bind ?_ (fun _ => ?_))
def spec_BestPlacing.T10 : Bool × List (List Nat × List Nat) := (true, [([], []), ([], []), ([], []), ([1, 2], [1, 2]), ([3], [3]), ([0, 4], [0, 4]), ([], []), ([], []), ([6, 7, 5], [6, 7]), ([5, 8], [5, 8])])
def spec_BestPlacing.B10 : List Nat := [0, 0, 0, 6, 14, 31, 0, 0, 255, 511]
theorem spec_BestPlacing.tab10 : rtab .any (opsOf Try.f35 10) = spec_BestPlacing.T10 := by kernel_rfl
theorem spec_BestPlacing.bits10 : waitsOk spec_BestPlacing.T10.2 spec_BestPlacing.B10 = true := by kernel_rfl
set_option maxHeartbeats 8000000 in
set_option maxRecDepth 100000 in
theorem spec_BestPlacing.calls (k : Nat) (A0_0 : Option Addr) (c0_0 : Nat) (l0_0 : List (S98)) (A0_1 : Option Addr) (c0_1 : Nat) (l0_1 : List (S103)) (A0_2 : Option Addr) (c0_2 : Nat) (l0_2 : List Int) (A0_3 : Option Addr) (c0_3 : Nat) (l0_3 : List Int) (A0_4 : Option Addr) (c0_4 : Nat) (l0_4 : List Int) (a0_5 : Int) (r1 : List Int) (r2 : Int) (r3 : Int) (w : World) (hr0_0 : Kd.C k98 w A0_0 l0_0.length l0_0) (hc0_0 : l0_0.length ≤ c0_0) (hr0_1 : Kd.C k103 w A0_1 l0_1.length l0_1) (hc0_1 : l0_1.length ≤ c0_1) (hr0_2 : Kd.C (Kd.int .i64) w A0_2 l0_2.length l0_2) (hc0_2 : l0_2.length ≤ c0_2) (hr0_3 : Kd.C (Kd.int .i64) w A0_3 l0_3.length l0_3) (hc0_3 : l0_3.length ≤ c0_3) (hr0_4 : Kd.C (Kd.int .i64) w A0_4 l0_4.length l0_4) (hc0_4 : l0_4.length ≤ c0_4) (h : spec_BestPlacing.f k l0_0 l0_1 l0_2 l0_3 l0_4 a0_5 = some (r1, r2, r3)) :
  Calls Try.prog 35 #[.agg (f5 A0_0 l0_0 c0_0 A0_1 l0_1 c0_1 A0_2 l0_2 c0_2 A0_3 l0_3 c0_3 A0_4 l0_4 c0_4 a0_5)] w fun e w' => ∃ v0_ : Value, e = .returned (.tuple #[v0_, .int .i64 r2, .int .i64 r3]) ∧ Kd.V (Kd.int .i64) 2 w' w.heap.size (fun k_ => (w.heap.size ≤ k_)) v0_ r1 ∧ Below w.heap.size w w' := by
 have hu33 := Try.underlying33; have HR0_0 := ak hr0_0; have HC0_0 := ak hc0_0; clear hr0_0 hc0_0; have HR0_1 := ak hr0_1; have HC0_1 := ak hc0_1; clear hr0_1 hc0_1; have HR0_2 := ak hr0_2; have HC0_2 := ak hc0_2; clear hr0_2 hc0_2; have HR0_3 := ak hr0_3; have HC0_3 := ak hc0_3; clear hr0_3 hc0_3; have HR0_4 := ak hr0_4; have HC0_4 := ak hc0_4; clear hr0_4 hc0_4; have HB := ak (Below.refl w.heap.size w); unfold spec_BestPlacing.f at h; have H := h; clear h; obtain ⟨t860, A2, H⟩ := bnk H; by_cases c3 : t860 = true
 subst c3; rw [if_pos rfl] at H; obtain ⟨t861, A4, H⟩ := bnk H; by_cases c5 : (t861.length : Int) = 0
 rw [if_pos c5] at H; obtain ⟨c5b0, c5b1⟩ := bqt c5; clear c5; simp only [Option.some.injEq, Prod.mk.injEq] at H
 obtain ⟨rfl, rfl, rfl⟩ := H; rotate_left
 rw [if_neg c5] at H; obtain ⟨c5b0, c5b1⟩ := bqf c5; have c5b2 : ¬ (t861 = []) := fun h_ => c5 (by rw [h_]; rfl)
 by_cases c12 : 0 < (t861.length : Int)
 ·rw [if_pos c12] at H; have c12b0 := decide_eq_true c12; have c12b1 : decide (0 < t861.length) = true := decide_eq_true (by omega); clear c12; have H' := ak H; clear H; go_enter Try.func35, Try.ntmps35; go_wp2_with (first | ((with_reducible refine gate_dst (N := 1) rfl ?_); refine bx 1 (f5 A0_0 l0_0 c0_0 A0_1 l0_1 c0_1 A0_2 l0_2 c0_2 A0_3 l0_3 c0_3 A0_4 l0_4 c0_4 a0_5) 33 ?_; intro gb859 hg w13 hbox hb; have BK859 := ak hbox; have GW859 := gw hg HB; have GE859 := gw hg HB; replace HB := bs HB hb; clear hb hbox hg; have hcz14 := cz6 BK859.out) | ((with_reducible refine at_fn (f := 58) rfl ?_); refine gl (some 9) Try.func58 #[.agg (f5 A0_0 l0_0 c0_0 A0_1 l0_1 c0_1 A0_2 l0_2 c0_2 A0_3 l0_3 c0_3 A0_4 l0_4 c0_4 a0_5)] ?_; (with_reducible refine (spec_IsField.calls k _ _ l0_0 _ _ l0_1 _ _ l0_2 _ _ l0_3 _ _ l0_4 a0_5 _ _ ?_ HC0_0.out ?_ HC0_1.out ?_ HC0_2.out ?_ HC0_3.out ?_ HC0_4.out A2.out).mono ?_); exact vd HR0_0.out HB.out; exact vd HR0_1.out HB.out; exact vd HR0_2.out HB.out; exact vd HR0_3.out HB.out; exact vd HR0_4.out HB.out; rintro e w15 ⟨rfl, hb⟩; refine ⟨_, rfl, ?_⟩; replace BK859 := kb BK859 hb; replace HB := bs HB hb; (try clear hb); have hcz16 := cz6 BK859.out) | ((with_reducible refine at_fn (f := 59) rfl ?_); refine gl (some 12) Try.func59 #[.agg (f5 A0_0 l0_0 c0_0 A0_1 l0_1 c0_1 A0_2 l0_2 c0_2 A0_3 l0_3 c0_3 A0_4 l0_4 c0_4 a0_5)] ?_; (with_reducible refine (spec_l18Placings.calls k _ _ l0_0 _ _ l0_1 _ _ l0_2 _ _ l0_3 _ _ l0_4 a0_5 t861 _ ?_ HC0_0.out ?_ HC0_1.out ?_ HC0_2.out ?_ HC0_3.out ?_ HC0_4.out A4.out).mono ?_); exact vd HR0_0.out HB.out; exact vd HR0_1.out HB.out; exact vd HR0_2.out HB.out; exact vd HR0_3.out HB.out; exact vd HR0_4.out HB.out; rintro e w17 ⟨v862, rfl, ho0, hb⟩; refine ⟨_, rfl, ?_⟩; have HO863 := ak (Kd.N_lower (Kd.N_mono (ok' := fun k_ => (w.heap.size ≤ k_) ∧ k_ ≠ gb859) ho0 (fun k_ hk_ => ⟨(Nat.le_trans (below_size (vb HB.out)) hk_), (Kd.freshB (g := gb859) (o := .cells (f5 A0_0 l0_0 c0_0 A0_1 l0_1 c0_1 A0_2 l0_2 c0_2 A0_3 l0_3 c0_3 A0_4 l0_4 c0_4 a0_5) 33 (0, 0)) (vk BK859.out) k_ hk_)⟩)) (below_size (vb HB.out))); replace BK859 := kb BK859 hb; replace HB := bs HB hb; (try clear hb); (try clear ho0); obtain ⟨Ao18, co18, eo18⟩ := Kd.N_slice HO863.out; subst eo18; have p864 : 0 ≤ (0 : Int) := (by omega); have q864 : 0 < (t861.length : Int) := od; obtain ⟨ad864, A864_0, c864_0, e864, hx864_0, hl864_0, hi864_0⟩ := at_L5 (Kd.N_reads' HO863.out).2.2 0 p864 q864; cases e864; obtain ⟨ce864, hce864, hMe864, hcc864⟩ := Kd.N_get HO863.out [] 0 p864 (by first | exact q864 | exact od | (have e_ := (Kd.N_reads' HO863.out).1; omega)); obtain ⟨ua864_0, uc864_0, rfl, ul864_0, ge864_0⟩ := Kd.FK_slice_open hMe864; have hv864_0 := hcc864 0 _ rfl; rw [Nat.add_zero, show ((Kd.slice 2 (Kd.int .i64))).sz = 1 from rfl, Nat.mul_one] at hv864_0; replace hv864_0 := Option.some.inj (hv864_0.symm.trans hx864_0); injection hv864_0 with hva_ hvn_ hvc_; rw [hva_] at ge864_0; rw [hvc_] at ul864_0; have HL864_0 := ak (show Kd.V (Kd.int .i64) 2 _ w.heap.size _ _ (rd_L5 t861 0) from Kd.V_mk ul864_0 ge864_0); clear hva_ hvn_ hvc_ ge864_0 ul864_0; clear hcc864 hce864; have qi864 : (0 < t861.length) = True := eq_true (by omega); (try rw [show ((0 : Int)).toNat = 0 from rfl] at hx864_0); (try rw [Addr.add_zero'] at hx864_0); have HR864_0 := ak hi864_0; have HC864_0 := ak hl864_0; clear hi864_0 hl864_0; replace p864 := eq_true p864; replace q864 := eq_true q864))
  go_loopg [6, 7] k (fun kq v6 v7 w' => ∃ (x6_1 : List Int) (x7_1 : Int), v7 = .int .i64 x7_1 ∧ Aside0 (spec_BestPlacing.l0 kq t861 x6_1 x7_1 l0_0 l0_1 l0_2 l0_3 l0_4 a0_5 = some (r1, r2, r3)) ∧ Aside0 (kq ≤ k) ∧ Aside0 (Kd.N (Kd.slice 2 (Kd.int .i64)) 24 w' w.heap.size (fun k_ => (w.heap.size ≤ k_) ∧ k_ ≠ gb859) (.slice (some ad864) t861.length co18) t861) ∧ Aside0 (Kd.V (Kd.int .i64) 2 w' w.heap.size (fun k_ => (w.heap.size ≤ k_) ∧ some k_ ≠ ((.slice (some ad864) t861.length co18) : Value).ownBlock ∧ k_ ≠ gb859) v6 x6_1) ∧ Aside0 (w'.heap[gb859]? = some (.cells (f5 A0_0 l0_0 c0_0 A0_1 l0_1 c0_1 A0_2 l0_2 c0_2 A0_3 l0_3 c0_3 A0_4 l0_4 c0_4 a0_5) 33 (0, 0))) ∧ Aside0 (Kd.C (Kd.int .i64) w' A864_0 (rd_L5 t861 0).length (rd_L5 t861 0)) ∧ Aside0 (Below w.heap.size w w'))
  case atStart => exact ⟨(rd_L5 t861 0), (0), es, H', ⟨Nat.le_refl _⟩, ⟨vN HO863.out⟩, ⟨by (with_reducible repeat (first | apply Kd.V_alloc | apply Kd.V_drewN | apply Kd.V_drew)); exact Kd.V_mono HL864_0.out (fun _ hk => ⟨hk.1.1, ⟨hk.2, hk.1.2⟩⟩)⟩, ⟨vk BK859.out⟩, ⟨by repeat (first | (with_reducible exact HR864_0.out) | (with_reducible refine Kd.C_alloc ?_ _) | (with_reducible refine Kd.C_drewN ?_ _) | (with_reducible refine Kd.C_drew ?_) | exact HR864_0.out)⟩, ⟨vb HB.out⟩⟩
  case round =>
   clear H'; obtain ⟨x6_1, x7_1, rfl, HA, HK1, HO_5, HO_6, BK859, HR864_0, HB⟩ := hrel
   cases gk with
   | zero => exact absurd HA.out (by simp [spec_BestPlacing.l0])
   | succ k1 =>
    have H := HA.out; clear HA; simp only [spec_BestPlacing.l0] at H
    by_cases c19 : x7_1 < (t861.length : Int)
    ·rw [if_pos c19] at H; have c19b0 := decide_eq_true c19; clear c19; by_cases c20 : 0 ≤ x7_1
     ·rw [if_pos c20] at H; have c20b0 := decide_eq_true c20; clear c20; obtain ⟨t867, A21, H⟩ := bnk H; obtain ⟨t868, A22, H⟩ := bnk H; by_cases c23 : t867 < t868
      ·rw [if_pos c23] at H; have c23b0 := decide_eq_true c23; clear c23; have H' := ak H; clear H; (try go_wp2)
       replace HO_5 := ak (Kd.N_drew HO_5.out); replace HO_6 := ak (Kd.V_drew HO_6.out); replace BK859 := ak (blk_drew BK859.out); replace HR864_0 := ak (Kd.C_drew HR864_0.out); replace HB := ak (below_drew1 HB.out); have p866 : 0 ≤ (x7_1 : Int) := od; have q866 : x7_1 < (t861.length : Int) := od; obtain ⟨ad866, A866_0, c866_0, e866, hx866_0, hl866_0, hi866_0⟩ := at_L5 (Kd.N_reads' HO_5.out).2.2 x7_1 p866 q866; obtain rfl : ad864 = ad866 := (by injection e866); obtain ⟨ce866, hce866, hMe866, hcc866⟩ := Kd.N_get HO_5.out [] x7_1 p866 (by first | exact q866 | exact od | (have e_ := (Kd.N_reads' HO_5.out).1; omega)); obtain ⟨ua866_0, uc866_0, rfl, ul866_0, ge866_0⟩ := Kd.FK_slice_open hMe866; have hv866_0 := hcc866 0 _ rfl; rw [Nat.add_zero, show ((Kd.slice 2 (Kd.int .i64))).sz = 1 from rfl, Nat.mul_one] at hv866_0; replace hv866_0 := Option.some.inj (hv866_0.symm.trans hx866_0); injection hv866_0 with hva_ hvn_ hvc_
       rw [hva_] at ge866_0; rw [hvc_] at ul866_0; have HL866_0 := ak (show Kd.V (Kd.int .i64) 2 _ w.heap.size _ _ (rd_L5 t861 x7_1) from Kd.V_mk ul866_0 ge866_0); clear hva_ hvn_ hvc_ ge866_0 ul866_0; clear hcc866 hce866; have HR866_0 := ak hi866_0; have HC866_0 := ak hl866_0; clear hi866_0 hl866_0; replace p866 := eq_true p866; replace q866 := eq_true q866; refine start_ (n := 10) (S := fun w' => w'.cell? ⟨gb859, 0, none⟩ = some (.slice A0_0 l0_0.length c0_0) ∧ w'.cell? ⟨gb859, 1, none⟩ = some (.slice A0_1 l0_1.length c0_1) ∧ w'.cell? ⟨gb859, 2, none⟩ = some (.slice A0_2 l0_2.length c0_2) ∧ w'.cell? ⟨gb859, 3, none⟩ = some (.slice A0_3 l0_3.length c0_3) ∧ w'.cell? ⟨gb859, 4, none⟩ = some (.slice A0_4 l0_4.length c0_4) ∧ w'.cell? ⟨gb859, 5, none⟩ = some (.int .i64 a0_5) ∧ w'.cell? (ad864.add (x7_1).toNat) = some (.slice A866_0 (rd_L5 t861 x7_1).length c866_0)) (ds := []) (tf 0 10) (by kernel_rfl) rfl rfl ⟨bk BK859.out 0, bk BK859.out 1, bk BK859.out 2, bk BK859.out 3, bk BK859.out 4, bk BK859.out 5, hx866_0⟩ (fun hHeld => ?_); refine with_tabW spec_BestPlacing.tab10 spec_BestPlacing.bits10 (fun HT_ HW_ => ?_); generalize wr.drew = w24 at HO_5 HO_6 BK859 HR864_0 HB HL866_0 HR866_0 hx866_0 hHeld ⊢; refine pu_ 1 26 (tM [0, 1, 1, 8]) rfl rfl ?_; refine pu_ 2 27 (tM [0, 1, 2, 7]) rfl rfl ?_
       refine pu_ 3 28 (tM [0, 1, 3, 6]) rfl rfl ?_; refine pu_ 7 32 (tM [0, 1, 3, 3, 1, 2]) rfl rfl ?_; refine ta7_ 0 25 (tM [4, 3, 1, 2]) rfl rfl ?_; refine ta7_ 4 29 (tM [5, 2, 1, 2]) rfl rfl ?_; refine ta7_ 6 31 (tM [5, 1, 2, 2]) rfl rfl ?_; refine one_ (i := 5) (N := some 30) (tf 8 2) rfl rfl (one_of HT_.out (by kernel_rfl)) (by decide) (fun K hK => ?_); refine goes_ Try.func76 (by kernel_rfl) rfl #[.agg (f5 A0_0 l0_0 c0_0 A0_1 l0_1 c0_1 A0_2 l0_2 c0_2 A0_3 l0_3 c0_3 A0_4 l0_4 c0_4 a0_5), .slice A866_0 (rd_L5 t861 x7_1).length c866_0] (by rfl) rfl rfl (by (try simp only [List.map_toArray, List.map_cons, List.map_nil]); first | done | rfl | (simp only [List.length_drop, List.length_take]; rfl)) ?_; with_reducible refine (spec_l18Cost.calls k1 _ _ l0_0 _ _ l0_1 _ _ l0_2 _ _ l0_3 _ _ l0_4 a0_5 _ _ (rd_L5 t861 x7_1) t867 _ ?_ ?_ ?_ ?_ ?_ ?_ ?_ ?_ ?_ ?_ ?side11 ?_ A21.out).mono ?_
       exact vd HR0_0.out HB.out
       exact HC0_0.out
       exact vd HR0_1.out HB.out
       exact HC0_1.out
       exact vd HR0_2.out HB.out
       exact HC0_2.out
       exact vd HR0_3.out HB.out
       exact HC0_3.out
       exact vd HR0_4.out HB.out
       exact HC0_4.out
       (case side11 => repeat (first | exact (by repeat (first | (with_reducible exact HR866_0.out) | (with_reducible refine Kd.C_alloc ?_ _) | (with_reducible refine Kd.C_drewN ?_ _) | (with_reducible refine Kd.C_drew ?_) | exact HR866_0.out)) | (with_reducible refine Kd.C_alloc ?_ _) | (with_reducible refine Kd.C_drewN ?_ _) | (with_reducible refine Kd.C_drew ?_)))
       exact HC866_0.out
       rintro e w25 ⟨rfl, hb⟩; have HS6_ := (hb.cell (World.block_lt_of_cell? _ _ (hHeld.2.2.2.2.2.2))).trans (hHeld.2.2.2.2.2.2); refine ⟨_, rfl, ?_⟩; replace HO_5 := ak (Kd.N_below (vN HO_5.out) hb); replace HO_6 := ak (Kd.V_below (vV HO_6.out) hb); replace HL866_0 := ak (Kd.V_below (vV HL866_0.out) hb); replace BK859 := kb BK859 hb; replace HR864_0 := ak (Kd.C_below (by repeat (first | (with_reducible exact HR864_0.out) | (with_reducible refine Kd.C_alloc ?_ _) | (with_reducible refine Kd.C_drewN ?_ _) | (with_reducible refine Kd.C_drew ?_) | exact HR864_0.out)) hb); replace HR866_0 := ak (Kd.C_below (by repeat (first | (with_reducible exact HR866_0.out) | (with_reducible refine Kd.C_alloc ?_ _) | (with_reducible refine Kd.C_drewN ?_ _) | (with_reducible refine Kd.C_drew ?_) | exact HR866_0.out)) hb); replace HB := bs HB hb; (try clear hb)
       (try clear hb2)
       (try clear hk)
       (try clear hi)
       obtain ⟨Ao26, co26, eo26⟩ := Kd.V_slice HO_6.out; (first | subst eo26 | (injection eo26 with f1_ f2_ f3_; have f4_ := f1_.symm; have f5_ := f3_.symm; clear f1_ f2_ f3_; subst f4_; subst f5_))
       refine hK.out _ _ ⟨bk BK859.out 0, bk BK859.out 1, bk BK859.out 2, bk BK859.out 3, bk BK859.out 4, bk BK859.out 5, HS6_⟩ (fun hHeld => ?_); clear hK K; refine norm_ (a' := ?_) ?_ ?_
       rotate_left
       ·show Act.put _ (some 30) _ = _
        simp only [Act.put, List.setIfInBounds_toArray, List.set_cons_zero, List.set_cons_succ, i64_w, i32_w]
        rfl
       refine one_ (i := 8) (N := some 33) (tf 9 1) rfl rfl (one_of HT_.out (by kernel_rfl)) (by decide) (fun K hK => ?_); refine goes_ Try.func76 (by kernel_rfl) rfl #[.agg (f5 A0_0 l0_0 c0_0 A0_1 l0_1 c0_1 A0_2 l0_2 c0_2 A0_3 l0_3 c0_3 A0_4 l0_4 c0_4 a0_5), .slice Ao26 x6_1.length co26] (by rfl) rfl rfl (by (try simp only [List.map_toArray, List.map_cons, List.map_nil]); first | done | rfl | (simp only [List.length_drop, List.length_take]; rfl)) ?_; with_reducible refine (spec_l18Cost.calls k1 _ _ l0_0 _ _ l0_1 _ _ l0_2 _ _ l0_3 _ _ l0_4 a0_5 _ _ x6_1 t868 _ ?_ ?_ ?_ ?_ ?_ ?_ ?_ ?_ ?_ ?_ ?_ ?_ A22.out).mono ?_
       exact vd HR0_0.out HB.out
       exact HC0_0.out
       exact vd HR0_1.out HB.out
       exact HC0_1.out
       exact vd HR0_2.out HB.out
       exact HC0_2.out
       exact vd HR0_3.out HB.out
       exact HC0_3.out
       exact vd HR0_4.out HB.out
       exact HC0_4.out
       exact vc (Kd.V_reads' HO_6.out).2.2
       exact (Kd.V_reads' HO_6.out).2.1
       rintro e w27 ⟨rfl, hb⟩; have HS6_ := (hb.cell (World.block_lt_of_cell? _ _ (hHeld.2.2.2.2.2.2))).trans (hHeld.2.2.2.2.2.2); refine ⟨_, rfl, ?_⟩; replace HO_5 := ak (Kd.N_below (vN HO_5.out) hb); replace HO_6 := ak (Kd.V_below (vV HO_6.out) hb); replace HL866_0 := ak (Kd.V_below (vV HL866_0.out) hb); replace BK859 := kb BK859 hb; replace HR864_0 := ak (Kd.C_below (by repeat (first | (with_reducible exact HR864_0.out) | (with_reducible refine Kd.C_alloc ?_ _) | (with_reducible refine Kd.C_drewN ?_ _) | (with_reducible refine Kd.C_drew ?_) | exact HR864_0.out)) hb); replace HR866_0 := ak (Kd.C_below (by repeat (first | (with_reducible exact HR866_0.out) | (with_reducible refine Kd.C_alloc ?_ _) | (with_reducible refine Kd.C_drewN ?_ _) | (with_reducible refine Kd.C_drew ?_) | exact HR866_0.out)) hb); replace HB := bs HB hb; (try clear hb)
       (try clear hb2)
       (try clear hk)
       (try clear hi)
       refine hK.out _ _ ⟨bk BK859.out 0, bk BK859.out 1, bk BK859.out 2, bk BK859.out 3, bk BK859.out 4, bk BK859.out 5, HS6_⟩ (fun hHeld => ?_); clear hK K; refine norm_ (a' := ?_) ?_ ?_
       rotate_left
       ·show Act.put _ (some 33) _ = _
        simp only [Act.put, List.setIfInBounds_toArray, List.set_cons_zero, List.set_cons_succ, i64_w, i32_w]
        rfl
       refine pu_ 9 34 (tf 10 0) rfl rfl ?_; refine done_ (done_of HT_.out (by kernel_rfl)) ?_; have p869 : 0 ≤ (x7_1 : Int) := od; have q869 : x7_1 < (t861.length : Int) := od; obtain ⟨ad869, A869_0, c869_0, e869, hx869_0, hl869_0, hi869_0⟩ := at_L5 (Kd.N_reads' HO_5.out).2.2 x7_1 p869 q869
       (try clear hHeld)
       (try clear HS6_)
       obtain rfl : ad864 = ad869 := (by injection e869); obtain ⟨ce869, hce869, hMe869, hcc869⟩ := Kd.N_get HO_5.out [] x7_1 p869 (by first | exact q869 | exact od | (have e_ := (Kd.N_reads' HO_5.out).1; omega)); obtain ⟨ua869_0, uc869_0, rfl, ul869_0, ge869_0⟩ := Kd.FK_slice_open hMe869; have hv869_0 := hcc869 0 _ rfl; rw [Nat.add_zero, show ((Kd.slice 2 (Kd.int .i64))).sz = 1 from rfl, Nat.mul_one] at hv869_0; replace hv869_0 := Option.some.inj (hv869_0.symm.trans hx869_0); injection hv869_0 with hva_ hvn_ hvc_
       rw [hva_] at ge869_0; rw [hvc_] at ul869_0; have HL869_0 := ak (show Kd.V (Kd.int .i64) 2 _ w.heap.size _ _ (rd_L5 t861 x7_1) from Kd.V_mk ul869_0 ge869_0); clear hva_ hvn_ hvc_ ge869_0 ul869_0; clear hcc869 hce869; have HR869_0 := ak hi869_0; have HC869_0 := ak hl869_0; clear hi869_0 hl869_0; replace p869 := eq_true p869; replace q869 := eq_true q869; (try go_wp2)
       go_roundg k1
       case measure => have := HK1.out; omega
       case rel => exact ⟨(rd_L5 t861 x7_1), (wrap64 (x7_1 + 1)), es, H', ⟨by have := HK1.out; omega⟩, ⟨vN HO_5.out⟩, ⟨by (with_reducible repeat (first | apply Kd.V_alloc | apply Kd.V_drewN | apply Kd.V_drew)); exact Kd.V_mono HL869_0.out (fun _ hk => ⟨hk.1.1, ⟨hk.2, hk.1.2⟩⟩)⟩, ⟨vk BK859.out⟩, ⟨by repeat (first | (with_reducible exact HR864_0.out) | (with_reducible refine Kd.C_alloc ?_ _) | (with_reducible refine Kd.C_drewN ?_ _) | (with_reducible refine Kd.C_drew ?_) | exact HR864_0.out)⟩, ⟨vb HB.out⟩⟩
      ·rw [if_neg c23] at H; have c23b0 := decide_eq_false c23; clear c23; have H' := ak H; clear H; (try go_wp2)
       replace HO_5 := ak (Kd.N_drew HO_5.out); replace HO_6 := ak (Kd.V_drew HO_6.out); replace BK859 := ak (blk_drew BK859.out); replace HR864_0 := ak (Kd.C_drew HR864_0.out); replace HB := ak (below_drew1 HB.out); have p866 : 0 ≤ (x7_1 : Int) := od; have q866 : x7_1 < (t861.length : Int) := od; obtain ⟨ad866, A866_0, c866_0, e866, hx866_0, hl866_0, hi866_0⟩ := at_L5 (Kd.N_reads' HO_5.out).2.2 x7_1 p866 q866; obtain rfl : ad864 = ad866 := (by injection e866); obtain ⟨ce866, hce866, hMe866, hcc866⟩ := Kd.N_get HO_5.out [] x7_1 p866 (by first | exact q866 | exact od | (have e_ := (Kd.N_reads' HO_5.out).1; omega)); obtain ⟨ua866_0, uc866_0, rfl, ul866_0, ge866_0⟩ := Kd.FK_slice_open hMe866; have hv866_0 := hcc866 0 _ rfl; rw [Nat.add_zero, show ((Kd.slice 2 (Kd.int .i64))).sz = 1 from rfl, Nat.mul_one] at hv866_0; replace hv866_0 := Option.some.inj (hv866_0.symm.trans hx866_0); injection hv866_0 with hva_ hvn_ hvc_
       rw [hva_] at ge866_0; rw [hvc_] at ul866_0; have HL866_0 := ak (show Kd.V (Kd.int .i64) 2 _ w.heap.size _ _ (rd_L5 t861 x7_1) from Kd.V_mk ul866_0 ge866_0); clear hva_ hvn_ hvc_ ge866_0 ul866_0; clear hcc866 hce866; have HR866_0 := ak hi866_0; have HC866_0 := ak hl866_0; clear hi866_0 hl866_0; replace p866 := eq_true p866; replace q866 := eq_true q866; refine start_ (n := 10) (S := fun w' => w'.cell? ⟨gb859, 0, none⟩ = some (.slice A0_0 l0_0.length c0_0) ∧ w'.cell? ⟨gb859, 1, none⟩ = some (.slice A0_1 l0_1.length c0_1) ∧ w'.cell? ⟨gb859, 2, none⟩ = some (.slice A0_2 l0_2.length c0_2) ∧ w'.cell? ⟨gb859, 3, none⟩ = some (.slice A0_3 l0_3.length c0_3) ∧ w'.cell? ⟨gb859, 4, none⟩ = some (.slice A0_4 l0_4.length c0_4) ∧ w'.cell? ⟨gb859, 5, none⟩ = some (.int .i64 a0_5) ∧ w'.cell? (ad864.add (x7_1).toNat) = some (.slice A866_0 (rd_L5 t861 x7_1).length c866_0)) (ds := []) (tf 0 10) (by kernel_rfl) rfl rfl ⟨bk BK859.out 0, bk BK859.out 1, bk BK859.out 2, bk BK859.out 3, bk BK859.out 4, bk BK859.out 5, hx866_0⟩ (fun hHeld => ?_); refine with_tabW spec_BestPlacing.tab10 spec_BestPlacing.bits10 (fun HT_ HW_ => ?_); generalize wr.drew = w28 at HO_5 HO_6 BK859 HR864_0 HB HL866_0 HR866_0 hx866_0 hHeld ⊢; refine pu_ 1 26 (tM [0, 1, 1, 8]) rfl rfl ?_; refine pu_ 2 27 (tM [0, 1, 2, 7]) rfl rfl ?_
       refine pu_ 3 28 (tM [0, 1, 3, 6]) rfl rfl ?_; refine pu_ 7 32 (tM [0, 1, 3, 3, 1, 2]) rfl rfl ?_; refine ta7_ 0 25 (tM [4, 3, 1, 2]) rfl rfl ?_; refine ta7_ 4 29 (tM [5, 2, 1, 2]) rfl rfl ?_; refine ta7_ 6 31 (tM [5, 1, 2, 2]) rfl rfl ?_; refine one_ (i := 5) (N := some 30) (tf 8 2) rfl rfl (one_of HT_.out (by kernel_rfl)) (by decide) (fun K hK => ?_); refine goes_ Try.func76 (by kernel_rfl) rfl #[.agg (f5 A0_0 l0_0 c0_0 A0_1 l0_1 c0_1 A0_2 l0_2 c0_2 A0_3 l0_3 c0_3 A0_4 l0_4 c0_4 a0_5), .slice A866_0 (rd_L5 t861 x7_1).length c866_0] (by rfl) rfl rfl (by (try simp only [List.map_toArray, List.map_cons, List.map_nil]); first | done | rfl | (simp only [List.length_drop, List.length_take]; rfl)) ?_; with_reducible refine (spec_l18Cost.calls k1 _ _ l0_0 _ _ l0_1 _ _ l0_2 _ _ l0_3 _ _ l0_4 a0_5 _ _ (rd_L5 t861 x7_1) t867 _ ?_ ?_ ?_ ?_ ?_ ?_ ?_ ?_ ?_ ?_ ?side11 ?_ A21.out).mono ?_
       exact vd HR0_0.out HB.out
       exact HC0_0.out
       exact vd HR0_1.out HB.out
       exact HC0_1.out
       exact vd HR0_2.out HB.out
       exact HC0_2.out
       exact vd HR0_3.out HB.out
       exact HC0_3.out
       exact vd HR0_4.out HB.out
       exact HC0_4.out
       (case side11 => repeat (first | exact (by repeat (first | (with_reducible exact HR866_0.out) | (with_reducible refine Kd.C_alloc ?_ _) | (with_reducible refine Kd.C_drewN ?_ _) | (with_reducible refine Kd.C_drew ?_) | exact HR866_0.out)) | (with_reducible refine Kd.C_alloc ?_ _) | (with_reducible refine Kd.C_drewN ?_ _) | (with_reducible refine Kd.C_drew ?_)))
       exact HC866_0.out
       rintro e w29 ⟨rfl, hb⟩; have HS6_ := (hb.cell (World.block_lt_of_cell? _ _ (hHeld.2.2.2.2.2.2))).trans (hHeld.2.2.2.2.2.2); refine ⟨_, rfl, ?_⟩; replace HO_5 := ak (Kd.N_below (vN HO_5.out) hb); replace HO_6 := ak (Kd.V_below (vV HO_6.out) hb); replace HL866_0 := ak (Kd.V_below (vV HL866_0.out) hb); replace BK859 := kb BK859 hb; replace HR864_0 := ak (Kd.C_below (by repeat (first | (with_reducible exact HR864_0.out) | (with_reducible refine Kd.C_alloc ?_ _) | (with_reducible refine Kd.C_drewN ?_ _) | (with_reducible refine Kd.C_drew ?_) | exact HR864_0.out)) hb); replace HR866_0 := ak (Kd.C_below (by repeat (first | (with_reducible exact HR866_0.out) | (with_reducible refine Kd.C_alloc ?_ _) | (with_reducible refine Kd.C_drewN ?_ _) | (with_reducible refine Kd.C_drew ?_) | exact HR866_0.out)) hb); replace HB := bs HB hb; (try clear hb)
       (try clear hb2)
       (try clear hk)
       (try clear hi)
       obtain ⟨Ao30, co30, eo30⟩ := Kd.V_slice HO_6.out; (first | subst eo30 | (injection eo30 with f1_ f2_ f3_; have f4_ := f1_.symm; have f5_ := f3_.symm; clear f1_ f2_ f3_; subst f4_; subst f5_))
       refine hK.out _ _ ⟨bk BK859.out 0, bk BK859.out 1, bk BK859.out 2, bk BK859.out 3, bk BK859.out 4, bk BK859.out 5, HS6_⟩ (fun hHeld => ?_); clear hK K; refine norm_ (a' := ?_) ?_ ?_
       rotate_left
       ·show Act.put _ (some 30) _ = _
        simp only [Act.put, List.setIfInBounds_toArray, List.set_cons_zero, List.set_cons_succ, i64_w, i32_w]
        rfl
       refine one_ (i := 8) (N := some 33) (tf 9 1) rfl rfl (one_of HT_.out (by kernel_rfl)) (by decide) (fun K hK => ?_); refine goes_ Try.func76 (by kernel_rfl) rfl #[.agg (f5 A0_0 l0_0 c0_0 A0_1 l0_1 c0_1 A0_2 l0_2 c0_2 A0_3 l0_3 c0_3 A0_4 l0_4 c0_4 a0_5), .slice Ao30 x6_1.length co30] (by rfl) rfl rfl (by (try simp only [List.map_toArray, List.map_cons, List.map_nil]); first | done | rfl | (simp only [List.length_drop, List.length_take]; rfl)) ?_; with_reducible refine (spec_l18Cost.calls k1 _ _ l0_0 _ _ l0_1 _ _ l0_2 _ _ l0_3 _ _ l0_4 a0_5 _ _ x6_1 t868 _ ?_ ?_ ?_ ?_ ?_ ?_ ?_ ?_ ?_ ?_ ?_ ?_ A22.out).mono ?_
       exact vd HR0_0.out HB.out
       exact HC0_0.out
       exact vd HR0_1.out HB.out
       exact HC0_1.out
       exact vd HR0_2.out HB.out
       exact HC0_2.out
       exact vd HR0_3.out HB.out
       exact HC0_3.out
       exact vd HR0_4.out HB.out
       exact HC0_4.out
       exact vc (Kd.V_reads' HO_6.out).2.2
       exact (Kd.V_reads' HO_6.out).2.1
       rintro e w31 ⟨rfl, hb⟩; have HS6_ := (hb.cell (World.block_lt_of_cell? _ _ (hHeld.2.2.2.2.2.2))).trans (hHeld.2.2.2.2.2.2); refine ⟨_, rfl, ?_⟩; replace HO_5 := ak (Kd.N_below (vN HO_5.out) hb); replace HO_6 := ak (Kd.V_below (vV HO_6.out) hb); replace HL866_0 := ak (Kd.V_below (vV HL866_0.out) hb); replace BK859 := kb BK859 hb; replace HR864_0 := ak (Kd.C_below (by repeat (first | (with_reducible exact HR864_0.out) | (with_reducible refine Kd.C_alloc ?_ _) | (with_reducible refine Kd.C_drewN ?_ _) | (with_reducible refine Kd.C_drew ?_) | exact HR864_0.out)) hb); replace HR866_0 := ak (Kd.C_below (by repeat (first | (with_reducible exact HR866_0.out) | (with_reducible refine Kd.C_alloc ?_ _) | (with_reducible refine Kd.C_drewN ?_ _) | (with_reducible refine Kd.C_drew ?_) | exact HR866_0.out)) hb); replace HB := bs HB hb; (try clear hb)
       (try clear hb2)
       (try clear hk)
       (try clear hi)
       refine hK.out _ _ ⟨bk BK859.out 0, bk BK859.out 1, bk BK859.out 2, bk BK859.out 3, bk BK859.out 4, bk BK859.out 5, HS6_⟩ (fun hHeld => ?_); clear hK K; refine norm_ (a' := ?_) ?_ ?_
       rotate_left
       ·show Act.put _ (some 33) _ = _
        simp only [Act.put, List.setIfInBounds_toArray, List.set_cons_zero, List.set_cons_succ, i64_w, i32_w]
        rfl
       refine pu_ 9 34 (tf 10 0) rfl rfl ?_; refine done_ (done_of HT_.out (by kernel_rfl)) ?_; (try go_wp2)
       go_roundg k1
       case measure => have := HK1.out; omega
       case rel => exact ⟨(x6_1), (wrap64 (x7_1 + 1)), es, H', ⟨by have := HK1.out; omega⟩, ⟨vN HO_5.out⟩, ⟨vV HO_6.out⟩, ⟨vk BK859.out⟩, ⟨by repeat (first | (with_reducible exact HR864_0.out) | (with_reducible refine Kd.C_alloc ?_ _) | (with_reducible refine Kd.C_drewN ?_ _) | (with_reducible refine Kd.C_drew ?_) | exact HR864_0.out)⟩, ⟨vb HB.out⟩⟩
     ·exact nO_ c20 H
    ·rw [if_neg c19] at H; have c19b0 := decide_eq_false c19; clear c19; obtain ⟨t865, A32, H⟩ := bnk H; simp only [Option.some.injEq, Prod.mk.injEq] at H
     obtain ⟨rfl, rfl, rfl⟩ := H; have hcz33 := cz6 BK859.out; obtain ⟨Ao34, co34, eo34⟩ := Kd.V_slice HO_6.out; subst eo34; go_wp2_with (first | ((with_reducible refine at_fn (f := 76) rfl ?_); refine gl (some 42) Try.func76 #[.agg (f5 A0_0 l0_0 c0_0 A0_1 l0_1 c0_1 A0_2 l0_2 c0_2 A0_3 l0_3 c0_3 A0_4 l0_4 c0_4 a0_5), .slice Ao34 x6_1.length co34] ?_; (with_reducible refine (spec_l18Cost.calls k1 _ _ l0_0 _ _ l0_1 _ _ l0_2 _ _ l0_3 _ _ l0_4 a0_5 _ _ x6_1 t865 _ ?_ HC0_0.out ?_ HC0_1.out ?_ HC0_2.out ?_ HC0_3.out ?_ HC0_4.out ?_ ?_ A32.out).mono ?_); exact vd HR0_0.out HB.out; exact vd HR0_1.out HB.out; exact vd HR0_2.out HB.out; exact vd HR0_3.out HB.out; exact vd HR0_4.out HB.out; exact vc (Kd.V_reads' HO_6.out).2.2; exact (Kd.V_reads' HO_6.out).2.1; rintro e w35 ⟨rfl, hb⟩; refine ⟨_, rfl, ?_⟩; replace HO_5 := ak (Kd.N_below (vN HO_5.out) hb); replace HO_6 := ak (Kd.V_below (vV HO_6.out) hb); replace BK859 := kb BK859 hb; replace HR864_0 := ak (Kd.C_below (by repeat (first | (with_reducible exact HR864_0.out) | (with_reducible refine Kd.C_alloc ?_ _) | (with_reducible refine Kd.C_drewN ?_ _) | (with_reducible refine Kd.C_drew ?_) | exact HR864_0.out)) hb); replace HB := bs HB hb; (try clear hb)))
     go_ret3
     exact ⟨_, ew, by (with_reducible repeat (first | apply Kd.V_alloc | apply Kd.V_drewN | apply Kd.V_drew)); exact Kd.V_mono HO_6.out (fun _ hk => hk.1), vb HB.out⟩
 ·exact nO_ c12 H
 replace c3 := Bool.eq_false_iff.mpr c3; subst c3; rw [if_neg nf] at H; simp only [Option.some.injEq, Prod.mk.injEq] at H
 obtain ⟨rfl, rfl, rfl⟩ := H; rotate_left
 all_goals
  go_enter Try.func35, Try.ntmps35; go_wp2_with (first | ((with_reducible refine gate_dst (N := 1) rfl ?_); refine bx 1 (f5 A0_0 l0_0 c0_0 A0_1 l0_1 c0_1 A0_2 l0_2 c0_2 A0_3 l0_3 c0_3 A0_4 l0_4 c0_4 a0_5) 33 ?_; intro gb859 hg w9 hbox hb; have BK859 := ak hbox; have GW859 := gw hg HB; have GE859 := gw hg HB; replace HB := bs HB hb; clear hb hbox hg; have hcz9 := cz6 BK859.out) | ((with_reducible refine at_fn (f := 58) rfl ?_); refine gl (some 9) Try.func58 #[.agg (f5 A0_0 l0_0 c0_0 A0_1 l0_1 c0_1 A0_2 l0_2 c0_2 A0_3 l0_3 c0_3 A0_4 l0_4 c0_4 a0_5)] ?_; (with_reducible refine (spec_IsField.calls k _ _ l0_0 _ _ l0_1 _ _ l0_2 _ _ l0_3 _ _ l0_4 a0_5 _ _ ?_ HC0_0.out ?_ HC0_1.out ?_ HC0_2.out ?_ HC0_3.out ?_ HC0_4.out A2.out).mono ?_); exact vd HR0_0.out HB.out; exact vd HR0_1.out HB.out; exact vd HR0_2.out HB.out; exact vd HR0_3.out HB.out; exact vd HR0_4.out HB.out; rintro e w9 ⟨rfl, hb⟩; refine ⟨_, rfl, ?_⟩; replace BK859 := kb BK859 hb; replace HB := bs HB hb; (try clear hb); have hcz9 := cz6 BK859.out) | ((with_reducible refine at_fn (f := 59) rfl ?_); refine gl (some 12) Try.func59 #[.agg (f5 A0_0 l0_0 c0_0 A0_1 l0_1 c0_1 A0_2 l0_2 c0_2 A0_3 l0_3 c0_3 A0_4 l0_4 c0_4 a0_5)] ?_; (with_reducible refine (spec_l18Placings.calls k _ _ l0_0 _ _ l0_1 _ _ l0_2 _ _ l0_3 _ _ l0_4 a0_5 t861 _ ?_ HC0_0.out ?_ HC0_1.out ?_ HC0_2.out ?_ HC0_3.out ?_ HC0_4.out A4.out).mono ?_); exact vd HR0_0.out HB.out; exact vd HR0_1.out HB.out; exact vd HR0_2.out HB.out; exact vd HR0_3.out HB.out; exact vd HR0_4.out HB.out; rintro e w9 ⟨v862, rfl, ho0, hb⟩; refine ⟨_, rfl, ?_⟩; have HO863 := ak (Kd.N_lower (Kd.N_mono (ok' := fun k_ => (w.heap.size ≤ k_) ∧ k_ ≠ gb859) ho0 (fun k_ hk_ => ⟨(Nat.le_trans (below_size (vb HB.out)) hk_), (Kd.freshB (g := gb859) (o := .cells (f5 A0_0 l0_0 c0_0 A0_1 l0_1 c0_1 A0_2 l0_2 c0_2 A0_3 l0_3 c0_3 A0_4 l0_4 c0_4 a0_5) 33 (0, 0)) (vk BK859.out) k_ hk_)⟩)) (below_size (vb HB.out))); replace BK859 := kb BK859 hb; replace HB := bs HB hb; (try clear hb); (try clear ho0); obtain ⟨Ao900, co900, eo900⟩ := Kd.N_slice HO863.out; subst eo900))
  go_ret3
  exact ⟨_, ew, Kd.V_nil _ _ _ _ _, vb HB.out⟩


/-! ### impl_bestPlacing: function 81 -/
def impl_bestPlacing.l0 : Nat → List Int → List (List Int) → Int → Int → List (S98) → List (S103) → List Int → List Int → List Int → Int → Option (List Int × Bool)
 | 0, _, _, _, _, _, _, _, _, _, _ => none
 | k + 1, x5, x16, x17, x18, x1168000, x1168001, x1168002, x1168003, x1168004, x1168005 => if x18 < x17 then (if 0 ≤ x18 then (if x18 < (x16.length : Int) then ((impl_costOf.f k x1168000 x1168001 x1168002 x1168003 x1168004 x1168005 (rd_L5 x16 x18)).bind fun t1173 => ((impl_costOf.f k x1168000 x1168001 x1168002 x1168003 x1168004 x1168005 x5).bind fun t1174 => (if t1173 < t1174 then (impl_bestPlacing.l0 k (rd_L5 x16 x18) x16 x17 (wrap64 (x18 + 1)) x1168000 x1168001 x1168002 x1168003 x1168004 x1168005) else (impl_bestPlacing.l0 k x5 x16 x17 (wrap64 (x18 + 1)) x1168000 x1168001 x1168002 x1168003 x1168004 x1168005)))) else (none)) else (none)) else (some (x5, true))
def impl_bestPlacing.f (k : Nat) (l0_0 : List (S98)) (l0_1 : List (S103)) (l0_2 : List Int) (l0_3 : List Int) (l0_4 : List Int) (a0_5 : Int) : Option (List Int × Bool) := (impl_placings.f k l0_0 l0_1 l0_2 l0_3 l0_4 a0_5 ([] : List Int)).bind fun t1168 => (if (t1168.length : Int) = 0 then (some (([] : List Int), false)) else (if 0 < (t1168.length : Int) then (impl_bestPlacing.l0 k (rd_L5 t1168 0) t1168 (t1168.length : Int) 0 l0_0 l0_1 l0_2 l0_3 l0_4 a0_5) else (none)))
theorem impl_bestPlacing.mono_l : ∀ k, (∀ y0 y1 y2 y3 y4 y5 y6 y7 y8 y9, LeO (impl_bestPlacing.l0 k y0 y1 y2 y3 y4 y5 y6 y7 y8 y9) (impl_bestPlacing.l0 (k + 1) y0 y1 y2 y3 y4 y5 y6 y7 y8 y9))
 | 0 => fun _ _ _ _ _ _ _ _ _ _ r h => by simp [impl_bestPlacing.l0] at h
 | k + 1 => by
  have ih0 := impl_bestPlacing.mono_l k
  ·intro y0 y1 y2 y3 y4 y5 y6 y7 y8 y9; unfold impl_bestPlacing.l0
   repeat' (with_reducible first | exact ih0 .. | exact impl_costOf.mono .. | exact impl_placings.mono .. | exact lm | refine LeO.ite ?_ ?_ | refine LeO.bind ?_ (fun _ => ?_))
theorem impl_bestPlacing.mono : ∀ a0 a1 a2 a3 a4 a5 k, LeO (impl_bestPlacing.f k a0 a1 a2 a3 a4 a5) (impl_bestPlacing.f (k + 1) a0 a1 a2 a3 a4 a5) := by
 intro a0 a1 a2 a3 a4 a5 k; have ih0 := impl_bestPlacing.mono_l k; unfold impl_bestPlacing.f
 repeat' (with_reducible first | exact ih0 .. | exact impl_costOf.mono .. | exact impl_placings.mono .. | exact lm | refine LeO.ite ?_ ?_ | refine LeO.bind ?_ (fun _ => ?_))
set_option maxHeartbeats 8000000 in
set_option maxRecDepth 100000 in
theorem impl_bestPlacing.calls (k : Nat) (A0_0 : Option Addr) (c0_0 : Nat) (l0_0 : List (S98)) (A0_1 : Option Addr) (c0_1 : Nat) (l0_1 : List (S103)) (A0_2 : Option Addr) (c0_2 : Nat) (l0_2 : List Int) (A0_3 : Option Addr) (c0_3 : Nat) (l0_3 : List Int) (A0_4 : Option Addr) (c0_4 : Nat) (l0_4 : List Int) (a0_5 : Int) (r1 : List Int) (r2 : Bool) (w : World) (hr0_0 : Kd.C k98 w A0_0 l0_0.length l0_0) (hc0_0 : l0_0.length ≤ c0_0) (hr0_1 : Kd.C k103 w A0_1 l0_1.length l0_1) (hc0_1 : l0_1.length ≤ c0_1) (hr0_2 : Kd.C (Kd.int .i64) w A0_2 l0_2.length l0_2) (hc0_2 : l0_2.length ≤ c0_2) (hr0_3 : Kd.C (Kd.int .i64) w A0_3 l0_3.length l0_3) (hc0_3 : l0_3.length ≤ c0_3) (hr0_4 : Kd.C (Kd.int .i64) w A0_4 l0_4.length l0_4) (hc0_4 : l0_4.length ≤ c0_4) (h : impl_bestPlacing.f k l0_0 l0_1 l0_2 l0_3 l0_4 a0_5 = some (r1, r2)) :
  Calls Try.prog 81 #[.agg (f5 A0_0 l0_0 c0_0 A0_1 l0_1 c0_1 A0_2 l0_2 c0_2 A0_3 l0_3 c0_3 A0_4 l0_4 c0_4 a0_5)] w fun e w' => ∃ v0_ : Value, e = .returned (.tuple #[v0_, .bool r2]) ∧ Kd.V (Kd.int .i64) 2 w' w.heap.size (fun k_ => (w.heap.size ≤ k_)) v0_ r1 ∧ Below w.heap.size w w' := by
 have hu33 := Try.underlying33; have HR0_0 := ak hr0_0; have HC0_0 := ak hc0_0; clear hr0_0 hc0_0; have HR0_1 := ak hr0_1; have HC0_1 := ak hc0_1; clear hr0_1 hc0_1; have HR0_2 := ak hr0_2; have HC0_2 := ak hc0_2; clear hr0_2 hc0_2; have HR0_3 := ak hr0_3; have HC0_3 := ak hc0_3; clear hr0_3 hc0_3; have HR0_4 := ak hr0_4; have HC0_4 := ak hc0_4; clear hr0_4 hc0_4; have HB := ak (Below.refl w.heap.size w); unfold impl_bestPlacing.f at h; have H := h; clear h; obtain ⟨t1168, A2, H⟩ := bnk H; by_cases c3 : (t1168.length : Int) = 0
 ·rw [if_pos c3] at H; obtain ⟨c3b0, c3b1⟩ := bqt c3; clear c3; simp only [Option.some.injEq, Prod.mk.injEq] at H
  obtain ⟨rfl, rfl⟩ := H; go_enter Try.func81, Try.ntmps81; go_wp2_with (first | ((with_reducible refine gate_dst (N := 1) rfl ?_); refine bx 1 (f5 A0_0 l0_0 c0_0 A0_1 l0_1 c0_1 A0_2 l0_2 c0_2 A0_3 l0_3 c0_3 A0_4 l0_4 c0_4 a0_5) 33 ?_; intro gb1167 hg w4 hbox hb; have BK1167 := ak hbox; have GW1167 := gw hg HB; have GE1167 := gw hg HB; replace HB := bs HB hb; clear hb hbox hg; have hcz5 := cz6 BK1167.out) | ((with_reducible refine at_fn (f := 62) rfl ?_); refine gl (some 9) Try.func62 #[.agg (f5 A0_0 l0_0 c0_0 A0_1 l0_1 c0_1 A0_2 l0_2 c0_2 A0_3 l0_3 c0_3 A0_4 l0_4 c0_4 a0_5), .slice none 0 0] ?_; (refine (impl_placings.calls k _ _ l0_0 _ _ l0_1 _ _ l0_2 _ _ l0_3 _ _ l0_4 a0_5 (fun k_ => False) _ _ ([] : List Int) t1168 _ ?_ ?_ ?_ ?_ ?_ ?_ ?_ ?_ ?_ ?_ ?_ A2.out).mono ?_); exact vd HR0_0.out HB.out; exact HC0_0.out; exact vd HR0_1.out HB.out; exact HC0_1.out; exact vd HR0_2.out HB.out; exact HC0_2.out; exact vd HR0_3.out HB.out; exact HC0_3.out; exact vd HR0_4.out HB.out; exact HC0_4.out; exact Kd.V_nil _ _ _ _ _; rintro e w6 ⟨v1169, rfl, ho0, hb⟩; refine ⟨_, rfl, ?_⟩; have HO1170 := ak (Kd.N_lower (Kd.N_mono (ok' := fun k_ => (w.heap.size ≤ k_) ∧ k_ ≠ gb1167) ho0 (fun k_ hk_ => ⟨Or.elim hk_ (fun hs_ => (hs_).elim) (fun hn_ => (Nat.le_trans (below_size (vb HB.out)) hn_)), Or.elim hk_ (fun hs_ => (hs_).elim) (fun hn_ => (Kd.freshB (g := gb1167) (o := .cells (f5 A0_0 l0_0 c0_0 A0_1 l0_1 c0_1 A0_2 l0_2 c0_2 A0_3 l0_3 c0_3 A0_4 l0_4 c0_4 a0_5) 33 (0, 0)) (vk BK1167.out) k_ hn_))⟩)) (below_size (vb HB.out))); replace BK1167 := kb BK1167 hb; replace HB := bs HB hb; (try clear hb); (try clear ho0); obtain ⟨Ao7, co7, eo7⟩ := Kd.N_slice HO1170.out; subst eo7))
  go_ret2
  exact ⟨_, ew, Kd.V_nil _ _ _ _ _, vb HB.out⟩
 ·rw [if_neg c3] at H; obtain ⟨c3b0, c3b1⟩ := bqf c3; have c3b2 : ¬ (t1168 = []) := fun h_ => c3 (by rw [h_]; rfl)
  by_cases c8 : 0 < (t1168.length : Int)
  ·rw [if_pos c8] at H; have c8b0 := decide_eq_true c8; have c8b1 : decide (0 < t1168.length) = true := decide_eq_true (by omega); clear c8; have H' := ak H; clear H; go_enter Try.func81, Try.ntmps81; go_wp2_with (first | ((with_reducible refine gate_dst (N := 1) rfl ?_); refine bx 1 (f5 A0_0 l0_0 c0_0 A0_1 l0_1 c0_1 A0_2 l0_2 c0_2 A0_3 l0_3 c0_3 A0_4 l0_4 c0_4 a0_5) 33 ?_; intro gb1167 hg w9 hbox hb; have BK1167 := ak hbox; have GW1167 := gw hg HB; have GE1167 := gw hg HB; replace HB := bs HB hb; clear hb hbox hg; have hcz10 := cz6 BK1167.out) | ((with_reducible refine at_fn (f := 62) rfl ?_); refine gl (some 9) Try.func62 #[.agg (f5 A0_0 l0_0 c0_0 A0_1 l0_1 c0_1 A0_2 l0_2 c0_2 A0_3 l0_3 c0_3 A0_4 l0_4 c0_4 a0_5), .slice none 0 0] ?_; (refine (impl_placings.calls k _ _ l0_0 _ _ l0_1 _ _ l0_2 _ _ l0_3 _ _ l0_4 a0_5 (fun k_ => False) _ _ ([] : List Int) t1168 _ ?_ ?_ ?_ ?_ ?_ ?_ ?_ ?_ ?_ ?_ ?_ A2.out).mono ?_); exact vd HR0_0.out HB.out; exact HC0_0.out; exact vd HR0_1.out HB.out; exact HC0_1.out; exact vd HR0_2.out HB.out; exact HC0_2.out; exact vd HR0_3.out HB.out; exact HC0_3.out; exact vd HR0_4.out HB.out; exact HC0_4.out; exact Kd.V_nil _ _ _ _ _; rintro e w11 ⟨v1169, rfl, ho0, hb⟩; refine ⟨_, rfl, ?_⟩; have HO1170 := ak (Kd.N_lower (Kd.N_mono (ok' := fun k_ => (w.heap.size ≤ k_) ∧ k_ ≠ gb1167) ho0 (fun k_ hk_ => ⟨Or.elim hk_ (fun hs_ => (hs_).elim) (fun hn_ => (Nat.le_trans (below_size (vb HB.out)) hn_)), Or.elim hk_ (fun hs_ => (hs_).elim) (fun hn_ => (Kd.freshB (g := gb1167) (o := .cells (f5 A0_0 l0_0 c0_0 A0_1 l0_1 c0_1 A0_2 l0_2 c0_2 A0_3 l0_3 c0_3 A0_4 l0_4 c0_4 a0_5) 33 (0, 0)) (vk BK1167.out) k_ hn_))⟩)) (below_size (vb HB.out))); replace BK1167 := kb BK1167 hb; replace HB := bs HB hb; (try clear hb); (try clear ho0); obtain ⟨Ao12, co12, eo12⟩ := Kd.N_slice HO1170.out; subst eo12; have p1171 : 0 ≤ (0 : Int) := (by omega); have q1171 : 0 < (t1168.length : Int) := od; obtain ⟨ad1171, A1171_0, c1171_0, e1171, hx1171_0, hl1171_0, hi1171_0⟩ := at_L5 (Kd.N_reads' HO1170.out).2.2 0 p1171 q1171; cases e1171; obtain ⟨ce1171, hce1171, hMe1171, hcc1171⟩ := Kd.N_get HO1170.out [] 0 p1171 (by first | exact q1171 | exact od | (have e_ := (Kd.N_reads' HO1170.out).1; omega)); obtain ⟨ua1171_0, uc1171_0, rfl, ul1171_0, ge1171_0⟩ := Kd.FK_slice_open hMe1171; have hv1171_0 := hcc1171 0 _ rfl; rw [Nat.add_zero, show ((Kd.slice 2 (Kd.int .i64))).sz = 1 from rfl, Nat.mul_one] at hv1171_0; replace hv1171_0 := Option.some.inj (hv1171_0.symm.trans hx1171_0); injection hv1171_0 with hva_ hvn_ hvc_; rw [hva_] at ge1171_0; rw [hvc_] at ul1171_0; have HL1171_0 := ak (show Kd.V (Kd.int .i64) 2 _ w.heap.size _ _ (rd_L5 t1168 0) from Kd.V_mk ul1171_0 ge1171_0); clear hva_ hvn_ hvc_ ge1171_0 ul1171_0; clear hcc1171 hce1171; have qi1171 : (0 < t1168.length) = True := eq_true (by omega); (try rw [show ((0 : Int)).toNat = 0 from rfl] at hx1171_0); (try rw [Addr.add_zero'] at hx1171_0); have HR1171_0 := ak hi1171_0; have HC1171_0 := ak hl1171_0; clear hi1171_0 hl1171_0; replace p1171 := eq_true p1171; replace q1171 := eq_true q1171))
   go_loopg [5, 18] k (fun kq v5 v18 w' => ∃ (x5_1 : List Int) (x18_1 : Int), v18 = .int .i64 x18_1 ∧ Aside0 (impl_bestPlacing.l0 kq x5_1 t1168 (t1168.length : Int) x18_1 l0_0 l0_1 l0_2 l0_3 l0_4 a0_5 = some (r1, r2)) ∧ Aside0 (kq ≤ k) ∧ Aside0 (Kd.V (Kd.int .i64) 2 w' w.heap.size (fun k_ => (w.heap.size ≤ k_) ∧ some k_ ≠ ((.slice (some ad1171) t1168.length co12) : Value).ownBlock ∧ k_ ≠ gb1167) v5 x5_1) ∧ Aside0 (Kd.N (Kd.slice 2 (Kd.int .i64)) 24 w' w.heap.size (fun k_ => (w.heap.size ≤ k_) ∧ k_ ≠ gb1167) (.slice (some ad1171) t1168.length co12) t1168) ∧ Aside0 (w'.heap[gb1167]? = some (.cells (f5 A0_0 l0_0 c0_0 A0_1 l0_1 c0_1 A0_2 l0_2 c0_2 A0_3 l0_3 c0_3 A0_4 l0_4 c0_4 a0_5) 33 (0, 0))) ∧ Aside0 (Kd.C (Kd.int .i64) w' A1171_0 (rd_L5 t1168 0).length (rd_L5 t1168 0)) ∧ Aside0 (Below w.heap.size w w'))
   case atStart => exact ⟨(rd_L5 t1168 0), (0), es, H', ⟨Nat.le_refl _⟩, ⟨by (with_reducible repeat (first | apply Kd.V_alloc | apply Kd.V_drewN | apply Kd.V_drew)); exact Kd.V_mono HL1171_0.out (fun _ hk => ⟨hk.1.1, ⟨hk.2, hk.1.2⟩⟩)⟩, ⟨vN HO1170.out⟩, ⟨vk BK1167.out⟩, ⟨by repeat (first | (with_reducible exact HR1171_0.out) | (with_reducible refine Kd.C_alloc ?_ _) | (with_reducible refine Kd.C_drewN ?_ _) | (with_reducible refine Kd.C_drew ?_) | exact HR1171_0.out)⟩, ⟨vb HB.out⟩⟩
   case round =>
    clear H'; obtain ⟨x5_1, x18_1, rfl, HA, HK1, HO_5, HO_16, BK1167, HR1171_0, HB⟩ := hrel
    cases gk with
    | zero => exact absurd HA.out (by simp [impl_bestPlacing.l0])
    | succ k1 =>
     have H := HA.out; clear HA; simp only [impl_bestPlacing.l0] at H
     by_cases c13 : x18_1 < (t1168.length : Int)
     ·rw [if_pos c13] at H; have c13b0 := decide_eq_true c13; clear c13; by_cases c14 : 0 ≤ x18_1
      ·rw [if_pos c14] at H; have c14b0 := decide_eq_true c14; clear c14; by_cases c15 : x18_1 < (t1168.length : Int)
       ·rw [if_pos c15] at H; have c15b0 := decide_eq_true c15; clear c15; obtain ⟨t1173, A16, H⟩ := bnk H; obtain ⟨t1174, A17, H⟩ := bnk H; by_cases c18 : t1173 < t1174
        ·rw [if_pos c18] at H; have c18b0 := decide_eq_true c18; clear c18; have H' := ak H; clear H; have p1172 : 0 ≤ (x18_1 : Int) := od; have q1172 : x18_1 < (t1168.length : Int) := od; obtain ⟨ad1172, A1172_0, c1172_0, e1172, hx1172_0, hl1172_0, hi1172_0⟩ := at_L5 (Kd.N_reads' HO_16.out).2.2 x18_1 p1172 q1172; obtain rfl : ad1171 = ad1172 := (by injection e1172); obtain ⟨ce1172, hce1172, hMe1172, hcc1172⟩ := Kd.N_get HO_16.out [] x18_1 p1172 (by first | exact q1172 | exact od | (have e_ := (Kd.N_reads' HO_16.out).1; omega)); obtain ⟨ua1172_0, uc1172_0, rfl, ul1172_0, ge1172_0⟩ := Kd.FK_slice_open hMe1172; have hv1172_0 := hcc1172 0 _ rfl; rw [Nat.add_zero, show ((Kd.slice 2 (Kd.int .i64))).sz = 1 from rfl, Nat.mul_one] at hv1172_0; replace hv1172_0 := Option.some.inj (hv1172_0.symm.trans hx1172_0); injection hv1172_0 with hva_ hvn_ hvc_
         rw [hva_] at ge1172_0; rw [hvc_] at ul1172_0; have HL1172_0 := ak (show Kd.V (Kd.int .i64) 2 _ w.heap.size _ _ (rd_L5 t1168 x18_1) from Kd.V_mk ul1172_0 ge1172_0); clear hva_ hvn_ hvc_ ge1172_0 ul1172_0; clear hcc1172 hce1172; have HR1172_0 := ak hi1172_0; have HC1172_0 := ak hl1172_0; clear hi1172_0 hl1172_0; replace p1172 := eq_true p1172; replace q1172 := eq_true q1172; (try go_wp2)
         replace HO_5 := ak (Kd.V_drew HO_5.out); replace HO_16 := ak (Kd.N_drew HO_16.out); replace HL1172_0 := ak (Kd.V_drew HL1172_0.out); replace BK1167 := ak (blk_drew BK1167.out); replace HR1171_0 := ak (Kd.C_drew HR1171_0.out); replace HR1172_0 := ak (Kd.C_drew HR1172_0.out); replace HB := ak (below_drew1 HB.out); refine start_ (n := 7) (S := fun w' => w'.cell? ⟨gb1167, 0, none⟩ = some (.slice A0_0 l0_0.length c0_0) ∧ w'.cell? ⟨gb1167, 1, none⟩ = some (.slice A0_1 l0_1.length c0_1) ∧ w'.cell? ⟨gb1167, 2, none⟩ = some (.slice A0_2 l0_2.length c0_2) ∧ w'.cell? ⟨gb1167, 3, none⟩ = some (.slice A0_3 l0_3.length c0_3) ∧ w'.cell? ⟨gb1167, 4, none⟩ = some (.slice A0_4 l0_4.length c0_4) ∧ w'.cell? ⟨gb1167, 5, none⟩ = some (.int .i64 a0_5)) (ds := []) (tf 0 7) (by kernel_rfl) rfl rfl (cy6 BK1167.out) (fun hHeld => ?_); generalize wr.drew = w19 at HO_5 HO_16 HL1172_0 BK1167 HR1171_0 HR1172_0 HB hHeld ⊢; refine pu_ 1 23 (tM [0, 1, 1, 5]) rfl rfl ?_ (by kernel_rfl); refine pu_ 4 26 (tM [0, 1, 1, 2, 1, 2]) rfl rfl ?_ (by kernel_rfl); refine ta6_ 0 22 (tM [2, 2, 1, 2]) rfl rfl ?_ (by kernel_rfl); refine ta6_ 3 25 (tM [2, 1, 2, 2]) rfl rfl ?_ (by kernel_rfl); refine one_ (i := 2) (N := some 24) (tf 5 2) rfl rfl (by kernel_rfl) (by decide) (fun K hK => ?_); refine goes_ Try.func77 (by kernel_rfl) rfl #[.agg (f5 A0_0 l0_0 c0_0 A0_1 l0_1 c0_1 A0_2 l0_2 c0_2 A0_3 l0_3 c0_3 A0_4 l0_4 c0_4 a0_5), .slice A1172_0 (rd_L5 t1168 x18_1).length c1172_0] (by rfl) rfl rfl (by (try simp only [List.map_toArray, List.map_cons, List.map_nil]); first | done | rfl | (simp only [List.length_drop, List.length_take]; rfl)) ?_
         with_reducible refine (impl_costOf.calls k1 _ _ l0_0 _ _ l0_1 _ _ l0_2 _ _ l0_3 _ _ l0_4 a0_5 _ _ (rd_L5 t1168 x18_1) t1173 _ ?_ ?_ ?_ ?_ ?_ ?_ ?_ ?_ ?_ ?_ ?side11 ?_ A16.out).mono ?_
         exact vd HR0_0.out HB.out
         exact HC0_0.out
         exact vd HR0_1.out HB.out
         exact HC0_1.out
         exact vd HR0_2.out HB.out
         exact HC0_2.out
         exact vd HR0_3.out HB.out
         exact HC0_3.out
         exact vd HR0_4.out HB.out
         exact HC0_4.out
         (case side11 => repeat (first | exact (by repeat (first | (with_reducible exact HR1172_0.out) | (with_reducible refine Kd.C_alloc ?_ _) | (with_reducible refine Kd.C_drewN ?_ _) | (with_reducible refine Kd.C_drew ?_) | exact HR1172_0.out)) | (with_reducible refine Kd.C_alloc ?_ _) | (with_reducible refine Kd.C_drewN ?_ _) | (with_reducible refine Kd.C_drew ?_)))
         exact HC1172_0.out
         rintro e w20 ⟨rfl, hb⟩; refine ⟨_, rfl, ?_⟩; replace HO_5 := ak (Kd.V_below (vV HO_5.out) hb); replace HO_16 := ak (Kd.N_below (vN HO_16.out) hb); replace HL1172_0 := ak (Kd.V_below (vV HL1172_0.out) hb); replace BK1167 := kb BK1167 hb; replace HR1171_0 := ak (Kd.C_below (by repeat (first | (with_reducible exact HR1171_0.out) | (with_reducible refine Kd.C_alloc ?_ _) | (with_reducible refine Kd.C_drewN ?_ _) | (with_reducible refine Kd.C_drew ?_) | exact HR1171_0.out)) hb); replace HR1172_0 := ak (Kd.C_below (by repeat (first | (with_reducible exact HR1172_0.out) | (with_reducible refine Kd.C_alloc ?_ _) | (with_reducible refine Kd.C_drewN ?_ _) | (with_reducible refine Kd.C_drew ?_) | exact HR1172_0.out)) hb); replace HB := bs HB hb; (try clear hb)
         (try clear hb2)
         (try clear hk)
         (try clear hi)
         obtain ⟨Ao21, co21, eo21⟩ := Kd.V_slice HO_5.out; (first | subst eo21 | (injection eo21 with f1_ f2_ f3_; have f4_ := f1_.symm; have f5_ := f3_.symm; clear f1_ f2_ f3_; subst f4_; subst f5_))
         refine hK.out _ _ (cy6 BK1167.out) (fun hHeld => ?_); clear hK K; refine norm_ (a' := ?_) ?_ ?_
         rotate_left
         ·show Act.put _ (some 24) _ = _
          simp only [Act.put, List.setIfInBounds_toArray, List.set_cons_zero, List.set_cons_succ, i64_w, i32_w]
          rfl
         refine one_ (i := 5) (N := some 27) (tf 6 1) rfl rfl (by kernel_rfl) (by decide) (fun K hK => ?_); refine goes_ Try.func77 (by kernel_rfl) rfl #[.agg (f5 A0_0 l0_0 c0_0 A0_1 l0_1 c0_1 A0_2 l0_2 c0_2 A0_3 l0_3 c0_3 A0_4 l0_4 c0_4 a0_5), .slice Ao21 x5_1.length co21] (by rfl) rfl rfl (by (try simp only [List.map_toArray, List.map_cons, List.map_nil]); first | done | rfl | (simp only [List.length_drop, List.length_take]; rfl)) ?_; with_reducible refine (impl_costOf.calls k1 _ _ l0_0 _ _ l0_1 _ _ l0_2 _ _ l0_3 _ _ l0_4 a0_5 _ _ x5_1 t1174 _ ?_ ?_ ?_ ?_ ?_ ?_ ?_ ?_ ?_ ?_ ?_ ?_ A17.out).mono ?_
         exact vd HR0_0.out HB.out
         exact HC0_0.out
         exact vd HR0_1.out HB.out
         exact HC0_1.out
         exact vd HR0_2.out HB.out
         exact HC0_2.out
         exact vd HR0_3.out HB.out
         exact HC0_3.out
         exact vd HR0_4.out HB.out
         exact HC0_4.out
         exact vc (Kd.V_reads' HO_5.out).2.2
         exact (Kd.V_reads' HO_5.out).2.1
         rintro e w22 ⟨rfl, hb⟩; refine ⟨_, rfl, ?_⟩; replace HO_5 := ak (Kd.V_below (vV HO_5.out) hb); replace HO_16 := ak (Kd.N_below (vN HO_16.out) hb); replace HL1172_0 := ak (Kd.V_below (vV HL1172_0.out) hb); replace BK1167 := kb BK1167 hb; replace HR1171_0 := ak (Kd.C_below (by repeat (first | (with_reducible exact HR1171_0.out) | (with_reducible refine Kd.C_alloc ?_ _) | (with_reducible refine Kd.C_drewN ?_ _) | (with_reducible refine Kd.C_drew ?_) | exact HR1171_0.out)) hb); replace HR1172_0 := ak (Kd.C_below (by repeat (first | (with_reducible exact HR1172_0.out) | (with_reducible refine Kd.C_alloc ?_ _) | (with_reducible refine Kd.C_drewN ?_ _) | (with_reducible refine Kd.C_drew ?_) | exact HR1172_0.out)) hb); replace HB := bs HB hb; (try clear hb)
         (try clear hb2)
         (try clear hk)
         (try clear hi)
         refine hK.out _ _ (cy6 BK1167.out) (fun hHeld => ?_); clear hK K; refine norm_ (a' := ?_) ?_ ?_
         rotate_left
         ·show Act.put _ (some 27) _ = _
          simp only [Act.put, List.setIfInBounds_toArray, List.set_cons_zero, List.set_cons_succ, i64_w, i32_w]
          rfl
         refine pu_ 6 28 (tf 7 0) rfl rfl ?_ (by kernel_rfl); refine done_ (by kernel_rfl) ?_; (try go_wp2)
         go_roundg k1
         case measure => have := HK1.out; omega
         case rel => exact ⟨(rd_L5 t1168 x18_1), (wrap64 (x18_1 + 1)), es, H', ⟨by have := HK1.out; omega⟩, ⟨by (with_reducible repeat (first | apply Kd.V_alloc | apply Kd.V_drewN | apply Kd.V_drew)); exact Kd.V_mono HL1172_0.out (fun _ hk => ⟨hk.1.1, ⟨hk.2, hk.1.2⟩⟩)⟩, ⟨vN HO_16.out⟩, ⟨vk BK1167.out⟩, ⟨by repeat (first | (with_reducible exact HR1171_0.out) | (with_reducible refine Kd.C_alloc ?_ _) | (with_reducible refine Kd.C_drewN ?_ _) | (with_reducible refine Kd.C_drew ?_) | exact HR1171_0.out)⟩, ⟨vb HB.out⟩⟩
        ·rw [if_neg c18] at H; have c18b0 := decide_eq_false c18; clear c18; have H' := ak H; clear H; have p1172 : 0 ≤ (x18_1 : Int) := od; have q1172 : x18_1 < (t1168.length : Int) := od; obtain ⟨ad1172, A1172_0, c1172_0, e1172, hx1172_0, hl1172_0, hi1172_0⟩ := at_L5 (Kd.N_reads' HO_16.out).2.2 x18_1 p1172 q1172; obtain rfl : ad1171 = ad1172 := (by injection e1172); obtain ⟨ce1172, hce1172, hMe1172, hcc1172⟩ := Kd.N_get HO_16.out [] x18_1 p1172 (by first | exact q1172 | exact od | (have e_ := (Kd.N_reads' HO_16.out).1; omega)); obtain ⟨ua1172_0, uc1172_0, rfl, ul1172_0, ge1172_0⟩ := Kd.FK_slice_open hMe1172; have hv1172_0 := hcc1172 0 _ rfl; rw [Nat.add_zero, show ((Kd.slice 2 (Kd.int .i64))).sz = 1 from rfl, Nat.mul_one] at hv1172_0; replace hv1172_0 := Option.some.inj (hv1172_0.symm.trans hx1172_0); injection hv1172_0 with hva_ hvn_ hvc_
         rw [hva_] at ge1172_0; rw [hvc_] at ul1172_0; have HL1172_0 := ak (show Kd.V (Kd.int .i64) 2 _ w.heap.size _ _ (rd_L5 t1168 x18_1) from Kd.V_mk ul1172_0 ge1172_0); clear hva_ hvn_ hvc_ ge1172_0 ul1172_0; clear hcc1172 hce1172; have HR1172_0 := ak hi1172_0; have HC1172_0 := ak hl1172_0; clear hi1172_0 hl1172_0; replace p1172 := eq_true p1172; replace q1172 := eq_true q1172; (try go_wp2)
         replace HO_5 := ak (Kd.V_drew HO_5.out); replace HO_16 := ak (Kd.N_drew HO_16.out); replace HL1172_0 := ak (Kd.V_drew HL1172_0.out); replace BK1167 := ak (blk_drew BK1167.out); replace HR1171_0 := ak (Kd.C_drew HR1171_0.out); replace HR1172_0 := ak (Kd.C_drew HR1172_0.out); replace HB := ak (below_drew1 HB.out); refine start_ (n := 7) (S := fun w' => w'.cell? ⟨gb1167, 0, none⟩ = some (.slice A0_0 l0_0.length c0_0) ∧ w'.cell? ⟨gb1167, 1, none⟩ = some (.slice A0_1 l0_1.length c0_1) ∧ w'.cell? ⟨gb1167, 2, none⟩ = some (.slice A0_2 l0_2.length c0_2) ∧ w'.cell? ⟨gb1167, 3, none⟩ = some (.slice A0_3 l0_3.length c0_3) ∧ w'.cell? ⟨gb1167, 4, none⟩ = some (.slice A0_4 l0_4.length c0_4) ∧ w'.cell? ⟨gb1167, 5, none⟩ = some (.int .i64 a0_5)) (ds := []) (tf 0 7) (by kernel_rfl) rfl rfl (cy6 BK1167.out) (fun hHeld => ?_); generalize wr.drew = w23 at HO_5 HO_16 HL1172_0 BK1167 HR1171_0 HR1172_0 HB hHeld ⊢; refine pu_ 1 23 (tM [0, 1, 1, 5]) rfl rfl ?_ (by kernel_rfl); refine pu_ 4 26 (tM [0, 1, 1, 2, 1, 2]) rfl rfl ?_ (by kernel_rfl); refine ta6_ 0 22 (tM [2, 2, 1, 2]) rfl rfl ?_ (by kernel_rfl); refine ta6_ 3 25 (tM [2, 1, 2, 2]) rfl rfl ?_ (by kernel_rfl); refine one_ (i := 2) (N := some 24) (tf 5 2) rfl rfl (by kernel_rfl) (by decide) (fun K hK => ?_); refine goes_ Try.func77 (by kernel_rfl) rfl #[.agg (f5 A0_0 l0_0 c0_0 A0_1 l0_1 c0_1 A0_2 l0_2 c0_2 A0_3 l0_3 c0_3 A0_4 l0_4 c0_4 a0_5), .slice A1172_0 (rd_L5 t1168 x18_1).length c1172_0] (by rfl) rfl rfl (by (try simp only [List.map_toArray, List.map_cons, List.map_nil]); first | done | rfl | (simp only [List.length_drop, List.length_take]; rfl)) ?_
         with_reducible refine (impl_costOf.calls k1 _ _ l0_0 _ _ l0_1 _ _ l0_2 _ _ l0_3 _ _ l0_4 a0_5 _ _ (rd_L5 t1168 x18_1) t1173 _ ?_ ?_ ?_ ?_ ?_ ?_ ?_ ?_ ?_ ?_ ?side11 ?_ A16.out).mono ?_
         exact vd HR0_0.out HB.out
         exact HC0_0.out
         exact vd HR0_1.out HB.out
         exact HC0_1.out
         exact vd HR0_2.out HB.out
         exact HC0_2.out
         exact vd HR0_3.out HB.out
         exact HC0_3.out
         exact vd HR0_4.out HB.out
         exact HC0_4.out
         (case side11 => repeat (first | exact (by repeat (first | (with_reducible exact HR1172_0.out) | (with_reducible refine Kd.C_alloc ?_ _) | (with_reducible refine Kd.C_drewN ?_ _) | (with_reducible refine Kd.C_drew ?_) | exact HR1172_0.out)) | (with_reducible refine Kd.C_alloc ?_ _) | (with_reducible refine Kd.C_drewN ?_ _) | (with_reducible refine Kd.C_drew ?_)))
         exact HC1172_0.out
         rintro e w24 ⟨rfl, hb⟩; refine ⟨_, rfl, ?_⟩; replace HO_5 := ak (Kd.V_below (vV HO_5.out) hb); replace HO_16 := ak (Kd.N_below (vN HO_16.out) hb); replace HL1172_0 := ak (Kd.V_below (vV HL1172_0.out) hb); replace BK1167 := kb BK1167 hb; replace HR1171_0 := ak (Kd.C_below (by repeat (first | (with_reducible exact HR1171_0.out) | (with_reducible refine Kd.C_alloc ?_ _) | (with_reducible refine Kd.C_drewN ?_ _) | (with_reducible refine Kd.C_drew ?_) | exact HR1171_0.out)) hb); replace HR1172_0 := ak (Kd.C_below (by repeat (first | (with_reducible exact HR1172_0.out) | (with_reducible refine Kd.C_alloc ?_ _) | (with_reducible refine Kd.C_drewN ?_ _) | (with_reducible refine Kd.C_drew ?_) | exact HR1172_0.out)) hb); replace HB := bs HB hb; (try clear hb)
         (try clear hb2)
         (try clear hk)
         (try clear hi)
         obtain ⟨Ao25, co25, eo25⟩ := Kd.V_slice HO_5.out; (first | subst eo25 | (injection eo25 with f1_ f2_ f3_; have f4_ := f1_.symm; have f5_ := f3_.symm; clear f1_ f2_ f3_; subst f4_; subst f5_))
         refine hK.out _ _ (cy6 BK1167.out) (fun hHeld => ?_); clear hK K; refine norm_ (a' := ?_) ?_ ?_
         rotate_left
         ·show Act.put _ (some 24) _ = _
          simp only [Act.put, List.setIfInBounds_toArray, List.set_cons_zero, List.set_cons_succ, i64_w, i32_w]
          rfl
         refine one_ (i := 5) (N := some 27) (tf 6 1) rfl rfl (by kernel_rfl) (by decide) (fun K hK => ?_); refine goes_ Try.func77 (by kernel_rfl) rfl #[.agg (f5 A0_0 l0_0 c0_0 A0_1 l0_1 c0_1 A0_2 l0_2 c0_2 A0_3 l0_3 c0_3 A0_4 l0_4 c0_4 a0_5), .slice Ao25 x5_1.length co25] (by rfl) rfl rfl (by (try simp only [List.map_toArray, List.map_cons, List.map_nil]); first | done | rfl | (simp only [List.length_drop, List.length_take]; rfl)) ?_; with_reducible refine (impl_costOf.calls k1 _ _ l0_0 _ _ l0_1 _ _ l0_2 _ _ l0_3 _ _ l0_4 a0_5 _ _ x5_1 t1174 _ ?_ ?_ ?_ ?_ ?_ ?_ ?_ ?_ ?_ ?_ ?_ ?_ A17.out).mono ?_
         exact vd HR0_0.out HB.out
         exact HC0_0.out
         exact vd HR0_1.out HB.out
         exact HC0_1.out
         exact vd HR0_2.out HB.out
         exact HC0_2.out
         exact vd HR0_3.out HB.out
         exact HC0_3.out
         exact vd HR0_4.out HB.out
         exact HC0_4.out
         exact vc (Kd.V_reads' HO_5.out).2.2
         exact (Kd.V_reads' HO_5.out).2.1
         rintro e w26 ⟨rfl, hb⟩; refine ⟨_, rfl, ?_⟩; replace HO_5 := ak (Kd.V_below (vV HO_5.out) hb); replace HO_16 := ak (Kd.N_below (vN HO_16.out) hb); replace HL1172_0 := ak (Kd.V_below (vV HL1172_0.out) hb); replace BK1167 := kb BK1167 hb; replace HR1171_0 := ak (Kd.C_below (by repeat (first | (with_reducible exact HR1171_0.out) | (with_reducible refine Kd.C_alloc ?_ _) | (with_reducible refine Kd.C_drewN ?_ _) | (with_reducible refine Kd.C_drew ?_) | exact HR1171_0.out)) hb); replace HR1172_0 := ak (Kd.C_below (by repeat (first | (with_reducible exact HR1172_0.out) | (with_reducible refine Kd.C_alloc ?_ _) | (with_reducible refine Kd.C_drewN ?_ _) | (with_reducible refine Kd.C_drew ?_) | exact HR1172_0.out)) hb); replace HB := bs HB hb; (try clear hb)
         (try clear hb2)
         (try clear hk)
         (try clear hi)
         refine hK.out _ _ (cy6 BK1167.out) (fun hHeld => ?_); clear hK K; refine norm_ (a' := ?_) ?_ ?_
         rotate_left
         ·show Act.put _ (some 27) _ = _
          simp only [Act.put, List.setIfInBounds_toArray, List.set_cons_zero, List.set_cons_succ, i64_w, i32_w]
          rfl
         refine pu_ 6 28 (tf 7 0) rfl rfl ?_ (by kernel_rfl); refine done_ (by kernel_rfl) ?_; (try go_wp2)
         go_roundg k1
         case measure => have := HK1.out; omega
         case rel => exact ⟨(x5_1), (wrap64 (x18_1 + 1)), es, H', ⟨by have := HK1.out; omega⟩, ⟨vV HO_5.out⟩, ⟨vN HO_16.out⟩, ⟨vk BK1167.out⟩, ⟨by repeat (first | (with_reducible exact HR1171_0.out) | (with_reducible refine Kd.C_alloc ?_ _) | (with_reducible refine Kd.C_drewN ?_ _) | (with_reducible refine Kd.C_drew ?_) | exact HR1171_0.out)⟩, ⟨vb HB.out⟩⟩
       ·exact nO_ c15 H
      ·exact nO_ c14 H
     ·rw [if_neg c13] at H; have c13b0 := decide_eq_false c13; clear c13; simp only [Option.some.injEq, Prod.mk.injEq] at H
      obtain ⟨rfl, rfl⟩ := H; go_wp2
      go_ret2
      exact ⟨_, ew, by (with_reducible repeat (first | apply Kd.V_alloc | apply Kd.V_drewN | apply Kd.V_drew)); exact Kd.V_mono HO_5.out (fun _ hk => hk.1), vb HB.out⟩
  ·exact nO_ c8 H


/-! ### impl_BestPlacing: function 34 -/
def impl_BestPlacing.f (k : Nat) (l0_0 : List (S98)) (l0_1 : List (S103)) (l0_2 : List Int) (l0_3 : List Int) (l0_4 : List Int) (a0_5 : Int) : Option (List Int × Int × Int) := (impl_IsField.f k l0_0 l0_1 l0_2 l0_3 l0_4 a0_5).bind fun t1176 => (if t1176 = true then ((impl_bestPlacing.f k l0_0 l0_1 l0_2 l0_3 l0_4 a0_5).bind fun bt1177 => (if bt1177.2 = true then ((impl_costOf.f k l0_0 l0_1 l0_2 l0_3 l0_4 a0_5 bt1177.1).bind fun t1181 => (some (bt1177.1, t1181, 0))) else (some (([] : List Int), 0, 4)))) else (some (([] : List Int), 0, 1)))
theorem impl_BestPlacing.mono : ∀ a0 a1 a2 a3 a4 a5 k, LeO (impl_BestPlacing.f k a0 a1 a2 a3 a4 a5) (impl_BestPlacing.f (k + 1) a0 a1 a2 a3 a4 a5) := by
 intro a0 a1 a2 a3 a4 a5 k; unfold impl_BestPlacing.f
 repeat' (with_reducible first | exact impl_IsField.mono .. | exact impl_bestPlacing.mono .. | exact impl_costOf.mono .. | exact lm | refine LeO.ite ?_ ?_ | refine LeO.bind ?_ (fun _ => ?_))
set_option maxHeartbeats 8000000 in
set_option maxRecDepth 100000 in
theorem impl_BestPlacing.calls (k : Nat) (A0_0 : Option Addr) (c0_0 : Nat) (l0_0 : List (S98)) (A0_1 : Option Addr) (c0_1 : Nat) (l0_1 : List (S103)) (A0_2 : Option Addr) (c0_2 : Nat) (l0_2 : List Int) (A0_3 : Option Addr) (c0_3 : Nat) (l0_3 : List Int) (A0_4 : Option Addr) (c0_4 : Nat) (l0_4 : List Int) (a0_5 : Int) (r1 : List Int) (r2 : Int) (r3 : Int) (w : World) (hr0_0 : Kd.C k98 w A0_0 l0_0.length l0_0) (hc0_0 : l0_0.length ≤ c0_0) (hr0_1 : Kd.C k103 w A0_1 l0_1.length l0_1) (hc0_1 : l0_1.length ≤ c0_1) (hr0_2 : Kd.C (Kd.int .i64) w A0_2 l0_2.length l0_2) (hc0_2 : l0_2.length ≤ c0_2) (hr0_3 : Kd.C (Kd.int .i64) w A0_3 l0_3.length l0_3) (hc0_3 : l0_3.length ≤ c0_3) (hr0_4 : Kd.C (Kd.int .i64) w A0_4 l0_4.length l0_4) (hc0_4 : l0_4.length ≤ c0_4) (h : impl_BestPlacing.f k l0_0 l0_1 l0_2 l0_3 l0_4 a0_5 = some (r1, r2, r3)) :
  Calls Try.prog 34 #[.agg (f5 A0_0 l0_0 c0_0 A0_1 l0_1 c0_1 A0_2 l0_2 c0_2 A0_3 l0_3 c0_3 A0_4 l0_4 c0_4 a0_5)] w fun e w' => ∃ v0_ : Value, e = .returned (.tuple #[v0_, .int .i64 r2, .int .i64 r3]) ∧ Kd.V (Kd.int .i64) 2 w' w.heap.size (fun k_ => (w.heap.size ≤ k_)) v0_ r1 ∧ Below w.heap.size w w' := by
 have hu33 := Try.underlying33; have HR0_0 := ak hr0_0; have HC0_0 := ak hc0_0; clear hr0_0 hc0_0; have HR0_1 := ak hr0_1; have HC0_1 := ak hc0_1; clear hr0_1 hc0_1; have HR0_2 := ak hr0_2; have HC0_2 := ak hc0_2; clear hr0_2 hc0_2; have HR0_3 := ak hr0_3; have HC0_3 := ak hc0_3; clear hr0_3 hc0_3; have HR0_4 := ak hr0_4; have HC0_4 := ak hc0_4; clear hr0_4 hc0_4; have HB := ak (Below.refl w.heap.size w); unfold impl_BestPlacing.f at h; have H := h; clear h; obtain ⟨t1176, A2, H⟩ := bnk H; by_cases c3 : t1176 = true
 subst c3; rw [if_pos rfl] at H; obtain ⟨⟨t1177, t1180⟩, A40, H⟩ := bnd H; replace H : (if t1180 = true then ((impl_costOf.f k l0_0 l0_1 l0_2 l0_3 l0_4 a0_5 t1177).bind fun t1181 => (some (t1177, t1181, 0))) else (some (([] : List Int), 0, 4))) = some (r1, r2, r3) := H; have A4 := ak A40; clear A40; by_cases c5 : t1180 = true
 ·subst c5; rw [if_pos rfl] at H; obtain ⟨t1181, A6, H⟩ := bnk H; simp only [Option.some.injEq, Prod.mk.injEq] at H
  obtain ⟨rfl, rfl, rfl⟩ := H; go_enter Try.func34, Try.ntmps34; go_wp2_with (first | ((with_reducible refine gate_dst (N := 1) rfl ?_); refine bx 1 (f5 A0_0 l0_0 c0_0 A0_1 l0_1 c0_1 A0_2 l0_2 c0_2 A0_3 l0_3 c0_3 A0_4 l0_4 c0_4 a0_5) 33 ?_; intro gb1175 hg w7 hbox hb; have BK1175 := ak hbox; have GW1175 := gw hg HB; have GE1175 := gw hg HB; replace HB := bs HB hb; clear hb hbox hg; have hcz8 := cz6 BK1175.out) | ((with_reducible refine at_fn (f := 37) rfl ?_); refine gl (some 8) Try.func37 #[.agg (f5 A0_0 l0_0 c0_0 A0_1 l0_1 c0_1 A0_2 l0_2 c0_2 A0_3 l0_3 c0_3 A0_4 l0_4 c0_4 a0_5)] ?_; (with_reducible refine (impl_IsField.calls k _ _ l0_0 _ _ l0_1 _ _ l0_2 _ _ l0_3 _ _ l0_4 a0_5 _ _ ?_ HC0_0.out ?_ HC0_1.out ?_ HC0_2.out ?_ HC0_3.out ?_ HC0_4.out A2.out).mono ?_); exact vd HR0_0.out HB.out; exact vd HR0_1.out HB.out; exact vd HR0_2.out HB.out; exact vd HR0_3.out HB.out; exact vd HR0_4.out HB.out; rintro e w9 ⟨rfl, hb⟩; refine ⟨_, rfl, ?_⟩; replace BK1175 := kb BK1175 hb; replace HB := bs HB hb; (try clear hb); have hcz10 := cz6 BK1175.out) | ((with_reducible refine at_fn (f := 81) rfl ?_); refine gl (some 12) Try.func81 #[.agg (f5 A0_0 l0_0 c0_0 A0_1 l0_1 c0_1 A0_2 l0_2 c0_2 A0_3 l0_3 c0_3 A0_4 l0_4 c0_4 a0_5)] ?_; (with_reducible refine (impl_bestPlacing.calls k _ _ l0_0 _ _ l0_1 _ _ l0_2 _ _ l0_3 _ _ l0_4 a0_5 t1177 _ _ ?_ HC0_0.out ?_ HC0_1.out ?_ HC0_2.out ?_ HC0_3.out ?_ HC0_4.out A4.out).mono ?_); exact vd HR0_0.out HB.out; exact vd HR0_1.out HB.out; exact vd HR0_2.out HB.out; exact vd HR0_3.out HB.out; exact vd HR0_4.out HB.out; rintro e w11 ⟨v1178, rfl, ho0, hb⟩; refine ⟨_, rfl, ?_⟩; have HO1179 := ak (Kd.V_lower (Kd.V_mono (ok' := fun k_ => (w.heap.size ≤ k_) ∧ k_ ≠ gb1175) ho0 (fun k_ hk_ => ⟨(Nat.le_trans (below_size (vb HB.out)) hk_), (Kd.freshB (g := gb1175) (o := .cells (f5 A0_0 l0_0 c0_0 A0_1 l0_1 c0_1 A0_2 l0_2 c0_2 A0_3 l0_3 c0_3 A0_4 l0_4 c0_4 a0_5) 33 (0, 0)) (vk BK1175.out) k_ hk_)⟩)) (below_size (vb HB.out))); replace BK1175 := kb BK1175 hb; replace HB := bs HB hb; (try clear hb); (try clear ho0); have hcz12 := cz6 BK1175.out; obtain ⟨Ao13, co13, eo13⟩ := Kd.V_slice HO1179.out; subst eo13) | ((with_reducible refine at_fn (f := 77) rfl ?_); refine gl (some 20) Try.func77 #[.agg (f5 A0_0 l0_0 c0_0 A0_1 l0_1 c0_1 A0_2 l0_2 c0_2 A0_3 l0_3 c0_3 A0_4 l0_4 c0_4 a0_5), .slice Ao13 t1177.length co13] ?_; (with_reducible refine (impl_costOf.calls k _ _ l0_0 _ _ l0_1 _ _ l0_2 _ _ l0_3 _ _ l0_4 a0_5 _ _ t1177 t1181 _ ?_ HC0_0.out ?_ HC0_1.out ?_ HC0_2.out ?_ HC0_3.out ?_ HC0_4.out ?_ ?_ A6.out).mono ?_); exact vd HR0_0.out HB.out; exact vd HR0_1.out HB.out; exact vd HR0_2.out HB.out; exact vd HR0_3.out HB.out; exact vd HR0_4.out HB.out; exact vc (Kd.V_reads' HO1179.out).2.2; exact (Kd.V_reads' HO1179.out).2.1; rintro e w14 ⟨rfl, hb⟩; refine ⟨_, rfl, ?_⟩; replace HO1179 := ak (Kd.V_below (vV HO1179.out) hb); replace BK1175 := kb BK1175 hb; replace HB := bs HB hb; (try clear hb)))
  go_ret3
  exact ⟨_, ew, by (with_reducible repeat (first | apply Kd.V_alloc | apply Kd.V_drewN | apply Kd.V_drew)); exact Kd.V_mono HO1179.out (fun _ hk => hk.1), vb HB.out⟩
 replace c5 := Bool.eq_false_iff.mpr c5; subst c5; rw [if_neg nf] at H; simp only [Option.some.injEq, Prod.mk.injEq] at H
 obtain ⟨rfl, rfl, rfl⟩ := H; rotate_left
 replace c3 := Bool.eq_false_iff.mpr c3; subst c3; rw [if_neg nf] at H; simp only [Option.some.injEq, Prod.mk.injEq] at H
 obtain ⟨rfl, rfl, rfl⟩ := H; rotate_left
 all_goals
  go_enter Try.func34, Try.ntmps34; go_wp2_with (first | ((with_reducible refine gate_dst (N := 1) rfl ?_); refine bx 1 (f5 A0_0 l0_0 c0_0 A0_1 l0_1 c0_1 A0_2 l0_2 c0_2 A0_3 l0_3 c0_3 A0_4 l0_4 c0_4 a0_5) 33 ?_; intro gb1175 hg w9 hbox hb; have BK1175 := ak hbox; have GW1175 := gw hg HB; have GE1175 := gw hg HB; replace HB := bs HB hb; clear hb hbox hg; have hcz9 := cz6 BK1175.out) | ((with_reducible refine at_fn (f := 37) rfl ?_); refine gl (some 8) Try.func37 #[.agg (f5 A0_0 l0_0 c0_0 A0_1 l0_1 c0_1 A0_2 l0_2 c0_2 A0_3 l0_3 c0_3 A0_4 l0_4 c0_4 a0_5)] ?_; (with_reducible refine (impl_IsField.calls k _ _ l0_0 _ _ l0_1 _ _ l0_2 _ _ l0_3 _ _ l0_4 a0_5 _ _ ?_ HC0_0.out ?_ HC0_1.out ?_ HC0_2.out ?_ HC0_3.out ?_ HC0_4.out A2.out).mono ?_); exact vd HR0_0.out HB.out; exact vd HR0_1.out HB.out; exact vd HR0_2.out HB.out; exact vd HR0_3.out HB.out; exact vd HR0_4.out HB.out; rintro e w9 ⟨rfl, hb⟩; refine ⟨_, rfl, ?_⟩; replace BK1175 := kb BK1175 hb; replace HB := bs HB hb; (try clear hb); have hcz9 := cz6 BK1175.out) | ((with_reducible refine at_fn (f := 81) rfl ?_); refine gl (some 12) Try.func81 #[.agg (f5 A0_0 l0_0 c0_0 A0_1 l0_1 c0_1 A0_2 l0_2 c0_2 A0_3 l0_3 c0_3 A0_4 l0_4 c0_4 a0_5)] ?_; (with_reducible refine (impl_bestPlacing.calls k _ _ l0_0 _ _ l0_1 _ _ l0_2 _ _ l0_3 _ _ l0_4 a0_5 t1177 _ _ ?_ HC0_0.out ?_ HC0_1.out ?_ HC0_2.out ?_ HC0_3.out ?_ HC0_4.out A4.out).mono ?_); exact vd HR0_0.out HB.out; exact vd HR0_1.out HB.out; exact vd HR0_2.out HB.out; exact vd HR0_3.out HB.out; exact vd HR0_4.out HB.out; rintro e w9 ⟨v1178, rfl, ho0, hb⟩; refine ⟨_, rfl, ?_⟩; have HO1179 := ak (Kd.V_lower (Kd.V_mono (ok' := fun k_ => (w.heap.size ≤ k_) ∧ k_ ≠ gb1175) ho0 (fun k_ hk_ => ⟨(Nat.le_trans (below_size (vb HB.out)) hk_), (Kd.freshB (g := gb1175) (o := .cells (f5 A0_0 l0_0 c0_0 A0_1 l0_1 c0_1 A0_2 l0_2 c0_2 A0_3 l0_3 c0_3 A0_4 l0_4 c0_4 a0_5) 33 (0, 0)) (vk BK1175.out) k_ hk_)⟩)) (below_size (vb HB.out))); replace BK1175 := kb BK1175 hb; replace HB := bs HB hb; (try clear hb); (try clear ho0)))
  go_ret3
  exact ⟨_, ew, Kd.V_nil _ _ _ _ _, vb HB.out⟩


/-! ### laws_likeInts: function 36 -/
def laws_likeInts.l0 : Nat → List Int → List Int → Int → Option (Bool)
 | 0, _, _, _ => none
 | k + 1, x0, x1, x5 => if x5 < (x0.length : Int) then (if 0 ≤ x5 then (if x5 < (x1.length : Int) then (if (rd x0 x5) = (rd x1 x5) then (laws_likeInts.l0 k x0 x1 (wrap64 (x5 + 1))) else (some false)) else (none)) else (none)) else (some true)
def laws_likeInts.f (k : Nat) (l0 : List Int) (l1 : List Int) : Option (Bool) := if (l0.length : Int) = (l1.length : Int) then (laws_likeInts.l0 k l0 l1 0) else (some false)
theorem laws_likeInts.mono_l : ∀ k, (∀ y0 y1 y2, LeO (laws_likeInts.l0 k y0 y1 y2) (laws_likeInts.l0 (k + 1) y0 y1 y2))
 | 0 => fun _ _ _ r h => by simp [laws_likeInts.l0] at h
 | k + 1 => by
  have ih0 := laws_likeInts.mono_l k
  ·intro y0 y1 y2; unfold laws_likeInts.l0
   repeat' (with_reducible first | exact ih0 .. | exact lm | refine LeO.ite ?_ ?_ | refine LeO.bind ?_ (fun _ => ?_))
theorem laws_likeInts.mono : ∀ a0 a1 k, LeO (laws_likeInts.f k a0 a1) (laws_likeInts.f (k + 1) a0 a1) := by
 intro a0 a1 k; have ih0 := laws_likeInts.mono_l k; unfold laws_likeInts.f
 repeat' (with_reducible first | exact ih0 .. | exact lm | refine LeO.ite ?_ ?_ | refine LeO.bind ?_ (fun _ => ?_))
set_option maxHeartbeats 8000000 in
set_option maxRecDepth 100000 in
theorem laws_likeInts.calls (k : Nat) (A0 : Option Addr) (c0 : Nat) (l0 : List Int) (A1 : Option Addr) (c1 : Nat) (l1 : List Int) (r : Bool) (w : World) (hr0 : Kd.C (Kd.int .i64) w A0 l0.length l0) (hc0 : l0.length ≤ c0) (hr1 : Kd.C (Kd.int .i64) w A1 l1.length l1) (hc1 : l1.length ≤ c1) (h : laws_likeInts.f k l0 l1 = some r) :
  Calls Try.prog 36 #[.slice A0 l0.length c0, .slice A1 l1.length c1] w fun e w' => e = .returned (.bool r) ∧ Drawn0 w w' := by
 have HR0 := ak hr0; have HC0 := ak hc0; clear hr0 hc0; have HR1 := ak hr1; have HC1 := ak hc1; clear hr1 hc1; unfold laws_likeInts.f at h; have H := h; clear h; by_cases c3 : (l0.length : Int) = (l1.length : Int)
 ·rw [if_pos c3] at H; obtain ⟨c3b0, c3b1⟩ := bqt c3; have c3b2 : (l0.length == l1.length) = true := by first | simpa using c3 | (simp at c3 ⊢; omega)
  clear c3; have H' := ak H; clear H; go_enter Try.func36, Try.ntmps36; go_wp2
  repeat (go_quiet (fail); try go_wp2)
  go_loopg [5] k (fun kq v5 w' => ∃ (x5_1 : Int), v5 = .int .i64 x5_1 ∧ Aside0 (laws_likeInts.l0 kq l0 l1 x5_1 = some r) ∧ Aside0 (kq ≤ k) ∧ Drawn0 w w')
  case atStart => exact ⟨(0), es, H', ⟨Nat.le_refl _⟩, by repeat (first | exact Drawn0.refl _ | apply Drawn0.step)⟩
  case round =>
   clear H'; obtain ⟨x5_1, rfl, HA, HK1, ⟨m1, rfl⟩⟩ := hrel
   cases gk with
   | zero => exact absurd HA.out (by simp [laws_likeInts.l0])
   | succ k1 =>
    have H := HA.out; clear HA; simp only [laws_likeInts.l0] at H
    by_cases c4 : x5_1 < (l0.length : Int)
    ·rw [if_pos c4] at H; have c4b0 := decide_eq_true c4; clear c4; by_cases c5 : 0 ≤ x5_1
     ·rw [if_pos c5] at H; have c5b0 := decide_eq_true c5; clear c5; by_cases c6 : x5_1 < (l1.length : Int)
      ·rw [if_pos c6] at H; have c6b0 := decide_eq_true c6; clear c6; by_cases c7 : (rd l0 x5_1) = (rd l1 x5_1)
       ·rw [if_pos c7] at H; obtain ⟨c7b0, c7b1⟩ := bqt c7; clear c7; have H' := ak H; clear H; have p1182 : 0 ≤ (x5_1 : Int) := od; have q1182 : x5_1 < (l0.length : Int) := od; obtain ⟨ad1182, e1182, hx1182_0⟩ := Kd.at_int HR0.out x5_1 p1182 q1182
        cases e1182; replace p1182 := eq_true p1182; replace q1182 := eq_true q1182; have p1183 : 0 ≤ (x5_1 : Int) := od; have q1183 : x5_1 < (l1.length : Int) := od; obtain ⟨ad1183, e1183, hx1183_0⟩ := Kd.at_int HR1.out x5_1 p1183 q1183
        cases e1183; replace p1183 := eq_true p1183; replace q1183 := eq_true q1183; go_wp2
        repeat (go_quiet (fail); try go_wp2)
        go_roundg k1
        case measure => have := HK1.out; omega
        case rel => exact ⟨(wrap64 (x5_1 + 1)), es, H', ⟨by have := HK1.out; omega⟩, by repeat (first | exact Drawn0.refl _ | apply Drawn0.step)⟩
       ·rw [if_neg c7] at H; obtain ⟨c7b0, c7b1⟩ := bqf c7; obtain rfl := sj H; have p1182 : 0 ≤ (x5_1 : Int) := od; have q1182 : x5_1 < (l0.length : Int) := od; obtain ⟨ad1182, e1182, hx1182_0⟩ := Kd.at_int HR0.out x5_1 p1182 q1182
        cases e1182; replace p1182 := eq_true p1182; replace q1182 := eq_true q1182; have p1183 : 0 ≤ (x5_1 : Int) := od; have q1183 : x5_1 < (l1.length : Int) := od; obtain ⟨ad1183, e1183, hx1183_0⟩ := Kd.at_int HR1.out x5_1 p1183 q1183
        cases e1183; replace p1183 := eq_true p1183; replace q1183 := eq_true q1183; go_wp2
        repeat (go_quiet (fail); try go_wp2)
        go_ret
        exact ⟨by first | rfl | (simp; done) | (simp [*]; done), by repeat (first | exact Drawn0.refl _ | apply Drawn0.step)⟩
      ·exact nO_ c6 H
     ·exact nO_ c5 H
    ·rw [if_neg c4] at H; have c4b0 := decide_eq_false c4; clear c4; obtain rfl := sj H; go_wp2
     repeat (go_quiet (fail); try go_wp2)
     go_ret
     exact ⟨by first | rfl | (simp; done) | (simp [*]; done), by repeat (first | exact Drawn0.refl _ | apply Drawn0.step)⟩
 ·rw [if_neg c3] at H; obtain ⟨c3b0, c3b1⟩ := bqf c3; have c3b2 : (l0.length == l1.length) = false := by first | simpa using c3 | (simp at c3 ⊢; omega)
  obtain rfl := sj H; go_enter Try.func36, Try.ntmps36; go_wp2
  repeat (go_quiet (fail); try go_wp2)
  go_ret
  exact ⟨by first | rfl | (simp; done) | (simp [*]; done), by repeat (first | exact Drawn0.refl _ | apply Drawn0.step)⟩


end Go.Proofs.Ytancnecddlbhkaa.Pall
