/- Go functions of the program, each as a Lean function, and the proof that each call comes to what the Lean function tells; no condition beyond those that stand there. -/
import Derived.Test.YtancnecddlbhkaaF00
import Derived.Test.YtancnecddlbhkaaF02
import Derived.Test.YtancnecddlbhkaaF04
import Derived.Test.YtancnecddlbhkaaF07
import Derived.Test.YtancnecddlbhkaaSq
import Derived.Test.YtancnecddlbhkaaWLast
import Derived.Test.YtancnecddlbhkaaWMore
import Derived.Test.YtancnecddlbhkaaWN
import Derived.Test.YtancnecddlbhkaaWTab
import Derived.Test.YtancnecddlbhkaaSpare
import Derived.Test.YtancnecddlbhkaaCm
import Derived.Test.YtancnecddlbhkaaCm4
import Derived.Test.YtancnecddlbhkaaCm3
import Derived.Test.YtancnecddlbhkaaCm6
namespace Go.Proofs.Ytancnecddlbhkaa.Pall
open Go.RowKit Go.Proofs.YtancnecddlbhkaaW.PrintWords Go.Proofs.YtancnecddlbhkaaW.PrintLast Go.Proofs.YtancnecddlbhkaaW.PrintMore
attribute [local go_sem] max2_int min2_int max_two min_two max_three min_three max_four min_four
set_option linter.unusedVariables false
set_option linter.unusedSimpArgs false

/-! ### spec_l15Root: function 86 -/
def spec_l15Root.l0 : Nat → Int → Int → Int → Option (Int)
 | 0, _, _, _ => none
 | k + 1, x3, x1, x2 => if (wrap64 (x1 + 1)) < x2 then (if (wrap64 ((wrap64 (Int.tdiv (wrap64 (x1 + x2)) 2)) * (wrap64 (Int.tdiv (wrap64 (x1 + x2)) 2)))) ≤ x3 then (spec_l15Root.l0 k x3 (wrap64 (Int.tdiv (wrap64 (x1 + x2)) 2)) x2) else (spec_l15Root.l0 k x3 x1 (wrap64 (Int.tdiv (wrap64 (x1 + x2)) 2)))) else (some x1)
def spec_l15Root.f (k : Nat) (a0 : Int) : Option (Int) := spec_l15Root.l0 k a0 0 100001
set_option maxHeartbeats 8000000 in
set_option maxRecDepth 100000 in
theorem spec_l15Root.calls (k : Nat) (a0 : Int) (r : Int) (w : World) (h : spec_l15Root.f k a0 = some r) :
  Calls Try.prog 86 #[.int .i64 a0] w fun e w' => e = .returned (.int .i64 r) ∧ Drawn0 w w' := by
 unfold spec_l15Root.f at h; have H := h; clear h; have H' := ak H; clear H; go_enter Try.func86, Try.ntmps86; go_wp2
 go_loopg [3, 4] k (fun kq v1 v2 w' => ∃ (x1_0 : Int) (x2_0 : Int), v1 = .int .i64 x1_0 ∧ v2 = .int .i64 x2_0 ∧ Aside0 (spec_l15Root.l0 kq a0 x1_0 x2_0 = some r) ∧ Aside0 (kq ≤ k) ∧ Drawn0 w w')
 case atStart => exact ⟨(0), (100001), es, es, H', ⟨Nat.le_refl _⟩, by repeat (first | exact Drawn0.refl _ | apply Drawn0.step)⟩
 case round =>
  clear H'; obtain ⟨x1_0, x2_0, rfl, rfl, HA, HK1, ⟨m0, rfl⟩⟩ := hrel
  cases gk with
  | zero => exact absurd HA.1 (by simp [spec_l15Root.l0])
  | succ k1 =>
   have H := HA.1; clear HA; simp only [spec_l15Root.l0] at H
   by_cases c2 : (wrap64 (x1_0 + 1)) < x2_0
   ·rw [if_pos c2] at H; have c2b0 := decide_eq_true c2; clear c2; by_cases c3 : (wrap64 ((wrap64 (Int.tdiv (wrap64 (x1_0 + x2_0)) 2)) * (wrap64 (Int.tdiv (wrap64 (x1_0 + x2_0)) 2)))) ≤ a0
    ·rw [if_pos c3] at H; have c3b0 := decide_eq_true c3; clear c3; have H' := ak H; clear H; go_wp2
     go_roundg k1
     case measure => have := HK1.1; omega
     case rel => exact ⟨(wrap64 (Int.tdiv (wrap64 (x1_0 + x2_0)) 2)), (x2_0), es, es, H', ⟨by have := HK1.1; omega⟩, by repeat (first | exact Drawn0.refl _ | apply Drawn0.step)⟩
    ·rw [if_neg c3] at H; have c3b0 := decide_eq_false c3; clear c3; have H' := ak H; clear H; go_wp2
     go_roundg k1
     case measure => have := HK1.1; omega
     case rel => exact ⟨(x1_0), (wrap64 (Int.tdiv (wrap64 (x1_0 + x2_0)) 2)), es, es, H', ⟨by have := HK1.1; omega⟩, by repeat (first | exact Drawn0.refl _ | apply Drawn0.step)⟩
   ·rw [if_neg c2] at H; have c2b0 := decide_eq_false c2; clear c2; obtain rfl := sj H; go_wp2
    go_ret
    exact ⟨by first | rfl | (simp; done) | (simp [*]; done), by repeat (first | exact Drawn0.refl _ | apply Drawn0.step)⟩


/-! ### spec_GreatestGap: function 38 -/
mutual
def spec_GreatestGap.l0 : Nat → List (List Int) → Int → Int → List (S98) → List (S103) → List Int → List Int → List Int → Int → Option (Int × Int)
 | 0, _, _, _, _, _, _, _, _, _ => none
 | k + 1, x6, x14, x0, x18, x19, x20, x21, x22, x23 => if x0 < (x6.length : Int) then (spec_GreatestGap.l1 k x6 x14 x0 10000 0 x18 x19 x20 x21 x22 x23) else (some (x14, 0))
def spec_GreatestGap.l1 : Nat → List (List Int) → Int → Int → Int → Int → List (S98) → List (S103) → List Int → List Int → List Int → Int → Option (Int × Int)
 | 0, _, _, _, _, _, _, _, _, _, _, _ => none
 | k + 1, x6, x14, x0, x9, x7, x18, x19, x20, x21, x22, x23 => if 0 ≤ x0 then (if x0 < (x6.length : Int) then (if x7 < ((rd_L5 x6 x0).length : Int) then (spec_GreatestGap.l2 k x6 x14 x0 x9 x7 0 x18 x19 x20 x21 x22 x23) else (spec_GreatestGap.l0 k x6 (mx x14 x9) (wrap64 (x0 + 1)) x18 x19 x20 x21 x22 x23)) else (none)) else (none)
def spec_GreatestGap.l2 : Nat → List (List Int) → Int → Int → Int → Int → Int → List (S98) → List (S103) → List Int → List Int → List Int → Int → Option (Int × Int)
 | 0, _, _, _, _, _, _, _, _, _, _, _, _ => none
 | k + 1, x6, x14, x0, x9, x7, x10, x18, x19, x20, x21, x22, x23 => if x10 < x7 then (if 0 ≤ x0 then (if x0 < (x6.length : Int) then (if 0 ≤ x10 then (if x10 < ((rd_L5 x6 x0).length : Int) then (if 0 ≤ x7 then (if x7 < ((rd_L5 x6 x0).length : Int) then ((spec_l18Square.f x18 x19 x20 x21 x22 x23 (rd (rd_L5 x6 x0) x10) (rd (rd_L5 x6 x0) x7)).bind fun t25 => ((spec_l15Root.f k t25).bind fun t24 => (spec_GreatestGap.l2 k x6 x14 x0 (mn x9 t24) x7 (wrap64 (x10 + 1)) x18 x19 x20 x21 x22 x23))) else (none)) else (none)) else (none)) else (none)) else (none)) else (none)) else (spec_GreatestGap.l1 k x6 x14 x0 x9 (wrap64 (x7 + 1)) x18 x19 x20 x21 x22 x23)
end
def spec_GreatestGap.f (k : Nat) (l0_0 : List (S98)) (l0_1 : List (S103)) (l0_2 : List Int) (l0_3 : List Int) (l0_4 : List Int) (a0_5 : Int) : Option (Int × Int) := (spec_IsField.f k l0_0 l0_1 l0_2 l0_3 l0_4 a0_5).bind fun t30 => (if t30 = true then ((spec_l18Placings.f k l0_0 l0_1 l0_2 l0_3 l0_4 0).bind fun t4 => (if (t4.length : Int) = 0 then (some (0, 4)) else (spec_GreatestGap.l0 k t4 0 0 l0_0 l0_1 l0_2 l0_3 l0_4 0))) else (some (0, 1)))
def spec_GreatestGap.T18 : Bool × List (List Nat × List Nat) := (true, [([], []), ([], []), ([], []), ([], []), ([2, 3], [2, 3]), ([4], [4]), ([], []), ([5, 6], [5, 6]), ([7], [7]), ([], []), ([], []), ([9, 10], [9, 10]), ([11], [11]), ([], []), ([12, 13], [12, 13]), ([14], [14]), ([1, 8, 15], [1, 8, 15]), ([16, 16], [16]), ([0, 17], [0, 17]), ([18, 17, 0, 1, 2, 3, 4, 5, 6, 7, 8, 9, 10, 11, 12, 13, 14, 15, 16, 17, 18], [0, 18])])
def spec_GreatestGap.B18 : List Nat := [0, 0, 0, 0, 12, 28, 0, 124, 252, 0, 0, 1536, 3584, 0, 15872, 32256, 65534, 131070, 262143, 524287]
theorem spec_GreatestGap.tab18 : rtab .any (opsOf Try.f38 18) = spec_GreatestGap.T18 := by kernel_rfl
theorem spec_GreatestGap.bits18 : waitsOk spec_GreatestGap.T18.2 spec_GreatestGap.B18 = true := by kernel_rfl
set_option maxHeartbeats 8000000 in
set_option maxRecDepth 100000 in
theorem spec_GreatestGap.calls (k : Nat) (A0_0 : Option Addr) (c0_0 : Nat) (l0_0 : List (S98)) (A0_1 : Option Addr) (c0_1 : Nat) (l0_1 : List (S103)) (A0_2 : Option Addr) (c0_2 : Nat) (l0_2 : List Int) (A0_3 : Option Addr) (c0_3 : Nat) (l0_3 : List Int) (A0_4 : Option Addr) (c0_4 : Nat) (l0_4 : List Int) (a0_5 : Int) (r1 : Int) (r2 : Int) (w : World) (hr0_0 : Kd.C k98 w A0_0 l0_0.length l0_0) (hc0_0 : l0_0.length ≤ c0_0) (hr0_1 : Kd.C k103 w A0_1 l0_1.length l0_1) (hc0_1 : l0_1.length ≤ c0_1) (hr0_2 : Kd.C (Kd.int .i64) w A0_2 l0_2.length l0_2) (hc0_2 : l0_2.length ≤ c0_2) (hr0_3 : Kd.C (Kd.int .i64) w A0_3 l0_3.length l0_3) (hc0_3 : l0_3.length ≤ c0_3) (hr0_4 : Kd.C (Kd.int .i64) w A0_4 l0_4.length l0_4) (hc0_4 : l0_4.length ≤ c0_4) (h : spec_GreatestGap.f k l0_0 l0_1 l0_2 l0_3 l0_4 a0_5 = some (r1, r2)) :
  Calls Try.prog 38 #[.agg (f5 A0_0 l0_0 c0_0 A0_1 l0_1 c0_1 A0_2 l0_2 c0_2 A0_3 l0_3 c0_3 A0_4 l0_4 c0_4 a0_5)] w fun e w' => e = .returned (.tuple #[.int .i64 r1, .int .i64 r2]) ∧ Below w.heap.size w w' := by
 have hu33 := Try.underlying33; have HR0_0 := ak hr0_0; have HC0_0 := ak hc0_0; clear hr0_0 hc0_0; have HR0_1 := ak hr0_1; have HC0_1 := ak hc0_1; clear hr0_1 hc0_1; have HR0_2 := ak hr0_2; have HC0_2 := ak hc0_2; clear hr0_2 hc0_2; have HR0_3 := ak hr0_3; have HC0_3 := ak hc0_3; clear hr0_3 hc0_3; have HR0_4 := ak hr0_4; have HC0_4 := ak hc0_4; clear hr0_4 hc0_4; have HB := ak (Below.refl w.heap.size w); unfold spec_GreatestGap.f at h; have H := h; clear h; obtain ⟨t30, A2, H⟩ := bnk H; by_cases c3 : t30 = true
 subst c3; rw [if_pos rfl] at H; obtain ⟨t4, A4, H⟩ := bnk H; by_cases c5 : (t4.length : Int) = 0
 rw [if_pos c5] at H; obtain ⟨c5b0, c5b1⟩ := bqt c5; clear c5; simp only [Option.some.injEq, Prod.mk.injEq] at H
 obtain ⟨rfl, rfl⟩ := H; rotate_left
 ·rw [if_neg c5] at H; obtain ⟨c5b0, c5b1⟩ := bqf c5; have c5b2 : ¬ (t4 = []) := fun h_ => c5 (by rw [h_]; rfl)
  have H' := ak H; clear H; go_enter Try.func38, Try.ntmps38; go_wp2_with (first | ((with_reducible refine gate_dst (N := 1) rfl ?_); refine bx 1 (f5 A0_0 l0_0 c0_0 A0_1 l0_1 c0_1 A0_2 l0_2 c0_2 A0_3 l0_3 c0_3 A0_4 l0_4 c0_4 a0_5) 33 ?_; intro gb1 hg w12 hbox hb; have BK1 := ak hbox; have GW1233 := gw hg HB; have GE1 := gw hg HB; replace HB := bs HB hb; clear hb hbox hg; have hcz32 := cz6 BK1.1) | ((with_reducible refine at_fn (f := 58) rfl ?_); refine gl (some 11) Try.func58 #[.agg (f5 A0_0 l0_0 c0_0 A0_1 l0_1 c0_1 A0_2 l0_2 c0_2 A0_3 l0_3 c0_3 A0_4 l0_4 c0_4 a0_5)] ?_; (with_reducible refine (spec_IsField.calls k _ _ l0_0 _ _ l0_1 _ _ l0_2 _ _ l0_3 _ _ l0_4 a0_5 _ _ ?_ HC0_0.1 ?_ HC0_1.1 ?_ HC0_2.1 ?_ HC0_3.1 ?_ HC0_4.1 A2.1).mono ?_); exact vd HR0_0.1 HB.1; exact vd HR0_1.1 HB.1; exact vd HR0_2.1 HB.1; exact vd HR0_3.1 HB.1; exact vd HR0_4.1 HB.1; rintro e w14 ⟨rfl, hb⟩; refine ⟨_, rfl, ?_⟩; replace BK1 := kb BK1 hb; replace HB := bs HB hb; (try clear hb); have hcz33 := cz6 BK1.1) | ((with_reducible refine at_fn (f := 59) rfl ?_); refine gl (some 15) Try.func59 #[.agg (f5 A0_0 l0_0 c0_0 A0_1 l0_1 c0_1 A0_2 l0_2 c0_2 A0_3 l0_3 c0_3 A0_4 l0_4 c0_4 0)] ?_; (with_reducible refine (spec_l18Placings.calls k _ _ l0_0 _ _ l0_1 _ _ l0_2 _ _ l0_3 _ _ l0_4 0 t4 _ ?_ HC0_0.1 ?_ HC0_1.1 ?_ HC0_2.1 ?_ HC0_3.1 ?_ HC0_4.1 A4.1).mono ?_); exact Kd.C_below HR0_0.1 (vb HB.1); exact Kd.C_below HR0_1.1 (vb HB.1); exact Kd.C_below HR0_2.1 (vb HB.1); exact Kd.C_below HR0_3.1 (vb HB.1); exact Kd.C_below HR0_4.1 (vb HB.1); rintro e w16 ⟨v31, rfl, ho3, hb⟩; refine ⟨_, rfl, ?_⟩; have HO26 := ak (Kd.N_lower (Kd.N_mono (ok' := fun k_ => k_ ≠ gb1) ho3 (fun k_ hk_ => (Kd.freshB (g := gb1) (o := .cells (f5 A0_0 l0_0 c0_0 A0_1 l0_1 c0_1 A0_2 l0_2 c0_2 A0_3 l0_3 c0_3 A0_4 l0_4 c0_4 0) 33 (0, 0)) (vz BK1.1) k_ hk_))) (below_size (vb HB.1))); replace BK1 := ak (blk_below (g := gb1) (o := .cells (f5 A0_0 l0_0 c0_0 A0_1 l0_1 c0_1 A0_2 l0_2 c0_2 A0_3 l0_3 c0_3 A0_4 l0_4 c0_4 0) 33 (0, 0)) (vz BK1.1) hb); replace HB := bs HB hb; (try clear hb); (try clear ho3); obtain ⟨Ao17, co17, eo17⟩ := Kd.N_slice HO26.1; subst eo17))
  go_loopg [5, 6] k (fun kq v14 v0 w' => ∃ (x14_2 : Int) (x0_2 : Int), v14 = .int .i64 x14_2 ∧ v0 = .int .i64 x0_2 ∧ Aside0 (spec_GreatestGap.l0 kq t4 x14_2 x0_2 l0_0 l0_1 l0_2 l0_3 l0_4 0 = some (r1, r2)) ∧ Aside0 (kq ≤ k) ∧ Aside0 (Kd.N (Kd.slice 2 (Kd.int .i64)) 24 w' w.heap.size (fun k_ => k_ ≠ gb1) (.slice Ao17 t4.length co17) t4) ∧ Aside0 (w'.heap[gb1]? = some (.cells (f5 A0_0 l0_0 c0_0 A0_1 l0_1 c0_1 A0_2 l0_2 c0_2 A0_3 l0_3 c0_3 A0_4 l0_4 c0_4 0) 33 (0, 0))) ∧ Aside0 (Below w.heap.size w w'))
  case atStart => exact ⟨(0), (0), es, es, H', ⟨Nat.le_refl _⟩, ⟨vN HO26.1⟩, ⟨vk BK1.1⟩, ⟨vb HB.1⟩⟩
  case round =>
   clear H'; obtain ⟨x14_2, x0_2, rfl, rfl, HA, HK1, HO_6, BK1, HB⟩ := hrel
   cases gk with
   | zero => exact absurd HA.1 (by simp [spec_GreatestGap.l0])
   | succ k1 =>
    have H := HA.1; clear HA; simp only [spec_GreatestGap.l0] at H
    by_cases c18 : x0_2 < (t4.length : Int)
    ·rw [if_pos c18] at H; have c18b0 := decide_eq_true c18; clear c18; have H' := ak H; clear H; go_wp2
     go_loopg [7, 8] k1 (fun kq v9 v7 w' => ∃ (x9_8 : Int) (x7_8 : Int), v9 = .int .i64 x9_8 ∧ v7 = .int .i64 x7_8 ∧ Aside0 (spec_GreatestGap.l1 kq t4 x14_2 x0_2 x9_8 x7_8 l0_0 l0_1 l0_2 l0_3 l0_4 0 = some (r1, r2)) ∧ Aside0 (kq ≤ k1) ∧ Aside0 (Kd.N (Kd.slice 2 (Kd.int .i64)) 24 w' w.heap.size (fun k_ => k_ ≠ gb1) (.slice Ao17 t4.length co17) t4) ∧ Aside0 (w'.heap[gb1]? = some (.cells (f5 A0_0 l0_0 c0_0 A0_1 l0_1 c0_1 A0_2 l0_2 c0_2 A0_3 l0_3 c0_3 A0_4 l0_4 c0_4 0) 33 (0, 0))) ∧ Aside0 (Below w.heap.size w w'))
     case atStart => exact ⟨(10000), (0), es, es, H', ⟨Nat.le_refl _⟩, ⟨vN HO_6.1⟩, ⟨vk BK1.1⟩, ⟨vb HB.1⟩⟩
     case round =>
      clear H'; obtain ⟨x9_8, x7_8, rfl, rfl, HA, HK2, HO_6, BK1, HB⟩ := hrel
      cases gk with
      | zero => exact absurd HA.1 (by simp [spec_GreatestGap.l1])
      | succ k2 =>
       have H := HA.1; clear HA; simp only [spec_GreatestGap.l1] at H
       by_cases c19 : 0 ≤ x0_2
       ·rw [if_pos c19] at H; have c19b0 := decide_eq_true c19; clear c19; by_cases c20 : x0_2 < (t4.length : Int)
        ·rw [if_pos c20] at H; have c20b0 := decide_eq_true c20; clear c20; by_cases c21 : x7_8 < ((rd_L5 t4 x0_2).length : Int)
         ·rw [if_pos c21] at H; have c21b0 := decide_eq_true c21; clear c21; have H' := ak H; clear H; have p5 : 0 ≤ (x0_2 : Int) := od; have q5 : x0_2 < (t4.length : Int) := od; obtain ⟨ad5, A1238_0, c1238_0, e5, hx5_3, hl1238_0, hi1238_0⟩ := at_L5 (Kd.N_reads' HO_6.1).2.2 x0_2 p5 q5
          cases e5; obtain ⟨ce1238, hce1238, hMe1238, hcc1238⟩ := Kd.N_get HO_6.1 [] x0_2 p5 (by first | exact q5 | exact od | (have e_ := (Kd.N_reads' HO_6.1).1; omega)); obtain ⟨ua1238_0, uc1238_0, rfl, ul1238_0, ge1238_0⟩ := Kd.FK_slice_open hMe1238; have hv5_3 := hcc1238 0 _ rfl; rw [Nat.add_zero, show ((Kd.slice 2 (Kd.int .i64))).sz = 1 from rfl, Nat.mul_one] at hv5_3; replace hv5_3 := Option.some.inj (hv5_3.symm.trans hx5_3); injection hv5_3 with hva_ hvn_ hvc_
          rw [hva_] at ge1238_0; rw [hvc_] at ul1238_0; have HL1238_0 := ak (show Kd.V (Kd.int .i64) 2 _ w.heap.size _ _ (rd_L5 t4 x0_2) from Kd.V_mk ul1238_0 ge1238_0); clear hva_ hvn_ hvc_ ge1238_0 ul1238_0; clear hcc1238 hce1238; have HR1238_0 := ak hi1238_0; have HC1238_0 := ak hl1238_0; clear hi1238_0 hl1238_0; replace p5 := eq_true p5; replace q5 := eq_true q5; go_wp2
          go_loopg [7, 9] k2 (fun kq v9 v10 w' => ∃ (x9_11 : Int) (x10_11 : Int), v9 = .int .i64 x9_11 ∧ v10 = .int .i64 x10_11 ∧ Aside0 (spec_GreatestGap.l2 kq t4 x14_2 x0_2 x9_11 x7_8 x10_11 l0_0 l0_1 l0_2 l0_3 l0_4 0 = some (r1, r2)) ∧ Aside0 (kq ≤ k2) ∧ Aside0 (Kd.N (Kd.slice 2 (Kd.int .i64)) 24 w' w.heap.size (fun k_ => k_ ≠ gb1) (.slice (some ad5) t4.length co17) t4) ∧ Aside0 (w'.heap[gb1]? = some (.cells (f5 A0_0 l0_0 c0_0 A0_1 l0_1 c0_1 A0_2 l0_2 c0_2 A0_3 l0_3 c0_3 A0_4 l0_4 c0_4 0) 33 (0, 0))) ∧ Aside0 (Kd.C (Kd.int .i64) w' A1238_0 (rd_L5 t4 x0_2).length (rd_L5 t4 x0_2)) ∧ Aside0 (Below w.heap.size w w'))
          case atStart => exact ⟨(x9_8), (0), es, es, H', ⟨Nat.le_refl _⟩, ⟨vN HO_6.1⟩, ⟨vk BK1.1⟩, ⟨by repeat (first | (with_reducible exact HR1238_0.1) | (with_reducible refine Kd.C_alloc ?_ _) | (with_reducible refine Kd.C_drewN ?_ _) | (with_reducible refine Kd.C_drew ?_) | exact HR1238_0.1)⟩, ⟨vb HB.1⟩⟩
          case round =>
           clear H'; obtain ⟨x9_11, x10_11, rfl, rfl, HA, HK3, HO_6, BK1, HR1238_0, HB⟩ := hrel
           cases gk with
           | zero => exact absurd HA.1 (by simp [spec_GreatestGap.l2])
           | succ k3 =>
            have H := HA.1; clear HA; simp only [spec_GreatestGap.l2] at H
            by_cases c22 : x10_11 < x7_8
            ·rw [if_pos c22] at H; have c22b0 := decide_eq_true c22; clear c22; by_cases c23 : 0 ≤ x0_2
             ·rw [if_pos c23] at H; have c23b0 := decide_eq_true c23; clear c23; by_cases c24 : x0_2 < (t4.length : Int)
              ·rw [if_pos c24] at H; have c24b0 := decide_eq_true c24; clear c24; by_cases c25 : 0 ≤ x10_11
               ·rw [if_pos c25] at H; have c25b0 := decide_eq_true c25; clear c25; by_cases c26 : x10_11 < ((rd_L5 t4 x0_2).length : Int)
                ·rw [if_pos c26] at H; have c26b0 := decide_eq_true c26; clear c26; by_cases c27 : 0 ≤ x7_8
                 ·rw [if_pos c27] at H; have c27b0 := decide_eq_true c27; clear c27; by_cases c28 : x7_8 < ((rd_L5 t4 x0_2).length : Int)
                  ·rw [if_pos c28] at H; have c28b0 := decide_eq_true c28; clear c28; obtain ⟨t25, A29, H⟩ := bnk H; obtain ⟨t24, A30, H⟩ := bnk H; obtain ⟨ji27, hji31⟩ : ∃ j_ : Int, (mn x9_11 t24) = j_ := ⟨_, rfl⟩; replace H : (spec_GreatestGap.l2 k3 t4 x14_2 x0_2 ji27 x7_8 (wrap64 (x10_11 + 1)) l0_0 l0_1 l0_2 l0_3 l0_4 0) = some (r1, r2) := by first | (rw [hji31] at H; exact H) | (simp only [hji31] at H ⊢; exact H)
                   (try rw [hji31] at A29)
                   (try rw [hji31] at A30)
                   have hji31_ : (if t24 < x9_11 then t24 else x9_11) = ji27 := hji31; have H' := ak H; clear H; (try go_wp2)
                   replace HO_6 := ak (Kd.N_drew HO_6.1); replace BK1 := ak (blk_drew BK1.1); replace HR1238_0 := ak (Kd.C_drew HR1238_0.1); replace HB := ak (below_drew1 HB.1); have p12 : 0 ≤ (x0_2 : Int) := od; have q12 : x0_2 < (t4.length : Int) := od; obtain ⟨ad12, A1239_0, c1239_0, e12, hx12_3, hl1239_0, hi1239_0⟩ := at_L5 (Kd.N_reads' HO_6.1).2.2 x0_2 p12 q12; obtain rfl : ad5 = ad12 := (by injection e12); obtain ⟨ce1239, hce1239, hMe1239, hcc1239⟩ := Kd.N_get HO_6.1 [] x0_2 p12 (by first | exact q12 | exact od | (have e_ := (Kd.N_reads' HO_6.1).1; omega)); obtain ⟨ua1239_0, uc1239_0, rfl, ul1239_0, ge1239_0⟩ := Kd.FK_slice_open hMe1239; have hv12_3 := hcc1239 0 _ rfl; rw [Nat.add_zero, show ((Kd.slice 2 (Kd.int .i64))).sz = 1 from rfl, Nat.mul_one] at hv12_3; replace hv12_3 := Option.some.inj (hv12_3.symm.trans hx12_3); injection hv12_3 with hva_ hvn_ hvc_
                   rw [hva_] at ge1239_0; rw [hvc_] at ul1239_0; have HL1239_0 := ak (show Kd.V (Kd.int .i64) 2 _ w.heap.size _ _ (rd_L5 t4 x0_2) from Kd.V_mk ul1239_0 ge1239_0); clear hva_ hvn_ hvc_ ge1239_0 ul1239_0; clear hcc1239 hce1239; have HR1239_0 := ak hi1239_0; have HC1239_0 := ak hl1239_0; clear hi1239_0 hl1239_0; replace p12 := eq_true p12; replace q12 := eq_true q12; have p15 : 0 ≤ (x10_11 : Int) := od; have q15 : x10_11 < ((rd_L5 t4 x0_2).length : Int) := od; obtain ⟨ad15, e15, hx15_3⟩ := Kd.at_int (by repeat (first | (with_reducible exact HR1239_0.1) | (with_reducible refine Kd.C_alloc ?_ _) | (with_reducible refine Kd.C_drewN ?_ _) | (with_reducible refine Kd.C_drew ?_) | exact HR1239_0.1)) x10_11 p15 q15
                   cases e15; replace p15 := eq_true p15; replace q15 := eq_true q15; have p13 : 0 ≤ (x0_2 : Int) := od; have q13 : x0_2 < (t4.length : Int) := od; obtain ⟨ad13, A1241_0, c1241_0, e13, hx13_3, hl1241_0, hi1241_0⟩ := at_L5 (Kd.N_reads' HO_6.1).2.2 x0_2 p13 q13; obtain rfl : ad5 = ad13 := (by injection e13); obtain ⟨ce1241, hce1241, hMe1241, hcc1241⟩ := Kd.N_get HO_6.1 [] x0_2 p13 (by first | exact q13 | exact od | (have e_ := (Kd.N_reads' HO_6.1).1; omega)); obtain ⟨ua1241_0, uc1241_0, rfl, ul1241_0, ge1241_0⟩ := Kd.FK_slice_open hMe1241; have hv13_3 := hcc1241 0 _ rfl; rw [Nat.add_zero, show ((Kd.slice 2 (Kd.int .i64))).sz = 1 from rfl, Nat.mul_one] at hv13_3; replace hv13_3 := Option.some.inj (hv13_3.symm.trans hx13_3); injection hv13_3 with hva_ hvn_ hvc_
                   rw [hva_] at ge1241_0; rw [hvc_] at ul1241_0; have HL1241_0 := ak (show Kd.V (Kd.int .i64) 2 _ w.heap.size _ _ (rd_L5 t4 x0_2) from Kd.V_mk ul1241_0 ge1241_0); clear hva_ hvn_ hvc_ ge1241_0 ul1241_0; clear hcc1241 hce1241; have HR1241_0 := ak hi1241_0; have HC1241_0 := ak hl1241_0; clear hi1241_0 hl1241_0; replace p13 := eq_true p13; replace q13 := eq_true q13; have ea_ := Option.some.inj (hx12_3.symm.trans hx13_3); injection ea_ with ea_ en_ ec_
                   subst ea_; subst ec_; clear en_; have p16 : 0 ≤ (x7_8 : Int) := od; have q16 : x7_8 < ((rd_L5 t4 x0_2).length : Int) := od; obtain ⟨ad16, e16, hx16_3⟩ := Kd.at_int (by repeat (first | (with_reducible exact HR1241_0.1) | (with_reducible refine Kd.C_alloc ?_ _) | (with_reducible refine Kd.C_drewN ?_ _) | (with_reducible refine Kd.C_drew ?_) | exact HR1241_0.1)) x7_8 p16 q16
                   cases e16; replace p16 := eq_true p16; replace q16 := eq_true q16; refine start_ (n := 20) (S := fun w' => w'.cell? ⟨gb1, 0, none⟩ = some (.slice A0_0 l0_0.length c0_0) ∧ w'.cell? ⟨gb1, 1, none⟩ = some (.slice A0_1 l0_1.length c0_1) ∧ w'.cell? ⟨gb1, 2, none⟩ = some (.slice A0_2 l0_2.length c0_2) ∧ w'.cell? ⟨gb1, 3, none⟩ = some (.slice A0_3 l0_3.length c0_3) ∧ w'.cell? ⟨gb1, 4, none⟩ = some (.slice A0_4 l0_4.length c0_4) ∧ w'.cell? ⟨gb1, 5, none⟩ = some (.int .i64 0) ∧ w'.cell? (ad5.add (x0_2).toNat) = some (.slice (some ad15) (rd_L5 t4 x0_2).length c1239_0) ∧ w'.cell? (ad15.add (x10_11).toNat) = some (.int .i64 (rd (rd_L5 t4 x0_2) x10_11)) ∧ w'.cell? (ad5.add (x0_2).toNat) = some (.slice (some ad15) (rd_L5 t4 x0_2).length c1239_0) ∧ w'.cell? (ad15.add (x7_8).toNat) = some (.int .i64 (rd (rd_L5 t4 x0_2) x7_8))) (ds := []) (tf 0 20) (by kernel_rfl) rfl rfl ⟨bk BK1.1 0, bk BK1.1 1, bk BK1.1 2, bk BK1.1 3, bk BK1.1 4, bk BK1.1 5, hx12_3, hx15_3, hx13_3, hx16_3⟩ (fun hHeld => ?_); refine with_tabW spec_GreatestGap.tab18 spec_GreatestGap.bits18 (fun HT_ HW_ => ?_); generalize wr.drew = w32 at HO_6 BK1 HR1238_0 HB HL1239_0 HL1241_0 HR1239_0 HR1241_0 hx12_3 hx15_3 hx13_3 hx16_3 hHeld ⊢; refine pu_ 0 39 (tf 1 19) rfl rfl ?_; refine pu_ 2 41 (tM [1, 1, 1, 17]) rfl rfl ?_
                   refine pu_ 3 42 (tM [1, 1, 2, 16]) rfl rfl ?_; refine pu_ 4 43 (tM [1, 1, 3, 15]) rfl rfl ?_; refine pu_ 6 45 (tM [1, 1, 3, 1, 1, 13]) rfl rfl ?_; refine pu_ 9 48 (tM [1, 1, 3, 1, 1, 2, 1, 10]) rfl rfl ?_; refine pu_ 10 49 (tM [1, 1, 3, 1, 1, 2, 2, 9]) rfl rfl ?_; refine pu_ 11 50 (tM [1, 1, 3, 1, 1, 2, 3, 8]) rfl rfl ?_; refine pu_ 13 52 (tM [1, 1, 3, 1, 1, 2, 3, 1, 1, 6]) rfl rfl ?_; refine ta10_ 1 40 (tM [5, 1, 1, 2, 3, 1, 1, 6]) rfl rfl ?_; refine ta10_ 5 44 (tM [7, 2, 3, 1, 1, 6]) rfl rfl ?_; refine pu_ 7 46 (tM [8, 1, 3, 1, 1, 6]) rfl rfl ?_
                   refine ta10_ 8 47 (tM [12, 1, 1, 6]) rfl rfl ?_; refine ta10_ 12 51 (tf 14 6) rfl rfl ?_; refine pu_ 14 53 (tf 15 5) rfl rfl ?_; refine ta10_ 15 54 (tf 16 4) rfl rfl ?_; refine one_ (i := 16) (N := some 55) (tf 17 3) rfl rfl (one_of HT_.1 (by kernel_rfl)) (by decide) (fun K hK => ?_); refine goes_ Try.func87 (by kernel_rfl) rfl #[.agg (f5 A0_0 l0_0 c0_0 A0_1 l0_1 c0_1 A0_2 l0_2 c0_2 A0_3 l0_3 c0_3 A0_4 l0_4 c0_4 0), .int .i64 (rd (rd_L5 t4 x0_2) x10_11), .int .i64 (rd (rd_L5 t4 x0_2) x7_8)] (by rfl) rfl rfl (by (try simp only [List.map_toArray, List.map_cons, List.map_nil]); first | done | rfl | (simp only [List.length_drop, List.length_take]; rfl)) ?_; with_reducible refine (spec_l18Square.calls _ _ l0_0 _ _ l0_1 _ _ l0_2 _ _ l0_3 _ _ l0_4 0 (rd (rd_L5 t4 x0_2) x10_11) (rd (rd_L5 t4 x0_2) x7_8) t25 _ ?_ ?_ ?_ ?_ ?_ ?_ ?_ ?_ ?_ ?_ A29.1).mono ?_
                   exact vd HR0_0.1 HB.1
                   exact HC0_0.1
                   exact vd HR0_1.1 HB.1
                   exact HC0_1.1
                   exact vd HR0_2.1 HB.1
                   exact HC0_2.1
                   exact vd HR0_3.1 HB.1
                   exact HC0_3.1
                   exact vd HR0_4.1 HB.1
                   exact HC0_4.1
                   rintro e w33 ⟨rfl, hb⟩; have HS6_ := (hb.cell (World.block_lt_of_cell? _ _ (hHeld.2.2.2.2.2.2.1))).trans (hHeld.2.2.2.2.2.2.1); have HS7_ := (hb.cell (World.block_lt_of_cell? _ _ (hHeld.2.2.2.2.2.2.2.1))).trans (hHeld.2.2.2.2.2.2.2.1); have HS8_ := (hb.cell (World.block_lt_of_cell? _ _ (hHeld.2.2.2.2.2.2.2.2.1))).trans (hHeld.2.2.2.2.2.2.2.2.1); have HS9_ := (hb.cell (World.block_lt_of_cell? _ _ (hHeld.2.2.2.2.2.2.2.2.2))).trans (hHeld.2.2.2.2.2.2.2.2.2); refine ⟨_, rfl, ?_⟩; replace HO_6 := ak (Kd.N_below (vN HO_6.1) hb); replace HL1239_0 := ak (Kd.V_below (vV HL1239_0.1) hb); replace HL1241_0 := ak (Kd.V_below (vV HL1241_0.1) hb); replace BK1 := kb BK1 hb; replace HR1238_0 := ak (Kd.C_below (by repeat (first | (with_reducible exact HR1238_0.1) | (with_reducible refine Kd.C_alloc ?_ _) | (with_reducible refine Kd.C_drewN ?_ _) | (with_reducible refine Kd.C_drew ?_) | exact HR1238_0.1)) hb); replace HR1239_0 := ak (Kd.C_below (by repeat (first | (with_reducible exact HR1239_0.1) | (with_reducible refine Kd.C_alloc ?_ _) | (with_reducible refine Kd.C_drewN ?_ _) | (with_reducible refine Kd.C_drew ?_) | exact HR1239_0.1)) hb)
                   replace HR1241_0 := ak (Kd.C_below (by repeat (first | (with_reducible exact HR1241_0.1) | (with_reducible refine Kd.C_alloc ?_ _) | (with_reducible refine Kd.C_drewN ?_ _) | (with_reducible refine Kd.C_drew ?_) | exact HR1241_0.1)) hb); replace HB := bs HB hb; (try clear hb)
                   (try clear hb2)
                   (try clear hk)
                   (try clear hi)
                   refine hK.out _ _ ⟨bk BK1.1 0, bk BK1.1 1, bk BK1.1 2, bk BK1.1 3, bk BK1.1 4, bk BK1.1 5, HS6_, HS7_, HS8_, HS9_⟩ (fun hHeld => ?_); clear hK K; refine norm_ (a' := ?_) ?_ ?_
                   rotate_left
                   ·show Act.put _ (some 55) _ = _
                    simp only [Act.put, List.setIfInBounds_toArray, List.set_cons_zero, List.set_cons_succ, i64_w, i32_w]
                    rfl
                   refine one_ (i := 17) (N := some 56) (tf 18 2) rfl rfl (one_of HT_.1 (by kernel_rfl)) (by decide) (fun K hK => ?_); refine goes_ Try.func86 (by kernel_rfl) rfl #[.int .i64 t25] (by rfl) rfl rfl (by (try simp only [List.map_toArray, List.map_cons, List.map_nil]); first | done | rfl | (simp only [List.length_drop, List.length_take]; rfl)) ?_; with_reducible refine (spec_l15Root.calls k3 t25 t24 _ A30.1).mono ?_
                   rintro e w' ⟨rfl, ⟨nd, rfl⟩⟩; refine ⟨_, rfl, ?_⟩; refine hK.out _ _ ⟨bk BK1.1 0, bk BK1.1 1, bk BK1.1 2, bk BK1.1 3, bk BK1.1 4, bk BK1.1 5, hHeld.2.2.2.2.2.2.1, hHeld.2.2.2.2.2.2.2.1, hHeld.2.2.2.2.2.2.2.2.1, hHeld.2.2.2.2.2.2.2.2.2⟩ (fun hHeld => ?_); clear hK K; refine norm_ (a' := ?_) ?_ ?_
                   rotate_left
                   ·show Act.put _ (some 56) _ = _
                    simp only [Act.put, List.setIfInBounds_toArray, List.set_cons_zero, List.set_cons_succ, i64_w, i32_w]
                    rfl
                   refine pu_ 18 57 (tf 19 1) rfl rfl ?_; refine pu_ 19 7 (tf 20 0) rfl rfl ?_; refine done_ (done_of HT_.1 (by kernel_rfl)) ?_; (try go_wp2)
                   go_roundg k3
                   case measure => have := HK1.1; have := HK2.1; have := HK3.1; omega
                   case rel => exact ⟨(ji27), (wrap64 (x10_11 + 1)), (by first | rfl | (simp; done) | (simp only [← hji31] <;> (first | rfl | simp)) | (simp [*]; done)), es, H', ⟨by have := HK1.1; have := HK2.1; have := HK3.1; omega⟩, ⟨vN HO_6.1⟩, ⟨vk BK1.1⟩, ⟨by repeat (first | (with_reducible exact HR1238_0.1) | (with_reducible refine Kd.C_alloc ?_ _) | (with_reducible refine Kd.C_drewN ?_ _) | (with_reducible refine Kd.C_drew ?_) | exact HR1238_0.1)⟩, ⟨vb HB.1⟩⟩
                  ·exact nO_ c28 H
                 ·exact nO_ c27 H
                ·exact nO_ c26 H
               ·exact nO_ c25 H
              ·exact nO_ c24 H
             ·exact nO_ c23 H
            ·rw [if_neg c22] at H; have c22b0 := decide_eq_false c22; clear c22; have H' := ak H; clear H; go_wp2
             go_roundg k3
             case measure => have := HK1.1; have := HK2.1; have := HK3.1; omega
             case rel => exact ⟨(x9_11), (wrap64 (x7_8 + 1)), es, es, H', ⟨by have := HK1.1; have := HK2.1; have := HK3.1; omega⟩, ⟨vN HO_6.1⟩, ⟨vk BK1.1⟩, ⟨vb HB.1⟩⟩
         ·rw [if_neg c21] at H; have c21b0 := decide_eq_false c21; clear c21; obtain ⟨ji28, hji34⟩ : ∃ j_ : Int, (mx x14_2 x9_8) = j_ := ⟨_, rfl⟩; replace H : (spec_GreatestGap.l0 k2 t4 ji28 (wrap64 (x0_2 + 1)) l0_0 l0_1 l0_2 l0_3 l0_4 0) = some (r1, r2) := by first | (rw [hji34] at H; exact H) | (simp only [hji34] at H ⊢; exact H)
          have hji34_ : (if x14_2 < x9_8 then x9_8 else x14_2) = ji28 := hji34; have H' := ak H; clear H; have p5 : 0 ≤ (x0_2 : Int) := od; have q5 : x0_2 < (t4.length : Int) := od; obtain ⟨ad5, A1238_0, c1238_0, e5, hx5_3, hl1238_0, hi1238_0⟩ := at_L5 (Kd.N_reads' HO_6.1).2.2 x0_2 p5 q5
          cases e5; obtain ⟨ce1238, hce1238, hMe1238, hcc1238⟩ := Kd.N_get HO_6.1 [] x0_2 p5 (by first | exact q5 | exact od | (have e_ := (Kd.N_reads' HO_6.1).1; omega)); obtain ⟨ua1238_0, uc1238_0, rfl, ul1238_0, ge1238_0⟩ := Kd.FK_slice_open hMe1238; have hv5_3 := hcc1238 0 _ rfl; rw [Nat.add_zero, show ((Kd.slice 2 (Kd.int .i64))).sz = 1 from rfl, Nat.mul_one] at hv5_3; replace hv5_3 := Option.some.inj (hv5_3.symm.trans hx5_3); injection hv5_3 with hva_ hvn_ hvc_
          rw [hva_] at ge1238_0; rw [hvc_] at ul1238_0; have HL1238_0 := ak (show Kd.V (Kd.int .i64) 2 _ w.heap.size _ _ (rd_L5 t4 x0_2) from Kd.V_mk ul1238_0 ge1238_0); clear hva_ hvn_ hvc_ ge1238_0 ul1238_0; clear hcc1238 hce1238; have HR1238_0 := ak hi1238_0; have HC1238_0 := ak hl1238_0; clear hi1238_0 hl1238_0; replace p5 := eq_true p5; replace q5 := eq_true q5; go_wp2
          go_roundg k2
          case measure => have := HK1.1; have := HK2.1; omega
          case rel => exact ⟨(ji28), (wrap64 (x0_2 + 1)), (by first | rfl | (simp; done) | (simp only [← hji34] <;> (first | rfl | simp)) | (simp [*]; done)), es, H', ⟨by have := HK1.1; have := HK2.1; omega⟩, ⟨vN HO_6.1⟩, ⟨vk BK1.1⟩, ⟨vb HB.1⟩⟩
        ·exact nO_ c20 H
       ·exact nO_ c19 H
    ·rw [if_neg c18] at H; have c18b0 := decide_eq_false c18; clear c18; simp only [Option.some.injEq, Prod.mk.injEq] at H
     obtain ⟨rfl, rfl⟩ := H; go_wp2
     go_ret2
     exact ⟨ew, vb HB.1⟩
 replace c3 := Bool.eq_false_iff.mpr c3; subst c3; rw [if_neg nf] at H; simp only [Option.some.injEq, Prod.mk.injEq] at H
 obtain ⟨rfl, rfl⟩ := H; rotate_left
 all_goals
  go_enter Try.func38, Try.ntmps38; go_wp2_with (first | ((with_reducible refine gate_dst (N := 1) rfl ?_); refine bx 1 (f5 A0_0 l0_0 c0_0 A0_1 l0_1 c0_1 A0_2 l0_2 c0_2 A0_3 l0_3 c0_3 A0_4 l0_4 c0_4 a0_5) 33 ?_; intro gb1 hg w9 hbox hb; have BK1 := ak hbox; have GW1233 := gw hg HB; have GE1 := gw hg HB; replace HB := bs HB hb; clear hb hbox hg; have hcz10 := cz6 BK1.1) | ((with_reducible refine at_fn (f := 58) rfl ?_); refine gl (some 11) Try.func58 #[.agg (f5 A0_0 l0_0 c0_0 A0_1 l0_1 c0_1 A0_2 l0_2 c0_2 A0_3 l0_3 c0_3 A0_4 l0_4 c0_4 a0_5)] ?_; (with_reducible refine (spec_IsField.calls k _ _ l0_0 _ _ l0_1 _ _ l0_2 _ _ l0_3 _ _ l0_4 a0_5 _ _ ?_ HC0_0.1 ?_ HC0_1.1 ?_ HC0_2.1 ?_ HC0_3.1 ?_ HC0_4.1 A2.1).mono ?_); exact vd HR0_0.1 HB.1; exact vd HR0_1.1 HB.1; exact vd HR0_2.1 HB.1; exact vd HR0_3.1 HB.1; exact vd HR0_4.1 HB.1; rintro e w9 ⟨rfl, hb⟩; refine ⟨_, rfl, ?_⟩; replace BK1 := kb BK1 hb; replace HB := bs HB hb; (try clear hb); have hcz10 := cz6 BK1.1) | ((with_reducible refine at_fn (f := 59) rfl ?_); refine gl (some 15) Try.func59 #[.agg (f5 A0_0 l0_0 c0_0 A0_1 l0_1 c0_1 A0_2 l0_2 c0_2 A0_3 l0_3 c0_3 A0_4 l0_4 c0_4 0)] ?_; (with_reducible refine (spec_l18Placings.calls k _ _ l0_0 _ _ l0_1 _ _ l0_2 _ _ l0_3 _ _ l0_4 0 t4 _ ?_ HC0_0.1 ?_ HC0_1.1 ?_ HC0_2.1 ?_ HC0_3.1 ?_ HC0_4.1 A4.1).mono ?_); exact Kd.C_below HR0_0.1 (vb HB.1); exact Kd.C_below HR0_1.1 (vb HB.1); exact Kd.C_below HR0_2.1 (vb HB.1); exact Kd.C_below HR0_3.1 (vb HB.1); exact Kd.C_below HR0_4.1 (vb HB.1); rintro e w9 ⟨v31, rfl, ho3, hb⟩; refine ⟨_, rfl, ?_⟩; have HO26 := ak (Kd.N_lower (Kd.N_mono (ok' := fun k_ => k_ ≠ gb1) ho3 (fun k_ hk_ => (Kd.freshB (g := gb1) (o := .cells (f5 A0_0 l0_0 c0_0 A0_1 l0_1 c0_1 A0_2 l0_2 c0_2 A0_3 l0_3 c0_3 A0_4 l0_4 c0_4 0) 33 (0, 0)) (vz BK1.1) k_ hk_))) (below_size (vb HB.1))); replace BK1 := ak (blk_below (g := gb1) (o := .cells (f5 A0_0 l0_0 c0_0 A0_1 l0_1 c0_1 A0_2 l0_2 c0_2 A0_3 l0_3 c0_3 A0_4 l0_4 c0_4 0) 33 (0, 0)) (vz BK1.1) hb); replace HB := bs HB hb; (try clear hb); (try clear ho3); obtain ⟨Ao29, co29, eo29⟩ := Kd.N_slice HO26.1; subst eo29))
  go_ret2
  exact ⟨ew, vb HB.1⟩


/-! ### impl_floorDiv: function 88 -/
def impl_floorDiv.f (a0 : Int) (a1 : Int) : Option (Int) := if a1 = 0 then (none) else (if (Int.tmod a0 a1) < 0 then (some (wrap64 ((wrap64 (Int.tdiv a0 a1)) - 1))) else (some (wrap64 (Int.tdiv a0 a1))))
set_option maxHeartbeats 8000000 in
set_option maxRecDepth 100000 in
theorem impl_floorDiv.calls (a0 : Int) (a1 : Int) (r : Int) (w : World) (h : impl_floorDiv.f a0 a1 = some r) :
  Calls Try.prog 88 #[.int .i64 a0, .int .i64 a1] w fun e w' => e = .returned (.int .i64 r) ∧ Drawn0 w w' := by
 unfold impl_floorDiv.f at h; have H := h; clear h; by_cases c3 : a1 = 0
 ·rw [if_pos c3] at H; exact absurd H (by simp)
 rw [if_neg c3] at H; obtain ⟨c3b0, c3b1⟩ := bqf c3; by_cases c4 : (Int.tmod a0 a1) < 0
 rw [if_pos c4] at H; have c4b0 := decide_eq_true c4; clear c4; obtain rfl := sj H; rotate_left
 rw [if_neg c4] at H; have c4b0 := decide_eq_false c4; clear c4; obtain rfl := sj H; rotate_left
 all_goals
  go_enter Try.func88, Try.ntmps88; go_wp2
  go_ret
  exact ⟨by first | rfl | (simp; done) | (simp [*]; done), by repeat (first | exact Drawn0.refl _ | apply Drawn0.step)⟩


end Go.Proofs.Ytancnecddlbhkaa.Pall
