/- Go functions of the program, each as a Lean function, and the proof that each call comes to what the Lean function tells; no condition beyond those that stand there. -/
import Derived.Test.YtancnecddlbhkaaF00
import Derived.Test.YtancnecddlbhkaaCm
import Derived.Test.YtancnecddlbhkaaCm3
import Derived.Test.YtancnecddlbhkaaCm6
namespace Go.Proofs.Ytancnecddlbhkaa.Pall
open Go.RowKit Go.Proofs.YtancnecddlbhkaaW.PrintWords
set_option linter.unusedVariables false
set_option linter.unusedSimpArgs false

/-! ### spec_l18Cost: function 76 -/
def spec_l18Cost.l0 : Nat → List Int → Int → Int → List (S98) → List (S103) → List Int → List Int → List Int → Int → Option (Int)
 | 0, _, _, _, _, _, _, _, _, _ => none
 | k + 1, x0, x8, x1, x11, x12, x13, x9, x10, x14 => if x1 < (x0.length : Int) then (if 0 ≤ x1 then (if 0 ≤ (rd x0 x1) then (if (rd x0 x1) < (x9.length : Int) then (if (rd x0 x1) < (x10.length : Int) then (spec_l18Cost.l0 k x0 (wrap64 ((wrap64 (x8 + (rd x9 (rd x0 x1)))) + (rd x10 (rd x0 x1)))) (wrap64 (x1 + 1)) x11 x12 x13 x9 x10 x14) else (none)) else (none)) else (none)) else (none)) else (some x8)
def spec_l18Cost.f (k : Nat) (l0_0 : List (S98)) (l0_1 : List (S103)) (l0_2 : List Int) (l0_3 : List Int) (l0_4 : List Int) (a0_5 : Int) (l1 : List Int) : Option (Int) := spec_l18Cost.l0 k l1 0 0 l0_0 l0_1 l0_2 l0_3 l0_4 a0_5
set_option maxHeartbeats 8000000 in
set_option maxRecDepth 100000 in
theorem spec_l18Cost.calls (k : Nat) (A0_0 : Option Addr) (c0_0 : Nat) (l0_0 : List (S98)) (A0_1 : Option Addr) (c0_1 : Nat) (l0_1 : List (S103)) (A0_2 : Option Addr) (c0_2 : Nat) (l0_2 : List Int) (A0_3 : Option Addr) (c0_3 : Nat) (l0_3 : List Int) (A0_4 : Option Addr) (c0_4 : Nat) (l0_4 : List Int) (a0_5 : Int) (A1 : Option Addr) (c1 : Nat) (l1 : List Int) (r : Int) (w : World) (hr0_0 : Kd.C k98 w A0_0 l0_0.length l0_0) (hc0_0 : l0_0.length ≤ c0_0) (hr0_1 : Kd.C k103 w A0_1 l0_1.length l0_1) (hc0_1 : l0_1.length ≤ c0_1) (hr0_2 : Kd.C (Kd.int .i64) w A0_2 l0_2.length l0_2) (hc0_2 : l0_2.length ≤ c0_2) (hr0_3 : Kd.C (Kd.int .i64) w A0_3 l0_3.length l0_3) (hc0_3 : l0_3.length ≤ c0_3) (hr0_4 : Kd.C (Kd.int .i64) w A0_4 l0_4.length l0_4) (hc0_4 : l0_4.length ≤ c0_4) (hr1 : Kd.C (Kd.int .i64) w A1 l1.length l1) (hc1 : l1.length ≤ c1) (h : spec_l18Cost.f k l0_0 l0_1 l0_2 l0_3 l0_4 a0_5 l1 = some r) :
  Calls Try.prog 76 #[.agg (f5 A0_0 l0_0 c0_0 A0_1 l0_1 c0_1 A0_2 l0_2 c0_2 A0_3 l0_3 c0_3 A0_4 l0_4 c0_4 a0_5), .slice A1 l1.length c1] w fun e w' => e = .returned (.int .i64 r) ∧ Below w.heap.size w w' := by
 have hu33 := Try.underlying33; have HR0_0 := ak hr0_0; have HC0_0 := ak hc0_0; clear hr0_0 hc0_0; have HR0_1 := ak hr0_1; have HC0_1 := ak hc0_1; clear hr0_1 hc0_1; have HR0_2 := ak hr0_2; have HC0_2 := ak hc0_2; clear hr0_2 hc0_2; have HR0_3 := ak hr0_3; have HC0_3 := ak hc0_3; clear hr0_3 hc0_3; have HR0_4 := ak hr0_4; have HC0_4 := ak hc0_4; clear hr0_4 hc0_4; have HR1 := ak hr1; have HC1 := ak hc1; clear hr1 hc1; have HB := ak (Below.refl w.heap.size w); unfold spec_l18Cost.f at h; have H := h; clear h; have H' := ak H; clear H; go_enter Try.func76, Try.ntmps76; go_wp2_with (first | ((with_reducible refine gate_dst (N := 2) rfl ?_); refine bx 2 (f5 A0_0 l0_0 c0_0 A0_1 l0_1 c0_1 A0_2 l0_2 c0_2 A0_3 l0_3 c0_3 A0_4 l0_4 c0_4 a0_5) 33 ?_; intro gb4 hg w3 hbox hb; have BK4 := ak hbox; have GW753 := gw hg HB; have GE4 := gw hg HB; replace HB := bs HB hb; clear hb hbox hg))
 repeat (go_quiet (first | ((with_reducible refine gate_dst (N := 2) rfl ?_); refine bx 2 (f5 A0_0 l0_0 c0_0 A0_1 l0_1 c0_1 A0_2 l0_2 c0_2 A0_3 l0_3 c0_3 A0_4 l0_4 c0_4 a0_5) 33 ?_; intro gb4 hg w3 hbox hb; have BK4 := ak hbox; have GW753 := gw hg HB; have GE4 := gw hg HB; replace HB := bs HB hb; clear hb hbox hg)); try go_wp2_with (first | ((with_reducible refine gate_dst (N := 2) rfl ?_); refine bx 2 (f5 A0_0 l0_0 c0_0 A0_1 l0_1 c0_1 A0_2 l0_2 c0_2 A0_3 l0_3 c0_3 A0_4 l0_4 c0_4 a0_5) 33 ?_; intro gb4 hg w3 hbox hb; have BK4 := ak hbox; have GW753 := gw hg HB; have GE4 := gw hg HB; replace HB := bs HB hb; clear hb hbox hg)))
 go_loopg [5, 6] k (fun kq v8 v1 w' => ∃ (x8_0 : Int) (x1_0 : Int), v8 = .int .i64 x8_0 ∧ v1 = .int .i64 x1_0 ∧ Aside0 (spec_l18Cost.l0 kq l1 x8_0 x1_0 l0_0 l0_1 l0_2 l0_3 l0_4 a0_5 = some r) ∧ Aside0 (kq ≤ k) ∧ Aside0 (w'.heap[gb4]? = some (.cells (f5 A0_0 l0_0 c0_0 A0_1 l0_1 c0_1 A0_2 l0_2 c0_2 A0_3 l0_3 c0_3 A0_4 l0_4 c0_4 a0_5) 33 (0, 0))) ∧ Aside0 (Below w.heap.size w w'))
 case atStart => exact ⟨(0), (0), es, es, H', ⟨Nat.le_refl _⟩, ⟨vk BK4.1⟩, ⟨vb HB.1⟩⟩
 case round =>
  clear H'; obtain ⟨x8_0, x1_0, rfl, rfl, HA, HK1, BK4, HB⟩ := hrel
  cases gk with
  | zero => exact absurd HA.1 (by simp [spec_l18Cost.l0])
  | succ k1 =>
   have H := HA.1; clear HA; simp only [spec_l18Cost.l0] at H
   by_cases c4 : x1_0 < (l1.length : Int)
   ·rw [if_pos c4] at H; have c4b0 := decide_eq_true c4; clear c4; by_cases c5 : 0 ≤ x1_0
    ·rw [if_pos c5] at H; have c5b0 := decide_eq_true c5; clear c5; by_cases c6 : 0 ≤ (rd l1 x1_0)
     ·rw [if_pos c6] at H; have c6b0 := decide_eq_true c6; clear c6; by_cases c7 : (rd l1 x1_0) < (l0_3.length : Int)
      ·rw [if_pos c7] at H; have c7b0 := decide_eq_true c7; clear c7; by_cases c8 : (rd l1 x1_0) < (l0_4.length : Int)
       ·rw [if_pos c8] at H; have c8b0 := decide_eq_true c8; clear c8; have H' := ak H; clear H; have hcz15 := cz6 BK4.1; have p2 : 0 ≤ (x1_0 : Int) := od; have q2 : x1_0 < (l1.length : Int) := od; obtain ⟨ad2, e2, hx2_7⟩ := Kd.at_int HR1.1 x1_0 p2 q2
        cases e2; replace hx2_7 := cb HB.1 hx2_7; replace p2 := eq_true p2; replace q2 := eq_true q2; have p5 : 0 ≤ ((rd l1 x1_0) : Int) := od; have q5 : (rd l1 x1_0) < (l0_3.length : Int) := od; obtain ⟨ad5, e5, hx5_7⟩ := Kd.at_int HR0_3.1 (rd l1 x1_0) p5 q5
        cases e5; replace hx5_7 := cb HB.1 hx5_7; replace p5 := eq_true p5; replace q5 := eq_true q5; have p3 : 0 ≤ (x1_0 : Int) := od; have q3 : x1_0 < (l1.length : Int) := od; obtain ⟨ad3, e3, hx3_7⟩ := Kd.at_int HR1.1 x1_0 p3 q3; obtain rfl : ad2 = ad3 := (by injection e3); replace hx3_7 := cb HB.1 hx3_7; replace p3 := eq_true p3; replace q3 := eq_true q3; have p6 : 0 ≤ ((rd l1 x1_0) : Int) := od; have q6 : (rd l1 x1_0) < (l0_4.length : Int) := od; obtain ⟨ad6, e6, hx6_7⟩ := Kd.at_int HR0_4.1 (rd l1 x1_0) p6 q6
        cases e6; replace hx6_7 := cb HB.1 hx6_7; replace p6 := eq_true p6; replace q6 := eq_true q6; go_wp2
        repeat (go_quiet (fail); try go_wp2)
        go_roundg k1
        case measure => have := HK1.1; omega
        case rel => exact ⟨(wrap64 ((wrap64 (x8_0 + (rd l0_3 (rd l1 x1_0)))) + (rd l0_4 (rd l1 x1_0)))), (wrap64 (x1_0 + 1)), es, es, H', ⟨by have := HK1.1; omega⟩, ⟨vk BK4.1⟩, ⟨vb HB.1⟩⟩
       ·exact nO_ c8 H
      ·exact nO_ c7 H
     ·exact nO_ c6 H
    ·exact nO_ c5 H
   ·rw [if_neg c4] at H; have c4b0 := decide_eq_false c4; clear c4; obtain rfl := sj H; go_wp2
    repeat (go_quiet (fail); try go_wp2)
    go_ret
    exact ⟨ew, vb HB.1⟩


/-! ### impl_costOf: function 77 -/
def impl_costOf.l0 : Nat → Int → List Int → Int → Int → List (S98) → List (S103) → List Int → List Int → List Int → Int → Option (Int)
 | 0, _, _, _, _, _, _, _, _, _, _ => none
 | k + 1, x6, x8, x11, x0, x12, x13, x14, x9, x10, x15 => if x0 < x11 then (if 0 ≤ x0 then (if x0 < (x8.length : Int) then (if 0 ≤ (rd x8 x0) then (if (rd x8 x0) < (x9.length : Int) then (if (rd x8 x0) < (x10.length : Int) then (impl_costOf.l0 k (wrap64 (x6 + (wrap64 ((rd x9 (rd x8 x0)) + (rd x10 (rd x8 x0)))))) x8 x11 (wrap64 (x0 + 1)) x12 x13 x14 x9 x10 x15) else (none)) else (none)) else (none)) else (none)) else (none)) else (some x6)
def impl_costOf.f (k : Nat) (l0_0 : List (S98)) (l0_1 : List (S103)) (l0_2 : List Int) (l0_3 : List Int) (l0_4 : List Int) (a0_5 : Int) (l1 : List Int) : Option (Int) := impl_costOf.l0 k 0 l1 (l1.length : Int) 0 l0_0 l0_1 l0_2 l0_3 l0_4 a0_5
set_option maxHeartbeats 8000000 in
set_option maxRecDepth 100000 in
theorem impl_costOf.calls (k : Nat) (A0_0 : Option Addr) (c0_0 : Nat) (l0_0 : List (S98)) (A0_1 : Option Addr) (c0_1 : Nat) (l0_1 : List (S103)) (A0_2 : Option Addr) (c0_2 : Nat) (l0_2 : List Int) (A0_3 : Option Addr) (c0_3 : Nat) (l0_3 : List Int) (A0_4 : Option Addr) (c0_4 : Nat) (l0_4 : List Int) (a0_5 : Int) (A1 : Option Addr) (c1 : Nat) (l1 : List Int) (r : Int) (w : World) (hr0_0 : Kd.C k98 w A0_0 l0_0.length l0_0) (hc0_0 : l0_0.length ≤ c0_0) (hr0_1 : Kd.C k103 w A0_1 l0_1.length l0_1) (hc0_1 : l0_1.length ≤ c0_1) (hr0_2 : Kd.C (Kd.int .i64) w A0_2 l0_2.length l0_2) (hc0_2 : l0_2.length ≤ c0_2) (hr0_3 : Kd.C (Kd.int .i64) w A0_3 l0_3.length l0_3) (hc0_3 : l0_3.length ≤ c0_3) (hr0_4 : Kd.C (Kd.int .i64) w A0_4 l0_4.length l0_4) (hc0_4 : l0_4.length ≤ c0_4) (hr1 : Kd.C (Kd.int .i64) w A1 l1.length l1) (hc1 : l1.length ≤ c1) (h : impl_costOf.f k l0_0 l0_1 l0_2 l0_3 l0_4 a0_5 l1 = some r) :
  Calls Try.prog 77 #[.agg (f5 A0_0 l0_0 c0_0 A0_1 l0_1 c0_1 A0_2 l0_2 c0_2 A0_3 l0_3 c0_3 A0_4 l0_4 c0_4 a0_5), .slice A1 l1.length c1] w fun e w' => e = .returned (.int .i64 r) ∧ Below w.heap.size w w' := by
 have hu33 := Try.underlying33; have HR0_0 := ak hr0_0; have HC0_0 := ak hc0_0; clear hr0_0 hc0_0; have HR0_1 := ak hr0_1; have HC0_1 := ak hc0_1; clear hr0_1 hc0_1; have HR0_2 := ak hr0_2; have HC0_2 := ak hc0_2; clear hr0_2 hc0_2; have HR0_3 := ak hr0_3; have HC0_3 := ak hc0_3; clear hr0_3 hc0_3; have HR0_4 := ak hr0_4; have HC0_4 := ak hc0_4; clear hr0_4 hc0_4; have HR1 := ak hr1; have HC1 := ak hc1; clear hr1 hc1; have HB := ak (Below.refl w.heap.size w); unfold impl_costOf.f at h; have H := h; clear h; have H' := ak H; clear H; go_enter Try.func77, Try.ntmps77; go_wp2_with (first | ((with_reducible refine gate_dst (N := 2) rfl ?_); refine bx 2 (f5 A0_0 l0_0 c0_0 A0_1 l0_1 c0_1 A0_2 l0_2 c0_2 A0_3 l0_3 c0_3 A0_4 l0_4 c0_4 a0_5) 33 ?_; intro gb2 hg w3 hbox hb; have BK2 := ak hbox; have GW763 := gw hg HB; have GE2 := gw hg HB; replace HB := bs HB hb; clear hb hbox hg))
 repeat (go_quiet (first | ((with_reducible refine gate_dst (N := 2) rfl ?_); refine bx 2 (f5 A0_0 l0_0 c0_0 A0_1 l0_1 c0_1 A0_2 l0_2 c0_2 A0_3 l0_3 c0_3 A0_4 l0_4 c0_4 a0_5) 33 ?_; intro gb2 hg w3 hbox hb; have BK2 := ak hbox; have GW763 := gw hg HB; have GE2 := gw hg HB; replace HB := bs HB hb; clear hb hbox hg)); try go_wp2_with (first | ((with_reducible refine gate_dst (N := 2) rfl ?_); refine bx 2 (f5 A0_0 l0_0 c0_0 A0_1 l0_1 c0_1 A0_2 l0_2 c0_2 A0_3 l0_3 c0_3 A0_4 l0_4 c0_4 a0_5) 33 ?_; intro gb2 hg w3 hbox hb; have BK2 := ak hbox; have GW763 := gw hg HB; have GE2 := gw hg HB; replace HB := bs HB hb; clear hb hbox hg)))
 go_loopg [5, 10] k (fun kq v6 v0 w' => ∃ (x6_1 : Int) (x0_1 : Int), v6 = .int .i64 x6_1 ∧ v0 = .int .i64 x0_1 ∧ Aside0 (impl_costOf.l0 kq x6_1 l1 (l1.length : Int) x0_1 l0_0 l0_1 l0_2 l0_3 l0_4 a0_5 = some r) ∧ Aside0 (kq ≤ k) ∧ Aside0 (w'.heap[gb2]? = some (.cells (f5 A0_0 l0_0 c0_0 A0_1 l0_1 c0_1 A0_2 l0_2 c0_2 A0_3 l0_3 c0_3 A0_4 l0_4 c0_4 a0_5) 33 (0, 0))) ∧ Aside0 (Below w.heap.size w w'))
 case atStart => exact ⟨(0), (0), es, es, H', ⟨Nat.le_refl _⟩, ⟨vk BK2.1⟩, ⟨vb HB.1⟩⟩
 case round =>
  clear H'; obtain ⟨x6_1, x0_1, rfl, rfl, HA, HK1, BK2, HB⟩ := hrel
  cases gk with
  | zero => exact absurd HA.1 (by simp [impl_costOf.l0])
  | succ k1 =>
   have H := HA.1; clear HA; simp only [impl_costOf.l0] at H
   by_cases c4 : x0_1 < (l1.length : Int)
   ·rw [if_pos c4] at H; have c4b0 := decide_eq_true c4; clear c4; by_cases c5 : 0 ≤ x0_1
    ·rw [if_pos c5] at H; have c5b0 := decide_eq_true c5; clear c5; by_cases c6 : x0_1 < (l1.length : Int)
     ·rw [if_pos c6] at H; have c6b0 := decide_eq_true c6; clear c6; by_cases c7 : 0 ≤ (rd l1 x0_1)
      ·rw [if_pos c7] at H; have c7b0 := decide_eq_true c7; clear c7; by_cases c8 : (rd l1 x0_1) < (l0_3.length : Int)
       ·rw [if_pos c8] at H; have c8b0 := decide_eq_true c8; clear c8; by_cases c9 : (rd l1 x0_1) < (l0_4.length : Int)
        ·rw [if_pos c9] at H; have c9b0 := decide_eq_true c9; clear c9; have H' := ak H; clear H; have p3 : 0 ≤ (x0_1 : Int) := od; have q3 : x0_1 < (l1.length : Int) := od; obtain ⟨ad3, e3, hx3_7⟩ := Kd.at_int HR1.1 x0_1 p3 q3
         cases e3; replace hx3_7 := cb HB.1 hx3_7; replace p3 := eq_true p3; replace q3 := eq_true q3; have hcz0 := cz6 BK2.1; have p4 : 0 ≤ ((rd l1 x0_1) : Int) := od; have q4 : (rd l1 x0_1) < (l0_3.length : Int) := od; obtain ⟨ad4, e4, hx4_7⟩ := Kd.at_int HR0_3.1 (rd l1 x0_1) p4 q4
         cases e4; replace hx4_7 := cb HB.1 hx4_7; replace p4 := eq_true p4; replace q4 := eq_true q4; have p5 : 0 ≤ ((rd l1 x0_1) : Int) := od; have q5 : (rd l1 x0_1) < (l0_4.length : Int) := od; obtain ⟨ad5, e5, hx5_7⟩ := Kd.at_int HR0_4.1 (rd l1 x0_1) p5 q5
         cases e5; replace hx5_7 := cb HB.1 hx5_7; replace p5 := eq_true p5; replace q5 := eq_true q5; go_wp2
         repeat (go_quiet (fail); try go_wp2)
         go_roundg k1
         case measure => have := HK1.1; omega
         case rel => exact ⟨(wrap64 (x6_1 + (wrap64 ((rd l0_3 (rd l1 x0_1)) + (rd l0_4 (rd l1 x0_1)))))), (wrap64 (x0_1 + 1)), es, es, H', ⟨by have := HK1.1; omega⟩, ⟨vk BK2.1⟩, ⟨vb HB.1⟩⟩
        ·exact nO_ c9 H
       ·exact nO_ c8 H
      ·exact nO_ c7 H
     ·exact nO_ c6 H
    ·exact nO_ c5 H
   ·rw [if_neg c4] at H; have c4b0 := decide_eq_false c4; clear c4; obtain rfl := sj H; go_wp2
    repeat (go_quiet (fail); try go_wp2)
    go_ret
    exact ⟨ew, vb HB.1⟩


end Go.Proofs.Ytancnecddlbhkaa.Pall
