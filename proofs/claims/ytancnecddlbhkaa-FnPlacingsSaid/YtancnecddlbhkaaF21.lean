/- Go functions of the program, each as a Lean function, and the proof that each call comes to what the Lean function tells; no condition beyond those that stand there. -/
import Derived.Test.YtancnecddlbhkaaF00
import Derived.Test.YtancnecddlbhkaaCm
import Derived.Test.YtancnecddlbhkaaCm3
import Derived.Test.YtancnecddlbhkaaCm6
namespace Go.Proofs.Ytancnecddlbhkaa.Pall
open Go.RowKit Go.Proofs.YtancnecddlbhkaaW.PrintWords
set_option linter.unusedVariables false
set_option linter.unusedSimpArgs false

/-! ### spec_l18Cost: function 76 -/
def spec_l18Cost.l0 : Nat → List Int → Int → Int → List (S98) → List (S103) → List Int → List Int → List Int → Int → Option (Int)
 | 0, _, _, _, _, _, _, _, _, _ => none
 | k + 1, x1, x5, x6, x754000, x754001, x754002, x754003, x754004, x754005 => if x6 < (x1.length : Int) then (if 0 ≤ x6 then (if 0 ≤ (rd x1 x6) then (if (rd x1 x6) < (x754003.length : Int) then (if (rd x1 x6) < (x754004.length : Int) then (spec_l18Cost.l0 k x1 (wrap64 ((wrap64 (x5 + (rd x754003 (rd x1 x6)))) + (rd x754004 (rd x1 x6)))) (wrap64 (x6 + 1)) x754000 x754001 x754002 x754003 x754004 x754005) else (none)) else (none)) else (none)) else (none)) else (some x5)
def spec_l18Cost.f (k : Nat) (l0_0 : List (S98)) (l0_1 : List (S103)) (l0_2 : List Int) (l0_3 : List Int) (l0_4 : List Int) (a0_5 : Int) (l1 : List Int) : Option (Int) := spec_l18Cost.l0 k l1 0 0 l0_0 l0_1 l0_2 l0_3 l0_4 a0_5
theorem spec_l18Cost.mono_l : ∀ k, (∀ y0 y1 y2 y3 y4 y5 y6 y7 y8, LeO (spec_l18Cost.l0 k y0 y1 y2 y3 y4 y5 y6 y7 y8) (spec_l18Cost.l0 (k + 1) y0 y1 y2 y3 y4 y5 y6 y7 y8))
 | 0 => fun _ _ _ _ _ _ _ _ _ r h => by simp [spec_l18Cost.l0] at h
 | k + 1 => by
  have ih0 := spec_l18Cost.mono_l k
  ·intro y0 y1 y2 y3 y4 y5 y6 y7 y8; unfold spec_l18Cost.l0
   repeat' (with_reducible first | exact ih0 .. | exact lm | refine LeO.ite ?_ ?_ | refine LeO.bind ?_ (fun _ => ?_))
theorem spec_l18Cost.mono : ∀ a0 a1 a2 a3 a4 a5 a6 k, LeO (spec_l18Cost.f k a0 a1 a2 a3 a4 a5 a6) (spec_l18Cost.f (k + 1) a0 a1 a2 a3 a4 a5 a6) := by
 intro a0 a1 a2 a3 a4 a5 a6 k; have ih0 := spec_l18Cost.mono_l k; unfold spec_l18Cost.f
 repeat' (with_reducible first | exact ih0 .. | exact lm | refine LeO.ite ?_ ?_ | refine LeO.bind ?_ (fun _ => ?_))
set_option maxHeartbeats 8000000 in
set_option maxRecDepth 100000 in
theorem spec_l18Cost.calls (k : Nat) (A0_0 : Option Addr) (c0_0 : Nat) (l0_0 : List (S98)) (A0_1 : Option Addr) (c0_1 : Nat) (l0_1 : List (S103)) (A0_2 : Option Addr) (c0_2 : Nat) (l0_2 : List Int) (A0_3 : Option Addr) (c0_3 : Nat) (l0_3 : List Int) (A0_4 : Option Addr) (c0_4 : Nat) (l0_4 : List Int) (a0_5 : Int) (A1 : Option Addr) (c1 : Nat) (l1 : List Int) (r : Int) (w : World) (hr0_0 : Kd.C k98 w A0_0 l0_0.length l0_0) (hc0_0 : l0_0.length ≤ c0_0) (hr0_1 : Kd.C k103 w A0_1 l0_1.length l0_1) (hc0_1 : l0_1.length ≤ c0_1) (hr0_2 : Kd.C (Kd.int .i64) w A0_2 l0_2.length l0_2) (hc0_2 : l0_2.length ≤ c0_2) (hr0_3 : Kd.C (Kd.int .i64) w A0_3 l0_3.length l0_3) (hc0_3 : l0_3.length ≤ c0_3) (hr0_4 : Kd.C (Kd.int .i64) w A0_4 l0_4.length l0_4) (hc0_4 : l0_4.length ≤ c0_4) (hr1 : Kd.C (Kd.int .i64) w A1 l1.length l1) (hc1 : l1.length ≤ c1) (h : spec_l18Cost.f k l0_0 l0_1 l0_2 l0_3 l0_4 a0_5 l1 = some r) :
  Calls Try.prog 76 #[.agg (f5 A0_0 l0_0 c0_0 A0_1 l0_1 c0_1 A0_2 l0_2 c0_2 A0_3 l0_3 c0_3 A0_4 l0_4 c0_4 a0_5), .slice A1 l1.length c1] w fun e w' => e = .returned (.int .i64 r) ∧ Below w.heap.size w w' := by
 have hu33 := Try.underlying33; have HR0_0 := ak hr0_0; have HC0_0 := ak hc0_0; clear hr0_0 hc0_0; have HR0_1 := ak hr0_1; have HC0_1 := ak hc0_1; clear hr0_1 hc0_1; have HR0_2 := ak hr0_2; have HC0_2 := ak hc0_2; clear hr0_2 hc0_2; have HR0_3 := ak hr0_3; have HC0_3 := ak hc0_3; clear hr0_3 hc0_3; have HR0_4 := ak hr0_4; have HC0_4 := ak hc0_4; clear hr0_4 hc0_4; have HR1 := ak hr1; have HC1 := ak hc1; clear hr1 hc1; have HB := ak (Below.refl w.heap.size w); unfold spec_l18Cost.f at h; have H := h; clear h; have H' := ak H; clear H; go_enter Try.func76, Try.ntmps76; go_wp2_with (first | ((with_reducible refine gate_dst (N := 2) rfl ?_); refine bx 2 (f5 A0_0 l0_0 c0_0 A0_1 l0_1 c0_1 A0_2 l0_2 c0_2 A0_3 l0_3 c0_3 A0_4 l0_4 c0_4 a0_5) 33 ?_; intro gb753 hg w3 hbox hb; have BK753 := ak hbox; have GW753 := gw hg HB; have GE753 := gw hg HB; replace HB := bs HB hb; clear hb hbox hg))
 repeat (go_quiet (first | ((with_reducible refine gate_dst (N := 2) rfl ?_); refine bx 2 (f5 A0_0 l0_0 c0_0 A0_1 l0_1 c0_1 A0_2 l0_2 c0_2 A0_3 l0_3 c0_3 A0_4 l0_4 c0_4 a0_5) 33 ?_; intro gb753 hg w3 hbox hb; have BK753 := ak hbox; have GW753 := gw hg HB; have GE753 := gw hg HB; replace HB := bs HB hb; clear hb hbox hg)); try go_wp2_with (first | ((with_reducible refine gate_dst (N := 2) rfl ?_); refine bx 2 (f5 A0_0 l0_0 c0_0 A0_1 l0_1 c0_1 A0_2 l0_2 c0_2 A0_3 l0_3 c0_3 A0_4 l0_4 c0_4 a0_5) 33 ?_; intro gb753 hg w3 hbox hb; have BK753 := ak hbox; have GW753 := gw hg HB; have GE753 := gw hg HB; replace HB := bs HB hb; clear hb hbox hg)))
 go_loopg [5, 6] k (fun kq v5 v6 w' => ∃ (x5_1 : Int) (x6_1 : Int), v5 = .int .i64 x5_1 ∧ v6 = .int .i64 x6_1 ∧ Aside0 (spec_l18Cost.l0 kq l1 x5_1 x6_1 l0_0 l0_1 l0_2 l0_3 l0_4 a0_5 = some r) ∧ Aside0 (kq ≤ k) ∧ Aside0 (w'.heap[gb753]? = some (.cells (f5 A0_0 l0_0 c0_0 A0_1 l0_1 c0_1 A0_2 l0_2 c0_2 A0_3 l0_3 c0_3 A0_4 l0_4 c0_4 a0_5) 33 (0, 0))) ∧ Aside0 (Below w.heap.size w w'))
 case atStart => exact ⟨(0), (0), es, es, H', ⟨Nat.le_refl _⟩, ⟨vk BK753.out⟩, ⟨vb HB.out⟩⟩
 case round =>
  clear H'; obtain ⟨x5_1, x6_1, rfl, rfl, HA, HK1, BK753, HB⟩ := hrel
  cases gk with
  | zero => exact absurd HA.out (by simp [spec_l18Cost.l0])
  | succ k1 =>
   have H := HA.out; clear HA; simp only [spec_l18Cost.l0] at H
   by_cases c4 : x6_1 < (l1.length : Int)
   ·rw [if_pos c4] at H; have c4b0 := decide_eq_true c4; clear c4; by_cases c5 : 0 ≤ x6_1
    ·rw [if_pos c5] at H; have c5b0 := decide_eq_true c5; clear c5; by_cases c6 : 0 ≤ (rd l1 x6_1)
     ·rw [if_pos c6] at H; have c6b0 := decide_eq_true c6; clear c6; by_cases c7 : (rd l1 x6_1) < (l0_3.length : Int)
      ·rw [if_pos c7] at H; have c7b0 := decide_eq_true c7; clear c7; by_cases c8 : (rd l1 x6_1) < (l0_4.length : Int)
       ·rw [if_pos c8] at H; have c8b0 := decide_eq_true c8; clear c8; have H' := ak H; clear H; have hcz9 := cz6 BK753.out; have p754 : 0 ≤ (x6_1 : Int) := od; have q754 : x6_1 < (l1.length : Int) := od; obtain ⟨ad754, e754, hx754_0⟩ := Kd.at_int HR1.out x6_1 p754 q754
        cases e754; replace hx754_0 := cb HB.out hx754_0; replace p754 := eq_true p754; replace q754 := eq_true q754; have p755 : 0 ≤ ((rd l1 x6_1) : Int) := od; have q755 : (rd l1 x6_1) < (l0_3.length : Int) := od; obtain ⟨ad755, e755, hx755_0⟩ := Kd.at_int HR0_3.out (rd l1 x6_1) p755 q755
        cases e755; replace hx755_0 := cb HB.out hx755_0; replace p755 := eq_true p755; replace q755 := eq_true q755; have p756 : 0 ≤ (x6_1 : Int) := od; have q756 : x6_1 < (l1.length : Int) := od; obtain ⟨ad756, e756, hx756_0⟩ := Kd.at_int HR1.out x6_1 p756 q756; obtain rfl : ad754 = ad756 := (by injection e756); replace hx756_0 := cb HB.out hx756_0; replace p756 := eq_true p756; replace q756 := eq_true q756; have p757 : 0 ≤ ((rd l1 x6_1) : Int) := od; have q757 : (rd l1 x6_1) < (l0_4.length : Int) := od; obtain ⟨ad757, e757, hx757_0⟩ := Kd.at_int HR0_4.out (rd l1 x6_1) p757 q757
        cases e757; replace hx757_0 := cb HB.out hx757_0; replace p757 := eq_true p757; replace q757 := eq_true q757; go_wp2
        repeat (go_quiet (fail); try go_wp2)
        go_roundg k1
        case measure => have := HK1.out; omega
        case rel => exact ⟨(wrap64 ((wrap64 (x5_1 + (rd l0_3 (rd l1 x6_1)))) + (rd l0_4 (rd l1 x6_1)))), (wrap64 (x6_1 + 1)), es, es, H', ⟨by have := HK1.out; omega⟩, ⟨vk BK753.out⟩, ⟨vb HB.out⟩⟩
       ·exact nO_ c8 H
      ·exact nO_ c7 H
     ·exact nO_ c6 H
    ·exact nO_ c5 H
   ·rw [if_neg c4] at H; have c4b0 := decide_eq_false c4; clear c4; obtain rfl := sj H; go_wp2
    repeat (go_quiet (fail); try go_wp2)
    go_ret
    exact ⟨ew, vb HB.out⟩


/-! ### impl_costOf: function 77 -/
def impl_costOf.l0 : Nat → Int → List Int → Int → Int → List (S98) → List (S103) → List Int → List Int → List Int → Int → Option (Int)
 | 0, _, _, _, _, _, _, _, _, _, _ => none
 | k + 1, x5, x8, x9, x10, x764000, x764001, x764002, x764003, x764004, x764005 => if x10 < x9 then (if 0 ≤ x10 then (if x10 < (x8.length : Int) then (if 0 ≤ (rd x8 x10) then (if (rd x8 x10) < (x764003.length : Int) then (if (rd x8 x10) < (x764004.length : Int) then (impl_costOf.l0 k (wrap64 (x5 + (wrap64 ((rd x764003 (rd x8 x10)) + (rd x764004 (rd x8 x10)))))) x8 x9 (wrap64 (x10 + 1)) x764000 x764001 x764002 x764003 x764004 x764005) else (none)) else (none)) else (none)) else (none)) else (none)) else (some x5)
def impl_costOf.f (k : Nat) (l0_0 : List (S98)) (l0_1 : List (S103)) (l0_2 : List Int) (l0_3 : List Int) (l0_4 : List Int) (a0_5 : Int) (l1 : List Int) : Option (Int) := impl_costOf.l0 k 0 l1 (l1.length : Int) 0 l0_0 l0_1 l0_2 l0_3 l0_4 a0_5
theorem impl_costOf.mono_l : ∀ k, (∀ y0 y1 y2 y3 y4 y5 y6 y7 y8 y9, LeO (impl_costOf.l0 k y0 y1 y2 y3 y4 y5 y6 y7 y8 y9) (impl_costOf.l0 (k + 1) y0 y1 y2 y3 y4 y5 y6 y7 y8 y9))
 | 0 => fun _ _ _ _ _ _ _ _ _ _ r h => by simp [impl_costOf.l0] at h
 | k + 1 => by
  have ih0 := impl_costOf.mono_l k
  ·intro y0 y1 y2 y3 y4 y5 y6 y7 y8 y9; unfold impl_costOf.l0
   repeat' (with_reducible first | exact ih0 .. | exact lm | refine LeO.ite ?_ ?_ | refine LeO.bind ?_ (fun _ => ?_))
theorem impl_costOf.mono : ∀ a0 a1 a2 a3 a4 a5 a6 k, LeO (impl_costOf.f k a0 a1 a2 a3 a4 a5 a6) (impl_costOf.f (k + 1) a0 a1 a2 a3 a4 a5 a6) := by
 intro a0 a1 a2 a3 a4 a5 a6 k; have ih0 := impl_costOf.mono_l k; unfold impl_costOf.f
 repeat' (with_reducible first | exact ih0 .. | exact lm | refine LeO.ite ?_ ?_ | refine LeO.bind ?_ (fun _ => ?_))
set_option maxHeartbeats 8000000 in
set_option maxRecDepth 100000 in
theorem impl_costOf.calls (k : Nat) (A0_0 : Option Addr) (c0_0 : Nat) (l0_0 : List (S98)) (A0_1 : Option Addr) (c0_1 : Nat) (l0_1 : List (S103)) (A0_2 : Option Addr) (c0_2 : Nat) (l0_2 : List Int) (A0_3 : Option Addr) (c0_3 : Nat) (l0_3 : List Int) (A0_4 : Option Addr) (c0_4 : Nat) (l0_4 : List Int) (a0_5 : Int) (A1 : Option Addr) (c1 : Nat) (l1 : List Int) (r : Int) (w : World) (hr0_0 : Kd.C k98 w A0_0 l0_0.length l0_0) (hc0_0 : l0_0.length ≤ c0_0) (hr0_1 : Kd.C k103 w A0_1 l0_1.length l0_1) (hc0_1 : l0_1.length ≤ c0_1) (hr0_2 : Kd.C (Kd.int .i64) w A0_2 l0_2.length l0_2) (hc0_2 : l0_2.length ≤ c0_2) (hr0_3 : Kd.C (Kd.int .i64) w A0_3 l0_3.length l0_3) (hc0_3 : l0_3.length ≤ c0_3) (hr0_4 : Kd.C (Kd.int .i64) w A0_4 l0_4.length l0_4) (hc0_4 : l0_4.length ≤ c0_4) (hr1 : Kd.C (Kd.int .i64) w A1 l1.length l1) (hc1 : l1.length ≤ c1) (h : impl_costOf.f k l0_0 l0_1 l0_2 l0_3 l0_4 a0_5 l1 = some r) :
  Calls Try.prog 77 #[.agg (f5 A0_0 l0_0 c0_0 A0_1 l0_1 c0_1 A0_2 l0_2 c0_2 A0_3 l0_3 c0_3 A0_4 l0_4 c0_4 a0_5), .slice A1 l1.length c1] w fun e w' => e = .returned (.int .i64 r) ∧ Below w.heap.size w w' := by
 have hu33 := Try.underlying33; have HR0_0 := ak hr0_0; have HC0_0 := ak hc0_0; clear hr0_0 hc0_0; have HR0_1 := ak hr0_1; have HC0_1 := ak hc0_1; clear hr0_1 hc0_1; have HR0_2 := ak hr0_2; have HC0_2 := ak hc0_2; clear hr0_2 hc0_2; have HR0_3 := ak hr0_3; have HC0_3 := ak hc0_3; clear hr0_3 hc0_3; have HR0_4 := ak hr0_4; have HC0_4 := ak hc0_4; clear hr0_4 hc0_4; have HR1 := ak hr1; have HC1 := ak hc1; clear hr1 hc1; have HB := ak (Below.refl w.heap.size w); unfold impl_costOf.f at h; have H := h; clear h; have H' := ak H; clear H; go_enter Try.func77, Try.ntmps77; go_wp2_with (first | ((with_reducible refine gate_dst (N := 2) rfl ?_); refine bx 2 (f5 A0_0 l0_0 c0_0 A0_1 l0_1 c0_1 A0_2 l0_2 c0_2 A0_3 l0_3 c0_3 A0_4 l0_4 c0_4 a0_5) 33 ?_; intro gb763 hg w3 hbox hb; have BK763 := ak hbox; have GW763 := gw hg HB; have GE763 := gw hg HB; replace HB := bs HB hb; clear hb hbox hg))
 repeat (go_quiet (first | ((with_reducible refine gate_dst (N := 2) rfl ?_); refine bx 2 (f5 A0_0 l0_0 c0_0 A0_1 l0_1 c0_1 A0_2 l0_2 c0_2 A0_3 l0_3 c0_3 A0_4 l0_4 c0_4 a0_5) 33 ?_; intro gb763 hg w3 hbox hb; have BK763 := ak hbox; have GW763 := gw hg HB; have GE763 := gw hg HB; replace HB := bs HB hb; clear hb hbox hg)); try go_wp2_with (first | ((with_reducible refine gate_dst (N := 2) rfl ?_); refine bx 2 (f5 A0_0 l0_0 c0_0 A0_1 l0_1 c0_1 A0_2 l0_2 c0_2 A0_3 l0_3 c0_3 A0_4 l0_4 c0_4 a0_5) 33 ?_; intro gb763 hg w3 hbox hb; have BK763 := ak hbox; have GW763 := gw hg HB; have GE763 := gw hg HB; replace HB := bs HB hb; clear hb hbox hg)))
 go_loopg [5, 10] k (fun kq v5 v10 w' => ∃ (x5_1 : Int) (x10_1 : Int), v5 = .int .i64 x5_1 ∧ v10 = .int .i64 x10_1 ∧ Aside0 (impl_costOf.l0 kq x5_1 l1 (l1.length : Int) x10_1 l0_0 l0_1 l0_2 l0_3 l0_4 a0_5 = some r) ∧ Aside0 (kq ≤ k) ∧ Aside0 (w'.heap[gb763]? = some (.cells (f5 A0_0 l0_0 c0_0 A0_1 l0_1 c0_1 A0_2 l0_2 c0_2 A0_3 l0_3 c0_3 A0_4 l0_4 c0_4 a0_5) 33 (0, 0))) ∧ Aside0 (Below w.heap.size w w'))
 case atStart => exact ⟨(0), (0), es, es, H', ⟨Nat.le_refl _⟩, ⟨vk BK763.out⟩, ⟨vb HB.out⟩⟩
 case round =>
  clear H'; obtain ⟨x5_1, x10_1, rfl, rfl, HA, HK1, BK763, HB⟩ := hrel
  cases gk with
  | zero => exact absurd HA.out (by simp [impl_costOf.l0])
  | succ k1 =>
   have H := HA.out; clear HA; simp only [impl_costOf.l0] at H
   by_cases c4 : x10_1 < (l1.length : Int)
   ·rw [if_pos c4] at H; have c4b0 := decide_eq_true c4; clear c4; by_cases c5 : 0 ≤ x10_1
    ·rw [if_pos c5] at H; have c5b0 := decide_eq_true c5; clear c5; by_cases c6 : x10_1 < (l1.length : Int)
     ·rw [if_pos c6] at H; have c6b0 := decide_eq_true c6; clear c6; by_cases c7 : 0 ≤ (rd l1 x10_1)
      ·rw [if_pos c7] at H; have c7b0 := decide_eq_true c7; clear c7; by_cases c8 : (rd l1 x10_1) < (l0_3.length : Int)
       ·rw [if_pos c8] at H; have c8b0 := decide_eq_true c8; clear c8; by_cases c9 : (rd l1 x10_1) < (l0_4.length : Int)
        ·rw [if_pos c9] at H; have c9b0 := decide_eq_true c9; clear c9; have H' := ak H; clear H; have p764 : 0 ≤ (x10_1 : Int) := od; have q764 : x10_1 < (l1.length : Int) := od; obtain ⟨ad764, e764, hx764_0⟩ := Kd.at_int HR1.out x10_1 p764 q764
         cases e764; replace hx764_0 := cb HB.out hx764_0; replace p764 := eq_true p764; replace q764 := eq_true q764; have hcz10 := cz6 BK763.out; have p765 : 0 ≤ ((rd l1 x10_1) : Int) := od; have q765 : (rd l1 x10_1) < (l0_3.length : Int) := od; obtain ⟨ad765, e765, hx765_0⟩ := Kd.at_int HR0_3.out (rd l1 x10_1) p765 q765
         cases e765; replace hx765_0 := cb HB.out hx765_0; replace p765 := eq_true p765; replace q765 := eq_true q765; have p766 : 0 ≤ ((rd l1 x10_1) : Int) := od; have q766 : (rd l1 x10_1) < (l0_4.length : Int) := od; obtain ⟨ad766, e766, hx766_0⟩ := Kd.at_int HR0_4.out (rd l1 x10_1) p766 q766
         cases e766; replace hx766_0 := cb HB.out hx766_0; replace p766 := eq_true p766; replace q766 := eq_true q766; go_wp2
         repeat (go_quiet (fail); try go_wp2)
         go_roundg k1
         case measure => have := HK1.out; omega
         case rel => exact ⟨(wrap64 (x5_1 + (wrap64 ((rd l0_3 (rd l1 x10_1)) + (rd l0_4 (rd l1 x10_1)))))), (wrap64 (x10_1 + 1)), es, es, H', ⟨by have := HK1.out; omega⟩, ⟨vk BK763.out⟩, ⟨vb HB.out⟩⟩
        ·exact nO_ c9 H
       ·exact nO_ c8 H
      ·exact nO_ c7 H
     ·exact nO_ c6 H
    ·exact nO_ c5 H
   ·rw [if_neg c4] at H; have c4b0 := decide_eq_false c4; clear c4; obtain rfl := sj H; go_wp2
    repeat (go_quiet (fail); try go_wp2)
    go_ret
    exact ⟨ew, vb HB.out⟩


end Go.Proofs.Ytancnecddlbhkaa.Pall
