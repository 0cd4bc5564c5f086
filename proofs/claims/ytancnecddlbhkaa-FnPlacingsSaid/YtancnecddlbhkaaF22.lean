/- Go functions of the program, each as a Lean function, and the proof that each call comes to what the Lean function tells; no condition beyond those that stand there. -/
import Derived.Test.YtancnecddlbhkaaF00
import Derived.Test.YtancnecddlbhkaaF02
import Derived.Test.YtancnecddlbhkaaF18
import Derived.Test.YtancnecddlbhkaaF21
import Derived.Test.YtancnecddlbhkaaWLast
import Derived.Test.YtancnecddlbhkaaSpare
import Derived.Test.YtancnecddlbhkaaCm
import Derived.Test.YtancnecddlbhkaaCm3
import Derived.Test.YtancnecddlbhkaaCm6
namespace Go.Proofs.Ytancnecddlbhkaa.Pall
open Go.RowKit Go.Proofs.YtancnecddlbhkaaW.PrintWords Go.Proofs.YtancnecddlbhkaaW.PrintLast
set_option linter.unusedVariables false
set_option linter.unusedSimpArgs false

/-! ### spec_CostOf: function 30 -/
def spec_CostOf.j0 : Nat → List Int → Int → Bool → List (S98) → List (S103) → List Int → List Int → List Int → Int → Option (Int × Int)
 | 0, _, _, _, _, _, _, _, _, _ => none
 | k + 1, x1, x6, x17, x759000, x759001, x759002, x759003, x759004, x759005 => if x17 = true then (if 5 = 0 then ((spec_l18Cost.f k x759000 x759001 x759002 x759003 x759004 x759005 x1).bind fun t761 => (some (t761, 0))) else (some (0, 5))) else (if x6 = 0 then ((spec_l18Cost.f k x759000 x759001 x759002 x759003 x759004 x759005 x1).bind fun t762 => (some (t762, 0))) else (some (0, x6)))
def spec_CostOf.f (k : Nat) (l0_0 : List (S98)) (l0_1 : List (S103)) (l0_2 : List Int) (l0_3 : List Int) (l0_4 : List Int) (a0_5 : Int) (l1 : List Int) : Option (Int × Int) := (spec_l18Code.f k l0_0 l0_1 l0_2 l0_3 l0_4 a0_5 l1).bind fun t759 => (if t759 = 0 then ((spec_l18Is.f k l0_0 l0_1 l0_2 l0_3 l0_4 a0_5 l1).bind fun t760 => (spec_CostOf.j0 k l1 t759 (!t760) l0_0 l0_1 l0_2 l0_3 l0_4 a0_5)) else (spec_CostOf.j0 k l1 t759 false l0_0 l0_1 l0_2 l0_3 l0_4 a0_5))
theorem spec_CostOf.mono_l : ∀ k, (∀ y0 y1 y2 y3 y4 y5 y6 y7 y8, LeO (spec_CostOf.j0 k y0 y1 y2 y3 y4 y5 y6 y7 y8) (spec_CostOf.j0 (k + 1) y0 y1 y2 y3 y4 y5 y6 y7 y8))
 | 0 => fun _ _ _ _ _ _ _ _ _ r h => by simp [spec_CostOf.j0] at h
 | k + 1 => by
  have ih0 := spec_CostOf.mono_l k
  ·intro y0 y1 y2 y3 y4 y5 y6 y7 y8; unfold spec_CostOf.j0
   repeat' (with_reducible first | exact ih0 .. | exact spec_l18Code.mono .. | exact spec_l18Cost.mono .. | exact spec_l18Is.mono .. | exact lm | refine LeO.ite ?_ ?_ | refine LeO.bind ?_ (fun _ => ?_))
theorem spec_CostOf.mono : ∀ a0 a1 a2 a3 a4 a5 a6 k, LeO (spec_CostOf.f k a0 a1 a2 a3 a4 a5 a6) (spec_CostOf.f (k + 1) a0 a1 a2 a3 a4 a5 a6) := by
 intro a0 a1 a2 a3 a4 a5 a6 k; have ih0 := spec_CostOf.mono_l k; unfold spec_CostOf.f
 repeat' (with_reducible first | exact ih0 .. | exact spec_l18Code.mono .. | exact spec_l18Cost.mono .. | exact spec_l18Is.mono .. | exact lm | refine LeO.ite ?_ ?_ | refine LeO.bind ?_ (fun _ => ?_))
set_option maxHeartbeats 8000000 in
set_option maxRecDepth 100000 in
theorem spec_CostOf.calls (k : Nat) (A0_0 : Option Addr) (c0_0 : Nat) (l0_0 : List (S98)) (A0_1 : Option Addr) (c0_1 : Nat) (l0_1 : List (S103)) (A0_2 : Option Addr) (c0_2 : Nat) (l0_2 : List Int) (A0_3 : Option Addr) (c0_3 : Nat) (l0_3 : List Int) (A0_4 : Option Addr) (c0_4 : Nat) (l0_4 : List Int) (a0_5 : Int) (A1 : Option Addr) (c1 : Nat) (l1 : List Int) (r1 : Int) (r2 : Int) (w : World) (hr0_0 : Kd.C k98 w A0_0 l0_0.length l0_0) (hc0_0 : l0_0.length ≤ c0_0) (hr0_1 : Kd.C k103 w A0_1 l0_1.length l0_1) (hc0_1 : l0_1.length ≤ c0_1) (hr0_2 : Kd.C (Kd.int .i64) w A0_2 l0_2.length l0_2) (hc0_2 : l0_2.length ≤ c0_2) (hr0_3 : Kd.C (Kd.int .i64) w A0_3 l0_3.length l0_3) (hc0_3 : l0_3.length ≤ c0_3) (hr0_4 : Kd.C (Kd.int .i64) w A0_4 l0_4.length l0_4) (hc0_4 : l0_4.length ≤ c0_4) (hr1 : Kd.C (Kd.int .i64) w A1 l1.length l1) (hc1 : l1.length ≤ c1) (h : spec_CostOf.f k l0_0 l0_1 l0_2 l0_3 l0_4 a0_5 l1 = some (r1, r2)) :
  Calls Try.prog 30 #[.agg (f5 A0_0 l0_0 c0_0 A0_1 l0_1 c0_1 A0_2 l0_2 c0_2 A0_3 l0_3 c0_3 A0_4 l0_4 c0_4 a0_5), .slice A1 l1.length c1] w fun e w' => e = .returned (.tuple #[.int .i64 r1, .int .i64 r2]) ∧ Below w.heap.size w w' := by
 have hu33 := Try.underlying33; have HR0_0 := ak hr0_0; have HC0_0 := ak hc0_0; clear hr0_0 hc0_0; have HR0_1 := ak hr0_1; have HC0_1 := ak hc0_1; clear hr0_1 hc0_1; have HR0_2 := ak hr0_2; have HC0_2 := ak hc0_2; clear hr0_2 hc0_2; have HR0_3 := ak hr0_3; have HC0_3 := ak hc0_3; clear hr0_3 hc0_3; have HR0_4 := ak hr0_4; have HC0_4 := ak hc0_4; clear hr0_4 hc0_4; have HR1 := ak hr1; have HC1 := ak hc1; clear hr1 hc1; have HB := ak (Below.refl w.heap.size w); unfold spec_CostOf.f at h; have H := h; clear h; obtain ⟨t759, A3, H⟩ := bnk H; have HC4 := ak H; clear H; go_enter Try.func30, Try.ntmps30; go_upto_region 2 with (first | ((with_reducible refine gate_dst (N := 2) rfl ?_); refine bx 2 (f5 A0_0 l0_0 c0_0 A0_1 l0_1 c0_1 A0_2 l0_2 c0_2 A0_3 l0_3 c0_3 A0_4 l0_4 c0_4 a0_5) 33 ?_; intro gb758 hg w5 hbox hb; have BK758 := ak hbox; have GW758 := gw hg HB; have GE758 := gw hg HB; replace HB := bs HB hb; clear hb hbox hg; have hcz6 := cz6 BK758.out) | ((with_reducible refine at_fn (f := 71) rfl ?_); refine gl (some 9) Try.func71 #[.agg (f5 A0_0 l0_0 c0_0 A0_1 l0_1 c0_1 A0_2 l0_2 c0_2 A0_3 l0_3 c0_3 A0_4 l0_4 c0_4 a0_5), .slice A1 l1.length c1] ?_; (with_reducible refine (spec_l18Code.calls k _ _ l0_0 _ _ l0_1 _ _ l0_2 _ _ l0_3 _ _ l0_4 a0_5 _ _ l1 t759 _ ?_ HC0_0.out ?_ HC0_1.out ?_ HC0_2.out ?_ HC0_3.out ?_ HC0_4.out ?_ HC1.out A3.out).mono ?_); exact vd HR0_0.out HB.out; exact vd HR0_1.out HB.out; exact vd HR0_2.out HB.out; exact vd HR0_3.out HB.out; exact vd HR0_4.out HB.out; exact vd HR1.out HB.out; rintro e w7 ⟨rfl, hb⟩; refine ⟨_, rfl, ?_⟩; replace BK758 := kb BK758 hb; replace HB := bs HB hb; (try clear hb)))
 (try simp only [Act.put, List.setIfInBounds_toArray, List.set_cons_zero, List.set_cons_succ])
 go_cut [17] (fun v17 wc => ∃ (kq : Nat) (x17_3 : Bool), v17 = .bool x17_3 ∧ Aside0 (spec_CostOf.j0 kq l1 t759 x17_3 l0_0 l0_1 l0_2 l0_3 l0_4 a0_5 = some (r1, r2)) ∧ Aside0 (kq ≤ k) ∧ Aside0 (wc.heap[gb758]? = some (.cells (f5 A0_0 l0_0 c0_0 A0_1 l0_1 c0_1 A0_2 l0_2 c0_2 A0_3 l0_3 c0_3 A0_4 l0_4 c0_4 a0_5) 33 (0, 0))) ∧ Aside0 (Below w.heap.size w wc))
 case first =>
  have H := HC4.out; clear HC4; by_cases c8 : t759 = 0
  ·rw [if_pos c8] at H; obtain ⟨c8b0, c8b1⟩ := bqt c8; clear c8; (first | rw [c8b0] | (simp only [i64_w, i32_w]; rw [c8b0]) | skip)
   obtain ⟨t760, A9, H⟩ := bnk H; have H' := ak H; clear H; have hcz10 := cz6 BK758.out; go_wp2_with (first | (go_at_call 72; (with_reducible refine (spec_l18Is.calls k _ _ l0_0 _ _ l0_1 _ _ l0_2 _ _ l0_3 _ _ l0_4 a0_5 _ _ l1 t760 _ ?_ HC0_0.out ?_ HC0_1.out ?_ HC0_2.out ?_ HC0_3.out ?_ HC0_4.out ?_ HC1.out A9.out).mono ?_); exact vd HR0_0.out HB.out; exact vd HR0_1.out HB.out; exact vd HR0_2.out HB.out; exact vd HR0_3.out HB.out; exact vd HR0_4.out HB.out; exact vd HR1.out HB.out; rintro e w11 ⟨rfl, hb⟩; replace BK758 := kb BK758 hb; replace HB := bs HB hb; (try clear hb)))
   go_meet
   case rel => exact ⟨_, (!t760), es, H', ⟨by first | omega | exact Nat.le_refl _⟩, ⟨vk BK758.out⟩, ⟨vb HB.out⟩⟩
  ·rw [if_neg c8] at H; obtain ⟨c8b0, c8b1⟩ := bqf c8; (first | rw [c8b0] | (simp only [i64_w, i32_w]; rw [c8b0]) | skip)
   have H' := ak H; clear H; go_wp2
   go_meet
   case rel => exact ⟨_, (false), es, H', ⟨by first | omega | exact Nat.le_refl _⟩, ⟨vk BK758.out⟩, ⟨vb HB.out⟩⟩
 case rest =>
  clear HC4; obtain ⟨kq, x17_3, rfl, HA, HJ3, BK758, HB⟩ := hcut
  cases kq with
  | zero => exact absurd HA.out (by simp [spec_CostOf.j0])
  | succ kj3 =>
   have H := HA.out; clear HA; simp only [spec_CostOf.j0] at H
   by_cases c12 : x17_3 = true
   ·subst c12; rw [if_pos rfl] at H; by_cases c13 : 5 = 0
    ·exact absurd c13 (by decide)
    ·rw [if_neg c13] at H; obtain ⟨c13b0, c13b1⟩ := bqf c13; simp only [Option.some.injEq, Prod.mk.injEq] at H
     obtain ⟨rfl, rfl⟩ := H; go_wp2
     go_ret2
     exact ⟨ew, vb HB.out⟩
   ·replace c12 := Bool.eq_false_iff.mpr c12; subst c12; rw [if_neg nf] at H; by_cases c17 : t759 = 0
    ·rw [if_pos c17] at H; obtain ⟨c17b0, c17b1⟩ := bqt c17; clear c17; obtain ⟨t762, A18, H⟩ := bnk H; simp only [Option.some.injEq, Prod.mk.injEq] at H
     obtain ⟨rfl, rfl⟩ := H; have hcz19 := cz6 BK758.out; go_wp2_with (first | ((with_reducible refine at_fn (f := 76) rfl ?_); refine gl (some 23) Try.func76 #[.agg (f5 A0_0 l0_0 c0_0 A0_1 l0_1 c0_1 A0_2 l0_2 c0_2 A0_3 l0_3 c0_3 A0_4 l0_4 c0_4 a0_5), .slice A1 l1.length c1] ?_; (with_reducible refine (spec_l18Cost.calls kj3 _ _ l0_0 _ _ l0_1 _ _ l0_2 _ _ l0_3 _ _ l0_4 a0_5 _ _ l1 t762 _ ?_ HC0_0.out ?_ HC0_1.out ?_ HC0_2.out ?_ HC0_3.out ?_ HC0_4.out ?_ HC1.out A18.out).mono ?_); exact vd HR0_0.out HB.out; exact vd HR0_1.out HB.out; exact vd HR0_2.out HB.out; exact vd HR0_3.out HB.out; exact vd HR0_4.out HB.out; exact vd HR1.out HB.out; rintro e w20 ⟨rfl, hb⟩; refine ⟨_, rfl, ?_⟩; replace BK758 := kb BK758 hb; replace HB := bs HB hb; (try clear hb)))
     go_ret2
     exact ⟨ew, vb HB.out⟩
    ·rw [if_neg c17] at H; obtain ⟨c17b0, c17b1⟩ := bqf c17; simp only [Option.some.injEq, Prod.mk.injEq] at H
     obtain ⟨rfl, rfl⟩ := H; go_wp2
     go_ret2
     exact ⟨ew, vb HB.out⟩


/-! ### impl_CostOf: function 31 -/
def impl_CostOf.f (k : Nat) (l0_0 : List (S98)) (l0_1 : List (S103)) (l0_2 : List Int) (l0_3 : List Int) (l0_4 : List Int) (a0_5 : Int) (l1 : List Int) : Option (Int × Int) := (impl_IsField.f k l0_0 l0_1 l0_2 l0_3 l0_4 a0_5).bind fun t768 => (if t768 = true then ((impl_areSpots.f k l0_0 l0_1 l0_2 l0_3 l0_4 a0_5 l1).bind fun t769 => (if t769 = true then ((impl_isPlacing.f k l0_0 l0_1 l0_2 l0_3 l0_4 a0_5 l1).bind fun t770 => (if t770 = true then ((impl_costOf.f k l0_0 l0_1 l0_2 l0_3 l0_4 a0_5 l1).bind fun t771 => (some (t771, 0))) else (some (0, 5)))) else (some (0, 2)))) else (some (0, 1)))
theorem impl_CostOf.mono : ∀ a0 a1 a2 a3 a4 a5 a6 k, LeO (impl_CostOf.f k a0 a1 a2 a3 a4 a5 a6) (impl_CostOf.f (k + 1) a0 a1 a2 a3 a4 a5 a6) := by
 intro a0 a1 a2 a3 a4 a5 a6 k; unfold impl_CostOf.f
 repeat' (with_reducible first | exact impl_IsField.mono .. | exact impl_areSpots.mono .. | exact impl_costOf.mono .. | exact impl_isPlacing.mono .. | exact lm | refine LeO.ite ?_ ?_ | refine LeO.bind ?_ (fun _ => ?_))
set_option maxHeartbeats 8000000 in
set_option maxRecDepth 100000 in
theorem impl_CostOf.calls (k : Nat) (A0_0 : Option Addr) (c0_0 : Nat) (l0_0 : List (S98)) (A0_1 : Option Addr) (c0_1 : Nat) (l0_1 : List (S103)) (A0_2 : Option Addr) (c0_2 : Nat) (l0_2 : List Int) (A0_3 : Option Addr) (c0_3 : Nat) (l0_3 : List Int) (A0_4 : Option Addr) (c0_4 : Nat) (l0_4 : List Int) (a0_5 : Int) (A1 : Option Addr) (c1 : Nat) (l1 : List Int) (r1 : Int) (r2 : Int) (w : World) (hr0_0 : Kd.C k98 w A0_0 l0_0.length l0_0) (hc0_0 : l0_0.length ≤ c0_0) (hr0_1 : Kd.C k103 w A0_1 l0_1.length l0_1) (hc0_1 : l0_1.length ≤ c0_1) (hr0_2 : Kd.C (Kd.int .i64) w A0_2 l0_2.length l0_2) (hc0_2 : l0_2.length ≤ c0_2) (hr0_3 : Kd.C (Kd.int .i64) w A0_3 l0_3.length l0_3) (hc0_3 : l0_3.length ≤ c0_3) (hr0_4 : Kd.C (Kd.int .i64) w A0_4 l0_4.length l0_4) (hc0_4 : l0_4.length ≤ c0_4) (hr1 : Kd.C (Kd.int .i64) w A1 l1.length l1) (hc1 : l1.length ≤ c1) (h : impl_CostOf.f k l0_0 l0_1 l0_2 l0_3 l0_4 a0_5 l1 = some (r1, r2)) :
  Calls Try.prog 31 #[.agg (f5 A0_0 l0_0 c0_0 A0_1 l0_1 c0_1 A0_2 l0_2 c0_2 A0_3 l0_3 c0_3 A0_4 l0_4 c0_4 a0_5), .slice A1 l1.length c1] w fun e w' => e = .returned (.tuple #[.int .i64 r1, .int .i64 r2]) ∧ Below w.heap.size w w' := by
 have hu33 := Try.underlying33; have HR0_0 := ak hr0_0; have HC0_0 := ak hc0_0; clear hr0_0 hc0_0; have HR0_1 := ak hr0_1; have HC0_1 := ak hc0_1; clear hr0_1 hc0_1; have HR0_2 := ak hr0_2; have HC0_2 := ak hc0_2; clear hr0_2 hc0_2; have HR0_3 := ak hr0_3; have HC0_3 := ak hc0_3; clear hr0_3 hc0_3; have HR0_4 := ak hr0_4; have HC0_4 := ak hc0_4; clear hr0_4 hc0_4; have HR1 := ak hr1; have HC1 := ak hc1; clear hr1 hc1; have HB := ak (Below.refl w.heap.size w); unfold impl_CostOf.f at h; have H := h; clear h; obtain ⟨t768, A30, H⟩ := bnd H; have A3 := ak A30
 clear A30; by_cases c4 : t768 = true
 subst c4; rw [if_pos rfl] at H; obtain ⟨t769, A5, H⟩ := bnk H; by_cases c6 : t769 = true
 subst c6; rw [if_pos rfl] at H; obtain ⟨t770, A7, H⟩ := bnk H; by_cases c8 : t770 = true
 subst c8; rw [if_pos rfl] at H; obtain ⟨t771, A9, H⟩ := bnk H; simp only [Option.some.injEq, Prod.mk.injEq] at H
 obtain ⟨rfl, rfl⟩ := H; rotate_left
 replace c8 := Bool.eq_false_iff.mpr c8; subst c8; rw [if_neg nf] at H; simp only [Option.some.injEq, Prod.mk.injEq] at H
 obtain ⟨rfl, rfl⟩ := H; rotate_left
 replace c6 := Bool.eq_false_iff.mpr c6; subst c6; rw [if_neg nf] at H; simp only [Option.some.injEq, Prod.mk.injEq] at H
 obtain ⟨rfl, rfl⟩ := H; rotate_left
 replace c4 := Bool.eq_false_iff.mpr c4; subst c4; rw [if_neg nf] at H; simp only [Option.some.injEq, Prod.mk.injEq] at H
 obtain ⟨rfl, rfl⟩ := H; rotate_left
 all_goals
  go_enter Try.func31, Try.ntmps31; go_wp2_with (first | ((with_reducible refine gate_dst (N := 2) rfl ?_); refine bx 2 (f5 A0_0 l0_0 c0_0 A0_1 l0_1 c0_1 A0_2 l0_2 c0_2 A0_3 l0_3 c0_3 A0_4 l0_4 c0_4 a0_5) 33 ?_; intro gb767 hg w9 hbox hb; have BK767 := ak hbox; have GW767 := gw hg HB; have GE767 := gw hg HB; replace HB := bs HB hb; clear hb hbox hg; have hcz9 := cz6 BK767.out) | ((with_reducible refine at_fn (f := 37) rfl ?_); refine gl (some 7) Try.func37 #[.agg (f5 A0_0 l0_0 c0_0 A0_1 l0_1 c0_1 A0_2 l0_2 c0_2 A0_3 l0_3 c0_3 A0_4 l0_4 c0_4 a0_5)] ?_; (with_reducible refine (impl_IsField.calls k _ _ l0_0 _ _ l0_1 _ _ l0_2 _ _ l0_3 _ _ l0_4 a0_5 _ _ ?_ HC0_0.out ?_ HC0_1.out ?_ HC0_2.out ?_ HC0_3.out ?_ HC0_4.out A3.out).mono ?_); exact vd HR0_0.out HB.out; exact vd HR0_1.out HB.out; exact vd HR0_2.out HB.out; exact vd HR0_3.out HB.out; exact vd HR0_4.out HB.out; rintro e w9 ⟨rfl, hb⟩; refine ⟨_, rfl, ?_⟩; replace BK767 := kb BK767 hb; replace HB := bs HB hb; (try clear hb); have hcz9 := cz6 BK767.out) | ((with_reducible refine at_fn (f := 74) rfl ?_); refine gl (some 11) Try.func74 #[.agg (f5 A0_0 l0_0 c0_0 A0_1 l0_1 c0_1 A0_2 l0_2 c0_2 A0_3 l0_3 c0_3 A0_4 l0_4 c0_4 a0_5), .slice A1 l1.length c1] ?_; (with_reducible refine (impl_areSpots.calls k _ _ l0_0 _ _ l0_1 _ _ l0_2 _ _ l0_3 _ _ l0_4 a0_5 _ _ l1 _ _ ?_ HC0_0.out ?_ HC0_1.out ?_ HC0_2.out ?_ HC0_3.out ?_ HC0_4.out ?_ HC1.out A5.out).mono ?_); exact vd HR0_0.out HB.out; exact vd HR0_1.out HB.out; exact vd HR0_2.out HB.out; exact vd HR0_3.out HB.out; exact vd HR0_4.out HB.out; exact vd HR1.out HB.out; rintro e w9 ⟨rfl, hb⟩; refine ⟨_, rfl, ?_⟩; replace BK767 := kb BK767 hb; replace HB := bs HB hb; (try clear hb); have hcz9 := cz6 BK767.out) | ((with_reducible refine at_fn (f := 75) rfl ?_); refine gl (some 15) Try.func75 #[.agg (f5 A0_0 l0_0 c0_0 A0_1 l0_1 c0_1 A0_2 l0_2 c0_2 A0_3 l0_3 c0_3 A0_4 l0_4 c0_4 a0_5), .slice A1 l1.length c1] ?_; (with_reducible refine (impl_isPlacing.calls k _ _ l0_0 _ _ l0_1 _ _ l0_2 _ _ l0_3 _ _ l0_4 a0_5 _ _ l1 _ _ ?_ HC0_0.out ?_ HC0_1.out ?_ HC0_2.out ?_ HC0_3.out ?_ HC0_4.out ?_ HC1.out A7.out).mono ?_); exact vd HR0_0.out HB.out; exact vd HR0_1.out HB.out; exact vd HR0_2.out HB.out; exact vd HR0_3.out HB.out; exact vd HR0_4.out HB.out; exact vd HR1.out HB.out; rintro e w9 ⟨rfl, hb⟩; refine ⟨_, rfl, ?_⟩; replace BK767 := kb BK767 hb; replace HB := bs HB hb; (try clear hb); have hcz9 := cz6 BK767.out) | ((with_reducible refine at_fn (f := 77) rfl ?_); refine gl (some 19) Try.func77 #[.agg (f5 A0_0 l0_0 c0_0 A0_1 l0_1 c0_1 A0_2 l0_2 c0_2 A0_3 l0_3 c0_3 A0_4 l0_4 c0_4 a0_5), .slice A1 l1.length c1] ?_; (with_reducible refine (impl_costOf.calls k _ _ l0_0 _ _ l0_1 _ _ l0_2 _ _ l0_3 _ _ l0_4 a0_5 _ _ l1 t771 _ ?_ HC0_0.out ?_ HC0_1.out ?_ HC0_2.out ?_ HC0_3.out ?_ HC0_4.out ?_ HC1.out A9.out).mono ?_); exact vd HR0_0.out HB.out; exact vd HR0_1.out HB.out; exact vd HR0_2.out HB.out; exact vd HR0_3.out HB.out; exact vd HR0_4.out HB.out; exact vd HR1.out HB.out; rintro e w9 ⟨rfl, hb⟩; refine ⟨_, rfl, ?_⟩; replace BK767 := kb BK767 hb; replace HB := bs HB hb; (try clear hb)))
  go_ret2
  exact ⟨ew, vb HB.out⟩


end Go.Proofs.Ytancnecddlbhkaa.Pall
