/- Go functions of the program, each as a Lean function, and the proof that each call comes to what the Lean function tells; no condition beyond those that stand there. -/
import Derived.Test.YtancnecddlbhkaaF00
import Derived.Test.YtancnecddlbhkaaF02
import Derived.Test.YtancnecddlbhkaaF28
import Derived.Test.YtancnecddlbhkaaF29
import Derived.Test.YtancnecddlbhkaaWMore
import Derived.Test.YtancnecddlbhkaaSpare
import Derived.Test.YtancnecddlbhkaaCm
import Derived.Test.YtancnecddlbhkaaCm3
import Derived.Test.YtancnecddlbhkaaCm6
namespace Go.Proofs.Ytancnecddlbhkaa.Pall
open Go.RowKit Go.Proofs.YtancnecddlbhkaaW.PrintWords Go.Proofs.YtancnecddlbhkaaW.PrintLast Go.Proofs.YtancnecddlbhkaaW.PrintMore
set_option linter.unusedVariables false
set_option linter.unusedSimpArgs false

/-! ### impl_GreatestGap: function 39 -/
def impl_GreatestGap.l0 : Nat → Int → Int → List (S98) → List (S103) → List Int → List Int → List Int → Int → Option (Int × Int)
 | 0, _, _, _, _, _, _, _, _ => none
 | k + 1, x2, x4, x8, x9, x10, x11, x12, x5 => if x2 < x4 then ((impl_floorDiv.f (wrap64 ((wrap64 (x2 + x4)) + 1)) 2).bind fun t3 => ((impl_hasPlacing.f k x8 x9 x10 x11 x12 t3 ([] : List Int)).bind fun t7 => (if t7 = true then (impl_GreatestGap.l0 k t3 x4 x8 x9 x10 x11 x12 t3) else (impl_GreatestGap.l0 k x2 (wrap64 (t3 - 1)) x8 x9 x10 x11 x12 t3)))) else (if x2 < 0 then (some (0, 4)) else (some (x2, 0)))
def impl_GreatestGap.f (k : Nat) (l0_0 : List (S98)) (l0_1 : List (S103)) (l0_2 : List Int) (l0_3 : List Int) (l0_4 : List Int) (a0_5 : Int) : Option (Int × Int) := (impl_IsField.f k l0_0 l0_1 l0_2 l0_3 l0_4 a0_5).bind fun t6 => (if t6 = true then (impl_GreatestGap.l0 k (-1) 10000 l0_0 l0_1 l0_2 l0_3 l0_4 a0_5) else (some (0, 1)))
set_option maxHeartbeats 8000000 in
set_option maxRecDepth 100000 in
theorem impl_GreatestGap.calls (k : Nat) (A0_0 : Option Addr) (c0_0 : Nat) (l0_0 : List (S98)) (A0_1 : Option Addr) (c0_1 : Nat) (l0_1 : List (S103)) (A0_2 : Option Addr) (c0_2 : Nat) (l0_2 : List Int) (A0_3 : Option Addr) (c0_3 : Nat) (l0_3 : List Int) (A0_4 : Option Addr) (c0_4 : Nat) (l0_4 : List Int) (a0_5 : Int) (r1 : Int) (r2 : Int) (w : World) (hr0_0 : Kd.C k98 w A0_0 l0_0.length l0_0) (hc0_0 : l0_0.length ≤ c0_0) (hr0_1 : Kd.C k103 w A0_1 l0_1.length l0_1) (hc0_1 : l0_1.length ≤ c0_1) (hr0_2 : Kd.C (Kd.int .i64) w A0_2 l0_2.length l0_2) (hc0_2 : l0_2.length ≤ c0_2) (hr0_3 : Kd.C (Kd.int .i64) w A0_3 l0_3.length l0_3) (hc0_3 : l0_3.length ≤ c0_3) (hr0_4 : Kd.C (Kd.int .i64) w A0_4 l0_4.length l0_4) (hc0_4 : l0_4.length ≤ c0_4) (h : impl_GreatestGap.f k l0_0 l0_1 l0_2 l0_3 l0_4 a0_5 = some (r1, r2)) :
  Calls Try.prog 39 #[.agg (f5 A0_0 l0_0 c0_0 A0_1 l0_1 c0_1 A0_2 l0_2 c0_2 A0_3 l0_3 c0_3 A0_4 l0_4 c0_4 a0_5)] w fun e w' => e = .returned (.tuple #[.int .i64 r1, .int .i64 r2]) ∧ Below w.heap.size w w' := by
 have hu33 := Try.underlying33; have HR0_0 := ak hr0_0; have HC0_0 := ak hc0_0; clear hr0_0 hc0_0; have HR0_1 := ak hr0_1; have HC0_1 := ak hc0_1; clear hr0_1 hc0_1; have HR0_2 := ak hr0_2; have HC0_2 := ak hc0_2; clear hr0_2 hc0_2; have HR0_3 := ak hr0_3; have HC0_3 := ak hc0_3; clear hr0_3 hc0_3; have HR0_4 := ak hr0_4; have HC0_4 := ak hc0_4; clear hr0_4 hc0_4; have HB := ak (Below.refl w.heap.size w); unfold impl_GreatestGap.f at h; have H := h; clear h; obtain ⟨t6, A2, H⟩ := bnk H; by_cases c3 : t6 = true
 ·subst c3; rw [if_pos rfl] at H; have H' := ak H; clear H; go_enter Try.func39, Try.ntmps39; go_wp2_with (first | ((with_reducible refine gate_dst (N := 1) rfl ?_); refine bx 1 (f5 A0_0 l0_0 c0_0 A0_1 l0_1 c0_1 A0_2 l0_2 c0_2 A0_3 l0_3 c0_3 A0_4 l0_4 c0_4 a0_5) 33 ?_; intro gb0 hg w4 hbox hb; have BK0 := ak hbox; have GW1257 := gw hg HB; have GE0 := gw hg HB; replace HB := bs HB hb; clear hb hbox hg; have hcz4 := cz6 BK0.1) | ((with_reducible refine at_fn (f := 37) rfl ?_); refine gl (some 8) Try.func37 #[.agg (f5 A0_0 l0_0 c0_0 A0_1 l0_1 c0_1 A0_2 l0_2 c0_2 A0_3 l0_3 c0_3 A0_4 l0_4 c0_4 a0_5)] ?_; (with_reducible refine (impl_IsField.calls k _ _ l0_0 _ _ l0_1 _ _ l0_2 _ _ l0_3 _ _ l0_4 a0_5 _ _ ?_ HC0_0.1 ?_ HC0_1.1 ?_ HC0_2.1 ?_ HC0_3.1 ?_ HC0_4.1 A2.1).mono ?_); exact vd HR0_0.1 HB.1; exact vd HR0_1.1 HB.1; exact vd HR0_2.1 HB.1; exact vd HR0_3.1 HB.1; exact vd HR0_4.1 HB.1; rintro e w6 ⟨rfl, hb⟩; refine ⟨_, rfl, ?_⟩; replace BK0 := kb BK0 hb; replace HB := bs HB hb; (try clear hb)))
  go_loopg [4, 5] k (fun kq v2 v4 w' => ∃ (x2_1 : Int) (x4_1 : Int) (x5_1 : Int), v2 = .int .i64 x2_1 ∧ v4 = .int .i64 x4_1 ∧ Aside0 (impl_GreatestGap.l0 kq x2_1 x4_1 l0_0 l0_1 l0_2 l0_3 l0_4 x5_1 = some (r1, r2)) ∧ Aside0 (kq ≤ k) ∧ Aside0 (w'.heap[gb0]? = some (.cells (f5 A0_0 l0_0 c0_0 A0_1 l0_1 c0_1 A0_2 l0_2 c0_2 A0_3 l0_3 c0_3 A0_4 l0_4 c0_4 x5_1) 33 (0, 0))) ∧ Aside0 (Below w.heap.size w w'))
  case atStart => exact ⟨((-1)), (10000), (a0_5), es, es, H', ⟨Nat.le_refl _⟩, ⟨vk BK0.1⟩, ⟨vb HB.1⟩⟩
  case round =>
   clear H'; obtain ⟨x2_1, x4_1, x5_1, rfl, rfl, HA, HK1, BK0, HB⟩ := hrel
   cases gk with
   | zero => exact absurd HA.1 (by simp [impl_GreatestGap.l0])
   | succ k1 =>
    have H := HA.1; clear HA; simp only [impl_GreatestGap.l0] at H
    by_cases c7 : x2_1 < x4_1
    ·rw [if_pos c7] at H; have c7b0 := decide_eq_true c7; clear c7; obtain ⟨t3, A8, H⟩ := bnk H; obtain ⟨t7, A9, H⟩ := bnk H; by_cases c10 : t7 = true
     ·subst c10; rw [if_pos rfl] at H; have H' := ak H; clear H; go_wp2_with (first | ((with_reducible refine at_fn (f := 88) rfl ?_); refine gl (some 17) Try.func88 #[.int .i64 (wrap64 ((wrap64 (x2_1 + x4_1)) + 1)), .int .i64 2] ?_; (with_reducible refine (impl_floorDiv.calls (wrap64 ((wrap64 (x2_1 + x4_1)) + 1)) 2 t3 _ A8.1).mono ?_); rintro e w' ⟨rfl, ⟨nd, rfl⟩⟩; refine ⟨_, rfl, ?_⟩; (try (rw [drewN_self wr]; generalize hq_ : World.drewN wr _ = wr; have n0_ : Aside0 (wr.heap[gb0]? = some (.cells (f5 A0_0 l0_0 c0_0 A0_1 l0_1 c0_1 A0_2 l0_2 c0_2 A0_3 l0_3 c0_3 A0_4 l0_4 c0_4 x5_1) 33 (0, 0))) := ⟨by rw [← hq_]; exact (vk BK0.1)⟩; have n1_ : Aside0 (Below w.heap.size w wr) := ⟨by rw [← hq_]; exact (vb HB.1)⟩; clear BK0 HB hq_; have BK0 := n0_; have HB := n1_; clear n0_ n1_)); have hcz13 := cz6 BK0.1) | ((with_reducible refine at_fn (f := 89) rfl ?_); refine gl (some 21) Try.func89 #[.agg (f5 A0_0 l0_0 c0_0 A0_1 l0_1 c0_1 A0_2 l0_2 c0_2 A0_3 l0_3 c0_3 A0_4 l0_4 c0_4 t3), .slice none 0 0] ?_; (refine (impl_hasPlacing.calls k1 _ _ l0_0 _ _ l0_1 _ _ l0_2 _ _ l0_3 _ _ l0_4 t3 _ _ ([] : List Int) true _ ?_ ?_ ?_ ?_ ?_ ?_ ?_ ?_ ?_ ?_ ?_ ?_ A9.1).mono ?_); exact Kd.C_below HR0_0.1 (vb HB.1); exact HC0_0.1; exact Kd.C_below HR0_1.1 (vb HB.1); exact HC0_1.1; exact Kd.C_below HR0_2.1 (vb HB.1); exact HC0_2.1; exact Kd.C_below HR0_3.1 (vb HB.1); exact HC0_3.1; exact Kd.C_below HR0_4.1 (vb HB.1); exact HC0_4.1; exact Kd.C_nil _ _; exact Nat.le_refl _; rintro e w12 ⟨rfl, hb⟩; refine ⟨_, rfl, ?_⟩; replace BK0 := ak (blk_below (g := gb0) (o := .cells (f5 A0_0 l0_0 c0_0 A0_1 l0_1 c0_1 A0_2 l0_2 c0_2 A0_3 l0_3 c0_3 A0_4 l0_4 c0_4 t3) 33 (0, 0)) (vz BK0.1) hb); replace HB := bs HB hb; (try clear hb)))
      go_roundg k1
      case measure => have := HK1.1; omega
      case rel => exact ⟨(t3), (x4_1), (t3), es, es, H', ⟨by have := HK1.1; omega⟩, ⟨vk BK0.1⟩, ⟨vb HB.1⟩⟩
     ·replace c10 := Bool.eq_false_iff.mpr c10; subst c10; rw [if_neg nf] at H; have H' := ak H; clear H; go_wp2_with (first | ((with_reducible refine at_fn (f := 88) rfl ?_); refine gl (some 17) Try.func88 #[.int .i64 (wrap64 ((wrap64 (x2_1 + x4_1)) + 1)), .int .i64 2] ?_; (with_reducible refine (impl_floorDiv.calls (wrap64 ((wrap64 (x2_1 + x4_1)) + 1)) 2 t3 _ A8.1).mono ?_); rintro e w' ⟨rfl, ⟨nd, rfl⟩⟩; refine ⟨_, rfl, ?_⟩; (try (rw [drewN_self wr]; generalize hq_ : World.drewN wr _ = wr; have n0_ : Aside0 (wr.heap[gb0]? = some (.cells (f5 A0_0 l0_0 c0_0 A0_1 l0_1 c0_1 A0_2 l0_2 c0_2 A0_3 l0_3 c0_3 A0_4 l0_4 c0_4 x5_1) 33 (0, 0))) := ⟨by rw [← hq_]; exact (vk BK0.1)⟩; have n1_ : Aside0 (Below w.heap.size w wr) := ⟨by rw [← hq_]; exact (vb HB.1)⟩; clear BK0 HB hq_; have BK0 := n0_; have HB := n1_; clear n0_ n1_)); have hcz14 := cz6 BK0.1) | ((with_reducible refine at_fn (f := 89) rfl ?_); refine gl (some 21) Try.func89 #[.agg (f5 A0_0 l0_0 c0_0 A0_1 l0_1 c0_1 A0_2 l0_2 c0_2 A0_3 l0_3 c0_3 A0_4 l0_4 c0_4 t3), .slice none 0 0] ?_; (refine (impl_hasPlacing.calls k1 _ _ l0_0 _ _ l0_1 _ _ l0_2 _ _ l0_3 _ _ l0_4 t3 _ _ ([] : List Int) false _ ?_ ?_ ?_ ?_ ?_ ?_ ?_ ?_ ?_ ?_ ?_ ?_ A9.1).mono ?_); exact Kd.C_below HR0_0.1 (vb HB.1); exact HC0_0.1; exact Kd.C_below HR0_1.1 (vb HB.1); exact HC0_1.1; exact Kd.C_below HR0_2.1 (vb HB.1); exact HC0_2.1; exact Kd.C_below HR0_3.1 (vb HB.1); exact HC0_3.1; exact Kd.C_below HR0_4.1 (vb HB.1); exact HC0_4.1; exact Kd.C_nil _ _; exact Nat.le_refl _; rintro e w14 ⟨rfl, hb⟩; refine ⟨_, rfl, ?_⟩; replace BK0 := ak (blk_below (g := gb0) (o := .cells (f5 A0_0 l0_0 c0_0 A0_1 l0_1 c0_1 A0_2 l0_2 c0_2 A0_3 l0_3 c0_3 A0_4 l0_4 c0_4 t3) 33 (0, 0)) (vz BK0.1) hb); replace HB := bs HB hb; (try clear hb)))
      go_roundg k1
      case measure => have := HK1.1; omega
      case rel => exact ⟨(x2_1), (wrap64 (t3 - 1)), (t3), es, es, H', ⟨by have := HK1.1; omega⟩, ⟨vk BK0.1⟩, ⟨vb HB.1⟩⟩
    ·rw [if_neg c7] at H; have c7b0 := decide_eq_false c7; clear c7; by_cases c15 : x2_1 < 0
     ·rw [if_pos c15] at H; have c15b0 := decide_eq_true c15; clear c15; simp only [Option.some.injEq, Prod.mk.injEq] at H
      obtain ⟨rfl, rfl⟩ := H; go_wp2
      go_ret2
      exact ⟨ew, vb HB.1⟩
     ·rw [if_neg c15] at H; have c15b0 := decide_eq_false c15; clear c15; simp only [Option.some.injEq, Prod.mk.injEq] at H
      obtain ⟨rfl, rfl⟩ := H; go_wp2
      go_ret2
      exact ⟨ew, vb HB.1⟩
 ·replace c3 := Bool.eq_false_iff.mpr c3; subst c3; rw [if_neg nf] at H; simp only [Option.some.injEq, Prod.mk.injEq] at H
  obtain ⟨rfl, rfl⟩ := H; go_enter Try.func39, Try.ntmps39; go_wp2_with (first | ((with_reducible refine gate_dst (N := 1) rfl ?_); refine bx 1 (f5 A0_0 l0_0 c0_0 A0_1 l0_1 c0_1 A0_2 l0_2 c0_2 A0_3 l0_3 c0_3 A0_4 l0_4 c0_4 a0_5) 33 ?_; intro gb0 hg w16 hbox hb; have BK0 := ak hbox; have GW1257 := gw hg HB; have GE0 := gw hg HB; replace HB := bs HB hb; clear hb hbox hg; have hcz15 := cz6 BK0.1) | ((with_reducible refine at_fn (f := 37) rfl ?_); refine gl (some 8) Try.func37 #[.agg (f5 A0_0 l0_0 c0_0 A0_1 l0_1 c0_1 A0_2 l0_2 c0_2 A0_3 l0_3 c0_3 A0_4 l0_4 c0_4 a0_5)] ?_; (with_reducible refine (impl_IsField.calls k _ _ l0_0 _ _ l0_1 _ _ l0_2 _ _ l0_3 _ _ l0_4 a0_5 _ _ ?_ HC0_0.1 ?_ HC0_1.1 ?_ HC0_2.1 ?_ HC0_3.1 ?_ HC0_4.1 A2.1).mono ?_); exact vd HR0_0.1 HB.1; exact vd HR0_1.1 HB.1; exact vd HR0_2.1 HB.1; exact vd HR0_3.1 HB.1; exact vd HR0_4.1 HB.1; rintro e w18 ⟨rfl, hb⟩; refine ⟨_, rfl, ?_⟩; replace BK0 := kb BK0 hb; replace HB := bs HB hb; (try clear hb)))
  go_ret2
  exact ⟨ew, vb HB.1⟩


end Go.Proofs.Ytancnecddlbhkaa.Pall
