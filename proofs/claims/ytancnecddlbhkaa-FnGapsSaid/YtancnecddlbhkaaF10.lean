/- Go functions of the program, each as a Lean function, and the proof that each call comes to what the Lean function tells; no condition beyond those that stand there. -/
import Derived.Test.YtancnecddlbhkaaF00
import Derived.Test.YtancnecddlbhkaaF02
import Derived.Test.YtancnecddlbhkaaF09
import Derived.Test.YtancnecddlbhkaaWN
import Derived.Test.YtancnecddlbhkaaSpare
import Derived.Test.YtancnecddlbhkaaCm
import Derived.Test.YtancnecddlbhkaaCm3
import Derived.Test.YtancnecddlbhkaaCm6
namespace Go.Proofs.Ytancnecddlbhkaa.Pall
open Go.RowKit Go.Proofs.YtancnecddlbhkaaW.PrintWords Go.Proofs.YtancnecddlbhkaaW.PrintLast
set_option linter.unusedVariables false
set_option linter.unusedSimpArgs false

/-! ### impl_CountPlacings: function 18 -/
def impl_CountPlacings.f (k : Nat) (l0_0 : List (S98)) (l0_1 : List (S103)) (l0_2 : List Int) (l0_3 : List Int) (l0_4 : List Int) (a0_5 : Int) : Option (Int × Int) := (impl_IsField.f k l0_0 l0_1 l0_2 l0_3 l0_4 a0_5).bind fun t1 => (if t1 = true then ((impl_placings.f k l0_0 l0_1 l0_2 l0_3 l0_4 a0_5 ([] : List Int)).bind fun t2 => (some ((t2.length : Int), 0))) else (some (0, 1)))
set_option maxHeartbeats 8000000 in
set_option maxRecDepth 100000 in
theorem impl_CountPlacings.calls (k : Nat) (A0_0 : Option Addr) (c0_0 : Nat) (l0_0 : List (S98)) (A0_1 : Option Addr) (c0_1 : Nat) (l0_1 : List (S103)) (A0_2 : Option Addr) (c0_2 : Nat) (l0_2 : List Int) (A0_3 : Option Addr) (c0_3 : Nat) (l0_3 : List Int) (A0_4 : Option Addr) (c0_4 : Nat) (l0_4 : List Int) (a0_5 : Int) (r1 : Int) (r2 : Int) (w : World) (hr0_0 : Kd.C k98 w A0_0 l0_0.length l0_0) (hc0_0 : l0_0.length ≤ c0_0) (hr0_1 : Kd.C k103 w A0_1 l0_1.length l0_1) (hc0_1 : l0_1.length ≤ c0_1) (hr0_2 : Kd.C (Kd.int .i64) w A0_2 l0_2.length l0_2) (hc0_2 : l0_2.length ≤ c0_2) (hr0_3 : Kd.C (Kd.int .i64) w A0_3 l0_3.length l0_3) (hc0_3 : l0_3.length ≤ c0_3) (hr0_4 : Kd.C (Kd.int .i64) w A0_4 l0_4.length l0_4) (hc0_4 : l0_4.length ≤ c0_4) (h : impl_CountPlacings.f k l0_0 l0_1 l0_2 l0_3 l0_4 a0_5 = some (r1, r2)) :
  Calls Try.prog 18 #[.agg (f5 A0_0 l0_0 c0_0 A0_1 l0_1 c0_1 A0_2 l0_2 c0_2 A0_3 l0_3 c0_3 A0_4 l0_4 c0_4 a0_5)] w fun e w' => e = .returned (.tuple #[.int .i64 r1, .int .i64 r2]) ∧ Below w.heap.size w w' := by
 have hu33 := Try.underlying33; have HR0_0 := ak hr0_0; have HC0_0 := ak hc0_0; clear hr0_0 hc0_0; have HR0_1 := ak hr0_1; have HC0_1 := ak hc0_1; clear hr0_1 hc0_1; have HR0_2 := ak hr0_2; have HC0_2 := ak hc0_2; clear hr0_2 hc0_2; have HR0_3 := ak hr0_3; have HC0_3 := ak hc0_3; clear hr0_3 hc0_3; have HR0_4 := ak hr0_4; have HC0_4 := ak hc0_4; clear hr0_4 hc0_4; have HB := ak (Below.refl w.heap.size w); unfold impl_CountPlacings.f at h; have H := h; clear h; obtain ⟨t1, A2, H⟩ := bnk H; by_cases c3 : t1 = true
 subst c3; rw [if_pos rfl] at H; obtain ⟨t2, A4, H⟩ := bnk H; simp only [Option.some.injEq, Prod.mk.injEq] at H
 obtain ⟨rfl, rfl⟩ := H; rotate_left
 replace c3 := Bool.eq_false_iff.mpr c3; subst c3; rw [if_neg nf] at H; simp only [Option.some.injEq, Prod.mk.injEq] at H
 obtain ⟨rfl, rfl⟩ := H; rotate_left
 all_goals
  go_enter Try.func18, Try.ntmps18; go_wp2_with (first | ((with_reducible refine gate_dst (N := 1) rfl ?_); refine bx 1 (f5 A0_0 l0_0 c0_0 A0_1 l0_1 c0_1 A0_2 l0_2 c0_2 A0_3 l0_3 c0_3 A0_4 l0_4 c0_4 a0_5) 33 ?_; intro gb0 hg w9 hbox hb; have BK0 := ak hbox; have GW382 := gw hg HB; have GE0 := gw hg HB; replace HB := bs HB hb; clear hb hbox hg; have hcz5 := cz6 BK0.1) | ((with_reducible refine at_fn (f := 37) rfl ?_); refine gl (some 5) Try.func37 #[.agg (f5 A0_0 l0_0 c0_0 A0_1 l0_1 c0_1 A0_2 l0_2 c0_2 A0_3 l0_3 c0_3 A0_4 l0_4 c0_4 a0_5)] ?_; (with_reducible refine (impl_IsField.calls k _ _ l0_0 _ _ l0_1 _ _ l0_2 _ _ l0_3 _ _ l0_4 a0_5 _ _ ?_ HC0_0.1 ?_ HC0_1.1 ?_ HC0_2.1 ?_ HC0_3.1 ?_ HC0_4.1 A2.1).mono ?_); exact vd HR0_0.1 HB.1; exact vd HR0_1.1 HB.1; exact vd HR0_2.1 HB.1; exact vd HR0_3.1 HB.1; exact vd HR0_4.1 HB.1; rintro e w9 ⟨rfl, hb⟩; refine ⟨_, rfl, ?_⟩; replace BK0 := kb BK0 hb; replace HB := bs HB hb; (try clear hb); have hcz5 := cz6 BK0.1) | ((with_reducible refine at_fn (f := 62) rfl ?_); refine gl (some 8) Try.func62 #[.agg (f5 A0_0 l0_0 c0_0 A0_1 l0_1 c0_1 A0_2 l0_2 c0_2 A0_3 l0_3 c0_3 A0_4 l0_4 c0_4 a0_5), .slice none 0 0] ?_; (refine (impl_placings.calls k _ _ l0_0 _ _ l0_1 _ _ l0_2 _ _ l0_3 _ _ l0_4 a0_5 (fun k_ => False) _ _ ([] : List Int) t2 _ ?_ ?_ ?_ ?_ ?_ ?_ ?_ ?_ ?_ ?_ ?_ A4.1).mono ?_); exact vd HR0_0.1 HB.1; exact HC0_0.1; exact vd HR0_1.1 HB.1; exact HC0_1.1; exact vd HR0_2.1 HB.1; exact HC0_2.1; exact vd HR0_3.1 HB.1; exact HC0_3.1; exact vd HR0_4.1 HB.1; exact HC0_4.1; exact Kd.V_nil _ _ _ _ _; rintro e w9 ⟨v7, rfl, ho4, hb⟩; refine ⟨_, rfl, ?_⟩; have HO6 := ak (Kd.N_lower (Kd.N_mono (ok' := fun k_ => k_ ≠ gb0) ho4 (fun k_ hk_ => Or.elim hk_ (fun hs_ => (hs_).elim) (fun hn_ => (Kd.freshB (g := gb0) (o := .cells (f5 A0_0 l0_0 c0_0 A0_1 l0_1 c0_1 A0_2 l0_2 c0_2 A0_3 l0_3 c0_3 A0_4 l0_4 c0_4 a0_5) 33 (0, 0)) (vk BK0.1) k_ hn_)))) (below_size (vb HB.1))); replace BK0 := kb BK0 hb; replace HB := bs HB hb; (try clear hb); (try clear ho4); obtain ⟨Ao3, co3, eo3⟩ := Kd.N_slice HO6.1; subst eo3))
  go_ret2
  exact ⟨ew, vb HB.1⟩


end Go.Proofs.Ytancnecddlbhkaa.Pall
