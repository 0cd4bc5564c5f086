/- Go functions of the program, each as a Lean function, and the proof that each call comes to what the Lean function tells; no condition beyond those that stand there. -/
import Derived.Test.YtancnecddlbhkaaF00
import Derived.Test.YtancnecddlbhkaaF02
import Derived.Test.YtancnecddlbhkaaF18
import Derived.Test.YtancnecddlbhkaaSpare
import Derived.Test.YtancnecddlbhkaaCm
import Derived.Test.YtancnecddlbhkaaCm3
import Derived.Test.YtancnecddlbhkaaCm6
namespace Go.Proofs.Ytancnecddlbhkaa.Pall
open Go.RowKit Go.Proofs.YtancnecddlbhkaaW.PrintWords
set_option linter.unusedVariables false
set_option linter.unusedSimpArgs false

/-! ### spec_IsPlacing: function 26 -/
def spec_IsPlacing.f (k : Nat) (l0_0 : List (S98)) (l0_1 : List (S103)) (l0_2 : List Int) (l0_3 : List Int) (l0_4 : List Int) (a0_5 : Int) (l1 : List Int) : Option (Bool × Int) := (spec_l18Code.f k l0_0 l0_1 l0_2 l0_3 l0_4 a0_5 l1).bind fun t654 => (if t654 = 0 then ((spec_l18Is.f k l0_0 l0_1 l0_2 l0_3 l0_4 a0_5 l1).bind fun t655 => (some (t655, 0))) else (some (false, t654)))
theorem spec_IsPlacing.mono : ∀ a0 a1 a2 a3 a4 a5 a6 k, LeO (spec_IsPlacing.f k a0 a1 a2 a3 a4 a5 a6) (spec_IsPlacing.f (k + 1) a0 a1 a2 a3 a4 a5 a6) := by
 intro a0 a1 a2 a3 a4 a5 a6 k; unfold spec_IsPlacing.f
 repeat' (with_reducible first | exact spec_l18Code.mono .. | exact spec_l18Is.mono .. | exact lm | refine LeO.ite ?_ ?_ | refine LeO.bind ?_ (fun _ => ?_))
set_option maxHeartbeats 8000000 in
set_option maxRecDepth 100000 in
theorem spec_IsPlacing.calls (k : Nat) (A0_0 : Option Addr) (c0_0 : Nat) (l0_0 : List (S98)) (A0_1 : Option Addr) (c0_1 : Nat) (l0_1 : List (S103)) (A0_2 : Option Addr) (c0_2 : Nat) (l0_2 : List Int) (A0_3 : Option Addr) (c0_3 : Nat) (l0_3 : List Int) (A0_4 : Option Addr) (c0_4 : Nat) (l0_4 : List Int) (a0_5 : Int) (A1 : Option Addr) (c1 : Nat) (l1 : List Int) (r1 : Bool) (r2 : Int) (w : World) (hr0_0 : Kd.C k98 w A0_0 l0_0.length l0_0) (hc0_0 : l0_0.length ≤ c0_0) (hr0_1 : Kd.C k103 w A0_1 l0_1.length l0_1) (hc0_1 : l0_1.length ≤ c0_1) (hr0_2 : Kd.C (Kd.int .i64) w A0_2 l0_2.length l0_2) (hc0_2 : l0_2.length ≤ c0_2) (hr0_3 : Kd.C (Kd.int .i64) w A0_3 l0_3.length l0_3) (hc0_3 : l0_3.length ≤ c0_3) (hr0_4 : Kd.C (Kd.int .i64) w A0_4 l0_4.length l0_4) (hc0_4 : l0_4.length ≤ c0_4) (hr1 : Kd.C (Kd.int .i64) w A1 l1.length l1) (hc1 : l1.length ≤ c1) (h : spec_IsPlacing.f k l0_0 l0_1 l0_2 l0_3 l0_4 a0_5 l1 = some (r1, r2)) :
  Calls Try.prog 26 #[.agg (f5 A0_0 l0_0 c0_0 A0_1 l0_1 c0_1 A0_2 l0_2 c0_2 A0_3 l0_3 c0_3 A0_4 l0_4 c0_4 a0_5), .slice A1 l1.length c1] w fun e w' => e = .returned (.tuple #[.bool r1, .int .i64 r2]) ∧ Below w.heap.size w w' := by
 have hu33 := Try.underlying33; have HR0_0 := ak hr0_0; have HC0_0 := ak hc0_0; clear hr0_0 hc0_0; have HR0_1 := ak hr0_1; have HC0_1 := ak hc0_1; clear hr0_1 hc0_1; have HR0_2 := ak hr0_2; have HC0_2 := ak hc0_2; clear hr0_2 hc0_2; have HR0_3 := ak hr0_3; have HC0_3 := ak hc0_3; clear hr0_3 hc0_3; have HR0_4 := ak hr0_4; have HC0_4 := ak hc0_4; clear hr0_4 hc0_4; have HR1 := ak hr1; have HC1 := ak hc1; clear hr1 hc1; have HB := ak (Below.refl w.heap.size w); unfold spec_IsPlacing.f at h; have H := h; clear h; obtain ⟨t654, A3, H⟩ := bnk H; by_cases c4 : t654 = 0
 rw [if_pos c4] at H; obtain ⟨c4b0, c4b1⟩ := bqt c4; clear c4; obtain ⟨t655, A5, H⟩ := bnk H; simp only [Option.some.injEq, Prod.mk.injEq] at H
 obtain ⟨rfl, rfl⟩ := H; rotate_left
 rw [if_neg c4] at H; obtain ⟨c4b0, c4b1⟩ := bqf c4; simp only [Option.some.injEq, Prod.mk.injEq] at H
 obtain ⟨rfl, rfl⟩ := H; rotate_left
 all_goals
  go_enter Try.func26, Try.ntmps26; go_wp2_with (first | ((with_reducible refine gate_dst (N := 2) rfl ?_); refine bx 2 (f5 A0_0 l0_0 c0_0 A0_1 l0_1 c0_1 A0_2 l0_2 c0_2 A0_3 l0_3 c0_3 A0_4 l0_4 c0_4 a0_5) 33 ?_; intro gb653 hg w9 hbox hb; have BK653 := ak hbox; have GW653 := gw hg HB; have GE653 := gw hg HB; replace HB := bs HB hb; clear hb hbox hg; have hcz9 := cz6 BK653.out) | ((with_reducible refine at_fn (f := 71) rfl ?_); refine gl (some 9) Try.func71 #[.agg (f5 A0_0 l0_0 c0_0 A0_1 l0_1 c0_1 A0_2 l0_2 c0_2 A0_3 l0_3 c0_3 A0_4 l0_4 c0_4 a0_5), .slice A1 l1.length c1] ?_; (with_reducible refine (spec_l18Code.calls k _ _ l0_0 _ _ l0_1 _ _ l0_2 _ _ l0_3 _ _ l0_4 a0_5 _ _ l1 t654 _ ?_ HC0_0.out ?_ HC0_1.out ?_ HC0_2.out ?_ HC0_3.out ?_ HC0_4.out ?_ HC1.out A3.out).mono ?_); exact vd HR0_0.out HB.out; exact vd HR0_1.out HB.out; exact vd HR0_2.out HB.out; exact vd HR0_3.out HB.out; exact vd HR0_4.out HB.out; exact vd HR1.out HB.out; rintro e w9 ⟨rfl, hb⟩; refine ⟨_, rfl, ?_⟩; replace BK653 := kb BK653 hb; replace HB := bs HB hb; (try clear hb); have hcz9 := cz6 BK653.out) | ((with_reducible refine at_fn (f := 72) rfl ?_); refine gl (some 15) Try.func72 #[.agg (f5 A0_0 l0_0 c0_0 A0_1 l0_1 c0_1 A0_2 l0_2 c0_2 A0_3 l0_3 c0_3 A0_4 l0_4 c0_4 a0_5), .slice A1 l1.length c1] ?_; (with_reducible refine (spec_l18Is.calls k _ _ l0_0 _ _ l0_1 _ _ l0_2 _ _ l0_3 _ _ l0_4 a0_5 _ _ l1 t655 _ ?_ HC0_0.out ?_ HC0_1.out ?_ HC0_2.out ?_ HC0_3.out ?_ HC0_4.out ?_ HC1.out A5.out).mono ?_); exact vd HR0_0.out HB.out; exact vd HR0_1.out HB.out; exact vd HR0_2.out HB.out; exact vd HR0_3.out HB.out; exact vd HR0_4.out HB.out; exact vd HR1.out HB.out; rintro e w9 ⟨rfl, hb⟩; refine ⟨_, rfl, ?_⟩; replace BK653 := kb BK653 hb; replace HB := bs HB hb; (try clear hb)))
  go_ret2
  exact ⟨ew, vb HB.out⟩


/-! ### impl_IsPlacing: function 28 -/
def impl_IsPlacing.f (k : Nat) (l0_0 : List (S98)) (l0_1 : List (S103)) (l0_2 : List Int) (l0_3 : List Int) (l0_4 : List Int) (a0_5 : Int) (l1 : List Int) : Option (Bool × Int) := (impl_IsField.f k l0_0 l0_1 l0_2 l0_3 l0_4 a0_5).bind fun t663 => (if t663 = true then ((impl_areSpots.f k l0_0 l0_1 l0_2 l0_3 l0_4 a0_5 l1).bind fun t664 => (if t664 = true then ((impl_isPlacing.f k l0_0 l0_1 l0_2 l0_3 l0_4 a0_5 l1).bind fun t665 => (some (t665, 0))) else (some (false, 2)))) else (some (false, 1)))
theorem impl_IsPlacing.mono : ∀ a0 a1 a2 a3 a4 a5 a6 k, LeO (impl_IsPlacing.f k a0 a1 a2 a3 a4 a5 a6) (impl_IsPlacing.f (k + 1) a0 a1 a2 a3 a4 a5 a6) := by
 intro a0 a1 a2 a3 a4 a5 a6 k; unfold impl_IsPlacing.f
 repeat' (with_reducible first | exact impl_IsField.mono .. | exact impl_areSpots.mono .. | exact impl_isPlacing.mono .. | exact lm | refine LeO.ite ?_ ?_ | refine LeO.bind ?_ (fun _ => ?_))
set_option maxHeartbeats 8000000 in
set_option maxRecDepth 100000 in
theorem impl_IsPlacing.calls (k : Nat) (A0_0 : Option Addr) (c0_0 : Nat) (l0_0 : List (S98)) (A0_1 : Option Addr) (c0_1 : Nat) (l0_1 : List (S103)) (A0_2 : Option Addr) (c0_2 : Nat) (l0_2 : List Int) (A0_3 : Option Addr) (c0_3 : Nat) (l0_3 : List Int) (A0_4 : Option Addr) (c0_4 : Nat) (l0_4 : List Int) (a0_5 : Int) (A1 : Option Addr) (c1 : Nat) (l1 : List Int) (r1 : Bool) (r2 : Int) (w : World) (hr0_0 : Kd.C k98 w A0_0 l0_0.length l0_0) (hc0_0 : l0_0.length ≤ c0_0) (hr0_1 : Kd.C k103 w A0_1 l0_1.length l0_1) (hc0_1 : l0_1.length ≤ c0_1) (hr0_2 : Kd.C (Kd.int .i64) w A0_2 l0_2.length l0_2) (hc0_2 : l0_2.length ≤ c0_2) (hr0_3 : Kd.C (Kd.int .i64) w A0_3 l0_3.length l0_3) (hc0_3 : l0_3.length ≤ c0_3) (hr0_4 : Kd.C (Kd.int .i64) w A0_4 l0_4.length l0_4) (hc0_4 : l0_4.length ≤ c0_4) (hr1 : Kd.C (Kd.int .i64) w A1 l1.length l1) (hc1 : l1.length ≤ c1) (h : impl_IsPlacing.f k l0_0 l0_1 l0_2 l0_3 l0_4 a0_5 l1 = some (r1, r2)) :
  Calls Try.prog 28 #[.agg (f5 A0_0 l0_0 c0_0 A0_1 l0_1 c0_1 A0_2 l0_2 c0_2 A0_3 l0_3 c0_3 A0_4 l0_4 c0_4 a0_5), .slice A1 l1.length c1] w fun e w' => e = .returned (.tuple #[.bool r1, .int .i64 r2]) ∧ Below w.heap.size w w' := by
 have hu33 := Try.underlying33; have HR0_0 := ak hr0_0; have HC0_0 := ak hc0_0; clear hr0_0 hc0_0; have HR0_1 := ak hr0_1; have HC0_1 := ak hc0_1; clear hr0_1 hc0_1; have HR0_2 := ak hr0_2; have HC0_2 := ak hc0_2; clear hr0_2 hc0_2; have HR0_3 := ak hr0_3; have HC0_3 := ak hc0_3; clear hr0_3 hc0_3; have HR0_4 := ak hr0_4; have HC0_4 := ak hc0_4; clear hr0_4 hc0_4; have HR1 := ak hr1; have HC1 := ak hc1; clear hr1 hc1; have HB := ak (Below.refl w.heap.size w); unfold impl_IsPlacing.f at h; have H := h; clear h; obtain ⟨t663, A3, H⟩ := bnk H; by_cases c4 : t663 = true
 subst c4; rw [if_pos rfl] at H; obtain ⟨t664, A5, H⟩ := bnk H; by_cases c6 : t664 = true
 subst c6; rw [if_pos rfl] at H; obtain ⟨t665, A7, H⟩ := bnk H; simp only [Option.some.injEq, Prod.mk.injEq] at H
 obtain ⟨rfl, rfl⟩ := H; rotate_left
 replace c6 := Bool.eq_false_iff.mpr c6; subst c6; rw [if_neg nf] at H; simp only [Option.some.injEq, Prod.mk.injEq] at H
 obtain ⟨rfl, rfl⟩ := H; rotate_left
 replace c4 := Bool.eq_false_iff.mpr c4; subst c4; rw [if_neg nf] at H; simp only [Option.some.injEq, Prod.mk.injEq] at H
 obtain ⟨rfl, rfl⟩ := H; rotate_left
 all_goals
  go_enter Try.func28, Try.ntmps28; go_wp2_with (first | ((with_reducible refine gate_dst (N := 2) rfl ?_); refine bx 2 (f5 A0_0 l0_0 c0_0 A0_1 l0_1 c0_1 A0_2 l0_2 c0_2 A0_3 l0_3 c0_3 A0_4 l0_4 c0_4 a0_5) 33 ?_; intro gb662 hg w9 hbox hb; have BK662 := ak hbox; have GW662 := gw hg HB; have GE662 := gw hg HB; replace HB := bs HB hb; clear hb hbox hg; have hcz9 := cz6 BK662.out) | ((with_reducible refine at_fn (f := 37) rfl ?_); refine gl (some 7) Try.func37 #[.agg (f5 A0_0 l0_0 c0_0 A0_1 l0_1 c0_1 A0_2 l0_2 c0_2 A0_3 l0_3 c0_3 A0_4 l0_4 c0_4 a0_5)] ?_; (with_reducible refine (impl_IsField.calls k _ _ l0_0 _ _ l0_1 _ _ l0_2 _ _ l0_3 _ _ l0_4 a0_5 _ _ ?_ HC0_0.out ?_ HC0_1.out ?_ HC0_2.out ?_ HC0_3.out ?_ HC0_4.out A3.out).mono ?_); exact vd HR0_0.out HB.out; exact vd HR0_1.out HB.out; exact vd HR0_2.out HB.out; exact vd HR0_3.out HB.out; exact vd HR0_4.out HB.out; rintro e w9 ⟨rfl, hb⟩; refine ⟨_, rfl, ?_⟩; replace BK662 := kb BK662 hb; replace HB := bs HB hb; (try clear hb); have hcz9 := cz6 BK662.out) | ((with_reducible refine at_fn (f := 74) rfl ?_); refine gl (some 11) Try.func74 #[.agg (f5 A0_0 l0_0 c0_0 A0_1 l0_1 c0_1 A0_2 l0_2 c0_2 A0_3 l0_3 c0_3 A0_4 l0_4 c0_4 a0_5), .slice A1 l1.length c1] ?_; (with_reducible refine (impl_areSpots.calls k _ _ l0_0 _ _ l0_1 _ _ l0_2 _ _ l0_3 _ _ l0_4 a0_5 _ _ l1 _ _ ?_ HC0_0.out ?_ HC0_1.out ?_ HC0_2.out ?_ HC0_3.out ?_ HC0_4.out ?_ HC1.out A5.out).mono ?_); exact vd HR0_0.out HB.out; exact vd HR0_1.out HB.out; exact vd HR0_2.out HB.out; exact vd HR0_3.out HB.out; exact vd HR0_4.out HB.out; exact vd HR1.out HB.out; rintro e w9 ⟨rfl, hb⟩; refine ⟨_, rfl, ?_⟩; replace BK662 := kb BK662 hb; replace HB := bs HB hb; (try clear hb); have hcz9 := cz6 BK662.out) | ((with_reducible refine at_fn (f := 75) rfl ?_); refine gl (some 15) Try.func75 #[.agg (f5 A0_0 l0_0 c0_0 A0_1 l0_1 c0_1 A0_2 l0_2 c0_2 A0_3 l0_3 c0_3 A0_4 l0_4 c0_4 a0_5), .slice A1 l1.length c1] ?_; (with_reducible refine (impl_isPlacing.calls k _ _ l0_0 _ _ l0_1 _ _ l0_2 _ _ l0_3 _ _ l0_4 a0_5 _ _ l1 t665 _ ?_ HC0_0.out ?_ HC0_1.out ?_ HC0_2.out ?_ HC0_3.out ?_ HC0_4.out ?_ HC1.out A7.out).mono ?_); exact vd HR0_0.out HB.out; exact vd HR0_1.out HB.out; exact vd HR0_2.out HB.out; exact vd HR0_3.out HB.out; exact vd HR0_4.out HB.out; exact vd HR1.out HB.out; rintro e w9 ⟨rfl, hb⟩; refine ⟨_, rfl, ?_⟩; replace BK662 := kb BK662 hb; replace HB := bs HB hb; (try clear hb)))
  go_ret2
  exact ⟨ew, vb HB.out⟩


end Go.Proofs.Ytancnecddlbhkaa.Pall
