/- Go functions of the program, each as a Lean function, and the proof that each call comes to what the Lean function tells; no condition beyond those that stand there. -/
import Derived.Test.YtjgbncpbenmjoaaF00
import Derived.Test.YtjgbncpbenmjoaaF02
import Derived.Test.YtjgbncpbenmjoaaSpare
import Derived.Test.YtjgbncpbenmjoaaCm
import Derived.Test.YtjgbncpbenmjoaaCm3
namespace Go.Proofs.Ytjgbncpbenmjoaa.Pall
open Go.RowKit Go.Proofs.YtjgbncpbenmjoaaW.PrintWords
set_option linter.unusedVariables false
set_option linter.unusedSimpArgs false

/-! ### impl_IsSound: function 45 -/
def impl_IsSound.f (a0_0 : Bool) (a0_1 : Bool) (a0_2 : Bool) (a0_3 : Bool) (a0_4 : Bool) (a0_5 : Int) : Option (Bool) := (impl_within.f a0_5 0 4).bind fun t717 => (if t717 = true then (if a0_3 = true then (if a0_2 = true then (if a0_0 = true then (if a0_1 = true then (if a0_4 = true then (some false) else (some (decide (a0_5 ≤ 3)))) else (some false)) else (some false)) else (some false)) else (if a0_2 = true then (if a0_0 = true then (if a0_1 = true then (if a0_4 = true then (some false) else (some (decide (a0_5 ≤ 3)))) else (some false)) else (some false)) else (some true))) else (some false))
set_option maxHeartbeats 8000000 in
set_option maxRecDepth 100000 in
theorem impl_IsSound.calls (a0_0 : Bool) (a0_1 : Bool) (a0_2 : Bool) (a0_3 : Bool) (a0_4 : Bool) (a0_5 : Int) (r : Bool) (w : World) (h : impl_IsSound.f a0_0 a0_1 a0_2 a0_3 a0_4 a0_5 = some r) :
  Calls Try.prog 45 #[.agg #[.bool a0_0, .bool a0_1, .bool a0_2, .bool a0_3, .bool a0_4, .int .i64 a0_5]] w fun e w' => e = .returned (.bool r) ∧ Below w.heap.size w w' := by
 have hu41 := Try.underlying41; have HB := ak (Below.refl w.heap.size w); unfold impl_IsSound.f at h; have H := h; clear h; obtain ⟨t717, A2, H⟩ := bnk H; by_cases c3 : t717 = true
 subst c3; rw [if_pos rfl] at H; by_cases c4 : a0_3 = true
 subst c4; rw [if_pos rfl] at H; by_cases c5 : a0_2 = true
 subst c5; rw [if_pos rfl] at H; by_cases c6 : a0_0 = true
 subst c6; rw [if_pos rfl] at H; by_cases c7 : a0_1 = true
 subst c7; rw [if_pos rfl] at H; by_cases c8 : a0_4 = true
 subst c8; rw [if_pos rfl] at H; obtain rfl := Option.some.inj H; rotate_left
 replace c8 := Bool.eq_false_iff.mpr c8; subst c8; rw [if_neg nf] at H; obtain rfl := Option.some.inj H; rotate_left
 replace c7 := Bool.eq_false_iff.mpr c7; subst c7; rw [if_neg nf] at H; obtain rfl := Option.some.inj H; rotate_left
 replace c6 := Bool.eq_false_iff.mpr c6; subst c6; rw [if_neg nf] at H; obtain rfl := Option.some.inj H; rotate_left
 replace c5 := Bool.eq_false_iff.mpr c5; subst c5; rw [if_neg nf] at H; obtain rfl := Option.some.inj H; rotate_left
 replace c4 := Bool.eq_false_iff.mpr c4; subst c4; rw [if_neg nf] at H; by_cases c19 : a0_2 = true
 subst c19; rw [if_pos rfl] at H; by_cases c20 : a0_0 = true
 subst c20; rw [if_pos rfl] at H; by_cases c21 : a0_1 = true
 subst c21; rw [if_pos rfl] at H; by_cases c22 : a0_4 = true
 subst c22; rw [if_pos rfl] at H; obtain rfl := Option.some.inj H; rotate_left
 replace c22 := Bool.eq_false_iff.mpr c22; subst c22; rw [if_neg nf] at H; obtain rfl := Option.some.inj H; rotate_left
 replace c21 := Bool.eq_false_iff.mpr c21; subst c21; rw [if_neg nf] at H; obtain rfl := Option.some.inj H; rotate_left
 replace c20 := Bool.eq_false_iff.mpr c20; subst c20; rw [if_neg nf] at H; obtain rfl := Option.some.inj H; rotate_left
 replace c19 := Bool.eq_false_iff.mpr c19; subst c19; rw [if_neg nf] at H; obtain rfl := Option.some.inj H; rotate_left
 replace c3 := Bool.eq_false_iff.mpr c3; subst c3; rw [if_neg nf] at H; obtain rfl := Option.some.inj H; rotate_left
 all_goals
  go_enter Try.func45, Try.ntmps45; go_wp2_with (first | ((with_reducible refine gate_dst (N := 1) rfl ?_); refine bx 1 #[.bool a0_0, .bool a0_1, .bool a0_2, .bool a0_3, .bool a0_4, .int .i64 a0_5] 41 ?_; intro gb716 hg w9 hbox hb; have BK716 := ak hbox; have GW716 := gw hg HB; have GE716 := gw hg HB; replace HB := bs HB hb; clear hb hbox hg; have hcz9 := cz6 BK716.out) | ((with_reducible refine gate_dst (N := 1) rfl ?_); refine bx 1 #[.bool a0_0, .bool a0_1, .bool false, .bool false, .bool a0_4, .int .i64 a0_5] 41 ?_; intro gb716 hg w9 hbox hb; have BK716 := ak hbox; have GW716 := gw hg HB; have GE716 := gw hg HB; replace HB := bs HB hb; clear hb hbox hg; have hcz9 := cz6 BK716.out) | ((with_reducible refine gate_dst (N := 1) rfl ?_); refine bx 1 #[.bool false, .bool a0_1, .bool true, .bool false, .bool a0_4, .int .i64 a0_5] 41 ?_; intro gb716 hg w9 hbox hb; have BK716 := ak hbox; have GW716 := gw hg HB; have GE716 := gw hg HB; replace HB := bs HB hb; clear hb hbox hg; have hcz9 := cz6 BK716.out) | ((with_reducible refine gate_dst (N := 1) rfl ?_); refine bx 1 #[.bool true, .bool false, .bool true, .bool false, .bool a0_4, .int .i64 a0_5] 41 ?_; intro gb716 hg w9 hbox hb; have BK716 := ak hbox; have GW716 := gw hg HB; have GE716 := gw hg HB; replace HB := bs HB hb; clear hb hbox hg; have hcz9 := cz6 BK716.out) | ((with_reducible refine gate_dst (N := 1) rfl ?_); refine bx 1 #[.bool true, .bool true, .bool true, .bool false, .bool false, .int .i64 a0_5] 41 ?_; intro gb716 hg w9 hbox hb; have BK716 := ak hbox; have GW716 := gw hg HB; have GE716 := gw hg HB; replace HB := bs HB hb; clear hb hbox hg; have hcz9 := cz6 BK716.out) | ((with_reducible refine gate_dst (N := 1) rfl ?_); refine bx 1 #[.bool true, .bool true, .bool true, .bool false, .bool true, .int .i64 a0_5] 41 ?_; intro gb716 hg w9 hbox hb; have BK716 := ak hbox; have GW716 := gw hg HB; have GE716 := gw hg HB; replace HB := bs HB hb; clear hb hbox hg; have hcz9 := cz6 BK716.out) | ((with_reducible refine gate_dst (N := 1) rfl ?_); refine bx 1 #[.bool a0_0, .bool a0_1, .bool false, .bool true, .bool a0_4, .int .i64 a0_5] 41 ?_; intro gb716 hg w9 hbox hb; have BK716 := ak hbox; have GW716 := gw hg HB; have GE716 := gw hg HB; replace HB := bs HB hb; clear hb hbox hg; have hcz9 := cz6 BK716.out) | ((with_reducible refine gate_dst (N := 1) rfl ?_); refine bx 1 #[.bool false, .bool a0_1, .bool true, .bool true, .bool a0_4, .int .i64 a0_5] 41 ?_; intro gb716 hg w9 hbox hb; have BK716 := ak hbox; have GW716 := gw hg HB; have GE716 := gw hg HB; replace HB := bs HB hb; clear hb hbox hg; have hcz9 := cz6 BK716.out) | ((with_reducible refine gate_dst (N := 1) rfl ?_); refine bx 1 #[.bool true, .bool false, .bool true, .bool true, .bool a0_4, .int .i64 a0_5] 41 ?_; intro gb716 hg w9 hbox hb; have BK716 := ak hbox; have GW716 := gw hg HB; have GE716 := gw hg HB; replace HB := bs HB hb; clear hb hbox hg; have hcz9 := cz6 BK716.out) | ((with_reducible refine gate_dst (N := 1) rfl ?_); refine bx 1 #[.bool true, .bool true, .bool true, .bool true, .bool false, .int .i64 a0_5] 41 ?_; intro gb716 hg w9 hbox hb; have BK716 := ak hbox; have GW716 := gw hg HB; have GE716 := gw hg HB; replace HB := bs HB hb; clear hb hbox hg; have hcz9 := cz6 BK716.out) | ((with_reducible refine gate_dst (N := 1) rfl ?_); refine bx 1 #[.bool true, .bool true, .bool true, .bool true, .bool true, .int .i64 a0_5] 41 ?_; intro gb716 hg w9 hbox hb; have BK716 := ak hbox; have GW716 := gw hg HB; have GE716 := gw hg HB; replace HB := bs HB hb; clear hb hbox hg; have hcz9 := cz6 BK716.out) | ((with_reducible refine at_fn (f := 69) rfl ?_); refine gl (some 5) Try.func69 #[.int .i64 a0_5, .int .i64 0, .int .i64 4] ?_; (with_reducible refine (impl_within.calls a0_5 0 4 _ _ A2.out).mono ?_); rintro e w' ⟨rfl, ⟨nd, rfl⟩⟩; refine ⟨_, rfl, ?_⟩))
  go_ret
  exact ⟨ew, vb HB.out⟩


end Go.Proofs.Ytjgbncpbenmjoaa.Pall
