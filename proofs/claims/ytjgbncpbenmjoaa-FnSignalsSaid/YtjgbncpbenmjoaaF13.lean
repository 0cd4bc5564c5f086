/- Go functions of the program, each as a Lean function, and the proof that each call comes to what the Lean function tells; no condition beyond those that stand there. -/
import Derived.Test.YtjgbncpbenmjoaaF00
import Derived.Test.YtjgbncpbenmjoaaCm
import Derived.Test.YtjgbncpbenmjoaaCm3
namespace Go.Proofs.Ytjgbncpbenmjoaa.Pall
open Go.RowKit Go.Proofs.YtjgbncpbenmjoaaW.PrintWords
set_option linter.unusedVariables false
set_option linter.unusedSimpArgs false

/-! ### impl_mayFire: function 74 -/
def impl_mayFire.f (a0_0 : Bool) (a0_1 : Bool) (a0_2 : Bool) (a0_3 : Bool) (a0_4 : Bool) (a0_5 : Int) : Option (Bool) := if a0_2 = true then (some (!a0_3)) else (some false)
set_option maxHeartbeats 8000000 in
set_option maxRecDepth 100000 in
theorem impl_mayFire.calls (a0_0 : Bool) (a0_1 : Bool) (a0_2 : Bool) (a0_3 : Bool) (a0_4 : Bool) (a0_5 : Int) (r : Bool) (w : World) (h : impl_mayFire.f a0_0 a0_1 a0_2 a0_3 a0_4 a0_5 = some r) :
  Calls Try.prog 74 #[.agg #[.bool a0_0, .bool a0_1, .bool a0_2, .bool a0_3, .bool a0_4, .int .i64 a0_5]] w fun e w' => e = .returned (.bool r) ∧ Below w.heap.size w w' := by
 have hu41 := Try.underlying41; have HB := ak (Below.refl w.heap.size w); unfold impl_mayFire.f at h; have H := h; clear h; by_cases c2 : a0_2 = true
 subst c2; rw [if_pos rfl] at H; obtain rfl := Option.some.inj H; rotate_left
 replace c2 := Bool.eq_false_iff.mpr c2; subst c2; rw [if_neg nf] at H; obtain rfl := Option.some.inj H; rotate_left
 all_goals
  go_enter Try.func74, Try.ntmps74; go_wp2_with (first | ((with_reducible refine gate_dst (N := 1) rfl ?_); refine bx 1 #[.bool a0_0, .bool a0_1, .bool false, .bool a0_3, .bool a0_4, .int .i64 a0_5] 41 ?_; intro gb415 hg w9 hbox hb; have BK415 := ak hbox; have GW415 := gw hg HB; have GE415 := gw hg HB; replace HB := bs HB hb; clear hb hbox hg; have hcz9 := cz6 BK415.out) | ((with_reducible refine gate_dst (N := 1) rfl ?_); refine bx 1 #[.bool a0_0, .bool a0_1, .bool true, .bool a0_3, .bool a0_4, .int .i64 a0_5] 41 ?_; intro gb415 hg w9 hbox hb; have BK415 := ak hbox; have GW415 := gw hg HB; have GE415 := gw hg HB; replace HB := bs HB hb; clear hb hbox hg; have hcz9 := cz6 BK415.out))
  go_ret
  exact ⟨ew, vb HB.out⟩


end Go.Proofs.Ytjgbncpbenmjoaa.Pall
