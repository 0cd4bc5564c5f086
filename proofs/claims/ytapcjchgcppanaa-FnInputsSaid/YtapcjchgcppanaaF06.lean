/- Go functions of the program, each as a Lean function, and the proof that each call comes to what the Lean function tells; no condition beyond those that stand there. -/
import Derived.Test.YtapcjchgcppanaaF00
import Derived.Test.YtapcjchgcppanaaF02
import Derived.Test.YtapcjchgcppanaaSpare
import Derived.Test.YtapcjchgcppanaaCm
import Derived.Test.YtapcjchgcppanaaCm3
namespace Go.Proofs.Ytapcjchgcppanaa.Pall
open Go.RowKit Go.Proofs.YtapcjchgcppanaaW.PrintWords
set_option linter.unusedVariables false
set_option linter.unusedSimpArgs false

/-! ### impl_mayFire: function 46 -/
def impl_mayFire.f (a0_0 : Bool) (a0_1 : Bool) (a0_2 : Bool) (a0_3 : Bool) (a0_4 : Bool) (a0_5 : Int) : Option (Bool) := if a0_2 = true then (some (!a0_3)) else (some false)
set_option maxHeartbeats 8000000 in
set_option maxRecDepth 100000 in
theorem impl_mayFire.calls (a0_0 : Bool) (a0_1 : Bool) (a0_2 : Bool) (a0_3 : Bool) (a0_4 : Bool) (a0_5 : Int) (r : Bool) (w : World) (h : impl_mayFire.f a0_0 a0_1 a0_2 a0_3 a0_4 a0_5 = some r) :
  Calls Try.prog 46 #[.agg #[.bool a0_0, .bool a0_1, .bool a0_2, .bool a0_3, .bool a0_4, .int .i64 a0_5]] w fun e w' => e = .returned (.bool r) ∧ Below w.heap.size w w' := by
 have hu25 := Try.underlying25; have HB := ak (Below.refl w.heap.size w); unfold impl_mayFire.f at h; have H := h; clear h; by_cases c2 : a0_2 = true
 subst c2; rw [if_pos rfl] at H; obtain rfl := Option.some.inj H; rotate_left
 replace c2 := Bool.eq_false_iff.mpr c2; subst c2; rw [if_neg nf] at H; obtain rfl := Option.some.inj H; rotate_left
 all_goals
  go_enter Try.func46, Try.ntmps46; go_wp2_with (first | ((with_reducible refine gate_dst (N := 1) rfl ?_); refine bx 1 #[.bool a0_0, .bool a0_1, .bool false, .bool a0_3, .bool a0_4, .int .i64 a0_5] 25 ?_; intro gb126 hg w9 hbox hb; have BK126 := ak hbox; have GW126 := gw hg HB; have GE126 := gw hg HB; replace HB := bs HB hb; clear hb hbox hg; have hcz9 := cz6 BK126.out) | ((with_reducible refine gate_dst (N := 1) rfl ?_); refine bx 1 #[.bool a0_0, .bool a0_1, .bool true, .bool a0_3, .bool a0_4, .int .i64 a0_5] 25 ?_; intro gb126 hg w9 hbox hb; have BK126 := ak hbox; have GW126 := gw hg HB; have GE126 := gw hg HB; replace HB := bs HB hb; clear hb hbox hg; have hcz9 := cz6 BK126.out))
  go_ret
  exact ⟨ew, vb HB.out⟩


/-! ### impl_MayFire: function 18 -/
def impl_MayFire.f (a0_0 : Bool) (a0_1 : Bool) (a0_2 : Bool) (a0_3 : Bool) (a0_4 : Bool) (a0_5 : Int) : Option (Bool × Int) := (impl_IsSound.f a0_0 a0_1 a0_2 a0_3 a0_4 a0_5).bind fun t128 => (if t128 = true then ((impl_mayFire.f a0_0 a0_1 a0_2 a0_3 a0_4 a0_5).bind fun t129 => (some (t129, 0))) else (some (false, 1)))
set_option maxHeartbeats 8000000 in
set_option maxRecDepth 100000 in
theorem impl_MayFire.calls (a0_0 : Bool) (a0_1 : Bool) (a0_2 : Bool) (a0_3 : Bool) (a0_4 : Bool) (a0_5 : Int) (r1 : Bool) (r2 : Int) (w : World) (h : impl_MayFire.f a0_0 a0_1 a0_2 a0_3 a0_4 a0_5 = some (r1, r2)) :
  Calls Try.prog 18 #[.agg #[.bool a0_0, .bool a0_1, .bool a0_2, .bool a0_3, .bool a0_4, .int .i64 a0_5]] w fun e w' => e = .returned (.tuple #[.bool r1, .int .i64 r2]) ∧ Below w.heap.size w w' := by
 have hu25 := Try.underlying25; have HB := ak (Below.refl w.heap.size w); unfold impl_MayFire.f at h; have H := h; clear h; obtain ⟨t128, A2, H⟩ := bnk H; by_cases c3 : t128 = true
 subst c3; rw [if_pos rfl] at H; obtain ⟨t129, A4, H⟩ := bnk H; simp only [Option.some.injEq, Prod.mk.injEq] at H
 obtain ⟨rfl, rfl⟩ := H; rotate_left
 replace c3 := Bool.eq_false_iff.mpr c3; subst c3; rw [if_neg nf] at H; simp only [Option.some.injEq, Prod.mk.injEq] at H
 obtain ⟨rfl, rfl⟩ := H; rotate_left
 all_goals
  go_enter Try.func18, Try.ntmps18; go_wp2_with (first | ((with_reducible refine gate_dst (N := 1) rfl ?_); refine bx 1 #[.bool a0_0, .bool a0_1, .bool a0_2, .bool a0_3, .bool a0_4, .int .i64 a0_5] 25 ?_; intro gb127 hg w9 hbox hb; have BK127 := ak hbox; have GW127 := gw hg HB; have GE127 := gw hg HB; replace HB := bs HB hb; clear hb hbox hg; have hcz9 := cz6 BK127.out) | ((with_reducible refine at_fn (f := 16) rfl ?_); refine gl (some 5) Try.func16 #[.agg #[.bool a0_0, .bool a0_1, .bool a0_2, .bool a0_3, .bool a0_4, .int .i64 a0_5]] ?_; (with_reducible refine (impl_IsSound.calls a0_0 a0_1 a0_2 a0_3 a0_4 a0_5 _ _ A2.out).mono ?_); rintro e w9 ⟨rfl, hb⟩; refine ⟨_, rfl, ?_⟩; replace BK127 := kb BK127 hb; replace HB := bs HB hb; (try clear hb); (try clear hb2); (try clear hk); (try clear hi); have hcz9 := cz6 BK127.out) | ((with_reducible refine at_fn (f := 46) rfl ?_); refine gl (some 8) Try.func46 #[.agg #[.bool a0_0, .bool a0_1, .bool a0_2, .bool a0_3, .bool a0_4, .int .i64 a0_5]] ?_; (with_reducible refine (impl_mayFire.calls a0_0 a0_1 a0_2 a0_3 a0_4 a0_5 t129 _ A4.out).mono ?_); rintro e w9 ⟨rfl, hb⟩; refine ⟨_, rfl, ?_⟩; replace BK127 := kb BK127 hb; replace HB := bs HB hb; (try clear hb); (try clear hb2); (try clear hk); (try clear hi)))
  go_ret2
  exact ⟨ew, vb HB.out⟩


end Go.Proofs.Ytapcjchgcppanaa.Pall
