/- Go functions of the program, each as a Lean function, and the proof that each call comes to what the Lean function tells; no condition beyond those that stand there. -/
import Derived.Test.YtjgbncpbenmjoaaF00
import Derived.Test.YtjgbncpbenmjoaaF02
import Derived.Test.YtjgbncpbenmjoaaSpare
import Derived.Test.YtjgbncpbenmjoaaCm
import Derived.Test.YtjgbncpbenmjoaaCm3
namespace Go.Proofs.Ytjgbncpbenmjoaa.Pall
open Go.RowKit Go.Proofs.YtjgbncpbenmjoaaW.PrintWords
set_option linter.unusedVariables false
set_option linter.unusedSimpArgs false

/-! ### spec_l22Code: function 71 -/
def spec_l22Code.f (k : Nat) (l0 : List (S33)) (a1 : Int) : Option (Int) := (spec_AreSignals.f k l0).bind fun t281 => (if t281 = true then ((spec_l01In.f a1 0 100000).bind fun t282 => (if t282 = true then (some 0) else (some 2))) else (some 1))
theorem spec_l22Code.mono : ∀ a0 a1 k, LeO (spec_l22Code.f k a0 a1) (spec_l22Code.f (k + 1) a0 a1) := by
 intro a0 a1 k; unfold spec_l22Code.f
 repeat' first | (with_reducible first | exact spec_AreSignals.mono _ _ | exact LeO.refl _ | exact LeO.none _ | refine LeO.ite ?_ ?_ | refine LeO.bind ?_ (fun _ => ?_)) | exact spec_AreSignals.mono _ _ | exact LeO.none _ | refine LeO.ite ?_ ?_ | refine LeO.bind ?_ (fun _ => ?_)
set_option maxHeartbeats 8000000 in
set_option maxRecDepth 100000 in
theorem spec_l22Code.calls (k : Nat) (A0 : Option Addr) (c0 : Nat) (l0 : List (S33)) (a1 : Int) (r : Int) (w : World) (hr0 : Kd.C k33 w A0 l0.length l0) (hc0 : l0.length ≤ c0) (h : spec_l22Code.f k l0 a1 = some r) :
  Calls Try.prog 71 #[.slice A0 l0.length c0, .int .i64 a1] w fun e w' => e = .returned (.int .i64 r) ∧ Below w.heap.size w w' := by
 have HR0 := ak hr0; have HC0 := ak hc0; clear hr0 hc0; have HB := ak (Below.refl w.heap.size w); unfold spec_l22Code.f at h; have H := h; clear h; obtain ⟨t281, A3, H⟩ := bnk H; by_cases c4 : t281 = true
 subst c4; rw [if_pos rfl] at H; obtain ⟨t282, A5, H⟩ := bnk H; by_cases c6 : t282 = true
 subst c6; rw [if_pos rfl] at H; obtain rfl := Option.some.inj H; rotate_left
 replace c6 := Bool.eq_false_iff.mpr c6; subst c6; rw [if_neg nf] at H; obtain rfl := Option.some.inj H; rotate_left
 replace c4 := Bool.eq_false_iff.mpr c4; subst c4; rw [if_neg nf] at H; obtain rfl := Option.some.inj H; rotate_left
 all_goals
  go_enter Try.func71, Try.ntmps71; go_wp2_with (first | ((with_reducible refine at_fn (f := 15) rfl ?_); refine gl (some 6) Try.func15 #[.slice A0 l0.length c0] ?_; (with_reducible refine (spec_AreSignals.calls k _ _ l0 _ _ ?side1 HC0.out A3.out).mono ?_); (case side1 => exact vc HR0.out); rintro e w9 ⟨rfl, hb⟩; refine ⟨_, rfl, ?_⟩; replace HB := bs HB hb; (try clear hb); (try clear hb2); (try clear hk); (try clear hi)) | ((with_reducible refine at_fn (f := 65) rfl ?_); refine gl (some 9) Try.func65 #[.int .i64 a1, .int .i64 0, .int .i64 100000] ?_; (with_reducible refine (spec_l01In.calls a1 0 100000 _ _ A5.out).mono ?_); rintro e w' ⟨rfl, ⟨nd, rfl⟩⟩; refine ⟨_, rfl, ?_⟩))
  go_ret
  exact ⟨ew, vb HB.out⟩


end Go.Proofs.Ytjgbncpbenmjoaa.Pall
