/- Go functions of the program, each as a Lean function, and the proof that each call comes to what the Lean function tells; no condition beyond those that stand there. -/
import Derived.Test.YtjgbncpbenmjoaaF00
import Derived.Test.YtjgbncpbenmjoaaF30
import Derived.Test.YtjgbncpbenmjoaaF35
import Derived.Test.YtjgbncpbenmjoaaSpare
import Derived.Test.YtjgbncpbenmjoaaCm
import Derived.Test.YtjgbncpbenmjoaaCm3
namespace Go.Proofs.Ytjgbncpbenmjoaa.Pall
open Go.RowKit Go.Proofs.YtjgbncpbenmjoaaW.PrintWords
set_option linter.unusedVariables false
set_option linter.unusedSimpArgs false

/-! ### impl_FiredSafely: function 55 -/
def impl_FiredSafely.f (k : Nat) (l0 : List Int) (l1 : List (S33)) (l2 : List (S111)) (l3 : List ByteArray) : Option (List Int × Int) := (impl_areFired.f k l0 l1 l2 l3).bind fun t999 => (if t999 = true then ((impl_firedTicks.f k l0 l1 l2 l3).bind fun t1000 => (some (t1000, 0))) else (some (([] : List Int), 1)))
theorem impl_FiredSafely.mono : ∀ a0 a1 a2 a3 k, LeO (impl_FiredSafely.f k a0 a1 a2 a3) (impl_FiredSafely.f (k + 1) a0 a1 a2 a3) := by
 intro a0 a1 a2 a3 k; unfold impl_FiredSafely.f
 repeat' first | (with_reducible first | exact impl_areFired.mono _ _ _ _ _ | exact impl_firedTicks.mono _ _ _ _ _ | exact LeO.refl _ | exact LeO.none _ | refine LeO.ite ?_ ?_ | refine LeO.bind ?_ (fun _ => ?_)) | exact impl_areFired.mono _ _ _ _ _ | exact impl_firedTicks.mono _ _ _ _ _ | exact LeO.none _ | refine LeO.ite ?_ ?_ | refine LeO.bind ?_ (fun _ => ?_)
set_option maxHeartbeats 8000000 in
set_option maxRecDepth 100000 in
theorem impl_FiredSafely.calls (k : Nat) (A0 : Option Addr) (c0 : Nat) (l0 : List Int) (A1 : Option Addr) (c1 : Nat) (l1 : List (S33)) (A2 : Option Addr) (c2 : Nat) (l2 : List (S111)) (A3 : Option Addr) (c3 : Nat) (l3 : List ByteArray) (r1 : List Int) (r2 : Int) (w : World) (hr0 : Kd.C (Kd.int .i64) w A0 l0.length l0) (hc0 : l0.length ≤ c0) (hr1 : Kd.C k33 w A1 l1.length l1) (hc1 : l1.length ≤ c1) (hr2 : Kd.C k111 w A2 l2.length l2) (hc2 : l2.length ≤ c2) (hr3 : Kd.C Kd.string w A3 l3.length l3) (hc3 : l3.length ≤ c3) (h : impl_FiredSafely.f k l0 l1 l2 l3 = some (r1, r2)) :
  Calls Try.prog 55 #[.slice A0 l0.length c0, .slice A1 l1.length c1, .slice A2 l2.length c2, .slice A3 l3.length c3] w fun e w' => ∃ v0_ : Value, e = .returned (.tuple #[v0_, .int .i64 r2]) ∧ Kd.R (Kd.int .i64) 2 w' w.heap.size (fun _ => True) v0_ r1 ∧ Below w.heap.size w w' := by
 have HR0 := ak hr0; have HC0 := ak hc0; clear hr0 hc0; have HR1 := ak hr1; have HC1 := ak hc1; clear hr1 hc1; have HR2 := ak hr2; have HC2 := ak hc2; clear hr2 hc2; have HR3 := ak hr3; have HC3 := ak hc3; clear hr3 hc3; have HB := ak (Below.refl w.heap.size w); unfold impl_FiredSafely.f at h; have H := h; clear h; obtain ⟨t999, A5, H⟩ := bnk H; by_cases c6 : t999 = true
 ·subst c6; rw [if_pos rfl] at H; obtain ⟨t1000, A7, H⟩ := bnk H; simp only [Option.some.injEq, Prod.mk.injEq] at H
  obtain ⟨rfl, rfl⟩ := H; go_enter Try.func55, Try.ntmps55; go_wp2_with (first | ((with_reducible refine at_fn (f := 87) rfl ?_); refine gl (some 14) Try.func87 #[.slice A0 l0.length c0, .slice A1 l1.length c1, .slice A2 l2.length c2, .slice A3 l3.length c3] ?_; (with_reducible refine (impl_areFired.calls k _ _ l0 _ _ l1 _ _ l2 _ _ l3 _ _ ?side1 HC0.out ?side3 HC1.out ?side5 HC2.out ?side7 HC3.out A5.out).mono ?_); (case side1 => exact vc HR0.out); (case side3 => exact vc HR1.out); (case side5 => exact vc HR2.out); (case side7 => exact vc HR3.out); rintro e w8 ⟨rfl, hb⟩; refine ⟨_, rfl, ?_⟩; replace HB := bs HB hb; (try clear hb); (try clear hb2); (try clear hk); (try clear hi)) | ((with_reducible refine at_fn (f := 83) rfl ?_); refine gl (some 20) Try.func83 #[.slice A0 l0.length c0, .slice A1 l1.length c1, .slice A2 l2.length c2, .slice A3 l3.length c3] ?_; (with_reducible refine (impl_firedTicks.calls k _ _ l0 _ _ l1 _ _ l2 _ _ l3 t1000 _ ?side1 HC0.out ?side3 HC1.out ?side5 HC2.out ?side7 HC3.out A7.out).mono ?_); (case side1 => exact vd HR0.out HB.out); (case side3 => exact vd HR1.out HB.out); (case side5 => exact vd HR2.out HB.out); (case side7 => exact vd HR3.out HB.out); rintro e w9 ⟨v1001, rfl, ho0, hb⟩; refine ⟨_, rfl, ?_⟩; have HO1002 := ak (Kd.R_lower ho0 (below_size (vb HB.out))); replace HB := bs HB hb; (try clear hb); (try clear hb2); (try clear hk); (try clear hi); (try clear ho0)))
  go_ret2
  exact ⟨_, ew, by (with_reducible repeat (first | apply Kd.R_alloc | apply Kd.R_drewN | apply Kd.R_drew)); exact HO1002.out, vb HB.out⟩
 ·replace c6 := Bool.eq_false_iff.mpr c6; subst c6; rw [if_neg nf] at H; simp only [Option.some.injEq, Prod.mk.injEq] at H
  obtain ⟨rfl, rfl⟩ := H; go_enter Try.func55, Try.ntmps55; go_wp2_with (first | ((with_reducible refine at_fn (f := 87) rfl ?_); refine gl (some 14) Try.func87 #[.slice A0 l0.length c0, .slice A1 l1.length c1, .slice A2 l2.length c2, .slice A3 l3.length c3] ?_; (with_reducible refine (impl_areFired.calls k _ _ l0 _ _ l1 _ _ l2 _ _ l3 _ _ ?side1 HC0.out ?side3 HC1.out ?side5 HC2.out ?side7 HC3.out A5.out).mono ?_); (case side1 => exact vc HR0.out); (case side3 => exact vc HR1.out); (case side5 => exact vc HR2.out); (case side7 => exact vc HR3.out); rintro e w10 ⟨rfl, hb⟩; refine ⟨_, rfl, ?_⟩; replace HB := bs HB hb; (try clear hb); (try clear hb2); (try clear hk); (try clear hi)))
  go_ret2
  exact ⟨_, ew, by first | exact Kd.R_nil _ _ _ _ _ | exact Kd.N_nil _ _ _ _ _ | exact Kd.V_nil _ _ _ _ _ | exact Kd.Q_nil _ _ _ _ _ | exact Kd.S_nil _ _ _ _ _, vb HB.out⟩


end Go.Proofs.Ytjgbncpbenmjoaa.Pall
