/- Go functions of the program, each as a Lean function, and the proof that each call comes to what the Lean function tells; no condition beyond those that stand there. -/
import Derived.Test.YtjgbncpbenmjoaaF00
import Derived.Test.YtjgbncpbenmjoaaF02
import Derived.Test.YtjgbncpbenmjoaaF30
import Derived.Test.YtjgbncpbenmjoaaSpare
import Derived.Test.YtjgbncpbenmjoaaCm
import Derived.Test.YtjgbncpbenmjoaaCm3
namespace Go.Proofs.Ytjgbncpbenmjoaa.Pall
open Go.RowKit Go.Proofs.YtjgbncpbenmjoaaW.PrintWords
set_option linter.unusedVariables false
set_option linter.unusedSimpArgs false

/-! ### impl_FiredTicks: function 48 -/
def impl_FiredTicks.f (k : Nat) (l0 : List Int) (l1 : List (S33)) : Option (List Int × Int) := (impl_areCueTimes.f k l0).bind fun t884 => (if t884 = true then ((impl_AreSignals.f k l1).bind fun t885 => (if t885 = true then ((impl_firedTicks.f k l0 l1 ([] : List (S111)) ([] : List ByteArray)).bind fun t886 => (some (t886, 0))) else (some (([] : List Int), 1)))) else (some (([] : List Int), 1)))
theorem impl_FiredTicks.mono : ∀ a0 a1 k, LeO (impl_FiredTicks.f k a0 a1) (impl_FiredTicks.f (k + 1) a0 a1) := by
 intro a0 a1 k; unfold impl_FiredTicks.f
 repeat' first | (with_reducible first | exact impl_AreSignals.mono _ _ | exact impl_areCueTimes.mono _ _ | exact impl_firedTicks.mono _ _ _ _ _ | exact LeO.refl _ | exact LeO.none _ | refine LeO.ite ?_ ?_ | refine LeO.bind ?_ (fun _ => ?_)) | exact impl_AreSignals.mono _ _ | exact impl_areCueTimes.mono _ _ | exact impl_firedTicks.mono _ _ _ _ _ | exact LeO.none _ | refine LeO.ite ?_ ?_ | refine LeO.bind ?_ (fun _ => ?_)
set_option maxHeartbeats 8000000 in
set_option maxRecDepth 100000 in
theorem impl_FiredTicks.calls (k : Nat) (A0 : Option Addr) (c0 : Nat) (l0 : List Int) (A1 : Option Addr) (c1 : Nat) (l1 : List (S33)) (r1 : List Int) (r2 : Int) (w : World) (hr0 : Kd.C (Kd.int .i64) w A0 l0.length l0) (hc0 : l0.length ≤ c0) (hr1 : Kd.C k33 w A1 l1.length l1) (hc1 : l1.length ≤ c1) (h : impl_FiredTicks.f k l0 l1 = some (r1, r2)) :
  Calls Try.prog 48 #[.slice A0 l0.length c0, .slice A1 l1.length c1] w fun e w' => ∃ v0_ : Value, e = .returned (.tuple #[v0_, .int .i64 r2]) ∧ Kd.R (Kd.int .i64) 2 w' w.heap.size (fun _ => True) v0_ r1 ∧ Below w.heap.size w w' := by
 have HR0 := ak hr0; have HC0 := ak hc0; clear hr0 hc0; have HR1 := ak hr1; have HC1 := ak hc1; clear hr1 hc1; have HB := ak (Below.refl w.heap.size w); unfold impl_FiredTicks.f at h; have H := h; clear h; obtain ⟨t884, A3, H⟩ := bnk H; by_cases c4 : t884 = true
 subst c4; rw [if_pos rfl] at H; obtain ⟨t885, A5, H⟩ := bnk H; by_cases c6 : t885 = true
 ·subst c6; rw [if_pos rfl] at H; obtain ⟨t886, A7, H⟩ := bnk H; simp only [Option.some.injEq, Prod.mk.injEq] at H
  obtain ⟨rfl, rfl⟩ := H; go_enter Try.func48, Try.ntmps48; go_wp2_with (first | ((with_reducible refine at_fn (f := 82) rfl ?_); refine gl (some 7) Try.func82 #[.slice A0 l0.length c0] ?_; (with_reducible refine (impl_areCueTimes.calls k _ _ l0 _ _ ?side1 HC0.out A3.out).mono ?_); (case side1 => exact vc HR0.out); rintro e w' ⟨rfl, ⟨nd, rfl⟩⟩; refine ⟨_, rfl, ?_⟩) | (go_at_call 17; (with_reducible refine (impl_AreSignals.calls k _ _ l1 _ _ ?side1 HC1.out A5.out).mono ?_); (case side1 => exact vc HR1.out); rintro e w8 ⟨rfl, hb⟩; replace HB := bs HB hb; (try clear hb); (try clear hb2); (try clear hk); (try clear hi)) | ((with_reducible refine at_fn (f := 83) rfl ?_); refine gl (some 16) Try.func83 #[.slice A0 l0.length c0, .slice A1 l1.length c1, .slice none 0 0, .slice none 0 0] ?_; (refine (impl_firedTicks.calls k _ _ l0 _ _ l1 _ _ ([] : List (S111)) _ _ ([] : List ByteArray) t886 _ ?side1 ?side2 ?side3 ?side4 ?side5 ?side6 ?side7 ?side8 A7.out).mono ?_); (case side1 => exact vd HR0.out HB.out); (case side2 => exact HC0.out); (case side3 => exact vd HR1.out HB.out); (case side4 => exact HC1.out); (case side5 => exact Kd.C_nil _ _); (case side6 => exact Nat.le_refl _); (case side7 => exact Kd.C_nil _ _); (case side8 => exact Nat.le_refl _); rintro e w9 ⟨v887, rfl, ho0, hb⟩; refine ⟨_, rfl, ?_⟩; have HO888 := ak (Kd.R_lower ho0 (below_size (vb HB.out))); replace HB := bs HB hb; (try clear hb); (try clear hb2); (try clear hk); (try clear hi); (try clear ho0)))
  go_ret2
  exact ⟨_, ew, by (with_reducible repeat (first | apply Kd.R_alloc | apply Kd.R_drewN | apply Kd.R_drew)); exact HO888.out, vb HB.out⟩
 replace c6 := Bool.eq_false_iff.mpr c6; subst c6; rw [if_neg nf] at H; simp only [Option.some.injEq, Prod.mk.injEq] at H
 obtain ⟨rfl, rfl⟩ := H; rotate_left
 replace c4 := Bool.eq_false_iff.mpr c4; subst c4; rw [if_neg nf] at H; simp only [Option.some.injEq, Prod.mk.injEq] at H
 obtain ⟨rfl, rfl⟩ := H; rotate_left
 all_goals
  go_enter Try.func48, Try.ntmps48; go_wp2_with (first | ((with_reducible refine at_fn (f := 82) rfl ?_); refine gl (some 7) Try.func82 #[.slice A0 l0.length c0] ?_; (with_reducible refine (impl_areCueTimes.calls k _ _ l0 _ _ ?side1 HC0.out A3.out).mono ?_); (case side1 => exact vc HR0.out); rintro e w' ⟨rfl, ⟨nd, rfl⟩⟩; refine ⟨_, rfl, ?_⟩) | (go_at_call 17; (with_reducible refine (impl_AreSignals.calls k _ _ l1 _ _ ?side1 HC1.out A5.out).mono ?_); (case side1 => exact vc HR1.out); rintro e w9 ⟨rfl, hb⟩; replace HB := bs HB hb; (try clear hb); (try clear hb2); (try clear hk); (try clear hi)))
  go_ret2
  exact ⟨_, ew, by first | exact Kd.R_nil _ _ _ _ _ | exact Kd.N_nil _ _ _ _ _ | exact Kd.V_nil _ _ _ _ _ | exact Kd.Q_nil _ _ _ _ _ | exact Kd.S_nil _ _ _ _ _, vb HB.out⟩


end Go.Proofs.Ytjgbncpbenmjoaa.Pall
