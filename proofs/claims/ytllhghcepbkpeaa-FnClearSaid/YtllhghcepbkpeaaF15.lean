/- Go functions of the program, each as a Lean function, and the proof that each call comes to what the Lean function tells; no condition beyond those that stand there. -/
import Derived.Test.YtllhghcepbkpeaaF00
import Derived.Test.YtllhghcepbkpeaaF08
import Derived.Test.YtllhghcepbkpeaaF10
import Derived.Test.YtllhghcepbkpeaaF14
import Derived.Test.YtllhghcepbkpeaaSpare
import Derived.Test.YtllhghcepbkpeaaCm
import Derived.Test.YtllhghcepbkpeaaCm3
namespace Go.Proofs.Ytllhghcepbkpeaa.Pall
open Go.RowKit Go.Proofs.YtllhghcepbkpeaaW.PrintWords
set_option linter.unusedVariables false
set_option linter.unusedSimpArgs false

/-! ### spec_IsClear: function 24 -/
def spec_IsClear.f (k : Nat) (l0 : List (S42)) (a1 : ByteArray) (a2 : Int) : Option (Bool × Int) := (spec_l20Code.f k l0 a1 a2).bind fun t251 => (if t251 = 0 then ((spec_l20Clear.f k l0 a1 a2).bind fun t252 => (some (t252, 0))) else (some (false, t251)))
theorem spec_IsClear.mono : ∀ a0 a1 a2 k, LeO (spec_IsClear.f k a0 a1 a2) (spec_IsClear.f (k + 1) a0 a1 a2) := by
 intro a0 a1 a2 k; unfold spec_IsClear.f
 repeat' first | (with_reducible first | exact spec_l20Clear.mono _ _ _ _ | exact spec_l20Code.mono _ _ _ _ | exact LeO.refl _ | exact LeO.none _ | refine LeO.ite ?_ ?_ | refine LeO.bind ?_ (fun _ => ?_)) | exact spec_l20Clear.mono _ _ _ _ | exact spec_l20Code.mono _ _ _ _ | exact LeO.none _ | refine LeO.ite ?_ ?_ | refine LeO.bind ?_ (fun _ => ?_)
set_option maxHeartbeats 8000000 in
set_option maxRecDepth 100000 in
theorem spec_IsClear.calls (k : Nat) (A0 : Option Addr) (c0 : Nat) (l0 : List (S42)) (a1 : ByteArray) (a2 : Int) (r1 : Bool) (r2 : Int) (w : World) (hr0 : Kd.C k42 w A0 l0.length l0) (hc0 : l0.length ≤ c0) (h : spec_IsClear.f k l0 a1 a2 = some (r1, r2)) :
  Calls Try.prog 24 #[.slice A0 l0.length c0, .string a1, .int .i64 a2] w fun e w' => e = .returned (.tuple #[.bool r1, .int .i64 r2]) ∧ Below w.heap.size w w' := by
 have HR0 := ak hr0; have HC0 := ak hc0; clear hr0 hc0; have HB := ak (Below.refl w.heap.size w); unfold spec_IsClear.f at h; have H := h; clear h; obtain ⟨t251, A4, H⟩ := bnk H; by_cases c5 : t251 = 0
 rw [if_pos c5] at H; obtain ⟨c5b0, c5b1⟩ := bqt c5; clear c5; obtain ⟨t252, A6, H⟩ := bnk H; simp only [Option.some.injEq, Prod.mk.injEq] at H
 obtain ⟨rfl, rfl⟩ := H; rotate_left
 rw [if_neg c5] at H; obtain ⟨c5b0, c5b1⟩ := bqf c5; simp only [Option.some.injEq, Prod.mk.injEq] at H
 obtain ⟨rfl, rfl⟩ := H; rotate_left
 all_goals
  go_enter Try.func24, Try.ntmps24; go_wp2_with (first | ((with_reducible refine at_fn (f := 72) rfl ?_); refine gl (some 12) Try.func72 #[.slice A0 l0.length c0, .string a1, .int .i64 a2] ?_; (with_reducible refine (spec_l20Code.calls k _ _ l0 a1 a2 t251 _ ?side1 HC0.out A4.out).mono ?_); (case side1 => exact vc HR0.out); rintro e w9 ⟨rfl, hb⟩; refine ⟨_, rfl, ?_⟩; replace HB := bs HB hb; (try clear hb); (try clear hb2); (try clear hk); (try clear hi)) | ((with_reducible refine at_fn (f := 75) rfl ?_); refine gl (some 19) Try.func75 #[.slice A0 l0.length c0, .string a1, .int .i64 a2] ?_; (with_reducible refine (spec_l20Clear.calls k _ _ l0 a1 a2 t252 _ ?side1 HC0.out A6.out).mono ?_); (case side1 => exact vd HR0.out HB.out); rintro e w' ⟨rfl, ⟨nd, rfl⟩⟩; refine ⟨_, rfl, ?_⟩))
  go_ret2
  exact ⟨ew, vb HB.out⟩


/-! ### impl_IsClear: function 25 -/
def impl_IsClear.f (k : Nat) (l0 : List (S42)) (a1 : ByteArray) (a2 : Int) : Option (Bool × Int) := (impl_zoneAsked.f k l0 a1 a2).bind fun t256 => (if t256 = 0 then ((impl_isClear.f k l0 a1 a2).bind fun t257 => (some (t257, 0))) else (some (false, t256)))
theorem impl_IsClear.mono : ∀ a0 a1 a2 k, LeO (impl_IsClear.f k a0 a1 a2) (impl_IsClear.f (k + 1) a0 a1 a2) := by
 intro a0 a1 a2 k; unfold impl_IsClear.f
 repeat' first | (with_reducible first | exact impl_isClear.mono _ _ _ _ | exact impl_zoneAsked.mono _ _ _ _ | exact LeO.refl _ | exact LeO.none _ | refine LeO.ite ?_ ?_ | refine LeO.bind ?_ (fun _ => ?_)) | exact impl_isClear.mono _ _ _ _ | exact impl_zoneAsked.mono _ _ _ _ | exact LeO.none _ | refine LeO.ite ?_ ?_ | refine LeO.bind ?_ (fun _ => ?_)
set_option maxHeartbeats 8000000 in
set_option maxRecDepth 100000 in
theorem impl_IsClear.calls (k : Nat) (A0 : Option Addr) (c0 : Nat) (l0 : List (S42)) (a1 : ByteArray) (a2 : Int) (r1 : Bool) (r2 : Int) (w : World) (hr0 : Kd.C k42 w A0 l0.length l0) (hc0 : l0.length ≤ c0) (h : impl_IsClear.f k l0 a1 a2 = some (r1, r2)) :
  Calls Try.prog 25 #[.slice A0 l0.length c0, .string a1, .int .i64 a2] w fun e w' => e = .returned (.tuple #[.bool r1, .int .i64 r2]) ∧ Below w.heap.size w w' := by
 have HR0 := ak hr0; have HC0 := ak hc0; clear hr0 hc0; have HB := ak (Below.refl w.heap.size w); unfold impl_IsClear.f at h; have H := h; clear h; obtain ⟨t256, A4, H⟩ := bnk H; by_cases c5 : t256 = 0
 rw [if_pos c5] at H; obtain ⟨c5b0, c5b1⟩ := bqt c5; clear c5; obtain ⟨t257, A6, H⟩ := bnk H; simp only [Option.some.injEq, Prod.mk.injEq] at H
 obtain ⟨rfl, rfl⟩ := H; rotate_left
 rw [if_neg c5] at H; obtain ⟨c5b0, c5b1⟩ := bqf c5; simp only [Option.some.injEq, Prod.mk.injEq] at H
 obtain ⟨rfl, rfl⟩ := H; rotate_left
 all_goals
  go_enter Try.func25, Try.ntmps25; go_wp2_with (first | ((with_reducible refine at_fn (f := 74) rfl ?_); refine gl (some 12) Try.func74 #[.slice A0 l0.length c0, .string a1, .int .i64 a2] ?_; (with_reducible refine (impl_zoneAsked.calls k _ _ l0 a1 a2 t256 _ ?side1 HC0.out A4.out).mono ?_); (case side1 => exact vc HR0.out); rintro e w9 ⟨rfl, hb⟩; refine ⟨_, rfl, ?_⟩; replace HB := bs HB hb; (try clear hb); (try clear hb2); (try clear hk); (try clear hi)) | ((with_reducible refine at_fn (f := 76) rfl ?_); refine gl (some 19) Try.func76 #[.slice A0 l0.length c0, .string a1, .int .i64 a2] ?_; (with_reducible refine (impl_isClear.calls k _ _ l0 a1 a2 t257 _ ?side1 HC0.out A6.out).mono ?_); (case side1 => exact vd HR0.out HB.out); rintro e w9 ⟨rfl, hb⟩; refine ⟨_, rfl, ?_⟩; replace HB := bs HB hb; (try clear hb); (try clear hb2); (try clear hk); (try clear hi)))
  go_ret2
  exact ⟨ew, vb HB.out⟩


end Go.Proofs.Ytllhghcepbkpeaa.Pall
