/- Go functions of the program, each as a Lean function, and the proof that each call comes to what the Lean function tells; no condition beyond those that stand there. -/
import Derived.Test.YtllhghcepbkpeaaF00
import Derived.Test.YtllhghcepbkpeaaF03
import Derived.Test.YtllhghcepbkpeaaF08
import Derived.Test.YtllhghcepbkpeaaSpare
import Derived.Test.YtllhghcepbkpeaaCm
import Derived.Test.YtllhghcepbkpeaaCm3
namespace Go.Proofs.Ytllhghcepbkpeaa.Pall
open Go.RowKit Go.Proofs.YtllhghcepbkpeaaW.PrintWords
set_option linter.unusedVariables false
set_option linter.unusedSimpArgs false

/-! ### spec_PeopleIn: function 20 -/
def spec_PeopleIn.f (k : Nat) (l0 : List (S42)) (a1 : ByteArray) (a2 : Int) : Option (Int × Int) := (spec_l20Code.f k l0 a1 a2).bind fun t186 => (if t186 = 0 then ((spec_l20Upto.f k l0 a2).bind fun t187 => ((spec_l20People.f k l0 a1 t187).bind fun t188 => (some (t188, 0)))) else (some (0, t186)))
theorem spec_PeopleIn.mono : ∀ a0 a1 a2 k, LeO (spec_PeopleIn.f k a0 a1 a2) (spec_PeopleIn.f (k + 1) a0 a1 a2) := by
 intro a0 a1 a2 k; unfold spec_PeopleIn.f
 repeat' first | (with_reducible first | exact spec_l20Code.mono _ _ _ _ | exact spec_l20People.mono _ _ _ _ | exact spec_l20Upto.mono _ _ _ | exact LeO.refl _ | exact LeO.none _ | refine LeO.ite ?_ ?_ | refine LeO.bind ?_ (fun _ => ?_)) | exact spec_l20Code.mono _ _ _ _ | exact spec_l20People.mono _ _ _ _ | exact spec_l20Upto.mono _ _ _ | exact LeO.none _ | refine LeO.ite ?_ ?_ | refine LeO.bind ?_ (fun _ => ?_)
set_option maxHeartbeats 8000000 in
set_option maxRecDepth 100000 in
theorem spec_PeopleIn.calls (k : Nat) (A0 : Option Addr) (c0 : Nat) (l0 : List (S42)) (a1 : ByteArray) (a2 : Int) (r1 : Int) (r2 : Int) (w : World) (hr0 : Kd.C k42 w A0 l0.length l0) (hc0 : l0.length ≤ c0) (h : spec_PeopleIn.f k l0 a1 a2 = some (r1, r2)) :
  Calls Try.prog 20 #[.slice A0 l0.length c0, .string a1, .int .i64 a2] w fun e w' => e = .returned (.tuple #[.int .i64 r1, .int .i64 r2]) ∧ Below w.heap.size w w' := by
 have HR0 := ak hr0; have HC0 := ak hc0; clear hr0 hc0; have HB := ak (Below.refl w.heap.size w); unfold spec_PeopleIn.f at h; have H := h; clear h; obtain ⟨t186, A4, H⟩ := bnk H; by_cases c5 : t186 = 0
 rw [if_pos c5] at H; obtain ⟨c5b0, c5b1⟩ := bqt c5; clear c5; obtain ⟨t187, A6, H⟩ := bnk H; obtain ⟨t188, A7, H⟩ := bnk H; simp only [Option.some.injEq, Prod.mk.injEq] at H
 obtain ⟨rfl, rfl⟩ := H; rotate_left
 rw [if_neg c5] at H; obtain ⟨c5b0, c5b1⟩ := bqf c5; simp only [Option.some.injEq, Prod.mk.injEq] at H
 obtain ⟨rfl, rfl⟩ := H; rotate_left
 all_goals
  go_enter Try.func20, Try.ntmps20; go_wp2_with (first | ((with_reducible refine at_fn (f := 72) rfl ?_); refine gl (some 12) Try.func72 #[.slice A0 l0.length c0, .string a1, .int .i64 a2] ?_; (with_reducible refine (spec_l20Code.calls k _ _ l0 a1 a2 t186 _ ?side1 HC0.out A4.out).mono ?_); (case side1 => exact vc HR0.out); rintro e w9 ⟨rfl, hb⟩; refine ⟨_, rfl, ?_⟩; replace HB := bs HB hb; (try clear hb); (try clear hb2); (try clear hk); (try clear hi)) | ((with_reducible refine at_fn (f := 73) rfl ?_); refine gl (some 20) Try.func73 #[.slice A0 l0.length c0, .int .i64 a2] ?_; (with_reducible refine (spec_l20Upto.calls k _ _ l0 a2 t187 _ ?side1 HC0.out A6.out).mono ?_); (case side1 => exact vd HR0.out HB.out); rintro e w' ⟨rfl, ⟨nd, rfl⟩⟩; refine ⟨_, rfl, ?_⟩) | ((with_reducible refine at_fn (f := 65) rfl ?_); refine gl (some 21) Try.func65 #[.slice A0 l0.length c0, .string a1, .int .i64 t187] ?_; (with_reducible refine (spec_l20People.calls k _ _ l0 a1 t187 t188 _ ?side1 HC0.out A7.out).mono ?_); (case side1 => exact vd HR0.out (vb HB.out)); rintro e w' ⟨rfl, ⟨nd, rfl⟩⟩; refine ⟨_, rfl, ?_⟩))
  go_ret2
  exact ⟨ew, vb HB.out⟩


end Go.Proofs.Ytllhghcepbkpeaa.Pall
