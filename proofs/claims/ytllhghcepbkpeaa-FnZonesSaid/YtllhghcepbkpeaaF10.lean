/- Go functions of the program, each as a Lean function, and the proof that each call comes to what the Lean function tells; no condition beyond those that stand there. -/
import Derived.Test.YtllhghcepbkpeaaF00
import Derived.Test.YtllhghcepbkpeaaF03
import Derived.Test.YtllhghcepbkpeaaF06
import Derived.Test.YtllhghcepbkpeaaSpare
import Derived.Test.YtllhghcepbkpeaaCm
import Derived.Test.YtllhghcepbkpeaaCm3
namespace Go.Proofs.Ytllhghcepbkpeaa.Pall
open Go.RowKit Go.Proofs.YtllhghcepbkpeaaW.PrintWords
set_option linter.unusedVariables false
set_option linter.unusedSimpArgs false

/-! ### impl_zoneAsked: function 74 -/
def impl_zoneAsked.j0 : Nat → Int → Bool → Option (Int)
 | 0, _, _ => none
 | k + 1, x2, x14 => if x14 = true then (some 1) else ((impl_isTime.f x2).bind fun t191 => (if t191 = true then (some 0) else (some 2)))
def impl_zoneAsked.f (k : Nat) (l0 : List (S42)) (a1 : ByteArray) (a2 : Int) : Option (Int) := (impl_AreMoves.f k l0).bind fun t189 => (if t189 = true then ((impl_IsWord.f k a1).bind fun t190 => (impl_zoneAsked.j0 k a2 (!t190))) else (impl_zoneAsked.j0 k a2 true))
theorem impl_zoneAsked.mono_l : ∀ k, (∀ y0 y1, LeO (impl_zoneAsked.j0 k y0 y1) (impl_zoneAsked.j0 (k + 1) y0 y1))
 | 0 => fun _ _ r h => by simp [impl_zoneAsked.j0] at h
 | k + 1 => by
  have ih0 := impl_zoneAsked.mono_l k
  ·intro y0 y1; unfold impl_zoneAsked.j0
   repeat' first | (with_reducible first | exact ih0 _ _ | exact impl_AreMoves.mono _ _ | exact impl_IsWord.mono _ _ | exact LeO.refl _ | exact LeO.none _ | refine LeO.ite ?_ ?_ | refine LeO.bind ?_ (fun _ => ?_)) | exact ih0 _ _ | exact impl_AreMoves.mono _ _ | exact impl_IsWord.mono _ _ | exact LeO.none _ | refine LeO.ite ?_ ?_ | refine LeO.bind ?_ (fun _ => ?_)
theorem impl_zoneAsked.mono : ∀ a0 a1 a2 k, LeO (impl_zoneAsked.f k a0 a1 a2) (impl_zoneAsked.f (k + 1) a0 a1 a2) := by
 intro a0 a1 a2 k; have ih0 := impl_zoneAsked.mono_l k; unfold impl_zoneAsked.f
 repeat' first | (with_reducible first | exact ih0 _ _ | exact impl_AreMoves.mono _ _ | exact impl_IsWord.mono _ _ | exact LeO.refl _ | exact LeO.none _ | refine LeO.ite ?_ ?_ | refine LeO.bind ?_ (fun _ => ?_)) | exact ih0 _ _ | exact impl_AreMoves.mono _ _ | exact impl_IsWord.mono _ _ | exact LeO.none _ | refine LeO.ite ?_ ?_ | refine LeO.bind ?_ (fun _ => ?_)
set_option maxHeartbeats 8000000 in
set_option maxRecDepth 100000 in
theorem impl_zoneAsked.calls (k : Nat) (A0 : Option Addr) (c0 : Nat) (l0 : List (S42)) (a1 : ByteArray) (a2 : Int) (r : Int) (w : World) (hr0 : Kd.C k42 w A0 l0.length l0) (hc0 : l0.length ≤ c0) (h : impl_zoneAsked.f k l0 a1 a2 = some r) :
  Calls Try.prog 74 #[.slice A0 l0.length c0, .string a1, .int .i64 a2] w fun e w' => e = .returned (.int .i64 r) ∧ Below w.heap.size w w' := by
 have HR0 := ak hr0; have HC0 := ak hc0; clear hr0 hc0; have HB := ak (Below.refl w.heap.size w); unfold impl_zoneAsked.f at h; have H := h; clear h; have HC4 := ak H; clear H; go_enter Try.func74, Try.ntmps74; go_upto_region 1 with (fail)
 go_cut [14] (fun v14 wc => ∃ (kq : Nat) (x14_3 : Bool), v14 = .bool x14_3 ∧ Aside0 (impl_zoneAsked.j0 kq a2 x14_3 = some r) ∧ Aside0 (kq ≤ k) ∧ Aside0 (Below w.heap.size w wc))
 case first =>
  have H := HC4.out; clear HC4; obtain ⟨t189, A5, H⟩ := bnk H; by_cases c6 : t189 = true
  ·subst c6; rw [if_pos rfl] at H; obtain ⟨t190, A7, H⟩ := bnk H; have H' := ak H; clear H; go_wp2_with (first | ((with_reducible refine at_fn (f := 18) rfl ?_); refine gl (some 8) Try.func18 #[.slice A0 l0.length c0] ?_; (with_reducible refine (impl_AreMoves.calls k _ _ l0 _ _ ?side1 HC0.out A5.out).mono ?_); (case side1 => exact vd HR0.out HB.out); rintro e w8 ⟨rfl, hb⟩; refine ⟨_, rfl, ?_⟩; replace HB := bs HB hb; (try clear hb); (try clear hb2); (try clear hk); (try clear hi)) | (go_at_call 69; (with_reducible refine (impl_IsWord.calls k a1 t190 _ A7.out).mono ?_); rintro e w' ⟨rfl, ⟨nd, rfl⟩⟩))
   go_meet
   case rel => exact ⟨_, (!t190), (by first | rfl | (simp; done) | (simp [*]; done)), H', ⟨by first | omega | exact Nat.le_refl _⟩, ⟨vb HB.out⟩⟩
  ·replace c6 := Bool.eq_false_iff.mpr c6; subst c6; rw [if_neg nf] at H; have H' := ak H; clear H; go_wp2_with (first | ((with_reducible refine at_fn (f := 18) rfl ?_); refine gl (some 8) Try.func18 #[.slice A0 l0.length c0] ?_; (with_reducible refine (impl_AreMoves.calls k _ _ l0 _ _ ?side1 HC0.out A5.out).mono ?_); (case side1 => exact vd HR0.out HB.out); rintro e w9 ⟨rfl, hb⟩; refine ⟨_, rfl, ?_⟩; replace HB := bs HB hb; (try clear hb); (try clear hb2); (try clear hk); (try clear hi)))
   go_meet
   case rel => exact ⟨_, (true), (by first | rfl | (simp; done) | (simp [*]; done)), H', ⟨by first | omega | exact Nat.le_refl _⟩, ⟨vb HB.out⟩⟩
 case rest =>
  clear HC4; (try clear c1); (try clear p2); (try clear c6); (try clear c7); obtain ⟨kq, x14_3, rfl, HA, HJ3, HB⟩ := hcut
  cases kq with
  | zero => exact absurd HA.out (by simp [impl_zoneAsked.j0])
  | succ kj3 =>
   have H := HA.out; clear HA; simp only [impl_zoneAsked.j0] at H
   by_cases c10 : x14_3 = true
   ·subst c10; rw [if_pos rfl] at H; obtain rfl := Option.some.inj H; go_wp2
    go_ret
    exact ⟨ew, vb HB.out⟩
   ·replace c10 := Bool.eq_false_iff.mpr c10; subst c10; rw [if_neg nf] at H; obtain ⟨t191, A11, H⟩ := bnk H; by_cases c12 : t191 = true
    ·subst c12; rw [if_pos rfl] at H; obtain rfl := Option.some.inj H; go_wp2_with (first | ((with_reducible refine at_fn (f := 68) rfl ?_); refine gl (some 16) Try.func68 #[.int .i64 a2] ?_; (with_reducible refine (impl_isTime.calls a2 _ _ A11.out).mono ?_); rintro e w' ⟨rfl, ⟨nd, rfl⟩⟩; refine ⟨_, rfl, ?_⟩))
     go_ret
     exact ⟨ew, vb HB.out⟩
    ·replace c12 := Bool.eq_false_iff.mpr c12; subst c12; rw [if_neg nf] at H; obtain rfl := Option.some.inj H; go_wp2_with (first | ((with_reducible refine at_fn (f := 68) rfl ?_); refine gl (some 16) Try.func68 #[.int .i64 a2] ?_; (with_reducible refine (impl_isTime.calls a2 _ _ A11.out).mono ?_); rintro e w' ⟨rfl, ⟨nd, rfl⟩⟩; refine ⟨_, rfl, ?_⟩))
     go_ret
     exact ⟨ew, vb HB.out⟩


end Go.Proofs.Ytllhghcepbkpeaa.Pall
