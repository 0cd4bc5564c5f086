/- Go functions of the program, each as a Lean function, and the proof that each call comes to what the Lean function tells; no condition beyond those that stand there. -/
import Derived.Test.YtllhghcepbkpeaaF00
import Derived.Test.YtllhghcepbkpeaaF03
import Derived.Test.YtllhghcepbkpeaaSpare
import Derived.Test.YtllhghcepbkpeaaCm
import Derived.Test.YtllhghcepbkpeaaCm3
namespace Go.Proofs.Ytllhghcepbkpeaa.Pall
open Go.RowKit Go.Proofs.YtllhghcepbkpeaaW.PrintWords
set_option linter.unusedVariables false
set_option linter.unusedSimpArgs false

/-! ### spec_l20Code: function 72 -/
def spec_l20Code.j0 : Nat → Int → Bool → Option (Int)
 | 0, _, _ => none
 | k + 1, x2, x14 => if x14 = true then (some 1) else ((spec_l01IsTime.f x2).bind fun t184 => (if t184 = true then (some 0) else (some 2)))
def spec_l20Code.f (k : Nat) (l0 : List (S42)) (a1 : ByteArray) (a2 : Int) : Option (Int) := (spec_AreMoves.f k l0).bind fun t182 => (if t182 = true then ((spec_IsWord.f k a1).bind fun t183 => (spec_l20Code.j0 k a2 (!t183))) else (spec_l20Code.j0 k a2 true))
theorem spec_l20Code.mono_l : ∀ k, (∀ y0 y1, LeO (spec_l20Code.j0 k y0 y1) (spec_l20Code.j0 (k + 1) y0 y1))
 | 0 => fun _ _ r h => by simp [spec_l20Code.j0] at h
 | k + 1 => by
  have ih0 := spec_l20Code.mono_l k
  ·intro y0 y1; unfold spec_l20Code.j0
   repeat' first | (with_reducible first | exact ih0 _ _ | exact spec_AreMoves.mono _ _ | exact spec_IsWord.mono _ _ | exact LeO.refl _ | exact LeO.none _ | refine LeO.ite ?_ ?_ | refine LeO.bind ?_ (fun _ => ?_)) | exact ih0 _ _ | exact spec_AreMoves.mono _ _ | exact spec_IsWord.mono _ _ | exact LeO.none _ | refine LeO.ite ?_ ?_ | refine LeO.bind ?_ (fun _ => ?_)
theorem spec_l20Code.mono : ∀ a0 a1 a2 k, LeO (spec_l20Code.f k a0 a1 a2) (spec_l20Code.f (k + 1) a0 a1 a2) := by
 intro a0 a1 a2 k; have ih0 := spec_l20Code.mono_l k; unfold spec_l20Code.f
 repeat' first | (with_reducible first | exact ih0 _ _ | exact spec_AreMoves.mono _ _ | exact spec_IsWord.mono _ _ | exact LeO.refl _ | exact LeO.none _ | refine LeO.ite ?_ ?_ | refine LeO.bind ?_ (fun _ => ?_)) | exact ih0 _ _ | exact spec_AreMoves.mono _ _ | exact spec_IsWord.mono _ _ | exact LeO.none _ | refine LeO.ite ?_ ?_ | refine LeO.bind ?_ (fun _ => ?_)
set_option maxHeartbeats 8000000 in
set_option maxRecDepth 100000 in
theorem spec_l20Code.calls (k : Nat) (A0 : Option Addr) (c0 : Nat) (l0 : List (S42)) (a1 : ByteArray) (a2 : Int) (r : Int) (w : World) (hr0 : Kd.C k42 w A0 l0.length l0) (hc0 : l0.length ≤ c0) (h : spec_l20Code.f k l0 a1 a2 = some r) :
  Calls Try.prog 72 #[.slice A0 l0.length c0, .string a1, .int .i64 a2] w fun e w' => e = .returned (.int .i64 r) ∧ Below w.heap.size w w' := by
 have HR0 := ak hr0; have HC0 := ak hc0; clear hr0 hc0; have HB := ak (Below.refl w.heap.size w); unfold spec_l20Code.f at h; have H := h; clear h; have HC4 := ak H; clear H; go_enter Try.func72, Try.ntmps72; go_upto_region 1 with (fail)
 go_cut [14] (fun v14 wc => ∃ (kq : Nat) (x14_3 : Bool), v14 = .bool x14_3 ∧ Aside0 (spec_l20Code.j0 kq a2 x14_3 = some r) ∧ Aside0 (kq ≤ k) ∧ Aside0 (Below w.heap.size w wc))
 case first =>
  have H := HC4.out; clear HC4; obtain ⟨t182, A5, H⟩ := bnk H; by_cases c6 : t182 = true
  ·subst c6; rw [if_pos rfl] at H; obtain ⟨t183, A7, H⟩ := bnk H; have H' := ak H; clear H; go_wp2_with (first | ((with_reducible refine at_fn (f := 16) rfl ?_); refine gl (some 8) Try.func16 #[.slice A0 l0.length c0] ?_; (with_reducible refine (spec_AreMoves.calls k _ _ l0 _ _ ?side1 HC0.out A5.out).mono ?_); (case side1 => exact vd HR0.out HB.out); rintro e w8 ⟨rfl, hb⟩; refine ⟨_, rfl, ?_⟩; replace HB := bs HB hb; (try clear hb); (try clear hb2); (try clear hk); (try clear hi)) | (go_at_call 63; (with_reducible refine (spec_IsWord.calls k a1 t183 _ A7.out).mono ?_); rintro e w' ⟨rfl, ⟨nd, rfl⟩⟩))
   go_meet
   case rel => exact ⟨_, (!t183), (by first | rfl | (simp; done) | (simp [*]; done)), H', ⟨by first | omega | exact Nat.le_refl _⟩, ⟨vb HB.out⟩⟩
  ·replace c6 := Bool.eq_false_iff.mpr c6; subst c6; rw [if_neg nf] at H; have H' := ak H; clear H; go_wp2_with (first | ((with_reducible refine at_fn (f := 16) rfl ?_); refine gl (some 8) Try.func16 #[.slice A0 l0.length c0] ?_; (with_reducible refine (spec_AreMoves.calls k _ _ l0 _ _ ?side1 HC0.out A5.out).mono ?_); (case side1 => exact vd HR0.out HB.out); rintro e w9 ⟨rfl, hb⟩; refine ⟨_, rfl, ?_⟩; replace HB := bs HB hb; (try clear hb); (try clear hb2); (try clear hk); (try clear hi)))
   go_meet
   case rel => exact ⟨_, (true), (by first | rfl | (simp; done) | (simp [*]; done)), H', ⟨by first | omega | exact Nat.le_refl _⟩, ⟨vb HB.out⟩⟩
 case rest =>
  clear HC4; (try clear c1); (try clear p2); (try clear c6); (try clear c7); obtain ⟨kq, x14_3, rfl, HA, HJ3, HB⟩ := hcut
  cases kq with
  | zero => exact absurd HA.out (by simp [spec_l20Code.j0])
  | succ kj3 =>
   have H := HA.out; clear HA; simp only [spec_l20Code.j0] at H
   by_cases c10 : x14_3 = true
   ·subst c10; rw [if_pos rfl] at H; obtain rfl := Option.some.inj H; go_wp2
    go_ret
    exact ⟨ew, vb HB.out⟩
   ·replace c10 := Bool.eq_false_iff.mpr c10; subst c10; rw [if_neg nf] at H; obtain ⟨t184, A11, H⟩ := bnk H; by_cases c12 : t184 = true
    ·subst c12; rw [if_pos rfl] at H; obtain rfl := Option.some.inj H; go_wp2_with (first | ((with_reducible refine at_fn (f := 62) rfl ?_); refine gl (some 16) Try.func62 #[.int .i64 a2] ?_; (with_reducible refine (spec_l01IsTime.calls a2 _ _ A11.out).mono ?_); rintro e w' ⟨rfl, ⟨nd, rfl⟩⟩; refine ⟨_, rfl, ?_⟩))
     go_ret
     exact ⟨ew, vb HB.out⟩
    ·replace c12 := Bool.eq_false_iff.mpr c12; subst c12; rw [if_neg nf] at H; obtain rfl := Option.some.inj H; go_wp2_with (first | ((with_reducible refine at_fn (f := 62) rfl ?_); refine gl (some 16) Try.func62 #[.int .i64 a2] ?_; (with_reducible refine (spec_l01IsTime.calls a2 _ _ A11.out).mono ?_); rintro e w' ⟨rfl, ⟨nd, rfl⟩⟩; refine ⟨_, rfl, ?_⟩))
     go_ret
     exact ⟨ew, vb HB.out⟩


/-! ### spec_l20Upto: function 73 -/
def spec_l20Upto.l0 : Nat → List (S42) → Int → Int → Option (Int)
 | 0, _, _, _ => none
 | k + 1, x0, x1, x5 => if x5 < (x0.length : Int) then (if 0 ≤ x5 then (if ((rd_T42 x0 x5).f0) ≤ x1 then (spec_l20Upto.l0 k x0 x1 (wrap64 (x5 + 1))) else (some x5)) else (none)) else (some x5)
def spec_l20Upto.f (k : Nat) (l0 : List (S42)) (a1 : Int) : Option (Int) := spec_l20Upto.l0 k l0 a1 0
theorem spec_l20Upto.mono_l : ∀ k, (∀ y0 y1 y2, LeO (spec_l20Upto.l0 k y0 y1 y2) (spec_l20Upto.l0 (k + 1) y0 y1 y2))
 | 0 => fun _ _ _ r h => by simp [spec_l20Upto.l0] at h
 | k + 1 => by
  have ih0 := spec_l20Upto.mono_l k
  ·intro y0 y1 y2; unfold spec_l20Upto.l0
   repeat' first | (with_reducible first | exact ih0 _ _ _ | exact LeO.refl _ | exact LeO.none _ | refine LeO.ite ?_ ?_ | refine LeO.bind ?_ (fun _ => ?_)) | exact ih0 _ _ _ | exact LeO.none _ | refine LeO.ite ?_ ?_ | refine LeO.bind ?_ (fun _ => ?_)
theorem spec_l20Upto.mono : ∀ a0 a1 k, LeO (spec_l20Upto.f k a0 a1) (spec_l20Upto.f (k + 1) a0 a1) := by
 intro a0 a1 k; have ih0 := spec_l20Upto.mono_l k; unfold spec_l20Upto.f
 repeat' first | (with_reducible first | exact ih0 _ _ _ | exact LeO.refl _ | exact LeO.none _ | refine LeO.ite ?_ ?_ | refine LeO.bind ?_ (fun _ => ?_)) | exact ih0 _ _ _ | exact LeO.none _ | refine LeO.ite ?_ ?_ | refine LeO.bind ?_ (fun _ => ?_)
set_option maxHeartbeats 8000000 in
set_option maxRecDepth 100000 in
theorem spec_l20Upto.calls (k : Nat) (A0 : Option Addr) (c0 : Nat) (l0 : List (S42)) (a1 : Int) (r : Int) (w : World) (hr0 : Kd.C k42 w A0 l0.length l0) (hc0 : l0.length ≤ c0) (h : spec_l20Upto.f k l0 a1 = some r) :
  Calls Try.prog 73 #[.slice A0 l0.length c0, .int .i64 a1] w fun e w' => e = .returned (.int .i64 r) ∧ Drawn0 w w' := by
 have HR0 := ak hr0; have HC0 := ak hc0; clear hr0 hc0; unfold spec_l20Upto.f at h; have H := h; clear h; have H' := ak H; clear H; go_enter Try.func73, Try.ntmps73; go_wp2
 go_loopg [5] k (fun kq v5 w' => ∃ (x5_1 : Int), v5 = .int .i64 x5_1 ∧ Aside0 (spec_l20Upto.l0 kq l0 a1 x5_1 = some r) ∧ Aside0 (kq ≤ k) ∧ Drawn0 w w')
 case atStart => exact ⟨(0), (by first | rfl | (simp; done) | (simp [*]; done)), H', ⟨Nat.le_refl _⟩, by repeat (first | exact Drawn0.refl _ | apply Drawn0.step)⟩
 case round =>
  clear H'; (try clear p2); obtain ⟨x5_1, rfl, HA, HK1, ⟨m1, rfl⟩⟩ := hrel
  cases gk with
  | zero => exact absurd HA.out (by simp [spec_l20Upto.l0])
  | succ k1 =>
   have H := HA.out; clear HA; simp only [spec_l20Upto.l0] at H
   by_cases c3 : x5_1 < (l0.length : Int)
   ·rw [if_pos c3] at H; have c3b0 := decide_eq_true c3; clear c3; by_cases c4 : 0 ≤ x5_1
    ·rw [if_pos c4] at H; have c4b0 := decide_eq_true c4; clear c4; by_cases c5 : ((rd_T42 l0 x5_1).f0) ≤ a1
     ·rw [if_pos c5] at H; have c5b0 := decide_eq_true c5; clear c5; have H' := ak H; clear H; have p185 : 0 ≤ (x5_1 : Int) := od; have q185 : x5_1 < (l0.length : Int) := od; obtain ⟨ad185, e185, hx185_0, hx185_1, hx185_2⟩ := at_T42 HR0.out x5_1 p185 q185
      cases e185; replace p185 := eq_true p185; replace q185 := eq_true q185; go_wp2
      go_roundg k1
      case measure => have := HK1.out; omega
      case rel => exact ⟨(wrap64 (x5_1 + 1)), (by first | rfl | (simp; done) | (simp [*]; done)), H', ⟨by have := HK1.out; omega⟩, by repeat (first | exact Drawn0.refl _ | apply Drawn0.step)⟩
     ·rw [if_neg c5] at H; have c5b0 := decide_eq_false c5; clear c5; obtain rfl := Option.some.inj H; have p185 : 0 ≤ (x5_1 : Int) := od; have q185 : x5_1 < (l0.length : Int) := od; obtain ⟨ad185, e185, hx185_0, hx185_1, hx185_2⟩ := at_T42 HR0.out x5_1 p185 q185
      cases e185; replace p185 := eq_true p185; replace q185 := eq_true q185; go_wp2
      go_ret
      exact ⟨by first | rfl | (simp; done) | (simp [*]; done), by repeat (first | exact Drawn0.refl _ | apply Drawn0.step)⟩
    ·rw [if_neg c4] at H; exact absurd H (by simp)
   ·rw [if_neg c3] at H; have c3b0 := decide_eq_false c3; clear c3; obtain rfl := Option.some.inj H; go_wp2
    go_ret
    exact ⟨by first | rfl | (simp; done) | (simp [*]; done), by repeat (first | exact Drawn0.refl _ | apply Drawn0.step)⟩


end Go.Proofs.Ytllhghcepbkpeaa.Pall
