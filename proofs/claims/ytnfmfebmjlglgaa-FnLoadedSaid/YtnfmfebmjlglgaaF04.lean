/- Go functions of the program, each as a Lean function, and the proof that each call comes to what the Lean function tells; no condition beyond those that stand there. -/
import Derived.Test.YtnfmfebmjlglgaaF00
import Derived.Test.YtnfmfebmjlglgaaSpare
import Derived.Test.YtnfmfebmjlglgaaCm
import Derived.Test.YtnfmfebmjlglgaaCm3
import Derived.Test.YtnfmfebmjlglgaaCm6
namespace Go.Proofs.Ytnfmfebmjlglgaa.Pall
open Go.RowKit Go.Proofs.YtnfmfebmjlglgaaW.PrintWords
set_option linter.unusedVariables false
set_option linter.unusedSimpArgs false

/-! ### spec_l01In: function 95 -/
def spec_l01In.f (a0 : Int) (a1 : Int) (a2 : Int) : Option (Bool) := if a0 ≥ a1 then (some (decide (a0 ≤ a2))) else (some false)
set_option maxHeartbeats 8000000 in
set_option maxRecDepth 100000 in
theorem spec_l01In.calls (a0 : Int) (a1 : Int) (a2 : Int) (r : Bool) (w : World) (h : spec_l01In.f a0 a1 a2 = some r) :
  Calls Try.prog 95 #[.int .i64 a0, .int .i64 a1, .int .i64 a2] w fun e w' => e = .returned (.bool r) ∧ Drawn0 w w' := by
 unfold spec_l01In.f at h; have H := h; clear h; by_cases c4 : a0 ≥ a1
 rw [if_pos c4] at H; have c4b0 := decide_eq_true c4; clear c4; obtain rfl := sj H; rotate_left
 rw [if_neg c4] at H; have c4b0 := decide_eq_false c4; clear c4; obtain rfl := sj H; rotate_left
 all_goals
  go_enter Try.func95, Try.ntmps95; go_wp2
  go_ret
  exact ⟨by first | rfl | (simp; done) | (simp [*]; done), by repeat (first | exact Drawn0.refl _ | apply Drawn0.step)⟩


/-! ### spec_l15Place: function 96 -/
def spec_l15Place.f (a0 : Int) (a1 : Int) : Option (Bool) := (spec_l01In.f a0 0 100000).bind fun t0 => (if t0 = true then ((spec_l01In.f a1 0 100000).bind fun t1 => (some t1)) else (some false))
set_option maxHeartbeats 8000000 in
set_option maxRecDepth 100000 in
theorem spec_l15Place.calls (a0 : Int) (a1 : Int) (r : Bool) (w : World) (h : spec_l15Place.f a0 a1 = some r) :
  Calls Try.prog 96 #[.int .i64 a0, .int .i64 a1] w fun e w' => e = .returned (.bool r) ∧ Drawn0 w w' := by
 unfold spec_l15Place.f at h; have H := h; clear h; obtain ⟨t0, A3, H⟩ := bnk H; by_cases c4 : t0 = true
 subst c4; rw [if_pos rfl] at H; obtain ⟨t1, A5, H⟩ := bnk H; obtain rfl := sj H; rotate_left
 replace c4 := Bool.eq_false_iff.mpr c4; subst c4; rw [if_neg nf] at H; obtain rfl := sj H; rotate_left
 all_goals
  go_enter Try.func96, Try.ntmps96; go_wp2_with (first | ((with_reducible refine at_fn (f := 95) rfl ?_); refine gl (some 6) Try.func95 #[.int .i64 a0, .int .i64 0, .int .i64 100000] ?_; (with_reducible refine (spec_l01In.calls a0 0 100000 _ _ A3.1).mono ?_); rintro e w' ⟨rfl, ⟨nd, rfl⟩⟩; refine ⟨_, rfl, ?_⟩) | (go_at_call 95; (with_reducible refine (spec_l01In.calls a1 0 100000 t1 _ A5.1).mono ?_); rintro e w' ⟨rfl, ⟨nd, rfl⟩⟩))
  go_ret
  exact ⟨by first | rfl | (simp; done) | (simp [*]; done), by repeat (first | exact Drawn0.refl _ | apply Drawn0.step)⟩


/-! ### impl_within: function 103 -/
def impl_within.f (a0 : Int) (a1 : Int) (a2 : Int) : Option (Bool) := if a1 ≤ a0 then (some (decide (a0 ≤ a2))) else (some false)
set_option maxHeartbeats 8000000 in
set_option maxRecDepth 100000 in
theorem impl_within.calls (a0 : Int) (a1 : Int) (a2 : Int) (r : Bool) (w : World) (h : impl_within.f a0 a1 a2 = some r) :
  Calls Try.prog 103 #[.int .i64 a0, .int .i64 a1, .int .i64 a2] w fun e w' => e = .returned (.bool r) ∧ Drawn0 w w' := by
 unfold impl_within.f at h; have H := h; clear h; by_cases c4 : a1 ≤ a0
 rw [if_pos c4] at H; have c4b0 := decide_eq_true c4; clear c4; obtain rfl := sj H; rotate_left
 rw [if_neg c4] at H; have c4b0 := decide_eq_false c4; clear c4; obtain rfl := sj H; rotate_left
 all_goals
  go_enter Try.func103, Try.ntmps103; go_wp2
  go_ret
  exact ⟨by first | rfl | (simp; done) | (simp [*]; done), by repeat (first | exact Drawn0.refl _ | apply Drawn0.step)⟩


/-! ### impl_isPlace: function 86 -/
def impl_isPlace.f (a0 : Int) (a1 : Int) : Option (Bool) := (impl_within.f a0 0 100000).bind fun t0 => (if t0 = true then ((impl_within.f a1 0 100000).bind fun t1 => (some t1)) else (some false))
set_option maxHeartbeats 8000000 in
set_option maxRecDepth 100000 in
theorem impl_isPlace.calls (a0 : Int) (a1 : Int) (r : Bool) (w : World) (h : impl_isPlace.f a0 a1 = some r) :
  Calls Try.prog 86 #[.int .i64 a0, .int .i64 a1] w fun e w' => e = .returned (.bool r) ∧ Drawn0 w w' := by
 unfold impl_isPlace.f at h; have H := h; clear h; obtain ⟨t0, A3, H⟩ := bnk H; by_cases c4 : t0 = true
 subst c4; rw [if_pos rfl] at H; obtain ⟨t1, A5, H⟩ := bnk H; obtain rfl := sj H; rotate_left
 replace c4 := Bool.eq_false_iff.mpr c4; subst c4; rw [if_neg nf] at H; obtain rfl := sj H; rotate_left
 all_goals
  go_enter Try.func86, Try.ntmps86; go_wp2_with (first | ((with_reducible refine at_fn (f := 103) rfl ?_); refine gl (some 6) Try.func103 #[.int .i64 a0, .int .i64 0, .int .i64 100000] ?_; (with_reducible refine (impl_within.calls a0 0 100000 _ _ A3.1).mono ?_); rintro e w' ⟨rfl, ⟨nd, rfl⟩⟩; refine ⟨_, rfl, ?_⟩) | (go_at_call 103; (with_reducible refine (impl_within.calls a1 0 100000 t1 _ A5.1).mono ?_); rintro e w' ⟨rfl, ⟨nd, rfl⟩⟩))
  go_ret
  exact ⟨by first | rfl | (simp; done) | (simp [*]; done), by repeat (first | exact Drawn0.refl _ | apply Drawn0.step)⟩


/-! ### impl_allWithin: function 87 -/
def impl_allWithin.l0 : Nat → Int → Int → List Int → Int → Int → Option (Bool)
 | 0, _, _, _, _, _ => none
 | k + 1, x2, x5, x3, x6, x0 => if x0 < x6 then (if 0 ≤ x0 then (if x0 < (x3.length : Int) then ((impl_within.f (rd x3 x0) x2 x5).bind fun t4 => (if t4 = true then (impl_allWithin.l0 k x2 x5 x3 x6 (wrap64 (x0 + 1))) else (some false))) else (none)) else (none)) else (some true)
def impl_allWithin.f (k : Nat) (l0 : List Int) (a1 : Int) (a2 : Int) : Option (Bool) := impl_allWithin.l0 k a1 a2 l0 (l0.length : Int) 0
set_option maxHeartbeats 8000000 in
set_option maxRecDepth 100000 in
theorem impl_allWithin.calls (k : Nat) (A0 : Option Addr) (c0 : Nat) (l0 : List Int) (a1 : Int) (a2 : Int) (r : Bool) (w : World) (hr0 : Kd.C (Kd.int .i64) w A0 l0.length l0) (hc0 : l0.length ≤ c0) (h : impl_allWithin.f k l0 a1 a2 = some r) :
  Calls Try.prog 87 #[.slice A0 l0.length c0, .int .i64 a1, .int .i64 a2] w fun e w' => e = .returned (.bool r) ∧ Drawn0 w w' := by
 have HR0 := ak hr0; have HC0 := ak hc0; clear hr0 hc0; unfold impl_allWithin.f at h; have H := h; clear h; have H' := ak H; clear H; go_enter Try.func87, Try.ntmps87; go_wp2
 go_loopg [11] k (fun kq v0 w' => ∃ (x0_2 : Int), v0 = .int .i64 x0_2 ∧ Aside0 (impl_allWithin.l0 kq a1 a2 l0 (l0.length : Int) x0_2 = some r) ∧ Aside0 (kq ≤ k) ∧ Drawn0 w w')
 case atStart => exact ⟨(0), es, H', ⟨Nat.le_refl _⟩, by repeat (first | exact Drawn0.refl _ | apply Drawn0.step)⟩
 case round =>
  clear H'; obtain ⟨x0_2, rfl, HA, HK1, ⟨m2, rfl⟩⟩ := hrel
  cases gk with
  | zero => exact absurd HA.1 (by simp [impl_allWithin.l0])
  | succ k1 =>
   have H := HA.1; clear HA; simp only [impl_allWithin.l0] at H
   by_cases c4 : x0_2 < (l0.length : Int)
   ·rw [if_pos c4] at H; have c4b0 := decide_eq_true c4; clear c4; by_cases c5 : 0 ≤ x0_2
    ·rw [if_pos c5] at H; have c5b0 := decide_eq_true c5; clear c5; by_cases c6 : x0_2 < (l0.length : Int)
     ·rw [if_pos c6] at H; have c6b0 := decide_eq_true c6; clear c6; obtain ⟨t4, A7, H⟩ := bnk H; by_cases c8 : t4 = true
      ·subst c8; rw [if_pos rfl] at H; have H' := ak H; clear H; have p1 : 0 ≤ (x0_2 : Int) := od; have q1 : x0_2 < (l0.length : Int) := od; obtain ⟨ad1, e1, hx1_7⟩ := Kd.at_int HR0.1 x0_2 p1 q1
       cases e1; replace p1 := eq_true p1; replace q1 := eq_true q1; go_wp2_with (first | ((with_reducible refine at_fn (f := 103) rfl ?_); refine gl (some 18) Try.func103 #[.int .i64 (rd l0 x0_2), .int .i64 a1, .int .i64 a2] ?_; (with_reducible refine (impl_within.calls (rd l0 x0_2) a1 a2 _ _ A7.1).mono ?_); rintro e w' ⟨rfl, ⟨nd, rfl⟩⟩; refine ⟨_, rfl, ?_⟩))
       go_roundg k1
       case measure => have := HK1.1; omega
       case rel => exact ⟨(wrap64 (x0_2 + 1)), es, H', ⟨by have := HK1.1; omega⟩, by repeat (first | exact Drawn0.refl _ | apply Drawn0.step)⟩
      ·replace c8 := Bool.eq_false_iff.mpr c8; subst c8; rw [if_neg nf] at H; obtain rfl := sj H; have p1 : 0 ≤ (x0_2 : Int) := od; have q1 : x0_2 < (l0.length : Int) := od; obtain ⟨ad1, e1, hx1_7⟩ := Kd.at_int HR0.1 x0_2 p1 q1
       cases e1; replace p1 := eq_true p1; replace q1 := eq_true q1; go_wp2_with (first | ((with_reducible refine at_fn (f := 103) rfl ?_); refine gl (some 18) Try.func103 #[.int .i64 (rd l0 x0_2), .int .i64 a1, .int .i64 a2] ?_; (with_reducible refine (impl_within.calls (rd l0 x0_2) a1 a2 _ _ A7.1).mono ?_); rintro e w' ⟨rfl, ⟨nd, rfl⟩⟩; refine ⟨_, rfl, ?_⟩))
       go_ret
       exact ⟨by first | rfl | (simp; done) | (simp [*]; done), by repeat (first | exact Drawn0.refl _ | apply Drawn0.step)⟩
     ·exact nO_ c6 H
    ·exact nO_ c5 H
   ·rw [if_neg c4] at H; have c4b0 := decide_eq_false c4; clear c4; obtain rfl := sj H; go_wp2
    go_ret
    exact ⟨by first | rfl | (simp; done) | (simp [*]; done), by repeat (first | exact Drawn0.refl _ | apply Drawn0.step)⟩


end Go.Proofs.Ytnfmfebmjlglgaa.Pall
