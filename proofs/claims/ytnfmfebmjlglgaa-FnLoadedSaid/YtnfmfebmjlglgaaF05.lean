/- Go functions of the program, each as a Lean function, and the proof that each call comes to what the Lean function tells; no condition beyond those that stand there. -/
import Derived.Test.YtnfmfebmjlglgaaF0e
import Derived.Test.YtnfmfebmjlglgaaF04
import Derived.Test.YtnfmfebmjlglgaaSq
import Derived.Test.YtnfmfebmjlglgaaWGuard
import Derived.Test.YtnfmfebmjlglgaaWLast
import Derived.Test.YtnfmfebmjlglgaaWMore
import Derived.Test.YtnfmfebmjlglgaaWTab
import Derived.Test.YtnfmfebmjlglgaaSpare
import Derived.Test.YtnfmfebmjlglgaaCm
import Derived.Test.YtnfmfebmjlglgaaCm3
import Derived.Test.YtnfmfebmjlglgaaCm6
import Derived.Laws.Cover1
namespace Go.Proofs.Ytnfmfebmjlglgaa.Pall
open Go.RowKit Go.Proofs.YtnfmfebmjlglgaaW.PrintWords Go.Proofs.YtnfmfebmjlglgaaW.PrintLast Go.Proofs.YtnfmfebmjlglgaaW.PrintMore
set_option linter.unusedVariables false
set_option linter.unusedSimpArgs false

/-! ### spec_l03Find: function 70 -/
def spec_l03Find.l0 : Nat → List (S67) → ByteArray → Int → Option (Int)
 | 0, _, _, _ => none
 | k + 1, x3, x2, x1 => if x1 < (x3.length : Int) then (if 0 ≤ x1 then (if ((rd_T67 x3 x1).f0).toList = x2.toList then (some x1) else (spec_l03Find.l0 k x3 x2 (wrap64 (x1 + 1)))) else (none)) else (some (-1))
def spec_l03Find.f (k : Nat) (l0 : List (S67)) (a1 : ByteArray) : Option (Int) := spec_l03Find.l0 k l0 a1 0
set_option maxHeartbeats 8000000 in
set_option maxRecDepth 100000 in
theorem spec_l03Find.calls (k : Nat) (A0 : Option Addr) (c0 : Nat) (l0 : List (S67)) (a1 : ByteArray) (r : Int) (w : World) (hr0 : Kd.C k67 w A0 l0.length l0) (hc0 : l0.length ≤ c0) (h : spec_l03Find.f k l0 a1 = some r) :
  Calls Try.prog 70 #[.slice A0 l0.length c0, .string a1] w fun e w' => e = .returned (.int .i64 r) ∧ Drawn0 w w' := by
 have HR0 := ak hr0; have HC0 := ak hc0; clear hr0 hc0; unfold spec_l03Find.f at h; have H := h; clear h; have H' := ak H; clear H; go_enter Try.func70, Try.ntmps70; go_wp2
 go_loopg [5] k (fun kq v1 w' => ∃ (x1_2 : Int), v1 = .int .i64 x1_2 ∧ Aside0 (spec_l03Find.l0 kq l0 a1 x1_2 = some r) ∧ Aside0 (kq ≤ k) ∧ Drawn0 w w')
 case atStart => exact ⟨(0), es, H', ⟨Nat.le_refl _⟩, by repeat (first | exact Drawn0.refl _ | apply Drawn0.step)⟩
 case round =>
  clear H'; obtain ⟨x1_2, rfl, HA, HK1, ⟨m2, rfl⟩⟩ := hrel
  cases gk with
  | zero => exact absurd HA.1 (by simp [spec_l03Find.l0])
  | succ k1 =>
   have H := HA.1; clear HA; simp only [spec_l03Find.l0] at H
   by_cases c3 : x1_2 < (l0.length : Int)
   ·rw [if_pos c3] at H; have c3b0 := decide_eq_true c3; clear c3; by_cases c4 : 0 ≤ x1_2
    ·rw [if_pos c4] at H; have c4b0 := decide_eq_true c4; clear c4; by_cases c5 : ((rd_T67 l0 x1_2).f0).toList = a1.toList
     ·rw [if_pos c5] at H; have c5b0 : (((rd_T67 l0 x1_2).f0).toList == a1.toList) = true := beq_iff_eq.mpr c5; have c5b1 : (((rd_T67 l0 x1_2).f0).toList != a1.toList) = false := bne_eq_false_iff_eq.mpr c5; clear c5; obtain rfl := sj H; have p0 : 0 ≤ (x1_2 : Int) := od; have q0 : x1_2 < (l0.length : Int) := od; obtain ⟨ad0, e0, hx0_3, hx0_2, hx0_4, hx0_5, hx0_6, hx0_1, hx0_7, hx0_8, hx0_9⟩ := at_T67 HR0.1 x1_2 p0 q0
      cases e0; replace p0 := eq_true p0; replace q0 := eq_true q0; go_wp2
      go_ret
      exact ⟨by first | rfl | (simp; done) | (simp [*]; done), by repeat (first | exact Drawn0.refl _ | apply Drawn0.step)⟩
     ·rw [if_neg c5] at H; have c5b0 : (((rd_T67 l0 x1_2).f0).toList == a1.toList) = false := beq_eq_false_iff_ne.mpr c5; have c5b1 : (((rd_T67 l0 x1_2).f0).toList != a1.toList) = true := bne_iff_ne.mpr c5; have H' := ak H; clear H; have p0 : 0 ≤ (x1_2 : Int) := od; have q0 : x1_2 < (l0.length : Int) := od; obtain ⟨ad0, e0, hx0_3, hx0_2, hx0_4, hx0_5, hx0_6, hx0_1, hx0_7, hx0_8, hx0_9⟩ := at_T67 HR0.1 x1_2 p0 q0
      cases e0; replace p0 := eq_true p0; replace q0 := eq_true q0; go_wp2
      go_roundg k1
      case measure => have := HK1.1; omega
      case rel => exact ⟨(wrap64 (x1_2 + 1)), es, H', ⟨by have := HK1.1; omega⟩, by repeat (first | exact Drawn0.refl _ | apply Drawn0.step)⟩
    ·exact nO_ c4 H
   ·rw [if_neg c3] at H; have c3b0 := decide_eq_false c3; clear c3; obtain rfl := sj H; go_wp2
    go_ret
    exact ⟨by first | rfl | (simp; done) | (simp [*]; done), by repeat (first | exact Drawn0.refl _ | apply Drawn0.step)⟩


/-! ### spec_l17Fits: function 81 -/
def spec_l17Fits.f (a0_0 : ByteArray) (a0_1 : Int) (a0_2 : Int) (a0_3 : Int) (a0_4 : Int) (a0_5 : Int) (a0_6 : Int) (a0_7 : Int) (a0_8 : Int) (a1 : Int) : Option (Bool) := if a0_2 ≤ a1 then (some (decide ((wrap64 (10 * a0_2)) > (wrap64 (9 * a1))))) else (some false)
set_option maxHeartbeats 8000000 in
set_option maxRecDepth 100000 in
theorem spec_l17Fits.calls (a0_0 : ByteArray) (a0_1 : Int) (a0_2 : Int) (a0_3 : Int) (a0_4 : Int) (a0_5 : Int) (a0_6 : Int) (a0_7 : Int) (a0_8 : Int) (a1 : Int) (r : Bool) (w : World) (h : spec_l17Fits.f a0_0 a0_1 a0_2 a0_3 a0_4 a0_5 a0_6 a0_7 a0_8 a1 = some r) :
  Calls Try.prog 81 #[.agg #[.string a0_0, .int .i64 a0_1, .int .i64 a0_2, .int .i64 a0_3, .int .i64 a0_4, .int .i64 a0_5, .int .i64 a0_6, .int .i64 a0_7, .int .i64 a0_8], .int .i64 a1] w fun e w' => e = .returned (.bool r) ∧ Below w.heap.size w w' := by
 have hu67 := Try.underlying67; have HB := ak (Below.refl w.heap.size w); unfold spec_l17Fits.f at h; have H := h; clear h; by_cases c3 : a0_2 ≤ a1
 rw [if_pos c3] at H; have c3b0 := decide_eq_true c3; clear c3; obtain rfl := sj H; rotate_left
 rw [if_neg c3] at H; have c3b0 := decide_eq_false c3; clear c3; obtain rfl := sj H; rotate_left
 all_goals
  go_enter Try.func81, Try.ntmps81; go_wp2_with (first | ((with_reducible refine gate_dst (N := 2) rfl ?_); refine bx 2 #[.string a0_0, .int .i64 a0_1, .int .i64 a0_2, .int .i64 a0_3, .int .i64 a0_4, .int .i64 a0_5, .int .i64 a0_6, .int .i64 a0_7, .int .i64 a0_8] 67 ?_; intro gb0 hg w9 hbox hb; have BK0 := ak hbox; have GW109 := gw hg HB; have GE0 := gw hg HB; replace HB := bs HB hb; clear hb hbox hg; have hcz1 := cz9 BK0.1))
  go_ret
  exact ⟨ew, vb HB.1⟩


/-! ### spec_IsWord: function 133 -/
def spec_IsWord.l0 : Nat → ByteArray → Int → Option (Bool)
 | 0, _, _ => none
 | k + 1, x4, x0 => if x0 < (x4.size : Int) then (if 0 ≤ x0 then (if (bt x4 x0) < 97 then (some false) else (if (bt x4 x0) > 122 then (some false) else (spec_IsWord.l0 k x4 (wrap64 (x0 + 1))))) else (none)) else ((spec_l01In.f (x4.size : Int) 1 16).bind fun t5 => (some t5))
def spec_IsWord.f (k : Nat) (a0 : ByteArray) : Option (Bool) := spec_IsWord.l0 k a0 0
set_option maxHeartbeats 8000000 in
set_option maxRecDepth 100000 in
theorem spec_IsWord.calls (k : Nat) (a0 : ByteArray) (r : Bool) (w : World) (h : spec_IsWord.f k a0 = some r) :
  Calls Try.prog 133 #[.string a0] w fun e w' => e = .returned (.bool r) ∧ Drawn0 w w' := by
 unfold spec_IsWord.f at h; have H := h; clear h; have H' := ak H; clear H; go_enter Try.func133, Try.ntmps133; go_wp2
 go_loopg [3] k (fun kq v0 w' => ∃ (x0_1 : Int), v0 = .int .i64 x0_1 ∧ Aside0 (spec_IsWord.l0 kq a0 x0_1 = some r) ∧ Aside0 (kq ≤ k) ∧ Drawn0 w w')
 case atStart => exact ⟨(0), es, H', ⟨Nat.le_refl _⟩, by repeat (first | exact Drawn0.refl _ | apply Drawn0.step)⟩
 case round =>
  clear H'; obtain ⟨x0_1, rfl, HA, HK1, ⟨m1, rfl⟩⟩ := hrel
  cases gk with
  | zero => exact absurd HA.1 (by simp [spec_IsWord.l0])
  | succ k1 =>
   have H := HA.1; clear HA; simp only [spec_IsWord.l0] at H
   by_cases c2 : x0_1 < (a0.size : Int)
   ·rw [if_pos c2] at H; have c2b0 := decide_eq_true c2; clear c2; by_cases c3 : 0 ≤ x0_1
    ·rw [if_pos c3] at H; have c3b0 := decide_eq_true c3; clear c3; by_cases c5 : (bt a0 x0_1) < 97
     ·rw [if_pos c5] at H; have c5b0 := decide_eq_true c5; clear c5; obtain rfl := sj H; have p2 : 0 ≤ (x0_1 : Int) := od; have q2 : x0_1 < (a0.size : Int) := od; have hx2 := bt_at a0 x0_1; replace p2 := eq_true p2; replace q2 := eq_true q2; go_wp2
      go_ret
      exact ⟨by first | rfl | (simp; done) | (simp [*]; done), by repeat (first | exact Drawn0.refl _ | apply Drawn0.step)⟩
     ·rw [if_neg c5] at H; have c5b0 := decide_eq_false c5; clear c5; by_cases c7 : (bt a0 x0_1) > 122
      ·rw [if_pos c7] at H; have c7b0 := decide_eq_true c7; clear c7; obtain rfl := sj H; have p2 : 0 ≤ (x0_1 : Int) := od; have q2 : x0_1 < (a0.size : Int) := od; have hx2 := bt_at a0 x0_1; replace p2 := eq_true p2; replace q2 := eq_true q2; have p3 : 0 ≤ (x0_1 : Int) := od; have q3 : x0_1 < (a0.size : Int) := od; have hx3 := bt_at a0 x0_1; replace p3 := eq_true p3; replace q3 := eq_true q3; go_wp2
       go_ret
       exact ⟨by first | rfl | (simp; done) | (simp [*]; done), by repeat (first | exact Drawn0.refl _ | apply Drawn0.step)⟩
      ·rw [if_neg c7] at H; have c7b0 := decide_eq_false c7; clear c7; have H' := ak H; clear H; have p2 : 0 ≤ (x0_1 : Int) := od; have q2 : x0_1 < (a0.size : Int) := od; have hx2 := bt_at a0 x0_1; replace p2 := eq_true p2; replace q2 := eq_true q2; have p3 : 0 ≤ (x0_1 : Int) := od; have q3 : x0_1 < (a0.size : Int) := od; have hx3 := bt_at a0 x0_1; replace p3 := eq_true p3; replace q3 := eq_true q3; go_wp2
       go_roundg k1
       case measure => have := HK1.1; omega
       case rel => exact ⟨(wrap64 (x0_1 + 1)), es, H', ⟨by have := HK1.1; omega⟩, by repeat (first | exact Drawn0.refl _ | apply Drawn0.step)⟩
    ·exact nO_ c3 H
   ·rw [if_neg c2] at H; have c2b0 := decide_eq_false c2; clear c2; obtain ⟨t5, A8, H⟩ := bnk H; obtain rfl := sj H; go_wp2_with (first | ((with_reducible refine at_fn (f := 95) rfl ?_); refine gl (some 22) Try.func95 #[.int .i64 (a0.size : Int), .int .i64 1, .int .i64 16] ?_; (with_reducible refine (spec_l01In.calls (a0.size : Int) 1 16 t5 _ A8.1).mono ?_); rintro e w' ⟨rfl, ⟨nd, rfl⟩⟩; refine ⟨_, rfl, ?_⟩))
    go_ret
    exact ⟨by first | rfl | (simp; done) | (simp [*]; done), by repeat (first | exact Drawn0.refl _ | apply Drawn0.step)⟩


/-! ### spec_IsArticle: function 132 -/
def spec_IsArticle.f (k : Nat) (a0_0 : ByteArray) (a0_1 : Int) (a0_2 : Int) (a0_3 : Int) (a0_4 : Int) (a0_5 : Int) (a0_6 : Int) (a0_7 : Int) (a0_8 : Int) : Option (Bool) := (spec_IsWord.f k a0_0).bind fun t1 => (if t1 = true then ((spec_l01In.f a0_1 0 3).bind fun t2 => (if t2 = true then ((spec_l01In.f a0_2 20 300).bind fun t3 => (if t3 = true then ((spec_l01In.f a0_3 0 10000).bind fun t4 => (if t4 = true then ((spec_l01In.f a0_4 0 a0_3).bind fun t5 => (if t5 = true then ((spec_l01In.f a0_5 1 50).bind fun t6 => (if t6 = true then ((spec_l01In.f a0_6 0 10000).bind fun t7 => (if t7 = true then ((spec_l01In.f a0_7 1 100000).bind fun t8 => (if t8 = true then ((spec_l01In.f a0_8 0 3).bind fun t9 => (some t9)) else (some false))) else (some false))) else (some false))) else (some false))) else (some false))) else (some false))) else (some false))) else (some false))
set_option maxHeartbeats 8000000 in
set_option maxRecDepth 100000 in
theorem spec_IsArticle.calls (k : Nat) (a0_0 : ByteArray) (a0_1 : Int) (a0_2 : Int) (a0_3 : Int) (a0_4 : Int) (a0_5 : Int) (a0_6 : Int) (a0_7 : Int) (a0_8 : Int) (r : Bool) (w : World) (h : spec_IsArticle.f k a0_0 a0_1 a0_2 a0_3 a0_4 a0_5 a0_6 a0_7 a0_8 = some r) :
  Calls Try.prog 132 #[.agg #[.string a0_0, .int .i64 a0_1, .int .i64 a0_2, .int .i64 a0_3, .int .i64 a0_4, .int .i64 a0_5, .int .i64 a0_6, .int .i64 a0_7, .int .i64 a0_8]] w fun e w' => e = .returned (.bool r) ∧ Below w.heap.size w w' := by
 have hu67 := Try.underlying67; have HB := ak (Below.refl w.heap.size w); unfold spec_IsArticle.f at h; have H := h; clear h; obtain ⟨t1, A2, H⟩ := bnk H
 by_cases c3 : t1 = true
 subst c3; rw [if_pos rfl] at H; obtain ⟨t2, A4, H⟩ := bnk H; by_cases c5 : t2 = true
 subst c5; rw [if_pos rfl] at H; obtain ⟨t3, A6, H⟩ := bnk H; by_cases c7 : t3 = true
 subst c7; rw [if_pos rfl] at H; obtain ⟨t4, A8, H⟩ := bnk H; by_cases c9 : t4 = true
 subst c9; rw [if_pos rfl] at H; obtain ⟨t5, A10, H⟩ := bnk H; by_cases c11 : t5 = true
 subst c11; rw [if_pos rfl] at H; obtain ⟨t6, A12, H⟩ := bnk H; by_cases c13 : t6 = true
 subst c13; rw [if_pos rfl] at H; obtain ⟨t7, A14, H⟩ := bnk H; by_cases c15 : t7 = true
 subst c15; rw [if_pos rfl] at H; obtain ⟨t8, A16, H⟩ := bnk H; by_cases c17 : t8 = true
 subst c17; rw [if_pos rfl] at H; obtain ⟨t9, A18, H⟩ := bnk H; obtain rfl := sj H; rotate_left
 replace c17 := Bool.eq_false_iff.mpr c17; subst c17; rw [if_neg nf] at H; obtain rfl := sj H; rotate_left
 replace c15 := Bool.eq_false_iff.mpr c15; subst c15; rw [if_neg nf] at H; obtain rfl := sj H; rotate_left
 replace c13 := Bool.eq_false_iff.mpr c13; subst c13; rw [if_neg nf] at H; obtain rfl := sj H; rotate_left
 replace c11 := Bool.eq_false_iff.mpr c11; subst c11; rw [if_neg nf] at H; obtain rfl := sj H; rotate_left
 replace c9 := Bool.eq_false_iff.mpr c9; subst c9; rw [if_neg nf] at H; obtain rfl := sj H; rotate_left
 replace c7 := Bool.eq_false_iff.mpr c7; subst c7; rw [if_neg nf] at H; obtain rfl := sj H; rotate_left
 replace c5 := Bool.eq_false_iff.mpr c5; subst c5; rw [if_neg nf] at H; obtain rfl := sj H; rotate_left
 replace c3 := Bool.eq_false_iff.mpr c3; subst c3; rw [if_neg nf] at H; obtain rfl := sj H; rotate_left
 all_goals
  go_enter Try.func132, Try.ntmps132; go_wp2_with (first | ((with_reducible refine gate_dst (N := 1) rfl ?_); refine bx 1 #[.string a0_0, .int .i64 a0_1, .int .i64 a0_2, .int .i64 a0_3, .int .i64 a0_4, .int .i64 a0_5, .int .i64 a0_6, .int .i64 a0_7, .int .i64 a0_8] 67 ?_; intro gb0 hg w9 hbox hb; have BK0 := ak hbox; have GW113 := gw hg HB; have GE0 := gw hg HB; replace HB := bs HB hb; clear hb hbox hg; have hcz10 := cz9 BK0.1) | ((with_reducible refine at_fn (f := 133) rfl ?_); refine gl (some 5) Try.func133 #[.string a0_0] ?_; (with_reducible refine (spec_IsWord.calls k a0_0 _ _ A2.1).mono ?_); rintro e w' ⟨rfl, ⟨nd, rfl⟩⟩; refine ⟨_, rfl, ?_⟩) | (go_at_call 95; (with_reducible refine (spec_l01In.calls a0_1 0 3 _ _ A4.1).mono ?_); rintro e w' ⟨rfl, ⟨nd, rfl⟩⟩) | (go_at_call 95; (with_reducible refine (spec_l01In.calls a0_2 20 300 _ _ A6.1).mono ?_); rintro e w' ⟨rfl, ⟨nd, rfl⟩⟩) | (go_at_call 95; (with_reducible refine (spec_l01In.calls a0_3 0 10000 _ _ A8.1).mono ?_); rintro e w' ⟨rfl, ⟨nd, rfl⟩⟩) | (go_at_call 95; (with_reducible refine (spec_l01In.calls a0_4 0 a0_3 _ _ A10.1).mono ?_); rintro e w' ⟨rfl, ⟨nd, rfl⟩⟩) | (go_at_call 95; (with_reducible refine (spec_l01In.calls a0_5 1 50 _ _ A12.1).mono ?_); rintro e w' ⟨rfl, ⟨nd, rfl⟩⟩) | (go_at_call 95; (with_reducible refine (spec_l01In.calls a0_6 0 10000 _ _ A14.1).mono ?_); rintro e w' ⟨rfl, ⟨nd, rfl⟩⟩) | (go_at_call 95; (with_reducible refine (spec_l01In.calls a0_7 1 100000 _ _ A16.1).mono ?_); rintro e w' ⟨rfl, ⟨nd, rfl⟩⟩) | (go_at_call 95; (with_reducible refine (spec_l01In.calls a0_8 0 3 t9 _ A18.1).mono ?_); rintro e w' ⟨rfl, ⟨nd, rfl⟩⟩))
  go_ret
  exact ⟨ew, vb HB.1⟩


/-! ### spec_AreArticles: function 125 -/
def spec_AreArticles.l0 : Nat → List (S67) → Int → Option (Bool)
 | 0, _, _ => none
 | k + 1, x6, x1 => if x1 < (x6.length : Int) then (if 0 ≤ x1 then ((spec_IsArticle.f k ((rd_T67 x6 x1).f0) ((rd_T67 x6 x1).f1) ((rd_T67 x6 x1).f2) ((rd_T67 x6 x1).f3) ((rd_T67 x6 x1).f4) ((rd_T67 x6 x1).f5) ((rd_T67 x6 x1).f6) ((rd_T67 x6 x1).f7) ((rd_T67 x6 x1).f8)).bind fun t12 => (if t12 = true then (if x1 > 0 then (if 0 ≤ (wrap64 (x1 - 1)) then (if (wrap64 (x1 - 1)) < (x6.length : Int) then (if (Op.bytesLess (((rd_T67 x6 (wrap64 (x1 - 1))).f0).toList) (((rd_T67 x6 x1).f0).toList)) = true then (spec_AreArticles.l0 k x6 (wrap64 (x1 + 1))) else (some false)) else (none)) else (none)) else (spec_AreArticles.l0 k x6 (wrap64 (x1 + 1)))) else (some false))) else (none)) else (some (decide ((x6.length : Int) ≤ 12)))
def spec_AreArticles.f (k : Nat) (l0 : List (S67)) : Option (Bool) := spec_AreArticles.l0 k l0 0
def spec_AreArticles.T4 : Bool × List (List Nat × List Nat) := (true, [([], []), ([], []), ([0, 1], [0, 1]), ([2], [2]), ([3], [3]), ([4], [4]), ([5, 4], [5]), ([6], [6]), ([7, 6], [6, 7]), ([8, 6, 6], [6, 8]), ([9], [9]), ([9], [9]), ([11, 9], [9, 11]), ([10, 12, 9], [9, 10, 12]), ([13, 9], [9, 13]), ([14, 9], [9, 14]), ([9], [9]), ([9], [9]), ([16, 17, 9], [9, 16, 17]), ([18, 9], [9, 18]), ([19, 9], [9, 19]), ([15, 20, 9], [9, 15, 20]), ([9, 21, 6], [6, 9, 21]), ([6, 22], [6, 22])])
def spec_AreArticles.B4 : List Nat := [0, 0, 3, 7, 15, 31, 63, 127, 255, 511, 1023, 1023, 3071, 8191, 16383, 32767, 1023, 1023, 197631, 459775, 984063, 2097151, 4194303, 8388607]
theorem spec_AreArticles.tab4 : rtab .any (opsOf Try.f125 4) = spec_AreArticles.T4 := by kernel_rfl
theorem spec_AreArticles.bits4 : waitsOk spec_AreArticles.T4.2 spec_AreArticles.B4 = true := by kernel_rfl
set_option maxHeartbeats 8000000 in
set_option maxRecDepth 100000 in
theorem spec_AreArticles.calls (k : Nat) (A0 : Option Addr) (c0 : Nat) (l0 : List (S67)) (r : Bool) (w : World) (hr0 : Kd.C k67 w A0 l0.length l0) (hc0 : l0.length ≤ c0) (h : spec_AreArticles.f k l0 = some r) :
  Calls Try.prog 125 #[.slice A0 l0.length c0] w fun e w' => e = .returned (.bool r) ∧ Below w.heap.size w w' := by
 have hu67 := Try.underlying67; have HR0 := ak hr0; have HC0 := ak hc0; clear hr0 hc0; have HB := ak (Below.refl w.heap.size w); unfold spec_AreArticles.f at h; have H := h; clear h; have H' := ak H; clear H; go_enter Try.func125, Try.ntmps125; go_wp2
 go_loopg [3] k (fun kq v1 w' => ∃ (x1_2 : Int), v1 = .int .i64 x1_2 ∧ Aside0 (spec_AreArticles.l0 kq l0 x1_2 = some r) ∧ Aside0 (kq ≤ k) ∧ Aside0 (Below w.heap.size w w'))
 case atStart => exact ⟨(0), es, H', ⟨Nat.le_refl _⟩, ⟨vb HB.1⟩⟩
 case round =>
  clear H'; obtain ⟨x1_2, rfl, HA, HK1, HB⟩ := hrel
  cases gk with
  | zero => exact absurd HA.1 (by simp [spec_AreArticles.l0])
  | succ k1 =>
   have H := HA.1; clear HA; simp only [spec_AreArticles.l0] at H
   by_cases c2 : x1_2 < (l0.length : Int)
   ·rw [if_pos c2] at H; have c2b0 := decide_eq_true c2; clear c2; by_cases c3 : 0 ≤ x1_2
    ·rw [if_pos c3] at H; have c3b0 := decide_eq_true c3; clear c3; obtain ⟨t12, A4, H⟩ := bnk H; by_cases c5 : t12 = true
     ·subst c5; rw [if_pos rfl] at H; by_cases c6 : x1_2 > 0
      ·rw [if_pos c6] at H; have c6b0 := decide_eq_true c6; clear c6; obtain ⟨ji5, hji7⟩ : ∃ j_ : Int, (wrap64 (x1_2 - 1)) = j_ := ⟨_, rfl⟩; replace H : (if 0 ≤ (ji5) then (if (ji5) < (l0.length : Int) then (if (Op.bytesLess (((rd_T67 l0 (ji5)).f0).toList) (((rd_T67 l0 x1_2).f0).toList)) = true then (spec_AreArticles.l0 k1 l0 (wrap64 (x1_2 + 1))) else (some false)) else (none)) else (none)) = some r := by first | (rw [hji7] at H; exact H) | (simp only [hji7] at H ⊢; exact H)
       (try rw [hji7] at A4)
       have hji7w : (IntKind.i64.wrap (x1_2 - 1)) = ji5 := (i64_w _).trans hji7; by_cases c8 : 0 ≤ (ji5)
       ·rw [if_pos c8] at H; have c8b0 := decide_eq_true c8; clear c8; by_cases c9 : (ji5) < (l0.length : Int)
        ·rw [if_pos c9] at H; have c9b0 := decide_eq_true c9; clear c9; by_cases c10 : (Op.bytesLess (((rd_T67 l0 (ji5)).f0).toList) (((rd_T67 l0 x1_2).f0).toList)) = true
         ·rw [if_pos c10] at H; have c10b0 : (Op.bytesLess (((rd_T67 l0 (ji5)).f0).toList) (((rd_T67 l0 x1_2).f0).toList)) = true := c10; clear c10; have H' := ak H; clear H; (try go_wp2)
          replace HB := ak (below_drew1 HB.1); have p0 : 0 ≤ (x1_2 : Int) := od; have q0 : x1_2 < (l0.length : Int) := od; obtain ⟨ad0, e0, hx0_6, hx0_2, hx0_7, hx0_1, hx0_8, hx0_9, hx0_10, hx0_5, hx0_11⟩ := at_T67 HR0.1 x1_2 p0 q0; have hw0_11 := hx0_11; have hw0_5 := hx0_5; have hw0_10 := hx0_10; have hw0_9 := hx0_9; have hw0_8 := hx0_8; have hw0_1 := hx0_1; have hw0_7 := hx0_7; have hw0_2 := hx0_2; have hw0_6 := hx0_6
          cases e0; replace hx0_6 := cb HB.1 hx0_6; replace hx0_2 := cb HB.1 hx0_2; replace hx0_7 := cb HB.1 hx0_7; replace hx0_1 := cb HB.1 hx0_1; replace hx0_8 := cb HB.1 hx0_8; replace hx0_9 := cb HB.1 hx0_9; replace hx0_10 := cb HB.1 hx0_10; replace hx0_5 := cb HB.1 hx0_5; replace hx0_11 := cb HB.1 hx0_11; replace p0 := eq_true p0; replace q0 := eq_true q0; have p3 : 0 ≤ ((ji5) : Int) := od; have q3 : (ji5) < (l0.length : Int) := od; obtain ⟨ad3, e3, hx3_6, hx3_2, hx3_7, hx3_1, hx3_8, hx3_9, hx3_10, hx3_5, hx3_11⟩ := at_T67 HR0.1 (ji5) p3 q3; have hw3_11 := hx3_11; have hw3_5 := hx3_5; have hw3_10 := hx3_10; have hw3_9 := hx3_9; have hw3_8 := hx3_8; have hw3_1 := hx3_1; have hw3_7 := hx3_7; have hw3_2 := hx3_2; have hw3_6 := hx3_6; obtain rfl : ad0 = ad3 := (by injection e3); replace hx3_6 := cb HB.1 hx3_6; replace hx3_2 := cb HB.1 hx3_2; replace hx3_7 := cb HB.1 hx3_7; replace hx3_1 := cb HB.1 hx3_1; replace hx3_8 := cb HB.1 hx3_8; replace hx3_9 := cb HB.1 hx3_9; replace hx3_10 := cb HB.1 hx3_10; replace hx3_5 := cb HB.1 hx3_5; replace hx3_11 := cb HB.1 hx3_11; replace p3 := eq_true p3; replace q3 := eq_true q3; have p4 : 0 ≤ (x1_2 : Int) := od; have q4 : x1_2 < (l0.length : Int) := od; obtain ⟨ad4, e4, hx4_6, hx4_2, hx4_7, hx4_1, hx4_8, hx4_9, hx4_10, hx4_5, hx4_11⟩ := at_T67 HR0.1 x1_2 p4 q4
          have hw4_11 := hx4_11; have hw4_5 := hx4_5; have hw4_10 := hx4_10; have hw4_9 := hx4_9; have hw4_8 := hx4_8; have hw4_1 := hx4_1; have hw4_7 := hx4_7; have hw4_2 := hx4_2; have hw4_6 := hx4_6; obtain rfl : ad0 = ad4 := (by injection e4); replace hx4_6 := cb HB.1 hx4_6; replace hx4_2 := cb HB.1 hx4_2; replace hx4_7 := cb HB.1 hx4_7; replace hx4_1 := cb HB.1 hx4_1; replace hx4_8 := cb HB.1 hx4_8; replace hx4_9 := cb HB.1 hx4_9; replace hx4_10 := cb HB.1 hx4_10; replace hx4_5 := cb HB.1 hx4_5; replace hx4_11 := cb HB.1 hx4_11; replace p4 := eq_true p4; replace q4 := eq_true q4; refine start_ (n := 24) (S := fun w' => w'.cell? (ad0.add ((x1_2).toNat * 9)) = some (.string ((rd_T67 l0 x1_2).f0)) ∧ w'.cell? ⟨(ad0.add ((x1_2).toNat * 9)).block, (ad0.add ((x1_2).toNat * 9)).off + 1, none⟩ = some (.int .i64 ((rd_T67 l0 x1_2).f1)) ∧ w'.cell? ⟨(ad0.add ((x1_2).toNat * 9)).block, (ad0.add ((x1_2).toNat * 9)).off + 2, none⟩ = some (.int .i64 ((rd_T67 l0 x1_2).f2)) ∧ w'.cell? ⟨(ad0.add ((x1_2).toNat * 9)).block, (ad0.add ((x1_2).toNat * 9)).off + 3, none⟩ = some (.int .i64 ((rd_T67 l0 x1_2).f3)) ∧ w'.cell? ⟨(ad0.add ((x1_2).toNat * 9)).block, (ad0.add ((x1_2).toNat * 9)).off + 4, none⟩ = some (.int .i64 ((rd_T67 l0 x1_2).f4)) ∧ w'.cell? ⟨(ad0.add ((x1_2).toNat * 9)).block, (ad0.add ((x1_2).toNat * 9)).off + 5, none⟩ = some (.int .i64 ((rd_T67 l0 x1_2).f5)) ∧ w'.cell? ⟨(ad0.add ((x1_2).toNat * 9)).block, (ad0.add ((x1_2).toNat * 9)).off + 6, none⟩ = some (.int .i64 ((rd_T67 l0 x1_2).f6)) ∧ w'.cell? ⟨(ad0.add ((x1_2).toNat * 9)).block, (ad0.add ((x1_2).toNat * 9)).off + 7, none⟩ = some (.int .i64 ((rd_T67 l0 x1_2).f7)) ∧ w'.cell? ⟨(ad0.add ((x1_2).toNat * 9)).block, (ad0.add ((x1_2).toNat * 9)).off + 8, none⟩ = some (.int .i64 ((rd_T67 l0 x1_2).f8)) ∧ w'.cell? (ad0.add (((ji5)).toNat * 9)) = some (.string ((rd_T67 l0 (ji5)).f0)) ∧ w'.cell? ⟨(ad0.add (((ji5)).toNat * 9)).block, (ad0.add (((ji5)).toNat * 9)).off + 1, none⟩ = some (.int .i64 ((rd_T67 l0 (ji5)).f1)) ∧ w'.cell? ⟨(ad0.add (((ji5)).toNat * 9)).block, (ad0.add (((ji5)).toNat * 9)).off + 2, none⟩ = some (.int .i64 ((rd_T67 l0 (ji5)).f2)) ∧ w'.cell? ⟨(ad0.add (((ji5)).toNat * 9)).block, (ad0.add (((ji5)).toNat * 9)).off + 3, none⟩ = some (.int .i64 ((rd_T67 l0 (ji5)).f3)) ∧ w'.cell? ⟨(ad0.add (((ji5)).toNat * 9)).block, (ad0.add (((ji5)).toNat * 9)).off + 4, none⟩ = some (.int .i64 ((rd_T67 l0 (ji5)).f4)) ∧ w'.cell? ⟨(ad0.add (((ji5)).toNat * 9)).block, (ad0.add (((ji5)).toNat * 9)).off + 5, none⟩ = some (.int .i64 ((rd_T67 l0 (ji5)).f5)) ∧ w'.cell? ⟨(ad0.add (((ji5)).toNat * 9)).block, (ad0.add (((ji5)).toNat * 9)).off + 6, none⟩ = some (.int .i64 ((rd_T67 l0 (ji5)).f6)) ∧ w'.cell? ⟨(ad0.add (((ji5)).toNat * 9)).block, (ad0.add (((ji5)).toNat * 9)).off + 7, none⟩ = some (.int .i64 ((rd_T67 l0 (ji5)).f7)) ∧ w'.cell? ⟨(ad0.add (((ji5)).toNat * 9)).block, (ad0.add (((ji5)).toNat * 9)).off + 8, none⟩ = some (.int .i64 ((rd_T67 l0 (ji5)).f8)) ∧ w'.cell? (ad0.add ((x1_2).toNat * 9)) = some (.string ((rd_T67 l0 x1_2).f0)) ∧ w'.cell? ⟨(ad0.add ((x1_2).toNat * 9)).block, (ad0.add ((x1_2).toNat * 9)).off + 1, none⟩ = some (.int .i64 ((rd_T67 l0 x1_2).f1)) ∧ w'.cell? ⟨(ad0.add ((x1_2).toNat * 9)).block, (ad0.add ((x1_2).toNat * 9)).off + 2, none⟩ = some (.int .i64 ((rd_T67 l0 x1_2).f2)) ∧ w'.cell? ⟨(ad0.add ((x1_2).toNat * 9)).block, (ad0.add ((x1_2).toNat * 9)).off + 3, none⟩ = some (.int .i64 ((rd_T67 l0 x1_2).f3)) ∧ w'.cell? ⟨(ad0.add ((x1_2).toNat * 9)).block, (ad0.add ((x1_2).toNat * 9)).off + 4, none⟩ = some (.int .i64 ((rd_T67 l0 x1_2).f4)) ∧ w'.cell? ⟨(ad0.add ((x1_2).toNat * 9)).block, (ad0.add ((x1_2).toNat * 9)).off + 5, none⟩ = some (.int .i64 ((rd_T67 l0 x1_2).f5)) ∧ w'.cell? ⟨(ad0.add ((x1_2).toNat * 9)).block, (ad0.add ((x1_2).toNat * 9)).off + 6, none⟩ = some (.int .i64 ((rd_T67 l0 x1_2).f6)) ∧ w'.cell? ⟨(ad0.add ((x1_2).toNat * 9)).block, (ad0.add ((x1_2).toNat * 9)).off + 7, none⟩ = some (.int .i64 ((rd_T67 l0 x1_2).f7)) ∧ w'.cell? ⟨(ad0.add ((x1_2).toNat * 9)).block, (ad0.add ((x1_2).toNat * 9)).off + 8, none⟩ = some (.int .i64 ((rd_T67 l0 x1_2).f8))) (ds := []) (tf 0 24) (by kernel_rfl) rfl rfl ⟨(cb HB.1 hw0_6 :), (cb HB.1 hw0_2 :), (cb HB.1 hw0_7 :), (cb HB.1 hw0_1 :), (cb HB.1 hw0_8 :), (cb HB.1 hw0_9 :), (cb HB.1 hw0_10 :), (cb HB.1 hw0_5 :), (cb HB.1 hw0_11 :), (cb HB.1 hw3_6 :), (cb HB.1 hw3_2 :), (cb HB.1 hw3_7 :), (cb HB.1 hw3_1 :), (cb HB.1 hw3_8 :), (cb HB.1 hw3_9 :), (cb HB.1 hw3_10 :), (cb HB.1 hw3_5 :), (cb HB.1 hw3_11 :), (cb HB.1 hw4_6 :), (cb HB.1 hw4_2 :), (cb HB.1 hw4_7 :), (cb HB.1 hw4_1 :), (cb HB.1 hw4_8 :), (cb HB.1 hw4_9 :), (cb HB.1 hw4_10 :), (cb HB.1 hw4_5 :), (cb HB.1 hw4_11 :)⟩ (fun hHeld => ?_); refine with_tabW spec_AreArticles.tab4 spec_AreArticles.bits4 (fun HT_ HW_ => ?_)
          generalize wr.drew = w11 at HB hx0_6 hx0_2 hx0_7 hx0_1 hx0_8 hx0_9 hx0_10 hx0_5 hx0_11 hx3_6 hx3_2 hx3_7 hx3_1 hx3_8 hx3_9 hx3_10 hx3_5 hx3_11 hx4_6 hx4_2 hx4_7 hx4_1 hx4_8 hx4_9 hx4_10 hx4_5 hx4_11 hHeld ⊢; refine pu_ 0 10 (tf 1 23) rfl rfl ?_; refine pu_ 1 11 (tf 2 22) rfl rfl ?_; refine pu_ 2 12 (tf 3 21) rfl rfl ?_; refine ta27_ 3 13 (tf 4 20) rfl rfl ?_; refine one_ (i := 4) (N := some 14) (tf 5 19) rfl rfl (one_of HT_.1 (by kernel_rfl)) (by decide) (fun K hK => ?_); refine goes_ Try.func132 (by kernel_rfl) rfl #[.agg #[.string ((rd_T67 l0 x1_2).f0), .int .i64 ((rd_T67 l0 x1_2).f1), .int .i64 ((rd_T67 l0 x1_2).f2), .int .i64 ((rd_T67 l0 x1_2).f3), .int .i64 ((rd_T67 l0 x1_2).f4), .int .i64 ((rd_T67 l0 x1_2).f5), .int .i64 ((rd_T67 l0 x1_2).f6), .int .i64 ((rd_T67 l0 x1_2).f7), .int .i64 ((rd_T67 l0 x1_2).f8)]] (by rfl) rfl rfl (by (try simp only [List.map_toArray, List.map_cons, List.map_nil]); first | done | rfl | (simp only [List.length_drop, List.length_take]; rfl)) ?_; with_reducible refine (spec_IsArticle.calls k1 ((rd_T67 l0 x1_2).f0) ((rd_T67 l0 x1_2).f1) ((rd_T67 l0 x1_2).f2) ((rd_T67 l0 x1_2).f3) ((rd_T67 l0 x1_2).f4) ((rd_T67 l0 x1_2).f5) ((rd_T67 l0 x1_2).f6) ((rd_T67 l0 x1_2).f7) ((rd_T67 l0 x1_2).f8) true _ A4.1).mono ?_
          rintro e w12 ⟨rfl, hb⟩; refine ⟨_, rfl, ?_⟩; replace HB := bs HB hb; (try clear hb)
          (try clear hb2)
          (try clear hk)
          (try clear hi)
          refine hK.out _ _ ⟨(cb HB.1 hw0_6 :), (cb HB.1 hw0_2 :), (cb HB.1 hw0_7 :), (cb HB.1 hw0_1 :), (cb HB.1 hw0_8 :), (cb HB.1 hw0_9 :), (cb HB.1 hw0_10 :), (cb HB.1 hw0_5 :), (cb HB.1 hw0_11 :), (cb HB.1 hw3_6 :), (cb HB.1 hw3_2 :), (cb HB.1 hw3_7 :), (cb HB.1 hw3_1 :), (cb HB.1 hw3_8 :), (cb HB.1 hw3_9 :), (cb HB.1 hw3_10 :), (cb HB.1 hw3_5 :), (cb HB.1 hw3_11 :), (cb HB.1 hw4_6 :), (cb HB.1 hw4_2 :), (cb HB.1 hw4_7 :), (cb HB.1 hw4_1 :), (cb HB.1 hw4_8 :), (cb HB.1 hw4_9 :), (cb HB.1 hw4_10 :), (cb HB.1 hw4_5 :), (cb HB.1 hw4_11 :)⟩ (fun hHeld => ?_)
          clear hK K; refine norm_ (a' := ?_) ?_ ?_
          rotate_left
          ·show Act.put _ (some 14) _ = _
           simp only [Act.put, List.setIfInBounds_toArray, List.set_cons_zero, List.set_cons_succ, i64_w, i32_w]
           rfl
          refine pu_ 5 15 (tf 6 18) rfl rfl ?_; refine pu_ 6 16 (tf 7 17) rfl rfl ?_; refine pu_ 7 17 (tf 8 16) rfl rfl ?_; refine pu_ 8 18 (tf 9 15) rfl rfl ?_; refine pu_ 9 19 (tf 10 14) rfl rfl ?_; refine pu_ 10 20 (tf 11 13) rfl rfl ?_; refine pu_ 11 21 (tf 12 12) rfl rfl ?_; refine pu_ 12 22 (tf 13 11) rfl rfl ?_; refine pu_ 13 23 (tf 14 10) rfl rfl ?_; refine pu_ 14 24 (tf 15 9) rfl rfl ?_; refine pu_ 16 26 (tM [15, 1, 1, 7]) rfl rfl ?_; refine pu_ 17 27 (tM [15, 1, 2, 6]) rfl rfl ?_; refine pu_ 18 28 (tM [15, 1, 3, 5]) rfl rfl ?_; refine pu_ 19 29 (tM [15, 1, 4, 4]) rfl rfl ?_; refine ta27_ 15 25 (tf 20 4) rfl rfl ?_; refine ta27_ 20 30 (tf 21 3) rfl rfl ?_; refine pu_ 21 31 (tf 22 2) rfl rfl ?_; refine pu_ 22 32 (tf 23 1) rfl rfl ?_; refine pu_ 23 33 (tf 24 0) rfl rfl ?_; refine done_ (done_of HT_.1 (by kernel_rfl)) ?_; (try go_wp2)
          go_roundg k1
          case measure => have := HK1.1; omega
          case rel => exact ⟨(wrap64 (x1_2 + 1)), es, H', ⟨by have := HK1.1; omega⟩, ⟨vb HB.1⟩⟩
         ·rw [if_neg c10] at H; have c10b0 : (Op.bytesLess (((rd_T67 l0 (ji5)).f0).toList) (((rd_T67 l0 x1_2).f0).toList)) = false := by simpa using c10
          clear c10; obtain rfl := sj H; (try go_wp2)
          replace HB := ak (below_drew1 HB.1); have p0 : 0 ≤ (x1_2 : Int) := od; have q0 : x1_2 < (l0.length : Int) := od; obtain ⟨ad0, e0, hx0_6, hx0_2, hx0_7, hx0_1, hx0_8, hx0_9, hx0_10, hx0_5, hx0_11⟩ := at_T67 HR0.1 x1_2 p0 q0; have hw0_11 := hx0_11; have hw0_5 := hx0_5; have hw0_10 := hx0_10; have hw0_9 := hx0_9; have hw0_8 := hx0_8; have hw0_1 := hx0_1; have hw0_7 := hx0_7; have hw0_2 := hx0_2; have hw0_6 := hx0_6
          cases e0; replace hx0_6 := cb HB.1 hx0_6; replace hx0_2 := cb HB.1 hx0_2; replace hx0_7 := cb HB.1 hx0_7; replace hx0_1 := cb HB.1 hx0_1; replace hx0_8 := cb HB.1 hx0_8; replace hx0_9 := cb HB.1 hx0_9; replace hx0_10 := cb HB.1 hx0_10; replace hx0_5 := cb HB.1 hx0_5; replace hx0_11 := cb HB.1 hx0_11; replace p0 := eq_true p0; replace q0 := eq_true q0; have p3 : 0 ≤ ((ji5) : Int) := od; have q3 : (ji5) < (l0.length : Int) := od; obtain ⟨ad3, e3, hx3_6, hx3_2, hx3_7, hx3_1, hx3_8, hx3_9, hx3_10, hx3_5, hx3_11⟩ := at_T67 HR0.1 (ji5) p3 q3; have hw3_11 := hx3_11; have hw3_5 := hx3_5; have hw3_10 := hx3_10; have hw3_9 := hx3_9; have hw3_8 := hx3_8; have hw3_1 := hx3_1; have hw3_7 := hx3_7; have hw3_2 := hx3_2; have hw3_6 := hx3_6; obtain rfl : ad0 = ad3 := (by injection e3); replace hx3_6 := cb HB.1 hx3_6; replace hx3_2 := cb HB.1 hx3_2; replace hx3_7 := cb HB.1 hx3_7; replace hx3_1 := cb HB.1 hx3_1; replace hx3_8 := cb HB.1 hx3_8; replace hx3_9 := cb HB.1 hx3_9; replace hx3_10 := cb HB.1 hx3_10; replace hx3_5 := cb HB.1 hx3_5; replace hx3_11 := cb HB.1 hx3_11; replace p3 := eq_true p3; replace q3 := eq_true q3; have p4 : 0 ≤ (x1_2 : Int) := od; have q4 : x1_2 < (l0.length : Int) := od; obtain ⟨ad4, e4, hx4_6, hx4_2, hx4_7, hx4_1, hx4_8, hx4_9, hx4_10, hx4_5, hx4_11⟩ := at_T67 HR0.1 x1_2 p4 q4
          have hw4_11 := hx4_11; have hw4_5 := hx4_5; have hw4_10 := hx4_10; have hw4_9 := hx4_9; have hw4_8 := hx4_8; have hw4_1 := hx4_1; have hw4_7 := hx4_7; have hw4_2 := hx4_2; have hw4_6 := hx4_6; obtain rfl : ad0 = ad4 := (by injection e4); replace hx4_6 := cb HB.1 hx4_6; replace hx4_2 := cb HB.1 hx4_2; replace hx4_7 := cb HB.1 hx4_7; replace hx4_1 := cb HB.1 hx4_1; replace hx4_8 := cb HB.1 hx4_8; replace hx4_9 := cb HB.1 hx4_9; replace hx4_10 := cb HB.1 hx4_10; replace hx4_5 := cb HB.1 hx4_5; replace hx4_11 := cb HB.1 hx4_11; replace p4 := eq_true p4; replace q4 := eq_true q4; refine start_ (n := 24) (S := fun w' => w'.cell? (ad0.add ((x1_2).toNat * 9)) = some (.string ((rd_T67 l0 x1_2).f0)) ∧ w'.cell? ⟨(ad0.add ((x1_2).toNat * 9)).block, (ad0.add ((x1_2).toNat * 9)).off + 1, none⟩ = some (.int .i64 ((rd_T67 l0 x1_2).f1)) ∧ w'.cell? ⟨(ad0.add ((x1_2).toNat * 9)).block, (ad0.add ((x1_2).toNat * 9)).off + 2, none⟩ = some (.int .i64 ((rd_T67 l0 x1_2).f2)) ∧ w'.cell? ⟨(ad0.add ((x1_2).toNat * 9)).block, (ad0.add ((x1_2).toNat * 9)).off + 3, none⟩ = some (.int .i64 ((rd_T67 l0 x1_2).f3)) ∧ w'.cell? ⟨(ad0.add ((x1_2).toNat * 9)).block, (ad0.add ((x1_2).toNat * 9)).off + 4, none⟩ = some (.int .i64 ((rd_T67 l0 x1_2).f4)) ∧ w'.cell? ⟨(ad0.add ((x1_2).toNat * 9)).block, (ad0.add ((x1_2).toNat * 9)).off + 5, none⟩ = some (.int .i64 ((rd_T67 l0 x1_2).f5)) ∧ w'.cell? ⟨(ad0.add ((x1_2).toNat * 9)).block, (ad0.add ((x1_2).toNat * 9)).off + 6, none⟩ = some (.int .i64 ((rd_T67 l0 x1_2).f6)) ∧ w'.cell? ⟨(ad0.add ((x1_2).toNat * 9)).block, (ad0.add ((x1_2).toNat * 9)).off + 7, none⟩ = some (.int .i64 ((rd_T67 l0 x1_2).f7)) ∧ w'.cell? ⟨(ad0.add ((x1_2).toNat * 9)).block, (ad0.add ((x1_2).toNat * 9)).off + 8, none⟩ = some (.int .i64 ((rd_T67 l0 x1_2).f8)) ∧ w'.cell? (ad0.add (((ji5)).toNat * 9)) = some (.string ((rd_T67 l0 (ji5)).f0)) ∧ w'.cell? ⟨(ad0.add (((ji5)).toNat * 9)).block, (ad0.add (((ji5)).toNat * 9)).off + 1, none⟩ = some (.int .i64 ((rd_T67 l0 (ji5)).f1)) ∧ w'.cell? ⟨(ad0.add (((ji5)).toNat * 9)).block, (ad0.add (((ji5)).toNat * 9)).off + 2, none⟩ = some (.int .i64 ((rd_T67 l0 (ji5)).f2)) ∧ w'.cell? ⟨(ad0.add (((ji5)).toNat * 9)).block, (ad0.add (((ji5)).toNat * 9)).off + 3, none⟩ = some (.int .i64 ((rd_T67 l0 (ji5)).f3)) ∧ w'.cell? ⟨(ad0.add (((ji5)).toNat * 9)).block, (ad0.add (((ji5)).toNat * 9)).off + 4, none⟩ = some (.int .i64 ((rd_T67 l0 (ji5)).f4)) ∧ w'.cell? ⟨(ad0.add (((ji5)).toNat * 9)).block, (ad0.add (((ji5)).toNat * 9)).off + 5, none⟩ = some (.int .i64 ((rd_T67 l0 (ji5)).f5)) ∧ w'.cell? ⟨(ad0.add (((ji5)).toNat * 9)).block, (ad0.add (((ji5)).toNat * 9)).off + 6, none⟩ = some (.int .i64 ((rd_T67 l0 (ji5)).f6)) ∧ w'.cell? ⟨(ad0.add (((ji5)).toNat * 9)).block, (ad0.add (((ji5)).toNat * 9)).off + 7, none⟩ = some (.int .i64 ((rd_T67 l0 (ji5)).f7)) ∧ w'.cell? ⟨(ad0.add (((ji5)).toNat * 9)).block, (ad0.add (((ji5)).toNat * 9)).off + 8, none⟩ = some (.int .i64 ((rd_T67 l0 (ji5)).f8)) ∧ w'.cell? (ad0.add ((x1_2).toNat * 9)) = some (.string ((rd_T67 l0 x1_2).f0)) ∧ w'.cell? ⟨(ad0.add ((x1_2).toNat * 9)).block, (ad0.add ((x1_2).toNat * 9)).off + 1, none⟩ = some (.int .i64 ((rd_T67 l0 x1_2).f1)) ∧ w'.cell? ⟨(ad0.add ((x1_2).toNat * 9)).block, (ad0.add ((x1_2).toNat * 9)).off + 2, none⟩ = some (.int .i64 ((rd_T67 l0 x1_2).f2)) ∧ w'.cell? ⟨(ad0.add ((x1_2).toNat * 9)).block, (ad0.add ((x1_2).toNat * 9)).off + 3, none⟩ = some (.int .i64 ((rd_T67 l0 x1_2).f3)) ∧ w'.cell? ⟨(ad0.add ((x1_2).toNat * 9)).block, (ad0.add ((x1_2).toNat * 9)).off + 4, none⟩ = some (.int .i64 ((rd_T67 l0 x1_2).f4)) ∧ w'.cell? ⟨(ad0.add ((x1_2).toNat * 9)).block, (ad0.add ((x1_2).toNat * 9)).off + 5, none⟩ = some (.int .i64 ((rd_T67 l0 x1_2).f5)) ∧ w'.cell? ⟨(ad0.add ((x1_2).toNat * 9)).block, (ad0.add ((x1_2).toNat * 9)).off + 6, none⟩ = some (.int .i64 ((rd_T67 l0 x1_2).f6)) ∧ w'.cell? ⟨(ad0.add ((x1_2).toNat * 9)).block, (ad0.add ((x1_2).toNat * 9)).off + 7, none⟩ = some (.int .i64 ((rd_T67 l0 x1_2).f7)) ∧ w'.cell? ⟨(ad0.add ((x1_2).toNat * 9)).block, (ad0.add ((x1_2).toNat * 9)).off + 8, none⟩ = some (.int .i64 ((rd_T67 l0 x1_2).f8))) (ds := []) (tf 0 24) (by kernel_rfl) rfl rfl ⟨(cb HB.1 hw0_6 :), (cb HB.1 hw0_2 :), (cb HB.1 hw0_7 :), (cb HB.1 hw0_1 :), (cb HB.1 hw0_8 :), (cb HB.1 hw0_9 :), (cb HB.1 hw0_10 :), (cb HB.1 hw0_5 :), (cb HB.1 hw0_11 :), (cb HB.1 hw3_6 :), (cb HB.1 hw3_2 :), (cb HB.1 hw3_7 :), (cb HB.1 hw3_1 :), (cb HB.1 hw3_8 :), (cb HB.1 hw3_9 :), (cb HB.1 hw3_10 :), (cb HB.1 hw3_5 :), (cb HB.1 hw3_11 :), (cb HB.1 hw4_6 :), (cb HB.1 hw4_2 :), (cb HB.1 hw4_7 :), (cb HB.1 hw4_1 :), (cb HB.1 hw4_8 :), (cb HB.1 hw4_9 :), (cb HB.1 hw4_10 :), (cb HB.1 hw4_5 :), (cb HB.1 hw4_11 :)⟩ (fun hHeld => ?_); refine with_tabW spec_AreArticles.tab4 spec_AreArticles.bits4 (fun HT_ HW_ => ?_)
          generalize wr.drew = w13 at HB hx0_6 hx0_2 hx0_7 hx0_1 hx0_8 hx0_9 hx0_10 hx0_5 hx0_11 hx3_6 hx3_2 hx3_7 hx3_1 hx3_8 hx3_9 hx3_10 hx3_5 hx3_11 hx4_6 hx4_2 hx4_7 hx4_1 hx4_8 hx4_9 hx4_10 hx4_5 hx4_11 hHeld ⊢; refine pu_ 0 10 (tf 1 23) rfl rfl ?_; refine pu_ 1 11 (tf 2 22) rfl rfl ?_; refine pu_ 2 12 (tf 3 21) rfl rfl ?_; refine ta27_ 3 13 (tf 4 20) rfl rfl ?_; refine one_ (i := 4) (N := some 14) (tf 5 19) rfl rfl (one_of HT_.1 (by kernel_rfl)) (by decide) (fun K hK => ?_); refine goes_ Try.func132 (by kernel_rfl) rfl #[.agg #[.string ((rd_T67 l0 x1_2).f0), .int .i64 ((rd_T67 l0 x1_2).f1), .int .i64 ((rd_T67 l0 x1_2).f2), .int .i64 ((rd_T67 l0 x1_2).f3), .int .i64 ((rd_T67 l0 x1_2).f4), .int .i64 ((rd_T67 l0 x1_2).f5), .int .i64 ((rd_T67 l0 x1_2).f6), .int .i64 ((rd_T67 l0 x1_2).f7), .int .i64 ((rd_T67 l0 x1_2).f8)]] (by rfl) rfl rfl (by (try simp only [List.map_toArray, List.map_cons, List.map_nil]); first | done | rfl | (simp only [List.length_drop, List.length_take]; rfl)) ?_; with_reducible refine (spec_IsArticle.calls k1 ((rd_T67 l0 x1_2).f0) ((rd_T67 l0 x1_2).f1) ((rd_T67 l0 x1_2).f2) ((rd_T67 l0 x1_2).f3) ((rd_T67 l0 x1_2).f4) ((rd_T67 l0 x1_2).f5) ((rd_T67 l0 x1_2).f6) ((rd_T67 l0 x1_2).f7) ((rd_T67 l0 x1_2).f8) true _ A4.1).mono ?_
          rintro e w14 ⟨rfl, hb⟩; refine ⟨_, rfl, ?_⟩; replace HB := bs HB hb; (try clear hb)
          (try clear hb2)
          (try clear hk)
          (try clear hi)
          refine hK.out _ _ ⟨(cb HB.1 hw0_6 :), (cb HB.1 hw0_2 :), (cb HB.1 hw0_7 :), (cb HB.1 hw0_1 :), (cb HB.1 hw0_8 :), (cb HB.1 hw0_9 :), (cb HB.1 hw0_10 :), (cb HB.1 hw0_5 :), (cb HB.1 hw0_11 :), (cb HB.1 hw3_6 :), (cb HB.1 hw3_2 :), (cb HB.1 hw3_7 :), (cb HB.1 hw3_1 :), (cb HB.1 hw3_8 :), (cb HB.1 hw3_9 :), (cb HB.1 hw3_10 :), (cb HB.1 hw3_5 :), (cb HB.1 hw3_11 :), (cb HB.1 hw4_6 :), (cb HB.1 hw4_2 :), (cb HB.1 hw4_7 :), (cb HB.1 hw4_1 :), (cb HB.1 hw4_8 :), (cb HB.1 hw4_9 :), (cb HB.1 hw4_10 :), (cb HB.1 hw4_5 :), (cb HB.1 hw4_11 :)⟩ (fun hHeld => ?_)
          clear hK K; refine norm_ (a' := ?_) ?_ ?_
          rotate_left
          ·show Act.put _ (some 14) _ = _
           simp only [Act.put, List.setIfInBounds_toArray, List.set_cons_zero, List.set_cons_succ, i64_w, i32_w]
           rfl
          refine pu_ 5 15 (tf 6 18) rfl rfl ?_; refine pu_ 6 16 (tf 7 17) rfl rfl ?_; refine pu_ 7 17 (tf 8 16) rfl rfl ?_; refine pu_ 8 18 (tf 9 15) rfl rfl ?_; refine pu_ 9 19 (tf 10 14) rfl rfl ?_; refine pu_ 10 20 (tf 11 13) rfl rfl ?_; refine pu_ 11 21 (tf 12 12) rfl rfl ?_; refine pu_ 12 22 (tf 13 11) rfl rfl ?_; refine pu_ 13 23 (tf 14 10) rfl rfl ?_; refine pu_ 14 24 (tf 15 9) rfl rfl ?_; refine pu_ 16 26 (tM [15, 1, 1, 7]) rfl rfl ?_; refine pu_ 17 27 (tM [15, 1, 2, 6]) rfl rfl ?_; refine pu_ 18 28 (tM [15, 1, 3, 5]) rfl rfl ?_; refine pu_ 19 29 (tM [15, 1, 4, 4]) rfl rfl ?_; refine ta27_ 15 25 (tf 20 4) rfl rfl ?_; refine ta27_ 20 30 (tf 21 3) rfl rfl ?_; refine pu_ 21 31 (tf 22 2) rfl rfl ?_; refine pu_ 22 32 (tf 23 1) rfl rfl ?_; refine pu_ 23 33 (tf 24 0) rfl rfl ?_; refine done_ (done_of HT_.1 (by kernel_rfl)) ?_; (try go_wp2)
          go_ret
          exact ⟨by first | rfl | (simp [errW_none, errW_some] <;> rfl) | (simp only [← hji7]; first | rfl | (simp [errW_none, errW_some] <;> rfl)) | (simp [*, errW_none, errW_some] <;> rfl), vb HB.1⟩
        ·exact nO_ c9 H
       ·exact nO_ c8 H
      ·rw [if_neg c6] at H; have c6b0 := decide_eq_false c6; clear c6; have H' := ak H; clear H; (try go_wp2)
       replace HB := ak (below_drew1 HB.1); have p0 : 0 ≤ (x1_2 : Int) := od; have q0 : x1_2 < (l0.length : Int) := od; obtain ⟨ad0, e0, hx0_6, hx0_2, hx0_7, hx0_1, hx0_8, hx0_9, hx0_10, hx0_5, hx0_11⟩ := at_T67 HR0.1 x1_2 p0 q0; have hw0_11 := hx0_11; have hw0_5 := hx0_5; have hw0_10 := hx0_10; have hw0_9 := hx0_9; have hw0_8 := hx0_8; have hw0_1 := hx0_1; have hw0_7 := hx0_7; have hw0_2 := hx0_2; have hw0_6 := hx0_6
       cases e0; replace hx0_6 := cb HB.1 hx0_6; replace hx0_2 := cb HB.1 hx0_2; replace hx0_7 := cb HB.1 hx0_7; replace hx0_1 := cb HB.1 hx0_1; replace hx0_8 := cb HB.1 hx0_8; replace hx0_9 := cb HB.1 hx0_9; replace hx0_10 := cb HB.1 hx0_10; replace hx0_5 := cb HB.1 hx0_5; replace hx0_11 := cb HB.1 hx0_11; replace p0 := eq_true p0; replace q0 := eq_true q0; refine start_ (n := 24) (S := fun w' => w'.cell? (ad0.add ((x1_2).toNat * 9)) = some (.string ((rd_T67 l0 x1_2).f0)) ∧ w'.cell? ⟨(ad0.add ((x1_2).toNat * 9)).block, (ad0.add ((x1_2).toNat * 9)).off + 1, none⟩ = some (.int .i64 ((rd_T67 l0 x1_2).f1)) ∧ w'.cell? ⟨(ad0.add ((x1_2).toNat * 9)).block, (ad0.add ((x1_2).toNat * 9)).off + 2, none⟩ = some (.int .i64 ((rd_T67 l0 x1_2).f2)) ∧ w'.cell? ⟨(ad0.add ((x1_2).toNat * 9)).block, (ad0.add ((x1_2).toNat * 9)).off + 3, none⟩ = some (.int .i64 ((rd_T67 l0 x1_2).f3)) ∧ w'.cell? ⟨(ad0.add ((x1_2).toNat * 9)).block, (ad0.add ((x1_2).toNat * 9)).off + 4, none⟩ = some (.int .i64 ((rd_T67 l0 x1_2).f4)) ∧ w'.cell? ⟨(ad0.add ((x1_2).toNat * 9)).block, (ad0.add ((x1_2).toNat * 9)).off + 5, none⟩ = some (.int .i64 ((rd_T67 l0 x1_2).f5)) ∧ w'.cell? ⟨(ad0.add ((x1_2).toNat * 9)).block, (ad0.add ((x1_2).toNat * 9)).off + 6, none⟩ = some (.int .i64 ((rd_T67 l0 x1_2).f6)) ∧ w'.cell? ⟨(ad0.add ((x1_2).toNat * 9)).block, (ad0.add ((x1_2).toNat * 9)).off + 7, none⟩ = some (.int .i64 ((rd_T67 l0 x1_2).f7)) ∧ w'.cell? ⟨(ad0.add ((x1_2).toNat * 9)).block, (ad0.add ((x1_2).toNat * 9)).off + 8, none⟩ = some (.int .i64 ((rd_T67 l0 x1_2).f8))) (ds := []) (tf 0 24) (by kernel_rfl) rfl rfl ⟨(cb HB.1 hw0_6 :), (cb HB.1 hw0_2 :), (cb HB.1 hw0_7 :), (cb HB.1 hw0_1 :), (cb HB.1 hw0_8 :), (cb HB.1 hw0_9 :), (cb HB.1 hw0_10 :), (cb HB.1 hw0_5 :), (cb HB.1 hw0_11 :)⟩ (fun hHeld => ?_); refine with_tabW spec_AreArticles.tab4 spec_AreArticles.bits4 (fun HT_ HW_ => ?_)
       generalize wr.drew = w15 at HB hx0_6 hx0_2 hx0_7 hx0_1 hx0_8 hx0_9 hx0_10 hx0_5 hx0_11 hHeld ⊢; refine pu_ 0 10 (tf 1 23) rfl rfl ?_; refine pu_ 1 11 (tf 2 22) rfl rfl ?_; refine pu_ 2 12 (tf 3 21) rfl rfl ?_; refine ta9_ 3 13 (tf 4 20) rfl rfl ?_; refine one_ (i := 4) (N := some 14) (tf 5 19) rfl rfl (one_of HT_.1 (by kernel_rfl)) (by decide) (fun K hK => ?_); refine goes_ Try.func132 (by kernel_rfl) rfl #[.agg #[.string ((rd_T67 l0 x1_2).f0), .int .i64 ((rd_T67 l0 x1_2).f1), .int .i64 ((rd_T67 l0 x1_2).f2), .int .i64 ((rd_T67 l0 x1_2).f3), .int .i64 ((rd_T67 l0 x1_2).f4), .int .i64 ((rd_T67 l0 x1_2).f5), .int .i64 ((rd_T67 l0 x1_2).f6), .int .i64 ((rd_T67 l0 x1_2).f7), .int .i64 ((rd_T67 l0 x1_2).f8)]] (by rfl) rfl rfl (by (try simp only [List.map_toArray, List.map_cons, List.map_nil]); first | done | rfl | (simp only [List.length_drop, List.length_take]; rfl)) ?_; with_reducible refine (spec_IsArticle.calls k1 ((rd_T67 l0 x1_2).f0) ((rd_T67 l0 x1_2).f1) ((rd_T67 l0 x1_2).f2) ((rd_T67 l0 x1_2).f3) ((rd_T67 l0 x1_2).f4) ((rd_T67 l0 x1_2).f5) ((rd_T67 l0 x1_2).f6) ((rd_T67 l0 x1_2).f7) ((rd_T67 l0 x1_2).f8) true _ A4.1).mono ?_
       rintro e w16 ⟨rfl, hb⟩; refine ⟨_, rfl, ?_⟩; replace HB := bs HB hb; (try clear hb)
       (try clear hb2)
       (try clear hk)
       (try clear hi)
       refine hK.out _ _ ⟨(cb HB.1 hw0_6 :), (cb HB.1 hw0_2 :), (cb HB.1 hw0_7 :), (cb HB.1 hw0_1 :), (cb HB.1 hw0_8 :), (cb HB.1 hw0_9 :), (cb HB.1 hw0_10 :), (cb HB.1 hw0_5 :), (cb HB.1 hw0_11 :)⟩ (fun hHeld => ?_); clear hK K; refine norm_ (a' := ?_) ?_ ?_
       rotate_left
       ·show Act.put _ (some 14) _ = _
        simp only [Act.put, List.setIfInBounds_toArray, List.set_cons_zero, List.set_cons_succ, i64_w, i32_w]
        rfl
       refine pu_ 5 15 (tf 6 18) rfl rfl ?_; refine pu_ 6 16 (tf 7 17) rfl rfl ?_; refine pu_ 7 17 (tf 8 16) rfl rfl ?_; refine pu_ 8 18 (tf 9 15) rfl rfl ?_; refine pu_ 9 19 (tf 10 14) rfl rfl ?_; refine un_ 10 20 (tf 11 13) rfl rfl ?_; refine un_ 11 21 (tf 12 12) rfl rfl ?_; refine un_ 12 22 (tf 13 11) rfl rfl ?_; refine un_ 13 23 (tf 14 10) rfl rfl ?_; refine un_ 14 24 (tf 15 9) rfl rfl ?_; refine un_ 15 25 (tf 16 8) rfl rfl ?_; refine un_ 16 26 (tf 17 7) rfl rfl ?_; refine un_ 17 27 (tf 18 6) rfl rfl ?_; refine un_ 18 28 (tf 19 5) rfl rfl ?_; refine un_ 19 29 (tf 20 4) rfl rfl ?_; refine un_ 20 30 (tf 21 3) rfl rfl ?_; refine un_ 21 31 (tf 22 2) rfl rfl ?_; refine pu_ 22 32 (tf 23 1) rfl rfl ?_; refine pu_ 23 33 (tf 24 0) rfl rfl ?_; refine done_ (done_of HT_.1 (by kernel_rfl)) ?_; (try go_wp2)
       go_roundg k1
       case measure => have := HK1.1; omega
       case rel => exact ⟨(wrap64 (x1_2 + 1)), es, H', ⟨by have := HK1.1; omega⟩, ⟨vb HB.1⟩⟩
     ·replace c5 := Bool.eq_false_iff.mpr c5; subst c5; rw [if_neg nf] at H; obtain rfl := sj H; (try go_wp2)
      replace HB := ak (below_drew1 HB.1); have p0 : 0 ≤ (x1_2 : Int) := od; have q0 : x1_2 < (l0.length : Int) := od; obtain ⟨ad0, e0, hx0_6, hx0_2, hx0_7, hx0_1, hx0_8, hx0_9, hx0_10, hx0_5, hx0_11⟩ := at_T67 HR0.1 x1_2 p0 q0; have hw0_11 := hx0_11; have hw0_5 := hx0_5; have hw0_10 := hx0_10; have hw0_9 := hx0_9; have hw0_8 := hx0_8; have hw0_1 := hx0_1; have hw0_7 := hx0_7; have hw0_2 := hx0_2; have hw0_6 := hx0_6
      cases e0; replace hx0_6 := cb HB.1 hx0_6; replace hx0_2 := cb HB.1 hx0_2; replace hx0_7 := cb HB.1 hx0_7; replace hx0_1 := cb HB.1 hx0_1; replace hx0_8 := cb HB.1 hx0_8; replace hx0_9 := cb HB.1 hx0_9; replace hx0_10 := cb HB.1 hx0_10; replace hx0_5 := cb HB.1 hx0_5; replace hx0_11 := cb HB.1 hx0_11; replace p0 := eq_true p0; replace q0 := eq_true q0; refine start_ (n := 24) (S := fun w' => w'.cell? (ad0.add ((x1_2).toNat * 9)) = some (.string ((rd_T67 l0 x1_2).f0)) ∧ w'.cell? ⟨(ad0.add ((x1_2).toNat * 9)).block, (ad0.add ((x1_2).toNat * 9)).off + 1, none⟩ = some (.int .i64 ((rd_T67 l0 x1_2).f1)) ∧ w'.cell? ⟨(ad0.add ((x1_2).toNat * 9)).block, (ad0.add ((x1_2).toNat * 9)).off + 2, none⟩ = some (.int .i64 ((rd_T67 l0 x1_2).f2)) ∧ w'.cell? ⟨(ad0.add ((x1_2).toNat * 9)).block, (ad0.add ((x1_2).toNat * 9)).off + 3, none⟩ = some (.int .i64 ((rd_T67 l0 x1_2).f3)) ∧ w'.cell? ⟨(ad0.add ((x1_2).toNat * 9)).block, (ad0.add ((x1_2).toNat * 9)).off + 4, none⟩ = some (.int .i64 ((rd_T67 l0 x1_2).f4)) ∧ w'.cell? ⟨(ad0.add ((x1_2).toNat * 9)).block, (ad0.add ((x1_2).toNat * 9)).off + 5, none⟩ = some (.int .i64 ((rd_T67 l0 x1_2).f5)) ∧ w'.cell? ⟨(ad0.add ((x1_2).toNat * 9)).block, (ad0.add ((x1_2).toNat * 9)).off + 6, none⟩ = some (.int .i64 ((rd_T67 l0 x1_2).f6)) ∧ w'.cell? ⟨(ad0.add ((x1_2).toNat * 9)).block, (ad0.add ((x1_2).toNat * 9)).off + 7, none⟩ = some (.int .i64 ((rd_T67 l0 x1_2).f7)) ∧ w'.cell? ⟨(ad0.add ((x1_2).toNat * 9)).block, (ad0.add ((x1_2).toNat * 9)).off + 8, none⟩ = some (.int .i64 ((rd_T67 l0 x1_2).f8))) (ds := []) (tf 0 24) (by kernel_rfl) rfl rfl ⟨(cb HB.1 hw0_6 :), (cb HB.1 hw0_2 :), (cb HB.1 hw0_7 :), (cb HB.1 hw0_1 :), (cb HB.1 hw0_8 :), (cb HB.1 hw0_9 :), (cb HB.1 hw0_10 :), (cb HB.1 hw0_5 :), (cb HB.1 hw0_11 :)⟩ (fun hHeld => ?_); refine with_tabW spec_AreArticles.tab4 spec_AreArticles.bits4 (fun HT_ HW_ => ?_)
      generalize wr.drew = w17 at HB hx0_6 hx0_2 hx0_7 hx0_1 hx0_8 hx0_9 hx0_10 hx0_5 hx0_11 hHeld ⊢; refine pu_ 0 10 (tf 1 23) rfl rfl ?_; refine pu_ 1 11 (tf 2 22) rfl rfl ?_; refine pu_ 2 12 (tf 3 21) rfl rfl ?_; refine ta9_ 3 13 (tf 4 20) rfl rfl ?_; refine one_ (i := 4) (N := some 14) (tf 5 19) rfl rfl (one_of HT_.1 (by kernel_rfl)) (by decide) (fun K hK => ?_); refine goes_ Try.func132 (by kernel_rfl) rfl #[.agg #[.string ((rd_T67 l0 x1_2).f0), .int .i64 ((rd_T67 l0 x1_2).f1), .int .i64 ((rd_T67 l0 x1_2).f2), .int .i64 ((rd_T67 l0 x1_2).f3), .int .i64 ((rd_T67 l0 x1_2).f4), .int .i64 ((rd_T67 l0 x1_2).f5), .int .i64 ((rd_T67 l0 x1_2).f6), .int .i64 ((rd_T67 l0 x1_2).f7), .int .i64 ((rd_T67 l0 x1_2).f8)]] (by rfl) rfl rfl (by (try simp only [List.map_toArray, List.map_cons, List.map_nil]); first | done | rfl | (simp only [List.length_drop, List.length_take]; rfl)) ?_; with_reducible refine (spec_IsArticle.calls k1 ((rd_T67 l0 x1_2).f0) ((rd_T67 l0 x1_2).f1) ((rd_T67 l0 x1_2).f2) ((rd_T67 l0 x1_2).f3) ((rd_T67 l0 x1_2).f4) ((rd_T67 l0 x1_2).f5) ((rd_T67 l0 x1_2).f6) ((rd_T67 l0 x1_2).f7) ((rd_T67 l0 x1_2).f8) false _ A4.1).mono ?_
      rintro e w18 ⟨rfl, hb⟩; refine ⟨_, rfl, ?_⟩; replace HB := bs HB hb; (try clear hb)
      (try clear hb2)
      (try clear hk)
      (try clear hi)
      refine hK.out _ _ ⟨(cb HB.1 hw0_6 :), (cb HB.1 hw0_2 :), (cb HB.1 hw0_7 :), (cb HB.1 hw0_1 :), (cb HB.1 hw0_8 :), (cb HB.1 hw0_9 :), (cb HB.1 hw0_10 :), (cb HB.1 hw0_5 :), (cb HB.1 hw0_11 :)⟩ (fun hHeld => ?_); clear hK K; refine norm_ (a' := ?_) ?_ ?_
      rotate_left
      ·show Act.put _ (some 14) _ = _
       simp only [Act.put, List.setIfInBounds_toArray, List.set_cons_zero, List.set_cons_succ, i64_w, i32_w]
       rfl
      refine pu_ 5 15 (tf 6 18) rfl rfl ?_; refine pu_ 6 16 (tf 7 17) rfl rfl ?_; refine un_ 7 17 (tf 8 16) rfl rfl ?_; refine un_ 8 18 (tf 9 15) rfl rfl ?_; refine un_ 9 19 (tf 10 14) rfl rfl ?_; refine un_ 10 20 (tf 11 13) rfl rfl ?_; refine un_ 11 21 (tf 12 12) rfl rfl ?_; refine un_ 12 22 (tf 13 11) rfl rfl ?_; refine un_ 13 23 (tf 14 10) rfl rfl ?_; refine un_ 14 24 (tf 15 9) rfl rfl ?_; refine un_ 15 25 (tf 16 8) rfl rfl ?_; refine un_ 16 26 (tf 17 7) rfl rfl ?_; refine un_ 17 27 (tf 18 6) rfl rfl ?_; refine un_ 18 28 (tf 19 5) rfl rfl ?_; refine un_ 19 29 (tf 20 4) rfl rfl ?_; refine un_ 20 30 (tf 21 3) rfl rfl ?_; refine un_ 21 31 (tf 22 2) rfl rfl ?_; refine un_ 22 32 (tf 23 1) rfl rfl ?_; refine pu_ 23 33 (tf 24 0) rfl rfl ?_; refine done_ (done_of HT_.1 (by kernel_rfl)) ?_; (try go_wp2)
      go_ret
      exact ⟨ew, vb HB.1⟩
    ·exact nO_ c3 H
   ·rw [if_neg c2] at H; have c2b0 := decide_eq_false c2; clear c2; obtain rfl := sj H; go_wp2
    go_ret
    exact ⟨ew, vb HB.1⟩


/-! ### spec_IsRack: function 106 -/
mutual
def spec_IsRack.j0 : Nat → List (S67) → Bool → Int → Int → List Int → List ByteArray → Option (Bool)
 | 0, _, _, _, _, _, _ => none
 | k + 1, x1, x16, x19, x20, x17, x18 => if x16 = true then (some false) else (spec_IsRack.l0 k x1 0 x19 x20 x17 x18)
def spec_IsRack.l0 : Nat → List (S67) → Int → Int → Int → List Int → List ByteArray → Option (Bool)
 | 0, _, _, _, _, _, _ => none
 | k + 1, x1, x2, x19, x20, x17, x18 => if x2 < (x17.length : Int) then (if 0 ≤ x2 then (if x2 < (x18.length : Int) then ((spec_l03Find.f k x1 (rdOf ByteArray.empty x18 x2)).bind fun t5 => ((spec_l01In.f (rd x17 x2) 20 300).bind fun t24 => (if t24 = true then (if (rdOf ByteArray.empty x18 x2).toList = ([] : List UInt8) then (spec_IsRack.l0 k x1 (wrap64 (x2 + 1)) x19 x20 x17 x18) else (if t5 < 0 then (some false) else (if 0 ≤ t5 then (if t5 < (x1.length : Int) then ((spec_l17Fits.f ((rd_T67 x1 t5).f0) ((rd_T67 x1 t5).f1) ((rd_T67 x1 t5).f2) ((rd_T67 x1 t5).f3) ((rd_T67 x1 t5).f4) ((rd_T67 x1 t5).f5) ((rd_T67 x1 t5).f6) ((rd_T67 x1 t5).f7) ((rd_T67 x1 t5).f8) (rd x17 x2)).bind fun t25 => (if t25 = true then (spec_IsRack.l0 k x1 (wrap64 (x2 + 1)) x19 x20 x17 x18) else (some false))) else (none)) else (none)))) else (some false)))) else (none)) else (none)) else (some true)
end
def spec_IsRack.f (k : Nat) (l0 : List (S67)) (a1_0 : Int) (a1_1 : Int) (l1_2 : List Int) (l1_3 : List ByteArray) : Option (Bool) := (spec_AreArticles.f k l0).bind fun t21 => (if t21 = true then ((spec_l15Place.f a1_0 a1_1).bind fun t22 => (if t22 = true then ((spec_l01In.f (l1_2.length : Int) 1 12).bind fun t23 => (if t23 = true then (spec_IsRack.j0 k l0 ((l1_3.length : Int) != (l1_2.length : Int)) a1_0 a1_1 l1_2 l1_3) else (spec_IsRack.j0 k l0 true a1_0 a1_1 l1_2 l1_3))) else (spec_IsRack.j0 k l0 true a1_0 a1_1 l1_2 l1_3))) else (spec_IsRack.j0 k l0 true a1_0 a1_1 l1_2 l1_3))
def spec_IsRack.T7 : Bool × List (List Nat × List Nat) := (true, [([], []), ([0], [0]), ([], []), ([1, 2], [1, 2]), ([3], [3]), ([4], [4]), ([5], [5]), ([6, 5], [6]), ([7], [7]), ([8, 7], [7, 8]), ([7], [7]), ([9, 10, 7], [7, 9, 10]), ([11, 7], [7, 11]), ([12, 7], [7, 12]), ([13, 7, 7], [7, 13]), ([14], [14]), ([15, 14], [14, 15]), ([16, 14, 14], [14, 16]), ([17], [17]), ([17], [17]), ([18, 19, 17], [17, 18, 19]), ([20, 17], [17, 20]), ([17], [17]), ([22, 17], [17, 22]), ([17], [17]), ([23, 24, 17], [17, 23, 24]), ([25, 17], [17, 25]), ([21, 26, 17, 17], [17, 21, 26]), ([27, 17], [17, 27]), ([17, 28, 14], [14, 17, 28]), ([14, 29, 7], [7, 14, 29]), ([7, 30], [7, 30])])
def spec_IsRack.B7 : List Nat := [0, 1, 0, 7, 15, 31, 63, 127, 255, 511, 255, 2047, 4095, 8191, 16383, 32767, 65535, 131071, 262143, 262143, 1048575, 2097151, 262143, 4456447, 262143, 29622271, 63176703, 134217727, 268435455, 536870911, 1073741823, 2147483647]
theorem spec_IsRack.tab7 : rtab .any (opsOf Try.f106 7) = spec_IsRack.T7 := by kernel_rfl
theorem spec_IsRack.bits7 : waitsOk spec_IsRack.T7.2 spec_IsRack.B7 = true := by kernel_rfl
set_option maxHeartbeats 8000000 in
set_option maxRecDepth 100000 in
theorem spec_IsRack.calls (k : Nat) (A0 : Option Addr) (c0 : Nat) (l0 : List (S67)) (a1_0 : Int) (a1_1 : Int) (A1_2 : Option Addr) (c1_2 : Nat) (l1_2 : List Int) (A1_3 : Option Addr) (c1_3 : Nat) (l1_3 : List ByteArray) (r : Bool) (w : World) (hr0 : Kd.C k67 w A0 l0.length l0) (hc0 : l0.length ≤ c0) (hr1_2 : Kd.C (Kd.int .i64) w A1_2 l1_2.length l1_2) (hc1_2 : l1_2.length ≤ c1_2) (hr1_3 : Kd.C Kd.string w A1_3 l1_3.length l1_3) (hc1_3 : l1_3.length ≤ c1_3) (h : spec_IsRack.f k l0 a1_0 a1_1 l1_2 l1_3 = some r) :
  Calls Try.prog 106 #[.slice A0 l0.length c0, .agg #[.int .i64 a1_0, .int .i64 a1_1, .slice A1_2 l1_2.length c1_2, .slice A1_3 l1_3.length c1_3]] w fun e w' => e = .returned (.bool r) ∧ Below w.heap.size w w' := by
 have hu33 := Try.underlying33; have hu67 := Try.underlying67; have HR0 := ak hr0; have HC0 := ak hc0; clear hr0 hc0; have HR1_2 := ak hr1_2; have HC1_2 := ak hc1_2; clear hr1_2 hc1_2; have HR1_3 := ak hr1_3; have HC1_3 := ak hc1_3; clear hr1_3 hc1_3; have HB := ak (Below.refl w.heap.size w); unfold spec_IsRack.f at h; have H := h; clear h; have HC3 := ak H; clear H; go_enter Try.func106, Try.ntmps106; go_upto_region 1 with (first | ((with_reducible refine gate_dst (N := 3) rfl ?_); (try (refine gate_guard (by rfl) ?_; dsimp only)); refine bx 3 #[.int .i64 a1_0, .int .i64 a1_1, .slice A1_2 l1_2.length c1_2, .slice A1_3 l1_3.length c1_3] 33 ?_; intro gb3 hg w4 hbox hb; have BK3 := ak hbox; have GW127 := gw hg HB; have GE3 := gw hg HB; replace HB := bs HB hb; clear hb hbox hg))
 (try simp only [Act.put, List.setIfInBounds_toArray, List.set_cons_zero, List.set_cons_succ])
 go_cut [33] (fun v16 wc => ∃ (kq : Nat) (x16_4 : Bool), v16 = .bool x16_4 ∧ Aside0 (spec_IsRack.j0 kq l0 x16_4 a1_0 a1_1 l1_2 l1_3 = some r) ∧ Aside0 (kq ≤ k) ∧ Aside0 (wc.heap[gb3]? = some (.cells #[.int .i64 a1_0, .int .i64 a1_1, (.slice A1_2 l1_2.length c1_2), (.slice A1_3 l1_3.length c1_3)] 33 (0, 0))) ∧ Aside0 (Below w.heap.size w wc))
 case first =>
  have H := HC3.1; clear HC3; obtain ⟨t21, A5, H⟩ := bnk H; by_cases c6 : t21 = true
  ·subst c6; rw [if_pos rfl] at H; obtain ⟨t22, A7, H⟩ := bnk H; by_cases c8 : t22 = true
   ·subst c8; rw [if_pos rfl] at H; obtain ⟨t23, A9, H⟩ := bnk H; by_cases c10 : t23 = true
    ·subst c10; rw [if_pos rfl] at H; have H' := ak H; clear H; go_wp2_with (first | ((with_reducible refine at_fn (f := 125) rfl ?_); refine gl (some 8) Try.func125 #[.slice A0 l0.length c0] ?_; (with_reducible refine (spec_AreArticles.calls k _ _ l0 _ _ ?_ HC0.1 A5.1).mono ?_); exact vd HR0.1 HB.1; rintro e w11 ⟨rfl, hb⟩; refine ⟨_, rfl, ?_⟩; replace BK3 := kb BK3 hb; replace HB := bs HB hb; (try clear hb); have hcz26 := cz4 BK3.1) | (go_at_call 96; (with_reducible refine (spec_l15Place.calls a1_0 a1_1 _ _ A7.1).mono ?_); rintro e w' ⟨rfl, ⟨nd, rfl⟩⟩) | (go_at_call 95; (with_reducible refine (spec_l01In.calls (l1_2.length : Int) 1 12 _ _ A9.1).mono ?_); rintro e w' ⟨rfl, ⟨nd, rfl⟩⟩))
     go_meet
     case rel => exact ⟨_, (((l1_3.length : Int) != (l1_2.length : Int))), es, H', ⟨by first | omega | exact Nat.le_refl _⟩, ⟨vk BK3.1⟩, ⟨vb HB.1⟩⟩
    ·replace c10 := Bool.eq_false_iff.mpr c10; subst c10; rw [if_neg nf] at H; have H' := ak H; clear H; go_wp2_with (first | ((with_reducible refine at_fn (f := 125) rfl ?_); refine gl (some 8) Try.func125 #[.slice A0 l0.length c0] ?_; (with_reducible refine (spec_AreArticles.calls k _ _ l0 _ _ ?_ HC0.1 A5.1).mono ?_); exact vd HR0.1 HB.1; rintro e w13 ⟨rfl, hb⟩; refine ⟨_, rfl, ?_⟩; replace BK3 := kb BK3 hb; replace HB := bs HB hb; (try clear hb); have hcz27 := cz4 BK3.1) | (go_at_call 96; (with_reducible refine (spec_l15Place.calls a1_0 a1_1 _ _ A7.1).mono ?_); rintro e w' ⟨rfl, ⟨nd, rfl⟩⟩) | (go_at_call 95; (with_reducible refine (spec_l01In.calls (l1_2.length : Int) 1 12 _ _ A9.1).mono ?_); rintro e w' ⟨rfl, ⟨nd, rfl⟩⟩))
     go_meet
     case rel => exact ⟨_, (true), es, H', ⟨by first | omega | exact Nat.le_refl _⟩, ⟨vk BK3.1⟩, ⟨vb HB.1⟩⟩
   ·replace c8 := Bool.eq_false_iff.mpr c8; subst c8; rw [if_neg nf] at H; have H' := ak H; clear H; go_wp2_with (first | ((with_reducible refine at_fn (f := 125) rfl ?_); refine gl (some 8) Try.func125 #[.slice A0 l0.length c0] ?_; (with_reducible refine (spec_AreArticles.calls k _ _ l0 _ _ ?_ HC0.1 A5.1).mono ?_); exact vd HR0.1 HB.1; rintro e w15 ⟨rfl, hb⟩; refine ⟨_, rfl, ?_⟩; replace BK3 := kb BK3 hb; replace HB := bs HB hb; (try clear hb); have hcz28 := cz4 BK3.1) | (go_at_call 96; (with_reducible refine (spec_l15Place.calls a1_0 a1_1 _ _ A7.1).mono ?_); rintro e w' ⟨rfl, ⟨nd, rfl⟩⟩))
    go_meet
    case rel => exact ⟨_, (true), es, H', ⟨by first | omega | exact Nat.le_refl _⟩, ⟨vk BK3.1⟩, ⟨vb HB.1⟩⟩
  ·replace c6 := Bool.eq_false_iff.mpr c6; subst c6; rw [if_neg nf] at H; have H' := ak H; clear H; go_wp2_with (first | ((with_reducible refine at_fn (f := 125) rfl ?_); refine gl (some 8) Try.func125 #[.slice A0 l0.length c0] ?_; (with_reducible refine (spec_AreArticles.calls k _ _ l0 _ _ ?_ HC0.1 A5.1).mono ?_); exact vd HR0.1 HB.1; rintro e w17 ⟨rfl, hb⟩; refine ⟨_, rfl, ?_⟩; replace BK3 := kb BK3 hb; replace HB := bs HB hb; (try clear hb)))
   go_meet
   case rel => exact ⟨_, (true), es, H', ⟨by first | omega | exact Nat.le_refl _⟩, ⟨vk BK3.1⟩, ⟨vb HB.1⟩⟩
 case rest =>
  clear HC3; obtain ⟨kq, x16_4, rfl, HA, HJ2, BK3, HB⟩ := hcut
  cases kq with
  | zero => exact absurd HA.1 (by simp [spec_IsRack.j0])
  | succ kj2 =>
   have H := HA.1; clear HA; simp only [spec_IsRack.j0] at H
   by_cases c18 : x16_4 = true
   ·subst c18; rw [if_pos rfl] at H; obtain rfl := sj H; go_wp2
    go_ret
    exact ⟨ew, vb HB.1⟩
   ·replace c18 := Bool.eq_false_iff.mpr c18; subst c18; rw [if_neg nf] at H; have H' := ak H; clear H; go_wp2
    go_loopg [5] kj2 (fun kq v2 w' => ∃ (x2_4 : Int), v2 = .int .i64 x2_4 ∧ Aside0 (spec_IsRack.l0 kq l0 x2_4 a1_0 a1_1 l1_2 l1_3 = some r) ∧ Aside0 (kq ≤ kj2) ∧ Aside0 (w'.heap[gb3]? = some (.cells #[.int .i64 a1_0, .int .i64 a1_1, (.slice A1_2 l1_2.length c1_2), (.slice A1_3 l1_3.length c1_3)] 33 (0, 0))) ∧ Aside0 (Below w.heap.size w w'))
    case atStart => exact ⟨(0), es, H', ⟨Nat.le_refl _⟩, ⟨vk BK3.1⟩, ⟨vb HB.1⟩⟩
    case round =>
     clear H'; obtain ⟨x2_4, rfl, HA, HK2, BK3, HB⟩ := hrel
     cases gk with
     | zero => exact absurd HA.1 (by simp [spec_IsRack.l0])
     | succ k2 =>
      have H := HA.1; clear HA; simp only [spec_IsRack.l0] at H
      by_cases c19 : x2_4 < (l1_2.length : Int)
      ·rw [if_pos c19] at H; have c19b0 := decide_eq_true c19; clear c19; by_cases c20 : 0 ≤ x2_4
       ·rw [if_pos c20] at H; have c20b0 := decide_eq_true c20; clear c20; by_cases c21 : x2_4 < (l1_3.length : Int)
        ·rw [if_pos c21] at H; have c21b0 := decide_eq_true c21; clear c21; obtain ⟨t5, A22, H⟩ := bnk H; obtain ⟨t24, A23, H⟩ := bnk H
         by_cases c24 : t24 = true
         ·subst c24; rw [if_pos rfl] at H; by_cases c25 : (rdOf ByteArray.empty l1_3 x2_4).toList = ([] : List UInt8)
          ·rw [if_pos c25] at H; have c25b0 : ((rdOf ByteArray.empty l1_3 x2_4).toList == ([] : List UInt8)) = true := beq_iff_eq.mpr c25; have c25b1 : ((rdOf ByteArray.empty l1_3 x2_4).toList != ([] : List UInt8)) = false := bne_eq_false_iff_eq.mpr c25; clear c25; have H' := ak H; clear H; have hcz29 := cz4 BK3.1; have p7 : 0 ≤ (x2_4 : Int) := od; have q7 : x2_4 < (l1_3.length : Int) := od; obtain ⟨ad7, e7, hx7_1⟩ := Kd.at_string HR1_3.1 x2_4 p7 q7
           cases e7; replace hx7_1 := cb HB.1 hx7_1; replace p7 := eq_true p7; replace q7 := eq_true q7; (try go_wp2_with (first | ((with_reducible refine at_fn (f := 70) rfl ?_); refine gl (some 47) Try.func70 #[.slice A0 l0.length c0, .string (rdOf ByteArray.empty l1_3 x2_4)] ?_; (with_reducible refine (spec_l03Find.calls k2 _ _ l0 (rdOf ByteArray.empty l1_3 x2_4) t5 _ ?_ HC0.1 A22.1).mono ?_); exact vd HR0.1 HB.1; rintro e w' ⟨rfl, ⟨nd, rfl⟩⟩; refine ⟨_, rfl, ?_⟩)))
           (try (rw [drewN_self wr]; generalize hq_ : World.drewN wr _ = wr; have n0_ : Aside0 (wr.heap[gb3]? = some (.cells #[.int .i64 a1_0, .int .i64 a1_1, .slice A1_2 l1_2.length c1_2, .slice (some ad7) l1_3.length c1_3] 33 (0, 0))) := ⟨by rw [← hq_]; exact (vk BK3.1)⟩; have n1_ : Aside0 (Below w.heap.size w wr) := ⟨by rw [← hq_]; exact (vb HB.1)⟩; clear BK3 HB hq_; have BK3 := n0_; have HB := n1_; clear n0_ n1_))
           replace BK3 := ak (blk_drew BK3.1); replace HB := ak (below_drew1 HB.1); have p6 : 0 ≤ (x2_4 : Int) := od; have q6 : x2_4 < (l1_2.length : Int) := od; obtain ⟨ad6, e6, hx6_1⟩ := Kd.at_int HR1_2.1 x2_4 p6 q6; have hw6_1 := hx6_1
           cases e6; replace hx6_1 := cb HB.1 hx6_1; replace p6 := eq_true p6; replace q6 := eq_true q6; have p8 : 0 ≤ (x2_4 : Int) := od; have q8 : x2_4 < (l1_3.length : Int) := od; obtain ⟨ad8, e8, hx8_1⟩ := Kd.at_string HR1_3.1 x2_4 p8 q8; have hw8_1 := hx8_1; obtain rfl : ad7 = ad8 := (by injection e8); replace hx8_1 := cb HB.1 hx8_1; replace p8 := eq_true p8; replace q8 := eq_true q8; refine start_ (n := 32) (S := fun w' => w'.cell? ⟨gb3, 0, none⟩ = some (.int .i64 a1_0) ∧ w'.cell? ⟨gb3, 1, none⟩ = some (.int .i64 a1_1) ∧ w'.cell? ⟨gb3, 2, none⟩ = some (.slice (some ad6) l1_2.length c1_2) ∧ w'.cell? ⟨gb3, 3, none⟩ = some (.slice (some ad7) l1_3.length c1_3) ∧ w'.cell? (ad6.add (x2_4).toNat) = some (.int .i64 (rd l1_2 x2_4)) ∧ w'.cell? (ad7.add (x2_4).toNat) = some (.string (rdOf ByteArray.empty l1_3 x2_4))) (ds := []) (tf 0 32) (by kernel_rfl) rfl rfl ⟨bk BK3.1 0, bk BK3.1 1, bk BK3.1 2, bk BK3.1 3, (cb HB.1 hw6_1 :), (cb HB.1 hw8_1 :)⟩ (fun hHeld => ?_); refine with_tabW spec_IsRack.tab7 spec_IsRack.bits7 (fun HT_ HW_ => ?_); generalize wr.drew = w27 at BK3 HB hx6_1 hx8_1 hHeld ⊢; refine pu_ 0 48 (tf 1 31) rfl rfl ?_; refine pu_ 2 50 (tM [1, 1, 1, 29]) rfl rfl ?_
           refine ta6_ 1 49 (tf 3 29) rfl rfl ?_; refine pu_ 3 51 (tf 4 28) rfl rfl ?_; refine ta6_ 4 52 (tf 5 27) rfl rfl ?_; refine one_ (i := 5) (N := some 53) (tf 6 26) rfl rfl (one_of HT_.1 (by kernel_rfl)) (by decide) (fun K hK => ?_); refine goes_ Try.func95 (by kernel_rfl) rfl #[.int .i64 (rd l1_2 x2_4), .int .i64 20, .int .i64 300] (by rfl) rfl rfl (by (try simp only [List.map_toArray, List.map_cons, List.map_nil]); first | done | rfl | (simp only [List.length_drop, List.length_take]; rfl)) ?_; with_reducible refine (spec_l01In.calls (rd l1_2 x2_4) 20 300 true _ A23.1).mono ?_
           rintro e w' ⟨rfl, ⟨nd, rfl⟩⟩; refine ⟨_, rfl, ?_⟩; refine hK.out _ _ ⟨bk BK3.1 0, bk BK3.1 1, bk BK3.1 2, bk BK3.1 3, (cb HB.1 hw6_1 :), (cb HB.1 hw8_1 :)⟩ (fun hHeld => ?_); clear hK K; refine norm_ (a' := ?_) ?_ ?_
           rotate_left
           ·show Act.put _ (some 53) _ = _
            simp only [Act.put, List.setIfInBounds_toArray, List.set_cons_zero, List.set_cons_succ, i64_w, i32_w]
            rfl
           refine pu_ 6 54 (tf 7 25) rfl rfl ?_; refine pu_ 7 55 (tf 8 24) rfl rfl ?_; refine pu_ 8 56 (tf 9 23) rfl rfl ?_; refine pu_ 10 58 (tM [9, 1, 1, 21]) rfl rfl ?_; refine ta6_ 9 57 (tf 11 21) rfl rfl ?_; refine pu_ 11 59 (tf 12 20) rfl rfl ?_; refine ta6_ 12 60 (tf 13 19) rfl rfl ?_; refine pu_ 13 61 (tf 14 18) rfl rfl ?_; refine pu_ 14 62 (tf 15 17) rfl rfl ?_; refine un_ 15 63 (tf 16 16) rfl rfl ?_; refine un_ 16 64 (tf 17 15) rfl rfl ?_; refine un_ 17 65 (tf 18 14) rfl rfl ?_; refine un_ 18 66 (tf 19 13) rfl rfl ?_; refine un_ 19 67 (tf 20 12) rfl rfl ?_; refine un_ 20 68 (tf 21 11) rfl rfl ?_; refine un_ 21 69 (tf 22 10) rfl rfl ?_; refine un_ 22 70 (tf 23 9) rfl rfl ?_; refine un_ 23 71 (tf 24 8) rfl rfl ?_; refine un_ 24 72 (tf 25 7) rfl rfl ?_; refine un_ 25 73 (tf 26 6) rfl rfl ?_; refine un_ 26 74 (tf 27 5) rfl rfl ?_; refine un_ 27 75 (tf 28 4) rfl rfl ?_; refine un_ 28 76 (tf 29 3) rfl rfl ?_; refine un_ 29 77 (tf 30 2) rfl rfl ?_; refine pu_ 30 78 (tf 31 1) rfl rfl ?_; refine pu_ 31 79 (tf 32 0) rfl rfl ?_; refine done_ (done_of HT_.1 (by kernel_rfl)) ?_; (try go_wp2)
           go_roundg k2
           case measure => have := HJ2.1; have := HK2.1; omega
           case rel => exact ⟨(wrap64 (x2_4 + 1)), es, H', ⟨by have := HJ2.1; have := HK2.1; omega⟩, ⟨vk BK3.1⟩, ⟨vb HB.1⟩⟩
          ·rw [if_neg c25] at H; have c25b0 : ((rdOf ByteArray.empty l1_3 x2_4).toList == ([] : List UInt8)) = false := beq_eq_false_iff_ne.mpr c25; have c25b1 : ((rdOf ByteArray.empty l1_3 x2_4).toList != ([] : List UInt8)) = true := bne_iff_ne.mpr c25; by_cases c28 : t5 < 0
           ·rw [if_pos c28] at H; have c28b0 := decide_eq_true c28; clear c28; obtain rfl := sj H; have hcz30 := cz4 BK3.1; have p7 : 0 ≤ (x2_4 : Int) := od; have q7 : x2_4 < (l1_3.length : Int) := od; obtain ⟨ad7, e7, hx7_1⟩ := Kd.at_string HR1_3.1 x2_4 p7 q7
            cases e7; replace hx7_1 := cb HB.1 hx7_1; replace p7 := eq_true p7; replace q7 := eq_true q7; (try go_wp2_with (first | ((with_reducible refine at_fn (f := 70) rfl ?_); refine gl (some 47) Try.func70 #[.slice A0 l0.length c0, .string (rdOf ByteArray.empty l1_3 x2_4)] ?_; (with_reducible refine (spec_l03Find.calls k2 _ _ l0 (rdOf ByteArray.empty l1_3 x2_4) t5 _ ?_ HC0.1 A22.1).mono ?_); exact vd HR0.1 HB.1; rintro e w' ⟨rfl, ⟨nd, rfl⟩⟩; refine ⟨_, rfl, ?_⟩)))
            (try (rw [drewN_self wr]; generalize hq_ : World.drewN wr _ = wr; have n0_ : Aside0 (wr.heap[gb3]? = some (.cells #[.int .i64 a1_0, .int .i64 a1_1, .slice A1_2 l1_2.length c1_2, .slice (some ad7) l1_3.length c1_3] 33 (0, 0))) := ⟨by rw [← hq_]; exact (vk BK3.1)⟩; have n1_ : Aside0 (Below w.heap.size w wr) := ⟨by rw [← hq_]; exact (vb HB.1)⟩; clear BK3 HB hq_; have BK3 := n0_; have HB := n1_; clear n0_ n1_))
            replace BK3 := ak (blk_drew BK3.1); replace HB := ak (below_drew1 HB.1); have p6 : 0 ≤ (x2_4 : Int) := od; have q6 : x2_4 < (l1_2.length : Int) := od; obtain ⟨ad6, e6, hx6_1⟩ := Kd.at_int HR1_2.1 x2_4 p6 q6; have hw6_1 := hx6_1
            cases e6; replace hx6_1 := cb HB.1 hx6_1; replace p6 := eq_true p6; replace q6 := eq_true q6; have p8 : 0 ≤ (x2_4 : Int) := od; have q8 : x2_4 < (l1_3.length : Int) := od; obtain ⟨ad8, e8, hx8_1⟩ := Kd.at_string HR1_3.1 x2_4 p8 q8; have hw8_1 := hx8_1; obtain rfl : ad7 = ad8 := (by injection e8); replace hx8_1 := cb HB.1 hx8_1; replace p8 := eq_true p8; replace q8 := eq_true q8; refine start_ (n := 32) (S := fun w' => w'.cell? ⟨gb3, 0, none⟩ = some (.int .i64 a1_0) ∧ w'.cell? ⟨gb3, 1, none⟩ = some (.int .i64 a1_1) ∧ w'.cell? ⟨gb3, 2, none⟩ = some (.slice (some ad6) l1_2.length c1_2) ∧ w'.cell? ⟨gb3, 3, none⟩ = some (.slice (some ad7) l1_3.length c1_3) ∧ w'.cell? (ad6.add (x2_4).toNat) = some (.int .i64 (rd l1_2 x2_4)) ∧ w'.cell? (ad7.add (x2_4).toNat) = some (.string (rdOf ByteArray.empty l1_3 x2_4))) (ds := []) (tf 0 32) (by kernel_rfl) rfl rfl ⟨bk BK3.1 0, bk BK3.1 1, bk BK3.1 2, bk BK3.1 3, (cb HB.1 hw6_1 :), (cb HB.1 hw8_1 :)⟩ (fun hHeld => ?_); refine with_tabW spec_IsRack.tab7 spec_IsRack.bits7 (fun HT_ HW_ => ?_); generalize wr.drew = w30 at BK3 HB hx6_1 hx8_1 hHeld ⊢; refine pu_ 0 48 (tf 1 31) rfl rfl ?_; refine pu_ 2 50 (tM [1, 1, 1, 29]) rfl rfl ?_
            refine ta6_ 1 49 (tf 3 29) rfl rfl ?_; refine pu_ 3 51 (tf 4 28) rfl rfl ?_; refine ta6_ 4 52 (tf 5 27) rfl rfl ?_; refine one_ (i := 5) (N := some 53) (tf 6 26) rfl rfl (one_of HT_.1 (by kernel_rfl)) (by decide) (fun K hK => ?_); refine goes_ Try.func95 (by kernel_rfl) rfl #[.int .i64 (rd l1_2 x2_4), .int .i64 20, .int .i64 300] (by rfl) rfl rfl (by (try simp only [List.map_toArray, List.map_cons, List.map_nil]); first | done | rfl | (simp only [List.length_drop, List.length_take]; rfl)) ?_; with_reducible refine (spec_l01In.calls (rd l1_2 x2_4) 20 300 true _ A23.1).mono ?_
            rintro e w' ⟨rfl, ⟨nd, rfl⟩⟩; refine ⟨_, rfl, ?_⟩; refine hK.out _ _ ⟨bk BK3.1 0, bk BK3.1 1, bk BK3.1 2, bk BK3.1 3, (cb HB.1 hw6_1 :), (cb HB.1 hw8_1 :)⟩ (fun hHeld => ?_); clear hK K; refine norm_ (a' := ?_) ?_ ?_
            rotate_left
            ·show Act.put _ (some 53) _ = _
             simp only [Act.put, List.setIfInBounds_toArray, List.set_cons_zero, List.set_cons_succ, i64_w, i32_w]
             rfl
            refine pu_ 6 54 (tf 7 25) rfl rfl ?_; refine pu_ 7 55 (tf 8 24) rfl rfl ?_; refine pu_ 8 56 (tf 9 23) rfl rfl ?_; refine pu_ 10 58 (tM [9, 1, 1, 21]) rfl rfl ?_; refine ta6_ 9 57 (tf 11 21) rfl rfl ?_; refine pu_ 11 59 (tf 12 20) rfl rfl ?_; refine ta6_ 12 60 (tf 13 19) rfl rfl ?_; refine pu_ 13 61 (tf 14 18) rfl rfl ?_; refine pu_ 14 62 (tf 15 17) rfl rfl ?_; refine pu_ 15 63 (tf 16 16) rfl rfl ?_; refine pu_ 16 64 (tf 17 15) rfl rfl ?_; refine pu_ 17 65 (tf 18 14) rfl rfl ?_; refine un_ 18 66 (tf 19 13) rfl rfl ?_; refine un_ 19 67 (tf 20 12) rfl rfl ?_; refine un_ 20 68 (tf 21 11) rfl rfl ?_; refine un_ 21 69 (tf 22 10) rfl rfl ?_; refine un_ 22 70 (tf 23 9) rfl rfl ?_; refine un_ 23 71 (tf 24 8) rfl rfl ?_; refine un_ 24 72 (tf 25 7) rfl rfl ?_; refine un_ 25 73 (tf 26 6) rfl rfl ?_; refine un_ 26 74 (tf 27 5) rfl rfl ?_; refine un_ 27 75 (tf 28 4) rfl rfl ?_; refine un_ 28 76 (tf 29 3) rfl rfl ?_; refine pu_ 29 77 (tf 30 2) rfl rfl ?_; refine pu_ 30 78 (tf 31 1) rfl rfl ?_; refine pu_ 31 79 (tf 32 0) rfl rfl ?_; refine done_ (done_of HT_.1 (by kernel_rfl)) ?_; (try go_wp2)
            go_ret
            exact ⟨ew, vb HB.1⟩
           ·rw [if_neg c28] at H; have c28b0 := decide_eq_false c28; clear c28; by_cases c31 : 0 ≤ t5
            ·rw [if_pos c31] at H; have c31b0 := decide_eq_true c31; clear c31; by_cases c32 : t5 < (l0.length : Int)
             ·rw [if_pos c32] at H; have c32b0 := decide_eq_true c32; clear c32; obtain ⟨t25, A33, H⟩ := bnk H; by_cases c34 : t25 = true
              ·subst c34; rw [if_pos rfl] at H; have H' := ak H; clear H; have hcz31 := cz4 BK3.1; have p7 : 0 ≤ (x2_4 : Int) := od; have q7 : x2_4 < (l1_3.length : Int) := od; obtain ⟨ad7, e7, hx7_1⟩ := Kd.at_string HR1_3.1 x2_4 p7 q7
               cases e7; replace hx7_1 := cb HB.1 hx7_1; replace p7 := eq_true p7; replace q7 := eq_true q7; (try go_wp2_with (first | ((with_reducible refine at_fn (f := 70) rfl ?_); refine gl (some 47) Try.func70 #[.slice A0 l0.length c0, .string (rdOf ByteArray.empty l1_3 x2_4)] ?_; (with_reducible refine (spec_l03Find.calls k2 _ _ l0 (rdOf ByteArray.empty l1_3 x2_4) t5 _ ?_ HC0.1 A22.1).mono ?_); exact vd HR0.1 HB.1; rintro e w' ⟨rfl, ⟨nd, rfl⟩⟩; refine ⟨_, rfl, ?_⟩)))
               (try (rw [drewN_self wr]; generalize hq_ : World.drewN wr _ = wr; have n0_ : Aside0 (wr.heap[gb3]? = some (.cells #[.int .i64 a1_0, .int .i64 a1_1, .slice A1_2 l1_2.length c1_2, .slice (some ad7) l1_3.length c1_3] 33 (0, 0))) := ⟨by rw [← hq_]; exact (vk BK3.1)⟩; have n1_ : Aside0 (Below w.heap.size w wr) := ⟨by rw [← hq_]; exact (vb HB.1)⟩; clear BK3 HB hq_; have BK3 := n0_; have HB := n1_; clear n0_ n1_))
               replace BK3 := ak (blk_drew BK3.1); replace HB := ak (below_drew1 HB.1); have p6 : 0 ≤ (x2_4 : Int) := od; have q6 : x2_4 < (l1_2.length : Int) := od; obtain ⟨ad6, e6, hx6_1⟩ := Kd.at_int HR1_2.1 x2_4 p6 q6; have hw6_1 := hx6_1
               cases e6; replace hx6_1 := cb HB.1 hx6_1; replace p6 := eq_true p6; replace q6 := eq_true q6; have p8 : 0 ≤ (x2_4 : Int) := od; have q8 : x2_4 < (l1_3.length : Int) := od; obtain ⟨ad8, e8, hx8_1⟩ := Kd.at_string HR1_3.1 x2_4 p8 q8; have hw8_1 := hx8_1; obtain rfl : ad7 = ad8 := (by injection e8); replace hx8_1 := cb HB.1 hx8_1; replace p8 := eq_true p8; replace q8 := eq_true q8; have p0 : 0 ≤ (t5 : Int) := od; have q0 : t5 < (l0.length : Int) := od; obtain ⟨ad0, e0, hx0_1, hx0_10, hx0_4, hx0_11, hx0_12, hx0_2, hx0_13, hx0_14, hx0_15⟩ := at_T67 HR0.1 t5 p0 q0; have hw0_15 := hx0_15; have hw0_14 := hx0_14; have hw0_13 := hx0_13; have hw0_2 := hx0_2; have hw0_12 := hx0_12; have hw0_11 := hx0_11; have hw0_4 := hx0_4; have hw0_10 := hx0_10; have hw0_1 := hx0_1
               cases e0; replace hx0_1 := cb HB.1 hx0_1; replace hx0_10 := cb HB.1 hx0_10; replace hx0_4 := cb HB.1 hx0_4; replace hx0_11 := cb HB.1 hx0_11; replace hx0_12 := cb HB.1 hx0_12; replace hx0_2 := cb HB.1 hx0_2; replace hx0_13 := cb HB.1 hx0_13; replace hx0_14 := cb HB.1 hx0_14; replace hx0_15 := cb HB.1 hx0_15; replace p0 := eq_true p0; replace q0 := eq_true q0; have p9 : 0 ≤ (x2_4 : Int) := od; have q9 : x2_4 < (l1_2.length : Int) := od; obtain ⟨ad9, e9, hx9_1⟩ := Kd.at_int HR1_2.1 x2_4 p9 q9; have hw9_1 := hx9_1; obtain rfl : ad6 = ad9 := (by injection e9); replace hx9_1 := cb HB.1 hx9_1; replace p9 := eq_true p9; replace q9 := eq_true q9; refine start_ (n := 32) (S := fun w' => w'.cell? ⟨gb3, 0, none⟩ = some (.int .i64 a1_0) ∧ w'.cell? ⟨gb3, 1, none⟩ = some (.int .i64 a1_1) ∧ w'.cell? ⟨gb3, 2, none⟩ = some (.slice (some ad6) l1_2.length c1_2) ∧ w'.cell? ⟨gb3, 3, none⟩ = some (.slice (some ad7) l1_3.length c1_3) ∧ w'.cell? (ad6.add (x2_4).toNat) = some (.int .i64 (rd l1_2 x2_4)) ∧ w'.cell? (ad7.add (x2_4).toNat) = some (.string (rdOf ByteArray.empty l1_3 x2_4)) ∧ w'.cell? (ad0.add ((t5).toNat * 9)) = some (.string ((rd_T67 l0 t5).f0)) ∧ w'.cell? ⟨(ad0.add ((t5).toNat * 9)).block, (ad0.add ((t5).toNat * 9)).off + 1, none⟩ = some (.int .i64 ((rd_T67 l0 t5).f1)) ∧ w'.cell? ⟨(ad0.add ((t5).toNat * 9)).block, (ad0.add ((t5).toNat * 9)).off + 2, none⟩ = some (.int .i64 ((rd_T67 l0 t5).f2)) ∧ w'.cell? ⟨(ad0.add ((t5).toNat * 9)).block, (ad0.add ((t5).toNat * 9)).off + 3, none⟩ = some (.int .i64 ((rd_T67 l0 t5).f3)) ∧ w'.cell? ⟨(ad0.add ((t5).toNat * 9)).block, (ad0.add ((t5).toNat * 9)).off + 4, none⟩ = some (.int .i64 ((rd_T67 l0 t5).f4)) ∧ w'.cell? ⟨(ad0.add ((t5).toNat * 9)).block, (ad0.add ((t5).toNat * 9)).off + 5, none⟩ = some (.int .i64 ((rd_T67 l0 t5).f5)) ∧ w'.cell? ⟨(ad0.add ((t5).toNat * 9)).block, (ad0.add ((t5).toNat * 9)).off + 6, none⟩ = some (.int .i64 ((rd_T67 l0 t5).f6)) ∧ w'.cell? ⟨(ad0.add ((t5).toNat * 9)).block, (ad0.add ((t5).toNat * 9)).off + 7, none⟩ = some (.int .i64 ((rd_T67 l0 t5).f7)) ∧ w'.cell? ⟨(ad0.add ((t5).toNat * 9)).block, (ad0.add ((t5).toNat * 9)).off + 8, none⟩ = some (.int .i64 ((rd_T67 l0 t5).f8)) ∧ w'.cell? (ad6.add (x2_4).toNat) = some (.int .i64 (rd l1_2 x2_4))) (ds := []) (tf 0 32) (by kernel_rfl) rfl rfl ⟨bk BK3.1 0, bk BK3.1 1, bk BK3.1 2, bk BK3.1 3, (cb HB.1 hw6_1 :), (cb HB.1 hw8_1 :), (cb HB.1 hw0_1 :), (cb HB.1 hw0_10 :), (cb HB.1 hw0_4 :), (cb HB.1 hw0_11 :), (cb HB.1 hw0_12 :), (cb HB.1 hw0_2 :), (cb HB.1 hw0_13 :), (cb HB.1 hw0_14 :), (cb HB.1 hw0_15 :), (cb HB.1 hw9_1 :)⟩ (fun hHeld => ?_); refine with_tabW spec_IsRack.tab7 spec_IsRack.bits7 (fun HT_ HW_ => ?_)
               generalize wr.drew = w36 at BK3 HB hx6_1 hx8_1 hx0_1 hx0_10 hx0_4 hx0_11 hx0_12 hx0_2 hx0_13 hx0_14 hx0_15 hx9_1 hHeld ⊢; refine pu_ 0 48 (tf 1 31) rfl rfl ?_; refine pu_ 2 50 (tM [1, 1, 1, 29]) rfl rfl ?_; refine ta16_ 1 49 (tf 3 29) rfl rfl ?_; refine pu_ 3 51 (tf 4 28) rfl rfl ?_; refine ta16_ 4 52 (tf 5 27) rfl rfl ?_; refine one_ (i := 5) (N := some 53) (tf 6 26) rfl rfl (one_of HT_.1 (by kernel_rfl)) (by decide) (fun K hK => ?_); refine goes_ Try.func95 (by kernel_rfl) rfl #[.int .i64 (rd l1_2 x2_4), .int .i64 20, .int .i64 300] (by rfl) rfl rfl (by (try simp only [List.map_toArray, List.map_cons, List.map_nil]); first | done | rfl | (simp only [List.length_drop, List.length_take]; rfl)) ?_; with_reducible refine (spec_l01In.calls (rd l1_2 x2_4) 20 300 true _ A23.1).mono ?_
               rintro e w' ⟨rfl, ⟨nd, rfl⟩⟩; refine ⟨_, rfl, ?_⟩; refine hK.out _ _ ⟨bk BK3.1 0, bk BK3.1 1, bk BK3.1 2, bk BK3.1 3, (cb HB.1 hw6_1 :), (cb HB.1 hw8_1 :), (cb HB.1 hw0_1 :), (cb HB.1 hw0_10 :), (cb HB.1 hw0_4 :), (cb HB.1 hw0_11 :), (cb HB.1 hw0_12 :), (cb HB.1 hw0_2 :), (cb HB.1 hw0_13 :), (cb HB.1 hw0_14 :), (cb HB.1 hw0_15 :), (cb HB.1 hw9_1 :)⟩ (fun hHeld => ?_); clear hK K; refine norm_ (a' := ?_) ?_ ?_
               rotate_left
               ·show Act.put _ (some 53) _ = _
                simp only [Act.put, List.setIfInBounds_toArray, List.set_cons_zero, List.set_cons_succ, i64_w, i32_w]
                rfl
               refine pu_ 6 54 (tf 7 25) rfl rfl ?_; refine pu_ 7 55 (tf 8 24) rfl rfl ?_; refine pu_ 8 56 (tf 9 23) rfl rfl ?_; refine pu_ 10 58 (tM [9, 1, 1, 21]) rfl rfl ?_; refine ta16_ 9 57 (tf 11 21) rfl rfl ?_; refine pu_ 11 59 (tf 12 20) rfl rfl ?_; refine ta16_ 12 60 (tf 13 19) rfl rfl ?_; refine pu_ 13 61 (tf 14 18) rfl rfl ?_; refine pu_ 14 62 (tf 15 17) rfl rfl ?_; refine pu_ 15 63 (tf 16 16) rfl rfl ?_; refine pu_ 16 64 (tf 17 15) rfl rfl ?_; refine pu_ 17 65 (tf 18 14) rfl rfl ?_; refine pu_ 18 66 (tf 19 13) rfl rfl ?_; refine pu_ 19 67 (tf 20 12) rfl rfl ?_; refine pu_ 20 68 (tf 21 11) rfl rfl ?_; refine pu_ 22 70 (tM [21, 1, 1, 9]) rfl rfl ?_; refine pu_ 24 72 (tM [21, 1, 1, 1, 1, 7]) rfl rfl ?_; refine ta16_ 21 69 (tM [23, 1, 1, 7]) rfl rfl ?_
               refine ta16_ 23 71 (tf 25 7) rfl rfl ?_; refine pu_ 25 73 (tf 26 6) rfl rfl ?_; refine ta16_ 26 74 (tf 27 5) rfl rfl ?_; refine one_ (i := 27) (N := some 75) (tf 28 4) rfl rfl (one_of HT_.1 (by kernel_rfl)) (by decide) (fun K hK => ?_); refine goes_ Try.func81 (by kernel_rfl) rfl #[.agg #[.string ((rd_T67 l0 t5).f0), .int .i64 ((rd_T67 l0 t5).f1), .int .i64 ((rd_T67 l0 t5).f2), .int .i64 ((rd_T67 l0 t5).f3), .int .i64 ((rd_T67 l0 t5).f4), .int .i64 ((rd_T67 l0 t5).f5), .int .i64 ((rd_T67 l0 t5).f6), .int .i64 ((rd_T67 l0 t5).f7), .int .i64 ((rd_T67 l0 t5).f8)], .int .i64 (rd l1_2 x2_4)] (by rfl) rfl rfl (by (try simp only [List.map_toArray, List.map_cons, List.map_nil]); first | done | rfl | (simp only [List.length_drop, List.length_take]; rfl)) ?_; with_reducible refine (spec_l17Fits.calls ((rd_T67 l0 t5).f0) ((rd_T67 l0 t5).f1) ((rd_T67 l0 t5).f2) ((rd_T67 l0 t5).f3) ((rd_T67 l0 t5).f4) ((rd_T67 l0 t5).f5) ((rd_T67 l0 t5).f6) ((rd_T67 l0 t5).f7) ((rd_T67 l0 t5).f8) (rd l1_2 x2_4) true _ A33.1).mono ?_
               rintro e w37 ⟨rfl, hb⟩; refine ⟨_, rfl, ?_⟩; replace BK3 := kb BK3 hb; replace HB := bs HB hb; (try clear hb)
               (try clear hb2)
               (try clear hk)
               (try clear hi)
               refine hK.out _ _ ⟨bk BK3.1 0, bk BK3.1 1, bk BK3.1 2, bk BK3.1 3, (cb HB.1 hw6_1 :), (cb HB.1 hw8_1 :), (cb HB.1 hw0_1 :), (cb HB.1 hw0_10 :), (cb HB.1 hw0_4 :), (cb HB.1 hw0_11 :), (cb HB.1 hw0_12 :), (cb HB.1 hw0_2 :), (cb HB.1 hw0_13 :), (cb HB.1 hw0_14 :), (cb HB.1 hw0_15 :), (cb HB.1 hw9_1 :)⟩ (fun hHeld => ?_); clear hK K; refine norm_ (a' := ?_) ?_ ?_
               rotate_left
               ·show Act.put _ (some 75) _ = _
                simp only [Act.put, List.setIfInBounds_toArray, List.set_cons_zero, List.set_cons_succ, i64_w, i32_w]
                rfl
               refine pu_ 28 76 (tf 29 3) rfl rfl ?_; refine pu_ 29 77 (tf 30 2) rfl rfl ?_; refine pu_ 30 78 (tf 31 1) rfl rfl ?_; refine pu_ 31 79 (tf 32 0) rfl rfl ?_; refine done_ (done_of HT_.1 (by kernel_rfl)) ?_; (try go_wp2)
               go_roundg k2
               case measure => have := HJ2.1; have := HK2.1; omega
               case rel => exact ⟨(wrap64 (x2_4 + 1)), es, H', ⟨by have := HJ2.1; have := HK2.1; omega⟩, ⟨vk BK3.1⟩, ⟨vb HB.1⟩⟩
              ·replace c34 := Bool.eq_false_iff.mpr c34; subst c34; rw [if_neg nf] at H; obtain rfl := sj H; have hcz32 := cz4 BK3.1; have p7 : 0 ≤ (x2_4 : Int) := od; have q7 : x2_4 < (l1_3.length : Int) := od; obtain ⟨ad7, e7, hx7_1⟩ := Kd.at_string HR1_3.1 x2_4 p7 q7
               cases e7; replace hx7_1 := cb HB.1 hx7_1; replace p7 := eq_true p7; replace q7 := eq_true q7; (try go_wp2_with (first | ((with_reducible refine at_fn (f := 70) rfl ?_); refine gl (some 47) Try.func70 #[.slice A0 l0.length c0, .string (rdOf ByteArray.empty l1_3 x2_4)] ?_; (with_reducible refine (spec_l03Find.calls k2 _ _ l0 (rdOf ByteArray.empty l1_3 x2_4) t5 _ ?_ HC0.1 A22.1).mono ?_); exact vd HR0.1 HB.1; rintro e w' ⟨rfl, ⟨nd, rfl⟩⟩; refine ⟨_, rfl, ?_⟩)))
               (try (rw [drewN_self wr]; generalize hq_ : World.drewN wr _ = wr; have n0_ : Aside0 (wr.heap[gb3]? = some (.cells #[.int .i64 a1_0, .int .i64 a1_1, .slice A1_2 l1_2.length c1_2, .slice (some ad7) l1_3.length c1_3] 33 (0, 0))) := ⟨by rw [← hq_]; exact (vk BK3.1)⟩; have n1_ : Aside0 (Below w.heap.size w wr) := ⟨by rw [← hq_]; exact (vb HB.1)⟩; clear BK3 HB hq_; have BK3 := n0_; have HB := n1_; clear n0_ n1_))
               replace BK3 := ak (blk_drew BK3.1); replace HB := ak (below_drew1 HB.1); have p6 : 0 ≤ (x2_4 : Int) := od; have q6 : x2_4 < (l1_2.length : Int) := od; obtain ⟨ad6, e6, hx6_1⟩ := Kd.at_int HR1_2.1 x2_4 p6 q6; have hw6_1 := hx6_1
               cases e6; replace hx6_1 := cb HB.1 hx6_1; replace p6 := eq_true p6; replace q6 := eq_true q6; have p8 : 0 ≤ (x2_4 : Int) := od; have q8 : x2_4 < (l1_3.length : Int) := od; obtain ⟨ad8, e8, hx8_1⟩ := Kd.at_string HR1_3.1 x2_4 p8 q8; have hw8_1 := hx8_1; obtain rfl : ad7 = ad8 := (by injection e8); replace hx8_1 := cb HB.1 hx8_1; replace p8 := eq_true p8; replace q8 := eq_true q8; have p0 : 0 ≤ (t5 : Int) := od; have q0 : t5 < (l0.length : Int) := od; obtain ⟨ad0, e0, hx0_1, hx0_10, hx0_4, hx0_11, hx0_12, hx0_2, hx0_13, hx0_14, hx0_15⟩ := at_T67 HR0.1 t5 p0 q0; have hw0_15 := hx0_15; have hw0_14 := hx0_14; have hw0_13 := hx0_13; have hw0_2 := hx0_2; have hw0_12 := hx0_12; have hw0_11 := hx0_11; have hw0_4 := hx0_4; have hw0_10 := hx0_10; have hw0_1 := hx0_1
               cases e0; replace hx0_1 := cb HB.1 hx0_1; replace hx0_10 := cb HB.1 hx0_10; replace hx0_4 := cb HB.1 hx0_4; replace hx0_11 := cb HB.1 hx0_11; replace hx0_12 := cb HB.1 hx0_12; replace hx0_2 := cb HB.1 hx0_2; replace hx0_13 := cb HB.1 hx0_13; replace hx0_14 := cb HB.1 hx0_14; replace hx0_15 := cb HB.1 hx0_15; replace p0 := eq_true p0; replace q0 := eq_true q0; have p9 : 0 ≤ (x2_4 : Int) := od; have q9 : x2_4 < (l1_2.length : Int) := od; obtain ⟨ad9, e9, hx9_1⟩ := Kd.at_int HR1_2.1 x2_4 p9 q9; have hw9_1 := hx9_1; obtain rfl : ad6 = ad9 := (by injection e9); replace hx9_1 := cb HB.1 hx9_1; replace p9 := eq_true p9; replace q9 := eq_true q9; refine start_ (n := 32) (S := fun w' => w'.cell? ⟨gb3, 0, none⟩ = some (.int .i64 a1_0) ∧ w'.cell? ⟨gb3, 1, none⟩ = some (.int .i64 a1_1) ∧ w'.cell? ⟨gb3, 2, none⟩ = some (.slice (some ad6) l1_2.length c1_2) ∧ w'.cell? ⟨gb3, 3, none⟩ = some (.slice (some ad7) l1_3.length c1_3) ∧ w'.cell? (ad6.add (x2_4).toNat) = some (.int .i64 (rd l1_2 x2_4)) ∧ w'.cell? (ad7.add (x2_4).toNat) = some (.string (rdOf ByteArray.empty l1_3 x2_4)) ∧ w'.cell? (ad0.add ((t5).toNat * 9)) = some (.string ((rd_T67 l0 t5).f0)) ∧ w'.cell? ⟨(ad0.add ((t5).toNat * 9)).block, (ad0.add ((t5).toNat * 9)).off + 1, none⟩ = some (.int .i64 ((rd_T67 l0 t5).f1)) ∧ w'.cell? ⟨(ad0.add ((t5).toNat * 9)).block, (ad0.add ((t5).toNat * 9)).off + 2, none⟩ = some (.int .i64 ((rd_T67 l0 t5).f2)) ∧ w'.cell? ⟨(ad0.add ((t5).toNat * 9)).block, (ad0.add ((t5).toNat * 9)).off + 3, none⟩ = some (.int .i64 ((rd_T67 l0 t5).f3)) ∧ w'.cell? ⟨(ad0.add ((t5).toNat * 9)).block, (ad0.add ((t5).toNat * 9)).off + 4, none⟩ = some (.int .i64 ((rd_T67 l0 t5).f4)) ∧ w'.cell? ⟨(ad0.add ((t5).toNat * 9)).block, (ad0.add ((t5).toNat * 9)).off + 5, none⟩ = some (.int .i64 ((rd_T67 l0 t5).f5)) ∧ w'.cell? ⟨(ad0.add ((t5).toNat * 9)).block, (ad0.add ((t5).toNat * 9)).off + 6, none⟩ = some (.int .i64 ((rd_T67 l0 t5).f6)) ∧ w'.cell? ⟨(ad0.add ((t5).toNat * 9)).block, (ad0.add ((t5).toNat * 9)).off + 7, none⟩ = some (.int .i64 ((rd_T67 l0 t5).f7)) ∧ w'.cell? ⟨(ad0.add ((t5).toNat * 9)).block, (ad0.add ((t5).toNat * 9)).off + 8, none⟩ = some (.int .i64 ((rd_T67 l0 t5).f8)) ∧ w'.cell? (ad6.add (x2_4).toNat) = some (.int .i64 (rd l1_2 x2_4))) (ds := []) (tf 0 32) (by kernel_rfl) rfl rfl ⟨bk BK3.1 0, bk BK3.1 1, bk BK3.1 2, bk BK3.1 3, (cb HB.1 hw6_1 :), (cb HB.1 hw8_1 :), (cb HB.1 hw0_1 :), (cb HB.1 hw0_10 :), (cb HB.1 hw0_4 :), (cb HB.1 hw0_11 :), (cb HB.1 hw0_12 :), (cb HB.1 hw0_2 :), (cb HB.1 hw0_13 :), (cb HB.1 hw0_14 :), (cb HB.1 hw0_15 :), (cb HB.1 hw9_1 :)⟩ (fun hHeld => ?_); refine with_tabW spec_IsRack.tab7 spec_IsRack.bits7 (fun HT_ HW_ => ?_)
               generalize wr.drew = w39 at BK3 HB hx6_1 hx8_1 hx0_1 hx0_10 hx0_4 hx0_11 hx0_12 hx0_2 hx0_13 hx0_14 hx0_15 hx9_1 hHeld ⊢; refine pu_ 0 48 (tf 1 31) rfl rfl ?_; refine pu_ 2 50 (tM [1, 1, 1, 29]) rfl rfl ?_; refine ta16_ 1 49 (tf 3 29) rfl rfl ?_; refine pu_ 3 51 (tf 4 28) rfl rfl ?_; refine ta16_ 4 52 (tf 5 27) rfl rfl ?_; refine one_ (i := 5) (N := some 53) (tf 6 26) rfl rfl (one_of HT_.1 (by kernel_rfl)) (by decide) (fun K hK => ?_); refine goes_ Try.func95 (by kernel_rfl) rfl #[.int .i64 (rd l1_2 x2_4), .int .i64 20, .int .i64 300] (by rfl) rfl rfl (by (try simp only [List.map_toArray, List.map_cons, List.map_nil]); first | done | rfl | (simp only [List.length_drop, List.length_take]; rfl)) ?_; with_reducible refine (spec_l01In.calls (rd l1_2 x2_4) 20 300 true _ A23.1).mono ?_
               rintro e w' ⟨rfl, ⟨nd, rfl⟩⟩; refine ⟨_, rfl, ?_⟩; refine hK.out _ _ ⟨bk BK3.1 0, bk BK3.1 1, bk BK3.1 2, bk BK3.1 3, (cb HB.1 hw6_1 :), (cb HB.1 hw8_1 :), (cb HB.1 hw0_1 :), (cb HB.1 hw0_10 :), (cb HB.1 hw0_4 :), (cb HB.1 hw0_11 :), (cb HB.1 hw0_12 :), (cb HB.1 hw0_2 :), (cb HB.1 hw0_13 :), (cb HB.1 hw0_14 :), (cb HB.1 hw0_15 :), (cb HB.1 hw9_1 :)⟩ (fun hHeld => ?_); clear hK K; refine norm_ (a' := ?_) ?_ ?_
               rotate_left
               ·show Act.put _ (some 53) _ = _
                simp only [Act.put, List.setIfInBounds_toArray, List.set_cons_zero, List.set_cons_succ, i64_w, i32_w]
                rfl
               refine pu_ 6 54 (tf 7 25) rfl rfl ?_; refine pu_ 7 55 (tf 8 24) rfl rfl ?_; refine pu_ 8 56 (tf 9 23) rfl rfl ?_; refine pu_ 10 58 (tM [9, 1, 1, 21]) rfl rfl ?_; refine ta16_ 9 57 (tf 11 21) rfl rfl ?_; refine pu_ 11 59 (tf 12 20) rfl rfl ?_; refine ta16_ 12 60 (tf 13 19) rfl rfl ?_; refine pu_ 13 61 (tf 14 18) rfl rfl ?_; refine pu_ 14 62 (tf 15 17) rfl rfl ?_; refine pu_ 15 63 (tf 16 16) rfl rfl ?_; refine pu_ 16 64 (tf 17 15) rfl rfl ?_; refine pu_ 17 65 (tf 18 14) rfl rfl ?_; refine pu_ 18 66 (tf 19 13) rfl rfl ?_; refine pu_ 19 67 (tf 20 12) rfl rfl ?_; refine pu_ 20 68 (tf 21 11) rfl rfl ?_; refine pu_ 22 70 (tM [21, 1, 1, 9]) rfl rfl ?_; refine pu_ 24 72 (tM [21, 1, 1, 1, 1, 7]) rfl rfl ?_; refine ta16_ 21 69 (tM [23, 1, 1, 7]) rfl rfl ?_
               refine ta16_ 23 71 (tf 25 7) rfl rfl ?_; refine pu_ 25 73 (tf 26 6) rfl rfl ?_; refine ta16_ 26 74 (tf 27 5) rfl rfl ?_; refine one_ (i := 27) (N := some 75) (tf 28 4) rfl rfl (one_of HT_.1 (by kernel_rfl)) (by decide) (fun K hK => ?_); refine goes_ Try.func81 (by kernel_rfl) rfl #[.agg #[.string ((rd_T67 l0 t5).f0), .int .i64 ((rd_T67 l0 t5).f1), .int .i64 ((rd_T67 l0 t5).f2), .int .i64 ((rd_T67 l0 t5).f3), .int .i64 ((rd_T67 l0 t5).f4), .int .i64 ((rd_T67 l0 t5).f5), .int .i64 ((rd_T67 l0 t5).f6), .int .i64 ((rd_T67 l0 t5).f7), .int .i64 ((rd_T67 l0 t5).f8)], .int .i64 (rd l1_2 x2_4)] (by rfl) rfl rfl (by (try simp only [List.map_toArray, List.map_cons, List.map_nil]); first | done | rfl | (simp only [List.length_drop, List.length_take]; rfl)) ?_; with_reducible refine (spec_l17Fits.calls ((rd_T67 l0 t5).f0) ((rd_T67 l0 t5).f1) ((rd_T67 l0 t5).f2) ((rd_T67 l0 t5).f3) ((rd_T67 l0 t5).f4) ((rd_T67 l0 t5).f5) ((rd_T67 l0 t5).f6) ((rd_T67 l0 t5).f7) ((rd_T67 l0 t5).f8) (rd l1_2 x2_4) false _ A33.1).mono ?_
               rintro e w40 ⟨rfl, hb⟩; refine ⟨_, rfl, ?_⟩; replace BK3 := kb BK3 hb; replace HB := bs HB hb; (try clear hb)
               (try clear hb2)
               (try clear hk)
               (try clear hi)
               refine hK.out _ _ ⟨bk BK3.1 0, bk BK3.1 1, bk BK3.1 2, bk BK3.1 3, (cb HB.1 hw6_1 :), (cb HB.1 hw8_1 :), (cb HB.1 hw0_1 :), (cb HB.1 hw0_10 :), (cb HB.1 hw0_4 :), (cb HB.1 hw0_11 :), (cb HB.1 hw0_12 :), (cb HB.1 hw0_2 :), (cb HB.1 hw0_13 :), (cb HB.1 hw0_14 :), (cb HB.1 hw0_15 :), (cb HB.1 hw9_1 :)⟩ (fun hHeld => ?_); clear hK K; refine norm_ (a' := ?_) ?_ ?_
               rotate_left
               ·show Act.put _ (some 75) _ = _
                simp only [Act.put, List.setIfInBounds_toArray, List.set_cons_zero, List.set_cons_succ, i64_w, i32_w]
                rfl
               refine pu_ 28 76 (tf 29 3) rfl rfl ?_; refine pu_ 29 77 (tf 30 2) rfl rfl ?_; refine pu_ 30 78 (tf 31 1) rfl rfl ?_; refine pu_ 31 79 (tf 32 0) rfl rfl ?_; refine done_ (done_of HT_.1 (by kernel_rfl)) ?_; (try go_wp2)
               go_ret
               exact ⟨ew, vb HB.1⟩
             ·exact nO_ c32 H
            ·exact nO_ c31 H
         ·replace c24 := Bool.eq_false_iff.mpr c24; subst c24; rw [if_neg nf] at H; obtain rfl := sj H; have hcz33 := cz4 BK3.1; have p7 : 0 ≤ (x2_4 : Int) := od; have q7 : x2_4 < (l1_3.length : Int) := od; obtain ⟨ad7, e7, hx7_1⟩ := Kd.at_string HR1_3.1 x2_4 p7 q7
          cases e7; replace hx7_1 := cb HB.1 hx7_1; replace p7 := eq_true p7; replace q7 := eq_true q7; (try go_wp2_with (first | ((with_reducible refine at_fn (f := 70) rfl ?_); refine gl (some 47) Try.func70 #[.slice A0 l0.length c0, .string (rdOf ByteArray.empty l1_3 x2_4)] ?_; (with_reducible refine (spec_l03Find.calls k2 _ _ l0 (rdOf ByteArray.empty l1_3 x2_4) t5 _ ?_ HC0.1 A22.1).mono ?_); exact vd HR0.1 HB.1; rintro e w' ⟨rfl, ⟨nd, rfl⟩⟩; refine ⟨_, rfl, ?_⟩)))
          (try (rw [drewN_self wr]; generalize hq_ : World.drewN wr _ = wr; have n0_ : Aside0 (wr.heap[gb3]? = some (.cells #[.int .i64 a1_0, .int .i64 a1_1, .slice A1_2 l1_2.length c1_2, .slice (some ad7) l1_3.length c1_3] 33 (0, 0))) := ⟨by rw [← hq_]; exact (vk BK3.1)⟩; have n1_ : Aside0 (Below w.heap.size w wr) := ⟨by rw [← hq_]; exact (vb HB.1)⟩; clear BK3 HB hq_; have BK3 := n0_; have HB := n1_; clear n0_ n1_))
          replace BK3 := ak (blk_drew BK3.1); replace HB := ak (below_drew1 HB.1); have p6 : 0 ≤ (x2_4 : Int) := od; have q6 : x2_4 < (l1_2.length : Int) := od; obtain ⟨ad6, e6, hx6_1⟩ := Kd.at_int HR1_2.1 x2_4 p6 q6; have hw6_1 := hx6_1
          cases e6; replace hx6_1 := cb HB.1 hx6_1; replace p6 := eq_true p6; replace q6 := eq_true q6; refine start_ (n := 32) (S := fun w' => w'.cell? ⟨gb3, 0, none⟩ = some (.int .i64 a1_0) ∧ w'.cell? ⟨gb3, 1, none⟩ = some (.int .i64 a1_1) ∧ w'.cell? ⟨gb3, 2, none⟩ = some (.slice (some ad6) l1_2.length c1_2) ∧ w'.cell? ⟨gb3, 3, none⟩ = some (.slice (some ad7) l1_3.length c1_3) ∧ w'.cell? (ad6.add (x2_4).toNat) = some (.int .i64 (rd l1_2 x2_4))) (ds := []) (tf 0 32) (by kernel_rfl) rfl rfl ⟨bk BK3.1 0, bk BK3.1 1, bk BK3.1 2, bk BK3.1 3, (cb HB.1 hw6_1 :)⟩ (fun hHeld => ?_); refine with_tabW spec_IsRack.tab7 spec_IsRack.bits7 (fun HT_ HW_ => ?_); generalize wr.drew = w42 at BK3 HB hx6_1 hHeld ⊢; refine pu_ 0 48 (tf 1 31) rfl rfl ?_; refine pu_ 2 50 (tM [1, 1, 1, 29]) rfl rfl ?_; refine ta5_ 1 49 (tf 3 29) rfl rfl ?_; refine pu_ 3 51 (tf 4 28) rfl rfl ?_; refine ta5_ 4 52 (tf 5 27) rfl rfl ?_; refine one_ (i := 5) (N := some 53) (tf 6 26) rfl rfl (one_of HT_.1 (by kernel_rfl)) (by decide) (fun K hK => ?_); refine goes_ Try.func95 (by kernel_rfl) rfl #[.int .i64 (rd l1_2 x2_4), .int .i64 20, .int .i64 300] (by rfl) rfl rfl (by (try simp only [List.map_toArray, List.map_cons, List.map_nil]); first | done | rfl | (simp only [List.length_drop, List.length_take]; rfl)) ?_
          with_reducible refine (spec_l01In.calls (rd l1_2 x2_4) 20 300 false _ A23.1).mono ?_
          rintro e w' ⟨rfl, ⟨nd, rfl⟩⟩; refine ⟨_, rfl, ?_⟩; refine hK.out _ _ ⟨bk BK3.1 0, bk BK3.1 1, bk BK3.1 2, bk BK3.1 3, (cb HB.1 hw6_1 :)⟩ (fun hHeld => ?_); clear hK K; refine norm_ (a' := ?_) ?_ ?_
          rotate_left
          ·show Act.put _ (some 53) _ = _
           simp only [Act.put, List.setIfInBounds_toArray, List.set_cons_zero, List.set_cons_succ, i64_w, i32_w]
           rfl
          refine pu_ 6 54 (tf 7 25) rfl rfl ?_; refine pu_ 7 55 (tf 8 24) rfl rfl ?_; refine un_ 8 56 (tf 9 23) rfl rfl ?_; refine un_ 9 57 (tf 10 22) rfl rfl ?_; refine un_ 10 58 (tf 11 21) rfl rfl ?_; refine un_ 11 59 (tf 12 20) rfl rfl ?_; refine un_ 12 60 (tf 13 19) rfl rfl ?_; refine un_ 13 61 (tf 14 18) rfl rfl ?_; refine un_ 14 62 (tf 15 17) rfl rfl ?_; refine un_ 15 63 (tf 16 16) rfl rfl ?_; refine un_ 16 64 (tf 17 15) rfl rfl ?_; refine un_ 17 65 (tf 18 14) rfl rfl ?_; refine un_ 18 66 (tf 19 13) rfl rfl ?_; refine un_ 19 67 (tf 20 12) rfl rfl ?_; refine un_ 20 68 (tf 21 11) rfl rfl ?_; refine un_ 21 69 (tf 22 10) rfl rfl ?_; refine un_ 22 70 (tf 23 9) rfl rfl ?_; refine un_ 23 71 (tf 24 8) rfl rfl ?_; refine un_ 24 72 (tf 25 7) rfl rfl ?_; refine un_ 25 73 (tf 26 6) rfl rfl ?_; refine un_ 26 74 (tf 27 5) rfl rfl ?_; refine un_ 27 75 (tf 28 4) rfl rfl ?_; refine un_ 28 76 (tf 29 3) rfl rfl ?_; refine un_ 29 77 (tf 30 2) rfl rfl ?_; refine un_ 30 78 (tf 31 1) rfl rfl ?_; refine pu_ 31 79 (tf 32 0) rfl rfl ?_; refine done_ (done_of HT_.1 (by kernel_rfl)) ?_; (try go_wp2)
          go_ret
          exact ⟨ew, vb HB.1⟩
        ·exact nO_ c21 H
       ·exact nO_ c20 H
      ·rw [if_neg c19] at H; have c19b0 := decide_eq_false c19; clear c19; obtain rfl := sj H; have hcz34 := cz4 BK3.1; go_wp2
       go_ret
       exact ⟨ew, vb HB.1⟩


/-! ### spec_l17Code: function 59 -/
def spec_l17Code.f (k : Nat) (l0 : List (S67)) (a1_0 : Int) (a1_1 : Int) (l1_2 : List Int) (l1_3 : List ByteArray) (a2 : Int) : Option (Int) := (spec_IsRack.f k l0 a1_0 a1_1 l1_2 l1_3).bind fun t1 => (if t1 = true then ((spec_l01In.f a2 0 (wrap64 ((l1_2.length : Int) - 1))).bind fun t2 => (if t2 = true then (some 0) else (some 2))) else (some 1))
set_option maxHeartbeats 8000000 in
set_option maxRecDepth 100000 in
theorem spec_l17Code.calls (k : Nat) (A0 : Option Addr) (c0 : Nat) (l0 : List (S67)) (a1_0 : Int) (a1_1 : Int) (A1_2 : Option Addr) (c1_2 : Nat) (l1_2 : List Int) (A1_3 : Option Addr) (c1_3 : Nat) (l1_3 : List ByteArray) (a2 : Int) (r : Int) (w : World) (hr0 : Kd.C k67 w A0 l0.length l0) (hc0 : l0.length ≤ c0) (hr1_2 : Kd.C (Kd.int .i64) w A1_2 l1_2.length l1_2) (hc1_2 : l1_2.length ≤ c1_2) (hr1_3 : Kd.C Kd.string w A1_3 l1_3.length l1_3) (hc1_3 : l1_3.length ≤ c1_3) (h : spec_l17Code.f k l0 a1_0 a1_1 l1_2 l1_3 a2 = some r) :
  Calls Try.prog 59 #[.slice A0 l0.length c0, .agg #[.int .i64 a1_0, .int .i64 a1_1, .slice A1_2 l1_2.length c1_2, .slice A1_3 l1_3.length c1_3], .int .i64 a2] w fun e w' => e = .returned (.int .i64 r) ∧ Below w.heap.size w w' := by
 have hu33 := Try.underlying33; have HR0 := ak hr0; have HC0 := ak hc0; clear hr0 hc0; have HR1_2 := ak hr1_2; have HC1_2 := ak hc1_2; clear hr1_2 hc1_2; have HR1_3 := ak hr1_3; have HC1_3 := ak hc1_3; clear hr1_3 hc1_3; have HB := ak (Below.refl w.heap.size w); unfold spec_l17Code.f at h; have H := h; clear h; obtain ⟨t1, A4, H⟩ := bnk H; by_cases c5 : t1 = true
 subst c5; rw [if_pos rfl] at H; obtain ⟨t2, A6, H⟩ := bnk H; by_cases c7 : t2 = true
 subst c7; rw [if_pos rfl] at H; obtain rfl := sj H; rotate_left
 replace c7 := Bool.eq_false_iff.mpr c7; subst c7; rw [if_neg nf] at H; obtain rfl := sj H; rotate_left
 replace c5 := Bool.eq_false_iff.mpr c5; subst c5; rw [if_neg nf] at H; obtain rfl := sj H; rotate_left
 all_goals
  go_enter Try.func59, Try.ntmps59; go_wp2_with (first | ((with_reducible refine gate_dst (N := 4) rfl ?_); refine bx 4 #[.int .i64 a1_0, .int .i64 a1_1, .slice A1_2 l1_2.length c1_2, .slice A1_3 l1_3.length c1_3] 33 ?_; intro gb0 hg w9 hbox hb; have BK0 := ak hbox; have GW139 := gw hg HB; have GE0 := gw hg HB; replace HB := bs HB hb; clear hb hbox hg; have hcz3 := cz4 BK0.1) | ((with_reducible refine at_fn (f := 106) rfl ?_); refine gl (some 9) Try.func106 #[.slice A0 l0.length c0, .agg #[.int .i64 a1_0, .int .i64 a1_1, .slice A1_2 l1_2.length c1_2, .slice A1_3 l1_3.length c1_3]] ?_; (with_reducible refine (spec_IsRack.calls k _ _ l0 a1_0 a1_1 _ _ l1_2 _ _ l1_3 _ _ ?_ HC0.1 ?_ HC1_2.1 ?_ HC1_3.1 A4.1).mono ?_); exact vd HR0.1 HB.1; exact vd HR1_2.1 HB.1; exact vd HR1_3.1 HB.1; rintro e w9 ⟨rfl, hb⟩; refine ⟨_, rfl, ?_⟩; replace BK0 := kb BK0 hb; replace HB := bs HB hb; (try clear hb); have hcz3 := cz4 BK0.1) | ((with_reducible refine at_fn (f := 95) rfl ?_); refine gl (some 16) Try.func95 #[.int .i64 a2, .int .i64 0, .int .i64 (wrap64 ((l1_2.length : Int) - 1))] ?_; (with_reducible refine (spec_l01In.calls a2 0 (wrap64 ((l1_2.length : Int) - 1)) _ _ A6.1).mono ?_); rintro e w' ⟨rfl, ⟨nd, rfl⟩⟩; refine ⟨_, rfl, ?_⟩))
  go_ret
  exact ⟨ew, vb HB.1⟩


/-! ### impl_articleOf: function 72 -/
def impl_articleOf.l0 : Nat → ByteArray → List (S67) → Int → Int → Option (Int)
 | 0, _, _, _, _ => none
 | k + 1, x2, x4, x5, x1 => if x1 < x5 then (if 0 ≤ x1 then (if x1 < (x4.length : Int) then (if ((rd_T67 x4 x1).f0).toList = x2.toList then (some x1) else (impl_articleOf.l0 k x2 x4 x5 (wrap64 (x1 + 1)))) else (none)) else (none)) else (some (-1))
def impl_articleOf.f (k : Nat) (l0 : List (S67)) (a1 : ByteArray) : Option (Int) := impl_articleOf.l0 k a1 l0 (l0.length : Int) 0
set_option maxHeartbeats 8000000 in
set_option maxRecDepth 100000 in
theorem impl_articleOf.calls (k : Nat) (A0 : Option Addr) (c0 : Nat) (l0 : List (S67)) (a1 : ByteArray) (r : Int) (w : World) (hr0 : Kd.C k67 w A0 l0.length l0) (hc0 : l0.length ≤ c0) (h : impl_articleOf.f k l0 a1 = some r) :
  Calls Try.prog 72 #[.slice A0 l0.length c0, .string a1] w fun e w' => e = .returned (.int .i64 r) ∧ Below w.heap.size w w' := by
 have hu67 := Try.underlying67; have HR0 := ak hr0; have HC0 := ak hc0; clear hr0 hc0; have HB := ak (Below.refl w.heap.size w); unfold impl_articleOf.f at h; have H := h; clear h; have H' := ak H; clear H; go_enter Try.func72, Try.ntmps72; go_wp2
 go_loopg [9] k (fun kq v1 w' => ∃ (x1_2 : Int), v1 = .int .i64 x1_2 ∧ Aside0 (impl_articleOf.l0 kq a1 l0 (l0.length : Int) x1_2 = some r) ∧ Aside0 (kq ≤ k) ∧ Aside0 (Below w.heap.size w w'))
 case atStart => exact ⟨(0), es, H', ⟨Nat.le_refl _⟩, ⟨vb HB.1⟩⟩
 case round =>
  clear H'; obtain ⟨x1_2, rfl, HA, HK1, HB⟩ := hrel
  cases gk with
  | zero => exact absurd HA.1 (by simp [impl_articleOf.l0])
  | succ k1 =>
   have H := HA.1; clear HA; simp only [impl_articleOf.l0] at H
   by_cases c3 : x1_2 < (l0.length : Int)
   ·rw [if_pos c3] at H; have c3b0 := decide_eq_true c3; clear c3; by_cases c4 : 0 ≤ x1_2
    ·rw [if_pos c4] at H; have c4b0 := decide_eq_true c4; clear c4; by_cases c5 : x1_2 < (l0.length : Int)
     ·rw [if_pos c5] at H; have c5b0 := decide_eq_true c5; clear c5; by_cases c6 : ((rd_T67 l0 x1_2).f0).toList = a1.toList
      ·rw [if_pos c6] at H; have c6b0 : (((rd_T67 l0 x1_2).f0).toList == a1.toList) = true := beq_iff_eq.mpr c6; have c6b1 : (((rd_T67 l0 x1_2).f0).toList != a1.toList) = false := bne_eq_false_iff_eq.mpr c6; clear c6; obtain rfl := sj H; have p0 : 0 ≤ (x1_2 : Int) := od; have q0 : x1_2 < (l0.length : Int) := od; obtain ⟨ad0, e0, hx0_6, hx0_2, hx0_7, hx0_8, hx0_9, hx0_10, hx0_11, hx0_4, hx0_5⟩ := at_T67b HR0.1 HB.1 x1_2 p0 q0
       cases e0; replace p0 := eq_true p0; replace q0 := eq_true q0; go_wp2_with (first | ((with_reducible refine gate_dst (N := 6) rfl ?_); refine bx 6 #[.string (⟨#[]⟩ : ByteArray), .int .i64 0, .int .i64 0, .int .i64 0, .int .i64 0, .int .i64 0, .int .i64 0, .int .i64 0, .int .i64 0] 67 ?_; intro gb3 hg w7 hbox hb; have BK3 := ak hbox; have GW213 := gw hg HB; have GE3 := gw hg HB; replace HB := bs HB hb; clear hb hbox hg; have hcz5 := cz9 BK3.1))
       go_ret
       exact ⟨ew, vb HB.1⟩
      ·rw [if_neg c6] at H; have c6b0 : (((rd_T67 l0 x1_2).f0).toList == a1.toList) = false := beq_eq_false_iff_ne.mpr c6; have c6b1 : (((rd_T67 l0 x1_2).f0).toList != a1.toList) = true := bne_iff_ne.mpr c6; have H' := ak H; clear H; have p0 : 0 ≤ (x1_2 : Int) := od; have q0 : x1_2 < (l0.length : Int) := od; obtain ⟨ad0, e0, hx0_6, hx0_2, hx0_7, hx0_8, hx0_9, hx0_10, hx0_11, hx0_4, hx0_5⟩ := at_T67b HR0.1 HB.1 x1_2 p0 q0
       cases e0; replace p0 := eq_true p0; replace q0 := eq_true q0; go_wp2_with (first | ((with_reducible refine gate_dst (N := 6) rfl ?_); refine bx 6 #[.string (⟨#[]⟩ : ByteArray), .int .i64 0, .int .i64 0, .int .i64 0, .int .i64 0, .int .i64 0, .int .i64 0, .int .i64 0, .int .i64 0] 67 ?_; intro gb3 hg w9 hbox hb; have BK3 := ak hbox; have GW213 := gw hg HB; have GE3 := gw hg HB; replace HB := bs HB hb; clear hb hbox hg; have hcz12 := cz9 BK3.1))
       go_roundg k1
       case measure => have := HK1.1; omega
       case rel => exact ⟨(wrap64 (x1_2 + 1)), es, H', ⟨by have := HK1.1; omega⟩, ⟨vb HB.1⟩⟩
     ·exact nO_ c5 H
    ·exact nO_ c4 H
   ·rw [if_neg c3] at H; have c3b0 := decide_eq_false c3; clear c3; obtain rfl := sj H; go_wp2
    go_ret
    exact ⟨ew, vb HB.1⟩


/-! ### impl_fits: function 82 -/
def impl_fits.f (a0_0 : ByteArray) (a0_1 : Int) (a0_2 : Int) (a0_3 : Int) (a0_4 : Int) (a0_5 : Int) (a0_6 : Int) (a0_7 : Int) (a0_8 : Int) (a1 : Int) : Option (Bool) := if a0_2 ≤ a1 then (some (decide ((wrap64 (10 * a0_2)) > (wrap64 (9 * a1))))) else (some false)
set_option maxHeartbeats 8000000 in
set_option maxRecDepth 100000 in
theorem impl_fits.calls (a0_0 : ByteArray) (a0_1 : Int) (a0_2 : Int) (a0_3 : Int) (a0_4 : Int) (a0_5 : Int) (a0_6 : Int) (a0_7 : Int) (a0_8 : Int) (a1 : Int) (r : Bool) (w : World) (h : impl_fits.f a0_0 a0_1 a0_2 a0_3 a0_4 a0_5 a0_6 a0_7 a0_8 a1 = some r) :
  Calls Try.prog 82 #[.agg #[.string a0_0, .int .i64 a0_1, .int .i64 a0_2, .int .i64 a0_3, .int .i64 a0_4, .int .i64 a0_5, .int .i64 a0_6, .int .i64 a0_7, .int .i64 a0_8], .int .i64 a1] w fun e w' => e = .returned (.bool r) ∧ Below w.heap.size w w' := by
 have hu67 := Try.underlying67; have HB := ak (Below.refl w.heap.size w); unfold impl_fits.f at h; have H := h; clear h; by_cases c3 : a0_2 ≤ a1
 rw [if_pos c3] at H; have c3b0 := decide_eq_true c3; clear c3; obtain rfl := sj H; rotate_left
 rw [if_neg c3] at H; have c3b0 := decide_eq_false c3; clear c3; obtain rfl := sj H; rotate_left
 all_goals
  go_enter Try.func82, Try.ntmps82; go_wp2_with (first | ((with_reducible refine gate_dst (N := 2) rfl ?_); refine bx 2 #[.string a0_0, .int .i64 a0_1, .int .i64 a0_2, .int .i64 a0_3, .int .i64 a0_4, .int .i64 a0_5, .int .i64 a0_6, .int .i64 a0_7, .int .i64 a0_8] 67 ?_; intro gb0 hg w9 hbox hb; have BK0 := ak hbox; have GW214 := gw hg HB; have GE0 := gw hg HB; replace HB := bs HB hb; clear hb hbox hg; have hcz1 := cz9 BK0.1))
  go_ret
  exact ⟨ew, vb HB.1⟩


/-! ### impl_IsWord: function 126 -/
mutual
def impl_IsWord.j0 : Nat → ByteArray → Bool → Option (Bool)
 | 0, _, _ => none
 | k + 1, x5, x4 => if x4 = true then (some false) else (impl_IsWord.l0 k x5 0)
def impl_IsWord.l0 : Nat → ByteArray → Int → Option (Bool)
 | 0, _, _ => none
 | k + 1, x5, x0 => if x0 < (x5.size : Int) then (if 0 ≤ x0 then (if (bt x5 x0) < 97 then (some false) else (if (bt x5 x0) > 122 then (some false) else (impl_IsWord.l0 k x5 (wrap64 (x0 + 1))))) else (none)) else (some true)
end
def impl_IsWord.f (k : Nat) (a0 : ByteArray) : Option (Bool) := if (a0.size : Int) < 1 then (impl_IsWord.j0 k a0 true) else (impl_IsWord.j0 k a0 (decide ((a0.size : Int) > 16)))
set_option maxHeartbeats 8000000 in
set_option maxRecDepth 100000 in
theorem impl_IsWord.calls (k : Nat) (a0 : ByteArray) (r : Bool) (w : World) (h : impl_IsWord.f k a0 = some r) :
  Calls Try.prog 126 #[.string a0] w fun e w' => e = .returned (.bool r) ∧ Drawn0 w w' := by
 unfold impl_IsWord.f at h; have H := h; clear h; have HC2 := ak H; clear H; go_enter Try.func126, Try.ntmps126; go_upto_region 1 with (fail)
 go_cut [11] (fun v4 wc => ∃ (kq : Nat) (x4_6 : Bool), v4 = .bool x4_6 ∧ Aside0 (impl_IsWord.j0 kq a0 x4_6 = some r) ∧ Aside0 (kq ≤ k) ∧ Drawn0 w wc)
 case first =>
  have H := HC2.1; clear HC2; by_cases c3 : (a0.size : Int) < 1
  ·rw [if_pos c3] at H; have c3b0 := decide_eq_true c3; have c3b1 : decide (a0.size < 1) = true := decide_eq_true (by omega); clear c3; (first | rw [c3b0] | (simp only [i64_w, i32_w]; rw [c3b0]) | skip)
   have H' := ak H; clear H; go_wp2
   go_meet
   case rel => exact ⟨_, (true), es, H', ⟨by first | omega | exact Nat.le_refl _⟩, by repeat (first | exact Drawn0.refl _ | apply Drawn0.step)⟩
  ·rw [if_neg c3] at H; have c3b0 := decide_eq_false c3; have c3b1 : decide (a0.size < 1) = false := decide_eq_false (by omega); clear c3; (first | rw [c3b0] | (simp only [i64_w, i32_w]; rw [c3b0]) | skip)
   have H' := ak H; clear H; go_wp2
   go_meet
   case rel => exact ⟨_, (decide ((a0.size : Int) > 16)), es, H', ⟨by first | omega | exact Nat.le_refl _⟩, by repeat (first | exact Drawn0.refl _ | apply Drawn0.step)⟩
 case rest =>
  clear HC2; obtain ⟨kq, x4_6, rfl, HA, HJ1, ⟨mc1, rfl⟩⟩ := hcut
  cases kq with
  | zero => exact absurd HA.1 (by simp [impl_IsWord.j0])
  | succ kj1 =>
   have H := HA.1; clear HA; simp only [impl_IsWord.j0] at H
   by_cases c4 : x4_6 = true
   ·subst c4; rw [if_pos rfl] at H; obtain rfl := sj H; go_wp2
    go_ret
    exact ⟨by first | rfl | (simp; done) | (simp [*]; done), by repeat (first | exact Drawn0.refl _ | apply Drawn0.step)⟩
   ·replace c4 := Bool.eq_false_iff.mpr c4; subst c4; rw [if_neg nf] at H; have H' := ak H; clear H; go_wp2
    go_loopg [3] kj1 (fun kq v0 w' => ∃ (x0_1 : Int), v0 = .int .i64 x0_1 ∧ Aside0 (impl_IsWord.l0 kq a0 x0_1 = some r) ∧ Aside0 (kq ≤ kj1) ∧ Drawn0 w w')
    case atStart => exact ⟨(0), es, H', ⟨Nat.le_refl _⟩, by repeat (first | exact Drawn0.refl _ | apply Drawn0.step)⟩
    case round =>
     clear H'; obtain ⟨x0_1, rfl, HA, HK2, ⟨m1, rfl⟩⟩ := hrel
     cases gk with
     | zero => exact absurd HA.1 (by simp [impl_IsWord.l0])
     | succ k2 =>
      have H := HA.1; clear HA; simp only [impl_IsWord.l0] at H
      by_cases c5 : x0_1 < (a0.size : Int)
      ·rw [if_pos c5] at H; have c5b0 := decide_eq_true c5; clear c5; by_cases c6 : 0 ≤ x0_1
       ·rw [if_pos c6] at H; have c6b0 := decide_eq_true c6; clear c6; by_cases c8 : (bt a0 x0_1) < 97
        ·rw [if_pos c8] at H; have c8b0 := decide_eq_true c8; clear c8; obtain rfl := sj H; have p2 : 0 ≤ (x0_1 : Int) := od; have q2 : x0_1 < (a0.size : Int) := od; have hx2 := bt_at a0 x0_1; replace p2 := eq_true p2; replace q2 := eq_true q2; go_wp2
         go_ret
         exact ⟨by first | rfl | (simp; done) | (simp [*]; done), by repeat (first | exact Drawn0.refl _ | apply Drawn0.step)⟩
        ·rw [if_neg c8] at H; have c8b0 := decide_eq_false c8; clear c8; by_cases c10 : (bt a0 x0_1) > 122
         ·rw [if_pos c10] at H; have c10b0 := decide_eq_true c10; clear c10; obtain rfl := sj H; have p2 : 0 ≤ (x0_1 : Int) := od; have q2 : x0_1 < (a0.size : Int) := od; have hx2 := bt_at a0 x0_1; replace p2 := eq_true p2; replace q2 := eq_true q2; have p3 : 0 ≤ (x0_1 : Int) := od; have q3 : x0_1 < (a0.size : Int) := od; have hx3 := bt_at a0 x0_1; replace p3 := eq_true p3; replace q3 := eq_true q3; go_wp2
          go_ret
          exact ⟨by first | rfl | (simp; done) | (simp [*]; done), by repeat (first | exact Drawn0.refl _ | apply Drawn0.step)⟩
         ·rw [if_neg c10] at H; have c10b0 := decide_eq_false c10; clear c10; have H' := ak H; clear H; have p2 : 0 ≤ (x0_1 : Int) := od; have q2 : x0_1 < (a0.size : Int) := od; have hx2 := bt_at a0 x0_1; replace p2 := eq_true p2; replace q2 := eq_true q2; have p3 : 0 ≤ (x0_1 : Int) := od; have q3 : x0_1 < (a0.size : Int) := od; have hx3 := bt_at a0 x0_1; replace p3 := eq_true p3; replace q3 := eq_true q3; go_wp2
          go_roundg k2
          case measure => have := HJ1.1; have := HK2.1; omega
          case rel => exact ⟨(wrap64 (x0_1 + 1)), es, H', ⟨by have := HJ1.1; have := HK2.1; omega⟩, by repeat (first | exact Drawn0.refl _ | apply Drawn0.step)⟩
       ·exact nO_ c6 H
      ·rw [if_neg c5] at H; have c5b0 := decide_eq_false c5; clear c5; obtain rfl := sj H; go_wp2
       go_ret
       exact ⟨by first | rfl | (simp; done) | (simp [*]; done), by repeat (first | exact Drawn0.refl _ | apply Drawn0.step)⟩


/-! ### impl_IsArticle: function 110 -/
def impl_IsArticle.f (k : Nat) (a0_0 : ByteArray) (a0_1 : Int) (a0_2 : Int) (a0_3 : Int) (a0_4 : Int) (a0_5 : Int) (a0_6 : Int) (a0_7 : Int) (a0_8 : Int) : Option (Bool) := (impl_IsWord.f k a0_0).bind fun t1 => (if t1 = true then ((impl_within.f a0_1 0 3).bind fun t2 => (if t2 = true then ((impl_within.f a0_2 20 300).bind fun t3 => (if t3 = true then ((impl_within.f a0_3 0 10000).bind fun t4 => (if t4 = true then ((impl_within.f a0_4 0 a0_3).bind fun t5 => (if t5 = true then ((impl_within.f a0_5 1 50).bind fun t6 => (if t6 = true then ((impl_within.f a0_6 0 10000).bind fun t7 => (if t7 = true then ((impl_within.f a0_7 1 100000).bind fun t8 => (if t8 = true then ((impl_within.f a0_8 0 3).bind fun t9 => (some t9)) else (some false))) else (some false))) else (some false))) else (some false))) else (some false))) else (some false))) else (some false))) else (some false))
set_option maxHeartbeats 8000000 in
set_option maxRecDepth 100000 in
theorem impl_IsArticle.calls (k : Nat) (a0_0 : ByteArray) (a0_1 : Int) (a0_2 : Int) (a0_3 : Int) (a0_4 : Int) (a0_5 : Int) (a0_6 : Int) (a0_7 : Int) (a0_8 : Int) (r : Bool) (w : World) (h : impl_IsArticle.f k a0_0 a0_1 a0_2 a0_3 a0_4 a0_5 a0_6 a0_7 a0_8 = some r) :
  Calls Try.prog 110 #[.agg #[.string a0_0, .int .i64 a0_1, .int .i64 a0_2, .int .i64 a0_3, .int .i64 a0_4, .int .i64 a0_5, .int .i64 a0_6, .int .i64 a0_7, .int .i64 a0_8]] w fun e w' => e = .returned (.bool r) ∧ Below w.heap.size w w' := by
 have hu67 := Try.underlying67; have HB := ak (Below.refl w.heap.size w); unfold impl_IsArticle.f at h; have H := h; clear h; obtain ⟨t1, A2, H⟩ := bnk H
 by_cases c3 : t1 = true
 subst c3; rw [if_pos rfl] at H; obtain ⟨t2, A4, H⟩ := bnk H; by_cases c5 : t2 = true
 subst c5; rw [if_pos rfl] at H; obtain ⟨t3, A6, H⟩ := bnk H; by_cases c7 : t3 = true
 subst c7; rw [if_pos rfl] at H; obtain ⟨t4, A8, H⟩ := bnk H; by_cases c9 : t4 = true
 subst c9; rw [if_pos rfl] at H; obtain ⟨t5, A10, H⟩ := bnk H; by_cases c11 : t5 = true
 subst c11; rw [if_pos rfl] at H; obtain ⟨t6, A12, H⟩ := bnk H; by_cases c13 : t6 = true
 subst c13; rw [if_pos rfl] at H; obtain ⟨t7, A14, H⟩ := bnk H; by_cases c15 : t7 = true
 subst c15; rw [if_pos rfl] at H; obtain ⟨t8, A16, H⟩ := bnk H; by_cases c17 : t8 = true
 subst c17; rw [if_pos rfl] at H; obtain ⟨t9, A18, H⟩ := bnk H; obtain rfl := sj H; rotate_left
 replace c17 := Bool.eq_false_iff.mpr c17; subst c17; rw [if_neg nf] at H; obtain rfl := sj H; rotate_left
 replace c15 := Bool.eq_false_iff.mpr c15; subst c15; rw [if_neg nf] at H; obtain rfl := sj H; rotate_left
 replace c13 := Bool.eq_false_iff.mpr c13; subst c13; rw [if_neg nf] at H; obtain rfl := sj H; rotate_left
 replace c11 := Bool.eq_false_iff.mpr c11; subst c11; rw [if_neg nf] at H; obtain rfl := sj H; rotate_left
 replace c9 := Bool.eq_false_iff.mpr c9; subst c9; rw [if_neg nf] at H; obtain rfl := sj H; rotate_left
 replace c7 := Bool.eq_false_iff.mpr c7; subst c7; rw [if_neg nf] at H; obtain rfl := sj H; rotate_left
 replace c5 := Bool.eq_false_iff.mpr c5; subst c5; rw [if_neg nf] at H; obtain rfl := sj H; rotate_left
 replace c3 := Bool.eq_false_iff.mpr c3; subst c3; rw [if_neg nf] at H; obtain rfl := sj H; rotate_left
 all_goals
  go_enter Try.func110, Try.ntmps110; go_wp2_with (first | ((with_reducible refine gate_dst (N := 1) rfl ?_); refine bx 1 #[.string a0_0, .int .i64 a0_1, .int .i64 a0_2, .int .i64 a0_3, .int .i64 a0_4, .int .i64 a0_5, .int .i64 a0_6, .int .i64 a0_7, .int .i64 a0_8] 67 ?_; intro gb0 hg w9 hbox hb; have BK0 := ak hbox; have GW215 := gw hg HB; have GE0 := gw hg HB; replace HB := bs HB hb; clear hb hbox hg; have hcz10 := cz9 BK0.1) | ((with_reducible refine at_fn (f := 126) rfl ?_); refine gl (some 5) Try.func126 #[.string a0_0] ?_; (with_reducible refine (impl_IsWord.calls k a0_0 _ _ A2.1).mono ?_); rintro e w' ⟨rfl, ⟨nd, rfl⟩⟩; refine ⟨_, rfl, ?_⟩) | (go_at_call 103; (with_reducible refine (impl_within.calls a0_1 0 3 _ _ A4.1).mono ?_); rintro e w' ⟨rfl, ⟨nd, rfl⟩⟩) | (go_at_call 103; (with_reducible refine (impl_within.calls a0_2 20 300 _ _ A6.1).mono ?_); rintro e w' ⟨rfl, ⟨nd, rfl⟩⟩) | (go_at_call 103; (with_reducible refine (impl_within.calls a0_3 0 10000 _ _ A8.1).mono ?_); rintro e w' ⟨rfl, ⟨nd, rfl⟩⟩) | (go_at_call 103; (with_reducible refine (impl_within.calls a0_4 0 a0_3 _ _ A10.1).mono ?_); rintro e w' ⟨rfl, ⟨nd, rfl⟩⟩) | (go_at_call 103; (with_reducible refine (impl_within.calls a0_5 1 50 _ _ A12.1).mono ?_); rintro e w' ⟨rfl, ⟨nd, rfl⟩⟩) | (go_at_call 103; (with_reducible refine (impl_within.calls a0_6 0 10000 _ _ A14.1).mono ?_); rintro e w' ⟨rfl, ⟨nd, rfl⟩⟩) | (go_at_call 103; (with_reducible refine (impl_within.calls a0_7 1 100000 _ _ A16.1).mono ?_); rintro e w' ⟨rfl, ⟨nd, rfl⟩⟩) | (go_at_call 103; (with_reducible refine (impl_within.calls a0_8 0 3 t9 _ A18.1).mono ?_); rintro e w' ⟨rfl, ⟨nd, rfl⟩⟩))
  go_ret
  exact ⟨ew, vb HB.1⟩


end Go.Proofs.Ytnfmfebmjlglgaa.Pall
