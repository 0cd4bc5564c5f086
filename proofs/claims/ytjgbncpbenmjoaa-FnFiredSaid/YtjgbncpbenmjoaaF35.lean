/- Go functions of the program, each as a Lean function, and the proof that each call comes to what the Lean function tells; no condition beyond those that stand there. -/
import Derived.Test.YtjgbncpbenmjoaaF00
import Derived.Test.YtjgbncpbenmjoaaF02
import Derived.Test.YtjgbncpbenmjoaaF30
import Derived.Test.YtjgbncpbenmjoaaSq
import Derived.Test.YtjgbncpbenmjoaaWLast
import Derived.Test.YtjgbncpbenmjoaaWTab
import Derived.Test.YtjgbncpbenmjoaaSpare
import Derived.Test.YtjgbncpbenmjoaaCm
import Derived.Test.YtjgbncpbenmjoaaCm3
namespace Go.Proofs.Ytjgbncpbenmjoaa.Pall
open Go.RowKit Go.Proofs.YtjgbncpbenmjoaaW.PrintWords Go.Proofs.YtjgbncpbenmjoaaW.PrintLast
set_option linter.unusedVariables false
set_option linter.unusedSimpArgs false

/-! ### impl_isTime: function 94 -/
def impl_isTime.f (a0 : Int) : Option (Bool) := (impl_within.f a0 0 10000000).bind fun t981 => (some t981)
set_option maxHeartbeats 8000000 in
set_option maxRecDepth 100000 in
theorem impl_isTime.calls (a0 : Int) (r : Bool) (w : World) (h : impl_isTime.f a0 = some r) :
  Calls Try.prog 94 #[.int .i64 a0] w fun e w' => e = .returned (.bool r) ∧ Drawn0 w w' := by
 unfold impl_isTime.f at h; have H := h; clear h; obtain ⟨t981, A2, H⟩ := bnk H; obtain rfl := Option.some.inj H; go_enter Try.func94, Try.ntmps94; go_wp2_with (first | ((with_reducible refine at_fn (f := 69) rfl ?_); refine gl (some 4) Try.func69 #[.int .i64 a0, .int .i64 0, .int .i64 10000000] ?_; (with_reducible refine (impl_within.calls a0 0 10000000 t981 _ A2.out).mono ?_); rintro e w' ⟨rfl, ⟨nd, rfl⟩⟩; refine ⟨_, rfl, ?_⟩))
 go_ret
 exact ⟨by first | rfl | (simp; done) | (simp [*]; done), by repeat (first | exact Drawn0.refl _ | apply Drawn0.step)⟩


/-! ### impl_IsWord: function 109 -/
mutual
def impl_IsWord.j0 : Nat → ByteArray → Bool → Option (Bool)
 | 0, _, _ => none
 | k + 1, x0, x11 => if x11 = true then (some false) else (impl_IsWord.l0 k x0 0)
def impl_IsWord.l0 : Nat → ByteArray → Int → Option (Bool)
 | 0, _, _ => none
 | k + 1, x0, x3 => if x3 < (x0.size : Int) then (if 0 ≤ x3 then (if (bt x0 x3) < 97 then (some false) else (if (bt x0 x3) > 122 then (some false) else (impl_IsWord.l0 k x0 (wrap64 (x3 + 1))))) else (none)) else (some true)
end
def impl_IsWord.f (k : Nat) (a0 : ByteArray) : Option (Bool) := if (a0.size : Int) < 1 then (impl_IsWord.j0 k a0 true) else (impl_IsWord.j0 k a0 (decide ((a0.size : Int) > 16)))
theorem impl_IsWord.mono_l : ∀ k, (∀ y0 y1, LeO (impl_IsWord.j0 k y0 y1) (impl_IsWord.j0 (k + 1) y0 y1)) ∧ (∀ y0 y1, LeO (impl_IsWord.l0 k y0 y1) (impl_IsWord.l0 (k + 1) y0 y1))
 | 0 => ⟨fun _ _ r h => by simp [impl_IsWord.j0] at h, fun _ _ r h => by simp [impl_IsWord.l0] at h⟩
 | k + 1 => by
  obtain ⟨ih0, ih1⟩ := impl_IsWord.mono_l k; refine ⟨?_, ?_⟩
  ·intro y0 y1; unfold impl_IsWord.j0
   repeat' first | (with_reducible first | exact ih0 _ _ | exact ih1 _ _ | exact LeO.refl _ | exact LeO.none _ | refine LeO.ite ?_ ?_ | refine LeO.bind ?_ (fun _ => ?_)) | exact ih0 _ _ | exact ih1 _ _ | exact LeO.none _ | refine LeO.ite ?_ ?_ | refine LeO.bind ?_ (fun _ => ?_)
  ·intro y0 y1; unfold impl_IsWord.l0
   repeat' first | (with_reducible first | exact ih0 _ _ | exact ih1 _ _ | exact LeO.refl _ | exact LeO.none _ | refine LeO.ite ?_ ?_ | refine LeO.bind ?_ (fun _ => ?_)) | exact ih0 _ _ | exact ih1 _ _ | exact LeO.none _ | refine LeO.ite ?_ ?_ | refine LeO.bind ?_ (fun _ => ?_)
theorem impl_IsWord.mono : ∀ a0 k, LeO (impl_IsWord.f k a0) (impl_IsWord.f (k + 1) a0) := by
 intro a0 k; obtain ⟨ih0, ih1⟩ := impl_IsWord.mono_l k; unfold impl_IsWord.f
 repeat' first | (with_reducible first | exact ih0 _ _ | exact ih1 _ _ | exact LeO.refl _ | exact LeO.none _ | refine LeO.ite ?_ ?_ | refine LeO.bind ?_ (fun _ => ?_)) | exact ih0 _ _ | exact ih1 _ _ | exact LeO.none _ | refine LeO.ite ?_ ?_ | refine LeO.bind ?_ (fun _ => ?_)
set_option maxHeartbeats 8000000 in
set_option maxRecDepth 100000 in
theorem impl_IsWord.calls (k : Nat) (a0 : ByteArray) (r : Bool) (w : World) (h : impl_IsWord.f k a0 = some r) :
  Calls Try.prog 109 #[.string a0] w fun e w' => e = .returned (.bool r) ∧ Drawn0 w w' := by
 unfold impl_IsWord.f at h; have H := h; clear h; have HC2 := ak H; clear H; go_enter Try.func109, Try.ntmps109; go_upto_region 1 with (fail)
 go_cut [11] (fun v11 wc => ∃ (kq : Nat) (x11_1 : Bool), v11 = .bool x11_1 ∧ Aside0 (impl_IsWord.j0 kq a0 x11_1 = some r) ∧ Aside0 (kq ≤ k) ∧ Drawn0 w wc)
 case first =>
  have H := HC2.out; clear HC2; by_cases c3 : (a0.size : Int) < 1
  ·rw [if_pos c3] at H; have c3b0 := decide_eq_true c3; have c3b1 : decide (a0.size < 1) = true := decide_eq_true (by omega); clear c3; (first | rw [c3b0] | (simp only [i64_w, i32_w]; rw [c3b0]) | skip)
   have H' := ak H; clear H; go_wp2
   go_meet
   case rel => exact ⟨_, (true), (by first | rfl | (simp; done) | (simp [*]; done)), H', ⟨by first | omega | exact Nat.le_refl _⟩, by repeat (first | exact Drawn0.refl _ | apply Drawn0.step)⟩
  ·rw [if_neg c3] at H; have c3b0 := decide_eq_false c3; have c3b1 : decide (a0.size < 1) = false := decide_eq_false (by omega); clear c3; (first | rw [c3b0] | (simp only [i64_w, i32_w]; rw [c3b0]) | skip)
   have H' := ak H; clear H; go_wp2
   go_meet
   case rel => exact ⟨_, (decide ((a0.size : Int) > 16)), (by first | rfl | (simp; done) | (simp [*]; done)), H', ⟨by first | omega | exact Nat.le_refl _⟩, by repeat (first | exact Drawn0.refl _ | apply Drawn0.step)⟩
 case rest =>
  clear HC2; (try clear c1); (try clear p2); (try clear c3); (try clear c3b0); (try clear c3b1); obtain ⟨kq, x11_1, rfl, HA, HJ1, ⟨mc1, rfl⟩⟩ := hcut
  cases kq with
  | zero => exact absurd HA.out (by simp [impl_IsWord.j0])
  | succ kj1 =>
   have H := HA.out; clear HA; simp only [impl_IsWord.j0] at H
   by_cases c4 : x11_1 = true
   ·subst c4; rw [if_pos rfl] at H; obtain rfl := Option.some.inj H; go_wp2
    go_ret
    exact ⟨by first | rfl | (simp; done) | (simp [*]; done), by repeat (first | exact Drawn0.refl _ | apply Drawn0.step)⟩
   ·replace c4 := Bool.eq_false_iff.mpr c4; subst c4; rw [if_neg nf] at H; have H' := ak H; clear H; go_wp2
    go_loopg [3] kj1 (fun kq v3 w' => ∃ (x3_2 : Int), v3 = .int .i64 x3_2 ∧ Aside0 (impl_IsWord.l0 kq a0 x3_2 = some r) ∧ Aside0 (kq ≤ kj1) ∧ Drawn0 w w')
    case atStart => exact ⟨(0), (by first | rfl | (simp; done) | (simp [*]; done)), H', ⟨Nat.le_refl _⟩, by repeat (first | exact Drawn0.refl _ | apply Drawn0.step)⟩
    case round =>
     clear H'; (try clear c1); (try clear p2); (try clear c3); (try clear c3b0); (try clear c3b1); (try clear c4); (try clear p2); obtain ⟨x3_2, rfl, HA, HK2, ⟨m2, rfl⟩⟩ := hrel
     cases gk with
     | zero => exact absurd HA.out (by simp [impl_IsWord.l0])
     | succ k2 =>
      have H := HA.out; clear HA; simp only [impl_IsWord.l0] at H
      by_cases c5 : x3_2 < (a0.size : Int)
      ·rw [if_pos c5] at H; have c5b0 := decide_eq_true c5; clear c5; by_cases c6 : 0 ≤ x3_2
       ·rw [if_pos c6] at H; have c6b0 := decide_eq_true c6; clear c6; by_cases c8 : (bt a0 x3_2) < 97
        ·rw [if_pos c8] at H; have c8b0 := decide_eq_true c8; clear c8; obtain rfl := Option.some.inj H; have p7 : 0 ≤ (x3_2 : Int) := od; have q7 : x3_2 < (a0.size : Int) := od; have hx7 := bt_at a0 x3_2; replace p7 := eq_true p7; replace q7 := eq_true q7; go_wp2
         go_ret
         exact ⟨by first | rfl | (simp; done) | (simp [*]; done), by repeat (first | exact Drawn0.refl _ | apply Drawn0.step)⟩
        ·rw [if_neg c8] at H; have c8b0 := decide_eq_false c8; clear c8; by_cases c10 : (bt a0 x3_2) > 122
         ·rw [if_pos c10] at H; have c10b0 := decide_eq_true c10; clear c10; obtain rfl := Option.some.inj H; have p7 : 0 ≤ (x3_2 : Int) := od; have q7 : x3_2 < (a0.size : Int) := od; have hx7 := bt_at a0 x3_2; replace p7 := eq_true p7; replace q7 := eq_true q7; have p9 : 0 ≤ (x3_2 : Int) := od; have q9 : x3_2 < (a0.size : Int) := od; have hx9 := bt_at a0 x3_2; replace p9 := eq_true p9; replace q9 := eq_true q9; go_wp2
          go_ret
          exact ⟨by first | rfl | (simp; done) | (simp [*]; done), by repeat (first | exact Drawn0.refl _ | apply Drawn0.step)⟩
         ·rw [if_neg c10] at H; have c10b0 := decide_eq_false c10; clear c10; have H' := ak H; clear H; have p7 : 0 ≤ (x3_2 : Int) := od; have q7 : x3_2 < (a0.size : Int) := od; have hx7 := bt_at a0 x3_2; replace p7 := eq_true p7; replace q7 := eq_true q7; have p9 : 0 ≤ (x3_2 : Int) := od; have q9 : x3_2 < (a0.size : Int) := od; have hx9 := bt_at a0 x3_2; replace p9 := eq_true p9; replace q9 := eq_true q9; go_wp2
          go_roundg k2
          case measure => have := HJ1.out; have := HK2.out; omega
          case rel => exact ⟨(wrap64 (x3_2 + 1)), (by first | rfl | (simp; done) | (simp [*]; done)), H', ⟨by have := HJ1.out; have := HK2.out; omega⟩, by repeat (first | exact Drawn0.refl _ | apply Drawn0.step)⟩
       ·rw [if_neg c6] at H; exact absurd H (by simp)
      ·rw [if_neg c5] at H; have c5b0 := decide_eq_false c5; clear c5; obtain rfl := Option.some.inj H; go_wp2
       go_ret
       exact ⟨by first | rfl | (simp; done) | (simp [*]; done), by repeat (first | exact Drawn0.refl _ | apply Drawn0.step)⟩


/-! ### impl_AreMoves: function 92 -/
mutual
def impl_AreMoves.l0 : Nat → List (S111) → List (S111) → Int → Int → Option (Bool)
 | 0, _, _, _, _ => none
 | k + 1, x0, x8, x9, x10 => if x10 < x9 then (if 0 ≤ x10 then (if x10 < (x8.length : Int) then ((impl_isTime.f ((rd_T111 x8 x10).f0)).bind fun t984 => (if t984 = true then ((impl_IsWord.f k ((rd_T111 x8 x10).f1)).bind fun t985 => (if t985 = true then ((impl_within.f ((rd_T111 x8 x10).f2) (-1000) 1000).bind fun t986 => (if t986 = true then (if ((rd_T111 x8 x10).f2) = 0 then (impl_AreMoves.j1 k x0 x10 x8 x9 x10 true ((rd_T111 x8 x10).f0) ((rd_T111 x8 x10).f1) ((rd_T111 x8 x10).f2)) else (if x10 > 0 then (if 0 ≤ (wrap64 (x10 - 1)) then (if (wrap64 (x10 - 1)) < (x0.length : Int) then (impl_AreMoves.j1 k x0 x10 x8 x9 x10 (decide (((rd_T111 x0 (wrap64 (x10 - 1))).f0) > ((rd_T111 x8 x10).f0))) ((rd_T111 x8 x10).f0) ((rd_T111 x8 x10).f1) ((rd_T111 x8 x10).f2)) else (none)) else (none)) else (impl_AreMoves.j1 k x0 x10 x8 x9 x10 false ((rd_T111 x8 x10).f0) ((rd_T111 x8 x10).f1) ((rd_T111 x8 x10).f2)))) else (impl_AreMoves.j1 k x0 x10 x8 x9 x10 true ((rd_T111 x8 x10).f0) ((rd_T111 x8 x10).f1) ((rd_T111 x8 x10).f2)))) else (impl_AreMoves.j1 k x0 x10 x8 x9 x10 true ((rd_T111 x8 x10).f0) ((rd_T111 x8 x10).f1) ((rd_T111 x8 x10).f2)))) else (impl_AreMoves.j1 k x0 x10 x8 x9 x10 true ((rd_T111 x8 x10).f0) ((rd_T111 x8 x10).f1) ((rd_T111 x8 x10).f2)))) else (none)) else (none)) else (some true)
def impl_AreMoves.j1 : Nat → List (S111) → Int → List (S111) → Int → Int → Bool → Int → ByteArray → Int → Option (Bool)
 | 0, _, _, _, _, _, _, _, _, _ => none
 | k + 1, x0, x3, x8, x9, x10, x50, x984000, x984001, x984002 => if x50 = true then (some false) else (if 0 ≤ (wrap64 (x3 + 1)) then (if (wrap64 (x3 + 1)) ≤ (x0.length : Int) then ((impl_peopleIn.f k (x0.take ((wrap64 (x3 + 1)) : Int).toNat) x984001 x984000).bind fun t992 => (if t992 < 0 then (some false) else (impl_AreMoves.l0 k x0 x8 x9 (wrap64 (x10 + 1))))) else (none)) else (none))
end
def impl_AreMoves.f (k : Nat) (l0 : List (S111)) : Option (Bool) := if (l0.length : Int) > 40 then (some false) else (impl_AreMoves.l0 k l0 l0 (l0.length : Int) 0)
theorem impl_AreMoves.mono_l : ∀ k, (∀ y0 y1 y2 y3, LeO (impl_AreMoves.l0 k y0 y1 y2 y3) (impl_AreMoves.l0 (k + 1) y0 y1 y2 y3)) ∧ (∀ y0 y1 y2 y3 y4 y5 y6 y7 y8, LeO (impl_AreMoves.j1 k y0 y1 y2 y3 y4 y5 y6 y7 y8) (impl_AreMoves.j1 (k + 1) y0 y1 y2 y3 y4 y5 y6 y7 y8))
 | 0 => ⟨fun _ _ _ _ r h => by simp [impl_AreMoves.l0] at h, fun _ _ _ _ _ _ _ _ _ r h => by simp [impl_AreMoves.j1] at h⟩
 | k + 1 => by
  obtain ⟨ih0, ih1⟩ := impl_AreMoves.mono_l k; refine ⟨?_, ?_⟩
  ·intro y0 y1 y2 y3; unfold impl_AreMoves.l0
   repeat' first | (with_reducible first | exact ih0 _ _ _ _ | exact ih1 _ _ _ _ _ _ _ _ _ | exact impl_IsWord.mono _ _ | exact impl_peopleIn.mono _ _ _ _ | exact LeO.refl _ | exact LeO.none _ | refine LeO.ite ?_ ?_ | refine LeO.bind ?_ (fun _ => ?_)) | exact ih0 _ _ _ _ | exact ih1 _ _ _ _ _ _ _ _ _ | exact impl_IsWord.mono _ _ | exact impl_peopleIn.mono _ _ _ _ | exact LeO.none _ | refine LeO.ite ?_ ?_ | refine LeO.bind ?_ (fun _ => ?_)
  ·intro y0 y1 y2 y3 y4 y5 y6 y7 y8; unfold impl_AreMoves.j1
   repeat' first | (with_reducible first | exact ih0 _ _ _ _ | exact ih1 _ _ _ _ _ _ _ _ _ | exact impl_IsWord.mono _ _ | exact impl_peopleIn.mono _ _ _ _ | exact LeO.refl _ | exact LeO.none _ | refine LeO.ite ?_ ?_ | refine LeO.bind ?_ (fun _ => ?_)) | exact ih0 _ _ _ _ | exact ih1 _ _ _ _ _ _ _ _ _ | exact impl_IsWord.mono _ _ | exact impl_peopleIn.mono _ _ _ _ | exact LeO.none _ | refine LeO.ite ?_ ?_ | refine LeO.bind ?_ (fun _ => ?_)
theorem impl_AreMoves.mono : ∀ a0 k, LeO (impl_AreMoves.f k a0) (impl_AreMoves.f (k + 1) a0) := by
 intro a0 k; obtain ⟨ih0, ih1⟩ := impl_AreMoves.mono_l k; unfold impl_AreMoves.f
 repeat' first | (with_reducible first | exact ih0 _ _ _ _ | exact ih1 _ _ _ _ _ _ _ _ _ | exact impl_IsWord.mono _ _ | exact impl_peopleIn.mono _ _ _ _ | exact LeO.refl _ | exact LeO.none _ | refine LeO.ite ?_ ?_ | refine LeO.bind ?_ (fun _ => ?_)) | exact ih0 _ _ _ _ | exact ih1 _ _ _ _ _ _ _ _ _ | exact impl_IsWord.mono _ _ | exact impl_peopleIn.mono _ _ _ _ | exact LeO.none _ | refine LeO.ite ?_ ?_ | refine LeO.bind ?_ (fun _ => ?_)
def impl_AreMoves.T6 : Bool × List (List Nat × List Nat) := (true, [([], []), ([0], [0]), ([1], [1]), ([2], [2]), ([3, 2], [3]), ([4], [4]), ([5, 4], [4, 5]), ([6, 4, 4], [4, 6]), ([7, 4], [4, 7]), ([4, 8], [4, 8]), ([9, 7], [9]), ([10], [10]), ([11, 10], [10, 11]), ([12, 10, 10], [10, 12]), ([13, 10], [10, 13]), ([10, 14], [10, 14]), ([15, 13], [15]), ([16], [16]), ([17, 16], [16, 17]), ([18, 16], [16, 18]), ([16, 19], [16, 19]), ([20, 16], [20]), ([21], [21]), ([22, 21], [21, 22]), ([23, 21, 21], [21, 23]), ([24], [24]), ([24], [24]), ([26, 24], [24, 26]), ([25, 27, 24], [24, 25, 27]), ([28, 24], [24, 28]), ([29, 24], [24, 29]), ([24], [24]), ([31, 24], [24, 31]), ([30, 32, 24], [24, 30, 32]), ([24, 33, 21], [21, 24, 33]), ([21, 34], [21, 34])])
def impl_AreMoves.B6 : List Nat := [0, 1, 3, 7, 15, 31, 63, 127, 255, 511, 1023, 2047, 4095, 8191, 16383, 32767, 65535, 131071, 262143, 524287, 1048575, 2097151, 4194303, 8388607, 16777215, 33554431, 33554431, 100663295, 268435455, 536870911, 1073741823, 33554431, 2181038079, 8589934591, 17179869183, 34359738367]
theorem impl_AreMoves.tab6 : rtab .any (opsOf Try.f92 6) = impl_AreMoves.T6 := by kernel_rfl
theorem impl_AreMoves.bits6 : waitsOk impl_AreMoves.T6.2 impl_AreMoves.B6 = true := by kernel_rfl
def impl_AreMoves.T8 : Bool × List (List Nat × List Nat) := (true, [([], []), ([], []), ([1], [1]), ([0, 2], [0, 2]), ([], []), ([4], [4]), ([], []), ([6], [6]), ([3, 5, 7], [3, 5, 7]), ([8], [8])])
def impl_AreMoves.B8 : List Nat := [0, 0, 2, 7, 0, 16, 0, 64, 255, 511]
theorem impl_AreMoves.tab8 : rtab .any (opsOf Try.f92 8) = impl_AreMoves.T8 := by kernel_rfl
theorem impl_AreMoves.bits8 : waitsOk impl_AreMoves.T8.2 impl_AreMoves.B8 = true := by kernel_rfl
set_option maxHeartbeats 8000000 in
set_option maxRecDepth 100000 in
theorem impl_AreMoves.calls (k : Nat) (A0 : Option Addr) (c0 : Nat) (l0 : List (S111)) (r : Bool) (w : World) (hr0 : Kd.C k111 w A0 l0.length l0) (hc0 : l0.length ≤ c0) (h : impl_AreMoves.f k l0 = some r) :
  Calls Try.prog 92 #[.slice A0 l0.length c0] w fun e w' => e = .returned (.bool r) ∧ Below w.heap.size w w' := by
 have hu111 := Try.underlying111; have HR0 := ak hr0; have HC0 := ak hc0; clear hr0 hc0; have HB := ak (Below.refl w.heap.size w); unfold impl_AreMoves.f at h; have H := h; clear h; by_cases c2 : (l0.length : Int) > 40
 ·rw [if_pos c2] at H; have c2b0 := decide_eq_true c2; have c2b1 : decide (40 < l0.length) = true := decide_eq_true (by omega); clear c2; obtain rfl := Option.some.inj H; go_enter Try.func92, Try.ntmps92; go_wp2
  go_ret
  exact ⟨ew, vb HB.out⟩
 ·rw [if_neg c2] at H; have c2b0 := decide_eq_false c2; have c2b1 : decide (40 < l0.length) = false := decide_eq_false (by omega); clear c2; have H' := ak H; clear H; go_enter Try.func92, Try.ntmps92; go_wp2
  go_loopg [10] k (fun kq v10 w' => ∃ (x10_1 : Int), v10 = .int .i64 x10_1 ∧ Aside0 (impl_AreMoves.l0 kq l0 l0 (l0.length : Int) x10_1 = some r) ∧ Aside0 (kq ≤ k) ∧ Aside0 (Below w.heap.size w w'))
  case atStart => exact ⟨(0), (by first | rfl | (simp; done) | (simp [*]; done)), H', ⟨Nat.le_refl _⟩, ⟨vb HB.out⟩⟩
  case round =>
   clear H'; (try clear c2); (try clear c2b0); (try clear c2b1); (try clear p2); obtain ⟨x10_1, rfl, HA, HK1, HB⟩ := hrel
   cases gk with
   | zero => exact absurd HA.out (by simp [impl_AreMoves.l0])
   | succ k1 =>
    have H := HA.out; clear HA; simp only [impl_AreMoves.l0] at H
    by_cases c3 : x10_1 < (l0.length : Int)
    ·rw [if_pos c3] at H; have c3b0 := decide_eq_true c3; clear c3; by_cases c4 : 0 ≤ x10_1
     ·rw [if_pos c4] at H; have c4b0 := decide_eq_true c4; clear c4; by_cases c5 : x10_1 < (l0.length : Int)
      ·rw [if_pos c5] at H; have c5b0 := decide_eq_true c5; clear c5; have HC6 := ak H; clear H; have p982 : 0 ≤ (x10_1 : Int) := od; have q982 : x10_1 < (l0.length : Int) := od; obtain ⟨ad982, e982, hx982_0, hx982_1, hx982_2⟩ := at_T111 HR0.out x10_1 p982 q982
       cases e982; replace hx982_0 := cb HB.out hx982_0; replace hx982_1 := cb HB.out hx982_1; replace hx982_2 := cb HB.out hx982_2; replace p982 := eq_true p982; replace q982 := eq_true q982; go_upto_region 6 with (first | ((with_reducible refine gate_dst (N := 4) rfl ?_); refine bx 4 #[.int .i64 0, .string (⟨#[]⟩ : ByteArray), .int .i64 0] 111 ?_; intro gb983 hg w7 hbox hb; have BK983 := ak hbox; have GW983 := gw hg HB; have GE983 := gw hg HB; replace HB := bs HB hb; clear hb hbox hg; have hcz8 := cz3 BK983.out))
       (try simp only [Act.put, List.setIfInBounds_toArray, List.set_cons_zero, List.set_cons_succ])
       go_cut [50] (fun v50 wc => ∃ (kq : Nat) (x50_5 : Bool), v50 = .bool x50_5 ∧ Aside0 (impl_AreMoves.j1 kq l0 x10_1 l0 (l0.length : Int) x10_1 x50_5 ((rd_T111 l0 x10_1).f0) ((rd_T111 l0 x10_1).f1) ((rd_T111 l0 x10_1).f2) = some r) ∧ Aside0 (kq ≤ k1) ∧ Aside0 (wc.heap[gb983]? = some (.cells #[.int .i64 ((rd_T111 l0 x10_1).f0), .string ((rd_T111 l0 x10_1).f1), .int .i64 ((rd_T111 l0 x10_1).f2)] 111 (0, 0))) ∧ Aside0 (Below w.heap.size w wc))
       case first =>
        have H := HC6.out; clear HC6; obtain ⟨t984, A9, H⟩ := bnk H; by_cases c10 : t984 = true
        ·subst c10; rw [if_pos rfl] at H; obtain ⟨t985, A11, H⟩ := bnk H; by_cases c12 : t985 = true
         ·subst c12; rw [if_pos rfl] at H; obtain ⟨t986, A13, H⟩ := bnk H; by_cases c14 : t986 = true
          ·subst c14; rw [if_pos rfl] at H; by_cases c15 : ((rd_T111 l0 x10_1).f2) = 0
           ·rw [if_pos c15] at H; have c15b0 : (((rd_T111 l0 x10_1).f2) == 0) = true := beq_iff_eq.mpr c15; have c15b1 : (((rd_T111 l0 x10_1).f2) != 0) = false := bne_eq_false_iff_eq.mpr c15; clear c15; (first | rw [c15b0] | (simp only [i64_w, i32_w]; rw [c15b0]) | skip)
            have H' := ak H; clear H; (try go_wp2)
            have n0_ : Aside0 ((((w7.setCell ⟨gb983, 0, none⟩ (.int .i64 ((rd_T111 l0 x10_1).f0))).setCell ⟨gb983, 1, none⟩ (.string ((rd_T111 l0 x10_1).f1))).setCell ⟨gb983, 2, none⟩ (.int .i64 ((rd_T111 l0 x10_1).f2))).heap[gb983]? = some (.cells #[.int .i64 ((rd_T111 l0 x10_1).f0), .string ((rd_T111 l0 x10_1).f1), .int .i64 ((rd_T111 l0 x10_1).f2)] 111 (0, 0))) := ⟨by (with_reducible repeat (first | refine blk_drewN ?_ _ | refine blk_drew ?_ | refine blk_alloc ?_ _)); refine blk_put (cs := #[.int .i64 ((rd_T111 l0 x10_1).f0), .string ((rd_T111 l0 x10_1).f1), .int .i64 0]) ?_ 2 _ rfl; (with_reducible repeat (first | refine blk_drewN ?_ _ | refine blk_drew ?_ | refine blk_alloc ?_ _)); refine blk_put (cs := #[.int .i64 ((rd_T111 l0 x10_1).f0), .string (⟨#[]⟩ : ByteArray), .int .i64 0]) ?_ 1 _ rfl; (with_reducible repeat (first | refine blk_drewN ?_ _ | refine blk_drew ?_ | refine blk_alloc ?_ _)); refine blk_put (cs := #[.int .i64 0, .string (⟨#[]⟩ : ByteArray), .int .i64 0]) ?_ 0 _ rfl; (with_reducible repeat (first | refine blk_drewN ?_ _ | refine blk_drew ?_ | refine blk_alloc ?_ _)); exact BK983.out⟩; have n1_ : Aside0 (Below w.heap.size w (((w7.setCell ⟨gb983, 0, none⟩ (.int .i64 ((rd_T111 l0 x10_1).f0))).setCell ⟨gb983, 1, none⟩ (.string ((rd_T111 l0 x10_1).f1))).setCell ⟨gb983, 2, none⟩ (.int .i64 ((rd_T111 l0 x10_1).f2)))) := ⟨vb HB.out⟩; (try clear BK983)
            (try clear HB)
            generalize (((w7.setCell ⟨gb983, 0, none⟩ (.int .i64 ((rd_T111 l0 x10_1).f0))).setCell ⟨gb983, 1, none⟩ (.string ((rd_T111 l0 x10_1).f1))).setCell ⟨gb983, 2, none⟩ (.int .i64 ((rd_T111 l0 x10_1).f2))) = w16 at n0_ n1_ ⊢; have BK983 := n0_; have HB := n1_; clear n0_ n1_; replace BK983 := ak (blk_drew BK983.out); replace HB := ak (below_drew1 HB.out); refine start_ (n := 36) (S := fun w' => w'.cell? ⟨gb983, 0, none⟩ = some (.int .i64 ((rd_T111 l0 x10_1).f0)) ∧ w'.cell? ⟨gb983, 1, none⟩ = some (.string ((rd_T111 l0 x10_1).f1)) ∧ w'.cell? ⟨gb983, 2, none⟩ = some (.int .i64 ((rd_T111 l0 x10_1).f2))) (ds := []) (tf 0 36) (by kernel_rfl) rfl rfl (cy3 BK983.out) (fun hHeld => ?_); refine with_tabW impl_AreMoves.tab6 impl_AreMoves.bits6 (fun HT_ HW_ => ?_); generalize w16.drew = w17 at BK983 HB hHeld ⊢; refine pu_ 0 15 (tf 1 35) rfl rfl ?_; refine ta3_ 1 16 (tf 2 34) rfl rfl ?_; refine one_ (i := 2) (N := some 17) (tf 3 33) rfl rfl (one_of HT_.out (by kernel_rfl)) (by decide) (fun K hK => ?_); refine goes_ Try.func94 (by kernel_rfl) rfl #[.int .i64 ((rd_T111 l0 x10_1).f0)] (by rfl) rfl rfl (by (try simp only [List.map_toArray, List.map_cons, List.map_nil]); first | done | rfl | (simp only [List.length_drop, List.length_take]; rfl)) ?_; with_reducible refine (impl_isTime.calls ((rd_T111 l0 x10_1).f0) true _ A9.out).mono ?_
            rintro e w' ⟨rfl, ⟨nd, rfl⟩⟩; refine ⟨_, rfl, ?_⟩; refine hK.out _ _ (cy3 BK983.out) (fun hHeld => ?_); clear hK K; refine norm_ (a' := ?_) ?_ ?_
            rotate_left
            ·show Act.put _ (some 17) _ = _
             simp only [Act.put, List.setIfInBounds_toArray, List.set_cons_zero, List.set_cons_succ, i64_w, i32_w]
             rfl
            refine pu_ 3 18 (tf 4 32) rfl rfl ?_; refine pu_ 4 19 (tf 5 31) rfl rfl ?_; refine pu_ 5 20 (tf 6 30) rfl rfl ?_; refine ta3_ 6 21 (tf 7 29) rfl rfl ?_; refine one_ (i := 7) (N := some 22) (tf 8 28) rfl rfl (one_of HT_.out (by kernel_rfl)) (by decide) (fun K hK => ?_); refine goes_ Try.func109 (by kernel_rfl) rfl #[.string ((rd_T111 l0 x10_1).f1)] (by rfl) rfl rfl (by (try simp only [List.map_toArray, List.map_cons, List.map_nil]); first | done | rfl | (simp only [List.length_drop, List.length_take]; rfl)) ?_; with_reducible refine (impl_IsWord.calls k1 ((rd_T111 l0 x10_1).f1) true _ A11.out).mono ?_
            rintro e w' ⟨rfl, ⟨nd, rfl⟩⟩; refine ⟨_, rfl, ?_⟩; refine hK.out _ _ (cy3 BK983.out) (fun hHeld => ?_); clear hK K; refine norm_ (a' := ?_) ?_ ?_
            rotate_left
            ·show Act.put _ (some 22) _ = _
             simp only [Act.put, List.setIfInBounds_toArray, List.set_cons_zero, List.set_cons_succ, i64_w, i32_w]
             rfl
            refine pu_ 8 23 (tf 9 27) rfl rfl ?_; refine pu_ 9 24 (tf 10 26) rfl rfl ?_; refine pu_ 10 25 (tf 11 25) rfl rfl ?_; refine pu_ 11 26 (tf 12 24) rfl rfl ?_; refine ta3_ 12 27 (tf 13 23) rfl rfl ?_; refine one_ (i := 13) (N := some 28) (tf 14 22) rfl rfl (one_of HT_.out (by kernel_rfl)) (by decide) (fun K hK => ?_); refine goes_ Try.func69 (by kernel_rfl) rfl #[.int .i64 ((rd_T111 l0 x10_1).f2), .int .i64 (-1000), .int .i64 1000] (by rfl) rfl rfl (by (try simp only [List.map_toArray, List.map_cons, List.map_nil]); first | done | rfl | (simp only [List.length_drop, List.length_take]; rfl)) ?_; with_reducible refine (impl_within.calls ((rd_T111 l0 x10_1).f2) (-1000) 1000 true _ A13.out).mono ?_
            rintro e w' ⟨rfl, ⟨nd, rfl⟩⟩; refine ⟨_, rfl, ?_⟩; refine hK.out _ _ (cy3 BK983.out) (fun hHeld => ?_); clear hK K; refine norm_ (a' := ?_) ?_ ?_
            rotate_left
            ·show Act.put _ (some 28) _ = _
             simp only [Act.put, List.setIfInBounds_toArray, List.set_cons_zero, List.set_cons_succ, i64_w, i32_w]
             rfl
            refine pu_ 14 29 (tf 15 21) rfl rfl ?_; refine pu_ 15 30 (tf 16 20) rfl rfl ?_; refine pu_ 16 31 (tf 17 19) rfl rfl ?_; refine pu_ 17 32 (tf 18 18) rfl rfl ?_; refine ta3_ 18 33 (tf 19 17) rfl rfl ?_; refine pu_ 19 34 (tf 20 16) rfl rfl ?_; refine pu_ 20 35 (tf 21 15) rfl rfl ?_; refine pu_ 21 36 (tf 22 14) rfl rfl ?_; refine un_ 22 37 (tf 23 13) rfl rfl ?_; refine un_ 23 38 (tf 24 12) rfl rfl ?_; refine un_ 24 39 (tf 25 11) rfl rfl ?_; refine un_ 25 40 (tf 26 10) rfl rfl ?_; refine un_ 26 41 (tf 27 9) rfl rfl ?_; refine un_ 27 42 (tf 28 8) rfl rfl ?_; refine un_ 28 43 (tf 29 7) rfl rfl ?_; refine un_ 29 44 (tf 30 6) rfl rfl ?_; refine un_ 30 45 (tf 31 5) rfl rfl ?_; refine un_ 31 46 (tf 32 4) rfl rfl ?_; refine un_ 32 47 (tf 33 3) rfl rfl ?_; refine un_ 33 48 (tf 34 2) rfl rfl ?_; refine un_ 34 49 (tf 35 1) rfl rfl ?_; refine pu_ 35 50 (tf 36 0) rfl rfl ?_; refine done_ (done_of HT_.out (by kernel_rfl)) ?_; (try go_wp2)
            go_meet
            case rel => exact ⟨_, (true), (by first | rfl | (simp; done) | (simp [*]; done)), H', ⟨by have := HK1.out; first | omega | exact Nat.le_refl _⟩, ⟨vk BK983.out⟩, ⟨vb HB.out⟩⟩
           ·rw [if_neg c15] at H; have c15b0 : (((rd_T111 l0 x10_1).f2) == 0) = false := beq_eq_false_iff_ne.mpr c15; have c15b1 : (((rd_T111 l0 x10_1).f2) != 0) = true := bne_iff_ne.mpr c15; (first | rw [c15b0] | (simp only [i64_w, i32_w]; rw [c15b0]) | skip)
            by_cases c18 : x10_1 > 0
            ·rw [if_pos c18] at H; have c18b0 := decide_eq_true c18; clear c18; obtain ⟨ji19, hji19⟩ : ∃ j_ : Int, (wrap64 (x10_1 - 1)) = j_ := ⟨_, rfl⟩; replace H : (if 0 ≤ (ji19) then (if (ji19) < (l0.length : Int) then (impl_AreMoves.j1 k1 l0 x10_1 l0 (l0.length : Int) x10_1 (decide (((rd_T111 l0 (ji19)).f0) > ((rd_T111 l0 x10_1).f0))) ((rd_T111 l0 x10_1).f0) ((rd_T111 l0 x10_1).f1) ((rd_T111 l0 x10_1).f2)) else (none)) else (none)) = some r := by first | (rw [hji19] at H; exact H) | (simp only [hji19] at H ⊢; exact H)
             (try rw [hji19] at A9)
             (try rw [hji19] at A11)
             (try rw [hji19] at A13)
             have hji19w : (IntKind.i64.wrap (x10_1 - 1)) = ji19 := (i64_w _).trans hji19; by_cases c20 : 0 ≤ (ji19)
             ·rw [if_pos c20] at H; have c20b0 := decide_eq_true c20; clear c20; by_cases c21 : (ji19) < (l0.length : Int)
              ·rw [if_pos c21] at H; have c21b0 := decide_eq_true c21; clear c21; have H' := ak H; clear H; (try go_wp2)
               have n0_ : Aside0 ((((w7.setCell ⟨gb983, 0, none⟩ (.int .i64 ((rd_T111 l0 x10_1).f0))).setCell ⟨gb983, 1, none⟩ (.string ((rd_T111 l0 x10_1).f1))).setCell ⟨gb983, 2, none⟩ (.int .i64 ((rd_T111 l0 x10_1).f2))).heap[gb983]? = some (.cells #[.int .i64 ((rd_T111 l0 x10_1).f0), .string ((rd_T111 l0 x10_1).f1), .int .i64 ((rd_T111 l0 x10_1).f2)] 111 (0, 0))) := ⟨by (with_reducible repeat (first | refine blk_drewN ?_ _ | refine blk_drew ?_ | refine blk_alloc ?_ _)); refine blk_put (cs := #[.int .i64 ((rd_T111 l0 x10_1).f0), .string ((rd_T111 l0 x10_1).f1), .int .i64 0]) ?_ 2 _ rfl; (with_reducible repeat (first | refine blk_drewN ?_ _ | refine blk_drew ?_ | refine blk_alloc ?_ _)); refine blk_put (cs := #[.int .i64 ((rd_T111 l0 x10_1).f0), .string (⟨#[]⟩ : ByteArray), .int .i64 0]) ?_ 1 _ rfl; (with_reducible repeat (first | refine blk_drewN ?_ _ | refine blk_drew ?_ | refine blk_alloc ?_ _)); refine blk_put (cs := #[.int .i64 0, .string (⟨#[]⟩ : ByteArray), .int .i64 0]) ?_ 0 _ rfl; (with_reducible repeat (first | refine blk_drewN ?_ _ | refine blk_drew ?_ | refine blk_alloc ?_ _)); exact BK983.out⟩; have n1_ : Aside0 (Below w.heap.size w (((w7.setCell ⟨gb983, 0, none⟩ (.int .i64 ((rd_T111 l0 x10_1).f0))).setCell ⟨gb983, 1, none⟩ (.string ((rd_T111 l0 x10_1).f1))).setCell ⟨gb983, 2, none⟩ (.int .i64 ((rd_T111 l0 x10_1).f2)))) := ⟨vb HB.out⟩; (try clear BK983)
               (try clear HB)
               generalize (((w7.setCell ⟨gb983, 0, none⟩ (.int .i64 ((rd_T111 l0 x10_1).f0))).setCell ⟨gb983, 1, none⟩ (.string ((rd_T111 l0 x10_1).f1))).setCell ⟨gb983, 2, none⟩ (.int .i64 ((rd_T111 l0 x10_1).f2))) = w22 at n0_ n1_ ⊢; have BK983 := n0_; have HB := n1_; clear n0_ n1_; replace BK983 := ak (blk_drew BK983.out); replace HB := ak (below_drew1 HB.out); have p987 : 0 ≤ ((ji19) : Int) := od; have q987 : (ji19) < (l0.length : Int) := od; obtain ⟨ad987, e987, hx987_0, hx987_1, hx987_2⟩ := at_T111 HR0.out (ji19) p987 q987; have hw987_2 := hx987_2; have hw987_1 := hx987_1; have hw987_0 := hx987_0; obtain rfl : ad982 = ad987 := (by injection e987); replace hx987_0 := cb HB.out hx987_0; replace hx987_1 := cb HB.out hx987_1; replace hx987_2 := cb HB.out hx987_2; replace p987 := eq_true p987; replace q987 := eq_true q987; refine start_ (n := 36) (S := fun w' => w'.cell? ⟨gb983, 0, none⟩ = some (.int .i64 ((rd_T111 l0 x10_1).f0)) ∧ w'.cell? ⟨gb983, 1, none⟩ = some (.string ((rd_T111 l0 x10_1).f1)) ∧ w'.cell? ⟨gb983, 2, none⟩ = some (.int .i64 ((rd_T111 l0 x10_1).f2)) ∧ w'.cell? (ad982.add (((ji19)).toNat * 3)) = some (.int .i64 ((rd_T111 l0 (ji19)).f0)) ∧ w'.cell? ⟨(ad982.add (((ji19)).toNat * 3)).block, (ad982.add (((ji19)).toNat * 3)).off + 1, none⟩ = some (.string ((rd_T111 l0 (ji19)).f1)) ∧ w'.cell? ⟨(ad982.add (((ji19)).toNat * 3)).block, (ad982.add (((ji19)).toNat * 3)).off + 2, none⟩ = some (.int .i64 ((rd_T111 l0 (ji19)).f2))) (ds := []) (tf 0 36) (by kernel_rfl) rfl rfl ⟨(blk_cell BK983.out 0).trans rfl, (blk_cell BK983.out 1).trans rfl, (blk_cell BK983.out 2).trans rfl, ((HB.out.cell (World.block_lt_of_cell? w _ hw987_0)).trans hw987_0), ((HB.out.cell (World.block_lt_of_cell? w _ hw987_1)).trans hw987_1), ((HB.out.cell (World.block_lt_of_cell? w _ hw987_2)).trans hw987_2)⟩ (fun hHeld => ?_); refine with_tabW impl_AreMoves.tab6 impl_AreMoves.bits6 (fun HT_ HW_ => ?_)
               generalize w22.drew = w23 at BK983 HB hx987_0 hx987_1 hx987_2 hHeld ⊢; refine pu_ 0 15 (tf 1 35) rfl rfl ?_; refine ta6_ 1 16 (tf 2 34) rfl rfl ?_; refine one_ (i := 2) (N := some 17) (tf 3 33) rfl rfl (one_of HT_.out (by kernel_rfl)) (by decide) (fun K hK => ?_); refine goes_ Try.func94 (by kernel_rfl) rfl #[.int .i64 ((rd_T111 l0 x10_1).f0)] (by rfl) rfl rfl (by (try simp only [List.map_toArray, List.map_cons, List.map_nil]); first | done | rfl | (simp only [List.length_drop, List.length_take]; rfl)) ?_; with_reducible refine (impl_isTime.calls ((rd_T111 l0 x10_1).f0) true _ A9.out).mono ?_
               rintro e w' ⟨rfl, ⟨nd, rfl⟩⟩; refine ⟨_, rfl, ?_⟩; refine hK.out _ _ ⟨(blk_cell BK983.out 0).trans rfl, (blk_cell BK983.out 1).trans rfl, (blk_cell BK983.out 2).trans rfl, ((HB.out.cell (World.block_lt_of_cell? w _ hw987_0)).trans hw987_0), ((HB.out.cell (World.block_lt_of_cell? w _ hw987_1)).trans hw987_1), ((HB.out.cell (World.block_lt_of_cell? w _ hw987_2)).trans hw987_2)⟩ (fun hHeld => ?_); clear hK K; refine norm_ (a' := ?_) ?_ ?_
               rotate_left
               ·show Act.put _ (some 17) _ = _
                simp only [Act.put, List.setIfInBounds_toArray, List.set_cons_zero, List.set_cons_succ, i64_w, i32_w]
                rfl
               refine pu_ 3 18 (tf 4 32) rfl rfl ?_; refine pu_ 4 19 (tf 5 31) rfl rfl ?_; refine pu_ 5 20 (tf 6 30) rfl rfl ?_; refine ta6_ 6 21 (tf 7 29) rfl rfl ?_; refine one_ (i := 7) (N := some 22) (tf 8 28) rfl rfl (one_of HT_.out (by kernel_rfl)) (by decide) (fun K hK => ?_); refine goes_ Try.func109 (by kernel_rfl) rfl #[.string ((rd_T111 l0 x10_1).f1)] (by rfl) rfl rfl (by (try simp only [List.map_toArray, List.map_cons, List.map_nil]); first | done | rfl | (simp only [List.length_drop, List.length_take]; rfl)) ?_; with_reducible refine (impl_IsWord.calls k1 ((rd_T111 l0 x10_1).f1) true _ A11.out).mono ?_
               rintro e w' ⟨rfl, ⟨nd, rfl⟩⟩; refine ⟨_, rfl, ?_⟩; refine hK.out _ _ ⟨(blk_cell BK983.out 0).trans rfl, (blk_cell BK983.out 1).trans rfl, (blk_cell BK983.out 2).trans rfl, ((HB.out.cell (World.block_lt_of_cell? w _ hw987_0)).trans hw987_0), ((HB.out.cell (World.block_lt_of_cell? w _ hw987_1)).trans hw987_1), ((HB.out.cell (World.block_lt_of_cell? w _ hw987_2)).trans hw987_2)⟩ (fun hHeld => ?_); clear hK K; refine norm_ (a' := ?_) ?_ ?_
               rotate_left
               ·show Act.put _ (some 22) _ = _
                simp only [Act.put, List.setIfInBounds_toArray, List.set_cons_zero, List.set_cons_succ, i64_w, i32_w]
                rfl
               refine pu_ 8 23 (tf 9 27) rfl rfl ?_; refine pu_ 9 24 (tf 10 26) rfl rfl ?_; refine pu_ 10 25 (tf 11 25) rfl rfl ?_; refine pu_ 11 26 (tf 12 24) rfl rfl ?_; refine ta6_ 12 27 (tf 13 23) rfl rfl ?_; refine one_ (i := 13) (N := some 28) (tf 14 22) rfl rfl (one_of HT_.out (by kernel_rfl)) (by decide) (fun K hK => ?_); refine goes_ Try.func69 (by kernel_rfl) rfl #[.int .i64 ((rd_T111 l0 x10_1).f2), .int .i64 (-1000), .int .i64 1000] (by rfl) rfl rfl (by (try simp only [List.map_toArray, List.map_cons, List.map_nil]); first | done | rfl | (simp only [List.length_drop, List.length_take]; rfl)) ?_; with_reducible refine (impl_within.calls ((rd_T111 l0 x10_1).f2) (-1000) 1000 true _ A13.out).mono ?_
               rintro e w' ⟨rfl, ⟨nd, rfl⟩⟩; refine ⟨_, rfl, ?_⟩; refine hK.out _ _ ⟨(blk_cell BK983.out 0).trans rfl, (blk_cell BK983.out 1).trans rfl, (blk_cell BK983.out 2).trans rfl, ((HB.out.cell (World.block_lt_of_cell? w _ hw987_0)).trans hw987_0), ((HB.out.cell (World.block_lt_of_cell? w _ hw987_1)).trans hw987_1), ((HB.out.cell (World.block_lt_of_cell? w _ hw987_2)).trans hw987_2)⟩ (fun hHeld => ?_); clear hK K; refine norm_ (a' := ?_) ?_ ?_
               rotate_left
               ·show Act.put _ (some 28) _ = _
                simp only [Act.put, List.setIfInBounds_toArray, List.set_cons_zero, List.set_cons_succ, i64_w, i32_w]
                rfl
               refine pu_ 14 29 (tf 15 21) rfl rfl ?_; refine pu_ 15 30 (tf 16 20) rfl rfl ?_; refine pu_ 16 31 (tf 17 19) rfl rfl ?_; refine pu_ 17 32 (tf 18 18) rfl rfl ?_; refine ta6_ 18 33 (tf 19 17) rfl rfl ?_; refine pu_ 19 34 (tf 20 16) rfl rfl ?_; refine pu_ 20 35 (tf 21 15) rfl rfl ?_; refine pu_ 21 36 (tf 22 14) rfl rfl ?_; refine pu_ 22 37 (tf 23 13) rfl rfl ?_; refine pu_ 23 38 (tf 24 12) rfl rfl ?_; refine pu_ 24 39 (tf 25 11) rfl rfl ?_; refine pu_ 25 40 (tf 26 10) rfl rfl ?_; refine pu_ 26 41 (tf 27 9) rfl rfl ?_; refine pu_ 27 42 (tf 28 8) rfl rfl ?_; refine pu_ 28 43 (tf 29 7) rfl rfl ?_; refine pu_ 29 44 (tf 30 6) rfl rfl ?_; refine pu_ 31 46 #[true, true, true, true, true, true, true, true, true, true, true, true, true, true, true, true, true, true, true, true, true, true, true, true, true, true, true, true, true, true, false, true, false, false, false, false] rfl rfl ?_; refine ta6_ 30 45 (tf 32 4) rfl rfl ?_; refine ta6_ 32 47 (tf 33 3) rfl rfl ?_; refine pu_ 33 48 (tf 34 2) rfl rfl ?_; refine pu_ 34 49 (tf 35 1) rfl rfl ?_; refine pu_ 35 50 (tf 36 0) rfl rfl ?_; refine done_ (done_of HT_.out (by kernel_rfl)) ?_; (try go_wp2)
               go_meet
               case rel => exact ⟨_, (decide (((rd_T111 l0 (ji19)).f0) > ((rd_T111 l0 x10_1).f0))), (by first | rfl | (simp; done) | (simp only [← hji19] <;> (first | rfl | simp)) | (simp [*]; done)), H', ⟨by have := HK1.out; first | omega | exact Nat.le_refl _⟩, ⟨vk BK983.out⟩, ⟨vb HB.out⟩⟩
              ·rw [if_neg c21] at H; exact absurd H (by simp)
             ·rw [if_neg c20] at H; exact absurd H (by simp)
            ·rw [if_neg c18] at H; have c18b0 := decide_eq_false c18; clear c18; have H' := ak H; clear H; (try go_wp2)
             have n0_ : Aside0 ((((w7.setCell ⟨gb983, 0, none⟩ (.int .i64 ((rd_T111 l0 x10_1).f0))).setCell ⟨gb983, 1, none⟩ (.string ((rd_T111 l0 x10_1).f1))).setCell ⟨gb983, 2, none⟩ (.int .i64 ((rd_T111 l0 x10_1).f2))).heap[gb983]? = some (.cells #[.int .i64 ((rd_T111 l0 x10_1).f0), .string ((rd_T111 l0 x10_1).f1), .int .i64 ((rd_T111 l0 x10_1).f2)] 111 (0, 0))) := ⟨by (with_reducible repeat (first | refine blk_drewN ?_ _ | refine blk_drew ?_ | refine blk_alloc ?_ _)); refine blk_put (cs := #[.int .i64 ((rd_T111 l0 x10_1).f0), .string ((rd_T111 l0 x10_1).f1), .int .i64 0]) ?_ 2 _ rfl; (with_reducible repeat (first | refine blk_drewN ?_ _ | refine blk_drew ?_ | refine blk_alloc ?_ _)); refine blk_put (cs := #[.int .i64 ((rd_T111 l0 x10_1).f0), .string (⟨#[]⟩ : ByteArray), .int .i64 0]) ?_ 1 _ rfl; (with_reducible repeat (first | refine blk_drewN ?_ _ | refine blk_drew ?_ | refine blk_alloc ?_ _)); refine blk_put (cs := #[.int .i64 0, .string (⟨#[]⟩ : ByteArray), .int .i64 0]) ?_ 0 _ rfl; (with_reducible repeat (first | refine blk_drewN ?_ _ | refine blk_drew ?_ | refine blk_alloc ?_ _)); exact BK983.out⟩; have n1_ : Aside0 (Below w.heap.size w (((w7.setCell ⟨gb983, 0, none⟩ (.int .i64 ((rd_T111 l0 x10_1).f0))).setCell ⟨gb983, 1, none⟩ (.string ((rd_T111 l0 x10_1).f1))).setCell ⟨gb983, 2, none⟩ (.int .i64 ((rd_T111 l0 x10_1).f2)))) := ⟨vb HB.out⟩; (try clear BK983)
             (try clear HB)
             generalize (((w7.setCell ⟨gb983, 0, none⟩ (.int .i64 ((rd_T111 l0 x10_1).f0))).setCell ⟨gb983, 1, none⟩ (.string ((rd_T111 l0 x10_1).f1))).setCell ⟨gb983, 2, none⟩ (.int .i64 ((rd_T111 l0 x10_1).f2))) = w24 at n0_ n1_ ⊢; have BK983 := n0_; have HB := n1_; clear n0_ n1_; replace BK983 := ak (blk_drew BK983.out); replace HB := ak (below_drew1 HB.out); refine start_ (n := 36) (S := fun w' => w'.cell? ⟨gb983, 0, none⟩ = some (.int .i64 ((rd_T111 l0 x10_1).f0)) ∧ w'.cell? ⟨gb983, 1, none⟩ = some (.string ((rd_T111 l0 x10_1).f1)) ∧ w'.cell? ⟨gb983, 2, none⟩ = some (.int .i64 ((rd_T111 l0 x10_1).f2))) (ds := []) (tf 0 36) (by kernel_rfl) rfl rfl (cy3 BK983.out) (fun hHeld => ?_); refine with_tabW impl_AreMoves.tab6 impl_AreMoves.bits6 (fun HT_ HW_ => ?_); generalize w24.drew = w25 at BK983 HB hHeld ⊢; refine pu_ 0 15 (tf 1 35) rfl rfl ?_; refine ta3_ 1 16 (tf 2 34) rfl rfl ?_; refine one_ (i := 2) (N := some 17) (tf 3 33) rfl rfl (one_of HT_.out (by kernel_rfl)) (by decide) (fun K hK => ?_); refine goes_ Try.func94 (by kernel_rfl) rfl #[.int .i64 ((rd_T111 l0 x10_1).f0)] (by rfl) rfl rfl (by (try simp only [List.map_toArray, List.map_cons, List.map_nil]); first | done | rfl | (simp only [List.length_drop, List.length_take]; rfl)) ?_; with_reducible refine (impl_isTime.calls ((rd_T111 l0 x10_1).f0) true _ A9.out).mono ?_
             rintro e w' ⟨rfl, ⟨nd, rfl⟩⟩; refine ⟨_, rfl, ?_⟩; refine hK.out _ _ (cy3 BK983.out) (fun hHeld => ?_); clear hK K; refine norm_ (a' := ?_) ?_ ?_
             rotate_left
             ·show Act.put _ (some 17) _ = _
              simp only [Act.put, List.setIfInBounds_toArray, List.set_cons_zero, List.set_cons_succ, i64_w, i32_w]
              rfl
             refine pu_ 3 18 (tf 4 32) rfl rfl ?_; refine pu_ 4 19 (tf 5 31) rfl rfl ?_; refine pu_ 5 20 (tf 6 30) rfl rfl ?_; refine ta3_ 6 21 (tf 7 29) rfl rfl ?_; refine one_ (i := 7) (N := some 22) (tf 8 28) rfl rfl (one_of HT_.out (by kernel_rfl)) (by decide) (fun K hK => ?_); refine goes_ Try.func109 (by kernel_rfl) rfl #[.string ((rd_T111 l0 x10_1).f1)] (by rfl) rfl rfl (by (try simp only [List.map_toArray, List.map_cons, List.map_nil]); first | done | rfl | (simp only [List.length_drop, List.length_take]; rfl)) ?_; with_reducible refine (impl_IsWord.calls k1 ((rd_T111 l0 x10_1).f1) true _ A11.out).mono ?_
             rintro e w' ⟨rfl, ⟨nd, rfl⟩⟩; refine ⟨_, rfl, ?_⟩; refine hK.out _ _ (cy3 BK983.out) (fun hHeld => ?_); clear hK K; refine norm_ (a' := ?_) ?_ ?_
             rotate_left
             ·show Act.put _ (some 22) _ = _
              simp only [Act.put, List.setIfInBounds_toArray, List.set_cons_zero, List.set_cons_succ, i64_w, i32_w]
              rfl
             refine pu_ 8 23 (tf 9 27) rfl rfl ?_; refine pu_ 9 24 (tf 10 26) rfl rfl ?_; refine pu_ 10 25 (tf 11 25) rfl rfl ?_; refine pu_ 11 26 (tf 12 24) rfl rfl ?_; refine ta3_ 12 27 (tf 13 23) rfl rfl ?_; refine one_ (i := 13) (N := some 28) (tf 14 22) rfl rfl (one_of HT_.out (by kernel_rfl)) (by decide) (fun K hK => ?_); refine goes_ Try.func69 (by kernel_rfl) rfl #[.int .i64 ((rd_T111 l0 x10_1).f2), .int .i64 (-1000), .int .i64 1000] (by rfl) rfl rfl (by (try simp only [List.map_toArray, List.map_cons, List.map_nil]); first | done | rfl | (simp only [List.length_drop, List.length_take]; rfl)) ?_; with_reducible refine (impl_within.calls ((rd_T111 l0 x10_1).f2) (-1000) 1000 true _ A13.out).mono ?_
             rintro e w' ⟨rfl, ⟨nd, rfl⟩⟩; refine ⟨_, rfl, ?_⟩; refine hK.out _ _ (cy3 BK983.out) (fun hHeld => ?_); clear hK K; refine norm_ (a' := ?_) ?_ ?_
             rotate_left
             ·show Act.put _ (some 28) _ = _
              simp only [Act.put, List.setIfInBounds_toArray, List.set_cons_zero, List.set_cons_succ, i64_w, i32_w]
              rfl
             refine pu_ 14 29 (tf 15 21) rfl rfl ?_; refine pu_ 15 30 (tf 16 20) rfl rfl ?_; refine pu_ 16 31 (tf 17 19) rfl rfl ?_; refine pu_ 17 32 (tf 18 18) rfl rfl ?_; refine ta3_ 18 33 (tf 19 17) rfl rfl ?_; refine pu_ 19 34 (tf 20 16) rfl rfl ?_; refine pu_ 20 35 (tf 21 15) rfl rfl ?_; refine pu_ 21 36 (tf 22 14) rfl rfl ?_; refine pu_ 22 37 (tf 23 13) rfl rfl ?_; refine pu_ 23 38 (tf 24 12) rfl rfl ?_; refine pu_ 24 39 (tf 25 11) rfl rfl ?_; refine un_ 25 40 (tf 26 10) rfl rfl ?_; refine un_ 26 41 (tf 27 9) rfl rfl ?_; refine un_ 27 42 (tf 28 8) rfl rfl ?_; refine un_ 28 43 (tf 29 7) rfl rfl ?_; refine un_ 29 44 (tf 30 6) rfl rfl ?_; refine un_ 30 45 (tf 31 5) rfl rfl ?_; refine un_ 31 46 (tf 32 4) rfl rfl ?_; refine un_ 32 47 (tf 33 3) rfl rfl ?_; refine un_ 33 48 (tf 34 2) rfl rfl ?_; refine pu_ 34 49 (tf 35 1) rfl rfl ?_; refine pu_ 35 50 (tf 36 0) rfl rfl ?_; refine done_ (done_of HT_.out (by kernel_rfl)) ?_; (try go_wp2)
             go_meet
             case rel => exact ⟨_, (false), (by first | rfl | (simp; done) | (simp [*]; done)), H', ⟨by have := HK1.out; first | omega | exact Nat.le_refl _⟩, ⟨vk BK983.out⟩, ⟨vb HB.out⟩⟩
          ·replace c14 := Bool.eq_false_iff.mpr c14; subst c14; rw [if_neg nf] at H; have H' := ak H; clear H; (try go_wp2)
           have n0_ : Aside0 ((((w7.setCell ⟨gb983, 0, none⟩ (.int .i64 ((rd_T111 l0 x10_1).f0))).setCell ⟨gb983, 1, none⟩ (.string ((rd_T111 l0 x10_1).f1))).setCell ⟨gb983, 2, none⟩ (.int .i64 ((rd_T111 l0 x10_1).f2))).heap[gb983]? = some (.cells #[.int .i64 ((rd_T111 l0 x10_1).f0), .string ((rd_T111 l0 x10_1).f1), .int .i64 ((rd_T111 l0 x10_1).f2)] 111 (0, 0))) := ⟨by (with_reducible repeat (first | refine blk_drewN ?_ _ | refine blk_drew ?_ | refine blk_alloc ?_ _)); refine blk_put (cs := #[.int .i64 ((rd_T111 l0 x10_1).f0), .string ((rd_T111 l0 x10_1).f1), .int .i64 0]) ?_ 2 _ rfl; (with_reducible repeat (first | refine blk_drewN ?_ _ | refine blk_drew ?_ | refine blk_alloc ?_ _)); refine blk_put (cs := #[.int .i64 ((rd_T111 l0 x10_1).f0), .string (⟨#[]⟩ : ByteArray), .int .i64 0]) ?_ 1 _ rfl; (with_reducible repeat (first | refine blk_drewN ?_ _ | refine blk_drew ?_ | refine blk_alloc ?_ _)); refine blk_put (cs := #[.int .i64 0, .string (⟨#[]⟩ : ByteArray), .int .i64 0]) ?_ 0 _ rfl; (with_reducible repeat (first | refine blk_drewN ?_ _ | refine blk_drew ?_ | refine blk_alloc ?_ _)); exact BK983.out⟩; have n1_ : Aside0 (Below w.heap.size w (((w7.setCell ⟨gb983, 0, none⟩ (.int .i64 ((rd_T111 l0 x10_1).f0))).setCell ⟨gb983, 1, none⟩ (.string ((rd_T111 l0 x10_1).f1))).setCell ⟨gb983, 2, none⟩ (.int .i64 ((rd_T111 l0 x10_1).f2)))) := ⟨vb HB.out⟩; (try clear BK983)
           (try clear HB)
           generalize (((w7.setCell ⟨gb983, 0, none⟩ (.int .i64 ((rd_T111 l0 x10_1).f0))).setCell ⟨gb983, 1, none⟩ (.string ((rd_T111 l0 x10_1).f1))).setCell ⟨gb983, 2, none⟩ (.int .i64 ((rd_T111 l0 x10_1).f2))) = w26 at n0_ n1_ ⊢; have BK983 := n0_; have HB := n1_; clear n0_ n1_; replace BK983 := ak (blk_drew BK983.out); replace HB := ak (below_drew1 HB.out); refine start_ (n := 36) (S := fun w' => w'.cell? ⟨gb983, 0, none⟩ = some (.int .i64 ((rd_T111 l0 x10_1).f0)) ∧ w'.cell? ⟨gb983, 1, none⟩ = some (.string ((rd_T111 l0 x10_1).f1)) ∧ w'.cell? ⟨gb983, 2, none⟩ = some (.int .i64 ((rd_T111 l0 x10_1).f2))) (ds := []) (tf 0 36) (by kernel_rfl) rfl rfl (cy3 BK983.out) (fun hHeld => ?_); refine with_tabW impl_AreMoves.tab6 impl_AreMoves.bits6 (fun HT_ HW_ => ?_); generalize w26.drew = w27 at BK983 HB hHeld ⊢; refine pu_ 0 15 (tf 1 35) rfl rfl ?_; refine ta3_ 1 16 (tf 2 34) rfl rfl ?_; refine one_ (i := 2) (N := some 17) (tf 3 33) rfl rfl (one_of HT_.out (by kernel_rfl)) (by decide) (fun K hK => ?_); refine goes_ Try.func94 (by kernel_rfl) rfl #[.int .i64 ((rd_T111 l0 x10_1).f0)] (by rfl) rfl rfl (by (try simp only [List.map_toArray, List.map_cons, List.map_nil]); first | done | rfl | (simp only [List.length_drop, List.length_take]; rfl)) ?_; with_reducible refine (impl_isTime.calls ((rd_T111 l0 x10_1).f0) true _ A9.out).mono ?_
           rintro e w' ⟨rfl, ⟨nd, rfl⟩⟩; refine ⟨_, rfl, ?_⟩; refine hK.out _ _ (cy3 BK983.out) (fun hHeld => ?_); clear hK K; refine norm_ (a' := ?_) ?_ ?_
           rotate_left
           ·show Act.put _ (some 17) _ = _
            simp only [Act.put, List.setIfInBounds_toArray, List.set_cons_zero, List.set_cons_succ, i64_w, i32_w]
            rfl
           refine pu_ 3 18 (tf 4 32) rfl rfl ?_; refine pu_ 4 19 (tf 5 31) rfl rfl ?_; refine pu_ 5 20 (tf 6 30) rfl rfl ?_; refine ta3_ 6 21 (tf 7 29) rfl rfl ?_; refine one_ (i := 7) (N := some 22) (tf 8 28) rfl rfl (one_of HT_.out (by kernel_rfl)) (by decide) (fun K hK => ?_); refine goes_ Try.func109 (by kernel_rfl) rfl #[.string ((rd_T111 l0 x10_1).f1)] (by rfl) rfl rfl (by (try simp only [List.map_toArray, List.map_cons, List.map_nil]); first | done | rfl | (simp only [List.length_drop, List.length_take]; rfl)) ?_; with_reducible refine (impl_IsWord.calls k1 ((rd_T111 l0 x10_1).f1) true _ A11.out).mono ?_
           rintro e w' ⟨rfl, ⟨nd, rfl⟩⟩; refine ⟨_, rfl, ?_⟩; refine hK.out _ _ (cy3 BK983.out) (fun hHeld => ?_); clear hK K; refine norm_ (a' := ?_) ?_ ?_
           rotate_left
           ·show Act.put _ (some 22) _ = _
            simp only [Act.put, List.setIfInBounds_toArray, List.set_cons_zero, List.set_cons_succ, i64_w, i32_w]
            rfl
           refine pu_ 8 23 (tf 9 27) rfl rfl ?_; refine pu_ 9 24 (tf 10 26) rfl rfl ?_; refine pu_ 10 25 (tf 11 25) rfl rfl ?_; refine pu_ 11 26 (tf 12 24) rfl rfl ?_; refine ta3_ 12 27 (tf 13 23) rfl rfl ?_; refine one_ (i := 13) (N := some 28) (tf 14 22) rfl rfl (one_of HT_.out (by kernel_rfl)) (by decide) (fun K hK => ?_); refine goes_ Try.func69 (by kernel_rfl) rfl #[.int .i64 ((rd_T111 l0 x10_1).f2), .int .i64 (-1000), .int .i64 1000] (by rfl) rfl rfl (by (try simp only [List.map_toArray, List.map_cons, List.map_nil]); first | done | rfl | (simp only [List.length_drop, List.length_take]; rfl)) ?_; with_reducible refine (impl_within.calls ((rd_T111 l0 x10_1).f2) (-1000) 1000 false _ A13.out).mono ?_
           rintro e w' ⟨rfl, ⟨nd, rfl⟩⟩; refine ⟨_, rfl, ?_⟩; refine hK.out _ _ (cy3 BK983.out) (fun hHeld => ?_); clear hK K; refine norm_ (a' := ?_) ?_ ?_
           rotate_left
           ·show Act.put _ (some 28) _ = _
            simp only [Act.put, List.setIfInBounds_toArray, List.set_cons_zero, List.set_cons_succ, i64_w, i32_w]
            rfl
           refine pu_ 14 29 (tf 15 21) rfl rfl ?_; refine pu_ 15 30 (tf 16 20) rfl rfl ?_; refine pu_ 16 31 (tf 17 19) rfl rfl ?_; refine un_ 17 32 (tf 18 18) rfl rfl ?_; refine un_ 18 33 (tf 19 17) rfl rfl ?_; refine un_ 19 34 (tf 20 16) rfl rfl ?_; refine pu_ 20 35 (tf 21 15) rfl rfl ?_; refine pu_ 21 36 (tf 22 14) rfl rfl ?_; refine un_ 22 37 (tf 23 13) rfl rfl ?_; refine un_ 23 38 (tf 24 12) rfl rfl ?_; refine un_ 24 39 (tf 25 11) rfl rfl ?_; refine un_ 25 40 (tf 26 10) rfl rfl ?_; refine un_ 26 41 (tf 27 9) rfl rfl ?_; refine un_ 27 42 (tf 28 8) rfl rfl ?_; refine un_ 28 43 (tf 29 7) rfl rfl ?_; refine un_ 29 44 (tf 30 6) rfl rfl ?_; refine un_ 30 45 (tf 31 5) rfl rfl ?_; refine un_ 31 46 (tf 32 4) rfl rfl ?_; refine un_ 32 47 (tf 33 3) rfl rfl ?_; refine un_ 33 48 (tf 34 2) rfl rfl ?_; refine un_ 34 49 (tf 35 1) rfl rfl ?_; refine pu_ 35 50 (tf 36 0) rfl rfl ?_; refine done_ (done_of HT_.out (by kernel_rfl)) ?_; (try go_wp2)
           go_meet
           case rel => exact ⟨_, (true), (by first | rfl | (simp; done) | (simp [*]; done)), H', ⟨by have := HK1.out; first | omega | exact Nat.le_refl _⟩, ⟨vk BK983.out⟩, ⟨vb HB.out⟩⟩
         ·replace c12 := Bool.eq_false_iff.mpr c12; subst c12; rw [if_neg nf] at H; have H' := ak H; clear H; (try go_wp2)
          have n0_ : Aside0 ((((w7.setCell ⟨gb983, 0, none⟩ (.int .i64 ((rd_T111 l0 x10_1).f0))).setCell ⟨gb983, 1, none⟩ (.string ((rd_T111 l0 x10_1).f1))).setCell ⟨gb983, 2, none⟩ (.int .i64 ((rd_T111 l0 x10_1).f2))).heap[gb983]? = some (.cells #[.int .i64 ((rd_T111 l0 x10_1).f0), .string ((rd_T111 l0 x10_1).f1), .int .i64 ((rd_T111 l0 x10_1).f2)] 111 (0, 0))) := ⟨by (with_reducible repeat (first | refine blk_drewN ?_ _ | refine blk_drew ?_ | refine blk_alloc ?_ _)); refine blk_put (cs := #[.int .i64 ((rd_T111 l0 x10_1).f0), .string ((rd_T111 l0 x10_1).f1), .int .i64 0]) ?_ 2 _ rfl; (with_reducible repeat (first | refine blk_drewN ?_ _ | refine blk_drew ?_ | refine blk_alloc ?_ _)); refine blk_put (cs := #[.int .i64 ((rd_T111 l0 x10_1).f0), .string (⟨#[]⟩ : ByteArray), .int .i64 0]) ?_ 1 _ rfl; (with_reducible repeat (first | refine blk_drewN ?_ _ | refine blk_drew ?_ | refine blk_alloc ?_ _)); refine blk_put (cs := #[.int .i64 0, .string (⟨#[]⟩ : ByteArray), .int .i64 0]) ?_ 0 _ rfl; (with_reducible repeat (first | refine blk_drewN ?_ _ | refine blk_drew ?_ | refine blk_alloc ?_ _)); exact BK983.out⟩; have n1_ : Aside0 (Below w.heap.size w (((w7.setCell ⟨gb983, 0, none⟩ (.int .i64 ((rd_T111 l0 x10_1).f0))).setCell ⟨gb983, 1, none⟩ (.string ((rd_T111 l0 x10_1).f1))).setCell ⟨gb983, 2, none⟩ (.int .i64 ((rd_T111 l0 x10_1).f2)))) := ⟨vb HB.out⟩; (try clear BK983)
          (try clear HB)
          generalize (((w7.setCell ⟨gb983, 0, none⟩ (.int .i64 ((rd_T111 l0 x10_1).f0))).setCell ⟨gb983, 1, none⟩ (.string ((rd_T111 l0 x10_1).f1))).setCell ⟨gb983, 2, none⟩ (.int .i64 ((rd_T111 l0 x10_1).f2))) = w28 at n0_ n1_ ⊢; have BK983 := n0_; have HB := n1_; clear n0_ n1_; replace BK983 := ak (blk_drew BK983.out); replace HB := ak (below_drew1 HB.out); refine start_ (n := 36) (S := fun w' => w'.cell? ⟨gb983, 0, none⟩ = some (.int .i64 ((rd_T111 l0 x10_1).f0)) ∧ w'.cell? ⟨gb983, 1, none⟩ = some (.string ((rd_T111 l0 x10_1).f1)) ∧ w'.cell? ⟨gb983, 2, none⟩ = some (.int .i64 ((rd_T111 l0 x10_1).f2))) (ds := []) (tf 0 36) (by kernel_rfl) rfl rfl (cy3 BK983.out) (fun hHeld => ?_); refine with_tabW impl_AreMoves.tab6 impl_AreMoves.bits6 (fun HT_ HW_ => ?_); generalize w28.drew = w29 at BK983 HB hHeld ⊢; refine pu_ 0 15 (tf 1 35) rfl rfl ?_; refine ta3_ 1 16 (tf 2 34) rfl rfl ?_; refine one_ (i := 2) (N := some 17) (tf 3 33) rfl rfl (one_of HT_.out (by kernel_rfl)) (by decide) (fun K hK => ?_); refine goes_ Try.func94 (by kernel_rfl) rfl #[.int .i64 ((rd_T111 l0 x10_1).f0)] (by rfl) rfl rfl (by (try simp only [List.map_toArray, List.map_cons, List.map_nil]); first | done | rfl | (simp only [List.length_drop, List.length_take]; rfl)) ?_; with_reducible refine (impl_isTime.calls ((rd_T111 l0 x10_1).f0) true _ A9.out).mono ?_
          rintro e w' ⟨rfl, ⟨nd, rfl⟩⟩; refine ⟨_, rfl, ?_⟩; refine hK.out _ _ (cy3 BK983.out) (fun hHeld => ?_); clear hK K; refine norm_ (a' := ?_) ?_ ?_
          rotate_left
          ·show Act.put _ (some 17) _ = _
           simp only [Act.put, List.setIfInBounds_toArray, List.set_cons_zero, List.set_cons_succ, i64_w, i32_w]
           rfl
          refine pu_ 3 18 (tf 4 32) rfl rfl ?_; refine pu_ 4 19 (tf 5 31) rfl rfl ?_; refine pu_ 5 20 (tf 6 30) rfl rfl ?_; refine ta3_ 6 21 (tf 7 29) rfl rfl ?_; refine one_ (i := 7) (N := some 22) (tf 8 28) rfl rfl (one_of HT_.out (by kernel_rfl)) (by decide) (fun K hK => ?_); refine goes_ Try.func109 (by kernel_rfl) rfl #[.string ((rd_T111 l0 x10_1).f1)] (by rfl) rfl rfl (by (try simp only [List.map_toArray, List.map_cons, List.map_nil]); first | done | rfl | (simp only [List.length_drop, List.length_take]; rfl)) ?_; with_reducible refine (impl_IsWord.calls k1 ((rd_T111 l0 x10_1).f1) false _ A11.out).mono ?_
          rintro e w' ⟨rfl, ⟨nd, rfl⟩⟩; refine ⟨_, rfl, ?_⟩; refine hK.out _ _ (cy3 BK983.out) (fun hHeld => ?_); clear hK K; refine norm_ (a' := ?_) ?_ ?_
          rotate_left
          ·show Act.put _ (some 22) _ = _
           simp only [Act.put, List.setIfInBounds_toArray, List.set_cons_zero, List.set_cons_succ, i64_w, i32_w]
           rfl
          refine pu_ 8 23 (tf 9 27) rfl rfl ?_; refine pu_ 9 24 (tf 10 26) rfl rfl ?_; refine pu_ 10 25 (tf 11 25) rfl rfl ?_; refine un_ 11 26 (tf 12 24) rfl rfl ?_; refine un_ 12 27 (tf 13 23) rfl rfl ?_; refine un_ 13 28 (tf 14 22) rfl rfl ?_; refine un_ 14 29 (tf 15 21) rfl rfl ?_; refine pu_ 15 30 (tf 16 20) rfl rfl ?_; refine pu_ 16 31 (tf 17 19) rfl rfl ?_; refine un_ 17 32 (tf 18 18) rfl rfl ?_; refine un_ 18 33 (tf 19 17) rfl rfl ?_; refine un_ 19 34 (tf 20 16) rfl rfl ?_; refine pu_ 20 35 (tf 21 15) rfl rfl ?_; refine pu_ 21 36 (tf 22 14) rfl rfl ?_; refine un_ 22 37 (tf 23 13) rfl rfl ?_; refine un_ 23 38 (tf 24 12) rfl rfl ?_; refine un_ 24 39 (tf 25 11) rfl rfl ?_; refine un_ 25 40 (tf 26 10) rfl rfl ?_; refine un_ 26 41 (tf 27 9) rfl rfl ?_; refine un_ 27 42 (tf 28 8) rfl rfl ?_; refine un_ 28 43 (tf 29 7) rfl rfl ?_; refine un_ 29 44 (tf 30 6) rfl rfl ?_; refine un_ 30 45 (tf 31 5) rfl rfl ?_; refine un_ 31 46 (tf 32 4) rfl rfl ?_; refine un_ 32 47 (tf 33 3) rfl rfl ?_; refine un_ 33 48 (tf 34 2) rfl rfl ?_; refine un_ 34 49 (tf 35 1) rfl rfl ?_; refine pu_ 35 50 (tf 36 0) rfl rfl ?_; refine done_ (done_of HT_.out (by kernel_rfl)) ?_; (try go_wp2)
          go_meet
          case rel => exact ⟨_, (true), (by first | rfl | (simp; done) | (simp [*]; done)), H', ⟨by have := HK1.out; first | omega | exact Nat.le_refl _⟩, ⟨vk BK983.out⟩, ⟨vb HB.out⟩⟩
        ·replace c10 := Bool.eq_false_iff.mpr c10; subst c10; rw [if_neg nf] at H; have H' := ak H; clear H; (try go_wp2)
         have n0_ : Aside0 ((((w7.setCell ⟨gb983, 0, none⟩ (.int .i64 ((rd_T111 l0 x10_1).f0))).setCell ⟨gb983, 1, none⟩ (.string ((rd_T111 l0 x10_1).f1))).setCell ⟨gb983, 2, none⟩ (.int .i64 ((rd_T111 l0 x10_1).f2))).heap[gb983]? = some (.cells #[.int .i64 ((rd_T111 l0 x10_1).f0), .string ((rd_T111 l0 x10_1).f1), .int .i64 ((rd_T111 l0 x10_1).f2)] 111 (0, 0))) := ⟨by (with_reducible repeat (first | refine blk_drewN ?_ _ | refine blk_drew ?_ | refine blk_alloc ?_ _)); refine blk_put (cs := #[.int .i64 ((rd_T111 l0 x10_1).f0), .string ((rd_T111 l0 x10_1).f1), .int .i64 0]) ?_ 2 _ rfl; (with_reducible repeat (first | refine blk_drewN ?_ _ | refine blk_drew ?_ | refine blk_alloc ?_ _)); refine blk_put (cs := #[.int .i64 ((rd_T111 l0 x10_1).f0), .string (⟨#[]⟩ : ByteArray), .int .i64 0]) ?_ 1 _ rfl; (with_reducible repeat (first | refine blk_drewN ?_ _ | refine blk_drew ?_ | refine blk_alloc ?_ _)); refine blk_put (cs := #[.int .i64 0, .string (⟨#[]⟩ : ByteArray), .int .i64 0]) ?_ 0 _ rfl; (with_reducible repeat (first | refine blk_drewN ?_ _ | refine blk_drew ?_ | refine blk_alloc ?_ _)); exact BK983.out⟩; have n1_ : Aside0 (Below w.heap.size w (((w7.setCell ⟨gb983, 0, none⟩ (.int .i64 ((rd_T111 l0 x10_1).f0))).setCell ⟨gb983, 1, none⟩ (.string ((rd_T111 l0 x10_1).f1))).setCell ⟨gb983, 2, none⟩ (.int .i64 ((rd_T111 l0 x10_1).f2)))) := ⟨vb HB.out⟩; (try clear BK983)
         (try clear HB)
         generalize (((w7.setCell ⟨gb983, 0, none⟩ (.int .i64 ((rd_T111 l0 x10_1).f0))).setCell ⟨gb983, 1, none⟩ (.string ((rd_T111 l0 x10_1).f1))).setCell ⟨gb983, 2, none⟩ (.int .i64 ((rd_T111 l0 x10_1).f2))) = w30 at n0_ n1_ ⊢; have BK983 := n0_; have HB := n1_; clear n0_ n1_; replace BK983 := ak (blk_drew BK983.out); replace HB := ak (below_drew1 HB.out); refine start_ (n := 36) (S := fun w' => w'.cell? ⟨gb983, 0, none⟩ = some (.int .i64 ((rd_T111 l0 x10_1).f0)) ∧ w'.cell? ⟨gb983, 1, none⟩ = some (.string ((rd_T111 l0 x10_1).f1)) ∧ w'.cell? ⟨gb983, 2, none⟩ = some (.int .i64 ((rd_T111 l0 x10_1).f2))) (ds := []) (tf 0 36) (by kernel_rfl) rfl rfl (cy3 BK983.out) (fun hHeld => ?_); refine with_tabW impl_AreMoves.tab6 impl_AreMoves.bits6 (fun HT_ HW_ => ?_); generalize w30.drew = w31 at BK983 HB hHeld ⊢; refine pu_ 0 15 (tf 1 35) rfl rfl ?_; refine ta3_ 1 16 (tf 2 34) rfl rfl ?_; refine one_ (i := 2) (N := some 17) (tf 3 33) rfl rfl (one_of HT_.out (by kernel_rfl)) (by decide) (fun K hK => ?_); refine goes_ Try.func94 (by kernel_rfl) rfl #[.int .i64 ((rd_T111 l0 x10_1).f0)] (by rfl) rfl rfl (by (try simp only [List.map_toArray, List.map_cons, List.map_nil]); first | done | rfl | (simp only [List.length_drop, List.length_take]; rfl)) ?_; with_reducible refine (impl_isTime.calls ((rd_T111 l0 x10_1).f0) false _ A9.out).mono ?_
         rintro e w' ⟨rfl, ⟨nd, rfl⟩⟩; refine ⟨_, rfl, ?_⟩; refine hK.out _ _ (cy3 BK983.out) (fun hHeld => ?_); clear hK K; refine norm_ (a' := ?_) ?_ ?_
         rotate_left
         ·show Act.put _ (some 17) _ = _
          simp only [Act.put, List.setIfInBounds_toArray, List.set_cons_zero, List.set_cons_succ, i64_w, i32_w]
          rfl
         refine pu_ 3 18 (tf 4 32) rfl rfl ?_; refine pu_ 4 19 (tf 5 31) rfl rfl ?_; refine un_ 5 20 (tf 6 30) rfl rfl ?_; refine un_ 6 21 (tf 7 29) rfl rfl ?_; refine un_ 7 22 (tf 8 28) rfl rfl ?_; refine un_ 8 23 (tf 9 27) rfl rfl ?_; refine pu_ 9 24 (tf 10 26) rfl rfl ?_; refine pu_ 10 25 (tf 11 25) rfl rfl ?_; refine un_ 11 26 (tf 12 24) rfl rfl ?_; refine un_ 12 27 (tf 13 23) rfl rfl ?_; refine un_ 13 28 (tf 14 22) rfl rfl ?_; refine un_ 14 29 (tf 15 21) rfl rfl ?_; refine pu_ 15 30 (tf 16 20) rfl rfl ?_; refine pu_ 16 31 (tf 17 19) rfl rfl ?_; refine un_ 17 32 (tf 18 18) rfl rfl ?_; refine un_ 18 33 (tf 19 17) rfl rfl ?_; refine un_ 19 34 (tf 20 16) rfl rfl ?_; refine pu_ 20 35 (tf 21 15) rfl rfl ?_; refine pu_ 21 36 (tf 22 14) rfl rfl ?_; refine un_ 22 37 (tf 23 13) rfl rfl ?_; refine un_ 23 38 (tf 24 12) rfl rfl ?_; refine un_ 24 39 (tf 25 11) rfl rfl ?_; refine un_ 25 40 (tf 26 10) rfl rfl ?_; refine un_ 26 41 (tf 27 9) rfl rfl ?_; refine un_ 27 42 (tf 28 8) rfl rfl ?_; refine un_ 28 43 (tf 29 7) rfl rfl ?_; refine un_ 29 44 (tf 30 6) rfl rfl ?_; refine un_ 30 45 (tf 31 5) rfl rfl ?_; refine un_ 31 46 (tf 32 4) rfl rfl ?_; refine un_ 32 47 (tf 33 3) rfl rfl ?_; refine un_ 33 48 (tf 34 2) rfl rfl ?_; refine un_ 34 49 (tf 35 1) rfl rfl ?_; refine pu_ 35 50 (tf 36 0) rfl rfl ?_; refine done_ (done_of HT_.out (by kernel_rfl)) ?_; (try go_wp2)
         go_meet
         case rel => exact ⟨_, (true), (by first | rfl | (simp; done) | (simp [*]; done)), H', ⟨by have := HK1.out; first | omega | exact Nat.le_refl _⟩, ⟨vk BK983.out⟩, ⟨vb HB.out⟩⟩
       case rest =>
        clear HC6; (try clear c1); (try clear p2); (try clear c9); (try clear c10); (try clear c12); obtain ⟨kq, x50_5, rfl, HA, HJ5, BK983, HB⟩ := hcut
        cases kq with
        | zero => exact absurd HA.out (by simp [impl_AreMoves.j1])
        | succ kj5 =>
         have H := HA.out; clear HA; simp only [impl_AreMoves.j1] at H
         by_cases c32 : x50_5 = true
         ·subst c32; rw [if_pos rfl] at H; obtain rfl := Option.some.inj H; go_wp2
          go_ret
          exact ⟨ew, vb HB.out⟩
         ·replace c32 := Bool.eq_false_iff.mpr c32; subst c32; rw [if_neg nf] at H; obtain ⟨ji33, hji33⟩ : ∃ j_ : Int, (wrap64 (x10_1 + 1)) = j_ := ⟨_, rfl⟩; replace H : (if 0 ≤ (ji33) then (if (ji33) ≤ (l0.length : Int) then ((impl_peopleIn.f kj5 (l0.take ((ji33) : Int).toNat) ((rd_T111 l0 x10_1).f1) ((rd_T111 l0 x10_1).f0)).bind fun t992 => (if t992 < 0 then (some false) else (impl_AreMoves.l0 kj5 l0 l0 (l0.length : Int) ji33))) else (none)) else (none)) = some r := by first | (rw [hji33] at H; exact H) | (simp only [hji33] at H ⊢; exact H)
          have hji33w : (IntKind.i64.wrap (x10_1 + 1)) = ji33 := (i64_w _).trans hji33; by_cases c34 : 0 ≤ (ji33)
          ·rw [if_pos c34] at H; have c34b0 := eq_true c34; have c34b1 : decide (0 ≤ (ji33)) = true := decide_eq_true c34; clear c34; by_cases c35 : (ji33) ≤ (l0.length : Int)
           ·rw [if_pos c35] at H; have c35b0 := eq_true c35; have c35b1 : decide ((ji33) ≤ (l0.length : Int)) = true := decide_eq_true c35; clear c35; obtain ⟨y988, hy988⟩ := gen_ ((l0.take ((ji33) : Int).toNat : List (S111))); rw [← hy988] at H; have Ny988 := ak hy988; clear hy988; obtain ⟨t992, A36, H⟩ := bnk H; by_cases c37 : t992 < 0
            ·rw [if_pos c37] at H; have c37b0 := decide_eq_true c37; clear c37; obtain rfl := Option.some.inj H; (try go_wp2)
             replace BK983 := ak (blk_drew BK983.out); replace HB := ak (below_drew1 HB.out); have q39 : ((ji33) : Int) ≤ ((l0.length : Int) : Int) := od; obtain ⟨i039, hi039, _, hsz39, _⟩ := info_parts info111; have hroom39 : l0.length ≤ c0 := HC0.out; have hC39 : Kd.C k111 _ (some ad982) l0.length l0 := HR0.out; have hcut39 := cut_to (P := Try.prog) 73 111 .i64 Try.underlying73 hi039 (some ad982) l0.length c0 (ji33) (od) q39 hroom39; have hr39 := Kd.C_take (m := ((ji33) : Int).toNat) hC39 (by omega); have hy39 : y988.length = ((ji33) : Int).toNat := (by rw [Ny988.out, List.length_take]; omega); rw [← Ny988.out] at hr39; rw [← hy39] at hcut39; have HR991 := ak hr39; have HC991 := ak (show y988.length ≤ c0 from by omega); clear hr39 hC39 hroom39 hi039 hsz39; have KY39 := ak hy39; clear hy39; replace q39 := eq_true q39; refine start_ (n := 10) (S := fun w' => w'.cell? ⟨gb983, 0, none⟩ = some (.int .i64 ((rd_T111 l0 x10_1).f0)) ∧ w'.cell? ⟨gb983, 1, none⟩ = some (.string ((rd_T111 l0 x10_1).f1)) ∧ w'.cell? ⟨gb983, 2, none⟩ = some (.int .i64 ((rd_T111 l0 x10_1).f2))) (ds := []) (tf 0 10) (by kernel_rfl) rfl rfl (cy3 BK983.out) (fun hHeld => ?_); refine with_tabW impl_AreMoves.tab8 impl_AreMoves.bits8 (fun HT_ HW_ => ?_); generalize wc.drew = w38 at BK983 HB HR991 hHeld ⊢; refine pu_ 0 51 (tf 1 9) rfl rfl ?_; refine pu_ 1 52 (tf 2 8) rfl rfl ?_; refine pu_ 2 53 (tf 3 7) rfl rfl ?_; refine pu_ 3 54 (tf 4 6) rfl rfl ?_; refine pu_ 4 55 (tf 5 5) rfl rfl ?_
             refine pu_ 6 57 #[true, true, true, true, true, false, true, false, false, false] rfl rfl ?_; refine ta3_ 5 56 (tf 7 3) rfl rfl ?_; refine ta3_ 7 58 (tf 8 2) rfl rfl ?_; refine one_ (i := 8) (N := some 59) (tf 9 1) rfl rfl (one_of HT_.out (by kernel_rfl)) (by decide) (fun K hK => ?_); refine goes_ Try.func110 (by kernel_rfl) rfl #[.slice (some ad982) y988.length c0, .string ((rd_T111 l0 x10_1).f1), .int .i64 ((rd_T111 l0 x10_1).f0)] (by rfl) rfl rfl (by (try simp only [List.map_toArray, List.map_cons, List.map_nil]); first | done | rfl | (simp only [List.length_drop, List.length_take]; rfl)) ?_; with_reducible refine (impl_peopleIn.calls kj5 _ _ y988 ((rd_T111 l0 x10_1).f1) ((rd_T111 l0 x10_1).f0) t992 _ ?side1 ?side2 A36.out).mono ?_
             (case side1 => exact vd HR991.out HB.out)
             (case side2 => exact HC991.out)
             rintro e w40 ⟨rfl, hb⟩; refine ⟨_, rfl, ?_⟩; replace BK983 := kb BK983 hb; replace HB := bs HB hb; (try clear hb)
             (try clear hb2)
             (try clear hk)
             (try clear hi)
             refine hK.out _ _ (cy3 BK983.out) (fun hHeld => ?_); clear hK K; refine norm_ (a' := ?_) ?_ ?_
             rotate_left
             ·show Act.put _ (some 59) _ = _
              simp only [Act.put, List.setIfInBounds_toArray, List.set_cons_zero, List.set_cons_succ, i64_w, i32_w]
              rfl
             refine pu_ 9 60 (tf 10 0) rfl rfl ?_; refine done_ (done_of HT_.out (by kernel_rfl)) ?_; (try go_wp2)
             go_ret
             exact ⟨by first | rfl | (simp [errW_none, errW_some] <;> rfl) | (simp only [← hji33]; first | rfl | (simp [errW_none, errW_some] <;> rfl)) | (simp [*, errW_none, errW_some] <;> rfl), vb HB.out⟩
            ·rw [if_neg c37] at H; have c37b0 := decide_eq_false c37; clear c37; have H' := ak H; clear H; (try go_wp2)
             replace BK983 := ak (blk_drew BK983.out); replace HB := ak (below_drew1 HB.out); have q42 : ((ji33) : Int) ≤ ((l0.length : Int) : Int) := od; obtain ⟨i042, hi042, _, hsz42, _⟩ := info_parts info111; have hroom42 : l0.length ≤ c0 := HC0.out; have hC42 : Kd.C k111 _ (some ad982) l0.length l0 := HR0.out; have hcut42 := cut_to (P := Try.prog) 73 111 .i64 Try.underlying73 hi042 (some ad982) l0.length c0 (ji33) (od) q42 hroom42; have hr42 := Kd.C_take (m := ((ji33) : Int).toNat) hC42 (by omega); have hy42 : y988.length = ((ji33) : Int).toNat := (by rw [Ny988.out, List.length_take]; omega); rw [← Ny988.out] at hr42; rw [← hy42] at hcut42; have HR991 := ak hr42; have HC991 := ak (show y988.length ≤ c0 from by omega); clear hr42 hC42 hroom42 hi042 hsz42; have KY42 := ak hy42; clear hy42; replace q42 := eq_true q42; refine start_ (n := 10) (S := fun w' => w'.cell? ⟨gb983, 0, none⟩ = some (.int .i64 ((rd_T111 l0 x10_1).f0)) ∧ w'.cell? ⟨gb983, 1, none⟩ = some (.string ((rd_T111 l0 x10_1).f1)) ∧ w'.cell? ⟨gb983, 2, none⟩ = some (.int .i64 ((rd_T111 l0 x10_1).f2))) (ds := []) (tf 0 10) (by kernel_rfl) rfl rfl (cy3 BK983.out) (fun hHeld => ?_); refine with_tabW impl_AreMoves.tab8 impl_AreMoves.bits8 (fun HT_ HW_ => ?_); generalize wc.drew = w41 at BK983 HB HR991 hHeld ⊢; refine pu_ 0 51 (tf 1 9) rfl rfl ?_; refine pu_ 1 52 (tf 2 8) rfl rfl ?_; refine pu_ 2 53 (tf 3 7) rfl rfl ?_; refine pu_ 3 54 (tf 4 6) rfl rfl ?_; refine pu_ 4 55 (tf 5 5) rfl rfl ?_
             refine pu_ 6 57 #[true, true, true, true, true, false, true, false, false, false] rfl rfl ?_; refine ta3_ 5 56 (tf 7 3) rfl rfl ?_; refine ta3_ 7 58 (tf 8 2) rfl rfl ?_; refine one_ (i := 8) (N := some 59) (tf 9 1) rfl rfl (one_of HT_.out (by kernel_rfl)) (by decide) (fun K hK => ?_); refine goes_ Try.func110 (by kernel_rfl) rfl #[.slice (some ad982) y988.length c0, .string ((rd_T111 l0 x10_1).f1), .int .i64 ((rd_T111 l0 x10_1).f0)] (by rfl) rfl rfl (by (try simp only [List.map_toArray, List.map_cons, List.map_nil]); first | done | rfl | (simp only [List.length_drop, List.length_take]; rfl)) ?_; with_reducible refine (impl_peopleIn.calls kj5 _ _ y988 ((rd_T111 l0 x10_1).f1) ((rd_T111 l0 x10_1).f0) t992 _ ?side1 ?side2 A36.out).mono ?_
             (case side1 => exact vd HR991.out HB.out)
             (case side2 => exact HC991.out)
             rintro e w43 ⟨rfl, hb⟩; refine ⟨_, rfl, ?_⟩; replace BK983 := kb BK983 hb; replace HB := bs HB hb; (try clear hb)
             (try clear hb2)
             (try clear hk)
             (try clear hi)
             refine hK.out _ _ (cy3 BK983.out) (fun hHeld => ?_); clear hK K; refine norm_ (a' := ?_) ?_ ?_
             rotate_left
             ·show Act.put _ (some 59) _ = _
              simp only [Act.put, List.setIfInBounds_toArray, List.set_cons_zero, List.set_cons_succ, i64_w, i32_w]
              rfl
             refine pu_ 9 60 (tf 10 0) rfl rfl ?_; refine done_ (done_of HT_.out (by kernel_rfl)) ?_; (try go_wp2)
             go_roundg kj5
             case measure => have := HK1.out; have := HJ5.out; omega
             case rel => exact ⟨(ji33), (by first | rfl | (simp; done) | (simp only [← hji33] <;> (first | rfl | simp)) | (simp [*]; done)), H', ⟨by have := HK1.out; have := HJ5.out; omega⟩, ⟨vb HB.out⟩⟩
           ·rw [if_neg c35] at H; exact absurd H (by simp)
          ·rw [if_neg c34] at H; exact absurd H (by simp)
      ·rw [if_neg c5] at H; exact absurd H (by simp)
     ·rw [if_neg c4] at H; exact absurd H (by simp)
    ·rw [if_neg c3] at H; have c3b0 := decide_eq_false c3; clear c3; obtain rfl := Option.some.inj H; go_wp2
     go_ret
     exact ⟨ew, vb HB.out⟩


/-! ### impl_areZones: function 93 -/
def impl_areZones.l0 : Nat → List ByteArray → Int → Int → Option (Bool)
 | 0, _, _, _ => none
 | k + 1, x8, x9, x10 => if x10 < x9 then (if 0 ≤ x10 then (if x10 < (x8.length : Int) then ((impl_IsWord.f k (rdOf ByteArray.empty x8 x10)).bind fun t994 => (if t994 = true then (impl_areZones.l0 k x8 x9 (wrap64 (x10 + 1))) else (some false))) else (none)) else (none)) else (some true)
def impl_areZones.f (k : Nat) (l0 : List ByteArray) : Option (Bool) := if (l0.length : Int) > 60 then (some false) else (impl_areZones.l0 k l0 (l0.length : Int) 0)
theorem impl_areZones.mono_l : ∀ k, (∀ y0 y1 y2, LeO (impl_areZones.l0 k y0 y1 y2) (impl_areZones.l0 (k + 1) y0 y1 y2))
 | 0 => fun _ _ _ r h => by simp [impl_areZones.l0] at h
 | k + 1 => by
  have ih0 := impl_areZones.mono_l k
  ·intro y0 y1 y2; unfold impl_areZones.l0
   repeat' first | (with_reducible first | exact ih0 _ _ _ | exact impl_IsWord.mono _ _ | exact LeO.refl _ | exact LeO.none _ | refine LeO.ite ?_ ?_ | refine LeO.bind ?_ (fun _ => ?_)) | exact ih0 _ _ _ | exact impl_IsWord.mono _ _ | exact LeO.none _ | refine LeO.ite ?_ ?_ | refine LeO.bind ?_ (fun _ => ?_)
theorem impl_areZones.mono : ∀ a0 k, LeO (impl_areZones.f k a0) (impl_areZones.f (k + 1) a0) := by
 intro a0 k; have ih0 := impl_areZones.mono_l k; unfold impl_areZones.f
 repeat' first | (with_reducible first | exact ih0 _ _ _ | exact impl_IsWord.mono _ _ | exact LeO.refl _ | exact LeO.none _ | refine LeO.ite ?_ ?_ | refine LeO.bind ?_ (fun _ => ?_)) | exact ih0 _ _ _ | exact impl_IsWord.mono _ _ | exact LeO.none _ | refine LeO.ite ?_ ?_ | refine LeO.bind ?_ (fun _ => ?_)
set_option maxHeartbeats 8000000 in
set_option maxRecDepth 100000 in
theorem impl_areZones.calls (k : Nat) (A0 : Option Addr) (c0 : Nat) (l0 : List ByteArray) (r : Bool) (w : World) (hr0 : Kd.C Kd.string w A0 l0.length l0) (hc0 : l0.length ≤ c0) (h : impl_areZones.f k l0 = some r) :
  Calls Try.prog 93 #[.slice A0 l0.length c0] w fun e w' => e = .returned (.bool r) ∧ Drawn0 w w' := by
 have HR0 := ak hr0; have HC0 := ak hc0; clear hr0 hc0; unfold impl_areZones.f at h; have H := h; clear h; by_cases c2 : (l0.length : Int) > 60
 ·rw [if_pos c2] at H; have c2b0 := decide_eq_true c2; have c2b1 : decide (60 < l0.length) = true := decide_eq_true (by omega); clear c2; obtain rfl := Option.some.inj H; go_enter Try.func93, Try.ntmps93; go_wp2
  go_ret
  exact ⟨by first | rfl | (simp; done) | (simp [*]; done), by repeat (first | exact Drawn0.refl _ | apply Drawn0.step)⟩
 ·rw [if_neg c2] at H; have c2b0 := decide_eq_false c2; have c2b1 : decide (60 < l0.length) = false := decide_eq_false (by omega); clear c2; have H' := ak H; clear H; go_enter Try.func93, Try.ntmps93; go_wp2
  go_loopg [10] k (fun kq v10 w' => ∃ (x10_1 : Int), v10 = .int .i64 x10_1 ∧ Aside0 (impl_areZones.l0 kq l0 (l0.length : Int) x10_1 = some r) ∧ Aside0 (kq ≤ k) ∧ Drawn0 w w')
  case atStart => exact ⟨(0), (by first | rfl | (simp; done) | (simp [*]; done)), H', ⟨Nat.le_refl _⟩, by repeat (first | exact Drawn0.refl _ | apply Drawn0.step)⟩
  case round =>
   clear H'; (try clear c2); (try clear c2b0); (try clear c2b1); (try clear p2); obtain ⟨x10_1, rfl, HA, HK1, ⟨m1, rfl⟩⟩ := hrel
   cases gk with
   | zero => exact absurd HA.out (by simp [impl_areZones.l0])
   | succ k1 =>
    have H := HA.out; clear HA; simp only [impl_areZones.l0] at H
    by_cases c3 : x10_1 < (l0.length : Int)
    ·rw [if_pos c3] at H; have c3b0 := decide_eq_true c3; clear c3; by_cases c4 : 0 ≤ x10_1
     ·rw [if_pos c4] at H; have c4b0 := decide_eq_true c4; clear c4; by_cases c5 : x10_1 < (l0.length : Int)
      ·rw [if_pos c5] at H; have c5b0 := decide_eq_true c5; clear c5; obtain ⟨t994, A6, H⟩ := bnk H; by_cases c7 : t994 = true
       ·subst c7; rw [if_pos rfl] at H; have H' := ak H; clear H; have p993 : 0 ≤ (x10_1 : Int) := od; have q993 : x10_1 < (l0.length : Int) := od; obtain ⟨ad993, e993, hx993_0⟩ := Kd.at_string HR0.out x10_1 p993 q993
        cases e993; replace p993 := eq_true p993; replace q993 := eq_true q993; go_wp2_with (first | ((with_reducible refine at_fn (f := 109) rfl ?_); refine gl (some 15) Try.func109 #[.string (rdOf ByteArray.empty l0 x10_1)] ?_; (with_reducible refine (impl_IsWord.calls k1 (rdOf ByteArray.empty l0 x10_1) _ _ A6.out).mono ?_); rintro e w' ⟨rfl, ⟨nd, rfl⟩⟩; refine ⟨_, rfl, ?_⟩))
        go_roundg k1
        case measure => have := HK1.out; omega
        case rel => exact ⟨(wrap64 (x10_1 + 1)), (by first | rfl | (simp; done) | (simp [*]; done)), H', ⟨by have := HK1.out; omega⟩, by repeat (first | exact Drawn0.refl _ | apply Drawn0.step)⟩
       ·replace c7 := Bool.eq_false_iff.mpr c7; subst c7; rw [if_neg nf] at H; obtain rfl := Option.some.inj H; have p993 : 0 ≤ (x10_1 : Int) := od; have q993 : x10_1 < (l0.length : Int) := od; obtain ⟨ad993, e993, hx993_0⟩ := Kd.at_string HR0.out x10_1 p993 q993
        cases e993; replace p993 := eq_true p993; replace q993 := eq_true q993; go_wp2_with (first | ((with_reducible refine at_fn (f := 109) rfl ?_); refine gl (some 15) Try.func109 #[.string (rdOf ByteArray.empty l0 x10_1)] ?_; (with_reducible refine (impl_IsWord.calls k1 (rdOf ByteArray.empty l0 x10_1) _ _ A6.out).mono ?_); rintro e w' ⟨rfl, ⟨nd, rfl⟩⟩; refine ⟨_, rfl, ?_⟩))
        go_ret
        exact ⟨by first | rfl | (simp; done) | (simp [*]; done), by repeat (first | exact Drawn0.refl _ | apply Drawn0.step)⟩
      ·rw [if_neg c5] at H; exact absurd H (by simp)
     ·rw [if_neg c4] at H; exact absurd H (by simp)
    ·rw [if_neg c3] at H; have c3b0 := decide_eq_false c3; clear c3; obtain rfl := Option.some.inj H; go_wp2
     go_ret
     exact ⟨by first | rfl | (simp; done) | (simp [*]; done), by repeat (first | exact Drawn0.refl _ | apply Drawn0.step)⟩


/-! ### impl_areFired: function 87 -/
def impl_areFired.f (k : Nat) (l0 : List Int) (l1 : List (S33)) (l2 : List (S111)) (l3 : List ByteArray) : Option (Bool) := (impl_areCueTimes.f k l0).bind fun t995 => (if t995 = true then ((impl_AreSignals.f k l1).bind fun t996 => (if t996 = true then ((impl_AreMoves.f k l2).bind fun t997 => (if t997 = true then ((impl_areZones.f k l3).bind fun t998 => (some t998)) else (some false))) else (some false))) else (some false))
theorem impl_areFired.mono : ∀ a0 a1 a2 a3 k, LeO (impl_areFired.f k a0 a1 a2 a3) (impl_areFired.f (k + 1) a0 a1 a2 a3) := by
 intro a0 a1 a2 a3 k; unfold impl_areFired.f
 repeat' first | (with_reducible first | exact impl_AreMoves.mono _ _ | exact impl_AreSignals.mono _ _ | exact impl_areCueTimes.mono _ _ | exact impl_areZones.mono _ _ | exact LeO.refl _ | exact LeO.none _ | refine LeO.ite ?_ ?_ | refine LeO.bind ?_ (fun _ => ?_)) | exact impl_AreMoves.mono _ _ | exact impl_AreSignals.mono _ _ | exact impl_areCueTimes.mono _ _ | exact impl_areZones.mono _ _ | exact LeO.none _ | refine LeO.ite ?_ ?_ | refine LeO.bind ?_ (fun _ => ?_)
set_option maxHeartbeats 8000000 in
set_option maxRecDepth 100000 in
theorem impl_areFired.calls (k : Nat) (A0 : Option Addr) (c0 : Nat) (l0 : List Int) (A1 : Option Addr) (c1 : Nat) (l1 : List (S33)) (A2 : Option Addr) (c2 : Nat) (l2 : List (S111)) (A3 : Option Addr) (c3 : Nat) (l3 : List ByteArray) (r : Bool) (w : World) (hr0 : Kd.C (Kd.int .i64) w A0 l0.length l0) (hc0 : l0.length ≤ c0) (hr1 : Kd.C k33 w A1 l1.length l1) (hc1 : l1.length ≤ c1) (hr2 : Kd.C k111 w A2 l2.length l2) (hc2 : l2.length ≤ c2) (hr3 : Kd.C Kd.string w A3 l3.length l3) (hc3 : l3.length ≤ c3) (h : impl_areFired.f k l0 l1 l2 l3 = some r) :
  Calls Try.prog 87 #[.slice A0 l0.length c0, .slice A1 l1.length c1, .slice A2 l2.length c2, .slice A3 l3.length c3] w fun e w' => e = .returned (.bool r) ∧ Below w.heap.size w w' := by
 have HR0 := ak hr0; have HC0 := ak hc0; clear hr0 hc0; have HR1 := ak hr1; have HC1 := ak hc1; clear hr1 hc1; have HR2 := ak hr2; have HC2 := ak hc2; clear hr2 hc2; have HR3 := ak hr3; have HC3 := ak hc3; clear hr3 hc3; have HB := ak (Below.refl w.heap.size w); unfold impl_areFired.f at h; have H := h; clear h; obtain ⟨t995, A5, H⟩ := bnk H; by_cases c6 : t995 = true
 subst c6; rw [if_pos rfl] at H; obtain ⟨t996, A7, H⟩ := bnk H; by_cases c8 : t996 = true
 subst c8; rw [if_pos rfl] at H; obtain ⟨t997, A9, H⟩ := bnk H; by_cases c10 : t997 = true
 subst c10; rw [if_pos rfl] at H; obtain ⟨t998, A11, H⟩ := bnk H; obtain rfl := Option.some.inj H; rotate_left
 replace c10 := Bool.eq_false_iff.mpr c10; subst c10; rw [if_neg nf] at H; obtain rfl := Option.some.inj H; rotate_left
 replace c8 := Bool.eq_false_iff.mpr c8; subst c8; rw [if_neg nf] at H; obtain rfl := Option.some.inj H; rotate_left
 replace c6 := Bool.eq_false_iff.mpr c6; subst c6; rw [if_neg nf] at H; obtain rfl := Option.some.inj H; rotate_left
 all_goals
  go_enter Try.func87, Try.ntmps87; go_wp2_with (first | ((with_reducible refine at_fn (f := 82) rfl ?_); refine gl (some 10) Try.func82 #[.slice A0 l0.length c0] ?_; (with_reducible refine (impl_areCueTimes.calls k _ _ l0 _ _ ?side1 HC0.out A5.out).mono ?_); (case side1 => exact vc HR0.out); rintro e w' ⟨rfl, ⟨nd, rfl⟩⟩; refine ⟨_, rfl, ?_⟩) | (go_at_call 17; (with_reducible refine (impl_AreSignals.calls k _ _ l1 _ _ ?side1 HC1.out A7.out).mono ?_); (case side1 => exact vc HR1.out); rintro e w9 ⟨rfl, hb⟩; replace HB := bs HB hb; (try clear hb); (try clear hb2); (try clear hk); (try clear hi)) | (go_at_call 92; (with_reducible refine (impl_AreMoves.calls k _ _ l2 _ _ ?side1 HC2.out A9.out).mono ?_); (case side1 => exact vd HR2.out HB.out); rintro e w9 ⟨rfl, hb⟩; replace HB := bs HB hb; (try clear hb); (try clear hb2); (try clear hk); (try clear hi)) | (go_at_call 93; (with_reducible refine (impl_areZones.calls k _ _ l3 t998 _ ?side1 HC3.out A11.out).mono ?_); (case side1 => exact vd HR3.out HB.out); rintro e w' ⟨rfl, ⟨nd, rfl⟩⟩))
  go_ret
  exact ⟨ew, vb HB.out⟩


end Go.Proofs.Ytjgbncpbenmjoaa.Pall
