/- Go functions of the program, each as a Lean function, and the proof that each call comes to what the Lean function tells; no condition beyond those that stand there. -/
import Derived.Test.YtllhghcepbkpeaaF00
import Derived.Test.YtllhghcepbkpeaaF02
import Derived.Test.YtllhghcepbkpeaaSq
import Derived.Test.YtllhghcepbkpeaaWLast
import Derived.Test.YtllhghcepbkpeaaWTab
import Derived.Test.YtllhghcepbkpeaaSpare
import Derived.Test.YtllhghcepbkpeaaCm
import Derived.Test.YtllhghcepbkpeaaCm3
namespace Go.Proofs.Ytllhghcepbkpeaa.Pall
open Go.RowKit Go.Proofs.YtllhghcepbkpeaaW.PrintWords Go.Proofs.YtllhghcepbkpeaaW.PrintLast
set_option linter.unusedVariables false
set_option linter.unusedSimpArgs false

/-! ### spec_l01IsTime: function 62 -/
def spec_l01IsTime.f (a0 : Int) : Option (Bool) := (spec_l01In.f a0 0 10000000).bind fun t104 => (some t104)
set_option maxHeartbeats 8000000 in
set_option maxRecDepth 100000 in
theorem spec_l01IsTime.calls (a0 : Int) (r : Bool) (w : World) (h : spec_l01IsTime.f a0 = some r) :
  Calls Try.prog 62 #[.int .i64 a0] w fun e w' => e = .returned (.bool r) ∧ Drawn0 w w' := by
 unfold spec_l01IsTime.f at h; have H := h; clear h; obtain ⟨t104, A2, H⟩ := bnk H; obtain rfl := Option.some.inj H; go_enter Try.func62, Try.ntmps62; go_wp2_with (first | ((with_reducible refine at_fn (f := 64) rfl ?_); refine gl (some 4) Try.func64 #[.int .i64 a0, .int .i64 0, .int .i64 10000000] ?_; (with_reducible refine (spec_l01In.calls a0 0 10000000 t104 _ A2.out).mono ?_); rintro e w' ⟨rfl, ⟨nd, rfl⟩⟩; refine ⟨_, rfl, ?_⟩))
 go_ret
 exact ⟨by first | rfl | (simp; done) | (simp [*]; done), by repeat (first | exact Drawn0.refl _ | apply Drawn0.step)⟩


/-! ### spec_IsWord: function 63 -/
def spec_IsWord.l0 : Nat → ByteArray → Int → Option (Bool)
 | 0, _, _ => none
 | k + 1, x0, x3 => if x3 < (x0.size : Int) then (if 0 ≤ x3 then (if (bt x0 x3) < 97 then (some false) else (if (bt x0 x3) > 122 then (some false) else (spec_IsWord.l0 k x0 (wrap64 (x3 + 1))))) else (none)) else ((spec_l01In.f (x0.size : Int) 1 16).bind fun t105 => (some t105))
def spec_IsWord.f (k : Nat) (a0 : ByteArray) : Option (Bool) := spec_IsWord.l0 k a0 0
theorem spec_IsWord.mono_l : ∀ k, (∀ y0 y1, LeO (spec_IsWord.l0 k y0 y1) (spec_IsWord.l0 (k + 1) y0 y1))
 | 0 => fun _ _ r h => by simp [spec_IsWord.l0] at h
 | k + 1 => by
  have ih0 := spec_IsWord.mono_l k
  ·intro y0 y1; unfold spec_IsWord.l0
   repeat' first | (with_reducible first | exact ih0 _ _ | exact LeO.refl _ | exact LeO.none _ | refine LeO.ite ?_ ?_ | refine LeO.bind ?_ (fun _ => ?_)) | exact ih0 _ _ | exact LeO.none _ | refine LeO.ite ?_ ?_ | refine LeO.bind ?_ (fun _ => ?_)
theorem spec_IsWord.mono : ∀ a0 k, LeO (spec_IsWord.f k a0) (spec_IsWord.f (k + 1) a0) := by
 intro a0 k; have ih0 := spec_IsWord.mono_l k; unfold spec_IsWord.f
 repeat' first | (with_reducible first | exact ih0 _ _ | exact LeO.refl _ | exact LeO.none _ | refine LeO.ite ?_ ?_ | refine LeO.bind ?_ (fun _ => ?_)) | exact ih0 _ _ | exact LeO.none _ | refine LeO.ite ?_ ?_ | refine LeO.bind ?_ (fun _ => ?_)
set_option maxHeartbeats 8000000 in
set_option maxRecDepth 100000 in
theorem spec_IsWord.calls (k : Nat) (a0 : ByteArray) (r : Bool) (w : World) (h : spec_IsWord.f k a0 = some r) :
  Calls Try.prog 63 #[.string a0] w fun e w' => e = .returned (.bool r) ∧ Drawn0 w w' := by
 unfold spec_IsWord.f at h; have H := h; clear h; have H' := ak H; clear H; go_enter Try.func63, Try.ntmps63; go_wp2
 go_loopg [3] k (fun kq v3 w' => ∃ (x3_1 : Int), v3 = .int .i64 x3_1 ∧ Aside0 (spec_IsWord.l0 kq a0 x3_1 = some r) ∧ Aside0 (kq ≤ k) ∧ Drawn0 w w')
 case atStart => exact ⟨(0), (by first | rfl | (simp; done) | (simp [*]; done)), H', ⟨Nat.le_refl _⟩, by repeat (first | exact Drawn0.refl _ | apply Drawn0.step)⟩
 case round =>
  clear H'; obtain ⟨x3_1, rfl, HA, HK1, ⟨m1, rfl⟩⟩ := hrel
  cases gk with
  | zero => exact absurd HA.out (by simp [spec_IsWord.l0])
  | succ k1 =>
   have H := HA.out; clear HA; simp only [spec_IsWord.l0] at H
   by_cases c2 : x3_1 < (a0.size : Int)
   ·rw [if_pos c2] at H; have c2b0 := decide_eq_true c2; clear c2; by_cases c3 : 0 ≤ x3_1
    ·rw [if_pos c3] at H; have c3b0 := decide_eq_true c3; clear c3; by_cases c5 : (bt a0 x3_1) < 97
     ·rw [if_pos c5] at H; have c5b0 := decide_eq_true c5; clear c5; obtain rfl := Option.some.inj H; have p4 : 0 ≤ (x3_1 : Int) := od; have q4 : x3_1 < (a0.size : Int) := od; have hx4 := bt_at a0 x3_1; replace p4 := eq_true p4; replace q4 := eq_true q4; go_wp2
      go_ret
      exact ⟨by first | rfl | (simp; done) | (simp [*]; done), by repeat (first | exact Drawn0.refl _ | apply Drawn0.step)⟩
     ·rw [if_neg c5] at H; have c5b0 := decide_eq_false c5; clear c5; by_cases c7 : (bt a0 x3_1) > 122
      ·rw [if_pos c7] at H; have c7b0 := decide_eq_true c7; clear c7; obtain rfl := Option.some.inj H; have p4 : 0 ≤ (x3_1 : Int) := od; have q4 : x3_1 < (a0.size : Int) := od; have hx4 := bt_at a0 x3_1; replace p4 := eq_true p4; replace q4 := eq_true q4; have p6 : 0 ≤ (x3_1 : Int) := od; have q6 : x3_1 < (a0.size : Int) := od; have hx6 := bt_at a0 x3_1; replace p6 := eq_true p6; replace q6 := eq_true q6; go_wp2
       go_ret
       exact ⟨by first | rfl | (simp; done) | (simp [*]; done), by repeat (first | exact Drawn0.refl _ | apply Drawn0.step)⟩
      ·rw [if_neg c7] at H; have c7b0 := decide_eq_false c7; clear c7; have H' := ak H; clear H; have p4 : 0 ≤ (x3_1 : Int) := od; have q4 : x3_1 < (a0.size : Int) := od; have hx4 := bt_at a0 x3_1; replace p4 := eq_true p4; replace q4 := eq_true q4; have p6 : 0 ≤ (x3_1 : Int) := od; have q6 : x3_1 < (a0.size : Int) := od; have hx6 := bt_at a0 x3_1; replace p6 := eq_true p6; replace q6 := eq_true q6; go_wp2
       go_roundg k1
       case measure => have := HK1.out; omega
       case rel => exact ⟨(wrap64 (x3_1 + 1)), (by first | rfl | (simp; done) | (simp [*]; done)), H', ⟨by have := HK1.out; omega⟩, by repeat (first | exact Drawn0.refl _ | apply Drawn0.step)⟩
    ·rw [if_neg c3] at H; exact absurd H (by simp)
   ·rw [if_neg c2] at H; have c2b0 := decide_eq_false c2; clear c2; obtain ⟨t105, A8, H⟩ := bnk H; obtain rfl := Option.some.inj H; go_wp2_with (first | ((with_reducible refine at_fn (f := 64) rfl ?_); refine gl (some 22) Try.func64 #[.int .i64 (a0.size : Int), .int .i64 1, .int .i64 16] ?_; (with_reducible refine (spec_l01In.calls (a0.size : Int) 1 16 t105 _ A8.out).mono ?_); rintro e w' ⟨rfl, ⟨nd, rfl⟩⟩; refine ⟨_, rfl, ?_⟩))
    go_ret
    exact ⟨by first | rfl | (simp; done) | (simp [*]; done), by repeat (first | exact Drawn0.refl _ | apply Drawn0.step)⟩


/-! ### spec_l20People: function 65 -/
def spec_l20People.l0 : Nat → List (S42) → ByteArray → Int → Int → Int → Option (Int)
 | 0, _, _, _, _, _ => none
 | k + 1, x0, x1, x2, x7, x8 => if x8 < x2 then (if 0 ≤ x8 then (if x8 < (x0.length : Int) then (if ((rd_T42 x0 x8).f1).toList = x1.toList then (spec_l20People.l0 k x0 x1 x2 (wrap64 (x7 + ((rd_T42 x0 x8).f2))) (wrap64 (x8 + 1))) else (spec_l20People.l0 k x0 x1 x2 x7 (wrap64 (x8 + 1)))) else (none)) else (none)) else (some x7)
def spec_l20People.f (k : Nat) (l0 : List (S42)) (a1 : ByteArray) (a2 : Int) : Option (Int) := spec_l20People.l0 k l0 a1 a2 0 0
theorem spec_l20People.mono_l : ∀ k, (∀ y0 y1 y2 y3 y4, LeO (spec_l20People.l0 k y0 y1 y2 y3 y4) (spec_l20People.l0 (k + 1) y0 y1 y2 y3 y4))
 | 0 => fun _ _ _ _ _ r h => by simp [spec_l20People.l0] at h
 | k + 1 => by
  have ih0 := spec_l20People.mono_l k
  ·intro y0 y1 y2 y3 y4; unfold spec_l20People.l0
   repeat' first | (with_reducible first | exact ih0 _ _ _ _ _ | exact LeO.refl _ | exact LeO.none _ | refine LeO.ite ?_ ?_ | refine LeO.bind ?_ (fun _ => ?_)) | exact ih0 _ _ _ _ _ | exact LeO.none _ | refine LeO.ite ?_ ?_ | refine LeO.bind ?_ (fun _ => ?_)
theorem spec_l20People.mono : ∀ a0 a1 a2 k, LeO (spec_l20People.f k a0 a1 a2) (spec_l20People.f (k + 1) a0 a1 a2) := by
 intro a0 a1 a2 k; have ih0 := spec_l20People.mono_l k; unfold spec_l20People.f
 repeat' first | (with_reducible first | exact ih0 _ _ _ _ _ | exact LeO.refl _ | exact LeO.none _ | refine LeO.ite ?_ ?_ | refine LeO.bind ?_ (fun _ => ?_)) | exact ih0 _ _ _ _ _ | exact LeO.none _ | refine LeO.ite ?_ ?_ | refine LeO.bind ?_ (fun _ => ?_)
set_option maxHeartbeats 8000000 in
set_option maxRecDepth 100000 in
theorem spec_l20People.calls (k : Nat) (A0 : Option Addr) (c0 : Nat) (l0 : List (S42)) (a1 : ByteArray) (a2 : Int) (r : Int) (w : World) (hr0 : Kd.C k42 w A0 l0.length l0) (hc0 : l0.length ≤ c0) (h : spec_l20People.f k l0 a1 a2 = some r) :
  Calls Try.prog 65 #[.slice A0 l0.length c0, .string a1, .int .i64 a2] w fun e w' => e = .returned (.int .i64 r) ∧ Drawn0 w w' := by
 have HR0 := ak hr0; have HC0 := ak hc0; clear hr0 hc0; unfold spec_l20People.f at h; have H := h; clear h; have H' := ak H; clear H; go_enter Try.func65, Try.ntmps65; go_wp2
 go_loopg [7, 8] k (fun kq v7 v8 w' => ∃ (x7_1 : Int) (x8_1 : Int), v7 = .int .i64 x7_1 ∧ v8 = .int .i64 x8_1 ∧ Aside0 (spec_l20People.l0 kq l0 a1 a2 x7_1 x8_1 = some r) ∧ Aside0 (kq ≤ k) ∧ Drawn0 w w')
 case atStart => exact ⟨(0), (0), (by first | rfl | (simp; done) | (simp [*]; done)), (by first | rfl | (simp; done) | (simp [*]; done)), H', ⟨Nat.le_refl _⟩, by repeat (first | exact Drawn0.refl _ | apply Drawn0.step)⟩
 case round =>
  clear H'; (try clear p2); obtain ⟨x7_1, x8_1, rfl, rfl, HA, HK1, ⟨m1, rfl⟩⟩ := hrel
  cases gk with
  | zero => exact absurd HA.out (by simp [spec_l20People.l0])
  | succ k1 =>
   have H := HA.out; clear HA; simp only [spec_l20People.l0] at H
   by_cases c4 : x8_1 < a2
   ·rw [if_pos c4] at H; have c4b0 := decide_eq_true c4; clear c4; by_cases c5 : 0 ≤ x8_1
    ·rw [if_pos c5] at H; have c5b0 := decide_eq_true c5; clear c5; by_cases c6 : x8_1 < (l0.length : Int)
     ·rw [if_pos c6] at H; have c6b0 := decide_eq_true c6; clear c6; by_cases c7 : ((rd_T42 l0 x8_1).f1).toList = a1.toList
      ·rw [if_pos c7] at H; have c7b0 : (((rd_T42 l0 x8_1).f1).toList == a1.toList) = true := beq_iff_eq.mpr c7; have c7b1 : (((rd_T42 l0 x8_1).f1).toList != a1.toList) = false := bne_eq_false_iff_eq.mpr c7; clear c7; have H' := ak H; clear H; have p106 : 0 ≤ (x8_1 : Int) := od; have q106 : x8_1 < (l0.length : Int) := od; obtain ⟨ad106, e106, hx106_0, hx106_1, hx106_2⟩ := at_T42 HR0.out x8_1 p106 q106
       cases e106; replace p106 := eq_true p106; replace q106 := eq_true q106; have p107 : 0 ≤ (x8_1 : Int) := od; have q107 : x8_1 < (l0.length : Int) := od; obtain ⟨ad107, e107, hx107_0, hx107_1, hx107_2⟩ := at_T42 HR0.out x8_1 p107 q107; obtain rfl : ad106 = ad107 := (by injection e107); replace p107 := eq_true p107; replace q107 := eq_true q107; go_wp2
       go_roundg k1
       case measure => have := HK1.out; omega
       case rel => exact ⟨(wrap64 (x7_1 + ((rd_T42 l0 x8_1).f2))), (wrap64 (x8_1 + 1)), (by first | rfl | (simp; done) | (simp [*]; done)), (by first | rfl | (simp; done) | (simp [*]; done)), H', ⟨by have := HK1.out; omega⟩, by repeat (first | exact Drawn0.refl _ | apply Drawn0.step)⟩
      ·rw [if_neg c7] at H; have c7b0 : (((rd_T42 l0 x8_1).f1).toList == a1.toList) = false := beq_eq_false_iff_ne.mpr c7; have c7b1 : (((rd_T42 l0 x8_1).f1).toList != a1.toList) = true := bne_iff_ne.mpr c7; have H' := ak H; clear H; have p106 : 0 ≤ (x8_1 : Int) := od; have q106 : x8_1 < (l0.length : Int) := od; obtain ⟨ad106, e106, hx106_0, hx106_1, hx106_2⟩ := at_T42 HR0.out x8_1 p106 q106
       cases e106; replace p106 := eq_true p106; replace q106 := eq_true q106; go_wp2
       go_roundg k1
       case measure => have := HK1.out; omega
       case rel => exact ⟨(x7_1), (wrap64 (x8_1 + 1)), (by first | rfl | (simp; done) | (simp [*]; done)), (by first | rfl | (simp; done) | (simp [*]; done)), H', ⟨by have := HK1.out; omega⟩, by repeat (first | exact Drawn0.refl _ | apply Drawn0.step)⟩
     ·rw [if_neg c6] at H; exact absurd H (by simp)
    ·rw [if_neg c5] at H; exact absurd H (by simp)
   ·rw [if_neg c4] at H; have c4b0 := decide_eq_false c4; clear c4; obtain rfl := Option.some.inj H; go_wp2
    go_ret
    exact ⟨by first | rfl | (simp; done) | (simp [*]; done), by repeat (first | exact Drawn0.refl _ | apply Drawn0.step)⟩


/-! ### spec_AreMoves: function 16 -/
def spec_AreMoves.l0 : Nat → List (S42) → Int → Option (Bool)
 | 0, _, _ => none
 | k + 1, x0, x3 => if x3 < (x0.length : Int) then (if 0 ≤ x3 then ((spec_l01IsTime.f ((rd_T42 x0 x3).f0)).bind fun t110 => (if t110 = true then ((spec_IsWord.f k ((rd_T42 x0 x3).f1)).bind fun t111 => (if t111 = true then ((spec_l01In.f ((rd_T42 x0 x3).f2) (-1000) 1000).bind fun t112 => (if t112 = true then (if ((rd_T42 x0 x3).f2) = 0 then (some false) else (if x3 > 0 then (if 0 ≤ (wrap64 (x3 - 1)) then (if (wrap64 (x3 - 1)) < (x0.length : Int) then (if ((rd_T42 x0 (wrap64 (x3 - 1))).f0) > ((rd_T42 x0 x3).f0) then (some false) else ((spec_l20People.f k x0 ((rd_T42 x0 x3).f1) (wrap64 (x3 + 1))).bind fun t114 => (if t114 < 0 then (some false) else (spec_AreMoves.l0 k x0 (wrap64 (x3 + 1)))))) else (none)) else (none)) else ((spec_l20People.f k x0 ((rd_T42 x0 x3).f1) (wrap64 (x3 + 1))).bind fun t115 => (if t115 < 0 then (some false) else (spec_AreMoves.l0 k x0 (wrap64 (x3 + 1))))))) else (some false))) else (some false))) else (some false))) else (none)) else (some (decide ((x0.length : Int) ≤ 40)))
def spec_AreMoves.f (k : Nat) (l0 : List (S42)) : Option (Bool) := spec_AreMoves.l0 k l0 0
theorem spec_AreMoves.mono_l : ∀ k, (∀ y0 y1, LeO (spec_AreMoves.l0 k y0 y1) (spec_AreMoves.l0 (k + 1) y0 y1))
 | 0 => fun _ _ r h => by simp [spec_AreMoves.l0] at h
 | k + 1 => by
  have ih0 := spec_AreMoves.mono_l k
  ·intro y0 y1; unfold spec_AreMoves.l0
   repeat' first | (with_reducible first | exact ih0 _ _ | exact spec_IsWord.mono _ _ | exact spec_l20People.mono _ _ _ _ | exact LeO.refl _ | exact LeO.none _ | refine LeO.ite ?_ ?_ | refine LeO.bind ?_ (fun _ => ?_)) | exact ih0 _ _ | exact spec_IsWord.mono _ _ | exact spec_l20People.mono _ _ _ _ | exact LeO.none _ | refine LeO.ite ?_ ?_ | refine LeO.bind ?_ (fun _ => ?_)
theorem spec_AreMoves.mono : ∀ a0 k, LeO (spec_AreMoves.f k a0) (spec_AreMoves.f (k + 1) a0) := by
 intro a0 k; have ih0 := spec_AreMoves.mono_l k; unfold spec_AreMoves.f
 repeat' first | (with_reducible first | exact ih0 _ _ | exact spec_IsWord.mono _ _ | exact spec_l20People.mono _ _ _ _ | exact LeO.refl _ | exact LeO.none _ | refine LeO.ite ?_ ?_ | refine LeO.bind ?_ (fun _ => ?_)) | exact ih0 _ _ | exact spec_IsWord.mono _ _ | exact spec_l20People.mono _ _ _ _ | exact LeO.none _ | refine LeO.ite ?_ ?_ | refine LeO.bind ?_ (fun _ => ?_)
def spec_AreMoves.T5 : Bool × List (List Nat × List Nat) := (true, [([], []), ([0], [0]), ([1], [1]), ([2], [2]), ([3, 2], [3]), ([4], [4]), ([5, 4], [4, 5]), ([6, 4, 4], [4, 6]), ([7, 4], [4, 7]), ([4, 8], [4, 8]), ([9, 7], [9]), ([10], [10]), ([11, 10], [10, 11]), ([12, 10, 10], [10, 12]), ([13, 10], [10, 13]), ([10, 14], [10, 14]), ([15, 13], [15]), ([16], [16]), ([17, 16], [16, 17]), ([18, 16], [16, 18]), ([16, 19], [16, 19]), ([20, 16], [20]), ([21], [21]), ([22, 21], [21, 22]), ([23, 21, 21], [21, 23]), ([24], [24]), ([24], [24]), ([26, 24], [24, 26]), ([25, 27, 24], [24, 25, 27]), ([28, 24], [24, 28]), ([29, 24], [24, 29]), ([24], [24]), ([31, 24], [24, 31]), ([30, 32, 24], [24, 30, 32]), ([24, 33, 21], [21, 24, 33]), ([21, 34], [21, 34]), ([35, 24], [35]), ([36], [36]), ([36], [36]), ([38, 36], [36, 38]), ([36], [36]), ([40, 36], [36, 40]), ([37, 39, 41, 36, 36], [36, 37, 39, 41]), ([42, 36], [36, 42]), ([36, 43], [36, 43])])
def spec_AreMoves.B5 : List Nat := [0, 1, 3, 7, 15, 31, 63, 127, 255, 511, 1023, 2047, 4095, 8191, 16383, 32767, 65535, 131071, 262143, 524287, 1048575, 2097151, 4194303, 8388607, 16777215, 33554431, 33554431, 100663295, 268435455, 536870911, 1073741823, 33554431, 2181038079, 8589934591, 17179869183, 34359738367, 68719476735, 137438953471, 137438953471, 412316860415, 137438953471, 1236950581247, 4398046511103, 8796093022207, 17592186044415]
theorem spec_AreMoves.tab5 : rtab .any (opsOf Try.f16 5) = spec_AreMoves.T5 := by kernel_rfl
theorem spec_AreMoves.bits5 : waitsOk spec_AreMoves.T5.2 spec_AreMoves.B5 = true := by kernel_rfl
set_option maxHeartbeats 8000000 in
set_option maxRecDepth 100000 in
theorem spec_AreMoves.calls (k : Nat) (A0 : Option Addr) (c0 : Nat) (l0 : List (S42)) (r : Bool) (w : World) (hr0 : Kd.C k42 w A0 l0.length l0) (hc0 : l0.length ≤ c0) (h : spec_AreMoves.f k l0 = some r) :
  Calls Try.prog 16 #[.slice A0 l0.length c0] w fun e w' => e = .returned (.bool r) ∧ Below w.heap.size w w' := by
 have hu42 := Try.underlying42; have HR0 := ak hr0; have HC0 := ak hc0; clear hr0 hc0; have HB := ak (Below.refl w.heap.size w); unfold spec_AreMoves.f at h; have H := h; clear h; have H' := ak H; clear H; go_enter Try.func16, Try.ntmps16; go_wp2
 go_loopg [3] k (fun kq v3 w' => ∃ (x3_1 : Int), v3 = .int .i64 x3_1 ∧ Aside0 (spec_AreMoves.l0 kq l0 x3_1 = some r) ∧ Aside0 (kq ≤ k) ∧ Aside0 (Below w.heap.size w w'))
 case atStart => exact ⟨(0), (by first | rfl | (simp; done) | (simp [*]; done)), H', ⟨Nat.le_refl _⟩, ⟨vb HB.out⟩⟩
 case round =>
  clear H'; (try clear c1); obtain ⟨x3_1, rfl, HA, HK1, HB⟩ := hrel
  cases gk with
  | zero => exact absurd HA.out (by simp [spec_AreMoves.l0])
  | succ k1 =>
   have H := HA.out; clear HA; simp only [spec_AreMoves.l0] at H
   by_cases c2 : x3_1 < (l0.length : Int)
   ·rw [if_pos c2] at H; have c2b0 := decide_eq_true c2; clear c2; by_cases c3 : 0 ≤ x3_1
    ·rw [if_pos c3] at H; have c3b0 := decide_eq_true c3; clear c3; obtain ⟨t110, A4, H⟩ := bnk H; by_cases c5 : t110 = true
     ·subst c5; rw [if_pos rfl] at H; obtain ⟨t111, A6, H⟩ := bnk H; by_cases c7 : t111 = true
      ·subst c7; rw [if_pos rfl] at H; obtain ⟨t112, A8, H⟩ := bnk H; by_cases c9 : t112 = true
       ·subst c9; rw [if_pos rfl] at H; by_cases c10 : ((rd_T42 l0 x3_1).f2) = 0
        ·rw [if_pos c10] at H; have c10b0 : (((rd_T42 l0 x3_1).f2) == 0) = true := beq_iff_eq.mpr c10; have c10b1 : (((rd_T42 l0 x3_1).f2) != 0) = false := bne_eq_false_iff_eq.mpr c10; clear c10; obtain rfl := Option.some.inj H; have p108 : 0 ≤ (x3_1 : Int) := od; have q108 : x3_1 < (l0.length : Int) := od; obtain ⟨ad108, e108, hx108_0, hx108_1, hx108_2⟩ := at_T42 HR0.out x3_1 p108 q108
         cases e108; replace hx108_0 := cb HB.out hx108_0; replace hx108_1 := cb HB.out hx108_1; replace hx108_2 := cb HB.out hx108_2; replace p108 := eq_true p108; replace q108 := eq_true q108; (try go_wp2_with (first | ((with_reducible refine gate_dst (N := 4) rfl ?_); refine bx 4 #[.int .i64 0, .string (⟨#[]⟩ : ByteArray), .int .i64 0] 42 ?_; intro gb109 hg w11 hbox hb; have BK109 := ak hbox; have GW109 := gw hg HB; have GE109 := gw hg HB; replace HB := bs HB hb; clear hb hbox hg; have hcz12 := cz3 BK109.out)))
         have n0_ : Aside0 ((((w11.setCell ⟨gb109, 0, none⟩ (.int .i64 ((rd_T42 l0 x3_1).f0))).setCell ⟨gb109, 1, none⟩ (.string ((rd_T42 l0 x3_1).f1))).setCell ⟨gb109, 2, none⟩ (.int .i64 ((rd_T42 l0 x3_1).f2))).heap[gb109]? = some (.cells #[.int .i64 ((rd_T42 l0 x3_1).f0), .string ((rd_T42 l0 x3_1).f1), .int .i64 ((rd_T42 l0 x3_1).f2)] 42 (0, 0))) := ⟨by (with_reducible repeat (first | refine blk_drewN ?_ _ | refine blk_drew ?_ | refine blk_alloc ?_ _)); refine blk_put (cs := #[.int .i64 ((rd_T42 l0 x3_1).f0), .string ((rd_T42 l0 x3_1).f1), .int .i64 0]) ?_ 2 _ rfl; (with_reducible repeat (first | refine blk_drewN ?_ _ | refine blk_drew ?_ | refine blk_alloc ?_ _)); refine blk_put (cs := #[.int .i64 ((rd_T42 l0 x3_1).f0), .string (⟨#[]⟩ : ByteArray), .int .i64 0]) ?_ 1 _ rfl; (with_reducible repeat (first | refine blk_drewN ?_ _ | refine blk_drew ?_ | refine blk_alloc ?_ _)); refine blk_put (cs := #[.int .i64 0, .string (⟨#[]⟩ : ByteArray), .int .i64 0]) ?_ 0 _ rfl; (with_reducible repeat (first | refine blk_drewN ?_ _ | refine blk_drew ?_ | refine blk_alloc ?_ _)); exact BK109.out⟩; have n1_ : Aside0 (Below w.heap.size w (((w11.setCell ⟨gb109, 0, none⟩ (.int .i64 ((rd_T42 l0 x3_1).f0))).setCell ⟨gb109, 1, none⟩ (.string ((rd_T42 l0 x3_1).f1))).setCell ⟨gb109, 2, none⟩ (.int .i64 ((rd_T42 l0 x3_1).f2)))) := ⟨vb HB.out⟩; (try clear BK109)
         (try clear HB)
         generalize (((w11.setCell ⟨gb109, 0, none⟩ (.int .i64 ((rd_T42 l0 x3_1).f0))).setCell ⟨gb109, 1, none⟩ (.string ((rd_T42 l0 x3_1).f1))).setCell ⟨gb109, 2, none⟩ (.int .i64 ((rd_T42 l0 x3_1).f2))) = w13 at n0_ n1_ ⊢; have BK109 := n0_; have HB := n1_; clear n0_ n1_; replace BK109 := ak (blk_drew BK109.out); replace HB := ak (below_drew1 HB.out); refine start_ (n := 45) (S := fun w' => w'.cell? ⟨gb109, 0, none⟩ = some (.int .i64 ((rd_T42 l0 x3_1).f0)) ∧ w'.cell? ⟨gb109, 1, none⟩ = some (.string ((rd_T42 l0 x3_1).f1)) ∧ w'.cell? ⟨gb109, 2, none⟩ = some (.int .i64 ((rd_T42 l0 x3_1).f2))) (ds := []) (tf 0 45) (by kernel_rfl) rfl rfl (cy3 BK109.out) (fun hHeld => ?_); refine with_tabW spec_AreMoves.tab5 spec_AreMoves.bits5 (fun HT_ HW_ => ?_); generalize w13.drew = w14 at BK109 HB hHeld ⊢; refine pu_ 0 15 (tf 1 44) rfl rfl ?_; refine ta3_ 1 16 (tf 2 43) rfl rfl ?_; refine one_ (i := 2) (N := some 17) (tf 3 42) rfl rfl (one_of HT_.out (by kernel_rfl)) (by decide) (fun K hK => ?_); refine goes_ Try.func62 (by kernel_rfl) rfl #[.int .i64 ((rd_T42 l0 x3_1).f0)] (by rfl) rfl rfl (by (try simp only [List.map_toArray, List.map_cons, List.map_nil]); first | done | rfl | (simp only [List.length_drop, List.length_take]; rfl)) ?_; with_reducible refine (spec_l01IsTime.calls ((rd_T42 l0 x3_1).f0) true _ A4.out).mono ?_
         rintro e w' ⟨rfl, ⟨nd, rfl⟩⟩; refine ⟨_, rfl, ?_⟩; refine hK.out _ _ (cy3 BK109.out) (fun hHeld => ?_); clear hK K; refine norm_ (a' := ?_) ?_ ?_
         rotate_left
         ·show Act.put _ (some 17) _ = _
          simp only [Act.put, List.setIfInBounds_toArray, List.set_cons_zero, List.set_cons_succ, i64_w, i32_w]
          rfl
         refine pu_ 3 18 (tf 4 41) rfl rfl ?_; refine pu_ 4 19 (tf 5 40) rfl rfl ?_; refine pu_ 5 20 (tf 6 39) rfl rfl ?_; refine ta3_ 6 21 (tf 7 38) rfl rfl ?_; refine one_ (i := 7) (N := some 22) (tf 8 37) rfl rfl (one_of HT_.out (by kernel_rfl)) (by decide) (fun K hK => ?_); refine goes_ Try.func63 (by kernel_rfl) rfl #[.string ((rd_T42 l0 x3_1).f1)] (by rfl) rfl rfl (by (try simp only [List.map_toArray, List.map_cons, List.map_nil]); first | done | rfl | (simp only [List.length_drop, List.length_take]; rfl)) ?_; with_reducible refine (spec_IsWord.calls k1 ((rd_T42 l0 x3_1).f1) true _ A6.out).mono ?_
         rintro e w' ⟨rfl, ⟨nd, rfl⟩⟩; refine ⟨_, rfl, ?_⟩; refine hK.out _ _ (cy3 BK109.out) (fun hHeld => ?_); clear hK K; refine norm_ (a' := ?_) ?_ ?_
         rotate_left
         ·show Act.put _ (some 22) _ = _
          simp only [Act.put, List.setIfInBounds_toArray, List.set_cons_zero, List.set_cons_succ, i64_w, i32_w]
          rfl
         refine pu_ 8 23 (tf 9 36) rfl rfl ?_; refine pu_ 9 24 (tf 10 35) rfl rfl ?_; refine pu_ 10 25 (tf 11 34) rfl rfl ?_; refine pu_ 11 26 (tf 12 33) rfl rfl ?_; refine ta3_ 12 27 (tf 13 32) rfl rfl ?_; refine one_ (i := 13) (N := some 28) (tf 14 31) rfl rfl (one_of HT_.out (by kernel_rfl)) (by decide) (fun K hK => ?_); refine goes_ Try.func64 (by kernel_rfl) rfl #[.int .i64 ((rd_T42 l0 x3_1).f2), .int .i64 (-1000), .int .i64 1000] (by rfl) rfl rfl (by (try simp only [List.map_toArray, List.map_cons, List.map_nil]); first | done | rfl | (simp only [List.length_drop, List.length_take]; rfl)) ?_; with_reducible refine (spec_l01In.calls ((rd_T42 l0 x3_1).f2) (-1000) 1000 true _ A8.out).mono ?_
         rintro e w' ⟨rfl, ⟨nd, rfl⟩⟩; refine ⟨_, rfl, ?_⟩; refine hK.out _ _ (cy3 BK109.out) (fun hHeld => ?_); clear hK K; refine norm_ (a' := ?_) ?_ ?_
         rotate_left
         ·show Act.put _ (some 28) _ = _
          simp only [Act.put, List.setIfInBounds_toArray, List.set_cons_zero, List.set_cons_succ, i64_w, i32_w]
          rfl
         refine pu_ 14 29 (tf 15 30) rfl rfl ?_; refine pu_ 15 30 (tf 16 29) rfl rfl ?_; refine pu_ 16 31 (tf 17 28) rfl rfl ?_; refine pu_ 17 32 (tf 18 27) rfl rfl ?_; refine ta3_ 18 33 (tf 19 26) rfl rfl ?_; refine pu_ 19 34 (tf 20 25) rfl rfl ?_; refine pu_ 20 35 (tf 21 24) rfl rfl ?_; refine pu_ 21 36 (tf 22 23) rfl rfl ?_; refine un_ 22 37 (tf 23 22) rfl rfl ?_; refine un_ 23 38 (tf 24 21) rfl rfl ?_; refine un_ 24 39 (tf 25 20) rfl rfl ?_; refine un_ 25 40 (tf 26 19) rfl rfl ?_; refine un_ 26 41 (tf 27 18) rfl rfl ?_; refine un_ 27 42 (tf 28 17) rfl rfl ?_; refine un_ 28 43 (tf 29 16) rfl rfl ?_; refine un_ 29 44 (tf 30 15) rfl rfl ?_; refine un_ 30 45 (tf 31 14) rfl rfl ?_; refine un_ 31 46 (tf 32 13) rfl rfl ?_; refine un_ 32 47 (tf 33 12) rfl rfl ?_; refine un_ 33 48 (tf 34 11) rfl rfl ?_; refine un_ 34 49 (tf 35 10) rfl rfl ?_; refine pu_ 35 50 (tf 36 9) rfl rfl ?_; refine pu_ 36 51 (tf 37 8) rfl rfl ?_; refine un_ 37 52 (tf 38 7) rfl rfl ?_; refine un_ 38 53 (tf 39 6) rfl rfl ?_; refine un_ 39 54 (tf 40 5) rfl rfl ?_; refine un_ 40 55 (tf 41 4) rfl rfl ?_; refine un_ 41 56 (tf 42 3) rfl rfl ?_; refine un_ 42 57 (tf 43 2) rfl rfl ?_; refine un_ 43 58 (tf 44 1) rfl rfl ?_; refine pu_ 44 59 (tf 45 0) rfl rfl ?_; refine done_ (done_of HT_.out (by kernel_rfl)) ?_; (try go_wp2)
         go_ret
         exact ⟨ew, vb HB.out⟩
        ·rw [if_neg c10] at H; have c10b0 : (((rd_T42 l0 x3_1).f2) == 0) = false := beq_eq_false_iff_ne.mpr c10; have c10b1 : (((rd_T42 l0 x3_1).f2) != 0) = true := bne_iff_ne.mpr c10; by_cases c15 : x3_1 > 0
         ·rw [if_pos c15] at H; have c15b0 := decide_eq_true c15; clear c15; obtain ⟨ji16, hji16⟩ : ∃ j_ : Int, (wrap64 (x3_1 - 1)) = j_ := ⟨_, rfl⟩; replace H : (if 0 ≤ (ji16) then (if (ji16) < (l0.length : Int) then (if ((rd_T42 l0 (ji16)).f0) > ((rd_T42 l0 x3_1).f0) then (some false) else ((spec_l20People.f k1 l0 ((rd_T42 l0 x3_1).f1) (wrap64 (x3_1 + 1))).bind fun t114 => (if t114 < 0 then (some false) else (spec_AreMoves.l0 k1 l0 (wrap64 (x3_1 + 1)))))) else (none)) else (none)) = some r := by first | (rw [hji16] at H; exact H) | (simp only [hji16] at H ⊢; exact H)
          (try rw [hji16] at A4)
          (try rw [hji16] at A6)
          (try rw [hji16] at A8)
          have hji16w : (IntKind.i64.wrap (x3_1 - 1)) = ji16 := (i64_w _).trans hji16; by_cases c17 : 0 ≤ (ji16)
          ·rw [if_pos c17] at H; have c17b0 := decide_eq_true c17; clear c17; by_cases c18 : (ji16) < (l0.length : Int)
           ·rw [if_pos c18] at H; have c18b0 := decide_eq_true c18; clear c18; by_cases c19 : ((rd_T42 l0 (ji16)).f0) > ((rd_T42 l0 x3_1).f0)
            ·rw [if_pos c19] at H; have c19b0 := decide_eq_true c19; clear c19; obtain rfl := Option.some.inj H; have p108 : 0 ≤ (x3_1 : Int) := od; have q108 : x3_1 < (l0.length : Int) := od; obtain ⟨ad108, e108, hx108_0, hx108_1, hx108_2⟩ := at_T42 HR0.out x3_1 p108 q108
             cases e108; replace hx108_0 := cb HB.out hx108_0; replace hx108_1 := cb HB.out hx108_1; replace hx108_2 := cb HB.out hx108_2; replace p108 := eq_true p108; replace q108 := eq_true q108; (try go_wp2_with (first | ((with_reducible refine gate_dst (N := 4) rfl ?_); refine bx 4 #[.int .i64 0, .string (⟨#[]⟩ : ByteArray), .int .i64 0] 42 ?_; intro gb109 hg w20 hbox hb; have BK109 := ak hbox; have GW109 := gw hg HB; have GE109 := gw hg HB; replace HB := bs HB hb; clear hb hbox hg; have hcz21 := cz3 BK109.out)))
             have n0_ : Aside0 ((((w20.setCell ⟨gb109, 0, none⟩ (.int .i64 ((rd_T42 l0 x3_1).f0))).setCell ⟨gb109, 1, none⟩ (.string ((rd_T42 l0 x3_1).f1))).setCell ⟨gb109, 2, none⟩ (.int .i64 ((rd_T42 l0 x3_1).f2))).heap[gb109]? = some (.cells #[.int .i64 ((rd_T42 l0 x3_1).f0), .string ((rd_T42 l0 x3_1).f1), .int .i64 ((rd_T42 l0 x3_1).f2)] 42 (0, 0))) := ⟨by (with_reducible repeat (first | refine blk_drewN ?_ _ | refine blk_drew ?_ | refine blk_alloc ?_ _)); refine blk_put (cs := #[.int .i64 ((rd_T42 l0 x3_1).f0), .string ((rd_T42 l0 x3_1).f1), .int .i64 0]) ?_ 2 _ rfl; (with_reducible repeat (first | refine blk_drewN ?_ _ | refine blk_drew ?_ | refine blk_alloc ?_ _)); refine blk_put (cs := #[.int .i64 ((rd_T42 l0 x3_1).f0), .string (⟨#[]⟩ : ByteArray), .int .i64 0]) ?_ 1 _ rfl; (with_reducible repeat (first | refine blk_drewN ?_ _ | refine blk_drew ?_ | refine blk_alloc ?_ _)); refine blk_put (cs := #[.int .i64 0, .string (⟨#[]⟩ : ByteArray), .int .i64 0]) ?_ 0 _ rfl; (with_reducible repeat (first | refine blk_drewN ?_ _ | refine blk_drew ?_ | refine blk_alloc ?_ _)); exact BK109.out⟩; have n1_ : Aside0 (Below w.heap.size w (((w20.setCell ⟨gb109, 0, none⟩ (.int .i64 ((rd_T42 l0 x3_1).f0))).setCell ⟨gb109, 1, none⟩ (.string ((rd_T42 l0 x3_1).f1))).setCell ⟨gb109, 2, none⟩ (.int .i64 ((rd_T42 l0 x3_1).f2)))) := ⟨vb HB.out⟩; (try clear BK109)
             (try clear HB)
             generalize (((w20.setCell ⟨gb109, 0, none⟩ (.int .i64 ((rd_T42 l0 x3_1).f0))).setCell ⟨gb109, 1, none⟩ (.string ((rd_T42 l0 x3_1).f1))).setCell ⟨gb109, 2, none⟩ (.int .i64 ((rd_T42 l0 x3_1).f2))) = w22 at n0_ n1_ ⊢; have BK109 := n0_; have HB := n1_; clear n0_ n1_; replace BK109 := ak (blk_drew BK109.out); replace HB := ak (below_drew1 HB.out); have p113 : 0 ≤ ((ji16) : Int) := od; have q113 : (ji16) < (l0.length : Int) := od; obtain ⟨ad113, e113, hx113_0, hx113_1, hx113_2⟩ := at_T42 HR0.out (ji16) p113 q113; have hw113_2 := hx113_2; have hw113_1 := hx113_1; have hw113_0 := hx113_0; obtain rfl : ad108 = ad113 := (by injection e113); replace hx113_0 := cb HB.out hx113_0; replace hx113_1 := cb HB.out hx113_1; replace hx113_2 := cb HB.out hx113_2; replace p113 := eq_true p113; replace q113 := eq_true q113; refine start_ (n := 45) (S := fun w' => w'.cell? ⟨gb109, 0, none⟩ = some (.int .i64 ((rd_T42 l0 x3_1).f0)) ∧ w'.cell? ⟨gb109, 1, none⟩ = some (.string ((rd_T42 l0 x3_1).f1)) ∧ w'.cell? ⟨gb109, 2, none⟩ = some (.int .i64 ((rd_T42 l0 x3_1).f2)) ∧ w'.cell? (ad108.add (((ji16)).toNat * 3)) = some (.int .i64 ((rd_T42 l0 (ji16)).f0)) ∧ w'.cell? ⟨(ad108.add (((ji16)).toNat * 3)).block, (ad108.add (((ji16)).toNat * 3)).off + 1, none⟩ = some (.string ((rd_T42 l0 (ji16)).f1)) ∧ w'.cell? ⟨(ad108.add (((ji16)).toNat * 3)).block, (ad108.add (((ji16)).toNat * 3)).off + 2, none⟩ = some (.int .i64 ((rd_T42 l0 (ji16)).f2))) (ds := []) (tf 0 45) (by kernel_rfl) rfl rfl ⟨(blk_cell BK109.out 0).trans rfl, (blk_cell BK109.out 1).trans rfl, (blk_cell BK109.out 2).trans rfl, ((HB.out.cell (World.block_lt_of_cell? w _ hw113_0)).trans hw113_0), ((HB.out.cell (World.block_lt_of_cell? w _ hw113_1)).trans hw113_1), ((HB.out.cell (World.block_lt_of_cell? w _ hw113_2)).trans hw113_2)⟩ (fun hHeld => ?_); refine with_tabW spec_AreMoves.tab5 spec_AreMoves.bits5 (fun HT_ HW_ => ?_)
             generalize w22.drew = w23 at BK109 HB hx113_0 hx113_1 hx113_2 hHeld ⊢; refine pu_ 0 15 (tf 1 44) rfl rfl ?_; refine ta6_ 1 16 (tf 2 43) rfl rfl ?_; refine one_ (i := 2) (N := some 17) (tf 3 42) rfl rfl (one_of HT_.out (by kernel_rfl)) (by decide) (fun K hK => ?_); refine goes_ Try.func62 (by kernel_rfl) rfl #[.int .i64 ((rd_T42 l0 x3_1).f0)] (by rfl) rfl rfl (by (try simp only [List.map_toArray, List.map_cons, List.map_nil]); first | done | rfl | (simp only [List.length_drop, List.length_take]; rfl)) ?_; with_reducible refine (spec_l01IsTime.calls ((rd_T42 l0 x3_1).f0) true _ A4.out).mono ?_
             rintro e w' ⟨rfl, ⟨nd, rfl⟩⟩; refine ⟨_, rfl, ?_⟩; refine hK.out _ _ ⟨(blk_cell BK109.out 0).trans rfl, (blk_cell BK109.out 1).trans rfl, (blk_cell BK109.out 2).trans rfl, ((HB.out.cell (World.block_lt_of_cell? w _ hw113_0)).trans hw113_0), ((HB.out.cell (World.block_lt_of_cell? w _ hw113_1)).trans hw113_1), ((HB.out.cell (World.block_lt_of_cell? w _ hw113_2)).trans hw113_2)⟩ (fun hHeld => ?_); clear hK K; refine norm_ (a' := ?_) ?_ ?_
             rotate_left
             ·show Act.put _ (some 17) _ = _
              simp only [Act.put, List.setIfInBounds_toArray, List.set_cons_zero, List.set_cons_succ, i64_w, i32_w]
              rfl
             refine pu_ 3 18 (tf 4 41) rfl rfl ?_; refine pu_ 4 19 (tf 5 40) rfl rfl ?_; refine pu_ 5 20 (tf 6 39) rfl rfl ?_; refine ta6_ 6 21 (tf 7 38) rfl rfl ?_; refine one_ (i := 7) (N := some 22) (tf 8 37) rfl rfl (one_of HT_.out (by kernel_rfl)) (by decide) (fun K hK => ?_); refine goes_ Try.func63 (by kernel_rfl) rfl #[.string ((rd_T42 l0 x3_1).f1)] (by rfl) rfl rfl (by (try simp only [List.map_toArray, List.map_cons, List.map_nil]); first | done | rfl | (simp only [List.length_drop, List.length_take]; rfl)) ?_; with_reducible refine (spec_IsWord.calls k1 ((rd_T42 l0 x3_1).f1) true _ A6.out).mono ?_
             rintro e w' ⟨rfl, ⟨nd, rfl⟩⟩; refine ⟨_, rfl, ?_⟩; refine hK.out _ _ ⟨(blk_cell BK109.out 0).trans rfl, (blk_cell BK109.out 1).trans rfl, (blk_cell BK109.out 2).trans rfl, ((HB.out.cell (World.block_lt_of_cell? w _ hw113_0)).trans hw113_0), ((HB.out.cell (World.block_lt_of_cell? w _ hw113_1)).trans hw113_1), ((HB.out.cell (World.block_lt_of_cell? w _ hw113_2)).trans hw113_2)⟩ (fun hHeld => ?_); clear hK K; refine norm_ (a' := ?_) ?_ ?_
             rotate_left
             ·show Act.put _ (some 22) _ = _
              simp only [Act.put, List.setIfInBounds_toArray, List.set_cons_zero, List.set_cons_succ, i64_w, i32_w]
              rfl
             refine pu_ 8 23 (tf 9 36) rfl rfl ?_; refine pu_ 9 24 (tf 10 35) rfl rfl ?_; refine pu_ 10 25 (tf 11 34) rfl rfl ?_; refine pu_ 11 26 (tf 12 33) rfl rfl ?_; refine ta6_ 12 27 (tf 13 32) rfl rfl ?_; refine one_ (i := 13) (N := some 28) (tf 14 31) rfl rfl (one_of HT_.out (by kernel_rfl)) (by decide) (fun K hK => ?_); refine goes_ Try.func64 (by kernel_rfl) rfl #[.int .i64 ((rd_T42 l0 x3_1).f2), .int .i64 (-1000), .int .i64 1000] (by rfl) rfl rfl (by (try simp only [List.map_toArray, List.map_cons, List.map_nil]); first | done | rfl | (simp only [List.length_drop, List.length_take]; rfl)) ?_; with_reducible refine (spec_l01In.calls ((rd_T42 l0 x3_1).f2) (-1000) 1000 true _ A8.out).mono ?_
             rintro e w' ⟨rfl, ⟨nd, rfl⟩⟩; refine ⟨_, rfl, ?_⟩; refine hK.out _ _ ⟨(blk_cell BK109.out 0).trans rfl, (blk_cell BK109.out 1).trans rfl, (blk_cell BK109.out 2).trans rfl, ((HB.out.cell (World.block_lt_of_cell? w _ hw113_0)).trans hw113_0), ((HB.out.cell (World.block_lt_of_cell? w _ hw113_1)).trans hw113_1), ((HB.out.cell (World.block_lt_of_cell? w _ hw113_2)).trans hw113_2)⟩ (fun hHeld => ?_); clear hK K; refine norm_ (a' := ?_) ?_ ?_
             rotate_left
             ·show Act.put _ (some 28) _ = _
              simp only [Act.put, List.setIfInBounds_toArray, List.set_cons_zero, List.set_cons_succ, i64_w, i32_w]
              rfl
             refine pu_ 14 29 (tf 15 30) rfl rfl ?_; refine pu_ 15 30 (tf 16 29) rfl rfl ?_; refine pu_ 16 31 (tf 17 28) rfl rfl ?_; refine pu_ 17 32 (tf 18 27) rfl rfl ?_; refine ta6_ 18 33 (tf 19 26) rfl rfl ?_; refine pu_ 19 34 (tf 20 25) rfl rfl ?_; refine pu_ 20 35 (tf 21 24) rfl rfl ?_; refine pu_ 21 36 (tf 22 23) rfl rfl ?_; refine pu_ 22 37 (tf 23 22) rfl rfl ?_; refine pu_ 23 38 (tf 24 21) rfl rfl ?_; refine pu_ 24 39 (tf 25 20) rfl rfl ?_; refine pu_ 25 40 (tf 26 19) rfl rfl ?_; refine pu_ 26 41 (tf 27 18) rfl rfl ?_; refine pu_ 27 42 (tf 28 17) rfl rfl ?_; refine pu_ 28 43 (tf 29 16) rfl rfl ?_; refine pu_ 29 44 (tf 30 15) rfl rfl ?_; refine pu_ 31 46 #[true, true, true, true, true, true, true, true, true, true, true, true, true, true, true, true, true, true, true, true, true, true, true, true, true, true, true, true, true, true, false, true, false, false, false, false, false, false, false, false, false, false, false, false, false] rfl rfl ?_; refine ta6_ 30 45 (tf 32 13) rfl rfl ?_; refine ta6_ 32 47 (tf 33 12) rfl rfl ?_; refine pu_ 33 48 (tf 34 11) rfl rfl ?_; refine pu_ 34 49 (tf 35 10) rfl rfl ?_; refine pu_ 35 50 (tf 36 9) rfl rfl ?_; refine pu_ 36 51 (tf 37 8) rfl rfl ?_; refine un_ 37 52 (tf 38 7) rfl rfl ?_; refine un_ 38 53 (tf 39 6) rfl rfl ?_; refine un_ 39 54 (tf 40 5) rfl rfl ?_; refine un_ 40 55 (tf 41 4) rfl rfl ?_; refine un_ 41 56 (tf 42 3) rfl rfl ?_; refine un_ 42 57 (tf 43 2) rfl rfl ?_; refine un_ 43 58 (tf 44 1) rfl rfl ?_; refine pu_ 44 59 (tf 45 0) rfl rfl ?_
             refine done_ (done_of HT_.out (by kernel_rfl)) ?_; (try go_wp2)
             go_ret
             exact ⟨by first | rfl | (simp [errW_none, errW_some] <;> rfl) | (simp only [← hji16]; first | rfl | (simp [errW_none, errW_some] <;> rfl)) | (simp [*, errW_none, errW_some] <;> rfl), vb HB.out⟩
            ·rw [if_neg c19] at H; have c19b0 := decide_eq_false c19; clear c19; obtain ⟨t114, A24, H⟩ := bnk H; by_cases c25 : t114 < 0
             ·rw [if_pos c25] at H; have c25b0 := decide_eq_true c25; clear c25; obtain rfl := Option.some.inj H; have p108 : 0 ≤ (x3_1 : Int) := od; have q108 : x3_1 < (l0.length : Int) := od; obtain ⟨ad108, e108, hx108_0, hx108_1, hx108_2⟩ := at_T42 HR0.out x3_1 p108 q108
              cases e108; replace hx108_0 := cb HB.out hx108_0; replace hx108_1 := cb HB.out hx108_1; replace hx108_2 := cb HB.out hx108_2; replace p108 := eq_true p108; replace q108 := eq_true q108; (try go_wp2_with (first | ((with_reducible refine gate_dst (N := 4) rfl ?_); refine bx 4 #[.int .i64 0, .string (⟨#[]⟩ : ByteArray), .int .i64 0] 42 ?_; intro gb109 hg w26 hbox hb; have BK109 := ak hbox; have GW109 := gw hg HB; have GE109 := gw hg HB; replace HB := bs HB hb; clear hb hbox hg; have hcz27 := cz3 BK109.out)))
              have n0_ : Aside0 ((((w26.setCell ⟨gb109, 0, none⟩ (.int .i64 ((rd_T42 l0 x3_1).f0))).setCell ⟨gb109, 1, none⟩ (.string ((rd_T42 l0 x3_1).f1))).setCell ⟨gb109, 2, none⟩ (.int .i64 ((rd_T42 l0 x3_1).f2))).heap[gb109]? = some (.cells #[.int .i64 ((rd_T42 l0 x3_1).f0), .string ((rd_T42 l0 x3_1).f1), .int .i64 ((rd_T42 l0 x3_1).f2)] 42 (0, 0))) := ⟨by (with_reducible repeat (first | refine blk_drewN ?_ _ | refine blk_drew ?_ | refine blk_alloc ?_ _)); refine blk_put (cs := #[.int .i64 ((rd_T42 l0 x3_1).f0), .string ((rd_T42 l0 x3_1).f1), .int .i64 0]) ?_ 2 _ rfl; (with_reducible repeat (first | refine blk_drewN ?_ _ | refine blk_drew ?_ | refine blk_alloc ?_ _)); refine blk_put (cs := #[.int .i64 ((rd_T42 l0 x3_1).f0), .string (⟨#[]⟩ : ByteArray), .int .i64 0]) ?_ 1 _ rfl; (with_reducible repeat (first | refine blk_drewN ?_ _ | refine blk_drew ?_ | refine blk_alloc ?_ _)); refine blk_put (cs := #[.int .i64 0, .string (⟨#[]⟩ : ByteArray), .int .i64 0]) ?_ 0 _ rfl; (with_reducible repeat (first | refine blk_drewN ?_ _ | refine blk_drew ?_ | refine blk_alloc ?_ _)); exact BK109.out⟩; have n1_ : Aside0 (Below w.heap.size w (((w26.setCell ⟨gb109, 0, none⟩ (.int .i64 ((rd_T42 l0 x3_1).f0))).setCell ⟨gb109, 1, none⟩ (.string ((rd_T42 l0 x3_1).f1))).setCell ⟨gb109, 2, none⟩ (.int .i64 ((rd_T42 l0 x3_1).f2)))) := ⟨vb HB.out⟩; (try clear BK109)
              (try clear HB)
              generalize (((w26.setCell ⟨gb109, 0, none⟩ (.int .i64 ((rd_T42 l0 x3_1).f0))).setCell ⟨gb109, 1, none⟩ (.string ((rd_T42 l0 x3_1).f1))).setCell ⟨gb109, 2, none⟩ (.int .i64 ((rd_T42 l0 x3_1).f2))) = w28 at n0_ n1_ ⊢; have BK109 := n0_; have HB := n1_; clear n0_ n1_; replace BK109 := ak (blk_drew BK109.out); replace HB := ak (below_drew1 HB.out); have p113 : 0 ≤ ((ji16) : Int) := od; have q113 : (ji16) < (l0.length : Int) := od; obtain ⟨ad113, e113, hx113_0, hx113_1, hx113_2⟩ := at_T42 HR0.out (ji16) p113 q113; have hw113_2 := hx113_2; have hw113_1 := hx113_1; have hw113_0 := hx113_0; obtain rfl : ad108 = ad113 := (by injection e113); replace hx113_0 := cb HB.out hx113_0; replace hx113_1 := cb HB.out hx113_1; replace hx113_2 := cb HB.out hx113_2; replace p113 := eq_true p113; replace q113 := eq_true q113; refine start_ (n := 45) (S := fun w' => w'.cell? ⟨gb109, 0, none⟩ = some (.int .i64 ((rd_T42 l0 x3_1).f0)) ∧ w'.cell? ⟨gb109, 1, none⟩ = some (.string ((rd_T42 l0 x3_1).f1)) ∧ w'.cell? ⟨gb109, 2, none⟩ = some (.int .i64 ((rd_T42 l0 x3_1).f2)) ∧ w'.cell? (ad108.add (((ji16)).toNat * 3)) = some (.int .i64 ((rd_T42 l0 (ji16)).f0)) ∧ w'.cell? ⟨(ad108.add (((ji16)).toNat * 3)).block, (ad108.add (((ji16)).toNat * 3)).off + 1, none⟩ = some (.string ((rd_T42 l0 (ji16)).f1)) ∧ w'.cell? ⟨(ad108.add (((ji16)).toNat * 3)).block, (ad108.add (((ji16)).toNat * 3)).off + 2, none⟩ = some (.int .i64 ((rd_T42 l0 (ji16)).f2))) (ds := []) (tf 0 45) (by kernel_rfl) rfl rfl ⟨(blk_cell BK109.out 0).trans rfl, (blk_cell BK109.out 1).trans rfl, (blk_cell BK109.out 2).trans rfl, ((HB.out.cell (World.block_lt_of_cell? w _ hw113_0)).trans hw113_0), ((HB.out.cell (World.block_lt_of_cell? w _ hw113_1)).trans hw113_1), ((HB.out.cell (World.block_lt_of_cell? w _ hw113_2)).trans hw113_2)⟩ (fun hHeld => ?_); refine with_tabW spec_AreMoves.tab5 spec_AreMoves.bits5 (fun HT_ HW_ => ?_)
              generalize w28.drew = w29 at BK109 HB hx113_0 hx113_1 hx113_2 hHeld ⊢; refine pu_ 0 15 (tf 1 44) rfl rfl ?_; refine ta6_ 1 16 (tf 2 43) rfl rfl ?_; refine one_ (i := 2) (N := some 17) (tf 3 42) rfl rfl (one_of HT_.out (by kernel_rfl)) (by decide) (fun K hK => ?_); refine goes_ Try.func62 (by kernel_rfl) rfl #[.int .i64 ((rd_T42 l0 x3_1).f0)] (by rfl) rfl rfl (by (try simp only [List.map_toArray, List.map_cons, List.map_nil]); first | done | rfl | (simp only [List.length_drop, List.length_take]; rfl)) ?_; with_reducible refine (spec_l01IsTime.calls ((rd_T42 l0 x3_1).f0) true _ A4.out).mono ?_
              rintro e w' ⟨rfl, ⟨nd, rfl⟩⟩; refine ⟨_, rfl, ?_⟩; refine hK.out _ _ ⟨(blk_cell BK109.out 0).trans rfl, (blk_cell BK109.out 1).trans rfl, (blk_cell BK109.out 2).trans rfl, ((HB.out.cell (World.block_lt_of_cell? w _ hw113_0)).trans hw113_0), ((HB.out.cell (World.block_lt_of_cell? w _ hw113_1)).trans hw113_1), ((HB.out.cell (World.block_lt_of_cell? w _ hw113_2)).trans hw113_2)⟩ (fun hHeld => ?_); clear hK K; refine norm_ (a' := ?_) ?_ ?_
              rotate_left
              ·show Act.put _ (some 17) _ = _
               simp only [Act.put, List.setIfInBounds_toArray, List.set_cons_zero, List.set_cons_succ, i64_w, i32_w]
               rfl
              refine pu_ 3 18 (tf 4 41) rfl rfl ?_; refine pu_ 4 19 (tf 5 40) rfl rfl ?_; refine pu_ 5 20 (tf 6 39) rfl rfl ?_; refine ta6_ 6 21 (tf 7 38) rfl rfl ?_; refine one_ (i := 7) (N := some 22) (tf 8 37) rfl rfl (one_of HT_.out (by kernel_rfl)) (by decide) (fun K hK => ?_); refine goes_ Try.func63 (by kernel_rfl) rfl #[.string ((rd_T42 l0 x3_1).f1)] (by rfl) rfl rfl (by (try simp only [List.map_toArray, List.map_cons, List.map_nil]); first | done | rfl | (simp only [List.length_drop, List.length_take]; rfl)) ?_; with_reducible refine (spec_IsWord.calls k1 ((rd_T42 l0 x3_1).f1) true _ A6.out).mono ?_
              rintro e w' ⟨rfl, ⟨nd, rfl⟩⟩; refine ⟨_, rfl, ?_⟩; refine hK.out _ _ ⟨(blk_cell BK109.out 0).trans rfl, (blk_cell BK109.out 1).trans rfl, (blk_cell BK109.out 2).trans rfl, ((HB.out.cell (World.block_lt_of_cell? w _ hw113_0)).trans hw113_0), ((HB.out.cell (World.block_lt_of_cell? w _ hw113_1)).trans hw113_1), ((HB.out.cell (World.block_lt_of_cell? w _ hw113_2)).trans hw113_2)⟩ (fun hHeld => ?_); clear hK K; refine norm_ (a' := ?_) ?_ ?_
              rotate_left
              ·show Act.put _ (some 22) _ = _
               simp only [Act.put, List.setIfInBounds_toArray, List.set_cons_zero, List.set_cons_succ, i64_w, i32_w]
               rfl
              refine pu_ 8 23 (tf 9 36) rfl rfl ?_; refine pu_ 9 24 (tf 10 35) rfl rfl ?_; refine pu_ 10 25 (tf 11 34) rfl rfl ?_; refine pu_ 11 26 (tf 12 33) rfl rfl ?_; refine ta6_ 12 27 (tf 13 32) rfl rfl ?_; refine one_ (i := 13) (N := some 28) (tf 14 31) rfl rfl (one_of HT_.out (by kernel_rfl)) (by decide) (fun K hK => ?_); refine goes_ Try.func64 (by kernel_rfl) rfl #[.int .i64 ((rd_T42 l0 x3_1).f2), .int .i64 (-1000), .int .i64 1000] (by rfl) rfl rfl (by (try simp only [List.map_toArray, List.map_cons, List.map_nil]); first | done | rfl | (simp only [List.length_drop, List.length_take]; rfl)) ?_; with_reducible refine (spec_l01In.calls ((rd_T42 l0 x3_1).f2) (-1000) 1000 true _ A8.out).mono ?_
              rintro e w' ⟨rfl, ⟨nd, rfl⟩⟩; refine ⟨_, rfl, ?_⟩; refine hK.out _ _ ⟨(blk_cell BK109.out 0).trans rfl, (blk_cell BK109.out 1).trans rfl, (blk_cell BK109.out 2).trans rfl, ((HB.out.cell (World.block_lt_of_cell? w _ hw113_0)).trans hw113_0), ((HB.out.cell (World.block_lt_of_cell? w _ hw113_1)).trans hw113_1), ((HB.out.cell (World.block_lt_of_cell? w _ hw113_2)).trans hw113_2)⟩ (fun hHeld => ?_); clear hK K; refine norm_ (a' := ?_) ?_ ?_
              rotate_left
              ·show Act.put _ (some 28) _ = _
               simp only [Act.put, List.setIfInBounds_toArray, List.set_cons_zero, List.set_cons_succ, i64_w, i32_w]
               rfl
              refine pu_ 14 29 (tf 15 30) rfl rfl ?_; refine pu_ 15 30 (tf 16 29) rfl rfl ?_; refine pu_ 16 31 (tf 17 28) rfl rfl ?_; refine pu_ 17 32 (tf 18 27) rfl rfl ?_; refine ta6_ 18 33 (tf 19 26) rfl rfl ?_; refine pu_ 19 34 (tf 20 25) rfl rfl ?_; refine pu_ 20 35 (tf 21 24) rfl rfl ?_; refine pu_ 21 36 (tf 22 23) rfl rfl ?_; refine pu_ 22 37 (tf 23 22) rfl rfl ?_; refine pu_ 23 38 (tf 24 21) rfl rfl ?_; refine pu_ 24 39 (tf 25 20) rfl rfl ?_; refine pu_ 25 40 (tf 26 19) rfl rfl ?_; refine pu_ 26 41 (tf 27 18) rfl rfl ?_; refine pu_ 27 42 (tf 28 17) rfl rfl ?_; refine pu_ 28 43 (tf 29 16) rfl rfl ?_; refine pu_ 29 44 (tf 30 15) rfl rfl ?_; refine pu_ 31 46 #[true, true, true, true, true, true, true, true, true, true, true, true, true, true, true, true, true, true, true, true, true, true, true, true, true, true, true, true, true, true, false, true, false, false, false, false, false, false, false, false, false, false, false, false, false] rfl rfl ?_; refine ta6_ 30 45 (tf 32 13) rfl rfl ?_; refine ta6_ 32 47 (tf 33 12) rfl rfl ?_; refine pu_ 33 48 (tf 34 11) rfl rfl ?_; refine pu_ 34 49 (tf 35 10) rfl rfl ?_; refine pu_ 35 50 (tf 36 9) rfl rfl ?_; refine pu_ 36 51 (tf 37 8) rfl rfl ?_; refine pu_ 37 52 (tf 38 7) rfl rfl ?_; refine pu_ 38 53 (tf 39 6) rfl rfl ?_; refine pu_ 40 55 #[true, true, true, true, true, true, true, true, true, true, true, true, true, true, true, true, true, true, true, true, true, true, true, true, true, true, true, true, true, true, true, true, true, true, true, true, true, true, true, false, true, false, false, false, false] rfl rfl ?_
              refine pu_ 41 56 #[true, true, true, true, true, true, true, true, true, true, true, true, true, true, true, true, true, true, true, true, true, true, true, true, true, true, true, true, true, true, true, true, true, true, true, true, true, true, true, false, true, true, false, false, false] rfl rfl ?_; refine ta6_ 39 54 (tf 42 3) rfl rfl ?_; refine one_ (i := 42) (N := some 57) (tf 43 2) rfl rfl (one_of HT_.out (by kernel_rfl)) (by decide) (fun K hK => ?_); refine goes_ Try.func65 (by kernel_rfl) rfl #[.slice (some ad108) l0.length c0, .string ((rd_T42 l0 x3_1).f1), .int .i64 (wrap64 (x3_1 + 1))] (by rfl) rfl rfl (by (try simp only [List.map_toArray, List.map_cons, List.map_nil]); first | done | rfl | (simp only [List.length_drop, List.length_take]; rfl)) ?_; with_reducible refine (spec_l20People.calls k1 _ _ l0 ((rd_T42 l0 x3_1).f1) (wrap64 (x3_1 + 1)) t114 _ ?side1 ?side2 A24.out).mono ?_
              (case side1 => exact vd HR0.out (vb HB.out))
              (case side2 => exact HC0.out)
              rintro e w' ⟨rfl, ⟨nd, rfl⟩⟩; refine ⟨_, rfl, ?_⟩; refine hK.out _ _ ⟨(blk_cell BK109.out 0).trans rfl, (blk_cell BK109.out 1).trans rfl, (blk_cell BK109.out 2).trans rfl, ((HB.out.cell (World.block_lt_of_cell? w _ hw113_0)).trans hw113_0), ((HB.out.cell (World.block_lt_of_cell? w _ hw113_1)).trans hw113_1), ((HB.out.cell (World.block_lt_of_cell? w _ hw113_2)).trans hw113_2)⟩ (fun hHeld => ?_); clear hK K; refine norm_ (a' := ?_) ?_ ?_
              rotate_left
              ·show Act.put _ (some 57) _ = _
               simp only [Act.put, List.setIfInBounds_toArray, List.set_cons_zero, List.set_cons_succ, i64_w, i32_w]
               rfl
              refine pu_ 43 58 (tf 44 1) rfl rfl ?_; refine pu_ 44 59 (tf 45 0) rfl rfl ?_; refine done_ (done_of HT_.out (by kernel_rfl)) ?_; (try go_wp2)
              go_ret
              exact ⟨by first | rfl | (simp [errW_none, errW_some] <;> rfl) | (simp only [← hji16]; first | rfl | (simp [errW_none, errW_some] <;> rfl)) | (simp [*, errW_none, errW_some] <;> rfl), vb HB.out⟩
             ·rw [if_neg c25] at H; have c25b0 := decide_eq_false c25; clear c25; have H' := ak H; clear H; have p108 : 0 ≤ (x3_1 : Int) := od; have q108 : x3_1 < (l0.length : Int) := od; obtain ⟨ad108, e108, hx108_0, hx108_1, hx108_2⟩ := at_T42 HR0.out x3_1 p108 q108
              cases e108; replace hx108_0 := cb HB.out hx108_0; replace hx108_1 := cb HB.out hx108_1; replace hx108_2 := cb HB.out hx108_2; replace p108 := eq_true p108; replace q108 := eq_true q108; (try go_wp2_with (first | ((with_reducible refine gate_dst (N := 4) rfl ?_); refine bx 4 #[.int .i64 0, .string (⟨#[]⟩ : ByteArray), .int .i64 0] 42 ?_; intro gb109 hg w30 hbox hb; have BK109 := ak hbox; have GW109 := gw hg HB; have GE109 := gw hg HB; replace HB := bs HB hb; clear hb hbox hg; have hcz31 := cz3 BK109.out)))
              have n0_ : Aside0 ((((w30.setCell ⟨gb109, 0, none⟩ (.int .i64 ((rd_T42 l0 x3_1).f0))).setCell ⟨gb109, 1, none⟩ (.string ((rd_T42 l0 x3_1).f1))).setCell ⟨gb109, 2, none⟩ (.int .i64 ((rd_T42 l0 x3_1).f2))).heap[gb109]? = some (.cells #[.int .i64 ((rd_T42 l0 x3_1).f0), .string ((rd_T42 l0 x3_1).f1), .int .i64 ((rd_T42 l0 x3_1).f2)] 42 (0, 0))) := ⟨by (with_reducible repeat (first | refine blk_drewN ?_ _ | refine blk_drew ?_ | refine blk_alloc ?_ _)); refine blk_put (cs := #[.int .i64 ((rd_T42 l0 x3_1).f0), .string ((rd_T42 l0 x3_1).f1), .int .i64 0]) ?_ 2 _ rfl; (with_reducible repeat (first | refine blk_drewN ?_ _ | refine blk_drew ?_ | refine blk_alloc ?_ _)); refine blk_put (cs := #[.int .i64 ((rd_T42 l0 x3_1).f0), .string (⟨#[]⟩ : ByteArray), .int .i64 0]) ?_ 1 _ rfl; (with_reducible repeat (first | refine blk_drewN ?_ _ | refine blk_drew ?_ | refine blk_alloc ?_ _)); refine blk_put (cs := #[.int .i64 0, .string (⟨#[]⟩ : ByteArray), .int .i64 0]) ?_ 0 _ rfl; (with_reducible repeat (first | refine blk_drewN ?_ _ | refine blk_drew ?_ | refine blk_alloc ?_ _)); exact BK109.out⟩; have n1_ : Aside0 (Below w.heap.size w (((w30.setCell ⟨gb109, 0, none⟩ (.int .i64 ((rd_T42 l0 x3_1).f0))).setCell ⟨gb109, 1, none⟩ (.string ((rd_T42 l0 x3_1).f1))).setCell ⟨gb109, 2, none⟩ (.int .i64 ((rd_T42 l0 x3_1).f2)))) := ⟨vb HB.out⟩; (try clear BK109)
              (try clear HB)
              generalize (((w30.setCell ⟨gb109, 0, none⟩ (.int .i64 ((rd_T42 l0 x3_1).f0))).setCell ⟨gb109, 1, none⟩ (.string ((rd_T42 l0 x3_1).f1))).setCell ⟨gb109, 2, none⟩ (.int .i64 ((rd_T42 l0 x3_1).f2))) = w32 at n0_ n1_ ⊢; have BK109 := n0_; have HB := n1_; clear n0_ n1_; replace BK109 := ak (blk_drew BK109.out); replace HB := ak (below_drew1 HB.out); have p113 : 0 ≤ ((ji16) : Int) := od; have q113 : (ji16) < (l0.length : Int) := od; obtain ⟨ad113, e113, hx113_0, hx113_1, hx113_2⟩ := at_T42 HR0.out (ji16) p113 q113; have hw113_2 := hx113_2; have hw113_1 := hx113_1; have hw113_0 := hx113_0; obtain rfl : ad108 = ad113 := (by injection e113); replace hx113_0 := cb HB.out hx113_0; replace hx113_1 := cb HB.out hx113_1; replace hx113_2 := cb HB.out hx113_2; replace p113 := eq_true p113; replace q113 := eq_true q113; refine start_ (n := 45) (S := fun w' => w'.cell? ⟨gb109, 0, none⟩ = some (.int .i64 ((rd_T42 l0 x3_1).f0)) ∧ w'.cell? ⟨gb109, 1, none⟩ = some (.string ((rd_T42 l0 x3_1).f1)) ∧ w'.cell? ⟨gb109, 2, none⟩ = some (.int .i64 ((rd_T42 l0 x3_1).f2)) ∧ w'.cell? (ad108.add (((ji16)).toNat * 3)) = some (.int .i64 ((rd_T42 l0 (ji16)).f0)) ∧ w'.cell? ⟨(ad108.add (((ji16)).toNat * 3)).block, (ad108.add (((ji16)).toNat * 3)).off + 1, none⟩ = some (.string ((rd_T42 l0 (ji16)).f1)) ∧ w'.cell? ⟨(ad108.add (((ji16)).toNat * 3)).block, (ad108.add (((ji16)).toNat * 3)).off + 2, none⟩ = some (.int .i64 ((rd_T42 l0 (ji16)).f2))) (ds := []) (tf 0 45) (by kernel_rfl) rfl rfl ⟨(blk_cell BK109.out 0).trans rfl, (blk_cell BK109.out 1).trans rfl, (blk_cell BK109.out 2).trans rfl, ((HB.out.cell (World.block_lt_of_cell? w _ hw113_0)).trans hw113_0), ((HB.out.cell (World.block_lt_of_cell? w _ hw113_1)).trans hw113_1), ((HB.out.cell (World.block_lt_of_cell? w _ hw113_2)).trans hw113_2)⟩ (fun hHeld => ?_); refine with_tabW spec_AreMoves.tab5 spec_AreMoves.bits5 (fun HT_ HW_ => ?_)
              generalize w32.drew = w33 at BK109 HB hx113_0 hx113_1 hx113_2 hHeld ⊢; refine pu_ 0 15 (tf 1 44) rfl rfl ?_; refine ta6_ 1 16 (tf 2 43) rfl rfl ?_; refine one_ (i := 2) (N := some 17) (tf 3 42) rfl rfl (one_of HT_.out (by kernel_rfl)) (by decide) (fun K hK => ?_); refine goes_ Try.func62 (by kernel_rfl) rfl #[.int .i64 ((rd_T42 l0 x3_1).f0)] (by rfl) rfl rfl (by (try simp only [List.map_toArray, List.map_cons, List.map_nil]); first | done | rfl | (simp only [List.length_drop, List.length_take]; rfl)) ?_; with_reducible refine (spec_l01IsTime.calls ((rd_T42 l0 x3_1).f0) true _ A4.out).mono ?_
              rintro e w' ⟨rfl, ⟨nd, rfl⟩⟩; refine ⟨_, rfl, ?_⟩; refine hK.out _ _ ⟨(blk_cell BK109.out 0).trans rfl, (blk_cell BK109.out 1).trans rfl, (blk_cell BK109.out 2).trans rfl, ((HB.out.cell (World.block_lt_of_cell? w _ hw113_0)).trans hw113_0), ((HB.out.cell (World.block_lt_of_cell? w _ hw113_1)).trans hw113_1), ((HB.out.cell (World.block_lt_of_cell? w _ hw113_2)).trans hw113_2)⟩ (fun hHeld => ?_); clear hK K; refine norm_ (a' := ?_) ?_ ?_
              rotate_left
              ·show Act.put _ (some 17) _ = _
               simp only [Act.put, List.setIfInBounds_toArray, List.set_cons_zero, List.set_cons_succ, i64_w, i32_w]
               rfl
              refine pu_ 3 18 (tf 4 41) rfl rfl ?_; refine pu_ 4 19 (tf 5 40) rfl rfl ?_; refine pu_ 5 20 (tf 6 39) rfl rfl ?_; refine ta6_ 6 21 (tf 7 38) rfl rfl ?_; refine one_ (i := 7) (N := some 22) (tf 8 37) rfl rfl (one_of HT_.out (by kernel_rfl)) (by decide) (fun K hK => ?_); refine goes_ Try.func63 (by kernel_rfl) rfl #[.string ((rd_T42 l0 x3_1).f1)] (by rfl) rfl rfl (by (try simp only [List.map_toArray, List.map_cons, List.map_nil]); first | done | rfl | (simp only [List.length_drop, List.length_take]; rfl)) ?_; with_reducible refine (spec_IsWord.calls k1 ((rd_T42 l0 x3_1).f1) true _ A6.out).mono ?_
              rintro e w' ⟨rfl, ⟨nd, rfl⟩⟩; refine ⟨_, rfl, ?_⟩; refine hK.out _ _ ⟨(blk_cell BK109.out 0).trans rfl, (blk_cell BK109.out 1).trans rfl, (blk_cell BK109.out 2).trans rfl, ((HB.out.cell (World.block_lt_of_cell? w _ hw113_0)).trans hw113_0), ((HB.out.cell (World.block_lt_of_cell? w _ hw113_1)).trans hw113_1), ((HB.out.cell (World.block_lt_of_cell? w _ hw113_2)).trans hw113_2)⟩ (fun hHeld => ?_); clear hK K; refine norm_ (a' := ?_) ?_ ?_
              rotate_left
              ·show Act.put _ (some 22) _ = _
               simp only [Act.put, List.setIfInBounds_toArray, List.set_cons_zero, List.set_cons_succ, i64_w, i32_w]
               rfl
              refine pu_ 8 23 (tf 9 36) rfl rfl ?_; refine pu_ 9 24 (tf 10 35) rfl rfl ?_; refine pu_ 10 25 (tf 11 34) rfl rfl ?_; refine pu_ 11 26 (tf 12 33) rfl rfl ?_; refine ta6_ 12 27 (tf 13 32) rfl rfl ?_; refine one_ (i := 13) (N := some 28) (tf 14 31) rfl rfl (one_of HT_.out (by kernel_rfl)) (by decide) (fun K hK => ?_); refine goes_ Try.func64 (by kernel_rfl) rfl #[.int .i64 ((rd_T42 l0 x3_1).f2), .int .i64 (-1000), .int .i64 1000] (by rfl) rfl rfl (by (try simp only [List.map_toArray, List.map_cons, List.map_nil]); first | done | rfl | (simp only [List.length_drop, List.length_take]; rfl)) ?_; with_reducible refine (spec_l01In.calls ((rd_T42 l0 x3_1).f2) (-1000) 1000 true _ A8.out).mono ?_
              rintro e w' ⟨rfl, ⟨nd, rfl⟩⟩; refine ⟨_, rfl, ?_⟩; refine hK.out _ _ ⟨(blk_cell BK109.out 0).trans rfl, (blk_cell BK109.out 1).trans rfl, (blk_cell BK109.out 2).trans rfl, ((HB.out.cell (World.block_lt_of_cell? w _ hw113_0)).trans hw113_0), ((HB.out.cell (World.block_lt_of_cell? w _ hw113_1)).trans hw113_1), ((HB.out.cell (World.block_lt_of_cell? w _ hw113_2)).trans hw113_2)⟩ (fun hHeld => ?_); clear hK K; refine norm_ (a' := ?_) ?_ ?_
              rotate_left
              ·show Act.put _ (some 28) _ = _
               simp only [Act.put, List.setIfInBounds_toArray, List.set_cons_zero, List.set_cons_succ, i64_w, i32_w]
               rfl
              refine pu_ 14 29 (tf 15 30) rfl rfl ?_; refine pu_ 15 30 (tf 16 29) rfl rfl ?_; refine pu_ 16 31 (tf 17 28) rfl rfl ?_; refine pu_ 17 32 (tf 18 27) rfl rfl ?_; refine ta6_ 18 33 (tf 19 26) rfl rfl ?_; refine pu_ 19 34 (tf 20 25) rfl rfl ?_; refine pu_ 20 35 (tf 21 24) rfl rfl ?_; refine pu_ 21 36 (tf 22 23) rfl rfl ?_; refine pu_ 22 37 (tf 23 22) rfl rfl ?_; refine pu_ 23 38 (tf 24 21) rfl rfl ?_; refine pu_ 24 39 (tf 25 20) rfl rfl ?_; refine pu_ 25 40 (tf 26 19) rfl rfl ?_; refine pu_ 26 41 (tf 27 18) rfl rfl ?_; refine pu_ 27 42 (tf 28 17) rfl rfl ?_; refine pu_ 28 43 (tf 29 16) rfl rfl ?_; refine pu_ 29 44 (tf 30 15) rfl rfl ?_; refine pu_ 31 46 #[true, true, true, true, true, true, true, true, true, true, true, true, true, true, true, true, true, true, true, true, true, true, true, true, true, true, true, true, true, true, false, true, false, false, false, false, false, false, false, false, false, false, false, false, false] rfl rfl ?_; refine ta6_ 30 45 (tf 32 13) rfl rfl ?_; refine ta6_ 32 47 (tf 33 12) rfl rfl ?_; refine pu_ 33 48 (tf 34 11) rfl rfl ?_; refine pu_ 34 49 (tf 35 10) rfl rfl ?_; refine pu_ 35 50 (tf 36 9) rfl rfl ?_; refine pu_ 36 51 (tf 37 8) rfl rfl ?_; refine pu_ 37 52 (tf 38 7) rfl rfl ?_; refine pu_ 38 53 (tf 39 6) rfl rfl ?_; refine pu_ 40 55 #[true, true, true, true, true, true, true, true, true, true, true, true, true, true, true, true, true, true, true, true, true, true, true, true, true, true, true, true, true, true, true, true, true, true, true, true, true, true, true, false, true, false, false, false, false] rfl rfl ?_
              refine pu_ 41 56 #[true, true, true, true, true, true, true, true, true, true, true, true, true, true, true, true, true, true, true, true, true, true, true, true, true, true, true, true, true, true, true, true, true, true, true, true, true, true, true, false, true, true, false, false, false] rfl rfl ?_; refine ta6_ 39 54 (tf 42 3) rfl rfl ?_; refine one_ (i := 42) (N := some 57) (tf 43 2) rfl rfl (one_of HT_.out (by kernel_rfl)) (by decide) (fun K hK => ?_); refine goes_ Try.func65 (by kernel_rfl) rfl #[.slice (some ad108) l0.length c0, .string ((rd_T42 l0 x3_1).f1), .int .i64 (wrap64 (x3_1 + 1))] (by rfl) rfl rfl (by (try simp only [List.map_toArray, List.map_cons, List.map_nil]); first | done | rfl | (simp only [List.length_drop, List.length_take]; rfl)) ?_; with_reducible refine (spec_l20People.calls k1 _ _ l0 ((rd_T42 l0 x3_1).f1) (wrap64 (x3_1 + 1)) t114 _ ?side1 ?side2 A24.out).mono ?_
              (case side1 => exact vd HR0.out (vb HB.out))
              (case side2 => exact HC0.out)
              rintro e w' ⟨rfl, ⟨nd, rfl⟩⟩; refine ⟨_, rfl, ?_⟩; refine hK.out _ _ ⟨(blk_cell BK109.out 0).trans rfl, (blk_cell BK109.out 1).trans rfl, (blk_cell BK109.out 2).trans rfl, ((HB.out.cell (World.block_lt_of_cell? w _ hw113_0)).trans hw113_0), ((HB.out.cell (World.block_lt_of_cell? w _ hw113_1)).trans hw113_1), ((HB.out.cell (World.block_lt_of_cell? w _ hw113_2)).trans hw113_2)⟩ (fun hHeld => ?_); clear hK K; refine norm_ (a' := ?_) ?_ ?_
              rotate_left
              ·show Act.put _ (some 57) _ = _
               simp only [Act.put, List.setIfInBounds_toArray, List.set_cons_zero, List.set_cons_succ, i64_w, i32_w]
               rfl
              refine pu_ 43 58 (tf 44 1) rfl rfl ?_; refine pu_ 44 59 (tf 45 0) rfl rfl ?_; refine done_ (done_of HT_.out (by kernel_rfl)) ?_; (try go_wp2)
              go_roundg k1
              case measure => have := HK1.out; omega
              case rel => exact ⟨(wrap64 (x3_1 + 1)), (by first | rfl | (simp; done) | (simp [*]; done)), H', ⟨by have := HK1.out; omega⟩, ⟨vb HB.out⟩⟩
           ·rw [if_neg c18] at H; exact absurd H (by simp)
          ·rw [if_neg c17] at H; exact absurd H (by simp)
         ·rw [if_neg c15] at H; have c15b0 := decide_eq_false c15; clear c15; obtain ⟨t115, A34, H⟩ := bnk H; by_cases c35 : t115 < 0
          ·rw [if_pos c35] at H; have c35b0 := decide_eq_true c35; clear c35; obtain rfl := Option.some.inj H; have p108 : 0 ≤ (x3_1 : Int) := od; have q108 : x3_1 < (l0.length : Int) := od; obtain ⟨ad108, e108, hx108_0, hx108_1, hx108_2⟩ := at_T42 HR0.out x3_1 p108 q108
           cases e108; replace hx108_0 := cb HB.out hx108_0; replace hx108_1 := cb HB.out hx108_1; replace hx108_2 := cb HB.out hx108_2; replace p108 := eq_true p108; replace q108 := eq_true q108; (try go_wp2_with (first | ((with_reducible refine gate_dst (N := 4) rfl ?_); refine bx 4 #[.int .i64 0, .string (⟨#[]⟩ : ByteArray), .int .i64 0] 42 ?_; intro gb109 hg w36 hbox hb; have BK109 := ak hbox; have GW109 := gw hg HB; have GE109 := gw hg HB; replace HB := bs HB hb; clear hb hbox hg; have hcz37 := cz3 BK109.out)))
           have n0_ : Aside0 ((((w36.setCell ⟨gb109, 0, none⟩ (.int .i64 ((rd_T42 l0 x3_1).f0))).setCell ⟨gb109, 1, none⟩ (.string ((rd_T42 l0 x3_1).f1))).setCell ⟨gb109, 2, none⟩ (.int .i64 ((rd_T42 l0 x3_1).f2))).heap[gb109]? = some (.cells #[.int .i64 ((rd_T42 l0 x3_1).f0), .string ((rd_T42 l0 x3_1).f1), .int .i64 ((rd_T42 l0 x3_1).f2)] 42 (0, 0))) := ⟨by (with_reducible repeat (first | refine blk_drewN ?_ _ | refine blk_drew ?_ | refine blk_alloc ?_ _)); refine blk_put (cs := #[.int .i64 ((rd_T42 l0 x3_1).f0), .string ((rd_T42 l0 x3_1).f1), .int .i64 0]) ?_ 2 _ rfl; (with_reducible repeat (first | refine blk_drewN ?_ _ | refine blk_drew ?_ | refine blk_alloc ?_ _)); refine blk_put (cs := #[.int .i64 ((rd_T42 l0 x3_1).f0), .string (⟨#[]⟩ : ByteArray), .int .i64 0]) ?_ 1 _ rfl; (with_reducible repeat (first | refine blk_drewN ?_ _ | refine blk_drew ?_ | refine blk_alloc ?_ _)); refine blk_put (cs := #[.int .i64 0, .string (⟨#[]⟩ : ByteArray), .int .i64 0]) ?_ 0 _ rfl; (with_reducible repeat (first | refine blk_drewN ?_ _ | refine blk_drew ?_ | refine blk_alloc ?_ _)); exact BK109.out⟩; have n1_ : Aside0 (Below w.heap.size w (((w36.setCell ⟨gb109, 0, none⟩ (.int .i64 ((rd_T42 l0 x3_1).f0))).setCell ⟨gb109, 1, none⟩ (.string ((rd_T42 l0 x3_1).f1))).setCell ⟨gb109, 2, none⟩ (.int .i64 ((rd_T42 l0 x3_1).f2)))) := ⟨vb HB.out⟩; (try clear BK109)
           (try clear HB)
           generalize (((w36.setCell ⟨gb109, 0, none⟩ (.int .i64 ((rd_T42 l0 x3_1).f0))).setCell ⟨gb109, 1, none⟩ (.string ((rd_T42 l0 x3_1).f1))).setCell ⟨gb109, 2, none⟩ (.int .i64 ((rd_T42 l0 x3_1).f2))) = w38 at n0_ n1_ ⊢; have BK109 := n0_; have HB := n1_; clear n0_ n1_; replace BK109 := ak (blk_drew BK109.out); replace HB := ak (below_drew1 HB.out); refine start_ (n := 45) (S := fun w' => w'.cell? ⟨gb109, 0, none⟩ = some (.int .i64 ((rd_T42 l0 x3_1).f0)) ∧ w'.cell? ⟨gb109, 1, none⟩ = some (.string ((rd_T42 l0 x3_1).f1)) ∧ w'.cell? ⟨gb109, 2, none⟩ = some (.int .i64 ((rd_T42 l0 x3_1).f2))) (ds := []) (tf 0 45) (by kernel_rfl) rfl rfl (cy3 BK109.out) (fun hHeld => ?_); refine with_tabW spec_AreMoves.tab5 spec_AreMoves.bits5 (fun HT_ HW_ => ?_); generalize w38.drew = w39 at BK109 HB hHeld ⊢; refine pu_ 0 15 (tf 1 44) rfl rfl ?_; refine ta3_ 1 16 (tf 2 43) rfl rfl ?_; refine one_ (i := 2) (N := some 17) (tf 3 42) rfl rfl (one_of HT_.out (by kernel_rfl)) (by decide) (fun K hK => ?_); refine goes_ Try.func62 (by kernel_rfl) rfl #[.int .i64 ((rd_T42 l0 x3_1).f0)] (by rfl) rfl rfl (by (try simp only [List.map_toArray, List.map_cons, List.map_nil]); first | done | rfl | (simp only [List.length_drop, List.length_take]; rfl)) ?_; with_reducible refine (spec_l01IsTime.calls ((rd_T42 l0 x3_1).f0) true _ A4.out).mono ?_
           rintro e w' ⟨rfl, ⟨nd, rfl⟩⟩; refine ⟨_, rfl, ?_⟩; refine hK.out _ _ (cy3 BK109.out) (fun hHeld => ?_); clear hK K; refine norm_ (a' := ?_) ?_ ?_
           rotate_left
           ·show Act.put _ (some 17) _ = _
            simp only [Act.put, List.setIfInBounds_toArray, List.set_cons_zero, List.set_cons_succ, i64_w, i32_w]
            rfl
           refine pu_ 3 18 (tf 4 41) rfl rfl ?_; refine pu_ 4 19 (tf 5 40) rfl rfl ?_; refine pu_ 5 20 (tf 6 39) rfl rfl ?_; refine ta3_ 6 21 (tf 7 38) rfl rfl ?_; refine one_ (i := 7) (N := some 22) (tf 8 37) rfl rfl (one_of HT_.out (by kernel_rfl)) (by decide) (fun K hK => ?_); refine goes_ Try.func63 (by kernel_rfl) rfl #[.string ((rd_T42 l0 x3_1).f1)] (by rfl) rfl rfl (by (try simp only [List.map_toArray, List.map_cons, List.map_nil]); first | done | rfl | (simp only [List.length_drop, List.length_take]; rfl)) ?_; with_reducible refine (spec_IsWord.calls k1 ((rd_T42 l0 x3_1).f1) true _ A6.out).mono ?_
           rintro e w' ⟨rfl, ⟨nd, rfl⟩⟩; refine ⟨_, rfl, ?_⟩; refine hK.out _ _ (cy3 BK109.out) (fun hHeld => ?_); clear hK K; refine norm_ (a' := ?_) ?_ ?_
           rotate_left
           ·show Act.put _ (some 22) _ = _
            simp only [Act.put, List.setIfInBounds_toArray, List.set_cons_zero, List.set_cons_succ, i64_w, i32_w]
            rfl
           refine pu_ 8 23 (tf 9 36) rfl rfl ?_; refine pu_ 9 24 (tf 10 35) rfl rfl ?_; refine pu_ 10 25 (tf 11 34) rfl rfl ?_; refine pu_ 11 26 (tf 12 33) rfl rfl ?_; refine ta3_ 12 27 (tf 13 32) rfl rfl ?_; refine one_ (i := 13) (N := some 28) (tf 14 31) rfl rfl (one_of HT_.out (by kernel_rfl)) (by decide) (fun K hK => ?_); refine goes_ Try.func64 (by kernel_rfl) rfl #[.int .i64 ((rd_T42 l0 x3_1).f2), .int .i64 (-1000), .int .i64 1000] (by rfl) rfl rfl (by (try simp only [List.map_toArray, List.map_cons, List.map_nil]); first | done | rfl | (simp only [List.length_drop, List.length_take]; rfl)) ?_; with_reducible refine (spec_l01In.calls ((rd_T42 l0 x3_1).f2) (-1000) 1000 true _ A8.out).mono ?_
           rintro e w' ⟨rfl, ⟨nd, rfl⟩⟩; refine ⟨_, rfl, ?_⟩; refine hK.out _ _ (cy3 BK109.out) (fun hHeld => ?_); clear hK K; refine norm_ (a' := ?_) ?_ ?_
           rotate_left
           ·show Act.put _ (some 28) _ = _
            simp only [Act.put, List.setIfInBounds_toArray, List.set_cons_zero, List.set_cons_succ, i64_w, i32_w]
            rfl
           refine pu_ 14 29 (tf 15 30) rfl rfl ?_; refine pu_ 15 30 (tf 16 29) rfl rfl ?_; refine pu_ 16 31 (tf 17 28) rfl rfl ?_; refine pu_ 17 32 (tf 18 27) rfl rfl ?_; refine ta3_ 18 33 (tf 19 26) rfl rfl ?_; refine pu_ 19 34 (tf 20 25) rfl rfl ?_; refine pu_ 20 35 (tf 21 24) rfl rfl ?_; refine pu_ 21 36 (tf 22 23) rfl rfl ?_; refine pu_ 22 37 (tf 23 22) rfl rfl ?_; refine pu_ 23 38 (tf 24 21) rfl rfl ?_; refine pu_ 24 39 (tf 25 20) rfl rfl ?_; refine un_ 25 40 (tf 26 19) rfl rfl ?_; refine un_ 26 41 (tf 27 18) rfl rfl ?_; refine un_ 27 42 (tf 28 17) rfl rfl ?_; refine un_ 28 43 (tf 29 16) rfl rfl ?_; refine un_ 29 44 (tf 30 15) rfl rfl ?_; refine un_ 30 45 (tf 31 14) rfl rfl ?_; refine un_ 31 46 (tf 32 13) rfl rfl ?_; refine un_ 32 47 (tf 33 12) rfl rfl ?_; refine un_ 33 48 (tf 34 11) rfl rfl ?_; refine pu_ 34 49 (tf 35 10) rfl rfl ?_; refine pu_ 35 50 (tf 36 9) rfl rfl ?_; refine pu_ 36 51 (tf 37 8) rfl rfl ?_; refine pu_ 37 52 (tf 38 7) rfl rfl ?_; refine pu_ 38 53 (tf 39 6) rfl rfl ?_; refine pu_ 40 55 #[true, true, true, true, true, true, true, true, true, true, true, true, true, true, true, true, true, true, true, true, true, true, true, true, true, true, true, true, true, true, true, true, true, true, true, true, true, true, true, false, true, false, false, false, false] rfl rfl ?_; refine pu_ 41 56 #[true, true, true, true, true, true, true, true, true, true, true, true, true, true, true, true, true, true, true, true, true, true, true, true, true, true, true, true, true, true, true, true, true, true, true, true, true, true, true, false, true, true, false, false, false] rfl rfl ?_
           refine ta3_ 39 54 (tf 42 3) rfl rfl ?_; refine one_ (i := 42) (N := some 57) (tf 43 2) rfl rfl (one_of HT_.out (by kernel_rfl)) (by decide) (fun K hK => ?_); refine goes_ Try.func65 (by kernel_rfl) rfl #[.slice (some ad108) l0.length c0, .string ((rd_T42 l0 x3_1).f1), .int .i64 (wrap64 (x3_1 + 1))] (by rfl) rfl rfl (by (try simp only [List.map_toArray, List.map_cons, List.map_nil]); first | done | rfl | (simp only [List.length_drop, List.length_take]; rfl)) ?_; with_reducible refine (spec_l20People.calls k1 _ _ l0 ((rd_T42 l0 x3_1).f1) (wrap64 (x3_1 + 1)) t115 _ ?side1 ?side2 A34.out).mono ?_
           (case side1 => exact vd HR0.out (vb HB.out))
           (case side2 => exact HC0.out)
           rintro e w' ⟨rfl, ⟨nd, rfl⟩⟩; refine ⟨_, rfl, ?_⟩; refine hK.out _ _ (cy3 BK109.out) (fun hHeld => ?_); clear hK K; refine norm_ (a' := ?_) ?_ ?_
           rotate_left
           ·show Act.put _ (some 57) _ = _
            simp only [Act.put, List.setIfInBounds_toArray, List.set_cons_zero, List.set_cons_succ, i64_w, i32_w]
            rfl
           refine pu_ 43 58 (tf 44 1) rfl rfl ?_; refine pu_ 44 59 (tf 45 0) rfl rfl ?_; refine done_ (done_of HT_.out (by kernel_rfl)) ?_; (try go_wp2)
           go_ret
           exact ⟨ew, vb HB.out⟩
          ·rw [if_neg c35] at H; have c35b0 := decide_eq_false c35; clear c35; have H' := ak H; clear H; have p108 : 0 ≤ (x3_1 : Int) := od; have q108 : x3_1 < (l0.length : Int) := od; obtain ⟨ad108, e108, hx108_0, hx108_1, hx108_2⟩ := at_T42 HR0.out x3_1 p108 q108
           cases e108; replace hx108_0 := cb HB.out hx108_0; replace hx108_1 := cb HB.out hx108_1; replace hx108_2 := cb HB.out hx108_2; replace p108 := eq_true p108; replace q108 := eq_true q108; (try go_wp2_with (first | ((with_reducible refine gate_dst (N := 4) rfl ?_); refine bx 4 #[.int .i64 0, .string (⟨#[]⟩ : ByteArray), .int .i64 0] 42 ?_; intro gb109 hg w40 hbox hb; have BK109 := ak hbox; have GW109 := gw hg HB; have GE109 := gw hg HB; replace HB := bs HB hb; clear hb hbox hg; have hcz41 := cz3 BK109.out)))
           have n0_ : Aside0 ((((w40.setCell ⟨gb109, 0, none⟩ (.int .i64 ((rd_T42 l0 x3_1).f0))).setCell ⟨gb109, 1, none⟩ (.string ((rd_T42 l0 x3_1).f1))).setCell ⟨gb109, 2, none⟩ (.int .i64 ((rd_T42 l0 x3_1).f2))).heap[gb109]? = some (.cells #[.int .i64 ((rd_T42 l0 x3_1).f0), .string ((rd_T42 l0 x3_1).f1), .int .i64 ((rd_T42 l0 x3_1).f2)] 42 (0, 0))) := ⟨by (with_reducible repeat (first | refine blk_drewN ?_ _ | refine blk_drew ?_ | refine blk_alloc ?_ _)); refine blk_put (cs := #[.int .i64 ((rd_T42 l0 x3_1).f0), .string ((rd_T42 l0 x3_1).f1), .int .i64 0]) ?_ 2 _ rfl; (with_reducible repeat (first | refine blk_drewN ?_ _ | refine blk_drew ?_ | refine blk_alloc ?_ _)); refine blk_put (cs := #[.int .i64 ((rd_T42 l0 x3_1).f0), .string (⟨#[]⟩ : ByteArray), .int .i64 0]) ?_ 1 _ rfl; (with_reducible repeat (first | refine blk_drewN ?_ _ | refine blk_drew ?_ | refine blk_alloc ?_ _)); refine blk_put (cs := #[.int .i64 0, .string (⟨#[]⟩ : ByteArray), .int .i64 0]) ?_ 0 _ rfl; (with_reducible repeat (first | refine blk_drewN ?_ _ | refine blk_drew ?_ | refine blk_alloc ?_ _)); exact BK109.out⟩; have n1_ : Aside0 (Below w.heap.size w (((w40.setCell ⟨gb109, 0, none⟩ (.int .i64 ((rd_T42 l0 x3_1).f0))).setCell ⟨gb109, 1, none⟩ (.string ((rd_T42 l0 x3_1).f1))).setCell ⟨gb109, 2, none⟩ (.int .i64 ((rd_T42 l0 x3_1).f2)))) := ⟨vb HB.out⟩; (try clear BK109)
           (try clear HB)
           generalize (((w40.setCell ⟨gb109, 0, none⟩ (.int .i64 ((rd_T42 l0 x3_1).f0))).setCell ⟨gb109, 1, none⟩ (.string ((rd_T42 l0 x3_1).f1))).setCell ⟨gb109, 2, none⟩ (.int .i64 ((rd_T42 l0 x3_1).f2))) = w42 at n0_ n1_ ⊢; have BK109 := n0_; have HB := n1_; clear n0_ n1_; replace BK109 := ak (blk_drew BK109.out); replace HB := ak (below_drew1 HB.out); refine start_ (n := 45) (S := fun w' => w'.cell? ⟨gb109, 0, none⟩ = some (.int .i64 ((rd_T42 l0 x3_1).f0)) ∧ w'.cell? ⟨gb109, 1, none⟩ = some (.string ((rd_T42 l0 x3_1).f1)) ∧ w'.cell? ⟨gb109, 2, none⟩ = some (.int .i64 ((rd_T42 l0 x3_1).f2))) (ds := []) (tf 0 45) (by kernel_rfl) rfl rfl (cy3 BK109.out) (fun hHeld => ?_); refine with_tabW spec_AreMoves.tab5 spec_AreMoves.bits5 (fun HT_ HW_ => ?_); generalize w42.drew = w43 at BK109 HB hHeld ⊢; refine pu_ 0 15 (tf 1 44) rfl rfl ?_; refine ta3_ 1 16 (tf 2 43) rfl rfl ?_; refine one_ (i := 2) (N := some 17) (tf 3 42) rfl rfl (one_of HT_.out (by kernel_rfl)) (by decide) (fun K hK => ?_); refine goes_ Try.func62 (by kernel_rfl) rfl #[.int .i64 ((rd_T42 l0 x3_1).f0)] (by rfl) rfl rfl (by (try simp only [List.map_toArray, List.map_cons, List.map_nil]); first | done | rfl | (simp only [List.length_drop, List.length_take]; rfl)) ?_; with_reducible refine (spec_l01IsTime.calls ((rd_T42 l0 x3_1).f0) true _ A4.out).mono ?_
           rintro e w' ⟨rfl, ⟨nd, rfl⟩⟩; refine ⟨_, rfl, ?_⟩; refine hK.out _ _ (cy3 BK109.out) (fun hHeld => ?_); clear hK K; refine norm_ (a' := ?_) ?_ ?_
           rotate_left
           ·show Act.put _ (some 17) _ = _
            simp only [Act.put, List.setIfInBounds_toArray, List.set_cons_zero, List.set_cons_succ, i64_w, i32_w]
            rfl
           refine pu_ 3 18 (tf 4 41) rfl rfl ?_; refine pu_ 4 19 (tf 5 40) rfl rfl ?_; refine pu_ 5 20 (tf 6 39) rfl rfl ?_; refine ta3_ 6 21 (tf 7 38) rfl rfl ?_; refine one_ (i := 7) (N := some 22) (tf 8 37) rfl rfl (one_of HT_.out (by kernel_rfl)) (by decide) (fun K hK => ?_); refine goes_ Try.func63 (by kernel_rfl) rfl #[.string ((rd_T42 l0 x3_1).f1)] (by rfl) rfl rfl (by (try simp only [List.map_toArray, List.map_cons, List.map_nil]); first | done | rfl | (simp only [List.length_drop, List.length_take]; rfl)) ?_; with_reducible refine (spec_IsWord.calls k1 ((rd_T42 l0 x3_1).f1) true _ A6.out).mono ?_
           rintro e w' ⟨rfl, ⟨nd, rfl⟩⟩; refine ⟨_, rfl, ?_⟩; refine hK.out _ _ (cy3 BK109.out) (fun hHeld => ?_); clear hK K; refine norm_ (a' := ?_) ?_ ?_
           rotate_left
           ·show Act.put _ (some 22) _ = _
            simp only [Act.put, List.setIfInBounds_toArray, List.set_cons_zero, List.set_cons_succ, i64_w, i32_w]
            rfl
           refine pu_ 8 23 (tf 9 36) rfl rfl ?_; refine pu_ 9 24 (tf 10 35) rfl rfl ?_; refine pu_ 10 25 (tf 11 34) rfl rfl ?_; refine pu_ 11 26 (tf 12 33) rfl rfl ?_; refine ta3_ 12 27 (tf 13 32) rfl rfl ?_; refine one_ (i := 13) (N := some 28) (tf 14 31) rfl rfl (one_of HT_.out (by kernel_rfl)) (by decide) (fun K hK => ?_); refine goes_ Try.func64 (by kernel_rfl) rfl #[.int .i64 ((rd_T42 l0 x3_1).f2), .int .i64 (-1000), .int .i64 1000] (by rfl) rfl rfl (by (try simp only [List.map_toArray, List.map_cons, List.map_nil]); first | done | rfl | (simp only [List.length_drop, List.length_take]; rfl)) ?_; with_reducible refine (spec_l01In.calls ((rd_T42 l0 x3_1).f2) (-1000) 1000 true _ A8.out).mono ?_
           rintro e w' ⟨rfl, ⟨nd, rfl⟩⟩; refine ⟨_, rfl, ?_⟩; refine hK.out _ _ (cy3 BK109.out) (fun hHeld => ?_); clear hK K; refine norm_ (a' := ?_) ?_ ?_
           rotate_left
           ·show Act.put _ (some 28) _ = _
            simp only [Act.put, List.setIfInBounds_toArray, List.set_cons_zero, List.set_cons_succ, i64_w, i32_w]
            rfl
           refine pu_ 14 29 (tf 15 30) rfl rfl ?_; refine pu_ 15 30 (tf 16 29) rfl rfl ?_; refine pu_ 16 31 (tf 17 28) rfl rfl ?_; refine pu_ 17 32 (tf 18 27) rfl rfl ?_; refine ta3_ 18 33 (tf 19 26) rfl rfl ?_; refine pu_ 19 34 (tf 20 25) rfl rfl ?_; refine pu_ 20 35 (tf 21 24) rfl rfl ?_; refine pu_ 21 36 (tf 22 23) rfl rfl ?_; refine pu_ 22 37 (tf 23 22) rfl rfl ?_; refine pu_ 23 38 (tf 24 21) rfl rfl ?_; refine pu_ 24 39 (tf 25 20) rfl rfl ?_; refine un_ 25 40 (tf 26 19) rfl rfl ?_; refine un_ 26 41 (tf 27 18) rfl rfl ?_; refine un_ 27 42 (tf 28 17) rfl rfl ?_; refine un_ 28 43 (tf 29 16) rfl rfl ?_; refine un_ 29 44 (tf 30 15) rfl rfl ?_; refine un_ 30 45 (tf 31 14) rfl rfl ?_; refine un_ 31 46 (tf 32 13) rfl rfl ?_; refine un_ 32 47 (tf 33 12) rfl rfl ?_; refine un_ 33 48 (tf 34 11) rfl rfl ?_; refine pu_ 34 49 (tf 35 10) rfl rfl ?_; refine pu_ 35 50 (tf 36 9) rfl rfl ?_; refine pu_ 36 51 (tf 37 8) rfl rfl ?_; refine pu_ 37 52 (tf 38 7) rfl rfl ?_; refine pu_ 38 53 (tf 39 6) rfl rfl ?_; refine pu_ 40 55 #[true, true, true, true, true, true, true, true, true, true, true, true, true, true, true, true, true, true, true, true, true, true, true, true, true, true, true, true, true, true, true, true, true, true, true, true, true, true, true, false, true, false, false, false, false] rfl rfl ?_; refine pu_ 41 56 #[true, true, true, true, true, true, true, true, true, true, true, true, true, true, true, true, true, true, true, true, true, true, true, true, true, true, true, true, true, true, true, true, true, true, true, true, true, true, true, false, true, true, false, false, false] rfl rfl ?_
           refine ta3_ 39 54 (tf 42 3) rfl rfl ?_; refine one_ (i := 42) (N := some 57) (tf 43 2) rfl rfl (one_of HT_.out (by kernel_rfl)) (by decide) (fun K hK => ?_); refine goes_ Try.func65 (by kernel_rfl) rfl #[.slice (some ad108) l0.length c0, .string ((rd_T42 l0 x3_1).f1), .int .i64 (wrap64 (x3_1 + 1))] (by rfl) rfl rfl (by (try simp only [List.map_toArray, List.map_cons, List.map_nil]); first | done | rfl | (simp only [List.length_drop, List.length_take]; rfl)) ?_; with_reducible refine (spec_l20People.calls k1 _ _ l0 ((rd_T42 l0 x3_1).f1) (wrap64 (x3_1 + 1)) t115 _ ?side1 ?side2 A34.out).mono ?_
           (case side1 => exact vd HR0.out (vb HB.out))
           (case side2 => exact HC0.out)
           rintro e w' ⟨rfl, ⟨nd, rfl⟩⟩; refine ⟨_, rfl, ?_⟩; refine hK.out _ _ (cy3 BK109.out) (fun hHeld => ?_); clear hK K; refine norm_ (a' := ?_) ?_ ?_
           rotate_left
           ·show Act.put _ (some 57) _ = _
            simp only [Act.put, List.setIfInBounds_toArray, List.set_cons_zero, List.set_cons_succ, i64_w, i32_w]
            rfl
           refine pu_ 43 58 (tf 44 1) rfl rfl ?_; refine pu_ 44 59 (tf 45 0) rfl rfl ?_; refine done_ (done_of HT_.out (by kernel_rfl)) ?_; (try go_wp2)
           go_roundg k1
           case measure => have := HK1.out; omega
           case rel => exact ⟨(wrap64 (x3_1 + 1)), (by first | rfl | (simp; done) | (simp [*]; done)), H', ⟨by have := HK1.out; omega⟩, ⟨vb HB.out⟩⟩
       ·replace c9 := Bool.eq_false_iff.mpr c9; subst c9; rw [if_neg nf] at H; obtain rfl := Option.some.inj H; have p108 : 0 ≤ (x3_1 : Int) := od; have q108 : x3_1 < (l0.length : Int) := od; obtain ⟨ad108, e108, hx108_0, hx108_1, hx108_2⟩ := at_T42 HR0.out x3_1 p108 q108
        cases e108; replace hx108_0 := cb HB.out hx108_0; replace hx108_1 := cb HB.out hx108_1; replace hx108_2 := cb HB.out hx108_2; replace p108 := eq_true p108; replace q108 := eq_true q108; (try go_wp2_with (first | ((with_reducible refine gate_dst (N := 4) rfl ?_); refine bx 4 #[.int .i64 0, .string (⟨#[]⟩ : ByteArray), .int .i64 0] 42 ?_; intro gb109 hg w44 hbox hb; have BK109 := ak hbox; have GW109 := gw hg HB; have GE109 := gw hg HB; replace HB := bs HB hb; clear hb hbox hg; have hcz45 := cz3 BK109.out)))
        have n0_ : Aside0 ((((w44.setCell ⟨gb109, 0, none⟩ (.int .i64 ((rd_T42 l0 x3_1).f0))).setCell ⟨gb109, 1, none⟩ (.string ((rd_T42 l0 x3_1).f1))).setCell ⟨gb109, 2, none⟩ (.int .i64 ((rd_T42 l0 x3_1).f2))).heap[gb109]? = some (.cells #[.int .i64 ((rd_T42 l0 x3_1).f0), .string ((rd_T42 l0 x3_1).f1), .int .i64 ((rd_T42 l0 x3_1).f2)] 42 (0, 0))) := ⟨by (with_reducible repeat (first | refine blk_drewN ?_ _ | refine blk_drew ?_ | refine blk_alloc ?_ _)); refine blk_put (cs := #[.int .i64 ((rd_T42 l0 x3_1).f0), .string ((rd_T42 l0 x3_1).f1), .int .i64 0]) ?_ 2 _ rfl; (with_reducible repeat (first | refine blk_drewN ?_ _ | refine blk_drew ?_ | refine blk_alloc ?_ _)); refine blk_put (cs := #[.int .i64 ((rd_T42 l0 x3_1).f0), .string (⟨#[]⟩ : ByteArray), .int .i64 0]) ?_ 1 _ rfl; (with_reducible repeat (first | refine blk_drewN ?_ _ | refine blk_drew ?_ | refine blk_alloc ?_ _)); refine blk_put (cs := #[.int .i64 0, .string (⟨#[]⟩ : ByteArray), .int .i64 0]) ?_ 0 _ rfl; (with_reducible repeat (first | refine blk_drewN ?_ _ | refine blk_drew ?_ | refine blk_alloc ?_ _)); exact BK109.out⟩; have n1_ : Aside0 (Below w.heap.size w (((w44.setCell ⟨gb109, 0, none⟩ (.int .i64 ((rd_T42 l0 x3_1).f0))).setCell ⟨gb109, 1, none⟩ (.string ((rd_T42 l0 x3_1).f1))).setCell ⟨gb109, 2, none⟩ (.int .i64 ((rd_T42 l0 x3_1).f2)))) := ⟨vb HB.out⟩; (try clear BK109)
        (try clear HB)
        generalize (((w44.setCell ⟨gb109, 0, none⟩ (.int .i64 ((rd_T42 l0 x3_1).f0))).setCell ⟨gb109, 1, none⟩ (.string ((rd_T42 l0 x3_1).f1))).setCell ⟨gb109, 2, none⟩ (.int .i64 ((rd_T42 l0 x3_1).f2))) = w46 at n0_ n1_ ⊢; have BK109 := n0_; have HB := n1_; clear n0_ n1_; replace BK109 := ak (blk_drew BK109.out); replace HB := ak (below_drew1 HB.out); refine start_ (n := 45) (S := fun w' => w'.cell? ⟨gb109, 0, none⟩ = some (.int .i64 ((rd_T42 l0 x3_1).f0)) ∧ w'.cell? ⟨gb109, 1, none⟩ = some (.string ((rd_T42 l0 x3_1).f1)) ∧ w'.cell? ⟨gb109, 2, none⟩ = some (.int .i64 ((rd_T42 l0 x3_1).f2))) (ds := []) (tf 0 45) (by kernel_rfl) rfl rfl (cy3 BK109.out) (fun hHeld => ?_); refine with_tabW spec_AreMoves.tab5 spec_AreMoves.bits5 (fun HT_ HW_ => ?_); generalize w46.drew = w47 at BK109 HB hHeld ⊢; refine pu_ 0 15 (tf 1 44) rfl rfl ?_; refine ta3_ 1 16 (tf 2 43) rfl rfl ?_; refine one_ (i := 2) (N := some 17) (tf 3 42) rfl rfl (one_of HT_.out (by kernel_rfl)) (by decide) (fun K hK => ?_); refine goes_ Try.func62 (by kernel_rfl) rfl #[.int .i64 ((rd_T42 l0 x3_1).f0)] (by rfl) rfl rfl (by (try simp only [List.map_toArray, List.map_cons, List.map_nil]); first | done | rfl | (simp only [List.length_drop, List.length_take]; rfl)) ?_; with_reducible refine (spec_l01IsTime.calls ((rd_T42 l0 x3_1).f0) true _ A4.out).mono ?_
        rintro e w' ⟨rfl, ⟨nd, rfl⟩⟩; refine ⟨_, rfl, ?_⟩; refine hK.out _ _ (cy3 BK109.out) (fun hHeld => ?_); clear hK K; refine norm_ (a' := ?_) ?_ ?_
        rotate_left
        ·show Act.put _ (some 17) _ = _
         simp only [Act.put, List.setIfInBounds_toArray, List.set_cons_zero, List.set_cons_succ, i64_w, i32_w]
         rfl
        refine pu_ 3 18 (tf 4 41) rfl rfl ?_; refine pu_ 4 19 (tf 5 40) rfl rfl ?_; refine pu_ 5 20 (tf 6 39) rfl rfl ?_; refine ta3_ 6 21 (tf 7 38) rfl rfl ?_; refine one_ (i := 7) (N := some 22) (tf 8 37) rfl rfl (one_of HT_.out (by kernel_rfl)) (by decide) (fun K hK => ?_); refine goes_ Try.func63 (by kernel_rfl) rfl #[.string ((rd_T42 l0 x3_1).f1)] (by rfl) rfl rfl (by (try simp only [List.map_toArray, List.map_cons, List.map_nil]); first | done | rfl | (simp only [List.length_drop, List.length_take]; rfl)) ?_; with_reducible refine (spec_IsWord.calls k1 ((rd_T42 l0 x3_1).f1) true _ A6.out).mono ?_
        rintro e w' ⟨rfl, ⟨nd, rfl⟩⟩; refine ⟨_, rfl, ?_⟩; refine hK.out _ _ (cy3 BK109.out) (fun hHeld => ?_); clear hK K; refine norm_ (a' := ?_) ?_ ?_
        rotate_left
        ·show Act.put _ (some 22) _ = _
         simp only [Act.put, List.setIfInBounds_toArray, List.set_cons_zero, List.set_cons_succ, i64_w, i32_w]
         rfl
        refine pu_ 8 23 (tf 9 36) rfl rfl ?_; refine pu_ 9 24 (tf 10 35) rfl rfl ?_; refine pu_ 10 25 (tf 11 34) rfl rfl ?_; refine pu_ 11 26 (tf 12 33) rfl rfl ?_; refine ta3_ 12 27 (tf 13 32) rfl rfl ?_; refine one_ (i := 13) (N := some 28) (tf 14 31) rfl rfl (one_of HT_.out (by kernel_rfl)) (by decide) (fun K hK => ?_); refine goes_ Try.func64 (by kernel_rfl) rfl #[.int .i64 ((rd_T42 l0 x3_1).f2), .int .i64 (-1000), .int .i64 1000] (by rfl) rfl rfl (by (try simp only [List.map_toArray, List.map_cons, List.map_nil]); first | done | rfl | (simp only [List.length_drop, List.length_take]; rfl)) ?_; with_reducible refine (spec_l01In.calls ((rd_T42 l0 x3_1).f2) (-1000) 1000 false _ A8.out).mono ?_
        rintro e w' ⟨rfl, ⟨nd, rfl⟩⟩; refine ⟨_, rfl, ?_⟩; refine hK.out _ _ (cy3 BK109.out) (fun hHeld => ?_); clear hK K; refine norm_ (a' := ?_) ?_ ?_
        rotate_left
        ·show Act.put _ (some 28) _ = _
         simp only [Act.put, List.setIfInBounds_toArray, List.set_cons_zero, List.set_cons_succ, i64_w, i32_w]
         rfl
        refine pu_ 14 29 (tf 15 30) rfl rfl ?_; refine pu_ 15 30 (tf 16 29) rfl rfl ?_; refine pu_ 16 31 (tf 17 28) rfl rfl ?_; refine un_ 17 32 (tf 18 27) rfl rfl ?_; refine un_ 18 33 (tf 19 26) rfl rfl ?_; refine un_ 19 34 (tf 20 25) rfl rfl ?_; refine pu_ 20 35 (tf 21 24) rfl rfl ?_; refine pu_ 21 36 (tf 22 23) rfl rfl ?_; refine un_ 22 37 (tf 23 22) rfl rfl ?_; refine un_ 23 38 (tf 24 21) rfl rfl ?_; refine un_ 24 39 (tf 25 20) rfl rfl ?_; refine un_ 25 40 (tf 26 19) rfl rfl ?_; refine un_ 26 41 (tf 27 18) rfl rfl ?_; refine un_ 27 42 (tf 28 17) rfl rfl ?_; refine un_ 28 43 (tf 29 16) rfl rfl ?_; refine un_ 29 44 (tf 30 15) rfl rfl ?_; refine un_ 30 45 (tf 31 14) rfl rfl ?_; refine un_ 31 46 (tf 32 13) rfl rfl ?_; refine un_ 32 47 (tf 33 12) rfl rfl ?_; refine un_ 33 48 (tf 34 11) rfl rfl ?_; refine un_ 34 49 (tf 35 10) rfl rfl ?_; refine pu_ 35 50 (tf 36 9) rfl rfl ?_; refine pu_ 36 51 (tf 37 8) rfl rfl ?_; refine un_ 37 52 (tf 38 7) rfl rfl ?_; refine un_ 38 53 (tf 39 6) rfl rfl ?_; refine un_ 39 54 (tf 40 5) rfl rfl ?_; refine un_ 40 55 (tf 41 4) rfl rfl ?_; refine un_ 41 56 (tf 42 3) rfl rfl ?_; refine un_ 42 57 (tf 43 2) rfl rfl ?_; refine un_ 43 58 (tf 44 1) rfl rfl ?_; refine pu_ 44 59 (tf 45 0) rfl rfl ?_; refine done_ (done_of HT_.out (by kernel_rfl)) ?_; (try go_wp2)
        go_ret
        exact ⟨ew, vb HB.out⟩
      ·replace c7 := Bool.eq_false_iff.mpr c7; subst c7; rw [if_neg nf] at H; obtain rfl := Option.some.inj H; have p108 : 0 ≤ (x3_1 : Int) := od; have q108 : x3_1 < (l0.length : Int) := od; obtain ⟨ad108, e108, hx108_0, hx108_1, hx108_2⟩ := at_T42 HR0.out x3_1 p108 q108
       cases e108; replace hx108_0 := cb HB.out hx108_0; replace hx108_1 := cb HB.out hx108_1; replace hx108_2 := cb HB.out hx108_2; replace p108 := eq_true p108; replace q108 := eq_true q108; (try go_wp2_with (first | ((with_reducible refine gate_dst (N := 4) rfl ?_); refine bx 4 #[.int .i64 0, .string (⟨#[]⟩ : ByteArray), .int .i64 0] 42 ?_; intro gb109 hg w48 hbox hb; have BK109 := ak hbox; have GW109 := gw hg HB; have GE109 := gw hg HB; replace HB := bs HB hb; clear hb hbox hg; have hcz49 := cz3 BK109.out)))
       have n0_ : Aside0 ((((w48.setCell ⟨gb109, 0, none⟩ (.int .i64 ((rd_T42 l0 x3_1).f0))).setCell ⟨gb109, 1, none⟩ (.string ((rd_T42 l0 x3_1).f1))).setCell ⟨gb109, 2, none⟩ (.int .i64 ((rd_T42 l0 x3_1).f2))).heap[gb109]? = some (.cells #[.int .i64 ((rd_T42 l0 x3_1).f0), .string ((rd_T42 l0 x3_1).f1), .int .i64 ((rd_T42 l0 x3_1).f2)] 42 (0, 0))) := ⟨by (with_reducible repeat (first | refine blk_drewN ?_ _ | refine blk_drew ?_ | refine blk_alloc ?_ _)); refine blk_put (cs := #[.int .i64 ((rd_T42 l0 x3_1).f0), .string ((rd_T42 l0 x3_1).f1), .int .i64 0]) ?_ 2 _ rfl; (with_reducible repeat (first | refine blk_drewN ?_ _ | refine blk_drew ?_ | refine blk_alloc ?_ _)); refine blk_put (cs := #[.int .i64 ((rd_T42 l0 x3_1).f0), .string (⟨#[]⟩ : ByteArray), .int .i64 0]) ?_ 1 _ rfl; (with_reducible repeat (first | refine blk_drewN ?_ _ | refine blk_drew ?_ | refine blk_alloc ?_ _)); refine blk_put (cs := #[.int .i64 0, .string (⟨#[]⟩ : ByteArray), .int .i64 0]) ?_ 0 _ rfl; (with_reducible repeat (first | refine blk_drewN ?_ _ | refine blk_drew ?_ | refine blk_alloc ?_ _)); exact BK109.out⟩; have n1_ : Aside0 (Below w.heap.size w (((w48.setCell ⟨gb109, 0, none⟩ (.int .i64 ((rd_T42 l0 x3_1).f0))).setCell ⟨gb109, 1, none⟩ (.string ((rd_T42 l0 x3_1).f1))).setCell ⟨gb109, 2, none⟩ (.int .i64 ((rd_T42 l0 x3_1).f2)))) := ⟨vb HB.out⟩; (try clear BK109)
       (try clear HB)
       generalize (((w48.setCell ⟨gb109, 0, none⟩ (.int .i64 ((rd_T42 l0 x3_1).f0))).setCell ⟨gb109, 1, none⟩ (.string ((rd_T42 l0 x3_1).f1))).setCell ⟨gb109, 2, none⟩ (.int .i64 ((rd_T42 l0 x3_1).f2))) = w50 at n0_ n1_ ⊢; have BK109 := n0_; have HB := n1_; clear n0_ n1_; replace BK109 := ak (blk_drew BK109.out); replace HB := ak (below_drew1 HB.out); refine start_ (n := 45) (S := fun w' => w'.cell? ⟨gb109, 0, none⟩ = some (.int .i64 ((rd_T42 l0 x3_1).f0)) ∧ w'.cell? ⟨gb109, 1, none⟩ = some (.string ((rd_T42 l0 x3_1).f1)) ∧ w'.cell? ⟨gb109, 2, none⟩ = some (.int .i64 ((rd_T42 l0 x3_1).f2))) (ds := []) (tf 0 45) (by kernel_rfl) rfl rfl (cy3 BK109.out) (fun hHeld => ?_); refine with_tabW spec_AreMoves.tab5 spec_AreMoves.bits5 (fun HT_ HW_ => ?_); generalize w50.drew = w51 at BK109 HB hHeld ⊢; refine pu_ 0 15 (tf 1 44) rfl rfl ?_; refine ta3_ 1 16 (tf 2 43) rfl rfl ?_; refine one_ (i := 2) (N := some 17) (tf 3 42) rfl rfl (one_of HT_.out (by kernel_rfl)) (by decide) (fun K hK => ?_); refine goes_ Try.func62 (by kernel_rfl) rfl #[.int .i64 ((rd_T42 l0 x3_1).f0)] (by rfl) rfl rfl (by (try simp only [List.map_toArray, List.map_cons, List.map_nil]); first | done | rfl | (simp only [List.length_drop, List.length_take]; rfl)) ?_; with_reducible refine (spec_l01IsTime.calls ((rd_T42 l0 x3_1).f0) true _ A4.out).mono ?_
       rintro e w' ⟨rfl, ⟨nd, rfl⟩⟩; refine ⟨_, rfl, ?_⟩; refine hK.out _ _ (cy3 BK109.out) (fun hHeld => ?_); clear hK K; refine norm_ (a' := ?_) ?_ ?_
       rotate_left
       ·show Act.put _ (some 17) _ = _
        simp only [Act.put, List.setIfInBounds_toArray, List.set_cons_zero, List.set_cons_succ, i64_w, i32_w]
        rfl
       refine pu_ 3 18 (tf 4 41) rfl rfl ?_; refine pu_ 4 19 (tf 5 40) rfl rfl ?_; refine pu_ 5 20 (tf 6 39) rfl rfl ?_; refine ta3_ 6 21 (tf 7 38) rfl rfl ?_; refine one_ (i := 7) (N := some 22) (tf 8 37) rfl rfl (one_of HT_.out (by kernel_rfl)) (by decide) (fun K hK => ?_); refine goes_ Try.func63 (by kernel_rfl) rfl #[.string ((rd_T42 l0 x3_1).f1)] (by rfl) rfl rfl (by (try simp only [List.map_toArray, List.map_cons, List.map_nil]); first | done | rfl | (simp only [List.length_drop, List.length_take]; rfl)) ?_; with_reducible refine (spec_IsWord.calls k1 ((rd_T42 l0 x3_1).f1) false _ A6.out).mono ?_
       rintro e w' ⟨rfl, ⟨nd, rfl⟩⟩; refine ⟨_, rfl, ?_⟩; refine hK.out _ _ (cy3 BK109.out) (fun hHeld => ?_); clear hK K; refine norm_ (a' := ?_) ?_ ?_
       rotate_left
       ·show Act.put _ (some 22) _ = _
        simp only [Act.put, List.setIfInBounds_toArray, List.set_cons_zero, List.set_cons_succ, i64_w, i32_w]
        rfl
       refine pu_ 8 23 (tf 9 36) rfl rfl ?_; refine pu_ 9 24 (tf 10 35) rfl rfl ?_; refine pu_ 10 25 (tf 11 34) rfl rfl ?_; refine un_ 11 26 (tf 12 33) rfl rfl ?_; refine un_ 12 27 (tf 13 32) rfl rfl ?_; refine un_ 13 28 (tf 14 31) rfl rfl ?_; refine un_ 14 29 (tf 15 30) rfl rfl ?_; refine pu_ 15 30 (tf 16 29) rfl rfl ?_; refine pu_ 16 31 (tf 17 28) rfl rfl ?_; refine un_ 17 32 (tf 18 27) rfl rfl ?_; refine un_ 18 33 (tf 19 26) rfl rfl ?_; refine un_ 19 34 (tf 20 25) rfl rfl ?_; refine pu_ 20 35 (tf 21 24) rfl rfl ?_; refine pu_ 21 36 (tf 22 23) rfl rfl ?_; refine un_ 22 37 (tf 23 22) rfl rfl ?_; refine un_ 23 38 (tf 24 21) rfl rfl ?_; refine un_ 24 39 (tf 25 20) rfl rfl ?_; refine un_ 25 40 (tf 26 19) rfl rfl ?_; refine un_ 26 41 (tf 27 18) rfl rfl ?_; refine un_ 27 42 (tf 28 17) rfl rfl ?_; refine un_ 28 43 (tf 29 16) rfl rfl ?_; refine un_ 29 44 (tf 30 15) rfl rfl ?_; refine un_ 30 45 (tf 31 14) rfl rfl ?_; refine un_ 31 46 (tf 32 13) rfl rfl ?_; refine un_ 32 47 (tf 33 12) rfl rfl ?_; refine un_ 33 48 (tf 34 11) rfl rfl ?_; refine un_ 34 49 (tf 35 10) rfl rfl ?_; refine pu_ 35 50 (tf 36 9) rfl rfl ?_; refine pu_ 36 51 (tf 37 8) rfl rfl ?_; refine un_ 37 52 (tf 38 7) rfl rfl ?_; refine un_ 38 53 (tf 39 6) rfl rfl ?_; refine un_ 39 54 (tf 40 5) rfl rfl ?_; refine un_ 40 55 (tf 41 4) rfl rfl ?_; refine un_ 41 56 (tf 42 3) rfl rfl ?_; refine un_ 42 57 (tf 43 2) rfl rfl ?_; refine un_ 43 58 (tf 44 1) rfl rfl ?_; refine pu_ 44 59 (tf 45 0) rfl rfl ?_; refine done_ (done_of HT_.out (by kernel_rfl)) ?_
       try go_wp2
       go_ret
       exact ⟨ew, vb HB.out⟩
     ·replace c5 := Bool.eq_false_iff.mpr c5; subst c5; rw [if_neg nf] at H; obtain rfl := Option.some.inj H; have p108 : 0 ≤ (x3_1 : Int) := od; have q108 : x3_1 < (l0.length : Int) := od; obtain ⟨ad108, e108, hx108_0, hx108_1, hx108_2⟩ := at_T42 HR0.out x3_1 p108 q108
      cases e108; replace hx108_0 := cb HB.out hx108_0; replace hx108_1 := cb HB.out hx108_1; replace hx108_2 := cb HB.out hx108_2; replace p108 := eq_true p108; replace q108 := eq_true q108; (try go_wp2_with (first | ((with_reducible refine gate_dst (N := 4) rfl ?_); refine bx 4 #[.int .i64 0, .string (⟨#[]⟩ : ByteArray), .int .i64 0] 42 ?_; intro gb109 hg w52 hbox hb; have BK109 := ak hbox; have GW109 := gw hg HB; have GE109 := gw hg HB; replace HB := bs HB hb; clear hb hbox hg; have hcz53 := cz3 BK109.out)))
      have n0_ : Aside0 ((((w52.setCell ⟨gb109, 0, none⟩ (.int .i64 ((rd_T42 l0 x3_1).f0))).setCell ⟨gb109, 1, none⟩ (.string ((rd_T42 l0 x3_1).f1))).setCell ⟨gb109, 2, none⟩ (.int .i64 ((rd_T42 l0 x3_1).f2))).heap[gb109]? = some (.cells #[.int .i64 ((rd_T42 l0 x3_1).f0), .string ((rd_T42 l0 x3_1).f1), .int .i64 ((rd_T42 l0 x3_1).f2)] 42 (0, 0))) := ⟨by (with_reducible repeat (first | refine blk_drewN ?_ _ | refine blk_drew ?_ | refine blk_alloc ?_ _)); refine blk_put (cs := #[.int .i64 ((rd_T42 l0 x3_1).f0), .string ((rd_T42 l0 x3_1).f1), .int .i64 0]) ?_ 2 _ rfl; (with_reducible repeat (first | refine blk_drewN ?_ _ | refine blk_drew ?_ | refine blk_alloc ?_ _)); refine blk_put (cs := #[.int .i64 ((rd_T42 l0 x3_1).f0), .string (⟨#[]⟩ : ByteArray), .int .i64 0]) ?_ 1 _ rfl; (with_reducible repeat (first | refine blk_drewN ?_ _ | refine blk_drew ?_ | refine blk_alloc ?_ _)); refine blk_put (cs := #[.int .i64 0, .string (⟨#[]⟩ : ByteArray), .int .i64 0]) ?_ 0 _ rfl; (with_reducible repeat (first | refine blk_drewN ?_ _ | refine blk_drew ?_ | refine blk_alloc ?_ _)); exact BK109.out⟩; have n1_ : Aside0 (Below w.heap.size w (((w52.setCell ⟨gb109, 0, none⟩ (.int .i64 ((rd_T42 l0 x3_1).f0))).setCell ⟨gb109, 1, none⟩ (.string ((rd_T42 l0 x3_1).f1))).setCell ⟨gb109, 2, none⟩ (.int .i64 ((rd_T42 l0 x3_1).f2)))) := ⟨vb HB.out⟩; (try clear BK109)
      (try clear HB)
      generalize (((w52.setCell ⟨gb109, 0, none⟩ (.int .i64 ((rd_T42 l0 x3_1).f0))).setCell ⟨gb109, 1, none⟩ (.string ((rd_T42 l0 x3_1).f1))).setCell ⟨gb109, 2, none⟩ (.int .i64 ((rd_T42 l0 x3_1).f2))) = w54 at n0_ n1_ ⊢; have BK109 := n0_; have HB := n1_; clear n0_ n1_; replace BK109 := ak (blk_drew BK109.out); replace HB := ak (below_drew1 HB.out); refine start_ (n := 45) (S := fun w' => w'.cell? ⟨gb109, 0, none⟩ = some (.int .i64 ((rd_T42 l0 x3_1).f0)) ∧ w'.cell? ⟨gb109, 1, none⟩ = some (.string ((rd_T42 l0 x3_1).f1)) ∧ w'.cell? ⟨gb109, 2, none⟩ = some (.int .i64 ((rd_T42 l0 x3_1).f2))) (ds := []) (tf 0 45) (by kernel_rfl) rfl rfl (cy3 BK109.out) (fun hHeld => ?_); refine with_tabW spec_AreMoves.tab5 spec_AreMoves.bits5 (fun HT_ HW_ => ?_); generalize w54.drew = w55 at BK109 HB hHeld ⊢; refine pu_ 0 15 (tf 1 44) rfl rfl ?_; refine ta3_ 1 16 (tf 2 43) rfl rfl ?_; refine one_ (i := 2) (N := some 17) (tf 3 42) rfl rfl (one_of HT_.out (by kernel_rfl)) (by decide) (fun K hK => ?_); refine goes_ Try.func62 (by kernel_rfl) rfl #[.int .i64 ((rd_T42 l0 x3_1).f0)] (by rfl) rfl rfl (by (try simp only [List.map_toArray, List.map_cons, List.map_nil]); first | done | rfl | (simp only [List.length_drop, List.length_take]; rfl)) ?_; with_reducible refine (spec_l01IsTime.calls ((rd_T42 l0 x3_1).f0) false _ A4.out).mono ?_
      rintro e w' ⟨rfl, ⟨nd, rfl⟩⟩; refine ⟨_, rfl, ?_⟩; refine hK.out _ _ (cy3 BK109.out) (fun hHeld => ?_); clear hK K; refine norm_ (a' := ?_) ?_ ?_
      rotate_left
      ·show Act.put _ (some 17) _ = _
       simp only [Act.put, List.setIfInBounds_toArray, List.set_cons_zero, List.set_cons_succ, i64_w, i32_w]
       rfl
      refine pu_ 3 18 (tf 4 41) rfl rfl ?_; refine pu_ 4 19 (tf 5 40) rfl rfl ?_; refine un_ 5 20 (tf 6 39) rfl rfl ?_; refine un_ 6 21 (tf 7 38) rfl rfl ?_; refine un_ 7 22 (tf 8 37) rfl rfl ?_; refine un_ 8 23 (tf 9 36) rfl rfl ?_; refine pu_ 9 24 (tf 10 35) rfl rfl ?_; refine pu_ 10 25 (tf 11 34) rfl rfl ?_; refine un_ 11 26 (tf 12 33) rfl rfl ?_; refine un_ 12 27 (tf 13 32) rfl rfl ?_; refine un_ 13 28 (tf 14 31) rfl rfl ?_; refine un_ 14 29 (tf 15 30) rfl rfl ?_; refine pu_ 15 30 (tf 16 29) rfl rfl ?_; refine pu_ 16 31 (tf 17 28) rfl rfl ?_; refine un_ 17 32 (tf 18 27) rfl rfl ?_; refine un_ 18 33 (tf 19 26) rfl rfl ?_; refine un_ 19 34 (tf 20 25) rfl rfl ?_; refine pu_ 20 35 (tf 21 24) rfl rfl ?_; refine pu_ 21 36 (tf 22 23) rfl rfl ?_; refine un_ 22 37 (tf 23 22) rfl rfl ?_; refine un_ 23 38 (tf 24 21) rfl rfl ?_; refine un_ 24 39 (tf 25 20) rfl rfl ?_; refine un_ 25 40 (tf 26 19) rfl rfl ?_; refine un_ 26 41 (tf 27 18) rfl rfl ?_; refine un_ 27 42 (tf 28 17) rfl rfl ?_; refine un_ 28 43 (tf 29 16) rfl rfl ?_; refine un_ 29 44 (tf 30 15) rfl rfl ?_; refine un_ 30 45 (tf 31 14) rfl rfl ?_; refine un_ 31 46 (tf 32 13) rfl rfl ?_; refine un_ 32 47 (tf 33 12) rfl rfl ?_; refine un_ 33 48 (tf 34 11) rfl rfl ?_; refine un_ 34 49 (tf 35 10) rfl rfl ?_; refine pu_ 35 50 (tf 36 9) rfl rfl ?_; refine pu_ 36 51 (tf 37 8) rfl rfl ?_; refine un_ 37 52 (tf 38 7) rfl rfl ?_; refine un_ 38 53 (tf 39 6) rfl rfl ?_; refine un_ 39 54 (tf 40 5) rfl rfl ?_; refine un_ 40 55 (tf 41 4) rfl rfl ?_
      refine un_ 41 56 (tf 42 3) rfl rfl ?_; refine un_ 42 57 (tf 43 2) rfl rfl ?_; refine un_ 43 58 (tf 44 1) rfl rfl ?_; refine pu_ 44 59 (tf 45 0) rfl rfl ?_; refine done_ (done_of HT_.out (by kernel_rfl)) ?_; (try go_wp2)
      go_ret
      exact ⟨ew, vb HB.out⟩
    ·rw [if_neg c3] at H; exact absurd H (by simp)
   ·rw [if_neg c2] at H; have c2b0 := decide_eq_false c2; clear c2; obtain rfl := Option.some.inj H; go_wp2
    go_ret
    exact ⟨ew, vb HB.out⟩


/-! ### impl_isTime: function 68 -/
def impl_isTime.f (a0 : Int) : Option (Bool) := (impl_within.f a0 0 10000000).bind fun t136 => (some t136)
set_option maxHeartbeats 8000000 in
set_option maxRecDepth 100000 in
theorem impl_isTime.calls (a0 : Int) (r : Bool) (w : World) (h : impl_isTime.f a0 = some r) :
  Calls Try.prog 68 #[.int .i64 a0] w fun e w' => e = .returned (.bool r) ∧ Drawn0 w w' := by
 unfold impl_isTime.f at h; have H := h; clear h; obtain ⟨t136, A2, H⟩ := bnk H; obtain rfl := Option.some.inj H; go_enter Try.func68, Try.ntmps68; go_wp2_with (first | ((with_reducible refine at_fn (f := 70) rfl ?_); refine gl (some 4) Try.func70 #[.int .i64 a0, .int .i64 0, .int .i64 10000000] ?_; (with_reducible refine (impl_within.calls a0 0 10000000 t136 _ A2.out).mono ?_); rintro e w' ⟨rfl, ⟨nd, rfl⟩⟩; refine ⟨_, rfl, ?_⟩))
 go_ret
 exact ⟨by first | rfl | (simp; done) | (simp [*]; done), by repeat (first | exact Drawn0.refl _ | apply Drawn0.step)⟩


/-! ### impl_IsWord: function 69 -/
mutual
def impl_IsWord.j0 : Nat → ByteArray → Bool → Option (Bool)
 | 0, _, _ => none
 | k + 1, x0, x11 => if x11 = true then (some false) else (impl_IsWord.l0 k x0 0)
def impl_IsWord.l0 : Nat → ByteArray → Int → Option (Bool)
 | 0, _, _ => none
 | k + 1, x0, x3 => if x3 < (x0.size : Int) then (if 0 ≤ x3 then (if (bt x0 x3) < 97 then (some false) else (if (bt x0 x3) > 122 then (some false) else (impl_IsWord.l0 k x0 (wrap64 (x3 + 1))))) else (none)) else (some true)
end
def impl_IsWord.f (k : Nat) (a0 : ByteArray) : Option (Bool) := if (a0.size : Int) < 1 then (impl_IsWord.j0 k a0 true) else (impl_IsWord.j0 k a0 (decide ((a0.size : Int) > 16)))
theorem impl_IsWord.mono_l : ∀ k, (∀ y0 y1, LeO (impl_IsWord.j0 k y0 y1) (impl_IsWord.j0 (k + 1) y0 y1)) ∧ (∀ y0 y1, LeO (impl_IsWord.l0 k y0 y1) (impl_IsWord.l0 (k + 1) y0 y1))
 | 0 => ⟨fun _ _ r h => by simp [impl_IsWord.j0] at h, fun _ _ r h => by simp [impl_IsWord.l0] at h⟩
 | k + 1 => by
  obtain ⟨ih0, ih1⟩ := impl_IsWord.mono_l k; refine ⟨?_, ?_⟩
  ·intro y0 y1; unfold impl_IsWord.j0
   repeat' first | (with_reducible first | exact ih0 _ _ | exact ih1 _ _ | exact LeO.refl _ | exact LeO.none _ | refine LeO.ite ?_ ?_ | refine LeO.bind ?_ (fun _ => ?_)) | exact ih0 _ _ | exact ih1 _ _ | exact LeO.none _ | refine LeO.ite ?_ ?_ | refine LeO.bind ?_ (fun _ => ?_)
  ·intro y0 y1; unfold impl_IsWord.l0
   repeat' first | (with_reducible first | exact ih0 _ _ | exact ih1 _ _ | exact LeO.refl _ | exact LeO.none _ | refine LeO.ite ?_ ?_ | refine LeO.bind ?_ (fun _ => ?_)) | exact ih0 _ _ | exact ih1 _ _ | exact LeO.none _ | refine LeO.ite ?_ ?_ | refine LeO.bind ?_ (fun _ => ?_)
theorem impl_IsWord.mono : ∀ a0 k, LeO (impl_IsWord.f k a0) (impl_IsWord.f (k + 1) a0) := by
 intro a0 k; obtain ⟨ih0, ih1⟩ := impl_IsWord.mono_l k; unfold impl_IsWord.f
 repeat' first | (with_reducible first | exact ih0 _ _ | exact ih1 _ _ | exact LeO.refl _ | exact LeO.none _ | refine LeO.ite ?_ ?_ | refine LeO.bind ?_ (fun _ => ?_)) | exact ih0 _ _ | exact ih1 _ _ | exact LeO.none _ | refine LeO.ite ?_ ?_ | refine LeO.bind ?_ (fun _ => ?_)
set_option maxHeartbeats 8000000 in
set_option maxRecDepth 100000 in
theorem impl_IsWord.calls (k : Nat) (a0 : ByteArray) (r : Bool) (w : World) (h : impl_IsWord.f k a0 = some r) :
  Calls Try.prog 69 #[.string a0] w fun e w' => e = .returned (.bool r) ∧ Drawn0 w w' := by
 unfold impl_IsWord.f at h; have H := h; clear h; have HC2 := ak H; clear H; go_enter Try.func69, Try.ntmps69; go_upto_region 1 with (fail)
 go_cut [11] (fun v11 wc => ∃ (kq : Nat) (x11_1 : Bool), v11 = .bool x11_1 ∧ Aside0 (impl_IsWord.j0 kq a0 x11_1 = some r) ∧ Aside0 (kq ≤ k) ∧ Drawn0 w wc)
 case first =>
  have H := HC2.out; clear HC2; by_cases c3 : (a0.size : Int) < 1
  ·rw [if_pos c3] at H; have c3b0 := decide_eq_true c3; have c3b1 : decide (a0.size < 1) = true := decide_eq_true (by omega); clear c3; (first | rw [c3b0] | (simp only [i64_w, i32_w]; rw [c3b0]) | skip)
   have H' := ak H; clear H; go_wp2
   go_meet
   case rel => exact ⟨_, (true), (by first | rfl | (simp; done) | (simp [*]; done)), H', ⟨by first | omega | exact Nat.le_refl _⟩, by repeat (first | exact Drawn0.refl _ | apply Drawn0.step)⟩
  ·rw [if_neg c3] at H; have c3b0 := decide_eq_false c3; have c3b1 : decide (a0.size < 1) = false := decide_eq_false (by omega); clear c3; (first | rw [c3b0] | (simp only [i64_w, i32_w]; rw [c3b0]) | skip)
   have H' := ak H; clear H; go_wp2
   go_meet
   case rel => exact ⟨_, (decide ((a0.size : Int) > 16)), (by first | rfl | (simp; done) | (simp [*]; done)), H', ⟨by first | omega | exact Nat.le_refl _⟩, by repeat (first | exact Drawn0.refl _ | apply Drawn0.step)⟩
 case rest =>
  clear HC2; (try clear p2); (try clear c3); (try clear c3b0); (try clear c3b1); obtain ⟨kq, x11_1, rfl, HA, HJ1, ⟨mc1, rfl⟩⟩ := hcut
  cases kq with
  | zero => exact absurd HA.out (by simp [impl_IsWord.j0])
  | succ kj1 =>
   have H := HA.out; clear HA; simp only [impl_IsWord.j0] at H
   by_cases c4 : x11_1 = true
   ·subst c4; rw [if_pos rfl] at H; obtain rfl := Option.some.inj H; go_wp2
    go_ret
    exact ⟨by first | rfl | (simp; done) | (simp [*]; done), by repeat (first | exact Drawn0.refl _ | apply Drawn0.step)⟩
   ·replace c4 := Bool.eq_false_iff.mpr c4; subst c4; rw [if_neg nf] at H; have H' := ak H; clear H; go_wp2
    go_loopg [3] kj1 (fun kq v3 w' => ∃ (x3_2 : Int), v3 = .int .i64 x3_2 ∧ Aside0 (impl_IsWord.l0 kq a0 x3_2 = some r) ∧ Aside0 (kq ≤ kj1) ∧ Drawn0 w w')
    case atStart => exact ⟨(0), (by first | rfl | (simp; done) | (simp [*]; done)), H', ⟨Nat.le_refl _⟩, by repeat (first | exact Drawn0.refl _ | apply Drawn0.step)⟩
    case round =>
     clear H'; (try clear c1); (try clear p2); (try clear c3); (try clear c3b0); (try clear c3b1); (try clear c4); (try clear p2); obtain ⟨x3_2, rfl, HA, HK2, ⟨m2, rfl⟩⟩ := hrel
     cases gk with
     | zero => exact absurd HA.out (by simp [impl_IsWord.l0])
     | succ k2 =>
      have H := HA.out; clear HA; simp only [impl_IsWord.l0] at H
      by_cases c5 : x3_2 < (a0.size : Int)
      ·rw [if_pos c5] at H; have c5b0 := decide_eq_true c5; clear c5; by_cases c6 : 0 ≤ x3_2
       ·rw [if_pos c6] at H; have c6b0 := decide_eq_true c6; clear c6; by_cases c8 : (bt a0 x3_2) < 97
        ·rw [if_pos c8] at H; have c8b0 := decide_eq_true c8; clear c8; obtain rfl := Option.some.inj H; have p7 : 0 ≤ (x3_2 : Int) := od; have q7 : x3_2 < (a0.size : Int) := od; have hx7 := bt_at a0 x3_2; replace p7 := eq_true p7; replace q7 := eq_true q7; go_wp2
         go_ret
         exact ⟨by first | rfl | (simp; done) | (simp [*]; done), by repeat (first | exact Drawn0.refl _ | apply Drawn0.step)⟩
        ·rw [if_neg c8] at H; have c8b0 := decide_eq_false c8; clear c8; by_cases c10 : (bt a0 x3_2) > 122
         ·rw [if_pos c10] at H; have c10b0 := decide_eq_true c10; clear c10; obtain rfl := Option.some.inj H; have p7 : 0 ≤ (x3_2 : Int) := od; have q7 : x3_2 < (a0.size : Int) := od; have hx7 := bt_at a0 x3_2; replace p7 := eq_true p7; replace q7 := eq_true q7; have p9 : 0 ≤ (x3_2 : Int) := od; have q9 : x3_2 < (a0.size : Int) := od; have hx9 := bt_at a0 x3_2; replace p9 := eq_true p9; replace q9 := eq_true q9; go_wp2
          go_ret
          exact ⟨by first | rfl | (simp; done) | (simp [*]; done), by repeat (first | exact Drawn0.refl _ | apply Drawn0.step)⟩
         ·rw [if_neg c10] at H; have c10b0 := decide_eq_false c10; clear c10; have H' := ak H; clear H; have p7 : 0 ≤ (x3_2 : Int) := od; have q7 : x3_2 < (a0.size : Int) := od; have hx7 := bt_at a0 x3_2; replace p7 := eq_true p7; replace q7 := eq_true q7; have p9 : 0 ≤ (x3_2 : Int) := od; have q9 : x3_2 < (a0.size : Int) := od; have hx9 := bt_at a0 x3_2; replace p9 := eq_true p9; replace q9 := eq_true q9; go_wp2
          go_roundg k2
          case measure => have := HJ1.out; have := HK2.out; omega
          case rel => exact ⟨(wrap64 (x3_2 + 1)), (by first | rfl | (simp; done) | (simp [*]; done)), H', ⟨by have := HJ1.out; have := HK2.out; omega⟩, by repeat (first | exact Drawn0.refl _ | apply Drawn0.step)⟩
       ·rw [if_neg c6] at H; exact absurd H (by simp)
      ·rw [if_neg c5] at H; have c5b0 := decide_eq_false c5; clear c5; obtain rfl := Option.some.inj H; go_wp2
       go_ret
       exact ⟨by first | rfl | (simp; done) | (simp [*]; done), by repeat (first | exact Drawn0.refl _ | apply Drawn0.step)⟩


/-! ### impl_peopleIn: function 71 -/
def impl_peopleIn.l0 : Nat → ByteArray → Int → Int → List (S42) → Int → Int → Option (Int)
 | 0, _, _, _, _, _, _ => none
 | k + 1, x1, x2, x7, x10, x11, x12 => if x12 < x11 then (if 0 ≤ x12 then (if x12 < (x10.length : Int) then (if ((rd_T42 x10 x12).f1).toList = x1.toList then (if ((rd_T42 x10 x12).f0) ≤ x2 then (impl_peopleIn.l0 k x1 x2 (wrap64 (x7 + ((rd_T42 x10 x12).f2))) x10 x11 (wrap64 (x12 + 1))) else (impl_peopleIn.l0 k x1 x2 x7 x10 x11 (wrap64 (x12 + 1)))) else (impl_peopleIn.l0 k x1 x2 x7 x10 x11 (wrap64 (x12 + 1)))) else (none)) else (none)) else (some x7)
def impl_peopleIn.f (k : Nat) (l0 : List (S42)) (a1 : ByteArray) (a2 : Int) : Option (Int) := impl_peopleIn.l0 k a1 a2 0 l0 (l0.length : Int) 0
theorem impl_peopleIn.mono_l : ∀ k, (∀ y0 y1 y2 y3 y4 y5, LeO (impl_peopleIn.l0 k y0 y1 y2 y3 y4 y5) (impl_peopleIn.l0 (k + 1) y0 y1 y2 y3 y4 y5))
 | 0 => fun _ _ _ _ _ _ r h => by simp [impl_peopleIn.l0] at h
 | k + 1 => by
  have ih0 := impl_peopleIn.mono_l k
  ·intro y0 y1 y2 y3 y4 y5; unfold impl_peopleIn.l0
   repeat' first | (with_reducible first | exact ih0 _ _ _ _ _ _ | exact LeO.refl _ | exact LeO.none _ | refine LeO.ite ?_ ?_ | refine LeO.bind ?_ (fun _ => ?_)) | exact ih0 _ _ _ _ _ _ | exact LeO.none _ | refine LeO.ite ?_ ?_ | refine LeO.bind ?_ (fun _ => ?_)
theorem impl_peopleIn.mono : ∀ a0 a1 a2 k, LeO (impl_peopleIn.f k a0 a1 a2) (impl_peopleIn.f (k + 1) a0 a1 a2) := by
 intro a0 a1 a2 k; have ih0 := impl_peopleIn.mono_l k; unfold impl_peopleIn.f
 repeat' first | (with_reducible first | exact ih0 _ _ _ _ _ _ | exact LeO.refl _ | exact LeO.none _ | refine LeO.ite ?_ ?_ | refine LeO.bind ?_ (fun _ => ?_)) | exact ih0 _ _ _ _ _ _ | exact LeO.none _ | refine LeO.ite ?_ ?_ | refine LeO.bind ?_ (fun _ => ?_)
set_option maxHeartbeats 8000000 in
set_option maxRecDepth 100000 in
theorem impl_peopleIn.calls (k : Nat) (A0 : Option Addr) (c0 : Nat) (l0 : List (S42)) (a1 : ByteArray) (a2 : Int) (r : Int) (w : World) (hr0 : Kd.C k42 w A0 l0.length l0) (hc0 : l0.length ≤ c0) (h : impl_peopleIn.f k l0 a1 a2 = some r) :
  Calls Try.prog 71 #[.slice A0 l0.length c0, .string a1, .int .i64 a2] w fun e w' => e = .returned (.int .i64 r) ∧ Below w.heap.size w w' := by
 have hu42 := Try.underlying42; have HR0 := ak hr0; have HC0 := ak hc0; clear hr0 hc0; have HB := ak (Below.refl w.heap.size w); unfold impl_peopleIn.f at h; have H := h; clear h; have H' := ak H; clear H; go_enter Try.func71, Try.ntmps71; go_wp2
 go_loopg [7, 12] k (fun kq v7 v12 w' => ∃ (x7_1 : Int) (x12_1 : Int), v7 = .int .i64 x7_1 ∧ v12 = .int .i64 x12_1 ∧ Aside0 (impl_peopleIn.l0 kq a1 a2 x7_1 l0 (l0.length : Int) x12_1 = some r) ∧ Aside0 (kq ≤ k) ∧ Aside0 (Below w.heap.size w w'))
 case atStart => exact ⟨(0), (0), (by first | rfl | (simp; done) | (simp [*]; done)), (by first | rfl | (simp; done) | (simp [*]; done)), H', ⟨Nat.le_refl _⟩, ⟨vb HB.out⟩⟩
 case round =>
  clear H'; (try clear p2); obtain ⟨x7_1, x12_1, rfl, rfl, HA, HK1, HB⟩ := hrel
  cases gk with
  | zero => exact absurd HA.out (by simp [impl_peopleIn.l0])
  | succ k1 =>
   have H := HA.out; clear HA; simp only [impl_peopleIn.l0] at H
   by_cases c4 : x12_1 < (l0.length : Int)
   ·rw [if_pos c4] at H; have c4b0 := decide_eq_true c4; clear c4; by_cases c5 : 0 ≤ x12_1
    ·rw [if_pos c5] at H; have c5b0 := decide_eq_true c5; clear c5; by_cases c6 : x12_1 < (l0.length : Int)
     ·rw [if_pos c6] at H; have c6b0 := decide_eq_true c6; clear c6; by_cases c7 : ((rd_T42 l0 x12_1).f1).toList = a1.toList
      ·rw [if_pos c7] at H; have c7b0 : (((rd_T42 l0 x12_1).f1).toList == a1.toList) = true := beq_iff_eq.mpr c7; have c7b1 : (((rd_T42 l0 x12_1).f1).toList != a1.toList) = false := bne_eq_false_iff_eq.mpr c7; clear c7; by_cases c8 : ((rd_T42 l0 x12_1).f0) ≤ a2
       ·rw [if_pos c8] at H; have c8b0 := decide_eq_true c8; clear c8; have H' := ak H; clear H; have p137 : 0 ≤ (x12_1 : Int) := od; have q137 : x12_1 < (l0.length : Int) := od; obtain ⟨ad137, e137, hx137_0, hx137_1, hx137_2⟩ := at_T42 HR0.out x12_1 p137 q137
        cases e137; replace hx137_0 := cb HB.out hx137_0; replace hx137_1 := cb HB.out hx137_1; replace hx137_2 := cb HB.out hx137_2; replace p137 := eq_true p137; replace q137 := eq_true q137; go_wp2_with (first | ((with_reducible refine gate_dst (N := 9) rfl ?_); refine bx 9 #[.int .i64 0, .string (⟨#[]⟩ : ByteArray), .int .i64 0] 42 ?_; intro gb138 hg w9 hbox hb; have BK138 := ak hbox; have GW138 := gw hg HB; have GE138 := gw hg HB; replace HB := bs HB hb; clear hb hbox hg; have hcz10 := cz3 BK138.out))
        go_roundg k1
        case measure => have := HK1.out; omega
        case rel => exact ⟨(wrap64 (x7_1 + ((rd_T42 l0 x12_1).f2))), (wrap64 (x12_1 + 1)), (by first | rfl | (simp; done) | (simp [*]; done)), (by first | rfl | (simp; done) | (simp [*]; done)), H', ⟨by have := HK1.out; omega⟩, ⟨vb HB.out⟩⟩
       ·rw [if_neg c8] at H; have c8b0 := decide_eq_false c8; clear c8; have H' := ak H; clear H; have p137 : 0 ≤ (x12_1 : Int) := od; have q137 : x12_1 < (l0.length : Int) := od; obtain ⟨ad137, e137, hx137_0, hx137_1, hx137_2⟩ := at_T42 HR0.out x12_1 p137 q137
        cases e137; replace hx137_0 := cb HB.out hx137_0; replace hx137_1 := cb HB.out hx137_1; replace hx137_2 := cb HB.out hx137_2; replace p137 := eq_true p137; replace q137 := eq_true q137; go_wp2_with (first | ((with_reducible refine gate_dst (N := 9) rfl ?_); refine bx 9 #[.int .i64 0, .string (⟨#[]⟩ : ByteArray), .int .i64 0] 42 ?_; intro gb138 hg w11 hbox hb; have BK138 := ak hbox; have GW138 := gw hg HB; have GE138 := gw hg HB; replace HB := bs HB hb; clear hb hbox hg; have hcz12 := cz3 BK138.out))
        go_roundg k1
        case measure => have := HK1.out; omega
        case rel => exact ⟨(x7_1), (wrap64 (x12_1 + 1)), (by first | rfl | (simp; done) | (simp [*]; done)), (by first | rfl | (simp; done) | (simp [*]; done)), H', ⟨by have := HK1.out; omega⟩, ⟨vb HB.out⟩⟩
      ·rw [if_neg c7] at H; have c7b0 : (((rd_T42 l0 x12_1).f1).toList == a1.toList) = false := beq_eq_false_iff_ne.mpr c7; have c7b1 : (((rd_T42 l0 x12_1).f1).toList != a1.toList) = true := bne_iff_ne.mpr c7; have H' := ak H; clear H; have p137 : 0 ≤ (x12_1 : Int) := od; have q137 : x12_1 < (l0.length : Int) := od; obtain ⟨ad137, e137, hx137_0, hx137_1, hx137_2⟩ := at_T42 HR0.out x12_1 p137 q137
       cases e137; replace hx137_0 := cb HB.out hx137_0; replace hx137_1 := cb HB.out hx137_1; replace hx137_2 := cb HB.out hx137_2; replace p137 := eq_true p137; replace q137 := eq_true q137; go_wp2_with (first | ((with_reducible refine gate_dst (N := 9) rfl ?_); refine bx 9 #[.int .i64 0, .string (⟨#[]⟩ : ByteArray), .int .i64 0] 42 ?_; intro gb138 hg w13 hbox hb; have BK138 := ak hbox; have GW138 := gw hg HB; have GE138 := gw hg HB; replace HB := bs HB hb; clear hb hbox hg; have hcz14 := cz3 BK138.out))
       go_roundg k1
       case measure => have := HK1.out; omega
       case rel => exact ⟨(x7_1), (wrap64 (x12_1 + 1)), (by first | rfl | (simp; done) | (simp [*]; done)), (by first | rfl | (simp; done) | (simp [*]; done)), H', ⟨by have := HK1.out; omega⟩, ⟨vb HB.out⟩⟩
     ·rw [if_neg c6] at H; exact absurd H (by simp)
    ·rw [if_neg c5] at H; exact absurd H (by simp)
   ·rw [if_neg c4] at H; have c4b0 := decide_eq_false c4; clear c4; obtain rfl := Option.some.inj H; go_wp2
    go_ret
    exact ⟨ew, vb HB.out⟩


end Go.Proofs.Ytllhghcepbkpeaa.Pall
