/- Go functions of the program, each as a Lean function, and the proof that each call comes to what the Lean function tells; no condition beyond those that stand there. -/
import Derived.Test.YtancnecddlbhkaaF00
import Derived.Test.YtancnecddlbhkaaF02
import Derived.Test.YtancnecddlbhkaaF04
import Derived.Test.YtancnecddlbhkaaF07
import Derived.Test.YtancnecddlbhkaaSq
import Derived.Test.YtancnecddlbhkaaWLast
import Derived.Test.YtancnecddlbhkaaWMore
import Derived.Test.YtancnecddlbhkaaWN
import Derived.Test.YtancnecddlbhkaaWTab
import Derived.Test.YtancnecddlbhkaaSpare
import Derived.Test.YtancnecddlbhkaaCm
import Derived.Test.YtancnecddlbhkaaCm4
import Derived.Test.YtancnecddlbhkaaCm3
namespace Go.Proofs.Ytancnecddlbhkaa.Pall
open Go.RowKit Go.Proofs.YtancnecddlbhkaaW.PrintWords Go.Proofs.YtancnecddlbhkaaW.PrintLast Go.Proofs.YtancnecddlbhkaaW.PrintMore
attribute [local go_sem] max2_int min2_int max_two min_two max_three min_three max_four min_four
set_option linter.unusedVariables false
set_option linter.unusedSimpArgs false

/-! ### spec_l15Root: function 86 -/
def spec_l15Root.l0 : Nat → Int → Int → Int → Option (Int)
 | 0, _, _, _ => none
 | k + 1, x0, x3, x4 => if (wrap64 (x3 + 1)) < x4 then (if (wrap64 ((wrap64 (Int.tdiv (wrap64 (x3 + x4)) 2)) * (wrap64 (Int.tdiv (wrap64 (x3 + x4)) 2)))) ≤ x0 then (spec_l15Root.l0 k x0 (wrap64 (Int.tdiv (wrap64 (x3 + x4)) 2)) x4) else (spec_l15Root.l0 k x0 x3 (wrap64 (Int.tdiv (wrap64 (x3 + x4)) 2)))) else (some x3)
def spec_l15Root.f (k : Nat) (a0 : Int) : Option (Int) := spec_l15Root.l0 k a0 0 100001
theorem spec_l15Root.mono_l : ∀ k, (∀ y0 y1 y2, LeO (spec_l15Root.l0 k y0 y1 y2) (spec_l15Root.l0 (k + 1) y0 y1 y2))
 | 0 => fun _ _ _ r h => by simp [spec_l15Root.l0] at h
 | k + 1 => by
  have ih0 := spec_l15Root.mono_l k
  ·intro y0 y1 y2; unfold spec_l15Root.l0
   repeat' first | (with_reducible first | exact ih0 _ _ _ | exact LeO.refl _ | exact LeO.none _ | refine LeO.ite ?_ ?_ | refine LeO.bind ?_ (fun _ => ?_)) | exact ih0 _ _ _ | exact LeO.none _ | refine LeO.ite ?_ ?_ | refine LeO.bind ?_ (fun _ => ?_)
theorem spec_l15Root.mono : ∀ a0 k, LeO (spec_l15Root.f k a0) (spec_l15Root.f (k + 1) a0) := by
 intro a0 k; have ih0 := spec_l15Root.mono_l k; unfold spec_l15Root.f
 repeat' first | (with_reducible first | exact ih0 _ _ _ | exact LeO.refl _ | exact LeO.none _ | refine LeO.ite ?_ ?_ | refine LeO.bind ?_ (fun _ => ?_)) | exact ih0 _ _ _ | exact LeO.none _ | refine LeO.ite ?_ ?_ | refine LeO.bind ?_ (fun _ => ?_)
set_option maxHeartbeats 8000000 in
set_option maxRecDepth 100000 in
theorem spec_l15Root.calls (k : Nat) (a0 : Int) (r : Int) (w : World) (h : spec_l15Root.f k a0 = some r) :
  Calls Try.prog 86 #[.int .i64 a0] w fun e w' => e = .returned (.int .i64 r) ∧ Drawn0 w w' := by
 unfold spec_l15Root.f at h; have H := h; clear h; have H' := ak H; clear H; go_enter Try.func86, Try.ntmps86; go_wp2
 go_loopg [3, 4] k (fun kq v3 v4 w' => ∃ (x3_1 : Int) (x4_1 : Int), v3 = .int .i64 x3_1 ∧ v4 = .int .i64 x4_1 ∧ Aside0 (spec_l15Root.l0 kq a0 x3_1 x4_1 = some r) ∧ Aside0 (kq ≤ k) ∧ Drawn0 w w')
 case atStart => exact ⟨(0), (100001), (by first | rfl | (simp; done) | (simp [*]; done)), (by first | rfl | (simp; done) | (simp [*]; done)), H', ⟨Nat.le_refl _⟩, by repeat (first | exact Drawn0.refl _ | apply Drawn0.step)⟩
 case round =>
  clear H'; obtain ⟨x3_1, x4_1, rfl, rfl, HA, HK1, ⟨m1, rfl⟩⟩ := hrel
  cases gk with
  | zero => exact absurd HA.out (by simp [spec_l15Root.l0])
  | succ k1 =>
   have H := HA.out; clear HA; simp only [spec_l15Root.l0] at H
   by_cases c2 : (wrap64 (x3_1 + 1)) < x4_1
   ·rw [if_pos c2] at H; have c2b0 := decide_eq_true c2; clear c2; by_cases c3 : (wrap64 ((wrap64 (Int.tdiv (wrap64 (x3_1 + x4_1)) 2)) * (wrap64 (Int.tdiv (wrap64 (x3_1 + x4_1)) 2)))) ≤ a0
    ·rw [if_pos c3] at H; have c3b0 := decide_eq_true c3; clear c3; have H' := ak H; clear H; go_wp2
     go_roundg k1
     case measure => have := HK1.out; omega
     case rel => exact ⟨(wrap64 (Int.tdiv (wrap64 (x3_1 + x4_1)) 2)), (x4_1), (by first | rfl | (simp; done) | (simp [*]; done)), (by first | rfl | (simp; done) | (simp [*]; done)), H', ⟨by have := HK1.out; omega⟩, by repeat (first | exact Drawn0.refl _ | apply Drawn0.step)⟩
    ·rw [if_neg c3] at H; have c3b0 := decide_eq_false c3; clear c3; have H' := ak H; clear H; go_wp2
     go_roundg k1
     case measure => have := HK1.out; omega
     case rel => exact ⟨(x3_1), (wrap64 (Int.tdiv (wrap64 (x3_1 + x4_1)) 2)), (by first | rfl | (simp; done) | (simp [*]; done)), (by first | rfl | (simp; done) | (simp [*]; done)), H', ⟨by have := HK1.out; omega⟩, by repeat (first | exact Drawn0.refl _ | apply Drawn0.step)⟩
   ·rw [if_neg c2] at H; have c2b0 := decide_eq_false c2; clear c2; obtain rfl := Option.some.inj H; go_wp2
    go_ret
    exact ⟨by first | rfl | (simp; done) | (simp [*]; done), by repeat (first | exact Drawn0.refl _ | apply Drawn0.step)⟩


/-! ### spec_GreatestGap: function 38 -/
mutual
def spec_GreatestGap.l0 : Nat → List (List Int) → Int → Int → List (S98) → List (S103) → List Int → List Int → List Int → Int → Option (Int × Int)
 | 0, _, _, _, _, _, _, _, _, _ => none
 | k + 1, x4, x5, x6, x1142000, x1142001, x1142002, x1142003, x1142004, x1142005 => if x6 < (x4.length : Int) then (spec_GreatestGap.l1 k x4 x5 x6 10000 0 x1142000 x1142001 x1142002 x1142003 x1142004 x1142005) else (some (x5, 0))
def spec_GreatestGap.l1 : Nat → List (List Int) → Int → Int → Int → Int → List (S98) → List (S103) → List Int → List Int → List Int → Int → Option (Int × Int)
 | 0, _, _, _, _, _, _, _, _, _, _, _ => none
 | k + 1, x4, x5, x6, x7, x8, x1142000, x1142001, x1142002, x1142003, x1142004, x1142005 => if 0 ≤ x6 then (if x6 < (x4.length : Int) then (if x8 < ((rd_L5 x4 x6).length : Int) then (spec_GreatestGap.l2 k x4 x5 x6 x7 x8 0 x1142000 x1142001 x1142002 x1142003 x1142004 x1142005) else (spec_GreatestGap.l0 k x4 (mx x5 x7) (wrap64 (x6 + 1)) x1142000 x1142001 x1142002 x1142003 x1142004 x1142005)) else (none)) else (none)
def spec_GreatestGap.l2 : Nat → List (List Int) → Int → Int → Int → Int → Int → List (S98) → List (S103) → List Int → List Int → List Int → Int → Option (Int × Int)
 | 0, _, _, _, _, _, _, _, _, _, _, _, _ => none
 | k + 1, x4, x5, x6, x7, x8, x9, x1142000, x1142001, x1142002, x1142003, x1142004, x1142005 => if x9 < x8 then (if 0 ≤ x6 then (if x6 < (x4.length : Int) then (if 0 ≤ x9 then (if x9 < ((rd_L5 x4 x6).length : Int) then (if 0 ≤ x8 then (if x8 < ((rd_L5 x4 x6).length : Int) then ((spec_l18Square.f x1142000 x1142001 x1142002 x1142003 x1142004 x1142005 (rd (rd_L5 x4 x6) x9) (rd (rd_L5 x4 x6) x8)).bind fun t1151 => ((spec_l15Root.f k t1151).bind fun t1152 => (spec_GreatestGap.l2 k x4 x5 x6 (mn x7 t1152) x8 (wrap64 (x9 + 1)) x1142000 x1142001 x1142002 x1142003 x1142004 x1142005))) else (none)) else (none)) else (none)) else (none)) else (none)) else (none)) else (spec_GreatestGap.l1 k x4 x5 x6 x7 (wrap64 (x8 + 1)) x1142000 x1142001 x1142002 x1142003 x1142004 x1142005)
end
def spec_GreatestGap.f (k : Nat) (l0_0 : List (S98)) (l0_1 : List (S103)) (l0_2 : List Int) (l0_3 : List Int) (l0_4 : List Int) (a0_5 : Int) : Option (Int × Int) := (spec_IsField.f k l0_0 l0_1 l0_2 l0_3 l0_4 a0_5).bind fun t1142 => (if t1142 = true then ((spec_l18Placings.f k l0_0 l0_1 l0_2 l0_3 l0_4 0).bind fun t1143 => (if (t1143.length : Int) = 0 then (some (0, 4)) else (spec_GreatestGap.l0 k t1143 0 0 l0_0 l0_1 l0_2 l0_3 l0_4 0))) else (some (0, 1)))
theorem spec_GreatestGap.mono_l : ∀ k, (∀ y0 y1 y2 y3 y4 y5 y6 y7 y8, LeO (spec_GreatestGap.l0 k y0 y1 y2 y3 y4 y5 y6 y7 y8) (spec_GreatestGap.l0 (k + 1) y0 y1 y2 y3 y4 y5 y6 y7 y8)) ∧ (∀ y0 y1 y2 y3 y4 y5 y6 y7 y8 y9 y10, LeO (spec_GreatestGap.l1 k y0 y1 y2 y3 y4 y5 y6 y7 y8 y9 y10) (spec_GreatestGap.l1 (k + 1) y0 y1 y2 y3 y4 y5 y6 y7 y8 y9 y10)) ∧ (∀ y0 y1 y2 y3 y4 y5 y6 y7 y8 y9 y10 y11, LeO (spec_GreatestGap.l2 k y0 y1 y2 y3 y4 y5 y6 y7 y8 y9 y10 y11) (spec_GreatestGap.l2 (k + 1) y0 y1 y2 y3 y4 y5 y6 y7 y8 y9 y10 y11))
 | 0 => ⟨fun _ _ _ _ _ _ _ _ _ r h => by simp [spec_GreatestGap.l0] at h, fun _ _ _ _ _ _ _ _ _ _ _ r h => by simp [spec_GreatestGap.l1] at h, fun _ _ _ _ _ _ _ _ _ _ _ _ r h => by simp [spec_GreatestGap.l2] at h⟩
 | k + 1 => by
  obtain ⟨ih0, ih1, ih2⟩ := spec_GreatestGap.mono_l k; refine ⟨?_, ?_, ?_⟩
  ·intro y0 y1 y2 y3 y4 y5 y6 y7 y8; unfold spec_GreatestGap.l0
   repeat' first | (with_reducible first | exact ih0 _ _ _ _ _ _ _ _ _ | exact ih1 _ _ _ _ _ _ _ _ _ _ _ | exact ih2 _ _ _ _ _ _ _ _ _ _ _ _ | exact spec_IsField.mono _ _ _ _ _ _ _ | exact spec_l15Root.mono _ _ | exact spec_l18Placings.mono _ _ _ _ _ _ _ | exact LeO.refl _ | exact LeO.none _ | refine LeO.ite ?_ ?_ | refine LeO.bind ?_ (fun _ => ?_)) | exact ih0 _ _ _ _ _ _ _ _ _ | exact ih1 _ _ _ _ _ _ _ _ _ _ _ | exact ih2 _ _ _ _ _ _ _ _ _ _ _ _ | exact spec_IsField.mono _ _ _ _ _ _ _ | exact spec_l15Root.mono _ _ | exact spec_l18Placings.mono _ _ _ _ _ _ _ | exact LeO.none _ | refine LeO.ite ?_ ?_ | refine LeO.bind ?_ (fun _ => ?_)
  ·intro y0 y1 y2 y3 y4 y5 y6 y7 y8 y9 y10; unfold spec_GreatestGap.l1
   repeat' first | (with_reducible first | exact ih0 _ _ _ _ _ _ _ _ _ | exact ih1 _ _ _ _ _ _ _ _ _ _ _ | exact ih2 _ _ _ _ _ _ _ _ _ _ _ _ | exact spec_IsField.mono _ _ _ _ _ _ _ | exact spec_l15Root.mono _ _ | exact spec_l18Placings.mono _ _ _ _ _ _ _ | exact LeO.refl _ | exact LeO.none _ | refine LeO.ite ?_ ?_ | refine LeO.bind ?_ (fun _ => ?_)) | exact ih0 _ _ _ _ _ _ _ _ _ | exact ih1 _ _ _ _ _ _ _ _ _ _ _ | exact ih2 _ _ _ _ _ _ _ _ _ _ _ _ | exact spec_IsField.mono _ _ _ _ _ _ _ | exact spec_l15Root.mono _ _ | exact spec_l18Placings.mono _ _ _ _ _ _ _ | exact LeO.none _ | refine LeO.ite ?_ ?_ | refine LeO.bind ?_ (fun _ => ?_)
  ·intro y0 y1 y2 y3 y4 y5 y6 y7 y8 y9 y10 y11; unfold spec_GreatestGap.l2
   repeat' first | (with_reducible first | exact ih0 _ _ _ _ _ _ _ _ _ | exact ih1 _ _ _ _ _ _ _ _ _ _ _ | exact ih2 _ _ _ _ _ _ _ _ _ _ _ _ | exact spec_IsField.mono _ _ _ _ _ _ _ | exact spec_l15Root.mono _ _ | exact spec_l18Placings.mono _ _ _ _ _ _ _ | exact LeO.refl _ | exact LeO.none _ | refine LeO.ite ?_ ?_ | refine LeO.bind ?_ (fun _ => ?_)) | exact ih0 _ _ _ _ _ _ _ _ _ | exact ih1 _ _ _ _ _ _ _ _ _ _ _ | exact ih2 _ _ _ _ _ _ _ _ _ _ _ _ | exact spec_IsField.mono _ _ _ _ _ _ _ | exact spec_l15Root.mono _ _ | exact spec_l18Placings.mono _ _ _ _ _ _ _ | exact LeO.none _ | refine LeO.ite ?_ ?_ | refine LeO.bind ?_ (fun _ => ?_)
theorem spec_GreatestGap.mono : ∀ a0 a1 a2 a3 a4 a5 k, LeO (spec_GreatestGap.f k a0 a1 a2 a3 a4 a5) (spec_GreatestGap.f (k + 1) a0 a1 a2 a3 a4 a5) := by
 intro a0 a1 a2 a3 a4 a5 k; obtain ⟨ih0, ih1, ih2⟩ := spec_GreatestGap.mono_l k; unfold spec_GreatestGap.f
 repeat' first | (with_reducible first | exact ih0 _ _ _ _ _ _ _ _ _ | exact ih1 _ _ _ _ _ _ _ _ _ _ _ | exact ih2 _ _ _ _ _ _ _ _ _ _ _ _ | exact spec_IsField.mono _ _ _ _ _ _ _ | exact spec_l15Root.mono _ _ | exact spec_l18Placings.mono _ _ _ _ _ _ _ | exact LeO.refl _ | exact LeO.none _ | refine LeO.ite ?_ ?_ | refine LeO.bind ?_ (fun _ => ?_)) | exact ih0 _ _ _ _ _ _ _ _ _ | exact ih1 _ _ _ _ _ _ _ _ _ _ _ | exact ih2 _ _ _ _ _ _ _ _ _ _ _ _ | exact spec_IsField.mono _ _ _ _ _ _ _ | exact spec_l15Root.mono _ _ | exact spec_l18Placings.mono _ _ _ _ _ _ _ | exact LeO.none _ | refine LeO.ite ?_ ?_ | refine LeO.bind ?_ (fun _ => ?_)
def spec_GreatestGap.T18 : Bool × List (List Nat × List Nat) := (true, [([], []), ([], []), ([], []), ([], []), ([2, 3], [2, 3]), ([4], [4]), ([], []), ([5, 6], [5, 6]), ([7], [7]), ([], []), ([], []), ([9, 10], [9, 10]), ([11], [11]), ([], []), ([12, 13], [12, 13]), ([14], [14]), ([1, 8, 15], [1, 8, 15]), ([16, 16], [16]), ([0, 17], [0, 17]), ([18, 17, 0, 1, 2, 3, 4, 5, 6, 7, 8, 9, 10, 11, 12, 13, 14, 15, 16, 17, 18], [0, 18])])
def spec_GreatestGap.B18 : List Nat := [0, 0, 0, 0, 12, 28, 0, 124, 252, 0, 0, 1536, 3584, 0, 15872, 32256, 65534, 131070, 262143, 524287]
theorem spec_GreatestGap.tab18 : rtab .any (opsOf Try.f38 18) = spec_GreatestGap.T18 := by kernel_rfl
theorem spec_GreatestGap.bits18 : waitsOk spec_GreatestGap.T18.2 spec_GreatestGap.B18 = true := by kernel_rfl
set_option maxHeartbeats 8000000 in
set_option maxRecDepth 100000 in
theorem spec_GreatestGap.calls (k : Nat) (A0_0 : Option Addr) (c0_0 : Nat) (l0_0 : List (S98)) (A0_1 : Option Addr) (c0_1 : Nat) (l0_1 : List (S103)) (A0_2 : Option Addr) (c0_2 : Nat) (l0_2 : List Int) (A0_3 : Option Addr) (c0_3 : Nat) (l0_3 : List Int) (A0_4 : Option Addr) (c0_4 : Nat) (l0_4 : List Int) (a0_5 : Int) (r1 : Int) (r2 : Int) (w : World) (hr0_0 : Kd.C k98 w A0_0 l0_0.length l0_0) (hc0_0 : l0_0.length ≤ c0_0) (hr0_1 : Kd.C k103 w A0_1 l0_1.length l0_1) (hc0_1 : l0_1.length ≤ c0_1) (hr0_2 : Kd.C (Kd.int .i64) w A0_2 l0_2.length l0_2) (hc0_2 : l0_2.length ≤ c0_2) (hr0_3 : Kd.C (Kd.int .i64) w A0_3 l0_3.length l0_3) (hc0_3 : l0_3.length ≤ c0_3) (hr0_4 : Kd.C (Kd.int .i64) w A0_4 l0_4.length l0_4) (hc0_4 : l0_4.length ≤ c0_4) (h : spec_GreatestGap.f k l0_0 l0_1 l0_2 l0_3 l0_4 a0_5 = some (r1, r2)) :
  Calls Try.prog 38 #[.agg #[.slice A0_0 l0_0.length c0_0, .slice A0_1 l0_1.length c0_1, .slice A0_2 l0_2.length c0_2, .slice A0_3 l0_3.length c0_3, .slice A0_4 l0_4.length c0_4, .int .i64 a0_5]] w fun e w' => e = .returned (.tuple #[.int .i64 r1, .int .i64 r2]) ∧ Below w.heap.size w w' := by
 have hu33 := Try.underlying33; have HR0_0 := ak hr0_0; have HC0_0 := ak hc0_0; clear hr0_0 hc0_0; have HR0_1 := ak hr0_1; have HC0_1 := ak hc0_1; clear hr0_1 hc0_1; have HR0_2 := ak hr0_2; have HC0_2 := ak hc0_2; clear hr0_2 hc0_2; have HR0_3 := ak hr0_3; have HC0_3 := ak hc0_3; clear hr0_3 hc0_3; have HR0_4 := ak hr0_4; have HC0_4 := ak hc0_4; clear hr0_4 hc0_4; have HB := ak (Below.refl w.heap.size w); unfold spec_GreatestGap.f at h; have H := h; clear h; obtain ⟨t1142, A2, H⟩ := bnk H; by_cases c3 : t1142 = true
 subst c3; rw [if_pos rfl] at H; obtain ⟨t1143, A4, H⟩ := bnk H; by_cases c5 : (t1143.length : Int) = 0
 rw [if_pos c5] at H; obtain ⟨c5b0, c5b1⟩ := bqt c5; clear c5; simp only [Option.some.injEq, Prod.mk.injEq] at H
 obtain ⟨rfl, rfl⟩ := H; rotate_left
 ·rw [if_neg c5] at H; obtain ⟨c5b0, c5b1⟩ := bqf c5; have c5b2 : ¬ (t1143 = []) := fun h_ => c5 (by rw [h_]; rfl)
  have H' := ak H; clear H; go_enter Try.func38, Try.ntmps38; go_wp2_with (first | ((with_reducible refine gate_dst (N := 1) rfl ?_); refine bx 1 #[.slice A0_0 l0_0.length c0_0, .slice A0_1 l0_1.length c0_1, .slice A0_2 l0_2.length c0_2, .slice A0_3 l0_3.length c0_3, .slice A0_4 l0_4.length c0_4, .int .i64 a0_5] 33 ?_; intro gb1141 hg w12 hbox hb; have BK1141 := ak hbox; have GW1141 := gw hg HB; have GE1141 := gw hg HB; replace HB := bs HB hb; clear hb hbox hg; have hcz13 := cz6 BK1141.out) | ((with_reducible refine at_fn (f := 58) rfl ?_); refine gl (some 11) Try.func58 #[.agg #[.slice A0_0 l0_0.length c0_0, .slice A0_1 l0_1.length c0_1, .slice A0_2 l0_2.length c0_2, .slice A0_3 l0_3.length c0_3, .slice A0_4 l0_4.length c0_4, .int .i64 a0_5]] ?_; (with_reducible refine (spec_IsField.calls k _ _ l0_0 _ _ l0_1 _ _ l0_2 _ _ l0_3 _ _ l0_4 a0_5 _ _ ?side1 HC0_0.out ?side3 HC0_1.out ?side5 HC0_2.out ?side7 HC0_3.out ?side9 HC0_4.out A2.out).mono ?_); (case side1 => exact vd HR0_0.out HB.out); (case side3 => exact vd HR0_1.out HB.out); (case side5 => exact vd HR0_2.out HB.out); (case side7 => exact vd HR0_3.out HB.out); (case side9 => exact vd HR0_4.out HB.out); rintro e w14 ⟨rfl, hb⟩; refine ⟨_, rfl, ?_⟩; replace BK1141 := kb BK1141 hb; replace HB := bs HB hb; (try clear hb); (try clear hb2); (try clear hk); (try clear hi); have hcz15 := cz6 BK1141.out) | ((with_reducible refine at_fn (f := 59) rfl ?_); refine gl (some 15) Try.func59 #[.agg #[.slice A0_0 l0_0.length c0_0, .slice A0_1 l0_1.length c0_1, .slice A0_2 l0_2.length c0_2, .slice A0_3 l0_3.length c0_3, .slice A0_4 l0_4.length c0_4, .int .i64 0]] ?_; (with_reducible refine (spec_l18Placings.calls k _ _ l0_0 _ _ l0_1 _ _ l0_2 _ _ l0_3 _ _ l0_4 0 t1143 _ ?side1 HC0_0.out ?side3 HC0_1.out ?side5 HC0_2.out ?side7 HC0_3.out ?side9 HC0_4.out A4.out).mono ?_); (case side1 => exact Kd.C_below HR0_0.out (vb HB.out)); (case side3 => exact Kd.C_below HR0_1.out (vb HB.out)); (case side5 => exact Kd.C_below HR0_2.out (vb HB.out)); (case side7 => exact Kd.C_below HR0_3.out (vb HB.out)); (case side9 => exact Kd.C_below HR0_4.out (vb HB.out)); rintro e w16 ⟨v1144, rfl, ho0, hb⟩; refine ⟨_, rfl, ?_⟩; have HO1145 := ak (Kd.N_lower (Kd.N_mono (ok' := fun k_ => k_ ≠ gb1141) ho0 (fun k_ hk_ => (Kd.freshB (g := gb1141) (o := .cells #[.slice A0_0 l0_0.length c0_0, .slice A0_1 l0_1.length c0_1, .slice A0_2 l0_2.length c0_2, .slice A0_3 l0_3.length c0_3, .slice A0_4 l0_4.length c0_4, .int .i64 0] 33 (0, 0)) (vz BK1141.out) k_ hk_))) (below_size (vb HB.out))); replace BK1141 := ak (blk_below (g := gb1141) (o := .cells #[.slice A0_0 l0_0.length c0_0, .slice A0_1 l0_1.length c0_1, .slice A0_2 l0_2.length c0_2, .slice A0_3 l0_3.length c0_3, .slice A0_4 l0_4.length c0_4, .int .i64 0] 33 (0, 0)) (vz BK1141.out) hb); replace HB := bs HB hb; (try clear hb); (try clear hb2); (try clear hk); (try clear hi); (try clear ho0); obtain ⟨Ao17, co17, eo17⟩ := Kd.N_slice HO1145.out; subst eo17))
  go_loopg [5, 6] k (fun kq v5 v6 w' => ∃ (x5_1 : Int) (x6_1 : Int), v5 = .int .i64 x5_1 ∧ v6 = .int .i64 x6_1 ∧ Aside0 (spec_GreatestGap.l0 kq t1143 x5_1 x6_1 l0_0 l0_1 l0_2 l0_3 l0_4 0 = some (r1, r2)) ∧ Aside0 (kq ≤ k) ∧ Aside0 (Kd.N (Kd.slice 2 (Kd.int .i64)) 24 w' w.heap.size (fun k_ => k_ ≠ gb1141) (.slice Ao17 t1143.length co17) t1143) ∧ Aside0 (w'.heap[gb1141]? = some (.cells #[(.slice A0_0 l0_0.length c0_0), (.slice A0_1 l0_1.length c0_1), (.slice A0_2 l0_2.length c0_2), (.slice A0_3 l0_3.length c0_3), (.slice A0_4 l0_4.length c0_4), .int .i64 0] 33 (0, 0))) ∧ Aside0 (Below w.heap.size w w'))
  case atStart => exact ⟨(0), (0), (by first | rfl | (simp; done) | (simp [*]; done)), (by first | rfl | (simp; done) | (simp [*]; done)), H', ⟨Nat.le_refl _⟩, ⟨vN HO1145.out⟩, ⟨vk BK1141.out⟩, ⟨vb HB.out⟩⟩
  case round =>
   clear H'; (try clear p2); (try clear c3); (try clear c5); (try clear c5b0); (try clear c5b1); (try clear c5b2); (try clear hcz13); (try clear hcz15); (try clear hcz7); (try clear hcz9); obtain ⟨x5_1, x6_1, rfl, rfl, HA, HK1, HO_4, BK1141, HB⟩ := hrel
   cases gk with
   | zero => exact absurd HA.out (by simp [spec_GreatestGap.l0])
   | succ k1 =>
    have H := HA.out; clear HA; simp only [spec_GreatestGap.l0] at H
    by_cases c18 : x6_1 < (t1143.length : Int)
    ·rw [if_pos c18] at H; have c18b0 := decide_eq_true c18; clear c18; have H' := ak H; clear H; go_wp2
     go_loopg [7, 8] k1 (fun kq v7 v8 w' => ∃ (x7_2 : Int) (x8_2 : Int), v7 = .int .i64 x7_2 ∧ v8 = .int .i64 x8_2 ∧ Aside0 (spec_GreatestGap.l1 kq t1143 x5_1 x6_1 x7_2 x8_2 l0_0 l0_1 l0_2 l0_3 l0_4 0 = some (r1, r2)) ∧ Aside0 (kq ≤ k1) ∧ Aside0 (Kd.N (Kd.slice 2 (Kd.int .i64)) 24 w' w.heap.size (fun k_ => k_ ≠ gb1141) (.slice Ao17 t1143.length co17) t1143) ∧ Aside0 (w'.heap[gb1141]? = some (.cells #[(.slice A0_0 l0_0.length c0_0), (.slice A0_1 l0_1.length c0_1), (.slice A0_2 l0_2.length c0_2), (.slice A0_3 l0_3.length c0_3), (.slice A0_4 l0_4.length c0_4), .int .i64 0] 33 (0, 0))) ∧ Aside0 (Below w.heap.size w w'))
     case atStart => exact ⟨(10000), (0), (by first | rfl | (simp; done) | (simp [*]; done)), (by first | rfl | (simp; done) | (simp [*]; done)), H', ⟨Nat.le_refl _⟩, ⟨vN HO_4.out⟩, ⟨vk BK1141.out⟩, ⟨vb HB.out⟩⟩
     case round =>
      clear H'; (try clear c1); (try clear p2); (try clear c3); (try clear c5); (try clear c5b0); (try clear c5b1); (try clear c5b2); (try clear c18); (try clear c18b0); (try clear hcz13); (try clear hcz15); (try clear hcz7); (try clear hcz9); (try clear p2); obtain ⟨x7_2, x8_2, rfl, rfl, HA, HK2, HO_4, BK1141, HB⟩ := hrel
      cases gk with
      | zero => exact absurd HA.out (by simp [spec_GreatestGap.l1])
      | succ k2 =>
       have H := HA.out; clear HA; simp only [spec_GreatestGap.l1] at H
       by_cases c19 : 0 ≤ x6_1
       ·rw [if_pos c19] at H; have c19b0 := decide_eq_true c19; clear c19; by_cases c20 : x6_1 < (t1143.length : Int)
        ·rw [if_pos c20] at H; have c20b0 := decide_eq_true c20; clear c20; by_cases c21 : x8_2 < ((rd_L5 t1143 x6_1).length : Int)
         ·rw [if_pos c21] at H; have c21b0 := decide_eq_true c21; clear c21; have H' := ak H; clear H; have p1146 : 0 ≤ (x6_1 : Int) := od; have q1146 : x6_1 < (t1143.length : Int) := od; obtain ⟨ad1146, A1146_0, c1146_0, e1146, hx1146_0, hl1146_0, hi1146_0⟩ := at_L5 (Kd.N_reads' HO_4.out).2.2 x6_1 p1146 q1146
          cases e1146; obtain ⟨ce1146, hce1146, hMe1146, hcc1146⟩ := Kd.N_get HO_4.out [] x6_1 p1146 (by first | exact q1146 | exact od | (have e_ := (Kd.N_reads' HO_4.out).1; omega)); obtain ⟨ua1146_0, uc1146_0, rfl, ul1146_0, ge1146_0⟩ := Kd.FK_slice_open hMe1146; have hv1146_0 := hcc1146 0 _ rfl; rw [Nat.add_zero, show ((Kd.slice 2 (Kd.int .i64))).sz = 1 from rfl, Nat.mul_one] at hv1146_0; replace hv1146_0 := Option.some.inj (hv1146_0.symm.trans hx1146_0); injection hv1146_0 with hva_ hvn_ hvc_
          rw [hva_] at ge1146_0; rw [hvc_] at ul1146_0; have HL1146_0 := ak (show Kd.V (Kd.int .i64) 2 _ w.heap.size _ _ (rd_L5 t1143 x6_1) from Kd.V_mk ul1146_0 ge1146_0); clear hva_ hvn_ hvc_ ge1146_0 ul1146_0; clear hcc1146 hce1146; have HR1146_0 := ak hi1146_0; have HC1146_0 := ak hl1146_0; clear hi1146_0 hl1146_0; replace p1146 := eq_true p1146; replace q1146 := eq_true q1146; go_wp2
          go_loopg [7, 9] k2 (fun kq v7 v9 w' => ∃ (x7_3 : Int) (x9_3 : Int), v7 = .int .i64 x7_3 ∧ v9 = .int .i64 x9_3 ∧ Aside0 (spec_GreatestGap.l2 kq t1143 x5_1 x6_1 x7_3 x8_2 x9_3 l0_0 l0_1 l0_2 l0_3 l0_4 0 = some (r1, r2)) ∧ Aside0 (kq ≤ k2) ∧ Aside0 (Kd.N (Kd.slice 2 (Kd.int .i64)) 24 w' w.heap.size (fun k_ => k_ ≠ gb1141) (.slice (some ad1146) t1143.length co17) t1143) ∧ Aside0 (w'.heap[gb1141]? = some (.cells #[(.slice A0_0 l0_0.length c0_0), (.slice A0_1 l0_1.length c0_1), (.slice A0_2 l0_2.length c0_2), (.slice A0_3 l0_3.length c0_3), (.slice A0_4 l0_4.length c0_4), .int .i64 0] 33 (0, 0))) ∧ Aside0 (Kd.C (Kd.int .i64) w' A1146_0 (rd_L5 t1143 x6_1).length (rd_L5 t1143 x6_1)) ∧ Aside0 (Below w.heap.size w w'))
          case atStart => exact ⟨(x7_2), (0), (by first | rfl | (simp; done) | (simp [*]; done)), (by first | rfl | (simp; done) | (simp [*]; done)), H', ⟨Nat.le_refl _⟩, ⟨vN HO_4.out⟩, ⟨vk BK1141.out⟩, ⟨by repeat (first | (with_reducible exact HR1146_0.out) | (with_reducible refine Kd.C_alloc ?_ _) | (with_reducible refine Kd.C_drewN ?_ _) | (with_reducible refine Kd.C_drew ?_) | exact HR1146_0.out)⟩, ⟨vb HB.out⟩⟩
          case round =>
           clear H'; (try clear c1); (try clear p1); (try clear q1); (try clear hx1); (try clear c2); (try clear p2); (try clear c3); (try clear c5); (try clear c5b0); (try clear c5b1); (try clear c5b2); (try clear c11); (try clear p11); (try clear q11); (try clear hx11); (try clear c18); (try clear c18b0); (try clear c19); (try clear c19b0); (try clear c20); (try clear c20b0); (try clear c21); (try clear c21b0); (try clear hcz13); (try clear hcz15); (try clear hcz7); (try clear hcz9); (try clear hx1146_0); (try clear p1146); (try clear p2); (try clear q1146); obtain ⟨x7_3, x9_3, rfl, rfl, HA, HK3, HO_4, BK1141, HR1146_0, HB⟩ := hrel
           cases gk with
           | zero => exact absurd HA.out (by simp [spec_GreatestGap.l2])
           | succ k3 =>
            have H := HA.out; clear HA; simp only [spec_GreatestGap.l2] at H
            by_cases c22 : x9_3 < x8_2
            ·rw [if_pos c22] at H; have c22b0 := decide_eq_true c22; clear c22; by_cases c23 : 0 ≤ x6_1
             ·rw [if_pos c23] at H; have c23b0 := decide_eq_true c23; clear c23; by_cases c24 : x6_1 < (t1143.length : Int)
              ·rw [if_pos c24] at H; have c24b0 := decide_eq_true c24; clear c24; by_cases c25 : 0 ≤ x9_3
               ·rw [if_pos c25] at H; have c25b0 := decide_eq_true c25; clear c25; by_cases c26 : x9_3 < ((rd_L5 t1143 x6_1).length : Int)
                ·rw [if_pos c26] at H; have c26b0 := decide_eq_true c26; clear c26; by_cases c27 : 0 ≤ x8_2
                 ·rw [if_pos c27] at H; have c27b0 := decide_eq_true c27; clear c27; by_cases c28 : x8_2 < ((rd_L5 t1143 x6_1).length : Int)
                  ·rw [if_pos c28] at H; have c28b0 := decide_eq_true c28; clear c28; obtain ⟨t1151, A29, H⟩ := bnk H; obtain ⟨t1152, A30, H⟩ := bnk H; obtain ⟨ji31, hji31⟩ : ∃ j_ : Int, (mn x7_3 t1152) = j_ := ⟨_, rfl⟩; replace H : (spec_GreatestGap.l2 k3 t1143 x5_1 x6_1 ji31 x8_2 (wrap64 (x9_3 + 1)) l0_0 l0_1 l0_2 l0_3 l0_4 0) = some (r1, r2) := by first | (rw [hji31] at H; exact H) | (simp only [hji31] at H ⊢; exact H)
                   (try rw [hji31] at A29)
                   (try rw [hji31] at A30)
                   have hji31_ : (if t1152 < x7_3 then t1152 else x7_3) = ji31 := hji31; have H' := ak H; clear H; (try go_wp2)
                   replace HO_4 := ak (Kd.N_drew HO_4.out); replace BK1141 := ak (blk_drew BK1141.out); replace HR1146_0 := ak (Kd.C_drew HR1146_0.out); replace HB := ak (below_drew1 HB.out); have p1147 : 0 ≤ (x6_1 : Int) := od; have q1147 : x6_1 < (t1143.length : Int) := od; obtain ⟨ad1147, A1147_0, c1147_0, e1147, hx1147_0, hl1147_0, hi1147_0⟩ := at_L5 (Kd.N_reads' HO_4.out).2.2 x6_1 p1147 q1147; obtain rfl : ad1146 = ad1147 := (by injection e1147); obtain ⟨ce1147, hce1147, hMe1147, hcc1147⟩ := Kd.N_get HO_4.out [] x6_1 p1147 (by first | exact q1147 | exact od | (have e_ := (Kd.N_reads' HO_4.out).1; omega)); obtain ⟨ua1147_0, uc1147_0, rfl, ul1147_0, ge1147_0⟩ := Kd.FK_slice_open hMe1147; have hv1147_0 := hcc1147 0 _ rfl; rw [Nat.add_zero, show ((Kd.slice 2 (Kd.int .i64))).sz = 1 from rfl, Nat.mul_one] at hv1147_0; replace hv1147_0 := Option.some.inj (hv1147_0.symm.trans hx1147_0); injection hv1147_0 with hva_ hvn_ hvc_
                   rw [hva_] at ge1147_0; rw [hvc_] at ul1147_0; have HL1147_0 := ak (show Kd.V (Kd.int .i64) 2 _ w.heap.size _ _ (rd_L5 t1143 x6_1) from Kd.V_mk ul1147_0 ge1147_0); clear hva_ hvn_ hvc_ ge1147_0 ul1147_0; clear hcc1147 hce1147; have HR1147_0 := ak hi1147_0; have HC1147_0 := ak hl1147_0; clear hi1147_0 hl1147_0; replace p1147 := eq_true p1147; replace q1147 := eq_true q1147; have p1148 : 0 ≤ (x9_3 : Int) := od; have q1148 : x9_3 < ((rd_L5 t1143 x6_1).length : Int) := od; obtain ⟨ad1148, e1148, hx1148_0⟩ := Kd.at_int (by repeat (first | (with_reducible exact HR1147_0.out) | (with_reducible refine Kd.C_alloc ?_ _) | (with_reducible refine Kd.C_drewN ?_ _) | (with_reducible refine Kd.C_drew ?_) | exact HR1147_0.out)) x9_3 p1148 q1148
                   cases e1148; replace p1148 := eq_true p1148; replace q1148 := eq_true q1148; have p1149 : 0 ≤ (x6_1 : Int) := od; have q1149 : x6_1 < (t1143.length : Int) := od; obtain ⟨ad1149, A1149_0, c1149_0, e1149, hx1149_0, hl1149_0, hi1149_0⟩ := at_L5 (Kd.N_reads' HO_4.out).2.2 x6_1 p1149 q1149; obtain rfl : ad1146 = ad1149 := (by injection e1149); obtain ⟨ce1149, hce1149, hMe1149, hcc1149⟩ := Kd.N_get HO_4.out [] x6_1 p1149 (by first | exact q1149 | exact od | (have e_ := (Kd.N_reads' HO_4.out).1; omega)); obtain ⟨ua1149_0, uc1149_0, rfl, ul1149_0, ge1149_0⟩ := Kd.FK_slice_open hMe1149; have hv1149_0 := hcc1149 0 _ rfl; rw [Nat.add_zero, show ((Kd.slice 2 (Kd.int .i64))).sz = 1 from rfl, Nat.mul_one] at hv1149_0; replace hv1149_0 := Option.some.inj (hv1149_0.symm.trans hx1149_0); injection hv1149_0 with hva_ hvn_ hvc_
                   rw [hva_] at ge1149_0; rw [hvc_] at ul1149_0; have HL1149_0 := ak (show Kd.V (Kd.int .i64) 2 _ w.heap.size _ _ (rd_L5 t1143 x6_1) from Kd.V_mk ul1149_0 ge1149_0); clear hva_ hvn_ hvc_ ge1149_0 ul1149_0; clear hcc1149 hce1149; have HR1149_0 := ak hi1149_0; have HC1149_0 := ak hl1149_0; clear hi1149_0 hl1149_0; replace p1149 := eq_true p1149; replace q1149 := eq_true q1149; have ea_ := Option.some.inj (hx1147_0.symm.trans hx1149_0); injection ea_ with ea_ en_ ec_
                   subst ea_; subst ec_; clear en_; have p1150 : 0 ≤ (x8_2 : Int) := od; have q1150 : x8_2 < ((rd_L5 t1143 x6_1).length : Int) := od; obtain ⟨ad1150, e1150, hx1150_0⟩ := Kd.at_int (by repeat (first | (with_reducible exact HR1149_0.out) | (with_reducible refine Kd.C_alloc ?_ _) | (with_reducible refine Kd.C_drewN ?_ _) | (with_reducible refine Kd.C_drew ?_) | exact HR1149_0.out)) x8_2 p1150 q1150
                   cases e1150; replace p1150 := eq_true p1150; replace q1150 := eq_true q1150; refine start_ (n := 20) (S := fun w' => w'.cell? ⟨gb1141, 0, none⟩ = some (.slice A0_0 l0_0.length c0_0) ∧ w'.cell? ⟨gb1141, 1, none⟩ = some (.slice A0_1 l0_1.length c0_1) ∧ w'.cell? ⟨gb1141, 2, none⟩ = some (.slice A0_2 l0_2.length c0_2) ∧ w'.cell? ⟨gb1141, 3, none⟩ = some (.slice A0_3 l0_3.length c0_3) ∧ w'.cell? ⟨gb1141, 4, none⟩ = some (.slice A0_4 l0_4.length c0_4) ∧ w'.cell? ⟨gb1141, 5, none⟩ = some (.int .i64 0) ∧ w'.cell? (ad1146.add (x6_1).toNat) = some (.slice (some ad1148) (rd_L5 t1143 x6_1).length c1147_0) ∧ w'.cell? (ad1148.add (x9_3).toNat) = some (.int .i64 (rd (rd_L5 t1143 x6_1) x9_3)) ∧ w'.cell? (ad1146.add (x6_1).toNat) = some (.slice (some ad1148) (rd_L5 t1143 x6_1).length c1147_0) ∧ w'.cell? (ad1148.add (x8_2).toNat) = some (.int .i64 (rd (rd_L5 t1143 x6_1) x8_2))) (ds := []) (tf 0 20) (by kernel_rfl) rfl rfl ⟨(blk_cell BK1141.out 0).trans rfl, (blk_cell BK1141.out 1).trans rfl, (blk_cell BK1141.out 2).trans rfl, (blk_cell BK1141.out 3).trans rfl, (blk_cell BK1141.out 4).trans rfl, (blk_cell BK1141.out 5).trans rfl, hx1147_0, hx1148_0, hx1149_0, hx1150_0⟩ (fun hHeld => ?_); refine with_tabW spec_GreatestGap.tab18 spec_GreatestGap.bits18 (fun HT_ HW_ => ?_); generalize wr.drew = w32 at HO_4 BK1141 HR1146_0 HB HL1147_0 HL1149_0 HR1147_0 HR1149_0 hx1147_0 hx1148_0 hx1149_0 hx1150_0 hHeld ⊢; refine pu_ 0 39 (tf 1 19) rfl rfl ?_; refine pu_ 2 41 #[true, false, true, false, false, false, false, false, false, false, false, false, false, false, false, false, false, false, false, false] rfl rfl ?_
                   refine pu_ 3 42 #[true, false, true, true, false, false, false, false, false, false, false, false, false, false, false, false, false, false, false, false] rfl rfl ?_; refine pu_ 4 43 #[true, false, true, true, true, false, false, false, false, false, false, false, false, false, false, false, false, false, false, false] rfl rfl ?_; refine pu_ 6 45 #[true, false, true, true, true, false, true, false, false, false, false, false, false, false, false, false, false, false, false, false] rfl rfl ?_; refine pu_ 9 48 #[true, false, true, true, true, false, true, false, false, true, false, false, false, false, false, false, false, false, false, false] rfl rfl ?_; refine pu_ 10 49 #[true, false, true, true, true, false, true, false, false, true, true, false, false, false, false, false, false, false, false, false] rfl rfl ?_; refine pu_ 11 50 #[true, false, true, true, true, false, true, false, false, true, true, true, false, false, false, false, false, false, false, false] rfl rfl ?_; refine pu_ 13 52 #[true, false, true, true, true, false, true, false, false, true, true, true, false, true, false, false, false, false, false, false] rfl rfl ?_; refine ta10_ 1 40 #[true, true, true, true, true, false, true, false, false, true, true, true, false, true, false, false, false, false, false, false] rfl rfl ?_; refine ta10_ 5 44 #[true, true, true, true, true, true, true, false, false, true, true, true, false, true, false, false, false, false, false, false] rfl rfl ?_; refine pu_ 7 46 #[true, true, true, true, true, true, true, true, false, true, true, true, false, true, false, false, false, false, false, false] rfl rfl ?_
                   refine ta10_ 8 47 #[true, true, true, true, true, true, true, true, true, true, true, true, false, true, false, false, false, false, false, false] rfl rfl ?_; refine ta10_ 12 51 (tf 14 6) rfl rfl ?_; refine pu_ 14 53 (tf 15 5) rfl rfl ?_; refine ta10_ 15 54 (tf 16 4) rfl rfl ?_; refine one_ (i := 16) (N := some 55) (tf 17 3) rfl rfl (one_of HT_.out (by kernel_rfl)) (by decide) (fun K hK => ?_); refine goes_ Try.func87 (by kernel_rfl) rfl #[.agg #[.slice A0_0 l0_0.length c0_0, .slice A0_1 l0_1.length c0_1, .slice A0_2 l0_2.length c0_2, .slice A0_3 l0_3.length c0_3, .slice A0_4 l0_4.length c0_4, .int .i64 0], .int .i64 (rd (rd_L5 t1143 x6_1) x9_3), .int .i64 (rd (rd_L5 t1143 x6_1) x8_2)] (by rfl) rfl rfl (by (try simp only [List.map_toArray, List.map_cons, List.map_nil]); first | done | rfl | (simp only [List.length_drop, List.length_take]; rfl)) ?_; with_reducible refine (spec_l18Square.calls _ _ l0_0 _ _ l0_1 _ _ l0_2 _ _ l0_3 _ _ l0_4 0 (rd (rd_L5 t1143 x6_1) x9_3) (rd (rd_L5 t1143 x6_1) x8_2) t1151 _ ?side1 ?side2 ?side3 ?side4 ?side5 ?side6 ?side7 ?side8 ?side9 ?side10 A29.out).mono ?_
                   (case side1 => exact vd HR0_0.out HB.out)
                   (case side2 => exact HC0_0.out)
                   (case side3 => exact vd HR0_1.out HB.out)
                   (case side4 => exact HC0_1.out)
                   (case side5 => exact vd HR0_2.out HB.out)
                   (case side6 => exact HC0_2.out)
                   (case side7 => exact vd HR0_3.out HB.out)
                   (case side8 => exact HC0_3.out)
                   (case side9 => exact vd HR0_4.out HB.out)
                   (case side10 => exact HC0_4.out)
                   rintro e w33 ⟨rfl, hb⟩; have HS6_ := (hb.cell (World.block_lt_of_cell? _ _ (hHeld.2.2.2.2.2.2.1))).trans (hHeld.2.2.2.2.2.2.1); have HS7_ := (hb.cell (World.block_lt_of_cell? _ _ (hHeld.2.2.2.2.2.2.2.1))).trans (hHeld.2.2.2.2.2.2.2.1); have HS8_ := (hb.cell (World.block_lt_of_cell? _ _ (hHeld.2.2.2.2.2.2.2.2.1))).trans (hHeld.2.2.2.2.2.2.2.2.1); have HS9_ := (hb.cell (World.block_lt_of_cell? _ _ (hHeld.2.2.2.2.2.2.2.2.2))).trans (hHeld.2.2.2.2.2.2.2.2.2); refine ⟨_, rfl, ?_⟩; replace HO_4 := ak (Kd.N_below (vN HO_4.out) hb); replace HL1147_0 := ak (Kd.V_below (vV HL1147_0.out) hb); replace HL1149_0 := ak (Kd.V_below (vV HL1149_0.out) hb); replace BK1141 := kb BK1141 hb; replace HR1146_0 := ak (Kd.C_below (by repeat (first | (with_reducible exact HR1146_0.out) | (with_reducible refine Kd.C_alloc ?_ _) | (with_reducible refine Kd.C_drewN ?_ _) | (with_reducible refine Kd.C_drew ?_) | exact HR1146_0.out)) hb); replace HR1147_0 := ak (Kd.C_below (by repeat (first | (with_reducible exact HR1147_0.out) | (with_reducible refine Kd.C_alloc ?_ _) | (with_reducible refine Kd.C_drewN ?_ _) | (with_reducible refine Kd.C_drew ?_) | exact HR1147_0.out)) hb)
                   replace HR1149_0 := ak (Kd.C_below (by repeat (first | (with_reducible exact HR1149_0.out) | (with_reducible refine Kd.C_alloc ?_ _) | (with_reducible refine Kd.C_drewN ?_ _) | (with_reducible refine Kd.C_drew ?_) | exact HR1149_0.out)) hb); replace HB := bs HB hb; (try clear hb)
                   (try clear hb2)
                   (try clear hk)
                   (try clear hi)
                   refine hK.out _ _ ⟨(blk_cell BK1141.out 0).trans rfl, (blk_cell BK1141.out 1).trans rfl, (blk_cell BK1141.out 2).trans rfl, (blk_cell BK1141.out 3).trans rfl, (blk_cell BK1141.out 4).trans rfl, (blk_cell BK1141.out 5).trans rfl, HS6_, HS7_, HS8_, HS9_⟩ (fun hHeld => ?_); clear hK K; refine norm_ (a' := ?_) ?_ ?_
                   rotate_left
                   ·show Act.put _ (some 55) _ = _
                    simp only [Act.put, List.setIfInBounds_toArray, List.set_cons_zero, List.set_cons_succ, i64_w, i32_w]
                    rfl
                   refine one_ (i := 17) (N := some 56) (tf 18 2) rfl rfl (one_of HT_.out (by kernel_rfl)) (by decide) (fun K hK => ?_); refine goes_ Try.func86 (by kernel_rfl) rfl #[.int .i64 t1151] (by rfl) rfl rfl (by (try simp only [List.map_toArray, List.map_cons, List.map_nil]); first | done | rfl | (simp only [List.length_drop, List.length_take]; rfl)) ?_; with_reducible refine (spec_l15Root.calls k3 t1151 t1152 _ A30.out).mono ?_
                   rintro e w' ⟨rfl, ⟨nd, rfl⟩⟩; refine ⟨_, rfl, ?_⟩; refine hK.out _ _ ⟨(blk_cell BK1141.out 0).trans rfl, (blk_cell BK1141.out 1).trans rfl, (blk_cell BK1141.out 2).trans rfl, (blk_cell BK1141.out 3).trans rfl, (blk_cell BK1141.out 4).trans rfl, (blk_cell BK1141.out 5).trans rfl, hHeld.2.2.2.2.2.2.1, hHeld.2.2.2.2.2.2.2.1, hHeld.2.2.2.2.2.2.2.2.1, hHeld.2.2.2.2.2.2.2.2.2⟩ (fun hHeld => ?_); clear hK K; refine norm_ (a' := ?_) ?_ ?_
                   rotate_left
                   ·show Act.put _ (some 56) _ = _
                    simp only [Act.put, List.setIfInBounds_toArray, List.set_cons_zero, List.set_cons_succ, i64_w, i32_w]
                    rfl
                   refine pu_ 18 57 (tf 19 1) rfl rfl ?_; refine pu_ 19 7 (tf 20 0) rfl rfl ?_; refine done_ (done_of HT_.out (by kernel_rfl)) ?_; (try go_wp2)
                   go_roundg k3
                   case measure => have := HK1.out; have := HK2.out; have := HK3.out; omega
                   case rel => exact ⟨(ji31), (wrap64 (x9_3 + 1)), (by first | rfl | (simp; done) | (simp only [← hji31] <;> (first | rfl | simp)) | (simp [*]; done)), (by first | rfl | (simp; done) | (simp [*]; done)), H', ⟨by have := HK1.out; have := HK2.out; have := HK3.out; omega⟩, ⟨vN HO_4.out⟩, ⟨vk BK1141.out⟩, ⟨by repeat (first | (with_reducible exact HR1146_0.out) | (with_reducible refine Kd.C_alloc ?_ _) | (with_reducible refine Kd.C_drewN ?_ _) | (with_reducible refine Kd.C_drew ?_) | exact HR1146_0.out)⟩, ⟨vb HB.out⟩⟩
                  ·rw [if_neg c28] at H; exact absurd H (by simp)
                 ·rw [if_neg c27] at H; exact absurd H (by simp)
                ·rw [if_neg c26] at H; exact absurd H (by simp)
               ·rw [if_neg c25] at H; exact absurd H (by simp)
              ·rw [if_neg c24] at H; exact absurd H (by simp)
             ·rw [if_neg c23] at H; exact absurd H (by simp)
            ·rw [if_neg c22] at H; have c22b0 := decide_eq_false c22; clear c22; have H' := ak H; clear H; go_wp2
             go_roundg k3
             case measure => have := HK1.out; have := HK2.out; have := HK3.out; omega
             case rel => exact ⟨(x7_3), (wrap64 (x8_2 + 1)), (by first | rfl | (simp; done) | (simp [*]; done)), (by first | rfl | (simp; done) | (simp [*]; done)), H', ⟨by have := HK1.out; have := HK2.out; have := HK3.out; omega⟩, ⟨vN HO_4.out⟩, ⟨vk BK1141.out⟩, ⟨vb HB.out⟩⟩
         ·rw [if_neg c21] at H; have c21b0 := decide_eq_false c21; clear c21; obtain ⟨ji34, hji34⟩ : ∃ j_ : Int, (mx x5_1 x7_2) = j_ := ⟨_, rfl⟩; replace H : (spec_GreatestGap.l0 k2 t1143 ji34 (wrap64 (x6_1 + 1)) l0_0 l0_1 l0_2 l0_3 l0_4 0) = some (r1, r2) := by first | (rw [hji34] at H; exact H) | (simp only [hji34] at H ⊢; exact H)
          have hji34_ : (if x5_1 < x7_2 then x7_2 else x5_1) = ji34 := hji34; have H' := ak H; clear H; have p1146 : 0 ≤ (x6_1 : Int) := od; have q1146 : x6_1 < (t1143.length : Int) := od; obtain ⟨ad1146, A1146_0, c1146_0, e1146, hx1146_0, hl1146_0, hi1146_0⟩ := at_L5 (Kd.N_reads' HO_4.out).2.2 x6_1 p1146 q1146
          cases e1146; obtain ⟨ce1146, hce1146, hMe1146, hcc1146⟩ := Kd.N_get HO_4.out [] x6_1 p1146 (by first | exact q1146 | exact od | (have e_ := (Kd.N_reads' HO_4.out).1; omega)); obtain ⟨ua1146_0, uc1146_0, rfl, ul1146_0, ge1146_0⟩ := Kd.FK_slice_open hMe1146; have hv1146_0 := hcc1146 0 _ rfl; rw [Nat.add_zero, show ((Kd.slice 2 (Kd.int .i64))).sz = 1 from rfl, Nat.mul_one] at hv1146_0; replace hv1146_0 := Option.some.inj (hv1146_0.symm.trans hx1146_0); injection hv1146_0 with hva_ hvn_ hvc_
          rw [hva_] at ge1146_0; rw [hvc_] at ul1146_0; have HL1146_0 := ak (show Kd.V (Kd.int .i64) 2 _ w.heap.size _ _ (rd_L5 t1143 x6_1) from Kd.V_mk ul1146_0 ge1146_0); clear hva_ hvn_ hvc_ ge1146_0 ul1146_0; clear hcc1146 hce1146; have HR1146_0 := ak hi1146_0; have HC1146_0 := ak hl1146_0; clear hi1146_0 hl1146_0; replace p1146 := eq_true p1146; replace q1146 := eq_true q1146; go_wp2
          go_roundg k2
          case measure => have := HK1.out; have := HK2.out; omega
          case rel => exact ⟨(ji34), (wrap64 (x6_1 + 1)), (by first | rfl | (simp; done) | (simp only [← hji34] <;> (first | rfl | simp)) | (simp [*]; done)), (by first | rfl | (simp; done) | (simp [*]; done)), H', ⟨by have := HK1.out; have := HK2.out; omega⟩, ⟨vN HO_4.out⟩, ⟨vk BK1141.out⟩, ⟨vb HB.out⟩⟩
        ·rw [if_neg c20] at H; exact absurd H (by simp)
       ·rw [if_neg c19] at H; exact absurd H (by simp)
    ·rw [if_neg c18] at H; have c18b0 := decide_eq_false c18; clear c18; simp only [Option.some.injEq, Prod.mk.injEq] at H
     obtain ⟨rfl, rfl⟩ := H; go_wp2
     go_ret2
     exact ⟨ew, vb HB.out⟩
 replace c3 := Bool.eq_false_iff.mpr c3; subst c3; rw [if_neg nf] at H; simp only [Option.some.injEq, Prod.mk.injEq] at H
 obtain ⟨rfl, rfl⟩ := H; rotate_left
 all_goals
  go_enter Try.func38, Try.ntmps38; go_wp2_with (first | ((with_reducible refine gate_dst (N := 1) rfl ?_); refine bx 1 #[.slice A0_0 l0_0.length c0_0, .slice A0_1 l0_1.length c0_1, .slice A0_2 l0_2.length c0_2, .slice A0_3 l0_3.length c0_3, .slice A0_4 l0_4.length c0_4, .int .i64 a0_5] 33 ?_; intro gb1141 hg w9 hbox hb; have BK1141 := ak hbox; have GW1141 := gw hg HB; have GE1141 := gw hg HB; replace HB := bs HB hb; clear hb hbox hg; have hcz9 := cz6 BK1141.out) | ((with_reducible refine at_fn (f := 58) rfl ?_); refine gl (some 11) Try.func58 #[.agg #[.slice A0_0 l0_0.length c0_0, .slice A0_1 l0_1.length c0_1, .slice A0_2 l0_2.length c0_2, .slice A0_3 l0_3.length c0_3, .slice A0_4 l0_4.length c0_4, .int .i64 a0_5]] ?_; (with_reducible refine (spec_IsField.calls k _ _ l0_0 _ _ l0_1 _ _ l0_2 _ _ l0_3 _ _ l0_4 a0_5 _ _ ?side1 HC0_0.out ?side3 HC0_1.out ?side5 HC0_2.out ?side7 HC0_3.out ?side9 HC0_4.out A2.out).mono ?_); (case side1 => exact vd HR0_0.out HB.out); (case side3 => exact vd HR0_1.out HB.out); (case side5 => exact vd HR0_2.out HB.out); (case side7 => exact vd HR0_3.out HB.out); (case side9 => exact vd HR0_4.out HB.out); rintro e w9 ⟨rfl, hb⟩; refine ⟨_, rfl, ?_⟩; replace BK1141 := kb BK1141 hb; replace HB := bs HB hb; (try clear hb); (try clear hb2); (try clear hk); (try clear hi); have hcz9 := cz6 BK1141.out) | ((with_reducible refine at_fn (f := 59) rfl ?_); refine gl (some 15) Try.func59 #[.agg #[.slice A0_0 l0_0.length c0_0, .slice A0_1 l0_1.length c0_1, .slice A0_2 l0_2.length c0_2, .slice A0_3 l0_3.length c0_3, .slice A0_4 l0_4.length c0_4, .int .i64 0]] ?_; (with_reducible refine (spec_l18Placings.calls k _ _ l0_0 _ _ l0_1 _ _ l0_2 _ _ l0_3 _ _ l0_4 0 t1143 _ ?side1 HC0_0.out ?side3 HC0_1.out ?side5 HC0_2.out ?side7 HC0_3.out ?side9 HC0_4.out A4.out).mono ?_); (case side1 => exact Kd.C_below HR0_0.out (vb HB.out)); (case side3 => exact Kd.C_below HR0_1.out (vb HB.out)); (case side5 => exact Kd.C_below HR0_2.out (vb HB.out)); (case side7 => exact Kd.C_below HR0_3.out (vb HB.out)); (case side9 => exact Kd.C_below HR0_4.out (vb HB.out)); rintro e w9 ⟨v1144, rfl, ho0, hb⟩; refine ⟨_, rfl, ?_⟩; have HO1145 := ak (Kd.N_lower (Kd.N_mono (ok' := fun k_ => k_ ≠ gb1141) ho0 (fun k_ hk_ => (Kd.freshB (g := gb1141) (o := .cells #[.slice A0_0 l0_0.length c0_0, .slice A0_1 l0_1.length c0_1, .slice A0_2 l0_2.length c0_2, .slice A0_3 l0_3.length c0_3, .slice A0_4 l0_4.length c0_4, .int .i64 0] 33 (0, 0)) (vz BK1141.out) k_ hk_))) (below_size (vb HB.out))); replace BK1141 := ak (blk_below (g := gb1141) (o := .cells #[.slice A0_0 l0_0.length c0_0, .slice A0_1 l0_1.length c0_1, .slice A0_2 l0_2.length c0_2, .slice A0_3 l0_3.length c0_3, .slice A0_4 l0_4.length c0_4, .int .i64 0] 33 (0, 0)) (vz BK1141.out) hb); replace HB := bs HB hb; (try clear hb); (try clear hb2); (try clear hk); (try clear hi); (try clear ho0); obtain ⟨Ao900, co900, eo900⟩ := Kd.N_slice HO1145.out; subst eo900))
  go_ret2
  exact ⟨ew, vb HB.out⟩


/-! ### impl_floorDiv: function 88 -/
def impl_floorDiv.f (a0 : Int) (a1 : Int) : Option (Int) := if a1 = 0 then (none) else (if (Int.tmod a0 a1) < 0 then (some (wrap64 ((wrap64 (Int.tdiv a0 a1)) - 1))) else (some (wrap64 (Int.tdiv a0 a1))))
set_option maxHeartbeats 8000000 in
set_option maxRecDepth 100000 in
theorem impl_floorDiv.calls (a0 : Int) (a1 : Int) (r : Int) (w : World) (h : impl_floorDiv.f a0 a1 = some r) :
  Calls Try.prog 88 #[.int .i64 a0, .int .i64 a1] w fun e w' => e = .returned (.int .i64 r) ∧ Drawn0 w w' := by
 unfold impl_floorDiv.f at h; have H := h; clear h; by_cases c3 : a1 = 0
 ·rw [if_pos c3] at H; exact absurd H (by simp)
 rw [if_neg c3] at H; obtain ⟨c3b0, c3b1⟩ := bqf c3; by_cases c4 : (Int.tmod a0 a1) < 0
 rw [if_pos c4] at H; have c4b0 := decide_eq_true c4; clear c4; obtain rfl := Option.some.inj H; rotate_left
 rw [if_neg c4] at H; have c4b0 := decide_eq_false c4; clear c4; obtain rfl := Option.some.inj H; rotate_left
 all_goals
  go_enter Try.func88, Try.ntmps88; go_wp2
  go_ret
  exact ⟨by first | rfl | (simp; done) | (simp [*]; done), by repeat (first | exact Drawn0.refl _ | apply Drawn0.step)⟩


end Go.Proofs.Ytancnecddlbhkaa.Pall
