/- Go functions of the program, each as a Lean function, and the proof that each call comes to what the Lean function tells; no condition beyond those that stand there. -/
import Derived.Test.YtnfmfebmjlglgaaF00
import Derived.Test.YtnfmfebmjlglgaaF01
import Derived.Test.YtnfmfebmjlglgaaF02
import Derived.Test.YtnfmfebmjlglgaaSq
import Derived.Test.YtnfmfebmjlglgaaWGuard
import Derived.Test.YtnfmfebmjlglgaaWLast
import Derived.Test.YtnfmfebmjlglgaaWTab
import Derived.Test.YtnfmfebmjlglgaaSpare
import Derived.Test.YtnfmfebmjlglgaaCm
import Derived.Laws.Cover1
namespace Go.Proofs.Ytnfmfebmjlglgaa.Pall
open Go.RowKit Go.Proofs.YtnfmfebmjlglgaaW.PrintWords Go.Proofs.YtnfmfebmjlglgaaW.PrintLast
set_option linter.unusedVariables false
set_option linter.unusedSimpArgs false

/-! ### laws_szRack: function 13 -/
def laws_szRack.f (k : Nat) (a0_0 : Int) (a0_1 : Int) (l0_2 : List Int) (l0_3 : List ByteArray) (a1 : Int) : Option (Int) := (laws_szInt64S.f l0_2 a1).bind fun t106 => (if t106 < 0 then (some (-1)) else ((laws_szStringS.f k l0_3 t106).bind fun t107 => (if t107 < 0 then (some (-1)) else (some t107))))
theorem laws_szRack.mono : ∀ a0 a1 a2 a3 a4 k, LeO (laws_szRack.f k a0 a1 a2 a3 a4) (laws_szRack.f (k + 1) a0 a1 a2 a3 a4) := by
 intro a0 a1 a2 a3 a4 k; unfold laws_szRack.f
 repeat' first
   | (with_reducible exact laws_szStringS.mono _ _ _)
   | (with_reducible exact LeO.refl _)
   | (with_reducible exact LeO.none _)
   | (with_reducible refine LeO.ite ?_ ?_)
   | (with_reducible refine LeO.bind ?_ (fun _ => ?_))
   | exact laws_szStringS.mono _ _ _
   | exact LeO.none _
   | refine LeO.ite ?_ ?_
   | refine LeO.bind ?_ (fun _ => ?_)
set_option maxHeartbeats 8000000 in
set_option maxRecDepth 100000 in
theorem laws_szRack.calls (k : Nat) (a0_0 : Int) (a0_1 : Int) (A0_2 : Option Addr) (c0_2 : Nat) (l0_2 : List Int) (A0_3 : Option Addr) (c0_3 : Nat) (l0_3 : List ByteArray) (a1 : Int) (r : Int) (w : World) (hr0_2 : Kd.C (Kd.int .i64) w A0_2 l0_2.length l0_2) (hc0_2 : l0_2.length ≤ c0_2) (hr0_3 : Kd.C Kd.string w A0_3 l0_3.length l0_3) (hc0_3 : l0_3.length ≤ c0_3) (h : laws_szRack.f k a0_0 a0_1 l0_2 l0_3 a1 = some r) :
  Calls Try.prog 13 #[.agg #[.int .i64 a0_0, .int .i64 a0_1, .slice A0_2 l0_2.length c0_2, .slice A0_3 l0_3.length c0_3], .int .i64 a1] w fun e w' => e = .returned (.int .i64 r) ∧ Below w.heap.size w w' := by
 have hu26 := Try.underlying26; have HR0_2 := Aside0.mk hr0_2; have HC0_2 := Aside0.mk hc0_2; clear hr0_2 hc0_2; have HR0_3 := Aside0.mk hr0_3; have HC0_3 := Aside0.mk hc0_3; clear hr0_3 hc0_3; have HB := Aside0.mk (Below.refl w.heap.size w); have H : ((laws_szInt64S.f l0_2 a1).bind fun t106 => (if t106 < 0 then (some (-1)) else ((laws_szStringS.f k l0_3 t106).bind fun t107 => (if t107 < 0 then (some (-1)) else (some t107))))) = some r := h; clear h; replace H := Option.bind_eq_some_iff.mp H; obtain ⟨t106, A30, H⟩ := H; replace H : (if t106 < 0 then (some (-1)) else ((laws_szStringS.f k l0_3 t106).bind fun t107 => (if t107 < 0 then (some (-1)) else (some t107)))) = some r := H; have A3 := Aside0.mk A30; clear A30; by_cases c4 : t106 < 0
 ·rw [if_pos c4] at H; have c4b0 : decide (t106 < 0) = true := decide_eq_true c4; clear c4; obtain rfl := Option.some.inj H; go_enter Try.func13, Try.ntmps13; go_wp2_with (first | ((with_reducible refine gate_dst (N := 2) rfl ?_); refine bx 2 #[.int .i64 a0_0, .int .i64 a0_1, .slice A0_2 l0_2.length c0_2, .slice A0_3 l0_3.length c0_3] 26 ?_; intro gb105 hg w5 hbox hb; have BK105 := Aside0.mk (hbox); have GW105 := Aside0.mk ((by rw [hg]; exact (below_size (vb HB.out)) : w.heap.size ≤ gb105)); have GE105 := Aside0.mk ((by rw [hg]; exact (below_size (vb HB.out)) : w.heap.size ≤ gb105)); replace HB := Aside0.mk (below_step (vb HB.out) hb); clear hb hbox hg; obtain ⟨hcz6_0, hcz6_1, hcz6_2, hcz6_3, hfz6_0, hfz6_1, hfz6_2, hfz6_3⟩ := cz4 BK105.out) | ((with_reducible refine at_fn (f := 57) rfl ?_); refine gl (some 8) Try.func57 #[.slice A0_2 l0_2.length c0_2, .int .i64 a1] ?_; (with_reducible refine (laws_szInt64S.calls _ _ l0_2 a1 t106 _ ?side1 ?side2 A3.out).mono ?_); (case side1 => exact vd HR0_2.out HB.out); (case side2 => exact HC0_2.out); rintro e w' ⟨rfl, ⟨nd, rfl⟩⟩; refine ⟨_, rfl, ?_⟩))
  go_ret
  exact ⟨ew, vb HB.out⟩
 ·rw [if_neg c4] at H; have c4b0 : decide (t106 < 0) = false := decide_eq_false c4; clear c4; replace H := Option.bind_eq_some_iff.mp H; obtain ⟨t107, A70, H⟩ := H; replace H : (if t107 < 0 then (some (-1)) else (some t107)) = some r := H; have A7 := Aside0.mk A70; clear A70; by_cases c8 : t107 < 0
  ·rw [if_pos c8] at H; have c8b0 : decide (t107 < 0) = true := decide_eq_true c8; clear c8; obtain rfl := Option.some.inj H; go_enter Try.func13, Try.ntmps13; go_wp2_with (first | ((with_reducible refine gate_dst (N := 2) rfl ?_); refine bx 2 #[.int .i64 a0_0, .int .i64 a0_1, .slice A0_2 l0_2.length c0_2, .slice A0_3 l0_3.length c0_3] 26 ?_; intro gb105 hg w9 hbox hb; have BK105 := Aside0.mk (hbox); have GW105 := Aside0.mk ((by rw [hg]; exact (below_size (vb HB.out)) : w.heap.size ≤ gb105)); have GE105 := Aside0.mk ((by rw [hg]; exact (below_size (vb HB.out)) : w.heap.size ≤ gb105)); replace HB := Aside0.mk (below_step (vb HB.out) hb); clear hb hbox hg; obtain ⟨hcz10_0, hcz10_1, hcz10_2, hcz10_3, hfz10_0, hfz10_1, hfz10_2, hfz10_3⟩ := cz4 BK105.out) | ((with_reducible refine at_fn (f := 57) rfl ?_); refine gl (some 8) Try.func57 #[.slice A0_2 l0_2.length c0_2, .int .i64 a1] ?_; (with_reducible refine (laws_szInt64S.calls _ _ l0_2 a1 t106 _ ?side1 ?side2 A3.out).mono ?_); (case side1 => exact vd HR0_2.out HB.out); (case side2 => exact HC0_2.out); rintro e w' ⟨rfl, ⟨nd, rfl⟩⟩; refine ⟨_, rfl, ?_⟩) | ((with_reducible refine at_fn (f := 58) rfl ?_); refine gl (some 14) Try.func58 #[.slice A0_3 l0_3.length c0_3, .int .i64 t106] ?_; (with_reducible refine (laws_szStringS.calls k _ _ l0_3 t106 t107 _ ?side1 ?side2 A7.out).mono ?_); (case side1 => repeat (first | exact (Kd.C_below HR0_3.out (vb HB.out)) | (with_reducible refine Kd.C_alloc ?_ _) | (with_reducible refine Kd.C_drewN ?_ _) | (with_reducible refine Kd.C_drew ?_))); (case side2 => exact HC0_3.out); rintro e w' ⟨rfl, ⟨nd, rfl⟩⟩; refine ⟨_, rfl, ?_⟩))
   go_ret
   exact ⟨ew, vb HB.out⟩
  ·rw [if_neg c8] at H; have c8b0 : decide (t107 < 0) = false := decide_eq_false c8; clear c8; obtain rfl := Option.some.inj H; go_enter Try.func13, Try.ntmps13; go_wp2_with (first | ((with_reducible refine gate_dst (N := 2) rfl ?_); refine bx 2 #[.int .i64 a0_0, .int .i64 a0_1, .slice A0_2 l0_2.length c0_2, .slice A0_3 l0_3.length c0_3] 26 ?_; intro gb105 hg w11 hbox hb; have BK105 := Aside0.mk (hbox); have GW105 := Aside0.mk ((by rw [hg]; exact (below_size (vb HB.out)) : w.heap.size ≤ gb105)); have GE105 := Aside0.mk ((by rw [hg]; exact (below_size (vb HB.out)) : w.heap.size ≤ gb105)); replace HB := Aside0.mk (below_step (vb HB.out) hb); clear hb hbox hg; obtain ⟨hcz12_0, hcz12_1, hcz12_2, hcz12_3, hfz12_0, hfz12_1, hfz12_2, hfz12_3⟩ := cz4 BK105.out) | ((with_reducible refine at_fn (f := 57) rfl ?_); refine gl (some 8) Try.func57 #[.slice A0_2 l0_2.length c0_2, .int .i64 a1] ?_; (with_reducible refine (laws_szInt64S.calls _ _ l0_2 a1 t106 _ ?side1 ?side2 A3.out).mono ?_); (case side1 => exact vd HR0_2.out HB.out); (case side2 => exact HC0_2.out); rintro e w' ⟨rfl, ⟨nd, rfl⟩⟩; refine ⟨_, rfl, ?_⟩) | ((with_reducible refine at_fn (f := 58) rfl ?_); refine gl (some 14) Try.func58 #[.slice A0_3 l0_3.length c0_3, .int .i64 t106] ?_; (with_reducible refine (laws_szStringS.calls k _ _ l0_3 t106 t107 _ ?side1 ?side2 A7.out).mono ?_); (case side1 => repeat (first | exact (Kd.C_below HR0_3.out (vb HB.out)) | (with_reducible refine Kd.C_alloc ?_ _) | (with_reducible refine Kd.C_drewN ?_ _) | (with_reducible refine Kd.C_drew ?_))); (case side2 => exact HC0_3.out); rintro e w' ⟨rfl, ⟨nd, rfl⟩⟩; refine ⟨_, rfl, ?_⟩))
   go_ret
   exact ⟨ew, vb HB.out⟩


/-! ### spec_l03Find: function 70 -/
def spec_l03Find.l0 : Nat → List (S67) → ByteArray → Int → Option (Int)
 | 0, _, _, _ => none
 | k + 1, x0, x1, x5 => if x5 < (x0.length : Int) then (if 0 ≤ x5 then (if ((rd_T67 x0 x5).f0).toList = x1.toList then (some x5) else (spec_l03Find.l0 k x0 x1 (wrap64 (x5 + 1)))) else (none)) else (some (-1))
def spec_l03Find.f (k : Nat) (l0 : List (S67)) (a1 : ByteArray) : Option (Int) := spec_l03Find.l0 k l0 a1 0
theorem spec_l03Find.mono_l : ∀ k, (∀ y0 y1 y2, LeO (spec_l03Find.l0 k y0 y1 y2) (spec_l03Find.l0 (k + 1) y0 y1 y2))
 | 0 => fun _ _ _ r h => by simp [spec_l03Find.l0] at h
 | k + 1 => by
  have ih0 := spec_l03Find.mono_l k
  ·intro y0 y1 y2; unfold spec_l03Find.l0
   repeat' first
   | (with_reducible exact ih0 _ _ _)
   | (with_reducible exact LeO.refl _)
   | (with_reducible exact LeO.none _)
   | (with_reducible refine LeO.ite ?_ ?_)
   | (with_reducible refine LeO.bind ?_ (fun _ => ?_))
   | exact ih0 _ _ _
   | exact LeO.none _
   | refine LeO.ite ?_ ?_
   | refine LeO.bind ?_ (fun _ => ?_)
theorem spec_l03Find.mono : ∀ a0 a1 k, LeO (spec_l03Find.f k a0 a1) (spec_l03Find.f (k + 1) a0 a1) := by
 intro a0 a1 k; have ih0 := spec_l03Find.mono_l k; unfold spec_l03Find.f
 repeat' first
   | (with_reducible exact ih0 _ _ _)
   | (with_reducible exact LeO.refl _)
   | (with_reducible exact LeO.none _)
   | (with_reducible refine LeO.ite ?_ ?_)
   | (with_reducible refine LeO.bind ?_ (fun _ => ?_))
   | exact ih0 _ _ _
   | exact LeO.none _
   | refine LeO.ite ?_ ?_
   | refine LeO.bind ?_ (fun _ => ?_)
set_option maxHeartbeats 8000000 in
set_option maxRecDepth 100000 in
theorem spec_l03Find.calls (k : Nat) (A0 : Option Addr) (c0 : Nat) (l0 : List (S67)) (a1 : ByteArray) (r : Int) (w : World) (hr0 : Kd.C k67 w A0 l0.length l0) (hc0 : l0.length ≤ c0) (h : spec_l03Find.f k l0 a1 = some r) :
  Calls Try.prog 70 #[.slice A0 l0.length c0, .string a1] w fun e w' => e = .returned (.int .i64 r) ∧ Drawn0 w w' := by
 have HR0 := Aside0.mk hr0; have HC0 := Aside0.mk hc0; clear hr0 hc0; have H : (spec_l03Find.l0 k l0 a1 0) = some r := h; clear h; have H' := Aside0.mk H; clear H; go_enter Try.func70, Try.ntmps70; go_wp2
 go_loopg [5] k (fun kq v5 w' => ∃ (x5_1 : Int), v5 = .int .i64 x5_1 ∧ Aside0 (spec_l03Find.l0 kq l0 a1 x5_1 = some r) ∧ Aside0 (kq ≤ k) ∧ Drawn0 w w')
 case atStart => exact ⟨(0), (by first | rfl | (simp; done) | (simp [*]; done)), H', ⟨Nat.le_refl _⟩, by repeat (first | exact Drawn0.refl _ | apply Drawn0.step)⟩
 case round =>
  clear H'; (try clear p2); obtain ⟨x5_1, rfl, HA, HK1, ⟨m1, rfl⟩⟩ := hrel
  cases gk with
  | zero => exact absurd HA.out (by simp [spec_l03Find.l0])
  | succ k1 =>
   have H := HA.out; clear HA; simp only [spec_l03Find.l0] at H
   by_cases c3 : x5_1 < (l0.length : Int)
   ·rw [if_pos c3] at H; have c3b0 : decide (x5_1 < (l0.length : Int)) = true := decide_eq_true c3; clear c3; by_cases c4 : 0 ≤ x5_1
    ·rw [if_pos c4] at H; have c4b0 : decide (0 ≤ x5_1) = true := decide_eq_true c4; clear c4; by_cases c5 : ((rd_T67 l0 x5_1).f0).toList = a1.toList
     ·rw [if_pos c5] at H; have c5b0 : (((rd_T67 l0 x5_1).f0).toList == a1.toList) = true := beq_iff_eq.mpr c5; have c5b1 : (((rd_T67 l0 x5_1).f0).toList != a1.toList) = false := bne_eq_false_iff_eq.mpr c5; clear c5; obtain rfl := Option.some.inj H; have p108 : 0 ≤ (x5_1 : Int) := od; have q108 : x5_1 < (l0.length : Int) := od; obtain ⟨ad108, e108, hx108_0, hx108_1, hx108_2, hx108_3, hx108_4, hx108_5, hx108_6, hx108_7, hx108_8⟩ := at_T67 HR0.out x5_1 p108 q108
      cases e108; replace p108 := eq_true p108; replace q108 := eq_true q108; go_wp2
      go_ret
      exact ⟨by first | rfl | (simp; done) | (simp [*]; done), by repeat (first | exact Drawn0.refl _ | apply Drawn0.step)⟩
     ·rw [if_neg c5] at H; have c5b0 : (((rd_T67 l0 x5_1).f0).toList == a1.toList) = false := beq_eq_false_iff_ne.mpr c5; have c5b1 : (((rd_T67 l0 x5_1).f0).toList != a1.toList) = true := bne_iff_ne.mpr c5; have H' := Aside0.mk H; clear H; have p108 : 0 ≤ (x5_1 : Int) := od; have q108 : x5_1 < (l0.length : Int) := od; obtain ⟨ad108, e108, hx108_0, hx108_1, hx108_2, hx108_3, hx108_4, hx108_5, hx108_6, hx108_7, hx108_8⟩ := at_T67 HR0.out x5_1 p108 q108
      cases e108; replace p108 := eq_true p108; replace q108 := eq_true q108; go_wp2
      go_roundg k1
      case measure => have := HK1.out; omega
      case rel => exact ⟨(wrap64 (x5_1 + 1)), (by first | rfl | (simp; done) | (simp [*]; done)), H', ⟨by have := HK1.out; omega⟩, by repeat (first | exact Drawn0.refl _ | apply Drawn0.step)⟩
    ·rw [if_neg c4] at H; exact absurd H (by simp)
   ·rw [if_neg c3] at H; have c3b0 : decide (x5_1 < (l0.length : Int)) = false := decide_eq_false c3; clear c3; obtain rfl := Option.some.inj H; go_wp2
    go_ret
    exact ⟨by first | rfl | (simp; done) | (simp [*]; done), by repeat (first | exact Drawn0.refl _ | apply Drawn0.step)⟩


/-! ### spec_l17Fits: function 81 -/
def spec_l17Fits.f (a0_0 : ByteArray) (a0_1 : Int) (a0_2 : Int) (a0_3 : Int) (a0_4 : Int) (a0_5 : Int) (a0_6 : Int) (a0_7 : Int) (a0_8 : Int) (a1 : Int) : Option (Bool) := if a0_2 ≤ a1 then (some (decide ((wrap64 (10 * a0_2)) > (wrap64 (9 * a1))))) else (some false)
set_option maxHeartbeats 8000000 in
set_option maxRecDepth 100000 in
theorem spec_l17Fits.calls (a0_0 : ByteArray) (a0_1 : Int) (a0_2 : Int) (a0_3 : Int) (a0_4 : Int) (a0_5 : Int) (a0_6 : Int) (a0_7 : Int) (a0_8 : Int) (a1 : Int) (r : Bool) (w : World) (h : spec_l17Fits.f a0_0 a0_1 a0_2 a0_3 a0_4 a0_5 a0_6 a0_7 a0_8 a1 = some r) :
  Calls Try.prog 81 #[.agg #[.string a0_0, .int .i64 a0_1, .int .i64 a0_2, .int .i64 a0_3, .int .i64 a0_4, .int .i64 a0_5, .int .i64 a0_6, .int .i64 a0_7, .int .i64 a0_8], .int .i64 a1] w fun e w' => e = .returned (.bool r) ∧ Below w.heap.size w w' := by
 have hu67 := Try.underlying67; have HB := Aside0.mk (Below.refl w.heap.size w); have H : (if a0_2 ≤ a1 then (some (decide ((wrap64 (10 * a0_2)) > (wrap64 (9 * a1))))) else (some false)) = some r := h; clear h; by_cases c3 : a0_2 ≤ a1
 ·rw [if_pos c3] at H; have c3b0 : decide (a0_2 ≤ a1) = true := decide_eq_true c3; clear c3; obtain rfl := Option.some.inj H; go_enter Try.func81, Try.ntmps81; go_wp2_with (first | ((with_reducible refine gate_dst (N := 2) rfl ?_); refine bx 2 #[.string a0_0, .int .i64 a0_1, .int .i64 a0_2, .int .i64 a0_3, .int .i64 a0_4, .int .i64 a0_5, .int .i64 a0_6, .int .i64 a0_7, .int .i64 a0_8] 67 ?_; intro gb109 hg w4 hbox hb; have BK109 := Aside0.mk (hbox); have GW109 := Aside0.mk ((by rw [hg]; exact (below_size (vb HB.out)) : w.heap.size ≤ gb109)); have GE109 := Aside0.mk ((by rw [hg]; exact (below_size (vb HB.out)) : w.heap.size ≤ gb109)); replace HB := Aside0.mk (below_step (vb HB.out) hb); clear hb hbox hg; obtain ⟨hcz5_0, hcz5_1, hcz5_2, hcz5_3, hcz5_4, hcz5_5, hcz5_6, hcz5_7, hcz5_8, hfz5_0, hfz5_1, hfz5_2, hfz5_3, hfz5_4, hfz5_5, hfz5_6, hfz5_7, hfz5_8⟩ := cz9 BK109.out))
  go_ret
  exact ⟨ew, vb HB.out⟩
 ·rw [if_neg c3] at H; have c3b0 : decide (a0_2 ≤ a1) = false := decide_eq_false c3; clear c3; obtain rfl := Option.some.inj H; go_enter Try.func81, Try.ntmps81; go_wp2_with (first | ((with_reducible refine gate_dst (N := 2) rfl ?_); refine bx 2 #[.string a0_0, .int .i64 a0_1, .int .i64 a0_2, .int .i64 a0_3, .int .i64 a0_4, .int .i64 a0_5, .int .i64 a0_6, .int .i64 a0_7, .int .i64 a0_8] 67 ?_; intro gb109 hg w6 hbox hb; have BK109 := Aside0.mk (hbox); have GW109 := Aside0.mk ((by rw [hg]; exact (below_size (vb HB.out)) : w.heap.size ≤ gb109)); have GE109 := Aside0.mk ((by rw [hg]; exact (below_size (vb HB.out)) : w.heap.size ≤ gb109)); replace HB := Aside0.mk (below_step (vb HB.out) hb); clear hb hbox hg; obtain ⟨hcz7_0, hcz7_1, hcz7_2, hcz7_3, hcz7_4, hcz7_5, hcz7_6, hcz7_7, hcz7_8, hfz7_0, hfz7_1, hfz7_2, hfz7_3, hfz7_4, hfz7_5, hfz7_6, hfz7_7, hfz7_8⟩ := cz9 BK109.out))
  go_ret
  exact ⟨ew, vb HB.out⟩


/-! ### spec_IsWord: function 133 -/
def spec_IsWord.l0 : Nat → ByteArray → Int → Option (Bool)
 | 0, _, _ => none
 | k + 1, x0, x3 => if x3 < (x0.size : Int) then (if 0 ≤ x3 then (if (bt x0 x3) < 97 then (some false) else (if (bt x0 x3) > 122 then (some false) else (spec_IsWord.l0 k x0 (wrap64 (x3 + 1))))) else (none)) else ((spec_l01In.f (x0.size : Int) 1 16).bind fun t112 => (some t112))
def spec_IsWord.f (k : Nat) (a0 : ByteArray) : Option (Bool) := spec_IsWord.l0 k a0 0
theorem spec_IsWord.mono_l : ∀ k, (∀ y0 y1, LeO (spec_IsWord.l0 k y0 y1) (spec_IsWord.l0 (k + 1) y0 y1))
 | 0 => fun _ _ r h => by simp [spec_IsWord.l0] at h
 | k + 1 => by
  have ih0 := spec_IsWord.mono_l k
  ·intro y0 y1; unfold spec_IsWord.l0
   repeat' first
   | (with_reducible exact ih0 _ _)
   | (with_reducible exact LeO.refl _)
   | (with_reducible exact LeO.none _)
   | (with_reducible refine LeO.ite ?_ ?_)
   | (with_reducible refine LeO.bind ?_ (fun _ => ?_))
   | exact ih0 _ _
   | exact LeO.none _
   | refine LeO.ite ?_ ?_
   | refine LeO.bind ?_ (fun _ => ?_)
theorem spec_IsWord.mono : ∀ a0 k, LeO (spec_IsWord.f k a0) (spec_IsWord.f (k + 1) a0) := by
 intro a0 k; have ih0 := spec_IsWord.mono_l k; unfold spec_IsWord.f
 repeat' first
   | (with_reducible exact ih0 _ _)
   | (with_reducible exact LeO.refl _)
   | (with_reducible exact LeO.none _)
   | (with_reducible refine LeO.ite ?_ ?_)
   | (with_reducible refine LeO.bind ?_ (fun _ => ?_))
   | exact ih0 _ _
   | exact LeO.none _
   | refine LeO.ite ?_ ?_
   | refine LeO.bind ?_ (fun _ => ?_)
set_option maxHeartbeats 8000000 in
set_option maxRecDepth 100000 in
theorem spec_IsWord.calls (k : Nat) (a0 : ByteArray) (r : Bool) (w : World) (h : spec_IsWord.f k a0 = some r) :
  Calls Try.prog 133 #[.string a0] w fun e w' => e = .returned (.bool r) ∧ Drawn0 w w' := by
 have H : (spec_IsWord.l0 k a0 0) = some r := h; clear h; have H' := Aside0.mk H; clear H; go_enter Try.func133, Try.ntmps133; go_wp2
 go_loopg [3] k (fun kq v3 w' => ∃ (x3_1 : Int), v3 = .int .i64 x3_1 ∧ Aside0 (spec_IsWord.l0 kq a0 x3_1 = some r) ∧ Aside0 (kq ≤ k) ∧ Drawn0 w w')
 case atStart => exact ⟨(0), (by first | rfl | (simp; done) | (simp [*]; done)), H', ⟨Nat.le_refl _⟩, by repeat (first | exact Drawn0.refl _ | apply Drawn0.step)⟩
 case round =>
  clear H'; (try clear c1); obtain ⟨x3_1, rfl, HA, HK1, ⟨m1, rfl⟩⟩ := hrel
  cases gk with
  | zero => exact absurd HA.out (by simp [spec_IsWord.l0])
  | succ k1 =>
   have H := HA.out; clear HA; simp only [spec_IsWord.l0] at H
   by_cases c2 : x3_1 < (a0.size : Int)
   ·rw [if_pos c2] at H; have c2b0 : decide (x3_1 < (a0.size : Int)) = true := decide_eq_true c2; clear c2; by_cases c3 : 0 ≤ x3_1
    ·rw [if_pos c3] at H; have c3b0 : decide (0 ≤ x3_1) = true := decide_eq_true c3; clear c3; by_cases c5 : (bt a0 x3_1) < 97
     ·rw [if_pos c5] at H; have c5b0 : decide ((bt a0 x3_1) < 97) = true := decide_eq_true c5; clear c5; obtain rfl := Option.some.inj H; have p4 : 0 ≤ (x3_1 : Int) := od; have q4 : x3_1 < (a0.size : Int) := od; have hx4 := bt_at a0 x3_1; replace p4 := eq_true p4; replace q4 := eq_true q4; go_wp2
      go_ret
      exact ⟨by first | rfl | (simp; done) | (simp [*]; done), by repeat (first | exact Drawn0.refl _ | apply Drawn0.step)⟩
     ·rw [if_neg c5] at H; have c5b0 : decide ((bt a0 x3_1) < 97) = false := decide_eq_false c5; clear c5; by_cases c7 : (bt a0 x3_1) > 122
      ·rw [if_pos c7] at H; have c7b0 : decide (122 < (bt a0 x3_1)) = true := decide_eq_true c7; clear c7; obtain rfl := Option.some.inj H; have p4 : 0 ≤ (x3_1 : Int) := od; have q4 : x3_1 < (a0.size : Int) := od; have hx4 := bt_at a0 x3_1; replace p4 := eq_true p4; replace q4 := eq_true q4; have p6 : 0 ≤ (x3_1 : Int) := od; have q6 : x3_1 < (a0.size : Int) := od; have hx6 := bt_at a0 x3_1; replace p6 := eq_true p6; replace q6 := eq_true q6; go_wp2
       go_ret
       exact ⟨by first | rfl | (simp; done) | (simp [*]; done), by repeat (first | exact Drawn0.refl _ | apply Drawn0.step)⟩
      ·rw [if_neg c7] at H; have c7b0 : decide (122 < (bt a0 x3_1)) = false := decide_eq_false c7; clear c7; have H' := Aside0.mk H; clear H; have p4 : 0 ≤ (x3_1 : Int) := od; have q4 : x3_1 < (a0.size : Int) := od; have hx4 := bt_at a0 x3_1; replace p4 := eq_true p4; replace q4 := eq_true q4; have p6 : 0 ≤ (x3_1 : Int) := od; have q6 : x3_1 < (a0.size : Int) := od; have hx6 := bt_at a0 x3_1; replace p6 := eq_true p6; replace q6 := eq_true q6; go_wp2
       go_roundg k1
       case measure => have := HK1.out; omega
       case rel => exact ⟨(wrap64 (x3_1 + 1)), (by first | rfl | (simp; done) | (simp [*]; done)), H', ⟨by have := HK1.out; omega⟩, by repeat (first | exact Drawn0.refl _ | apply Drawn0.step)⟩
    ·rw [if_neg c3] at H; exact absurd H (by simp)
   ·rw [if_neg c2] at H; have c2b0 : decide (x3_1 < (a0.size : Int)) = false := decide_eq_false c2; clear c2; replace H := Option.bind_eq_some_iff.mp H; obtain ⟨t112, A80, H⟩ := H; replace H : (some t112) = some r := H; have A8 := Aside0.mk A80; clear A80; obtain rfl := Option.some.inj H; go_wp2_with (first | ((with_reducible refine at_fn (f := 95) rfl ?_); refine gl (some 22) Try.func95 #[.int .i64 (a0.size : Int), .int .i64 1, .int .i64 16] ?_; (with_reducible refine (spec_l01In.calls (a0.size : Int) 1 16 t112 _ A8.out).mono ?_); rintro e w' ⟨rfl, ⟨nd, rfl⟩⟩; refine ⟨_, rfl, ?_⟩))
    go_ret
    exact ⟨by first | rfl | (simp; done) | (simp [*]; done), by repeat (first | exact Drawn0.refl _ | apply Drawn0.step)⟩


/-! ### spec_IsArticle: function 132 -/
def spec_IsArticle.f (k : Nat) (a0_0 : ByteArray) (a0_1 : Int) (a0_2 : Int) (a0_3 : Int) (a0_4 : Int) (a0_5 : Int) (a0_6 : Int) (a0_7 : Int) (a0_8 : Int) : Option (Bool) := (spec_IsWord.f k a0_0).bind fun t114 => (if t114 = true then ((spec_l01In.f a0_1 0 3).bind fun t115 => (if t115 = true then ((spec_l01In.f a0_2 20 300).bind fun t116 => (if t116 = true then ((spec_l01In.f a0_3 0 10000).bind fun t117 => (if t117 = true then ((spec_l01In.f a0_4 0 a0_3).bind fun t118 => (if t118 = true then ((spec_l01In.f a0_5 1 50).bind fun t119 => (if t119 = true then ((spec_l01In.f a0_6 0 10000).bind fun t120 => (if t120 = true then ((spec_l01In.f a0_7 1 100000).bind fun t121 => (if t121 = true then ((spec_l01In.f a0_8 0 3).bind fun t122 => (some t122)) else (some false))) else (some false))) else (some false))) else (some false))) else (some false))) else (some false))) else (some false))) else (some false))
theorem spec_IsArticle.mono : ∀ a0 a1 a2 a3 a4 a5 a6 a7 a8 k, LeO (spec_IsArticle.f k a0 a1 a2 a3 a4 a5 a6 a7 a8) (spec_IsArticle.f (k + 1) a0 a1 a2 a3 a4 a5 a6 a7 a8) := by
 intro a0 a1 a2 a3 a4 a5 a6 a7 a8 k; unfold spec_IsArticle.f
 repeat' first
   | (with_reducible exact spec_IsWord.mono _ _)
   | (with_reducible exact LeO.refl _)
   | (with_reducible exact LeO.none _)
   | (with_reducible refine LeO.ite ?_ ?_)
   | (with_reducible refine LeO.bind ?_ (fun _ => ?_))
   | exact spec_IsWord.mono _ _
   | exact LeO.none _
   | refine LeO.ite ?_ ?_
   | refine LeO.bind ?_ (fun _ => ?_)
set_option maxHeartbeats 8000000 in
set_option maxRecDepth 100000 in
theorem spec_IsArticle.calls (k : Nat) (a0_0 : ByteArray) (a0_1 : Int) (a0_2 : Int) (a0_3 : Int) (a0_4 : Int) (a0_5 : Int) (a0_6 : Int) (a0_7 : Int) (a0_8 : Int) (r : Bool) (w : World) (h : spec_IsArticle.f k a0_0 a0_1 a0_2 a0_3 a0_4 a0_5 a0_6 a0_7 a0_8 = some r) :
  Calls Try.prog 132 #[.agg #[.string a0_0, .int .i64 a0_1, .int .i64 a0_2, .int .i64 a0_3, .int .i64 a0_4, .int .i64 a0_5, .int .i64 a0_6, .int .i64 a0_7, .int .i64 a0_8]] w fun e w' => e = .returned (.bool r) ∧ Below w.heap.size w w' := by
 have hu67 := Try.underlying67; have HB := Aside0.mk (Below.refl w.heap.size w); have H : ((spec_IsWord.f k a0_0).bind fun t114 => (if t114 = true then ((spec_l01In.f a0_1 0 3).bind fun t115 => (if t115 = true then ((spec_l01In.f a0_2 20 300).bind fun t116 => (if t116 = true then ((spec_l01In.f a0_3 0 10000).bind fun t117 => (if t117 = true then ((spec_l01In.f a0_4 0 a0_3).bind fun t118 => (if t118 = true then ((spec_l01In.f a0_5 1 50).bind fun t119 => (if t119 = true then ((spec_l01In.f a0_6 0 10000).bind fun t120 => (if t120 = true then ((spec_l01In.f a0_7 1 100000).bind fun t121 => (if t121 = true then ((spec_l01In.f a0_8 0 3).bind fun t122 => (some t122)) else (some false))) else (some false))) else (some false))) else (some false))) else (some false))) else (some false))) else (some false))) else (some false))) = some r := h; clear h; replace H := Option.bind_eq_some_iff.mp H; obtain ⟨t114, A20, H⟩ := H; replace H : (if t114 = true then ((spec_l01In.f a0_1 0 3).bind fun t115 => (if t115 = true then ((spec_l01In.f a0_2 20 300).bind fun t116 => (if t116 = true then ((spec_l01In.f a0_3 0 10000).bind fun t117 => (if t117 = true then ((spec_l01In.f a0_4 0 a0_3).bind fun t118 => (if t118 = true then ((spec_l01In.f a0_5 1 50).bind fun t119 => (if t119 = true then ((spec_l01In.f a0_6 0 10000).bind fun t120 => (if t120 = true then ((spec_l01In.f a0_7 1 100000).bind fun t121 => (if t121 = true then ((spec_l01In.f a0_8 0 3).bind fun t122 => (some t122)) else (some false))) else (some false))) else (some false))) else (some false))) else (some false))) else (some false))) else (some false))) else (some false)) = some r := H
 have A2 := Aside0.mk A20; clear A20; by_cases c3 : t114 = true
 ·subst c3; have H1 : ((spec_l01In.f a0_1 0 3).bind fun t115 => (if t115 = true then ((spec_l01In.f a0_2 20 300).bind fun t116 => (if t116 = true then ((spec_l01In.f a0_3 0 10000).bind fun t117 => (if t117 = true then ((spec_l01In.f a0_4 0 a0_3).bind fun t118 => (if t118 = true then ((spec_l01In.f a0_5 1 50).bind fun t119 => (if t119 = true then ((spec_l01In.f a0_6 0 10000).bind fun t120 => (if t120 = true then ((spec_l01In.f a0_7 1 100000).bind fun t121 => (if t121 = true then ((spec_l01In.f a0_8 0 3).bind fun t122 => (some t122)) else (some false))) else (some false))) else (some false))) else (some false))) else (some false))) else (some false))) else (some false))) = some r := by rw [if_pos rfl] at H; exact H
  clear H; have H := H1; clear H1; replace H := Option.bind_eq_some_iff.mp H; obtain ⟨t115, A40, H⟩ := H; replace H : (if t115 = true then ((spec_l01In.f a0_2 20 300).bind fun t116 => (if t116 = true then ((spec_l01In.f a0_3 0 10000).bind fun t117 => (if t117 = true then ((spec_l01In.f a0_4 0 a0_3).bind fun t118 => (if t118 = true then ((spec_l01In.f a0_5 1 50).bind fun t119 => (if t119 = true then ((spec_l01In.f a0_6 0 10000).bind fun t120 => (if t120 = true then ((spec_l01In.f a0_7 1 100000).bind fun t121 => (if t121 = true then ((spec_l01In.f a0_8 0 3).bind fun t122 => (some t122)) else (some false))) else (some false))) else (some false))) else (some false))) else (some false))) else (some false))) else (some false)) = some r := H; have A4 := Aside0.mk A40; clear A40; by_cases c5 : t115 = true
  ·subst c5; have H1 : ((spec_l01In.f a0_2 20 300).bind fun t116 => (if t116 = true then ((spec_l01In.f a0_3 0 10000).bind fun t117 => (if t117 = true then ((spec_l01In.f a0_4 0 a0_3).bind fun t118 => (if t118 = true then ((spec_l01In.f a0_5 1 50).bind fun t119 => (if t119 = true then ((spec_l01In.f a0_6 0 10000).bind fun t120 => (if t120 = true then ((spec_l01In.f a0_7 1 100000).bind fun t121 => (if t121 = true then ((spec_l01In.f a0_8 0 3).bind fun t122 => (some t122)) else (some false))) else (some false))) else (some false))) else (some false))) else (some false))) else (some false))) = some r := by rw [if_pos rfl] at H; exact H
   clear H; have H := H1; clear H1; replace H := Option.bind_eq_some_iff.mp H; obtain ⟨t116, A60, H⟩ := H; replace H : (if t116 = true then ((spec_l01In.f a0_3 0 10000).bind fun t117 => (if t117 = true then ((spec_l01In.f a0_4 0 a0_3).bind fun t118 => (if t118 = true then ((spec_l01In.f a0_5 1 50).bind fun t119 => (if t119 = true then ((spec_l01In.f a0_6 0 10000).bind fun t120 => (if t120 = true then ((spec_l01In.f a0_7 1 100000).bind fun t121 => (if t121 = true then ((spec_l01In.f a0_8 0 3).bind fun t122 => (some t122)) else (some false))) else (some false))) else (some false))) else (some false))) else (some false))) else (some false)) = some r := H; have A6 := Aside0.mk A60; clear A60; by_cases c7 : t116 = true
   ·subst c7; have H1 : ((spec_l01In.f a0_3 0 10000).bind fun t117 => (if t117 = true then ((spec_l01In.f a0_4 0 a0_3).bind fun t118 => (if t118 = true then ((spec_l01In.f a0_5 1 50).bind fun t119 => (if t119 = true then ((spec_l01In.f a0_6 0 10000).bind fun t120 => (if t120 = true then ((spec_l01In.f a0_7 1 100000).bind fun t121 => (if t121 = true then ((spec_l01In.f a0_8 0 3).bind fun t122 => (some t122)) else (some false))) else (some false))) else (some false))) else (some false))) else (some false))) = some r := by rw [if_pos rfl] at H; exact H
    clear H; have H := H1; clear H1; replace H := Option.bind_eq_some_iff.mp H; obtain ⟨t117, A80, H⟩ := H; replace H : (if t117 = true then ((spec_l01In.f a0_4 0 a0_3).bind fun t118 => (if t118 = true then ((spec_l01In.f a0_5 1 50).bind fun t119 => (if t119 = true then ((spec_l01In.f a0_6 0 10000).bind fun t120 => (if t120 = true then ((spec_l01In.f a0_7 1 100000).bind fun t121 => (if t121 = true then ((spec_l01In.f a0_8 0 3).bind fun t122 => (some t122)) else (some false))) else (some false))) else (some false))) else (some false))) else (some false)) = some r := H; have A8 := Aside0.mk A80; clear A80; by_cases c9 : t117 = true
    ·subst c9; have H1 : ((spec_l01In.f a0_4 0 a0_3).bind fun t118 => (if t118 = true then ((spec_l01In.f a0_5 1 50).bind fun t119 => (if t119 = true then ((spec_l01In.f a0_6 0 10000).bind fun t120 => (if t120 = true then ((spec_l01In.f a0_7 1 100000).bind fun t121 => (if t121 = true then ((spec_l01In.f a0_8 0 3).bind fun t122 => (some t122)) else (some false))) else (some false))) else (some false))) else (some false))) = some r := by rw [if_pos rfl] at H; exact H
     clear H; have H := H1; clear H1; replace H := Option.bind_eq_some_iff.mp H; obtain ⟨t118, A100, H⟩ := H; replace H : (if t118 = true then ((spec_l01In.f a0_5 1 50).bind fun t119 => (if t119 = true then ((spec_l01In.f a0_6 0 10000).bind fun t120 => (if t120 = true then ((spec_l01In.f a0_7 1 100000).bind fun t121 => (if t121 = true then ((spec_l01In.f a0_8 0 3).bind fun t122 => (some t122)) else (some false))) else (some false))) else (some false))) else (some false)) = some r := H; have A10 := Aside0.mk A100; clear A100; by_cases c11 : t118 = true
     ·subst c11; have H1 : ((spec_l01In.f a0_5 1 50).bind fun t119 => (if t119 = true then ((spec_l01In.f a0_6 0 10000).bind fun t120 => (if t120 = true then ((spec_l01In.f a0_7 1 100000).bind fun t121 => (if t121 = true then ((spec_l01In.f a0_8 0 3).bind fun t122 => (some t122)) else (some false))) else (some false))) else (some false))) = some r := by rw [if_pos rfl] at H; exact H
      clear H; have H := H1; clear H1; replace H := Option.bind_eq_some_iff.mp H; obtain ⟨t119, A120, H⟩ := H; replace H : (if t119 = true then ((spec_l01In.f a0_6 0 10000).bind fun t120 => (if t120 = true then ((spec_l01In.f a0_7 1 100000).bind fun t121 => (if t121 = true then ((spec_l01In.f a0_8 0 3).bind fun t122 => (some t122)) else (some false))) else (some false))) else (some false)) = some r := H; have A12 := Aside0.mk A120; clear A120; by_cases c13 : t119 = true
      ·subst c13; have H1 : ((spec_l01In.f a0_6 0 10000).bind fun t120 => (if t120 = true then ((spec_l01In.f a0_7 1 100000).bind fun t121 => (if t121 = true then ((spec_l01In.f a0_8 0 3).bind fun t122 => (some t122)) else (some false))) else (some false))) = some r := by rw [if_pos rfl] at H; exact H
       clear H; have H := H1; clear H1; replace H := Option.bind_eq_some_iff.mp H; obtain ⟨t120, A140, H⟩ := H; replace H : (if t120 = true then ((spec_l01In.f a0_7 1 100000).bind fun t121 => (if t121 = true then ((spec_l01In.f a0_8 0 3).bind fun t122 => (some t122)) else (some false))) else (some false)) = some r := H; have A14 := Aside0.mk A140; clear A140; by_cases c15 : t120 = true
       ·subst c15; have H1 : ((spec_l01In.f a0_7 1 100000).bind fun t121 => (if t121 = true then ((spec_l01In.f a0_8 0 3).bind fun t122 => (some t122)) else (some false))) = some r := by rw [if_pos rfl] at H; exact H
        clear H; have H := H1; clear H1; replace H := Option.bind_eq_some_iff.mp H; obtain ⟨t121, A160, H⟩ := H; replace H : (if t121 = true then ((spec_l01In.f a0_8 0 3).bind fun t122 => (some t122)) else (some false)) = some r := H; have A16 := Aside0.mk A160; clear A160; by_cases c17 : t121 = true
        ·subst c17; have H1 : ((spec_l01In.f a0_8 0 3).bind fun t122 => (some t122)) = some r := by rw [if_pos rfl] at H; exact H
         clear H; have H := H1; clear H1; replace H := Option.bind_eq_some_iff.mp H; obtain ⟨t122, A180, H⟩ := H; replace H : (some t122) = some r := H; have A18 := Aside0.mk A180; clear A180; obtain rfl := Option.some.inj H; go_enter Try.func132, Try.ntmps132; go_wp2_with (first | ((with_reducible refine gate_dst (N := 1) rfl ?_); refine bx 1 #[.string a0_0, .int .i64 a0_1, .int .i64 a0_2, .int .i64 a0_3, .int .i64 a0_4, .int .i64 a0_5, .int .i64 a0_6, .int .i64 a0_7, .int .i64 a0_8] 67 ?_; intro gb113 hg w19 hbox hb; have BK113 := Aside0.mk (hbox); have GW113 := Aside0.mk ((by rw [hg]; exact (below_size (vb HB.out)) : w.heap.size ≤ gb113)); have GE113 := Aside0.mk ((by rw [hg]; exact (below_size (vb HB.out)) : w.heap.size ≤ gb113)); replace HB := Aside0.mk (below_step (vb HB.out) hb); clear hb hbox hg; obtain ⟨hcz20_0, hcz20_1, hcz20_2, hcz20_3, hcz20_4, hcz20_5, hcz20_6, hcz20_7, hcz20_8, hfz20_0, hfz20_1, hfz20_2, hfz20_3, hfz20_4, hfz20_5, hfz20_6, hfz20_7, hfz20_8⟩ := cz9 BK113.out) | ((with_reducible refine at_fn (f := 133) rfl ?_); refine gl (some 5) Try.func133 #[.string a0_0] ?_; (with_reducible refine (spec_IsWord.calls k a0_0 true _ A2.out).mono ?_); rintro e w' ⟨rfl, ⟨nd, rfl⟩⟩; refine ⟨_, rfl, ?_⟩) | (go_at_call 95; (with_reducible refine (spec_l01In.calls a0_1 0 3 true _ A4.out).mono ?_); rintro e w' ⟨rfl, ⟨nd, rfl⟩⟩) | (go_at_call 95; (with_reducible refine (spec_l01In.calls a0_2 20 300 true _ A6.out).mono ?_); rintro e w' ⟨rfl, ⟨nd, rfl⟩⟩) | (go_at_call 95; (with_reducible refine (spec_l01In.calls a0_3 0 10000 true _ A8.out).mono ?_); rintro e w' ⟨rfl, ⟨nd, rfl⟩⟩) | (go_at_call 95; (with_reducible refine (spec_l01In.calls a0_4 0 a0_3 true _ A10.out).mono ?_); rintro e w' ⟨rfl, ⟨nd, rfl⟩⟩) | (go_at_call 95; (with_reducible refine (spec_l01In.calls a0_5 1 50 true _ A12.out).mono ?_); rintro e w' ⟨rfl, ⟨nd, rfl⟩⟩) | (go_at_call 95; (with_reducible refine (spec_l01In.calls a0_6 0 10000 true _ A14.out).mono ?_); rintro e w' ⟨rfl, ⟨nd, rfl⟩⟩) | (go_at_call 95; (with_reducible refine (spec_l01In.calls a0_7 1 100000 true _ A16.out).mono ?_); rintro e w' ⟨rfl, ⟨nd, rfl⟩⟩) | (go_at_call 95; (with_reducible refine (spec_l01In.calls a0_8 0 3 t122 _ A18.out).mono ?_); rintro e w' ⟨rfl, ⟨nd, rfl⟩⟩))
         go_ret
         exact ⟨ew, vb HB.out⟩
        ·replace c17 := Bool.eq_false_iff.mpr c17; subst c17; have H1 : (some false) = some r := by rw [if_neg (show ¬ (false = true) by decide)] at H; exact H
         clear H; have H := H1; clear H1; obtain rfl := Option.some.inj H; go_enter Try.func132, Try.ntmps132; go_wp2_with (first | ((with_reducible refine gate_dst (N := 1) rfl ?_); refine bx 1 #[.string a0_0, .int .i64 a0_1, .int .i64 a0_2, .int .i64 a0_3, .int .i64 a0_4, .int .i64 a0_5, .int .i64 a0_6, .int .i64 a0_7, .int .i64 a0_8] 67 ?_; intro gb113 hg w21 hbox hb; have BK113 := Aside0.mk (hbox); have GW113 := Aside0.mk ((by rw [hg]; exact (below_size (vb HB.out)) : w.heap.size ≤ gb113)); have GE113 := Aside0.mk ((by rw [hg]; exact (below_size (vb HB.out)) : w.heap.size ≤ gb113)); replace HB := Aside0.mk (below_step (vb HB.out) hb); clear hb hbox hg; obtain ⟨hcz22_0, hcz22_1, hcz22_2, hcz22_3, hcz22_4, hcz22_5, hcz22_6, hcz22_7, hcz22_8, hfz22_0, hfz22_1, hfz22_2, hfz22_3, hfz22_4, hfz22_5, hfz22_6, hfz22_7, hfz22_8⟩ := cz9 BK113.out) | ((with_reducible refine at_fn (f := 133) rfl ?_); refine gl (some 5) Try.func133 #[.string a0_0] ?_; (with_reducible refine (spec_IsWord.calls k a0_0 true _ A2.out).mono ?_); rintro e w' ⟨rfl, ⟨nd, rfl⟩⟩; refine ⟨_, rfl, ?_⟩) | (go_at_call 95; (with_reducible refine (spec_l01In.calls a0_1 0 3 true _ A4.out).mono ?_); rintro e w' ⟨rfl, ⟨nd, rfl⟩⟩) | (go_at_call 95; (with_reducible refine (spec_l01In.calls a0_2 20 300 true _ A6.out).mono ?_); rintro e w' ⟨rfl, ⟨nd, rfl⟩⟩) | (go_at_call 95; (with_reducible refine (spec_l01In.calls a0_3 0 10000 true _ A8.out).mono ?_); rintro e w' ⟨rfl, ⟨nd, rfl⟩⟩) | (go_at_call 95; (with_reducible refine (spec_l01In.calls a0_4 0 a0_3 true _ A10.out).mono ?_); rintro e w' ⟨rfl, ⟨nd, rfl⟩⟩) | (go_at_call 95; (with_reducible refine (spec_l01In.calls a0_5 1 50 true _ A12.out).mono ?_); rintro e w' ⟨rfl, ⟨nd, rfl⟩⟩) | (go_at_call 95; (with_reducible refine (spec_l01In.calls a0_6 0 10000 true _ A14.out).mono ?_); rintro e w' ⟨rfl, ⟨nd, rfl⟩⟩) | (go_at_call 95; (with_reducible refine (spec_l01In.calls a0_7 1 100000 false _ A16.out).mono ?_); rintro e w' ⟨rfl, ⟨nd, rfl⟩⟩))
         go_ret
         exact ⟨ew, vb HB.out⟩
       ·replace c15 := Bool.eq_false_iff.mpr c15; subst c15; have H1 : (some false) = some r := by rw [if_neg (show ¬ (false = true) by decide)] at H; exact H
        clear H; have H := H1; clear H1; obtain rfl := Option.some.inj H; go_enter Try.func132, Try.ntmps132; go_wp2_with (first | ((with_reducible refine gate_dst (N := 1) rfl ?_); refine bx 1 #[.string a0_0, .int .i64 a0_1, .int .i64 a0_2, .int .i64 a0_3, .int .i64 a0_4, .int .i64 a0_5, .int .i64 a0_6, .int .i64 a0_7, .int .i64 a0_8] 67 ?_; intro gb113 hg w23 hbox hb; have BK113 := Aside0.mk (hbox); have GW113 := Aside0.mk ((by rw [hg]; exact (below_size (vb HB.out)) : w.heap.size ≤ gb113)); have GE113 := Aside0.mk ((by rw [hg]; exact (below_size (vb HB.out)) : w.heap.size ≤ gb113)); replace HB := Aside0.mk (below_step (vb HB.out) hb); clear hb hbox hg; obtain ⟨hcz24_0, hcz24_1, hcz24_2, hcz24_3, hcz24_4, hcz24_5, hcz24_6, hcz24_7, hcz24_8, hfz24_0, hfz24_1, hfz24_2, hfz24_3, hfz24_4, hfz24_5, hfz24_6, hfz24_7, hfz24_8⟩ := cz9 BK113.out) | ((with_reducible refine at_fn (f := 133) rfl ?_); refine gl (some 5) Try.func133 #[.string a0_0] ?_; (with_reducible refine (spec_IsWord.calls k a0_0 true _ A2.out).mono ?_); rintro e w' ⟨rfl, ⟨nd, rfl⟩⟩; refine ⟨_, rfl, ?_⟩) | (go_at_call 95; (with_reducible refine (spec_l01In.calls a0_1 0 3 true _ A4.out).mono ?_); rintro e w' ⟨rfl, ⟨nd, rfl⟩⟩) | (go_at_call 95; (with_reducible refine (spec_l01In.calls a0_2 20 300 true _ A6.out).mono ?_); rintro e w' ⟨rfl, ⟨nd, rfl⟩⟩) | (go_at_call 95; (with_reducible refine (spec_l01In.calls a0_3 0 10000 true _ A8.out).mono ?_); rintro e w' ⟨rfl, ⟨nd, rfl⟩⟩) | (go_at_call 95; (with_reducible refine (spec_l01In.calls a0_4 0 a0_3 true _ A10.out).mono ?_); rintro e w' ⟨rfl, ⟨nd, rfl⟩⟩) | (go_at_call 95; (with_reducible refine (spec_l01In.calls a0_5 1 50 true _ A12.out).mono ?_); rintro e w' ⟨rfl, ⟨nd, rfl⟩⟩) | (go_at_call 95; (with_reducible refine (spec_l01In.calls a0_6 0 10000 false _ A14.out).mono ?_); rintro e w' ⟨rfl, ⟨nd, rfl⟩⟩))
        go_ret
        exact ⟨ew, vb HB.out⟩
      ·replace c13 := Bool.eq_false_iff.mpr c13; subst c13; have H1 : (some false) = some r := by rw [if_neg (show ¬ (false = true) by decide)] at H; exact H
       clear H; have H := H1; clear H1; obtain rfl := Option.some.inj H; go_enter Try.func132, Try.ntmps132; go_wp2_with (first | ((with_reducible refine gate_dst (N := 1) rfl ?_); refine bx 1 #[.string a0_0, .int .i64 a0_1, .int .i64 a0_2, .int .i64 a0_3, .int .i64 a0_4, .int .i64 a0_5, .int .i64 a0_6, .int .i64 a0_7, .int .i64 a0_8] 67 ?_; intro gb113 hg w25 hbox hb; have BK113 := Aside0.mk (hbox); have GW113 := Aside0.mk ((by rw [hg]; exact (below_size (vb HB.out)) : w.heap.size ≤ gb113)); have GE113 := Aside0.mk ((by rw [hg]; exact (below_size (vb HB.out)) : w.heap.size ≤ gb113)); replace HB := Aside0.mk (below_step (vb HB.out) hb); clear hb hbox hg; obtain ⟨hcz26_0, hcz26_1, hcz26_2, hcz26_3, hcz26_4, hcz26_5, hcz26_6, hcz26_7, hcz26_8, hfz26_0, hfz26_1, hfz26_2, hfz26_3, hfz26_4, hfz26_5, hfz26_6, hfz26_7, hfz26_8⟩ := cz9 BK113.out) | ((with_reducible refine at_fn (f := 133) rfl ?_); refine gl (some 5) Try.func133 #[.string a0_0] ?_; (with_reducible refine (spec_IsWord.calls k a0_0 true _ A2.out).mono ?_); rintro e w' ⟨rfl, ⟨nd, rfl⟩⟩; refine ⟨_, rfl, ?_⟩) | (go_at_call 95; (with_reducible refine (spec_l01In.calls a0_1 0 3 true _ A4.out).mono ?_); rintro e w' ⟨rfl, ⟨nd, rfl⟩⟩) | (go_at_call 95; (with_reducible refine (spec_l01In.calls a0_2 20 300 true _ A6.out).mono ?_); rintro e w' ⟨rfl, ⟨nd, rfl⟩⟩) | (go_at_call 95; (with_reducible refine (spec_l01In.calls a0_3 0 10000 true _ A8.out).mono ?_); rintro e w' ⟨rfl, ⟨nd, rfl⟩⟩) | (go_at_call 95; (with_reducible refine (spec_l01In.calls a0_4 0 a0_3 true _ A10.out).mono ?_); rintro e w' ⟨rfl, ⟨nd, rfl⟩⟩) | (go_at_call 95; (with_reducible refine (spec_l01In.calls a0_5 1 50 false _ A12.out).mono ?_); rintro e w' ⟨rfl, ⟨nd, rfl⟩⟩))
       go_ret
       exact ⟨ew, vb HB.out⟩
     ·replace c11 := Bool.eq_false_iff.mpr c11; subst c11; have H1 : (some false) = some r := by rw [if_neg (show ¬ (false = true) by decide)] at H; exact H
      clear H; have H := H1; clear H1; obtain rfl := Option.some.inj H; go_enter Try.func132, Try.ntmps132; go_wp2_with (first | ((with_reducible refine gate_dst (N := 1) rfl ?_); refine bx 1 #[.string a0_0, .int .i64 a0_1, .int .i64 a0_2, .int .i64 a0_3, .int .i64 a0_4, .int .i64 a0_5, .int .i64 a0_6, .int .i64 a0_7, .int .i64 a0_8] 67 ?_; intro gb113 hg w27 hbox hb; have BK113 := Aside0.mk (hbox); have GW113 := Aside0.mk ((by rw [hg]; exact (below_size (vb HB.out)) : w.heap.size ≤ gb113)); have GE113 := Aside0.mk ((by rw [hg]; exact (below_size (vb HB.out)) : w.heap.size ≤ gb113)); replace HB := Aside0.mk (below_step (vb HB.out) hb); clear hb hbox hg; obtain ⟨hcz28_0, hcz28_1, hcz28_2, hcz28_3, hcz28_4, hcz28_5, hcz28_6, hcz28_7, hcz28_8, hfz28_0, hfz28_1, hfz28_2, hfz28_3, hfz28_4, hfz28_5, hfz28_6, hfz28_7, hfz28_8⟩ := cz9 BK113.out) | ((with_reducible refine at_fn (f := 133) rfl ?_); refine gl (some 5) Try.func133 #[.string a0_0] ?_; (with_reducible refine (spec_IsWord.calls k a0_0 true _ A2.out).mono ?_); rintro e w' ⟨rfl, ⟨nd, rfl⟩⟩; refine ⟨_, rfl, ?_⟩) | (go_at_call 95; (with_reducible refine (spec_l01In.calls a0_1 0 3 true _ A4.out).mono ?_); rintro e w' ⟨rfl, ⟨nd, rfl⟩⟩) | (go_at_call 95; (with_reducible refine (spec_l01In.calls a0_2 20 300 true _ A6.out).mono ?_); rintro e w' ⟨rfl, ⟨nd, rfl⟩⟩) | (go_at_call 95; (with_reducible refine (spec_l01In.calls a0_3 0 10000 true _ A8.out).mono ?_); rintro e w' ⟨rfl, ⟨nd, rfl⟩⟩) | (go_at_call 95; (with_reducible refine (spec_l01In.calls a0_4 0 a0_3 false _ A10.out).mono ?_); rintro e w' ⟨rfl, ⟨nd, rfl⟩⟩))
      go_ret
      exact ⟨ew, vb HB.out⟩
    ·replace c9 := Bool.eq_false_iff.mpr c9; subst c9; have H1 : (some false) = some r := by rw [if_neg (show ¬ (false = true) by decide)] at H; exact H
     clear H; have H := H1; clear H1; obtain rfl := Option.some.inj H; go_enter Try.func132, Try.ntmps132; go_wp2_with (first | ((with_reducible refine gate_dst (N := 1) rfl ?_); refine bx 1 #[.string a0_0, .int .i64 a0_1, .int .i64 a0_2, .int .i64 a0_3, .int .i64 a0_4, .int .i64 a0_5, .int .i64 a0_6, .int .i64 a0_7, .int .i64 a0_8] 67 ?_; intro gb113 hg w29 hbox hb; have BK113 := Aside0.mk (hbox); have GW113 := Aside0.mk ((by rw [hg]; exact (below_size (vb HB.out)) : w.heap.size ≤ gb113)); have GE113 := Aside0.mk ((by rw [hg]; exact (below_size (vb HB.out)) : w.heap.size ≤ gb113)); replace HB := Aside0.mk (below_step (vb HB.out) hb); clear hb hbox hg; obtain ⟨hcz30_0, hcz30_1, hcz30_2, hcz30_3, hcz30_4, hcz30_5, hcz30_6, hcz30_7, hcz30_8, hfz30_0, hfz30_1, hfz30_2, hfz30_3, hfz30_4, hfz30_5, hfz30_6, hfz30_7, hfz30_8⟩ := cz9 BK113.out) | ((with_reducible refine at_fn (f := 133) rfl ?_); refine gl (some 5) Try.func133 #[.string a0_0] ?_; (with_reducible refine (spec_IsWord.calls k a0_0 true _ A2.out).mono ?_); rintro e w' ⟨rfl, ⟨nd, rfl⟩⟩; refine ⟨_, rfl, ?_⟩) | (go_at_call 95; (with_reducible refine (spec_l01In.calls a0_1 0 3 true _ A4.out).mono ?_); rintro e w' ⟨rfl, ⟨nd, rfl⟩⟩) | (go_at_call 95; (with_reducible refine (spec_l01In.calls a0_2 20 300 true _ A6.out).mono ?_); rintro e w' ⟨rfl, ⟨nd, rfl⟩⟩) | (go_at_call 95; (with_reducible refine (spec_l01In.calls a0_3 0 10000 false _ A8.out).mono ?_); rintro e w' ⟨rfl, ⟨nd, rfl⟩⟩))
     go_ret
     exact ⟨ew, vb HB.out⟩
   ·replace c7 := Bool.eq_false_iff.mpr c7; subst c7; have H1 : (some false) = some r := by rw [if_neg (show ¬ (false = true) by decide)] at H; exact H
    clear H; have H := H1; clear H1; obtain rfl := Option.some.inj H; go_enter Try.func132, Try.ntmps132; go_wp2_with (first | ((with_reducible refine gate_dst (N := 1) rfl ?_); refine bx 1 #[.string a0_0, .int .i64 a0_1, .int .i64 a0_2, .int .i64 a0_3, .int .i64 a0_4, .int .i64 a0_5, .int .i64 a0_6, .int .i64 a0_7, .int .i64 a0_8] 67 ?_; intro gb113 hg w31 hbox hb; have BK113 := Aside0.mk (hbox); have GW113 := Aside0.mk ((by rw [hg]; exact (below_size (vb HB.out)) : w.heap.size ≤ gb113)); have GE113 := Aside0.mk ((by rw [hg]; exact (below_size (vb HB.out)) : w.heap.size ≤ gb113)); replace HB := Aside0.mk (below_step (vb HB.out) hb); clear hb hbox hg; obtain ⟨hcz32_0, hcz32_1, hcz32_2, hcz32_3, hcz32_4, hcz32_5, hcz32_6, hcz32_7, hcz32_8, hfz32_0, hfz32_1, hfz32_2, hfz32_3, hfz32_4, hfz32_5, hfz32_6, hfz32_7, hfz32_8⟩ := cz9 BK113.out) | ((with_reducible refine at_fn (f := 133) rfl ?_); refine gl (some 5) Try.func133 #[.string a0_0] ?_; (with_reducible refine (spec_IsWord.calls k a0_0 true _ A2.out).mono ?_); rintro e w' ⟨rfl, ⟨nd, rfl⟩⟩; refine ⟨_, rfl, ?_⟩) | (go_at_call 95; (with_reducible refine (spec_l01In.calls a0_1 0 3 true _ A4.out).mono ?_); rintro e w' ⟨rfl, ⟨nd, rfl⟩⟩) | (go_at_call 95; (with_reducible refine (spec_l01In.calls a0_2 20 300 false _ A6.out).mono ?_); rintro e w' ⟨rfl, ⟨nd, rfl⟩⟩))
    go_ret
    exact ⟨ew, vb HB.out⟩
  ·replace c5 := Bool.eq_false_iff.mpr c5; subst c5; have H1 : (some false) = some r := by rw [if_neg (show ¬ (false = true) by decide)] at H; exact H
   clear H; have H := H1; clear H1; obtain rfl := Option.some.inj H; go_enter Try.func132, Try.ntmps132; go_wp2_with (first | ((with_reducible refine gate_dst (N := 1) rfl ?_); refine bx 1 #[.string a0_0, .int .i64 a0_1, .int .i64 a0_2, .int .i64 a0_3, .int .i64 a0_4, .int .i64 a0_5, .int .i64 a0_6, .int .i64 a0_7, .int .i64 a0_8] 67 ?_; intro gb113 hg w33 hbox hb; have BK113 := Aside0.mk (hbox); have GW113 := Aside0.mk ((by rw [hg]; exact (below_size (vb HB.out)) : w.heap.size ≤ gb113)); have GE113 := Aside0.mk ((by rw [hg]; exact (below_size (vb HB.out)) : w.heap.size ≤ gb113)); replace HB := Aside0.mk (below_step (vb HB.out) hb); clear hb hbox hg; obtain ⟨hcz34_0, hcz34_1, hcz34_2, hcz34_3, hcz34_4, hcz34_5, hcz34_6, hcz34_7, hcz34_8, hfz34_0, hfz34_1, hfz34_2, hfz34_3, hfz34_4, hfz34_5, hfz34_6, hfz34_7, hfz34_8⟩ := cz9 BK113.out) | ((with_reducible refine at_fn (f := 133) rfl ?_); refine gl (some 5) Try.func133 #[.string a0_0] ?_; (with_reducible refine (spec_IsWord.calls k a0_0 true _ A2.out).mono ?_); rintro e w' ⟨rfl, ⟨nd, rfl⟩⟩; refine ⟨_, rfl, ?_⟩) | (go_at_call 95; (with_reducible refine (spec_l01In.calls a0_1 0 3 false _ A4.out).mono ?_); rintro e w' ⟨rfl, ⟨nd, rfl⟩⟩))
   go_ret
   exact ⟨ew, vb HB.out⟩
 ·replace c3 := Bool.eq_false_iff.mpr c3; subst c3; have H1 : (some false) = some r := by rw [if_neg (show ¬ (false = true) by decide)] at H; exact H
  clear H; have H := H1; clear H1; obtain rfl := Option.some.inj H; go_enter Try.func132, Try.ntmps132; go_wp2_with (first | ((with_reducible refine gate_dst (N := 1) rfl ?_); refine bx 1 #[.string a0_0, .int .i64 a0_1, .int .i64 a0_2, .int .i64 a0_3, .int .i64 a0_4, .int .i64 a0_5, .int .i64 a0_6, .int .i64 a0_7, .int .i64 a0_8] 67 ?_; intro gb113 hg w35 hbox hb; have BK113 := Aside0.mk (hbox); have GW113 := Aside0.mk ((by rw [hg]; exact (below_size (vb HB.out)) : w.heap.size ≤ gb113)); have GE113 := Aside0.mk ((by rw [hg]; exact (below_size (vb HB.out)) : w.heap.size ≤ gb113)); replace HB := Aside0.mk (below_step (vb HB.out) hb); clear hb hbox hg; obtain ⟨hcz36_0, hcz36_1, hcz36_2, hcz36_3, hcz36_4, hcz36_5, hcz36_6, hcz36_7, hcz36_8, hfz36_0, hfz36_1, hfz36_2, hfz36_3, hfz36_4, hfz36_5, hfz36_6, hfz36_7, hfz36_8⟩ := cz9 BK113.out) | ((with_reducible refine at_fn (f := 133) rfl ?_); refine gl (some 5) Try.func133 #[.string a0_0] ?_; (with_reducible refine (spec_IsWord.calls k a0_0 false _ A2.out).mono ?_); rintro e w' ⟨rfl, ⟨nd, rfl⟩⟩; refine ⟨_, rfl, ?_⟩))
  go_ret
  exact ⟨ew, vb HB.out⟩


/-! ### spec_AreArticles: function 125 -/
def spec_AreArticles.l0 : Nat → List (S67) → Int → Option (Bool)
 | 0, _, _ => none
 | k + 1, x0, x3 => if x3 < (x0.length : Int) then (if 0 ≤ x3 then ((spec_IsArticle.f k ((rd_T67 x0 x3).f0) ((rd_T67 x0 x3).f1) ((rd_T67 x0 x3).f2) ((rd_T67 x0 x3).f3) ((rd_T67 x0 x3).f4) ((rd_T67 x0 x3).f5) ((rd_T67 x0 x3).f6) ((rd_T67 x0 x3).f7) ((rd_T67 x0 x3).f8)).bind fun t124 => (if t124 = true then (if x3 > 0 then (if 0 ≤ (wrap64 (x3 - 1)) then (if (wrap64 (x3 - 1)) < (x0.length : Int) then (if (Op.bytesLess (((rd_T67 x0 (wrap64 (x3 - 1))).f0).toList) (((rd_T67 x0 x3).f0).toList)) = true then (spec_AreArticles.l0 k x0 (wrap64 (x3 + 1))) else (some false)) else (none)) else (none)) else (spec_AreArticles.l0 k x0 (wrap64 (x3 + 1)))) else (some false))) else (none)) else (some (decide ((x0.length : Int) ≤ 12)))
def spec_AreArticles.f (k : Nat) (l0 : List (S67)) : Option (Bool) := spec_AreArticles.l0 k l0 0
theorem spec_AreArticles.mono_l : ∀ k, (∀ y0 y1, LeO (spec_AreArticles.l0 k y0 y1) (spec_AreArticles.l0 (k + 1) y0 y1))
 | 0 => fun _ _ r h => by simp [spec_AreArticles.l0] at h
 | k + 1 => by
  have ih0 := spec_AreArticles.mono_l k
  ·intro y0 y1; unfold spec_AreArticles.l0
   repeat' first
   | (with_reducible exact ih0 _ _)
   | (with_reducible exact spec_IsArticle.mono _ _ _ _ _ _ _ _ _ _)
   | (with_reducible exact LeO.refl _)
   | (with_reducible exact LeO.none _)
   | (with_reducible refine LeO.ite ?_ ?_)
   | (with_reducible refine LeO.bind ?_ (fun _ => ?_))
   | exact ih0 _ _
   | exact spec_IsArticle.mono _ _ _ _ _ _ _ _ _ _
   | exact LeO.none _
   | refine LeO.ite ?_ ?_
   | refine LeO.bind ?_ (fun _ => ?_)
theorem spec_AreArticles.mono : ∀ a0 k, LeO (spec_AreArticles.f k a0) (spec_AreArticles.f (k + 1) a0) := by
 intro a0 k; have ih0 := spec_AreArticles.mono_l k; unfold spec_AreArticles.f
 repeat' first
   | (with_reducible exact ih0 _ _)
   | (with_reducible exact spec_IsArticle.mono _ _ _ _ _ _ _ _ _ _)
   | (with_reducible exact LeO.refl _)
   | (with_reducible exact LeO.none _)
   | (with_reducible refine LeO.ite ?_ ?_)
   | (with_reducible refine LeO.bind ?_ (fun _ => ?_))
   | exact ih0 _ _
   | exact spec_IsArticle.mono _ _ _ _ _ _ _ _ _ _
   | exact LeO.none _
   | refine LeO.ite ?_ ?_
   | refine LeO.bind ?_ (fun _ => ?_)
def spec_AreArticles.T4 : Bool × List (List Nat × List Nat) := (true, [([], []), ([], []), ([0, 1], [0, 1]), ([2], [2]), ([3], [3]), ([4], [4]), ([5, 4], [5]), ([6], [6]), ([7, 6], [6, 7]), ([8, 6, 6], [6, 8]), ([9], [9]), ([9], [9]), ([11, 9], [9, 11]), ([10, 12, 9], [9, 10, 12]), ([13, 9], [9, 13]), ([14, 9], [9, 14]), ([9], [9]), ([9], [9]), ([16, 17, 9], [9, 16, 17]), ([18, 9], [9, 18]), ([19, 9], [9, 19]), ([15, 20, 9], [9, 15, 20]), ([9, 21, 6], [6, 9, 21]), ([6, 22], [6, 22])])
def spec_AreArticles.B4 : List Nat := [0, 0, 3, 7, 15, 31, 63, 127, 255, 511, 1023, 1023, 3071, 8191, 16383, 32767, 1023, 1023, 197631, 459775, 984063, 2097151, 4194303, 8388607]
theorem spec_AreArticles.tab4 : rtab .any (opsOf Try.f125 4) = spec_AreArticles.T4 := by kernel_rfl
theorem spec_AreArticles.bits4 : waitsOk spec_AreArticles.T4.2 spec_AreArticles.B4 = true := by kernel_rfl
set_option maxHeartbeats 8000000 in
set_option maxRecDepth 100000 in
theorem spec_AreArticles.calls (k : Nat) (A0 : Option Addr) (c0 : Nat) (l0 : List (S67)) (r : Bool) (w : World) (hr0 : Kd.C k67 w A0 l0.length l0) (hc0 : l0.length ≤ c0) (h : spec_AreArticles.f k l0 = some r) :
  Calls Try.prog 125 #[.slice A0 l0.length c0] w fun e w' => e = .returned (.bool r) ∧ Below w.heap.size w w' := by
 have hu67 := Try.underlying67; have HR0 := Aside0.mk hr0; have HC0 := Aside0.mk hc0; clear hr0 hc0; have HB := Aside0.mk (Below.refl w.heap.size w); have H : (spec_AreArticles.l0 k l0 0) = some r := h; clear h; have H' := Aside0.mk H; clear H; go_enter Try.func125, Try.ntmps125; go_wp2
 go_loopg [3] k (fun kq v3 w' => ∃ (x3_1 : Int), v3 = .int .i64 x3_1 ∧ Aside0 (spec_AreArticles.l0 kq l0 x3_1 = some r) ∧ Aside0 (kq ≤ k) ∧ Aside0 (Below w.heap.size w w'))
 case atStart => exact ⟨(0), (by first | rfl | (simp; done) | (simp [*]; done)), H', ⟨Nat.le_refl _⟩, ⟨vb HB.out⟩⟩
 case round =>
  clear H'; (try clear c1); obtain ⟨x3_1, rfl, HA, HK1, HB⟩ := hrel
  cases gk with
  | zero => exact absurd HA.out (by simp [spec_AreArticles.l0])
  | succ k1 =>
   have H := HA.out; clear HA; simp only [spec_AreArticles.l0] at H
   by_cases c2 : x3_1 < (l0.length : Int)
   ·rw [if_pos c2] at H; have c2b0 : decide (x3_1 < (l0.length : Int)) = true := decide_eq_true c2; clear c2; by_cases c3 : 0 ≤ x3_1
    ·rw [if_pos c3] at H; have c3b0 : decide (0 ≤ x3_1) = true := decide_eq_true c3; clear c3; replace H := Option.bind_eq_some_iff.mp H; obtain ⟨t124, A40, H⟩ := H; replace H : (if t124 = true then (if x3_1 > 0 then (if 0 ≤ (wrap64 (x3_1 - 1)) then (if (wrap64 (x3_1 - 1)) < (l0.length : Int) then (if (Op.bytesLess (((rd_T67 l0 (wrap64 (x3_1 - 1))).f0).toList) (((rd_T67 l0 x3_1).f0).toList)) = true then (spec_AreArticles.l0 k1 l0 (wrap64 (x3_1 + 1))) else (some false)) else (none)) else (none)) else (spec_AreArticles.l0 k1 l0 (wrap64 (x3_1 + 1)))) else (some false)) = some r := H; have A4 := Aside0.mk A40; clear A40; by_cases c5 : t124 = true
     ·subst c5; have H1 : (if x3_1 > 0 then (if 0 ≤ (wrap64 (x3_1 - 1)) then (if (wrap64 (x3_1 - 1)) < (l0.length : Int) then (if (Op.bytesLess (((rd_T67 l0 (wrap64 (x3_1 - 1))).f0).toList) (((rd_T67 l0 x3_1).f0).toList)) = true then (spec_AreArticles.l0 k1 l0 (wrap64 (x3_1 + 1))) else (some false)) else (none)) else (none)) else (spec_AreArticles.l0 k1 l0 (wrap64 (x3_1 + 1)))) = some r := by rw [if_pos rfl] at H; exact H
      clear H; have H := H1; clear H1; by_cases c6 : x3_1 > 0
      ·rw [if_pos c6] at H; have c6b0 : decide (0 < x3_1) = true := decide_eq_true c6; clear c6; obtain ⟨ji7, hji7⟩ : ∃ j_ : Int, (wrap64 (x3_1 - 1)) = j_ := ⟨_, rfl⟩; replace H : (if 0 ≤ (ji7) then (if (ji7) < (l0.length : Int) then (if (Op.bytesLess (((rd_T67 l0 (ji7)).f0).toList) (((rd_T67 l0 x3_1).f0).toList)) = true then (spec_AreArticles.l0 k1 l0 (wrap64 (x3_1 + 1))) else (some false)) else (none)) else (none)) = some r := by first | (rw [hji7] at H; exact H) | (simp only [hji7] at H ⊢; exact H)
       (try rw [hji7] at A4)
       have hji7w : (IntKind.i64.wrap (x3_1 - 1)) = ji7 := (i64_w _).trans hji7; by_cases c8 : 0 ≤ (ji7)
       ·rw [if_pos c8] at H; have c8b0 : decide (0 ≤ (ji7)) = true := decide_eq_true c8; clear c8; by_cases c9 : (ji7) < (l0.length : Int)
        ·rw [if_pos c9] at H; have c9b0 : decide ((ji7) < (l0.length : Int)) = true := decide_eq_true c9; clear c9; by_cases c10 : (Op.bytesLess (((rd_T67 l0 (ji7)).f0).toList) (((rd_T67 l0 x3_1).f0).toList)) = true
         ·rw [if_pos c10] at H; have c10b0 : (Op.bytesLess (((rd_T67 l0 (ji7)).f0).toList) (((rd_T67 l0 x3_1).f0).toList)) = true := c10; clear c10; have H' := Aside0.mk H; clear H; (try go_wp2)
          replace HB := Aside0.mk (below_drew1 HB.out); have p123 : 0 ≤ (x3_1 : Int) := od; have q123 : x3_1 < (l0.length : Int) := od; obtain ⟨ad123, e123, hx123_0, hx123_1, hx123_2, hx123_3, hx123_4, hx123_5, hx123_6, hx123_7, hx123_8⟩ := at_T67 HR0.out x3_1 p123 q123; have hw123_8 := hx123_8; have hw123_7 := hx123_7; have hw123_6 := hx123_6; have hw123_5 := hx123_5; have hw123_4 := hx123_4; have hw123_3 := hx123_3; have hw123_2 := hx123_2; have hw123_1 := hx123_1; have hw123_0 := hx123_0
          cases e123; replace hx123_0 := cb HB.out hx123_0; replace hx123_1 := cb HB.out hx123_1; replace hx123_2 := cb HB.out hx123_2; replace hx123_3 := cb HB.out hx123_3; replace hx123_4 := cb HB.out hx123_4; replace hx123_5 := cb HB.out hx123_5; replace hx123_6 := cb HB.out hx123_6; replace hx123_7 := cb HB.out hx123_7; replace hx123_8 := cb HB.out hx123_8; replace p123 := eq_true p123; replace q123 := eq_true q123; have p125 : 0 ≤ ((ji7) : Int) := od; have q125 : (ji7) < (l0.length : Int) := od; obtain ⟨ad125, e125, hx125_0, hx125_1, hx125_2, hx125_3, hx125_4, hx125_5, hx125_6, hx125_7, hx125_8⟩ := at_T67 HR0.out (ji7) p125 q125; have hw125_8 := hx125_8; have hw125_7 := hx125_7; have hw125_6 := hx125_6; have hw125_5 := hx125_5; have hw125_4 := hx125_4; have hw125_3 := hx125_3; have hw125_2 := hx125_2; have hw125_1 := hx125_1; have hw125_0 := hx125_0; obtain rfl : ad123 = ad125 := (by injection e125); replace hx125_0 := cb HB.out hx125_0; replace hx125_1 := cb HB.out hx125_1; replace hx125_2 := cb HB.out hx125_2; replace hx125_3 := cb HB.out hx125_3; replace hx125_4 := cb HB.out hx125_4; replace hx125_5 := cb HB.out hx125_5; replace hx125_6 := cb HB.out hx125_6; replace hx125_7 := cb HB.out hx125_7; replace hx125_8 := cb HB.out hx125_8; replace p125 := eq_true p125; replace q125 := eq_true q125; have p126 : 0 ≤ (x3_1 : Int) := od; have q126 : x3_1 < (l0.length : Int) := od; obtain ⟨ad126, e126, hx126_0, hx126_1, hx126_2, hx126_3, hx126_4, hx126_5, hx126_6, hx126_7, hx126_8⟩ := at_T67 HR0.out x3_1 p126 q126
          have hw126_8 := hx126_8; have hw126_7 := hx126_7; have hw126_6 := hx126_6; have hw126_5 := hx126_5; have hw126_4 := hx126_4; have hw126_3 := hx126_3; have hw126_2 := hx126_2; have hw126_1 := hx126_1; have hw126_0 := hx126_0; obtain rfl : ad123 = ad126 := (by injection e126); replace hx126_0 := cb HB.out hx126_0; replace hx126_1 := cb HB.out hx126_1; replace hx126_2 := cb HB.out hx126_2; replace hx126_3 := cb HB.out hx126_3; replace hx126_4 := cb HB.out hx126_4; replace hx126_5 := cb HB.out hx126_5; replace hx126_6 := cb HB.out hx126_6; replace hx126_7 := cb HB.out hx126_7; replace hx126_8 := cb HB.out hx126_8; replace p126 := eq_true p126; replace q126 := eq_true q126; refine start_ (n := 24) (S := fun w' => w'.cell? (ad123.add ((x3_1).toNat * 9)) = some (.string ((rd_T67 l0 x3_1).f0)) ∧ w'.cell? ⟨(ad123.add ((x3_1).toNat * 9)).block, (ad123.add ((x3_1).toNat * 9)).off + 1, none⟩ = some (.int .i64 ((rd_T67 l0 x3_1).f1)) ∧ w'.cell? ⟨(ad123.add ((x3_1).toNat * 9)).block, (ad123.add ((x3_1).toNat * 9)).off + 2, none⟩ = some (.int .i64 ((rd_T67 l0 x3_1).f2)) ∧ w'.cell? ⟨(ad123.add ((x3_1).toNat * 9)).block, (ad123.add ((x3_1).toNat * 9)).off + 3, none⟩ = some (.int .i64 ((rd_T67 l0 x3_1).f3)) ∧ w'.cell? ⟨(ad123.add ((x3_1).toNat * 9)).block, (ad123.add ((x3_1).toNat * 9)).off + 4, none⟩ = some (.int .i64 ((rd_T67 l0 x3_1).f4)) ∧ w'.cell? ⟨(ad123.add ((x3_1).toNat * 9)).block, (ad123.add ((x3_1).toNat * 9)).off + 5, none⟩ = some (.int .i64 ((rd_T67 l0 x3_1).f5)) ∧ w'.cell? ⟨(ad123.add ((x3_1).toNat * 9)).block, (ad123.add ((x3_1).toNat * 9)).off + 6, none⟩ = some (.int .i64 ((rd_T67 l0 x3_1).f6)) ∧ w'.cell? ⟨(ad123.add ((x3_1).toNat * 9)).block, (ad123.add ((x3_1).toNat * 9)).off + 7, none⟩ = some (.int .i64 ((rd_T67 l0 x3_1).f7)) ∧ w'.cell? ⟨(ad123.add ((x3_1).toNat * 9)).block, (ad123.add ((x3_1).toNat * 9)).off + 8, none⟩ = some (.int .i64 ((rd_T67 l0 x3_1).f8)) ∧ w'.cell? (ad123.add (((ji7)).toNat * 9)) = some (.string ((rd_T67 l0 (ji7)).f0)) ∧ w'.cell? ⟨(ad123.add (((ji7)).toNat * 9)).block, (ad123.add (((ji7)).toNat * 9)).off + 1, none⟩ = some (.int .i64 ((rd_T67 l0 (ji7)).f1)) ∧ w'.cell? ⟨(ad123.add (((ji7)).toNat * 9)).block, (ad123.add (((ji7)).toNat * 9)).off + 2, none⟩ = some (.int .i64 ((rd_T67 l0 (ji7)).f2)) ∧ w'.cell? ⟨(ad123.add (((ji7)).toNat * 9)).block, (ad123.add (((ji7)).toNat * 9)).off + 3, none⟩ = some (.int .i64 ((rd_T67 l0 (ji7)).f3)) ∧ w'.cell? ⟨(ad123.add (((ji7)).toNat * 9)).block, (ad123.add (((ji7)).toNat * 9)).off + 4, none⟩ = some (.int .i64 ((rd_T67 l0 (ji7)).f4)) ∧ w'.cell? ⟨(ad123.add (((ji7)).toNat * 9)).block, (ad123.add (((ji7)).toNat * 9)).off + 5, none⟩ = some (.int .i64 ((rd_T67 l0 (ji7)).f5)) ∧ w'.cell? ⟨(ad123.add (((ji7)).toNat * 9)).block, (ad123.add (((ji7)).toNat * 9)).off + 6, none⟩ = some (.int .i64 ((rd_T67 l0 (ji7)).f6)) ∧ w'.cell? ⟨(ad123.add (((ji7)).toNat * 9)).block, (ad123.add (((ji7)).toNat * 9)).off + 7, none⟩ = some (.int .i64 ((rd_T67 l0 (ji7)).f7)) ∧ w'.cell? ⟨(ad123.add (((ji7)).toNat * 9)).block, (ad123.add (((ji7)).toNat * 9)).off + 8, none⟩ = some (.int .i64 ((rd_T67 l0 (ji7)).f8)) ∧ w'.cell? (ad123.add ((x3_1).toNat * 9)) = some (.string ((rd_T67 l0 x3_1).f0)) ∧ w'.cell? ⟨(ad123.add ((x3_1).toNat * 9)).block, (ad123.add ((x3_1).toNat * 9)).off + 1, none⟩ = some (.int .i64 ((rd_T67 l0 x3_1).f1)) ∧ w'.cell? ⟨(ad123.add ((x3_1).toNat * 9)).block, (ad123.add ((x3_1).toNat * 9)).off + 2, none⟩ = some (.int .i64 ((rd_T67 l0 x3_1).f2)) ∧ w'.cell? ⟨(ad123.add ((x3_1).toNat * 9)).block, (ad123.add ((x3_1).toNat * 9)).off + 3, none⟩ = some (.int .i64 ((rd_T67 l0 x3_1).f3)) ∧ w'.cell? ⟨(ad123.add ((x3_1).toNat * 9)).block, (ad123.add ((x3_1).toNat * 9)).off + 4, none⟩ = some (.int .i64 ((rd_T67 l0 x3_1).f4)) ∧ w'.cell? ⟨(ad123.add ((x3_1).toNat * 9)).block, (ad123.add ((x3_1).toNat * 9)).off + 5, none⟩ = some (.int .i64 ((rd_T67 l0 x3_1).f5)) ∧ w'.cell? ⟨(ad123.add ((x3_1).toNat * 9)).block, (ad123.add ((x3_1).toNat * 9)).off + 6, none⟩ = some (.int .i64 ((rd_T67 l0 x3_1).f6)) ∧ w'.cell? ⟨(ad123.add ((x3_1).toNat * 9)).block, (ad123.add ((x3_1).toNat * 9)).off + 7, none⟩ = some (.int .i64 ((rd_T67 l0 x3_1).f7)) ∧ w'.cell? ⟨(ad123.add ((x3_1).toNat * 9)).block, (ad123.add ((x3_1).toNat * 9)).off + 8, none⟩ = some (.int .i64 ((rd_T67 l0 x3_1).f8))) (ds := []) (tf 0 24) (by kernel_rfl) rfl rfl ⟨((HB.out.cell (World.block_lt_of_cell? w _ hw123_0)).trans hw123_0), ((HB.out.cell (World.block_lt_of_cell? w _ hw123_1)).trans hw123_1), ((HB.out.cell (World.block_lt_of_cell? w _ hw123_2)).trans hw123_2), ((HB.out.cell (World.block_lt_of_cell? w _ hw123_3)).trans hw123_3), ((HB.out.cell (World.block_lt_of_cell? w _ hw123_4)).trans hw123_4), ((HB.out.cell (World.block_lt_of_cell? w _ hw123_5)).trans hw123_5), ((HB.out.cell (World.block_lt_of_cell? w _ hw123_6)).trans hw123_6), ((HB.out.cell (World.block_lt_of_cell? w _ hw123_7)).trans hw123_7), ((HB.out.cell (World.block_lt_of_cell? w _ hw123_8)).trans hw123_8), ((HB.out.cell (World.block_lt_of_cell? w _ hw125_0)).trans hw125_0), ((HB.out.cell (World.block_lt_of_cell? w _ hw125_1)).trans hw125_1), ((HB.out.cell (World.block_lt_of_cell? w _ hw125_2)).trans hw125_2), ((HB.out.cell (World.block_lt_of_cell? w _ hw125_3)).trans hw125_3), ((HB.out.cell (World.block_lt_of_cell? w _ hw125_4)).trans hw125_4), ((HB.out.cell (World.block_lt_of_cell? w _ hw125_5)).trans hw125_5), ((HB.out.cell (World.block_lt_of_cell? w _ hw125_6)).trans hw125_6), ((HB.out.cell (World.block_lt_of_cell? w _ hw125_7)).trans hw125_7), ((HB.out.cell (World.block_lt_of_cell? w _ hw125_8)).trans hw125_8), ((HB.out.cell (World.block_lt_of_cell? w _ hw126_0)).trans hw126_0), ((HB.out.cell (World.block_lt_of_cell? w _ hw126_1)).trans hw126_1), ((HB.out.cell (World.block_lt_of_cell? w _ hw126_2)).trans hw126_2), ((HB.out.cell (World.block_lt_of_cell? w _ hw126_3)).trans hw126_3), ((HB.out.cell (World.block_lt_of_cell? w _ hw126_4)).trans hw126_4), ((HB.out.cell (World.block_lt_of_cell? w _ hw126_5)).trans hw126_5), ((HB.out.cell (World.block_lt_of_cell? w _ hw126_6)).trans hw126_6), ((HB.out.cell (World.block_lt_of_cell? w _ hw126_7)).trans hw126_7), ((HB.out.cell (World.block_lt_of_cell? w _ hw126_8)).trans hw126_8)⟩ (fun hHeld => ?_); refine with_tabW spec_AreArticles.tab4 spec_AreArticles.bits4 (fun HT_ HW_ => ?_)
          generalize wr.drew = w11 at HB hx123_0 hx123_1 hx123_2 hx123_3 hx123_4 hx123_5 hx123_6 hx123_7 hx123_8 hx125_0 hx125_1 hx125_2 hx125_3 hx125_4 hx125_5 hx125_6 hx125_7 hx125_8 hx126_0 hx126_1 hx126_2 hx126_3 hx126_4 hx126_5 hx126_6 hx126_7 hx126_8 hHeld ⊢; refine pu_ 0 10 (tf 1 23) rfl rfl ?_; refine pu_ 1 11 (tf 2 22) rfl rfl ?_; refine pu_ 2 12 (tf 3 21) rfl rfl ?_; refine ta27_ 3 13 (tf 4 20) rfl rfl ?_; refine one_ (i := 4) (N := some 14) (tf 5 19) rfl rfl (one_of HT_.out (by kernel_rfl)) (by decide) (fun K hK => ?_); refine goes_ Try.func132 (by kernel_rfl) rfl #[.agg #[.string ((rd_T67 l0 x3_1).f0), .int .i64 ((rd_T67 l0 x3_1).f1), .int .i64 ((rd_T67 l0 x3_1).f2), .int .i64 ((rd_T67 l0 x3_1).f3), .int .i64 ((rd_T67 l0 x3_1).f4), .int .i64 ((rd_T67 l0 x3_1).f5), .int .i64 ((rd_T67 l0 x3_1).f6), .int .i64 ((rd_T67 l0 x3_1).f7), .int .i64 ((rd_T67 l0 x3_1).f8)]] (by rfl) rfl rfl (by (try simp only [List.map_toArray, List.map_cons, List.map_nil]); first | done | rfl | (simp only [List.length_drop, List.length_take]; rfl)) ?_; with_reducible refine (spec_IsArticle.calls k1 ((rd_T67 l0 x3_1).f0) ((rd_T67 l0 x3_1).f1) ((rd_T67 l0 x3_1).f2) ((rd_T67 l0 x3_1).f3) ((rd_T67 l0 x3_1).f4) ((rd_T67 l0 x3_1).f5) ((rd_T67 l0 x3_1).f6) ((rd_T67 l0 x3_1).f7) ((rd_T67 l0 x3_1).f8) true _ A4.out).mono ?_
          rintro e w12 ⟨rfl, hb⟩; refine ⟨_, rfl, ?_⟩; replace HB := Aside0.mk (below_step (vb HB.out) hb); (try clear hb)
          (try clear hb2)
          (try clear hk)
          (try clear hi)
          refine hK.out _ _ ⟨((HB.out.cell (World.block_lt_of_cell? w _ hw123_0)).trans hw123_0), ((HB.out.cell (World.block_lt_of_cell? w _ hw123_1)).trans hw123_1), ((HB.out.cell (World.block_lt_of_cell? w _ hw123_2)).trans hw123_2), ((HB.out.cell (World.block_lt_of_cell? w _ hw123_3)).trans hw123_3), ((HB.out.cell (World.block_lt_of_cell? w _ hw123_4)).trans hw123_4), ((HB.out.cell (World.block_lt_of_cell? w _ hw123_5)).trans hw123_5), ((HB.out.cell (World.block_lt_of_cell? w _ hw123_6)).trans hw123_6), ((HB.out.cell (World.block_lt_of_cell? w _ hw123_7)).trans hw123_7), ((HB.out.cell (World.block_lt_of_cell? w _ hw123_8)).trans hw123_8), ((HB.out.cell (World.block_lt_of_cell? w _ hw125_0)).trans hw125_0), ((HB.out.cell (World.block_lt_of_cell? w _ hw125_1)).trans hw125_1), ((HB.out.cell (World.block_lt_of_cell? w _ hw125_2)).trans hw125_2), ((HB.out.cell (World.block_lt_of_cell? w _ hw125_3)).trans hw125_3), ((HB.out.cell (World.block_lt_of_cell? w _ hw125_4)).trans hw125_4), ((HB.out.cell (World.block_lt_of_cell? w _ hw125_5)).trans hw125_5), ((HB.out.cell (World.block_lt_of_cell? w _ hw125_6)).trans hw125_6), ((HB.out.cell (World.block_lt_of_cell? w _ hw125_7)).trans hw125_7), ((HB.out.cell (World.block_lt_of_cell? w _ hw125_8)).trans hw125_8), ((HB.out.cell (World.block_lt_of_cell? w _ hw126_0)).trans hw126_0), ((HB.out.cell (World.block_lt_of_cell? w _ hw126_1)).trans hw126_1), ((HB.out.cell (World.block_lt_of_cell? w _ hw126_2)).trans hw126_2), ((HB.out.cell (World.block_lt_of_cell? w _ hw126_3)).trans hw126_3), ((HB.out.cell (World.block_lt_of_cell? w _ hw126_4)).trans hw126_4), ((HB.out.cell (World.block_lt_of_cell? w _ hw126_5)).trans hw126_5), ((HB.out.cell (World.block_lt_of_cell? w _ hw126_6)).trans hw126_6), ((HB.out.cell (World.block_lt_of_cell? w _ hw126_7)).trans hw126_7), ((HB.out.cell (World.block_lt_of_cell? w _ hw126_8)).trans hw126_8)⟩ (fun hHeld => ?_)
          clear hK K; refine norm_ (a' := ?_) ?_ ?_
          rotate_left
          ·show Act.put _ (some 14) _ = _
           simp only [Act.put, List.setIfInBounds_toArray, List.set_cons_zero, List.set_cons_succ, i64_w, i32_w]
           rfl
          refine pu_ 5 15 (tf 6 18) rfl rfl ?_; refine pu_ 6 16 (tf 7 17) rfl rfl ?_; refine pu_ 7 17 (tf 8 16) rfl rfl ?_; refine pu_ 8 18 (tf 9 15) rfl rfl ?_; refine pu_ 9 19 (tf 10 14) rfl rfl ?_; refine pu_ 10 20 (tf 11 13) rfl rfl ?_; refine pu_ 11 21 (tf 12 12) rfl rfl ?_; refine pu_ 12 22 (tf 13 11) rfl rfl ?_; refine pu_ 13 23 (tf 14 10) rfl rfl ?_; refine pu_ 14 24 (tf 15 9) rfl rfl ?_; refine pu_ 16 26 #[true, true, true, true, true, true, true, true, true, true, true, true, true, true, true, false, true, false, false, false, false, false, false, false] rfl rfl ?_; refine pu_ 17 27 #[true, true, true, true, true, true, true, true, true, true, true, true, true, true, true, false, true, true, false, false, false, false, false, false] rfl rfl ?_; refine pu_ 18 28 #[true, true, true, true, true, true, true, true, true, true, true, true, true, true, true, false, true, true, true, false, false, false, false, false] rfl rfl ?_; refine pu_ 19 29 #[true, true, true, true, true, true, true, true, true, true, true, true, true, true, true, false, true, true, true, true, false, false, false, false] rfl rfl ?_; refine ta27_ 15 25 (tf 20 4) rfl rfl ?_; refine ta27_ 20 30 (tf 21 3) rfl rfl ?_; refine pu_ 21 31 (tf 22 2) rfl rfl ?_; refine pu_ 22 32 (tf 23 1) rfl rfl ?_; refine pu_ 23 33 (tf 24 0) rfl rfl ?_; refine done_ (done_of HT_.out (by kernel_rfl)) ?_; (try go_wp2)
          go_roundg k1
          case measure => have := HK1.out; omega
          case rel => exact ⟨(wrap64 (x3_1 + 1)), (by first | rfl | (simp; done) | (simp [*]; done)), H', ⟨by have := HK1.out; omega⟩, ⟨vb HB.out⟩⟩
         ·rw [if_neg c10] at H; have c10b0 : (Op.bytesLess (((rd_T67 l0 (ji7)).f0).toList) (((rd_T67 l0 x3_1).f0).toList)) = false := by simpa using c10
          clear c10; obtain rfl := Option.some.inj H; (try go_wp2)
          replace HB := Aside0.mk (below_drew1 HB.out); have p123 : 0 ≤ (x3_1 : Int) := od; have q123 : x3_1 < (l0.length : Int) := od; obtain ⟨ad123, e123, hx123_0, hx123_1, hx123_2, hx123_3, hx123_4, hx123_5, hx123_6, hx123_7, hx123_8⟩ := at_T67 HR0.out x3_1 p123 q123; have hw123_8 := hx123_8; have hw123_7 := hx123_7; have hw123_6 := hx123_6; have hw123_5 := hx123_5; have hw123_4 := hx123_4; have hw123_3 := hx123_3; have hw123_2 := hx123_2; have hw123_1 := hx123_1; have hw123_0 := hx123_0
          cases e123; replace hx123_0 := cb HB.out hx123_0; replace hx123_1 := cb HB.out hx123_1; replace hx123_2 := cb HB.out hx123_2; replace hx123_3 := cb HB.out hx123_3; replace hx123_4 := cb HB.out hx123_4; replace hx123_5 := cb HB.out hx123_5; replace hx123_6 := cb HB.out hx123_6; replace hx123_7 := cb HB.out hx123_7; replace hx123_8 := cb HB.out hx123_8; replace p123 := eq_true p123; replace q123 := eq_true q123; have p125 : 0 ≤ ((ji7) : Int) := od; have q125 : (ji7) < (l0.length : Int) := od; obtain ⟨ad125, e125, hx125_0, hx125_1, hx125_2, hx125_3, hx125_4, hx125_5, hx125_6, hx125_7, hx125_8⟩ := at_T67 HR0.out (ji7) p125 q125; have hw125_8 := hx125_8; have hw125_7 := hx125_7; have hw125_6 := hx125_6; have hw125_5 := hx125_5; have hw125_4 := hx125_4; have hw125_3 := hx125_3; have hw125_2 := hx125_2; have hw125_1 := hx125_1; have hw125_0 := hx125_0; obtain rfl : ad123 = ad125 := (by injection e125); replace hx125_0 := cb HB.out hx125_0; replace hx125_1 := cb HB.out hx125_1; replace hx125_2 := cb HB.out hx125_2; replace hx125_3 := cb HB.out hx125_3; replace hx125_4 := cb HB.out hx125_4; replace hx125_5 := cb HB.out hx125_5; replace hx125_6 := cb HB.out hx125_6; replace hx125_7 := cb HB.out hx125_7; replace hx125_8 := cb HB.out hx125_8; replace p125 := eq_true p125; replace q125 := eq_true q125; have p126 : 0 ≤ (x3_1 : Int) := od; have q126 : x3_1 < (l0.length : Int) := od; obtain ⟨ad126, e126, hx126_0, hx126_1, hx126_2, hx126_3, hx126_4, hx126_5, hx126_6, hx126_7, hx126_8⟩ := at_T67 HR0.out x3_1 p126 q126
          have hw126_8 := hx126_8; have hw126_7 := hx126_7; have hw126_6 := hx126_6; have hw126_5 := hx126_5; have hw126_4 := hx126_4; have hw126_3 := hx126_3; have hw126_2 := hx126_2; have hw126_1 := hx126_1; have hw126_0 := hx126_0; obtain rfl : ad123 = ad126 := (by injection e126); replace hx126_0 := cb HB.out hx126_0; replace hx126_1 := cb HB.out hx126_1; replace hx126_2 := cb HB.out hx126_2; replace hx126_3 := cb HB.out hx126_3; replace hx126_4 := cb HB.out hx126_4; replace hx126_5 := cb HB.out hx126_5; replace hx126_6 := cb HB.out hx126_6; replace hx126_7 := cb HB.out hx126_7; replace hx126_8 := cb HB.out hx126_8; replace p126 := eq_true p126; replace q126 := eq_true q126; refine start_ (n := 24) (S := fun w' => w'.cell? (ad123.add ((x3_1).toNat * 9)) = some (.string ((rd_T67 l0 x3_1).f0)) ∧ w'.cell? ⟨(ad123.add ((x3_1).toNat * 9)).block, (ad123.add ((x3_1).toNat * 9)).off + 1, none⟩ = some (.int .i64 ((rd_T67 l0 x3_1).f1)) ∧ w'.cell? ⟨(ad123.add ((x3_1).toNat * 9)).block, (ad123.add ((x3_1).toNat * 9)).off + 2, none⟩ = some (.int .i64 ((rd_T67 l0 x3_1).f2)) ∧ w'.cell? ⟨(ad123.add ((x3_1).toNat * 9)).block, (ad123.add ((x3_1).toNat * 9)).off + 3, none⟩ = some (.int .i64 ((rd_T67 l0 x3_1).f3)) ∧ w'.cell? ⟨(ad123.add ((x3_1).toNat * 9)).block, (ad123.add ((x3_1).toNat * 9)).off + 4, none⟩ = some (.int .i64 ((rd_T67 l0 x3_1).f4)) ∧ w'.cell? ⟨(ad123.add ((x3_1).toNat * 9)).block, (ad123.add ((x3_1).toNat * 9)).off + 5, none⟩ = some (.int .i64 ((rd_T67 l0 x3_1).f5)) ∧ w'.cell? ⟨(ad123.add ((x3_1).toNat * 9)).block, (ad123.add ((x3_1).toNat * 9)).off + 6, none⟩ = some (.int .i64 ((rd_T67 l0 x3_1).f6)) ∧ w'.cell? ⟨(ad123.add ((x3_1).toNat * 9)).block, (ad123.add ((x3_1).toNat * 9)).off + 7, none⟩ = some (.int .i64 ((rd_T67 l0 x3_1).f7)) ∧ w'.cell? ⟨(ad123.add ((x3_1).toNat * 9)).block, (ad123.add ((x3_1).toNat * 9)).off + 8, none⟩ = some (.int .i64 ((rd_T67 l0 x3_1).f8)) ∧ w'.cell? (ad123.add (((ji7)).toNat * 9)) = some (.string ((rd_T67 l0 (ji7)).f0)) ∧ w'.cell? ⟨(ad123.add (((ji7)).toNat * 9)).block, (ad123.add (((ji7)).toNat * 9)).off + 1, none⟩ = some (.int .i64 ((rd_T67 l0 (ji7)).f1)) ∧ w'.cell? ⟨(ad123.add (((ji7)).toNat * 9)).block, (ad123.add (((ji7)).toNat * 9)).off + 2, none⟩ = some (.int .i64 ((rd_T67 l0 (ji7)).f2)) ∧ w'.cell? ⟨(ad123.add (((ji7)).toNat * 9)).block, (ad123.add (((ji7)).toNat * 9)).off + 3, none⟩ = some (.int .i64 ((rd_T67 l0 (ji7)).f3)) ∧ w'.cell? ⟨(ad123.add (((ji7)).toNat * 9)).block, (ad123.add (((ji7)).toNat * 9)).off + 4, none⟩ = some (.int .i64 ((rd_T67 l0 (ji7)).f4)) ∧ w'.cell? ⟨(ad123.add (((ji7)).toNat * 9)).block, (ad123.add (((ji7)).toNat * 9)).off + 5, none⟩ = some (.int .i64 ((rd_T67 l0 (ji7)).f5)) ∧ w'.cell? ⟨(ad123.add (((ji7)).toNat * 9)).block, (ad123.add (((ji7)).toNat * 9)).off + 6, none⟩ = some (.int .i64 ((rd_T67 l0 (ji7)).f6)) ∧ w'.cell? ⟨(ad123.add (((ji7)).toNat * 9)).block, (ad123.add (((ji7)).toNat * 9)).off + 7, none⟩ = some (.int .i64 ((rd_T67 l0 (ji7)).f7)) ∧ w'.cell? ⟨(ad123.add (((ji7)).toNat * 9)).block, (ad123.add (((ji7)).toNat * 9)).off + 8, none⟩ = some (.int .i64 ((rd_T67 l0 (ji7)).f8)) ∧ w'.cell? (ad123.add ((x3_1).toNat * 9)) = some (.string ((rd_T67 l0 x3_1).f0)) ∧ w'.cell? ⟨(ad123.add ((x3_1).toNat * 9)).block, (ad123.add ((x3_1).toNat * 9)).off + 1, none⟩ = some (.int .i64 ((rd_T67 l0 x3_1).f1)) ∧ w'.cell? ⟨(ad123.add ((x3_1).toNat * 9)).block, (ad123.add ((x3_1).toNat * 9)).off + 2, none⟩ = some (.int .i64 ((rd_T67 l0 x3_1).f2)) ∧ w'.cell? ⟨(ad123.add ((x3_1).toNat * 9)).block, (ad123.add ((x3_1).toNat * 9)).off + 3, none⟩ = some (.int .i64 ((rd_T67 l0 x3_1).f3)) ∧ w'.cell? ⟨(ad123.add ((x3_1).toNat * 9)).block, (ad123.add ((x3_1).toNat * 9)).off + 4, none⟩ = some (.int .i64 ((rd_T67 l0 x3_1).f4)) ∧ w'.cell? ⟨(ad123.add ((x3_1).toNat * 9)).block, (ad123.add ((x3_1).toNat * 9)).off + 5, none⟩ = some (.int .i64 ((rd_T67 l0 x3_1).f5)) ∧ w'.cell? ⟨(ad123.add ((x3_1).toNat * 9)).block, (ad123.add ((x3_1).toNat * 9)).off + 6, none⟩ = some (.int .i64 ((rd_T67 l0 x3_1).f6)) ∧ w'.cell? ⟨(ad123.add ((x3_1).toNat * 9)).block, (ad123.add ((x3_1).toNat * 9)).off + 7, none⟩ = some (.int .i64 ((rd_T67 l0 x3_1).f7)) ∧ w'.cell? ⟨(ad123.add ((x3_1).toNat * 9)).block, (ad123.add ((x3_1).toNat * 9)).off + 8, none⟩ = some (.int .i64 ((rd_T67 l0 x3_1).f8))) (ds := []) (tf 0 24) (by kernel_rfl) rfl rfl ⟨((HB.out.cell (World.block_lt_of_cell? w _ hw123_0)).trans hw123_0), ((HB.out.cell (World.block_lt_of_cell? w _ hw123_1)).trans hw123_1), ((HB.out.cell (World.block_lt_of_cell? w _ hw123_2)).trans hw123_2), ((HB.out.cell (World.block_lt_of_cell? w _ hw123_3)).trans hw123_3), ((HB.out.cell (World.block_lt_of_cell? w _ hw123_4)).trans hw123_4), ((HB.out.cell (World.block_lt_of_cell? w _ hw123_5)).trans hw123_5), ((HB.out.cell (World.block_lt_of_cell? w _ hw123_6)).trans hw123_6), ((HB.out.cell (World.block_lt_of_cell? w _ hw123_7)).trans hw123_7), ((HB.out.cell (World.block_lt_of_cell? w _ hw123_8)).trans hw123_8), ((HB.out.cell (World.block_lt_of_cell? w _ hw125_0)).trans hw125_0), ((HB.out.cell (World.block_lt_of_cell? w _ hw125_1)).trans hw125_1), ((HB.out.cell (World.block_lt_of_cell? w _ hw125_2)).trans hw125_2), ((HB.out.cell (World.block_lt_of_cell? w _ hw125_3)).trans hw125_3), ((HB.out.cell (World.block_lt_of_cell? w _ hw125_4)).trans hw125_4), ((HB.out.cell (World.block_lt_of_cell? w _ hw125_5)).trans hw125_5), ((HB.out.cell (World.block_lt_of_cell? w _ hw125_6)).trans hw125_6), ((HB.out.cell (World.block_lt_of_cell? w _ hw125_7)).trans hw125_7), ((HB.out.cell (World.block_lt_of_cell? w _ hw125_8)).trans hw125_8), ((HB.out.cell (World.block_lt_of_cell? w _ hw126_0)).trans hw126_0), ((HB.out.cell (World.block_lt_of_cell? w _ hw126_1)).trans hw126_1), ((HB.out.cell (World.block_lt_of_cell? w _ hw126_2)).trans hw126_2), ((HB.out.cell (World.block_lt_of_cell? w _ hw126_3)).trans hw126_3), ((HB.out.cell (World.block_lt_of_cell? w _ hw126_4)).trans hw126_4), ((HB.out.cell (World.block_lt_of_cell? w _ hw126_5)).trans hw126_5), ((HB.out.cell (World.block_lt_of_cell? w _ hw126_6)).trans hw126_6), ((HB.out.cell (World.block_lt_of_cell? w _ hw126_7)).trans hw126_7), ((HB.out.cell (World.block_lt_of_cell? w _ hw126_8)).trans hw126_8)⟩ (fun hHeld => ?_); refine with_tabW spec_AreArticles.tab4 spec_AreArticles.bits4 (fun HT_ HW_ => ?_)
          generalize wr.drew = w13 at HB hx123_0 hx123_1 hx123_2 hx123_3 hx123_4 hx123_5 hx123_6 hx123_7 hx123_8 hx125_0 hx125_1 hx125_2 hx125_3 hx125_4 hx125_5 hx125_6 hx125_7 hx125_8 hx126_0 hx126_1 hx126_2 hx126_3 hx126_4 hx126_5 hx126_6 hx126_7 hx126_8 hHeld ⊢; refine pu_ 0 10 (tf 1 23) rfl rfl ?_; refine pu_ 1 11 (tf 2 22) rfl rfl ?_; refine pu_ 2 12 (tf 3 21) rfl rfl ?_; refine ta27_ 3 13 (tf 4 20) rfl rfl ?_; refine one_ (i := 4) (N := some 14) (tf 5 19) rfl rfl (one_of HT_.out (by kernel_rfl)) (by decide) (fun K hK => ?_); refine goes_ Try.func132 (by kernel_rfl) rfl #[.agg #[.string ((rd_T67 l0 x3_1).f0), .int .i64 ((rd_T67 l0 x3_1).f1), .int .i64 ((rd_T67 l0 x3_1).f2), .int .i64 ((rd_T67 l0 x3_1).f3), .int .i64 ((rd_T67 l0 x3_1).f4), .int .i64 ((rd_T67 l0 x3_1).f5), .int .i64 ((rd_T67 l0 x3_1).f6), .int .i64 ((rd_T67 l0 x3_1).f7), .int .i64 ((rd_T67 l0 x3_1).f8)]] (by rfl) rfl rfl (by (try simp only [List.map_toArray, List.map_cons, List.map_nil]); first | done | rfl | (simp only [List.length_drop, List.length_take]; rfl)) ?_; with_reducible refine (spec_IsArticle.calls k1 ((rd_T67 l0 x3_1).f0) ((rd_T67 l0 x3_1).f1) ((rd_T67 l0 x3_1).f2) ((rd_T67 l0 x3_1).f3) ((rd_T67 l0 x3_1).f4) ((rd_T67 l0 x3_1).f5) ((rd_T67 l0 x3_1).f6) ((rd_T67 l0 x3_1).f7) ((rd_T67 l0 x3_1).f8) true _ A4.out).mono ?_
          rintro e w14 ⟨rfl, hb⟩; refine ⟨_, rfl, ?_⟩; replace HB := Aside0.mk (below_step (vb HB.out) hb); (try clear hb)
          (try clear hb2)
          (try clear hk)
          (try clear hi)
          refine hK.out _ _ ⟨((HB.out.cell (World.block_lt_of_cell? w _ hw123_0)).trans hw123_0), ((HB.out.cell (World.block_lt_of_cell? w _ hw123_1)).trans hw123_1), ((HB.out.cell (World.block_lt_of_cell? w _ hw123_2)).trans hw123_2), ((HB.out.cell (World.block_lt_of_cell? w _ hw123_3)).trans hw123_3), ((HB.out.cell (World.block_lt_of_cell? w _ hw123_4)).trans hw123_4), ((HB.out.cell (World.block_lt_of_cell? w _ hw123_5)).trans hw123_5), ((HB.out.cell (World.block_lt_of_cell? w _ hw123_6)).trans hw123_6), ((HB.out.cell (World.block_lt_of_cell? w _ hw123_7)).trans hw123_7), ((HB.out.cell (World.block_lt_of_cell? w _ hw123_8)).trans hw123_8), ((HB.out.cell (World.block_lt_of_cell? w _ hw125_0)).trans hw125_0), ((HB.out.cell (World.block_lt_of_cell? w _ hw125_1)).trans hw125_1), ((HB.out.cell (World.block_lt_of_cell? w _ hw125_2)).trans hw125_2), ((HB.out.cell (World.block_lt_of_cell? w _ hw125_3)).trans hw125_3), ((HB.out.cell (World.block_lt_of_cell? w _ hw125_4)).trans hw125_4), ((HB.out.cell (World.block_lt_of_cell? w _ hw125_5)).trans hw125_5), ((HB.out.cell (World.block_lt_of_cell? w _ hw125_6)).trans hw125_6), ((HB.out.cell (World.block_lt_of_cell? w _ hw125_7)).trans hw125_7), ((HB.out.cell (World.block_lt_of_cell? w _ hw125_8)).trans hw125_8), ((HB.out.cell (World.block_lt_of_cell? w _ hw126_0)).trans hw126_0), ((HB.out.cell (World.block_lt_of_cell? w _ hw126_1)).trans hw126_1), ((HB.out.cell (World.block_lt_of_cell? w _ hw126_2)).trans hw126_2), ((HB.out.cell (World.block_lt_of_cell? w _ hw126_3)).trans hw126_3), ((HB.out.cell (World.block_lt_of_cell? w _ hw126_4)).trans hw126_4), ((HB.out.cell (World.block_lt_of_cell? w _ hw126_5)).trans hw126_5), ((HB.out.cell (World.block_lt_of_cell? w _ hw126_6)).trans hw126_6), ((HB.out.cell (World.block_lt_of_cell? w _ hw126_7)).trans hw126_7), ((HB.out.cell (World.block_lt_of_cell? w _ hw126_8)).trans hw126_8)⟩ (fun hHeld => ?_)
          clear hK K; refine norm_ (a' := ?_) ?_ ?_
          rotate_left
          ·show Act.put _ (some 14) _ = _
           simp only [Act.put, List.setIfInBounds_toArray, List.set_cons_zero, List.set_cons_succ, i64_w, i32_w]
           rfl
          refine pu_ 5 15 (tf 6 18) rfl rfl ?_; refine pu_ 6 16 (tf 7 17) rfl rfl ?_; refine pu_ 7 17 (tf 8 16) rfl rfl ?_; refine pu_ 8 18 (tf 9 15) rfl rfl ?_; refine pu_ 9 19 (tf 10 14) rfl rfl ?_; refine pu_ 10 20 (tf 11 13) rfl rfl ?_; refine pu_ 11 21 (tf 12 12) rfl rfl ?_; refine pu_ 12 22 (tf 13 11) rfl rfl ?_; refine pu_ 13 23 (tf 14 10) rfl rfl ?_; refine pu_ 14 24 (tf 15 9) rfl rfl ?_; refine pu_ 16 26 #[true, true, true, true, true, true, true, true, true, true, true, true, true, true, true, false, true, false, false, false, false, false, false, false] rfl rfl ?_; refine pu_ 17 27 #[true, true, true, true, true, true, true, true, true, true, true, true, true, true, true, false, true, true, false, false, false, false, false, false] rfl rfl ?_; refine pu_ 18 28 #[true, true, true, true, true, true, true, true, true, true, true, true, true, true, true, false, true, true, true, false, false, false, false, false] rfl rfl ?_; refine pu_ 19 29 #[true, true, true, true, true, true, true, true, true, true, true, true, true, true, true, false, true, true, true, true, false, false, false, false] rfl rfl ?_; refine ta27_ 15 25 (tf 20 4) rfl rfl ?_; refine ta27_ 20 30 (tf 21 3) rfl rfl ?_; refine pu_ 21 31 (tf 22 2) rfl rfl ?_; refine pu_ 22 32 (tf 23 1) rfl rfl ?_; refine pu_ 23 33 (tf 24 0) rfl rfl ?_; refine done_ (done_of HT_.out (by kernel_rfl)) ?_; (try go_wp2)
          go_ret
          exact ⟨by first | rfl | (simp [errW_none, errW_some] <;> rfl) | (simp only [← hji7]; first | rfl | (simp [errW_none, errW_some] <;> rfl)) | (simp [*, errW_none, errW_some] <;> rfl), vb HB.out⟩
        ·rw [if_neg c9] at H; exact absurd H (by simp)
       ·rw [if_neg c8] at H; exact absurd H (by simp)
      ·rw [if_neg c6] at H; have c6b0 : decide (0 < x3_1) = false := decide_eq_false c6; clear c6; have H' := Aside0.mk H; clear H; (try go_wp2)
       replace HB := Aside0.mk (below_drew1 HB.out); have p123 : 0 ≤ (x3_1 : Int) := od; have q123 : x3_1 < (l0.length : Int) := od; obtain ⟨ad123, e123, hx123_0, hx123_1, hx123_2, hx123_3, hx123_4, hx123_5, hx123_6, hx123_7, hx123_8⟩ := at_T67 HR0.out x3_1 p123 q123; have hw123_8 := hx123_8; have hw123_7 := hx123_7; have hw123_6 := hx123_6; have hw123_5 := hx123_5; have hw123_4 := hx123_4; have hw123_3 := hx123_3; have hw123_2 := hx123_2; have hw123_1 := hx123_1; have hw123_0 := hx123_0
       cases e123; replace hx123_0 := cb HB.out hx123_0; replace hx123_1 := cb HB.out hx123_1; replace hx123_2 := cb HB.out hx123_2; replace hx123_3 := cb HB.out hx123_3; replace hx123_4 := cb HB.out hx123_4; replace hx123_5 := cb HB.out hx123_5; replace hx123_6 := cb HB.out hx123_6; replace hx123_7 := cb HB.out hx123_7; replace hx123_8 := cb HB.out hx123_8; replace p123 := eq_true p123; replace q123 := eq_true q123; refine start_ (n := 24) (S := fun w' => w'.cell? (ad123.add ((x3_1).toNat * 9)) = some (.string ((rd_T67 l0 x3_1).f0)) ∧ w'.cell? ⟨(ad123.add ((x3_1).toNat * 9)).block, (ad123.add ((x3_1).toNat * 9)).off + 1, none⟩ = some (.int .i64 ((rd_T67 l0 x3_1).f1)) ∧ w'.cell? ⟨(ad123.add ((x3_1).toNat * 9)).block, (ad123.add ((x3_1).toNat * 9)).off + 2, none⟩ = some (.int .i64 ((rd_T67 l0 x3_1).f2)) ∧ w'.cell? ⟨(ad123.add ((x3_1).toNat * 9)).block, (ad123.add ((x3_1).toNat * 9)).off + 3, none⟩ = some (.int .i64 ((rd_T67 l0 x3_1).f3)) ∧ w'.cell? ⟨(ad123.add ((x3_1).toNat * 9)).block, (ad123.add ((x3_1).toNat * 9)).off + 4, none⟩ = some (.int .i64 ((rd_T67 l0 x3_1).f4)) ∧ w'.cell? ⟨(ad123.add ((x3_1).toNat * 9)).block, (ad123.add ((x3_1).toNat * 9)).off + 5, none⟩ = some (.int .i64 ((rd_T67 l0 x3_1).f5)) ∧ w'.cell? ⟨(ad123.add ((x3_1).toNat * 9)).block, (ad123.add ((x3_1).toNat * 9)).off + 6, none⟩ = some (.int .i64 ((rd_T67 l0 x3_1).f6)) ∧ w'.cell? ⟨(ad123.add ((x3_1).toNat * 9)).block, (ad123.add ((x3_1).toNat * 9)).off + 7, none⟩ = some (.int .i64 ((rd_T67 l0 x3_1).f7)) ∧ w'.cell? ⟨(ad123.add ((x3_1).toNat * 9)).block, (ad123.add ((x3_1).toNat * 9)).off + 8, none⟩ = some (.int .i64 ((rd_T67 l0 x3_1).f8))) (ds := []) (tf 0 24) (by kernel_rfl) rfl rfl ⟨((HB.out.cell (World.block_lt_of_cell? w _ hw123_0)).trans hw123_0), ((HB.out.cell (World.block_lt_of_cell? w _ hw123_1)).trans hw123_1), ((HB.out.cell (World.block_lt_of_cell? w _ hw123_2)).trans hw123_2), ((HB.out.cell (World.block_lt_of_cell? w _ hw123_3)).trans hw123_3), ((HB.out.cell (World.block_lt_of_cell? w _ hw123_4)).trans hw123_4), ((HB.out.cell (World.block_lt_of_cell? w _ hw123_5)).trans hw123_5), ((HB.out.cell (World.block_lt_of_cell? w _ hw123_6)).trans hw123_6), ((HB.out.cell (World.block_lt_of_cell? w _ hw123_7)).trans hw123_7), ((HB.out.cell (World.block_lt_of_cell? w _ hw123_8)).trans hw123_8)⟩ (fun hHeld => ?_); refine with_tabW spec_AreArticles.tab4 spec_AreArticles.bits4 (fun HT_ HW_ => ?_)
       generalize wr.drew = w15 at HB hx123_0 hx123_1 hx123_2 hx123_3 hx123_4 hx123_5 hx123_6 hx123_7 hx123_8 hHeld ⊢; refine pu_ 0 10 (tf 1 23) rfl rfl ?_; refine pu_ 1 11 (tf 2 22) rfl rfl ?_; refine pu_ 2 12 (tf 3 21) rfl rfl ?_; refine ta9_ 3 13 (tf 4 20) rfl rfl ?_; refine one_ (i := 4) (N := some 14) (tf 5 19) rfl rfl (one_of HT_.out (by kernel_rfl)) (by decide) (fun K hK => ?_); refine goes_ Try.func132 (by kernel_rfl) rfl #[.agg #[.string ((rd_T67 l0 x3_1).f0), .int .i64 ((rd_T67 l0 x3_1).f1), .int .i64 ((rd_T67 l0 x3_1).f2), .int .i64 ((rd_T67 l0 x3_1).f3), .int .i64 ((rd_T67 l0 x3_1).f4), .int .i64 ((rd_T67 l0 x3_1).f5), .int .i64 ((rd_T67 l0 x3_1).f6), .int .i64 ((rd_T67 l0 x3_1).f7), .int .i64 ((rd_T67 l0 x3_1).f8)]] (by rfl) rfl rfl (by (try simp only [List.map_toArray, List.map_cons, List.map_nil]); first | done | rfl | (simp only [List.length_drop, List.length_take]; rfl)) ?_; with_reducible refine (spec_IsArticle.calls k1 ((rd_T67 l0 x3_1).f0) ((rd_T67 l0 x3_1).f1) ((rd_T67 l0 x3_1).f2) ((rd_T67 l0 x3_1).f3) ((rd_T67 l0 x3_1).f4) ((rd_T67 l0 x3_1).f5) ((rd_T67 l0 x3_1).f6) ((rd_T67 l0 x3_1).f7) ((rd_T67 l0 x3_1).f8) true _ A4.out).mono ?_
       rintro e w16 ⟨rfl, hb⟩; refine ⟨_, rfl, ?_⟩; replace HB := Aside0.mk (below_step (vb HB.out) hb); (try clear hb)
       (try clear hb2)
       (try clear hk)
       (try clear hi)
       refine hK.out _ _ ⟨((HB.out.cell (World.block_lt_of_cell? w _ hw123_0)).trans hw123_0), ((HB.out.cell (World.block_lt_of_cell? w _ hw123_1)).trans hw123_1), ((HB.out.cell (World.block_lt_of_cell? w _ hw123_2)).trans hw123_2), ((HB.out.cell (World.block_lt_of_cell? w _ hw123_3)).trans hw123_3), ((HB.out.cell (World.block_lt_of_cell? w _ hw123_4)).trans hw123_4), ((HB.out.cell (World.block_lt_of_cell? w _ hw123_5)).trans hw123_5), ((HB.out.cell (World.block_lt_of_cell? w _ hw123_6)).trans hw123_6), ((HB.out.cell (World.block_lt_of_cell? w _ hw123_7)).trans hw123_7), ((HB.out.cell (World.block_lt_of_cell? w _ hw123_8)).trans hw123_8)⟩ (fun hHeld => ?_); clear hK K; refine norm_ (a' := ?_) ?_ ?_
       rotate_left
       ·show Act.put _ (some 14) _ = _
        simp only [Act.put, List.setIfInBounds_toArray, List.set_cons_zero, List.set_cons_succ, i64_w, i32_w]
        rfl
       refine pu_ 5 15 (tf 6 18) rfl rfl ?_; refine pu_ 6 16 (tf 7 17) rfl rfl ?_; refine pu_ 7 17 (tf 8 16) rfl rfl ?_; refine pu_ 8 18 (tf 9 15) rfl rfl ?_; refine pu_ 9 19 (tf 10 14) rfl rfl ?_; refine un_ 10 20 (tf 11 13) rfl rfl ?_; refine un_ 11 21 (tf 12 12) rfl rfl ?_; refine un_ 12 22 (tf 13 11) rfl rfl ?_; refine un_ 13 23 (tf 14 10) rfl rfl ?_; refine un_ 14 24 (tf 15 9) rfl rfl ?_; refine un_ 15 25 (tf 16 8) rfl rfl ?_; refine un_ 16 26 (tf 17 7) rfl rfl ?_; refine un_ 17 27 (tf 18 6) rfl rfl ?_; refine un_ 18 28 (tf 19 5) rfl rfl ?_; refine un_ 19 29 (tf 20 4) rfl rfl ?_; refine un_ 20 30 (tf 21 3) rfl rfl ?_; refine un_ 21 31 (tf 22 2) rfl rfl ?_; refine pu_ 22 32 (tf 23 1) rfl rfl ?_; refine pu_ 23 33 (tf 24 0) rfl rfl ?_; refine done_ (done_of HT_.out (by kernel_rfl)) ?_; (try go_wp2)
       go_roundg k1
       case measure => have := HK1.out; omega
       case rel => exact ⟨(wrap64 (x3_1 + 1)), (by first | rfl | (simp; done) | (simp [*]; done)), H', ⟨by have := HK1.out; omega⟩, ⟨vb HB.out⟩⟩
     ·replace c5 := Bool.eq_false_iff.mpr c5; subst c5; have H1 : (some false) = some r := by rw [if_neg (show ¬ (false = true) by decide)] at H; exact H
      clear H; have H := H1; clear H1; obtain rfl := Option.some.inj H; (try go_wp2)
      replace HB := Aside0.mk (below_drew1 HB.out); have p123 : 0 ≤ (x3_1 : Int) := od; have q123 : x3_1 < (l0.length : Int) := od; obtain ⟨ad123, e123, hx123_0, hx123_1, hx123_2, hx123_3, hx123_4, hx123_5, hx123_6, hx123_7, hx123_8⟩ := at_T67 HR0.out x3_1 p123 q123; have hw123_8 := hx123_8; have hw123_7 := hx123_7; have hw123_6 := hx123_6; have hw123_5 := hx123_5; have hw123_4 := hx123_4; have hw123_3 := hx123_3; have hw123_2 := hx123_2; have hw123_1 := hx123_1; have hw123_0 := hx123_0
      cases e123; replace hx123_0 := cb HB.out hx123_0; replace hx123_1 := cb HB.out hx123_1; replace hx123_2 := cb HB.out hx123_2; replace hx123_3 := cb HB.out hx123_3; replace hx123_4 := cb HB.out hx123_4; replace hx123_5 := cb HB.out hx123_5; replace hx123_6 := cb HB.out hx123_6; replace hx123_7 := cb HB.out hx123_7; replace hx123_8 := cb HB.out hx123_8; replace p123 := eq_true p123; replace q123 := eq_true q123; refine start_ (n := 24) (S := fun w' => w'.cell? (ad123.add ((x3_1).toNat * 9)) = some (.string ((rd_T67 l0 x3_1).f0)) ∧ w'.cell? ⟨(ad123.add ((x3_1).toNat * 9)).block, (ad123.add ((x3_1).toNat * 9)).off + 1, none⟩ = some (.int .i64 ((rd_T67 l0 x3_1).f1)) ∧ w'.cell? ⟨(ad123.add ((x3_1).toNat * 9)).block, (ad123.add ((x3_1).toNat * 9)).off + 2, none⟩ = some (.int .i64 ((rd_T67 l0 x3_1).f2)) ∧ w'.cell? ⟨(ad123.add ((x3_1).toNat * 9)).block, (ad123.add ((x3_1).toNat * 9)).off + 3, none⟩ = some (.int .i64 ((rd_T67 l0 x3_1).f3)) ∧ w'.cell? ⟨(ad123.add ((x3_1).toNat * 9)).block, (ad123.add ((x3_1).toNat * 9)).off + 4, none⟩ = some (.int .i64 ((rd_T67 l0 x3_1).f4)) ∧ w'.cell? ⟨(ad123.add ((x3_1).toNat * 9)).block, (ad123.add ((x3_1).toNat * 9)).off + 5, none⟩ = some (.int .i64 ((rd_T67 l0 x3_1).f5)) ∧ w'.cell? ⟨(ad123.add ((x3_1).toNat * 9)).block, (ad123.add ((x3_1).toNat * 9)).off + 6, none⟩ = some (.int .i64 ((rd_T67 l0 x3_1).f6)) ∧ w'.cell? ⟨(ad123.add ((x3_1).toNat * 9)).block, (ad123.add ((x3_1).toNat * 9)).off + 7, none⟩ = some (.int .i64 ((rd_T67 l0 x3_1).f7)) ∧ w'.cell? ⟨(ad123.add ((x3_1).toNat * 9)).block, (ad123.add ((x3_1).toNat * 9)).off + 8, none⟩ = some (.int .i64 ((rd_T67 l0 x3_1).f8))) (ds := []) (tf 0 24) (by kernel_rfl) rfl rfl ⟨((HB.out.cell (World.block_lt_of_cell? w _ hw123_0)).trans hw123_0), ((HB.out.cell (World.block_lt_of_cell? w _ hw123_1)).trans hw123_1), ((HB.out.cell (World.block_lt_of_cell? w _ hw123_2)).trans hw123_2), ((HB.out.cell (World.block_lt_of_cell? w _ hw123_3)).trans hw123_3), ((HB.out.cell (World.block_lt_of_cell? w _ hw123_4)).trans hw123_4), ((HB.out.cell (World.block_lt_of_cell? w _ hw123_5)).trans hw123_5), ((HB.out.cell (World.block_lt_of_cell? w _ hw123_6)).trans hw123_6), ((HB.out.cell (World.block_lt_of_cell? w _ hw123_7)).trans hw123_7), ((HB.out.cell (World.block_lt_of_cell? w _ hw123_8)).trans hw123_8)⟩ (fun hHeld => ?_); refine with_tabW spec_AreArticles.tab4 spec_AreArticles.bits4 (fun HT_ HW_ => ?_)
      generalize wr.drew = w17 at HB hx123_0 hx123_1 hx123_2 hx123_3 hx123_4 hx123_5 hx123_6 hx123_7 hx123_8 hHeld ⊢; refine pu_ 0 10 (tf 1 23) rfl rfl ?_; refine pu_ 1 11 (tf 2 22) rfl rfl ?_; refine pu_ 2 12 (tf 3 21) rfl rfl ?_; refine ta9_ 3 13 (tf 4 20) rfl rfl ?_; refine one_ (i := 4) (N := some 14) (tf 5 19) rfl rfl (one_of HT_.out (by kernel_rfl)) (by decide) (fun K hK => ?_); refine goes_ Try.func132 (by kernel_rfl) rfl #[.agg #[.string ((rd_T67 l0 x3_1).f0), .int .i64 ((rd_T67 l0 x3_1).f1), .int .i64 ((rd_T67 l0 x3_1).f2), .int .i64 ((rd_T67 l0 x3_1).f3), .int .i64 ((rd_T67 l0 x3_1).f4), .int .i64 ((rd_T67 l0 x3_1).f5), .int .i64 ((rd_T67 l0 x3_1).f6), .int .i64 ((rd_T67 l0 x3_1).f7), .int .i64 ((rd_T67 l0 x3_1).f8)]] (by rfl) rfl rfl (by (try simp only [List.map_toArray, List.map_cons, List.map_nil]); first | done | rfl | (simp only [List.length_drop, List.length_take]; rfl)) ?_; with_reducible refine (spec_IsArticle.calls k1 ((rd_T67 l0 x3_1).f0) ((rd_T67 l0 x3_1).f1) ((rd_T67 l0 x3_1).f2) ((rd_T67 l0 x3_1).f3) ((rd_T67 l0 x3_1).f4) ((rd_T67 l0 x3_1).f5) ((rd_T67 l0 x3_1).f6) ((rd_T67 l0 x3_1).f7) ((rd_T67 l0 x3_1).f8) false _ A4.out).mono ?_
      rintro e w18 ⟨rfl, hb⟩; refine ⟨_, rfl, ?_⟩; replace HB := Aside0.mk (below_step (vb HB.out) hb); (try clear hb)
      (try clear hb2)
      (try clear hk)
      (try clear hi)
      refine hK.out _ _ ⟨((HB.out.cell (World.block_lt_of_cell? w _ hw123_0)).trans hw123_0), ((HB.out.cell (World.block_lt_of_cell? w _ hw123_1)).trans hw123_1), ((HB.out.cell (World.block_lt_of_cell? w _ hw123_2)).trans hw123_2), ((HB.out.cell (World.block_lt_of_cell? w _ hw123_3)).trans hw123_3), ((HB.out.cell (World.block_lt_of_cell? w _ hw123_4)).trans hw123_4), ((HB.out.cell (World.block_lt_of_cell? w _ hw123_5)).trans hw123_5), ((HB.out.cell (World.block_lt_of_cell? w _ hw123_6)).trans hw123_6), ((HB.out.cell (World.block_lt_of_cell? w _ hw123_7)).trans hw123_7), ((HB.out.cell (World.block_lt_of_cell? w _ hw123_8)).trans hw123_8)⟩ (fun hHeld => ?_); clear hK K; refine norm_ (a' := ?_) ?_ ?_
      rotate_left
      ·show Act.put _ (some 14) _ = _
       simp only [Act.put, List.setIfInBounds_toArray, List.set_cons_zero, List.set_cons_succ, i64_w, i32_w]
       rfl
      refine pu_ 5 15 (tf 6 18) rfl rfl ?_; refine pu_ 6 16 (tf 7 17) rfl rfl ?_; refine un_ 7 17 (tf 8 16) rfl rfl ?_; refine un_ 8 18 (tf 9 15) rfl rfl ?_; refine un_ 9 19 (tf 10 14) rfl rfl ?_; refine un_ 10 20 (tf 11 13) rfl rfl ?_; refine un_ 11 21 (tf 12 12) rfl rfl ?_; refine un_ 12 22 (tf 13 11) rfl rfl ?_; refine un_ 13 23 (tf 14 10) rfl rfl ?_; refine un_ 14 24 (tf 15 9) rfl rfl ?_; refine un_ 15 25 (tf 16 8) rfl rfl ?_; refine un_ 16 26 (tf 17 7) rfl rfl ?_; refine un_ 17 27 (tf 18 6) rfl rfl ?_; refine un_ 18 28 (tf 19 5) rfl rfl ?_; refine un_ 19 29 (tf 20 4) rfl rfl ?_; refine un_ 20 30 (tf 21 3) rfl rfl ?_; refine un_ 21 31 (tf 22 2) rfl rfl ?_; refine un_ 22 32 (tf 23 1) rfl rfl ?_; refine pu_ 23 33 (tf 24 0) rfl rfl ?_; refine done_ (done_of HT_.out (by kernel_rfl)) ?_; (try go_wp2)
      go_ret
      exact ⟨ew, vb HB.out⟩
    ·rw [if_neg c3] at H; exact absurd H (by simp)
   ·rw [if_neg c2] at H; have c2b0 : decide (x3_1 < (l0.length : Int)) = false := decide_eq_false c2; clear c2; obtain rfl := Option.some.inj H; go_wp2
    go_ret
    exact ⟨ew, vb HB.out⟩


/-! ### laws_toStringS: function 64 -/
mutual
def laws_toStringSg.j0 : Nat → List ByteArray → Bool → Option (List ByteArray)
 | 0, _, _ => none
 | k + 1, x0, x13 => if x13 = true then (some ([] : List ByteArray)) else ((laws_roomBehind.f (x0.length : Int)).bind fun t193 => (if 0 ≤ (wrap64 ((x0.length : Int) + t193)) then (if (wrap64 ((x0.length : Int) + t193) : Int).toNat ≤ 17592186044416 then (laws_toStringSg.l0 k x0 (List.replicate (wrap64 ((x0.length : Int) + t193) : Int).toNat (⟨#[]⟩ : ByteArray)) 0) else (none)) else (none)))
def laws_toStringSg.l0 : Nat → List ByteArray → List ByteArray → Int → Option (List ByteArray)
 | 0, _, _, _ => none
 | k + 1, x0, x5, x6 => if x6 < (x0.length : Int) then (if 0 ≤ x6 then (if x6 < (x5.length : Int) then (laws_toStringSg.l0 k x0 (x5.set (x6 : Int).toNat (rdOf ByteArray.empty x0 x6)) (wrap64 (x6 + 1))) else (none)) else (none)) else (laws_toStringSg.l1 k x0 x5 (x0.length : Int))
def laws_toStringSg.l1 : Nat → List ByteArray → List ByteArray → Int → Option (List ByteArray)
 | 0, _, _, _ => none
 | k + 1, x0, x5, x7 => if x7 < (x5.length : Int) then (if 0 ≤ x7 then (laws_toStringSg.l1 k x0 (x5.set (x7 : Int).toNat (⟨#[126, 115, 112, 97, 114, 101, 126]⟩ : ByteArray)) (wrap64 (x7 + 1))) else (none)) else (if 0 ≤ (x0.length : Int) then (if (x0.length : Int) ≤ (x5.length : Int) then (some x5) else (none)) else (none))
end
def laws_toStringSg.f (k : Nat) (l0 : List ByteArray) (a1 : Bool) : Option (List ByteArray) := if a1 = true then (laws_toStringSg.j0 k l0 ((l0.length : Int) == 0)) else (laws_toStringSg.j0 k l0 false)
theorem laws_toStringSg.mono_l : ∀ k, (∀ y0 y1, LeO (laws_toStringSg.j0 k y0 y1) (laws_toStringSg.j0 (k + 1) y0 y1)) ∧ (∀ y0 y1 y2, LeO (laws_toStringSg.l0 k y0 y1 y2) (laws_toStringSg.l0 (k + 1) y0 y1 y2)) ∧ (∀ y0 y1 y2, LeO (laws_toStringSg.l1 k y0 y1 y2) (laws_toStringSg.l1 (k + 1) y0 y1 y2))
 | 0 => ⟨fun _ _ r h => by simp [laws_toStringSg.j0] at h, fun _ _ _ r h => by simp [laws_toStringSg.l0] at h, fun _ _ _ r h => by simp [laws_toStringSg.l1] at h⟩
 | k + 1 => by
  obtain ⟨ih0, ih1, ih2⟩ := laws_toStringSg.mono_l k; refine ⟨?_, ?_, ?_⟩
  ·intro y0 y1; unfold laws_toStringSg.j0
   repeat' first
   | (with_reducible exact ih0 _ _)
   | (with_reducible exact ih1 _ _ _)
   | (with_reducible exact ih2 _ _ _)
   | (with_reducible exact LeO.refl _)
   | (with_reducible exact LeO.none _)
   | (with_reducible refine LeO.ite ?_ ?_)
   | (with_reducible refine LeO.bind ?_ (fun _ => ?_))
   | exact ih0 _ _
   | exact ih1 _ _ _
   | exact ih2 _ _ _
   | exact LeO.none _
   | refine LeO.ite ?_ ?_
   | refine LeO.bind ?_ (fun _ => ?_)
  ·intro y0 y1 y2; unfold laws_toStringSg.l0
   repeat' first
   | (with_reducible exact ih0 _ _)
   | (with_reducible exact ih1 _ _ _)
   | (with_reducible exact ih2 _ _ _)
   | (with_reducible exact LeO.refl _)
   | (with_reducible exact LeO.none _)
   | (with_reducible refine LeO.ite ?_ ?_)
   | (with_reducible refine LeO.bind ?_ (fun _ => ?_))
   | exact ih0 _ _
   | exact ih1 _ _ _
   | exact ih2 _ _ _
   | exact LeO.none _
   | refine LeO.ite ?_ ?_
   | refine LeO.bind ?_ (fun _ => ?_)
  ·intro y0 y1 y2; unfold laws_toStringSg.l1
   repeat' first
   | (with_reducible exact ih0 _ _)
   | (with_reducible exact ih1 _ _ _)
   | (with_reducible exact ih2 _ _ _)
   | (with_reducible exact LeO.refl _)
   | (with_reducible exact LeO.none _)
   | (with_reducible refine LeO.ite ?_ ?_)
   | (with_reducible refine LeO.bind ?_ (fun _ => ?_))
   | exact ih0 _ _
   | exact ih1 _ _ _
   | exact ih2 _ _ _
   | exact LeO.none _
   | refine LeO.ite ?_ ?_
   | refine LeO.bind ?_ (fun _ => ?_)
theorem laws_toStringSg.mono : ∀ a0 a1 k, LeO (laws_toStringSg.f k a0 a1) (laws_toStringSg.f (k + 1) a0 a1) := by
 intro a0 a1 k; obtain ⟨ih0, ih1, ih2⟩ := laws_toStringSg.mono_l k; unfold laws_toStringSg.f
 repeat' first
   | (with_reducible exact ih0 _ _)
   | (with_reducible exact ih1 _ _ _)
   | (with_reducible exact ih2 _ _ _)
   | (with_reducible exact LeO.refl _)
   | (with_reducible exact LeO.none _)
   | (with_reducible refine LeO.ite ?_ ?_)
   | (with_reducible refine LeO.bind ?_ (fun _ => ?_))
   | exact ih0 _ _
   | exact ih1 _ _ _
   | exact ih2 _ _ _
   | exact LeO.none _
   | refine LeO.ite ?_ ?_
   | refine LeO.bind ?_ (fun _ => ?_)
set_option maxHeartbeats 8000000 in
set_option maxRecDepth 100000 in
theorem laws_toStringSg.calls (k : Nat) (A0 : Option Addr) (c0 : Nat) (l0 : List ByteArray) (a1 : Bool) (r : List ByteArray) (w : World) (hr0 : Kd.C Kd.string w A0 l0.length l0) (hc0 : l0.length ≤ c0) (h : laws_toStringSg.f k l0 a1 = some r) :
  Calls Try.prog 64 #[.slice A0 l0.length c0, .bool a1] w fun e w' => ∃ (A_ : Option Addr) (c_ : Nat), e = .returned (.slice A_ (vis l0.length r.length) c_) ∧ Kd.R Kd.string 9 w' w.heap.size (fun _ => True) (.slice A_ r.length c_) r ∧ Below w.heap.size w w' := by
 have HR0 := Aside0.mk hr0; have HC0 := Aside0.mk hc0; clear hr0 hc0; have HB := Aside0.mk (Below.refl w.heap.size w); have H : (if a1 = true then (laws_toStringSg.j0 k l0 ((l0.length : Int) == 0)) else (laws_toStringSg.j0 k l0 false)) = some r := h; clear h; have HC3 := Aside0.mk H; clear H; go_enter Try.func64, Try.ntmps64; go_upto_region 1 with (fail)
 go_cut [13] (fun v13 wc => ∃ (kq : Nat) (x13_2 : Bool), v13 = .bool x13_2 ∧ Aside0 (laws_toStringSg.j0 kq l0 x13_2 = some r) ∧ Aside0 (kq ≤ k) ∧ Aside0 (Below w.heap.size w wc))
 case first =>
  have H := HC3.out; clear HC3; by_cases c4 : a1 = true
  ·subst c4; have H1 : (laws_toStringSg.j0 k l0 ((l0.length : Int) == 0)) = some r := by rw [if_pos rfl] at H; exact H
   clear H; have H := H1; clear H1; have H' := Aside0.mk H; clear H; go_wp2
   go_meet
   case rel => exact ⟨_, (((l0.length : Int) == 0)), (by first | rfl | (simp; done) | (simp [*]; done)), H', ⟨by first | omega | exact Nat.le_refl _⟩, ⟨vb HB.out⟩⟩
  ·replace c4 := Bool.eq_false_iff.mpr c4; subst c4; have H1 : (laws_toStringSg.j0 k l0 false) = some r := by rw [if_neg (show ¬ (false = true) by decide)] at H; exact H
   clear H; have H := H1; clear H1; have H' := Aside0.mk H; clear H; go_wp2
   go_meet
   case rel => exact ⟨_, (false), (by first | rfl | (simp; done) | (simp [*]; done)), H', ⟨by first | omega | exact Nat.le_refl _⟩, ⟨vb HB.out⟩⟩
 case rest =>
  clear HC3; (try clear p2); (try clear c4); obtain ⟨kq, x13_2, rfl, HA, HJ2, HB⟩ := hcut
  cases kq with
  | zero => exact absurd HA.out (by simp [laws_toStringSg.j0])
  | succ kj2 =>
   have H := HA.out; clear HA; simp only [laws_toStringSg.j0] at H
   by_cases c5 : x13_2 = true
   ·subst c5; have H1 : (some ([] : List ByteArray)) = some r := by rw [if_pos rfl] at H; exact H
    clear H; have H := H1; clear H1; obtain rfl := Option.some.inj H; go_wp2
    go_ret
    exact ⟨none, 0, by first | (rw [vis_zero]; rfl) | (simp only [List.length_nil, vis_zero]; rfl), Kd.R_nil _ _ _ _ _, vb HB.out⟩
   ·replace c5 := Bool.eq_false_iff.mpr c5; subst c5; have H1 : ((laws_roomBehind.f (l0.length : Int)).bind fun t193 => (if 0 ≤ (wrap64 ((l0.length : Int) + t193)) then (if (wrap64 ((l0.length : Int) + t193) : Int).toNat ≤ 17592186044416 then (laws_toStringSg.l0 kj2 l0 (List.replicate (wrap64 ((l0.length : Int) + t193) : Int).toNat (⟨#[]⟩ : ByteArray)) 0) else (none)) else (none))) = some r := by rw [if_neg (show ¬ (false = true) by decide)] at H; exact H
    clear H; have H := H1; clear H1; replace H := Option.bind_eq_some_iff.mp H; obtain ⟨t193, A60, H⟩ := H; replace H : (if 0 ≤ (wrap64 ((l0.length : Int) + t193)) then (if (wrap64 ((l0.length : Int) + t193) : Int).toNat ≤ 17592186044416 then (laws_toStringSg.l0 kj2 l0 (List.replicate (wrap64 ((l0.length : Int) + t193) : Int).toNat (⟨#[]⟩ : ByteArray)) 0) else (none)) else (none)) = some r := H; have A6 := Aside0.mk A60; clear A60; obtain ⟨ji7, hji7⟩ : ∃ j_ : Int, (wrap64 ((l0.length : Int) + t193)) = j_ := ⟨_, rfl⟩; replace H : (if 0 ≤ (ji7) then (if (ji7 : Int).toNat ≤ 17592186044416 then (laws_toStringSg.l0 kj2 l0 (List.replicate (ji7 : Int).toNat (⟨#[]⟩ : ByteArray)) 0) else (none)) else (none)) = some r := by first | (rw [hji7] at H; exact H) | (simp only [hji7] at H ⊢; exact H)
    (try rw [hji7] at A6)
    have hji7w : (IntKind.i64.wrap ((l0.length : Int) + t193)) = ji7 := (i64_w _).trans hji7; by_cases c8 : 0 ≤ (ji7)
    ·rw [if_pos c8] at H; have c8b0 := eq_true c8; have c8b1 : decide (0 ≤ (ji7)) = true := decide_eq_true c8; clear c8; by_cases c9 : (ji7 : Int).toNat ≤ 17592186044416
     ·rw [if_pos c9] at H; have c9b0 := eq_true c9; have c9b1 : decide ((ji7 : Int).toNat ≤ 17592186044416) = true := decide_eq_true c9; clear c9; obtain ⟨y194, hy194⟩ : ∃ y_ : List ByteArray, y_ = (List.replicate (ji7 : Int).toNat (⟨#[]⟩ : ByteArray)) := ⟨_, rfl⟩; replace H : (laws_toStringSg.l0 kj2 l0 y194 0) = some r := by first | (rw [hy194]; with_reducible exact H) | (have H2_ := (Option.bind_some _ _).symm.trans H; rw [hy194]; with_reducible exact H2_) | (have H2_ := (Option.bind_some _ _).symm.trans H; with_reducible exact H2_) | with_reducible exact H | (rw [hy194]; exact H) | exact H
      have Ny194 := Aside0.mk hy194; clear hy194; have H' := Aside0.mk H; clear H; go_wp2_with (first | ((with_reducible refine at_fn (f := 60) rfl ?_); refine gl (some 18) Try.func60 #[.int .i64 (l0.length : Int)] ?_; (with_reducible refine (laws_roomBehind.calls (l0.length : Int) t193 _ A6.out).mono ?_); rintro e w' ⟨rfl, ⟨nd, rfl⟩⟩; refine ⟨_, rfl, ?_⟩) | ((with_reducible refine gate_dst (N := 20) rfl ?_); (try (refine gate_guard (by rfl) ?_; dsimp only)); refine Kd.R_make Kd.string _ 9 rfl (N := 20) rfl 24 _ _ rfl ji7 rfl rfl Try.underlying24 (.string ⟨#[]⟩) 16 info9 rfl (by decide) (by omega) (⟨#[]⟩ : ByteArray) (ok := fun _ => True) (okp := fun _ => True) rfl (fun _ hk => hk) trivial (od) (Nat.le_trans (Nat.mul_le_mul_right _ (od : ji7.toNat ≤ 17592186044416)) (by omega)) (Below.refl _ _) (Nat.le_refl _) ?_; intro v195 w10 ho11 hb hg_ hnew_; clear hg_ hnew_; (first | rw [← Ny194.out] at ho11 | (simp only [Int.reduceToNat] at ho11; rw [← Ny194.out] at ho11)); have HO196 := Aside0.mk (Kd.R_lower ho11 (below_size (vb HB.out))); replace HB := Aside0.mk (below_step (vb HB.out) hb); clear hb ho11))
      go_loopg [6] kj2 (fun kq v6 w' => ∃ (x5_2 : List ByteArray) (x6_2 : Int), v6 = .int .i64 x6_2 ∧ Aside0 (laws_toStringSg.l0 kq l0 x5_2 x6_2 = some r) ∧ Aside0 (kq ≤ kj2) ∧ Aside0 (Kd.R Kd.string 9 w' w.heap.size (fun _ => True) v195 x5_2) ∧ Aside0 (Below w.heap.size w w'))
      case atStart => exact ⟨(y194), (0), (by first | rfl | (simp; done) | (simp [*]; done)), H', ⟨Nat.le_refl _⟩, ⟨by (with_reducible repeat (first | apply Kd.R_alloc | apply Kd.R_drewN | apply Kd.R_drew)); exact HO196.out⟩, ⟨vb HB.out⟩⟩
      case round =>
       clear H'; (try clear p2); (try clear c4); (try clear c5); (try clear c6); (try clear p6); (try clear c8); (try clear c8b0); (try clear c8b1); (try clear c9); (try clear c9b0); (try clear c9b1); (try clear p2); obtain ⟨x5_2, x6_2, rfl, HA, HK2, HO_5, HB⟩ := hrel
       cases gk with
       | zero => exact absurd HA.out (by simp [laws_toStringSg.l0])
       | succ k2 =>
        have H := HA.out; clear HA; simp only [laws_toStringSg.l0] at H
        by_cases c12 : x6_2 < (l0.length : Int)
        ·rw [if_pos c12] at H; have c12b0 : decide (x6_2 < (l0.length : Int)) = true := decide_eq_true c12; clear c12; by_cases c13 : 0 ≤ x6_2
         ·rw [if_pos c13] at H; have c13b0 : decide (0 ≤ x6_2) = true := decide_eq_true c13; clear c13; by_cases c14 : x6_2 < (x5_2.length : Int)
          ·rw [if_pos c14] at H; have c14b0 : decide (x6_2 < (x5_2.length : Int)) = true := decide_eq_true c14; clear c14; obtain ⟨y198, hy198⟩ : ∃ y_ : List ByteArray, y_ = (x5_2.set (x6_2 : Int).toNat (rdOf ByteArray.empty l0 x6_2)) := ⟨_, rfl⟩; replace H : (laws_toStringSg.l0 k2 l0 y198 (wrap64 (x6_2 + 1))) = some r := by first | (rw [hy198]; with_reducible exact H) | (have H2_ := (Option.bind_some _ _).symm.trans H; rw [hy198]; with_reducible exact H2_) | (have H2_ := (Option.bind_some _ _).symm.trans H; with_reducible exact H2_) | with_reducible exact H | (rw [hy198]; exact H) | exact H
           have Ny198 := Aside0.mk hy198; clear hy198; have H' := Aside0.mk H; clear H; have p197 : 0 ≤ (x6_2 : Int) := od; have q197 : x6_2 < (l0.length : Int) := od; obtain ⟨ad197, e197, hx197_0⟩ := Kd.at_string HR0.out x6_2 p197 q197
           cases e197; replace hx197_0 := cb HB.out hx197_0; replace p197 := eq_true p197; replace q197 := eq_true q197; have p15 : 0 ≤ (x6_2 : Int) := od; have q15 : (x6_2 : Int) < ((x5_2.length : Int) : Int) := od; obtain ⟨go15, co15, eo15, gb15, gl15, cl15, HG15⟩ := Kd.R_form HO_5.out (by omega); (first | cases eo15 | (injection eo15 with ea_ en_ ec_; (first | subst ea_ | (injection ea_ with ea_; subst ea_)); subst ec_; clear en_))
           have GB15 := Aside0.mk gb15; have GG15 := Aside0.mk HG15; clear gb15 gl15 HG15; obtain ⟨hx15_0, hf15_0⟩ := Kd.R_celln (⟨#[]⟩ : ByteArray) HO_5.out (x6_2 : Int) p15 q15; replace p15 := eq_true p15; replace q15 := eq_true q15; have HP16 := Kd.R_putg HO_5.out (x6_2 : Int) (rdOf ByteArray.empty l0 x6_2); go_wp2_with (first | ((with_reducible refine gate_store (t := 9) (p := 33) rfl ?_); refine store_event (t := 9) (p := 33) (v := ?vo_w17) (w1 := (wr.setCell ⟨go15, (x6_2 : Int).toNat, none⟩ (.string (rdOf ByteArray.empty l0 x6_2)))) ?hg ?ho ?hn ?hr ?_; (case ho => rfl); (case hg => rfl); (case hn => rfl); (case hr => first | (go_simp; done) | (go_simp; rfl)); intro w17 hw; have hg : wr.grownBy w17 (some go15) := (by rw [hw]; exact HP16.2); have hp_ : Kd.R Kd.string 9 w17 w.heap.size (fun _ => True) (.slice (some ⟨go15, 0, none⟩) x5_2.length co15) y198 := (by rw [hw, Ny198.out]; exact HP16.1); clear HP16; replace HO_5 := Aside0.mk (hp_); replace HB := Aside0.mk ((by rw [hw]; exact below_set (HB.out) GB15.out : Below w.heap.size w w17)); clear hg hw hp_))
           go_roundg k2
           case measure => have := HJ2.out; have := HK2.out; omega
           case rel => exact ⟨(y198), (wrap64 (x6_2 + 1)), (by first | rfl | (simp; done) | (simp [*]; done)), H', ⟨by have := HJ2.out; have := HK2.out; omega⟩, ⟨by (with_reducible repeat (first | apply Kd.R_alloc | apply Kd.R_drewN | apply Kd.R_drew)); exact HO_5.out⟩, ⟨vb HB.out⟩⟩
          ·rw [if_neg c14] at H; exact absurd H (by simp)
         ·rw [if_neg c13] at H; exact absurd H (by simp)
        ·rw [if_neg c12] at H; have c12b0 : decide (x6_2 < (l0.length : Int)) = false := decide_eq_false c12; clear c12; have H' := Aside0.mk H; clear H; go_wp2
         go_loopg [7] k2 (fun kq v7 w' => ∃ (x5_3 : List ByteArray) (x7_3 : Int), v7 = .int .i64 x7_3 ∧ Aside0 (laws_toStringSg.l1 kq l0 x5_3 x7_3 = some r) ∧ Aside0 (kq ≤ k2) ∧ Aside0 (Kd.R Kd.string 9 w' w.heap.size (fun _ => True) v195 x5_3) ∧ Aside0 (Below w.heap.size w w'))
         case atStart => exact ⟨(x5_2), ((l0.length : Int)), (by first | rfl | (simp; done) | (simp [*]; done)), H', ⟨Nat.le_refl _⟩, ⟨by (with_reducible repeat (first | apply Kd.R_alloc | apply Kd.R_drewN | apply Kd.R_drew)); exact HO_5.out⟩, ⟨vb HB.out⟩⟩
         case round =>
          clear H'; (try clear c1); (try clear p1); (try clear q1); (try clear hx1); (try clear p2); (try clear c4); (try clear c5); (try clear c6); (try clear p6); (try clear c8); (try clear c8b0); (try clear c8b1); (try clear c9); (try clear c9b0); (try clear c9b1); (try clear c12); (try clear c12b0); (try clear c13); (try clear c13b0); (try clear c14); (try clear c14b0); (try clear p15); (try clear q15); (try clear hx15); (try clear hf15); (try clear hx15_0); (try clear hx197_0); (try clear p15); (try clear p197); (try clear p2); (try clear p6); (try clear q15); (try clear q197); obtain ⟨x5_3, x7_3, rfl, HA, HK3, HO_5, HB⟩ := hrel
          cases gk with
          | zero => exact absurd HA.out (by simp [laws_toStringSg.l1])
          | succ k3 =>
           have H := HA.out; clear HA; simp only [laws_toStringSg.l1] at H
           by_cases c18 : x7_3 < (x5_3.length : Int)
           ·rw [if_pos c18] at H; have c18b0 : decide (x7_3 < (x5_3.length : Int)) = true := decide_eq_true c18; clear c18; by_cases c19 : 0 ≤ x7_3
            ·rw [if_pos c19] at H; have c19b0 : decide (0 ≤ x7_3) = true := decide_eq_true c19; clear c19; obtain ⟨y199, hy199⟩ : ∃ y_ : List ByteArray, y_ = (x5_3.set (x7_3 : Int).toNat (⟨#[126, 115, 112, 97, 114, 101, 126]⟩ : ByteArray)) := ⟨_, rfl⟩; replace H : (laws_toStringSg.l1 k3 l0 y199 (wrap64 (x7_3 + 1))) = some r := by first | (rw [hy199]; with_reducible exact H) | (have H2_ := (Option.bind_some _ _).symm.trans H; rw [hy199]; with_reducible exact H2_) | (have H2_ := (Option.bind_some _ _).symm.trans H; with_reducible exact H2_) | with_reducible exact H | (rw [hy199]; exact H) | exact H
             have Ny199 := Aside0.mk hy199; clear hy199; have H' := Aside0.mk H; clear H; obtain ⟨Ao21, co21, eo21⟩ := Kd.R_slice HO_5.out; subst eo21; have p20 : 0 ≤ (x7_3 : Int) := od; have q20 : (x7_3 : Int) < ((x5_3.length : Int) : Int) := od; obtain ⟨go20, co20, eo20, gb20, gl20, cl20, HG20⟩ := Kd.R_form HO_5.out (by omega); (first | cases eo20 | (injection eo20 with ea_ en_ ec_; (first | subst ea_ | (injection ea_ with ea_; subst ea_)); subst ec_; clear en_))
             have GB20 := Aside0.mk gb20; have GG20 := Aside0.mk HG20; clear gb20 gl20 HG20; obtain ⟨hx20_0, hf20_0⟩ := Kd.R_celln (⟨#[]⟩ : ByteArray) HO_5.out (x7_3 : Int) p20 q20; replace p20 := eq_true p20; replace q20 := eq_true q20; have HP22 := Kd.R_putg HO_5.out (x7_3 : Int) (⟨#[126, 115, 112, 97, 114, 101, 126]⟩ : ByteArray); go_wp2_with (first | ((with_reducible refine gate_store (t := 9) (p := 44) rfl ?_); refine store_event (t := 9) (p := 44) (v := ?vo_w23) (w1 := (wr.setCell ⟨go20, (x7_3 : Int).toNat, none⟩ (.string (⟨#[126, 115, 112, 97, 114, 101, 126]⟩ : ByteArray)))) ?hg ?ho ?hn ?hr ?_; (case ho => rfl); (case hg => rfl); (case hn => rfl); (case hr => first | (go_simp; done) | (go_simp; rfl)); intro w23 hw; have hg : wr.grownBy w23 (some go20) := (by rw [hw]; exact HP22.2); have hp_ : Kd.R Kd.string 9 w23 w.heap.size (fun _ => True) (.slice (some ⟨go20, 0, none⟩) x5_3.length co21) y199 := (by rw [hw, Ny199.out]; exact HP22.1); clear HP22; replace HO_5 := Aside0.mk (hp_); replace HB := Aside0.mk ((by rw [hw]; exact below_set (HB.out) GB20.out : Below w.heap.size w w23)); clear hg hw hp_))
             go_roundg k3
             case measure => have := HJ2.out; have := HK2.out; have := HK3.out; omega
             case rel => exact ⟨(y199), (wrap64 (x7_3 + 1)), (by first | rfl | (simp; done) | (simp [*]; done)), H', ⟨by have := HJ2.out; have := HK2.out; have := HK3.out; omega⟩, ⟨by (with_reducible repeat (first | apply Kd.R_alloc | apply Kd.R_drewN | apply Kd.R_drew)); exact HO_5.out⟩, ⟨vb HB.out⟩⟩
            ·rw [if_neg c19] at H; exact absurd H (by simp)
           ·rw [if_neg c18] at H; have c18b0 : decide (x7_3 < (x5_3.length : Int)) = false := decide_eq_false c18; clear c18; by_cases c24 : 0 ≤ (l0.length : Int)
            ·rw [if_pos c24] at H; have c24b0 := eq_true c24; have c24b1 : decide (0 ≤ (l0.length : Int)) = true := decide_eq_true c24; clear c24; by_cases c25 : (l0.length : Int) ≤ (x5_3.length : Int)
             ·rw [if_pos c25] at H; have c25b0 := eq_true c25; have c25b1 : decide ((l0.length : Int) ≤ (x5_3.length : Int)) = true := decide_eq_true c25; clear c25; obtain ⟨y200, hy200⟩ : ∃ y_ : List ByteArray, y_ = (x5_3.take ((l0.length : Int) : Int).toNat) := ⟨_, rfl⟩; have Ny200 := Aside0.mk hy200; clear hy200; obtain rfl := Option.some.inj H; obtain ⟨Ao26, co26, eo26⟩ := Kd.R_slice HO_5.out; subst eo26; have q27 : ((l0.length : Int) : Int) ≤ ((x5_3.length : Int) : Int) := od; obtain ⟨i027, hi027, _, hsz27, _⟩ := info_parts info9; have hcut27 := cut_to (P := Try.prog) 24 9 .i64 Try.underlying24 hi027 Ao26 x5_3.length co26 (l0.length : Int) (od) q27 (Kd.R_reads' HO_5.out).2.1; have hr27 := Kd.R_take (m := ((l0.length : Int) : Int).toNat) HO_5.out (by omega); have hy27 : y200.length = ((l0.length : Int) : Int).toNat := (by rw [Ny200.out, List.length_take]; omega); rw [← Ny200.out] at hr27; rw [← hy27] at hr27 hcut27; clear hy27 hi027 hsz27; have HO202 := Aside0.mk hr27; clear hr27; replace q27 := eq_true q27; go_wp2
              go_ret
              exact ⟨Ao26, co26, (by rw [show vis l0.length x5_3.length = y200.length from by rw [Ny200.out, Int.toNat_natCast, List.length_take]; rfl]; rfl), by (with_reducible repeat (first | apply Kd.R_alloc | apply Kd.R_drewN | apply Kd.R_drew)); exact HO_5.out, vb HB.out⟩
             ·rw [if_neg c25] at H; exact absurd H (by simp)
            ·rw [if_neg c24] at H; exact absurd H (by simp)
     ·rw [if_neg c9] at H; exact absurd H (by simp)
    ·rw [if_neg c8] at H; exact absurd H (by simp)
theorem laws_toStringS.w1 {i n : Nat} (h : i < n) (hn : n ≤ 4000000) : wrap64 ((i : Int) + 1) = ((i + 1 : Nat) : Int) := by unfold wrap64; omega
theorem laws_toStringS.l1_eval (x0 : List ByteArray) (d : Nat) : ∀ (k : Nat) (F : List ByteArray) (i : Nat), x0.length ≤ i → F.length = i + d → F.length ≤ 4000000 → d < k →
  laws_toStringSg.l1 k x0 F (i : Int) = some (F.take i ++ List.replicate d (⟨#[126, 115, 112, 97, 114, 101, 126]⟩ : ByteArray)) := by
 induction d with
 | zero =>
  intro k F i h0 h1 h2 h3; obtain ⟨k, rfl⟩ : ∃ m, k = m + 1 := ⟨k - 1, by omega⟩; simp only [laws_toStringSg.l1]
  rw [if_neg (by omega), if_pos (by omega), if_pos (by omega)]; simp [List.take_of_length_le (show F.length ≤ i by omega)]
 | succ d ih =>
  intro k F i h0 h1 h2 h3; obtain ⟨k, rfl⟩ : ∃ m, k = m + 1 := ⟨k - 1, by omega⟩; have e := ih k (F.set i (⟨#[126, 115, 112, 97, 114, 101, 126]⟩ : ByteArray)) (i + 1) (by omega) (by simp; omega) (by simpa using h2) (by omega); simp only [laws_toStringSg.l1]
  rw [if_pos (by omega), if_pos (by omega), laws_toStringS.w1 (n := F.length) (by omega) h2, Int.toNat_natCast]; refine Eq.trans e ?_; rw [take_succ_set F i (⟨#[126, 115, 112, 97, 114, 101, 126]⟩ : ByteArray) (by omega), List.append_assoc]; rfl
theorem laws_toStringS.l0_eval (x0 : List ByteArray) (d : Nat) : ∀ (k : Nat) (F : List ByteArray) (i : Nat), x0.length = i + d → x0.length ≤ F.length → F.length ≤ 4000000 → d + (F.length - x0.length) + 1 < k →
  laws_toStringSg.l0 k x0 F (i : Int) = some (F.take i ++ (x0.drop i) ++ List.replicate (F.length - x0.length) (⟨#[126, 115, 112, 97, 114, 101, 126]⟩ : ByteArray)) := by
 induction d with
 | zero =>
  intro k F i h0 h1 h2 h3; obtain ⟨k, rfl⟩ : ∃ m, k = m + 1 := ⟨k - 1, by omega⟩; simp only [laws_toStringSg.l0]
  have hi : i = x0.length := by omega
  subst hi; rw [if_neg (by omega), laws_toStringS.l1_eval x0 (F.length - x0.length) k F x0.length (Nat.le_refl _) (by omega) h2 (by omega)]; simp
 | succ d ih =>
  intro k F i h0 h1 h2 h3; obtain ⟨k, rfl⟩ : ∃ m, k = m + 1 := ⟨k - 1, by omega⟩; have hlt : i < x0.length := by omega
  have e := ih k (F.set i x0[i]) (i + 1) (by omega) (by simpa using h1) (by simpa using h2) (by simp; omega); simp only [laws_toStringSg.l0]
  have hr : rdOf ByteArray.empty x0 (i : Int) = x0[i] := by simp [rdOf, hlt]
  rw [if_pos (by omega), if_pos (by omega), if_pos (by omega), laws_toStringS.w1 (n := F.length) (by omega) h2, Int.toNat_natCast, hr]; refine Eq.trans e ?_; rw [take_succ_set F i x0[i] (by omega), List.length_set, List.drop_eq_getElem_cons hlt]; simp only [List.append_assoc, List.cons_append, List.nil_append]
theorem laws_toStringS.g_eval (l0 : List ByteArray) (a1 : Bool) (h : l0.length ≤ 1000000) : ∃ k, laws_toStringSg.f k l0 a1 = some (if a1 = true ∧ l0 = [] then [] else full l0) := by
 obtain ⟨K, hK⟩ : ∃ K, K = l0.length + roomN l0.length + 5 := ⟨_, rfl⟩; refine ⟨K + 1, ?_⟩; have hr := room_f l0.length; have hl : roomN l0.length ≤ 1000000 := by unfold roomN; (repeat' split) <;> omega
 have hj : laws_toStringSg.j0 (K + 1) l0 false = some (full l0) := by
  simp only [laws_toStringSg.j0]
  rw [if_neg (by decide), hr]; rw [Option.bind_some]; have hw : wrap64 ((l0.length : Int) + ((roomN l0.length : Nat) : Int)) = ((l0.length + roomN l0.length : Nat) : Int) := by unfold wrap64; omega
  rw [hw, if_pos (by omega), if_pos (by omega), Int.toNat_natCast]; have e := laws_toStringS.l0_eval l0 l0.length K (List.replicate (l0.length + roomN l0.length) (⟨#[]⟩ : ByteArray)) 0 (by omega) (by simp) (by simp <;> omega) (by simp <;> omega); refine Eq.trans e ?_; simp [full, Fil.fil]
  try rfl
 unfold laws_toStringSg.f
 by_cases h1 : a1 = true
 ·rw [if_pos h1]; by_cases h2 : l0 = []
  ·subst h2; rw [if_pos ⟨h1, rfl⟩]; simp only [laws_toStringSg.j0]
   rw [if_pos (by decide)]
  ·rw [if_neg (fun h3 => h2 h3.2)]
   have h3 : ((l0.length : Int) == 0) = false := by
    have : l0.length ≠ 0 := fun h4 => h2 (List.length_eq_zero_iff.1 h4)
    rw [beq_eq_false_iff_ne]; omega
   rw [h3]; exact hj
 ·rw [if_neg h1, if_neg (fun h2 => h1 h2.1)]; exact hj
def laws_toStringS.f (_k : Nat) (l0 : List ByteArray) (_a1 : Bool) : Option (List ByteArray) := if l0.length ≤ 1000000 then some l0 else none
theorem laws_toStringS.mono : ∀ a0 a1 k, LeO (laws_toStringS.f k a0 a1) (laws_toStringS.f (k + 1) a0 a1) := fun _ _ _ => LeO.refl _
theorem laws_toStringS.callsF (k : Nat) (A0 : Option Addr) (c0 : Nat) (l0 : List ByteArray) (r : List ByteArray) (w : World) (hr0 : Kd.C Kd.string w A0 l0.length l0) (hc0 : l0.length ≤ c0) (h : laws_toStringS.f k l0 false = some r) :
  Calls Try.prog 64 #[.slice A0 l0.length c0, .bool false] w fun e w' => ∃ v0_ : Value, e = .returned (v0_) ∧ Kd.P Kd.string 9 w' w.heap.size (fun _ => True) v0_ r ∧ Below w.heap.size w w' := by
 unfold laws_toStringS.f at h
 split at h
 ·rename_i hl
  obtain rfl := Option.some.inj h; obtain ⟨k', hk⟩ := laws_toStringS.g_eval l0 false hl; rw [if_neg (fun h2 => absurd h2.1 (by decide))] at hk; refine (laws_toStringSg.calls k' A0 c0 l0 false _ w hr0 hc0 hk).mono ?_; rintro e w' ⟨A_, c_, rfl, h1, h2⟩; refine ⟨_, rfl, ⟨fun _ _ => trivial, A_, c_, ?_, h1⟩, h2⟩; first | (rw [vis_le (by simp [full])]; done) | (rw [vis_le (by simp [full])]; simp)
 ·exact absurd h (by simp)
theorem laws_toStringS.calls (k : Nat) (A0 : Option Addr) (c0 : Nat) (l0 : List ByteArray) (a1 : Bool) (r : List ByteArray) (w : World) (hr0 : Kd.C Kd.string w A0 l0.length l0) (hc0 : l0.length ≤ c0) (h : laws_toStringS.f k l0 a1 = some r) :
  Calls Try.prog 64 #[.slice A0 l0.length c0, .bool a1] w fun e w' => ∃ v0_ : Value, e = .returned (v0_) ∧ Kd.R Kd.string 9 w' w.heap.size (fun _ => True) v0_ r ∧ Below w.heap.size w w' := by
 unfold laws_toStringS.f at h
 split at h
 ·rename_i hl
  obtain rfl := Option.some.inj h; obtain ⟨k', hk⟩ := laws_toStringS.g_eval l0 a1 hl; refine (laws_toStringSg.calls k' A0 c0 l0 a1 _ w hr0 hc0 hk).mono ?_; rintro e w' ⟨A_, c_, rfl, h1, h2⟩; refine ⟨_, rfl, ?_, h2⟩; by_cases hz : a1 = true ∧ l0 = []
  ·obtain ⟨rfl, rfl⟩ := hz; rw [if_pos ⟨rfl, rfl⟩] at h1 ⊢; simpa [vis_zero] using h1
  ·rw [if_neg hz] at h1 ⊢; have := Kd.R_take h1 (m := l0.length) (by simp [full]); rw [vis_le (by simp [full])]; simpa [full] using this
 ·exact absurd h (by simp)

/-! ### impl_articleOf: function 72 -/
def impl_articleOf.l0 : Nat → ByteArray → List (S67) → Int → Int → Option (Int)
 | 0, _, _, _, _ => none
 | k + 1, x1, x7, x8, x9 => if x9 < x8 then (if 0 ≤ x9 then (if x9 < (x7.length : Int) then (if ((rd_T67 x7 x9).f0).toList = x1.toList then (some x9) else (impl_articleOf.l0 k x1 x7 x8 (wrap64 (x9 + 1)))) else (none)) else (none)) else (some (-1))
def impl_articleOf.f (k : Nat) (l0 : List (S67)) (a1 : ByteArray) : Option (Int) := impl_articleOf.l0 k a1 l0 (l0.length : Int) 0
theorem impl_articleOf.mono_l : ∀ k, (∀ y0 y1 y2 y3, LeO (impl_articleOf.l0 k y0 y1 y2 y3) (impl_articleOf.l0 (k + 1) y0 y1 y2 y3))
 | 0 => fun _ _ _ _ r h => by simp [impl_articleOf.l0] at h
 | k + 1 => by
  have ih0 := impl_articleOf.mono_l k
  ·intro y0 y1 y2 y3; unfold impl_articleOf.l0
   repeat' first
   | (with_reducible exact ih0 _ _ _ _)
   | (with_reducible exact LeO.refl _)
   | (with_reducible exact LeO.none _)
   | (with_reducible refine LeO.ite ?_ ?_)
   | (with_reducible refine LeO.bind ?_ (fun _ => ?_))
   | exact ih0 _ _ _ _
   | exact LeO.none _
   | refine LeO.ite ?_ ?_
   | refine LeO.bind ?_ (fun _ => ?_)
theorem impl_articleOf.mono : ∀ a0 a1 k, LeO (impl_articleOf.f k a0 a1) (impl_articleOf.f (k + 1) a0 a1) := by
 intro a0 a1 k; have ih0 := impl_articleOf.mono_l k; unfold impl_articleOf.f
 repeat' first
   | (with_reducible exact ih0 _ _ _ _)
   | (with_reducible exact LeO.refl _)
   | (with_reducible exact LeO.none _)
   | (with_reducible refine LeO.ite ?_ ?_)
   | (with_reducible refine LeO.bind ?_ (fun _ => ?_))
   | exact ih0 _ _ _ _
   | exact LeO.none _
   | refine LeO.ite ?_ ?_
   | refine LeO.bind ?_ (fun _ => ?_)
set_option maxHeartbeats 8000000 in
set_option maxRecDepth 100000 in
theorem impl_articleOf.calls (k : Nat) (A0 : Option Addr) (c0 : Nat) (l0 : List (S67)) (a1 : ByteArray) (r : Int) (w : World) (hr0 : Kd.C k67 w A0 l0.length l0) (hc0 : l0.length ≤ c0) (h : impl_articleOf.f k l0 a1 = some r) :
  Calls Try.prog 72 #[.slice A0 l0.length c0, .string a1] w fun e w' => e = .returned (.int .i64 r) ∧ Below w.heap.size w w' := by
 have hu67 := Try.underlying67; have HR0 := Aside0.mk hr0; have HC0 := Aside0.mk hc0; clear hr0 hc0; have HB := Aside0.mk (Below.refl w.heap.size w); have H : (impl_articleOf.l0 k a1 l0 (l0.length : Int) 0) = some r := h; clear h; have H' := Aside0.mk H; clear H; go_enter Try.func72, Try.ntmps72; go_wp2
 go_loopg [9] k (fun kq v9 w' => ∃ (x9_1 : Int), v9 = .int .i64 x9_1 ∧ Aside0 (impl_articleOf.l0 kq a1 l0 (l0.length : Int) x9_1 = some r) ∧ Aside0 (kq ≤ k) ∧ Aside0 (Below w.heap.size w w'))
 case atStart => exact ⟨(0), (by first | rfl | (simp; done) | (simp [*]; done)), H', ⟨Nat.le_refl _⟩, ⟨vb HB.out⟩⟩
 case round =>
  clear H'; (try clear p2); obtain ⟨x9_1, rfl, HA, HK1, HB⟩ := hrel
  cases gk with
  | zero => exact absurd HA.out (by simp [impl_articleOf.l0])
  | succ k1 =>
   have H := HA.out; clear HA; simp only [impl_articleOf.l0] at H
   by_cases c3 : x9_1 < (l0.length : Int)
   ·rw [if_pos c3] at H; have c3b0 : decide (x9_1 < (l0.length : Int)) = true := decide_eq_true c3; clear c3; by_cases c4 : 0 ≤ x9_1
    ·rw [if_pos c4] at H; have c4b0 : decide (0 ≤ x9_1) = true := decide_eq_true c4; clear c4; by_cases c5 : x9_1 < (l0.length : Int)
     ·rw [if_pos c5] at H; have c5b0 : decide (x9_1 < (l0.length : Int)) = true := decide_eq_true c5; clear c5; by_cases c6 : ((rd_T67 l0 x9_1).f0).toList = a1.toList
      ·rw [if_pos c6] at H; have c6b0 : (((rd_T67 l0 x9_1).f0).toList == a1.toList) = true := beq_iff_eq.mpr c6; have c6b1 : (((rd_T67 l0 x9_1).f0).toList != a1.toList) = false := bne_eq_false_iff_eq.mpr c6; clear c6; obtain rfl := Option.some.inj H; have p212 : 0 ≤ (x9_1 : Int) := od; have q212 : x9_1 < (l0.length : Int) := od; obtain ⟨ad212, e212, hx212_0, hx212_1, hx212_2, hx212_3, hx212_4, hx212_5, hx212_6, hx212_7, hx212_8⟩ := at_T67 HR0.out x9_1 p212 q212
       cases e212; replace hx212_0 := cb HB.out hx212_0; replace hx212_1 := cb HB.out hx212_1; replace hx212_2 := cb HB.out hx212_2; replace hx212_3 := cb HB.out hx212_3; replace hx212_4 := cb HB.out hx212_4; replace hx212_5 := cb HB.out hx212_5; replace hx212_6 := cb HB.out hx212_6; replace hx212_7 := cb HB.out hx212_7; replace hx212_8 := cb HB.out hx212_8; replace p212 := eq_true p212; replace q212 := eq_true q212; go_wp2_with (first | ((with_reducible refine gate_dst (N := 6) rfl ?_); refine bx 6 #[.string (⟨#[]⟩ : ByteArray), .int .i64 0, .int .i64 0, .int .i64 0, .int .i64 0, .int .i64 0, .int .i64 0, .int .i64 0, .int .i64 0] 67 ?_; intro gb213 hg w7 hbox hb; have BK213 := Aside0.mk (hbox); have GW213 := Aside0.mk ((by rw [hg]; exact (below_size (vb HB.out)) : w.heap.size ≤ gb213)); have GE213 := Aside0.mk ((by rw [hg]; exact (below_size (vb HB.out)) : w.heap.size ≤ gb213)); replace HB := Aside0.mk (below_step (vb HB.out) hb); clear hb hbox hg; obtain ⟨hcz8_0, hcz8_1, hcz8_2, hcz8_3, hcz8_4, hcz8_5, hcz8_6, hcz8_7, hcz8_8, hfz8_0, hfz8_1, hfz8_2, hfz8_3, hfz8_4, hfz8_5, hfz8_6, hfz8_7, hfz8_8⟩ := cz9 BK213.out))
       go_ret
       exact ⟨ew, vb HB.out⟩
      ·rw [if_neg c6] at H; have c6b0 : (((rd_T67 l0 x9_1).f0).toList == a1.toList) = false := beq_eq_false_iff_ne.mpr c6; have c6b1 : (((rd_T67 l0 x9_1).f0).toList != a1.toList) = true := bne_iff_ne.mpr c6; have H' := Aside0.mk H; clear H; have p212 : 0 ≤ (x9_1 : Int) := od; have q212 : x9_1 < (l0.length : Int) := od; obtain ⟨ad212, e212, hx212_0, hx212_1, hx212_2, hx212_3, hx212_4, hx212_5, hx212_6, hx212_7, hx212_8⟩ := at_T67 HR0.out x9_1 p212 q212
       cases e212; replace hx212_0 := cb HB.out hx212_0; replace hx212_1 := cb HB.out hx212_1; replace hx212_2 := cb HB.out hx212_2; replace hx212_3 := cb HB.out hx212_3; replace hx212_4 := cb HB.out hx212_4; replace hx212_5 := cb HB.out hx212_5; replace hx212_6 := cb HB.out hx212_6; replace hx212_7 := cb HB.out hx212_7; replace hx212_8 := cb HB.out hx212_8; replace p212 := eq_true p212; replace q212 := eq_true q212; go_wp2_with (first | ((with_reducible refine gate_dst (N := 6) rfl ?_); refine bx 6 #[.string (⟨#[]⟩ : ByteArray), .int .i64 0, .int .i64 0, .int .i64 0, .int .i64 0, .int .i64 0, .int .i64 0, .int .i64 0, .int .i64 0] 67 ?_; intro gb213 hg w9 hbox hb; have BK213 := Aside0.mk (hbox); have GW213 := Aside0.mk ((by rw [hg]; exact (below_size (vb HB.out)) : w.heap.size ≤ gb213)); have GE213 := Aside0.mk ((by rw [hg]; exact (below_size (vb HB.out)) : w.heap.size ≤ gb213)); replace HB := Aside0.mk (below_step (vb HB.out) hb); clear hb hbox hg; obtain ⟨hcz10_0, hcz10_1, hcz10_2, hcz10_3, hcz10_4, hcz10_5, hcz10_6, hcz10_7, hcz10_8, hfz10_0, hfz10_1, hfz10_2, hfz10_3, hfz10_4, hfz10_5, hfz10_6, hfz10_7, hfz10_8⟩ := cz9 BK213.out))
       go_roundg k1
       case measure => have := HK1.out; omega
       case rel => exact ⟨(wrap64 (x9_1 + 1)), (by first | rfl | (simp; done) | (simp [*]; done)), H', ⟨by have := HK1.out; omega⟩, ⟨vb HB.out⟩⟩
     ·rw [if_neg c5] at H; exact absurd H (by simp)
    ·rw [if_neg c4] at H; exact absurd H (by simp)
   ·rw [if_neg c3] at H; have c3b0 : decide (x9_1 < (l0.length : Int)) = false := decide_eq_false c3; clear c3; obtain rfl := Option.some.inj H; go_wp2
    go_ret
    exact ⟨ew, vb HB.out⟩


/-! ### impl_IsWord: function 126 -/
mutual
def impl_IsWord.j0 : Nat → ByteArray → Bool → Option (Bool)
 | 0, _, _ => none
 | k + 1, x0, x11 => if x11 = true then (some false) else (impl_IsWord.l0 k x0 0)
def impl_IsWord.l0 : Nat → ByteArray → Int → Option (Bool)
 | 0, _, _ => none
 | k + 1, x0, x3 => if x3 < (x0.size : Int) then (if 0 ≤ x3 then (if (bt x0 x3) < 97 then (some false) else (if (bt x0 x3) > 122 then (some false) else (impl_IsWord.l0 k x0 (wrap64 (x3 + 1))))) else (none)) else (some true)
end
def impl_IsWord.f (k : Nat) (a0 : ByteArray) : Option (Bool) := if (a0.size : Int) < 1 then (impl_IsWord.j0 k a0 true) else (impl_IsWord.j0 k a0 (decide ((a0.size : Int) > 16)))
theorem impl_IsWord.mono_l : ∀ k, (∀ y0 y1, LeO (impl_IsWord.j0 k y0 y1) (impl_IsWord.j0 (k + 1) y0 y1)) ∧ (∀ y0 y1, LeO (impl_IsWord.l0 k y0 y1) (impl_IsWord.l0 (k + 1) y0 y1))
 | 0 => ⟨fun _ _ r h => by simp [impl_IsWord.j0] at h, fun _ _ r h => by simp [impl_IsWord.l0] at h⟩
 | k + 1 => by
  obtain ⟨ih0, ih1⟩ := impl_IsWord.mono_l k; refine ⟨?_, ?_⟩
  ·intro y0 y1; unfold impl_IsWord.j0
   repeat' first
   | (with_reducible exact ih0 _ _)
   | (with_reducible exact ih1 _ _)
   | (with_reducible exact LeO.refl _)
   | (with_reducible exact LeO.none _)
   | (with_reducible refine LeO.ite ?_ ?_)
   | (with_reducible refine LeO.bind ?_ (fun _ => ?_))
   | exact ih0 _ _
   | exact ih1 _ _
   | exact LeO.none _
   | refine LeO.ite ?_ ?_
   | refine LeO.bind ?_ (fun _ => ?_)
  ·intro y0 y1; unfold impl_IsWord.l0
   repeat' first
   | (with_reducible exact ih0 _ _)
   | (with_reducible exact ih1 _ _)
   | (with_reducible exact LeO.refl _)
   | (with_reducible exact LeO.none _)
   | (with_reducible refine LeO.ite ?_ ?_)
   | (with_reducible refine LeO.bind ?_ (fun _ => ?_))
   | exact ih0 _ _
   | exact ih1 _ _
   | exact LeO.none _
   | refine LeO.ite ?_ ?_
   | refine LeO.bind ?_ (fun _ => ?_)
theorem impl_IsWord.mono : ∀ a0 k, LeO (impl_IsWord.f k a0) (impl_IsWord.f (k + 1) a0) := by
 intro a0 k; obtain ⟨ih0, ih1⟩ := impl_IsWord.mono_l k; unfold impl_IsWord.f
 repeat' first
   | (with_reducible exact ih0 _ _)
   | (with_reducible exact ih1 _ _)
   | (with_reducible exact LeO.refl _)
   | (with_reducible exact LeO.none _)
   | (with_reducible refine LeO.ite ?_ ?_)
   | (with_reducible refine LeO.bind ?_ (fun _ => ?_))
   | exact ih0 _ _
   | exact ih1 _ _
   | exact LeO.none _
   | refine LeO.ite ?_ ?_
   | refine LeO.bind ?_ (fun _ => ?_)
set_option maxHeartbeats 8000000 in
set_option maxRecDepth 100000 in
theorem impl_IsWord.calls (k : Nat) (a0 : ByteArray) (r : Bool) (w : World) (h : impl_IsWord.f k a0 = some r) :
  Calls Try.prog 126 #[.string a0] w fun e w' => e = .returned (.bool r) ∧ Drawn0 w w' := by
 have H : (if (a0.size : Int) < 1 then (impl_IsWord.j0 k a0 true) else (impl_IsWord.j0 k a0 (decide ((a0.size : Int) > 16)))) = some r := h; clear h; have HC2 := Aside0.mk H; clear H; go_enter Try.func126, Try.ntmps126; go_upto_region 1 with (fail)
 go_cut [11] (fun v11 wc => ∃ (kq : Nat) (x11_1 : Bool), v11 = .bool x11_1 ∧ Aside0 (impl_IsWord.j0 kq a0 x11_1 = some r) ∧ Aside0 (kq ≤ k) ∧ Drawn0 w wc)
 case first =>
  have H := HC2.out; clear HC2; by_cases c3 : (a0.size : Int) < 1
  ·rw [if_pos c3] at H; have c3b0 : decide ((a0.size : Int) < 1) = true := decide_eq_true c3; have c3b1 : decide (a0.size < 1) = true := decide_eq_true (by omega); clear c3; (first | rw [c3b0] | (simp only [i64_w, i32_w]; rw [c3b0]) | skip)
   have H' := Aside0.mk H; clear H; go_wp2
   go_meet
   case rel => exact ⟨_, (true), (by first | rfl | (simp; done) | (simp [*]; done)), H', ⟨by first | omega | exact Nat.le_refl _⟩, by repeat (first | exact Drawn0.refl _ | apply Drawn0.step)⟩
  ·rw [if_neg c3] at H; have c3b0 : decide ((a0.size : Int) < 1) = false := decide_eq_false c3; have c3b1 : decide (a0.size < 1) = false := decide_eq_false (by omega); clear c3; (first | rw [c3b0] | (simp only [i64_w, i32_w]; rw [c3b0]) | skip)
   have H' := Aside0.mk H; clear H; go_wp2
   go_meet
   case rel => exact ⟨_, (decide ((a0.size : Int) > 16)), (by first | rfl | (simp; done) | (simp [*]; done)), H', ⟨by first | omega | exact Nat.le_refl _⟩, by repeat (first | exact Drawn0.refl _ | apply Drawn0.step)⟩
 case rest =>
  clear HC2; (try clear c1); (try clear p2); (try clear c3); (try clear c3b0); (try clear c3b1); obtain ⟨kq, x11_1, rfl, HA, HJ1, ⟨mc1, rfl⟩⟩ := hcut
  cases kq with
  | zero => exact absurd HA.out (by simp [impl_IsWord.j0])
  | succ kj1 =>
   have H := HA.out; clear HA; simp only [impl_IsWord.j0] at H
   by_cases c4 : x11_1 = true
   ·subst c4; have H1 : (some false) = some r := by rw [if_pos rfl] at H; exact H
    clear H; have H := H1; clear H1; obtain rfl := Option.some.inj H; go_wp2
    go_ret
    exact ⟨by first | rfl | (simp; done) | (simp [*]; done), by repeat (first | exact Drawn0.refl _ | apply Drawn0.step)⟩
   ·replace c4 := Bool.eq_false_iff.mpr c4; subst c4; have H1 : (impl_IsWord.l0 kj1 a0 0) = some r := by rw [if_neg (show ¬ (false = true) by decide)] at H; exact H
    clear H; have H := H1; clear H1; have H' := Aside0.mk H; clear H; go_wp2
    go_loopg [3] kj1 (fun kq v3 w' => ∃ (x3_2 : Int), v3 = .int .i64 x3_2 ∧ Aside0 (impl_IsWord.l0 kq a0 x3_2 = some r) ∧ Aside0 (kq ≤ kj1) ∧ Drawn0 w w')
    case atStart => exact ⟨(0), (by first | rfl | (simp; done) | (simp [*]; done)), H', ⟨Nat.le_refl _⟩, by repeat (first | exact Drawn0.refl _ | apply Drawn0.step)⟩
    case round =>
     clear H'; (try clear c1); (try clear p2); (try clear c3); (try clear c3b0); (try clear c3b1); (try clear c4); (try clear p2); obtain ⟨x3_2, rfl, HA, HK2, ⟨m2, rfl⟩⟩ := hrel
     cases gk with
     | zero => exact absurd HA.out (by simp [impl_IsWord.l0])
     | succ k2 =>
      have H := HA.out; clear HA; simp only [impl_IsWord.l0] at H
      by_cases c5 : x3_2 < (a0.size : Int)
      ·rw [if_pos c5] at H; have c5b0 : decide (x3_2 < (a0.size : Int)) = true := decide_eq_true c5; clear c5; by_cases c6 : 0 ≤ x3_2
       ·rw [if_pos c6] at H; have c6b0 : decide (0 ≤ x3_2) = true := decide_eq_true c6; clear c6; by_cases c8 : (bt a0 x3_2) < 97
        ·rw [if_pos c8] at H; have c8b0 : decide ((bt a0 x3_2) < 97) = true := decide_eq_true c8; clear c8; obtain rfl := Option.some.inj H; have p7 : 0 ≤ (x3_2 : Int) := od; have q7 : x3_2 < (a0.size : Int) := od; have hx7 := bt_at a0 x3_2; replace p7 := eq_true p7; replace q7 := eq_true q7; go_wp2
         go_ret
         exact ⟨by first | rfl | (simp; done) | (simp [*]; done), by repeat (first | exact Drawn0.refl _ | apply Drawn0.step)⟩
        ·rw [if_neg c8] at H; have c8b0 : decide ((bt a0 x3_2) < 97) = false := decide_eq_false c8; clear c8; by_cases c10 : (bt a0 x3_2) > 122
         ·rw [if_pos c10] at H; have c10b0 : decide (122 < (bt a0 x3_2)) = true := decide_eq_true c10; clear c10; obtain rfl := Option.some.inj H; have p7 : 0 ≤ (x3_2 : Int) := od; have q7 : x3_2 < (a0.size : Int) := od; have hx7 := bt_at a0 x3_2; replace p7 := eq_true p7; replace q7 := eq_true q7; have p9 : 0 ≤ (x3_2 : Int) := od; have q9 : x3_2 < (a0.size : Int) := od; have hx9 := bt_at a0 x3_2; replace p9 := eq_true p9; replace q9 := eq_true q9; go_wp2
          go_ret
          exact ⟨by first | rfl | (simp; done) | (simp [*]; done), by repeat (first | exact Drawn0.refl _ | apply Drawn0.step)⟩
         ·rw [if_neg c10] at H; have c10b0 : decide (122 < (bt a0 x3_2)) = false := decide_eq_false c10; clear c10; have H' := Aside0.mk H; clear H; have p7 : 0 ≤ (x3_2 : Int) := od; have q7 : x3_2 < (a0.size : Int) := od; have hx7 := bt_at a0 x3_2; replace p7 := eq_true p7; replace q7 := eq_true q7; have p9 : 0 ≤ (x3_2 : Int) := od; have q9 : x3_2 < (a0.size : Int) := od; have hx9 := bt_at a0 x3_2; replace p9 := eq_true p9; replace q9 := eq_true q9; go_wp2
          go_roundg k2
          case measure => have := HJ1.out; have := HK2.out; omega
          case rel => exact ⟨(wrap64 (x3_2 + 1)), (by first | rfl | (simp; done) | (simp [*]; done)), H', ⟨by have := HJ1.out; have := HK2.out; omega⟩, by repeat (first | exact Drawn0.refl _ | apply Drawn0.step)⟩
       ·rw [if_neg c6] at H; exact absurd H (by simp)
      ·rw [if_neg c5] at H; have c5b0 : decide (x3_2 < (a0.size : Int)) = false := decide_eq_false c5; clear c5; obtain rfl := Option.some.inj H; go_wp2
       go_ret
       exact ⟨by first | rfl | (simp; done) | (simp [*]; done), by repeat (first | exact Drawn0.refl _ | apply Drawn0.step)⟩


end Go.Proofs.Ytnfmfebmjlglgaa.Pall
