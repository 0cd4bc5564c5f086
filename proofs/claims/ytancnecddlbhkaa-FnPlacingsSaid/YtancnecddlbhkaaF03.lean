/- Go functions of the program, each as a Lean function, and the proof that each call comes to what the Lean function tells; no condition beyond those that stand there. -/
import Derived.Test.YtancnecddlbhkaaF00
import Derived.Test.YtancnecddlbhkaaSq
import Derived.Test.YtancnecddlbhkaaWApart
import Derived.Test.YtancnecddlbhkaaWLast
import Derived.Test.YtancnecddlbhkaaWMore
import Derived.Test.YtancnecddlbhkaaWTab
import Derived.Test.YtancnecddlbhkaaSpare
import Derived.Test.YtancnecddlbhkaaCm
import Derived.Test.YtancnecddlbhkaaCm4
import Derived.Test.YtancnecddlbhkaaCm3
import Derived.Test.YtancnecddlbhkaaCm6
namespace Go.Proofs.Ytancnecddlbhkaa.Pall
open Go.RowKit Go.Proofs.YtancnecddlbhkaaW.PrintWords Go.Proofs.YtancnecddlbhkaaW.PrintLast Go.Proofs.YtancnecddlbhkaaW.PrintMore
attribute [local go_sem] max2_int min2_int max_two min_two max_three min_three max_four min_four
set_option linter.unusedVariables false
set_option linter.unusedSimpArgs false

/-! ### spec_l16Distance: function 132 -/
def spec_l16Distance.l0 : Nat → List (S98) → Int → Int → Int → Int → Option (Int)
 | 0, _, _, _, _, _ => none
 | k + 1, x0, x1, x2, x7, x8 => if x8 < (x0.length : Int) then (if 0 ≤ x8 then (if ((rd_T98 x0 x8).f0) = x2 then (if ((rd_T98 x0 x8).f1) ≥ x1 then (some ((rd_T98 x0 x8).f2)) else (spec_l16Distance.l0 k x0 x1 x2 (-1) (wrap64 (x8 + 1)))) else (spec_l16Distance.l0 k x0 x1 x2 x7 (wrap64 (x8 + 1)))) else (none)) else (some x7)
def spec_l16Distance.f (k : Nat) (l0 : List (S98)) (a1 : Int) (a2 : Int) : Option (Int) := spec_l16Distance.l0 k l0 a1 a2 0 0
theorem spec_l16Distance.mono_l : ∀ k, (∀ y0 y1 y2 y3 y4, LeO (spec_l16Distance.l0 k y0 y1 y2 y3 y4) (spec_l16Distance.l0 (k + 1) y0 y1 y2 y3 y4))
 | 0 => fun _ _ _ _ _ r h => by simp [spec_l16Distance.l0] at h
 | k + 1 => by
  have ih0 := spec_l16Distance.mono_l k
  ·intro y0 y1 y2 y3 y4; unfold spec_l16Distance.l0
   repeat' (with_reducible first | exact ih0 .. | exact lm | refine LeO.ite ?_ ?_ | refine LeO.bind ?_ (fun _ => ?_))
theorem spec_l16Distance.mono : ∀ a0 a1 a2 k, LeO (spec_l16Distance.f k a0 a1 a2) (spec_l16Distance.f (k + 1) a0 a1 a2) := by
 intro a0 a1 a2 k; have ih0 := spec_l16Distance.mono_l k; unfold spec_l16Distance.f
 repeat' (with_reducible first | exact ih0 .. | exact lm | refine LeO.ite ?_ ?_ | refine LeO.bind ?_ (fun _ => ?_))
set_option maxHeartbeats 8000000 in
set_option maxRecDepth 100000 in
theorem spec_l16Distance.calls (k : Nat) (A0 : Option Addr) (c0 : Nat) (l0 : List (S98)) (a1 : Int) (a2 : Int) (r : Int) (w : World) (hr0 : Kd.C k98 w A0 l0.length l0) (hc0 : l0.length ≤ c0) (h : spec_l16Distance.f k l0 a1 a2 = some r) :
  Calls Try.prog 132 #[.slice A0 l0.length c0, .int .i64 a1, .int .i64 a2] w fun e w' => e = .returned (.int .i64 r) ∧ Drawn0 w w' := by
 have HR0 := ak hr0; have HC0 := ak hc0; clear hr0 hc0; unfold spec_l16Distance.f at h; have H := h; clear h; have H' := ak H; clear H; go_enter Try.func132, Try.ntmps132; go_wp2
 go_loopg [7, 8] k (fun kq v7 v8 w' => ∃ (x7_1 : Int) (x8_1 : Int), v7 = .int .i64 x7_1 ∧ v8 = .int .i64 x8_1 ∧ Aside0 (spec_l16Distance.l0 kq l0 a1 a2 x7_1 x8_1 = some r) ∧ Aside0 (kq ≤ k) ∧ Drawn0 w w')
 case atStart => exact ⟨(0), (0), es, es, H', ⟨Nat.le_refl _⟩, by repeat (first | exact Drawn0.refl _ | apply Drawn0.step)⟩
 case round =>
  clear H'; obtain ⟨x7_1, x8_1, rfl, rfl, HA, HK1, ⟨m1, rfl⟩⟩ := hrel
  cases gk with
  | zero => exact absurd HA.out (by simp [spec_l16Distance.l0])
  | succ k1 =>
   have H := HA.out; clear HA; simp only [spec_l16Distance.l0] at H
   by_cases c4 : x8_1 < (l0.length : Int)
   ·rw [if_pos c4] at H; have c4b0 := decide_eq_true c4; clear c4; by_cases c5 : 0 ≤ x8_1
    ·rw [if_pos c5] at H; have c5b0 := decide_eq_true c5; clear c5; by_cases c6 : ((rd_T98 l0 x8_1).f0) = a2
     ·rw [if_pos c6] at H; have c6b0 : (((rd_T98 l0 x8_1).f0) == a2) = true := beq_iff_eq.mpr c6; have c6b1 : (((rd_T98 l0 x8_1).f0) != a2) = false := bne_eq_false_iff_eq.mpr c6; clear c6; by_cases c7 : ((rd_T98 l0 x8_1).f1) ≥ a1
      ·rw [if_pos c7] at H; have c7b0 := decide_eq_true c7; clear c7; obtain rfl := sj H; have p136 : 0 ≤ (x8_1 : Int) := od; have q136 : x8_1 < (l0.length : Int) := od; obtain ⟨ad136, e136, hx136_0, hx136_1, hx136_2⟩ := at_T98 HR0.out x8_1 p136 q136
       cases e136; replace p136 := eq_true p136; replace q136 := eq_true q136; have p137 : 0 ≤ (x8_1 : Int) := od; have q137 : x8_1 < (l0.length : Int) := od; obtain ⟨ad137, e137, hx137_0, hx137_1, hx137_2⟩ := at_T98 HR0.out x8_1 p137 q137; obtain rfl : ad136 = ad137 := (by injection e137); replace p137 := eq_true p137; replace q137 := eq_true q137; have p138 : 0 ≤ (x8_1 : Int) := od; have q138 : x8_1 < (l0.length : Int) := od; obtain ⟨ad138, e138, hx138_0, hx138_1, hx138_2⟩ := at_T98 HR0.out x8_1 p138 q138; obtain rfl : ad136 = ad138 := (by injection e138); replace p138 := eq_true p138; replace q138 := eq_true q138; go_wp2
       go_ret
       exact ⟨by first | rfl | (simp; done) | (simp [*]; done), by repeat (first | exact Drawn0.refl _ | apply Drawn0.step)⟩
      ·rw [if_neg c7] at H; have c7b0 := decide_eq_false c7; clear c7; have H' := ak H; clear H; have p136 : 0 ≤ (x8_1 : Int) := od; have q136 : x8_1 < (l0.length : Int) := od; obtain ⟨ad136, e136, hx136_0, hx136_1, hx136_2⟩ := at_T98 HR0.out x8_1 p136 q136
       cases e136; replace p136 := eq_true p136; replace q136 := eq_true q136; have p137 : 0 ≤ (x8_1 : Int) := od; have q137 : x8_1 < (l0.length : Int) := od; obtain ⟨ad137, e137, hx137_0, hx137_1, hx137_2⟩ := at_T98 HR0.out x8_1 p137 q137; obtain rfl : ad136 = ad137 := (by injection e137); replace p137 := eq_true p137; replace q137 := eq_true q137; go_wp2
       go_roundg k1
       case measure => have := HK1.out; omega
       case rel => exact ⟨((-1)), (wrap64 (x8_1 + 1)), es, es, H', ⟨by have := HK1.out; omega⟩, by repeat (first | exact Drawn0.refl _ | apply Drawn0.step)⟩
     ·rw [if_neg c6] at H; have c6b0 : (((rd_T98 l0 x8_1).f0) == a2) = false := beq_eq_false_iff_ne.mpr c6; have c6b1 : (((rd_T98 l0 x8_1).f0) != a2) = true := bne_iff_ne.mpr c6; have H' := ak H; clear H; have p136 : 0 ≤ (x8_1 : Int) := od; have q136 : x8_1 < (l0.length : Int) := od; obtain ⟨ad136, e136, hx136_0, hx136_1, hx136_2⟩ := at_T98 HR0.out x8_1 p136 q136
      cases e136; replace p136 := eq_true p136; replace q136 := eq_true q136; go_wp2
      go_roundg k1
      case measure => have := HK1.out; omega
      case rel => exact ⟨(x7_1), (wrap64 (x8_1 + 1)), es, es, H', ⟨by have := HK1.out; omega⟩, by repeat (first | exact Drawn0.refl _ | apply Drawn0.step)⟩
    ·exact nO_ c5 H
   ·rw [if_neg c4] at H; have c4b0 := decide_eq_false c4; clear c4; obtain rfl := sj H; go_wp2
    go_ret
    exact ⟨by first | rfl | (simp; done) | (simp [*]; done), by repeat (first | exact Drawn0.refl _ | apply Drawn0.step)⟩


/-! ### spec_l15Away: function 137 -/
def spec_l15Away.f (a0 : Int) (a1 : Int) (a2 : Int) : Option (Int) := some (mx (mx 0 (wrap64 (a1 - a0))) (wrap64 (a0 - a2)))
set_option maxHeartbeats 8000000 in
set_option maxRecDepth 100000 in
theorem spec_l15Away.calls (a0 : Int) (a1 : Int) (a2 : Int) (r : Int) (w : World) (h : spec_l15Away.f a0 a1 a2 = some r) :
  Calls Try.prog 137 #[.int .i64 a0, .int .i64 a1, .int .i64 a2] w fun e w' => e = .returned (.int .i64 r) ∧ Below w.heap.size w w' := by
 have HB := ak (Below.refl w.heap.size w); unfold spec_l15Away.f at h; have H := h; clear h; obtain ⟨ji4, hji4⟩ : ∃ j_ : Int, (mx 0 (wrap64 (a1 - a0))) = j_ := ⟨_, rfl⟩; replace H : (some (mx (ji4) (wrap64 (a0 - a2)))) = some r := by first | (rw [hji4] at H; exact H) | (simp only [hji4] at H ⊢; exact H)
 (try (have hji4l : 0 ≤ ji4 := by (rw [← hji4]; unfold mx; (repeat' split) <;> omega)))
 (try (have hji4m : 0 ≤ ji4 := by omega))
 have hji4_ : (if 0 < (wrap64 (a1 - a0)) then (wrap64 (a1 - a0)) else 0) = ji4 := hji4; obtain ⟨ji5, hji5⟩ : ∃ j_ : Int, (mx (ji4) (wrap64 (a0 - a2))) = j_ := ⟨_, rfl⟩; replace H : (some ji5) = some r := by first | (rw [hji5] at H; exact H) | (simp only [hji5] at H ⊢; exact H)
 have hji5_ : (if (ji4) < (wrap64 (a0 - a2)) then (wrap64 (a0 - a2)) else (ji4)) = ji5 := hji5; obtain rfl := sj H; go_enter Try.func137, Try.ntmps137; go_wp2
 go_ret
 exact ⟨by first | rfl | (simp [errW_none, errW_some] <;> rfl) | (simp only [← hji4, ← hji5]; first | rfl | (simp [errW_none, errW_some] <;> rfl)) | (simp [*, errW_none, errW_some] <;> rfl), vb HB.out⟩


/-! ### spec_l15Square: function 133 -/
def spec_l15Square.f (a0_0 : Int) (a0_1 : Int) (a0_2 : Int) (a0_3 : Int) (a0_4 : Int) (a1 : Int) (a2 : Int) : Option (Int) := (spec_l15Away.f a1 a0_1 (wrap64 (a0_1 + a0_3))).bind fun t140 => ((spec_l15Away.f a2 a0_2 (wrap64 (a0_2 + a0_4))).bind fun t141 => (some (wrap64 ((wrap64 (t140 * t140)) + (wrap64 (t141 * t141))))))
def spec_l15Square.T1 : Bool × List (List Nat × List Nat) := (true, [([], []), ([], []), ([1], [1]), ([], []), ([3], [3]), ([], []), ([5], [5]), ([4, 6], [4, 6]), ([0, 2, 7], [0, 2, 7]), ([], []), ([], []), ([10], [10]), ([], []), ([12], [12]), ([], []), ([14], [14]), ([13, 15], [13, 15]), ([9, 11, 16, 8], [9, 11, 16]), ([8, 17, 0, 1, 2, 3, 4, 5, 6, 7, 8], [8]), ([17, 18, 0, 1, 2, 3, 4, 5, 6, 7, 8, 9, 10, 11, 12, 13, 14, 15, 16, 17, 18], [17])])
def spec_l15Square.B1 : List Nat := [0, 0, 2, 0, 8, 0, 32, 120, 255, 0, 0, 1024, 0, 4096, 0, 16384, 61440, 131071, 262143, 524287]
theorem spec_l15Square.tab1 : rtab .any (opsOf Try.f133 1) = spec_l15Square.T1 := by kernel_rfl
theorem spec_l15Square.bits1 : waitsOk spec_l15Square.T1.2 spec_l15Square.B1 = true := by kernel_rfl
set_option maxHeartbeats 8000000 in
set_option maxRecDepth 100000 in
theorem spec_l15Square.calls (a0_0 : Int) (a0_1 : Int) (a0_2 : Int) (a0_3 : Int) (a0_4 : Int) (a1 : Int) (a2 : Int) (r : Int) (w : World) (h : spec_l15Square.f a0_0 a0_1 a0_2 a0_3 a0_4 a1 a2 = some r) :
  Calls Try.prog 133 #[.agg #[.int .i64 a0_0, .int .i64 a0_1, .int .i64 a0_2, .int .i64 a0_3, .int .i64 a0_4], .int .i64 a1, .int .i64 a2] w fun e w' => e = .returned (.int .i64 r) ∧ Below w.heap.size w w' := by
 have hu103 := Try.underlying103; have HB := ak (Below.refl w.heap.size w); unfold spec_l15Square.f at h; have H := h; clear h; obtain ⟨t140, A4, H⟩ := bnk H; obtain ⟨t141, A5, H⟩ := bnk H; obtain rfl := sj H; go_enter Try.func133, Try.ntmps133; (try go_wp2_with (first | ((with_reducible refine gate_dst (N := 3) rfl ?_); refine bx 3 #[.int .i64 a0_0, .int .i64 a0_1, .int .i64 a0_2, .int .i64 a0_3, .int .i64 a0_4] 103 ?_; intro gb139 hg w6 hbox hb; have BK139 := ak hbox; have GW139 := gw hg HB; have GE139 := gw hg HB; replace HB := bs HB hb; clear hb hbox hg)))
 replace BK139 := ak (blk_drew BK139.out); replace HB := ak (below_drew1 HB.out); refine start_ (n := 20) (S := fun w' => w'.cell? ⟨gb139, 0, none⟩ = some (.int .i64 a0_0) ∧ w'.cell? ⟨gb139, 1, none⟩ = some (.int .i64 a0_1) ∧ w'.cell? ⟨gb139, 2, none⟩ = some (.int .i64 a0_2) ∧ w'.cell? ⟨gb139, 3, none⟩ = some (.int .i64 a0_3) ∧ w'.cell? ⟨gb139, 4, none⟩ = some (.int .i64 a0_4)) (ds := []) (tf 0 20) (by kernel_rfl) rfl rfl (cy5 BK139.out) (fun hHeld => ?_); refine with_tabW spec_l15Square.tab1 spec_l15Square.bits1 (fun HT_ HW_ => ?_); generalize w6.drew = w7 at BK139 HB hHeld ⊢; refine pu_ 0 9 (tf 1 19) rfl rfl ?_; refine pu_ 1 10 (tf 2 18) rfl rfl ?_; refine pu_ 3 12 (tM [2, 1, 1, 16]) rfl rfl ?_; refine pu_ 5 14 (tM [2, 1, 1, 1, 1, 14]) rfl rfl ?_; refine pu_ 9 18 (tM [2, 1, 1, 1, 1, 3, 1, 10]) rfl rfl ?_; refine pu_ 10 19 (tM [2, 1, 1, 1, 1, 3, 2, 9]) rfl rfl ?_; refine pu_ 12 21 (tM [2, 1, 1, 1, 1, 3, 2, 1, 1, 7]) rfl rfl ?_; refine pu_ 14 23 (tM [2, 1, 1, 1, 1, 3, 2, 1, 1, 1, 1, 5]) rfl rfl ?_
 refine ta5_ 2 11 (tM [4, 1, 1, 3, 2, 1, 1, 1, 1, 5]) rfl rfl ?_; refine ta5_ 4 13 (tM [6, 3, 2, 1, 1, 1, 1, 5]) rfl rfl ?_; refine ta5_ 6 15 (tM [7, 2, 2, 1, 1, 1, 1, 5]) rfl rfl ?_; refine pu_ 7 16 (tM [8, 1, 2, 1, 1, 1, 1, 5]) rfl rfl ?_; refine ta5_ 11 20 (tM [8, 1, 4, 1, 1, 5]) rfl rfl ?_; refine ta5_ 13 22 (tM [8, 1, 6, 5]) rfl rfl ?_; refine ta5_ 15 24 (tM [8, 1, 7, 4]) rfl rfl ?_; refine pu_ 16 25 (tM [8, 1, 8, 3]) rfl rfl ?_; refine one_ (i := 8) (N := some 17) (tf 17 3) rfl rfl (one_of HT_.out (by kernel_rfl)) (by decide) (fun K hK => ?_); refine goes_ Try.func137 (by kernel_rfl) rfl #[.int .i64 a1, .int .i64 a0_1, .int .i64 (wrap64 (a0_1 + a0_3))] (by rfl) rfl rfl (by (try simp only [List.map_toArray, List.map_cons, List.map_nil]); first | done | rfl | (simp only [List.length_drop, List.length_take]; rfl)) ?_
 with_reducible refine (spec_l15Away.calls a1 a0_1 (wrap64 (a0_1 + a0_3)) t140 _ A4.out).mono ?_
 rintro e w8 ⟨rfl, hb⟩; refine ⟨_, rfl, ?_⟩; replace BK139 := kb BK139 hb; replace HB := bs HB hb; (try clear hb)
 (try clear hb2)
 (try clear hk)
 (try clear hi)
 refine hK.out _ _ (cy5 BK139.out) (fun hHeld => ?_); clear hK K; refine norm_ (a' := ?_) ?_ ?_
 rotate_left
 ·show Act.put _ (some 17) _ = _
  simp only [Act.put, List.setIfInBounds_toArray, List.set_cons_zero, List.set_cons_succ, i64_w, i32_w]
  rfl
 refine one_ (i := 17) (N := some 26) (tf 18 2) rfl rfl (one_of HT_.out (by kernel_rfl)) (by decide) (fun K hK => ?_); refine goes_ Try.func137 (by kernel_rfl) rfl #[.int .i64 a2, .int .i64 a0_2, .int .i64 (wrap64 (a0_2 + a0_4))] (by rfl) rfl rfl (by (try simp only [List.map_toArray, List.map_cons, List.map_nil]); first | done | rfl | (simp only [List.length_drop, List.length_take]; rfl)) ?_; with_reducible refine (spec_l15Away.calls a2 a0_2 (wrap64 (a0_2 + a0_4)) t141 _ A5.out).mono ?_
 rintro e w9 ⟨rfl, hb⟩; refine ⟨_, rfl, ?_⟩; replace BK139 := kb BK139 hb; replace HB := bs HB hb; (try clear hb)
 (try clear hb2)
 (try clear hk)
 (try clear hi)
 refine hK.out _ _ (cy5 BK139.out) (fun hHeld => ?_); clear hK K; refine norm_ (a' := ?_) ?_ ?_
 rotate_left
 ·show Act.put _ (some 26) _ = _
  simp only [Act.put, List.setIfInBounds_toArray, List.set_cons_zero, List.set_cons_succ, i64_w, i32_w]
  rfl
 refine pu_ 18 7 (tf 19 1) rfl rfl ?_; refine pu_ 19 8 (tf 20 0) rfl rfl ?_; refine done_ (done_of HT_.out (by kernel_rfl)) ?_; (try go_wp2)
 go_ret
 exact ⟨ew, vb HB.out⟩


/-! ### spec_l16Against: function 114 -/
def spec_l16Against.l0 : Nat → List (S98) → List (S103) → Int → Int → Int → List Int → Int → Option (List Int)
 | 0, _, _, _, _, _, _, _ => none
 | k + 1, x0, x1, x2, x3, x4, x11, x12 => if x12 < (x1.length : Int) then (if 0 ≤ x12 then ((spec_l16Distance.f k x0 x2 ((rd_T103 x1 x12).f0)).bind fun t146 => (if t146 < 0 then (if x11.length < 17592186044416 then (spec_l16Against.l0 k x0 x1 x2 x3 x4 (x11 ++ [x12]) (wrap64 (x12 + 1))) else (none)) else ((spec_l15Square.f ((rd_T103 x1 x12).f0) ((rd_T103 x1 x12).f1) ((rd_T103 x1 x12).f2) ((rd_T103 x1 x12).f3) ((rd_T103 x1 x12).f4) x3 x4).bind fun t151 => (if t151 < (wrap64 (t146 * t146)) then (if x11.length < 17592186044416 then (spec_l16Against.l0 k x0 x1 x2 x3 x4 (x11 ++ [x12]) (wrap64 (x12 + 1))) else (none)) else (spec_l16Against.l0 k x0 x1 x2 x3 x4 x11 (wrap64 (x12 + 1))))))) else (none)) else (some x11)
def spec_l16Against.f (k : Nat) (l0 : List (S98)) (l1 : List (S103)) (a2 : Int) (a3 : Int) (a4 : Int) : Option (List Int) := spec_l16Against.l0 k l0 l1 a2 a3 a4 (([] : List Int)) 0
theorem spec_l16Against.mono_l : ∀ k, (∀ y0 y1 y2 y3 y4 y5 y6, LeO (spec_l16Against.l0 k y0 y1 y2 y3 y4 y5 y6) (spec_l16Against.l0 (k + 1) y0 y1 y2 y3 y4 y5 y6))
 | 0 => fun _ _ _ _ _ _ _ r h => by simp [spec_l16Against.l0] at h
 | k + 1 => by
  have ih0 := spec_l16Against.mono_l k
  ·intro y0 y1 y2 y3 y4 y5 y6; unfold spec_l16Against.l0
   repeat' (with_reducible first | exact ih0 .. | exact spec_l16Distance.mono .. | exact lm | refine LeO.ite ?_ ?_ | refine LeO.bind ?_ (fun _ => ?_))
theorem spec_l16Against.mono : ∀ a0 a1 a2 a3 a4 k, LeO (spec_l16Against.f k a0 a1 a2 a3 a4) (spec_l16Against.f (k + 1) a0 a1 a2 a3 a4) := by
 intro a0 a1 a2 a3 a4 k; have ih0 := spec_l16Against.mono_l k; unfold spec_l16Against.f
 repeat' (with_reducible first | exact ih0 .. | exact spec_l16Distance.mono .. | exact lm | refine LeO.ite ?_ ?_ | refine LeO.bind ?_ (fun _ => ?_))
set_option maxHeartbeats 8000000 in
set_option maxRecDepth 100000 in
theorem spec_l16Against.calls (k : Nat) (A0 : Option Addr) (c0 : Nat) (l0 : List (S98)) (A1 : Option Addr) (c1 : Nat) (l1 : List (S103)) (a2 : Int) (a3 : Int) (a4 : Int) (r : List Int) (w : World) (hr0 : Kd.C k98 w A0 l0.length l0) (hc0 : l0.length ≤ c0) (hr1 : Kd.C k103 w A1 l1.length l1) (hc1 : l1.length ≤ c1) (h : spec_l16Against.f k l0 l1 a2 a3 a4 = some r) :
  Calls Try.prog 114 #[.slice A0 l0.length c0, .slice A1 l1.length c1, .int .i64 a2, .int .i64 a3, .int .i64 a4] w fun e w' => ∃ v0_ : Value, e = .returned (v0_) ∧ Kd.R (Kd.int .i64) 2 w' w.heap.size (fun _ => True) v0_ r ∧ Below w.heap.size w w' := by
 have hu103 := Try.underlying103; have HR0 := ak hr0; have HC0 := ak hc0; clear hr0 hc0; have HR1 := ak hr1; have HC1 := ak hc1; clear hr1 hc1; have HB := ak (Below.refl w.heap.size w); unfold spec_l16Against.f at h; have H := h; clear h; obtain ⟨y142, hy142⟩ := gen_ (([] : List Int)); rw [← hy142] at H; have Ny142 := ak hy142; clear hy142; have H' := ak H; clear H; go_enter Try.func114, Try.ntmps114; go_wp2_with (first | ((with_reducible refine gate_dst (N := 14) rfl ?_); refine Kd.R_lit (Kd.int .i64) _ 2 ?hg (N := 14) ?hd (xs := ([] : List Int)) (inner := []) (ok := fun _ => True) (okp := fun _ => True) ?hr ?hp (fun _ hk => hk) trivial (Below.refl _ _) (Nat.le_refl _) (by simp) ?_; (case hd => rfl); (case hg => rfl); (case hr => first | (go_simp; done) | (go_simp; rfl)); (case hp => exact (Reps.none _ _)); intro v143 w6 ho7 hb hg_ hnew_; clear hg_ hnew_; (first | rw [← Ny142.out] at ho7 | (simp only [Int.reduceToNat] at ho7; rw [← Ny142.out] at ho7)); have HO144 := ak (Kd.R_lower ho7 (below_size (vb HB.out))); replace HB := bs HB hb; clear hb ho7))
 go_loopg [11, 12] k (fun kq v11 v12 w' => ∃ (x11_1 : List Int) (x12_1 : Int), v12 = .int .i64 x12_1 ∧ Aside0 (spec_l16Against.l0 kq l0 l1 a2 a3 a4 x11_1 x12_1 = some r) ∧ Aside0 (kq ≤ k) ∧ Aside0 (Kd.R (Kd.int .i64) 2 w' w.heap.size (fun _ => True) v11 x11_1) ∧ Aside0 (Below w.heap.size w w'))
 case atStart => exact ⟨(y142), (0), es, H', ⟨Nat.le_refl _⟩, ⟨vr HO144.out⟩, ⟨vb HB.out⟩⟩
 case round =>
  clear H'; obtain ⟨x11_1, x12_1, rfl, HA, HK1, HO_11, HB⟩ := hrel
  cases gk with
  | zero => exact absurd HA.out (by simp [spec_l16Against.l0])
  | succ k1 =>
   have H := HA.out; clear HA; simp only [spec_l16Against.l0] at H
   by_cases c8 : x12_1 < (l1.length : Int)
   ·rw [if_pos c8] at H; have c8b0 := decide_eq_true c8; clear c8; by_cases c9 : 0 ≤ x12_1
    ·rw [if_pos c9] at H; have c9b0 := decide_eq_true c9; clear c9; obtain ⟨t146, A10, H⟩ := bnk H; by_cases c11 : t146 < 0
     ·rw [if_pos c11] at H; have c11b0 := decide_eq_true c11; clear c11; by_cases c12 : x11_1.length < 17592186044416
      ·rw [if_pos c12] at H; have LMc12 := ak c12; clear c12; obtain ⟨y147, hy147⟩ := gen_ ((x11_1 ++ [x12_1] : List Int)); rw [← hy147] at H; have Ny147 := ak hy147; clear hy147; have H' := ak H; clear H; have p145 : 0 ≤ (x12_1 : Int) := od; have q145 : x12_1 < (l1.length : Int) := od; obtain ⟨ad145, e145, hx145_0, hx145_1, hx145_2, hx145_3, hx145_4⟩ := at_T103 HR1.out x12_1 p145 q145
       cases e145; replace hx145_0 := cb HB.out hx145_0; replace hx145_1 := cb HB.out hx145_1; replace hx145_2 := cb HB.out hx145_2; replace hx145_3 := cb HB.out hx145_3; replace hx145_4 := cb HB.out hx145_4; replace p145 := eq_true p145; replace q145 := eq_true q145; go_wp2_with (first | ((with_reducible refine at_fn (f := 132) rfl ?_); refine gl (some 28) Try.func132 #[.slice A0 l0.length c0, .int .i64 a2, .int .i64 ((rd_T103 l1 x12_1).f0)] ?_; (with_reducible refine (spec_l16Distance.calls k1 _ _ l0 a2 ((rd_T103 l1 x12_1).f0) t146 _ ?_ HC0.out A10.out).mono ?_); exact vd HR0.out HB.out; rintro e w' ⟨rfl, ⟨nd, rfl⟩⟩; refine ⟨_, rfl, ?_⟩) | ((with_reducible refine at_bi (b := .append) (xs := #[.tmp 44, .tmp 46]) rfl ?_); at_builtin; refine Kd.R_append (Kd.int .i64) (w0 := w) w.heap.size rfl (.tmp 44) (.tmp 46) 24 2 (.int .i64 0) 8 rfl Try.underlying24 info2 rfl (by decide) (by omega) u11 x11_1 x12_1 [.int .i64 x12_1] (fun _ => True) (fun _ => False) rfl rfl ?aP (fun _ hk => hk.elim) ?aF ?aO ?aB ?aS ?aL ?_; (case aP => exact rfl); (case aB => exact (vb HB.out)); (case aF => exact (fun _ _ => trivial)); (case aO => exact (vr HO_11.out)); (case aS => exact (below_size (vb HB.out))); (case aL => have := LMc12.out; omega); intro v148 w13 ho hb hg hat; rw [← Ny147.out] at ho; have n0_ := ak (hb); have n1_ := ak (ho); clear HB; clear HO_11; have HB := n0_; have HO149 := n1_; clear n0_ n1_; clear ho hb hg hat))
       go_roundg k1
       case measure => have := HK1.out; omega
       case rel => exact ⟨(y147), (wrap64 (x12_1 + 1)), es, H', ⟨by have := HK1.out; omega⟩, ⟨vr HO149.out⟩, ⟨vb HB.out⟩⟩
      ·exact nO_ c12 H
     ·rw [if_neg c11] at H; have c11b0 := decide_eq_false c11; clear c11; obtain ⟨t151, A14, H⟩ := bnk H; by_cases c15 : t151 < (wrap64 (t146 * t146))
      ·rw [if_pos c15] at H; have c15b0 := decide_eq_true c15; clear c15; by_cases c16 : x11_1.length < 17592186044416
       ·rw [if_pos c16] at H; have LMc16 := ak c16; clear c16; obtain ⟨y152, hy152⟩ := gen_ ((x11_1 ++ [x12_1] : List Int)); rw [← hy152] at H; have Ny152 := ak hy152; clear hy152; have H' := ak H; clear H; have p145 : 0 ≤ (x12_1 : Int) := od; have q145 : x12_1 < (l1.length : Int) := od; obtain ⟨ad145, e145, hx145_0, hx145_1, hx145_2, hx145_3, hx145_4⟩ := at_T103 HR1.out x12_1 p145 q145
        cases e145; replace hx145_0 := cb HB.out hx145_0; replace hx145_1 := cb HB.out hx145_1; replace hx145_2 := cb HB.out hx145_2; replace hx145_3 := cb HB.out hx145_3; replace hx145_4 := cb HB.out hx145_4; replace p145 := eq_true p145; replace q145 := eq_true q145; go_wp2_with (first | ((with_reducible refine at_fn (f := 132) rfl ?_); refine gl (some 28) Try.func132 #[.slice A0 l0.length c0, .int .i64 a2, .int .i64 ((rd_T103 l1 x12_1).f0)] ?_; (with_reducible refine (spec_l16Distance.calls k1 _ _ l0 a2 ((rd_T103 l1 x12_1).f0) t146 _ ?_ HC0.out A10.out).mono ?_); exact vd HR0.out HB.out; rintro e w' ⟨rfl, ⟨nd, rfl⟩⟩; refine ⟨_, rfl, ?_⟩; have p150 : 0 ≤ (x12_1 : Int) := od; have q150 : x12_1 < (l1.length : Int) := od; obtain ⟨ad150, e150, hx150_0, hx150_1, hx150_2, hx150_3, hx150_4⟩ := at_T103 HR1.out x12_1 p150 q150; obtain rfl : ad145 = ad150 := (by injection e150); replace hx150_0 := cb HB.out hx150_0; replace hx150_1 := cb HB.out hx150_1; replace hx150_2 := cb HB.out hx150_2; replace hx150_3 := cb HB.out hx150_3; replace hx150_4 := cb HB.out hx150_4; replace p150 := eq_true p150; replace q150 := eq_true q150) | (go_at_call 133; (with_reducible refine (spec_l15Square.calls ((rd_T103 l1 x12_1).f0) ((rd_T103 l1 x12_1).f1) ((rd_T103 l1 x12_1).f2) ((rd_T103 l1 x12_1).f3) ((rd_T103 l1 x12_1).f4) a3 a4 t151 _ A14.out).mono ?_); rintro e w17 ⟨rfl, hb⟩; replace HO_11 := ak (Kd.R_below (vr HO_11.out) hb); replace HB := bs HB hb; (try clear hb)) | ((with_reducible refine at_bi (b := .append) (xs := #[.tmp 44, .tmp 46]) rfl ?_); at_builtin; refine Kd.R_append (Kd.int .i64) (w0 := w) w.heap.size rfl (.tmp 44) (.tmp 46) 24 2 (.int .i64 0) 8 rfl Try.underlying24 info2 rfl (by decide) (by omega) u11 x11_1 x12_1 [.int .i64 x12_1] (fun _ => True) (fun _ => False) rfl rfl ?aP (fun _ hk => hk.elim) ?aF ?aO ?aB ?aS ?aL ?_; (case aP => exact rfl); (case aB => exact (vb HB.out)); (case aF => exact (fun _ _ => trivial)); (case aO => exact (vr HO_11.out)); (case aS => exact (below_size (vb HB.out))); (case aL => have := LMc16.out; omega); intro v153 w18 ho hb hg hat; rw [← Ny152.out] at ho; have n0_ := ak (hb); have n1_ := ak (ho); clear HB; clear HO_11; have HB := n0_; have HO154 := n1_; clear n0_ n1_; clear ho hb hg hat))
        go_roundg k1
        case measure => have := HK1.out; omega
        case rel => exact ⟨(y152), (wrap64 (x12_1 + 1)), es, H', ⟨by have := HK1.out; omega⟩, ⟨vr HO154.out⟩, ⟨vb HB.out⟩⟩
       ·exact nO_ c16 H
      ·rw [if_neg c15] at H; have c15b0 := decide_eq_false c15; clear c15; have H' := ak H; clear H; have p145 : 0 ≤ (x12_1 : Int) := od; have q145 : x12_1 < (l1.length : Int) := od; obtain ⟨ad145, e145, hx145_0, hx145_1, hx145_2, hx145_3, hx145_4⟩ := at_T103 HR1.out x12_1 p145 q145
       cases e145; replace hx145_0 := cb HB.out hx145_0; replace hx145_1 := cb HB.out hx145_1; replace hx145_2 := cb HB.out hx145_2; replace hx145_3 := cb HB.out hx145_3; replace hx145_4 := cb HB.out hx145_4; replace p145 := eq_true p145; replace q145 := eq_true q145; go_wp2_with (first | ((with_reducible refine at_fn (f := 132) rfl ?_); refine gl (some 28) Try.func132 #[.slice A0 l0.length c0, .int .i64 a2, .int .i64 ((rd_T103 l1 x12_1).f0)] ?_; (with_reducible refine (spec_l16Distance.calls k1 _ _ l0 a2 ((rd_T103 l1 x12_1).f0) t146 _ ?_ HC0.out A10.out).mono ?_); exact vd HR0.out HB.out; rintro e w' ⟨rfl, ⟨nd, rfl⟩⟩; refine ⟨_, rfl, ?_⟩; have p150 : 0 ≤ (x12_1 : Int) := od; have q150 : x12_1 < (l1.length : Int) := od; obtain ⟨ad150, e150, hx150_0, hx150_1, hx150_2, hx150_3, hx150_4⟩ := at_T103 HR1.out x12_1 p150 q150; obtain rfl : ad145 = ad150 := (by injection e150); replace hx150_0 := cb HB.out hx150_0; replace hx150_1 := cb HB.out hx150_1; replace hx150_2 := cb HB.out hx150_2; replace hx150_3 := cb HB.out hx150_3; replace hx150_4 := cb HB.out hx150_4; replace p150 := eq_true p150; replace q150 := eq_true q150) | (go_at_call 133; (with_reducible refine (spec_l15Square.calls ((rd_T103 l1 x12_1).f0) ((rd_T103 l1 x12_1).f1) ((rd_T103 l1 x12_1).f2) ((rd_T103 l1 x12_1).f3) ((rd_T103 l1 x12_1).f4) a3 a4 t151 _ A14.out).mono ?_); rintro e w19 ⟨rfl, hb⟩; replace HO_11 := ak (Kd.R_below (vr HO_11.out) hb); replace HB := bs HB hb; (try clear hb)))
       go_roundg k1
       case measure => have := HK1.out; omega
       case rel => exact ⟨(x11_1), (wrap64 (x12_1 + 1)), es, H', ⟨by have := HK1.out; omega⟩, ⟨vr HO_11.out⟩, ⟨vb HB.out⟩⟩
    ·exact nO_ c9 H
   ·rw [if_neg c8] at H; have c8b0 := decide_eq_false c8; clear c8; obtain rfl := sj H; go_wp2
    go_ret
    exact ⟨_, ew, vr HO_11.out, vb HB.out⟩


/-! ### spec_l18Spots: function 66 -/
mutual
def spec_l18Spots.l0 : Nat → List (List Int) → Int → List (S98) → List (S103) → List Int → List Int → List Int → Int → Option ((List (List Int)))
 | 0, _, _, _, _, _, _, _, _ => none
 | k + 1, x3, x4, x156000, x156001, x156002, x156003, x156004, x156005 => if x4 < (x156002.length : Int) then (spec_l18Spots.l1 k x3 x4 (([] : List Int)) 0 x156000 x156001 x156002 x156003 x156004 x156005) else (some x3)
def spec_l18Spots.l1 : Nat → List (List Int) → Int → List Int → Int → List (S98) → List (S103) → List Int → List Int → List Int → Int → Option ((List (List Int)))
 | 0, _, _, _, _, _, _, _, _, _, _ => none
 | k + 1, x3, x4, x5, x6, x156000, x156001, x156002, x156003, x156004, x156005 => if x6 < (x156003.length : Int) then (if 0 ≤ x4 then (if x4 < (x156002.length : Int) then (if 0 ≤ x6 then (if x6 < (x156004.length : Int) then ((spec_l16Against.f k x156000 x156001 (rd x156002 x4) (rd x156003 x6) (rd x156004 x6)).bind fun t165 => (if (t165.length : Int) = 0 then (if x5.length < 17592186044416 then (spec_l18Spots.l1 k x3 x4 (x5 ++ [x6]) (wrap64 (x6 + 1)) x156000 x156001 x156002 x156003 x156004 x156005) else (none)) else (spec_l18Spots.l1 k x3 x4 x5 (wrap64 (x6 + 1)) x156000 x156001 x156002 x156003 x156004 x156005))) else (none)) else (none)) else (none)) else (none)) else (if x3.length < 5864062014805 then (spec_l18Spots.l0 k (x3 ++ [x5]) (wrap64 (x4 + 1)) x156000 x156001 x156002 x156003 x156004 x156005) else (none))
end
def spec_l18Spots.f (k : Nat) (l0_0 : List (S98)) (l0_1 : List (S103)) (l0_2 : List Int) (l0_3 : List Int) (l0_4 : List Int) (a0_5 : Int) : Option ((List (List Int))) := spec_l18Spots.l0 k (([] : List (List Int))) 0 l0_0 l0_1 l0_2 l0_3 l0_4 a0_5
theorem spec_l18Spots.mono_l : ∀ k, (∀ y0 y1 y2 y3 y4 y5 y6 y7, LeO (spec_l18Spots.l0 k y0 y1 y2 y3 y4 y5 y6 y7) (spec_l18Spots.l0 (k + 1) y0 y1 y2 y3 y4 y5 y6 y7)) ∧ (∀ y0 y1 y2 y3 y4 y5 y6 y7 y8 y9, LeO (spec_l18Spots.l1 k y0 y1 y2 y3 y4 y5 y6 y7 y8 y9) (spec_l18Spots.l1 (k + 1) y0 y1 y2 y3 y4 y5 y6 y7 y8 y9))
 | 0 => ⟨fun _ _ _ _ _ _ _ _ r h => by simp [spec_l18Spots.l0] at h, fun _ _ _ _ _ _ _ _ _ _ r h => by simp [spec_l18Spots.l1] at h⟩
 | k + 1 => by
  obtain ⟨ih0, ih1⟩ := spec_l18Spots.mono_l k; refine ⟨?_, ?_⟩
  ·intro y0 y1 y2 y3 y4 y5 y6 y7; unfold spec_l18Spots.l0
   repeat' (with_reducible first | exact ih0 .. | exact ih1 .. | exact spec_l16Against.mono .. | exact lm | refine LeO.ite ?_ ?_ | refine LeO.bind ?_ (fun _ => ?_))
  ·intro y0 y1 y2 y3 y4 y5 y6 y7 y8 y9; unfold spec_l18Spots.l1
   repeat' (with_reducible first | exact ih0 .. | exact ih1 .. | exact spec_l16Against.mono .. | exact lm | refine LeO.ite ?_ ?_ | refine LeO.bind ?_ (fun _ => ?_))
theorem spec_l18Spots.mono : ∀ a0 a1 a2 a3 a4 a5 k, LeO (spec_l18Spots.f k a0 a1 a2 a3 a4 a5) (spec_l18Spots.f (k + 1) a0 a1 a2 a3 a4 a5) := by
 intro a0 a1 a2 a3 a4 a5 k; obtain ⟨ih0, ih1⟩ := spec_l18Spots.mono_l k; unfold spec_l18Spots.f
 repeat' (with_reducible first | exact ih0 .. | exact ih1 .. | exact spec_l16Against.mono .. | exact lm | refine LeO.ite ?_ ?_ | refine LeO.bind ?_ (fun _ => ?_))
def spec_l18Spots.T9 : Bool × List (List Nat × List Nat) := (true, [([], []), ([0], [0]), ([], []), ([2], [2]), ([], []), ([4], [4]), ([], []), ([5, 6], [5, 6]), ([7], [7]), ([], []), ([9], [9]), ([], []), ([10, 11], [10, 11]), ([12], [12]), ([], []), ([14], [14]), ([], []), ([15, 16], [15, 16]), ([17], [17]), ([1, 3, 8, 13, 18], [1, 3, 8, 13, 18]), ([19], [19]), ([20], [20])])
def spec_l18Spots.B9 : List Nat := [0, 1, 0, 4, 0, 16, 0, 112, 240, 0, 512, 0, 3584, 7680, 0, 16384, 0, 114688, 245760, 524287, 1048575, 2097151]
theorem spec_l18Spots.tab9 : rtab .any (opsOf Try.f66 9) = spec_l18Spots.T9 := by kernel_rfl
theorem spec_l18Spots.bits9 : waitsOk spec_l18Spots.T9.2 spec_l18Spots.B9 = true := by kernel_rfl
set_option maxHeartbeats 8000000 in
set_option maxRecDepth 100000 in
theorem spec_l18Spots.calls (k : Nat) (A0_0 : Option Addr) (c0_0 : Nat) (l0_0 : List (S98)) (A0_1 : Option Addr) (c0_1 : Nat) (l0_1 : List (S103)) (A0_2 : Option Addr) (c0_2 : Nat) (l0_2 : List Int) (A0_3 : Option Addr) (c0_3 : Nat) (l0_3 : List Int) (A0_4 : Option Addr) (c0_4 : Nat) (l0_4 : List Int) (a0_5 : Int) (r : List (List Int)) (w : World) (hr0_0 : Kd.C k98 w A0_0 l0_0.length l0_0) (hc0_0 : l0_0.length ≤ c0_0) (hr0_1 : Kd.C k103 w A0_1 l0_1.length l0_1) (hc0_1 : l0_1.length ≤ c0_1) (hr0_2 : Kd.C (Kd.int .i64) w A0_2 l0_2.length l0_2) (hc0_2 : l0_2.length ≤ c0_2) (hr0_3 : Kd.C (Kd.int .i64) w A0_3 l0_3.length l0_3) (hc0_3 : l0_3.length ≤ c0_3) (hr0_4 : Kd.C (Kd.int .i64) w A0_4 l0_4.length l0_4) (hc0_4 : l0_4.length ≤ c0_4) (h : spec_l18Spots.f k l0_0 l0_1 l0_2 l0_3 l0_4 a0_5 = some r) :
  Calls Try.prog 66 #[.agg (f5 A0_0 l0_0 c0_0 A0_1 l0_1 c0_1 A0_2 l0_2 c0_2 A0_3 l0_3 c0_3 A0_4 l0_4 c0_4 a0_5)] w fun e w' => ∃ v0_ : Value, e = .returned (v0_) ∧ Kd.S (Kd.slice 2 (Kd.int .i64)) 24 w' w.heap.size (fun _ => True) v0_ r ∧ Below w.heap.size w w' := by
 have hu33 := Try.underlying33; have HR0_0 := ak hr0_0; have HC0_0 := ak hc0_0; clear hr0_0 hc0_0; have HR0_1 := ak hr0_1; have HC0_1 := ak hc0_1; clear hr0_1 hc0_1; have HR0_2 := ak hr0_2; have HC0_2 := ak hc0_2; clear hr0_2 hc0_2; have HR0_3 := ak hr0_3; have HC0_3 := ak hc0_3; clear hr0_3 hc0_3; have HR0_4 := ak hr0_4; have HC0_4 := ak hc0_4; clear hr0_4 hc0_4; have HB := ak (Below.refl w.heap.size w); unfold spec_l18Spots.f at h; have H := h; clear h; obtain ⟨y156, hy156⟩ := gen_ (([] : List (List Int))); rw [← hy156] at H; have Ny156 := ak hy156; clear hy156; have H' := ak H; clear H; go_enter Try.func66, Try.ntmps66; go_wp2_with (first | ((with_reducible refine gate_dst (N := 1) rfl ?_); refine bx 1 (f5 A0_0 l0_0 c0_0 A0_1 l0_1 c0_1 A0_2 l0_2 c0_2 A0_3 l0_3 c0_3 A0_4 l0_4 c0_4 a0_5) 33 ?_; intro gb155 hg w2 hbox hb; have BK155 := ak hbox; have GW155 := gw hg HB; have GE155 := gw hg HB; replace HB := bs HB hb; clear hb hbox hg) | ((with_reducible refine gate_dst (N := 7) rfl ?_); refine Kd.S_lit (Kd.slice 2 (Kd.int .i64)) _ 24 ?hg (N := 7) ?hd (xs := ([] : List (List Int))) (inner := []) (ok := fun _ => True) (okp := fun _ => True) ?hr ?hp (fun _ hk => hk) trivial (Below.refl _ _) (Nat.le_refl _) (by simp) ?_; (case hd => rfl); (case hg => rfl); (case hr => first | (go_simp; done) | (go_simp; rfl)); (case hp => exact (Reps.none _ _)); intro v157 w3 ho4 hb hg_ hnew_; clear hg_ hnew_; (first | rw [← Ny156.out] at ho4 | (simp only [Int.reduceToNat] at ho4; rw [← Ny156.out] at ho4)); have HO158 := ak (Kd.S_lower ho4 (below_size (vb HB.out))); replace BK155 := kb BK155 hb; replace HB := bs HB hb; clear hb ho4))
 go_loopg [3, 4] k (fun kq v3 v4 w' => ∃ (x3_1 : List (List Int)) (x4_1 : Int), v4 = .int .i64 x4_1 ∧ Aside0 (spec_l18Spots.l0 kq x3_1 x4_1 l0_0 l0_1 l0_2 l0_3 l0_4 a0_5 = some r) ∧ Aside0 (kq ≤ k) ∧ Aside0 (Kd.S (Kd.slice 2 (Kd.int .i64)) 24 w' w.heap.size (fun _ => True) v3 x3_1) ∧ Aside0 (w'.heap[gb155]? = some (.cells (f5 A0_0 l0_0 c0_0 A0_1 l0_1 c0_1 A0_2 l0_2 c0_2 A0_3 l0_3 c0_3 A0_4 l0_4 c0_4 a0_5) 33 (0, 0))) ∧ Aside0 (Below w.heap.size w w'))
 case atStart => exact ⟨(y156), (0), es, H', ⟨Nat.le_refl _⟩, ⟨vS HO158.out⟩, ⟨vk BK155.out⟩, ⟨vb HB.out⟩⟩
 case round =>
  clear H'; obtain ⟨x3_1, x4_1, rfl, HA, HK1, HO_3, BK155, HB⟩ := hrel
  cases gk with
  | zero => exact absurd HA.out (by simp [spec_l18Spots.l0])
  | succ k1 =>
   have H := HA.out; clear HA; simp only [spec_l18Spots.l0] at H
   by_cases c5 : x4_1 < (l0_2.length : Int)
   ·rw [if_pos c5] at H; have c5b0 := decide_eq_true c5; clear c5; obtain ⟨y159, hy159⟩ := gen_ (([] : List Int)); rw [← hy159] at H; have Ny159 := ak hy159; clear hy159; have H' := ak H; clear H; have hcz6 := cz6 BK155.out; go_wp2_with (first | ((with_reducible refine gate_dst (N := 15) rfl ?_); refine Kd.R_lit (Kd.int .i64) _ 2 ?hg (N := 15) ?hd (xs := ([] : List Int)) (inner := []) (ok := fun _ => True) (okp := fun _ => True) ?hr ?hp (fun _ hk => hk) trivial (Below.refl _ _) (Nat.le_refl _) (by simp) ?_; (case hd => rfl); (case hg => rfl); (case hr => first | (go_simp; done) | (go_simp; rfl)); (case hp => exact (Reps.none _ _)); intro v160 w7 ho8 hb hg_ hnew_; clear hg_ hnew_; (first | rw [← Ny159.out] at ho8 | (simp only [Int.reduceToNat] at ho8; rw [← Ny159.out] at ho8)); replace HO_3 := ak (Kd.S_elder' (vS HO_3.out) (Kd.R_base ho8) hb); have HO161 := ak (Kd.R_lower ho8 (below_size (vb HB.out))); replace BK155 := kb BK155 hb; replace HB := bs HB hb; clear hb ho8))
    go_loopg [5, 6] k1 (fun kq v5 v6 w' => ∃ (x5_2 : List Int) (x6_2 : Int), v6 = .int .i64 x6_2 ∧ Aside0 (spec_l18Spots.l1 kq x3_1 x4_1 x5_2 x6_2 l0_0 l0_1 l0_2 l0_3 l0_4 a0_5 = some r) ∧ Aside0 (kq ≤ k1) ∧ Aside0 (Kd.S (Kd.slice 2 (Kd.int .i64)) 24 w' w.heap.size (fun k_ => some k_ ≠ (v5 : Value).ownBlock) u3 x3_1) ∧ Aside0 (Kd.R (Kd.int .i64) 2 w' w.heap.size (fun _ => True) v5 x5_2) ∧ Aside0 (w'.heap[gb155]? = some (.cells (f5 A0_0 l0_0 c0_0 A0_1 l0_1 c0_1 A0_2 l0_2 c0_2 A0_3 l0_3 c0_3 A0_4 l0_4 c0_4 a0_5) 33 (0, 0))) ∧ Aside0 (Below w.heap.size w w'))
    case atStart => exact ⟨(y159), (0), es, H', ⟨Nat.le_refl _⟩, ⟨by (with_reducible repeat (first | apply Kd.S_alloc | apply Kd.S_drewN | apply Kd.S_drew)); exact Kd.S_mono HO_3.out (fun _ hk => hk.2)⟩, ⟨vr HO161.out⟩, ⟨vk BK155.out⟩, ⟨vb HB.out⟩⟩
    case round =>
     clear H'; obtain ⟨x5_2, x6_2, rfl, HA, HK2, HO_3, HO_5, BK155, HB⟩ := hrel
     cases gk with
     | zero => exact absurd HA.out (by simp [spec_l18Spots.l1])
     | succ k2 =>
      have H := HA.out; clear HA; simp only [spec_l18Spots.l1] at H
      by_cases c9 : x6_2 < (l0_3.length : Int)
      ·rw [if_pos c9] at H; have c9b0 := decide_eq_true c9; clear c9; by_cases c10 : 0 ≤ x4_1
       ·rw [if_pos c10] at H; have c10b0 := decide_eq_true c10; clear c10; by_cases c11 : x4_1 < (l0_2.length : Int)
        ·rw [if_pos c11] at H; have c11b0 := decide_eq_true c11; clear c11; by_cases c12 : 0 ≤ x6_2
         ·rw [if_pos c12] at H; have c12b0 := decide_eq_true c12; clear c12; by_cases c13 : x6_2 < (l0_4.length : Int)
          ·rw [if_pos c13] at H; have c13b0 := decide_eq_true c13; clear c13; obtain ⟨t165, A14, H⟩ := bnk H; by_cases c15 : (t165.length : Int) = 0
           ·rw [if_pos c15] at H; obtain ⟨c15b0, c15b1⟩ := bqt c15; clear c15; by_cases c16 : x5_2.length < 17592186044416
            ·rw [if_pos c16] at H; have LMc16 := ak c16; clear c16; obtain ⟨y168, hy168⟩ := gen_ ((x5_2 ++ [x6_2] : List Int)); rw [← hy168] at H; have Ny168 := ak hy168; clear hy168; have H' := ak H; clear H; have hcz17 := cz6 BK155.out; (try go_wp2)
             replace HO_3 := ak (Kd.S_drew HO_3.out); replace HO_5 := ak (Kd.R_drew HO_5.out); replace BK155 := ak (blk_drew BK155.out); replace HB := ak (below_drew1 HB.out); have p162 : 0 ≤ (x4_1 : Int) := od; have q162 : x4_1 < (l0_2.length : Int) := od; obtain ⟨ad162, e162, hx162_0⟩ := Kd.at_int HR0_2.out x4_1 p162 q162; have hw162_0 := hx162_0
             cases e162; replace hx162_0 := cb HB.out hx162_0; replace p162 := eq_true p162; replace q162 := eq_true q162; have p163 : 0 ≤ (x6_2 : Int) := od; have q163 : x6_2 < (l0_3.length : Int) := od; obtain ⟨ad163, e163, hx163_0⟩ := Kd.at_int HR0_3.out x6_2 p163 q163; have hw163_0 := hx163_0
             cases e163; replace hx163_0 := cb HB.out hx163_0; replace p163 := eq_true p163; replace q163 := eq_true q163; have p164 : 0 ≤ (x6_2 : Int) := od; have q164 : x6_2 < (l0_4.length : Int) := od; obtain ⟨ad164, e164, hx164_0⟩ := Kd.at_int HR0_4.out x6_2 p164 q164; have hw164_0 := hx164_0
             cases e164; replace hx164_0 := cb HB.out hx164_0; replace p164 := eq_true p164; replace q164 := eq_true q164; refine start_ (n := 22) (S := fun w' => w'.cell? ⟨gb155, 0, none⟩ = some (.slice A0_0 l0_0.length c0_0) ∧ w'.cell? ⟨gb155, 1, none⟩ = some (.slice A0_1 l0_1.length c0_1) ∧ w'.cell? ⟨gb155, 2, none⟩ = some (.slice (some ad162) l0_2.length c0_2) ∧ w'.cell? ⟨gb155, 3, none⟩ = some (.slice (some ad163) l0_3.length c0_3) ∧ w'.cell? ⟨gb155, 4, none⟩ = some (.slice (some ad164) l0_4.length c0_4) ∧ w'.cell? ⟨gb155, 5, none⟩ = some (.int .i64 a0_5) ∧ w'.cell? (ad162.add (x4_1).toNat) = some (.int .i64 (rd l0_2 x4_1)) ∧ w'.cell? (ad163.add (x6_2).toNat) = some (.int .i64 (rd l0_3 x6_2)) ∧ w'.cell? (ad164.add (x6_2).toNat) = some (.int .i64 (rd l0_4 x6_2))) (ds := []) (tf 0 22) (by kernel_rfl) rfl rfl ⟨bk BK155.out 0, bk BK155.out 1, bk BK155.out 2, bk BK155.out 3, bk BK155.out 4, bk BK155.out 5, (cb HB.out hw162_0 :), (cb HB.out hw163_0 :), (cb HB.out hw164_0 :)⟩ (fun hHeld => ?_); refine with_tabW spec_l18Spots.tab9 spec_l18Spots.bits9 (fun HT_ HW_ => ?_); generalize wr.drew = w18 at HO_3 HO_5 BK155 HB hx162_0 hx163_0 hx164_0 hHeld ⊢; refine pu_ 0 23 (tf 1 21) rfl rfl ?_; refine pu_ 2 25 (tM [1, 1, 1, 19]) rfl rfl ?_
             refine pu_ 4 27 (tM [1, 1, 1, 1, 1, 17]) rfl rfl ?_; refine pu_ 6 29 (tM [1, 1, 1, 1, 1, 1, 1, 15]) rfl rfl ?_; refine pu_ 9 32 (tM [1, 1, 1, 1, 1, 1, 1, 2, 1, 12]) rfl rfl ?_; refine pu_ 11 34 (tM [1, 1, 1, 1, 1, 1, 1, 2, 1, 1, 1, 10]) rfl rfl ?_; refine pu_ 14 37 (tM [1, 1, 1, 1, 1, 1, 1, 2, 1, 1, 1, 2, 1, 7]) rfl rfl ?_; refine pu_ 16 39 (tM [1, 1, 1, 1, 1, 1, 1, 2, 1, 1, 1, 2, 1, 1, 1, 5]) rfl rfl ?_; refine ta9_ 1 24 (tM [3, 1, 1, 1, 1, 2, 1, 1, 1, 2, 1, 1, 1, 5]) rfl rfl ?_; refine ta9_ 3 26 (tM [5, 1, 1, 2, 1, 1, 1, 2, 1, 1, 1, 5]) rfl rfl ?_; refine ta9_ 5 28 (tM [7, 2, 1, 1, 1, 2, 1, 1, 1, 5]) rfl rfl ?_
             refine pu_ 7 30 (tM [8, 1, 1, 1, 1, 2, 1, 1, 1, 5]) rfl rfl ?_; refine ta9_ 8 31 (tM [10, 1, 1, 2, 1, 1, 1, 5]) rfl rfl ?_; refine ta9_ 10 33 (tM [12, 2, 1, 1, 1, 5]) rfl rfl ?_; refine pu_ 12 35 (tM [13, 1, 1, 1, 1, 5]) rfl rfl ?_; refine ta9_ 13 36 (tM [15, 1, 1, 5]) rfl rfl ?_; refine ta9_ 15 38 (tf 17 5) rfl rfl ?_; refine pu_ 17 40 (tf 18 4) rfl rfl ?_; refine ta9_ 18 41 (tf 19 3) rfl rfl ?_; refine one_ (i := 19) (N := some 42) (tf 20 2) rfl rfl (one_of HT_.out (by kernel_rfl)) (by decide) (fun K hK => ?_); refine goes_ Try.func114 (by kernel_rfl) rfl #[.slice A0_0 l0_0.length c0_0, .slice A0_1 l0_1.length c0_1, .int .i64 (rd l0_2 x4_1), .int .i64 (rd l0_3 x6_2), .int .i64 (rd l0_4 x6_2)] (by rfl) rfl rfl (by (try simp only [List.map_toArray, List.map_cons, List.map_nil]); first | done | rfl | (simp only [List.length_drop, List.length_take]; rfl)) ?_; with_reducible refine (spec_l16Against.calls k2 _ _ l0_0 _ _ l0_1 (rd l0_2 x4_1) (rd l0_3 x6_2) (rd l0_4 x6_2) t165 _ ?_ ?_ ?_ ?_ A14.out).mono ?_
             exact vd HR0_0.out HB.out
             exact HC0_0.out
             exact vd HR0_1.out HB.out
             exact HC0_1.out
             rintro e w19 ⟨v166, rfl, ho0, hb⟩; refine ⟨_, rfl, ?_⟩; replace HO_3 := ak (Kd.S_elder' (vS HO_3.out) (Kd.R_base ho0) hb); have HO167 := ak (Kd.R_lower (Kd.R_new' ho0 (Kd.R_lt (vr HO_5.out))) (below_size (vb HB.out))); replace HO_5 := ak (Kd.R_elder' (vr HO_5.out) (Kd.R_base ho0) hb); replace BK155 := kb BK155 hb; replace HB := bs HB hb; (try clear hb)
             (try clear hb2)
             (try clear hk)
             (try clear hi)
             (try clear ho0)
             obtain ⟨Ao20, co20, eo20⟩ := Kd.R_slice HO167.out; (first | subst eo20 | (injection eo20 with f1_ f2_ f3_; have f4_ := f1_.symm; have f5_ := f3_.symm; clear f1_ f2_ f3_; subst f4_; subst f5_))
             refine hK.out _ _ ⟨bk BK155.out 0, bk BK155.out 1, bk BK155.out 2, bk BK155.out 3, bk BK155.out 4, bk BK155.out 5, (cb HB.out hw162_0 :), (cb HB.out hw163_0 :), (cb HB.out hw164_0 :)⟩ (fun hHeld => ?_); clear hK K; refine norm_ (a' := ?_) ?_ ?_
             rotate_left
             ·show Act.put _ (some 42) _ = _
              simp only [Act.put, List.setIfInBounds_toArray, List.set_cons_zero, List.set_cons_succ, i64_w, i32_w]
              rfl
             refine pu_ 20 43 (tf 21 1) rfl rfl ?_; refine pu_ 21 44 (tf 22 0) rfl rfl ?_; refine done_ (done_of HT_.out (by kernel_rfl)) ?_; (try go_wp2_with (first | ((with_reducible refine at_bi (b := .append) (xs := #[.tmp 45, .tmp 47]) rfl ?_); at_builtin; refine Kd.R_append (Kd.int .i64) (w0 := w) w.heap.size rfl (.tmp 45) (.tmp 47) 24 2 (.int .i64 0) 8 rfl Try.underlying24 info2 rfl (by decide) (by omega) u5 x5_2 x6_2 [.int .i64 x6_2] (fun k_ => some k_ ≠ (.slice Ao20 t165.length co20 : Value).ownBlock) (fun _ => False) rfl rfl ?aP (fun _ hk => hk.elim) ?aF ?aO ?aB ?aS ?aL ?_; (case aP => exact rfl); (case aB => exact (vb HB.out)); (case aF => exact (fun k_ hk => Kd.fresh' (Kd.R_lt (vr HO167.out)) k_ hk)); (case aO => exact (vr (Kd.R_mono HO_5.out (fun _ hk => hk.2)))); (case aS => exact (below_size (vb HB.out))); (case aL => have := LMc16.out; omega); intro v169 w21 ho hb hg hat; rw [← Ny168.out] at ho; have n0_ := ak (Kd.S_after (ok := (fun k_ => some k_ ≠ (.slice Ao20 t165.length co20 : Value).ownBlock)) (by (with_reducible repeat (first | apply Kd.S_alloc | apply Kd.S_drewN | apply Kd.S_drew)); exact Kd.S_mono HO_3.out (fun _ hk => ⟨hk.2, hk.1⟩)) hg hat); have n1_ := ak (blk_grown (g := gb155) (o := .cells #[.slice A0_0 l0_0.length c0_0, .slice A0_1 l0_1.length c0_1, .slice (some ad162) l0_2.length c0_2, .slice (some ad163) l0_3.length c0_3, .slice (some ad164) l0_4.length c0_4, .int .i64 a0_5] 33 (0, 0)) (vk BK155.out) hg (Kd.R_ne HO_5.out BK155.out (by decide))); have n2_ := ak (Kd.R_after (ok := (fun _ => True)) (vr HO167.out) hg hat); have n3_ := ak (hb); have n4_ := ak (ho); clear HO_3; clear BK155; clear HO167; clear HB; clear HO_5; have HO_3 := n0_; have BK155 := n1_; have HO167 := n2_; have HB := n3_; have HO170 := n4_; clear n0_ n1_ n2_ n3_ n4_; clear ho hb hg hat)))
             go_roundg k2
             case measure => have := HK1.out; have := HK2.out; omega
             case rel => exact ⟨(y168), (wrap64 (x6_2 + 1)), es, H', ⟨by have := HK1.out; have := HK2.out; omega⟩, ⟨by (with_reducible repeat (first | apply Kd.S_alloc | apply Kd.S_drewN | apply Kd.S_drew)); exact Kd.S_mono HO_3.out (fun _ hk => hk.2)⟩, ⟨vr (Kd.R_mono HO170.out (fun _ hk => trivial))⟩, ⟨vk BK155.out⟩, ⟨vb HB.out⟩⟩
            ·exact nO_ c16 H
           ·rw [if_neg c15] at H; obtain ⟨c15b0, c15b1⟩ := bqf c15; have c15b2 : ¬ (t165 = []) := fun h_ => c15 (by rw [h_]; rfl)
            have H' := ak H; clear H; have hcz22 := cz6 BK155.out; (try go_wp2)
            replace HO_3 := ak (Kd.S_drew HO_3.out); replace HO_5 := ak (Kd.R_drew HO_5.out); replace BK155 := ak (blk_drew BK155.out); replace HB := ak (below_drew1 HB.out); have p162 : 0 ≤ (x4_1 : Int) := od; have q162 : x4_1 < (l0_2.length : Int) := od; obtain ⟨ad162, e162, hx162_0⟩ := Kd.at_int HR0_2.out x4_1 p162 q162; have hw162_0 := hx162_0
            cases e162; replace hx162_0 := cb HB.out hx162_0; replace p162 := eq_true p162; replace q162 := eq_true q162; have p163 : 0 ≤ (x6_2 : Int) := od; have q163 : x6_2 < (l0_3.length : Int) := od; obtain ⟨ad163, e163, hx163_0⟩ := Kd.at_int HR0_3.out x6_2 p163 q163; have hw163_0 := hx163_0
            cases e163; replace hx163_0 := cb HB.out hx163_0; replace p163 := eq_true p163; replace q163 := eq_true q163; have p164 : 0 ≤ (x6_2 : Int) := od; have q164 : x6_2 < (l0_4.length : Int) := od; obtain ⟨ad164, e164, hx164_0⟩ := Kd.at_int HR0_4.out x6_2 p164 q164; have hw164_0 := hx164_0
            cases e164; replace hx164_0 := cb HB.out hx164_0; replace p164 := eq_true p164; replace q164 := eq_true q164; refine start_ (n := 22) (S := fun w' => w'.cell? ⟨gb155, 0, none⟩ = some (.slice A0_0 l0_0.length c0_0) ∧ w'.cell? ⟨gb155, 1, none⟩ = some (.slice A0_1 l0_1.length c0_1) ∧ w'.cell? ⟨gb155, 2, none⟩ = some (.slice (some ad162) l0_2.length c0_2) ∧ w'.cell? ⟨gb155, 3, none⟩ = some (.slice (some ad163) l0_3.length c0_3) ∧ w'.cell? ⟨gb155, 4, none⟩ = some (.slice (some ad164) l0_4.length c0_4) ∧ w'.cell? ⟨gb155, 5, none⟩ = some (.int .i64 a0_5) ∧ w'.cell? (ad162.add (x4_1).toNat) = some (.int .i64 (rd l0_2 x4_1)) ∧ w'.cell? (ad163.add (x6_2).toNat) = some (.int .i64 (rd l0_3 x6_2)) ∧ w'.cell? (ad164.add (x6_2).toNat) = some (.int .i64 (rd l0_4 x6_2))) (ds := []) (tf 0 22) (by kernel_rfl) rfl rfl ⟨bk BK155.out 0, bk BK155.out 1, bk BK155.out 2, bk BK155.out 3, bk BK155.out 4, bk BK155.out 5, (cb HB.out hw162_0 :), (cb HB.out hw163_0 :), (cb HB.out hw164_0 :)⟩ (fun hHeld => ?_); refine with_tabW spec_l18Spots.tab9 spec_l18Spots.bits9 (fun HT_ HW_ => ?_); generalize wr.drew = w23 at HO_3 HO_5 BK155 HB hx162_0 hx163_0 hx164_0 hHeld ⊢; refine pu_ 0 23 (tf 1 21) rfl rfl ?_; refine pu_ 2 25 (tM [1, 1, 1, 19]) rfl rfl ?_
            refine pu_ 4 27 (tM [1, 1, 1, 1, 1, 17]) rfl rfl ?_; refine pu_ 6 29 (tM [1, 1, 1, 1, 1, 1, 1, 15]) rfl rfl ?_; refine pu_ 9 32 (tM [1, 1, 1, 1, 1, 1, 1, 2, 1, 12]) rfl rfl ?_; refine pu_ 11 34 (tM [1, 1, 1, 1, 1, 1, 1, 2, 1, 1, 1, 10]) rfl rfl ?_; refine pu_ 14 37 (tM [1, 1, 1, 1, 1, 1, 1, 2, 1, 1, 1, 2, 1, 7]) rfl rfl ?_; refine pu_ 16 39 (tM [1, 1, 1, 1, 1, 1, 1, 2, 1, 1, 1, 2, 1, 1, 1, 5]) rfl rfl ?_; refine ta9_ 1 24 (tM [3, 1, 1, 1, 1, 2, 1, 1, 1, 2, 1, 1, 1, 5]) rfl rfl ?_; refine ta9_ 3 26 (tM [5, 1, 1, 2, 1, 1, 1, 2, 1, 1, 1, 5]) rfl rfl ?_; refine ta9_ 5 28 (tM [7, 2, 1, 1, 1, 2, 1, 1, 1, 5]) rfl rfl ?_
            refine pu_ 7 30 (tM [8, 1, 1, 1, 1, 2, 1, 1, 1, 5]) rfl rfl ?_; refine ta9_ 8 31 (tM [10, 1, 1, 2, 1, 1, 1, 5]) rfl rfl ?_; refine ta9_ 10 33 (tM [12, 2, 1, 1, 1, 5]) rfl rfl ?_; refine pu_ 12 35 (tM [13, 1, 1, 1, 1, 5]) rfl rfl ?_; refine ta9_ 13 36 (tM [15, 1, 1, 5]) rfl rfl ?_; refine ta9_ 15 38 (tf 17 5) rfl rfl ?_; refine pu_ 17 40 (tf 18 4) rfl rfl ?_; refine ta9_ 18 41 (tf 19 3) rfl rfl ?_; refine one_ (i := 19) (N := some 42) (tf 20 2) rfl rfl (one_of HT_.out (by kernel_rfl)) (by decide) (fun K hK => ?_); refine goes_ Try.func114 (by kernel_rfl) rfl #[.slice A0_0 l0_0.length c0_0, .slice A0_1 l0_1.length c0_1, .int .i64 (rd l0_2 x4_1), .int .i64 (rd l0_3 x6_2), .int .i64 (rd l0_4 x6_2)] (by rfl) rfl rfl (by (try simp only [List.map_toArray, List.map_cons, List.map_nil]); first | done | rfl | (simp only [List.length_drop, List.length_take]; rfl)) ?_; with_reducible refine (spec_l16Against.calls k2 _ _ l0_0 _ _ l0_1 (rd l0_2 x4_1) (rd l0_3 x6_2) (rd l0_4 x6_2) t165 _ ?_ ?_ ?_ ?_ A14.out).mono ?_
            exact vd HR0_0.out HB.out
            exact HC0_0.out
            exact vd HR0_1.out HB.out
            exact HC0_1.out
            rintro e w24 ⟨v166, rfl, ho0, hb⟩; refine ⟨_, rfl, ?_⟩; replace HO_3 := ak (Kd.S_elder' (vS HO_3.out) (Kd.R_base ho0) hb); have HO167 := ak (Kd.R_lower (Kd.R_new' ho0 (Kd.R_lt (vr HO_5.out))) (below_size (vb HB.out))); replace HO_5 := ak (Kd.R_elder' (vr HO_5.out) (Kd.R_base ho0) hb); replace BK155 := kb BK155 hb; replace HB := bs HB hb; (try clear hb)
            (try clear hb2)
            (try clear hk)
            (try clear hi)
            (try clear ho0)
            obtain ⟨Ao25, co25, eo25⟩ := Kd.R_slice HO167.out; (first | subst eo25 | (injection eo25 with f1_ f2_ f3_; have f4_ := f1_.symm; have f5_ := f3_.symm; clear f1_ f2_ f3_; subst f4_; subst f5_))
            refine hK.out _ _ ⟨bk BK155.out 0, bk BK155.out 1, bk BK155.out 2, bk BK155.out 3, bk BK155.out 4, bk BK155.out 5, (cb HB.out hw162_0 :), (cb HB.out hw163_0 :), (cb HB.out hw164_0 :)⟩ (fun hHeld => ?_); clear hK K; refine norm_ (a' := ?_) ?_ ?_
            rotate_left
            ·show Act.put _ (some 42) _ = _
             simp only [Act.put, List.setIfInBounds_toArray, List.set_cons_zero, List.set_cons_succ, i64_w, i32_w]
             rfl
            refine pu_ 20 43 (tf 21 1) rfl rfl ?_; refine pu_ 21 44 (tf 22 0) rfl rfl ?_; refine done_ (done_of HT_.out (by kernel_rfl)) ?_; (try go_wp2)
            go_roundg k2
            case measure => have := HK1.out; have := HK2.out; omega
            case rel => exact ⟨(x5_2), (wrap64 (x6_2 + 1)), es, H', ⟨by have := HK1.out; have := HK2.out; omega⟩, ⟨by (with_reducible repeat (first | apply Kd.S_alloc | apply Kd.S_drewN | apply Kd.S_drew)); exact Kd.S_mono HO_3.out (fun _ hk => hk.1)⟩, ⟨vr (Kd.R_mono HO_5.out (fun _ hk => trivial))⟩, ⟨vk BK155.out⟩, ⟨vb HB.out⟩⟩
          ·exact nO_ c13 H
         ·exact nO_ c12 H
        ·exact nO_ c11 H
       ·exact nO_ c10 H
      ·rw [if_neg c9] at H; have c9b0 := decide_eq_false c9; clear c9; by_cases c26 : x3_1.length < 5864062014805
       ·rw [if_pos c26] at H; have LMc26 := ak c26; clear c26; obtain ⟨y171, hy171⟩ := gen_ ((x3_1 ++ [x5_2] : List (List Int))); rw [← hy171] at H; have Ny171 := ak hy171; clear hy171; have H' := ak H; clear H; have hcz27 := cz6 BK155.out; obtain ⟨Ao29, co29, eo29⟩ := Kd.R_slice HO_5.out; subst eo29; go_wp2_with (first | ((with_reducible refine at_bi (b := .append) (xs := #[.tmp 49, .tmp 51]) rfl ?_); at_builtin; refine Kd.S_append (Kd.slice 2 (Kd.int .i64)) (w0 := w) w.heap.size rfl (.tmp 49) (.tmp 51) 65 24 (.slice none 0 0) 24 rfl Try.underlying65 info24 rfl (by decide) (by omega) u3 x3_1 x5_2 [.slice Ao29 x5_2.length co29] (fun _ => True) (fun k_ => some k_ = (.slice Ao29 x5_2.length co29 : Value).ownBlock) rfl rfl ?aP (fun k_ hk_ => ((Kd.R_mono (ok' := fun k_ => ((fun _ => True)) k_ ∧ some k_ ≠ (u3 : Value).ownBlock) (Kd.R_apart' (HO_5.out) (Kd.S_typed HO_3.out) (by decide)) (fun k_ hk => ⟨trivial, hk.2⟩))).1 k_ hk_.symm) ?aF ?aO ?aB ?aS ?aL ?_; (case aP => exact Kd.M_row (Kd.R_mono (Kd.R_tight rfl (Kd.R_mono (ok' := fun k_ => ((fun _ => True)) k_ ∧ some k_ ≠ (u3 : Value).ownBlock) (Kd.R_apart' (HO_5.out) (Kd.S_typed HO_3.out) (by decide)) (fun k_ hk => ⟨trivial, hk.2⟩))) (fun _ h_ => h_))); (case aB => exact (vb HB.out)); (case aF => exact (fun _ _ => trivial)); (case aO => exact (by (with_reducible repeat (first | apply Kd.S_alloc | apply Kd.S_drewN | apply Kd.S_drew)); exact Kd.S_mono HO_3.out (fun k_ hk => ⟨trivial, fun e_ => hk e_⟩))); (case aS => exact (below_size (vb HB.out))); (case aL => have := LMc26.out; omega); intro v172 w28 ho hb hg hat; rw [← Ny171.out] at ho; have n0_ := ak (blk_grown (g := gb155) (o := .cells (f5 A0_0 l0_0 c0_0 A0_1 l0_1 c0_1 A0_2 l0_2 c0_2 A0_3 l0_3 c0_3 A0_4 l0_4 c0_4 a0_5) 33 (0, 0)) (vk BK155.out) hg (Kd.S_ne HO_3.out BK155.out (by decide))); have n1_ := ak (hb); have n2_ := ak (ho); clear BK155; clear HB; clear HO_3; clear HO_5; have BK155 := n0_; have HB := n1_; have HO173 := n2_; clear n0_ n1_ n2_; clear ho hb hg hat))
        go_roundg k2
        case measure => have := HK1.out; have := HK2.out; omega
        case rel => exact ⟨(y171), (wrap64 (x4_1 + 1)), es, H', ⟨by have := HK1.out; have := HK2.out; omega⟩, ⟨vS HO173.out⟩, ⟨vk BK155.out⟩, ⟨vb HB.out⟩⟩
       ·exact nO_ c26 H
   ·rw [if_neg c5] at H; have c5b0 := decide_eq_false c5; clear c5; obtain rfl := sj H; have hcz30 := cz6 BK155.out; go_wp2
    go_ret
    exact ⟨_, ew, vS HO_3.out, vb HB.out⟩


/-! ### impl_distanceFor: function 134 -/
def impl_distanceFor.l0 : Nat → Int → Int → Int → List (S98) → Int → Int → Option (Int)
 | 0, _, _, _, _, _, _ => none
 | k + 1, x1, x2, x7, x10, x11, x12 => if x12 < x11 then (if 0 ≤ x12 then (if x12 < (x10.length : Int) then (if ((rd_T98 x10 x12).f0) = x2 then (if ((rd_T98 x10 x12).f1) ≥ x1 then (some ((rd_T98 x10 x12).f2)) else (impl_distanceFor.l0 k x1 x2 (-1) x10 x11 (wrap64 (x12 + 1)))) else (impl_distanceFor.l0 k x1 x2 x7 x10 x11 (wrap64 (x12 + 1)))) else (none)) else (none)) else (some x7)
def impl_distanceFor.f (k : Nat) (l0 : List (S98)) (a1 : Int) (a2 : Int) : Option (Int) := impl_distanceFor.l0 k a1 a2 0 l0 (l0.length : Int) 0
theorem impl_distanceFor.mono_l : ∀ k, (∀ y0 y1 y2 y3 y4 y5, LeO (impl_distanceFor.l0 k y0 y1 y2 y3 y4 y5) (impl_distanceFor.l0 (k + 1) y0 y1 y2 y3 y4 y5))
 | 0 => fun _ _ _ _ _ _ r h => by simp [impl_distanceFor.l0] at h
 | k + 1 => by
  have ih0 := impl_distanceFor.mono_l k
  ·intro y0 y1 y2 y3 y4 y5; unfold impl_distanceFor.l0
   repeat' (with_reducible first | exact ih0 .. | exact lm | refine LeO.ite ?_ ?_ | refine LeO.bind ?_ (fun _ => ?_))
theorem impl_distanceFor.mono : ∀ a0 a1 a2 k, LeO (impl_distanceFor.f k a0 a1 a2) (impl_distanceFor.f (k + 1) a0 a1 a2) := by
 intro a0 a1 a2 k; have ih0 := impl_distanceFor.mono_l k; unfold impl_distanceFor.f
 repeat' (with_reducible first | exact ih0 .. | exact lm | refine LeO.ite ?_ ?_ | refine LeO.bind ?_ (fun _ => ?_))
set_option maxHeartbeats 8000000 in
set_option maxRecDepth 100000 in
theorem impl_distanceFor.calls (k : Nat) (A0 : Option Addr) (c0 : Nat) (l0 : List (S98)) (a1 : Int) (a2 : Int) (r : Int) (w : World) (hr0 : Kd.C k98 w A0 l0.length l0) (hc0 : l0.length ≤ c0) (h : impl_distanceFor.f k l0 a1 a2 = some r) :
  Calls Try.prog 134 #[.slice A0 l0.length c0, .int .i64 a1, .int .i64 a2] w fun e w' => e = .returned (.int .i64 r) ∧ Below w.heap.size w w' := by
 have hu98 := Try.underlying98; have HR0 := ak hr0; have HC0 := ak hc0; clear hr0 hc0; have HB := ak (Below.refl w.heap.size w); unfold impl_distanceFor.f at h; have H := h; clear h; have H' := ak H; clear H; go_enter Try.func134, Try.ntmps134; go_wp2
 go_loopg [7, 12] k (fun kq v7 v12 w' => ∃ (x7_1 : Int) (x12_1 : Int), v7 = .int .i64 x7_1 ∧ v12 = .int .i64 x12_1 ∧ Aside0 (impl_distanceFor.l0 kq a1 a2 x7_1 l0 (l0.length : Int) x12_1 = some r) ∧ Aside0 (kq ≤ k) ∧ Aside0 (Below w.heap.size w w'))
 case atStart => exact ⟨(0), (0), es, es, H', ⟨Nat.le_refl _⟩, ⟨vb HB.out⟩⟩
 case round =>
  clear H'; obtain ⟨x7_1, x12_1, rfl, rfl, HA, HK1, HB⟩ := hrel
  cases gk with
  | zero => exact absurd HA.out (by simp [impl_distanceFor.l0])
  | succ k1 =>
   have H := HA.out; clear HA; simp only [impl_distanceFor.l0] at H
   by_cases c4 : x12_1 < (l0.length : Int)
   ·rw [if_pos c4] at H; have c4b0 := decide_eq_true c4; clear c4; by_cases c5 : 0 ≤ x12_1
    ·rw [if_pos c5] at H; have c5b0 := decide_eq_true c5; clear c5; by_cases c6 : x12_1 < (l0.length : Int)
     ·rw [if_pos c6] at H; have c6b0 := decide_eq_true c6; clear c6; by_cases c7 : ((rd_T98 l0 x12_1).f0) = a2
      ·rw [if_pos c7] at H; have c7b0 : (((rd_T98 l0 x12_1).f0) == a2) = true := beq_iff_eq.mpr c7; have c7b1 : (((rd_T98 l0 x12_1).f0) != a2) = false := bne_eq_false_iff_eq.mpr c7; clear c7; by_cases c8 : ((rd_T98 l0 x12_1).f1) ≥ a1
       ·rw [if_pos c8] at H; have c8b0 := decide_eq_true c8; clear c8; obtain rfl := sj H; have p336 : 0 ≤ (x12_1 : Int) := od; have q336 : x12_1 < (l0.length : Int) := od; obtain ⟨ad336, e336, hx336_0, hx336_1, hx336_2⟩ := at_T98 HR0.out x12_1 p336 q336
        cases e336; replace hx336_0 := cb HB.out hx336_0; replace hx336_1 := cb HB.out hx336_1; replace hx336_2 := cb HB.out hx336_2; replace p336 := eq_true p336; replace q336 := eq_true q336; go_wp2_with (first | ((with_reducible refine gate_dst (N := 9) rfl ?_); refine bx 9 #[.int .i64 0, .int .i64 0, .int .i64 0] 98 ?_; intro gb337 hg w9 hbox hb; have BK337 := ak hbox; have GW337 := gw hg HB; have GE337 := gw hg HB; replace HB := bs HB hb; clear hb hbox hg; have hcz10 := cz3 BK337.out))
        go_ret
        exact ⟨ew, vb HB.out⟩
       ·rw [if_neg c8] at H; have c8b0 := decide_eq_false c8; clear c8; have H' := ak H; clear H; have p336 : 0 ≤ (x12_1 : Int) := od; have q336 : x12_1 < (l0.length : Int) := od; obtain ⟨ad336, e336, hx336_0, hx336_1, hx336_2⟩ := at_T98 HR0.out x12_1 p336 q336
        cases e336; replace hx336_0 := cb HB.out hx336_0; replace hx336_1 := cb HB.out hx336_1; replace hx336_2 := cb HB.out hx336_2; replace p336 := eq_true p336; replace q336 := eq_true q336; go_wp2_with (first | ((with_reducible refine gate_dst (N := 9) rfl ?_); refine bx 9 #[.int .i64 0, .int .i64 0, .int .i64 0] 98 ?_; intro gb337 hg w11 hbox hb; have BK337 := ak hbox; have GW337 := gw hg HB; have GE337 := gw hg HB; replace HB := bs HB hb; clear hb hbox hg; have hcz12 := cz3 BK337.out))
        go_roundg k1
        case measure => have := HK1.out; omega
        case rel => exact ⟨((-1)), (wrap64 (x12_1 + 1)), es, es, H', ⟨by have := HK1.out; omega⟩, ⟨vb HB.out⟩⟩
      ·rw [if_neg c7] at H; have c7b0 : (((rd_T98 l0 x12_1).f0) == a2) = false := beq_eq_false_iff_ne.mpr c7; have c7b1 : (((rd_T98 l0 x12_1).f0) != a2) = true := bne_iff_ne.mpr c7; have H' := ak H; clear H; have p336 : 0 ≤ (x12_1 : Int) := od; have q336 : x12_1 < (l0.length : Int) := od; obtain ⟨ad336, e336, hx336_0, hx336_1, hx336_2⟩ := at_T98 HR0.out x12_1 p336 q336
       cases e336; replace hx336_0 := cb HB.out hx336_0; replace hx336_1 := cb HB.out hx336_1; replace hx336_2 := cb HB.out hx336_2; replace p336 := eq_true p336; replace q336 := eq_true q336; go_wp2_with (first | ((with_reducible refine gate_dst (N := 9) rfl ?_); refine bx 9 #[.int .i64 0, .int .i64 0, .int .i64 0] 98 ?_; intro gb337 hg w13 hbox hb; have BK337 := ak hbox; have GW337 := gw hg HB; have GE337 := gw hg HB; replace HB := bs HB hb; clear hb hbox hg; have hcz14 := cz3 BK337.out))
       go_roundg k1
       case measure => have := HK1.out; omega
       case rel => exact ⟨(x7_1), (wrap64 (x12_1 + 1)), es, es, H', ⟨by have := HK1.out; omega⟩, ⟨vb HB.out⟩⟩
     ·exact nO_ c6 H
    ·exact nO_ c5 H
   ·rw [if_neg c4] at H; have c4b0 := decide_eq_false c4; clear c4; obtain rfl := sj H; go_wp2
    go_ret
    exact ⟨ew, vb HB.out⟩


/-! ### impl_squareTo: function 135 -/
def impl_squareTo.f (a0_0 : Int) (a0_1 : Int) (a0_2 : Int) (a0_3 : Int) (a0_4 : Int) (a1 : Int) (a2 : Int) : Option (Int) := some (wrap64 ((wrap64 ((mx (mx 0 (wrap64 (a0_1 - a1))) (wrap64 ((wrap64 (a1 - a0_1)) - a0_3))) * (mx (mx 0 (wrap64 (a0_1 - a1))) (wrap64 ((wrap64 (a1 - a0_1)) - a0_3))))) + (wrap64 ((mx (mx 0 (wrap64 (a0_2 - a2))) (wrap64 ((wrap64 (a2 - a0_2)) - a0_4))) * (mx (mx 0 (wrap64 (a0_2 - a2))) (wrap64 ((wrap64 (a2 - a0_2)) - a0_4)))))))
set_option maxHeartbeats 8000000 in
set_option maxRecDepth 100000 in
theorem impl_squareTo.calls (a0_0 : Int) (a0_1 : Int) (a0_2 : Int) (a0_3 : Int) (a0_4 : Int) (a1 : Int) (a2 : Int) (r : Int) (w : World) (h : impl_squareTo.f a0_0 a0_1 a0_2 a0_3 a0_4 a1 a2 = some r) :
  Calls Try.prog 135 #[.agg #[.int .i64 a0_0, .int .i64 a0_1, .int .i64 a0_2, .int .i64 a0_3, .int .i64 a0_4], .int .i64 a1, .int .i64 a2] w fun e w' => e = .returned (.int .i64 r) ∧ Below w.heap.size w w' := by
 have hu103 := Try.underlying103; have HB := ak (Below.refl w.heap.size w); unfold impl_squareTo.f at h; have H := h; clear h; obtain ⟨ji4, hji4⟩ : ∃ j_ : Int, (mx 0 (wrap64 (a0_1 - a1))) = j_ := ⟨_, rfl⟩; replace H : (some (wrap64 ((wrap64 ((mx (ji4) (wrap64 ((wrap64 (a1 - a0_1)) - a0_3))) * (mx (ji4) (wrap64 ((wrap64 (a1 - a0_1)) - a0_3))))) + (wrap64 ((mx (mx 0 (wrap64 (a0_2 - a2))) (wrap64 ((wrap64 (a2 - a0_2)) - a0_4))) * (mx (mx 0 (wrap64 (a0_2 - a2))) (wrap64 ((wrap64 (a2 - a0_2)) - a0_4)))))))) = some r := by first | (rw [hji4] at H; exact H) | (simp only [hji4] at H ⊢; exact H)
 (try (have hji4l : 0 ≤ ji4 := by (rw [← hji4]; unfold mx; (repeat' split) <;> omega)))
 (try (have hji4m : 0 ≤ ji4 := by omega))
 have hji4_ : (if 0 < (wrap64 (a0_1 - a1)) then (wrap64 (a0_1 - a1)) else 0) = ji4 := hji4; obtain ⟨ji5, hji5⟩ : ∃ j_ : Int, (mx (ji4) (wrap64 ((wrap64 (a1 - a0_1)) - a0_3))) = j_ := ⟨_, rfl⟩; replace H : (some (wrap64 ((wrap64 ((ji5) * (ji5))) + (wrap64 ((mx (mx 0 (wrap64 (a0_2 - a2))) (wrap64 ((wrap64 (a2 - a0_2)) - a0_4))) * (mx (mx 0 (wrap64 (a0_2 - a2))) (wrap64 ((wrap64 (a2 - a0_2)) - a0_4)))))))) = some r := by first | (rw [hji5] at H; exact H) | (simp only [hji5] at H ⊢; exact H)
 have hji5_ : (if (ji4) < (wrap64 ((wrap64 (a1 - a0_1)) - a0_3)) then (wrap64 ((wrap64 (a1 - a0_1)) - a0_3)) else (ji4)) = ji5 := hji5; obtain ⟨ji6, hji6⟩ : ∃ j_ : Int, (mx 0 (wrap64 (a0_2 - a2))) = j_ := ⟨_, rfl⟩; replace H : (some (wrap64 ((wrap64 ((ji5) * (ji5))) + (wrap64 ((mx (ji6) (wrap64 ((wrap64 (a2 - a0_2)) - a0_4))) * (mx (ji6) (wrap64 ((wrap64 (a2 - a0_2)) - a0_4)))))))) = some r := by first | (rw [hji6] at H; exact H) | (simp only [hji6] at H ⊢; exact H)
 (try (have hji6l : 0 ≤ ji6 := by (rw [← hji6]; unfold mx; (repeat' split) <;> omega)))
 (try (have hji6m : 0 ≤ ji6 := by omega))
 have hji6_ : (if 0 < (wrap64 (a0_2 - a2)) then (wrap64 (a0_2 - a2)) else 0) = ji6 := hji6; obtain ⟨ji7, hji7⟩ : ∃ j_ : Int, (mx (ji6) (wrap64 ((wrap64 (a2 - a0_2)) - a0_4))) = j_ := ⟨_, rfl⟩; replace H : (some (wrap64 ((wrap64 ((ji5) * (ji5))) + (wrap64 ((ji7) * (ji7)))))) = some r := by first | (rw [hji7] at H; exact H) | (simp only [hji7] at H ⊢; exact H)
 have hji7_ : (if (ji6) < (wrap64 ((wrap64 (a2 - a0_2)) - a0_4)) then (wrap64 ((wrap64 (a2 - a0_2)) - a0_4)) else (ji6)) = ji7 := hji7; obtain rfl := sj H; go_enter Try.func135, Try.ntmps135; go_wp2_with (first | ((with_reducible refine gate_dst (N := 3) rfl ?_); refine bx 3 #[.int .i64 a0_0, .int .i64 a0_1, .int .i64 a0_2, .int .i64 a0_3, .int .i64 a0_4] 103 ?_; intro gb338 hg w8 hbox hb; have BK338 := ak hbox; have GW338 := gw hg HB; have GE338 := gw hg HB; replace HB := bs HB hb; clear hb hbox hg; have hcz9 := cz5 BK338.out))
 go_ret
 exact ⟨by first | rfl | (simp [errW_none, errW_some] <;> rfl) | (simp only [← hji4, ← hji5, ← hji6, ← hji7]; first | rfl | (simp [errW_none, errW_some] <;> rfl)) | (simp [*, errW_none, errW_some] <;> rfl), vb HB.out⟩


/-! ### impl_areasAgainst: function 115 -/
def impl_areasAgainst.l0 : Nat → List (S98) → Int → Int → Int → List Int → List (S103) → Int → Int → Option (List Int)
 | 0, _, _, _, _, _, _, _, _ => none
 | k + 1, x0, x2, x3, x4, x11, x15, x16, x17 => if x17 < x16 then (if 0 ≤ x17 then (if x17 < (x15.length : Int) then ((impl_distanceFor.f k x0 x2 ((rd_T103 x15 x17).f0)).bind fun t341 => (if t341 < 0 then (if x11.length < 17592186044416 then (impl_areasAgainst.l0 k x0 x2 x3 x4 (x11 ++ [x17]) x15 x16 (wrap64 (x17 + 1))) else (none)) else ((impl_squareTo.f ((rd_T103 x15 x17).f0) ((rd_T103 x15 x17).f1) ((rd_T103 x15 x17).f2) ((rd_T103 x15 x17).f3) ((rd_T103 x15 x17).f4) x3 x4).bind fun t345 => (if t345 < (wrap64 (t341 * t341)) then (if x11.length < 17592186044416 then (impl_areasAgainst.l0 k x0 x2 x3 x4 (x11 ++ [x17]) x15 x16 (wrap64 (x17 + 1))) else (none)) else (impl_areasAgainst.l0 k x0 x2 x3 x4 x11 x15 x16 (wrap64 (x17 + 1))))))) else (none)) else (none)) else (some x11)
def impl_areasAgainst.f (k : Nat) (l0 : List (S98)) (l1 : List (S103)) (a2 : Int) (a3 : Int) (a4 : Int) : Option (List Int) := impl_areasAgainst.l0 k l0 a2 a3 a4 ([] : List Int) l1 (l1.length : Int) 0
theorem impl_areasAgainst.mono_l : ∀ k, (∀ y0 y1 y2 y3 y4 y5 y6 y7, LeO (impl_areasAgainst.l0 k y0 y1 y2 y3 y4 y5 y6 y7) (impl_areasAgainst.l0 (k + 1) y0 y1 y2 y3 y4 y5 y6 y7))
 | 0 => fun _ _ _ _ _ _ _ _ r h => by simp [impl_areasAgainst.l0] at h
 | k + 1 => by
  have ih0 := impl_areasAgainst.mono_l k
  ·intro y0 y1 y2 y3 y4 y5 y6 y7; unfold impl_areasAgainst.l0
   repeat' (with_reducible first | exact ih0 .. | exact impl_distanceFor.mono .. | exact lm | refine LeO.ite ?_ ?_ | refine LeO.bind ?_ (fun _ => ?_))
theorem impl_areasAgainst.mono : ∀ a0 a1 a2 a3 a4 k, LeO (impl_areasAgainst.f k a0 a1 a2 a3 a4) (impl_areasAgainst.f (k + 1) a0 a1 a2 a3 a4) := by
 intro a0 a1 a2 a3 a4 k; have ih0 := impl_areasAgainst.mono_l k; unfold impl_areasAgainst.f
 repeat' (with_reducible first | exact ih0 .. | exact impl_distanceFor.mono .. | exact lm | refine LeO.ite ?_ ?_ | refine LeO.bind ?_ (fun _ => ?_))
set_option maxHeartbeats 8000000 in
set_option maxRecDepth 100000 in
theorem impl_areasAgainst.calls (k : Nat) (A0 : Option Addr) (c0 : Nat) (l0 : List (S98)) (A1 : Option Addr) (c1 : Nat) (l1 : List (S103)) (a2 : Int) (a3 : Int) (a4 : Int) (r : List Int) (w : World) (hr0 : Kd.C k98 w A0 l0.length l0) (hc0 : l0.length ≤ c0) (hr1 : Kd.C k103 w A1 l1.length l1) (hc1 : l1.length ≤ c1) (h : impl_areasAgainst.f k l0 l1 a2 a3 a4 = some r) :
  Calls Try.prog 115 #[.slice A0 l0.length c0, .slice A1 l1.length c1, .int .i64 a2, .int .i64 a3, .int .i64 a4] w fun e w' => ∃ v0_ : Value, e = .returned (v0_) ∧ Kd.R (Kd.int .i64) 2 w' w.heap.size (fun _ => True) v0_ r ∧ Below w.heap.size w w' := by
 have hu103 := Try.underlying103; have HR0 := ak hr0; have HC0 := ak hc0; clear hr0 hc0; have HR1 := ak hr1; have HC1 := ak hc1; clear hr1 hc1; have HB := ak (Below.refl w.heap.size w); unfold impl_areasAgainst.f at h; have H := h; clear h; have H' := ak H; clear H; go_enter Try.func115, Try.ntmps115; go_wp2
 go_loopg [11, 17] k (fun kq v11 v17 w' => ∃ (x11_1 : List Int) (x17_1 : Int), v17 = .int .i64 x17_1 ∧ Aside0 (impl_areasAgainst.l0 kq l0 a2 a3 a4 x11_1 l1 (l1.length : Int) x17_1 = some r) ∧ Aside0 (kq ≤ k) ∧ Aside0 (Kd.R (Kd.int .i64) 2 w' w.heap.size (fun _ => True) v11 x11_1) ∧ Aside0 (Below w.heap.size w w'))
 case atStart => exact ⟨(([] : List Int)), (0), es, H', ⟨Nat.le_refl _⟩, ⟨by first | exact Kd.R_nil _ _ _ _ _ | exact Kd.N_nil _ _ _ _ _ | exact Kd.V_nil _ _ _ _ _ | exact Kd.Q_nil _ _ _ _ _ | exact Kd.S_nil _ _ _ _ _⟩, ⟨vb HB.out⟩⟩
 case round =>
  clear H'; obtain ⟨x11_1, x17_1, rfl, HA, HK1, HO_11, HB⟩ := hrel
  cases gk with
  | zero => exact absurd HA.out (by simp [impl_areasAgainst.l0])
  | succ k1 =>
   have H := HA.out; clear HA; simp only [impl_areasAgainst.l0] at H
   by_cases c6 : x17_1 < (l1.length : Int)
   ·rw [if_pos c6] at H; have c6b0 := decide_eq_true c6; clear c6; by_cases c7 : 0 ≤ x17_1
    ·rw [if_pos c7] at H; have c7b0 := decide_eq_true c7; clear c7; by_cases c8 : x17_1 < (l1.length : Int)
     ·rw [if_pos c8] at H; have c8b0 := decide_eq_true c8; clear c8; obtain ⟨t341, A9, H⟩ := bnk H; by_cases c10 : t341 < 0
      ·rw [if_pos c10] at H; have c10b0 := decide_eq_true c10; clear c10; by_cases c11 : x11_1.length < 17592186044416
       ·rw [if_pos c11] at H; have LMc11 := ak c11; clear c11; obtain ⟨y342, hy342⟩ := gen_ ((x11_1 ++ [x17_1] : List Int)); rw [← hy342] at H; have Ny342 := ak hy342; clear hy342; have H' := ak H; clear H; have p339 : 0 ≤ (x17_1 : Int) := od; have q339 : x17_1 < (l1.length : Int) := od; obtain ⟨ad339, e339, hx339_0, hx339_1, hx339_2, hx339_3, hx339_4⟩ := at_T103 HR1.out x17_1 p339 q339
        cases e339; replace hx339_0 := cb HB.out hx339_0; replace hx339_1 := cb HB.out hx339_1; replace hx339_2 := cb HB.out hx339_2; replace hx339_3 := cb HB.out hx339_3; replace hx339_4 := cb HB.out hx339_4; replace p339 := eq_true p339; replace q339 := eq_true q339; go_wp2_with (first | ((with_reducible refine gate_dst (N := 13) rfl ?_); refine bx 13 #[.int .i64 0, .int .i64 0, .int .i64 0, .int .i64 0, .int .i64 0] 103 ?_; intro gb340 hg w12 hbox hb; replace HO_11 := ak (Kd.R_below (vr HO_11.out) hb); have BK340 := ak hbox; have GW340 := gw hg HB; have GE340 := gw hg HB; replace HB := bs HB hb; clear hb hbox hg; have hcz13 := cz5 BK340.out) | ((with_reducible refine at_fn (f := 134) rfl ?_); refine gl (some 26) Try.func134 #[.slice A0 l0.length c0, .int .i64 a2, .int .i64 ((rd_T103 l1 x17_1).f0)] ?_; (with_reducible refine (impl_distanceFor.calls k1 _ _ l0 a2 ((rd_T103 l1 x17_1).f0) t341 _ ?_ HC0.out A9.out).mono ?_); exact Kd.C_below HR0.out (vb HB.out); rintro e w14 ⟨rfl, hb⟩; refine ⟨_, rfl, ?_⟩; replace HO_11 := ak (Kd.R_below (rz HO_11.out BK340.out) hb); replace BK340 := ak (blk_below (g := gb340) (o := .cells #[.int .i64 ((rd_T103 l1 x17_1).f0), .int .i64 ((rd_T103 l1 x17_1).f1), .int .i64 ((rd_T103 l1 x17_1).f2), .int .i64 ((rd_T103 l1 x17_1).f3), .int .i64 ((rd_T103 l1 x17_1).f4)] 103 (0, 0)) (vz BK340.out) hb); replace HB := bs HB hb; (try clear hb)) | ((with_reducible refine at_bi (b := .append) (xs := #[.tmp 39, .tmp 41]) rfl ?_); at_builtin; refine Kd.R_append (Kd.int .i64) (w0 := w) w.heap.size rfl (.tmp 39) (.tmp 41) 24 2 (.int .i64 0) 8 rfl Try.underlying24 info2 rfl (by decide) (by omega) u11 x11_1 x17_1 [.int .i64 x17_1] (fun _ => True) (fun _ => False) rfl rfl ?aP (fun _ hk => hk.elim) ?aF ?aO ?aB ?aS ?aL ?_; (case aP => exact rfl); (case aB => exact (vb HB.out)); (case aF => exact (fun _ _ => trivial)); (case aO => exact (vr HO_11.out)); (case aS => exact (below_size (vb HB.out))); (case aL => have := LMc11.out; omega); intro v343 w15 ho hb hg hat; rw [← Ny342.out] at ho; have n0_ := ak (blk_grown (g := gb340) (o := .cells #[.int .i64 ((rd_T103 l1 x17_1).f0), .int .i64 ((rd_T103 l1 x17_1).f1), .int .i64 ((rd_T103 l1 x17_1).f2), .int .i64 ((rd_T103 l1 x17_1).f3), .int .i64 ((rd_T103 l1 x17_1).f4)] 103 (0, 0)) (vk BK340.out) hg (Kd.R_ne HO_11.out BK340.out (by decide))); have n1_ := ak (hb); have n2_ := ak (ho); clear BK340; clear HB; clear HO_11; have BK340 := n0_; have HB := n1_; have HO344 := n2_; clear n0_ n1_ n2_; clear ho hb hg hat))
        go_roundg k1
        case measure => have := HK1.out; omega
        case rel => exact ⟨(y342), (wrap64 (x17_1 + 1)), es, H', ⟨by have := HK1.out; omega⟩, ⟨vr HO344.out⟩, ⟨vb HB.out⟩⟩
       ·exact nO_ c11 H
      ·rw [if_neg c10] at H; have c10b0 := decide_eq_false c10; clear c10; obtain ⟨t345, A16, H⟩ := bnk H; by_cases c17 : t345 < (wrap64 (t341 * t341))
       ·rw [if_pos c17] at H; have c17b0 := decide_eq_true c17; clear c17; by_cases c18 : x11_1.length < 17592186044416
        ·rw [if_pos c18] at H; have LMc18 := ak c18; clear c18; obtain ⟨y346, hy346⟩ := gen_ ((x11_1 ++ [x17_1] : List Int)); rw [← hy346] at H; have Ny346 := ak hy346; clear hy346; have H' := ak H; clear H; have p339 : 0 ≤ (x17_1 : Int) := od; have q339 : x17_1 < (l1.length : Int) := od; obtain ⟨ad339, e339, hx339_0, hx339_1, hx339_2, hx339_3, hx339_4⟩ := at_T103 HR1.out x17_1 p339 q339
         cases e339; replace hx339_0 := cb HB.out hx339_0; replace hx339_1 := cb HB.out hx339_1; replace hx339_2 := cb HB.out hx339_2; replace hx339_3 := cb HB.out hx339_3; replace hx339_4 := cb HB.out hx339_4; replace p339 := eq_true p339; replace q339 := eq_true q339; go_wp2_with (first | ((with_reducible refine gate_dst (N := 13) rfl ?_); refine bx 13 #[.int .i64 0, .int .i64 0, .int .i64 0, .int .i64 0, .int .i64 0] 103 ?_; intro gb340 hg w19 hbox hb; replace HO_11 := ak (Kd.R_below (vr HO_11.out) hb); have BK340 := ak hbox; have GW340 := gw hg HB; have GE340 := gw hg HB; replace HB := bs HB hb; clear hb hbox hg; have hcz20 := cz5 BK340.out) | ((with_reducible refine at_fn (f := 134) rfl ?_); refine gl (some 26) Try.func134 #[.slice A0 l0.length c0, .int .i64 a2, .int .i64 ((rd_T103 l1 x17_1).f0)] ?_; (with_reducible refine (impl_distanceFor.calls k1 _ _ l0 a2 ((rd_T103 l1 x17_1).f0) t341 _ ?_ HC0.out A9.out).mono ?_); exact Kd.C_below HR0.out (vb HB.out); rintro e w21 ⟨rfl, hb⟩; refine ⟨_, rfl, ?_⟩; replace HO_11 := ak (Kd.R_below (rz HO_11.out BK340.out) hb); replace BK340 := ak (blk_below (g := gb340) (o := .cells #[.int .i64 ((rd_T103 l1 x17_1).f0), .int .i64 ((rd_T103 l1 x17_1).f1), .int .i64 ((rd_T103 l1 x17_1).f2), .int .i64 ((rd_T103 l1 x17_1).f3), .int .i64 ((rd_T103 l1 x17_1).f4)] 103 (0, 0)) (vz BK340.out) hb); replace HB := bs HB hb; (try clear hb); have hcz22 := cz5 BK340.out) | (go_at_call 135; (with_reducible refine (impl_squareTo.calls ((rd_T103 l1 x17_1).f0) ((rd_T103 l1 x17_1).f1) ((rd_T103 l1 x17_1).f2) ((rd_T103 l1 x17_1).f3) ((rd_T103 l1 x17_1).f4) a3 a4 t345 _ A16.out).mono ?_); rintro e w23 ⟨rfl, hb⟩; replace HO_11 := ak (Kd.R_below (vr HO_11.out) hb); replace BK340 := kb BK340 hb; replace HB := bs HB hb; (try clear hb)) | ((with_reducible refine at_bi (b := .append) (xs := #[.tmp 39, .tmp 41]) rfl ?_); at_builtin; refine Kd.R_append (Kd.int .i64) (w0 := w) w.heap.size rfl (.tmp 39) (.tmp 41) 24 2 (.int .i64 0) 8 rfl Try.underlying24 info2 rfl (by decide) (by omega) u11 x11_1 x17_1 [.int .i64 x17_1] (fun _ => True) (fun _ => False) rfl rfl ?aP (fun _ hk => hk.elim) ?aF ?aO ?aB ?aS ?aL ?_; (case aP => exact rfl); (case aB => exact (vb HB.out)); (case aF => exact (fun _ _ => trivial)); (case aO => exact (vr HO_11.out)); (case aS => exact (below_size (vb HB.out))); (case aL => have := LMc18.out; omega); intro v347 w24 ho hb hg hat; rw [← Ny346.out] at ho; have n0_ := ak (blk_grown (g := gb340) (o := .cells #[.int .i64 ((rd_T103 l1 x17_1).f0), .int .i64 ((rd_T103 l1 x17_1).f1), .int .i64 ((rd_T103 l1 x17_1).f2), .int .i64 ((rd_T103 l1 x17_1).f3), .int .i64 ((rd_T103 l1 x17_1).f4)] 103 (0, 0)) (vk BK340.out) hg (Kd.R_ne HO_11.out BK340.out (by decide))); have n1_ := ak (hb); have n2_ := ak (ho); clear BK340; clear HB; clear HO_11; have BK340 := n0_; have HB := n1_; have HO348 := n2_; clear n0_ n1_ n2_; clear ho hb hg hat))
         go_roundg k1
         case measure => have := HK1.out; omega
         case rel => exact ⟨(y346), (wrap64 (x17_1 + 1)), es, H', ⟨by have := HK1.out; omega⟩, ⟨vr HO348.out⟩, ⟨vb HB.out⟩⟩
        ·exact nO_ c18 H
       ·rw [if_neg c17] at H; have c17b0 := decide_eq_false c17; clear c17; have H' := ak H; clear H; have p339 : 0 ≤ (x17_1 : Int) := od; have q339 : x17_1 < (l1.length : Int) := od; obtain ⟨ad339, e339, hx339_0, hx339_1, hx339_2, hx339_3, hx339_4⟩ := at_T103 HR1.out x17_1 p339 q339
        cases e339; replace hx339_0 := cb HB.out hx339_0; replace hx339_1 := cb HB.out hx339_1; replace hx339_2 := cb HB.out hx339_2; replace hx339_3 := cb HB.out hx339_3; replace hx339_4 := cb HB.out hx339_4; replace p339 := eq_true p339; replace q339 := eq_true q339; go_wp2_with (first | ((with_reducible refine gate_dst (N := 13) rfl ?_); refine bx 13 #[.int .i64 0, .int .i64 0, .int .i64 0, .int .i64 0, .int .i64 0] 103 ?_; intro gb340 hg w25 hbox hb; replace HO_11 := ak (Kd.R_below (vr HO_11.out) hb); have BK340 := ak hbox; have GW340 := gw hg HB; have GE340 := gw hg HB; replace HB := bs HB hb; clear hb hbox hg; have hcz26 := cz5 BK340.out) | ((with_reducible refine at_fn (f := 134) rfl ?_); refine gl (some 26) Try.func134 #[.slice A0 l0.length c0, .int .i64 a2, .int .i64 ((rd_T103 l1 x17_1).f0)] ?_; (with_reducible refine (impl_distanceFor.calls k1 _ _ l0 a2 ((rd_T103 l1 x17_1).f0) t341 _ ?_ HC0.out A9.out).mono ?_); exact Kd.C_below HR0.out (vb HB.out); rintro e w27 ⟨rfl, hb⟩; refine ⟨_, rfl, ?_⟩; replace HO_11 := ak (Kd.R_below (rz HO_11.out BK340.out) hb); replace BK340 := ak (blk_below (g := gb340) (o := .cells #[.int .i64 ((rd_T103 l1 x17_1).f0), .int .i64 ((rd_T103 l1 x17_1).f1), .int .i64 ((rd_T103 l1 x17_1).f2), .int .i64 ((rd_T103 l1 x17_1).f3), .int .i64 ((rd_T103 l1 x17_1).f4)] 103 (0, 0)) (vz BK340.out) hb); replace HB := bs HB hb; (try clear hb); have hcz28 := cz5 BK340.out) | (go_at_call 135; (with_reducible refine (impl_squareTo.calls ((rd_T103 l1 x17_1).f0) ((rd_T103 l1 x17_1).f1) ((rd_T103 l1 x17_1).f2) ((rd_T103 l1 x17_1).f3) ((rd_T103 l1 x17_1).f4) a3 a4 t345 _ A16.out).mono ?_); rintro e w29 ⟨rfl, hb⟩; replace HO_11 := ak (Kd.R_below (vr HO_11.out) hb); replace BK340 := kb BK340 hb; replace HB := bs HB hb; (try clear hb)))
        go_roundg k1
        case measure => have := HK1.out; omega
        case rel => exact ⟨(x11_1), (wrap64 (x17_1 + 1)), es, H', ⟨by have := HK1.out; omega⟩, ⟨vr HO_11.out⟩, ⟨vb HB.out⟩⟩
     ·exact nO_ c8 H
    ·exact nO_ c7 H
   ·rw [if_neg c6] at H; have c6b0 := decide_eq_false c6; clear c6; obtain rfl := sj H; go_wp2
    go_ret
    exact ⟨_, ew, vr HO_11.out, vb HB.out⟩


/-! ### impl_isAllowed: function 68 -/
def impl_isAllowed.f (k : Nat) (l0 : List (S98)) (l1 : List (S103)) (a2 : Int) (a3 : Int) (a4 : Int) : Option (Bool) := (impl_areasAgainst.f k l0 l1 a2 a3 a4).bind fun t349 => (some ((t349.length : Int) == 0))
theorem impl_isAllowed.mono : ∀ a0 a1 a2 a3 a4 k, LeO (impl_isAllowed.f k a0 a1 a2 a3 a4) (impl_isAllowed.f (k + 1) a0 a1 a2 a3 a4) := by
 intro a0 a1 a2 a3 a4 k; unfold impl_isAllowed.f
 repeat' (with_reducible first | exact impl_areasAgainst.mono .. | exact lm | refine LeO.ite ?_ ?_ | refine LeO.bind ?_ (fun _ => ?_))
set_option maxHeartbeats 8000000 in
set_option maxRecDepth 100000 in
theorem impl_isAllowed.calls (k : Nat) (A0 : Option Addr) (c0 : Nat) (l0 : List (S98)) (A1 : Option Addr) (c1 : Nat) (l1 : List (S103)) (a2 : Int) (a3 : Int) (a4 : Int) (r : Bool) (w : World) (hr0 : Kd.C k98 w A0 l0.length l0) (hc0 : l0.length ≤ c0) (hr1 : Kd.C k103 w A1 l1.length l1) (hc1 : l1.length ≤ c1) (h : impl_isAllowed.f k l0 l1 a2 a3 a4 = some r) :
  Calls Try.prog 68 #[.slice A0 l0.length c0, .slice A1 l1.length c1, .int .i64 a2, .int .i64 a3, .int .i64 a4] w fun e w' => e = .returned (.bool r) ∧ Below w.heap.size w w' := by
 have HR0 := ak hr0; have HC0 := ak hc0; clear hr0 hc0; have HR1 := ak hr1; have HC1 := ak hc1; clear hr1 hc1; have HB := ak (Below.refl w.heap.size w); unfold impl_isAllowed.f at h; have H := h; clear h; obtain ⟨t349, A6, H⟩ := bnk H; obtain rfl := sj H; go_enter Try.func68, Try.ntmps68; go_wp2_with (first | ((with_reducible refine at_fn (f := 115) rfl ?_); refine gl (some 16) Try.func115 #[.slice A0 l0.length c0, .slice A1 l1.length c1, .int .i64 a2, .int .i64 a3, .int .i64 a4] ?_; (with_reducible refine (impl_areasAgainst.calls k _ _ l0 _ _ l1 a2 a3 a4 t349 _ ?_ HC0.out ?_ HC1.out A6.out).mono ?_); exact vc HR0.out; exact vc HR1.out; rintro e w7 ⟨v350, rfl, ho0, hb⟩; refine ⟨_, rfl, ?_⟩; have HO351 := ak (Kd.R_lower ho0 (below_size (vb HB.out))); replace HB := bs HB hb; (try clear hb); (try clear ho0); obtain ⟨Ao8, co8, eo8⟩ := Kd.R_slice HO351.out; subst eo8))
 go_ret
 exact ⟨ew, vb HB.out⟩


end Go.Proofs.Ytancnecddlbhkaa.Pall
