/- Go functions of the program, each as a Lean function, and the proof that each call comes to what the Lean function tells; no condition beyond those that stand there. -/
import Derived.Test.YtancnecddlbhkaaF00
import Derived.Test.YtancnecddlbhkaaSq
import Derived.Test.YtancnecddlbhkaaWApart
import Derived.Test.YtancnecddlbhkaaWLast
import Derived.Test.YtancnecddlbhkaaWMore
import Derived.Test.YtancnecddlbhkaaWTab
import Derived.Test.YtancnecddlbhkaaSpare
import Derived.Test.YtancnecddlbhkaaCm
import Derived.Test.YtancnecddlbhkaaCm4
import Derived.Test.YtancnecddlbhkaaCm3
import Derived.Test.YtancnecddlbhkaaCm6
import Derived.Test.YtancnecddlbhkaaCm9
namespace Go.Proofs.Ytancnecddlbhkaa.Pall
open Go.RowKit Go.Proofs.YtancnecddlbhkaaW.PrintWords Go.Proofs.YtancnecddlbhkaaW.PrintLast Go.Proofs.YtancnecddlbhkaaW.PrintMore
attribute [local go_sem] max2_int min2_int max_two min_two max_three min_three max_four min_four
set_option linter.unusedVariables false
set_option linter.unusedSimpArgs false

/-! ### spec_l16Distance: function 132 -/
def spec_l16Distance.l0 : Nat → List (S98) → Int → Int → Int → Int → Option (Int)
 | 0, _, _, _, _, _ => none
 | k + 1, x5, x0, x6, x7, x2 => if x2 < (x5.length : Int) then (if 0 ≤ x2 then (if ((rd_T98 x5 x2).f0) = x6 then (if ((rd_T98 x5 x2).f1) ≥ x0 then (some ((rd_T98 x5 x2).f2)) else (spec_l16Distance.l0 k x5 x0 x6 (-1) (wrap64 (x2 + 1)))) else (spec_l16Distance.l0 k x5 x0 x6 x7 (wrap64 (x2 + 1)))) else (none)) else (some x7)
def spec_l16Distance.f (k : Nat) (l0 : List (S98)) (a1 : Int) (a2 : Int) : Option (Int) := spec_l16Distance.l0 k l0 a1 a2 0 0
set_option maxHeartbeats 8000000 in
set_option maxRecDepth 100000 in
theorem spec_l16Distance.calls (k : Nat) (A0 : Option Addr) (c0 : Nat) (l0 : List (S98)) (a1 : Int) (a2 : Int) (r : Int) (w : World) (hr0 : Kd.C k98 w A0 l0.length l0) (hc0 : l0.length ≤ c0) (h : spec_l16Distance.f k l0 a1 a2 = some r) :
  Calls Try.prog 132 #[.slice A0 l0.length c0, .int .i64 a1, .int .i64 a2] w fun e w' => e = .returned (.int .i64 r) ∧ Drawn0 w w' := by
 have HR0 := ak hr0; have HC0 := ak hc0; clear hr0 hc0; unfold spec_l16Distance.f at h; have H := h; clear h; have H' := ak H; clear H; go_enter Try.func132, Try.ntmps132; go_wp2
 go_loopg [7, 8] k (fun kq v7 v2 w' => ∃ (x7_0 : Int) (x2_0 : Int), v7 = .int .i64 x7_0 ∧ v2 = .int .i64 x2_0 ∧ Aside0 (spec_l16Distance.l0 kq l0 a1 a2 x7_0 x2_0 = some r) ∧ Aside0 (kq ≤ k) ∧ Drawn0 w w')
 case atStart => exact ⟨(0), (0), es, es, H', ⟨Nat.le_refl _⟩, by repeat (first | exact Drawn0.refl _ | apply Drawn0.step)⟩
 case round =>
  clear H'; obtain ⟨x7_0, x2_0, rfl, rfl, HA, HK1, ⟨m0, rfl⟩⟩ := hrel
  cases gk with
  | zero => exact absurd HA.1 (by simp [spec_l16Distance.l0])
  | succ k1 =>
   have H := HA.1; clear HA; simp only [spec_l16Distance.l0] at H
   by_cases c4 : x2_0 < (l0.length : Int)
   ·rw [if_pos c4] at H; have c4b0 := decide_eq_true c4; clear c4; by_cases c5 : 0 ≤ x2_0
    ·rw [if_pos c5] at H; have c5b0 := decide_eq_true c5; clear c5; by_cases c6 : ((rd_T98 l0 x2_0).f0) = a2
     ·rw [if_pos c6] at H; have c6b0 : (((rd_T98 l0 x2_0).f0) == a2) = true := beq_iff_eq.mpr c6; have c6b1 : (((rd_T98 l0 x2_0).f0) != a2) = false := bne_eq_false_iff_eq.mpr c6; clear c6; by_cases c7 : ((rd_T98 l0 x2_0).f1) ≥ a1
      ·rw [if_pos c7] at H; have c7b0 := decide_eq_true c7; clear c7; obtain rfl := sj H; have p1 : 0 ≤ (x2_0 : Int) := od; have q1 : x2_0 < (l0.length : Int) := od; obtain ⟨ad1, e1, hx1_5, hx1_0, hx1_6⟩ := at_T98 HR0.1 x2_0 p1 q1
       cases e1; replace p1 := eq_true p1; replace q1 := eq_true q1; have p3 : 0 ≤ (x2_0 : Int) := od; have q3 : x2_0 < (l0.length : Int) := od; obtain ⟨ad3, e3, hx3_5, hx3_0, hx3_6⟩ := at_T98 HR0.1 x2_0 p3 q3; obtain rfl : ad1 = ad3 := (by injection e3); replace p3 := eq_true p3; replace q3 := eq_true q3; have p4 : 0 ≤ (x2_0 : Int) := od; have q4 : x2_0 < (l0.length : Int) := od; obtain ⟨ad4, e4, hx4_5, hx4_0, hx4_6⟩ := at_T98 HR0.1 x2_0 p4 q4; obtain rfl : ad1 = ad4 := (by injection e4); replace p4 := eq_true p4; replace q4 := eq_true q4; go_wp2
       go_ret
       exact ⟨by first | rfl | (simp; done) | (simp [*]; done), by repeat (first | exact Drawn0.refl _ | apply Drawn0.step)⟩
      ·rw [if_neg c7] at H; have c7b0 := decide_eq_false c7; clear c7; have H' := ak H; clear H; have p1 : 0 ≤ (x2_0 : Int) := od; have q1 : x2_0 < (l0.length : Int) := od; obtain ⟨ad1, e1, hx1_5, hx1_0, hx1_6⟩ := at_T98 HR0.1 x2_0 p1 q1
       cases e1; replace p1 := eq_true p1; replace q1 := eq_true q1; have p3 : 0 ≤ (x2_0 : Int) := od; have q3 : x2_0 < (l0.length : Int) := od; obtain ⟨ad3, e3, hx3_5, hx3_0, hx3_6⟩ := at_T98 HR0.1 x2_0 p3 q3; obtain rfl : ad1 = ad3 := (by injection e3); replace p3 := eq_true p3; replace q3 := eq_true q3; go_wp2
       go_roundg k1
       case measure => have := HK1.1; omega
       case rel => exact ⟨((-1)), (wrap64 (x2_0 + 1)), es, es, H', ⟨by have := HK1.1; omega⟩, by repeat (first | exact Drawn0.refl _ | apply Drawn0.step)⟩
     ·rw [if_neg c6] at H; have c6b0 : (((rd_T98 l0 x2_0).f0) == a2) = false := beq_eq_false_iff_ne.mpr c6; have c6b1 : (((rd_T98 l0 x2_0).f0) != a2) = true := bne_iff_ne.mpr c6; have H' := ak H; clear H; have p1 : 0 ≤ (x2_0 : Int) := od; have q1 : x2_0 < (l0.length : Int) := od; obtain ⟨ad1, e1, hx1_5, hx1_0, hx1_6⟩ := at_T98 HR0.1 x2_0 p1 q1
      cases e1; replace p1 := eq_true p1; replace q1 := eq_true q1; go_wp2
      go_roundg k1
      case measure => have := HK1.1; omega
      case rel => exact ⟨(x7_0), (wrap64 (x2_0 + 1)), es, es, H', ⟨by have := HK1.1; omega⟩, by repeat (first | exact Drawn0.refl _ | apply Drawn0.step)⟩
    ·exact nO_ c5 H
   ·rw [if_neg c4] at H; have c4b0 := decide_eq_false c4; clear c4; obtain rfl := sj H; go_wp2
    go_ret
    exact ⟨by first | rfl | (simp; done) | (simp [*]; done), by repeat (first | exact Drawn0.refl _ | apply Drawn0.step)⟩


/-! ### spec_l15Away: function 137 -/
def spec_l15Away.f (a0 : Int) (a1 : Int) (a2 : Int) : Option (Int) := some (mx (mx 0 (wrap64 (a1 - a0))) (wrap64 (a0 - a2)))
set_option maxHeartbeats 8000000 in
set_option maxRecDepth 100000 in
theorem spec_l15Away.calls (a0 : Int) (a1 : Int) (a2 : Int) (r : Int) (w : World) (h : spec_l15Away.f a0 a1 a2 = some r) :
  Calls Try.prog 137 #[.int .i64 a0, .int .i64 a1, .int .i64 a2] w fun e w' => e = .returned (.int .i64 r) ∧ Below w.heap.size w w' := by
 have HB := ak (Below.refl w.heap.size w); unfold spec_l15Away.f at h; have H := h; clear h; obtain ⟨ji0, hji4⟩ : ∃ j_ : Int, (mx 0 (wrap64 (a1 - a0))) = j_ := ⟨_, rfl⟩; replace H : (some (mx (ji0) (wrap64 (a0 - a2)))) = some r := by first | (rw [hji4] at H; exact H) | (simp only [hji4] at H ⊢; exact H)
 (try (have hji4l : 0 ≤ ji0 := by (rw [← hji4]; unfold mx; (repeat' split) <;> omega)))
 (try (have hji4m : 0 ≤ ji0 := by omega))
 have hji4_ : (if 0 < (wrap64 (a1 - a0)) then (wrap64 (a1 - a0)) else 0) = ji0 := hji4; obtain ⟨ji1, hji5⟩ : ∃ j_ : Int, (mx (ji0) (wrap64 (a0 - a2))) = j_ := ⟨_, rfl⟩; replace H : (some ji1) = some r := by first | (rw [hji5] at H; exact H) | (simp only [hji5] at H ⊢; exact H)
 have hji5_ : (if (ji0) < (wrap64 (a0 - a2)) then (wrap64 (a0 - a2)) else (ji0)) = ji1 := hji5; obtain rfl := sj H; go_enter Try.func137, Try.ntmps137; go_wp2
 go_ret
 exact ⟨by first | rfl | (simp [errW_none, errW_some] <;> rfl) | (simp only [← hji4, ← hji5]; first | rfl | (simp [errW_none, errW_some] <;> rfl)) | (simp [*, errW_none, errW_some] <;> rfl), vb HB.1⟩


/-! ### spec_l15Square: function 133 -/
def spec_l15Square.f (a0_0 : Int) (a0_1 : Int) (a0_2 : Int) (a0_3 : Int) (a0_4 : Int) (a1 : Int) (a2 : Int) : Option (Int) := (spec_l15Away.f a1 a0_1 (wrap64 (a0_1 + a0_3))).bind fun t1 => ((spec_l15Away.f a2 a0_2 (wrap64 (a0_2 + a0_4))).bind fun t2 => (some (wrap64 ((wrap64 (t1 * t1)) + (wrap64 (t2 * t2))))))
def spec_l15Square.T1 : Bool × List (List Nat × List Nat) := (true, [([], []), ([], []), ([1], [1]), ([], []), ([3], [3]), ([], []), ([5], [5]), ([4, 6], [4, 6]), ([0, 2, 7], [0, 2, 7]), ([], []), ([], []), ([10], [10]), ([], []), ([12], [12]), ([], []), ([14], [14]), ([13, 15], [13, 15]), ([9, 11, 16, 8], [9, 11, 16]), ([8, 17, 0, 1, 2, 3, 4, 5, 6, 7, 8], [8]), ([17, 18, 0, 1, 2, 3, 4, 5, 6, 7, 8, 9, 10, 11, 12, 13, 14, 15, 16, 17, 18], [17])])
def spec_l15Square.B1 : List Nat := [0, 0, 2, 0, 8, 0, 32, 120, 255, 0, 0, 1024, 0, 4096, 0, 16384, 61440, 131071, 262143, 524287]
theorem spec_l15Square.tab1 : rtab .any (opsOf Try.f133 1) = spec_l15Square.T1 := by kernel_rfl
theorem spec_l15Square.bits1 : waitsOk spec_l15Square.T1.2 spec_l15Square.B1 = true := by kernel_rfl
set_option maxHeartbeats 8000000 in
set_option maxRecDepth 100000 in
theorem spec_l15Square.calls (a0_0 : Int) (a0_1 : Int) (a0_2 : Int) (a0_3 : Int) (a0_4 : Int) (a1 : Int) (a2 : Int) (r : Int) (w : World) (h : spec_l15Square.f a0_0 a0_1 a0_2 a0_3 a0_4 a1 a2 = some r) :
  Calls Try.prog 133 #[.agg #[.int .i64 a0_0, .int .i64 a0_1, .int .i64 a0_2, .int .i64 a0_3, .int .i64 a0_4], .int .i64 a1, .int .i64 a2] w fun e w' => e = .returned (.int .i64 r) ∧ Below w.heap.size w w' := by
 have hu103 := Try.underlying103; have HB := ak (Below.refl w.heap.size w); unfold spec_l15Square.f at h; have H := h; clear h; obtain ⟨t1, A4, H⟩ := bnk H; obtain ⟨t2, A5, H⟩ := bnk H; obtain rfl := sj H; go_enter Try.func133, Try.ntmps133; (try go_wp2_with (first | ((with_reducible refine gate_dst (N := 3) rfl ?_); refine bx 3 #[.int .i64 a0_0, .int .i64 a0_1, .int .i64 a0_2, .int .i64 a0_3, .int .i64 a0_4] 103 ?_; intro gb0 hg w6 hbox hb; have BK0 := ak hbox; have GW139 := gw hg HB; have GE0 := gw hg HB; replace HB := bs HB hb; clear hb hbox hg)))
 replace BK0 := ak (blk_drew BK0.1); replace HB := ak (below_drew1 HB.1); refine start_ (n := 20) (S := fun w' => w'.cell? ⟨gb0, 0, none⟩ = some (.int .i64 a0_0) ∧ w'.cell? ⟨gb0, 1, none⟩ = some (.int .i64 a0_1) ∧ w'.cell? ⟨gb0, 2, none⟩ = some (.int .i64 a0_2) ∧ w'.cell? ⟨gb0, 3, none⟩ = some (.int .i64 a0_3) ∧ w'.cell? ⟨gb0, 4, none⟩ = some (.int .i64 a0_4)) (ds := []) (tf 0 20) (by kernel_rfl) rfl rfl (cy5 BK0.1) (fun hHeld => ?_); refine with_tabW spec_l15Square.tab1 spec_l15Square.bits1 (fun HT_ HW_ => ?_); generalize w6.drew = w7 at BK0 HB hHeld ⊢; refine pu_ 0 9 (tf 1 19) rfl rfl ?_; refine pu_ 1 10 (tf 2 18) rfl rfl ?_; refine pu_ 3 12 (tM [2, 1, 1, 16]) rfl rfl ?_; refine pu_ 5 14 (tM [2, 1, 1, 1, 1, 14]) rfl rfl ?_; refine pu_ 9 18 (tM [2, 1, 1, 1, 1, 3, 1, 10]) rfl rfl ?_; refine pu_ 10 19 (tM [2, 1, 1, 1, 1, 3, 2, 9]) rfl rfl ?_; refine pu_ 12 21 (tM [2, 1, 1, 1, 1, 3, 2, 1, 1, 7]) rfl rfl ?_; refine pu_ 14 23 (tM [2, 1, 1, 1, 1, 3, 2, 1, 1, 1, 1, 5]) rfl rfl ?_
 refine ta5_ 2 11 (tM [4, 1, 1, 3, 2, 1, 1, 1, 1, 5]) rfl rfl ?_; refine ta5_ 4 13 (tM [6, 3, 2, 1, 1, 1, 1, 5]) rfl rfl ?_; refine ta5_ 6 15 (tM [7, 2, 2, 1, 1, 1, 1, 5]) rfl rfl ?_; refine pu_ 7 16 (tM [8, 1, 2, 1, 1, 1, 1, 5]) rfl rfl ?_; refine ta5_ 11 20 (tM [8, 1, 4, 1, 1, 5]) rfl rfl ?_; refine ta5_ 13 22 (tM [8, 1, 6, 5]) rfl rfl ?_; refine ta5_ 15 24 (tM [8, 1, 7, 4]) rfl rfl ?_; refine pu_ 16 25 (tM [8, 1, 8, 3]) rfl rfl ?_; refine one_ (i := 8) (N := some 17) (tf 17 3) rfl rfl (one_of HT_.1 (by kernel_rfl)) (by decide) (fun K hK => ?_); refine goes_ Try.func137 (by kernel_rfl) rfl #[.int .i64 a1, .int .i64 a0_1, .int .i64 (wrap64 (a0_1 + a0_3))] (by rfl) rfl rfl (by (try simp only [List.map_toArray, List.map_cons, List.map_nil]); first | done | rfl | (simp only [List.length_drop, List.length_take]; rfl)) ?_
 with_reducible refine (spec_l15Away.calls a1 a0_1 (wrap64 (a0_1 + a0_3)) t1 _ A4.1).mono ?_
 rintro e w8 ⟨rfl, hb⟩; refine ⟨_, rfl, ?_⟩; replace BK0 := kb BK0 hb; replace HB := bs HB hb; (try clear hb)
 (try clear hb2)
 (try clear hk)
 (try clear hi)
 refine hK.out _ _ (cy5 BK0.1) (fun hHeld => ?_); clear hK K; refine norm_ (a' := ?_) ?_ ?_
 rotate_left
 ·show Act.put _ (some 17) _ = _
  simp only [Act.put, List.setIfInBounds_toArray, List.set_cons_zero, List.set_cons_succ, i64_w, i32_w]
  rfl
 refine one_ (i := 17) (N := some 26) (tf 18 2) rfl rfl (one_of HT_.1 (by kernel_rfl)) (by decide) (fun K hK => ?_); refine goes_ Try.func137 (by kernel_rfl) rfl #[.int .i64 a2, .int .i64 a0_2, .int .i64 (wrap64 (a0_2 + a0_4))] (by rfl) rfl rfl (by (try simp only [List.map_toArray, List.map_cons, List.map_nil]); first | done | rfl | (simp only [List.length_drop, List.length_take]; rfl)) ?_; with_reducible refine (spec_l15Away.calls a2 a0_2 (wrap64 (a0_2 + a0_4)) t2 _ A5.1).mono ?_
 rintro e w9 ⟨rfl, hb⟩; refine ⟨_, rfl, ?_⟩; replace BK0 := kb BK0 hb; replace HB := bs HB hb; (try clear hb)
 (try clear hb2)
 (try clear hk)
 (try clear hi)
 refine hK.out _ _ (cy5 BK0.1) (fun hHeld => ?_); clear hK K; refine norm_ (a' := ?_) ?_ ?_
 rotate_left
 ·show Act.put _ (some 26) _ = _
  simp only [Act.put, List.setIfInBounds_toArray, List.set_cons_zero, List.set_cons_succ, i64_w, i32_w]
  rfl
 refine pu_ 18 7 (tf 19 1) rfl rfl ?_; refine pu_ 19 8 (tf 20 0) rfl rfl ?_; refine done_ (done_of HT_.1 (by kernel_rfl)) ?_; (try go_wp2)
 go_ret
 exact ⟨ew, vb HB.1⟩


/-! ### spec_l16Against: function 114 -/
def spec_l16Against.l0 : Nat → List (S98) → List (S103) → Int → Int → Int → List Int → Int → Option (List Int)
 | 0, _, _, _, _, _, _, _ => none
 | k + 1, x5, x0, x6, x7, x8, x4, x2 => if x2 < (x0.length : Int) then (if 0 ≤ x2 then ((spec_l16Distance.f k x5 x6 ((rd_T103 x0 x2).f0)).bind fun t9 => (if t9 < 0 then (if x4.length < 17592186044416 then (spec_l16Against.l0 k x5 x0 x6 x7 x8 (x4 ++ [x2]) (wrap64 (x2 + 1))) else (none)) else ((spec_l15Square.f ((rd_T103 x0 x2).f0) ((rd_T103 x0 x2).f1) ((rd_T103 x0 x2).f2) ((rd_T103 x0 x2).f3) ((rd_T103 x0 x2).f4) x7 x8).bind fun t14 => (if t14 < (wrap64 (t9 * t9)) then (if x4.length < 17592186044416 then (spec_l16Against.l0 k x5 x0 x6 x7 x8 (x4 ++ [x2]) (wrap64 (x2 + 1))) else (none)) else (spec_l16Against.l0 k x5 x0 x6 x7 x8 x4 (wrap64 (x2 + 1))))))) else (none)) else (some x4)
def spec_l16Against.f (k : Nat) (l0 : List (S98)) (l1 : List (S103)) (a2 : Int) (a3 : Int) (a4 : Int) : Option (List Int) := spec_l16Against.l0 k l0 l1 a2 a3 a4 (([] : List Int)) 0
set_option maxHeartbeats 8000000 in
set_option maxRecDepth 100000 in
theorem spec_l16Against.calls (k : Nat) (A0 : Option Addr) (c0 : Nat) (l0 : List (S98)) (A1 : Option Addr) (c1 : Nat) (l1 : List (S103)) (a2 : Int) (a3 : Int) (a4 : Int) (r : List Int) (w : World) (hr0 : Kd.C k98 w A0 l0.length l0) (hc0 : l0.length ≤ c0) (hr1 : Kd.C k103 w A1 l1.length l1) (hc1 : l1.length ≤ c1) (h : spec_l16Against.f k l0 l1 a2 a3 a4 = some r) :
  Calls Try.prog 114 #[.slice A0 l0.length c0, .slice A1 l1.length c1, .int .i64 a2, .int .i64 a3, .int .i64 a4] w fun e w' => ∃ v0_ : Value, e = .returned (v0_) ∧ Kd.R (Kd.int .i64) 2 w' w.heap.size (fun _ => True) v0_ r ∧ Below w.heap.size w w' := by
 have hu103 := Try.underlying103; have HR0 := ak hr0; have HC0 := ak hc0; clear hr0 hc0; have HR1 := ak hr1; have HC1 := ak hc1; clear hr1 hc1; have HB := ak (Below.refl w.heap.size w); unfold spec_l16Against.f at h; have H := h; clear h; obtain ⟨y10, hy10⟩ := gen_ (([] : List Int)); rw [← hy10] at H; have Ny10 := ak hy10; clear hy10; have H' := ak H; clear H; go_enter Try.func114, Try.ntmps114; go_wp2_with (first | ((with_reducible refine gate_dst (N := 14) rfl ?_); refine Kd.R_lit (Kd.int .i64) _ 2 ?hg (N := 14) ?hd (xs := ([] : List Int)) (inner := []) (ok := fun _ => True) (okp := fun _ => True) ?hr ?hp (fun _ hk => hk) trivial (Below.refl _ _) (Nat.le_refl _) (by simp) ?_; (case hd => rfl); (case hg => rfl); (case hr => first | (go_simp; done) | (go_simp; rfl)); (case hp => exact (Reps.none _ _)); intro v18 w6 ho13 hb hg_ hnew_; clear hg_ hnew_; (first | rw [← Ny10.1] at ho13 | (simp only [Int.reduceToNat] at ho13; rw [← Ny10.1] at ho13)); have HO15 := ak (Kd.R_lower ho13 (below_size (vb HB.1))); replace HB := bs HB hb; clear hb ho13))
 go_loopg [11, 12] k (fun kq v4 v2 w' => ∃ (x4_0 : List Int) (x2_0 : Int), v2 = .int .i64 x2_0 ∧ Aside0 (spec_l16Against.l0 kq l0 l1 a2 a3 a4 x4_0 x2_0 = some r) ∧ Aside0 (kq ≤ k) ∧ Aside0 (Kd.R (Kd.int .i64) 2 w' w.heap.size (fun _ => True) v4 x4_0) ∧ Aside0 (Below w.heap.size w w'))
 case atStart => exact ⟨(y10), (0), es, H', ⟨Nat.le_refl _⟩, ⟨vr HO15.1⟩, ⟨vb HB.1⟩⟩
 case round =>
  clear H'; obtain ⟨x4_0, x2_0, rfl, HA, HK1, HO_4, HB⟩ := hrel
  cases gk with
  | zero => exact absurd HA.1 (by simp [spec_l16Against.l0])
  | succ k1 =>
   have H := HA.1; clear HA; simp only [spec_l16Against.l0] at H
   by_cases c8 : x2_0 < (l1.length : Int)
   ·rw [if_pos c8] at H; have c8b0 := decide_eq_true c8; clear c8; by_cases c9 : 0 ≤ x2_0
    ·rw [if_pos c9] at H; have c9b0 := decide_eq_true c9; clear c9; obtain ⟨t9, A10, H⟩ := bnk H; by_cases c11 : t9 < 0
     ·rw [if_pos c11] at H; have c11b0 := decide_eq_true c11; clear c11; by_cases c12 : x4_0.length < 17592186044416
      ·rw [if_pos c12] at H; have LMc12 := ak c12; clear c12; obtain ⟨y11, hy11⟩ := gen_ ((x4_0 ++ [x2_0] : List Int)); rw [← hy11] at H; have Ny11 := ak hy11; clear hy11; have H' := ak H; clear H; have p1 : 0 ≤ (x2_0 : Int) := od; have q1 : x2_0 < (l1.length : Int) := od; obtain ⟨ad1, e1, hx1_5, hx1_0, hx1_6, hx1_7, hx1_8⟩ := at_T103 HR1.1 x2_0 p1 q1
       cases e1; replace hx1_5 := cb HB.1 hx1_5; replace hx1_0 := cb HB.1 hx1_0; replace hx1_6 := cb HB.1 hx1_6; replace hx1_7 := cb HB.1 hx1_7; replace hx1_8 := cb HB.1 hx1_8; replace p1 := eq_true p1; replace q1 := eq_true q1; go_wp2_with (first | ((with_reducible refine at_fn (f := 132) rfl ?_); refine gl (some 28) Try.func132 #[.slice A0 l0.length c0, .int .i64 a2, .int .i64 ((rd_T103 l1 x2_0).f0)] ?_; (with_reducible refine (spec_l16Distance.calls k1 _ _ l0 a2 ((rd_T103 l1 x2_0).f0) t9 _ ?_ HC0.1 A10.1).mono ?_); exact vd HR0.1 HB.1; rintro e w' ⟨rfl, ⟨nd, rfl⟩⟩; refine ⟨_, rfl, ?_⟩) | ((with_reducible refine at_bi (b := .append) (xs := #[.tmp 44, .tmp 46]) rfl ?_); at_builtin; refine Kd.R_append (Kd.int .i64) (w0 := w) w.heap.size rfl (.tmp 44) (.tmp 46) 24 2 (.int .i64 0) 8 rfl Try.underlying24 info2 rfl (by decide) (by omega) u11 x4_0 x2_0 [.int .i64 x2_0] (fun _ => True) (fun _ => False) rfl rfl ?aP (fun _ hk => hk.elim) ?aF ?aO ?aB ?aS ?aL ?_; (case aP => exact rfl); (case aB => exact (vb HB.1)); (case aF => exact (fun _ _ => trivial)); (case aO => exact (vr HO_4.1)); (case aS => exact (below_size (vb HB.1))); (case aL => have := LMc12.1; omega); intro v19 w13 ho hb hg hat; rw [← Ny11.1] at ho; have n0_ := ak (hb); have n1_ := ak (ho); clear HB; clear HO_4; have HB := n0_; have HO16 := n1_; clear n0_ n1_; clear ho hb hg hat))
       go_roundg k1
       case measure => have := HK1.1; omega
       case rel => exact ⟨(y11), (wrap64 (x2_0 + 1)), es, H', ⟨by have := HK1.1; omega⟩, ⟨vr HO16.1⟩, ⟨vb HB.1⟩⟩
      ·exact nO_ c12 H
     ·rw [if_neg c11] at H; have c11b0 := decide_eq_false c11; clear c11; obtain ⟨t14, A14, H⟩ := bnk H; by_cases c15 : t14 < (wrap64 (t9 * t9))
      ·rw [if_pos c15] at H; have c15b0 := decide_eq_true c15; clear c15; by_cases c16 : x4_0.length < 17592186044416
       ·rw [if_pos c16] at H; have LMc16 := ak c16; clear c16; obtain ⟨y12, hy12⟩ := gen_ ((x4_0 ++ [x2_0] : List Int)); rw [← hy12] at H; have Ny12 := ak hy12; clear hy12; have H' := ak H; clear H; have p1 : 0 ≤ (x2_0 : Int) := od; have q1 : x2_0 < (l1.length : Int) := od; obtain ⟨ad1, e1, hx1_5, hx1_0, hx1_6, hx1_7, hx1_8⟩ := at_T103 HR1.1 x2_0 p1 q1
        cases e1; replace hx1_5 := cb HB.1 hx1_5; replace hx1_0 := cb HB.1 hx1_0; replace hx1_6 := cb HB.1 hx1_6; replace hx1_7 := cb HB.1 hx1_7; replace hx1_8 := cb HB.1 hx1_8; replace p1 := eq_true p1; replace q1 := eq_true q1; go_wp2_with (first | ((with_reducible refine at_fn (f := 132) rfl ?_); refine gl (some 28) Try.func132 #[.slice A0 l0.length c0, .int .i64 a2, .int .i64 ((rd_T103 l1 x2_0).f0)] ?_; (with_reducible refine (spec_l16Distance.calls k1 _ _ l0 a2 ((rd_T103 l1 x2_0).f0) t9 _ ?_ HC0.1 A10.1).mono ?_); exact vd HR0.1 HB.1; rintro e w' ⟨rfl, ⟨nd, rfl⟩⟩; refine ⟨_, rfl, ?_⟩; have p3 : 0 ≤ (x2_0 : Int) := od; have q3 : x2_0 < (l1.length : Int) := od; obtain ⟨ad3, e3, hx3_5, hx3_0, hx3_6, hx3_7, hx3_8⟩ := at_T103 HR1.1 x2_0 p3 q3; obtain rfl : ad1 = ad3 := (by injection e3); replace hx3_5 := cb HB.1 hx3_5; replace hx3_0 := cb HB.1 hx3_0; replace hx3_6 := cb HB.1 hx3_6; replace hx3_7 := cb HB.1 hx3_7; replace hx3_8 := cb HB.1 hx3_8; replace p3 := eq_true p3; replace q3 := eq_true q3) | (go_at_call 133; (with_reducible refine (spec_l15Square.calls ((rd_T103 l1 x2_0).f0) ((rd_T103 l1 x2_0).f1) ((rd_T103 l1 x2_0).f2) ((rd_T103 l1 x2_0).f3) ((rd_T103 l1 x2_0).f4) a3 a4 t14 _ A14.1).mono ?_); rintro e w17 ⟨rfl, hb⟩; replace HO_4 := rb HO_4 hb; replace HB := bs HB hb; (try clear hb)) | ((with_reducible refine at_bi (b := .append) (xs := #[.tmp 44, .tmp 46]) rfl ?_); at_builtin; refine Kd.R_append (Kd.int .i64) (w0 := w) w.heap.size rfl (.tmp 44) (.tmp 46) 24 2 (.int .i64 0) 8 rfl Try.underlying24 info2 rfl (by decide) (by omega) u11 x4_0 x2_0 [.int .i64 x2_0] (fun _ => True) (fun _ => False) rfl rfl ?aP (fun _ hk => hk.elim) ?aF ?aO ?aB ?aS ?aL ?_; (case aP => exact rfl); (case aB => exact (vb HB.1)); (case aF => exact (fun _ _ => trivial)); (case aO => exact (vr HO_4.1)); (case aS => exact (below_size (vb HB.1))); (case aL => have := LMc16.1; omega); intro v20 w18 ho hb hg hat; rw [← Ny12.1] at ho; have n0_ := ak (hb); have n1_ := ak (ho); clear HB; clear HO_4; have HB := n0_; have HO17 := n1_; clear n0_ n1_; clear ho hb hg hat))
        go_roundg k1
        case measure => have := HK1.1; omega
        case rel => exact ⟨(y12), (wrap64 (x2_0 + 1)), es, H', ⟨by have := HK1.1; omega⟩, ⟨vr HO17.1⟩, ⟨vb HB.1⟩⟩
       ·exact nO_ c16 H
      ·rw [if_neg c15] at H; have c15b0 := decide_eq_false c15; clear c15; have H' := ak H; clear H; have p1 : 0 ≤ (x2_0 : Int) := od; have q1 : x2_0 < (l1.length : Int) := od; obtain ⟨ad1, e1, hx1_5, hx1_0, hx1_6, hx1_7, hx1_8⟩ := at_T103 HR1.1 x2_0 p1 q1
       cases e1; replace hx1_5 := cb HB.1 hx1_5; replace hx1_0 := cb HB.1 hx1_0; replace hx1_6 := cb HB.1 hx1_6; replace hx1_7 := cb HB.1 hx1_7; replace hx1_8 := cb HB.1 hx1_8; replace p1 := eq_true p1; replace q1 := eq_true q1; go_wp2_with (first | ((with_reducible refine at_fn (f := 132) rfl ?_); refine gl (some 28) Try.func132 #[.slice A0 l0.length c0, .int .i64 a2, .int .i64 ((rd_T103 l1 x2_0).f0)] ?_; (with_reducible refine (spec_l16Distance.calls k1 _ _ l0 a2 ((rd_T103 l1 x2_0).f0) t9 _ ?_ HC0.1 A10.1).mono ?_); exact vd HR0.1 HB.1; rintro e w' ⟨rfl, ⟨nd, rfl⟩⟩; refine ⟨_, rfl, ?_⟩; have p3 : 0 ≤ (x2_0 : Int) := od; have q3 : x2_0 < (l1.length : Int) := od; obtain ⟨ad3, e3, hx3_5, hx3_0, hx3_6, hx3_7, hx3_8⟩ := at_T103 HR1.1 x2_0 p3 q3; obtain rfl : ad1 = ad3 := (by injection e3); replace hx3_5 := cb HB.1 hx3_5; replace hx3_0 := cb HB.1 hx3_0; replace hx3_6 := cb HB.1 hx3_6; replace hx3_7 := cb HB.1 hx3_7; replace hx3_8 := cb HB.1 hx3_8; replace p3 := eq_true p3; replace q3 := eq_true q3) | (go_at_call 133; (with_reducible refine (spec_l15Square.calls ((rd_T103 l1 x2_0).f0) ((rd_T103 l1 x2_0).f1) ((rd_T103 l1 x2_0).f2) ((rd_T103 l1 x2_0).f3) ((rd_T103 l1 x2_0).f4) a3 a4 t14 _ A14.1).mono ?_); rintro e w19 ⟨rfl, hb⟩; replace HO_4 := rb HO_4 hb; replace HB := bs HB hb; (try clear hb)))
       go_roundg k1
       case measure => have := HK1.1; omega
       case rel => exact ⟨(x4_0), (wrap64 (x2_0 + 1)), es, H', ⟨by have := HK1.1; omega⟩, ⟨vr HO_4.1⟩, ⟨vb HB.1⟩⟩
    ·exact nO_ c9 H
   ·rw [if_neg c8] at H; have c8b0 := decide_eq_false c8; clear c8; obtain rfl := sj H; go_wp2
    go_ret
    exact ⟨_, ew, vr HO_4.1, vb HB.1⟩


/-! ### spec_l18Spots: function 66 -/
mutual
def spec_l18Spots.l0 : Nat → List (List Int) → Int → List (S98) → List (S103) → List Int → List Int → List Int → Int → Option ((List (List Int)))
 | 0, _, _, _, _, _, _, _, _ => none
 | k + 1, x4, x8, x22, x23, x15, x19, x20, x25 => if x8 < (x15.length : Int) then (spec_l18Spots.l1 k x4 x8 (([] : List Int)) 0 x22 x23 x15 x19 x20 x25) else (some x4)
def spec_l18Spots.l1 : Nat → List (List Int) → Int → List Int → Int → List (S98) → List (S103) → List Int → List Int → List Int → Int → Option ((List (List Int)))
 | 0, _, _, _, _, _, _, _, _, _, _ => none
 | k + 1, x4, x8, x9, x3, x22, x23, x15, x19, x20, x25 => if x3 < (x19.length : Int) then (if 0 ≤ x8 then (if x8 < (x15.length : Int) then (if 0 ≤ x3 then (if x3 < (x20.length : Int) then ((spec_l16Against.f k x22 x23 (rd x15 x8) (rd x19 x3) (rd x20 x3)).bind fun t14 => (if (t14.length : Int) = 0 then (if x9.length < 17592186044416 then (spec_l18Spots.l1 k x4 x8 (x9 ++ [x3]) (wrap64 (x3 + 1)) x22 x23 x15 x19 x20 x25) else (none)) else (spec_l18Spots.l1 k x4 x8 x9 (wrap64 (x3 + 1)) x22 x23 x15 x19 x20 x25))) else (none)) else (none)) else (none)) else (none)) else (if x4.length < 5864062014805 then (spec_l18Spots.l0 k (x4 ++ [x9]) (wrap64 (x8 + 1)) x22 x23 x15 x19 x20 x25) else (none))
end
def spec_l18Spots.f (k : Nat) (l0_0 : List (S98)) (l0_1 : List (S103)) (l0_2 : List Int) (l0_3 : List Int) (l0_4 : List Int) (a0_5 : Int) : Option ((List (List Int))) := spec_l18Spots.l0 k (([] : List (List Int))) 0 l0_0 l0_1 l0_2 l0_3 l0_4 a0_5
def spec_l18Spots.T9 : Bool × List (List Nat × List Nat) := (true, [([], []), ([0], [0]), ([], []), ([2], [2]), ([], []), ([4], [4]), ([], []), ([5, 6], [5, 6]), ([7], [7]), ([], []), ([9], [9]), ([], []), ([10, 11], [10, 11]), ([12], [12]), ([], []), ([14], [14]), ([], []), ([15, 16], [15, 16]), ([17], [17]), ([1, 3, 8, 13, 18], [1, 3, 8, 13, 18]), ([19], [19]), ([20], [20])])
def spec_l18Spots.B9 : List Nat := [0, 1, 0, 4, 0, 16, 0, 112, 240, 0, 512, 0, 3584, 7680, 0, 16384, 0, 114688, 245760, 524287, 1048575, 2097151]
theorem spec_l18Spots.tab9 : rtab .any (opsOf Try.f66 9) = spec_l18Spots.T9 := by kernel_rfl
theorem spec_l18Spots.bits9 : waitsOk spec_l18Spots.T9.2 spec_l18Spots.B9 = true := by kernel_rfl
set_option maxHeartbeats 8000000 in
set_option maxRecDepth 100000 in
theorem spec_l18Spots.calls (k : Nat) (A0_0 : Option Addr) (c0_0 : Nat) (l0_0 : List (S98)) (A0_1 : Option Addr) (c0_1 : Nat) (l0_1 : List (S103)) (A0_2 : Option Addr) (c0_2 : Nat) (l0_2 : List Int) (A0_3 : Option Addr) (c0_3 : Nat) (l0_3 : List Int) (A0_4 : Option Addr) (c0_4 : Nat) (l0_4 : List Int) (a0_5 : Int) (r : List (List Int)) (w : World) (hr0_0 : Kd.C k98 w A0_0 l0_0.length l0_0) (hc0_0 : l0_0.length ≤ c0_0) (hr0_1 : Kd.C k103 w A0_1 l0_1.length l0_1) (hc0_1 : l0_1.length ≤ c0_1) (hr0_2 : Kd.C (Kd.int .i64) w A0_2 l0_2.length l0_2) (hc0_2 : l0_2.length ≤ c0_2) (hr0_3 : Kd.C (Kd.int .i64) w A0_3 l0_3.length l0_3) (hc0_3 : l0_3.length ≤ c0_3) (hr0_4 : Kd.C (Kd.int .i64) w A0_4 l0_4.length l0_4) (hc0_4 : l0_4.length ≤ c0_4) (h : spec_l18Spots.f k l0_0 l0_1 l0_2 l0_3 l0_4 a0_5 = some r) :
  Calls Try.prog 66 #[.agg (f5 A0_0 l0_0 c0_0 A0_1 l0_1 c0_1 A0_2 l0_2 c0_2 A0_3 l0_3 c0_3 A0_4 l0_4 c0_4 a0_5)] w fun e w' => ∃ v0_ : Value, e = .returned (v0_) ∧ Kd.S (Kd.slice 2 (Kd.int .i64)) 24 w' w.heap.size (fun _ => True) v0_ r ∧ Below w.heap.size w w' := by
 have hu33 := Try.underlying33; have HR0_0 := ak hr0_0; have HC0_0 := ak hc0_0; clear hr0_0 hc0_0; have HR0_1 := ak hr0_1; have HC0_1 := ak hc0_1; clear hr0_1 hc0_1; have HR0_2 := ak hr0_2; have HC0_2 := ak hc0_2; clear hr0_2 hc0_2; have HR0_3 := ak hr0_3; have HC0_3 := ak hc0_3; clear hr0_3 hc0_3; have HR0_4 := ak hr0_4; have HC0_4 := ak hc0_4; clear hr0_4 hc0_4; have HB := ak (Below.refl w.heap.size w); unfold spec_l18Spots.f at h; have H := h; clear h; obtain ⟨y12, hy12⟩ := gen_ (([] : List (List Int))); rw [← hy12] at H; have Ny12 := ak hy12; clear hy12; have H' := ak H; clear H; go_enter Try.func66, Try.ntmps66; go_wp2_with (first | ((with_reducible refine gate_dst (N := 1) rfl ?_); refine bx 1 (f5 A0_0 l0_0 c0_0 A0_1 l0_1 c0_1 A0_2 l0_2 c0_2 A0_3 l0_3 c0_3 A0_4 l0_4 c0_4 a0_5) 33 ?_; intro gb0 hg w2 hbox hb; have BK0 := ak hbox; have GW155 := gw hg HB; have GE0 := gw hg HB; replace HB := bs HB hb; clear hb hbox hg) | ((with_reducible refine gate_dst (N := 7) rfl ?_); refine Kd.S_lit (Kd.slice 2 (Kd.int .i64)) _ 24 ?hg (N := 7) ?hd (xs := ([] : List (List Int))) (inner := []) (ok := fun _ => True) (okp := fun _ => True) ?hr ?hp (fun _ hk => hk) trivial (Below.refl _ _) (Nat.le_refl _) (by simp) ?_; (case hd => rfl); (case hg => rfl); (case hr => first | (go_simp; done) | (go_simp; rfl)); (case hp => exact (Reps.none _ _)); intro v36 w3 ho8 hb hg_ hnew_; clear hg_ hnew_; (first | rw [← Ny12.1] at ho8 | (simp only [Int.reduceToNat] at ho8; rw [← Ny12.1] at ho8)); have HO27 := ak (Kd.S_lower ho8 (below_size (vb HB.1))); replace BK0 := kb BK0 hb; replace HB := bs HB hb; clear hb ho8))
 go_loopg [3, 4] k (fun kq v4 v8 w' => ∃ (x4_10 : List (List Int)) (x8_10 : Int), v8 = .int .i64 x8_10 ∧ Aside0 (spec_l18Spots.l0 kq x4_10 x8_10 l0_0 l0_1 l0_2 l0_3 l0_4 a0_5 = some r) ∧ Aside0 (kq ≤ k) ∧ Aside0 (Kd.S (Kd.slice 2 (Kd.int .i64)) 24 w' w.heap.size (fun _ => True) v4 x4_10) ∧ Aside0 (w'.heap[gb0]? = some (.cells (f5 A0_0 l0_0 c0_0 A0_1 l0_1 c0_1 A0_2 l0_2 c0_2 A0_3 l0_3 c0_3 A0_4 l0_4 c0_4 a0_5) 33 (0, 0))) ∧ Aside0 (Below w.heap.size w w'))
 case atStart => exact ⟨(y12), (0), es, H', ⟨Nat.le_refl _⟩, ⟨vS HO27.1⟩, ⟨vk BK0.1⟩, ⟨vb HB.1⟩⟩
 case round =>
  clear H'; obtain ⟨x4_10, x8_10, rfl, HA, HK1, HO_4, BK0, HB⟩ := hrel
  cases gk with
  | zero => exact absurd HA.1 (by simp [spec_l18Spots.l0])
  | succ k1 =>
   have H := HA.1; clear HA; simp only [spec_l18Spots.l0] at H
   by_cases c5 : x8_10 < (l0_2.length : Int)
   ·rw [if_pos c5] at H; have c5b0 := decide_eq_true c5; clear c5; obtain ⟨y13, hy13⟩ := gen_ (([] : List Int)); rw [← hy13] at H; have Ny13 := ak hy13; clear hy13; have H' := ak H; clear H; have hcz3 := cz6 BK0.1; go_wp2_with (first | ((with_reducible refine gate_dst (N := 15) rfl ?_); refine Kd.R_lit (Kd.int .i64) _ 2 ?hg (N := 15) ?hd (xs := ([] : List Int)) (inner := []) (ok := fun _ => True) (okp := fun _ => True) ?hr ?hp (fun _ hk => hk) trivial (Below.refl _ _) (Nat.le_refl _) (by simp) ?_; (case hd => rfl); (case hg => rfl); (case hr => first | (go_simp; done) | (go_simp; rfl)); (case hp => exact (Reps.none _ _)); intro v37 w7 ho21 hb hg_ hnew_; clear hg_ hnew_; (first | rw [← Ny13.1] at ho21 | (simp only [Int.reduceToNat] at ho21; rw [← Ny13.1] at ho21)); replace HO_4 := ak (Kd.S_elder' (vS HO_4.1) (Kd.R_base ho21) hb); have HO28 := ak (Kd.R_lower ho21 (below_size (vb HB.1))); replace BK0 := kb BK0 hb; replace HB := bs HB hb; clear hb ho21))
    go_loopg [5, 6] k1 (fun kq v9 v3 w' => ∃ (x9_2 : List Int) (x3_2 : Int), v3 = .int .i64 x3_2 ∧ Aside0 (spec_l18Spots.l1 kq x4_10 x8_10 x9_2 x3_2 l0_0 l0_1 l0_2 l0_3 l0_4 a0_5 = some r) ∧ Aside0 (kq ≤ k1) ∧ Aside0 (Kd.S (Kd.slice 2 (Kd.int .i64)) 24 w' w.heap.size (fun k_ => some k_ ≠ (v9 : Value).ownBlock) u3 x4_10) ∧ Aside0 (Kd.R (Kd.int .i64) 2 w' w.heap.size (fun _ => True) v9 x9_2) ∧ Aside0 (w'.heap[gb0]? = some (.cells (f5 A0_0 l0_0 c0_0 A0_1 l0_1 c0_1 A0_2 l0_2 c0_2 A0_3 l0_3 c0_3 A0_4 l0_4 c0_4 a0_5) 33 (0, 0))) ∧ Aside0 (Below w.heap.size w w'))
    case atStart => exact ⟨(y13), (0), es, H', ⟨Nat.le_refl _⟩, ⟨by (with_reducible repeat (first | apply Kd.S_alloc | apply Kd.S_drewN | apply Kd.S_drew)); exact Kd.S_mono HO_4.1 (fun _ hk => hk.2)⟩, ⟨vr HO28.1⟩, ⟨vk BK0.1⟩, ⟨vb HB.1⟩⟩
    case round =>
     clear H'; obtain ⟨x9_2, x3_2, rfl, HA, HK2, HO_4, HO_9, BK0, HB⟩ := hrel
     cases gk with
     | zero => exact absurd HA.1 (by simp [spec_l18Spots.l1])
     | succ k2 =>
      have H := HA.1; clear HA; simp only [spec_l18Spots.l1] at H
      by_cases c9 : x3_2 < (l0_3.length : Int)
      ·rw [if_pos c9] at H; have c9b0 := decide_eq_true c9; clear c9; by_cases c10 : 0 ≤ x8_10
       ·rw [if_pos c10] at H; have c10b0 := decide_eq_true c10; clear c10; by_cases c11 : x8_10 < (l0_2.length : Int)
        ·rw [if_pos c11] at H; have c11b0 := decide_eq_true c11; clear c11; by_cases c12 : 0 ≤ x3_2
         ·rw [if_pos c12] at H; have c12b0 := decide_eq_true c12; clear c12; by_cases c13 : x3_2 < (l0_4.length : Int)
          ·rw [if_pos c13] at H; have c13b0 := decide_eq_true c13; clear c13; obtain ⟨t14, A14, H⟩ := bnk H; by_cases c15 : (t14.length : Int) = 0
           ·rw [if_pos c15] at H; obtain ⟨c15b0, c15b1⟩ := bqt c15; clear c15; by_cases c16 : x9_2.length < 17592186044416
            ·rw [if_pos c16] at H; have LMc16 := ak c16; clear c16; obtain ⟨y17, hy17⟩ := gen_ ((x9_2 ++ [x3_2] : List Int)); rw [← hy17] at H; have Ny17 := ak hy17; clear hy17; have H' := ak H; clear H; have hcz32 := cz6 BK0.1; (try go_wp2)
             replace HO_4 := ak (Kd.S_drew HO_4.1); replace HO_9 := ak (Kd.R_drew HO_9.1); replace BK0 := ak (blk_drew BK0.1); replace HB := ak (below_drew1 HB.1); have p5 : 0 ≤ (x8_10 : Int) := od; have q5 : x8_10 < (l0_2.length : Int) := od; obtain ⟨ad5, e5, hx5_1⟩ := Kd.at_int HR0_2.1 x8_10 p5 q5; have hw5_1 := hx5_1
             cases e5; replace hx5_1 := cb HB.1 hx5_1; replace p5 := eq_true p5; replace q5 := eq_true q5; have p6 : 0 ≤ (x3_2 : Int) := od; have q6 : x3_2 < (l0_3.length : Int) := od; obtain ⟨ad6, e6, hx6_1⟩ := Kd.at_int HR0_3.1 x3_2 p6 q6; have hw6_1 := hx6_1
             cases e6; replace hx6_1 := cb HB.1 hx6_1; replace p6 := eq_true p6; replace q6 := eq_true q6; have p7 : 0 ≤ (x3_2 : Int) := od; have q7 : x3_2 < (l0_4.length : Int) := od; obtain ⟨ad7, e7, hx7_1⟩ := Kd.at_int HR0_4.1 x3_2 p7 q7; have hw7_1 := hx7_1
             cases e7; replace hx7_1 := cb HB.1 hx7_1; replace p7 := eq_true p7; replace q7 := eq_true q7; refine start_ (n := 22) (S := fun w' => w'.cell? ⟨gb0, 0, none⟩ = some (.slice A0_0 l0_0.length c0_0) ∧ w'.cell? ⟨gb0, 1, none⟩ = some (.slice A0_1 l0_1.length c0_1) ∧ w'.cell? ⟨gb0, 2, none⟩ = some (.slice (some ad5) l0_2.length c0_2) ∧ w'.cell? ⟨gb0, 3, none⟩ = some (.slice (some ad6) l0_3.length c0_3) ∧ w'.cell? ⟨gb0, 4, none⟩ = some (.slice (some ad7) l0_4.length c0_4) ∧ w'.cell? ⟨gb0, 5, none⟩ = some (.int .i64 a0_5) ∧ w'.cell? (ad5.add (x8_10).toNat) = some (.int .i64 (rd l0_2 x8_10)) ∧ w'.cell? (ad6.add (x3_2).toNat) = some (.int .i64 (rd l0_3 x3_2)) ∧ w'.cell? (ad7.add (x3_2).toNat) = some (.int .i64 (rd l0_4 x3_2))) (ds := []) (tf 0 22) (by kernel_rfl) rfl rfl ⟨bk BK0.1 0, bk BK0.1 1, bk BK0.1 2, bk BK0.1 3, bk BK0.1 4, bk BK0.1 5, (cb HB.1 hw5_1 :), (cb HB.1 hw6_1 :), (cb HB.1 hw7_1 :)⟩ (fun hHeld => ?_); refine with_tabW spec_l18Spots.tab9 spec_l18Spots.bits9 (fun HT_ HW_ => ?_); generalize wr.drew = w18 at HO_4 HO_9 BK0 HB hx5_1 hx6_1 hx7_1 hHeld ⊢; refine pu_ 0 23 (tf 1 21) rfl rfl ?_; refine pu_ 2 25 (tM [1, 1, 1, 19]) rfl rfl ?_
             refine pu_ 4 27 (tM [1, 1, 1, 1, 1, 17]) rfl rfl ?_; refine pu_ 6 29 (tM [1, 1, 1, 1, 1, 1, 1, 15]) rfl rfl ?_; refine pu_ 9 32 (tM [1, 1, 1, 1, 1, 1, 1, 2, 1, 12]) rfl rfl ?_; refine pu_ 11 34 (tM [1, 1, 1, 1, 1, 1, 1, 2, 1, 1, 1, 10]) rfl rfl ?_; refine pu_ 14 37 (tM [1, 1, 1, 1, 1, 1, 1, 2, 1, 1, 1, 2, 1, 7]) rfl rfl ?_; refine pu_ 16 39 (tM [1, 1, 1, 1, 1, 1, 1, 2, 1, 1, 1, 2, 1, 1, 1, 5]) rfl rfl ?_; refine ta9_ 1 24 (tM [3, 1, 1, 1, 1, 2, 1, 1, 1, 2, 1, 1, 1, 5]) rfl rfl ?_; refine ta9_ 3 26 (tM [5, 1, 1, 2, 1, 1, 1, 2, 1, 1, 1, 5]) rfl rfl ?_; refine ta9_ 5 28 (tM [7, 2, 1, 1, 1, 2, 1, 1, 1, 5]) rfl rfl ?_
             refine pu_ 7 30 (tM [8, 1, 1, 1, 1, 2, 1, 1, 1, 5]) rfl rfl ?_; refine ta9_ 8 31 (tM [10, 1, 1, 2, 1, 1, 1, 5]) rfl rfl ?_; refine ta9_ 10 33 (tM [12, 2, 1, 1, 1, 5]) rfl rfl ?_; refine pu_ 12 35 (tM [13, 1, 1, 1, 1, 5]) rfl rfl ?_; refine ta9_ 13 36 (tM [15, 1, 1, 5]) rfl rfl ?_; refine ta9_ 15 38 (tf 17 5) rfl rfl ?_; refine pu_ 17 40 (tf 18 4) rfl rfl ?_; refine ta9_ 18 41 (tf 19 3) rfl rfl ?_; refine one_ (i := 19) (N := some 42) (tf 20 2) rfl rfl (one_of HT_.1 (by kernel_rfl)) (by decide) (fun K hK => ?_); refine goes_ Try.func114 (by kernel_rfl) rfl #[.slice A0_0 l0_0.length c0_0, .slice A0_1 l0_1.length c0_1, .int .i64 (rd l0_2 x8_10), .int .i64 (rd l0_3 x3_2), .int .i64 (rd l0_4 x3_2)] (by rfl) rfl rfl (by (try simp only [List.map_toArray, List.map_cons, List.map_nil]); first | done | rfl | (simp only [List.length_drop, List.length_take]; rfl)) ?_; with_reducible refine (spec_l16Against.calls k2 _ _ l0_0 _ _ l0_1 (rd l0_2 x8_10) (rd l0_3 x3_2) (rd l0_4 x3_2) t14 _ ?_ ?_ ?_ ?_ A14.1).mono ?_
             exact vd HR0_0.1 HB.1
             exact HC0_0.1
             exact vd HR0_1.1 HB.1
             exact HC0_1.1
             rintro e w19 ⟨v29, rfl, ho1, hb⟩; refine ⟨_, rfl, ?_⟩; replace HO_4 := ak (Kd.S_elder' (vS HO_4.1) (Kd.R_base ho1) hb); have HO16 := ak (Kd.R_lower (Kd.R_new' ho1 (Kd.R_lt (vr HO_9.1))) (below_size (vb HB.1))); replace HO_9 := ro HO_9 ho1 hb; replace BK0 := kb BK0 hb; replace HB := bs HB hb; (try clear hb)
             (try clear hb2)
             (try clear hk)
             (try clear hi)
             (try clear ho1)
             obtain ⟨Ao11, co11, eo11⟩ := Kd.R_slice HO16.1; (first | subst eo11 | (injection eo11 with f1_ f2_ f3_; have f4_ := f1_.symm; have f5_ := f3_.symm; clear f1_ f2_ f3_; subst f4_; subst f5_))
             refine hK.out _ _ ⟨bk BK0.1 0, bk BK0.1 1, bk BK0.1 2, bk BK0.1 3, bk BK0.1 4, bk BK0.1 5, (cb HB.1 hw5_1 :), (cb HB.1 hw6_1 :), (cb HB.1 hw7_1 :)⟩ (fun hHeld => ?_); clear hK K; refine norm_ (a' := ?_) ?_ ?_
             rotate_left
             ·show Act.put _ (some 42) _ = _
              simp only [Act.put, List.setIfInBounds_toArray, List.set_cons_zero, List.set_cons_succ, i64_w, i32_w]
              rfl
             refine pu_ 20 43 (tf 21 1) rfl rfl ?_; refine pu_ 21 44 (tf 22 0) rfl rfl ?_; refine done_ (done_of HT_.1 (by kernel_rfl)) ?_; (try go_wp2_with (first | ((with_reducible refine at_bi (b := .append) (xs := #[.tmp 45, .tmp 47]) rfl ?_); at_builtin; refine Kd.R_append (Kd.int .i64) (w0 := w) w.heap.size rfl (.tmp 45) (.tmp 47) 24 2 (.int .i64 0) 8 rfl Try.underlying24 info2 rfl (by decide) (by omega) u5 x9_2 x3_2 [.int .i64 x3_2] (fun k_ => nB k_ Ao11 t14.length co11) (fun _ => False) rfl rfl ?aP (fun _ hk => hk.elim) ?aF ?aO ?aB ?aS ?aL ?_; (case aP => exact rfl); (case aB => exact (vb HB.1)); (case aF => exact (fun k_ hk => Kd.fresh' (Kd.R_lt (vr HO16.1)) k_ hk)); (case aO => exact (vr (Kd.R_mono HO_9.1 (fun _ hk => hk.2)))); (case aS => exact (below_size (vb HB.1))); (case aL => have := LMc16.1; omega); intro v38 w21 ho hb hg hat; rw [← Ny17.1] at ho; have n0_ := ak (Kd.S_after (ok := (fun k_ => nB k_ Ao11 t14.length co11)) (by (with_reducible repeat (first | apply Kd.S_alloc | apply Kd.S_drewN | apply Kd.S_drew)); exact Kd.S_mono HO_4.1 (fun _ hk => ⟨hk.2, hk.1⟩)) hg hat); have n1_ := ak (blk_grown (g := gb0) (o := .cells #[.slice A0_0 l0_0.length c0_0, .slice A0_1 l0_1.length c0_1, .slice (some ad5) l0_2.length c0_2, .slice (some ad6) l0_3.length c0_3, .slice (some ad7) l0_4.length c0_4, .int .i64 a0_5] 33 (0, 0)) (vk BK0.1) hg (Kd.R_ne HO_9.1 BK0.1 (by decide))); have n2_ := ak (Kd.R_after (ok := (fun _ => True)) (vr HO16.1) hg hat); have n3_ := ak (hb); have n4_ := ak (ho); clear HO_4; clear BK0; clear HO16; clear HB; clear HO_9; have HO_4 := n0_; have BK0 := n1_; have HO16 := n2_; have HB := n3_; have HO30 := n4_; clear n0_ n1_ n2_ n3_ n4_; clear ho hb hg hat)))
             go_roundg k2
             case measure => have := HK1.1; have := HK2.1; omega
             case rel => exact ⟨(y17), (wrap64 (x3_2 + 1)), es, H', ⟨by have := HK1.1; have := HK2.1; omega⟩, ⟨by (with_reducible repeat (first | apply Kd.S_alloc | apply Kd.S_drewN | apply Kd.S_drew)); exact Kd.S_mono HO_4.1 (fun _ hk => hk.2)⟩, vm HO30, ⟨vk BK0.1⟩, ⟨vb HB.1⟩⟩
            ·exact nO_ c16 H
           ·rw [if_neg c15] at H; obtain ⟨c15b0, c15b1⟩ := bqf c15; have c15b2 : ¬ (t14 = []) := fun h_ => c15 (by rw [h_]; rfl)
            have H' := ak H; clear H; have hcz33 := cz6 BK0.1; (try go_wp2)
            replace HO_4 := ak (Kd.S_drew HO_4.1); replace HO_9 := ak (Kd.R_drew HO_9.1); replace BK0 := ak (blk_drew BK0.1); replace HB := ak (below_drew1 HB.1); have p5 : 0 ≤ (x8_10 : Int) := od; have q5 : x8_10 < (l0_2.length : Int) := od; obtain ⟨ad5, e5, hx5_1⟩ := Kd.at_int HR0_2.1 x8_10 p5 q5; have hw5_1 := hx5_1
            cases e5; replace hx5_1 := cb HB.1 hx5_1; replace p5 := eq_true p5; replace q5 := eq_true q5; have p6 : 0 ≤ (x3_2 : Int) := od; have q6 : x3_2 < (l0_3.length : Int) := od; obtain ⟨ad6, e6, hx6_1⟩ := Kd.at_int HR0_3.1 x3_2 p6 q6; have hw6_1 := hx6_1
            cases e6; replace hx6_1 := cb HB.1 hx6_1; replace p6 := eq_true p6; replace q6 := eq_true q6; have p7 : 0 ≤ (x3_2 : Int) := od; have q7 : x3_2 < (l0_4.length : Int) := od; obtain ⟨ad7, e7, hx7_1⟩ := Kd.at_int HR0_4.1 x3_2 p7 q7; have hw7_1 := hx7_1
            cases e7; replace hx7_1 := cb HB.1 hx7_1; replace p7 := eq_true p7; replace q7 := eq_true q7; refine start_ (n := 22) (S := fun w' => w'.cell? ⟨gb0, 0, none⟩ = some (.slice A0_0 l0_0.length c0_0) ∧ w'.cell? ⟨gb0, 1, none⟩ = some (.slice A0_1 l0_1.length c0_1) ∧ w'.cell? ⟨gb0, 2, none⟩ = some (.slice (some ad5) l0_2.length c0_2) ∧ w'.cell? ⟨gb0, 3, none⟩ = some (.slice (some ad6) l0_3.length c0_3) ∧ w'.cell? ⟨gb0, 4, none⟩ = some (.slice (some ad7) l0_4.length c0_4) ∧ w'.cell? ⟨gb0, 5, none⟩ = some (.int .i64 a0_5) ∧ w'.cell? (ad5.add (x8_10).toNat) = some (.int .i64 (rd l0_2 x8_10)) ∧ w'.cell? (ad6.add (x3_2).toNat) = some (.int .i64 (rd l0_3 x3_2)) ∧ w'.cell? (ad7.add (x3_2).toNat) = some (.int .i64 (rd l0_4 x3_2))) (ds := []) (tf 0 22) (by kernel_rfl) rfl rfl ⟨bk BK0.1 0, bk BK0.1 1, bk BK0.1 2, bk BK0.1 3, bk BK0.1 4, bk BK0.1 5, (cb HB.1 hw5_1 :), (cb HB.1 hw6_1 :), (cb HB.1 hw7_1 :)⟩ (fun hHeld => ?_); refine with_tabW spec_l18Spots.tab9 spec_l18Spots.bits9 (fun HT_ HW_ => ?_); generalize wr.drew = w23 at HO_4 HO_9 BK0 HB hx5_1 hx6_1 hx7_1 hHeld ⊢; refine pu_ 0 23 (tf 1 21) rfl rfl ?_; refine pu_ 2 25 (tM [1, 1, 1, 19]) rfl rfl ?_
            refine pu_ 4 27 (tM [1, 1, 1, 1, 1, 17]) rfl rfl ?_; refine pu_ 6 29 (tM [1, 1, 1, 1, 1, 1, 1, 15]) rfl rfl ?_; refine pu_ 9 32 (tM [1, 1, 1, 1, 1, 1, 1, 2, 1, 12]) rfl rfl ?_; refine pu_ 11 34 (tM [1, 1, 1, 1, 1, 1, 1, 2, 1, 1, 1, 10]) rfl rfl ?_; refine pu_ 14 37 (tM [1, 1, 1, 1, 1, 1, 1, 2, 1, 1, 1, 2, 1, 7]) rfl rfl ?_; refine pu_ 16 39 (tM [1, 1, 1, 1, 1, 1, 1, 2, 1, 1, 1, 2, 1, 1, 1, 5]) rfl rfl ?_; refine ta9_ 1 24 (tM [3, 1, 1, 1, 1, 2, 1, 1, 1, 2, 1, 1, 1, 5]) rfl rfl ?_; refine ta9_ 3 26 (tM [5, 1, 1, 2, 1, 1, 1, 2, 1, 1, 1, 5]) rfl rfl ?_; refine ta9_ 5 28 (tM [7, 2, 1, 1, 1, 2, 1, 1, 1, 5]) rfl rfl ?_
            refine pu_ 7 30 (tM [8, 1, 1, 1, 1, 2, 1, 1, 1, 5]) rfl rfl ?_; refine ta9_ 8 31 (tM [10, 1, 1, 2, 1, 1, 1, 5]) rfl rfl ?_; refine ta9_ 10 33 (tM [12, 2, 1, 1, 1, 5]) rfl rfl ?_; refine pu_ 12 35 (tM [13, 1, 1, 1, 1, 5]) rfl rfl ?_; refine ta9_ 13 36 (tM [15, 1, 1, 5]) rfl rfl ?_; refine ta9_ 15 38 (tf 17 5) rfl rfl ?_; refine pu_ 17 40 (tf 18 4) rfl rfl ?_; refine ta9_ 18 41 (tf 19 3) rfl rfl ?_; refine one_ (i := 19) (N := some 42) (tf 20 2) rfl rfl (one_of HT_.1 (by kernel_rfl)) (by decide) (fun K hK => ?_); refine goes_ Try.func114 (by kernel_rfl) rfl #[.slice A0_0 l0_0.length c0_0, .slice A0_1 l0_1.length c0_1, .int .i64 (rd l0_2 x8_10), .int .i64 (rd l0_3 x3_2), .int .i64 (rd l0_4 x3_2)] (by rfl) rfl rfl (by (try simp only [List.map_toArray, List.map_cons, List.map_nil]); first | done | rfl | (simp only [List.length_drop, List.length_take]; rfl)) ?_; with_reducible refine (spec_l16Against.calls k2 _ _ l0_0 _ _ l0_1 (rd l0_2 x8_10) (rd l0_3 x3_2) (rd l0_4 x3_2) t14 _ ?_ ?_ ?_ ?_ A14.1).mono ?_
            exact vd HR0_0.1 HB.1
            exact HC0_0.1
            exact vd HR0_1.1 HB.1
            exact HC0_1.1
            rintro e w24 ⟨v29, rfl, ho1, hb⟩; refine ⟨_, rfl, ?_⟩; replace HO_4 := ak (Kd.S_elder' (vS HO_4.1) (Kd.R_base ho1) hb); have HO16 := ak (Kd.R_lower (Kd.R_new' ho1 (Kd.R_lt (vr HO_9.1))) (below_size (vb HB.1))); replace HO_9 := ro HO_9 ho1 hb; replace BK0 := kb BK0 hb; replace HB := bs HB hb; (try clear hb)
            (try clear hb2)
            (try clear hk)
            (try clear hi)
            (try clear ho1)
            obtain ⟨Ao26, co26, eo26⟩ := Kd.R_slice HO16.1; (first | subst eo26 | (injection eo26 with f1_ f2_ f3_; have f4_ := f1_.symm; have f5_ := f3_.symm; clear f1_ f2_ f3_; subst f4_; subst f5_))
            refine hK.out _ _ ⟨bk BK0.1 0, bk BK0.1 1, bk BK0.1 2, bk BK0.1 3, bk BK0.1 4, bk BK0.1 5, (cb HB.1 hw5_1 :), (cb HB.1 hw6_1 :), (cb HB.1 hw7_1 :)⟩ (fun hHeld => ?_); clear hK K; refine norm_ (a' := ?_) ?_ ?_
            rotate_left
            ·show Act.put _ (some 42) _ = _
             simp only [Act.put, List.setIfInBounds_toArray, List.set_cons_zero, List.set_cons_succ, i64_w, i32_w]
             rfl
            refine pu_ 20 43 (tf 21 1) rfl rfl ?_; refine pu_ 21 44 (tf 22 0) rfl rfl ?_; refine done_ (done_of HT_.1 (by kernel_rfl)) ?_; (try go_wp2)
            go_roundg k2
            case measure => have := HK1.1; have := HK2.1; omega
            case rel => exact ⟨(x9_2), (wrap64 (x3_2 + 1)), es, H', ⟨by have := HK1.1; have := HK2.1; omega⟩, ⟨by (with_reducible repeat (first | apply Kd.S_alloc | apply Kd.S_drewN | apply Kd.S_drew)); exact Kd.S_mono HO_4.1 (fun _ hk => hk.1)⟩, vm HO_9, ⟨vk BK0.1⟩, ⟨vb HB.1⟩⟩
          ·exact nO_ c13 H
         ·exact nO_ c12 H
        ·exact nO_ c11 H
       ·exact nO_ c10 H
      ·rw [if_neg c9] at H; have c9b0 := decide_eq_false c9; clear c9; by_cases c26 : x4_10.length < 5864062014805
       ·rw [if_pos c26] at H; have LMc26 := ak c26; clear c26; obtain ⟨y18, hy18⟩ := gen_ ((x4_10 ++ [x9_2] : List (List Int))); rw [← hy18] at H; have Ny18 := ak hy18; clear hy18; have H' := ak H; clear H; have hcz34 := cz6 BK0.1; obtain ⟨Ao24, co24, rfl⟩ := Kd.R_slice HO_9.1; go_wp2_with (first | ((with_reducible refine at_bi (b := .append) (xs := #[.tmp 49, .tmp 51]) rfl ?_); at_builtin; refine Kd.S_append (Kd.slice 2 (Kd.int .i64)) (w0 := w) w.heap.size rfl (.tmp 49) (.tmp 51) 65 24 (.slice none 0 0) 24 rfl Try.underlying65 info24 rfl (by decide) (by omega) u3 x4_10 x9_2 [.slice Ao24 x9_2.length co24] (fun _ => True) (fun k_ => some k_ = (.slice Ao24 x9_2.length co24 : Value).ownBlock) rfl rfl ?aP (fun k_ hk_ => ((Kd.R_mono (ok' := fun k_ => ((fun _ => True)) k_ ∧ some k_ ≠ (u3 : Value).ownBlock) (Kd.R_apart' (HO_9.1) (Kd.S_typed HO_4.1) (by decide)) (fun k_ hk => ⟨trivial, hk.2⟩))).1 k_ hk_.symm) ?aF ?aO ?aB ?aS ?aL ?_; (case aP => exact Kd.M_row (Kd.R_mono (Kd.R_tight rfl (Kd.R_mono (ok' := fun k_ => ((fun _ => True)) k_ ∧ some k_ ≠ (u3 : Value).ownBlock) (Kd.R_apart' (HO_9.1) (Kd.S_typed HO_4.1) (by decide)) (fun k_ hk => ⟨trivial, hk.2⟩))) (fun _ h_ => h_))); (case aB => exact (vb HB.1)); (case aF => exact (fun _ _ => trivial)); (case aO => exact (by (with_reducible repeat (first | apply Kd.S_alloc | apply Kd.S_drewN | apply Kd.S_drew)); exact Kd.S_mono HO_4.1 (fun k_ hk => ⟨trivial, fun e_ => hk e_⟩))); (case aS => exact (below_size (vb HB.1))); (case aL => have := LMc26.1; omega); intro v39 w28 ho hb hg hat; rw [← Ny18.1] at ho; have n0_ := ak (blk_grown (g := gb0) (o := .cells (f5 A0_0 l0_0 c0_0 A0_1 l0_1 c0_1 A0_2 l0_2 c0_2 A0_3 l0_3 c0_3 A0_4 l0_4 c0_4 a0_5) 33 (0, 0)) (vk BK0.1) hg (Kd.S_ne HO_4.1 BK0.1 (by decide))); have n1_ := ak (hb); have n2_ := ak (ho); clear BK0; clear HB; clear HO_4; clear HO_9; have BK0 := n0_; have HB := n1_; have HO31 := n2_; clear n0_ n1_ n2_; clear ho hb hg hat))
        go_roundg k2
        case measure => have := HK1.1; have := HK2.1; omega
        case rel => exact ⟨(y18), (wrap64 (x8_10 + 1)), es, H', ⟨by have := HK1.1; have := HK2.1; omega⟩, ⟨vS HO31.1⟩, ⟨vk BK0.1⟩, ⟨vb HB.1⟩⟩
       ·exact nO_ c26 H
   ·rw [if_neg c5] at H; have c5b0 := decide_eq_false c5; clear c5; obtain rfl := sj H; have hcz35 := cz6 BK0.1; go_wp2
    go_ret
    exact ⟨_, ew, vS HO_4.1, vb HB.1⟩


/-! ### impl_distanceFor: function 134 -/
def impl_distanceFor.l0 : Nat → Int → Int → Int → List (S98) → Int → Int → Option (Int)
 | 0, _, _, _, _, _, _ => none
 | k + 1, x1, x3, x5, x7, x8, x2 => if x2 < x8 then (if 0 ≤ x2 then (if x2 < (x7.length : Int) then (if ((rd_T98 x7 x2).f0) = x3 then (if ((rd_T98 x7 x2).f1) ≥ x1 then (some ((rd_T98 x7 x2).f2)) else (impl_distanceFor.l0 k x1 x3 (-1) x7 x8 (wrap64 (x2 + 1)))) else (impl_distanceFor.l0 k x1 x3 x5 x7 x8 (wrap64 (x2 + 1)))) else (none)) else (none)) else (some x5)
def impl_distanceFor.f (k : Nat) (l0 : List (S98)) (a1 : Int) (a2 : Int) : Option (Int) := impl_distanceFor.l0 k a1 a2 0 l0 (l0.length : Int) 0
set_option maxHeartbeats 8000000 in
set_option maxRecDepth 100000 in
theorem impl_distanceFor.calls (k : Nat) (A0 : Option Addr) (c0 : Nat) (l0 : List (S98)) (a1 : Int) (a2 : Int) (r : Int) (w : World) (hr0 : Kd.C k98 w A0 l0.length l0) (hc0 : l0.length ≤ c0) (h : impl_distanceFor.f k l0 a1 a2 = some r) :
  Calls Try.prog 134 #[.slice A0 l0.length c0, .int .i64 a1, .int .i64 a2] w fun e w' => e = .returned (.int .i64 r) ∧ Below w.heap.size w w' := by
 have hu98 := Try.underlying98; have HR0 := ak hr0; have HC0 := ak hc0; clear hr0 hc0; have HB := ak (Below.refl w.heap.size w); unfold impl_distanceFor.f at h; have H := h; clear h; have H' := ak H; clear H; go_enter Try.func134, Try.ntmps134; go_wp2
 go_loopg [7, 12] k (fun kq v5 v2 w' => ∃ (x5_1 : Int) (x2_1 : Int), v5 = .int .i64 x5_1 ∧ v2 = .int .i64 x2_1 ∧ Aside0 (impl_distanceFor.l0 kq a1 a2 x5_1 l0 (l0.length : Int) x2_1 = some r) ∧ Aside0 (kq ≤ k) ∧ Aside0 (Below w.heap.size w w'))
 case atStart => exact ⟨(0), (0), es, es, H', ⟨Nat.le_refl _⟩, ⟨vb HB.1⟩⟩
 case round =>
  clear H'; obtain ⟨x5_1, x2_1, rfl, rfl, HA, HK1, HB⟩ := hrel
  cases gk with
  | zero => exact absurd HA.1 (by simp [impl_distanceFor.l0])
  | succ k1 =>
   have H := HA.1; clear HA; simp only [impl_distanceFor.l0] at H
   by_cases c4 : x2_1 < (l0.length : Int)
   ·rw [if_pos c4] at H; have c4b0 := decide_eq_true c4; clear c4; by_cases c5 : 0 ≤ x2_1
    ·rw [if_pos c5] at H; have c5b0 := decide_eq_true c5; clear c5; by_cases c6 : x2_1 < (l0.length : Int)
     ·rw [if_pos c6] at H; have c6b0 := decide_eq_true c6; clear c6; by_cases c7 : ((rd_T98 l0 x2_1).f0) = a2
      ·rw [if_pos c7] at H; have c7b0 : (((rd_T98 l0 x2_1).f0) == a2) = true := beq_iff_eq.mpr c7; have c7b1 : (((rd_T98 l0 x2_1).f0) != a2) = false := bne_eq_false_iff_eq.mpr c7; clear c7; by_cases c8 : ((rd_T98 l0 x2_1).f1) ≥ a1
       ·rw [if_pos c8] at H; have c8b0 := decide_eq_true c8; clear c8; obtain rfl := sj H; have p0 : 0 ≤ (x2_1 : Int) := od; have q0 : x2_1 < (l0.length : Int) := od; obtain ⟨ad0, e0, hx0_6, hx0_1, hx0_3⟩ := at_T98 HR0.1 x2_1 p0 q0
        cases e0; replace hx0_6 := cb HB.1 hx0_6; replace hx0_1 := cb HB.1 hx0_1; replace hx0_3 := cb HB.1 hx0_3; replace p0 := eq_true p0; replace q0 := eq_true q0; go_wp2_with (first | ((with_reducible refine gate_dst (N := 9) rfl ?_); refine bx 9 #[.int .i64 0, .int .i64 0, .int .i64 0] 98 ?_; intro gb4 hg w9 hbox hb; have BK4 := ak hbox; have GW337 := gw hg HB; have GE4 := gw hg HB; replace HB := bs HB hb; clear hb hbox hg; have hcz7 := cz3 BK4.1))
        go_ret
        exact ⟨ew, vb HB.1⟩
       ·rw [if_neg c8] at H; have c8b0 := decide_eq_false c8; clear c8; have H' := ak H; clear H; have p0 : 0 ≤ (x2_1 : Int) := od; have q0 : x2_1 < (l0.length : Int) := od; obtain ⟨ad0, e0, hx0_6, hx0_1, hx0_3⟩ := at_T98 HR0.1 x2_1 p0 q0
        cases e0; replace hx0_6 := cb HB.1 hx0_6; replace hx0_1 := cb HB.1 hx0_1; replace hx0_3 := cb HB.1 hx0_3; replace p0 := eq_true p0; replace q0 := eq_true q0; go_wp2_with (first | ((with_reducible refine gate_dst (N := 9) rfl ?_); refine bx 9 #[.int .i64 0, .int .i64 0, .int .i64 0] 98 ?_; intro gb4 hg w11 hbox hb; have BK4 := ak hbox; have GW337 := gw hg HB; have GE4 := gw hg HB; replace HB := bs HB hb; clear hb hbox hg; have hcz2 := cz3 BK4.1))
        go_roundg k1
        case measure => have := HK1.1; omega
        case rel => exact ⟨((-1)), (wrap64 (x2_1 + 1)), es, es, H', ⟨by have := HK1.1; omega⟩, ⟨vb HB.1⟩⟩
      ·rw [if_neg c7] at H; have c7b0 : (((rd_T98 l0 x2_1).f0) == a2) = false := beq_eq_false_iff_ne.mpr c7; have c7b1 : (((rd_T98 l0 x2_1).f0) != a2) = true := bne_iff_ne.mpr c7; have H' := ak H; clear H; have p0 : 0 ≤ (x2_1 : Int) := od; have q0 : x2_1 < (l0.length : Int) := od; obtain ⟨ad0, e0, hx0_6, hx0_1, hx0_3⟩ := at_T98 HR0.1 x2_1 p0 q0
       cases e0; replace hx0_6 := cb HB.1 hx0_6; replace hx0_1 := cb HB.1 hx0_1; replace hx0_3 := cb HB.1 hx0_3; replace p0 := eq_true p0; replace q0 := eq_true q0; go_wp2_with (first | ((with_reducible refine gate_dst (N := 9) rfl ?_); refine bx 9 #[.int .i64 0, .int .i64 0, .int .i64 0] 98 ?_; intro gb4 hg w13 hbox hb; have BK4 := ak hbox; have GW337 := gw hg HB; have GE4 := gw hg HB; replace HB := bs HB hb; clear hb hbox hg; have hcz9 := cz3 BK4.1))
       go_roundg k1
       case measure => have := HK1.1; omega
       case rel => exact ⟨(x5_1), (wrap64 (x2_1 + 1)), es, es, H', ⟨by have := HK1.1; omega⟩, ⟨vb HB.1⟩⟩
     ·exact nO_ c6 H
    ·exact nO_ c5 H
   ·rw [if_neg c4] at H; have c4b0 := decide_eq_false c4; clear c4; obtain rfl := sj H; go_wp2
    go_ret
    exact ⟨ew, vb HB.1⟩


/-! ### impl_squareTo: function 135 -/
def impl_squareTo.f (a0_0 : Int) (a0_1 : Int) (a0_2 : Int) (a0_3 : Int) (a0_4 : Int) (a1 : Int) (a2 : Int) : Option (Int) := some (wrap64 ((wrap64 ((mx (mx 0 (wrap64 (a0_1 - a1))) (wrap64 ((wrap64 (a1 - a0_1)) - a0_3))) * (mx (mx 0 (wrap64 (a0_1 - a1))) (wrap64 ((wrap64 (a1 - a0_1)) - a0_3))))) + (wrap64 ((mx (mx 0 (wrap64 (a0_2 - a2))) (wrap64 ((wrap64 (a2 - a0_2)) - a0_4))) * (mx (mx 0 (wrap64 (a0_2 - a2))) (wrap64 ((wrap64 (a2 - a0_2)) - a0_4)))))))
set_option maxHeartbeats 8000000 in
set_option maxRecDepth 100000 in
theorem impl_squareTo.calls (a0_0 : Int) (a0_1 : Int) (a0_2 : Int) (a0_3 : Int) (a0_4 : Int) (a1 : Int) (a2 : Int) (r : Int) (w : World) (h : impl_squareTo.f a0_0 a0_1 a0_2 a0_3 a0_4 a1 a2 = some r) :
  Calls Try.prog 135 #[.agg #[.int .i64 a0_0, .int .i64 a0_1, .int .i64 a0_2, .int .i64 a0_3, .int .i64 a0_4], .int .i64 a1, .int .i64 a2] w fun e w' => e = .returned (.int .i64 r) ∧ Below w.heap.size w w' := by
 have hu103 := Try.underlying103; have HB := ak (Below.refl w.heap.size w); unfold impl_squareTo.f at h; have H := h; clear h; obtain ⟨ji0, hji4⟩ : ∃ j_ : Int, (mx 0 (wrap64 (a0_1 - a1))) = j_ := ⟨_, rfl⟩; replace H : (some (wrap64 ((wrap64 ((mx (ji0) (wrap64 ((wrap64 (a1 - a0_1)) - a0_3))) * (mx (ji0) (wrap64 ((wrap64 (a1 - a0_1)) - a0_3))))) + (wrap64 ((mx (mx 0 (wrap64 (a0_2 - a2))) (wrap64 ((wrap64 (a2 - a0_2)) - a0_4))) * (mx (mx 0 (wrap64 (a0_2 - a2))) (wrap64 ((wrap64 (a2 - a0_2)) - a0_4)))))))) = some r := by first | (rw [hji4] at H; exact H) | (simp only [hji4] at H ⊢; exact H)
 (try (have hji4l : 0 ≤ ji0 := by (rw [← hji4]; unfold mx; (repeat' split) <;> omega)))
 (try (have hji4m : 0 ≤ ji0 := by omega))
 have hji4_ : (if 0 < (wrap64 (a0_1 - a1)) then (wrap64 (a0_1 - a1)) else 0) = ji0 := hji4; obtain ⟨ji2, hji5⟩ : ∃ j_ : Int, (mx (ji0) (wrap64 ((wrap64 (a1 - a0_1)) - a0_3))) = j_ := ⟨_, rfl⟩; replace H : (some (wrap64 ((wrap64 ((ji2) * (ji2))) + (wrap64 ((mx (mx 0 (wrap64 (a0_2 - a2))) (wrap64 ((wrap64 (a2 - a0_2)) - a0_4))) * (mx (mx 0 (wrap64 (a0_2 - a2))) (wrap64 ((wrap64 (a2 - a0_2)) - a0_4)))))))) = some r := by first | (rw [hji5] at H; exact H) | (simp only [hji5] at H ⊢; exact H)
 have hji5_ : (if (ji0) < (wrap64 ((wrap64 (a1 - a0_1)) - a0_3)) then (wrap64 ((wrap64 (a1 - a0_1)) - a0_3)) else (ji0)) = ji2 := hji5; obtain ⟨ji1, hji6⟩ : ∃ j_ : Int, (mx 0 (wrap64 (a0_2 - a2))) = j_ := ⟨_, rfl⟩; replace H : (some (wrap64 ((wrap64 ((ji2) * (ji2))) + (wrap64 ((mx (ji1) (wrap64 ((wrap64 (a2 - a0_2)) - a0_4))) * (mx (ji1) (wrap64 ((wrap64 (a2 - a0_2)) - a0_4)))))))) = some r := by first | (rw [hji6] at H; exact H) | (simp only [hji6] at H ⊢; exact H)
 (try (have hji6l : 0 ≤ ji1 := by (rw [← hji6]; unfold mx; (repeat' split) <;> omega)))
 (try (have hji6m : 0 ≤ ji1 := by omega))
 have hji6_ : (if 0 < (wrap64 (a0_2 - a2)) then (wrap64 (a0_2 - a2)) else 0) = ji1 := hji6; obtain ⟨ji3, hji7⟩ : ∃ j_ : Int, (mx (ji1) (wrap64 ((wrap64 (a2 - a0_2)) - a0_4))) = j_ := ⟨_, rfl⟩; replace H : (some (wrap64 ((wrap64 ((ji2) * (ji2))) + (wrap64 ((ji3) * (ji3)))))) = some r := by first | (rw [hji7] at H; exact H) | (simp only [hji7] at H ⊢; exact H)
 have hji7_ : (if (ji1) < (wrap64 ((wrap64 (a2 - a0_2)) - a0_4)) then (wrap64 ((wrap64 (a2 - a0_2)) - a0_4)) else (ji1)) = ji3 := hji7; obtain rfl := sj H; go_enter Try.func135, Try.ntmps135; go_wp2_with (first | ((with_reducible refine gate_dst (N := 3) rfl ?_); refine bx 3 #[.int .i64 a0_0, .int .i64 a0_1, .int .i64 a0_2, .int .i64 a0_3, .int .i64 a0_4] 103 ?_; intro gb4 hg w8 hbox hb; have BK4 := ak hbox; have GW338 := gw hg HB; have GE4 := gw hg HB; replace HB := bs HB hb; clear hb hbox hg; have hcz5 := cz5 BK4.1))
 go_ret
 exact ⟨by first | rfl | (simp [errW_none, errW_some] <;> rfl) | (simp only [← hji4, ← hji5, ← hji6, ← hji7]; first | rfl | (simp [errW_none, errW_some] <;> rfl)) | (simp [*, errW_none, errW_some] <;> rfl), vb HB.1⟩


/-! ### impl_areasAgainst: function 115 -/
def impl_areasAgainst.l0 : Nat → List (S98) → Int → Int → Int → List Int → List (S103) → Int → Int → Option (List Int)
 | 0, _, _, _, _, _, _, _, _ => none
 | k + 1, x5, x6, x7, x8, x3, x9, x14, x1 => if x1 < x14 then (if 0 ≤ x1 then (if x1 < (x9.length : Int) then ((impl_distanceFor.f k x5 x6 ((rd_T103 x9 x1).f0)).bind fun t10 => (if t10 < 0 then (if x3.length < 17592186044416 then (impl_areasAgainst.l0 k x5 x6 x7 x8 (x3 ++ [x1]) x9 x14 (wrap64 (x1 + 1))) else (none)) else ((impl_squareTo.f ((rd_T103 x9 x1).f0) ((rd_T103 x9 x1).f1) ((rd_T103 x9 x1).f2) ((rd_T103 x9 x1).f3) ((rd_T103 x9 x1).f4) x7 x8).bind fun t13 => (if t13 < (wrap64 (t10 * t10)) then (if x3.length < 17592186044416 then (impl_areasAgainst.l0 k x5 x6 x7 x8 (x3 ++ [x1]) x9 x14 (wrap64 (x1 + 1))) else (none)) else (impl_areasAgainst.l0 k x5 x6 x7 x8 x3 x9 x14 (wrap64 (x1 + 1))))))) else (none)) else (none)) else (some x3)
def impl_areasAgainst.f (k : Nat) (l0 : List (S98)) (l1 : List (S103)) (a2 : Int) (a3 : Int) (a4 : Int) : Option (List Int) := impl_areasAgainst.l0 k l0 a2 a3 a4 ([] : List Int) l1 (l1.length : Int) 0
set_option maxHeartbeats 8000000 in
set_option maxRecDepth 100000 in
theorem impl_areasAgainst.calls (k : Nat) (A0 : Option Addr) (c0 : Nat) (l0 : List (S98)) (A1 : Option Addr) (c1 : Nat) (l1 : List (S103)) (a2 : Int) (a3 : Int) (a4 : Int) (r : List Int) (w : World) (hr0 : Kd.C k98 w A0 l0.length l0) (hc0 : l0.length ≤ c0) (hr1 : Kd.C k103 w A1 l1.length l1) (hc1 : l1.length ≤ c1) (h : impl_areasAgainst.f k l0 l1 a2 a3 a4 = some r) :
  Calls Try.prog 115 #[.slice A0 l0.length c0, .slice A1 l1.length c1, .int .i64 a2, .int .i64 a3, .int .i64 a4] w fun e w' => ∃ v0_ : Value, e = .returned (v0_) ∧ Kd.R (Kd.int .i64) 2 w' w.heap.size (fun _ => True) v0_ r ∧ Below w.heap.size w w' := by
 have hu103 := Try.underlying103; have HR0 := ak hr0; have HC0 := ak hc0; clear hr0 hc0; have HR1 := ak hr1; have HC1 := ak hc1; clear hr1 hc1; have HB := ak (Below.refl w.heap.size w); unfold impl_areasAgainst.f at h; have H := h; clear h; have H' := ak H; clear H; go_enter Try.func115, Try.ntmps115; go_wp2
 go_loopg [11, 17] k (fun kq v3 v1 w' => ∃ (x3_0 : List Int) (x1_0 : Int), v1 = .int .i64 x1_0 ∧ Aside0 (impl_areasAgainst.l0 kq l0 a2 a3 a4 x3_0 l1 (l1.length : Int) x1_0 = some r) ∧ Aside0 (kq ≤ k) ∧ Aside0 (Kd.R (Kd.int .i64) 2 w' w.heap.size (fun _ => True) v3 x3_0) ∧ Aside0 (Below w.heap.size w w'))
 case atStart => exact ⟨(([] : List Int)), (0), es, H', ⟨Nat.le_refl _⟩, ⟨by first | exact Kd.R_nil _ _ _ _ _ | exact Kd.N_nil _ _ _ _ _ | exact Kd.V_nil _ _ _ _ _ | exact Kd.Q_nil _ _ _ _ _ | exact Kd.S_nil _ _ _ _ _⟩, ⟨vb HB.1⟩⟩
 case round =>
  clear H'; obtain ⟨x3_0, x1_0, rfl, HA, HK1, HO_3, HB⟩ := hrel
  cases gk with
  | zero => exact absurd HA.1 (by simp [impl_areasAgainst.l0])
  | succ k1 =>
   have H := HA.1; clear HA; simp only [impl_areasAgainst.l0] at H
   by_cases c6 : x1_0 < (l1.length : Int)
   ·rw [if_pos c6] at H; have c6b0 := decide_eq_true c6; clear c6; by_cases c7 : 0 ≤ x1_0
    ·rw [if_pos c7] at H; have c7b0 := decide_eq_true c7; clear c7; by_cases c8 : x1_0 < (l1.length : Int)
     ·rw [if_pos c8] at H; have c8b0 := decide_eq_true c8; clear c8; obtain ⟨t10, A9, H⟩ := bnk H; by_cases c10 : t10 < 0
      ·rw [if_pos c10] at H; have c10b0 := decide_eq_true c10; clear c10; by_cases c11 : x3_0.length < 17592186044416
       ·rw [if_pos c11] at H; have LMc11 := ak c11; clear c11; obtain ⟨y11, hy11⟩ := gen_ ((x3_0 ++ [x1_0] : List Int)); rw [← hy11] at H; have Ny11 := ak hy11; clear hy11; have H' := ak H; clear H; have p2 : 0 ≤ (x1_0 : Int) := od; have q2 : x1_0 < (l1.length : Int) := od; obtain ⟨ad2, e2, hx2_5, hx2_0, hx2_6, hx2_7, hx2_8⟩ := at_T103 HR1.1 x1_0 p2 q2
        cases e2; replace hx2_5 := cb HB.1 hx2_5; replace hx2_0 := cb HB.1 hx2_0; replace hx2_6 := cb HB.1 hx2_6; replace hx2_7 := cb HB.1 hx2_7; replace hx2_8 := cb HB.1 hx2_8; replace p2 := eq_true p2; replace q2 := eq_true q2; go_wp2_with (first | ((with_reducible refine gate_dst (N := 13) rfl ?_); refine bx 13 #[.int .i64 0, .int .i64 0, .int .i64 0, .int .i64 0, .int .i64 0] 103 ?_; intro gb4 hg w12 hbox hb; replace HO_3 := rb HO_3 hb; have BK4 := ak hbox; have GW340 := gw hg HB; have GE4 := gw hg HB; replace HB := bs HB hb; clear hb hbox hg; have hcz17 := cz5 BK4.1) | ((with_reducible refine at_fn (f := 134) rfl ?_); refine gl (some 26) Try.func134 #[.slice A0 l0.length c0, .int .i64 a2, .int .i64 ((rd_T103 l1 x1_0).f0)] ?_; (with_reducible refine (impl_distanceFor.calls k1 _ _ l0 a2 ((rd_T103 l1 x1_0).f0) t10 _ ?_ HC0.1 A9.1).mono ?_); exact Kd.C_below HR0.1 (vb HB.1); rintro e w14 ⟨rfl, hb⟩; refine ⟨_, rfl, ?_⟩; replace HO_3 := rbz HO_3 BK4 hb; replace BK4 := ak (blk_below (g := gb4) (o := .cells #[.int .i64 ((rd_T103 l1 x1_0).f0), .int .i64 ((rd_T103 l1 x1_0).f1), .int .i64 ((rd_T103 l1 x1_0).f2), .int .i64 ((rd_T103 l1 x1_0).f3), .int .i64 ((rd_T103 l1 x1_0).f4)] 103 (0, 0)) (vz BK4.1) hb); replace HB := bs HB hb; (try clear hb)) | ((with_reducible refine at_bi (b := .append) (xs := #[.tmp 39, .tmp 41]) rfl ?_); at_builtin; refine Kd.R_append (Kd.int .i64) (w0 := w) w.heap.size rfl (.tmp 39) (.tmp 41) 24 2 (.int .i64 0) 8 rfl Try.underlying24 info2 rfl (by decide) (by omega) u11 x3_0 x1_0 [.int .i64 x1_0] (fun _ => True) (fun _ => False) rfl rfl ?aP (fun _ hk => hk.elim) ?aF ?aO ?aB ?aS ?aL ?_; (case aP => exact rfl); (case aB => exact (vb HB.1)); (case aF => exact (fun _ _ => trivial)); (case aO => exact (vr HO_3.1)); (case aS => exact (below_size (vb HB.1))); (case aL => have := LMc11.1; omega); intro v22 w15 ho hb hg hat; rw [← Ny11.1] at ho; have n0_ := ak (blk_grown (g := gb4) (o := .cells #[.int .i64 ((rd_T103 l1 x1_0).f0), .int .i64 ((rd_T103 l1 x1_0).f1), .int .i64 ((rd_T103 l1 x1_0).f2), .int .i64 ((rd_T103 l1 x1_0).f3), .int .i64 ((rd_T103 l1 x1_0).f4)] 103 (0, 0)) (vk BK4.1) hg (Kd.R_ne HO_3.1 BK4.1 (by decide))); have n1_ := ak (hb); have n2_ := ak (ho); clear BK4; clear HB; clear HO_3; have BK4 := n0_; have HB := n1_; have HO15 := n2_; clear n0_ n1_ n2_; clear ho hb hg hat))
        go_roundg k1
        case measure => have := HK1.1; omega
        case rel => exact ⟨(y11), (wrap64 (x1_0 + 1)), es, H', ⟨by have := HK1.1; omega⟩, ⟨vr HO15.1⟩, ⟨vb HB.1⟩⟩
       ·exact nO_ c11 H
      ·rw [if_neg c10] at H; have c10b0 := decide_eq_false c10; clear c10; obtain ⟨t13, A16, H⟩ := bnk H; by_cases c17 : t13 < (wrap64 (t10 * t10))
       ·rw [if_pos c17] at H; have c17b0 := decide_eq_true c17; clear c17; by_cases c18 : x3_0.length < 17592186044416
        ·rw [if_pos c18] at H; have LMc18 := ak c18; clear c18; obtain ⟨y12, hy12⟩ := gen_ ((x3_0 ++ [x1_0] : List Int)); rw [← hy12] at H; have Ny12 := ak hy12; clear hy12; have H' := ak H; clear H; have p2 : 0 ≤ (x1_0 : Int) := od; have q2 : x1_0 < (l1.length : Int) := od; obtain ⟨ad2, e2, hx2_5, hx2_0, hx2_6, hx2_7, hx2_8⟩ := at_T103 HR1.1 x1_0 p2 q2
         cases e2; replace hx2_5 := cb HB.1 hx2_5; replace hx2_0 := cb HB.1 hx2_0; replace hx2_6 := cb HB.1 hx2_6; replace hx2_7 := cb HB.1 hx2_7; replace hx2_8 := cb HB.1 hx2_8; replace p2 := eq_true p2; replace q2 := eq_true q2; go_wp2_with (first | ((with_reducible refine gate_dst (N := 13) rfl ?_); refine bx 13 #[.int .i64 0, .int .i64 0, .int .i64 0, .int .i64 0, .int .i64 0] 103 ?_; intro gb4 hg w19 hbox hb; replace HO_3 := rb HO_3 hb; have BK4 := ak hbox; have GW340 := gw hg HB; have GE4 := gw hg HB; replace HB := bs HB hb; clear hb hbox hg; have hcz18 := cz5 BK4.1) | ((with_reducible refine at_fn (f := 134) rfl ?_); refine gl (some 26) Try.func134 #[.slice A0 l0.length c0, .int .i64 a2, .int .i64 ((rd_T103 l1 x1_0).f0)] ?_; (with_reducible refine (impl_distanceFor.calls k1 _ _ l0 a2 ((rd_T103 l1 x1_0).f0) t10 _ ?_ HC0.1 A9.1).mono ?_); exact Kd.C_below HR0.1 (vb HB.1); rintro e w21 ⟨rfl, hb⟩; refine ⟨_, rfl, ?_⟩; replace HO_3 := rbz HO_3 BK4 hb; replace BK4 := ak (blk_below (g := gb4) (o := .cells #[.int .i64 ((rd_T103 l1 x1_0).f0), .int .i64 ((rd_T103 l1 x1_0).f1), .int .i64 ((rd_T103 l1 x1_0).f2), .int .i64 ((rd_T103 l1 x1_0).f3), .int .i64 ((rd_T103 l1 x1_0).f4)] 103 (0, 0)) (vz BK4.1) hb); replace HB := bs HB hb; (try clear hb); have hcz19 := cz5 BK4.1) | (go_at_call 135; (with_reducible refine (impl_squareTo.calls ((rd_T103 l1 x1_0).f0) ((rd_T103 l1 x1_0).f1) ((rd_T103 l1 x1_0).f2) ((rd_T103 l1 x1_0).f3) ((rd_T103 l1 x1_0).f4) a3 a4 t13 _ A16.1).mono ?_); rintro e w23 ⟨rfl, hb⟩; replace HO_3 := rb HO_3 hb; replace BK4 := kb BK4 hb; replace HB := bs HB hb; (try clear hb)) | ((with_reducible refine at_bi (b := .append) (xs := #[.tmp 39, .tmp 41]) rfl ?_); at_builtin; refine Kd.R_append (Kd.int .i64) (w0 := w) w.heap.size rfl (.tmp 39) (.tmp 41) 24 2 (.int .i64 0) 8 rfl Try.underlying24 info2 rfl (by decide) (by omega) u11 x3_0 x1_0 [.int .i64 x1_0] (fun _ => True) (fun _ => False) rfl rfl ?aP (fun _ hk => hk.elim) ?aF ?aO ?aB ?aS ?aL ?_; (case aP => exact rfl); (case aB => exact (vb HB.1)); (case aF => exact (fun _ _ => trivial)); (case aO => exact (vr HO_3.1)); (case aS => exact (below_size (vb HB.1))); (case aL => have := LMc18.1; omega); intro v23 w24 ho hb hg hat; rw [← Ny12.1] at ho; have n0_ := ak (blk_grown (g := gb4) (o := .cells #[.int .i64 ((rd_T103 l1 x1_0).f0), .int .i64 ((rd_T103 l1 x1_0).f1), .int .i64 ((rd_T103 l1 x1_0).f2), .int .i64 ((rd_T103 l1 x1_0).f3), .int .i64 ((rd_T103 l1 x1_0).f4)] 103 (0, 0)) (vk BK4.1) hg (Kd.R_ne HO_3.1 BK4.1 (by decide))); have n1_ := ak (hb); have n2_ := ak (ho); clear BK4; clear HB; clear HO_3; have BK4 := n0_; have HB := n1_; have HO16 := n2_; clear n0_ n1_ n2_; clear ho hb hg hat))
         go_roundg k1
         case measure => have := HK1.1; omega
         case rel => exact ⟨(y12), (wrap64 (x1_0 + 1)), es, H', ⟨by have := HK1.1; omega⟩, ⟨vr HO16.1⟩, ⟨vb HB.1⟩⟩
        ·exact nO_ c18 H
       ·rw [if_neg c17] at H; have c17b0 := decide_eq_false c17; clear c17; have H' := ak H; clear H; have p2 : 0 ≤ (x1_0 : Int) := od; have q2 : x1_0 < (l1.length : Int) := od; obtain ⟨ad2, e2, hx2_5, hx2_0, hx2_6, hx2_7, hx2_8⟩ := at_T103 HR1.1 x1_0 p2 q2
        cases e2; replace hx2_5 := cb HB.1 hx2_5; replace hx2_0 := cb HB.1 hx2_0; replace hx2_6 := cb HB.1 hx2_6; replace hx2_7 := cb HB.1 hx2_7; replace hx2_8 := cb HB.1 hx2_8; replace p2 := eq_true p2; replace q2 := eq_true q2; go_wp2_with (first | ((with_reducible refine gate_dst (N := 13) rfl ?_); refine bx 13 #[.int .i64 0, .int .i64 0, .int .i64 0, .int .i64 0, .int .i64 0] 103 ?_; intro gb4 hg w25 hbox hb; replace HO_3 := rb HO_3 hb; have BK4 := ak hbox; have GW340 := gw hg HB; have GE4 := gw hg HB; replace HB := bs HB hb; clear hb hbox hg; have hcz20 := cz5 BK4.1) | ((with_reducible refine at_fn (f := 134) rfl ?_); refine gl (some 26) Try.func134 #[.slice A0 l0.length c0, .int .i64 a2, .int .i64 ((rd_T103 l1 x1_0).f0)] ?_; (with_reducible refine (impl_distanceFor.calls k1 _ _ l0 a2 ((rd_T103 l1 x1_0).f0) t10 _ ?_ HC0.1 A9.1).mono ?_); exact Kd.C_below HR0.1 (vb HB.1); rintro e w27 ⟨rfl, hb⟩; refine ⟨_, rfl, ?_⟩; replace HO_3 := rbz HO_3 BK4 hb; replace BK4 := ak (blk_below (g := gb4) (o := .cells #[.int .i64 ((rd_T103 l1 x1_0).f0), .int .i64 ((rd_T103 l1 x1_0).f1), .int .i64 ((rd_T103 l1 x1_0).f2), .int .i64 ((rd_T103 l1 x1_0).f3), .int .i64 ((rd_T103 l1 x1_0).f4)] 103 (0, 0)) (vz BK4.1) hb); replace HB := bs HB hb; (try clear hb); have hcz21 := cz5 BK4.1) | (go_at_call 135; (with_reducible refine (impl_squareTo.calls ((rd_T103 l1 x1_0).f0) ((rd_T103 l1 x1_0).f1) ((rd_T103 l1 x1_0).f2) ((rd_T103 l1 x1_0).f3) ((rd_T103 l1 x1_0).f4) a3 a4 t13 _ A16.1).mono ?_); rintro e w29 ⟨rfl, hb⟩; replace HO_3 := rb HO_3 hb; replace BK4 := kb BK4 hb; replace HB := bs HB hb; (try clear hb)))
        go_roundg k1
        case measure => have := HK1.1; omega
        case rel => exact ⟨(x3_0), (wrap64 (x1_0 + 1)), es, H', ⟨by have := HK1.1; omega⟩, ⟨vr HO_3.1⟩, ⟨vb HB.1⟩⟩
     ·exact nO_ c8 H
    ·exact nO_ c7 H
   ·rw [if_neg c6] at H; have c6b0 := decide_eq_false c6; clear c6; obtain rfl := sj H; go_wp2
    go_ret
    exact ⟨_, ew, vr HO_3.1, vb HB.1⟩


/-! ### impl_isAllowed: function 68 -/
def impl_isAllowed.f (k : Nat) (l0 : List (S98)) (l1 : List (S103)) (a2 : Int) (a3 : Int) (a4 : Int) : Option (Bool) := (impl_areasAgainst.f k l0 l1 a2 a3 a4).bind fun t0 => (some ((t0.length : Int) == 0))
set_option maxHeartbeats 8000000 in
set_option maxRecDepth 100000 in
theorem impl_isAllowed.calls (k : Nat) (A0 : Option Addr) (c0 : Nat) (l0 : List (S98)) (A1 : Option Addr) (c1 : Nat) (l1 : List (S103)) (a2 : Int) (a3 : Int) (a4 : Int) (r : Bool) (w : World) (hr0 : Kd.C k98 w A0 l0.length l0) (hc0 : l0.length ≤ c0) (hr1 : Kd.C k103 w A1 l1.length l1) (hc1 : l1.length ≤ c1) (h : impl_isAllowed.f k l0 l1 a2 a3 a4 = some r) :
  Calls Try.prog 68 #[.slice A0 l0.length c0, .slice A1 l1.length c1, .int .i64 a2, .int .i64 a3, .int .i64 a4] w fun e w' => e = .returned (.bool r) ∧ Below w.heap.size w w' := by
 have HR0 := ak hr0; have HC0 := ak hc0; clear hr0 hc0; have HR1 := ak hr1; have HC1 := ak hc1; clear hr1 hc1; have HB := ak (Below.refl w.heap.size w); unfold impl_isAllowed.f at h; have H := h; clear h; obtain ⟨t0, A6, H⟩ := bnk H; obtain rfl := sj H; go_enter Try.func68, Try.ntmps68; go_wp2_with (first | ((with_reducible refine at_fn (f := 115) rfl ?_); refine gl (some 16) Try.func115 #[.slice A0 l0.length c0, .slice A1 l1.length c1, .int .i64 a2, .int .i64 a3, .int .i64 a4] ?_; (with_reducible refine (impl_areasAgainst.calls k _ _ l0 _ _ l1 a2 a3 a4 t0 _ ?_ HC0.1 ?_ HC1.1 A6.1).mono ?_); exact vc HR0.1; exact vc HR1.1; rintro e w7 ⟨v4, rfl, ho1, hb⟩; refine ⟨_, rfl, ?_⟩; have HO3 := ak (Kd.R_lower ho1 (below_size (vb HB.1))); replace HB := bs HB hb; (try clear hb); (try clear ho1); obtain ⟨Ao2, co2, rfl⟩ := Kd.R_slice HO3.1))
 go_ret
 exact ⟨ew, vb HB.1⟩


end Go.Proofs.Ytancnecddlbhkaa.Pall
