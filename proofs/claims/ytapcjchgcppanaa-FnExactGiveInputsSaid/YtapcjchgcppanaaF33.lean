/- Go functions of the program, each as a Lean function, and the proof that each call comes to what the Lean function tells; no condition beyond those that stand there. -/
import Derived.Test.YtapcjchgcppanaaF00
import Derived.Test.YtapcjchgcppanaaF02
import Derived.Test.YtapcjchgcppanaaF21
import Derived.Test.YtapcjchgcppanaaSq
import Derived.Test.YtapcjchgcppanaaWLast
import Derived.Test.YtapcjchgcppanaaWTab
import Derived.Test.YtapcjchgcppanaaSpare
namespace Go.Proofs.Ytapcjchgcppanaa.Pall
open Go.RowKit Go.Proofs.YtapcjchgcppanaaW.PrintWords Go.Proofs.YtapcjchgcppanaaW.PrintLast
set_option linter.unusedVariables false
set_option linter.unusedSimpArgs false

/-! ### spec_GiveInputs: function 39 -/
def spec_GiveInputs.l0 : Nat → List Int → Int → Bool → Bool → Bool → Bool → Bool → Int → Option (Bool × Bool × Bool × Bool × Bool × Int × Int × Int)
 | 0, _, _, _, _, _, _, _, _ => none
 | k + 1, x1, x7, x617000, x617001, x617002, x617003, x617004, x617005 => if x7 < (x1.length : Int) then (if 0 ≤ x7 then ((spec_l21Input.f x617000 x617001 x617002 x617003 x617004 x617005 (rd x1 x7)).bind fun bt620 => (if bt620.2.2.2.2.2.2 = 0 then (spec_GiveInputs.l0 k x1 (wrap64 (x7 + 1)) bt620.1 bt620.2.1 bt620.2.2.1 bt620.2.2.2.1 bt620.2.2.2.2.1 bt620.2.2.2.2.2.1) else (some (x617000, x617001, x617002, x617003, x617004, x617005, x7, bt620.2.2.2.2.2.2)))) else (none)) else (some (x617000, x617001, x617002, x617003, x617004, x617005, (x1.length : Int), 0))
def spec_GiveInputs.f (k : Nat) (a0_0 : Bool) (a0_1 : Bool) (a0_2 : Bool) (a0_3 : Bool) (a0_4 : Bool) (a0_5 : Int) (l1 : List Int) : Option (Bool × Bool × Bool × Bool × Bool × Int × Int × Int) := (spec_IsSound.f a0_0 a0_1 a0_2 a0_3 a0_4 a0_5).bind fun t618 => (if t618 = true then (if (l1.length : Int) > 60 then (some (false, false, false, false, false, 0, 0, 3)) else (spec_GiveInputs.l0 k l1 0 a0_0 a0_1 a0_2 a0_3 a0_4 a0_5)) else (some (false, false, false, false, false, 0, 0, 1)))
theorem spec_GiveInputs.mono_l : ∀ k, (∀ y0 y1 y2 y3 y4 y5 y6 y7, LeO (spec_GiveInputs.l0 k y0 y1 y2 y3 y4 y5 y6 y7) (spec_GiveInputs.l0 (k + 1) y0 y1 y2 y3 y4 y5 y6 y7))
 | 0 => fun _ _ _ _ _ _ _ _ r h => by simp [spec_GiveInputs.l0] at h
 | k + 1 => by
  have ih0 := spec_GiveInputs.mono_l k
  ·intro y0 y1 y2 y3 y4 y5 y6 y7
   unfold spec_GiveInputs.l0
   repeat' first
   | (with_reducible exact ih0 _ _ _ _ _ _ _ _)
   | (with_reducible exact LeO.refl _)
   | (with_reducible exact LeO.none _)
   | (with_reducible refine LeO.ite ?_ ?_)
   | (with_reducible refine LeO.bind ?_ (fun _ => ?_))
   | exact ih0 _ _ _ _ _ _ _ _
   | exact LeO.none _
   | refine LeO.ite ?_ ?_
   | refine LeO.bind ?_ (fun _ => ?_)
theorem spec_GiveInputs.mono : ∀ a0 a1 a2 a3 a4 a5 a6 k, LeO (spec_GiveInputs.f k a0 a1 a2 a3 a4 a5 a6) (spec_GiveInputs.f (k + 1) a0 a1 a2 a3 a4 a5 a6) := by
 intro a0 a1 a2 a3 a4 a5 a6 k
 have ih0 := spec_GiveInputs.mono_l k
 unfold spec_GiveInputs.f
 repeat' first
   | (with_reducible exact ih0 _ _ _ _ _ _ _ _)
   | (with_reducible exact LeO.refl _)
   | (with_reducible exact LeO.none _)
   | (with_reducible refine LeO.ite ?_ ?_)
   | (with_reducible refine LeO.bind ?_ (fun _ => ?_))
   | exact ih0 _ _ _ _ _ _ _ _
   | exact LeO.none _
   | refine LeO.ite ?_ ?_
   | refine LeO.bind ?_ (fun _ => ?_)
def spec_GiveInputs.T8 : Bool × List (List Nat × List Nat) := (true, [([], []), ([], []), ([], []), ([1, 2], [1, 2]), ([3], [3]), ([0, 4], [0, 4]), ([5], [5]), ([6], [6]), ([6], [6]), ([], []), ([9, 7, 5, 0, 1, 2, 3, 4, 5, 6, 7, 9], [7, 9]), ([8, 10, 0, 1, 2, 3, 4, 5, 6, 7, 8, 9, 10], [8])])
def spec_GiveInputs.B8 : List Nat := [0, 0, 0, 6, 14, 31, 63, 127, 127, 0, 767, 2047]
theorem spec_GiveInputs.tab8 : rtab .any (opsOf Try.f39 8) = spec_GiveInputs.T8 := by kernel_rfl
theorem spec_GiveInputs.bits8 : waitsOk spec_GiveInputs.T8.2 spec_GiveInputs.B8 = true := by kernel_rfl
set_option maxHeartbeats 8000000 in
set_option maxRecDepth 100000 in
theorem spec_GiveInputs.calls (k : Nat) (a0_0 : Bool) (a0_1 : Bool) (a0_2 : Bool) (a0_3 : Bool) (a0_4 : Bool) (a0_5 : Int) (A1 : Option Addr) (c1 : Nat) (l1 : List Int) (r1 : Bool) (r2 : Bool) (r3 : Bool) (r4 : Bool) (r5 : Bool) (r6 : Int) (r7 : Int) (r8 : Int) (w : World) (hr1 : Kd.C (Kd.int .i64) w A1 l1.length l1) (hc1 : l1.length ≤ c1) (h : spec_GiveInputs.f k a0_0 a0_1 a0_2 a0_3 a0_4 a0_5 l1 = some (r1, r2, r3, r4, r5, r6, r7, r8)) :
  Calls Try.prog 39 #[.agg #[.bool a0_0, .bool a0_1, .bool a0_2, .bool a0_3, .bool a0_4, .int .i64 a0_5], .slice A1 l1.length c1] w fun e w' => e = .returned (.tuple #[.agg #[.bool r1, .bool r2, .bool r3, .bool r4, .bool r5, .int .i64 r6], .int .i64 r7, .int .i64 r8]) ∧ Below w.heap.size w w' := by
 have hu25 := Try.underlying25
 have HR1 := Aside0.mk hr1
 have HC1 := Aside0.mk hc1
 clear hr1 hc1
 have HB := Aside0.mk (Below.refl w.heap.size w)
 have H : ((spec_IsSound.f a0_0 a0_1 a0_2 a0_3 a0_4 a0_5).bind fun t618 => (if t618 = true then (if (l1.length : Int) > 60 then (some (false, false, false, false, false, 0, 0, 3)) else (spec_GiveInputs.l0 k l1 0 a0_0 a0_1 a0_2 a0_3 a0_4 a0_5)) else (some (false, false, false, false, false, 0, 0, 1)))) = some (r1, r2, r3, r4, r5, r6, r7, r8) := h
 clear h
 replace H := Option.bind_eq_some_iff.mp H
 obtain ⟨t618, A30, H⟩ := H
 replace H : (if t618 = true then (if (l1.length : Int) > 60 then (some (false, false, false, false, false, 0, 0, 3)) else (spec_GiveInputs.l0 k l1 0 a0_0 a0_1 a0_2 a0_3 a0_4 a0_5)) else (some (false, false, false, false, false, 0, 0, 1))) = some (r1, r2, r3, r4, r5, r6, r7, r8) := H
 have A3 := Aside0.mk A30
 clear A30
 by_cases c4 : t618 = true
 ·subst c4
  have H1 : (if (l1.length : Int) > 60 then (some (false, false, false, false, false, 0, 0, 3)) else (spec_GiveInputs.l0 k l1 0 a0_0 a0_1 a0_2 a0_3 a0_4 a0_5)) = some (r1, r2, r3, r4, r5, r6, r7, r8) := by rw [if_pos rfl] at H; exact H
  clear H
  have H := H1
  clear H1
  by_cases c5 : (l1.length : Int) > 60
  ·rw [if_pos c5] at H
   have c5b0 : decide (60 < (l1.length : Int)) = true := decide_eq_true c5
   have c5b1 : decide (60 < l1.length) = true := decide_eq_true (by omega)
   clear c5
   simp only [Option.some.injEq, Prod.mk.injEq] at H
   obtain ⟨rfl, rfl, rfl, rfl, rfl, rfl, rfl, rfl⟩ := H
   go_enter Try.func39, Try.ntmps39
   go_wp2_with (first | ((with_reducible refine gate_dst (N := 2) rfl ?_); refine box_event ?hg (N := 2) ?hd (cs := #[.bool a0_0, .bool a0_1, .bool a0_2, .bool a0_3, .bool a0_4, .int .i64 a0_5]) (t := 25) ?hr ?_; (case hd => rfl); (case hg => rfl); (case hr => first | (go_simp; done) | (go_simp; rfl)); intro gb616 hg w6 hbox hb; have n0_ := Aside0.mk (below_step (by repeat (first | (with_reducible first | exact HB.out | apply below_alloc | apply pw_below_drewN | apply below_drew1) | exact HB.out)) hb); have n1_ := Aside0.mk (hbox); have n2_ := Aside0.mk ((by rw [hg]; exact (below_size (by repeat (first | (with_reducible first | exact HB.out | apply below_alloc | apply pw_below_drewN | apply below_drew1) | exact HB.out))) : w.heap.size ≤ gb616)); have n3_ := Aside0.mk ((by rw [hg]; exact (below_size (by repeat (first | (with_reducible first | exact HB.out | apply below_alloc | apply pw_below_drewN | apply below_drew1) | exact HB.out))) : w.heap.size ≤ gb616)); clear HB; have HB := n0_; have BK616 := n1_; have GW616 := n2_; have GE616 := n3_; clear n0_ n1_ n2_ n3_; clear hb hbox hg) | ((with_reducible refine gate_dst (N := 4) rfl ?_); refine box_event ?hg (N := 4) ?hd (cs := #[.bool false, .bool false, .bool false, .bool false, .bool false, .int .i64 0]) (t := 25) ?hr ?_; (case hd => rfl); (case hg => rfl); (case hr => first | (go_simp; done) | (go_simp; rfl)); intro gb617 hg w7 hbox hb; have n0_ := Aside0.mk (blk_below (g := gb616) (o := .cells #[.bool a0_0, .bool a0_1, .bool a0_2, .bool a0_3, .bool a0_4, .int .i64 a0_5] 25 (0, 0)) (by (with_reducible repeat (first | refine blk_drewN ?_ _ | refine blk_drew ?_ | refine blk_alloc ?_ _)); exact BK616.out) hb); have n1_ := Aside0.mk (below_step (by repeat (first | (with_reducible first | exact HB.out | apply below_alloc | apply pw_below_drewN | apply below_drew1 | refine below_set ?_ GE616.out) | exact HB.out)) hb); have n2_ := Aside0.mk (hbox); have n3_ := Aside0.mk ((by rw [hg]; exact (below_size (by repeat (first | (with_reducible first | exact HB.out | apply below_alloc | apply pw_below_drewN | apply below_drew1 | refine below_set ?_ GE616.out) | exact HB.out))) : w.heap.size ≤ gb617)); have n4_ := Aside0.mk ((by rw [hg]; exact (below_size (by repeat (first | (with_reducible first | exact HB.out | apply below_alloc | apply pw_below_drewN | apply below_drew1 | refine below_set ?_ GE616.out) | exact HB.out))) : w.heap.size ≤ gb617)); have n5_ := Aside0.mk ((by rw [hg]; exact Nat.ne_of_lt (blk_lt (g := gb616) (o := .cells #[.bool a0_0, .bool a0_1, .bool a0_2, .bool a0_3, .bool a0_4, .int .i64 a0_5] 25 (0, 0)) (by (with_reducible repeat (first | refine blk_drewN ?_ _ | refine blk_drew ?_ | refine blk_alloc ?_ _)); exact BK616.out)) : gb616 ≠ gb617)); have n6_ := Aside0.mk ((by rw [hg]; exact Nat.ne_of_gt (blk_lt (g := gb616) (o := .cells #[.bool a0_0, .bool a0_1, .bool a0_2, .bool a0_3, .bool a0_4, .int .i64 a0_5] 25 (0, 0)) (by (with_reducible repeat (first | refine blk_drewN ?_ _ | refine blk_drew ?_ | refine blk_alloc ?_ _)); exact BK616.out)) : gb617 ≠ gb616)); clear BK616; clear HB; have BK616 := n0_; have HB := n1_; have BK617 := n2_; have GW617 := n3_; have GE617 := n4_; have NB616_617 := n5_; have NB617_616 := n6_; clear n0_ n1_ n2_ n3_ n4_ n5_ n6_; clear hb hbox hg; have hnb8 := NB616_617.out; have hnc8 := NB617_616.out; have hcz9_0 : w7.cell? ⟨gb616, 0, none⟩ = some (.bool a0_0) := (blk_cell BK616.out 0).trans rfl; have hcz9_1 : w7.cell? ⟨gb616, 1, none⟩ = some (.bool a0_1) := (blk_cell BK616.out 1).trans rfl; have hcz9_2 : w7.cell? ⟨gb616, 2, none⟩ = some (.bool a0_2) := (blk_cell BK616.out 2).trans rfl; have hcz9_3 : w7.cell? ⟨gb616, 3, none⟩ = some (.bool a0_3) := (blk_cell BK616.out 3).trans rfl; have hcz9_4 : w7.cell? ⟨gb616, 4, none⟩ = some (.bool a0_4) := (blk_cell BK616.out 4).trans rfl; have hcz9_5 : w7.cell? ⟨gb616, 5, none⟩ = some (.int .i64 a0_5) := (blk_cell BK616.out 5).trans rfl; have hfz9_0 := blk_frozen BK616.out 0; have hfz9_1 := blk_frozen BK616.out 1; have hfz9_2 := blk_frozen BK616.out 2; have hfz9_3 := blk_frozen BK616.out 3; have hfz9_4 := blk_frozen BK616.out 4; have hfz9_5 := blk_frozen BK616.out 5) | ((with_reducible refine at_fn (f := 14) rfl ?_); refine goesL_ (some 11) rfl rfl Try.func14 (by kernel_rfl) rfl #[.agg #[.bool a0_0, .bool a0_1, .bool a0_2, .bool a0_3, .bool a0_4, .int .i64 a0_5]] rfl (by (try simp only [List.map_toArray, List.map_cons, List.map_nil]); first | done | rfl | (simp only [List.length_drop, List.length_take]; rfl)) ?_; (with_reducible refine (spec_IsSound.calls a0_0 a0_1 a0_2 a0_3 a0_4 a0_5 true _ A3.out).mono ?_); rintro e w10 ⟨rfl, hb⟩; refine ⟨_, rfl, ?_⟩; have n0_ := Aside0.mk (blk_below (g := gb616) (o := .cells #[.bool a0_0, .bool a0_1, .bool a0_2, .bool a0_3, .bool a0_4, .int .i64 a0_5] 25 (0, 0)) (by (with_reducible repeat (first | refine blk_drewN ?_ _ | refine blk_drew ?_ | refine blk_alloc ?_ _)); exact BK616.out) hb); have n1_ := Aside0.mk (blk_below (g := gb617) (o := .cells #[.bool false, .bool false, .bool false, .bool false, .bool false, .int .i64 0] 25 (0, 0)) (by (with_reducible repeat (first | refine blk_drewN ?_ _ | refine blk_drew ?_ | refine blk_alloc ?_ _)); exact BK617.out) hb); have n2_ := Aside0.mk (below_step (by repeat (first | (with_reducible first | exact HB.out | apply below_alloc | apply pw_below_drewN | apply below_drew1 | refine below_set ?_ GE616.out | refine below_set ?_ GE617.out) | exact HB.out)) hb); clear BK616; clear BK617; clear HB; have BK616 := n0_; have BK617 := n1_; have HB := n2_; clear n0_ n1_ n2_; (try clear hb); (try clear hb2); (try clear hk); (try clear hi); have hcz11_0 : w10.cell? ⟨gb617, 0, none⟩ = some (.bool false) := (blk_cell BK617.out 0).trans rfl; have hcz11_1 : w10.cell? ⟨gb617, 1, none⟩ = some (.bool false) := (blk_cell BK617.out 1).trans rfl; have hcz11_2 : w10.cell? ⟨gb617, 2, none⟩ = some (.bool false) := (blk_cell BK617.out 2).trans rfl; have hcz11_3 : w10.cell? ⟨gb617, 3, none⟩ = some (.bool false) := (blk_cell BK617.out 3).trans rfl; have hcz11_4 : w10.cell? ⟨gb617, 4, none⟩ = some (.bool false) := (blk_cell BK617.out 4).trans rfl; have hcz11_5 : w10.cell? ⟨gb617, 5, none⟩ = some (.int .i64 0) := (blk_cell BK617.out 5).trans rfl; have hfz11_0 := blk_frozen BK617.out 0; have hfz11_1 := blk_frozen BK617.out 1; have hfz11_2 := blk_frozen BK617.out 2; have hfz11_3 := blk_frozen BK617.out 3; have hfz11_4 := blk_frozen BK617.out 4; have hfz11_5 := blk_frozen BK617.out 5))
   refine bodyPost_ret (results_ctt rfl _ _ gb617 25 #[.bool false, .bool false, .bool false, .bool false, .bool false, .int .i64 0] (0, 0) _ rfl (by (with_reducible repeat (first | refine blk_drewN ?_ _ | refine blk_drew ?_ | refine blk_alloc ?_ _)); refine blk_put (cs := #[.bool false, .bool false, .bool false, .bool false, .bool false, .int .i64 0]) ?_ 5 _ rfl; (with_reducible repeat (first | refine blk_drewN ?_ _ | refine blk_drew ?_ | refine blk_alloc ?_ _)); refine blk_put (cs := #[.bool false, .bool false, .bool false, .bool false, .bool false, .int .i64 0]) ?_ 4 _ rfl; (with_reducible repeat (first | refine blk_drewN ?_ _ | refine blk_drew ?_ | refine blk_alloc ?_ _)); refine blk_put (cs := #[.bool false, .bool false, .bool false, .bool false, .bool false, .int .i64 0]) ?_ 3 _ rfl; (with_reducible repeat (first | refine blk_drewN ?_ _ | refine blk_drew ?_ | refine blk_alloc ?_ _)); refine blk_put (cs := #[.bool false, .bool false, .bool false, .bool false, .bool false, .int .i64 0]) ?_ 2 _ rfl; (with_reducible repeat (first | refine blk_drewN ?_ _ | refine blk_drew ?_ | refine blk_alloc ?_ _)); refine blk_put (cs := #[.bool false, .bool false, .bool false, .bool false, .bool false, .int .i64 0]) ?_ 1 _ rfl; (with_reducible repeat (first | refine blk_drewN ?_ _ | refine blk_drew ?_ | refine blk_alloc ?_ _)); refine blk_put (cs := #[.bool false, .bool false, .bool false, .bool false, .bool false, .int .i64 0]) ?_ 0 _ rfl; (with_reducible repeat (first | refine blk_drewN ?_ _ | refine blk_drew ?_ | refine blk_alloc ?_ _)); exact BK617.out) Try.underlying25 rfl (by kernel_rfl)) rfl ?_
   exact ⟨by first | rfl | (simp [errW_none, errW_some] <;> rfl) | (simp [*, errW_none, errW_some] <;> rfl), by repeat (first | (with_reducible first | exact HB.out | apply below_alloc | apply pw_below_drewN | apply below_drew1 | refine below_set ?_ GE616.out | refine below_set ?_ GE617.out) | exact HB.out)⟩
  ·rw [if_neg c5] at H
   have c5b0 : decide (60 < (l1.length : Int)) = false := decide_eq_false c5
   have c5b1 : decide (60 < l1.length) = false := decide_eq_false (by omega)
   clear c5
   have H' := Aside0.mk H
   clear H
   go_enter Try.func39, Try.ntmps39
   go_wp2_with (first | ((with_reducible refine gate_dst (N := 2) rfl ?_); refine box_event ?hg (N := 2) ?hd (cs := #[.bool a0_0, .bool a0_1, .bool a0_2, .bool a0_3, .bool a0_4, .int .i64 a0_5]) (t := 25) ?hr ?_; (case hd => rfl); (case hg => rfl); (case hr => first | (go_simp; done) | (go_simp; rfl)); intro gb616 hg w12 hbox hb; have n0_ := Aside0.mk (below_step (by repeat (first | (with_reducible first | exact HB.out | apply below_alloc | apply pw_below_drewN | apply below_drew1) | exact HB.out)) hb); have n1_ := Aside0.mk (hbox); have n2_ := Aside0.mk ((by rw [hg]; exact (below_size (by repeat (first | (with_reducible first | exact HB.out | apply below_alloc | apply pw_below_drewN | apply below_drew1) | exact HB.out))) : w.heap.size ≤ gb616)); have n3_ := Aside0.mk ((by rw [hg]; exact (below_size (by repeat (first | (with_reducible first | exact HB.out | apply below_alloc | apply pw_below_drewN | apply below_drew1) | exact HB.out))) : w.heap.size ≤ gb616)); clear HB; have HB := n0_; have BK616 := n1_; have GW616 := n2_; have GE616 := n3_; clear n0_ n1_ n2_ n3_; clear hb hbox hg) | ((with_reducible refine gate_dst (N := 4) rfl ?_); refine box_event ?hg (N := 4) ?hd (cs := #[.bool false, .bool false, .bool false, .bool false, .bool false, .int .i64 0]) (t := 25) ?hr ?_; (case hd => rfl); (case hg => rfl); (case hr => first | (go_simp; done) | (go_simp; rfl)); intro gb617 hg w13 hbox hb; have n0_ := Aside0.mk (blk_below (g := gb616) (o := .cells #[.bool a0_0, .bool a0_1, .bool a0_2, .bool a0_3, .bool a0_4, .int .i64 a0_5] 25 (0, 0)) (by (with_reducible repeat (first | refine blk_drewN ?_ _ | refine blk_drew ?_ | refine blk_alloc ?_ _)); exact BK616.out) hb); have n1_ := Aside0.mk (below_step (by repeat (first | (with_reducible first | exact HB.out | apply below_alloc | apply pw_below_drewN | apply below_drew1 | refine below_set ?_ GE616.out) | exact HB.out)) hb); have n2_ := Aside0.mk (hbox); have n3_ := Aside0.mk ((by rw [hg]; exact (below_size (by repeat (first | (with_reducible first | exact HB.out | apply below_alloc | apply pw_below_drewN | apply below_drew1 | refine below_set ?_ GE616.out) | exact HB.out))) : w.heap.size ≤ gb617)); have n4_ := Aside0.mk ((by rw [hg]; exact (below_size (by repeat (first | (with_reducible first | exact HB.out | apply below_alloc | apply pw_below_drewN | apply below_drew1 | refine below_set ?_ GE616.out) | exact HB.out))) : w.heap.size ≤ gb617)); have n5_ := Aside0.mk ((by rw [hg]; exact Nat.ne_of_lt (blk_lt (g := gb616) (o := .cells #[.bool a0_0, .bool a0_1, .bool a0_2, .bool a0_3, .bool a0_4, .int .i64 a0_5] 25 (0, 0)) (by (with_reducible repeat (first | refine blk_drewN ?_ _ | refine blk_drew ?_ | refine blk_alloc ?_ _)); exact BK616.out)) : gb616 ≠ gb617)); have n6_ := Aside0.mk ((by rw [hg]; exact Nat.ne_of_gt (blk_lt (g := gb616) (o := .cells #[.bool a0_0, .bool a0_1, .bool a0_2, .bool a0_3, .bool a0_4, .int .i64 a0_5] 25 (0, 0)) (by (with_reducible repeat (first | refine blk_drewN ?_ _ | refine blk_drew ?_ | refine blk_alloc ?_ _)); exact BK616.out)) : gb617 ≠ gb616)); clear BK616; clear HB; have BK616 := n0_; have HB := n1_; have BK617 := n2_; have GW617 := n3_; have GE617 := n4_; have NB616_617 := n5_; have NB617_616 := n6_; clear n0_ n1_ n2_ n3_ n4_ n5_ n6_; clear hb hbox hg; have hnb14 := NB616_617.out; have hnc14 := NB617_616.out; have hcz15_0 : w13.cell? ⟨gb616, 0, none⟩ = some (.bool a0_0) := (blk_cell BK616.out 0).trans rfl; have hcz15_1 : w13.cell? ⟨gb616, 1, none⟩ = some (.bool a0_1) := (blk_cell BK616.out 1).trans rfl; have hcz15_2 : w13.cell? ⟨gb616, 2, none⟩ = some (.bool a0_2) := (blk_cell BK616.out 2).trans rfl; have hcz15_3 : w13.cell? ⟨gb616, 3, none⟩ = some (.bool a0_3) := (blk_cell BK616.out 3).trans rfl; have hcz15_4 : w13.cell? ⟨gb616, 4, none⟩ = some (.bool a0_4) := (blk_cell BK616.out 4).trans rfl; have hcz15_5 : w13.cell? ⟨gb616, 5, none⟩ = some (.int .i64 a0_5) := (blk_cell BK616.out 5).trans rfl; have hfz15_0 := blk_frozen BK616.out 0; have hfz15_1 := blk_frozen BK616.out 1; have hfz15_2 := blk_frozen BK616.out 2; have hfz15_3 := blk_frozen BK616.out 3; have hfz15_4 := blk_frozen BK616.out 4; have hfz15_5 := blk_frozen BK616.out 5) | ((with_reducible refine at_fn (f := 14) rfl ?_); refine goesL_ (some 11) rfl rfl Try.func14 (by kernel_rfl) rfl #[.agg #[.bool a0_0, .bool a0_1, .bool a0_2, .bool a0_3, .bool a0_4, .int .i64 a0_5]] rfl (by (try simp only [List.map_toArray, List.map_cons, List.map_nil]); first | done | rfl | (simp only [List.length_drop, List.length_take]; rfl)) ?_; (with_reducible refine (spec_IsSound.calls a0_0 a0_1 a0_2 a0_3 a0_4 a0_5 true _ A3.out).mono ?_); rintro e w16 ⟨rfl, hb⟩; refine ⟨_, rfl, ?_⟩; have n0_ := Aside0.mk (blk_below (g := gb616) (o := .cells #[.bool a0_0, .bool a0_1, .bool a0_2, .bool a0_3, .bool a0_4, .int .i64 a0_5] 25 (0, 0)) (by (with_reducible repeat (first | refine blk_drewN ?_ _ | refine blk_drew ?_ | refine blk_alloc ?_ _)); exact BK616.out) hb); have n1_ := Aside0.mk (blk_below (g := gb617) (o := .cells #[.bool false, .bool false, .bool false, .bool false, .bool false, .int .i64 0] 25 (0, 0)) (by (with_reducible repeat (first | refine blk_drewN ?_ _ | refine blk_drew ?_ | refine blk_alloc ?_ _)); exact BK617.out) hb); have n2_ := Aside0.mk (below_step (by repeat (first | (with_reducible first | exact HB.out | apply below_alloc | apply pw_below_drewN | apply below_drew1 | refine below_set ?_ GE616.out | refine below_set ?_ GE617.out) | exact HB.out)) hb); clear BK616; clear BK617; clear HB; have BK616 := n0_; have BK617 := n1_; have HB := n2_; clear n0_ n1_ n2_; (try clear hb); (try clear hb2); (try clear hk); (try clear hi)))
   go_loopg [7] k (fun kq v7 w' => ∃ (x7_1 : Int) (x617000_1 : Bool) (x617001_1 : Bool) (x617002_1 : Bool) (x617003_1 : Bool) (x617004_1 : Bool) (x617005_1 : Int) (x618000_1 : Bool) (x618001_1 : Bool) (x618002_1 : Bool) (x618003_1 : Bool) (x618004_1 : Bool) (x618005_1 : Int), v7 = .int .i64 x7_1 ∧ Aside0 (spec_GiveInputs.l0 kq l1 x7_1 x617000_1 x617001_1 x617002_1 x617003_1 x617004_1 x617005_1 = some (r1, r2, r3, r4, r5, r6, r7, r8)) ∧ Aside0 (kq ≤ k) ∧ Aside0 (w'.heap[gb616]? = some (.cells #[.bool x617000_1, .bool x617001_1, .bool x617002_1, .bool x617003_1, .bool x617004_1, .int .i64 x617005_1] 25 (0, 0))) ∧ Aside0 (w'.heap[gb617]? = some (.cells #[.bool x618000_1, .bool x618001_1, .bool x618002_1, .bool x618003_1, .bool x618004_1, .int .i64 x618005_1] 25 (0, 0))) ∧ Aside0 (Below w.heap.size w w'))
   case atStart => exact ⟨(0), (a0_0), (a0_1), (a0_2), (a0_3), (a0_4), (a0_5), (false), (false), (false), (false), (false), (0), (by first | rfl | (simp; done) | (simp [*]; done)), H', ⟨Nat.le_refl _⟩, ⟨by (with_reducible repeat (first | refine blk_drewN ?_ _ | refine blk_drew ?_ | refine blk_alloc ?_ _)); exact BK616.out⟩, ⟨by (with_reducible repeat (first | refine blk_drewN ?_ _ | refine blk_drew ?_ | refine blk_alloc ?_ _)); exact BK617.out⟩, ⟨by repeat (first | (with_reducible first | exact HB.out | apply below_alloc | apply pw_below_drewN | apply below_drew1 | refine below_set ?_ GE616.out | refine below_set ?_ GE617.out) | exact HB.out)⟩⟩
   case round =>
    clear H'
    try clear c1
    try clear p2
    try clear c3
    try clear c4
    try clear c5
    try clear c5b0
    try clear c5b1
    try clear c8
    try clear c14
    try clear hcz11_0
    try clear hcz11_1
    try clear hcz11_2
    try clear hcz11_3
    try clear hcz11_4
    try clear hcz11_5
    try clear hcz15_0
    try clear hcz15_1
    try clear hcz15_2
    try clear hcz15_3
    try clear hcz15_4
    try clear hcz15_5
    try clear hcz9_0
    try clear hcz9_1
    try clear hcz9_2
    try clear hcz9_3
    try clear hcz9_4
    try clear hcz9_5
    try clear hfz11_0
    try clear hfz11_1
    try clear hfz11_2
    try clear hfz11_3
    try clear hfz11_4
    try clear hfz11_5
    try clear hfz15_0
    try clear hfz15_1
    try clear hfz15_2
    try clear hfz15_3
    try clear hfz15_4
    try clear hfz15_5
    try clear hfz9_0
    try clear hfz9_1
    try clear hfz9_2
    try clear hfz9_3
    try clear hfz9_4
    try clear hfz9_5
    obtain ⟨x7_1, x617000_1, x617001_1, x617002_1, x617003_1, x617004_1, x617005_1, x618000_1, x618001_1, x618002_1, x618003_1, x618004_1, x618005_1, rfl, HA, HK1, BK616, BK617, HB⟩ := hrel
    cases gk with
    | zero => exact absurd HA.out (by simp [spec_GiveInputs.l0])
    | succ k1 =>
     have H := HA.out
     clear HA
     simp only [spec_GiveInputs.l0] at H
     by_cases c17 : x7_1 < (l1.length : Int)
     ·rw [if_pos c17] at H
      have c17b0 : decide (x7_1 < (l1.length : Int)) = true := decide_eq_true c17
      clear c17
      by_cases c18 : 0 ≤ x7_1
      ·rw [if_pos c18] at H
       have c18b0 : decide (0 ≤ x7_1) = true := decide_eq_true c18
       clear c18
       replace H := Option.bind_eq_some_iff.mp H
       obtain ⟨⟨t620, t621, t622, t623, t624, t625, t626⟩, A190, H⟩ := H
       replace H : (if t626 = 0 then (spec_GiveInputs.l0 k1 l1 (wrap64 (x7_1 + 1)) t620 t621 t622 t623 t624 t625) else (some (x617000_1, x617001_1, x617002_1, x617003_1, x617004_1, x617005_1, x7_1, t626))) = some (r1, r2, r3, r4, r5, r6, r7, r8) := H
       have A19 := Aside0.mk A190
       clear A190
       by_cases c20 : t626 = 0
       ·rw [if_pos c20] at H
        have c20b0 : (t626 == 0) = true := beq_iff_eq.mpr c20
        have c20b1 : (t626 != 0) = false := bne_eq_false_iff_eq.mpr c20
        clear c20
        have H' := Aside0.mk H
        clear H
        try go_wp2
        have n0_ := Aside0.mk (blk_drew BK616.out)
        have n1_ := Aside0.mk (blk_drew BK617.out)
        have n2_ := Aside0.mk (below_drew1 HB.out)
        clear BK616
        clear BK617
        clear HB
        have BK616 := n0_
        have BK617 := n1_
        have HB := n2_
        clear n0_ n1_ n2_
        have p619 : 0 ≤ (x7_1 : Int) := of_decide_eq_true (by first | (with_reducible assumption) | assumption)
        have q619 : x7_1 < (l1.length : Int) := of_decide_eq_true (by first | (with_reducible assumption) | assumption)
        obtain ⟨ad619, e619, hx619_0⟩ := Kd.at_int HR1.out x7_1 p619 q619
        have hw619_0 := hx619_0
        cases e619
        replace hx619_0 := (HB.out.cell (World.block_lt_of_cell? w _ hx619_0)).trans hx619_0
        replace p619 := eq_true p619
        replace q619 := eq_true q619
        refine start_ (n := 12) (S := fun w' => w'.cell? ⟨gb616, 0, none⟩ = some (.bool x617000_1) ∧ w'.cell? ⟨gb616, 1, none⟩ = some (.bool x617001_1) ∧ w'.cell? ⟨gb616, 2, none⟩ = some (.bool x617002_1) ∧ w'.cell? ⟨gb616, 3, none⟩ = some (.bool x617003_1) ∧ w'.cell? ⟨gb616, 4, none⟩ = some (.bool x617004_1) ∧ w'.cell? ⟨gb616, 5, none⟩ = some (.int .i64 x617005_1) ∧ w'.cell? (ad619.add (x7_1).toNat) = some (.int .i64 (rd l1 x7_1))) (ds := []) (tf 0 12) (by kernel_rfl) rfl rfl ⟨(blk_cell BK616.out 0).trans rfl, (blk_cell BK616.out 1).trans rfl, (blk_cell BK616.out 2).trans rfl, (blk_cell BK616.out 3).trans rfl, (blk_cell BK616.out 4).trans rfl, (blk_cell BK616.out 5).trans rfl, ((HB.out.cell (World.block_lt_of_cell? w _ hw619_0)).trans hw619_0)⟩ (fun hHeld => ?_); refine with_tabW spec_GiveInputs.tab8 spec_GiveInputs.bits8 (fun HT_ HW_ => ?_)
        generalize wr.drew = w21 at BK616 BK617 HB hx619_0 hHeld ⊢
        refine pu_ 1 26 #[false, true, false, false, false, false, false, false, false, false, false, false] rfl rfl ?_
        refine pu_ 2 27 #[false, true, true, false, false, false, false, false, false, false, false, false] rfl rfl ?_
        refine pu_ 3 28 #[false, true, true, true, false, false, false, false, false, false, false, false] rfl rfl ?_
        refine ta7_ 0 25 (tf 4 8) rfl rfl ?_
        refine ta7_ 4 29 (tf 5 7) rfl rfl ?_
        refine join_ (σ := Nat) 2 (tf 10 2) (fun s_ => [(30, .tuple #[.agg #[.bool t620, .bool t621, .bool t622, .bool t623, .bool t624, .int .i64 t625], .int .i64 t626]), (8, .pointer (some ⟨s_, 0, none⟩)), (24, .tuple #[.agg #[.bool t620, .bool t621, .bool t622, .bool t623, .bool t624, .int .i64 t625], .int .i64 t626]), (31, .agg #[.bool t620, .bool t621, .bool t622, .bool t623, .bool t624, .int .i64 t625]), (32, .int .i64 t626)]) (fun s_ w' => (w'.cell? ⟨gb616, 0, none⟩ = some (.bool x617000_1) ∧ w'.cell? ⟨gb616, 1, none⟩ = some (.bool x617001_1) ∧ w'.cell? ⟨gb616, 2, none⟩ = some (.bool x617002_1) ∧ w'.cell? ⟨gb616, 3, none⟩ = some (.bool x617003_1) ∧ w'.cell? ⟨gb616, 4, none⟩ = some (.bool x617004_1) ∧ w'.cell? ⟨gb616, 5, none⟩ = some (.int .i64 x617005_1) ∧ w'.cell? (ad619.add (x7_1).toNat) = some (.int .i64 (rd l1 x7_1))) ∧ (w'.heap[gb616]? = some (.cells #[.bool x617000_1, .bool x617001_1, .bool x617002_1, .bool x617003_1, .bool x617004_1, .int .i64 x617005_1] 25 (0, 0))) ∧ (w'.heap[gb617]? = some (.cells #[.bool x618000_1, .bool x618001_1, .bool x618002_1, .bool x618003_1, .bool x618004_1, .int .i64 x618005_1] 25 (0, 0))) ∧ (w'.heap[s_]? = some (.cells #[.bool false, .bool false, .bool false, .bool false, .bool false, .int .i64 0] 25 (0, 0))) ∧ (w.heap.size ≤ s_) ∧ (w.heap.size ≤ s_) ∧ (gb616 ≠ s_) ∧ (s_ ≠ gb616) ∧ (gb617 ≠ s_) ∧ (s_ ≠ gb617) ∧ (Below w.heap.size w w')) ?_ ?_
        rotate_left
        ·intro hCont
         refine two_ (i := 5) (j := 9) (Ni := some 30) (Nj := some 8) (tf 6 6) #[true, true, true, true, true, false, false, false, false, true, false, false] rfl rfl rfl rfl (two_of HT_.out (by kernel_rfl)) (by decide) (by decide) (fun K hK => ?_) (fun K hK => ?_)
         ·skip
          refine goes_ Try.func55 (by kernel_rfl) rfl #[.agg #[.bool x617000_1, .bool x617001_1, .bool x617002_1, .bool x617003_1, .bool x617004_1, .int .i64 x617005_1], .int .i64 (rd l1 x7_1)] (by rfl) rfl rfl (by (try simp only [List.map_toArray, List.map_cons, List.map_nil]); first | done | rfl | (simp only [List.length_drop, List.length_take]; rfl)) ?_
          with_reducible refine (spec_l21Input.calls x617000_1 x617001_1 x617002_1 x617003_1 x617004_1 x617005_1 (rd l1 x7_1) t620 t621 t622 t623 t624 t625 t626 _ A19.out).mono ?_
          rintro e w22 ⟨rfl, hb⟩
          refine ⟨_, rfl, ?_⟩
          have n0_ := Aside0.mk (blk_below (g := gb616) (o := .cells #[.bool x617000_1, .bool x617001_1, .bool x617002_1, .bool x617003_1, .bool x617004_1, .int .i64 x617005_1] 25 (0, 0)) (by (with_reducible repeat (first | refine blk_drewN ?_ _ | refine blk_drew ?_ | refine blk_alloc ?_ _)); exact BK616.out) hb)
          have n1_ := Aside0.mk (blk_below (g := gb617) (o := .cells #[.bool x618000_1, .bool x618001_1, .bool x618002_1, .bool x618003_1, .bool x618004_1, .int .i64 x618005_1] 25 (0, 0)) (by (with_reducible repeat (first | refine blk_drewN ?_ _ | refine blk_drew ?_ | refine blk_alloc ?_ _)); exact BK617.out) hb)
          have n2_ := Aside0.mk (below_step (by repeat (first | (with_reducible first | exact HB.out | apply below_alloc | apply pw_below_drewN | apply below_drew1 | refine below_set ?_ GE616.out | refine below_set ?_ GE617.out) | exact HB.out)) hb)
          clear BK616
          clear BK617
          clear HB
          have BK616 := n0_
          have BK617 := n1_
          have HB := n2_
          clear n0_ n1_ n2_
          (try clear hb)
          (try clear hb2)
          (try clear hk)
          (try clear hi)
          refine hK.out _ _ ⟨(blk_cell BK616.out 0).trans rfl, (blk_cell BK616.out 1).trans rfl, (blk_cell BK616.out 2).trans rfl, (blk_cell BK616.out 3).trans rfl, (blk_cell BK616.out 4).trans rfl, (blk_cell BK616.out 5).trans rfl, ((HB.out.cell (World.block_lt_of_cell? w _ hw619_0)).trans hw619_0)⟩ (fun hHeld => ?_)
          clear hK K
          refine norm_ (a' := ?_) ?_ ?_
          rotate_left
          ·show Act.put _ (some 30) _ = _
           simp only [Act.put, List.setIfInBounds_toArray, List.set_cons_zero, List.set_cons_succ, i64_w, i32_w]
           rfl
          refine pu_ 6 24 (tf 7 5) rfl rfl ?_
          refine pu_ 7 31 (tf 8 4) rfl rfl ?_
          refine pu_ 8 32 (tf 9 3) rfl rfl ?_
          refine one_ (i := 9) (N := some 8) (tf 10 2) rfl rfl (one_of HT_.out (by kernel_rfl)) (by decide) (fun K hK => ?_)
          refine box_step ?hg (N := 8) ?hd (cs := #[.bool false, .bool false, .bool false, .bool false, .bool false, .int .i64 0]) (t := 25) ?hr ?_; (case hd => rfl); (case hg => rfl); (case hr => first | (go_simp; done) | (go_simp; rfl))
          intro gb627 hg w23 hbox hb
          have n0_ := Aside0.mk (blk_below (g := gb616) (o := .cells #[.bool x617000_1, .bool x617001_1, .bool x617002_1, .bool x617003_1, .bool x617004_1, .int .i64 x617005_1] 25 (0, 0)) (by (with_reducible repeat (first | refine blk_drewN ?_ _ | refine blk_drew ?_ | refine blk_alloc ?_ _)); exact BK616.out) hb)
          have n1_ := Aside0.mk (blk_below (g := gb617) (o := .cells #[.bool x618000_1, .bool x618001_1, .bool x618002_1, .bool x618003_1, .bool x618004_1, .int .i64 x618005_1] 25 (0, 0)) (by (with_reducible repeat (first | refine blk_drewN ?_ _ | refine blk_drew ?_ | refine blk_alloc ?_ _)); exact BK617.out) hb)
          have n2_ := Aside0.mk (below_step (by repeat (first | (with_reducible first | exact HB.out | apply below_alloc | apply pw_below_drewN | apply below_drew1 | refine below_set ?_ GE616.out | refine below_set ?_ GE617.out) | exact HB.out)) hb)
          have n3_ := Aside0.mk (hbox)
          have n4_ := Aside0.mk ((by rw [hg]; exact (below_size (by repeat (first | (with_reducible first | exact HB.out | apply below_alloc | apply pw_below_drewN | apply below_drew1 | refine below_set ?_ GE616.out | refine below_set ?_ GE617.out) | exact HB.out))) : w.heap.size ≤ gb627))
          have n5_ := Aside0.mk ((by rw [hg]; exact (below_size (by repeat (first | (with_reducible first | exact HB.out | apply below_alloc | apply pw_below_drewN | apply below_drew1 | refine below_set ?_ GE616.out | refine below_set ?_ GE617.out) | exact HB.out))) : w.heap.size ≤ gb627))
          have n6_ := Aside0.mk ((by rw [hg]; exact Nat.ne_of_lt (blk_lt (g := gb616) (o := .cells #[.bool x617000_1, .bool x617001_1, .bool x617002_1, .bool x617003_1, .bool x617004_1, .int .i64 x617005_1] 25 (0, 0)) (by (with_reducible repeat (first | refine blk_drewN ?_ _ | refine blk_drew ?_ | refine blk_alloc ?_ _)); exact BK616.out)) : gb616 ≠ gb627))
          have n7_ := Aside0.mk ((by rw [hg]; exact Nat.ne_of_gt (blk_lt (g := gb616) (o := .cells #[.bool x617000_1, .bool x617001_1, .bool x617002_1, .bool x617003_1, .bool x617004_1, .int .i64 x617005_1] 25 (0, 0)) (by (with_reducible repeat (first | refine blk_drewN ?_ _ | refine blk_drew ?_ | refine blk_alloc ?_ _)); exact BK616.out)) : gb627 ≠ gb616))
          have n8_ := Aside0.mk ((by rw [hg]; exact Nat.ne_of_lt (blk_lt (g := gb617) (o := .cells #[.bool x618000_1, .bool x618001_1, .bool x618002_1, .bool x618003_1, .bool x618004_1, .int .i64 x618005_1] 25 (0, 0)) (by (with_reducible repeat (first | refine blk_drewN ?_ _ | refine blk_drew ?_ | refine blk_alloc ?_ _)); exact BK617.out)) : gb617 ≠ gb627))
          have n9_ := Aside0.mk ((by rw [hg]; exact Nat.ne_of_gt (blk_lt (g := gb617) (o := .cells #[.bool x618000_1, .bool x618001_1, .bool x618002_1, .bool x618003_1, .bool x618004_1, .int .i64 x618005_1] 25 (0, 0)) (by (with_reducible repeat (first | refine blk_drewN ?_ _ | refine blk_drew ?_ | refine blk_alloc ?_ _)); exact BK617.out)) : gb627 ≠ gb617))
          clear BK616
          clear BK617
          clear HB
          have BK616 := n0_
          have BK617 := n1_
          have HB := n2_
          have BK627 := n3_
          have GW627 := n4_
          have GE627 := n5_
          have NB616_627 := n6_
          have NB627_616 := n7_
          have NB617_627 := n8_
          have NB627_617 := n9_
          clear n0_ n1_ n2_ n3_ n4_ n5_ n6_ n7_ n8_ n9_
          clear hb hbox hg
          refine hK.out _ _ ⟨(blk_cell BK616.out 0).trans rfl, (blk_cell BK616.out 1).trans rfl, (blk_cell BK616.out 2).trans rfl, (blk_cell BK616.out 3).trans rfl, (blk_cell BK616.out 4).trans rfl, (blk_cell BK616.out 5).trans rfl, ((HB.out.cell (World.block_lt_of_cell? w _ hw619_0)).trans hw619_0)⟩ (fun hHeld => ?_)
          clear hK K
          refine norm_ (a' := ?_) ?_ ?_
          rotate_left
          ·show Act.put _ (some 8) _ = _
           simp only [Act.put, List.setIfInBounds_toArray, List.set_cons_zero, List.set_cons_succ, i64_w, i32_w]
           rfl
          exact norm_ (by simp only [putAll, Act.put, List.setIfInBounds_toArray, List.set_cons_zero, List.set_cons_succ]) (hCont (gb627) _ ⟨hHeld, (by (with_reducible repeat (first | refine blk_drewN ?_ _ | refine blk_drew ?_ | refine blk_alloc ?_ _)); exact BK616.out), (by (with_reducible repeat (first | refine blk_drewN ?_ _ | refine blk_drew ?_ | refine blk_alloc ?_ _)); exact BK617.out), (by (with_reducible repeat (first | refine blk_drewN ?_ _ | refine blk_drew ?_ | refine blk_alloc ?_ _)); exact BK627.out), GW627.out, GE627.out, NB616_627.out, NB627_616.out, NB617_627.out, NB627_617.out, (by repeat (first | (with_reducible first | exact HB.out | apply below_alloc | apply pw_below_drewN | apply below_drew1 | refine below_set ?_ GE616.out | refine below_set ?_ GE617.out | refine below_set ?_ GE627.out) | exact HB.out))⟩)
         ·skip
          refine box_step ?hg (N := 8) ?hd (cs := #[.bool false, .bool false, .bool false, .bool false, .bool false, .int .i64 0]) (t := 25) ?hr ?_; (case hd => rfl); (case hg => rfl); (case hr => first | (go_simp; done) | (go_simp; rfl))
          intro gb627 hg w22 hbox hb
          have n0_ := Aside0.mk (blk_below (g := gb616) (o := .cells #[.bool x617000_1, .bool x617001_1, .bool x617002_1, .bool x617003_1, .bool x617004_1, .int .i64 x617005_1] 25 (0, 0)) (by (with_reducible repeat (first | refine blk_drewN ?_ _ | refine blk_drew ?_ | refine blk_alloc ?_ _)); exact BK616.out) hb)
          have n1_ := Aside0.mk (blk_below (g := gb617) (o := .cells #[.bool x618000_1, .bool x618001_1, .bool x618002_1, .bool x618003_1, .bool x618004_1, .int .i64 x618005_1] 25 (0, 0)) (by (with_reducible repeat (first | refine blk_drewN ?_ _ | refine blk_drew ?_ | refine blk_alloc ?_ _)); exact BK617.out) hb)
          have n2_ := Aside0.mk (below_step (by repeat (first | (with_reducible first | exact HB.out | apply below_alloc | apply pw_below_drewN | apply below_drew1 | refine below_set ?_ GE616.out | refine below_set ?_ GE617.out) | exact HB.out)) hb)
          have n3_ := Aside0.mk (hbox)
          have n4_ := Aside0.mk ((by rw [hg]; exact (below_size (by repeat (first | (with_reducible first | exact HB.out | apply below_alloc | apply pw_below_drewN | apply below_drew1 | refine below_set ?_ GE616.out | refine below_set ?_ GE617.out) | exact HB.out))) : w.heap.size ≤ gb627))
          have n5_ := Aside0.mk ((by rw [hg]; exact (below_size (by repeat (first | (with_reducible first | exact HB.out | apply below_alloc | apply pw_below_drewN | apply below_drew1 | refine below_set ?_ GE616.out | refine below_set ?_ GE617.out) | exact HB.out))) : w.heap.size ≤ gb627))
          have n6_ := Aside0.mk ((by rw [hg]; exact Nat.ne_of_lt (blk_lt (g := gb616) (o := .cells #[.bool x617000_1, .bool x617001_1, .bool x617002_1, .bool x617003_1, .bool x617004_1, .int .i64 x617005_1] 25 (0, 0)) (by (with_reducible repeat (first | refine blk_drewN ?_ _ | refine blk_drew ?_ | refine blk_alloc ?_ _)); exact BK616.out)) : gb616 ≠ gb627))
          have n7_ := Aside0.mk ((by rw [hg]; exact Nat.ne_of_gt (blk_lt (g := gb616) (o := .cells #[.bool x617000_1, .bool x617001_1, .bool x617002_1, .bool x617003_1, .bool x617004_1, .int .i64 x617005_1] 25 (0, 0)) (by (with_reducible repeat (first | refine blk_drewN ?_ _ | refine blk_drew ?_ | refine blk_alloc ?_ _)); exact BK616.out)) : gb627 ≠ gb616))
          have n8_ := Aside0.mk ((by rw [hg]; exact Nat.ne_of_lt (blk_lt (g := gb617) (o := .cells #[.bool x618000_1, .bool x618001_1, .bool x618002_1, .bool x618003_1, .bool x618004_1, .int .i64 x618005_1] 25 (0, 0)) (by (with_reducible repeat (first | refine blk_drewN ?_ _ | refine blk_drew ?_ | refine blk_alloc ?_ _)); exact BK617.out)) : gb617 ≠ gb627))
          have n9_ := Aside0.mk ((by rw [hg]; exact Nat.ne_of_gt (blk_lt (g := gb617) (o := .cells #[.bool x618000_1, .bool x618001_1, .bool x618002_1, .bool x618003_1, .bool x618004_1, .int .i64 x618005_1] 25 (0, 0)) (by (with_reducible repeat (first | refine blk_drewN ?_ _ | refine blk_drew ?_ | refine blk_alloc ?_ _)); exact BK617.out)) : gb627 ≠ gb617))
          clear BK616
          clear BK617
          clear HB
          have BK616 := n0_
          have BK617 := n1_
          have HB := n2_
          have BK627 := n3_
          have GW627 := n4_
          have GE627 := n5_
          have NB616_627 := n6_
          have NB627_616 := n7_
          have NB617_627 := n8_
          have NB627_617 := n9_
          clear n0_ n1_ n2_ n3_ n4_ n5_ n6_ n7_ n8_ n9_
          clear hb hbox hg
          refine hK.out _ _ ⟨(blk_cell BK616.out 0).trans rfl, (blk_cell BK616.out 1).trans rfl, (blk_cell BK616.out 2).trans rfl, (blk_cell BK616.out 3).trans rfl, (blk_cell BK616.out 4).trans rfl, (blk_cell BK616.out 5).trans rfl, ((HB.out.cell (World.block_lt_of_cell? w _ hw619_0)).trans hw619_0)⟩ (fun hHeld => ?_)
          clear hK K
          refine norm_ (a' := ?_) ?_ ?_
          rotate_left
          ·show Act.put _ (some 8) _ = _
           simp only [Act.put, List.setIfInBounds_toArray, List.set_cons_zero, List.set_cons_succ, i64_w, i32_w]
           rfl
          refine one_ (i := 5) (N := some 30) #[true, true, true, true, true, true, false, false, false, true, false, false] rfl rfl (one_of HT_.out (by kernel_rfl)) (by decide) (fun K hK => ?_)
          refine goes_ Try.func55 (by kernel_rfl) rfl #[.agg #[.bool x617000_1, .bool x617001_1, .bool x617002_1, .bool x617003_1, .bool x617004_1, .int .i64 x617005_1], .int .i64 (rd l1 x7_1)] (by rfl) rfl rfl (by (try simp only [List.map_toArray, List.map_cons, List.map_nil]); first | done | rfl | (simp only [List.length_drop, List.length_take]; rfl)) ?_
          with_reducible refine (spec_l21Input.calls x617000_1 x617001_1 x617002_1 x617003_1 x617004_1 x617005_1 (rd l1 x7_1) t620 t621 t622 t623 t624 t625 t626 _ A19.out).mono ?_
          rintro e w23 ⟨rfl, hb⟩
          refine ⟨_, rfl, ?_⟩
          have n0_ := Aside0.mk (blk_below (g := gb616) (o := .cells #[.bool x617000_1, .bool x617001_1, .bool x617002_1, .bool x617003_1, .bool x617004_1, .int .i64 x617005_1] 25 (0, 0)) (by (with_reducible repeat (first | refine blk_drewN ?_ _ | refine blk_drew ?_ | refine blk_alloc ?_ _)); exact BK616.out) hb)
          have n1_ := Aside0.mk (blk_below (g := gb617) (o := .cells #[.bool x618000_1, .bool x618001_1, .bool x618002_1, .bool x618003_1, .bool x618004_1, .int .i64 x618005_1] 25 (0, 0)) (by (with_reducible repeat (first | refine blk_drewN ?_ _ | refine blk_drew ?_ | refine blk_alloc ?_ _)); exact BK617.out) hb)
          have n2_ := Aside0.mk (blk_below (g := gb627) (o := .cells #[.bool false, .bool false, .bool false, .bool false, .bool false, .int .i64 0] 25 (0, 0)) (by (with_reducible repeat (first | refine blk_drewN ?_ _ | refine blk_drew ?_ | refine blk_alloc ?_ _)); exact BK627.out) hb)
          have n3_ := Aside0.mk (below_step (by repeat (first | (with_reducible first | exact HB.out | apply below_alloc | apply pw_below_drewN | apply below_drew1 | refine below_set ?_ GE616.out | refine below_set ?_ GE617.out | refine below_set ?_ GE627.out) | exact HB.out)) hb)
          clear BK616
          clear BK617
          clear BK627
          clear HB
          have BK616 := n0_
          have BK617 := n1_
          have BK627 := n2_
          have HB := n3_
          clear n0_ n1_ n2_ n3_
          (try clear hb)
          (try clear hb2)
          (try clear hk)
          (try clear hi)
          refine hK.out _ _ ⟨(blk_cell BK616.out 0).trans rfl, (blk_cell BK616.out 1).trans rfl, (blk_cell BK616.out 2).trans rfl, (blk_cell BK616.out 3).trans rfl, (blk_cell BK616.out 4).trans rfl, (blk_cell BK616.out 5).trans rfl, ((HB.out.cell (World.block_lt_of_cell? w _ hw619_0)).trans hw619_0)⟩ (fun hHeld => ?_)
          clear hK K
          refine norm_ (a' := ?_) ?_ ?_
          rotate_left
          ·show Act.put _ (some 30) _ = _
           simp only [Act.put, List.setIfInBounds_toArray, List.set_cons_zero, List.set_cons_succ, i64_w, i32_w]
           rfl
          refine pu_ 6 24 #[true, true, true, true, true, true, true, false, false, true, false, false] rfl rfl ?_
          refine pu_ 7 31 #[true, true, true, true, true, true, true, true, false, true, false, false] rfl rfl ?_
          refine pu_ 8 32 (tf 10 2) rfl rfl ?_
          exact norm_ (by simp only [putAll, Act.put, List.setIfInBounds_toArray, List.set_cons_zero, List.set_cons_succ]) (hCont (gb627) _ ⟨hHeld, (by (with_reducible repeat (first | refine blk_drewN ?_ _ | refine blk_drew ?_ | refine blk_alloc ?_ _)); exact BK616.out), (by (with_reducible repeat (first | refine blk_drewN ?_ _ | refine blk_drew ?_ | refine blk_alloc ?_ _)); exact BK617.out), (by (with_reducible repeat (first | refine blk_drewN ?_ _ | refine blk_drew ?_ | refine blk_alloc ?_ _)); exact BK627.out), GW627.out, GE627.out, NB616_627.out, NB627_616.out, NB617_627.out, NB627_617.out, (by repeat (first | (with_reducible first | exact HB.out | apply below_alloc | apply pw_below_drewN | apply below_drew1 | refine below_set ?_ GE616.out | refine below_set ?_ GE617.out | refine below_set ?_ GE627.out) | exact HB.out))⟩)
        rintro gb627 w24 ⟨hS_, h0_, h1_, h2_, h3_, h4_, h5_, h6_, h7_, h8_, h9_⟩
        have n0_ : Aside0 (w24.heap[gb616]? = some (.cells #[.bool x617000_1, .bool x617001_1, .bool x617002_1, .bool x617003_1, .bool x617004_1, .int .i64 x617005_1] 25 (0, 0))) := ⟨h0_⟩
        have n1_ : Aside0 (w24.heap[gb617]? = some (.cells #[.bool x618000_1, .bool x618001_1, .bool x618002_1, .bool x618003_1, .bool x618004_1, .int .i64 x618005_1] 25 (0, 0))) := ⟨h1_⟩
        have n2_ : Aside0 (w24.heap[gb627]? = some (.cells #[.bool false, .bool false, .bool false, .bool false, .bool false, .int .i64 0] 25 (0, 0))) := ⟨h2_⟩
        have n3_ : Aside0 (w.heap.size ≤ gb627) := ⟨h3_⟩
        have n4_ : Aside0 (w.heap.size ≤ gb627) := ⟨h4_⟩
        have n5_ : Aside0 (gb616 ≠ gb627) := ⟨h5_⟩
        have n6_ : Aside0 (gb627 ≠ gb616) := ⟨h6_⟩
        have n7_ : Aside0 (gb617 ≠ gb627) := ⟨h7_⟩
        have n8_ : Aside0 (gb627 ≠ gb617) := ⟨h8_⟩
        have n9_ : Aside0 (Below w.heap.size w w24) := ⟨h9_⟩
        clear BK616
        clear BK617
        clear HB
        clear h0_ h1_ h2_ h3_ h4_ h5_ h6_ h7_ h8_ h9_
        have BK616 := n0_
        have BK617 := n1_
        have BK627 := n2_
        have GW627 := n3_
        have GE627 := n4_
        have NB616_627 := n5_
        have NB627_616 := n6_
        have NB617_627 := n7_
        have NB627_617 := n8_
        have HB := n9_
        clear n0_ n1_ n2_ n3_ n4_ n5_ n6_ n7_ n8_ n9_
        have hHeld : w24.cell? ⟨gb616, 0, none⟩ = some (.bool x617000_1) ∧ w24.cell? ⟨gb616, 1, none⟩ = some (.bool x617001_1) ∧ w24.cell? ⟨gb616, 2, none⟩ = some (.bool x617002_1) ∧ w24.cell? ⟨gb616, 3, none⟩ = some (.bool x617003_1) ∧ w24.cell? ⟨gb616, 4, none⟩ = some (.bool x617004_1) ∧ w24.cell? ⟨gb616, 5, none⟩ = some (.int .i64 x617005_1) ∧ w24.cell? (ad619.add (x7_1).toNat) = some (.int .i64 (rd l1 x7_1)) := hS_
        refine norm_ (a' := ?_) ?_ ?_
        rotate_left
        ·simp only [putAll, Act.put, List.setIfInBounds_toArray, List.set_cons_zero, List.set_cons_succ]
         rfl
        refine one_ (i := 10) (N := none) (tf 11 1) rfl rfl (one_of HT_.out (by kernel_rfl)) (by decide) (fun K hK => ?_)
        have hs25 : w24.cell? ⟨gb627, 0, none⟩ = some (.bool false) := (blk_cell BK627.out 0).trans rfl
        have hfs25 := blk_frozen BK627.out 0
        have hns25_0 := NB616_627.out
        have hns25_1 := NB617_627.out
        have hms25_0 := NB627_616.out
        have hms25_1 := NB627_617.out
        have hs26 : w24.cell? ⟨gb627, 1, none⟩ = some (.bool false) := (blk_cell BK627.out 1).trans rfl
        have hfs26 := blk_frozen BK627.out 1
        have hns26_0 := NB616_627.out
        have hns26_1 := NB617_627.out
        have hms26_0 := NB627_616.out
        have hms26_1 := NB627_617.out
        have hs27 : w24.cell? ⟨gb627, 2, none⟩ = some (.bool false) := (blk_cell BK627.out 2).trans rfl
        have hfs27 := blk_frozen BK627.out 2
        have hns27_0 := NB616_627.out
        have hns27_1 := NB617_627.out
        have hms27_0 := NB627_616.out
        have hms27_1 := NB627_617.out
        have hs28 : w24.cell? ⟨gb627, 3, none⟩ = some (.bool false) := (blk_cell BK627.out 3).trans rfl
        have hfs28 := blk_frozen BK627.out 3
        have hns28_0 := NB616_627.out
        have hns28_1 := NB617_627.out
        have hms28_0 := NB627_616.out
        have hms28_1 := NB627_617.out
        have hs29 : w24.cell? ⟨gb627, 4, none⟩ = some (.bool false) := (blk_cell BK627.out 4).trans rfl
        have hfs29 := blk_frozen BK627.out 4
        have hns29_0 := NB616_627.out
        have hns29_1 := NB617_627.out
        have hms29_0 := NB627_616.out
        have hms29_1 := NB627_617.out
        have hs30 : w24.cell? ⟨gb627, 5, none⟩ = some (.int .i64 0) := (blk_cell BK627.out 5).trans rfl
        have hfs30 := blk_frozen BK627.out 5
        have hns30_0 := NB616_627.out
        have hns30_1 := NB617_627.out
        have hms30_0 := NB627_616.out
        have hms30_1 := NB627_617.out
        refine skip_ (w1 := ?_) (by rfl) rfl ?_ ?_
        rotate_left
        ·go_simp
         rfl
        refine hK.out _ _ ⟨((cell_far (p := ⟨gb627, _, none⟩) NB616_627.out _).trans (((cell_far (p := ⟨gb627, _, none⟩) NB616_627.out _).trans (((cell_far (p := ⟨gb627, _, none⟩) NB616_627.out _).trans (((cell_far (p := ⟨gb627, _, none⟩) NB616_627.out _).trans (((cell_far (p := ⟨gb627, _, none⟩) NB616_627.out _).trans (((cell_far (p := ⟨gb627, _, none⟩) NB616_627.out _).trans (hHeld.1)))))))))))), ((cell_far (p := ⟨gb627, _, none⟩) NB616_627.out _).trans (((cell_far (p := ⟨gb627, _, none⟩) NB616_627.out _).trans (((cell_far (p := ⟨gb627, _, none⟩) NB616_627.out _).trans (((cell_far (p := ⟨gb627, _, none⟩) NB616_627.out _).trans (((cell_far (p := ⟨gb627, _, none⟩) NB616_627.out _).trans (((cell_far (p := ⟨gb627, _, none⟩) NB616_627.out _).trans (hHeld.2.1)))))))))))), ((cell_far (p := ⟨gb627, _, none⟩) NB616_627.out _).trans (((cell_far (p := ⟨gb627, _, none⟩) NB616_627.out _).trans (((cell_far (p := ⟨gb627, _, none⟩) NB616_627.out _).trans (((cell_far (p := ⟨gb627, _, none⟩) NB616_627.out _).trans (((cell_far (p := ⟨gb627, _, none⟩) NB616_627.out _).trans (((cell_far (p := ⟨gb627, _, none⟩) NB616_627.out _).trans (hHeld.2.2.1)))))))))))), ((cell_far (p := ⟨gb627, _, none⟩) NB616_627.out _).trans (((cell_far (p := ⟨gb627, _, none⟩) NB616_627.out _).trans (((cell_far (p := ⟨gb627, _, none⟩) NB616_627.out _).trans (((cell_far (p := ⟨gb627, _, none⟩) NB616_627.out _).trans (((cell_far (p := ⟨gb627, _, none⟩) NB616_627.out _).trans (((cell_far (p := ⟨gb627, _, none⟩) NB616_627.out _).trans (hHeld.2.2.2.1)))))))))))), ((cell_far (p := ⟨gb627, _, none⟩) NB616_627.out _).trans (((cell_far (p := ⟨gb627, _, none⟩) NB616_627.out _).trans (((cell_far (p := ⟨gb627, _, none⟩) NB616_627.out _).trans (((cell_far (p := ⟨gb627, _, none⟩) NB616_627.out _).trans (((cell_far (p := ⟨gb627, _, none⟩) NB616_627.out _).trans (((cell_far (p := ⟨gb627, _, none⟩) NB616_627.out _).trans (hHeld.2.2.2.2.1)))))))))))), ((cell_far (p := ⟨gb627, _, none⟩) NB616_627.out _).trans (((cell_far (p := ⟨gb627, _, none⟩) NB616_627.out _).trans (((cell_far (p := ⟨gb627, _, none⟩) NB616_627.out _).trans (((cell_far (p := ⟨gb627, _, none⟩) NB616_627.out _).trans (((cell_far (p := ⟨gb627, _, none⟩) NB616_627.out _).trans (((cell_far (p := ⟨gb627, _, none⟩) NB616_627.out _).trans (hHeld.2.2.2.2.2.1)))))))))))), ((cell_far (p := ⟨gb627, _, none⟩) (by first | exact Nat.ne_of_lt (Nat.lt_of_lt_of_le (by have := World.block_lt_of_cell? _ _ hw619_0; first | rwa [add_block] at this | exact this) GW627.out) | (rw [add_block]; exact Nat.ne_of_lt (Nat.lt_of_lt_of_le (by have := World.block_lt_of_cell? _ _ hw619_0; first | rwa [add_block] at this | exact this) GW627.out)) | (show (Addr.add _ _).block ≠ _; rw [add_block]; exact Nat.ne_of_lt (Nat.lt_of_lt_of_le (by have := World.block_lt_of_cell? _ _ hw619_0; first | rwa [add_block] at this | exact this) GW627.out)) | (dsimp only; exact Nat.ne_of_lt (Nat.lt_of_lt_of_le (by have := World.block_lt_of_cell? _ _ hw619_0; first | rwa [add_block] at this | exact this) GW627.out))) _).trans (((cell_far (p := ⟨gb627, _, none⟩) (by first | exact Nat.ne_of_lt (Nat.lt_of_lt_of_le (by have := World.block_lt_of_cell? _ _ hw619_0; first | rwa [add_block] at this | exact this) GW627.out) | (rw [add_block]; exact Nat.ne_of_lt (Nat.lt_of_lt_of_le (by have := World.block_lt_of_cell? _ _ hw619_0; first | rwa [add_block] at this | exact this) GW627.out)) | (show (Addr.add _ _).block ≠ _; rw [add_block]; exact Nat.ne_of_lt (Nat.lt_of_lt_of_le (by have := World.block_lt_of_cell? _ _ hw619_0; first | rwa [add_block] at this | exact this) GW627.out)) | (dsimp only; exact Nat.ne_of_lt (Nat.lt_of_lt_of_le (by have := World.block_lt_of_cell? _ _ hw619_0; first | rwa [add_block] at this | exact this) GW627.out))) _).trans (((cell_far (p := ⟨gb627, _, none⟩) (by first | exact Nat.ne_of_lt (Nat.lt_of_lt_of_le (by have := World.block_lt_of_cell? _ _ hw619_0; first | rwa [add_block] at this | exact this) GW627.out) | (rw [add_block]; exact Nat.ne_of_lt (Nat.lt_of_lt_of_le (by have := World.block_lt_of_cell? _ _ hw619_0; first | rwa [add_block] at this | exact this) GW627.out)) | (show (Addr.add _ _).block ≠ _; rw [add_block]; exact Nat.ne_of_lt (Nat.lt_of_lt_of_le (by have := World.block_lt_of_cell? _ _ hw619_0; first | rwa [add_block] at this | exact this) GW627.out)) | (dsimp only; exact Nat.ne_of_lt (Nat.lt_of_lt_of_le (by have := World.block_lt_of_cell? _ _ hw619_0; first | rwa [add_block] at this | exact this) GW627.out))) _).trans (((cell_far (p := ⟨gb627, _, none⟩) (by first | exact Nat.ne_of_lt (Nat.lt_of_lt_of_le (by have := World.block_lt_of_cell? _ _ hw619_0; first | rwa [add_block] at this | exact this) GW627.out) | (rw [add_block]; exact Nat.ne_of_lt (Nat.lt_of_lt_of_le (by have := World.block_lt_of_cell? _ _ hw619_0; first | rwa [add_block] at this | exact this) GW627.out)) | (show (Addr.add _ _).block ≠ _; rw [add_block]; exact Nat.ne_of_lt (Nat.lt_of_lt_of_le (by have := World.block_lt_of_cell? _ _ hw619_0; first | rwa [add_block] at this | exact this) GW627.out)) | (dsimp only; exact Nat.ne_of_lt (Nat.lt_of_lt_of_le (by have := World.block_lt_of_cell? _ _ hw619_0; first | rwa [add_block] at this | exact this) GW627.out))) _).trans (((cell_far (p := ⟨gb627, _, none⟩) (by first | exact Nat.ne_of_lt (Nat.lt_of_lt_of_le (by have := World.block_lt_of_cell? _ _ hw619_0; first | rwa [add_block] at this | exact this) GW627.out) | (rw [add_block]; exact Nat.ne_of_lt (Nat.lt_of_lt_of_le (by have := World.block_lt_of_cell? _ _ hw619_0; first | rwa [add_block] at this | exact this) GW627.out)) | (show (Addr.add _ _).block ≠ _; rw [add_block]; exact Nat.ne_of_lt (Nat.lt_of_lt_of_le (by have := World.block_lt_of_cell? _ _ hw619_0; first | rwa [add_block] at this | exact this) GW627.out)) | (dsimp only; exact Nat.ne_of_lt (Nat.lt_of_lt_of_le (by have := World.block_lt_of_cell? _ _ hw619_0; first | rwa [add_block] at this | exact this) GW627.out))) _).trans (((cell_far (p := ⟨gb627, _, none⟩) (by first | exact Nat.ne_of_lt (Nat.lt_of_lt_of_le (by have := World.block_lt_of_cell? _ _ hw619_0; first | rwa [add_block] at this | exact this) GW627.out) | (rw [add_block]; exact Nat.ne_of_lt (Nat.lt_of_lt_of_le (by have := World.block_lt_of_cell? _ _ hw619_0; first | rwa [add_block] at this | exact this) GW627.out)) | (show (Addr.add _ _).block ≠ _; rw [add_block]; exact Nat.ne_of_lt (Nat.lt_of_lt_of_le (by have := World.block_lt_of_cell? _ _ hw619_0; first | rwa [add_block] at this | exact this) GW627.out)) | (dsimp only; exact Nat.ne_of_lt (Nat.lt_of_lt_of_le (by have := World.block_lt_of_cell? _ _ hw619_0; first | rwa [add_block] at this | exact this) GW627.out))) _).trans (hHeld.2.2.2.2.2.2))))))))))))⟩ (fun hHeld => ?_)
        clear hK K
        refine pu_ 11 9 (tf 12 0) rfl rfl ?_
        refine done_ (done_of HT_.out (by kernel_rfl)) ?_
        have hnb31 := NB627_616.out
        have hnc31 := NB616_627.out
        have hnb32 := NB627_617.out
        have hnc32 := NB617_627.out
        have hcz33_0 : w24.cell? ⟨gb627, 0, none⟩ = some (.bool false) := (blk_cell BK627.out 0).trans rfl
        have hcz33_1 : w24.cell? ⟨gb627, 1, none⟩ = some (.bool false) := (blk_cell BK627.out 1).trans rfl
        have hcz33_2 : w24.cell? ⟨gb627, 2, none⟩ = some (.bool false) := (blk_cell BK627.out 2).trans rfl
        have hcz33_3 : w24.cell? ⟨gb627, 3, none⟩ = some (.bool false) := (blk_cell BK627.out 3).trans rfl
        have hcz33_4 : w24.cell? ⟨gb627, 4, none⟩ = some (.bool false) := (blk_cell BK627.out 4).trans rfl
        have hcz33_5 : w24.cell? ⟨gb627, 5, none⟩ = some (.int .i64 0) := (blk_cell BK627.out 5).trans rfl
        have hfz33_0 := blk_frozen BK627.out 0
        have hfz33_1 := blk_frozen BK627.out 1
        have hfz33_2 := blk_frozen BK627.out 2
        have hfz33_3 := blk_frozen BK627.out 3
        have hfz33_4 := blk_frozen BK627.out 4
        have hfz33_5 := blk_frozen BK627.out 5
        have hnb34 := NB616_617.out
        have hnc34 := NB617_616.out
        have hcz35_0 : w24.cell? ⟨gb616, 0, none⟩ = some (.bool x617000_1) := (blk_cell BK616.out 0).trans rfl
        have hcz35_1 : w24.cell? ⟨gb616, 1, none⟩ = some (.bool x617001_1) := (blk_cell BK616.out 1).trans rfl
        have hcz35_2 : w24.cell? ⟨gb616, 2, none⟩ = some (.bool x617002_1) := (blk_cell BK616.out 2).trans rfl
        have hcz35_3 : w24.cell? ⟨gb616, 3, none⟩ = some (.bool x617003_1) := (blk_cell BK616.out 3).trans rfl
        have hcz35_4 : w24.cell? ⟨gb616, 4, none⟩ = some (.bool x617004_1) := (blk_cell BK616.out 4).trans rfl
        have hcz35_5 : w24.cell? ⟨gb616, 5, none⟩ = some (.int .i64 x617005_1) := (blk_cell BK616.out 5).trans rfl
        have hfz35_0 := blk_frozen BK616.out 0
        have hfz35_1 := blk_frozen BK616.out 1
        have hfz35_2 := blk_frozen BK616.out 2
        have hfz35_3 := blk_frozen BK616.out 3
        have hfz35_4 := blk_frozen BK616.out 4
        have hfz35_5 := blk_frozen BK616.out 5
        try go_wp2
        go_roundg k1
        case measure => have := HK1.out; omega
        case rel => exact ⟨(wrap64 (x7_1 + 1)), (t620), (t621), (t622), (t623), (t624), (t625), (x618000_1), (x618001_1), (x618002_1), (x618003_1), (x618004_1), (x618005_1), (by first | rfl | (simp; done) | (simp [*]; done)), H', ⟨by have := HK1.out; omega⟩, ⟨by (with_reducible repeat (first | refine blk_drewN ?_ _ | refine blk_drew ?_ | refine blk_alloc ?_ _)); refine blk_put (cs := #[.bool t620, .bool t621, .bool t622, .bool t623, .bool t624, .int .i64 x617005_1]) ?_ 5 _ rfl; (with_reducible repeat (first | refine blk_drewN ?_ _ | refine blk_drew ?_ | refine blk_alloc ?_ _)); refine blk_put (cs := #[.bool t620, .bool t621, .bool t622, .bool t623, .bool x617004_1, .int .i64 x617005_1]) ?_ 4 _ rfl; (with_reducible repeat (first | refine blk_drewN ?_ _ | refine blk_drew ?_ | refine blk_alloc ?_ _)); refine blk_put (cs := #[.bool t620, .bool t621, .bool t622, .bool x617003_1, .bool x617004_1, .int .i64 x617005_1]) ?_ 3 _ rfl; (with_reducible repeat (first | refine blk_drewN ?_ _ | refine blk_drew ?_ | refine blk_alloc ?_ _)); refine blk_put (cs := #[.bool t620, .bool t621, .bool x617002_1, .bool x617003_1, .bool x617004_1, .int .i64 x617005_1]) ?_ 2 _ rfl; (with_reducible repeat (first | refine blk_drewN ?_ _ | refine blk_drew ?_ | refine blk_alloc ?_ _)); refine blk_put (cs := #[.bool t620, .bool x617001_1, .bool x617002_1, .bool x617003_1, .bool x617004_1, .int .i64 x617005_1]) ?_ 1 _ rfl; (with_reducible repeat (first | refine blk_drewN ?_ _ | refine blk_drew ?_ | refine blk_alloc ?_ _)); refine blk_put (cs := #[.bool x617000_1, .bool x617001_1, .bool x617002_1, .bool x617003_1, .bool x617004_1, .int .i64 x617005_1]) ?_ 0 _ rfl; (with_reducible repeat (first | refine blk_drewN ?_ _ | refine blk_drew ?_ | refine blk_alloc ?_ _)); refine blk_far ?_ NB616_627.out _; (with_reducible repeat (first | refine blk_drewN ?_ _ | refine blk_drew ?_ | refine blk_alloc ?_ _)); refine blk_far ?_ NB616_627.out _; (with_reducible repeat (first | refine blk_drewN ?_ _ | refine blk_drew ?_ | refine blk_alloc ?_ _)); refine blk_far ?_ NB616_627.out _; (with_reducible repeat (first | refine blk_drewN ?_ _ | refine blk_drew ?_ | refine blk_alloc ?_ _)); refine blk_far ?_ NB616_627.out _; (with_reducible repeat (first | refine blk_drewN ?_ _ | refine blk_drew ?_ | refine blk_alloc ?_ _)); refine blk_far ?_ NB616_627.out _; (with_reducible repeat (first | refine blk_drewN ?_ _ | refine blk_drew ?_ | refine blk_alloc ?_ _)); refine blk_far ?_ NB616_627.out _; (with_reducible repeat (first | refine blk_drewN ?_ _ | refine blk_drew ?_ | refine blk_alloc ?_ _)); exact BK616.out⟩, ⟨by (with_reducible repeat (first | refine blk_drewN ?_ _ | refine blk_drew ?_ | refine blk_alloc ?_ _)); refine blk_far ?_ NB617_616.out _; (with_reducible repeat (first | refine blk_drewN ?_ _ | refine blk_drew ?_ | refine blk_alloc ?_ _)); refine blk_far ?_ NB617_616.out _; (with_reducible repeat (first | refine blk_drewN ?_ _ | refine blk_drew ?_ | refine blk_alloc ?_ _)); refine blk_far ?_ NB617_616.out _; (with_reducible repeat (first | refine blk_drewN ?_ _ | refine blk_drew ?_ | refine blk_alloc ?_ _)); refine blk_far ?_ NB617_616.out _; (with_reducible repeat (first | refine blk_drewN ?_ _ | refine blk_drew ?_ | refine blk_alloc ?_ _)); refine blk_far ?_ NB617_616.out _; (with_reducible repeat (first | refine blk_drewN ?_ _ | refine blk_drew ?_ | refine blk_alloc ?_ _)); refine blk_far ?_ NB617_616.out _; (with_reducible repeat (first | refine blk_drewN ?_ _ | refine blk_drew ?_ | refine blk_alloc ?_ _)); refine blk_far ?_ NB617_627.out _; (with_reducible repeat (first | refine blk_drewN ?_ _ | refine blk_drew ?_ | refine blk_alloc ?_ _)); refine blk_far ?_ NB617_627.out _; (with_reducible repeat (first | refine blk_drewN ?_ _ | refine blk_drew ?_ | refine blk_alloc ?_ _)); refine blk_far ?_ NB617_627.out _; (with_reducible repeat (first | refine blk_drewN ?_ _ | refine blk_drew ?_ | refine blk_alloc ?_ _)); refine blk_far ?_ NB617_627.out _; (with_reducible repeat (first | refine blk_drewN ?_ _ | refine blk_drew ?_ | refine blk_alloc ?_ _)); refine blk_far ?_ NB617_627.out _; (with_reducible repeat (first | refine blk_drewN ?_ _ | refine blk_drew ?_ | refine blk_alloc ?_ _)); refine blk_far ?_ NB617_627.out _; (with_reducible repeat (first | refine blk_drewN ?_ _ | refine blk_drew ?_ | refine blk_alloc ?_ _)); exact BK617.out⟩, ⟨by repeat (first | (with_reducible first | exact HB.out | apply below_alloc | apply pw_below_drewN | apply below_drew1 | refine below_set ?_ GE616.out | refine below_set ?_ GE617.out | refine below_set ?_ GE627.out) | exact HB.out)⟩⟩
       ·rw [if_neg c20] at H
        have c20b0 : (t626 == 0) = false := beq_eq_false_iff_ne.mpr c20
        have c20b1 : (t626 != 0) = true := bne_iff_ne.mpr c20
        simp only [Option.some.injEq, Prod.mk.injEq] at H
        obtain ⟨rfl, rfl, rfl, rfl, rfl, rfl, rfl, rfl⟩ := H
        try go_wp2
        have n0_ := Aside0.mk (blk_drew BK616.out)
        have n1_ := Aside0.mk (blk_drew BK617.out)
        have n2_ := Aside0.mk (below_drew1 HB.out)
        clear BK616
        clear BK617
        clear HB
        have BK616 := n0_
        have BK617 := n1_
        have HB := n2_
        clear n0_ n1_ n2_
        have p619 : 0 ≤ (x7_1 : Int) := of_decide_eq_true (by first | (with_reducible assumption) | assumption)
        have q619 : x7_1 < (l1.length : Int) := of_decide_eq_true (by first | (with_reducible assumption) | assumption)
        obtain ⟨ad619, e619, hx619_0⟩ := Kd.at_int HR1.out x7_1 p619 q619
        have hw619_0 := hx619_0
        cases e619
        replace hx619_0 := (HB.out.cell (World.block_lt_of_cell? w _ hx619_0)).trans hx619_0
        replace p619 := eq_true p619
        replace q619 := eq_true q619
        refine start_ (n := 12) (S := fun w' => w'.cell? ⟨gb616, 0, none⟩ = some (.bool x617000_1) ∧ w'.cell? ⟨gb616, 1, none⟩ = some (.bool x617001_1) ∧ w'.cell? ⟨gb616, 2, none⟩ = some (.bool x617002_1) ∧ w'.cell? ⟨gb616, 3, none⟩ = some (.bool x617003_1) ∧ w'.cell? ⟨gb616, 4, none⟩ = some (.bool x617004_1) ∧ w'.cell? ⟨gb616, 5, none⟩ = some (.int .i64 x617005_1) ∧ w'.cell? (ad619.add (x7_1).toNat) = some (.int .i64 (rd l1 x7_1))) (ds := []) (tf 0 12) (by kernel_rfl) rfl rfl ⟨(blk_cell BK616.out 0).trans rfl, (blk_cell BK616.out 1).trans rfl, (blk_cell BK616.out 2).trans rfl, (blk_cell BK616.out 3).trans rfl, (blk_cell BK616.out 4).trans rfl, (blk_cell BK616.out 5).trans rfl, ((HB.out.cell (World.block_lt_of_cell? w _ hw619_0)).trans hw619_0)⟩ (fun hHeld => ?_); refine with_tabW spec_GiveInputs.tab8 spec_GiveInputs.bits8 (fun HT_ HW_ => ?_)
        generalize wr.drew = w36 at BK616 BK617 HB hx619_0 hHeld ⊢
        refine pu_ 1 26 #[false, true, false, false, false, false, false, false, false, false, false, false] rfl rfl ?_
        refine pu_ 2 27 #[false, true, true, false, false, false, false, false, false, false, false, false] rfl rfl ?_
        refine pu_ 3 28 #[false, true, true, true, false, false, false, false, false, false, false, false] rfl rfl ?_
        refine ta7_ 0 25 (tf 4 8) rfl rfl ?_
        refine ta7_ 4 29 (tf 5 7) rfl rfl ?_
        refine join_ (σ := Nat) 2 (tf 10 2) (fun s_ => [(30, .tuple #[.agg #[.bool t620, .bool t621, .bool t622, .bool t623, .bool t624, .int .i64 t625], .int .i64 t626]), (8, .pointer (some ⟨s_, 0, none⟩)), (24, .tuple #[.agg #[.bool t620, .bool t621, .bool t622, .bool t623, .bool t624, .int .i64 t625], .int .i64 t626]), (31, .agg #[.bool t620, .bool t621, .bool t622, .bool t623, .bool t624, .int .i64 t625]), (32, .int .i64 t626)]) (fun s_ w' => (w'.cell? ⟨gb616, 0, none⟩ = some (.bool x617000_1) ∧ w'.cell? ⟨gb616, 1, none⟩ = some (.bool x617001_1) ∧ w'.cell? ⟨gb616, 2, none⟩ = some (.bool x617002_1) ∧ w'.cell? ⟨gb616, 3, none⟩ = some (.bool x617003_1) ∧ w'.cell? ⟨gb616, 4, none⟩ = some (.bool x617004_1) ∧ w'.cell? ⟨gb616, 5, none⟩ = some (.int .i64 x617005_1) ∧ w'.cell? (ad619.add (x7_1).toNat) = some (.int .i64 (rd l1 x7_1))) ∧ (w'.heap[gb616]? = some (.cells #[.bool x617000_1, .bool x617001_1, .bool x617002_1, .bool x617003_1, .bool x617004_1, .int .i64 x617005_1] 25 (0, 0))) ∧ (w'.heap[gb617]? = some (.cells #[.bool x618000_1, .bool x618001_1, .bool x618002_1, .bool x618003_1, .bool x618004_1, .int .i64 x618005_1] 25 (0, 0))) ∧ (w'.heap[s_]? = some (.cells #[.bool false, .bool false, .bool false, .bool false, .bool false, .int .i64 0] 25 (0, 0))) ∧ (w.heap.size ≤ s_) ∧ (w.heap.size ≤ s_) ∧ (gb616 ≠ s_) ∧ (s_ ≠ gb616) ∧ (gb617 ≠ s_) ∧ (s_ ≠ gb617) ∧ (Below w.heap.size w w')) ?_ ?_
        rotate_left
        ·intro hCont
         refine two_ (i := 5) (j := 9) (Ni := some 30) (Nj := some 8) (tf 6 6) #[true, true, true, true, true, false, false, false, false, true, false, false] rfl rfl rfl rfl (two_of HT_.out (by kernel_rfl)) (by decide) (by decide) (fun K hK => ?_) (fun K hK => ?_)
         ·skip
          refine goes_ Try.func55 (by kernel_rfl) rfl #[.agg #[.bool x617000_1, .bool x617001_1, .bool x617002_1, .bool x617003_1, .bool x617004_1, .int .i64 x617005_1], .int .i64 (rd l1 x7_1)] (by rfl) rfl rfl (by (try simp only [List.map_toArray, List.map_cons, List.map_nil]); first | done | rfl | (simp only [List.length_drop, List.length_take]; rfl)) ?_
          with_reducible refine (spec_l21Input.calls x617000_1 x617001_1 x617002_1 x617003_1 x617004_1 x617005_1 (rd l1 x7_1) t620 t621 t622 t623 t624 t625 t626 _ A19.out).mono ?_
          rintro e w37 ⟨rfl, hb⟩
          refine ⟨_, rfl, ?_⟩
          have n0_ := Aside0.mk (blk_below (g := gb616) (o := .cells #[.bool x617000_1, .bool x617001_1, .bool x617002_1, .bool x617003_1, .bool x617004_1, .int .i64 x617005_1] 25 (0, 0)) (by (with_reducible repeat (first | refine blk_drewN ?_ _ | refine blk_drew ?_ | refine blk_alloc ?_ _)); exact BK616.out) hb)
          have n1_ := Aside0.mk (blk_below (g := gb617) (o := .cells #[.bool x618000_1, .bool x618001_1, .bool x618002_1, .bool x618003_1, .bool x618004_1, .int .i64 x618005_1] 25 (0, 0)) (by (with_reducible repeat (first | refine blk_drewN ?_ _ | refine blk_drew ?_ | refine blk_alloc ?_ _)); exact BK617.out) hb)
          have n2_ := Aside0.mk (below_step (by repeat (first | (with_reducible first | exact HB.out | apply below_alloc | apply pw_below_drewN | apply below_drew1 | refine below_set ?_ GE616.out | refine below_set ?_ GE617.out) | exact HB.out)) hb)
          clear BK616
          clear BK617
          clear HB
          have BK616 := n0_
          have BK617 := n1_
          have HB := n2_
          clear n0_ n1_ n2_
          (try clear hb)
          (try clear hb2)
          (try clear hk)
          (try clear hi)
          refine hK.out _ _ ⟨(blk_cell BK616.out 0).trans rfl, (blk_cell BK616.out 1).trans rfl, (blk_cell BK616.out 2).trans rfl, (blk_cell BK616.out 3).trans rfl, (blk_cell BK616.out 4).trans rfl, (blk_cell BK616.out 5).trans rfl, ((HB.out.cell (World.block_lt_of_cell? w _ hw619_0)).trans hw619_0)⟩ (fun hHeld => ?_)
          clear hK K
          refine norm_ (a' := ?_) ?_ ?_
          rotate_left
          ·show Act.put _ (some 30) _ = _
           simp only [Act.put, List.setIfInBounds_toArray, List.set_cons_zero, List.set_cons_succ, i64_w, i32_w]
           rfl
          refine pu_ 6 24 (tf 7 5) rfl rfl ?_
          refine pu_ 7 31 (tf 8 4) rfl rfl ?_
          refine pu_ 8 32 (tf 9 3) rfl rfl ?_
          refine one_ (i := 9) (N := some 8) (tf 10 2) rfl rfl (one_of HT_.out (by kernel_rfl)) (by decide) (fun K hK => ?_)
          refine box_step ?hg (N := 8) ?hd (cs := #[.bool false, .bool false, .bool false, .bool false, .bool false, .int .i64 0]) (t := 25) ?hr ?_; (case hd => rfl); (case hg => rfl); (case hr => first | (go_simp; done) | (go_simp; rfl))
          intro gb627 hg w38 hbox hb
          have n0_ := Aside0.mk (blk_below (g := gb616) (o := .cells #[.bool x617000_1, .bool x617001_1, .bool x617002_1, .bool x617003_1, .bool x617004_1, .int .i64 x617005_1] 25 (0, 0)) (by (with_reducible repeat (first | refine blk_drewN ?_ _ | refine blk_drew ?_ | refine blk_alloc ?_ _)); exact BK616.out) hb)
          have n1_ := Aside0.mk (blk_below (g := gb617) (o := .cells #[.bool x618000_1, .bool x618001_1, .bool x618002_1, .bool x618003_1, .bool x618004_1, .int .i64 x618005_1] 25 (0, 0)) (by (with_reducible repeat (first | refine blk_drewN ?_ _ | refine blk_drew ?_ | refine blk_alloc ?_ _)); exact BK617.out) hb)
          have n2_ := Aside0.mk (below_step (by repeat (first | (with_reducible first | exact HB.out | apply below_alloc | apply pw_below_drewN | apply below_drew1 | refine below_set ?_ GE616.out | refine below_set ?_ GE617.out) | exact HB.out)) hb)
          have n3_ := Aside0.mk (hbox)
          have n4_ := Aside0.mk ((by rw [hg]; exact (below_size (by repeat (first | (with_reducible first | exact HB.out | apply below_alloc | apply pw_below_drewN | apply below_drew1 | refine below_set ?_ GE616.out | refine below_set ?_ GE617.out) | exact HB.out))) : w.heap.size ≤ gb627))
          have n5_ := Aside0.mk ((by rw [hg]; exact (below_size (by repeat (first | (with_reducible first | exact HB.out | apply below_alloc | apply pw_below_drewN | apply below_drew1 | refine below_set ?_ GE616.out | refine below_set ?_ GE617.out) | exact HB.out))) : w.heap.size ≤ gb627))
          have n6_ := Aside0.mk ((by rw [hg]; exact Nat.ne_of_lt (blk_lt (g := gb616) (o := .cells #[.bool x617000_1, .bool x617001_1, .bool x617002_1, .bool x617003_1, .bool x617004_1, .int .i64 x617005_1] 25 (0, 0)) (by (with_reducible repeat (first | refine blk_drewN ?_ _ | refine blk_drew ?_ | refine blk_alloc ?_ _)); exact BK616.out)) : gb616 ≠ gb627))
          have n7_ := Aside0.mk ((by rw [hg]; exact Nat.ne_of_gt (blk_lt (g := gb616) (o := .cells #[.bool x617000_1, .bool x617001_1, .bool x617002_1, .bool x617003_1, .bool x617004_1, .int .i64 x617005_1] 25 (0, 0)) (by (with_reducible repeat (first | refine blk_drewN ?_ _ | refine blk_drew ?_ | refine blk_alloc ?_ _)); exact BK616.out)) : gb627 ≠ gb616))
          have n8_ := Aside0.mk ((by rw [hg]; exact Nat.ne_of_lt (blk_lt (g := gb617) (o := .cells #[.bool x618000_1, .bool x618001_1, .bool x618002_1, .bool x618003_1, .bool x618004_1, .int .i64 x618005_1] 25 (0, 0)) (by (with_reducible repeat (first | refine blk_drewN ?_ _ | refine blk_drew ?_ | refine blk_alloc ?_ _)); exact BK617.out)) : gb617 ≠ gb627))
          have n9_ := Aside0.mk ((by rw [hg]; exact Nat.ne_of_gt (blk_lt (g := gb617) (o := .cells #[.bool x618000_1, .bool x618001_1, .bool x618002_1, .bool x618003_1, .bool x618004_1, .int .i64 x618005_1] 25 (0, 0)) (by (with_reducible repeat (first | refine blk_drewN ?_ _ | refine blk_drew ?_ | refine blk_alloc ?_ _)); exact BK617.out)) : gb627 ≠ gb617))
          clear BK616
          clear BK617
          clear HB
          have BK616 := n0_
          have BK617 := n1_
          have HB := n2_
          have BK627 := n3_
          have GW627 := n4_
          have GE627 := n5_
          have NB616_627 := n6_
          have NB627_616 := n7_
          have NB617_627 := n8_
          have NB627_617 := n9_
          clear n0_ n1_ n2_ n3_ n4_ n5_ n6_ n7_ n8_ n9_
          clear hb hbox hg
          refine hK.out _ _ ⟨(blk_cell BK616.out 0).trans rfl, (blk_cell BK616.out 1).trans rfl, (blk_cell BK616.out 2).trans rfl, (blk_cell BK616.out 3).trans rfl, (blk_cell BK616.out 4).trans rfl, (blk_cell BK616.out 5).trans rfl, ((HB.out.cell (World.block_lt_of_cell? w _ hw619_0)).trans hw619_0)⟩ (fun hHeld => ?_)
          clear hK K
          refine norm_ (a' := ?_) ?_ ?_
          rotate_left
          ·show Act.put _ (some 8) _ = _
           simp only [Act.put, List.setIfInBounds_toArray, List.set_cons_zero, List.set_cons_succ, i64_w, i32_w]
           rfl
          exact norm_ (by simp only [putAll, Act.put, List.setIfInBounds_toArray, List.set_cons_zero, List.set_cons_succ]) (hCont (gb627) _ ⟨hHeld, (by (with_reducible repeat (first | refine blk_drewN ?_ _ | refine blk_drew ?_ | refine blk_alloc ?_ _)); exact BK616.out), (by (with_reducible repeat (first | refine blk_drewN ?_ _ | refine blk_drew ?_ | refine blk_alloc ?_ _)); exact BK617.out), (by (with_reducible repeat (first | refine blk_drewN ?_ _ | refine blk_drew ?_ | refine blk_alloc ?_ _)); exact BK627.out), GW627.out, GE627.out, NB616_627.out, NB627_616.out, NB617_627.out, NB627_617.out, (by repeat (first | (with_reducible first | exact HB.out | apply below_alloc | apply pw_below_drewN | apply below_drew1 | refine below_set ?_ GE616.out | refine below_set ?_ GE617.out | refine below_set ?_ GE627.out) | exact HB.out))⟩)
         ·skip
          refine box_step ?hg (N := 8) ?hd (cs := #[.bool false, .bool false, .bool false, .bool false, .bool false, .int .i64 0]) (t := 25) ?hr ?_; (case hd => rfl); (case hg => rfl); (case hr => first | (go_simp; done) | (go_simp; rfl))
          intro gb627 hg w37 hbox hb
          have n0_ := Aside0.mk (blk_below (g := gb616) (o := .cells #[.bool x617000_1, .bool x617001_1, .bool x617002_1, .bool x617003_1, .bool x617004_1, .int .i64 x617005_1] 25 (0, 0)) (by (with_reducible repeat (first | refine blk_drewN ?_ _ | refine blk_drew ?_ | refine blk_alloc ?_ _)); exact BK616.out) hb)
          have n1_ := Aside0.mk (blk_below (g := gb617) (o := .cells #[.bool x618000_1, .bool x618001_1, .bool x618002_1, .bool x618003_1, .bool x618004_1, .int .i64 x618005_1] 25 (0, 0)) (by (with_reducible repeat (first | refine blk_drewN ?_ _ | refine blk_drew ?_ | refine blk_alloc ?_ _)); exact BK617.out) hb)
          have n2_ := Aside0.mk (below_step (by repeat (first | (with_reducible first | exact HB.out | apply below_alloc | apply pw_below_drewN | apply below_drew1 | refine below_set ?_ GE616.out | refine below_set ?_ GE617.out) | exact HB.out)) hb)
          have n3_ := Aside0.mk (hbox)
          have n4_ := Aside0.mk ((by rw [hg]; exact (below_size (by repeat (first | (with_reducible first | exact HB.out | apply below_alloc | apply pw_below_drewN | apply below_drew1 | refine below_set ?_ GE616.out | refine below_set ?_ GE617.out) | exact HB.out))) : w.heap.size ≤ gb627))
          have n5_ := Aside0.mk ((by rw [hg]; exact (below_size (by repeat (first | (with_reducible first | exact HB.out | apply below_alloc | apply pw_below_drewN | apply below_drew1 | refine below_set ?_ GE616.out | refine below_set ?_ GE617.out) | exact HB.out))) : w.heap.size ≤ gb627))
          have n6_ := Aside0.mk ((by rw [hg]; exact Nat.ne_of_lt (blk_lt (g := gb616) (o := .cells #[.bool x617000_1, .bool x617001_1, .bool x617002_1, .bool x617003_1, .bool x617004_1, .int .i64 x617005_1] 25 (0, 0)) (by (with_reducible repeat (first | refine blk_drewN ?_ _ | refine blk_drew ?_ | refine blk_alloc ?_ _)); exact BK616.out)) : gb616 ≠ gb627))
          have n7_ := Aside0.mk ((by rw [hg]; exact Nat.ne_of_gt (blk_lt (g := gb616) (o := .cells #[.bool x617000_1, .bool x617001_1, .bool x617002_1, .bool x617003_1, .bool x617004_1, .int .i64 x617005_1] 25 (0, 0)) (by (with_reducible repeat (first | refine blk_drewN ?_ _ | refine blk_drew ?_ | refine blk_alloc ?_ _)); exact BK616.out)) : gb627 ≠ gb616))
          have n8_ := Aside0.mk ((by rw [hg]; exact Nat.ne_of_lt (blk_lt (g := gb617) (o := .cells #[.bool x618000_1, .bool x618001_1, .bool x618002_1, .bool x618003_1, .bool x618004_1, .int .i64 x618005_1] 25 (0, 0)) (by (with_reducible repeat (first | refine blk_drewN ?_ _ | refine blk_drew ?_ | refine blk_alloc ?_ _)); exact BK617.out)) : gb617 ≠ gb627))
          have n9_ := Aside0.mk ((by rw [hg]; exact Nat.ne_of_gt (blk_lt (g := gb617) (o := .cells #[.bool x618000_1, .bool x618001_1, .bool x618002_1, .bool x618003_1, .bool x618004_1, .int .i64 x618005_1] 25 (0, 0)) (by (with_reducible repeat (first | refine blk_drewN ?_ _ | refine blk_drew ?_ | refine blk_alloc ?_ _)); exact BK617.out)) : gb627 ≠ gb617))
          clear BK616
          clear BK617
          clear HB
          have BK616 := n0_
          have BK617 := n1_
          have HB := n2_
          have BK627 := n3_
          have GW627 := n4_
          have GE627 := n5_
          have NB616_627 := n6_
          have NB627_616 := n7_
          have NB617_627 := n8_
          have NB627_617 := n9_
          clear n0_ n1_ n2_ n3_ n4_ n5_ n6_ n7_ n8_ n9_
          clear hb hbox hg
          refine hK.out _ _ ⟨(blk_cell BK616.out 0).trans rfl, (blk_cell BK616.out 1).trans rfl, (blk_cell BK616.out 2).trans rfl, (blk_cell BK616.out 3).trans rfl, (blk_cell BK616.out 4).trans rfl, (blk_cell BK616.out 5).trans rfl, ((HB.out.cell (World.block_lt_of_cell? w _ hw619_0)).trans hw619_0)⟩ (fun hHeld => ?_)
          clear hK K
          refine norm_ (a' := ?_) ?_ ?_
          rotate_left
          ·show Act.put _ (some 8) _ = _
           simp only [Act.put, List.setIfInBounds_toArray, List.set_cons_zero, List.set_cons_succ, i64_w, i32_w]
           rfl
          refine one_ (i := 5) (N := some 30) #[true, true, true, true, true, true, false, false, false, true, false, false] rfl rfl (one_of HT_.out (by kernel_rfl)) (by decide) (fun K hK => ?_)
          refine goes_ Try.func55 (by kernel_rfl) rfl #[.agg #[.bool x617000_1, .bool x617001_1, .bool x617002_1, .bool x617003_1, .bool x617004_1, .int .i64 x617005_1], .int .i64 (rd l1 x7_1)] (by rfl) rfl rfl (by (try simp only [List.map_toArray, List.map_cons, List.map_nil]); first | done | rfl | (simp only [List.length_drop, List.length_take]; rfl)) ?_
          with_reducible refine (spec_l21Input.calls x617000_1 x617001_1 x617002_1 x617003_1 x617004_1 x617005_1 (rd l1 x7_1) t620 t621 t622 t623 t624 t625 t626 _ A19.out).mono ?_
          rintro e w38 ⟨rfl, hb⟩
          refine ⟨_, rfl, ?_⟩
          have n0_ := Aside0.mk (blk_below (g := gb616) (o := .cells #[.bool x617000_1, .bool x617001_1, .bool x617002_1, .bool x617003_1, .bool x617004_1, .int .i64 x617005_1] 25 (0, 0)) (by (with_reducible repeat (first | refine blk_drewN ?_ _ | refine blk_drew ?_ | refine blk_alloc ?_ _)); exact BK616.out) hb)
          have n1_ := Aside0.mk (blk_below (g := gb617) (o := .cells #[.bool x618000_1, .bool x618001_1, .bool x618002_1, .bool x618003_1, .bool x618004_1, .int .i64 x618005_1] 25 (0, 0)) (by (with_reducible repeat (first | refine blk_drewN ?_ _ | refine blk_drew ?_ | refine blk_alloc ?_ _)); exact BK617.out) hb)
          have n2_ := Aside0.mk (blk_below (g := gb627) (o := .cells #[.bool false, .bool false, .bool false, .bool false, .bool false, .int .i64 0] 25 (0, 0)) (by (with_reducible repeat (first | refine blk_drewN ?_ _ | refine blk_drew ?_ | refine blk_alloc ?_ _)); exact BK627.out) hb)
          have n3_ := Aside0.mk (below_step (by repeat (first | (with_reducible first | exact HB.out | apply below_alloc | apply pw_below_drewN | apply below_drew1 | refine below_set ?_ GE616.out | refine below_set ?_ GE617.out | refine below_set ?_ GE627.out) | exact HB.out)) hb)
          clear BK616
          clear BK617
          clear BK627
          clear HB
          have BK616 := n0_
          have BK617 := n1_
          have BK627 := n2_
          have HB := n3_
          clear n0_ n1_ n2_ n3_
          (try clear hb)
          (try clear hb2)
          (try clear hk)
          (try clear hi)
          refine hK.out _ _ ⟨(blk_cell BK616.out 0).trans rfl, (blk_cell BK616.out 1).trans rfl, (blk_cell BK616.out 2).trans rfl, (blk_cell BK616.out 3).trans rfl, (blk_cell BK616.out 4).trans rfl, (blk_cell BK616.out 5).trans rfl, ((HB.out.cell (World.block_lt_of_cell? w _ hw619_0)).trans hw619_0)⟩ (fun hHeld => ?_)
          clear hK K
          refine norm_ (a' := ?_) ?_ ?_
          rotate_left
          ·show Act.put _ (some 30) _ = _
           simp only [Act.put, List.setIfInBounds_toArray, List.set_cons_zero, List.set_cons_succ, i64_w, i32_w]
           rfl
          refine pu_ 6 24 #[true, true, true, true, true, true, true, false, false, true, false, false] rfl rfl ?_
          refine pu_ 7 31 #[true, true, true, true, true, true, true, true, false, true, false, false] rfl rfl ?_
          refine pu_ 8 32 (tf 10 2) rfl rfl ?_
          exact norm_ (by simp only [putAll, Act.put, List.setIfInBounds_toArray, List.set_cons_zero, List.set_cons_succ]) (hCont (gb627) _ ⟨hHeld, (by (with_reducible repeat (first | refine blk_drewN ?_ _ | refine blk_drew ?_ | refine blk_alloc ?_ _)); exact BK616.out), (by (with_reducible repeat (first | refine blk_drewN ?_ _ | refine blk_drew ?_ | refine blk_alloc ?_ _)); exact BK617.out), (by (with_reducible repeat (first | refine blk_drewN ?_ _ | refine blk_drew ?_ | refine blk_alloc ?_ _)); exact BK627.out), GW627.out, GE627.out, NB616_627.out, NB627_616.out, NB617_627.out, NB627_617.out, (by repeat (first | (with_reducible first | exact HB.out | apply below_alloc | apply pw_below_drewN | apply below_drew1 | refine below_set ?_ GE616.out | refine below_set ?_ GE617.out | refine below_set ?_ GE627.out) | exact HB.out))⟩)
        rintro gb627 w39 ⟨hS_, h0_, h1_, h2_, h3_, h4_, h5_, h6_, h7_, h8_, h9_⟩
        have n0_ : Aside0 (w39.heap[gb616]? = some (.cells #[.bool x617000_1, .bool x617001_1, .bool x617002_1, .bool x617003_1, .bool x617004_1, .int .i64 x617005_1] 25 (0, 0))) := ⟨h0_⟩
        have n1_ : Aside0 (w39.heap[gb617]? = some (.cells #[.bool x618000_1, .bool x618001_1, .bool x618002_1, .bool x618003_1, .bool x618004_1, .int .i64 x618005_1] 25 (0, 0))) := ⟨h1_⟩
        have n2_ : Aside0 (w39.heap[gb627]? = some (.cells #[.bool false, .bool false, .bool false, .bool false, .bool false, .int .i64 0] 25 (0, 0))) := ⟨h2_⟩
        have n3_ : Aside0 (w.heap.size ≤ gb627) := ⟨h3_⟩
        have n4_ : Aside0 (w.heap.size ≤ gb627) := ⟨h4_⟩
        have n5_ : Aside0 (gb616 ≠ gb627) := ⟨h5_⟩
        have n6_ : Aside0 (gb627 ≠ gb616) := ⟨h6_⟩
        have n7_ : Aside0 (gb617 ≠ gb627) := ⟨h7_⟩
        have n8_ : Aside0 (gb627 ≠ gb617) := ⟨h8_⟩
        have n9_ : Aside0 (Below w.heap.size w w39) := ⟨h9_⟩
        clear BK616
        clear BK617
        clear HB
        clear h0_ h1_ h2_ h3_ h4_ h5_ h6_ h7_ h8_ h9_
        have BK616 := n0_
        have BK617 := n1_
        have BK627 := n2_
        have GW627 := n3_
        have GE627 := n4_
        have NB616_627 := n5_
        have NB627_616 := n6_
        have NB617_627 := n7_
        have NB627_617 := n8_
        have HB := n9_
        clear n0_ n1_ n2_ n3_ n4_ n5_ n6_ n7_ n8_ n9_
        have hHeld : w39.cell? ⟨gb616, 0, none⟩ = some (.bool x617000_1) ∧ w39.cell? ⟨gb616, 1, none⟩ = some (.bool x617001_1) ∧ w39.cell? ⟨gb616, 2, none⟩ = some (.bool x617002_1) ∧ w39.cell? ⟨gb616, 3, none⟩ = some (.bool x617003_1) ∧ w39.cell? ⟨gb616, 4, none⟩ = some (.bool x617004_1) ∧ w39.cell? ⟨gb616, 5, none⟩ = some (.int .i64 x617005_1) ∧ w39.cell? (ad619.add (x7_1).toNat) = some (.int .i64 (rd l1 x7_1)) := hS_
        refine norm_ (a' := ?_) ?_ ?_
        rotate_left
        ·simp only [putAll, Act.put, List.setIfInBounds_toArray, List.set_cons_zero, List.set_cons_succ]
         rfl
        refine one_ (i := 10) (N := none) (tf 11 1) rfl rfl (one_of HT_.out (by kernel_rfl)) (by decide) (fun K hK => ?_)
        have hs40 : w39.cell? ⟨gb627, 0, none⟩ = some (.bool false) := (blk_cell BK627.out 0).trans rfl
        have hfs40 := blk_frozen BK627.out 0
        have hns40_0 := NB616_627.out
        have hns40_1 := NB617_627.out
        have hms40_0 := NB627_616.out
        have hms40_1 := NB627_617.out
        have hs41 : w39.cell? ⟨gb627, 1, none⟩ = some (.bool false) := (blk_cell BK627.out 1).trans rfl
        have hfs41 := blk_frozen BK627.out 1
        have hns41_0 := NB616_627.out
        have hns41_1 := NB617_627.out
        have hms41_0 := NB627_616.out
        have hms41_1 := NB627_617.out
        have hs42 : w39.cell? ⟨gb627, 2, none⟩ = some (.bool false) := (blk_cell BK627.out 2).trans rfl
        have hfs42 := blk_frozen BK627.out 2
        have hns42_0 := NB616_627.out
        have hns42_1 := NB617_627.out
        have hms42_0 := NB627_616.out
        have hms42_1 := NB627_617.out
        have hs43 : w39.cell? ⟨gb627, 3, none⟩ = some (.bool false) := (blk_cell BK627.out 3).trans rfl
        have hfs43 := blk_frozen BK627.out 3
        have hns43_0 := NB616_627.out
        have hns43_1 := NB617_627.out
        have hms43_0 := NB627_616.out
        have hms43_1 := NB627_617.out
        have hs44 : w39.cell? ⟨gb627, 4, none⟩ = some (.bool false) := (blk_cell BK627.out 4).trans rfl
        have hfs44 := blk_frozen BK627.out 4
        have hns44_0 := NB616_627.out
        have hns44_1 := NB617_627.out
        have hms44_0 := NB627_616.out
        have hms44_1 := NB627_617.out
        have hs45 : w39.cell? ⟨gb627, 5, none⟩ = some (.int .i64 0) := (blk_cell BK627.out 5).trans rfl
        have hfs45 := blk_frozen BK627.out 5
        have hns45_0 := NB616_627.out
        have hns45_1 := NB617_627.out
        have hms45_0 := NB627_616.out
        have hms45_1 := NB627_617.out
        refine skip_ (w1 := ?_) (by rfl) rfl ?_ ?_
        rotate_left
        ·go_simp
         rfl
        refine hK.out _ _ ⟨((cell_far (p := ⟨gb627, _, none⟩) NB616_627.out _).trans (((cell_far (p := ⟨gb627, _, none⟩) NB616_627.out _).trans (((cell_far (p := ⟨gb627, _, none⟩) NB616_627.out _).trans (((cell_far (p := ⟨gb627, _, none⟩) NB616_627.out _).trans (((cell_far (p := ⟨gb627, _, none⟩) NB616_627.out _).trans (((cell_far (p := ⟨gb627, _, none⟩) NB616_627.out _).trans (hHeld.1)))))))))))), ((cell_far (p := ⟨gb627, _, none⟩) NB616_627.out _).trans (((cell_far (p := ⟨gb627, _, none⟩) NB616_627.out _).trans (((cell_far (p := ⟨gb627, _, none⟩) NB616_627.out _).trans (((cell_far (p := ⟨gb627, _, none⟩) NB616_627.out _).trans (((cell_far (p := ⟨gb627, _, none⟩) NB616_627.out _).trans (((cell_far (p := ⟨gb627, _, none⟩) NB616_627.out _).trans (hHeld.2.1)))))))))))), ((cell_far (p := ⟨gb627, _, none⟩) NB616_627.out _).trans (((cell_far (p := ⟨gb627, _, none⟩) NB616_627.out _).trans (((cell_far (p := ⟨gb627, _, none⟩) NB616_627.out _).trans (((cell_far (p := ⟨gb627, _, none⟩) NB616_627.out _).trans (((cell_far (p := ⟨gb627, _, none⟩) NB616_627.out _).trans (((cell_far (p := ⟨gb627, _, none⟩) NB616_627.out _).trans (hHeld.2.2.1)))))))))))), ((cell_far (p := ⟨gb627, _, none⟩) NB616_627.out _).trans (((cell_far (p := ⟨gb627, _, none⟩) NB616_627.out _).trans (((cell_far (p := ⟨gb627, _, none⟩) NB616_627.out _).trans (((cell_far (p := ⟨gb627, _, none⟩) NB616_627.out _).trans (((cell_far (p := ⟨gb627, _, none⟩) NB616_627.out _).trans (((cell_far (p := ⟨gb627, _, none⟩) NB616_627.out _).trans (hHeld.2.2.2.1)))))))))))), ((cell_far (p := ⟨gb627, _, none⟩) NB616_627.out _).trans (((cell_far (p := ⟨gb627, _, none⟩) NB616_627.out _).trans (((cell_far (p := ⟨gb627, _, none⟩) NB616_627.out _).trans (((cell_far (p := ⟨gb627, _, none⟩) NB616_627.out _).trans (((cell_far (p := ⟨gb627, _, none⟩) NB616_627.out _).trans (((cell_far (p := ⟨gb627, _, none⟩) NB616_627.out _).trans (hHeld.2.2.2.2.1)))))))))))), ((cell_far (p := ⟨gb627, _, none⟩) NB616_627.out _).trans (((cell_far (p := ⟨gb627, _, none⟩) NB616_627.out _).trans (((cell_far (p := ⟨gb627, _, none⟩) NB616_627.out _).trans (((cell_far (p := ⟨gb627, _, none⟩) NB616_627.out _).trans (((cell_far (p := ⟨gb627, _, none⟩) NB616_627.out _).trans (((cell_far (p := ⟨gb627, _, none⟩) NB616_627.out _).trans (hHeld.2.2.2.2.2.1)))))))))))), ((cell_far (p := ⟨gb627, _, none⟩) (by first | exact Nat.ne_of_lt (Nat.lt_of_lt_of_le (by have := World.block_lt_of_cell? _ _ hw619_0; first | rwa [add_block] at this | exact this) GW627.out) | (rw [add_block]; exact Nat.ne_of_lt (Nat.lt_of_lt_of_le (by have := World.block_lt_of_cell? _ _ hw619_0; first | rwa [add_block] at this | exact this) GW627.out)) | (show (Addr.add _ _).block ≠ _; rw [add_block]; exact Nat.ne_of_lt (Nat.lt_of_lt_of_le (by have := World.block_lt_of_cell? _ _ hw619_0; first | rwa [add_block] at this | exact this) GW627.out)) | (dsimp only; exact Nat.ne_of_lt (Nat.lt_of_lt_of_le (by have := World.block_lt_of_cell? _ _ hw619_0; first | rwa [add_block] at this | exact this) GW627.out))) _).trans (((cell_far (p := ⟨gb627, _, none⟩) (by first | exact Nat.ne_of_lt (Nat.lt_of_lt_of_le (by have := World.block_lt_of_cell? _ _ hw619_0; first | rwa [add_block] at this | exact this) GW627.out) | (rw [add_block]; exact Nat.ne_of_lt (Nat.lt_of_lt_of_le (by have := World.block_lt_of_cell? _ _ hw619_0; first | rwa [add_block] at this | exact this) GW627.out)) | (show (Addr.add _ _).block ≠ _; rw [add_block]; exact Nat.ne_of_lt (Nat.lt_of_lt_of_le (by have := World.block_lt_of_cell? _ _ hw619_0; first | rwa [add_block] at this | exact this) GW627.out)) | (dsimp only; exact Nat.ne_of_lt (Nat.lt_of_lt_of_le (by have := World.block_lt_of_cell? _ _ hw619_0; first | rwa [add_block] at this | exact this) GW627.out))) _).trans (((cell_far (p := ⟨gb627, _, none⟩) (by first | exact Nat.ne_of_lt (Nat.lt_of_lt_of_le (by have := World.block_lt_of_cell? _ _ hw619_0; first | rwa [add_block] at this | exact this) GW627.out) | (rw [add_block]; exact Nat.ne_of_lt (Nat.lt_of_lt_of_le (by have := World.block_lt_of_cell? _ _ hw619_0; first | rwa [add_block] at this | exact this) GW627.out)) | (show (Addr.add _ _).block ≠ _; rw [add_block]; exact Nat.ne_of_lt (Nat.lt_of_lt_of_le (by have := World.block_lt_of_cell? _ _ hw619_0; first | rwa [add_block] at this | exact this) GW627.out)) | (dsimp only; exact Nat.ne_of_lt (Nat.lt_of_lt_of_le (by have := World.block_lt_of_cell? _ _ hw619_0; first | rwa [add_block] at this | exact this) GW627.out))) _).trans (((cell_far (p := ⟨gb627, _, none⟩) (by first | exact Nat.ne_of_lt (Nat.lt_of_lt_of_le (by have := World.block_lt_of_cell? _ _ hw619_0; first | rwa [add_block] at this | exact this) GW627.out) | (rw [add_block]; exact Nat.ne_of_lt (Nat.lt_of_lt_of_le (by have := World.block_lt_of_cell? _ _ hw619_0; first | rwa [add_block] at this | exact this) GW627.out)) | (show (Addr.add _ _).block ≠ _; rw [add_block]; exact Nat.ne_of_lt (Nat.lt_of_lt_of_le (by have := World.block_lt_of_cell? _ _ hw619_0; first | rwa [add_block] at this | exact this) GW627.out)) | (dsimp only; exact Nat.ne_of_lt (Nat.lt_of_lt_of_le (by have := World.block_lt_of_cell? _ _ hw619_0; first | rwa [add_block] at this | exact this) GW627.out))) _).trans (((cell_far (p := ⟨gb627, _, none⟩) (by first | exact Nat.ne_of_lt (Nat.lt_of_lt_of_le (by have := World.block_lt_of_cell? _ _ hw619_0; first | rwa [add_block] at this | exact this) GW627.out) | (rw [add_block]; exact Nat.ne_of_lt (Nat.lt_of_lt_of_le (by have := World.block_lt_of_cell? _ _ hw619_0; first | rwa [add_block] at this | exact this) GW627.out)) | (show (Addr.add _ _).block ≠ _; rw [add_block]; exact Nat.ne_of_lt (Nat.lt_of_lt_of_le (by have := World.block_lt_of_cell? _ _ hw619_0; first | rwa [add_block] at this | exact this) GW627.out)) | (dsimp only; exact Nat.ne_of_lt (Nat.lt_of_lt_of_le (by have := World.block_lt_of_cell? _ _ hw619_0; first | rwa [add_block] at this | exact this) GW627.out))) _).trans (((cell_far (p := ⟨gb627, _, none⟩) (by first | exact Nat.ne_of_lt (Nat.lt_of_lt_of_le (by have := World.block_lt_of_cell? _ _ hw619_0; first | rwa [add_block] at this | exact this) GW627.out) | (rw [add_block]; exact Nat.ne_of_lt (Nat.lt_of_lt_of_le (by have := World.block_lt_of_cell? _ _ hw619_0; first | rwa [add_block] at this | exact this) GW627.out)) | (show (Addr.add _ _).block ≠ _; rw [add_block]; exact Nat.ne_of_lt (Nat.lt_of_lt_of_le (by have := World.block_lt_of_cell? _ _ hw619_0; first | rwa [add_block] at this | exact this) GW627.out)) | (dsimp only; exact Nat.ne_of_lt (Nat.lt_of_lt_of_le (by have := World.block_lt_of_cell? _ _ hw619_0; first | rwa [add_block] at this | exact this) GW627.out))) _).trans (hHeld.2.2.2.2.2.2))))))))))))⟩ (fun hHeld => ?_)
        clear hK K
        refine pu_ 11 9 (tf 12 0) rfl rfl ?_
        refine done_ (done_of HT_.out (by kernel_rfl)) ?_
        have hnb46 := NB616_617.out
        have hnc46 := NB617_616.out
        have hnb47 := NB616_627.out
        have hnc47 := NB627_616.out
        have hcz48_0 : w39.cell? ⟨gb616, 0, none⟩ = some (.bool x617000_1) := (blk_cell BK616.out 0).trans rfl
        have hcz48_1 : w39.cell? ⟨gb616, 1, none⟩ = some (.bool x617001_1) := (blk_cell BK616.out 1).trans rfl
        have hcz48_2 : w39.cell? ⟨gb616, 2, none⟩ = some (.bool x617002_1) := (blk_cell BK616.out 2).trans rfl
        have hcz48_3 : w39.cell? ⟨gb616, 3, none⟩ = some (.bool x617003_1) := (blk_cell BK616.out 3).trans rfl
        have hcz48_4 : w39.cell? ⟨gb616, 4, none⟩ = some (.bool x617004_1) := (blk_cell BK616.out 4).trans rfl
        have hcz48_5 : w39.cell? ⟨gb616, 5, none⟩ = some (.int .i64 x617005_1) := (blk_cell BK616.out 5).trans rfl
        have hfz48_0 := blk_frozen BK616.out 0
        have hfz48_1 := blk_frozen BK616.out 1
        have hfz48_2 := blk_frozen BK616.out 2
        have hfz48_3 := blk_frozen BK616.out 3
        have hfz48_4 := blk_frozen BK616.out 4
        have hfz48_5 := blk_frozen BK616.out 5
        have hnb49 := NB617_627.out
        have hnc49 := NB627_617.out
        have hcz50_0 : w39.cell? ⟨gb617, 0, none⟩ = some (.bool x618000_1) := (blk_cell BK617.out 0).trans rfl
        have hcz50_1 : w39.cell? ⟨gb617, 1, none⟩ = some (.bool x618001_1) := (blk_cell BK617.out 1).trans rfl
        have hcz50_2 : w39.cell? ⟨gb617, 2, none⟩ = some (.bool x618002_1) := (blk_cell BK617.out 2).trans rfl
        have hcz50_3 : w39.cell? ⟨gb617, 3, none⟩ = some (.bool x618003_1) := (blk_cell BK617.out 3).trans rfl
        have hcz50_4 : w39.cell? ⟨gb617, 4, none⟩ = some (.bool x618004_1) := (blk_cell BK617.out 4).trans rfl
        have hcz50_5 : w39.cell? ⟨gb617, 5, none⟩ = some (.int .i64 x618005_1) := (blk_cell BK617.out 5).trans rfl
        have hfz50_0 := blk_frozen BK617.out 0
        have hfz50_1 := blk_frozen BK617.out 1
        have hfz50_2 := blk_frozen BK617.out 2
        have hfz50_3 := blk_frozen BK617.out 3
        have hfz50_4 := blk_frozen BK617.out 4
        have hfz50_5 := blk_frozen BK617.out 5
        try go_wp2
        refine bodyPost_ret (results_ctt rfl _ _ gb617 25 #[.bool x617000_1, .bool x617001_1, .bool x617002_1, .bool x617003_1, .bool x617004_1, .int .i64 x617005_1] (0, 0) _ rfl (by (with_reducible repeat (first | refine blk_drewN ?_ _ | refine blk_drew ?_ | refine blk_alloc ?_ _)); refine blk_put (cs := #[.bool x617000_1, .bool x617001_1, .bool x617002_1, .bool x617003_1, .bool x617004_1, .int .i64 x618005_1]) ?_ 5 _ rfl; (with_reducible repeat (first | refine blk_drewN ?_ _ | refine blk_drew ?_ | refine blk_alloc ?_ _)); refine blk_put (cs := #[.bool x617000_1, .bool x617001_1, .bool x617002_1, .bool x617003_1, .bool x618004_1, .int .i64 x618005_1]) ?_ 4 _ rfl; (with_reducible repeat (first | refine blk_drewN ?_ _ | refine blk_drew ?_ | refine blk_alloc ?_ _)); refine blk_put (cs := #[.bool x617000_1, .bool x617001_1, .bool x617002_1, .bool x618003_1, .bool x618004_1, .int .i64 x618005_1]) ?_ 3 _ rfl; (with_reducible repeat (first | refine blk_drewN ?_ _ | refine blk_drew ?_ | refine blk_alloc ?_ _)); refine blk_put (cs := #[.bool x617000_1, .bool x617001_1, .bool x618002_1, .bool x618003_1, .bool x618004_1, .int .i64 x618005_1]) ?_ 2 _ rfl; (with_reducible repeat (first | refine blk_drewN ?_ _ | refine blk_drew ?_ | refine blk_alloc ?_ _)); refine blk_put (cs := #[.bool x617000_1, .bool x618001_1, .bool x618002_1, .bool x618003_1, .bool x618004_1, .int .i64 x618005_1]) ?_ 1 _ rfl; (with_reducible repeat (first | refine blk_drewN ?_ _ | refine blk_drew ?_ | refine blk_alloc ?_ _)); refine blk_put (cs := #[.bool x618000_1, .bool x618001_1, .bool x618002_1, .bool x618003_1, .bool x618004_1, .int .i64 x618005_1]) ?_ 0 _ rfl; (with_reducible repeat (first | refine blk_drewN ?_ _ | refine blk_drew ?_ | refine blk_alloc ?_ _)); refine blk_far ?_ NB617_627.out _; (with_reducible repeat (first | refine blk_drewN ?_ _ | refine blk_drew ?_ | refine blk_alloc ?_ _)); refine blk_far ?_ NB617_627.out _; (with_reducible repeat (first | refine blk_drewN ?_ _ | refine blk_drew ?_ | refine blk_alloc ?_ _)); refine blk_far ?_ NB617_627.out _; (with_reducible repeat (first | refine blk_drewN ?_ _ | refine blk_drew ?_ | refine blk_alloc ?_ _)); refine blk_far ?_ NB617_627.out _; (with_reducible repeat (first | refine blk_drewN ?_ _ | refine blk_drew ?_ | refine blk_alloc ?_ _)); refine blk_far ?_ NB617_627.out _; (with_reducible repeat (first | refine blk_drewN ?_ _ | refine blk_drew ?_ | refine blk_alloc ?_ _)); refine blk_far ?_ NB617_627.out _; (with_reducible repeat (first | refine blk_drewN ?_ _ | refine blk_drew ?_ | refine blk_alloc ?_ _)); exact BK617.out) Try.underlying25 rfl (by kernel_rfl)) rfl ?_
        exact ⟨by first | rfl | (simp [errW_none, errW_some] <;> rfl) | (simp [*, errW_none, errW_some] <;> rfl), by repeat (first | (with_reducible first | exact HB.out | apply below_alloc | apply pw_below_drewN | apply below_drew1 | refine below_set ?_ GE616.out | refine below_set ?_ GE617.out | refine below_set ?_ GE627.out) | exact HB.out)⟩
      ·rw [if_neg c18] at H
       exact absurd H (by simp)
     ·rw [if_neg c17] at H
      have c17b0 : decide (x7_1 < (l1.length : Int)) = false := decide_eq_false c17
      clear c17
      simp only [Option.some.injEq, Prod.mk.injEq] at H
      obtain ⟨rfl, rfl, rfl, rfl, rfl, rfl, rfl, rfl⟩ := H
      have hnb51 := NB616_617.out
      have hnc51 := NB617_616.out
      have hcz52_0 : wr.cell? ⟨gb616, 0, none⟩ = some (.bool x617000_1) := (blk_cell BK616.out 0).trans rfl
      have hcz52_1 : wr.cell? ⟨gb616, 1, none⟩ = some (.bool x617001_1) := (blk_cell BK616.out 1).trans rfl
      have hcz52_2 : wr.cell? ⟨gb616, 2, none⟩ = some (.bool x617002_1) := (blk_cell BK616.out 2).trans rfl
      have hcz52_3 : wr.cell? ⟨gb616, 3, none⟩ = some (.bool x617003_1) := (blk_cell BK616.out 3).trans rfl
      have hcz52_4 : wr.cell? ⟨gb616, 4, none⟩ = some (.bool x617004_1) := (blk_cell BK616.out 4).trans rfl
      have hcz52_5 : wr.cell? ⟨gb616, 5, none⟩ = some (.int .i64 x617005_1) := (blk_cell BK616.out 5).trans rfl
      have hfz52_0 := blk_frozen BK616.out 0
      have hfz52_1 := blk_frozen BK616.out 1
      have hfz52_2 := blk_frozen BK616.out 2
      have hfz52_3 := blk_frozen BK616.out 3
      have hfz52_4 := blk_frozen BK616.out 4
      have hfz52_5 := blk_frozen BK616.out 5
      have hcz53_0 : wr.cell? ⟨gb617, 0, none⟩ = some (.bool x618000_1) := (blk_cell BK617.out 0).trans rfl
      have hcz53_1 : wr.cell? ⟨gb617, 1, none⟩ = some (.bool x618001_1) := (blk_cell BK617.out 1).trans rfl
      have hcz53_2 : wr.cell? ⟨gb617, 2, none⟩ = some (.bool x618002_1) := (blk_cell BK617.out 2).trans rfl
      have hcz53_3 : wr.cell? ⟨gb617, 3, none⟩ = some (.bool x618003_1) := (blk_cell BK617.out 3).trans rfl
      have hcz53_4 : wr.cell? ⟨gb617, 4, none⟩ = some (.bool x618004_1) := (blk_cell BK617.out 4).trans rfl
      have hcz53_5 : wr.cell? ⟨gb617, 5, none⟩ = some (.int .i64 x618005_1) := (blk_cell BK617.out 5).trans rfl
      have hfz53_0 := blk_frozen BK617.out 0
      have hfz53_1 := blk_frozen BK617.out 1
      have hfz53_2 := blk_frozen BK617.out 2
      have hfz53_3 := blk_frozen BK617.out 3
      have hfz53_4 := blk_frozen BK617.out 4
      have hfz53_5 := blk_frozen BK617.out 5
      go_wp2
      refine bodyPost_ret (results_ctt rfl _ _ gb617 25 #[.bool x617000_1, .bool x617001_1, .bool x617002_1, .bool x617003_1, .bool x617004_1, .int .i64 x617005_1] (0, 0) _ rfl (by (with_reducible repeat (first | refine blk_drewN ?_ _ | refine blk_drew ?_ | refine blk_alloc ?_ _)); refine blk_put (cs := #[.bool x617000_1, .bool x617001_1, .bool x617002_1, .bool x617003_1, .bool x617004_1, .int .i64 x618005_1]) ?_ 5 _ rfl; (with_reducible repeat (first | refine blk_drewN ?_ _ | refine blk_drew ?_ | refine blk_alloc ?_ _)); refine blk_put (cs := #[.bool x617000_1, .bool x617001_1, .bool x617002_1, .bool x617003_1, .bool x618004_1, .int .i64 x618005_1]) ?_ 4 _ rfl; (with_reducible repeat (first | refine blk_drewN ?_ _ | refine blk_drew ?_ | refine blk_alloc ?_ _)); refine blk_put (cs := #[.bool x617000_1, .bool x617001_1, .bool x617002_1, .bool x618003_1, .bool x618004_1, .int .i64 x618005_1]) ?_ 3 _ rfl; (with_reducible repeat (first | refine blk_drewN ?_ _ | refine blk_drew ?_ | refine blk_alloc ?_ _)); refine blk_put (cs := #[.bool x617000_1, .bool x617001_1, .bool x618002_1, .bool x618003_1, .bool x618004_1, .int .i64 x618005_1]) ?_ 2 _ rfl; (with_reducible repeat (first | refine blk_drewN ?_ _ | refine blk_drew ?_ | refine blk_alloc ?_ _)); refine blk_put (cs := #[.bool x617000_1, .bool x618001_1, .bool x618002_1, .bool x618003_1, .bool x618004_1, .int .i64 x618005_1]) ?_ 1 _ rfl; (with_reducible repeat (first | refine blk_drewN ?_ _ | refine blk_drew ?_ | refine blk_alloc ?_ _)); refine blk_put (cs := #[.bool x618000_1, .bool x618001_1, .bool x618002_1, .bool x618003_1, .bool x618004_1, .int .i64 x618005_1]) ?_ 0 _ rfl; (with_reducible repeat (first | refine blk_drewN ?_ _ | refine blk_drew ?_ | refine blk_alloc ?_ _)); exact BK617.out) Try.underlying25 rfl (by kernel_rfl)) rfl ?_
      exact ⟨by first | rfl | (simp [errW_none, errW_some] <;> rfl) | (simp [*, errW_none, errW_some] <;> rfl), by repeat (first | (with_reducible first | exact HB.out | apply below_alloc | apply pw_below_drewN | apply below_drew1 | refine below_set ?_ GE616.out | refine below_set ?_ GE617.out) | exact HB.out)⟩
 ·replace c4 := Bool.eq_false_iff.mpr c4
  subst c4
  have H1 : (some (false, false, false, false, false, 0, 0, 1)) = some (r1, r2, r3, r4, r5, r6, r7, r8) := by rw [if_neg (show ¬ (false = true) by decide)] at H; exact H
  clear H
  have H := H1
  clear H1
  simp only [Option.some.injEq, Prod.mk.injEq] at H
  obtain ⟨rfl, rfl, rfl, rfl, rfl, rfl, rfl, rfl⟩ := H
  go_enter Try.func39, Try.ntmps39
  go_wp2_with (first | ((with_reducible refine gate_dst (N := 2) rfl ?_); refine box_event ?hg (N := 2) ?hd (cs := #[.bool a0_0, .bool a0_1, .bool a0_2, .bool a0_3, .bool a0_4, .int .i64 a0_5]) (t := 25) ?hr ?_; (case hd => rfl); (case hg => rfl); (case hr => first | (go_simp; done) | (go_simp; rfl)); intro gb616 hg w54 hbox hb; have n0_ := Aside0.mk (below_step (by repeat (first | (with_reducible first | exact HB.out | apply below_alloc | apply pw_below_drewN | apply below_drew1) | exact HB.out)) hb); have n1_ := Aside0.mk (hbox); have n2_ := Aside0.mk ((by rw [hg]; exact (below_size (by repeat (first | (with_reducible first | exact HB.out | apply below_alloc | apply pw_below_drewN | apply below_drew1) | exact HB.out))) : w.heap.size ≤ gb616)); have n3_ := Aside0.mk ((by rw [hg]; exact (below_size (by repeat (first | (with_reducible first | exact HB.out | apply below_alloc | apply pw_below_drewN | apply below_drew1) | exact HB.out))) : w.heap.size ≤ gb616)); clear HB; have HB := n0_; have BK616 := n1_; have GW616 := n2_; have GE616 := n3_; clear n0_ n1_ n2_ n3_; clear hb hbox hg) | ((with_reducible refine gate_dst (N := 4) rfl ?_); refine box_event ?hg (N := 4) ?hd (cs := #[.bool false, .bool false, .bool false, .bool false, .bool false, .int .i64 0]) (t := 25) ?hr ?_; (case hd => rfl); (case hg => rfl); (case hr => first | (go_simp; done) | (go_simp; rfl)); intro gb617 hg w55 hbox hb; have n0_ := Aside0.mk (blk_below (g := gb616) (o := .cells #[.bool a0_0, .bool a0_1, .bool a0_2, .bool a0_3, .bool a0_4, .int .i64 a0_5] 25 (0, 0)) (by (with_reducible repeat (first | refine blk_drewN ?_ _ | refine blk_drew ?_ | refine blk_alloc ?_ _)); exact BK616.out) hb); have n1_ := Aside0.mk (below_step (by repeat (first | (with_reducible first | exact HB.out | apply below_alloc | apply pw_below_drewN | apply below_drew1 | refine below_set ?_ GE616.out) | exact HB.out)) hb); have n2_ := Aside0.mk (hbox); have n3_ := Aside0.mk ((by rw [hg]; exact (below_size (by repeat (first | (with_reducible first | exact HB.out | apply below_alloc | apply pw_below_drewN | apply below_drew1 | refine below_set ?_ GE616.out) | exact HB.out))) : w.heap.size ≤ gb617)); have n4_ := Aside0.mk ((by rw [hg]; exact (below_size (by repeat (first | (with_reducible first | exact HB.out | apply below_alloc | apply pw_below_drewN | apply below_drew1 | refine below_set ?_ GE616.out) | exact HB.out))) : w.heap.size ≤ gb617)); have n5_ := Aside0.mk ((by rw [hg]; exact Nat.ne_of_lt (blk_lt (g := gb616) (o := .cells #[.bool a0_0, .bool a0_1, .bool a0_2, .bool a0_3, .bool a0_4, .int .i64 a0_5] 25 (0, 0)) (by (with_reducible repeat (first | refine blk_drewN ?_ _ | refine blk_drew ?_ | refine blk_alloc ?_ _)); exact BK616.out)) : gb616 ≠ gb617)); have n6_ := Aside0.mk ((by rw [hg]; exact Nat.ne_of_gt (blk_lt (g := gb616) (o := .cells #[.bool a0_0, .bool a0_1, .bool a0_2, .bool a0_3, .bool a0_4, .int .i64 a0_5] 25 (0, 0)) (by (with_reducible repeat (first | refine blk_drewN ?_ _ | refine blk_drew ?_ | refine blk_alloc ?_ _)); exact BK616.out)) : gb617 ≠ gb616)); clear BK616; clear HB; have BK616 := n0_; have HB := n1_; have BK617 := n2_; have GW617 := n3_; have GE617 := n4_; have NB616_617 := n5_; have NB617_616 := n6_; clear n0_ n1_ n2_ n3_ n4_ n5_ n6_; clear hb hbox hg; have hnb56 := NB616_617.out; have hnc56 := NB617_616.out; have hcz57_0 : w55.cell? ⟨gb616, 0, none⟩ = some (.bool a0_0) := (blk_cell BK616.out 0).trans rfl; have hcz57_1 : w55.cell? ⟨gb616, 1, none⟩ = some (.bool a0_1) := (blk_cell BK616.out 1).trans rfl; have hcz57_2 : w55.cell? ⟨gb616, 2, none⟩ = some (.bool a0_2) := (blk_cell BK616.out 2).trans rfl; have hcz57_3 : w55.cell? ⟨gb616, 3, none⟩ = some (.bool a0_3) := (blk_cell BK616.out 3).trans rfl; have hcz57_4 : w55.cell? ⟨gb616, 4, none⟩ = some (.bool a0_4) := (blk_cell BK616.out 4).trans rfl; have hcz57_5 : w55.cell? ⟨gb616, 5, none⟩ = some (.int .i64 a0_5) := (blk_cell BK616.out 5).trans rfl; have hfz57_0 := blk_frozen BK616.out 0; have hfz57_1 := blk_frozen BK616.out 1; have hfz57_2 := blk_frozen BK616.out 2; have hfz57_3 := blk_frozen BK616.out 3; have hfz57_4 := blk_frozen BK616.out 4; have hfz57_5 := blk_frozen BK616.out 5) | ((with_reducible refine at_fn (f := 14) rfl ?_); refine goesL_ (some 11) rfl rfl Try.func14 (by kernel_rfl) rfl #[.agg #[.bool a0_0, .bool a0_1, .bool a0_2, .bool a0_3, .bool a0_4, .int .i64 a0_5]] rfl (by (try simp only [List.map_toArray, List.map_cons, List.map_nil]); first | done | rfl | (simp only [List.length_drop, List.length_take]; rfl)) ?_; (with_reducible refine (spec_IsSound.calls a0_0 a0_1 a0_2 a0_3 a0_4 a0_5 false _ A3.out).mono ?_); rintro e w58 ⟨rfl, hb⟩; refine ⟨_, rfl, ?_⟩; have n0_ := Aside0.mk (blk_below (g := gb616) (o := .cells #[.bool a0_0, .bool a0_1, .bool a0_2, .bool a0_3, .bool a0_4, .int .i64 a0_5] 25 (0, 0)) (by (with_reducible repeat (first | refine blk_drewN ?_ _ | refine blk_drew ?_ | refine blk_alloc ?_ _)); exact BK616.out) hb); have n1_ := Aside0.mk (blk_below (g := gb617) (o := .cells #[.bool false, .bool false, .bool false, .bool false, .bool false, .int .i64 0] 25 (0, 0)) (by (with_reducible repeat (first | refine blk_drewN ?_ _ | refine blk_drew ?_ | refine blk_alloc ?_ _)); exact BK617.out) hb); have n2_ := Aside0.mk (below_step (by repeat (first | (with_reducible first | exact HB.out | apply below_alloc | apply pw_below_drewN | apply below_drew1 | refine below_set ?_ GE616.out | refine below_set ?_ GE617.out) | exact HB.out)) hb); clear BK616; clear BK617; clear HB; have BK616 := n0_; have BK617 := n1_; have HB := n2_; clear n0_ n1_ n2_; (try clear hb); (try clear hb2); (try clear hk); (try clear hi); have hcz59_0 : w58.cell? ⟨gb617, 0, none⟩ = some (.bool false) := (blk_cell BK617.out 0).trans rfl; have hcz59_1 : w58.cell? ⟨gb617, 1, none⟩ = some (.bool false) := (blk_cell BK617.out 1).trans rfl; have hcz59_2 : w58.cell? ⟨gb617, 2, none⟩ = some (.bool false) := (blk_cell BK617.out 2).trans rfl; have hcz59_3 : w58.cell? ⟨gb617, 3, none⟩ = some (.bool false) := (blk_cell BK617.out 3).trans rfl; have hcz59_4 : w58.cell? ⟨gb617, 4, none⟩ = some (.bool false) := (blk_cell BK617.out 4).trans rfl; have hcz59_5 : w58.cell? ⟨gb617, 5, none⟩ = some (.int .i64 0) := (blk_cell BK617.out 5).trans rfl; have hfz59_0 := blk_frozen BK617.out 0; have hfz59_1 := blk_frozen BK617.out 1; have hfz59_2 := blk_frozen BK617.out 2; have hfz59_3 := blk_frozen BK617.out 3; have hfz59_4 := blk_frozen BK617.out 4; have hfz59_5 := blk_frozen BK617.out 5))
  refine bodyPost_ret (results_ctt rfl _ _ gb617 25 #[.bool false, .bool false, .bool false, .bool false, .bool false, .int .i64 0] (0, 0) _ rfl (by (with_reducible repeat (first | refine blk_drewN ?_ _ | refine blk_drew ?_ | refine blk_alloc ?_ _)); refine blk_put (cs := #[.bool false, .bool false, .bool false, .bool false, .bool false, .int .i64 0]) ?_ 5 _ rfl; (with_reducible repeat (first | refine blk_drewN ?_ _ | refine blk_drew ?_ | refine blk_alloc ?_ _)); refine blk_put (cs := #[.bool false, .bool false, .bool false, .bool false, .bool false, .int .i64 0]) ?_ 4 _ rfl; (with_reducible repeat (first | refine blk_drewN ?_ _ | refine blk_drew ?_ | refine blk_alloc ?_ _)); refine blk_put (cs := #[.bool false, .bool false, .bool false, .bool false, .bool false, .int .i64 0]) ?_ 3 _ rfl; (with_reducible repeat (first | refine blk_drewN ?_ _ | refine blk_drew ?_ | refine blk_alloc ?_ _)); refine blk_put (cs := #[.bool false, .bool false, .bool false, .bool false, .bool false, .int .i64 0]) ?_ 2 _ rfl; (with_reducible repeat (first | refine blk_drewN ?_ _ | refine blk_drew ?_ | refine blk_alloc ?_ _)); refine blk_put (cs := #[.bool false, .bool false, .bool false, .bool false, .bool false, .int .i64 0]) ?_ 1 _ rfl; (with_reducible repeat (first | refine blk_drewN ?_ _ | refine blk_drew ?_ | refine blk_alloc ?_ _)); refine blk_put (cs := #[.bool false, .bool false, .bool false, .bool false, .bool false, .int .i64 0]) ?_ 0 _ rfl; (with_reducible repeat (first | refine blk_drewN ?_ _ | refine blk_drew ?_ | refine blk_alloc ?_ _)); exact BK617.out) Try.underlying25 rfl (by kernel_rfl)) rfl ?_
  exact ⟨by first | rfl | (simp [errW_none, errW_some] <;> rfl) | (simp [*, errW_none, errW_some] <;> rfl), by repeat (first | (with_reducible first | exact HB.out | apply below_alloc | apply pw_below_drewN | apply below_drew1 | refine below_set ?_ GE616.out | refine below_set ?_ GE617.out) | exact HB.out)⟩


end Go.Proofs.Ytapcjchgcppanaa.Pall
