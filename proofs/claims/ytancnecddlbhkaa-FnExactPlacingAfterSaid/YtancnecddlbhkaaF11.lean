/- Go functions of the program, each as a Lean function, and the proof that each call comes to what the Lean function tells; no condition beyond those that stand there. -/
import Derived.Test.YtancnecddlbhkaaF0e
import Derived.Test.YtancnecddlbhkaaF01
import Derived.Test.YtancnecddlbhkaaSq
import Derived.Test.YtancnecddlbhkaaWLast
import Derived.Test.YtancnecddlbhkaaWTab
import Derived.Test.YtancnecddlbhkaaSpare
import Derived.Test.YtancnecddlbhkaaCm
import Derived.Test.YtancnecddlbhkaaCm3
import Derived.Test.YtancnecddlbhkaaCm6
import Derived.StillTailTactics
import Derived.IntWalk
import Derived.Lib.Hide
namespace Go.Proofs.Ytancnecddlbhkaa.Pall
open Go.RowKit Go.Proofs.YtancnecddlbhkaaW.PrintWords Go.Proofs.YtancnecddlbhkaaW.PrintLast
set_option linter.unusedVariables false
set_option linter.unusedSimpArgs false

/-! ### laws_intactDemandS: function 63 -/
def laws_intactDemandS.f (k : Nat) (l0 : List S98) (l1 : List S98) : Option Bool := if l0.length = l1.length then laws_eqDemandS.f k (full l0) (full l1) else none
theorem laws_intactDemandS.mono : ∀ a0 a1 k, LeO (laws_intactDemandS.f k a0 a1) (laws_intactDemandS.f (k + 1) a0 a1) := by
 intro a0 a1 k; unfold laws_intactDemandS.f
 exact LeO.ite (laws_eqDemandS.mono _ _ _) (LeO.none _)
set_option maxHeartbeats 1000000 in
set_option maxRecDepth 100000 in
theorem laws_intactDemandS.calls (k : Nat) (A0 : Option Addr) (c0 : Nat) (l0 : List S98) (A1 : Option Addr) (c1 : Nat) (l1 : List S98) (r : Bool) (w : World) (hr0 : Kd.C k98 w A0 (full l0).length (full l0)) (hc0 : (full l0).length ≤ c0) (hr1 : Kd.C k98 w A1 (full l1).length (full l1)) (hc1 : (full l1).length ≤ c1) (h : laws_intactDemandS.f k l0 l1 = some r) :
  Calls Try.prog 63 #[.slice A0 l0.length c0, .slice A1 l1.length c1] w fun e w' => e = .returned (.bool r) ∧ Below w.heap.size w w' := by
 unfold laws_intactDemandS.f at h
 by_cases he : l0.length = l1.length
 rotate_left
 ·rw [if_neg he] at h; exact absurd h (by simp)
 rw [if_pos he] at h; have hm1 : (full l1).length ≤ 9223372036854775807 := hr1.2.1; have ef0 : (full l0).length = (full l1).length := by rw [full_length, full_length, he]
 have hk : ((l1.length : Int) + (roomN l1.length : Int)) = ((full l1).length : Int) := by rw [full_length]; omega
 obtain ⟨i0, hi0, _, _, _⟩ := info_parts info98; have hq0 := cut_cap (P := Try.prog) 30 98 .i64 Try.underlying30 hi0 A0 l0.length c0 ((full l1).length : Int) (by omega) (by omega); have hq1 := cut_cap (P := Try.prog) 30 98 .i64 Try.underlying30 hi0 A1 l1.length c1 ((full l1).length : Int) (by omega) (by omega); have hw : IntKind.i64.wrap ((l1.length : Int) + (roomN l1.length : Int)) = ((full l1).length : Int) := by rw [hk]; exact IntWalk.i64_in _ (by omega)
 have heq : ((l0.length : Int) == (l1.length : Int)) = true := by rw [he]; simp
 have heq2 : (l0.length == l1.length) = true := by rw [he]; simp
 rw [Int.toNat_natCast] at hq0 hq1; have HE := ak ef0; clear hk ef0 he hi0; go_enter Try.func63, Try.ntmps63; go_wp2_with fail
 refine (laws_roomBehind.calls _ _ _ (room_f _)).mono ?_; rintro e w' ⟨rfl, ⟨nd, rfl⟩⟩; go_wp2_with fail
 go_still_tail 12, (by kernel_rfl)
 change wpList _ _ _ _ _ ((w.drewN nd).drew)
 have hE := laws_eqDemandS.calls k A0 c0 (full l0) A1 c1 (full l1) r ((w.drewN nd).drew) (Kd.C_drew (Kd.C_drewN hr0 nd)) hc0 (Kd.C_drew (Kd.C_drewN hr1 nd)) hc1 h; rw [HE.out] at hE; have HH := Lib.hid hE; clear hE; go_wp2_with fail
 refine HH.out.mono ?_; rintro e w' ⟨rfl, hb⟩; go_wp2_with fail
 go_ret
 exact ⟨rfl, below_step (by repeat (first | exact Below.refl _ _ | apply below_drew1 | apply pw_below_drewN)) hb⟩

/-! ### laws_eqArea: function 126 -/
def laws_eqArea.f (a0_0 : Int) (a0_1 : Int) (a0_2 : Int) (a0_3 : Int) (a0_4 : Int) (a1_0 : Int) (a1_1 : Int) (a1_2 : Int) (a1_3 : Int) (a1_4 : Int) : Option (Bool) := if a0_0 = a1_0 then (if a0_1 = a1_1 then (if a0_2 = a1_2 then (if a0_3 = a1_3 then (if a0_4 = a1_4 then (some true) else (some false)) else (some false)) else (some false)) else (some false)) else (some false)
set_option maxHeartbeats 8000000 in
set_option maxRecDepth 100000 in
theorem laws_eqArea.calls (a0_0 : Int) (a0_1 : Int) (a0_2 : Int) (a0_3 : Int) (a0_4 : Int) (a1_0 : Int) (a1_1 : Int) (a1_2 : Int) (a1_3 : Int) (a1_4 : Int) (r : Bool) (w : World) (h : laws_eqArea.f a0_0 a0_1 a0_2 a0_3 a0_4 a1_0 a1_1 a1_2 a1_3 a1_4 = some r) :
  Calls Try.prog 126 #[.agg #[.int .i64 a0_0, .int .i64 a0_1, .int .i64 a0_2, .int .i64 a0_3, .int .i64 a0_4], .agg #[.int .i64 a1_0, .int .i64 a1_1, .int .i64 a1_2, .int .i64 a1_3, .int .i64 a1_4]] w fun e w' => e = .returned (.bool r) ∧ Below w.heap.size w w' := by
 have hu103 := Try.underlying103; have HB := ak (Below.refl w.heap.size w); unfold laws_eqArea.f at h; have H := h; clear h; by_cases c3 : a0_0 = a1_0
 rw [if_pos c3] at H; obtain ⟨c3b0, c3b1⟩ := bqt c3; clear c3; by_cases c4 : a0_1 = a1_1
 rw [if_pos c4] at H; obtain ⟨c4b0, c4b1⟩ := bqt c4; clear c4; by_cases c5 : a0_2 = a1_2
 rw [if_pos c5] at H; obtain ⟨c5b0, c5b1⟩ := bqt c5; clear c5; by_cases c6 : a0_3 = a1_3
 rw [if_pos c6] at H; obtain ⟨c6b0, c6b1⟩ := bqt c6; clear c6; by_cases c7 : a0_4 = a1_4
 rw [if_pos c7] at H; obtain ⟨c7b0, c7b1⟩ := bqt c7; clear c7; obtain rfl := sj H; rotate_left
 rw [if_neg c7] at H; obtain ⟨c7b0, c7b1⟩ := bqf c7; obtain rfl := sj H; rotate_left
 rw [if_neg c6] at H; obtain ⟨c6b0, c6b1⟩ := bqf c6; obtain rfl := sj H; rotate_left
 rw [if_neg c5] at H; obtain ⟨c5b0, c5b1⟩ := bqf c5; obtain rfl := sj H; rotate_left
 rw [if_neg c4] at H; obtain ⟨c4b0, c4b1⟩ := bqf c4; obtain rfl := sj H; rotate_left
 rw [if_neg c3] at H; obtain ⟨c3b0, c3b1⟩ := bqf c3; obtain rfl := sj H; rotate_left
 all_goals
  go_enter Try.func126, Try.ntmps126; go_wp2_with (first | ((with_reducible refine gate_dst (N := 2) rfl ?_); refine bx 2 #[.int .i64 a0_0, .int .i64 a0_1, .int .i64 a0_2, .int .i64 a0_3, .int .i64 a0_4] 103 ?_; intro gb408 hg w9 hbox hb; have BK408 := ak hbox; have GW408 := gw hg HB; have GE408 := gw hg HB; replace HB := bs HB hb; clear hb hbox hg) | ((with_reducible refine gate_dst (N := 3) rfl ?_); refine bx 3 #[.int .i64 a1_0, .int .i64 a1_1, .int .i64 a1_2, .int .i64 a1_3, .int .i64 a1_4] 103 ?_; intro gb409 hg w9 hbox hb; have BK409 := ak hbox; have GW409 := gw hg HB; have GE409 := gw hg HB; replace HB := bs HB hb; have NB408_409 := ak ((by rw [hg]; exact Nat.ne_of_lt (blk_lt (vk BK408.out)) : gb408 ≠ gb409)); have NB409_408 := ak ((by rw [hg]; exact Nat.ne_of_gt (blk_lt (vk BK408.out)) : gb409 ≠ gb408)); replace BK408 := kb BK408 hb; clear hb hbox hg; have hnb9 := NB408_409.out; have hnc9 := NB409_408.out; have hcz9 := cz5 BK408.out; have hcz9 := cz5 BK409.out))
  go_ret
  exact ⟨ew, vb HB.out⟩


/-! ### laws_eqAreaS: function 99 -/
def laws_eqAreaS.l0 : Nat → List (S103) → List (S103) → Int → Option (Bool)
 | 0, _, _, _ => none
 | k + 1, x0, x1, x5 => if x5 < (x0.length : Int) then (if 0 ≤ x5 then (if x5 < (x1.length : Int) then ((laws_eqArea.f ((rd_T103 x0 x5).f0) ((rd_T103 x0 x5).f1) ((rd_T103 x0 x5).f2) ((rd_T103 x0 x5).f3) ((rd_T103 x0 x5).f4) ((rd_T103 x1 x5).f0) ((rd_T103 x1 x5).f1) ((rd_T103 x1 x5).f2) ((rd_T103 x1 x5).f3) ((rd_T103 x1 x5).f4)).bind fun t412 => (if t412 = true then (laws_eqAreaS.l0 k x0 x1 (wrap64 (x5 + 1))) else (some false))) else (none)) else (none)) else (some true)
def laws_eqAreaS.f (k : Nat) (l0 : List (S103)) (l1 : List (S103)) : Option (Bool) := if (l0.length : Int) = (l1.length : Int) then (laws_eqAreaS.l0 k l0 l1 0) else (some false)
theorem laws_eqAreaS.mono_l : ∀ k, (∀ y0 y1 y2, LeO (laws_eqAreaS.l0 k y0 y1 y2) (laws_eqAreaS.l0 (k + 1) y0 y1 y2))
 | 0 => fun _ _ _ r h => by simp [laws_eqAreaS.l0] at h
 | k + 1 => by
  have ih0 := laws_eqAreaS.mono_l k
  ·intro y0 y1 y2; unfold laws_eqAreaS.l0
   repeat' (with_reducible first | exact ih0 .. | exact lm | refine LeO.ite ?_ ?_ | refine LeO.bind ?_ (fun _ => ?_))
theorem laws_eqAreaS.mono : ∀ a0 a1 k, LeO (laws_eqAreaS.f k a0 a1) (laws_eqAreaS.f (k + 1) a0 a1) := by
 intro a0 a1 k; have ih0 := laws_eqAreaS.mono_l k; unfold laws_eqAreaS.f
 repeat' (with_reducible first | exact ih0 .. | exact lm | refine LeO.ite ?_ ?_ | refine LeO.bind ?_ (fun _ => ?_))
def laws_eqAreaS.T6 : Bool × List (List Nat × List Nat) := (true, [([], []), ([], []), ([0, 1], [0, 1]), ([2], [2]), ([], []), ([], []), ([4, 5], [4, 5]), ([6], [6]), ([3, 7], [3, 7]), ([8], [8])])
def laws_eqAreaS.B6 : List Nat := [0, 0, 3, 7, 0, 0, 48, 112, 255, 511]
theorem laws_eqAreaS.tab6 : rtab .any (opsOf Try.f99 6) = laws_eqAreaS.T6 := by kernel_rfl
theorem laws_eqAreaS.bits6 : waitsOk laws_eqAreaS.T6.2 laws_eqAreaS.B6 = true := by kernel_rfl
set_option maxHeartbeats 8000000 in
set_option maxRecDepth 100000 in
theorem laws_eqAreaS.calls (k : Nat) (A0 : Option Addr) (c0 : Nat) (l0 : List (S103)) (A1 : Option Addr) (c1 : Nat) (l1 : List (S103)) (r : Bool) (w : World) (hr0 : Kd.C k103 w A0 l0.length l0) (hc0 : l0.length ≤ c0) (hr1 : Kd.C k103 w A1 l1.length l1) (hc1 : l1.length ≤ c1) (h : laws_eqAreaS.f k l0 l1 = some r) :
  Calls Try.prog 99 #[.slice A0 l0.length c0, .slice A1 l1.length c1] w fun e w' => e = .returned (.bool r) ∧ Below w.heap.size w w' := by
 have hu103 := Try.underlying103; have HR0 := ak hr0; have HC0 := ak hc0; clear hr0 hc0; have HR1 := ak hr1; have HC1 := ak hc1; clear hr1 hc1; have HB := ak (Below.refl w.heap.size w); unfold laws_eqAreaS.f at h; have H := h; clear h; by_cases c3 : (l0.length : Int) = (l1.length : Int)
 ·rw [if_pos c3] at H; obtain ⟨c3b0, c3b1⟩ := bqt c3; have c3b2 : (l0.length == l1.length) = true := by first | simpa using c3 | (simp at c3 ⊢; omega)
  clear c3; have H' := ak H; clear H; go_enter Try.func99, Try.ntmps99; go_wp2
  go_loopg [5] k (fun kq v5 w' => ∃ (x5_1 : Int), v5 = .int .i64 x5_1 ∧ Aside0 (laws_eqAreaS.l0 kq l0 l1 x5_1 = some r) ∧ Aside0 (kq ≤ k) ∧ Aside0 (Below w.heap.size w w'))
  case atStart => exact ⟨(0), es, H', ⟨Nat.le_refl _⟩, ⟨vb HB.out⟩⟩
  case round =>
   clear H'; obtain ⟨x5_1, rfl, HA, HK1, HB⟩ := hrel
   cases gk with
   | zero => exact absurd HA.out (by simp [laws_eqAreaS.l0])
   | succ k1 =>
    have H := HA.out; clear HA; simp only [laws_eqAreaS.l0] at H
    by_cases c4 : x5_1 < (l0.length : Int)
    ·rw [if_pos c4] at H; have c4b0 := decide_eq_true c4; clear c4; by_cases c5 : 0 ≤ x5_1
     ·rw [if_pos c5] at H; have c5b0 := decide_eq_true c5; clear c5; by_cases c6 : x5_1 < (l1.length : Int)
      ·rw [if_pos c6] at H; have c6b0 := decide_eq_true c6; clear c6; obtain ⟨t412, A7, H⟩ := bnk H; by_cases c8 : t412 = true
       ·subst c8; rw [if_pos rfl] at H; have H' := ak H; clear H; (try go_wp2)
        replace HB := ak (below_drew1 HB.out); have p410 : 0 ≤ (x5_1 : Int) := od; have q410 : x5_1 < (l0.length : Int) := od; obtain ⟨ad410, e410, hx410_0, hx410_1, hx410_2, hx410_3, hx410_4⟩ := at_T103 HR0.out x5_1 p410 q410; have hw410_4 := hx410_4; have hw410_3 := hx410_3; have hw410_2 := hx410_2; have hw410_1 := hx410_1; have hw410_0 := hx410_0
        cases e410; replace hx410_0 := cb HB.out hx410_0; replace hx410_1 := cb HB.out hx410_1; replace hx410_2 := cb HB.out hx410_2; replace hx410_3 := cb HB.out hx410_3; replace hx410_4 := cb HB.out hx410_4; replace p410 := eq_true p410; replace q410 := eq_true q410; have p411 : 0 ≤ (x5_1 : Int) := od; have q411 : x5_1 < (l1.length : Int) := od; obtain ⟨ad411, e411, hx411_0, hx411_1, hx411_2, hx411_3, hx411_4⟩ := at_T103 HR1.out x5_1 p411 q411; have hw411_4 := hx411_4; have hw411_3 := hx411_3; have hw411_2 := hx411_2; have hw411_1 := hx411_1; have hw411_0 := hx411_0
        cases e411; replace hx411_0 := cb HB.out hx411_0; replace hx411_1 := cb HB.out hx411_1; replace hx411_2 := cb HB.out hx411_2; replace hx411_3 := cb HB.out hx411_3; replace hx411_4 := cb HB.out hx411_4; replace p411 := eq_true p411; replace q411 := eq_true q411; refine start_ (n := 10) (S := fun w' => w'.cell? (ad410.add ((x5_1).toNat * 5)) = some (.int .i64 ((rd_T103 l0 x5_1).f0)) ∧ w'.cell? ⟨(ad410.add ((x5_1).toNat * 5)).block, (ad410.add ((x5_1).toNat * 5)).off + 1, none⟩ = some (.int .i64 ((rd_T103 l0 x5_1).f1)) ∧ w'.cell? ⟨(ad410.add ((x5_1).toNat * 5)).block, (ad410.add ((x5_1).toNat * 5)).off + 2, none⟩ = some (.int .i64 ((rd_T103 l0 x5_1).f2)) ∧ w'.cell? ⟨(ad410.add ((x5_1).toNat * 5)).block, (ad410.add ((x5_1).toNat * 5)).off + 3, none⟩ = some (.int .i64 ((rd_T103 l0 x5_1).f3)) ∧ w'.cell? ⟨(ad410.add ((x5_1).toNat * 5)).block, (ad410.add ((x5_1).toNat * 5)).off + 4, none⟩ = some (.int .i64 ((rd_T103 l0 x5_1).f4)) ∧ w'.cell? (ad411.add ((x5_1).toNat * 5)) = some (.int .i64 ((rd_T103 l1 x5_1).f0)) ∧ w'.cell? ⟨(ad411.add ((x5_1).toNat * 5)).block, (ad411.add ((x5_1).toNat * 5)).off + 1, none⟩ = some (.int .i64 ((rd_T103 l1 x5_1).f1)) ∧ w'.cell? ⟨(ad411.add ((x5_1).toNat * 5)).block, (ad411.add ((x5_1).toNat * 5)).off + 2, none⟩ = some (.int .i64 ((rd_T103 l1 x5_1).f2)) ∧ w'.cell? ⟨(ad411.add ((x5_1).toNat * 5)).block, (ad411.add ((x5_1).toNat * 5)).off + 3, none⟩ = some (.int .i64 ((rd_T103 l1 x5_1).f3)) ∧ w'.cell? ⟨(ad411.add ((x5_1).toNat * 5)).block, (ad411.add ((x5_1).toNat * 5)).off + 4, none⟩ = some (.int .i64 ((rd_T103 l1 x5_1).f4))) (ds := []) (tf 0 10) (by kernel_rfl) rfl rfl ⟨(cb HB.out hw410_0), (cb HB.out hw410_1), (cb HB.out hw410_2), (cb HB.out hw410_3), (cb HB.out hw410_4), (cb HB.out hw411_0), (cb HB.out hw411_1), (cb HB.out hw411_2), (cb HB.out hw411_3), (cb HB.out hw411_4)⟩ (fun hHeld => ?_); refine with_tabW laws_eqAreaS.tab6 laws_eqAreaS.bits6 (fun HT_ HW_ => ?_)
        generalize wr.drew = w9 at HB hx410_0 hx410_1 hx410_2 hx410_3 hx410_4 hx411_0 hx411_1 hx411_2 hx411_3 hx411_4 hHeld ⊢; refine pu_ 0 17 (tf 1 9) rfl rfl ?_; refine pu_ 1 18 (tf 2 8) rfl rfl ?_; refine pu_ 2 19 (tf 3 7) rfl rfl ?_; refine pu_ 4 21 (tM [3, 1, 1, 5]) rfl rfl ?_; refine pu_ 5 22 (tM [3, 1, 2, 4]) rfl rfl ?_; refine pu_ 6 23 (tM [3, 1, 3, 3]) rfl rfl ?_; refine ta10_ 3 20 (tf 7 3) rfl rfl ?_; refine ta10_ 7 24 (tf 8 2) rfl rfl ?_; refine one_ (i := 8) (N := some 25) (tf 9 1) rfl rfl (one_of HT_.out (by kernel_rfl)) (by decide) (fun K hK => ?_); refine goes_ Try.func126 (by kernel_rfl) rfl #[.agg #[.int .i64 ((rd_T103 l0 x5_1).f0), .int .i64 ((rd_T103 l0 x5_1).f1), .int .i64 ((rd_T103 l0 x5_1).f2), .int .i64 ((rd_T103 l0 x5_1).f3), .int .i64 ((rd_T103 l0 x5_1).f4)], .agg #[.int .i64 ((rd_T103 l1 x5_1).f0), .int .i64 ((rd_T103 l1 x5_1).f1), .int .i64 ((rd_T103 l1 x5_1).f2), .int .i64 ((rd_T103 l1 x5_1).f3), .int .i64 ((rd_T103 l1 x5_1).f4)]] (by rfl) rfl rfl (by (try simp only [List.map_toArray, List.map_cons, List.map_nil]); first | done | rfl | (simp only [List.length_drop, List.length_take]; rfl)) ?_; with_reducible refine (laws_eqArea.calls ((rd_T103 l0 x5_1).f0) ((rd_T103 l0 x5_1).f1) ((rd_T103 l0 x5_1).f2) ((rd_T103 l0 x5_1).f3) ((rd_T103 l0 x5_1).f4) ((rd_T103 l1 x5_1).f0) ((rd_T103 l1 x5_1).f1) ((rd_T103 l1 x5_1).f2) ((rd_T103 l1 x5_1).f3) ((rd_T103 l1 x5_1).f4) true _ A7.out).mono ?_
        rintro e w10 ⟨rfl, hb⟩; refine ⟨_, rfl, ?_⟩; replace HB := bs HB hb; (try clear hb)
        (try clear hb2)
        (try clear hk)
        (try clear hi)
        refine hK.out _ _ ⟨(cb HB.out hw410_0), (cb HB.out hw410_1), (cb HB.out hw410_2), (cb HB.out hw410_3), (cb HB.out hw410_4), (cb HB.out hw411_0), (cb HB.out hw411_1), (cb HB.out hw411_2), (cb HB.out hw411_3), (cb HB.out hw411_4)⟩ (fun hHeld => ?_); clear hK K; refine norm_ (a' := ?_) ?_ ?_
        rotate_left
        ·show Act.put _ (some 25) _ = _
         simp only [Act.put, List.setIfInBounds_toArray, List.set_cons_zero, List.set_cons_succ, i64_w, i32_w]
         rfl
        refine pu_ 9 26 (tf 10 0) rfl rfl ?_; refine done_ (done_of HT_.out (by kernel_rfl)) ?_; (try go_wp2)
        go_roundg k1
        case measure => have := HK1.out; omega
        case rel => exact ⟨(wrap64 (x5_1 + 1)), es, H', ⟨by have := HK1.out; omega⟩, ⟨vb HB.out⟩⟩
       ·replace c8 := Bool.eq_false_iff.mpr c8; subst c8; rw [if_neg nf] at H; obtain rfl := sj H; (try go_wp2)
        replace HB := ak (below_drew1 HB.out); have p410 : 0 ≤ (x5_1 : Int) := od; have q410 : x5_1 < (l0.length : Int) := od; obtain ⟨ad410, e410, hx410_0, hx410_1, hx410_2, hx410_3, hx410_4⟩ := at_T103 HR0.out x5_1 p410 q410; have hw410_4 := hx410_4; have hw410_3 := hx410_3; have hw410_2 := hx410_2; have hw410_1 := hx410_1; have hw410_0 := hx410_0
        cases e410; replace hx410_0 := cb HB.out hx410_0; replace hx410_1 := cb HB.out hx410_1; replace hx410_2 := cb HB.out hx410_2; replace hx410_3 := cb HB.out hx410_3; replace hx410_4 := cb HB.out hx410_4; replace p410 := eq_true p410; replace q410 := eq_true q410; have p411 : 0 ≤ (x5_1 : Int) := od; have q411 : x5_1 < (l1.length : Int) := od; obtain ⟨ad411, e411, hx411_0, hx411_1, hx411_2, hx411_3, hx411_4⟩ := at_T103 HR1.out x5_1 p411 q411; have hw411_4 := hx411_4; have hw411_3 := hx411_3; have hw411_2 := hx411_2; have hw411_1 := hx411_1; have hw411_0 := hx411_0
        cases e411; replace hx411_0 := cb HB.out hx411_0; replace hx411_1 := cb HB.out hx411_1; replace hx411_2 := cb HB.out hx411_2; replace hx411_3 := cb HB.out hx411_3; replace hx411_4 := cb HB.out hx411_4; replace p411 := eq_true p411; replace q411 := eq_true q411; refine start_ (n := 10) (S := fun w' => w'.cell? (ad410.add ((x5_1).toNat * 5)) = some (.int .i64 ((rd_T103 l0 x5_1).f0)) ∧ w'.cell? ⟨(ad410.add ((x5_1).toNat * 5)).block, (ad410.add ((x5_1).toNat * 5)).off + 1, none⟩ = some (.int .i64 ((rd_T103 l0 x5_1).f1)) ∧ w'.cell? ⟨(ad410.add ((x5_1).toNat * 5)).block, (ad410.add ((x5_1).toNat * 5)).off + 2, none⟩ = some (.int .i64 ((rd_T103 l0 x5_1).f2)) ∧ w'.cell? ⟨(ad410.add ((x5_1).toNat * 5)).block, (ad410.add ((x5_1).toNat * 5)).off + 3, none⟩ = some (.int .i64 ((rd_T103 l0 x5_1).f3)) ∧ w'.cell? ⟨(ad410.add ((x5_1).toNat * 5)).block, (ad410.add ((x5_1).toNat * 5)).off + 4, none⟩ = some (.int .i64 ((rd_T103 l0 x5_1).f4)) ∧ w'.cell? (ad411.add ((x5_1).toNat * 5)) = some (.int .i64 ((rd_T103 l1 x5_1).f0)) ∧ w'.cell? ⟨(ad411.add ((x5_1).toNat * 5)).block, (ad411.add ((x5_1).toNat * 5)).off + 1, none⟩ = some (.int .i64 ((rd_T103 l1 x5_1).f1)) ∧ w'.cell? ⟨(ad411.add ((x5_1).toNat * 5)).block, (ad411.add ((x5_1).toNat * 5)).off + 2, none⟩ = some (.int .i64 ((rd_T103 l1 x5_1).f2)) ∧ w'.cell? ⟨(ad411.add ((x5_1).toNat * 5)).block, (ad411.add ((x5_1).toNat * 5)).off + 3, none⟩ = some (.int .i64 ((rd_T103 l1 x5_1).f3)) ∧ w'.cell? ⟨(ad411.add ((x5_1).toNat * 5)).block, (ad411.add ((x5_1).toNat * 5)).off + 4, none⟩ = some (.int .i64 ((rd_T103 l1 x5_1).f4))) (ds := []) (tf 0 10) (by kernel_rfl) rfl rfl ⟨(cb HB.out hw410_0), (cb HB.out hw410_1), (cb HB.out hw410_2), (cb HB.out hw410_3), (cb HB.out hw410_4), (cb HB.out hw411_0), (cb HB.out hw411_1), (cb HB.out hw411_2), (cb HB.out hw411_3), (cb HB.out hw411_4)⟩ (fun hHeld => ?_); refine with_tabW laws_eqAreaS.tab6 laws_eqAreaS.bits6 (fun HT_ HW_ => ?_)
        generalize wr.drew = w11 at HB hx410_0 hx410_1 hx410_2 hx410_3 hx410_4 hx411_0 hx411_1 hx411_2 hx411_3 hx411_4 hHeld ⊢; refine pu_ 0 17 (tf 1 9) rfl rfl ?_; refine pu_ 1 18 (tf 2 8) rfl rfl ?_; refine pu_ 2 19 (tf 3 7) rfl rfl ?_; refine pu_ 4 21 (tM [3, 1, 1, 5]) rfl rfl ?_; refine pu_ 5 22 (tM [3, 1, 2, 4]) rfl rfl ?_; refine pu_ 6 23 (tM [3, 1, 3, 3]) rfl rfl ?_; refine ta10_ 3 20 (tf 7 3) rfl rfl ?_; refine ta10_ 7 24 (tf 8 2) rfl rfl ?_; refine one_ (i := 8) (N := some 25) (tf 9 1) rfl rfl (one_of HT_.out (by kernel_rfl)) (by decide) (fun K hK => ?_); refine goes_ Try.func126 (by kernel_rfl) rfl #[.agg #[.int .i64 ((rd_T103 l0 x5_1).f0), .int .i64 ((rd_T103 l0 x5_1).f1), .int .i64 ((rd_T103 l0 x5_1).f2), .int .i64 ((rd_T103 l0 x5_1).f3), .int .i64 ((rd_T103 l0 x5_1).f4)], .agg #[.int .i64 ((rd_T103 l1 x5_1).f0), .int .i64 ((rd_T103 l1 x5_1).f1), .int .i64 ((rd_T103 l1 x5_1).f2), .int .i64 ((rd_T103 l1 x5_1).f3), .int .i64 ((rd_T103 l1 x5_1).f4)]] (by rfl) rfl rfl (by (try simp only [List.map_toArray, List.map_cons, List.map_nil]); first | done | rfl | (simp only [List.length_drop, List.length_take]; rfl)) ?_; with_reducible refine (laws_eqArea.calls ((rd_T103 l0 x5_1).f0) ((rd_T103 l0 x5_1).f1) ((rd_T103 l0 x5_1).f2) ((rd_T103 l0 x5_1).f3) ((rd_T103 l0 x5_1).f4) ((rd_T103 l1 x5_1).f0) ((rd_T103 l1 x5_1).f1) ((rd_T103 l1 x5_1).f2) ((rd_T103 l1 x5_1).f3) ((rd_T103 l1 x5_1).f4) false _ A7.out).mono ?_
        rintro e w12 ⟨rfl, hb⟩; refine ⟨_, rfl, ?_⟩; replace HB := bs HB hb; (try clear hb)
        (try clear hb2)
        (try clear hk)
        (try clear hi)
        refine hK.out _ _ ⟨(cb HB.out hw410_0), (cb HB.out hw410_1), (cb HB.out hw410_2), (cb HB.out hw410_3), (cb HB.out hw410_4), (cb HB.out hw411_0), (cb HB.out hw411_1), (cb HB.out hw411_2), (cb HB.out hw411_3), (cb HB.out hw411_4)⟩ (fun hHeld => ?_); clear hK K; refine norm_ (a' := ?_) ?_ ?_
        rotate_left
        ·show Act.put _ (some 25) _ = _
         simp only [Act.put, List.setIfInBounds_toArray, List.set_cons_zero, List.set_cons_succ, i64_w, i32_w]
         rfl
        refine pu_ 9 26 (tf 10 0) rfl rfl ?_; refine done_ (done_of HT_.out (by kernel_rfl)) ?_; (try go_wp2)
        go_ret
        exact ⟨ew, vb HB.out⟩
      ·exact nO_ c6 H
     ·exact nO_ c5 H
    ·rw [if_neg c4] at H; have c4b0 := decide_eq_false c4; clear c4; obtain rfl := sj H; go_wp2
     go_ret
     exact ⟨ew, vb HB.out⟩
 ·rw [if_neg c3] at H; obtain ⟨c3b0, c3b1⟩ := bqf c3; have c3b2 : (l0.length == l1.length) = false := by first | simpa using c3 | (simp at c3 ⊢; omega)
  obtain rfl := sj H; go_enter Try.func99, Try.ntmps99; go_wp2
  go_ret
  exact ⟨ew, vb HB.out⟩


/-! ### laws_intactAreaS: function 64 -/
def laws_intactAreaS.f (k : Nat) (l0 : List S103) (l1 : List S103) : Option Bool := if l0.length = l1.length then laws_eqAreaS.f k (full l0) (full l1) else none
theorem laws_intactAreaS.mono : ∀ a0 a1 k, LeO (laws_intactAreaS.f k a0 a1) (laws_intactAreaS.f (k + 1) a0 a1) := by
 intro a0 a1 k; unfold laws_intactAreaS.f
 exact LeO.ite (laws_eqAreaS.mono _ _ _) (LeO.none _)
set_option maxHeartbeats 1000000 in
set_option maxRecDepth 100000 in
theorem laws_intactAreaS.calls (k : Nat) (A0 : Option Addr) (c0 : Nat) (l0 : List S103) (A1 : Option Addr) (c1 : Nat) (l1 : List S103) (r : Bool) (w : World) (hr0 : Kd.C k103 w A0 (full l0).length (full l0)) (hc0 : (full l0).length ≤ c0) (hr1 : Kd.C k103 w A1 (full l1).length (full l1)) (hc1 : (full l1).length ≤ c1) (h : laws_intactAreaS.f k l0 l1 = some r) :
  Calls Try.prog 64 #[.slice A0 l0.length c0, .slice A1 l1.length c1] w fun e w' => e = .returned (.bool r) ∧ Below w.heap.size w w' := by
 unfold laws_intactAreaS.f at h
 by_cases he : l0.length = l1.length
 rotate_left
 ·rw [if_neg he] at h; exact absurd h (by simp)
 rw [if_pos he] at h; have hm1 : (full l1).length ≤ 9223372036854775807 := hr1.2.1; have ef0 : (full l0).length = (full l1).length := by rw [full_length, full_length, he]
 have hk : ((l1.length : Int) + (roomN l1.length : Int)) = ((full l1).length : Int) := by rw [full_length]; omega
 obtain ⟨i0, hi0, _, _, _⟩ := info_parts info103; have hq0 := cut_cap (P := Try.prog) 31 103 .i64 Try.underlying31 hi0 A0 l0.length c0 ((full l1).length : Int) (by omega) (by omega); have hq1 := cut_cap (P := Try.prog) 31 103 .i64 Try.underlying31 hi0 A1 l1.length c1 ((full l1).length : Int) (by omega) (by omega); have hw : IntKind.i64.wrap ((l1.length : Int) + (roomN l1.length : Int)) = ((full l1).length : Int) := by rw [hk]; exact IntWalk.i64_in _ (by omega)
 have heq : ((l0.length : Int) == (l1.length : Int)) = true := by rw [he]; simp
 have heq2 : (l0.length == l1.length) = true := by rw [he]; simp
 rw [Int.toNat_natCast] at hq0 hq1; have HE := ak ef0; clear hk ef0 he hi0; go_enter Try.func64, Try.ntmps64; go_wp2_with fail
 refine (laws_roomBehind.calls _ _ _ (room_f _)).mono ?_; rintro e w' ⟨rfl, ⟨nd, rfl⟩⟩; go_wp2_with fail
 go_still_tail 12, (by kernel_rfl)
 change wpList _ _ _ _ _ ((w.drewN nd).drew)
 have hE := laws_eqAreaS.calls k A0 c0 (full l0) A1 c1 (full l1) r ((w.drewN nd).drew) (Kd.C_drew (Kd.C_drewN hr0 nd)) hc0 (Kd.C_drew (Kd.C_drewN hr1 nd)) hc1 h; rw [HE.out] at hE; have HH := Lib.hid hE; clear hE; go_wp2_with fail
 refine HH.out.mono ?_; rintro e w' ⟨rfl, hb⟩; go_wp2_with fail
 go_ret
 exact ⟨rfl, below_step (by repeat (first | exact Below.refl _ _ | apply below_drew1 | apply pw_below_drewN)) hb⟩

/-! ### laws_intactField: function 19 -/
def laws_intactField.f (k : Nat) (l0_0 : List (S98)) (l0_1 : List (S103)) (l0_2 : List Int) (l0_3 : List Int) (l0_4 : List Int) (a0_5 : Int) (l1_0 : List (S98)) (l1_1 : List (S103)) (l1_2 : List Int) (l1_3 : List Int) (l1_4 : List Int) (a1_5 : Int) : Option (Bool) := (laws_intactDemandS.f k l0_0 l1_0).bind fun t425 => (if t425 = true then ((laws_intactAreaS.f k l0_1 l1_1).bind fun t426 => (if t426 = true then ((laws_intactInt64S.f k l0_2 l1_2).bind fun t427 => (if t427 = true then ((laws_intactInt64S.f k l0_3 l1_3).bind fun t428 => (if t428 = true then ((laws_intactInt64S.f k l0_4 l1_4).bind fun t429 => (if t429 = true then (if a0_5 = a1_5 then (some true) else (some false)) else (some false))) else (some false))) else (some false))) else (some false))) else (some false))
theorem laws_intactField.mono : ∀ a0 a1 a2 a3 a4 a5 a6 a7 a8 a9 a10 a11 k, LeO (laws_intactField.f k a0 a1 a2 a3 a4 a5 a6 a7 a8 a9 a10 a11) (laws_intactField.f (k + 1) a0 a1 a2 a3 a4 a5 a6 a7 a8 a9 a10 a11) := by
 intro a0 a1 a2 a3 a4 a5 a6 a7 a8 a9 a10 a11 k; unfold laws_intactField.f
 repeat' (with_reducible first | exact laws_intactAreaS.mono .. | exact laws_intactDemandS.mono .. | exact laws_intactInt64S.mono .. | exact lm | refine LeO.ite ?_ ?_ | refine LeO.bind ?_ (fun _ => ?_))
set_option maxHeartbeats 8000000 in
set_option maxRecDepth 100000 in
theorem laws_intactField.calls (k : Nat) (A0_0 : Option Addr) (c0_0 : Nat) (l0_0 : List (S98)) (A0_1 : Option Addr) (c0_1 : Nat) (l0_1 : List (S103)) (A0_2 : Option Addr) (c0_2 : Nat) (l0_2 : List Int) (A0_3 : Option Addr) (c0_3 : Nat) (l0_3 : List Int) (A0_4 : Option Addr) (c0_4 : Nat) (l0_4 : List Int) (a0_5 : Int) (A1_0 : Option Addr) (c1_0 : Nat) (l1_0 : List (S98)) (A1_1 : Option Addr) (c1_1 : Nat) (l1_1 : List (S103)) (A1_2 : Option Addr) (c1_2 : Nat) (l1_2 : List Int) (A1_3 : Option Addr) (c1_3 : Nat) (l1_3 : List Int) (A1_4 : Option Addr) (c1_4 : Nat) (l1_4 : List Int) (a1_5 : Int) (r : Bool) (w : World) (hr0_0 : Kd.C k98 w A0_0 (full l0_0).length (full l0_0)) (hc0_0 : (full l0_0).length ≤ c0_0) (hr0_1 : Kd.C k103 w A0_1 (full l0_1).length (full l0_1)) (hc0_1 : (full l0_1).length ≤ c0_1) (hr0_2 : Kd.C (Kd.int .i64) w A0_2 (full l0_2).length (full l0_2)) (hc0_2 : (full l0_2).length ≤ c0_2) (hr0_3 : Kd.C (Kd.int .i64) w A0_3 (full l0_3).length (full l0_3)) (hc0_3 : (full l0_3).length ≤ c0_3) (hr0_4 : Kd.C (Kd.int .i64) w A0_4 (full l0_4).length (full l0_4)) (hc0_4 : (full l0_4).length ≤ c0_4) (hr1_0 : Kd.C k98 w A1_0 (full l1_0).length (full l1_0)) (hc1_0 : (full l1_0).length ≤ c1_0) (hr1_1 : Kd.C k103 w A1_1 (full l1_1).length (full l1_1)) (hc1_1 : (full l1_1).length ≤ c1_1) (hr1_2 : Kd.C (Kd.int .i64) w A1_2 (full l1_2).length (full l1_2)) (hc1_2 : (full l1_2).length ≤ c1_2) (hr1_3 : Kd.C (Kd.int .i64) w A1_3 (full l1_3).length (full l1_3)) (hc1_3 : (full l1_3).length ≤ c1_3) (hr1_4 : Kd.C (Kd.int .i64) w A1_4 (full l1_4).length (full l1_4)) (hc1_4 : (full l1_4).length ≤ c1_4) (h : laws_intactField.f k l0_0 l0_1 l0_2 l0_3 l0_4 a0_5 l1_0 l1_1 l1_2 l1_3 l1_4 a1_5 = some r) :
  Calls Try.prog 19 #[.agg (f5 A0_0 l0_0 c0_0 A0_1 l0_1 c0_1 A0_2 l0_2 c0_2 A0_3 l0_3 c0_3 A0_4 l0_4 c0_4 a0_5), .agg (f5 A1_0 l1_0 c1_0 A1_1 l1_1 c1_1 A1_2 l1_2 c1_2 A1_3 l1_3 c1_3 A1_4 l1_4 c1_4 a1_5)] w fun e w' => e = .returned (.bool r) ∧ Below w.heap.size w w' := by
 have hu33 := Try.underlying33; have HR0_0 := ak hr0_0; have HC0_0 := ak hc0_0; clear hr0_0 hc0_0; have HR0_1 := ak hr0_1; have HC0_1 := ak hc0_1; clear hr0_1 hc0_1; have HR0_2 := ak hr0_2; have HC0_2 := ak hc0_2; clear hr0_2 hc0_2; have HR0_3 := ak hr0_3; have HC0_3 := ak hc0_3; clear hr0_3 hc0_3; have HR0_4 := ak hr0_4; have HC0_4 := ak hc0_4; clear hr0_4 hc0_4; have HR1_0 := ak hr1_0; have HC1_0 := ak hc1_0; clear hr1_0 hc1_0; have HR1_1 := ak hr1_1; have HC1_1 := ak hc1_1; clear hr1_1 hc1_1; have HR1_2 := ak hr1_2; have HC1_2 := ak hc1_2; clear hr1_2 hc1_2; have HR1_3 := ak hr1_3; have HC1_3 := ak hc1_3; clear hr1_3 hc1_3; have HR1_4 := ak hr1_4; have HC1_4 := ak hc1_4; clear hr1_4 hc1_4; have HB := ak (Below.refl w.heap.size w); unfold laws_intactField.f at h; have H := h; clear h; obtain ⟨t425, A3, H⟩ := bnk H; by_cases c4 : t425 = true
 subst c4; rw [if_pos rfl] at H; obtain ⟨t426, A5, H⟩ := bnk H; by_cases c6 : t426 = true
 subst c6; rw [if_pos rfl] at H; obtain ⟨t427, A7, H⟩ := bnk H; by_cases c8 : t427 = true
 subst c8; rw [if_pos rfl] at H; obtain ⟨t428, A9, H⟩ := bnk H; by_cases c10 : t428 = true
 subst c10; rw [if_pos rfl] at H; obtain ⟨t429, A11, H⟩ := bnk H; by_cases c12 : t429 = true
 subst c12; rw [if_pos rfl] at H; by_cases c13 : a0_5 = a1_5
 rw [if_pos c13] at H; obtain ⟨c13b0, c13b1⟩ := bqt c13; clear c13; obtain rfl := sj H; rotate_left
 rw [if_neg c13] at H; obtain ⟨c13b0, c13b1⟩ := bqf c13; obtain rfl := sj H; rotate_left
 replace c12 := Bool.eq_false_iff.mpr c12; subst c12; rw [if_neg nf] at H; obtain rfl := sj H; rotate_left
 replace c10 := Bool.eq_false_iff.mpr c10; subst c10; rw [if_neg nf] at H; obtain rfl := sj H; rotate_left
 replace c8 := Bool.eq_false_iff.mpr c8; subst c8; rw [if_neg nf] at H; obtain rfl := sj H; rotate_left
 replace c6 := Bool.eq_false_iff.mpr c6; subst c6; rw [if_neg nf] at H; obtain rfl := sj H; rotate_left
 replace c4 := Bool.eq_false_iff.mpr c4; subst c4; rw [if_neg nf] at H; obtain rfl := sj H; rotate_left
 all_goals
  go_enter Try.func19, Try.ntmps19; go_wp2_with (first | ((with_reducible refine gate_dst (N := 2) rfl ?_); refine bx 2 (f5 A0_0 l0_0 c0_0 A0_1 l0_1 c0_1 A0_2 l0_2 c0_2 A0_3 l0_3 c0_3 A0_4 l0_4 c0_4 a0_5) 33 ?_; intro gb423 hg w9 hbox hb; have BK423 := ak hbox; have GW423 := gw hg HB; have GE423 := gw hg HB; replace HB := bs HB hb; clear hb hbox hg) | ((with_reducible refine gate_dst (N := 3) rfl ?_); refine bx 3 (f5 A1_0 l1_0 c1_0 A1_1 l1_1 c1_1 A1_2 l1_2 c1_2 A1_3 l1_3 c1_3 A1_4 l1_4 c1_4 a1_5) 33 ?_; intro gb424 hg w9 hbox hb; have BK424 := ak hbox; have GW424 := gw hg HB; have GE424 := gw hg HB; replace HB := bs HB hb; have NB423_424 := ak ((by rw [hg]; exact Nat.ne_of_lt (blk_lt (vk BK423.out)) : gb423 ≠ gb424)); have NB424_423 := ak ((by rw [hg]; exact Nat.ne_of_gt (blk_lt (vk BK423.out)) : gb424 ≠ gb423)); replace BK423 := kb BK423 hb; clear hb hbox hg; have hnb9 := NB423_424.out; have hnc9 := NB424_423.out; have hcz9 := cz6 BK423.out; have hcz9 := cz6 BK424.out) | ((with_reducible refine at_fn (f := 63) rfl ?_); refine gl (some 9) Try.func63 #[.slice A0_0 l0_0.length c0_0, .slice A1_0 l1_0.length c1_0] ?_; (with_reducible refine (laws_intactDemandS.calls k _ _ l0_0 _ _ l1_0 _ _ ?_ HC0_0.out ?_ HC1_0.out A3.out).mono ?_); exact vd HR0_0.out HB.out; exact vd HR1_0.out HB.out; rintro e w9 ⟨rfl, hb⟩; refine ⟨_, rfl, ?_⟩; replace BK423 := kb BK423 hb; replace BK424 := kb BK424 hb; replace HB := bs HB hb; (try clear hb); have hcz9 := cz6 BK423.out; have hcz9 := cz6 BK424.out) | ((with_reducible refine at_fn (f := 64) rfl ?_); refine gl (some 15) Try.func64 #[.slice A0_1 l0_1.length c0_1, .slice A1_1 l1_1.length c1_1] ?_; (with_reducible refine (laws_intactAreaS.calls k _ _ l0_1 _ _ l1_1 _ _ ?_ HC0_1.out ?_ HC1_1.out A5.out).mono ?_); exact vd HR0_1.out HB.out; exact vd HR1_1.out HB.out; rintro e w9 ⟨rfl, hb⟩; refine ⟨_, rfl, ?_⟩; replace BK423 := kb BK423 hb; replace BK424 := kb BK424 hb; replace HB := bs HB hb; (try clear hb); have hcz9 := cz6 BK423.out; have hcz9 := cz6 BK424.out) | ((with_reducible refine at_fn (f := 29) rfl ?_); refine gl (some 21) Try.func29 #[.slice A0_2 l0_2.length c0_2, .slice A1_2 l1_2.length c1_2] ?_; (with_reducible refine (laws_intactInt64S.calls k _ _ l0_2 _ _ l1_2 _ _ ?_ HC0_2.out ?_ HC1_2.out A7.out).mono ?_); exact vd HR0_2.out HB.out; exact vd HR1_2.out HB.out; rintro e w' ⟨rfl, ⟨nd, rfl⟩⟩; refine ⟨_, rfl, ?_⟩) | ((with_reducible refine at_fn (f := 29) rfl ?_); refine gl (some 27) Try.func29 #[.slice A0_3 l0_3.length c0_3, .slice A1_3 l1_3.length c1_3] ?_; (with_reducible refine (laws_intactInt64S.calls k _ _ l0_3 _ _ l1_3 _ _ ?_ HC0_3.out ?_ HC1_3.out A9.out).mono ?_); exact vd HR0_3.out (vb HB.out); exact vd HR1_3.out (vb HB.out); rintro e w' ⟨rfl, ⟨nd, rfl⟩⟩; refine ⟨_, rfl, ?_⟩) | ((with_reducible refine at_fn (f := 29) rfl ?_); refine gl (some 33) Try.func29 #[.slice A0_4 l0_4.length c0_4, .slice A1_4 l1_4.length c1_4] ?_; (with_reducible refine (laws_intactInt64S.calls k _ _ l0_4 _ _ l1_4 _ _ ?_ HC0_4.out ?_ HC1_4.out A11.out).mono ?_); exact vd HR0_4.out (vb HB.out); exact vd HR1_4.out (vb HB.out); rintro e w' ⟨rfl, ⟨nd, rfl⟩⟩; refine ⟨_, rfl, ?_⟩))
  go_ret
  exact ⟨ew, vb HB.out⟩


end Go.Proofs.Ytancnecddlbhkaa.Pall
