/- Go functions of the program, each as a Lean function, and the proof that each call comes to what the Lean function tells; no condition beyond those that stand there. -/
import Derived.Test.YtancnecddlbhkaaF00
import Derived.Test.YtancnecddlbhkaaSq
import Derived.Test.YtancnecddlbhkaaWGuard
import Derived.Test.YtancnecddlbhkaaWLast
import Derived.Test.YtancnecddlbhkaaWTab
import Derived.Test.YtancnecddlbhkaaSpare
import Derived.Test.YtancnecddlbhkaaCm
import Derived.Test.YtancnecddlbhkaaCm3
import Derived.Test.YtancnecddlbhkaaCm6
namespace Go.Proofs.Ytancnecddlbhkaa.Pall
open Go.RowKit Go.Proofs.YtancnecddlbhkaaW.PrintWords Go.Proofs.YtancnecddlbhkaaW.PrintLast
set_option linter.unusedVariables false
set_option linter.unusedSimpArgs false

/-! ### spec_l01In: function 65 -/
def spec_l01In.f (a0 : Int) (a1 : Int) (a2 : Int) : Option (Bool) := if a0 ≥ a1 then (some (decide (a0 ≤ a2))) else (some false)
set_option maxHeartbeats 8000000 in
set_option maxRecDepth 100000 in
theorem spec_l01In.calls (a0 : Int) (a1 : Int) (a2 : Int) (r : Bool) (w : World) (h : spec_l01In.f a0 a1 a2 = some r) :
  Calls Try.prog 65 #[.int .i64 a0, .int .i64 a1, .int .i64 a2] w fun e w' => e = .returned (.bool r) ∧ Drawn0 w w' := by
 unfold spec_l01In.f at h; have H := h; clear h; by_cases c4 : a0 ≥ a1
 rw [if_pos c4] at H; have c4b0 := decide_eq_true c4; clear c4; obtain rfl := sj H; rotate_left
 rw [if_neg c4] at H; have c4b0 := decide_eq_false c4; clear c4; obtain rfl := sj H; rotate_left
 all_goals
  go_enter Try.func65, Try.ntmps65; go_wp2
  go_ret
  exact ⟨by first | rfl | (simp; done) | (simp [*]; done), by repeat (first | exact Drawn0.refl _ | apply Drawn0.step)⟩


/-! ### spec_l15Place: function 105 -/
def spec_l15Place.f (a0 : Int) (a1 : Int) : Option (Bool) := (spec_l01In.f a0 0 100000).bind fun t107 => (if t107 = true then ((spec_l01In.f a1 0 100000).bind fun t108 => (some t108)) else (some false))
set_option maxHeartbeats 8000000 in
set_option maxRecDepth 100000 in
theorem spec_l15Place.calls (a0 : Int) (a1 : Int) (r : Bool) (w : World) (h : spec_l15Place.f a0 a1 = some r) :
  Calls Try.prog 105 #[.int .i64 a0, .int .i64 a1] w fun e w' => e = .returned (.bool r) ∧ Drawn0 w w' := by
 unfold spec_l15Place.f at h; have H := h; clear h; obtain ⟨t107, A3, H⟩ := bnk H; by_cases c4 : t107 = true
 subst c4; rw [if_pos rfl] at H; obtain ⟨t108, A5, H⟩ := bnk H; obtain rfl := sj H; rotate_left
 replace c4 := Bool.eq_false_iff.mpr c4; subst c4; rw [if_neg nf] at H; obtain rfl := sj H; rotate_left
 all_goals
  go_enter Try.func105, Try.ntmps105; go_wp2_with (first | ((with_reducible refine at_fn (f := 65) rfl ?_); refine gl (some 6) Try.func65 #[.int .i64 a0, .int .i64 0, .int .i64 100000] ?_; (with_reducible refine (spec_l01In.calls a0 0 100000 _ _ A3.out).mono ?_); rintro e w' ⟨rfl, ⟨nd, rfl⟩⟩; refine ⟨_, rfl, ?_⟩) | (go_at_call 65; (with_reducible refine (spec_l01In.calls a1 0 100000 t108 _ A5.out).mono ?_); rintro e w' ⟨rfl, ⟨nd, rfl⟩⟩))
  go_ret
  exact ⟨by first | rfl | (simp; done) | (simp [*]; done), by repeat (first | exact Drawn0.refl _ | apply Drawn0.step)⟩


/-! ### spec_l16Before: function 130 -/
def spec_l16Before.f (a0_0 : Int) (a0_1 : Int) (a0_2 : Int) (a1_0 : Int) (a1_1 : Int) (a1_2 : Int) : Option (Bool) := if a0_0 < a1_0 then (some true) else (if a0_0 = a1_0 then (some (decide (a0_1 < a1_1))) else (some false))
set_option maxHeartbeats 8000000 in
set_option maxRecDepth 100000 in
theorem spec_l16Before.calls (a0_0 : Int) (a0_1 : Int) (a0_2 : Int) (a1_0 : Int) (a1_1 : Int) (a1_2 : Int) (r : Bool) (w : World) (h : spec_l16Before.f a0_0 a0_1 a0_2 a1_0 a1_1 a1_2 = some r) :
  Calls Try.prog 130 #[.agg #[.int .i64 a0_0, .int .i64 a0_1, .int .i64 a0_2], .agg #[.int .i64 a1_0, .int .i64 a1_1, .int .i64 a1_2]] w fun e w' => e = .returned (.bool r) ∧ Below w.heap.size w w' := by
 have hu98 := Try.underlying98; have HB := ak (Below.refl w.heap.size w); unfold spec_l16Before.f at h; have H := h; clear h; by_cases c3 : a0_0 < a1_0
 rw [if_pos c3] at H; have c3b0 := decide_eq_true c3; clear c3; obtain rfl := sj H; rotate_left
 rw [if_neg c3] at H; have c3b0 := decide_eq_false c3; clear c3; by_cases c9 : a0_0 = a1_0
 rw [if_pos c9] at H; obtain ⟨c9b0, c9b1⟩ := bqt c9; clear c9; obtain rfl := sj H; rotate_left
 rw [if_neg c9] at H; obtain ⟨c9b0, c9b1⟩ := bqf c9; obtain rfl := sj H; rotate_left
 all_goals
  go_enter Try.func130, Try.ntmps130; go_wp2_with (first | ((with_reducible refine gate_dst (N := 2) rfl ?_); refine bx 2 #[.int .i64 a0_0, .int .i64 a0_1, .int .i64 a0_2] 98 ?_; intro gb109 hg w9 hbox hb; have BK109 := ak hbox; have GW109 := gw hg HB; have GE109 := gw hg HB; replace HB := bs HB hb; clear hb hbox hg) | ((with_reducible refine gate_dst (N := 3) rfl ?_); refine bx 3 #[.int .i64 a1_0, .int .i64 a1_1, .int .i64 a1_2] 98 ?_; intro gb110 hg w9 hbox hb; have BK110 := ak hbox; have GW110 := gw hg HB; have GE110 := gw hg HB; replace HB := bs HB hb; have NB109_110 := ak ((by rw [hg]; exact Nat.ne_of_lt (blk_lt (vk BK109.out)) : gb109 ≠ gb110)); have NB110_109 := ak ((by rw [hg]; exact Nat.ne_of_gt (blk_lt (vk BK109.out)) : gb110 ≠ gb109)); replace BK109 := kb BK109 hb; clear hb hbox hg; have hnb9 := NB109_110.out; have hnc9 := NB110_109.out; have hcz9 := cz3 BK109.out; have hcz9 := cz3 BK110.out))
  go_ret
  exact ⟨ew, vb HB.out⟩


/-! ### spec_IsTable: function 106 -/
mutual
def spec_IsTable.l0 : Nat → List (S98) → Int → Option (Bool)
 | 0, _, _ => none
 | k + 1, x0, x3 => if x3 < (x0.length : Int) then (if 0 ≤ x3 then ((spec_l01In.f ((rd_T98 x0 x3).f0) 0 3).bind fun t113 => (if t113 = true then ((spec_l01In.f ((rd_T98 x0 x3).f1) 20 300).bind fun t114 => (if t114 = true then ((spec_l01In.f ((rd_T98 x0 x3).f2) 0 10000).bind fun t115 => (spec_IsTable.j1 k x0 x3 (!t115) ((rd_T98 x0 x3).f0) ((rd_T98 x0 x3).f1) ((rd_T98 x0 x3).f2))) else (spec_IsTable.j1 k x0 x3 true ((rd_T98 x0 x3).f0) ((rd_T98 x0 x3).f1) ((rd_T98 x0 x3).f2)))) else (spec_IsTable.j1 k x0 x3 true ((rd_T98 x0 x3).f0) ((rd_T98 x0 x3).f1) ((rd_T98 x0 x3).f2)))) else (none)) else (some (decide ((x0.length : Int) ≤ 12)))
def spec_IsTable.j1 : Nat → List (S98) → Int → Bool → Int → Int → Int → Option (Bool)
 | 0, _, _, _, _, _, _ => none
 | k + 1, x0, x3, x30, x113000, x113001, x113002 => if x30 = true then (some false) else (if x3 > 0 then (if 0 ≤ (wrap64 (x3 - 1)) then (if (wrap64 (x3 - 1)) < (x0.length : Int) then ((spec_l16Before.f ((rd_T98 x0 (wrap64 (x3 - 1))).f0) ((rd_T98 x0 (wrap64 (x3 - 1))).f1) ((rd_T98 x0 (wrap64 (x3 - 1))).f2) x113000 x113001 x113002).bind fun t117 => (if t117 = true then (if ((rd_T98 x0 (wrap64 (x3 - 1))).f0) = x113000 then (if ((rd_T98 x0 (wrap64 (x3 - 1))).f2) > x113002 then (some false) else (spec_IsTable.l0 k x0 (wrap64 (x3 + 1)))) else (spec_IsTable.l0 k x0 (wrap64 (x3 + 1)))) else (some false))) else (none)) else (none)) else (spec_IsTable.l0 k x0 (wrap64 (x3 + 1))))
end
def spec_IsTable.f (k : Nat) (l0 : List (S98)) : Option (Bool) := spec_IsTable.l0 k l0 0
theorem spec_IsTable.mono_l : ∀ k, (∀ y0 y1, LeO (spec_IsTable.l0 k y0 y1) (spec_IsTable.l0 (k + 1) y0 y1)) ∧ (∀ y0 y1 y2 y3 y4 y5, LeO (spec_IsTable.j1 k y0 y1 y2 y3 y4 y5) (spec_IsTable.j1 (k + 1) y0 y1 y2 y3 y4 y5))
 | 0 => ⟨fun _ _ r h => by simp [spec_IsTable.l0] at h, fun _ _ _ _ _ _ r h => by simp [spec_IsTable.j1] at h⟩
 | k + 1 => by
  obtain ⟨ih0, ih1⟩ := spec_IsTable.mono_l k; refine ⟨?_, ?_⟩
  ·intro y0 y1; unfold spec_IsTable.l0
   repeat' (with_reducible first | exact ih0 .. | exact ih1 .. | exact lm | refine LeO.ite ?_ ?_ | refine LeO.bind ?_ (fun _ => ?_))
  ·intro y0 y1 y2 y3 y4 y5; unfold spec_IsTable.j1
   repeat' (with_reducible first | exact ih0 .. | exact ih1 .. | exact lm | refine LeO.ite ?_ ?_ | refine LeO.bind ?_ (fun _ => ?_))
theorem spec_IsTable.mono : ∀ a0 k, LeO (spec_IsTable.f k a0) (spec_IsTable.f (k + 1) a0) := by
 intro a0 k; obtain ⟨ih0, ih1⟩ := spec_IsTable.mono_l k; unfold spec_IsTable.f
 repeat' (with_reducible first | exact ih0 .. | exact ih1 .. | exact lm | refine LeO.ite ?_ ?_ | refine LeO.bind ?_ (fun _ => ?_))
def spec_IsTable.T7 : Bool × List (List Nat × List Nat) := (true, [([], []), ([0], [0]), ([1], [1]), ([2], [2]), ([2], [2]), ([4, 2], [2, 4]), ([3, 5, 2], [2, 3, 5]), ([6, 2], [2, 6]), ([2], [2]), ([7, 8, 2, 2], [2, 7, 8]), ([9, 2], [2, 9]), ([10, 9, 2], [2, 10]), ([11], [11]), ([11], [11]), ([13, 11], [11, 13]), ([12, 14, 11], [11, 12, 14]), ([15, 11], [11, 15]), ([16, 11], [11, 16]), ([11], [11]), ([18, 11], [11, 18]), ([17, 19, 11], [11, 17, 19]), ([20, 11, 11], [11, 20]), ([21], [21]), ([21], [21]), ([23, 21], [21, 23]), ([22, 24, 21], [21, 22, 24]), ([25, 21], [21, 25]), ([26, 21], [21, 26]), ([21], [21]), ([28, 21], [21, 28]), ([27, 29, 21], [21, 27, 29]), ([21, 30, 11], [11, 21, 30]), ([11, 31, 2], [2, 11, 31]), ([2, 32], [2, 32])])
def spec_IsTable.B7 : List Nat := [0, 1, 3, 7, 7, 23, 63, 127, 7, 511, 1023, 2047, 4095, 4095, 12287, 32767, 65535, 131071, 4095, 266239, 1048575, 2097151, 4194303, 4194303, 12582911, 33554431, 67108863, 134217727, 4194303, 272629759, 1073741823, 2147483647, 4294967295, 8589934591]
theorem spec_IsTable.tab7 : rtab .any (opsOf Try.f106 7) = spec_IsTable.T7 := by kernel_rfl
theorem spec_IsTable.bits7 : waitsOk spec_IsTable.T7.2 spec_IsTable.B7 = true := by kernel_rfl
set_option maxHeartbeats 8000000 in
set_option maxRecDepth 100000 in
theorem spec_IsTable.calls (k : Nat) (A0 : Option Addr) (c0 : Nat) (l0 : List (S98)) (r : Bool) (w : World) (hr0 : Kd.C k98 w A0 l0.length l0) (hc0 : l0.length ≤ c0) (h : spec_IsTable.f k l0 = some r) :
  Calls Try.prog 106 #[.slice A0 l0.length c0] w fun e w' => e = .returned (.bool r) ∧ Below w.heap.size w w' := by
 have hu98 := Try.underlying98; have HR0 := ak hr0; have HC0 := ak hc0; clear hr0 hc0; have HB := ak (Below.refl w.heap.size w); unfold spec_IsTable.f at h; have H := h; clear h; have H' := ak H; clear H; go_enter Try.func106, Try.ntmps106; go_wp2
 go_loopg [3] k (fun kq v3 w' => ∃ (x3_1 : Int), v3 = .int .i64 x3_1 ∧ Aside0 (spec_IsTable.l0 kq l0 x3_1 = some r) ∧ Aside0 (kq ≤ k) ∧ Aside0 (Below w.heap.size w w'))
 case atStart => exact ⟨(0), es, H', ⟨Nat.le_refl _⟩, ⟨vb HB.out⟩⟩
 case round =>
  clear H'; obtain ⟨x3_1, rfl, HA, HK1, HB⟩ := hrel
  cases gk with
  | zero => exact absurd HA.out (by simp [spec_IsTable.l0])
  | succ k1 =>
   have H := HA.out; clear HA; simp only [spec_IsTable.l0] at H
   by_cases c2 : x3_1 < (l0.length : Int)
   ·rw [if_pos c2] at H; have c2b0 := decide_eq_true c2; clear c2; by_cases c3 : 0 ≤ x3_1
    ·rw [if_pos c3] at H; have c3b0 := decide_eq_true c3; clear c3; have HC4 := ak H; clear H; have p111 : 0 ≤ (x3_1 : Int) := od; have q111 : x3_1 < (l0.length : Int) := od; obtain ⟨ad111, e111, hx111_0, hx111_1, hx111_2⟩ := at_T98 HR0.out x3_1 p111 q111
     cases e111; replace hx111_0 := cb HB.out hx111_0; replace hx111_1 := cb HB.out hx111_1; replace hx111_2 := cb HB.out hx111_2; replace p111 := eq_true p111; replace q111 := eq_true q111; go_upto_region 5 with (first | ((with_reducible refine gate_dst (N := 4) rfl ?_); refine bx 4 #[.int .i64 0, .int .i64 0, .int .i64 0] 98 ?_; intro gb112 hg w5 hbox hb; have BK112 := ak hbox; have GW112 := gw hg HB; have GE112 := gw hg HB; replace HB := bs HB hb; clear hb hbox hg; have hcz6 := cz3 BK112.out))
     (try simp only [Act.put, List.setIfInBounds_toArray, List.set_cons_zero, List.set_cons_succ])
     go_cut [30] (fun v30 wc => ∃ (kq : Nat) (x30_3 : Bool), v30 = .bool x30_3 ∧ Aside0 (spec_IsTable.j1 kq l0 x3_1 x30_3 ((rd_T98 l0 x3_1).f0) ((rd_T98 l0 x3_1).f1) ((rd_T98 l0 x3_1).f2) = some r) ∧ Aside0 (kq ≤ k1) ∧ Aside0 (wc.heap[gb112]? = some (.cells #[.int .i64 ((rd_T98 l0 x3_1).f0), .int .i64 ((rd_T98 l0 x3_1).f1), .int .i64 ((rd_T98 l0 x3_1).f2)] 98 (0, 0))) ∧ Aside0 (Below w.heap.size w wc))
     case first =>
      have H := HC4.out; clear HC4; obtain ⟨t113, A7, H⟩ := bnk H; by_cases c8 : t113 = true
      ·subst c8; rw [if_pos rfl] at H; obtain ⟨t114, A9, H⟩ := bnk H; by_cases c10 : t114 = true
       ·subst c10; rw [if_pos rfl] at H; obtain ⟨t115, A11, H⟩ := bnk H; have H' := ak H; clear H; have hcz12 := cz3 BK112.out; go_wp2_with (first | ((with_reducible refine at_fn (f := 65) rfl ?_); refine gl (some 17) Try.func65 #[.int .i64 ((rd_T98 l0 x3_1).f0), .int .i64 0, .int .i64 3] ?_; (with_reducible refine (spec_l01In.calls ((rd_T98 l0 x3_1).f0) 0 3 _ _ A7.out).mono ?_); rintro e w' ⟨rfl, ⟨nd, rfl⟩⟩; refine ⟨_, rfl, ?_⟩) | (go_at_call 65; (with_reducible refine (spec_l01In.calls ((rd_T98 l0 x3_1).f1) 20 300 _ _ A9.out).mono ?_); rintro e w' ⟨rfl, ⟨nd, rfl⟩⟩) | (go_at_call 65; (with_reducible refine (spec_l01In.calls ((rd_T98 l0 x3_1).f2) 0 10000 t115 _ A11.out).mono ?_); rintro e w' ⟨rfl, ⟨nd, rfl⟩⟩))
        go_meet
        case rel => exact ⟨_, (!t115), es, H', ⟨by have := HK1.out; first | omega | exact Nat.le_refl _⟩, ⟨by (with_reducible repeat (first | refine blk_drewN ?_ _ | refine blk_drew ?_ | refine blk_alloc ?_ _)); refine blk_put (cs := #[.int .i64 ((rd_T98 l0 x3_1).f0), .int .i64 ((rd_T98 l0 x3_1).f1), .int .i64 0]) ?_ 2 _ rfl; (with_reducible repeat (first | refine blk_drewN ?_ _ | refine blk_drew ?_ | refine blk_alloc ?_ _)); refine blk_put (cs := #[.int .i64 ((rd_T98 l0 x3_1).f0), .int .i64 0, .int .i64 0]) ?_ 1 _ rfl; (with_reducible repeat (first | refine blk_drewN ?_ _ | refine blk_drew ?_ | refine blk_alloc ?_ _)); refine blk_put (cs := #[.int .i64 0, .int .i64 0, .int .i64 0]) ?_ 0 _ rfl; exact vk BK112.out⟩, ⟨vb HB.out⟩⟩
       ·replace c10 := Bool.eq_false_iff.mpr c10; subst c10; rw [if_neg nf] at H; have H' := ak H; clear H; have hcz13 := cz3 BK112.out; go_wp2_with (first | ((with_reducible refine at_fn (f := 65) rfl ?_); refine gl (some 17) Try.func65 #[.int .i64 ((rd_T98 l0 x3_1).f0), .int .i64 0, .int .i64 3] ?_; (with_reducible refine (spec_l01In.calls ((rd_T98 l0 x3_1).f0) 0 3 _ _ A7.out).mono ?_); rintro e w' ⟨rfl, ⟨nd, rfl⟩⟩; refine ⟨_, rfl, ?_⟩) | (go_at_call 65; (with_reducible refine (spec_l01In.calls ((rd_T98 l0 x3_1).f1) 20 300 _ _ A9.out).mono ?_); rintro e w' ⟨rfl, ⟨nd, rfl⟩⟩))
        go_meet
        case rel => exact ⟨_, (true), es, H', ⟨by have := HK1.out; first | omega | exact Nat.le_refl _⟩, ⟨by (with_reducible repeat (first | refine blk_drewN ?_ _ | refine blk_drew ?_ | refine blk_alloc ?_ _)); refine blk_put (cs := #[.int .i64 ((rd_T98 l0 x3_1).f0), .int .i64 ((rd_T98 l0 x3_1).f1), .int .i64 0]) ?_ 2 _ rfl; (with_reducible repeat (first | refine blk_drewN ?_ _ | refine blk_drew ?_ | refine blk_alloc ?_ _)); refine blk_put (cs := #[.int .i64 ((rd_T98 l0 x3_1).f0), .int .i64 0, .int .i64 0]) ?_ 1 _ rfl; (with_reducible repeat (first | refine blk_drewN ?_ _ | refine blk_drew ?_ | refine blk_alloc ?_ _)); refine blk_put (cs := #[.int .i64 0, .int .i64 0, .int .i64 0]) ?_ 0 _ rfl; exact vk BK112.out⟩, ⟨vb HB.out⟩⟩
      ·replace c8 := Bool.eq_false_iff.mpr c8; subst c8; rw [if_neg nf] at H; have H' := ak H; clear H; have hcz14 := cz3 BK112.out; go_wp2_with (first | ((with_reducible refine at_fn (f := 65) rfl ?_); refine gl (some 17) Try.func65 #[.int .i64 ((rd_T98 l0 x3_1).f0), .int .i64 0, .int .i64 3] ?_; (with_reducible refine (spec_l01In.calls ((rd_T98 l0 x3_1).f0) 0 3 _ _ A7.out).mono ?_); rintro e w' ⟨rfl, ⟨nd, rfl⟩⟩; refine ⟨_, rfl, ?_⟩))
       go_meet
       case rel => exact ⟨_, (true), es, H', ⟨by have := HK1.out; first | omega | exact Nat.le_refl _⟩, ⟨by (with_reducible repeat (first | refine blk_drewN ?_ _ | refine blk_drew ?_ | refine blk_alloc ?_ _)); refine blk_put (cs := #[.int .i64 ((rd_T98 l0 x3_1).f0), .int .i64 ((rd_T98 l0 x3_1).f1), .int .i64 0]) ?_ 2 _ rfl; (with_reducible repeat (first | refine blk_drewN ?_ _ | refine blk_drew ?_ | refine blk_alloc ?_ _)); refine blk_put (cs := #[.int .i64 ((rd_T98 l0 x3_1).f0), .int .i64 0, .int .i64 0]) ?_ 1 _ rfl; (with_reducible repeat (first | refine blk_drewN ?_ _ | refine blk_drew ?_ | refine blk_alloc ?_ _)); refine blk_put (cs := #[.int .i64 0, .int .i64 0, .int .i64 0]) ?_ 0 _ rfl; exact vk BK112.out⟩, ⟨vb HB.out⟩⟩
     case rest =>
      clear HC4; obtain ⟨kq, x30_3, rfl, HA, HJ3, BK112, HB⟩ := hcut
      cases kq with
      | zero => exact absurd HA.out (by simp [spec_IsTable.j1])
      | succ kj3 =>
       have H := HA.out; clear HA; simp only [spec_IsTable.j1] at H
       by_cases c15 : x30_3 = true
       ·subst c15; rw [if_pos rfl] at H; obtain rfl := sj H; go_wp2
        go_ret
        exact ⟨ew, vb HB.out⟩
       ·replace c15 := Bool.eq_false_iff.mpr c15; subst c15; rw [if_neg nf] at H; by_cases c16 : x3_1 > 0
        ·rw [if_pos c16] at H; have c16b0 := decide_eq_true c16; clear c16; obtain ⟨ji17, hji17⟩ : ∃ j_ : Int, (wrap64 (x3_1 - 1)) = j_ := ⟨_, rfl⟩; replace H : (if 0 ≤ (ji17) then (if (ji17) < (l0.length : Int) then ((spec_l16Before.f ((rd_T98 l0 (ji17)).f0) ((rd_T98 l0 (ji17)).f1) ((rd_T98 l0 (ji17)).f2) ((rd_T98 l0 x3_1).f0) ((rd_T98 l0 x3_1).f1) ((rd_T98 l0 x3_1).f2)).bind fun t117 => (if t117 = true then (if ((rd_T98 l0 (ji17)).f0) = ((rd_T98 l0 x3_1).f0) then (if ((rd_T98 l0 (ji17)).f2) > ((rd_T98 l0 x3_1).f2) then (some false) else (spec_IsTable.l0 kj3 l0 (wrap64 (x3_1 + 1)))) else (spec_IsTable.l0 kj3 l0 (wrap64 (x3_1 + 1)))) else (some false))) else (none)) else (none)) = some r := by first | (rw [hji17] at H; exact H) | (simp only [hji17] at H ⊢; exact H)
         have hji17w : (IntKind.i64.wrap (x3_1 - 1)) = ji17 := (i64_w _).trans hji17; by_cases c18 : 0 ≤ (ji17)
         ·rw [if_pos c18] at H; have c18b0 := decide_eq_true c18; clear c18; by_cases c19 : (ji17) < (l0.length : Int)
          ·rw [if_pos c19] at H; have c19b0 := decide_eq_true c19; clear c19; obtain ⟨t117, A20, H⟩ := bnk H; by_cases c21 : t117 = true
           ·subst c21; rw [if_pos rfl] at H; by_cases c22 : ((rd_T98 l0 (ji17)).f0) = ((rd_T98 l0 x3_1).f0)
            ·rw [if_pos c22] at H; have c22b0 : (((rd_T98 l0 (ji17)).f0) == ((rd_T98 l0 x3_1).f0)) = true := beq_iff_eq.mpr c22; have c22b1 : (((rd_T98 l0 (ji17)).f0) != ((rd_T98 l0 x3_1).f0)) = false := bne_eq_false_iff_eq.mpr c22; clear c22; by_cases c23 : ((rd_T98 l0 (ji17)).f2) > ((rd_T98 l0 x3_1).f2)
             ·rw [if_pos c23] at H; have c23b0 := decide_eq_true c23; clear c23; obtain rfl := sj H; (try go_wp2)
              replace BK112 := ak (blk_drew BK112.out); replace HB := ak (below_drew1 HB.out); have p116 : 0 ≤ ((ji17) : Int) := od; have q116 : (ji17) < (l0.length : Int) := od; obtain ⟨ad116, e116, hx116_0, hx116_1, hx116_2⟩ := at_T98 HR0.out (ji17) p116 q116; have hw116_2 := hx116_2; have hw116_1 := hx116_1; have hw116_0 := hx116_0; obtain rfl : ad111 = ad116 := (by injection e116); replace hx116_0 := cb HB.out hx116_0; replace hx116_1 := cb HB.out hx116_1; replace hx116_2 := cb HB.out hx116_2; replace p116 := eq_true p116; replace q116 := eq_true q116; have p118 : 0 ≤ ((ji17) : Int) := od; have q118 : (ji17) < (l0.length : Int) := od; obtain ⟨ad118, e118, hx118_0, hx118_1, hx118_2⟩ := at_T98 HR0.out (ji17) p118 q118; have hw118_2 := hx118_2; have hw118_1 := hx118_1; have hw118_0 := hx118_0; obtain rfl : ad111 = ad118 := (by injection e118); replace hx118_0 := cb HB.out hx118_0; replace hx118_1 := cb HB.out hx118_1; replace hx118_2 := cb HB.out hx118_2; replace p118 := eq_true p118; replace q118 := eq_true q118; have p119 : 0 ≤ ((ji17) : Int) := od; have q119 : (ji17) < (l0.length : Int) := od; obtain ⟨ad119, e119, hx119_0, hx119_1, hx119_2⟩ := at_T98 HR0.out (ji17) p119 q119; have hw119_2 := hx119_2; have hw119_1 := hx119_1; have hw119_0 := hx119_0; obtain rfl : ad111 = ad119 := (by injection e119); replace hx119_0 := cb HB.out hx119_0; replace hx119_1 := cb HB.out hx119_1; replace hx119_2 := cb HB.out hx119_2; replace p119 := eq_true p119; replace q119 := eq_true q119
              refine start_ (n := 34) (S := fun w' => w'.cell? ⟨gb112, 0, none⟩ = some (.int .i64 ((rd_T98 l0 x3_1).f0)) ∧ w'.cell? ⟨gb112, 1, none⟩ = some (.int .i64 ((rd_T98 l0 x3_1).f1)) ∧ w'.cell? ⟨gb112, 2, none⟩ = some (.int .i64 ((rd_T98 l0 x3_1).f2)) ∧ w'.cell? (ad111.add (((ji17)).toNat * 3)) = some (.int .i64 ((rd_T98 l0 (ji17)).f0)) ∧ w'.cell? ⟨(ad111.add (((ji17)).toNat * 3)).block, (ad111.add (((ji17)).toNat * 3)).off + 1, none⟩ = some (.int .i64 ((rd_T98 l0 (ji17)).f1)) ∧ w'.cell? ⟨(ad111.add (((ji17)).toNat * 3)).block, (ad111.add (((ji17)).toNat * 3)).off + 2, none⟩ = some (.int .i64 ((rd_T98 l0 (ji17)).f2)) ∧ w'.cell? (ad111.add (((ji17)).toNat * 3)) = some (.int .i64 ((rd_T98 l0 (ji17)).f0)) ∧ w'.cell? ⟨(ad111.add (((ji17)).toNat * 3)).block, (ad111.add (((ji17)).toNat * 3)).off + 1, none⟩ = some (.int .i64 ((rd_T98 l0 (ji17)).f1)) ∧ w'.cell? ⟨(ad111.add (((ji17)).toNat * 3)).block, (ad111.add (((ji17)).toNat * 3)).off + 2, none⟩ = some (.int .i64 ((rd_T98 l0 (ji17)).f2)) ∧ w'.cell? (ad111.add (((ji17)).toNat * 3)) = some (.int .i64 ((rd_T98 l0 (ji17)).f0)) ∧ w'.cell? ⟨(ad111.add (((ji17)).toNat * 3)).block, (ad111.add (((ji17)).toNat * 3)).off + 1, none⟩ = some (.int .i64 ((rd_T98 l0 (ji17)).f1)) ∧ w'.cell? ⟨(ad111.add (((ji17)).toNat * 3)).block, (ad111.add (((ji17)).toNat * 3)).off + 2, none⟩ = some (.int .i64 ((rd_T98 l0 (ji17)).f2))) (ds := []) (tf 0 34) (by kernel_rfl) rfl rfl ⟨bk BK112.out 0, bk BK112.out 1, bk BK112.out 2, (cb HB.out hw116_0 :), (cb HB.out hw116_1 :), (cb HB.out hw116_2 :), (cb HB.out hw118_0 :), (cb HB.out hw118_1 :), (cb HB.out hw118_2 :), (cb HB.out hw119_0 :), (cb HB.out hw119_1 :), (cb HB.out hw119_2 :)⟩ (fun hHeld => ?_); refine with_tabW spec_IsTable.tab7 spec_IsTable.bits7 (fun HT_ HW_ => ?_)
              generalize wc.drew = w24 at BK112 HB hx116_0 hx116_1 hx116_2 hx118_0 hx118_1 hx118_2 hx119_0 hx119_1 hx119_2 hHeld ⊢; refine pu_ 0 31 (tf 1 33) rfl rfl ?_; refine pu_ 1 32 (tf 2 32) rfl rfl ?_; refine pu_ 2 33 (tf 3 31) rfl rfl ?_; refine pu_ 3 34 (tf 4 30) rfl rfl ?_; refine pu_ 4 35 (tf 5 29) rfl rfl ?_; refine pu_ 5 36 (tf 6 28) rfl rfl ?_; refine pu_ 6 37 (tf 7 27) rfl rfl ?_; refine ta12_ 7 38 (tf 8 26) rfl rfl ?_; refine ta12_ 8 39 (tf 9 25) rfl rfl ?_; refine one_ (i := 9) (N := some 40) (tf 10 24) rfl rfl (one_of HT_.out (by kernel_rfl)) (by decide) (fun K hK => ?_); refine goes_ Try.func130 (by kernel_rfl) rfl #[.agg #[.int .i64 ((rd_T98 l0 (ji17)).f0), .int .i64 ((rd_T98 l0 (ji17)).f1), .int .i64 ((rd_T98 l0 (ji17)).f2)], .agg #[.int .i64 ((rd_T98 l0 x3_1).f0), .int .i64 ((rd_T98 l0 x3_1).f1), .int .i64 ((rd_T98 l0 x3_1).f2)]] (by rfl) rfl rfl (by (try simp only [List.map_toArray, List.map_cons, List.map_nil]); first | done | (simp only [hji17]; rfl) | rfl | (simp only [List.length_drop, List.length_take]; rfl)) ?_; with_reducible refine (spec_l16Before.calls ((rd_T98 l0 (ji17)).f0) ((rd_T98 l0 (ji17)).f1) ((rd_T98 l0 (ji17)).f2) ((rd_T98 l0 x3_1).f0) ((rd_T98 l0 x3_1).f1) ((rd_T98 l0 x3_1).f2) true _ A20.out).mono ?_
              rintro e w25 ⟨rfl, hb⟩; refine ⟨_, rfl, ?_⟩; replace BK112 := kb BK112 hb; replace HB := bs HB hb; (try clear hb)
              (try clear hb2)
              (try clear hk)
              (try clear hi)
              refine hK.out _ _ ⟨bk BK112.out 0, bk BK112.out 1, bk BK112.out 2, (cb HB.out hw116_0 :), (cb HB.out hw116_1 :), (cb HB.out hw116_2 :), (cb HB.out hw118_0 :), (cb HB.out hw118_1 :), (cb HB.out hw118_2 :), (cb HB.out hw119_0 :), (cb HB.out hw119_1 :), (cb HB.out hw119_2 :)⟩ (fun hHeld => ?_); clear hK K; refine norm_ (a' := ?_) ?_ ?_
              rotate_left
              ·show Act.put _ (some 40) _ = _
               simp only [Act.put, List.setIfInBounds_toArray, List.set_cons_zero, List.set_cons_succ, i64_w, i32_w]
               rfl
              refine pu_ 10 41 (tf 11 23) rfl rfl ?_; refine pu_ 11 42 (tf 12 22) rfl rfl ?_; refine pu_ 12 43 (tf 13 21) rfl rfl ?_; refine pu_ 13 44 (tf 14 20) rfl rfl ?_; refine pu_ 14 45 (tf 15 19) rfl rfl ?_; refine pu_ 15 46 (tf 16 18) rfl rfl ?_; refine pu_ 16 47 (tf 17 17) rfl rfl ?_; refine pu_ 18 49 (tM [17, 1, 1, 15]) rfl rfl ?_; refine ta12_ 17 48 (tf 19 15) rfl rfl ?_; refine ta12_ 19 50 (tf 20 14) rfl rfl ?_; refine pu_ 20 51 (tf 21 13) rfl rfl ?_; refine pu_ 21 52 (tf 22 12) rfl rfl ?_; refine pu_ 22 53 (tf 23 11) rfl rfl ?_; refine pu_ 23 54 (tf 24 10) rfl rfl ?_; refine pu_ 24 55 (tf 25 9) rfl rfl ?_; refine pu_ 25 56 (tf 26 8) rfl rfl ?_; refine pu_ 26 57 (tf 27 7) rfl rfl ?_; refine pu_ 28 59 (tM [27, 1, 1, 5]) rfl rfl ?_; refine ta12_ 27 58 (tf 29 5) rfl rfl ?_; refine ta12_ 29 60 (tf 30 4) rfl rfl ?_; refine pu_ 30 61 (tf 31 3) rfl rfl ?_; refine pu_ 31 62 (tf 32 2) rfl rfl ?_; refine pu_ 32 63 (tf 33 1) rfl rfl ?_; refine pu_ 33 64 (tf 34 0) rfl rfl ?_; refine done_ (done_of HT_.out (by kernel_rfl)) ?_; (try go_wp2)
              go_ret
              exact ⟨by first | rfl | (simp [errW_none, errW_some] <;> rfl) | (simp only [← hji17]; first | rfl | (simp [errW_none, errW_some] <;> rfl)) | (simp [*, errW_none, errW_some] <;> rfl), vb HB.out⟩
             ·rw [if_neg c23] at H; have c23b0 := decide_eq_false c23; clear c23; have H' := ak H; clear H; (try go_wp2)
              replace BK112 := ak (blk_drew BK112.out); replace HB := ak (below_drew1 HB.out); have p116 : 0 ≤ ((ji17) : Int) := od; have q116 : (ji17) < (l0.length : Int) := od; obtain ⟨ad116, e116, hx116_0, hx116_1, hx116_2⟩ := at_T98 HR0.out (ji17) p116 q116; have hw116_2 := hx116_2; have hw116_1 := hx116_1; have hw116_0 := hx116_0; obtain rfl : ad111 = ad116 := (by injection e116); replace hx116_0 := cb HB.out hx116_0; replace hx116_1 := cb HB.out hx116_1; replace hx116_2 := cb HB.out hx116_2; replace p116 := eq_true p116; replace q116 := eq_true q116; have p118 : 0 ≤ ((ji17) : Int) := od; have q118 : (ji17) < (l0.length : Int) := od; obtain ⟨ad118, e118, hx118_0, hx118_1, hx118_2⟩ := at_T98 HR0.out (ji17) p118 q118; have hw118_2 := hx118_2; have hw118_1 := hx118_1; have hw118_0 := hx118_0; obtain rfl : ad111 = ad118 := (by injection e118); replace hx118_0 := cb HB.out hx118_0; replace hx118_1 := cb HB.out hx118_1; replace hx118_2 := cb HB.out hx118_2; replace p118 := eq_true p118; replace q118 := eq_true q118; have p119 : 0 ≤ ((ji17) : Int) := od; have q119 : (ji17) < (l0.length : Int) := od; obtain ⟨ad119, e119, hx119_0, hx119_1, hx119_2⟩ := at_T98 HR0.out (ji17) p119 q119; have hw119_2 := hx119_2; have hw119_1 := hx119_1; have hw119_0 := hx119_0; obtain rfl : ad111 = ad119 := (by injection e119); replace hx119_0 := cb HB.out hx119_0; replace hx119_1 := cb HB.out hx119_1; replace hx119_2 := cb HB.out hx119_2; replace p119 := eq_true p119; replace q119 := eq_true q119
              refine start_ (n := 34) (S := fun w' => w'.cell? ⟨gb112, 0, none⟩ = some (.int .i64 ((rd_T98 l0 x3_1).f0)) ∧ w'.cell? ⟨gb112, 1, none⟩ = some (.int .i64 ((rd_T98 l0 x3_1).f1)) ∧ w'.cell? ⟨gb112, 2, none⟩ = some (.int .i64 ((rd_T98 l0 x3_1).f2)) ∧ w'.cell? (ad111.add (((ji17)).toNat * 3)) = some (.int .i64 ((rd_T98 l0 (ji17)).f0)) ∧ w'.cell? ⟨(ad111.add (((ji17)).toNat * 3)).block, (ad111.add (((ji17)).toNat * 3)).off + 1, none⟩ = some (.int .i64 ((rd_T98 l0 (ji17)).f1)) ∧ w'.cell? ⟨(ad111.add (((ji17)).toNat * 3)).block, (ad111.add (((ji17)).toNat * 3)).off + 2, none⟩ = some (.int .i64 ((rd_T98 l0 (ji17)).f2)) ∧ w'.cell? (ad111.add (((ji17)).toNat * 3)) = some (.int .i64 ((rd_T98 l0 (ji17)).f0)) ∧ w'.cell? ⟨(ad111.add (((ji17)).toNat * 3)).block, (ad111.add (((ji17)).toNat * 3)).off + 1, none⟩ = some (.int .i64 ((rd_T98 l0 (ji17)).f1)) ∧ w'.cell? ⟨(ad111.add (((ji17)).toNat * 3)).block, (ad111.add (((ji17)).toNat * 3)).off + 2, none⟩ = some (.int .i64 ((rd_T98 l0 (ji17)).f2)) ∧ w'.cell? (ad111.add (((ji17)).toNat * 3)) = some (.int .i64 ((rd_T98 l0 (ji17)).f0)) ∧ w'.cell? ⟨(ad111.add (((ji17)).toNat * 3)).block, (ad111.add (((ji17)).toNat * 3)).off + 1, none⟩ = some (.int .i64 ((rd_T98 l0 (ji17)).f1)) ∧ w'.cell? ⟨(ad111.add (((ji17)).toNat * 3)).block, (ad111.add (((ji17)).toNat * 3)).off + 2, none⟩ = some (.int .i64 ((rd_T98 l0 (ji17)).f2))) (ds := []) (tf 0 34) (by kernel_rfl) rfl rfl ⟨bk BK112.out 0, bk BK112.out 1, bk BK112.out 2, (cb HB.out hw116_0 :), (cb HB.out hw116_1 :), (cb HB.out hw116_2 :), (cb HB.out hw118_0 :), (cb HB.out hw118_1 :), (cb HB.out hw118_2 :), (cb HB.out hw119_0 :), (cb HB.out hw119_1 :), (cb HB.out hw119_2 :)⟩ (fun hHeld => ?_); refine with_tabW spec_IsTable.tab7 spec_IsTable.bits7 (fun HT_ HW_ => ?_)
              generalize wc.drew = w26 at BK112 HB hx116_0 hx116_1 hx116_2 hx118_0 hx118_1 hx118_2 hx119_0 hx119_1 hx119_2 hHeld ⊢; refine pu_ 0 31 (tf 1 33) rfl rfl ?_; refine pu_ 1 32 (tf 2 32) rfl rfl ?_; refine pu_ 2 33 (tf 3 31) rfl rfl ?_; refine pu_ 3 34 (tf 4 30) rfl rfl ?_; refine pu_ 4 35 (tf 5 29) rfl rfl ?_; refine pu_ 5 36 (tf 6 28) rfl rfl ?_; refine pu_ 6 37 (tf 7 27) rfl rfl ?_; refine ta12_ 7 38 (tf 8 26) rfl rfl ?_; refine ta12_ 8 39 (tf 9 25) rfl rfl ?_; refine one_ (i := 9) (N := some 40) (tf 10 24) rfl rfl (one_of HT_.out (by kernel_rfl)) (by decide) (fun K hK => ?_); refine goes_ Try.func130 (by kernel_rfl) rfl #[.agg #[.int .i64 ((rd_T98 l0 (ji17)).f0), .int .i64 ((rd_T98 l0 (ji17)).f1), .int .i64 ((rd_T98 l0 (ji17)).f2)], .agg #[.int .i64 ((rd_T98 l0 x3_1).f0), .int .i64 ((rd_T98 l0 x3_1).f1), .int .i64 ((rd_T98 l0 x3_1).f2)]] (by rfl) rfl rfl (by (try simp only [List.map_toArray, List.map_cons, List.map_nil]); first | done | (simp only [hji17]; rfl) | rfl | (simp only [List.length_drop, List.length_take]; rfl)) ?_; with_reducible refine (spec_l16Before.calls ((rd_T98 l0 (ji17)).f0) ((rd_T98 l0 (ji17)).f1) ((rd_T98 l0 (ji17)).f2) ((rd_T98 l0 x3_1).f0) ((rd_T98 l0 x3_1).f1) ((rd_T98 l0 x3_1).f2) true _ A20.out).mono ?_
              rintro e w27 ⟨rfl, hb⟩; refine ⟨_, rfl, ?_⟩; replace BK112 := kb BK112 hb; replace HB := bs HB hb; (try clear hb)
              (try clear hb2)
              (try clear hk)
              (try clear hi)
              refine hK.out _ _ ⟨bk BK112.out 0, bk BK112.out 1, bk BK112.out 2, (cb HB.out hw116_0 :), (cb HB.out hw116_1 :), (cb HB.out hw116_2 :), (cb HB.out hw118_0 :), (cb HB.out hw118_1 :), (cb HB.out hw118_2 :), (cb HB.out hw119_0 :), (cb HB.out hw119_1 :), (cb HB.out hw119_2 :)⟩ (fun hHeld => ?_); clear hK K; refine norm_ (a' := ?_) ?_ ?_
              rotate_left
              ·show Act.put _ (some 40) _ = _
               simp only [Act.put, List.setIfInBounds_toArray, List.set_cons_zero, List.set_cons_succ, i64_w, i32_w]
               rfl
              refine pu_ 10 41 (tf 11 23) rfl rfl ?_; refine pu_ 11 42 (tf 12 22) rfl rfl ?_; refine pu_ 12 43 (tf 13 21) rfl rfl ?_; refine pu_ 13 44 (tf 14 20) rfl rfl ?_; refine pu_ 14 45 (tf 15 19) rfl rfl ?_; refine pu_ 15 46 (tf 16 18) rfl rfl ?_; refine pu_ 16 47 (tf 17 17) rfl rfl ?_; refine pu_ 18 49 (tM [17, 1, 1, 15]) rfl rfl ?_; refine ta12_ 17 48 (tf 19 15) rfl rfl ?_; refine ta12_ 19 50 (tf 20 14) rfl rfl ?_; refine pu_ 20 51 (tf 21 13) rfl rfl ?_; refine pu_ 21 52 (tf 22 12) rfl rfl ?_; refine pu_ 22 53 (tf 23 11) rfl rfl ?_; refine pu_ 23 54 (tf 24 10) rfl rfl ?_; refine pu_ 24 55 (tf 25 9) rfl rfl ?_; refine pu_ 25 56 (tf 26 8) rfl rfl ?_; refine pu_ 26 57 (tf 27 7) rfl rfl ?_; refine pu_ 28 59 (tM [27, 1, 1, 5]) rfl rfl ?_; refine ta12_ 27 58 (tf 29 5) rfl rfl ?_; refine ta12_ 29 60 (tf 30 4) rfl rfl ?_; refine pu_ 30 61 (tf 31 3) rfl rfl ?_; refine pu_ 31 62 (tf 32 2) rfl rfl ?_; refine pu_ 32 63 (tf 33 1) rfl rfl ?_; refine pu_ 33 64 (tf 34 0) rfl rfl ?_; refine done_ (done_of HT_.out (by kernel_rfl)) ?_; (try go_wp2)
              go_roundg kj3
              case measure => have := HK1.out; have := HJ3.out; omega
              case rel => exact ⟨(wrap64 (x3_1 + 1)), es, H', ⟨by have := HK1.out; have := HJ3.out; omega⟩, ⟨vb HB.out⟩⟩
            ·rw [if_neg c22] at H; have c22b0 : (((rd_T98 l0 (ji17)).f0) == ((rd_T98 l0 x3_1).f0)) = false := beq_eq_false_iff_ne.mpr c22; have c22b1 : (((rd_T98 l0 (ji17)).f0) != ((rd_T98 l0 x3_1).f0)) = true := bne_iff_ne.mpr c22; have H' := ak H; clear H; (try go_wp2)
             replace BK112 := ak (blk_drew BK112.out); replace HB := ak (below_drew1 HB.out); have p116 : 0 ≤ ((ji17) : Int) := od; have q116 : (ji17) < (l0.length : Int) := od; obtain ⟨ad116, e116, hx116_0, hx116_1, hx116_2⟩ := at_T98 HR0.out (ji17) p116 q116; have hw116_2 := hx116_2; have hw116_1 := hx116_1; have hw116_0 := hx116_0; obtain rfl : ad111 = ad116 := (by injection e116); replace hx116_0 := cb HB.out hx116_0; replace hx116_1 := cb HB.out hx116_1; replace hx116_2 := cb HB.out hx116_2; replace p116 := eq_true p116; replace q116 := eq_true q116; have p118 : 0 ≤ ((ji17) : Int) := od; have q118 : (ji17) < (l0.length : Int) := od; obtain ⟨ad118, e118, hx118_0, hx118_1, hx118_2⟩ := at_T98 HR0.out (ji17) p118 q118; have hw118_2 := hx118_2; have hw118_1 := hx118_1; have hw118_0 := hx118_0; obtain rfl : ad111 = ad118 := (by injection e118); replace hx118_0 := cb HB.out hx118_0; replace hx118_1 := cb HB.out hx118_1; replace hx118_2 := cb HB.out hx118_2; replace p118 := eq_true p118; replace q118 := eq_true q118; refine start_ (n := 34) (S := fun w' => w'.cell? ⟨gb112, 0, none⟩ = some (.int .i64 ((rd_T98 l0 x3_1).f0)) ∧ w'.cell? ⟨gb112, 1, none⟩ = some (.int .i64 ((rd_T98 l0 x3_1).f1)) ∧ w'.cell? ⟨gb112, 2, none⟩ = some (.int .i64 ((rd_T98 l0 x3_1).f2)) ∧ w'.cell? (ad111.add (((ji17)).toNat * 3)) = some (.int .i64 ((rd_T98 l0 (ji17)).f0)) ∧ w'.cell? ⟨(ad111.add (((ji17)).toNat * 3)).block, (ad111.add (((ji17)).toNat * 3)).off + 1, none⟩ = some (.int .i64 ((rd_T98 l0 (ji17)).f1)) ∧ w'.cell? ⟨(ad111.add (((ji17)).toNat * 3)).block, (ad111.add (((ji17)).toNat * 3)).off + 2, none⟩ = some (.int .i64 ((rd_T98 l0 (ji17)).f2)) ∧ w'.cell? (ad111.add (((ji17)).toNat * 3)) = some (.int .i64 ((rd_T98 l0 (ji17)).f0)) ∧ w'.cell? ⟨(ad111.add (((ji17)).toNat * 3)).block, (ad111.add (((ji17)).toNat * 3)).off + 1, none⟩ = some (.int .i64 ((rd_T98 l0 (ji17)).f1)) ∧ w'.cell? ⟨(ad111.add (((ji17)).toNat * 3)).block, (ad111.add (((ji17)).toNat * 3)).off + 2, none⟩ = some (.int .i64 ((rd_T98 l0 (ji17)).f2))) (ds := []) (tf 0 34) (by kernel_rfl) rfl rfl ⟨bk BK112.out 0, bk BK112.out 1, bk BK112.out 2, (cb HB.out hw116_0 :), (cb HB.out hw116_1 :), (cb HB.out hw116_2 :), (cb HB.out hw118_0 :), (cb HB.out hw118_1 :), (cb HB.out hw118_2 :)⟩ (fun hHeld => ?_); refine with_tabW spec_IsTable.tab7 spec_IsTable.bits7 (fun HT_ HW_ => ?_)
             generalize wc.drew = w28 at BK112 HB hx116_0 hx116_1 hx116_2 hx118_0 hx118_1 hx118_2 hHeld ⊢; refine pu_ 0 31 (tf 1 33) rfl rfl ?_; refine pu_ 1 32 (tf 2 32) rfl rfl ?_; refine pu_ 2 33 (tf 3 31) rfl rfl ?_; refine pu_ 3 34 (tf 4 30) rfl rfl ?_; refine pu_ 4 35 (tf 5 29) rfl rfl ?_; refine pu_ 5 36 (tf 6 28) rfl rfl ?_; refine pu_ 6 37 (tf 7 27) rfl rfl ?_; refine ta9_ 7 38 (tf 8 26) rfl rfl ?_; refine ta9_ 8 39 (tf 9 25) rfl rfl ?_; refine one_ (i := 9) (N := some 40) (tf 10 24) rfl rfl (one_of HT_.out (by kernel_rfl)) (by decide) (fun K hK => ?_); refine goes_ Try.func130 (by kernel_rfl) rfl #[.agg #[.int .i64 ((rd_T98 l0 (ji17)).f0), .int .i64 ((rd_T98 l0 (ji17)).f1), .int .i64 ((rd_T98 l0 (ji17)).f2)], .agg #[.int .i64 ((rd_T98 l0 x3_1).f0), .int .i64 ((rd_T98 l0 x3_1).f1), .int .i64 ((rd_T98 l0 x3_1).f2)]] (by rfl) rfl rfl (by (try simp only [List.map_toArray, List.map_cons, List.map_nil]); first | done | (simp only [hji17]; rfl) | rfl | (simp only [List.length_drop, List.length_take]; rfl)) ?_; with_reducible refine (spec_l16Before.calls ((rd_T98 l0 (ji17)).f0) ((rd_T98 l0 (ji17)).f1) ((rd_T98 l0 (ji17)).f2) ((rd_T98 l0 x3_1).f0) ((rd_T98 l0 x3_1).f1) ((rd_T98 l0 x3_1).f2) true _ A20.out).mono ?_
             rintro e w29 ⟨rfl, hb⟩; refine ⟨_, rfl, ?_⟩; replace BK112 := kb BK112 hb; replace HB := bs HB hb; (try clear hb)
             (try clear hb2)
             (try clear hk)
             (try clear hi)
             refine hK.out _ _ ⟨bk BK112.out 0, bk BK112.out 1, bk BK112.out 2, (cb HB.out hw116_0 :), (cb HB.out hw116_1 :), (cb HB.out hw116_2 :), (cb HB.out hw118_0 :), (cb HB.out hw118_1 :), (cb HB.out hw118_2 :)⟩ (fun hHeld => ?_); clear hK K; refine norm_ (a' := ?_) ?_ ?_
             rotate_left
             ·show Act.put _ (some 40) _ = _
              simp only [Act.put, List.setIfInBounds_toArray, List.set_cons_zero, List.set_cons_succ, i64_w, i32_w]
              rfl
             refine pu_ 10 41 (tf 11 23) rfl rfl ?_; refine pu_ 11 42 (tf 12 22) rfl rfl ?_; refine pu_ 12 43 (tf 13 21) rfl rfl ?_; refine pu_ 13 44 (tf 14 20) rfl rfl ?_; refine pu_ 14 45 (tf 15 19) rfl rfl ?_; refine pu_ 15 46 (tf 16 18) rfl rfl ?_; refine pu_ 16 47 (tf 17 17) rfl rfl ?_; refine pu_ 18 49 (tM [17, 1, 1, 15]) rfl rfl ?_; refine ta9_ 17 48 (tf 19 15) rfl rfl ?_; refine ta9_ 19 50 (tf 20 14) rfl rfl ?_; refine pu_ 20 51 (tf 21 13) rfl rfl ?_; refine pu_ 21 52 (tf 22 12) rfl rfl ?_; refine un_ 22 53 (tf 23 11) rfl rfl ?_; refine un_ 23 54 (tf 24 10) rfl rfl ?_; refine un_ 24 55 (tf 25 9) rfl rfl ?_; refine un_ 25 56 (tf 26 8) rfl rfl ?_; refine un_ 26 57 (tf 27 7) rfl rfl ?_; refine un_ 27 58 (tf 28 6) rfl rfl ?_; refine un_ 28 59 (tf 29 5) rfl rfl ?_; refine un_ 29 60 (tf 30 4) rfl rfl ?_; refine un_ 30 61 (tf 31 3) rfl rfl ?_; refine pu_ 31 62 (tf 32 2) rfl rfl ?_; refine pu_ 32 63 (tf 33 1) rfl rfl ?_; refine pu_ 33 64 (tf 34 0) rfl rfl ?_; refine done_ (done_of HT_.out (by kernel_rfl)) ?_; (try go_wp2)
             go_roundg kj3
             case measure => have := HK1.out; have := HJ3.out; omega
             case rel => exact ⟨(wrap64 (x3_1 + 1)), es, H', ⟨by have := HK1.out; have := HJ3.out; omega⟩, ⟨vb HB.out⟩⟩
           ·replace c21 := Bool.eq_false_iff.mpr c21; subst c21; rw [if_neg nf] at H; obtain rfl := sj H; (try go_wp2)
            replace BK112 := ak (blk_drew BK112.out); replace HB := ak (below_drew1 HB.out); have p116 : 0 ≤ ((ji17) : Int) := od; have q116 : (ji17) < (l0.length : Int) := od; obtain ⟨ad116, e116, hx116_0, hx116_1, hx116_2⟩ := at_T98 HR0.out (ji17) p116 q116; have hw116_2 := hx116_2; have hw116_1 := hx116_1; have hw116_0 := hx116_0; obtain rfl : ad111 = ad116 := (by injection e116); replace hx116_0 := cb HB.out hx116_0; replace hx116_1 := cb HB.out hx116_1; replace hx116_2 := cb HB.out hx116_2; replace p116 := eq_true p116; replace q116 := eq_true q116; refine start_ (n := 34) (S := fun w' => w'.cell? ⟨gb112, 0, none⟩ = some (.int .i64 ((rd_T98 l0 x3_1).f0)) ∧ w'.cell? ⟨gb112, 1, none⟩ = some (.int .i64 ((rd_T98 l0 x3_1).f1)) ∧ w'.cell? ⟨gb112, 2, none⟩ = some (.int .i64 ((rd_T98 l0 x3_1).f2)) ∧ w'.cell? (ad111.add (((ji17)).toNat * 3)) = some (.int .i64 ((rd_T98 l0 (ji17)).f0)) ∧ w'.cell? ⟨(ad111.add (((ji17)).toNat * 3)).block, (ad111.add (((ji17)).toNat * 3)).off + 1, none⟩ = some (.int .i64 ((rd_T98 l0 (ji17)).f1)) ∧ w'.cell? ⟨(ad111.add (((ji17)).toNat * 3)).block, (ad111.add (((ji17)).toNat * 3)).off + 2, none⟩ = some (.int .i64 ((rd_T98 l0 (ji17)).f2))) (ds := []) (tf 0 34) (by kernel_rfl) rfl rfl ⟨bk BK112.out 0, bk BK112.out 1, bk BK112.out 2, (cb HB.out hw116_0 :), (cb HB.out hw116_1 :), (cb HB.out hw116_2 :)⟩ (fun hHeld => ?_); refine with_tabW spec_IsTable.tab7 spec_IsTable.bits7 (fun HT_ HW_ => ?_)
            generalize wc.drew = w30 at BK112 HB hx116_0 hx116_1 hx116_2 hHeld ⊢; refine pu_ 0 31 (tf 1 33) rfl rfl ?_; refine pu_ 1 32 (tf 2 32) rfl rfl ?_; refine pu_ 2 33 (tf 3 31) rfl rfl ?_; refine pu_ 3 34 (tf 4 30) rfl rfl ?_; refine pu_ 4 35 (tf 5 29) rfl rfl ?_; refine pu_ 5 36 (tf 6 28) rfl rfl ?_; refine pu_ 6 37 (tf 7 27) rfl rfl ?_; refine ta6_ 7 38 (tf 8 26) rfl rfl ?_; refine ta6_ 8 39 (tf 9 25) rfl rfl ?_; refine one_ (i := 9) (N := some 40) (tf 10 24) rfl rfl (one_of HT_.out (by kernel_rfl)) (by decide) (fun K hK => ?_); refine goes_ Try.func130 (by kernel_rfl) rfl #[.agg #[.int .i64 ((rd_T98 l0 (ji17)).f0), .int .i64 ((rd_T98 l0 (ji17)).f1), .int .i64 ((rd_T98 l0 (ji17)).f2)], .agg #[.int .i64 ((rd_T98 l0 x3_1).f0), .int .i64 ((rd_T98 l0 x3_1).f1), .int .i64 ((rd_T98 l0 x3_1).f2)]] (by rfl) rfl rfl (by (try simp only [List.map_toArray, List.map_cons, List.map_nil]); first | done | (simp only [hji17]; rfl) | rfl | (simp only [List.length_drop, List.length_take]; rfl)) ?_; with_reducible refine (spec_l16Before.calls ((rd_T98 l0 (ji17)).f0) ((rd_T98 l0 (ji17)).f1) ((rd_T98 l0 (ji17)).f2) ((rd_T98 l0 x3_1).f0) ((rd_T98 l0 x3_1).f1) ((rd_T98 l0 x3_1).f2) false _ A20.out).mono ?_
            rintro e w31 ⟨rfl, hb⟩; refine ⟨_, rfl, ?_⟩; replace BK112 := kb BK112 hb; replace HB := bs HB hb; (try clear hb)
            (try clear hb2)
            (try clear hk)
            (try clear hi)
            refine hK.out _ _ ⟨bk BK112.out 0, bk BK112.out 1, bk BK112.out 2, (cb HB.out hw116_0 :), (cb HB.out hw116_1 :), (cb HB.out hw116_2 :)⟩ (fun hHeld => ?_); clear hK K; refine norm_ (a' := ?_) ?_ ?_
            rotate_left
            ·show Act.put _ (some 40) _ = _
             simp only [Act.put, List.setIfInBounds_toArray, List.set_cons_zero, List.set_cons_succ, i64_w, i32_w]
             rfl
            refine pu_ 10 41 (tf 11 23) rfl rfl ?_; refine pu_ 11 42 (tf 12 22) rfl rfl ?_; refine un_ 12 43 (tf 13 21) rfl rfl ?_; refine un_ 13 44 (tf 14 20) rfl rfl ?_; refine un_ 14 45 (tf 15 19) rfl rfl ?_; refine un_ 15 46 (tf 16 18) rfl rfl ?_; refine un_ 16 47 (tf 17 17) rfl rfl ?_; refine un_ 17 48 (tf 18 16) rfl rfl ?_; refine un_ 18 49 (tf 19 15) rfl rfl ?_; refine un_ 19 50 (tf 20 14) rfl rfl ?_; refine un_ 20 51 (tf 21 13) rfl rfl ?_; refine un_ 21 52 (tf 22 12) rfl rfl ?_; refine un_ 22 53 (tf 23 11) rfl rfl ?_; refine un_ 23 54 (tf 24 10) rfl rfl ?_; refine un_ 24 55 (tf 25 9) rfl rfl ?_; refine un_ 25 56 (tf 26 8) rfl rfl ?_; refine un_ 26 57 (tf 27 7) rfl rfl ?_; refine un_ 27 58 (tf 28 6) rfl rfl ?_; refine un_ 28 59 (tf 29 5) rfl rfl ?_; refine un_ 29 60 (tf 30 4) rfl rfl ?_; refine un_ 30 61 (tf 31 3) rfl rfl ?_; refine un_ 31 62 (tf 32 2) rfl rfl ?_; refine pu_ 32 63 (tf 33 1) rfl rfl ?_; refine pu_ 33 64 (tf 34 0) rfl rfl ?_; refine done_ (done_of HT_.out (by kernel_rfl)) ?_; (try go_wp2)
            go_ret
            exact ⟨by first | rfl | (simp [errW_none, errW_some] <;> rfl) | (simp only [← hji17]; first | rfl | (simp [errW_none, errW_some] <;> rfl)) | (simp [*, errW_none, errW_some] <;> rfl), vb HB.out⟩
          ·exact nO_ c19 H
         ·exact nO_ c18 H
        ·rw [if_neg c16] at H; have c16b0 := decide_eq_false c16; clear c16; have H' := ak H; clear H; (try go_wp2)
         replace BK112 := ak (blk_drew BK112.out); replace HB := ak (below_drew1 HB.out); refine start_ (n := 34) (S := fun w' => True) (ds := []) (tf 0 34) (by kernel_rfl) rfl rfl trivial (fun hHeld => ?_); refine with_tabW spec_IsTable.tab7 spec_IsTable.bits7 (fun HT_ HW_ => ?_); generalize wc.drew = w32 at BK112 HB hHeld ⊢; refine pu_ 0 31 (tf 1 33) rfl rfl ?_; refine pu_ 1 32 (tf 2 32) rfl rfl ?_; refine pu_ 2 33 (tf 3 31) rfl rfl ?_; refine un_ 3 34 (tf 4 30) rfl rfl ?_; refine un_ 4 35 (tf 5 29) rfl rfl ?_; refine un_ 5 36 (tf 6 28) rfl rfl ?_; refine un_ 6 37 (tf 7 27) rfl rfl ?_; refine un_ 7 38 (tf 8 26) rfl rfl ?_; refine un_ 8 39 (tf 9 25) rfl rfl ?_; refine un_ 9 40 (tf 10 24) rfl rfl ?_; refine un_ 10 41 (tf 11 23) rfl rfl ?_; refine un_ 11 42 (tf 12 22) rfl rfl ?_; refine un_ 12 43 (tf 13 21) rfl rfl ?_; refine un_ 13 44 (tf 14 20) rfl rfl ?_; refine un_ 14 45 (tf 15 19) rfl rfl ?_; refine un_ 15 46 (tf 16 18) rfl rfl ?_; refine un_ 16 47 (tf 17 17) rfl rfl ?_; refine un_ 17 48 (tf 18 16) rfl rfl ?_; refine un_ 18 49 (tf 19 15) rfl rfl ?_; refine un_ 19 50 (tf 20 14) rfl rfl ?_; refine un_ 20 51 (tf 21 13) rfl rfl ?_; refine un_ 21 52 (tf 22 12) rfl rfl ?_; refine un_ 22 53 (tf 23 11) rfl rfl ?_; refine un_ 23 54 (tf 24 10) rfl rfl ?_; refine un_ 24 55 (tf 25 9) rfl rfl ?_; refine un_ 25 56 (tf 26 8) rfl rfl ?_; refine un_ 26 57 (tf 27 7) rfl rfl ?_; refine un_ 27 58 (tf 28 6) rfl rfl ?_; refine un_ 28 59 (tf 29 5) rfl rfl ?_; refine un_ 29 60 (tf 30 4) rfl rfl ?_
         refine un_ 30 61 (tf 31 3) rfl rfl ?_; refine un_ 31 62 (tf 32 2) rfl rfl ?_; refine un_ 32 63 (tf 33 1) rfl rfl ?_; refine pu_ 33 64 (tf 34 0) rfl rfl ?_; refine done_ (done_of HT_.out (by kernel_rfl)) ?_; (try go_wp2)
         go_roundg kj3
         case measure => have := HK1.out; have := HJ3.out; omega
         case rel => exact ⟨(wrap64 (x3_1 + 1)), es, H', ⟨by have := HK1.out; have := HJ3.out; omega⟩, ⟨vb HB.out⟩⟩
    ·exact nO_ c3 H
   ·rw [if_neg c2] at H; have c2b0 := decide_eq_false c2; clear c2; obtain rfl := sj H; go_wp2
    go_ret
    exact ⟨ew, vb HB.out⟩


/-! ### spec_IsArea: function 131 -/
def spec_IsArea.f (a0_0 : Int) (a0_1 : Int) (a0_2 : Int) (a0_3 : Int) (a0_4 : Int) : Option (Bool) := (spec_l01In.f a0_0 0 3).bind fun t121 => (if t121 = true then ((spec_l15Place.f a0_1 a0_2).bind fun t122 => (if t122 = true then ((spec_l01In.f a0_3 1 (wrap64 (100000 - a0_1))).bind fun t123 => (if t123 = true then ((spec_l01In.f a0_4 1 (wrap64 (100000 - a0_2))).bind fun t124 => (some t124)) else (some false))) else (some false))) else (some false))
set_option maxHeartbeats 8000000 in
set_option maxRecDepth 100000 in
theorem spec_IsArea.calls (a0_0 : Int) (a0_1 : Int) (a0_2 : Int) (a0_3 : Int) (a0_4 : Int) (r : Bool) (w : World) (h : spec_IsArea.f a0_0 a0_1 a0_2 a0_3 a0_4 = some r) :
  Calls Try.prog 131 #[.agg #[.int .i64 a0_0, .int .i64 a0_1, .int .i64 a0_2, .int .i64 a0_3, .int .i64 a0_4]] w fun e w' => e = .returned (.bool r) ∧ Below w.heap.size w w' := by
 have hu103 := Try.underlying103; have HB := ak (Below.refl w.heap.size w); unfold spec_IsArea.f at h; have H := h; clear h; obtain ⟨t121, A2, H⟩ := bnk H; by_cases c3 : t121 = true
 subst c3; rw [if_pos rfl] at H; obtain ⟨t122, A4, H⟩ := bnk H; by_cases c5 : t122 = true
 subst c5; rw [if_pos rfl] at H; obtain ⟨t123, A6, H⟩ := bnk H; by_cases c7 : t123 = true
 subst c7; rw [if_pos rfl] at H; obtain ⟨t124, A8, H⟩ := bnk H; obtain rfl := sj H; rotate_left
 replace c7 := Bool.eq_false_iff.mpr c7; subst c7; rw [if_neg nf] at H; obtain rfl := sj H; rotate_left
 replace c5 := Bool.eq_false_iff.mpr c5; subst c5; rw [if_neg nf] at H; obtain rfl := sj H; rotate_left
 replace c3 := Bool.eq_false_iff.mpr c3; subst c3; rw [if_neg nf] at H; obtain rfl := sj H; rotate_left
 all_goals
  go_enter Try.func131, Try.ntmps131; go_wp2_with (first | ((with_reducible refine gate_dst (N := 1) rfl ?_); refine bx 1 #[.int .i64 a0_0, .int .i64 a0_1, .int .i64 a0_2, .int .i64 a0_3, .int .i64 a0_4] 103 ?_; intro gb120 hg w9 hbox hb; have BK120 := ak hbox; have GW120 := gw hg HB; have GE120 := gw hg HB; replace HB := bs HB hb; clear hb hbox hg; have hcz9 := cz5 BK120.out) | ((with_reducible refine at_fn (f := 65) rfl ?_); refine gl (some 5) Try.func65 #[.int .i64 a0_0, .int .i64 0, .int .i64 3] ?_; (with_reducible refine (spec_l01In.calls a0_0 0 3 _ _ A2.out).mono ?_); rintro e w' ⟨rfl, ⟨nd, rfl⟩⟩; refine ⟨_, rfl, ?_⟩) | (go_at_call 105; (with_reducible refine (spec_l15Place.calls a0_1 a0_2 _ _ A4.out).mono ?_); rintro e w' ⟨rfl, ⟨nd, rfl⟩⟩) | (go_at_call 65; (with_reducible refine (spec_l01In.calls a0_3 1 (wrap64 (100000 - a0_1)) _ _ A6.out).mono ?_); rintro e w' ⟨rfl, ⟨nd, rfl⟩⟩) | (go_at_call 65; (with_reducible refine (spec_l01In.calls a0_4 1 (wrap64 (100000 - a0_2)) t124 _ A8.out).mono ?_); rintro e w' ⟨rfl, ⟨nd, rfl⟩⟩))
  go_ret
  exact ⟨ew, vb HB.out⟩


/-! ### spec_IsSite: function 107 -/
def spec_IsSite.l0 : Nat → List (S103) → Int → Option (Bool)
 | 0, _, _ => none
 | k + 1, x0, x3 => if x3 < (x0.length : Int) then (if 0 ≤ x3 then ((spec_IsArea.f ((rd_T103 x0 x3).f0) ((rd_T103 x0 x3).f1) ((rd_T103 x0 x3).f2) ((rd_T103 x0 x3).f3) ((rd_T103 x0 x3).f4)).bind fun t126 => (if t126 = true then (spec_IsSite.l0 k x0 (wrap64 (x3 + 1))) else (some false))) else (none)) else (some (decide ((x0.length : Int) ≤ 10)))
def spec_IsSite.f (k : Nat) (l0 : List (S103)) : Option (Bool) := spec_IsSite.l0 k l0 0
theorem spec_IsSite.mono_l : ∀ k, (∀ y0 y1, LeO (spec_IsSite.l0 k y0 y1) (spec_IsSite.l0 (k + 1) y0 y1))
 | 0 => fun _ _ r h => by simp [spec_IsSite.l0] at h
 | k + 1 => by
  have ih0 := spec_IsSite.mono_l k
  ·intro y0 y1; unfold spec_IsSite.l0
   repeat' (with_reducible first | exact ih0 .. | exact lm | refine LeO.ite ?_ ?_ | refine LeO.bind ?_ (fun _ => ?_))
theorem spec_IsSite.mono : ∀ a0 k, LeO (spec_IsSite.f k a0) (spec_IsSite.f (k + 1) a0) := by
 intro a0 k; have ih0 := spec_IsSite.mono_l k; unfold spec_IsSite.f
 repeat' (with_reducible first | exact ih0 .. | exact lm | refine LeO.ite ?_ ?_ | refine LeO.bind ?_ (fun _ => ?_))
set_option maxHeartbeats 8000000 in
set_option maxRecDepth 100000 in
theorem spec_IsSite.calls (k : Nat) (A0 : Option Addr) (c0 : Nat) (l0 : List (S103)) (r : Bool) (w : World) (hr0 : Kd.C k103 w A0 l0.length l0) (hc0 : l0.length ≤ c0) (h : spec_IsSite.f k l0 = some r) :
  Calls Try.prog 107 #[.slice A0 l0.length c0] w fun e w' => e = .returned (.bool r) ∧ Below w.heap.size w w' := by
 have hu103 := Try.underlying103; have HR0 := ak hr0; have HC0 := ak hc0; clear hr0 hc0; have HB := ak (Below.refl w.heap.size w); unfold spec_IsSite.f at h; have H := h; clear h; have H' := ak H; clear H; go_enter Try.func107, Try.ntmps107; go_wp2
 go_loopg [3] k (fun kq v3 w' => ∃ (x3_1 : Int), v3 = .int .i64 x3_1 ∧ Aside0 (spec_IsSite.l0 kq l0 x3_1 = some r) ∧ Aside0 (kq ≤ k) ∧ Aside0 (Below w.heap.size w w'))
 case atStart => exact ⟨(0), es, H', ⟨Nat.le_refl _⟩, ⟨vb HB.out⟩⟩
 case round =>
  clear H'; obtain ⟨x3_1, rfl, HA, HK1, HB⟩ := hrel
  cases gk with
  | zero => exact absurd HA.out (by simp [spec_IsSite.l0])
  | succ k1 =>
   have H := HA.out; clear HA; simp only [spec_IsSite.l0] at H
   by_cases c2 : x3_1 < (l0.length : Int)
   ·rw [if_pos c2] at H; have c2b0 := decide_eq_true c2; clear c2; by_cases c3 : 0 ≤ x3_1
    ·rw [if_pos c3] at H; have c3b0 := decide_eq_true c3; clear c3; obtain ⟨t126, A4, H⟩ := bnk H; by_cases c5 : t126 = true
     ·subst c5; rw [if_pos rfl] at H; have H' := ak H; clear H; have p125 : 0 ≤ (x3_1 : Int) := od; have q125 : x3_1 < (l0.length : Int) := od; obtain ⟨ad125, e125, hx125_0, hx125_1, hx125_2, hx125_3, hx125_4⟩ := at_T103 HR0.out x3_1 p125 q125
      cases e125; replace hx125_0 := cb HB.out hx125_0; replace hx125_1 := cb HB.out hx125_1; replace hx125_2 := cb HB.out hx125_2; replace hx125_3 := cb HB.out hx125_3; replace hx125_4 := cb HB.out hx125_4; replace p125 := eq_true p125; replace q125 := eq_true q125; go_wp2_with (first | ((with_reducible refine at_fn (f := 131) rfl ?_); refine gl (some 14) Try.func131 #[.agg #[.int .i64 ((rd_T103 l0 x3_1).f0), .int .i64 ((rd_T103 l0 x3_1).f1), .int .i64 ((rd_T103 l0 x3_1).f2), .int .i64 ((rd_T103 l0 x3_1).f3), .int .i64 ((rd_T103 l0 x3_1).f4)]] ?_; (with_reducible refine (spec_IsArea.calls ((rd_T103 l0 x3_1).f0) ((rd_T103 l0 x3_1).f1) ((rd_T103 l0 x3_1).f2) ((rd_T103 l0 x3_1).f3) ((rd_T103 l0 x3_1).f4) _ _ A4.out).mono ?_); rintro e w6 ⟨rfl, hb⟩; refine ⟨_, rfl, ?_⟩; replace HB := bs HB hb; (try clear hb)))
      go_roundg k1
      case measure => have := HK1.out; omega
      case rel => exact ⟨(wrap64 (x3_1 + 1)), es, H', ⟨by have := HK1.out; omega⟩, ⟨vb HB.out⟩⟩
     ·replace c5 := Bool.eq_false_iff.mpr c5; subst c5; rw [if_neg nf] at H; obtain rfl := sj H; have p125 : 0 ≤ (x3_1 : Int) := od; have q125 : x3_1 < (l0.length : Int) := od; obtain ⟨ad125, e125, hx125_0, hx125_1, hx125_2, hx125_3, hx125_4⟩ := at_T103 HR0.out x3_1 p125 q125
      cases e125; replace hx125_0 := cb HB.out hx125_0; replace hx125_1 := cb HB.out hx125_1; replace hx125_2 := cb HB.out hx125_2; replace hx125_3 := cb HB.out hx125_3; replace hx125_4 := cb HB.out hx125_4; replace p125 := eq_true p125; replace q125 := eq_true q125; go_wp2_with (first | ((with_reducible refine at_fn (f := 131) rfl ?_); refine gl (some 14) Try.func131 #[.agg #[.int .i64 ((rd_T103 l0 x3_1).f0), .int .i64 ((rd_T103 l0 x3_1).f1), .int .i64 ((rd_T103 l0 x3_1).f2), .int .i64 ((rd_T103 l0 x3_1).f3), .int .i64 ((rd_T103 l0 x3_1).f4)]] ?_; (with_reducible refine (spec_IsArea.calls ((rd_T103 l0 x3_1).f0) ((rd_T103 l0 x3_1).f1) ((rd_T103 l0 x3_1).f2) ((rd_T103 l0 x3_1).f3) ((rd_T103 l0 x3_1).f4) _ _ A4.out).mono ?_); rintro e w7 ⟨rfl, hb⟩; refine ⟨_, rfl, ?_⟩; replace HB := bs HB hb; (try clear hb)))
      go_ret
      exact ⟨ew, vb HB.out⟩
    ·exact nO_ c3 H
   ·rw [if_neg c2] at H; have c2b0 := decide_eq_false c2; clear c2; obtain rfl := sj H; go_wp2
    go_ret
    exact ⟨ew, vb HB.out⟩


/-! ### spec_IsField: function 58 -/
mutual
def spec_IsField.l0 : Nat → Int → List (S98) → List (S103) → List Int → List Int → List Int → Int → Option (Bool)
 | 0, _, _, _, _, _, _, _ => none
 | k + 1, x3, x128000, x128001, x128002, x128003, x128004, x128005 => if x3 < (x128002.length : Int) then (if 0 ≤ x3 then ((spec_l01In.f (rd x128002 x3) 20 300).bind fun t129 => (if t129 = true then (spec_IsField.l0 k (wrap64 (x3 + 1)) x128000 x128001 x128002 x128003 x128004 x128005) else (some false))) else (none)) else (if (x128003.length : Int) = (x128004.length : Int) then (if (x128003.length : Int) > 7 then (spec_IsField.j1 k true x128000 x128001 x128002 x128003 x128004 x128005) else (spec_IsField.j1 k (decide ((x128002.length : Int) > 4)) x128000 x128001 x128002 x128003 x128004 x128005)) else (spec_IsField.j1 k true x128000 x128001 x128002 x128003 x128004 x128005))
def spec_IsField.j1 : Nat → Bool → List (S98) → List (S103) → List Int → List Int → List Int → Int → Option (Bool)
 | 0, _, _, _, _, _, _, _ => none
 | k + 1, x37, x128000, x128001, x128002, x128003, x128004, x128005 => if x37 = true then (some false) else (spec_IsField.l1 k 0 x128000 x128001 x128002 x128003 x128004 x128005)
def spec_IsField.l1 : Nat → Int → List (S98) → List (S103) → List Int → List Int → List Int → Int → Option (Bool)
 | 0, _, _, _, _, _, _, _ => none
 | k + 1, x4, x128000, x128001, x128002, x128003, x128004, x128005 => if x4 < (x128003.length : Int) then (if 0 ≤ x4 then (if x4 < (x128004.length : Int) then ((spec_l15Place.f (rd x128003 x4) (rd x128004 x4)).bind fun t132 => (if t132 = true then (spec_IsField.l1 k (wrap64 (x4 + 1)) x128000 x128001 x128002 x128003 x128004 x128005) else (some false))) else (none)) else (none)) else ((spec_IsTable.f k x128000).bind fun t133 => (if t133 = true then ((spec_IsSite.f k x128001).bind fun t134 => (if t134 = true then ((spec_l01In.f x128005 0 10000).bind fun t135 => (some t135)) else (some false))) else (some false)))
end
def spec_IsField.f (k : Nat) (l0_0 : List (S98)) (l0_1 : List (S103)) (l0_2 : List Int) (l0_3 : List Int) (l0_4 : List Int) (a0_5 : Int) : Option (Bool) := spec_IsField.l0 k 0 l0_0 l0_1 l0_2 l0_3 l0_4 a0_5
theorem spec_IsField.mono_l : ∀ k, (∀ y0 y1 y2 y3 y4 y5 y6, LeO (spec_IsField.l0 k y0 y1 y2 y3 y4 y5 y6) (spec_IsField.l0 (k + 1) y0 y1 y2 y3 y4 y5 y6)) ∧ (∀ y0 y1 y2 y3 y4 y5 y6, LeO (spec_IsField.j1 k y0 y1 y2 y3 y4 y5 y6) (spec_IsField.j1 (k + 1) y0 y1 y2 y3 y4 y5 y6)) ∧ (∀ y0 y1 y2 y3 y4 y5 y6, LeO (spec_IsField.l1 k y0 y1 y2 y3 y4 y5 y6) (spec_IsField.l1 (k + 1) y0 y1 y2 y3 y4 y5 y6))
 | 0 => ⟨fun _ _ _ _ _ _ _ r h => by simp [spec_IsField.l0] at h, fun _ _ _ _ _ _ _ r h => by simp [spec_IsField.j1] at h, fun _ _ _ _ _ _ _ r h => by simp [spec_IsField.l1] at h⟩
 | k + 1 => by
  obtain ⟨ih0, ih1, ih2⟩ := spec_IsField.mono_l k; refine ⟨?_, ?_, ?_⟩
  ·intro y0 y1 y2 y3 y4 y5 y6; unfold spec_IsField.l0
   repeat' (with_reducible first | exact ih0 .. | exact ih1 .. | exact ih2 .. | exact spec_IsSite.mono .. | exact spec_IsTable.mono .. | exact lm | refine LeO.ite ?_ ?_ | refine LeO.bind ?_ (fun _ => ?_))
  ·intro y0 y1 y2 y3 y4 y5 y6; unfold spec_IsField.j1
   repeat' (with_reducible first | exact ih0 .. | exact ih1 .. | exact ih2 .. | exact spec_IsSite.mono .. | exact spec_IsTable.mono .. | exact lm | refine LeO.ite ?_ ?_ | refine LeO.bind ?_ (fun _ => ?_))
  ·intro y0 y1 y2 y3 y4 y5 y6; unfold spec_IsField.l1
   repeat' (with_reducible first | exact ih0 .. | exact ih1 .. | exact ih2 .. | exact spec_IsSite.mono .. | exact spec_IsTable.mono .. | exact lm | refine LeO.ite ?_ ?_ | refine LeO.bind ?_ (fun _ => ?_))
theorem spec_IsField.mono : ∀ a0 a1 a2 a3 a4 a5 k, LeO (spec_IsField.f k a0 a1 a2 a3 a4 a5) (spec_IsField.f (k + 1) a0 a1 a2 a3 a4 a5) := by
 intro a0 a1 a2 a3 a4 a5 k; obtain ⟨ih0, ih1, ih2⟩ := spec_IsField.mono_l k; unfold spec_IsField.f
 repeat' (with_reducible first | exact ih0 .. | exact ih1 .. | exact ih2 .. | exact spec_IsSite.mono .. | exact spec_IsTable.mono .. | exact lm | refine LeO.ite ?_ ?_ | refine LeO.bind ?_ (fun _ => ?_))
set_option maxHeartbeats 8000000 in
set_option maxRecDepth 100000 in
theorem spec_IsField.calls (k : Nat) (A0_0 : Option Addr) (c0_0 : Nat) (l0_0 : List (S98)) (A0_1 : Option Addr) (c0_1 : Nat) (l0_1 : List (S103)) (A0_2 : Option Addr) (c0_2 : Nat) (l0_2 : List Int) (A0_3 : Option Addr) (c0_3 : Nat) (l0_3 : List Int) (A0_4 : Option Addr) (c0_4 : Nat) (l0_4 : List Int) (a0_5 : Int) (r : Bool) (w : World) (hr0_0 : Kd.C k98 w A0_0 l0_0.length l0_0) (hc0_0 : l0_0.length ≤ c0_0) (hr0_1 : Kd.C k103 w A0_1 l0_1.length l0_1) (hc0_1 : l0_1.length ≤ c0_1) (hr0_2 : Kd.C (Kd.int .i64) w A0_2 l0_2.length l0_2) (hc0_2 : l0_2.length ≤ c0_2) (hr0_3 : Kd.C (Kd.int .i64) w A0_3 l0_3.length l0_3) (hc0_3 : l0_3.length ≤ c0_3) (hr0_4 : Kd.C (Kd.int .i64) w A0_4 l0_4.length l0_4) (hc0_4 : l0_4.length ≤ c0_4) (h : spec_IsField.f k l0_0 l0_1 l0_2 l0_3 l0_4 a0_5 = some r) :
  Calls Try.prog 58 #[.agg (f5 A0_0 l0_0 c0_0 A0_1 l0_1 c0_1 A0_2 l0_2 c0_2 A0_3 l0_3 c0_3 A0_4 l0_4 c0_4 a0_5)] w fun e w' => e = .returned (.bool r) ∧ Below w.heap.size w w' := by
 have hu33 := Try.underlying33; have HR0_0 := ak hr0_0; have HC0_0 := ak hc0_0; clear hr0_0 hc0_0; have HR0_1 := ak hr0_1; have HC0_1 := ak hc0_1; clear hr0_1 hc0_1; have HR0_2 := ak hr0_2; have HC0_2 := ak hc0_2; clear hr0_2 hc0_2; have HR0_3 := ak hr0_3; have HC0_3 := ak hc0_3; clear hr0_3 hc0_3; have HR0_4 := ak hr0_4; have HC0_4 := ak hc0_4; clear hr0_4 hc0_4; have HB := ak (Below.refl w.heap.size w); unfold spec_IsField.f at h; have H := h; clear h; have H' := ak H; clear H; go_enter Try.func58, Try.ntmps58; go_wp2_with (first | ((with_reducible refine gate_dst (N := 1) rfl ?_); (try (refine gate_guard (by rfl) ?_; dsimp only)); refine bx 1 (f5 A0_0 l0_0 c0_0 A0_1 l0_1 c0_1 A0_2 l0_2 c0_2 A0_3 l0_3 c0_3 A0_4 l0_4 c0_4 a0_5) 33 ?_; intro gb127 hg w2 hbox hb; have BK127 := ak hbox; have GW127 := gw hg HB; have GE127 := gw hg HB; replace HB := bs HB hb; clear hb hbox hg))
 repeat (go_quiet (first | ((with_reducible refine gate_dst (N := 1) rfl ?_); (try (refine gate_guard (by rfl) ?_; dsimp only)); refine bx 1 (f5 A0_0 l0_0 c0_0 A0_1 l0_1 c0_1 A0_2 l0_2 c0_2 A0_3 l0_3 c0_3 A0_4 l0_4 c0_4 a0_5) 33 ?_; intro gb127 hg w2 hbox hb; have BK127 := ak hbox; have GW127 := gw hg HB; have GE127 := gw hg HB; replace HB := bs HB hb; clear hb hbox hg)); try go_wp2_with (first | ((with_reducible refine gate_dst (N := 1) rfl ?_); (try (refine gate_guard (by rfl) ?_; dsimp only)); refine bx 1 (f5 A0_0 l0_0 c0_0 A0_1 l0_1 c0_1 A0_2 l0_2 c0_2 A0_3 l0_3 c0_3 A0_4 l0_4 c0_4 a0_5) 33 ?_; intro gb127 hg w2 hbox hb; have BK127 := ak hbox; have GW127 := gw hg HB; have GE127 := gw hg HB; replace HB := bs HB hb; clear hb hbox hg)))
 go_loopg [3] k (fun kq v3 w' => ∃ (x3_1 : Int), v3 = .int .i64 x3_1 ∧ Aside0 (spec_IsField.l0 kq x3_1 l0_0 l0_1 l0_2 l0_3 l0_4 a0_5 = some r) ∧ Aside0 (kq ≤ k) ∧ Aside0 (w'.heap[gb127]? = some (.cells (f5 A0_0 l0_0 c0_0 A0_1 l0_1 c0_1 A0_2 l0_2 c0_2 A0_3 l0_3 c0_3 A0_4 l0_4 c0_4 a0_5) 33 (0, 0))) ∧ Aside0 (Below w.heap.size w w'))
 case atStart => exact ⟨(0), es, H', ⟨Nat.le_refl _⟩, ⟨vk BK127.out⟩, ⟨vb HB.out⟩⟩
 case round =>
  clear H'; obtain ⟨x3_1, rfl, HA, HK1, BK127, HB⟩ := hrel
  cases gk with
  | zero => exact absurd HA.out (by simp [spec_IsField.l0])
  | succ k1 =>
   have H := HA.out; clear HA; simp only [spec_IsField.l0] at H
   by_cases c3 : x3_1 < (l0_2.length : Int)
   ·rw [if_pos c3] at H; have c3b0 := decide_eq_true c3; clear c3; by_cases c4 : 0 ≤ x3_1
    ·rw [if_pos c4] at H; have c4b0 := decide_eq_true c4; clear c4; obtain ⟨t129, A5, H⟩ := bnk H; by_cases c6 : t129 = true
     ·subst c6; rw [if_pos rfl] at H; have H' := ak H; clear H; have hcz7 := cz6 BK127.out; have p128 : 0 ≤ (x3_1 : Int) := od; have q128 : x3_1 < (l0_2.length : Int) := od; obtain ⟨ad128, e128, hx128_0⟩ := Kd.at_int HR0_2.out x3_1 p128 q128
      cases e128; replace hx128_0 := cb HB.out hx128_0; replace p128 := eq_true p128; replace q128 := eq_true q128; go_wp2_with (first | (go_at_call 65; (with_reducible refine (spec_l01In.calls (rd l0_2 x3_1) 20 300 _ _ A5.out).mono ?_); rintro e w' ⟨rfl, ⟨nd, rfl⟩⟩; (try first | exact ⟨rfl, _, World.drewN_drewN _ _ _⟩ | exact ⟨rfl, _, Eq.trans (World.drewN_drewN _ _ _) (congrArg (World.drewN _) (Nat.add_assoc _ _ _))⟩)))
      repeat (go_quiet (first | (go_at_call 65; (with_reducible refine (spec_l01In.calls (rd l0_2 x3_1) 20 300 _ _ A5.out).mono ?_); rintro e w' ⟨rfl, ⟨nd, rfl⟩⟩; (try first | exact ⟨rfl, _, World.drewN_drewN _ _ _⟩ | exact ⟨rfl, _, Eq.trans (World.drewN_drewN _ _ _) (congrArg (World.drewN _) (Nat.add_assoc _ _ _))⟩))); try go_wp2_with (first | (go_at_call 65; (with_reducible refine (spec_l01In.calls (rd l0_2 x3_1) 20 300 _ _ A5.out).mono ?_); rintro e w' ⟨rfl, ⟨nd, rfl⟩⟩; (try first | exact ⟨rfl, _, World.drewN_drewN _ _ _⟩ | exact ⟨rfl, _, Eq.trans (World.drewN_drewN _ _ _) (congrArg (World.drewN _) (Nat.add_assoc _ _ _))⟩))))
      go_roundg k1
      case measure => have := HK1.out; omega
      case rel => exact ⟨(wrap64 (x3_1 + 1)), es, H', ⟨by have := HK1.out; omega⟩, ⟨vk BK127.out⟩, ⟨vb HB.out⟩⟩
     ·replace c6 := Bool.eq_false_iff.mpr c6; subst c6; rw [if_neg nf] at H; obtain rfl := sj H; have hcz8 := cz6 BK127.out; have p128 : 0 ≤ (x3_1 : Int) := od; have q128 : x3_1 < (l0_2.length : Int) := od; obtain ⟨ad128, e128, hx128_0⟩ := Kd.at_int HR0_2.out x3_1 p128 q128
      cases e128; replace hx128_0 := cb HB.out hx128_0; replace p128 := eq_true p128; replace q128 := eq_true q128; go_wp2_with (first | (go_at_call 65; (with_reducible refine (spec_l01In.calls (rd l0_2 x3_1) 20 300 _ _ A5.out).mono ?_); rintro e w' ⟨rfl, ⟨nd, rfl⟩⟩; (try first | exact ⟨rfl, _, World.drewN_drewN _ _ _⟩ | exact ⟨rfl, _, Eq.trans (World.drewN_drewN _ _ _) (congrArg (World.drewN _) (Nat.add_assoc _ _ _))⟩)))
      repeat (go_quiet (first | (go_at_call 65; (with_reducible refine (spec_l01In.calls (rd l0_2 x3_1) 20 300 _ _ A5.out).mono ?_); rintro e w' ⟨rfl, ⟨nd, rfl⟩⟩; (try first | exact ⟨rfl, _, World.drewN_drewN _ _ _⟩ | exact ⟨rfl, _, Eq.trans (World.drewN_drewN _ _ _) (congrArg (World.drewN _) (Nat.add_assoc _ _ _))⟩))); try go_wp2_with (first | (go_at_call 65; (with_reducible refine (spec_l01In.calls (rd l0_2 x3_1) 20 300 _ _ A5.out).mono ?_); rintro e w' ⟨rfl, ⟨nd, rfl⟩⟩; (try first | exact ⟨rfl, _, World.drewN_drewN _ _ _⟩ | exact ⟨rfl, _, Eq.trans (World.drewN_drewN _ _ _) (congrArg (World.drewN _) (Nat.add_assoc _ _ _))⟩))))
      go_ret
      exact ⟨ew, vb HB.out⟩
    ·exact nO_ c4 H
   ·rw [if_neg c3] at H; have c3b0 := decide_eq_false c3; clear c3; have HC9 := ak H; clear H; have hcz10 := cz6 BK127.out; go_upto_region 6 with (fail)
    repeat (go_quiet (fail); go_upto_region 6 with (fail))
    go_cut [37] (fun v37 wc => ∃ (kq : Nat) (x37_8 : Bool), v37 = .bool x37_8 ∧ Aside0 (spec_IsField.j1 kq x37_8 l0_0 l0_1 l0_2 l0_3 l0_4 a0_5 = some r) ∧ Aside0 (kq ≤ k1) ∧ Aside0 (wc.heap[gb127]? = some (.cells (f5 A0_0 l0_0 c0_0 A0_1 l0_1 c0_1 A0_2 l0_2 c0_2 A0_3 l0_3 c0_3 A0_4 l0_4 c0_4 a0_5) 33 (0, 0))) ∧ Aside0 (Below w.heap.size w wc))
    case first =>
     have H := HC9.out; clear HC9; by_cases c11 : (l0_3.length : Int) = (l0_4.length : Int)
     ·rw [if_pos c11] at H; obtain ⟨c11b0, c11b1⟩ := bqt c11; have c11b2 : (l0_3.length == l0_4.length) = true := by first | simpa using c11 | (simp at c11 ⊢; omega)
      clear c11; (first | rw [c11b0] | (simp only [i64_w, i32_w]; rw [c11b0]) | skip)
      by_cases c12 : (l0_3.length : Int) > 7
      ·rw [if_pos c12] at H; have c12b0 := decide_eq_true c12; have c12b1 : decide (7 < l0_3.length) = true := decide_eq_true (by omega); clear c12; have H' := ak H; clear H; have hcz13 := cz6 BK127.out; go_wp2
       repeat (go_quiet (fail); try go_wp2)
       go_meet
       case rel => exact ⟨_, (true), es, H', ⟨by have := HK1.out; first | omega | exact Nat.le_refl _⟩, ⟨vk BK127.out⟩, ⟨vb HB.out⟩⟩
      ·rw [if_neg c12] at H; have c12b0 := decide_eq_false c12; have c12b1 : decide (7 < l0_3.length) = false := decide_eq_false (by omega); clear c12; have H' := ak H; clear H; have hcz14 := cz6 BK127.out; go_wp2
       repeat (go_quiet (fail); try go_wp2)
       go_meet
       case rel => exact ⟨_, (decide ((l0_2.length : Int) > 4)), es, H', ⟨by have := HK1.out; first | omega | exact Nat.le_refl _⟩, ⟨vk BK127.out⟩, ⟨vb HB.out⟩⟩
     ·rw [if_neg c11] at H; obtain ⟨c11b0, c11b1⟩ := bqf c11; have c11b2 : (l0_3.length == l0_4.length) = false := by first | simpa using c11 | (simp at c11 ⊢; omega)
      (first | rw [c11b0] | (simp only [i64_w, i32_w]; rw [c11b0]) | skip)
      have H' := ak H; clear H; have hcz15 := cz6 BK127.out; go_wp2
      repeat (go_quiet (fail); try go_wp2)
      go_meet
      case rel => exact ⟨_, (true), es, H', ⟨by have := HK1.out; first | omega | exact Nat.le_refl _⟩, ⟨vk BK127.out⟩, ⟨vb HB.out⟩⟩
    case rest =>
     clear HC9; obtain ⟨kq, x37_8, rfl, HA, HJ8, BK127, HB⟩ := hcut
     cases kq with
     | zero => exact absurd HA.out (by simp [spec_IsField.j1])
     | succ kj8 =>
      have H := HA.out; clear HA; simp only [spec_IsField.j1] at H
      by_cases c16 : x37_8 = true
      ·subst c16; rw [if_pos rfl] at H; obtain rfl := sj H; go_wp2
       repeat (go_quiet (fail); try go_wp2)
       go_ret
       exact ⟨ew, vb HB.out⟩
      ·replace c16 := Bool.eq_false_iff.mpr c16; subst c16; rw [if_neg nf] at H; have H' := ak H; clear H; go_wp2
       repeat (go_quiet (fail); try go_wp2)
       go_loopg [4] kj8 (fun kq v4 w' => ∃ (x4_3 : Int), v4 = .int .i64 x4_3 ∧ Aside0 (spec_IsField.l1 kq x4_3 l0_0 l0_1 l0_2 l0_3 l0_4 a0_5 = some r) ∧ Aside0 (kq ≤ kj8) ∧ Aside0 (w'.heap[gb127]? = some (.cells (f5 A0_0 l0_0 c0_0 A0_1 l0_1 c0_1 A0_2 l0_2 c0_2 A0_3 l0_3 c0_3 A0_4 l0_4 c0_4 a0_5) 33 (0, 0))) ∧ Aside0 (Below w.heap.size w w'))
       case atStart => exact ⟨(0), es, H', ⟨Nat.le_refl _⟩, ⟨vk BK127.out⟩, ⟨vb HB.out⟩⟩
       case round =>
        clear H'; obtain ⟨x4_3, rfl, HA, HK3, BK127, HB⟩ := hrel
        cases gk with
        | zero => exact absurd HA.out (by simp [spec_IsField.l1])
        | succ k3 =>
         have H := HA.out; clear HA; simp only [spec_IsField.l1] at H
         by_cases c17 : x4_3 < (l0_3.length : Int)
         ·rw [if_pos c17] at H; have c17b0 := decide_eq_true c17; clear c17; by_cases c18 : 0 ≤ x4_3
          ·rw [if_pos c18] at H; have c18b0 := decide_eq_true c18; clear c18; by_cases c19 : x4_3 < (l0_4.length : Int)
           ·rw [if_pos c19] at H; have c19b0 := decide_eq_true c19; clear c19; obtain ⟨t132, A20, H⟩ := bnk H; by_cases c21 : t132 = true
            ·subst c21; rw [if_pos rfl] at H; have H' := ak H; clear H; have hcz22 := cz6 BK127.out; have p130 : 0 ≤ (x4_3 : Int) := od; have q130 : x4_3 < (l0_3.length : Int) := od; obtain ⟨ad130, e130, hx130_0⟩ := Kd.at_int HR0_3.out x4_3 p130 q130
             cases e130; replace hx130_0 := cb HB.out hx130_0; replace p130 := eq_true p130; replace q130 := eq_true q130; have p131 : 0 ≤ (x4_3 : Int) := od; have q131 : x4_3 < (l0_4.length : Int) := od; obtain ⟨ad131, e131, hx131_0⟩ := Kd.at_int HR0_4.out x4_3 p131 q131
             cases e131; replace hx131_0 := cb HB.out hx131_0; replace p131 := eq_true p131; replace q131 := eq_true q131; go_wp2_with (first | (go_at_call 105; (with_reducible refine (spec_l15Place.calls (rd l0_3 x4_3) (rd l0_4 x4_3) _ _ A20.out).mono ?_); rintro e w' ⟨rfl, ⟨nd, rfl⟩⟩; (try first | exact ⟨rfl, _, World.drewN_drewN _ _ _⟩ | exact ⟨rfl, _, Eq.trans (World.drewN_drewN _ _ _) (congrArg (World.drewN _) (Nat.add_assoc _ _ _))⟩)))
             repeat (go_quiet (first | (go_at_call 105; (with_reducible refine (spec_l15Place.calls (rd l0_3 x4_3) (rd l0_4 x4_3) _ _ A20.out).mono ?_); rintro e w' ⟨rfl, ⟨nd, rfl⟩⟩; (try first | exact ⟨rfl, _, World.drewN_drewN _ _ _⟩ | exact ⟨rfl, _, Eq.trans (World.drewN_drewN _ _ _) (congrArg (World.drewN _) (Nat.add_assoc _ _ _))⟩))); try go_wp2_with (first | (go_at_call 105; (with_reducible refine (spec_l15Place.calls (rd l0_3 x4_3) (rd l0_4 x4_3) _ _ A20.out).mono ?_); rintro e w' ⟨rfl, ⟨nd, rfl⟩⟩; (try first | exact ⟨rfl, _, World.drewN_drewN _ _ _⟩ | exact ⟨rfl, _, Eq.trans (World.drewN_drewN _ _ _) (congrArg (World.drewN _) (Nat.add_assoc _ _ _))⟩))))
             go_roundg k3
             case measure => have := HK1.out; have := HJ8.out; have := HK3.out; omega
             case rel => exact ⟨(wrap64 (x4_3 + 1)), es, H', ⟨by have := HK1.out; have := HJ8.out; have := HK3.out; omega⟩, ⟨vk BK127.out⟩, ⟨vb HB.out⟩⟩
            ·replace c21 := Bool.eq_false_iff.mpr c21; subst c21; rw [if_neg nf] at H; obtain rfl := sj H; have hcz23 := cz6 BK127.out; have p130 : 0 ≤ (x4_3 : Int) := od; have q130 : x4_3 < (l0_3.length : Int) := od; obtain ⟨ad130, e130, hx130_0⟩ := Kd.at_int HR0_3.out x4_3 p130 q130
             cases e130; replace hx130_0 := cb HB.out hx130_0; replace p130 := eq_true p130; replace q130 := eq_true q130; have p131 : 0 ≤ (x4_3 : Int) := od; have q131 : x4_3 < (l0_4.length : Int) := od; obtain ⟨ad131, e131, hx131_0⟩ := Kd.at_int HR0_4.out x4_3 p131 q131
             cases e131; replace hx131_0 := cb HB.out hx131_0; replace p131 := eq_true p131; replace q131 := eq_true q131; go_wp2_with (first | (go_at_call 105; (with_reducible refine (spec_l15Place.calls (rd l0_3 x4_3) (rd l0_4 x4_3) _ _ A20.out).mono ?_); rintro e w' ⟨rfl, ⟨nd, rfl⟩⟩; (try first | exact ⟨rfl, _, World.drewN_drewN _ _ _⟩ | exact ⟨rfl, _, Eq.trans (World.drewN_drewN _ _ _) (congrArg (World.drewN _) (Nat.add_assoc _ _ _))⟩)))
             repeat (go_quiet (first | (go_at_call 105; (with_reducible refine (spec_l15Place.calls (rd l0_3 x4_3) (rd l0_4 x4_3) _ _ A20.out).mono ?_); rintro e w' ⟨rfl, ⟨nd, rfl⟩⟩; (try first | exact ⟨rfl, _, World.drewN_drewN _ _ _⟩ | exact ⟨rfl, _, Eq.trans (World.drewN_drewN _ _ _) (congrArg (World.drewN _) (Nat.add_assoc _ _ _))⟩))); try go_wp2_with (first | (go_at_call 105; (with_reducible refine (spec_l15Place.calls (rd l0_3 x4_3) (rd l0_4 x4_3) _ _ A20.out).mono ?_); rintro e w' ⟨rfl, ⟨nd, rfl⟩⟩; (try first | exact ⟨rfl, _, World.drewN_drewN _ _ _⟩ | exact ⟨rfl, _, Eq.trans (World.drewN_drewN _ _ _) (congrArg (World.drewN _) (Nat.add_assoc _ _ _))⟩))))
             go_ret
             exact ⟨ew, vb HB.out⟩
           ·exact nO_ c19 H
          ·exact nO_ c18 H
         ·rw [if_neg c17] at H; have c17b0 := decide_eq_false c17; clear c17; obtain ⟨t133, A24, H⟩ := bnk H; by_cases c25 : t133 = true
          ·subst c25; rw [if_pos rfl] at H; obtain ⟨t134, A26, H⟩ := bnk H; by_cases c27 : t134 = true
           ·subst c27; rw [if_pos rfl] at H; obtain ⟨t135, A28, H⟩ := bnk H; obtain rfl := sj H; have hcz29 := cz6 BK127.out; go_wp2_with (first | (go_at_call 106; (with_reducible refine (spec_IsTable.calls k3 _ _ l0_0 _ _ ?_ HC0_0.out A24.out).mono ?_); exact vd HR0_0.out HB.out; rintro e w30 ⟨rfl, hb⟩; replace BK127 := kb BK127 hb; replace HB := bs HB hb; (try clear hb); have hcz31 := cz6 BK127.out) | (go_at_call 107; (with_reducible refine (spec_IsSite.calls k3 _ _ l0_1 _ _ ?_ HC0_1.out A26.out).mono ?_); exact vd HR0_1.out HB.out; rintro e w32 ⟨rfl, hb⟩; replace BK127 := kb BK127 hb; replace HB := bs HB hb; (try clear hb); have hcz33 := cz6 BK127.out) | (go_at_call 65; (with_reducible refine (spec_l01In.calls a0_5 0 10000 t135 _ A28.out).mono ?_); rintro e w' ⟨rfl, ⟨nd, rfl⟩⟩; (try first | exact ⟨rfl, _, World.drewN_drewN _ _ _⟩ | exact ⟨rfl, _, Eq.trans (World.drewN_drewN _ _ _) (congrArg (World.drewN _) (Nat.add_assoc _ _ _))⟩)))
            repeat (go_quiet (first | (go_at_call 106; (with_reducible refine (spec_IsTable.calls k3 _ _ l0_0 _ _ ?_ HC0_0.out A24.out).mono ?_); exact vd HR0_0.out HB.out; rintro e w30 ⟨rfl, hb⟩; replace BK127 := kb BK127 hb; replace HB := bs HB hb; (try clear hb); have hcz31 := cz6 BK127.out) | (go_at_call 107; (with_reducible refine (spec_IsSite.calls k3 _ _ l0_1 _ _ ?_ HC0_1.out A26.out).mono ?_); exact vd HR0_1.out HB.out; rintro e w32 ⟨rfl, hb⟩; replace BK127 := kb BK127 hb; replace HB := bs HB hb; (try clear hb); have hcz33 := cz6 BK127.out) | (go_at_call 65; (with_reducible refine (spec_l01In.calls a0_5 0 10000 t135 _ A28.out).mono ?_); rintro e w' ⟨rfl, ⟨nd, rfl⟩⟩; (try first | exact ⟨rfl, _, World.drewN_drewN _ _ _⟩ | exact ⟨rfl, _, Eq.trans (World.drewN_drewN _ _ _) (congrArg (World.drewN _) (Nat.add_assoc _ _ _))⟩))); try go_wp2_with (first | (go_at_call 106; (with_reducible refine (spec_IsTable.calls k3 _ _ l0_0 _ _ ?_ HC0_0.out A24.out).mono ?_); exact vd HR0_0.out HB.out; rintro e w30 ⟨rfl, hb⟩; replace BK127 := kb BK127 hb; replace HB := bs HB hb; (try clear hb); have hcz31 := cz6 BK127.out) | (go_at_call 107; (with_reducible refine (spec_IsSite.calls k3 _ _ l0_1 _ _ ?_ HC0_1.out A26.out).mono ?_); exact vd HR0_1.out HB.out; rintro e w32 ⟨rfl, hb⟩; replace BK127 := kb BK127 hb; replace HB := bs HB hb; (try clear hb); have hcz33 := cz6 BK127.out) | (go_at_call 65; (with_reducible refine (spec_l01In.calls a0_5 0 10000 t135 _ A28.out).mono ?_); rintro e w' ⟨rfl, ⟨nd, rfl⟩⟩; (try first | exact ⟨rfl, _, World.drewN_drewN _ _ _⟩ | exact ⟨rfl, _, Eq.trans (World.drewN_drewN _ _ _) (congrArg (World.drewN _) (Nat.add_assoc _ _ _))⟩))))
            go_ret
            exact ⟨ew, vb HB.out⟩
           ·replace c27 := Bool.eq_false_iff.mpr c27; subst c27; rw [if_neg nf] at H; obtain rfl := sj H; have hcz34 := cz6 BK127.out; go_wp2_with (first | (go_at_call 106; (with_reducible refine (spec_IsTable.calls k3 _ _ l0_0 _ _ ?_ HC0_0.out A24.out).mono ?_); exact vd HR0_0.out HB.out; rintro e w35 ⟨rfl, hb⟩; replace BK127 := kb BK127 hb; replace HB := bs HB hb; (try clear hb); have hcz36 := cz6 BK127.out) | (go_at_call 107; (with_reducible refine (spec_IsSite.calls k3 _ _ l0_1 _ _ ?_ HC0_1.out A26.out).mono ?_); exact vd HR0_1.out HB.out; rintro e w37 ⟨rfl, hb⟩; replace BK127 := kb BK127 hb; replace HB := bs HB hb; (try clear hb)))
            repeat (go_quiet (first | (go_at_call 106; (with_reducible refine (spec_IsTable.calls k3 _ _ l0_0 _ _ ?_ HC0_0.out A24.out).mono ?_); exact vd HR0_0.out HB.out; rintro e w35 ⟨rfl, hb⟩; replace BK127 := kb BK127 hb; replace HB := bs HB hb; (try clear hb); have hcz36 := cz6 BK127.out) | (go_at_call 107; (with_reducible refine (spec_IsSite.calls k3 _ _ l0_1 _ _ ?_ HC0_1.out A26.out).mono ?_); exact vd HR0_1.out HB.out; rintro e w37 ⟨rfl, hb⟩; replace BK127 := kb BK127 hb; replace HB := bs HB hb; (try clear hb))); try go_wp2_with (first | (go_at_call 106; (with_reducible refine (spec_IsTable.calls k3 _ _ l0_0 _ _ ?_ HC0_0.out A24.out).mono ?_); exact vd HR0_0.out HB.out; rintro e w35 ⟨rfl, hb⟩; replace BK127 := kb BK127 hb; replace HB := bs HB hb; (try clear hb); have hcz36 := cz6 BK127.out) | (go_at_call 107; (with_reducible refine (spec_IsSite.calls k3 _ _ l0_1 _ _ ?_ HC0_1.out A26.out).mono ?_); exact vd HR0_1.out HB.out; rintro e w37 ⟨rfl, hb⟩; replace BK127 := kb BK127 hb; replace HB := bs HB hb; (try clear hb))))
            go_ret
            exact ⟨ew, vb HB.out⟩
          ·replace c25 := Bool.eq_false_iff.mpr c25; subst c25; rw [if_neg nf] at H; obtain rfl := sj H; have hcz38 := cz6 BK127.out; go_wp2_with (first | (go_at_call 106; (with_reducible refine (spec_IsTable.calls k3 _ _ l0_0 _ _ ?_ HC0_0.out A24.out).mono ?_); exact vd HR0_0.out HB.out; rintro e w39 ⟨rfl, hb⟩; replace BK127 := kb BK127 hb; replace HB := bs HB hb; (try clear hb)))
           repeat (go_quiet (first | (go_at_call 106; (with_reducible refine (spec_IsTable.calls k3 _ _ l0_0 _ _ ?_ HC0_0.out A24.out).mono ?_); exact vd HR0_0.out HB.out; rintro e w39 ⟨rfl, hb⟩; replace BK127 := kb BK127 hb; replace HB := bs HB hb; (try clear hb))); try go_wp2_with (first | (go_at_call 106; (with_reducible refine (spec_IsTable.calls k3 _ _ l0_0 _ _ ?_ HC0_0.out A24.out).mono ?_); exact vd HR0_0.out HB.out; rintro e w39 ⟨rfl, hb⟩; replace BK127 := kb BK127 hb; replace HB := bs HB hb; (try clear hb))))
           go_ret
           exact ⟨ew, vb HB.out⟩


/-! ### impl_within: function 85 -/
def impl_within.f (a0 : Int) (a1 : Int) (a2 : Int) : Option (Bool) := if a1 ≤ a0 then (some (decide (a0 ≤ a2))) else (some false)
set_option maxHeartbeats 8000000 in
set_option maxRecDepth 100000 in
theorem impl_within.calls (a0 : Int) (a1 : Int) (a2 : Int) (r : Bool) (w : World) (h : impl_within.f a0 a1 a2 = some r) :
  Calls Try.prog 85 #[.int .i64 a0, .int .i64 a1, .int .i64 a2] w fun e w' => e = .returned (.bool r) ∧ Drawn0 w w' := by
 unfold impl_within.f at h; have H := h; clear h; by_cases c4 : a1 ≤ a0
 rw [if_pos c4] at H; have c4b0 := decide_eq_true c4; clear c4; obtain rfl := sj H; rotate_left
 rw [if_neg c4] at H; have c4b0 := decide_eq_false c4; clear c4; obtain rfl := sj H; rotate_left
 all_goals
  go_enter Try.func85, Try.ntmps85; go_wp2
  go_ret
  exact ⟨by first | rfl | (simp; done) | (simp [*]; done), by repeat (first | exact Drawn0.refl _ | apply Drawn0.step)⟩


/-! ### impl_isCalibre: function 92 -/
def impl_isCalibre.f (a0 : Int) : Option (Bool) := (impl_within.f a0 20 300).bind fun t302 => (some t302)
set_option maxHeartbeats 8000000 in
set_option maxRecDepth 100000 in
theorem impl_isCalibre.calls (a0 : Int) (r : Bool) (w : World) (h : impl_isCalibre.f a0 = some r) :
  Calls Try.prog 92 #[.int .i64 a0] w fun e w' => e = .returned (.bool r) ∧ Drawn0 w w' := by
 unfold impl_isCalibre.f at h; have H := h; clear h; obtain ⟨t302, A2, H⟩ := bnk H; obtain rfl := sj H; go_enter Try.func92, Try.ntmps92; go_wp2_with (first | ((with_reducible refine at_fn (f := 85) rfl ?_); refine gl (some 4) Try.func85 #[.int .i64 a0, .int .i64 20, .int .i64 300] ?_; (with_reducible refine (impl_within.calls a0 20 300 t302 _ A2.out).mono ?_); rintro e w' ⟨rfl, ⟨nd, rfl⟩⟩; refine ⟨_, rfl, ?_⟩))
 go_ret
 exact ⟨by first | rfl | (simp; done) | (simp [*]; done), by repeat (first | exact Drawn0.refl _ | apply Drawn0.step)⟩


/-! ### impl_isKind: function 122 -/
def impl_isKind.f (a0 : Int) : Option (Bool) := (impl_within.f a0 0 3).bind fun t303 => (some t303)
set_option maxHeartbeats 8000000 in
set_option maxRecDepth 100000 in
theorem impl_isKind.calls (a0 : Int) (r : Bool) (w : World) (h : impl_isKind.f a0 = some r) :
  Calls Try.prog 122 #[.int .i64 a0] w fun e w' => e = .returned (.bool r) ∧ Drawn0 w w' := by
 unfold impl_isKind.f at h; have H := h; clear h; obtain ⟨t303, A2, H⟩ := bnk H; obtain rfl := sj H; go_enter Try.func122, Try.ntmps122; go_wp2_with (first | ((with_reducible refine at_fn (f := 85) rfl ?_); refine gl (some 4) Try.func85 #[.int .i64 a0, .int .i64 0, .int .i64 3] ?_; (with_reducible refine (impl_within.calls a0 0 3 t303 _ A2.out).mono ?_); rintro e w' ⟨rfl, ⟨nd, rfl⟩⟩; refine ⟨_, rfl, ?_⟩))
 go_ret
 exact ⟨by first | rfl | (simp; done) | (simp [*]; done), by repeat (first | exact Drawn0.refl _ | apply Drawn0.step)⟩


/-! ### impl_IsTable: function 82 -/
mutual
def impl_IsTable.l0 : Nat → List (S98) → List (S98) → Int → Int → Option (Bool)
 | 0, _, _, _, _ => none
 | k + 1, x0, x9, x10, x11 => if x11 < x10 then (if 0 ≤ x11 then (if x11 < (x9.length : Int) then ((impl_isKind.f ((rd_T98 x9 x11).f0)).bind fun t306 => (if t306 = true then ((impl_isCalibre.f ((rd_T98 x9 x11).f1)).bind fun t307 => (if t307 = true then ((impl_within.f ((rd_T98 x9 x11).f2) 0 10000).bind fun t308 => (impl_IsTable.j1 k x0 x11 x9 x10 x11 (!t308) ((rd_T98 x9 x11).f0) ((rd_T98 x9 x11).f1) ((rd_T98 x9 x11).f2))) else (impl_IsTable.j1 k x0 x11 x9 x10 x11 true ((rd_T98 x9 x11).f0) ((rd_T98 x9 x11).f1) ((rd_T98 x9 x11).f2)))) else (impl_IsTable.j1 k x0 x11 x9 x10 x11 true ((rd_T98 x9 x11).f0) ((rd_T98 x9 x11).f1) ((rd_T98 x9 x11).f2)))) else (none)) else (none)) else (some true)
def impl_IsTable.j1 : Nat → List (S98) → Int → List (S98) → Int → Int → Bool → Int → Int → Int → Option (Bool)
 | 0, _, _, _, _, _, _, _, _, _ => none
 | k + 1, x0, x3, x9, x10, x11, x31, x306000, x306001, x306002 => if x31 = true then (some false) else (if x3 = 0 then (impl_IsTable.l0 k x0 x9 x10 (wrap64 (x11 + 1))) else (if 0 ≤ (wrap64 (x3 - 1)) then (if (wrap64 (x3 - 1)) < (x0.length : Int) then (if ((rd_T98 x0 (wrap64 (x3 - 1))).f0) > x306000 then (some false) else (if ((rd_T98 x0 (wrap64 (x3 - 1))).f0) = x306000 then (if ((rd_T98 x0 (wrap64 (x3 - 1))).f1) ≥ x306001 then (some false) else (if ((rd_T98 x0 (wrap64 (x3 - 1))).f2) > x306002 then (some false) else (impl_IsTable.l0 k x0 x9 x10 (wrap64 (x11 + 1))))) else (impl_IsTable.l0 k x0 x9 x10 (wrap64 (x11 + 1))))) else (none)) else (none)))
end
def impl_IsTable.f (k : Nat) (l0 : List (S98)) : Option (Bool) := if (l0.length : Int) > 12 then (some false) else (impl_IsTable.l0 k l0 l0 (l0.length : Int) 0)
theorem impl_IsTable.mono_l : ∀ k, (∀ y0 y1 y2 y3, LeO (impl_IsTable.l0 k y0 y1 y2 y3) (impl_IsTable.l0 (k + 1) y0 y1 y2 y3)) ∧ (∀ y0 y1 y2 y3 y4 y5 y6 y7 y8, LeO (impl_IsTable.j1 k y0 y1 y2 y3 y4 y5 y6 y7 y8) (impl_IsTable.j1 (k + 1) y0 y1 y2 y3 y4 y5 y6 y7 y8))
 | 0 => ⟨fun _ _ _ _ r h => by simp [impl_IsTable.l0] at h, fun _ _ _ _ _ _ _ _ _ r h => by simp [impl_IsTable.j1] at h⟩
 | k + 1 => by
  obtain ⟨ih0, ih1⟩ := impl_IsTable.mono_l k; refine ⟨?_, ?_⟩
  ·intro y0 y1 y2 y3; unfold impl_IsTable.l0
   repeat' (with_reducible first | exact ih0 .. | exact ih1 .. | exact lm | refine LeO.ite ?_ ?_ | refine LeO.bind ?_ (fun _ => ?_))
  ·intro y0 y1 y2 y3 y4 y5 y6 y7 y8; unfold impl_IsTable.j1
   repeat' (with_reducible first | exact ih0 .. | exact ih1 .. | exact lm | refine LeO.ite ?_ ?_ | refine LeO.bind ?_ (fun _ => ?_))
theorem impl_IsTable.mono : ∀ a0 k, LeO (impl_IsTable.f k a0) (impl_IsTable.f (k + 1) a0) := by
 intro a0 k; obtain ⟨ih0, ih1⟩ := impl_IsTable.mono_l k; unfold impl_IsTable.f
 repeat' (with_reducible first | exact ih0 .. | exact ih1 .. | exact lm | refine LeO.ite ?_ ?_ | refine LeO.bind ?_ (fun _ => ?_))
set_option maxHeartbeats 8000000 in
set_option maxRecDepth 100000 in
theorem impl_IsTable.calls (k : Nat) (A0 : Option Addr) (c0 : Nat) (l0 : List (S98)) (r : Bool) (w : World) (hr0 : Kd.C k98 w A0 l0.length l0) (hc0 : l0.length ≤ c0) (h : impl_IsTable.f k l0 = some r) :
  Calls Try.prog 82 #[.slice A0 l0.length c0] w fun e w' => e = .returned (.bool r) ∧ Below w.heap.size w w' := by
 have hu98 := Try.underlying98; have HR0 := ak hr0; have HC0 := ak hc0; clear hr0 hc0; have HB := ak (Below.refl w.heap.size w); unfold impl_IsTable.f at h; have H := h; clear h; by_cases c2 : (l0.length : Int) > 12
 ·rw [if_pos c2] at H; have c2b0 := decide_eq_true c2; have c2b1 : decide (12 < l0.length) = true := decide_eq_true (by omega); clear c2; obtain rfl := sj H; go_enter Try.func82, Try.ntmps82; go_wp2
  go_ret
  exact ⟨ew, vb HB.out⟩
 ·rw [if_neg c2] at H; have c2b0 := decide_eq_false c2; have c2b1 : decide (12 < l0.length) = false := decide_eq_false (by omega); clear c2; have H' := ak H; clear H; go_enter Try.func82, Try.ntmps82; go_wp2
  go_loopg [11] k (fun kq v11 w' => ∃ (x11_1 : Int), v11 = .int .i64 x11_1 ∧ Aside0 (impl_IsTable.l0 kq l0 l0 (l0.length : Int) x11_1 = some r) ∧ Aside0 (kq ≤ k) ∧ Aside0 (Below w.heap.size w w'))
  case atStart => exact ⟨(0), es, H', ⟨Nat.le_refl _⟩, ⟨vb HB.out⟩⟩
  case round =>
   clear H'; obtain ⟨x11_1, rfl, HA, HK1, HB⟩ := hrel
   cases gk with
   | zero => exact absurd HA.out (by simp [impl_IsTable.l0])
   | succ k1 =>
    have H := HA.out; clear HA; simp only [impl_IsTable.l0] at H
    by_cases c3 : x11_1 < (l0.length : Int)
    ·rw [if_pos c3] at H; have c3b0 := decide_eq_true c3; clear c3; by_cases c4 : 0 ≤ x11_1
     ·rw [if_pos c4] at H; have c4b0 := decide_eq_true c4; clear c4; by_cases c5 : x11_1 < (l0.length : Int)
      ·rw [if_pos c5] at H; have c5b0 := decide_eq_true c5; clear c5; have HC6 := ak H; clear H; have p304 : 0 ≤ (x11_1 : Int) := od; have q304 : x11_1 < (l0.length : Int) := od; obtain ⟨ad304, e304, hx304_0, hx304_1, hx304_2⟩ := at_T98 HR0.out x11_1 p304 q304
       cases e304; replace hx304_0 := cb HB.out hx304_0; replace hx304_1 := cb HB.out hx304_1; replace hx304_2 := cb HB.out hx304_2; replace p304 := eq_true p304; replace q304 := eq_true q304; go_upto_region 6 with (first | ((with_reducible refine gate_dst (N := 4) rfl ?_); refine bx 4 #[.int .i64 0, .int .i64 0, .int .i64 0] 98 ?_; intro gb305 hg w7 hbox hb; have BK305 := ak hbox; have GW305 := gw hg HB; have GE305 := gw hg HB; replace HB := bs HB hb; clear hb hbox hg; have hcz8 := cz3 BK305.out))
       (try simp only [Act.put, List.setIfInBounds_toArray, List.set_cons_zero, List.set_cons_succ])
       go_cut [31] (fun v31 wc => ∃ (kq : Nat) (x31_5 : Bool), v31 = .bool x31_5 ∧ Aside0 (impl_IsTable.j1 kq l0 x11_1 l0 (l0.length : Int) x11_1 x31_5 ((rd_T98 l0 x11_1).f0) ((rd_T98 l0 x11_1).f1) ((rd_T98 l0 x11_1).f2) = some r) ∧ Aside0 (kq ≤ k1) ∧ Aside0 (wc.heap[gb305]? = some (.cells #[.int .i64 ((rd_T98 l0 x11_1).f0), .int .i64 ((rd_T98 l0 x11_1).f1), .int .i64 ((rd_T98 l0 x11_1).f2)] 98 (0, 0))) ∧ Aside0 (Below w.heap.size w wc))
       case first =>
        have H := HC6.out; clear HC6; obtain ⟨t306, A9, H⟩ := bnk H; by_cases c10 : t306 = true
        ·subst c10; rw [if_pos rfl] at H; obtain ⟨t307, A11, H⟩ := bnk H; by_cases c12 : t307 = true
         ·subst c12; rw [if_pos rfl] at H; obtain ⟨t308, A13, H⟩ := bnk H; have H' := ak H; clear H; have hcz14 := cz3 BK305.out; go_wp2_with (first | ((with_reducible refine at_fn (f := 122) rfl ?_); refine gl (some 18) Try.func122 #[.int .i64 ((rd_T98 l0 x11_1).f0)] ?_; (with_reducible refine (impl_isKind.calls ((rd_T98 l0 x11_1).f0) _ _ A9.out).mono ?_); rintro e w' ⟨rfl, ⟨nd, rfl⟩⟩; refine ⟨_, rfl, ?_⟩) | (go_at_call 92; (with_reducible refine (impl_isCalibre.calls ((rd_T98 l0 x11_1).f1) _ _ A11.out).mono ?_); rintro e w' ⟨rfl, ⟨nd, rfl⟩⟩) | (go_at_call 85; (with_reducible refine (impl_within.calls ((rd_T98 l0 x11_1).f2) 0 10000 t308 _ A13.out).mono ?_); rintro e w' ⟨rfl, ⟨nd, rfl⟩⟩))
          go_meet
          case rel => exact ⟨_, (!t308), es, H', ⟨by have := HK1.out; first | omega | exact Nat.le_refl _⟩, ⟨by (with_reducible repeat (first | refine blk_drewN ?_ _ | refine blk_drew ?_ | refine blk_alloc ?_ _)); refine blk_put (cs := #[.int .i64 ((rd_T98 l0 x11_1).f0), .int .i64 ((rd_T98 l0 x11_1).f1), .int .i64 0]) ?_ 2 _ rfl; (with_reducible repeat (first | refine blk_drewN ?_ _ | refine blk_drew ?_ | refine blk_alloc ?_ _)); refine blk_put (cs := #[.int .i64 ((rd_T98 l0 x11_1).f0), .int .i64 0, .int .i64 0]) ?_ 1 _ rfl; (with_reducible repeat (first | refine blk_drewN ?_ _ | refine blk_drew ?_ | refine blk_alloc ?_ _)); refine blk_put (cs := #[.int .i64 0, .int .i64 0, .int .i64 0]) ?_ 0 _ rfl; exact vk BK305.out⟩, ⟨vb HB.out⟩⟩
         ·replace c12 := Bool.eq_false_iff.mpr c12; subst c12; rw [if_neg nf] at H; have H' := ak H; clear H; have hcz15 := cz3 BK305.out; go_wp2_with (first | ((with_reducible refine at_fn (f := 122) rfl ?_); refine gl (some 18) Try.func122 #[.int .i64 ((rd_T98 l0 x11_1).f0)] ?_; (with_reducible refine (impl_isKind.calls ((rd_T98 l0 x11_1).f0) _ _ A9.out).mono ?_); rintro e w' ⟨rfl, ⟨nd, rfl⟩⟩; refine ⟨_, rfl, ?_⟩) | (go_at_call 92; (with_reducible refine (impl_isCalibre.calls ((rd_T98 l0 x11_1).f1) _ _ A11.out).mono ?_); rintro e w' ⟨rfl, ⟨nd, rfl⟩⟩))
          go_meet
          case rel => exact ⟨_, (true), es, H', ⟨by have := HK1.out; first | omega | exact Nat.le_refl _⟩, ⟨by (with_reducible repeat (first | refine blk_drewN ?_ _ | refine blk_drew ?_ | refine blk_alloc ?_ _)); refine blk_put (cs := #[.int .i64 ((rd_T98 l0 x11_1).f0), .int .i64 ((rd_T98 l0 x11_1).f1), .int .i64 0]) ?_ 2 _ rfl; (with_reducible repeat (first | refine blk_drewN ?_ _ | refine blk_drew ?_ | refine blk_alloc ?_ _)); refine blk_put (cs := #[.int .i64 ((rd_T98 l0 x11_1).f0), .int .i64 0, .int .i64 0]) ?_ 1 _ rfl; (with_reducible repeat (first | refine blk_drewN ?_ _ | refine blk_drew ?_ | refine blk_alloc ?_ _)); refine blk_put (cs := #[.int .i64 0, .int .i64 0, .int .i64 0]) ?_ 0 _ rfl; exact vk BK305.out⟩, ⟨vb HB.out⟩⟩
        ·replace c10 := Bool.eq_false_iff.mpr c10; subst c10; rw [if_neg nf] at H; have H' := ak H; clear H; have hcz16 := cz3 BK305.out; go_wp2_with (first | ((with_reducible refine at_fn (f := 122) rfl ?_); refine gl (some 18) Try.func122 #[.int .i64 ((rd_T98 l0 x11_1).f0)] ?_; (with_reducible refine (impl_isKind.calls ((rd_T98 l0 x11_1).f0) _ _ A9.out).mono ?_); rintro e w' ⟨rfl, ⟨nd, rfl⟩⟩; refine ⟨_, rfl, ?_⟩))
         go_meet
         case rel => exact ⟨_, (true), es, H', ⟨by have := HK1.out; first | omega | exact Nat.le_refl _⟩, ⟨by (with_reducible repeat (first | refine blk_drewN ?_ _ | refine blk_drew ?_ | refine blk_alloc ?_ _)); refine blk_put (cs := #[.int .i64 ((rd_T98 l0 x11_1).f0), .int .i64 ((rd_T98 l0 x11_1).f1), .int .i64 0]) ?_ 2 _ rfl; (with_reducible repeat (first | refine blk_drewN ?_ _ | refine blk_drew ?_ | refine blk_alloc ?_ _)); refine blk_put (cs := #[.int .i64 ((rd_T98 l0 x11_1).f0), .int .i64 0, .int .i64 0]) ?_ 1 _ rfl; (with_reducible repeat (first | refine blk_drewN ?_ _ | refine blk_drew ?_ | refine blk_alloc ?_ _)); refine blk_put (cs := #[.int .i64 0, .int .i64 0, .int .i64 0]) ?_ 0 _ rfl; exact vk BK305.out⟩, ⟨vb HB.out⟩⟩
       case rest =>
        clear HC6; obtain ⟨kq, x31_5, rfl, HA, HJ5, BK305, HB⟩ := hcut
        cases kq with
        | zero => exact absurd HA.out (by simp [impl_IsTable.j1])
        | succ kj5 =>
         have H := HA.out; clear HA; simp only [impl_IsTable.j1] at H
         by_cases c17 : x31_5 = true
         ·subst c17; rw [if_pos rfl] at H; obtain rfl := sj H; go_wp2
          go_ret
          exact ⟨ew, vb HB.out⟩
         ·replace c17 := Bool.eq_false_iff.mpr c17; subst c17; rw [if_neg nf] at H; by_cases c18 : x11_1 = 0
          ·rw [if_pos c18] at H; obtain ⟨c18b0, c18b1⟩ := bqt c18; clear c18; have H' := ak H; clear H; go_wp2
           go_roundg kj5
           case measure => have := HK1.out; have := HJ5.out; omega
           case rel => exact ⟨(wrap64 (x11_1 + 1)), es, H', ⟨by have := HK1.out; have := HJ5.out; omega⟩, ⟨vb HB.out⟩⟩
          ·rw [if_neg c18] at H; obtain ⟨c18b0, c18b1⟩ := bqf c18; obtain ⟨ji19, hji19⟩ : ∃ j_ : Int, (wrap64 (x11_1 - 1)) = j_ := ⟨_, rfl⟩; replace H : (if 0 ≤ (ji19) then (if (ji19) < (l0.length : Int) then (if ((rd_T98 l0 (ji19)).f0) > ((rd_T98 l0 x11_1).f0) then (some false) else (if ((rd_T98 l0 (ji19)).f0) = ((rd_T98 l0 x11_1).f0) then (if ((rd_T98 l0 (ji19)).f1) ≥ ((rd_T98 l0 x11_1).f1) then (some false) else (if ((rd_T98 l0 (ji19)).f2) > ((rd_T98 l0 x11_1).f2) then (some false) else (impl_IsTable.l0 kj5 l0 l0 (l0.length : Int) (wrap64 (x11_1 + 1))))) else (impl_IsTable.l0 kj5 l0 l0 (l0.length : Int) (wrap64 (x11_1 + 1))))) else (none)) else (none)) = some r := by first | (rw [hji19] at H; exact H) | (simp only [hji19] at H ⊢; exact H)
           have hji19w : (IntKind.i64.wrap (x11_1 - 1)) = ji19 := (i64_w _).trans hji19; by_cases c20 : 0 ≤ (ji19)
           ·rw [if_pos c20] at H; have c20b0 := decide_eq_true c20; clear c20; by_cases c21 : (ji19) < (l0.length : Int)
            ·rw [if_pos c21] at H; have c21b0 := decide_eq_true c21; clear c21; by_cases c22 : ((rd_T98 l0 (ji19)).f0) > ((rd_T98 l0 x11_1).f0)
             ·rw [if_pos c22] at H; have c22b0 := decide_eq_true c22; clear c22; obtain rfl := sj H; have p309 : 0 ≤ ((ji19) : Int) := od; have q309 : (ji19) < (l0.length : Int) := od; obtain ⟨ad309, e309, hx309_0, hx309_1, hx309_2⟩ := at_T98 HR0.out (ji19) p309 q309; obtain rfl : ad304 = ad309 := (by injection e309); replace hx309_0 := cb HB.out hx309_0; replace hx309_1 := cb HB.out hx309_1; replace hx309_2 := cb HB.out hx309_2; replace p309 := eq_true p309; replace q309 := eq_true q309; go_wp2_with (first | ((with_reducible refine gate_dst (N := 5) rfl ?_); refine bx 5 #[.int .i64 0, .int .i64 0, .int .i64 0] 98 ?_; intro gb310 hg w23 hbox hb; have BK310 := ak hbox; have GW310 := gw hg HB; have GE310 := gw hg HB; replace HB := bs HB hb; have NB305_310 := ak ((by rw [hg]; exact Nat.ne_of_lt (blk_lt (vk BK305.out)) : gb305 ≠ gb310)); have NB310_305 := ak ((by rw [hg]; exact Nat.ne_of_gt (blk_lt (vk BK305.out)) : gb310 ≠ gb305)); replace BK305 := kb BK305 hb; clear hb hbox hg; have hnb24 := NB310_305.out; have hnc24 := NB305_310.out; have hcz25 := cz3 BK310.out; have hcz26 := cz3 BK305.out))
              go_ret
              exact ⟨by first | rfl | (simp [errW_none, errW_some] <;> rfl) | (simp only [← hji19]; first | rfl | (simp [errW_none, errW_some] <;> rfl)) | (simp [*, errW_none, errW_some] <;> rfl), vb HB.out⟩
             ·rw [if_neg c22] at H; have c22b0 := decide_eq_false c22; clear c22; by_cases c27 : ((rd_T98 l0 (ji19)).f0) = ((rd_T98 l0 x11_1).f0)
              ·rw [if_pos c27] at H; have c27b0 : (((rd_T98 l0 (ji19)).f0) == ((rd_T98 l0 x11_1).f0)) = true := beq_iff_eq.mpr c27; have c27b1 : (((rd_T98 l0 (ji19)).f0) != ((rd_T98 l0 x11_1).f0)) = false := bne_eq_false_iff_eq.mpr c27; clear c27; by_cases c28 : ((rd_T98 l0 (ji19)).f1) ≥ ((rd_T98 l0 x11_1).f1)
               ·rw [if_pos c28] at H; have c28b0 := decide_eq_true c28; clear c28; obtain rfl := sj H; have p309 : 0 ≤ ((ji19) : Int) := od; have q309 : (ji19) < (l0.length : Int) := od; obtain ⟨ad309, e309, hx309_0, hx309_1, hx309_2⟩ := at_T98 HR0.out (ji19) p309 q309; obtain rfl : ad304 = ad309 := (by injection e309); replace hx309_0 := cb HB.out hx309_0; replace hx309_1 := cb HB.out hx309_1; replace hx309_2 := cb HB.out hx309_2; replace p309 := eq_true p309; replace q309 := eq_true q309; go_wp2_with (first | ((with_reducible refine gate_dst (N := 5) rfl ?_); refine bx 5 #[.int .i64 0, .int .i64 0, .int .i64 0] 98 ?_; intro gb310 hg w29 hbox hb; have BK310 := ak hbox; have GW310 := gw hg HB; have GE310 := gw hg HB; replace HB := bs HB hb; have NB305_310 := ak ((by rw [hg]; exact Nat.ne_of_lt (blk_lt (vk BK305.out)) : gb305 ≠ gb310)); have NB310_305 := ak ((by rw [hg]; exact Nat.ne_of_gt (blk_lt (vk BK305.out)) : gb310 ≠ gb305)); replace BK305 := kb BK305 hb; clear hb hbox hg; have hnb30 := NB310_305.out; have hnc30 := NB305_310.out; have hcz31 := cz3 BK310.out; have hcz32 := cz3 BK305.out))
                go_ret
                exact ⟨by first | rfl | (simp [errW_none, errW_some] <;> rfl) | (simp only [← hji19]; first | rfl | (simp [errW_none, errW_some] <;> rfl)) | (simp [*, errW_none, errW_some] <;> rfl), vb HB.out⟩
               ·rw [if_neg c28] at H; have c28b0 := decide_eq_false c28; clear c28; by_cases c33 : ((rd_T98 l0 (ji19)).f2) > ((rd_T98 l0 x11_1).f2)
                ·rw [if_pos c33] at H; have c33b0 := decide_eq_true c33; clear c33; obtain rfl := sj H; have p309 : 0 ≤ ((ji19) : Int) := od; have q309 : (ji19) < (l0.length : Int) := od; obtain ⟨ad309, e309, hx309_0, hx309_1, hx309_2⟩ := at_T98 HR0.out (ji19) p309 q309; obtain rfl : ad304 = ad309 := (by injection e309); replace hx309_0 := cb HB.out hx309_0; replace hx309_1 := cb HB.out hx309_1; replace hx309_2 := cb HB.out hx309_2; replace p309 := eq_true p309; replace q309 := eq_true q309; go_wp2_with (first | ((with_reducible refine gate_dst (N := 5) rfl ?_); refine bx 5 #[.int .i64 0, .int .i64 0, .int .i64 0] 98 ?_; intro gb310 hg w34 hbox hb; have BK310 := ak hbox; have GW310 := gw hg HB; have GE310 := gw hg HB; replace HB := bs HB hb; have NB305_310 := ak ((by rw [hg]; exact Nat.ne_of_lt (blk_lt (vk BK305.out)) : gb305 ≠ gb310)); have NB310_305 := ak ((by rw [hg]; exact Nat.ne_of_gt (blk_lt (vk BK305.out)) : gb310 ≠ gb305)); replace BK305 := kb BK305 hb; clear hb hbox hg; have hnb35 := NB310_305.out; have hnc35 := NB305_310.out; have hcz36 := cz3 BK310.out; have hcz37 := cz3 BK305.out))
                 go_ret
                 exact ⟨by first | rfl | (simp [errW_none, errW_some] <;> rfl) | (simp only [← hji19]; first | rfl | (simp [errW_none, errW_some] <;> rfl)) | (simp [*, errW_none, errW_some] <;> rfl), vb HB.out⟩
                ·rw [if_neg c33] at H; have c33b0 := decide_eq_false c33; clear c33; have H' := ak H; clear H; have p309 : 0 ≤ ((ji19) : Int) := od; have q309 : (ji19) < (l0.length : Int) := od; obtain ⟨ad309, e309, hx309_0, hx309_1, hx309_2⟩ := at_T98 HR0.out (ji19) p309 q309; obtain rfl : ad304 = ad309 := (by injection e309); replace hx309_0 := cb HB.out hx309_0; replace hx309_1 := cb HB.out hx309_1; replace hx309_2 := cb HB.out hx309_2; replace p309 := eq_true p309; replace q309 := eq_true q309; go_wp2_with (first | ((with_reducible refine gate_dst (N := 5) rfl ?_); refine bx 5 #[.int .i64 0, .int .i64 0, .int .i64 0] 98 ?_; intro gb310 hg w38 hbox hb; have BK310 := ak hbox; have GW310 := gw hg HB; have GE310 := gw hg HB; replace HB := bs HB hb; have NB305_310 := ak ((by rw [hg]; exact Nat.ne_of_lt (blk_lt (vk BK305.out)) : gb305 ≠ gb310)); have NB310_305 := ak ((by rw [hg]; exact Nat.ne_of_gt (blk_lt (vk BK305.out)) : gb310 ≠ gb305)); replace BK305 := kb BK305 hb; clear hb hbox hg; have hnb39 := NB310_305.out; have hnc39 := NB305_310.out; have hcz40 := cz3 BK310.out; have hcz41 := cz3 BK305.out))
                 go_roundg kj5
                 case measure => have := HK1.out; have := HJ5.out; omega
                 case rel => exact ⟨(wrap64 (x11_1 + 1)), es, H', ⟨by have := HK1.out; have := HJ5.out; omega⟩, ⟨vb HB.out⟩⟩
              ·rw [if_neg c27] at H; have c27b0 : (((rd_T98 l0 (ji19)).f0) == ((rd_T98 l0 x11_1).f0)) = false := beq_eq_false_iff_ne.mpr c27; have c27b1 : (((rd_T98 l0 (ji19)).f0) != ((rd_T98 l0 x11_1).f0)) = true := bne_iff_ne.mpr c27; have H' := ak H; clear H; have p309 : 0 ≤ ((ji19) : Int) := od; have q309 : (ji19) < (l0.length : Int) := od; obtain ⟨ad309, e309, hx309_0, hx309_1, hx309_2⟩ := at_T98 HR0.out (ji19) p309 q309; obtain rfl : ad304 = ad309 := (by injection e309); replace hx309_0 := cb HB.out hx309_0; replace hx309_1 := cb HB.out hx309_1; replace hx309_2 := cb HB.out hx309_2; replace p309 := eq_true p309; replace q309 := eq_true q309; go_wp2_with (first | ((with_reducible refine gate_dst (N := 5) rfl ?_); refine bx 5 #[.int .i64 0, .int .i64 0, .int .i64 0] 98 ?_; intro gb310 hg w42 hbox hb; have BK310 := ak hbox; have GW310 := gw hg HB; have GE310 := gw hg HB; replace HB := bs HB hb; have NB305_310 := ak ((by rw [hg]; exact Nat.ne_of_lt (blk_lt (vk BK305.out)) : gb305 ≠ gb310)); have NB310_305 := ak ((by rw [hg]; exact Nat.ne_of_gt (blk_lt (vk BK305.out)) : gb310 ≠ gb305)); replace BK305 := kb BK305 hb; clear hb hbox hg; have hnb43 := NB310_305.out; have hnc43 := NB305_310.out; have hcz44 := cz3 BK310.out; have hcz45 := cz3 BK305.out))
               go_roundg kj5
               case measure => have := HK1.out; have := HJ5.out; omega
               case rel => exact ⟨(wrap64 (x11_1 + 1)), es, H', ⟨by have := HK1.out; have := HJ5.out; omega⟩, ⟨vb HB.out⟩⟩
            ·exact nO_ c21 H
           ·exact nO_ c20 H
      ·exact nO_ c5 H
     ·exact nO_ c4 H
    ·rw [if_neg c3] at H; have c3b0 := decide_eq_false c3; clear c3; obtain rfl := sj H; go_wp2
     go_ret
     exact ⟨ew, vb HB.out⟩


/-! ### impl_isPlace: function 93 -/
def impl_isPlace.f (a0 : Int) (a1 : Int) : Option (Bool) := (impl_within.f a0 0 100000).bind fun t311 => (if t311 = true then ((impl_within.f a1 0 100000).bind fun t312 => (some t312)) else (some false))
set_option maxHeartbeats 8000000 in
set_option maxRecDepth 100000 in
theorem impl_isPlace.calls (a0 : Int) (a1 : Int) (r : Bool) (w : World) (h : impl_isPlace.f a0 a1 = some r) :
  Calls Try.prog 93 #[.int .i64 a0, .int .i64 a1] w fun e w' => e = .returned (.bool r) ∧ Drawn0 w w' := by
 unfold impl_isPlace.f at h; have H := h; clear h; obtain ⟨t311, A3, H⟩ := bnk H; by_cases c4 : t311 = true
 subst c4; rw [if_pos rfl] at H; obtain ⟨t312, A5, H⟩ := bnk H; obtain rfl := sj H; rotate_left
 replace c4 := Bool.eq_false_iff.mpr c4; subst c4; rw [if_neg nf] at H; obtain rfl := sj H; rotate_left
 all_goals
  go_enter Try.func93, Try.ntmps93; go_wp2_with (first | ((with_reducible refine at_fn (f := 85) rfl ?_); refine gl (some 6) Try.func85 #[.int .i64 a0, .int .i64 0, .int .i64 100000] ?_; (with_reducible refine (impl_within.calls a0 0 100000 _ _ A3.out).mono ?_); rintro e w' ⟨rfl, ⟨nd, rfl⟩⟩; refine ⟨_, rfl, ?_⟩) | (go_at_call 85; (with_reducible refine (impl_within.calls a1 0 100000 t312 _ A5.out).mono ?_); rintro e w' ⟨rfl, ⟨nd, rfl⟩⟩))
  go_ret
  exact ⟨by first | rfl | (simp; done) | (simp [*]; done), by repeat (first | exact Drawn0.refl _ | apply Drawn0.step)⟩


/-! ### impl_IsArea: function 123 -/
def impl_IsArea.f (a0_0 : Int) (a0_1 : Int) (a0_2 : Int) (a0_3 : Int) (a0_4 : Int) : Option (Bool) := (impl_isKind.f a0_0).bind fun t314 => (if t314 = true then ((impl_isPlace.f a0_1 a0_2).bind fun t315 => (if t315 = true then ((impl_within.f a0_3 1 (wrap64 (100000 - a0_1))).bind fun t316 => (if t316 = true then ((impl_within.f a0_4 1 (wrap64 (100000 - a0_2))).bind fun t317 => (some t317)) else (some false))) else (some false))) else (some false))
set_option maxHeartbeats 8000000 in
set_option maxRecDepth 100000 in
theorem impl_IsArea.calls (a0_0 : Int) (a0_1 : Int) (a0_2 : Int) (a0_3 : Int) (a0_4 : Int) (r : Bool) (w : World) (h : impl_IsArea.f a0_0 a0_1 a0_2 a0_3 a0_4 = some r) :
  Calls Try.prog 123 #[.agg #[.int .i64 a0_0, .int .i64 a0_1, .int .i64 a0_2, .int .i64 a0_3, .int .i64 a0_4]] w fun e w' => e = .returned (.bool r) ∧ Below w.heap.size w w' := by
 have hu103 := Try.underlying103; have HB := ak (Below.refl w.heap.size w); unfold impl_IsArea.f at h; have H := h; clear h; obtain ⟨t314, A2, H⟩ := bnk H; by_cases c3 : t314 = true
 subst c3; rw [if_pos rfl] at H; obtain ⟨t315, A4, H⟩ := bnk H; by_cases c5 : t315 = true
 subst c5; rw [if_pos rfl] at H; obtain ⟨t316, A6, H⟩ := bnk H; by_cases c7 : t316 = true
 subst c7; rw [if_pos rfl] at H; obtain ⟨t317, A8, H⟩ := bnk H; obtain rfl := sj H; rotate_left
 replace c7 := Bool.eq_false_iff.mpr c7; subst c7; rw [if_neg nf] at H; obtain rfl := sj H; rotate_left
 replace c5 := Bool.eq_false_iff.mpr c5; subst c5; rw [if_neg nf] at H; obtain rfl := sj H; rotate_left
 replace c3 := Bool.eq_false_iff.mpr c3; subst c3; rw [if_neg nf] at H; obtain rfl := sj H; rotate_left
 all_goals
  go_enter Try.func123, Try.ntmps123; go_wp2_with (first | ((with_reducible refine gate_dst (N := 1) rfl ?_); refine bx 1 #[.int .i64 a0_0, .int .i64 a0_1, .int .i64 a0_2, .int .i64 a0_3, .int .i64 a0_4] 103 ?_; intro gb313 hg w9 hbox hb; have BK313 := ak hbox; have GW313 := gw hg HB; have GE313 := gw hg HB; replace HB := bs HB hb; clear hb hbox hg; have hcz9 := cz5 BK313.out) | ((with_reducible refine at_fn (f := 122) rfl ?_); refine gl (some 5) Try.func122 #[.int .i64 a0_0] ?_; (with_reducible refine (impl_isKind.calls a0_0 _ _ A2.out).mono ?_); rintro e w' ⟨rfl, ⟨nd, rfl⟩⟩; refine ⟨_, rfl, ?_⟩) | (go_at_call 93; (with_reducible refine (impl_isPlace.calls a0_1 a0_2 _ _ A4.out).mono ?_); rintro e w' ⟨rfl, ⟨nd, rfl⟩⟩) | (go_at_call 85; (with_reducible refine (impl_within.calls a0_3 1 (wrap64 (100000 - a0_1)) _ _ A6.out).mono ?_); rintro e w' ⟨rfl, ⟨nd, rfl⟩⟩) | (go_at_call 85; (with_reducible refine (impl_within.calls a0_4 1 (wrap64 (100000 - a0_2)) t317 _ A8.out).mono ?_); rintro e w' ⟨rfl, ⟨nd, rfl⟩⟩))
  go_ret
  exact ⟨ew, vb HB.out⟩


/-! ### impl_IsSite: function 83 -/
def impl_IsSite.l0 : Nat → List (S103) → Int → Int → Option (Bool)
 | 0, _, _, _ => none
 | k + 1, x8, x9, x10 => if x10 < x9 then (if 0 ≤ x10 then (if x10 < (x8.length : Int) then ((impl_IsArea.f ((rd_T103 x8 x10).f0) ((rd_T103 x8 x10).f1) ((rd_T103 x8 x10).f2) ((rd_T103 x8 x10).f3) ((rd_T103 x8 x10).f4)).bind fun t320 => (if t320 = true then (impl_IsSite.l0 k x8 x9 (wrap64 (x10 + 1))) else (some false))) else (none)) else (none)) else (some true)
def impl_IsSite.f (k : Nat) (l0 : List (S103)) : Option (Bool) := if (l0.length : Int) > 10 then (some false) else (impl_IsSite.l0 k l0 (l0.length : Int) 0)
theorem impl_IsSite.mono_l : ∀ k, (∀ y0 y1 y2, LeO (impl_IsSite.l0 k y0 y1 y2) (impl_IsSite.l0 (k + 1) y0 y1 y2))
 | 0 => fun _ _ _ r h => by simp [impl_IsSite.l0] at h
 | k + 1 => by
  have ih0 := impl_IsSite.mono_l k
  ·intro y0 y1 y2; unfold impl_IsSite.l0
   repeat' (with_reducible first | exact ih0 .. | exact lm | refine LeO.ite ?_ ?_ | refine LeO.bind ?_ (fun _ => ?_))
theorem impl_IsSite.mono : ∀ a0 k, LeO (impl_IsSite.f k a0) (impl_IsSite.f (k + 1) a0) := by
 intro a0 k; have ih0 := impl_IsSite.mono_l k; unfold impl_IsSite.f
 repeat' (with_reducible first | exact ih0 .. | exact lm | refine LeO.ite ?_ ?_ | refine LeO.bind ?_ (fun _ => ?_))
set_option maxHeartbeats 8000000 in
set_option maxRecDepth 100000 in
theorem impl_IsSite.calls (k : Nat) (A0 : Option Addr) (c0 : Nat) (l0 : List (S103)) (r : Bool) (w : World) (hr0 : Kd.C k103 w A0 l0.length l0) (hc0 : l0.length ≤ c0) (h : impl_IsSite.f k l0 = some r) :
  Calls Try.prog 83 #[.slice A0 l0.length c0] w fun e w' => e = .returned (.bool r) ∧ Below w.heap.size w w' := by
 have hu103 := Try.underlying103; have HR0 := ak hr0; have HC0 := ak hc0; clear hr0 hc0; have HB := ak (Below.refl w.heap.size w); unfold impl_IsSite.f at h; have H := h; clear h; by_cases c2 : (l0.length : Int) > 10
 ·rw [if_pos c2] at H; have c2b0 := decide_eq_true c2; have c2b1 : decide (10 < l0.length) = true := decide_eq_true (by omega); clear c2; obtain rfl := sj H; go_enter Try.func83, Try.ntmps83; go_wp2
  go_ret
  exact ⟨ew, vb HB.out⟩
 ·rw [if_neg c2] at H; have c2b0 := decide_eq_false c2; have c2b1 : decide (10 < l0.length) = false := decide_eq_false (by omega); clear c2; have H' := ak H; clear H; go_enter Try.func83, Try.ntmps83; go_wp2
  go_loopg [10] k (fun kq v10 w' => ∃ (x10_1 : Int), v10 = .int .i64 x10_1 ∧ Aside0 (impl_IsSite.l0 kq l0 (l0.length : Int) x10_1 = some r) ∧ Aside0 (kq ≤ k) ∧ Aside0 (Below w.heap.size w w'))
  case atStart => exact ⟨(0), es, H', ⟨Nat.le_refl _⟩, ⟨vb HB.out⟩⟩
  case round =>
   clear H'; obtain ⟨x10_1, rfl, HA, HK1, HB⟩ := hrel
   cases gk with
   | zero => exact absurd HA.out (by simp [impl_IsSite.l0])
   | succ k1 =>
    have H := HA.out; clear HA; simp only [impl_IsSite.l0] at H
    by_cases c3 : x10_1 < (l0.length : Int)
    ·rw [if_pos c3] at H; have c3b0 := decide_eq_true c3; clear c3; by_cases c4 : 0 ≤ x10_1
     ·rw [if_pos c4] at H; have c4b0 := decide_eq_true c4; clear c4; by_cases c5 : x10_1 < (l0.length : Int)
      ·rw [if_pos c5] at H; have c5b0 := decide_eq_true c5; clear c5; obtain ⟨t320, A6, H⟩ := bnk H; by_cases c7 : t320 = true
       ·subst c7; rw [if_pos rfl] at H; have H' := ak H; clear H; have p318 : 0 ≤ (x10_1 : Int) := od; have q318 : x10_1 < (l0.length : Int) := od; obtain ⟨ad318, e318, hx318_0, hx318_1, hx318_2, hx318_3, hx318_4⟩ := at_T103 HR0.out x10_1 p318 q318
        cases e318; replace hx318_0 := cb HB.out hx318_0; replace hx318_1 := cb HB.out hx318_1; replace hx318_2 := cb HB.out hx318_2; replace hx318_3 := cb HB.out hx318_3; replace hx318_4 := cb HB.out hx318_4; replace p318 := eq_true p318; replace q318 := eq_true q318; go_wp2_with (first | ((with_reducible refine gate_dst (N := 4) rfl ?_); refine bx 4 #[.int .i64 0, .int .i64 0, .int .i64 0, .int .i64 0, .int .i64 0] 103 ?_; intro gb319 hg w8 hbox hb; have BK319 := ak hbox; have GW319 := gw hg HB; have GE319 := gw hg HB; replace HB := bs HB hb; clear hb hbox hg; have hcz9 := cz5 BK319.out) | ((with_reducible refine at_fn (f := 123) rfl ?_); refine gl (some 15) Try.func123 #[.agg #[.int .i64 ((rd_T103 l0 x10_1).f0), .int .i64 ((rd_T103 l0 x10_1).f1), .int .i64 ((rd_T103 l0 x10_1).f2), .int .i64 ((rd_T103 l0 x10_1).f3), .int .i64 ((rd_T103 l0 x10_1).f4)]] ?_; (with_reducible refine (impl_IsArea.calls ((rd_T103 l0 x10_1).f0) ((rd_T103 l0 x10_1).f1) ((rd_T103 l0 x10_1).f2) ((rd_T103 l0 x10_1).f3) ((rd_T103 l0 x10_1).f4) _ _ A6.out).mono ?_); rintro e w10 ⟨rfl, hb⟩; refine ⟨_, rfl, ?_⟩; replace BK319 := ak (blk_below (g := gb319) (o := .cells #[.int .i64 ((rd_T103 l0 x10_1).f0), .int .i64 ((rd_T103 l0 x10_1).f1), .int .i64 ((rd_T103 l0 x10_1).f2), .int .i64 ((rd_T103 l0 x10_1).f3), .int .i64 ((rd_T103 l0 x10_1).f4)] 103 (0, 0)) (vz BK319.out) hb); replace HB := bs HB hb; (try clear hb)))
        go_roundg k1
        case measure => have := HK1.out; omega
        case rel => exact ⟨(wrap64 (x10_1 + 1)), es, H', ⟨by have := HK1.out; omega⟩, ⟨vb HB.out⟩⟩
       ·replace c7 := Bool.eq_false_iff.mpr c7; subst c7; rw [if_neg nf] at H; obtain rfl := sj H; have p318 : 0 ≤ (x10_1 : Int) := od; have q318 : x10_1 < (l0.length : Int) := od; obtain ⟨ad318, e318, hx318_0, hx318_1, hx318_2, hx318_3, hx318_4⟩ := at_T103 HR0.out x10_1 p318 q318
        cases e318; replace hx318_0 := cb HB.out hx318_0; replace hx318_1 := cb HB.out hx318_1; replace hx318_2 := cb HB.out hx318_2; replace hx318_3 := cb HB.out hx318_3; replace hx318_4 := cb HB.out hx318_4; replace p318 := eq_true p318; replace q318 := eq_true q318; go_wp2_with (first | ((with_reducible refine gate_dst (N := 4) rfl ?_); refine bx 4 #[.int .i64 0, .int .i64 0, .int .i64 0, .int .i64 0, .int .i64 0] 103 ?_; intro gb319 hg w11 hbox hb; have BK319 := ak hbox; have GW319 := gw hg HB; have GE319 := gw hg HB; replace HB := bs HB hb; clear hb hbox hg; have hcz12 := cz5 BK319.out) | ((with_reducible refine at_fn (f := 123) rfl ?_); refine gl (some 15) Try.func123 #[.agg #[.int .i64 ((rd_T103 l0 x10_1).f0), .int .i64 ((rd_T103 l0 x10_1).f1), .int .i64 ((rd_T103 l0 x10_1).f2), .int .i64 ((rd_T103 l0 x10_1).f3), .int .i64 ((rd_T103 l0 x10_1).f4)]] ?_; (with_reducible refine (impl_IsArea.calls ((rd_T103 l0 x10_1).f0) ((rd_T103 l0 x10_1).f1) ((rd_T103 l0 x10_1).f2) ((rd_T103 l0 x10_1).f3) ((rd_T103 l0 x10_1).f4) _ _ A6.out).mono ?_); rintro e w13 ⟨rfl, hb⟩; refine ⟨_, rfl, ?_⟩; replace BK319 := ak (blk_below (g := gb319) (o := .cells #[.int .i64 ((rd_T103 l0 x10_1).f0), .int .i64 ((rd_T103 l0 x10_1).f1), .int .i64 ((rd_T103 l0 x10_1).f2), .int .i64 ((rd_T103 l0 x10_1).f3), .int .i64 ((rd_T103 l0 x10_1).f4)] 103 (0, 0)) (vz BK319.out) hb); replace HB := bs HB hb; (try clear hb)))
        go_ret
        exact ⟨ew, vb HB.out⟩
      ·exact nO_ c5 H
     ·exact nO_ c4 H
    ·rw [if_neg c3] at H; have c3b0 := decide_eq_false c3; clear c3; obtain rfl := sj H; go_wp2
     go_ret
     exact ⟨ew, vb HB.out⟩


/-! ### impl_allWithin: function 84 -/
def impl_allWithin.l0 : Nat → Int → Int → List Int → Int → Int → Option (Bool)
 | 0, _, _, _, _, _ => none
 | k + 1, x1, x2, x9, x10, x11 => if x11 < x10 then (if 0 ≤ x11 then (if x11 < (x9.length : Int) then ((impl_within.f (rd x9 x11) x1 x2).bind fun t322 => (if t322 = true then (impl_allWithin.l0 k x1 x2 x9 x10 (wrap64 (x11 + 1))) else (some false))) else (none)) else (none)) else (some true)
def impl_allWithin.f (k : Nat) (l0 : List Int) (a1 : Int) (a2 : Int) : Option (Bool) := impl_allWithin.l0 k a1 a2 l0 (l0.length : Int) 0
theorem impl_allWithin.mono_l : ∀ k, (∀ y0 y1 y2 y3 y4, LeO (impl_allWithin.l0 k y0 y1 y2 y3 y4) (impl_allWithin.l0 (k + 1) y0 y1 y2 y3 y4))
 | 0 => fun _ _ _ _ _ r h => by simp [impl_allWithin.l0] at h
 | k + 1 => by
  have ih0 := impl_allWithin.mono_l k
  ·intro y0 y1 y2 y3 y4; unfold impl_allWithin.l0
   repeat' (with_reducible first | exact ih0 .. | exact lm | refine LeO.ite ?_ ?_ | refine LeO.bind ?_ (fun _ => ?_))
theorem impl_allWithin.mono : ∀ a0 a1 a2 k, LeO (impl_allWithin.f k a0 a1 a2) (impl_allWithin.f (k + 1) a0 a1 a2) := by
 intro a0 a1 a2 k; have ih0 := impl_allWithin.mono_l k; unfold impl_allWithin.f
 repeat' (with_reducible first | exact ih0 .. | exact lm | refine LeO.ite ?_ ?_ | refine LeO.bind ?_ (fun _ => ?_))
set_option maxHeartbeats 8000000 in
set_option maxRecDepth 100000 in
theorem impl_allWithin.calls (k : Nat) (A0 : Option Addr) (c0 : Nat) (l0 : List Int) (a1 : Int) (a2 : Int) (r : Bool) (w : World) (hr0 : Kd.C (Kd.int .i64) w A0 l0.length l0) (hc0 : l0.length ≤ c0) (h : impl_allWithin.f k l0 a1 a2 = some r) :
  Calls Try.prog 84 #[.slice A0 l0.length c0, .int .i64 a1, .int .i64 a2] w fun e w' => e = .returned (.bool r) ∧ Drawn0 w w' := by
 have HR0 := ak hr0; have HC0 := ak hc0; clear hr0 hc0; unfold impl_allWithin.f at h; have H := h; clear h; have H' := ak H; clear H; go_enter Try.func84, Try.ntmps84; go_wp2
 go_loopg [11] k (fun kq v11 w' => ∃ (x11_1 : Int), v11 = .int .i64 x11_1 ∧ Aside0 (impl_allWithin.l0 kq a1 a2 l0 (l0.length : Int) x11_1 = some r) ∧ Aside0 (kq ≤ k) ∧ Drawn0 w w')
 case atStart => exact ⟨(0), es, H', ⟨Nat.le_refl _⟩, by repeat (first | exact Drawn0.refl _ | apply Drawn0.step)⟩
 case round =>
  clear H'; obtain ⟨x11_1, rfl, HA, HK1, ⟨m1, rfl⟩⟩ := hrel
  cases gk with
  | zero => exact absurd HA.out (by simp [impl_allWithin.l0])
  | succ k1 =>
   have H := HA.out; clear HA; simp only [impl_allWithin.l0] at H
   by_cases c4 : x11_1 < (l0.length : Int)
   ·rw [if_pos c4] at H; have c4b0 := decide_eq_true c4; clear c4; by_cases c5 : 0 ≤ x11_1
    ·rw [if_pos c5] at H; have c5b0 := decide_eq_true c5; clear c5; by_cases c6 : x11_1 < (l0.length : Int)
     ·rw [if_pos c6] at H; have c6b0 := decide_eq_true c6; clear c6; obtain ⟨t322, A7, H⟩ := bnk H; by_cases c8 : t322 = true
      ·subst c8; rw [if_pos rfl] at H; have H' := ak H; clear H; have p321 : 0 ≤ (x11_1 : Int) := od; have q321 : x11_1 < (l0.length : Int) := od; obtain ⟨ad321, e321, hx321_0⟩ := Kd.at_int HR0.out x11_1 p321 q321
       cases e321; replace p321 := eq_true p321; replace q321 := eq_true q321; go_wp2_with (first | ((with_reducible refine at_fn (f := 85) rfl ?_); refine gl (some 18) Try.func85 #[.int .i64 (rd l0 x11_1), .int .i64 a1, .int .i64 a2] ?_; (with_reducible refine (impl_within.calls (rd l0 x11_1) a1 a2 _ _ A7.out).mono ?_); rintro e w' ⟨rfl, ⟨nd, rfl⟩⟩; refine ⟨_, rfl, ?_⟩))
       go_roundg k1
       case measure => have := HK1.out; omega
       case rel => exact ⟨(wrap64 (x11_1 + 1)), es, H', ⟨by have := HK1.out; omega⟩, by repeat (first | exact Drawn0.refl _ | apply Drawn0.step)⟩
      ·replace c8 := Bool.eq_false_iff.mpr c8; subst c8; rw [if_neg nf] at H; obtain rfl := sj H; have p321 : 0 ≤ (x11_1 : Int) := od; have q321 : x11_1 < (l0.length : Int) := od; obtain ⟨ad321, e321, hx321_0⟩ := Kd.at_int HR0.out x11_1 p321 q321
       cases e321; replace p321 := eq_true p321; replace q321 := eq_true q321; go_wp2_with (first | ((with_reducible refine at_fn (f := 85) rfl ?_); refine gl (some 18) Try.func85 #[.int .i64 (rd l0 x11_1), .int .i64 a1, .int .i64 a2] ?_; (with_reducible refine (impl_within.calls (rd l0 x11_1) a1 a2 _ _ A7.out).mono ?_); rintro e w' ⟨rfl, ⟨nd, rfl⟩⟩; refine ⟨_, rfl, ?_⟩))
       go_ret
       exact ⟨by first | rfl | (simp; done) | (simp [*]; done), by repeat (first | exact Drawn0.refl _ | apply Drawn0.step)⟩
     ·exact nO_ c6 H
    ·exact nO_ c5 H
   ·rw [if_neg c4] at H; have c4b0 := decide_eq_false c4; clear c4; obtain rfl := sj H; go_wp2
    go_ret
    exact ⟨by first | rfl | (simp; done) | (simp [*]; done), by repeat (first | exact Drawn0.refl _ | apply Drawn0.step)⟩


/-! ### impl_IsField: function 37 -/
def impl_IsField.f (k : Nat) (l0_0 : List (S98)) (l0_1 : List (S103)) (l0_2 : List Int) (l0_3 : List Int) (l0_4 : List Int) (a0_5 : Int) : Option (Bool) := (impl_IsTable.f k l0_0).bind fun t324 => (if t324 = true then ((impl_IsSite.f k l0_1).bind fun t325 => (if t325 = true then (if (l0_2.length : Int) ≤ 4 then ((impl_allWithin.f k l0_2 20 300).bind fun t326 => (if t326 = true then (if (l0_3.length : Int) ≤ 7 then (if (l0_4.length : Int) = (l0_3.length : Int) then ((impl_allWithin.f k l0_3 0 100000).bind fun t327 => (if t327 = true then ((impl_allWithin.f k l0_4 0 100000).bind fun t328 => (if t328 = true then ((impl_within.f a0_5 0 10000).bind fun t329 => (some t329)) else (some false))) else (some false))) else (some false)) else (some false)) else (some false))) else (some false)) else (some false))) else (some false))
theorem impl_IsField.mono : ∀ a0 a1 a2 a3 a4 a5 k, LeO (impl_IsField.f k a0 a1 a2 a3 a4 a5) (impl_IsField.f (k + 1) a0 a1 a2 a3 a4 a5) := by
 intro a0 a1 a2 a3 a4 a5 k; unfold impl_IsField.f
 repeat' (with_reducible first | exact impl_IsSite.mono .. | exact impl_IsTable.mono .. | exact impl_allWithin.mono .. | exact lm | refine LeO.ite ?_ ?_ | refine LeO.bind ?_ (fun _ => ?_))
set_option maxHeartbeats 8000000 in
set_option maxRecDepth 100000 in
theorem impl_IsField.calls (k : Nat) (A0_0 : Option Addr) (c0_0 : Nat) (l0_0 : List (S98)) (A0_1 : Option Addr) (c0_1 : Nat) (l0_1 : List (S103)) (A0_2 : Option Addr) (c0_2 : Nat) (l0_2 : List Int) (A0_3 : Option Addr) (c0_3 : Nat) (l0_3 : List Int) (A0_4 : Option Addr) (c0_4 : Nat) (l0_4 : List Int) (a0_5 : Int) (r : Bool) (w : World) (hr0_0 : Kd.C k98 w A0_0 l0_0.length l0_0) (hc0_0 : l0_0.length ≤ c0_0) (hr0_1 : Kd.C k103 w A0_1 l0_1.length l0_1) (hc0_1 : l0_1.length ≤ c0_1) (hr0_2 : Kd.C (Kd.int .i64) w A0_2 l0_2.length l0_2) (hc0_2 : l0_2.length ≤ c0_2) (hr0_3 : Kd.C (Kd.int .i64) w A0_3 l0_3.length l0_3) (hc0_3 : l0_3.length ≤ c0_3) (hr0_4 : Kd.C (Kd.int .i64) w A0_4 l0_4.length l0_4) (hc0_4 : l0_4.length ≤ c0_4) (h : impl_IsField.f k l0_0 l0_1 l0_2 l0_3 l0_4 a0_5 = some r) :
  Calls Try.prog 37 #[.agg (f5 A0_0 l0_0 c0_0 A0_1 l0_1 c0_1 A0_2 l0_2 c0_2 A0_3 l0_3 c0_3 A0_4 l0_4 c0_4 a0_5)] w fun e w' => e = .returned (.bool r) ∧ Below w.heap.size w w' := by
 have hu33 := Try.underlying33; have HR0_0 := ak hr0_0; have HC0_0 := ak hc0_0; clear hr0_0 hc0_0; have HR0_1 := ak hr0_1; have HC0_1 := ak hc0_1; clear hr0_1 hc0_1; have HR0_2 := ak hr0_2; have HC0_2 := ak hc0_2; clear hr0_2 hc0_2; have HR0_3 := ak hr0_3; have HC0_3 := ak hc0_3; clear hr0_3 hc0_3; have HR0_4 := ak hr0_4; have HC0_4 := ak hc0_4; clear hr0_4 hc0_4; have HB := ak (Below.refl w.heap.size w); unfold impl_IsField.f at h; have H := h; clear h; obtain ⟨t324, A2, H⟩ := bnk H
 by_cases c3 : t324 = true
 subst c3; rw [if_pos rfl] at H; obtain ⟨t325, A4, H⟩ := bnk H; by_cases c5 : t325 = true
 subst c5; rw [if_pos rfl] at H; by_cases c6 : (l0_2.length : Int) ≤ 4
 rw [if_pos c6] at H; have c6b0 := decide_eq_true c6; have c6b1 : decide (l0_2.length ≤ 4) = true := decide_eq_true (by omega); clear c6; obtain ⟨t326, A7, H⟩ := bnk H; by_cases c8 : t326 = true
 subst c8; rw [if_pos rfl] at H; by_cases c9 : (l0_3.length : Int) ≤ 7
 rw [if_pos c9] at H; have c9b0 := decide_eq_true c9; have c9b1 : decide (l0_3.length ≤ 7) = true := decide_eq_true (by omega); clear c9; by_cases c10 : (l0_4.length : Int) = (l0_3.length : Int)
 rw [if_pos c10] at H; obtain ⟨c10b0, c10b1⟩ := bqt c10; have c10b2 : (l0_4.length == l0_3.length) = true := by first | simpa using c10 | (simp at c10 ⊢; omega)
 clear c10; obtain ⟨t327, A11, H⟩ := bnk H; by_cases c12 : t327 = true
 subst c12; rw [if_pos rfl] at H; obtain ⟨t328, A13, H⟩ := bnk H; by_cases c14 : t328 = true
 subst c14; rw [if_pos rfl] at H; obtain ⟨t329, A15, H⟩ := bnk H; obtain rfl := sj H; rotate_left
 replace c14 := Bool.eq_false_iff.mpr c14; subst c14; rw [if_neg nf] at H; obtain rfl := sj H; rotate_left
 replace c12 := Bool.eq_false_iff.mpr c12; subst c12; rw [if_neg nf] at H; obtain rfl := sj H; rotate_left
 rw [if_neg c10] at H; obtain ⟨c10b0, c10b1⟩ := bqf c10; have c10b2 : (l0_4.length == l0_3.length) = false := by first | simpa using c10 | (simp at c10 ⊢; omega)
 obtain rfl := sj H; rotate_left
 rw [if_neg c9] at H; have c9b0 := decide_eq_false c9; have c9b1 : decide (l0_3.length ≤ 7) = false := decide_eq_false (by omega); clear c9; obtain rfl := sj H; rotate_left
 replace c8 := Bool.eq_false_iff.mpr c8; subst c8; rw [if_neg nf] at H; obtain rfl := sj H; rotate_left
 rw [if_neg c6] at H; have c6b0 := decide_eq_false c6; have c6b1 : decide (l0_2.length ≤ 4) = false := decide_eq_false (by omega); clear c6; obtain rfl := sj H; rotate_left
 replace c5 := Bool.eq_false_iff.mpr c5; subst c5; rw [if_neg nf] at H; obtain rfl := sj H; rotate_left
 replace c3 := Bool.eq_false_iff.mpr c3; subst c3; rw [if_neg nf] at H; obtain rfl := sj H; rotate_left
 all_goals
  go_enter Try.func37, Try.ntmps37; go_wp2_with (first | ((with_reducible refine gate_dst (N := 1) rfl ?_); (try (refine gate_guard (by rfl) ?_; dsimp only)); refine bx 1 (f5 A0_0 l0_0 c0_0 A0_1 l0_1 c0_1 A0_2 l0_2 c0_2 A0_3 l0_3 c0_3 A0_4 l0_4 c0_4 a0_5) 33 ?_; intro gb323 hg w9 hbox hb; have BK323 := ak hbox; have GW323 := gw hg HB; have GE323 := gw hg HB; replace HB := bs HB hb; clear hb hbox hg; have hcz9 := cz6 BK323.out) | ((with_reducible refine at_fn (f := 82) rfl ?_); refine gl (some 5) Try.func82 #[.slice A0_0 l0_0.length c0_0] ?_; (with_reducible refine (impl_IsTable.calls k _ _ l0_0 _ _ ?_ HC0_0.out A2.out).mono ?_); exact vd HR0_0.out HB.out; rintro e w9 ⟨rfl, hb⟩; refine ⟨_, rfl, ?_⟩; replace BK323 := kb BK323 hb; replace HB := bs HB hb; (try clear hb); have hcz9 := cz6 BK323.out) | (go_at_call 83; (with_reducible refine (impl_IsSite.calls k _ _ l0_1 _ _ ?_ HC0_1.out A4.out).mono ?_); exact vd HR0_1.out HB.out; rintro e w9 ⟨rfl, hb⟩; replace BK323 := kb BK323 hb; replace HB := bs HB hb; (try clear hb); have hcz9 := cz6 BK323.out) | (go_at_call 84; (with_reducible refine (impl_allWithin.calls k _ _ l0_2 20 300 _ _ ?_ HC0_2.out A7.out).mono ?_); exact vd HR0_2.out HB.out; rintro e w' ⟨rfl, ⟨nd, rfl⟩⟩) | (go_at_call 84; (with_reducible refine (impl_allWithin.calls k _ _ l0_3 0 100000 _ _ ?_ HC0_3.out A11.out).mono ?_); exact vd HR0_3.out (vb HB.out); rintro e w' ⟨rfl, ⟨nd, rfl⟩⟩) | (go_at_call 84; (with_reducible refine (impl_allWithin.calls k _ _ l0_4 0 100000 _ _ ?_ HC0_4.out A13.out).mono ?_); exact vd HR0_4.out (vb HB.out); rintro e w' ⟨rfl, ⟨nd, rfl⟩⟩) | (go_at_call 85; (with_reducible refine (impl_within.calls a0_5 0 10000 t329 _ A15.out).mono ?_); rintro e w' ⟨rfl, ⟨nd, rfl⟩⟩))
  go_ret
  exact ⟨ew, vb HB.out⟩


end Go.Proofs.Ytancnecddlbhkaa.Pall
