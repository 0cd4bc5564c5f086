/- Go functions of the program, each as a Lean function, and the proof that each call comes to what the Lean function tells; no condition beyond those that stand there. -/
import Derived.Test.YtancnecddlbhkaaF00
import Derived.Test.YtancnecddlbhkaaSq
import Derived.Test.YtancnecddlbhkaaWGuard
import Derived.Test.YtancnecddlbhkaaWLast
import Derived.Test.YtancnecddlbhkaaWTab
import Derived.Test.YtancnecddlbhkaaSpare
import Derived.Test.YtancnecddlbhkaaCm
import Derived.Test.YtancnecddlbhkaaCm3
import Derived.Test.YtancnecddlbhkaaCm6
import Derived.Test.YtancnecddlbhkaaCm9
namespace Go.Proofs.Ytancnecddlbhkaa.Pall
open Go.RowKit Go.Proofs.YtancnecddlbhkaaW.PrintWords Go.Proofs.YtancnecddlbhkaaW.PrintLast
set_option linter.unusedVariables false
set_option linter.unusedSimpArgs false

/-! ### spec_l01In: function 65 -/
def spec_l01In.f (a0 : Int) (a1 : Int) (a2 : Int) : Option (Bool) := if a0 ≥ a1 then (some (decide (a0 ≤ a2))) else (some false)
set_option maxHeartbeats 8000000 in
set_option maxRecDepth 100000 in
theorem spec_l01In.calls (a0 : Int) (a1 : Int) (a2 : Int) (r : Bool) (w : World) (h : spec_l01In.f a0 a1 a2 = some r) :
  Calls Try.prog 65 #[.int .i64 a0, .int .i64 a1, .int .i64 a2] w fun e w' => e = .returned (.bool r) ∧ Drawn0 w w' := by
 unfold spec_l01In.f at h; have H := h; clear h; by_cases c4 : a0 ≥ a1
 rw [if_pos c4] at H; have c4b0 := decide_eq_true c4; clear c4; obtain rfl := sj H; rotate_left
 rw [if_neg c4] at H; have c4b0 := decide_eq_false c4; clear c4; obtain rfl := sj H; rotate_left
 all_goals
  go_enter Try.func65, Try.ntmps65; go_wp2
  go_ret
  exact ⟨by first | rfl | (simp; done) | (simp [*]; done), by repeat (first | exact Drawn0.refl _ | apply Drawn0.step)⟩


/-! ### spec_l15Place: function 105 -/
def spec_l15Place.f (a0 : Int) (a1 : Int) : Option (Bool) := (spec_l01In.f a0 0 100000).bind fun t0 => (if t0 = true then ((spec_l01In.f a1 0 100000).bind fun t1 => (some t1)) else (some false))
set_option maxHeartbeats 8000000 in
set_option maxRecDepth 100000 in
theorem spec_l15Place.calls (a0 : Int) (a1 : Int) (r : Bool) (w : World) (h : spec_l15Place.f a0 a1 = some r) :
  Calls Try.prog 105 #[.int .i64 a0, .int .i64 a1] w fun e w' => e = .returned (.bool r) ∧ Drawn0 w w' := by
 unfold spec_l15Place.f at h; have H := h; clear h; obtain ⟨t0, A3, H⟩ := bnk H; by_cases c4 : t0 = true
 subst c4; rw [if_pos rfl] at H; obtain ⟨t1, A5, H⟩ := bnk H; obtain rfl := sj H; rotate_left
 replace c4 := Bool.eq_false_iff.mpr c4; subst c4; rw [if_neg nf] at H; obtain rfl := sj H; rotate_left
 all_goals
  go_enter Try.func105, Try.ntmps105; go_wp2_with (first | ((with_reducible refine at_fn (f := 65) rfl ?_); refine gl (some 6) Try.func65 #[.int .i64 a0, .int .i64 0, .int .i64 100000] ?_; (with_reducible refine (spec_l01In.calls a0 0 100000 _ _ A3.1).mono ?_); rintro e w' ⟨rfl, ⟨nd, rfl⟩⟩; refine ⟨_, rfl, ?_⟩) | (go_at_call 65; (with_reducible refine (spec_l01In.calls a1 0 100000 t1 _ A5.1).mono ?_); rintro e w' ⟨rfl, ⟨nd, rfl⟩⟩))
  go_ret
  exact ⟨by first | rfl | (simp; done) | (simp [*]; done), by repeat (first | exact Drawn0.refl _ | apply Drawn0.step)⟩


/-! ### spec_l16Before: function 130 -/
def spec_l16Before.f (a0_0 : Int) (a0_1 : Int) (a0_2 : Int) (a1_0 : Int) (a1_1 : Int) (a1_2 : Int) : Option (Bool) := if a0_0 < a1_0 then (some true) else (if a0_0 = a1_0 then (some (decide (a0_1 < a1_1))) else (some false))
set_option maxHeartbeats 8000000 in
set_option maxRecDepth 100000 in
theorem spec_l16Before.calls (a0_0 : Int) (a0_1 : Int) (a0_2 : Int) (a1_0 : Int) (a1_1 : Int) (a1_2 : Int) (r : Bool) (w : World) (h : spec_l16Before.f a0_0 a0_1 a0_2 a1_0 a1_1 a1_2 = some r) :
  Calls Try.prog 130 #[.agg #[.int .i64 a0_0, .int .i64 a0_1, .int .i64 a0_2], .agg #[.int .i64 a1_0, .int .i64 a1_1, .int .i64 a1_2]] w fun e w' => e = .returned (.bool r) ∧ Below w.heap.size w w' := by
 have hu98 := Try.underlying98; have HB := ak (Below.refl w.heap.size w); unfold spec_l16Before.f at h; have H := h; clear h; by_cases c3 : a0_0 < a1_0
 rw [if_pos c3] at H; have c3b0 := decide_eq_true c3; clear c3; obtain rfl := sj H; rotate_left
 rw [if_neg c3] at H; have c3b0 := decide_eq_false c3; clear c3; by_cases c9 : a0_0 = a1_0
 rw [if_pos c9] at H; obtain ⟨c9b0, c9b1⟩ := bqt c9; clear c9; obtain rfl := sj H; rotate_left
 rw [if_neg c9] at H; obtain ⟨c9b0, c9b1⟩ := bqf c9; obtain rfl := sj H; rotate_left
 all_goals
  go_enter Try.func130, Try.ntmps130; go_wp2_with (first | ((with_reducible refine gate_dst (N := 2) rfl ?_); refine bx 2 #[.int .i64 a0_0, .int .i64 a0_1, .int .i64 a0_2] 98 ?_; intro gb0 hg w9 hbox hb; have BK0 := ak hbox; have GW109 := gw hg HB; have GE0 := gw hg HB; replace HB := bs HB hb; clear hb hbox hg) | ((with_reducible refine gate_dst (N := 3) rfl ?_); refine bx 3 #[.int .i64 a1_0, .int .i64 a1_1, .int .i64 a1_2] 98 ?_; intro gb1 hg w9 hbox hb; have BK1 := ak hbox; have GW110 := gw hg HB; have GE1 := gw hg HB; replace HB := bs HB hb; have NB0_1 := nl hg BK0; have NB1_0 := nr hg BK0; replace BK0 := kb BK0 hb; clear hb hbox hg; have := NB0_1.1; have := NB1_0.1; have hcz2 := cz3 BK0.1; have hcz2 := cz3 BK1.1))
  go_ret
  exact ⟨ew, vb HB.1⟩


/-! ### spec_IsTable: function 106 -/
mutual
def spec_IsTable.l0 : Nat → List (S98) → Int → Option (Bool)
 | 0, _, _ => none
 | k + 1, x5, x3 => if x3 < (x5.length : Int) then (if 0 ≤ x3 then ((spec_l01In.f ((rd_T98 x5 x3).f0) 0 3).bind fun t13 => (if t13 = true then ((spec_l01In.f ((rd_T98 x5 x3).f1) 20 300).bind fun t14 => (if t14 = true then ((spec_l01In.f ((rd_T98 x5 x3).f2) 0 10000).bind fun t12 => (spec_IsTable.j1 k x5 x3 (!t12) ((rd_T98 x5 x3).f0) ((rd_T98 x5 x3).f1) ((rd_T98 x5 x3).f2))) else (spec_IsTable.j1 k x5 x3 true ((rd_T98 x5 x3).f0) ((rd_T98 x5 x3).f1) ((rd_T98 x5 x3).f2)))) else (spec_IsTable.j1 k x5 x3 true ((rd_T98 x5 x3).f0) ((rd_T98 x5 x3).f1) ((rd_T98 x5 x3).f2)))) else (none)) else (some (decide ((x5.length : Int) ≤ 12)))
def spec_IsTable.j1 : Nat → List (S98) → Int → Bool → Int → Int → Int → Option (Bool)
 | 0, _, _, _, _, _, _ => none
 | k + 1, x5, x3, x10, x15, x17, x16 => if x10 = true then (some false) else (if x3 > 0 then (if 0 ≤ (wrap64 (x3 - 1)) then (if (wrap64 (x3 - 1)) < (x5.length : Int) then ((spec_l16Before.f ((rd_T98 x5 (wrap64 (x3 - 1))).f0) ((rd_T98 x5 (wrap64 (x3 - 1))).f1) ((rd_T98 x5 (wrap64 (x3 - 1))).f2) x15 x17 x16).bind fun t11 => (if t11 = true then (if ((rd_T98 x5 (wrap64 (x3 - 1))).f0) = x15 then (if ((rd_T98 x5 (wrap64 (x3 - 1))).f2) > x16 then (some false) else (spec_IsTable.l0 k x5 (wrap64 (x3 + 1)))) else (spec_IsTable.l0 k x5 (wrap64 (x3 + 1)))) else (some false))) else (none)) else (none)) else (spec_IsTable.l0 k x5 (wrap64 (x3 + 1))))
end
def spec_IsTable.f (k : Nat) (l0 : List (S98)) : Option (Bool) := spec_IsTable.l0 k l0 0
def spec_IsTable.T7 : Bool × List (List Nat × List Nat) := (true, [([], []), ([0], [0]), ([1], [1]), ([2], [2]), ([2], [2]), ([4, 2], [2, 4]), ([3, 5, 2], [2, 3, 5]), ([6, 2], [2, 6]), ([2], [2]), ([7, 8, 2, 2], [2, 7, 8]), ([9, 2], [2, 9]), ([10, 9, 2], [2, 10]), ([11], [11]), ([11], [11]), ([13, 11], [11, 13]), ([12, 14, 11], [11, 12, 14]), ([15, 11], [11, 15]), ([16, 11], [11, 16]), ([11], [11]), ([18, 11], [11, 18]), ([17, 19, 11], [11, 17, 19]), ([20, 11, 11], [11, 20]), ([21], [21]), ([21], [21]), ([23, 21], [21, 23]), ([22, 24, 21], [21, 22, 24]), ([25, 21], [21, 25]), ([26, 21], [21, 26]), ([21], [21]), ([28, 21], [21, 28]), ([27, 29, 21], [21, 27, 29]), ([21, 30, 11], [11, 21, 30]), ([11, 31, 2], [2, 11, 31]), ([2, 32], [2, 32])])
def spec_IsTable.B7 : List Nat := [0, 1, 3, 7, 7, 23, 63, 127, 7, 511, 1023, 2047, 4095, 4095, 12287, 32767, 65535, 131071, 4095, 266239, 1048575, 2097151, 4194303, 4194303, 12582911, 33554431, 67108863, 134217727, 4194303, 272629759, 1073741823, 2147483647, 4294967295, 8589934591]
theorem spec_IsTable.tab7 : rtab .any (opsOf Try.f106 7) = spec_IsTable.T7 := by kernel_rfl
theorem spec_IsTable.bits7 : waitsOk spec_IsTable.T7.2 spec_IsTable.B7 = true := by kernel_rfl
set_option maxHeartbeats 8000000 in
set_option maxRecDepth 100000 in
theorem spec_IsTable.calls (k : Nat) (A0 : Option Addr) (c0 : Nat) (l0 : List (S98)) (r : Bool) (w : World) (hr0 : Kd.C k98 w A0 l0.length l0) (hc0 : l0.length ≤ c0) (h : spec_IsTable.f k l0 = some r) :
  Calls Try.prog 106 #[.slice A0 l0.length c0] w fun e w' => e = .returned (.bool r) ∧ Below w.heap.size w w' := by
 have hu98 := Try.underlying98; have HR0 := ak hr0; have HC0 := ak hc0; clear hr0 hc0; have HB := ak (Below.refl w.heap.size w); unfold spec_IsTable.f at h; have H := h; clear h; have H' := ak H; clear H; go_enter Try.func106, Try.ntmps106; go_wp2
 go_loopg [3] k (fun kq v3 w' => ∃ (x3_0 : Int), v3 = .int .i64 x3_0 ∧ Aside0 (spec_IsTable.l0 kq l0 x3_0 = some r) ∧ Aside0 (kq ≤ k) ∧ Aside0 (Below w.heap.size w w'))
 case atStart => exact ⟨(0), es, H', ⟨Nat.le_refl _⟩, ⟨vb HB.1⟩⟩
 case round =>
  clear H'; obtain ⟨x3_0, rfl, HA, HK1, HB⟩ := hrel
  cases gk with
  | zero => exact absurd HA.1 (by simp [spec_IsTable.l0])
  | succ k1 =>
   have H := HA.1; clear HA; simp only [spec_IsTable.l0] at H
   by_cases c2 : x3_0 < (l0.length : Int)
   ·rw [if_pos c2] at H; have c2b0 := decide_eq_true c2; clear c2; by_cases c3 : 0 ≤ x3_0
    ·rw [if_pos c3] at H; have c3b0 := decide_eq_true c3; clear c3; have HC4 := ak H; clear H; have p7 : 0 ≤ (x3_0 : Int) := od; have q7 : x3_0 < (l0.length : Int) := od; obtain ⟨ad7, e7, hx7_5, hx7_0, hx7_6⟩ := at_T98 HR0.1 x3_0 p7 q7
     cases e7; replace hx7_5 := cb HB.1 hx7_5; replace hx7_0 := cb HB.1 hx7_0; replace hx7_6 := cb HB.1 hx7_6; replace p7 := eq_true p7; replace q7 := eq_true q7; go_upto_region 5 with (first | ((with_reducible refine gate_dst (N := 4) rfl ?_); refine bx 4 #[.int .i64 0, .int .i64 0, .int .i64 0] 98 ?_; intro gb9 hg w5 hbox hb; have BK9 := ak hbox; have GW112 := gw hg HB; have GE9 := gw hg HB; replace HB := bs HB hb; clear hb hbox hg; have hcz18 := cz3 BK9.1))
     (try simp only [Act.put, List.setIfInBounds_toArray, List.set_cons_zero, List.set_cons_succ])
     go_cut [30] (fun v10 wc => ∃ (kq : Nat) (x10_3 : Bool), v10 = .bool x10_3 ∧ Aside0 (spec_IsTable.j1 kq l0 x3_0 x10_3 ((rd_T98 l0 x3_0).f0) ((rd_T98 l0 x3_0).f1) ((rd_T98 l0 x3_0).f2) = some r) ∧ Aside0 (kq ≤ k1) ∧ Aside0 (wc.heap[gb9]? = some (.cells #[.int .i64 ((rd_T98 l0 x3_0).f0), .int .i64 ((rd_T98 l0 x3_0).f1), .int .i64 ((rd_T98 l0 x3_0).f2)] 98 (0, 0))) ∧ Aside0 (Below w.heap.size w wc))
     case first =>
      have H := HC4.1; clear HC4; obtain ⟨t13, A7, H⟩ := bnk H; by_cases c8 : t13 = true
      ·subst c8; rw [if_pos rfl] at H; obtain ⟨t14, A9, H⟩ := bnk H; by_cases c10 : t14 = true
       ·subst c10; rw [if_pos rfl] at H; obtain ⟨t12, A11, H⟩ := bnk H; have H' := ak H; clear H; have hcz19 := cz3 BK9.1; go_wp2_with (first | ((with_reducible refine at_fn (f := 65) rfl ?_); refine gl (some 17) Try.func65 #[.int .i64 ((rd_T98 l0 x3_0).f0), .int .i64 0, .int .i64 3] ?_; (with_reducible refine (spec_l01In.calls ((rd_T98 l0 x3_0).f0) 0 3 _ _ A7.1).mono ?_); rintro e w' ⟨rfl, ⟨nd, rfl⟩⟩; refine ⟨_, rfl, ?_⟩) | (go_at_call 65; (with_reducible refine (spec_l01In.calls ((rd_T98 l0 x3_0).f1) 20 300 _ _ A9.1).mono ?_); rintro e w' ⟨rfl, ⟨nd, rfl⟩⟩) | (go_at_call 65; (with_reducible refine (spec_l01In.calls ((rd_T98 l0 x3_0).f2) 0 10000 t12 _ A11.1).mono ?_); rintro e w' ⟨rfl, ⟨nd, rfl⟩⟩))
        go_meet
        case rel => exact ⟨_, (!t12), es, H', ⟨by have := HK1.1; first | omega | exact Nat.le_refl _⟩, ⟨by (with_reducible repeat (first | refine blk_drewN ?_ _ | refine blk_drew ?_ | refine blk_alloc ?_ _)); refine blk_put (cs := #[.int .i64 ((rd_T98 l0 x3_0).f0), .int .i64 ((rd_T98 l0 x3_0).f1), .int .i64 0]) ?_ 2 _ rfl; (with_reducible repeat (first | refine blk_drewN ?_ _ | refine blk_drew ?_ | refine blk_alloc ?_ _)); refine blk_put (cs := #[.int .i64 ((rd_T98 l0 x3_0).f0), .int .i64 0, .int .i64 0]) ?_ 1 _ rfl; (with_reducible repeat (first | refine blk_drewN ?_ _ | refine blk_drew ?_ | refine blk_alloc ?_ _)); refine blk_put (cs := #[.int .i64 0, .int .i64 0, .int .i64 0]) ?_ 0 _ rfl; exact vk BK9.1⟩, ⟨vb HB.1⟩⟩
       ·replace c10 := Bool.eq_false_iff.mpr c10; subst c10; rw [if_neg nf] at H; have H' := ak H; clear H; have hcz20 := cz3 BK9.1; go_wp2_with (first | ((with_reducible refine at_fn (f := 65) rfl ?_); refine gl (some 17) Try.func65 #[.int .i64 ((rd_T98 l0 x3_0).f0), .int .i64 0, .int .i64 3] ?_; (with_reducible refine (spec_l01In.calls ((rd_T98 l0 x3_0).f0) 0 3 _ _ A7.1).mono ?_); rintro e w' ⟨rfl, ⟨nd, rfl⟩⟩; refine ⟨_, rfl, ?_⟩) | (go_at_call 65; (with_reducible refine (spec_l01In.calls ((rd_T98 l0 x3_0).f1) 20 300 _ _ A9.1).mono ?_); rintro e w' ⟨rfl, ⟨nd, rfl⟩⟩))
        go_meet
        case rel => exact ⟨_, (true), es, H', ⟨by have := HK1.1; first | omega | exact Nat.le_refl _⟩, ⟨by (with_reducible repeat (first | refine blk_drewN ?_ _ | refine blk_drew ?_ | refine blk_alloc ?_ _)); refine blk_put (cs := #[.int .i64 ((rd_T98 l0 x3_0).f0), .int .i64 ((rd_T98 l0 x3_0).f1), .int .i64 0]) ?_ 2 _ rfl; (with_reducible repeat (first | refine blk_drewN ?_ _ | refine blk_drew ?_ | refine blk_alloc ?_ _)); refine blk_put (cs := #[.int .i64 ((rd_T98 l0 x3_0).f0), .int .i64 0, .int .i64 0]) ?_ 1 _ rfl; (with_reducible repeat (first | refine blk_drewN ?_ _ | refine blk_drew ?_ | refine blk_alloc ?_ _)); refine blk_put (cs := #[.int .i64 0, .int .i64 0, .int .i64 0]) ?_ 0 _ rfl; exact vk BK9.1⟩, ⟨vb HB.1⟩⟩
      ·replace c8 := Bool.eq_false_iff.mpr c8; subst c8; rw [if_neg nf] at H; have H' := ak H; clear H; have hcz21 := cz3 BK9.1; go_wp2_with (first | ((with_reducible refine at_fn (f := 65) rfl ?_); refine gl (some 17) Try.func65 #[.int .i64 ((rd_T98 l0 x3_0).f0), .int .i64 0, .int .i64 3] ?_; (with_reducible refine (spec_l01In.calls ((rd_T98 l0 x3_0).f0) 0 3 _ _ A7.1).mono ?_); rintro e w' ⟨rfl, ⟨nd, rfl⟩⟩; refine ⟨_, rfl, ?_⟩))
       go_meet
       case rel => exact ⟨_, (true), es, H', ⟨by have := HK1.1; first | omega | exact Nat.le_refl _⟩, ⟨by (with_reducible repeat (first | refine blk_drewN ?_ _ | refine blk_drew ?_ | refine blk_alloc ?_ _)); refine blk_put (cs := #[.int .i64 ((rd_T98 l0 x3_0).f0), .int .i64 ((rd_T98 l0 x3_0).f1), .int .i64 0]) ?_ 2 _ rfl; (with_reducible repeat (first | refine blk_drewN ?_ _ | refine blk_drew ?_ | refine blk_alloc ?_ _)); refine blk_put (cs := #[.int .i64 ((rd_T98 l0 x3_0).f0), .int .i64 0, .int .i64 0]) ?_ 1 _ rfl; (with_reducible repeat (first | refine blk_drewN ?_ _ | refine blk_drew ?_ | refine blk_alloc ?_ _)); refine blk_put (cs := #[.int .i64 0, .int .i64 0, .int .i64 0]) ?_ 0 _ rfl; exact vk BK9.1⟩, ⟨vb HB.1⟩⟩
     case rest =>
      clear HC4; obtain ⟨kq, x10_3, rfl, HA, HJ3, BK9, HB⟩ := hcut
      cases kq with
      | zero => exact absurd HA.1 (by simp [spec_IsTable.j1])
      | succ kj3 =>
       have H := HA.1; clear HA; simp only [spec_IsTable.j1] at H
       by_cases c15 : x10_3 = true
       ·subst c15; rw [if_pos rfl] at H; obtain rfl := sj H; go_wp2
        go_ret
        exact ⟨ew, vb HB.1⟩
       ·replace c15 := Bool.eq_false_iff.mpr c15; subst c15; rw [if_neg nf] at H; by_cases c16 : x3_0 > 0
        ·rw [if_pos c16] at H; have c16b0 := decide_eq_true c16; clear c16; obtain ⟨ji2, hji17⟩ : ∃ j_ : Int, (wrap64 (x3_0 - 1)) = j_ := ⟨_, rfl⟩; replace H : (if 0 ≤ (ji2) then (if (ji2) < (l0.length : Int) then ((spec_l16Before.f ((rd_T98 l0 (ji2)).f0) ((rd_T98 l0 (ji2)).f1) ((rd_T98 l0 (ji2)).f2) ((rd_T98 l0 x3_0).f0) ((rd_T98 l0 x3_0).f1) ((rd_T98 l0 x3_0).f2)).bind fun t11 => (if t11 = true then (if ((rd_T98 l0 (ji2)).f0) = ((rd_T98 l0 x3_0).f0) then (if ((rd_T98 l0 (ji2)).f2) > ((rd_T98 l0 x3_0).f2) then (some false) else (spec_IsTable.l0 kj3 l0 (wrap64 (x3_0 + 1)))) else (spec_IsTable.l0 kj3 l0 (wrap64 (x3_0 + 1)))) else (some false))) else (none)) else (none)) = some r := by first | (rw [hji17] at H; exact H) | (simp only [hji17] at H ⊢; exact H)
         have hji17w : (IntKind.i64.wrap (x3_0 - 1)) = ji2 := (i64_w _).trans hji17; by_cases c18 : 0 ≤ (ji2)
         ·rw [if_pos c18] at H; have c18b0 := decide_eq_true c18; clear c18; by_cases c19 : (ji2) < (l0.length : Int)
          ·rw [if_pos c19] at H; have c19b0 := decide_eq_true c19; clear c19; obtain ⟨t11, A20, H⟩ := bnk H; by_cases c21 : t11 = true
           ·subst c21; rw [if_pos rfl] at H; by_cases c22 : ((rd_T98 l0 (ji2)).f0) = ((rd_T98 l0 x3_0).f0)
            ·rw [if_pos c22] at H; have c22b0 : (((rd_T98 l0 (ji2)).f0) == ((rd_T98 l0 x3_0).f0)) = true := beq_iff_eq.mpr c22; have c22b1 : (((rd_T98 l0 (ji2)).f0) != ((rd_T98 l0 x3_0).f0)) = false := bne_eq_false_iff_eq.mpr c22; clear c22; by_cases c23 : ((rd_T98 l0 (ji2)).f2) > ((rd_T98 l0 x3_0).f2)
             ·rw [if_pos c23] at H; have c23b0 := decide_eq_true c23; clear c23; obtain rfl := sj H; (try go_wp2)
              replace BK9 := ak (blk_drew BK9.1); replace HB := ak (below_drew1 HB.1); have p1 : 0 ≤ ((ji2) : Int) := od; have q1 : (ji2) < (l0.length : Int) := od; obtain ⟨ad1, e1, hx1_5, hx1_0, hx1_6⟩ := at_T98 HR0.1 (ji2) p1 q1; have hw1_6 := hx1_6; have hw1_0 := hx1_0; have hw1_5 := hx1_5; obtain rfl : ad7 = ad1 := (by injection e1); replace hx1_5 := cb HB.1 hx1_5; replace hx1_0 := cb HB.1 hx1_0; replace hx1_6 := cb HB.1 hx1_6; replace p1 := eq_true p1; replace q1 := eq_true q1; have p4 : 0 ≤ ((ji2) : Int) := od; have q4 : (ji2) < (l0.length : Int) := od; obtain ⟨ad4, e4, hx4_5, hx4_0, hx4_6⟩ := at_T98 HR0.1 (ji2) p4 q4; have hw4_6 := hx4_6; have hw4_0 := hx4_0; have hw4_5 := hx4_5; obtain rfl : ad7 = ad4 := (by injection e4); replace hx4_5 := cb HB.1 hx4_5; replace hx4_0 := cb HB.1 hx4_0; replace hx4_6 := cb HB.1 hx4_6; replace p4 := eq_true p4; replace q4 := eq_true q4; have p8 : 0 ≤ ((ji2) : Int) := od; have q8 : (ji2) < (l0.length : Int) := od; obtain ⟨ad8, e8, hx8_5, hx8_0, hx8_6⟩ := at_T98 HR0.1 (ji2) p8 q8; have hw8_6 := hx8_6; have hw8_0 := hx8_0; have hw8_5 := hx8_5; obtain rfl : ad7 = ad8 := (by injection e8); replace hx8_5 := cb HB.1 hx8_5; replace hx8_0 := cb HB.1 hx8_0; replace hx8_6 := cb HB.1 hx8_6; replace p8 := eq_true p8; replace q8 := eq_true q8
              refine start_ (n := 34) (S := fun w' => w'.cell? ⟨gb9, 0, none⟩ = some (.int .i64 ((rd_T98 l0 x3_0).f0)) ∧ w'.cell? ⟨gb9, 1, none⟩ = some (.int .i64 ((rd_T98 l0 x3_0).f1)) ∧ w'.cell? ⟨gb9, 2, none⟩ = some (.int .i64 ((rd_T98 l0 x3_0).f2)) ∧ w'.cell? (ad7.add (((ji2)).toNat * 3)) = some (.int .i64 ((rd_T98 l0 (ji2)).f0)) ∧ w'.cell? ⟨(ad7.add (((ji2)).toNat * 3)).block, (ad7.add (((ji2)).toNat * 3)).off + 1, none⟩ = some (.int .i64 ((rd_T98 l0 (ji2)).f1)) ∧ w'.cell? ⟨(ad7.add (((ji2)).toNat * 3)).block, (ad7.add (((ji2)).toNat * 3)).off + 2, none⟩ = some (.int .i64 ((rd_T98 l0 (ji2)).f2)) ∧ w'.cell? (ad7.add (((ji2)).toNat * 3)) = some (.int .i64 ((rd_T98 l0 (ji2)).f0)) ∧ w'.cell? ⟨(ad7.add (((ji2)).toNat * 3)).block, (ad7.add (((ji2)).toNat * 3)).off + 1, none⟩ = some (.int .i64 ((rd_T98 l0 (ji2)).f1)) ∧ w'.cell? ⟨(ad7.add (((ji2)).toNat * 3)).block, (ad7.add (((ji2)).toNat * 3)).off + 2, none⟩ = some (.int .i64 ((rd_T98 l0 (ji2)).f2)) ∧ w'.cell? (ad7.add (((ji2)).toNat * 3)) = some (.int .i64 ((rd_T98 l0 (ji2)).f0)) ∧ w'.cell? ⟨(ad7.add (((ji2)).toNat * 3)).block, (ad7.add (((ji2)).toNat * 3)).off + 1, none⟩ = some (.int .i64 ((rd_T98 l0 (ji2)).f1)) ∧ w'.cell? ⟨(ad7.add (((ji2)).toNat * 3)).block, (ad7.add (((ji2)).toNat * 3)).off + 2, none⟩ = some (.int .i64 ((rd_T98 l0 (ji2)).f2))) (ds := []) (tf 0 34) (by kernel_rfl) rfl rfl ⟨bk BK9.1 0, bk BK9.1 1, bk BK9.1 2, (cb HB.1 hw1_5 :), (cb HB.1 hw1_0 :), (cb HB.1 hw1_6 :), (cb HB.1 hw4_5 :), (cb HB.1 hw4_0 :), (cb HB.1 hw4_6 :), (cb HB.1 hw8_5 :), (cb HB.1 hw8_0 :), (cb HB.1 hw8_6 :)⟩ (fun hHeld => ?_); refine with_tabW spec_IsTable.tab7 spec_IsTable.bits7 (fun HT_ HW_ => ?_)
              generalize wc.drew = w24 at BK9 HB hx1_5 hx1_0 hx1_6 hx4_5 hx4_0 hx4_6 hx8_5 hx8_0 hx8_6 hHeld ⊢; refine pu_ 0 31 (tf 1 33) rfl rfl ?_; refine pu_ 1 32 (tf 2 32) rfl rfl ?_; refine pu_ 2 33 (tf 3 31) rfl rfl ?_; refine pu_ 3 34 (tf 4 30) rfl rfl ?_; refine pu_ 4 35 (tf 5 29) rfl rfl ?_; refine pu_ 5 36 (tf 6 28) rfl rfl ?_; refine pu_ 6 37 (tf 7 27) rfl rfl ?_; refine ta12_ 7 38 (tf 8 26) rfl rfl ?_; refine ta12_ 8 39 (tf 9 25) rfl rfl ?_; refine one_ (i := 9) (N := some 40) (tf 10 24) rfl rfl (one_of HT_.1 (by kernel_rfl)) (by decide) (fun K hK => ?_); refine goes_ Try.func130 (by kernel_rfl) rfl #[.agg #[.int .i64 ((rd_T98 l0 (ji2)).f0), .int .i64 ((rd_T98 l0 (ji2)).f1), .int .i64 ((rd_T98 l0 (ji2)).f2)], .agg #[.int .i64 ((rd_T98 l0 x3_0).f0), .int .i64 ((rd_T98 l0 x3_0).f1), .int .i64 ((rd_T98 l0 x3_0).f2)]] (by rfl) rfl rfl (by (try simp only [List.map_toArray, List.map_cons, List.map_nil]); first | done | (simp only [hji17]; rfl) | rfl | (simp only [List.length_drop, List.length_take]; rfl)) ?_; with_reducible refine (spec_l16Before.calls ((rd_T98 l0 (ji2)).f0) ((rd_T98 l0 (ji2)).f1) ((rd_T98 l0 (ji2)).f2) ((rd_T98 l0 x3_0).f0) ((rd_T98 l0 x3_0).f1) ((rd_T98 l0 x3_0).f2) true _ A20.1).mono ?_
              rintro e w25 ⟨rfl, hb⟩; refine ⟨_, rfl, ?_⟩; replace BK9 := kb BK9 hb; replace HB := bs HB hb; (try clear hb)
              (try clear hb2)
              (try clear hk)
              (try clear hi)
              refine hK.out _ _ ⟨bk BK9.1 0, bk BK9.1 1, bk BK9.1 2, (cb HB.1 hw1_5 :), (cb HB.1 hw1_0 :), (cb HB.1 hw1_6 :), (cb HB.1 hw4_5 :), (cb HB.1 hw4_0 :), (cb HB.1 hw4_6 :), (cb HB.1 hw8_5 :), (cb HB.1 hw8_0 :), (cb HB.1 hw8_6 :)⟩ (fun hHeld => ?_); clear hK K; refine norm_ (a' := ?_) ?_ ?_
              rotate_left
              ·show Act.put _ (some 40) _ = _
               simp only [Act.put, List.setIfInBounds_toArray, List.set_cons_zero, List.set_cons_succ, i64_w, i32_w]
               rfl
              refine pu_ 10 41 (tf 11 23) rfl rfl ?_; refine pu_ 11 42 (tf 12 22) rfl rfl ?_; refine pu_ 12 43 (tf 13 21) rfl rfl ?_; refine pu_ 13 44 (tf 14 20) rfl rfl ?_; refine pu_ 14 45 (tf 15 19) rfl rfl ?_; refine pu_ 15 46 (tf 16 18) rfl rfl ?_; refine pu_ 16 47 (tf 17 17) rfl rfl ?_; refine pu_ 18 49 (tM [17, 1, 1, 15]) rfl rfl ?_; refine ta12_ 17 48 (tf 19 15) rfl rfl ?_; refine ta12_ 19 50 (tf 20 14) rfl rfl ?_; refine pu_ 20 51 (tf 21 13) rfl rfl ?_; refine pu_ 21 52 (tf 22 12) rfl rfl ?_; refine pu_ 22 53 (tf 23 11) rfl rfl ?_; refine pu_ 23 54 (tf 24 10) rfl rfl ?_; refine pu_ 24 55 (tf 25 9) rfl rfl ?_; refine pu_ 25 56 (tf 26 8) rfl rfl ?_; refine pu_ 26 57 (tf 27 7) rfl rfl ?_; refine pu_ 28 59 (tM [27, 1, 1, 5]) rfl rfl ?_; refine ta12_ 27 58 (tf 29 5) rfl rfl ?_; refine ta12_ 29 60 (tf 30 4) rfl rfl ?_; refine pu_ 30 61 (tf 31 3) rfl rfl ?_; refine pu_ 31 62 (tf 32 2) rfl rfl ?_; refine pu_ 32 63 (tf 33 1) rfl rfl ?_; refine pu_ 33 64 (tf 34 0) rfl rfl ?_; refine done_ (done_of HT_.1 (by kernel_rfl)) ?_; (try go_wp2)
              go_ret
              exact ⟨by first | rfl | (simp [errW_none, errW_some] <;> rfl) | (simp only [← hji17]; first | rfl | (simp [errW_none, errW_some] <;> rfl)) | (simp [*, errW_none, errW_some] <;> rfl), vb HB.1⟩
             ·rw [if_neg c23] at H; have c23b0 := decide_eq_false c23; clear c23; have H' := ak H; clear H; (try go_wp2)
              replace BK9 := ak (blk_drew BK9.1); replace HB := ak (below_drew1 HB.1); have p1 : 0 ≤ ((ji2) : Int) := od; have q1 : (ji2) < (l0.length : Int) := od; obtain ⟨ad1, e1, hx1_5, hx1_0, hx1_6⟩ := at_T98 HR0.1 (ji2) p1 q1; have hw1_6 := hx1_6; have hw1_0 := hx1_0; have hw1_5 := hx1_5; obtain rfl : ad7 = ad1 := (by injection e1); replace hx1_5 := cb HB.1 hx1_5; replace hx1_0 := cb HB.1 hx1_0; replace hx1_6 := cb HB.1 hx1_6; replace p1 := eq_true p1; replace q1 := eq_true q1; have p4 : 0 ≤ ((ji2) : Int) := od; have q4 : (ji2) < (l0.length : Int) := od; obtain ⟨ad4, e4, hx4_5, hx4_0, hx4_6⟩ := at_T98 HR0.1 (ji2) p4 q4; have hw4_6 := hx4_6; have hw4_0 := hx4_0; have hw4_5 := hx4_5; obtain rfl : ad7 = ad4 := (by injection e4); replace hx4_5 := cb HB.1 hx4_5; replace hx4_0 := cb HB.1 hx4_0; replace hx4_6 := cb HB.1 hx4_6; replace p4 := eq_true p4; replace q4 := eq_true q4; have p8 : 0 ≤ ((ji2) : Int) := od; have q8 : (ji2) < (l0.length : Int) := od; obtain ⟨ad8, e8, hx8_5, hx8_0, hx8_6⟩ := at_T98 HR0.1 (ji2) p8 q8; have hw8_6 := hx8_6; have hw8_0 := hx8_0; have hw8_5 := hx8_5; obtain rfl : ad7 = ad8 := (by injection e8); replace hx8_5 := cb HB.1 hx8_5; replace hx8_0 := cb HB.1 hx8_0; replace hx8_6 := cb HB.1 hx8_6; replace p8 := eq_true p8; replace q8 := eq_true q8
              refine start_ (n := 34) (S := fun w' => w'.cell? ⟨gb9, 0, none⟩ = some (.int .i64 ((rd_T98 l0 x3_0).f0)) ∧ w'.cell? ⟨gb9, 1, none⟩ = some (.int .i64 ((rd_T98 l0 x3_0).f1)) ∧ w'.cell? ⟨gb9, 2, none⟩ = some (.int .i64 ((rd_T98 l0 x3_0).f2)) ∧ w'.cell? (ad7.add (((ji2)).toNat * 3)) = some (.int .i64 ((rd_T98 l0 (ji2)).f0)) ∧ w'.cell? ⟨(ad7.add (((ji2)).toNat * 3)).block, (ad7.add (((ji2)).toNat * 3)).off + 1, none⟩ = some (.int .i64 ((rd_T98 l0 (ji2)).f1)) ∧ w'.cell? ⟨(ad7.add (((ji2)).toNat * 3)).block, (ad7.add (((ji2)).toNat * 3)).off + 2, none⟩ = some (.int .i64 ((rd_T98 l0 (ji2)).f2)) ∧ w'.cell? (ad7.add (((ji2)).toNat * 3)) = some (.int .i64 ((rd_T98 l0 (ji2)).f0)) ∧ w'.cell? ⟨(ad7.add (((ji2)).toNat * 3)).block, (ad7.add (((ji2)).toNat * 3)).off + 1, none⟩ = some (.int .i64 ((rd_T98 l0 (ji2)).f1)) ∧ w'.cell? ⟨(ad7.add (((ji2)).toNat * 3)).block, (ad7.add (((ji2)).toNat * 3)).off + 2, none⟩ = some (.int .i64 ((rd_T98 l0 (ji2)).f2)) ∧ w'.cell? (ad7.add (((ji2)).toNat * 3)) = some (.int .i64 ((rd_T98 l0 (ji2)).f0)) ∧ w'.cell? ⟨(ad7.add (((ji2)).toNat * 3)).block, (ad7.add (((ji2)).toNat * 3)).off + 1, none⟩ = some (.int .i64 ((rd_T98 l0 (ji2)).f1)) ∧ w'.cell? ⟨(ad7.add (((ji2)).toNat * 3)).block, (ad7.add (((ji2)).toNat * 3)).off + 2, none⟩ = some (.int .i64 ((rd_T98 l0 (ji2)).f2))) (ds := []) (tf 0 34) (by kernel_rfl) rfl rfl ⟨bk BK9.1 0, bk BK9.1 1, bk BK9.1 2, (cb HB.1 hw1_5 :), (cb HB.1 hw1_0 :), (cb HB.1 hw1_6 :), (cb HB.1 hw4_5 :), (cb HB.1 hw4_0 :), (cb HB.1 hw4_6 :), (cb HB.1 hw8_5 :), (cb HB.1 hw8_0 :), (cb HB.1 hw8_6 :)⟩ (fun hHeld => ?_); refine with_tabW spec_IsTable.tab7 spec_IsTable.bits7 (fun HT_ HW_ => ?_)
              generalize wc.drew = w26 at BK9 HB hx1_5 hx1_0 hx1_6 hx4_5 hx4_0 hx4_6 hx8_5 hx8_0 hx8_6 hHeld ⊢; refine pu_ 0 31 (tf 1 33) rfl rfl ?_; refine pu_ 1 32 (tf 2 32) rfl rfl ?_; refine pu_ 2 33 (tf 3 31) rfl rfl ?_; refine pu_ 3 34 (tf 4 30) rfl rfl ?_; refine pu_ 4 35 (tf 5 29) rfl rfl ?_; refine pu_ 5 36 (tf 6 28) rfl rfl ?_; refine pu_ 6 37 (tf 7 27) rfl rfl ?_; refine ta12_ 7 38 (tf 8 26) rfl rfl ?_; refine ta12_ 8 39 (tf 9 25) rfl rfl ?_; refine one_ (i := 9) (N := some 40) (tf 10 24) rfl rfl (one_of HT_.1 (by kernel_rfl)) (by decide) (fun K hK => ?_); refine goes_ Try.func130 (by kernel_rfl) rfl #[.agg #[.int .i64 ((rd_T98 l0 (ji2)).f0), .int .i64 ((rd_T98 l0 (ji2)).f1), .int .i64 ((rd_T98 l0 (ji2)).f2)], .agg #[.int .i64 ((rd_T98 l0 x3_0).f0), .int .i64 ((rd_T98 l0 x3_0).f1), .int .i64 ((rd_T98 l0 x3_0).f2)]] (by rfl) rfl rfl (by (try simp only [List.map_toArray, List.map_cons, List.map_nil]); first | done | (simp only [hji17]; rfl) | rfl | (simp only [List.length_drop, List.length_take]; rfl)) ?_; with_reducible refine (spec_l16Before.calls ((rd_T98 l0 (ji2)).f0) ((rd_T98 l0 (ji2)).f1) ((rd_T98 l0 (ji2)).f2) ((rd_T98 l0 x3_0).f0) ((rd_T98 l0 x3_0).f1) ((rd_T98 l0 x3_0).f2) true _ A20.1).mono ?_
              rintro e w27 ⟨rfl, hb⟩; refine ⟨_, rfl, ?_⟩; replace BK9 := kb BK9 hb; replace HB := bs HB hb; (try clear hb)
              (try clear hb2)
              (try clear hk)
              (try clear hi)
              refine hK.out _ _ ⟨bk BK9.1 0, bk BK9.1 1, bk BK9.1 2, (cb HB.1 hw1_5 :), (cb HB.1 hw1_0 :), (cb HB.1 hw1_6 :), (cb HB.1 hw4_5 :), (cb HB.1 hw4_0 :), (cb HB.1 hw4_6 :), (cb HB.1 hw8_5 :), (cb HB.1 hw8_0 :), (cb HB.1 hw8_6 :)⟩ (fun hHeld => ?_); clear hK K; refine norm_ (a' := ?_) ?_ ?_
              rotate_left
              ·show Act.put _ (some 40) _ = _
               simp only [Act.put, List.setIfInBounds_toArray, List.set_cons_zero, List.set_cons_succ, i64_w, i32_w]
               rfl
              refine pu_ 10 41 (tf 11 23) rfl rfl ?_; refine pu_ 11 42 (tf 12 22) rfl rfl ?_; refine pu_ 12 43 (tf 13 21) rfl rfl ?_; refine pu_ 13 44 (tf 14 20) rfl rfl ?_; refine pu_ 14 45 (tf 15 19) rfl rfl ?_; refine pu_ 15 46 (tf 16 18) rfl rfl ?_; refine pu_ 16 47 (tf 17 17) rfl rfl ?_; refine pu_ 18 49 (tM [17, 1, 1, 15]) rfl rfl ?_; refine ta12_ 17 48 (tf 19 15) rfl rfl ?_; refine ta12_ 19 50 (tf 20 14) rfl rfl ?_; refine pu_ 20 51 (tf 21 13) rfl rfl ?_; refine pu_ 21 52 (tf 22 12) rfl rfl ?_; refine pu_ 22 53 (tf 23 11) rfl rfl ?_; refine pu_ 23 54 (tf 24 10) rfl rfl ?_; refine pu_ 24 55 (tf 25 9) rfl rfl ?_; refine pu_ 25 56 (tf 26 8) rfl rfl ?_; refine pu_ 26 57 (tf 27 7) rfl rfl ?_; refine pu_ 28 59 (tM [27, 1, 1, 5]) rfl rfl ?_; refine ta12_ 27 58 (tf 29 5) rfl rfl ?_; refine ta12_ 29 60 (tf 30 4) rfl rfl ?_; refine pu_ 30 61 (tf 31 3) rfl rfl ?_; refine pu_ 31 62 (tf 32 2) rfl rfl ?_; refine pu_ 32 63 (tf 33 1) rfl rfl ?_; refine pu_ 33 64 (tf 34 0) rfl rfl ?_; refine done_ (done_of HT_.1 (by kernel_rfl)) ?_; (try go_wp2)
              go_roundg kj3
              case measure => have := HK1.1; have := HJ3.1; omega
              case rel => exact ⟨(wrap64 (x3_0 + 1)), es, H', ⟨by have := HK1.1; have := HJ3.1; omega⟩, ⟨vb HB.1⟩⟩
            ·rw [if_neg c22] at H; have c22b0 : (((rd_T98 l0 (ji2)).f0) == ((rd_T98 l0 x3_0).f0)) = false := beq_eq_false_iff_ne.mpr c22; have c22b1 : (((rd_T98 l0 (ji2)).f0) != ((rd_T98 l0 x3_0).f0)) = true := bne_iff_ne.mpr c22; have H' := ak H; clear H; (try go_wp2)
             replace BK9 := ak (blk_drew BK9.1); replace HB := ak (below_drew1 HB.1); have p1 : 0 ≤ ((ji2) : Int) := od; have q1 : (ji2) < (l0.length : Int) := od; obtain ⟨ad1, e1, hx1_5, hx1_0, hx1_6⟩ := at_T98 HR0.1 (ji2) p1 q1; have hw1_6 := hx1_6; have hw1_0 := hx1_0; have hw1_5 := hx1_5; obtain rfl : ad7 = ad1 := (by injection e1); replace hx1_5 := cb HB.1 hx1_5; replace hx1_0 := cb HB.1 hx1_0; replace hx1_6 := cb HB.1 hx1_6; replace p1 := eq_true p1; replace q1 := eq_true q1; have p4 : 0 ≤ ((ji2) : Int) := od; have q4 : (ji2) < (l0.length : Int) := od; obtain ⟨ad4, e4, hx4_5, hx4_0, hx4_6⟩ := at_T98 HR0.1 (ji2) p4 q4; have hw4_6 := hx4_6; have hw4_0 := hx4_0; have hw4_5 := hx4_5; obtain rfl : ad7 = ad4 := (by injection e4); replace hx4_5 := cb HB.1 hx4_5; replace hx4_0 := cb HB.1 hx4_0; replace hx4_6 := cb HB.1 hx4_6; replace p4 := eq_true p4; replace q4 := eq_true q4; refine start_ (n := 34) (S := fun w' => w'.cell? ⟨gb9, 0, none⟩ = some (.int .i64 ((rd_T98 l0 x3_0).f0)) ∧ w'.cell? ⟨gb9, 1, none⟩ = some (.int .i64 ((rd_T98 l0 x3_0).f1)) ∧ w'.cell? ⟨gb9, 2, none⟩ = some (.int .i64 ((rd_T98 l0 x3_0).f2)) ∧ w'.cell? (ad7.add (((ji2)).toNat * 3)) = some (.int .i64 ((rd_T98 l0 (ji2)).f0)) ∧ w'.cell? ⟨(ad7.add (((ji2)).toNat * 3)).block, (ad7.add (((ji2)).toNat * 3)).off + 1, none⟩ = some (.int .i64 ((rd_T98 l0 (ji2)).f1)) ∧ w'.cell? ⟨(ad7.add (((ji2)).toNat * 3)).block, (ad7.add (((ji2)).toNat * 3)).off + 2, none⟩ = some (.int .i64 ((rd_T98 l0 (ji2)).f2)) ∧ w'.cell? (ad7.add (((ji2)).toNat * 3)) = some (.int .i64 ((rd_T98 l0 (ji2)).f0)) ∧ w'.cell? ⟨(ad7.add (((ji2)).toNat * 3)).block, (ad7.add (((ji2)).toNat * 3)).off + 1, none⟩ = some (.int .i64 ((rd_T98 l0 (ji2)).f1)) ∧ w'.cell? ⟨(ad7.add (((ji2)).toNat * 3)).block, (ad7.add (((ji2)).toNat * 3)).off + 2, none⟩ = some (.int .i64 ((rd_T98 l0 (ji2)).f2))) (ds := []) (tf 0 34) (by kernel_rfl) rfl rfl ⟨bk BK9.1 0, bk BK9.1 1, bk BK9.1 2, (cb HB.1 hw1_5 :), (cb HB.1 hw1_0 :), (cb HB.1 hw1_6 :), (cb HB.1 hw4_5 :), (cb HB.1 hw4_0 :), (cb HB.1 hw4_6 :)⟩ (fun hHeld => ?_); refine with_tabW spec_IsTable.tab7 spec_IsTable.bits7 (fun HT_ HW_ => ?_)
             generalize wc.drew = w28 at BK9 HB hx1_5 hx1_0 hx1_6 hx4_5 hx4_0 hx4_6 hHeld ⊢; refine pu_ 0 31 (tf 1 33) rfl rfl ?_; refine pu_ 1 32 (tf 2 32) rfl rfl ?_; refine pu_ 2 33 (tf 3 31) rfl rfl ?_; refine pu_ 3 34 (tf 4 30) rfl rfl ?_; refine pu_ 4 35 (tf 5 29) rfl rfl ?_; refine pu_ 5 36 (tf 6 28) rfl rfl ?_; refine pu_ 6 37 (tf 7 27) rfl rfl ?_; refine ta9_ 7 38 (tf 8 26) rfl rfl ?_; refine ta9_ 8 39 (tf 9 25) rfl rfl ?_; refine one_ (i := 9) (N := some 40) (tf 10 24) rfl rfl (one_of HT_.1 (by kernel_rfl)) (by decide) (fun K hK => ?_); refine goes_ Try.func130 (by kernel_rfl) rfl #[.agg #[.int .i64 ((rd_T98 l0 (ji2)).f0), .int .i64 ((rd_T98 l0 (ji2)).f1), .int .i64 ((rd_T98 l0 (ji2)).f2)], .agg #[.int .i64 ((rd_T98 l0 x3_0).f0), .int .i64 ((rd_T98 l0 x3_0).f1), .int .i64 ((rd_T98 l0 x3_0).f2)]] (by rfl) rfl rfl (by (try simp only [List.map_toArray, List.map_cons, List.map_nil]); first | done | (simp only [hji17]; rfl) | rfl | (simp only [List.length_drop, List.length_take]; rfl)) ?_; with_reducible refine (spec_l16Before.calls ((rd_T98 l0 (ji2)).f0) ((rd_T98 l0 (ji2)).f1) ((rd_T98 l0 (ji2)).f2) ((rd_T98 l0 x3_0).f0) ((rd_T98 l0 x3_0).f1) ((rd_T98 l0 x3_0).f2) true _ A20.1).mono ?_
             rintro e w29 ⟨rfl, hb⟩; refine ⟨_, rfl, ?_⟩; replace BK9 := kb BK9 hb; replace HB := bs HB hb; (try clear hb)
             (try clear hb2)
             (try clear hk)
             (try clear hi)
             refine hK.out _ _ ⟨bk BK9.1 0, bk BK9.1 1, bk BK9.1 2, (cb HB.1 hw1_5 :), (cb HB.1 hw1_0 :), (cb HB.1 hw1_6 :), (cb HB.1 hw4_5 :), (cb HB.1 hw4_0 :), (cb HB.1 hw4_6 :)⟩ (fun hHeld => ?_); clear hK K; refine norm_ (a' := ?_) ?_ ?_
             rotate_left
             ·show Act.put _ (some 40) _ = _
              simp only [Act.put, List.setIfInBounds_toArray, List.set_cons_zero, List.set_cons_succ, i64_w, i32_w]
              rfl
             refine pu_ 10 41 (tf 11 23) rfl rfl ?_; refine pu_ 11 42 (tf 12 22) rfl rfl ?_; refine pu_ 12 43 (tf 13 21) rfl rfl ?_; refine pu_ 13 44 (tf 14 20) rfl rfl ?_; refine pu_ 14 45 (tf 15 19) rfl rfl ?_; refine pu_ 15 46 (tf 16 18) rfl rfl ?_; refine pu_ 16 47 (tf 17 17) rfl rfl ?_; refine pu_ 18 49 (tM [17, 1, 1, 15]) rfl rfl ?_; refine ta9_ 17 48 (tf 19 15) rfl rfl ?_; refine ta9_ 19 50 (tf 20 14) rfl rfl ?_; refine pu_ 20 51 (tf 21 13) rfl rfl ?_; refine pu_ 21 52 (tf 22 12) rfl rfl ?_; refine un_ 22 53 (tf 23 11) rfl rfl ?_; refine un_ 23 54 (tf 24 10) rfl rfl ?_; refine un_ 24 55 (tf 25 9) rfl rfl ?_; refine un_ 25 56 (tf 26 8) rfl rfl ?_; refine un_ 26 57 (tf 27 7) rfl rfl ?_; refine un_ 27 58 (tf 28 6) rfl rfl ?_; refine un_ 28 59 (tf 29 5) rfl rfl ?_; refine un_ 29 60 (tf 30 4) rfl rfl ?_; refine un_ 30 61 (tf 31 3) rfl rfl ?_; refine pu_ 31 62 (tf 32 2) rfl rfl ?_; refine pu_ 32 63 (tf 33 1) rfl rfl ?_; refine pu_ 33 64 (tf 34 0) rfl rfl ?_; refine done_ (done_of HT_.1 (by kernel_rfl)) ?_; (try go_wp2)
             go_roundg kj3
             case measure => have := HK1.1; have := HJ3.1; omega
             case rel => exact ⟨(wrap64 (x3_0 + 1)), es, H', ⟨by have := HK1.1; have := HJ3.1; omega⟩, ⟨vb HB.1⟩⟩
           ·replace c21 := Bool.eq_false_iff.mpr c21; subst c21; rw [if_neg nf] at H; obtain rfl := sj H; (try go_wp2)
            replace BK9 := ak (blk_drew BK9.1); replace HB := ak (below_drew1 HB.1); have p1 : 0 ≤ ((ji2) : Int) := od; have q1 : (ji2) < (l0.length : Int) := od; obtain ⟨ad1, e1, hx1_5, hx1_0, hx1_6⟩ := at_T98 HR0.1 (ji2) p1 q1; have hw1_6 := hx1_6; have hw1_0 := hx1_0; have hw1_5 := hx1_5; obtain rfl : ad7 = ad1 := (by injection e1); replace hx1_5 := cb HB.1 hx1_5; replace hx1_0 := cb HB.1 hx1_0; replace hx1_6 := cb HB.1 hx1_6; replace p1 := eq_true p1; replace q1 := eq_true q1; refine start_ (n := 34) (S := fun w' => w'.cell? ⟨gb9, 0, none⟩ = some (.int .i64 ((rd_T98 l0 x3_0).f0)) ∧ w'.cell? ⟨gb9, 1, none⟩ = some (.int .i64 ((rd_T98 l0 x3_0).f1)) ∧ w'.cell? ⟨gb9, 2, none⟩ = some (.int .i64 ((rd_T98 l0 x3_0).f2)) ∧ w'.cell? (ad7.add (((ji2)).toNat * 3)) = some (.int .i64 ((rd_T98 l0 (ji2)).f0)) ∧ w'.cell? ⟨(ad7.add (((ji2)).toNat * 3)).block, (ad7.add (((ji2)).toNat * 3)).off + 1, none⟩ = some (.int .i64 ((rd_T98 l0 (ji2)).f1)) ∧ w'.cell? ⟨(ad7.add (((ji2)).toNat * 3)).block, (ad7.add (((ji2)).toNat * 3)).off + 2, none⟩ = some (.int .i64 ((rd_T98 l0 (ji2)).f2))) (ds := []) (tf 0 34) (by kernel_rfl) rfl rfl ⟨bk BK9.1 0, bk BK9.1 1, bk BK9.1 2, (cb HB.1 hw1_5 :), (cb HB.1 hw1_0 :), (cb HB.1 hw1_6 :)⟩ (fun hHeld => ?_); refine with_tabW spec_IsTable.tab7 spec_IsTable.bits7 (fun HT_ HW_ => ?_)
            generalize wc.drew = w30 at BK9 HB hx1_5 hx1_0 hx1_6 hHeld ⊢; refine pu_ 0 31 (tf 1 33) rfl rfl ?_; refine pu_ 1 32 (tf 2 32) rfl rfl ?_; refine pu_ 2 33 (tf 3 31) rfl rfl ?_; refine pu_ 3 34 (tf 4 30) rfl rfl ?_; refine pu_ 4 35 (tf 5 29) rfl rfl ?_; refine pu_ 5 36 (tf 6 28) rfl rfl ?_; refine pu_ 6 37 (tf 7 27) rfl rfl ?_; refine ta6_ 7 38 (tf 8 26) rfl rfl ?_; refine ta6_ 8 39 (tf 9 25) rfl rfl ?_; refine one_ (i := 9) (N := some 40) (tf 10 24) rfl rfl (one_of HT_.1 (by kernel_rfl)) (by decide) (fun K hK => ?_); refine goes_ Try.func130 (by kernel_rfl) rfl #[.agg #[.int .i64 ((rd_T98 l0 (ji2)).f0), .int .i64 ((rd_T98 l0 (ji2)).f1), .int .i64 ((rd_T98 l0 (ji2)).f2)], .agg #[.int .i64 ((rd_T98 l0 x3_0).f0), .int .i64 ((rd_T98 l0 x3_0).f1), .int .i64 ((rd_T98 l0 x3_0).f2)]] (by rfl) rfl rfl (by (try simp only [List.map_toArray, List.map_cons, List.map_nil]); first | done | (simp only [hji17]; rfl) | rfl | (simp only [List.length_drop, List.length_take]; rfl)) ?_; with_reducible refine (spec_l16Before.calls ((rd_T98 l0 (ji2)).f0) ((rd_T98 l0 (ji2)).f1) ((rd_T98 l0 (ji2)).f2) ((rd_T98 l0 x3_0).f0) ((rd_T98 l0 x3_0).f1) ((rd_T98 l0 x3_0).f2) false _ A20.1).mono ?_
            rintro e w31 ⟨rfl, hb⟩; refine ⟨_, rfl, ?_⟩; replace BK9 := kb BK9 hb; replace HB := bs HB hb; (try clear hb)
            (try clear hb2)
            (try clear hk)
            (try clear hi)
            refine hK.out _ _ ⟨bk BK9.1 0, bk BK9.1 1, bk BK9.1 2, (cb HB.1 hw1_5 :), (cb HB.1 hw1_0 :), (cb HB.1 hw1_6 :)⟩ (fun hHeld => ?_); clear hK K; refine norm_ (a' := ?_) ?_ ?_
            rotate_left
            ·show Act.put _ (some 40) _ = _
             simp only [Act.put, List.setIfInBounds_toArray, List.set_cons_zero, List.set_cons_succ, i64_w, i32_w]
             rfl
            refine pu_ 10 41 (tf 11 23) rfl rfl ?_; refine pu_ 11 42 (tf 12 22) rfl rfl ?_; refine un_ 12 43 (tf 13 21) rfl rfl ?_; refine un_ 13 44 (tf 14 20) rfl rfl ?_; refine un_ 14 45 (tf 15 19) rfl rfl ?_; refine un_ 15 46 (tf 16 18) rfl rfl ?_; refine un_ 16 47 (tf 17 17) rfl rfl ?_; refine un_ 17 48 (tf 18 16) rfl rfl ?_; refine un_ 18 49 (tf 19 15) rfl rfl ?_; refine un_ 19 50 (tf 20 14) rfl rfl ?_; refine un_ 20 51 (tf 21 13) rfl rfl ?_; refine un_ 21 52 (tf 22 12) rfl rfl ?_; refine un_ 22 53 (tf 23 11) rfl rfl ?_; refine un_ 23 54 (tf 24 10) rfl rfl ?_; refine un_ 24 55 (tf 25 9) rfl rfl ?_; refine un_ 25 56 (tf 26 8) rfl rfl ?_; refine un_ 26 57 (tf 27 7) rfl rfl ?_; refine un_ 27 58 (tf 28 6) rfl rfl ?_; refine un_ 28 59 (tf 29 5) rfl rfl ?_; refine un_ 29 60 (tf 30 4) rfl rfl ?_; refine un_ 30 61 (tf 31 3) rfl rfl ?_; refine un_ 31 62 (tf 32 2) rfl rfl ?_; refine pu_ 32 63 (tf 33 1) rfl rfl ?_; refine pu_ 33 64 (tf 34 0) rfl rfl ?_; refine done_ (done_of HT_.1 (by kernel_rfl)) ?_; (try go_wp2)
            go_ret
            exact ⟨by first | rfl | (simp [errW_none, errW_some] <;> rfl) | (simp only [← hji17]; first | rfl | (simp [errW_none, errW_some] <;> rfl)) | (simp [*, errW_none, errW_some] <;> rfl), vb HB.1⟩
          ·exact nO_ c19 H
         ·exact nO_ c18 H
        ·rw [if_neg c16] at H; have c16b0 := decide_eq_false c16; clear c16; have H' := ak H; clear H; (try go_wp2)
         replace BK9 := ak (blk_drew BK9.1); replace HB := ak (below_drew1 HB.1); refine start_ (n := 34) (S := fun w' => True) (ds := []) (tf 0 34) (by kernel_rfl) rfl rfl trivial (fun hHeld => ?_); refine with_tabW spec_IsTable.tab7 spec_IsTable.bits7 (fun HT_ HW_ => ?_); generalize wc.drew = w32 at BK9 HB hHeld ⊢; refine pu_ 0 31 (tf 1 33) rfl rfl ?_; refine pu_ 1 32 (tf 2 32) rfl rfl ?_; refine pu_ 2 33 (tf 3 31) rfl rfl ?_; refine un_ 3 34 (tf 4 30) rfl rfl ?_; refine un_ 4 35 (tf 5 29) rfl rfl ?_; refine un_ 5 36 (tf 6 28) rfl rfl ?_; refine un_ 6 37 (tf 7 27) rfl rfl ?_; refine un_ 7 38 (tf 8 26) rfl rfl ?_; refine un_ 8 39 (tf 9 25) rfl rfl ?_; refine un_ 9 40 (tf 10 24) rfl rfl ?_; refine un_ 10 41 (tf 11 23) rfl rfl ?_; refine un_ 11 42 (tf 12 22) rfl rfl ?_; refine un_ 12 43 (tf 13 21) rfl rfl ?_; refine un_ 13 44 (tf 14 20) rfl rfl ?_; refine un_ 14 45 (tf 15 19) rfl rfl ?_; refine un_ 15 46 (tf 16 18) rfl rfl ?_; refine un_ 16 47 (tf 17 17) rfl rfl ?_; refine un_ 17 48 (tf 18 16) rfl rfl ?_; refine un_ 18 49 (tf 19 15) rfl rfl ?_; refine un_ 19 50 (tf 20 14) rfl rfl ?_; refine un_ 20 51 (tf 21 13) rfl rfl ?_; refine un_ 21 52 (tf 22 12) rfl rfl ?_; refine un_ 22 53 (tf 23 11) rfl rfl ?_; refine un_ 23 54 (tf 24 10) rfl rfl ?_; refine un_ 24 55 (tf 25 9) rfl rfl ?_; refine un_ 25 56 (tf 26 8) rfl rfl ?_; refine un_ 26 57 (tf 27 7) rfl rfl ?_; refine un_ 27 58 (tf 28 6) rfl rfl ?_; refine un_ 28 59 (tf 29 5) rfl rfl ?_; refine un_ 29 60 (tf 30 4) rfl rfl ?_
         refine un_ 30 61 (tf 31 3) rfl rfl ?_; refine un_ 31 62 (tf 32 2) rfl rfl ?_; refine un_ 32 63 (tf 33 1) rfl rfl ?_; refine pu_ 33 64 (tf 34 0) rfl rfl ?_; refine done_ (done_of HT_.1 (by kernel_rfl)) ?_; (try go_wp2)
         go_roundg kj3
         case measure => have := HK1.1; have := HJ3.1; omega
         case rel => exact ⟨(wrap64 (x3_0 + 1)), es, H', ⟨by have := HK1.1; have := HJ3.1; omega⟩, ⟨vb HB.1⟩⟩
    ·exact nO_ c3 H
   ·rw [if_neg c2] at H; have c2b0 := decide_eq_false c2; clear c2; obtain rfl := sj H; go_wp2
    go_ret
    exact ⟨ew, vb HB.1⟩


/-! ### spec_IsArea: function 131 -/
def spec_IsArea.f (a0_0 : Int) (a0_1 : Int) (a0_2 : Int) (a0_3 : Int) (a0_4 : Int) : Option (Bool) := (spec_l01In.f a0_0 0 3).bind fun t1 => (if t1 = true then ((spec_l15Place.f a0_1 a0_2).bind fun t2 => (if t2 = true then ((spec_l01In.f a0_3 1 (wrap64 (100000 - a0_1))).bind fun t3 => (if t3 = true then ((spec_l01In.f a0_4 1 (wrap64 (100000 - a0_2))).bind fun t4 => (some t4)) else (some false))) else (some false))) else (some false))
set_option maxHeartbeats 8000000 in
set_option maxRecDepth 100000 in
theorem spec_IsArea.calls (a0_0 : Int) (a0_1 : Int) (a0_2 : Int) (a0_3 : Int) (a0_4 : Int) (r : Bool) (w : World) (h : spec_IsArea.f a0_0 a0_1 a0_2 a0_3 a0_4 = some r) :
  Calls Try.prog 131 #[.agg #[.int .i64 a0_0, .int .i64 a0_1, .int .i64 a0_2, .int .i64 a0_3, .int .i64 a0_4]] w fun e w' => e = .returned (.bool r) ∧ Below w.heap.size w w' := by
 have hu103 := Try.underlying103; have HB := ak (Below.refl w.heap.size w); unfold spec_IsArea.f at h; have H := h; clear h; obtain ⟨t1, A2, H⟩ := bnk H; by_cases c3 : t1 = true
 subst c3; rw [if_pos rfl] at H; obtain ⟨t2, A4, H⟩ := bnk H; by_cases c5 : t2 = true
 subst c5; rw [if_pos rfl] at H; obtain ⟨t3, A6, H⟩ := bnk H; by_cases c7 : t3 = true
 subst c7; rw [if_pos rfl] at H; obtain ⟨t4, A8, H⟩ := bnk H; obtain rfl := sj H; rotate_left
 replace c7 := Bool.eq_false_iff.mpr c7; subst c7; rw [if_neg nf] at H; obtain rfl := sj H; rotate_left
 replace c5 := Bool.eq_false_iff.mpr c5; subst c5; rw [if_neg nf] at H; obtain rfl := sj H; rotate_left
 replace c3 := Bool.eq_false_iff.mpr c3; subst c3; rw [if_neg nf] at H; obtain rfl := sj H; rotate_left
 all_goals
  go_enter Try.func131, Try.ntmps131; go_wp2_with (first | ((with_reducible refine gate_dst (N := 1) rfl ?_); refine bx 1 #[.int .i64 a0_0, .int .i64 a0_1, .int .i64 a0_2, .int .i64 a0_3, .int .i64 a0_4] 103 ?_; intro gb0 hg w9 hbox hb; have BK0 := ak hbox; have GW120 := gw hg HB; have GE0 := gw hg HB; replace HB := bs HB hb; clear hb hbox hg; have hcz5 := cz5 BK0.1) | ((with_reducible refine at_fn (f := 65) rfl ?_); refine gl (some 5) Try.func65 #[.int .i64 a0_0, .int .i64 0, .int .i64 3] ?_; (with_reducible refine (spec_l01In.calls a0_0 0 3 _ _ A2.1).mono ?_); rintro e w' ⟨rfl, ⟨nd, rfl⟩⟩; refine ⟨_, rfl, ?_⟩) | (go_at_call 105; (with_reducible refine (spec_l15Place.calls a0_1 a0_2 _ _ A4.1).mono ?_); rintro e w' ⟨rfl, ⟨nd, rfl⟩⟩) | (go_at_call 65; (with_reducible refine (spec_l01In.calls a0_3 1 (wrap64 (100000 - a0_1)) _ _ A6.1).mono ?_); rintro e w' ⟨rfl, ⟨nd, rfl⟩⟩) | (go_at_call 65; (with_reducible refine (spec_l01In.calls a0_4 1 (wrap64 (100000 - a0_2)) t4 _ A8.1).mono ?_); rintro e w' ⟨rfl, ⟨nd, rfl⟩⟩))
  go_ret
  exact ⟨ew, vb HB.1⟩


/-! ### spec_IsSite: function 107 -/
def spec_IsSite.l0 : Nat → List (S103) → Int → Option (Bool)
 | 0, _, _ => none
 | k + 1, x3, x1 => if x1 < (x3.length : Int) then (if 0 ≤ x1 then ((spec_IsArea.f ((rd_T103 x3 x1).f0) ((rd_T103 x3 x1).f1) ((rd_T103 x3 x1).f2) ((rd_T103 x3 x1).f3) ((rd_T103 x3 x1).f4)).bind fun t6 => (if t6 = true then (spec_IsSite.l0 k x3 (wrap64 (x1 + 1))) else (some false))) else (none)) else (some (decide ((x3.length : Int) ≤ 10)))
def spec_IsSite.f (k : Nat) (l0 : List (S103)) : Option (Bool) := spec_IsSite.l0 k l0 0
set_option maxHeartbeats 8000000 in
set_option maxRecDepth 100000 in
theorem spec_IsSite.calls (k : Nat) (A0 : Option Addr) (c0 : Nat) (l0 : List (S103)) (r : Bool) (w : World) (hr0 : Kd.C k103 w A0 l0.length l0) (hc0 : l0.length ≤ c0) (h : spec_IsSite.f k l0 = some r) :
  Calls Try.prog 107 #[.slice A0 l0.length c0] w fun e w' => e = .returned (.bool r) ∧ Below w.heap.size w w' := by
 have hu103 := Try.underlying103; have HR0 := ak hr0; have HC0 := ak hc0; clear hr0 hc0; have HB := ak (Below.refl w.heap.size w); unfold spec_IsSite.f at h; have H := h; clear h; have H' := ak H; clear H; go_enter Try.func107, Try.ntmps107; go_wp2
 go_loopg [3] k (fun kq v1 w' => ∃ (x1_2 : Int), v1 = .int .i64 x1_2 ∧ Aside0 (spec_IsSite.l0 kq l0 x1_2 = some r) ∧ Aside0 (kq ≤ k) ∧ Aside0 (Below w.heap.size w w'))
 case atStart => exact ⟨(0), es, H', ⟨Nat.le_refl _⟩, ⟨vb HB.1⟩⟩
 case round =>
  clear H'; obtain ⟨x1_2, rfl, HA, HK1, HB⟩ := hrel
  cases gk with
  | zero => exact absurd HA.1 (by simp [spec_IsSite.l0])
  | succ k1 =>
   have H := HA.1; clear HA; simp only [spec_IsSite.l0] at H
   by_cases c2 : x1_2 < (l0.length : Int)
   ·rw [if_pos c2] at H; have c2b0 := decide_eq_true c2; clear c2; by_cases c3 : 0 ≤ x1_2
    ·rw [if_pos c3] at H; have c3b0 := decide_eq_true c3; clear c3; obtain ⟨t6, A4, H⟩ := bnk H; by_cases c5 : t6 = true
     ·subst c5; rw [if_pos rfl] at H; have H' := ak H; clear H; have p0 : 0 ≤ (x1_2 : Int) := od; have q0 : x1_2 < (l0.length : Int) := od; obtain ⟨ad0, e0, hx0_3, hx0_2, hx0_4, hx0_1, hx0_5⟩ := at_T103 HR0.1 x1_2 p0 q0
      cases e0; replace hx0_3 := cb HB.1 hx0_3; replace hx0_2 := cb HB.1 hx0_2; replace hx0_4 := cb HB.1 hx0_4; replace hx0_1 := cb HB.1 hx0_1; replace hx0_5 := cb HB.1 hx0_5; replace p0 := eq_true p0; replace q0 := eq_true q0; go_wp2_with (first | ((with_reducible refine at_fn (f := 131) rfl ?_); refine gl (some 14) Try.func131 #[.agg #[.int .i64 ((rd_T103 l0 x1_2).f0), .int .i64 ((rd_T103 l0 x1_2).f1), .int .i64 ((rd_T103 l0 x1_2).f2), .int .i64 ((rd_T103 l0 x1_2).f3), .int .i64 ((rd_T103 l0 x1_2).f4)]] ?_; (with_reducible refine (spec_IsArea.calls ((rd_T103 l0 x1_2).f0) ((rd_T103 l0 x1_2).f1) ((rd_T103 l0 x1_2).f2) ((rd_T103 l0 x1_2).f3) ((rd_T103 l0 x1_2).f4) _ _ A4.1).mono ?_); rintro e w6 ⟨rfl, hb⟩; refine ⟨_, rfl, ?_⟩; replace HB := bs HB hb; (try clear hb)))
      go_roundg k1
      case measure => have := HK1.1; omega
      case rel => exact ⟨(wrap64 (x1_2 + 1)), es, H', ⟨by have := HK1.1; omega⟩, ⟨vb HB.1⟩⟩
     ·replace c5 := Bool.eq_false_iff.mpr c5; subst c5; rw [if_neg nf] at H; obtain rfl := sj H; have p0 : 0 ≤ (x1_2 : Int) := od; have q0 : x1_2 < (l0.length : Int) := od; obtain ⟨ad0, e0, hx0_3, hx0_2, hx0_4, hx0_1, hx0_5⟩ := at_T103 HR0.1 x1_2 p0 q0
      cases e0; replace hx0_3 := cb HB.1 hx0_3; replace hx0_2 := cb HB.1 hx0_2; replace hx0_4 := cb HB.1 hx0_4; replace hx0_1 := cb HB.1 hx0_1; replace hx0_5 := cb HB.1 hx0_5; replace p0 := eq_true p0; replace q0 := eq_true q0; go_wp2_with (first | ((with_reducible refine at_fn (f := 131) rfl ?_); refine gl (some 14) Try.func131 #[.agg #[.int .i64 ((rd_T103 l0 x1_2).f0), .int .i64 ((rd_T103 l0 x1_2).f1), .int .i64 ((rd_T103 l0 x1_2).f2), .int .i64 ((rd_T103 l0 x1_2).f3), .int .i64 ((rd_T103 l0 x1_2).f4)]] ?_; (with_reducible refine (spec_IsArea.calls ((rd_T103 l0 x1_2).f0) ((rd_T103 l0 x1_2).f1) ((rd_T103 l0 x1_2).f2) ((rd_T103 l0 x1_2).f3) ((rd_T103 l0 x1_2).f4) _ _ A4.1).mono ?_); rintro e w7 ⟨rfl, hb⟩; refine ⟨_, rfl, ?_⟩; replace HB := bs HB hb; (try clear hb)))
      go_ret
      exact ⟨ew, vb HB.1⟩
    ·exact nO_ c3 H
   ·rw [if_neg c2] at H; have c2b0 := decide_eq_false c2; clear c2; obtain rfl := sj H; go_wp2
    go_ret
    exact ⟨ew, vb HB.1⟩


/-! ### spec_IsField: function 58 -/
mutual
def spec_IsField.l0 : Nat → Int → List (S98) → List (S103) → List Int → List Int → List Int → Int → Option (Bool)
 | 0, _, _, _, _, _, _, _ => none
 | k + 1, x1, x11, x12, x9, x8, x10, x13 => if x1 < (x9.length : Int) then (if 0 ≤ x1 then ((spec_l01In.f (rd x9 x1) 20 300).bind fun t17 => (if t17 = true then (spec_IsField.l0 k (wrap64 (x1 + 1)) x11 x12 x9 x8 x10 x13) else (some false))) else (none)) else (if (x8.length : Int) = (x10.length : Int) then (if (x8.length : Int) > 7 then (spec_IsField.j1 k true x11 x12 x9 x8 x10 x13) else (spec_IsField.j1 k (decide ((x9.length : Int) > 4)) x11 x12 x9 x8 x10 x13)) else (spec_IsField.j1 k true x11 x12 x9 x8 x10 x13))
def spec_IsField.j1 : Nat → Bool → List (S98) → List (S103) → List Int → List Int → List Int → Int → Option (Bool)
 | 0, _, _, _, _, _, _, _ => none
 | k + 1, x14, x11, x12, x9, x8, x10, x13 => if x14 = true then (some false) else (spec_IsField.l1 k 0 x11 x12 x9 x8 x10 x13)
def spec_IsField.l1 : Nat → Int → List (S98) → List (S103) → List Int → List Int → List Int → Int → Option (Bool)
 | 0, _, _, _, _, _, _, _ => none
 | k + 1, x2, x11, x12, x9, x8, x10, x13 => if x2 < (x8.length : Int) then (if 0 ≤ x2 then (if x2 < (x10.length : Int) then ((spec_l15Place.f (rd x8 x2) (rd x10 x2)).bind fun t18 => (if t18 = true then (spec_IsField.l1 k (wrap64 (x2 + 1)) x11 x12 x9 x8 x10 x13) else (some false))) else (none)) else (none)) else ((spec_IsTable.f k x11).bind fun t19 => (if t19 = true then ((spec_IsSite.f k x12).bind fun t20 => (if t20 = true then ((spec_l01In.f x13 0 10000).bind fun t16 => (some t16)) else (some false))) else (some false)))
end
def spec_IsField.f (k : Nat) (l0_0 : List (S98)) (l0_1 : List (S103)) (l0_2 : List Int) (l0_3 : List Int) (l0_4 : List Int) (a0_5 : Int) : Option (Bool) := spec_IsField.l0 k 0 l0_0 l0_1 l0_2 l0_3 l0_4 a0_5
set_option maxHeartbeats 8000000 in
set_option maxRecDepth 100000 in
theorem spec_IsField.calls (k : Nat) (A0_0 : Option Addr) (c0_0 : Nat) (l0_0 : List (S98)) (A0_1 : Option Addr) (c0_1 : Nat) (l0_1 : List (S103)) (A0_2 : Option Addr) (c0_2 : Nat) (l0_2 : List Int) (A0_3 : Option Addr) (c0_3 : Nat) (l0_3 : List Int) (A0_4 : Option Addr) (c0_4 : Nat) (l0_4 : List Int) (a0_5 : Int) (r : Bool) (w : World) (hr0_0 : Kd.C k98 w A0_0 l0_0.length l0_0) (hc0_0 : l0_0.length ≤ c0_0) (hr0_1 : Kd.C k103 w A0_1 l0_1.length l0_1) (hc0_1 : l0_1.length ≤ c0_1) (hr0_2 : Kd.C (Kd.int .i64) w A0_2 l0_2.length l0_2) (hc0_2 : l0_2.length ≤ c0_2) (hr0_3 : Kd.C (Kd.int .i64) w A0_3 l0_3.length l0_3) (hc0_3 : l0_3.length ≤ c0_3) (hr0_4 : Kd.C (Kd.int .i64) w A0_4 l0_4.length l0_4) (hc0_4 : l0_4.length ≤ c0_4) (h : spec_IsField.f k l0_0 l0_1 l0_2 l0_3 l0_4 a0_5 = some r) :
  Calls Try.prog 58 #[.agg (f5 A0_0 l0_0 c0_0 A0_1 l0_1 c0_1 A0_2 l0_2 c0_2 A0_3 l0_3 c0_3 A0_4 l0_4 c0_4 a0_5)] w fun e w' => e = .returned (.bool r) ∧ Below w.heap.size w w' := by
 have hu33 := Try.underlying33; have HR0_0 := ak hr0_0; have HC0_0 := ak hc0_0; clear hr0_0 hc0_0; have HR0_1 := ak hr0_1; have HC0_1 := ak hc0_1; clear hr0_1 hc0_1; have HR0_2 := ak hr0_2; have HC0_2 := ak hc0_2; clear hr0_2 hc0_2; have HR0_3 := ak hr0_3; have HC0_3 := ak hc0_3; clear hr0_3 hc0_3; have HR0_4 := ak hr0_4; have HC0_4 := ak hc0_4; clear hr0_4 hc0_4; have HB := ak (Below.refl w.heap.size w); unfold spec_IsField.f at h; have H := h; clear h; have H' := ak H; clear H; go_enter Try.func58, Try.ntmps58; go_wp2_with (first | ((with_reducible refine gate_dst (N := 1) rfl ?_); (try (refine gate_guard (by rfl) ?_; dsimp only)); refine bx 1 (f5 A0_0 l0_0 c0_0 A0_1 l0_1 c0_1 A0_2 l0_2 c0_2 A0_3 l0_3 c0_3 A0_4 l0_4 c0_4 a0_5) 33 ?_; intro gb0 hg w2 hbox hb; have BK0 := ak hbox; have GW127 := gw hg HB; have GE0 := gw hg HB; replace HB := bs HB hb; clear hb hbox hg))
 repeat (go_quiet (first | ((with_reducible refine gate_dst (N := 1) rfl ?_); (try (refine gate_guard (by rfl) ?_; dsimp only)); refine bx 1 (f5 A0_0 l0_0 c0_0 A0_1 l0_1 c0_1 A0_2 l0_2 c0_2 A0_3 l0_3 c0_3 A0_4 l0_4 c0_4 a0_5) 33 ?_; intro gb0 hg w2 hbox hb; have BK0 := ak hbox; have GW127 := gw hg HB; have GE0 := gw hg HB; replace HB := bs HB hb; clear hb hbox hg)); try go_wp2_with (first | ((with_reducible refine gate_dst (N := 1) rfl ?_); (try (refine gate_guard (by rfl) ?_; dsimp only)); refine bx 1 (f5 A0_0 l0_0 c0_0 A0_1 l0_1 c0_1 A0_2 l0_2 c0_2 A0_3 l0_3 c0_3 A0_4 l0_4 c0_4 a0_5) 33 ?_; intro gb0 hg w2 hbox hb; have BK0 := ak hbox; have GW127 := gw hg HB; have GE0 := gw hg HB; replace HB := bs HB hb; clear hb hbox hg)))
 go_loopg [3] k (fun kq v1 w' => ∃ (x1_6 : Int), v1 = .int .i64 x1_6 ∧ Aside0 (spec_IsField.l0 kq x1_6 l0_0 l0_1 l0_2 l0_3 l0_4 a0_5 = some r) ∧ Aside0 (kq ≤ k) ∧ Aside0 (w'.heap[gb0]? = some (.cells (f5 A0_0 l0_0 c0_0 A0_1 l0_1 c0_1 A0_2 l0_2 c0_2 A0_3 l0_3 c0_3 A0_4 l0_4 c0_4 a0_5) 33 (0, 0))) ∧ Aside0 (Below w.heap.size w w'))
 case atStart => exact ⟨(0), es, H', ⟨Nat.le_refl _⟩, ⟨vk BK0.1⟩, ⟨vb HB.1⟩⟩
 case round =>
  clear H'; obtain ⟨x1_6, rfl, HA, HK1, BK0, HB⟩ := hrel
  cases gk with
  | zero => exact absurd HA.1 (by simp [spec_IsField.l0])
  | succ k1 =>
   have H := HA.1; clear HA; simp only [spec_IsField.l0] at H
   by_cases c3 : x1_6 < (l0_2.length : Int)
   ·rw [if_pos c3] at H; have c3b0 := decide_eq_true c3; clear c3; by_cases c4 : 0 ≤ x1_6
    ·rw [if_pos c4] at H; have c4b0 := decide_eq_true c4; clear c4; obtain ⟨t17, A5, H⟩ := bnk H; by_cases c6 : t17 = true
     ·subst c6; rw [if_pos rfl] at H; have H' := ak H; clear H; have hcz24 := cz6 BK0.1; have p3 : 0 ≤ (x1_6 : Int) := od; have q3 : x1_6 < (l0_2.length : Int) := od; obtain ⟨ad3, e3, hx3_7⟩ := Kd.at_int HR0_2.1 x1_6 p3 q3
      cases e3; replace hx3_7 := cb HB.1 hx3_7; replace p3 := eq_true p3; replace q3 := eq_true q3; go_wp2_with (first | (go_at_call 65; (with_reducible refine (spec_l01In.calls (rd l0_2 x1_6) 20 300 _ _ A5.1).mono ?_); rintro e w' ⟨rfl, ⟨nd, rfl⟩⟩; (try first | exact ⟨rfl, _, World.drewN_drewN _ _ _⟩ | exact ⟨rfl, _, Eq.trans (World.drewN_drewN _ _ _) (congrArg (World.drewN _) (Nat.add_assoc _ _ _))⟩)))
      repeat (go_quiet (first | (go_at_call 65; (with_reducible refine (spec_l01In.calls (rd l0_2 x1_6) 20 300 _ _ A5.1).mono ?_); rintro e w' ⟨rfl, ⟨nd, rfl⟩⟩; (try first | exact ⟨rfl, _, World.drewN_drewN _ _ _⟩ | exact ⟨rfl, _, Eq.trans (World.drewN_drewN _ _ _) (congrArg (World.drewN _) (Nat.add_assoc _ _ _))⟩))); try go_wp2_with (first | (go_at_call 65; (with_reducible refine (spec_l01In.calls (rd l0_2 x1_6) 20 300 _ _ A5.1).mono ?_); rintro e w' ⟨rfl, ⟨nd, rfl⟩⟩; (try first | exact ⟨rfl, _, World.drewN_drewN _ _ _⟩ | exact ⟨rfl, _, Eq.trans (World.drewN_drewN _ _ _) (congrArg (World.drewN _) (Nat.add_assoc _ _ _))⟩))))
      go_roundg k1
      case measure => have := HK1.1; omega
      case rel => exact ⟨(wrap64 (x1_6 + 1)), es, H', ⟨by have := HK1.1; omega⟩, ⟨vk BK0.1⟩, ⟨vb HB.1⟩⟩
     ·replace c6 := Bool.eq_false_iff.mpr c6; subst c6; rw [if_neg nf] at H; obtain rfl := sj H; have hcz15 := cz6 BK0.1; have p3 : 0 ≤ (x1_6 : Int) := od; have q3 : x1_6 < (l0_2.length : Int) := od; obtain ⟨ad3, e3, hx3_7⟩ := Kd.at_int HR0_2.1 x1_6 p3 q3
      cases e3; replace hx3_7 := cb HB.1 hx3_7; replace p3 := eq_true p3; replace q3 := eq_true q3; go_wp2_with (first | (go_at_call 65; (with_reducible refine (spec_l01In.calls (rd l0_2 x1_6) 20 300 _ _ A5.1).mono ?_); rintro e w' ⟨rfl, ⟨nd, rfl⟩⟩; (try first | exact ⟨rfl, _, World.drewN_drewN _ _ _⟩ | exact ⟨rfl, _, Eq.trans (World.drewN_drewN _ _ _) (congrArg (World.drewN _) (Nat.add_assoc _ _ _))⟩)))
      repeat (go_quiet (first | (go_at_call 65; (with_reducible refine (spec_l01In.calls (rd l0_2 x1_6) 20 300 _ _ A5.1).mono ?_); rintro e w' ⟨rfl, ⟨nd, rfl⟩⟩; (try first | exact ⟨rfl, _, World.drewN_drewN _ _ _⟩ | exact ⟨rfl, _, Eq.trans (World.drewN_drewN _ _ _) (congrArg (World.drewN _) (Nat.add_assoc _ _ _))⟩))); try go_wp2_with (first | (go_at_call 65; (with_reducible refine (spec_l01In.calls (rd l0_2 x1_6) 20 300 _ _ A5.1).mono ?_); rintro e w' ⟨rfl, ⟨nd, rfl⟩⟩; (try first | exact ⟨rfl, _, World.drewN_drewN _ _ _⟩ | exact ⟨rfl, _, Eq.trans (World.drewN_drewN _ _ _) (congrArg (World.drewN _) (Nat.add_assoc _ _ _))⟩))))
      go_ret
      exact ⟨ew, vb HB.1⟩
    ·exact nO_ c4 H
   ·rw [if_neg c3] at H; have c3b0 := decide_eq_false c3; clear c3; have HC9 := ak H; clear H; have hcz25 := cz6 BK0.1; go_upto_region 6 with (fail)
    repeat (go_quiet (fail); go_upto_region 6 with (fail))
    go_cut [37] (fun v14 wc => ∃ (kq : Nat) (x14_15 : Bool), v14 = .bool x14_15 ∧ Aside0 (spec_IsField.j1 kq x14_15 l0_0 l0_1 l0_2 l0_3 l0_4 a0_5 = some r) ∧ Aside0 (kq ≤ k1) ∧ Aside0 (wc.heap[gb0]? = some (.cells (f5 A0_0 l0_0 c0_0 A0_1 l0_1 c0_1 A0_2 l0_2 c0_2 A0_3 l0_3 c0_3 A0_4 l0_4 c0_4 a0_5) 33 (0, 0))) ∧ Aside0 (Below w.heap.size w wc))
    case first =>
     have H := HC9.1; clear HC9; by_cases c11 : (l0_3.length : Int) = (l0_4.length : Int)
     ·rw [if_pos c11] at H; obtain ⟨c11b0, c11b1⟩ := bqt c11; have c11b2 : (l0_3.length == l0_4.length) = true := by first | simpa using c11 | (simp at c11 ⊢; omega)
      clear c11; (first | rw [c11b0] | (simp only [i64_w, i32_w]; rw [c11b0]) | skip)
      by_cases c12 : (l0_3.length : Int) > 7
      ·rw [if_pos c12] at H; have c12b0 := decide_eq_true c12; have c12b1 : decide (7 < l0_3.length) = true := decide_eq_true (by omega); clear c12; have H' := ak H; clear H; have hcz26 := cz6 BK0.1; go_wp2
       repeat (go_quiet (fail); try go_wp2)
       go_meet
       case rel => exact ⟨_, (true), es, H', ⟨by have := HK1.1; first | omega | exact Nat.le_refl _⟩, ⟨vk BK0.1⟩, ⟨vb HB.1⟩⟩
      ·rw [if_neg c12] at H; have c12b0 := decide_eq_false c12; have c12b1 : decide (7 < l0_3.length) = false := decide_eq_false (by omega); clear c12; have H' := ak H; clear H; have hcz27 := cz6 BK0.1; go_wp2
       repeat (go_quiet (fail); try go_wp2)
       go_meet
       case rel => exact ⟨_, (decide ((l0_2.length : Int) > 4)), es, H', ⟨by have := HK1.1; first | omega | exact Nat.le_refl _⟩, ⟨vk BK0.1⟩, ⟨vb HB.1⟩⟩
     ·rw [if_neg c11] at H; obtain ⟨c11b0, c11b1⟩ := bqf c11; have c11b2 : (l0_3.length == l0_4.length) = false := by first | simpa using c11 | (simp at c11 ⊢; omega)
      (first | rw [c11b0] | (simp only [i64_w, i32_w]; rw [c11b0]) | skip)
      have H' := ak H; clear H; have hcz28 := cz6 BK0.1; go_wp2
      repeat (go_quiet (fail); try go_wp2)
      go_meet
      case rel => exact ⟨_, (true), es, H', ⟨by have := HK1.1; first | omega | exact Nat.le_refl _⟩, ⟨vk BK0.1⟩, ⟨vb HB.1⟩⟩
    case rest =>
     clear HC9; obtain ⟨kq, x14_15, rfl, HA, HJ8, BK0, HB⟩ := hcut
     cases kq with
     | zero => exact absurd HA.1 (by simp [spec_IsField.j1])
     | succ kj8 =>
      have H := HA.1; clear HA; simp only [spec_IsField.j1] at H
      by_cases c16 : x14_15 = true
      ·subst c16; rw [if_pos rfl] at H; obtain rfl := sj H; go_wp2
       repeat (go_quiet (fail); try go_wp2)
       go_ret
       exact ⟨ew, vb HB.1⟩
      ·replace c16 := Bool.eq_false_iff.mpr c16; subst c16; rw [if_neg nf] at H; have H' := ak H; clear H; go_wp2
       repeat (go_quiet (fail); try go_wp2)
       go_loopg [4] kj8 (fun kq v2 w' => ∃ (x2_1 : Int), v2 = .int .i64 x2_1 ∧ Aside0 (spec_IsField.l1 kq x2_1 l0_0 l0_1 l0_2 l0_3 l0_4 a0_5 = some r) ∧ Aside0 (kq ≤ kj8) ∧ Aside0 (w'.heap[gb0]? = some (.cells (f5 A0_0 l0_0 c0_0 A0_1 l0_1 c0_1 A0_2 l0_2 c0_2 A0_3 l0_3 c0_3 A0_4 l0_4 c0_4 a0_5) 33 (0, 0))) ∧ Aside0 (Below w.heap.size w w'))
       case atStart => exact ⟨(0), es, H', ⟨Nat.le_refl _⟩, ⟨vk BK0.1⟩, ⟨vb HB.1⟩⟩
       case round =>
        clear H'; obtain ⟨x2_1, rfl, HA, HK3, BK0, HB⟩ := hrel
        cases gk with
        | zero => exact absurd HA.1 (by simp [spec_IsField.l1])
        | succ k3 =>
         have H := HA.1; clear HA; simp only [spec_IsField.l1] at H
         by_cases c17 : x2_1 < (l0_3.length : Int)
         ·rw [if_pos c17] at H; have c17b0 := decide_eq_true c17; clear c17; by_cases c18 : 0 ≤ x2_1
          ·rw [if_pos c18] at H; have c18b0 := decide_eq_true c18; clear c18; by_cases c19 : x2_1 < (l0_4.length : Int)
           ·rw [if_pos c19] at H; have c19b0 := decide_eq_true c19; clear c19; obtain ⟨t18, A20, H⟩ := bnk H; by_cases c21 : t18 = true
            ·subst c21; rw [if_pos rfl] at H; have H' := ak H; clear H; have hcz29 := cz6 BK0.1; have p4 : 0 ≤ (x2_1 : Int) := od; have q4 : x2_1 < (l0_3.length : Int) := od; obtain ⟨ad4, e4, hx4_7⟩ := Kd.at_int HR0_3.1 x2_1 p4 q4
             cases e4; replace hx4_7 := cb HB.1 hx4_7; replace p4 := eq_true p4; replace q4 := eq_true q4; have p5 : 0 ≤ (x2_1 : Int) := od; have q5 : x2_1 < (l0_4.length : Int) := od; obtain ⟨ad5, e5, hx5_7⟩ := Kd.at_int HR0_4.1 x2_1 p5 q5
             cases e5; replace hx5_7 := cb HB.1 hx5_7; replace p5 := eq_true p5; replace q5 := eq_true q5; go_wp2_with (first | (go_at_call 105; (with_reducible refine (spec_l15Place.calls (rd l0_3 x2_1) (rd l0_4 x2_1) _ _ A20.1).mono ?_); rintro e w' ⟨rfl, ⟨nd, rfl⟩⟩; (try first | exact ⟨rfl, _, World.drewN_drewN _ _ _⟩ | exact ⟨rfl, _, Eq.trans (World.drewN_drewN _ _ _) (congrArg (World.drewN _) (Nat.add_assoc _ _ _))⟩)))
             repeat (go_quiet (first | (go_at_call 105; (with_reducible refine (spec_l15Place.calls (rd l0_3 x2_1) (rd l0_4 x2_1) _ _ A20.1).mono ?_); rintro e w' ⟨rfl, ⟨nd, rfl⟩⟩; (try first | exact ⟨rfl, _, World.drewN_drewN _ _ _⟩ | exact ⟨rfl, _, Eq.trans (World.drewN_drewN _ _ _) (congrArg (World.drewN _) (Nat.add_assoc _ _ _))⟩))); try go_wp2_with (first | (go_at_call 105; (with_reducible refine (spec_l15Place.calls (rd l0_3 x2_1) (rd l0_4 x2_1) _ _ A20.1).mono ?_); rintro e w' ⟨rfl, ⟨nd, rfl⟩⟩; (try first | exact ⟨rfl, _, World.drewN_drewN _ _ _⟩ | exact ⟨rfl, _, Eq.trans (World.drewN_drewN _ _ _) (congrArg (World.drewN _) (Nat.add_assoc _ _ _))⟩))))
             go_roundg k3
             case measure => have := HK1.1; have := HJ8.1; have := HK3.1; omega
             case rel => exact ⟨(wrap64 (x2_1 + 1)), es, H', ⟨by have := HK1.1; have := HJ8.1; have := HK3.1; omega⟩, ⟨vk BK0.1⟩, ⟨vb HB.1⟩⟩
            ·replace c21 := Bool.eq_false_iff.mpr c21; subst c21; rw [if_neg nf] at H; obtain rfl := sj H; have hcz30 := cz6 BK0.1; have p4 : 0 ≤ (x2_1 : Int) := od; have q4 : x2_1 < (l0_3.length : Int) := od; obtain ⟨ad4, e4, hx4_7⟩ := Kd.at_int HR0_3.1 x2_1 p4 q4
             cases e4; replace hx4_7 := cb HB.1 hx4_7; replace p4 := eq_true p4; replace q4 := eq_true q4; have p5 : 0 ≤ (x2_1 : Int) := od; have q5 : x2_1 < (l0_4.length : Int) := od; obtain ⟨ad5, e5, hx5_7⟩ := Kd.at_int HR0_4.1 x2_1 p5 q5
             cases e5; replace hx5_7 := cb HB.1 hx5_7; replace p5 := eq_true p5; replace q5 := eq_true q5; go_wp2_with (first | (go_at_call 105; (with_reducible refine (spec_l15Place.calls (rd l0_3 x2_1) (rd l0_4 x2_1) _ _ A20.1).mono ?_); rintro e w' ⟨rfl, ⟨nd, rfl⟩⟩; (try first | exact ⟨rfl, _, World.drewN_drewN _ _ _⟩ | exact ⟨rfl, _, Eq.trans (World.drewN_drewN _ _ _) (congrArg (World.drewN _) (Nat.add_assoc _ _ _))⟩)))
             repeat (go_quiet (first | (go_at_call 105; (with_reducible refine (spec_l15Place.calls (rd l0_3 x2_1) (rd l0_4 x2_1) _ _ A20.1).mono ?_); rintro e w' ⟨rfl, ⟨nd, rfl⟩⟩; (try first | exact ⟨rfl, _, World.drewN_drewN _ _ _⟩ | exact ⟨rfl, _, Eq.trans (World.drewN_drewN _ _ _) (congrArg (World.drewN _) (Nat.add_assoc _ _ _))⟩))); try go_wp2_with (first | (go_at_call 105; (with_reducible refine (spec_l15Place.calls (rd l0_3 x2_1) (rd l0_4 x2_1) _ _ A20.1).mono ?_); rintro e w' ⟨rfl, ⟨nd, rfl⟩⟩; (try first | exact ⟨rfl, _, World.drewN_drewN _ _ _⟩ | exact ⟨rfl, _, Eq.trans (World.drewN_drewN _ _ _) (congrArg (World.drewN _) (Nat.add_assoc _ _ _))⟩))))
             go_ret
             exact ⟨ew, vb HB.1⟩
           ·exact nO_ c19 H
          ·exact nO_ c18 H
         ·rw [if_neg c17] at H; have c17b0 := decide_eq_false c17; clear c17; obtain ⟨t19, A24, H⟩ := bnk H; by_cases c25 : t19 = true
          ·subst c25; rw [if_pos rfl] at H; obtain ⟨t20, A26, H⟩ := bnk H; by_cases c27 : t20 = true
           ·subst c27; rw [if_pos rfl] at H; obtain ⟨t16, A28, H⟩ := bnk H; obtain rfl := sj H; have hcz31 := cz6 BK0.1; go_wp2_with (first | (go_at_call 106; (with_reducible refine (spec_IsTable.calls k3 _ _ l0_0 _ _ ?_ HC0_0.1 A24.1).mono ?_); exact vd HR0_0.1 HB.1; rintro e w30 ⟨rfl, hb⟩; replace BK0 := kb BK0 hb; replace HB := bs HB hb; (try clear hb); have hcz21 := cz6 BK0.1) | (go_at_call 107; (with_reducible refine (spec_IsSite.calls k3 _ _ l0_1 _ _ ?_ HC0_1.1 A26.1).mono ?_); exact vd HR0_1.1 HB.1; rintro e w32 ⟨rfl, hb⟩; replace BK0 := kb BK0 hb; replace HB := bs HB hb; (try clear hb); have hcz22 := cz6 BK0.1) | (go_at_call 65; (with_reducible refine (spec_l01In.calls a0_5 0 10000 t16 _ A28.1).mono ?_); rintro e w' ⟨rfl, ⟨nd, rfl⟩⟩; (try first | exact ⟨rfl, _, World.drewN_drewN _ _ _⟩ | exact ⟨rfl, _, Eq.trans (World.drewN_drewN _ _ _) (congrArg (World.drewN _) (Nat.add_assoc _ _ _))⟩)))
            repeat (go_quiet (first | (go_at_call 106; (with_reducible refine (spec_IsTable.calls k3 _ _ l0_0 _ _ ?_ HC0_0.1 A24.1).mono ?_); exact vd HR0_0.1 HB.1; rintro e w30 ⟨rfl, hb⟩; replace BK0 := kb BK0 hb; replace HB := bs HB hb; (try clear hb); have hcz21 := cz6 BK0.1) | (go_at_call 107; (with_reducible refine (spec_IsSite.calls k3 _ _ l0_1 _ _ ?_ HC0_1.1 A26.1).mono ?_); exact vd HR0_1.1 HB.1; rintro e w32 ⟨rfl, hb⟩; replace BK0 := kb BK0 hb; replace HB := bs HB hb; (try clear hb); have hcz22 := cz6 BK0.1) | (go_at_call 65; (with_reducible refine (spec_l01In.calls a0_5 0 10000 t16 _ A28.1).mono ?_); rintro e w' ⟨rfl, ⟨nd, rfl⟩⟩; (try first | exact ⟨rfl, _, World.drewN_drewN _ _ _⟩ | exact ⟨rfl, _, Eq.trans (World.drewN_drewN _ _ _) (congrArg (World.drewN _) (Nat.add_assoc _ _ _))⟩))); try go_wp2_with (first | (go_at_call 106; (with_reducible refine (spec_IsTable.calls k3 _ _ l0_0 _ _ ?_ HC0_0.1 A24.1).mono ?_); exact vd HR0_0.1 HB.1; rintro e w30 ⟨rfl, hb⟩; replace BK0 := kb BK0 hb; replace HB := bs HB hb; (try clear hb); have hcz21 := cz6 BK0.1) | (go_at_call 107; (with_reducible refine (spec_IsSite.calls k3 _ _ l0_1 _ _ ?_ HC0_1.1 A26.1).mono ?_); exact vd HR0_1.1 HB.1; rintro e w32 ⟨rfl, hb⟩; replace BK0 := kb BK0 hb; replace HB := bs HB hb; (try clear hb); have hcz22 := cz6 BK0.1) | (go_at_call 65; (with_reducible refine (spec_l01In.calls a0_5 0 10000 t16 _ A28.1).mono ?_); rintro e w' ⟨rfl, ⟨nd, rfl⟩⟩; (try first | exact ⟨rfl, _, World.drewN_drewN _ _ _⟩ | exact ⟨rfl, _, Eq.trans (World.drewN_drewN _ _ _) (congrArg (World.drewN _) (Nat.add_assoc _ _ _))⟩))))
            go_ret
            exact ⟨ew, vb HB.1⟩
           ·replace c27 := Bool.eq_false_iff.mpr c27; subst c27; rw [if_neg nf] at H; obtain rfl := sj H; have hcz32 := cz6 BK0.1; go_wp2_with (first | (go_at_call 106; (with_reducible refine (spec_IsTable.calls k3 _ _ l0_0 _ _ ?_ HC0_0.1 A24.1).mono ?_); exact vd HR0_0.1 HB.1; rintro e w35 ⟨rfl, hb⟩; replace BK0 := kb BK0 hb; replace HB := bs HB hb; (try clear hb); have hcz23 := cz6 BK0.1) | (go_at_call 107; (with_reducible refine (spec_IsSite.calls k3 _ _ l0_1 _ _ ?_ HC0_1.1 A26.1).mono ?_); exact vd HR0_1.1 HB.1; rintro e w37 ⟨rfl, hb⟩; replace BK0 := kb BK0 hb; replace HB := bs HB hb; (try clear hb)))
            repeat (go_quiet (first | (go_at_call 106; (with_reducible refine (spec_IsTable.calls k3 _ _ l0_0 _ _ ?_ HC0_0.1 A24.1).mono ?_); exact vd HR0_0.1 HB.1; rintro e w35 ⟨rfl, hb⟩; replace BK0 := kb BK0 hb; replace HB := bs HB hb; (try clear hb); have hcz23 := cz6 BK0.1) | (go_at_call 107; (with_reducible refine (spec_IsSite.calls k3 _ _ l0_1 _ _ ?_ HC0_1.1 A26.1).mono ?_); exact vd HR0_1.1 HB.1; rintro e w37 ⟨rfl, hb⟩; replace BK0 := kb BK0 hb; replace HB := bs HB hb; (try clear hb))); try go_wp2_with (first | (go_at_call 106; (with_reducible refine (spec_IsTable.calls k3 _ _ l0_0 _ _ ?_ HC0_0.1 A24.1).mono ?_); exact vd HR0_0.1 HB.1; rintro e w35 ⟨rfl, hb⟩; replace BK0 := kb BK0 hb; replace HB := bs HB hb; (try clear hb); have hcz23 := cz6 BK0.1) | (go_at_call 107; (with_reducible refine (spec_IsSite.calls k3 _ _ l0_1 _ _ ?_ HC0_1.1 A26.1).mono ?_); exact vd HR0_1.1 HB.1; rintro e w37 ⟨rfl, hb⟩; replace BK0 := kb BK0 hb; replace HB := bs HB hb; (try clear hb))))
            go_ret
            exact ⟨ew, vb HB.1⟩
          ·replace c25 := Bool.eq_false_iff.mpr c25; subst c25; rw [if_neg nf] at H; obtain rfl := sj H; have hcz33 := cz6 BK0.1; go_wp2_with (first | (go_at_call 106; (with_reducible refine (spec_IsTable.calls k3 _ _ l0_0 _ _ ?_ HC0_0.1 A24.1).mono ?_); exact vd HR0_0.1 HB.1; rintro e w39 ⟨rfl, hb⟩; replace BK0 := kb BK0 hb; replace HB := bs HB hb; (try clear hb)))
           repeat (go_quiet (first | (go_at_call 106; (with_reducible refine (spec_IsTable.calls k3 _ _ l0_0 _ _ ?_ HC0_0.1 A24.1).mono ?_); exact vd HR0_0.1 HB.1; rintro e w39 ⟨rfl, hb⟩; replace BK0 := kb BK0 hb; replace HB := bs HB hb; (try clear hb))); try go_wp2_with (first | (go_at_call 106; (with_reducible refine (spec_IsTable.calls k3 _ _ l0_0 _ _ ?_ HC0_0.1 A24.1).mono ?_); exact vd HR0_0.1 HB.1; rintro e w39 ⟨rfl, hb⟩; replace BK0 := kb BK0 hb; replace HB := bs HB hb; (try clear hb))))
           go_ret
           exact ⟨ew, vb HB.1⟩


/-! ### impl_within: function 85 -/
def impl_within.f (a0 : Int) (a1 : Int) (a2 : Int) : Option (Bool) := if a1 ≤ a0 then (some (decide (a0 ≤ a2))) else (some false)
set_option maxHeartbeats 8000000 in
set_option maxRecDepth 100000 in
theorem impl_within.calls (a0 : Int) (a1 : Int) (a2 : Int) (r : Bool) (w : World) (h : impl_within.f a0 a1 a2 = some r) :
  Calls Try.prog 85 #[.int .i64 a0, .int .i64 a1, .int .i64 a2] w fun e w' => e = .returned (.bool r) ∧ Drawn0 w w' := by
 unfold impl_within.f at h; have H := h; clear h; by_cases c4 : a1 ≤ a0
 rw [if_pos c4] at H; have c4b0 := decide_eq_true c4; clear c4; obtain rfl := sj H; rotate_left
 rw [if_neg c4] at H; have c4b0 := decide_eq_false c4; clear c4; obtain rfl := sj H; rotate_left
 all_goals
  go_enter Try.func85, Try.ntmps85; go_wp2
  go_ret
  exact ⟨by first | rfl | (simp; done) | (simp [*]; done), by repeat (first | exact Drawn0.refl _ | apply Drawn0.step)⟩


/-! ### impl_isCalibre: function 92 -/
def impl_isCalibre.f (a0 : Int) : Option (Bool) := (impl_within.f a0 20 300).bind fun t0 => (some t0)
set_option maxHeartbeats 8000000 in
set_option maxRecDepth 100000 in
theorem impl_isCalibre.calls (a0 : Int) (r : Bool) (w : World) (h : impl_isCalibre.f a0 = some r) :
  Calls Try.prog 92 #[.int .i64 a0] w fun e w' => e = .returned (.bool r) ∧ Drawn0 w w' := by
 unfold impl_isCalibre.f at h; have H := h; clear h; obtain ⟨t0, A2, H⟩ := bnk H; obtain rfl := sj H; go_enter Try.func92, Try.ntmps92; go_wp2_with (first | ((with_reducible refine at_fn (f := 85) rfl ?_); refine gl (some 4) Try.func85 #[.int .i64 a0, .int .i64 20, .int .i64 300] ?_; (with_reducible refine (impl_within.calls a0 20 300 t0 _ A2.1).mono ?_); rintro e w' ⟨rfl, ⟨nd, rfl⟩⟩; refine ⟨_, rfl, ?_⟩))
 go_ret
 exact ⟨by first | rfl | (simp; done) | (simp [*]; done), by repeat (first | exact Drawn0.refl _ | apply Drawn0.step)⟩


/-! ### impl_isKind: function 122 -/
def impl_isKind.f (a0 : Int) : Option (Bool) := (impl_within.f a0 0 3).bind fun t0 => (some t0)
set_option maxHeartbeats 8000000 in
set_option maxRecDepth 100000 in
theorem impl_isKind.calls (a0 : Int) (r : Bool) (w : World) (h : impl_isKind.f a0 = some r) :
  Calls Try.prog 122 #[.int .i64 a0] w fun e w' => e = .returned (.bool r) ∧ Drawn0 w w' := by
 unfold impl_isKind.f at h; have H := h; clear h; obtain ⟨t0, A2, H⟩ := bnk H; obtain rfl := sj H; go_enter Try.func122, Try.ntmps122; go_wp2_with (first | ((with_reducible refine at_fn (f := 85) rfl ?_); refine gl (some 4) Try.func85 #[.int .i64 a0, .int .i64 0, .int .i64 3] ?_; (with_reducible refine (impl_within.calls a0 0 3 t0 _ A2.1).mono ?_); rintro e w' ⟨rfl, ⟨nd, rfl⟩⟩; refine ⟨_, rfl, ?_⟩))
 go_ret
 exact ⟨by first | rfl | (simp; done) | (simp [*]; done), by repeat (first | exact Drawn0.refl _ | apply Drawn0.step)⟩


/-! ### impl_IsTable: function 82 -/
mutual
def impl_IsTable.l0 : Nat → List (S98) → List (S98) → Int → Int → Option (Bool)
 | 0, _, _, _, _ => none
 | k + 1, x6, x8, x11, x1 => if x1 < x11 then (if 0 ≤ x1 then (if x1 < (x8.length : Int) then ((impl_isKind.f ((rd_T98 x8 x1).f0)).bind fun t15 => (if t15 = true then ((impl_isCalibre.f ((rd_T98 x8 x1).f1)).bind fun t16 => (if t16 = true then ((impl_within.f ((rd_T98 x8 x1).f2) 0 10000).bind fun t14 => (impl_IsTable.j1 k x6 x1 x8 x11 x1 (!t14) ((rd_T98 x8 x1).f0) ((rd_T98 x8 x1).f1) ((rd_T98 x8 x1).f2))) else (impl_IsTable.j1 k x6 x1 x8 x11 x1 true ((rd_T98 x8 x1).f0) ((rd_T98 x8 x1).f1) ((rd_T98 x8 x1).f2)))) else (impl_IsTable.j1 k x6 x1 x8 x11 x1 true ((rd_T98 x8 x1).f0) ((rd_T98 x8 x1).f1) ((rd_T98 x8 x1).f2)))) else (none)) else (none)) else (some true)
def impl_IsTable.j1 : Nat → List (S98) → Int → List (S98) → Int → Int → Bool → Int → Int → Int → Option (Bool)
 | 0, _, _, _, _, _, _, _, _, _ => none
 | k + 1, x6, x12, x8, x11, x1, x10, x17, x18, x19 => if x10 = true then (some false) else (if x12 = 0 then (impl_IsTable.l0 k x6 x8 x11 (wrap64 (x1 + 1))) else (if 0 ≤ (wrap64 (x12 - 1)) then (if (wrap64 (x12 - 1)) < (x6.length : Int) then (if ((rd_T98 x6 (wrap64 (x12 - 1))).f0) > x17 then (some false) else (if ((rd_T98 x6 (wrap64 (x12 - 1))).f0) = x17 then (if ((rd_T98 x6 (wrap64 (x12 - 1))).f1) ≥ x18 then (some false) else (if ((rd_T98 x6 (wrap64 (x12 - 1))).f2) > x19 then (some false) else (impl_IsTable.l0 k x6 x8 x11 (wrap64 (x1 + 1))))) else (impl_IsTable.l0 k x6 x8 x11 (wrap64 (x1 + 1))))) else (none)) else (none)))
end
def impl_IsTable.f (k : Nat) (l0 : List (S98)) : Option (Bool) := if (l0.length : Int) > 12 then (some false) else (impl_IsTable.l0 k l0 l0 (l0.length : Int) 0)
set_option maxHeartbeats 8000000 in
set_option maxRecDepth 100000 in
theorem impl_IsTable.calls (k : Nat) (A0 : Option Addr) (c0 : Nat) (l0 : List (S98)) (r : Bool) (w : World) (hr0 : Kd.C k98 w A0 l0.length l0) (hc0 : l0.length ≤ c0) (h : impl_IsTable.f k l0 = some r) :
  Calls Try.prog 82 #[.slice A0 l0.length c0] w fun e w' => e = .returned (.bool r) ∧ Below w.heap.size w w' := by
 have hu98 := Try.underlying98; have HR0 := ak hr0; have HC0 := ak hc0; clear hr0 hc0; have HB := ak (Below.refl w.heap.size w); unfold impl_IsTable.f at h; have H := h; clear h; by_cases c2 : (l0.length : Int) > 12
 ·rw [if_pos c2] at H; have c2b0 := decide_eq_true c2; have c2b1 : decide (12 < l0.length) = true := decide_eq_true (by omega); clear c2; obtain rfl := sj H; go_enter Try.func82, Try.ntmps82; go_wp2
  go_ret
  exact ⟨ew, vb HB.1⟩
 ·rw [if_neg c2] at H; have c2b0 := decide_eq_false c2; have c2b1 : decide (12 < l0.length) = false := decide_eq_false (by omega); clear c2; have H' := ak H; clear H; go_enter Try.func82, Try.ntmps82; go_wp2
  go_loopg [11] k (fun kq v1 w' => ∃ (x1_2 : Int), v1 = .int .i64 x1_2 ∧ Aside0 (impl_IsTable.l0 kq l0 l0 (l0.length : Int) x1_2 = some r) ∧ Aside0 (kq ≤ k) ∧ Aside0 (Below w.heap.size w w'))
  case atStart => exact ⟨(0), es, H', ⟨Nat.le_refl _⟩, ⟨vb HB.1⟩⟩
  case round =>
   clear H'; obtain ⟨x1_2, rfl, HA, HK1, HB⟩ := hrel
   cases gk with
   | zero => exact absurd HA.1 (by simp [impl_IsTable.l0])
   | succ k1 =>
    have H := HA.1; clear HA; simp only [impl_IsTable.l0] at H
    by_cases c3 : x1_2 < (l0.length : Int)
    ·rw [if_pos c3] at H; have c3b0 := decide_eq_true c3; clear c3; by_cases c4 : 0 ≤ x1_2
     ·rw [if_pos c4] at H; have c4b0 := decide_eq_true c4; clear c4; by_cases c5 : x1_2 < (l0.length : Int)
      ·rw [if_pos c5] at H; have c5b0 := decide_eq_true c5; clear c5; have HC6 := ak H; clear H; have p7 : 0 ≤ (x1_2 : Int) := od; have q7 : x1_2 < (l0.length : Int) := od; obtain ⟨ad7, e7, hx7_6, hx7_2, hx7_9⟩ := at_T98 HR0.1 x1_2 p7 q7
       cases e7; replace hx7_6 := cb HB.1 hx7_6; replace hx7_2 := cb HB.1 hx7_2; replace hx7_9 := cb HB.1 hx7_9; replace p7 := eq_true p7; replace q7 := eq_true q7; go_upto_region 6 with (first | ((with_reducible refine gate_dst (N := 4) rfl ?_); refine bx 4 #[.int .i64 0, .int .i64 0, .int .i64 0] 98 ?_; intro gb3 hg w7 hbox hb; have BK3 := ak hbox; have GW305 := gw hg HB; have GE3 := gw hg HB; replace HB := bs HB hb; clear hb hbox hg; have hcz20 := cz3 BK3.1))
       (try simp only [Act.put, List.setIfInBounds_toArray, List.set_cons_zero, List.set_cons_succ])
       go_cut [31] (fun v10 wc => ∃ (kq : Nat) (x10_13 : Bool), v10 = .bool x10_13 ∧ Aside0 (impl_IsTable.j1 kq l0 x1_2 l0 (l0.length : Int) x1_2 x10_13 ((rd_T98 l0 x1_2).f0) ((rd_T98 l0 x1_2).f1) ((rd_T98 l0 x1_2).f2) = some r) ∧ Aside0 (kq ≤ k1) ∧ Aside0 (wc.heap[gb3]? = some (.cells #[.int .i64 ((rd_T98 l0 x1_2).f0), .int .i64 ((rd_T98 l0 x1_2).f1), .int .i64 ((rd_T98 l0 x1_2).f2)] 98 (0, 0))) ∧ Aside0 (Below w.heap.size w wc))
       case first =>
        have H := HC6.1; clear HC6; obtain ⟨t15, A9, H⟩ := bnk H; by_cases c10 : t15 = true
        ·subst c10; rw [if_pos rfl] at H; obtain ⟨t16, A11, H⟩ := bnk H; by_cases c12 : t16 = true
         ·subst c12; rw [if_pos rfl] at H; obtain ⟨t14, A13, H⟩ := bnk H; have H' := ak H; clear H; have hcz21 := cz3 BK3.1; go_wp2_with (first | ((with_reducible refine at_fn (f := 122) rfl ?_); refine gl (some 18) Try.func122 #[.int .i64 ((rd_T98 l0 x1_2).f0)] ?_; (with_reducible refine (impl_isKind.calls ((rd_T98 l0 x1_2).f0) _ _ A9.1).mono ?_); rintro e w' ⟨rfl, ⟨nd, rfl⟩⟩; refine ⟨_, rfl, ?_⟩) | (go_at_call 92; (with_reducible refine (impl_isCalibre.calls ((rd_T98 l0 x1_2).f1) _ _ A11.1).mono ?_); rintro e w' ⟨rfl, ⟨nd, rfl⟩⟩) | (go_at_call 85; (with_reducible refine (impl_within.calls ((rd_T98 l0 x1_2).f2) 0 10000 t14 _ A13.1).mono ?_); rintro e w' ⟨rfl, ⟨nd, rfl⟩⟩))
          go_meet
          case rel => exact ⟨_, (!t14), es, H', ⟨by have := HK1.1; first | omega | exact Nat.le_refl _⟩, ⟨by (with_reducible repeat (first | refine blk_drewN ?_ _ | refine blk_drew ?_ | refine blk_alloc ?_ _)); refine blk_put (cs := #[.int .i64 ((rd_T98 l0 x1_2).f0), .int .i64 ((rd_T98 l0 x1_2).f1), .int .i64 0]) ?_ 2 _ rfl; (with_reducible repeat (first | refine blk_drewN ?_ _ | refine blk_drew ?_ | refine blk_alloc ?_ _)); refine blk_put (cs := #[.int .i64 ((rd_T98 l0 x1_2).f0), .int .i64 0, .int .i64 0]) ?_ 1 _ rfl; (with_reducible repeat (first | refine blk_drewN ?_ _ | refine blk_drew ?_ | refine blk_alloc ?_ _)); refine blk_put (cs := #[.int .i64 0, .int .i64 0, .int .i64 0]) ?_ 0 _ rfl; exact vk BK3.1⟩, ⟨vb HB.1⟩⟩
         ·replace c12 := Bool.eq_false_iff.mpr c12; subst c12; rw [if_neg nf] at H; have H' := ak H; clear H; have hcz22 := cz3 BK3.1; go_wp2_with (first | ((with_reducible refine at_fn (f := 122) rfl ?_); refine gl (some 18) Try.func122 #[.int .i64 ((rd_T98 l0 x1_2).f0)] ?_; (with_reducible refine (impl_isKind.calls ((rd_T98 l0 x1_2).f0) _ _ A9.1).mono ?_); rintro e w' ⟨rfl, ⟨nd, rfl⟩⟩; refine ⟨_, rfl, ?_⟩) | (go_at_call 92; (with_reducible refine (impl_isCalibre.calls ((rd_T98 l0 x1_2).f1) _ _ A11.1).mono ?_); rintro e w' ⟨rfl, ⟨nd, rfl⟩⟩))
          go_meet
          case rel => exact ⟨_, (true), es, H', ⟨by have := HK1.1; first | omega | exact Nat.le_refl _⟩, ⟨by (with_reducible repeat (first | refine blk_drewN ?_ _ | refine blk_drew ?_ | refine blk_alloc ?_ _)); refine blk_put (cs := #[.int .i64 ((rd_T98 l0 x1_2).f0), .int .i64 ((rd_T98 l0 x1_2).f1), .int .i64 0]) ?_ 2 _ rfl; (with_reducible repeat (first | refine blk_drewN ?_ _ | refine blk_drew ?_ | refine blk_alloc ?_ _)); refine blk_put (cs := #[.int .i64 ((rd_T98 l0 x1_2).f0), .int .i64 0, .int .i64 0]) ?_ 1 _ rfl; (with_reducible repeat (first | refine blk_drewN ?_ _ | refine blk_drew ?_ | refine blk_alloc ?_ _)); refine blk_put (cs := #[.int .i64 0, .int .i64 0, .int .i64 0]) ?_ 0 _ rfl; exact vk BK3.1⟩, ⟨vb HB.1⟩⟩
        ·replace c10 := Bool.eq_false_iff.mpr c10; subst c10; rw [if_neg nf] at H; have H' := ak H; clear H; have hcz23 := cz3 BK3.1; go_wp2_with (first | ((with_reducible refine at_fn (f := 122) rfl ?_); refine gl (some 18) Try.func122 #[.int .i64 ((rd_T98 l0 x1_2).f0)] ?_; (with_reducible refine (impl_isKind.calls ((rd_T98 l0 x1_2).f0) _ _ A9.1).mono ?_); rintro e w' ⟨rfl, ⟨nd, rfl⟩⟩; refine ⟨_, rfl, ?_⟩))
         go_meet
         case rel => exact ⟨_, (true), es, H', ⟨by have := HK1.1; first | omega | exact Nat.le_refl _⟩, ⟨by (with_reducible repeat (first | refine blk_drewN ?_ _ | refine blk_drew ?_ | refine blk_alloc ?_ _)); refine blk_put (cs := #[.int .i64 ((rd_T98 l0 x1_2).f0), .int .i64 ((rd_T98 l0 x1_2).f1), .int .i64 0]) ?_ 2 _ rfl; (with_reducible repeat (first | refine blk_drewN ?_ _ | refine blk_drew ?_ | refine blk_alloc ?_ _)); refine blk_put (cs := #[.int .i64 ((rd_T98 l0 x1_2).f0), .int .i64 0, .int .i64 0]) ?_ 1 _ rfl; (with_reducible repeat (first | refine blk_drewN ?_ _ | refine blk_drew ?_ | refine blk_alloc ?_ _)); refine blk_put (cs := #[.int .i64 0, .int .i64 0, .int .i64 0]) ?_ 0 _ rfl; exact vk BK3.1⟩, ⟨vb HB.1⟩⟩
       case rest =>
        clear HC6; obtain ⟨kq, x10_13, rfl, HA, HJ5, BK3, HB⟩ := hcut
        cases kq with
        | zero => exact absurd HA.1 (by simp [impl_IsTable.j1])
        | succ kj5 =>
         have H := HA.1; clear HA; simp only [impl_IsTable.j1] at H
         by_cases c17 : x10_13 = true
         ·subst c17; rw [if_pos rfl] at H; obtain rfl := sj H; go_wp2
          go_ret
          exact ⟨ew, vb HB.1⟩
         ·replace c17 := Bool.eq_false_iff.mpr c17; subst c17; rw [if_neg nf] at H; by_cases c18 : x1_2 = 0
          ·rw [if_pos c18] at H; obtain ⟨c18b0, c18b1⟩ := bqt c18; clear c18; have H' := ak H; clear H; go_wp2
           go_roundg kj5
           case measure => have := HK1.1; have := HJ5.1; omega
           case rel => exact ⟨(wrap64 (x1_2 + 1)), es, H', ⟨by have := HK1.1; have := HJ5.1; omega⟩, ⟨vb HB.1⟩⟩
          ·rw [if_neg c18] at H; obtain ⟨c18b0, c18b1⟩ := bqf c18; obtain ⟨ji5, hji19⟩ : ∃ j_ : Int, (wrap64 (x1_2 - 1)) = j_ := ⟨_, rfl⟩; replace H : (if 0 ≤ (ji5) then (if (ji5) < (l0.length : Int) then (if ((rd_T98 l0 (ji5)).f0) > ((rd_T98 l0 x1_2).f0) then (some false) else (if ((rd_T98 l0 (ji5)).f0) = ((rd_T98 l0 x1_2).f0) then (if ((rd_T98 l0 (ji5)).f1) ≥ ((rd_T98 l0 x1_2).f1) then (some false) else (if ((rd_T98 l0 (ji5)).f2) > ((rd_T98 l0 x1_2).f2) then (some false) else (impl_IsTable.l0 kj5 l0 l0 (l0.length : Int) (wrap64 (x1_2 + 1))))) else (impl_IsTable.l0 kj5 l0 l0 (l0.length : Int) (wrap64 (x1_2 + 1))))) else (none)) else (none)) = some r := by first | (rw [hji19] at H; exact H) | (simp only [hji19] at H ⊢; exact H)
           have hji19w : (IntKind.i64.wrap (x1_2 - 1)) = ji5 := (i64_w _).trans hji19; by_cases c20 : 0 ≤ (ji5)
           ·rw [if_pos c20] at H; have c20b0 := decide_eq_true c20; clear c20; by_cases c21 : (ji5) < (l0.length : Int)
            ·rw [if_pos c21] at H; have c21b0 := decide_eq_true c21; clear c21; by_cases c22 : ((rd_T98 l0 (ji5)).f0) > ((rd_T98 l0 x1_2).f0)
             ·rw [if_pos c22] at H; have c22b0 := decide_eq_true c22; clear c22; obtain rfl := sj H; have p0 : 0 ≤ ((ji5) : Int) := od; have q0 : (ji5) < (l0.length : Int) := od; obtain ⟨ad0, e0, hx0_6, hx0_2, hx0_9⟩ := at_T98 HR0.1 (ji5) p0 q0; obtain rfl : ad7 = ad0 := (by injection e0); replace hx0_6 := cb HB.1 hx0_6; replace hx0_2 := cb HB.1 hx0_2; replace hx0_9 := cb HB.1 hx0_9; replace p0 := eq_true p0; replace q0 := eq_true q0; go_wp2_with (first | ((with_reducible refine gate_dst (N := 5) rfl ?_); refine bx 5 #[.int .i64 0, .int .i64 0, .int .i64 0] 98 ?_; intro gb4 hg w23 hbox hb; have BK4 := ak hbox; have GW310 := gw hg HB; have GE4 := gw hg HB; replace HB := bs HB hb; have NB3_4 := nl hg BK3; have NB4_3 := nr hg BK3; replace BK3 := kb BK3 hb; clear hb hbox hg; have := NB4_3.1; have := NB3_4.1; have hcz24 := cz3 BK4.1; have hcz25 := cz3 BK3.1))
              go_ret
              exact ⟨by first | rfl | (simp [errW_none, errW_some] <;> rfl) | (simp only [← hji19]; first | rfl | (simp [errW_none, errW_some] <;> rfl)) | (simp [*, errW_none, errW_some] <;> rfl), vb HB.1⟩
             ·rw [if_neg c22] at H; have c22b0 := decide_eq_false c22; clear c22; by_cases c27 : ((rd_T98 l0 (ji5)).f0) = ((rd_T98 l0 x1_2).f0)
              ·rw [if_pos c27] at H; have c27b0 : (((rd_T98 l0 (ji5)).f0) == ((rd_T98 l0 x1_2).f0)) = true := beq_iff_eq.mpr c27; have c27b1 : (((rd_T98 l0 (ji5)).f0) != ((rd_T98 l0 x1_2).f0)) = false := bne_eq_false_iff_eq.mpr c27; clear c27; by_cases c28 : ((rd_T98 l0 (ji5)).f1) ≥ ((rd_T98 l0 x1_2).f1)
               ·rw [if_pos c28] at H; have c28b0 := decide_eq_true c28; clear c28; obtain rfl := sj H; have p0 : 0 ≤ ((ji5) : Int) := od; have q0 : (ji5) < (l0.length : Int) := od; obtain ⟨ad0, e0, hx0_6, hx0_2, hx0_9⟩ := at_T98 HR0.1 (ji5) p0 q0; obtain rfl : ad7 = ad0 := (by injection e0); replace hx0_6 := cb HB.1 hx0_6; replace hx0_2 := cb HB.1 hx0_2; replace hx0_9 := cb HB.1 hx0_9; replace p0 := eq_true p0; replace q0 := eq_true q0; go_wp2_with (first | ((with_reducible refine gate_dst (N := 5) rfl ?_); refine bx 5 #[.int .i64 0, .int .i64 0, .int .i64 0] 98 ?_; intro gb4 hg w29 hbox hb; have BK4 := ak hbox; have GW310 := gw hg HB; have GE4 := gw hg HB; replace HB := bs HB hb; have NB3_4 := nl hg BK3; have NB4_3 := nr hg BK3; replace BK3 := kb BK3 hb; clear hb hbox hg; have := NB4_3.1; have := NB3_4.1; have hcz10 := cz3 BK4.1; have hcz26 := cz3 BK3.1))
                go_ret
                exact ⟨by first | rfl | (simp [errW_none, errW_some] <;> rfl) | (simp only [← hji19]; first | rfl | (simp [errW_none, errW_some] <;> rfl)) | (simp [*, errW_none, errW_some] <;> rfl), vb HB.1⟩
               ·rw [if_neg c28] at H; have c28b0 := decide_eq_false c28; clear c28; by_cases c33 : ((rd_T98 l0 (ji5)).f2) > ((rd_T98 l0 x1_2).f2)
                ·rw [if_pos c33] at H; have c33b0 := decide_eq_true c33; clear c33; obtain rfl := sj H; have p0 : 0 ≤ ((ji5) : Int) := od; have q0 : (ji5) < (l0.length : Int) := od; obtain ⟨ad0, e0, hx0_6, hx0_2, hx0_9⟩ := at_T98 HR0.1 (ji5) p0 q0; obtain rfl : ad7 = ad0 := (by injection e0); replace hx0_6 := cb HB.1 hx0_6; replace hx0_2 := cb HB.1 hx0_2; replace hx0_9 := cb HB.1 hx0_9; replace p0 := eq_true p0; replace q0 := eq_true q0; go_wp2_with (first | ((with_reducible refine gate_dst (N := 5) rfl ?_); refine bx 5 #[.int .i64 0, .int .i64 0, .int .i64 0] 98 ?_; intro gb4 hg w34 hbox hb; have BK4 := ak hbox; have GW310 := gw hg HB; have GE4 := gw hg HB; replace HB := bs HB hb; have NB3_4 := nl hg BK3; have NB4_3 := nr hg BK3; replace BK3 := kb BK3 hb; clear hb hbox hg; have := NB4_3.1; have := NB3_4.1; have hcz27 := cz3 BK4.1; have hcz28 := cz3 BK3.1))
                 go_ret
                 exact ⟨by first | rfl | (simp [errW_none, errW_some] <;> rfl) | (simp only [← hji19]; first | rfl | (simp [errW_none, errW_some] <;> rfl)) | (simp [*, errW_none, errW_some] <;> rfl), vb HB.1⟩
                ·rw [if_neg c33] at H; have c33b0 := decide_eq_false c33; clear c33; have H' := ak H; clear H; have p0 : 0 ≤ ((ji5) : Int) := od; have q0 : (ji5) < (l0.length : Int) := od; obtain ⟨ad0, e0, hx0_6, hx0_2, hx0_9⟩ := at_T98 HR0.1 (ji5) p0 q0; obtain rfl : ad7 = ad0 := (by injection e0); replace hx0_6 := cb HB.1 hx0_6; replace hx0_2 := cb HB.1 hx0_2; replace hx0_9 := cb HB.1 hx0_9; replace p0 := eq_true p0; replace q0 := eq_true q0; go_wp2_with (first | ((with_reducible refine gate_dst (N := 5) rfl ?_); refine bx 5 #[.int .i64 0, .int .i64 0, .int .i64 0] 98 ?_; intro gb4 hg w38 hbox hb; have BK4 := ak hbox; have GW310 := gw hg HB; have GE4 := gw hg HB; replace HB := bs HB hb; have NB3_4 := nl hg BK3; have NB4_3 := nr hg BK3; replace BK3 := kb BK3 hb; clear hb hbox hg; have := NB4_3.1; have := NB3_4.1; have hcz29 := cz3 BK4.1; have hcz30 := cz3 BK3.1))
                 go_roundg kj5
                 case measure => have := HK1.1; have := HJ5.1; omega
                 case rel => exact ⟨(wrap64 (x1_2 + 1)), es, H', ⟨by have := HK1.1; have := HJ5.1; omega⟩, ⟨vb HB.1⟩⟩
              ·rw [if_neg c27] at H; have c27b0 : (((rd_T98 l0 (ji5)).f0) == ((rd_T98 l0 x1_2).f0)) = false := beq_eq_false_iff_ne.mpr c27; have c27b1 : (((rd_T98 l0 (ji5)).f0) != ((rd_T98 l0 x1_2).f0)) = true := bne_iff_ne.mpr c27; have H' := ak H; clear H; have p0 : 0 ≤ ((ji5) : Int) := od; have q0 : (ji5) < (l0.length : Int) := od; obtain ⟨ad0, e0, hx0_6, hx0_2, hx0_9⟩ := at_T98 HR0.1 (ji5) p0 q0; obtain rfl : ad7 = ad0 := (by injection e0); replace hx0_6 := cb HB.1 hx0_6; replace hx0_2 := cb HB.1 hx0_2; replace hx0_9 := cb HB.1 hx0_9; replace p0 := eq_true p0; replace q0 := eq_true q0; go_wp2_with (first | ((with_reducible refine gate_dst (N := 5) rfl ?_); refine bx 5 #[.int .i64 0, .int .i64 0, .int .i64 0] 98 ?_; intro gb4 hg w42 hbox hb; have BK4 := ak hbox; have GW310 := gw hg HB; have GE4 := gw hg HB; replace HB := bs HB hb; have NB3_4 := nl hg BK3; have NB4_3 := nr hg BK3; replace BK3 := kb BK3 hb; clear hb hbox hg; have := NB4_3.1; have := NB3_4.1; have hcz31 := cz3 BK4.1; have hcz32 := cz3 BK3.1))
               go_roundg kj5
               case measure => have := HK1.1; have := HJ5.1; omega
               case rel => exact ⟨(wrap64 (x1_2 + 1)), es, H', ⟨by have := HK1.1; have := HJ5.1; omega⟩, ⟨vb HB.1⟩⟩
            ·exact nO_ c21 H
           ·exact nO_ c20 H
      ·exact nO_ c5 H
     ·exact nO_ c4 H
    ·rw [if_neg c3] at H; have c3b0 := decide_eq_false c3; clear c3; obtain rfl := sj H; go_wp2
     go_ret
     exact ⟨ew, vb HB.1⟩


/-! ### impl_isPlace: function 93 -/
def impl_isPlace.f (a0 : Int) (a1 : Int) : Option (Bool) := (impl_within.f a0 0 100000).bind fun t0 => (if t0 = true then ((impl_within.f a1 0 100000).bind fun t1 => (some t1)) else (some false))
set_option maxHeartbeats 8000000 in
set_option maxRecDepth 100000 in
theorem impl_isPlace.calls (a0 : Int) (a1 : Int) (r : Bool) (w : World) (h : impl_isPlace.f a0 a1 = some r) :
  Calls Try.prog 93 #[.int .i64 a0, .int .i64 a1] w fun e w' => e = .returned (.bool r) ∧ Drawn0 w w' := by
 unfold impl_isPlace.f at h; have H := h; clear h; obtain ⟨t0, A3, H⟩ := bnk H; by_cases c4 : t0 = true
 subst c4; rw [if_pos rfl] at H; obtain ⟨t1, A5, H⟩ := bnk H; obtain rfl := sj H; rotate_left
 replace c4 := Bool.eq_false_iff.mpr c4; subst c4; rw [if_neg nf] at H; obtain rfl := sj H; rotate_left
 all_goals
  go_enter Try.func93, Try.ntmps93; go_wp2_with (first | ((with_reducible refine at_fn (f := 85) rfl ?_); refine gl (some 6) Try.func85 #[.int .i64 a0, .int .i64 0, .int .i64 100000] ?_; (with_reducible refine (impl_within.calls a0 0 100000 _ _ A3.1).mono ?_); rintro e w' ⟨rfl, ⟨nd, rfl⟩⟩; refine ⟨_, rfl, ?_⟩) | (go_at_call 85; (with_reducible refine (impl_within.calls a1 0 100000 t1 _ A5.1).mono ?_); rintro e w' ⟨rfl, ⟨nd, rfl⟩⟩))
  go_ret
  exact ⟨by first | rfl | (simp; done) | (simp [*]; done), by repeat (first | exact Drawn0.refl _ | apply Drawn0.step)⟩


/-! ### impl_IsArea: function 123 -/
def impl_IsArea.f (a0_0 : Int) (a0_1 : Int) (a0_2 : Int) (a0_3 : Int) (a0_4 : Int) : Option (Bool) := (impl_isKind.f a0_0).bind fun t1 => (if t1 = true then ((impl_isPlace.f a0_1 a0_2).bind fun t2 => (if t2 = true then ((impl_within.f a0_3 1 (wrap64 (100000 - a0_1))).bind fun t3 => (if t3 = true then ((impl_within.f a0_4 1 (wrap64 (100000 - a0_2))).bind fun t4 => (some t4)) else (some false))) else (some false))) else (some false))
set_option maxHeartbeats 8000000 in
set_option maxRecDepth 100000 in
theorem impl_IsArea.calls (a0_0 : Int) (a0_1 : Int) (a0_2 : Int) (a0_3 : Int) (a0_4 : Int) (r : Bool) (w : World) (h : impl_IsArea.f a0_0 a0_1 a0_2 a0_3 a0_4 = some r) :
  Calls Try.prog 123 #[.agg #[.int .i64 a0_0, .int .i64 a0_1, .int .i64 a0_2, .int .i64 a0_3, .int .i64 a0_4]] w fun e w' => e = .returned (.bool r) ∧ Below w.heap.size w w' := by
 have hu103 := Try.underlying103; have HB := ak (Below.refl w.heap.size w); unfold impl_IsArea.f at h; have H := h; clear h; obtain ⟨t1, A2, H⟩ := bnk H; by_cases c3 : t1 = true
 subst c3; rw [if_pos rfl] at H; obtain ⟨t2, A4, H⟩ := bnk H; by_cases c5 : t2 = true
 subst c5; rw [if_pos rfl] at H; obtain ⟨t3, A6, H⟩ := bnk H; by_cases c7 : t3 = true
 subst c7; rw [if_pos rfl] at H; obtain ⟨t4, A8, H⟩ := bnk H; obtain rfl := sj H; rotate_left
 replace c7 := Bool.eq_false_iff.mpr c7; subst c7; rw [if_neg nf] at H; obtain rfl := sj H; rotate_left
 replace c5 := Bool.eq_false_iff.mpr c5; subst c5; rw [if_neg nf] at H; obtain rfl := sj H; rotate_left
 replace c3 := Bool.eq_false_iff.mpr c3; subst c3; rw [if_neg nf] at H; obtain rfl := sj H; rotate_left
 all_goals
  go_enter Try.func123, Try.ntmps123; go_wp2_with (first | ((with_reducible refine gate_dst (N := 1) rfl ?_); refine bx 1 #[.int .i64 a0_0, .int .i64 a0_1, .int .i64 a0_2, .int .i64 a0_3, .int .i64 a0_4] 103 ?_; intro gb0 hg w9 hbox hb; have BK0 := ak hbox; have GW313 := gw hg HB; have GE0 := gw hg HB; replace HB := bs HB hb; clear hb hbox hg; have hcz5 := cz5 BK0.1) | ((with_reducible refine at_fn (f := 122) rfl ?_); refine gl (some 5) Try.func122 #[.int .i64 a0_0] ?_; (with_reducible refine (impl_isKind.calls a0_0 _ _ A2.1).mono ?_); rintro e w' ⟨rfl, ⟨nd, rfl⟩⟩; refine ⟨_, rfl, ?_⟩) | (go_at_call 93; (with_reducible refine (impl_isPlace.calls a0_1 a0_2 _ _ A4.1).mono ?_); rintro e w' ⟨rfl, ⟨nd, rfl⟩⟩) | (go_at_call 85; (with_reducible refine (impl_within.calls a0_3 1 (wrap64 (100000 - a0_1)) _ _ A6.1).mono ?_); rintro e w' ⟨rfl, ⟨nd, rfl⟩⟩) | (go_at_call 85; (with_reducible refine (impl_within.calls a0_4 1 (wrap64 (100000 - a0_2)) t4 _ A8.1).mono ?_); rintro e w' ⟨rfl, ⟨nd, rfl⟩⟩))
  go_ret
  exact ⟨ew, vb HB.1⟩


/-! ### impl_IsSite: function 83 -/
def impl_IsSite.l0 : Nat → List (S103) → Int → Int → Option (Bool)
 | 0, _, _, _ => none
 | k + 1, x4, x9, x0 => if x0 < x9 then (if 0 ≤ x0 then (if x0 < (x4.length : Int) then ((impl_IsArea.f ((rd_T103 x4 x0).f0) ((rd_T103 x4 x0).f1) ((rd_T103 x4 x0).f2) ((rd_T103 x4 x0).f3) ((rd_T103 x4 x0).f4)).bind fun t10 => (if t10 = true then (impl_IsSite.l0 k x4 x9 (wrap64 (x0 + 1))) else (some false))) else (none)) else (none)) else (some true)
def impl_IsSite.f (k : Nat) (l0 : List (S103)) : Option (Bool) := if (l0.length : Int) > 10 then (some false) else (impl_IsSite.l0 k l0 (l0.length : Int) 0)
set_option maxHeartbeats 8000000 in
set_option maxRecDepth 100000 in
theorem impl_IsSite.calls (k : Nat) (A0 : Option Addr) (c0 : Nat) (l0 : List (S103)) (r : Bool) (w : World) (hr0 : Kd.C k103 w A0 l0.length l0) (hc0 : l0.length ≤ c0) (h : impl_IsSite.f k l0 = some r) :
  Calls Try.prog 83 #[.slice A0 l0.length c0] w fun e w' => e = .returned (.bool r) ∧ Below w.heap.size w w' := by
 have hu103 := Try.underlying103; have HR0 := ak hr0; have HC0 := ak hc0; clear hr0 hc0; have HB := ak (Below.refl w.heap.size w); unfold impl_IsSite.f at h; have H := h; clear h; by_cases c2 : (l0.length : Int) > 10
 ·rw [if_pos c2] at H; have c2b0 := decide_eq_true c2; have c2b1 : decide (10 < l0.length) = true := decide_eq_true (by omega); clear c2; obtain rfl := sj H; go_enter Try.func83, Try.ntmps83; go_wp2
  go_ret
  exact ⟨ew, vb HB.1⟩
 ·rw [if_neg c2] at H; have c2b0 := decide_eq_false c2; have c2b1 : decide (10 < l0.length) = false := decide_eq_false (by omega); clear c2; have H' := ak H; clear H; go_enter Try.func83, Try.ntmps83; go_wp2
  go_loopg [10] k (fun kq v0 w' => ∃ (x0_2 : Int), v0 = .int .i64 x0_2 ∧ Aside0 (impl_IsSite.l0 kq l0 (l0.length : Int) x0_2 = some r) ∧ Aside0 (kq ≤ k) ∧ Aside0 (Below w.heap.size w w'))
  case atStart => exact ⟨(0), es, H', ⟨Nat.le_refl _⟩, ⟨vb HB.1⟩⟩
  case round =>
   clear H'; obtain ⟨x0_2, rfl, HA, HK1, HB⟩ := hrel
   cases gk with
   | zero => exact absurd HA.1 (by simp [impl_IsSite.l0])
   | succ k1 =>
    have H := HA.1; clear HA; simp only [impl_IsSite.l0] at H
    by_cases c3 : x0_2 < (l0.length : Int)
    ·rw [if_pos c3] at H; have c3b0 := decide_eq_true c3; clear c3; by_cases c4 : 0 ≤ x0_2
     ·rw [if_pos c4] at H; have c4b0 := decide_eq_true c4; clear c4; by_cases c5 : x0_2 < (l0.length : Int)
      ·rw [if_pos c5] at H; have c5b0 := decide_eq_true c5; clear c5; obtain ⟨t10, A6, H⟩ := bnk H; by_cases c7 : t10 = true
       ·subst c7; rw [if_pos rfl] at H; have H' := ak H; clear H; have p1 : 0 ≤ (x0_2 : Int) := od; have q1 : x0_2 < (l0.length : Int) := od; obtain ⟨ad1, e1, hx1_5, hx1_2, hx1_6, hx1_7, hx1_8⟩ := at_T103 HR0.1 x0_2 p1 q1
        cases e1; replace hx1_5 := cb HB.1 hx1_5; replace hx1_2 := cb HB.1 hx1_2; replace hx1_6 := cb HB.1 hx1_6; replace hx1_7 := cb HB.1 hx1_7; replace hx1_8 := cb HB.1 hx1_8; replace p1 := eq_true p1; replace q1 := eq_true q1; go_wp2_with (first | ((with_reducible refine gate_dst (N := 4) rfl ?_); refine bx 4 #[.int .i64 0, .int .i64 0, .int .i64 0, .int .i64 0, .int .i64 0] 103 ?_; intro gb3 hg w8 hbox hb; have BK3 := ak hbox; have GW319 := gw hg HB; have GE3 := gw hg HB; replace HB := bs HB hb; clear hb hbox hg; have hcz9 := cz5 BK3.1) | ((with_reducible refine at_fn (f := 123) rfl ?_); refine gl (some 15) Try.func123 #[.agg #[.int .i64 ((rd_T103 l0 x0_2).f0), .int .i64 ((rd_T103 l0 x0_2).f1), .int .i64 ((rd_T103 l0 x0_2).f2), .int .i64 ((rd_T103 l0 x0_2).f3), .int .i64 ((rd_T103 l0 x0_2).f4)]] ?_; (with_reducible refine (impl_IsArea.calls ((rd_T103 l0 x0_2).f0) ((rd_T103 l0 x0_2).f1) ((rd_T103 l0 x0_2).f2) ((rd_T103 l0 x0_2).f3) ((rd_T103 l0 x0_2).f4) _ _ A6.1).mono ?_); rintro e w10 ⟨rfl, hb⟩; refine ⟨_, rfl, ?_⟩; replace BK3 := ak (blk_below (g := gb3) (o := .cells #[.int .i64 ((rd_T103 l0 x0_2).f0), .int .i64 ((rd_T103 l0 x0_2).f1), .int .i64 ((rd_T103 l0 x0_2).f2), .int .i64 ((rd_T103 l0 x0_2).f3), .int .i64 ((rd_T103 l0 x0_2).f4)] 103 (0, 0)) (vz BK3.1) hb); replace HB := bs HB hb; (try clear hb)))
        go_roundg k1
        case measure => have := HK1.1; omega
        case rel => exact ⟨(wrap64 (x0_2 + 1)), es, H', ⟨by have := HK1.1; omega⟩, ⟨vb HB.1⟩⟩
       ·replace c7 := Bool.eq_false_iff.mpr c7; subst c7; rw [if_neg nf] at H; obtain rfl := sj H; have p1 : 0 ≤ (x0_2 : Int) := od; have q1 : x0_2 < (l0.length : Int) := od; obtain ⟨ad1, e1, hx1_5, hx1_2, hx1_6, hx1_7, hx1_8⟩ := at_T103 HR0.1 x0_2 p1 q1
        cases e1; replace hx1_5 := cb HB.1 hx1_5; replace hx1_2 := cb HB.1 hx1_2; replace hx1_6 := cb HB.1 hx1_6; replace hx1_7 := cb HB.1 hx1_7; replace hx1_8 := cb HB.1 hx1_8; replace p1 := eq_true p1; replace q1 := eq_true q1; go_wp2_with (first | ((with_reducible refine gate_dst (N := 4) rfl ?_); refine bx 4 #[.int .i64 0, .int .i64 0, .int .i64 0, .int .i64 0, .int .i64 0] 103 ?_; intro gb3 hg w11 hbox hb; have BK3 := ak hbox; have GW319 := gw hg HB; have GE3 := gw hg HB; replace HB := bs HB hb; clear hb hbox hg; have hcz11 := cz5 BK3.1) | ((with_reducible refine at_fn (f := 123) rfl ?_); refine gl (some 15) Try.func123 #[.agg #[.int .i64 ((rd_T103 l0 x0_2).f0), .int .i64 ((rd_T103 l0 x0_2).f1), .int .i64 ((rd_T103 l0 x0_2).f2), .int .i64 ((rd_T103 l0 x0_2).f3), .int .i64 ((rd_T103 l0 x0_2).f4)]] ?_; (with_reducible refine (impl_IsArea.calls ((rd_T103 l0 x0_2).f0) ((rd_T103 l0 x0_2).f1) ((rd_T103 l0 x0_2).f2) ((rd_T103 l0 x0_2).f3) ((rd_T103 l0 x0_2).f4) _ _ A6.1).mono ?_); rintro e w13 ⟨rfl, hb⟩; refine ⟨_, rfl, ?_⟩; replace BK3 := ak (blk_below (g := gb3) (o := .cells #[.int .i64 ((rd_T103 l0 x0_2).f0), .int .i64 ((rd_T103 l0 x0_2).f1), .int .i64 ((rd_T103 l0 x0_2).f2), .int .i64 ((rd_T103 l0 x0_2).f3), .int .i64 ((rd_T103 l0 x0_2).f4)] 103 (0, 0)) (vz BK3.1) hb); replace HB := bs HB hb; (try clear hb)))
        go_ret
        exact ⟨ew, vb HB.1⟩
      ·exact nO_ c5 H
     ·exact nO_ c4 H
    ·rw [if_neg c3] at H; have c3b0 := decide_eq_false c3; clear c3; obtain rfl := sj H; go_wp2
     go_ret
     exact ⟨ew, vb HB.1⟩


/-! ### impl_allWithin: function 84 -/
def impl_allWithin.l0 : Nat → Int → Int → List Int → Int → Int → Option (Bool)
 | 0, _, _, _, _, _ => none
 | k + 1, x2, x5, x3, x6, x0 => if x0 < x6 then (if 0 ≤ x0 then (if x0 < (x3.length : Int) then ((impl_within.f (rd x3 x0) x2 x5).bind fun t4 => (if t4 = true then (impl_allWithin.l0 k x2 x5 x3 x6 (wrap64 (x0 + 1))) else (some false))) else (none)) else (none)) else (some true)
def impl_allWithin.f (k : Nat) (l0 : List Int) (a1 : Int) (a2 : Int) : Option (Bool) := impl_allWithin.l0 k a1 a2 l0 (l0.length : Int) 0
set_option maxHeartbeats 8000000 in
set_option maxRecDepth 100000 in
theorem impl_allWithin.calls (k : Nat) (A0 : Option Addr) (c0 : Nat) (l0 : List Int) (a1 : Int) (a2 : Int) (r : Bool) (w : World) (hr0 : Kd.C (Kd.int .i64) w A0 l0.length l0) (hc0 : l0.length ≤ c0) (h : impl_allWithin.f k l0 a1 a2 = some r) :
  Calls Try.prog 84 #[.slice A0 l0.length c0, .int .i64 a1, .int .i64 a2] w fun e w' => e = .returned (.bool r) ∧ Drawn0 w w' := by
 have HR0 := ak hr0; have HC0 := ak hc0; clear hr0 hc0; unfold impl_allWithin.f at h; have H := h; clear h; have H' := ak H; clear H; go_enter Try.func84, Try.ntmps84; go_wp2
 go_loopg [11] k (fun kq v0 w' => ∃ (x0_2 : Int), v0 = .int .i64 x0_2 ∧ Aside0 (impl_allWithin.l0 kq a1 a2 l0 (l0.length : Int) x0_2 = some r) ∧ Aside0 (kq ≤ k) ∧ Drawn0 w w')
 case atStart => exact ⟨(0), es, H', ⟨Nat.le_refl _⟩, by repeat (first | exact Drawn0.refl _ | apply Drawn0.step)⟩
 case round =>
  clear H'; obtain ⟨x0_2, rfl, HA, HK1, ⟨m2, rfl⟩⟩ := hrel
  cases gk with
  | zero => exact absurd HA.1 (by simp [impl_allWithin.l0])
  | succ k1 =>
   have H := HA.1; clear HA; simp only [impl_allWithin.l0] at H
   by_cases c4 : x0_2 < (l0.length : Int)
   ·rw [if_pos c4] at H; have c4b0 := decide_eq_true c4; clear c4; by_cases c5 : 0 ≤ x0_2
    ·rw [if_pos c5] at H; have c5b0 := decide_eq_true c5; clear c5; by_cases c6 : x0_2 < (l0.length : Int)
     ·rw [if_pos c6] at H; have c6b0 := decide_eq_true c6; clear c6; obtain ⟨t4, A7, H⟩ := bnk H; by_cases c8 : t4 = true
      ·subst c8; rw [if_pos rfl] at H; have H' := ak H; clear H; have p1 : 0 ≤ (x0_2 : Int) := od; have q1 : x0_2 < (l0.length : Int) := od; obtain ⟨ad1, e1, hx1_7⟩ := Kd.at_int HR0.1 x0_2 p1 q1
       cases e1; replace p1 := eq_true p1; replace q1 := eq_true q1; go_wp2_with (first | ((with_reducible refine at_fn (f := 85) rfl ?_); refine gl (some 18) Try.func85 #[.int .i64 (rd l0 x0_2), .int .i64 a1, .int .i64 a2] ?_; (with_reducible refine (impl_within.calls (rd l0 x0_2) a1 a2 _ _ A7.1).mono ?_); rintro e w' ⟨rfl, ⟨nd, rfl⟩⟩; refine ⟨_, rfl, ?_⟩))
       go_roundg k1
       case measure => have := HK1.1; omega
       case rel => exact ⟨(wrap64 (x0_2 + 1)), es, H', ⟨by have := HK1.1; omega⟩, by repeat (first | exact Drawn0.refl _ | apply Drawn0.step)⟩
      ·replace c8 := Bool.eq_false_iff.mpr c8; subst c8; rw [if_neg nf] at H; obtain rfl := sj H; have p1 : 0 ≤ (x0_2 : Int) := od; have q1 : x0_2 < (l0.length : Int) := od; obtain ⟨ad1, e1, hx1_7⟩ := Kd.at_int HR0.1 x0_2 p1 q1
       cases e1; replace p1 := eq_true p1; replace q1 := eq_true q1; go_wp2_with (first | ((with_reducible refine at_fn (f := 85) rfl ?_); refine gl (some 18) Try.func85 #[.int .i64 (rd l0 x0_2), .int .i64 a1, .int .i64 a2] ?_; (with_reducible refine (impl_within.calls (rd l0 x0_2) a1 a2 _ _ A7.1).mono ?_); rintro e w' ⟨rfl, ⟨nd, rfl⟩⟩; refine ⟨_, rfl, ?_⟩))
       go_ret
       exact ⟨by first | rfl | (simp; done) | (simp [*]; done), by repeat (first | exact Drawn0.refl _ | apply Drawn0.step)⟩
     ·exact nO_ c6 H
    ·exact nO_ c5 H
   ·rw [if_neg c4] at H; have c4b0 := decide_eq_false c4; clear c4; obtain rfl := sj H; go_wp2
    go_ret
    exact ⟨by first | rfl | (simp; done) | (simp [*]; done), by repeat (first | exact Drawn0.refl _ | apply Drawn0.step)⟩


/-! ### impl_IsField: function 37 -/
def impl_IsField.f (k : Nat) (l0_0 : List (S98)) (l0_1 : List (S103)) (l0_2 : List Int) (l0_3 : List Int) (l0_4 : List Int) (a0_5 : Int) : Option (Bool) := (impl_IsTable.f k l0_0).bind fun t1 => (if t1 = true then ((impl_IsSite.f k l0_1).bind fun t2 => (if t2 = true then (if (l0_2.length : Int) ≤ 4 then ((impl_allWithin.f k l0_2 20 300).bind fun t3 => (if t3 = true then (if (l0_3.length : Int) ≤ 7 then (if (l0_4.length : Int) = (l0_3.length : Int) then ((impl_allWithin.f k l0_3 0 100000).bind fun t4 => (if t4 = true then ((impl_allWithin.f k l0_4 0 100000).bind fun t5 => (if t5 = true then ((impl_within.f a0_5 0 10000).bind fun t6 => (some t6)) else (some false))) else (some false))) else (some false)) else (some false)) else (some false))) else (some false)) else (some false))) else (some false))
set_option maxHeartbeats 8000000 in
set_option maxRecDepth 100000 in
theorem impl_IsField.calls (k : Nat) (A0_0 : Option Addr) (c0_0 : Nat) (l0_0 : List (S98)) (A0_1 : Option Addr) (c0_1 : Nat) (l0_1 : List (S103)) (A0_2 : Option Addr) (c0_2 : Nat) (l0_2 : List Int) (A0_3 : Option Addr) (c0_3 : Nat) (l0_3 : List Int) (A0_4 : Option Addr) (c0_4 : Nat) (l0_4 : List Int) (a0_5 : Int) (r : Bool) (w : World) (hr0_0 : Kd.C k98 w A0_0 l0_0.length l0_0) (hc0_0 : l0_0.length ≤ c0_0) (hr0_1 : Kd.C k103 w A0_1 l0_1.length l0_1) (hc0_1 : l0_1.length ≤ c0_1) (hr0_2 : Kd.C (Kd.int .i64) w A0_2 l0_2.length l0_2) (hc0_2 : l0_2.length ≤ c0_2) (hr0_3 : Kd.C (Kd.int .i64) w A0_3 l0_3.length l0_3) (hc0_3 : l0_3.length ≤ c0_3) (hr0_4 : Kd.C (Kd.int .i64) w A0_4 l0_4.length l0_4) (hc0_4 : l0_4.length ≤ c0_4) (h : impl_IsField.f k l0_0 l0_1 l0_2 l0_3 l0_4 a0_5 = some r) :
  Calls Try.prog 37 #[.agg (f5 A0_0 l0_0 c0_0 A0_1 l0_1 c0_1 A0_2 l0_2 c0_2 A0_3 l0_3 c0_3 A0_4 l0_4 c0_4 a0_5)] w fun e w' => e = .returned (.bool r) ∧ Below w.heap.size w w' := by
 have hu33 := Try.underlying33; have HR0_0 := ak hr0_0; have HC0_0 := ak hc0_0; clear hr0_0 hc0_0; have HR0_1 := ak hr0_1; have HC0_1 := ak hc0_1; clear hr0_1 hc0_1; have HR0_2 := ak hr0_2; have HC0_2 := ak hc0_2; clear hr0_2 hc0_2; have HR0_3 := ak hr0_3; have HC0_3 := ak hc0_3; clear hr0_3 hc0_3; have HR0_4 := ak hr0_4; have HC0_4 := ak hc0_4; clear hr0_4 hc0_4; have HB := ak (Below.refl w.heap.size w); unfold impl_IsField.f at h; have H := h; clear h; obtain ⟨t1, A2, H⟩ := bnk H
 by_cases c3 : t1 = true
 subst c3; rw [if_pos rfl] at H; obtain ⟨t2, A4, H⟩ := bnk H; by_cases c5 : t2 = true
 subst c5; rw [if_pos rfl] at H; by_cases c6 : (l0_2.length : Int) ≤ 4
 rw [if_pos c6] at H; have c6b0 := decide_eq_true c6; have c6b1 : decide (l0_2.length ≤ 4) = true := decide_eq_true (by omega); clear c6; obtain ⟨t3, A7, H⟩ := bnk H; by_cases c8 : t3 = true
 subst c8; rw [if_pos rfl] at H; by_cases c9 : (l0_3.length : Int) ≤ 7
 rw [if_pos c9] at H; have c9b0 := decide_eq_true c9; have c9b1 : decide (l0_3.length ≤ 7) = true := decide_eq_true (by omega); clear c9; by_cases c10 : (l0_4.length : Int) = (l0_3.length : Int)
 rw [if_pos c10] at H; obtain ⟨c10b0, c10b1⟩ := bqt c10; have c10b2 : (l0_4.length == l0_3.length) = true := by first | simpa using c10 | (simp at c10 ⊢; omega)
 clear c10; obtain ⟨t4, A11, H⟩ := bnk H; by_cases c12 : t4 = true
 subst c12; rw [if_pos rfl] at H; obtain ⟨t5, A13, H⟩ := bnk H; by_cases c14 : t5 = true
 subst c14; rw [if_pos rfl] at H; obtain ⟨t6, A15, H⟩ := bnk H; obtain rfl := sj H; rotate_left
 replace c14 := Bool.eq_false_iff.mpr c14; subst c14; rw [if_neg nf] at H; obtain rfl := sj H; rotate_left
 replace c12 := Bool.eq_false_iff.mpr c12; subst c12; rw [if_neg nf] at H; obtain rfl := sj H; rotate_left
 rw [if_neg c10] at H; obtain ⟨c10b0, c10b1⟩ := bqf c10; have c10b2 : (l0_4.length == l0_3.length) = false := by first | simpa using c10 | (simp at c10 ⊢; omega)
 obtain rfl := sj H; rotate_left
 rw [if_neg c9] at H; have c9b0 := decide_eq_false c9; have c9b1 : decide (l0_3.length ≤ 7) = false := decide_eq_false (by omega); clear c9; obtain rfl := sj H; rotate_left
 replace c8 := Bool.eq_false_iff.mpr c8; subst c8; rw [if_neg nf] at H; obtain rfl := sj H; rotate_left
 rw [if_neg c6] at H; have c6b0 := decide_eq_false c6; have c6b1 : decide (l0_2.length ≤ 4) = false := decide_eq_false (by omega); clear c6; obtain rfl := sj H; rotate_left
 replace c5 := Bool.eq_false_iff.mpr c5; subst c5; rw [if_neg nf] at H; obtain rfl := sj H; rotate_left
 replace c3 := Bool.eq_false_iff.mpr c3; subst c3; rw [if_neg nf] at H; obtain rfl := sj H; rotate_left
 all_goals
  go_enter Try.func37, Try.ntmps37; go_wp2_with (first | ((with_reducible refine gate_dst (N := 1) rfl ?_); (try (refine gate_guard (by rfl) ?_; dsimp only)); refine bx 1 (f5 A0_0 l0_0 c0_0 A0_1 l0_1 c0_1 A0_2 l0_2 c0_2 A0_3 l0_3 c0_3 A0_4 l0_4 c0_4 a0_5) 33 ?_; intro gb0 hg w9 hbox hb; have BK0 := ak hbox; have GW323 := gw hg HB; have GE0 := gw hg HB; replace HB := bs HB hb; clear hb hbox hg; have hcz7 := cz6 BK0.1) | ((with_reducible refine at_fn (f := 82) rfl ?_); refine gl (some 5) Try.func82 #[.slice A0_0 l0_0.length c0_0] ?_; (with_reducible refine (impl_IsTable.calls k _ _ l0_0 _ _ ?_ HC0_0.1 A2.1).mono ?_); exact vd HR0_0.1 HB.1; rintro e w9 ⟨rfl, hb⟩; refine ⟨_, rfl, ?_⟩; replace BK0 := kb BK0 hb; replace HB := bs HB hb; (try clear hb); have hcz7 := cz6 BK0.1) | (go_at_call 83; (with_reducible refine (impl_IsSite.calls k _ _ l0_1 _ _ ?_ HC0_1.1 A4.1).mono ?_); exact vd HR0_1.1 HB.1; rintro e w9 ⟨rfl, hb⟩; replace BK0 := kb BK0 hb; replace HB := bs HB hb; (try clear hb); have hcz7 := cz6 BK0.1) | (go_at_call 84; (with_reducible refine (impl_allWithin.calls k _ _ l0_2 20 300 _ _ ?_ HC0_2.1 A7.1).mono ?_); exact vd HR0_2.1 HB.1; rintro e w' ⟨rfl, ⟨nd, rfl⟩⟩) | (go_at_call 84; (with_reducible refine (impl_allWithin.calls k _ _ l0_3 0 100000 _ _ ?_ HC0_3.1 A11.1).mono ?_); exact vd HR0_3.1 (vb HB.1); rintro e w' ⟨rfl, ⟨nd, rfl⟩⟩) | (go_at_call 84; (with_reducible refine (impl_allWithin.calls k _ _ l0_4 0 100000 _ _ ?_ HC0_4.1 A13.1).mono ?_); exact vd HR0_4.1 (vb HB.1); rintro e w' ⟨rfl, ⟨nd, rfl⟩⟩) | (go_at_call 85; (with_reducible refine (impl_within.calls a0_5 0 10000 t6 _ A15.1).mono ?_); rintro e w' ⟨rfl, ⟨nd, rfl⟩⟩))
  go_ret
  exact ⟨ew, vb HB.1⟩


end Go.Proofs.Ytancnecddlbhkaa.Pall
