/- Go functions of the program, each as a Lean function, and the proof that each call comes to what the Lean function tells; no condition beyond those that stand there. -/
import Derived.Test.YtancnecddlbhkaaF00
import Derived.Test.YtancnecddlbhkaaSq
import Derived.Test.YtancnecddlbhkaaWGuard
import Derived.Test.YtancnecddlbhkaaWLast
import Derived.Test.YtancnecddlbhkaaWTab
import Derived.Test.YtancnecddlbhkaaSpare
import Derived.Test.YtancnecddlbhkaaCm
import Derived.Test.YtancnecddlbhkaaCm3
import Derived.Test.YtancnecddlbhkaaCm6
import Derived.StillTailTactics
import Derived.IntWalk
import Derived.Lib.Hide
namespace Go.Proofs.Ytancnecddlbhkaa.Pall
open Go.RowKit Go.Proofs.YtancnecddlbhkaaW.PrintWords Go.Proofs.YtancnecddlbhkaaW.PrintLast
set_option linter.unusedVariables false
set_option linter.unusedSimpArgs false

/-! ### laws_szDemandS: function 55 -/
def laws_szDemandS.f (l0 : List (S100)) (a1 : Int) : Option (Int) := if (wrap64 (a1 - (l0.length : Int))) < 0 then (some (-1)) else (some (wrap64 (a1 - (l0.length : Int))))
set_option maxHeartbeats 8000000 in
set_option maxRecDepth 100000 in
theorem laws_szDemandS.calls (A0 : Option Addr) (c0 : Nat) (l0 : List (S100)) (a1 : Int) (r : Int) (w : World) (hr0 : Kd.C k100 w A0 l0.length l0) (hc0 : l0.length ≤ c0) (h : laws_szDemandS.f l0 a1 = some r) :
  Calls Try.prog 55 #[.slice A0 l0.length c0, .int .i64 a1] w fun e w' => e = .returned (.int .i64 r) ∧ Drawn0 w w' := by
 have HR0 := ak hr0; have HC0 := ak hc0; clear hr0 hc0; unfold laws_szDemandS.f at h; have H := h; clear h; by_cases c3 : (wrap64 (a1 - (l0.length : Int))) < 0
 rw [if_pos c3] at H; have c3b0 := decide_eq_true c3; clear c3; obtain rfl := sj H; rotate_left
 rw [if_neg c3] at H; have c3b0 := decide_eq_false c3; clear c3; obtain rfl := sj H; rotate_left
 all_goals
  go_enter Try.func55, Try.ntmps55; go_wp2
  go_ret
  exact ⟨by first | rfl | (simp; done) | (simp [*]; done), by repeat (first | exact Drawn0.refl _ | apply Drawn0.step)⟩


/-! ### laws_szAreaS: function 56 -/
def laws_szAreaS.f (l0 : List (S105)) (a1 : Int) : Option (Int) := if (wrap64 (a1 - (l0.length : Int))) < 0 then (some (-1)) else (some (wrap64 (a1 - (l0.length : Int))))
set_option maxHeartbeats 8000000 in
set_option maxRecDepth 100000 in
theorem laws_szAreaS.calls (A0 : Option Addr) (c0 : Nat) (l0 : List (S105)) (a1 : Int) (r : Int) (w : World) (hr0 : Kd.C k105 w A0 l0.length l0) (hc0 : l0.length ≤ c0) (h : laws_szAreaS.f l0 a1 = some r) :
  Calls Try.prog 56 #[.slice A0 l0.length c0, .int .i64 a1] w fun e w' => e = .returned (.int .i64 r) ∧ Drawn0 w w' := by
 have HR0 := ak hr0; have HC0 := ak hc0; clear hr0 hc0; unfold laws_szAreaS.f at h; have H := h; clear h; by_cases c3 : (wrap64 (a1 - (l0.length : Int))) < 0
 rw [if_pos c3] at H; have c3b0 := decide_eq_true c3; clear c3; obtain rfl := sj H; rotate_left
 rw [if_neg c3] at H; have c3b0 := decide_eq_false c3; clear c3; obtain rfl := sj H; rotate_left
 all_goals
  go_enter Try.func56, Try.ntmps56; go_wp2
  go_ret
  exact ⟨by first | rfl | (simp; done) | (simp [*]; done), by repeat (first | exact Drawn0.refl _ | apply Drawn0.step)⟩


/-! ### laws_szInt64S: function 57 -/
def laws_szInt64S.f (l0 : List Int) (a1 : Int) : Option (Int) := if (wrap64 (a1 - (l0.length : Int))) < 0 then (some (-1)) else (some (wrap64 (a1 - (l0.length : Int))))
set_option maxHeartbeats 8000000 in
set_option maxRecDepth 100000 in
theorem laws_szInt64S.calls (A0 : Option Addr) (c0 : Nat) (l0 : List Int) (a1 : Int) (r : Int) (w : World) (hr0 : Kd.C (Kd.int .i64) w A0 l0.length l0) (hc0 : l0.length ≤ c0) (h : laws_szInt64S.f l0 a1 = some r) :
  Calls Try.prog 57 #[.slice A0 l0.length c0, .int .i64 a1] w fun e w' => e = .returned (.int .i64 r) ∧ Drawn0 w w' := by
 have HR0 := ak hr0; have HC0 := ak hc0; clear hr0 hc0; unfold laws_szInt64S.f at h; have H := h; clear h; by_cases c3 : (wrap64 (a1 - (l0.length : Int))) < 0
 rw [if_pos c3] at H; have c3b0 := decide_eq_true c3; clear c3; obtain rfl := sj H; rotate_left
 rw [if_neg c3] at H; have c3b0 := decide_eq_false c3; clear c3; obtain rfl := sj H; rotate_left
 all_goals
  go_enter Try.func57, Try.ntmps57; go_wp2
  go_ret
  exact ⟨by first | rfl | (simp; done) | (simp [*]; done), by repeat (first | exact Drawn0.refl _ | apply Drawn0.step)⟩


/-! ### laws_szField: function 15 -/
def laws_szField.f (l0_0 : List (S100)) (l0_1 : List (S105)) (l0_2 : List Int) (l0_3 : List Int) (l0_4 : List Int) (a0_5 : Int) (a1 : Int) : Option (Int) := (laws_szDemandS.f l0_0 a1).bind fun t102 => (if t102 < 0 then (some (-1)) else ((laws_szAreaS.f l0_1 t102).bind fun t103 => (if t103 < 0 then (some (-1)) else ((laws_szInt64S.f l0_2 t103).bind fun t104 => (if t104 < 0 then (some (-1)) else ((laws_szInt64S.f l0_3 t104).bind fun t105 => (if t105 < 0 then (some (-1)) else ((laws_szInt64S.f l0_4 t105).bind fun t106 => (if t106 < 0 then (some (-1)) else (some t106))))))))))
set_option maxHeartbeats 8000000 in
set_option maxRecDepth 100000 in
theorem laws_szField.calls (A0_0 : Option Addr) (c0_0 : Nat) (l0_0 : List (S100)) (A0_1 : Option Addr) (c0_1 : Nat) (l0_1 : List (S105)) (A0_2 : Option Addr) (c0_2 : Nat) (l0_2 : List Int) (A0_3 : Option Addr) (c0_3 : Nat) (l0_3 : List Int) (A0_4 : Option Addr) (c0_4 : Nat) (l0_4 : List Int) (a0_5 : Int) (a1 : Int) (r : Int) (w : World) (hr0_0 : Kd.C k100 w A0_0 l0_0.length l0_0) (hc0_0 : l0_0.length ≤ c0_0) (hr0_1 : Kd.C k105 w A0_1 l0_1.length l0_1) (hc0_1 : l0_1.length ≤ c0_1) (hr0_2 : Kd.C (Kd.int .i64) w A0_2 l0_2.length l0_2) (hc0_2 : l0_2.length ≤ c0_2) (hr0_3 : Kd.C (Kd.int .i64) w A0_3 l0_3.length l0_3) (hc0_3 : l0_3.length ≤ c0_3) (hr0_4 : Kd.C (Kd.int .i64) w A0_4 l0_4.length l0_4) (hc0_4 : l0_4.length ≤ c0_4) (h : laws_szField.f l0_0 l0_1 l0_2 l0_3 l0_4 a0_5 a1 = some r) :
  Calls Try.prog 15 #[.agg (f5 A0_0 l0_0 c0_0 A0_1 l0_1 c0_1 A0_2 l0_2 c0_2 A0_3 l0_3 c0_3 A0_4 l0_4 c0_4 a0_5), .int .i64 a1] w fun e w' => e = .returned (.int .i64 r) ∧ Below w.heap.size w w' := by
 have hu26 := Try.underlying26; have HR0_0 := ak hr0_0; have HC0_0 := ak hc0_0; clear hr0_0 hc0_0; have HR0_1 := ak hr0_1; have HC0_1 := ak hc0_1; clear hr0_1 hc0_1; have HR0_2 := ak hr0_2; have HC0_2 := ak hc0_2; clear hr0_2 hc0_2; have HR0_3 := ak hr0_3; have HC0_3 := ak hc0_3; clear hr0_3 hc0_3; have HR0_4 := ak hr0_4; have HC0_4 := ak hc0_4; clear hr0_4 hc0_4; have HB := ak (Below.refl w.heap.size w); unfold laws_szField.f at h; have H := h; clear h; obtain ⟨t102, A3, H⟩ := bnk H; by_cases c4 : t102 < 0
 rw [if_pos c4] at H; have c4b0 := decide_eq_true c4; clear c4; obtain rfl := sj H; rotate_left
 rw [if_neg c4] at H; have c4b0 := decide_eq_false c4; clear c4; obtain ⟨t103, A7, H⟩ := bnk H; by_cases c8 : t103 < 0
 rw [if_pos c8] at H; have c8b0 := decide_eq_true c8; clear c8; obtain rfl := sj H; rotate_left
 rw [if_neg c8] at H; have c8b0 := decide_eq_false c8; clear c8; obtain ⟨t104, A11, H⟩ := bnk H; by_cases c12 : t104 < 0
 rw [if_pos c12] at H; have c12b0 := decide_eq_true c12; clear c12; obtain rfl := sj H; rotate_left
 rw [if_neg c12] at H; have c12b0 := decide_eq_false c12; clear c12; obtain ⟨t105, A15, H⟩ := bnk H; by_cases c16 : t105 < 0
 rw [if_pos c16] at H; have c16b0 := decide_eq_true c16; clear c16; obtain rfl := sj H; rotate_left
 rw [if_neg c16] at H; have c16b0 := decide_eq_false c16; clear c16; obtain ⟨t106, A19, H⟩ := bnk H; by_cases c20 : t106 < 0
 rw [if_pos c20] at H; have c20b0 := decide_eq_true c20; clear c20; obtain rfl := sj H; rotate_left
 rw [if_neg c20] at H; have c20b0 := decide_eq_false c20; clear c20; obtain rfl := sj H; rotate_left
 all_goals
  go_enter Try.func15, Try.ntmps15; go_wp2_with (first | ((with_reducible refine gate_dst (N := 2) rfl ?_); refine bx 2 (f5 A0_0 l0_0 c0_0 A0_1 l0_1 c0_1 A0_2 l0_2 c0_2 A0_3 l0_3 c0_3 A0_4 l0_4 c0_4 a0_5) 26 ?_; intro gb101 hg w9 hbox hb; have BK101 := ak hbox; have GW101 := gw hg HB; have GE101 := gw hg HB; replace HB := bs HB hb; clear hb hbox hg; have hcz9 := cz6 BK101.out) | ((with_reducible refine at_fn (f := 55) rfl ?_); refine gl (some 8) Try.func55 #[.slice A0_0 l0_0.length c0_0, .int .i64 a1] ?_; (with_reducible refine (laws_szDemandS.calls _ _ l0_0 a1 t102 _ ?_ HC0_0.out A3.out).mono ?_); exact vd HR0_0.out HB.out; rintro e w' ⟨rfl, ⟨nd, rfl⟩⟩; refine ⟨_, rfl, ?_⟩) | ((with_reducible refine at_fn (f := 56) rfl ?_); refine gl (some 14) Try.func56 #[.slice A0_1 l0_1.length c0_1, .int .i64 t102] ?_; (with_reducible refine (laws_szAreaS.calls _ _ l0_1 t102 t103 _ ?_ HC0_1.out A7.out).mono ?_); exact vd HR0_1.out (vb HB.out); rintro e w' ⟨rfl, ⟨nd, rfl⟩⟩; refine ⟨_, rfl, ?_⟩) | ((with_reducible refine at_fn (f := 57) rfl ?_); refine gl (some 20) Try.func57 #[.slice A0_2 l0_2.length c0_2, .int .i64 t103] ?_; (with_reducible refine (laws_szInt64S.calls _ _ l0_2 t103 t104 _ ?_ HC0_2.out A11.out).mono ?_); exact vd HR0_2.out (vb HB.out); rintro e w' ⟨rfl, ⟨nd, rfl⟩⟩; refine ⟨_, rfl, ?_⟩) | ((with_reducible refine at_fn (f := 57) rfl ?_); refine gl (some 26) Try.func57 #[.slice A0_3 l0_3.length c0_3, .int .i64 t104] ?_; (with_reducible refine (laws_szInt64S.calls _ _ l0_3 t104 t105 _ ?_ HC0_3.out A15.out).mono ?_); exact vd HR0_3.out (vb HB.out); rintro e w' ⟨rfl, ⟨nd, rfl⟩⟩; refine ⟨_, rfl, ?_⟩) | ((with_reducible refine at_fn (f := 57) rfl ?_); refine gl (some 32) Try.func57 #[.slice A0_4 l0_4.length c0_4, .int .i64 t105] ?_; (with_reducible refine (laws_szInt64S.calls _ _ l0_4 t105 t106 _ ?_ HC0_4.out A19.out).mono ?_); exact vd HR0_4.out (vb HB.out); rintro e w' ⟨rfl, ⟨nd, rfl⟩⟩; refine ⟨_, rfl, ?_⟩))
  go_ret
  exact ⟨ew, vb HB.out⟩


/-! ### laws_roomBehind: function 73 -/
def laws_roomBehind.f (a0 : Int) : Option (Int) := if (Int.tmod a0 6) = 5 then (some 0) else (if (Int.tmod a0 3) = 0 then (some 1) else (some a0))
set_option maxHeartbeats 8000000 in
set_option maxRecDepth 100000 in
theorem laws_roomBehind.calls (a0 : Int) (r : Int) (w : World) (h : laws_roomBehind.f a0 = some r) :
  Calls Try.prog 73 #[.int .i64 a0] w fun e w' => e = .returned (.int .i64 r) ∧ Drawn0 w w' := by
 unfold laws_roomBehind.f at h; have H := h; clear h; by_cases c2 : (Int.tmod a0 6) = 5
 rw [if_pos c2] at H; obtain ⟨c2b0, c2b1⟩ := bqt c2; clear c2; obtain rfl := sj H; rotate_left
 rw [if_neg c2] at H; obtain ⟨c2b0, c2b1⟩ := bqf c2; by_cases c3 : (Int.tmod a0 3) = 0
 rw [if_pos c3] at H; obtain ⟨c3b0, c3b1⟩ := bqt c3; clear c3; obtain rfl := sj H; rotate_left
 rw [if_neg c3] at H; obtain ⟨c3b0, c3b1⟩ := bqf c3; obtain rfl := sj H; rotate_left
 all_goals
  go_enter Try.func73, Try.ntmps73; go_wp2
  go_ret
  exact ⟨by first | rfl | (simp; done) | (simp [*]; done), by repeat (first | exact Drawn0.refl _ | apply Drawn0.step)⟩
theorem room_f (n : Nat) : laws_roomBehind.f (n : Int) = some ((roomN n : Nat) : Int) := by
 have h6 : Int.tmod (n : Int) 6 = ((n % 6 : Nat) : Int) := (Int.ofNat_tmod n 6).symm; have h3 : Int.tmod (n : Int) 3 = ((n % 3 : Nat) : Int) := (Int.ofNat_tmod n 3).symm; unfold laws_roomBehind.f roomN
 rw [h6, h3]; by_cases a : n % 6 = 5
 ·rw [if_pos (by omega), if_pos a]; rfl
 ·rw [if_neg (by omega), if_neg a]; by_cases b : n % 3 = 0
  ·rw [if_pos (by omega), if_pos b]; rfl
  ·rw [if_neg (by omega), if_neg b]


/-! ### laws_toInt64S: function 27 -/
mutual
def laws_toInt64Sg.j0 : Nat → List Int → Bool → Option (List Int)
 | 0, _, _ => none
 | k + 1, x0, x13 => if x13 = true then (some ([] : List Int)) else ((laws_roomBehind.f (x0.length : Int)).bind fun t230 => (if 0 ≤ (wrap64 ((x0.length : Int) + t230)) then (if (wrap64 ((x0.length : Int) + t230) : Int).toNat ≤ 35184372088832 then (laws_toInt64Sg.l0 k x0 (List.replicate (wrap64 ((x0.length : Int) + t230) : Int).toNat 0) 0) else (none)) else (none)))
def laws_toInt64Sg.l0 : Nat → List Int → List Int → Int → Option (List Int)
 | 0, _, _, _ => none
 | k + 1, x0, x5, x6 => if x6 < (x0.length : Int) then (if 0 ≤ x6 then (if x6 < (x5.length : Int) then (laws_toInt64Sg.l0 k x0 (x5.set (x6 : Int).toNat (rd x0 x6)) (wrap64 (x6 + 1))) else (none)) else (none)) else (laws_toInt64Sg.l1 k x0 x5 (x0.length : Int))
def laws_toInt64Sg.l1 : Nat → List Int → List Int → Int → Option (List Int)
 | 0, _, _, _ => none
 | k + 1, x0, x5, x7 => if x7 < (x5.length : Int) then (if 0 ≤ x7 then (laws_toInt64Sg.l1 k x0 (x5.set (x7 : Int).toNat (-7000000000000000101)) (wrap64 (x7 + 1))) else (none)) else (if 0 ≤ (x0.length : Int) then (if (x0.length : Int) ≤ (x5.length : Int) then (some x5) else (none)) else (none))
end
def laws_toInt64Sg.f (k : Nat) (l0 : List Int) (a1 : Bool) : Option (List Int) := if a1 = true then (laws_toInt64Sg.j0 k l0 ((l0.length : Int) == 0)) else (laws_toInt64Sg.j0 k l0 false)
theorem laws_toInt64Sg.mono_l : ∀ k, (∀ y0 y1, LeO (laws_toInt64Sg.j0 k y0 y1) (laws_toInt64Sg.j0 (k + 1) y0 y1)) ∧ (∀ y0 y1 y2, LeO (laws_toInt64Sg.l0 k y0 y1 y2) (laws_toInt64Sg.l0 (k + 1) y0 y1 y2)) ∧ (∀ y0 y1 y2, LeO (laws_toInt64Sg.l1 k y0 y1 y2) (laws_toInt64Sg.l1 (k + 1) y0 y1 y2))
 | 0 => ⟨fun _ _ r h => by simp [laws_toInt64Sg.j0] at h, fun _ _ _ r h => by simp [laws_toInt64Sg.l0] at h, fun _ _ _ r h => by simp [laws_toInt64Sg.l1] at h⟩
 | k + 1 => by
  obtain ⟨ih0, ih1, ih2⟩ := laws_toInt64Sg.mono_l k; refine ⟨?_, ?_, ?_⟩
  ·intro y0 y1; unfold laws_toInt64Sg.j0
   repeat' (with_reducible first | exact ih0 .. | exact ih1 .. | exact ih2 .. | exact lm | refine LeO.ite ?_ ?_ | refine LeO.bind ?_ (fun _ => ?_))
  ·intro y0 y1 y2; unfold laws_toInt64Sg.l0
   repeat' (with_reducible first | exact ih0 .. | exact ih1 .. | exact ih2 .. | exact lm | refine LeO.ite ?_ ?_ | refine LeO.bind ?_ (fun _ => ?_))
  ·intro y0 y1 y2; unfold laws_toInt64Sg.l1
   repeat' (with_reducible first | exact ih0 .. | exact ih1 .. | exact ih2 .. | exact lm | refine LeO.ite ?_ ?_ | refine LeO.bind ?_ (fun _ => ?_))
theorem laws_toInt64Sg.mono : ∀ a0 a1 k, LeO (laws_toInt64Sg.f k a0 a1) (laws_toInt64Sg.f (k + 1) a0 a1) := by
 intro a0 a1 k; obtain ⟨ih0, ih1, ih2⟩ := laws_toInt64Sg.mono_l k; unfold laws_toInt64Sg.f
 repeat' (with_reducible first | exact ih0 .. | exact ih1 .. | exact ih2 .. | exact lm | refine LeO.ite ?_ ?_ | refine LeO.bind ?_ (fun _ => ?_))
set_option maxHeartbeats 8000000 in
set_option maxRecDepth 100000 in
theorem laws_toInt64Sg.calls (k : Nat) (A0 : Option Addr) (c0 : Nat) (l0 : List Int) (a1 : Bool) (r : List Int) (w : World) (hr0 : Kd.C (Kd.int .i64) w A0 l0.length l0) (hc0 : l0.length ≤ c0) (h : laws_toInt64Sg.f k l0 a1 = some r) :
  Calls Try.prog 27 #[.slice A0 l0.length c0, .bool a1] w fun e w' => ∃ (A_ : Option Addr) (c_ : Nat), e = .returned (.slice A_ (vis l0.length r.length) c_) ∧ Kd.R (Kd.int .i64) 2 w' w.heap.size (fun _ => True) (.slice A_ r.length c_) r ∧ Below w.heap.size w w' := by
 have HR0 := ak hr0; have HC0 := ak hc0; clear hr0 hc0; have HB := ak (Below.refl w.heap.size w); unfold laws_toInt64Sg.f at h; have H := h; clear h; have HC3 := ak H; clear H; go_enter Try.func27, Try.ntmps27; go_upto_region 1 with (fail)
 go_cut [13] (fun v13 wc => ∃ (kq : Nat) (x13_2 : Bool), v13 = .bool x13_2 ∧ Aside0 (laws_toInt64Sg.j0 kq l0 x13_2 = some r) ∧ Aside0 (kq ≤ k) ∧ Aside0 (Below w.heap.size w wc))
 case first =>
  have H := HC3.out; clear HC3; by_cases c4 : a1 = true
  ·subst c4; rw [if_pos rfl] at H; have H' := ak H; clear H; go_wp2
   go_meet
   case rel => exact ⟨_, (((l0.length : Int) == 0)), es, H', ⟨by first | omega | exact Nat.le_refl _⟩, ⟨vb HB.out⟩⟩
  ·replace c4 := Bool.eq_false_iff.mpr c4; subst c4; rw [if_neg nf] at H; have H' := ak H; clear H; go_wp2
   go_meet
   case rel => exact ⟨_, (false), es, H', ⟨by first | omega | exact Nat.le_refl _⟩, ⟨vb HB.out⟩⟩
 case rest =>
  clear HC3; obtain ⟨kq, x13_2, rfl, HA, HJ2, HB⟩ := hcut
  cases kq with
  | zero => exact absurd HA.out (by simp [laws_toInt64Sg.j0])
  | succ kj2 =>
   have H := HA.out; clear HA; simp only [laws_toInt64Sg.j0] at H
   by_cases c5 : x13_2 = true
   ·subst c5; rw [if_pos rfl] at H; obtain rfl := sj H; go_wp2
    go_ret
    exact ⟨none, 0, by first | (rw [vis_zero]; rfl) | (simp only [List.length_nil, vis_zero]; rfl), Kd.R_nil _ _ _ _ _, vb HB.out⟩
   ·replace c5 := Bool.eq_false_iff.mpr c5; subst c5; rw [if_neg nf] at H; obtain ⟨t230, A6, H⟩ := bnk H; obtain ⟨ji7, hji7⟩ : ∃ j_ : Int, (wrap64 ((l0.length : Int) + t230)) = j_ := ⟨_, rfl⟩; replace H : (if 0 ≤ (ji7) then (if (ji7 : Int).toNat ≤ 35184372088832 then (laws_toInt64Sg.l0 kj2 l0 (List.replicate (ji7 : Int).toNat 0) 0) else (none)) else (none)) = some r := by first | (rw [hji7] at H; exact H) | (simp only [hji7] at H ⊢; exact H)
    (try rw [hji7] at A6)
    have hji7w : (IntKind.i64.wrap ((l0.length : Int) + t230)) = ji7 := (i64_w _).trans hji7; by_cases c8 : 0 ≤ (ji7)
    ·rw [if_pos c8] at H; have c8b0 := eq_true c8; have c8b1 : decide (0 ≤ (ji7)) = true := decide_eq_true c8; clear c8; by_cases c9 : (ji7 : Int).toNat ≤ 35184372088832
     ·rw [if_pos c9] at H; have c9b0 := eq_true c9; have c9b1 : decide ((ji7 : Int).toNat ≤ 35184372088832) = true := decide_eq_true c9; clear c9; obtain ⟨y231, hy231⟩ := gen_ ((List.replicate (ji7 : Int).toNat 0 : List Int)); rw [← hy231] at H; have Ny231 := ak hy231; clear hy231; have H' := ak H; clear H; go_wp2_with (first | ((with_reducible refine at_fn (f := 73) rfl ?_); refine gl (some 18) Try.func73 #[.int .i64 (l0.length : Int)] ?_; (with_reducible refine (laws_roomBehind.calls (l0.length : Int) t230 _ A6.out).mono ?_); rintro e w' ⟨rfl, ⟨nd, rfl⟩⟩; refine ⟨_, rfl, ?_⟩) | ((with_reducible refine gate_dst (N := 20) rfl ?_); (try (refine gate_guard (by rfl) ?_; dsimp only)); refine Kd.R_make (Kd.int .i64) _ 2 rfl (N := 20) rfl 24 _ _ rfl ji7 rfl rfl Try.underlying24 (.int .i64 0) 8 info2 rfl (by decide) (by omega) 0 (ok := fun _ => True) (okp := fun _ => True) rfl (fun _ hk => hk) trivial (od) (Nat.le_trans (Nat.mul_le_mul_right _ (od : ji7.toNat ≤ 35184372088832)) (by omega)) (Below.refl _ _) (Nat.le_refl _) ?_; intro v232 w10 ho11 hb hg_ hnew_; clear hg_ hnew_; (first | rw [← Ny231.out] at ho11 | (simp only [Int.reduceToNat] at ho11; rw [← Ny231.out] at ho11)); have HO233 := ak (Kd.R_lower ho11 (below_size (vb HB.out))); replace HB := bs HB hb; clear hb ho11))
      go_loopg [6] kj2 (fun kq v6 w' => ∃ (x5_2 : List Int) (x6_2 : Int), v6 = .int .i64 x6_2 ∧ Aside0 (laws_toInt64Sg.l0 kq l0 x5_2 x6_2 = some r) ∧ Aside0 (kq ≤ kj2) ∧ Aside0 (Kd.R (Kd.int .i64) 2 w' w.heap.size (fun _ => True) v232 x5_2) ∧ Aside0 (Below w.heap.size w w'))
      case atStart => exact ⟨(y231), (0), es, H', ⟨Nat.le_refl _⟩, ⟨vr HO233.out⟩, ⟨vb HB.out⟩⟩
      case round =>
       clear H'; obtain ⟨x5_2, x6_2, rfl, HA, HK2, HO_5, HB⟩ := hrel
       cases gk with
       | zero => exact absurd HA.out (by simp [laws_toInt64Sg.l0])
       | succ k2 =>
        have H := HA.out; clear HA; simp only [laws_toInt64Sg.l0] at H
        by_cases c12 : x6_2 < (l0.length : Int)
        ·rw [if_pos c12] at H; have c12b0 := decide_eq_true c12; clear c12; by_cases c13 : 0 ≤ x6_2
         ·rw [if_pos c13] at H; have c13b0 := decide_eq_true c13; clear c13; by_cases c14 : x6_2 < (x5_2.length : Int)
          ·rw [if_pos c14] at H; have c14b0 := decide_eq_true c14; clear c14; obtain ⟨y235, hy235⟩ := gen_ ((x5_2.set (x6_2 : Int).toNat (rd l0 x6_2) : List Int)); rw [← hy235] at H; have Ny235 := ak hy235; clear hy235; have H' := ak H; clear H; have p234 : 0 ≤ (x6_2 : Int) := od; have q234 : x6_2 < (l0.length : Int) := od; obtain ⟨ad234, e234, hx234_0⟩ := Kd.at_int HR0.out x6_2 p234 q234
           cases e234; replace hx234_0 := cb HB.out hx234_0; replace p234 := eq_true p234; replace q234 := eq_true q234; have p15 : 0 ≤ (x6_2 : Int) := od; have q15 : (x6_2 : Int) < ((x5_2.length : Int) : Int) := od; obtain ⟨go15, co15, eo15, gb15, gl15, cl15, HG15⟩ := Kd.R_form HO_5.out (by omega); (first | cases eo15 | (injection eo15 with ea_ en_ ec_; (first | subst ea_ | (injection ea_ with ea_; subst ea_)); subst ec_; clear en_))
           have GB15 := ak gb15; have GG15 := ak HG15; clear gb15 gl15 HG15; obtain ⟨hx15_0, hf15_0⟩ := Kd.R_celln 0 HO_5.out (x6_2 : Int) p15 q15; replace p15 := eq_true p15; replace q15 := eq_true q15; have HP16 := Kd.R_putg HO_5.out (x6_2 : Int) (rd l0 x6_2); go_wp2_with (first | ((with_reducible refine gate_store (t := 2) (p := 33) rfl ?_); refine store_event (t := 2) (p := 33) (v := ?vo_w17) (w1 := (wr.setCell ⟨go15, (x6_2 : Int).toNat, none⟩ (.int .i64 (rd l0 x6_2)))) ?hg ?ho ?hn ?hr ?_; (case ho => rfl); (case hg => rfl); (case hn => rfl); (case hr => first | (go_simp; done) | (go_simp; rfl)); intro w17 hw; have hg : wr.grownBy w17 (some go15) := (by rw [hw]; exact HP16.2); have hp_ : Kd.R (Kd.int .i64) 2 w17 w.heap.size (fun _ => True) (.slice (some ⟨go15, 0, none⟩) x5_2.length co15) y235 := (by rw [hw, Ny235.out]; exact HP16.1); clear HP16; replace HO_5 := ak (hp_); replace HB := ak ((by rw [hw]; exact below_set (HB.out) GB15.out : Below w.heap.size w w17)); clear hg hw hp_))
           go_roundg k2
           case measure => have := HJ2.out; have := HK2.out; omega
           case rel => exact ⟨(y235), (wrap64 (x6_2 + 1)), es, H', ⟨by have := HJ2.out; have := HK2.out; omega⟩, ⟨vr HO_5.out⟩, ⟨vb HB.out⟩⟩
          ·exact nO_ c14 H
         ·exact nO_ c13 H
        ·rw [if_neg c12] at H; have c12b0 := decide_eq_false c12; clear c12; have H' := ak H; clear H; go_wp2
         go_loopg [7] k2 (fun kq v7 w' => ∃ (x5_3 : List Int) (x7_3 : Int), v7 = .int .i64 x7_3 ∧ Aside0 (laws_toInt64Sg.l1 kq l0 x5_3 x7_3 = some r) ∧ Aside0 (kq ≤ k2) ∧ Aside0 (Kd.R (Kd.int .i64) 2 w' w.heap.size (fun _ => True) v232 x5_3) ∧ Aside0 (Below w.heap.size w w'))
         case atStart => exact ⟨(x5_2), ((l0.length : Int)), es, H', ⟨Nat.le_refl _⟩, ⟨vr HO_5.out⟩, ⟨vb HB.out⟩⟩
         case round =>
          clear H'; obtain ⟨x5_3, x7_3, rfl, HA, HK3, HO_5, HB⟩ := hrel
          cases gk with
          | zero => exact absurd HA.out (by simp [laws_toInt64Sg.l1])
          | succ k3 =>
           have H := HA.out; clear HA; simp only [laws_toInt64Sg.l1] at H
           by_cases c18 : x7_3 < (x5_3.length : Int)
           ·rw [if_pos c18] at H; have c18b0 := decide_eq_true c18; clear c18; by_cases c19 : 0 ≤ x7_3
            ·rw [if_pos c19] at H; have c19b0 := decide_eq_true c19; clear c19; obtain ⟨y236, hy236⟩ := gen_ ((x5_3.set (x7_3 : Int).toNat (-7000000000000000101) : List Int)); rw [← hy236] at H; have Ny236 := ak hy236; clear hy236; have H' := ak H; clear H; obtain ⟨Ao21, co21, eo21⟩ := Kd.R_slice HO_5.out; subst eo21; have p20 : 0 ≤ (x7_3 : Int) := od; have q20 : (x7_3 : Int) < ((x5_3.length : Int) : Int) := od; obtain ⟨go20, co20, eo20, gb20, gl20, cl20, HG20⟩ := Kd.R_form HO_5.out (by omega); (first | cases eo20 | (injection eo20 with ea_ en_ ec_; (first | subst ea_ | (injection ea_ with ea_; subst ea_)); subst ec_; clear en_))
             have GB20 := ak gb20; have GG20 := ak HG20; clear gb20 gl20 HG20; obtain ⟨hx20_0, hf20_0⟩ := Kd.R_celln 0 HO_5.out (x7_3 : Int) p20 q20; replace p20 := eq_true p20; replace q20 := eq_true q20; have HP22 := Kd.R_putg HO_5.out (x7_3 : Int) (-7000000000000000101); go_wp2_with (first | ((with_reducible refine gate_store (t := 2) (p := 44) rfl ?_); refine store_event (t := 2) (p := 44) (v := ?vo_w23) (w1 := (wr.setCell ⟨go20, (x7_3 : Int).toNat, none⟩ (.int .i64 (-7000000000000000101)))) ?hg ?ho ?hn ?hr ?_; (case ho => rfl); (case hg => rfl); (case hn => rfl); (case hr => first | (go_simp; done) | (go_simp; rfl)); intro w23 hw; have hg : wr.grownBy w23 (some go20) := (by rw [hw]; exact HP22.2); have hp_ : Kd.R (Kd.int .i64) 2 w23 w.heap.size (fun _ => True) (.slice (some ⟨go20, 0, none⟩) x5_3.length co21) y236 := (by rw [hw, Ny236.out]; exact HP22.1); clear HP22; replace HO_5 := ak (hp_); replace HB := ak ((by rw [hw]; exact below_set (HB.out) GB20.out : Below w.heap.size w w23)); clear hg hw hp_))
             go_roundg k3
             case measure => have := HJ2.out; have := HK2.out; have := HK3.out; omega
             case rel => exact ⟨(y236), (wrap64 (x7_3 + 1)), es, H', ⟨by have := HJ2.out; have := HK2.out; have := HK3.out; omega⟩, ⟨vr HO_5.out⟩, ⟨vb HB.out⟩⟩
            ·exact nO_ c19 H
           ·rw [if_neg c18] at H; have c18b0 := decide_eq_false c18; clear c18; by_cases c24 : 0 ≤ (l0.length : Int)
            ·rw [if_pos c24] at H; have c24b0 := eq_true c24; have c24b1 : decide (0 ≤ (l0.length : Int)) = true := decide_eq_true c24; clear c24; by_cases c25 : (l0.length : Int) ≤ (x5_3.length : Int)
             ·rw [if_pos c25] at H; have c25b0 := eq_true c25; have c25b1 : decide ((l0.length : Int) ≤ (x5_3.length : Int)) = true := decide_eq_true c25; clear c25; obtain ⟨y237, hy237⟩ : ∃ y_ : List Int, y_ = (x5_3.take ((l0.length : Int) : Int).toNat) := ⟨_, rfl⟩; have Ny237 := ak hy237; clear hy237; obtain rfl := sj H; obtain ⟨Ao26, co26, eo26⟩ := Kd.R_slice HO_5.out; subst eo26; have q27 : ((l0.length : Int) : Int) ≤ ((x5_3.length : Int) : Int) := od; obtain ⟨i027, hi027, _, hsz27, _⟩ := info_parts info2; have hcut27 := cut_to (P := Try.prog) 24 2 .i64 Try.underlying24 hi027 Ao26 x5_3.length co26 (l0.length : Int) (od) q27 (Kd.R_reads' HO_5.out).2.1; have hr27 := Kd.R_take (m := ((l0.length : Int) : Int).toNat) HO_5.out (by omega); have hy27 : y237.length = ((l0.length : Int) : Int).toNat := (by rw [Ny237.out, List.length_take]; omega); rw [← Ny237.out] at hr27; rw [← hy27] at hr27 hcut27; clear hy27 hi027 hsz27; have HO239 := ak hr27; clear hr27; replace q27 := eq_true q27; go_wp2
              go_ret
              exact ⟨Ao26, co26, (by rw [show vis l0.length x5_3.length = y237.length from by rw [Ny237.out, Int.toNat_natCast, List.length_take]; rfl]; rfl), vr HO_5.out, vb HB.out⟩
             ·exact nO_ c25 H
            ·exact nO_ c24 H
     ·exact nO_ c9 H
    ·exact nO_ c8 H
theorem laws_toInt64S.w1 {i n : Nat} (h : i < n) (hn : n ≤ 4000000) : wrap64 ((i : Int) + 1) = ((i + 1 : Nat) : Int) := by unfold wrap64; omega
theorem laws_toInt64S.l1_eval (x0 : List Int) (d : Nat) : ∀ (k : Nat) (F : List Int) (i : Nat), x0.length ≤ i → F.length = i + d → F.length ≤ 4000000 → d < k →
  laws_toInt64Sg.l1 k x0 F (i : Int) = some (F.take i ++ List.replicate d ((-7000000000000000101) : Int)) := by
 induction d with
 | zero =>
  intro k F i h0 h1 h2 h3; obtain ⟨k, rfl⟩ : ∃ m, k = m + 1 := ⟨k - 1, by omega⟩; simp only [laws_toInt64Sg.l1]
  rw [if_neg (by omega), if_pos (by omega), if_pos (by omega)]; simp [List.take_of_length_le (show F.length ≤ i by omega)]
 | succ d ih =>
  intro k F i h0 h1 h2 h3; obtain ⟨k, rfl⟩ : ∃ m, k = m + 1 := ⟨k - 1, by omega⟩; have e := ih k (F.set i ((-7000000000000000101) : Int)) (i + 1) (by omega) (by simp; omega) (by simpa using h2) (by omega); simp only [laws_toInt64Sg.l1]
  rw [if_pos (by omega), if_pos (by omega), laws_toInt64S.w1 (n := F.length) (by omega) h2, Int.toNat_natCast]; refine Eq.trans e ?_; rw [take_succ_set F i ((-7000000000000000101) : Int) (by omega), List.append_assoc]; rfl
theorem laws_toInt64S.l0_eval (x0 : List Int) (d : Nat) : ∀ (k : Nat) (F : List Int) (i : Nat), x0.length = i + d → x0.length ≤ F.length → F.length ≤ 4000000 → d + (F.length - x0.length) + 1 < k →
  laws_toInt64Sg.l0 k x0 F (i : Int) = some (F.take i ++ (x0.drop i) ++ List.replicate (F.length - x0.length) ((-7000000000000000101) : Int)) := by
 induction d with
 | zero =>
  intro k F i h0 h1 h2 h3; obtain ⟨k, rfl⟩ : ∃ m, k = m + 1 := ⟨k - 1, by omega⟩; simp only [laws_toInt64Sg.l0]
  have hi : i = x0.length := by omega
  subst hi; rw [if_neg (by omega), laws_toInt64S.l1_eval x0 (F.length - x0.length) k F x0.length (Nat.le_refl _) (by omega) h2 (by omega)]; simp
 | succ d ih =>
  intro k F i h0 h1 h2 h3; obtain ⟨k, rfl⟩ : ∃ m, k = m + 1 := ⟨k - 1, by omega⟩; have hlt : i < x0.length := by omega
  have e := ih k (F.set i x0[i]) (i + 1) (by omega) (by simpa using h1) (by simpa using h2) (by simp; omega); simp only [laws_toInt64Sg.l0]
  have hr : rd x0 (i : Int) = x0[i] := by simp [rd, hlt]
  rw [if_pos (by omega), if_pos (by omega), if_pos (by omega), laws_toInt64S.w1 (n := F.length) (by omega) h2, Int.toNat_natCast, hr]; refine Eq.trans e ?_; rw [take_succ_set F i x0[i] (by omega), List.length_set, List.drop_eq_getElem_cons hlt]; simp only [List.append_assoc, List.cons_append, List.nil_append]
theorem laws_toInt64S.g_eval (l0 : List Int) (a1 : Bool) (h : l0.length ≤ 1000000) : ∃ k, laws_toInt64Sg.f k l0 a1 = some (if a1 = true ∧ l0 = [] then [] else full l0) := by
 obtain ⟨K, hK⟩ : ∃ K, K = l0.length + roomN l0.length + 5 := ⟨_, rfl⟩; refine ⟨K + 1, ?_⟩; have hr := room_f l0.length; have hl : roomN l0.length ≤ 1000000 := by unfold roomN; (repeat' split) <;> omega
 have hj : laws_toInt64Sg.j0 (K + 1) l0 false = some (full l0) := by
  simp only [laws_toInt64Sg.j0]
  rw [if_neg (by decide), hr]; rw [Option.bind_some]; have hw : wrap64 ((l0.length : Int) + ((roomN l0.length : Nat) : Int)) = ((l0.length + roomN l0.length : Nat) : Int) := by unfold wrap64; omega
  rw [hw, if_pos (by omega), if_pos (by omega), Int.toNat_natCast]; have e := laws_toInt64S.l0_eval l0 l0.length K (List.replicate (l0.length + roomN l0.length) 0) 0 (by omega) (by simp) (by simp <;> omega) (by simp <;> omega); refine Eq.trans e ?_; simp [full, Fil.fil]
  try rfl
 unfold laws_toInt64Sg.f
 by_cases h1 : a1 = true
 ·rw [if_pos h1]; by_cases h2 : l0 = []
  ·subst h2; rw [if_pos ⟨h1, rfl⟩]; simp only [laws_toInt64Sg.j0]
   rw [if_pos (by decide)]
  ·rw [if_neg (fun h3 => h2 h3.2)]
   have h3 : ((l0.length : Int) == 0) = false := by
    have : l0.length ≠ 0 := fun h4 => h2 (List.length_eq_zero_iff.1 h4)
    rw [beq_eq_false_iff_ne]; omega
   rw [h3]; exact hj
 ·rw [if_neg h1, if_neg (fun h2 => h1 h2.1)]; exact hj
def laws_toInt64S.f (_k : Nat) (l0 : List Int) (_a1 : Bool) : Option (List Int) := if l0.length ≤ 1000000 then some l0 else none
theorem laws_toInt64S.mono : ∀ a0 a1 k, LeO (laws_toInt64S.f k a0 a1) (laws_toInt64S.f (k + 1) a0 a1) := fun _ _ _ => LeO.refl _
theorem laws_toInt64S.callsF (k : Nat) (A0 : Option Addr) (c0 : Nat) (l0 : List Int) (r : List Int) (w : World) (hr0 : Kd.C (Kd.int .i64) w A0 l0.length l0) (hc0 : l0.length ≤ c0) (h : laws_toInt64S.f k l0 false = some r) :
  Calls Try.prog 27 #[.slice A0 l0.length c0, .bool false] w fun e w' => ∃ v0_ : Value, e = .returned (v0_) ∧ Kd.P (Kd.int .i64) 2 w' w.heap.size (fun _ => True) v0_ r ∧ Below w.heap.size w w' := by
 unfold laws_toInt64S.f at h
 split at h
 ·rename_i hl
  obtain rfl := Option.some.inj h; obtain ⟨k', hk⟩ := laws_toInt64S.g_eval l0 false hl; rw [if_neg (fun h2 => absurd h2.1 (by decide))] at hk; refine (laws_toInt64Sg.calls k' A0 c0 l0 false _ w hr0 hc0 hk).mono ?_; rintro e w' ⟨A_, c_, rfl, h1, h2⟩; refine ⟨_, rfl, ⟨fun _ _ => trivial, A_, c_, ?_, h1⟩, h2⟩; first | (rw [vis_le (by simp [full])]; done) | (rw [vis_le (by simp [full])]; simp)
 ·exact absurd h (by simp)
theorem laws_toInt64S.calls (k : Nat) (A0 : Option Addr) (c0 : Nat) (l0 : List Int) (a1 : Bool) (r : List Int) (w : World) (hr0 : Kd.C (Kd.int .i64) w A0 l0.length l0) (hc0 : l0.length ≤ c0) (h : laws_toInt64S.f k l0 a1 = some r) :
  Calls Try.prog 27 #[.slice A0 l0.length c0, .bool a1] w fun e w' => ∃ v0_ : Value, e = .returned (v0_) ∧ Kd.R (Kd.int .i64) 2 w' w.heap.size (fun _ => True) v0_ r ∧ Below w.heap.size w w' := by
 unfold laws_toInt64S.f at h
 split at h
 ·rename_i hl
  obtain rfl := Option.some.inj h; obtain ⟨k', hk⟩ := laws_toInt64S.g_eval l0 a1 hl; refine (laws_toInt64Sg.calls k' A0 c0 l0 a1 _ w hr0 hc0 hk).mono ?_; rintro e w' ⟨A_, c_, rfl, h1, h2⟩; refine ⟨_, rfl, ?_, h2⟩; by_cases hz : a1 = true ∧ l0 = []
  ·obtain ⟨rfl, rfl⟩ := hz; rw [if_pos ⟨rfl, rfl⟩] at h1 ⊢; simpa [vis_zero] using h1
  ·rw [if_neg hz] at h1 ⊢; have := Kd.R_take h1 (m := l0.length) (by simp [full]); rw [vis_le (by simp [full])]; simpa [full] using this
 ·exact absurd h (by simp)

/-! ### laws_toDemand: function 109 -/
def laws_toDemand.f (a0_0 : Int) (a0_1 : Int) (a0_2 : Int) : Option (Int × Int × Int) := some (a0_0, a0_1, a0_2)
set_option maxHeartbeats 8000000 in
set_option maxRecDepth 100000 in
theorem laws_toDemand.calls (a0_0 : Int) (a0_1 : Int) (a0_2 : Int) (r1 : Int) (r2 : Int) (r3 : Int) (w : World) (h : laws_toDemand.f a0_0 a0_1 a0_2 = some (r1, r2, r3)) :
  Calls Try.prog 109 #[.agg #[.int .i64 a0_0, .int .i64 a0_1, .int .i64 a0_2]] w fun e w' => e = .returned (.agg #[.int .i64 r1, .int .i64 r2, .int .i64 r3]) ∧ Below w.heap.size w w' := by
 have hu100 := Try.underlying100; have hu98 := Try.underlying98; have HB := ak (Below.refl w.heap.size w); unfold laws_toDemand.f at h; have H := h; clear h; simp only [Option.some.injEq, Prod.mk.injEq] at H
 obtain ⟨rfl, rfl, rfl⟩ := H; go_enter Try.func109, Try.ntmps109; go_wp2_with (first | ((with_reducible refine gate_dst (N := 1) rfl ?_); refine bx 1 #[.int .i64 a0_0, .int .i64 a0_1, .int .i64 a0_2] 100 ?_; intro gb240 hg w2 hbox hb; have BK240 := ak hbox; have GW240 := gw hg HB; have GE240 := gw hg HB; replace HB := bs HB hb; clear hb hbox hg) | ((with_reducible refine gate_dst (N := 2) rfl ?_); refine bx 2 #[.int .i64 0, .int .i64 0, .int .i64 0] 98 ?_; intro gb241 hg w3 hbox hb; have BK241 := ak hbox; have GW241 := gw hg HB; have GE241 := gw hg HB; replace HB := bs HB hb; have NB240_241 := ak ((by rw [hg]; exact Nat.ne_of_lt (blk_lt (vk BK240.out)) : gb240 ≠ gb241)); have NB241_240 := ak ((by rw [hg]; exact Nat.ne_of_gt (blk_lt (vk BK240.out)) : gb241 ≠ gb240)); replace BK240 := kb BK240 hb; clear hb hbox hg) | ((with_reducible refine gate_dst (N := 3) rfl ?_); refine bx 3 #[.int .i64 0, .int .i64 0, .int .i64 0] 98 ?_; intro gb242 hg w4 hbox hb; have BK242 := ak hbox; have GW242 := gw hg HB; have GE242 := gw hg HB; replace HB := bs HB hb; have NB240_242 := ak ((by rw [hg]; exact Nat.ne_of_lt (blk_lt (vk BK240.out)) : gb240 ≠ gb242)); have NB242_240 := ak ((by rw [hg]; exact Nat.ne_of_gt (blk_lt (vk BK240.out)) : gb242 ≠ gb240)); replace BK240 := kb BK240 hb; have NB241_242 := ak ((by rw [hg]; exact Nat.ne_of_lt (blk_lt (vk BK241.out)) : gb241 ≠ gb242)); have NB242_241 := ak ((by rw [hg]; exact Nat.ne_of_gt (blk_lt (vk BK241.out)) : gb242 ≠ gb241)); replace BK241 := kb BK241 hb; clear hb hbox hg; have hnb5 := NB240_241.out; have hnc5 := NB241_240.out; have hnb6 := NB240_242.out; have hnc6 := NB242_240.out; have hcz7 := cz3 BK240.out; have hnb8 := NB242_241.out; have hnc8 := NB241_242.out; have hcz9 := cz3 BK242.out; have hcz10 := cz3 BK241.out))
 refine bodyPost_ret (results_cell_row rfl _ _ gb241 98 #[.int .i64 a0_0, .int .i64 a0_1, .int .i64 a0_2] (0, 0) _ rfl (vz BK241.out) Try.underlying98 rfl (by kernel_rfl)) rfl ?_; exact ⟨ew, vb HB.out⟩


/-! ### laws_fillerDemand: function 110 -/
def laws_fillerDemand.f  : Option (Int × Int × Int) := some ((-7000000000000000101), (-7000000000000000101), (-7000000000000000101))
set_option maxHeartbeats 8000000 in
set_option maxRecDepth 100000 in
theorem laws_fillerDemand.calls  (r1 : Int) (r2 : Int) (r3 : Int) (w : World) (h : laws_fillerDemand.f  = some (r1, r2, r3)) :
  Calls Try.prog 110 #[] w fun e w' => e = .returned (.agg #[.int .i64 r1, .int .i64 r2, .int .i64 r3]) ∧ Below w.heap.size w w' := by
 have hu98 := Try.underlying98; have HB := ak (Below.refl w.heap.size w); unfold laws_fillerDemand.f at h; have H := h; clear h; simp only [Option.some.injEq, Prod.mk.injEq] at H
 obtain ⟨rfl, rfl, rfl⟩ := H; go_enter Try.func110, Try.ntmps110; go_wp2_with (first | ((with_reducible refine gate_dst (N := 0) rfl ?_); refine bx 0 #[.int .i64 0, .int .i64 0, .int .i64 0] 98 ?_; intro gb243 hg w1 hbox hb; have BK243 := ak hbox; have GW243 := gw hg HB; have GE243 := gw hg HB; replace HB := bs HB hb; clear hb hbox hg; have hcz2 := cz3 BK243.out))
 refine bodyPost_ret (results_cell_row rfl _ _ gb243 98 #[.int .i64 (-7000000000000000101), .int .i64 (-7000000000000000101), .int .i64 (-7000000000000000101)] (0, 0) _ rfl (vz BK243.out) Try.underlying98 rfl (by kernel_rfl)) rfl ?_; exact ⟨ew, vb HB.out⟩


/-! ### laws_toDemandS: function 60 -/
instance : Fil S98 := ⟨(⟨(-7000000000000000101), (-7000000000000000101), (-7000000000000000101)⟩ : S98)⟩
mutual
def laws_toDemandSg.j0 : Nat → List (S100) → Bool → Option ((List (S98)))
 | 0, _, _ => none
 | k + 1, x0, x13 => if x13 = true then (some ([] : List (S98))) else ((laws_roomBehind.f (x0.length : Int)).bind fun t244 => (if 0 ≤ (wrap64 ((x0.length : Int) + t244)) then (if (wrap64 ((x0.length : Int) + t244) : Int).toNat ≤ 11728124029610 then (laws_toDemandSg.l0 k x0 (List.replicate (wrap64 ((x0.length : Int) + t244) : Int).toNat z98) 0) else (none)) else (none)))
def laws_toDemandSg.l0 : Nat → List (S100) → List (S98) → Int → Option ((List (S98)))
 | 0, _, _, _ => none
 | k + 1, x0, x5, x6 => if x6 < (x0.length : Int) then (if 0 ≤ x6 then ((laws_toDemand.f ((rd_T100 x0 x6).f0) ((rd_T100 x0 x6).f1) ((rd_T100 x0 x6).f2)).bind fun bt249 => (if x6 < (x5.length : Int) then (laws_toDemandSg.l0 k x0 (x5.set (x6 : Int).toNat (⟨bt249.1, bt249.2.1, bt249.2.2⟩ : S98)) (wrap64 (x6 + 1))) else (none))) else (none)) else (laws_toDemandSg.l1 k x0 x5 (x0.length : Int))
def laws_toDemandSg.l1 : Nat → List (S100) → List (S98) → Int → Option ((List (S98)))
 | 0, _, _, _ => none
 | k + 1, x0, x5, x7 => if x7 < (x5.length : Int) then ((laws_fillerDemand.f).bind fun bt253 => (if 0 ≤ x7 then (laws_toDemandSg.l1 k x0 (x5.set (x7 : Int).toNat (⟨bt253.1, bt253.2.1, bt253.2.2⟩ : S98)) (wrap64 (x7 + 1))) else (none))) else (if 0 ≤ (x0.length : Int) then (if (x0.length : Int) ≤ (x5.length : Int) then (some x5) else (none)) else (none))
end
def laws_toDemandSg.f (k : Nat) (l0 : List (S100)) (a1 : Bool) : Option ((List (S98))) := if a1 = true then (laws_toDemandSg.j0 k l0 ((l0.length : Int) == 0)) else (laws_toDemandSg.j0 k l0 false)
theorem laws_toDemandSg.mono_l : ∀ k, (∀ y0 y1, LeO (laws_toDemandSg.j0 k y0 y1) (laws_toDemandSg.j0 (k + 1) y0 y1)) ∧ (∀ y0 y1 y2, LeO (laws_toDemandSg.l0 k y0 y1 y2) (laws_toDemandSg.l0 (k + 1) y0 y1 y2)) ∧ (∀ y0 y1 y2, LeO (laws_toDemandSg.l1 k y0 y1 y2) (laws_toDemandSg.l1 (k + 1) y0 y1 y2))
 | 0 => ⟨fun _ _ r h => by simp [laws_toDemandSg.j0] at h, fun _ _ _ r h => by simp [laws_toDemandSg.l0] at h, fun _ _ _ r h => by simp [laws_toDemandSg.l1] at h⟩
 | k + 1 => by
  obtain ⟨ih0, ih1, ih2⟩ := laws_toDemandSg.mono_l k; refine ⟨?_, ?_, ?_⟩
  ·intro y0 y1; unfold laws_toDemandSg.j0
   repeat' (with_reducible first | exact ih0 .. | exact ih1 .. | exact ih2 .. | exact lm | refine LeO.ite ?_ ?_ | refine LeO.bind ?_ (fun _ => ?_))
  ·intro y0 y1 y2; unfold laws_toDemandSg.l0
   repeat' (with_reducible first | exact ih0 .. | exact ih1 .. | exact ih2 .. | exact lm | refine LeO.ite ?_ ?_ | refine LeO.bind ?_ (fun _ => ?_))
  ·intro y0 y1 y2; unfold laws_toDemandSg.l1
   repeat' (with_reducible first | exact ih0 .. | exact ih1 .. | exact ih2 .. | exact lm | refine LeO.ite ?_ ?_ | refine LeO.bind ?_ (fun _ => ?_))
theorem laws_toDemandSg.mono : ∀ a0 a1 k, LeO (laws_toDemandSg.f k a0 a1) (laws_toDemandSg.f (k + 1) a0 a1) := by
 intro a0 a1 k; obtain ⟨ih0, ih1, ih2⟩ := laws_toDemandSg.mono_l k; unfold laws_toDemandSg.f
 repeat' (with_reducible first | exact ih0 .. | exact ih1 .. | exact ih2 .. | exact lm | refine LeO.ite ?_ ?_ | refine LeO.bind ?_ (fun _ => ?_))
set_option maxHeartbeats 8000000 in
set_option maxRecDepth 100000 in
theorem laws_toDemandSg.calls (k : Nat) (A0 : Option Addr) (c0 : Nat) (l0 : List (S100)) (a1 : Bool) (r : List (S98)) (w : World) (hr0 : Kd.C k100 w A0 l0.length l0) (hc0 : l0.length ≤ c0) (h : laws_toDemandSg.f k l0 a1 = some r) :
  Calls Try.prog 60 #[.slice A0 l0.length c0, .bool a1] w fun e w' => ∃ (A_ : Option Addr) (c_ : Nat), e = .returned (.slice A_ (vis l0.length r.length) c_) ∧ Kd.R k98 98 w' w.heap.size (fun _ => True) (.slice A_ r.length c_) r ∧ Below w.heap.size w w' := by
 have hu100 := Try.underlying100; have hu98 := Try.underlying98; have HR0 := ak hr0; have HC0 := ak hc0; clear hr0 hc0; have HB := ak (Below.refl w.heap.size w); unfold laws_toDemandSg.f at h; have H := h; clear h; have HC3 := ak H; clear H; go_enter Try.func60, Try.ntmps60; go_upto_region 1 with (fail)
 go_cut [13] (fun v13 wc => ∃ (kq : Nat) (x13_2 : Bool), v13 = .bool x13_2 ∧ Aside0 (laws_toDemandSg.j0 kq l0 x13_2 = some r) ∧ Aside0 (kq ≤ k) ∧ Aside0 (Below w.heap.size w wc))
 case first =>
  have H := HC3.out; clear HC3; by_cases c4 : a1 = true
  ·subst c4; rw [if_pos rfl] at H; have H' := ak H; clear H; go_wp2
   go_meet
   case rel => exact ⟨_, (((l0.length : Int) == 0)), es, H', ⟨by first | omega | exact Nat.le_refl _⟩, ⟨vb HB.out⟩⟩
  ·replace c4 := Bool.eq_false_iff.mpr c4; subst c4; rw [if_neg nf] at H; have H' := ak H; clear H; go_wp2
   go_meet
   case rel => exact ⟨_, (false), es, H', ⟨by first | omega | exact Nat.le_refl _⟩, ⟨vb HB.out⟩⟩
 case rest =>
  clear HC3; obtain ⟨kq, x13_2, rfl, HA, HJ2, HB⟩ := hcut
  cases kq with
  | zero => exact absurd HA.out (by simp [laws_toDemandSg.j0])
  | succ kj2 =>
   have H := HA.out; clear HA; simp only [laws_toDemandSg.j0] at H
   by_cases c5 : x13_2 = true
   ·subst c5; rw [if_pos rfl] at H; obtain rfl := sj H; go_wp2
    go_ret
    exact ⟨none, 0, by first | (rw [vis_zero]; rfl) | (simp only [List.length_nil, vis_zero]; rfl), Kd.R_nil _ _ _ _ _, vb HB.out⟩
   ·replace c5 := Bool.eq_false_iff.mpr c5; subst c5; rw [if_neg nf] at H; obtain ⟨t244, A6, H⟩ := bnk H; obtain ⟨ji7, hji7⟩ : ∃ j_ : Int, (wrap64 ((l0.length : Int) + t244)) = j_ := ⟨_, rfl⟩; replace H : (if 0 ≤ (ji7) then (if (ji7 : Int).toNat ≤ 11728124029610 then (laws_toDemandSg.l0 kj2 l0 (List.replicate (ji7 : Int).toNat z98) 0) else (none)) else (none)) = some r := by first | (rw [hji7] at H; exact H) | (simp only [hji7] at H ⊢; exact H)
    (try rw [hji7] at A6)
    have hji7w : (IntKind.i64.wrap ((l0.length : Int) + t244)) = ji7 := (i64_w _).trans hji7; by_cases c8 : 0 ≤ (ji7)
    ·rw [if_pos c8] at H; have c8b0 := eq_true c8; have c8b1 : decide (0 ≤ (ji7)) = true := decide_eq_true c8; clear c8; by_cases c9 : (ji7 : Int).toNat ≤ 11728124029610
     ·rw [if_pos c9] at H; have c9b0 := eq_true c9; have c9b1 : decide ((ji7 : Int).toNat ≤ 11728124029610) = true := decide_eq_true c9; clear c9; obtain ⟨y245, hy245⟩ := gen_ ((List.replicate (ji7 : Int).toNat z98 : List (S98))); rw [← hy245] at H; have Ny245 := ak hy245; clear hy245; have H' := ak H; clear H; go_wp2_with (first | ((with_reducible refine at_fn (f := 73) rfl ?_); refine gl (some 18) Try.func73 #[.int .i64 (l0.length : Int)] ?_; (with_reducible refine (laws_roomBehind.calls (l0.length : Int) t244 _ A6.out).mono ?_); rintro e w' ⟨rfl, ⟨nd, rfl⟩⟩; refine ⟨_, rfl, ?_⟩) | ((with_reducible refine gate_dst (N := 20) rfl ?_); (try (refine gate_guard (by rfl) ?_; dsimp only)); refine Kd.R_make k98 _ 98 rfl (N := 20) rfl 30 _ _ rfl ji7 rfl rfl Try.underlying30 (.agg #[(.int .i64 0), (.int .i64 0), (.int .i64 0)]) 24 info98 rfl (by decide) (by omega) z98 (ok := fun _ => True) (okp := fun _ => True) (k98_mkM _ _ _ z98 ) (fun _ hk => hk) trivial (od) (Nat.le_trans (Nat.mul_le_mul_right _ (od : ji7.toNat ≤ 11728124029610)) (by omega)) (Below.refl _ _) (Nat.le_refl _) ?_; intro v246 w10 ho11 hb hg_ hnew_; clear hg_ hnew_; (first | rw [← Ny245.out] at ho11 | (simp only [Int.reduceToNat] at ho11; rw [← Ny245.out] at ho11)); have HO247 := ak (Kd.R_lower ho11 (below_size (vb HB.out))); replace HB := bs HB hb; clear hb ho11))
      go_loopg [6] kj2 (fun kq v6 w' => ∃ (x5_2 : List (S98)) (x6_2 : Int), v6 = .int .i64 x6_2 ∧ Aside0 (laws_toDemandSg.l0 kq l0 x5_2 x6_2 = some r) ∧ Aside0 (kq ≤ kj2) ∧ Aside0 (Kd.R k98 98 w' w.heap.size (fun _ => True) v246 x5_2) ∧ Aside0 (Below w.heap.size w w'))
      case atStart => exact ⟨(y245), (0), es, H', ⟨Nat.le_refl _⟩, ⟨vr HO247.out⟩, ⟨vb HB.out⟩⟩
      case round =>
       clear H'; obtain ⟨x5_2, x6_2, rfl, HA, HK2, HO_5, HB⟩ := hrel
       cases gk with
       | zero => exact absurd HA.out (by simp [laws_toDemandSg.l0])
       | succ k2 =>
        have H := HA.out; clear HA; simp only [laws_toDemandSg.l0] at H
        by_cases c12 : x6_2 < (l0.length : Int)
        ·rw [if_pos c12] at H; have c12b0 := decide_eq_true c12; clear c12; by_cases c13 : 0 ≤ x6_2
         ·rw [if_pos c13] at H; have c13b0 := decide_eq_true c13; clear c13; obtain ⟨⟨t249, t250, t251⟩, A140, H⟩ := bnd H; replace H : (if x6_2 < (x5_2.length : Int) then (laws_toDemandSg.l0 k2 l0 (x5_2.set (x6_2 : Int).toNat (⟨t249, t250, t251⟩ : S98)) (wrap64 (x6_2 + 1))) else (none)) = some r := H; have A14 := ak A140; clear A140; by_cases c15 : x6_2 < (x5_2.length : Int)
          ·rw [if_pos c15] at H; have c15b0 := decide_eq_true c15; clear c15; obtain ⟨y252, hy252⟩ := gen_ ((x5_2.set (x6_2 : Int).toNat (⟨t249, t250, t251⟩ : S98) : List (S98))); rw [← hy252] at H; have Ny252 := ak hy252; clear hy252; have H' := ak H; clear H; have p248 : 0 ≤ (x6_2 : Int) := od; have q248 : x6_2 < (l0.length : Int) := od; obtain ⟨ad248, e248, hx248_0, hx248_1, hx248_2⟩ := at_T100 HR0.out x6_2 p248 q248
           cases e248; replace hx248_0 := cb HB.out hx248_0; replace hx248_1 := cb HB.out hx248_1; replace hx248_2 := cb HB.out hx248_2; replace p248 := eq_true p248; replace q248 := eq_true q248; go_wp2_with (first | ((with_reducible refine at_fn (f := 109) rfl ?_); refine gl (some 33) Try.func109 #[.agg #[.int .i64 ((rd_T100 l0 x6_2).f0), .int .i64 ((rd_T100 l0 x6_2).f1), .int .i64 ((rd_T100 l0 x6_2).f2)]] ?_; (with_reducible refine (laws_toDemand.calls ((rd_T100 l0 x6_2).f0) ((rd_T100 l0 x6_2).f1) ((rd_T100 l0 x6_2).f2) t249 t250 t251 _ A14.out).mono ?_); rintro e w17 ⟨rfl, hb⟩; refine ⟨_, rfl, ?_⟩; replace HO_5 := ak (Kd.R_below (vr HO_5.out) hb); replace HB := bs HB hb; (try clear hb); have p16 : 0 ≤ (x6_2 : Int) := od; have q16 : (x6_2 : Int) < ((x5_2.length : Int) : Int) := od; obtain ⟨go16, co16, eo16, gb16, gl16, cl16, HG16⟩ := Kd.R_form HO_5.out (by omega); (first | cases eo16 | (injection eo16 with ea_ en_ ec_; (first | subst ea_ | (injection ea_ with ea_; subst ea_)); subst ec_; clear en_)); have GB16 := ak gb16; have GG16 := ak HG16; clear gb16 gl16 HG16; obtain ⟨ce16, hcl16, hM16, hcc16, hfr16⟩ := Kd.R_elem HO_5.out z98 (x6_2 : Int) p16 q16; obtain rfl := k98_openM hM16; have hx16_0 : w17.cell? ⟨go16, (x6_2 : Int).toNat * 3, none⟩ = some (.int .i64 ((rd_T98 x5_2 x6_2).f0)) := hcc16 0 _ rfl; have hx16_1 : w17.cell? ⟨go16, (x6_2 : Int).toNat * 3 + 1, none⟩ = some (.int .i64 ((rd_T98 x5_2 x6_2).f1)) := hcc16 1 _ rfl; have hx16_2 : w17.cell? ⟨go16, (x6_2 : Int).toNat * 3 + 2, none⟩ = some (.int .i64 ((rd_T98 x5_2 x6_2).f2)) := hcc16 2 _ rfl; have hf16_0 : w17.frozen? ⟨go16, (x6_2 : Int).toNat * 3, none⟩ = false := hfr16 0; have hf16_1 : w17.frozen? ⟨go16, (x6_2 : Int).toNat * 3 + 1, none⟩ = false := hfr16 1; have hf16_2 : w17.frozen? ⟨go16, (x6_2 : Int).toNat * 3 + 2, none⟩ = false := hfr16 2; clear hcl16 hcc16 hfr16 hM16; replace p16 := eq_true p16; replace q16 := eq_true q16; have HX18 := ak (show Kd.R k98 98 w17 w.heap.size (fun _ => True) (.slice (some ⟨go16, 0, none⟩) x5_2.length co16) x5_2 from (vr HO_5.out)); obtain ⟨ce18, hcl18, hM18, hcc18, hfr18⟩ := Kd.R_elem HX18.out z98 (x6_2 : Int) (od) (by have h_ : (x6_2 : Int) < ((x5_2.length : Int) : Int) := od; first | exact h_ | (have e_ := (Kd.R_reads' HO_5.out).1; omega) | simpa using h_); obtain rfl := k98_openM hM18; have HP18 := Kd.R_seg HX18.out (x6_2 : Int) (od) (by have h_ : (x6_2 : Int) < ((x5_2.length : Int) : Int) := od; first | exact h_ | (have e_ := (Kd.R_reads' HO_5.out).1; omega) | simpa using h_) (seg := [.int .i64 t249, .int .i64 t250, .int .i64 t251]) (j := 0) hcl18 hcc18 (show 3 ≤ 3 from by decide) (x' := (⟨t249, t250, t251⟩ : S98)) (k98_mkM _ _ _ (⟨t249, t250, t251⟩ : S98) ) (fun _ hk => hk); have hx18_0 := hcc18 0 _ rfl; (try simp only [show (k98).sz = 3 from rfl, Nat.mul_one, Nat.add_zero] at hx18_0); have hf18_0 := hfr18 0; (try simp only [show (k98).sz = 3 from rfl, Nat.mul_one, Nat.add_zero] at hf18_0); have hx18_1 := hcc18 1 _ rfl; (try simp only [show (k98).sz = 3 from rfl, Nat.mul_one, Nat.add_zero] at hx18_1); have hf18_1 := hfr18 1; (try simp only [show (k98).sz = 3 from rfl, Nat.mul_one, Nat.add_zero] at hf18_1); have hx18_2 := hcc18 2 _ rfl; (try simp only [show (k98).sz = 3 from rfl, Nat.mul_one, Nat.add_zero] at hx18_2); have hf18_2 := hfr18 2; (try simp only [show (k98).sz = 3 from rfl, Nat.mul_one, Nat.add_zero] at hf18_2); clear hcl18 hcc18 hfr18 hM18) | ((with_reducible refine gate_store (t := 98) (p := 34) rfl ?_); refine store_event (t := 98) (p := 34) (v := ?vo_w19) (w1 := (((w17.setCell ⟨go16, (x6_2 : Int).toNat * 3, none⟩ (.int .i64 t249)).setCell ⟨go16, (x6_2 : Int).toNat * 3 + 1, none⟩ (.int .i64 t250)).setCell ⟨go16, (x6_2 : Int).toNat * 3 + 2, none⟩ (.int .i64 t251))) ?hg ?ho ?hn ?hr ?_; (case ho => rfl); (case hg => rfl); (case hn => rfl); (case hr => first | (go_simp; done) | (go_simp; rfl)); intro w19 hw; have hg : w17.grownBy w19 (some go16) := (by rw [hw]; exact HP18.2); have hp_ : Kd.R k98 98 w19 w.heap.size (fun _ => True) (.slice (some ⟨go16, 0, none⟩) x5_2.length co16) y252 := (by rw [hw, Ny252.out]; exact HP18.1); clear HP18; replace HO_5 := ak (hp_); replace HB := ak ((by rw [hw]; exact below_set (below_set (below_set (HB.out) GB16.out) GB16.out) GB16.out : Below w.heap.size w w19)); clear hg hw hp_))
           go_roundg k2
           case measure => have := HJ2.out; have := HK2.out; omega
           case rel => exact ⟨(y252), (wrap64 (x6_2 + 1)), es, H', ⟨by have := HJ2.out; have := HK2.out; omega⟩, ⟨vr HO_5.out⟩, ⟨vb HB.out⟩⟩
          ·exact nO_ c15 H
         ·exact nO_ c13 H
        ·rw [if_neg c12] at H; have c12b0 := decide_eq_false c12; clear c12; have H' := ak H; clear H; go_wp2
         go_loopg [7] k2 (fun kq v7 w' => ∃ (x5_3 : List (S98)) (x7_3 : Int), v7 = .int .i64 x7_3 ∧ Aside0 (laws_toDemandSg.l1 kq l0 x5_3 x7_3 = some r) ∧ Aside0 (kq ≤ k2) ∧ Aside0 (Kd.R k98 98 w' w.heap.size (fun _ => True) v246 x5_3) ∧ Aside0 (Below w.heap.size w w'))
         case atStart => exact ⟨(x5_2), ((l0.length : Int)), es, H', ⟨Nat.le_refl _⟩, ⟨vr HO_5.out⟩, ⟨vb HB.out⟩⟩
         case round =>
          clear H'; obtain ⟨x5_3, x7_3, rfl, HA, HK3, HO_5, HB⟩ := hrel
          cases gk with
          | zero => exact absurd HA.out (by simp [laws_toDemandSg.l1])
          | succ k3 =>
           have H := HA.out; clear HA; simp only [laws_toDemandSg.l1] at H
           by_cases c20 : x7_3 < (x5_3.length : Int)
           ·rw [if_pos c20] at H; have c20b0 := decide_eq_true c20; clear c20; obtain ⟨⟨t253, t254, t255⟩, A210, H⟩ := bnd H; replace H : (if 0 ≤ x7_3 then (laws_toDemandSg.l1 k3 l0 (x5_3.set (x7_3 : Int).toNat (⟨t253, t254, t255⟩ : S98)) (wrap64 (x7_3 + 1))) else (none)) = some r := H; have A21 := ak A210; clear A210; by_cases c22 : 0 ≤ x7_3
            ·rw [if_pos c22] at H; have c22b0 := decide_eq_true c22; clear c22; obtain ⟨y256, hy256⟩ := gen_ ((x5_3.set (x7_3 : Int).toNat (⟨t253, t254, t255⟩ : S98) : List (S98))); rw [← hy256] at H; have Ny256 := ak hy256; clear hy256; have H' := ak H; clear H; obtain ⟨Ao24, co24, eo24⟩ := Kd.R_slice HO_5.out; subst eo24; go_wp2_with (first | ((with_reducible refine at_fn (f := 110) rfl ?_); refine gl (some 45) Try.func110 #[] ?_; (with_reducible refine (laws_fillerDemand.calls  t253 t254 t255 _ A21.out).mono ?_); rintro e w25 ⟨rfl, hb⟩; refine ⟨_, rfl, ?_⟩; replace HO_5 := ak (Kd.R_below (vr HO_5.out) hb); replace HB := bs HB hb; (try clear hb); have p23 : 0 ≤ (x7_3 : Int) := od; have q23 : (x7_3 : Int) < ((x5_3.length : Int) : Int) := od; obtain ⟨go23, co23, eo23, gb23, gl23, cl23, HG23⟩ := Kd.R_form HO_5.out (by omega); (first | cases eo23 | (injection eo23 with ea_ en_ ec_; (first | subst ea_ | (injection ea_ with ea_; subst ea_)); subst ec_; clear en_)); have GB23 := ak gb23; have GG23 := ak HG23; clear gb23 gl23 HG23; obtain ⟨ce23, hcl23, hM23, hcc23, hfr23⟩ := Kd.R_elem HO_5.out z98 (x7_3 : Int) p23 q23; obtain rfl := k98_openM hM23; have hx23_0 : w25.cell? ⟨go23, (x7_3 : Int).toNat * 3, none⟩ = some (.int .i64 ((rd_T98 x5_3 x7_3).f0)) := hcc23 0 _ rfl; have hx23_1 : w25.cell? ⟨go23, (x7_3 : Int).toNat * 3 + 1, none⟩ = some (.int .i64 ((rd_T98 x5_3 x7_3).f1)) := hcc23 1 _ rfl; have hx23_2 : w25.cell? ⟨go23, (x7_3 : Int).toNat * 3 + 2, none⟩ = some (.int .i64 ((rd_T98 x5_3 x7_3).f2)) := hcc23 2 _ rfl; have hf23_0 : w25.frozen? ⟨go23, (x7_3 : Int).toNat * 3, none⟩ = false := hfr23 0; have hf23_1 : w25.frozen? ⟨go23, (x7_3 : Int).toNat * 3 + 1, none⟩ = false := hfr23 1; have hf23_2 : w25.frozen? ⟨go23, (x7_3 : Int).toNat * 3 + 2, none⟩ = false := hfr23 2; clear hcl23 hcc23 hfr23 hM23; replace p23 := eq_true p23; replace q23 := eq_true q23; have HX26 := ak (show Kd.R k98 98 w25 w.heap.size (fun _ => True) (.slice (some ⟨go23, 0, none⟩) x5_3.length co24) x5_3 from (vr HO_5.out)); obtain ⟨ce26, hcl26, hM26, hcc26, hfr26⟩ := Kd.R_elem HX26.out z98 (x7_3 : Int) (od) (by have h_ : (x7_3 : Int) < ((x5_3.length : Int) : Int) := od; first | exact h_ | (have e_ := (Kd.R_reads' HO_5.out).1; omega) | simpa using h_); obtain rfl := k98_openM hM26; have HP26 := Kd.R_seg HX26.out (x7_3 : Int) (od) (by have h_ : (x7_3 : Int) < ((x5_3.length : Int) : Int) := od; first | exact h_ | (have e_ := (Kd.R_reads' HO_5.out).1; omega) | simpa using h_) (seg := [.int .i64 t253, .int .i64 t254, .int .i64 t255]) (j := 0) hcl26 hcc26 (show 3 ≤ 3 from by decide) (x' := (⟨t253, t254, t255⟩ : S98)) (k98_mkM _ _ _ (⟨t253, t254, t255⟩ : S98) ) (fun _ hk => hk); have hx26_0 := hcc26 0 _ rfl; (try simp only [show (k98).sz = 3 from rfl, Nat.mul_one, Nat.add_zero] at hx26_0); have hf26_0 := hfr26 0; (try simp only [show (k98).sz = 3 from rfl, Nat.mul_one, Nat.add_zero] at hf26_0); have hx26_1 := hcc26 1 _ rfl; (try simp only [show (k98).sz = 3 from rfl, Nat.mul_one, Nat.add_zero] at hx26_1); have hf26_1 := hfr26 1; (try simp only [show (k98).sz = 3 from rfl, Nat.mul_one, Nat.add_zero] at hf26_1); have hx26_2 := hcc26 2 _ rfl; (try simp only [show (k98).sz = 3 from rfl, Nat.mul_one, Nat.add_zero] at hx26_2); have hf26_2 := hfr26 2; (try simp only [show (k98).sz = 3 from rfl, Nat.mul_one, Nat.add_zero] at hf26_2); clear hcl26 hcc26 hfr26 hM26) | ((with_reducible refine gate_store (t := 98) (p := 46) rfl ?_); refine store_event (t := 98) (p := 46) (v := ?vo_w27) (w1 := (((w25.setCell ⟨go23, (x7_3 : Int).toNat * 3, none⟩ (.int .i64 t253)).setCell ⟨go23, (x7_3 : Int).toNat * 3 + 1, none⟩ (.int .i64 t254)).setCell ⟨go23, (x7_3 : Int).toNat * 3 + 2, none⟩ (.int .i64 t255))) ?hg ?ho ?hn ?hr ?_; (case ho => rfl); (case hg => rfl); (case hn => rfl); (case hr => first | (go_simp; done) | (go_simp; rfl)); intro w27 hw; have hg : w25.grownBy w27 (some go23) := (by rw [hw]; exact HP26.2); have hp_ : Kd.R k98 98 w27 w.heap.size (fun _ => True) (.slice (some ⟨go23, 0, none⟩) x5_3.length co24) y256 := (by rw [hw, Ny256.out]; exact HP26.1); clear HP26; replace HO_5 := ak (hp_); replace HB := ak ((by rw [hw]; exact below_set (below_set (below_set (HB.out) GB23.out) GB23.out) GB23.out : Below w.heap.size w w27)); clear hg hw hp_))
             go_roundg k3
             case measure => have := HJ2.out; have := HK2.out; have := HK3.out; omega
             case rel => exact ⟨(y256), (wrap64 (x7_3 + 1)), es, H', ⟨by have := HJ2.out; have := HK2.out; have := HK3.out; omega⟩, ⟨vr HO_5.out⟩, ⟨vb HB.out⟩⟩
            ·exact nO_ c22 H
           ·rw [if_neg c20] at H; have c20b0 := decide_eq_false c20; clear c20; by_cases c28 : 0 ≤ (l0.length : Int)
            ·rw [if_pos c28] at H; have c28b0 := eq_true c28; have c28b1 : decide (0 ≤ (l0.length : Int)) = true := decide_eq_true c28; clear c28; by_cases c29 : (l0.length : Int) ≤ (x5_3.length : Int)
             ·rw [if_pos c29] at H; have c29b0 := eq_true c29; have c29b1 : decide ((l0.length : Int) ≤ (x5_3.length : Int)) = true := decide_eq_true c29; clear c29; obtain ⟨y257, hy257⟩ : ∃ y_ : List (S98), y_ = (x5_3.take ((l0.length : Int) : Int).toNat) := ⟨_, rfl⟩; have Ny257 := ak hy257; clear hy257; obtain rfl := sj H; obtain ⟨Ao30, co30, eo30⟩ := Kd.R_slice HO_5.out; subst eo30; have q31 : ((l0.length : Int) : Int) ≤ ((x5_3.length : Int) : Int) := od; obtain ⟨i031, hi031, _, hsz31, _⟩ := info_parts info98; have hcut31 := cut_to (P := Try.prog) 30 98 .i64 Try.underlying30 hi031 Ao30 x5_3.length co30 (l0.length : Int) (od) q31 (Kd.R_reads' HO_5.out).2.1; have hr31 := Kd.R_take (m := ((l0.length : Int) : Int).toNat) HO_5.out (by omega); have hy31 : y257.length = ((l0.length : Int) : Int).toNat := (by rw [Ny257.out, List.length_take]; omega); rw [← Ny257.out] at hr31; rw [← hy31] at hr31 hcut31; clear hy31 hi031 hsz31; have HO259 := ak hr31; clear hr31; replace q31 := eq_true q31; go_wp2
              go_ret
              exact ⟨Ao30, co30, (by rw [show vis l0.length x5_3.length = y257.length from by rw [Ny257.out, Int.toNat_natCast, List.length_take]; rfl]; rfl), vr HO_5.out, vb HB.out⟩
             ·exact nO_ c29 H
            ·exact nO_ c28 H
     ·exact nO_ c9 H
    ·exact nO_ c8 H
def laws_toDemandS.conv (x : S100) : S98 := ⟨x.f0, x.f1, x.f2⟩
theorem laws_toDemandS.w1 {i n : Nat} (h : i < n) (hn : n ≤ 4000000) : wrap64 ((i : Int) + 1) = ((i + 1 : Nat) : Int) := by unfold wrap64; omega
theorem laws_toDemandS.l1_eval (x0 : List S100) (d : Nat) : ∀ (k : Nat) (F : List S98) (i : Nat), x0.length ≤ i → F.length = i + d → F.length ≤ 4000000 → d < k →
  laws_toDemandSg.l1 k x0 F (i : Int) = some (F.take i ++ List.replicate d (⟨(-7000000000000000101), (-7000000000000000101), (-7000000000000000101)⟩ : S98)) := by
 induction d with
 | zero =>
  intro k F i h0 h1 h2 h3; obtain ⟨k, rfl⟩ : ∃ m, k = m + 1 := ⟨k - 1, by omega⟩; simp only [laws_toDemandSg.l1]
  rw [if_neg (by omega), if_pos (by omega), if_pos (by omega)]; simp [List.take_of_length_le (show F.length ≤ i by omega)]
 | succ d ih =>
  intro k F i h0 h1 h2 h3; obtain ⟨k, rfl⟩ : ∃ m, k = m + 1 := ⟨k - 1, by omega⟩; have e := ih k (F.set i (⟨(-7000000000000000101), (-7000000000000000101), (-7000000000000000101)⟩ : S98)) (i + 1) (by omega) (by simp; omega) (by simpa using h2) (by omega); simp only [laws_toDemandSg.l1, laws_fillerDemand.f, Option.bind_some]
  rw [if_pos (by omega), if_pos (by omega), laws_toDemandS.w1 (n := F.length) (by omega) h2, Int.toNat_natCast]; refine Eq.trans e ?_; rw [take_succ_set F i (⟨(-7000000000000000101), (-7000000000000000101), (-7000000000000000101)⟩ : S98) (by omega), List.append_assoc]; rfl
theorem laws_toDemandS.l0_eval (x0 : List S100) (d : Nat) : ∀ (k : Nat) (F : List S98) (i : Nat), x0.length = i + d → x0.length ≤ F.length → F.length ≤ 4000000 → d + (F.length - x0.length) + 1 < k →
  laws_toDemandSg.l0 k x0 F (i : Int) = some (F.take i ++ (x0.drop i).map laws_toDemandS.conv ++ List.replicate (F.length - x0.length) (⟨(-7000000000000000101), (-7000000000000000101), (-7000000000000000101)⟩ : S98)) := by
 induction d with
 | zero =>
  intro k F i h0 h1 h2 h3; obtain ⟨k, rfl⟩ : ∃ m, k = m + 1 := ⟨k - 1, by omega⟩; simp only [laws_toDemandSg.l0]
  have hi : i = x0.length := by omega
  subst hi; rw [if_neg (by omega), laws_toDemandS.l1_eval x0 (F.length - x0.length) k F x0.length (Nat.le_refl _) (by omega) h2 (by omega)]; simp
 | succ d ih =>
  intro k F i h0 h1 h2 h3; obtain ⟨k, rfl⟩ : ∃ m, k = m + 1 := ⟨k - 1, by omega⟩; have hlt : i < x0.length := by omega
  have e := ih k (F.set i (laws_toDemandS.conv x0[i])) (i + 1) (by omega) (by simpa using h1) (by simpa using h2) (by simp; omega); simp only [laws_toDemandSg.l0, laws_toDemand.f, Option.bind_some]
  have hr : rd_T100 x0 (i : Int) = x0[i] := by simp [rd_T100, hlt]
  rw [if_pos (by omega), if_pos (by omega), if_pos (by omega), laws_toDemandS.w1 (n := F.length) (by omega) h2, Int.toNat_natCast, hr]; refine Eq.trans e ?_; rw [take_succ_set F i (laws_toDemandS.conv x0[i]) (by omega), List.length_set, List.drop_eq_getElem_cons hlt]; simp only [List.map_cons, List.append_assoc, List.cons_append, List.nil_append]
theorem laws_toDemandS.g_eval (l0 : List S100) (a1 : Bool) (h : l0.length ≤ 1000000) : ∃ k, laws_toDemandSg.f k l0 a1 = some (if a1 = true ∧ l0 = [] then [] else full (l0.map laws_toDemandS.conv)) := by
 obtain ⟨K, hK⟩ : ∃ K, K = l0.length + roomN l0.length + 5 := ⟨_, rfl⟩; refine ⟨K + 1, ?_⟩; have hr := room_f l0.length; have hl : roomN l0.length ≤ 1000000 := by unfold roomN; (repeat' split) <;> omega
 have hj : laws_toDemandSg.j0 (K + 1) l0 false = some (full (l0.map laws_toDemandS.conv)) := by
  simp only [laws_toDemandSg.j0]
  rw [if_neg (by decide), hr]; rw [Option.bind_some]; have hw : wrap64 ((l0.length : Int) + ((roomN l0.length : Nat) : Int)) = ((l0.length + roomN l0.length : Nat) : Int) := by unfold wrap64; omega
  rw [hw, if_pos (by omega), if_pos (by omega), Int.toNat_natCast]; have e := laws_toDemandS.l0_eval l0 l0.length K (List.replicate (l0.length + roomN l0.length) z98) 0 (by omega) (by simp) (by simp <;> omega) (by simp <;> omega); refine Eq.trans e ?_; simp [full, Fil.fil]
  try rfl
 unfold laws_toDemandSg.f
 by_cases h1 : a1 = true
 ·rw [if_pos h1]; by_cases h2 : l0 = []
  ·subst h2; rw [if_pos ⟨h1, rfl⟩]; simp only [laws_toDemandSg.j0]
   rw [if_pos (by decide)]
  ·rw [if_neg (fun h3 => h2 h3.2)]
   have h3 : ((l0.length : Int) == 0) = false := by
    have : l0.length ≠ 0 := fun h4 => h2 (List.length_eq_zero_iff.1 h4)
    rw [beq_eq_false_iff_ne]; omega
   rw [h3]; exact hj
 ·rw [if_neg h1, if_neg (fun h2 => h1 h2.1)]; exact hj
def laws_toDemandS.f (_k : Nat) (l0 : List S100) (_a1 : Bool) : Option (List S98) := if l0.length ≤ 1000000 then some (l0.map laws_toDemandS.conv) else none
theorem laws_toDemandS.mono : ∀ a0 a1 k, LeO (laws_toDemandS.f k a0 a1) (laws_toDemandS.f (k + 1) a0 a1) := fun _ _ _ => LeO.refl _
theorem laws_toDemandS.callsF (k : Nat) (A0 : Option Addr) (c0 : Nat) (l0 : List S100) (r : List S98) (w : World) (hr0 : Kd.C k100 w A0 l0.length l0) (hc0 : l0.length ≤ c0) (h : laws_toDemandS.f k l0 false = some r) :
  Calls Try.prog 60 #[.slice A0 l0.length c0, .bool false] w fun e w' => ∃ v0_ : Value, e = .returned (v0_) ∧ Kd.P k98 98 w' w.heap.size (fun _ => True) v0_ r ∧ Below w.heap.size w w' := by
 unfold laws_toDemandS.f at h
 split at h
 ·rename_i hl
  obtain rfl := Option.some.inj h; obtain ⟨k', hk⟩ := laws_toDemandS.g_eval l0 false hl; rw [if_neg (fun h2 => absurd h2.1 (by decide))] at hk; refine (laws_toDemandSg.calls k' A0 c0 l0 false _ w hr0 hc0 hk).mono ?_; rintro e w' ⟨A_, c_, rfl, h1, h2⟩; refine ⟨_, rfl, ⟨fun _ _ => trivial, A_, c_, ?_, h1⟩, h2⟩; first | (rw [vis_le (by simp [full])]; done) | (rw [vis_le (by simp [full])]; simp)
 ·exact absurd h (by simp)
theorem laws_toDemandS.calls (k : Nat) (A0 : Option Addr) (c0 : Nat) (l0 : List S100) (a1 : Bool) (r : List S98) (w : World) (hr0 : Kd.C k100 w A0 l0.length l0) (hc0 : l0.length ≤ c0) (h : laws_toDemandS.f k l0 a1 = some r) :
  Calls Try.prog 60 #[.slice A0 l0.length c0, .bool a1] w fun e w' => ∃ v0_ : Value, e = .returned (v0_) ∧ Kd.R k98 98 w' w.heap.size (fun _ => True) v0_ r ∧ Below w.heap.size w w' := by
 unfold laws_toDemandS.f at h
 split at h
 ·rename_i hl
  obtain rfl := Option.some.inj h; obtain ⟨k', hk⟩ := laws_toDemandS.g_eval l0 a1 hl; refine (laws_toDemandSg.calls k' A0 c0 l0 a1 _ w hr0 hc0 hk).mono ?_; rintro e w' ⟨A_, c_, rfl, h1, h2⟩; refine ⟨_, rfl, ?_, h2⟩; by_cases hz : a1 = true ∧ l0 = []
  ·obtain ⟨rfl, rfl⟩ := hz; rw [if_pos ⟨rfl, rfl⟩] at h1 ⊢; simpa [vis_zero] using h1
  ·rw [if_neg hz] at h1 ⊢; have := Kd.R_take h1 (m := l0.length) (by simp [full]); rw [vis_le (by simp [full])]; simpa [full] using this
 ·exact absurd h (by simp)

/-! ### laws_toArea: function 111 -/
def laws_toArea.f (a0_0 : Int) (a0_1 : Int) (a0_2 : Int) (a0_3 : Int) (a0_4 : Int) : Option (Int × Int × Int × Int × Int) := some (a0_0, a0_1, a0_2, a0_3, a0_4)
set_option maxHeartbeats 8000000 in
set_option maxRecDepth 100000 in
theorem laws_toArea.calls (a0_0 : Int) (a0_1 : Int) (a0_2 : Int) (a0_3 : Int) (a0_4 : Int) (r1 : Int) (r2 : Int) (r3 : Int) (r4 : Int) (r5 : Int) (w : World) (h : laws_toArea.f a0_0 a0_1 a0_2 a0_3 a0_4 = some (r1, r2, r3, r4, r5)) :
  Calls Try.prog 111 #[.agg #[.int .i64 a0_0, .int .i64 a0_1, .int .i64 a0_2, .int .i64 a0_3, .int .i64 a0_4]] w fun e w' => e = .returned (.agg #[.int .i64 r1, .int .i64 r2, .int .i64 r3, .int .i64 r4, .int .i64 r5]) ∧ Below w.heap.size w w' := by
 have hu105 := Try.underlying105; have hu103 := Try.underlying103; have HB := ak (Below.refl w.heap.size w); unfold laws_toArea.f at h; have H := h; clear h; simp only [Option.some.injEq, Prod.mk.injEq] at H
 obtain ⟨rfl, rfl, rfl, rfl, rfl⟩ := H; go_enter Try.func111, Try.ntmps111; go_wp2_with (first | ((with_reducible refine gate_dst (N := 1) rfl ?_); refine bx 1 #[.int .i64 a0_0, .int .i64 a0_1, .int .i64 a0_2, .int .i64 a0_3, .int .i64 a0_4] 105 ?_; intro gb260 hg w2 hbox hb; have BK260 := ak hbox; have GW260 := gw hg HB; have GE260 := gw hg HB; replace HB := bs HB hb; clear hb hbox hg) | ((with_reducible refine gate_dst (N := 2) rfl ?_); refine bx 2 #[.int .i64 0, .int .i64 0, .int .i64 0, .int .i64 0, .int .i64 0] 103 ?_; intro gb261 hg w3 hbox hb; have BK261 := ak hbox; have GW261 := gw hg HB; have GE261 := gw hg HB; replace HB := bs HB hb; have NB260_261 := ak ((by rw [hg]; exact Nat.ne_of_lt (blk_lt (vk BK260.out)) : gb260 ≠ gb261)); have NB261_260 := ak ((by rw [hg]; exact Nat.ne_of_gt (blk_lt (vk BK260.out)) : gb261 ≠ gb260)); replace BK260 := kb BK260 hb; clear hb hbox hg) | ((with_reducible refine gate_dst (N := 3) rfl ?_); refine bx 3 #[.int .i64 0, .int .i64 0, .int .i64 0, .int .i64 0, .int .i64 0] 103 ?_; intro gb262 hg w4 hbox hb; have BK262 := ak hbox; have GW262 := gw hg HB; have GE262 := gw hg HB; replace HB := bs HB hb; have NB260_262 := ak ((by rw [hg]; exact Nat.ne_of_lt (blk_lt (vk BK260.out)) : gb260 ≠ gb262)); have NB262_260 := ak ((by rw [hg]; exact Nat.ne_of_gt (blk_lt (vk BK260.out)) : gb262 ≠ gb260)); replace BK260 := kb BK260 hb; have NB261_262 := ak ((by rw [hg]; exact Nat.ne_of_lt (blk_lt (vk BK261.out)) : gb261 ≠ gb262)); have NB262_261 := ak ((by rw [hg]; exact Nat.ne_of_gt (blk_lt (vk BK261.out)) : gb262 ≠ gb261)); replace BK261 := kb BK261 hb; clear hb hbox hg; have hnb5 := NB260_261.out; have hnc5 := NB261_260.out; have hnb6 := NB260_262.out; have hnc6 := NB262_260.out; have hcz7 := cz5 BK260.out; have hnb8 := NB262_261.out; have hnc8 := NB261_262.out; have hcz9 := cz5 BK262.out; have hcz10 := cz5 BK261.out))
 refine bodyPost_ret (results_cell_row rfl _ _ gb261 103 #[.int .i64 a0_0, .int .i64 a0_1, .int .i64 a0_2, .int .i64 a0_3, .int .i64 a0_4] (0, 0) _ rfl (vz BK261.out) Try.underlying103 rfl (by kernel_rfl)) rfl ?_; exact ⟨ew, vb HB.out⟩


/-! ### laws_fillerArea: function 112 -/
def laws_fillerArea.f  : Option (Int × Int × Int × Int × Int) := some ((-7000000000000000101), (-7000000000000000101), (-7000000000000000101), (-7000000000000000101), (-7000000000000000101))
set_option maxHeartbeats 8000000 in
set_option maxRecDepth 100000 in
theorem laws_fillerArea.calls  (r1 : Int) (r2 : Int) (r3 : Int) (r4 : Int) (r5 : Int) (w : World) (h : laws_fillerArea.f  = some (r1, r2, r3, r4, r5)) :
  Calls Try.prog 112 #[] w fun e w' => e = .returned (.agg #[.int .i64 r1, .int .i64 r2, .int .i64 r3, .int .i64 r4, .int .i64 r5]) ∧ Below w.heap.size w w' := by
 have hu103 := Try.underlying103; have HB := ak (Below.refl w.heap.size w); unfold laws_fillerArea.f at h; have H := h; clear h; simp only [Option.some.injEq, Prod.mk.injEq] at H
 obtain ⟨rfl, rfl, rfl, rfl, rfl⟩ := H; go_enter Try.func112, Try.ntmps112; go_wp2_with (first | ((with_reducible refine gate_dst (N := 0) rfl ?_); refine bx 0 #[.int .i64 0, .int .i64 0, .int .i64 0, .int .i64 0, .int .i64 0] 103 ?_; intro gb263 hg w1 hbox hb; have BK263 := ak hbox; have GW263 := gw hg HB; have GE263 := gw hg HB; replace HB := bs HB hb; clear hb hbox hg; have hcz2 := cz5 BK263.out))
 refine bodyPost_ret (results_cell_row rfl _ _ gb263 103 #[.int .i64 (-7000000000000000101), .int .i64 (-7000000000000000101), .int .i64 (-7000000000000000101), .int .i64 (-7000000000000000101), .int .i64 (-7000000000000000101)] (0, 0) _ rfl (vz BK263.out) Try.underlying103 rfl (by kernel_rfl)) rfl ?_; exact ⟨ew, vb HB.out⟩


/-! ### laws_toAreaS: function 61 -/
instance : Fil S103 := ⟨(⟨(-7000000000000000101), (-7000000000000000101), (-7000000000000000101), (-7000000000000000101), (-7000000000000000101)⟩ : S103)⟩
mutual
def laws_toAreaSg.j0 : Nat → List (S105) → Bool → Option ((List (S103)))
 | 0, _, _ => none
 | k + 1, x0, x13 => if x13 = true then (some ([] : List (S103))) else ((laws_roomBehind.f (x0.length : Int)).bind fun t264 => (if 0 ≤ (wrap64 ((x0.length : Int) + t264)) then (if (wrap64 ((x0.length : Int) + t264) : Int).toNat ≤ 7036874417766 then (laws_toAreaSg.l0 k x0 (List.replicate (wrap64 ((x0.length : Int) + t264) : Int).toNat z103) 0) else (none)) else (none)))
def laws_toAreaSg.l0 : Nat → List (S105) → List (S103) → Int → Option ((List (S103)))
 | 0, _, _, _ => none
 | k + 1, x0, x5, x6 => if x6 < (x0.length : Int) then (if 0 ≤ x6 then ((laws_toArea.f ((rd_T105 x0 x6).f0) ((rd_T105 x0 x6).f1) ((rd_T105 x0 x6).f2) ((rd_T105 x0 x6).f3) ((rd_T105 x0 x6).f4)).bind fun bt269 => (if x6 < (x5.length : Int) then (laws_toAreaSg.l0 k x0 (x5.set (x6 : Int).toNat (⟨bt269.1, bt269.2.1, bt269.2.2.1, bt269.2.2.2.1, bt269.2.2.2.2⟩ : S103)) (wrap64 (x6 + 1))) else (none))) else (none)) else (laws_toAreaSg.l1 k x0 x5 (x0.length : Int))
def laws_toAreaSg.l1 : Nat → List (S105) → List (S103) → Int → Option ((List (S103)))
 | 0, _, _, _ => none
 | k + 1, x0, x5, x7 => if x7 < (x5.length : Int) then ((laws_fillerArea.f).bind fun bt275 => (if 0 ≤ x7 then (laws_toAreaSg.l1 k x0 (x5.set (x7 : Int).toNat (⟨bt275.1, bt275.2.1, bt275.2.2.1, bt275.2.2.2.1, bt275.2.2.2.2⟩ : S103)) (wrap64 (x7 + 1))) else (none))) else (if 0 ≤ (x0.length : Int) then (if (x0.length : Int) ≤ (x5.length : Int) then (some x5) else (none)) else (none))
end
def laws_toAreaSg.f (k : Nat) (l0 : List (S105)) (a1 : Bool) : Option ((List (S103))) := if a1 = true then (laws_toAreaSg.j0 k l0 ((l0.length : Int) == 0)) else (laws_toAreaSg.j0 k l0 false)
theorem laws_toAreaSg.mono_l : ∀ k, (∀ y0 y1, LeO (laws_toAreaSg.j0 k y0 y1) (laws_toAreaSg.j0 (k + 1) y0 y1)) ∧ (∀ y0 y1 y2, LeO (laws_toAreaSg.l0 k y0 y1 y2) (laws_toAreaSg.l0 (k + 1) y0 y1 y2)) ∧ (∀ y0 y1 y2, LeO (laws_toAreaSg.l1 k y0 y1 y2) (laws_toAreaSg.l1 (k + 1) y0 y1 y2))
 | 0 => ⟨fun _ _ r h => by simp [laws_toAreaSg.j0] at h, fun _ _ _ r h => by simp [laws_toAreaSg.l0] at h, fun _ _ _ r h => by simp [laws_toAreaSg.l1] at h⟩
 | k + 1 => by
  obtain ⟨ih0, ih1, ih2⟩ := laws_toAreaSg.mono_l k; refine ⟨?_, ?_, ?_⟩
  ·intro y0 y1; unfold laws_toAreaSg.j0
   repeat' (with_reducible first | exact ih0 .. | exact ih1 .. | exact ih2 .. | exact lm | refine LeO.ite ?_ ?_ | refine LeO.bind ?_ (fun _ => ?_))
  ·intro y0 y1 y2; unfold laws_toAreaSg.l0
   repeat' (with_reducible first | exact ih0 .. | exact ih1 .. | exact ih2 .. | exact lm | refine LeO.ite ?_ ?_ | refine LeO.bind ?_ (fun _ => ?_))
  ·intro y0 y1 y2; unfold laws_toAreaSg.l1
   repeat' (with_reducible first | exact ih0 .. | exact ih1 .. | exact ih2 .. | exact lm | refine LeO.ite ?_ ?_ | refine LeO.bind ?_ (fun _ => ?_))
theorem laws_toAreaSg.mono : ∀ a0 a1 k, LeO (laws_toAreaSg.f k a0 a1) (laws_toAreaSg.f (k + 1) a0 a1) := by
 intro a0 a1 k; obtain ⟨ih0, ih1, ih2⟩ := laws_toAreaSg.mono_l k; unfold laws_toAreaSg.f
 repeat' (with_reducible first | exact ih0 .. | exact ih1 .. | exact ih2 .. | exact lm | refine LeO.ite ?_ ?_ | refine LeO.bind ?_ (fun _ => ?_))
set_option maxHeartbeats 8000000 in
set_option maxRecDepth 100000 in
theorem laws_toAreaSg.calls (k : Nat) (A0 : Option Addr) (c0 : Nat) (l0 : List (S105)) (a1 : Bool) (r : List (S103)) (w : World) (hr0 : Kd.C k105 w A0 l0.length l0) (hc0 : l0.length ≤ c0) (h : laws_toAreaSg.f k l0 a1 = some r) :
  Calls Try.prog 61 #[.slice A0 l0.length c0, .bool a1] w fun e w' => ∃ (A_ : Option Addr) (c_ : Nat), e = .returned (.slice A_ (vis l0.length r.length) c_) ∧ Kd.R k103 103 w' w.heap.size (fun _ => True) (.slice A_ r.length c_) r ∧ Below w.heap.size w w' := by
 have hu105 := Try.underlying105; have hu103 := Try.underlying103; have HR0 := ak hr0; have HC0 := ak hc0; clear hr0 hc0; have HB := ak (Below.refl w.heap.size w); unfold laws_toAreaSg.f at h; have H := h; clear h; have HC3 := ak H; clear H; go_enter Try.func61, Try.ntmps61; go_upto_region 1 with (fail)
 go_cut [13] (fun v13 wc => ∃ (kq : Nat) (x13_2 : Bool), v13 = .bool x13_2 ∧ Aside0 (laws_toAreaSg.j0 kq l0 x13_2 = some r) ∧ Aside0 (kq ≤ k) ∧ Aside0 (Below w.heap.size w wc))
 case first =>
  have H := HC3.out; clear HC3; by_cases c4 : a1 = true
  ·subst c4; rw [if_pos rfl] at H; have H' := ak H; clear H; go_wp2
   go_meet
   case rel => exact ⟨_, (((l0.length : Int) == 0)), es, H', ⟨by first | omega | exact Nat.le_refl _⟩, ⟨vb HB.out⟩⟩
  ·replace c4 := Bool.eq_false_iff.mpr c4; subst c4; rw [if_neg nf] at H; have H' := ak H; clear H; go_wp2
   go_meet
   case rel => exact ⟨_, (false), es, H', ⟨by first | omega | exact Nat.le_refl _⟩, ⟨vb HB.out⟩⟩
 case rest =>
  clear HC3; obtain ⟨kq, x13_2, rfl, HA, HJ2, HB⟩ := hcut
  cases kq with
  | zero => exact absurd HA.out (by simp [laws_toAreaSg.j0])
  | succ kj2 =>
   have H := HA.out; clear HA; simp only [laws_toAreaSg.j0] at H
   by_cases c5 : x13_2 = true
   ·subst c5; rw [if_pos rfl] at H; obtain rfl := sj H; go_wp2
    go_ret
    exact ⟨none, 0, by first | (rw [vis_zero]; rfl) | (simp only [List.length_nil, vis_zero]; rfl), Kd.R_nil _ _ _ _ _, vb HB.out⟩
   ·replace c5 := Bool.eq_false_iff.mpr c5; subst c5; rw [if_neg nf] at H; obtain ⟨t264, A6, H⟩ := bnk H; obtain ⟨ji7, hji7⟩ : ∃ j_ : Int, (wrap64 ((l0.length : Int) + t264)) = j_ := ⟨_, rfl⟩; replace H : (if 0 ≤ (ji7) then (if (ji7 : Int).toNat ≤ 7036874417766 then (laws_toAreaSg.l0 kj2 l0 (List.replicate (ji7 : Int).toNat z103) 0) else (none)) else (none)) = some r := by first | (rw [hji7] at H; exact H) | (simp only [hji7] at H ⊢; exact H)
    (try rw [hji7] at A6)
    have hji7w : (IntKind.i64.wrap ((l0.length : Int) + t264)) = ji7 := (i64_w _).trans hji7; by_cases c8 : 0 ≤ (ji7)
    ·rw [if_pos c8] at H; have c8b0 := eq_true c8; have c8b1 : decide (0 ≤ (ji7)) = true := decide_eq_true c8; clear c8; by_cases c9 : (ji7 : Int).toNat ≤ 7036874417766
     ·rw [if_pos c9] at H; have c9b0 := eq_true c9; have c9b1 : decide ((ji7 : Int).toNat ≤ 7036874417766) = true := decide_eq_true c9; clear c9; obtain ⟨y265, hy265⟩ := gen_ ((List.replicate (ji7 : Int).toNat z103 : List (S103))); rw [← hy265] at H; have Ny265 := ak hy265; clear hy265; have H' := ak H; clear H; go_wp2_with (first | ((with_reducible refine at_fn (f := 73) rfl ?_); refine gl (some 18) Try.func73 #[.int .i64 (l0.length : Int)] ?_; (with_reducible refine (laws_roomBehind.calls (l0.length : Int) t264 _ A6.out).mono ?_); rintro e w' ⟨rfl, ⟨nd, rfl⟩⟩; refine ⟨_, rfl, ?_⟩) | ((with_reducible refine gate_dst (N := 20) rfl ?_); (try (refine gate_guard (by rfl) ?_; dsimp only)); refine Kd.R_make k103 _ 103 rfl (N := 20) rfl 31 _ _ rfl ji7 rfl rfl Try.underlying31 (.agg #[(.int .i64 0), (.int .i64 0), (.int .i64 0), (.int .i64 0), (.int .i64 0)]) 40 info103 rfl (by decide) (by omega) z103 (ok := fun _ => True) (okp := fun _ => True) (k103_mkM _ _ _ z103 ) (fun _ hk => hk) trivial (od) (Nat.le_trans (Nat.mul_le_mul_right _ (od : ji7.toNat ≤ 7036874417766)) (by omega)) (Below.refl _ _) (Nat.le_refl _) ?_; intro v266 w10 ho11 hb hg_ hnew_; clear hg_ hnew_; (first | rw [← Ny265.out] at ho11 | (simp only [Int.reduceToNat] at ho11; rw [← Ny265.out] at ho11)); have HO267 := ak (Kd.R_lower ho11 (below_size (vb HB.out))); replace HB := bs HB hb; clear hb ho11))
      go_loopg [6] kj2 (fun kq v6 w' => ∃ (x5_2 : List (S103)) (x6_2 : Int), v6 = .int .i64 x6_2 ∧ Aside0 (laws_toAreaSg.l0 kq l0 x5_2 x6_2 = some r) ∧ Aside0 (kq ≤ kj2) ∧ Aside0 (Kd.R k103 103 w' w.heap.size (fun _ => True) v266 x5_2) ∧ Aside0 (Below w.heap.size w w'))
      case atStart => exact ⟨(y265), (0), es, H', ⟨Nat.le_refl _⟩, ⟨vr HO267.out⟩, ⟨vb HB.out⟩⟩
      case round =>
       clear H'; obtain ⟨x5_2, x6_2, rfl, HA, HK2, HO_5, HB⟩ := hrel
       cases gk with
       | zero => exact absurd HA.out (by simp [laws_toAreaSg.l0])
       | succ k2 =>
        have H := HA.out; clear HA; simp only [laws_toAreaSg.l0] at H
        by_cases c12 : x6_2 < (l0.length : Int)
        ·rw [if_pos c12] at H; have c12b0 := decide_eq_true c12; clear c12; by_cases c13 : 0 ≤ x6_2
         ·rw [if_pos c13] at H; have c13b0 := decide_eq_true c13; clear c13; obtain ⟨⟨t269, t270, t271, t272, t273⟩, A140, H⟩ := bnd H; replace H : (if x6_2 < (x5_2.length : Int) then (laws_toAreaSg.l0 k2 l0 (x5_2.set (x6_2 : Int).toNat (⟨t269, t270, t271, t272, t273⟩ : S103)) (wrap64 (x6_2 + 1))) else (none)) = some r := H; have A14 := ak A140; clear A140; by_cases c15 : x6_2 < (x5_2.length : Int)
          ·rw [if_pos c15] at H; have c15b0 := decide_eq_true c15; clear c15; obtain ⟨y274, hy274⟩ := gen_ ((x5_2.set (x6_2 : Int).toNat (⟨t269, t270, t271, t272, t273⟩ : S103) : List (S103))); rw [← hy274] at H; have Ny274 := ak hy274; clear hy274; have H' := ak H; clear H; have p268 : 0 ≤ (x6_2 : Int) := od; have q268 : x6_2 < (l0.length : Int) := od; obtain ⟨ad268, e268, hx268_0, hx268_1, hx268_2, hx268_3, hx268_4⟩ := at_T105 HR0.out x6_2 p268 q268
           cases e268; replace hx268_0 := cb HB.out hx268_0; replace hx268_1 := cb HB.out hx268_1; replace hx268_2 := cb HB.out hx268_2; replace hx268_3 := cb HB.out hx268_3; replace hx268_4 := cb HB.out hx268_4; replace p268 := eq_true p268; replace q268 := eq_true q268; go_wp2_with (first | ((with_reducible refine at_fn (f := 111) rfl ?_); refine gl (some 33) Try.func111 #[.agg #[.int .i64 ((rd_T105 l0 x6_2).f0), .int .i64 ((rd_T105 l0 x6_2).f1), .int .i64 ((rd_T105 l0 x6_2).f2), .int .i64 ((rd_T105 l0 x6_2).f3), .int .i64 ((rd_T105 l0 x6_2).f4)]] ?_; (with_reducible refine (laws_toArea.calls ((rd_T105 l0 x6_2).f0) ((rd_T105 l0 x6_2).f1) ((rd_T105 l0 x6_2).f2) ((rd_T105 l0 x6_2).f3) ((rd_T105 l0 x6_2).f4) t269 t270 t271 t272 t273 _ A14.out).mono ?_); rintro e w17 ⟨rfl, hb⟩; refine ⟨_, rfl, ?_⟩; replace HO_5 := ak (Kd.R_below (vr HO_5.out) hb); replace HB := bs HB hb; (try clear hb); have p16 : 0 ≤ (x6_2 : Int) := od; have q16 : (x6_2 : Int) < ((x5_2.length : Int) : Int) := od; obtain ⟨go16, co16, eo16, gb16, gl16, cl16, HG16⟩ := Kd.R_form HO_5.out (by omega); (first | cases eo16 | (injection eo16 with ea_ en_ ec_; (first | subst ea_ | (injection ea_ with ea_; subst ea_)); subst ec_; clear en_)); have GB16 := ak gb16; have GG16 := ak HG16; clear gb16 gl16 HG16; obtain ⟨ce16, hcl16, hM16, hcc16, hfr16⟩ := Kd.R_elem HO_5.out z103 (x6_2 : Int) p16 q16; obtain rfl := k103_openM hM16; have hx16_0 : w17.cell? ⟨go16, (x6_2 : Int).toNat * 5, none⟩ = some (.int .i64 ((rd_T103 x5_2 x6_2).f0)) := hcc16 0 _ rfl; have hx16_1 : w17.cell? ⟨go16, (x6_2 : Int).toNat * 5 + 1, none⟩ = some (.int .i64 ((rd_T103 x5_2 x6_2).f1)) := hcc16 1 _ rfl; have hx16_2 : w17.cell? ⟨go16, (x6_2 : Int).toNat * 5 + 2, none⟩ = some (.int .i64 ((rd_T103 x5_2 x6_2).f2)) := hcc16 2 _ rfl; have hx16_3 : w17.cell? ⟨go16, (x6_2 : Int).toNat * 5 + 3, none⟩ = some (.int .i64 ((rd_T103 x5_2 x6_2).f3)) := hcc16 3 _ rfl; have hx16_4 : w17.cell? ⟨go16, (x6_2 : Int).toNat * 5 + 4, none⟩ = some (.int .i64 ((rd_T103 x5_2 x6_2).f4)) := hcc16 4 _ rfl; have hf16_0 : w17.frozen? ⟨go16, (x6_2 : Int).toNat * 5, none⟩ = false := hfr16 0; have hf16_1 : w17.frozen? ⟨go16, (x6_2 : Int).toNat * 5 + 1, none⟩ = false := hfr16 1; have hf16_2 : w17.frozen? ⟨go16, (x6_2 : Int).toNat * 5 + 2, none⟩ = false := hfr16 2; have hf16_3 : w17.frozen? ⟨go16, (x6_2 : Int).toNat * 5 + 3, none⟩ = false := hfr16 3; have hf16_4 : w17.frozen? ⟨go16, (x6_2 : Int).toNat * 5 + 4, none⟩ = false := hfr16 4; clear hcl16 hcc16 hfr16 hM16; replace p16 := eq_true p16; replace q16 := eq_true q16; have HX18 := ak (show Kd.R k103 103 w17 w.heap.size (fun _ => True) (.slice (some ⟨go16, 0, none⟩) x5_2.length co16) x5_2 from (vr HO_5.out)); obtain ⟨ce18, hcl18, hM18, hcc18, hfr18⟩ := Kd.R_elem HX18.out z103 (x6_2 : Int) (od) (by have h_ : (x6_2 : Int) < ((x5_2.length : Int) : Int) := od; first | exact h_ | (have e_ := (Kd.R_reads' HO_5.out).1; omega) | simpa using h_); obtain rfl := k103_openM hM18; have HP18 := Kd.R_seg HX18.out (x6_2 : Int) (od) (by have h_ : (x6_2 : Int) < ((x5_2.length : Int) : Int) := od; first | exact h_ | (have e_ := (Kd.R_reads' HO_5.out).1; omega) | simpa using h_) (seg := [.int .i64 t269, .int .i64 t270, .int .i64 t271, .int .i64 t272, .int .i64 t273]) (j := 0) hcl18 hcc18 (show 5 ≤ 5 from by decide) (x' := (⟨t269, t270, t271, t272, t273⟩ : S103)) (k103_mkM _ _ _ (⟨t269, t270, t271, t272, t273⟩ : S103) ) (fun _ hk => hk); have hx18_0 := hcc18 0 _ rfl; (try simp only [show (k103).sz = 5 from rfl, Nat.mul_one, Nat.add_zero] at hx18_0); have hf18_0 := hfr18 0; (try simp only [show (k103).sz = 5 from rfl, Nat.mul_one, Nat.add_zero] at hf18_0); have hx18_1 := hcc18 1 _ rfl; (try simp only [show (k103).sz = 5 from rfl, Nat.mul_one, Nat.add_zero] at hx18_1); have hf18_1 := hfr18 1; (try simp only [show (k103).sz = 5 from rfl, Nat.mul_one, Nat.add_zero] at hf18_1); have hx18_2 := hcc18 2 _ rfl; (try simp only [show (k103).sz = 5 from rfl, Nat.mul_one, Nat.add_zero] at hx18_2); have hf18_2 := hfr18 2; (try simp only [show (k103).sz = 5 from rfl, Nat.mul_one, Nat.add_zero] at hf18_2); have hx18_3 := hcc18 3 _ rfl; (try simp only [show (k103).sz = 5 from rfl, Nat.mul_one, Nat.add_zero] at hx18_3); have hf18_3 := hfr18 3; (try simp only [show (k103).sz = 5 from rfl, Nat.mul_one, Nat.add_zero] at hf18_3); have hx18_4 := hcc18 4 _ rfl; (try simp only [show (k103).sz = 5 from rfl, Nat.mul_one, Nat.add_zero] at hx18_4); have hf18_4 := hfr18 4; (try simp only [show (k103).sz = 5 from rfl, Nat.mul_one, Nat.add_zero] at hf18_4); clear hcl18 hcc18 hfr18 hM18) | ((with_reducible refine gate_store (t := 103) (p := 34) rfl ?_); refine store_event (t := 103) (p := 34) (v := ?vo_w19) (w1 := (((((w17.setCell ⟨go16, (x6_2 : Int).toNat * 5, none⟩ (.int .i64 t269)).setCell ⟨go16, (x6_2 : Int).toNat * 5 + 1, none⟩ (.int .i64 t270)).setCell ⟨go16, (x6_2 : Int).toNat * 5 + 2, none⟩ (.int .i64 t271)).setCell ⟨go16, (x6_2 : Int).toNat * 5 + 3, none⟩ (.int .i64 t272)).setCell ⟨go16, (x6_2 : Int).toNat * 5 + 4, none⟩ (.int .i64 t273))) ?hg ?ho ?hn ?hr ?_; (case ho => rfl); (case hg => rfl); (case hn => rfl); (case hr => first | (go_simp; done) | (go_simp; rfl)); intro w19 hw; have hg : w17.grownBy w19 (some go16) := (by rw [hw]; exact HP18.2); have hp_ : Kd.R k103 103 w19 w.heap.size (fun _ => True) (.slice (some ⟨go16, 0, none⟩) x5_2.length co16) y274 := (by rw [hw, Ny274.out]; exact HP18.1); clear HP18; replace HO_5 := ak (hp_); replace HB := ak ((by rw [hw]; exact below_set (below_set (below_set (below_set (below_set (HB.out) GB16.out) GB16.out) GB16.out) GB16.out) GB16.out : Below w.heap.size w w19)); clear hg hw hp_))
           go_roundg k2
           case measure => have := HJ2.out; have := HK2.out; omega
           case rel => exact ⟨(y274), (wrap64 (x6_2 + 1)), es, H', ⟨by have := HJ2.out; have := HK2.out; omega⟩, ⟨vr HO_5.out⟩, ⟨vb HB.out⟩⟩
          ·exact nO_ c15 H
         ·exact nO_ c13 H
        ·rw [if_neg c12] at H; have c12b0 := decide_eq_false c12; clear c12; have H' := ak H; clear H; go_wp2
         go_loopg [7] k2 (fun kq v7 w' => ∃ (x5_3 : List (S103)) (x7_3 : Int), v7 = .int .i64 x7_3 ∧ Aside0 (laws_toAreaSg.l1 kq l0 x5_3 x7_3 = some r) ∧ Aside0 (kq ≤ k2) ∧ Aside0 (Kd.R k103 103 w' w.heap.size (fun _ => True) v266 x5_3) ∧ Aside0 (Below w.heap.size w w'))
         case atStart => exact ⟨(x5_2), ((l0.length : Int)), es, H', ⟨Nat.le_refl _⟩, ⟨vr HO_5.out⟩, ⟨vb HB.out⟩⟩
         case round =>
          clear H'; obtain ⟨x5_3, x7_3, rfl, HA, HK3, HO_5, HB⟩ := hrel
          cases gk with
          | zero => exact absurd HA.out (by simp [laws_toAreaSg.l1])
          | succ k3 =>
           have H := HA.out; clear HA; simp only [laws_toAreaSg.l1] at H
           by_cases c20 : x7_3 < (x5_3.length : Int)
           ·rw [if_pos c20] at H; have c20b0 := decide_eq_true c20; clear c20; obtain ⟨⟨t275, t276, t277, t278, t279⟩, A210, H⟩ := bnd H; replace H : (if 0 ≤ x7_3 then (laws_toAreaSg.l1 k3 l0 (x5_3.set (x7_3 : Int).toNat (⟨t275, t276, t277, t278, t279⟩ : S103)) (wrap64 (x7_3 + 1))) else (none)) = some r := H; have A21 := ak A210; clear A210; by_cases c22 : 0 ≤ x7_3
            ·rw [if_pos c22] at H; have c22b0 := decide_eq_true c22; clear c22; obtain ⟨y280, hy280⟩ := gen_ ((x5_3.set (x7_3 : Int).toNat (⟨t275, t276, t277, t278, t279⟩ : S103) : List (S103))); rw [← hy280] at H; have Ny280 := ak hy280; clear hy280; have H' := ak H; clear H; obtain ⟨Ao24, co24, eo24⟩ := Kd.R_slice HO_5.out; subst eo24; go_wp2_with (first | ((with_reducible refine at_fn (f := 112) rfl ?_); refine gl (some 45) Try.func112 #[] ?_; (with_reducible refine (laws_fillerArea.calls  t275 t276 t277 t278 t279 _ A21.out).mono ?_); rintro e w25 ⟨rfl, hb⟩; refine ⟨_, rfl, ?_⟩; replace HO_5 := ak (Kd.R_below (vr HO_5.out) hb); replace HB := bs HB hb; (try clear hb); have p23 : 0 ≤ (x7_3 : Int) := od; have q23 : (x7_3 : Int) < ((x5_3.length : Int) : Int) := od; obtain ⟨go23, co23, eo23, gb23, gl23, cl23, HG23⟩ := Kd.R_form HO_5.out (by omega); (first | cases eo23 | (injection eo23 with ea_ en_ ec_; (first | subst ea_ | (injection ea_ with ea_; subst ea_)); subst ec_; clear en_)); have GB23 := ak gb23; have GG23 := ak HG23; clear gb23 gl23 HG23; obtain ⟨ce23, hcl23, hM23, hcc23, hfr23⟩ := Kd.R_elem HO_5.out z103 (x7_3 : Int) p23 q23; obtain rfl := k103_openM hM23; have hx23_0 : w25.cell? ⟨go23, (x7_3 : Int).toNat * 5, none⟩ = some (.int .i64 ((rd_T103 x5_3 x7_3).f0)) := hcc23 0 _ rfl; have hx23_1 : w25.cell? ⟨go23, (x7_3 : Int).toNat * 5 + 1, none⟩ = some (.int .i64 ((rd_T103 x5_3 x7_3).f1)) := hcc23 1 _ rfl; have hx23_2 : w25.cell? ⟨go23, (x7_3 : Int).toNat * 5 + 2, none⟩ = some (.int .i64 ((rd_T103 x5_3 x7_3).f2)) := hcc23 2 _ rfl; have hx23_3 : w25.cell? ⟨go23, (x7_3 : Int).toNat * 5 + 3, none⟩ = some (.int .i64 ((rd_T103 x5_3 x7_3).f3)) := hcc23 3 _ rfl; have hx23_4 : w25.cell? ⟨go23, (x7_3 : Int).toNat * 5 + 4, none⟩ = some (.int .i64 ((rd_T103 x5_3 x7_3).f4)) := hcc23 4 _ rfl; have hf23_0 : w25.frozen? ⟨go23, (x7_3 : Int).toNat * 5, none⟩ = false := hfr23 0; have hf23_1 : w25.frozen? ⟨go23, (x7_3 : Int).toNat * 5 + 1, none⟩ = false := hfr23 1; have hf23_2 : w25.frozen? ⟨go23, (x7_3 : Int).toNat * 5 + 2, none⟩ = false := hfr23 2; have hf23_3 : w25.frozen? ⟨go23, (x7_3 : Int).toNat * 5 + 3, none⟩ = false := hfr23 3; have hf23_4 : w25.frozen? ⟨go23, (x7_3 : Int).toNat * 5 + 4, none⟩ = false := hfr23 4; clear hcl23 hcc23 hfr23 hM23; replace p23 := eq_true p23; replace q23 := eq_true q23; have HX26 := ak (show Kd.R k103 103 w25 w.heap.size (fun _ => True) (.slice (some ⟨go23, 0, none⟩) x5_3.length co24) x5_3 from (vr HO_5.out)); obtain ⟨ce26, hcl26, hM26, hcc26, hfr26⟩ := Kd.R_elem HX26.out z103 (x7_3 : Int) (od) (by have h_ : (x7_3 : Int) < ((x5_3.length : Int) : Int) := od; first | exact h_ | (have e_ := (Kd.R_reads' HO_5.out).1; omega) | simpa using h_); obtain rfl := k103_openM hM26; have HP26 := Kd.R_seg HX26.out (x7_3 : Int) (od) (by have h_ : (x7_3 : Int) < ((x5_3.length : Int) : Int) := od; first | exact h_ | (have e_ := (Kd.R_reads' HO_5.out).1; omega) | simpa using h_) (seg := [.int .i64 t275, .int .i64 t276, .int .i64 t277, .int .i64 t278, .int .i64 t279]) (j := 0) hcl26 hcc26 (show 5 ≤ 5 from by decide) (x' := (⟨t275, t276, t277, t278, t279⟩ : S103)) (k103_mkM _ _ _ (⟨t275, t276, t277, t278, t279⟩ : S103) ) (fun _ hk => hk); have hx26_0 := hcc26 0 _ rfl; (try simp only [show (k103).sz = 5 from rfl, Nat.mul_one, Nat.add_zero] at hx26_0); have hf26_0 := hfr26 0; (try simp only [show (k103).sz = 5 from rfl, Nat.mul_one, Nat.add_zero] at hf26_0); have hx26_1 := hcc26 1 _ rfl; (try simp only [show (k103).sz = 5 from rfl, Nat.mul_one, Nat.add_zero] at hx26_1); have hf26_1 := hfr26 1; (try simp only [show (k103).sz = 5 from rfl, Nat.mul_one, Nat.add_zero] at hf26_1); have hx26_2 := hcc26 2 _ rfl; (try simp only [show (k103).sz = 5 from rfl, Nat.mul_one, Nat.add_zero] at hx26_2); have hf26_2 := hfr26 2; (try simp only [show (k103).sz = 5 from rfl, Nat.mul_one, Nat.add_zero] at hf26_2); have hx26_3 := hcc26 3 _ rfl; (try simp only [show (k103).sz = 5 from rfl, Nat.mul_one, Nat.add_zero] at hx26_3); have hf26_3 := hfr26 3; (try simp only [show (k103).sz = 5 from rfl, Nat.mul_one, Nat.add_zero] at hf26_3); have hx26_4 := hcc26 4 _ rfl; (try simp only [show (k103).sz = 5 from rfl, Nat.mul_one, Nat.add_zero] at hx26_4); have hf26_4 := hfr26 4; (try simp only [show (k103).sz = 5 from rfl, Nat.mul_one, Nat.add_zero] at hf26_4); clear hcl26 hcc26 hfr26 hM26) | ((with_reducible refine gate_store (t := 103) (p := 46) rfl ?_); refine store_event (t := 103) (p := 46) (v := ?vo_w27) (w1 := (((((w25.setCell ⟨go23, (x7_3 : Int).toNat * 5, none⟩ (.int .i64 t275)).setCell ⟨go23, (x7_3 : Int).toNat * 5 + 1, none⟩ (.int .i64 t276)).setCell ⟨go23, (x7_3 : Int).toNat * 5 + 2, none⟩ (.int .i64 t277)).setCell ⟨go23, (x7_3 : Int).toNat * 5 + 3, none⟩ (.int .i64 t278)).setCell ⟨go23, (x7_3 : Int).toNat * 5 + 4, none⟩ (.int .i64 t279))) ?hg ?ho ?hn ?hr ?_; (case ho => rfl); (case hg => rfl); (case hn => rfl); (case hr => first | (go_simp; done) | (go_simp; rfl)); intro w27 hw; have hg : w25.grownBy w27 (some go23) := (by rw [hw]; exact HP26.2); have hp_ : Kd.R k103 103 w27 w.heap.size (fun _ => True) (.slice (some ⟨go23, 0, none⟩) x5_3.length co24) y280 := (by rw [hw, Ny280.out]; exact HP26.1); clear HP26; replace HO_5 := ak (hp_); replace HB := ak ((by rw [hw]; exact below_set (below_set (below_set (below_set (below_set (HB.out) GB23.out) GB23.out) GB23.out) GB23.out) GB23.out : Below w.heap.size w w27)); clear hg hw hp_))
             go_roundg k3
             case measure => have := HJ2.out; have := HK2.out; have := HK3.out; omega
             case rel => exact ⟨(y280), (wrap64 (x7_3 + 1)), es, H', ⟨by have := HJ2.out; have := HK2.out; have := HK3.out; omega⟩, ⟨vr HO_5.out⟩, ⟨vb HB.out⟩⟩
            ·exact nO_ c22 H
           ·rw [if_neg c20] at H; have c20b0 := decide_eq_false c20; clear c20; by_cases c28 : 0 ≤ (l0.length : Int)
            ·rw [if_pos c28] at H; have c28b0 := eq_true c28; have c28b1 : decide (0 ≤ (l0.length : Int)) = true := decide_eq_true c28; clear c28; by_cases c29 : (l0.length : Int) ≤ (x5_3.length : Int)
             ·rw [if_pos c29] at H; have c29b0 := eq_true c29; have c29b1 : decide ((l0.length : Int) ≤ (x5_3.length : Int)) = true := decide_eq_true c29; clear c29; obtain ⟨y281, hy281⟩ : ∃ y_ : List (S103), y_ = (x5_3.take ((l0.length : Int) : Int).toNat) := ⟨_, rfl⟩; have Ny281 := ak hy281; clear hy281; obtain rfl := sj H; obtain ⟨Ao30, co30, eo30⟩ := Kd.R_slice HO_5.out; subst eo30; have q31 : ((l0.length : Int) : Int) ≤ ((x5_3.length : Int) : Int) := od; obtain ⟨i031, hi031, _, hsz31, _⟩ := info_parts info103; have hcut31 := cut_to (P := Try.prog) 31 103 .i64 Try.underlying31 hi031 Ao30 x5_3.length co30 (l0.length : Int) (od) q31 (Kd.R_reads' HO_5.out).2.1; have hr31 := Kd.R_take (m := ((l0.length : Int) : Int).toNat) HO_5.out (by omega); have hy31 : y281.length = ((l0.length : Int) : Int).toNat := (by rw [Ny281.out, List.length_take]; omega); rw [← Ny281.out] at hr31; rw [← hy31] at hr31 hcut31; clear hy31 hi031 hsz31; have HO283 := ak hr31; clear hr31; replace q31 := eq_true q31; go_wp2
              go_ret
              exact ⟨Ao30, co30, (by rw [show vis l0.length x5_3.length = y281.length from by rw [Ny281.out, Int.toNat_natCast, List.length_take]; rfl]; rfl), vr HO_5.out, vb HB.out⟩
             ·exact nO_ c29 H
            ·exact nO_ c28 H
     ·exact nO_ c9 H
    ·exact nO_ c8 H
def laws_toAreaS.conv (x : S105) : S103 := ⟨x.f0, x.f1, x.f2, x.f3, x.f4⟩
theorem laws_toAreaS.w1 {i n : Nat} (h : i < n) (hn : n ≤ 4000000) : wrap64 ((i : Int) + 1) = ((i + 1 : Nat) : Int) := by unfold wrap64; omega
theorem laws_toAreaS.l1_eval (x0 : List S105) (d : Nat) : ∀ (k : Nat) (F : List S103) (i : Nat), x0.length ≤ i → F.length = i + d → F.length ≤ 4000000 → d < k →
  laws_toAreaSg.l1 k x0 F (i : Int) = some (F.take i ++ List.replicate d (⟨(-7000000000000000101), (-7000000000000000101), (-7000000000000000101), (-7000000000000000101), (-7000000000000000101)⟩ : S103)) := by
 induction d with
 | zero =>
  intro k F i h0 h1 h2 h3; obtain ⟨k, rfl⟩ : ∃ m, k = m + 1 := ⟨k - 1, by omega⟩; simp only [laws_toAreaSg.l1]
  rw [if_neg (by omega), if_pos (by omega), if_pos (by omega)]; simp [List.take_of_length_le (show F.length ≤ i by omega)]
 | succ d ih =>
  intro k F i h0 h1 h2 h3; obtain ⟨k, rfl⟩ : ∃ m, k = m + 1 := ⟨k - 1, by omega⟩; have e := ih k (F.set i (⟨(-7000000000000000101), (-7000000000000000101), (-7000000000000000101), (-7000000000000000101), (-7000000000000000101)⟩ : S103)) (i + 1) (by omega) (by simp; omega) (by simpa using h2) (by omega); simp only [laws_toAreaSg.l1, laws_fillerArea.f, Option.bind_some]
  rw [if_pos (by omega), if_pos (by omega), laws_toAreaS.w1 (n := F.length) (by omega) h2, Int.toNat_natCast]; refine Eq.trans e ?_; rw [take_succ_set F i (⟨(-7000000000000000101), (-7000000000000000101), (-7000000000000000101), (-7000000000000000101), (-7000000000000000101)⟩ : S103) (by omega), List.append_assoc]; rfl
theorem laws_toAreaS.l0_eval (x0 : List S105) (d : Nat) : ∀ (k : Nat) (F : List S103) (i : Nat), x0.length = i + d → x0.length ≤ F.length → F.length ≤ 4000000 → d + (F.length - x0.length) + 1 < k →
  laws_toAreaSg.l0 k x0 F (i : Int) = some (F.take i ++ (x0.drop i).map laws_toAreaS.conv ++ List.replicate (F.length - x0.length) (⟨(-7000000000000000101), (-7000000000000000101), (-7000000000000000101), (-7000000000000000101), (-7000000000000000101)⟩ : S103)) := by
 induction d with
 | zero =>
  intro k F i h0 h1 h2 h3; obtain ⟨k, rfl⟩ : ∃ m, k = m + 1 := ⟨k - 1, by omega⟩; simp only [laws_toAreaSg.l0]
  have hi : i = x0.length := by omega
  subst hi; rw [if_neg (by omega), laws_toAreaS.l1_eval x0 (F.length - x0.length) k F x0.length (Nat.le_refl _) (by omega) h2 (by omega)]; simp
 | succ d ih =>
  intro k F i h0 h1 h2 h3; obtain ⟨k, rfl⟩ : ∃ m, k = m + 1 := ⟨k - 1, by omega⟩; have hlt : i < x0.length := by omega
  have e := ih k (F.set i (laws_toAreaS.conv x0[i])) (i + 1) (by omega) (by simpa using h1) (by simpa using h2) (by simp; omega); simp only [laws_toAreaSg.l0, laws_toArea.f, Option.bind_some]
  have hr : rd_T105 x0 (i : Int) = x0[i] := by simp [rd_T105, hlt]
  rw [if_pos (by omega), if_pos (by omega), if_pos (by omega), laws_toAreaS.w1 (n := F.length) (by omega) h2, Int.toNat_natCast, hr]; refine Eq.trans e ?_; rw [take_succ_set F i (laws_toAreaS.conv x0[i]) (by omega), List.length_set, List.drop_eq_getElem_cons hlt]; simp only [List.map_cons, List.append_assoc, List.cons_append, List.nil_append]
theorem laws_toAreaS.g_eval (l0 : List S105) (a1 : Bool) (h : l0.length ≤ 1000000) : ∃ k, laws_toAreaSg.f k l0 a1 = some (if a1 = true ∧ l0 = [] then [] else full (l0.map laws_toAreaS.conv)) := by
 obtain ⟨K, hK⟩ : ∃ K, K = l0.length + roomN l0.length + 5 := ⟨_, rfl⟩; refine ⟨K + 1, ?_⟩; have hr := room_f l0.length; have hl : roomN l0.length ≤ 1000000 := by unfold roomN; (repeat' split) <;> omega
 have hj : laws_toAreaSg.j0 (K + 1) l0 false = some (full (l0.map laws_toAreaS.conv)) := by
  simp only [laws_toAreaSg.j0]
  rw [if_neg (by decide), hr]; rw [Option.bind_some]; have hw : wrap64 ((l0.length : Int) + ((roomN l0.length : Nat) : Int)) = ((l0.length + roomN l0.length : Nat) : Int) := by unfold wrap64; omega
  rw [hw, if_pos (by omega), if_pos (by omega), Int.toNat_natCast]; have e := laws_toAreaS.l0_eval l0 l0.length K (List.replicate (l0.length + roomN l0.length) z103) 0 (by omega) (by simp) (by simp <;> omega) (by simp <;> omega); refine Eq.trans e ?_; simp [full, Fil.fil]
  try rfl
 unfold laws_toAreaSg.f
 by_cases h1 : a1 = true
 ·rw [if_pos h1]; by_cases h2 : l0 = []
  ·subst h2; rw [if_pos ⟨h1, rfl⟩]; simp only [laws_toAreaSg.j0]
   rw [if_pos (by decide)]
  ·rw [if_neg (fun h3 => h2 h3.2)]
   have h3 : ((l0.length : Int) == 0) = false := by
    have : l0.length ≠ 0 := fun h4 => h2 (List.length_eq_zero_iff.1 h4)
    rw [beq_eq_false_iff_ne]; omega
   rw [h3]; exact hj
 ·rw [if_neg h1, if_neg (fun h2 => h1 h2.1)]; exact hj
def laws_toAreaS.f (_k : Nat) (l0 : List S105) (_a1 : Bool) : Option (List S103) := if l0.length ≤ 1000000 then some (l0.map laws_toAreaS.conv) else none
theorem laws_toAreaS.mono : ∀ a0 a1 k, LeO (laws_toAreaS.f k a0 a1) (laws_toAreaS.f (k + 1) a0 a1) := fun _ _ _ => LeO.refl _
theorem laws_toAreaS.callsF (k : Nat) (A0 : Option Addr) (c0 : Nat) (l0 : List S105) (r : List S103) (w : World) (hr0 : Kd.C k105 w A0 l0.length l0) (hc0 : l0.length ≤ c0) (h : laws_toAreaS.f k l0 false = some r) :
  Calls Try.prog 61 #[.slice A0 l0.length c0, .bool false] w fun e w' => ∃ v0_ : Value, e = .returned (v0_) ∧ Kd.P k103 103 w' w.heap.size (fun _ => True) v0_ r ∧ Below w.heap.size w w' := by
 unfold laws_toAreaS.f at h
 split at h
 ·rename_i hl
  obtain rfl := Option.some.inj h; obtain ⟨k', hk⟩ := laws_toAreaS.g_eval l0 false hl; rw [if_neg (fun h2 => absurd h2.1 (by decide))] at hk; refine (laws_toAreaSg.calls k' A0 c0 l0 false _ w hr0 hc0 hk).mono ?_; rintro e w' ⟨A_, c_, rfl, h1, h2⟩; refine ⟨_, rfl, ⟨fun _ _ => trivial, A_, c_, ?_, h1⟩, h2⟩; first | (rw [vis_le (by simp [full])]; done) | (rw [vis_le (by simp [full])]; simp)
 ·exact absurd h (by simp)
theorem laws_toAreaS.calls (k : Nat) (A0 : Option Addr) (c0 : Nat) (l0 : List S105) (a1 : Bool) (r : List S103) (w : World) (hr0 : Kd.C k105 w A0 l0.length l0) (hc0 : l0.length ≤ c0) (h : laws_toAreaS.f k l0 a1 = some r) :
  Calls Try.prog 61 #[.slice A0 l0.length c0, .bool a1] w fun e w' => ∃ v0_ : Value, e = .returned (v0_) ∧ Kd.R k103 103 w' w.heap.size (fun _ => True) v0_ r ∧ Below w.heap.size w w' := by
 unfold laws_toAreaS.f at h
 split at h
 ·rename_i hl
  obtain rfl := Option.some.inj h; obtain ⟨k', hk⟩ := laws_toAreaS.g_eval l0 a1 hl; refine (laws_toAreaSg.calls k' A0 c0 l0 a1 _ w hr0 hc0 hk).mono ?_; rintro e w' ⟨A_, c_, rfl, h1, h2⟩; refine ⟨_, rfl, ?_, h2⟩; by_cases hz : a1 = true ∧ l0 = []
  ·obtain ⟨rfl, rfl⟩ := hz; rw [if_pos ⟨rfl, rfl⟩] at h1 ⊢; simpa [vis_zero] using h1
  ·rw [if_neg hz] at h1 ⊢; have := Kd.R_take h1 (m := l0.length) (by simp [full]); rw [vis_le (by simp [full])]; simpa [full] using this
 ·exact absurd h (by simp)

/-! ### laws_toField: function 17 -/
def laws_toField.f (k : Nat) (l0_0 : List (S100)) (l0_1 : List (S105)) (l0_2 : List Int) (l0_3 : List Int) (l0_4 : List Int) (a0_5 : Int) (a1 : Bool) : Option ((List (S98)) × (List (S103)) × List Int × List Int × List Int × Int) := (laws_toDemandS.f k l0_0 a1).bind fun t287 => ((laws_toAreaS.f k l0_1 a1).bind fun t290 => ((laws_toInt64S.f k l0_2 a1).bind fun t293 => ((laws_toInt64S.f k l0_3 a1).bind fun t296 => ((laws_toInt64S.f k l0_4 a1).bind fun t299 => (some (t287, t290, t293, t296, t299, a0_5))))))
theorem laws_toField.mono : ∀ a0 a1 a2 a3 a4 a5 a6 k, LeO (laws_toField.f k a0 a1 a2 a3 a4 a5 a6) (laws_toField.f (k + 1) a0 a1 a2 a3 a4 a5 a6) := by
 intro a0 a1 a2 a3 a4 a5 a6 k; unfold laws_toField.f
 repeat' (with_reducible first | exact laws_toAreaS.mono .. | exact laws_toDemandS.mono .. | exact laws_toInt64S.mono .. | exact lm | refine LeO.ite ?_ ?_ | refine LeO.bind ?_ (fun _ => ?_))
set_option maxHeartbeats 8000000 in
set_option maxRecDepth 100000 in
theorem laws_toField.calls (k : Nat) (A0_0 : Option Addr) (c0_0 : Nat) (l0_0 : List (S100)) (A0_1 : Option Addr) (c0_1 : Nat) (l0_1 : List (S105)) (A0_2 : Option Addr) (c0_2 : Nat) (l0_2 : List Int) (A0_3 : Option Addr) (c0_3 : Nat) (l0_3 : List Int) (A0_4 : Option Addr) (c0_4 : Nat) (l0_4 : List Int) (a0_5 : Int) (a1 : Bool) (r1 : List (S98)) (r2 : List (S103)) (r3 : List Int) (r4 : List Int) (r5 : List Int) (r6 : Int) (w : World) (hr0_0 : Kd.C k100 w A0_0 l0_0.length l0_0) (hc0_0 : l0_0.length ≤ c0_0) (hr0_1 : Kd.C k105 w A0_1 l0_1.length l0_1) (hc0_1 : l0_1.length ≤ c0_1) (hr0_2 : Kd.C (Kd.int .i64) w A0_2 l0_2.length l0_2) (hc0_2 : l0_2.length ≤ c0_2) (hr0_3 : Kd.C (Kd.int .i64) w A0_3 l0_3.length l0_3) (hc0_3 : l0_3.length ≤ c0_3) (hr0_4 : Kd.C (Kd.int .i64) w A0_4 l0_4.length l0_4) (hc0_4 : l0_4.length ≤ c0_4) (h : laws_toField.f k l0_0 l0_1 l0_2 l0_3 l0_4 a0_5 a1 = some (r1, r2, r3, r4, r5, r6)) :
  Calls Try.prog 17 #[.agg (f5 A0_0 l0_0 c0_0 A0_1 l0_1 c0_1 A0_2 l0_2 c0_2 A0_3 l0_3 c0_3 A0_4 l0_4 c0_4 a0_5), .bool a1] w fun e w' => ∃ v0_ v1_ v2_ v3_ v4_ : Value, e = .returned (.agg #[v0_, v1_, v2_, v3_, v4_, .int .i64 r6]) ∧ Kd.R k98 98 w' w.heap.size (fun _ => True) v0_ r1 ∧ Kd.R k103 103 w' w.heap.size (fun _ => True) v1_ r2 ∧ Kd.R (Kd.int .i64) 2 w' w.heap.size (fun k_ => some k_ ≠ (v3_ : Value).ownBlock ∧ some k_ ≠ (v4_ : Value).ownBlock) v2_ r3 ∧ Kd.R (Kd.int .i64) 2 w' w.heap.size (fun k_ => some k_ ≠ (v2_ : Value).ownBlock ∧ some k_ ≠ (v4_ : Value).ownBlock) v3_ r4 ∧ Kd.R (Kd.int .i64) 2 w' w.heap.size (fun k_ => some k_ ≠ (v2_ : Value).ownBlock ∧ some k_ ≠ (v3_ : Value).ownBlock) v4_ r5 ∧ Below w.heap.size w w' := by
 have hu26 := Try.underlying26; have hu33 := Try.underlying33; have HR0_0 := ak hr0_0; have HC0_0 := ak hc0_0; clear hr0_0 hc0_0; have HR0_1 := ak hr0_1; have HC0_1 := ak hc0_1; clear hr0_1 hc0_1; have HR0_2 := ak hr0_2; have HC0_2 := ak hc0_2; clear hr0_2 hc0_2; have HR0_3 := ak hr0_3; have HC0_3 := ak hc0_3; clear hr0_3 hc0_3; have HR0_4 := ak hr0_4; have HC0_4 := ak hc0_4; clear hr0_4 hc0_4; have HB := ak (Below.refl w.heap.size w); unfold laws_toField.f at h; have H := h; clear h; obtain ⟨t287, A3, H⟩ := bnk H; obtain ⟨t290, A4, H⟩ := bnk H
 obtain ⟨t293, A5, H⟩ := bnk H; obtain ⟨t296, A6, H⟩ := bnk H; obtain ⟨t299, A7, H⟩ := bnk H; simp only [Option.some.injEq, Prod.mk.injEq] at H
 obtain ⟨rfl, rfl, rfl, rfl, rfl, rfl⟩ := H; go_enter Try.func17, Try.ntmps17; go_wp2_with (first | ((with_reducible refine gate_dst (N := 2) rfl ?_); refine bx 2 (f5 A0_0 l0_0 c0_0 A0_1 l0_1 c0_1 A0_2 l0_2 c0_2 A0_3 l0_3 c0_3 A0_4 l0_4 c0_4 a0_5) 26 ?_; intro gb284 hg w8 hbox hb; have BK284 := ak hbox; have GW284 := gw hg HB; have GE284 := gw hg HB; replace HB := bs HB hb; clear hb hbox hg) | ((with_reducible refine gate_dst (N := 4) rfl ?_); refine bx 4 #[.slice none 0 0, .slice none 0 0, .slice none 0 0, .slice none 0 0, .slice none 0 0, .int .i64 0] 33 ?_; intro gb285 hg w9 hbox hb; have BK285 := ak hbox; have GW285 := gw hg HB; have GE285 := gw hg HB; replace HB := bs HB hb; have NB284_285 := ak ((by rw [hg]; exact Nat.ne_of_lt (blk_lt (vk BK284.out)) : gb284 ≠ gb285)); have NB285_284 := ak ((by rw [hg]; exact Nat.ne_of_gt (blk_lt (vk BK284.out)) : gb285 ≠ gb284)); replace BK284 := kb BK284 hb; clear hb hbox hg) | ((with_reducible refine gate_dst (N := 5) rfl ?_); refine bx 5 #[.slice none 0 0, .slice none 0 0, .slice none 0 0, .slice none 0 0, .slice none 0 0, .int .i64 0] 33 ?_; intro gb286 hg w10 hbox hb; have BK286 := ak hbox; have GW286 := gw hg HB; have GE286 := gw hg HB; replace HB := bs HB hb; have NB284_286 := ak ((by rw [hg]; exact Nat.ne_of_lt (blk_lt (vk BK284.out)) : gb284 ≠ gb286)); have NB286_284 := ak ((by rw [hg]; exact Nat.ne_of_gt (blk_lt (vk BK284.out)) : gb286 ≠ gb284)); replace BK284 := kb BK284 hb; have NB285_286 := ak ((by rw [hg]; exact Nat.ne_of_lt (blk_lt (vk BK285.out)) : gb285 ≠ gb286)); have NB286_285 := ak ((by rw [hg]; exact Nat.ne_of_gt (blk_lt (vk BK285.out)) : gb286 ≠ gb285)); replace BK285 := kb BK285 hb; clear hb hbox hg; have hnb11 := NB284_285.out; have hnc11 := NB285_284.out; have hnb12 := NB284_286.out; have hnc12 := NB286_284.out; have hcz13 := cz6 BK284.out) | ((with_reducible refine at_fn (f := 60) rfl ?_); refine gl (some 9) Try.func60 #[.slice A0_0 l0_0.length c0_0, .bool a1] ?_; (with_reducible refine (laws_toDemandS.calls k _ _ l0_0 a1 t287 _ ?_ HC0_0.out A3.out).mono ?_); exact vd HR0_0.out HB.out; rintro e w14 ⟨v288, rfl, ho0, hb⟩; refine ⟨_, rfl, ?_⟩; have HO289 := ak (Kd.R_lower ho0 (below_size (vb HB.out))); replace BK284 := kb BK284 hb; replace BK285 := kb BK285 hb; replace BK286 := kb BK286 hb; replace HB := bs HB hb; (try clear hb); (try clear ho0); obtain ⟨Ao15, co15, eo15⟩ := Kd.R_slice HO289.out; subst eo15; have hnb16 := NB286_285.out; have hnc16 := NB285_286.out; have hcz17 := cz6 BK286.out; have hcz18 := cz6 BK284.out) | ((with_reducible refine at_fn (f := 61) rfl ?_); refine gl (some 14) Try.func61 #[.slice A0_1 l0_1.length c0_1, .bool a1] ?_; (with_reducible refine (laws_toAreaS.calls k _ _ l0_1 a1 t290 _ ?_ HC0_1.out A4.out).mono ?_); exact Kd.C_below HR0_1.out (vb HB.out); rintro e w19 ⟨v291, rfl, ho0, hb⟩; refine ⟨_, rfl, ?_⟩; replace HO289 := ak (Kd.R_below (rz HO289.out BK286.out) hb); have HO292 := ak (Kd.R_lower ho0 (below_size (vb HB.out))); replace BK284 := kb BK284 hb; replace BK285 := kb BK285 hb; replace BK286 := ak (blk_below (g := gb286) (o := .cells #[.slice Ao15 t287.length co15, .slice none 0 0, .slice none 0 0, .slice none 0 0, .slice none 0 0, .int .i64 0] 33 (0, 0)) (vz BK286.out) hb); replace HB := bs HB hb; (try clear hb); (try clear ho0); obtain ⟨Ao20, co20, eo20⟩ := Kd.R_slice HO292.out; subst eo20; have hcz21 := cz6 BK286.out; have hcz22 := cz6 BK284.out) | ((with_reducible refine at_fn (f := 27) rfl ?_); refine gl (some 19) Try.func27 #[.slice A0_2 l0_2.length c0_2, .bool a1] ?_; (with_reducible refine (laws_toInt64S.calls k _ _ l0_2 a1 t293 _ ?_ HC0_2.out A5.out).mono ?_); exact Kd.C_below HR0_2.out (vb HB.out); rintro e w23 ⟨v294, rfl, ho0, hb⟩; refine ⟨_, rfl, ?_⟩; replace HO289 := ak (Kd.R_below (rz HO289.out BK286.out) hb); replace HO292 := ak (Kd.R_below (rz HO292.out BK286.out) hb); have HO295 := ak (Kd.R_lower ho0 (below_size (vb HB.out))); replace BK284 := kb BK284 hb; replace BK285 := kb BK285 hb; replace BK286 := ak (blk_below (g := gb286) (o := .cells #[.slice Ao15 t287.length co15, .slice Ao20 t290.length co20, .slice none 0 0, .slice none 0 0, .slice none 0 0, .int .i64 0] 33 (0, 0)) (vz BK286.out) hb); replace HB := bs HB hb; (try clear hb); (try clear ho0); obtain ⟨Ao24, co24, eo24⟩ := Kd.R_slice HO295.out; subst eo24; have hcz25 := cz6 BK286.out; have hcz26 := cz6 BK284.out) | ((with_reducible refine at_fn (f := 27) rfl ?_); refine gl (some 24) Try.func27 #[.slice A0_3 l0_3.length c0_3, .bool a1] ?_; (with_reducible refine (laws_toInt64S.calls k _ _ l0_3 a1 t296 _ ?_ HC0_3.out A6.out).mono ?_); exact Kd.C_below HR0_3.out (vb HB.out); rintro e w27 ⟨v297, rfl, ho0, hb⟩; refine ⟨_, rfl, ?_⟩; replace HO289 := ak (Kd.R_below (rz HO289.out BK286.out) hb); replace HO292 := ak (Kd.R_below (rz HO292.out BK286.out) hb); have HO298 := ak (Kd.R_lower (Kd.R_new' ho0 (Kd.R_lt (rz HO295.out BK286.out))) (below_size (vb HB.out))); replace HO295 := ak (Kd.R_elder' (rz HO295.out BK286.out) (Kd.R_base ho0) hb); replace BK284 := kb BK284 hb; replace BK285 := kb BK285 hb; replace BK286 := ak (blk_below (g := gb286) (o := .cells #[.slice Ao15 t287.length co15, .slice Ao20 t290.length co20, .slice Ao24 t293.length co24, .slice none 0 0, .slice none 0 0, .int .i64 0] 33 (0, 0)) (vz BK286.out) hb); replace HB := bs HB hb; (try clear hb); (try clear ho0); obtain ⟨Ao28, co28, eo28⟩ := Kd.R_slice HO298.out; subst eo28; have hcz29 := cz6 BK286.out; have hcz30 := cz6 BK284.out) | ((with_reducible refine at_fn (f := 27) rfl ?_); refine gl (some 29) Try.func27 #[.slice A0_4 l0_4.length c0_4, .bool a1] ?_; (with_reducible refine (laws_toInt64S.calls k _ _ l0_4 a1 t299 _ ?_ HC0_4.out A7.out).mono ?_); exact Kd.C_below HR0_4.out (vb HB.out); rintro e w31 ⟨v300, rfl, ho0, hb⟩; refine ⟨_, rfl, ?_⟩; replace HO289 := ak (Kd.R_below (rz HO289.out BK286.out) hb); replace HO292 := ak (Kd.R_below (rz HO292.out BK286.out) hb); have HO301 := ak (Kd.R_lower (Kd.R_new' (Kd.R_new' ho0 (Kd.R_lt (rz HO295.out BK286.out))) (Kd.R_lt (rz HO298.out BK286.out))) (below_size (vb HB.out))); replace HO295 := ak (Kd.R_elder' (rz HO295.out BK286.out) (Kd.R_base ho0) hb); replace HO298 := ak (Kd.R_elder' (rz HO298.out BK286.out) (Kd.R_base ho0) hb); replace BK284 := kb BK284 hb; replace BK285 := kb BK285 hb; replace BK286 := ak (blk_below (g := gb286) (o := .cells #[.slice Ao15 t287.length co15, .slice Ao20 t290.length co20, .slice Ao24 t293.length co24, .slice Ao28 t296.length co28, .slice none 0 0, .int .i64 0] 33 (0, 0)) (vz BK286.out) hb); replace HB := bs HB hb; (try clear hb); (try clear ho0); obtain ⟨Ao32, co32, eo32⟩ := Kd.R_slice HO301.out; subst eo32; have hcz33 := cz6 BK286.out; have hcz34 := cz6 BK284.out; have hcz35 := cz6 BK285.out))
 refine bodyPost_ret (results_cell_row rfl _ _ gb285 33 (f5 Ao15 t287 co15 Ao20 t290 co20 Ao24 t293 co24 Ao28 t296 co28 Ao32 t299 co32 a0_5) (0, 0) _ rfl (vz BK285.out) Try.underlying33 rfl (by kernel_rfl)) rfl ?_; exact ⟨_, _, _, _, _, ew, vr (Kd.R_mono (fr gb285 5 (fr gb285 4 (fr gb285 3 (fr gb285 2 (fr gb285 1 (fr gb285 0 (fr gb286 5 (fr gb286 4 (Kd.R_types (Kd.R_types HO289.out BK286.out (by decide)) BK285.out (by decide)) (fun _ hk => hk.1.2) (.slice Ao32 t299.length co32)) (fun _ hk => hk.1.2) (.int .i64 a0_5)) (fun _ hk => hk.2) (.slice Ao15 t287.length co15)) (fun _ hk => hk.2) (.slice Ao20 t290.length co20)) (fun _ hk => hk.2) (.slice Ao24 t293.length co24)) (fun _ hk => hk.2) (.slice Ao28 t296.length co28)) (fun _ hk => hk.2) (.slice Ao32 t299.length co32)) (fun _ hk => hk.2) (.int .i64 a0_5)) (fun _ hk => trivial)), vr (Kd.R_mono (fr gb285 5 (fr gb285 4 (fr gb285 3 (fr gb285 2 (fr gb285 1 (fr gb285 0 (fr gb286 5 (fr gb286 4 (Kd.R_types (Kd.R_types HO292.out BK286.out (by decide)) BK285.out (by decide)) (fun _ hk => hk.1.2) (.slice Ao32 t299.length co32)) (fun _ hk => hk.1.2) (.int .i64 a0_5)) (fun _ hk => hk.2) (.slice Ao15 t287.length co15)) (fun _ hk => hk.2) (.slice Ao20 t290.length co20)) (fun _ hk => hk.2) (.slice Ao24 t293.length co24)) (fun _ hk => hk.2) (.slice Ao28 t296.length co28)) (fun _ hk => hk.2) (.slice Ao32 t299.length co32)) (fun _ hk => hk.2) (.int .i64 a0_5)) (fun _ hk => trivial)), vr (Kd.R_mono (fr gb285 5 (fr gb285 4 (fr gb285 3 (fr gb285 2 (fr gb285 1 (fr gb285 0 (fr gb286 5 (fr gb286 4 (Kd.R_types (Kd.R_types HO295.out BK286.out (by decide)) BK285.out (by decide)) (fun _ hk => hk.1.2) (.slice Ao32 t299.length co32)) (fun _ hk => hk.1.2) (.int .i64 a0_5)) (fun _ hk => hk.2) (.slice Ao15 t287.length co15)) (fun _ hk => hk.2) (.slice Ao20 t290.length co20)) (fun _ hk => hk.2) (.slice Ao24 t293.length co24)) (fun _ hk => hk.2) (.slice Ao28 t296.length co28)) (fun _ hk => hk.2) (.slice Ao32 t299.length co32)) (fun _ hk => hk.2) (.int .i64 a0_5)) (fun _ hk => ⟨hk.1.1.1.2, hk.1.1.2⟩)), vr (Kd.R_mono (fr gb285 5 (fr gb285 4 (fr gb285 3 (fr gb285 2 (fr gb285 1 (fr gb285 0 (fr gb286 5 (fr gb286 4 (Kd.R_types (Kd.R_types HO298.out BK286.out (by decide)) BK285.out (by decide)) (fun _ hk => hk.1.2) (.slice Ao32 t299.length co32)) (fun _ hk => hk.1.2) (.int .i64 a0_5)) (fun _ hk => hk.2) (.slice Ao15 t287.length co15)) (fun _ hk => hk.2) (.slice Ao20 t290.length co20)) (fun _ hk => hk.2) (.slice Ao24 t293.length co24)) (fun _ hk => hk.2) (.slice Ao28 t296.length co28)) (fun _ hk => hk.2) (.slice Ao32 t299.length co32)) (fun _ hk => hk.2) (.int .i64 a0_5)) (fun _ hk => ⟨hk.1.1.1.2, hk.1.1.2⟩)), vr (Kd.R_mono (fr gb285 5 (fr gb285 4 (fr gb285 3 (fr gb285 2 (fr gb285 1 (fr gb285 0 (fr gb286 5 (fr gb286 4 (Kd.R_types (Kd.R_types HO301.out BK286.out (by decide)) BK285.out (by decide)) (fun _ hk => hk.1.2) (.slice Ao32 t299.length co32)) (fun _ hk => hk.1.2) (.int .i64 a0_5)) (fun _ hk => hk.2) (.slice Ao15 t287.length co15)) (fun _ hk => hk.2) (.slice Ao20 t290.length co20)) (fun _ hk => hk.2) (.slice Ao24 t293.length co24)) (fun _ hk => hk.2) (.slice Ao28 t296.length co28)) (fun _ hk => hk.2) (.slice Ao32 t299.length co32)) (fun _ hk => hk.2) (.int .i64 a0_5)) (fun _ hk => ⟨hk.1.1.1.2, hk.1.1.2⟩)), vb HB.out⟩
set_option maxHeartbeats 8000000 in
set_option maxRecDepth 100000 in
theorem laws_toField.callsF (k : Nat) (A0_0 : Option Addr) (c0_0 : Nat) (l0_0 : List (S100)) (A0_1 : Option Addr) (c0_1 : Nat) (l0_1 : List (S105)) (A0_2 : Option Addr) (c0_2 : Nat) (l0_2 : List Int) (A0_3 : Option Addr) (c0_3 : Nat) (l0_3 : List Int) (A0_4 : Option Addr) (c0_4 : Nat) (l0_4 : List Int) (a0_5 : Int) (r1 : List (S98)) (r2 : List (S103)) (r3 : List Int) (r4 : List Int) (r5 : List Int) (r6 : Int) (w : World) (hr0_0 : Kd.C k100 w A0_0 l0_0.length l0_0) (hc0_0 : l0_0.length ≤ c0_0) (hr0_1 : Kd.C k105 w A0_1 l0_1.length l0_1) (hc0_1 : l0_1.length ≤ c0_1) (hr0_2 : Kd.C (Kd.int .i64) w A0_2 l0_2.length l0_2) (hc0_2 : l0_2.length ≤ c0_2) (hr0_3 : Kd.C (Kd.int .i64) w A0_3 l0_3.length l0_3) (hc0_3 : l0_3.length ≤ c0_3) (hr0_4 : Kd.C (Kd.int .i64) w A0_4 l0_4.length l0_4) (hc0_4 : l0_4.length ≤ c0_4) (h : laws_toField.f k l0_0 l0_1 l0_2 l0_3 l0_4 a0_5 false = some (r1, r2, r3, r4, r5, r6)) :
  Calls Try.prog 17 #[.agg (f5 A0_0 l0_0 c0_0 A0_1 l0_1 c0_1 A0_2 l0_2 c0_2 A0_3 l0_3 c0_3 A0_4 l0_4 c0_4 a0_5), .bool false] w fun e w' => ∃ v0_ v1_ v2_ v3_ v4_ : Value, e = .returned (.agg #[v0_, v1_, v2_, v3_, v4_, .int .i64 r6]) ∧ Kd.P k98 98 w' w.heap.size (fun _ => True) v0_ r1 ∧ Kd.P k103 103 w' w.heap.size (fun _ => True) v1_ r2 ∧ Kd.P (Kd.int .i64) 2 w' w.heap.size (fun k_ => some k_ ≠ (v3_ : Value).ownBlock ∧ some k_ ≠ (v4_ : Value).ownBlock) v2_ r3 ∧ Kd.P (Kd.int .i64) 2 w' w.heap.size (fun k_ => some k_ ≠ (v2_ : Value).ownBlock ∧ some k_ ≠ (v4_ : Value).ownBlock) v3_ r4 ∧ Kd.P (Kd.int .i64) 2 w' w.heap.size (fun k_ => some k_ ≠ (v2_ : Value).ownBlock ∧ some k_ ≠ (v3_ : Value).ownBlock) v4_ r5 ∧ Below w.heap.size w w' := by
 have hu26 := Try.underlying26; have hu33 := Try.underlying33; have HR0_0 := ak hr0_0; have HC0_0 := ak hc0_0; clear hr0_0 hc0_0; have HR0_1 := ak hr0_1; have HC0_1 := ak hc0_1; clear hr0_1 hc0_1; have HR0_2 := ak hr0_2; have HC0_2 := ak hc0_2; clear hr0_2 hc0_2; have HR0_3 := ak hr0_3; have HC0_3 := ak hc0_3; clear hr0_3 hc0_3; have HR0_4 := ak hr0_4; have HC0_4 := ak hc0_4; clear hr0_4 hc0_4; have HB := ak (Below.refl w.heap.size w); unfold laws_toField.f at h; have H := h; clear h; obtain ⟨t287, A3, H⟩ := bnk H; obtain ⟨t290, A4, H⟩ := bnk H
 obtain ⟨t293, A5, H⟩ := bnk H; obtain ⟨t296, A6, H⟩ := bnk H; obtain ⟨t299, A7, H⟩ := bnk H; simp only [Option.some.injEq, Prod.mk.injEq] at H
 obtain ⟨rfl, rfl, rfl, rfl, rfl, rfl⟩ := H; go_enter Try.func17, Try.ntmps17; go_wp2_with (first | ((with_reducible refine gate_dst (N := 2) rfl ?_); refine bx 2 (f5 A0_0 l0_0 c0_0 A0_1 l0_1 c0_1 A0_2 l0_2 c0_2 A0_3 l0_3 c0_3 A0_4 l0_4 c0_4 a0_5) 26 ?_; intro gb284 hg w8 hbox hb; have BK284 := ak hbox; have GW284 := gw hg HB; have GE284 := gw hg HB; replace HB := bs HB hb; clear hb hbox hg) | ((with_reducible refine gate_dst (N := 4) rfl ?_); refine bx 4 #[.slice none 0 0, .slice none 0 0, .slice none 0 0, .slice none 0 0, .slice none 0 0, .int .i64 0] 33 ?_; intro gb285 hg w9 hbox hb; have BK285 := ak hbox; have GW285 := gw hg HB; have GE285 := gw hg HB; replace HB := bs HB hb; have NB284_285 := ak ((by rw [hg]; exact Nat.ne_of_lt (blk_lt (vk BK284.out)) : gb284 ≠ gb285)); have NB285_284 := ak ((by rw [hg]; exact Nat.ne_of_gt (blk_lt (vk BK284.out)) : gb285 ≠ gb284)); replace BK284 := kb BK284 hb; clear hb hbox hg) | ((with_reducible refine gate_dst (N := 5) rfl ?_); refine bx 5 #[.slice none 0 0, .slice none 0 0, .slice none 0 0, .slice none 0 0, .slice none 0 0, .int .i64 0] 33 ?_; intro gb286 hg w10 hbox hb; have BK286 := ak hbox; have GW286 := gw hg HB; have GE286 := gw hg HB; replace HB := bs HB hb; have NB284_286 := ak ((by rw [hg]; exact Nat.ne_of_lt (blk_lt (vk BK284.out)) : gb284 ≠ gb286)); have NB286_284 := ak ((by rw [hg]; exact Nat.ne_of_gt (blk_lt (vk BK284.out)) : gb286 ≠ gb284)); replace BK284 := kb BK284 hb; have NB285_286 := ak ((by rw [hg]; exact Nat.ne_of_lt (blk_lt (vk BK285.out)) : gb285 ≠ gb286)); have NB286_285 := ak ((by rw [hg]; exact Nat.ne_of_gt (blk_lt (vk BK285.out)) : gb286 ≠ gb285)); replace BK285 := kb BK285 hb; clear hb hbox hg; have hnb11 := NB284_285.out; have hnc11 := NB285_284.out; have hnb12 := NB284_286.out; have hnc12 := NB286_284.out; have hcz13 := cz6 BK284.out) | ((with_reducible refine at_fn (f := 60) rfl ?_); refine gl (some 9) Try.func60 #[.slice A0_0 l0_0.length c0_0, .bool false] ?_; (with_reducible refine (laws_toDemandS.callsF k _ _ l0_0 t287 _ ?_ HC0_0.out A3.out).mono ?_); exact vd HR0_0.out HB.out; rintro e w14 ⟨v288, rfl, ho0, hb⟩; refine ⟨_, rfl, ?_⟩; have HO289 := ak (Kd.P_lower ho0 (below_size (vb HB.out))); replace BK284 := kb BK284 hb; replace BK285 := kb BK285 hb; replace BK286 := kb BK286 hb; replace HB := bs HB hb; (try clear hb); (try clear ho0); obtain ⟨Ao15, co15, eo15⟩ := Kd.P_slice HO289.out; subst eo15; have hnb16 := NB286_285.out; have hnc16 := NB285_286.out; have hcz17 := cz6 BK286.out; have hcz18 := cz6 BK284.out) | ((with_reducible refine at_fn (f := 61) rfl ?_); refine gl (some 14) Try.func61 #[.slice A0_1 l0_1.length c0_1, .bool false] ?_; (with_reducible refine (laws_toAreaS.callsF k _ _ l0_1 t290 _ ?_ HC0_1.out A4.out).mono ?_); exact Kd.C_below HR0_1.out (vb HB.out); rintro e w19 ⟨v291, rfl, ho0, hb⟩; refine ⟨_, rfl, ?_⟩; replace HO289 := ak (Kd.P_below (pz HO289.out BK286.out) hb); have HO292 := ak (Kd.P_lower ho0 (below_size (vb HB.out))); replace BK284 := kb BK284 hb; replace BK285 := kb BK285 hb; replace BK286 := ak (blk_below (g := gb286) (o := .cells #[.slice Ao15 t287.length co15, .slice none 0 0, .slice none 0 0, .slice none 0 0, .slice none 0 0, .int .i64 0] 33 (0, 0)) (vz BK286.out) hb); replace HB := bs HB hb; (try clear hb); (try clear ho0); obtain ⟨Ao20, co20, eo20⟩ := Kd.P_slice HO292.out; subst eo20; have hcz21 := cz6 BK286.out; have hcz22 := cz6 BK284.out) | ((with_reducible refine at_fn (f := 27) rfl ?_); refine gl (some 19) Try.func27 #[.slice A0_2 l0_2.length c0_2, .bool false] ?_; (with_reducible refine (laws_toInt64S.callsF k _ _ l0_2 t293 _ ?_ HC0_2.out A5.out).mono ?_); exact Kd.C_below HR0_2.out (vb HB.out); rintro e w23 ⟨v294, rfl, ho0, hb⟩; refine ⟨_, rfl, ?_⟩; replace HO289 := ak (Kd.P_below (pz HO289.out BK286.out) hb); replace HO292 := ak (Kd.P_below (pz HO292.out BK286.out) hb); have HO295 := ak (Kd.P_lower ho0 (below_size (vb HB.out))); replace BK284 := kb BK284 hb; replace BK285 := kb BK285 hb; replace BK286 := ak (blk_below (g := gb286) (o := .cells #[.slice Ao15 t287.length co15, .slice Ao20 t290.length co20, .slice none 0 0, .slice none 0 0, .slice none 0 0, .int .i64 0] 33 (0, 0)) (vz BK286.out) hb); replace HB := bs HB hb; (try clear hb); (try clear ho0); obtain ⟨Ao24, co24, eo24⟩ := Kd.P_slice HO295.out; subst eo24; have hcz25 := cz6 BK286.out; have hcz26 := cz6 BK284.out) | ((with_reducible refine at_fn (f := 27) rfl ?_); refine gl (some 24) Try.func27 #[.slice A0_3 l0_3.length c0_3, .bool false] ?_; (with_reducible refine (laws_toInt64S.callsF k _ _ l0_3 t296 _ ?_ HC0_3.out A6.out).mono ?_); exact Kd.C_below HR0_3.out (vb HB.out); rintro e w27 ⟨v297, rfl, ho0, hb⟩; refine ⟨_, rfl, ?_⟩; replace HO289 := ak (Kd.P_below (pz HO289.out BK286.out) hb); replace HO292 := ak (Kd.P_below (pz HO292.out BK286.out) hb); have HO298 := ak (Kd.P_lower (Kd.P_new' ho0 (Kd.P_lt (pz HO295.out BK286.out))) (below_size (vb HB.out))); replace HO295 := ak (Kd.P_elder' (pz HO295.out BK286.out) (Kd.P_base ho0) hb); replace BK284 := kb BK284 hb; replace BK285 := kb BK285 hb; replace BK286 := ak (blk_below (g := gb286) (o := .cells #[.slice Ao15 t287.length co15, .slice Ao20 t290.length co20, .slice Ao24 t293.length co24, .slice none 0 0, .slice none 0 0, .int .i64 0] 33 (0, 0)) (vz BK286.out) hb); replace HB := bs HB hb; (try clear hb); (try clear ho0); obtain ⟨Ao28, co28, eo28⟩ := Kd.P_slice HO298.out; subst eo28; have hcz29 := cz6 BK286.out; have hcz30 := cz6 BK284.out) | ((with_reducible refine at_fn (f := 27) rfl ?_); refine gl (some 29) Try.func27 #[.slice A0_4 l0_4.length c0_4, .bool false] ?_; (with_reducible refine (laws_toInt64S.callsF k _ _ l0_4 t299 _ ?_ HC0_4.out A7.out).mono ?_); exact Kd.C_below HR0_4.out (vb HB.out); rintro e w31 ⟨v300, rfl, ho0, hb⟩; refine ⟨_, rfl, ?_⟩; replace HO289 := ak (Kd.P_below (pz HO289.out BK286.out) hb); replace HO292 := ak (Kd.P_below (pz HO292.out BK286.out) hb); have HO301 := ak (Kd.P_lower (Kd.P_new' (Kd.P_new' ho0 (Kd.P_lt (pz HO295.out BK286.out))) (Kd.P_lt (pz HO298.out BK286.out))) (below_size (vb HB.out))); replace HO295 := ak (Kd.P_elder' (pz HO295.out BK286.out) (Kd.P_base ho0) hb); replace HO298 := ak (Kd.P_elder' (pz HO298.out BK286.out) (Kd.P_base ho0) hb); replace BK284 := kb BK284 hb; replace BK285 := kb BK285 hb; replace BK286 := ak (blk_below (g := gb286) (o := .cells #[.slice Ao15 t287.length co15, .slice Ao20 t290.length co20, .slice Ao24 t293.length co24, .slice Ao28 t296.length co28, .slice none 0 0, .int .i64 0] 33 (0, 0)) (vz BK286.out) hb); replace HB := bs HB hb; (try clear hb); (try clear ho0); obtain ⟨Ao32, co32, eo32⟩ := Kd.P_slice HO301.out; subst eo32; have hcz33 := cz6 BK286.out; have hcz34 := cz6 BK284.out; have hcz35 := cz6 BK285.out))
 refine bodyPost_ret (results_cell_row rfl _ _ gb285 33 (f5 Ao15 t287 co15 Ao20 t290 co20 Ao24 t293 co24 Ao28 t296 co28 Ao32 t299 co32 a0_5) (0, 0) _ rfl (vz BK285.out) Try.underlying33 rfl (by kernel_rfl)) rfl ?_; exact ⟨_, _, _, _, _, ew, vp (Kd.P_mono (Kd.P_far (p := ⟨gb285, 5, none⟩) (Kd.P_far (p := ⟨gb285, 4, none⟩) (Kd.P_far (p := ⟨gb285, 3, none⟩) (Kd.P_far (p := ⟨gb285, 2, none⟩) (Kd.P_far (p := ⟨gb285, 1, none⟩) (Kd.P_far (p := ⟨gb285, 0, none⟩) (Kd.P_far (p := ⟨gb286, 5, none⟩) (Kd.P_far (p := ⟨gb286, 4, none⟩) (Kd.P_types (Kd.P_types HO289.out BK286.out (by decide)) BK285.out (by decide)) (fun _ hk => hk.1.2) (.slice Ao32 t299.length co32)) (fun _ hk => hk.1.2) (.int .i64 a0_5)) (fun _ hk => hk.2) (.slice Ao15 t287.length co15)) (fun _ hk => hk.2) (.slice Ao20 t290.length co20)) (fun _ hk => hk.2) (.slice Ao24 t293.length co24)) (fun _ hk => hk.2) (.slice Ao28 t296.length co28)) (fun _ hk => hk.2) (.slice Ao32 t299.length co32)) (fun _ hk => hk.2) (.int .i64 a0_5)) (fun _ hk => trivial)), vp (Kd.P_mono (Kd.P_far (p := ⟨gb285, 5, none⟩) (Kd.P_far (p := ⟨gb285, 4, none⟩) (Kd.P_far (p := ⟨gb285, 3, none⟩) (Kd.P_far (p := ⟨gb285, 2, none⟩) (Kd.P_far (p := ⟨gb285, 1, none⟩) (Kd.P_far (p := ⟨gb285, 0, none⟩) (Kd.P_far (p := ⟨gb286, 5, none⟩) (Kd.P_far (p := ⟨gb286, 4, none⟩) (Kd.P_types (Kd.P_types HO292.out BK286.out (by decide)) BK285.out (by decide)) (fun _ hk => hk.1.2) (.slice Ao32 t299.length co32)) (fun _ hk => hk.1.2) (.int .i64 a0_5)) (fun _ hk => hk.2) (.slice Ao15 t287.length co15)) (fun _ hk => hk.2) (.slice Ao20 t290.length co20)) (fun _ hk => hk.2) (.slice Ao24 t293.length co24)) (fun _ hk => hk.2) (.slice Ao28 t296.length co28)) (fun _ hk => hk.2) (.slice Ao32 t299.length co32)) (fun _ hk => hk.2) (.int .i64 a0_5)) (fun _ hk => trivial)), vp (Kd.P_mono (Kd.P_far (p := ⟨gb285, 5, none⟩) (Kd.P_far (p := ⟨gb285, 4, none⟩) (Kd.P_far (p := ⟨gb285, 3, none⟩) (Kd.P_far (p := ⟨gb285, 2, none⟩) (Kd.P_far (p := ⟨gb285, 1, none⟩) (Kd.P_far (p := ⟨gb285, 0, none⟩) (Kd.P_far (p := ⟨gb286, 5, none⟩) (Kd.P_far (p := ⟨gb286, 4, none⟩) (Kd.P_types (Kd.P_types HO295.out BK286.out (by decide)) BK285.out (by decide)) (fun _ hk => hk.1.2) (.slice Ao32 t299.length co32)) (fun _ hk => hk.1.2) (.int .i64 a0_5)) (fun _ hk => hk.2) (.slice Ao15 t287.length co15)) (fun _ hk => hk.2) (.slice Ao20 t290.length co20)) (fun _ hk => hk.2) (.slice Ao24 t293.length co24)) (fun _ hk => hk.2) (.slice Ao28 t296.length co28)) (fun _ hk => hk.2) (.slice Ao32 t299.length co32)) (fun _ hk => hk.2) (.int .i64 a0_5)) (fun _ hk => ⟨hk.1.1.1.2, hk.1.1.2⟩)), vp (Kd.P_mono (Kd.P_far (p := ⟨gb285, 5, none⟩) (Kd.P_far (p := ⟨gb285, 4, none⟩) (Kd.P_far (p := ⟨gb285, 3, none⟩) (Kd.P_far (p := ⟨gb285, 2, none⟩) (Kd.P_far (p := ⟨gb285, 1, none⟩) (Kd.P_far (p := ⟨gb285, 0, none⟩) (Kd.P_far (p := ⟨gb286, 5, none⟩) (Kd.P_far (p := ⟨gb286, 4, none⟩) (Kd.P_types (Kd.P_types HO298.out BK286.out (by decide)) BK285.out (by decide)) (fun _ hk => hk.1.2) (.slice Ao32 t299.length co32)) (fun _ hk => hk.1.2) (.int .i64 a0_5)) (fun _ hk => hk.2) (.slice Ao15 t287.length co15)) (fun _ hk => hk.2) (.slice Ao20 t290.length co20)) (fun _ hk => hk.2) (.slice Ao24 t293.length co24)) (fun _ hk => hk.2) (.slice Ao28 t296.length co28)) (fun _ hk => hk.2) (.slice Ao32 t299.length co32)) (fun _ hk => hk.2) (.int .i64 a0_5)) (fun _ hk => ⟨hk.1.1.1.2, hk.1.1.2⟩)), vp (Kd.P_mono (Kd.P_far (p := ⟨gb285, 5, none⟩) (Kd.P_far (p := ⟨gb285, 4, none⟩) (Kd.P_far (p := ⟨gb285, 3, none⟩) (Kd.P_far (p := ⟨gb285, 2, none⟩) (Kd.P_far (p := ⟨gb285, 1, none⟩) (Kd.P_far (p := ⟨gb285, 0, none⟩) (Kd.P_far (p := ⟨gb286, 5, none⟩) (Kd.P_far (p := ⟨gb286, 4, none⟩) (Kd.P_types (Kd.P_types HO301.out BK286.out (by decide)) BK285.out (by decide)) (fun _ hk => hk.1.2) (.slice Ao32 t299.length co32)) (fun _ hk => hk.1.2) (.int .i64 a0_5)) (fun _ hk => hk.2) (.slice Ao15 t287.length co15)) (fun _ hk => hk.2) (.slice Ao20 t290.length co20)) (fun _ hk => hk.2) (.slice Ao24 t293.length co24)) (fun _ hk => hk.2) (.slice Ao28 t296.length co28)) (fun _ hk => hk.2) (.slice Ao32 t299.length co32)) (fun _ hk => hk.2) (.int .i64 a0_5)) (fun _ hk => ⟨hk.1.1.1.2, hk.1.1.2⟩)), vb HB.out⟩


/-! ### laws_eqInt64S: function 22 -/
def laws_eqInt64S.l0 : Nat → List Int → List Int → Int → Option (Bool)
 | 0, _, _, _ => none
 | k + 1, x0, x1, x5 => if x5 < (x0.length : Int) then (if 0 ≤ x5 then (if x5 < (x1.length : Int) then (if (rd x0 x5) = (rd x1 x5) then (laws_eqInt64S.l0 k x0 x1 (wrap64 (x5 + 1))) else (some false)) else (none)) else (none)) else (some true)
def laws_eqInt64S.f (k : Nat) (l0 : List Int) (l1 : List Int) : Option (Bool) := if (l0.length : Int) = (l1.length : Int) then (laws_eqInt64S.l0 k l0 l1 0) else (some false)
theorem laws_eqInt64S.mono_l : ∀ k, (∀ y0 y1 y2, LeO (laws_eqInt64S.l0 k y0 y1 y2) (laws_eqInt64S.l0 (k + 1) y0 y1 y2))
 | 0 => fun _ _ _ r h => by simp [laws_eqInt64S.l0] at h
 | k + 1 => by
  have ih0 := laws_eqInt64S.mono_l k
  ·intro y0 y1 y2; unfold laws_eqInt64S.l0
   repeat' (with_reducible first | exact ih0 .. | exact lm | refine LeO.ite ?_ ?_ | refine LeO.bind ?_ (fun _ => ?_))
theorem laws_eqInt64S.mono : ∀ a0 a1 k, LeO (laws_eqInt64S.f k a0 a1) (laws_eqInt64S.f (k + 1) a0 a1) := by
 intro a0 a1 k; have ih0 := laws_eqInt64S.mono_l k; unfold laws_eqInt64S.f
 repeat' (with_reducible first | exact ih0 .. | exact lm | refine LeO.ite ?_ ?_ | refine LeO.bind ?_ (fun _ => ?_))
set_option maxHeartbeats 8000000 in
set_option maxRecDepth 100000 in
theorem laws_eqInt64S.calls (k : Nat) (A0 : Option Addr) (c0 : Nat) (l0 : List Int) (A1 : Option Addr) (c1 : Nat) (l1 : List Int) (r : Bool) (w : World) (hr0 : Kd.C (Kd.int .i64) w A0 l0.length l0) (hc0 : l0.length ≤ c0) (hr1 : Kd.C (Kd.int .i64) w A1 l1.length l1) (hc1 : l1.length ≤ c1) (h : laws_eqInt64S.f k l0 l1 = some r) :
  Calls Try.prog 22 #[.slice A0 l0.length c0, .slice A1 l1.length c1] w fun e w' => e = .returned (.bool r) ∧ Drawn0 w w' := by
 have HR0 := ak hr0; have HC0 := ak hc0; clear hr0 hc0; have HR1 := ak hr1; have HC1 := ak hc1; clear hr1 hc1; unfold laws_eqInt64S.f at h; have H := h; clear h; by_cases c3 : (l0.length : Int) = (l1.length : Int)
 ·rw [if_pos c3] at H; obtain ⟨c3b0, c3b1⟩ := bqt c3; have c3b2 : (l0.length == l1.length) = true := by first | simpa using c3 | (simp at c3 ⊢; omega)
  clear c3; have H' := ak H; clear H; go_enter Try.func22, Try.ntmps22; go_wp2
  repeat (go_quiet (fail); try go_wp2)
  go_loopg [5] k (fun kq v5 w' => ∃ (x5_1 : Int), v5 = .int .i64 x5_1 ∧ Aside0 (laws_eqInt64S.l0 kq l0 l1 x5_1 = some r) ∧ Aside0 (kq ≤ k) ∧ Drawn0 w w')
  case atStart => exact ⟨(0), es, H', ⟨Nat.le_refl _⟩, by repeat (first | exact Drawn0.refl _ | apply Drawn0.step)⟩
  case round =>
   clear H'; obtain ⟨x5_1, rfl, HA, HK1, ⟨m1, rfl⟩⟩ := hrel
   cases gk with
   | zero => exact absurd HA.out (by simp [laws_eqInt64S.l0])
   | succ k1 =>
    have H := HA.out; clear HA; simp only [laws_eqInt64S.l0] at H
    by_cases c4 : x5_1 < (l0.length : Int)
    ·rw [if_pos c4] at H; have c4b0 := decide_eq_true c4; clear c4; by_cases c5 : 0 ≤ x5_1
     ·rw [if_pos c5] at H; have c5b0 := decide_eq_true c5; clear c5; by_cases c6 : x5_1 < (l1.length : Int)
      ·rw [if_pos c6] at H; have c6b0 := decide_eq_true c6; clear c6; by_cases c7 : (rd l0 x5_1) = (rd l1 x5_1)
       ·rw [if_pos c7] at H; obtain ⟨c7b0, c7b1⟩ := bqt c7; clear c7; have H' := ak H; clear H; have p387 : 0 ≤ (x5_1 : Int) := od; have q387 : x5_1 < (l0.length : Int) := od; obtain ⟨ad387, e387, hx387_0⟩ := Kd.at_int HR0.out x5_1 p387 q387
        cases e387; replace p387 := eq_true p387; replace q387 := eq_true q387; have p388 : 0 ≤ (x5_1 : Int) := od; have q388 : x5_1 < (l1.length : Int) := od; obtain ⟨ad388, e388, hx388_0⟩ := Kd.at_int HR1.out x5_1 p388 q388
        cases e388; replace p388 := eq_true p388; replace q388 := eq_true q388; go_wp2
        repeat (go_quiet (fail); try go_wp2)
        go_roundg k1
        case measure => have := HK1.out; omega
        case rel => exact ⟨(wrap64 (x5_1 + 1)), es, H', ⟨by have := HK1.out; omega⟩, by repeat (first | exact Drawn0.refl _ | apply Drawn0.step)⟩
       ·rw [if_neg c7] at H; obtain ⟨c7b0, c7b1⟩ := bqf c7; obtain rfl := sj H; have p387 : 0 ≤ (x5_1 : Int) := od; have q387 : x5_1 < (l0.length : Int) := od; obtain ⟨ad387, e387, hx387_0⟩ := Kd.at_int HR0.out x5_1 p387 q387
        cases e387; replace p387 := eq_true p387; replace q387 := eq_true q387; have p388 : 0 ≤ (x5_1 : Int) := od; have q388 : x5_1 < (l1.length : Int) := od; obtain ⟨ad388, e388, hx388_0⟩ := Kd.at_int HR1.out x5_1 p388 q388
        cases e388; replace p388 := eq_true p388; replace q388 := eq_true q388; go_wp2
        repeat (go_quiet (fail); try go_wp2)
        go_ret
        exact ⟨by first | rfl | (simp; done) | (simp [*]; done), by repeat (first | exact Drawn0.refl _ | apply Drawn0.step)⟩
      ·exact nO_ c6 H
     ·exact nO_ c5 H
    ·rw [if_neg c4] at H; have c4b0 := decide_eq_false c4; clear c4; obtain rfl := sj H; go_wp2
     repeat (go_quiet (fail); try go_wp2)
     go_ret
     exact ⟨by first | rfl | (simp; done) | (simp [*]; done), by repeat (first | exact Drawn0.refl _ | apply Drawn0.step)⟩
 ·rw [if_neg c3] at H; obtain ⟨c3b0, c3b1⟩ := bqf c3; have c3b2 : (l0.length == l1.length) = false := by first | simpa using c3 | (simp at c3 ⊢; omega)
  obtain rfl := sj H; go_enter Try.func22, Try.ntmps22; go_wp2
  repeat (go_quiet (fail); try go_wp2)
  go_ret
  exact ⟨by first | rfl | (simp; done) | (simp [*]; done), by repeat (first | exact Drawn0.refl _ | apply Drawn0.step)⟩


/-! ### laws_intactInt64S: function 29 -/
def laws_intactInt64S.f (k : Nat) (l0 : List Int) (l1 : List Int) : Option Bool := if l0.length = l1.length then laws_eqInt64S.f k (full l0) (full l1) else none
theorem laws_intactInt64S.mono : ∀ a0 a1 k, LeO (laws_intactInt64S.f k a0 a1) (laws_intactInt64S.f (k + 1) a0 a1) := by
 intro a0 a1 k; unfold laws_intactInt64S.f
 exact LeO.ite (laws_eqInt64S.mono _ _ _) (LeO.none _)
set_option maxHeartbeats 1000000 in
set_option maxRecDepth 100000 in
theorem laws_intactInt64S.calls (k : Nat) (A0 : Option Addr) (c0 : Nat) (l0 : List Int) (A1 : Option Addr) (c1 : Nat) (l1 : List Int) (r : Bool) (w : World) (hr0 : Kd.C (Kd.int .i64) w A0 (full l0).length (full l0)) (hc0 : (full l0).length ≤ c0) (hr1 : Kd.C (Kd.int .i64) w A1 (full l1).length (full l1)) (hc1 : (full l1).length ≤ c1) (h : laws_intactInt64S.f k l0 l1 = some r) :
  Calls Try.prog 29 #[.slice A0 l0.length c0, .slice A1 l1.length c1] w fun e w' => e = .returned (.bool r) ∧ Drawn0 w w' := by
 unfold laws_intactInt64S.f at h
 by_cases he : l0.length = l1.length
 rotate_left
 ·rw [if_neg he] at h; exact absurd h (by simp)
 rw [if_pos he] at h; have hm1 : (full l1).length ≤ 9223372036854775807 := hr1.2.1; have ef0 : (full l0).length = (full l1).length := by rw [full_length, full_length, he]
 have hk : ((l1.length : Int) + (roomN l1.length : Int)) = ((full l1).length : Int) := by rw [full_length]; omega
 obtain ⟨i0, hi0, _, _, _⟩ := info_parts info2; have hq0 := cut_cap (P := Try.prog) 24 2 .i64 Try.underlying24 hi0 A0 l0.length c0 ((full l1).length : Int) (by omega) (by omega); have hq1 := cut_cap (P := Try.prog) 24 2 .i64 Try.underlying24 hi0 A1 l1.length c1 ((full l1).length : Int) (by omega) (by omega); have hw : IntKind.i64.wrap ((l1.length : Int) + (roomN l1.length : Int)) = ((full l1).length : Int) := by rw [hk]; exact IntWalk.i64_in _ (by omega)
 have heq : ((l0.length : Int) == (l1.length : Int)) = true := by rw [he]; simp
 have heq2 : (l0.length == l1.length) = true := by rw [he]; simp
 rw [Int.toNat_natCast] at hq0 hq1; have HE := ak ef0; clear hk ef0 he hi0; go_enter Try.func29, Try.ntmps29; go_wp2_with fail
 refine (laws_roomBehind.calls _ _ _ (room_f _)).mono ?_; rintro e w' ⟨rfl, ⟨nd, rfl⟩⟩; go_wp2_with fail
 go_still_tail 12, (by kernel_rfl)
 change wpList _ _ _ _ _ ((w.drewN nd).drew)
 have hE := laws_eqInt64S.calls k A0 c0 (full l0) A1 c1 (full l1) r ((w.drewN nd).drew) (Kd.C_drew (Kd.C_drewN hr0 nd)) hc0 (Kd.C_drew (Kd.C_drewN hr1 nd)) hc1 h; rw [HE.out] at hE; have HH := Lib.hid hE; clear hE; go_wp2_with fail
 refine HH.out.mono ?_; rintro e w' ⟨rfl, ⟨nq, rfl⟩⟩; go_wp2_with fail
 go_ret
 exact ⟨rfl, by repeat (first | exact Drawn0.refl _ | apply Drawn0.step)⟩

/-! ### laws_eqDemand: function 125 -/
def laws_eqDemand.f (a0_0 : Int) (a0_1 : Int) (a0_2 : Int) (a1_0 : Int) (a1_1 : Int) (a1_2 : Int) : Option (Bool) := if a0_0 = a1_0 then (if a0_1 = a1_1 then (if a0_2 = a1_2 then (some true) else (some false)) else (some false)) else (some false)
set_option maxHeartbeats 8000000 in
set_option maxRecDepth 100000 in
theorem laws_eqDemand.calls (a0_0 : Int) (a0_1 : Int) (a0_2 : Int) (a1_0 : Int) (a1_1 : Int) (a1_2 : Int) (r : Bool) (w : World) (h : laws_eqDemand.f a0_0 a0_1 a0_2 a1_0 a1_1 a1_2 = some r) :
  Calls Try.prog 125 #[.agg #[.int .i64 a0_0, .int .i64 a0_1, .int .i64 a0_2], .agg #[.int .i64 a1_0, .int .i64 a1_1, .int .i64 a1_2]] w fun e w' => e = .returned (.bool r) ∧ Below w.heap.size w w' := by
 have hu98 := Try.underlying98; have HB := ak (Below.refl w.heap.size w); unfold laws_eqDemand.f at h; have H := h; clear h; by_cases c3 : a0_0 = a1_0
 rw [if_pos c3] at H; obtain ⟨c3b0, c3b1⟩ := bqt c3; clear c3; by_cases c4 : a0_1 = a1_1
 rw [if_pos c4] at H; obtain ⟨c4b0, c4b1⟩ := bqt c4; clear c4; by_cases c5 : a0_2 = a1_2
 rw [if_pos c5] at H; obtain ⟨c5b0, c5b1⟩ := bqt c5; clear c5; obtain rfl := sj H; rotate_left
 rw [if_neg c5] at H; obtain ⟨c5b0, c5b1⟩ := bqf c5; obtain rfl := sj H; rotate_left
 rw [if_neg c4] at H; obtain ⟨c4b0, c4b1⟩ := bqf c4; obtain rfl := sj H; rotate_left
 rw [if_neg c3] at H; obtain ⟨c3b0, c3b1⟩ := bqf c3; obtain rfl := sj H; rotate_left
 all_goals
  go_enter Try.func125, Try.ntmps125; go_wp2_with (first | ((with_reducible refine gate_dst (N := 2) rfl ?_); refine bx 2 #[.int .i64 a0_0, .int .i64 a0_1, .int .i64 a0_2] 98 ?_; intro gb393 hg w9 hbox hb; have BK393 := ak hbox; have GW393 := gw hg HB; have GE393 := gw hg HB; replace HB := bs HB hb; clear hb hbox hg) | ((with_reducible refine gate_dst (N := 3) rfl ?_); refine bx 3 #[.int .i64 a1_0, .int .i64 a1_1, .int .i64 a1_2] 98 ?_; intro gb394 hg w9 hbox hb; have BK394 := ak hbox; have GW394 := gw hg HB; have GE394 := gw hg HB; replace HB := bs HB hb; have NB393_394 := ak ((by rw [hg]; exact Nat.ne_of_lt (blk_lt (vk BK393.out)) : gb393 ≠ gb394)); have NB394_393 := ak ((by rw [hg]; exact Nat.ne_of_gt (blk_lt (vk BK393.out)) : gb394 ≠ gb393)); replace BK393 := kb BK393 hb; clear hb hbox hg; have hnb9 := NB393_394.out; have hnc9 := NB394_393.out; have hcz9 := cz3 BK393.out; have hcz9 := cz3 BK394.out))
  go_ret
  exact ⟨ew, vb HB.out⟩


/-! ### laws_eqDemandS: function 98 -/
def laws_eqDemandS.l0 : Nat → List (S98) → List (S98) → Int → Option (Bool)
 | 0, _, _, _ => none
 | k + 1, x0, x1, x5 => if x5 < (x0.length : Int) then (if 0 ≤ x5 then (if x5 < (x1.length : Int) then ((laws_eqDemand.f ((rd_T98 x0 x5).f0) ((rd_T98 x0 x5).f1) ((rd_T98 x0 x5).f2) ((rd_T98 x1 x5).f0) ((rd_T98 x1 x5).f1) ((rd_T98 x1 x5).f2)).bind fun t397 => (if t397 = true then (laws_eqDemandS.l0 k x0 x1 (wrap64 (x5 + 1))) else (some false))) else (none)) else (none)) else (some true)
def laws_eqDemandS.f (k : Nat) (l0 : List (S98)) (l1 : List (S98)) : Option (Bool) := if (l0.length : Int) = (l1.length : Int) then (laws_eqDemandS.l0 k l0 l1 0) else (some false)
theorem laws_eqDemandS.mono_l : ∀ k, (∀ y0 y1 y2, LeO (laws_eqDemandS.l0 k y0 y1 y2) (laws_eqDemandS.l0 (k + 1) y0 y1 y2))
 | 0 => fun _ _ _ r h => by simp [laws_eqDemandS.l0] at h
 | k + 1 => by
  have ih0 := laws_eqDemandS.mono_l k
  ·intro y0 y1 y2; unfold laws_eqDemandS.l0
   repeat' (with_reducible first | exact ih0 .. | exact lm | refine LeO.ite ?_ ?_ | refine LeO.bind ?_ (fun _ => ?_))
theorem laws_eqDemandS.mono : ∀ a0 a1 k, LeO (laws_eqDemandS.f k a0 a1) (laws_eqDemandS.f (k + 1) a0 a1) := by
 intro a0 a1 k; have ih0 := laws_eqDemandS.mono_l k; unfold laws_eqDemandS.f
 repeat' (with_reducible first | exact ih0 .. | exact lm | refine LeO.ite ?_ ?_ | refine LeO.bind ?_ (fun _ => ?_))
def laws_eqDemandS.T6 : Bool × List (List Nat × List Nat) := (true, [([], []), ([], []), ([0, 1], [0, 1]), ([2], [2]), ([], []), ([], []), ([4, 5], [4, 5]), ([6], [6]), ([3, 7], [3, 7]), ([8], [8])])
def laws_eqDemandS.B6 : List Nat := [0, 0, 3, 7, 0, 0, 48, 112, 255, 511]
theorem laws_eqDemandS.tab6 : rtab .any (opsOf Try.f98 6) = laws_eqDemandS.T6 := by kernel_rfl
theorem laws_eqDemandS.bits6 : waitsOk laws_eqDemandS.T6.2 laws_eqDemandS.B6 = true := by kernel_rfl
set_option maxHeartbeats 8000000 in
set_option maxRecDepth 100000 in
theorem laws_eqDemandS.calls (k : Nat) (A0 : Option Addr) (c0 : Nat) (l0 : List (S98)) (A1 : Option Addr) (c1 : Nat) (l1 : List (S98)) (r : Bool) (w : World) (hr0 : Kd.C k98 w A0 l0.length l0) (hc0 : l0.length ≤ c0) (hr1 : Kd.C k98 w A1 l1.length l1) (hc1 : l1.length ≤ c1) (h : laws_eqDemandS.f k l0 l1 = some r) :
  Calls Try.prog 98 #[.slice A0 l0.length c0, .slice A1 l1.length c1] w fun e w' => e = .returned (.bool r) ∧ Below w.heap.size w w' := by
 have hu98 := Try.underlying98; have HR0 := ak hr0; have HC0 := ak hc0; clear hr0 hc0; have HR1 := ak hr1; have HC1 := ak hc1; clear hr1 hc1; have HB := ak (Below.refl w.heap.size w); unfold laws_eqDemandS.f at h; have H := h; clear h; by_cases c3 : (l0.length : Int) = (l1.length : Int)
 ·rw [if_pos c3] at H; obtain ⟨c3b0, c3b1⟩ := bqt c3; have c3b2 : (l0.length == l1.length) = true := by first | simpa using c3 | (simp at c3 ⊢; omega)
  clear c3; have H' := ak H; clear H; go_enter Try.func98, Try.ntmps98; go_wp2
  go_loopg [5] k (fun kq v5 w' => ∃ (x5_1 : Int), v5 = .int .i64 x5_1 ∧ Aside0 (laws_eqDemandS.l0 kq l0 l1 x5_1 = some r) ∧ Aside0 (kq ≤ k) ∧ Aside0 (Below w.heap.size w w'))
  case atStart => exact ⟨(0), es, H', ⟨Nat.le_refl _⟩, ⟨vb HB.out⟩⟩
  case round =>
   clear H'; obtain ⟨x5_1, rfl, HA, HK1, HB⟩ := hrel
   cases gk with
   | zero => exact absurd HA.out (by simp [laws_eqDemandS.l0])
   | succ k1 =>
    have H := HA.out; clear HA; simp only [laws_eqDemandS.l0] at H
    by_cases c4 : x5_1 < (l0.length : Int)
    ·rw [if_pos c4] at H; have c4b0 := decide_eq_true c4; clear c4; by_cases c5 : 0 ≤ x5_1
     ·rw [if_pos c5] at H; have c5b0 := decide_eq_true c5; clear c5; by_cases c6 : x5_1 < (l1.length : Int)
      ·rw [if_pos c6] at H; have c6b0 := decide_eq_true c6; clear c6; obtain ⟨t397, A7, H⟩ := bnk H; by_cases c8 : t397 = true
       ·subst c8; rw [if_pos rfl] at H; have H' := ak H; clear H; (try go_wp2)
        replace HB := ak (below_drew1 HB.out); have p395 : 0 ≤ (x5_1 : Int) := od; have q395 : x5_1 < (l0.length : Int) := od; obtain ⟨ad395, e395, hx395_0, hx395_1, hx395_2⟩ := at_T98 HR0.out x5_1 p395 q395; have hw395_2 := hx395_2; have hw395_1 := hx395_1; have hw395_0 := hx395_0
        cases e395; replace hx395_0 := cb HB.out hx395_0; replace hx395_1 := cb HB.out hx395_1; replace hx395_2 := cb HB.out hx395_2; replace p395 := eq_true p395; replace q395 := eq_true q395; have p396 : 0 ≤ (x5_1 : Int) := od; have q396 : x5_1 < (l1.length : Int) := od; obtain ⟨ad396, e396, hx396_0, hx396_1, hx396_2⟩ := at_T98 HR1.out x5_1 p396 q396; have hw396_2 := hx396_2; have hw396_1 := hx396_1; have hw396_0 := hx396_0
        cases e396; replace hx396_0 := cb HB.out hx396_0; replace hx396_1 := cb HB.out hx396_1; replace hx396_2 := cb HB.out hx396_2; replace p396 := eq_true p396; replace q396 := eq_true q396; refine start_ (n := 10) (S := fun w' => w'.cell? (ad395.add ((x5_1).toNat * 3)) = some (.int .i64 ((rd_T98 l0 x5_1).f0)) ∧ w'.cell? ⟨(ad395.add ((x5_1).toNat * 3)).block, (ad395.add ((x5_1).toNat * 3)).off + 1, none⟩ = some (.int .i64 ((rd_T98 l0 x5_1).f1)) ∧ w'.cell? ⟨(ad395.add ((x5_1).toNat * 3)).block, (ad395.add ((x5_1).toNat * 3)).off + 2, none⟩ = some (.int .i64 ((rd_T98 l0 x5_1).f2)) ∧ w'.cell? (ad396.add ((x5_1).toNat * 3)) = some (.int .i64 ((rd_T98 l1 x5_1).f0)) ∧ w'.cell? ⟨(ad396.add ((x5_1).toNat * 3)).block, (ad396.add ((x5_1).toNat * 3)).off + 1, none⟩ = some (.int .i64 ((rd_T98 l1 x5_1).f1)) ∧ w'.cell? ⟨(ad396.add ((x5_1).toNat * 3)).block, (ad396.add ((x5_1).toNat * 3)).off + 2, none⟩ = some (.int .i64 ((rd_T98 l1 x5_1).f2))) (ds := []) (tf 0 10) (by kernel_rfl) rfl rfl ⟨(cb HB.out hw395_0), (cb HB.out hw395_1), (cb HB.out hw395_2), (cb HB.out hw396_0), (cb HB.out hw396_1), (cb HB.out hw396_2)⟩ (fun hHeld => ?_); refine with_tabW laws_eqDemandS.tab6 laws_eqDemandS.bits6 (fun HT_ HW_ => ?_)
        generalize wr.drew = w9 at HB hx395_0 hx395_1 hx395_2 hx396_0 hx396_1 hx396_2 hHeld ⊢; refine pu_ 0 17 (tf 1 9) rfl rfl ?_; refine pu_ 1 18 (tf 2 8) rfl rfl ?_; refine pu_ 2 19 (tf 3 7) rfl rfl ?_; refine pu_ 4 21 (tM [3, 1, 1, 5]) rfl rfl ?_; refine pu_ 5 22 (tM [3, 1, 2, 4]) rfl rfl ?_; refine pu_ 6 23 (tM [3, 1, 3, 3]) rfl rfl ?_; refine ta6_ 3 20 (tf 7 3) rfl rfl ?_; refine ta6_ 7 24 (tf 8 2) rfl rfl ?_; refine one_ (i := 8) (N := some 25) (tf 9 1) rfl rfl (one_of HT_.out (by kernel_rfl)) (by decide) (fun K hK => ?_); refine goes_ Try.func125 (by kernel_rfl) rfl #[.agg #[.int .i64 ((rd_T98 l0 x5_1).f0), .int .i64 ((rd_T98 l0 x5_1).f1), .int .i64 ((rd_T98 l0 x5_1).f2)], .agg #[.int .i64 ((rd_T98 l1 x5_1).f0), .int .i64 ((rd_T98 l1 x5_1).f1), .int .i64 ((rd_T98 l1 x5_1).f2)]] (by rfl) rfl rfl (by (try simp only [List.map_toArray, List.map_cons, List.map_nil]); first | done | rfl | (simp only [List.length_drop, List.length_take]; rfl)) ?_; with_reducible refine (laws_eqDemand.calls ((rd_T98 l0 x5_1).f0) ((rd_T98 l0 x5_1).f1) ((rd_T98 l0 x5_1).f2) ((rd_T98 l1 x5_1).f0) ((rd_T98 l1 x5_1).f1) ((rd_T98 l1 x5_1).f2) true _ A7.out).mono ?_
        rintro e w10 ⟨rfl, hb⟩; refine ⟨_, rfl, ?_⟩; replace HB := bs HB hb; (try clear hb)
        (try clear hb2)
        (try clear hk)
        (try clear hi)
        refine hK.out _ _ ⟨(cb HB.out hw395_0), (cb HB.out hw395_1), (cb HB.out hw395_2), (cb HB.out hw396_0), (cb HB.out hw396_1), (cb HB.out hw396_2)⟩ (fun hHeld => ?_); clear hK K; refine norm_ (a' := ?_) ?_ ?_
        rotate_left
        ·show Act.put _ (some 25) _ = _
         simp only [Act.put, List.setIfInBounds_toArray, List.set_cons_zero, List.set_cons_succ, i64_w, i32_w]
         rfl
        refine pu_ 9 26 (tf 10 0) rfl rfl ?_; refine done_ (done_of HT_.out (by kernel_rfl)) ?_; (try go_wp2)
        go_roundg k1
        case measure => have := HK1.out; omega
        case rel => exact ⟨(wrap64 (x5_1 + 1)), es, H', ⟨by have := HK1.out; omega⟩, ⟨vb HB.out⟩⟩
       ·replace c8 := Bool.eq_false_iff.mpr c8; subst c8; rw [if_neg nf] at H; obtain rfl := sj H; (try go_wp2)
        replace HB := ak (below_drew1 HB.out); have p395 : 0 ≤ (x5_1 : Int) := od; have q395 : x5_1 < (l0.length : Int) := od; obtain ⟨ad395, e395, hx395_0, hx395_1, hx395_2⟩ := at_T98 HR0.out x5_1 p395 q395; have hw395_2 := hx395_2; have hw395_1 := hx395_1; have hw395_0 := hx395_0
        cases e395; replace hx395_0 := cb HB.out hx395_0; replace hx395_1 := cb HB.out hx395_1; replace hx395_2 := cb HB.out hx395_2; replace p395 := eq_true p395; replace q395 := eq_true q395; have p396 : 0 ≤ (x5_1 : Int) := od; have q396 : x5_1 < (l1.length : Int) := od; obtain ⟨ad396, e396, hx396_0, hx396_1, hx396_2⟩ := at_T98 HR1.out x5_1 p396 q396; have hw396_2 := hx396_2; have hw396_1 := hx396_1; have hw396_0 := hx396_0
        cases e396; replace hx396_0 := cb HB.out hx396_0; replace hx396_1 := cb HB.out hx396_1; replace hx396_2 := cb HB.out hx396_2; replace p396 := eq_true p396; replace q396 := eq_true q396; refine start_ (n := 10) (S := fun w' => w'.cell? (ad395.add ((x5_1).toNat * 3)) = some (.int .i64 ((rd_T98 l0 x5_1).f0)) ∧ w'.cell? ⟨(ad395.add ((x5_1).toNat * 3)).block, (ad395.add ((x5_1).toNat * 3)).off + 1, none⟩ = some (.int .i64 ((rd_T98 l0 x5_1).f1)) ∧ w'.cell? ⟨(ad395.add ((x5_1).toNat * 3)).block, (ad395.add ((x5_1).toNat * 3)).off + 2, none⟩ = some (.int .i64 ((rd_T98 l0 x5_1).f2)) ∧ w'.cell? (ad396.add ((x5_1).toNat * 3)) = some (.int .i64 ((rd_T98 l1 x5_1).f0)) ∧ w'.cell? ⟨(ad396.add ((x5_1).toNat * 3)).block, (ad396.add ((x5_1).toNat * 3)).off + 1, none⟩ = some (.int .i64 ((rd_T98 l1 x5_1).f1)) ∧ w'.cell? ⟨(ad396.add ((x5_1).toNat * 3)).block, (ad396.add ((x5_1).toNat * 3)).off + 2, none⟩ = some (.int .i64 ((rd_T98 l1 x5_1).f2))) (ds := []) (tf 0 10) (by kernel_rfl) rfl rfl ⟨(cb HB.out hw395_0), (cb HB.out hw395_1), (cb HB.out hw395_2), (cb HB.out hw396_0), (cb HB.out hw396_1), (cb HB.out hw396_2)⟩ (fun hHeld => ?_); refine with_tabW laws_eqDemandS.tab6 laws_eqDemandS.bits6 (fun HT_ HW_ => ?_)
        generalize wr.drew = w11 at HB hx395_0 hx395_1 hx395_2 hx396_0 hx396_1 hx396_2 hHeld ⊢; refine pu_ 0 17 (tf 1 9) rfl rfl ?_; refine pu_ 1 18 (tf 2 8) rfl rfl ?_; refine pu_ 2 19 (tf 3 7) rfl rfl ?_; refine pu_ 4 21 (tM [3, 1, 1, 5]) rfl rfl ?_; refine pu_ 5 22 (tM [3, 1, 2, 4]) rfl rfl ?_; refine pu_ 6 23 (tM [3, 1, 3, 3]) rfl rfl ?_; refine ta6_ 3 20 (tf 7 3) rfl rfl ?_; refine ta6_ 7 24 (tf 8 2) rfl rfl ?_; refine one_ (i := 8) (N := some 25) (tf 9 1) rfl rfl (one_of HT_.out (by kernel_rfl)) (by decide) (fun K hK => ?_); refine goes_ Try.func125 (by kernel_rfl) rfl #[.agg #[.int .i64 ((rd_T98 l0 x5_1).f0), .int .i64 ((rd_T98 l0 x5_1).f1), .int .i64 ((rd_T98 l0 x5_1).f2)], .agg #[.int .i64 ((rd_T98 l1 x5_1).f0), .int .i64 ((rd_T98 l1 x5_1).f1), .int .i64 ((rd_T98 l1 x5_1).f2)]] (by rfl) rfl rfl (by (try simp only [List.map_toArray, List.map_cons, List.map_nil]); first | done | rfl | (simp only [List.length_drop, List.length_take]; rfl)) ?_; with_reducible refine (laws_eqDemand.calls ((rd_T98 l0 x5_1).f0) ((rd_T98 l0 x5_1).f1) ((rd_T98 l0 x5_1).f2) ((rd_T98 l1 x5_1).f0) ((rd_T98 l1 x5_1).f1) ((rd_T98 l1 x5_1).f2) false _ A7.out).mono ?_
        rintro e w12 ⟨rfl, hb⟩; refine ⟨_, rfl, ?_⟩; replace HB := bs HB hb; (try clear hb)
        (try clear hb2)
        (try clear hk)
        (try clear hi)
        refine hK.out _ _ ⟨(cb HB.out hw395_0), (cb HB.out hw395_1), (cb HB.out hw395_2), (cb HB.out hw396_0), (cb HB.out hw396_1), (cb HB.out hw396_2)⟩ (fun hHeld => ?_); clear hK K; refine norm_ (a' := ?_) ?_ ?_
        rotate_left
        ·show Act.put _ (some 25) _ = _
         simp only [Act.put, List.setIfInBounds_toArray, List.set_cons_zero, List.set_cons_succ, i64_w, i32_w]
         rfl
        refine pu_ 9 26 (tf 10 0) rfl rfl ?_; refine done_ (done_of HT_.out (by kernel_rfl)) ?_; (try go_wp2)
        go_ret
        exact ⟨ew, vb HB.out⟩
      ·exact nO_ c6 H
     ·exact nO_ c5 H
    ·rw [if_neg c4] at H; have c4b0 := decide_eq_false c4; clear c4; obtain rfl := sj H; go_wp2
     go_ret
     exact ⟨ew, vb HB.out⟩
 ·rw [if_neg c3] at H; obtain ⟨c3b0, c3b1⟩ := bqf c3; have c3b2 : (l0.length == l1.length) = false := by first | simpa using c3 | (simp at c3 ⊢; omega)
  obtain rfl := sj H; go_enter Try.func98, Try.ntmps98; go_wp2
  go_ret
  exact ⟨ew, vb HB.out⟩


end Go.Proofs.Ytancnecddlbhkaa.Pall
