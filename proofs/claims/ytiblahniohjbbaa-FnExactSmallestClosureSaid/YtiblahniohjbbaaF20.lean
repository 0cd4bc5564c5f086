/- Go functions of the program, each as a Lean function, and the proof that each call comes to what the Lean function tells; no condition beyond those that stand there. -/
import Derived.Test.YtiblahniohjbbaaF00
import Derived.Test.YtiblahniohjbbaaWGuard
import Derived.Test.YtiblahniohjbbaaWLast
import Derived.Test.YtiblahniohjbbaaSpare
import Derived.Test.YtiblahniohjbbaaCm
import Derived.Test.YtiblahniohjbbaaCm3
import Derived.Test.YtiblahniohjbbaaCm6
import Derived.StillTailTactics
import Derived.IntWalk
import Derived.Lib.Hide
namespace Go.Proofs.Ytiblahniohjbbaa.Pall
open Go.RowKit Go.Proofs.YtiblahniohjbbaaW.PrintWords Go.Proofs.YtiblahniohjbbaaW.PrintLast
set_option linter.unusedVariables false
set_option linter.unusedSimpArgs false

/-! ### laws_szDemandS: function 58 -/
def laws_szDemandS.f (l0 : List (S95)) (a1 : Int) : Option (Int) := if (wrap64 (a1 - (l0.length : Int))) < 0 then (some (-1)) else (some (wrap64 (a1 - (l0.length : Int))))
set_option maxHeartbeats 8000000 in
set_option maxRecDepth 100000 in
theorem laws_szDemandS.calls (A0 : Option Addr) (c0 : Nat) (l0 : List (S95)) (a1 : Int) (r : Int) (w : World) (hr0 : Kd.C k95 w A0 l0.length l0) (hc0 : l0.length ≤ c0) (h : laws_szDemandS.f l0 a1 = some r) :
  Calls Try.prog 58 #[.slice A0 l0.length c0, .int .i64 a1] w fun e w' => e = .returned (.int .i64 r) ∧ Drawn0 w w' := by
 have HR0 := ak hr0; have HC0 := ak hc0; clear hr0 hc0; unfold laws_szDemandS.f at h; have H := h; clear h; by_cases c3 : (wrap64 (a1 - (l0.length : Int))) < 0
 rw [if_pos c3] at H; have c3b0 := decide_eq_true c3; clear c3; obtain rfl := sj H; rotate_left
 rw [if_neg c3] at H; have c3b0 := decide_eq_false c3; clear c3; obtain rfl := sj H; rotate_left
 all_goals
  go_enter Try.func58, Try.ntmps58; go_wp2
  go_ret
  exact ⟨by first | rfl | (simp; done) | (simp [*]; done), by repeat (first | exact Drawn0.refl _ | apply Drawn0.step)⟩


/-! ### laws_szAreaS: function 59 -/
def laws_szAreaS.f (l0 : List (S98)) (a1 : Int) : Option (Int) := if (wrap64 (a1 - (l0.length : Int))) < 0 then (some (-1)) else (some (wrap64 (a1 - (l0.length : Int))))
set_option maxHeartbeats 8000000 in
set_option maxRecDepth 100000 in
theorem laws_szAreaS.calls (A0 : Option Addr) (c0 : Nat) (l0 : List (S98)) (a1 : Int) (r : Int) (w : World) (hr0 : Kd.C k98 w A0 l0.length l0) (hc0 : l0.length ≤ c0) (h : laws_szAreaS.f l0 a1 = some r) :
  Calls Try.prog 59 #[.slice A0 l0.length c0, .int .i64 a1] w fun e w' => e = .returned (.int .i64 r) ∧ Drawn0 w w' := by
 have HR0 := ak hr0; have HC0 := ak hc0; clear hr0 hc0; unfold laws_szAreaS.f at h; have H := h; clear h; by_cases c3 : (wrap64 (a1 - (l0.length : Int))) < 0
 rw [if_pos c3] at H; have c3b0 := decide_eq_true c3; clear c3; obtain rfl := sj H; rotate_left
 rw [if_neg c3] at H; have c3b0 := decide_eq_false c3; clear c3; obtain rfl := sj H; rotate_left
 all_goals
  go_enter Try.func59, Try.ntmps59; go_wp2
  go_ret
  exact ⟨by first | rfl | (simp; done) | (simp [*]; done), by repeat (first | exact Drawn0.refl _ | apply Drawn0.step)⟩


/-! ### laws_szInt64S: function 60 -/
def laws_szInt64S.f (l0 : List Int) (a1 : Int) : Option (Int) := if (wrap64 (a1 - (l0.length : Int))) < 0 then (some (-1)) else (some (wrap64 (a1 - (l0.length : Int))))
set_option maxHeartbeats 8000000 in
set_option maxRecDepth 100000 in
theorem laws_szInt64S.calls (A0 : Option Addr) (c0 : Nat) (l0 : List Int) (a1 : Int) (r : Int) (w : World) (hr0 : Kd.C (Kd.int .i64) w A0 l0.length l0) (hc0 : l0.length ≤ c0) (h : laws_szInt64S.f l0 a1 = some r) :
  Calls Try.prog 60 #[.slice A0 l0.length c0, .int .i64 a1] w fun e w' => e = .returned (.int .i64 r) ∧ Drawn0 w w' := by
 have HR0 := ak hr0; have HC0 := ak hc0; clear hr0 hc0; unfold laws_szInt64S.f at h; have H := h; clear h; by_cases c3 : (wrap64 (a1 - (l0.length : Int))) < 0
 rw [if_pos c3] at H; have c3b0 := decide_eq_true c3; clear c3; obtain rfl := sj H; rotate_left
 rw [if_neg c3] at H; have c3b0 := decide_eq_false c3; clear c3; obtain rfl := sj H; rotate_left
 all_goals
  go_enter Try.func60, Try.ntmps60; go_wp2
  go_ret
  exact ⟨by first | rfl | (simp; done) | (simp [*]; done), by repeat (first | exact Drawn0.refl _ | apply Drawn0.step)⟩


/-! ### laws_szField: function 24 -/
def laws_szField.f (l0_0 : List (S95)) (l0_1 : List (S98)) (l0_2 : List Int) (l0_3 : List Int) (l0_4 : List Int) (a0_5 : Int) (a1 : Int) : Option (Int) := (laws_szDemandS.f l0_0 a1).bind fun t1073 => (if t1073 < 0 then (some (-1)) else ((laws_szAreaS.f l0_1 t1073).bind fun t1074 => (if t1074 < 0 then (some (-1)) else ((laws_szInt64S.f l0_2 t1074).bind fun t1075 => (if t1075 < 0 then (some (-1)) else ((laws_szInt64S.f l0_3 t1075).bind fun t1076 => (if t1076 < 0 then (some (-1)) else ((laws_szInt64S.f l0_4 t1076).bind fun t1077 => (if t1077 < 0 then (some (-1)) else (some t1077))))))))))
set_option maxHeartbeats 8000000 in
set_option maxRecDepth 100000 in
theorem laws_szField.calls (A0_0 : Option Addr) (c0_0 : Nat) (l0_0 : List (S95)) (A0_1 : Option Addr) (c0_1 : Nat) (l0_1 : List (S98)) (A0_2 : Option Addr) (c0_2 : Nat) (l0_2 : List Int) (A0_3 : Option Addr) (c0_3 : Nat) (l0_3 : List Int) (A0_4 : Option Addr) (c0_4 : Nat) (l0_4 : List Int) (a0_5 : Int) (a1 : Int) (r : Int) (w : World) (hr0_0 : Kd.C k95 w A0_0 l0_0.length l0_0) (hc0_0 : l0_0.length ≤ c0_0) (hr0_1 : Kd.C k98 w A0_1 l0_1.length l0_1) (hc0_1 : l0_1.length ≤ c0_1) (hr0_2 : Kd.C (Kd.int .i64) w A0_2 l0_2.length l0_2) (hc0_2 : l0_2.length ≤ c0_2) (hr0_3 : Kd.C (Kd.int .i64) w A0_3 l0_3.length l0_3) (hc0_3 : l0_3.length ≤ c0_3) (hr0_4 : Kd.C (Kd.int .i64) w A0_4 l0_4.length l0_4) (hc0_4 : l0_4.length ≤ c0_4) (h : laws_szField.f l0_0 l0_1 l0_2 l0_3 l0_4 a0_5 a1 = some r) :
  Calls Try.prog 24 #[.agg (f5 A0_0 l0_0 c0_0 A0_1 l0_1 c0_1 A0_2 l0_2 c0_2 A0_3 l0_3 c0_3 A0_4 l0_4 c0_4 a0_5), .int .i64 a1] w fun e w' => e = .returned (.int .i64 r) ∧ Below w.heap.size w w' := by
 have hu47 := Try.underlying47; have HR0_0 := ak hr0_0; have HC0_0 := ak hc0_0; clear hr0_0 hc0_0; have HR0_1 := ak hr0_1; have HC0_1 := ak hc0_1; clear hr0_1 hc0_1; have HR0_2 := ak hr0_2; have HC0_2 := ak hc0_2; clear hr0_2 hc0_2; have HR0_3 := ak hr0_3; have HC0_3 := ak hc0_3; clear hr0_3 hc0_3; have HR0_4 := ak hr0_4; have HC0_4 := ak hc0_4; clear hr0_4 hc0_4; have HB := ak (Below.refl w.heap.size w); unfold laws_szField.f at h; have H := h; clear h; obtain ⟨t1073, A3, H⟩ := bnk H; by_cases c4 : t1073 < 0
 rw [if_pos c4] at H; have c4b0 := decide_eq_true c4; clear c4; obtain rfl := sj H; rotate_left
 rw [if_neg c4] at H; have c4b0 := decide_eq_false c4; clear c4; obtain ⟨t1074, A7, H⟩ := bnk H; by_cases c8 : t1074 < 0
 rw [if_pos c8] at H; have c8b0 := decide_eq_true c8; clear c8; obtain rfl := sj H; rotate_left
 rw [if_neg c8] at H; have c8b0 := decide_eq_false c8; clear c8; obtain ⟨t1075, A11, H⟩ := bnk H; by_cases c12 : t1075 < 0
 rw [if_pos c12] at H; have c12b0 := decide_eq_true c12; clear c12; obtain rfl := sj H; rotate_left
 rw [if_neg c12] at H; have c12b0 := decide_eq_false c12; clear c12; obtain ⟨t1076, A15, H⟩ := bnk H; by_cases c16 : t1076 < 0
 rw [if_pos c16] at H; have c16b0 := decide_eq_true c16; clear c16; obtain rfl := sj H; rotate_left
 rw [if_neg c16] at H; have c16b0 := decide_eq_false c16; clear c16; obtain ⟨t1077, A19, H⟩ := bnk H; by_cases c20 : t1077 < 0
 rw [if_pos c20] at H; have c20b0 := decide_eq_true c20; clear c20; obtain rfl := sj H; rotate_left
 rw [if_neg c20] at H; have c20b0 := decide_eq_false c20; clear c20; obtain rfl := sj H; rotate_left
 all_goals
  go_enter Try.func24, Try.ntmps24; go_wp2_with (first | ((with_reducible refine gate_dst (N := 2) rfl ?_); refine bx 2 (f5 A0_0 l0_0 c0_0 A0_1 l0_1 c0_1 A0_2 l0_2 c0_2 A0_3 l0_3 c0_3 A0_4 l0_4 c0_4 a0_5) 47 ?_; intro gb1072 hg w9 hbox hb; have BK1072 := ak hbox; have GW1072 := gw hg HB; have GE1072 := gw hg HB; replace HB := bs HB hb; clear hb hbox hg; have hcz9 := cz6 BK1072.out) | ((with_reducible refine at_fn (f := 58) rfl ?_); refine gl (some 8) Try.func58 #[.slice A0_0 l0_0.length c0_0, .int .i64 a1] ?_; (with_reducible refine (laws_szDemandS.calls _ _ l0_0 a1 t1073 _ ?_ HC0_0.out A3.out).mono ?_); exact vd HR0_0.out HB.out; rintro e w' ⟨rfl, ⟨nd, rfl⟩⟩; refine ⟨_, rfl, ?_⟩) | ((with_reducible refine at_fn (f := 59) rfl ?_); refine gl (some 14) Try.func59 #[.slice A0_1 l0_1.length c0_1, .int .i64 t1073] ?_; (with_reducible refine (laws_szAreaS.calls _ _ l0_1 t1073 t1074 _ ?_ HC0_1.out A7.out).mono ?_); exact vd HR0_1.out (vb HB.out); rintro e w' ⟨rfl, ⟨nd, rfl⟩⟩; refine ⟨_, rfl, ?_⟩) | ((with_reducible refine at_fn (f := 60) rfl ?_); refine gl (some 20) Try.func60 #[.slice A0_2 l0_2.length c0_2, .int .i64 t1074] ?_; (with_reducible refine (laws_szInt64S.calls _ _ l0_2 t1074 t1075 _ ?_ HC0_2.out A11.out).mono ?_); exact vd HR0_2.out (vb HB.out); rintro e w' ⟨rfl, ⟨nd, rfl⟩⟩; refine ⟨_, rfl, ?_⟩) | ((with_reducible refine at_fn (f := 60) rfl ?_); refine gl (some 26) Try.func60 #[.slice A0_3 l0_3.length c0_3, .int .i64 t1075] ?_; (with_reducible refine (laws_szInt64S.calls _ _ l0_3 t1075 t1076 _ ?_ HC0_3.out A15.out).mono ?_); exact vd HR0_3.out (vb HB.out); rintro e w' ⟨rfl, ⟨nd, rfl⟩⟩; refine ⟨_, rfl, ?_⟩) | ((with_reducible refine at_fn (f := 60) rfl ?_); refine gl (some 32) Try.func60 #[.slice A0_4 l0_4.length c0_4, .int .i64 t1076] ?_; (with_reducible refine (laws_szInt64S.calls _ _ l0_4 t1076 t1077 _ ?_ HC0_4.out A19.out).mono ?_); exact vd HR0_4.out (vb HB.out); rintro e w' ⟨rfl, ⟨nd, rfl⟩⟩; refine ⟨_, rfl, ?_⟩))
  go_ret
  exact ⟨ew, vb HB.out⟩


/-! ### laws_roomBehind: function 70 -/
def laws_roomBehind.f (a0 : Int) : Option (Int) := if (Int.tmod a0 6) = 5 then (some 0) else (if (Int.tmod a0 3) = 0 then (some 1) else (some a0))
set_option maxHeartbeats 8000000 in
set_option maxRecDepth 100000 in
theorem laws_roomBehind.calls (a0 : Int) (r : Int) (w : World) (h : laws_roomBehind.f a0 = some r) :
  Calls Try.prog 70 #[.int .i64 a0] w fun e w' => e = .returned (.int .i64 r) ∧ Drawn0 w w' := by
 unfold laws_roomBehind.f at h; have H := h; clear h; by_cases c2 : (Int.tmod a0 6) = 5
 rw [if_pos c2] at H; obtain ⟨c2b0, c2b1⟩ := bqt c2; clear c2; obtain rfl := sj H; rotate_left
 rw [if_neg c2] at H; obtain ⟨c2b0, c2b1⟩ := bqf c2; by_cases c3 : (Int.tmod a0 3) = 0
 rw [if_pos c3] at H; obtain ⟨c3b0, c3b1⟩ := bqt c3; clear c3; obtain rfl := sj H; rotate_left
 rw [if_neg c3] at H; obtain ⟨c3b0, c3b1⟩ := bqf c3; obtain rfl := sj H; rotate_left
 all_goals
  go_enter Try.func70, Try.ntmps70; go_wp2
  go_ret
  exact ⟨by first | rfl | (simp; done) | (simp [*]; done), by repeat (first | exact Drawn0.refl _ | apply Drawn0.step)⟩
theorem room_f (n : Nat) : laws_roomBehind.f (n : Int) = some ((roomN n : Nat) : Int) := by
 have h6 : Int.tmod (n : Int) 6 = ((n % 6 : Nat) : Int) := (Int.ofNat_tmod n 6).symm; have h3 : Int.tmod (n : Int) 3 = ((n % 3 : Nat) : Int) := (Int.ofNat_tmod n 3).symm; unfold laws_roomBehind.f roomN
 rw [h6, h3]; by_cases a : n % 6 = 5
 ·rw [if_pos (by omega), if_pos a]; rfl
 ·rw [if_neg (by omega), if_neg a]; by_cases b : n % 3 = 0
  ·rw [if_pos (by omega), if_pos b]; rfl
  ·rw [if_neg (by omega), if_neg b]


/-! ### laws_toInt64S: function 37 -/
mutual
def laws_toInt64Sg.j0 : Nat → List Int → Bool → Option (List Int)
 | 0, _, _ => none
 | k + 1, x0, x13 => if x13 = true then (some ([] : List Int)) else ((laws_roomBehind.f (x0.length : Int)).bind fun t1125 => (if 0 ≤ (wrap64 ((x0.length : Int) + t1125)) then (if (wrap64 ((x0.length : Int) + t1125) : Int).toNat ≤ 35184372088832 then (laws_toInt64Sg.l0 k x0 (List.replicate (wrap64 ((x0.length : Int) + t1125) : Int).toNat 0) 0) else (none)) else (none)))
def laws_toInt64Sg.l0 : Nat → List Int → List Int → Int → Option (List Int)
 | 0, _, _, _ => none
 | k + 1, x0, x5, x6 => if x6 < (x0.length : Int) then (if 0 ≤ x6 then (if x6 < (x5.length : Int) then (laws_toInt64Sg.l0 k x0 (x5.set (x6 : Int).toNat (rd x0 x6)) (wrap64 (x6 + 1))) else (none)) else (none)) else (laws_toInt64Sg.l1 k x0 x5 (x0.length : Int))
def laws_toInt64Sg.l1 : Nat → List Int → List Int → Int → Option (List Int)
 | 0, _, _, _ => none
 | k + 1, x0, x5, x7 => if x7 < (x5.length : Int) then (if 0 ≤ x7 then (laws_toInt64Sg.l1 k x0 (x5.set (x7 : Int).toNat (-7000000000000000101)) (wrap64 (x7 + 1))) else (none)) else (if 0 ≤ (x0.length : Int) then (if (x0.length : Int) ≤ (x5.length : Int) then (some x5) else (none)) else (none))
end
def laws_toInt64Sg.f (k : Nat) (l0 : List Int) (a1 : Bool) : Option (List Int) := if a1 = true then (laws_toInt64Sg.j0 k l0 ((l0.length : Int) == 0)) else (laws_toInt64Sg.j0 k l0 false)
theorem laws_toInt64Sg.mono_l : ∀ k, (∀ y0 y1, LeO (laws_toInt64Sg.j0 k y0 y1) (laws_toInt64Sg.j0 (k + 1) y0 y1)) ∧ (∀ y0 y1 y2, LeO (laws_toInt64Sg.l0 k y0 y1 y2) (laws_toInt64Sg.l0 (k + 1) y0 y1 y2)) ∧ (∀ y0 y1 y2, LeO (laws_toInt64Sg.l1 k y0 y1 y2) (laws_toInt64Sg.l1 (k + 1) y0 y1 y2))
 | 0 => ⟨fun _ _ r h => by simp [laws_toInt64Sg.j0] at h, fun _ _ _ r h => by simp [laws_toInt64Sg.l0] at h, fun _ _ _ r h => by simp [laws_toInt64Sg.l1] at h⟩
 | k + 1 => by
  obtain ⟨ih0, ih1, ih2⟩ := laws_toInt64Sg.mono_l k; refine ⟨?_, ?_, ?_⟩
  ·intro y0 y1; unfold laws_toInt64Sg.j0
   repeat' (with_reducible first | exact ih0 .. | exact ih1 .. | exact ih2 .. | exact LeO.refl .. | exact LeO.none .. | refine LeO.ite ?_ ?_ | refine LeO.bind ?_ (fun _ => ?_))
  ·intro y0 y1 y2; unfold laws_toInt64Sg.l0
   repeat' (with_reducible first | exact ih0 .. | exact ih1 .. | exact ih2 .. | exact LeO.refl .. | exact LeO.none .. | refine LeO.ite ?_ ?_ | refine LeO.bind ?_ (fun _ => ?_))
  ·intro y0 y1 y2; unfold laws_toInt64Sg.l1
   repeat' (with_reducible first | exact ih0 .. | exact ih1 .. | exact ih2 .. | exact LeO.refl .. | exact LeO.none .. | refine LeO.ite ?_ ?_ | refine LeO.bind ?_ (fun _ => ?_))
theorem laws_toInt64Sg.mono : ∀ a0 a1 k, LeO (laws_toInt64Sg.f k a0 a1) (laws_toInt64Sg.f (k + 1) a0 a1) := by
 intro a0 a1 k; obtain ⟨ih0, ih1, ih2⟩ := laws_toInt64Sg.mono_l k; unfold laws_toInt64Sg.f
 repeat' (with_reducible first | exact ih0 .. | exact ih1 .. | exact ih2 .. | exact LeO.refl .. | exact LeO.none .. | refine LeO.ite ?_ ?_ | refine LeO.bind ?_ (fun _ => ?_))
set_option maxHeartbeats 8000000 in
set_option maxRecDepth 100000 in
theorem laws_toInt64Sg.calls (k : Nat) (A0 : Option Addr) (c0 : Nat) (l0 : List Int) (a1 : Bool) (r : List Int) (w : World) (hr0 : Kd.C (Kd.int .i64) w A0 l0.length l0) (hc0 : l0.length ≤ c0) (h : laws_toInt64Sg.f k l0 a1 = some r) :
  Calls Try.prog 37 #[.slice A0 l0.length c0, .bool a1] w fun e w' => ∃ (A_ : Option Addr) (c_ : Nat), e = .returned (.slice A_ (vis l0.length r.length) c_) ∧ Kd.R (Kd.int .i64) 2 w' w.heap.size (fun _ => True) (.slice A_ r.length c_) r ∧ Below w.heap.size w w' := by
 have HR0 := ak hr0; have HC0 := ak hc0; clear hr0 hc0; have HB := ak (Below.refl w.heap.size w); unfold laws_toInt64Sg.f at h; have H := h; clear h; have HC3 := ak H; clear H; go_enter Try.func37, Try.ntmps37; go_upto_region 1 with (fail)
 go_cut [13] (fun v13 wc => ∃ (kq : Nat) (x13_2 : Bool), v13 = .bool x13_2 ∧ Aside0 (laws_toInt64Sg.j0 kq l0 x13_2 = some r) ∧ Aside0 (kq ≤ k) ∧ Aside0 (Below w.heap.size w wc))
 case first =>
  have H := HC3.out; clear HC3; by_cases c4 : a1 = true
  ·subst c4; rw [if_pos rfl] at H; have H' := ak H; clear H; go_wp2
   go_meet
   case rel => exact ⟨_, (((l0.length : Int) == 0)), es, H', ⟨by first | omega | exact Nat.le_refl _⟩, ⟨vb HB.out⟩⟩
  ·replace c4 := Bool.eq_false_iff.mpr c4; subst c4; rw [if_neg nf] at H; have H' := ak H; clear H; go_wp2
   go_meet
   case rel => exact ⟨_, (false), es, H', ⟨by first | omega | exact Nat.le_refl _⟩, ⟨vb HB.out⟩⟩
 case rest =>
  clear HC3; (try clear p2); (try clear c3); (try clear c4); obtain ⟨kq, x13_2, rfl, HA, HJ2, HB⟩ := hcut
  cases kq with
  | zero => exact absurd HA.out (by simp [laws_toInt64Sg.j0])
  | succ kj2 =>
   have H := HA.out; clear HA; simp only [laws_toInt64Sg.j0] at H
   by_cases c5 : x13_2 = true
   ·subst c5; rw [if_pos rfl] at H; obtain rfl := sj H; go_wp2
    go_ret
    exact ⟨none, 0, by first | (rw [vis_zero]; rfl) | (simp only [List.length_nil, vis_zero]; rfl), Kd.R_nil _ _ _ _ _, vb HB.out⟩
   ·replace c5 := Bool.eq_false_iff.mpr c5; subst c5; rw [if_neg nf] at H; obtain ⟨t1125, A6, H⟩ := bnk H; obtain ⟨ji7, hji7⟩ : ∃ j_ : Int, (wrap64 ((l0.length : Int) + t1125)) = j_ := ⟨_, rfl⟩; replace H : (if 0 ≤ (ji7) then (if (ji7 : Int).toNat ≤ 35184372088832 then (laws_toInt64Sg.l0 kj2 l0 (List.replicate (ji7 : Int).toNat 0) 0) else (none)) else (none)) = some r := by first | (rw [hji7] at H; exact H) | (simp only [hji7] at H ⊢; exact H)
    (try rw [hji7] at A6)
    have hji7w : (IntKind.i64.wrap ((l0.length : Int) + t1125)) = ji7 := (i64_w _).trans hji7; by_cases c8 : 0 ≤ (ji7)
    ·rw [if_pos c8] at H; have c8b0 := eq_true c8; have c8b1 : decide (0 ≤ (ji7)) = true := decide_eq_true c8; clear c8; by_cases c9 : (ji7 : Int).toNat ≤ 35184372088832
     ·rw [if_pos c9] at H; have c9b0 := eq_true c9; have c9b1 : decide ((ji7 : Int).toNat ≤ 35184372088832) = true := decide_eq_true c9; clear c9; obtain ⟨y1126, hy1126⟩ := gen_ ((List.replicate (ji7 : Int).toNat 0 : List Int)); rw [← hy1126] at H; have Ny1126 := ak hy1126; clear hy1126; have H' := ak H; clear H; go_wp2_with (first | ((with_reducible refine at_fn (f := 70) rfl ?_); refine gl (some 18) Try.func70 #[.int .i64 (l0.length : Int)] ?_; (with_reducible refine (laws_roomBehind.calls (l0.length : Int) t1125 _ A6.out).mono ?_); rintro e w' ⟨rfl, ⟨nd, rfl⟩⟩; refine ⟨_, rfl, ?_⟩) | ((with_reducible refine gate_dst (N := 20) rfl ?_); (try (refine gate_guard (by rfl) ?_; dsimp only)); refine Kd.R_make (Kd.int .i64) _ 2 rfl (N := 20) rfl 26 _ _ rfl ji7 rfl rfl Try.underlying26 (.int .i64 0) 8 info2 rfl (by decide) (by omega) 0 (ok := fun _ => True) (okp := fun _ => True) rfl (fun _ hk => hk) trivial (od) (Nat.le_trans (Nat.mul_le_mul_right _ (od : ji7.toNat ≤ 35184372088832)) (by omega)) (Below.refl _ _) (Nat.le_refl _) ?_; intro v1127 w10 ho11 hb hg_ hnew_; clear hg_ hnew_; (first | rw [← Ny1126.out] at ho11 | (simp only [Int.reduceToNat] at ho11; rw [← Ny1126.out] at ho11)); have HO1128 := ak (Kd.R_lower ho11 (below_size (vb HB.out))); replace HB := bs HB hb; clear hb ho11))
      go_loopg [6] kj2 (fun kq v6 w' => ∃ (x5_2 : List Int) (x6_2 : Int), v6 = .int .i64 x6_2 ∧ Aside0 (laws_toInt64Sg.l0 kq l0 x5_2 x6_2 = some r) ∧ Aside0 (kq ≤ kj2) ∧ Aside0 (Kd.R (Kd.int .i64) 2 w' w.heap.size (fun _ => True) v1127 x5_2) ∧ Aside0 (Below w.heap.size w w'))
      case atStart => exact ⟨(y1126), (0), es, H', ⟨Nat.le_refl _⟩, ⟨vr HO1128.out⟩, ⟨vb HB.out⟩⟩
      case round =>
       clear H'; (try clear p2); (try clear c3); (try clear c4); (try clear c5); (try clear p6); (try clear c7); (try clear c8); (try clear c8b0); (try clear c8b1); (try clear c9); (try clear c9b0); (try clear c9b1); (try clear p2); obtain ⟨x5_2, x6_2, rfl, HA, HK2, HO_5, HB⟩ := hrel
       cases gk with
       | zero => exact absurd HA.out (by simp [laws_toInt64Sg.l0])
       | succ k2 =>
        have H := HA.out; clear HA; simp only [laws_toInt64Sg.l0] at H
        by_cases c12 : x6_2 < (l0.length : Int)
        ·rw [if_pos c12] at H; have c12b0 := decide_eq_true c12; clear c12; by_cases c13 : 0 ≤ x6_2
         ·rw [if_pos c13] at H; have c13b0 := decide_eq_true c13; clear c13; by_cases c14 : x6_2 < (x5_2.length : Int)
          ·rw [if_pos c14] at H; have c14b0 := decide_eq_true c14; clear c14; obtain ⟨y1130, hy1130⟩ := gen_ ((x5_2.set (x6_2 : Int).toNat (rd l0 x6_2) : List Int)); rw [← hy1130] at H; have Ny1130 := ak hy1130; clear hy1130; have H' := ak H; clear H; have p1129 : 0 ≤ (x6_2 : Int) := od; have q1129 : x6_2 < (l0.length : Int) := od; obtain ⟨ad1129, e1129, hx1129_0⟩ := Kd.at_int HR0.out x6_2 p1129 q1129
           cases e1129; replace hx1129_0 := cb HB.out hx1129_0; replace p1129 := eq_true p1129; replace q1129 := eq_true q1129; have p15 : 0 ≤ (x6_2 : Int) := od; have q15 : (x6_2 : Int) < ((x5_2.length : Int) : Int) := od; obtain ⟨go15, co15, eo15, gb15, gl15, cl15, HG15⟩ := Kd.R_form HO_5.out (by omega); (first | cases eo15 | (injection eo15 with ea_ en_ ec_; (first | subst ea_ | (injection ea_ with ea_; subst ea_)); subst ec_; clear en_))
           have GB15 := ak gb15; have GG15 := ak HG15; clear gb15 gl15 HG15; obtain ⟨hx15_0, hf15_0⟩ := Kd.R_celln 0 HO_5.out (x6_2 : Int) p15 q15; replace p15 := eq_true p15; replace q15 := eq_true q15; have HP16 := Kd.R_putg HO_5.out (x6_2 : Int) (rd l0 x6_2); go_wp2_with (first | ((with_reducible refine gate_store (t := 2) (p := 33) rfl ?_); refine store_event (t := 2) (p := 33) (v := ?vo_w17) (w1 := (wr.setCell ⟨go15, (x6_2 : Int).toNat, none⟩ (.int .i64 (rd l0 x6_2)))) ?hg ?ho ?hn ?hr ?_; (case ho => rfl); (case hg => rfl); (case hn => rfl); (case hr => first | (go_simp; done) | (go_simp; rfl)); intro w17 hw; have hg : wr.grownBy w17 (some go15) := (by rw [hw]; exact HP16.2); have hp_ : Kd.R (Kd.int .i64) 2 w17 w.heap.size (fun _ => True) (.slice (some ⟨go15, 0, none⟩) x5_2.length co15) y1130 := (by rw [hw, Ny1130.out]; exact HP16.1); clear HP16; replace HO_5 := ak (hp_); replace HB := ak ((by rw [hw]; exact below_set (HB.out) GB15.out : Below w.heap.size w w17)); clear hg hw hp_))
           go_roundg k2
           case measure => have := HJ2.out; have := HK2.out; omega
           case rel => exact ⟨(y1130), (wrap64 (x6_2 + 1)), es, H', ⟨by have := HJ2.out; have := HK2.out; omega⟩, ⟨vr HO_5.out⟩, ⟨vb HB.out⟩⟩
          ·exact nO_ c14 H
         ·exact nO_ c13 H
        ·rw [if_neg c12] at H; have c12b0 := decide_eq_false c12; clear c12; have H' := ak H; clear H; go_wp2
         go_loopg [7] k2 (fun kq v7 w' => ∃ (x5_3 : List Int) (x7_3 : Int), v7 = .int .i64 x7_3 ∧ Aside0 (laws_toInt64Sg.l1 kq l0 x5_3 x7_3 = some r) ∧ Aside0 (kq ≤ k2) ∧ Aside0 (Kd.R (Kd.int .i64) 2 w' w.heap.size (fun _ => True) v1127 x5_3) ∧ Aside0 (Below w.heap.size w w'))
         case atStart => exact ⟨(x5_2), ((l0.length : Int)), es, H', ⟨Nat.le_refl _⟩, ⟨vr HO_5.out⟩, ⟨vb HB.out⟩⟩
         case round =>
          clear H'; (try clear c1); (try clear p1); (try clear q1); (try clear hx1); (try clear p2); (try clear c3); (try clear c4); (try clear c5); (try clear p6); (try clear c7); (try clear c8); (try clear c8b0); (try clear c8b1); (try clear c9); (try clear c9b0); (try clear c9b1); (try clear p11); (try clear q11); (try clear hx11); (try clear c12); (try clear c12b0); (try clear c13); (try clear c13b0); (try clear c14); (try clear c14b0); (try clear p15); (try clear q15); (try clear hx15); (try clear hf15); (try clear hx1129_0); (try clear hx15_0); (try clear p1129); (try clear p15); (try clear p2); (try clear p6); (try clear q1129); (try clear q15); obtain ⟨x5_3, x7_3, rfl, HA, HK3, HO_5, HB⟩ := hrel
          cases gk with
          | zero => exact absurd HA.out (by simp [laws_toInt64Sg.l1])
          | succ k3 =>
           have H := HA.out; clear HA; simp only [laws_toInt64Sg.l1] at H
           by_cases c18 : x7_3 < (x5_3.length : Int)
           ·rw [if_pos c18] at H; have c18b0 := decide_eq_true c18; clear c18; by_cases c19 : 0 ≤ x7_3
            ·rw [if_pos c19] at H; have c19b0 := decide_eq_true c19; clear c19; obtain ⟨y1131, hy1131⟩ := gen_ ((x5_3.set (x7_3 : Int).toNat (-7000000000000000101) : List Int)); rw [← hy1131] at H; have Ny1131 := ak hy1131; clear hy1131; have H' := ak H; clear H; obtain ⟨Ao21, co21, eo21⟩ := Kd.R_slice HO_5.out; subst eo21; have p20 : 0 ≤ (x7_3 : Int) := od; have q20 : (x7_3 : Int) < ((x5_3.length : Int) : Int) := od; obtain ⟨go20, co20, eo20, gb20, gl20, cl20, HG20⟩ := Kd.R_form HO_5.out (by omega); (first | cases eo20 | (injection eo20 with ea_ en_ ec_; (first | subst ea_ | (injection ea_ with ea_; subst ea_)); subst ec_; clear en_))
             have GB20 := ak gb20; have GG20 := ak HG20; clear gb20 gl20 HG20; obtain ⟨hx20_0, hf20_0⟩ := Kd.R_celln 0 HO_5.out (x7_3 : Int) p20 q20; replace p20 := eq_true p20; replace q20 := eq_true q20; have HP22 := Kd.R_putg HO_5.out (x7_3 : Int) (-7000000000000000101); go_wp2_with (first | ((with_reducible refine gate_store (t := 2) (p := 44) rfl ?_); refine store_event (t := 2) (p := 44) (v := ?vo_w23) (w1 := (wr.setCell ⟨go20, (x7_3 : Int).toNat, none⟩ (.int .i64 (-7000000000000000101)))) ?hg ?ho ?hn ?hr ?_; (case ho => rfl); (case hg => rfl); (case hn => rfl); (case hr => first | (go_simp; done) | (go_simp; rfl)); intro w23 hw; have hg : wr.grownBy w23 (some go20) := (by rw [hw]; exact HP22.2); have hp_ : Kd.R (Kd.int .i64) 2 w23 w.heap.size (fun _ => True) (.slice (some ⟨go20, 0, none⟩) x5_3.length co21) y1131 := (by rw [hw, Ny1131.out]; exact HP22.1); clear HP22; replace HO_5 := ak (hp_); replace HB := ak ((by rw [hw]; exact below_set (HB.out) GB20.out : Below w.heap.size w w23)); clear hg hw hp_))
             go_roundg k3
             case measure => have := HJ2.out; have := HK2.out; have := HK3.out; omega
             case rel => exact ⟨(y1131), (wrap64 (x7_3 + 1)), es, H', ⟨by have := HJ2.out; have := HK2.out; have := HK3.out; omega⟩, ⟨vr HO_5.out⟩, ⟨vb HB.out⟩⟩
            ·exact nO_ c19 H
           ·rw [if_neg c18] at H; have c18b0 := decide_eq_false c18; clear c18; by_cases c24 : 0 ≤ (l0.length : Int)
            ·rw [if_pos c24] at H; have c24b0 := eq_true c24; have c24b1 : decide (0 ≤ (l0.length : Int)) = true := decide_eq_true c24; clear c24; by_cases c25 : (l0.length : Int) ≤ (x5_3.length : Int)
             ·rw [if_pos c25] at H; have c25b0 := eq_true c25; have c25b1 : decide ((l0.length : Int) ≤ (x5_3.length : Int)) = true := decide_eq_true c25; clear c25; obtain ⟨y1132, hy1132⟩ : ∃ y_ : List Int, y_ = (x5_3.take ((l0.length : Int) : Int).toNat) := ⟨_, rfl⟩; have Ny1132 := ak hy1132; clear hy1132; obtain rfl := sj H; obtain ⟨Ao26, co26, eo26⟩ := Kd.R_slice HO_5.out; subst eo26; have q27 : ((l0.length : Int) : Int) ≤ ((x5_3.length : Int) : Int) := od; obtain ⟨i027, hi027, _, hsz27, _⟩ := info_parts info2; have hcut27 := cut_to (P := Try.prog) 26 2 .i64 Try.underlying26 hi027 Ao26 x5_3.length co26 (l0.length : Int) (od) q27 (Kd.R_reads' HO_5.out).2.1; have hr27 := Kd.R_take (m := ((l0.length : Int) : Int).toNat) HO_5.out (by omega); have hy27 : y1132.length = ((l0.length : Int) : Int).toNat := (by rw [Ny1132.out, List.length_take]; omega); rw [← Ny1132.out] at hr27; rw [← hy27] at hr27 hcut27; clear hy27 hi027 hsz27; have HO1134 := ak hr27; clear hr27; replace q27 := eq_true q27; go_wp2
              go_ret
              exact ⟨Ao26, co26, (by rw [show vis l0.length x5_3.length = y1132.length from by rw [Ny1132.out, Int.toNat_natCast, List.length_take]; rfl]; rfl), vr HO_5.out, vb HB.out⟩
             ·exact nO_ c25 H
            ·exact nO_ c24 H
     ·exact nO_ c9 H
    ·exact nO_ c8 H
theorem laws_toInt64S.w1 {i n : Nat} (h : i < n) (hn : n ≤ 4000000) : wrap64 ((i : Int) + 1) = ((i + 1 : Nat) : Int) := by unfold wrap64; omega
theorem laws_toInt64S.l1_eval (x0 : List Int) (d : Nat) : ∀ (k : Nat) (F : List Int) (i : Nat), x0.length ≤ i → F.length = i + d → F.length ≤ 4000000 → d < k →
  laws_toInt64Sg.l1 k x0 F (i : Int) = some (F.take i ++ List.replicate d ((-7000000000000000101) : Int)) := by
 induction d with
 | zero =>
  intro k F i h0 h1 h2 h3; obtain ⟨k, rfl⟩ : ∃ m, k = m + 1 := ⟨k - 1, by omega⟩; simp only [laws_toInt64Sg.l1]
  rw [if_neg (by omega), if_pos (by omega), if_pos (by omega)]; simp [List.take_of_length_le (show F.length ≤ i by omega)]
 | succ d ih =>
  intro k F i h0 h1 h2 h3; obtain ⟨k, rfl⟩ : ∃ m, k = m + 1 := ⟨k - 1, by omega⟩; have e := ih k (F.set i ((-7000000000000000101) : Int)) (i + 1) (by omega) (by simp; omega) (by simpa using h2) (by omega); simp only [laws_toInt64Sg.l1]
  rw [if_pos (by omega), if_pos (by omega), laws_toInt64S.w1 (n := F.length) (by omega) h2, Int.toNat_natCast]; refine Eq.trans e ?_; rw [take_succ_set F i ((-7000000000000000101) : Int) (by omega), List.append_assoc]; rfl
theorem laws_toInt64S.l0_eval (x0 : List Int) (d : Nat) : ∀ (k : Nat) (F : List Int) (i : Nat), x0.length = i + d → x0.length ≤ F.length → F.length ≤ 4000000 → d + (F.length - x0.length) + 1 < k →
  laws_toInt64Sg.l0 k x0 F (i : Int) = some (F.take i ++ (x0.drop i) ++ List.replicate (F.length - x0.length) ((-7000000000000000101) : Int)) := by
 induction d with
 | zero =>
  intro k F i h0 h1 h2 h3; obtain ⟨k, rfl⟩ : ∃ m, k = m + 1 := ⟨k - 1, by omega⟩; simp only [laws_toInt64Sg.l0]
  have hi : i = x0.length := by omega
  subst hi; rw [if_neg (by omega), laws_toInt64S.l1_eval x0 (F.length - x0.length) k F x0.length (Nat.le_refl _) (by omega) h2 (by omega)]; simp
 | succ d ih =>
  intro k F i h0 h1 h2 h3; obtain ⟨k, rfl⟩ : ∃ m, k = m + 1 := ⟨k - 1, by omega⟩; have hlt : i < x0.length := by omega
  have e := ih k (F.set i x0[i]) (i + 1) (by omega) (by simpa using h1) (by simpa using h2) (by simp; omega); simp only [laws_toInt64Sg.l0]
  have hr : rd x0 (i : Int) = x0[i] := by simp [rd, hlt]
  rw [if_pos (by omega), if_pos (by omega), if_pos (by omega), laws_toInt64S.w1 (n := F.length) (by omega) h2, Int.toNat_natCast, hr]; refine Eq.trans e ?_; rw [take_succ_set F i x0[i] (by omega), List.length_set, List.drop_eq_getElem_cons hlt]; simp only [List.append_assoc, List.cons_append, List.nil_append]
theorem laws_toInt64S.g_eval (l0 : List Int) (a1 : Bool) (h : l0.length ≤ 1000000) : ∃ k, laws_toInt64Sg.f k l0 a1 = some (if a1 = true ∧ l0 = [] then [] else full l0) := by
 obtain ⟨K, hK⟩ : ∃ K, K = l0.length + roomN l0.length + 5 := ⟨_, rfl⟩; refine ⟨K + 1, ?_⟩; have hr := room_f l0.length; have hl : roomN l0.length ≤ 1000000 := by unfold roomN; (repeat' split) <;> omega
 have hj : laws_toInt64Sg.j0 (K + 1) l0 false = some (full l0) := by
  simp only [laws_toInt64Sg.j0]
  rw [if_neg (by decide), hr]; rw [Option.bind_some]; have hw : wrap64 ((l0.length : Int) + ((roomN l0.length : Nat) : Int)) = ((l0.length + roomN l0.length : Nat) : Int) := by unfold wrap64; omega
  rw [hw, if_pos (by omega), if_pos (by omega), Int.toNat_natCast]; have e := laws_toInt64S.l0_eval l0 l0.length K (List.replicate (l0.length + roomN l0.length) 0) 0 (by omega) (by simp) (by simp <;> omega) (by simp <;> omega); refine Eq.trans e ?_; simp [full, Fil.fil]
  try rfl
 unfold laws_toInt64Sg.f
 by_cases h1 : a1 = true
 ·rw [if_pos h1]; by_cases h2 : l0 = []
  ·subst h2; rw [if_pos ⟨h1, rfl⟩]; simp only [laws_toInt64Sg.j0]
   rw [if_pos (by decide)]
  ·rw [if_neg (fun h3 => h2 h3.2)]
   have h3 : ((l0.length : Int) == 0) = false := by
    have : l0.length ≠ 0 := fun h4 => h2 (List.length_eq_zero_iff.1 h4)
    rw [beq_eq_false_iff_ne]; omega
   rw [h3]; exact hj
 ·rw [if_neg h1, if_neg (fun h2 => h1 h2.1)]; exact hj
def laws_toInt64S.f (_k : Nat) (l0 : List Int) (_a1 : Bool) : Option (List Int) := if l0.length ≤ 1000000 then some l0 else none
theorem laws_toInt64S.mono : ∀ a0 a1 k, LeO (laws_toInt64S.f k a0 a1) (laws_toInt64S.f (k + 1) a0 a1) := fun _ _ _ => LeO.refl _
theorem laws_toInt64S.callsF (k : Nat) (A0 : Option Addr) (c0 : Nat) (l0 : List Int) (r : List Int) (w : World) (hr0 : Kd.C (Kd.int .i64) w A0 l0.length l0) (hc0 : l0.length ≤ c0) (h : laws_toInt64S.f k l0 false = some r) :
  Calls Try.prog 37 #[.slice A0 l0.length c0, .bool false] w fun e w' => ∃ v0_ : Value, e = .returned (v0_) ∧ Kd.P (Kd.int .i64) 2 w' w.heap.size (fun _ => True) v0_ r ∧ Below w.heap.size w w' := by
 unfold laws_toInt64S.f at h
 split at h
 ·rename_i hl
  obtain rfl := Option.some.inj h; obtain ⟨k', hk⟩ := laws_toInt64S.g_eval l0 false hl; rw [if_neg (fun h2 => absurd h2.1 (by decide))] at hk; refine (laws_toInt64Sg.calls k' A0 c0 l0 false _ w hr0 hc0 hk).mono ?_; rintro e w' ⟨A_, c_, rfl, h1, h2⟩; refine ⟨_, rfl, ⟨fun _ _ => trivial, A_, c_, ?_, h1⟩, h2⟩; first | (rw [vis_le (by simp [full])]; done) | (rw [vis_le (by simp [full])]; simp)
 ·exact absurd h (by simp)
theorem laws_toInt64S.calls (k : Nat) (A0 : Option Addr) (c0 : Nat) (l0 : List Int) (a1 : Bool) (r : List Int) (w : World) (hr0 : Kd.C (Kd.int .i64) w A0 l0.length l0) (hc0 : l0.length ≤ c0) (h : laws_toInt64S.f k l0 a1 = some r) :
  Calls Try.prog 37 #[.slice A0 l0.length c0, .bool a1] w fun e w' => ∃ v0_ : Value, e = .returned (v0_) ∧ Kd.R (Kd.int .i64) 2 w' w.heap.size (fun _ => True) v0_ r ∧ Below w.heap.size w w' := by
 unfold laws_toInt64S.f at h
 split at h
 ·rename_i hl
  obtain rfl := Option.some.inj h; obtain ⟨k', hk⟩ := laws_toInt64S.g_eval l0 a1 hl; refine (laws_toInt64Sg.calls k' A0 c0 l0 a1 _ w hr0 hc0 hk).mono ?_; rintro e w' ⟨A_, c_, rfl, h1, h2⟩; refine ⟨_, rfl, ?_, h2⟩; by_cases hz : a1 = true ∧ l0 = []
  ·obtain ⟨rfl, rfl⟩ := hz; rw [if_pos ⟨rfl, rfl⟩] at h1 ⊢; simpa [vis_zero] using h1
  ·rw [if_neg hz] at h1 ⊢; have := Kd.R_take h1 (m := l0.length) (by simp [full]); rw [vis_le (by simp [full])]; simpa [full] using this
 ·exact absurd h (by simp)

/-! ### laws_toDemand: function 86 -/
def laws_toDemand.f (a0_0 : Int) (a0_1 : Int) (a0_2 : Int) : Option (Int × Int × Int) := some (a0_0, a0_1, a0_2)
set_option maxHeartbeats 8000000 in
set_option maxRecDepth 100000 in
theorem laws_toDemand.calls (a0_0 : Int) (a0_1 : Int) (a0_2 : Int) (r1 : Int) (r2 : Int) (r3 : Int) (w : World) (h : laws_toDemand.f a0_0 a0_1 a0_2 = some (r1, r2, r3)) :
  Calls Try.prog 86 #[.agg #[.int .i64 a0_0, .int .i64 a0_1, .int .i64 a0_2]] w fun e w' => e = .returned (.agg #[.int .i64 r1, .int .i64 r2, .int .i64 r3]) ∧ Below w.heap.size w w' := by
 have hu95 := Try.underlying95; have hu91 := Try.underlying91; have HB := ak (Below.refl w.heap.size w); unfold laws_toDemand.f at h; have H := h; clear h; simp only [Option.some.injEq, Prod.mk.injEq] at H
 obtain ⟨rfl, rfl, rfl⟩ := H; go_enter Try.func86, Try.ntmps86; go_wp2_with (first | ((with_reducible refine gate_dst (N := 1) rfl ?_); refine bx 1 #[.int .i64 a0_0, .int .i64 a0_1, .int .i64 a0_2] 95 ?_; intro gb1135 hg w2 hbox hb; have BK1135 := ak hbox; have GW1135 := gw hg HB; have GE1135 := gw hg HB; replace HB := bs HB hb; clear hb hbox hg) | ((with_reducible refine gate_dst (N := 2) rfl ?_); refine bx 2 #[.int .i64 0, .int .i64 0, .int .i64 0] 91 ?_; intro gb1136 hg w3 hbox hb; have BK1136 := ak hbox; have GW1136 := gw hg HB; have GE1136 := gw hg HB; replace HB := bs HB hb; have NB1135_1136 := ak ((by rw [hg]; exact Nat.ne_of_lt (blk_lt (vk BK1135.out)) : gb1135 ≠ gb1136)); have NB1136_1135 := ak ((by rw [hg]; exact Nat.ne_of_gt (blk_lt (vk BK1135.out)) : gb1136 ≠ gb1135)); replace BK1135 := kb BK1135 hb; clear hb hbox hg) | ((with_reducible refine gate_dst (N := 3) rfl ?_); refine bx 3 #[.int .i64 0, .int .i64 0, .int .i64 0] 91 ?_; intro gb1137 hg w4 hbox hb; have BK1137 := ak hbox; have GW1137 := gw hg HB; have GE1137 := gw hg HB; replace HB := bs HB hb; have NB1135_1137 := ak ((by rw [hg]; exact Nat.ne_of_lt (blk_lt (vk BK1135.out)) : gb1135 ≠ gb1137)); have NB1137_1135 := ak ((by rw [hg]; exact Nat.ne_of_gt (blk_lt (vk BK1135.out)) : gb1137 ≠ gb1135)); replace BK1135 := kb BK1135 hb; have NB1136_1137 := ak ((by rw [hg]; exact Nat.ne_of_lt (blk_lt (vk BK1136.out)) : gb1136 ≠ gb1137)); have NB1137_1136 := ak ((by rw [hg]; exact Nat.ne_of_gt (blk_lt (vk BK1136.out)) : gb1137 ≠ gb1136)); replace BK1136 := kb BK1136 hb; clear hb hbox hg; have hnb5 := NB1135_1136.out; have hnc5 := NB1136_1135.out; have hnb6 := NB1135_1137.out; have hnc6 := NB1137_1135.out; have hcz7 := cz3 BK1135.out; have hnb8 := NB1137_1136.out; have hnc8 := NB1136_1137.out; have hcz9 := cz3 BK1137.out; have hcz10 := cz3 BK1136.out))
 refine bodyPost_ret (results_cell_row rfl _ _ gb1136 91 #[.int .i64 a0_0, .int .i64 a0_1, .int .i64 a0_2] (0, 0) _ rfl (vz BK1136.out) Try.underlying91 rfl (by kernel_rfl)) rfl ?_; exact ⟨ew, vb HB.out⟩


/-! ### laws_fillerDemand: function 87 -/
def laws_fillerDemand.f  : Option (Int × Int × Int) := some ((-7000000000000000101), (-7000000000000000101), (-7000000000000000101))
set_option maxHeartbeats 8000000 in
set_option maxRecDepth 100000 in
theorem laws_fillerDemand.calls  (r1 : Int) (r2 : Int) (r3 : Int) (w : World) (h : laws_fillerDemand.f  = some (r1, r2, r3)) :
  Calls Try.prog 87 #[] w fun e w' => e = .returned (.agg #[.int .i64 r1, .int .i64 r2, .int .i64 r3]) ∧ Below w.heap.size w w' := by
 have hu91 := Try.underlying91; have HB := ak (Below.refl w.heap.size w); unfold laws_fillerDemand.f at h; have H := h; clear h; simp only [Option.some.injEq, Prod.mk.injEq] at H
 obtain ⟨rfl, rfl, rfl⟩ := H; go_enter Try.func87, Try.ntmps87; go_wp2_with (first | ((with_reducible refine gate_dst (N := 0) rfl ?_); refine bx 0 #[.int .i64 0, .int .i64 0, .int .i64 0] 91 ?_; intro gb1138 hg w1 hbox hb; have BK1138 := ak hbox; have GW1138 := gw hg HB; have GE1138 := gw hg HB; replace HB := bs HB hb; clear hb hbox hg; have hcz2 := cz3 BK1138.out))
 refine bodyPost_ret (results_cell_row rfl _ _ gb1138 91 #[.int .i64 (-7000000000000000101), .int .i64 (-7000000000000000101), .int .i64 (-7000000000000000101)] (0, 0) _ rfl (vz BK1138.out) Try.underlying91 rfl (by kernel_rfl)) rfl ?_; exact ⟨ew, vb HB.out⟩


/-! ### laws_toDemandS: function 63 -/
instance : Fil S91 := ⟨(⟨(-7000000000000000101), (-7000000000000000101), (-7000000000000000101)⟩ : S91)⟩
mutual
def laws_toDemandSg.j0 : Nat → List (S95) → Bool → Option ((List (S91)))
 | 0, _, _ => none
 | k + 1, x0, x13 => if x13 = true then (some ([] : List (S91))) else ((laws_roomBehind.f (x0.length : Int)).bind fun t1139 => (if 0 ≤ (wrap64 ((x0.length : Int) + t1139)) then (if (wrap64 ((x0.length : Int) + t1139) : Int).toNat ≤ 11728124029610 then (laws_toDemandSg.l0 k x0 (List.replicate (wrap64 ((x0.length : Int) + t1139) : Int).toNat z91) 0) else (none)) else (none)))
def laws_toDemandSg.l0 : Nat → List (S95) → List (S91) → Int → Option ((List (S91)))
 | 0, _, _, _ => none
 | k + 1, x0, x5, x6 => if x6 < (x0.length : Int) then (if 0 ≤ x6 then ((laws_toDemand.f ((rd_T95 x0 x6).f0) ((rd_T95 x0 x6).f1) ((rd_T95 x0 x6).f2)).bind fun bt1144 => (if x6 < (x5.length : Int) then (laws_toDemandSg.l0 k x0 (x5.set (x6 : Int).toNat (⟨bt1144.1, bt1144.2.1, bt1144.2.2⟩ : S91)) (wrap64 (x6 + 1))) else (none))) else (none)) else (laws_toDemandSg.l1 k x0 x5 (x0.length : Int))
def laws_toDemandSg.l1 : Nat → List (S95) → List (S91) → Int → Option ((List (S91)))
 | 0, _, _, _ => none
 | k + 1, x0, x5, x7 => if x7 < (x5.length : Int) then ((laws_fillerDemand.f).bind fun bt1148 => (if 0 ≤ x7 then (laws_toDemandSg.l1 k x0 (x5.set (x7 : Int).toNat (⟨bt1148.1, bt1148.2.1, bt1148.2.2⟩ : S91)) (wrap64 (x7 + 1))) else (none))) else (if 0 ≤ (x0.length : Int) then (if (x0.length : Int) ≤ (x5.length : Int) then (some x5) else (none)) else (none))
end
def laws_toDemandSg.f (k : Nat) (l0 : List (S95)) (a1 : Bool) : Option ((List (S91))) := if a1 = true then (laws_toDemandSg.j0 k l0 ((l0.length : Int) == 0)) else (laws_toDemandSg.j0 k l0 false)
theorem laws_toDemandSg.mono_l : ∀ k, (∀ y0 y1, LeO (laws_toDemandSg.j0 k y0 y1) (laws_toDemandSg.j0 (k + 1) y0 y1)) ∧ (∀ y0 y1 y2, LeO (laws_toDemandSg.l0 k y0 y1 y2) (laws_toDemandSg.l0 (k + 1) y0 y1 y2)) ∧ (∀ y0 y1 y2, LeO (laws_toDemandSg.l1 k y0 y1 y2) (laws_toDemandSg.l1 (k + 1) y0 y1 y2))
 | 0 => ⟨fun _ _ r h => by simp [laws_toDemandSg.j0] at h, fun _ _ _ r h => by simp [laws_toDemandSg.l0] at h, fun _ _ _ r h => by simp [laws_toDemandSg.l1] at h⟩
 | k + 1 => by
  obtain ⟨ih0, ih1, ih2⟩ := laws_toDemandSg.mono_l k; refine ⟨?_, ?_, ?_⟩
  ·intro y0 y1; unfold laws_toDemandSg.j0
   repeat' (with_reducible first | exact ih0 .. | exact ih1 .. | exact ih2 .. | exact LeO.refl .. | exact LeO.none .. | refine LeO.ite ?_ ?_ | refine LeO.bind ?_ (fun _ => ?_))
  ·intro y0 y1 y2; unfold laws_toDemandSg.l0
   repeat' (with_reducible first | exact ih0 .. | exact ih1 .. | exact ih2 .. | exact LeO.refl .. | exact LeO.none .. | refine LeO.ite ?_ ?_ | refine LeO.bind ?_ (fun _ => ?_))
  ·intro y0 y1 y2; unfold laws_toDemandSg.l1
   repeat' (with_reducible first | exact ih0 .. | exact ih1 .. | exact ih2 .. | exact LeO.refl .. | exact LeO.none .. | refine LeO.ite ?_ ?_ | refine LeO.bind ?_ (fun _ => ?_))
theorem laws_toDemandSg.mono : ∀ a0 a1 k, LeO (laws_toDemandSg.f k a0 a1) (laws_toDemandSg.f (k + 1) a0 a1) := by
 intro a0 a1 k; obtain ⟨ih0, ih1, ih2⟩ := laws_toDemandSg.mono_l k; unfold laws_toDemandSg.f
 repeat' (with_reducible first | exact ih0 .. | exact ih1 .. | exact ih2 .. | exact LeO.refl .. | exact LeO.none .. | refine LeO.ite ?_ ?_ | refine LeO.bind ?_ (fun _ => ?_))
set_option maxHeartbeats 8000000 in
set_option maxRecDepth 100000 in
theorem laws_toDemandSg.calls (k : Nat) (A0 : Option Addr) (c0 : Nat) (l0 : List (S95)) (a1 : Bool) (r : List (S91)) (w : World) (hr0 : Kd.C k95 w A0 l0.length l0) (hc0 : l0.length ≤ c0) (h : laws_toDemandSg.f k l0 a1 = some r) :
  Calls Try.prog 63 #[.slice A0 l0.length c0, .bool a1] w fun e w' => ∃ (A_ : Option Addr) (c_ : Nat), e = .returned (.slice A_ (vis l0.length r.length) c_) ∧ Kd.R k91 91 w' w.heap.size (fun _ => True) (.slice A_ r.length c_) r ∧ Below w.heap.size w w' := by
 have hu95 := Try.underlying95; have hu91 := Try.underlying91; have HR0 := ak hr0; have HC0 := ak hc0; clear hr0 hc0; have HB := ak (Below.refl w.heap.size w); unfold laws_toDemandSg.f at h; have H := h; clear h; have HC3 := ak H; clear H; go_enter Try.func63, Try.ntmps63; go_upto_region 1 with (fail)
 go_cut [13] (fun v13 wc => ∃ (kq : Nat) (x13_2 : Bool), v13 = .bool x13_2 ∧ Aside0 (laws_toDemandSg.j0 kq l0 x13_2 = some r) ∧ Aside0 (kq ≤ k) ∧ Aside0 (Below w.heap.size w wc))
 case first =>
  have H := HC3.out; clear HC3; by_cases c4 : a1 = true
  ·subst c4; rw [if_pos rfl] at H; have H' := ak H; clear H; go_wp2
   go_meet
   case rel => exact ⟨_, (((l0.length : Int) == 0)), es, H', ⟨by first | omega | exact Nat.le_refl _⟩, ⟨vb HB.out⟩⟩
  ·replace c4 := Bool.eq_false_iff.mpr c4; subst c4; rw [if_neg nf] at H; have H' := ak H; clear H; go_wp2
   go_meet
   case rel => exact ⟨_, (false), es, H', ⟨by first | omega | exact Nat.le_refl _⟩, ⟨vb HB.out⟩⟩
 case rest =>
  clear HC3; (try clear p2); (try clear c4); obtain ⟨kq, x13_2, rfl, HA, HJ2, HB⟩ := hcut
  cases kq with
  | zero => exact absurd HA.out (by simp [laws_toDemandSg.j0])
  | succ kj2 =>
   have H := HA.out; clear HA; simp only [laws_toDemandSg.j0] at H
   by_cases c5 : x13_2 = true
   ·subst c5; rw [if_pos rfl] at H; obtain rfl := sj H; go_wp2
    go_ret
    exact ⟨none, 0, by first | (rw [vis_zero]; rfl) | (simp only [List.length_nil, vis_zero]; rfl), Kd.R_nil _ _ _ _ _, vb HB.out⟩
   ·replace c5 := Bool.eq_false_iff.mpr c5; subst c5; rw [if_neg nf] at H; obtain ⟨t1139, A6, H⟩ := bnk H; obtain ⟨ji7, hji7⟩ : ∃ j_ : Int, (wrap64 ((l0.length : Int) + t1139)) = j_ := ⟨_, rfl⟩; replace H : (if 0 ≤ (ji7) then (if (ji7 : Int).toNat ≤ 11728124029610 then (laws_toDemandSg.l0 kj2 l0 (List.replicate (ji7 : Int).toNat z91) 0) else (none)) else (none)) = some r := by first | (rw [hji7] at H; exact H) | (simp only [hji7] at H ⊢; exact H)
    (try rw [hji7] at A6)
    have hji7w : (IntKind.i64.wrap ((l0.length : Int) + t1139)) = ji7 := (i64_w _).trans hji7; by_cases c8 : 0 ≤ (ji7)
    ·rw [if_pos c8] at H; have c8b0 := eq_true c8; have c8b1 : decide (0 ≤ (ji7)) = true := decide_eq_true c8; clear c8; by_cases c9 : (ji7 : Int).toNat ≤ 11728124029610
     ·rw [if_pos c9] at H; have c9b0 := eq_true c9; have c9b1 : decide ((ji7 : Int).toNat ≤ 11728124029610) = true := decide_eq_true c9; clear c9; obtain ⟨y1140, hy1140⟩ := gen_ ((List.replicate (ji7 : Int).toNat z91 : List (S91))); rw [← hy1140] at H; have Ny1140 := ak hy1140; clear hy1140; have H' := ak H; clear H; go_wp2_with (first | ((with_reducible refine at_fn (f := 70) rfl ?_); refine gl (some 18) Try.func70 #[.int .i64 (l0.length : Int)] ?_; (with_reducible refine (laws_roomBehind.calls (l0.length : Int) t1139 _ A6.out).mono ?_); rintro e w' ⟨rfl, ⟨nd, rfl⟩⟩; refine ⟨_, rfl, ?_⟩) | ((with_reducible refine gate_dst (N := 20) rfl ?_); (try (refine gate_guard (by rfl) ?_; dsimp only)); refine Kd.R_make k91 _ 91 rfl (N := 20) rfl 24 _ _ rfl ji7 rfl rfl Try.underlying24 (.agg #[(.int .i64 0), (.int .i64 0), (.int .i64 0)]) 24 info91 rfl (by decide) (by omega) z91 (ok := fun _ => True) (okp := fun _ => True) (k91_mkM _ _ _ z91 ) (fun _ hk => hk) trivial (od) (Nat.le_trans (Nat.mul_le_mul_right _ (od : ji7.toNat ≤ 11728124029610)) (by omega)) (Below.refl _ _) (Nat.le_refl _) ?_; intro v1141 w10 ho11 hb hg_ hnew_; clear hg_ hnew_; (first | rw [← Ny1140.out] at ho11 | (simp only [Int.reduceToNat] at ho11; rw [← Ny1140.out] at ho11)); have HO1142 := ak (Kd.R_lower ho11 (below_size (vb HB.out))); replace HB := bs HB hb; clear hb ho11))
      go_loopg [6] kj2 (fun kq v6 w' => ∃ (x5_2 : List (S91)) (x6_2 : Int), v6 = .int .i64 x6_2 ∧ Aside0 (laws_toDemandSg.l0 kq l0 x5_2 x6_2 = some r) ∧ Aside0 (kq ≤ kj2) ∧ Aside0 (Kd.R k91 91 w' w.heap.size (fun _ => True) v1141 x5_2) ∧ Aside0 (Below w.heap.size w w'))
      case atStart => exact ⟨(y1140), (0), es, H', ⟨Nat.le_refl _⟩, ⟨vr HO1142.out⟩, ⟨vb HB.out⟩⟩
      case round =>
       clear H'; (try clear p2); (try clear c4); (try clear c5); (try clear c6); (try clear p6); (try clear c7); (try clear c8); (try clear c8b0); (try clear c8b1); (try clear c9); (try clear c9b0); (try clear c9b1); (try clear p2); obtain ⟨x5_2, x6_2, rfl, HA, HK2, HO_5, HB⟩ := hrel
       cases gk with
       | zero => exact absurd HA.out (by simp [laws_toDemandSg.l0])
       | succ k2 =>
        have H := HA.out; clear HA; simp only [laws_toDemandSg.l0] at H
        by_cases c12 : x6_2 < (l0.length : Int)
        ·rw [if_pos c12] at H; have c12b0 := decide_eq_true c12; clear c12; by_cases c13 : 0 ≤ x6_2
         ·rw [if_pos c13] at H; have c13b0 := decide_eq_true c13; clear c13; obtain ⟨⟨t1144, t1145, t1146⟩, A140, H⟩ := bnd H; replace H : (if x6_2 < (x5_2.length : Int) then (laws_toDemandSg.l0 k2 l0 (x5_2.set (x6_2 : Int).toNat (⟨t1144, t1145, t1146⟩ : S91)) (wrap64 (x6_2 + 1))) else (none)) = some r := H; have A14 := ak A140; clear A140; by_cases c15 : x6_2 < (x5_2.length : Int)
          ·rw [if_pos c15] at H; have c15b0 := decide_eq_true c15; clear c15; obtain ⟨y1147, hy1147⟩ := gen_ ((x5_2.set (x6_2 : Int).toNat (⟨t1144, t1145, t1146⟩ : S91) : List (S91))); rw [← hy1147] at H; have Ny1147 := ak hy1147; clear hy1147; have H' := ak H; clear H; have p1143 : 0 ≤ (x6_2 : Int) := od; have q1143 : x6_2 < (l0.length : Int) := od; obtain ⟨ad1143, e1143, hx1143_0, hx1143_1, hx1143_2⟩ := at_T95 HR0.out x6_2 p1143 q1143
           cases e1143; replace hx1143_0 := cb HB.out hx1143_0; replace hx1143_1 := cb HB.out hx1143_1; replace hx1143_2 := cb HB.out hx1143_2; replace p1143 := eq_true p1143; replace q1143 := eq_true q1143; go_wp2_with (first | ((with_reducible refine at_fn (f := 86) rfl ?_); refine gl (some 33) Try.func86 #[.agg #[.int .i64 ((rd_T95 l0 x6_2).f0), .int .i64 ((rd_T95 l0 x6_2).f1), .int .i64 ((rd_T95 l0 x6_2).f2)]] ?_; (with_reducible refine (laws_toDemand.calls ((rd_T95 l0 x6_2).f0) ((rd_T95 l0 x6_2).f1) ((rd_T95 l0 x6_2).f2) t1144 t1145 t1146 _ A14.out).mono ?_); rintro e w17 ⟨rfl, hb⟩; refine ⟨_, rfl, ?_⟩; replace HO_5 := ak (Kd.R_below (vr HO_5.out) hb); replace HB := bs HB hb; (try clear hb); (try clear hb2); (try clear hk); (try clear hi); have p16 : 0 ≤ (x6_2 : Int) := od; have q16 : (x6_2 : Int) < ((x5_2.length : Int) : Int) := od; obtain ⟨go16, co16, eo16, gb16, gl16, cl16, HG16⟩ := Kd.R_form HO_5.out (by omega); (first | cases eo16 | (injection eo16 with ea_ en_ ec_; (first | subst ea_ | (injection ea_ with ea_; subst ea_)); subst ec_; clear en_)); have GB16 := ak gb16; have GG16 := ak HG16; clear gb16 gl16 HG16; obtain ⟨ce16, hcl16, hM16, hcc16, hfr16⟩ := Kd.R_elem HO_5.out z91 (x6_2 : Int) p16 q16; obtain rfl := k91_openM hM16; have hx16_0 : w17.cell? ⟨go16, (x6_2 : Int).toNat * 3, none⟩ = some (.int .i64 ((rd_T91 x5_2 x6_2).f0)) := hcc16 0 _ rfl; have hx16_1 : w17.cell? ⟨go16, (x6_2 : Int).toNat * 3 + 1, none⟩ = some (.int .i64 ((rd_T91 x5_2 x6_2).f1)) := hcc16 1 _ rfl; have hx16_2 : w17.cell? ⟨go16, (x6_2 : Int).toNat * 3 + 2, none⟩ = some (.int .i64 ((rd_T91 x5_2 x6_2).f2)) := hcc16 2 _ rfl; have hf16_0 : w17.frozen? ⟨go16, (x6_2 : Int).toNat * 3, none⟩ = false := hfr16 0; have hf16_1 : w17.frozen? ⟨go16, (x6_2 : Int).toNat * 3 + 1, none⟩ = false := hfr16 1; have hf16_2 : w17.frozen? ⟨go16, (x6_2 : Int).toNat * 3 + 2, none⟩ = false := hfr16 2; clear hcl16 hcc16 hfr16 hM16; replace p16 := eq_true p16; replace q16 := eq_true q16; have HX18 := ak (show Kd.R k91 91 w17 w.heap.size (fun _ => True) (.slice (some ⟨go16, 0, none⟩) x5_2.length co16) x5_2 from (vr HO_5.out)); obtain ⟨ce18, hcl18, hM18, hcc18, hfr18⟩ := Kd.R_elem HX18.out z91 (x6_2 : Int) (od) (by have h_ : (x6_2 : Int) < ((x5_2.length : Int) : Int) := od; first | exact h_ | (have e_ := (Kd.R_reads' HO_5.out).1; omega) | simpa using h_); obtain rfl := k91_openM hM18; have HP18 := Kd.R_seg HX18.out (x6_2 : Int) (od) (by have h_ : (x6_2 : Int) < ((x5_2.length : Int) : Int) := od; first | exact h_ | (have e_ := (Kd.R_reads' HO_5.out).1; omega) | simpa using h_) (seg := [.int .i64 t1144, .int .i64 t1145, .int .i64 t1146]) (j := 0) hcl18 hcc18 (show 3 ≤ 3 from by decide) (x' := (⟨t1144, t1145, t1146⟩ : S91)) (k91_mkM _ _ _ (⟨t1144, t1145, t1146⟩ : S91) ) (fun _ hk => hk); have hx18_0 := hcc18 0 _ rfl; (try simp only [show (k91).sz = 3 from rfl, Nat.mul_one, Nat.add_zero] at hx18_0); have hf18_0 := hfr18 0; (try simp only [show (k91).sz = 3 from rfl, Nat.mul_one, Nat.add_zero] at hf18_0); have hx18_1 := hcc18 1 _ rfl; (try simp only [show (k91).sz = 3 from rfl, Nat.mul_one, Nat.add_zero] at hx18_1); have hf18_1 := hfr18 1; (try simp only [show (k91).sz = 3 from rfl, Nat.mul_one, Nat.add_zero] at hf18_1); have hx18_2 := hcc18 2 _ rfl; (try simp only [show (k91).sz = 3 from rfl, Nat.mul_one, Nat.add_zero] at hx18_2); have hf18_2 := hfr18 2; (try simp only [show (k91).sz = 3 from rfl, Nat.mul_one, Nat.add_zero] at hf18_2); clear hcl18 hcc18 hfr18 hM18) | ((with_reducible refine gate_store (t := 91) (p := 34) rfl ?_); refine store_event (t := 91) (p := 34) (v := ?vo_w19) (w1 := (((w17.setCell ⟨go16, (x6_2 : Int).toNat * 3, none⟩ (.int .i64 t1144)).setCell ⟨go16, (x6_2 : Int).toNat * 3 + 1, none⟩ (.int .i64 t1145)).setCell ⟨go16, (x6_2 : Int).toNat * 3 + 2, none⟩ (.int .i64 t1146))) ?hg ?ho ?hn ?hr ?_; (case ho => rfl); (case hg => rfl); (case hn => rfl); (case hr => first | (go_simp; done) | (go_simp; rfl)); intro w19 hw; have hg : w17.grownBy w19 (some go16) := (by rw [hw]; exact HP18.2); have hp_ : Kd.R k91 91 w19 w.heap.size (fun _ => True) (.slice (some ⟨go16, 0, none⟩) x5_2.length co16) y1147 := (by rw [hw, Ny1147.out]; exact HP18.1); clear HP18; replace HO_5 := ak (hp_); replace HB := ak ((by rw [hw]; exact below_set (below_set (below_set (HB.out) GB16.out) GB16.out) GB16.out : Below w.heap.size w w19)); clear hg hw hp_))
           go_roundg k2
           case measure => have := HJ2.out; have := HK2.out; omega
           case rel => exact ⟨(y1147), (wrap64 (x6_2 + 1)), es, H', ⟨by have := HJ2.out; have := HK2.out; omega⟩, ⟨vr HO_5.out⟩, ⟨vb HB.out⟩⟩
          ·exact nO_ c15 H
         ·exact nO_ c13 H
        ·rw [if_neg c12] at H; have c12b0 := decide_eq_false c12; clear c12; have H' := ak H; clear H; go_wp2
         go_loopg [7] k2 (fun kq v7 w' => ∃ (x5_3 : List (S91)) (x7_3 : Int), v7 = .int .i64 x7_3 ∧ Aside0 (laws_toDemandSg.l1 kq l0 x5_3 x7_3 = some r) ∧ Aside0 (kq ≤ k2) ∧ Aside0 (Kd.R k91 91 w' w.heap.size (fun _ => True) v1141 x5_3) ∧ Aside0 (Below w.heap.size w w'))
         case atStart => exact ⟨(x5_2), ((l0.length : Int)), es, H', ⟨Nat.le_refl _⟩, ⟨vr HO_5.out⟩, ⟨vb HB.out⟩⟩
         case round =>
          clear H'; (try clear c1); (try clear p1); (try clear q1); (try clear hx1); (try clear p2); (try clear c4); (try clear c5); (try clear c6); (try clear p6); (try clear c7); (try clear c8); (try clear c8b0); (try clear c8b1); (try clear c9); (try clear c9b0); (try clear c9b1); (try clear p11); (try clear q11); (try clear hx11); (try clear c12); (try clear c12b0); (try clear c13); (try clear c13b0); (try clear c15); (try clear c15b0); (try clear c16); (try clear p16); (try clear q16); (try clear hx16); (try clear hf16); (try clear c18); (try clear hx18); (try clear hf18); (try clear hx1143_0); (try clear hx1143_1); (try clear hx1143_2); (try clear hx16_0); (try clear hx16_1); (try clear hx16_2); (try clear hx18_0); (try clear hx18_1); (try clear hx18_2); (try clear p1143); (try clear p16); (try clear p2); (try clear p6); (try clear q1143); (try clear q16); obtain ⟨x5_3, x7_3, rfl, HA, HK3, HO_5, HB⟩ := hrel
          cases gk with
          | zero => exact absurd HA.out (by simp [laws_toDemandSg.l1])
          | succ k3 =>
           have H := HA.out; clear HA; simp only [laws_toDemandSg.l1] at H
           by_cases c20 : x7_3 < (x5_3.length : Int)
           ·rw [if_pos c20] at H; have c20b0 := decide_eq_true c20; clear c20; obtain ⟨⟨t1148, t1149, t1150⟩, A210, H⟩ := bnd H; replace H : (if 0 ≤ x7_3 then (laws_toDemandSg.l1 k3 l0 (x5_3.set (x7_3 : Int).toNat (⟨t1148, t1149, t1150⟩ : S91)) (wrap64 (x7_3 + 1))) else (none)) = some r := H; have A21 := ak A210; clear A210; by_cases c22 : 0 ≤ x7_3
            ·rw [if_pos c22] at H; have c22b0 := decide_eq_true c22; clear c22; obtain ⟨y1151, hy1151⟩ := gen_ ((x5_3.set (x7_3 : Int).toNat (⟨t1148, t1149, t1150⟩ : S91) : List (S91))); rw [← hy1151] at H; have Ny1151 := ak hy1151; clear hy1151; have H' := ak H; clear H; obtain ⟨Ao24, co24, eo24⟩ := Kd.R_slice HO_5.out; subst eo24; go_wp2_with (first | ((with_reducible refine at_fn (f := 87) rfl ?_); refine gl (some 45) Try.func87 #[] ?_; (with_reducible refine (laws_fillerDemand.calls  t1148 t1149 t1150 _ A21.out).mono ?_); rintro e w25 ⟨rfl, hb⟩; refine ⟨_, rfl, ?_⟩; replace HO_5 := ak (Kd.R_below (vr HO_5.out) hb); replace HB := bs HB hb; (try clear hb); (try clear hb2); (try clear hk); (try clear hi); have p23 : 0 ≤ (x7_3 : Int) := od; have q23 : (x7_3 : Int) < ((x5_3.length : Int) : Int) := od; obtain ⟨go23, co23, eo23, gb23, gl23, cl23, HG23⟩ := Kd.R_form HO_5.out (by omega); (first | cases eo23 | (injection eo23 with ea_ en_ ec_; (first | subst ea_ | (injection ea_ with ea_; subst ea_)); subst ec_; clear en_)); have GB23 := ak gb23; have GG23 := ak HG23; clear gb23 gl23 HG23; obtain ⟨ce23, hcl23, hM23, hcc23, hfr23⟩ := Kd.R_elem HO_5.out z91 (x7_3 : Int) p23 q23; obtain rfl := k91_openM hM23; have hx23_0 : w25.cell? ⟨go23, (x7_3 : Int).toNat * 3, none⟩ = some (.int .i64 ((rd_T91 x5_3 x7_3).f0)) := hcc23 0 _ rfl; have hx23_1 : w25.cell? ⟨go23, (x7_3 : Int).toNat * 3 + 1, none⟩ = some (.int .i64 ((rd_T91 x5_3 x7_3).f1)) := hcc23 1 _ rfl; have hx23_2 : w25.cell? ⟨go23, (x7_3 : Int).toNat * 3 + 2, none⟩ = some (.int .i64 ((rd_T91 x5_3 x7_3).f2)) := hcc23 2 _ rfl; have hf23_0 : w25.frozen? ⟨go23, (x7_3 : Int).toNat * 3, none⟩ = false := hfr23 0; have hf23_1 : w25.frozen? ⟨go23, (x7_3 : Int).toNat * 3 + 1, none⟩ = false := hfr23 1; have hf23_2 : w25.frozen? ⟨go23, (x7_3 : Int).toNat * 3 + 2, none⟩ = false := hfr23 2; clear hcl23 hcc23 hfr23 hM23; replace p23 := eq_true p23; replace q23 := eq_true q23; have HX26 := ak (show Kd.R k91 91 w25 w.heap.size (fun _ => True) (.slice (some ⟨go23, 0, none⟩) x5_3.length co24) x5_3 from (vr HO_5.out)); obtain ⟨ce26, hcl26, hM26, hcc26, hfr26⟩ := Kd.R_elem HX26.out z91 (x7_3 : Int) (od) (by have h_ : (x7_3 : Int) < ((x5_3.length : Int) : Int) := od; first | exact h_ | (have e_ := (Kd.R_reads' HO_5.out).1; omega) | simpa using h_); obtain rfl := k91_openM hM26; have HP26 := Kd.R_seg HX26.out (x7_3 : Int) (od) (by have h_ : (x7_3 : Int) < ((x5_3.length : Int) : Int) := od; first | exact h_ | (have e_ := (Kd.R_reads' HO_5.out).1; omega) | simpa using h_) (seg := [.int .i64 t1148, .int .i64 t1149, .int .i64 t1150]) (j := 0) hcl26 hcc26 (show 3 ≤ 3 from by decide) (x' := (⟨t1148, t1149, t1150⟩ : S91)) (k91_mkM _ _ _ (⟨t1148, t1149, t1150⟩ : S91) ) (fun _ hk => hk); have hx26_0 := hcc26 0 _ rfl; (try simp only [show (k91).sz = 3 from rfl, Nat.mul_one, Nat.add_zero] at hx26_0); have hf26_0 := hfr26 0; (try simp only [show (k91).sz = 3 from rfl, Nat.mul_one, Nat.add_zero] at hf26_0); have hx26_1 := hcc26 1 _ rfl; (try simp only [show (k91).sz = 3 from rfl, Nat.mul_one, Nat.add_zero] at hx26_1); have hf26_1 := hfr26 1; (try simp only [show (k91).sz = 3 from rfl, Nat.mul_one, Nat.add_zero] at hf26_1); have hx26_2 := hcc26 2 _ rfl; (try simp only [show (k91).sz = 3 from rfl, Nat.mul_one, Nat.add_zero] at hx26_2); have hf26_2 := hfr26 2; (try simp only [show (k91).sz = 3 from rfl, Nat.mul_one, Nat.add_zero] at hf26_2); clear hcl26 hcc26 hfr26 hM26) | ((with_reducible refine gate_store (t := 91) (p := 46) rfl ?_); refine store_event (t := 91) (p := 46) (v := ?vo_w27) (w1 := (((w25.setCell ⟨go23, (x7_3 : Int).toNat * 3, none⟩ (.int .i64 t1148)).setCell ⟨go23, (x7_3 : Int).toNat * 3 + 1, none⟩ (.int .i64 t1149)).setCell ⟨go23, (x7_3 : Int).toNat * 3 + 2, none⟩ (.int .i64 t1150))) ?hg ?ho ?hn ?hr ?_; (case ho => rfl); (case hg => rfl); (case hn => rfl); (case hr => first | (go_simp; done) | (go_simp; rfl)); intro w27 hw; have hg : w25.grownBy w27 (some go23) := (by rw [hw]; exact HP26.2); have hp_ : Kd.R k91 91 w27 w.heap.size (fun _ => True) (.slice (some ⟨go23, 0, none⟩) x5_3.length co24) y1151 := (by rw [hw, Ny1151.out]; exact HP26.1); clear HP26; replace HO_5 := ak (hp_); replace HB := ak ((by rw [hw]; exact below_set (below_set (below_set (HB.out) GB23.out) GB23.out) GB23.out : Below w.heap.size w w27)); clear hg hw hp_))
             go_roundg k3
             case measure => have := HJ2.out; have := HK2.out; have := HK3.out; omega
             case rel => exact ⟨(y1151), (wrap64 (x7_3 + 1)), es, H', ⟨by have := HJ2.out; have := HK2.out; have := HK3.out; omega⟩, ⟨vr HO_5.out⟩, ⟨vb HB.out⟩⟩
            ·exact nO_ c22 H
           ·rw [if_neg c20] at H; have c20b0 := decide_eq_false c20; clear c20; by_cases c28 : 0 ≤ (l0.length : Int)
            ·rw [if_pos c28] at H; have c28b0 := eq_true c28; have c28b1 : decide (0 ≤ (l0.length : Int)) = true := decide_eq_true c28; clear c28; by_cases c29 : (l0.length : Int) ≤ (x5_3.length : Int)
             ·rw [if_pos c29] at H; have c29b0 := eq_true c29; have c29b1 : decide ((l0.length : Int) ≤ (x5_3.length : Int)) = true := decide_eq_true c29; clear c29; obtain ⟨y1152, hy1152⟩ : ∃ y_ : List (S91), y_ = (x5_3.take ((l0.length : Int) : Int).toNat) := ⟨_, rfl⟩; have Ny1152 := ak hy1152; clear hy1152; obtain rfl := sj H; obtain ⟨Ao30, co30, eo30⟩ := Kd.R_slice HO_5.out; subst eo30; have q31 : ((l0.length : Int) : Int) ≤ ((x5_3.length : Int) : Int) := od; obtain ⟨i031, hi031, _, hsz31, _⟩ := info_parts info91; have hcut31 := cut_to (P := Try.prog) 24 91 .i64 Try.underlying24 hi031 Ao30 x5_3.length co30 (l0.length : Int) (od) q31 (Kd.R_reads' HO_5.out).2.1; have hr31 := Kd.R_take (m := ((l0.length : Int) : Int).toNat) HO_5.out (by omega); have hy31 : y1152.length = ((l0.length : Int) : Int).toNat := (by rw [Ny1152.out, List.length_take]; omega); rw [← Ny1152.out] at hr31; rw [← hy31] at hr31 hcut31; clear hy31 hi031 hsz31; have HO1154 := ak hr31; clear hr31; replace q31 := eq_true q31; go_wp2
              go_ret
              exact ⟨Ao30, co30, (by rw [show vis l0.length x5_3.length = y1152.length from by rw [Ny1152.out, Int.toNat_natCast, List.length_take]; rfl]; rfl), vr HO_5.out, vb HB.out⟩
             ·exact nO_ c29 H
            ·exact nO_ c28 H
     ·exact nO_ c9 H
    ·exact nO_ c8 H
def laws_toDemandS.conv (x : S95) : S91 := ⟨x.f0, x.f1, x.f2⟩
theorem laws_toDemandS.w1 {i n : Nat} (h : i < n) (hn : n ≤ 4000000) : wrap64 ((i : Int) + 1) = ((i + 1 : Nat) : Int) := by unfold wrap64; omega
theorem laws_toDemandS.l1_eval (x0 : List S95) (d : Nat) : ∀ (k : Nat) (F : List S91) (i : Nat), x0.length ≤ i → F.length = i + d → F.length ≤ 4000000 → d < k →
  laws_toDemandSg.l1 k x0 F (i : Int) = some (F.take i ++ List.replicate d (⟨(-7000000000000000101), (-7000000000000000101), (-7000000000000000101)⟩ : S91)) := by
 induction d with
 | zero =>
  intro k F i h0 h1 h2 h3; obtain ⟨k, rfl⟩ : ∃ m, k = m + 1 := ⟨k - 1, by omega⟩; simp only [laws_toDemandSg.l1]
  rw [if_neg (by omega), if_pos (by omega), if_pos (by omega)]; simp [List.take_of_length_le (show F.length ≤ i by omega)]
 | succ d ih =>
  intro k F i h0 h1 h2 h3; obtain ⟨k, rfl⟩ : ∃ m, k = m + 1 := ⟨k - 1, by omega⟩; have e := ih k (F.set i (⟨(-7000000000000000101), (-7000000000000000101), (-7000000000000000101)⟩ : S91)) (i + 1) (by omega) (by simp; omega) (by simpa using h2) (by omega); simp only [laws_toDemandSg.l1, laws_fillerDemand.f, Option.bind_some]
  rw [if_pos (by omega), if_pos (by omega), laws_toDemandS.w1 (n := F.length) (by omega) h2, Int.toNat_natCast]; refine Eq.trans e ?_; rw [take_succ_set F i (⟨(-7000000000000000101), (-7000000000000000101), (-7000000000000000101)⟩ : S91) (by omega), List.append_assoc]; rfl
theorem laws_toDemandS.l0_eval (x0 : List S95) (d : Nat) : ∀ (k : Nat) (F : List S91) (i : Nat), x0.length = i + d → x0.length ≤ F.length → F.length ≤ 4000000 → d + (F.length - x0.length) + 1 < k →
  laws_toDemandSg.l0 k x0 F (i : Int) = some (F.take i ++ (x0.drop i).map laws_toDemandS.conv ++ List.replicate (F.length - x0.length) (⟨(-7000000000000000101), (-7000000000000000101), (-7000000000000000101)⟩ : S91)) := by
 induction d with
 | zero =>
  intro k F i h0 h1 h2 h3; obtain ⟨k, rfl⟩ : ∃ m, k = m + 1 := ⟨k - 1, by omega⟩; simp only [laws_toDemandSg.l0]
  have hi : i = x0.length := by omega
  subst hi; rw [if_neg (by omega), laws_toDemandS.l1_eval x0 (F.length - x0.length) k F x0.length (Nat.le_refl _) (by omega) h2 (by omega)]; simp
 | succ d ih =>
  intro k F i h0 h1 h2 h3; obtain ⟨k, rfl⟩ : ∃ m, k = m + 1 := ⟨k - 1, by omega⟩; have hlt : i < x0.length := by omega
  have e := ih k (F.set i (laws_toDemandS.conv x0[i])) (i + 1) (by omega) (by simpa using h1) (by simpa using h2) (by simp; omega); simp only [laws_toDemandSg.l0, laws_toDemand.f, Option.bind_some]
  have hr : rd_T95 x0 (i : Int) = x0[i] := by simp [rd_T95, hlt]
  rw [if_pos (by omega), if_pos (by omega), if_pos (by omega), laws_toDemandS.w1 (n := F.length) (by omega) h2, Int.toNat_natCast, hr]; refine Eq.trans e ?_; rw [take_succ_set F i (laws_toDemandS.conv x0[i]) (by omega), List.length_set, List.drop_eq_getElem_cons hlt]; simp only [List.map_cons, List.append_assoc, List.cons_append, List.nil_append]
theorem laws_toDemandS.g_eval (l0 : List S95) (a1 : Bool) (h : l0.length ≤ 1000000) : ∃ k, laws_toDemandSg.f k l0 a1 = some (if a1 = true ∧ l0 = [] then [] else full (l0.map laws_toDemandS.conv)) := by
 obtain ⟨K, hK⟩ : ∃ K, K = l0.length + roomN l0.length + 5 := ⟨_, rfl⟩; refine ⟨K + 1, ?_⟩; have hr := room_f l0.length; have hl : roomN l0.length ≤ 1000000 := by unfold roomN; (repeat' split) <;> omega
 have hj : laws_toDemandSg.j0 (K + 1) l0 false = some (full (l0.map laws_toDemandS.conv)) := by
  simp only [laws_toDemandSg.j0]
  rw [if_neg (by decide), hr]; rw [Option.bind_some]; have hw : wrap64 ((l0.length : Int) + ((roomN l0.length : Nat) : Int)) = ((l0.length + roomN l0.length : Nat) : Int) := by unfold wrap64; omega
  rw [hw, if_pos (by omega), if_pos (by omega), Int.toNat_natCast]; have e := laws_toDemandS.l0_eval l0 l0.length K (List.replicate (l0.length + roomN l0.length) z91) 0 (by omega) (by simp) (by simp <;> omega) (by simp <;> omega); refine Eq.trans e ?_; simp [full, Fil.fil]
  try rfl
 unfold laws_toDemandSg.f
 by_cases h1 : a1 = true
 ·rw [if_pos h1]; by_cases h2 : l0 = []
  ·subst h2; rw [if_pos ⟨h1, rfl⟩]; simp only [laws_toDemandSg.j0]
   rw [if_pos (by decide)]
  ·rw [if_neg (fun h3 => h2 h3.2)]
   have h3 : ((l0.length : Int) == 0) = false := by
    have : l0.length ≠ 0 := fun h4 => h2 (List.length_eq_zero_iff.1 h4)
    rw [beq_eq_false_iff_ne]; omega
   rw [h3]; exact hj
 ·rw [if_neg h1, if_neg (fun h2 => h1 h2.1)]; exact hj
def laws_toDemandS.f (_k : Nat) (l0 : List S95) (_a1 : Bool) : Option (List S91) := if l0.length ≤ 1000000 then some (l0.map laws_toDemandS.conv) else none
theorem laws_toDemandS.mono : ∀ a0 a1 k, LeO (laws_toDemandS.f k a0 a1) (laws_toDemandS.f (k + 1) a0 a1) := fun _ _ _ => LeO.refl _
theorem laws_toDemandS.callsF (k : Nat) (A0 : Option Addr) (c0 : Nat) (l0 : List S95) (r : List S91) (w : World) (hr0 : Kd.C k95 w A0 l0.length l0) (hc0 : l0.length ≤ c0) (h : laws_toDemandS.f k l0 false = some r) :
  Calls Try.prog 63 #[.slice A0 l0.length c0, .bool false] w fun e w' => ∃ v0_ : Value, e = .returned (v0_) ∧ Kd.P k91 91 w' w.heap.size (fun _ => True) v0_ r ∧ Below w.heap.size w w' := by
 unfold laws_toDemandS.f at h
 split at h
 ·rename_i hl
  obtain rfl := Option.some.inj h; obtain ⟨k', hk⟩ := laws_toDemandS.g_eval l0 false hl; rw [if_neg (fun h2 => absurd h2.1 (by decide))] at hk; refine (laws_toDemandSg.calls k' A0 c0 l0 false _ w hr0 hc0 hk).mono ?_; rintro e w' ⟨A_, c_, rfl, h1, h2⟩; refine ⟨_, rfl, ⟨fun _ _ => trivial, A_, c_, ?_, h1⟩, h2⟩; first | (rw [vis_le (by simp [full])]; done) | (rw [vis_le (by simp [full])]; simp)
 ·exact absurd h (by simp)
theorem laws_toDemandS.calls (k : Nat) (A0 : Option Addr) (c0 : Nat) (l0 : List S95) (a1 : Bool) (r : List S91) (w : World) (hr0 : Kd.C k95 w A0 l0.length l0) (hc0 : l0.length ≤ c0) (h : laws_toDemandS.f k l0 a1 = some r) :
  Calls Try.prog 63 #[.slice A0 l0.length c0, .bool a1] w fun e w' => ∃ v0_ : Value, e = .returned (v0_) ∧ Kd.R k91 91 w' w.heap.size (fun _ => True) v0_ r ∧ Below w.heap.size w w' := by
 unfold laws_toDemandS.f at h
 split at h
 ·rename_i hl
  obtain rfl := Option.some.inj h; obtain ⟨k', hk⟩ := laws_toDemandS.g_eval l0 a1 hl; refine (laws_toDemandSg.calls k' A0 c0 l0 a1 _ w hr0 hc0 hk).mono ?_; rintro e w' ⟨A_, c_, rfl, h1, h2⟩; refine ⟨_, rfl, ?_, h2⟩; by_cases hz : a1 = true ∧ l0 = []
  ·obtain ⟨rfl, rfl⟩ := hz; rw [if_pos ⟨rfl, rfl⟩] at h1 ⊢; simpa [vis_zero] using h1
  ·rw [if_neg hz] at h1 ⊢; have := Kd.R_take h1 (m := l0.length) (by simp [full]); rw [vis_le (by simp [full])]; simpa [full] using this
 ·exact absurd h (by simp)

/-! ### laws_toArea: function 88 -/
def laws_toArea.f (a0_0 : Int) (a0_1 : Int) (a0_2 : Int) (a0_3 : Int) (a0_4 : Int) : Option (Int × Int × Int × Int × Int) := some (a0_0, a0_1, a0_2, a0_3, a0_4)
set_option maxHeartbeats 8000000 in
set_option maxRecDepth 100000 in
theorem laws_toArea.calls (a0_0 : Int) (a0_1 : Int) (a0_2 : Int) (a0_3 : Int) (a0_4 : Int) (r1 : Int) (r2 : Int) (r3 : Int) (r4 : Int) (r5 : Int) (w : World) (h : laws_toArea.f a0_0 a0_1 a0_2 a0_3 a0_4 = some (r1, r2, r3, r4, r5)) :
  Calls Try.prog 88 #[.agg #[.int .i64 a0_0, .int .i64 a0_1, .int .i64 a0_2, .int .i64 a0_3, .int .i64 a0_4]] w fun e w' => e = .returned (.agg #[.int .i64 r1, .int .i64 r2, .int .i64 r3, .int .i64 r4, .int .i64 r5]) ∧ Below w.heap.size w w' := by
 have hu98 := Try.underlying98; have hu69 := Try.underlying69; have HB := ak (Below.refl w.heap.size w); unfold laws_toArea.f at h; have H := h; clear h; simp only [Option.some.injEq, Prod.mk.injEq] at H
 obtain ⟨rfl, rfl, rfl, rfl, rfl⟩ := H; go_enter Try.func88, Try.ntmps88; go_wp2_with (first | ((with_reducible refine gate_dst (N := 1) rfl ?_); refine bx 1 #[.int .i64 a0_0, .int .i64 a0_1, .int .i64 a0_2, .int .i64 a0_3, .int .i64 a0_4] 98 ?_; intro gb1155 hg w2 hbox hb; have BK1155 := ak hbox; have GW1155 := gw hg HB; have GE1155 := gw hg HB; replace HB := bs HB hb; clear hb hbox hg) | ((with_reducible refine gate_dst (N := 2) rfl ?_); refine bx 2 #[.int .i64 0, .int .i64 0, .int .i64 0, .int .i64 0, .int .i64 0] 69 ?_; intro gb1156 hg w3 hbox hb; have BK1156 := ak hbox; have GW1156 := gw hg HB; have GE1156 := gw hg HB; replace HB := bs HB hb; have NB1155_1156 := ak ((by rw [hg]; exact Nat.ne_of_lt (blk_lt (vk BK1155.out)) : gb1155 ≠ gb1156)); have NB1156_1155 := ak ((by rw [hg]; exact Nat.ne_of_gt (blk_lt (vk BK1155.out)) : gb1156 ≠ gb1155)); replace BK1155 := kb BK1155 hb; clear hb hbox hg) | ((with_reducible refine gate_dst (N := 3) rfl ?_); refine bx 3 #[.int .i64 0, .int .i64 0, .int .i64 0, .int .i64 0, .int .i64 0] 69 ?_; intro gb1157 hg w4 hbox hb; have BK1157 := ak hbox; have GW1157 := gw hg HB; have GE1157 := gw hg HB; replace HB := bs HB hb; have NB1155_1157 := ak ((by rw [hg]; exact Nat.ne_of_lt (blk_lt (vk BK1155.out)) : gb1155 ≠ gb1157)); have NB1157_1155 := ak ((by rw [hg]; exact Nat.ne_of_gt (blk_lt (vk BK1155.out)) : gb1157 ≠ gb1155)); replace BK1155 := kb BK1155 hb; have NB1156_1157 := ak ((by rw [hg]; exact Nat.ne_of_lt (blk_lt (vk BK1156.out)) : gb1156 ≠ gb1157)); have NB1157_1156 := ak ((by rw [hg]; exact Nat.ne_of_gt (blk_lt (vk BK1156.out)) : gb1157 ≠ gb1156)); replace BK1156 := kb BK1156 hb; clear hb hbox hg; have hnb5 := NB1155_1156.out; have hnc5 := NB1156_1155.out; have hnb6 := NB1155_1157.out; have hnc6 := NB1157_1155.out; have hcz7 := cz5 BK1155.out; have hnb8 := NB1157_1156.out; have hnc8 := NB1156_1157.out; have hcz9 := cz5 BK1157.out; have hcz10 := cz5 BK1156.out))
 refine bodyPost_ret (results_cell_row rfl _ _ gb1156 69 #[.int .i64 a0_0, .int .i64 a0_1, .int .i64 a0_2, .int .i64 a0_3, .int .i64 a0_4] (0, 0) _ rfl (vz BK1156.out) Try.underlying69 rfl (by kernel_rfl)) rfl ?_; exact ⟨ew, vb HB.out⟩


/-! ### laws_fillerArea: function 89 -/
def laws_fillerArea.f  : Option (Int × Int × Int × Int × Int) := some ((-7000000000000000101), (-7000000000000000101), (-7000000000000000101), (-7000000000000000101), (-7000000000000000101))
set_option maxHeartbeats 8000000 in
set_option maxRecDepth 100000 in
theorem laws_fillerArea.calls  (r1 : Int) (r2 : Int) (r3 : Int) (r4 : Int) (r5 : Int) (w : World) (h : laws_fillerArea.f  = some (r1, r2, r3, r4, r5)) :
  Calls Try.prog 89 #[] w fun e w' => e = .returned (.agg #[.int .i64 r1, .int .i64 r2, .int .i64 r3, .int .i64 r4, .int .i64 r5]) ∧ Below w.heap.size w w' := by
 have hu69 := Try.underlying69; have HB := ak (Below.refl w.heap.size w); unfold laws_fillerArea.f at h; have H := h; clear h; simp only [Option.some.injEq, Prod.mk.injEq] at H
 obtain ⟨rfl, rfl, rfl, rfl, rfl⟩ := H; go_enter Try.func89, Try.ntmps89; go_wp2_with (first | ((with_reducible refine gate_dst (N := 0) rfl ?_); refine bx 0 #[.int .i64 0, .int .i64 0, .int .i64 0, .int .i64 0, .int .i64 0] 69 ?_; intro gb1158 hg w1 hbox hb; have BK1158 := ak hbox; have GW1158 := gw hg HB; have GE1158 := gw hg HB; replace HB := bs HB hb; clear hb hbox hg; have hcz2 := cz5 BK1158.out))
 refine bodyPost_ret (results_cell_row rfl _ _ gb1158 69 #[.int .i64 (-7000000000000000101), .int .i64 (-7000000000000000101), .int .i64 (-7000000000000000101), .int .i64 (-7000000000000000101), .int .i64 (-7000000000000000101)] (0, 0) _ rfl (vz BK1158.out) Try.underlying69 rfl (by kernel_rfl)) rfl ?_; exact ⟨ew, vb HB.out⟩


/-! ### laws_toAreaS: function 64 -/
instance : Fil S69 := ⟨(⟨(-7000000000000000101), (-7000000000000000101), (-7000000000000000101), (-7000000000000000101), (-7000000000000000101)⟩ : S69)⟩
mutual
def laws_toAreaSg.j0 : Nat → List (S98) → Bool → Option ((List (S69)))
 | 0, _, _ => none
 | k + 1, x0, x13 => if x13 = true then (some ([] : List (S69))) else ((laws_roomBehind.f (x0.length : Int)).bind fun t1159 => (if 0 ≤ (wrap64 ((x0.length : Int) + t1159)) then (if (wrap64 ((x0.length : Int) + t1159) : Int).toNat ≤ 7036874417766 then (laws_toAreaSg.l0 k x0 (List.replicate (wrap64 ((x0.length : Int) + t1159) : Int).toNat z69) 0) else (none)) else (none)))
def laws_toAreaSg.l0 : Nat → List (S98) → List (S69) → Int → Option ((List (S69)))
 | 0, _, _, _ => none
 | k + 1, x0, x5, x6 => if x6 < (x0.length : Int) then (if 0 ≤ x6 then ((laws_toArea.f ((rd_T98 x0 x6).f0) ((rd_T98 x0 x6).f1) ((rd_T98 x0 x6).f2) ((rd_T98 x0 x6).f3) ((rd_T98 x0 x6).f4)).bind fun bt1164 => (if x6 < (x5.length : Int) then (laws_toAreaSg.l0 k x0 (x5.set (x6 : Int).toNat (⟨bt1164.1, bt1164.2.1, bt1164.2.2.1, bt1164.2.2.2.1, bt1164.2.2.2.2⟩ : S69)) (wrap64 (x6 + 1))) else (none))) else (none)) else (laws_toAreaSg.l1 k x0 x5 (x0.length : Int))
def laws_toAreaSg.l1 : Nat → List (S98) → List (S69) → Int → Option ((List (S69)))
 | 0, _, _, _ => none
 | k + 1, x0, x5, x7 => if x7 < (x5.length : Int) then ((laws_fillerArea.f).bind fun bt1170 => (if 0 ≤ x7 then (laws_toAreaSg.l1 k x0 (x5.set (x7 : Int).toNat (⟨bt1170.1, bt1170.2.1, bt1170.2.2.1, bt1170.2.2.2.1, bt1170.2.2.2.2⟩ : S69)) (wrap64 (x7 + 1))) else (none))) else (if 0 ≤ (x0.length : Int) then (if (x0.length : Int) ≤ (x5.length : Int) then (some x5) else (none)) else (none))
end
def laws_toAreaSg.f (k : Nat) (l0 : List (S98)) (a1 : Bool) : Option ((List (S69))) := if a1 = true then (laws_toAreaSg.j0 k l0 ((l0.length : Int) == 0)) else (laws_toAreaSg.j0 k l0 false)
theorem laws_toAreaSg.mono_l : ∀ k, (∀ y0 y1, LeO (laws_toAreaSg.j0 k y0 y1) (laws_toAreaSg.j0 (k + 1) y0 y1)) ∧ (∀ y0 y1 y2, LeO (laws_toAreaSg.l0 k y0 y1 y2) (laws_toAreaSg.l0 (k + 1) y0 y1 y2)) ∧ (∀ y0 y1 y2, LeO (laws_toAreaSg.l1 k y0 y1 y2) (laws_toAreaSg.l1 (k + 1) y0 y1 y2))
 | 0 => ⟨fun _ _ r h => by simp [laws_toAreaSg.j0] at h, fun _ _ _ r h => by simp [laws_toAreaSg.l0] at h, fun _ _ _ r h => by simp [laws_toAreaSg.l1] at h⟩
 | k + 1 => by
  obtain ⟨ih0, ih1, ih2⟩ := laws_toAreaSg.mono_l k; refine ⟨?_, ?_, ?_⟩
  ·intro y0 y1; unfold laws_toAreaSg.j0
   repeat' (with_reducible first | exact ih0 .. | exact ih1 .. | exact ih2 .. | exact LeO.refl .. | exact LeO.none .. | refine LeO.ite ?_ ?_ | refine LeO.bind ?_ (fun _ => ?_))
  ·intro y0 y1 y2; unfold laws_toAreaSg.l0
   repeat' (with_reducible first | exact ih0 .. | exact ih1 .. | exact ih2 .. | exact LeO.refl .. | exact LeO.none .. | refine LeO.ite ?_ ?_ | refine LeO.bind ?_ (fun _ => ?_))
  ·intro y0 y1 y2; unfold laws_toAreaSg.l1
   repeat' (with_reducible first | exact ih0 .. | exact ih1 .. | exact ih2 .. | exact LeO.refl .. | exact LeO.none .. | refine LeO.ite ?_ ?_ | refine LeO.bind ?_ (fun _ => ?_))
theorem laws_toAreaSg.mono : ∀ a0 a1 k, LeO (laws_toAreaSg.f k a0 a1) (laws_toAreaSg.f (k + 1) a0 a1) := by
 intro a0 a1 k; obtain ⟨ih0, ih1, ih2⟩ := laws_toAreaSg.mono_l k; unfold laws_toAreaSg.f
 repeat' (with_reducible first | exact ih0 .. | exact ih1 .. | exact ih2 .. | exact LeO.refl .. | exact LeO.none .. | refine LeO.ite ?_ ?_ | refine LeO.bind ?_ (fun _ => ?_))
set_option maxHeartbeats 8000000 in
set_option maxRecDepth 100000 in
theorem laws_toAreaSg.calls (k : Nat) (A0 : Option Addr) (c0 : Nat) (l0 : List (S98)) (a1 : Bool) (r : List (S69)) (w : World) (hr0 : Kd.C k98 w A0 l0.length l0) (hc0 : l0.length ≤ c0) (h : laws_toAreaSg.f k l0 a1 = some r) :
  Calls Try.prog 64 #[.slice A0 l0.length c0, .bool a1] w fun e w' => ∃ (A_ : Option Addr) (c_ : Nat), e = .returned (.slice A_ (vis l0.length r.length) c_) ∧ Kd.R k69 69 w' w.heap.size (fun _ => True) (.slice A_ r.length c_) r ∧ Below w.heap.size w w' := by
 have hu98 := Try.underlying98; have hu69 := Try.underlying69; have HR0 := ak hr0; have HC0 := ak hc0; clear hr0 hc0; have HB := ak (Below.refl w.heap.size w); unfold laws_toAreaSg.f at h; have H := h; clear h; have HC3 := ak H; clear H; go_enter Try.func64, Try.ntmps64; go_upto_region 1 with (fail)
 go_cut [13] (fun v13 wc => ∃ (kq : Nat) (x13_2 : Bool), v13 = .bool x13_2 ∧ Aside0 (laws_toAreaSg.j0 kq l0 x13_2 = some r) ∧ Aside0 (kq ≤ k) ∧ Aside0 (Below w.heap.size w wc))
 case first =>
  have H := HC3.out; clear HC3; by_cases c4 : a1 = true
  ·subst c4; rw [if_pos rfl] at H; have H' := ak H; clear H; go_wp2
   go_meet
   case rel => exact ⟨_, (((l0.length : Int) == 0)), es, H', ⟨by first | omega | exact Nat.le_refl _⟩, ⟨vb HB.out⟩⟩
  ·replace c4 := Bool.eq_false_iff.mpr c4; subst c4; rw [if_neg nf] at H; have H' := ak H; clear H; go_wp2
   go_meet
   case rel => exact ⟨_, (false), es, H', ⟨by first | omega | exact Nat.le_refl _⟩, ⟨vb HB.out⟩⟩
 case rest =>
  clear HC3; (try clear p2); (try clear c4); obtain ⟨kq, x13_2, rfl, HA, HJ2, HB⟩ := hcut
  cases kq with
  | zero => exact absurd HA.out (by simp [laws_toAreaSg.j0])
  | succ kj2 =>
   have H := HA.out; clear HA; simp only [laws_toAreaSg.j0] at H
   by_cases c5 : x13_2 = true
   ·subst c5; rw [if_pos rfl] at H; obtain rfl := sj H; go_wp2
    go_ret
    exact ⟨none, 0, by first | (rw [vis_zero]; rfl) | (simp only [List.length_nil, vis_zero]; rfl), Kd.R_nil _ _ _ _ _, vb HB.out⟩
   ·replace c5 := Bool.eq_false_iff.mpr c5; subst c5; rw [if_neg nf] at H; obtain ⟨t1159, A6, H⟩ := bnk H; obtain ⟨ji7, hji7⟩ : ∃ j_ : Int, (wrap64 ((l0.length : Int) + t1159)) = j_ := ⟨_, rfl⟩; replace H : (if 0 ≤ (ji7) then (if (ji7 : Int).toNat ≤ 7036874417766 then (laws_toAreaSg.l0 kj2 l0 (List.replicate (ji7 : Int).toNat z69) 0) else (none)) else (none)) = some r := by first | (rw [hji7] at H; exact H) | (simp only [hji7] at H ⊢; exact H)
    (try rw [hji7] at A6)
    have hji7w : (IntKind.i64.wrap ((l0.length : Int) + t1159)) = ji7 := (i64_w _).trans hji7; by_cases c8 : 0 ≤ (ji7)
    ·rw [if_pos c8] at H; have c8b0 := eq_true c8; have c8b1 : decide (0 ≤ (ji7)) = true := decide_eq_true c8; clear c8; by_cases c9 : (ji7 : Int).toNat ≤ 7036874417766
     ·rw [if_pos c9] at H; have c9b0 := eq_true c9; have c9b1 : decide ((ji7 : Int).toNat ≤ 7036874417766) = true := decide_eq_true c9; clear c9; obtain ⟨y1160, hy1160⟩ := gen_ ((List.replicate (ji7 : Int).toNat z69 : List (S69))); rw [← hy1160] at H; have Ny1160 := ak hy1160; clear hy1160; have H' := ak H; clear H; go_wp2_with (first | ((with_reducible refine at_fn (f := 70) rfl ?_); refine gl (some 18) Try.func70 #[.int .i64 (l0.length : Int)] ?_; (with_reducible refine (laws_roomBehind.calls (l0.length : Int) t1159 _ A6.out).mono ?_); rintro e w' ⟨rfl, ⟨nd, rfl⟩⟩; refine ⟨_, rfl, ?_⟩) | ((with_reducible refine gate_dst (N := 20) rfl ?_); (try (refine gate_guard (by rfl) ?_; dsimp only)); refine Kd.R_make k69 _ 69 rfl (N := 20) rfl 25 _ _ rfl ji7 rfl rfl Try.underlying25 (.agg #[(.int .i64 0), (.int .i64 0), (.int .i64 0), (.int .i64 0), (.int .i64 0)]) 40 info69 rfl (by decide) (by omega) z69 (ok := fun _ => True) (okp := fun _ => True) (k69_mkM _ _ _ z69 ) (fun _ hk => hk) trivial (od) (Nat.le_trans (Nat.mul_le_mul_right _ (od : ji7.toNat ≤ 7036874417766)) (by omega)) (Below.refl _ _) (Nat.le_refl _) ?_; intro v1161 w10 ho11 hb hg_ hnew_; clear hg_ hnew_; (first | rw [← Ny1160.out] at ho11 | (simp only [Int.reduceToNat] at ho11; rw [← Ny1160.out] at ho11)); have HO1162 := ak (Kd.R_lower ho11 (below_size (vb HB.out))); replace HB := bs HB hb; clear hb ho11))
      go_loopg [6] kj2 (fun kq v6 w' => ∃ (x5_2 : List (S69)) (x6_2 : Int), v6 = .int .i64 x6_2 ∧ Aside0 (laws_toAreaSg.l0 kq l0 x5_2 x6_2 = some r) ∧ Aside0 (kq ≤ kj2) ∧ Aside0 (Kd.R k69 69 w' w.heap.size (fun _ => True) v1161 x5_2) ∧ Aside0 (Below w.heap.size w w'))
      case atStart => exact ⟨(y1160), (0), es, H', ⟨Nat.le_refl _⟩, ⟨vr HO1162.out⟩, ⟨vb HB.out⟩⟩
      case round =>
       clear H'; (try clear p2); (try clear c4); (try clear c5); (try clear c6); (try clear p6); (try clear c7); (try clear c8); (try clear c8b0); (try clear c8b1); (try clear c9); (try clear c9b0); (try clear c9b1); (try clear p2); obtain ⟨x5_2, x6_2, rfl, HA, HK2, HO_5, HB⟩ := hrel
       cases gk with
       | zero => exact absurd HA.out (by simp [laws_toAreaSg.l0])
       | succ k2 =>
        have H := HA.out; clear HA; simp only [laws_toAreaSg.l0] at H
        by_cases c12 : x6_2 < (l0.length : Int)
        ·rw [if_pos c12] at H; have c12b0 := decide_eq_true c12; clear c12; by_cases c13 : 0 ≤ x6_2
         ·rw [if_pos c13] at H; have c13b0 := decide_eq_true c13; clear c13; obtain ⟨⟨t1164, t1165, t1166, t1167, t1168⟩, A140, H⟩ := bnd H; replace H : (if x6_2 < (x5_2.length : Int) then (laws_toAreaSg.l0 k2 l0 (x5_2.set (x6_2 : Int).toNat (⟨t1164, t1165, t1166, t1167, t1168⟩ : S69)) (wrap64 (x6_2 + 1))) else (none)) = some r := H; have A14 := ak A140; clear A140; by_cases c15 : x6_2 < (x5_2.length : Int)
          ·rw [if_pos c15] at H; have c15b0 := decide_eq_true c15; clear c15; obtain ⟨y1169, hy1169⟩ := gen_ ((x5_2.set (x6_2 : Int).toNat (⟨t1164, t1165, t1166, t1167, t1168⟩ : S69) : List (S69))); rw [← hy1169] at H; have Ny1169 := ak hy1169; clear hy1169; have H' := ak H; clear H; have p1163 : 0 ≤ (x6_2 : Int) := od; have q1163 : x6_2 < (l0.length : Int) := od; obtain ⟨ad1163, e1163, hx1163_0, hx1163_1, hx1163_2, hx1163_3, hx1163_4⟩ := at_T98 HR0.out x6_2 p1163 q1163
           cases e1163; replace hx1163_0 := cb HB.out hx1163_0; replace hx1163_1 := cb HB.out hx1163_1; replace hx1163_2 := cb HB.out hx1163_2; replace hx1163_3 := cb HB.out hx1163_3; replace hx1163_4 := cb HB.out hx1163_4; replace p1163 := eq_true p1163; replace q1163 := eq_true q1163; go_wp2_with (first | ((with_reducible refine at_fn (f := 88) rfl ?_); refine gl (some 33) Try.func88 #[.agg #[.int .i64 ((rd_T98 l0 x6_2).f0), .int .i64 ((rd_T98 l0 x6_2).f1), .int .i64 ((rd_T98 l0 x6_2).f2), .int .i64 ((rd_T98 l0 x6_2).f3), .int .i64 ((rd_T98 l0 x6_2).f4)]] ?_; (with_reducible refine (laws_toArea.calls ((rd_T98 l0 x6_2).f0) ((rd_T98 l0 x6_2).f1) ((rd_T98 l0 x6_2).f2) ((rd_T98 l0 x6_2).f3) ((rd_T98 l0 x6_2).f4) t1164 t1165 t1166 t1167 t1168 _ A14.out).mono ?_); rintro e w17 ⟨rfl, hb⟩; refine ⟨_, rfl, ?_⟩; replace HO_5 := ak (Kd.R_below (vr HO_5.out) hb); replace HB := bs HB hb; (try clear hb); (try clear hb2); (try clear hk); (try clear hi); have p16 : 0 ≤ (x6_2 : Int) := od; have q16 : (x6_2 : Int) < ((x5_2.length : Int) : Int) := od; obtain ⟨go16, co16, eo16, gb16, gl16, cl16, HG16⟩ := Kd.R_form HO_5.out (by omega); (first | cases eo16 | (injection eo16 with ea_ en_ ec_; (first | subst ea_ | (injection ea_ with ea_; subst ea_)); subst ec_; clear en_)); have GB16 := ak gb16; have GG16 := ak HG16; clear gb16 gl16 HG16; obtain ⟨ce16, hcl16, hM16, hcc16, hfr16⟩ := Kd.R_elem HO_5.out z69 (x6_2 : Int) p16 q16; obtain rfl := k69_openM hM16; have hx16_0 : w17.cell? ⟨go16, (x6_2 : Int).toNat * 5, none⟩ = some (.int .i64 ((rd_T69 x5_2 x6_2).f0)) := hcc16 0 _ rfl; have hx16_1 : w17.cell? ⟨go16, (x6_2 : Int).toNat * 5 + 1, none⟩ = some (.int .i64 ((rd_T69 x5_2 x6_2).f1)) := hcc16 1 _ rfl; have hx16_2 : w17.cell? ⟨go16, (x6_2 : Int).toNat * 5 + 2, none⟩ = some (.int .i64 ((rd_T69 x5_2 x6_2).f2)) := hcc16 2 _ rfl; have hx16_3 : w17.cell? ⟨go16, (x6_2 : Int).toNat * 5 + 3, none⟩ = some (.int .i64 ((rd_T69 x5_2 x6_2).f3)) := hcc16 3 _ rfl; have hx16_4 : w17.cell? ⟨go16, (x6_2 : Int).toNat * 5 + 4, none⟩ = some (.int .i64 ((rd_T69 x5_2 x6_2).f4)) := hcc16 4 _ rfl; have hf16_0 : w17.frozen? ⟨go16, (x6_2 : Int).toNat * 5, none⟩ = false := hfr16 0; have hf16_1 : w17.frozen? ⟨go16, (x6_2 : Int).toNat * 5 + 1, none⟩ = false := hfr16 1; have hf16_2 : w17.frozen? ⟨go16, (x6_2 : Int).toNat * 5 + 2, none⟩ = false := hfr16 2; have hf16_3 : w17.frozen? ⟨go16, (x6_2 : Int).toNat * 5 + 3, none⟩ = false := hfr16 3; have hf16_4 : w17.frozen? ⟨go16, (x6_2 : Int).toNat * 5 + 4, none⟩ = false := hfr16 4; clear hcl16 hcc16 hfr16 hM16; replace p16 := eq_true p16; replace q16 := eq_true q16; have HX18 := ak (show Kd.R k69 69 w17 w.heap.size (fun _ => True) (.slice (some ⟨go16, 0, none⟩) x5_2.length co16) x5_2 from (vr HO_5.out)); obtain ⟨ce18, hcl18, hM18, hcc18, hfr18⟩ := Kd.R_elem HX18.out z69 (x6_2 : Int) (od) (by have h_ : (x6_2 : Int) < ((x5_2.length : Int) : Int) := od; first | exact h_ | (have e_ := (Kd.R_reads' HO_5.out).1; omega) | simpa using h_); obtain rfl := k69_openM hM18; have HP18 := Kd.R_seg HX18.out (x6_2 : Int) (od) (by have h_ : (x6_2 : Int) < ((x5_2.length : Int) : Int) := od; first | exact h_ | (have e_ := (Kd.R_reads' HO_5.out).1; omega) | simpa using h_) (seg := [.int .i64 t1164, .int .i64 t1165, .int .i64 t1166, .int .i64 t1167, .int .i64 t1168]) (j := 0) hcl18 hcc18 (show 5 ≤ 5 from by decide) (x' := (⟨t1164, t1165, t1166, t1167, t1168⟩ : S69)) (k69_mkM _ _ _ (⟨t1164, t1165, t1166, t1167, t1168⟩ : S69) ) (fun _ hk => hk); have hx18_0 := hcc18 0 _ rfl; (try simp only [show (k69).sz = 5 from rfl, Nat.mul_one, Nat.add_zero] at hx18_0); have hf18_0 := hfr18 0; (try simp only [show (k69).sz = 5 from rfl, Nat.mul_one, Nat.add_zero] at hf18_0); have hx18_1 := hcc18 1 _ rfl; (try simp only [show (k69).sz = 5 from rfl, Nat.mul_one, Nat.add_zero] at hx18_1); have hf18_1 := hfr18 1; (try simp only [show (k69).sz = 5 from rfl, Nat.mul_one, Nat.add_zero] at hf18_1); have hx18_2 := hcc18 2 _ rfl; (try simp only [show (k69).sz = 5 from rfl, Nat.mul_one, Nat.add_zero] at hx18_2); have hf18_2 := hfr18 2; (try simp only [show (k69).sz = 5 from rfl, Nat.mul_one, Nat.add_zero] at hf18_2); have hx18_3 := hcc18 3 _ rfl; (try simp only [show (k69).sz = 5 from rfl, Nat.mul_one, Nat.add_zero] at hx18_3); have hf18_3 := hfr18 3; (try simp only [show (k69).sz = 5 from rfl, Nat.mul_one, Nat.add_zero] at hf18_3); have hx18_4 := hcc18 4 _ rfl; (try simp only [show (k69).sz = 5 from rfl, Nat.mul_one, Nat.add_zero] at hx18_4); have hf18_4 := hfr18 4; (try simp only [show (k69).sz = 5 from rfl, Nat.mul_one, Nat.add_zero] at hf18_4); clear hcl18 hcc18 hfr18 hM18) | ((with_reducible refine gate_store (t := 69) (p := 34) rfl ?_); refine store_event (t := 69) (p := 34) (v := ?vo_w19) (w1 := (((((w17.setCell ⟨go16, (x6_2 : Int).toNat * 5, none⟩ (.int .i64 t1164)).setCell ⟨go16, (x6_2 : Int).toNat * 5 + 1, none⟩ (.int .i64 t1165)).setCell ⟨go16, (x6_2 : Int).toNat * 5 + 2, none⟩ (.int .i64 t1166)).setCell ⟨go16, (x6_2 : Int).toNat * 5 + 3, none⟩ (.int .i64 t1167)).setCell ⟨go16, (x6_2 : Int).toNat * 5 + 4, none⟩ (.int .i64 t1168))) ?hg ?ho ?hn ?hr ?_; (case ho => rfl); (case hg => rfl); (case hn => rfl); (case hr => first | (go_simp; done) | (go_simp; rfl)); intro w19 hw; have hg : w17.grownBy w19 (some go16) := (by rw [hw]; exact HP18.2); have hp_ : Kd.R k69 69 w19 w.heap.size (fun _ => True) (.slice (some ⟨go16, 0, none⟩) x5_2.length co16) y1169 := (by rw [hw, Ny1169.out]; exact HP18.1); clear HP18; replace HO_5 := ak (hp_); replace HB := ak ((by rw [hw]; exact below_set (below_set (below_set (below_set (below_set (HB.out) GB16.out) GB16.out) GB16.out) GB16.out) GB16.out : Below w.heap.size w w19)); clear hg hw hp_))
           go_roundg k2
           case measure => have := HJ2.out; have := HK2.out; omega
           case rel => exact ⟨(y1169), (wrap64 (x6_2 + 1)), es, H', ⟨by have := HJ2.out; have := HK2.out; omega⟩, ⟨vr HO_5.out⟩, ⟨vb HB.out⟩⟩
          ·exact nO_ c15 H
         ·exact nO_ c13 H
        ·rw [if_neg c12] at H; have c12b0 := decide_eq_false c12; clear c12; have H' := ak H; clear H; go_wp2
         go_loopg [7] k2 (fun kq v7 w' => ∃ (x5_3 : List (S69)) (x7_3 : Int), v7 = .int .i64 x7_3 ∧ Aside0 (laws_toAreaSg.l1 kq l0 x5_3 x7_3 = some r) ∧ Aside0 (kq ≤ k2) ∧ Aside0 (Kd.R k69 69 w' w.heap.size (fun _ => True) v1161 x5_3) ∧ Aside0 (Below w.heap.size w w'))
         case atStart => exact ⟨(x5_2), ((l0.length : Int)), es, H', ⟨Nat.le_refl _⟩, ⟨vr HO_5.out⟩, ⟨vb HB.out⟩⟩
         case round =>
          clear H'; (try clear c1); (try clear p1); (try clear q1); (try clear hx1); (try clear p2); (try clear c4); (try clear c5); (try clear c6); (try clear p6); (try clear c7); (try clear c8); (try clear c8b0); (try clear c8b1); (try clear c9); (try clear c9b0); (try clear c9b1); (try clear p11); (try clear q11); (try clear hx11); (try clear c12); (try clear c12b0); (try clear c13); (try clear c13b0); (try clear c15); (try clear c15b0); (try clear c16); (try clear p16); (try clear q16); (try clear hx16); (try clear hf16); (try clear c18); (try clear hx18); (try clear hf18); (try clear hx1163_0); (try clear hx1163_1); (try clear hx1163_2); (try clear hx1163_3); (try clear hx1163_4); (try clear hx16_0); (try clear hx16_1); (try clear hx16_2); (try clear hx16_3); (try clear hx16_4); (try clear hx18_0); (try clear hx18_1); (try clear hx18_2); (try clear hx18_3); (try clear hx18_4); (try clear p1163); (try clear p16); (try clear p2); (try clear p6); (try clear q1163); (try clear q16); obtain ⟨x5_3, x7_3, rfl, HA, HK3, HO_5, HB⟩ := hrel
          cases gk with
          | zero => exact absurd HA.out (by simp [laws_toAreaSg.l1])
          | succ k3 =>
           have H := HA.out; clear HA; simp only [laws_toAreaSg.l1] at H
           by_cases c20 : x7_3 < (x5_3.length : Int)
           ·rw [if_pos c20] at H; have c20b0 := decide_eq_true c20; clear c20; obtain ⟨⟨t1170, t1171, t1172, t1173, t1174⟩, A210, H⟩ := bnd H; replace H : (if 0 ≤ x7_3 then (laws_toAreaSg.l1 k3 l0 (x5_3.set (x7_3 : Int).toNat (⟨t1170, t1171, t1172, t1173, t1174⟩ : S69)) (wrap64 (x7_3 + 1))) else (none)) = some r := H; have A21 := ak A210; clear A210; by_cases c22 : 0 ≤ x7_3
            ·rw [if_pos c22] at H; have c22b0 := decide_eq_true c22; clear c22; obtain ⟨y1175, hy1175⟩ := gen_ ((x5_3.set (x7_3 : Int).toNat (⟨t1170, t1171, t1172, t1173, t1174⟩ : S69) : List (S69))); rw [← hy1175] at H; have Ny1175 := ak hy1175; clear hy1175; have H' := ak H; clear H; obtain ⟨Ao24, co24, eo24⟩ := Kd.R_slice HO_5.out; subst eo24; go_wp2_with (first | ((with_reducible refine at_fn (f := 89) rfl ?_); refine gl (some 45) Try.func89 #[] ?_; (with_reducible refine (laws_fillerArea.calls  t1170 t1171 t1172 t1173 t1174 _ A21.out).mono ?_); rintro e w25 ⟨rfl, hb⟩; refine ⟨_, rfl, ?_⟩; replace HO_5 := ak (Kd.R_below (vr HO_5.out) hb); replace HB := bs HB hb; (try clear hb); (try clear hb2); (try clear hk); (try clear hi); have p23 : 0 ≤ (x7_3 : Int) := od; have q23 : (x7_3 : Int) < ((x5_3.length : Int) : Int) := od; obtain ⟨go23, co23, eo23, gb23, gl23, cl23, HG23⟩ := Kd.R_form HO_5.out (by omega); (first | cases eo23 | (injection eo23 with ea_ en_ ec_; (first | subst ea_ | (injection ea_ with ea_; subst ea_)); subst ec_; clear en_)); have GB23 := ak gb23; have GG23 := ak HG23; clear gb23 gl23 HG23; obtain ⟨ce23, hcl23, hM23, hcc23, hfr23⟩ := Kd.R_elem HO_5.out z69 (x7_3 : Int) p23 q23; obtain rfl := k69_openM hM23; have hx23_0 : w25.cell? ⟨go23, (x7_3 : Int).toNat * 5, none⟩ = some (.int .i64 ((rd_T69 x5_3 x7_3).f0)) := hcc23 0 _ rfl; have hx23_1 : w25.cell? ⟨go23, (x7_3 : Int).toNat * 5 + 1, none⟩ = some (.int .i64 ((rd_T69 x5_3 x7_3).f1)) := hcc23 1 _ rfl; have hx23_2 : w25.cell? ⟨go23, (x7_3 : Int).toNat * 5 + 2, none⟩ = some (.int .i64 ((rd_T69 x5_3 x7_3).f2)) := hcc23 2 _ rfl; have hx23_3 : w25.cell? ⟨go23, (x7_3 : Int).toNat * 5 + 3, none⟩ = some (.int .i64 ((rd_T69 x5_3 x7_3).f3)) := hcc23 3 _ rfl; have hx23_4 : w25.cell? ⟨go23, (x7_3 : Int).toNat * 5 + 4, none⟩ = some (.int .i64 ((rd_T69 x5_3 x7_3).f4)) := hcc23 4 _ rfl; have hf23_0 : w25.frozen? ⟨go23, (x7_3 : Int).toNat * 5, none⟩ = false := hfr23 0; have hf23_1 : w25.frozen? ⟨go23, (x7_3 : Int).toNat * 5 + 1, none⟩ = false := hfr23 1; have hf23_2 : w25.frozen? ⟨go23, (x7_3 : Int).toNat * 5 + 2, none⟩ = false := hfr23 2; have hf23_3 : w25.frozen? ⟨go23, (x7_3 : Int).toNat * 5 + 3, none⟩ = false := hfr23 3; have hf23_4 : w25.frozen? ⟨go23, (x7_3 : Int).toNat * 5 + 4, none⟩ = false := hfr23 4; clear hcl23 hcc23 hfr23 hM23; replace p23 := eq_true p23; replace q23 := eq_true q23; have HX26 := ak (show Kd.R k69 69 w25 w.heap.size (fun _ => True) (.slice (some ⟨go23, 0, none⟩) x5_3.length co24) x5_3 from (vr HO_5.out)); obtain ⟨ce26, hcl26, hM26, hcc26, hfr26⟩ := Kd.R_elem HX26.out z69 (x7_3 : Int) (od) (by have h_ : (x7_3 : Int) < ((x5_3.length : Int) : Int) := od; first | exact h_ | (have e_ := (Kd.R_reads' HO_5.out).1; omega) | simpa using h_); obtain rfl := k69_openM hM26; have HP26 := Kd.R_seg HX26.out (x7_3 : Int) (od) (by have h_ : (x7_3 : Int) < ((x5_3.length : Int) : Int) := od; first | exact h_ | (have e_ := (Kd.R_reads' HO_5.out).1; omega) | simpa using h_) (seg := [.int .i64 t1170, .int .i64 t1171, .int .i64 t1172, .int .i64 t1173, .int .i64 t1174]) (j := 0) hcl26 hcc26 (show 5 ≤ 5 from by decide) (x' := (⟨t1170, t1171, t1172, t1173, t1174⟩ : S69)) (k69_mkM _ _ _ (⟨t1170, t1171, t1172, t1173, t1174⟩ : S69) ) (fun _ hk => hk); have hx26_0 := hcc26 0 _ rfl; (try simp only [show (k69).sz = 5 from rfl, Nat.mul_one, Nat.add_zero] at hx26_0); have hf26_0 := hfr26 0; (try simp only [show (k69).sz = 5 from rfl, Nat.mul_one, Nat.add_zero] at hf26_0); have hx26_1 := hcc26 1 _ rfl; (try simp only [show (k69).sz = 5 from rfl, Nat.mul_one, Nat.add_zero] at hx26_1); have hf26_1 := hfr26 1; (try simp only [show (k69).sz = 5 from rfl, Nat.mul_one, Nat.add_zero] at hf26_1); have hx26_2 := hcc26 2 _ rfl; (try simp only [show (k69).sz = 5 from rfl, Nat.mul_one, Nat.add_zero] at hx26_2); have hf26_2 := hfr26 2; (try simp only [show (k69).sz = 5 from rfl, Nat.mul_one, Nat.add_zero] at hf26_2); have hx26_3 := hcc26 3 _ rfl; (try simp only [show (k69).sz = 5 from rfl, Nat.mul_one, Nat.add_zero] at hx26_3); have hf26_3 := hfr26 3; (try simp only [show (k69).sz = 5 from rfl, Nat.mul_one, Nat.add_zero] at hf26_3); have hx26_4 := hcc26 4 _ rfl; (try simp only [show (k69).sz = 5 from rfl, Nat.mul_one, Nat.add_zero] at hx26_4); have hf26_4 := hfr26 4; (try simp only [show (k69).sz = 5 from rfl, Nat.mul_one, Nat.add_zero] at hf26_4); clear hcl26 hcc26 hfr26 hM26) | ((with_reducible refine gate_store (t := 69) (p := 46) rfl ?_); refine store_event (t := 69) (p := 46) (v := ?vo_w27) (w1 := (((((w25.setCell ⟨go23, (x7_3 : Int).toNat * 5, none⟩ (.int .i64 t1170)).setCell ⟨go23, (x7_3 : Int).toNat * 5 + 1, none⟩ (.int .i64 t1171)).setCell ⟨go23, (x7_3 : Int).toNat * 5 + 2, none⟩ (.int .i64 t1172)).setCell ⟨go23, (x7_3 : Int).toNat * 5 + 3, none⟩ (.int .i64 t1173)).setCell ⟨go23, (x7_3 : Int).toNat * 5 + 4, none⟩ (.int .i64 t1174))) ?hg ?ho ?hn ?hr ?_; (case ho => rfl); (case hg => rfl); (case hn => rfl); (case hr => first | (go_simp; done) | (go_simp; rfl)); intro w27 hw; have hg : w25.grownBy w27 (some go23) := (by rw [hw]; exact HP26.2); have hp_ : Kd.R k69 69 w27 w.heap.size (fun _ => True) (.slice (some ⟨go23, 0, none⟩) x5_3.length co24) y1175 := (by rw [hw, Ny1175.out]; exact HP26.1); clear HP26; replace HO_5 := ak (hp_); replace HB := ak ((by rw [hw]; exact below_set (below_set (below_set (below_set (below_set (HB.out) GB23.out) GB23.out) GB23.out) GB23.out) GB23.out : Below w.heap.size w w27)); clear hg hw hp_))
             go_roundg k3
             case measure => have := HJ2.out; have := HK2.out; have := HK3.out; omega
             case rel => exact ⟨(y1175), (wrap64 (x7_3 + 1)), es, H', ⟨by have := HJ2.out; have := HK2.out; have := HK3.out; omega⟩, ⟨vr HO_5.out⟩, ⟨vb HB.out⟩⟩
            ·exact nO_ c22 H
           ·rw [if_neg c20] at H; have c20b0 := decide_eq_false c20; clear c20; by_cases c28 : 0 ≤ (l0.length : Int)
            ·rw [if_pos c28] at H; have c28b0 := eq_true c28; have c28b1 : decide (0 ≤ (l0.length : Int)) = true := decide_eq_true c28; clear c28; by_cases c29 : (l0.length : Int) ≤ (x5_3.length : Int)
             ·rw [if_pos c29] at H; have c29b0 := eq_true c29; have c29b1 : decide ((l0.length : Int) ≤ (x5_3.length : Int)) = true := decide_eq_true c29; clear c29; obtain ⟨y1176, hy1176⟩ : ∃ y_ : List (S69), y_ = (x5_3.take ((l0.length : Int) : Int).toNat) := ⟨_, rfl⟩; have Ny1176 := ak hy1176; clear hy1176; obtain rfl := sj H; obtain ⟨Ao30, co30, eo30⟩ := Kd.R_slice HO_5.out; subst eo30; have q31 : ((l0.length : Int) : Int) ≤ ((x5_3.length : Int) : Int) := od; obtain ⟨i031, hi031, _, hsz31, _⟩ := info_parts info69; have hcut31 := cut_to (P := Try.prog) 25 69 .i64 Try.underlying25 hi031 Ao30 x5_3.length co30 (l0.length : Int) (od) q31 (Kd.R_reads' HO_5.out).2.1; have hr31 := Kd.R_take (m := ((l0.length : Int) : Int).toNat) HO_5.out (by omega); have hy31 : y1176.length = ((l0.length : Int) : Int).toNat := (by rw [Ny1176.out, List.length_take]; omega); rw [← Ny1176.out] at hr31; rw [← hy31] at hr31 hcut31; clear hy31 hi031 hsz31; have HO1178 := ak hr31; clear hr31; replace q31 := eq_true q31; go_wp2
              go_ret
              exact ⟨Ao30, co30, (by rw [show vis l0.length x5_3.length = y1176.length from by rw [Ny1176.out, Int.toNat_natCast, List.length_take]; rfl]; rfl), vr HO_5.out, vb HB.out⟩
             ·exact nO_ c29 H
            ·exact nO_ c28 H
     ·exact nO_ c9 H
    ·exact nO_ c8 H
def laws_toAreaS.conv (x : S98) : S69 := ⟨x.f0, x.f1, x.f2, x.f3, x.f4⟩
theorem laws_toAreaS.w1 {i n : Nat} (h : i < n) (hn : n ≤ 4000000) : wrap64 ((i : Int) + 1) = ((i + 1 : Nat) : Int) := by unfold wrap64; omega
theorem laws_toAreaS.l1_eval (x0 : List S98) (d : Nat) : ∀ (k : Nat) (F : List S69) (i : Nat), x0.length ≤ i → F.length = i + d → F.length ≤ 4000000 → d < k →
  laws_toAreaSg.l1 k x0 F (i : Int) = some (F.take i ++ List.replicate d (⟨(-7000000000000000101), (-7000000000000000101), (-7000000000000000101), (-7000000000000000101), (-7000000000000000101)⟩ : S69)) := by
 induction d with
 | zero =>
  intro k F i h0 h1 h2 h3; obtain ⟨k, rfl⟩ : ∃ m, k = m + 1 := ⟨k - 1, by omega⟩; simp only [laws_toAreaSg.l1]
  rw [if_neg (by omega), if_pos (by omega), if_pos (by omega)]; simp [List.take_of_length_le (show F.length ≤ i by omega)]
 | succ d ih =>
  intro k F i h0 h1 h2 h3; obtain ⟨k, rfl⟩ : ∃ m, k = m + 1 := ⟨k - 1, by omega⟩; have e := ih k (F.set i (⟨(-7000000000000000101), (-7000000000000000101), (-7000000000000000101), (-7000000000000000101), (-7000000000000000101)⟩ : S69)) (i + 1) (by omega) (by simp; omega) (by simpa using h2) (by omega); simp only [laws_toAreaSg.l1, laws_fillerArea.f, Option.bind_some]
  rw [if_pos (by omega), if_pos (by omega), laws_toAreaS.w1 (n := F.length) (by omega) h2, Int.toNat_natCast]; refine Eq.trans e ?_; rw [take_succ_set F i (⟨(-7000000000000000101), (-7000000000000000101), (-7000000000000000101), (-7000000000000000101), (-7000000000000000101)⟩ : S69) (by omega), List.append_assoc]; rfl
theorem laws_toAreaS.l0_eval (x0 : List S98) (d : Nat) : ∀ (k : Nat) (F : List S69) (i : Nat), x0.length = i + d → x0.length ≤ F.length → F.length ≤ 4000000 → d + (F.length - x0.length) + 1 < k →
  laws_toAreaSg.l0 k x0 F (i : Int) = some (F.take i ++ (x0.drop i).map laws_toAreaS.conv ++ List.replicate (F.length - x0.length) (⟨(-7000000000000000101), (-7000000000000000101), (-7000000000000000101), (-7000000000000000101), (-7000000000000000101)⟩ : S69)) := by
 induction d with
 | zero =>
  intro k F i h0 h1 h2 h3; obtain ⟨k, rfl⟩ : ∃ m, k = m + 1 := ⟨k - 1, by omega⟩; simp only [laws_toAreaSg.l0]
  have hi : i = x0.length := by omega
  subst hi; rw [if_neg (by omega), laws_toAreaS.l1_eval x0 (F.length - x0.length) k F x0.length (Nat.le_refl _) (by omega) h2 (by omega)]; simp
 | succ d ih =>
  intro k F i h0 h1 h2 h3; obtain ⟨k, rfl⟩ : ∃ m, k = m + 1 := ⟨k - 1, by omega⟩; have hlt : i < x0.length := by omega
  have e := ih k (F.set i (laws_toAreaS.conv x0[i])) (i + 1) (by omega) (by simpa using h1) (by simpa using h2) (by simp; omega); simp only [laws_toAreaSg.l0, laws_toArea.f, Option.bind_some]
  have hr : rd_T98 x0 (i : Int) = x0[i] := by simp [rd_T98, hlt]
  rw [if_pos (by omega), if_pos (by omega), if_pos (by omega), laws_toAreaS.w1 (n := F.length) (by omega) h2, Int.toNat_natCast, hr]; refine Eq.trans e ?_; rw [take_succ_set F i (laws_toAreaS.conv x0[i]) (by omega), List.length_set, List.drop_eq_getElem_cons hlt]; simp only [List.map_cons, List.append_assoc, List.cons_append, List.nil_append]
theorem laws_toAreaS.g_eval (l0 : List S98) (a1 : Bool) (h : l0.length ≤ 1000000) : ∃ k, laws_toAreaSg.f k l0 a1 = some (if a1 = true ∧ l0 = [] then [] else full (l0.map laws_toAreaS.conv)) := by
 obtain ⟨K, hK⟩ : ∃ K, K = l0.length + roomN l0.length + 5 := ⟨_, rfl⟩; refine ⟨K + 1, ?_⟩; have hr := room_f l0.length; have hl : roomN l0.length ≤ 1000000 := by unfold roomN; (repeat' split) <;> omega
 have hj : laws_toAreaSg.j0 (K + 1) l0 false = some (full (l0.map laws_toAreaS.conv)) := by
  simp only [laws_toAreaSg.j0]
  rw [if_neg (by decide), hr]; rw [Option.bind_some]; have hw : wrap64 ((l0.length : Int) + ((roomN l0.length : Nat) : Int)) = ((l0.length + roomN l0.length : Nat) : Int) := by unfold wrap64; omega
  rw [hw, if_pos (by omega), if_pos (by omega), Int.toNat_natCast]; have e := laws_toAreaS.l0_eval l0 l0.length K (List.replicate (l0.length + roomN l0.length) z69) 0 (by omega) (by simp) (by simp <;> omega) (by simp <;> omega); refine Eq.trans e ?_; simp [full, Fil.fil]
  try rfl
 unfold laws_toAreaSg.f
 by_cases h1 : a1 = true
 ·rw [if_pos h1]; by_cases h2 : l0 = []
  ·subst h2; rw [if_pos ⟨h1, rfl⟩]; simp only [laws_toAreaSg.j0]
   rw [if_pos (by decide)]
  ·rw [if_neg (fun h3 => h2 h3.2)]
   have h3 : ((l0.length : Int) == 0) = false := by
    have : l0.length ≠ 0 := fun h4 => h2 (List.length_eq_zero_iff.1 h4)
    rw [beq_eq_false_iff_ne]; omega
   rw [h3]; exact hj
 ·rw [if_neg h1, if_neg (fun h2 => h1 h2.1)]; exact hj
def laws_toAreaS.f (_k : Nat) (l0 : List S98) (_a1 : Bool) : Option (List S69) := if l0.length ≤ 1000000 then some (l0.map laws_toAreaS.conv) else none
theorem laws_toAreaS.mono : ∀ a0 a1 k, LeO (laws_toAreaS.f k a0 a1) (laws_toAreaS.f (k + 1) a0 a1) := fun _ _ _ => LeO.refl _
theorem laws_toAreaS.callsF (k : Nat) (A0 : Option Addr) (c0 : Nat) (l0 : List S98) (r : List S69) (w : World) (hr0 : Kd.C k98 w A0 l0.length l0) (hc0 : l0.length ≤ c0) (h : laws_toAreaS.f k l0 false = some r) :
  Calls Try.prog 64 #[.slice A0 l0.length c0, .bool false] w fun e w' => ∃ v0_ : Value, e = .returned (v0_) ∧ Kd.P k69 69 w' w.heap.size (fun _ => True) v0_ r ∧ Below w.heap.size w w' := by
 unfold laws_toAreaS.f at h
 split at h
 ·rename_i hl
  obtain rfl := Option.some.inj h; obtain ⟨k', hk⟩ := laws_toAreaS.g_eval l0 false hl; rw [if_neg (fun h2 => absurd h2.1 (by decide))] at hk; refine (laws_toAreaSg.calls k' A0 c0 l0 false _ w hr0 hc0 hk).mono ?_; rintro e w' ⟨A_, c_, rfl, h1, h2⟩; refine ⟨_, rfl, ⟨fun _ _ => trivial, A_, c_, ?_, h1⟩, h2⟩; first | (rw [vis_le (by simp [full])]; done) | (rw [vis_le (by simp [full])]; simp)
 ·exact absurd h (by simp)
theorem laws_toAreaS.calls (k : Nat) (A0 : Option Addr) (c0 : Nat) (l0 : List S98) (a1 : Bool) (r : List S69) (w : World) (hr0 : Kd.C k98 w A0 l0.length l0) (hc0 : l0.length ≤ c0) (h : laws_toAreaS.f k l0 a1 = some r) :
  Calls Try.prog 64 #[.slice A0 l0.length c0, .bool a1] w fun e w' => ∃ v0_ : Value, e = .returned (v0_) ∧ Kd.R k69 69 w' w.heap.size (fun _ => True) v0_ r ∧ Below w.heap.size w w' := by
 unfold laws_toAreaS.f at h
 split at h
 ·rename_i hl
  obtain rfl := Option.some.inj h; obtain ⟨k', hk⟩ := laws_toAreaS.g_eval l0 a1 hl; refine (laws_toAreaSg.calls k' A0 c0 l0 a1 _ w hr0 hc0 hk).mono ?_; rintro e w' ⟨A_, c_, rfl, h1, h2⟩; refine ⟨_, rfl, ?_, h2⟩; by_cases hz : a1 = true ∧ l0 = []
  ·obtain ⟨rfl, rfl⟩ := hz; rw [if_pos ⟨rfl, rfl⟩] at h1 ⊢; simpa [vis_zero] using h1
  ·rw [if_neg hz] at h1 ⊢; have := Kd.R_take h1 (m := l0.length) (by simp [full]); rw [vis_le (by simp [full])]; simpa [full] using this
 ·exact absurd h (by simp)

/-! ### laws_toField: function 26 -/
def laws_toField.f (k : Nat) (l0_0 : List (S95)) (l0_1 : List (S98)) (l0_2 : List Int) (l0_3 : List Int) (l0_4 : List Int) (a0_5 : Int) (a1 : Bool) : Option ((List (S91)) × (List (S69)) × List Int × List Int × List Int × Int) := (laws_toDemandS.f k l0_0 a1).bind fun t1182 => ((laws_toAreaS.f k l0_1 a1).bind fun t1185 => ((laws_toInt64S.f k l0_2 a1).bind fun t1188 => ((laws_toInt64S.f k l0_3 a1).bind fun t1191 => ((laws_toInt64S.f k l0_4 a1).bind fun t1194 => (some (t1182, t1185, t1188, t1191, t1194, a0_5))))))
theorem laws_toField.mono : ∀ a0 a1 a2 a3 a4 a5 a6 k, LeO (laws_toField.f k a0 a1 a2 a3 a4 a5 a6) (laws_toField.f (k + 1) a0 a1 a2 a3 a4 a5 a6) := by
 intro a0 a1 a2 a3 a4 a5 a6 k; unfold laws_toField.f
 repeat' (with_reducible first | exact laws_toAreaS.mono .. | exact laws_toDemandS.mono .. | exact laws_toInt64S.mono .. | exact LeO.refl .. | exact LeO.none .. | refine LeO.ite ?_ ?_ | refine LeO.bind ?_ (fun _ => ?_))
set_option maxHeartbeats 8000000 in
set_option maxRecDepth 100000 in
theorem laws_toField.calls (k : Nat) (A0_0 : Option Addr) (c0_0 : Nat) (l0_0 : List (S95)) (A0_1 : Option Addr) (c0_1 : Nat) (l0_1 : List (S98)) (A0_2 : Option Addr) (c0_2 : Nat) (l0_2 : List Int) (A0_3 : Option Addr) (c0_3 : Nat) (l0_3 : List Int) (A0_4 : Option Addr) (c0_4 : Nat) (l0_4 : List Int) (a0_5 : Int) (a1 : Bool) (r1 : List (S91)) (r2 : List (S69)) (r3 : List Int) (r4 : List Int) (r5 : List Int) (r6 : Int) (w : World) (hr0_0 : Kd.C k95 w A0_0 l0_0.length l0_0) (hc0_0 : l0_0.length ≤ c0_0) (hr0_1 : Kd.C k98 w A0_1 l0_1.length l0_1) (hc0_1 : l0_1.length ≤ c0_1) (hr0_2 : Kd.C (Kd.int .i64) w A0_2 l0_2.length l0_2) (hc0_2 : l0_2.length ≤ c0_2) (hr0_3 : Kd.C (Kd.int .i64) w A0_3 l0_3.length l0_3) (hc0_3 : l0_3.length ≤ c0_3) (hr0_4 : Kd.C (Kd.int .i64) w A0_4 l0_4.length l0_4) (hc0_4 : l0_4.length ≤ c0_4) (h : laws_toField.f k l0_0 l0_1 l0_2 l0_3 l0_4 a0_5 a1 = some (r1, r2, r3, r4, r5, r6)) :
  Calls Try.prog 26 #[.agg (f5 A0_0 l0_0 c0_0 A0_1 l0_1 c0_1 A0_2 l0_2 c0_2 A0_3 l0_3 c0_3 A0_4 l0_4 c0_4 a0_5), .bool a1] w fun e w' => ∃ v0_ v1_ v2_ v3_ v4_ : Value, e = .returned (.agg #[v0_, v1_, v2_, v3_, v4_, .int .i64 r6]) ∧ Kd.R k91 91 w' w.heap.size (fun _ => True) v0_ r1 ∧ Kd.R k69 69 w' w.heap.size (fun _ => True) v1_ r2 ∧ Kd.R (Kd.int .i64) 2 w' w.heap.size (fun k_ => some k_ ≠ (v3_ : Value).ownBlock ∧ some k_ ≠ (v4_ : Value).ownBlock) v2_ r3 ∧ Kd.R (Kd.int .i64) 2 w' w.heap.size (fun k_ => some k_ ≠ (v2_ : Value).ownBlock ∧ some k_ ≠ (v4_ : Value).ownBlock) v3_ r4 ∧ Kd.R (Kd.int .i64) 2 w' w.heap.size (fun k_ => some k_ ≠ (v2_ : Value).ownBlock ∧ some k_ ≠ (v3_ : Value).ownBlock) v4_ r5 ∧ Below w.heap.size w w' := by
 have hu47 := Try.underlying47; have hu28 := Try.underlying28; have HR0_0 := ak hr0_0; have HC0_0 := ak hc0_0; clear hr0_0 hc0_0; have HR0_1 := ak hr0_1; have HC0_1 := ak hc0_1; clear hr0_1 hc0_1; have HR0_2 := ak hr0_2; have HC0_2 := ak hc0_2; clear hr0_2 hc0_2; have HR0_3 := ak hr0_3; have HC0_3 := ak hc0_3; clear hr0_3 hc0_3; have HR0_4 := ak hr0_4; have HC0_4 := ak hc0_4; clear hr0_4 hc0_4; have HB := ak (Below.refl w.heap.size w); unfold laws_toField.f at h; have H := h; clear h; obtain ⟨t1182, A3, H⟩ := bnk H; obtain ⟨t1185, A4, H⟩ := bnk H
 obtain ⟨t1188, A5, H⟩ := bnk H; obtain ⟨t1191, A6, H⟩ := bnk H; obtain ⟨t1194, A7, H⟩ := bnk H; simp only [Option.some.injEq, Prod.mk.injEq] at H
 obtain ⟨rfl, rfl, rfl, rfl, rfl, rfl⟩ := H; go_enter Try.func26, Try.ntmps26; go_wp2_with (first | ((with_reducible refine gate_dst (N := 2) rfl ?_); refine bx 2 (f5 A0_0 l0_0 c0_0 A0_1 l0_1 c0_1 A0_2 l0_2 c0_2 A0_3 l0_3 c0_3 A0_4 l0_4 c0_4 a0_5) 47 ?_; intro gb1179 hg w8 hbox hb; have BK1179 := ak hbox; have GW1179 := gw hg HB; have GE1179 := gw hg HB; replace HB := bs HB hb; clear hb hbox hg) | ((with_reducible refine gate_dst (N := 4) rfl ?_); refine bx 4 #[.slice none 0 0, .slice none 0 0, .slice none 0 0, .slice none 0 0, .slice none 0 0, .int .i64 0] 28 ?_; intro gb1180 hg w9 hbox hb; have BK1180 := ak hbox; have GW1180 := gw hg HB; have GE1180 := gw hg HB; replace HB := bs HB hb; have NB1179_1180 := ak ((by rw [hg]; exact Nat.ne_of_lt (blk_lt (vk BK1179.out)) : gb1179 ≠ gb1180)); have NB1180_1179 := ak ((by rw [hg]; exact Nat.ne_of_gt (blk_lt (vk BK1179.out)) : gb1180 ≠ gb1179)); replace BK1179 := kb BK1179 hb; clear hb hbox hg) | ((with_reducible refine gate_dst (N := 5) rfl ?_); refine bx 5 #[.slice none 0 0, .slice none 0 0, .slice none 0 0, .slice none 0 0, .slice none 0 0, .int .i64 0] 28 ?_; intro gb1181 hg w10 hbox hb; have BK1181 := ak hbox; have GW1181 := gw hg HB; have GE1181 := gw hg HB; replace HB := bs HB hb; have NB1179_1181 := ak ((by rw [hg]; exact Nat.ne_of_lt (blk_lt (vk BK1179.out)) : gb1179 ≠ gb1181)); have NB1181_1179 := ak ((by rw [hg]; exact Nat.ne_of_gt (blk_lt (vk BK1179.out)) : gb1181 ≠ gb1179)); replace BK1179 := kb BK1179 hb; have NB1180_1181 := ak ((by rw [hg]; exact Nat.ne_of_lt (blk_lt (vk BK1180.out)) : gb1180 ≠ gb1181)); have NB1181_1180 := ak ((by rw [hg]; exact Nat.ne_of_gt (blk_lt (vk BK1180.out)) : gb1181 ≠ gb1180)); replace BK1180 := kb BK1180 hb; clear hb hbox hg; have hnb11 := NB1179_1180.out; have hnc11 := NB1180_1179.out; have hnb12 := NB1179_1181.out; have hnc12 := NB1181_1179.out; have hcz13 := cz6 BK1179.out) | ((with_reducible refine at_fn (f := 63) rfl ?_); refine gl (some 9) Try.func63 #[.slice A0_0 l0_0.length c0_0, .bool a1] ?_; (with_reducible refine (laws_toDemandS.calls k _ _ l0_0 a1 t1182 _ ?_ HC0_0.out A3.out).mono ?_); exact vd HR0_0.out HB.out; rintro e w14 ⟨v1183, rfl, ho0, hb⟩; refine ⟨_, rfl, ?_⟩; have HO1184 := ak (Kd.R_lower ho0 (below_size (vb HB.out))); replace BK1179 := kb BK1179 hb; replace BK1180 := kb BK1180 hb; replace BK1181 := kb BK1181 hb; replace HB := bs HB hb; (try clear hb); (try clear hb2); (try clear hk); (try clear hi); (try clear ho0); obtain ⟨Ao15, co15, eo15⟩ := Kd.R_slice HO1184.out; subst eo15; have hnb16 := NB1181_1180.out; have hnc16 := NB1180_1181.out; have hcz17 := cz6 BK1181.out; have hcz18 := cz6 BK1179.out) | ((with_reducible refine at_fn (f := 64) rfl ?_); refine gl (some 14) Try.func64 #[.slice A0_1 l0_1.length c0_1, .bool a1] ?_; (with_reducible refine (laws_toAreaS.calls k _ _ l0_1 a1 t1185 _ ?_ HC0_1.out A4.out).mono ?_); exact Kd.C_below HR0_1.out (vb HB.out); rintro e w19 ⟨v1186, rfl, ho0, hb⟩; refine ⟨_, rfl, ?_⟩; replace HO1184 := ak (Kd.R_below (rz HO1184.out BK1181.out) hb); have HO1187 := ak (Kd.R_lower ho0 (below_size (vb HB.out))); replace BK1179 := kb BK1179 hb; replace BK1180 := kb BK1180 hb; replace BK1181 := ak (blk_below (g := gb1181) (o := .cells #[.slice Ao15 t1182.length co15, .slice none 0 0, .slice none 0 0, .slice none 0 0, .slice none 0 0, .int .i64 0] 28 (0, 0)) (vz BK1181.out) hb); replace HB := bs HB hb; (try clear hb); (try clear hb2); (try clear hk); (try clear hi); (try clear ho0); obtain ⟨Ao20, co20, eo20⟩ := Kd.R_slice HO1187.out; subst eo20; have hcz21 := cz6 BK1181.out; have hcz22 := cz6 BK1179.out) | ((with_reducible refine at_fn (f := 37) rfl ?_); refine gl (some 19) Try.func37 #[.slice A0_2 l0_2.length c0_2, .bool a1] ?_; (with_reducible refine (laws_toInt64S.calls k _ _ l0_2 a1 t1188 _ ?_ HC0_2.out A5.out).mono ?_); exact Kd.C_below HR0_2.out (vb HB.out); rintro e w23 ⟨v1189, rfl, ho0, hb⟩; refine ⟨_, rfl, ?_⟩; replace HO1184 := ak (Kd.R_below (rz HO1184.out BK1181.out) hb); replace HO1187 := ak (Kd.R_below (rz HO1187.out BK1181.out) hb); have HO1190 := ak (Kd.R_lower ho0 (below_size (vb HB.out))); replace BK1179 := kb BK1179 hb; replace BK1180 := kb BK1180 hb; replace BK1181 := ak (blk_below (g := gb1181) (o := .cells #[.slice Ao15 t1182.length co15, .slice Ao20 t1185.length co20, .slice none 0 0, .slice none 0 0, .slice none 0 0, .int .i64 0] 28 (0, 0)) (vz BK1181.out) hb); replace HB := bs HB hb; (try clear hb); (try clear hb2); (try clear hk); (try clear hi); (try clear ho0); obtain ⟨Ao24, co24, eo24⟩ := Kd.R_slice HO1190.out; subst eo24; have hcz25 := cz6 BK1181.out; have hcz26 := cz6 BK1179.out) | ((with_reducible refine at_fn (f := 37) rfl ?_); refine gl (some 24) Try.func37 #[.slice A0_3 l0_3.length c0_3, .bool a1] ?_; (with_reducible refine (laws_toInt64S.calls k _ _ l0_3 a1 t1191 _ ?_ HC0_3.out A6.out).mono ?_); exact Kd.C_below HR0_3.out (vb HB.out); rintro e w27 ⟨v1192, rfl, ho0, hb⟩; refine ⟨_, rfl, ?_⟩; replace HO1184 := ak (Kd.R_below (rz HO1184.out BK1181.out) hb); replace HO1187 := ak (Kd.R_below (rz HO1187.out BK1181.out) hb); have HO1193 := ak (Kd.R_lower (Kd.R_new' ho0 (Kd.R_lt (rz HO1190.out BK1181.out))) (below_size (vb HB.out))); replace HO1190 := ak (Kd.R_elder' (rz HO1190.out BK1181.out) (Kd.R_base ho0) hb); replace BK1179 := kb BK1179 hb; replace BK1180 := kb BK1180 hb; replace BK1181 := ak (blk_below (g := gb1181) (o := .cells #[.slice Ao15 t1182.length co15, .slice Ao20 t1185.length co20, .slice Ao24 t1188.length co24, .slice none 0 0, .slice none 0 0, .int .i64 0] 28 (0, 0)) (vz BK1181.out) hb); replace HB := bs HB hb; (try clear hb); (try clear hb2); (try clear hk); (try clear hi); (try clear ho0); obtain ⟨Ao28, co28, eo28⟩ := Kd.R_slice HO1193.out; subst eo28; have hcz29 := cz6 BK1181.out; have hcz30 := cz6 BK1179.out) | ((with_reducible refine at_fn (f := 37) rfl ?_); refine gl (some 29) Try.func37 #[.slice A0_4 l0_4.length c0_4, .bool a1] ?_; (with_reducible refine (laws_toInt64S.calls k _ _ l0_4 a1 t1194 _ ?_ HC0_4.out A7.out).mono ?_); exact Kd.C_below HR0_4.out (vb HB.out); rintro e w31 ⟨v1195, rfl, ho0, hb⟩; refine ⟨_, rfl, ?_⟩; replace HO1184 := ak (Kd.R_below (rz HO1184.out BK1181.out) hb); replace HO1187 := ak (Kd.R_below (rz HO1187.out BK1181.out) hb); have HO1196 := ak (Kd.R_lower (Kd.R_new' (Kd.R_new' ho0 (Kd.R_lt (rz HO1190.out BK1181.out))) (Kd.R_lt (rz HO1193.out BK1181.out))) (below_size (vb HB.out))); replace HO1190 := ak (Kd.R_elder' (rz HO1190.out BK1181.out) (Kd.R_base ho0) hb); replace HO1193 := ak (Kd.R_elder' (rz HO1193.out BK1181.out) (Kd.R_base ho0) hb); replace BK1179 := kb BK1179 hb; replace BK1180 := kb BK1180 hb; replace BK1181 := ak (blk_below (g := gb1181) (o := .cells #[.slice Ao15 t1182.length co15, .slice Ao20 t1185.length co20, .slice Ao24 t1188.length co24, .slice Ao28 t1191.length co28, .slice none 0 0, .int .i64 0] 28 (0, 0)) (vz BK1181.out) hb); replace HB := bs HB hb; (try clear hb); (try clear hb2); (try clear hk); (try clear hi); (try clear ho0); obtain ⟨Ao32, co32, eo32⟩ := Kd.R_slice HO1196.out; subst eo32; have hcz33 := cz6 BK1181.out; have hcz34 := cz6 BK1179.out; have hcz35 := cz6 BK1180.out))
 refine bodyPost_ret (results_cell_row rfl _ _ gb1180 28 (f5 Ao15 t1182 co15 Ao20 t1185 co20 Ao24 t1188 co24 Ao28 t1191 co28 Ao32 t1194 co32 a0_5) (0, 0) _ rfl (vz BK1180.out) Try.underlying28 rfl (by kernel_rfl)) rfl ?_; exact ⟨_, _, _, _, _, ew, vr (Kd.R_mono (fr gb1180 5 (fr gb1180 4 (fr gb1180 3 (fr gb1180 2 (fr gb1180 1 (fr gb1180 0 (fr gb1181 5 (fr gb1181 4 (Kd.R_types (Kd.R_types HO1184.out BK1181.out (by decide)) BK1180.out (by decide)) (fun _ hk => hk.1.2) (.slice Ao32 t1194.length co32)) (fun _ hk => hk.1.2) (.int .i64 a0_5)) (fun _ hk => hk.2) (.slice Ao15 t1182.length co15)) (fun _ hk => hk.2) (.slice Ao20 t1185.length co20)) (fun _ hk => hk.2) (.slice Ao24 t1188.length co24)) (fun _ hk => hk.2) (.slice Ao28 t1191.length co28)) (fun _ hk => hk.2) (.slice Ao32 t1194.length co32)) (fun _ hk => hk.2) (.int .i64 a0_5)) (fun _ hk => trivial)), vr (Kd.R_mono (fr gb1180 5 (fr gb1180 4 (fr gb1180 3 (fr gb1180 2 (fr gb1180 1 (fr gb1180 0 (fr gb1181 5 (fr gb1181 4 (Kd.R_types (Kd.R_types HO1187.out BK1181.out (by decide)) BK1180.out (by decide)) (fun _ hk => hk.1.2) (.slice Ao32 t1194.length co32)) (fun _ hk => hk.1.2) (.int .i64 a0_5)) (fun _ hk => hk.2) (.slice Ao15 t1182.length co15)) (fun _ hk => hk.2) (.slice Ao20 t1185.length co20)) (fun _ hk => hk.2) (.slice Ao24 t1188.length co24)) (fun _ hk => hk.2) (.slice Ao28 t1191.length co28)) (fun _ hk => hk.2) (.slice Ao32 t1194.length co32)) (fun _ hk => hk.2) (.int .i64 a0_5)) (fun _ hk => trivial)), vr (Kd.R_mono (fr gb1180 5 (fr gb1180 4 (fr gb1180 3 (fr gb1180 2 (fr gb1180 1 (fr gb1180 0 (fr gb1181 5 (fr gb1181 4 (Kd.R_types (Kd.R_types HO1190.out BK1181.out (by decide)) BK1180.out (by decide)) (fun _ hk => hk.1.2) (.slice Ao32 t1194.length co32)) (fun _ hk => hk.1.2) (.int .i64 a0_5)) (fun _ hk => hk.2) (.slice Ao15 t1182.length co15)) (fun _ hk => hk.2) (.slice Ao20 t1185.length co20)) (fun _ hk => hk.2) (.slice Ao24 t1188.length co24)) (fun _ hk => hk.2) (.slice Ao28 t1191.length co28)) (fun _ hk => hk.2) (.slice Ao32 t1194.length co32)) (fun _ hk => hk.2) (.int .i64 a0_5)) (fun _ hk => ⟨hk.1.1.1.2, hk.1.1.2⟩)), vr (Kd.R_mono (fr gb1180 5 (fr gb1180 4 (fr gb1180 3 (fr gb1180 2 (fr gb1180 1 (fr gb1180 0 (fr gb1181 5 (fr gb1181 4 (Kd.R_types (Kd.R_types HO1193.out BK1181.out (by decide)) BK1180.out (by decide)) (fun _ hk => hk.1.2) (.slice Ao32 t1194.length co32)) (fun _ hk => hk.1.2) (.int .i64 a0_5)) (fun _ hk => hk.2) (.slice Ao15 t1182.length co15)) (fun _ hk => hk.2) (.slice Ao20 t1185.length co20)) (fun _ hk => hk.2) (.slice Ao24 t1188.length co24)) (fun _ hk => hk.2) (.slice Ao28 t1191.length co28)) (fun _ hk => hk.2) (.slice Ao32 t1194.length co32)) (fun _ hk => hk.2) (.int .i64 a0_5)) (fun _ hk => ⟨hk.1.1.1.2, hk.1.1.2⟩)), vr (Kd.R_mono (fr gb1180 5 (fr gb1180 4 (fr gb1180 3 (fr gb1180 2 (fr gb1180 1 (fr gb1180 0 (fr gb1181 5 (fr gb1181 4 (Kd.R_types (Kd.R_types HO1196.out BK1181.out (by decide)) BK1180.out (by decide)) (fun _ hk => hk.1.2) (.slice Ao32 t1194.length co32)) (fun _ hk => hk.1.2) (.int .i64 a0_5)) (fun _ hk => hk.2) (.slice Ao15 t1182.length co15)) (fun _ hk => hk.2) (.slice Ao20 t1185.length co20)) (fun _ hk => hk.2) (.slice Ao24 t1188.length co24)) (fun _ hk => hk.2) (.slice Ao28 t1191.length co28)) (fun _ hk => hk.2) (.slice Ao32 t1194.length co32)) (fun _ hk => hk.2) (.int .i64 a0_5)) (fun _ hk => ⟨hk.1.1.1.2, hk.1.1.2⟩)), vb HB.out⟩
set_option maxHeartbeats 8000000 in
set_option maxRecDepth 100000 in
theorem laws_toField.callsF (k : Nat) (A0_0 : Option Addr) (c0_0 : Nat) (l0_0 : List (S95)) (A0_1 : Option Addr) (c0_1 : Nat) (l0_1 : List (S98)) (A0_2 : Option Addr) (c0_2 : Nat) (l0_2 : List Int) (A0_3 : Option Addr) (c0_3 : Nat) (l0_3 : List Int) (A0_4 : Option Addr) (c0_4 : Nat) (l0_4 : List Int) (a0_5 : Int) (r1 : List (S91)) (r2 : List (S69)) (r3 : List Int) (r4 : List Int) (r5 : List Int) (r6 : Int) (w : World) (hr0_0 : Kd.C k95 w A0_0 l0_0.length l0_0) (hc0_0 : l0_0.length ≤ c0_0) (hr0_1 : Kd.C k98 w A0_1 l0_1.length l0_1) (hc0_1 : l0_1.length ≤ c0_1) (hr0_2 : Kd.C (Kd.int .i64) w A0_2 l0_2.length l0_2) (hc0_2 : l0_2.length ≤ c0_2) (hr0_3 : Kd.C (Kd.int .i64) w A0_3 l0_3.length l0_3) (hc0_3 : l0_3.length ≤ c0_3) (hr0_4 : Kd.C (Kd.int .i64) w A0_4 l0_4.length l0_4) (hc0_4 : l0_4.length ≤ c0_4) (h : laws_toField.f k l0_0 l0_1 l0_2 l0_3 l0_4 a0_5 false = some (r1, r2, r3, r4, r5, r6)) :
  Calls Try.prog 26 #[.agg (f5 A0_0 l0_0 c0_0 A0_1 l0_1 c0_1 A0_2 l0_2 c0_2 A0_3 l0_3 c0_3 A0_4 l0_4 c0_4 a0_5), .bool false] w fun e w' => ∃ v0_ v1_ v2_ v3_ v4_ : Value, e = .returned (.agg #[v0_, v1_, v2_, v3_, v4_, .int .i64 r6]) ∧ Kd.P k91 91 w' w.heap.size (fun _ => True) v0_ r1 ∧ Kd.P k69 69 w' w.heap.size (fun _ => True) v1_ r2 ∧ Kd.P (Kd.int .i64) 2 w' w.heap.size (fun k_ => some k_ ≠ (v3_ : Value).ownBlock ∧ some k_ ≠ (v4_ : Value).ownBlock) v2_ r3 ∧ Kd.P (Kd.int .i64) 2 w' w.heap.size (fun k_ => some k_ ≠ (v2_ : Value).ownBlock ∧ some k_ ≠ (v4_ : Value).ownBlock) v3_ r4 ∧ Kd.P (Kd.int .i64) 2 w' w.heap.size (fun k_ => some k_ ≠ (v2_ : Value).ownBlock ∧ some k_ ≠ (v3_ : Value).ownBlock) v4_ r5 ∧ Below w.heap.size w w' := by
 have hu47 := Try.underlying47; have hu28 := Try.underlying28; have HR0_0 := ak hr0_0; have HC0_0 := ak hc0_0; clear hr0_0 hc0_0; have HR0_1 := ak hr0_1; have HC0_1 := ak hc0_1; clear hr0_1 hc0_1; have HR0_2 := ak hr0_2; have HC0_2 := ak hc0_2; clear hr0_2 hc0_2; have HR0_3 := ak hr0_3; have HC0_3 := ak hc0_3; clear hr0_3 hc0_3; have HR0_4 := ak hr0_4; have HC0_4 := ak hc0_4; clear hr0_4 hc0_4; have HB := ak (Below.refl w.heap.size w); unfold laws_toField.f at h; have H := h; clear h; obtain ⟨t1182, A3, H⟩ := bnk H; obtain ⟨t1185, A4, H⟩ := bnk H
 obtain ⟨t1188, A5, H⟩ := bnk H; obtain ⟨t1191, A6, H⟩ := bnk H; obtain ⟨t1194, A7, H⟩ := bnk H; simp only [Option.some.injEq, Prod.mk.injEq] at H
 obtain ⟨rfl, rfl, rfl, rfl, rfl, rfl⟩ := H; go_enter Try.func26, Try.ntmps26; go_wp2_with (first | ((with_reducible refine gate_dst (N := 2) rfl ?_); refine bx 2 (f5 A0_0 l0_0 c0_0 A0_1 l0_1 c0_1 A0_2 l0_2 c0_2 A0_3 l0_3 c0_3 A0_4 l0_4 c0_4 a0_5) 47 ?_; intro gb1179 hg w8 hbox hb; have BK1179 := ak hbox; have GW1179 := gw hg HB; have GE1179 := gw hg HB; replace HB := bs HB hb; clear hb hbox hg) | ((with_reducible refine gate_dst (N := 4) rfl ?_); refine bx 4 #[.slice none 0 0, .slice none 0 0, .slice none 0 0, .slice none 0 0, .slice none 0 0, .int .i64 0] 28 ?_; intro gb1180 hg w9 hbox hb; have BK1180 := ak hbox; have GW1180 := gw hg HB; have GE1180 := gw hg HB; replace HB := bs HB hb; have NB1179_1180 := ak ((by rw [hg]; exact Nat.ne_of_lt (blk_lt (vk BK1179.out)) : gb1179 ≠ gb1180)); have NB1180_1179 := ak ((by rw [hg]; exact Nat.ne_of_gt (blk_lt (vk BK1179.out)) : gb1180 ≠ gb1179)); replace BK1179 := kb BK1179 hb; clear hb hbox hg) | ((with_reducible refine gate_dst (N := 5) rfl ?_); refine bx 5 #[.slice none 0 0, .slice none 0 0, .slice none 0 0, .slice none 0 0, .slice none 0 0, .int .i64 0] 28 ?_; intro gb1181 hg w10 hbox hb; have BK1181 := ak hbox; have GW1181 := gw hg HB; have GE1181 := gw hg HB; replace HB := bs HB hb; have NB1179_1181 := ak ((by rw [hg]; exact Nat.ne_of_lt (blk_lt (vk BK1179.out)) : gb1179 ≠ gb1181)); have NB1181_1179 := ak ((by rw [hg]; exact Nat.ne_of_gt (blk_lt (vk BK1179.out)) : gb1181 ≠ gb1179)); replace BK1179 := kb BK1179 hb; have NB1180_1181 := ak ((by rw [hg]; exact Nat.ne_of_lt (blk_lt (vk BK1180.out)) : gb1180 ≠ gb1181)); have NB1181_1180 := ak ((by rw [hg]; exact Nat.ne_of_gt (blk_lt (vk BK1180.out)) : gb1181 ≠ gb1180)); replace BK1180 := kb BK1180 hb; clear hb hbox hg; have hnb11 := NB1179_1180.out; have hnc11 := NB1180_1179.out; have hnb12 := NB1179_1181.out; have hnc12 := NB1181_1179.out; have hcz13 := cz6 BK1179.out) | ((with_reducible refine at_fn (f := 63) rfl ?_); refine gl (some 9) Try.func63 #[.slice A0_0 l0_0.length c0_0, .bool false] ?_; (with_reducible refine (laws_toDemandS.callsF k _ _ l0_0 t1182 _ ?_ HC0_0.out A3.out).mono ?_); exact vd HR0_0.out HB.out; rintro e w14 ⟨v1183, rfl, ho0, hb⟩; refine ⟨_, rfl, ?_⟩; have HO1184 := ak (Kd.P_lower ho0 (below_size (vb HB.out))); replace BK1179 := kb BK1179 hb; replace BK1180 := kb BK1180 hb; replace BK1181 := kb BK1181 hb; replace HB := bs HB hb; (try clear hb); (try clear hb2); (try clear hk); (try clear hi); (try clear ho0); obtain ⟨Ao15, co15, eo15⟩ := Kd.P_slice HO1184.out; subst eo15; have hnb16 := NB1181_1180.out; have hnc16 := NB1180_1181.out; have hcz17 := cz6 BK1181.out; have hcz18 := cz6 BK1179.out) | ((with_reducible refine at_fn (f := 64) rfl ?_); refine gl (some 14) Try.func64 #[.slice A0_1 l0_1.length c0_1, .bool false] ?_; (with_reducible refine (laws_toAreaS.callsF k _ _ l0_1 t1185 _ ?_ HC0_1.out A4.out).mono ?_); exact Kd.C_below HR0_1.out (vb HB.out); rintro e w19 ⟨v1186, rfl, ho0, hb⟩; refine ⟨_, rfl, ?_⟩; replace HO1184 := ak (Kd.P_below (pz HO1184.out BK1181.out) hb); have HO1187 := ak (Kd.P_lower ho0 (below_size (vb HB.out))); replace BK1179 := kb BK1179 hb; replace BK1180 := kb BK1180 hb; replace BK1181 := ak (blk_below (g := gb1181) (o := .cells #[.slice Ao15 t1182.length co15, .slice none 0 0, .slice none 0 0, .slice none 0 0, .slice none 0 0, .int .i64 0] 28 (0, 0)) (vz BK1181.out) hb); replace HB := bs HB hb; (try clear hb); (try clear hb2); (try clear hk); (try clear hi); (try clear ho0); obtain ⟨Ao20, co20, eo20⟩ := Kd.P_slice HO1187.out; subst eo20; have hcz21 := cz6 BK1181.out; have hcz22 := cz6 BK1179.out) | ((with_reducible refine at_fn (f := 37) rfl ?_); refine gl (some 19) Try.func37 #[.slice A0_2 l0_2.length c0_2, .bool false] ?_; (with_reducible refine (laws_toInt64S.callsF k _ _ l0_2 t1188 _ ?_ HC0_2.out A5.out).mono ?_); exact Kd.C_below HR0_2.out (vb HB.out); rintro e w23 ⟨v1189, rfl, ho0, hb⟩; refine ⟨_, rfl, ?_⟩; replace HO1184 := ak (Kd.P_below (pz HO1184.out BK1181.out) hb); replace HO1187 := ak (Kd.P_below (pz HO1187.out BK1181.out) hb); have HO1190 := ak (Kd.P_lower ho0 (below_size (vb HB.out))); replace BK1179 := kb BK1179 hb; replace BK1180 := kb BK1180 hb; replace BK1181 := ak (blk_below (g := gb1181) (o := .cells #[.slice Ao15 t1182.length co15, .slice Ao20 t1185.length co20, .slice none 0 0, .slice none 0 0, .slice none 0 0, .int .i64 0] 28 (0, 0)) (vz BK1181.out) hb); replace HB := bs HB hb; (try clear hb); (try clear hb2); (try clear hk); (try clear hi); (try clear ho0); obtain ⟨Ao24, co24, eo24⟩ := Kd.P_slice HO1190.out; subst eo24; have hcz25 := cz6 BK1181.out; have hcz26 := cz6 BK1179.out) | ((with_reducible refine at_fn (f := 37) rfl ?_); refine gl (some 24) Try.func37 #[.slice A0_3 l0_3.length c0_3, .bool false] ?_; (with_reducible refine (laws_toInt64S.callsF k _ _ l0_3 t1191 _ ?_ HC0_3.out A6.out).mono ?_); exact Kd.C_below HR0_3.out (vb HB.out); rintro e w27 ⟨v1192, rfl, ho0, hb⟩; refine ⟨_, rfl, ?_⟩; replace HO1184 := ak (Kd.P_below (pz HO1184.out BK1181.out) hb); replace HO1187 := ak (Kd.P_below (pz HO1187.out BK1181.out) hb); have HO1193 := ak (Kd.P_lower (Kd.P_new' ho0 (Kd.P_lt (pz HO1190.out BK1181.out))) (below_size (vb HB.out))); replace HO1190 := ak (Kd.P_elder' (pz HO1190.out BK1181.out) (Kd.P_base ho0) hb); replace BK1179 := kb BK1179 hb; replace BK1180 := kb BK1180 hb; replace BK1181 := ak (blk_below (g := gb1181) (o := .cells #[.slice Ao15 t1182.length co15, .slice Ao20 t1185.length co20, .slice Ao24 t1188.length co24, .slice none 0 0, .slice none 0 0, .int .i64 0] 28 (0, 0)) (vz BK1181.out) hb); replace HB := bs HB hb; (try clear hb); (try clear hb2); (try clear hk); (try clear hi); (try clear ho0); obtain ⟨Ao28, co28, eo28⟩ := Kd.P_slice HO1193.out; subst eo28; have hcz29 := cz6 BK1181.out; have hcz30 := cz6 BK1179.out) | ((with_reducible refine at_fn (f := 37) rfl ?_); refine gl (some 29) Try.func37 #[.slice A0_4 l0_4.length c0_4, .bool false] ?_; (with_reducible refine (laws_toInt64S.callsF k _ _ l0_4 t1194 _ ?_ HC0_4.out A7.out).mono ?_); exact Kd.C_below HR0_4.out (vb HB.out); rintro e w31 ⟨v1195, rfl, ho0, hb⟩; refine ⟨_, rfl, ?_⟩; replace HO1184 := ak (Kd.P_below (pz HO1184.out BK1181.out) hb); replace HO1187 := ak (Kd.P_below (pz HO1187.out BK1181.out) hb); have HO1196 := ak (Kd.P_lower (Kd.P_new' (Kd.P_new' ho0 (Kd.P_lt (pz HO1190.out BK1181.out))) (Kd.P_lt (pz HO1193.out BK1181.out))) (below_size (vb HB.out))); replace HO1190 := ak (Kd.P_elder' (pz HO1190.out BK1181.out) (Kd.P_base ho0) hb); replace HO1193 := ak (Kd.P_elder' (pz HO1193.out BK1181.out) (Kd.P_base ho0) hb); replace BK1179 := kb BK1179 hb; replace BK1180 := kb BK1180 hb; replace BK1181 := ak (blk_below (g := gb1181) (o := .cells #[.slice Ao15 t1182.length co15, .slice Ao20 t1185.length co20, .slice Ao24 t1188.length co24, .slice Ao28 t1191.length co28, .slice none 0 0, .int .i64 0] 28 (0, 0)) (vz BK1181.out) hb); replace HB := bs HB hb; (try clear hb); (try clear hb2); (try clear hk); (try clear hi); (try clear ho0); obtain ⟨Ao32, co32, eo32⟩ := Kd.P_slice HO1196.out; subst eo32; have hcz33 := cz6 BK1181.out; have hcz34 := cz6 BK1179.out; have hcz35 := cz6 BK1180.out))
 refine bodyPost_ret (results_cell_row rfl _ _ gb1180 28 (f5 Ao15 t1182 co15 Ao20 t1185 co20 Ao24 t1188 co24 Ao28 t1191 co28 Ao32 t1194 co32 a0_5) (0, 0) _ rfl (vz BK1180.out) Try.underlying28 rfl (by kernel_rfl)) rfl ?_; exact ⟨_, _, _, _, _, ew, vp (Kd.P_mono (Kd.P_far (p := ⟨gb1180, 5, none⟩) (Kd.P_far (p := ⟨gb1180, 4, none⟩) (Kd.P_far (p := ⟨gb1180, 3, none⟩) (Kd.P_far (p := ⟨gb1180, 2, none⟩) (Kd.P_far (p := ⟨gb1180, 1, none⟩) (Kd.P_far (p := ⟨gb1180, 0, none⟩) (Kd.P_far (p := ⟨gb1181, 5, none⟩) (Kd.P_far (p := ⟨gb1181, 4, none⟩) (Kd.P_types (Kd.P_types HO1184.out BK1181.out (by decide)) BK1180.out (by decide)) (fun _ hk => hk.1.2) (.slice Ao32 t1194.length co32)) (fun _ hk => hk.1.2) (.int .i64 a0_5)) (fun _ hk => hk.2) (.slice Ao15 t1182.length co15)) (fun _ hk => hk.2) (.slice Ao20 t1185.length co20)) (fun _ hk => hk.2) (.slice Ao24 t1188.length co24)) (fun _ hk => hk.2) (.slice Ao28 t1191.length co28)) (fun _ hk => hk.2) (.slice Ao32 t1194.length co32)) (fun _ hk => hk.2) (.int .i64 a0_5)) (fun _ hk => trivial)), vp (Kd.P_mono (Kd.P_far (p := ⟨gb1180, 5, none⟩) (Kd.P_far (p := ⟨gb1180, 4, none⟩) (Kd.P_far (p := ⟨gb1180, 3, none⟩) (Kd.P_far (p := ⟨gb1180, 2, none⟩) (Kd.P_far (p := ⟨gb1180, 1, none⟩) (Kd.P_far (p := ⟨gb1180, 0, none⟩) (Kd.P_far (p := ⟨gb1181, 5, none⟩) (Kd.P_far (p := ⟨gb1181, 4, none⟩) (Kd.P_types (Kd.P_types HO1187.out BK1181.out (by decide)) BK1180.out (by decide)) (fun _ hk => hk.1.2) (.slice Ao32 t1194.length co32)) (fun _ hk => hk.1.2) (.int .i64 a0_5)) (fun _ hk => hk.2) (.slice Ao15 t1182.length co15)) (fun _ hk => hk.2) (.slice Ao20 t1185.length co20)) (fun _ hk => hk.2) (.slice Ao24 t1188.length co24)) (fun _ hk => hk.2) (.slice Ao28 t1191.length co28)) (fun _ hk => hk.2) (.slice Ao32 t1194.length co32)) (fun _ hk => hk.2) (.int .i64 a0_5)) (fun _ hk => trivial)), vp (Kd.P_mono (Kd.P_far (p := ⟨gb1180, 5, none⟩) (Kd.P_far (p := ⟨gb1180, 4, none⟩) (Kd.P_far (p := ⟨gb1180, 3, none⟩) (Kd.P_far (p := ⟨gb1180, 2, none⟩) (Kd.P_far (p := ⟨gb1180, 1, none⟩) (Kd.P_far (p := ⟨gb1180, 0, none⟩) (Kd.P_far (p := ⟨gb1181, 5, none⟩) (Kd.P_far (p := ⟨gb1181, 4, none⟩) (Kd.P_types (Kd.P_types HO1190.out BK1181.out (by decide)) BK1180.out (by decide)) (fun _ hk => hk.1.2) (.slice Ao32 t1194.length co32)) (fun _ hk => hk.1.2) (.int .i64 a0_5)) (fun _ hk => hk.2) (.slice Ao15 t1182.length co15)) (fun _ hk => hk.2) (.slice Ao20 t1185.length co20)) (fun _ hk => hk.2) (.slice Ao24 t1188.length co24)) (fun _ hk => hk.2) (.slice Ao28 t1191.length co28)) (fun _ hk => hk.2) (.slice Ao32 t1194.length co32)) (fun _ hk => hk.2) (.int .i64 a0_5)) (fun _ hk => ⟨hk.1.1.1.2, hk.1.1.2⟩)), vp (Kd.P_mono (Kd.P_far (p := ⟨gb1180, 5, none⟩) (Kd.P_far (p := ⟨gb1180, 4, none⟩) (Kd.P_far (p := ⟨gb1180, 3, none⟩) (Kd.P_far (p := ⟨gb1180, 2, none⟩) (Kd.P_far (p := ⟨gb1180, 1, none⟩) (Kd.P_far (p := ⟨gb1180, 0, none⟩) (Kd.P_far (p := ⟨gb1181, 5, none⟩) (Kd.P_far (p := ⟨gb1181, 4, none⟩) (Kd.P_types (Kd.P_types HO1193.out BK1181.out (by decide)) BK1180.out (by decide)) (fun _ hk => hk.1.2) (.slice Ao32 t1194.length co32)) (fun _ hk => hk.1.2) (.int .i64 a0_5)) (fun _ hk => hk.2) (.slice Ao15 t1182.length co15)) (fun _ hk => hk.2) (.slice Ao20 t1185.length co20)) (fun _ hk => hk.2) (.slice Ao24 t1188.length co24)) (fun _ hk => hk.2) (.slice Ao28 t1191.length co28)) (fun _ hk => hk.2) (.slice Ao32 t1194.length co32)) (fun _ hk => hk.2) (.int .i64 a0_5)) (fun _ hk => ⟨hk.1.1.1.2, hk.1.1.2⟩)), vp (Kd.P_mono (Kd.P_far (p := ⟨gb1180, 5, none⟩) (Kd.P_far (p := ⟨gb1180, 4, none⟩) (Kd.P_far (p := ⟨gb1180, 3, none⟩) (Kd.P_far (p := ⟨gb1180, 2, none⟩) (Kd.P_far (p := ⟨gb1180, 1, none⟩) (Kd.P_far (p := ⟨gb1180, 0, none⟩) (Kd.P_far (p := ⟨gb1181, 5, none⟩) (Kd.P_far (p := ⟨gb1181, 4, none⟩) (Kd.P_types (Kd.P_types HO1196.out BK1181.out (by decide)) BK1180.out (by decide)) (fun _ hk => hk.1.2) (.slice Ao32 t1194.length co32)) (fun _ hk => hk.1.2) (.int .i64 a0_5)) (fun _ hk => hk.2) (.slice Ao15 t1182.length co15)) (fun _ hk => hk.2) (.slice Ao20 t1185.length co20)) (fun _ hk => hk.2) (.slice Ao24 t1188.length co24)) (fun _ hk => hk.2) (.slice Ao28 t1191.length co28)) (fun _ hk => hk.2) (.slice Ao32 t1194.length co32)) (fun _ hk => hk.2) (.int .i64 a0_5)) (fun _ hk => ⟨hk.1.1.1.2, hk.1.1.2⟩)), vb HB.out⟩


/-! ### laws_eqInt64S: function 28 -/
def laws_eqInt64S.l0 : Nat → List Int → List Int → Int → Option (Bool)
 | 0, _, _, _ => none
 | k + 1, x0, x1, x5 => if x5 < (x0.length : Int) then (if 0 ≤ x5 then (if x5 < (x1.length : Int) then (if (rd x0 x5) = (rd x1 x5) then (laws_eqInt64S.l0 k x0 x1 (wrap64 (x5 + 1))) else (some false)) else (none)) else (none)) else (some true)
def laws_eqInt64S.f (k : Nat) (l0 : List Int) (l1 : List Int) : Option (Bool) := if (l0.length : Int) = (l1.length : Int) then (laws_eqInt64S.l0 k l0 l1 0) else (some false)
theorem laws_eqInt64S.mono_l : ∀ k, (∀ y0 y1 y2, LeO (laws_eqInt64S.l0 k y0 y1 y2) (laws_eqInt64S.l0 (k + 1) y0 y1 y2))
 | 0 => fun _ _ _ r h => by simp [laws_eqInt64S.l0] at h
 | k + 1 => by
  have ih0 := laws_eqInt64S.mono_l k
  ·intro y0 y1 y2; unfold laws_eqInt64S.l0
   repeat' (with_reducible first | exact ih0 .. | exact LeO.refl .. | exact LeO.none .. | refine LeO.ite ?_ ?_ | refine LeO.bind ?_ (fun _ => ?_))
theorem laws_eqInt64S.mono : ∀ a0 a1 k, LeO (laws_eqInt64S.f k a0 a1) (laws_eqInt64S.f (k + 1) a0 a1) := by
 intro a0 a1 k; have ih0 := laws_eqInt64S.mono_l k; unfold laws_eqInt64S.f
 repeat' (with_reducible first | exact ih0 .. | exact LeO.refl .. | exact LeO.none .. | refine LeO.ite ?_ ?_ | refine LeO.bind ?_ (fun _ => ?_))
set_option maxHeartbeats 8000000 in
set_option maxRecDepth 100000 in
theorem laws_eqInt64S.calls (k : Nat) (A0 : Option Addr) (c0 : Nat) (l0 : List Int) (A1 : Option Addr) (c1 : Nat) (l1 : List Int) (r : Bool) (w : World) (hr0 : Kd.C (Kd.int .i64) w A0 l0.length l0) (hc0 : l0.length ≤ c0) (hr1 : Kd.C (Kd.int .i64) w A1 l1.length l1) (hc1 : l1.length ≤ c1) (h : laws_eqInt64S.f k l0 l1 = some r) :
  Calls Try.prog 28 #[.slice A0 l0.length c0, .slice A1 l1.length c1] w fun e w' => e = .returned (.bool r) ∧ Drawn0 w w' := by
 have HR0 := ak hr0; have HC0 := ak hc0; clear hr0 hc0; have HR1 := ak hr1; have HC1 := ak hc1; clear hr1 hc1; unfold laws_eqInt64S.f at h; have H := h; clear h; by_cases c3 : (l0.length : Int) = (l1.length : Int)
 ·rw [if_pos c3] at H; obtain ⟨c3b0, c3b1⟩ := bqt c3; have c3b2 : (l0.length == l1.length) = true := by first | simpa using c3 | (simp at c3 ⊢; omega)
  clear c3; have H' := ak H; clear H; go_enter Try.func28, Try.ntmps28; go_wp2
  repeat (go_quiet (fail); try go_wp2)
  go_loopg [5] k (fun kq v5 w' => ∃ (x5_1 : Int), v5 = .int .i64 x5_1 ∧ Aside0 (laws_eqInt64S.l0 kq l0 l1 x5_1 = some r) ∧ Aside0 (kq ≤ k) ∧ Drawn0 w w')
  case atStart => exact ⟨(0), es, H', ⟨Nat.le_refl _⟩, by repeat (first | exact Drawn0.refl _ | apply Drawn0.step)⟩
  case round =>
   clear H'; (try clear c1); (try clear c2); (try clear p2); (try clear c3); (try clear c3b0); (try clear c3b1); (try clear c3b2); obtain ⟨x5_1, rfl, HA, HK1, ⟨m1, rfl⟩⟩ := hrel
   cases gk with
   | zero => exact absurd HA.out (by simp [laws_eqInt64S.l0])
   | succ k1 =>
    have H := HA.out; clear HA; simp only [laws_eqInt64S.l0] at H
    by_cases c4 : x5_1 < (l0.length : Int)
    ·rw [if_pos c4] at H; have c4b0 := decide_eq_true c4; clear c4; by_cases c5 : 0 ≤ x5_1
     ·rw [if_pos c5] at H; have c5b0 := decide_eq_true c5; clear c5; by_cases c6 : x5_1 < (l1.length : Int)
      ·rw [if_pos c6] at H; have c6b0 := decide_eq_true c6; clear c6; by_cases c7 : (rd l0 x5_1) = (rd l1 x5_1)
       ·rw [if_pos c7] at H; obtain ⟨c7b0, c7b1⟩ := bqt c7; clear c7; have H' := ak H; clear H; have p1213 : 0 ≤ (x5_1 : Int) := od; have q1213 : x5_1 < (l0.length : Int) := od; obtain ⟨ad1213, e1213, hx1213_0⟩ := Kd.at_int HR0.out x5_1 p1213 q1213
        cases e1213; replace p1213 := eq_true p1213; replace q1213 := eq_true q1213; have p1214 : 0 ≤ (x5_1 : Int) := od; have q1214 : x5_1 < (l1.length : Int) := od; obtain ⟨ad1214, e1214, hx1214_0⟩ := Kd.at_int HR1.out x5_1 p1214 q1214
        cases e1214; replace p1214 := eq_true p1214; replace q1214 := eq_true q1214; go_wp2
        repeat (go_quiet (fail); try go_wp2)
        go_roundg k1
        case measure => have := HK1.out; omega
        case rel => exact ⟨(wrap64 (x5_1 + 1)), es, H', ⟨by have := HK1.out; omega⟩, by repeat (first | exact Drawn0.refl _ | apply Drawn0.step)⟩
       ·rw [if_neg c7] at H; obtain ⟨c7b0, c7b1⟩ := bqf c7; obtain rfl := sj H; have p1213 : 0 ≤ (x5_1 : Int) := od; have q1213 : x5_1 < (l0.length : Int) := od; obtain ⟨ad1213, e1213, hx1213_0⟩ := Kd.at_int HR0.out x5_1 p1213 q1213
        cases e1213; replace p1213 := eq_true p1213; replace q1213 := eq_true q1213; have p1214 : 0 ≤ (x5_1 : Int) := od; have q1214 : x5_1 < (l1.length : Int) := od; obtain ⟨ad1214, e1214, hx1214_0⟩ := Kd.at_int HR1.out x5_1 p1214 q1214
        cases e1214; replace p1214 := eq_true p1214; replace q1214 := eq_true q1214; go_wp2
        repeat (go_quiet (fail); try go_wp2)
        go_ret
        exact ⟨by first | rfl | (simp; done) | (simp [*]; done), by repeat (first | exact Drawn0.refl _ | apply Drawn0.step)⟩
      ·exact nO_ c6 H
     ·exact nO_ c5 H
    ·rw [if_neg c4] at H; have c4b0 := decide_eq_false c4; clear c4; obtain rfl := sj H; go_wp2
     repeat (go_quiet (fail); try go_wp2)
     go_ret
     exact ⟨by first | rfl | (simp; done) | (simp [*]; done), by repeat (first | exact Drawn0.refl _ | apply Drawn0.step)⟩
 ·rw [if_neg c3] at H; obtain ⟨c3b0, c3b1⟩ := bqf c3; have c3b2 : (l0.length == l1.length) = false := by first | simpa using c3 | (simp at c3 ⊢; omega)
  obtain rfl := sj H; go_enter Try.func28, Try.ntmps28; go_wp2
  repeat (go_quiet (fail); try go_wp2)
  go_ret
  exact ⟨by first | rfl | (simp; done) | (simp [*]; done), by repeat (first | exact Drawn0.refl _ | apply Drawn0.step)⟩


/-! ### laws_intactInt64S: function 38 -/
def laws_intactInt64S.f (k : Nat) (l0 : List Int) (l1 : List Int) : Option Bool := if l0.length = l1.length then laws_eqInt64S.f k (full l0) (full l1) else none
theorem laws_intactInt64S.mono : ∀ a0 a1 k, LeO (laws_intactInt64S.f k a0 a1) (laws_intactInt64S.f (k + 1) a0 a1) := by
 intro a0 a1 k; unfold laws_intactInt64S.f
 exact LeO.ite (laws_eqInt64S.mono _ _ _) (LeO.none _)
set_option maxHeartbeats 1000000 in
set_option maxRecDepth 100000 in
theorem laws_intactInt64S.calls (k : Nat) (A0 : Option Addr) (c0 : Nat) (l0 : List Int) (A1 : Option Addr) (c1 : Nat) (l1 : List Int) (r : Bool) (w : World) (hr0 : Kd.C (Kd.int .i64) w A0 (full l0).length (full l0)) (hc0 : (full l0).length ≤ c0) (hr1 : Kd.C (Kd.int .i64) w A1 (full l1).length (full l1)) (hc1 : (full l1).length ≤ c1) (h : laws_intactInt64S.f k l0 l1 = some r) :
  Calls Try.prog 38 #[.slice A0 l0.length c0, .slice A1 l1.length c1] w fun e w' => e = .returned (.bool r) ∧ Drawn0 w w' := by
 unfold laws_intactInt64S.f at h
 by_cases he : l0.length = l1.length
 rotate_left
 ·rw [if_neg he] at h; exact absurd h (by simp)
 rw [if_pos he] at h; have hm1 : (full l1).length ≤ 9223372036854775807 := hr1.2.1; have ef0 : (full l0).length = (full l1).length := by rw [full_length, full_length, he]
 have hk : ((l1.length : Int) + (roomN l1.length : Int)) = ((full l1).length : Int) := by rw [full_length]; omega
 obtain ⟨i0, hi0, _, _, _⟩ := info_parts info2; have hq0 := cut_cap (P := Try.prog) 26 2 .i64 Try.underlying26 hi0 A0 l0.length c0 ((full l1).length : Int) (by omega) (by omega); have hq1 := cut_cap (P := Try.prog) 26 2 .i64 Try.underlying26 hi0 A1 l1.length c1 ((full l1).length : Int) (by omega) (by omega); have hw : IntKind.i64.wrap ((l1.length : Int) + (roomN l1.length : Int)) = ((full l1).length : Int) := by rw [hk]; exact IntWalk.i64_in _ (by omega)
 have heq : ((l0.length : Int) == (l1.length : Int)) = true := by rw [he]; simp
 have heq2 : (l0.length == l1.length) = true := by rw [he]; simp
 rw [Int.toNat_natCast] at hq0 hq1; have HE := ak ef0; clear hk ef0 he hi0; go_enter Try.func38, Try.ntmps38; go_wp2_with fail
 refine (laws_roomBehind.calls _ _ _ (room_f _)).mono ?_; rintro e w' ⟨rfl, ⟨nd, rfl⟩⟩; go_wp2_with fail
 go_still_tail 12, (by kernel_rfl)
 change wpList _ _ _ _ _ ((w.drewN nd).drew)
 have hE := laws_eqInt64S.calls k A0 c0 (full l0) A1 c1 (full l1) r ((w.drewN nd).drew) (Kd.C_drew (Kd.C_drewN hr0 nd)) hc0 (Kd.C_drew (Kd.C_drewN hr1 nd)) hc1 h; rw [HE.out] at hE; have HH := Lib.hid hE; clear hE; go_wp2_with fail
 refine HH.out.mono ?_; rintro e w' ⟨rfl, ⟨nq, rfl⟩⟩; go_wp2_with fail
 go_ret
 exact ⟨rfl, by repeat (first | exact Drawn0.refl _ | apply Drawn0.step)⟩

/-! ### laws_eqDemand: function 105 -/
def laws_eqDemand.f (a0_0 : Int) (a0_1 : Int) (a0_2 : Int) (a1_0 : Int) (a1_1 : Int) (a1_2 : Int) : Option (Bool) := if a0_0 = a1_0 then (if a0_1 = a1_1 then (if a0_2 = a1_2 then (some true) else (some false)) else (some false)) else (some false)
set_option maxHeartbeats 8000000 in
set_option maxRecDepth 100000 in
theorem laws_eqDemand.calls (a0_0 : Int) (a0_1 : Int) (a0_2 : Int) (a1_0 : Int) (a1_1 : Int) (a1_2 : Int) (r : Bool) (w : World) (h : laws_eqDemand.f a0_0 a0_1 a0_2 a1_0 a1_1 a1_2 = some r) :
  Calls Try.prog 105 #[.agg #[.int .i64 a0_0, .int .i64 a0_1, .int .i64 a0_2], .agg #[.int .i64 a1_0, .int .i64 a1_1, .int .i64 a1_2]] w fun e w' => e = .returned (.bool r) ∧ Below w.heap.size w w' := by
 have hu91 := Try.underlying91; have HB := ak (Below.refl w.heap.size w); unfold laws_eqDemand.f at h; have H := h; clear h; by_cases c3 : a0_0 = a1_0
 rw [if_pos c3] at H; obtain ⟨c3b0, c3b1⟩ := bqt c3; clear c3; by_cases c4 : a0_1 = a1_1
 rw [if_pos c4] at H; obtain ⟨c4b0, c4b1⟩ := bqt c4; clear c4; by_cases c5 : a0_2 = a1_2
 rw [if_pos c5] at H; obtain ⟨c5b0, c5b1⟩ := bqt c5; clear c5; obtain rfl := sj H; rotate_left
 rw [if_neg c5] at H; obtain ⟨c5b0, c5b1⟩ := bqf c5; obtain rfl := sj H; rotate_left
 rw [if_neg c4] at H; obtain ⟨c4b0, c4b1⟩ := bqf c4; obtain rfl := sj H; rotate_left
 rw [if_neg c3] at H; obtain ⟨c3b0, c3b1⟩ := bqf c3; obtain rfl := sj H; rotate_left
 all_goals
  go_enter Try.func105, Try.ntmps105; go_wp2_with (first | ((with_reducible refine gate_dst (N := 2) rfl ?_); refine bx 2 #[.int .i64 a0_0, .int .i64 a0_1, .int .i64 a0_2] 91 ?_; intro gb1219 hg w9 hbox hb; have BK1219 := ak hbox; have GW1219 := gw hg HB; have GE1219 := gw hg HB; replace HB := bs HB hb; clear hb hbox hg) | ((with_reducible refine gate_dst (N := 3) rfl ?_); refine bx 3 #[.int .i64 a1_0, .int .i64 a1_1, .int .i64 a1_2] 91 ?_; intro gb1220 hg w9 hbox hb; have BK1220 := ak hbox; have GW1220 := gw hg HB; have GE1220 := gw hg HB; replace HB := bs HB hb; have NB1219_1220 := ak ((by rw [hg]; exact Nat.ne_of_lt (blk_lt (vk BK1219.out)) : gb1219 ≠ gb1220)); have NB1220_1219 := ak ((by rw [hg]; exact Nat.ne_of_gt (blk_lt (vk BK1219.out)) : gb1220 ≠ gb1219)); replace BK1219 := kb BK1219 hb; clear hb hbox hg; have hnb9 := NB1219_1220.out; have hnc9 := NB1220_1219.out; have hcz9 := cz3 BK1219.out; have hcz9 := cz3 BK1220.out))
  go_ret
  exact ⟨ew, vb HB.out⟩


end Go.Proofs.Ytiblahniohjbbaa.Pall
