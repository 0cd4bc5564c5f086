/- Go functions of the program, each as a Lean function, and the proof that each call comes to what the Lean function tells; no condition beyond those that stand there. -/
import Derived.Test.YtnfmfebmjlglgaaF00
import Derived.Test.YtnfmfebmjlglgaaWGuard
import Derived.Test.YtnfmfebmjlglgaaWLast
import Derived.Test.YtnfmfebmjlglgaaSpare
import Derived.Test.YtnfmfebmjlglgaaCm
import Derived.Test.YtnfmfebmjlglgaaCm3
import Derived.StillTailTactics
import Derived.IntWalk
import Derived.Lib.Hide
namespace Go.Proofs.Ytnfmfebmjlglgaa.Pall
open Go.RowKit Go.Proofs.YtnfmfebmjlglgaaW.PrintWords Go.Proofs.YtnfmfebmjlglgaaW.PrintLast
set_option linter.unusedVariables false
set_option linter.unusedSimpArgs false

/-! ### laws_szInt64S: function 57 -/
def laws_szInt64S.f (l0 : List Int) (a1 : Int) : Option (Int) := if (wrap64 (a1 - (l0.length : Int))) < 0 then (some (-1)) else (some (wrap64 (a1 - (l0.length : Int))))
set_option maxHeartbeats 8000000 in
set_option maxRecDepth 100000 in
theorem laws_szInt64S.calls (A0 : Option Addr) (c0 : Nat) (l0 : List Int) (a1 : Int) (r : Int) (w : World) (hr0 : Kd.C (Kd.int .i64) w A0 l0.length l0) (hc0 : l0.length ≤ c0) (h : laws_szInt64S.f l0 a1 = some r) :
  Calls Try.prog 57 #[.slice A0 l0.length c0, .int .i64 a1] w fun e w' => e = .returned (.int .i64 r) ∧ Drawn0 w w' := by
 have HR0 := ak hr0; have HC0 := ak hc0; clear hr0 hc0; unfold laws_szInt64S.f at h; have H := h; clear h; by_cases c3 : (wrap64 (a1 - (l0.length : Int))) < 0
 rw [if_pos c3] at H; have c3b0 := decide_eq_true c3; clear c3; obtain rfl := Option.some.inj H; rotate_left
 rw [if_neg c3] at H; have c3b0 := decide_eq_false c3; clear c3; obtain rfl := Option.some.inj H; rotate_left
 all_goals
  go_enter Try.func57, Try.ntmps57; go_wp2
  go_ret
  exact ⟨by first | rfl | (simp; done) | (simp [*]; done), by repeat (first | exact Drawn0.refl _ | apply Drawn0.step)⟩


/-! ### spec_l01In: function 95 -/
def spec_l01In.f (a0 : Int) (a1 : Int) (a2 : Int) : Option (Bool) := if a0 ≥ a1 then (some (decide (a0 ≤ a2))) else (some false)
set_option maxHeartbeats 8000000 in
set_option maxRecDepth 100000 in
theorem spec_l01In.calls (a0 : Int) (a1 : Int) (a2 : Int) (r : Bool) (w : World) (h : spec_l01In.f a0 a1 a2 = some r) :
  Calls Try.prog 95 #[.int .i64 a0, .int .i64 a1, .int .i64 a2] w fun e w' => e = .returned (.bool r) ∧ Drawn0 w w' := by
 unfold spec_l01In.f at h; have H := h; clear h; by_cases c4 : a0 ≥ a1
 rw [if_pos c4] at H; have c4b0 := decide_eq_true c4; clear c4; obtain rfl := Option.some.inj H; rotate_left
 rw [if_neg c4] at H; have c4b0 := decide_eq_false c4; clear c4; obtain rfl := Option.some.inj H; rotate_left
 all_goals
  go_enter Try.func95, Try.ntmps95; go_wp2
  go_ret
  exact ⟨by first | rfl | (simp; done) | (simp [*]; done), by repeat (first | exact Drawn0.refl _ | apply Drawn0.step)⟩


/-! ### spec_l15Place: function 96 -/
def spec_l15Place.f (a0 : Int) (a1 : Int) : Option (Bool) := (spec_l01In.f a0 0 100000).bind fun t110 => (if t110 = true then ((spec_l01In.f a1 0 100000).bind fun t111 => (some t111)) else (some false))
set_option maxHeartbeats 8000000 in
set_option maxRecDepth 100000 in
theorem spec_l15Place.calls (a0 : Int) (a1 : Int) (r : Bool) (w : World) (h : spec_l15Place.f a0 a1 = some r) :
  Calls Try.prog 96 #[.int .i64 a0, .int .i64 a1] w fun e w' => e = .returned (.bool r) ∧ Drawn0 w w' := by
 unfold spec_l15Place.f at h; have H := h; clear h; obtain ⟨t110, A3, H⟩ := bnk H; by_cases c4 : t110 = true
 subst c4; rw [if_pos rfl] at H; obtain ⟨t111, A5, H⟩ := bnk H; obtain rfl := Option.some.inj H; rotate_left
 replace c4 := Bool.eq_false_iff.mpr c4; subst c4; rw [if_neg nf] at H; obtain rfl := Option.some.inj H; rotate_left
 all_goals
  go_enter Try.func96, Try.ntmps96; go_wp2_with (first | ((with_reducible refine at_fn (f := 95) rfl ?_); refine gl (some 6) Try.func95 #[.int .i64 a0, .int .i64 0, .int .i64 100000] ?_; (with_reducible refine (spec_l01In.calls a0 0 100000 _ _ A3.out).mono ?_); rintro e w' ⟨rfl, ⟨nd, rfl⟩⟩; refine ⟨_, rfl, ?_⟩) | (go_at_call 95; (with_reducible refine (spec_l01In.calls a1 0 100000 t111 _ A5.out).mono ?_); rintro e w' ⟨rfl, ⟨nd, rfl⟩⟩))
  go_ret
  exact ⟨by first | rfl | (simp; done) | (simp [*]; done), by repeat (first | exact Drawn0.refl _ | apply Drawn0.step)⟩


/-! ### laws_roomBehind: function 60 -/
def laws_roomBehind.f (a0 : Int) : Option (Int) := if (Int.tmod a0 6) = 5 then (some 0) else (if (Int.tmod a0 3) = 0 then (some 1) else (some a0))
set_option maxHeartbeats 8000000 in
set_option maxRecDepth 100000 in
theorem laws_roomBehind.calls (a0 : Int) (r : Int) (w : World) (h : laws_roomBehind.f a0 = some r) :
  Calls Try.prog 60 #[.int .i64 a0] w fun e w' => e = .returned (.int .i64 r) ∧ Drawn0 w w' := by
 unfold laws_roomBehind.f at h; have H := h; clear h; by_cases c2 : (Int.tmod a0 6) = 5
 rw [if_pos c2] at H; obtain ⟨c2b0, c2b1⟩ := bqt c2; clear c2; obtain rfl := Option.some.inj H; rotate_left
 rw [if_neg c2] at H; obtain ⟨c2b0, c2b1⟩ := bqf c2; by_cases c3 : (Int.tmod a0 3) = 0
 rw [if_pos c3] at H; obtain ⟨c3b0, c3b1⟩ := bqt c3; clear c3; obtain rfl := Option.some.inj H; rotate_left
 rw [if_neg c3] at H; obtain ⟨c3b0, c3b1⟩ := bqf c3; obtain rfl := Option.some.inj H; rotate_left
 all_goals
  go_enter Try.func60, Try.ntmps60; go_wp2
  go_ret
  exact ⟨by first | rfl | (simp; done) | (simp [*]; done), by repeat (first | exact Drawn0.refl _ | apply Drawn0.step)⟩
theorem room_f (n : Nat) : laws_roomBehind.f (n : Int) = some ((roomN n : Nat) : Int) := by
 have h6 : Int.tmod (n : Int) 6 = ((n % 6 : Nat) : Int) := (Int.ofNat_tmod n 6).symm; have h3 : Int.tmod (n : Int) 3 = ((n % 3 : Nat) : Int) := (Int.ofNat_tmod n 3).symm; unfold laws_roomBehind.f roomN
 rw [h6, h3]; by_cases a : n % 6 = 5
 ·rw [if_pos (by omega), if_pos a]; rfl
 ·rw [if_neg (by omega), if_neg a]; by_cases b : n % 3 = 0
  ·rw [if_pos (by omega), if_pos b]; rfl
  ·rw [if_neg (by omega), if_neg b]


/-! ### laws_toInt64S: function 63 -/
mutual
def laws_toInt64Sg.j0 : Nat → List Int → Bool → Option (List Int)
 | 0, _, _ => none
 | k + 1, x0, x13 => if x13 = true then (some ([] : List Int)) else ((laws_roomBehind.f (x0.length : Int)).bind fun t183 => (if 0 ≤ (wrap64 ((x0.length : Int) + t183)) then (if (wrap64 ((x0.length : Int) + t183) : Int).toNat ≤ 35184372088832 then (laws_toInt64Sg.l0 k x0 (List.replicate (wrap64 ((x0.length : Int) + t183) : Int).toNat 0) 0) else (none)) else (none)))
def laws_toInt64Sg.l0 : Nat → List Int → List Int → Int → Option (List Int)
 | 0, _, _, _ => none
 | k + 1, x0, x5, x6 => if x6 < (x0.length : Int) then (if 0 ≤ x6 then (if x6 < (x5.length : Int) then (laws_toInt64Sg.l0 k x0 (x5.set (x6 : Int).toNat (rd x0 x6)) (wrap64 (x6 + 1))) else (none)) else (none)) else (laws_toInt64Sg.l1 k x0 x5 (x0.length : Int))
def laws_toInt64Sg.l1 : Nat → List Int → List Int → Int → Option (List Int)
 | 0, _, _, _ => none
 | k + 1, x0, x5, x7 => if x7 < (x5.length : Int) then (if 0 ≤ x7 then (laws_toInt64Sg.l1 k x0 (x5.set (x7 : Int).toNat (-7000000000000000101)) (wrap64 (x7 + 1))) else (none)) else (if 0 ≤ (x0.length : Int) then (if (x0.length : Int) ≤ (x5.length : Int) then (some x5) else (none)) else (none))
end
def laws_toInt64Sg.f (k : Nat) (l0 : List Int) (a1 : Bool) : Option (List Int) := if a1 = true then (laws_toInt64Sg.j0 k l0 ((l0.length : Int) == 0)) else (laws_toInt64Sg.j0 k l0 false)
theorem laws_toInt64Sg.mono_l : ∀ k, (∀ y0 y1, LeO (laws_toInt64Sg.j0 k y0 y1) (laws_toInt64Sg.j0 (k + 1) y0 y1)) ∧ (∀ y0 y1 y2, LeO (laws_toInt64Sg.l0 k y0 y1 y2) (laws_toInt64Sg.l0 (k + 1) y0 y1 y2)) ∧ (∀ y0 y1 y2, LeO (laws_toInt64Sg.l1 k y0 y1 y2) (laws_toInt64Sg.l1 (k + 1) y0 y1 y2))
 | 0 => ⟨fun _ _ r h => by simp [laws_toInt64Sg.j0] at h, fun _ _ _ r h => by simp [laws_toInt64Sg.l0] at h, fun _ _ _ r h => by simp [laws_toInt64Sg.l1] at h⟩
 | k + 1 => by
  obtain ⟨ih0, ih1, ih2⟩ := laws_toInt64Sg.mono_l k; refine ⟨?_, ?_, ?_⟩
  ·intro y0 y1; unfold laws_toInt64Sg.j0
   repeat' first | (with_reducible first | exact ih0 _ _ | exact ih1 _ _ _ | exact ih2 _ _ _ | exact LeO.refl _ | exact LeO.none _ | refine LeO.ite ?_ ?_ | refine LeO.bind ?_ (fun _ => ?_)) | exact ih0 _ _ | exact ih1 _ _ _ | exact ih2 _ _ _ | exact LeO.none _ | refine LeO.ite ?_ ?_ | refine LeO.bind ?_ (fun _ => ?_)
  ·intro y0 y1 y2; unfold laws_toInt64Sg.l0
   repeat' first | (with_reducible first | exact ih0 _ _ | exact ih1 _ _ _ | exact ih2 _ _ _ | exact LeO.refl _ | exact LeO.none _ | refine LeO.ite ?_ ?_ | refine LeO.bind ?_ (fun _ => ?_)) | exact ih0 _ _ | exact ih1 _ _ _ | exact ih2 _ _ _ | exact LeO.none _ | refine LeO.ite ?_ ?_ | refine LeO.bind ?_ (fun _ => ?_)
  ·intro y0 y1 y2; unfold laws_toInt64Sg.l1
   repeat' first | (with_reducible first | exact ih0 _ _ | exact ih1 _ _ _ | exact ih2 _ _ _ | exact LeO.refl _ | exact LeO.none _ | refine LeO.ite ?_ ?_ | refine LeO.bind ?_ (fun _ => ?_)) | exact ih0 _ _ | exact ih1 _ _ _ | exact ih2 _ _ _ | exact LeO.none _ | refine LeO.ite ?_ ?_ | refine LeO.bind ?_ (fun _ => ?_)
theorem laws_toInt64Sg.mono : ∀ a0 a1 k, LeO (laws_toInt64Sg.f k a0 a1) (laws_toInt64Sg.f (k + 1) a0 a1) := by
 intro a0 a1 k; obtain ⟨ih0, ih1, ih2⟩ := laws_toInt64Sg.mono_l k; unfold laws_toInt64Sg.f
 repeat' first | (with_reducible first | exact ih0 _ _ | exact ih1 _ _ _ | exact ih2 _ _ _ | exact LeO.refl _ | exact LeO.none _ | refine LeO.ite ?_ ?_ | refine LeO.bind ?_ (fun _ => ?_)) | exact ih0 _ _ | exact ih1 _ _ _ | exact ih2 _ _ _ | exact LeO.none _ | refine LeO.ite ?_ ?_ | refine LeO.bind ?_ (fun _ => ?_)
set_option maxHeartbeats 8000000 in
set_option maxRecDepth 100000 in
theorem laws_toInt64Sg.calls (k : Nat) (A0 : Option Addr) (c0 : Nat) (l0 : List Int) (a1 : Bool) (r : List Int) (w : World) (hr0 : Kd.C (Kd.int .i64) w A0 l0.length l0) (hc0 : l0.length ≤ c0) (h : laws_toInt64Sg.f k l0 a1 = some r) :
  Calls Try.prog 63 #[.slice A0 l0.length c0, .bool a1] w fun e w' => ∃ (A_ : Option Addr) (c_ : Nat), e = .returned (.slice A_ (vis l0.length r.length) c_) ∧ Kd.R (Kd.int .i64) 2 w' w.heap.size (fun _ => True) (.slice A_ r.length c_) r ∧ Below w.heap.size w w' := by
 have HR0 := ak hr0; have HC0 := ak hc0; clear hr0 hc0; have HB := ak (Below.refl w.heap.size w); unfold laws_toInt64Sg.f at h; have H := h; clear h; have HC3 := ak H; clear H; go_enter Try.func63, Try.ntmps63; go_upto_region 1 with (fail)
 go_cut [13] (fun v13 wc => ∃ (kq : Nat) (x13_2 : Bool), v13 = .bool x13_2 ∧ Aside0 (laws_toInt64Sg.j0 kq l0 x13_2 = some r) ∧ Aside0 (kq ≤ k) ∧ Aside0 (Below w.heap.size w wc))
 case first =>
  have H := HC3.out; clear HC3; by_cases c4 : a1 = true
  ·subst c4; rw [if_pos rfl] at H; have H' := ak H; clear H; go_wp2
   go_meet
   case rel => exact ⟨_, (((l0.length : Int) == 0)), (by first | rfl | (simp; done) | (simp [*]; done)), H', ⟨by first | omega | exact Nat.le_refl _⟩, ⟨vb HB.out⟩⟩
  ·replace c4 := Bool.eq_false_iff.mpr c4; subst c4; rw [if_neg nf] at H; have H' := ak H; clear H; go_wp2
   go_meet
   case rel => exact ⟨_, (false), (by first | rfl | (simp; done) | (simp [*]; done)), H', ⟨by first | omega | exact Nat.le_refl _⟩, ⟨vb HB.out⟩⟩
 case rest =>
  clear HC3; (try clear p2); (try clear c4); obtain ⟨kq, x13_2, rfl, HA, HJ2, HB⟩ := hcut
  cases kq with
  | zero => exact absurd HA.out (by simp [laws_toInt64Sg.j0])
  | succ kj2 =>
   have H := HA.out; clear HA; simp only [laws_toInt64Sg.j0] at H
   by_cases c5 : x13_2 = true
   ·subst c5; rw [if_pos rfl] at H; obtain rfl := Option.some.inj H; go_wp2
    go_ret
    exact ⟨none, 0, by first | (rw [vis_zero]; rfl) | (simp only [List.length_nil, vis_zero]; rfl), Kd.R_nil _ _ _ _ _, vb HB.out⟩
   ·replace c5 := Bool.eq_false_iff.mpr c5; subst c5; rw [if_neg nf] at H; obtain ⟨t183, A6, H⟩ := bnk H; obtain ⟨ji7, hji7⟩ : ∃ j_ : Int, (wrap64 ((l0.length : Int) + t183)) = j_ := ⟨_, rfl⟩; replace H : (if 0 ≤ (ji7) then (if (ji7 : Int).toNat ≤ 35184372088832 then (laws_toInt64Sg.l0 kj2 l0 (List.replicate (ji7 : Int).toNat 0) 0) else (none)) else (none)) = some r := by first | (rw [hji7] at H; exact H) | (simp only [hji7] at H ⊢; exact H)
    (try rw [hji7] at A6)
    have hji7w : (IntKind.i64.wrap ((l0.length : Int) + t183)) = ji7 := (i64_w _).trans hji7; by_cases c8 : 0 ≤ (ji7)
    ·rw [if_pos c8] at H; have c8b0 := eq_true c8; have c8b1 : decide (0 ≤ (ji7)) = true := decide_eq_true c8; clear c8; by_cases c9 : (ji7 : Int).toNat ≤ 35184372088832
     ·rw [if_pos c9] at H; have c9b0 := eq_true c9; have c9b1 : decide ((ji7 : Int).toNat ≤ 35184372088832) = true := decide_eq_true c9; clear c9; obtain ⟨y184, hy184⟩ := gen_ ((List.replicate (ji7 : Int).toNat 0 : List Int)); rw [← hy184] at H; have Ny184 := ak hy184; clear hy184; have H' := ak H; clear H; go_wp2_with (first | ((with_reducible refine at_fn (f := 60) rfl ?_); refine gl (some 18) Try.func60 #[.int .i64 (l0.length : Int)] ?_; (with_reducible refine (laws_roomBehind.calls (l0.length : Int) t183 _ A6.out).mono ?_); rintro e w' ⟨rfl, ⟨nd, rfl⟩⟩; refine ⟨_, rfl, ?_⟩) | ((with_reducible refine gate_dst (N := 20) rfl ?_); (try (refine gate_guard (by rfl) ?_; dsimp only)); refine Kd.R_make (Kd.int .i64) _ 2 rfl (N := 20) rfl 23 _ _ rfl ji7 rfl rfl Try.underlying23 (.int .i64 0) 8 info2 rfl (by decide) (by omega) 0 (ok := fun _ => True) (okp := fun _ => True) rfl (fun _ hk => hk) trivial (od) (Nat.le_trans (Nat.mul_le_mul_right _ (od : ji7.toNat ≤ 35184372088832)) (by omega)) (Below.refl _ _) (Nat.le_refl _) ?_; intro v185 w10 ho11 hb hg_ hnew_; clear hg_ hnew_; (first | rw [← Ny184.out] at ho11 | (simp only [Int.reduceToNat] at ho11; rw [← Ny184.out] at ho11)); have HO186 := ak (Kd.R_lower ho11 (below_size (vb HB.out))); replace HB := bs HB hb; clear hb ho11))
      go_loopg [6] kj2 (fun kq v6 w' => ∃ (x5_2 : List Int) (x6_2 : Int), v6 = .int .i64 x6_2 ∧ Aside0 (laws_toInt64Sg.l0 kq l0 x5_2 x6_2 = some r) ∧ Aside0 (kq ≤ kj2) ∧ Aside0 (Kd.R (Kd.int .i64) 2 w' w.heap.size (fun _ => True) v185 x5_2) ∧ Aside0 (Below w.heap.size w w'))
      case atStart => exact ⟨(y184), (0), (by first | rfl | (simp; done) | (simp [*]; done)), H', ⟨Nat.le_refl _⟩, ⟨by (with_reducible repeat (first | apply Kd.R_alloc | apply Kd.R_drewN | apply Kd.R_drew)); exact HO186.out⟩, ⟨vb HB.out⟩⟩
      case round =>
       clear H'; (try clear p2); (try clear c4); (try clear c5); (try clear c6); (try clear p6); (try clear c8); (try clear c8b0); (try clear c8b1); (try clear c9); (try clear c9b0); (try clear c9b1); (try clear p2); obtain ⟨x5_2, x6_2, rfl, HA, HK2, HO_5, HB⟩ := hrel
       cases gk with
       | zero => exact absurd HA.out (by simp [laws_toInt64Sg.l0])
       | succ k2 =>
        have H := HA.out; clear HA; simp only [laws_toInt64Sg.l0] at H
        by_cases c12 : x6_2 < (l0.length : Int)
        ·rw [if_pos c12] at H; have c12b0 := decide_eq_true c12; clear c12; by_cases c13 : 0 ≤ x6_2
         ·rw [if_pos c13] at H; have c13b0 := decide_eq_true c13; clear c13; by_cases c14 : x6_2 < (x5_2.length : Int)
          ·rw [if_pos c14] at H; have c14b0 := decide_eq_true c14; clear c14; obtain ⟨y188, hy188⟩ := gen_ ((x5_2.set (x6_2 : Int).toNat (rd l0 x6_2) : List Int)); rw [← hy188] at H; have Ny188 := ak hy188; clear hy188; have H' := ak H; clear H; have p187 : 0 ≤ (x6_2 : Int) := od; have q187 : x6_2 < (l0.length : Int) := od; obtain ⟨ad187, e187, hx187_0⟩ := Kd.at_int HR0.out x6_2 p187 q187
           cases e187; replace hx187_0 := cb HB.out hx187_0; replace p187 := eq_true p187; replace q187 := eq_true q187; have p15 : 0 ≤ (x6_2 : Int) := od; have q15 : (x6_2 : Int) < ((x5_2.length : Int) : Int) := od; obtain ⟨go15, co15, eo15, gb15, gl15, cl15, HG15⟩ := Kd.R_form HO_5.out (by omega); (first | cases eo15 | (injection eo15 with ea_ en_ ec_; (first | subst ea_ | (injection ea_ with ea_; subst ea_)); subst ec_; clear en_))
           have GB15 := ak gb15; have GG15 := ak HG15; clear gb15 gl15 HG15; obtain ⟨hx15_0, hf15_0⟩ := Kd.R_celln 0 HO_5.out (x6_2 : Int) p15 q15; replace p15 := eq_true p15; replace q15 := eq_true q15; have HP16 := Kd.R_putg HO_5.out (x6_2 : Int) (rd l0 x6_2); go_wp2_with (first | ((with_reducible refine gate_store (t := 2) (p := 33) rfl ?_); refine store_event (t := 2) (p := 33) (v := ?vo_w17) (w1 := (wr.setCell ⟨go15, (x6_2 : Int).toNat, none⟩ (.int .i64 (rd l0 x6_2)))) ?hg ?ho ?hn ?hr ?_; (case ho => rfl); (case hg => rfl); (case hn => rfl); (case hr => first | (go_simp; done) | (go_simp; rfl)); intro w17 hw; have hg : wr.grownBy w17 (some go15) := (by rw [hw]; exact HP16.2); have hp_ : Kd.R (Kd.int .i64) 2 w17 w.heap.size (fun _ => True) (.slice (some ⟨go15, 0, none⟩) x5_2.length co15) y188 := (by rw [hw, Ny188.out]; exact HP16.1); clear HP16; replace HO_5 := ak (hp_); replace HB := ak ((by rw [hw]; exact below_set (HB.out) GB15.out : Below w.heap.size w w17)); clear hg hw hp_))
           go_roundg k2
           case measure => have := HJ2.out; have := HK2.out; omega
           case rel => exact ⟨(y188), (wrap64 (x6_2 + 1)), (by first | rfl | (simp; done) | (simp [*]; done)), H', ⟨by have := HJ2.out; have := HK2.out; omega⟩, ⟨by (with_reducible repeat (first | apply Kd.R_alloc | apply Kd.R_drewN | apply Kd.R_drew)); exact HO_5.out⟩, ⟨vb HB.out⟩⟩
          ·rw [if_neg c14] at H; exact absurd H (by simp)
         ·rw [if_neg c13] at H; exact absurd H (by simp)
        ·rw [if_neg c12] at H; have c12b0 := decide_eq_false c12; clear c12; have H' := ak H; clear H; go_wp2
         go_loopg [7] k2 (fun kq v7 w' => ∃ (x5_3 : List Int) (x7_3 : Int), v7 = .int .i64 x7_3 ∧ Aside0 (laws_toInt64Sg.l1 kq l0 x5_3 x7_3 = some r) ∧ Aside0 (kq ≤ k2) ∧ Aside0 (Kd.R (Kd.int .i64) 2 w' w.heap.size (fun _ => True) v185 x5_3) ∧ Aside0 (Below w.heap.size w w'))
         case atStart => exact ⟨(x5_2), ((l0.length : Int)), (by first | rfl | (simp; done) | (simp [*]; done)), H', ⟨Nat.le_refl _⟩, ⟨by (with_reducible repeat (first | apply Kd.R_alloc | apply Kd.R_drewN | apply Kd.R_drew)); exact HO_5.out⟩, ⟨vb HB.out⟩⟩
         case round =>
          clear H'; (try clear c1); (try clear p1); (try clear q1); (try clear hx1); (try clear p2); (try clear c4); (try clear c5); (try clear c6); (try clear p6); (try clear c8); (try clear c8b0); (try clear c8b1); (try clear c9); (try clear c9b0); (try clear c9b1); (try clear c12); (try clear c12b0); (try clear c13); (try clear c13b0); (try clear c14); (try clear c14b0); (try clear p15); (try clear q15); (try clear hx15); (try clear hf15); (try clear hx15_0); (try clear hx187_0); (try clear p15); (try clear p187); (try clear p2); (try clear p6); (try clear q15); (try clear q187); obtain ⟨x5_3, x7_3, rfl, HA, HK3, HO_5, HB⟩ := hrel
          cases gk with
          | zero => exact absurd HA.out (by simp [laws_toInt64Sg.l1])
          | succ k3 =>
           have H := HA.out; clear HA; simp only [laws_toInt64Sg.l1] at H
           by_cases c18 : x7_3 < (x5_3.length : Int)
           ·rw [if_pos c18] at H; have c18b0 := decide_eq_true c18; clear c18; by_cases c19 : 0 ≤ x7_3
            ·rw [if_pos c19] at H; have c19b0 := decide_eq_true c19; clear c19; obtain ⟨y189, hy189⟩ := gen_ ((x5_3.set (x7_3 : Int).toNat (-7000000000000000101) : List Int)); rw [← hy189] at H; have Ny189 := ak hy189; clear hy189; have H' := ak H; clear H; obtain ⟨Ao21, co21, eo21⟩ := Kd.R_slice HO_5.out; subst eo21; have p20 : 0 ≤ (x7_3 : Int) := od; have q20 : (x7_3 : Int) < ((x5_3.length : Int) : Int) := od; obtain ⟨go20, co20, eo20, gb20, gl20, cl20, HG20⟩ := Kd.R_form HO_5.out (by omega); (first | cases eo20 | (injection eo20 with ea_ en_ ec_; (first | subst ea_ | (injection ea_ with ea_; subst ea_)); subst ec_; clear en_))
             have GB20 := ak gb20; have GG20 := ak HG20; clear gb20 gl20 HG20; obtain ⟨hx20_0, hf20_0⟩ := Kd.R_celln 0 HO_5.out (x7_3 : Int) p20 q20; replace p20 := eq_true p20; replace q20 := eq_true q20; have HP22 := Kd.R_putg HO_5.out (x7_3 : Int) (-7000000000000000101); go_wp2_with (first | ((with_reducible refine gate_store (t := 2) (p := 44) rfl ?_); refine store_event (t := 2) (p := 44) (v := ?vo_w23) (w1 := (wr.setCell ⟨go20, (x7_3 : Int).toNat, none⟩ (.int .i64 (-7000000000000000101)))) ?hg ?ho ?hn ?hr ?_; (case ho => rfl); (case hg => rfl); (case hn => rfl); (case hr => first | (go_simp; done) | (go_simp; rfl)); intro w23 hw; have hg : wr.grownBy w23 (some go20) := (by rw [hw]; exact HP22.2); have hp_ : Kd.R (Kd.int .i64) 2 w23 w.heap.size (fun _ => True) (.slice (some ⟨go20, 0, none⟩) x5_3.length co21) y189 := (by rw [hw, Ny189.out]; exact HP22.1); clear HP22; replace HO_5 := ak (hp_); replace HB := ak ((by rw [hw]; exact below_set (HB.out) GB20.out : Below w.heap.size w w23)); clear hg hw hp_))
             go_roundg k3
             case measure => have := HJ2.out; have := HK2.out; have := HK3.out; omega
             case rel => exact ⟨(y189), (wrap64 (x7_3 + 1)), (by first | rfl | (simp; done) | (simp [*]; done)), H', ⟨by have := HJ2.out; have := HK2.out; have := HK3.out; omega⟩, ⟨by (with_reducible repeat (first | apply Kd.R_alloc | apply Kd.R_drewN | apply Kd.R_drew)); exact HO_5.out⟩, ⟨vb HB.out⟩⟩
            ·rw [if_neg c19] at H; exact absurd H (by simp)
           ·rw [if_neg c18] at H; have c18b0 := decide_eq_false c18; clear c18; by_cases c24 : 0 ≤ (l0.length : Int)
            ·rw [if_pos c24] at H; have c24b0 := eq_true c24; have c24b1 : decide (0 ≤ (l0.length : Int)) = true := decide_eq_true c24; clear c24; by_cases c25 : (l0.length : Int) ≤ (x5_3.length : Int)
             ·rw [if_pos c25] at H; have c25b0 := eq_true c25; have c25b1 : decide ((l0.length : Int) ≤ (x5_3.length : Int)) = true := decide_eq_true c25; clear c25; obtain ⟨y190, hy190⟩ : ∃ y_ : List Int, y_ = (x5_3.take ((l0.length : Int) : Int).toNat) := ⟨_, rfl⟩; have Ny190 := ak hy190; clear hy190; obtain rfl := Option.some.inj H; obtain ⟨Ao26, co26, eo26⟩ := Kd.R_slice HO_5.out; subst eo26; have q27 : ((l0.length : Int) : Int) ≤ ((x5_3.length : Int) : Int) := od; obtain ⟨i027, hi027, _, hsz27, _⟩ := info_parts info2; have hcut27 := cut_to (P := Try.prog) 23 2 .i64 Try.underlying23 hi027 Ao26 x5_3.length co26 (l0.length : Int) (od) q27 (Kd.R_reads' HO_5.out).2.1; have hr27 := Kd.R_take (m := ((l0.length : Int) : Int).toNat) HO_5.out (by omega); have hy27 : y190.length = ((l0.length : Int) : Int).toNat := (by rw [Ny190.out, List.length_take]; omega); rw [← Ny190.out] at hr27; rw [← hy27] at hr27 hcut27; clear hy27 hi027 hsz27; have HO192 := ak hr27; clear hr27; replace q27 := eq_true q27; go_wp2
              go_ret
              exact ⟨Ao26, co26, (by rw [show vis l0.length x5_3.length = y190.length from by rw [Ny190.out, Int.toNat_natCast, List.length_take]; rfl]; rfl), by (with_reducible repeat (first | apply Kd.R_alloc | apply Kd.R_drewN | apply Kd.R_drew)); exact HO_5.out, vb HB.out⟩
             ·rw [if_neg c25] at H; exact absurd H (by simp)
            ·rw [if_neg c24] at H; exact absurd H (by simp)
     ·rw [if_neg c9] at H; exact absurd H (by simp)
    ·rw [if_neg c8] at H; exact absurd H (by simp)
theorem laws_toInt64S.w1 {i n : Nat} (h : i < n) (hn : n ≤ 4000000) : wrap64 ((i : Int) + 1) = ((i + 1 : Nat) : Int) := by unfold wrap64; omega
theorem laws_toInt64S.l1_eval (x0 : List Int) (d : Nat) : ∀ (k : Nat) (F : List Int) (i : Nat), x0.length ≤ i → F.length = i + d → F.length ≤ 4000000 → d < k →
  laws_toInt64Sg.l1 k x0 F (i : Int) = some (F.take i ++ List.replicate d ((-7000000000000000101) : Int)) := by
 induction d with
 | zero =>
  intro k F i h0 h1 h2 h3; obtain ⟨k, rfl⟩ : ∃ m, k = m + 1 := ⟨k - 1, by omega⟩; simp only [laws_toInt64Sg.l1]
  rw [if_neg (by omega), if_pos (by omega), if_pos (by omega)]; simp [List.take_of_length_le (show F.length ≤ i by omega)]
 | succ d ih =>
  intro k F i h0 h1 h2 h3; obtain ⟨k, rfl⟩ : ∃ m, k = m + 1 := ⟨k - 1, by omega⟩; have e := ih k (F.set i ((-7000000000000000101) : Int)) (i + 1) (by omega) (by simp; omega) (by simpa using h2) (by omega); simp only [laws_toInt64Sg.l1]
  rw [if_pos (by omega), if_pos (by omega), laws_toInt64S.w1 (n := F.length) (by omega) h2, Int.toNat_natCast]; refine Eq.trans e ?_; rw [take_succ_set F i ((-7000000000000000101) : Int) (by omega), List.append_assoc]; rfl
theorem laws_toInt64S.l0_eval (x0 : List Int) (d : Nat) : ∀ (k : Nat) (F : List Int) (i : Nat), x0.length = i + d → x0.length ≤ F.length → F.length ≤ 4000000 → d + (F.length - x0.length) + 1 < k →
  laws_toInt64Sg.l0 k x0 F (i : Int) = some (F.take i ++ (x0.drop i) ++ List.replicate (F.length - x0.length) ((-7000000000000000101) : Int)) := by
 induction d with
 | zero =>
  intro k F i h0 h1 h2 h3; obtain ⟨k, rfl⟩ : ∃ m, k = m + 1 := ⟨k - 1, by omega⟩; simp only [laws_toInt64Sg.l0]
  have hi : i = x0.length := by omega
  subst hi; rw [if_neg (by omega), laws_toInt64S.l1_eval x0 (F.length - x0.length) k F x0.length (Nat.le_refl _) (by omega) h2 (by omega)]; simp
 | succ d ih =>
  intro k F i h0 h1 h2 h3; obtain ⟨k, rfl⟩ : ∃ m, k = m + 1 := ⟨k - 1, by omega⟩; have hlt : i < x0.length := by omega
  have e := ih k (F.set i x0[i]) (i + 1) (by omega) (by simpa using h1) (by simpa using h2) (by simp; omega); simp only [laws_toInt64Sg.l0]
  have hr : rd x0 (i : Int) = x0[i] := by simp [rd, hlt]
  rw [if_pos (by omega), if_pos (by omega), if_pos (by omega), laws_toInt64S.w1 (n := F.length) (by omega) h2, Int.toNat_natCast, hr]; refine Eq.trans e ?_; rw [take_succ_set F i x0[i] (by omega), List.length_set, List.drop_eq_getElem_cons hlt]; simp only [List.append_assoc, List.cons_append, List.nil_append]
theorem laws_toInt64S.g_eval (l0 : List Int) (a1 : Bool) (h : l0.length ≤ 1000000) : ∃ k, laws_toInt64Sg.f k l0 a1 = some (if a1 = true ∧ l0 = [] then [] else full l0) := by
 obtain ⟨K, hK⟩ : ∃ K, K = l0.length + roomN l0.length + 5 := ⟨_, rfl⟩; refine ⟨K + 1, ?_⟩; have hr := room_f l0.length; have hl : roomN l0.length ≤ 1000000 := by unfold roomN; (repeat' split) <;> omega
 have hj : laws_toInt64Sg.j0 (K + 1) l0 false = some (full l0) := by
  simp only [laws_toInt64Sg.j0]
  rw [if_neg (by decide), hr]; rw [Option.bind_some]; have hw : wrap64 ((l0.length : Int) + ((roomN l0.length : Nat) : Int)) = ((l0.length + roomN l0.length : Nat) : Int) := by unfold wrap64; omega
  rw [hw, if_pos (by omega), if_pos (by omega), Int.toNat_natCast]; have e := laws_toInt64S.l0_eval l0 l0.length K (List.replicate (l0.length + roomN l0.length) 0) 0 (by omega) (by simp) (by simp <;> omega) (by simp <;> omega); refine Eq.trans e ?_; simp [full, Fil.fil]
  try rfl
 unfold laws_toInt64Sg.f
 by_cases h1 : a1 = true
 ·rw [if_pos h1]; by_cases h2 : l0 = []
  ·subst h2; rw [if_pos ⟨h1, rfl⟩]; simp only [laws_toInt64Sg.j0]
   rw [if_pos (by decide)]
  ·rw [if_neg (fun h3 => h2 h3.2)]
   have h3 : ((l0.length : Int) == 0) = false := by
    have : l0.length ≠ 0 := fun h4 => h2 (List.length_eq_zero_iff.1 h4)
    rw [beq_eq_false_iff_ne]; omega
   rw [h3]; exact hj
 ·rw [if_neg h1, if_neg (fun h2 => h1 h2.1)]; exact hj
def laws_toInt64S.f (_k : Nat) (l0 : List Int) (_a1 : Bool) : Option (List Int) := if l0.length ≤ 1000000 then some l0 else none
theorem laws_toInt64S.mono : ∀ a0 a1 k, LeO (laws_toInt64S.f k a0 a1) (laws_toInt64S.f (k + 1) a0 a1) := fun _ _ _ => LeO.refl _
theorem laws_toInt64S.callsF (k : Nat) (A0 : Option Addr) (c0 : Nat) (l0 : List Int) (r : List Int) (w : World) (hr0 : Kd.C (Kd.int .i64) w A0 l0.length l0) (hc0 : l0.length ≤ c0) (h : laws_toInt64S.f k l0 false = some r) :
  Calls Try.prog 63 #[.slice A0 l0.length c0, .bool false] w fun e w' => ∃ v0_ : Value, e = .returned (v0_) ∧ Kd.P (Kd.int .i64) 2 w' w.heap.size (fun _ => True) v0_ r ∧ Below w.heap.size w w' := by
 unfold laws_toInt64S.f at h
 split at h
 ·rename_i hl
  obtain rfl := Option.some.inj h; obtain ⟨k', hk⟩ := laws_toInt64S.g_eval l0 false hl; rw [if_neg (fun h2 => absurd h2.1 (by decide))] at hk; refine (laws_toInt64Sg.calls k' A0 c0 l0 false _ w hr0 hc0 hk).mono ?_; rintro e w' ⟨A_, c_, rfl, h1, h2⟩; refine ⟨_, rfl, ⟨fun _ _ => trivial, A_, c_, ?_, h1⟩, h2⟩; first | (rw [vis_le (by simp [full])]; done) | (rw [vis_le (by simp [full])]; simp)
 ·exact absurd h (by simp)
theorem laws_toInt64S.calls (k : Nat) (A0 : Option Addr) (c0 : Nat) (l0 : List Int) (a1 : Bool) (r : List Int) (w : World) (hr0 : Kd.C (Kd.int .i64) w A0 l0.length l0) (hc0 : l0.length ≤ c0) (h : laws_toInt64S.f k l0 a1 = some r) :
  Calls Try.prog 63 #[.slice A0 l0.length c0, .bool a1] w fun e w' => ∃ v0_ : Value, e = .returned (v0_) ∧ Kd.R (Kd.int .i64) 2 w' w.heap.size (fun _ => True) v0_ r ∧ Below w.heap.size w w' := by
 unfold laws_toInt64S.f at h
 split at h
 ·rename_i hl
  obtain rfl := Option.some.inj h; obtain ⟨k', hk⟩ := laws_toInt64S.g_eval l0 a1 hl; refine (laws_toInt64Sg.calls k' A0 c0 l0 a1 _ w hr0 hc0 hk).mono ?_; rintro e w' ⟨A_, c_, rfl, h1, h2⟩; refine ⟨_, rfl, ?_, h2⟩; by_cases hz : a1 = true ∧ l0 = []
  ·obtain ⟨rfl, rfl⟩ := hz; rw [if_pos ⟨rfl, rfl⟩] at h1 ⊢; simpa [vis_zero] using h1
  ·rw [if_neg hz] at h1 ⊢; have := Kd.R_take h1 (m := l0.length) (by simp [full]); rw [vis_le (by simp [full])]; simpa [full] using this
 ·exact absurd h (by simp)

/-! ### impl_within: function 103 -/
def impl_within.f (a0 : Int) (a1 : Int) (a2 : Int) : Option (Bool) := if a1 ≤ a0 then (some (decide (a0 ≤ a2))) else (some false)
set_option maxHeartbeats 8000000 in
set_option maxRecDepth 100000 in
theorem impl_within.calls (a0 : Int) (a1 : Int) (a2 : Int) (r : Bool) (w : World) (h : impl_within.f a0 a1 a2 = some r) :
  Calls Try.prog 103 #[.int .i64 a0, .int .i64 a1, .int .i64 a2] w fun e w' => e = .returned (.bool r) ∧ Drawn0 w w' := by
 unfold impl_within.f at h; have H := h; clear h; by_cases c4 : a1 ≤ a0
 rw [if_pos c4] at H; have c4b0 := decide_eq_true c4; clear c4; obtain rfl := Option.some.inj H; rotate_left
 rw [if_neg c4] at H; have c4b0 := decide_eq_false c4; clear c4; obtain rfl := Option.some.inj H; rotate_left
 all_goals
  go_enter Try.func103, Try.ntmps103; go_wp2
  go_ret
  exact ⟨by first | rfl | (simp; done) | (simp [*]; done), by repeat (first | exact Drawn0.refl _ | apply Drawn0.step)⟩


/-! ### impl_isPlace: function 86 -/
def impl_isPlace.f (a0 : Int) (a1 : Int) : Option (Bool) := (impl_within.f a0 0 100000).bind fun t229 => (if t229 = true then ((impl_within.f a1 0 100000).bind fun t230 => (some t230)) else (some false))
set_option maxHeartbeats 8000000 in
set_option maxRecDepth 100000 in
theorem impl_isPlace.calls (a0 : Int) (a1 : Int) (r : Bool) (w : World) (h : impl_isPlace.f a0 a1 = some r) :
  Calls Try.prog 86 #[.int .i64 a0, .int .i64 a1] w fun e w' => e = .returned (.bool r) ∧ Drawn0 w w' := by
 unfold impl_isPlace.f at h; have H := h; clear h; obtain ⟨t229, A3, H⟩ := bnk H; by_cases c4 : t229 = true
 subst c4; rw [if_pos rfl] at H; obtain ⟨t230, A5, H⟩ := bnk H; obtain rfl := Option.some.inj H; rotate_left
 replace c4 := Bool.eq_false_iff.mpr c4; subst c4; rw [if_neg nf] at H; obtain rfl := Option.some.inj H; rotate_left
 all_goals
  go_enter Try.func86, Try.ntmps86; go_wp2_with (first | ((with_reducible refine at_fn (f := 103) rfl ?_); refine gl (some 6) Try.func103 #[.int .i64 a0, .int .i64 0, .int .i64 100000] ?_; (with_reducible refine (impl_within.calls a0 0 100000 _ _ A3.out).mono ?_); rintro e w' ⟨rfl, ⟨nd, rfl⟩⟩; refine ⟨_, rfl, ?_⟩) | (go_at_call 103; (with_reducible refine (impl_within.calls a1 0 100000 t230 _ A5.out).mono ?_); rintro e w' ⟨rfl, ⟨nd, rfl⟩⟩))
  go_ret
  exact ⟨by first | rfl | (simp; done) | (simp [*]; done), by repeat (first | exact Drawn0.refl _ | apply Drawn0.step)⟩


/-! ### impl_allWithin: function 87 -/
def impl_allWithin.l0 : Nat → Int → Int → List Int → Int → Int → Option (Bool)
 | 0, _, _, _, _, _ => none
 | k + 1, x1, x2, x9, x10, x11 => if x11 < x10 then (if 0 ≤ x11 then (if x11 < (x9.length : Int) then ((impl_within.f (rd x9 x11) x1 x2).bind fun t232 => (if t232 = true then (impl_allWithin.l0 k x1 x2 x9 x10 (wrap64 (x11 + 1))) else (some false))) else (none)) else (none)) else (some true)
def impl_allWithin.f (k : Nat) (l0 : List Int) (a1 : Int) (a2 : Int) : Option (Bool) := impl_allWithin.l0 k a1 a2 l0 (l0.length : Int) 0
theorem impl_allWithin.mono_l : ∀ k, (∀ y0 y1 y2 y3 y4, LeO (impl_allWithin.l0 k y0 y1 y2 y3 y4) (impl_allWithin.l0 (k + 1) y0 y1 y2 y3 y4))
 | 0 => fun _ _ _ _ _ r h => by simp [impl_allWithin.l0] at h
 | k + 1 => by
  have ih0 := impl_allWithin.mono_l k
  ·intro y0 y1 y2 y3 y4; unfold impl_allWithin.l0
   repeat' first | (with_reducible first | exact ih0 _ _ _ _ _ | exact LeO.refl _ | exact LeO.none _ | refine LeO.ite ?_ ?_ | refine LeO.bind ?_ (fun _ => ?_)) | exact ih0 _ _ _ _ _ | exact LeO.none _ | refine LeO.ite ?_ ?_ | refine LeO.bind ?_ (fun _ => ?_)
theorem impl_allWithin.mono : ∀ a0 a1 a2 k, LeO (impl_allWithin.f k a0 a1 a2) (impl_allWithin.f (k + 1) a0 a1 a2) := by
 intro a0 a1 a2 k; have ih0 := impl_allWithin.mono_l k; unfold impl_allWithin.f
 repeat' first | (with_reducible first | exact ih0 _ _ _ _ _ | exact LeO.refl _ | exact LeO.none _ | refine LeO.ite ?_ ?_ | refine LeO.bind ?_ (fun _ => ?_)) | exact ih0 _ _ _ _ _ | exact LeO.none _ | refine LeO.ite ?_ ?_ | refine LeO.bind ?_ (fun _ => ?_)
set_option maxHeartbeats 8000000 in
set_option maxRecDepth 100000 in
theorem impl_allWithin.calls (k : Nat) (A0 : Option Addr) (c0 : Nat) (l0 : List Int) (a1 : Int) (a2 : Int) (r : Bool) (w : World) (hr0 : Kd.C (Kd.int .i64) w A0 l0.length l0) (hc0 : l0.length ≤ c0) (h : impl_allWithin.f k l0 a1 a2 = some r) :
  Calls Try.prog 87 #[.slice A0 l0.length c0, .int .i64 a1, .int .i64 a2] w fun e w' => e = .returned (.bool r) ∧ Drawn0 w w' := by
 have HR0 := ak hr0; have HC0 := ak hc0; clear hr0 hc0; unfold impl_allWithin.f at h; have H := h; clear h; have H' := ak H; clear H; go_enter Try.func87, Try.ntmps87; go_wp2
 go_loopg [11] k (fun kq v11 w' => ∃ (x11_1 : Int), v11 = .int .i64 x11_1 ∧ Aside0 (impl_allWithin.l0 kq a1 a2 l0 (l0.length : Int) x11_1 = some r) ∧ Aside0 (kq ≤ k) ∧ Drawn0 w w')
 case atStart => exact ⟨(0), (by first | rfl | (simp; done) | (simp [*]; done)), H', ⟨Nat.le_refl _⟩, by repeat (first | exact Drawn0.refl _ | apply Drawn0.step)⟩
 case round =>
  clear H'; (try clear p2); obtain ⟨x11_1, rfl, HA, HK1, ⟨m1, rfl⟩⟩ := hrel
  cases gk with
  | zero => exact absurd HA.out (by simp [impl_allWithin.l0])
  | succ k1 =>
   have H := HA.out; clear HA; simp only [impl_allWithin.l0] at H
   by_cases c4 : x11_1 < (l0.length : Int)
   ·rw [if_pos c4] at H; have c4b0 := decide_eq_true c4; clear c4; by_cases c5 : 0 ≤ x11_1
    ·rw [if_pos c5] at H; have c5b0 := decide_eq_true c5; clear c5; by_cases c6 : x11_1 < (l0.length : Int)
     ·rw [if_pos c6] at H; have c6b0 := decide_eq_true c6; clear c6; obtain ⟨t232, A7, H⟩ := bnk H; by_cases c8 : t232 = true
      ·subst c8; rw [if_pos rfl] at H; have H' := ak H; clear H; have p231 : 0 ≤ (x11_1 : Int) := od; have q231 : x11_1 < (l0.length : Int) := od; obtain ⟨ad231, e231, hx231_0⟩ := Kd.at_int HR0.out x11_1 p231 q231
       cases e231; replace p231 := eq_true p231; replace q231 := eq_true q231; go_wp2_with (first | ((with_reducible refine at_fn (f := 103) rfl ?_); refine gl (some 18) Try.func103 #[.int .i64 (rd l0 x11_1), .int .i64 a1, .int .i64 a2] ?_; (with_reducible refine (impl_within.calls (rd l0 x11_1) a1 a2 _ _ A7.out).mono ?_); rintro e w' ⟨rfl, ⟨nd, rfl⟩⟩; refine ⟨_, rfl, ?_⟩))
       go_roundg k1
       case measure => have := HK1.out; omega
       case rel => exact ⟨(wrap64 (x11_1 + 1)), (by first | rfl | (simp; done) | (simp [*]; done)), H', ⟨by have := HK1.out; omega⟩, by repeat (first | exact Drawn0.refl _ | apply Drawn0.step)⟩
      ·replace c8 := Bool.eq_false_iff.mpr c8; subst c8; rw [if_neg nf] at H; obtain rfl := Option.some.inj H; have p231 : 0 ≤ (x11_1 : Int) := od; have q231 : x11_1 < (l0.length : Int) := od; obtain ⟨ad231, e231, hx231_0⟩ := Kd.at_int HR0.out x11_1 p231 q231
       cases e231; replace p231 := eq_true p231; replace q231 := eq_true q231; go_wp2_with (first | ((with_reducible refine at_fn (f := 103) rfl ?_); refine gl (some 18) Try.func103 #[.int .i64 (rd l0 x11_1), .int .i64 a1, .int .i64 a2] ?_; (with_reducible refine (impl_within.calls (rd l0 x11_1) a1 a2 _ _ A7.out).mono ?_); rintro e w' ⟨rfl, ⟨nd, rfl⟩⟩; refine ⟨_, rfl, ?_⟩))
       go_ret
       exact ⟨by first | rfl | (simp; done) | (simp [*]; done), by repeat (first | exact Drawn0.refl _ | apply Drawn0.step)⟩
     ·rw [if_neg c6] at H; exact absurd H (by simp)
    ·rw [if_neg c5] at H; exact absurd H (by simp)
   ·rw [if_neg c4] at H; have c4b0 := decide_eq_false c4; clear c4; obtain rfl := Option.some.inj H; go_wp2
    go_ret
    exact ⟨by first | rfl | (simp; done) | (simp [*]; done), by repeat (first | exact Drawn0.refl _ | apply Drawn0.step)⟩


/-! ### laws_eqInt64S: function 18 -/
def laws_eqInt64S.l0 : Nat → List Int → List Int → Int → Option (Bool)
 | 0, _, _, _ => none
 | k + 1, x0, x1, x5 => if x5 < (x0.length : Int) then (if 0 ≤ x5 then (if x5 < (x1.length : Int) then (if (rd x0 x5) = (rd x1 x5) then (laws_eqInt64S.l0 k x0 x1 (wrap64 (x5 + 1))) else (some false)) else (none)) else (none)) else (some true)
def laws_eqInt64S.f (k : Nat) (l0 : List Int) (l1 : List Int) : Option (Bool) := if (l0.length : Int) = (l1.length : Int) then (laws_eqInt64S.l0 k l0 l1 0) else (some false)
theorem laws_eqInt64S.mono_l : ∀ k, (∀ y0 y1 y2, LeO (laws_eqInt64S.l0 k y0 y1 y2) (laws_eqInt64S.l0 (k + 1) y0 y1 y2))
 | 0 => fun _ _ _ r h => by simp [laws_eqInt64S.l0] at h
 | k + 1 => by
  have ih0 := laws_eqInt64S.mono_l k
  ·intro y0 y1 y2; unfold laws_eqInt64S.l0
   repeat' first | (with_reducible first | exact ih0 _ _ _ | exact LeO.refl _ | exact LeO.none _ | refine LeO.ite ?_ ?_ | refine LeO.bind ?_ (fun _ => ?_)) | exact ih0 _ _ _ | exact LeO.none _ | refine LeO.ite ?_ ?_ | refine LeO.bind ?_ (fun _ => ?_)
theorem laws_eqInt64S.mono : ∀ a0 a1 k, LeO (laws_eqInt64S.f k a0 a1) (laws_eqInt64S.f (k + 1) a0 a1) := by
 intro a0 a1 k; have ih0 := laws_eqInt64S.mono_l k; unfold laws_eqInt64S.f
 repeat' first | (with_reducible first | exact ih0 _ _ _ | exact LeO.refl _ | exact LeO.none _ | refine LeO.ite ?_ ?_ | refine LeO.bind ?_ (fun _ => ?_)) | exact ih0 _ _ _ | exact LeO.none _ | refine LeO.ite ?_ ?_ | refine LeO.bind ?_ (fun _ => ?_)
set_option maxHeartbeats 8000000 in
set_option maxRecDepth 100000 in
theorem laws_eqInt64S.calls (k : Nat) (A0 : Option Addr) (c0 : Nat) (l0 : List Int) (A1 : Option Addr) (c1 : Nat) (l1 : List Int) (r : Bool) (w : World) (hr0 : Kd.C (Kd.int .i64) w A0 l0.length l0) (hc0 : l0.length ≤ c0) (hr1 : Kd.C (Kd.int .i64) w A1 l1.length l1) (hc1 : l1.length ≤ c1) (h : laws_eqInt64S.f k l0 l1 = some r) :
  Calls Try.prog 18 #[.slice A0 l0.length c0, .slice A1 l1.length c1] w fun e w' => e = .returned (.bool r) ∧ Drawn0 w w' := by
 have HR0 := ak hr0; have HC0 := ak hc0; clear hr0 hc0; have HR1 := ak hr1; have HC1 := ak hc1; clear hr1 hc1; unfold laws_eqInt64S.f at h; have H := h; clear h; by_cases c3 : (l0.length : Int) = (l1.length : Int)
 ·rw [if_pos c3] at H; obtain ⟨c3b0, c3b1⟩ := bqt c3; have c3b2 : (l0.length == l1.length) = true := by first | simpa using c3 | (simp at c3 ⊢; omega)
  clear c3; have H' := ak H; clear H; go_enter Try.func18, Try.ntmps18; go_wp2
  repeat (go_quiet (fail); try go_wp2)
  go_loopg [5] k (fun kq v5 w' => ∃ (x5_1 : Int), v5 = .int .i64 x5_1 ∧ Aside0 (laws_eqInt64S.l0 kq l0 l1 x5_1 = some r) ∧ Aside0 (kq ≤ k) ∧ Drawn0 w w')
  case atStart => exact ⟨(0), (by first | rfl | (simp; done) | (simp [*]; done)), H', ⟨Nat.le_refl _⟩, by repeat (first | exact Drawn0.refl _ | apply Drawn0.step)⟩
  case round =>
   clear H'; (try clear c1); (try clear p2); (try clear c3); (try clear c3b0); (try clear c3b1); (try clear c3b2); obtain ⟨x5_1, rfl, HA, HK1, ⟨m1, rfl⟩⟩ := hrel
   cases gk with
   | zero => exact absurd HA.out (by simp [laws_eqInt64S.l0])
   | succ k1 =>
    have H := HA.out; clear HA; simp only [laws_eqInt64S.l0] at H
    by_cases c4 : x5_1 < (l0.length : Int)
    ·rw [if_pos c4] at H; have c4b0 := decide_eq_true c4; clear c4; by_cases c5 : 0 ≤ x5_1
     ·rw [if_pos c5] at H; have c5b0 := decide_eq_true c5; clear c5; by_cases c6 : x5_1 < (l1.length : Int)
      ·rw [if_pos c6] at H; have c6b0 := decide_eq_true c6; clear c6; by_cases c7 : (rd l0 x5_1) = (rd l1 x5_1)
       ·rw [if_pos c7] at H; obtain ⟨c7b0, c7b1⟩ := bqt c7; clear c7; have H' := ak H; clear H; have p248 : 0 ≤ (x5_1 : Int) := od; have q248 : x5_1 < (l0.length : Int) := od; obtain ⟨ad248, e248, hx248_0⟩ := Kd.at_int HR0.out x5_1 p248 q248
        cases e248; replace p248 := eq_true p248; replace q248 := eq_true q248; have p249 : 0 ≤ (x5_1 : Int) := od; have q249 : x5_1 < (l1.length : Int) := od; obtain ⟨ad249, e249, hx249_0⟩ := Kd.at_int HR1.out x5_1 p249 q249
        cases e249; replace p249 := eq_true p249; replace q249 := eq_true q249; go_wp2
        repeat (go_quiet (fail); try go_wp2)
        go_roundg k1
        case measure => have := HK1.out; omega
        case rel => exact ⟨(wrap64 (x5_1 + 1)), (by first | rfl | (simp; done) | (simp [*]; done)), H', ⟨by have := HK1.out; omega⟩, by repeat (first | exact Drawn0.refl _ | apply Drawn0.step)⟩
       ·rw [if_neg c7] at H; obtain ⟨c7b0, c7b1⟩ := bqf c7; obtain rfl := Option.some.inj H; have p248 : 0 ≤ (x5_1 : Int) := od; have q248 : x5_1 < (l0.length : Int) := od; obtain ⟨ad248, e248, hx248_0⟩ := Kd.at_int HR0.out x5_1 p248 q248
        cases e248; replace p248 := eq_true p248; replace q248 := eq_true q248; have p249 : 0 ≤ (x5_1 : Int) := od; have q249 : x5_1 < (l1.length : Int) := od; obtain ⟨ad249, e249, hx249_0⟩ := Kd.at_int HR1.out x5_1 p249 q249
        cases e249; replace p249 := eq_true p249; replace q249 := eq_true q249; go_wp2
        repeat (go_quiet (fail); try go_wp2)
        go_ret
        exact ⟨by first | rfl | (simp; done) | (simp [*]; done), by repeat (first | exact Drawn0.refl _ | apply Drawn0.step)⟩
      ·rw [if_neg c6] at H; exact absurd H (by simp)
     ·rw [if_neg c5] at H; exact absurd H (by simp)
    ·rw [if_neg c4] at H; have c4b0 := decide_eq_false c4; clear c4; obtain rfl := Option.some.inj H; go_wp2
     repeat (go_quiet (fail); try go_wp2)
     go_ret
     exact ⟨by first | rfl | (simp; done) | (simp [*]; done), by repeat (first | exact Drawn0.refl _ | apply Drawn0.step)⟩
 ·rw [if_neg c3] at H; obtain ⟨c3b0, c3b1⟩ := bqf c3; have c3b2 : (l0.length == l1.length) = false := by first | simpa using c3 | (simp at c3 ⊢; omega)
  obtain rfl := Option.some.inj H; go_enter Try.func18, Try.ntmps18; go_wp2
  repeat (go_quiet (fail); try go_wp2)
  go_ret
  exact ⟨by first | rfl | (simp; done) | (simp [*]; done), by repeat (first | exact Drawn0.refl _ | apply Drawn0.step)⟩


/-! ### laws_intactInt64S: function 66 -/
def laws_intactInt64S.f (k : Nat) (l0 : List Int) (l1 : List Int) : Option Bool := if l0.length = l1.length then laws_eqInt64S.f k (full l0) (full l1) else none
theorem laws_intactInt64S.mono : ∀ a0 a1 k, LeO (laws_intactInt64S.f k a0 a1) (laws_intactInt64S.f (k + 1) a0 a1) := by
 intro a0 a1 k; unfold laws_intactInt64S.f
 exact LeO.ite (laws_eqInt64S.mono _ _ _) (LeO.none _)
set_option maxHeartbeats 1000000 in
set_option maxRecDepth 100000 in
theorem laws_intactInt64S.calls (k : Nat) (A0 : Option Addr) (c0 : Nat) (l0 : List Int) (A1 : Option Addr) (c1 : Nat) (l1 : List Int) (r : Bool) (w : World) (hr0 : Kd.C (Kd.int .i64) w A0 (full l0).length (full l0)) (hc0 : (full l0).length ≤ c0) (hr1 : Kd.C (Kd.int .i64) w A1 (full l1).length (full l1)) (hc1 : (full l1).length ≤ c1) (h : laws_intactInt64S.f k l0 l1 = some r) :
  Calls Try.prog 66 #[.slice A0 l0.length c0, .slice A1 l1.length c1] w fun e w' => e = .returned (.bool r) ∧ Drawn0 w w' := by
 unfold laws_intactInt64S.f at h
 by_cases he : l0.length = l1.length
 rotate_left
 ·rw [if_neg he] at h; exact absurd h (by simp)
 rw [if_pos he] at h; have hm1 : (full l1).length ≤ 9223372036854775807 := hr1.2.1; have ef0 : (full l0).length = (full l1).length := by rw [full_length, full_length, he]
 have hk : ((l1.length : Int) + (roomN l1.length : Int)) = ((full l1).length : Int) := by rw [full_length]; omega
 obtain ⟨i0, hi0, _, _, _⟩ := info_parts info2; have hq0 := cut_cap (P := Try.prog) 23 2 .i64 Try.underlying23 hi0 A0 l0.length c0 ((full l1).length : Int) (by omega) (by omega); have hq1 := cut_cap (P := Try.prog) 23 2 .i64 Try.underlying23 hi0 A1 l1.length c1 ((full l1).length : Int) (by omega) (by omega); have hw : IntKind.i64.wrap ((l1.length : Int) + (roomN l1.length : Int)) = ((full l1).length : Int) := by rw [hk]; exact IntWalk.i64_in _ (by omega)
 have heq : ((l0.length : Int) == (l1.length : Int)) = true := by rw [he]; simp
 have heq2 : (l0.length == l1.length) = true := by rw [he]; simp
 rw [Int.toNat_natCast] at hq0 hq1; have HE := ak ef0; clear hk ef0 he hi0; go_enter Try.func66, Try.ntmps66; go_wp2_with fail
 refine (laws_roomBehind.calls _ _ _ (room_f _)).mono ?_; rintro e w' ⟨rfl, ⟨nd, rfl⟩⟩; go_wp2_with fail
 go_still_tail 12, (by kernel_rfl)
 change wpList _ _ _ _ _ ((w.drewN nd).drew)
 have hE := laws_eqInt64S.calls k A0 c0 (full l0) A1 c1 (full l1) r ((w.drewN nd).drew) (Kd.C_drew (Kd.C_drewN hr0 nd)) hc0 (Kd.C_drew (Kd.C_drewN hr1 nd)) hc1 h; rw [HE.out] at hE; have HH := Lib.hid hE; clear hE; go_wp2_with fail
 refine HH.out.mono ?_; rintro e w' ⟨rfl, ⟨nq, rfl⟩⟩; go_wp2_with fail
 go_ret
 exact ⟨rfl, by repeat (first | exact Drawn0.refl _ | apply Drawn0.step)⟩

end Go.Proofs.Ytnfmfebmjlglgaa.Pall
