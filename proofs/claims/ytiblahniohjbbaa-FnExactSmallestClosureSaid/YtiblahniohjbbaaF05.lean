/- Go functions of the program, each as a Lean function, and the proof that each call comes to what the Lean function tells; no condition beyond those that stand there. -/
import Derived.Test.YtiblahniohjbbaaF00
import Derived.Test.YtiblahniohjbbaaSq
import Derived.Test.YtiblahniohjbbaaWGuard
import Derived.Test.YtiblahniohjbbaaWLast
import Derived.Test.YtiblahniohjbbaaWMore
import Derived.Test.YtiblahniohjbbaaWTab
import Derived.Test.YtiblahniohjbbaaSpare
import Derived.Test.YtiblahniohjbbaaCm
import Derived.Test.YtiblahniohjbbaaCm3
import Derived.Test.YtiblahniohjbbaaCm6
namespace Go.Proofs.Ytiblahniohjbbaa.Pall
open Go.RowKit Go.Proofs.YtiblahniohjbbaaW.PrintWords Go.Proofs.YtiblahniohjbbaaW.PrintLast Go.Proofs.YtiblahniohjbbaaW.PrintMore
attribute [local go_sem] max2_int min2_int max_two min_two max_three min_three max_four min_four
set_option linter.unusedVariables false
set_option linter.unusedSimpArgs false

/-! ### impl_within: function 97 -/
def impl_within.f (a0 : Int) (a1 : Int) (a2 : Int) : Option (Bool) := if a1 ≤ a0 then (some (decide (a0 ≤ a2))) else (some false)
set_option maxHeartbeats 8000000 in
set_option maxRecDepth 100000 in
theorem impl_within.calls (a0 : Int) (a1 : Int) (a2 : Int) (r : Bool) (w : World) (h : impl_within.f a0 a1 a2 = some r) :
  Calls Try.prog 97 #[.int .i64 a0, .int .i64 a1, .int .i64 a2] w fun e w' => e = .returned (.bool r) ∧ Drawn0 w w' := by
 unfold impl_within.f at h; have H := h; clear h; by_cases c4 : a1 ≤ a0
 rw [if_pos c4] at H; have c4b0 := decide_eq_true c4; clear c4; obtain rfl := sj H; rotate_left
 rw [if_neg c4] at H; have c4b0 := decide_eq_false c4; clear c4; obtain rfl := sj H; rotate_left
 all_goals
  go_enter Try.func97, Try.ntmps97; go_wp2
  go_ret
  exact ⟨by first | rfl | (simp; done) | (simp [*]; done), by repeat (first | exact Drawn0.refl _ | apply Drawn0.step)⟩


/-! ### impl_isKind: function 111 -/
def impl_isKind.f (a0 : Int) : Option (Bool) := (impl_within.f a0 0 3).bind fun t460 => (some t460)
set_option maxHeartbeats 8000000 in
set_option maxRecDepth 100000 in
theorem impl_isKind.calls (a0 : Int) (r : Bool) (w : World) (h : impl_isKind.f a0 = some r) :
  Calls Try.prog 111 #[.int .i64 a0] w fun e w' => e = .returned (.bool r) ∧ Drawn0 w w' := by
 unfold impl_isKind.f at h; have H := h; clear h; obtain ⟨t460, A2, H⟩ := bnk H; obtain rfl := sj H; go_enter Try.func111, Try.ntmps111; go_wp2_with (first | ((with_reducible refine at_fn (f := 97) rfl ?_); refine gl (some 4) Try.func97 #[.int .i64 a0, .int .i64 0, .int .i64 3] ?_; (with_reducible refine (impl_within.calls a0 0 3 t460 _ A2.out).mono ?_); rintro e w' ⟨rfl, ⟨nd, rfl⟩⟩; refine ⟨_, rfl, ?_⟩))
 go_ret
 exact ⟨by first | rfl | (simp; done) | (simp [*]; done), by repeat (first | exact Drawn0.refl _ | apply Drawn0.step)⟩


/-! ### impl_isCalibre: function 112 -/
def impl_isCalibre.f (a0 : Int) : Option (Bool) := (impl_within.f a0 20 300).bind fun t461 => (some t461)
set_option maxHeartbeats 8000000 in
set_option maxRecDepth 100000 in
theorem impl_isCalibre.calls (a0 : Int) (r : Bool) (w : World) (h : impl_isCalibre.f a0 = some r) :
  Calls Try.prog 112 #[.int .i64 a0] w fun e w' => e = .returned (.bool r) ∧ Drawn0 w w' := by
 unfold impl_isCalibre.f at h; have H := h; clear h; obtain ⟨t461, A2, H⟩ := bnk H; obtain rfl := sj H; go_enter Try.func112, Try.ntmps112; go_wp2_with (first | ((with_reducible refine at_fn (f := 97) rfl ?_); refine gl (some 4) Try.func97 #[.int .i64 a0, .int .i64 20, .int .i64 300] ?_; (with_reducible refine (impl_within.calls a0 20 300 t461 _ A2.out).mono ?_); rintro e w' ⟨rfl, ⟨nd, rfl⟩⟩; refine ⟨_, rfl, ?_⟩))
 go_ret
 exact ⟨by first | rfl | (simp; done) | (simp [*]; done), by repeat (first | exact Drawn0.refl _ | apply Drawn0.step)⟩


/-! ### impl_IsTable: function 94 -/
mutual
def impl_IsTable.l0 : Nat → List (S91) → List (S91) → Int → Int → Option (Bool)
 | 0, _, _, _, _ => none
 | k + 1, x0, x9, x10, x11 => if x11 < x10 then (if 0 ≤ x11 then (if x11 < (x9.length : Int) then ((impl_isKind.f ((rd_T91 x9 x11).f0)).bind fun t464 => (if t464 = true then ((impl_isCalibre.f ((rd_T91 x9 x11).f1)).bind fun t465 => (if t465 = true then ((impl_within.f ((rd_T91 x9 x11).f2) 0 10000).bind fun t466 => (impl_IsTable.j1 k x0 x11 x9 x10 x11 (!t466) ((rd_T91 x9 x11).f0) ((rd_T91 x9 x11).f1) ((rd_T91 x9 x11).f2))) else (impl_IsTable.j1 k x0 x11 x9 x10 x11 true ((rd_T91 x9 x11).f0) ((rd_T91 x9 x11).f1) ((rd_T91 x9 x11).f2)))) else (impl_IsTable.j1 k x0 x11 x9 x10 x11 true ((rd_T91 x9 x11).f0) ((rd_T91 x9 x11).f1) ((rd_T91 x9 x11).f2)))) else (none)) else (none)) else (some true)
def impl_IsTable.j1 : Nat → List (S91) → Int → List (S91) → Int → Int → Bool → Int → Int → Int → Option (Bool)
 | 0, _, _, _, _, _, _, _, _, _ => none
 | k + 1, x0, x3, x9, x10, x11, x31, x464000, x464001, x464002 => if x31 = true then (some false) else (if x3 = 0 then (impl_IsTable.l0 k x0 x9 x10 (wrap64 (x11 + 1))) else (if 0 ≤ (wrap64 (x3 - 1)) then (if (wrap64 (x3 - 1)) < (x0.length : Int) then (if ((rd_T91 x0 (wrap64 (x3 - 1))).f0) > x464000 then (some false) else (if ((rd_T91 x0 (wrap64 (x3 - 1))).f0) = x464000 then (if ((rd_T91 x0 (wrap64 (x3 - 1))).f1) ≥ x464001 then (some false) else (if ((rd_T91 x0 (wrap64 (x3 - 1))).f2) > x464002 then (some false) else (impl_IsTable.l0 k x0 x9 x10 (wrap64 (x11 + 1))))) else (impl_IsTable.l0 k x0 x9 x10 (wrap64 (x11 + 1))))) else (none)) else (none)))
end
def impl_IsTable.f (k : Nat) (l0 : List (S91)) : Option (Bool) := if (l0.length : Int) > 12 then (some false) else (impl_IsTable.l0 k l0 l0 (l0.length : Int) 0)
theorem impl_IsTable.mono_l : ∀ k, (∀ y0 y1 y2 y3, LeO (impl_IsTable.l0 k y0 y1 y2 y3) (impl_IsTable.l0 (k + 1) y0 y1 y2 y3)) ∧ (∀ y0 y1 y2 y3 y4 y5 y6 y7 y8, LeO (impl_IsTable.j1 k y0 y1 y2 y3 y4 y5 y6 y7 y8) (impl_IsTable.j1 (k + 1) y0 y1 y2 y3 y4 y5 y6 y7 y8))
 | 0 => ⟨fun _ _ _ _ r h => by simp [impl_IsTable.l0] at h, fun _ _ _ _ _ _ _ _ _ r h => by simp [impl_IsTable.j1] at h⟩
 | k + 1 => by
  obtain ⟨ih0, ih1⟩ := impl_IsTable.mono_l k; refine ⟨?_, ?_⟩
  ·intro y0 y1 y2 y3; unfold impl_IsTable.l0
   repeat' (with_reducible first | exact ih0 .. | exact ih1 .. | exact LeO.refl .. | exact LeO.none .. | refine LeO.ite ?_ ?_ | refine LeO.bind ?_ (fun _ => ?_))
  ·intro y0 y1 y2 y3 y4 y5 y6 y7 y8; unfold impl_IsTable.j1
   repeat' (with_reducible first | exact ih0 .. | exact ih1 .. | exact LeO.refl .. | exact LeO.none .. | refine LeO.ite ?_ ?_ | refine LeO.bind ?_ (fun _ => ?_))
theorem impl_IsTable.mono : ∀ a0 k, LeO (impl_IsTable.f k a0) (impl_IsTable.f (k + 1) a0) := by
 intro a0 k; obtain ⟨ih0, ih1⟩ := impl_IsTable.mono_l k; unfold impl_IsTable.f
 repeat' (with_reducible first | exact ih0 .. | exact ih1 .. | exact LeO.refl .. | exact LeO.none .. | refine LeO.ite ?_ ?_ | refine LeO.bind ?_ (fun _ => ?_))
set_option maxHeartbeats 8000000 in
set_option maxRecDepth 100000 in
theorem impl_IsTable.calls (k : Nat) (A0 : Option Addr) (c0 : Nat) (l0 : List (S91)) (r : Bool) (w : World) (hr0 : Kd.C k91 w A0 l0.length l0) (hc0 : l0.length ≤ c0) (h : impl_IsTable.f k l0 = some r) :
  Calls Try.prog 94 #[.slice A0 l0.length c0] w fun e w' => e = .returned (.bool r) ∧ Below w.heap.size w w' := by
 have hu91 := Try.underlying91; have HR0 := ak hr0; have HC0 := ak hc0; clear hr0 hc0; have HB := ak (Below.refl w.heap.size w); unfold impl_IsTable.f at h; have H := h; clear h; by_cases c2 : (l0.length : Int) > 12
 ·rw [if_pos c2] at H; have c2b0 := decide_eq_true c2; have c2b1 : decide (12 < l0.length) = true := decide_eq_true (by omega); clear c2; obtain rfl := sj H; go_enter Try.func94, Try.ntmps94; go_wp2
  go_ret
  exact ⟨ew, vb HB.out⟩
 ·rw [if_neg c2] at H; have c2b0 := decide_eq_false c2; have c2b1 : decide (12 < l0.length) = false := decide_eq_false (by omega); clear c2; have H' := ak H; clear H; go_enter Try.func94, Try.ntmps94; go_wp2
  go_loopg [11] k (fun kq v11 w' => ∃ (x11_1 : Int), v11 = .int .i64 x11_1 ∧ Aside0 (impl_IsTable.l0 kq l0 l0 (l0.length : Int) x11_1 = some r) ∧ Aside0 (kq ≤ k) ∧ Aside0 (Below w.heap.size w w'))
  case atStart => exact ⟨(0), es, H', ⟨Nat.le_refl _⟩, ⟨vb HB.out⟩⟩
  case round =>
   clear H'; (try clear c2); (try clear c2b0); (try clear c2b1); (try clear p2); obtain ⟨x11_1, rfl, HA, HK1, HB⟩ := hrel
   cases gk with
   | zero => exact absurd HA.out (by simp [impl_IsTable.l0])
   | succ k1 =>
    have H := HA.out; clear HA; simp only [impl_IsTable.l0] at H
    by_cases c3 : x11_1 < (l0.length : Int)
    ·rw [if_pos c3] at H; have c3b0 := decide_eq_true c3; clear c3; by_cases c4 : 0 ≤ x11_1
     ·rw [if_pos c4] at H; have c4b0 := decide_eq_true c4; clear c4; by_cases c5 : x11_1 < (l0.length : Int)
      ·rw [if_pos c5] at H; have c5b0 := decide_eq_true c5; clear c5; have HC6 := ak H; clear H; have p462 : 0 ≤ (x11_1 : Int) := od; have q462 : x11_1 < (l0.length : Int) := od; obtain ⟨ad462, e462, hx462_0, hx462_1, hx462_2⟩ := at_T91 HR0.out x11_1 p462 q462
       cases e462; replace hx462_0 := cb HB.out hx462_0; replace hx462_1 := cb HB.out hx462_1; replace hx462_2 := cb HB.out hx462_2; replace p462 := eq_true p462; replace q462 := eq_true q462; go_upto_region 6 with (first | ((with_reducible refine gate_dst (N := 4) rfl ?_); refine bx 4 #[.int .i64 0, .int .i64 0, .int .i64 0] 91 ?_; intro gb463 hg w7 hbox hb; have BK463 := ak hbox; have GW463 := gw hg HB; have GE463 := gw hg HB; replace HB := bs HB hb; clear hb hbox hg; have hcz8 := cz3 BK463.out))
       (try simp only [Act.put, List.setIfInBounds_toArray, List.set_cons_zero, List.set_cons_succ])
       go_cut [31] (fun v31 wc => ∃ (kq : Nat) (x31_5 : Bool), v31 = .bool x31_5 ∧ Aside0 (impl_IsTable.j1 kq l0 x11_1 l0 (l0.length : Int) x11_1 x31_5 ((rd_T91 l0 x11_1).f0) ((rd_T91 l0 x11_1).f1) ((rd_T91 l0 x11_1).f2) = some r) ∧ Aside0 (kq ≤ k1) ∧ Aside0 (wc.heap[gb463]? = some (.cells #[.int .i64 ((rd_T91 l0 x11_1).f0), .int .i64 ((rd_T91 l0 x11_1).f1), .int .i64 ((rd_T91 l0 x11_1).f2)] 91 (0, 0))) ∧ Aside0 (Below w.heap.size w wc))
       case first =>
        have H := HC6.out; clear HC6; obtain ⟨t464, A9, H⟩ := bnk H; by_cases c10 : t464 = true
        ·subst c10; rw [if_pos rfl] at H; obtain ⟨t465, A11, H⟩ := bnk H; by_cases c12 : t465 = true
         ·subst c12; rw [if_pos rfl] at H; obtain ⟨t466, A13, H⟩ := bnk H; have H' := ak H; clear H; have hcz14 := cz3 BK463.out; go_wp2_with (first | ((with_reducible refine at_fn (f := 111) rfl ?_); refine gl (some 18) Try.func111 #[.int .i64 ((rd_T91 l0 x11_1).f0)] ?_; (with_reducible refine (impl_isKind.calls ((rd_T91 l0 x11_1).f0) _ _ A9.out).mono ?_); rintro e w' ⟨rfl, ⟨nd, rfl⟩⟩; refine ⟨_, rfl, ?_⟩) | (go_at_call 112; (with_reducible refine (impl_isCalibre.calls ((rd_T91 l0 x11_1).f1) _ _ A11.out).mono ?_); rintro e w' ⟨rfl, ⟨nd, rfl⟩⟩) | (go_at_call 97; (with_reducible refine (impl_within.calls ((rd_T91 l0 x11_1).f2) 0 10000 t466 _ A13.out).mono ?_); rintro e w' ⟨rfl, ⟨nd, rfl⟩⟩))
          go_meet
          case rel => exact ⟨_, (!t466), es, H', ⟨by have := HK1.out; first | omega | exact Nat.le_refl _⟩, ⟨by (with_reducible repeat (first | refine blk_drewN ?_ _ | refine blk_drew ?_ | refine blk_alloc ?_ _)); refine blk_put (cs := #[.int .i64 ((rd_T91 l0 x11_1).f0), .int .i64 ((rd_T91 l0 x11_1).f1), .int .i64 0]) ?_ 2 _ rfl; (with_reducible repeat (first | refine blk_drewN ?_ _ | refine blk_drew ?_ | refine blk_alloc ?_ _)); refine blk_put (cs := #[.int .i64 ((rd_T91 l0 x11_1).f0), .int .i64 0, .int .i64 0]) ?_ 1 _ rfl; (with_reducible repeat (first | refine blk_drewN ?_ _ | refine blk_drew ?_ | refine blk_alloc ?_ _)); refine blk_put (cs := #[.int .i64 0, .int .i64 0, .int .i64 0]) ?_ 0 _ rfl; exact vk BK463.out⟩, ⟨vb HB.out⟩⟩
         ·replace c12 := Bool.eq_false_iff.mpr c12; subst c12; rw [if_neg nf] at H; have H' := ak H; clear H; have hcz15 := cz3 BK463.out; go_wp2_with (first | ((with_reducible refine at_fn (f := 111) rfl ?_); refine gl (some 18) Try.func111 #[.int .i64 ((rd_T91 l0 x11_1).f0)] ?_; (with_reducible refine (impl_isKind.calls ((rd_T91 l0 x11_1).f0) _ _ A9.out).mono ?_); rintro e w' ⟨rfl, ⟨nd, rfl⟩⟩; refine ⟨_, rfl, ?_⟩) | (go_at_call 112; (with_reducible refine (impl_isCalibre.calls ((rd_T91 l0 x11_1).f1) _ _ A11.out).mono ?_); rintro e w' ⟨rfl, ⟨nd, rfl⟩⟩))
          go_meet
          case rel => exact ⟨_, (true), es, H', ⟨by have := HK1.out; first | omega | exact Nat.le_refl _⟩, ⟨by (with_reducible repeat (first | refine blk_drewN ?_ _ | refine blk_drew ?_ | refine blk_alloc ?_ _)); refine blk_put (cs := #[.int .i64 ((rd_T91 l0 x11_1).f0), .int .i64 ((rd_T91 l0 x11_1).f1), .int .i64 0]) ?_ 2 _ rfl; (with_reducible repeat (first | refine blk_drewN ?_ _ | refine blk_drew ?_ | refine blk_alloc ?_ _)); refine blk_put (cs := #[.int .i64 ((rd_T91 l0 x11_1).f0), .int .i64 0, .int .i64 0]) ?_ 1 _ rfl; (with_reducible repeat (first | refine blk_drewN ?_ _ | refine blk_drew ?_ | refine blk_alloc ?_ _)); refine blk_put (cs := #[.int .i64 0, .int .i64 0, .int .i64 0]) ?_ 0 _ rfl; exact vk BK463.out⟩, ⟨vb HB.out⟩⟩
        ·replace c10 := Bool.eq_false_iff.mpr c10; subst c10; rw [if_neg nf] at H; have H' := ak H; clear H; have hcz16 := cz3 BK463.out; go_wp2_with (first | ((with_reducible refine at_fn (f := 111) rfl ?_); refine gl (some 18) Try.func111 #[.int .i64 ((rd_T91 l0 x11_1).f0)] ?_; (with_reducible refine (impl_isKind.calls ((rd_T91 l0 x11_1).f0) _ _ A9.out).mono ?_); rintro e w' ⟨rfl, ⟨nd, rfl⟩⟩; refine ⟨_, rfl, ?_⟩))
         go_meet
         case rel => exact ⟨_, (true), es, H', ⟨by have := HK1.out; first | omega | exact Nat.le_refl _⟩, ⟨by (with_reducible repeat (first | refine blk_drewN ?_ _ | refine blk_drew ?_ | refine blk_alloc ?_ _)); refine blk_put (cs := #[.int .i64 ((rd_T91 l0 x11_1).f0), .int .i64 ((rd_T91 l0 x11_1).f1), .int .i64 0]) ?_ 2 _ rfl; (with_reducible repeat (first | refine blk_drewN ?_ _ | refine blk_drew ?_ | refine blk_alloc ?_ _)); refine blk_put (cs := #[.int .i64 ((rd_T91 l0 x11_1).f0), .int .i64 0, .int .i64 0]) ?_ 1 _ rfl; (with_reducible repeat (first | refine blk_drewN ?_ _ | refine blk_drew ?_ | refine blk_alloc ?_ _)); refine blk_put (cs := #[.int .i64 0, .int .i64 0, .int .i64 0]) ?_ 0 _ rfl; exact vk BK463.out⟩, ⟨vb HB.out⟩⟩
       case rest =>
        clear HC6; (try clear c1); (try clear c2); (try clear c2b0); (try clear c2b1); (try clear p2); (try clear c3); (try clear c3b0); (try clear c4); (try clear c4b0); (try clear p4); (try clear q4); (try clear hx4); (try clear c5); (try clear c5b0); (try clear c9); (try clear c10); (try clear c11); (try clear c12); (try clear hcz14); (try clear hcz15); (try clear hcz16); (try clear hcz8); (try clear hx462_0); (try clear hx462_1); (try clear hx462_2); (try clear p2); (try clear p462); (try clear q462); obtain ⟨kq, x31_5, rfl, HA, HJ5, BK463, HB⟩ := hcut
        cases kq with
        | zero => exact absurd HA.out (by simp [impl_IsTable.j1])
        | succ kj5 =>
         have H := HA.out; clear HA; simp only [impl_IsTable.j1] at H
         by_cases c17 : x31_5 = true
         ·subst c17; rw [if_pos rfl] at H; obtain rfl := sj H; go_wp2
          go_ret
          exact ⟨ew, vb HB.out⟩
         ·replace c17 := Bool.eq_false_iff.mpr c17; subst c17; rw [if_neg nf] at H; by_cases c18 : x11_1 = 0
          ·rw [if_pos c18] at H; obtain ⟨c18b0, c18b1⟩ := bqt c18; clear c18; have H' := ak H; clear H; go_wp2
           go_roundg kj5
           case measure => have := HK1.out; have := HJ5.out; omega
           case rel => exact ⟨(wrap64 (x11_1 + 1)), es, H', ⟨by have := HK1.out; have := HJ5.out; omega⟩, ⟨vb HB.out⟩⟩
          ·rw [if_neg c18] at H; obtain ⟨c18b0, c18b1⟩ := bqf c18; obtain ⟨ji19, hji19⟩ : ∃ j_ : Int, (wrap64 (x11_1 - 1)) = j_ := ⟨_, rfl⟩; replace H : (if 0 ≤ (ji19) then (if (ji19) < (l0.length : Int) then (if ((rd_T91 l0 (ji19)).f0) > ((rd_T91 l0 x11_1).f0) then (some false) else (if ((rd_T91 l0 (ji19)).f0) = ((rd_T91 l0 x11_1).f0) then (if ((rd_T91 l0 (ji19)).f1) ≥ ((rd_T91 l0 x11_1).f1) then (some false) else (if ((rd_T91 l0 (ji19)).f2) > ((rd_T91 l0 x11_1).f2) then (some false) else (impl_IsTable.l0 kj5 l0 l0 (l0.length : Int) (wrap64 (x11_1 + 1))))) else (impl_IsTable.l0 kj5 l0 l0 (l0.length : Int) (wrap64 (x11_1 + 1))))) else (none)) else (none)) = some r := by first | (rw [hji19] at H; exact H) | (simp only [hji19] at H ⊢; exact H)
           have hji19w : (IntKind.i64.wrap (x11_1 - 1)) = ji19 := (i64_w _).trans hji19; by_cases c20 : 0 ≤ (ji19)
           ·rw [if_pos c20] at H; have c20b0 := decide_eq_true c20; clear c20; by_cases c21 : (ji19) < (l0.length : Int)
            ·rw [if_pos c21] at H; have c21b0 := decide_eq_true c21; clear c21; by_cases c22 : ((rd_T91 l0 (ji19)).f0) > ((rd_T91 l0 x11_1).f0)
             ·rw [if_pos c22] at H; have c22b0 := decide_eq_true c22; clear c22; obtain rfl := sj H; have p467 : 0 ≤ ((ji19) : Int) := od; have q467 : (ji19) < (l0.length : Int) := od; obtain ⟨ad467, e467, hx467_0, hx467_1, hx467_2⟩ := at_T91 HR0.out (ji19) p467 q467; obtain rfl : ad462 = ad467 := (by injection e467); replace hx467_0 := cb HB.out hx467_0; replace hx467_1 := cb HB.out hx467_1; replace hx467_2 := cb HB.out hx467_2; replace p467 := eq_true p467; replace q467 := eq_true q467; go_wp2_with (first | ((with_reducible refine gate_dst (N := 5) rfl ?_); refine bx 5 #[.int .i64 0, .int .i64 0, .int .i64 0] 91 ?_; intro gb468 hg w23 hbox hb; have BK468 := ak hbox; have GW468 := gw hg HB; have GE468 := gw hg HB; replace HB := bs HB hb; have NB463_468 := ak ((by rw [hg]; exact Nat.ne_of_lt (blk_lt (vk BK463.out)) : gb463 ≠ gb468)); have NB468_463 := ak ((by rw [hg]; exact Nat.ne_of_gt (blk_lt (vk BK463.out)) : gb468 ≠ gb463)); replace BK463 := kb BK463 hb; clear hb hbox hg; have hnb24 := NB468_463.out; have hnc24 := NB463_468.out; have hcz25 := cz3 BK468.out; have hcz26 := cz3 BK463.out))
              go_ret
              exact ⟨by first | rfl | (simp [errW_none, errW_some] <;> rfl) | (simp only [← hji19]; first | rfl | (simp [errW_none, errW_some] <;> rfl)) | (simp [*, errW_none, errW_some] <;> rfl), vb HB.out⟩
             ·rw [if_neg c22] at H; have c22b0 := decide_eq_false c22; clear c22; by_cases c27 : ((rd_T91 l0 (ji19)).f0) = ((rd_T91 l0 x11_1).f0)
              ·rw [if_pos c27] at H; have c27b0 : (((rd_T91 l0 (ji19)).f0) == ((rd_T91 l0 x11_1).f0)) = true := beq_iff_eq.mpr c27; have c27b1 : (((rd_T91 l0 (ji19)).f0) != ((rd_T91 l0 x11_1).f0)) = false := bne_eq_false_iff_eq.mpr c27; clear c27; by_cases c28 : ((rd_T91 l0 (ji19)).f1) ≥ ((rd_T91 l0 x11_1).f1)
               ·rw [if_pos c28] at H; have c28b0 := decide_eq_true c28; clear c28; obtain rfl := sj H; have p467 : 0 ≤ ((ji19) : Int) := od; have q467 : (ji19) < (l0.length : Int) := od; obtain ⟨ad467, e467, hx467_0, hx467_1, hx467_2⟩ := at_T91 HR0.out (ji19) p467 q467; obtain rfl : ad462 = ad467 := (by injection e467); replace hx467_0 := cb HB.out hx467_0; replace hx467_1 := cb HB.out hx467_1; replace hx467_2 := cb HB.out hx467_2; replace p467 := eq_true p467; replace q467 := eq_true q467; go_wp2_with (first | ((with_reducible refine gate_dst (N := 5) rfl ?_); refine bx 5 #[.int .i64 0, .int .i64 0, .int .i64 0] 91 ?_; intro gb468 hg w29 hbox hb; have BK468 := ak hbox; have GW468 := gw hg HB; have GE468 := gw hg HB; replace HB := bs HB hb; have NB463_468 := ak ((by rw [hg]; exact Nat.ne_of_lt (blk_lt (vk BK463.out)) : gb463 ≠ gb468)); have NB468_463 := ak ((by rw [hg]; exact Nat.ne_of_gt (blk_lt (vk BK463.out)) : gb468 ≠ gb463)); replace BK463 := kb BK463 hb; clear hb hbox hg; have hnb30 := NB468_463.out; have hnc30 := NB463_468.out; have hcz31 := cz3 BK468.out; have hcz32 := cz3 BK463.out))
                go_ret
                exact ⟨by first | rfl | (simp [errW_none, errW_some] <;> rfl) | (simp only [← hji19]; first | rfl | (simp [errW_none, errW_some] <;> rfl)) | (simp [*, errW_none, errW_some] <;> rfl), vb HB.out⟩
               ·rw [if_neg c28] at H; have c28b0 := decide_eq_false c28; clear c28; by_cases c33 : ((rd_T91 l0 (ji19)).f2) > ((rd_T91 l0 x11_1).f2)
                ·rw [if_pos c33] at H; have c33b0 := decide_eq_true c33; clear c33; obtain rfl := sj H; have p467 : 0 ≤ ((ji19) : Int) := od; have q467 : (ji19) < (l0.length : Int) := od; obtain ⟨ad467, e467, hx467_0, hx467_1, hx467_2⟩ := at_T91 HR0.out (ji19) p467 q467; obtain rfl : ad462 = ad467 := (by injection e467); replace hx467_0 := cb HB.out hx467_0; replace hx467_1 := cb HB.out hx467_1; replace hx467_2 := cb HB.out hx467_2; replace p467 := eq_true p467; replace q467 := eq_true q467; go_wp2_with (first | ((with_reducible refine gate_dst (N := 5) rfl ?_); refine bx 5 #[.int .i64 0, .int .i64 0, .int .i64 0] 91 ?_; intro gb468 hg w34 hbox hb; have BK468 := ak hbox; have GW468 := gw hg HB; have GE468 := gw hg HB; replace HB := bs HB hb; have NB463_468 := ak ((by rw [hg]; exact Nat.ne_of_lt (blk_lt (vk BK463.out)) : gb463 ≠ gb468)); have NB468_463 := ak ((by rw [hg]; exact Nat.ne_of_gt (blk_lt (vk BK463.out)) : gb468 ≠ gb463)); replace BK463 := kb BK463 hb; clear hb hbox hg; have hnb35 := NB468_463.out; have hnc35 := NB463_468.out; have hcz36 := cz3 BK468.out; have hcz37 := cz3 BK463.out))
                 go_ret
                 exact ⟨by first | rfl | (simp [errW_none, errW_some] <;> rfl) | (simp only [← hji19]; first | rfl | (simp [errW_none, errW_some] <;> rfl)) | (simp [*, errW_none, errW_some] <;> rfl), vb HB.out⟩
                ·rw [if_neg c33] at H; have c33b0 := decide_eq_false c33; clear c33; have H' := ak H; clear H; have p467 : 0 ≤ ((ji19) : Int) := od; have q467 : (ji19) < (l0.length : Int) := od; obtain ⟨ad467, e467, hx467_0, hx467_1, hx467_2⟩ := at_T91 HR0.out (ji19) p467 q467; obtain rfl : ad462 = ad467 := (by injection e467); replace hx467_0 := cb HB.out hx467_0; replace hx467_1 := cb HB.out hx467_1; replace hx467_2 := cb HB.out hx467_2; replace p467 := eq_true p467; replace q467 := eq_true q467; go_wp2_with (first | ((with_reducible refine gate_dst (N := 5) rfl ?_); refine bx 5 #[.int .i64 0, .int .i64 0, .int .i64 0] 91 ?_; intro gb468 hg w38 hbox hb; have BK468 := ak hbox; have GW468 := gw hg HB; have GE468 := gw hg HB; replace HB := bs HB hb; have NB463_468 := ak ((by rw [hg]; exact Nat.ne_of_lt (blk_lt (vk BK463.out)) : gb463 ≠ gb468)); have NB468_463 := ak ((by rw [hg]; exact Nat.ne_of_gt (blk_lt (vk BK463.out)) : gb468 ≠ gb463)); replace BK463 := kb BK463 hb; clear hb hbox hg; have hnb39 := NB468_463.out; have hnc39 := NB463_468.out; have hcz40 := cz3 BK468.out; have hcz41 := cz3 BK463.out))
                 go_roundg kj5
                 case measure => have := HK1.out; have := HJ5.out; omega
                 case rel => exact ⟨(wrap64 (x11_1 + 1)), es, H', ⟨by have := HK1.out; have := HJ5.out; omega⟩, ⟨vb HB.out⟩⟩
              ·rw [if_neg c27] at H; have c27b0 : (((rd_T91 l0 (ji19)).f0) == ((rd_T91 l0 x11_1).f0)) = false := beq_eq_false_iff_ne.mpr c27; have c27b1 : (((rd_T91 l0 (ji19)).f0) != ((rd_T91 l0 x11_1).f0)) = true := bne_iff_ne.mpr c27; have H' := ak H; clear H; have p467 : 0 ≤ ((ji19) : Int) := od; have q467 : (ji19) < (l0.length : Int) := od; obtain ⟨ad467, e467, hx467_0, hx467_1, hx467_2⟩ := at_T91 HR0.out (ji19) p467 q467; obtain rfl : ad462 = ad467 := (by injection e467); replace hx467_0 := cb HB.out hx467_0; replace hx467_1 := cb HB.out hx467_1; replace hx467_2 := cb HB.out hx467_2; replace p467 := eq_true p467; replace q467 := eq_true q467; go_wp2_with (first | ((with_reducible refine gate_dst (N := 5) rfl ?_); refine bx 5 #[.int .i64 0, .int .i64 0, .int .i64 0] 91 ?_; intro gb468 hg w42 hbox hb; have BK468 := ak hbox; have GW468 := gw hg HB; have GE468 := gw hg HB; replace HB := bs HB hb; have NB463_468 := ak ((by rw [hg]; exact Nat.ne_of_lt (blk_lt (vk BK463.out)) : gb463 ≠ gb468)); have NB468_463 := ak ((by rw [hg]; exact Nat.ne_of_gt (blk_lt (vk BK463.out)) : gb468 ≠ gb463)); replace BK463 := kb BK463 hb; clear hb hbox hg; have hnb43 := NB468_463.out; have hnc43 := NB463_468.out; have hcz44 := cz3 BK468.out; have hcz45 := cz3 BK463.out))
               go_roundg kj5
               case measure => have := HK1.out; have := HJ5.out; omega
               case rel => exact ⟨(wrap64 (x11_1 + 1)), es, H', ⟨by have := HK1.out; have := HJ5.out; omega⟩, ⟨vb HB.out⟩⟩
            ·exact nO_ c21 H
           ·exact nO_ c20 H
      ·exact nO_ c5 H
     ·exact nO_ c4 H
    ·rw [if_neg c3] at H; have c3b0 := decide_eq_false c3; clear c3; obtain rfl := sj H; go_wp2
     go_ret
     exact ⟨ew, vb HB.out⟩


/-! ### impl_isPlace: function 120 -/
def impl_isPlace.f (a0 : Int) (a1 : Int) : Option (Bool) := (impl_within.f a0 0 100000).bind fun t469 => (if t469 = true then ((impl_within.f a1 0 100000).bind fun t470 => (some t470)) else (some false))
set_option maxHeartbeats 8000000 in
set_option maxRecDepth 100000 in
theorem impl_isPlace.calls (a0 : Int) (a1 : Int) (r : Bool) (w : World) (h : impl_isPlace.f a0 a1 = some r) :
  Calls Try.prog 120 #[.int .i64 a0, .int .i64 a1] w fun e w' => e = .returned (.bool r) ∧ Drawn0 w w' := by
 unfold impl_isPlace.f at h; have H := h; clear h; obtain ⟨t469, A3, H⟩ := bnk H; by_cases c4 : t469 = true
 subst c4; rw [if_pos rfl] at H; obtain ⟨t470, A5, H⟩ := bnk H; obtain rfl := sj H; rotate_left
 replace c4 := Bool.eq_false_iff.mpr c4; subst c4; rw [if_neg nf] at H; obtain rfl := sj H; rotate_left
 all_goals
  go_enter Try.func120, Try.ntmps120; go_wp2_with (first | ((with_reducible refine at_fn (f := 97) rfl ?_); refine gl (some 6) Try.func97 #[.int .i64 a0, .int .i64 0, .int .i64 100000] ?_; (with_reducible refine (impl_within.calls a0 0 100000 _ _ A3.out).mono ?_); rintro e w' ⟨rfl, ⟨nd, rfl⟩⟩; refine ⟨_, rfl, ?_⟩) | (go_at_call 97; (with_reducible refine (impl_within.calls a1 0 100000 t470 _ A5.out).mono ?_); rintro e w' ⟨rfl, ⟨nd, rfl⟩⟩))
  go_ret
  exact ⟨by first | rfl | (simp; done) | (simp [*]; done), by repeat (first | exact Drawn0.refl _ | apply Drawn0.step)⟩


/-! ### impl_IsArea: function 113 -/
def impl_IsArea.f (a0_0 : Int) (a0_1 : Int) (a0_2 : Int) (a0_3 : Int) (a0_4 : Int) : Option (Bool) := (impl_isKind.f a0_0).bind fun t472 => (if t472 = true then ((impl_isPlace.f a0_1 a0_2).bind fun t473 => (if t473 = true then ((impl_within.f a0_3 1 (wrap64 (100000 - a0_1))).bind fun t474 => (if t474 = true then ((impl_within.f a0_4 1 (wrap64 (100000 - a0_2))).bind fun t475 => (some t475)) else (some false))) else (some false))) else (some false))
set_option maxHeartbeats 8000000 in
set_option maxRecDepth 100000 in
theorem impl_IsArea.calls (a0_0 : Int) (a0_1 : Int) (a0_2 : Int) (a0_3 : Int) (a0_4 : Int) (r : Bool) (w : World) (h : impl_IsArea.f a0_0 a0_1 a0_2 a0_3 a0_4 = some r) :
  Calls Try.prog 113 #[.agg #[.int .i64 a0_0, .int .i64 a0_1, .int .i64 a0_2, .int .i64 a0_3, .int .i64 a0_4]] w fun e w' => e = .returned (.bool r) ∧ Below w.heap.size w w' := by
 have hu69 := Try.underlying69; have HB := ak (Below.refl w.heap.size w); unfold impl_IsArea.f at h; have H := h; clear h; obtain ⟨t472, A2, H⟩ := bnk H; by_cases c3 : t472 = true
 subst c3; rw [if_pos rfl] at H; obtain ⟨t473, A4, H⟩ := bnk H; by_cases c5 : t473 = true
 subst c5; rw [if_pos rfl] at H; obtain ⟨t474, A6, H⟩ := bnk H; by_cases c7 : t474 = true
 subst c7; rw [if_pos rfl] at H; obtain ⟨t475, A8, H⟩ := bnk H; obtain rfl := sj H; rotate_left
 replace c7 := Bool.eq_false_iff.mpr c7; subst c7; rw [if_neg nf] at H; obtain rfl := sj H; rotate_left
 replace c5 := Bool.eq_false_iff.mpr c5; subst c5; rw [if_neg nf] at H; obtain rfl := sj H; rotate_left
 replace c3 := Bool.eq_false_iff.mpr c3; subst c3; rw [if_neg nf] at H; obtain rfl := sj H; rotate_left
 all_goals
  go_enter Try.func113, Try.ntmps113; go_wp2_with (first | ((with_reducible refine gate_dst (N := 1) rfl ?_); refine bx 1 #[.int .i64 a0_0, .int .i64 a0_1, .int .i64 a0_2, .int .i64 a0_3, .int .i64 a0_4] 69 ?_; intro gb471 hg w9 hbox hb; have BK471 := ak hbox; have GW471 := gw hg HB; have GE471 := gw hg HB; replace HB := bs HB hb; clear hb hbox hg; have hcz9 := cz5 BK471.out) | ((with_reducible refine at_fn (f := 111) rfl ?_); refine gl (some 5) Try.func111 #[.int .i64 a0_0] ?_; (with_reducible refine (impl_isKind.calls a0_0 _ _ A2.out).mono ?_); rintro e w' ⟨rfl, ⟨nd, rfl⟩⟩; refine ⟨_, rfl, ?_⟩) | (go_at_call 120; (with_reducible refine (impl_isPlace.calls a0_1 a0_2 _ _ A4.out).mono ?_); rintro e w' ⟨rfl, ⟨nd, rfl⟩⟩) | (go_at_call 97; (with_reducible refine (impl_within.calls a0_3 1 (wrap64 (100000 - a0_1)) _ _ A6.out).mono ?_); rintro e w' ⟨rfl, ⟨nd, rfl⟩⟩) | (go_at_call 97; (with_reducible refine (impl_within.calls a0_4 1 (wrap64 (100000 - a0_2)) t475 _ A8.out).mono ?_); rintro e w' ⟨rfl, ⟨nd, rfl⟩⟩))
  go_ret
  exact ⟨ew, vb HB.out⟩


/-! ### impl_IsSite: function 95 -/
def impl_IsSite.l0 : Nat → List (S69) → Int → Int → Option (Bool)
 | 0, _, _, _ => none
 | k + 1, x8, x9, x10 => if x10 < x9 then (if 0 ≤ x10 then (if x10 < (x8.length : Int) then ((impl_IsArea.f ((rd_T69 x8 x10).f0) ((rd_T69 x8 x10).f1) ((rd_T69 x8 x10).f2) ((rd_T69 x8 x10).f3) ((rd_T69 x8 x10).f4)).bind fun t478 => (if t478 = true then (impl_IsSite.l0 k x8 x9 (wrap64 (x10 + 1))) else (some false))) else (none)) else (none)) else (some true)
def impl_IsSite.f (k : Nat) (l0 : List (S69)) : Option (Bool) := if (l0.length : Int) > 10 then (some false) else (impl_IsSite.l0 k l0 (l0.length : Int) 0)
theorem impl_IsSite.mono_l : ∀ k, (∀ y0 y1 y2, LeO (impl_IsSite.l0 k y0 y1 y2) (impl_IsSite.l0 (k + 1) y0 y1 y2))
 | 0 => fun _ _ _ r h => by simp [impl_IsSite.l0] at h
 | k + 1 => by
  have ih0 := impl_IsSite.mono_l k
  ·intro y0 y1 y2; unfold impl_IsSite.l0
   repeat' (with_reducible first | exact ih0 .. | exact LeO.refl .. | exact LeO.none .. | refine LeO.ite ?_ ?_ | refine LeO.bind ?_ (fun _ => ?_))
theorem impl_IsSite.mono : ∀ a0 k, LeO (impl_IsSite.f k a0) (impl_IsSite.f (k + 1) a0) := by
 intro a0 k; have ih0 := impl_IsSite.mono_l k; unfold impl_IsSite.f
 repeat' (with_reducible first | exact ih0 .. | exact LeO.refl .. | exact LeO.none .. | refine LeO.ite ?_ ?_ | refine LeO.bind ?_ (fun _ => ?_))
set_option maxHeartbeats 8000000 in
set_option maxRecDepth 100000 in
theorem impl_IsSite.calls (k : Nat) (A0 : Option Addr) (c0 : Nat) (l0 : List (S69)) (r : Bool) (w : World) (hr0 : Kd.C k69 w A0 l0.length l0) (hc0 : l0.length ≤ c0) (h : impl_IsSite.f k l0 = some r) :
  Calls Try.prog 95 #[.slice A0 l0.length c0] w fun e w' => e = .returned (.bool r) ∧ Below w.heap.size w w' := by
 have hu69 := Try.underlying69; have HR0 := ak hr0; have HC0 := ak hc0; clear hr0 hc0; have HB := ak (Below.refl w.heap.size w); unfold impl_IsSite.f at h; have H := h; clear h; by_cases c2 : (l0.length : Int) > 10
 ·rw [if_pos c2] at H; have c2b0 := decide_eq_true c2; have c2b1 : decide (10 < l0.length) = true := decide_eq_true (by omega); clear c2; obtain rfl := sj H; go_enter Try.func95, Try.ntmps95; go_wp2
  go_ret
  exact ⟨ew, vb HB.out⟩
 ·rw [if_neg c2] at H; have c2b0 := decide_eq_false c2; have c2b1 : decide (10 < l0.length) = false := decide_eq_false (by omega); clear c2; have H' := ak H; clear H; go_enter Try.func95, Try.ntmps95; go_wp2
  go_loopg [10] k (fun kq v10 w' => ∃ (x10_1 : Int), v10 = .int .i64 x10_1 ∧ Aside0 (impl_IsSite.l0 kq l0 (l0.length : Int) x10_1 = some r) ∧ Aside0 (kq ≤ k) ∧ Aside0 (Below w.heap.size w w'))
  case atStart => exact ⟨(0), es, H', ⟨Nat.le_refl _⟩, ⟨vb HB.out⟩⟩
  case round =>
   clear H'; (try clear c2); (try clear c2b0); (try clear c2b1); (try clear p2); obtain ⟨x10_1, rfl, HA, HK1, HB⟩ := hrel
   cases gk with
   | zero => exact absurd HA.out (by simp [impl_IsSite.l0])
   | succ k1 =>
    have H := HA.out; clear HA; simp only [impl_IsSite.l0] at H
    by_cases c3 : x10_1 < (l0.length : Int)
    ·rw [if_pos c3] at H; have c3b0 := decide_eq_true c3; clear c3; by_cases c4 : 0 ≤ x10_1
     ·rw [if_pos c4] at H; have c4b0 := decide_eq_true c4; clear c4; by_cases c5 : x10_1 < (l0.length : Int)
      ·rw [if_pos c5] at H; have c5b0 := decide_eq_true c5; clear c5; obtain ⟨t478, A6, H⟩ := bnk H; by_cases c7 : t478 = true
       ·subst c7; rw [if_pos rfl] at H; have H' := ak H; clear H; have p476 : 0 ≤ (x10_1 : Int) := od; have q476 : x10_1 < (l0.length : Int) := od; obtain ⟨ad476, e476, hx476_0, hx476_1, hx476_2, hx476_3, hx476_4⟩ := at_T69 HR0.out x10_1 p476 q476
        cases e476; replace hx476_0 := cb HB.out hx476_0; replace hx476_1 := cb HB.out hx476_1; replace hx476_2 := cb HB.out hx476_2; replace hx476_3 := cb HB.out hx476_3; replace hx476_4 := cb HB.out hx476_4; replace p476 := eq_true p476; replace q476 := eq_true q476; go_wp2_with (first | ((with_reducible refine gate_dst (N := 4) rfl ?_); refine bx 4 #[.int .i64 0, .int .i64 0, .int .i64 0, .int .i64 0, .int .i64 0] 69 ?_; intro gb477 hg w8 hbox hb; have BK477 := ak hbox; have GW477 := gw hg HB; have GE477 := gw hg HB; replace HB := bs HB hb; clear hb hbox hg; have hcz9 := cz5 BK477.out) | ((with_reducible refine at_fn (f := 113) rfl ?_); refine gl (some 15) Try.func113 #[.agg #[.int .i64 ((rd_T69 l0 x10_1).f0), .int .i64 ((rd_T69 l0 x10_1).f1), .int .i64 ((rd_T69 l0 x10_1).f2), .int .i64 ((rd_T69 l0 x10_1).f3), .int .i64 ((rd_T69 l0 x10_1).f4)]] ?_; (with_reducible refine (impl_IsArea.calls ((rd_T69 l0 x10_1).f0) ((rd_T69 l0 x10_1).f1) ((rd_T69 l0 x10_1).f2) ((rd_T69 l0 x10_1).f3) ((rd_T69 l0 x10_1).f4) _ _ A6.out).mono ?_); rintro e w10 ⟨rfl, hb⟩; refine ⟨_, rfl, ?_⟩; replace BK477 := ak (blk_below (g := gb477) (o := .cells #[.int .i64 ((rd_T69 l0 x10_1).f0), .int .i64 ((rd_T69 l0 x10_1).f1), .int .i64 ((rd_T69 l0 x10_1).f2), .int .i64 ((rd_T69 l0 x10_1).f3), .int .i64 ((rd_T69 l0 x10_1).f4)] 69 (0, 0)) (vz BK477.out) hb); replace HB := bs HB hb; (try clear hb); (try clear hb2); (try clear hk); (try clear hi)))
        go_roundg k1
        case measure => have := HK1.out; omega
        case rel => exact ⟨(wrap64 (x10_1 + 1)), es, H', ⟨by have := HK1.out; omega⟩, ⟨vb HB.out⟩⟩
       ·replace c7 := Bool.eq_false_iff.mpr c7; subst c7; rw [if_neg nf] at H; obtain rfl := sj H; have p476 : 0 ≤ (x10_1 : Int) := od; have q476 : x10_1 < (l0.length : Int) := od; obtain ⟨ad476, e476, hx476_0, hx476_1, hx476_2, hx476_3, hx476_4⟩ := at_T69 HR0.out x10_1 p476 q476
        cases e476; replace hx476_0 := cb HB.out hx476_0; replace hx476_1 := cb HB.out hx476_1; replace hx476_2 := cb HB.out hx476_2; replace hx476_3 := cb HB.out hx476_3; replace hx476_4 := cb HB.out hx476_4; replace p476 := eq_true p476; replace q476 := eq_true q476; go_wp2_with (first | ((with_reducible refine gate_dst (N := 4) rfl ?_); refine bx 4 #[.int .i64 0, .int .i64 0, .int .i64 0, .int .i64 0, .int .i64 0] 69 ?_; intro gb477 hg w11 hbox hb; have BK477 := ak hbox; have GW477 := gw hg HB; have GE477 := gw hg HB; replace HB := bs HB hb; clear hb hbox hg; have hcz12 := cz5 BK477.out) | ((with_reducible refine at_fn (f := 113) rfl ?_); refine gl (some 15) Try.func113 #[.agg #[.int .i64 ((rd_T69 l0 x10_1).f0), .int .i64 ((rd_T69 l0 x10_1).f1), .int .i64 ((rd_T69 l0 x10_1).f2), .int .i64 ((rd_T69 l0 x10_1).f3), .int .i64 ((rd_T69 l0 x10_1).f4)]] ?_; (with_reducible refine (impl_IsArea.calls ((rd_T69 l0 x10_1).f0) ((rd_T69 l0 x10_1).f1) ((rd_T69 l0 x10_1).f2) ((rd_T69 l0 x10_1).f3) ((rd_T69 l0 x10_1).f4) _ _ A6.out).mono ?_); rintro e w13 ⟨rfl, hb⟩; refine ⟨_, rfl, ?_⟩; replace BK477 := ak (blk_below (g := gb477) (o := .cells #[.int .i64 ((rd_T69 l0 x10_1).f0), .int .i64 ((rd_T69 l0 x10_1).f1), .int .i64 ((rd_T69 l0 x10_1).f2), .int .i64 ((rd_T69 l0 x10_1).f3), .int .i64 ((rd_T69 l0 x10_1).f4)] 69 (0, 0)) (vz BK477.out) hb); replace HB := bs HB hb; (try clear hb); (try clear hb2); (try clear hk); (try clear hi)))
        go_ret
        exact ⟨ew, vb HB.out⟩
      ·exact nO_ c5 H
     ·exact nO_ c4 H
    ·rw [if_neg c3] at H; have c3b0 := decide_eq_false c3; clear c3; obtain rfl := sj H; go_wp2
     go_ret
     exact ⟨ew, vb HB.out⟩


/-! ### impl_allWithin: function 96 -/
def impl_allWithin.l0 : Nat → Int → Int → List Int → Int → Int → Option (Bool)
 | 0, _, _, _, _, _ => none
 | k + 1, x1, x2, x9, x10, x11 => if x11 < x10 then (if 0 ≤ x11 then (if x11 < (x9.length : Int) then ((impl_within.f (rd x9 x11) x1 x2).bind fun t480 => (if t480 = true then (impl_allWithin.l0 k x1 x2 x9 x10 (wrap64 (x11 + 1))) else (some false))) else (none)) else (none)) else (some true)
def impl_allWithin.f (k : Nat) (l0 : List Int) (a1 : Int) (a2 : Int) : Option (Bool) := impl_allWithin.l0 k a1 a2 l0 (l0.length : Int) 0
theorem impl_allWithin.mono_l : ∀ k, (∀ y0 y1 y2 y3 y4, LeO (impl_allWithin.l0 k y0 y1 y2 y3 y4) (impl_allWithin.l0 (k + 1) y0 y1 y2 y3 y4))
 | 0 => fun _ _ _ _ _ r h => by simp [impl_allWithin.l0] at h
 | k + 1 => by
  have ih0 := impl_allWithin.mono_l k
  ·intro y0 y1 y2 y3 y4; unfold impl_allWithin.l0
   repeat' (with_reducible first | exact ih0 .. | exact LeO.refl .. | exact LeO.none .. | refine LeO.ite ?_ ?_ | refine LeO.bind ?_ (fun _ => ?_))
theorem impl_allWithin.mono : ∀ a0 a1 a2 k, LeO (impl_allWithin.f k a0 a1 a2) (impl_allWithin.f (k + 1) a0 a1 a2) := by
 intro a0 a1 a2 k; have ih0 := impl_allWithin.mono_l k; unfold impl_allWithin.f
 repeat' (with_reducible first | exact ih0 .. | exact LeO.refl .. | exact LeO.none .. | refine LeO.ite ?_ ?_ | refine LeO.bind ?_ (fun _ => ?_))
set_option maxHeartbeats 8000000 in
set_option maxRecDepth 100000 in
theorem impl_allWithin.calls (k : Nat) (A0 : Option Addr) (c0 : Nat) (l0 : List Int) (a1 : Int) (a2 : Int) (r : Bool) (w : World) (hr0 : Kd.C (Kd.int .i64) w A0 l0.length l0) (hc0 : l0.length ≤ c0) (h : impl_allWithin.f k l0 a1 a2 = some r) :
  Calls Try.prog 96 #[.slice A0 l0.length c0, .int .i64 a1, .int .i64 a2] w fun e w' => e = .returned (.bool r) ∧ Drawn0 w w' := by
 have HR0 := ak hr0; have HC0 := ak hc0; clear hr0 hc0; unfold impl_allWithin.f at h; have H := h; clear h; have H' := ak H; clear H; go_enter Try.func96, Try.ntmps96; go_wp2
 go_loopg [11] k (fun kq v11 w' => ∃ (x11_1 : Int), v11 = .int .i64 x11_1 ∧ Aside0 (impl_allWithin.l0 kq a1 a2 l0 (l0.length : Int) x11_1 = some r) ∧ Aside0 (kq ≤ k) ∧ Drawn0 w w')
 case atStart => exact ⟨(0), es, H', ⟨Nat.le_refl _⟩, by repeat (first | exact Drawn0.refl _ | apply Drawn0.step)⟩
 case round =>
  clear H'; (try clear p2); obtain ⟨x11_1, rfl, HA, HK1, ⟨m1, rfl⟩⟩ := hrel
  cases gk with
  | zero => exact absurd HA.out (by simp [impl_allWithin.l0])
  | succ k1 =>
   have H := HA.out; clear HA; simp only [impl_allWithin.l0] at H
   by_cases c4 : x11_1 < (l0.length : Int)
   ·rw [if_pos c4] at H; have c4b0 := decide_eq_true c4; clear c4; by_cases c5 : 0 ≤ x11_1
    ·rw [if_pos c5] at H; have c5b0 := decide_eq_true c5; clear c5; by_cases c6 : x11_1 < (l0.length : Int)
     ·rw [if_pos c6] at H; have c6b0 := decide_eq_true c6; clear c6; obtain ⟨t480, A7, H⟩ := bnk H; by_cases c8 : t480 = true
      ·subst c8; rw [if_pos rfl] at H; have H' := ak H; clear H; have p479 : 0 ≤ (x11_1 : Int) := od; have q479 : x11_1 < (l0.length : Int) := od; obtain ⟨ad479, e479, hx479_0⟩ := Kd.at_int HR0.out x11_1 p479 q479
       cases e479; replace p479 := eq_true p479; replace q479 := eq_true q479; go_wp2_with (first | ((with_reducible refine at_fn (f := 97) rfl ?_); refine gl (some 18) Try.func97 #[.int .i64 (rd l0 x11_1), .int .i64 a1, .int .i64 a2] ?_; (with_reducible refine (impl_within.calls (rd l0 x11_1) a1 a2 _ _ A7.out).mono ?_); rintro e w' ⟨rfl, ⟨nd, rfl⟩⟩; refine ⟨_, rfl, ?_⟩))
       go_roundg k1
       case measure => have := HK1.out; omega
       case rel => exact ⟨(wrap64 (x11_1 + 1)), es, H', ⟨by have := HK1.out; omega⟩, by repeat (first | exact Drawn0.refl _ | apply Drawn0.step)⟩
      ·replace c8 := Bool.eq_false_iff.mpr c8; subst c8; rw [if_neg nf] at H; obtain rfl := sj H; have p479 : 0 ≤ (x11_1 : Int) := od; have q479 : x11_1 < (l0.length : Int) := od; obtain ⟨ad479, e479, hx479_0⟩ := Kd.at_int HR0.out x11_1 p479 q479
       cases e479; replace p479 := eq_true p479; replace q479 := eq_true q479; go_wp2_with (first | ((with_reducible refine at_fn (f := 97) rfl ?_); refine gl (some 18) Try.func97 #[.int .i64 (rd l0 x11_1), .int .i64 a1, .int .i64 a2] ?_; (with_reducible refine (impl_within.calls (rd l0 x11_1) a1 a2 _ _ A7.out).mono ?_); rintro e w' ⟨rfl, ⟨nd, rfl⟩⟩; refine ⟨_, rfl, ?_⟩))
       go_ret
       exact ⟨by first | rfl | (simp; done) | (simp [*]; done), by repeat (first | exact Drawn0.refl _ | apply Drawn0.step)⟩
     ·exact nO_ c6 H
    ·exact nO_ c5 H
   ·rw [if_neg c4] at H; have c4b0 := decide_eq_false c4; clear c4; obtain rfl := sj H; go_wp2
    go_ret
    exact ⟨by first | rfl | (simp; done) | (simp [*]; done), by repeat (first | exact Drawn0.refl _ | apply Drawn0.step)⟩


/-! ### impl_IsField: function 73 -/
def impl_IsField.f (k : Nat) (l0_0 : List (S91)) (l0_1 : List (S69)) (l0_2 : List Int) (l0_3 : List Int) (l0_4 : List Int) (a0_5 : Int) : Option (Bool) := (impl_IsTable.f k l0_0).bind fun t482 => (if t482 = true then ((impl_IsSite.f k l0_1).bind fun t483 => (if t483 = true then (if (l0_2.length : Int) ≤ 4 then ((impl_allWithin.f k l0_2 20 300).bind fun t484 => (if t484 = true then (if (l0_3.length : Int) ≤ 7 then (if (l0_4.length : Int) = (l0_3.length : Int) then ((impl_allWithin.f k l0_3 0 100000).bind fun t485 => (if t485 = true then ((impl_allWithin.f k l0_4 0 100000).bind fun t486 => (if t486 = true then ((impl_within.f a0_5 0 10000).bind fun t487 => (some t487)) else (some false))) else (some false))) else (some false)) else (some false)) else (some false))) else (some false)) else (some false))) else (some false))
theorem impl_IsField.mono : ∀ a0 a1 a2 a3 a4 a5 k, LeO (impl_IsField.f k a0 a1 a2 a3 a4 a5) (impl_IsField.f (k + 1) a0 a1 a2 a3 a4 a5) := by
 intro a0 a1 a2 a3 a4 a5 k; unfold impl_IsField.f
 repeat' (with_reducible first | exact impl_IsSite.mono .. | exact impl_IsTable.mono .. | exact impl_allWithin.mono .. | exact LeO.refl .. | exact LeO.none .. | refine LeO.ite ?_ ?_ | refine LeO.bind ?_ (fun _ => ?_))
set_option maxHeartbeats 8000000 in
set_option maxRecDepth 100000 in
theorem impl_IsField.calls (k : Nat) (A0_0 : Option Addr) (c0_0 : Nat) (l0_0 : List (S91)) (A0_1 : Option Addr) (c0_1 : Nat) (l0_1 : List (S69)) (A0_2 : Option Addr) (c0_2 : Nat) (l0_2 : List Int) (A0_3 : Option Addr) (c0_3 : Nat) (l0_3 : List Int) (A0_4 : Option Addr) (c0_4 : Nat) (l0_4 : List Int) (a0_5 : Int) (r : Bool) (w : World) (hr0_0 : Kd.C k91 w A0_0 l0_0.length l0_0) (hc0_0 : l0_0.length ≤ c0_0) (hr0_1 : Kd.C k69 w A0_1 l0_1.length l0_1) (hc0_1 : l0_1.length ≤ c0_1) (hr0_2 : Kd.C (Kd.int .i64) w A0_2 l0_2.length l0_2) (hc0_2 : l0_2.length ≤ c0_2) (hr0_3 : Kd.C (Kd.int .i64) w A0_3 l0_3.length l0_3) (hc0_3 : l0_3.length ≤ c0_3) (hr0_4 : Kd.C (Kd.int .i64) w A0_4 l0_4.length l0_4) (hc0_4 : l0_4.length ≤ c0_4) (h : impl_IsField.f k l0_0 l0_1 l0_2 l0_3 l0_4 a0_5 = some r) :
  Calls Try.prog 73 #[.agg (f5 A0_0 l0_0 c0_0 A0_1 l0_1 c0_1 A0_2 l0_2 c0_2 A0_3 l0_3 c0_3 A0_4 l0_4 c0_4 a0_5)] w fun e w' => e = .returned (.bool r) ∧ Below w.heap.size w w' := by
 have hu28 := Try.underlying28; have HR0_0 := ak hr0_0; have HC0_0 := ak hc0_0; clear hr0_0 hc0_0; have HR0_1 := ak hr0_1; have HC0_1 := ak hc0_1; clear hr0_1 hc0_1; have HR0_2 := ak hr0_2; have HC0_2 := ak hc0_2; clear hr0_2 hc0_2; have HR0_3 := ak hr0_3; have HC0_3 := ak hc0_3; clear hr0_3 hc0_3; have HR0_4 := ak hr0_4; have HC0_4 := ak hc0_4; clear hr0_4 hc0_4; have HB := ak (Below.refl w.heap.size w); unfold impl_IsField.f at h; have H := h; clear h; obtain ⟨t482, A2, H⟩ := bnk H
 by_cases c3 : t482 = true
 subst c3; rw [if_pos rfl] at H; obtain ⟨t483, A4, H⟩ := bnk H; by_cases c5 : t483 = true
 subst c5; rw [if_pos rfl] at H; by_cases c6 : (l0_2.length : Int) ≤ 4
 rw [if_pos c6] at H; have c6b0 := decide_eq_true c6; have c6b1 : decide (l0_2.length ≤ 4) = true := decide_eq_true (by omega); clear c6; obtain ⟨t484, A7, H⟩ := bnk H; by_cases c8 : t484 = true
 subst c8; rw [if_pos rfl] at H; by_cases c9 : (l0_3.length : Int) ≤ 7
 rw [if_pos c9] at H; have c9b0 := decide_eq_true c9; have c9b1 : decide (l0_3.length ≤ 7) = true := decide_eq_true (by omega); clear c9; by_cases c10 : (l0_4.length : Int) = (l0_3.length : Int)
 rw [if_pos c10] at H; obtain ⟨c10b0, c10b1⟩ := bqt c10; have c10b2 : (l0_4.length == l0_3.length) = true := by first | simpa using c10 | (simp at c10 ⊢; omega)
 clear c10; obtain ⟨t485, A11, H⟩ := bnk H; by_cases c12 : t485 = true
 subst c12; rw [if_pos rfl] at H; obtain ⟨t486, A13, H⟩ := bnk H; by_cases c14 : t486 = true
 subst c14; rw [if_pos rfl] at H; obtain ⟨t487, A15, H⟩ := bnk H; obtain rfl := sj H; rotate_left
 replace c14 := Bool.eq_false_iff.mpr c14; subst c14; rw [if_neg nf] at H; obtain rfl := sj H; rotate_left
 replace c12 := Bool.eq_false_iff.mpr c12; subst c12; rw [if_neg nf] at H; obtain rfl := sj H; rotate_left
 rw [if_neg c10] at H; obtain ⟨c10b0, c10b1⟩ := bqf c10; have c10b2 : (l0_4.length == l0_3.length) = false := by first | simpa using c10 | (simp at c10 ⊢; omega)
 obtain rfl := sj H; rotate_left
 rw [if_neg c9] at H; have c9b0 := decide_eq_false c9; have c9b1 : decide (l0_3.length ≤ 7) = false := decide_eq_false (by omega); clear c9; obtain rfl := sj H; rotate_left
 replace c8 := Bool.eq_false_iff.mpr c8; subst c8; rw [if_neg nf] at H; obtain rfl := sj H; rotate_left
 rw [if_neg c6] at H; have c6b0 := decide_eq_false c6; have c6b1 : decide (l0_2.length ≤ 4) = false := decide_eq_false (by omega); clear c6; obtain rfl := sj H; rotate_left
 replace c5 := Bool.eq_false_iff.mpr c5; subst c5; rw [if_neg nf] at H; obtain rfl := sj H; rotate_left
 replace c3 := Bool.eq_false_iff.mpr c3; subst c3; rw [if_neg nf] at H; obtain rfl := sj H; rotate_left
 all_goals
  go_enter Try.func73, Try.ntmps73; go_wp2_with (first | ((with_reducible refine gate_dst (N := 1) rfl ?_); (try (refine gate_guard (by rfl) ?_; dsimp only)); refine bx 1 (f5 A0_0 l0_0 c0_0 A0_1 l0_1 c0_1 A0_2 l0_2 c0_2 A0_3 l0_3 c0_3 A0_4 l0_4 c0_4 a0_5) 28 ?_; intro gb481 hg w9 hbox hb; have BK481 := ak hbox; have GW481 := gw hg HB; have GE481 := gw hg HB; replace HB := bs HB hb; clear hb hbox hg; have hcz9 := cz6 BK481.out) | ((with_reducible refine at_fn (f := 94) rfl ?_); refine gl (some 5) Try.func94 #[.slice A0_0 l0_0.length c0_0] ?_; (with_reducible refine (impl_IsTable.calls k _ _ l0_0 _ _ ?_ HC0_0.out A2.out).mono ?_); exact vd HR0_0.out HB.out; rintro e w9 ⟨rfl, hb⟩; refine ⟨_, rfl, ?_⟩; replace BK481 := kb BK481 hb; replace HB := bs HB hb; (try clear hb); (try clear hb2); (try clear hk); (try clear hi); have hcz9 := cz6 BK481.out) | (go_at_call 95; (with_reducible refine (impl_IsSite.calls k _ _ l0_1 _ _ ?_ HC0_1.out A4.out).mono ?_); exact vd HR0_1.out HB.out; rintro e w9 ⟨rfl, hb⟩; replace BK481 := kb BK481 hb; replace HB := bs HB hb; (try clear hb); (try clear hb2); (try clear hk); (try clear hi); have hcz9 := cz6 BK481.out) | (go_at_call 96; (with_reducible refine (impl_allWithin.calls k _ _ l0_2 20 300 _ _ ?_ HC0_2.out A7.out).mono ?_); exact vd HR0_2.out HB.out; rintro e w' ⟨rfl, ⟨nd, rfl⟩⟩) | (go_at_call 96; (with_reducible refine (impl_allWithin.calls k _ _ l0_3 0 100000 _ _ ?_ HC0_3.out A11.out).mono ?_); exact vd HR0_3.out (vb HB.out); rintro e w' ⟨rfl, ⟨nd, rfl⟩⟩) | (go_at_call 96; (with_reducible refine (impl_allWithin.calls k _ _ l0_4 0 100000 _ _ ?_ HC0_4.out A13.out).mono ?_); exact vd HR0_4.out (vb HB.out); rintro e w' ⟨rfl, ⟨nd, rfl⟩⟩) | (go_at_call 97; (with_reducible refine (impl_within.calls a0_5 0 10000 t487 _ A15.out).mono ?_); rintro e w' ⟨rfl, ⟨nd, rfl⟩⟩))
  go_ret
  exact ⟨ew, vb HB.out⟩


/-! ### impl_isIndex: function 74 -/
def impl_isIndex.f (a0 : Int) (a1 : Int) : Option (Bool) := (impl_within.f a0 0 (wrap64 (a1 - 1))).bind fun t488 => (some t488)
set_option maxHeartbeats 8000000 in
set_option maxRecDepth 100000 in
theorem impl_isIndex.calls (a0 : Int) (a1 : Int) (r : Bool) (w : World) (h : impl_isIndex.f a0 a1 = some r) :
  Calls Try.prog 74 #[.int .i64 a0, .int .i64 a1] w fun e w' => e = .returned (.bool r) ∧ Drawn0 w w' := by
 unfold impl_isIndex.f at h; have H := h; clear h; obtain ⟨t488, A3, H⟩ := bnk H; obtain rfl := sj H; go_enter Try.func74, Try.ntmps74; go_wp2_with (first | ((with_reducible refine at_fn (f := 97) rfl ?_); refine gl (some 8) Try.func97 #[.int .i64 a0, .int .i64 0, .int .i64 (wrap64 (a1 - 1))] ?_; (with_reducible refine (impl_within.calls a0 0 (wrap64 (a1 - 1)) t488 _ A3.out).mono ?_); rintro e w' ⟨rfl, ⟨nd, rfl⟩⟩; refine ⟨_, rfl, ?_⟩))
 go_ret
 exact ⟨by first | rfl | (simp; done) | (simp [*]; done), by repeat (first | exact Drawn0.refl _ | apply Drawn0.step)⟩


/-! ### impl_fieldAsked: function 45 -/
def impl_fieldAsked.l0 : Nat → List Int → List Int → Int → Int → List (S91) → List (S69) → List Int → List Int → List Int → Int → Option (Int)
 | 0, _, _, _, _, _, _, _, _, _, _ => none
 | k + 1, x1, x14, x15, x16, x490000, x490001, x490002, x490003, x490004, x490005 => if x16 < x15 then (if 0 ≤ x16 then (if x16 < (x14.length : Int) then ((impl_isIndex.f (rd x14 x16) (x490001.length : Int)).bind fun t492 => (if t492 = true then (if x16 > 0 then (if 0 ≤ (wrap64 (x16 - 1)) then (if (wrap64 (x16 - 1)) < (x1.length : Int) then (if (rd x1 (wrap64 (x16 - 1))) ≥ (rd x14 x16) then (some 2) else (impl_fieldAsked.l0 k x1 x14 x15 (wrap64 (x16 + 1)) x490000 x490001 x490002 x490003 x490004 x490005)) else (none)) else (none)) else (impl_fieldAsked.l0 k x1 x14 x15 (wrap64 (x16 + 1)) x490000 x490001 x490002 x490003 x490004 x490005)) else (some 2))) else (none)) else (none)) else (some 0)
def impl_fieldAsked.f (k : Nat) (l0_0 : List (S91)) (l0_1 : List (S69)) (l0_2 : List Int) (l0_3 : List Int) (l0_4 : List Int) (a0_5 : Int) (l1 : List Int) : Option (Int) := (impl_IsField.f k l0_0 l0_1 l0_2 l0_3 l0_4 a0_5).bind fun t490 => (if t490 = true then (if (l0_1.length : Int) > 6 then (some 3) else (impl_fieldAsked.l0 k l1 l1 (l1.length : Int) 0 l0_0 l0_1 l0_2 l0_3 l0_4 a0_5)) else (some 1))
theorem impl_fieldAsked.mono_l : ∀ k, (∀ y0 y1 y2 y3 y4 y5 y6 y7 y8 y9, LeO (impl_fieldAsked.l0 k y0 y1 y2 y3 y4 y5 y6 y7 y8 y9) (impl_fieldAsked.l0 (k + 1) y0 y1 y2 y3 y4 y5 y6 y7 y8 y9))
 | 0 => fun _ _ _ _ _ _ _ _ _ _ r h => by simp [impl_fieldAsked.l0] at h
 | k + 1 => by
  have ih0 := impl_fieldAsked.mono_l k
  ·intro y0 y1 y2 y3 y4 y5 y6 y7 y8 y9; unfold impl_fieldAsked.l0
   repeat' (with_reducible first | exact ih0 .. | exact impl_IsField.mono .. | exact LeO.refl .. | exact LeO.none .. | refine LeO.ite ?_ ?_ | refine LeO.bind ?_ (fun _ => ?_))
theorem impl_fieldAsked.mono : ∀ a0 a1 a2 a3 a4 a5 a6 k, LeO (impl_fieldAsked.f k a0 a1 a2 a3 a4 a5 a6) (impl_fieldAsked.f (k + 1) a0 a1 a2 a3 a4 a5 a6) := by
 intro a0 a1 a2 a3 a4 a5 a6 k; have ih0 := impl_fieldAsked.mono_l k; unfold impl_fieldAsked.f
 repeat' (with_reducible first | exact ih0 .. | exact impl_IsField.mono .. | exact LeO.refl .. | exact LeO.none .. | refine LeO.ite ?_ ?_ | refine LeO.bind ?_ (fun _ => ?_))
set_option maxHeartbeats 8000000 in
set_option maxRecDepth 100000 in
theorem impl_fieldAsked.calls (k : Nat) (A0_0 : Option Addr) (c0_0 : Nat) (l0_0 : List (S91)) (A0_1 : Option Addr) (c0_1 : Nat) (l0_1 : List (S69)) (A0_2 : Option Addr) (c0_2 : Nat) (l0_2 : List Int) (A0_3 : Option Addr) (c0_3 : Nat) (l0_3 : List Int) (A0_4 : Option Addr) (c0_4 : Nat) (l0_4 : List Int) (a0_5 : Int) (A1 : Option Addr) (c1 : Nat) (l1 : List Int) (r : Int) (w : World) (hr0_0 : Kd.C k91 w A0_0 l0_0.length l0_0) (hc0_0 : l0_0.length ≤ c0_0) (hr0_1 : Kd.C k69 w A0_1 l0_1.length l0_1) (hc0_1 : l0_1.length ≤ c0_1) (hr0_2 : Kd.C (Kd.int .i64) w A0_2 l0_2.length l0_2) (hc0_2 : l0_2.length ≤ c0_2) (hr0_3 : Kd.C (Kd.int .i64) w A0_3 l0_3.length l0_3) (hc0_3 : l0_3.length ≤ c0_3) (hr0_4 : Kd.C (Kd.int .i64) w A0_4 l0_4.length l0_4) (hc0_4 : l0_4.length ≤ c0_4) (hr1 : Kd.C (Kd.int .i64) w A1 l1.length l1) (hc1 : l1.length ≤ c1) (h : impl_fieldAsked.f k l0_0 l0_1 l0_2 l0_3 l0_4 a0_5 l1 = some r) :
  Calls Try.prog 45 #[.agg (f5 A0_0 l0_0 c0_0 A0_1 l0_1 c0_1 A0_2 l0_2 c0_2 A0_3 l0_3 c0_3 A0_4 l0_4 c0_4 a0_5), .slice A1 l1.length c1] w fun e w' => e = .returned (.int .i64 r) ∧ Below w.heap.size w w' := by
 have hu28 := Try.underlying28; have HR0_0 := ak hr0_0; have HC0_0 := ak hc0_0; clear hr0_0 hc0_0; have HR0_1 := ak hr0_1; have HC0_1 := ak hc0_1; clear hr0_1 hc0_1; have HR0_2 := ak hr0_2; have HC0_2 := ak hc0_2; clear hr0_2 hc0_2; have HR0_3 := ak hr0_3; have HC0_3 := ak hc0_3; clear hr0_3 hc0_3; have HR0_4 := ak hr0_4; have HC0_4 := ak hc0_4; clear hr0_4 hc0_4; have HR1 := ak hr1; have HC1 := ak hc1; clear hr1 hc1; have HB := ak (Below.refl w.heap.size w); unfold impl_fieldAsked.f at h; have H := h; clear h; obtain ⟨t490, A3, H⟩ := bnk H; by_cases c4 : t490 = true
 subst c4; rw [if_pos rfl] at H; by_cases c5 : (l0_1.length : Int) > 6
 rw [if_pos c5] at H; have c5b0 := decide_eq_true c5; have c5b1 : decide (6 < l0_1.length) = true := decide_eq_true (by omega); clear c5; obtain rfl := sj H; rotate_left
 ·rw [if_neg c5] at H; have c5b0 := decide_eq_false c5; have c5b1 : decide (6 < l0_1.length) = false := decide_eq_false (by omega); clear c5; have H' := ak H; clear H; go_enter Try.func45, Try.ntmps45; go_wp2_with (first | ((with_reducible refine gate_dst (N := 2) rfl ?_); refine bx 2 (f5 A0_0 l0_0 c0_0 A0_1 l0_1 c0_1 A0_2 l0_2 c0_2 A0_3 l0_3 c0_3 A0_4 l0_4 c0_4 a0_5) 28 ?_; intro gb489 hg w10 hbox hb; have BK489 := ak hbox; have GW489 := gw hg HB; have GE489 := gw hg HB; replace HB := bs HB hb; clear hb hbox hg; have hcz11 := cz6 BK489.out) | ((with_reducible refine at_fn (f := 73) rfl ?_); refine gl (some 8) Try.func73 #[.agg (f5 A0_0 l0_0 c0_0 A0_1 l0_1 c0_1 A0_2 l0_2 c0_2 A0_3 l0_3 c0_3 A0_4 l0_4 c0_4 a0_5)] ?_; (with_reducible refine (impl_IsField.calls k _ _ l0_0 _ _ l0_1 _ _ l0_2 _ _ l0_3 _ _ l0_4 a0_5 _ _ ?_ HC0_0.out ?_ HC0_1.out ?_ HC0_2.out ?_ HC0_3.out ?_ HC0_4.out A3.out).mono ?_); exact vd HR0_0.out HB.out; exact vd HR0_1.out HB.out; exact vd HR0_2.out HB.out; exact vd HR0_3.out HB.out; exact vd HR0_4.out HB.out; rintro e w12 ⟨rfl, hb⟩; refine ⟨_, rfl, ?_⟩; replace BK489 := kb BK489 hb; replace HB := bs HB hb; (try clear hb); (try clear hb2); (try clear hk); (try clear hi); have hcz13 := cz6 BK489.out))
  go_loopg [16] k (fun kq v16 w' => ∃ (x16_1 : Int), v16 = .int .i64 x16_1 ∧ Aside0 (impl_fieldAsked.l0 kq l1 l1 (l1.length : Int) x16_1 l0_0 l0_1 l0_2 l0_3 l0_4 a0_5 = some r) ∧ Aside0 (kq ≤ k) ∧ Aside0 (w'.heap[gb489]? = some (.cells (f5 A0_0 l0_0 c0_0 A0_1 l0_1 c0_1 A0_2 l0_2 c0_2 A0_3 l0_3 c0_3 A0_4 l0_4 c0_4 a0_5) 28 (0, 0))) ∧ Aside0 (Below w.heap.size w w'))
  case atStart => exact ⟨(0), es, H', ⟨Nat.le_refl _⟩, ⟨vk BK489.out⟩, ⟨vb HB.out⟩⟩
  case round =>
   clear H'; (try clear c1); (try clear p2); (try clear c4); (try clear c5); (try clear c5b0); (try clear c5b1); (try clear c7); (try clear hcz11); (try clear hcz13); (try clear hcz7); (try clear hcz9); obtain ⟨x16_1, rfl, HA, HK1, BK489, HB⟩ := hrel
   cases gk with
   | zero => exact absurd HA.out (by simp [impl_fieldAsked.l0])
   | succ k1 =>
    have H := HA.out; clear HA; simp only [impl_fieldAsked.l0] at H
    by_cases c14 : x16_1 < (l1.length : Int)
    ·rw [if_pos c14] at H; have c14b0 := decide_eq_true c14; clear c14; by_cases c15 : 0 ≤ x16_1
     ·rw [if_pos c15] at H; have c15b0 := decide_eq_true c15; clear c15; by_cases c16 : x16_1 < (l1.length : Int)
      ·rw [if_pos c16] at H; have c16b0 := decide_eq_true c16; clear c16; obtain ⟨t492, A17, H⟩ := bnk H; by_cases c18 : t492 = true
       ·subst c18; rw [if_pos rfl] at H; by_cases c19 : x16_1 > 0
        ·rw [if_pos c19] at H; have c19b0 := decide_eq_true c19; clear c19; obtain ⟨ji20, hji20⟩ : ∃ j_ : Int, (wrap64 (x16_1 - 1)) = j_ := ⟨_, rfl⟩; replace H : (if 0 ≤ (ji20) then (if (ji20) < (l1.length : Int) then (if (rd l1 (ji20)) ≥ (rd l1 x16_1) then (some 2) else (impl_fieldAsked.l0 k1 l1 l1 (l1.length : Int) (wrap64 (x16_1 + 1)) l0_0 l0_1 l0_2 l0_3 l0_4 a0_5)) else (none)) else (none)) = some r := by first | (rw [hji20] at H; exact H) | (simp only [hji20] at H ⊢; exact H)
         (try rw [hji20] at A17)
         have hji20w : (IntKind.i64.wrap (x16_1 - 1)) = ji20 := (i64_w _).trans hji20; by_cases c21 : 0 ≤ (ji20)
         ·rw [if_pos c21] at H; have c21b0 := decide_eq_true c21; clear c21; by_cases c22 : (ji20) < (l1.length : Int)
          ·rw [if_pos c22] at H; have c22b0 := decide_eq_true c22; clear c22; by_cases c23 : (rd l1 (ji20)) ≥ (rd l1 x16_1)
           ·rw [if_pos c23] at H; have c23b0 := decide_eq_true c23; clear c23; obtain rfl := sj H; have p491 : 0 ≤ (x16_1 : Int) := od; have q491 : x16_1 < (l1.length : Int) := od; obtain ⟨ad491, e491, hx491_0⟩ := Kd.at_int HR1.out x16_1 p491 q491
            cases e491; replace hx491_0 := cb HB.out hx491_0; replace p491 := eq_true p491; replace q491 := eq_true q491; have hcz24 := cz6 BK489.out; go_wp2_with (first | ((with_reducible refine at_fn (f := 74) rfl ?_); refine gl (some 25) Try.func74 #[.int .i64 (rd l1 x16_1), .int .i64 (l0_1.length : Int)] ?_; (with_reducible refine (impl_isIndex.calls (rd l1 x16_1) (l0_1.length : Int) _ _ A17.out).mono ?_); rintro e w' ⟨rfl, ⟨nd, rfl⟩⟩; refine ⟨_, rfl, ?_⟩; have p493 : 0 ≤ ((ji20) : Int) := od; have q493 : (ji20) < (l1.length : Int) := od; obtain ⟨ad493, e493, hx493_0⟩ := Kd.at_int HR1.out (ji20) p493 q493; obtain rfl : ad491 = ad493 := (by injection e493); replace hx493_0 := cb HB.out hx493_0; replace p493 := eq_true p493; replace q493 := eq_true q493))
            go_ret
            exact ⟨by first | rfl | (simp [errW_none, errW_some] <;> rfl) | (simp only [← hji20]; first | rfl | (simp [errW_none, errW_some] <;> rfl)) | (simp [*, errW_none, errW_some] <;> rfl), vb HB.out⟩
           ·rw [if_neg c23] at H; have c23b0 := decide_eq_false c23; clear c23; have H' := ak H; clear H; have p491 : 0 ≤ (x16_1 : Int) := od; have q491 : x16_1 < (l1.length : Int) := od; obtain ⟨ad491, e491, hx491_0⟩ := Kd.at_int HR1.out x16_1 p491 q491
            cases e491; replace hx491_0 := cb HB.out hx491_0; replace p491 := eq_true p491; replace q491 := eq_true q491; have hcz25 := cz6 BK489.out; go_wp2_with (first | ((with_reducible refine at_fn (f := 74) rfl ?_); refine gl (some 25) Try.func74 #[.int .i64 (rd l1 x16_1), .int .i64 (l0_1.length : Int)] ?_; (with_reducible refine (impl_isIndex.calls (rd l1 x16_1) (l0_1.length : Int) _ _ A17.out).mono ?_); rintro e w' ⟨rfl, ⟨nd, rfl⟩⟩; refine ⟨_, rfl, ?_⟩; have p493 : 0 ≤ ((ji20) : Int) := od; have q493 : (ji20) < (l1.length : Int) := od; obtain ⟨ad493, e493, hx493_0⟩ := Kd.at_int HR1.out (ji20) p493 q493; obtain rfl : ad491 = ad493 := (by injection e493); replace hx493_0 := cb HB.out hx493_0; replace p493 := eq_true p493; replace q493 := eq_true q493))
            go_roundg k1
            case measure => have := HK1.out; omega
            case rel => exact ⟨(wrap64 (x16_1 + 1)), es, H', ⟨by have := HK1.out; omega⟩, ⟨vk BK489.out⟩, ⟨vb HB.out⟩⟩
          ·exact nO_ c22 H
         ·exact nO_ c21 H
        ·rw [if_neg c19] at H; have c19b0 := decide_eq_false c19; clear c19; have H' := ak H; clear H; have p491 : 0 ≤ (x16_1 : Int) := od; have q491 : x16_1 < (l1.length : Int) := od; obtain ⟨ad491, e491, hx491_0⟩ := Kd.at_int HR1.out x16_1 p491 q491
         cases e491; replace hx491_0 := cb HB.out hx491_0; replace p491 := eq_true p491; replace q491 := eq_true q491; have hcz26 := cz6 BK489.out; go_wp2_with (first | ((with_reducible refine at_fn (f := 74) rfl ?_); refine gl (some 25) Try.func74 #[.int .i64 (rd l1 x16_1), .int .i64 (l0_1.length : Int)] ?_; (with_reducible refine (impl_isIndex.calls (rd l1 x16_1) (l0_1.length : Int) _ _ A17.out).mono ?_); rintro e w' ⟨rfl, ⟨nd, rfl⟩⟩; refine ⟨_, rfl, ?_⟩))
         go_roundg k1
         case measure => have := HK1.out; omega
         case rel => exact ⟨(wrap64 (x16_1 + 1)), es, H', ⟨by have := HK1.out; omega⟩, ⟨vk BK489.out⟩, ⟨vb HB.out⟩⟩
       ·replace c18 := Bool.eq_false_iff.mpr c18; subst c18; rw [if_neg nf] at H; obtain rfl := sj H; have p491 : 0 ≤ (x16_1 : Int) := od; have q491 : x16_1 < (l1.length : Int) := od; obtain ⟨ad491, e491, hx491_0⟩ := Kd.at_int HR1.out x16_1 p491 q491
        cases e491; replace hx491_0 := cb HB.out hx491_0; replace p491 := eq_true p491; replace q491 := eq_true q491; have hcz27 := cz6 BK489.out; go_wp2_with (first | ((with_reducible refine at_fn (f := 74) rfl ?_); refine gl (some 25) Try.func74 #[.int .i64 (rd l1 x16_1), .int .i64 (l0_1.length : Int)] ?_; (with_reducible refine (impl_isIndex.calls (rd l1 x16_1) (l0_1.length : Int) _ _ A17.out).mono ?_); rintro e w' ⟨rfl, ⟨nd, rfl⟩⟩; refine ⟨_, rfl, ?_⟩))
        go_ret
        exact ⟨ew, vb HB.out⟩
      ·exact nO_ c16 H
     ·exact nO_ c15 H
    ·rw [if_neg c14] at H; have c14b0 := decide_eq_false c14; clear c14; obtain rfl := sj H; go_wp2
     go_ret
     exact ⟨ew, vb HB.out⟩
 replace c4 := Bool.eq_false_iff.mpr c4; subst c4; rw [if_neg nf] at H; obtain rfl := sj H; rotate_left
 all_goals
  go_enter Try.func45, Try.ntmps45; go_wp2_with (first | ((with_reducible refine gate_dst (N := 2) rfl ?_); refine bx 2 (f5 A0_0 l0_0 c0_0 A0_1 l0_1 c0_1 A0_2 l0_2 c0_2 A0_3 l0_3 c0_3 A0_4 l0_4 c0_4 a0_5) 28 ?_; intro gb489 hg w9 hbox hb; have BK489 := ak hbox; have GW489 := gw hg HB; have GE489 := gw hg HB; replace HB := bs HB hb; clear hb hbox hg; have hcz9 := cz6 BK489.out) | ((with_reducible refine at_fn (f := 73) rfl ?_); refine gl (some 8) Try.func73 #[.agg (f5 A0_0 l0_0 c0_0 A0_1 l0_1 c0_1 A0_2 l0_2 c0_2 A0_3 l0_3 c0_3 A0_4 l0_4 c0_4 a0_5)] ?_; (with_reducible refine (impl_IsField.calls k _ _ l0_0 _ _ l0_1 _ _ l0_2 _ _ l0_3 _ _ l0_4 a0_5 _ _ ?_ HC0_0.out ?_ HC0_1.out ?_ HC0_2.out ?_ HC0_3.out ?_ HC0_4.out A3.out).mono ?_); exact vd HR0_0.out HB.out; exact vd HR0_1.out HB.out; exact vd HR0_2.out HB.out; exact vd HR0_3.out HB.out; exact vd HR0_4.out HB.out; rintro e w9 ⟨rfl, hb⟩; refine ⟨_, rfl, ?_⟩; replace BK489 := kb BK489 hb; replace HB := bs HB hb; (try clear hb); (try clear hb2); (try clear hk); (try clear hi); have hcz9 := cz6 BK489.out))
  go_ret
  exact ⟨ew, vb HB.out⟩


/-! ### impl_copyList: function 78 -/
def impl_copyList.f (l0 : List Int) : Option (List Int) := (some (([] : List Int) : List Int)).bind fun y494 => (if y494.length + l0.length < 17592186044416 then (some (y494 ++ l0)) else (none))
set_option maxHeartbeats 8000000 in
set_option maxRecDepth 100000 in
theorem impl_copyList.calls (A0 : Option Addr) (c0 : Nat) (l0 : List Int) (r : List Int) (w : World) (hr0 : Kd.C (Kd.int .i64) w A0 l0.length l0) (hc0 : l0.length ≤ c0) (h : impl_copyList.f l0 = some r) :
  Calls Try.prog 78 #[.slice A0 l0.length c0] w fun e w' => ∃ v0_ : Value, e = .returned (v0_) ∧ Kd.R (Kd.int .i64) 2 w' w.heap.size (fun _ => True) v0_ r ∧ Below w.heap.size w w' := by
 have HR0 := ak hr0; have HC0 := ak hc0; clear hr0 hc0; have HB := ak (Below.refl w.heap.size w); unfold impl_copyList.f at h; have H := h; clear h; obtain ⟨y494, Ny494, H⟩ := bnE H; by_cases c2 : y494.length + l0.length < 17592186044416
 ·rw [if_pos c2] at H; have LMc2 := ak c2; clear c2; obtain ⟨y497, hy497⟩ := gen_ ((y494 ++ l0 : List Int)); rw [← hy497] at H; have Ny497 := ak hy497; clear hy497; obtain rfl := sj H; go_enter Try.func78, Try.ntmps78; go_wp2_with (first | ((with_reducible refine gate_dst (N := 3) rfl ?_); refine Kd.R_lit (Kd.int .i64) _ 2 ?hg (N := 3) ?hd (xs := ([] : List Int)) (inner := []) (ok := fun _ => True) (okp := fun _ => True) ?hr ?hp (fun _ hk => hk) trivial (Below.refl _ _) (Nat.le_refl _) (by simp) ?_; (case hd => rfl); (case hg => rfl); (case hr => first | (go_simp; done) | (go_simp; rfl)); (case hp => exact (Reps.none _ _)); intro v495 w3 ho4 hb hg_ hnew_; clear hg_ hnew_; (first | rw [← Ny494.out] at ho4 | (simp only [Int.reduceToNat] at ho4; rw [← Ny494.out] at ho4)); have HO496 := ak (Kd.R_lower ho4 (below_size (vb HB.out))); replace HB := bs HB hb; clear hb ho4) | ((with_reducible refine at_bi (b := .append) (xs := #[.tmp 3, .tmp 4]) rfl ?_); at_builtin; refine Kd.R_append_rows (Kd.int .i64) (w0 := w) w.heap.size rfl (.tmp 3) (.tmp 4) 26 2 (.int .i64 0) 8 rfl Try.underlying26 info2 rfl (by decide) (by omega) v495 y494 l0 _ _ _ (fun _ => True) (fun _ => False) rfl rfl ?aO ?aR (fun _ _ h => h) (fun _ h => h.elim) ?aF ?aB ?aS ?aL ?_; (case aR => exact vd HR0.out HB.out); (case aB => exact (vb HB.out)); (case aF => exact (fun _ _ => trivial)); (case aO => exact (vr HO496.out)); (case aS => exact (below_size (vb HB.out))); (case aL => have := LMc2.out; omega); intro v498 w5 ho hb hg hat; rw [← Ny497.out] at ho; have n0_ := ak (hb); have n1_ := ak (ho); clear HB; clear HO496; have HB := n0_; have HO499 := n1_; clear n0_ n1_; clear ho hb hg hat))
  go_ret
  exact ⟨_, ew, vr HO499.out, vb HB.out⟩
 ·exact nO_ c2 H


/-! ### impl_distanceFor: function 123 -/
def impl_distanceFor.l0 : Nat → Int → Int → Int → List (S91) → Int → Int → Option (Int)
 | 0, _, _, _, _, _, _ => none
 | k + 1, x1, x2, x7, x10, x11, x12 => if x12 < x11 then (if 0 ≤ x12 then (if x12 < (x10.length : Int) then (if ((rd_T91 x10 x12).f0) = x2 then (if ((rd_T91 x10 x12).f1) ≥ x1 then (some ((rd_T91 x10 x12).f2)) else (impl_distanceFor.l0 k x1 x2 (-1) x10 x11 (wrap64 (x12 + 1)))) else (impl_distanceFor.l0 k x1 x2 x7 x10 x11 (wrap64 (x12 + 1)))) else (none)) else (none)) else (some x7)
def impl_distanceFor.f (k : Nat) (l0 : List (S91)) (a1 : Int) (a2 : Int) : Option (Int) := impl_distanceFor.l0 k a1 a2 0 l0 (l0.length : Int) 0
theorem impl_distanceFor.mono_l : ∀ k, (∀ y0 y1 y2 y3 y4 y5, LeO (impl_distanceFor.l0 k y0 y1 y2 y3 y4 y5) (impl_distanceFor.l0 (k + 1) y0 y1 y2 y3 y4 y5))
 | 0 => fun _ _ _ _ _ _ r h => by simp [impl_distanceFor.l0] at h
 | k + 1 => by
  have ih0 := impl_distanceFor.mono_l k
  ·intro y0 y1 y2 y3 y4 y5; unfold impl_distanceFor.l0
   repeat' (with_reducible first | exact ih0 .. | exact LeO.refl .. | exact LeO.none .. | refine LeO.ite ?_ ?_ | refine LeO.bind ?_ (fun _ => ?_))
theorem impl_distanceFor.mono : ∀ a0 a1 a2 k, LeO (impl_distanceFor.f k a0 a1 a2) (impl_distanceFor.f (k + 1) a0 a1 a2) := by
 intro a0 a1 a2 k; have ih0 := impl_distanceFor.mono_l k; unfold impl_distanceFor.f
 repeat' (with_reducible first | exact ih0 .. | exact LeO.refl .. | exact LeO.none .. | refine LeO.ite ?_ ?_ | refine LeO.bind ?_ (fun _ => ?_))
set_option maxHeartbeats 8000000 in
set_option maxRecDepth 100000 in
theorem impl_distanceFor.calls (k : Nat) (A0 : Option Addr) (c0 : Nat) (l0 : List (S91)) (a1 : Int) (a2 : Int) (r : Int) (w : World) (hr0 : Kd.C k91 w A0 l0.length l0) (hc0 : l0.length ≤ c0) (h : impl_distanceFor.f k l0 a1 a2 = some r) :
  Calls Try.prog 123 #[.slice A0 l0.length c0, .int .i64 a1, .int .i64 a2] w fun e w' => e = .returned (.int .i64 r) ∧ Below w.heap.size w w' := by
 have hu91 := Try.underlying91; have HR0 := ak hr0; have HC0 := ak hc0; clear hr0 hc0; have HB := ak (Below.refl w.heap.size w); unfold impl_distanceFor.f at h; have H := h; clear h; have H' := ak H; clear H; go_enter Try.func123, Try.ntmps123; go_wp2
 go_loopg [7, 12] k (fun kq v7 v12 w' => ∃ (x7_1 : Int) (x12_1 : Int), v7 = .int .i64 x7_1 ∧ v12 = .int .i64 x12_1 ∧ Aside0 (impl_distanceFor.l0 kq a1 a2 x7_1 l0 (l0.length : Int) x12_1 = some r) ∧ Aside0 (kq ≤ k) ∧ Aside0 (Below w.heap.size w w'))
 case atStart => exact ⟨(0), (0), es, es, H', ⟨Nat.le_refl _⟩, ⟨vb HB.out⟩⟩
 case round =>
  clear H'; (try clear c1); (try clear p2); obtain ⟨x7_1, x12_1, rfl, rfl, HA, HK1, HB⟩ := hrel
  cases gk with
  | zero => exact absurd HA.out (by simp [impl_distanceFor.l0])
  | succ k1 =>
   have H := HA.out; clear HA; simp only [impl_distanceFor.l0] at H
   by_cases c4 : x12_1 < (l0.length : Int)
   ·rw [if_pos c4] at H; have c4b0 := decide_eq_true c4; clear c4; by_cases c5 : 0 ≤ x12_1
    ·rw [if_pos c5] at H; have c5b0 := decide_eq_true c5; clear c5; by_cases c6 : x12_1 < (l0.length : Int)
     ·rw [if_pos c6] at H; have c6b0 := decide_eq_true c6; clear c6; by_cases c7 : ((rd_T91 l0 x12_1).f0) = a2
      ·rw [if_pos c7] at H; have c7b0 : (((rd_T91 l0 x12_1).f0) == a2) = true := beq_iff_eq.mpr c7; have c7b1 : (((rd_T91 l0 x12_1).f0) != a2) = false := bne_eq_false_iff_eq.mpr c7; clear c7; by_cases c8 : ((rd_T91 l0 x12_1).f1) ≥ a1
       ·rw [if_pos c8] at H; have c8b0 := decide_eq_true c8; clear c8; obtain rfl := sj H; have p524 : 0 ≤ (x12_1 : Int) := od; have q524 : x12_1 < (l0.length : Int) := od; obtain ⟨ad524, e524, hx524_0, hx524_1, hx524_2⟩ := at_T91 HR0.out x12_1 p524 q524
        cases e524; replace hx524_0 := cb HB.out hx524_0; replace hx524_1 := cb HB.out hx524_1; replace hx524_2 := cb HB.out hx524_2; replace p524 := eq_true p524; replace q524 := eq_true q524; go_wp2_with (first | ((with_reducible refine gate_dst (N := 9) rfl ?_); refine bx 9 #[.int .i64 0, .int .i64 0, .int .i64 0] 91 ?_; intro gb525 hg w9 hbox hb; have BK525 := ak hbox; have GW525 := gw hg HB; have GE525 := gw hg HB; replace HB := bs HB hb; clear hb hbox hg; have hcz10 := cz3 BK525.out))
        go_ret
        exact ⟨ew, vb HB.out⟩
       ·rw [if_neg c8] at H; have c8b0 := decide_eq_false c8; clear c8; have H' := ak H; clear H; have p524 : 0 ≤ (x12_1 : Int) := od; have q524 : x12_1 < (l0.length : Int) := od; obtain ⟨ad524, e524, hx524_0, hx524_1, hx524_2⟩ := at_T91 HR0.out x12_1 p524 q524
        cases e524; replace hx524_0 := cb HB.out hx524_0; replace hx524_1 := cb HB.out hx524_1; replace hx524_2 := cb HB.out hx524_2; replace p524 := eq_true p524; replace q524 := eq_true q524; go_wp2_with (first | ((with_reducible refine gate_dst (N := 9) rfl ?_); refine bx 9 #[.int .i64 0, .int .i64 0, .int .i64 0] 91 ?_; intro gb525 hg w11 hbox hb; have BK525 := ak hbox; have GW525 := gw hg HB; have GE525 := gw hg HB; replace HB := bs HB hb; clear hb hbox hg; have hcz12 := cz3 BK525.out))
        go_roundg k1
        case measure => have := HK1.out; omega
        case rel => exact ⟨((-1)), (wrap64 (x12_1 + 1)), es, es, H', ⟨by have := HK1.out; omega⟩, ⟨vb HB.out⟩⟩
      ·rw [if_neg c7] at H; have c7b0 : (((rd_T91 l0 x12_1).f0) == a2) = false := beq_eq_false_iff_ne.mpr c7; have c7b1 : (((rd_T91 l0 x12_1).f0) != a2) = true := bne_iff_ne.mpr c7; have H' := ak H; clear H; have p524 : 0 ≤ (x12_1 : Int) := od; have q524 : x12_1 < (l0.length : Int) := od; obtain ⟨ad524, e524, hx524_0, hx524_1, hx524_2⟩ := at_T91 HR0.out x12_1 p524 q524
       cases e524; replace hx524_0 := cb HB.out hx524_0; replace hx524_1 := cb HB.out hx524_1; replace hx524_2 := cb HB.out hx524_2; replace p524 := eq_true p524; replace q524 := eq_true q524; go_wp2_with (first | ((with_reducible refine gate_dst (N := 9) rfl ?_); refine bx 9 #[.int .i64 0, .int .i64 0, .int .i64 0] 91 ?_; intro gb525 hg w13 hbox hb; have BK525 := ak hbox; have GW525 := gw hg HB; have GE525 := gw hg HB; replace HB := bs HB hb; clear hb hbox hg; have hcz14 := cz3 BK525.out))
       go_roundg k1
       case measure => have := HK1.out; omega
       case rel => exact ⟨(x7_1), (wrap64 (x12_1 + 1)), es, es, H', ⟨by have := HK1.out; omega⟩, ⟨vb HB.out⟩⟩
     ·exact nO_ c6 H
    ·exact nO_ c5 H
   ·rw [if_neg c4] at H; have c4b0 := decide_eq_false c4; clear c4; obtain rfl := sj H; go_wp2
    go_ret
    exact ⟨ew, vb HB.out⟩


/-! ### impl_squareTo: function 124 -/
def impl_squareTo.f (a0_0 : Int) (a0_1 : Int) (a0_2 : Int) (a0_3 : Int) (a0_4 : Int) (a1 : Int) (a2 : Int) : Option (Int) := some (wrap64 ((wrap64 ((mx (mx 0 (wrap64 (a0_1 - a1))) (wrap64 ((wrap64 (a1 - a0_1)) - a0_3))) * (mx (mx 0 (wrap64 (a0_1 - a1))) (wrap64 ((wrap64 (a1 - a0_1)) - a0_3))))) + (wrap64 ((mx (mx 0 (wrap64 (a0_2 - a2))) (wrap64 ((wrap64 (a2 - a0_2)) - a0_4))) * (mx (mx 0 (wrap64 (a0_2 - a2))) (wrap64 ((wrap64 (a2 - a0_2)) - a0_4)))))))
set_option maxHeartbeats 8000000 in
set_option maxRecDepth 100000 in
theorem impl_squareTo.calls (a0_0 : Int) (a0_1 : Int) (a0_2 : Int) (a0_3 : Int) (a0_4 : Int) (a1 : Int) (a2 : Int) (r : Int) (w : World) (h : impl_squareTo.f a0_0 a0_1 a0_2 a0_3 a0_4 a1 a2 = some r) :
  Calls Try.prog 124 #[.agg #[.int .i64 a0_0, .int .i64 a0_1, .int .i64 a0_2, .int .i64 a0_3, .int .i64 a0_4], .int .i64 a1, .int .i64 a2] w fun e w' => e = .returned (.int .i64 r) ∧ Below w.heap.size w w' := by
 have hu69 := Try.underlying69; have HB := ak (Below.refl w.heap.size w); unfold impl_squareTo.f at h; have H := h; clear h; obtain ⟨ji4, hji4⟩ : ∃ j_ : Int, (mx 0 (wrap64 (a0_1 - a1))) = j_ := ⟨_, rfl⟩; replace H : (some (wrap64 ((wrap64 ((mx (ji4) (wrap64 ((wrap64 (a1 - a0_1)) - a0_3))) * (mx (ji4) (wrap64 ((wrap64 (a1 - a0_1)) - a0_3))))) + (wrap64 ((mx (mx 0 (wrap64 (a0_2 - a2))) (wrap64 ((wrap64 (a2 - a0_2)) - a0_4))) * (mx (mx 0 (wrap64 (a0_2 - a2))) (wrap64 ((wrap64 (a2 - a0_2)) - a0_4)))))))) = some r := by first | (rw [hji4] at H; exact H) | (simp only [hji4] at H ⊢; exact H)
 (try (have hji4l : 0 ≤ ji4 := by (rw [← hji4]; unfold mx; (repeat' split) <;> omega)))
 (try (have hji4m : 0 ≤ ji4 := by omega))
 have hji4_ : (if 0 < (wrap64 (a0_1 - a1)) then (wrap64 (a0_1 - a1)) else 0) = ji4 := hji4; obtain ⟨ji5, hji5⟩ : ∃ j_ : Int, (mx (ji4) (wrap64 ((wrap64 (a1 - a0_1)) - a0_3))) = j_ := ⟨_, rfl⟩; replace H : (some (wrap64 ((wrap64 ((ji5) * (ji5))) + (wrap64 ((mx (mx 0 (wrap64 (a0_2 - a2))) (wrap64 ((wrap64 (a2 - a0_2)) - a0_4))) * (mx (mx 0 (wrap64 (a0_2 - a2))) (wrap64 ((wrap64 (a2 - a0_2)) - a0_4)))))))) = some r := by first | (rw [hji5] at H; exact H) | (simp only [hji5] at H ⊢; exact H)
 have hji5_ : (if (ji4) < (wrap64 ((wrap64 (a1 - a0_1)) - a0_3)) then (wrap64 ((wrap64 (a1 - a0_1)) - a0_3)) else (ji4)) = ji5 := hji5; obtain ⟨ji6, hji6⟩ : ∃ j_ : Int, (mx 0 (wrap64 (a0_2 - a2))) = j_ := ⟨_, rfl⟩; replace H : (some (wrap64 ((wrap64 ((ji5) * (ji5))) + (wrap64 ((mx (ji6) (wrap64 ((wrap64 (a2 - a0_2)) - a0_4))) * (mx (ji6) (wrap64 ((wrap64 (a2 - a0_2)) - a0_4)))))))) = some r := by first | (rw [hji6] at H; exact H) | (simp only [hji6] at H ⊢; exact H)
 (try (have hji6l : 0 ≤ ji6 := by (rw [← hji6]; unfold mx; (repeat' split) <;> omega)))
 (try (have hji6m : 0 ≤ ji6 := by omega))
 have hji6_ : (if 0 < (wrap64 (a0_2 - a2)) then (wrap64 (a0_2 - a2)) else 0) = ji6 := hji6; obtain ⟨ji7, hji7⟩ : ∃ j_ : Int, (mx (ji6) (wrap64 ((wrap64 (a2 - a0_2)) - a0_4))) = j_ := ⟨_, rfl⟩; replace H : (some (wrap64 ((wrap64 ((ji5) * (ji5))) + (wrap64 ((ji7) * (ji7)))))) = some r := by first | (rw [hji7] at H; exact H) | (simp only [hji7] at H ⊢; exact H)
 have hji7_ : (if (ji6) < (wrap64 ((wrap64 (a2 - a0_2)) - a0_4)) then (wrap64 ((wrap64 (a2 - a0_2)) - a0_4)) else (ji6)) = ji7 := hji7; obtain rfl := sj H; go_enter Try.func124, Try.ntmps124; go_wp2_with (first | ((with_reducible refine gate_dst (N := 3) rfl ?_); refine bx 3 #[.int .i64 a0_0, .int .i64 a0_1, .int .i64 a0_2, .int .i64 a0_3, .int .i64 a0_4] 69 ?_; intro gb526 hg w8 hbox hb; have BK526 := ak hbox; have GW526 := gw hg HB; have GE526 := gw hg HB; replace HB := bs HB hb; clear hb hbox hg; have hcz9 := cz5 BK526.out))
 go_ret
 exact ⟨by first | rfl | (simp [errW_none, errW_some] <;> rfl) | (simp only [← hji4, ← hji5, ← hji6, ← hji7]; first | rfl | (simp [errW_none, errW_some] <;> rfl)) | (simp [*, errW_none, errW_some] <;> rfl), vb HB.out⟩


/-! ### impl_areasAgainst: function 118 -/
def impl_areasAgainst.l0 : Nat → List (S91) → Int → Int → Int → List Int → List (S69) → Int → Int → Option (List Int)
 | 0, _, _, _, _, _, _, _, _ => none
 | k + 1, x0, x2, x3, x4, x11, x15, x16, x17 => if x17 < x16 then (if 0 ≤ x17 then (if x17 < (x15.length : Int) then ((impl_distanceFor.f k x0 x2 ((rd_T69 x15 x17).f0)).bind fun t529 => (if t529 < 0 then (if x11.length < 17592186044416 then (impl_areasAgainst.l0 k x0 x2 x3 x4 (x11 ++ [x17]) x15 x16 (wrap64 (x17 + 1))) else (none)) else ((impl_squareTo.f ((rd_T69 x15 x17).f0) ((rd_T69 x15 x17).f1) ((rd_T69 x15 x17).f2) ((rd_T69 x15 x17).f3) ((rd_T69 x15 x17).f4) x3 x4).bind fun t533 => (if t533 < (wrap64 (t529 * t529)) then (if x11.length < 17592186044416 then (impl_areasAgainst.l0 k x0 x2 x3 x4 (x11 ++ [x17]) x15 x16 (wrap64 (x17 + 1))) else (none)) else (impl_areasAgainst.l0 k x0 x2 x3 x4 x11 x15 x16 (wrap64 (x17 + 1))))))) else (none)) else (none)) else (some x11)
def impl_areasAgainst.f (k : Nat) (l0 : List (S91)) (l1 : List (S69)) (a2 : Int) (a3 : Int) (a4 : Int) : Option (List Int) := impl_areasAgainst.l0 k l0 a2 a3 a4 ([] : List Int) l1 (l1.length : Int) 0
theorem impl_areasAgainst.mono_l : ∀ k, (∀ y0 y1 y2 y3 y4 y5 y6 y7, LeO (impl_areasAgainst.l0 k y0 y1 y2 y3 y4 y5 y6 y7) (impl_areasAgainst.l0 (k + 1) y0 y1 y2 y3 y4 y5 y6 y7))
 | 0 => fun _ _ _ _ _ _ _ _ r h => by simp [impl_areasAgainst.l0] at h
 | k + 1 => by
  have ih0 := impl_areasAgainst.mono_l k
  ·intro y0 y1 y2 y3 y4 y5 y6 y7; unfold impl_areasAgainst.l0
   repeat' (with_reducible first | exact ih0 .. | exact impl_distanceFor.mono .. | exact LeO.refl .. | exact LeO.none .. | refine LeO.ite ?_ ?_ | refine LeO.bind ?_ (fun _ => ?_))
theorem impl_areasAgainst.mono : ∀ a0 a1 a2 a3 a4 k, LeO (impl_areasAgainst.f k a0 a1 a2 a3 a4) (impl_areasAgainst.f (k + 1) a0 a1 a2 a3 a4) := by
 intro a0 a1 a2 a3 a4 k; have ih0 := impl_areasAgainst.mono_l k; unfold impl_areasAgainst.f
 repeat' (with_reducible first | exact ih0 .. | exact impl_distanceFor.mono .. | exact LeO.refl .. | exact LeO.none .. | refine LeO.ite ?_ ?_ | refine LeO.bind ?_ (fun _ => ?_))
set_option maxHeartbeats 8000000 in
set_option maxRecDepth 100000 in
theorem impl_areasAgainst.calls (k : Nat) (A0 : Option Addr) (c0 : Nat) (l0 : List (S91)) (A1 : Option Addr) (c1 : Nat) (l1 : List (S69)) (a2 : Int) (a3 : Int) (a4 : Int) (r : List Int) (w : World) (hr0 : Kd.C k91 w A0 l0.length l0) (hc0 : l0.length ≤ c0) (hr1 : Kd.C k69 w A1 l1.length l1) (hc1 : l1.length ≤ c1) (h : impl_areasAgainst.f k l0 l1 a2 a3 a4 = some r) :
  Calls Try.prog 118 #[.slice A0 l0.length c0, .slice A1 l1.length c1, .int .i64 a2, .int .i64 a3, .int .i64 a4] w fun e w' => ∃ v0_ : Value, e = .returned (v0_) ∧ Kd.R (Kd.int .i64) 2 w' w.heap.size (fun _ => True) v0_ r ∧ Below w.heap.size w w' := by
 have hu69 := Try.underlying69; have HR0 := ak hr0; have HC0 := ak hc0; clear hr0 hc0; have HR1 := ak hr1; have HC1 := ak hc1; clear hr1 hc1; have HB := ak (Below.refl w.heap.size w); unfold impl_areasAgainst.f at h; have H := h; clear h; have H' := ak H; clear H; go_enter Try.func118, Try.ntmps118; go_wp2
 go_loopg [11, 17] k (fun kq v11 v17 w' => ∃ (x11_1 : List Int) (x17_1 : Int), v17 = .int .i64 x17_1 ∧ Aside0 (impl_areasAgainst.l0 kq l0 a2 a3 a4 x11_1 l1 (l1.length : Int) x17_1 = some r) ∧ Aside0 (kq ≤ k) ∧ Aside0 (Kd.R (Kd.int .i64) 2 w' w.heap.size (fun _ => True) v11 x11_1) ∧ Aside0 (Below w.heap.size w w'))
 case atStart => exact ⟨(([] : List Int)), (0), es, H', ⟨Nat.le_refl _⟩, ⟨by first | exact Kd.R_nil _ _ _ _ _ | exact Kd.N_nil _ _ _ _ _ | exact Kd.V_nil _ _ _ _ _ | exact Kd.Q_nil _ _ _ _ _ | exact Kd.S_nil _ _ _ _ _⟩, ⟨vb HB.out⟩⟩
 case round =>
  clear H'; (try clear c1); (try clear p2); obtain ⟨x11_1, x17_1, rfl, HA, HK1, HO_11, HB⟩ := hrel
  cases gk with
  | zero => exact absurd HA.out (by simp [impl_areasAgainst.l0])
  | succ k1 =>
   have H := HA.out; clear HA; simp only [impl_areasAgainst.l0] at H
   by_cases c6 : x17_1 < (l1.length : Int)
   ·rw [if_pos c6] at H; have c6b0 := decide_eq_true c6; clear c6; by_cases c7 : 0 ≤ x17_1
    ·rw [if_pos c7] at H; have c7b0 := decide_eq_true c7; clear c7; by_cases c8 : x17_1 < (l1.length : Int)
     ·rw [if_pos c8] at H; have c8b0 := decide_eq_true c8; clear c8; obtain ⟨t529, A9, H⟩ := bnk H; by_cases c10 : t529 < 0
      ·rw [if_pos c10] at H; have c10b0 := decide_eq_true c10; clear c10; by_cases c11 : x11_1.length < 17592186044416
       ·rw [if_pos c11] at H; have LMc11 := ak c11; clear c11; obtain ⟨y530, hy530⟩ := gen_ ((x11_1 ++ [x17_1] : List Int)); rw [← hy530] at H; have Ny530 := ak hy530; clear hy530; have H' := ak H; clear H; have p527 : 0 ≤ (x17_1 : Int) := od; have q527 : x17_1 < (l1.length : Int) := od; obtain ⟨ad527, e527, hx527_0, hx527_1, hx527_2, hx527_3, hx527_4⟩ := at_T69 HR1.out x17_1 p527 q527
        cases e527; replace hx527_0 := cb HB.out hx527_0; replace hx527_1 := cb HB.out hx527_1; replace hx527_2 := cb HB.out hx527_2; replace hx527_3 := cb HB.out hx527_3; replace hx527_4 := cb HB.out hx527_4; replace p527 := eq_true p527; replace q527 := eq_true q527; go_wp2_with (first | ((with_reducible refine gate_dst (N := 13) rfl ?_); refine bx 13 #[.int .i64 0, .int .i64 0, .int .i64 0, .int .i64 0, .int .i64 0] 69 ?_; intro gb528 hg w12 hbox hb; replace HO_11 := ak (Kd.R_below (vr HO_11.out) hb); have BK528 := ak hbox; have GW528 := gw hg HB; have GE528 := gw hg HB; replace HB := bs HB hb; clear hb hbox hg; have hcz13 := cz5 BK528.out) | ((with_reducible refine at_fn (f := 123) rfl ?_); refine gl (some 26) Try.func123 #[.slice A0 l0.length c0, .int .i64 a2, .int .i64 ((rd_T69 l1 x17_1).f0)] ?_; (with_reducible refine (impl_distanceFor.calls k1 _ _ l0 a2 ((rd_T69 l1 x17_1).f0) t529 _ ?_ HC0.out A9.out).mono ?_); exact Kd.C_below HR0.out (vb HB.out); rintro e w14 ⟨rfl, hb⟩; refine ⟨_, rfl, ?_⟩; replace HO_11 := ak (Kd.R_below (rz HO_11.out BK528.out) hb); replace BK528 := ak (blk_below (g := gb528) (o := .cells #[.int .i64 ((rd_T69 l1 x17_1).f0), .int .i64 ((rd_T69 l1 x17_1).f1), .int .i64 ((rd_T69 l1 x17_1).f2), .int .i64 ((rd_T69 l1 x17_1).f3), .int .i64 ((rd_T69 l1 x17_1).f4)] 69 (0, 0)) (vz BK528.out) hb); replace HB := bs HB hb; (try clear hb); (try clear hb2); (try clear hk); (try clear hi)) | ((with_reducible refine at_bi (b := .append) (xs := #[.tmp 39, .tmp 41]) rfl ?_); at_builtin; refine Kd.R_append (Kd.int .i64) (w0 := w) w.heap.size rfl (.tmp 39) (.tmp 41) 26 2 (.int .i64 0) 8 rfl Try.underlying26 info2 rfl (by decide) (by omega) u11 x11_1 x17_1 [.int .i64 x17_1] (fun _ => True) (fun _ => False) rfl rfl ?aP (fun _ hk => hk.elim) ?aF ?aO ?aB ?aS ?aL ?_; (case aP => exact rfl); (case aB => exact (vb HB.out)); (case aF => exact (fun _ _ => trivial)); (case aO => exact (vr HO_11.out)); (case aS => exact (below_size (vb HB.out))); (case aL => have := LMc11.out; omega); intro v531 w15 ho hb hg hat; rw [← Ny530.out] at ho; have n0_ := ak (blk_grown (g := gb528) (o := .cells #[.int .i64 ((rd_T69 l1 x17_1).f0), .int .i64 ((rd_T69 l1 x17_1).f1), .int .i64 ((rd_T69 l1 x17_1).f2), .int .i64 ((rd_T69 l1 x17_1).f3), .int .i64 ((rd_T69 l1 x17_1).f4)] 69 (0, 0)) (vk BK528.out) hg (Kd.R_ne HO_11.out BK528.out (by decide))); have n1_ := ak (hb); have n2_ := ak (ho); clear BK528; clear HB; clear HO_11; have BK528 := n0_; have HB := n1_; have HO532 := n2_; clear n0_ n1_ n2_; clear ho hb hg hat))
        go_roundg k1
        case measure => have := HK1.out; omega
        case rel => exact ⟨(y530), (wrap64 (x17_1 + 1)), es, H', ⟨by have := HK1.out; omega⟩, ⟨vr HO532.out⟩, ⟨vb HB.out⟩⟩
       ·exact nO_ c11 H
      ·rw [if_neg c10] at H; have c10b0 := decide_eq_false c10; clear c10; obtain ⟨t533, A16, H⟩ := bnk H; by_cases c17 : t533 < (wrap64 (t529 * t529))
       ·rw [if_pos c17] at H; have c17b0 := decide_eq_true c17; clear c17; by_cases c18 : x11_1.length < 17592186044416
        ·rw [if_pos c18] at H; have LMc18 := ak c18; clear c18; obtain ⟨y534, hy534⟩ := gen_ ((x11_1 ++ [x17_1] : List Int)); rw [← hy534] at H; have Ny534 := ak hy534; clear hy534; have H' := ak H; clear H; have p527 : 0 ≤ (x17_1 : Int) := od; have q527 : x17_1 < (l1.length : Int) := od; obtain ⟨ad527, e527, hx527_0, hx527_1, hx527_2, hx527_3, hx527_4⟩ := at_T69 HR1.out x17_1 p527 q527
         cases e527; replace hx527_0 := cb HB.out hx527_0; replace hx527_1 := cb HB.out hx527_1; replace hx527_2 := cb HB.out hx527_2; replace hx527_3 := cb HB.out hx527_3; replace hx527_4 := cb HB.out hx527_4; replace p527 := eq_true p527; replace q527 := eq_true q527; go_wp2_with (first | ((with_reducible refine gate_dst (N := 13) rfl ?_); refine bx 13 #[.int .i64 0, .int .i64 0, .int .i64 0, .int .i64 0, .int .i64 0] 69 ?_; intro gb528 hg w19 hbox hb; replace HO_11 := ak (Kd.R_below (vr HO_11.out) hb); have BK528 := ak hbox; have GW528 := gw hg HB; have GE528 := gw hg HB; replace HB := bs HB hb; clear hb hbox hg; have hcz20 := cz5 BK528.out) | ((with_reducible refine at_fn (f := 123) rfl ?_); refine gl (some 26) Try.func123 #[.slice A0 l0.length c0, .int .i64 a2, .int .i64 ((rd_T69 l1 x17_1).f0)] ?_; (with_reducible refine (impl_distanceFor.calls k1 _ _ l0 a2 ((rd_T69 l1 x17_1).f0) t529 _ ?_ HC0.out A9.out).mono ?_); exact Kd.C_below HR0.out (vb HB.out); rintro e w21 ⟨rfl, hb⟩; refine ⟨_, rfl, ?_⟩; replace HO_11 := ak (Kd.R_below (rz HO_11.out BK528.out) hb); replace BK528 := ak (blk_below (g := gb528) (o := .cells #[.int .i64 ((rd_T69 l1 x17_1).f0), .int .i64 ((rd_T69 l1 x17_1).f1), .int .i64 ((rd_T69 l1 x17_1).f2), .int .i64 ((rd_T69 l1 x17_1).f3), .int .i64 ((rd_T69 l1 x17_1).f4)] 69 (0, 0)) (vz BK528.out) hb); replace HB := bs HB hb; (try clear hb); (try clear hb2); (try clear hk); (try clear hi); have hcz22 := cz5 BK528.out) | (go_at_call 124; (with_reducible refine (impl_squareTo.calls ((rd_T69 l1 x17_1).f0) ((rd_T69 l1 x17_1).f1) ((rd_T69 l1 x17_1).f2) ((rd_T69 l1 x17_1).f3) ((rd_T69 l1 x17_1).f4) a3 a4 t533 _ A16.out).mono ?_); rintro e w23 ⟨rfl, hb⟩; replace HO_11 := ak (Kd.R_below (vr HO_11.out) hb); replace BK528 := kb BK528 hb; replace HB := bs HB hb; (try clear hb); (try clear hb2); (try clear hk); (try clear hi)) | ((with_reducible refine at_bi (b := .append) (xs := #[.tmp 39, .tmp 41]) rfl ?_); at_builtin; refine Kd.R_append (Kd.int .i64) (w0 := w) w.heap.size rfl (.tmp 39) (.tmp 41) 26 2 (.int .i64 0) 8 rfl Try.underlying26 info2 rfl (by decide) (by omega) u11 x11_1 x17_1 [.int .i64 x17_1] (fun _ => True) (fun _ => False) rfl rfl ?aP (fun _ hk => hk.elim) ?aF ?aO ?aB ?aS ?aL ?_; (case aP => exact rfl); (case aB => exact (vb HB.out)); (case aF => exact (fun _ _ => trivial)); (case aO => exact (vr HO_11.out)); (case aS => exact (below_size (vb HB.out))); (case aL => have := LMc18.out; omega); intro v535 w24 ho hb hg hat; rw [← Ny534.out] at ho; have n0_ := ak (blk_grown (g := gb528) (o := .cells #[.int .i64 ((rd_T69 l1 x17_1).f0), .int .i64 ((rd_T69 l1 x17_1).f1), .int .i64 ((rd_T69 l1 x17_1).f2), .int .i64 ((rd_T69 l1 x17_1).f3), .int .i64 ((rd_T69 l1 x17_1).f4)] 69 (0, 0)) (vk BK528.out) hg (Kd.R_ne HO_11.out BK528.out (by decide))); have n1_ := ak (hb); have n2_ := ak (ho); clear BK528; clear HB; clear HO_11; have BK528 := n0_; have HB := n1_; have HO536 := n2_; clear n0_ n1_ n2_; clear ho hb hg hat))
         go_roundg k1
         case measure => have := HK1.out; omega
         case rel => exact ⟨(y534), (wrap64 (x17_1 + 1)), es, H', ⟨by have := HK1.out; omega⟩, ⟨vr HO536.out⟩, ⟨vb HB.out⟩⟩
        ·exact nO_ c18 H
       ·rw [if_neg c17] at H; have c17b0 := decide_eq_false c17; clear c17; have H' := ak H; clear H; have p527 : 0 ≤ (x17_1 : Int) := od; have q527 : x17_1 < (l1.length : Int) := od; obtain ⟨ad527, e527, hx527_0, hx527_1, hx527_2, hx527_3, hx527_4⟩ := at_T69 HR1.out x17_1 p527 q527
        cases e527; replace hx527_0 := cb HB.out hx527_0; replace hx527_1 := cb HB.out hx527_1; replace hx527_2 := cb HB.out hx527_2; replace hx527_3 := cb HB.out hx527_3; replace hx527_4 := cb HB.out hx527_4; replace p527 := eq_true p527; replace q527 := eq_true q527; go_wp2_with (first | ((with_reducible refine gate_dst (N := 13) rfl ?_); refine bx 13 #[.int .i64 0, .int .i64 0, .int .i64 0, .int .i64 0, .int .i64 0] 69 ?_; intro gb528 hg w25 hbox hb; replace HO_11 := ak (Kd.R_below (vr HO_11.out) hb); have BK528 := ak hbox; have GW528 := gw hg HB; have GE528 := gw hg HB; replace HB := bs HB hb; clear hb hbox hg; have hcz26 := cz5 BK528.out) | ((with_reducible refine at_fn (f := 123) rfl ?_); refine gl (some 26) Try.func123 #[.slice A0 l0.length c0, .int .i64 a2, .int .i64 ((rd_T69 l1 x17_1).f0)] ?_; (with_reducible refine (impl_distanceFor.calls k1 _ _ l0 a2 ((rd_T69 l1 x17_1).f0) t529 _ ?_ HC0.out A9.out).mono ?_); exact Kd.C_below HR0.out (vb HB.out); rintro e w27 ⟨rfl, hb⟩; refine ⟨_, rfl, ?_⟩; replace HO_11 := ak (Kd.R_below (rz HO_11.out BK528.out) hb); replace BK528 := ak (blk_below (g := gb528) (o := .cells #[.int .i64 ((rd_T69 l1 x17_1).f0), .int .i64 ((rd_T69 l1 x17_1).f1), .int .i64 ((rd_T69 l1 x17_1).f2), .int .i64 ((rd_T69 l1 x17_1).f3), .int .i64 ((rd_T69 l1 x17_1).f4)] 69 (0, 0)) (vz BK528.out) hb); replace HB := bs HB hb; (try clear hb); (try clear hb2); (try clear hk); (try clear hi); have hcz28 := cz5 BK528.out) | (go_at_call 124; (with_reducible refine (impl_squareTo.calls ((rd_T69 l1 x17_1).f0) ((rd_T69 l1 x17_1).f1) ((rd_T69 l1 x17_1).f2) ((rd_T69 l1 x17_1).f3) ((rd_T69 l1 x17_1).f4) a3 a4 t533 _ A16.out).mono ?_); rintro e w29 ⟨rfl, hb⟩; replace HO_11 := ak (Kd.R_below (vr HO_11.out) hb); replace BK528 := kb BK528 hb; replace HB := bs HB hb; (try clear hb); (try clear hb2); (try clear hk); (try clear hi)))
        go_roundg k1
        case measure => have := HK1.out; omega
        case rel => exact ⟨(x11_1), (wrap64 (x17_1 + 1)), es, H', ⟨by have := HK1.out; omega⟩, ⟨vr HO_11.out⟩, ⟨vb HB.out⟩⟩
     ·exact nO_ c8 H
    ·exact nO_ c7 H
   ·rw [if_neg c6] at H; have c6b0 := decide_eq_false c6; clear c6; obtain rfl := sj H; go_wp2
    go_ret
    exact ⟨_, ew, vr HO_11.out, vb HB.out⟩


/-! ### impl_isAllowed: function 104 -/
def impl_isAllowed.f (k : Nat) (l0 : List (S91)) (l1 : List (S69)) (a2 : Int) (a3 : Int) (a4 : Int) : Option (Bool) := (impl_areasAgainst.f k l0 l1 a2 a3 a4).bind fun t537 => (some ((t537.length : Int) == 0))
theorem impl_isAllowed.mono : ∀ a0 a1 a2 a3 a4 k, LeO (impl_isAllowed.f k a0 a1 a2 a3 a4) (impl_isAllowed.f (k + 1) a0 a1 a2 a3 a4) := by
 intro a0 a1 a2 a3 a4 k; unfold impl_isAllowed.f
 repeat' (with_reducible first | exact impl_areasAgainst.mono .. | exact LeO.refl .. | exact LeO.none .. | refine LeO.ite ?_ ?_ | refine LeO.bind ?_ (fun _ => ?_))
set_option maxHeartbeats 8000000 in
set_option maxRecDepth 100000 in
theorem impl_isAllowed.calls (k : Nat) (A0 : Option Addr) (c0 : Nat) (l0 : List (S91)) (A1 : Option Addr) (c1 : Nat) (l1 : List (S69)) (a2 : Int) (a3 : Int) (a4 : Int) (r : Bool) (w : World) (hr0 : Kd.C k91 w A0 l0.length l0) (hc0 : l0.length ≤ c0) (hr1 : Kd.C k69 w A1 l1.length l1) (hc1 : l1.length ≤ c1) (h : impl_isAllowed.f k l0 l1 a2 a3 a4 = some r) :
  Calls Try.prog 104 #[.slice A0 l0.length c0, .slice A1 l1.length c1, .int .i64 a2, .int .i64 a3, .int .i64 a4] w fun e w' => e = .returned (.bool r) ∧ Below w.heap.size w w' := by
 have HR0 := ak hr0; have HC0 := ak hc0; clear hr0 hc0; have HR1 := ak hr1; have HC1 := ak hc1; clear hr1 hc1; have HB := ak (Below.refl w.heap.size w); unfold impl_isAllowed.f at h; have H := h; clear h; obtain ⟨t537, A6, H⟩ := bnk H; obtain rfl := sj H; go_enter Try.func104, Try.ntmps104; go_wp2_with (first | ((with_reducible refine at_fn (f := 118) rfl ?_); refine gl (some 16) Try.func118 #[.slice A0 l0.length c0, .slice A1 l1.length c1, .int .i64 a2, .int .i64 a3, .int .i64 a4] ?_; (with_reducible refine (impl_areasAgainst.calls k _ _ l0 _ _ l1 a2 a3 a4 t537 _ ?_ HC0.out ?_ HC1.out A6.out).mono ?_); exact vc HR0.out; exact vc HR1.out; rintro e w7 ⟨v538, rfl, ho0, hb⟩; refine ⟨_, rfl, ?_⟩; have HO539 := ak (Kd.R_lower ho0 (below_size (vb HB.out))); replace HB := bs HB hb; (try clear hb); (try clear hb2); (try clear hk); (try clear hi); (try clear ho0); obtain ⟨Ao8, co8, eo8⟩ := Kd.R_slice HO539.out; subst eo8))
 go_ret
 exact ⟨ew, vb HB.out⟩


/-! ### impl_isFree: function 83 -/
def impl_isFree.l0 : Nat → Int → List Int → Int → Int → List (S91) → List (S69) → List Int → List Int → List Int → Int → Option (Bool)
 | 0, _, _, _, _, _, _, _, _, _, _ => none
 | k + 1, x3, x34, x35, x36, x541000, x541001, x541002, x541003, x541004, x541005 => if x36 < x35 then (if 0 ≤ x36 then (if x36 < (x34.length : Int) then (if 0 ≤ x3 then (if x3 < (x541003.length : Int) then (if 0 ≤ (rd x34 x36) then (if (rd x34 x36) < (x541003.length : Int) then (if x3 < (x541004.length : Int) then (if (rd x34 x36) < (x541004.length : Int) then (if x3 = (rd x34 x36) then (some false) else (if (wrap64 ((wrap64 ((wrap64 ((rd x541003 x3) - (rd x541003 (rd x34 x36)))) * (wrap64 ((rd x541003 x3) - (rd x541003 (rd x34 x36)))))) + (wrap64 ((wrap64 ((rd x541004 x3) - (rd x541004 (rd x34 x36)))) * (wrap64 ((rd x541004 x3) - (rd x541004 (rd x34 x36)))))))) < (wrap64 (x541005 * x541005)) then (some false) else (impl_isFree.l0 k x3 x34 x35 (wrap64 (x36 + 1)) x541000 x541001 x541002 x541003 x541004 x541005))) else (none)) else (none)) else (none)) else (none)) else (none)) else (none)) else (none)) else (none)) else (some true)
def impl_isFree.f (k : Nat) (l0_0 : List (S91)) (l0_1 : List (S69)) (l0_2 : List Int) (l0_3 : List Int) (l0_4 : List Int) (a0_5 : Int) (l1 : List Int) (a2 : Int) (a3 : Int) : Option (Bool) := if 0 ≤ a2 then (if a2 < (l0_2.length : Int) then (if 0 ≤ a3 then (if a3 < (l0_3.length : Int) then (if a3 < (l0_4.length : Int) then ((impl_isAllowed.f k l0_0 l0_1 (rd l0_2 a2) (rd l0_3 a3) (rd l0_4 a3)).bind fun t544 => (if t544 = true then (impl_isFree.l0 k a3 l1 (l1.length : Int) 0 l0_0 l0_1 l0_2 l0_3 l0_4 a0_5) else (some false))) else (none)) else (none)) else (none)) else (none)) else (none)
theorem impl_isFree.mono_l : ∀ k, (∀ y0 y1 y2 y3 y4 y5 y6 y7 y8 y9, LeO (impl_isFree.l0 k y0 y1 y2 y3 y4 y5 y6 y7 y8 y9) (impl_isFree.l0 (k + 1) y0 y1 y2 y3 y4 y5 y6 y7 y8 y9))
 | 0 => fun _ _ _ _ _ _ _ _ _ _ r h => by simp [impl_isFree.l0] at h
 | k + 1 => by
  have ih0 := impl_isFree.mono_l k
  ·intro y0 y1 y2 y3 y4 y5 y6 y7 y8 y9; unfold impl_isFree.l0
   repeat' (with_reducible first | exact ih0 .. | exact impl_isAllowed.mono .. | exact LeO.refl .. | exact LeO.none .. | refine LeO.ite ?_ ?_ | refine LeO.bind ?_ (fun _ => ?_))
theorem impl_isFree.mono : ∀ a0 a1 a2 a3 a4 a5 a6 a7 a8 k, LeO (impl_isFree.f k a0 a1 a2 a3 a4 a5 a6 a7 a8) (impl_isFree.f (k + 1) a0 a1 a2 a3 a4 a5 a6 a7 a8) := by
 intro a0 a1 a2 a3 a4 a5 a6 a7 a8 k; have ih0 := impl_isFree.mono_l k; unfold impl_isFree.f
 repeat' (with_reducible first | exact ih0 .. | exact impl_isAllowed.mono .. | exact LeO.refl .. | exact LeO.none .. | refine LeO.ite ?_ ?_ | refine LeO.bind ?_ (fun _ => ?_))
def impl_isFree.T1 : Bool × List (List Nat × List Nat) := (true, [([], []), ([0], [0]), ([], []), ([2], [2]), ([], []), ([4], [4]), ([], []), ([5, 6], [5, 6]), ([7], [7]), ([], []), ([9], [9]), ([], []), ([10, 11], [10, 11]), ([12], [12]), ([], []), ([14], [14]), ([], []), ([15, 16], [15, 16]), ([17], [17]), ([1, 3, 8, 13, 18], [1, 3, 8, 13, 18]), ([19], [19])])
def impl_isFree.B1 : List Nat := [0, 1, 0, 4, 0, 16, 0, 112, 240, 0, 512, 0, 3584, 7680, 0, 16384, 0, 114688, 245760, 524287, 1048575]
theorem impl_isFree.tab1 : rtab .any (opsOf Try.f83 1) = impl_isFree.T1 := by kernel_rfl
theorem impl_isFree.bits1 : waitsOk impl_isFree.T1.2 impl_isFree.B1 = true := by kernel_rfl
def impl_isFree.T6 : Bool × List (List Nat × List Nat) := (true, [([], []), ([0], [0]), ([], []), ([1, 2], [1, 2]), ([3], [3]), ([], []), ([5], [5]), ([], []), ([6, 7], [6, 7]), ([8], [8]), ([4, 9], [4, 9]), ([], []), ([11], [11]), ([], []), ([12, 13], [12, 13]), ([14], [14]), ([], []), ([16], [16]), ([], []), ([17, 18], [17, 18]), ([19], [19]), ([15, 20], [15, 20]), ([10, 0, 1, 2, 3, 4, 5, 6, 7, 8, 9, 10], [10]), ([21, 22, 0, 1, 2, 3, 4, 5, 6, 7, 8, 9, 10, 11, 12, 13, 14, 15, 16, 17, 18, 19, 20, 21, 22], [21])])
def impl_isFree.B6 : List Nat := [0, 1, 0, 7, 15, 0, 32, 0, 224, 480, 1023, 0, 2048, 0, 14336, 30720, 0, 65536, 0, 458752, 983040, 2095104, 2047, 8388607]
theorem impl_isFree.tab6 : rtab .any (opsOf Try.f83 6) = impl_isFree.T6 := by kernel_rfl
theorem impl_isFree.bits6 : waitsOk impl_isFree.T6.2 impl_isFree.B6 = true := by kernel_rfl
set_option maxHeartbeats 8000000 in
set_option maxRecDepth 100000 in
theorem impl_isFree.calls (k : Nat) (A0_0 : Option Addr) (c0_0 : Nat) (l0_0 : List (S91)) (A0_1 : Option Addr) (c0_1 : Nat) (l0_1 : List (S69)) (A0_2 : Option Addr) (c0_2 : Nat) (l0_2 : List Int) (A0_3 : Option Addr) (c0_3 : Nat) (l0_3 : List Int) (A0_4 : Option Addr) (c0_4 : Nat) (l0_4 : List Int) (a0_5 : Int) (A1 : Option Addr) (c1 : Nat) (l1 : List Int) (a2 : Int) (a3 : Int) (r : Bool) (w : World) (hr0_0 : Kd.C k91 w A0_0 l0_0.length l0_0) (hc0_0 : l0_0.length ≤ c0_0) (hr0_1 : Kd.C k69 w A0_1 l0_1.length l0_1) (hc0_1 : l0_1.length ≤ c0_1) (hr0_2 : Kd.C (Kd.int .i64) w A0_2 l0_2.length l0_2) (hc0_2 : l0_2.length ≤ c0_2) (hr0_3 : Kd.C (Kd.int .i64) w A0_3 l0_3.length l0_3) (hc0_3 : l0_3.length ≤ c0_3) (hr0_4 : Kd.C (Kd.int .i64) w A0_4 l0_4.length l0_4) (hc0_4 : l0_4.length ≤ c0_4) (hr1 : Kd.C (Kd.int .i64) w A1 l1.length l1) (hc1 : l1.length ≤ c1) (h : impl_isFree.f k l0_0 l0_1 l0_2 l0_3 l0_4 a0_5 l1 a2 a3 = some r) :
  Calls Try.prog 83 #[.agg (f5 A0_0 l0_0 c0_0 A0_1 l0_1 c0_1 A0_2 l0_2 c0_2 A0_3 l0_3 c0_3 A0_4 l0_4 c0_4 a0_5), .slice A1 l1.length c1, .int .i64 a2, .int .i64 a3] w fun e w' => e = .returned (.bool r) ∧ Below w.heap.size w w' := by
 have hu28 := Try.underlying28; have HR0_0 := ak hr0_0; have HC0_0 := ak hc0_0; clear hr0_0 hc0_0; have HR0_1 := ak hr0_1; have HC0_1 := ak hc0_1; clear hr0_1 hc0_1; have HR0_2 := ak hr0_2; have HC0_2 := ak hc0_2; clear hr0_2 hc0_2; have HR0_3 := ak hr0_3; have HC0_3 := ak hc0_3; clear hr0_3 hc0_3; have HR0_4 := ak hr0_4; have HC0_4 := ak hc0_4; clear hr0_4 hc0_4; have HR1 := ak hr1; have HC1 := ak hc1; clear hr1 hc1; have HB := ak (Below.refl w.heap.size w); unfold impl_isFree.f at h; have H := h; clear h; by_cases c5 : 0 ≤ a2
 ·rw [if_pos c5] at H; have c5b0 := decide_eq_true c5; clear c5; by_cases c6 : a2 < (l0_2.length : Int)
  ·rw [if_pos c6] at H; have c6b0 := decide_eq_true c6; clear c6; by_cases c7 : 0 ≤ a3
   ·rw [if_pos c7] at H; have c7b0 := decide_eq_true c7; clear c7; by_cases c8 : a3 < (l0_3.length : Int)
    ·rw [if_pos c8] at H; have c8b0 := decide_eq_true c8; clear c8; by_cases c9 : a3 < (l0_4.length : Int)
     ·rw [if_pos c9] at H; have c9b0 := decide_eq_true c9; clear c9; obtain ⟨t544, A10, H⟩ := bnk H; by_cases c11 : t544 = true
      ·subst c11; rw [if_pos rfl] at H; have H' := ak H; clear H; go_enter Try.func83, Try.ntmps83; (try go_wp2_with (first | ((with_reducible refine gate_dst (N := 4) rfl ?_); refine bx 4 (f5 A0_0 l0_0 c0_0 A0_1 l0_1 c0_1 A0_2 l0_2 c0_2 A0_3 l0_3 c0_3 A0_4 l0_4 c0_4 a0_5) 28 ?_; intro gb540 hg w12 hbox hb; have BK540 := ak hbox; have GW540 := gw hg HB; have GE540 := gw hg HB; replace HB := bs HB hb; clear hb hbox hg)))
       replace BK540 := ak (blk_drew BK540.out); replace HB := ak (below_drew1 HB.out); have p541 : 0 ≤ (a2 : Int) := od; have q541 : a2 < (l0_2.length : Int) := od; obtain ⟨ad541, e541, hx541_0⟩ := Kd.at_int HR0_2.out a2 p541 q541; have hw541_0 := hx541_0
       cases e541; replace hx541_0 := cb HB.out hx541_0; replace p541 := eq_true p541; replace q541 := eq_true q541; have p542 : 0 ≤ (a3 : Int) := od; have q542 : a3 < (l0_3.length : Int) := od; obtain ⟨ad542, e542, hx542_0⟩ := Kd.at_int HR0_3.out a3 p542 q542; have hw542_0 := hx542_0
       cases e542; replace hx542_0 := cb HB.out hx542_0; replace p542 := eq_true p542; replace q542 := eq_true q542; have p543 : 0 ≤ (a3 : Int) := od; have q543 : a3 < (l0_4.length : Int) := od; obtain ⟨ad543, e543, hx543_0⟩ := Kd.at_int HR0_4.out a3 p543 q543; have hw543_0 := hx543_0
       cases e543; replace hx543_0 := cb HB.out hx543_0; replace p543 := eq_true p543; replace q543 := eq_true q543; refine start_ (n := 21) (S := fun w' => w'.cell? ⟨gb540, 0, none⟩ = some (.slice A0_0 l0_0.length c0_0) ∧ w'.cell? ⟨gb540, 1, none⟩ = some (.slice A0_1 l0_1.length c0_1) ∧ w'.cell? ⟨gb540, 2, none⟩ = some (.slice (some ad541) l0_2.length c0_2) ∧ w'.cell? ⟨gb540, 3, none⟩ = some (.slice (some ad542) l0_3.length c0_3) ∧ w'.cell? ⟨gb540, 4, none⟩ = some (.slice (some ad543) l0_4.length c0_4) ∧ w'.cell? ⟨gb540, 5, none⟩ = some (.int .i64 a0_5) ∧ w'.cell? (ad541.add (a2).toNat) = some (.int .i64 (rd l0_2 a2)) ∧ w'.cell? (ad542.add (a3).toNat) = some (.int .i64 (rd l0_3 a3)) ∧ w'.cell? (ad543.add (a3).toNat) = some (.int .i64 (rd l0_4 a3))) (ds := []) (tf 0 21) (by kernel_rfl) rfl rfl ⟨bk BK540.out 0, bk BK540.out 1, bk BK540.out 2, bk BK540.out 3, bk BK540.out 4, bk BK540.out 5, (cb HB.out hw541_0), (cb HB.out hw542_0), (cb HB.out hw543_0)⟩ (fun hHeld => ?_); refine with_tabW impl_isFree.tab1 impl_isFree.bits1 (fun HT_ HW_ => ?_); generalize w12.drew = w13 at BK540 HB hx541_0 hx542_0 hx543_0 hHeld ⊢; refine pu_ 0 13 (tf 1 20) rfl rfl ?_; refine pu_ 2 15 (tM [1, 1, 1, 18]) rfl rfl ?_
       refine pu_ 4 17 (tM [1, 1, 1, 1, 1, 16]) rfl rfl ?_; refine pu_ 6 19 (tM [1, 1, 1, 1, 1, 1, 1, 14]) rfl rfl ?_; refine pu_ 9 22 (tM [1, 1, 1, 1, 1, 1, 1, 2, 1, 11]) rfl rfl ?_; refine pu_ 11 24 (tM [1, 1, 1, 1, 1, 1, 1, 2, 1, 1, 1, 9]) rfl rfl ?_; refine pu_ 14 27 (tM [1, 1, 1, 1, 1, 1, 1, 2, 1, 1, 1, 2, 1, 6]) rfl rfl ?_; refine pu_ 16 29 (tM [1, 1, 1, 1, 1, 1, 1, 2, 1, 1, 1, 2, 1, 1, 1, 4]) rfl rfl ?_; refine ta9_ 1 14 (tM [3, 1, 1, 1, 1, 2, 1, 1, 1, 2, 1, 1, 1, 4]) rfl rfl ?_; refine ta9_ 3 16 (tM [5, 1, 1, 2, 1, 1, 1, 2, 1, 1, 1, 4]) rfl rfl ?_; refine ta9_ 5 18 (tM [7, 2, 1, 1, 1, 2, 1, 1, 1, 4]) rfl rfl ?_
       refine pu_ 7 20 (tM [8, 1, 1, 1, 1, 2, 1, 1, 1, 4]) rfl rfl ?_; refine ta9_ 8 21 (tM [10, 1, 1, 2, 1, 1, 1, 4]) rfl rfl ?_; refine ta9_ 10 23 (tM [12, 2, 1, 1, 1, 4]) rfl rfl ?_; refine pu_ 12 25 (tM [13, 1, 1, 1, 1, 4]) rfl rfl ?_; refine ta9_ 13 26 (tM [15, 1, 1, 4]) rfl rfl ?_; refine ta9_ 15 28 (tf 17 4) rfl rfl ?_; refine pu_ 17 30 (tf 18 3) rfl rfl ?_; refine ta9_ 18 31 (tf 19 2) rfl rfl ?_; refine one_ (i := 19) (N := some 32) (tf 20 1) rfl rfl (one_of HT_.out (by kernel_rfl)) (by decide) (fun K hK => ?_); refine goes_ Try.func104 (by kernel_rfl) rfl #[.slice A0_0 l0_0.length c0_0, .slice A0_1 l0_1.length c0_1, .int .i64 (rd l0_2 a2), .int .i64 (rd l0_3 a3), .int .i64 (rd l0_4 a3)] (by rfl) rfl rfl (by (try simp only [List.map_toArray, List.map_cons, List.map_nil]); first | done | rfl | (simp only [List.length_drop, List.length_take]; rfl)) ?_; with_reducible refine (impl_isAllowed.calls k _ _ l0_0 _ _ l0_1 (rd l0_2 a2) (rd l0_3 a3) (rd l0_4 a3) true _ ?_ ?_ ?_ ?_ A10.out).mono ?_
       exact vd HR0_0.out HB.out
       exact HC0_0.out
       exact vd HR0_1.out HB.out
       exact HC0_1.out
       rintro e w14 ⟨rfl, hb⟩; refine ⟨_, rfl, ?_⟩; replace BK540 := kb BK540 hb; replace HB := bs HB hb; (try clear hb)
       (try clear hb2)
       (try clear hk)
       (try clear hi)
       refine hK.out _ _ ⟨bk BK540.out 0, bk BK540.out 1, bk BK540.out 2, bk BK540.out 3, bk BK540.out 4, bk BK540.out 5, (cb HB.out hw541_0), (cb HB.out hw542_0), (cb HB.out hw543_0)⟩ (fun hHeld => ?_); clear hK K; refine norm_ (a' := ?_) ?_ ?_
       rotate_left
       ·show Act.put _ (some 32) _ = _
        simp only [Act.put, List.setIfInBounds_toArray, List.set_cons_zero, List.set_cons_succ, i64_w, i32_w]
        rfl
       refine pu_ 20 33 (tf 21 0) rfl rfl ?_; refine done_ (done_of HT_.out (by kernel_rfl)) ?_; (try go_wp2)
       go_loopg [36] k (fun kq v36 w' => ∃ (x36_1 : Int), v36 = .int .i64 x36_1 ∧ Aside0 (impl_isFree.l0 kq a3 l1 (l1.length : Int) x36_1 l0_0 l0_1 l0_2 l0_3 l0_4 a0_5 = some r) ∧ Aside0 (kq ≤ k) ∧ Aside0 (w'.heap[gb540]? = some (.cells #[(.slice A0_0 l0_0.length c0_0), (.slice A0_1 l0_1.length c0_1), (.slice (some ad541) l0_2.length c0_2), (.slice (some ad542) l0_3.length c0_3), (.slice (some ad543) l0_4.length c0_4), .int .i64 a0_5] 28 (0, 0))) ∧ Aside0 (Below w.heap.size w w'))
       case atStart => exact ⟨(0), es, H', ⟨Nat.le_refl _⟩, ⟨vk BK540.out⟩, ⟨vb HB.out⟩⟩
       case round =>
        clear H'; (try clear c1); (try clear p2); (try clear c5); (try clear c5b0); (try clear p5); (try clear q5); (try clear hx5); (try clear c6); (try clear c6b0); (try clear c7); (try clear c7b0); (try clear c8); (try clear c8b0); (try clear c9); (try clear c9b0); (try clear c10); (try clear c11); (try clear hx541_0); (try clear hx542_0); (try clear hx543_0); (try clear p541); (try clear p542); (try clear p543); (try clear q541); (try clear q542); (try clear q543); obtain ⟨x36_1, rfl, HA, HK1, BK540, HB⟩ := hrel
        cases gk with
        | zero => exact absurd HA.out (by simp [impl_isFree.l0])
        | succ k1 =>
         have H := HA.out; clear HA; simp only [impl_isFree.l0] at H
         by_cases c15 : x36_1 < (l1.length : Int)
         ·rw [if_pos c15] at H; have c15b0 := decide_eq_true c15; clear c15; by_cases c16 : 0 ≤ x36_1
          ·rw [if_pos c16] at H; have c16b0 := decide_eq_true c16; clear c16; by_cases c17 : x36_1 < (l1.length : Int)
           ·rw [if_pos c17] at H; have c17b0 := decide_eq_true c17; clear c17; by_cases c18 : 0 ≤ a3
            ·rw [if_pos c18] at H; have c18b0 := decide_eq_true c18; clear c18; by_cases c19 : a3 < (l0_3.length : Int)
             ·rw [if_pos c19] at H; have c19b0 := decide_eq_true c19; clear c19; by_cases c20 : 0 ≤ (rd l1 x36_1)
              ·rw [if_pos c20] at H; have c20b0 := decide_eq_true c20; clear c20; by_cases c21 : (rd l1 x36_1) < (l0_3.length : Int)
               ·rw [if_pos c21] at H; have c21b0 := decide_eq_true c21; clear c21; by_cases c22 : a3 < (l0_4.length : Int)
                ·rw [if_pos c22] at H; have c22b0 := decide_eq_true c22; clear c22; by_cases c23 : (rd l1 x36_1) < (l0_4.length : Int)
                 ·rw [if_pos c23] at H; have c23b0 := decide_eq_true c23; clear c23; by_cases c24 : a3 = (rd l1 x36_1)
                  ·rw [if_pos c24] at H; obtain ⟨c24b0, c24b1⟩ := bqt c24; clear c24; obtain rfl := sj H; have p545 : 0 ≤ (x36_1 : Int) := od; have q545 : x36_1 < (l1.length : Int) := od; obtain ⟨ad545, e545, hx545_0⟩ := Kd.at_int HR1.out x36_1 p545 q545
                   cases e545; replace hx545_0 := cb HB.out hx545_0; replace p545 := eq_true p545; replace q545 := eq_true q545; (try go_wp2)
                   replace BK540 := ak (blk_drew BK540.out); replace HB := ak (below_drew1 HB.out); have p546 : 0 ≤ (a3 : Int) := od; have q546 : a3 < (l0_3.length : Int) := od; obtain ⟨ad546, e546, hx546_0⟩ := Kd.at_int HR0_3.out a3 p546 q546; have hw546_0 := hx546_0; obtain rfl : ad542 = ad546 := (by injection e546); replace hx546_0 := cb HB.out hx546_0; replace p546 := eq_true p546; replace q546 := eq_true q546; have p547 : 0 ≤ ((rd l1 x36_1) : Int) := od; have q547 : (rd l1 x36_1) < (l0_3.length : Int) := od; obtain ⟨ad547, e547, hx547_0⟩ := Kd.at_int HR0_3.out (rd l1 x36_1) p547 q547; have hw547_0 := hx547_0; obtain rfl : ad542 = ad547 := (by injection e547); replace hx547_0 := cb HB.out hx547_0; replace p547 := eq_true p547; replace q547 := eq_true q547; have p548 : 0 ≤ (a3 : Int) := od; have q548 : a3 < (l0_4.length : Int) := od; obtain ⟨ad548, e548, hx548_0⟩ := Kd.at_int HR0_4.out a3 p548 q548; have hw548_0 := hx548_0; obtain rfl : ad543 = ad548 := (by injection e548); replace hx548_0 := cb HB.out hx548_0; replace p548 := eq_true p548; replace q548 := eq_true q548; have p549 : 0 ≤ ((rd l1 x36_1) : Int) := od; have q549 : (rd l1 x36_1) < (l0_4.length : Int) := od; obtain ⟨ad549, e549, hx549_0⟩ := Kd.at_int HR0_4.out (rd l1 x36_1) p549 q549; have hw549_0 := hx549_0; obtain rfl : ad543 = ad549 := (by injection e549); replace hx549_0 := cb HB.out hx549_0; replace p549 := eq_true p549; replace q549 := eq_true q549; refine start_ (n := 24) (S := fun w' => w'.cell? ⟨gb540, 0, none⟩ = some (.slice A0_0 l0_0.length c0_0) ∧ w'.cell? ⟨gb540, 1, none⟩ = some (.slice A0_1 l0_1.length c0_1) ∧ w'.cell? ⟨gb540, 2, none⟩ = some (.slice (some ad541) l0_2.length c0_2) ∧ w'.cell? ⟨gb540, 3, none⟩ = some (.slice (some ad542) l0_3.length c0_3) ∧ w'.cell? ⟨gb540, 4, none⟩ = some (.slice (some ad543) l0_4.length c0_4) ∧ w'.cell? ⟨gb540, 5, none⟩ = some (.int .i64 a0_5) ∧ w'.cell? (ad542.add (a3).toNat) = some (.int .i64 (rd l0_3 a3)) ∧ w'.cell? (ad542.add ((rd l1 x36_1)).toNat) = some (.int .i64 (rd l0_3 (rd l1 x36_1))) ∧ w'.cell? (ad543.add (a3).toNat) = some (.int .i64 (rd l0_4 a3)) ∧ w'.cell? (ad543.add ((rd l1 x36_1)).toNat) = some (.int .i64 (rd l0_4 (rd l1 x36_1)))) (ds := []) (tf 0 24) (by kernel_rfl) rfl rfl ⟨bk BK540.out 0, bk BK540.out 1, bk BK540.out 2, bk BK540.out 3, bk BK540.out 4, bk BK540.out 5, (cb HB.out hw546_0), (cb HB.out hw547_0), (cb HB.out hw548_0), (cb HB.out hw549_0)⟩ (fun hHeld => ?_); refine with_tabW impl_isFree.tab6 impl_isFree.bits6 (fun HT_ HW_ => ?_)
                   generalize wr.drew = w25 at BK540 HB hx546_0 hx547_0 hx548_0 hx549_0 hHeld ⊢; refine pu_ 0 40 (tf 1 23) rfl rfl ?_; refine pu_ 2 42 (tM [1, 1, 1, 21]) rfl rfl ?_; refine pu_ 5 45 (tM [1, 1, 1, 2, 1, 18]) rfl rfl ?_; refine pu_ 7 47 (tM [1, 1, 1, 2, 1, 1, 1, 16]) rfl rfl ?_; refine pu_ 11 51 (tM [1, 1, 1, 2, 1, 1, 1, 3, 1, 12]) rfl rfl ?_; refine pu_ 13 53 (tM [1, 1, 1, 2, 1, 1, 1, 3, 1, 1, 1, 10]) rfl rfl ?_; refine pu_ 16 56 (tM [1, 1, 1, 2, 1, 1, 1, 3, 1, 1, 1, 2, 1, 7]) rfl rfl ?_; refine pu_ 18 58 (tM [1, 1, 1, 2, 1, 1, 1, 3, 1, 1, 1, 2, 1, 1, 1, 5]) rfl rfl ?_; refine ta10_ 1 41 (tM [3, 2, 1, 1, 1, 3, 1, 1, 1, 2, 1, 1, 1, 5]) rfl rfl ?_
                   refine pu_ 3 43 (tM [4, 1, 1, 1, 1, 3, 1, 1, 1, 2, 1, 1, 1, 5]) rfl rfl ?_; refine ta10_ 4 44 (tM [6, 1, 1, 3, 1, 1, 1, 2, 1, 1, 1, 5]) rfl rfl ?_; refine ta10_ 6 46 (tM [8, 3, 1, 1, 1, 2, 1, 1, 1, 5]) rfl rfl ?_; refine pu_ 8 48 (tM [9, 2, 1, 1, 1, 2, 1, 1, 1, 5]) rfl rfl ?_; refine ta10_ 9 49 (tM [10, 1, 1, 1, 1, 2, 1, 1, 1, 5]) rfl rfl ?_; refine pu_ 10 50 (tM [12, 1, 1, 2, 1, 1, 1, 5]) rfl rfl ?_; refine pu_ 22 11 (tM [12, 1, 1, 2, 1, 1, 1, 3, 1, 1]) rfl rfl ?_; refine ta10_ 12 52 (tM [14, 2, 1, 1, 1, 3, 1, 1]) rfl rfl ?_
                   refine pu_ 14 54 (tM [15, 1, 1, 1, 1, 3, 1, 1]) rfl rfl ?_; refine ta10_ 15 55 (tM [17, 1, 1, 3, 1, 1]) rfl rfl ?_; refine ta10_ 17 57 (tM [19, 3, 1, 1]) rfl rfl ?_; refine pu_ 19 59 (tM [20, 2, 1, 1]) rfl rfl ?_; refine ta10_ 20 60 (tM [21, 1, 1, 1]) rfl rfl ?_; refine pu_ 21 61 (tf 23 1) rfl rfl ?_; refine pu_ 23 12 (tf 24 0) rfl rfl ?_; refine done_ (done_of HT_.out (by kernel_rfl)) ?_; (try go_wp2)
                   go_ret
                   exact ⟨ew, vb HB.out⟩
                  ·rw [if_neg c24] at H; obtain ⟨c24b0, c24b1⟩ := bqf c24; by_cases c26 : (wrap64 ((wrap64 ((wrap64 ((rd l0_3 a3) - (rd l0_3 (rd l1 x36_1)))) * (wrap64 ((rd l0_3 a3) - (rd l0_3 (rd l1 x36_1)))))) + (wrap64 ((wrap64 ((rd l0_4 a3) - (rd l0_4 (rd l1 x36_1)))) * (wrap64 ((rd l0_4 a3) - (rd l0_4 (rd l1 x36_1)))))))) < (wrap64 (a0_5 * a0_5))
                   ·rw [if_pos c26] at H; have c26b0 := decide_eq_true c26; clear c26; obtain rfl := sj H; have p545 : 0 ≤ (x36_1 : Int) := od; have q545 : x36_1 < (l1.length : Int) := od; obtain ⟨ad545, e545, hx545_0⟩ := Kd.at_int HR1.out x36_1 p545 q545
                    cases e545; replace hx545_0 := cb HB.out hx545_0; replace p545 := eq_true p545; replace q545 := eq_true q545; (try go_wp2)
                    replace BK540 := ak (blk_drew BK540.out); replace HB := ak (below_drew1 HB.out); have p546 : 0 ≤ (a3 : Int) := od; have q546 : a3 < (l0_3.length : Int) := od; obtain ⟨ad546, e546, hx546_0⟩ := Kd.at_int HR0_3.out a3 p546 q546; have hw546_0 := hx546_0; obtain rfl : ad542 = ad546 := (by injection e546); replace hx546_0 := cb HB.out hx546_0; replace p546 := eq_true p546; replace q546 := eq_true q546; have p547 : 0 ≤ ((rd l1 x36_1) : Int) := od; have q547 : (rd l1 x36_1) < (l0_3.length : Int) := od; obtain ⟨ad547, e547, hx547_0⟩ := Kd.at_int HR0_3.out (rd l1 x36_1) p547 q547; have hw547_0 := hx547_0; obtain rfl : ad542 = ad547 := (by injection e547); replace hx547_0 := cb HB.out hx547_0; replace p547 := eq_true p547; replace q547 := eq_true q547; have p548 : 0 ≤ (a3 : Int) := od; have q548 : a3 < (l0_4.length : Int) := od; obtain ⟨ad548, e548, hx548_0⟩ := Kd.at_int HR0_4.out a3 p548 q548; have hw548_0 := hx548_0; obtain rfl : ad543 = ad548 := (by injection e548); replace hx548_0 := cb HB.out hx548_0; replace p548 := eq_true p548; replace q548 := eq_true q548; have p549 : 0 ≤ ((rd l1 x36_1) : Int) := od; have q549 : (rd l1 x36_1) < (l0_4.length : Int) := od; obtain ⟨ad549, e549, hx549_0⟩ := Kd.at_int HR0_4.out (rd l1 x36_1) p549 q549; have hw549_0 := hx549_0; obtain rfl : ad543 = ad549 := (by injection e549); replace hx549_0 := cb HB.out hx549_0; replace p549 := eq_true p549; replace q549 := eq_true q549; refine start_ (n := 24) (S := fun w' => w'.cell? ⟨gb540, 0, none⟩ = some (.slice A0_0 l0_0.length c0_0) ∧ w'.cell? ⟨gb540, 1, none⟩ = some (.slice A0_1 l0_1.length c0_1) ∧ w'.cell? ⟨gb540, 2, none⟩ = some (.slice (some ad541) l0_2.length c0_2) ∧ w'.cell? ⟨gb540, 3, none⟩ = some (.slice (some ad542) l0_3.length c0_3) ∧ w'.cell? ⟨gb540, 4, none⟩ = some (.slice (some ad543) l0_4.length c0_4) ∧ w'.cell? ⟨gb540, 5, none⟩ = some (.int .i64 a0_5) ∧ w'.cell? (ad542.add (a3).toNat) = some (.int .i64 (rd l0_3 a3)) ∧ w'.cell? (ad542.add ((rd l1 x36_1)).toNat) = some (.int .i64 (rd l0_3 (rd l1 x36_1))) ∧ w'.cell? (ad543.add (a3).toNat) = some (.int .i64 (rd l0_4 a3)) ∧ w'.cell? (ad543.add ((rd l1 x36_1)).toNat) = some (.int .i64 (rd l0_4 (rd l1 x36_1)))) (ds := []) (tf 0 24) (by kernel_rfl) rfl rfl ⟨bk BK540.out 0, bk BK540.out 1, bk BK540.out 2, bk BK540.out 3, bk BK540.out 4, bk BK540.out 5, (cb HB.out hw546_0), (cb HB.out hw547_0), (cb HB.out hw548_0), (cb HB.out hw549_0)⟩ (fun hHeld => ?_); refine with_tabW impl_isFree.tab6 impl_isFree.bits6 (fun HT_ HW_ => ?_)
                    generalize wr.drew = w27 at BK540 HB hx546_0 hx547_0 hx548_0 hx549_0 hHeld ⊢; refine pu_ 0 40 (tf 1 23) rfl rfl ?_; refine pu_ 2 42 (tM [1, 1, 1, 21]) rfl rfl ?_; refine pu_ 5 45 (tM [1, 1, 1, 2, 1, 18]) rfl rfl ?_; refine pu_ 7 47 (tM [1, 1, 1, 2, 1, 1, 1, 16]) rfl rfl ?_; refine pu_ 11 51 (tM [1, 1, 1, 2, 1, 1, 1, 3, 1, 12]) rfl rfl ?_; refine pu_ 13 53 (tM [1, 1, 1, 2, 1, 1, 1, 3, 1, 1, 1, 10]) rfl rfl ?_; refine pu_ 16 56 (tM [1, 1, 1, 2, 1, 1, 1, 3, 1, 1, 1, 2, 1, 7]) rfl rfl ?_; refine pu_ 18 58 (tM [1, 1, 1, 2, 1, 1, 1, 3, 1, 1, 1, 2, 1, 1, 1, 5]) rfl rfl ?_; refine ta10_ 1 41 (tM [3, 2, 1, 1, 1, 3, 1, 1, 1, 2, 1, 1, 1, 5]) rfl rfl ?_
                    refine pu_ 3 43 (tM [4, 1, 1, 1, 1, 3, 1, 1, 1, 2, 1, 1, 1, 5]) rfl rfl ?_; refine ta10_ 4 44 (tM [6, 1, 1, 3, 1, 1, 1, 2, 1, 1, 1, 5]) rfl rfl ?_; refine ta10_ 6 46 (tM [8, 3, 1, 1, 1, 2, 1, 1, 1, 5]) rfl rfl ?_; refine pu_ 8 48 (tM [9, 2, 1, 1, 1, 2, 1, 1, 1, 5]) rfl rfl ?_; refine ta10_ 9 49 (tM [10, 1, 1, 1, 1, 2, 1, 1, 1, 5]) rfl rfl ?_; refine pu_ 10 50 (tM [12, 1, 1, 2, 1, 1, 1, 5]) rfl rfl ?_; refine pu_ 22 11 (tM [12, 1, 1, 2, 1, 1, 1, 3, 1, 1]) rfl rfl ?_; refine ta10_ 12 52 (tM [14, 2, 1, 1, 1, 3, 1, 1]) rfl rfl ?_
                    refine pu_ 14 54 (tM [15, 1, 1, 1, 1, 3, 1, 1]) rfl rfl ?_; refine ta10_ 15 55 (tM [17, 1, 1, 3, 1, 1]) rfl rfl ?_; refine ta10_ 17 57 (tM [19, 3, 1, 1]) rfl rfl ?_; refine pu_ 19 59 (tM [20, 2, 1, 1]) rfl rfl ?_; refine ta10_ 20 60 (tM [21, 1, 1, 1]) rfl rfl ?_; refine pu_ 21 61 (tf 23 1) rfl rfl ?_; refine pu_ 23 12 (tf 24 0) rfl rfl ?_; refine done_ (done_of HT_.out (by kernel_rfl)) ?_; have hcz28 := cz6 BK540.out; (try go_wp2)
                    go_ret
                    exact ⟨ew, vb HB.out⟩
                   ·rw [if_neg c26] at H; have c26b0 := decide_eq_false c26; clear c26; have H' := ak H; clear H; have p545 : 0 ≤ (x36_1 : Int) := od; have q545 : x36_1 < (l1.length : Int) := od; obtain ⟨ad545, e545, hx545_0⟩ := Kd.at_int HR1.out x36_1 p545 q545
                    cases e545; replace hx545_0 := cb HB.out hx545_0; replace p545 := eq_true p545; replace q545 := eq_true q545; (try go_wp2)
                    replace BK540 := ak (blk_drew BK540.out); replace HB := ak (below_drew1 HB.out); have p546 : 0 ≤ (a3 : Int) := od; have q546 : a3 < (l0_3.length : Int) := od; obtain ⟨ad546, e546, hx546_0⟩ := Kd.at_int HR0_3.out a3 p546 q546; have hw546_0 := hx546_0; obtain rfl : ad542 = ad546 := (by injection e546); replace hx546_0 := cb HB.out hx546_0; replace p546 := eq_true p546; replace q546 := eq_true q546; have p547 : 0 ≤ ((rd l1 x36_1) : Int) := od; have q547 : (rd l1 x36_1) < (l0_3.length : Int) := od; obtain ⟨ad547, e547, hx547_0⟩ := Kd.at_int HR0_3.out (rd l1 x36_1) p547 q547; have hw547_0 := hx547_0; obtain rfl : ad542 = ad547 := (by injection e547); replace hx547_0 := cb HB.out hx547_0; replace p547 := eq_true p547; replace q547 := eq_true q547; have p548 : 0 ≤ (a3 : Int) := od; have q548 : a3 < (l0_4.length : Int) := od; obtain ⟨ad548, e548, hx548_0⟩ := Kd.at_int HR0_4.out a3 p548 q548; have hw548_0 := hx548_0; obtain rfl : ad543 = ad548 := (by injection e548); replace hx548_0 := cb HB.out hx548_0; replace p548 := eq_true p548; replace q548 := eq_true q548; have p549 : 0 ≤ ((rd l1 x36_1) : Int) := od; have q549 : (rd l1 x36_1) < (l0_4.length : Int) := od; obtain ⟨ad549, e549, hx549_0⟩ := Kd.at_int HR0_4.out (rd l1 x36_1) p549 q549; have hw549_0 := hx549_0; obtain rfl : ad543 = ad549 := (by injection e549); replace hx549_0 := cb HB.out hx549_0; replace p549 := eq_true p549; replace q549 := eq_true q549; refine start_ (n := 24) (S := fun w' => w'.cell? ⟨gb540, 0, none⟩ = some (.slice A0_0 l0_0.length c0_0) ∧ w'.cell? ⟨gb540, 1, none⟩ = some (.slice A0_1 l0_1.length c0_1) ∧ w'.cell? ⟨gb540, 2, none⟩ = some (.slice (some ad541) l0_2.length c0_2) ∧ w'.cell? ⟨gb540, 3, none⟩ = some (.slice (some ad542) l0_3.length c0_3) ∧ w'.cell? ⟨gb540, 4, none⟩ = some (.slice (some ad543) l0_4.length c0_4) ∧ w'.cell? ⟨gb540, 5, none⟩ = some (.int .i64 a0_5) ∧ w'.cell? (ad542.add (a3).toNat) = some (.int .i64 (rd l0_3 a3)) ∧ w'.cell? (ad542.add ((rd l1 x36_1)).toNat) = some (.int .i64 (rd l0_3 (rd l1 x36_1))) ∧ w'.cell? (ad543.add (a3).toNat) = some (.int .i64 (rd l0_4 a3)) ∧ w'.cell? (ad543.add ((rd l1 x36_1)).toNat) = some (.int .i64 (rd l0_4 (rd l1 x36_1)))) (ds := []) (tf 0 24) (by kernel_rfl) rfl rfl ⟨bk BK540.out 0, bk BK540.out 1, bk BK540.out 2, bk BK540.out 3, bk BK540.out 4, bk BK540.out 5, (cb HB.out hw546_0), (cb HB.out hw547_0), (cb HB.out hw548_0), (cb HB.out hw549_0)⟩ (fun hHeld => ?_); refine with_tabW impl_isFree.tab6 impl_isFree.bits6 (fun HT_ HW_ => ?_)
                    generalize wr.drew = w29 at BK540 HB hx546_0 hx547_0 hx548_0 hx549_0 hHeld ⊢; refine pu_ 0 40 (tf 1 23) rfl rfl ?_; refine pu_ 2 42 (tM [1, 1, 1, 21]) rfl rfl ?_; refine pu_ 5 45 (tM [1, 1, 1, 2, 1, 18]) rfl rfl ?_; refine pu_ 7 47 (tM [1, 1, 1, 2, 1, 1, 1, 16]) rfl rfl ?_; refine pu_ 11 51 (tM [1, 1, 1, 2, 1, 1, 1, 3, 1, 12]) rfl rfl ?_; refine pu_ 13 53 (tM [1, 1, 1, 2, 1, 1, 1, 3, 1, 1, 1, 10]) rfl rfl ?_; refine pu_ 16 56 (tM [1, 1, 1, 2, 1, 1, 1, 3, 1, 1, 1, 2, 1, 7]) rfl rfl ?_; refine pu_ 18 58 (tM [1, 1, 1, 2, 1, 1, 1, 3, 1, 1, 1, 2, 1, 1, 1, 5]) rfl rfl ?_; refine ta10_ 1 41 (tM [3, 2, 1, 1, 1, 3, 1, 1, 1, 2, 1, 1, 1, 5]) rfl rfl ?_
                    refine pu_ 3 43 (tM [4, 1, 1, 1, 1, 3, 1, 1, 1, 2, 1, 1, 1, 5]) rfl rfl ?_; refine ta10_ 4 44 (tM [6, 1, 1, 3, 1, 1, 1, 2, 1, 1, 1, 5]) rfl rfl ?_; refine ta10_ 6 46 (tM [8, 3, 1, 1, 1, 2, 1, 1, 1, 5]) rfl rfl ?_; refine pu_ 8 48 (tM [9, 2, 1, 1, 1, 2, 1, 1, 1, 5]) rfl rfl ?_; refine ta10_ 9 49 (tM [10, 1, 1, 1, 1, 2, 1, 1, 1, 5]) rfl rfl ?_; refine pu_ 10 50 (tM [12, 1, 1, 2, 1, 1, 1, 5]) rfl rfl ?_; refine pu_ 22 11 (tM [12, 1, 1, 2, 1, 1, 1, 3, 1, 1]) rfl rfl ?_; refine ta10_ 12 52 (tM [14, 2, 1, 1, 1, 3, 1, 1]) rfl rfl ?_
                    refine pu_ 14 54 (tM [15, 1, 1, 1, 1, 3, 1, 1]) rfl rfl ?_; refine ta10_ 15 55 (tM [17, 1, 1, 3, 1, 1]) rfl rfl ?_; refine ta10_ 17 57 (tM [19, 3, 1, 1]) rfl rfl ?_; refine pu_ 19 59 (tM [20, 2, 1, 1]) rfl rfl ?_; refine ta10_ 20 60 (tM [21, 1, 1, 1]) rfl rfl ?_; refine pu_ 21 61 (tf 23 1) rfl rfl ?_; refine pu_ 23 12 (tf 24 0) rfl rfl ?_; refine done_ (done_of HT_.out (by kernel_rfl)) ?_; have hcz30 := cz6 BK540.out; (try go_wp2)
                    go_roundg k1
                    case measure => have := HK1.out; omega
                    case rel => exact ⟨(wrap64 (x36_1 + 1)), es, H', ⟨by have := HK1.out; omega⟩, ⟨vk BK540.out⟩, ⟨vb HB.out⟩⟩
                 ·exact nO_ c23 H
                ·exact nO_ c22 H
               ·exact nO_ c21 H
              ·exact nO_ c20 H
             ·exact nO_ c19 H
            ·exact nO_ c18 H
           ·exact nO_ c17 H
          ·exact nO_ c16 H
         ·rw [if_neg c15] at H; have c15b0 := decide_eq_false c15; clear c15; obtain rfl := sj H; go_wp2
          go_ret
          exact ⟨ew, vb HB.out⟩
      ·replace c11 := Bool.eq_false_iff.mpr c11; subst c11; rw [if_neg nf] at H; obtain rfl := sj H; go_enter Try.func83, Try.ntmps83; (try go_wp2_with (first | ((with_reducible refine gate_dst (N := 4) rfl ?_); refine bx 4 (f5 A0_0 l0_0 c0_0 A0_1 l0_1 c0_1 A0_2 l0_2 c0_2 A0_3 l0_3 c0_3 A0_4 l0_4 c0_4 a0_5) 28 ?_; intro gb540 hg w31 hbox hb; have BK540 := ak hbox; have GW540 := gw hg HB; have GE540 := gw hg HB; replace HB := bs HB hb; clear hb hbox hg)))
       replace BK540 := ak (blk_drew BK540.out); replace HB := ak (below_drew1 HB.out); have p541 : 0 ≤ (a2 : Int) := od; have q541 : a2 < (l0_2.length : Int) := od; obtain ⟨ad541, e541, hx541_0⟩ := Kd.at_int HR0_2.out a2 p541 q541; have hw541_0 := hx541_0
       cases e541; replace hx541_0 := cb HB.out hx541_0; replace p541 := eq_true p541; replace q541 := eq_true q541; have p542 : 0 ≤ (a3 : Int) := od; have q542 : a3 < (l0_3.length : Int) := od; obtain ⟨ad542, e542, hx542_0⟩ := Kd.at_int HR0_3.out a3 p542 q542; have hw542_0 := hx542_0
       cases e542; replace hx542_0 := cb HB.out hx542_0; replace p542 := eq_true p542; replace q542 := eq_true q542; have p543 : 0 ≤ (a3 : Int) := od; have q543 : a3 < (l0_4.length : Int) := od; obtain ⟨ad543, e543, hx543_0⟩ := Kd.at_int HR0_4.out a3 p543 q543; have hw543_0 := hx543_0
       cases e543; replace hx543_0 := cb HB.out hx543_0; replace p543 := eq_true p543; replace q543 := eq_true q543; refine start_ (n := 21) (S := fun w' => w'.cell? ⟨gb540, 0, none⟩ = some (.slice A0_0 l0_0.length c0_0) ∧ w'.cell? ⟨gb540, 1, none⟩ = some (.slice A0_1 l0_1.length c0_1) ∧ w'.cell? ⟨gb540, 2, none⟩ = some (.slice (some ad541) l0_2.length c0_2) ∧ w'.cell? ⟨gb540, 3, none⟩ = some (.slice (some ad542) l0_3.length c0_3) ∧ w'.cell? ⟨gb540, 4, none⟩ = some (.slice (some ad543) l0_4.length c0_4) ∧ w'.cell? ⟨gb540, 5, none⟩ = some (.int .i64 a0_5) ∧ w'.cell? (ad541.add (a2).toNat) = some (.int .i64 (rd l0_2 a2)) ∧ w'.cell? (ad542.add (a3).toNat) = some (.int .i64 (rd l0_3 a3)) ∧ w'.cell? (ad543.add (a3).toNat) = some (.int .i64 (rd l0_4 a3))) (ds := []) (tf 0 21) (by kernel_rfl) rfl rfl ⟨bk BK540.out 0, bk BK540.out 1, bk BK540.out 2, bk BK540.out 3, bk BK540.out 4, bk BK540.out 5, (cb HB.out hw541_0), (cb HB.out hw542_0), (cb HB.out hw543_0)⟩ (fun hHeld => ?_); refine with_tabW impl_isFree.tab1 impl_isFree.bits1 (fun HT_ HW_ => ?_); generalize w31.drew = w32 at BK540 HB hx541_0 hx542_0 hx543_0 hHeld ⊢; refine pu_ 0 13 (tf 1 20) rfl rfl ?_; refine pu_ 2 15 (tM [1, 1, 1, 18]) rfl rfl ?_
       refine pu_ 4 17 (tM [1, 1, 1, 1, 1, 16]) rfl rfl ?_; refine pu_ 6 19 (tM [1, 1, 1, 1, 1, 1, 1, 14]) rfl rfl ?_; refine pu_ 9 22 (tM [1, 1, 1, 1, 1, 1, 1, 2, 1, 11]) rfl rfl ?_; refine pu_ 11 24 (tM [1, 1, 1, 1, 1, 1, 1, 2, 1, 1, 1, 9]) rfl rfl ?_; refine pu_ 14 27 (tM [1, 1, 1, 1, 1, 1, 1, 2, 1, 1, 1, 2, 1, 6]) rfl rfl ?_; refine pu_ 16 29 (tM [1, 1, 1, 1, 1, 1, 1, 2, 1, 1, 1, 2, 1, 1, 1, 4]) rfl rfl ?_; refine ta9_ 1 14 (tM [3, 1, 1, 1, 1, 2, 1, 1, 1, 2, 1, 1, 1, 4]) rfl rfl ?_; refine ta9_ 3 16 (tM [5, 1, 1, 2, 1, 1, 1, 2, 1, 1, 1, 4]) rfl rfl ?_; refine ta9_ 5 18 (tM [7, 2, 1, 1, 1, 2, 1, 1, 1, 4]) rfl rfl ?_
       refine pu_ 7 20 (tM [8, 1, 1, 1, 1, 2, 1, 1, 1, 4]) rfl rfl ?_; refine ta9_ 8 21 (tM [10, 1, 1, 2, 1, 1, 1, 4]) rfl rfl ?_; refine ta9_ 10 23 (tM [12, 2, 1, 1, 1, 4]) rfl rfl ?_; refine pu_ 12 25 (tM [13, 1, 1, 1, 1, 4]) rfl rfl ?_; refine ta9_ 13 26 (tM [15, 1, 1, 4]) rfl rfl ?_; refine ta9_ 15 28 (tf 17 4) rfl rfl ?_; refine pu_ 17 30 (tf 18 3) rfl rfl ?_; refine ta9_ 18 31 (tf 19 2) rfl rfl ?_; refine one_ (i := 19) (N := some 32) (tf 20 1) rfl rfl (one_of HT_.out (by kernel_rfl)) (by decide) (fun K hK => ?_); refine goes_ Try.func104 (by kernel_rfl) rfl #[.slice A0_0 l0_0.length c0_0, .slice A0_1 l0_1.length c0_1, .int .i64 (rd l0_2 a2), .int .i64 (rd l0_3 a3), .int .i64 (rd l0_4 a3)] (by rfl) rfl rfl (by (try simp only [List.map_toArray, List.map_cons, List.map_nil]); first | done | rfl | (simp only [List.length_drop, List.length_take]; rfl)) ?_; with_reducible refine (impl_isAllowed.calls k _ _ l0_0 _ _ l0_1 (rd l0_2 a2) (rd l0_3 a3) (rd l0_4 a3) false _ ?_ ?_ ?_ ?_ A10.out).mono ?_
       exact vd HR0_0.out HB.out
       exact HC0_0.out
       exact vd HR0_1.out HB.out
       exact HC0_1.out
       rintro e w33 ⟨rfl, hb⟩; refine ⟨_, rfl, ?_⟩; replace BK540 := kb BK540 hb; replace HB := bs HB hb; (try clear hb)
       (try clear hb2)
       (try clear hk)
       (try clear hi)
       refine hK.out _ _ ⟨bk BK540.out 0, bk BK540.out 1, bk BK540.out 2, bk BK540.out 3, bk BK540.out 4, bk BK540.out 5, (cb HB.out hw541_0), (cb HB.out hw542_0), (cb HB.out hw543_0)⟩ (fun hHeld => ?_); clear hK K; refine norm_ (a' := ?_) ?_ ?_
       rotate_left
       ·show Act.put _ (some 32) _ = _
        simp only [Act.put, List.setIfInBounds_toArray, List.set_cons_zero, List.set_cons_succ, i64_w, i32_w]
        rfl
       refine pu_ 20 33 (tf 21 0) rfl rfl ?_; refine done_ (done_of HT_.out (by kernel_rfl)) ?_; (try go_wp2)
       go_ret
       exact ⟨ew, vb HB.out⟩
     ·exact nO_ c9 H
    ·exact nO_ c8 H
   ·exact nO_ c7 H
  ·exact nO_ c6 H
 ·exact nO_ c5 H


end Go.Proofs.Ytiblahniohjbbaa.Pall
