/- Go functions of the program, each as a Lean function, and the proof that each call comes to what the Lean function tells; no condition beyond those that stand there. -/
import Derived.Test.YtancnecddlbhkaaF00
import Derived.Test.YtancnecddlbhkaaF03
import Derived.Test.YtancnecddlbhkaaF04
import Derived.Test.YtancnecddlbhkaaF05
import Derived.Test.YtancnecddlbhkaaF06
import Derived.Test.YtancnecddlbhkaaSq
import Derived.Test.YtancnecddlbhkaaWApart
import Derived.Test.YtancnecddlbhkaaWInv
import Derived.Test.YtancnecddlbhkaaWLast
import Derived.Test.YtancnecddlbhkaaWMore
import Derived.Test.YtancnecddlbhkaaWN
import Derived.Test.YtancnecddlbhkaaWNEv
import Derived.Test.YtancnecddlbhkaaWRepsOne
import Derived.Test.YtancnecddlbhkaaWShare
import Derived.Test.YtancnecddlbhkaaWTab
import Derived.Test.YtancnecddlbhkaaSpare
import Derived.Test.YtancnecddlbhkaaCm
import Derived.Test.YtancnecddlbhkaaCm4
import Derived.Test.YtancnecddlbhkaaCm3
import Derived.Test.YtancnecddlbhkaaCm6
import Derived.Test.YtancnecddlbhkaaCm9
namespace Go.Proofs.Ytancnecddlbhkaa.Pall
open Go.RowKit Go.Proofs.YtancnecddlbhkaaW.PrintWords Go.Proofs.YtancnecddlbhkaaW.PrintLast Go.Proofs.YtancnecddlbhkaaW.PrintMore
set_option linter.unusedVariables false
set_option linter.unusedSimpArgs false

/-! ### spec_l18All: function 108 -/
mutual
def spec_l18All.l0 : Nat → List (List Int) → List Int → List (List Int) → List Int → Int → List (S98) → List (S103) → List Int → List Int → List Int → Int → Option ((List (List Int)))
 | 0, _, _, _, _, _, _, _, _, _, _, _ => none
 | k + 1, x3, x1, x2, x16, x4, x29, x30, x31, x32, x33, x23 => if x4 < (x16.length : Int) then (if 0 ≤ x4 then ((spec_l01Has.f k x1 (rd x16 x4)).bind fun t40 => (spec_l18All.l1 k x3 x1 x2 x16 x4 (!t40) 0 x29 x30 x31 x32 x33 x23)) else (none)) else (some x2)
def spec_l18All.l1 : Nat → List (List Int) → List Int → List (List Int) → List Int → Int → Bool → Int → List (S98) → List (S103) → List Int → List Int → List Int → Int → Option ((List (List Int)))
 | 0, _, _, _, _, _, _, _, _, _, _, _, _, _ => none
 | k + 1, x3, x1, x2, x16, x4, x18, x7, x29, x30, x31, x32, x33, x23 => if x7 < (x1.length : Int) then (if x18 = true then (if 0 ≤ x7 then (if 0 ≤ x4 then (if x4 < (x16.length : Int) then ((spec_l18Square.f x29 x30 x31 x32 x33 x23 (rd x1 x7) (rd x16 x4)).bind fun t41 => (spec_l18All.l1 k x3 x1 x2 x16 x4 (decide (t41 ≥ (wrap64 (x23 * x23)))) (wrap64 (x7 + 1)) x29 x30 x31 x32 x33 x23)) else (none)) else (none)) else (none)) else (spec_l18All.l1 k x3 x1 x2 x16 x4 false (wrap64 (x7 + 1)) x29 x30 x31 x32 x33 x23)) else (if x18 = true then ((spec_l01Own.f x1).bind fun t20 => (if 0 ≤ x4 then (if x4 < (x16.length : Int) then ((some (([rd x16 x4] : List Int) : List Int)).bind fun y9 => (if t20.length + y9.length < 17592186044416 then ((spec_l18All.f k x29 x30 x31 x32 x33 x23 x3 (t20 ++ y9)).bind fun t28 => (if x2.length + t28.length < 5864062014805 then (spec_l18All.l0 k x3 x1 (x2 ++ t28) x16 (wrap64 (x4 + 1)) x29 x30 x31 x32 x33 x23) else (none))) else (none))) else (none)) else (none))) else (spec_l18All.l0 k x3 x1 x2 x16 (wrap64 (x4 + 1)) x29 x30 x31 x32 x33 x23))
def spec_l18All.f : Nat → List (S98) → List (S103) → List Int → List Int → List Int → Int → List (List Int) → List Int → Option ((List (List Int)))
 | 0, _, _, _, _, _, _, _, _ => none
 | k + 1, l0_0, l0_1, l0_2, l0_3, l0_4, a0_5, l1, l2 => if (l2.length : Int) = (l1.length : Int) then (some (([l2] : List (List Int)))) else (if 0 ≤ (l2.length : Int) then (if (l2.length : Int) < (l1.length : Int) then (spec_l18All.l0 k l1 l2 (([] : List (List Int))) (rd_L5 l1 (l2.length : Int)) 0 l0_0 l0_1 l0_2 l0_3 l0_4 a0_5) else (none)) else (none))
end
def spec_l18All.T12 : Bool × List (List Nat × List Nat) := (true, [([], []), ([0], [0]), ([1], [1]), ([1], [1]), ([1], [1]), ([3, 4, 1], [1, 3, 4]), ([5, 1], [1, 5]), ([1], [1]), ([1], [1]), ([7, 8, 1], [1, 7, 8]), ([9, 1], [1, 9]), ([2, 6, 10, 1, 1], [1, 2, 6, 10]), ([1], [1]), ([12, 1], [1, 12]), ([1], [1]), ([14, 1], [1, 14]), ([13, 15, 1], [1, 13, 15]), ([11, 16, 1], [1, 11, 16]), ([1, 17], [1, 17]), ([18, 11, 0, 1, 2, 3, 4, 5, 6, 7, 8, 9, 10, 11, 12, 13, 14, 15, 16, 17, 18], [0, 18])])
def spec_l18All.B12 : List Nat := [0, 1, 3, 3, 3, 27, 59, 3, 3, 387, 899, 2047, 3, 4099, 3, 16387, 61443, 131071, 262143, 524287]
theorem spec_l18All.tab12 : rtab .any (opsOf Try.f108 12) = spec_l18All.T12 := by kernel_rfl
theorem spec_l18All.bits12 : waitsOk spec_l18All.T12.2 spec_l18All.B12 = true := by kernel_rfl
def spec_l18All.T14 : Bool × List (List Nat × List Nat) := (true, [([], []), ([], []), ([], []), ([], []), ([3], [3]), ([], []), ([], []), ([5, 6], [5, 6]), ([7], [7]), ([8], [8]), ([4, 9, 4], [4, 9]), ([1, 2, 10, 10], [1, 2, 10]), ([0, 11, 11], [0, 11]), ([12, 12, 0, 1, 2, 3, 4, 5, 6, 7, 8, 9, 10, 11, 12], [0, 12])])
def spec_l18All.B14 : List Nat := [0, 0, 0, 0, 8, 0, 0, 96, 224, 480, 1016, 2046, 4095, 8191]
theorem spec_l18All.tab14 : rtab .any (opsOf Try.f108 14) = spec_l18All.T14 := by kernel_rfl
theorem spec_l18All.bits14 : waitsOk spec_l18All.T14.2 spec_l18All.B14 = true := by kernel_rfl
set_option maxHeartbeats 8000000 in
set_option maxRecDepth 100000 in
theorem spec_l18All.calls (k : Nat) : ∀ (A0_0 : Option Addr) (c0_0 : Nat) (l0_0 : List (S98)) (A0_1 : Option Addr) (c0_1 : Nat) (l0_1 : List (S103)) (A0_2 : Option Addr) (c0_2 : Nat) (l0_2 : List Int) (A0_3 : Option Addr) (c0_3 : Nat) (l0_3 : List Int) (A0_4 : Option Addr) (c0_4 : Nat) (l0_4 : List Int) (a0_5 : Int) (A1 : Option Addr) (c1 : Nat) (l1 : List (List Int)) (P2_ : Nat → Prop) (A2 : Option Addr) (c2 : Nat) (l2 : List Int) (r : List (List Int)) (w : World) (hr0_0 : Kd.C k98 w A0_0 l0_0.length l0_0) (hc0_0 : l0_0.length ≤ c0_0) (hr0_1 : Kd.C k103 w A0_1 l0_1.length l0_1) (hc0_1 : l0_1.length ≤ c0_1) (hr0_2 : Kd.C (Kd.int .i64) w A0_2 l0_2.length l0_2) (hc0_2 : l0_2.length ≤ c0_2) (hr0_3 : Kd.C (Kd.int .i64) w A0_3 l0_3.length l0_3) (hc0_3 : l0_3.length ≤ c0_3) (hr0_4 : Kd.C (Kd.int .i64) w A0_4 l0_4.length l0_4) (hc0_4 : l0_4.length ≤ c0_4) (hr1 : Kd.C (Kd.slice 2 (Kd.int .i64)) w A1 l1.length l1) (hc1 : l1.length ≤ c1) (hs2 : Kd.V (Kd.int .i64) 2 w w.heap.size (fun k_ => P2_ k_) (.slice A2 l2.length c2) l2) (h : spec_l18All.f k l0_0 l0_1 l0_2 l0_3 l0_4 a0_5 l1 l2 = some r),
  Calls Try.prog 108 #[.agg (f5 A0_0 l0_0 c0_0 A0_1 l0_1 c0_1 A0_2 l0_2 c0_2 A0_3 l0_3 c0_3 A0_4 l0_4 c0_4 a0_5), .slice A1 l1.length c1, .slice A2 l2.length c2] w fun e w' => ∃ v0_ : Value, e = .returned (v0_) ∧ Kd.N (Kd.slice 2 (Kd.int .i64)) 24 w' w.heap.size (fun k_ => (P2_ k_ ∨ w.heap.size ≤ k_)) v0_ r ∧ Below w.heap.size w w' := by
 induction k using Nat.strongRecOn with
 | _ k ih =>
 intro A0_0 c0_0 l0_0 A0_1 c0_1 l0_1 A0_2 c0_2 l0_2 A0_3 c0_3 l0_3 A0_4 c0_4 l0_4 a0_5 A1 c1 l1 P2_ A2 c2 l2 r w hr0_0 hc0_0 hr0_1 hc0_1 hr0_2 hc0_2 hr0_3 hc0_3 hr0_4 hc0_4 hr1 hc1 hs2 h
 cases k with
 | zero => exact absurd h (by simp [spec_l18All.f])
 | succ k =>
 simp only [spec_l18All.f] at h
 have hu33 := Try.underlying33; have HR0_0 := ak hr0_0; have HC0_0 := ak hc0_0; clear hr0_0 hc0_0; have HR0_1 := ak hr0_1; have HC0_1 := ak hc0_1; clear hr0_1 hc0_1; have HR0_2 := ak hr0_2; have HC0_2 := ak hc0_2; clear hr0_2 hc0_2; have HR0_3 := ak hr0_3; have HC0_3 := ak hc0_3; clear hr0_3 hc0_3; have HR0_4 := ak hr0_4; have HC0_4 := ak hc0_4; clear hr0_4 hc0_4; have HR1 := ak hr1; have HC1 := ak hc1; clear hr1 hc1; have HO1 := ak (show Kd.V (Kd.int .i64) 2 w w.heap.size (fun k_ => (P2_ k_ ∨ w.heap.size ≤ k_)) (.slice A2 l2.length c2) l2 from Kd.V_mono hs2 (fun k_ hk => .inl hk)); have HB := ak (Below.refl w.heap.size w); have H := h; clear h; by_cases c4 : (l2.length : Int) = (l1.length : Int)
 ·rw [if_pos c4] at H; obtain ⟨c4b0, c4b1⟩ := bqt c4; have c4b2 : (l2.length == l1.length) = true := by first | simpa using c4 | (simp at c4 ⊢; omega)
  clear c4; obtain ⟨y35, hy35⟩ := gen_ (([l2] : List (List Int))); rw [← hy35] at H; have Ny35 := ak hy35; clear hy35; obtain rfl := sj H; go_enter Try.func108, Try.ntmps108; go_wp2_with (first | ((with_reducible refine gate_dst (N := 3) rfl ?_); refine bx 3 (f5 A0_0 l0_0 c0_0 A0_1 l0_1 c0_1 A0_2 l0_2 c0_2 A0_3 l0_3 c0_3 A0_4 l0_4 c0_4 a0_5) 33 ?_; intro gb0 hg w5 hbox hb; replace HO1 := ak (Kd.V_below (Kd.V_elderB (vV HO1.1) gb0 (Nat.le_of_eq hg.symm)) hb); have BK0 := ak hbox; have GW186 := gw hg HB; have GE0 := gw hg HB; replace HB := bs HB hb; clear hb hbox hg) | ((with_reducible refine gate_dst (N := 18) rfl ?_); refine Kd.N_lit (Kd.slice 2 (Kd.int .i64)) _ 24 ?hg (N' := 18) ?hd (xs := ([l2] : List (List Int))) (inner := [.slice A2 l2.length c2]) (ok := (fun k_ => (P2_ k_ ∨ w.heap.size ≤ k_) ∧ k_ ≠ gb0)) (okp := (fun k_ => (P2_ k_ ∨ w.heap.size ≤ k_) ∧ k_ ≠ gb0)) ?hr ?hp (fun _ hk => hk) ((show ∀ k_, w5.heap.size ≤ k_ → (fun k_ => (P2_ k_ ∨ w.heap.size ≤ k_) ∧ k_ ≠ gb0) k_ from fun k_ hk => ⟨(.inr (Nat.le_trans (below_size (vb HB.1)) hk)), Kd.freshB (g := gb0) (o := .cells (f5 A0_0 l0_0 c0_0 A0_1 l0_1 c0_1 A0_2 l0_2 c0_2 A0_3 l0_3 c0_3 A0_4 l0_4 c0_4 a0_5) 33 (0, 0)) (vk BK0.1) k_ hk⟩) _ (Nat.le_refl _)) (Below.refl _ _) (Nat.le_refl _) (by simp) ?_; (case hd => rfl); (case hg => rfl); (case hr => first | (go_simp; done) | (go_simp; rfl)); (case hp => exact (Reps.one (show Kd.FK (Kd.slice 2 (Kd.int .i64)) _ _ l2 [.slice A2 l2.length c2] from (Kd.FK_slice_mk (Kd.V_reads' (Kd.V_mono (ok' := (fun k_ => (P2_ k_ ∨ w.heap.size ≤ k_) ∧ k_ ≠ gb0)) (HO1.1) (fun k_ hk => ⟨hk.1, hk.2⟩))).2.1 (Kd.V_F (Kd.V_mono (ok' := (fun k_ => (P2_ k_ ∨ w.heap.size ≤ k_) ∧ k_ ≠ gb0)) (HO1.1) (fun k_ hk => ⟨hk.1, hk.2⟩))))) (Reps.none _ _))); intro v45 w6 ho2 hb hg_ hnew_; clear hg_ hnew_; (first | rw [← Ny35.1] at ho2 | (simp only [Int.reduceToNat] at ho2; rw [← Ny35.1] at ho2)); replace HO1 := ak (Kd.V_elder' (vV HO1.1) (Kd.N_base ho2) hb); have HO42 := ak (Kd.N_lower ho2 (below_size (vb HB.1))); replace BK0 := kb BK0 hb; replace HB := bs HB hb; clear hb ho2))
  go_ret
  exact ⟨_, ew, vN (Kd.N_mono HO42.1 (fun _ hk => hk.1)), vb HB.1⟩
 ·rw [if_neg c4] at H; obtain ⟨c4b0, c4b1⟩ := bqf c4; have c4b2 : (l2.length == l1.length) = false := by first | simpa using c4 | (simp at c4 ⊢; omega)
  obtain ⟨y26, hy26⟩ := gen_ (([] : List (List Int))); rw [← hy26] at H; have Ny26 := ak hy26; clear hy26; by_cases c8 : 0 ≤ (l2.length : Int)
  ·rw [if_pos c8] at H; have c8b0 := decide_eq_true c8; have c8b1 : decide (0 ≤ l2.length) = true := decide_eq_true (by omega); clear c8; by_cases c9 : (l2.length : Int) < (l1.length : Int)
   ·rw [if_pos c9] at H; have c9b0 := decide_eq_true c9; have c9b1 : decide (l2.length < l1.length) = true := decide_eq_true (Int.ofNat_lt.mp c9); clear c9; have H' := ak H; clear H; go_enter Try.func108, Try.ntmps108; go_wp2_with (first | ((with_reducible refine gate_dst (N := 3) rfl ?_); refine bx 3 (f5 A0_0 l0_0 c0_0 A0_1 l0_1 c0_1 A0_2 l0_2 c0_2 A0_3 l0_3 c0_3 A0_4 l0_4 c0_4 a0_5) 33 ?_; intro gb0 hg w10 hbox hb; replace HO1 := ak (Kd.V_below (Kd.V_elderB (vV HO1.1) gb0 (Nat.le_of_eq hg.symm)) hb); have BK0 := ak hbox; have GW186 := gw hg HB; have GE0 := gw hg HB; replace HB := bs HB hb; clear hb hbox hg) | ((with_reducible refine gate_dst (N := 19) rfl ?_); refine Kd.N_lit (Kd.slice 2 (Kd.int .i64)) _ 24 ?hg (N' := 19) ?hd (xs := ([] : List (List Int))) (inner := []) (ok := (fun k_ => (P2_ k_ ∨ w.heap.size ≤ k_) ∧ k_ ≠ gb0)) (okp := (fun k_ => (P2_ k_ ∨ w.heap.size ≤ k_) ∧ k_ ≠ gb0)) ?hr ?hp (fun _ hk => hk) ((show ∀ k_, w10.heap.size ≤ k_ → (fun k_ => (P2_ k_ ∨ w.heap.size ≤ k_) ∧ k_ ≠ gb0) k_ from fun k_ hk => ⟨(.inr (Nat.le_trans (below_size (vb HB.1)) hk)), Kd.freshB (g := gb0) (o := .cells (f5 A0_0 l0_0 c0_0 A0_1 l0_1 c0_1 A0_2 l0_2 c0_2 A0_3 l0_3 c0_3 A0_4 l0_4 c0_4 a0_5) 33 (0, 0)) (vk BK0.1) k_ hk⟩) _ (Nat.le_refl _)) (Below.refl _ _) (Nat.le_refl _) (by simp) ?_; (case hd => rfl); (case hg => rfl); (case hr => first | (go_simp; done) | (go_simp; rfl)); (case hp => exact (Reps.none _ _)); intro v46 w11 ho37 hb hg_ hnew_; clear hg_ hnew_; (first | rw [← Ny26.1] at ho37 | (simp only [Int.reduceToNat] at ho37; rw [← Ny26.1] at ho37)); replace HO1 := ak (Kd.V_elder' (vV HO1.1) (Kd.N_base ho37) hb); have HO43 := ak (Kd.N_lower ho37 (below_size (vb HB.1))); replace BK0 := kb BK0 hb; replace HB := bs HB hb; clear hb ho37; have p14 : 0 ≤ ((l2.length : Int) : Int) := od; have q14 : (l2.length : Int) < (l1.length : Int) := od; obtain ⟨ad14, A193_0, c193_0, e14, hx14_5, hl193_0, hi193_0⟩ := at_L5 HR1.1 (l2.length : Int) p14 q14; cases e14; replace hx14_5 := cb HB.1 hx14_5; have HR193_0 := ak hi193_0; have HC193_0 := ak hl193_0; clear hi193_0 hl193_0; (try simp only [Go.IntWalk.toNatUp] at hx14_5); replace p14 := eq_true p14; replace q14 := eq_true q14))
    go_loopg [7, 9] k (fun kq v2 v4 w' => ∃ (x2_3 : List (List Int)) (x4_3 : Int), v4 = .int .i64 x4_3 ∧ Aside0 (spec_l18All.l0 kq l1 l2 x2_3 (rd_L5 l1 (l2.length : Int)) x4_3 l0_0 l0_1 l0_2 l0_3 l0_4 a0_5 = some r) ∧ Aside0 (kq ≤ k) ∧ Aside0 (Kd.V (Kd.int .i64) 2 w' w.heap.size (fun k_ => (P2_ k_ ∨ w.heap.size ≤ k_) ∧ some k_ ≠ (v2 : Value).ownBlock ∧ k_ ≠ gb0) (.slice A2 l2.length c2) l2) ∧ Aside0 (Kd.N (Kd.slice 2 (Kd.int .i64)) 24 w' w.heap.size (fun k_ => (P2_ k_ ∨ w.heap.size ≤ k_) ∧ k_ ≠ gb0) v2 x2_3) ∧ Aside0 (w'.heap[gb0]? = some (.cells (f5 A0_0 l0_0 c0_0 A0_1 l0_1 c0_1 A0_2 l0_2 c0_2 A0_3 l0_3 c0_3 A0_4 l0_4 c0_4 a0_5) 33 (0, 0))) ∧ Aside0 (Below w.heap.size w w'))
    case atStart => exact ⟨(y26), (0), es, H', ⟨Nat.le_refl _⟩, ⟨by (with_reducible repeat (first | apply Kd.V_alloc | apply Kd.V_drewN | apply Kd.V_drew)); exact Kd.V_mono HO1.1 (fun _ hk => ⟨hk.1.1, ⟨hk.2, hk.1.2⟩⟩)⟩, ⟨vN HO43.1⟩, ⟨vk BK0.1⟩, ⟨vb HB.1⟩⟩
    case round =>
     clear H'; obtain ⟨x2_3, x4_3, rfl, HA, HK1, HO_1, HO_2, BK0, HB⟩ := hrel
     cases gk with
     | zero => exact absurd HA.1 (by simp [spec_l18All.l0])
     | succ k1 =>
      have H := HA.1; clear HA; simp only [spec_l18All.l0] at H
      by_cases c13 : x4_3 < ((rd_L5 l1 (l2.length : Int)).length : Int)
      ·rw [if_pos c13] at H; have c13b0 := decide_eq_true c13; clear c13; by_cases c14 : 0 ≤ x4_3
       ·rw [if_pos c14] at H; have c14b0 := decide_eq_true c14; clear c14; obtain ⟨t40, A15, H⟩ := bnk H; have H' := ak H; clear H; have p12 : 0 ≤ (x4_3 : Int) := od; have q12 : x4_3 < ((rd_L5 l1 (l2.length : Int)).length : Int) := od; obtain ⟨ad12, e12, hx12_5⟩ := Kd.at_int HR193_0.1 x4_3 p12 q12
        cases e12; replace hx12_5 := cb HB.1 hx12_5; replace p12 := eq_true p12; replace q12 := eq_true q12; go_wp2_with (first | ((with_reducible refine at_fn (f := 116) rfl ?_); refine gl (some 36) Try.func116 #[.slice A2 l2.length c2, .int .i64 (rd (rd_L5 l1 (l2.length : Int)) x4_3)] ?_; (with_reducible refine (spec_l01Has.calls k1 _ _ l2 (rd (rd_L5 l1 (l2.length : Int)) x4_3) t40 _ ?_ ?_ A15.1).mono ?_); exact vc (Kd.V_reads' HO_1.1).2.2; exact (Kd.V_reads' HO_1.1).2.1; rintro e w' ⟨rfl, ⟨nd, rfl⟩⟩; refine ⟨_, rfl, ?_⟩))
        go_loopg [10, 11] k1 (fun kq v18 v7 w' => ∃ (x18_1 : Bool) (x7_1 : Int), v18 = .bool x18_1 ∧ v7 = .int .i64 x7_1 ∧ Aside0 (spec_l18All.l1 kq l1 l2 x2_3 (rd_L5 l1 (l2.length : Int)) x4_3 x18_1 x7_1 l0_0 l0_1 l0_2 l0_3 l0_4 a0_5 = some r) ∧ Aside0 (kq ≤ k1) ∧ Aside0 (Kd.V (Kd.int .i64) 2 w' w.heap.size (fun k_ => (P2_ k_ ∨ w.heap.size ≤ k_) ∧ some k_ ≠ (u7 : Value).ownBlock ∧ k_ ≠ gb0) (.slice A2 l2.length c2) l2) ∧ Aside0 (Kd.N (Kd.slice 2 (Kd.int .i64)) 24 w' w.heap.size (fun k_ => (P2_ k_ ∨ w.heap.size ≤ k_) ∧ k_ ≠ gb0) u7 x2_3) ∧ Aside0 (w'.heap[gb0]? = some (.cells (f5 A0_0 l0_0 c0_0 A0_1 l0_1 c0_1 A0_2 l0_2 c0_2 A0_3 l0_3 c0_3 A0_4 l0_4 c0_4 a0_5) 33 (0, 0))) ∧ Aside0 (Below w.heap.size w w'))
        case atStart => exact ⟨(!t40), (0), es, es, H', ⟨Nat.le_refl _⟩, ⟨vV HO_1.1⟩, ⟨vN HO_2.1⟩, ⟨vk BK0.1⟩, ⟨vb HB.1⟩⟩
        case round =>
         clear H'; obtain ⟨x18_1, x7_1, rfl, rfl, HA, HK2, HO_1, HO_2, BK0, HB⟩ := hrel
         cases gk with
         | zero => exact absurd HA.1 (by simp [spec_l18All.l1])
         | succ k2 =>
          have H := HA.1; clear HA; simp only [spec_l18All.l1] at H
          by_cases c16 : x7_1 < (l2.length : Int)
          ·rw [if_pos c16] at H; have c16b0 := decide_eq_true c16; clear c16; by_cases c17 : x18_1 = true
           ·subst c17; rw [if_pos rfl] at H; by_cases c18 : 0 ≤ x7_1
            ·rw [if_pos c18] at H; have c18b0 := decide_eq_true c18; clear c18; by_cases c19 : 0 ≤ x4_3
             ·rw [if_pos c19] at H; have c19b0 := decide_eq_true c19; clear c19; by_cases c20 : x4_3 < ((rd_L5 l1 (l2.length : Int)).length : Int)
              ·rw [if_pos c20] at H; have c20b0 := decide_eq_true c20; clear c20; obtain ⟨t41, A21, H⟩ := bnk H; have H' := ak H; clear H; (try go_wp2)
               replace HO_1 := ak (Kd.V_drew HO_1.1); replace HO_2 := ak (Kd.N_drew HO_2.1); replace BK0 := ak (blk_drew BK0.1); replace HB := ak (below_drew1 HB.1); have p15 : 0 ≤ (x7_1 : Int) := od; have q15 : x7_1 < (l2.length : Int) := od; obtain ⟨ad15, e15, hx15_5⟩ := Kd.at_int (Kd.V_reads' HO_1.1).2.2 x7_1 p15 q15
               cases e15; replace p15 := eq_true p15; replace q15 := eq_true q15; have p13 : 0 ≤ (x4_3 : Int) := od; have q13 : x4_3 < ((rd_L5 l1 (l2.length : Int)).length : Int) := od; obtain ⟨ad13, e13, hx13_5⟩ := Kd.at_int HR193_0.1 x4_3 p13 q13; have hw13_5 := hx13_5; obtain rfl : ad12 = ad13 := (by injection e13); replace hx13_5 := cb HB.1 hx13_5; replace p13 := eq_true p13; replace q13 := eq_true q13; refine start_ (n := 20) (S := fun w' => w'.cell? ⟨gb0, 0, none⟩ = some (.slice A0_0 l0_0.length c0_0) ∧ w'.cell? ⟨gb0, 1, none⟩ = some (.slice A0_1 l0_1.length c0_1) ∧ w'.cell? ⟨gb0, 2, none⟩ = some (.slice A0_2 l0_2.length c0_2) ∧ w'.cell? ⟨gb0, 3, none⟩ = some (.slice A0_3 l0_3.length c0_3) ∧ w'.cell? ⟨gb0, 4, none⟩ = some (.slice A0_4 l0_4.length c0_4) ∧ w'.cell? ⟨gb0, 5, none⟩ = some (.int .i64 a0_5) ∧ w'.cell? (ad15.add (x7_1).toNat) = some (.int .i64 (rd l2 x7_1)) ∧ w'.cell? (ad12.add (x4_3).toNat) = some (.int .i64 (rd (rd_L5 l1 (l2.length : Int)) x4_3))) (ds := []) (tf 0 20) (by kernel_rfl) rfl rfl ⟨bk BK0.1 0, bk BK0.1 1, bk BK0.1 2, bk BK0.1 3, bk BK0.1 4, bk BK0.1 5, hx15_5, (cb HB.1 hw13_5 :)⟩ (fun hHeld => ?_); refine with_tabW spec_l18All.tab12 spec_l18All.bits12 (fun HT_ HW_ => ?_); generalize wr.drew = w22 at HO_1 HO_2 BK0 HB hx15_5 hx13_5 hHeld ⊢
               refine pu_ 0 44 (tf 1 19) rfl rfl ?_; refine pu_ 1 45 (tf 2 18) rfl rfl ?_; refine pu_ 3 47 (tM [2, 1, 1, 16]) rfl rfl ?_; refine pu_ 4 48 (tM [2, 1, 2, 15]) rfl rfl ?_; refine pu_ 5 49 (tM [2, 1, 3, 14]) rfl rfl ?_; refine pu_ 7 51 (tM [2, 1, 3, 1, 1, 12]) rfl rfl ?_; refine pu_ 8 52 (tM [2, 1, 3, 1, 2, 11]) rfl rfl ?_; refine pu_ 9 53 (tM [2, 1, 3, 1, 3, 10]) rfl rfl ?_; refine pu_ 12 56 (tM [2, 1, 3, 1, 3, 2, 1, 7]) rfl rfl ?_; refine pu_ 14 58 (tM [2, 1, 3, 1, 3, 2, 1, 1, 1, 5]) rfl rfl ?_; refine ta8_ 2 46 (tM [6, 1, 3, 2, 1, 1, 1, 5]) rfl rfl ?_
               refine ta8_ 6 50 (tM [10, 2, 1, 1, 1, 5]) rfl rfl ?_; refine ta8_ 10 54 (tM [11, 1, 1, 1, 1, 5]) rfl rfl ?_; refine ta8_ 13 57 (tM [11, 1, 3, 5]) rfl rfl ?_; refine ta8_ 15 59 (tM [11, 1, 4, 4]) rfl rfl ?_; refine pu_ 16 60 (tM [11, 1, 5, 3]) rfl rfl ?_; refine one_ (i := 11) (N := some 55) (tf 17 3) rfl rfl (one_of HT_.1 (by kernel_rfl)) (by decide) (fun K hK => ?_); refine goes_ Try.func87 (by kernel_rfl) rfl #[.agg (f5 A0_0 l0_0 c0_0 A0_1 l0_1 c0_1 A0_2 l0_2 c0_2 A0_3 l0_3 c0_3 A0_4 l0_4 c0_4 a0_5), .int .i64 (rd l2 x7_1), .int .i64 (rd (rd_L5 l1 (l2.length : Int)) x4_3)] (by rfl) rfl rfl (by (try simp only [List.map_toArray, List.map_cons, List.map_nil]); first | done | rfl | (simp only [List.length_drop, List.length_take]; rfl)) ?_; with_reducible refine (spec_l18Square.calls _ _ l0_0 _ _ l0_1 _ _ l0_2 _ _ l0_3 _ _ l0_4 a0_5 (rd l2 x7_1) (rd (rd_L5 l1 (l2.length : Int)) x4_3) t41 _ ?_ ?_ ?_ ?_ ?_ ?_ ?_ ?_ ?_ ?_ A21.1).mono ?_
               exact vd HR0_0.1 HB.1
               exact HC0_0.1
               exact vd HR0_1.1 HB.1
               exact HC0_1.1
               exact vd HR0_2.1 HB.1
               exact HC0_2.1
               exact vd HR0_3.1 HB.1
               exact HC0_3.1
               exact vd HR0_4.1 HB.1
               exact HC0_4.1
               rintro e w23 ⟨rfl, hb⟩; have HS6_ := (hb.cell (World.block_lt_of_cell? _ _ (hHeld.2.2.2.2.2.2.1))).trans (hHeld.2.2.2.2.2.2.1); refine ⟨_, rfl, ?_⟩; replace HO_1 := ak (Kd.V_below (vV HO_1.1) hb); replace HO_2 := ak (Kd.N_below (vN HO_2.1) hb); replace BK0 := kb BK0 hb; replace HB := bs HB hb; (try clear hb)
               (try clear hb2)
               (try clear hk)
               (try clear hi)
               refine hK.out _ _ ⟨bk BK0.1 0, bk BK0.1 1, bk BK0.1 2, bk BK0.1 3, bk BK0.1 4, bk BK0.1 5, HS6_, (cb HB.1 hw13_5 :)⟩ (fun hHeld => ?_); clear hK K; refine norm_ (a' := ?_) ?_ ?_
               rotate_left
               ·show Act.put _ (some 55) _ = _
                simp only [Act.put, List.setIfInBounds_toArray, List.set_cons_zero, List.set_cons_succ, i64_w, i32_w]
                rfl
               refine pu_ 17 61 (tf 18 2) rfl rfl ?_; refine pu_ 18 62 (tf 19 1) rfl rfl ?_; refine pu_ 19 10 (tf 20 0) rfl rfl ?_; refine done_ (done_of HT_.1 (by kernel_rfl)) ?_; (try go_wp2)
               go_roundg k2
               case measure => have := HK1.1; have := HK2.1; omega
               case rel => exact ⟨(decide (t41 ≥ (wrap64 (a0_5 * a0_5)))), (wrap64 (x7_1 + 1)), es, es, H', ⟨by have := HK1.1; have := HK2.1; omega⟩, ⟨vV HO_1.1⟩, ⟨vN HO_2.1⟩, ⟨vk BK0.1⟩, ⟨vb HB.1⟩⟩
              ·exact nO_ c20 H
             ·exact nO_ c19 H
            ·exact nO_ c18 H
           ·replace c17 := Bool.eq_false_iff.mpr c17; subst c17; rw [if_neg nf] at H; have H' := ak H; clear H; (try go_wp2)
            replace HO_1 := ak (Kd.V_drew HO_1.1); replace HO_2 := ak (Kd.N_drew HO_2.1); replace BK0 := ak (blk_drew BK0.1); replace HB := ak (below_drew1 HB.1); refine start_ (n := 20) (S := fun w' => True) (ds := []) (tf 0 20) (by kernel_rfl) rfl rfl trivial (fun hHeld => ?_); refine with_tabW spec_l18All.tab12 spec_l18All.bits12 (fun HT_ HW_ => ?_); generalize wr.drew = w24 at HO_1 HO_2 BK0 HB hHeld ⊢; refine pu_ 0 44 (tf 1 19) rfl rfl ?_; refine pu_ 1 45 (tf 2 18) rfl rfl ?_; refine un_ 2 46 (tf 3 17) rfl rfl ?_; refine un_ 3 47 (tf 4 16) rfl rfl ?_; refine un_ 4 48 (tf 5 15) rfl rfl ?_; refine un_ 5 49 (tf 6 14) rfl rfl ?_; refine un_ 6 50 (tf 7 13) rfl rfl ?_; refine un_ 7 51 (tf 8 12) rfl rfl ?_; refine un_ 8 52 (tf 9 11) rfl rfl ?_; refine un_ 9 53 (tf 10 10) rfl rfl ?_; refine un_ 10 54 (tf 11 9) rfl rfl ?_; refine un_ 11 55 (tf 12 8) rfl rfl ?_; refine un_ 12 56 (tf 13 7) rfl rfl ?_; refine un_ 13 57 (tf 14 6) rfl rfl ?_; refine un_ 14 58 (tf 15 5) rfl rfl ?_; refine un_ 15 59 (tf 16 4) rfl rfl ?_; refine un_ 16 60 (tf 17 3) rfl rfl ?_; refine un_ 17 61 (tf 18 2) rfl rfl ?_; refine pu_ 18 62 (tf 19 1) rfl rfl ?_; refine pu_ 19 10 (tf 20 0) rfl rfl ?_; refine done_ (done_of HT_.1 (by kernel_rfl)) ?_; (try go_wp2)
            go_roundg k2
            case measure => have := HK1.1; have := HK2.1; omega
            case rel => exact ⟨(false), (wrap64 (x7_1 + 1)), es, es, H', ⟨by have := HK1.1; have := HK2.1; omega⟩, ⟨vV HO_1.1⟩, ⟨vN HO_2.1⟩, ⟨vk BK0.1⟩, ⟨vb HB.1⟩⟩
          ·rw [if_neg c16] at H; have c16b0 := decide_eq_false c16; clear c16; by_cases c25 : x18_1 = true
           ·subst c25; rw [if_pos rfl] at H; obtain ⟨t20, A26, H⟩ := bnk H; by_cases c27 : 0 ≤ x4_3
            ·rw [if_pos c27] at H; have c27b0 := decide_eq_true c27; clear c27; by_cases c28 : x4_3 < ((rd_L5 l1 (l2.length : Int)).length : Int)
             ·rw [if_pos c28] at H; have c28b0 := decide_eq_true c28; clear c28; obtain ⟨y9, Ny9, H⟩ := bnE H; by_cases c29 : t20.length + y9.length < 17592186044416
              ·rw [if_pos c29] at H; have LMc29 := ak c29; clear c29; obtain ⟨y22, hy22⟩ := gen_ ((t20 ++ y9 : List Int)); rw [← hy22] at H; have Ny22 := ak hy22; clear hy22; obtain ⟨t28, A30, H⟩ := bnk H; by_cases c31 : x2_3.length + t28.length < 5864062014805
               ·rw [if_pos c31] at H; have LMc31 := ak c31; clear c31; obtain ⟨y36, hy36⟩ := gen_ ((x2_3 ++ t28 : List (List Int))); rw [← hy36] at H; have Ny36 := ak hy36; clear hy36; have H' := ak H; clear H; obtain ⟨Ao10, co10, eo10⟩ := Kd.N_slice HO_2.1; subst eo10; (try go_wp2)
                replace HO_1 := ak (Kd.V_drew HO_1.1); replace HO_2 := ak (Kd.N_drew HO_2.1); replace BK0 := ak (blk_drew BK0.1); replace HB := ak (below_drew1 HB.1); have p6 : 0 ≤ (x4_3 : Int) := od; have q6 : x4_3 < ((rd_L5 l1 (l2.length : Int)).length : Int) := od; obtain ⟨ad6, e6, hx6_5⟩ := Kd.at_int HR193_0.1 x4_3 p6 q6; have hw6_5 := hx6_5; obtain rfl : ad12 = ad6 := (by injection e6); replace hx6_5 := cb HB.1 hx6_5; replace p6 := eq_true p6; replace q6 := eq_true q6; refine start_ (n := 14) (S := fun w' => w'.cell? ⟨gb0, 0, none⟩ = some (.slice A0_0 l0_0.length c0_0) ∧ w'.cell? ⟨gb0, 1, none⟩ = some (.slice A0_1 l0_1.length c0_1) ∧ w'.cell? ⟨gb0, 2, none⟩ = some (.slice A0_2 l0_2.length c0_2) ∧ w'.cell? ⟨gb0, 3, none⟩ = some (.slice A0_3 l0_3.length c0_3) ∧ w'.cell? ⟨gb0, 4, none⟩ = some (.slice A0_4 l0_4.length c0_4) ∧ w'.cell? ⟨gb0, 5, none⟩ = some (.int .i64 a0_5) ∧ w'.cell? (ad12.add (x4_3).toNat) = some (.int .i64 (rd (rd_L5 l1 (l2.length : Int)) x4_3))) (ds := []) (tf 0 14) (by kernel_rfl) rfl rfl ⟨bk BK0.1 0, bk BK0.1 1, bk BK0.1 2, bk BK0.1 3, bk BK0.1 4, bk BK0.1 5, (cb HB.1 hw6_5 :)⟩ (fun hHeld => ?_); refine with_tabW spec_l18All.tab14 spec_l18All.bits14 (fun HT_ HW_ => ?_); generalize wr.drew = w33 at HO_1 HO_2 BK0 HB hx6_5 hHeld ⊢
                refine pu_ 0 64 (tf 1 13) rfl rfl ?_; refine pu_ 2 66 (tM [1, 1, 1, 11]) rfl rfl ?_; refine pu_ 3 67 (tM [1, 1, 2, 10]) rfl rfl ?_; refine pu_ 5 69 (tM [1, 1, 2, 1, 1, 8]) rfl rfl ?_; refine pu_ 6 70 (tM [1, 1, 2, 1, 2, 7]) rfl rfl ?_; refine pu_ 7 71 (tM [1, 1, 2, 1, 3, 6]) rfl rfl ?_; refine ta7_ 1 65 (tM [4, 1, 3, 6]) rfl rfl ?_; refine ta7_ 8 72 (tM [4, 1, 4, 5]) rfl rfl ?_; refine join_ (σ := Value × Value) 4 (tf 10 4) (fun s_ => [(68, s_.1), (73, s_.2)]) (fun s_ w' => (w'.cell? ⟨gb0, 0, none⟩ = some (.slice A0_0 l0_0.length c0_0) ∧ w'.cell? ⟨gb0, 1, none⟩ = some (.slice A0_1 l0_1.length c0_1) ∧ w'.cell? ⟨gb0, 2, none⟩ = some (.slice A0_2 l0_2.length c0_2) ∧ w'.cell? ⟨gb0, 3, none⟩ = some (.slice A0_3 l0_3.length c0_3) ∧ w'.cell? ⟨gb0, 4, none⟩ = some (.slice A0_4 l0_4.length c0_4) ∧ w'.cell? ⟨gb0, 5, none⟩ = some (.int .i64 a0_5) ∧ w'.cell? (ad12.add (x4_3).toNat) = some (.int .i64 (rd (rd_L5 l1 (l2.length : Int)) x4_3))) ∧ (Kd.R (Kd.int .i64) 2 w' w.heap.size (fun k_ => (w.heap.size ≤ k_) ∧ some k_ ≠ (s_.2 : Value).ownBlock) s_.1 t20) ∧ (Kd.R (Kd.int .i64) 2 w' w.heap.size (fun k_ => (w.heap.size ≤ k_) ∧ some k_ ≠ (s_.1 : Value).ownBlock) s_.2 y9) ∧ (Kd.V (Kd.int .i64) 2 w' w.heap.size (fun k_ => (P2_ k_ ∨ w.heap.size ≤ k_) ∧ some k_ ≠ (s_.1 : Value).ownBlock ∧ some k_ ≠ (s_.2 : Value).ownBlock ∧ nB k_ Ao10 x2_3.length co10 ∧ k_ ≠ gb0) (.slice A2 l2.length c2) l2) ∧ (Kd.N (Kd.slice 2 (Kd.int .i64)) 24 w' w.heap.size (fun k_ => (P2_ k_ ∨ w.heap.size ≤ k_) ∧ some k_ ≠ (s_.1 : Value).ownBlock ∧ some k_ ≠ (s_.2 : Value).ownBlock ∧ k_ ≠ gb0) (.slice Ao10 x2_3.length co10) x2_3) ∧ (w'.heap[gb0]? = some (.cells (f5 A0_0 l0_0 c0_0 A0_1 l0_1 c0_1 A0_2 l0_2 c0_2 A0_3 l0_3 c0_3 A0_4 l0_4 c0_4 a0_5) 33 (0, 0))) ∧ (Below w.heap.size w w')) ?_ ?_
                rotate_left
                ·intro hCont; refine two_ (i := 4) (j := 9) (Ni := some 68) (Nj := some 73) (tf 9 5) (tM [4, 1, 5, 4]) rfl rfl rfl rfl (two_of HT_.1 (by kernel_rfl)) (by decide) (by decide) (fun K hK => ?_) (fun K hK => ?_)
                 ·skip
                  refine goes_ Try.func90 (by kernel_rfl) rfl #[.slice A2 l2.length c2] (by rfl) rfl rfl (by (try simp only [List.map_toArray, List.map_cons, List.map_nil]); first | done | rfl | (simp only [List.length_drop, List.length_take]; rfl)) ?_; with_reducible refine (spec_l01Own.calls _ _ l2 t20 _ ?_ ?_ A26.1).mono ?_
                  exact vc (Kd.V_reads' HO_1.1).2.2
                  exact (Kd.V_reads' HO_1.1).2.1
                  rintro e w34 ⟨v24, rfl, ho5, hb⟩; refine ⟨_, rfl, ?_⟩; replace HO_1 := ak (Kd.V_elder' (vV HO_1.1) (Kd.R_base ho5) hb); replace HO_2 := ak (Kd.N_elder' (vN HO_2.1) (Kd.R_base ho5) hb); have HO21 := ak (Kd.R_lower (Kd.R_newM (M := fun k_ => (w.heap.size ≤ k_)) ho5 (below_size (vb HB.1)) (fun k_ h_ => h_)) (below_size (vb HB.1))); replace BK0 := kb BK0 hb; replace HB := bs HB hb; (try clear hb)
                  (try clear hb2)
                  (try clear hk)
                  (try clear hi)
                  (try clear ho5)
                  refine hK.out _ _ ⟨bk BK0.1 0, bk BK0.1 1, bk BK0.1 2, bk BK0.1 3, bk BK0.1 4, bk BK0.1 5, (cb HB.1 hw6_5 :)⟩ (fun hHeld => ?_); clear hK K; refine norm_ (a' := ?_) ?_ ?_
                  rotate_left
                  ·show Act.put _ (some 68) _ = _
                   simp only [Act.put, List.setIfInBounds_toArray, List.set_cons_zero, List.set_cons_succ, i64_w, i32_w]
                   rfl
                  refine one_ (i := 9) (N := some 73) (tf 10 4) rfl rfl (one_of HT_.1 (by kernel_rfl)) (by decide) (fun K hK => ?_); refine Kd.R_lit_step (Kd.int .i64) _ 2 ?hg (N := 73) ?hd (xs := ([rd (rd_L5 l1 (l2.length : Int)) x4_3] : List Int)) (inner := [.int .i64 (rd (rd_L5 l1 (l2.length : Int)) x4_3)]) (ok := fun _ => True) (okp := fun _ => True) ?hr ?hp (fun _ hk => hk) trivial (Below.refl _ _) (Nat.le_refl _) (by simp) ?_; (case hd => rfl); (case hg => rfl); (case hr => first | (go_simp; done) | (go_simp; rfl)); (case hp => exact (Reps.one (show Kd.M (Kd.int .i64) _ _ _ (rd (rd_L5 l1 (l2.length : Int)) x4_3) [.int .i64 (rd (rd_L5 l1 (l2.length : Int)) x4_3)] from rfl) (Reps.none _ _))); intro v27 w35 ho25 hb hg_ hnew_; clear hg_ hnew_; (first | rw [← Ny9.1] at ho25 | (simp only [Int.reduceToNat] at ho25; rw [← Ny9.1] at ho25))
                  replace HO_1 := ak (Kd.V_elder' (vV HO_1.1) (Kd.R_base ho25) hb); replace HO_2 := ak (Kd.N_elder' (vN HO_2.1) (Kd.R_base ho25) hb); have HO11 := ak (Kd.R_lower (Kd.R_new' (Kd.R_newM (M := fun k_ => (w.heap.size ≤ k_)) ho25 (below_size (vb HB.1)) (fun k_ h_ => h_)) (Kd.R_lt (vr HO21.1))) (below_size (vb HB.1))); replace HO21 := ro HO21 ho25 hb; replace BK0 := kb BK0 hb; replace HB := bs HB hb; clear hb ho25; refine hK.out _ _ ⟨bk BK0.1 0, bk BK0.1 1, bk BK0.1 2, bk BK0.1 3, bk BK0.1 4, bk BK0.1 5, (cb HB.1 hw6_5 :)⟩ (fun hHeld => ?_); clear hK K; refine norm_ (a' := ?_) ?_ ?_
                  rotate_left
                  ·show Act.put _ (some 73) _ = _
                   simp only [Act.put, List.setIfInBounds_toArray, List.set_cons_zero, List.set_cons_succ, i64_w, i32_w]
                   rfl
                  exact norm_ (by simp only [putAll, Act.put, List.setIfInBounds_toArray, List.set_cons_zero, List.set_cons_succ]) (hCont (v24, v27) _ ⟨hHeld, (vr (Kd.R_mono HO21.1 (fun _ hk => ⟨hk.1.1, hk.2⟩))), (vr (Kd.R_mono HO11.1 (fun _ hk => ⟨hk.1.1, hk.2⟩))), (by (with_reducible repeat (first | apply Kd.V_alloc | apply Kd.V_drewN | apply Kd.V_drew)); exact Kd.V_mono HO_1.1 (fun _ hk => ⟨hk.1.1.1, ⟨hk.1.2, ⟨hk.2, ⟨hk.1.1.2.1, hk.1.1.2.2⟩⟩⟩⟩)), (vN (Kd.N_mono HO_2.1 (fun _ hk => ⟨hk.1.1.1, ⟨hk.1.2, ⟨hk.2, hk.1.1.2⟩⟩⟩))), (vk BK0.1), (vb HB.1)⟩)
                 ·skip
                  refine Kd.R_lit_step (Kd.int .i64) _ 2 ?hg (N := 73) ?hd (xs := ([rd (rd_L5 l1 (l2.length : Int)) x4_3] : List Int)) (inner := [.int .i64 (rd (rd_L5 l1 (l2.length : Int)) x4_3)]) (ok := fun _ => True) (okp := fun _ => True) ?hr ?hp (fun _ hk => hk) trivial (Below.refl _ _) (Nat.le_refl _) (by simp) ?_; (case hd => rfl); (case hg => rfl); (case hr => first | (go_simp; done) | (go_simp; rfl)); (case hp => exact (Reps.one (show Kd.M (Kd.int .i64) _ _ _ (rd (rd_L5 l1 (l2.length : Int)) x4_3) [.int .i64 (rd (rd_L5 l1 (l2.length : Int)) x4_3)] from rfl) (Reps.none _ _))); intro v27 w34 ho34 hb hg_ hnew_; clear hg_ hnew_; (first | rw [← Ny9.1] at ho34 | (simp only [Int.reduceToNat] at ho34; rw [← Ny9.1] at ho34))
                  replace HO_1 := ak (Kd.V_elder' (vV HO_1.1) (Kd.R_base ho34) hb); replace HO_2 := ak (Kd.N_elder' (vN HO_2.1) (Kd.R_base ho34) hb); have HO11 := ak (Kd.R_lower (Kd.R_newM (M := fun k_ => (w.heap.size ≤ k_)) ho34 (below_size (vb HB.1)) (fun k_ h_ => h_)) (below_size (vb HB.1))); replace BK0 := kb BK0 hb; replace HB := bs HB hb; clear hb ho34; refine hK.out _ _ ⟨bk BK0.1 0, bk BK0.1 1, bk BK0.1 2, bk BK0.1 3, bk BK0.1 4, bk BK0.1 5, (cb HB.1 hw6_5 :)⟩ (fun hHeld => ?_); clear hK K; refine norm_ (a' := ?_) ?_ ?_
                  rotate_left
                  ·show Act.put _ (some 73) _ = _
                   simp only [Act.put, List.setIfInBounds_toArray, List.set_cons_zero, List.set_cons_succ, i64_w, i32_w]
                   rfl
                  refine one_ (i := 4) (N := some 68) (tf 10 4) rfl rfl (one_of HT_.1 (by kernel_rfl)) (by decide) (fun K hK => ?_); refine goes_ Try.func90 (by kernel_rfl) rfl #[.slice A2 l2.length c2] (by rfl) rfl rfl (by (try simp only [List.map_toArray, List.map_cons, List.map_nil]); first | done | rfl | (simp only [List.length_drop, List.length_take]; rfl)) ?_; with_reducible refine (spec_l01Own.calls _ _ l2 t20 _ ?_ ?_ A26.1).mono ?_
                  exact vc (Kd.V_reads' HO_1.1).2.2
                  exact (Kd.V_reads' HO_1.1).2.1
                  rintro e w36 ⟨v24, rfl, ho5, hb⟩; refine ⟨_, rfl, ?_⟩; replace HO_1 := ak (Kd.V_elder' (vV HO_1.1) (Kd.R_base ho5) hb); replace HO_2 := ak (Kd.N_elder' (vN HO_2.1) (Kd.R_base ho5) hb); have HO21 := ak (Kd.R_lower (Kd.R_new' (Kd.R_newM (M := fun k_ => (w.heap.size ≤ k_)) ho5 (below_size (vb HB.1)) (fun k_ h_ => h_)) (Kd.R_lt (vr HO11.1))) (below_size (vb HB.1))); replace HO11 := ro HO11 ho5 hb; replace BK0 := kb BK0 hb; replace HB := bs HB hb; (try clear hb)
                  (try clear hb2)
                  (try clear hk)
                  (try clear hi)
                  (try clear ho5)
                  refine hK.out _ _ ⟨bk BK0.1 0, bk BK0.1 1, bk BK0.1 2, bk BK0.1 3, bk BK0.1 4, bk BK0.1 5, (cb HB.1 hw6_5 :)⟩ (fun hHeld => ?_); clear hK K; refine norm_ (a' := ?_) ?_ ?_
                  rotate_left
                  ·show Act.put _ (some 68) _ = _
                   simp only [Act.put, List.setIfInBounds_toArray, List.set_cons_zero, List.set_cons_succ, i64_w, i32_w]
                   rfl
                  exact norm_ (by simp only [putAll, Act.put, List.setIfInBounds_toArray, List.set_cons_zero, List.set_cons_succ]) (hCont (v24, v27) _ ⟨hHeld, (vr (Kd.R_mono HO21.1 (fun _ hk => ⟨hk.1.1, hk.2⟩))), (vr (Kd.R_mono HO11.1 (fun _ hk => ⟨hk.1.1, hk.2⟩))), (by (with_reducible repeat (first | apply Kd.V_alloc | apply Kd.V_drewN | apply Kd.V_drew)); exact Kd.V_mono HO_1.1 (fun _ hk => ⟨hk.1.1.1, ⟨hk.2, ⟨hk.1.2, ⟨hk.1.1.2.1, hk.1.1.2.2⟩⟩⟩⟩)), (vN (Kd.N_mono HO_2.1 (fun _ hk => ⟨hk.1.1.1, ⟨hk.2, ⟨hk.1.2, hk.1.1.2⟩⟩⟩))), (vk BK0.1), (vb HB.1)⟩)
                rintro ⟨v24, v27⟩ w37 ⟨hS_, h0_, h1_, h2_, h3_, h4_, h5_⟩; have n0_ : Aside0 (Kd.R (Kd.int .i64) 2 w37 w.heap.size (fun k_ => (w.heap.size ≤ k_) ∧ some k_ ≠ (v27 : Value).ownBlock) v24 t20) := ⟨h0_⟩; have n1_ : Aside0 (Kd.R (Kd.int .i64) 2 w37 w.heap.size (fun k_ => (w.heap.size ≤ k_) ∧ some k_ ≠ (v24 : Value).ownBlock) v27 y9) := ⟨h1_⟩; have n2_ : Aside0 (Kd.V (Kd.int .i64) 2 w37 w.heap.size (fun k_ => (P2_ k_ ∨ w.heap.size ≤ k_) ∧ some k_ ≠ (v24 : Value).ownBlock ∧ some k_ ≠ (v27 : Value).ownBlock ∧ nB k_ Ao10 x2_3.length co10 ∧ k_ ≠ gb0) (.slice A2 l2.length c2) l2) := ⟨h2_⟩; have n3_ : Aside0 (Kd.N (Kd.slice 2 (Kd.int .i64)) 24 w37 w.heap.size (fun k_ => (P2_ k_ ∨ w.heap.size ≤ k_) ∧ some k_ ≠ (v24 : Value).ownBlock ∧ some k_ ≠ (v27 : Value).ownBlock ∧ k_ ≠ gb0) (.slice Ao10 x2_3.length co10) x2_3) := ⟨h3_⟩; have n4_ : Aside0 (w37.heap[gb0]? = some (.cells (f5 A0_0 l0_0 c0_0 A0_1 l0_1 c0_1 A0_2 l0_2 c0_2 A0_3 l0_3 c0_3 A0_4 l0_4 c0_4 a0_5) 33 (0, 0))) := ⟨h4_⟩; have n5_ : Aside0 (Below w.heap.size w w37) := ⟨h5_⟩; clear HO_1; clear HO_2; clear BK0; clear HB; clear h0_ h1_ h2_ h3_ h4_ h5_; have HO21 := n0_; have HO11 := n1_; have HO_1 := n2_; have HO_2 := n3_; have BK0 := n4_; have HB := n5_; clear n0_ n1_ n2_ n3_ n4_ n5_; have hHeld : w37.cell? ⟨gb0, 0, none⟩ = some (.slice A0_0 l0_0.length c0_0) ∧ w37.cell? ⟨gb0, 1, none⟩ = some (.slice A0_1 l0_1.length c0_1) ∧ w37.cell? ⟨gb0, 2, none⟩ = some (.slice A0_2 l0_2.length c0_2) ∧ w37.cell? ⟨gb0, 3, none⟩ = some (.slice A0_3 l0_3.length c0_3) ∧ w37.cell? ⟨gb0, 4, none⟩ = some (.slice A0_4 l0_4.length c0_4) ∧ w37.cell? ⟨gb0, 5, none⟩ = some (.int .i64 a0_5) ∧ w37.cell? (ad12.add (x4_3).toNat) = some (.int .i64 (rd (rd_L5 l1 (l2.length : Int)) x4_3)) := hS_
                obtain ⟨Ao8, co8, eo8⟩ := Kd.R_slice HO11.1; (first | subst eo8 | (injection eo8 with f1_ f2_ f3_; have f4_ := f1_.symm; have f5_ := f3_.symm; clear f1_ f2_ f3_; subst f4_; subst f5_))
                refine norm_ (a' := ?_) ?_ ?_
                rotate_left
                ·simp only [putAll, Act.put, List.setIfInBounds_toArray, List.set_cons_zero, List.set_cons_succ]
                 rfl
                refine one_ (i := 10) (N := some 74) (tf 11 3) rfl rfl (one_of HT_.1 (by kernel_rfl)) (by decide) (fun K hK => ?_); refine Kd.R_append_rows_step (Kd.int .i64) (w0 := w) w.heap.size (by rfl) (.tmp 68) (.tmp 73) 24 2 (.int .i64 0) 8 rfl Try.underlying24 info2 rfl (by decide) (by omega) v24 t20 y9 _ _ _ (fun k_ => (w.heap.size ≤ k_) ∧ nB k_ Ao8 y9.length co8) (fun _ => False) rfl rfl ?aO ?aR (fun _ _ h => h) (fun _ h => h.elim) ?aF ?aB ?aS ?aL ?_; (case aR => exact rc_ HO11)
                (case aB => exact (vb HB.1))
                (case aF => exact (fun k_ hk => ⟨(Nat.le_trans (below_size (vb HB.1)) hk), Kd.fresh' (Kd.R_lt (vr HO11.1)) k_ hk⟩))
                (case aO => exact (vr HO21.1))
                (case aS => exact (below_size (vb HB.1)))
                (case aL => have := LMc29.1; omega)
                intro v47 w38 ho hb hg hat; rw [← Ny22.1] at ho; have n0_ := ak (Kd.V_afterv (ok := (fun k_ => (P2_ k_ ∨ w.heap.size ≤ k_) ∧ nB k_ Ao10 x2_3.length co10 ∧ nB k_ Ao8 y9.length co8 ∧ k_ ≠ gb0)) (by (with_reducible repeat (first | apply Kd.V_alloc | apply Kd.V_drewN | apply Kd.V_drew)); exact Kd.V_mono HO_1.1 (fun _ hk => ⟨⟨hk.1, ⟨hk.2.2.2.1, ⟨hk.2.2.1, hk.2.2.2.2⟩⟩⟩, hk.2.1⟩)) hg hat); have n1_ := ak (Kd.N_afterv (ok := (fun k_ => (P2_ k_ ∨ w.heap.size ≤ k_) ∧ nB k_ Ao8 y9.length co8 ∧ k_ ≠ gb0)) (vN (Kd.N_mono HO_2.1 (fun _ hk => ⟨⟨hk.1, ⟨hk.2.2.1, hk.2.2.2⟩⟩, hk.2.1⟩))) hg hat); have n2_ := ak (blk_grown (g := gb0) (o := .cells (f5 A0_0 l0_0 c0_0 A0_1 l0_1 c0_1 A0_2 l0_2 c0_2 A0_3 l0_3 c0_3 A0_4 l0_4 c0_4 a0_5) 33 (0, 0)) (vk BK0.1) hg (Kd.R_ne HO21.1 BK0.1 (by decide))); have n3_ := ak (Kd.R_after (ok := (fun k_ => (w.heap.size ≤ k_))) (vr HO11.1) hg hat); have n4_ := ak (hb); have n5_ := ak (ho); clear HO_1; clear HO_2; clear BK0; clear HO11; clear HB; clear HO21; have HO_1 := n0_; have HO_2 := n1_; have BK0 := n2_; have HO11 := n3_; have HB := n4_; have HO17 := n5_; clear n0_ n1_ n2_ n3_ n4_ n5_; clear ho hb hg hat
                obtain ⟨Ao19, co19, eo19⟩ := Kd.R_slice HO17.1; (first | subst eo19 | (injection eo19 with f1_ f2_ f3_; have f4_ := f1_.symm; have f5_ := f3_.symm; clear f1_ f2_ f3_; subst f4_; subst f5_))
                refine hK.out _ _ ⟨bk BK0.1 0, bk BK0.1 1, bk BK0.1 2, bk BK0.1 3, bk BK0.1 4, bk BK0.1 5, (cb HB.1 hw6_5 :)⟩ (fun hHeld => ?_); clear hK K; refine norm_ (a' := ?_) ?_ ?_
                rotate_left
                ·show Act.put _ (some 74) _ = _
                 simp only [Act.put, List.setIfInBounds_toArray, List.set_cons_zero, List.set_cons_succ, i64_w, i32_w]
                 rfl
                refine one_ (i := 11) (N := some 75) (tf 12 2) rfl rfl (one_of HT_.1 (by kernel_rfl)) (by decide) (fun K hK => ?_); refine goes_ Try.func108 (by kernel_rfl) rfl #[.agg (f5 A0_0 l0_0 c0_0 A0_1 l0_1 c0_1 A0_2 l0_2 c0_2 A0_3 l0_3 c0_3 A0_4 l0_4 c0_4 a0_5), .slice (some ad14) l1.length c1, .slice Ao19 y22.length co19] (by rfl) rfl rfl (by (try simp only [List.map_toArray, List.map_cons, List.map_nil]); first | done | rfl | (simp only [List.length_drop, List.length_take]; rfl)) ?_; with_reducible refine (ih k2 (by have := HK1.1; have := HK2.1; omega) _ _ l0_0 _ _ l0_1 _ _ l0_2 _ _ l0_3 _ _ l0_4 a0_5 _ _ l1 (fun k_ => some k_ = (.slice Ao19 y22.length co19 : Value).ownBlock) _ _ y22 t28 _ ?_ ?_ ?_ ?_ ?_ ?_ ?_ ?_ ?_ ?_ ?_ ?_ ?_ A30.1).mono ?_
                exact vd HR0_0.1 HB.1
                exact HC0_0.1
                exact vd HR0_1.1 HB.1
                exact HC0_1.1
                exact vd HR0_2.1 HB.1
                exact HC0_2.1
                exact vd HR0_3.1 HB.1
                exact HC0_3.1
                exact vd HR0_4.1 HB.1
                exact HC0_4.1
                exact vd HR1.1 HB.1
                exact HC1.1
                exact Kd.R_V (Kd.R_tight rfl (Kd.R_types (Kd.R_apart' (HO17.1) (Kd.N_typed HO_2.1) (by decide)) BK0.1 (by decide)))
                rintro e w41 ⟨v48, rfl, ho5, hb⟩; refine ⟨_, rfl, ?_⟩; replace HO_1 := ak (Kd.V_elder' (vV HO_1.1) (Kd.N_base ho5) hb); have HO39 := ak (Kd.N_lower (Kd.N_mono (ok' := fun k_ => (P2_ k_ ∨ w.heap.size ≤ k_) ∧ nB k_ Ao10 x2_3.length co10 ∧ nB k_ Ao8 y9.length co8 ∧ k_ ≠ gb0) ho5 (fun k_ hk_ => ⟨Or.elim hk_ (fun hs_ => (.inr (((Kd.R_types (Kd.R_apart' (HO17.1) (Kd.N_typed HO_2.1) (by decide)) BK0.1 (by decide)).1 k_ hs_.symm).1.1.1))) (fun hn_ => (.inr (Nat.le_trans (below_size (vb HB.1)) hn_))), Or.elim hk_ (fun hs_ => ((Kd.R_types (Kd.R_apart' (HO17.1) (Kd.N_typed HO_2.1) (by decide)) BK0.1 (by decide)).1 k_ hs_.symm).1.2) (fun hn_ => (Kd.fresh' (Kd.N_lt (vN HO_2.1)) k_ hn_)), Or.elim hk_ (fun hs_ => ((Kd.R_types (Kd.R_apart' (HO17.1) (Kd.N_typed HO_2.1) (by decide)) BK0.1 (by decide)).1 k_ hs_.symm).1.1.2) (fun hn_ => (Kd.fresh' (Kd.R_lt (vr HO11.1)) k_ hn_)), Or.elim hk_ (fun hs_ => ((Kd.R_types (Kd.R_apart' (HO17.1) (Kd.N_typed HO_2.1) (by decide)) BK0.1 (by decide)).1 k_ hs_.symm).2) (fun hn_ => (Kd.freshB (g := gb0) (o := .cells (f5 A0_0 l0_0 c0_0 A0_1 l0_1 c0_1 A0_2 l0_2 c0_2 A0_3 l0_3 c0_3 A0_4 l0_4 c0_4 a0_5) 33 (0, 0)) (vk BK0.1) k_ hn_))⟩)) (below_size (vb HB.1)))
                replace HO_2 := ak (Kd.N_elder' (vN HO_2.1) (Kd.N_base ho5) hb); replace HO11 := rb HO11 hb; replace HO17 := rb HO17 hb; replace BK0 := kb BK0 hb; replace HB := bs HB hb; (try clear hb)
                (try clear hb2)
                (try clear hk)
                (try clear hi)
                (try clear ho5)
                obtain ⟨Ao38, co38, eo38⟩ := Kd.N_slice HO39.1; (first | subst eo38 | (injection eo38 with f1_ f2_ f3_; have f4_ := f1_.symm; have f5_ := f3_.symm; clear f1_ f2_ f3_; subst f4_; subst f5_))
                refine hK.out _ _ ⟨bk BK0.1 0, bk BK0.1 1, bk BK0.1 2, bk BK0.1 3, bk BK0.1 4, bk BK0.1 5, (cb HB.1 hw6_5 :)⟩ (fun hHeld => ?_); clear hK K; refine norm_ (a' := ?_) ?_ ?_
                rotate_left
                ·show Act.put _ (some 75) _ = _
                 simp only [Act.put, List.setIfInBounds_toArray, List.set_cons_zero, List.set_cons_succ, i64_w, i32_w]
                 rfl
                refine one_ (i := 12) (N := some 76) (tf 13 1) rfl rfl (one_of HT_.1 (by kernel_rfl)) (by decide) (fun K hK => ?_); refine Kd.N_append_rows_step (Kd.slice 2 (Kd.int .i64)) (w0 := w) w.heap.size (by rfl) (.tmp 64) (.tmp 75) 65 24 (.slice none 0 0) 24 rfl Try.underlying65 info24 rfl (by decide) (by omega) (.slice Ao10 x2_3.length co10) x2_3 t28 _ _ _ (fun k_ => (P2_ k_ ∨ w.heap.size ≤ k_) ∧ nB k_ Ao8 y9.length co8 ∧ k_ ≠ gb0) (fun k_ => ((fun k_ => (P2_ k_ ∨ w.heap.size ≤ k_) ∧ nB k_ Ao8 y9.length co8 ∧ k_ ≠ gb0)) k_ ∧ nB k_ Ao10 x2_3.length co10) rfl rfl ?aO ?aR (fun _ hk => hk) ?aF ?aB ?aS ?aL ?_; (case aR => exact (by skip; exact Kd.N_F (Kd.N_mono (ok' := (fun k_ => ((fun k_ => (P2_ k_ ∨ w.heap.size ≤ k_) ∧ nB k_ Ao8 y9.length co8 ∧ k_ ≠ gb0)) k_ ∧ nB k_ Ao10 x2_3.length co10)) (HO39.1) (fun k_ hk => ⟨⟨hk.1, ⟨hk.2.2.1, hk.2.2.2⟩⟩, hk.2.1⟩))))
                (case aB => exact (vb HB.1))
                (case aF => exact (fun k_ hk => ⟨(.inr (Nat.le_trans (below_size (vb HB.1)) hk)), Kd.fresh' (Kd.R_lt (vr HO11.1)) k_ hk, Kd.freshB (g := gb0) (o := .cells (f5 A0_0 l0_0 c0_0 A0_1 l0_1 c0_1 A0_2 l0_2 c0_2 A0_3 l0_3 c0_3 A0_4 l0_4 c0_4 a0_5) 33 (0, 0)) (vk BK0.1) k_ hk⟩))
                (case aO => exact (vN (Kd.N_mono HO_2.1 (fun _ hk => ⟨hk.1.1.1, ⟨hk.1.1.2.1, hk.1.1.2.2⟩⟩))))
                (case aS => exact (below_size (vb HB.1)))
                (case aL => have := LMc31.1; omega)
                intro v49 w42 ho hb hg hat; rw [← Ny36.1] at ho; have n0_ := ak (Kd.V_afterv (ok := (fun k_ => (P2_ k_ ∨ w.heap.size ≤ k_) ∧ nB k_ Ao8 y9.length co8 ∧ nB k_ Ao19 y22.length co19 ∧ nB k_ Ao38 t28.length co38 ∧ k_ ≠ gb0)) (by (with_reducible repeat (first | apply Kd.V_alloc | apply Kd.V_drewN | apply Kd.V_drew)); exact Kd.V_mono HO_1.1 (fun _ hk => ⟨⟨hk.1.1.1, ⟨hk.1.1.2.2.1, ⟨hk.1.2, ⟨hk.2, hk.1.1.2.2.2⟩⟩⟩⟩, hk.1.1.2.1⟩)) hg hat); have n1_ := ak (blk_grown (g := gb0) (o := .cells (f5 A0_0 l0_0 c0_0 A0_1 l0_1 c0_1 A0_2 l0_2 c0_2 A0_3 l0_3 c0_3 A0_4 l0_4 c0_4 a0_5) 33 (0, 0)) (vk BK0.1) hg (Kd.N_ne HO_2.1 BK0.1 (by decide))); have n2_ := ak (Kd.R_over' (vr HO11.1) (Kd.N_typed (vN HO_2.1)) (by decide) hg); have n3_ := ak (Kd.R_over' (vr HO17.1) (Kd.N_typed (vN HO_2.1)) (by decide) hg); have n4_ := ak (Kd.N_afterv (ok := (fun k_ => (P2_ k_ ∨ w.heap.size ≤ k_) ∧ nB k_ Ao8 y9.length co8 ∧ k_ ≠ gb0)) (vN (Kd.N_mono HO39.1 (fun _ hk => ⟨⟨hk.1, ⟨hk.2.2.1, hk.2.2.2⟩⟩, hk.2.1⟩))) hg hat)
                have n5_ := ak (hb); have n6_ := ak (ho); clear HO_1; clear BK0; clear HO11; clear HO17; clear HO39; clear HB; clear HO_2; have HO_1 := n0_; have BK0 := n1_; have HO11 := n2_; have HO17 := n3_; have HO39 := n4_; have HB := n5_; have HO44 := n6_; clear n0_ n1_ n2_ n3_ n4_ n5_ n6_; clear ho hb hg hat; refine hK.out _ _ ⟨bk BK0.1 0, bk BK0.1 1, bk BK0.1 2, bk BK0.1 3, bk BK0.1 4, bk BK0.1 5, (cb HB.1 hw6_5 :)⟩ (fun hHeld => ?_); clear hK K; refine norm_ (a' := ?_) ?_ ?_
                rotate_left
                ·show Act.put _ (some 76) _ = _
                 simp only [Act.put, List.setIfInBounds_toArray, List.set_cons_zero, List.set_cons_succ, i64_w, i32_w]
                 rfl
                refine pu_ 13 7 (tf 14 0) rfl rfl ?_; refine done_ (done_of HT_.1 (by kernel_rfl)) ?_; (try go_wp2)
                go_roundg k2
                case measure => have := HK1.1; have := HK2.1; omega
                case rel => exact ⟨(y36), (wrap64 (x4_3 + 1)), es, H', ⟨by have := HK1.1; have := HK2.1; omega⟩, ⟨by (with_reducible repeat (first | apply Kd.V_alloc | apply Kd.V_drewN | apply Kd.V_drew)); exact Kd.V_mono HO_1.1 (fun _ hk => ⟨hk.1.1, ⟨hk.2, hk.1.2.2.2.2⟩⟩)⟩, ⟨vN (Kd.N_mono HO44.1 (fun _ hk => ⟨hk.1, hk.2.2⟩))⟩, ⟨vk BK0.1⟩, ⟨vb HB.1⟩⟩
               ·exact nO_ c31 H
              ·exact nO_ c29 H
             ·exact nO_ c28 H
            ·exact nO_ c27 H
           ·replace c25 := Bool.eq_false_iff.mpr c25; subst c25; rw [if_neg nf] at H; have H' := ak H; clear H; go_wp2
            go_roundg k2
            case measure => have := HK1.1; have := HK2.1; omega
            case rel => exact ⟨(x2_3), (wrap64 (x4_3 + 1)), es, H', ⟨by have := HK1.1; have := HK2.1; omega⟩, ⟨vV HO_1.1⟩, ⟨vN HO_2.1⟩, ⟨vk BK0.1⟩, ⟨vb HB.1⟩⟩
       ·exact nO_ c14 H
      ·rw [if_neg c13] at H; have c13b0 := decide_eq_false c13; clear c13; obtain rfl := sj H; go_wp2
       go_ret
       exact ⟨_, ew, vN (Kd.N_mono HO_2.1 (fun _ hk => hk.1)), vb HB.1⟩
   ·exact nO_ c9 H
  ·exact nO_ c8 H


/-! ### spec_l18Placings: function 59 -/
def spec_l18Placings.f (k : Nat) (l0_0 : List (S98)) (l0_1 : List (S103)) (l0_2 : List Int) (l0_3 : List Int) (l0_4 : List Int) (a0_5 : Int) : Option ((List (List Int))) := (spec_l18Spots.f k l0_0 l0_1 l0_2 l0_3 l0_4 a0_5).bind fun t9 => ((spec_l18All.f k l0_0 l0_1 l0_2 l0_3 l0_4 a0_5 t9 (([] : List Int))).bind fun t13 => (some t13))
def spec_l18Placings.T1 : Bool × List (List Nat × List Nat) := (true, [([], []), ([], []), ([1], [1]), ([], []), ([0, 2, 3, 2], [0, 2, 3]), ([4, 4, 0, 1, 2, 3, 4], [4])])
def spec_l18Placings.B1 : List Nat := [0, 0, 2, 0, 15, 31]
theorem spec_l18Placings.tab1 : rtab .any (opsOf Try.f59 1) = spec_l18Placings.T1 := by kernel_rfl
theorem spec_l18Placings.bits1 : waitsOk spec_l18Placings.T1.2 spec_l18Placings.B1 = true := by kernel_rfl
set_option maxHeartbeats 8000000 in
set_option maxRecDepth 100000 in
theorem spec_l18Placings.calls (k : Nat) (A0_0 : Option Addr) (c0_0 : Nat) (l0_0 : List (S98)) (A0_1 : Option Addr) (c0_1 : Nat) (l0_1 : List (S103)) (A0_2 : Option Addr) (c0_2 : Nat) (l0_2 : List Int) (A0_3 : Option Addr) (c0_3 : Nat) (l0_3 : List Int) (A0_4 : Option Addr) (c0_4 : Nat) (l0_4 : List Int) (a0_5 : Int) (r : List (List Int)) (w : World) (hr0_0 : Kd.C k98 w A0_0 l0_0.length l0_0) (hc0_0 : l0_0.length ≤ c0_0) (hr0_1 : Kd.C k103 w A0_1 l0_1.length l0_1) (hc0_1 : l0_1.length ≤ c0_1) (hr0_2 : Kd.C (Kd.int .i64) w A0_2 l0_2.length l0_2) (hc0_2 : l0_2.length ≤ c0_2) (hr0_3 : Kd.C (Kd.int .i64) w A0_3 l0_3.length l0_3) (hc0_3 : l0_3.length ≤ c0_3) (hr0_4 : Kd.C (Kd.int .i64) w A0_4 l0_4.length l0_4) (hc0_4 : l0_4.length ≤ c0_4) (h : spec_l18Placings.f k l0_0 l0_1 l0_2 l0_3 l0_4 a0_5 = some r) :
  Calls Try.prog 59 #[.agg (f5 A0_0 l0_0 c0_0 A0_1 l0_1 c0_1 A0_2 l0_2 c0_2 A0_3 l0_3 c0_3 A0_4 l0_4 c0_4 a0_5)] w fun e w' => ∃ v0_ : Value, e = .returned (v0_) ∧ Kd.N (Kd.slice 2 (Kd.int .i64)) 24 w' w.heap.size (fun k_ => (w.heap.size ≤ k_)) v0_ r ∧ Below w.heap.size w w' := by
 have hu33 := Try.underlying33; have HR0_0 := ak hr0_0; have HC0_0 := ak hc0_0; clear hr0_0 hc0_0; have HR0_1 := ak hr0_1; have HC0_1 := ak hc0_1; clear hr0_1 hc0_1; have HR0_2 := ak hr0_2; have HC0_2 := ak hc0_2; clear hr0_2 hc0_2; have HR0_3 := ak hr0_3; have HC0_3 := ak hc0_3; clear hr0_3 hc0_3; have HR0_4 := ak hr0_4; have HC0_4 := ak hc0_4; clear hr0_4 hc0_4; have HB := ak (Below.refl w.heap.size w); unfold spec_l18Placings.f at h; have H := h; clear h; obtain ⟨t9, A2, H⟩ := bnk H; obtain ⟨y5, hy5⟩ := gen_ (([] : List Int)); rw [← hy5] at H; have Ny5 := ak hy5; clear hy5; obtain ⟨t13, A3, H⟩ := bnk H; obtain rfl := sj H; go_enter Try.func59, Try.ntmps59; (try go_wp2_with (first | ((with_reducible refine gate_dst (N := 1) rfl ?_); refine bx 1 (f5 A0_0 l0_0 c0_0 A0_1 l0_1 c0_1 A0_2 l0_2 c0_2 A0_3 l0_3 c0_3 A0_4 l0_4 c0_4 a0_5) 33 ?_; intro gb0 hg w4 hbox hb; have BK0 := ak hbox; have GW215 := gw hg HB; have GE0 := gw hg HB; replace HB := bs HB hb; clear hb hbox hg)))
 replace BK0 := ak (blk_drew BK0.1); replace HB := ak (below_drew1 HB.1); refine start_ (n := 6) (S := fun w' => True) (ds := []) (tf 0 6) (by kernel_rfl) rfl rfl trivial (fun hHeld => ?_); refine with_tabW spec_l18Placings.tab1 spec_l18Placings.bits1 (fun HT_ HW_ => ?_); generalize w4.drew = w5 at BK0 HB hHeld ⊢; refine inv_at [0, 1, 2, 3, 4, 5] (fun a0_ b a w' => ∃ (v2 : Value) (v3 : Value) (v1 : Value) (m5_ : Value), a = putSel a0_ b [(0, 3, .agg (f5 A0_0 l0_0 c0_0 A0_1 l0_1 c0_1 A0_2 l0_2 c0_2 A0_3 l0_3 c0_3 A0_4 l0_4 c0_4 a0_5)), (1, 4, .agg (f5 A0_0 l0_0 c0_0 A0_1 l0_1 c0_1 A0_2 l0_2 c0_2 A0_3 l0_3 c0_3 A0_4 l0_4 c0_4 a0_5)), (2, 5, v2), (3, 6, v3), (4, 7, v1), (5, 2, m5_)] ∧ (w'.heap[gb0]? = some (.cells (f5 A0_0 l0_0 c0_0 A0_1 l0_1 c0_1 A0_2 l0_2 c0_2 A0_3 l0_3 c0_3 A0_4 l0_4 c0_4 a0_5) 33 (0, 0))) ∧ (Below w.heap.size w w') ∧ (b 2 = true → Kd.N (Kd.slice 2 (Kd.int .i64)) 24 w' w.heap.size (fun k_ => (w.heap.size ≤ k_) ∧ k_ ≠ gb0) v2 t9) ∧ (b 3 = true → Kd.R (Kd.int .i64) 2 w' w.heap.size (fun k_ => (w.heap.size ≤ k_)) v3 y5) ∧ (b 4 = true → Kd.N (Kd.slice 2 (Kd.int .i64)) 24 w' w.heap.size (fun k_ => (w.heap.size ≤ k_) ∧ k_ ≠ gb0) v1 t13) ∧ (b 5 = true → (m5_ : Value) = v1)) HT_.1 HW_.1 (by kernel_rfl) (by kernel_rfl) ?_ ?_ ?_
 ·exact ⟨.bool false, .bool false, .bool false, .bool false, by simp only [putSel, Bool.false_eq_true, if_false], BK0.1, HB.1, fun h_ => absurd h_ (by decide), fun h_ => absurd h_ (by decide), fun h_ => absurd h_ (by decide), fun h_ => absurd h_ (by decide)⟩
 ·skip
  clear BK0 HB; refine steps_cons ?_ ?_
  ·rintro b a w' ⟨v2, v3, v1, m5_, ha, Q_BK215, Q_HB, Q_HO218, Q_HO221, Q_HO224, Q_X5_⟩ hb_ hon hoff; refine ⟨_, rfl, fun K hK => ?_⟩; have e18 : a.tmps[1]? = some (.pointer (some ⟨gb0, 0, none⟩)) := by rw [ha]; exact (putSel_off rfl).trans rfl
   replace ha := ak ha; have BK0 := ak Q_BK215; have HB := ak Q_HB; have hc0_ : w'.cell? ⟨gb0, 0, none⟩ = some (.slice A0_0 l0_0.length c0_0) := bk BK0.1 0; have hc1_ : w'.cell? ⟨gb0, 1, none⟩ = some (.slice A0_1 l0_1.length c0_1) := bk BK0.1 1; have hc2_ : w'.cell? ⟨gb0, 2, none⟩ = some (.slice A0_2 l0_2.length c0_2) := bk BK0.1 2; have hc3_ : w'.cell? ⟨gb0, 3, none⟩ = some (.slice A0_3 l0_3.length c0_3) := bk BK0.1 3; have hc4_ : w'.cell? ⟨gb0, 4, none⟩ = some (.slice A0_4 l0_4.length c0_4) := bk BK0.1 4; have hc5_ : w'.cell? ⟨gb0, 5, none⟩ = some (.int .i64 a0_5) := bk BK0.1 5; refine value_ (w1 := w') (v := .agg (f5 A0_0 l0_0 c0_0 A0_1 l0_1 c0_1 A0_2 l0_2 c0_2 A0_3 l0_3 c0_3 A0_4 l0_4 c0_4 a0_5)) (by rfl) rfl ?_ ?_
   ·go_simp
    (try simp only [i64_w])
    try rfl
   refine hK.out _ _ ⟨v2, v3, v1, m5_, (by rw [ha.1]; exact putSel_upk 0 hb_ rfl rfl rfl), Q_BK215, Q_HB, Q_HO218, Q_HO221, nH (hoff 4 (by kernel_rfl)), nH (hoff 5 (by kernel_rfl))⟩
  refine steps_cons ?_ ?_
  ·rintro b a w' ⟨v2, v3, v1, m5_, ha, Q_BK215, Q_HB, Q_HO218, Q_HO221, Q_HO224, Q_X5_⟩ hb_ hon hoff; refine ⟨_, rfl, fun K hK => ?_⟩; have e18 : a.tmps[1]? = some (.pointer (some ⟨gb0, 0, none⟩)) := by rw [ha]; exact (putSel_off rfl).trans rfl
   replace ha := ak ha; have BK0 := ak Q_BK215; have HB := ak Q_HB; have hc0_ : w'.cell? ⟨gb0, 0, none⟩ = some (.slice A0_0 l0_0.length c0_0) := bk BK0.1 0; have hc1_ : w'.cell? ⟨gb0, 1, none⟩ = some (.slice A0_1 l0_1.length c0_1) := bk BK0.1 1; have hc2_ : w'.cell? ⟨gb0, 2, none⟩ = some (.slice A0_2 l0_2.length c0_2) := bk BK0.1 2; have hc3_ : w'.cell? ⟨gb0, 3, none⟩ = some (.slice A0_3 l0_3.length c0_3) := bk BK0.1 3; have hc4_ : w'.cell? ⟨gb0, 4, none⟩ = some (.slice A0_4 l0_4.length c0_4) := bk BK0.1 4; have hc5_ : w'.cell? ⟨gb0, 5, none⟩ = some (.int .i64 a0_5) := bk BK0.1 5; refine value_ (w1 := w') (v := .agg (f5 A0_0 l0_0 c0_0 A0_1 l0_1 c0_1 A0_2 l0_2 c0_2 A0_3 l0_3 c0_3 A0_4 l0_4 c0_4 a0_5)) (by rfl) rfl ?_ ?_
   ·go_simp
    (try simp only [i64_w])
    try rfl
   refine hK.out _ _ ⟨v2, v3, v1, m5_, (by rw [ha.1]; exact putSel_upk 1 hb_ rfl rfl rfl), Q_BK215, Q_HB, nH (hoff 2 (by kernel_rfl)), Q_HO221, nH (hoff 4 (by kernel_rfl)), nH (hoff 5 (by kernel_rfl))⟩
  refine steps_cons ?_ ?_
  ·rintro b a w' ⟨v2, v3, v1, m5_, ha, Q_BK215, Q_HB, Q_HO218, Q_HO221, Q_HO224, Q_X5_⟩ hb_ hon hoff; refine ⟨_, rfl, fun K hK => ?_⟩; have e15 : a.tmps[4]? = some (.agg (f5 A0_0 l0_0 c0_0 A0_1 l0_1 c0_1 A0_2 l0_2 c0_2 A0_3 l0_3 c0_3 A0_4 l0_4 c0_4 a0_5)) := by rw [ha]; exact putSel_on (e := (1, 4, .agg (f5 A0_0 l0_0 c0_0 A0_1 l0_1 c0_1 A0_2 l0_2 c0_2 A0_3 l0_3 c0_3 A0_4 l0_4 c0_4 a0_5))) 1 rfl rfl (hon 1 (by kernel_rfl)) rfl
   replace ha := ak ha; have BK0 := ak Q_BK215; have HB := ak Q_HB; refine goes_ Try.func66 (by kernel_rfl) rfl #[.agg (f5 A0_0 l0_0 c0_0 A0_1 l0_1 c0_1 A0_2 l0_2 c0_2 A0_3 l0_3 c0_3 A0_4 l0_4 c0_4 a0_5)] (by rfl) rfl rfl (by first | (simp only [List.map_toArray, List.map_cons, List.map_nil, Act.eval, Array.getD_eq_getD_getElem?, Option.getD_some, e15]; done) | (simp only [List.map_toArray, List.map_cons, List.map_nil, Act.eval, Array.getD_eq_getD_getElem?, Option.getD_some, e15]; rfl)) ?_; with_reducible refine (spec_l18Spots.calls k _ _ l0_0 _ _ l0_1 _ _ l0_2 _ _ l0_3 _ _ l0_4 a0_5 t9 _ ?_ ?_ ?_ ?_ ?_ ?_ ?_ ?_ ?_ ?_ A2.1).mono ?_
   exact vd HR0_0.1 HB.1
   exact HC0_0.1
   exact vd HR0_1.1 HB.1
   exact HC0_1.1
   exact vd HR0_2.1 HB.1
   exact HC0_2.1
   exact vd HR0_3.1 HB.1
   exact HC0_3.1
   exact vd HR0_4.1 HB.1
   exact HC0_4.1
   rintro e w6 ⟨v2, rfl, ho11, hb⟩; refine ⟨_, rfl, ?_⟩; have n0_ := ak (Kd.N_lower (Kd.N_mono (ok' := fun k_ => (w.heap.size ≤ k_) ∧ k_ ≠ gb0) (Kd.S_N (Kd.S_bound ho11)) (fun k_ hk_ => ⟨(Nat.le_trans (below_size (vb HB.1)) hk_.2.1), (Kd.freshB (g := gb0) (o := .cells (f5 A0_0 l0_0 c0_0 A0_1 l0_1 c0_1 A0_2 l0_2 c0_2 A0_3 l0_3 c0_3 A0_4 l0_4 c0_4 a0_5) 33 (0, 0)) (vk BK0.1) k_ hk_.2.1)⟩)) (below_size (vb HB.1))); have n1_ := ak (blk_below (vk BK0.1) hb); have n2_ := ak (below_step (vb HB.1) hb); have z_HO221 := fun (h0_ : b 3 = true) => (show Kd.R (Kd.int .i64) 2 w6 w.heap.size (fun k_ => (w.heap.size ≤ k_)) v3 y5 from by first | exact (Kd.R_below (vr ((Q_HO221 h0_))) hb) | exact Kd.R_mono (Kd.R_below (vr ((Q_HO221 h0_))) hb) (fun _ h_ => by first | trivial | exact h_ | exact h_.1))
   clear BK0; clear HB; have HO4 := n0_; have BK0 := n1_; have HB := n2_; clear n0_ n1_ n2_
   (try clear hb2)
   (try clear hk)
   (try clear hi)
   (try clear ho11)
   refine hK.out _ _ ⟨v2, v3, v1, m5_, (by rw [ha.1]; exact putSel_upk 2 hb_ rfl rfl rfl), (vk BK0.1), (vb HB.1), fun _ => (by (with_reducible repeat (first | apply Kd.N_alloc | apply Kd.N_drewN | apply Kd.N_drew)); first | exact HO4.1 | exact Kd.N_mono HO4.1 (fun _ hk => by simp [hk])), z_HO221, nH (hoff 4 (by kernel_rfl)), nH (hoff 5 (by kernel_rfl))⟩
  refine steps_cons ?_ ?_
  ·rintro b a w' ⟨v2, v3, v1, m5_, ha, Q_BK215, Q_HB, Q_HO218, Q_HO221, Q_HO224, Q_X5_⟩ hb_ hon hoff; refine ⟨_, rfl, fun K hK => ?_⟩; replace ha := ak ha; have BK0 := ak Q_BK215; have HB := ak Q_HB; refine Kd.R_lit_step (Kd.int .i64) _ 2 ?hg (N := 6) ?hd (xs := ([] : List Int)) (inner := []) (ok := fun _ => True) (okp := fun _ => True) ?hr ?hp (fun _ hk => hk) trivial (Below.refl _ _) (Nat.le_refl _) (by simp) ?_; (case hd => rfl); (case hg => rfl); (case hr => first | (go_simp; done) | (go_simp; rfl)); (case hp => exact (Reps.none _ _)); intro v3 w6 ho10 hb hg_ hnew_; clear hg_ hnew_; (first | rw [← Ny5.1] at ho10 | (simp only [Int.reduceToNat] at ho10; rw [← Ny5.1] at ho10))
   have n0_ := ak (Kd.R_lower (Kd.R_newM (M := fun k_ => (w.heap.size ≤ k_)) ho10 (below_size (vb HB.1)) (fun k_ h_ => h_)) (below_size (vb HB.1))); have n1_ := ak (blk_below (vk BK0.1) hb); have n2_ := ak (below_step (vb HB.1) hb); have z_HO218 := fun (h0_ : b 2 = true) => (show Kd.N (Kd.slice 2 (Kd.int .i64)) 24 w6 w.heap.size (fun k_ => (w.heap.size ≤ k_) ∧ k_ ≠ gb0) v2 t9 from by first | exact (Kd.N_elder' (vN ((Q_HO218 h0_))) (Kd.R_base ho10) hb) | exact Kd.N_mono (Kd.N_elder' (vN ((Q_HO218 h0_))) (Kd.R_base ho10) hb) (fun _ h_ => by first | trivial | exact h_ | exact h_.1))
   clear BK0; clear HB; have HO6 := n0_; have BK0 := n1_; have HB := n2_; clear n0_ n1_ n2_; clear hb ho10; refine hK.out _ _ ⟨v2, v3, v1, m5_, (by rw [ha.1]; exact putSel_upk 3 hb_ rfl rfl rfl), (vk BK0.1), (vb HB.1), z_HO218, fun _ => (vr (Kd.R_mono HO6.1 (fun _ hk => hk.1))), nH (hoff 4 (by kernel_rfl)), nH (hoff 5 (by kernel_rfl))⟩
  refine steps_cons ?_ ?_
  ·rintro b a w' ⟨v2, v3, v1, m5_, ha, Q_BK215, Q_HB, Q_HO218, Q_HO221, Q_HO224, Q_X5_⟩ hb_ hon hoff; refine ⟨_, rfl, fun K hK => ?_⟩; have e14 : a.tmps[3]? = some (.agg (f5 A0_0 l0_0 c0_0 A0_1 l0_1 c0_1 A0_2 l0_2 c0_2 A0_3 l0_3 c0_3 A0_4 l0_4 c0_4 a0_5)) := by rw [ha]; exact putSel_on (e := (0, 3, .agg (f5 A0_0 l0_0 c0_0 A0_1 l0_1 c0_1 A0_2 l0_2 c0_2 A0_3 l0_3 c0_3 A0_4 l0_4 c0_4 a0_5))) 0 rfl rfl (hon 0 (by kernel_rfl)) rfl
   have e16 : a.tmps[5]? = some (v2) := by rw [ha]; exact putSel_on (e := (2, 5, v2)) 2 rfl rfl (hon 2 (by kernel_rfl)) rfl
   have e17 : a.tmps[6]? = some (v3) := by rw [ha]; exact putSel_on (e := (3, 6, v3)) 3 rfl rfl (hon 3 (by kernel_rfl)) rfl
   replace ha := ak ha; have BK0 := ak Q_BK215; have HB := ak Q_HB; have HO4 := ak (Q_HO218 (hon 2 (by kernel_rfl))); have HO6 := ak (Q_HO221 (hon 3 (by kernel_rfl))); obtain ⟨Ao7, co7, eo7⟩ := Kd.N_slice HO4.1; (first | subst eo7 | (injection eo7 with f1_ f2_ f3_; have f4_ := f1_.symm; have f5_ := f3_.symm; clear f1_ f2_ f3_; subst f4_; subst f5_))
   obtain ⟨Ao8, co8, eo8⟩ := Kd.R_slice HO6.1; (first | subst eo8 | (injection eo8 with f1_ f2_ f3_; have f4_ := f1_.symm; have f5_ := f3_.symm; clear f1_ f2_ f3_; subst f4_; subst f5_))
   refine goes_ Try.func108 (by kernel_rfl) rfl #[.agg (f5 A0_0 l0_0 c0_0 A0_1 l0_1 c0_1 A0_2 l0_2 c0_2 A0_3 l0_3 c0_3 A0_4 l0_4 c0_4 a0_5), .slice Ao7 t9.length co7, .slice Ao8 y5.length co8] (by rfl) rfl rfl (by first | (simp only [List.map_toArray, List.map_cons, List.map_nil, Act.eval, Array.getD_eq_getD_getElem?, Option.getD_some, e14, e16, e17]; done) | (simp only [List.map_toArray, List.map_cons, List.map_nil, Act.eval, Array.getD_eq_getD_getElem?, Option.getD_some, e14, e16, e17]; rfl)) ?_; with_reducible refine (spec_l18All.calls k _ _ l0_0 _ _ l0_1 _ _ l0_2 _ _ l0_3 _ _ l0_4 a0_5 _ _ t9 (fun k_ => some k_ = (.slice Ao8 y5.length co8 : Value).ownBlock) _ _ y5 t13 _ ?_ ?_ ?_ ?_ ?_ ?_ ?_ ?_ ?_ ?_ ?_ ?_ ?_ A3.1).mono ?_
   exact vd HR0_0.1 HB.1
   exact HC0_0.1
   exact vd HR0_1.1 HB.1
   exact HC0_1.1
   exact vd HR0_2.1 HB.1
   exact HC0_2.1
   exact vd HR0_3.1 HB.1
   exact HC0_3.1
   exact vd HR0_4.1 HB.1
   exact HC0_4.1
   exact vc (Kd.N_reads' HO4.1).2.2
   exact (Kd.N_reads' HO4.1).2.1
   exact Kd.R_V (Kd.R_tight rfl (Kd.R_types (Kd.R_apart' (HO6.1) (Kd.N_typed HO4.1) (by decide)) BK0.1 (by decide)))
   rintro e w12 ⟨v1, rfl, ho11, hb⟩; refine ⟨_, rfl, ?_⟩; have HO12 := ak (Kd.N_lower (Kd.N_mono (ok' := fun k_ => (w.heap.size ≤ k_) ∧ nB k_ Ao7 t9.length co7 ∧ k_ ≠ gb0) ho11 (fun k_ hk_ => ⟨Or.elim hk_ (fun hs_ => ((Kd.R_types (Kd.R_apart' (HO6.1) (Kd.N_typed HO4.1) (by decide)) BK0.1 (by decide)).1 k_ hs_.symm).1.1) (fun hn_ => (Nat.le_trans (below_size (vb HB.1)) hn_)), Or.elim hk_ (fun hs_ => ((Kd.R_types (Kd.R_apart' (HO6.1) (Kd.N_typed HO4.1) (by decide)) BK0.1 (by decide)).1 k_ hs_.symm).1.2) (fun hn_ => (Kd.fresh' (Kd.N_lt (vN HO4.1)) k_ hn_)), Or.elim hk_ (fun hs_ => ((Kd.R_types (Kd.R_apart' (HO6.1) (Kd.N_typed HO4.1) (by decide)) BK0.1 (by decide)).1 k_ hs_.symm).2) (fun hn_ => (Kd.freshB (g := gb0) (o := .cells (f5 A0_0 l0_0 c0_0 A0_1 l0_1 c0_1 A0_2 l0_2 c0_2 A0_3 l0_3 c0_3 A0_4 l0_4 c0_4 a0_5) 33 (0, 0)) (vk BK0.1) k_ hn_))⟩)) (below_size (vb HB.1))); replace HO4 := ak (Kd.N_elder' (vN HO4.1) (Kd.N_base ho11) hb); replace HO6 := rb HO6 hb; replace BK0 := kb BK0 hb; replace HB := bs HB hb; (try clear hb)
   (try clear hb2)
   (try clear hk)
   (try clear hi)
   (try clear ho11)
   refine hK.out _ _ ⟨.slice Ao7 t9.length co7, .slice Ao8 y5.length co8, v1, m5_, (by rw [ha.1]; exact putSel_upk 4 hb_ rfl rfl rfl), (vk BK0.1), (vb HB.1), fun _ => (vN (Kd.N_mono HO4.1 (fun _ hk => by first | exact ⟨hk.1.1, ⟨hk.1.2.1, ⟨hk.2, hk.1.2.2⟩⟩⟩ | simp [hk]))), fun _ => (by (with_reducible repeat (first | apply Kd.R_alloc | apply Kd.R_drewN | apply Kd.R_drew)); first | exact HO6.1 | exact Kd.R_mono HO6.1 (fun _ hk => by simp [hk])), fun _ => (by (with_reducible repeat (first | apply Kd.N_alloc | apply Kd.N_drewN | apply Kd.N_drew)); first | exact HO12.1 | exact Kd.N_mono HO12.1 (fun _ hk => by simp [hk])), nH (hoff 5 (by kernel_rfl))⟩
  refine steps_cons ?_ ?_
  ·rintro b a w' ⟨v2, v3, v1, m5_, ha, Q_BK215, Q_HB, Q_HO218, Q_HO221, Q_HO224, Q_X5_⟩ hb_ hon hoff; refine ⟨_, rfl, fun K hK => ?_⟩; have e10 : a.tmps[7]? = some (v1) := by rw [ha]; exact putSel_on (e := (4, 7, v1)) 4 rfl rfl (hon 4 (by kernel_rfl)) rfl
   replace ha := ak ha; have BK0 := ak Q_BK215; have HB := ak Q_HB; have HO4 := ak (Q_HO218 (hon 2 (by kernel_rfl))); have HO6 := ak (Q_HO221 (hon 3 (by kernel_rfl))); have HO12 := ak (Q_HO224 (hon 4 (by kernel_rfl))); refine value_ (w1 := w') (v := v1) (by rfl) rfl ?_ ?_
   ·go_simp
    (try simp only [i64_w])
    try rfl
   refine hK.out _ _ ⟨v2, v3, v1, (v1), (by rw [ha.1]; exact putSel_upk 5 hb_ rfl rfl rfl), Q_BK215, Q_HB, Q_HO218, Q_HO221, Q_HO224, fun _ => rfl⟩
  exact steps_nil
 rintro b a w12 hall ⟨v2, v3, v1, m5_, ha, Q_BK215, Q_HB, Q_HO218, Q_HO221, Q_HO224, Q_X5_⟩; clear BK0 HB; have hb0_ := hall 0 (by kernel_rfl); have hb1_ := hall 1 (by kernel_rfl); have hb2_ := hall 2 (by kernel_rfl); have hb3_ := hall 3 (by kernel_rfl); have hb4_ := hall 4 (by kernel_rfl); have hb5_ := hall 5 (by kernel_rfl); subst ha; obtain rfl := Q_X5_ hb5_; simp only [putSel, hb0_, hb1_, hb2_, hb3_, hb4_, hb5_, if_true, Act.put, List.setIfInBounds_toArray, List.set_cons_zero, List.set_cons_succ]
 have BK0 := ak Q_BK215; clear Q_BK215; have HB := ak Q_HB; clear Q_HB; have HO4 := ak (Q_HO218 hb2_); clear Q_HO218; have HO6 := ak (Q_HO221 hb3_); clear Q_HO221; have HO12 := ak (Q_HO224 hb4_); clear Q_HO224; clear hall hb0_ hb1_ hb2_ hb3_ hb4_ hb5_; (try go_wp2)
 go_ret
 exact ⟨_, ew, vN (Kd.N_mono HO12.1 (fun _ hk => hk.1)), vb HB.1⟩


end Go.Proofs.Ytancnecddlbhkaa.Pall
