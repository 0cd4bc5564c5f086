/- Go functions of the program, each as a Lean function, and the proof that each call comes to what the Lean function tells; no condition beyond those that stand there. -/
import Derived.Test.YtancnecddlbhkaaF00
import Derived.Test.YtancnecddlbhkaaF04
import Derived.Test.YtancnecddlbhkaaF05
import Derived.Test.YtancnecddlbhkaaSq
import Derived.Test.YtancnecddlbhkaaWApart
import Derived.Test.YtancnecddlbhkaaWLast
import Derived.Test.YtancnecddlbhkaaWMore
import Derived.Test.YtancnecddlbhkaaWN
import Derived.Test.YtancnecddlbhkaaWNEv
import Derived.Test.YtancnecddlbhkaaWRepsOne
import Derived.Test.YtancnecddlbhkaaWShare
import Derived.Test.YtancnecddlbhkaaWTab
import Derived.Test.YtancnecddlbhkaaSpare
import Derived.Test.YtancnecddlbhkaaCm
import Derived.Test.YtancnecddlbhkaaCm4
import Derived.Test.YtancnecddlbhkaaCm3
import Derived.Test.YtancnecddlbhkaaCm6
import Derived.Test.YtancnecddlbhkaaCm9
namespace Go.Proofs.Ytancnecddlbhkaa.Pall
open Go.RowKit Go.Proofs.YtancnecddlbhkaaW.PrintWords Go.Proofs.YtancnecddlbhkaaW.PrintLast Go.Proofs.YtancnecddlbhkaaW.PrintMore
set_option linter.unusedVariables false
set_option linter.unusedSimpArgs false

/-! ### impl_placings: function 62 -/
mutual
def impl_placings.l0 : Nat → List Int → Int → List (List Int) → Int → Int → List (S98) → List (S103) → List Int → List Int → List Int → Int → Option ((List (List Int)))
 | 0, _, _, _, _, _, _, _, _, _, _, _ => none
 | k + 1, x1, x24, x2, x4, x3, x25, x26, x27, x28, x29, x30 => if x3 < x4 then ((impl_isFree.f k x25 x26 x27 x28 x29 x30 x1 x24 x3).bind fun t31 => (if t31 = true then ((impl_copyList.f x1).bind fun t11 => ((some (([x3] : List Int) : List Int)).bind fun y6 => (if t11.length + y6.length < 17592186044416 then ((impl_placings.f k x25 x26 x27 x28 x29 x30 (t11 ++ y6)).bind fun t17 => (if x2.length + t17.length < 5864062014805 then (impl_placings.l0 k x1 x24 (x2 ++ t17) x4 (wrap64 (x3 + 1)) x25 x26 x27 x28 x29 x30) else (none))) else (none)))) else (impl_placings.l0 k x1 x24 x2 x4 (wrap64 (x3 + 1)) x25 x26 x27 x28 x29 x30))) else (some x2)
def impl_placings.f : Nat → List (S98) → List (S103) → List Int → List Int → List Int → Int → List Int → Option ((List (List Int)))
 | 0, _, _, _, _, _, _, _ => none
 | k + 1, l0_0, l0_1, l0_2, l0_3, l0_4, a0_5, l1 => if (l1.length : Int) = (l0_2.length : Int) then (some (([l1] : List (List Int)))) else (impl_placings.l0 k l1 (l1.length : Int) ([] : List (List Int)) (l0_3.length : Int) 0 l0_0 l0_1 l0_2 l0_3 l0_4 a0_5)
end
def impl_placings.T9 : Bool × List (List Nat × List Nat) := (true, [([], []), ([], []), ([], []), ([2], [2]), ([], []), ([4], [4]), ([3, 5, 3], [3, 5]), ([1, 6, 6], [1, 6]), ([0, 7, 7], [0, 7]), ([8, 8, 0, 1, 2, 3, 4, 5, 6, 7, 8], [0, 8])])
def impl_placings.B9 : List Nat := [0, 0, 0, 4, 0, 16, 60, 126, 255, 511]
theorem impl_placings.tab9 : rtab .any (opsOf Try.f62 9) = impl_placings.T9 := by kernel_rfl
theorem impl_placings.bits9 : waitsOk impl_placings.T9.2 impl_placings.B9 = true := by kernel_rfl
set_option maxHeartbeats 8000000 in
set_option maxRecDepth 100000 in
theorem impl_placings.calls (k : Nat) : ∀ (A0_0 : Option Addr) (c0_0 : Nat) (l0_0 : List (S98)) (A0_1 : Option Addr) (c0_1 : Nat) (l0_1 : List (S103)) (A0_2 : Option Addr) (c0_2 : Nat) (l0_2 : List Int) (A0_3 : Option Addr) (c0_3 : Nat) (l0_3 : List Int) (A0_4 : Option Addr) (c0_4 : Nat) (l0_4 : List Int) (a0_5 : Int) (P1_ : Nat → Prop) (A1 : Option Addr) (c1 : Nat) (l1 : List Int) (r : List (List Int)) (w : World) (hr0_0 : Kd.C k98 w A0_0 l0_0.length l0_0) (hc0_0 : l0_0.length ≤ c0_0) (hr0_1 : Kd.C k103 w A0_1 l0_1.length l0_1) (hc0_1 : l0_1.length ≤ c0_1) (hr0_2 : Kd.C (Kd.int .i64) w A0_2 l0_2.length l0_2) (hc0_2 : l0_2.length ≤ c0_2) (hr0_3 : Kd.C (Kd.int .i64) w A0_3 l0_3.length l0_3) (hc0_3 : l0_3.length ≤ c0_3) (hr0_4 : Kd.C (Kd.int .i64) w A0_4 l0_4.length l0_4) (hc0_4 : l0_4.length ≤ c0_4) (hs1 : Kd.V (Kd.int .i64) 2 w w.heap.size (fun k_ => P1_ k_) (.slice A1 l1.length c1) l1) (h : impl_placings.f k l0_0 l0_1 l0_2 l0_3 l0_4 a0_5 l1 = some r),
  Calls Try.prog 62 #[.agg (f5 A0_0 l0_0 c0_0 A0_1 l0_1 c0_1 A0_2 l0_2 c0_2 A0_3 l0_3 c0_3 A0_4 l0_4 c0_4 a0_5), .slice A1 l1.length c1] w fun e w' => ∃ v0_ : Value, e = .returned (v0_) ∧ Kd.N (Kd.slice 2 (Kd.int .i64)) 24 w' w.heap.size (fun k_ => (P1_ k_ ∨ w.heap.size ≤ k_)) v0_ r ∧ Below w.heap.size w w' := by
 induction k using Nat.strongRecOn with
 | _ k ih =>
 intro A0_0 c0_0 l0_0 A0_1 c0_1 l0_1 A0_2 c0_2 l0_2 A0_3 c0_3 l0_3 A0_4 c0_4 l0_4 a0_5 P1_ A1 c1 l1 r w hr0_0 hc0_0 hr0_1 hc0_1 hr0_2 hc0_2 hr0_3 hc0_3 hr0_4 hc0_4 hs1 h
 cases k with
 | zero => exact absurd h (by simp [impl_placings.f])
 | succ k =>
 simp only [impl_placings.f] at h
 have hu33 := Try.underlying33; have HR0_0 := ak hr0_0; have HC0_0 := ak hc0_0; clear hr0_0 hc0_0; have HR0_1 := ak hr0_1; have HC0_1 := ak hc0_1; clear hr0_1 hc0_1; have HR0_2 := ak hr0_2; have HC0_2 := ak hc0_2; clear hr0_2 hc0_2; have HR0_3 := ak hr0_3; have HC0_3 := ak hc0_3; clear hr0_3 hc0_3; have HR0_4 := ak hr0_4; have HC0_4 := ak hc0_4; clear hr0_4 hc0_4; have HO1 := ak (show Kd.V (Kd.int .i64) 2 w w.heap.size (fun k_ => (P1_ k_ ∨ w.heap.size ≤ k_)) (.slice A1 l1.length c1) l1 from Kd.V_mono hs1 (fun k_ hk => .inl hk)); have HB := ak (Below.refl w.heap.size w); have H := h; clear h; by_cases c3 : (l1.length : Int) = (l0_2.length : Int)
 ·rw [if_pos c3] at H; obtain ⟨c3b0, c3b1⟩ := bqt c3; have c3b2 : (l1.length == l0_2.length) = true := by first | simpa using c3 | (simp at c3 ⊢; omega)
  clear c3; obtain ⟨y19, hy19⟩ := gen_ (([l1] : List (List Int))); rw [← hy19] at H; have Ny19 := ak hy19; clear hy19; obtain rfl := sj H; go_enter Try.func62, Try.ntmps62; go_wp2_with (first | ((with_reducible refine gate_dst (N := 2) rfl ?_); refine bx 2 (f5 A0_0 l0_0 c0_0 A0_1 l0_1 c0_1 A0_2 l0_2 c0_2 A0_3 l0_3 c0_3 A0_4 l0_4 c0_4 a0_5) 33 ?_; intro gb0 hg w4 hbox hb; replace HO1 := ak (Kd.V_below (Kd.V_elderB (vV HO1.1) gb0 (Nat.le_of_eq hg.symm)) hb); have BK0 := ak hbox; have GW362 := gw hg HB; have GE0 := gw hg HB; replace HB := bs HB hb; clear hb hbox hg; have hcz24 := cz6 BK0.1) | ((with_reducible refine gate_dst (N := 16) rfl ?_); refine Kd.N_lit (Kd.slice 2 (Kd.int .i64)) _ 24 ?hg (N' := 16) ?hd (xs := ([l1] : List (List Int))) (inner := [.slice A1 l1.length c1]) (ok := (fun k_ => (P1_ k_ ∨ w.heap.size ≤ k_) ∧ k_ ≠ gb0)) (okp := (fun k_ => (P1_ k_ ∨ w.heap.size ≤ k_) ∧ k_ ≠ gb0)) ?hr ?hp (fun _ hk => hk) ((show ∀ k_, w4.heap.size ≤ k_ → (fun k_ => (P1_ k_ ∨ w.heap.size ≤ k_) ∧ k_ ≠ gb0) k_ from fun k_ hk => ⟨(.inr (Nat.le_trans (below_size (vb HB.1)) hk)), Kd.freshB (g := gb0) (o := .cells (f5 A0_0 l0_0 c0_0 A0_1 l0_1 c0_1 A0_2 l0_2 c0_2 A0_3 l0_3 c0_3 A0_4 l0_4 c0_4 a0_5) 33 (0, 0)) (vk BK0.1) k_ hk⟩) _ (Nat.le_refl _)) (Below.refl _ _) (Nat.le_refl _) (by simp) ?_; (case hd => rfl); (case hg => rfl); (case hr => first | (go_simp; done) | (go_simp; rfl)); (case hp => exact (Reps.one (show Kd.FK (Kd.slice 2 (Kd.int .i64)) _ _ l1 [.slice A1 l1.length c1] from (Kd.FK_slice_mk (Kd.V_reads' (Kd.V_mono (ok' := (fun k_ => (P1_ k_ ∨ w.heap.size ≤ k_) ∧ k_ ≠ gb0)) (HO1.1) (fun k_ hk => ⟨hk.1, hk.2⟩))).2.1 (Kd.V_F (Kd.V_mono (ok' := (fun k_ => (P1_ k_ ∨ w.heap.size ≤ k_) ∧ k_ ≠ gb0)) (HO1.1) (fun k_ hk => ⟨hk.1, hk.2⟩))))) (Reps.none _ _))); intro v37 w6 ho21 hb hg_ hnew_; clear hg_ hnew_; (first | rw [← Ny19.1] at ho21 | (simp only [Int.reduceToNat] at ho21; rw [← Ny19.1] at ho21)); replace HO1 := ak (Kd.V_elder' (vV HO1.1) (Kd.N_base ho21) hb); have HO32 := ak (Kd.N_lower ho21 (below_size (vb HB.1))); replace BK0 := kb BK0 hb; replace HB := bs HB hb; clear hb ho21))
  go_ret
  exact ⟨_, ew, vN (Kd.N_mono HO32.1 (fun _ hk => hk.1)), vb HB.1⟩
 ·rw [if_neg c3] at H; obtain ⟨c3b0, c3b1⟩ := bqf c3; have c3b2 : (l1.length == l0_2.length) = false := by first | simpa using c3 | (simp at c3 ⊢; omega)
  have H' := ak H; clear H; go_enter Try.func62, Try.ntmps62; go_wp2_with (first | ((with_reducible refine gate_dst (N := 2) rfl ?_); refine bx 2 (f5 A0_0 l0_0 c0_0 A0_1 l0_1 c0_1 A0_2 l0_2 c0_2 A0_3 l0_3 c0_3 A0_4 l0_4 c0_4 a0_5) 33 ?_; intro gb0 hg w8 hbox hb; replace HO1 := ak (Kd.V_below (Kd.V_elderB (vV HO1.1) gb0 (Nat.le_of_eq hg.symm)) hb); have BK0 := ak hbox; have GW362 := gw hg HB; have GE0 := gw hg HB; replace HB := bs HB hb; clear hb hbox hg; have hcz34 := cz6 BK0.1))
  go_loopg [6, 20] k (fun kq v2 v3 w' => ∃ (x2_1 : List (List Int)) (x3_1 : Int), v3 = .int .i64 x3_1 ∧ Aside0 (impl_placings.l0 kq l1 (l1.length : Int) x2_1 (l0_3.length : Int) x3_1 l0_0 l0_1 l0_2 l0_3 l0_4 a0_5 = some r) ∧ Aside0 (kq ≤ k) ∧ Aside0 (Kd.V (Kd.int .i64) 2 w' w.heap.size (fun k_ => (P1_ k_ ∨ w.heap.size ≤ k_) ∧ some k_ ≠ (v2 : Value).ownBlock ∧ k_ ≠ gb0) (.slice A1 l1.length c1) l1) ∧ Aside0 (Kd.N (Kd.slice 2 (Kd.int .i64)) 24 w' w.heap.size (fun k_ => (P1_ k_ ∨ w.heap.size ≤ k_) ∧ k_ ≠ gb0) v2 x2_1) ∧ Aside0 (w'.heap[gb0]? = some (.cells (f5 A0_0 l0_0 c0_0 A0_1 l0_1 c0_1 A0_2 l0_2 c0_2 A0_3 l0_3 c0_3 A0_4 l0_4 c0_4 a0_5) 33 (0, 0))) ∧ Aside0 (Below w.heap.size w w'))
  case atStart => exact ⟨(([] : List (List Int))), (0), es, H', ⟨Nat.le_refl _⟩, ⟨by (with_reducible repeat (first | apply Kd.V_alloc | apply Kd.V_drewN | apply Kd.V_drew)); exact Kd.V_mono HO1.1 (fun _ hk => ⟨hk.1, ⟨(by simp [Value.ownBlock]), hk.2⟩⟩)⟩, ⟨by first | exact Kd.S_nil _ _ _ _ _ | exact Kd.N_nil _ _ _ _ _ | exact Kd.V_nil _ _ _ _ _ | exact Kd.Q_nil _ _ _ _ _ | exact Kd.R_nil _ _ _ _ _⟩, ⟨vk BK0.1⟩, ⟨vb HB.1⟩⟩
  case round =>
   clear H'; obtain ⟨x2_1, x3_1, rfl, HA, HK1, HO_1, HO_2, BK0, HB⟩ := hrel
   cases gk with
   | zero => exact absurd HA.1 (by simp [impl_placings.l0])
   | succ k1 =>
    have H := HA.1; clear HA; simp only [impl_placings.l0] at H
    by_cases c10 : x3_1 < (l0_3.length : Int)
    ·rw [if_pos c10] at H; have c10b0 := decide_eq_true c10; clear c10; obtain ⟨t31, A11, H⟩ := bnk H; by_cases c12 : t31 = true
     ·subst c12; rw [if_pos rfl] at H; obtain ⟨t11, A13, H⟩ := bnk H; obtain ⟨y6, Ny6, H⟩ := bnE H; by_cases c14 : t11.length + y6.length < 17592186044416
      ·rw [if_pos c14] at H; have LMc14 := ak c14; clear c14; obtain ⟨y13, hy13⟩ := gen_ ((t11 ++ y6 : List Int)); rw [← hy13] at H; have Ny13 := ak hy13; clear hy13; obtain ⟨t17, A15, H⟩ := bnk H; by_cases c16 : x2_1.length + t17.length < 5864062014805
       ·rw [if_pos c16] at H; have LMc16 := ak c16; clear c16; obtain ⟨y20, hy20⟩ := gen_ ((x2_1 ++ t17 : List (List Int))); rw [← hy20] at H; have Ny20 := ak hy20; clear hy20; have H' := ak H; clear H; have hcz35 := cz6 BK0.1; (try go_wp2_with (first | ((with_reducible refine at_fn (f := 113) rfl ?_); refine gl (some 27) Try.func113 #[.agg (f5 A0_0 l0_0 c0_0 A0_1 l0_1 c0_1 A0_2 l0_2 c0_2 A0_3 l0_3 c0_3 A0_4 l0_4 c0_4 a0_5), .slice A1 l1.length c1, .int .i64 (l1.length : Int), .int .i64 x3_1] ?_; (with_reducible refine (impl_isFree.calls k1 _ _ l0_0 _ _ l0_1 _ _ l0_2 _ _ l0_3 _ _ l0_4 a0_5 _ _ l1 (l1.length : Int) x3_1 _ _ ?_ HC0_0.1 ?_ HC0_1.1 ?_ HC0_2.1 ?_ HC0_3.1 ?_ HC0_4.1 ?_ ?_ A11.1).mono ?_); exact vd HR0_0.1 HB.1; exact vd HR0_1.1 HB.1; exact vd HR0_2.1 HB.1; exact vd HR0_3.1 HB.1; exact vd HR0_4.1 HB.1; exact vc (Kd.V_reads' HO_1.1).2.2; exact (Kd.V_reads' HO_1.1).2.1; rintro e w18 ⟨rfl, hb⟩; refine ⟨_, rfl, ?_⟩; replace HO_1 := ak (Kd.V_below (vV HO_1.1) hb); replace HO_2 := ak (Kd.N_below (vN HO_2.1) hb); replace BK0 := kb BK0 hb; replace HB := bs HB hb; (try clear hb); obtain ⟨Ao4, co4, eo4⟩ := Kd.N_slice HO_2.1; subst eo4)))
        replace HO_1 := ak (Kd.V_drew HO_1.1); replace HO_2 := ak (Kd.N_drew HO_2.1); replace BK0 := ak (blk_drew BK0.1); replace HB := ak (below_drew1 HB.1); refine start_ (n := 10) (S := fun w' => w'.cell? ⟨gb0, 0, none⟩ = some (.slice A0_0 l0_0.length c0_0) ∧ w'.cell? ⟨gb0, 1, none⟩ = some (.slice A0_1 l0_1.length c0_1) ∧ w'.cell? ⟨gb0, 2, none⟩ = some (.slice A0_2 l0_2.length c0_2) ∧ w'.cell? ⟨gb0, 3, none⟩ = some (.slice A0_3 l0_3.length c0_3) ∧ w'.cell? ⟨gb0, 4, none⟩ = some (.slice A0_4 l0_4.length c0_4) ∧ w'.cell? ⟨gb0, 5, none⟩ = some (.int .i64 a0_5)) (ds := []) (tf 0 10) (by kernel_rfl) rfl rfl (cy6 BK0.1) (fun hHeld => ?_); refine with_tabW impl_placings.tab9 impl_placings.bits9 (fun HT_ HW_ => ?_); generalize w18.drew = w20 at HO_1 HO_2 BK0 HB hHeld ⊢; refine pu_ 0 28 (tf 1 9) rfl rfl ?_; refine pu_ 2 30 (tM [1, 1, 1, 7]) rfl rfl ?_; refine pu_ 4 32 (tM [1, 1, 1, 1, 1, 5]) rfl rfl ?_; refine ta6_ 1 29 (tM [3, 1, 1, 5]) rfl rfl ?_; refine join_ (σ := Value × Value) 4 (tf 6 4) (fun s_ => [(31, s_.1), (33, s_.2)]) (fun s_ w' => (w'.cell? ⟨gb0, 0, none⟩ = some (.slice A0_0 l0_0.length c0_0) ∧ w'.cell? ⟨gb0, 1, none⟩ = some (.slice A0_1 l0_1.length c0_1) ∧ w'.cell? ⟨gb0, 2, none⟩ = some (.slice A0_2 l0_2.length c0_2) ∧ w'.cell? ⟨gb0, 3, none⟩ = some (.slice A0_3 l0_3.length c0_3) ∧ w'.cell? ⟨gb0, 4, none⟩ = some (.slice A0_4 l0_4.length c0_4) ∧ w'.cell? ⟨gb0, 5, none⟩ = some (.int .i64 a0_5)) ∧ (Kd.R (Kd.int .i64) 2 w' w.heap.size (fun k_ => (w.heap.size ≤ k_) ∧ some k_ ≠ (s_.2 : Value).ownBlock) s_.1 t11) ∧ (Kd.R (Kd.int .i64) 2 w' w.heap.size (fun k_ => (w.heap.size ≤ k_) ∧ some k_ ≠ (s_.1 : Value).ownBlock) s_.2 y6) ∧ (Kd.V (Kd.int .i64) 2 w' w.heap.size (fun k_ => (P1_ k_ ∨ w.heap.size ≤ k_) ∧ some k_ ≠ (s_.1 : Value).ownBlock ∧ some k_ ≠ (s_.2 : Value).ownBlock ∧ nB k_ Ao4 x2_1.length co4 ∧ k_ ≠ gb0) (.slice A1 l1.length c1) l1) ∧ (Kd.N (Kd.slice 2 (Kd.int .i64)) 24 w' w.heap.size (fun k_ => (P1_ k_ ∨ w.heap.size ≤ k_) ∧ some k_ ≠ (s_.1 : Value).ownBlock ∧ some k_ ≠ (s_.2 : Value).ownBlock ∧ k_ ≠ gb0) (.slice Ao4 x2_1.length co4) x2_1) ∧ (w'.heap[gb0]? = some (.cells (f5 A0_0 l0_0 c0_0 A0_1 l0_1 c0_1 A0_2 l0_2 c0_2 A0_3 l0_3 c0_3 A0_4 l0_4 c0_4 a0_5) 33 (0, 0))) ∧ (Below w.heap.size w w')) ?_ ?_
        rotate_left
        ·intro hCont; refine two_ (i := 3) (j := 5) (Ni := some 31) (Nj := some 33) (tf 5 5) (tM [3, 1, 2, 4]) rfl rfl rfl rfl (two_of HT_.1 (by kernel_rfl)) (by decide) (by decide) (fun K hK => ?_) (fun K hK => ?_)
         ·skip
          refine goes_ Try.func91 (by kernel_rfl) rfl #[.slice A1 l1.length c1] (by rfl) rfl rfl (by (try simp only [List.map_toArray, List.map_cons, List.map_nil]); first | done | rfl | (simp only [List.length_drop, List.length_take]; rfl)) ?_; with_reducible refine (impl_copyList.calls _ _ l1 t11 _ ?_ ?_ A13.1).mono ?_
          exact vc (Kd.V_reads' HO_1.1).2.2
          exact (Kd.V_reads' HO_1.1).2.1
          rintro e w21 ⟨v14, rfl, ho8, hb⟩; refine ⟨_, rfl, ?_⟩; replace HO_1 := ak (Kd.V_elder' (vV HO_1.1) (Kd.R_base ho8) hb); replace HO_2 := ak (Kd.N_elder' (vN HO_2.1) (Kd.R_base ho8) hb); have HO12 := ak (Kd.R_lower (Kd.R_newM (M := fun k_ => (w.heap.size ≤ k_)) ho8 (below_size (vb HB.1)) (fun k_ h_ => h_)) (below_size (vb HB.1))); replace BK0 := kb BK0 hb; replace HB := bs HB hb; (try clear hb)
          (try clear hb2)
          (try clear hk)
          (try clear hi)
          (try clear ho8)
          refine hK.out _ _ (cy6 BK0.1) (fun hHeld => ?_); clear hK K; refine norm_ (a' := ?_) ?_ ?_
          rotate_left
          ·show Act.put _ (some 31) _ = _
           simp only [Act.put, List.setIfInBounds_toArray, List.set_cons_zero, List.set_cons_succ, i64_w, i32_w]
           rfl
          refine one_ (i := 5) (N := some 33) (tf 6 4) rfl rfl (one_of HT_.1 (by kernel_rfl)) (by decide) (fun K hK => ?_); refine Kd.R_lit_step (Kd.int .i64) _ 2 ?hg (N := 33) ?hd (xs := ([x3_1] : List Int)) (inner := [.int .i64 x3_1]) (ok := fun _ => True) (okp := fun _ => True) ?hr ?hp (fun _ hk => hk) trivial (Below.refl _ _) (Nat.le_refl _) (by simp) ?_; (case hd => rfl); (case hg => rfl); (case hr => first | (go_simp; done) | (go_simp; rfl)); (case hp => exact (Reps.one (show Kd.M (Kd.int .i64) _ _ _ x3_1 [.int .i64 x3_1] from rfl) (Reps.none _ _))); intro v16 w22 ho15 hb hg_ hnew_; clear hg_ hnew_; (first | rw [← Ny6.1] at ho15 | (simp only [Int.reduceToNat] at ho15; rw [← Ny6.1] at ho15))
          replace HO_1 := ak (Kd.V_elder' (vV HO_1.1) (Kd.R_base ho15) hb); replace HO_2 := ak (Kd.N_elder' (vN HO_2.1) (Kd.R_base ho15) hb); have HO7 := ak (Kd.R_lower (Kd.R_new' (Kd.R_newM (M := fun k_ => (w.heap.size ≤ k_)) ho15 (below_size (vb HB.1)) (fun k_ h_ => h_)) (Kd.R_lt (vr HO12.1))) (below_size (vb HB.1))); replace HO12 := ro HO12 ho15 hb; replace BK0 := kb BK0 hb; replace HB := bs HB hb; clear hb ho15; refine hK.out _ _ (cy6 BK0.1) (fun hHeld => ?_); clear hK K; refine norm_ (a' := ?_) ?_ ?_
          rotate_left
          ·show Act.put _ (some 33) _ = _
           simp only [Act.put, List.setIfInBounds_toArray, List.set_cons_zero, List.set_cons_succ, i64_w, i32_w]
           rfl
          exact norm_ (by simp only [putAll, Act.put, List.setIfInBounds_toArray, List.set_cons_zero, List.set_cons_succ]) (hCont (v14, v16) _ ⟨hHeld, (vr (Kd.R_mono HO12.1 (fun _ hk => ⟨hk.1.1, hk.2⟩))), (vr (Kd.R_mono HO7.1 (fun _ hk => ⟨hk.1.1, hk.2⟩))), (by (with_reducible repeat (first | apply Kd.V_alloc | apply Kd.V_drewN | apply Kd.V_drew)); exact Kd.V_mono HO_1.1 (fun _ hk => ⟨hk.1.1.1, ⟨hk.1.2, ⟨hk.2, ⟨hk.1.1.2.1, hk.1.1.2.2⟩⟩⟩⟩)), (vN (Kd.N_mono HO_2.1 (fun _ hk => ⟨hk.1.1.1, ⟨hk.1.2, ⟨hk.2, hk.1.1.2⟩⟩⟩))), (vk BK0.1), (vb HB.1)⟩)
         ·skip
          refine Kd.R_lit_step (Kd.int .i64) _ 2 ?hg (N := 33) ?hd (xs := ([x3_1] : List Int)) (inner := [.int .i64 x3_1]) (ok := fun _ => True) (okp := fun _ => True) ?hr ?hp (fun _ hk => hk) trivial (Below.refl _ _) (Nat.le_refl _) (by simp) ?_; (case hd => rfl); (case hg => rfl); (case hr => first | (go_simp; done) | (go_simp; rfl)); (case hp => exact (Reps.one (show Kd.M (Kd.int .i64) _ _ _ x3_1 [.int .i64 x3_1] from rfl) (Reps.none _ _))); intro v16 w21 ho18 hb hg_ hnew_; clear hg_ hnew_; (first | rw [← Ny6.1] at ho18 | (simp only [Int.reduceToNat] at ho18; rw [← Ny6.1] at ho18))
          replace HO_1 := ak (Kd.V_elder' (vV HO_1.1) (Kd.R_base ho18) hb); replace HO_2 := ak (Kd.N_elder' (vN HO_2.1) (Kd.R_base ho18) hb); have HO7 := ak (Kd.R_lower (Kd.R_newM (M := fun k_ => (w.heap.size ≤ k_)) ho18 (below_size (vb HB.1)) (fun k_ h_ => h_)) (below_size (vb HB.1))); replace BK0 := kb BK0 hb; replace HB := bs HB hb; clear hb ho18; refine hK.out _ _ (cy6 BK0.1) (fun hHeld => ?_); clear hK K; refine norm_ (a' := ?_) ?_ ?_
          rotate_left
          ·show Act.put _ (some 33) _ = _
           simp only [Act.put, List.setIfInBounds_toArray, List.set_cons_zero, List.set_cons_succ, i64_w, i32_w]
           rfl
          refine one_ (i := 3) (N := some 31) (tf 6 4) rfl rfl (one_of HT_.1 (by kernel_rfl)) (by decide) (fun K hK => ?_); refine goes_ Try.func91 (by kernel_rfl) rfl #[.slice A1 l1.length c1] (by rfl) rfl rfl (by (try simp only [List.map_toArray, List.map_cons, List.map_nil]); first | done | rfl | (simp only [List.length_drop, List.length_take]; rfl)) ?_; with_reducible refine (impl_copyList.calls _ _ l1 t11 _ ?_ ?_ A13.1).mono ?_
          exact vc (Kd.V_reads' HO_1.1).2.2
          exact (Kd.V_reads' HO_1.1).2.1
          rintro e w23 ⟨v14, rfl, ho8, hb⟩; refine ⟨_, rfl, ?_⟩; replace HO_1 := ak (Kd.V_elder' (vV HO_1.1) (Kd.R_base ho8) hb); replace HO_2 := ak (Kd.N_elder' (vN HO_2.1) (Kd.R_base ho8) hb); have HO12 := ak (Kd.R_lower (Kd.R_new' (Kd.R_newM (M := fun k_ => (w.heap.size ≤ k_)) ho8 (below_size (vb HB.1)) (fun k_ h_ => h_)) (Kd.R_lt (vr HO7.1))) (below_size (vb HB.1))); replace HO7 := ro HO7 ho8 hb; replace BK0 := kb BK0 hb; replace HB := bs HB hb; (try clear hb)
          (try clear hb2)
          (try clear hk)
          (try clear hi)
          (try clear ho8)
          refine hK.out _ _ (cy6 BK0.1) (fun hHeld => ?_); clear hK K; refine norm_ (a' := ?_) ?_ ?_
          rotate_left
          ·show Act.put _ (some 31) _ = _
           simp only [Act.put, List.setIfInBounds_toArray, List.set_cons_zero, List.set_cons_succ, i64_w, i32_w]
           rfl
          exact norm_ (by simp only [putAll, Act.put, List.setIfInBounds_toArray, List.set_cons_zero, List.set_cons_succ]) (hCont (v14, v16) _ ⟨hHeld, (vr (Kd.R_mono HO12.1 (fun _ hk => ⟨hk.1.1, hk.2⟩))), (vr (Kd.R_mono HO7.1 (fun _ hk => ⟨hk.1.1, hk.2⟩))), (by (with_reducible repeat (first | apply Kd.V_alloc | apply Kd.V_drewN | apply Kd.V_drew)); exact Kd.V_mono HO_1.1 (fun _ hk => ⟨hk.1.1.1, ⟨hk.2, ⟨hk.1.2, ⟨hk.1.1.2.1, hk.1.1.2.2⟩⟩⟩⟩)), (vN (Kd.N_mono HO_2.1 (fun _ hk => ⟨hk.1.1.1, ⟨hk.2, ⟨hk.1.2, hk.1.1.2⟩⟩⟩))), (vk BK0.1), (vb HB.1)⟩)
        rintro ⟨v14, v16⟩ w24 ⟨hS_, h0_, h1_, h2_, h3_, h4_, h5_⟩; have n0_ : Aside0 (Kd.R (Kd.int .i64) 2 w24 w.heap.size (fun k_ => (w.heap.size ≤ k_) ∧ some k_ ≠ (v16 : Value).ownBlock) v14 t11) := ⟨h0_⟩; have n1_ : Aside0 (Kd.R (Kd.int .i64) 2 w24 w.heap.size (fun k_ => (w.heap.size ≤ k_) ∧ some k_ ≠ (v14 : Value).ownBlock) v16 y6) := ⟨h1_⟩; have n2_ : Aside0 (Kd.V (Kd.int .i64) 2 w24 w.heap.size (fun k_ => (P1_ k_ ∨ w.heap.size ≤ k_) ∧ some k_ ≠ (v14 : Value).ownBlock ∧ some k_ ≠ (v16 : Value).ownBlock ∧ nB k_ Ao4 x2_1.length co4 ∧ k_ ≠ gb0) (.slice A1 l1.length c1) l1) := ⟨h2_⟩; have n3_ : Aside0 (Kd.N (Kd.slice 2 (Kd.int .i64)) 24 w24 w.heap.size (fun k_ => (P1_ k_ ∨ w.heap.size ≤ k_) ∧ some k_ ≠ (v14 : Value).ownBlock ∧ some k_ ≠ (v16 : Value).ownBlock ∧ k_ ≠ gb0) (.slice Ao4 x2_1.length co4) x2_1) := ⟨h3_⟩; have n4_ : Aside0 (w24.heap[gb0]? = some (.cells (f5 A0_0 l0_0 c0_0 A0_1 l0_1 c0_1 A0_2 l0_2 c0_2 A0_3 l0_3 c0_3 A0_4 l0_4 c0_4 a0_5) 33 (0, 0))) := ⟨h4_⟩; have n5_ : Aside0 (Below w.heap.size w w24) := ⟨h5_⟩; clear HO_1; clear HO_2; clear BK0; clear HB; clear h0_ h1_ h2_ h3_ h4_ h5_; have HO12 := n0_; have HO7 := n1_; have HO_1 := n2_; have HO_2 := n3_; have BK0 := n4_; have HB := n5_; clear n0_ n1_ n2_ n3_ n4_ n5_; have hHeld : w24.cell? ⟨gb0, 0, none⟩ = some (.slice A0_0 l0_0.length c0_0) ∧ w24.cell? ⟨gb0, 1, none⟩ = some (.slice A0_1 l0_1.length c0_1) ∧ w24.cell? ⟨gb0, 2, none⟩ = some (.slice A0_2 l0_2.length c0_2) ∧ w24.cell? ⟨gb0, 3, none⟩ = some (.slice A0_3 l0_3.length c0_3) ∧ w24.cell? ⟨gb0, 4, none⟩ = some (.slice A0_4 l0_4.length c0_4) ∧ w24.cell? ⟨gb0, 5, none⟩ = some (.int .i64 a0_5) := hS_
        obtain ⟨Ao5, co5, eo5⟩ := Kd.R_slice HO7.1; (first | subst eo5 | (injection eo5 with f1_ f2_ f3_; have f4_ := f1_.symm; have f5_ := f3_.symm; clear f1_ f2_ f3_; subst f4_; subst f5_))
        refine norm_ (a' := ?_) ?_ ?_
        rotate_left
        ·simp only [putAll, Act.put, List.setIfInBounds_toArray, List.set_cons_zero, List.set_cons_succ]
         rfl
        refine one_ (i := 6) (N := some 34) (tf 7 3) rfl rfl (one_of HT_.1 (by kernel_rfl)) (by decide) (fun K hK => ?_); refine Kd.R_append_rows_step (Kd.int .i64) (w0 := w) w.heap.size (by rfl) (.tmp 31) (.tmp 33) 24 2 (.int .i64 0) 8 rfl Try.underlying24 info2 rfl (by decide) (by omega) v14 t11 y6 _ _ _ (fun k_ => (w.heap.size ≤ k_) ∧ nB k_ Ao5 y6.length co5) (fun _ => False) rfl rfl ?aO ?aR (fun _ _ h => h) (fun _ h => h.elim) ?aF ?aB ?aS ?aL ?_; (case aR => exact rc_ HO7)
        (case aB => exact (vb HB.1))
        (case aF => exact (fun k_ hk => ⟨(Nat.le_trans (below_size (vb HB.1)) hk), Kd.fresh' (Kd.R_lt (vr HO7.1)) k_ hk⟩))
        (case aO => exact (vr HO12.1))
        (case aS => exact (below_size (vb HB.1)))
        (case aL => have := LMc14.1; omega)
        intro v38 w25 ho hb hg hat; rw [← Ny13.1] at ho; have n0_ := ak (Kd.V_afterv (ok := (fun k_ => (P1_ k_ ∨ w.heap.size ≤ k_) ∧ nB k_ Ao4 x2_1.length co4 ∧ nB k_ Ao5 y6.length co5 ∧ k_ ≠ gb0)) (by (with_reducible repeat (first | apply Kd.V_alloc | apply Kd.V_drewN | apply Kd.V_drew)); exact Kd.V_mono HO_1.1 (fun _ hk => ⟨⟨hk.1, ⟨hk.2.2.2.1, ⟨hk.2.2.1, hk.2.2.2.2⟩⟩⟩, hk.2.1⟩)) hg hat); have n1_ := ak (Kd.N_afterv (ok := (fun k_ => (P1_ k_ ∨ w.heap.size ≤ k_) ∧ nB k_ Ao5 y6.length co5 ∧ k_ ≠ gb0)) (vN (Kd.N_mono HO_2.1 (fun _ hk => ⟨⟨hk.1, ⟨hk.2.2.1, hk.2.2.2⟩⟩, hk.2.1⟩))) hg hat); have n2_ := ak (blk_grown (g := gb0) (o := .cells (f5 A0_0 l0_0 c0_0 A0_1 l0_1 c0_1 A0_2 l0_2 c0_2 A0_3 l0_3 c0_3 A0_4 l0_4 c0_4 a0_5) 33 (0, 0)) (vk BK0.1) hg (Kd.R_ne HO12.1 BK0.1 (by decide))); have n3_ := ak (Kd.R_after (ok := (fun k_ => (w.heap.size ≤ k_))) (vr HO7.1) hg hat); have n4_ := ak (hb); have n5_ := ak (ho); clear HO_1; clear HO_2; clear BK0; clear HO7; clear HB; clear HO12; have HO_1 := n0_; have HO_2 := n1_; have BK0 := n2_; have HO7 := n3_; have HB := n4_; have HO9 := n5_; clear n0_ n1_ n2_ n3_ n4_ n5_; clear ho hb hg hat; obtain ⟨Ao10, co10, eo10⟩ := Kd.R_slice HO9.1
        (first | subst eo10 | (injection eo10 with f1_ f2_ f3_; have f4_ := f1_.symm; have f5_ := f3_.symm; clear f1_ f2_ f3_; subst f4_; subst f5_))
        refine hK.out _ _ (cy6 BK0.1) (fun hHeld => ?_); clear hK K; refine norm_ (a' := ?_) ?_ ?_
        rotate_left
        ·show Act.put _ (some 34) _ = _
         simp only [Act.put, List.setIfInBounds_toArray, List.set_cons_zero, List.set_cons_succ, i64_w, i32_w]
         rfl
        refine one_ (i := 7) (N := some 35) (tf 8 2) rfl rfl (one_of HT_.1 (by kernel_rfl)) (by decide) (fun K hK => ?_); refine goes_ Try.func62 (by kernel_rfl) rfl #[.agg (f5 A0_0 l0_0 c0_0 A0_1 l0_1 c0_1 A0_2 l0_2 c0_2 A0_3 l0_3 c0_3 A0_4 l0_4 c0_4 a0_5), .slice Ao10 y13.length co10] (by rfl) rfl rfl (by (try simp only [List.map_toArray, List.map_cons, List.map_nil]); first | done | rfl | (simp only [List.length_drop, List.length_take]; rfl)) ?_; with_reducible refine (ih k1 (by have := HK1.1; omega) _ _ l0_0 _ _ l0_1 _ _ l0_2 _ _ l0_3 _ _ l0_4 a0_5 (fun k_ => some k_ = (.slice Ao10 y13.length co10 : Value).ownBlock) _ _ y13 t17 _ ?_ ?_ ?_ ?_ ?_ ?_ ?_ ?_ ?_ ?_ ?_ A15.1).mono ?_
        exact vd HR0_0.1 HB.1
        exact HC0_0.1
        exact vd HR0_1.1 HB.1
        exact HC0_1.1
        exact vd HR0_2.1 HB.1
        exact HC0_2.1
        exact vd HR0_3.1 HB.1
        exact HC0_3.1
        exact vd HR0_4.1 HB.1
        exact HC0_4.1
        exact Kd.R_V (Kd.R_tight rfl (Kd.R_types (Kd.R_apart' (HO9.1) (Kd.N_typed HO_2.1) (by decide)) BK0.1 (by decide)))
        rintro e w28 ⟨v39, rfl, ho8, hb⟩; refine ⟨_, rfl, ?_⟩; replace HO_1 := ak (Kd.V_elder' (vV HO_1.1) (Kd.N_base ho8) hb); have HO23 := ak (Kd.N_lower (Kd.N_mono (ok' := fun k_ => (P1_ k_ ∨ w.heap.size ≤ k_) ∧ nB k_ Ao4 x2_1.length co4 ∧ nB k_ Ao5 y6.length co5 ∧ k_ ≠ gb0) ho8 (fun k_ hk_ => ⟨Or.elim hk_ (fun hs_ => (.inr (((Kd.R_types (Kd.R_apart' (HO9.1) (Kd.N_typed HO_2.1) (by decide)) BK0.1 (by decide)).1 k_ hs_.symm).1.1.1))) (fun hn_ => (.inr (Nat.le_trans (below_size (vb HB.1)) hn_))), Or.elim hk_ (fun hs_ => ((Kd.R_types (Kd.R_apart' (HO9.1) (Kd.N_typed HO_2.1) (by decide)) BK0.1 (by decide)).1 k_ hs_.symm).1.2) (fun hn_ => (Kd.fresh' (Kd.N_lt (vN HO_2.1)) k_ hn_)), Or.elim hk_ (fun hs_ => ((Kd.R_types (Kd.R_apart' (HO9.1) (Kd.N_typed HO_2.1) (by decide)) BK0.1 (by decide)).1 k_ hs_.symm).1.1.2) (fun hn_ => (Kd.fresh' (Kd.R_lt (vr HO7.1)) k_ hn_)), Or.elim hk_ (fun hs_ => ((Kd.R_types (Kd.R_apart' (HO9.1) (Kd.N_typed HO_2.1) (by decide)) BK0.1 (by decide)).1 k_ hs_.symm).2) (fun hn_ => (Kd.freshB (g := gb0) (o := .cells (f5 A0_0 l0_0 c0_0 A0_1 l0_1 c0_1 A0_2 l0_2 c0_2 A0_3 l0_3 c0_3 A0_4 l0_4 c0_4 a0_5) 33 (0, 0)) (vk BK0.1) k_ hn_))⟩)) (below_size (vb HB.1)))
        replace HO_2 := ak (Kd.N_elder' (vN HO_2.1) (Kd.N_base ho8) hb); replace HO7 := rb HO7 hb; replace HO9 := rb HO9 hb; replace BK0 := kb BK0 hb; replace HB := bs HB hb; (try clear hb)
        (try clear hb2)
        (try clear hk)
        (try clear hi)
        (try clear ho8)
        obtain ⟨Ao22, co22, eo22⟩ := Kd.N_slice HO23.1; (first | subst eo22 | (injection eo22 with f1_ f2_ f3_; have f4_ := f1_.symm; have f5_ := f3_.symm; clear f1_ f2_ f3_; subst f4_; subst f5_))
        refine hK.out _ _ (cy6 BK0.1) (fun hHeld => ?_); clear hK K; refine norm_ (a' := ?_) ?_ ?_
        rotate_left
        ·show Act.put _ (some 35) _ = _
         simp only [Act.put, List.setIfInBounds_toArray, List.set_cons_zero, List.set_cons_succ, i64_w, i32_w]
         rfl
        refine one_ (i := 8) (N := some 36) (tf 9 1) rfl rfl (one_of HT_.1 (by kernel_rfl)) (by decide) (fun K hK => ?_); refine Kd.N_append_rows_step (Kd.slice 2 (Kd.int .i64)) (w0 := w) w.heap.size (by rfl) (.tmp 28) (.tmp 35) 65 24 (.slice none 0 0) 24 rfl Try.underlying65 info24 rfl (by decide) (by omega) (.slice Ao4 x2_1.length co4) x2_1 t17 _ _ _ (fun k_ => (P1_ k_ ∨ w.heap.size ≤ k_) ∧ nB k_ Ao5 y6.length co5 ∧ k_ ≠ gb0) (fun k_ => ((fun k_ => (P1_ k_ ∨ w.heap.size ≤ k_) ∧ nB k_ Ao5 y6.length co5 ∧ k_ ≠ gb0)) k_ ∧ nB k_ Ao4 x2_1.length co4) rfl rfl ?aO ?aR (fun _ hk => hk) ?aF ?aB ?aS ?aL ?_; (case aR => exact (by skip; exact Kd.N_F (Kd.N_mono (ok' := (fun k_ => ((fun k_ => (P1_ k_ ∨ w.heap.size ≤ k_) ∧ nB k_ Ao5 y6.length co5 ∧ k_ ≠ gb0)) k_ ∧ nB k_ Ao4 x2_1.length co4)) (HO23.1) (fun k_ hk => ⟨⟨hk.1, ⟨hk.2.2.1, hk.2.2.2⟩⟩, hk.2.1⟩))))
        (case aB => exact (vb HB.1))
        (case aF => exact (fun k_ hk => ⟨(.inr (Nat.le_trans (below_size (vb HB.1)) hk)), Kd.fresh' (Kd.R_lt (vr HO7.1)) k_ hk, Kd.freshB (g := gb0) (o := .cells (f5 A0_0 l0_0 c0_0 A0_1 l0_1 c0_1 A0_2 l0_2 c0_2 A0_3 l0_3 c0_3 A0_4 l0_4 c0_4 a0_5) 33 (0, 0)) (vk BK0.1) k_ hk⟩))
        (case aO => exact (vN (Kd.N_mono HO_2.1 (fun _ hk => ⟨hk.1.1.1, ⟨hk.1.1.2.1, hk.1.1.2.2⟩⟩))))
        (case aS => exact (below_size (vb HB.1)))
        (case aL => have := LMc16.1; omega)
        intro v40 w29 ho hb hg hat; rw [← Ny20.1] at ho; have n0_ := ak (Kd.V_afterv (ok := (fun k_ => (P1_ k_ ∨ w.heap.size ≤ k_) ∧ nB k_ Ao5 y6.length co5 ∧ nB k_ Ao10 y13.length co10 ∧ nB k_ Ao22 t17.length co22 ∧ k_ ≠ gb0)) (by (with_reducible repeat (first | apply Kd.V_alloc | apply Kd.V_drewN | apply Kd.V_drew)); exact Kd.V_mono HO_1.1 (fun _ hk => ⟨⟨hk.1.1.1, ⟨hk.1.1.2.2.1, ⟨hk.1.2, ⟨hk.2, hk.1.1.2.2.2⟩⟩⟩⟩, hk.1.1.2.1⟩)) hg hat); have n1_ := ak (blk_grown (g := gb0) (o := .cells (f5 A0_0 l0_0 c0_0 A0_1 l0_1 c0_1 A0_2 l0_2 c0_2 A0_3 l0_3 c0_3 A0_4 l0_4 c0_4 a0_5) 33 (0, 0)) (vk BK0.1) hg (Kd.N_ne HO_2.1 BK0.1 (by decide))); have n2_ := ak (Kd.R_over' (vr HO7.1) (Kd.N_typed (vN HO_2.1)) (by decide) hg); have n3_ := ak (Kd.R_over' (vr HO9.1) (Kd.N_typed (vN HO_2.1)) (by decide) hg); have n4_ := ak (Kd.N_afterv (ok := (fun k_ => (P1_ k_ ∨ w.heap.size ≤ k_) ∧ nB k_ Ao5 y6.length co5 ∧ k_ ≠ gb0)) (vN (Kd.N_mono HO23.1 (fun _ hk => ⟨⟨hk.1, ⟨hk.2.2.1, hk.2.2.2⟩⟩, hk.2.1⟩))) hg hat)
        have n5_ := ak (hb); have n6_ := ak (ho); clear HO_1; clear BK0; clear HO7; clear HO9; clear HO23; clear HB; clear HO_2; have HO_1 := n0_; have BK0 := n1_; have HO7 := n2_; have HO9 := n3_; have HO23 := n4_; have HB := n5_; have HO33 := n6_; clear n0_ n1_ n2_ n3_ n4_ n5_ n6_; clear ho hb hg hat; refine hK.out _ _ (cy6 BK0.1) (fun hHeld => ?_); clear hK K; refine norm_ (a' := ?_) ?_ ?_
        rotate_left
        ·show Act.put _ (some 36) _ = _
         simp only [Act.put, List.setIfInBounds_toArray, List.set_cons_zero, List.set_cons_succ, i64_w, i32_w]
         rfl
        refine pu_ 9 6 (tf 10 0) rfl rfl ?_; refine done_ (done_of HT_.1 (by kernel_rfl)) ?_; (try go_wp2)
        go_roundg k1
        case measure => have := HK1.1; omega
        case rel => exact ⟨(y20), (wrap64 (x3_1 + 1)), es, H', ⟨by have := HK1.1; omega⟩, ⟨by (with_reducible repeat (first | apply Kd.V_alloc | apply Kd.V_drewN | apply Kd.V_drew)); exact Kd.V_mono HO_1.1 (fun _ hk => ⟨hk.1.1, ⟨hk.2, hk.1.2.2.2.2⟩⟩)⟩, ⟨vN (Kd.N_mono HO33.1 (fun _ hk => ⟨hk.1, hk.2.2⟩))⟩, ⟨vk BK0.1⟩, ⟨vb HB.1⟩⟩
       ·exact nO_ c16 H
      ·exact nO_ c14 H
     ·replace c12 := Bool.eq_false_iff.mpr c12; subst c12; rw [if_neg nf] at H; have H' := ak H; clear H; have hcz36 := cz6 BK0.1; go_wp2_with (first | ((with_reducible refine at_fn (f := 113) rfl ?_); refine gl (some 27) Try.func113 #[.agg (f5 A0_0 l0_0 c0_0 A0_1 l0_1 c0_1 A0_2 l0_2 c0_2 A0_3 l0_3 c0_3 A0_4 l0_4 c0_4 a0_5), .slice A1 l1.length c1, .int .i64 (l1.length : Int), .int .i64 x3_1] ?_; (with_reducible refine (impl_isFree.calls k1 _ _ l0_0 _ _ l0_1 _ _ l0_2 _ _ l0_3 _ _ l0_4 a0_5 _ _ l1 (l1.length : Int) x3_1 _ _ ?_ HC0_0.1 ?_ HC0_1.1 ?_ HC0_2.1 ?_ HC0_3.1 ?_ HC0_4.1 ?_ ?_ A11.1).mono ?_); exact vd HR0_0.1 HB.1; exact vd HR0_1.1 HB.1; exact vd HR0_2.1 HB.1; exact vd HR0_3.1 HB.1; exact vd HR0_4.1 HB.1; exact vc (Kd.V_reads' HO_1.1).2.2; exact (Kd.V_reads' HO_1.1).2.1; rintro e w32 ⟨rfl, hb⟩; refine ⟨_, rfl, ?_⟩; replace HO_1 := ak (Kd.V_below (vV HO_1.1) hb); replace HO_2 := ak (Kd.N_below (vN HO_2.1) hb); replace BK0 := kb BK0 hb; replace HB := bs HB hb; (try clear hb)))
      go_roundg k1
      case measure => have := HK1.1; omega
      case rel => exact ⟨(x2_1), (wrap64 (x3_1 + 1)), es, H', ⟨by have := HK1.1; omega⟩, ⟨vV HO_1.1⟩, ⟨vN HO_2.1⟩, ⟨vk BK0.1⟩, ⟨vb HB.1⟩⟩
    ·rw [if_neg c10] at H; have c10b0 := decide_eq_false c10; clear c10; obtain rfl := sj H; go_wp2
     go_ret
     exact ⟨_, ew, vN (Kd.N_mono HO_2.1 (fun _ hk => hk.1)), vb HB.1⟩


end Go.Proofs.Ytancnecddlbhkaa.Pall
