/- Go functions of the program, each as a Lean function, and the proof that each call comes to what the Lean function tells; no condition beyond those that stand there. -/
import Derived.Test.YtancnecddlbhkaaF00
import Derived.Test.YtancnecddlbhkaaF04
import Derived.Test.YtancnecddlbhkaaF05
import Derived.Test.YtancnecddlbhkaaSq
import Derived.Test.YtancnecddlbhkaaWApart
import Derived.Test.YtancnecddlbhkaaWLast
import Derived.Test.YtancnecddlbhkaaWMore
import Derived.Test.YtancnecddlbhkaaWN
import Derived.Test.YtancnecddlbhkaaWNEv
import Derived.Test.YtancnecddlbhkaaWRepsOne
import Derived.Test.YtancnecddlbhkaaWShare
import Derived.Test.YtancnecddlbhkaaWTab
import Derived.Test.YtancnecddlbhkaaSpare
import Derived.Test.YtancnecddlbhkaaCm
import Derived.Test.YtancnecddlbhkaaCm4
import Derived.Test.YtancnecddlbhkaaCm3
import Derived.Test.YtancnecddlbhkaaCm6
namespace Go.Proofs.Ytancnecddlbhkaa.Pall
open Go.RowKit Go.Proofs.YtancnecddlbhkaaW.PrintWords Go.Proofs.YtancnecddlbhkaaW.PrintLast Go.Proofs.YtancnecddlbhkaaW.PrintMore
set_option linter.unusedVariables false
set_option linter.unusedSimpArgs false

/-! ### impl_placings: function 62 -/
mutual
def impl_placings.l0 : Nat → List Int → Int → List (List Int) → Int → Int → List (S98) → List (S103) → List Int → List Int → List Int → Int → Option ((List (List Int)))
 | 0, _, _, _, _, _, _, _, _, _, _, _ => none
 | k + 1, x1, x5, x6, x19, x20, x363000, x363001, x363002, x363003, x363004, x363005 => if x20 < x19 then ((impl_isFree.f k x363000 x363001 x363002 x363003 x363004 x363005 x1 x5 x20).bind fun t366 => (if t366 = true then ((impl_copyList.f x1).bind fun t367 => ((some (([x20] : List Int) : List Int)).bind fun y370 => (if t367.length + y370.length < 17592186044416 then ((impl_placings.f k x363000 x363001 x363002 x363003 x363004 x363005 (t367 ++ y370)).bind fun t376 => (if x6.length + t376.length < 5864062014805 then (impl_placings.l0 k x1 x5 (x6 ++ t376) x19 (wrap64 (x20 + 1)) x363000 x363001 x363002 x363003 x363004 x363005) else (none))) else (none)))) else (impl_placings.l0 k x1 x5 x6 x19 (wrap64 (x20 + 1)) x363000 x363001 x363002 x363003 x363004 x363005))) else (some x6)
def impl_placings.f : Nat → List (S98) → List (S103) → List Int → List Int → List Int → Int → List Int → Option ((List (List Int)))
 | 0, _, _, _, _, _, _, _ => none
 | k + 1, l0_0, l0_1, l0_2, l0_3, l0_4, a0_5, l1 => if (l1.length : Int) = (l0_2.length : Int) then (some (([l1] : List (List Int)))) else (impl_placings.l0 k l1 (l1.length : Int) ([] : List (List Int)) (l0_3.length : Int) 0 l0_0 l0_1 l0_2 l0_3 l0_4 a0_5)
end
theorem impl_placings.mono_l : ∀ k, (∀ y0 y1 y2 y3 y4 y5 y6, LeO (impl_placings.f k y0 y1 y2 y3 y4 y5 y6) (impl_placings.f (k + 1) y0 y1 y2 y3 y4 y5 y6)) ∧ (∀ y0 y1 y2 y3 y4 y5 y6 y7 y8 y9 y10, LeO (impl_placings.l0 k y0 y1 y2 y3 y4 y5 y6 y7 y8 y9 y10) (impl_placings.l0 (k + 1) y0 y1 y2 y3 y4 y5 y6 y7 y8 y9 y10))
 | 0 => ⟨fun _ _ _ _ _ _ _ r h => by simp [impl_placings.f] at h, fun _ _ _ _ _ _ _ _ _ _ _ r h => by simp [impl_placings.l0] at h⟩
 | k + 1 => by
  obtain ⟨ih0, ih1⟩ := impl_placings.mono_l k; refine ⟨?_, ?_⟩
  ·intro y0 y1 y2 y3 y4 y5 y6; unfold impl_placings.f
   repeat' (with_reducible first | exact ih0 .. | exact ih1 .. | exact impl_isFree.mono .. | exact lm | refine LeO.ite ?_ ?_ | refine LeO.bind ?_ (fun _ => ?_))
  ·intro y0 y1 y2 y3 y4 y5 y6 y7 y8 y9 y10; unfold impl_placings.l0
   repeat' (with_reducible first | exact ih0 .. | exact ih1 .. | exact impl_isFree.mono .. | exact lm | refine LeO.ite ?_ ?_ | refine LeO.bind ?_ (fun _ => ?_))
theorem impl_placings.mono : ∀ a0 a1 a2 a3 a4 a5 a6 k, LeO (impl_placings.f k a0 a1 a2 a3 a4 a5 a6) (impl_placings.f (k + 1) a0 a1 a2 a3 a4 a5 a6) := by
 intro a0 a1 a2 a3 a4 a5 a6 k; obtain ⟨ih0, ih1⟩ := impl_placings.mono_l k; exact ih0 a0 a1 a2 a3 a4 a5 a6
def impl_placings.T9 : Bool × List (List Nat × List Nat) := (true, [([], []), ([], []), ([], []), ([2], [2]), ([], []), ([4], [4]), ([3, 5, 3], [3, 5]), ([1, 6, 6], [1, 6]), ([0, 7, 7], [0, 7]), ([8, 8, 0, 1, 2, 3, 4, 5, 6, 7, 8], [0, 8])])
def impl_placings.B9 : List Nat := [0, 0, 0, 4, 0, 16, 60, 126, 255, 511]
theorem impl_placings.tab9 : rtab .any (opsOf Try.f62 9) = impl_placings.T9 := by kernel_rfl
theorem impl_placings.bits9 : waitsOk impl_placings.T9.2 impl_placings.B9 = true := by kernel_rfl
set_option maxHeartbeats 8000000 in
set_option maxRecDepth 100000 in
theorem impl_placings.calls (k : Nat) : ∀ (A0_0 : Option Addr) (c0_0 : Nat) (l0_0 : List (S98)) (A0_1 : Option Addr) (c0_1 : Nat) (l0_1 : List (S103)) (A0_2 : Option Addr) (c0_2 : Nat) (l0_2 : List Int) (A0_3 : Option Addr) (c0_3 : Nat) (l0_3 : List Int) (A0_4 : Option Addr) (c0_4 : Nat) (l0_4 : List Int) (a0_5 : Int) (P1_ : Nat → Prop) (A1 : Option Addr) (c1 : Nat) (l1 : List Int) (r : List (List Int)) (w : World) (hr0_0 : Kd.C k98 w A0_0 l0_0.length l0_0) (hc0_0 : l0_0.length ≤ c0_0) (hr0_1 : Kd.C k103 w A0_1 l0_1.length l0_1) (hc0_1 : l0_1.length ≤ c0_1) (hr0_2 : Kd.C (Kd.int .i64) w A0_2 l0_2.length l0_2) (hc0_2 : l0_2.length ≤ c0_2) (hr0_3 : Kd.C (Kd.int .i64) w A0_3 l0_3.length l0_3) (hc0_3 : l0_3.length ≤ c0_3) (hr0_4 : Kd.C (Kd.int .i64) w A0_4 l0_4.length l0_4) (hc0_4 : l0_4.length ≤ c0_4) (hs1 : Kd.V (Kd.int .i64) 2 w w.heap.size (fun k_ => P1_ k_) (.slice A1 l1.length c1) l1) (h : impl_placings.f k l0_0 l0_1 l0_2 l0_3 l0_4 a0_5 l1 = some r),
  Calls Try.prog 62 #[.agg (f5 A0_0 l0_0 c0_0 A0_1 l0_1 c0_1 A0_2 l0_2 c0_2 A0_3 l0_3 c0_3 A0_4 l0_4 c0_4 a0_5), .slice A1 l1.length c1] w fun e w' => ∃ v0_ : Value, e = .returned (v0_) ∧ Kd.N (Kd.slice 2 (Kd.int .i64)) 24 w' w.heap.size (fun k_ => (P1_ k_ ∨ w.heap.size ≤ k_)) v0_ r ∧ Below w.heap.size w w' := by
 induction k using Nat.strongRecOn with
 | _ k ih =>
 intro A0_0 c0_0 l0_0 A0_1 c0_1 l0_1 A0_2 c0_2 l0_2 A0_3 c0_3 l0_3 A0_4 c0_4 l0_4 a0_5 P1_ A1 c1 l1 r w hr0_0 hc0_0 hr0_1 hc0_1 hr0_2 hc0_2 hr0_3 hc0_3 hr0_4 hc0_4 hs1 h
 cases k with
 | zero => exact absurd h (by simp [impl_placings.f])
 | succ k =>
 simp only [impl_placings.f] at h
 have hu33 := Try.underlying33; have HR0_0 := ak hr0_0; have HC0_0 := ak hc0_0; clear hr0_0 hc0_0; have HR0_1 := ak hr0_1; have HC0_1 := ak hc0_1; clear hr0_1 hc0_1; have HR0_2 := ak hr0_2; have HC0_2 := ak hc0_2; clear hr0_2 hc0_2; have HR0_3 := ak hr0_3; have HC0_3 := ak hc0_3; clear hr0_3 hc0_3; have HR0_4 := ak hr0_4; have HC0_4 := ak hc0_4; clear hr0_4 hc0_4; have HO1 := ak (show Kd.V (Kd.int .i64) 2 w w.heap.size (fun k_ => (P1_ k_ ∨ w.heap.size ≤ k_)) (.slice A1 l1.length c1) l1 from Kd.V_mono hs1 (fun k_ hk => .inl hk)); have HB := ak (Below.refl w.heap.size w); have H := h; clear h; by_cases c3 : (l1.length : Int) = (l0_2.length : Int)
 ·rw [if_pos c3] at H; obtain ⟨c3b0, c3b1⟩ := bqt c3; have c3b2 : (l1.length == l0_2.length) = true := by first | simpa using c3 | (simp at c3 ⊢; omega)
  clear c3; obtain ⟨y363, hy363⟩ := gen_ (([l1] : List (List Int))); rw [← hy363] at H; have Ny363 := ak hy363; clear hy363; obtain rfl := sj H; go_enter Try.func62, Try.ntmps62; go_wp2_with (first | ((with_reducible refine gate_dst (N := 2) rfl ?_); refine bx 2 (f5 A0_0 l0_0 c0_0 A0_1 l0_1 c0_1 A0_2 l0_2 c0_2 A0_3 l0_3 c0_3 A0_4 l0_4 c0_4 a0_5) 33 ?_; intro gb362 hg w4 hbox hb; replace HO1 := ak (Kd.V_below (Kd.V_elderB (vV HO1.out) gb362 (Nat.le_of_eq hg.symm)) hb); have BK362 := ak hbox; have GW362 := gw hg HB; have GE362 := gw hg HB; replace HB := bs HB hb; clear hb hbox hg; have hcz5 := cz6 BK362.out) | ((with_reducible refine gate_dst (N := 16) rfl ?_); refine Kd.N_lit (Kd.slice 2 (Kd.int .i64)) _ 24 ?hg (N' := 16) ?hd (xs := ([l1] : List (List Int))) (inner := [.slice A1 l1.length c1]) (ok := (fun k_ => (P1_ k_ ∨ w.heap.size ≤ k_) ∧ k_ ≠ gb362)) (okp := (fun k_ => (P1_ k_ ∨ w.heap.size ≤ k_) ∧ k_ ≠ gb362)) ?hr ?hp (fun _ hk => hk) ((show ∀ k_, w4.heap.size ≤ k_ → (fun k_ => (P1_ k_ ∨ w.heap.size ≤ k_) ∧ k_ ≠ gb362) k_ from fun k_ hk => ⟨(.inr (Nat.le_trans (below_size (vb HB.out)) hk)), Kd.freshB (g := gb362) (o := .cells (f5 A0_0 l0_0 c0_0 A0_1 l0_1 c0_1 A0_2 l0_2 c0_2 A0_3 l0_3 c0_3 A0_4 l0_4 c0_4 a0_5) 33 (0, 0)) (vk BK362.out) k_ hk⟩) _ (Nat.le_refl _)) (Below.refl _ _) (Nat.le_refl _) (by simp) ?_; (case hd => rfl); (case hg => rfl); (case hr => first | (go_simp; done) | (go_simp; rfl)); (case hp => exact (Reps.one (show Kd.FK (Kd.slice 2 (Kd.int .i64)) _ _ l1 [.slice A1 l1.length c1] from (Kd.FK_slice_mk (Kd.V_reads' (Kd.V_mono (ok' := (fun k_ => (P1_ k_ ∨ w.heap.size ≤ k_) ∧ k_ ≠ gb362)) (HO1.out) (fun k_ hk => ⟨hk.1, hk.2⟩))).2.1 (Kd.V_F (Kd.V_mono (ok' := (fun k_ => (P1_ k_ ∨ w.heap.size ≤ k_) ∧ k_ ≠ gb362)) (HO1.out) (fun k_ hk => ⟨hk.1, hk.2⟩))))) (Reps.none _ _))); intro v364 w6 ho7 hb hg_ hnew_; clear hg_ hnew_; (first | rw [← Ny363.out] at ho7 | (simp only [Int.reduceToNat] at ho7; rw [← Ny363.out] at ho7)); replace HO1 := ak (Kd.V_elder' (vV HO1.out) (Kd.N_base ho7) hb); have HO365 := ak (Kd.N_lower ho7 (below_size (vb HB.out))); replace BK362 := kb BK362 hb; replace HB := bs HB hb; clear hb ho7))
  go_ret
  exact ⟨_, ew, vN (Kd.N_mono HO365.out (fun _ hk => hk.1)), vb HB.out⟩
 ·rw [if_neg c3] at H; obtain ⟨c3b0, c3b1⟩ := bqf c3; have c3b2 : (l1.length == l0_2.length) = false := by first | simpa using c3 | (simp at c3 ⊢; omega)
  have H' := ak H; clear H; go_enter Try.func62, Try.ntmps62; go_wp2_with (first | ((with_reducible refine gate_dst (N := 2) rfl ?_); refine bx 2 (f5 A0_0 l0_0 c0_0 A0_1 l0_1 c0_1 A0_2 l0_2 c0_2 A0_3 l0_3 c0_3 A0_4 l0_4 c0_4 a0_5) 33 ?_; intro gb362 hg w8 hbox hb; replace HO1 := ak (Kd.V_below (Kd.V_elderB (vV HO1.out) gb362 (Nat.le_of_eq hg.symm)) hb); have BK362 := ak hbox; have GW362 := gw hg HB; have GE362 := gw hg HB; replace HB := bs HB hb; clear hb hbox hg; have hcz9 := cz6 BK362.out))
  go_loopg [6, 20] k (fun kq v6 v20 w' => ∃ (x6_1 : List (List Int)) (x20_1 : Int), v20 = .int .i64 x20_1 ∧ Aside0 (impl_placings.l0 kq l1 (l1.length : Int) x6_1 (l0_3.length : Int) x20_1 l0_0 l0_1 l0_2 l0_3 l0_4 a0_5 = some r) ∧ Aside0 (kq ≤ k) ∧ Aside0 (Kd.V (Kd.int .i64) 2 w' w.heap.size (fun k_ => (P1_ k_ ∨ w.heap.size ≤ k_) ∧ some k_ ≠ (v6 : Value).ownBlock ∧ k_ ≠ gb362) (.slice A1 l1.length c1) l1) ∧ Aside0 (Kd.N (Kd.slice 2 (Kd.int .i64)) 24 w' w.heap.size (fun k_ => (P1_ k_ ∨ w.heap.size ≤ k_) ∧ k_ ≠ gb362) v6 x6_1) ∧ Aside0 (w'.heap[gb362]? = some (.cells (f5 A0_0 l0_0 c0_0 A0_1 l0_1 c0_1 A0_2 l0_2 c0_2 A0_3 l0_3 c0_3 A0_4 l0_4 c0_4 a0_5) 33 (0, 0))) ∧ Aside0 (Below w.heap.size w w'))
  case atStart => exact ⟨(([] : List (List Int))), (0), es, H', ⟨Nat.le_refl _⟩, ⟨by (with_reducible repeat (first | apply Kd.V_alloc | apply Kd.V_drewN | apply Kd.V_drew)); exact Kd.V_mono HO1.out (fun _ hk => ⟨hk.1, ⟨(by simp [Value.ownBlock]), hk.2⟩⟩)⟩, ⟨by first | exact Kd.S_nil _ _ _ _ _ | exact Kd.N_nil _ _ _ _ _ | exact Kd.V_nil _ _ _ _ _ | exact Kd.Q_nil _ _ _ _ _ | exact Kd.R_nil _ _ _ _ _⟩, ⟨vk BK362.out⟩, ⟨vb HB.out⟩⟩
  case round =>
   clear H'; obtain ⟨x6_1, x20_1, rfl, HA, HK1, HO_1, HO_6, BK362, HB⟩ := hrel
   cases gk with
   | zero => exact absurd HA.out (by simp [impl_placings.l0])
   | succ k1 =>
    have H := HA.out; clear HA; simp only [impl_placings.l0] at H
    by_cases c10 : x20_1 < (l0_3.length : Int)
    ·rw [if_pos c10] at H; have c10b0 := decide_eq_true c10; clear c10; obtain ⟨t366, A11, H⟩ := bnk H; by_cases c12 : t366 = true
     ·subst c12; rw [if_pos rfl] at H; obtain ⟨t367, A13, H⟩ := bnk H; obtain ⟨y370, Ny370, H⟩ := bnE H; by_cases c14 : t367.length + y370.length < 17592186044416
      ·rw [if_pos c14] at H; have LMc14 := ak c14; clear c14; obtain ⟨y373, hy373⟩ := gen_ ((t367 ++ y370 : List Int)); rw [← hy373] at H; have Ny373 := ak hy373; clear hy373; obtain ⟨t376, A15, H⟩ := bnk H; by_cases c16 : x6_1.length + t376.length < 5864062014805
       ·rw [if_pos c16] at H; have LMc16 := ak c16; clear c16; obtain ⟨y379, hy379⟩ := gen_ ((x6_1 ++ t376 : List (List Int))); rw [← hy379] at H; have Ny379 := ak hy379; clear hy379; have H' := ak H; clear H; have hcz17 := cz6 BK362.out; (try go_wp2_with (first | ((with_reducible refine at_fn (f := 113) rfl ?_); refine gl (some 27) Try.func113 #[.agg (f5 A0_0 l0_0 c0_0 A0_1 l0_1 c0_1 A0_2 l0_2 c0_2 A0_3 l0_3 c0_3 A0_4 l0_4 c0_4 a0_5), .slice A1 l1.length c1, .int .i64 (l1.length : Int), .int .i64 x20_1] ?_; (with_reducible refine (impl_isFree.calls k1 _ _ l0_0 _ _ l0_1 _ _ l0_2 _ _ l0_3 _ _ l0_4 a0_5 _ _ l1 (l1.length : Int) x20_1 _ _ ?_ HC0_0.out ?_ HC0_1.out ?_ HC0_2.out ?_ HC0_3.out ?_ HC0_4.out ?_ ?_ A11.out).mono ?_); exact vd HR0_0.out HB.out; exact vd HR0_1.out HB.out; exact vd HR0_2.out HB.out; exact vd HR0_3.out HB.out; exact vd HR0_4.out HB.out; exact vc (Kd.V_reads' HO_1.out).2.2; exact (Kd.V_reads' HO_1.out).2.1; rintro e w18 ⟨rfl, hb⟩; refine ⟨_, rfl, ?_⟩; replace HO_1 := ak (Kd.V_below (vV HO_1.out) hb); replace HO_6 := ak (Kd.N_below (vN HO_6.out) hb); replace BK362 := kb BK362 hb; replace HB := bs HB hb; (try clear hb); obtain ⟨Ao19, co19, eo19⟩ := Kd.N_slice HO_6.out; subst eo19)))
        replace HO_1 := ak (Kd.V_drew HO_1.out); replace HO_6 := ak (Kd.N_drew HO_6.out); replace BK362 := ak (blk_drew BK362.out); replace HB := ak (below_drew1 HB.out); refine start_ (n := 10) (S := fun w' => w'.cell? ⟨gb362, 0, none⟩ = some (.slice A0_0 l0_0.length c0_0) ∧ w'.cell? ⟨gb362, 1, none⟩ = some (.slice A0_1 l0_1.length c0_1) ∧ w'.cell? ⟨gb362, 2, none⟩ = some (.slice A0_2 l0_2.length c0_2) ∧ w'.cell? ⟨gb362, 3, none⟩ = some (.slice A0_3 l0_3.length c0_3) ∧ w'.cell? ⟨gb362, 4, none⟩ = some (.slice A0_4 l0_4.length c0_4) ∧ w'.cell? ⟨gb362, 5, none⟩ = some (.int .i64 a0_5)) (ds := []) (tf 0 10) (by kernel_rfl) rfl rfl (cy6 BK362.out) (fun hHeld => ?_); refine with_tabW impl_placings.tab9 impl_placings.bits9 (fun HT_ HW_ => ?_); generalize w18.drew = w20 at HO_1 HO_6 BK362 HB hHeld ⊢; refine pu_ 0 28 (tf 1 9) rfl rfl ?_; refine pu_ 2 30 (tM [1, 1, 1, 7]) rfl rfl ?_; refine pu_ 4 32 (tM [1, 1, 1, 1, 1, 5]) rfl rfl ?_; refine ta6_ 1 29 (tM [3, 1, 1, 5]) rfl rfl ?_; refine join_ (σ := Value × Value) 4 (tf 6 4) (fun s_ => [(31, s_.1), (33, s_.2)]) (fun s_ w' => (w'.cell? ⟨gb362, 0, none⟩ = some (.slice A0_0 l0_0.length c0_0) ∧ w'.cell? ⟨gb362, 1, none⟩ = some (.slice A0_1 l0_1.length c0_1) ∧ w'.cell? ⟨gb362, 2, none⟩ = some (.slice A0_2 l0_2.length c0_2) ∧ w'.cell? ⟨gb362, 3, none⟩ = some (.slice A0_3 l0_3.length c0_3) ∧ w'.cell? ⟨gb362, 4, none⟩ = some (.slice A0_4 l0_4.length c0_4) ∧ w'.cell? ⟨gb362, 5, none⟩ = some (.int .i64 a0_5)) ∧ (Kd.R (Kd.int .i64) 2 w' w.heap.size (fun k_ => (w.heap.size ≤ k_) ∧ some k_ ≠ (s_.2 : Value).ownBlock) s_.1 t367) ∧ (Kd.R (Kd.int .i64) 2 w' w.heap.size (fun k_ => (w.heap.size ≤ k_) ∧ some k_ ≠ (s_.1 : Value).ownBlock) s_.2 y370) ∧ (Kd.V (Kd.int .i64) 2 w' w.heap.size (fun k_ => (P1_ k_ ∨ w.heap.size ≤ k_) ∧ some k_ ≠ (s_.1 : Value).ownBlock ∧ some k_ ≠ (s_.2 : Value).ownBlock ∧ some k_ ≠ (.slice Ao19 x6_1.length co19 : Value).ownBlock ∧ k_ ≠ gb362) (.slice A1 l1.length c1) l1) ∧ (Kd.N (Kd.slice 2 (Kd.int .i64)) 24 w' w.heap.size (fun k_ => (P1_ k_ ∨ w.heap.size ≤ k_) ∧ some k_ ≠ (s_.1 : Value).ownBlock ∧ some k_ ≠ (s_.2 : Value).ownBlock ∧ k_ ≠ gb362) (.slice Ao19 x6_1.length co19) x6_1) ∧ (w'.heap[gb362]? = some (.cells (f5 A0_0 l0_0 c0_0 A0_1 l0_1 c0_1 A0_2 l0_2 c0_2 A0_3 l0_3 c0_3 A0_4 l0_4 c0_4 a0_5) 33 (0, 0))) ∧ (Below w.heap.size w w')) ?_ ?_
        rotate_left
        ·intro hCont; refine two_ (i := 3) (j := 5) (Ni := some 31) (Nj := some 33) (tf 5 5) (tM [3, 1, 2, 4]) rfl rfl rfl rfl (two_of HT_.out (by kernel_rfl)) (by decide) (by decide) (fun K hK => ?_) (fun K hK => ?_)
         ·skip
          refine goes_ Try.func91 (by kernel_rfl) rfl #[.slice A1 l1.length c1] (by rfl) rfl rfl (by (try simp only [List.map_toArray, List.map_cons, List.map_nil]); first | done | rfl | (simp only [List.length_drop, List.length_take]; rfl)) ?_; with_reducible refine (impl_copyList.calls _ _ l1 t367 _ ?_ ?_ A13.out).mono ?_
          exact vc (Kd.V_reads' HO_1.out).2.2
          exact (Kd.V_reads' HO_1.out).2.1
          rintro e w21 ⟨v368, rfl, ho0, hb⟩; refine ⟨_, rfl, ?_⟩; replace HO_1 := ak (Kd.V_elder' (vV HO_1.out) (Kd.R_base ho0) hb); replace HO_6 := ak (Kd.N_elder' (vN HO_6.out) (Kd.R_base ho0) hb); have HO369 := ak (Kd.R_lower (Kd.R_newM (M := fun k_ => (w.heap.size ≤ k_)) ho0 (below_size (vb HB.out)) (fun k_ h_ => h_)) (below_size (vb HB.out))); replace BK362 := kb BK362 hb; replace HB := bs HB hb; (try clear hb)
          (try clear hb2)
          (try clear hk)
          (try clear hi)
          (try clear ho0)
          refine hK.out _ _ (cy6 BK362.out) (fun hHeld => ?_); clear hK K; refine norm_ (a' := ?_) ?_ ?_
          rotate_left
          ·show Act.put _ (some 31) _ = _
           simp only [Act.put, List.setIfInBounds_toArray, List.set_cons_zero, List.set_cons_succ, i64_w, i32_w]
           rfl
          refine one_ (i := 5) (N := some 33) (tf 6 4) rfl rfl (one_of HT_.out (by kernel_rfl)) (by decide) (fun K hK => ?_); refine Kd.R_lit_step (Kd.int .i64) _ 2 ?hg (N := 33) ?hd (xs := ([x20_1] : List Int)) (inner := [.int .i64 x20_1]) (ok := fun _ => True) (okp := fun _ => True) ?hr ?hp (fun _ hk => hk) trivial (Below.refl _ _) (Nat.le_refl _) (by simp) ?_; (case hd => rfl); (case hg => rfl); (case hr => first | (go_simp; done) | (go_simp; rfl)); (case hp => exact (Reps.one (show Kd.M (Kd.int .i64) _ _ _ x20_1 [.int .i64 x20_1] from rfl) (Reps.none _ _))); intro v371 w22 ho23 hb hg_ hnew_; clear hg_ hnew_; (first | rw [← Ny370.out] at ho23 | (simp only [Int.reduceToNat] at ho23; rw [← Ny370.out] at ho23))
          replace HO_1 := ak (Kd.V_elder' (vV HO_1.out) (Kd.R_base ho23) hb); replace HO_6 := ak (Kd.N_elder' (vN HO_6.out) (Kd.R_base ho23) hb); have HO372 := ak (Kd.R_lower (Kd.R_new' (Kd.R_newM (M := fun k_ => (w.heap.size ≤ k_)) ho23 (below_size (vb HB.out)) (fun k_ h_ => h_)) (Kd.R_lt (vr HO369.out))) (below_size (vb HB.out))); replace HO369 := ak (Kd.R_elder' (vr HO369.out) (Kd.R_base ho23) hb); replace BK362 := kb BK362 hb; replace HB := bs HB hb; clear hb ho23; refine hK.out _ _ (cy6 BK362.out) (fun hHeld => ?_); clear hK K; refine norm_ (a' := ?_) ?_ ?_
          rotate_left
          ·show Act.put _ (some 33) _ = _
           simp only [Act.put, List.setIfInBounds_toArray, List.set_cons_zero, List.set_cons_succ, i64_w, i32_w]
           rfl
          exact norm_ (by simp only [putAll, Act.put, List.setIfInBounds_toArray, List.set_cons_zero, List.set_cons_succ]) (hCont (v368, v371) _ ⟨hHeld, (vr (Kd.R_mono HO369.out (fun _ hk => ⟨hk.1.1, hk.2⟩))), (vr (Kd.R_mono HO372.out (fun _ hk => ⟨hk.1.1, hk.2⟩))), (by (with_reducible repeat (first | apply Kd.V_alloc | apply Kd.V_drewN | apply Kd.V_drew)); exact Kd.V_mono HO_1.out (fun _ hk => ⟨hk.1.1.1, ⟨hk.1.2, ⟨hk.2, ⟨hk.1.1.2.1, hk.1.1.2.2⟩⟩⟩⟩)), (vN (Kd.N_mono HO_6.out (fun _ hk => ⟨hk.1.1.1, ⟨hk.1.2, ⟨hk.2, hk.1.1.2⟩⟩⟩))), (vk BK362.out), (vb HB.out)⟩)
         ·skip
          refine Kd.R_lit_step (Kd.int .i64) _ 2 ?hg (N := 33) ?hd (xs := ([x20_1] : List Int)) (inner := [.int .i64 x20_1]) (ok := fun _ => True) (okp := fun _ => True) ?hr ?hp (fun _ hk => hk) trivial (Below.refl _ _) (Nat.le_refl _) (by simp) ?_; (case hd => rfl); (case hg => rfl); (case hr => first | (go_simp; done) | (go_simp; rfl)); (case hp => exact (Reps.one (show Kd.M (Kd.int .i64) _ _ _ x20_1 [.int .i64 x20_1] from rfl) (Reps.none _ _))); intro v371 w21 ho22 hb hg_ hnew_; clear hg_ hnew_; (first | rw [← Ny370.out] at ho22 | (simp only [Int.reduceToNat] at ho22; rw [← Ny370.out] at ho22))
          replace HO_1 := ak (Kd.V_elder' (vV HO_1.out) (Kd.R_base ho22) hb); replace HO_6 := ak (Kd.N_elder' (vN HO_6.out) (Kd.R_base ho22) hb); have HO372 := ak (Kd.R_lower (Kd.R_newM (M := fun k_ => (w.heap.size ≤ k_)) ho22 (below_size (vb HB.out)) (fun k_ h_ => h_)) (below_size (vb HB.out))); replace BK362 := kb BK362 hb; replace HB := bs HB hb; clear hb ho22; refine hK.out _ _ (cy6 BK362.out) (fun hHeld => ?_); clear hK K; refine norm_ (a' := ?_) ?_ ?_
          rotate_left
          ·show Act.put _ (some 33) _ = _
           simp only [Act.put, List.setIfInBounds_toArray, List.set_cons_zero, List.set_cons_succ, i64_w, i32_w]
           rfl
          refine one_ (i := 3) (N := some 31) (tf 6 4) rfl rfl (one_of HT_.out (by kernel_rfl)) (by decide) (fun K hK => ?_); refine goes_ Try.func91 (by kernel_rfl) rfl #[.slice A1 l1.length c1] (by rfl) rfl rfl (by (try simp only [List.map_toArray, List.map_cons, List.map_nil]); first | done | rfl | (simp only [List.length_drop, List.length_take]; rfl)) ?_; with_reducible refine (impl_copyList.calls _ _ l1 t367 _ ?_ ?_ A13.out).mono ?_
          exact vc (Kd.V_reads' HO_1.out).2.2
          exact (Kd.V_reads' HO_1.out).2.1
          rintro e w23 ⟨v368, rfl, ho0, hb⟩; refine ⟨_, rfl, ?_⟩; replace HO_1 := ak (Kd.V_elder' (vV HO_1.out) (Kd.R_base ho0) hb); replace HO_6 := ak (Kd.N_elder' (vN HO_6.out) (Kd.R_base ho0) hb); have HO369 := ak (Kd.R_lower (Kd.R_new' (Kd.R_newM (M := fun k_ => (w.heap.size ≤ k_)) ho0 (below_size (vb HB.out)) (fun k_ h_ => h_)) (Kd.R_lt (vr HO372.out))) (below_size (vb HB.out))); replace HO372 := ak (Kd.R_elder' (vr HO372.out) (Kd.R_base ho0) hb); replace BK362 := kb BK362 hb; replace HB := bs HB hb; (try clear hb)
          (try clear hb2)
          (try clear hk)
          (try clear hi)
          (try clear ho0)
          refine hK.out _ _ (cy6 BK362.out) (fun hHeld => ?_); clear hK K; refine norm_ (a' := ?_) ?_ ?_
          rotate_left
          ·show Act.put _ (some 31) _ = _
           simp only [Act.put, List.setIfInBounds_toArray, List.set_cons_zero, List.set_cons_succ, i64_w, i32_w]
           rfl
          exact norm_ (by simp only [putAll, Act.put, List.setIfInBounds_toArray, List.set_cons_zero, List.set_cons_succ]) (hCont (v368, v371) _ ⟨hHeld, (vr (Kd.R_mono HO369.out (fun _ hk => ⟨hk.1.1, hk.2⟩))), (vr (Kd.R_mono HO372.out (fun _ hk => ⟨hk.1.1, hk.2⟩))), (by (with_reducible repeat (first | apply Kd.V_alloc | apply Kd.V_drewN | apply Kd.V_drew)); exact Kd.V_mono HO_1.out (fun _ hk => ⟨hk.1.1.1, ⟨hk.2, ⟨hk.1.2, ⟨hk.1.1.2.1, hk.1.1.2.2⟩⟩⟩⟩)), (vN (Kd.N_mono HO_6.out (fun _ hk => ⟨hk.1.1.1, ⟨hk.2, ⟨hk.1.2, hk.1.1.2⟩⟩⟩))), (vk BK362.out), (vb HB.out)⟩)
        rintro ⟨v368, v371⟩ w24 ⟨hS_, h0_, h1_, h2_, h3_, h4_, h5_⟩; have n0_ : Aside0 (Kd.R (Kd.int .i64) 2 w24 w.heap.size (fun k_ => (w.heap.size ≤ k_) ∧ some k_ ≠ (v371 : Value).ownBlock) v368 t367) := ⟨h0_⟩; have n1_ : Aside0 (Kd.R (Kd.int .i64) 2 w24 w.heap.size (fun k_ => (w.heap.size ≤ k_) ∧ some k_ ≠ (v368 : Value).ownBlock) v371 y370) := ⟨h1_⟩; have n2_ : Aside0 (Kd.V (Kd.int .i64) 2 w24 w.heap.size (fun k_ => (P1_ k_ ∨ w.heap.size ≤ k_) ∧ some k_ ≠ (v368 : Value).ownBlock ∧ some k_ ≠ (v371 : Value).ownBlock ∧ some k_ ≠ (.slice Ao19 x6_1.length co19 : Value).ownBlock ∧ k_ ≠ gb362) (.slice A1 l1.length c1) l1) := ⟨h2_⟩; have n3_ : Aside0 (Kd.N (Kd.slice 2 (Kd.int .i64)) 24 w24 w.heap.size (fun k_ => (P1_ k_ ∨ w.heap.size ≤ k_) ∧ some k_ ≠ (v368 : Value).ownBlock ∧ some k_ ≠ (v371 : Value).ownBlock ∧ k_ ≠ gb362) (.slice Ao19 x6_1.length co19) x6_1) := ⟨h3_⟩; have n4_ : Aside0 (w24.heap[gb362]? = some (.cells (f5 A0_0 l0_0 c0_0 A0_1 l0_1 c0_1 A0_2 l0_2 c0_2 A0_3 l0_3 c0_3 A0_4 l0_4 c0_4 a0_5) 33 (0, 0))) := ⟨h4_⟩; have n5_ : Aside0 (Below w.heap.size w w24) := ⟨h5_⟩; clear HO_1; clear HO_6; clear BK362; clear HB; clear h0_ h1_ h2_ h3_ h4_ h5_; have HO369 := n0_; have HO372 := n1_; have HO_1 := n2_; have HO_6 := n3_; have BK362 := n4_; have HB := n5_; clear n0_ n1_ n2_ n3_ n4_ n5_; have hHeld : w24.cell? ⟨gb362, 0, none⟩ = some (.slice A0_0 l0_0.length c0_0) ∧ w24.cell? ⟨gb362, 1, none⟩ = some (.slice A0_1 l0_1.length c0_1) ∧ w24.cell? ⟨gb362, 2, none⟩ = some (.slice A0_2 l0_2.length c0_2) ∧ w24.cell? ⟨gb362, 3, none⟩ = some (.slice A0_3 l0_3.length c0_3) ∧ w24.cell? ⟨gb362, 4, none⟩ = some (.slice A0_4 l0_4.length c0_4) ∧ w24.cell? ⟨gb362, 5, none⟩ = some (.int .i64 a0_5) := hS_
        obtain ⟨Ao26, co26, eo26⟩ := Kd.R_slice HO372.out; (first | subst eo26 | (injection eo26 with f1_ f2_ f3_; have f4_ := f1_.symm; have f5_ := f3_.symm; clear f1_ f2_ f3_; subst f4_; subst f5_))
        refine norm_ (a' := ?_) ?_ ?_
        rotate_left
        ·simp only [putAll, Act.put, List.setIfInBounds_toArray, List.set_cons_zero, List.set_cons_succ]
         rfl
        refine one_ (i := 6) (N := some 34) (tf 7 3) rfl rfl (one_of HT_.out (by kernel_rfl)) (by decide) (fun K hK => ?_); refine Kd.R_append_rows_step (Kd.int .i64) (w0 := w) w.heap.size (by rfl) (.tmp 31) (.tmp 33) 24 2 (.int .i64 0) 8 rfl Try.underlying24 info2 rfl (by decide) (by omega) v368 t367 y370 _ _ _ (fun k_ => (w.heap.size ≤ k_) ∧ some k_ ≠ (.slice Ao26 y370.length co26 : Value).ownBlock) (fun _ => False) rfl rfl ?aO ?aR (fun _ _ h => h) (fun _ h => h.elim) ?aF ?aB ?aS ?aL ?_; (case aR => exact vc (Kd.R_reads' HO372.out).2.2)
        (case aB => exact (vb HB.out))
        (case aF => exact (fun k_ hk => ⟨(Nat.le_trans (below_size (vb HB.out)) hk), Kd.fresh' (Kd.R_lt (vr HO372.out)) k_ hk⟩))
        (case aO => exact (vr HO369.out))
        (case aS => exact (below_size (vb HB.out)))
        (case aL => have := LMc14.out; omega)
        intro v374 w25 ho hb hg hat; rw [← Ny373.out] at ho; have n0_ := ak (Kd.V_afterv (ok := (fun k_ => (P1_ k_ ∨ w.heap.size ≤ k_) ∧ some k_ ≠ (.slice Ao19 x6_1.length co19 : Value).ownBlock ∧ some k_ ≠ (.slice Ao26 y370.length co26 : Value).ownBlock ∧ k_ ≠ gb362)) (by (with_reducible repeat (first | apply Kd.V_alloc | apply Kd.V_drewN | apply Kd.V_drew)); exact Kd.V_mono HO_1.out (fun _ hk => ⟨⟨hk.1, ⟨hk.2.2.2.1, ⟨hk.2.2.1, hk.2.2.2.2⟩⟩⟩, hk.2.1⟩)) hg hat); have n1_ := ak (Kd.N_afterv (ok := (fun k_ => (P1_ k_ ∨ w.heap.size ≤ k_) ∧ some k_ ≠ (.slice Ao26 y370.length co26 : Value).ownBlock ∧ k_ ≠ gb362)) (vN (Kd.N_mono HO_6.out (fun _ hk => ⟨⟨hk.1, ⟨hk.2.2.1, hk.2.2.2⟩⟩, hk.2.1⟩))) hg hat); have n2_ := ak (blk_grown (g := gb362) (o := .cells (f5 A0_0 l0_0 c0_0 A0_1 l0_1 c0_1 A0_2 l0_2 c0_2 A0_3 l0_3 c0_3 A0_4 l0_4 c0_4 a0_5) 33 (0, 0)) (vk BK362.out) hg (Kd.R_ne HO369.out BK362.out (by decide))); have n3_ := ak (Kd.R_after (ok := (fun k_ => (w.heap.size ≤ k_))) (vr HO372.out) hg hat); have n4_ := ak (hb); have n5_ := ak (ho); clear HO_1; clear HO_6; clear BK362; clear HO372; clear HB; clear HO369; have HO_1 := n0_; have HO_6 := n1_; have BK362 := n2_; have HO372 := n3_; have HB := n4_; have HO375 := n5_; clear n0_ n1_ n2_ n3_ n4_ n5_; clear ho hb hg hat; obtain ⟨Ao27, co27, eo27⟩ := Kd.R_slice HO375.out
        (first | subst eo27 | (injection eo27 with f1_ f2_ f3_; have f4_ := f1_.symm; have f5_ := f3_.symm; clear f1_ f2_ f3_; subst f4_; subst f5_))
        refine hK.out _ _ (cy6 BK362.out) (fun hHeld => ?_); clear hK K; refine norm_ (a' := ?_) ?_ ?_
        rotate_left
        ·show Act.put _ (some 34) _ = _
         simp only [Act.put, List.setIfInBounds_toArray, List.set_cons_zero, List.set_cons_succ, i64_w, i32_w]
         rfl
        refine one_ (i := 7) (N := some 35) (tf 8 2) rfl rfl (one_of HT_.out (by kernel_rfl)) (by decide) (fun K hK => ?_); refine goes_ Try.func62 (by kernel_rfl) rfl #[.agg (f5 A0_0 l0_0 c0_0 A0_1 l0_1 c0_1 A0_2 l0_2 c0_2 A0_3 l0_3 c0_3 A0_4 l0_4 c0_4 a0_5), .slice Ao27 y373.length co27] (by rfl) rfl rfl (by (try simp only [List.map_toArray, List.map_cons, List.map_nil]); first | done | rfl | (simp only [List.length_drop, List.length_take]; rfl)) ?_; with_reducible refine (ih k1 (by have := HK1.out; omega) _ _ l0_0 _ _ l0_1 _ _ l0_2 _ _ l0_3 _ _ l0_4 a0_5 (fun k_ => some k_ = (.slice Ao27 y373.length co27 : Value).ownBlock) _ _ y373 t376 _ ?_ ?_ ?_ ?_ ?_ ?_ ?_ ?_ ?_ ?_ ?_ A15.out).mono ?_
        exact vd HR0_0.out HB.out
        exact HC0_0.out
        exact vd HR0_1.out HB.out
        exact HC0_1.out
        exact vd HR0_2.out HB.out
        exact HC0_2.out
        exact vd HR0_3.out HB.out
        exact HC0_3.out
        exact vd HR0_4.out HB.out
        exact HC0_4.out
        exact Kd.R_V (Kd.R_tight rfl (Kd.R_types (Kd.R_apart' (HO375.out) (Kd.N_typed HO_6.out) (by decide)) BK362.out (by decide)))
        rintro e w28 ⟨v377, rfl, ho0, hb⟩; refine ⟨_, rfl, ?_⟩; replace HO_1 := ak (Kd.V_elder' (vV HO_1.out) (Kd.N_base ho0) hb); have HO378 := ak (Kd.N_lower (Kd.N_mono (ok' := fun k_ => (P1_ k_ ∨ w.heap.size ≤ k_) ∧ some k_ ≠ (.slice Ao19 x6_1.length co19 : Value).ownBlock ∧ some k_ ≠ (.slice Ao26 y370.length co26 : Value).ownBlock ∧ k_ ≠ gb362) ho0 (fun k_ hk_ => ⟨Or.elim hk_ (fun hs_ => (.inr (((Kd.R_types (Kd.R_apart' (HO375.out) (Kd.N_typed HO_6.out) (by decide)) BK362.out (by decide)).1 k_ hs_.symm).1.1.1))) (fun hn_ => (.inr (Nat.le_trans (below_size (vb HB.out)) hn_))), Or.elim hk_ (fun hs_ => ((Kd.R_types (Kd.R_apart' (HO375.out) (Kd.N_typed HO_6.out) (by decide)) BK362.out (by decide)).1 k_ hs_.symm).1.2) (fun hn_ => (Kd.fresh' (Kd.N_lt (vN HO_6.out)) k_ hn_)), Or.elim hk_ (fun hs_ => ((Kd.R_types (Kd.R_apart' (HO375.out) (Kd.N_typed HO_6.out) (by decide)) BK362.out (by decide)).1 k_ hs_.symm).1.1.2) (fun hn_ => (Kd.fresh' (Kd.R_lt (vr HO372.out)) k_ hn_)), Or.elim hk_ (fun hs_ => ((Kd.R_types (Kd.R_apart' (HO375.out) (Kd.N_typed HO_6.out) (by decide)) BK362.out (by decide)).1 k_ hs_.symm).2) (fun hn_ => (Kd.freshB (g := gb362) (o := .cells (f5 A0_0 l0_0 c0_0 A0_1 l0_1 c0_1 A0_2 l0_2 c0_2 A0_3 l0_3 c0_3 A0_4 l0_4 c0_4 a0_5) 33 (0, 0)) (vk BK362.out) k_ hn_))⟩)) (below_size (vb HB.out)))
        replace HO_6 := ak (Kd.N_elder' (vN HO_6.out) (Kd.N_base ho0) hb); replace HO372 := ak (Kd.R_below (vr HO372.out) hb); replace HO375 := ak (Kd.R_below (vr HO375.out) hb); replace BK362 := kb BK362 hb; replace HB := bs HB hb; (try clear hb)
        (try clear hb2)
        (try clear hk)
        (try clear hi)
        (try clear ho0)
        obtain ⟨Ao30, co30, eo30⟩ := Kd.N_slice HO378.out; (first | subst eo30 | (injection eo30 with f1_ f2_ f3_; have f4_ := f1_.symm; have f5_ := f3_.symm; clear f1_ f2_ f3_; subst f4_; subst f5_))
        refine hK.out _ _ (cy6 BK362.out) (fun hHeld => ?_); clear hK K; refine norm_ (a' := ?_) ?_ ?_
        rotate_left
        ·show Act.put _ (some 35) _ = _
         simp only [Act.put, List.setIfInBounds_toArray, List.set_cons_zero, List.set_cons_succ, i64_w, i32_w]
         rfl
        refine one_ (i := 8) (N := some 36) (tf 9 1) rfl rfl (one_of HT_.out (by kernel_rfl)) (by decide) (fun K hK => ?_); refine Kd.N_append_rows_step (Kd.slice 2 (Kd.int .i64)) (w0 := w) w.heap.size (by rfl) (.tmp 28) (.tmp 35) 65 24 (.slice none 0 0) 24 rfl Try.underlying65 info24 rfl (by decide) (by omega) (.slice Ao19 x6_1.length co19) x6_1 t376 _ _ _ (fun k_ => (P1_ k_ ∨ w.heap.size ≤ k_) ∧ some k_ ≠ (.slice Ao26 y370.length co26 : Value).ownBlock ∧ k_ ≠ gb362) (fun k_ => ((fun k_ => (P1_ k_ ∨ w.heap.size ≤ k_) ∧ some k_ ≠ (.slice Ao26 y370.length co26 : Value).ownBlock ∧ k_ ≠ gb362)) k_ ∧ some k_ ≠ (.slice Ao19 x6_1.length co19 : Value).ownBlock) rfl rfl ?aO ?aR (fun _ hk => hk) ?aF ?aB ?aS ?aL ?_; (case aR => exact (by skip; exact Kd.N_F (Kd.N_mono (ok' := (fun k_ => ((fun k_ => (P1_ k_ ∨ w.heap.size ≤ k_) ∧ some k_ ≠ (.slice Ao26 y370.length co26 : Value).ownBlock ∧ k_ ≠ gb362)) k_ ∧ some k_ ≠ (.slice Ao19 x6_1.length co19 : Value).ownBlock)) (HO378.out) (fun k_ hk => ⟨⟨hk.1, ⟨hk.2.2.1, hk.2.2.2⟩⟩, hk.2.1⟩))))
        (case aB => exact (vb HB.out))
        (case aF => exact (fun k_ hk => ⟨(.inr (Nat.le_trans (below_size (vb HB.out)) hk)), Kd.fresh' (Kd.R_lt (vr HO372.out)) k_ hk, Kd.freshB (g := gb362) (o := .cells (f5 A0_0 l0_0 c0_0 A0_1 l0_1 c0_1 A0_2 l0_2 c0_2 A0_3 l0_3 c0_3 A0_4 l0_4 c0_4 a0_5) 33 (0, 0)) (vk BK362.out) k_ hk⟩))
        (case aO => exact (vN (Kd.N_mono HO_6.out (fun _ hk => ⟨hk.1.1.1, ⟨hk.1.1.2.1, hk.1.1.2.2⟩⟩))))
        (case aS => exact (below_size (vb HB.out)))
        (case aL => have := LMc16.out; omega)
        intro v380 w29 ho hb hg hat; rw [← Ny379.out] at ho; have n0_ := ak (Kd.V_afterv (ok := (fun k_ => (P1_ k_ ∨ w.heap.size ≤ k_) ∧ some k_ ≠ (.slice Ao26 y370.length co26 : Value).ownBlock ∧ some k_ ≠ (.slice Ao27 y373.length co27 : Value).ownBlock ∧ some k_ ≠ (.slice Ao30 t376.length co30 : Value).ownBlock ∧ k_ ≠ gb362)) (by (with_reducible repeat (first | apply Kd.V_alloc | apply Kd.V_drewN | apply Kd.V_drew)); exact Kd.V_mono HO_1.out (fun _ hk => ⟨⟨hk.1.1.1, ⟨hk.1.1.2.2.1, ⟨hk.1.2, ⟨hk.2, hk.1.1.2.2.2⟩⟩⟩⟩, hk.1.1.2.1⟩)) hg hat); have n1_ := ak (blk_grown (g := gb362) (o := .cells (f5 A0_0 l0_0 c0_0 A0_1 l0_1 c0_1 A0_2 l0_2 c0_2 A0_3 l0_3 c0_3 A0_4 l0_4 c0_4 a0_5) 33 (0, 0)) (vk BK362.out) hg (Kd.N_ne HO_6.out BK362.out (by decide))); have n2_ := ak (Kd.R_over' (vr HO372.out) (Kd.N_typed (vN HO_6.out)) (by decide) hg); have n3_ := ak (Kd.R_over' (vr HO375.out) (Kd.N_typed (vN HO_6.out)) (by decide) hg); have n4_ := ak (Kd.N_afterv (ok := (fun k_ => (P1_ k_ ∨ w.heap.size ≤ k_) ∧ some k_ ≠ (.slice Ao26 y370.length co26 : Value).ownBlock ∧ k_ ≠ gb362)) (vN (Kd.N_mono HO378.out (fun _ hk => ⟨⟨hk.1, ⟨hk.2.2.1, hk.2.2.2⟩⟩, hk.2.1⟩))) hg hat)
        have n5_ := ak (hb); have n6_ := ak (ho); clear HO_1; clear BK362; clear HO372; clear HO375; clear HO378; clear HB; clear HO_6; have HO_1 := n0_; have BK362 := n1_; have HO372 := n2_; have HO375 := n3_; have HO378 := n4_; have HB := n5_; have HO381 := n6_; clear n0_ n1_ n2_ n3_ n4_ n5_ n6_; clear ho hb hg hat; refine hK.out _ _ (cy6 BK362.out) (fun hHeld => ?_); clear hK K; refine norm_ (a' := ?_) ?_ ?_
        rotate_left
        ·show Act.put _ (some 36) _ = _
         simp only [Act.put, List.setIfInBounds_toArray, List.set_cons_zero, List.set_cons_succ, i64_w, i32_w]
         rfl
        refine pu_ 9 6 (tf 10 0) rfl rfl ?_; refine done_ (done_of HT_.out (by kernel_rfl)) ?_; (try go_wp2)
        go_roundg k1
        case measure => have := HK1.out; omega
        case rel => exact ⟨(y379), (wrap64 (x20_1 + 1)), es, H', ⟨by have := HK1.out; omega⟩, ⟨by (with_reducible repeat (first | apply Kd.V_alloc | apply Kd.V_drewN | apply Kd.V_drew)); exact Kd.V_mono HO_1.out (fun _ hk => ⟨hk.1.1, ⟨hk.2, hk.1.2.2.2.2⟩⟩)⟩, ⟨vN (Kd.N_mono HO381.out (fun _ hk => ⟨hk.1, hk.2.2⟩))⟩, ⟨vk BK362.out⟩, ⟨vb HB.out⟩⟩
       ·exact nO_ c16 H
      ·exact nO_ c14 H
     ·replace c12 := Bool.eq_false_iff.mpr c12; subst c12; rw [if_neg nf] at H; have H' := ak H; clear H; have hcz31 := cz6 BK362.out; go_wp2_with (first | ((with_reducible refine at_fn (f := 113) rfl ?_); refine gl (some 27) Try.func113 #[.agg (f5 A0_0 l0_0 c0_0 A0_1 l0_1 c0_1 A0_2 l0_2 c0_2 A0_3 l0_3 c0_3 A0_4 l0_4 c0_4 a0_5), .slice A1 l1.length c1, .int .i64 (l1.length : Int), .int .i64 x20_1] ?_; (with_reducible refine (impl_isFree.calls k1 _ _ l0_0 _ _ l0_1 _ _ l0_2 _ _ l0_3 _ _ l0_4 a0_5 _ _ l1 (l1.length : Int) x20_1 _ _ ?_ HC0_0.out ?_ HC0_1.out ?_ HC0_2.out ?_ HC0_3.out ?_ HC0_4.out ?_ ?_ A11.out).mono ?_); exact vd HR0_0.out HB.out; exact vd HR0_1.out HB.out; exact vd HR0_2.out HB.out; exact vd HR0_3.out HB.out; exact vd HR0_4.out HB.out; exact vc (Kd.V_reads' HO_1.out).2.2; exact (Kd.V_reads' HO_1.out).2.1; rintro e w32 ⟨rfl, hb⟩; refine ⟨_, rfl, ?_⟩; replace HO_1 := ak (Kd.V_below (vV HO_1.out) hb); replace HO_6 := ak (Kd.N_below (vN HO_6.out) hb); replace BK362 := kb BK362 hb; replace HB := bs HB hb; (try clear hb)))
      go_roundg k1
      case measure => have := HK1.out; omega
      case rel => exact ⟨(x6_1), (wrap64 (x20_1 + 1)), es, H', ⟨by have := HK1.out; omega⟩, ⟨vV HO_1.out⟩, ⟨vN HO_6.out⟩, ⟨vk BK362.out⟩, ⟨vb HB.out⟩⟩
    ·rw [if_neg c10] at H; have c10b0 := decide_eq_false c10; clear c10; obtain rfl := sj H; go_wp2
     go_ret
     exact ⟨_, ew, vN (Kd.N_mono HO_6.out (fun _ hk => hk.1)), vb HB.out⟩


end Go.Proofs.Ytancnecddlbhkaa.Pall
