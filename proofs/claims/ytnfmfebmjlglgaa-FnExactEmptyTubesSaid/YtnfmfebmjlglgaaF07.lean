/- Go functions of the program, each as a Lean function, and the proof that each call comes to what the Lean function tells; no condition beyond those that stand there. -/
import Derived.Test.YtnfmfebmjlglgaaF00
import Derived.Test.YtnfmfebmjlglgaaF06
import Derived.Test.YtnfmfebmjlglgaaSpare
import Derived.Test.YtnfmfebmjlglgaaCm
namespace Go.Proofs.Ytnfmfebmjlglgaa.Pall
open Go.RowKit Go.Proofs.YtnfmfebmjlglgaaW.PrintWords
set_option linter.unusedVariables false
set_option linter.unusedSimpArgs false

/-! ### impl_EmptyTubes: function 17 -/
def impl_EmptyTubes.l0 : Nat → List Int → List ByteArray → Int → Int → Option (List Int × Int)
 | 0, _, _, _, _ => none
 | k + 1, x6, x14, x15, x16 => if x16 < x15 then (if 0 ≤ x16 then (if x16 < (x14.length : Int) then (if (rdOf ByteArray.empty x14 x16).toList = ([] : List UInt8) then (if x6.length < 17592186044416 then (impl_EmptyTubes.l0 k (x6 ++ [x16]) x14 x15 (wrap64 (x16 + 1))) else (none)) else (impl_EmptyTubes.l0 k x6 x14 x15 (wrap64 (x16 + 1)))) else (none)) else (none)) else (some (x6, 0))
def impl_EmptyTubes.f (k : Nat) (l0 : List (S67)) (a1_0 : Int) (a1_1 : Int) (l1_2 : List Int) (l1_3 : List ByteArray) : Option (List Int × Int) := (impl_IsRack.f k l0 a1_0 a1_1 l1_2 l1_3).bind fun t243 => (if t243 = true then (impl_EmptyTubes.l0 k ([] : List Int) l1_3 (l1_3.length : Int) 0) else (some (([] : List Int), 1)))
theorem impl_EmptyTubes.mono_l : ∀ k, (∀ y0 y1 y2 y3, LeO (impl_EmptyTubes.l0 k y0 y1 y2 y3) (impl_EmptyTubes.l0 (k + 1) y0 y1 y2 y3))
 | 0 => fun _ _ _ _ r h => by simp [impl_EmptyTubes.l0] at h
 | k + 1 => by
  have ih0 := impl_EmptyTubes.mono_l k
  ·intro y0 y1 y2 y3; unfold impl_EmptyTubes.l0
   repeat' first
   | (with_reducible exact ih0 _ _ _ _)
   | (with_reducible exact impl_IsRack.mono _ _ _ _ _ _)
   | (with_reducible exact LeO.refl _)
   | (with_reducible exact LeO.none _)
   | (with_reducible refine LeO.ite ?_ ?_)
   | (with_reducible refine LeO.bind ?_ (fun _ => ?_))
   | exact ih0 _ _ _ _
   | exact impl_IsRack.mono _ _ _ _ _ _
   | exact LeO.none _
   | refine LeO.ite ?_ ?_
   | refine LeO.bind ?_ (fun _ => ?_)
theorem impl_EmptyTubes.mono : ∀ a0 a1 a2 a3 a4 k, LeO (impl_EmptyTubes.f k a0 a1 a2 a3 a4) (impl_EmptyTubes.f (k + 1) a0 a1 a2 a3 a4) := by
 intro a0 a1 a2 a3 a4 k; have ih0 := impl_EmptyTubes.mono_l k; unfold impl_EmptyTubes.f
 repeat' first
   | (with_reducible exact ih0 _ _ _ _)
   | (with_reducible exact impl_IsRack.mono _ _ _ _ _ _)
   | (with_reducible exact LeO.refl _)
   | (with_reducible exact LeO.none _)
   | (with_reducible refine LeO.ite ?_ ?_)
   | (with_reducible refine LeO.bind ?_ (fun _ => ?_))
   | exact ih0 _ _ _ _
   | exact impl_IsRack.mono _ _ _ _ _ _
   | exact LeO.none _
   | refine LeO.ite ?_ ?_
   | refine LeO.bind ?_ (fun _ => ?_)
set_option maxHeartbeats 8000000 in
set_option maxRecDepth 100000 in
theorem impl_EmptyTubes.calls (k : Nat) (A0 : Option Addr) (c0 : Nat) (l0 : List (S67)) (a1_0 : Int) (a1_1 : Int) (A1_2 : Option Addr) (c1_2 : Nat) (l1_2 : List Int) (A1_3 : Option Addr) (c1_3 : Nat) (l1_3 : List ByteArray) (r1 : List Int) (r2 : Int) (w : World) (hr0 : Kd.C k67 w A0 l0.length l0) (hc0 : l0.length ≤ c0) (hr1_2 : Kd.C (Kd.int .i64) w A1_2 l1_2.length l1_2) (hc1_2 : l1_2.length ≤ c1_2) (hr1_3 : Kd.C Kd.string w A1_3 l1_3.length l1_3) (hc1_3 : l1_3.length ≤ c1_3) (h : impl_EmptyTubes.f k l0 a1_0 a1_1 l1_2 l1_3 = some (r1, r2)) :
  Calls Try.prog 17 #[.slice A0 l0.length c0, .agg #[.int .i64 a1_0, .int .i64 a1_1, .slice A1_2 l1_2.length c1_2, .slice A1_3 l1_3.length c1_3]] w fun e w' => ∃ v0_ : Value, e = .returned (.tuple #[v0_, .int .i64 r2]) ∧ Kd.R (Kd.int .i64) 2 w' w.heap.size (fun _ => True) v0_ r1 ∧ Below w.heap.size w w' := by
 have hu33 := Try.underlying33; have HR0 := Aside0.mk hr0; have HC0 := Aside0.mk hc0; clear hr0 hc0; have HR1_2 := Aside0.mk hr1_2; have HC1_2 := Aside0.mk hc1_2; clear hr1_2 hc1_2; have HR1_3 := Aside0.mk hr1_3; have HC1_3 := Aside0.mk hc1_3; clear hr1_3 hc1_3; have HB := Aside0.mk (Below.refl w.heap.size w); have H : ((impl_IsRack.f k l0 a1_0 a1_1 l1_2 l1_3).bind fun t243 => (if t243 = true then (impl_EmptyTubes.l0 k ([] : List Int) l1_3 (l1_3.length : Int) 0) else (some (([] : List Int), 1)))) = some (r1, r2) := h; clear h; replace H := Option.bind_eq_some_iff.mp H; obtain ⟨t243, A30, H⟩ := H; replace H : (if t243 = true then (impl_EmptyTubes.l0 k ([] : List Int) l1_3 (l1_3.length : Int) 0) else (some (([] : List Int), 1))) = some (r1, r2) := H; have A3 := Aside0.mk A30; clear A30; by_cases c4 : t243 = true
 ·subst c4; have H1 : (impl_EmptyTubes.l0 k ([] : List Int) l1_3 (l1_3.length : Int) 0) = some (r1, r2) := by rw [if_pos rfl] at H; exact H
  clear H; have H := H1; clear H1; have H' := Aside0.mk H; clear H; go_enter Try.func17, Try.ntmps17; go_wp2_with (first | ((with_reducible refine gate_dst (N := 3) rfl ?_); refine bx 3 #[.int .i64 a1_0, .int .i64 a1_1, .slice A1_2 l1_2.length c1_2, .slice A1_3 l1_3.length c1_3] 33 ?_; intro gb242 hg w5 hbox hb; have BK242 := Aside0.mk (hbox); have GW242 := Aside0.mk ((by rw [hg]; exact (below_size (vb HB.out)) : w.heap.size ≤ gb242)); have GE242 := Aside0.mk ((by rw [hg]; exact (below_size (vb HB.out)) : w.heap.size ≤ gb242)); replace HB := Aside0.mk (below_step (vb HB.out) hb); clear hb hbox hg; obtain ⟨hcz6_0, hcz6_1, hcz6_2, hcz6_3, hfz6_0, hfz6_1, hfz6_2, hfz6_3⟩ := cz4 BK242.out) | ((with_reducible refine at_fn (f := 41) rfl ?_); refine gl (some 11) Try.func41 #[.slice A0 l0.length c0, .agg #[.int .i64 a1_0, .int .i64 a1_1, .slice A1_2 l1_2.length c1_2, .slice A1_3 l1_3.length c1_3]] ?_; (with_reducible refine (impl_IsRack.calls k _ _ l0 a1_0 a1_1 _ _ l1_2 _ _ l1_3 true _ ?side1 ?side2 ?side3 ?side4 ?side5 ?side6 A3.out).mono ?_); (case side1 => exact vd HR0.out HB.out); (case side2 => exact HC0.out); (case side3 => exact vd HR1_2.out HB.out); (case side4 => exact HC1_2.out); (case side5 => exact vd HR1_3.out HB.out); (case side6 => exact HC1_3.out); rintro e w7 ⟨rfl, hb⟩; refine ⟨_, rfl, ?_⟩; replace BK242 := Aside0.mk (blk_below (vk BK242.out) hb); replace HB := Aside0.mk (below_step (vb HB.out) hb); (try clear hb); (try clear hb2); (try clear hk); (try clear hi); obtain ⟨hcz8_0, hcz8_1, hcz8_2, hcz8_3, hfz8_0, hfz8_1, hfz8_2, hfz8_3⟩ := cz4 BK242.out))
  go_loopg [6, 16] k (fun kq v6 v16 w' => ∃ (x6_1 : List Int) (x16_1 : Int), v16 = .int .i64 x16_1 ∧ Aside0 (impl_EmptyTubes.l0 kq x6_1 l1_3 (l1_3.length : Int) x16_1 = some (r1, r2)) ∧ Aside0 (kq ≤ k) ∧ Aside0 (Kd.R (Kd.int .i64) 2 w' w.heap.size (fun _ => True) v6 x6_1) ∧ Aside0 (w'.heap[gb242]? = some (.cells #[.int .i64 a1_0, .int .i64 a1_1, (.slice A1_2 l1_2.length c1_2), (.slice A1_3 l1_3.length c1_3)] 33 (0, 0))) ∧ Aside0 (Below w.heap.size w w'))
  case atStart => exact ⟨(([] : List Int)), (0), (by first | rfl | (simp; done) | (simp [*]; done)), H', ⟨Nat.le_refl _⟩, ⟨by first | exact Kd.R_nil _ _ _ _ _ | exact Kd.N_nil _ _ _ _ _ | exact Kd.V_nil _ _ _ _ _ | exact Kd.Q_nil _ _ _ _ _ | exact Kd.S_nil _ _ _ _ _⟩, ⟨by (with_reducible repeat (first | refine blk_drewN ?_ _ | refine blk_drew ?_ | refine blk_alloc ?_ _)); exact BK242.out⟩, ⟨vb HB.out⟩⟩
  case round =>
   clear H'; (try clear c1); (try clear p2); (try clear c4); (try clear hcz6_0 hcz6_1 hcz6_2 hcz6_3); (try clear hcz8_0 hcz8_1 hcz8_2 hcz8_3); (try clear hfz6_0 hfz6_1 hfz6_2 hfz6_3); (try clear hfz8_0 hfz8_1 hfz8_2 hfz8_3); obtain ⟨x6_1, x16_1, rfl, HA, HK1, HO_6, BK242, HB⟩ := hrel
   cases gk with
   | zero => exact absurd HA.out (by simp [impl_EmptyTubes.l0])
   | succ k1 =>
    have H := HA.out; clear HA; simp only [impl_EmptyTubes.l0] at H
    by_cases c9 : x16_1 < (l1_3.length : Int)
    ·rw [if_pos c9] at H; have c9b0 : decide (x16_1 < (l1_3.length : Int)) = true := decide_eq_true c9; clear c9; by_cases c10 : 0 ≤ x16_1
     ·rw [if_pos c10] at H; have c10b0 : decide (0 ≤ x16_1) = true := decide_eq_true c10; clear c10; by_cases c11 : x16_1 < (l1_3.length : Int)
      ·rw [if_pos c11] at H; have c11b0 : decide (x16_1 < (l1_3.length : Int)) = true := decide_eq_true c11; clear c11; by_cases c12 : (rdOf ByteArray.empty l1_3 x16_1).toList = ([] : List UInt8)
       ·rw [if_pos c12] at H; have c12b0 : ((rdOf ByteArray.empty l1_3 x16_1).toList == ([] : List UInt8)) = true := beq_iff_eq.mpr c12; have c12b1 : ((rdOf ByteArray.empty l1_3 x16_1).toList != ([] : List UInt8)) = false := bne_eq_false_iff_eq.mpr c12; clear c12; by_cases c13 : x6_1.length < 17592186044416
        ·rw [if_pos c13] at H; have LMc13 := Aside0.mk c13; clear c13; obtain ⟨y245, hy245⟩ : ∃ y_ : List Int, y_ = (x6_1 ++ [x16_1]) := ⟨_, rfl⟩; replace H : (impl_EmptyTubes.l0 k1 y245 l1_3 (l1_3.length : Int) (wrap64 (x16_1 + 1))) = some (r1, r2) := by first | (rw [hy245]; with_reducible exact H) | (have H2_ := (Option.bind_some _ _).symm.trans H; rw [hy245]; with_reducible exact H2_) | (have H2_ := (Option.bind_some _ _).symm.trans H; with_reducible exact H2_) | with_reducible exact H | (rw [hy245]; exact H) | exact H
         have Ny245 := Aside0.mk hy245; clear hy245; have H' := Aside0.mk H; clear H; have p244 : 0 ≤ (x16_1 : Int) := od; have q244 : x16_1 < (l1_3.length : Int) := od; obtain ⟨ad244, e244, hx244_0⟩ := Kd.at_string HR1_3.out x16_1 p244 q244
         cases e244; replace hx244_0 := cb HB.out hx244_0; replace p244 := eq_true p244; replace q244 := eq_true q244; go_wp2_with (first | ((with_reducible refine at_bi (b := .append) (xs := #[.tmp 23, .tmp 25]) rfl ?_); at_builtin; refine Kd.R_append (Kd.int .i64) (w0 := w) w.heap.size rfl (.tmp 23) (.tmp 25) 23 2 (.int .i64 0) 8 rfl Try.underlying23 info2 rfl (by decide) (by omega) u6 x6_1 x16_1 [.int .i64 x16_1] (fun _ => True) (fun _ => False) rfl rfl ?aP (fun _ hk => hk.elim) ?aF ?aO ?aB ?aS ?aL ?_; (case aP => exact rfl); (case aB => exact (vb HB.out)); (case aF => exact (fun _ _ => trivial)); (case aO => exact (vr HO_6.out)); (case aS => exact (below_size (vb HB.out))); (case aL => have := LMc13.out; omega); intro v246 w14 ho hb hg hat; rw [← Ny245.out] at ho; have n0_ := Aside0.mk (blk_grown (g := gb242) (o := .cells #[.int .i64 a1_0, .int .i64 a1_1, .slice A1_2 l1_2.length c1_2, .slice (some ad244) l1_3.length c1_3] 33 (0, 0)) (vk BK242.out) hg (Kd.R_ne HO_6.out BK242.out (by decide))); have n1_ := Aside0.mk (hb); have n2_ := Aside0.mk (ho); clear BK242; clear HB; clear HO_6; have BK242 := n0_; have HB := n1_; have HO247 := n2_; clear n0_ n1_ n2_; clear ho hb hg hat))
         go_roundg k1
         case measure => have := HK1.out; omega
         case rel => exact ⟨(y245), (wrap64 (x16_1 + 1)), (by first | rfl | (simp; done) | (simp [*]; done)), H', ⟨by have := HK1.out; omega⟩, ⟨by (with_reducible repeat (first | apply Kd.R_alloc | apply Kd.R_drewN | apply Kd.R_drew)); exact HO247.out⟩, ⟨by (with_reducible repeat (first | refine blk_drewN ?_ _ | refine blk_drew ?_ | refine blk_alloc ?_ _)); exact BK242.out⟩, ⟨vb HB.out⟩⟩
        ·rw [if_neg c13] at H; exact absurd H (by simp)
       ·rw [if_neg c12] at H; have c12b0 : ((rdOf ByteArray.empty l1_3 x16_1).toList == ([] : List UInt8)) = false := beq_eq_false_iff_ne.mpr c12; have c12b1 : ((rdOf ByteArray.empty l1_3 x16_1).toList != ([] : List UInt8)) = true := bne_iff_ne.mpr c12; have H' := Aside0.mk H; clear H; have p244 : 0 ≤ (x16_1 : Int) := od; have q244 : x16_1 < (l1_3.length : Int) := od; obtain ⟨ad244, e244, hx244_0⟩ := Kd.at_string HR1_3.out x16_1 p244 q244
        cases e244; replace hx244_0 := cb HB.out hx244_0; replace p244 := eq_true p244; replace q244 := eq_true q244; go_wp2
        go_roundg k1
        case measure => have := HK1.out; omega
        case rel => exact ⟨(x6_1), (wrap64 (x16_1 + 1)), (by first | rfl | (simp; done) | (simp [*]; done)), H', ⟨by have := HK1.out; omega⟩, ⟨by (with_reducible repeat (first | apply Kd.R_alloc | apply Kd.R_drewN | apply Kd.R_drew)); exact HO_6.out⟩, ⟨by (with_reducible repeat (first | refine blk_drewN ?_ _ | refine blk_drew ?_ | refine blk_alloc ?_ _)); exact BK242.out⟩, ⟨vb HB.out⟩⟩
      ·rw [if_neg c11] at H; exact absurd H (by simp)
     ·rw [if_neg c10] at H; exact absurd H (by simp)
    ·rw [if_neg c9] at H; have c9b0 : decide (x16_1 < (l1_3.length : Int)) = false := decide_eq_false c9; clear c9; simp only [Option.some.injEq, Prod.mk.injEq] at H
     obtain ⟨rfl, rfl⟩ := H; go_wp2
     go_ret2
     exact ⟨_, ew, by (with_reducible repeat (first | apply Kd.R_alloc | apply Kd.R_drewN | apply Kd.R_drew)); exact HO_6.out, vb HB.out⟩
 ·replace c4 := Bool.eq_false_iff.mpr c4; subst c4; have H1 : (some (([] : List Int), 1)) = some (r1, r2) := by rw [if_neg (show ¬ (false = true) by decide)] at H; exact H
  clear H; have H := H1; clear H1; simp only [Option.some.injEq, Prod.mk.injEq] at H
  obtain ⟨rfl, rfl⟩ := H; go_enter Try.func17, Try.ntmps17; go_wp2_with (first | ((with_reducible refine gate_dst (N := 3) rfl ?_); refine bx 3 #[.int .i64 a1_0, .int .i64 a1_1, .slice A1_2 l1_2.length c1_2, .slice A1_3 l1_3.length c1_3] 33 ?_; intro gb242 hg w15 hbox hb; have BK242 := Aside0.mk (hbox); have GW242 := Aside0.mk ((by rw [hg]; exact (below_size (vb HB.out)) : w.heap.size ≤ gb242)); have GE242 := Aside0.mk ((by rw [hg]; exact (below_size (vb HB.out)) : w.heap.size ≤ gb242)); replace HB := Aside0.mk (below_step (vb HB.out) hb); clear hb hbox hg; obtain ⟨hcz16_0, hcz16_1, hcz16_2, hcz16_3, hfz16_0, hfz16_1, hfz16_2, hfz16_3⟩ := cz4 BK242.out) | ((with_reducible refine at_fn (f := 41) rfl ?_); refine gl (some 11) Try.func41 #[.slice A0 l0.length c0, .agg #[.int .i64 a1_0, .int .i64 a1_1, .slice A1_2 l1_2.length c1_2, .slice A1_3 l1_3.length c1_3]] ?_; (with_reducible refine (impl_IsRack.calls k _ _ l0 a1_0 a1_1 _ _ l1_2 _ _ l1_3 false _ ?side1 ?side2 ?side3 ?side4 ?side5 ?side6 A3.out).mono ?_); (case side1 => exact vd HR0.out HB.out); (case side2 => exact HC0.out); (case side3 => exact vd HR1_2.out HB.out); (case side4 => exact HC1_2.out); (case side5 => exact vd HR1_3.out HB.out); (case side6 => exact HC1_3.out); rintro e w17 ⟨rfl, hb⟩; refine ⟨_, rfl, ?_⟩; replace BK242 := Aside0.mk (blk_below (vk BK242.out) hb); replace HB := Aside0.mk (below_step (vb HB.out) hb); (try clear hb); (try clear hb2); (try clear hk); (try clear hi)))
  go_ret2
  exact ⟨_, ew, by first | exact Kd.R_nil _ _ _ _ _ | exact Kd.N_nil _ _ _ _ _ | exact Kd.V_nil _ _ _ _ _ | exact Kd.Q_nil _ _ _ _ _ | exact Kd.S_nil _ _ _ _ _, vb HB.out⟩


end Go.Proofs.Ytnfmfebmjlglgaa.Pall
