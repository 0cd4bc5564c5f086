/- Go functions of the program, each as a Lean function, and the proof that each call comes to what the Lean function tells; no condition beyond those that stand there. -/
import Derived.Test.YtnfmfebmjlglgaaF00
import Derived.Test.YtnfmfebmjlglgaaF07
import Derived.Test.YtnfmfebmjlglgaaSpare
import Derived.Test.YtnfmfebmjlglgaaCm
import Derived.Test.YtnfmfebmjlglgaaCm3
import Derived.Test.YtnfmfebmjlglgaaCm6
namespace Go.Proofs.Ytnfmfebmjlglgaa.Pall
open Go.RowKit Go.Proofs.YtnfmfebmjlglgaaW.PrintWords
set_option linter.unusedVariables false
set_option linter.unusedSimpArgs false

/-! ### impl_EmptyTubes: function 17 -/
def impl_EmptyTubes.l0 : Nat → List Int → List ByteArray → Int → Int → Option (List Int × Int)
 | 0, _, _, _, _ => none
 | k + 1, x4, x7, x8, x0 => if x0 < x8 then (if 0 ≤ x0 then (if x0 < (x7.length : Int) then (if (rdOf ByteArray.empty x7 x0).toList = ([] : List UInt8) then (if x4.length < 17592186044416 then (impl_EmptyTubes.l0 k (x4 ++ [x0]) x7 x8 (wrap64 (x0 + 1))) else (none)) else (impl_EmptyTubes.l0 k x4 x7 x8 (wrap64 (x0 + 1)))) else (none)) else (none)) else (some (x4, 0))
def impl_EmptyTubes.f (k : Nat) (l0 : List (S67)) (a1_0 : Int) (a1_1 : Int) (l1_2 : List Int) (l1_3 : List ByteArray) : Option (List Int × Int) := (impl_IsRack.f k l0 a1_0 a1_1 l1_2 l1_3).bind fun t9 => (if t9 = true then (impl_EmptyTubes.l0 k ([] : List Int) l1_3 (l1_3.length : Int) 0) else (some (([] : List Int), 1)))
set_option maxHeartbeats 8000000 in
set_option maxRecDepth 100000 in
theorem impl_EmptyTubes.calls (k : Nat) (A0 : Option Addr) (c0 : Nat) (l0 : List (S67)) (a1_0 : Int) (a1_1 : Int) (A1_2 : Option Addr) (c1_2 : Nat) (l1_2 : List Int) (A1_3 : Option Addr) (c1_3 : Nat) (l1_3 : List ByteArray) (r1 : List Int) (r2 : Int) (w : World) (hr0 : Kd.C k67 w A0 l0.length l0) (hc0 : l0.length ≤ c0) (hr1_2 : Kd.C (Kd.int .i64) w A1_2 l1_2.length l1_2) (hc1_2 : l1_2.length ≤ c1_2) (hr1_3 : Kd.C Kd.string w A1_3 l1_3.length l1_3) (hc1_3 : l1_3.length ≤ c1_3) (h : impl_EmptyTubes.f k l0 a1_0 a1_1 l1_2 l1_3 = some (r1, r2)) :
  Calls Try.prog 17 #[.slice A0 l0.length c0, .agg #[.int .i64 a1_0, .int .i64 a1_1, .slice A1_2 l1_2.length c1_2, .slice A1_3 l1_3.length c1_3]] w fun e w' => ∃ v0_ : Value, e = .returned (.tuple #[v0_, .int .i64 r2]) ∧ Kd.R (Kd.int .i64) 2 w' w.heap.size (fun _ => True) v0_ r1 ∧ Below w.heap.size w w' := by
 have hu33 := Try.underlying33; have HR0 := ak hr0; have HC0 := ak hc0; clear hr0 hc0; have HR1_2 := ak hr1_2; have HC1_2 := ak hc1_2; clear hr1_2 hc1_2; have HR1_3 := ak hr1_3; have HC1_3 := ak hc1_3; clear hr1_3 hc1_3; have HB := ak (Below.refl w.heap.size w); unfold impl_EmptyTubes.f at h; have H := h; clear h; obtain ⟨t9, A3, H⟩ := bnk H; by_cases c4 : t9 = true
 ·subst c4; rw [if_pos rfl] at H; have H' := ak H; clear H; go_enter Try.func17, Try.ntmps17; go_wp2_with (first | ((with_reducible refine gate_dst (N := 3) rfl ?_); refine bx 3 #[.int .i64 a1_0, .int .i64 a1_1, .slice A1_2 l1_2.length c1_2, .slice A1_3 l1_3.length c1_3] 33 ?_; intro gb3 hg w5 hbox hb; have BK3 := ak hbox; have GW242 := gw hg HB; have GE3 := gw hg HB; replace HB := bs HB hb; clear hb hbox hg; have hcz4 := cz4 BK3.1) | ((with_reducible refine at_fn (f := 41) rfl ?_); refine gl (some 11) Try.func41 #[.slice A0 l0.length c0, .agg #[.int .i64 a1_0, .int .i64 a1_1, .slice A1_2 l1_2.length c1_2, .slice A1_3 l1_3.length c1_3]] ?_; (with_reducible refine (impl_IsRack.calls k _ _ l0 a1_0 a1_1 _ _ l1_2 _ _ l1_3 _ _ ?_ HC0.1 ?_ HC1_2.1 ?_ HC1_3.1 A3.1).mono ?_); exact vd HR0.1 HB.1; exact vd HR1_2.1 HB.1; exact vd HR1_3.1 HB.1; rintro e w7 ⟨rfl, hb⟩; refine ⟨_, rfl, ?_⟩; replace BK3 := kb BK3 hb; replace HB := bs HB hb; (try clear hb); have hcz11 := cz4 BK3.1))
  go_loopg [6, 16] k (fun kq v4 v0 w' => ∃ (x4_1 : List Int) (x0_1 : Int), v0 = .int .i64 x0_1 ∧ Aside0 (impl_EmptyTubes.l0 kq x4_1 l1_3 (l1_3.length : Int) x0_1 = some (r1, r2)) ∧ Aside0 (kq ≤ k) ∧ Aside0 (Kd.R (Kd.int .i64) 2 w' w.heap.size (fun _ => True) v4 x4_1) ∧ Aside0 (w'.heap[gb3]? = some (.cells #[.int .i64 a1_0, .int .i64 a1_1, (.slice A1_2 l1_2.length c1_2), (.slice A1_3 l1_3.length c1_3)] 33 (0, 0))) ∧ Aside0 (Below w.heap.size w w'))
  case atStart => exact ⟨(([] : List Int)), (0), es, H', ⟨Nat.le_refl _⟩, ⟨by first | exact Kd.R_nil _ _ _ _ _ | exact Kd.N_nil _ _ _ _ _ | exact Kd.V_nil _ _ _ _ _ | exact Kd.Q_nil _ _ _ _ _ | exact Kd.S_nil _ _ _ _ _⟩, ⟨vk BK3.1⟩, ⟨vb HB.1⟩⟩
  case round =>
   clear H'; obtain ⟨x4_1, x0_1, rfl, HA, HK1, HO_4, BK3, HB⟩ := hrel
   cases gk with
   | zero => exact absurd HA.1 (by simp [impl_EmptyTubes.l0])
   | succ k1 =>
    have H := HA.1; clear HA; simp only [impl_EmptyTubes.l0] at H
    by_cases c9 : x0_1 < (l1_3.length : Int)
    ·rw [if_pos c9] at H; have c9b0 := decide_eq_true c9; clear c9; by_cases c10 : 0 ≤ x0_1
     ·rw [if_pos c10] at H; have c10b0 := decide_eq_true c10; clear c10; by_cases c11 : x0_1 < (l1_3.length : Int)
      ·rw [if_pos c11] at H; have c11b0 := decide_eq_true c11; clear c11; by_cases c12 : (rdOf ByteArray.empty l1_3 x0_1).toList = ([] : List UInt8)
       ·rw [if_pos c12] at H; have c12b0 : ((rdOf ByteArray.empty l1_3 x0_1).toList == ([] : List UInt8)) = true := beq_iff_eq.mpr c12; have c12b1 : ((rdOf ByteArray.empty l1_3 x0_1).toList != ([] : List UInt8)) = false := bne_eq_false_iff_eq.mpr c12; clear c12; by_cases c13 : x4_1.length < 17592186044416
        ·rw [if_pos c13] at H; have LMc13 := ak c13; clear c13; obtain ⟨y5, hy5⟩ := gen_ ((x4_1 ++ [x0_1] : List Int)); rw [← hy5] at H; have Ny5 := ak hy5; clear hy5; have H' := ak H; clear H; have p2 : 0 ≤ (x0_1 : Int) := od; have q2 : x0_1 < (l1_3.length : Int) := od; obtain ⟨ad2, e2, hx2_6⟩ := Kd.at_string HR1_3.1 x0_1 p2 q2
         cases e2; replace hx2_6 := cb HB.1 hx2_6; replace p2 := eq_true p2; replace q2 := eq_true q2; go_wp2_with (first | ((with_reducible refine at_bi (b := .append) (xs := #[.tmp 23, .tmp 25]) rfl ?_); at_builtin; refine Kd.R_append (Kd.int .i64) (w0 := w) w.heap.size rfl (.tmp 23) (.tmp 25) 23 2 (.int .i64 0) 8 rfl Try.underlying23 info2 rfl (by decide) (by omega) u6 x4_1 x0_1 [.int .i64 x0_1] (fun _ => True) (fun _ => False) rfl rfl ?aP (fun _ hk => hk.elim) ?aF ?aO ?aB ?aS ?aL ?_; (case aP => exact rfl); (case aB => exact (vb HB.1)); (case aF => exact (fun _ _ => trivial)); (case aO => exact (vr HO_4.1)); (case aS => exact (below_size (vb HB.1))); (case aL => have := LMc13.1; omega); intro v12 w14 ho hb hg hat; rw [← Ny5.1] at ho; have n0_ := ak (blk_grown (g := gb3) (o := .cells #[.int .i64 a1_0, .int .i64 a1_1, .slice A1_2 l1_2.length c1_2, .slice (some ad2) l1_3.length c1_3] 33 (0, 0)) (vk BK3.1) hg (Kd.R_ne HO_4.1 BK3.1 (by decide))); have n1_ := ak (hb); have n2_ := ak (ho); clear BK3; clear HB; clear HO_4; have BK3 := n0_; have HB := n1_; have HO10 := n2_; clear n0_ n1_ n2_; clear ho hb hg hat))
         go_roundg k1
         case measure => have := HK1.1; omega
         case rel => exact ⟨(y5), (wrap64 (x0_1 + 1)), es, H', ⟨by have := HK1.1; omega⟩, ⟨vr HO10.1⟩, ⟨vk BK3.1⟩, ⟨vb HB.1⟩⟩
        ·exact nO_ c13 H
       ·rw [if_neg c12] at H; have c12b0 : ((rdOf ByteArray.empty l1_3 x0_1).toList == ([] : List UInt8)) = false := beq_eq_false_iff_ne.mpr c12; have c12b1 : ((rdOf ByteArray.empty l1_3 x0_1).toList != ([] : List UInt8)) = true := bne_iff_ne.mpr c12; have H' := ak H; clear H; have p2 : 0 ≤ (x0_1 : Int) := od; have q2 : x0_1 < (l1_3.length : Int) := od; obtain ⟨ad2, e2, hx2_6⟩ := Kd.at_string HR1_3.1 x0_1 p2 q2
        cases e2; replace hx2_6 := cb HB.1 hx2_6; replace p2 := eq_true p2; replace q2 := eq_true q2; go_wp2
        go_roundg k1
        case measure => have := HK1.1; omega
        case rel => exact ⟨(x4_1), (wrap64 (x0_1 + 1)), es, H', ⟨by have := HK1.1; omega⟩, ⟨vr HO_4.1⟩, ⟨vk BK3.1⟩, ⟨vb HB.1⟩⟩
      ·exact nO_ c11 H
     ·exact nO_ c10 H
    ·rw [if_neg c9] at H; have c9b0 := decide_eq_false c9; clear c9; simp only [Option.some.injEq, Prod.mk.injEq] at H
     obtain ⟨rfl, rfl⟩ := H; go_wp2
     go_ret2
     exact ⟨_, ew, vr HO_4.1, vb HB.1⟩
 ·replace c4 := Bool.eq_false_iff.mpr c4; subst c4; rw [if_neg nf] at H; simp only [Option.some.injEq, Prod.mk.injEq] at H
  obtain ⟨rfl, rfl⟩ := H; go_enter Try.func17, Try.ntmps17; go_wp2_with (first | ((with_reducible refine gate_dst (N := 3) rfl ?_); refine bx 3 #[.int .i64 a1_0, .int .i64 a1_1, .slice A1_2 l1_2.length c1_2, .slice A1_3 l1_3.length c1_3] 33 ?_; intro gb3 hg w15 hbox hb; have BK3 := ak hbox; have GW242 := gw hg HB; have GE3 := gw hg HB; replace HB := bs HB hb; clear hb hbox hg; have hcz0 := cz4 BK3.1) | ((with_reducible refine at_fn (f := 41) rfl ?_); refine gl (some 11) Try.func41 #[.slice A0 l0.length c0, .agg #[.int .i64 a1_0, .int .i64 a1_1, .slice A1_2 l1_2.length c1_2, .slice A1_3 l1_3.length c1_3]] ?_; (with_reducible refine (impl_IsRack.calls k _ _ l0 a1_0 a1_1 _ _ l1_2 _ _ l1_3 _ _ ?_ HC0.1 ?_ HC1_2.1 ?_ HC1_3.1 A3.1).mono ?_); exact vd HR0.1 HB.1; exact vd HR1_2.1 HB.1; exact vd HR1_3.1 HB.1; rintro e w17 ⟨rfl, hb⟩; refine ⟨_, rfl, ?_⟩; replace BK3 := kb BK3 hb; replace HB := bs HB hb; (try clear hb)))
  go_ret2
  exact ⟨_, ew, by first | exact Kd.R_nil _ _ _ _ _ | exact Kd.N_nil _ _ _ _ _ | exact Kd.V_nil _ _ _ _ _ | exact Kd.Q_nil _ _ _ _ _ | exact Kd.S_nil _ _ _ _ _, vb HB.1⟩


end Go.Proofs.Ytnfmfebmjlglgaa.Pall
