/- Go functions of the program, each as a Lean function, and the proof that each call comes to what the Lean function tells; no condition beyond those that stand there. -/
import Derived.Test.YtnfmfebmjlglgaaF00
import Derived.Test.YtnfmfebmjlglgaaF05
import Derived.Test.YtnfmfebmjlglgaaSpare
import Derived.Test.YtnfmfebmjlglgaaCm
import Derived.Test.YtnfmfebmjlglgaaCm3
import Derived.Test.YtnfmfebmjlglgaaCm6
namespace Go.Proofs.Ytnfmfebmjlglgaa.Pall
open Go.RowKit Go.Proofs.YtnfmfebmjlglgaaW.PrintWords
set_option linter.unusedVariables false
set_option linter.unusedSimpArgs false

/-! ### spec_EmptyTubes: function 14 -/
def spec_EmptyTubes.l0 : Nat → List Int → Int → Int → Int → List Int → List ByteArray → Option (List Int × Int)
 | 0, _, _, _, _, _, _ => none
 | k + 1, x4, x0, x12, x13, x11, x10 => if x0 < (x11.length : Int) then (if 0 ≤ x0 then (if x0 < (x10.length : Int) then (if (rdOf ByteArray.empty x10 x0).toList = ([] : List UInt8) then (if x4.length < 17592186044416 then (spec_EmptyTubes.l0 k (x4 ++ [x0]) (wrap64 (x0 + 1)) x12 x13 x11 x10) else (none)) else (spec_EmptyTubes.l0 k x4 (wrap64 (x0 + 1)) x12 x13 x11 x10)) else (none)) else (none)) else (some (x4, 0))
def spec_EmptyTubes.f (k : Nat) (l0 : List (S67)) (a1_0 : Int) (a1_1 : Int) (l1_2 : List Int) (l1_3 : List ByteArray) : Option (List Int × Int) := (spec_l17Code.f k l0 a1_0 a1_1 l1_2 l1_3 0).bind fun t7 => (if t7 = 0 then (spec_EmptyTubes.l0 k (([] : List Int)) 0 a1_0 a1_1 l1_2 l1_3) else (some (([] : List Int), t7)))
set_option maxHeartbeats 8000000 in
set_option maxRecDepth 100000 in
theorem spec_EmptyTubes.calls (k : Nat) (A0 : Option Addr) (c0 : Nat) (l0 : List (S67)) (a1_0 : Int) (a1_1 : Int) (A1_2 : Option Addr) (c1_2 : Nat) (l1_2 : List Int) (A1_3 : Option Addr) (c1_3 : Nat) (l1_3 : List ByteArray) (r1 : List Int) (r2 : Int) (w : World) (hr0 : Kd.C k67 w A0 l0.length l0) (hc0 : l0.length ≤ c0) (hr1_2 : Kd.C (Kd.int .i64) w A1_2 l1_2.length l1_2) (hc1_2 : l1_2.length ≤ c1_2) (hr1_3 : Kd.C Kd.string w A1_3 l1_3.length l1_3) (hc1_3 : l1_3.length ≤ c1_3) (h : spec_EmptyTubes.f k l0 a1_0 a1_1 l1_2 l1_3 = some (r1, r2)) :
  Calls Try.prog 14 #[.slice A0 l0.length c0, .agg #[.int .i64 a1_0, .int .i64 a1_1, .slice A1_2 l1_2.length c1_2, .slice A1_3 l1_3.length c1_3]] w fun e w' => ∃ v0_ : Value, e = .returned (.tuple #[v0_, .int .i64 r2]) ∧ Kd.R (Kd.int .i64) 2 w' w.heap.size (fun _ => True) v0_ r1 ∧ Below w.heap.size w w' := by
 have hu33 := Try.underlying33; have HR0 := ak hr0; have HC0 := ak hc0; clear hr0 hc0; have HR1_2 := ak hr1_2; have HC1_2 := ak hc1_2; clear hr1_2 hc1_2; have HR1_3 := ak hr1_3; have HC1_3 := ak hc1_3; clear hr1_3 hc1_3; have HB := ak (Below.refl w.heap.size w); unfold spec_EmptyTubes.f at h; have H := h; clear h; obtain ⟨t7, A3, H⟩ := bnk H; by_cases c4 : t7 = 0
 ·rw [if_pos c4] at H; obtain ⟨c4b0, c4b1⟩ := bqt c4; clear c4; obtain ⟨y5, hy5⟩ := gen_ (([] : List Int)); rw [← hy5] at H; have Ny5 := ak hy5; clear hy5; have H' := ak H; clear H; go_enter Try.func14, Try.ntmps14; go_wp2_with (first | ((with_reducible refine gate_dst (N := 3) rfl ?_); refine bx 3 #[.int .i64 a1_0, .int .i64 a1_1, .slice A1_2 l1_2.length c1_2, .slice A1_3 l1_3.length c1_3] 33 ?_; intro gb3 hg w5 hbox hb; have BK3 := ak hbox; have GW142 := gw hg HB; have GE3 := gw hg HB; replace HB := bs HB hb; clear hb hbox hg; have hcz16 := cz4 BK3.1) | ((with_reducible refine at_fn (f := 59) rfl ?_); refine gl (some 11) Try.func59 #[.slice A0 l0.length c0, .agg #[.int .i64 a1_0, .int .i64 a1_1, .slice A1_2 l1_2.length c1_2, .slice A1_3 l1_3.length c1_3], .int .i64 0] ?_; (with_reducible refine (spec_l17Code.calls k _ _ l0 a1_0 a1_1 _ _ l1_2 _ _ l1_3 0 t7 _ ?_ HC0.1 ?_ HC1_2.1 ?_ HC1_3.1 A3.1).mono ?_); exact vd HR0.1 HB.1; exact vd HR1_2.1 HB.1; exact vd HR1_3.1 HB.1; rintro e w7 ⟨rfl, hb⟩; refine ⟨_, rfl, ?_⟩; replace BK3 := kb BK3 hb; replace HB := bs HB hb; (try clear hb)) | ((with_reducible refine gate_dst (N := 15) rfl ?_); refine Kd.R_lit (Kd.int .i64) _ 2 ?hg (N := 15) ?hd (xs := ([] : List Int)) (inner := []) (ok := fun _ => True) (okp := fun _ => True) ?hr ?hp (fun _ hk => hk) trivial (Below.refl _ _) (Nat.le_refl _) (by simp) ?_; (case hd => rfl); (case hg => rfl); (case hr => first | (go_simp; done) | (go_simp; rfl)); (case hp => exact (Reps.none _ _)); intro v21 w8 ho9 hb hg_ hnew_; clear hg_ hnew_; (first | rw [← Ny5.1] at ho9 | (simp only [Int.reduceToNat] at ho9; rw [← Ny5.1] at ho9)); have HO14 := ak (Kd.R_lower ho9 (below_size (vb HB.1))); replace BK3 := kb BK3 hb; replace HB := bs HB hb; clear hb ho9))
  go_loopg [7, 8] k (fun kq v4 v0 w' => ∃ (x4_1 : List Int) (x0_1 : Int), v0 = .int .i64 x0_1 ∧ Aside0 (spec_EmptyTubes.l0 kq x4_1 x0_1 a1_0 a1_1 l1_2 l1_3 = some (r1, r2)) ∧ Aside0 (kq ≤ k) ∧ Aside0 (Kd.R (Kd.int .i64) 2 w' w.heap.size (fun _ => True) v4 x4_1) ∧ Aside0 (w'.heap[gb3]? = some (.cells #[.int .i64 a1_0, .int .i64 a1_1, (.slice A1_2 l1_2.length c1_2), (.slice A1_3 l1_3.length c1_3)] 33 (0, 0))) ∧ Aside0 (Below w.heap.size w w'))
  case atStart => exact ⟨(y5), (0), es, H', ⟨Nat.le_refl _⟩, ⟨vr HO14.1⟩, ⟨vk BK3.1⟩, ⟨vb HB.1⟩⟩
  case round =>
   clear H'; obtain ⟨x4_1, x0_1, rfl, HA, HK1, HO_4, BK3, HB⟩ := hrel
   cases gk with
   | zero => exact absurd HA.1 (by simp [spec_EmptyTubes.l0])
   | succ k1 =>
    have H := HA.1; clear HA; simp only [spec_EmptyTubes.l0] at H
    by_cases c10 : x0_1 < (l1_2.length : Int)
    ·rw [if_pos c10] at H; have c10b0 := decide_eq_true c10; clear c10; by_cases c11 : 0 ≤ x0_1
     ·rw [if_pos c11] at H; have c11b0 := decide_eq_true c11; clear c11; by_cases c12 : x0_1 < (l1_3.length : Int)
      ·rw [if_pos c12] at H; have c12b0 := decide_eq_true c12; clear c12; by_cases c13 : (rdOf ByteArray.empty l1_3 x0_1).toList = ([] : List UInt8)
       ·rw [if_pos c13] at H; have c13b0 : ((rdOf ByteArray.empty l1_3 x0_1).toList == ([] : List UInt8)) = true := beq_iff_eq.mpr c13; have c13b1 : ((rdOf ByteArray.empty l1_3 x0_1).toList != ([] : List UInt8)) = false := bne_eq_false_iff_eq.mpr c13; clear c13; by_cases c14 : x4_1.length < 17592186044416
        ·rw [if_pos c14] at H; have LMc14 := ak c14; clear c14; obtain ⟨y6, hy6⟩ := gen_ ((x4_1 ++ [x0_1] : List Int)); rw [← hy6] at H; have Ny6 := ak hy6; clear hy6; have H' := ak H; clear H; have hcz17 := cz4 BK3.1; have p2 : 0 ≤ (x0_1 : Int) := od; have q2 : x0_1 < (l1_3.length : Int) := od; obtain ⟨ad2, e2, hx2_8⟩ := Kd.at_string HR1_3.1 x0_1 p2 q2
         cases e2; replace hx2_8 := cb HB.1 hx2_8; replace p2 := eq_true p2; replace q2 := eq_true q2; go_wp2_with (first | ((with_reducible refine at_bi (b := .append) (xs := #[.tmp 29, .tmp 31]) rfl ?_); at_builtin; refine Kd.R_append (Kd.int .i64) (w0 := w) w.heap.size rfl (.tmp 29) (.tmp 31) 23 2 (.int .i64 0) 8 rfl Try.underlying23 info2 rfl (by decide) (by omega) u7 x4_1 x0_1 [.int .i64 x0_1] (fun _ => True) (fun _ => False) rfl rfl ?aP (fun _ hk => hk.elim) ?aF ?aO ?aB ?aS ?aL ?_; (case aP => exact rfl); (case aB => exact (vb HB.1)); (case aF => exact (fun _ _ => trivial)); (case aO => exact (vr HO_4.1)); (case aS => exact (below_size (vb HB.1))); (case aL => have := LMc14.1; omega); intro v22 w16 ho hb hg hat; rw [← Ny6.1] at ho; have n0_ := ak (blk_grown (g := gb3) (o := .cells #[.int .i64 a1_0, .int .i64 a1_1, .slice A1_2 l1_2.length c1_2, .slice (some ad2) l1_3.length c1_3] 33 (0, 0)) (vk BK3.1) hg (Kd.R_ne HO_4.1 BK3.1 (by decide))); have n1_ := ak (hb); have n2_ := ak (ho); clear BK3; clear HB; clear HO_4; have BK3 := n0_; have HB := n1_; have HO15 := n2_; clear n0_ n1_ n2_; clear ho hb hg hat))
         go_roundg k1
         case measure => have := HK1.1; omega
         case rel => exact ⟨(y6), (wrap64 (x0_1 + 1)), es, H', ⟨by have := HK1.1; omega⟩, ⟨vr HO15.1⟩, ⟨vk BK3.1⟩, ⟨vb HB.1⟩⟩
        ·exact nO_ c14 H
       ·rw [if_neg c13] at H; have c13b0 : ((rdOf ByteArray.empty l1_3 x0_1).toList == ([] : List UInt8)) = false := beq_eq_false_iff_ne.mpr c13; have c13b1 : ((rdOf ByteArray.empty l1_3 x0_1).toList != ([] : List UInt8)) = true := bne_iff_ne.mpr c13; have H' := ak H; clear H; have hcz18 := cz4 BK3.1; have p2 : 0 ≤ (x0_1 : Int) := od; have q2 : x0_1 < (l1_3.length : Int) := od; obtain ⟨ad2, e2, hx2_8⟩ := Kd.at_string HR1_3.1 x0_1 p2 q2
        cases e2; replace hx2_8 := cb HB.1 hx2_8; replace p2 := eq_true p2; replace q2 := eq_true q2; go_wp2
        go_roundg k1
        case measure => have := HK1.1; omega
        case rel => exact ⟨(x4_1), (wrap64 (x0_1 + 1)), es, H', ⟨by have := HK1.1; omega⟩, ⟨vr HO_4.1⟩, ⟨vk BK3.1⟩, ⟨vb HB.1⟩⟩
      ·exact nO_ c12 H
     ·exact nO_ c11 H
    ·rw [if_neg c10] at H; have c10b0 := decide_eq_false c10; clear c10; simp only [Option.some.injEq, Prod.mk.injEq] at H
     obtain ⟨rfl, rfl⟩ := H; have hcz19 := cz4 BK3.1; go_wp2
     go_ret2
     exact ⟨_, ew, vr HO_4.1, vb HB.1⟩
 ·rw [if_neg c4] at H; obtain ⟨c4b0, c4b1⟩ := bqf c4; simp only [Option.some.injEq, Prod.mk.injEq] at H
  obtain ⟨rfl, rfl⟩ := H; go_enter Try.func14, Try.ntmps14; go_wp2_with (first | ((with_reducible refine gate_dst (N := 3) rfl ?_); refine bx 3 #[.int .i64 a1_0, .int .i64 a1_1, .slice A1_2 l1_2.length c1_2, .slice A1_3 l1_3.length c1_3] 33 ?_; intro gb3 hg w19 hbox hb; have BK3 := ak hbox; have GW142 := gw hg HB; have GE3 := gw hg HB; replace HB := bs HB hb; clear hb hbox hg; have hcz20 := cz4 BK3.1) | ((with_reducible refine at_fn (f := 59) rfl ?_); refine gl (some 11) Try.func59 #[.slice A0 l0.length c0, .agg #[.int .i64 a1_0, .int .i64 a1_1, .slice A1_2 l1_2.length c1_2, .slice A1_3 l1_3.length c1_3], .int .i64 0] ?_; (with_reducible refine (spec_l17Code.calls k _ _ l0 a1_0 a1_1 _ _ l1_2 _ _ l1_3 0 t7 _ ?_ HC0.1 ?_ HC1_2.1 ?_ HC1_3.1 A3.1).mono ?_); exact vd HR0.1 HB.1; exact vd HR1_2.1 HB.1; exact vd HR1_3.1 HB.1; rintro e w21 ⟨rfl, hb⟩; refine ⟨_, rfl, ?_⟩; replace BK3 := kb BK3 hb; replace HB := bs HB hb; (try clear hb)))
  go_ret2
  exact ⟨_, ew, by first | exact Kd.R_nil _ _ _ _ _ | exact Kd.N_nil _ _ _ _ _ | exact Kd.V_nil _ _ _ _ _ | exact Kd.Q_nil _ _ _ _ _ | exact Kd.S_nil _ _ _ _ _, vb HB.1⟩


end Go.Proofs.Ytnfmfebmjlglgaa.Pall
