/- Go functions of the program, each as a Lean function, and the proof that each call comes to what the Lean function tells; no condition beyond those that stand there. -/
import Derived.Test.YtnfmfebmjlglgaaF00
import Derived.Test.YtnfmfebmjlglgaaF05
import Derived.Test.YtnfmfebmjlglgaaF13
import Derived.Test.YtnfmfebmjlglgaaF14
import Derived.Test.YtnfmfebmjlglgaaSq
import Derived.Test.YtnfmfebmjlglgaaWLast
import Derived.Test.YtnfmfebmjlglgaaWTab
import Derived.Test.YtnfmfebmjlglgaaSpare
import Derived.Test.YtnfmfebmjlglgaaCm
import Derived.Test.YtnfmfebmjlglgaaCm3
import Derived.Test.YtnfmfebmjlglgaaCm6
namespace Go.Proofs.Ytnfmfebmjlglgaa.Pall
open Go.RowKit Go.Proofs.YtnfmfebmjlglgaaW.PrintWords Go.Proofs.YtnfmfebmjlglgaaW.PrintLast
set_option linter.unusedVariables false
set_option linter.unusedSimpArgs false

/-! ### spec_TubesFor: function 27 -/
def spec_TubesFor.f (k : Nat) (l0 : List (S67)) (a1_0 : Int) (a1_1 : Int) (l1_2 : List Int) (l1_3 : List ByteArray) (a2 : ByteArray) : Option (List Int × Int) := (spec_l17Named.f k l0 a1_0 a1_1 l1_2 l1_3 0 a2).bind fun t12 => (if t12 = 0 then ((spec_l03Find.f k l0 a2).bind fun t1 => (if 0 ≤ t1 then (if t1 < (l0.length : Int) then ((spec_l17Tubes.f k ((rd_T67 l0 t1).f0) ((rd_T67 l0 t1).f1) ((rd_T67 l0 t1).f2) ((rd_T67 l0 t1).f3) ((rd_T67 l0 t1).f4) ((rd_T67 l0 t1).f5) ((rd_T67 l0 t1).f6) ((rd_T67 l0 t1).f7) ((rd_T67 l0 t1).f8) a1_0 a1_1 l1_2 l1_3).bind fun t13 => (some (t13, 0))) else (none)) else (none))) else (some (([] : List Int), t12)))
def spec_TubesFor.T4 : Bool × List (List Nat × List Nat) := (true, [([], []), ([], []), ([], []), ([1, 2], [1, 2]), ([0, 3], [0, 3]), ([4], [4]), ([], []), ([5, 6, 3], [5, 6]), ([7, 7, 0, 1, 2, 3, 4, 5, 6, 7], [7]), ([8, 0, 1, 2, 3, 4, 5, 6, 7, 8], [])])
def spec_TubesFor.B4 : List Nat := [0, 0, 0, 6, 15, 31, 0, 127, 255, 511]
theorem spec_TubesFor.tab4 : rtab .any (opsOf Try.f27 4) = spec_TubesFor.T4 := by kernel_rfl
theorem spec_TubesFor.bits4 : waitsOk spec_TubesFor.T4.2 spec_TubesFor.B4 = true := by kernel_rfl
set_option maxHeartbeats 8000000 in
set_option maxRecDepth 100000 in
theorem spec_TubesFor.calls (k : Nat) (A0 : Option Addr) (c0 : Nat) (l0 : List (S67)) (a1_0 : Int) (a1_1 : Int) (A1_2 : Option Addr) (c1_2 : Nat) (l1_2 : List Int) (A1_3 : Option Addr) (c1_3 : Nat) (l1_3 : List ByteArray) (a2 : ByteArray) (r1 : List Int) (r2 : Int) (w : World) (hr0 : Kd.C k67 w A0 l0.length l0) (hc0 : l0.length ≤ c0) (hr1_2 : Kd.C (Kd.int .i64) w A1_2 l1_2.length l1_2) (hc1_2 : l1_2.length ≤ c1_2) (hr1_3 : Kd.C Kd.string w A1_3 l1_3.length l1_3) (hc1_3 : l1_3.length ≤ c1_3) (h : spec_TubesFor.f k l0 a1_0 a1_1 l1_2 l1_3 a2 = some (r1, r2)) :
  Calls Try.prog 27 #[.slice A0 l0.length c0, .agg #[.int .i64 a1_0, .int .i64 a1_1, .slice A1_2 l1_2.length c1_2, .slice A1_3 l1_3.length c1_3], .string a2] w fun e w' => ∃ v0_ : Value, e = .returned (.tuple #[v0_, .int .i64 r2]) ∧ Kd.R (Kd.int .i64) 2 w' w.heap.size (fun _ => True) v0_ r1 ∧ Below w.heap.size w w' := by
 have hu33 := Try.underlying33; have hu67 := Try.underlying67; have HR0 := ak hr0; have HC0 := ak hc0; clear hr0 hc0; have HR1_2 := ak hr1_2; have HC1_2 := ak hc1_2; clear hr1_2 hc1_2; have HR1_3 := ak hr1_3; have HC1_3 := ak hc1_3; clear hr1_3 hc1_3; have HB := ak (Below.refl w.heap.size w); unfold spec_TubesFor.f at h; have H := h; clear h; obtain ⟨t12, A4, H⟩ := bnk H; by_cases c5 : t12 = 0
 ·rw [if_pos c5] at H; obtain ⟨c5b0, c5b1⟩ := bqt c5; clear c5; obtain ⟨t1, A6, H⟩ := bnk H; by_cases c7 : 0 ≤ t1
  ·rw [if_pos c7] at H; have c7b0 := decide_eq_true c7; clear c7; by_cases c8 : t1 < (l0.length : Int)
   ·rw [if_pos c8] at H; have c8b0 := decide_eq_true c8; clear c8; obtain ⟨t13, A9, H⟩ := bnk H; simp only [Option.some.injEq, Prod.mk.injEq] at H
    obtain ⟨rfl, rfl⟩ := H; go_enter Try.func27, Try.ntmps27; (try go_wp2_with (first | ((with_reducible refine gate_dst (N := 4) rfl ?_); refine bx 4 #[.int .i64 a1_0, .int .i64 a1_1, .slice A1_2 l1_2.length c1_2, .slice A1_3 l1_3.length c1_3] 33 ?_; intro gb2 hg w10 hbox hb; have BK2 := ak hbox; have GW493 := gw hg HB; have GE2 := gw hg HB; replace HB := bs HB hb; clear hb hbox hg; have hcz15 := cz4 BK2.1) | ((with_reducible refine at_fn (f := 73) rfl ?_); refine gl (some 12) Try.func73 #[.slice A0 l0.length c0, .agg #[.int .i64 a1_0, .int .i64 a1_1, .slice A1_2 l1_2.length c1_2, .slice A1_3 l1_3.length c1_3], .int .i64 0, .string a2] ?_; (with_reducible refine (spec_l17Named.calls k _ _ l0 a1_0 a1_1 _ _ l1_2 _ _ l1_3 0 a2 t12 _ ?_ HC0.1 ?_ HC1_2.1 ?_ HC1_3.1 A4.1).mono ?_); exact vd HR0.1 HB.1; exact vd HR1_2.1 HB.1; exact vd HR1_3.1 HB.1; rintro e w12 ⟨rfl, hb⟩; refine ⟨_, rfl, ?_⟩; replace BK2 := kb BK2 hb; replace HB := bs HB hb; (try clear hb))))
    replace BK2 := ak (blk_drew BK2.1); replace HB := ak (below_drew1 HB.1); have p0 : 0 ≤ (t1 : Int) := od; have q0 : t1 < (l0.length : Int) := od; obtain ⟨ad0, e0, hx0_3, hx0_4, hx0_5, hx0_6, hx0_7, hx0_8, hx0_9, hx0_10, hx0_11⟩ := at_T67 HR0.1 t1 p0 q0; have hw0_11 := hx0_11; have hw0_10 := hx0_10; have hw0_9 := hx0_9; have hw0_8 := hx0_8; have hw0_7 := hx0_7; have hw0_6 := hx0_6; have hw0_5 := hx0_5; have hw0_4 := hx0_4; have hw0_3 := hx0_3
    cases e0; replace hx0_3 := cb HB.1 hx0_3; replace hx0_4 := cb HB.1 hx0_4; replace hx0_5 := cb HB.1 hx0_5; replace hx0_6 := cb HB.1 hx0_6; replace hx0_7 := cb HB.1 hx0_7; replace hx0_8 := cb HB.1 hx0_8; replace hx0_9 := cb HB.1 hx0_9; replace hx0_10 := cb HB.1 hx0_10; replace hx0_11 := cb HB.1 hx0_11; replace p0 := eq_true p0; replace q0 := eq_true q0; refine start_ (n := 10) (S := fun w' => w'.cell? ⟨gb2, 0, none⟩ = some (.int .i64 a1_0) ∧ w'.cell? ⟨gb2, 1, none⟩ = some (.int .i64 a1_1) ∧ w'.cell? ⟨gb2, 2, none⟩ = some (.slice A1_2 l1_2.length c1_2) ∧ w'.cell? ⟨gb2, 3, none⟩ = some (.slice A1_3 l1_3.length c1_3) ∧ w'.cell? (ad0.add ((t1).toNat * 9)) = some (.string ((rd_T67 l0 t1).f0)) ∧ w'.cell? ⟨(ad0.add ((t1).toNat * 9)).block, (ad0.add ((t1).toNat * 9)).off + 1, none⟩ = some (.int .i64 ((rd_T67 l0 t1).f1)) ∧ w'.cell? ⟨(ad0.add ((t1).toNat * 9)).block, (ad0.add ((t1).toNat * 9)).off + 2, none⟩ = some (.int .i64 ((rd_T67 l0 t1).f2)) ∧ w'.cell? ⟨(ad0.add ((t1).toNat * 9)).block, (ad0.add ((t1).toNat * 9)).off + 3, none⟩ = some (.int .i64 ((rd_T67 l0 t1).f3)) ∧ w'.cell? ⟨(ad0.add ((t1).toNat * 9)).block, (ad0.add ((t1).toNat * 9)).off + 4, none⟩ = some (.int .i64 ((rd_T67 l0 t1).f4)) ∧ w'.cell? ⟨(ad0.add ((t1).toNat * 9)).block, (ad0.add ((t1).toNat * 9)).off + 5, none⟩ = some (.int .i64 ((rd_T67 l0 t1).f5)) ∧ w'.cell? ⟨(ad0.add ((t1).toNat * 9)).block, (ad0.add ((t1).toNat * 9)).off + 6, none⟩ = some (.int .i64 ((rd_T67 l0 t1).f6)) ∧ w'.cell? ⟨(ad0.add ((t1).toNat * 9)).block, (ad0.add ((t1).toNat * 9)).off + 7, none⟩ = some (.int .i64 ((rd_T67 l0 t1).f7)) ∧ w'.cell? ⟨(ad0.add ((t1).toNat * 9)).block, (ad0.add ((t1).toNat * 9)).off + 8, none⟩ = some (.int .i64 ((rd_T67 l0 t1).f8))) (ds := []) (tf 0 10) (by kernel_rfl) rfl rfl ⟨bk BK2.1 0, bk BK2.1 1, bk BK2.1 2, bk BK2.1 3, (cb HB.1 hw0_3 :), (cb HB.1 hw0_4 :), (cb HB.1 hw0_5 :), (cb HB.1 hw0_6 :), (cb HB.1 hw0_7 :), (cb HB.1 hw0_8 :), (cb HB.1 hw0_9 :), (cb HB.1 hw0_10 :), (cb HB.1 hw0_11 :)⟩ (fun hHeld => ?_); refine with_tabW spec_TubesFor.tab4 spec_TubesFor.bits4 (fun HT_ HW_ => ?_)
    generalize w12.drew = w13 at BK2 HB hx0_3 hx0_4 hx0_5 hx0_6 hx0_7 hx0_8 hx0_9 hx0_10 hx0_11 hHeld ⊢; refine pu_ 0 16 (tf 1 9) rfl rfl ?_; refine pu_ 1 17 (tf 2 8) rfl rfl ?_; refine pu_ 2 18 (tf 3 7) rfl rfl ?_; refine ta13_ 6 22 (tM [3, 3, 1, 3]) rfl rfl ?_; refine one_ (i := 3) (N := some 19) (tM [4, 2, 1, 3]) rfl rfl (one_of HT_.1 (by kernel_rfl)) (by decide) (fun K hK => ?_); refine goes_ Try.func70 (by kernel_rfl) rfl #[.slice (some ad0) l0.length c0, .string a2] (by rfl) rfl rfl (by (try simp only [List.map_toArray, List.map_cons, List.map_nil]); first | done | rfl | (simp only [List.length_drop, List.length_take]; rfl)) ?_; with_reducible refine (spec_l03Find.calls k _ _ l0 a2 t1 _ ?_ ?_ A6.1).mono ?_
    exact vd HR0.1 HB.1
    exact HC0.1
    rintro e w' ⟨rfl, ⟨nd, rfl⟩⟩; refine ⟨_, rfl, ?_⟩; refine hK.out _ _ ⟨bk BK2.1 0, bk BK2.1 1, bk BK2.1 2, bk BK2.1 3, (cb HB.1 hw0_3 :), (cb HB.1 hw0_4 :), (cb HB.1 hw0_5 :), (cb HB.1 hw0_6 :), (cb HB.1 hw0_7 :), (cb HB.1 hw0_8 :), (cb HB.1 hw0_9 :), (cb HB.1 hw0_10 :), (cb HB.1 hw0_11 :)⟩ (fun hHeld => ?_); clear hK K; refine norm_ (a' := ?_) ?_ ?_
    rotate_left
    ·show Act.put _ (some 19) _ = _
     simp only [Act.put, List.setIfInBounds_toArray, List.set_cons_zero, List.set_cons_succ, i64_w, i32_w]
     rfl
    refine pu_ 4 20 (tM [5, 1, 1, 3]) rfl rfl ?_; refine ta13_ 5 21 (tf 7 3) rfl rfl ?_; refine one_ (i := 7) (N := some 23) (tf 8 2) rfl rfl (one_of HT_.1 (by kernel_rfl)) (by decide) (fun K hK => ?_); refine goes_ Try.func74 (by kernel_rfl) rfl #[.agg #[.string ((rd_T67 l0 t1).f0), .int .i64 ((rd_T67 l0 t1).f1), .int .i64 ((rd_T67 l0 t1).f2), .int .i64 ((rd_T67 l0 t1).f3), .int .i64 ((rd_T67 l0 t1).f4), .int .i64 ((rd_T67 l0 t1).f5), .int .i64 ((rd_T67 l0 t1).f6), .int .i64 ((rd_T67 l0 t1).f7), .int .i64 ((rd_T67 l0 t1).f8)], .agg #[.int .i64 a1_0, .int .i64 a1_1, .slice A1_2 l1_2.length c1_2, .slice A1_3 l1_3.length c1_3]] (by rfl) rfl rfl (by (try simp only [List.map_toArray, List.map_cons, List.map_nil]); first | done | rfl | (simp only [List.length_drop, List.length_take]; rfl)) ?_; with_reducible refine (spec_l17Tubes.calls k ((rd_T67 l0 t1).f0) ((rd_T67 l0 t1).f1) ((rd_T67 l0 t1).f2) ((rd_T67 l0 t1).f3) ((rd_T67 l0 t1).f4) ((rd_T67 l0 t1).f5) ((rd_T67 l0 t1).f6) ((rd_T67 l0 t1).f7) ((rd_T67 l0 t1).f8) a1_0 a1_1 _ _ l1_2 _ _ l1_3 t13 _ ?_ ?_ ?_ ?_ A9.1).mono ?_
    exact vd HR1_2.1 (vb HB.1)
    exact HC1_2.1
    exact vd HR1_3.1 (vb HB.1)
    exact HC1_3.1
    rintro e w14 ⟨v17, rfl, ho3, hb⟩; refine ⟨_, rfl, ?_⟩; have HO14 := ak (Kd.R_lower ho3 (below_size (vb HB.1))); replace BK2 := kb BK2 hb; replace HB := bs HB hb; (try clear hb)
    (try clear hb2)
    (try clear hk)
    (try clear hi)
    (try clear ho3)
    refine hK.out _ _ ⟨bk BK2.1 0, bk BK2.1 1, bk BK2.1 2, bk BK2.1 3, (cb HB.1 hw0_3 :), (cb HB.1 hw0_4 :), (cb HB.1 hw0_5 :), (cb HB.1 hw0_6 :), (cb HB.1 hw0_7 :), (cb HB.1 hw0_8 :), (cb HB.1 hw0_9 :), (cb HB.1 hw0_10 :), (cb HB.1 hw0_11 :)⟩ (fun hHeld => ?_); clear hK K; refine norm_ (a' := ?_) ?_ ?_
    rotate_left
    ·show Act.put _ (some 23) _ = _
     simp only [Act.put, List.setIfInBounds_toArray, List.set_cons_zero, List.set_cons_succ, i64_w, i32_w]
     rfl
    refine pu_ 8 6 (tf 9 1) rfl rfl ?_; refine pu_ 9 7 (tf 10 0) rfl rfl ?_; refine done_ (done_of HT_.1 (by kernel_rfl)) ?_; (try go_wp2)
    go_ret2
    exact ⟨_, ew, vr HO14.1, vb HB.1⟩
   ·exact nO_ c8 H
  ·exact nO_ c7 H
 ·rw [if_neg c5] at H; obtain ⟨c5b0, c5b1⟩ := bqf c5; simp only [Option.some.injEq, Prod.mk.injEq] at H
  obtain ⟨rfl, rfl⟩ := H; go_enter Try.func27, Try.ntmps27; go_wp2_with (first | ((with_reducible refine gate_dst (N := 4) rfl ?_); refine bx 4 #[.int .i64 a1_0, .int .i64 a1_1, .slice A1_2 l1_2.length c1_2, .slice A1_3 l1_3.length c1_3] 33 ?_; intro gb2 hg w15 hbox hb; have BK2 := ak hbox; have GW493 := gw hg HB; have GE2 := gw hg HB; replace HB := bs HB hb; clear hb hbox hg; have hcz16 := cz4 BK2.1) | ((with_reducible refine at_fn (f := 73) rfl ?_); refine gl (some 12) Try.func73 #[.slice A0 l0.length c0, .agg #[.int .i64 a1_0, .int .i64 a1_1, .slice A1_2 l1_2.length c1_2, .slice A1_3 l1_3.length c1_3], .int .i64 0, .string a2] ?_; (with_reducible refine (spec_l17Named.calls k _ _ l0 a1_0 a1_1 _ _ l1_2 _ _ l1_3 0 a2 t12 _ ?_ HC0.1 ?_ HC1_2.1 ?_ HC1_3.1 A4.1).mono ?_); exact vd HR0.1 HB.1; exact vd HR1_2.1 HB.1; exact vd HR1_3.1 HB.1; rintro e w17 ⟨rfl, hb⟩; refine ⟨_, rfl, ?_⟩; replace BK2 := kb BK2 hb; replace HB := bs HB hb; (try clear hb)))
  go_ret2
  exact ⟨_, ew, by first | exact Kd.R_nil _ _ _ _ _ | exact Kd.N_nil _ _ _ _ _ | exact Kd.V_nil _ _ _ _ _ | exact Kd.Q_nil _ _ _ _ _ | exact Kd.S_nil _ _ _ _ _, vb HB.1⟩


end Go.Proofs.Ytnfmfebmjlglgaa.Pall
