/- Go functions of the program, each as a Lean function, and the proof that each call comes to what the Lean function tells; no condition beyond those that stand there. -/
import Derived.Test.YtnfmfebmjlglgaaF00
import Derived.Test.YtnfmfebmjlglgaaF05
import Derived.Test.YtnfmfebmjlglgaaSq
import Derived.Test.YtnfmfebmjlglgaaWLast
import Derived.Test.YtnfmfebmjlglgaaWTab
import Derived.Test.YtnfmfebmjlglgaaSpare
import Derived.Test.YtnfmfebmjlglgaaCm
import Derived.Test.YtnfmfebmjlglgaaCm3
import Derived.Test.YtnfmfebmjlglgaaCm6
import Derived.Test.YtnfmfebmjlglgaaCm9
namespace Go.Proofs.Ytnfmfebmjlglgaa.Pall
open Go.RowKit Go.Proofs.YtnfmfebmjlglgaaW.PrintWords Go.Proofs.YtnfmfebmjlglgaaW.PrintLast
set_option linter.unusedVariables false
set_option linter.unusedSimpArgs false

/-! ### impl_tubesFor: function 75 -/
def impl_tubesFor.l0 : Nat → List Int → List ByteArray → Int → Int → ByteArray → Int → Int → Int → Int → Int → Int → Int → Int → Int → Int → List Int → List ByteArray → Option (List Int)
 | 0, _, _, _, _, _, _, _, _, _, _, _, _, _, _, _, _, _ => none
 | k + 1, x6, x9, x11, x2, x12, x13, x14, x15, x16, x17, x18, x19, x20, x22, x23, x10, x24 => if x2 < x11 then (if 0 ≤ x2 then (if x2 < (x9.length : Int) then (if (rdOf ByteArray.empty x9 x2).toList = ([] : List UInt8) then (if x2 < (x10.length : Int) then ((impl_fits.f x12 x13 x14 x15 x16 x17 x18 x19 x20 (rd x10 x2)).bind fun t21 => (if t21 = true then (if x6.length < 17592186044416 then (impl_tubesFor.l0 k (x6 ++ [x2]) x9 x11 (wrap64 (x2 + 1)) x12 x13 x14 x15 x16 x17 x18 x19 x20 x22 x23 x10 x24) else (none)) else (impl_tubesFor.l0 k x6 x9 x11 (wrap64 (x2 + 1)) x12 x13 x14 x15 x16 x17 x18 x19 x20 x22 x23 x10 x24))) else (none)) else (impl_tubesFor.l0 k x6 x9 x11 (wrap64 (x2 + 1)) x12 x13 x14 x15 x16 x17 x18 x19 x20 x22 x23 x10 x24)) else (none)) else (none)) else (some x6)
def impl_tubesFor.f (k : Nat) (a0_0 : ByteArray) (a0_1 : Int) (a0_2 : Int) (a0_3 : Int) (a0_4 : Int) (a0_5 : Int) (a0_6 : Int) (a0_7 : Int) (a0_8 : Int) (a1_0 : Int) (a1_1 : Int) (l1_2 : List Int) (l1_3 : List ByteArray) : Option (List Int) := impl_tubesFor.l0 k ([] : List Int) l1_3 (l1_3.length : Int) 0 a0_0 a0_1 a0_2 a0_3 a0_4 a0_5 a0_6 a0_7 a0_8 a1_0 a1_1 l1_2 l1_3
def impl_tubesFor.T5 : Bool × List (List Nat × List Nat) := (true, [([], []), ([0], [0]), ([1], [1]), ([2], [2]), ([2], [2]), ([4, 2], [2, 4]), ([2], [2]), ([5, 6, 2], [2, 5, 6]), ([7, 2], [2, 7]), ([3, 8, 2, 2], [2, 3, 8]), ([2, 9], [2, 9])])
def impl_tubesFor.B5 : List Nat := [0, 1, 3, 7, 7, 23, 7, 119, 247, 511, 1023]
theorem impl_tubesFor.tab5 : rtab .any (opsOf Try.f75 5) = impl_tubesFor.T5 := by kernel_rfl
theorem impl_tubesFor.bits5 : waitsOk impl_tubesFor.T5.2 impl_tubesFor.B5 = true := by kernel_rfl
set_option maxHeartbeats 8000000 in
set_option maxRecDepth 100000 in
theorem impl_tubesFor.calls (k : Nat) (a0_0 : ByteArray) (a0_1 : Int) (a0_2 : Int) (a0_3 : Int) (a0_4 : Int) (a0_5 : Int) (a0_6 : Int) (a0_7 : Int) (a0_8 : Int) (a1_0 : Int) (a1_1 : Int) (A1_2 : Option Addr) (c1_2 : Nat) (l1_2 : List Int) (A1_3 : Option Addr) (c1_3 : Nat) (l1_3 : List ByteArray) (r : List Int) (w : World) (hr1_2 : Kd.C (Kd.int .i64) w A1_2 l1_2.length l1_2) (hc1_2 : l1_2.length ≤ c1_2) (hr1_3 : Kd.C Kd.string w A1_3 l1_3.length l1_3) (hc1_3 : l1_3.length ≤ c1_3) (h : impl_tubesFor.f k a0_0 a0_1 a0_2 a0_3 a0_4 a0_5 a0_6 a0_7 a0_8 a1_0 a1_1 l1_2 l1_3 = some r) :
  Calls Try.prog 75 #[.agg #[.string a0_0, .int .i64 a0_1, .int .i64 a0_2, .int .i64 a0_3, .int .i64 a0_4, .int .i64 a0_5, .int .i64 a0_6, .int .i64 a0_7, .int .i64 a0_8], .agg #[.int .i64 a1_0, .int .i64 a1_1, .slice A1_2 l1_2.length c1_2, .slice A1_3 l1_3.length c1_3]] w fun e w' => ∃ v0_ : Value, e = .returned (v0_) ∧ Kd.R (Kd.int .i64) 2 w' w.heap.size (fun _ => True) v0_ r ∧ Below w.heap.size w w' := by
 have hu67 := Try.underlying67; have hu33 := Try.underlying33; have HR1_2 := ak hr1_2; have HC1_2 := ak hc1_2; clear hr1_2 hc1_2; have HR1_3 := ak hr1_3; have HC1_3 := ak hc1_3; clear hr1_3 hc1_3; have HB := ak (Below.refl w.heap.size w); unfold impl_tubesFor.f at h; have H := h; clear h; have H' := ak H; clear H; go_enter Try.func75, Try.ntmps75; go_wp2_with (first | ((with_reducible refine gate_dst (N := 2) rfl ?_); refine bx 2 #[.string a0_0, .int .i64 a0_1, .int .i64 a0_2, .int .i64 a0_3, .int .i64 a0_4, .int .i64 a0_5, .int .i64 a0_6, .int .i64 a0_7, .int .i64 a0_8] 67 ?_; intro gb0 hg w3 hbox hb; have BK0 := ak hbox; have GW500 := gw hg HB; have GE0 := gw hg HB; replace HB := bs HB hb; clear hb hbox hg) | ((with_reducible refine gate_dst (N := 3) rfl ?_); refine bx 3 #[.int .i64 a1_0, .int .i64 a1_1, .slice A1_2 l1_2.length c1_2, .slice A1_3 l1_3.length c1_3] 33 ?_; intro gb1 hg w4 hbox hb; have BK1 := ak hbox; have GW501 := gw hg HB; have GE1 := gw hg HB; replace HB := bs HB hb; have NB0_1 := nl hg BK0; have NB1_0 := nr hg BK0; replace BK0 := kb BK0 hb; clear hb hbox hg; have := NB1_0.1; have := NB0_1.1; have hcz26 := cz4 BK1.1))
 go_loopg [5, 11] k (fun kq v6 v2 w' => ∃ (x6_3 : List Int) (x2_3 : Int), v2 = .int .i64 x2_3 ∧ Aside0 (impl_tubesFor.l0 kq x6_3 l1_3 (l1_3.length : Int) x2_3 a0_0 a0_1 a0_2 a0_3 a0_4 a0_5 a0_6 a0_7 a0_8 a1_0 a1_1 l1_2 l1_3 = some r) ∧ Aside0 (kq ≤ k) ∧ Aside0 (Kd.R (Kd.int .i64) 2 w' w.heap.size (fun _ => True) v6 x6_3) ∧ Aside0 (w'.heap[gb0]? = some (.cells #[.string a0_0, .int .i64 a0_1, .int .i64 a0_2, .int .i64 a0_3, .int .i64 a0_4, .int .i64 a0_5, .int .i64 a0_6, .int .i64 a0_7, .int .i64 a0_8] 67 (0, 0))) ∧ Aside0 (w'.heap[gb1]? = some (.cells #[.int .i64 a1_0, .int .i64 a1_1, (.slice A1_2 l1_2.length c1_2), (.slice A1_3 l1_3.length c1_3)] 33 (0, 0))) ∧ Aside0 (Below w.heap.size w w'))
 case atStart => exact ⟨(([] : List Int)), (0), es, H', ⟨Nat.le_refl _⟩, ⟨by first | exact Kd.R_nil _ _ _ _ _ | exact Kd.N_nil _ _ _ _ _ | exact Kd.V_nil _ _ _ _ _ | exact Kd.Q_nil _ _ _ _ _ | exact Kd.S_nil _ _ _ _ _⟩, ⟨vk BK0.1⟩, ⟨vk BK1.1⟩, ⟨vb HB.1⟩⟩
 case round =>
  clear H'; obtain ⟨x6_3, x2_3, rfl, HA, HK1, HO_6, BK0, BK1, HB⟩ := hrel
  cases gk with
  | zero => exact absurd HA.1 (by simp [impl_tubesFor.l0])
  | succ k1 =>
   have H := HA.1; clear HA; simp only [impl_tubesFor.l0] at H
   by_cases c7 : x2_3 < (l1_3.length : Int)
   ·rw [if_pos c7] at H; have c7b0 := decide_eq_true c7; clear c7; by_cases c8 : 0 ≤ x2_3
    ·rw [if_pos c8] at H; have c8b0 := decide_eq_true c8; clear c8; by_cases c9 : x2_3 < (l1_3.length : Int)
     ·rw [if_pos c9] at H; have c9b0 := decide_eq_true c9; clear c9; by_cases c10 : (rdOf ByteArray.empty l1_3 x2_3).toList = ([] : List UInt8)
      ·rw [if_pos c10] at H; have c10b0 : ((rdOf ByteArray.empty l1_3 x2_3).toList == ([] : List UInt8)) = true := beq_iff_eq.mpr c10; have c10b1 : ((rdOf ByteArray.empty l1_3 x2_3).toList != ([] : List UInt8)) = false := bne_eq_false_iff_eq.mpr c10; clear c10; by_cases c11 : x2_3 < (l1_2.length : Int)
       ·rw [if_pos c11] at H; have c11b0 := decide_eq_true c11; clear c11; obtain ⟨t21, A12, H⟩ := bnk H; by_cases c13 : t21 = true
        ·subst c13; rw [if_pos rfl] at H; by_cases c14 : x6_3.length < 17592186044416
         ·rw [if_pos c14] at H; have LMc14 := ak c14; clear c14; obtain ⟨y8, hy8⟩ := gen_ ((x6_3 ++ [x2_3] : List Int)); rw [← hy8] at H; have Ny8 := ak hy8; clear hy8; have H' := ak H; clear H; have p4 : 0 ≤ (x2_3 : Int) := od; have q4 : x2_3 < (l1_3.length : Int) := od; obtain ⟨ad4, e4, hx4_7⟩ := Kd.at_string HR1_3.1 x2_3 p4 q4
          cases e4; replace hx4_7 := cb HB.1 hx4_7; replace p4 := eq_true p4; replace q4 := eq_true q4; (try go_wp2)
          replace HO_6 := ak (Kd.R_drew HO_6.1); replace BK0 := ak (blk_drew BK0.1); replace BK1 := ak (blk_drew BK1.1); replace HB := ak (below_drew1 HB.1); have p5 : 0 ≤ (x2_3 : Int) := od; have q5 : x2_3 < (l1_2.length : Int) := od; obtain ⟨ad5, e5, hx5_7⟩ := Kd.at_int HR1_2.1 x2_3 p5 q5; have hw5_7 := hx5_7
          cases e5; replace hx5_7 := cb HB.1 hx5_7; replace p5 := eq_true p5; replace q5 := eq_true q5; refine start_ (n := 11) (S := fun w' => w'.cell? ⟨gb0, 0, none⟩ = some (.string a0_0) ∧ w'.cell? ⟨gb0, 1, none⟩ = some (.int .i64 a0_1) ∧ w'.cell? ⟨gb0, 2, none⟩ = some (.int .i64 a0_2) ∧ w'.cell? ⟨gb0, 3, none⟩ = some (.int .i64 a0_3) ∧ w'.cell? ⟨gb0, 4, none⟩ = some (.int .i64 a0_4) ∧ w'.cell? ⟨gb0, 5, none⟩ = some (.int .i64 a0_5) ∧ w'.cell? ⟨gb0, 6, none⟩ = some (.int .i64 a0_6) ∧ w'.cell? ⟨gb0, 7, none⟩ = some (.int .i64 a0_7) ∧ w'.cell? ⟨gb0, 8, none⟩ = some (.int .i64 a0_8) ∧ w'.cell? ⟨gb1, 0, none⟩ = some (.int .i64 a1_0) ∧ w'.cell? ⟨gb1, 1, none⟩ = some (.int .i64 a1_1) ∧ w'.cell? ⟨gb1, 2, none⟩ = some (.slice (some ad5) l1_2.length c1_2) ∧ w'.cell? ⟨gb1, 3, none⟩ = some (.slice (some ad4) l1_3.length c1_3) ∧ w'.cell? (ad5.add (x2_3).toNat) = some (.int .i64 (rd l1_2 x2_3))) (ds := []) (tf 0 11) (by kernel_rfl) rfl rfl ⟨bk BK0.1 0, bk BK0.1 1, bk BK0.1 2, bk BK0.1 3, bk BK0.1 4, bk BK0.1 5, bk BK0.1 6, bk BK0.1 7, bk BK0.1 8, bk BK1.1 0, bk BK1.1 1, bk BK1.1 2, bk BK1.1 3, (cb HB.1 hw5_7 :)⟩ (fun hHeld => ?_); refine with_tabW impl_tubesFor.tab5 impl_tubesFor.bits5 (fun HT_ HW_ => ?_)
          generalize wr.drew = w15 at HO_6 BK0 BK1 HB hx5_7 hHeld ⊢; refine pu_ 0 16 (tf 1 10) rfl rfl ?_; refine pu_ 1 17 (tf 2 9) rfl rfl ?_; refine pu_ 2 18 (tf 3 8) rfl rfl ?_; refine pu_ 4 20 (tM [3, 1, 1, 6]) rfl rfl ?_; refine pu_ 6 22 (tM [3, 1, 1, 1, 1, 4]) rfl rfl ?_; refine ta14_ 3 19 (tM [5, 1, 1, 4]) rfl rfl ?_; refine ta14_ 5 21 (tf 7 4) rfl rfl ?_; refine pu_ 7 23 (tf 8 3) rfl rfl ?_; refine ta14_ 8 24 (tf 9 2) rfl rfl ?_; refine one_ (i := 9) (N := some 25) (tf 10 1) rfl rfl (one_of HT_.1 (by kernel_rfl)) (by decide) (fun K hK => ?_); refine goes_ Try.func82 (by kernel_rfl) rfl #[.agg #[.string a0_0, .int .i64 a0_1, .int .i64 a0_2, .int .i64 a0_3, .int .i64 a0_4, .int .i64 a0_5, .int .i64 a0_6, .int .i64 a0_7, .int .i64 a0_8], .int .i64 (rd l1_2 x2_3)] (by rfl) rfl rfl (by (try simp only [List.map_toArray, List.map_cons, List.map_nil]); first | done | rfl | (simp only [List.length_drop, List.length_take]; rfl)) ?_; with_reducible refine (impl_fits.calls a0_0 a0_1 a0_2 a0_3 a0_4 a0_5 a0_6 a0_7 a0_8 (rd l1_2 x2_3) true _ A12.1).mono ?_
          rintro e w16 ⟨rfl, hb⟩; refine ⟨_, rfl, ?_⟩; replace HO_6 := rb HO_6 hb; replace BK0 := kb BK0 hb; replace BK1 := kb BK1 hb; replace HB := bs HB hb; (try clear hb)
          (try clear hb2)
          (try clear hk)
          (try clear hi)
          refine hK.out _ _ ⟨bk BK0.1 0, bk BK0.1 1, bk BK0.1 2, bk BK0.1 3, bk BK0.1 4, bk BK0.1 5, bk BK0.1 6, bk BK0.1 7, bk BK0.1 8, bk BK1.1 0, bk BK1.1 1, bk BK1.1 2, bk BK1.1 3, (cb HB.1 hw5_7 :)⟩ (fun hHeld => ?_); clear hK K; refine norm_ (a' := ?_) ?_ ?_
          rotate_left
          ·show Act.put _ (some 25) _ = _
           simp only [Act.put, List.setIfInBounds_toArray, List.set_cons_zero, List.set_cons_succ, i64_w, i32_w]
           rfl
          refine pu_ 10 26 (tf 11 0) rfl rfl ?_; refine done_ (done_of HT_.1 (by kernel_rfl)) ?_; (try go_wp2_with (first | ((with_reducible refine at_bi (b := .append) (xs := #[.tmp 27, .tmp 29]) rfl ?_); at_builtin; refine Kd.R_append (Kd.int .i64) (w0 := w) w.heap.size rfl (.tmp 27) (.tmp 29) 23 2 (.int .i64 0) 8 rfl Try.underlying23 info2 rfl (by decide) (by omega) u5 x6_3 x2_3 [.int .i64 x2_3] (fun _ => True) (fun _ => False) rfl rfl ?aP (fun _ hk => hk.elim) ?aF ?aO ?aB ?aS ?aL ?_; (case aP => exact rfl); (case aB => exact (vb HB.1)); (case aF => exact (fun _ _ => trivial)); (case aO => exact (vr HO_6.1)); (case aS => exact (below_size (vb HB.1))); (case aL => have := LMc14.1; omega); intro v27 w17 ho hb hg hat; rw [← Ny8.1] at ho; have n0_ := ak (blk_grown (g := gb0) (o := .cells #[.string a0_0, .int .i64 a0_1, .int .i64 a0_2, .int .i64 a0_3, .int .i64 a0_4, .int .i64 a0_5, .int .i64 a0_6, .int .i64 a0_7, .int .i64 a0_8] 67 (0, 0)) (vk BK0.1) hg (Kd.R_ne HO_6.1 BK0.1 (by decide))); have n1_ := ak (blk_grown (g := gb1) (o := .cells #[.int .i64 a1_0, .int .i64 a1_1, .slice (some ad5) l1_2.length c1_2, .slice (some ad4) l1_3.length c1_3] 33 (0, 0)) (vk BK1.1) hg (Kd.R_ne HO_6.1 BK1.1 (by decide))); have n2_ := ak (hb); have n3_ := ak (ho); clear BK0; clear BK1; clear HB; clear HO_6; have BK0 := n0_; have BK1 := n1_; have HB := n2_; have HO25 := n3_; clear n0_ n1_ n2_ n3_; clear ho hb hg hat)))
          go_roundg k1
          case measure => have := HK1.1; omega
          case rel => exact ⟨(y8), (wrap64 (x2_3 + 1)), es, H', ⟨by have := HK1.1; omega⟩, ⟨vr HO25.1⟩, ⟨vk BK0.1⟩, ⟨vk BK1.1⟩, ⟨vb HB.1⟩⟩
         ·exact nO_ c14 H
        ·replace c13 := Bool.eq_false_iff.mpr c13; subst c13; rw [if_neg nf] at H; have H' := ak H; clear H; have p4 : 0 ≤ (x2_3 : Int) := od; have q4 : x2_3 < (l1_3.length : Int) := od; obtain ⟨ad4, e4, hx4_7⟩ := Kd.at_string HR1_3.1 x2_3 p4 q4
         cases e4; replace hx4_7 := cb HB.1 hx4_7; replace p4 := eq_true p4; replace q4 := eq_true q4; (try go_wp2)
         replace HO_6 := ak (Kd.R_drew HO_6.1); replace BK0 := ak (blk_drew BK0.1); replace BK1 := ak (blk_drew BK1.1); replace HB := ak (below_drew1 HB.1); have p5 : 0 ≤ (x2_3 : Int) := od; have q5 : x2_3 < (l1_2.length : Int) := od; obtain ⟨ad5, e5, hx5_7⟩ := Kd.at_int HR1_2.1 x2_3 p5 q5; have hw5_7 := hx5_7
         cases e5; replace hx5_7 := cb HB.1 hx5_7; replace p5 := eq_true p5; replace q5 := eq_true q5; refine start_ (n := 11) (S := fun w' => w'.cell? ⟨gb0, 0, none⟩ = some (.string a0_0) ∧ w'.cell? ⟨gb0, 1, none⟩ = some (.int .i64 a0_1) ∧ w'.cell? ⟨gb0, 2, none⟩ = some (.int .i64 a0_2) ∧ w'.cell? ⟨gb0, 3, none⟩ = some (.int .i64 a0_3) ∧ w'.cell? ⟨gb0, 4, none⟩ = some (.int .i64 a0_4) ∧ w'.cell? ⟨gb0, 5, none⟩ = some (.int .i64 a0_5) ∧ w'.cell? ⟨gb0, 6, none⟩ = some (.int .i64 a0_6) ∧ w'.cell? ⟨gb0, 7, none⟩ = some (.int .i64 a0_7) ∧ w'.cell? ⟨gb0, 8, none⟩ = some (.int .i64 a0_8) ∧ w'.cell? ⟨gb1, 0, none⟩ = some (.int .i64 a1_0) ∧ w'.cell? ⟨gb1, 1, none⟩ = some (.int .i64 a1_1) ∧ w'.cell? ⟨gb1, 2, none⟩ = some (.slice (some ad5) l1_2.length c1_2) ∧ w'.cell? ⟨gb1, 3, none⟩ = some (.slice (some ad4) l1_3.length c1_3) ∧ w'.cell? (ad5.add (x2_3).toNat) = some (.int .i64 (rd l1_2 x2_3))) (ds := []) (tf 0 11) (by kernel_rfl) rfl rfl ⟨bk BK0.1 0, bk BK0.1 1, bk BK0.1 2, bk BK0.1 3, bk BK0.1 4, bk BK0.1 5, bk BK0.1 6, bk BK0.1 7, bk BK0.1 8, bk BK1.1 0, bk BK1.1 1, bk BK1.1 2, bk BK1.1 3, (cb HB.1 hw5_7 :)⟩ (fun hHeld => ?_); refine with_tabW impl_tubesFor.tab5 impl_tubesFor.bits5 (fun HT_ HW_ => ?_)
         generalize wr.drew = w18 at HO_6 BK0 BK1 HB hx5_7 hHeld ⊢; refine pu_ 0 16 (tf 1 10) rfl rfl ?_; refine pu_ 1 17 (tf 2 9) rfl rfl ?_; refine pu_ 2 18 (tf 3 8) rfl rfl ?_; refine pu_ 4 20 (tM [3, 1, 1, 6]) rfl rfl ?_; refine pu_ 6 22 (tM [3, 1, 1, 1, 1, 4]) rfl rfl ?_; refine ta14_ 3 19 (tM [5, 1, 1, 4]) rfl rfl ?_; refine ta14_ 5 21 (tf 7 4) rfl rfl ?_; refine pu_ 7 23 (tf 8 3) rfl rfl ?_; refine ta14_ 8 24 (tf 9 2) rfl rfl ?_; refine one_ (i := 9) (N := some 25) (tf 10 1) rfl rfl (one_of HT_.1 (by kernel_rfl)) (by decide) (fun K hK => ?_); refine goes_ Try.func82 (by kernel_rfl) rfl #[.agg #[.string a0_0, .int .i64 a0_1, .int .i64 a0_2, .int .i64 a0_3, .int .i64 a0_4, .int .i64 a0_5, .int .i64 a0_6, .int .i64 a0_7, .int .i64 a0_8], .int .i64 (rd l1_2 x2_3)] (by rfl) rfl rfl (by (try simp only [List.map_toArray, List.map_cons, List.map_nil]); first | done | rfl | (simp only [List.length_drop, List.length_take]; rfl)) ?_; with_reducible refine (impl_fits.calls a0_0 a0_1 a0_2 a0_3 a0_4 a0_5 a0_6 a0_7 a0_8 (rd l1_2 x2_3) false _ A12.1).mono ?_
         rintro e w19 ⟨rfl, hb⟩; refine ⟨_, rfl, ?_⟩; replace HO_6 := rb HO_6 hb; replace BK0 := kb BK0 hb; replace BK1 := kb BK1 hb; replace HB := bs HB hb; (try clear hb)
         (try clear hb2)
         (try clear hk)
         (try clear hi)
         refine hK.out _ _ ⟨bk BK0.1 0, bk BK0.1 1, bk BK0.1 2, bk BK0.1 3, bk BK0.1 4, bk BK0.1 5, bk BK0.1 6, bk BK0.1 7, bk BK0.1 8, bk BK1.1 0, bk BK1.1 1, bk BK1.1 2, bk BK1.1 3, (cb HB.1 hw5_7 :)⟩ (fun hHeld => ?_); clear hK K; refine norm_ (a' := ?_) ?_ ?_
         rotate_left
         ·show Act.put _ (some 25) _ = _
          simp only [Act.put, List.setIfInBounds_toArray, List.set_cons_zero, List.set_cons_succ, i64_w, i32_w]
          rfl
         refine pu_ 10 26 (tf 11 0) rfl rfl ?_; refine done_ (done_of HT_.1 (by kernel_rfl)) ?_; (try go_wp2)
         go_roundg k1
         case measure => have := HK1.1; omega
         case rel => exact ⟨(x6_3), (wrap64 (x2_3 + 1)), es, H', ⟨by have := HK1.1; omega⟩, ⟨vr HO_6.1⟩, ⟨vk BK0.1⟩, ⟨vk BK1.1⟩, ⟨vb HB.1⟩⟩
       ·exact nO_ c11 H
      ·rw [if_neg c10] at H; have c10b0 : ((rdOf ByteArray.empty l1_3 x2_3).toList == ([] : List UInt8)) = false := beq_eq_false_iff_ne.mpr c10; have c10b1 : ((rdOf ByteArray.empty l1_3 x2_3).toList != ([] : List UInt8)) = true := bne_iff_ne.mpr c10; have H' := ak H; clear H; have p4 : 0 ≤ (x2_3 : Int) := od; have q4 : x2_3 < (l1_3.length : Int) := od; obtain ⟨ad4, e4, hx4_7⟩ := Kd.at_string HR1_3.1 x2_3 p4 q4
       cases e4; replace hx4_7 := cb HB.1 hx4_7; replace p4 := eq_true p4; replace q4 := eq_true q4; (try go_wp2)
       replace HO_6 := ak (Kd.R_drew HO_6.1); replace BK0 := ak (blk_drew BK0.1); replace BK1 := ak (blk_drew BK1.1); replace HB := ak (below_drew1 HB.1); refine start_ (n := 11) (S := fun w' => True) (ds := []) (tf 0 11) (by kernel_rfl) rfl rfl trivial (fun hHeld => ?_); refine with_tabW impl_tubesFor.tab5 impl_tubesFor.bits5 (fun HT_ HW_ => ?_); generalize wr.drew = w20 at HO_6 BK0 BK1 HB hHeld ⊢; refine pu_ 0 16 (tf 1 10) rfl rfl ?_; refine pu_ 1 17 (tf 2 9) rfl rfl ?_; refine pu_ 2 18 (tf 3 8) rfl rfl ?_; refine un_ 3 19 (tf 4 7) rfl rfl ?_; refine un_ 4 20 (tf 5 6) rfl rfl ?_; refine un_ 5 21 (tf 6 5) rfl rfl ?_; refine un_ 6 22 (tf 7 4) rfl rfl ?_; refine un_ 7 23 (tf 8 3) rfl rfl ?_; refine un_ 8 24 (tf 9 2) rfl rfl ?_; refine un_ 9 25 (tf 10 1) rfl rfl ?_; refine pu_ 10 26 (tf 11 0) rfl rfl ?_; refine done_ (done_of HT_.1 (by kernel_rfl)) ?_; (try go_wp2)
       go_roundg k1
       case measure => have := HK1.1; omega
       case rel => exact ⟨(x6_3), (wrap64 (x2_3 + 1)), es, H', ⟨by have := HK1.1; omega⟩, ⟨vr HO_6.1⟩, ⟨vk BK0.1⟩, ⟨vk BK1.1⟩, ⟨vb HB.1⟩⟩
     ·exact nO_ c9 H
    ·exact nO_ c8 H
   ·rw [if_neg c7] at H; have c7b0 := decide_eq_false c7; clear c7; obtain rfl := sj H; go_wp2
    go_ret
    exact ⟨_, ew, vr HO_6.1, vb HB.1⟩


end Go.Proofs.Ytnfmfebmjlglgaa.Pall
