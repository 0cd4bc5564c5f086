/- Go functions of the program, each as a Lean function, and the proof that each call comes to what the Lean function tells; no condition beyond those that stand there. -/
import Derived.Test.YtancnecddlbhkaaF00
import Derived.Test.YtancnecddlbhkaaF02
import Derived.Test.YtancnecddlbhkaaF03
import Derived.Test.YtancnecddlbhkaaF14
import Derived.Test.YtancnecddlbhkaaSq
import Derived.Test.YtancnecddlbhkaaWLast
import Derived.Test.YtancnecddlbhkaaWTab
import Derived.Test.YtancnecddlbhkaaSpare
import Derived.Test.YtancnecddlbhkaaCm
import Derived.Test.YtancnecddlbhkaaCm3
import Derived.Test.YtancnecddlbhkaaCm6
import Derived.Test.YtancnecddlbhkaaCm9
namespace Go.Proofs.Ytancnecddlbhkaa.Pall
open Go.RowKit Go.Proofs.YtancnecddlbhkaaW.PrintWords Go.Proofs.YtancnecddlbhkaaW.PrintLast
set_option linter.unusedVariables false
set_option linter.unusedSimpArgs false

/-! ### impl_SpotsFor: function 21 -/
def impl_SpotsFor.l0 : Nat → Int → List Int → List Int → Int → Int → List (S98) → List (S103) → List Int → List Int → List Int → Int → Option (List Int × Int)
 | 0, _, _, _, _, _, _, _, _, _, _, _ => none
 | k + 1, x1, x6, x9, x12, x2, x16, x17, x10, x18, x11, x19 => if x2 < x12 then (if 0 ≤ x2 then (if x2 < (x9.length : Int) then (if 0 ≤ x1 then (if x1 < (x10.length : Int) then (if x2 < (x11.length : Int) then ((impl_isAllowed.f k x16 x17 (rd x10 x1) (rd x9 x2) (rd x11 x2)).bind fun t15 => (if t15 = true then (if x6.length < 17592186044416 then (impl_SpotsFor.l0 k x1 (x6 ++ [x2]) x9 x12 (wrap64 (x2 + 1)) x16 x17 x10 x18 x11 x19) else (none)) else (impl_SpotsFor.l0 k x1 x6 x9 x12 (wrap64 (x2 + 1)) x16 x17 x10 x18 x11 x19))) else (none)) else (none)) else (none)) else (none)) else (none)) else (some (x6, 0))
def impl_SpotsFor.f (k : Nat) (l0_0 : List (S98)) (l0_1 : List (S103)) (l0_2 : List Int) (l0_3 : List Int) (l0_4 : List Int) (a0_5 : Int) (a1 : Int) : Option (List Int × Int) := (impl_IsField.f k l0_0 l0_1 l0_2 l0_3 l0_4 a0_5).bind fun t13 => (if t13 = true then ((impl_isIndex.f a1 (l0_2.length : Int)).bind fun t14 => (if t14 = true then (impl_SpotsFor.l0 k a1 ([] : List Int) l0_3 (l0_3.length : Int) 0 l0_0 l0_1 l0_2 l0_3 l0_4 a0_5) else (some (([] : List Int), 2)))) else (some (([] : List Int), 1)))
def impl_SpotsFor.T9 : Bool × List (List Nat × List Nat) := (true, [([], []), ([0], [0]), ([], []), ([2], [2]), ([], []), ([4], [4]), ([], []), ([5, 6], [5, 6]), ([7], [7]), ([], []), ([], []), ([10], [10]), ([], []), ([11, 12], [11, 12]), ([13], [13]), ([1, 3, 8, 9, 14], [1, 3, 8, 9, 14])])
def impl_SpotsFor.B9 : List Nat := [0, 1, 0, 4, 0, 16, 0, 112, 240, 0, 0, 1024, 0, 7168, 15360, 32767]
theorem impl_SpotsFor.tab9 : rtab .any (opsOf Try.f21 9) = impl_SpotsFor.T9 := by kernel_rfl
theorem impl_SpotsFor.bits9 : waitsOk impl_SpotsFor.T9.2 impl_SpotsFor.B9 = true := by kernel_rfl
set_option maxHeartbeats 8000000 in
set_option maxRecDepth 100000 in
theorem impl_SpotsFor.calls (k : Nat) (A0_0 : Option Addr) (c0_0 : Nat) (l0_0 : List (S98)) (A0_1 : Option Addr) (c0_1 : Nat) (l0_1 : List (S103)) (A0_2 : Option Addr) (c0_2 : Nat) (l0_2 : List Int) (A0_3 : Option Addr) (c0_3 : Nat) (l0_3 : List Int) (A0_4 : Option Addr) (c0_4 : Nat) (l0_4 : List Int) (a0_5 : Int) (a1 : Int) (r1 : List Int) (r2 : Int) (w : World) (hr0_0 : Kd.C k98 w A0_0 l0_0.length l0_0) (hc0_0 : l0_0.length ≤ c0_0) (hr0_1 : Kd.C k103 w A0_1 l0_1.length l0_1) (hc0_1 : l0_1.length ≤ c0_1) (hr0_2 : Kd.C (Kd.int .i64) w A0_2 l0_2.length l0_2) (hc0_2 : l0_2.length ≤ c0_2) (hr0_3 : Kd.C (Kd.int .i64) w A0_3 l0_3.length l0_3) (hc0_3 : l0_3.length ≤ c0_3) (hr0_4 : Kd.C (Kd.int .i64) w A0_4 l0_4.length l0_4) (hc0_4 : l0_4.length ≤ c0_4) (h : impl_SpotsFor.f k l0_0 l0_1 l0_2 l0_3 l0_4 a0_5 a1 = some (r1, r2)) :
  Calls Try.prog 21 #[.agg (f5 A0_0 l0_0 c0_0 A0_1 l0_1 c0_1 A0_2 l0_2 c0_2 A0_3 l0_3 c0_3 A0_4 l0_4 c0_4 a0_5), .int .i64 a1] w fun e w' => ∃ v0_ : Value, e = .returned (.tuple #[v0_, .int .i64 r2]) ∧ Kd.R (Kd.int .i64) 2 w' w.heap.size (fun _ => True) v0_ r1 ∧ Below w.heap.size w w' := by
 have hu33 := Try.underlying33; have HR0_0 := ak hr0_0; have HC0_0 := ak hc0_0; clear hr0_0 hc0_0; have HR0_1 := ak hr0_1; have HC0_1 := ak hc0_1; clear hr0_1 hc0_1; have HR0_2 := ak hr0_2; have HC0_2 := ak hc0_2; clear hr0_2 hc0_2; have HR0_3 := ak hr0_3; have HC0_3 := ak hc0_3; clear hr0_3 hc0_3; have HR0_4 := ak hr0_4; have HC0_4 := ak hc0_4; clear hr0_4 hc0_4; have HB := ak (Below.refl w.heap.size w); unfold impl_SpotsFor.f at h; have H := h; clear h; obtain ⟨t13, A3, H⟩ := bnk H; by_cases c4 : t13 = true
 subst c4; rw [if_pos rfl] at H; obtain ⟨t14, A5, H⟩ := bnk H; by_cases c6 : t14 = true
 ·subst c6; rw [if_pos rfl] at H; have H' := ak H; clear H; go_enter Try.func21, Try.ntmps21; go_wp2_with (first | ((with_reducible refine gate_dst (N := 2) rfl ?_); refine bx 2 (f5 A0_0 l0_0 c0_0 A0_1 l0_1 c0_1 A0_2 l0_2 c0_2 A0_3 l0_3 c0_3 A0_4 l0_4 c0_4 a0_5) 33 ?_; intro gb0 hg w7 hbox hb; have BK0 := ak hbox; have GW512 := gw hg HB; have GE0 := gw hg HB; replace HB := bs HB hb; clear hb hbox hg; have hcz22 := cz6 BK0.1) | ((with_reducible refine at_fn (f := 37) rfl ?_); refine gl (some 10) Try.func37 #[.agg (f5 A0_0 l0_0 c0_0 A0_1 l0_1 c0_1 A0_2 l0_2 c0_2 A0_3 l0_3 c0_3 A0_4 l0_4 c0_4 a0_5)] ?_; (with_reducible refine (impl_IsField.calls k _ _ l0_0 _ _ l0_1 _ _ l0_2 _ _ l0_3 _ _ l0_4 a0_5 _ _ ?_ HC0_0.1 ?_ HC0_1.1 ?_ HC0_2.1 ?_ HC0_3.1 ?_ HC0_4.1 A3.1).mono ?_); exact vd HR0_0.1 HB.1; exact vd HR0_1.1 HB.1; exact vd HR0_2.1 HB.1; exact vd HR0_3.1 HB.1; exact vd HR0_4.1 HB.1; rintro e w9 ⟨rfl, hb⟩; refine ⟨_, rfl, ?_⟩; replace BK0 := kb BK0 hb; replace HB := bs HB hb; (try clear hb); have hcz23 := cz6 BK0.1) | ((with_reducible refine at_fn (f := 67) rfl ?_); refine gl (some 16) Try.func67 #[.int .i64 a1, .int .i64 (l0_2.length : Int)] ?_; (with_reducible refine (impl_isIndex.calls a1 (l0_2.length : Int) _ _ A5.1).mono ?_); rintro e w' ⟨rfl, ⟨nd, rfl⟩⟩; refine ⟨_, rfl, ?_⟩))
  go_loopg [6, 21] k (fun kq v6 v2 w' => ∃ (x6_1 : List Int) (x2_1 : Int), v2 = .int .i64 x2_1 ∧ Aside0 (impl_SpotsFor.l0 kq a1 x6_1 l0_3 (l0_3.length : Int) x2_1 l0_0 l0_1 l0_2 l0_3 l0_4 a0_5 = some (r1, r2)) ∧ Aside0 (kq ≤ k) ∧ Aside0 (Kd.R (Kd.int .i64) 2 w' w.heap.size (fun _ => True) v6 x6_1) ∧ Aside0 (w'.heap[gb0]? = some (.cells (f5 A0_0 l0_0 c0_0 A0_1 l0_1 c0_1 A0_2 l0_2 c0_2 A0_3 l0_3 c0_3 A0_4 l0_4 c0_4 a0_5) 33 (0, 0))) ∧ Aside0 (Below w.heap.size w w'))
  case atStart => exact ⟨(([] : List Int)), (0), es, H', ⟨Nat.le_refl _⟩, ⟨by first | exact Kd.R_nil _ _ _ _ _ | exact Kd.N_nil _ _ _ _ _ | exact Kd.V_nil _ _ _ _ _ | exact Kd.Q_nil _ _ _ _ _ | exact Kd.S_nil _ _ _ _ _⟩, ⟨vk BK0.1⟩, ⟨vb HB.1⟩⟩
  case round =>
   clear H'; obtain ⟨x6_1, x2_1, rfl, HA, HK1, HO_6, BK0, HB⟩ := hrel
   cases gk with
   | zero => exact absurd HA.1 (by simp [impl_SpotsFor.l0])
   | succ k1 =>
    have H := HA.1; clear HA; simp only [impl_SpotsFor.l0] at H
    by_cases c11 : x2_1 < (l0_3.length : Int)
    ·rw [if_pos c11] at H; have c11b0 := decide_eq_true c11; clear c11; by_cases c12 : 0 ≤ x2_1
     ·rw [if_pos c12] at H; have c12b0 := decide_eq_true c12; clear c12; by_cases c13 : x2_1 < (l0_3.length : Int)
      ·rw [if_pos c13] at H; have c13b0 := decide_eq_true c13; clear c13; by_cases c14 : 0 ≤ a1
       ·rw [if_pos c14] at H; have c14b0 := decide_eq_true c14; clear c14; by_cases c15 : a1 < (l0_2.length : Int)
        ·rw [if_pos c15] at H; have c15b0 := decide_eq_true c15; clear c15; by_cases c16 : x2_1 < (l0_4.length : Int)
         ·rw [if_pos c16] at H; have c16b0 := decide_eq_true c16; clear c16; obtain ⟨t15, A17, H⟩ := bnk H; by_cases c18 : t15 = true
          ·subst c18; rw [if_pos rfl] at H; by_cases c19 : x6_1.length < 17592186044416
           ·rw [if_pos c19] at H; have LMc19 := ak c19; clear c19; obtain ⟨y8, hy8⟩ := gen_ ((x6_1 ++ [x2_1] : List Int)); rw [← hy8] at H; have Ny8 := ak hy8; clear hy8; have H' := ak H; clear H; have p7 : 0 ≤ (x2_1 : Int) := od; have q7 : x2_1 < (l0_3.length : Int) := od; obtain ⟨ad7, e7, hx7_5⟩ := Kd.at_int HR0_3.1 x2_1 p7 q7
            cases e7; replace hx7_5 := cb HB.1 hx7_5; replace p7 := eq_true p7; replace q7 := eq_true q7; (try go_wp2)
            replace HO_6 := ak (Kd.R_drew HO_6.1); replace BK0 := ak (blk_drew BK0.1); replace HB := ak (below_drew1 HB.1); have p3 : 0 ≤ (a1 : Int) := od; have q3 : a1 < (l0_2.length : Int) := od; obtain ⟨ad3, e3, hx3_5⟩ := Kd.at_int HR0_2.1 a1 p3 q3; have hw3_5 := hx3_5
            cases e3; replace hx3_5 := cb HB.1 hx3_5; replace p3 := eq_true p3; replace q3 := eq_true q3; have p4 : 0 ≤ (x2_1 : Int) := od; have q4 : x2_1 < (l0_4.length : Int) := od; obtain ⟨ad4, e4, hx4_5⟩ := Kd.at_int HR0_4.1 x2_1 p4 q4; have hw4_5 := hx4_5
            cases e4; replace hx4_5 := cb HB.1 hx4_5; replace p4 := eq_true p4; replace q4 := eq_true q4; refine start_ (n := 16) (S := fun w' => w'.cell? ⟨gb0, 0, none⟩ = some (.slice A0_0 l0_0.length c0_0) ∧ w'.cell? ⟨gb0, 1, none⟩ = some (.slice A0_1 l0_1.length c0_1) ∧ w'.cell? ⟨gb0, 2, none⟩ = some (.slice (some ad3) l0_2.length c0_2) ∧ w'.cell? ⟨gb0, 3, none⟩ = some (.slice (some ad7) l0_3.length c0_3) ∧ w'.cell? ⟨gb0, 4, none⟩ = some (.slice (some ad4) l0_4.length c0_4) ∧ w'.cell? ⟨gb0, 5, none⟩ = some (.int .i64 a0_5) ∧ w'.cell? (ad3.add (a1).toNat) = some (.int .i64 (rd l0_2 a1)) ∧ w'.cell? (ad4.add (x2_1).toNat) = some (.int .i64 (rd l0_4 x2_1))) (ds := []) (tf 0 16) (by kernel_rfl) rfl rfl ⟨bk BK0.1 0, bk BK0.1 1, bk BK0.1 2, bk BK0.1 3, bk BK0.1 4, bk BK0.1 5, (cb HB.1 hw3_5 :), (cb HB.1 hw4_5 :)⟩ (fun hHeld => ?_); refine with_tabW impl_SpotsFor.tab9 impl_SpotsFor.bits9 (fun HT_ HW_ => ?_); generalize wr.drew = w20 at HO_6 BK0 HB hx3_5 hx4_5 hHeld ⊢; refine pu_ 0 26 (tf 1 15) rfl rfl ?_; refine pu_ 2 28 (tM [1, 1, 1, 13]) rfl rfl ?_; refine pu_ 4 30 (tM [1, 1, 1, 1, 1, 11]) rfl rfl ?_
            refine pu_ 6 32 (tM [1, 1, 1, 1, 1, 1, 1, 9]) rfl rfl ?_; refine pu_ 9 35 (tM [1, 1, 1, 1, 1, 1, 1, 2, 1, 6]) rfl rfl ?_; refine pu_ 10 36 (tM [1, 1, 1, 1, 1, 1, 1, 2, 2, 5]) rfl rfl ?_; refine pu_ 12 38 (tM [1, 1, 1, 1, 1, 1, 1, 2, 2, 1, 1, 3]) rfl rfl ?_; refine ta8_ 1 27 (tM [3, 1, 1, 1, 1, 2, 2, 1, 1, 3]) rfl rfl ?_; refine ta8_ 3 29 (tM [5, 1, 1, 2, 2, 1, 1, 3]) rfl rfl ?_; refine ta8_ 5 31 (tM [7, 2, 2, 1, 1, 3]) rfl rfl ?_; refine pu_ 7 33 (tM [8, 1, 2, 1, 1, 3]) rfl rfl ?_; refine ta8_ 8 34 (tM [11, 1, 1, 3]) rfl rfl ?_; refine ta8_ 11 37 (tf 13 3) rfl rfl ?_; refine pu_ 13 39 (tf 14 2) rfl rfl ?_; refine ta8_ 14 40 (tf 15 1) rfl rfl ?_; refine one_ (i := 15) (N := some 41) (tf 16 0) rfl rfl (one_of HT_.1 (by kernel_rfl)) (by decide) (fun K hK => ?_); refine goes_ Try.func68 (by kernel_rfl) rfl #[.slice A0_0 l0_0.length c0_0, .slice A0_1 l0_1.length c0_1, .int .i64 (rd l0_2 a1), .int .i64 (rd l0_3 x2_1), .int .i64 (rd l0_4 x2_1)] (by rfl) rfl rfl (by (try simp only [List.map_toArray, List.map_cons, List.map_nil]); first | done | rfl | (simp only [List.length_drop, List.length_take]; rfl)) ?_
            with_reducible refine (impl_isAllowed.calls k1 _ _ l0_0 _ _ l0_1 (rd l0_2 a1) (rd l0_3 x2_1) (rd l0_4 x2_1) true _ ?_ ?_ ?_ ?_ A17.1).mono ?_
            exact vd HR0_0.1 HB.1
            exact HC0_0.1
            exact vd HR0_1.1 HB.1
            exact HC0_1.1
            rintro e w21 ⟨rfl, hb⟩; refine ⟨_, rfl, ?_⟩; replace HO_6 := rb HO_6 hb; replace BK0 := kb BK0 hb; replace HB := bs HB hb; (try clear hb)
            (try clear hb2)
            (try clear hk)
            (try clear hi)
            refine hK.out _ _ ⟨bk BK0.1 0, bk BK0.1 1, bk BK0.1 2, bk BK0.1 3, bk BK0.1 4, bk BK0.1 5, (cb HB.1 hw3_5 :), (cb HB.1 hw4_5 :)⟩ (fun hHeld => ?_); clear hK K; refine norm_ (a' := ?_) ?_ ?_
            rotate_left
            ·show Act.put _ (some 41) _ = _
             simp only [Act.put, List.setIfInBounds_toArray, List.set_cons_zero, List.set_cons_succ, i64_w, i32_w]
             rfl
            refine done_ (done_of HT_.1 (by kernel_rfl)) ?_; (try go_wp2_with (first | ((with_reducible refine at_bi (b := .append) (xs := #[.tmp 42, .tmp 44]) rfl ?_); at_builtin; refine Kd.R_append (Kd.int .i64) (w0 := w) w.heap.size rfl (.tmp 42) (.tmp 44) 24 2 (.int .i64 0) 8 rfl Try.underlying24 info2 rfl (by decide) (by omega) u6 x6_1 x2_1 [.int .i64 x2_1] (fun _ => True) (fun _ => False) rfl rfl ?aP (fun _ hk => hk.elim) ?aF ?aO ?aB ?aS ?aL ?_; (case aP => exact rfl); (case aB => exact (vb HB.1)); (case aF => exact (fun _ _ => trivial)); (case aO => exact (vr HO_6.1)); (case aS => exact (below_size (vb HB.1))); (case aL => have := LMc19.1; omega); intro v24 w22 ho hb hg hat; rw [← Ny8.1] at ho; have n0_ := ak (blk_grown (g := gb0) (o := .cells #[.slice A0_0 l0_0.length c0_0, .slice A0_1 l0_1.length c0_1, .slice (some ad3) l0_2.length c0_2, .slice (some ad7) l0_3.length c0_3, .slice (some ad4) l0_4.length c0_4, .int .i64 a0_5] 33 (0, 0)) (vk BK0.1) hg (Kd.R_ne HO_6.1 BK0.1 (by decide))); have n1_ := ak (hb); have n2_ := ak (ho); clear BK0; clear HB; clear HO_6; have BK0 := n0_; have HB := n1_; have HO21 := n2_; clear n0_ n1_ n2_; clear ho hb hg hat)))
            go_roundg k1
            case measure => have := HK1.1; omega
            case rel => exact ⟨(y8), (wrap64 (x2_1 + 1)), es, H', ⟨by have := HK1.1; omega⟩, ⟨vr HO21.1⟩, ⟨vk BK0.1⟩, ⟨vb HB.1⟩⟩
           ·exact nO_ c19 H
          ·replace c18 := Bool.eq_false_iff.mpr c18; subst c18; rw [if_neg nf] at H; have H' := ak H; clear H; have p7 : 0 ≤ (x2_1 : Int) := od; have q7 : x2_1 < (l0_3.length : Int) := od; obtain ⟨ad7, e7, hx7_5⟩ := Kd.at_int HR0_3.1 x2_1 p7 q7
           cases e7; replace hx7_5 := cb HB.1 hx7_5; replace p7 := eq_true p7; replace q7 := eq_true q7; (try go_wp2)
           replace HO_6 := ak (Kd.R_drew HO_6.1); replace BK0 := ak (blk_drew BK0.1); replace HB := ak (below_drew1 HB.1); have p3 : 0 ≤ (a1 : Int) := od; have q3 : a1 < (l0_2.length : Int) := od; obtain ⟨ad3, e3, hx3_5⟩ := Kd.at_int HR0_2.1 a1 p3 q3; have hw3_5 := hx3_5
           cases e3; replace hx3_5 := cb HB.1 hx3_5; replace p3 := eq_true p3; replace q3 := eq_true q3; have p4 : 0 ≤ (x2_1 : Int) := od; have q4 : x2_1 < (l0_4.length : Int) := od; obtain ⟨ad4, e4, hx4_5⟩ := Kd.at_int HR0_4.1 x2_1 p4 q4; have hw4_5 := hx4_5
           cases e4; replace hx4_5 := cb HB.1 hx4_5; replace p4 := eq_true p4; replace q4 := eq_true q4; refine start_ (n := 16) (S := fun w' => w'.cell? ⟨gb0, 0, none⟩ = some (.slice A0_0 l0_0.length c0_0) ∧ w'.cell? ⟨gb0, 1, none⟩ = some (.slice A0_1 l0_1.length c0_1) ∧ w'.cell? ⟨gb0, 2, none⟩ = some (.slice (some ad3) l0_2.length c0_2) ∧ w'.cell? ⟨gb0, 3, none⟩ = some (.slice (some ad7) l0_3.length c0_3) ∧ w'.cell? ⟨gb0, 4, none⟩ = some (.slice (some ad4) l0_4.length c0_4) ∧ w'.cell? ⟨gb0, 5, none⟩ = some (.int .i64 a0_5) ∧ w'.cell? (ad3.add (a1).toNat) = some (.int .i64 (rd l0_2 a1)) ∧ w'.cell? (ad4.add (x2_1).toNat) = some (.int .i64 (rd l0_4 x2_1))) (ds := []) (tf 0 16) (by kernel_rfl) rfl rfl ⟨bk BK0.1 0, bk BK0.1 1, bk BK0.1 2, bk BK0.1 3, bk BK0.1 4, bk BK0.1 5, (cb HB.1 hw3_5 :), (cb HB.1 hw4_5 :)⟩ (fun hHeld => ?_); refine with_tabW impl_SpotsFor.tab9 impl_SpotsFor.bits9 (fun HT_ HW_ => ?_); generalize wr.drew = w23 at HO_6 BK0 HB hx3_5 hx4_5 hHeld ⊢; refine pu_ 0 26 (tf 1 15) rfl rfl ?_; refine pu_ 2 28 (tM [1, 1, 1, 13]) rfl rfl ?_; refine pu_ 4 30 (tM [1, 1, 1, 1, 1, 11]) rfl rfl ?_
           refine pu_ 6 32 (tM [1, 1, 1, 1, 1, 1, 1, 9]) rfl rfl ?_; refine pu_ 9 35 (tM [1, 1, 1, 1, 1, 1, 1, 2, 1, 6]) rfl rfl ?_; refine pu_ 10 36 (tM [1, 1, 1, 1, 1, 1, 1, 2, 2, 5]) rfl rfl ?_; refine pu_ 12 38 (tM [1, 1, 1, 1, 1, 1, 1, 2, 2, 1, 1, 3]) rfl rfl ?_; refine ta8_ 1 27 (tM [3, 1, 1, 1, 1, 2, 2, 1, 1, 3]) rfl rfl ?_; refine ta8_ 3 29 (tM [5, 1, 1, 2, 2, 1, 1, 3]) rfl rfl ?_; refine ta8_ 5 31 (tM [7, 2, 2, 1, 1, 3]) rfl rfl ?_; refine pu_ 7 33 (tM [8, 1, 2, 1, 1, 3]) rfl rfl ?_; refine ta8_ 8 34 (tM [11, 1, 1, 3]) rfl rfl ?_; refine ta8_ 11 37 (tf 13 3) rfl rfl ?_; refine pu_ 13 39 (tf 14 2) rfl rfl ?_; refine ta8_ 14 40 (tf 15 1) rfl rfl ?_; refine one_ (i := 15) (N := some 41) (tf 16 0) rfl rfl (one_of HT_.1 (by kernel_rfl)) (by decide) (fun K hK => ?_); refine goes_ Try.func68 (by kernel_rfl) rfl #[.slice A0_0 l0_0.length c0_0, .slice A0_1 l0_1.length c0_1, .int .i64 (rd l0_2 a1), .int .i64 (rd l0_3 x2_1), .int .i64 (rd l0_4 x2_1)] (by rfl) rfl rfl (by (try simp only [List.map_toArray, List.map_cons, List.map_nil]); first | done | rfl | (simp only [List.length_drop, List.length_take]; rfl)) ?_
           with_reducible refine (impl_isAllowed.calls k1 _ _ l0_0 _ _ l0_1 (rd l0_2 a1) (rd l0_3 x2_1) (rd l0_4 x2_1) false _ ?_ ?_ ?_ ?_ A17.1).mono ?_
           exact vd HR0_0.1 HB.1
           exact HC0_0.1
           exact vd HR0_1.1 HB.1
           exact HC0_1.1
           rintro e w24 ⟨rfl, hb⟩; refine ⟨_, rfl, ?_⟩; replace HO_6 := rb HO_6 hb; replace BK0 := kb BK0 hb; replace HB := bs HB hb; (try clear hb)
           (try clear hb2)
           (try clear hk)
           (try clear hi)
           refine hK.out _ _ ⟨bk BK0.1 0, bk BK0.1 1, bk BK0.1 2, bk BK0.1 3, bk BK0.1 4, bk BK0.1 5, (cb HB.1 hw3_5 :), (cb HB.1 hw4_5 :)⟩ (fun hHeld => ?_); clear hK K; refine norm_ (a' := ?_) ?_ ?_
           rotate_left
           ·show Act.put _ (some 41) _ = _
            simp only [Act.put, List.setIfInBounds_toArray, List.set_cons_zero, List.set_cons_succ, i64_w, i32_w]
            rfl
           refine done_ (done_of HT_.1 (by kernel_rfl)) ?_; (try go_wp2)
           go_roundg k1
           case measure => have := HK1.1; omega
           case rel => exact ⟨(x6_1), (wrap64 (x2_1 + 1)), es, H', ⟨by have := HK1.1; omega⟩, ⟨vr HO_6.1⟩, ⟨vk BK0.1⟩, ⟨vb HB.1⟩⟩
         ·exact nO_ c16 H
        ·exact nO_ c15 H
       ·exact nO_ c14 H
      ·exact nO_ c13 H
     ·exact nO_ c12 H
    ·rw [if_neg c11] at H; have c11b0 := decide_eq_false c11; clear c11; simp only [Option.some.injEq, Prod.mk.injEq] at H
     obtain ⟨rfl, rfl⟩ := H; go_wp2
     go_ret2
     exact ⟨_, ew, vr HO_6.1, vb HB.1⟩
 replace c6 := Bool.eq_false_iff.mpr c6; subst c6; rw [if_neg nf] at H; simp only [Option.some.injEq, Prod.mk.injEq] at H
 obtain ⟨rfl, rfl⟩ := H; rotate_left
 replace c4 := Bool.eq_false_iff.mpr c4; subst c4; rw [if_neg nf] at H; simp only [Option.some.injEq, Prod.mk.injEq] at H
 obtain ⟨rfl, rfl⟩ := H; rotate_left
 all_goals
  go_enter Try.func21, Try.ntmps21; go_wp2_with (first | ((with_reducible refine gate_dst (N := 2) rfl ?_); refine bx 2 (f5 A0_0 l0_0 c0_0 A0_1 l0_1 c0_1 A0_2 l0_2 c0_2 A0_3 l0_3 c0_3 A0_4 l0_4 c0_4 a0_5) 33 ?_; intro gb0 hg w9 hbox hb; have BK0 := ak hbox; have GW512 := gw hg HB; have GE0 := gw hg HB; replace HB := bs HB hb; clear hb hbox hg; have hcz20 := cz6 BK0.1) | ((with_reducible refine at_fn (f := 37) rfl ?_); refine gl (some 10) Try.func37 #[.agg (f5 A0_0 l0_0 c0_0 A0_1 l0_1 c0_1 A0_2 l0_2 c0_2 A0_3 l0_3 c0_3 A0_4 l0_4 c0_4 a0_5)] ?_; (with_reducible refine (impl_IsField.calls k _ _ l0_0 _ _ l0_1 _ _ l0_2 _ _ l0_3 _ _ l0_4 a0_5 _ _ ?_ HC0_0.1 ?_ HC0_1.1 ?_ HC0_2.1 ?_ HC0_3.1 ?_ HC0_4.1 A3.1).mono ?_); exact vd HR0_0.1 HB.1; exact vd HR0_1.1 HB.1; exact vd HR0_2.1 HB.1; exact vd HR0_3.1 HB.1; exact vd HR0_4.1 HB.1; rintro e w9 ⟨rfl, hb⟩; refine ⟨_, rfl, ?_⟩; replace BK0 := kb BK0 hb; replace HB := bs HB hb; (try clear hb); have hcz20 := cz6 BK0.1) | ((with_reducible refine at_fn (f := 67) rfl ?_); refine gl (some 16) Try.func67 #[.int .i64 a1, .int .i64 (l0_2.length : Int)] ?_; (with_reducible refine (impl_isIndex.calls a1 (l0_2.length : Int) _ _ A5.1).mono ?_); rintro e w' ⟨rfl, ⟨nd, rfl⟩⟩; refine ⟨_, rfl, ?_⟩))
  go_ret2
  exact ⟨_, ew, by first | exact Kd.R_nil _ _ _ _ _ | exact Kd.N_nil _ _ _ _ _ | exact Kd.V_nil _ _ _ _ _ | exact Kd.Q_nil _ _ _ _ _ | exact Kd.S_nil _ _ _ _ _, vb HB.1⟩


end Go.Proofs.Ytancnecddlbhkaa.Pall
