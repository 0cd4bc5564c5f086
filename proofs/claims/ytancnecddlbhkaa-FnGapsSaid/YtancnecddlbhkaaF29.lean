/- Go functions of the program, each as a Lean function, and the proof that each call comes to what the Lean function tells; no condition beyond those that stand there. -/
import Derived.Test.YtancnecddlbhkaaF00
import Derived.Test.YtancnecddlbhkaaF04
import Derived.Test.YtancnecddlbhkaaF05
import Derived.Test.YtancnecddlbhkaaSq
import Derived.Test.YtancnecddlbhkaaWGuard
import Derived.Test.YtancnecddlbhkaaWLast
import Derived.Test.YtancnecddlbhkaaWRepsOne
import Derived.Test.YtancnecddlbhkaaWTab
import Derived.Test.YtancnecddlbhkaaCm
import Derived.Test.YtancnecddlbhkaaCm3
import Derived.Test.YtancnecddlbhkaaCm6
import Derived.Test.YtancnecddlbhkaaCm9
namespace Go.Proofs.Ytancnecddlbhkaa.Pall
open Go.RowKit Go.Proofs.YtancnecddlbhkaaW.PrintWords Go.Proofs.YtancnecddlbhkaaW.PrintLast
set_option linter.unusedVariables false
set_option linter.unusedSimpArgs false

/-! ### impl_hasPlacing: function 89 -/
mutual
def impl_hasPlacing.l0 : Nat → List Int → Int → Int → Int → List (S98) → List (S103) → List Int → List Int → List Int → Int → Option (Bool)
 | 0, _, _, _, _, _, _, _, _, _, _ => none
 | k + 1, x2, x20, x27, x1, x21, x22, x23, x24, x25, x26 => if x1 < x27 then ((impl_isFree.f k x21 x22 x23 x24 x25 x26 x2 x20 x1).bind fun t28 => (if t28 = true then ((impl_copyList.f x2).bind fun t6 => ((some (([x1] : List Int) : List Int)).bind fun y4 => (if t6.length + y4.length < 17592186044416 then ((impl_hasPlacing.f k x21 x22 x23 x24 x25 x26 (t6 ++ y4)).bind fun t29 => (if t29 = true then (some true) else (impl_hasPlacing.l0 k x2 x20 x27 (wrap64 (x1 + 1)) x21 x22 x23 x24 x25 x26))) else (none)))) else (impl_hasPlacing.l0 k x2 x20 x27 (wrap64 (x1 + 1)) x21 x22 x23 x24 x25 x26))) else (some false)
def impl_hasPlacing.f : Nat → List (S98) → List (S103) → List Int → List Int → List Int → Int → List Int → Option (Bool)
 | 0, _, _, _, _, _, _, _ => none
 | k + 1, l0_0, l0_1, l0_2, l0_3, l0_4, a0_5, l1 => if (l1.length : Int) = (l0_2.length : Int) then (some true) else (impl_hasPlacing.l0 k l1 (l1.length : Int) (l0_3.length : Int) 0 l0_0 l0_1 l0_2 l0_3 l0_4 a0_5)
end
def impl_hasPlacing.T7 : Bool × List (List Nat × List Nat) := (true, [([], []), ([], []), ([], []), ([], []), ([0, 1, 2, 3], [0, 1, 2, 3]), ([4, 4], [4]), ([5], [5]), ([5], [5]), ([7, 5, 5], [5, 7]), ([5], [5]), ([9, 5], [5, 9]), ([8, 10, 8, 5], [5, 8, 10]), ([6, 11, 11, 5], [5, 6, 11]), ([5, 12], [5, 12])])
def impl_hasPlacing.B7 : List Nat := [0, 0, 0, 0, 15, 31, 63, 63, 191, 63, 575, 1983, 4095, 8191]
theorem impl_hasPlacing.tab7 : rtab .any (opsOf Try.f89 7) = impl_hasPlacing.T7 := by kernel_rfl
theorem impl_hasPlacing.bits7 : waitsOk impl_hasPlacing.T7.2 impl_hasPlacing.B7 = true := by kernel_rfl
set_option maxHeartbeats 8000000 in
set_option maxRecDepth 100000 in
theorem impl_hasPlacing.calls (k : Nat) : ∀ (A0_0 : Option Addr) (c0_0 : Nat) (l0_0 : List (S98)) (A0_1 : Option Addr) (c0_1 : Nat) (l0_1 : List (S103)) (A0_2 : Option Addr) (c0_2 : Nat) (l0_2 : List Int) (A0_3 : Option Addr) (c0_3 : Nat) (l0_3 : List Int) (A0_4 : Option Addr) (c0_4 : Nat) (l0_4 : List Int) (a0_5 : Int) (A1 : Option Addr) (c1 : Nat) (l1 : List Int) (r : Bool) (w : World) (hr0_0 : Kd.C k98 w A0_0 l0_0.length l0_0) (hc0_0 : l0_0.length ≤ c0_0) (hr0_1 : Kd.C k103 w A0_1 l0_1.length l0_1) (hc0_1 : l0_1.length ≤ c0_1) (hr0_2 : Kd.C (Kd.int .i64) w A0_2 l0_2.length l0_2) (hc0_2 : l0_2.length ≤ c0_2) (hr0_3 : Kd.C (Kd.int .i64) w A0_3 l0_3.length l0_3) (hc0_3 : l0_3.length ≤ c0_3) (hr0_4 : Kd.C (Kd.int .i64) w A0_4 l0_4.length l0_4) (hc0_4 : l0_4.length ≤ c0_4) (hr1 : Kd.C (Kd.int .i64) w A1 l1.length l1) (hc1 : l1.length ≤ c1) (h : impl_hasPlacing.f k l0_0 l0_1 l0_2 l0_3 l0_4 a0_5 l1 = some r),
  Calls Try.prog 89 #[.agg (f5 A0_0 l0_0 c0_0 A0_1 l0_1 c0_1 A0_2 l0_2 c0_2 A0_3 l0_3 c0_3 A0_4 l0_4 c0_4 a0_5), .slice A1 l1.length c1] w fun e w' => e = .returned (.bool r) ∧ Below w.heap.size w w' := by
 induction k using Nat.strongRecOn with
 | _ k ih =>
 intro A0_0 c0_0 l0_0 A0_1 c0_1 l0_1 A0_2 c0_2 l0_2 A0_3 c0_3 l0_3 A0_4 c0_4 l0_4 a0_5 A1 c1 l1 r w hr0_0 hc0_0 hr0_1 hc0_1 hr0_2 hc0_2 hr0_3 hc0_3 hr0_4 hc0_4 hr1 hc1 h
 cases k with
 | zero => exact absurd h (by simp [impl_hasPlacing.f])
 | succ k =>
 simp only [impl_hasPlacing.f] at h
 have hu33 := Try.underlying33; have HR0_0 := ak hr0_0; have HC0_0 := ak hc0_0; clear hr0_0 hc0_0; have HR0_1 := ak hr0_1; have HC0_1 := ak hc0_1; clear hr0_1 hc0_1; have HR0_2 := ak hr0_2; have HC0_2 := ak hc0_2; clear hr0_2 hc0_2; have HR0_3 := ak hr0_3; have HC0_3 := ak hc0_3; clear hr0_3 hc0_3; have HR0_4 := ak hr0_4; have HC0_4 := ak hc0_4; clear hr0_4 hc0_4; have HR1 := ak hr1; have HC1 := ak hc1; clear hr1 hc1; have HB := ak (Below.refl w.heap.size w); have H := h; clear h; by_cases c3 : (l1.length : Int) = (l0_2.length : Int)
 ·rw [if_pos c3] at H; obtain ⟨c3b0, c3b1⟩ := bqt c3; have c3b2 : (l1.length == l0_2.length) = true := by first | simpa using c3 | (simp at c3 ⊢; omega)
  clear c3; obtain rfl := sj H; go_enter Try.func89, Try.ntmps89; go_wp2_with (first | ((with_reducible refine gate_dst (N := 2) rfl ?_); (try (refine gate_guard (by rfl) ?_; dsimp only)); refine bx 2 (f5 A0_0 l0_0 c0_0 A0_1 l0_1 c0_1 A0_2 l0_2 c0_2 A0_3 l0_3 c0_3 A0_4 l0_4 c0_4 a0_5) 33 ?_; intro gb0 hg w4 hbox hb; have BK0 := ak hbox; have GW1245 := gw hg HB; have GE0 := gw hg HB; replace HB := bs HB hb; clear hb hbox hg; have hcz20 := cz6 BK0.1))
  go_ret
  exact ⟨ew, vb HB.1⟩
 ·rw [if_neg c3] at H; obtain ⟨c3b0, c3b1⟩ := bqf c3; have c3b2 : (l1.length == l0_2.length) = false := by first | simpa using c3 | (simp at c3 ⊢; omega)
  have H' := ak H; clear H; go_enter Try.func89, Try.ntmps89; go_wp2_with (first | ((with_reducible refine gate_dst (N := 2) rfl ?_); (try (refine gate_guard (by rfl) ?_; dsimp only)); refine bx 2 (f5 A0_0 l0_0 c0_0 A0_1 l0_1 c0_1 A0_2 l0_2 c0_2 A0_3 l0_3 c0_3 A0_4 l0_4 c0_4 a0_5) 33 ?_; intro gb0 hg w6 hbox hb; have BK0 := ak hbox; have GW1245 := gw hg HB; have GE0 := gw hg HB; replace HB := bs HB hb; clear hb hbox hg; have hcz31 := cz6 BK0.1))
  go_loopg [17] k (fun kq v1 w' => ∃ (x1_2 : Int), v1 = .int .i64 x1_2 ∧ Aside0 (impl_hasPlacing.l0 kq l1 (l1.length : Int) (l0_3.length : Int) x1_2 l0_0 l0_1 l0_2 l0_3 l0_4 a0_5 = some r) ∧ Aside0 (kq ≤ k) ∧ Aside0 (w'.heap[gb0]? = some (.cells (f5 A0_0 l0_0 c0_0 A0_1 l0_1 c0_1 A0_2 l0_2 c0_2 A0_3 l0_3 c0_3 A0_4 l0_4 c0_4 a0_5) 33 (0, 0))) ∧ Aside0 (Below w.heap.size w w'))
  case atStart => exact ⟨(0), es, H', ⟨Nat.le_refl _⟩, ⟨vk BK0.1⟩, ⟨vb HB.1⟩⟩
  case round =>
   clear H'; obtain ⟨x1_2, rfl, HA, HK1, BK0, HB⟩ := hrel
   cases gk with
   | zero => exact absurd HA.1 (by simp [impl_hasPlacing.l0])
   | succ k1 =>
    have H := HA.1; clear HA; simp only [impl_hasPlacing.l0] at H
    by_cases c8 : x1_2 < (l0_3.length : Int)
    ·rw [if_pos c8] at H; have c8b0 := decide_eq_true c8; clear c8; obtain ⟨t28, A9, H⟩ := bnk H; by_cases c10 : t28 = true
     ·subst c10; rw [if_pos rfl] at H; obtain ⟨t6, A11, H⟩ := bnk H; obtain ⟨y4, Ny4, H⟩ := bnE H; by_cases c12 : t6.length + y4.length < 17592186044416
      ·rw [if_pos c12] at H; have LMc12 := ak c12; clear c12; obtain ⟨y10, hy10⟩ := gen_ ((t6 ++ y4 : List Int)); rw [← hy10] at H; have Ny10 := ak hy10; clear hy10; obtain ⟨t29, A13, H⟩ := bnk H; by_cases c14 : t29 = true
       ·subst c14; rw [if_pos rfl] at H; obtain rfl := sj H; (try go_wp2)
        replace BK0 := ak (blk_drew BK0.1); replace HB := ak (below_drew1 HB.1); refine start_ (n := 14) (S := fun w' => w'.cell? ⟨gb0, 0, none⟩ = some (.slice A0_0 l0_0.length c0_0) ∧ w'.cell? ⟨gb0, 1, none⟩ = some (.slice A0_1 l0_1.length c0_1) ∧ w'.cell? ⟨gb0, 2, none⟩ = some (.slice A0_2 l0_2.length c0_2) ∧ w'.cell? ⟨gb0, 3, none⟩ = some (.slice A0_3 l0_3.length c0_3) ∧ w'.cell? ⟨gb0, 4, none⟩ = some (.slice A0_4 l0_4.length c0_4) ∧ w'.cell? ⟨gb0, 5, none⟩ = some (.int .i64 a0_5)) (ds := []) (tf 0 14) (by kernel_rfl) rfl rfl (cy6 BK0.1) (fun hHeld => ?_); refine with_tabW impl_hasPlacing.tab7 impl_hasPlacing.bits7 (fun HT_ HW_ => ?_); generalize wr.drew = w15 at BK0 HB hHeld ⊢; refine pu_ 1 21 (tM [0, 1, 1, 12]) rfl rfl ?_; refine pu_ 2 22 (tM [0, 1, 2, 11]) rfl rfl ?_; refine pu_ 3 23 (tM [0, 1, 3, 10]) rfl rfl ?_; refine ta6_ 0 20 (tf 4 10) rfl rfl ?_; refine one_ (i := 4) (N := some 24) (tf 5 9) rfl rfl (one_of HT_.1 (by kernel_rfl)) (by decide) (fun K hK => ?_); refine goes_ Try.func113 (by kernel_rfl) rfl #[.agg (f5 A0_0 l0_0 c0_0 A0_1 l0_1 c0_1 A0_2 l0_2 c0_2 A0_3 l0_3 c0_3 A0_4 l0_4 c0_4 a0_5), .slice A1 l1.length c1, .int .i64 (l1.length : Int), .int .i64 x1_2] (by rfl) rfl rfl (by (try simp only [List.map_toArray, List.map_cons, List.map_nil]); first | done | rfl | (simp only [List.length_drop, List.length_take]; rfl)) ?_
        with_reducible refine (impl_isFree.calls k1 _ _ l0_0 _ _ l0_1 _ _ l0_2 _ _ l0_3 _ _ l0_4 a0_5 _ _ l1 (l1.length : Int) x1_2 true _ ?_ ?_ ?_ ?_ ?_ ?_ ?_ ?_ ?_ ?_ ?_ ?_ A9.1).mono ?_
        exact vd HR0_0.1 HB.1
        exact HC0_0.1
        exact vd HR0_1.1 HB.1
        exact HC0_1.1
        exact vd HR0_2.1 HB.1
        exact HC0_2.1
        exact vd HR0_3.1 HB.1
        exact HC0_3.1
        exact vd HR0_4.1 HB.1
        exact HC0_4.1
        exact vd HR1.1 HB.1
        exact HC1.1
        rintro e w16 ⟨rfl, hb⟩; refine ⟨_, rfl, ?_⟩; replace BK0 := kb BK0 hb; replace HB := bs HB hb; (try clear hb)
        (try clear hb2)
        (try clear hk)
        (try clear hi)
        refine hK.out _ _ (cy6 BK0.1) (fun hHeld => ?_); clear hK K; refine norm_ (a' := ?_) ?_ ?_
        rotate_left
        ·show Act.put _ (some 24) _ = _
         simp only [Act.put, List.setIfInBounds_toArray, List.set_cons_zero, List.set_cons_succ, i64_w, i32_w]
         rfl
        refine pu_ 5 25 (tf 6 8) rfl rfl ?_; refine pu_ 7 27 (tM [6, 1, 1, 6]) rfl rfl ?_; refine pu_ 9 29 (tM [6, 1, 1, 1, 1, 4]) rfl rfl ?_; refine ta6_ 6 26 (tM [8, 1, 1, 4]) rfl rfl ?_; refine join_ (σ := Value × Value) 3 (tf 11 3) (fun s_ => [(28, s_.1), (30, s_.2)]) (fun s_ w' => (w'.cell? ⟨gb0, 0, none⟩ = some (.slice A0_0 l0_0.length c0_0) ∧ w'.cell? ⟨gb0, 1, none⟩ = some (.slice A0_1 l0_1.length c0_1) ∧ w'.cell? ⟨gb0, 2, none⟩ = some (.slice A0_2 l0_2.length c0_2) ∧ w'.cell? ⟨gb0, 3, none⟩ = some (.slice A0_3 l0_3.length c0_3) ∧ w'.cell? ⟨gb0, 4, none⟩ = some (.slice A0_4 l0_4.length c0_4) ∧ w'.cell? ⟨gb0, 5, none⟩ = some (.int .i64 a0_5)) ∧ (Kd.R (Kd.int .i64) 2 w' w.heap.size (fun k_ => some k_ ≠ (s_.2 : Value).ownBlock) s_.1 t6) ∧ (Kd.R (Kd.int .i64) 2 w' w.heap.size (fun k_ => some k_ ≠ (s_.1 : Value).ownBlock) s_.2 y4) ∧ (w'.heap[gb0]? = some (.cells (f5 A0_0 l0_0 c0_0 A0_1 l0_1 c0_1 A0_2 l0_2 c0_2 A0_3 l0_3 c0_3 A0_4 l0_4 c0_4 a0_5) 33 (0, 0))) ∧ (Below w.heap.size w w')) ?_ ?_
        rotate_left
        ·intro hCont; refine two_ (i := 8) (j := 10) (Ni := some 28) (Nj := some 30) (tf 10 4) (tM [8, 1, 2, 3]) rfl rfl rfl rfl (two_of HT_.1 (by kernel_rfl)) (by decide) (by decide) (fun K hK => ?_) (fun K hK => ?_)
         ·skip
          refine goes_ Try.func91 (by kernel_rfl) rfl #[.slice A1 l1.length c1] (by rfl) rfl rfl (by (try simp only [List.map_toArray, List.map_cons, List.map_nil]); first | done | rfl | (simp only [List.length_drop, List.length_take]; rfl)) ?_; with_reducible refine (impl_copyList.calls _ _ l1 t6 _ ?_ ?_ A11.1).mono ?_
          exact vd HR1.1 HB.1
          exact HC1.1
          rintro e w17 ⟨v7, rfl, ho8, hb⟩; refine ⟨_, rfl, ?_⟩; have HO5 := ak (Kd.R_lower ho8 (below_size (vb HB.1))); replace BK0 := kb BK0 hb; replace HB := bs HB hb; (try clear hb)
          (try clear hb2)
          (try clear hk)
          (try clear hi)
          (try clear ho8)
          refine hK.out _ _ (cy6 BK0.1) (fun hHeld => ?_); clear hK K; refine norm_ (a' := ?_) ?_ ?_
          rotate_left
          ·show Act.put _ (some 28) _ = _
           simp only [Act.put, List.setIfInBounds_toArray, List.set_cons_zero, List.set_cons_succ, i64_w, i32_w]
           rfl
          refine one_ (i := 10) (N := some 30) (tf 11 3) rfl rfl (one_of HT_.1 (by kernel_rfl)) (by decide) (fun K hK => ?_); refine Kd.R_lit_step (Kd.int .i64) _ 2 ?hg (N := 30) ?hd (xs := ([x1_2] : List Int)) (inner := [.int .i64 x1_2]) (ok := fun _ => True) (okp := fun _ => True) ?hr ?hp (fun _ hk => hk) trivial (Below.refl _ _) (Nat.le_refl _) (by simp) ?_; (case hd => rfl); (case hg => rfl); (case hr => first | (go_simp; done) | (go_simp; rfl)); (case hp => exact (Reps.one (show Kd.M (Kd.int .i64) _ _ _ x1_2 [.int .i64 x1_2] from rfl) (Reps.none _ _))); intro v9 w18 ho12 hb hg_ hnew_; clear hg_ hnew_; (first | rw [← Ny4.1] at ho12 | (simp only [Int.reduceToNat] at ho12; rw [← Ny4.1] at ho12))
          have HO3 := ak (Kd.R_lower (Kd.R_new' ho12 (Kd.R_lt (vr HO5.1))) (below_size (vb HB.1))); replace HO5 := ro HO5 ho12 hb; replace BK0 := kb BK0 hb; replace HB := bs HB hb; clear hb ho12; refine hK.out _ _ (cy6 BK0.1) (fun hHeld => ?_); clear hK K; refine norm_ (a' := ?_) ?_ ?_
          rotate_left
          ·show Act.put _ (some 30) _ = _
           simp only [Act.put, List.setIfInBounds_toArray, List.set_cons_zero, List.set_cons_succ, i64_w, i32_w]
           rfl
          exact norm_ (by simp only [putAll, Act.put, List.setIfInBounds_toArray, List.set_cons_zero, List.set_cons_succ]) (hCont (v7, v9) _ ⟨hHeld, (vr (Kd.R_mono HO5.1 (fun _ hk => hk.2))), (vr (Kd.R_mono HO3.1 (fun _ hk => hk.2))), (vk BK0.1), (vb HB.1)⟩)
         ·skip
          refine Kd.R_lit_step (Kd.int .i64) _ 2 ?hg (N := 30) ?hd (xs := ([x1_2] : List Int)) (inner := [.int .i64 x1_2]) (ok := fun _ => True) (okp := fun _ => True) ?hr ?hp (fun _ hk => hk) trivial (Below.refl _ _) (Nat.le_refl _) (by simp) ?_; (case hd => rfl); (case hg => rfl); (case hr => first | (go_simp; done) | (go_simp; rfl)); (case hp => exact (Reps.one (show Kd.M (Kd.int .i64) _ _ _ x1_2 [.int .i64 x1_2] from rfl) (Reps.none _ _))); intro v9 w17 ho18 hb hg_ hnew_; clear hg_ hnew_; (first | rw [← Ny4.1] at ho18 | (simp only [Int.reduceToNat] at ho18; rw [← Ny4.1] at ho18))
          have HO3 := ak (Kd.R_lower ho18 (below_size (vb HB.1))); replace BK0 := kb BK0 hb; replace HB := bs HB hb; clear hb ho18; refine hK.out _ _ (cy6 BK0.1) (fun hHeld => ?_); clear hK K; refine norm_ (a' := ?_) ?_ ?_
          rotate_left
          ·show Act.put _ (some 30) _ = _
           simp only [Act.put, List.setIfInBounds_toArray, List.set_cons_zero, List.set_cons_succ, i64_w, i32_w]
           rfl
          refine one_ (i := 8) (N := some 28) (tf 11 3) rfl rfl (one_of HT_.1 (by kernel_rfl)) (by decide) (fun K hK => ?_); refine goes_ Try.func91 (by kernel_rfl) rfl #[.slice A1 l1.length c1] (by rfl) rfl rfl (by (try simp only [List.map_toArray, List.map_cons, List.map_nil]); first | done | rfl | (simp only [List.length_drop, List.length_take]; rfl)) ?_; with_reducible refine (impl_copyList.calls _ _ l1 t6 _ ?_ ?_ A11.1).mono ?_
          exact vd HR1.1 HB.1
          exact HC1.1
          rintro e w19 ⟨v7, rfl, ho8, hb⟩; refine ⟨_, rfl, ?_⟩; have HO5 := ak (Kd.R_lower (Kd.R_new' ho8 (Kd.R_lt (vr HO3.1))) (below_size (vb HB.1))); replace HO3 := ro HO3 ho8 hb; replace BK0 := kb BK0 hb; replace HB := bs HB hb; (try clear hb)
          (try clear hb2)
          (try clear hk)
          (try clear hi)
          (try clear ho8)
          refine hK.out _ _ (cy6 BK0.1) (fun hHeld => ?_); clear hK K; refine norm_ (a' := ?_) ?_ ?_
          rotate_left
          ·show Act.put _ (some 28) _ = _
           simp only [Act.put, List.setIfInBounds_toArray, List.set_cons_zero, List.set_cons_succ, i64_w, i32_w]
           rfl
          exact norm_ (by simp only [putAll, Act.put, List.setIfInBounds_toArray, List.set_cons_zero, List.set_cons_succ]) (hCont (v7, v9) _ ⟨hHeld, (vr (Kd.R_mono HO5.1 (fun _ hk => hk.2))), (vr (Kd.R_mono HO3.1 (fun _ hk => hk.2))), (vk BK0.1), (vb HB.1)⟩)
        rintro ⟨v7, v9⟩ w20 ⟨hS_, h0_, h1_, h2_, h3_⟩; have n0_ : Aside0 (Kd.R (Kd.int .i64) 2 w20 w.heap.size (fun k_ => some k_ ≠ (v9 : Value).ownBlock) v7 t6) := ⟨h0_⟩; have n1_ : Aside0 (Kd.R (Kd.int .i64) 2 w20 w.heap.size (fun k_ => some k_ ≠ (v7 : Value).ownBlock) v9 y4) := ⟨h1_⟩; have n2_ : Aside0 (w20.heap[gb0]? = some (.cells (f5 A0_0 l0_0 c0_0 A0_1 l0_1 c0_1 A0_2 l0_2 c0_2 A0_3 l0_3 c0_3 A0_4 l0_4 c0_4 a0_5) 33 (0, 0))) := ⟨h2_⟩; have n3_ : Aside0 (Below w.heap.size w w20) := ⟨h3_⟩; clear BK0; clear HB; clear h0_ h1_ h2_ h3_; have HO5 := n0_; have HO3 := n1_; have BK0 := n2_; have HB := n3_; clear n0_ n1_ n2_ n3_; have hHeld : w20.cell? ⟨gb0, 0, none⟩ = some (.slice A0_0 l0_0.length c0_0) ∧ w20.cell? ⟨gb0, 1, none⟩ = some (.slice A0_1 l0_1.length c0_1) ∧ w20.cell? ⟨gb0, 2, none⟩ = some (.slice A0_2 l0_2.length c0_2) ∧ w20.cell? ⟨gb0, 3, none⟩ = some (.slice A0_3 l0_3.length c0_3) ∧ w20.cell? ⟨gb0, 4, none⟩ = some (.slice A0_4 l0_4.length c0_4) ∧ w20.cell? ⟨gb0, 5, none⟩ = some (.int .i64 a0_5) := hS_; obtain ⟨Ao13, co13, eo13⟩ := Kd.R_slice HO3.1; (first | subst eo13 | (injection eo13 with f1_ f2_ f3_; have f4_ := f1_.symm; have f5_ := f3_.symm; clear f1_ f2_ f3_; subst f4_; subst f5_))
        refine norm_ (a' := ?_) ?_ ?_
        rotate_left
        ·simp only [putAll, Act.put, List.setIfInBounds_toArray, List.set_cons_zero, List.set_cons_succ]
         rfl
        refine one_ (i := 11) (N := some 31) (tf 12 2) rfl rfl (one_of HT_.1 (by kernel_rfl)) (by decide) (fun K hK => ?_); refine Kd.R_append_rows_step (Kd.int .i64) (w0 := w) w.heap.size (by rfl) (.tmp 28) (.tmp 30) 24 2 (.int .i64 0) 8 rfl Try.underlying24 info2 rfl (by decide) (by omega) v7 t6 y4 _ _ _ (fun k_ => nB k_ Ao13 y4.length co13) (fun _ => False) rfl rfl ?aO ?aR (fun _ _ h => h) (fun _ h => h.elim) ?aF ?aB ?aS ?aL ?_; (case aR => exact rc_ HO3)
        (case aB => exact (vb HB.1))
        (case aF => exact (fun k_ hk => Kd.fresh' (Kd.R_lt (vr HO3.1)) k_ hk))
        (case aO => exact (vr HO5.1))
        (case aS => exact (below_size (vb HB.1)))
        (case aL => have := LMc12.1; omega)
        intro v30 w21 ho hb hg hat; rw [← Ny10.1] at ho; have n0_ := ak (blk_grown (g := gb0) (o := .cells (f5 A0_0 l0_0 c0_0 A0_1 l0_1 c0_1 A0_2 l0_2 c0_2 A0_3 l0_3 c0_3 A0_4 l0_4 c0_4 a0_5) 33 (0, 0)) (vk BK0.1) hg (Kd.R_ne HO5.1 BK0.1 (by decide))); have n1_ := ak (Kd.R_after (ok := (fun _ => True)) (vr (Kd.R_mono HO3.1 (fun _ hk => ⟨trivial, hk⟩))) hg hat); have n2_ := ak (hb); have n3_ := ak (ho); clear BK0; clear HO3; clear HB; clear HO5; have BK0 := n0_; have HO3 := n1_; have HB := n2_; have HO11 := n3_; clear n0_ n1_ n2_ n3_; clear ho hb hg hat; obtain ⟨Ao14, co14, eo14⟩ := Kd.R_slice HO11.1; (first | subst eo14 | (injection eo14 with f1_ f2_ f3_; have f4_ := f1_.symm; have f5_ := f3_.symm; clear f1_ f2_ f3_; subst f4_; subst f5_))
        refine hK.out _ _ (cy6 BK0.1) (fun hHeld => ?_); clear hK K; refine norm_ (a' := ?_) ?_ ?_
        rotate_left
        ·show Act.put _ (some 31) _ = _
         simp only [Act.put, List.setIfInBounds_toArray, List.set_cons_zero, List.set_cons_succ, i64_w, i32_w]
         rfl
        refine one_ (i := 12) (N := some 32) (tf 13 1) rfl rfl (one_of HT_.1 (by kernel_rfl)) (by decide) (fun K hK => ?_); refine goes_ Try.func89 (by kernel_rfl) rfl #[.agg (f5 A0_0 l0_0 c0_0 A0_1 l0_1 c0_1 A0_2 l0_2 c0_2 A0_3 l0_3 c0_3 A0_4 l0_4 c0_4 a0_5), .slice Ao14 y10.length co14] (by rfl) rfl rfl (by (try simp only [List.map_toArray, List.map_cons, List.map_nil]); first | done | rfl | (simp only [List.length_drop, List.length_take]; rfl)) ?_; with_reducible refine (ih k1 (by have := HK1.1; omega) _ _ l0_0 _ _ l0_1 _ _ l0_2 _ _ l0_3 _ _ l0_4 a0_5 _ _ y10 true _ ?_ ?_ ?_ ?_ ?_ ?_ ?_ ?_ ?_ ?_ ?_ ?_ A13.1).mono ?_
        exact vd HR0_0.1 HB.1
        exact HC0_0.1
        exact vd HR0_1.1 HB.1
        exact HC0_1.1
        exact vd HR0_2.1 HB.1
        exact HC0_2.1
        exact vd HR0_3.1 HB.1
        exact HC0_3.1
        exact vd HR0_4.1 HB.1
        exact HC0_4.1
        exact rc_ HO11
        exact rl_ HO11
        rintro e w24 ⟨rfl, hb⟩; refine ⟨_, rfl, ?_⟩; replace HO3 := rb HO3 hb; replace HO11 := rb HO11 hb; replace BK0 := kb BK0 hb; replace HB := bs HB hb; (try clear hb)
        (try clear hb2)
        (try clear hk)
        (try clear hi)
        refine hK.out _ _ (cy6 BK0.1) (fun hHeld => ?_); clear hK K; refine norm_ (a' := ?_) ?_ ?_
        rotate_left
        ·show Act.put _ (some 32) _ = _
         simp only [Act.put, List.setIfInBounds_toArray, List.set_cons_zero, List.set_cons_succ, i64_w, i32_w]
         rfl
        refine pu_ 13 33 (tf 14 0) rfl rfl ?_; refine done_ (done_of HT_.1 (by kernel_rfl)) ?_; (try go_wp2)
        go_ret
        exact ⟨ew, vb HB.1⟩
       ·replace c14 := Bool.eq_false_iff.mpr c14; subst c14; rw [if_neg nf] at H; have H' := ak H; clear H; (try go_wp2)
        replace BK0 := ak (blk_drew BK0.1); replace HB := ak (below_drew1 HB.1); refine start_ (n := 14) (S := fun w' => w'.cell? ⟨gb0, 0, none⟩ = some (.slice A0_0 l0_0.length c0_0) ∧ w'.cell? ⟨gb0, 1, none⟩ = some (.slice A0_1 l0_1.length c0_1) ∧ w'.cell? ⟨gb0, 2, none⟩ = some (.slice A0_2 l0_2.length c0_2) ∧ w'.cell? ⟨gb0, 3, none⟩ = some (.slice A0_3 l0_3.length c0_3) ∧ w'.cell? ⟨gb0, 4, none⟩ = some (.slice A0_4 l0_4.length c0_4) ∧ w'.cell? ⟨gb0, 5, none⟩ = some (.int .i64 a0_5)) (ds := []) (tf 0 14) (by kernel_rfl) rfl rfl (cy6 BK0.1) (fun hHeld => ?_); refine with_tabW impl_hasPlacing.tab7 impl_hasPlacing.bits7 (fun HT_ HW_ => ?_); generalize wr.drew = w25 at BK0 HB hHeld ⊢; refine pu_ 1 21 (tM [0, 1, 1, 12]) rfl rfl ?_; refine pu_ 2 22 (tM [0, 1, 2, 11]) rfl rfl ?_; refine pu_ 3 23 (tM [0, 1, 3, 10]) rfl rfl ?_; refine ta6_ 0 20 (tf 4 10) rfl rfl ?_; refine one_ (i := 4) (N := some 24) (tf 5 9) rfl rfl (one_of HT_.1 (by kernel_rfl)) (by decide) (fun K hK => ?_); refine goes_ Try.func113 (by kernel_rfl) rfl #[.agg (f5 A0_0 l0_0 c0_0 A0_1 l0_1 c0_1 A0_2 l0_2 c0_2 A0_3 l0_3 c0_3 A0_4 l0_4 c0_4 a0_5), .slice A1 l1.length c1, .int .i64 (l1.length : Int), .int .i64 x1_2] (by rfl) rfl rfl (by (try simp only [List.map_toArray, List.map_cons, List.map_nil]); first | done | rfl | (simp only [List.length_drop, List.length_take]; rfl)) ?_
        with_reducible refine (impl_isFree.calls k1 _ _ l0_0 _ _ l0_1 _ _ l0_2 _ _ l0_3 _ _ l0_4 a0_5 _ _ l1 (l1.length : Int) x1_2 true _ ?_ ?_ ?_ ?_ ?_ ?_ ?_ ?_ ?_ ?_ ?_ ?_ A9.1).mono ?_
        exact vd HR0_0.1 HB.1
        exact HC0_0.1
        exact vd HR0_1.1 HB.1
        exact HC0_1.1
        exact vd HR0_2.1 HB.1
        exact HC0_2.1
        exact vd HR0_3.1 HB.1
        exact HC0_3.1
        exact vd HR0_4.1 HB.1
        exact HC0_4.1
        exact vd HR1.1 HB.1
        exact HC1.1
        rintro e w26 ⟨rfl, hb⟩; refine ⟨_, rfl, ?_⟩; replace BK0 := kb BK0 hb; replace HB := bs HB hb; (try clear hb)
        (try clear hb2)
        (try clear hk)
        (try clear hi)
        refine hK.out _ _ (cy6 BK0.1) (fun hHeld => ?_); clear hK K; refine norm_ (a' := ?_) ?_ ?_
        rotate_left
        ·show Act.put _ (some 24) _ = _
         simp only [Act.put, List.setIfInBounds_toArray, List.set_cons_zero, List.set_cons_succ, i64_w, i32_w]
         rfl
        refine pu_ 5 25 (tf 6 8) rfl rfl ?_; refine pu_ 7 27 (tM [6, 1, 1, 6]) rfl rfl ?_; refine pu_ 9 29 (tM [6, 1, 1, 1, 1, 4]) rfl rfl ?_; refine ta6_ 6 26 (tM [8, 1, 1, 4]) rfl rfl ?_; refine join_ (σ := Value × Value) 3 (tf 11 3) (fun s_ => [(28, s_.1), (30, s_.2)]) (fun s_ w' => (w'.cell? ⟨gb0, 0, none⟩ = some (.slice A0_0 l0_0.length c0_0) ∧ w'.cell? ⟨gb0, 1, none⟩ = some (.slice A0_1 l0_1.length c0_1) ∧ w'.cell? ⟨gb0, 2, none⟩ = some (.slice A0_2 l0_2.length c0_2) ∧ w'.cell? ⟨gb0, 3, none⟩ = some (.slice A0_3 l0_3.length c0_3) ∧ w'.cell? ⟨gb0, 4, none⟩ = some (.slice A0_4 l0_4.length c0_4) ∧ w'.cell? ⟨gb0, 5, none⟩ = some (.int .i64 a0_5)) ∧ (Kd.R (Kd.int .i64) 2 w' w.heap.size (fun k_ => some k_ ≠ (s_.2 : Value).ownBlock) s_.1 t6) ∧ (Kd.R (Kd.int .i64) 2 w' w.heap.size (fun k_ => some k_ ≠ (s_.1 : Value).ownBlock) s_.2 y4) ∧ (w'.heap[gb0]? = some (.cells (f5 A0_0 l0_0 c0_0 A0_1 l0_1 c0_1 A0_2 l0_2 c0_2 A0_3 l0_3 c0_3 A0_4 l0_4 c0_4 a0_5) 33 (0, 0))) ∧ (Below w.heap.size w w')) ?_ ?_
        rotate_left
        ·intro hCont; refine two_ (i := 8) (j := 10) (Ni := some 28) (Nj := some 30) (tf 10 4) (tM [8, 1, 2, 3]) rfl rfl rfl rfl (two_of HT_.1 (by kernel_rfl)) (by decide) (by decide) (fun K hK => ?_) (fun K hK => ?_)
         ·skip
          refine goes_ Try.func91 (by kernel_rfl) rfl #[.slice A1 l1.length c1] (by rfl) rfl rfl (by (try simp only [List.map_toArray, List.map_cons, List.map_nil]); first | done | rfl | (simp only [List.length_drop, List.length_take]; rfl)) ?_; with_reducible refine (impl_copyList.calls _ _ l1 t6 _ ?_ ?_ A11.1).mono ?_
          exact vd HR1.1 HB.1
          exact HC1.1
          rintro e w27 ⟨v7, rfl, ho8, hb⟩; refine ⟨_, rfl, ?_⟩; have HO5 := ak (Kd.R_lower ho8 (below_size (vb HB.1))); replace BK0 := kb BK0 hb; replace HB := bs HB hb; (try clear hb)
          (try clear hb2)
          (try clear hk)
          (try clear hi)
          (try clear ho8)
          refine hK.out _ _ (cy6 BK0.1) (fun hHeld => ?_); clear hK K; refine norm_ (a' := ?_) ?_ ?_
          rotate_left
          ·show Act.put _ (some 28) _ = _
           simp only [Act.put, List.setIfInBounds_toArray, List.set_cons_zero, List.set_cons_succ, i64_w, i32_w]
           rfl
          refine one_ (i := 10) (N := some 30) (tf 11 3) rfl rfl (one_of HT_.1 (by kernel_rfl)) (by decide) (fun K hK => ?_); refine Kd.R_lit_step (Kd.int .i64) _ 2 ?hg (N := 30) ?hd (xs := ([x1_2] : List Int)) (inner := [.int .i64 x1_2]) (ok := fun _ => True) (okp := fun _ => True) ?hr ?hp (fun _ hk => hk) trivial (Below.refl _ _) (Nat.le_refl _) (by simp) ?_; (case hd => rfl); (case hg => rfl); (case hr => first | (go_simp; done) | (go_simp; rfl)); (case hp => exact (Reps.one (show Kd.M (Kd.int .i64) _ _ _ x1_2 [.int .i64 x1_2] from rfl) (Reps.none _ _))); intro v9 w28 ho15 hb hg_ hnew_; clear hg_ hnew_; (first | rw [← Ny4.1] at ho15 | (simp only [Int.reduceToNat] at ho15; rw [← Ny4.1] at ho15))
          have HO3 := ak (Kd.R_lower (Kd.R_new' ho15 (Kd.R_lt (vr HO5.1))) (below_size (vb HB.1))); replace HO5 := ro HO5 ho15 hb; replace BK0 := kb BK0 hb; replace HB := bs HB hb; clear hb ho15; refine hK.out _ _ (cy6 BK0.1) (fun hHeld => ?_); clear hK K; refine norm_ (a' := ?_) ?_ ?_
          rotate_left
          ·show Act.put _ (some 30) _ = _
           simp only [Act.put, List.setIfInBounds_toArray, List.set_cons_zero, List.set_cons_succ, i64_w, i32_w]
           rfl
          exact norm_ (by simp only [putAll, Act.put, List.setIfInBounds_toArray, List.set_cons_zero, List.set_cons_succ]) (hCont (v7, v9) _ ⟨hHeld, (vr (Kd.R_mono HO5.1 (fun _ hk => hk.2))), (vr (Kd.R_mono HO3.1 (fun _ hk => hk.2))), (vk BK0.1), (vb HB.1)⟩)
         ·skip
          refine Kd.R_lit_step (Kd.int .i64) _ 2 ?hg (N := 30) ?hd (xs := ([x1_2] : List Int)) (inner := [.int .i64 x1_2]) (ok := fun _ => True) (okp := fun _ => True) ?hr ?hp (fun _ hk => hk) trivial (Below.refl _ _) (Nat.le_refl _) (by simp) ?_; (case hd => rfl); (case hg => rfl); (case hr => first | (go_simp; done) | (go_simp; rfl)); (case hp => exact (Reps.one (show Kd.M (Kd.int .i64) _ _ _ x1_2 [.int .i64 x1_2] from rfl) (Reps.none _ _))); intro v9 w27 ho19 hb hg_ hnew_; clear hg_ hnew_; (first | rw [← Ny4.1] at ho19 | (simp only [Int.reduceToNat] at ho19; rw [← Ny4.1] at ho19))
          have HO3 := ak (Kd.R_lower ho19 (below_size (vb HB.1))); replace BK0 := kb BK0 hb; replace HB := bs HB hb; clear hb ho19; refine hK.out _ _ (cy6 BK0.1) (fun hHeld => ?_); clear hK K; refine norm_ (a' := ?_) ?_ ?_
          rotate_left
          ·show Act.put _ (some 30) _ = _
           simp only [Act.put, List.setIfInBounds_toArray, List.set_cons_zero, List.set_cons_succ, i64_w, i32_w]
           rfl
          refine one_ (i := 8) (N := some 28) (tf 11 3) rfl rfl (one_of HT_.1 (by kernel_rfl)) (by decide) (fun K hK => ?_); refine goes_ Try.func91 (by kernel_rfl) rfl #[.slice A1 l1.length c1] (by rfl) rfl rfl (by (try simp only [List.map_toArray, List.map_cons, List.map_nil]); first | done | rfl | (simp only [List.length_drop, List.length_take]; rfl)) ?_; with_reducible refine (impl_copyList.calls _ _ l1 t6 _ ?_ ?_ A11.1).mono ?_
          exact vd HR1.1 HB.1
          exact HC1.1
          rintro e w29 ⟨v7, rfl, ho8, hb⟩; refine ⟨_, rfl, ?_⟩; have HO5 := ak (Kd.R_lower (Kd.R_new' ho8 (Kd.R_lt (vr HO3.1))) (below_size (vb HB.1))); replace HO3 := ro HO3 ho8 hb; replace BK0 := kb BK0 hb; replace HB := bs HB hb; (try clear hb)
          (try clear hb2)
          (try clear hk)
          (try clear hi)
          (try clear ho8)
          refine hK.out _ _ (cy6 BK0.1) (fun hHeld => ?_); clear hK K; refine norm_ (a' := ?_) ?_ ?_
          rotate_left
          ·show Act.put _ (some 28) _ = _
           simp only [Act.put, List.setIfInBounds_toArray, List.set_cons_zero, List.set_cons_succ, i64_w, i32_w]
           rfl
          exact norm_ (by simp only [putAll, Act.put, List.setIfInBounds_toArray, List.set_cons_zero, List.set_cons_succ]) (hCont (v7, v9) _ ⟨hHeld, (vr (Kd.R_mono HO5.1 (fun _ hk => hk.2))), (vr (Kd.R_mono HO3.1 (fun _ hk => hk.2))), (vk BK0.1), (vb HB.1)⟩)
        rintro ⟨v7, v9⟩ w30 ⟨hS_, h0_, h1_, h2_, h3_⟩; have n0_ : Aside0 (Kd.R (Kd.int .i64) 2 w30 w.heap.size (fun k_ => some k_ ≠ (v9 : Value).ownBlock) v7 t6) := ⟨h0_⟩; have n1_ : Aside0 (Kd.R (Kd.int .i64) 2 w30 w.heap.size (fun k_ => some k_ ≠ (v7 : Value).ownBlock) v9 y4) := ⟨h1_⟩; have n2_ : Aside0 (w30.heap[gb0]? = some (.cells (f5 A0_0 l0_0 c0_0 A0_1 l0_1 c0_1 A0_2 l0_2 c0_2 A0_3 l0_3 c0_3 A0_4 l0_4 c0_4 a0_5) 33 (0, 0))) := ⟨h2_⟩; have n3_ : Aside0 (Below w.heap.size w w30) := ⟨h3_⟩; clear BK0; clear HB; clear h0_ h1_ h2_ h3_; have HO5 := n0_; have HO3 := n1_; have BK0 := n2_; have HB := n3_; clear n0_ n1_ n2_ n3_; have hHeld : w30.cell? ⟨gb0, 0, none⟩ = some (.slice A0_0 l0_0.length c0_0) ∧ w30.cell? ⟨gb0, 1, none⟩ = some (.slice A0_1 l0_1.length c0_1) ∧ w30.cell? ⟨gb0, 2, none⟩ = some (.slice A0_2 l0_2.length c0_2) ∧ w30.cell? ⟨gb0, 3, none⟩ = some (.slice A0_3 l0_3.length c0_3) ∧ w30.cell? ⟨gb0, 4, none⟩ = some (.slice A0_4 l0_4.length c0_4) ∧ w30.cell? ⟨gb0, 5, none⟩ = some (.int .i64 a0_5) := hS_; obtain ⟨Ao16, co16, eo16⟩ := Kd.R_slice HO3.1; (first | subst eo16 | (injection eo16 with f1_ f2_ f3_; have f4_ := f1_.symm; have f5_ := f3_.symm; clear f1_ f2_ f3_; subst f4_; subst f5_))
        refine norm_ (a' := ?_) ?_ ?_
        rotate_left
        ·simp only [putAll, Act.put, List.setIfInBounds_toArray, List.set_cons_zero, List.set_cons_succ]
         rfl
        refine one_ (i := 11) (N := some 31) (tf 12 2) rfl rfl (one_of HT_.1 (by kernel_rfl)) (by decide) (fun K hK => ?_); refine Kd.R_append_rows_step (Kd.int .i64) (w0 := w) w.heap.size (by rfl) (.tmp 28) (.tmp 30) 24 2 (.int .i64 0) 8 rfl Try.underlying24 info2 rfl (by decide) (by omega) v7 t6 y4 _ _ _ (fun k_ => nB k_ Ao16 y4.length co16) (fun _ => False) rfl rfl ?aO ?aR (fun _ _ h => h) (fun _ h => h.elim) ?aF ?aB ?aS ?aL ?_; (case aR => exact rc_ HO3)
        (case aB => exact (vb HB.1))
        (case aF => exact (fun k_ hk => Kd.fresh' (Kd.R_lt (vr HO3.1)) k_ hk))
        (case aO => exact (vr HO5.1))
        (case aS => exact (below_size (vb HB.1)))
        (case aL => have := LMc12.1; omega)
        intro v30 w31 ho hb hg hat; rw [← Ny10.1] at ho; have n0_ := ak (blk_grown (g := gb0) (o := .cells (f5 A0_0 l0_0 c0_0 A0_1 l0_1 c0_1 A0_2 l0_2 c0_2 A0_3 l0_3 c0_3 A0_4 l0_4 c0_4 a0_5) 33 (0, 0)) (vk BK0.1) hg (Kd.R_ne HO5.1 BK0.1 (by decide))); have n1_ := ak (Kd.R_after (ok := (fun _ => True)) (vr (Kd.R_mono HO3.1 (fun _ hk => ⟨trivial, hk⟩))) hg hat); have n2_ := ak (hb); have n3_ := ak (ho); clear BK0; clear HO3; clear HB; clear HO5; have BK0 := n0_; have HO3 := n1_; have HB := n2_; have HO11 := n3_; clear n0_ n1_ n2_ n3_; clear ho hb hg hat; obtain ⟨Ao17, co17, eo17⟩ := Kd.R_slice HO11.1; (first | subst eo17 | (injection eo17 with f1_ f2_ f3_; have f4_ := f1_.symm; have f5_ := f3_.symm; clear f1_ f2_ f3_; subst f4_; subst f5_))
        refine hK.out _ _ (cy6 BK0.1) (fun hHeld => ?_); clear hK K; refine norm_ (a' := ?_) ?_ ?_
        rotate_left
        ·show Act.put _ (some 31) _ = _
         simp only [Act.put, List.setIfInBounds_toArray, List.set_cons_zero, List.set_cons_succ, i64_w, i32_w]
         rfl
        refine one_ (i := 12) (N := some 32) (tf 13 1) rfl rfl (one_of HT_.1 (by kernel_rfl)) (by decide) (fun K hK => ?_); refine goes_ Try.func89 (by kernel_rfl) rfl #[.agg (f5 A0_0 l0_0 c0_0 A0_1 l0_1 c0_1 A0_2 l0_2 c0_2 A0_3 l0_3 c0_3 A0_4 l0_4 c0_4 a0_5), .slice Ao17 y10.length co17] (by rfl) rfl rfl (by (try simp only [List.map_toArray, List.map_cons, List.map_nil]); first | done | rfl | (simp only [List.length_drop, List.length_take]; rfl)) ?_; with_reducible refine (ih k1 (by have := HK1.1; omega) _ _ l0_0 _ _ l0_1 _ _ l0_2 _ _ l0_3 _ _ l0_4 a0_5 _ _ y10 false _ ?_ ?_ ?_ ?_ ?_ ?_ ?_ ?_ ?_ ?_ ?_ ?_ A13.1).mono ?_
        exact vd HR0_0.1 HB.1
        exact HC0_0.1
        exact vd HR0_1.1 HB.1
        exact HC0_1.1
        exact vd HR0_2.1 HB.1
        exact HC0_2.1
        exact vd HR0_3.1 HB.1
        exact HC0_3.1
        exact vd HR0_4.1 HB.1
        exact HC0_4.1
        exact rc_ HO11
        exact rl_ HO11
        rintro e w34 ⟨rfl, hb⟩; refine ⟨_, rfl, ?_⟩; replace HO3 := rb HO3 hb; replace HO11 := rb HO11 hb; replace BK0 := kb BK0 hb; replace HB := bs HB hb; (try clear hb)
        (try clear hb2)
        (try clear hk)
        (try clear hi)
        refine hK.out _ _ (cy6 BK0.1) (fun hHeld => ?_); clear hK K; refine norm_ (a' := ?_) ?_ ?_
        rotate_left
        ·show Act.put _ (some 32) _ = _
         simp only [Act.put, List.setIfInBounds_toArray, List.set_cons_zero, List.set_cons_succ, i64_w, i32_w]
         rfl
        refine pu_ 13 33 (tf 14 0) rfl rfl ?_; refine done_ (done_of HT_.1 (by kernel_rfl)) ?_; (try go_wp2)
        go_roundg k1
        case measure => have := HK1.1; omega
        case rel => exact ⟨(wrap64 (x1_2 + 1)), es, H', ⟨by have := HK1.1; omega⟩, ⟨vk BK0.1⟩, ⟨vb HB.1⟩⟩
      ·exact nO_ c12 H
     ·replace c10 := Bool.eq_false_iff.mpr c10; subst c10; rw [if_neg nf] at H; have H' := ak H; clear H; (try go_wp2)
      replace BK0 := ak (blk_drew BK0.1); replace HB := ak (below_drew1 HB.1); refine start_ (n := 14) (S := fun w' => w'.cell? ⟨gb0, 0, none⟩ = some (.slice A0_0 l0_0.length c0_0) ∧ w'.cell? ⟨gb0, 1, none⟩ = some (.slice A0_1 l0_1.length c0_1) ∧ w'.cell? ⟨gb0, 2, none⟩ = some (.slice A0_2 l0_2.length c0_2) ∧ w'.cell? ⟨gb0, 3, none⟩ = some (.slice A0_3 l0_3.length c0_3) ∧ w'.cell? ⟨gb0, 4, none⟩ = some (.slice A0_4 l0_4.length c0_4) ∧ w'.cell? ⟨gb0, 5, none⟩ = some (.int .i64 a0_5)) (ds := []) (tf 0 14) (by kernel_rfl) rfl rfl (cy6 BK0.1) (fun hHeld => ?_); refine with_tabW impl_hasPlacing.tab7 impl_hasPlacing.bits7 (fun HT_ HW_ => ?_); generalize wr.drew = w35 at BK0 HB hHeld ⊢; refine pu_ 1 21 (tM [0, 1, 1, 12]) rfl rfl ?_; refine pu_ 2 22 (tM [0, 1, 2, 11]) rfl rfl ?_; refine pu_ 3 23 (tM [0, 1, 3, 10]) rfl rfl ?_; refine ta6_ 0 20 (tf 4 10) rfl rfl ?_; refine one_ (i := 4) (N := some 24) (tf 5 9) rfl rfl (one_of HT_.1 (by kernel_rfl)) (by decide) (fun K hK => ?_); refine goes_ Try.func113 (by kernel_rfl) rfl #[.agg (f5 A0_0 l0_0 c0_0 A0_1 l0_1 c0_1 A0_2 l0_2 c0_2 A0_3 l0_3 c0_3 A0_4 l0_4 c0_4 a0_5), .slice A1 l1.length c1, .int .i64 (l1.length : Int), .int .i64 x1_2] (by rfl) rfl rfl (by (try simp only [List.map_toArray, List.map_cons, List.map_nil]); first | done | rfl | (simp only [List.length_drop, List.length_take]; rfl)) ?_
      with_reducible refine (impl_isFree.calls k1 _ _ l0_0 _ _ l0_1 _ _ l0_2 _ _ l0_3 _ _ l0_4 a0_5 _ _ l1 (l1.length : Int) x1_2 false _ ?_ ?_ ?_ ?_ ?_ ?_ ?_ ?_ ?_ ?_ ?_ ?_ A9.1).mono ?_
      exact vd HR0_0.1 HB.1
      exact HC0_0.1
      exact vd HR0_1.1 HB.1
      exact HC0_1.1
      exact vd HR0_2.1 HB.1
      exact HC0_2.1
      exact vd HR0_3.1 HB.1
      exact HC0_3.1
      exact vd HR0_4.1 HB.1
      exact HC0_4.1
      exact vd HR1.1 HB.1
      exact HC1.1
      rintro e w36 ⟨rfl, hb⟩; refine ⟨_, rfl, ?_⟩; replace BK0 := kb BK0 hb; replace HB := bs HB hb; (try clear hb)
      (try clear hb2)
      (try clear hk)
      (try clear hi)
      refine hK.out _ _ (cy6 BK0.1) (fun hHeld => ?_); clear hK K; refine norm_ (a' := ?_) ?_ ?_
      rotate_left
      ·show Act.put _ (some 24) _ = _
       simp only [Act.put, List.setIfInBounds_toArray, List.set_cons_zero, List.set_cons_succ, i64_w, i32_w]
       rfl
      refine pu_ 5 25 (tf 6 8) rfl rfl ?_; refine un_ 6 26 (tf 7 7) rfl rfl ?_; refine un_ 7 27 (tf 8 6) rfl rfl ?_; refine un_ 8 28 (tf 9 5) rfl rfl ?_; refine un_ 9 29 (tf 10 4) rfl rfl ?_; refine un_ 10 30 (tf 11 3) rfl rfl ?_; refine un_ 11 31 (tf 12 2) rfl rfl ?_; refine un_ 12 32 (tf 13 1) rfl rfl ?_; refine pu_ 13 33 (tf 14 0) rfl rfl ?_; refine done_ (done_of HT_.1 (by kernel_rfl)) ?_; (try go_wp2)
      go_roundg k1
      case measure => have := HK1.1; omega
      case rel => exact ⟨(wrap64 (x1_2 + 1)), es, H', ⟨by have := HK1.1; omega⟩, ⟨vk BK0.1⟩, ⟨vb HB.1⟩⟩
    ·rw [if_neg c8] at H; have c8b0 := decide_eq_false c8; clear c8; obtain rfl := sj H; go_wp2
     go_ret
     exact ⟨ew, vb HB.1⟩


end Go.Proofs.Ytancnecddlbhkaa.Pall
