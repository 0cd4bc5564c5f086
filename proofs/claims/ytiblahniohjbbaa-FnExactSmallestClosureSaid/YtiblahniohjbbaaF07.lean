/- Go functions of the program, each as a Lean function, and the proof that each call comes to what the Lean function tells; no condition beyond those that stand there. -/
import Derived.Test.YtiblahniohjbbaaF00
import Derived.Test.YtiblahniohjbbaaF05
import Derived.Test.YtiblahniohjbbaaSq
import Derived.Test.YtiblahniohjbbaaWGuard
import Derived.Test.YtiblahniohjbbaaWLast
import Derived.Test.YtiblahniohjbbaaWMore
import Derived.Test.YtiblahniohjbbaaWRepsOne
import Derived.Test.YtiblahniohjbbaaWTab
import Derived.Test.YtiblahniohjbbaaSpare
import Derived.Test.YtiblahniohjbbaaCm
import Derived.Test.YtiblahniohjbbaaCm3
import Derived.Test.YtiblahniohjbbaaCm6
namespace Go.Proofs.Ytiblahniohjbbaa.Pall
open Go.RowKit Go.Proofs.YtiblahniohjbbaaW.PrintWords Go.Proofs.YtiblahniohjbbaaW.PrintLast Go.Proofs.YtiblahniohjbbaaW.PrintMore
attribute [local go_sem] max2_int min2_int max_two min_two max_three min_three max_four min_four
set_option linter.unusedVariables false
set_option linter.unusedSimpArgs false

/-! ### impl_hasPlacing: function 53 -/
mutual
def impl_hasPlacing.l0 : Nat → List Int → Int → Int → Int → List (S91) → List (S69) → List Int → List Int → List Int → Int → Option (Bool)
 | 0, _, _, _, _, _, _, _, _, _, _ => none
 | k + 1, x1, x5, x16, x17, x551000, x551001, x551002, x551003, x551004, x551005 => if x17 < x16 then ((impl_isFree.f k x551000 x551001 x551002 x551003 x551004 x551005 x1 x5 x17).bind fun t551 => (if t551 = true then ((impl_copyList.f x1).bind fun t552 => ((some (([x17] : List Int) : List Int)).bind fun y555 => (if t552.length + y555.length < 17592186044416 then ((impl_hasPlacing.f k x551000 x551001 x551002 x551003 x551004 x551005 (t552 ++ y555)).bind fun t561 => (if t561 = true then (some true) else (impl_hasPlacing.l0 k x1 x5 x16 (wrap64 (x17 + 1)) x551000 x551001 x551002 x551003 x551004 x551005))) else (none)))) else (impl_hasPlacing.l0 k x1 x5 x16 (wrap64 (x17 + 1)) x551000 x551001 x551002 x551003 x551004 x551005))) else (some false)
def impl_hasPlacing.f : Nat → List (S91) → List (S69) → List Int → List Int → List Int → Int → List Int → Option (Bool)
 | 0, _, _, _, _, _, _, _ => none
 | k + 1, l0_0, l0_1, l0_2, l0_3, l0_4, a0_5, l1 => if (l1.length : Int) = (l0_2.length : Int) then (some true) else (impl_hasPlacing.l0 k l1 (l1.length : Int) (l0_3.length : Int) 0 l0_0 l0_1 l0_2 l0_3 l0_4 a0_5)
end
theorem impl_hasPlacing.mono_l : ∀ k, (∀ y0 y1 y2 y3 y4 y5 y6, LeO (impl_hasPlacing.f k y0 y1 y2 y3 y4 y5 y6) (impl_hasPlacing.f (k + 1) y0 y1 y2 y3 y4 y5 y6)) ∧ (∀ y0 y1 y2 y3 y4 y5 y6 y7 y8 y9, LeO (impl_hasPlacing.l0 k y0 y1 y2 y3 y4 y5 y6 y7 y8 y9) (impl_hasPlacing.l0 (k + 1) y0 y1 y2 y3 y4 y5 y6 y7 y8 y9))
 | 0 => ⟨fun _ _ _ _ _ _ _ r h => by simp [impl_hasPlacing.f] at h, fun _ _ _ _ _ _ _ _ _ _ r h => by simp [impl_hasPlacing.l0] at h⟩
 | k + 1 => by
  obtain ⟨ih0, ih1⟩ := impl_hasPlacing.mono_l k; refine ⟨?_, ?_⟩
  ·intro y0 y1 y2 y3 y4 y5 y6; unfold impl_hasPlacing.f
   repeat' (with_reducible first | exact ih0 .. | exact ih1 .. | exact impl_isFree.mono .. | exact LeO.refl .. | exact LeO.none .. | refine LeO.ite ?_ ?_ | refine LeO.bind ?_ (fun _ => ?_))
  ·intro y0 y1 y2 y3 y4 y5 y6 y7 y8 y9; unfold impl_hasPlacing.l0
   repeat' (with_reducible first | exact ih0 .. | exact ih1 .. | exact impl_isFree.mono .. | exact LeO.refl .. | exact LeO.none .. | refine LeO.ite ?_ ?_ | refine LeO.bind ?_ (fun _ => ?_))
theorem impl_hasPlacing.mono : ∀ a0 a1 a2 a3 a4 a5 a6 k, LeO (impl_hasPlacing.f k a0 a1 a2 a3 a4 a5 a6) (impl_hasPlacing.f (k + 1) a0 a1 a2 a3 a4 a5 a6) := by
 intro a0 a1 a2 a3 a4 a5 a6 k; obtain ⟨ih0, ih1⟩ := impl_hasPlacing.mono_l k; exact ih0 a0 a1 a2 a3 a4 a5 a6
def impl_hasPlacing.T7 : Bool × List (List Nat × List Nat) := (true, [([], []), ([], []), ([], []), ([], []), ([0, 1, 2, 3], [0, 1, 2, 3]), ([4, 4], [4]), ([5], [5]), ([5], [5]), ([7, 5, 5], [5, 7]), ([5], [5]), ([9, 5], [5, 9]), ([8, 10, 8, 5], [5, 8, 10]), ([6, 11, 11, 5], [5, 6, 11]), ([5, 12], [5, 12])])
def impl_hasPlacing.B7 : List Nat := [0, 0, 0, 0, 15, 31, 63, 63, 191, 63, 575, 1983, 4095, 8191]
theorem impl_hasPlacing.tab7 : rtab .any (opsOf Try.f53 7) = impl_hasPlacing.T7 := by kernel_rfl
theorem impl_hasPlacing.bits7 : waitsOk impl_hasPlacing.T7.2 impl_hasPlacing.B7 = true := by kernel_rfl
set_option maxHeartbeats 8000000 in
set_option maxRecDepth 100000 in
theorem impl_hasPlacing.calls (k : Nat) : ∀ (A0_0 : Option Addr) (c0_0 : Nat) (l0_0 : List (S91)) (A0_1 : Option Addr) (c0_1 : Nat) (l0_1 : List (S69)) (A0_2 : Option Addr) (c0_2 : Nat) (l0_2 : List Int) (A0_3 : Option Addr) (c0_3 : Nat) (l0_3 : List Int) (A0_4 : Option Addr) (c0_4 : Nat) (l0_4 : List Int) (a0_5 : Int) (A1 : Option Addr) (c1 : Nat) (l1 : List Int) (r : Bool) (w : World) (hr0_0 : Kd.C k91 w A0_0 l0_0.length l0_0) (hc0_0 : l0_0.length ≤ c0_0) (hr0_1 : Kd.C k69 w A0_1 l0_1.length l0_1) (hc0_1 : l0_1.length ≤ c0_1) (hr0_2 : Kd.C (Kd.int .i64) w A0_2 l0_2.length l0_2) (hc0_2 : l0_2.length ≤ c0_2) (hr0_3 : Kd.C (Kd.int .i64) w A0_3 l0_3.length l0_3) (hc0_3 : l0_3.length ≤ c0_3) (hr0_4 : Kd.C (Kd.int .i64) w A0_4 l0_4.length l0_4) (hc0_4 : l0_4.length ≤ c0_4) (hr1 : Kd.C (Kd.int .i64) w A1 l1.length l1) (hc1 : l1.length ≤ c1) (h : impl_hasPlacing.f k l0_0 l0_1 l0_2 l0_3 l0_4 a0_5 l1 = some r),
  Calls Try.prog 53 #[.agg (f5 A0_0 l0_0 c0_0 A0_1 l0_1 c0_1 A0_2 l0_2 c0_2 A0_3 l0_3 c0_3 A0_4 l0_4 c0_4 a0_5), .slice A1 l1.length c1] w fun e w' => e = .returned (.bool r) ∧ Below w.heap.size w w' := by
 induction k using Nat.strongRecOn with
 | _ k ih =>
 intro A0_0 c0_0 l0_0 A0_1 c0_1 l0_1 A0_2 c0_2 l0_2 A0_3 c0_3 l0_3 A0_4 c0_4 l0_4 a0_5 A1 c1 l1 r w hr0_0 hc0_0 hr0_1 hc0_1 hr0_2 hc0_2 hr0_3 hc0_3 hr0_4 hc0_4 hr1 hc1 h
 cases k with
 | zero => exact absurd h (by simp [impl_hasPlacing.f])
 | succ k =>
 simp only [impl_hasPlacing.f] at h
 have hu28 := Try.underlying28; have HR0_0 := ak hr0_0; have HC0_0 := ak hc0_0; clear hr0_0 hc0_0; have HR0_1 := ak hr0_1; have HC0_1 := ak hc0_1; clear hr0_1 hc0_1; have HR0_2 := ak hr0_2; have HC0_2 := ak hc0_2; clear hr0_2 hc0_2; have HR0_3 := ak hr0_3; have HC0_3 := ak hc0_3; clear hr0_3 hc0_3; have HR0_4 := ak hr0_4; have HC0_4 := ak hc0_4; clear hr0_4 hc0_4; have HR1 := ak hr1; have HC1 := ak hc1; clear hr1 hc1; have HB := ak (Below.refl w.heap.size w); have H := h; clear h; by_cases c3 : (l1.length : Int) = (l0_2.length : Int)
 ·rw [if_pos c3] at H; obtain ⟨c3b0, c3b1⟩ := bqt c3; have c3b2 : (l1.length == l0_2.length) = true := by first | simpa using c3 | (simp at c3 ⊢; omega)
  clear c3; obtain rfl := sj H; go_enter Try.func53, Try.ntmps53; go_wp2_with (first | ((with_reducible refine gate_dst (N := 2) rfl ?_); (try (refine gate_guard (by rfl) ?_; dsimp only)); refine bx 2 (f5 A0_0 l0_0 c0_0 A0_1 l0_1 c0_1 A0_2 l0_2 c0_2 A0_3 l0_3 c0_3 A0_4 l0_4 c0_4 a0_5) 28 ?_; intro gb550 hg w4 hbox hb; have BK550 := ak hbox; have GW550 := gw hg HB; have GE550 := gw hg HB; replace HB := bs HB hb; clear hb hbox hg; have hcz5 := cz6 BK550.out))
  go_ret
  exact ⟨ew, vb HB.out⟩
 ·rw [if_neg c3] at H; obtain ⟨c3b0, c3b1⟩ := bqf c3; have c3b2 : (l1.length == l0_2.length) = false := by first | simpa using c3 | (simp at c3 ⊢; omega)
  have H' := ak H; clear H; go_enter Try.func53, Try.ntmps53; go_wp2_with (first | ((with_reducible refine gate_dst (N := 2) rfl ?_); (try (refine gate_guard (by rfl) ?_; dsimp only)); refine bx 2 (f5 A0_0 l0_0 c0_0 A0_1 l0_1 c0_1 A0_2 l0_2 c0_2 A0_3 l0_3 c0_3 A0_4 l0_4 c0_4 a0_5) 28 ?_; intro gb550 hg w6 hbox hb; have BK550 := ak hbox; have GW550 := gw hg HB; have GE550 := gw hg HB; replace HB := bs HB hb; clear hb hbox hg; have hcz7 := cz6 BK550.out))
  go_loopg [17] k (fun kq v17 w' => ∃ (x17_1 : Int), v17 = .int .i64 x17_1 ∧ Aside0 (impl_hasPlacing.l0 kq l1 (l1.length : Int) (l0_3.length : Int) x17_1 l0_0 l0_1 l0_2 l0_3 l0_4 a0_5 = some r) ∧ Aside0 (kq ≤ k) ∧ Aside0 (w'.heap[gb550]? = some (.cells (f5 A0_0 l0_0 c0_0 A0_1 l0_1 c0_1 A0_2 l0_2 c0_2 A0_3 l0_3 c0_3 A0_4 l0_4 c0_4 a0_5) 28 (0, 0))) ∧ Aside0 (Below w.heap.size w w'))
  case atStart => exact ⟨(0), es, H', ⟨Nat.le_refl _⟩, ⟨vk BK550.out⟩, ⟨vb HB.out⟩⟩
  case round =>
   clear H'; (try clear c1); (try clear p2); (try clear c3); (try clear c3b0); (try clear c3b1); (try clear c3b2); (try clear c5); (try clear hcz5); (try clear hcz7); obtain ⟨x17_1, rfl, HA, HK1, BK550, HB⟩ := hrel
   cases gk with
   | zero => exact absurd HA.out (by simp [impl_hasPlacing.l0])
   | succ k1 =>
    have H := HA.out; clear HA; simp only [impl_hasPlacing.l0] at H
    by_cases c8 : x17_1 < (l0_3.length : Int)
    ·rw [if_pos c8] at H; have c8b0 := decide_eq_true c8; clear c8; obtain ⟨t551, A9, H⟩ := bnk H; by_cases c10 : t551 = true
     ·subst c10; rw [if_pos rfl] at H; obtain ⟨t552, A11, H⟩ := bnk H; obtain ⟨y555, Ny555, H⟩ := bnE H; by_cases c12 : t552.length + y555.length < 17592186044416
      ·rw [if_pos c12] at H; have LMc12 := ak c12; clear c12; obtain ⟨y558, hy558⟩ := gen_ ((t552 ++ y555 : List Int)); rw [← hy558] at H; have Ny558 := ak hy558; clear hy558; obtain ⟨t561, A13, H⟩ := bnk H; by_cases c14 : t561 = true
       ·subst c14; rw [if_pos rfl] at H; obtain rfl := sj H; (try go_wp2)
        replace BK550 := ak (blk_drew BK550.out); replace HB := ak (below_drew1 HB.out); refine start_ (n := 14) (S := fun w' => w'.cell? ⟨gb550, 0, none⟩ = some (.slice A0_0 l0_0.length c0_0) ∧ w'.cell? ⟨gb550, 1, none⟩ = some (.slice A0_1 l0_1.length c0_1) ∧ w'.cell? ⟨gb550, 2, none⟩ = some (.slice A0_2 l0_2.length c0_2) ∧ w'.cell? ⟨gb550, 3, none⟩ = some (.slice A0_3 l0_3.length c0_3) ∧ w'.cell? ⟨gb550, 4, none⟩ = some (.slice A0_4 l0_4.length c0_4) ∧ w'.cell? ⟨gb550, 5, none⟩ = some (.int .i64 a0_5)) (ds := []) (tf 0 14) (by kernel_rfl) rfl rfl (cy6 BK550.out) (fun hHeld => ?_); refine with_tabW impl_hasPlacing.tab7 impl_hasPlacing.bits7 (fun HT_ HW_ => ?_); generalize wr.drew = w15 at BK550 HB hHeld ⊢; refine pu_ 1 21 (tM [0, 1, 1, 12]) rfl rfl ?_; refine pu_ 2 22 (tM [0, 1, 2, 11]) rfl rfl ?_; refine pu_ 3 23 (tM [0, 1, 3, 10]) rfl rfl ?_; refine ta6_ 0 20 (tf 4 10) rfl rfl ?_; refine one_ (i := 4) (N := some 24) (tf 5 9) rfl rfl (one_of HT_.out (by kernel_rfl)) (by decide) (fun K hK => ?_); refine goes_ Try.func83 (by kernel_rfl) rfl #[.agg (f5 A0_0 l0_0 c0_0 A0_1 l0_1 c0_1 A0_2 l0_2 c0_2 A0_3 l0_3 c0_3 A0_4 l0_4 c0_4 a0_5), .slice A1 l1.length c1, .int .i64 (l1.length : Int), .int .i64 x17_1] (by rfl) rfl rfl (by (try simp only [List.map_toArray, List.map_cons, List.map_nil]); first | done | rfl | (simp only [List.length_drop, List.length_take]; rfl)) ?_
        with_reducible refine (impl_isFree.calls k1 _ _ l0_0 _ _ l0_1 _ _ l0_2 _ _ l0_3 _ _ l0_4 a0_5 _ _ l1 (l1.length : Int) x17_1 true _ ?_ ?_ ?_ ?_ ?_ ?_ ?_ ?_ ?_ ?_ ?_ ?_ A9.out).mono ?_
        exact vd HR0_0.out HB.out
        exact HC0_0.out
        exact vd HR0_1.out HB.out
        exact HC0_1.out
        exact vd HR0_2.out HB.out
        exact HC0_2.out
        exact vd HR0_3.out HB.out
        exact HC0_3.out
        exact vd HR0_4.out HB.out
        exact HC0_4.out
        exact vd HR1.out HB.out
        exact HC1.out
        rintro e w16 ⟨rfl, hb⟩; refine ⟨_, rfl, ?_⟩; replace BK550 := kb BK550 hb; replace HB := bs HB hb; (try clear hb)
        (try clear hb2)
        (try clear hk)
        (try clear hi)
        refine hK.out _ _ (cy6 BK550.out) (fun hHeld => ?_); clear hK K; refine norm_ (a' := ?_) ?_ ?_
        rotate_left
        ·show Act.put _ (some 24) _ = _
         simp only [Act.put, List.setIfInBounds_toArray, List.set_cons_zero, List.set_cons_succ, i64_w, i32_w]
         rfl
        refine pu_ 5 25 (tf 6 8) rfl rfl ?_; refine pu_ 7 27 (tM [6, 1, 1, 6]) rfl rfl ?_; refine pu_ 9 29 (tM [6, 1, 1, 1, 1, 4]) rfl rfl ?_; refine ta6_ 6 26 (tM [8, 1, 1, 4]) rfl rfl ?_; refine join_ (σ := Value × Value) 3 (tf 11 3) (fun s_ => [(28, s_.1), (30, s_.2)]) (fun s_ w' => (w'.cell? ⟨gb550, 0, none⟩ = some (.slice A0_0 l0_0.length c0_0) ∧ w'.cell? ⟨gb550, 1, none⟩ = some (.slice A0_1 l0_1.length c0_1) ∧ w'.cell? ⟨gb550, 2, none⟩ = some (.slice A0_2 l0_2.length c0_2) ∧ w'.cell? ⟨gb550, 3, none⟩ = some (.slice A0_3 l0_3.length c0_3) ∧ w'.cell? ⟨gb550, 4, none⟩ = some (.slice A0_4 l0_4.length c0_4) ∧ w'.cell? ⟨gb550, 5, none⟩ = some (.int .i64 a0_5)) ∧ (Kd.R (Kd.int .i64) 2 w' w.heap.size (fun k_ => some k_ ≠ (s_.2 : Value).ownBlock) s_.1 t552) ∧ (Kd.R (Kd.int .i64) 2 w' w.heap.size (fun k_ => some k_ ≠ (s_.1 : Value).ownBlock) s_.2 y555) ∧ (w'.heap[gb550]? = some (.cells (f5 A0_0 l0_0 c0_0 A0_1 l0_1 c0_1 A0_2 l0_2 c0_2 A0_3 l0_3 c0_3 A0_4 l0_4 c0_4 a0_5) 28 (0, 0))) ∧ (Below w.heap.size w w')) ?_ ?_
        rotate_left
        ·intro hCont; refine two_ (i := 8) (j := 10) (Ni := some 28) (Nj := some 30) (tf 10 4) (tM [8, 1, 2, 3]) rfl rfl rfl rfl (two_of HT_.out (by kernel_rfl)) (by decide) (by decide) (fun K hK => ?_) (fun K hK => ?_)
         ·skip
          refine goes_ Try.func78 (by kernel_rfl) rfl #[.slice A1 l1.length c1] (by rfl) rfl rfl (by (try simp only [List.map_toArray, List.map_cons, List.map_nil]); first | done | rfl | (simp only [List.length_drop, List.length_take]; rfl)) ?_; with_reducible refine (impl_copyList.calls _ _ l1 t552 _ ?_ ?_ A11.out).mono ?_
          exact vd HR1.out HB.out
          exact HC1.out
          rintro e w17 ⟨v553, rfl, ho0, hb⟩; refine ⟨_, rfl, ?_⟩; have HO554 := ak (Kd.R_lower ho0 (below_size (vb HB.out))); replace BK550 := kb BK550 hb; replace HB := bs HB hb; (try clear hb)
          (try clear hb2)
          (try clear hk)
          (try clear hi)
          (try clear ho0)
          refine hK.out _ _ (cy6 BK550.out) (fun hHeld => ?_); clear hK K; refine norm_ (a' := ?_) ?_ ?_
          rotate_left
          ·show Act.put _ (some 28) _ = _
           simp only [Act.put, List.setIfInBounds_toArray, List.set_cons_zero, List.set_cons_succ, i64_w, i32_w]
           rfl
          refine one_ (i := 10) (N := some 30) (tf 11 3) rfl rfl (one_of HT_.out (by kernel_rfl)) (by decide) (fun K hK => ?_); refine Kd.R_lit_step (Kd.int .i64) _ 2 ?hg (N := 30) ?hd (xs := ([x17_1] : List Int)) (inner := [.int .i64 x17_1]) (ok := fun _ => True) (okp := fun _ => True) ?hr ?hp (fun _ hk => hk) trivial (Below.refl _ _) (Nat.le_refl _) (by simp) ?_; (case hd => rfl); (case hg => rfl); (case hr => first | (go_simp; done) | (go_simp; rfl)); (case hp => exact (Reps.one (show Kd.M (Kd.int .i64) _ _ _ x17_1 [.int .i64 x17_1] from rfl) (Reps.none _ _))); intro v556 w18 ho19 hb hg_ hnew_; clear hg_ hnew_; (first | rw [← Ny555.out] at ho19 | (simp only [Int.reduceToNat] at ho19; rw [← Ny555.out] at ho19))
          have HO557 := ak (Kd.R_lower (Kd.R_new' ho19 (Kd.R_lt (vr HO554.out))) (below_size (vb HB.out))); replace HO554 := ak (Kd.R_elder' (vr HO554.out) (Kd.R_base ho19) hb); replace BK550 := kb BK550 hb; replace HB := bs HB hb; clear hb ho19; refine hK.out _ _ (cy6 BK550.out) (fun hHeld => ?_); clear hK K; refine norm_ (a' := ?_) ?_ ?_
          rotate_left
          ·show Act.put _ (some 30) _ = _
           simp only [Act.put, List.setIfInBounds_toArray, List.set_cons_zero, List.set_cons_succ, i64_w, i32_w]
           rfl
          exact norm_ (by simp only [putAll, Act.put, List.setIfInBounds_toArray, List.set_cons_zero, List.set_cons_succ]) (hCont (v553, v556) _ ⟨hHeld, (vr (Kd.R_mono HO554.out (fun _ hk => hk.2))), (vr (Kd.R_mono HO557.out (fun _ hk => hk.2))), (vk BK550.out), (vb HB.out)⟩)
         ·skip
          refine Kd.R_lit_step (Kd.int .i64) _ 2 ?hg (N := 30) ?hd (xs := ([x17_1] : List Int)) (inner := [.int .i64 x17_1]) (ok := fun _ => True) (okp := fun _ => True) ?hr ?hp (fun _ hk => hk) trivial (Below.refl _ _) (Nat.le_refl _) (by simp) ?_; (case hd => rfl); (case hg => rfl); (case hr => first | (go_simp; done) | (go_simp; rfl)); (case hp => exact (Reps.one (show Kd.M (Kd.int .i64) _ _ _ x17_1 [.int .i64 x17_1] from rfl) (Reps.none _ _))); intro v556 w17 ho18 hb hg_ hnew_; clear hg_ hnew_; (first | rw [← Ny555.out] at ho18 | (simp only [Int.reduceToNat] at ho18; rw [← Ny555.out] at ho18))
          have HO557 := ak (Kd.R_lower ho18 (below_size (vb HB.out))); replace BK550 := kb BK550 hb; replace HB := bs HB hb; clear hb ho18; refine hK.out _ _ (cy6 BK550.out) (fun hHeld => ?_); clear hK K; refine norm_ (a' := ?_) ?_ ?_
          rotate_left
          ·show Act.put _ (some 30) _ = _
           simp only [Act.put, List.setIfInBounds_toArray, List.set_cons_zero, List.set_cons_succ, i64_w, i32_w]
           rfl
          refine one_ (i := 8) (N := some 28) (tf 11 3) rfl rfl (one_of HT_.out (by kernel_rfl)) (by decide) (fun K hK => ?_); refine goes_ Try.func78 (by kernel_rfl) rfl #[.slice A1 l1.length c1] (by rfl) rfl rfl (by (try simp only [List.map_toArray, List.map_cons, List.map_nil]); first | done | rfl | (simp only [List.length_drop, List.length_take]; rfl)) ?_; with_reducible refine (impl_copyList.calls _ _ l1 t552 _ ?_ ?_ A11.out).mono ?_
          exact vd HR1.out HB.out
          exact HC1.out
          rintro e w19 ⟨v553, rfl, ho0, hb⟩; refine ⟨_, rfl, ?_⟩; have HO554 := ak (Kd.R_lower (Kd.R_new' ho0 (Kd.R_lt (vr HO557.out))) (below_size (vb HB.out))); replace HO557 := ak (Kd.R_elder' (vr HO557.out) (Kd.R_base ho0) hb); replace BK550 := kb BK550 hb; replace HB := bs HB hb; (try clear hb)
          (try clear hb2)
          (try clear hk)
          (try clear hi)
          (try clear ho0)
          refine hK.out _ _ (cy6 BK550.out) (fun hHeld => ?_); clear hK K; refine norm_ (a' := ?_) ?_ ?_
          rotate_left
          ·show Act.put _ (some 28) _ = _
           simp only [Act.put, List.setIfInBounds_toArray, List.set_cons_zero, List.set_cons_succ, i64_w, i32_w]
           rfl
          exact norm_ (by simp only [putAll, Act.put, List.setIfInBounds_toArray, List.set_cons_zero, List.set_cons_succ]) (hCont (v553, v556) _ ⟨hHeld, (vr (Kd.R_mono HO554.out (fun _ hk => hk.2))), (vr (Kd.R_mono HO557.out (fun _ hk => hk.2))), (vk BK550.out), (vb HB.out)⟩)
        rintro ⟨v553, v556⟩ w20 ⟨hS_, h0_, h1_, h2_, h3_⟩; have n0_ : Aside0 (Kd.R (Kd.int .i64) 2 w20 w.heap.size (fun k_ => some k_ ≠ (v556 : Value).ownBlock) v553 t552) := ⟨h0_⟩; have n1_ : Aside0 (Kd.R (Kd.int .i64) 2 w20 w.heap.size (fun k_ => some k_ ≠ (v553 : Value).ownBlock) v556 y555) := ⟨h1_⟩; have n2_ : Aside0 (w20.heap[gb550]? = some (.cells (f5 A0_0 l0_0 c0_0 A0_1 l0_1 c0_1 A0_2 l0_2 c0_2 A0_3 l0_3 c0_3 A0_4 l0_4 c0_4 a0_5) 28 (0, 0))) := ⟨h2_⟩; have n3_ : Aside0 (Below w.heap.size w w20) := ⟨h3_⟩; clear BK550; clear HB; clear h0_ h1_ h2_ h3_; have HO554 := n0_; have HO557 := n1_; have BK550 := n2_; have HB := n3_; clear n0_ n1_ n2_ n3_; have hHeld : w20.cell? ⟨gb550, 0, none⟩ = some (.slice A0_0 l0_0.length c0_0) ∧ w20.cell? ⟨gb550, 1, none⟩ = some (.slice A0_1 l0_1.length c0_1) ∧ w20.cell? ⟨gb550, 2, none⟩ = some (.slice A0_2 l0_2.length c0_2) ∧ w20.cell? ⟨gb550, 3, none⟩ = some (.slice A0_3 l0_3.length c0_3) ∧ w20.cell? ⟨gb550, 4, none⟩ = some (.slice A0_4 l0_4.length c0_4) ∧ w20.cell? ⟨gb550, 5, none⟩ = some (.int .i64 a0_5) := hS_; obtain ⟨Ao22, co22, eo22⟩ := Kd.R_slice HO557.out; (first | subst eo22 | (injection eo22 with f1_ f2_ f3_; have f4_ := f1_.symm; have f5_ := f3_.symm; clear f1_ f2_ f3_; subst f4_; subst f5_))
        refine norm_ (a' := ?_) ?_ ?_
        rotate_left
        ·simp only [putAll, Act.put, List.setIfInBounds_toArray, List.set_cons_zero, List.set_cons_succ]
         rfl
        refine one_ (i := 11) (N := some 31) (tf 12 2) rfl rfl (one_of HT_.out (by kernel_rfl)) (by decide) (fun K hK => ?_); refine Kd.R_append_rows_step (Kd.int .i64) (w0 := w) w.heap.size (by rfl) (.tmp 28) (.tmp 30) 26 2 (.int .i64 0) 8 rfl Try.underlying26 info2 rfl (by decide) (by omega) v553 t552 y555 _ _ _ (fun k_ => some k_ ≠ (.slice Ao22 y555.length co22 : Value).ownBlock) (fun _ => False) rfl rfl ?aO ?aR (fun _ _ h => h) (fun _ h => h.elim) ?aF ?aB ?aS ?aL ?_; (case aR => exact vc (Kd.R_reads' HO557.out).2.2)
        (case aB => exact (vb HB.out))
        (case aF => exact (fun k_ hk => Kd.fresh' (Kd.R_lt (vr HO557.out)) k_ hk))
        (case aO => exact (vr HO554.out))
        (case aS => exact (below_size (vb HB.out)))
        (case aL => have := LMc12.out; omega)
        intro v559 w21 ho hb hg hat; rw [← Ny558.out] at ho; have n0_ := ak (blk_grown (g := gb550) (o := .cells (f5 A0_0 l0_0 c0_0 A0_1 l0_1 c0_1 A0_2 l0_2 c0_2 A0_3 l0_3 c0_3 A0_4 l0_4 c0_4 a0_5) 28 (0, 0)) (vk BK550.out) hg (Kd.R_ne HO554.out BK550.out (by decide))); have n1_ := ak (Kd.R_after (ok := (fun _ => True)) (vr (Kd.R_mono HO557.out (fun _ hk => ⟨trivial, hk⟩))) hg hat); have n2_ := ak (hb); have n3_ := ak (ho); clear BK550; clear HO557; clear HB; clear HO554; have BK550 := n0_; have HO557 := n1_; have HB := n2_; have HO560 := n3_; clear n0_ n1_ n2_ n3_; clear ho hb hg hat; obtain ⟨Ao23, co23, eo23⟩ := Kd.R_slice HO560.out; (first | subst eo23 | (injection eo23 with f1_ f2_ f3_; have f4_ := f1_.symm; have f5_ := f3_.symm; clear f1_ f2_ f3_; subst f4_; subst f5_))
        refine hK.out _ _ (cy6 BK550.out) (fun hHeld => ?_); clear hK K; refine norm_ (a' := ?_) ?_ ?_
        rotate_left
        ·show Act.put _ (some 31) _ = _
         simp only [Act.put, List.setIfInBounds_toArray, List.set_cons_zero, List.set_cons_succ, i64_w, i32_w]
         rfl
        refine one_ (i := 12) (N := some 32) (tf 13 1) rfl rfl (one_of HT_.out (by kernel_rfl)) (by decide) (fun K hK => ?_); refine goes_ Try.func53 (by kernel_rfl) rfl #[.agg (f5 A0_0 l0_0 c0_0 A0_1 l0_1 c0_1 A0_2 l0_2 c0_2 A0_3 l0_3 c0_3 A0_4 l0_4 c0_4 a0_5), .slice Ao23 y558.length co23] (by rfl) rfl rfl (by (try simp only [List.map_toArray, List.map_cons, List.map_nil]); first | done | rfl | (simp only [List.length_drop, List.length_take]; rfl)) ?_; with_reducible refine (ih k1 (by have := HK1.out; omega) _ _ l0_0 _ _ l0_1 _ _ l0_2 _ _ l0_3 _ _ l0_4 a0_5 _ _ y558 true _ ?_ ?_ ?_ ?_ ?_ ?_ ?_ ?_ ?_ ?_ ?_ ?_ A13.out).mono ?_
        exact vd HR0_0.out HB.out
        exact HC0_0.out
        exact vd HR0_1.out HB.out
        exact HC0_1.out
        exact vd HR0_2.out HB.out
        exact HC0_2.out
        exact vd HR0_3.out HB.out
        exact HC0_3.out
        exact vd HR0_4.out HB.out
        exact HC0_4.out
        exact vc (Kd.R_reads' HO560.out).2.2
        exact (Kd.R_reads' HO560.out).2.1
        rintro e w24 ⟨rfl, hb⟩; refine ⟨_, rfl, ?_⟩; replace HO557 := ak (Kd.R_below (vr HO557.out) hb); replace HO560 := ak (Kd.R_below (vr HO560.out) hb); replace BK550 := kb BK550 hb; replace HB := bs HB hb; (try clear hb)
        (try clear hb2)
        (try clear hk)
        (try clear hi)
        refine hK.out _ _ (cy6 BK550.out) (fun hHeld => ?_); clear hK K; refine norm_ (a' := ?_) ?_ ?_
        rotate_left
        ·show Act.put _ (some 32) _ = _
         simp only [Act.put, List.setIfInBounds_toArray, List.set_cons_zero, List.set_cons_succ, i64_w, i32_w]
         rfl
        refine pu_ 13 33 (tf 14 0) rfl rfl ?_; refine done_ (done_of HT_.out (by kernel_rfl)) ?_; (try go_wp2)
        go_ret
        exact ⟨ew, vb HB.out⟩
       ·replace c14 := Bool.eq_false_iff.mpr c14; subst c14; rw [if_neg nf] at H; have H' := ak H; clear H; (try go_wp2)
        replace BK550 := ak (blk_drew BK550.out); replace HB := ak (below_drew1 HB.out); refine start_ (n := 14) (S := fun w' => w'.cell? ⟨gb550, 0, none⟩ = some (.slice A0_0 l0_0.length c0_0) ∧ w'.cell? ⟨gb550, 1, none⟩ = some (.slice A0_1 l0_1.length c0_1) ∧ w'.cell? ⟨gb550, 2, none⟩ = some (.slice A0_2 l0_2.length c0_2) ∧ w'.cell? ⟨gb550, 3, none⟩ = some (.slice A0_3 l0_3.length c0_3) ∧ w'.cell? ⟨gb550, 4, none⟩ = some (.slice A0_4 l0_4.length c0_4) ∧ w'.cell? ⟨gb550, 5, none⟩ = some (.int .i64 a0_5)) (ds := []) (tf 0 14) (by kernel_rfl) rfl rfl (cy6 BK550.out) (fun hHeld => ?_); refine with_tabW impl_hasPlacing.tab7 impl_hasPlacing.bits7 (fun HT_ HW_ => ?_); generalize wr.drew = w25 at BK550 HB hHeld ⊢; refine pu_ 1 21 (tM [0, 1, 1, 12]) rfl rfl ?_; refine pu_ 2 22 (tM [0, 1, 2, 11]) rfl rfl ?_; refine pu_ 3 23 (tM [0, 1, 3, 10]) rfl rfl ?_; refine ta6_ 0 20 (tf 4 10) rfl rfl ?_; refine one_ (i := 4) (N := some 24) (tf 5 9) rfl rfl (one_of HT_.out (by kernel_rfl)) (by decide) (fun K hK => ?_); refine goes_ Try.func83 (by kernel_rfl) rfl #[.agg (f5 A0_0 l0_0 c0_0 A0_1 l0_1 c0_1 A0_2 l0_2 c0_2 A0_3 l0_3 c0_3 A0_4 l0_4 c0_4 a0_5), .slice A1 l1.length c1, .int .i64 (l1.length : Int), .int .i64 x17_1] (by rfl) rfl rfl (by (try simp only [List.map_toArray, List.map_cons, List.map_nil]); first | done | rfl | (simp only [List.length_drop, List.length_take]; rfl)) ?_
        with_reducible refine (impl_isFree.calls k1 _ _ l0_0 _ _ l0_1 _ _ l0_2 _ _ l0_3 _ _ l0_4 a0_5 _ _ l1 (l1.length : Int) x17_1 true _ ?_ ?_ ?_ ?_ ?_ ?_ ?_ ?_ ?_ ?_ ?_ ?_ A9.out).mono ?_
        exact vd HR0_0.out HB.out
        exact HC0_0.out
        exact vd HR0_1.out HB.out
        exact HC0_1.out
        exact vd HR0_2.out HB.out
        exact HC0_2.out
        exact vd HR0_3.out HB.out
        exact HC0_3.out
        exact vd HR0_4.out HB.out
        exact HC0_4.out
        exact vd HR1.out HB.out
        exact HC1.out
        rintro e w26 ⟨rfl, hb⟩; refine ⟨_, rfl, ?_⟩; replace BK550 := kb BK550 hb; replace HB := bs HB hb; (try clear hb)
        (try clear hb2)
        (try clear hk)
        (try clear hi)
        refine hK.out _ _ (cy6 BK550.out) (fun hHeld => ?_); clear hK K; refine norm_ (a' := ?_) ?_ ?_
        rotate_left
        ·show Act.put _ (some 24) _ = _
         simp only [Act.put, List.setIfInBounds_toArray, List.set_cons_zero, List.set_cons_succ, i64_w, i32_w]
         rfl
        refine pu_ 5 25 (tf 6 8) rfl rfl ?_; refine pu_ 7 27 (tM [6, 1, 1, 6]) rfl rfl ?_; refine pu_ 9 29 (tM [6, 1, 1, 1, 1, 4]) rfl rfl ?_; refine ta6_ 6 26 (tM [8, 1, 1, 4]) rfl rfl ?_; refine join_ (σ := Value × Value) 3 (tf 11 3) (fun s_ => [(28, s_.1), (30, s_.2)]) (fun s_ w' => (w'.cell? ⟨gb550, 0, none⟩ = some (.slice A0_0 l0_0.length c0_0) ∧ w'.cell? ⟨gb550, 1, none⟩ = some (.slice A0_1 l0_1.length c0_1) ∧ w'.cell? ⟨gb550, 2, none⟩ = some (.slice A0_2 l0_2.length c0_2) ∧ w'.cell? ⟨gb550, 3, none⟩ = some (.slice A0_3 l0_3.length c0_3) ∧ w'.cell? ⟨gb550, 4, none⟩ = some (.slice A0_4 l0_4.length c0_4) ∧ w'.cell? ⟨gb550, 5, none⟩ = some (.int .i64 a0_5)) ∧ (Kd.R (Kd.int .i64) 2 w' w.heap.size (fun k_ => some k_ ≠ (s_.2 : Value).ownBlock) s_.1 t552) ∧ (Kd.R (Kd.int .i64) 2 w' w.heap.size (fun k_ => some k_ ≠ (s_.1 : Value).ownBlock) s_.2 y555) ∧ (w'.heap[gb550]? = some (.cells (f5 A0_0 l0_0 c0_0 A0_1 l0_1 c0_1 A0_2 l0_2 c0_2 A0_3 l0_3 c0_3 A0_4 l0_4 c0_4 a0_5) 28 (0, 0))) ∧ (Below w.heap.size w w')) ?_ ?_
        rotate_left
        ·intro hCont; refine two_ (i := 8) (j := 10) (Ni := some 28) (Nj := some 30) (tf 10 4) (tM [8, 1, 2, 3]) rfl rfl rfl rfl (two_of HT_.out (by kernel_rfl)) (by decide) (by decide) (fun K hK => ?_) (fun K hK => ?_)
         ·skip
          refine goes_ Try.func78 (by kernel_rfl) rfl #[.slice A1 l1.length c1] (by rfl) rfl rfl (by (try simp only [List.map_toArray, List.map_cons, List.map_nil]); first | done | rfl | (simp only [List.length_drop, List.length_take]; rfl)) ?_; with_reducible refine (impl_copyList.calls _ _ l1 t552 _ ?_ ?_ A11.out).mono ?_
          exact vd HR1.out HB.out
          exact HC1.out
          rintro e w27 ⟨v553, rfl, ho0, hb⟩; refine ⟨_, rfl, ?_⟩; have HO554 := ak (Kd.R_lower ho0 (below_size (vb HB.out))); replace BK550 := kb BK550 hb; replace HB := bs HB hb; (try clear hb)
          (try clear hb2)
          (try clear hk)
          (try clear hi)
          (try clear ho0)
          refine hK.out _ _ (cy6 BK550.out) (fun hHeld => ?_); clear hK K; refine norm_ (a' := ?_) ?_ ?_
          rotate_left
          ·show Act.put _ (some 28) _ = _
           simp only [Act.put, List.setIfInBounds_toArray, List.set_cons_zero, List.set_cons_succ, i64_w, i32_w]
           rfl
          refine one_ (i := 10) (N := some 30) (tf 11 3) rfl rfl (one_of HT_.out (by kernel_rfl)) (by decide) (fun K hK => ?_); refine Kd.R_lit_step (Kd.int .i64) _ 2 ?hg (N := 30) ?hd (xs := ([x17_1] : List Int)) (inner := [.int .i64 x17_1]) (ok := fun _ => True) (okp := fun _ => True) ?hr ?hp (fun _ hk => hk) trivial (Below.refl _ _) (Nat.le_refl _) (by simp) ?_; (case hd => rfl); (case hg => rfl); (case hr => first | (go_simp; done) | (go_simp; rfl)); (case hp => exact (Reps.one (show Kd.M (Kd.int .i64) _ _ _ x17_1 [.int .i64 x17_1] from rfl) (Reps.none _ _))); intro v556 w28 ho29 hb hg_ hnew_; clear hg_ hnew_; (first | rw [← Ny555.out] at ho29 | (simp only [Int.reduceToNat] at ho29; rw [← Ny555.out] at ho29))
          have HO557 := ak (Kd.R_lower (Kd.R_new' ho29 (Kd.R_lt (vr HO554.out))) (below_size (vb HB.out))); replace HO554 := ak (Kd.R_elder' (vr HO554.out) (Kd.R_base ho29) hb); replace BK550 := kb BK550 hb; replace HB := bs HB hb; clear hb ho29; refine hK.out _ _ (cy6 BK550.out) (fun hHeld => ?_); clear hK K; refine norm_ (a' := ?_) ?_ ?_
          rotate_left
          ·show Act.put _ (some 30) _ = _
           simp only [Act.put, List.setIfInBounds_toArray, List.set_cons_zero, List.set_cons_succ, i64_w, i32_w]
           rfl
          exact norm_ (by simp only [putAll, Act.put, List.setIfInBounds_toArray, List.set_cons_zero, List.set_cons_succ]) (hCont (v553, v556) _ ⟨hHeld, (vr (Kd.R_mono HO554.out (fun _ hk => hk.2))), (vr (Kd.R_mono HO557.out (fun _ hk => hk.2))), (vk BK550.out), (vb HB.out)⟩)
         ·skip
          refine Kd.R_lit_step (Kd.int .i64) _ 2 ?hg (N := 30) ?hd (xs := ([x17_1] : List Int)) (inner := [.int .i64 x17_1]) (ok := fun _ => True) (okp := fun _ => True) ?hr ?hp (fun _ hk => hk) trivial (Below.refl _ _) (Nat.le_refl _) (by simp) ?_; (case hd => rfl); (case hg => rfl); (case hr => first | (go_simp; done) | (go_simp; rfl)); (case hp => exact (Reps.one (show Kd.M (Kd.int .i64) _ _ _ x17_1 [.int .i64 x17_1] from rfl) (Reps.none _ _))); intro v556 w27 ho28 hb hg_ hnew_; clear hg_ hnew_; (first | rw [← Ny555.out] at ho28 | (simp only [Int.reduceToNat] at ho28; rw [← Ny555.out] at ho28))
          have HO557 := ak (Kd.R_lower ho28 (below_size (vb HB.out))); replace BK550 := kb BK550 hb; replace HB := bs HB hb; clear hb ho28; refine hK.out _ _ (cy6 BK550.out) (fun hHeld => ?_); clear hK K; refine norm_ (a' := ?_) ?_ ?_
          rotate_left
          ·show Act.put _ (some 30) _ = _
           simp only [Act.put, List.setIfInBounds_toArray, List.set_cons_zero, List.set_cons_succ, i64_w, i32_w]
           rfl
          refine one_ (i := 8) (N := some 28) (tf 11 3) rfl rfl (one_of HT_.out (by kernel_rfl)) (by decide) (fun K hK => ?_); refine goes_ Try.func78 (by kernel_rfl) rfl #[.slice A1 l1.length c1] (by rfl) rfl rfl (by (try simp only [List.map_toArray, List.map_cons, List.map_nil]); first | done | rfl | (simp only [List.length_drop, List.length_take]; rfl)) ?_; with_reducible refine (impl_copyList.calls _ _ l1 t552 _ ?_ ?_ A11.out).mono ?_
          exact vd HR1.out HB.out
          exact HC1.out
          rintro e w29 ⟨v553, rfl, ho0, hb⟩; refine ⟨_, rfl, ?_⟩; have HO554 := ak (Kd.R_lower (Kd.R_new' ho0 (Kd.R_lt (vr HO557.out))) (below_size (vb HB.out))); replace HO557 := ak (Kd.R_elder' (vr HO557.out) (Kd.R_base ho0) hb); replace BK550 := kb BK550 hb; replace HB := bs HB hb; (try clear hb)
          (try clear hb2)
          (try clear hk)
          (try clear hi)
          (try clear ho0)
          refine hK.out _ _ (cy6 BK550.out) (fun hHeld => ?_); clear hK K; refine norm_ (a' := ?_) ?_ ?_
          rotate_left
          ·show Act.put _ (some 28) _ = _
           simp only [Act.put, List.setIfInBounds_toArray, List.set_cons_zero, List.set_cons_succ, i64_w, i32_w]
           rfl
          exact norm_ (by simp only [putAll, Act.put, List.setIfInBounds_toArray, List.set_cons_zero, List.set_cons_succ]) (hCont (v553, v556) _ ⟨hHeld, (vr (Kd.R_mono HO554.out (fun _ hk => hk.2))), (vr (Kd.R_mono HO557.out (fun _ hk => hk.2))), (vk BK550.out), (vb HB.out)⟩)
        rintro ⟨v553, v556⟩ w30 ⟨hS_, h0_, h1_, h2_, h3_⟩; have n0_ : Aside0 (Kd.R (Kd.int .i64) 2 w30 w.heap.size (fun k_ => some k_ ≠ (v556 : Value).ownBlock) v553 t552) := ⟨h0_⟩; have n1_ : Aside0 (Kd.R (Kd.int .i64) 2 w30 w.heap.size (fun k_ => some k_ ≠ (v553 : Value).ownBlock) v556 y555) := ⟨h1_⟩; have n2_ : Aside0 (w30.heap[gb550]? = some (.cells (f5 A0_0 l0_0 c0_0 A0_1 l0_1 c0_1 A0_2 l0_2 c0_2 A0_3 l0_3 c0_3 A0_4 l0_4 c0_4 a0_5) 28 (0, 0))) := ⟨h2_⟩; have n3_ : Aside0 (Below w.heap.size w w30) := ⟨h3_⟩; clear BK550; clear HB; clear h0_ h1_ h2_ h3_; have HO554 := n0_; have HO557 := n1_; have BK550 := n2_; have HB := n3_; clear n0_ n1_ n2_ n3_; have hHeld : w30.cell? ⟨gb550, 0, none⟩ = some (.slice A0_0 l0_0.length c0_0) ∧ w30.cell? ⟨gb550, 1, none⟩ = some (.slice A0_1 l0_1.length c0_1) ∧ w30.cell? ⟨gb550, 2, none⟩ = some (.slice A0_2 l0_2.length c0_2) ∧ w30.cell? ⟨gb550, 3, none⟩ = some (.slice A0_3 l0_3.length c0_3) ∧ w30.cell? ⟨gb550, 4, none⟩ = some (.slice A0_4 l0_4.length c0_4) ∧ w30.cell? ⟨gb550, 5, none⟩ = some (.int .i64 a0_5) := hS_; obtain ⟨Ao32, co32, eo32⟩ := Kd.R_slice HO557.out; (first | subst eo32 | (injection eo32 with f1_ f2_ f3_; have f4_ := f1_.symm; have f5_ := f3_.symm; clear f1_ f2_ f3_; subst f4_; subst f5_))
        refine norm_ (a' := ?_) ?_ ?_
        rotate_left
        ·simp only [putAll, Act.put, List.setIfInBounds_toArray, List.set_cons_zero, List.set_cons_succ]
         rfl
        refine one_ (i := 11) (N := some 31) (tf 12 2) rfl rfl (one_of HT_.out (by kernel_rfl)) (by decide) (fun K hK => ?_); refine Kd.R_append_rows_step (Kd.int .i64) (w0 := w) w.heap.size (by rfl) (.tmp 28) (.tmp 30) 26 2 (.int .i64 0) 8 rfl Try.underlying26 info2 rfl (by decide) (by omega) v553 t552 y555 _ _ _ (fun k_ => some k_ ≠ (.slice Ao32 y555.length co32 : Value).ownBlock) (fun _ => False) rfl rfl ?aO ?aR (fun _ _ h => h) (fun _ h => h.elim) ?aF ?aB ?aS ?aL ?_; (case aR => exact vc (Kd.R_reads' HO557.out).2.2)
        (case aB => exact (vb HB.out))
        (case aF => exact (fun k_ hk => Kd.fresh' (Kd.R_lt (vr HO557.out)) k_ hk))
        (case aO => exact (vr HO554.out))
        (case aS => exact (below_size (vb HB.out)))
        (case aL => have := LMc12.out; omega)
        intro v559 w31 ho hb hg hat; rw [← Ny558.out] at ho; have n0_ := ak (blk_grown (g := gb550) (o := .cells (f5 A0_0 l0_0 c0_0 A0_1 l0_1 c0_1 A0_2 l0_2 c0_2 A0_3 l0_3 c0_3 A0_4 l0_4 c0_4 a0_5) 28 (0, 0)) (vk BK550.out) hg (Kd.R_ne HO554.out BK550.out (by decide))); have n1_ := ak (Kd.R_after (ok := (fun _ => True)) (vr (Kd.R_mono HO557.out (fun _ hk => ⟨trivial, hk⟩))) hg hat); have n2_ := ak (hb); have n3_ := ak (ho); clear BK550; clear HO557; clear HB; clear HO554; have BK550 := n0_; have HO557 := n1_; have HB := n2_; have HO560 := n3_; clear n0_ n1_ n2_ n3_; clear ho hb hg hat; obtain ⟨Ao33, co33, eo33⟩ := Kd.R_slice HO560.out; (first | subst eo33 | (injection eo33 with f1_ f2_ f3_; have f4_ := f1_.symm; have f5_ := f3_.symm; clear f1_ f2_ f3_; subst f4_; subst f5_))
        refine hK.out _ _ (cy6 BK550.out) (fun hHeld => ?_); clear hK K; refine norm_ (a' := ?_) ?_ ?_
        rotate_left
        ·show Act.put _ (some 31) _ = _
         simp only [Act.put, List.setIfInBounds_toArray, List.set_cons_zero, List.set_cons_succ, i64_w, i32_w]
         rfl
        refine one_ (i := 12) (N := some 32) (tf 13 1) rfl rfl (one_of HT_.out (by kernel_rfl)) (by decide) (fun K hK => ?_); refine goes_ Try.func53 (by kernel_rfl) rfl #[.agg (f5 A0_0 l0_0 c0_0 A0_1 l0_1 c0_1 A0_2 l0_2 c0_2 A0_3 l0_3 c0_3 A0_4 l0_4 c0_4 a0_5), .slice Ao33 y558.length co33] (by rfl) rfl rfl (by (try simp only [List.map_toArray, List.map_cons, List.map_nil]); first | done | rfl | (simp only [List.length_drop, List.length_take]; rfl)) ?_; with_reducible refine (ih k1 (by have := HK1.out; omega) _ _ l0_0 _ _ l0_1 _ _ l0_2 _ _ l0_3 _ _ l0_4 a0_5 _ _ y558 false _ ?_ ?_ ?_ ?_ ?_ ?_ ?_ ?_ ?_ ?_ ?_ ?_ A13.out).mono ?_
        exact vd HR0_0.out HB.out
        exact HC0_0.out
        exact vd HR0_1.out HB.out
        exact HC0_1.out
        exact vd HR0_2.out HB.out
        exact HC0_2.out
        exact vd HR0_3.out HB.out
        exact HC0_3.out
        exact vd HR0_4.out HB.out
        exact HC0_4.out
        exact vc (Kd.R_reads' HO560.out).2.2
        exact (Kd.R_reads' HO560.out).2.1
        rintro e w34 ⟨rfl, hb⟩; refine ⟨_, rfl, ?_⟩; replace HO557 := ak (Kd.R_below (vr HO557.out) hb); replace HO560 := ak (Kd.R_below (vr HO560.out) hb); replace BK550 := kb BK550 hb; replace HB := bs HB hb; (try clear hb)
        (try clear hb2)
        (try clear hk)
        (try clear hi)
        refine hK.out _ _ (cy6 BK550.out) (fun hHeld => ?_); clear hK K; refine norm_ (a' := ?_) ?_ ?_
        rotate_left
        ·show Act.put _ (some 32) _ = _
         simp only [Act.put, List.setIfInBounds_toArray, List.set_cons_zero, List.set_cons_succ, i64_w, i32_w]
         rfl
        refine pu_ 13 33 (tf 14 0) rfl rfl ?_; refine done_ (done_of HT_.out (by kernel_rfl)) ?_; (try go_wp2)
        go_roundg k1
        case measure => have := HK1.out; omega
        case rel => exact ⟨(wrap64 (x17_1 + 1)), es, H', ⟨by have := HK1.out; omega⟩, ⟨vk BK550.out⟩, ⟨vb HB.out⟩⟩
      ·exact nO_ c12 H
     ·replace c10 := Bool.eq_false_iff.mpr c10; subst c10; rw [if_neg nf] at H; have H' := ak H; clear H; (try go_wp2)
      replace BK550 := ak (blk_drew BK550.out); replace HB := ak (below_drew1 HB.out); refine start_ (n := 14) (S := fun w' => w'.cell? ⟨gb550, 0, none⟩ = some (.slice A0_0 l0_0.length c0_0) ∧ w'.cell? ⟨gb550, 1, none⟩ = some (.slice A0_1 l0_1.length c0_1) ∧ w'.cell? ⟨gb550, 2, none⟩ = some (.slice A0_2 l0_2.length c0_2) ∧ w'.cell? ⟨gb550, 3, none⟩ = some (.slice A0_3 l0_3.length c0_3) ∧ w'.cell? ⟨gb550, 4, none⟩ = some (.slice A0_4 l0_4.length c0_4) ∧ w'.cell? ⟨gb550, 5, none⟩ = some (.int .i64 a0_5)) (ds := []) (tf 0 14) (by kernel_rfl) rfl rfl (cy6 BK550.out) (fun hHeld => ?_); refine with_tabW impl_hasPlacing.tab7 impl_hasPlacing.bits7 (fun HT_ HW_ => ?_); generalize wr.drew = w35 at BK550 HB hHeld ⊢; refine pu_ 1 21 (tM [0, 1, 1, 12]) rfl rfl ?_; refine pu_ 2 22 (tM [0, 1, 2, 11]) rfl rfl ?_; refine pu_ 3 23 (tM [0, 1, 3, 10]) rfl rfl ?_; refine ta6_ 0 20 (tf 4 10) rfl rfl ?_; refine one_ (i := 4) (N := some 24) (tf 5 9) rfl rfl (one_of HT_.out (by kernel_rfl)) (by decide) (fun K hK => ?_); refine goes_ Try.func83 (by kernel_rfl) rfl #[.agg (f5 A0_0 l0_0 c0_0 A0_1 l0_1 c0_1 A0_2 l0_2 c0_2 A0_3 l0_3 c0_3 A0_4 l0_4 c0_4 a0_5), .slice A1 l1.length c1, .int .i64 (l1.length : Int), .int .i64 x17_1] (by rfl) rfl rfl (by (try simp only [List.map_toArray, List.map_cons, List.map_nil]); first | done | rfl | (simp only [List.length_drop, List.length_take]; rfl)) ?_
      with_reducible refine (impl_isFree.calls k1 _ _ l0_0 _ _ l0_1 _ _ l0_2 _ _ l0_3 _ _ l0_4 a0_5 _ _ l1 (l1.length : Int) x17_1 false _ ?_ ?_ ?_ ?_ ?_ ?_ ?_ ?_ ?_ ?_ ?_ ?_ A9.out).mono ?_
      exact vd HR0_0.out HB.out
      exact HC0_0.out
      exact vd HR0_1.out HB.out
      exact HC0_1.out
      exact vd HR0_2.out HB.out
      exact HC0_2.out
      exact vd HR0_3.out HB.out
      exact HC0_3.out
      exact vd HR0_4.out HB.out
      exact HC0_4.out
      exact vd HR1.out HB.out
      exact HC1.out
      rintro e w36 ⟨rfl, hb⟩; refine ⟨_, rfl, ?_⟩; replace BK550 := kb BK550 hb; replace HB := bs HB hb; (try clear hb)
      (try clear hb2)
      (try clear hk)
      (try clear hi)
      refine hK.out _ _ (cy6 BK550.out) (fun hHeld => ?_); clear hK K; refine norm_ (a' := ?_) ?_ ?_
      rotate_left
      ·show Act.put _ (some 24) _ = _
       simp only [Act.put, List.setIfInBounds_toArray, List.set_cons_zero, List.set_cons_succ, i64_w, i32_w]
       rfl
      refine pu_ 5 25 (tf 6 8) rfl rfl ?_; refine un_ 6 26 (tf 7 7) rfl rfl ?_; refine un_ 7 27 (tf 8 6) rfl rfl ?_; refine un_ 8 28 (tf 9 5) rfl rfl ?_; refine un_ 9 29 (tf 10 4) rfl rfl ?_; refine un_ 10 30 (tf 11 3) rfl rfl ?_; refine un_ 11 31 (tf 12 2) rfl rfl ?_; refine un_ 12 32 (tf 13 1) rfl rfl ?_; refine pu_ 13 33 (tf 14 0) rfl rfl ?_; refine done_ (done_of HT_.out (by kernel_rfl)) ?_; (try go_wp2)
      go_roundg k1
      case measure => have := HK1.out; omega
      case rel => exact ⟨(wrap64 (x17_1 + 1)), es, H', ⟨by have := HK1.out; omega⟩, ⟨vk BK550.out⟩, ⟨vb HB.out⟩⟩
    ·rw [if_neg c8] at H; have c8b0 := decide_eq_false c8; clear c8; obtain rfl := sj H; go_wp2
     go_ret
     exact ⟨ew, vb HB.out⟩


/-! ### spec_l01In: function 98 -/
def spec_l01In.f (a0 : Int) (a1 : Int) (a2 : Int) : Option (Bool) := if a0 ≥ a1 then (some (decide (a0 ≤ a2))) else (some false)
set_option maxHeartbeats 8000000 in
set_option maxRecDepth 100000 in
theorem spec_l01In.calls (a0 : Int) (a1 : Int) (a2 : Int) (r : Bool) (w : World) (h : spec_l01In.f a0 a1 a2 = some r) :
  Calls Try.prog 98 #[.int .i64 a0, .int .i64 a1, .int .i64 a2] w fun e w' => e = .returned (.bool r) ∧ Drawn0 w w' := by
 unfold spec_l01In.f at h; have H := h; clear h; by_cases c4 : a0 ≥ a1
 rw [if_pos c4] at H; have c4b0 := decide_eq_true c4; clear c4; obtain rfl := sj H; rotate_left
 rw [if_neg c4] at H; have c4b0 := decide_eq_false c4; clear c4; obtain rfl := sj H; rotate_left
 all_goals
  go_enter Try.func98, Try.ntmps98; go_wp2
  go_ret
  exact ⟨by first | rfl | (simp; done) | (simp [*]; done), by repeat (first | exact Drawn0.refl _ | apply Drawn0.step)⟩


/-! ### spec_l15Place: function 99 -/
def spec_l15Place.f (a0 : Int) (a1 : Int) : Option (Bool) := (spec_l01In.f a0 0 100000).bind fun t583 => (if t583 = true then ((spec_l01In.f a1 0 100000).bind fun t584 => (some t584)) else (some false))
set_option maxHeartbeats 8000000 in
set_option maxRecDepth 100000 in
theorem spec_l15Place.calls (a0 : Int) (a1 : Int) (r : Bool) (w : World) (h : spec_l15Place.f a0 a1 = some r) :
  Calls Try.prog 99 #[.int .i64 a0, .int .i64 a1] w fun e w' => e = .returned (.bool r) ∧ Drawn0 w w' := by
 unfold spec_l15Place.f at h; have H := h; clear h; obtain ⟨t583, A3, H⟩ := bnk H; by_cases c4 : t583 = true
 subst c4; rw [if_pos rfl] at H; obtain ⟨t584, A5, H⟩ := bnk H; obtain rfl := sj H; rotate_left
 replace c4 := Bool.eq_false_iff.mpr c4; subst c4; rw [if_neg nf] at H; obtain rfl := sj H; rotate_left
 all_goals
  go_enter Try.func99, Try.ntmps99; go_wp2_with (first | ((with_reducible refine at_fn (f := 98) rfl ?_); refine gl (some 6) Try.func98 #[.int .i64 a0, .int .i64 0, .int .i64 100000] ?_; (with_reducible refine (spec_l01In.calls a0 0 100000 _ _ A3.out).mono ?_); rintro e w' ⟨rfl, ⟨nd, rfl⟩⟩; refine ⟨_, rfl, ?_⟩) | (go_at_call 98; (with_reducible refine (spec_l01In.calls a1 0 100000 t584 _ A5.out).mono ?_); rintro e w' ⟨rfl, ⟨nd, rfl⟩⟩))
  go_ret
  exact ⟨by first | rfl | (simp; done) | (simp [*]; done), by repeat (first | exact Drawn0.refl _ | apply Drawn0.step)⟩


/-! ### spec_l16Before: function 114 -/
def spec_l16Before.f (a0_0 : Int) (a0_1 : Int) (a0_2 : Int) (a1_0 : Int) (a1_1 : Int) (a1_2 : Int) : Option (Bool) := if a0_0 < a1_0 then (some true) else (if a0_0 = a1_0 then (some (decide (a0_1 < a1_1))) else (some false))
set_option maxHeartbeats 8000000 in
set_option maxRecDepth 100000 in
theorem spec_l16Before.calls (a0_0 : Int) (a0_1 : Int) (a0_2 : Int) (a1_0 : Int) (a1_1 : Int) (a1_2 : Int) (r : Bool) (w : World) (h : spec_l16Before.f a0_0 a0_1 a0_2 a1_0 a1_1 a1_2 = some r) :
  Calls Try.prog 114 #[.agg #[.int .i64 a0_0, .int .i64 a0_1, .int .i64 a0_2], .agg #[.int .i64 a1_0, .int .i64 a1_1, .int .i64 a1_2]] w fun e w' => e = .returned (.bool r) ∧ Below w.heap.size w w' := by
 have hu91 := Try.underlying91; have HB := ak (Below.refl w.heap.size w); unfold spec_l16Before.f at h; have H := h; clear h; by_cases c3 : a0_0 < a1_0
 rw [if_pos c3] at H; have c3b0 := decide_eq_true c3; clear c3; obtain rfl := sj H; rotate_left
 rw [if_neg c3] at H; have c3b0 := decide_eq_false c3; clear c3; by_cases c9 : a0_0 = a1_0
 rw [if_pos c9] at H; obtain ⟨c9b0, c9b1⟩ := bqt c9; clear c9; obtain rfl := sj H; rotate_left
 rw [if_neg c9] at H; obtain ⟨c9b0, c9b1⟩ := bqf c9; obtain rfl := sj H; rotate_left
 all_goals
  go_enter Try.func114, Try.ntmps114; go_wp2_with (first | ((with_reducible refine gate_dst (N := 2) rfl ?_); refine bx 2 #[.int .i64 a0_0, .int .i64 a0_1, .int .i64 a0_2] 91 ?_; intro gb585 hg w9 hbox hb; have BK585 := ak hbox; have GW585 := gw hg HB; have GE585 := gw hg HB; replace HB := bs HB hb; clear hb hbox hg) | ((with_reducible refine gate_dst (N := 3) rfl ?_); refine bx 3 #[.int .i64 a1_0, .int .i64 a1_1, .int .i64 a1_2] 91 ?_; intro gb586 hg w9 hbox hb; have BK586 := ak hbox; have GW586 := gw hg HB; have GE586 := gw hg HB; replace HB := bs HB hb; have NB585_586 := ak ((by rw [hg]; exact Nat.ne_of_lt (blk_lt (vk BK585.out)) : gb585 ≠ gb586)); have NB586_585 := ak ((by rw [hg]; exact Nat.ne_of_gt (blk_lt (vk BK585.out)) : gb586 ≠ gb585)); replace BK585 := kb BK585 hb; clear hb hbox hg; have hnb9 := NB585_586.out; have hnc9 := NB586_585.out; have hcz9 := cz3 BK585.out; have hcz9 := cz3 BK586.out))
  go_ret
  exact ⟨ew, vb HB.out⟩


/-! ### spec_IsTable: function 100 -/
mutual
def spec_IsTable.l0 : Nat → List (S91) → Int → Option (Bool)
 | 0, _, _ => none
 | k + 1, x0, x3 => if x3 < (x0.length : Int) then (if 0 ≤ x3 then ((spec_l01In.f ((rd_T91 x0 x3).f0) 0 3).bind fun t589 => (if t589 = true then ((spec_l01In.f ((rd_T91 x0 x3).f1) 20 300).bind fun t590 => (if t590 = true then ((spec_l01In.f ((rd_T91 x0 x3).f2) 0 10000).bind fun t591 => (spec_IsTable.j1 k x0 x3 (!t591) ((rd_T91 x0 x3).f0) ((rd_T91 x0 x3).f1) ((rd_T91 x0 x3).f2))) else (spec_IsTable.j1 k x0 x3 true ((rd_T91 x0 x3).f0) ((rd_T91 x0 x3).f1) ((rd_T91 x0 x3).f2)))) else (spec_IsTable.j1 k x0 x3 true ((rd_T91 x0 x3).f0) ((rd_T91 x0 x3).f1) ((rd_T91 x0 x3).f2)))) else (none)) else (some (decide ((x0.length : Int) ≤ 12)))
def spec_IsTable.j1 : Nat → List (S91) → Int → Bool → Int → Int → Int → Option (Bool)
 | 0, _, _, _, _, _, _ => none
 | k + 1, x0, x3, x30, x589000, x589001, x589002 => if x30 = true then (some false) else (if x3 > 0 then (if 0 ≤ (wrap64 (x3 - 1)) then (if (wrap64 (x3 - 1)) < (x0.length : Int) then ((spec_l16Before.f ((rd_T91 x0 (wrap64 (x3 - 1))).f0) ((rd_T91 x0 (wrap64 (x3 - 1))).f1) ((rd_T91 x0 (wrap64 (x3 - 1))).f2) x589000 x589001 x589002).bind fun t593 => (if t593 = true then (if ((rd_T91 x0 (wrap64 (x3 - 1))).f0) = x589000 then (if ((rd_T91 x0 (wrap64 (x3 - 1))).f2) > x589002 then (some false) else (spec_IsTable.l0 k x0 (wrap64 (x3 + 1)))) else (spec_IsTable.l0 k x0 (wrap64 (x3 + 1)))) else (some false))) else (none)) else (none)) else (spec_IsTable.l0 k x0 (wrap64 (x3 + 1))))
end
def spec_IsTable.f (k : Nat) (l0 : List (S91)) : Option (Bool) := spec_IsTable.l0 k l0 0
theorem spec_IsTable.mono_l : ∀ k, (∀ y0 y1, LeO (spec_IsTable.l0 k y0 y1) (spec_IsTable.l0 (k + 1) y0 y1)) ∧ (∀ y0 y1 y2 y3 y4 y5, LeO (spec_IsTable.j1 k y0 y1 y2 y3 y4 y5) (spec_IsTable.j1 (k + 1) y0 y1 y2 y3 y4 y5))
 | 0 => ⟨fun _ _ r h => by simp [spec_IsTable.l0] at h, fun _ _ _ _ _ _ r h => by simp [spec_IsTable.j1] at h⟩
 | k + 1 => by
  obtain ⟨ih0, ih1⟩ := spec_IsTable.mono_l k; refine ⟨?_, ?_⟩
  ·intro y0 y1; unfold spec_IsTable.l0
   repeat' (with_reducible first | exact ih0 .. | exact ih1 .. | exact LeO.refl .. | exact LeO.none .. | refine LeO.ite ?_ ?_ | refine LeO.bind ?_ (fun _ => ?_))
  ·intro y0 y1 y2 y3 y4 y5; unfold spec_IsTable.j1
   repeat' (with_reducible first | exact ih0 .. | exact ih1 .. | exact LeO.refl .. | exact LeO.none .. | refine LeO.ite ?_ ?_ | refine LeO.bind ?_ (fun _ => ?_))
theorem spec_IsTable.mono : ∀ a0 k, LeO (spec_IsTable.f k a0) (spec_IsTable.f (k + 1) a0) := by
 intro a0 k; obtain ⟨ih0, ih1⟩ := spec_IsTable.mono_l k; unfold spec_IsTable.f
 repeat' (with_reducible first | exact ih0 .. | exact ih1 .. | exact LeO.refl .. | exact LeO.none .. | refine LeO.ite ?_ ?_ | refine LeO.bind ?_ (fun _ => ?_))
def spec_IsTable.T7 : Bool × List (List Nat × List Nat) := (true, [([], []), ([0], [0]), ([1], [1]), ([2], [2]), ([2], [2]), ([4, 2], [2, 4]), ([3, 5, 2], [2, 3, 5]), ([6, 2], [2, 6]), ([2], [2]), ([7, 8, 2, 2], [2, 7, 8]), ([9, 2], [2, 9]), ([10, 9, 2], [2, 10]), ([11], [11]), ([11], [11]), ([13, 11], [11, 13]), ([12, 14, 11], [11, 12, 14]), ([15, 11], [11, 15]), ([16, 11], [11, 16]), ([11], [11]), ([18, 11], [11, 18]), ([17, 19, 11], [11, 17, 19]), ([20, 11, 11], [11, 20]), ([21], [21]), ([21], [21]), ([23, 21], [21, 23]), ([22, 24, 21], [21, 22, 24]), ([25, 21], [21, 25]), ([26, 21], [21, 26]), ([21], [21]), ([28, 21], [21, 28]), ([27, 29, 21], [21, 27, 29]), ([21, 30, 11], [11, 21, 30]), ([11, 31, 2], [2, 11, 31]), ([2, 32], [2, 32])])
def spec_IsTable.B7 : List Nat := [0, 1, 3, 7, 7, 23, 63, 127, 7, 511, 1023, 2047, 4095, 4095, 12287, 32767, 65535, 131071, 4095, 266239, 1048575, 2097151, 4194303, 4194303, 12582911, 33554431, 67108863, 134217727, 4194303, 272629759, 1073741823, 2147483647, 4294967295, 8589934591]
theorem spec_IsTable.tab7 : rtab .any (opsOf Try.f100 7) = spec_IsTable.T7 := by kernel_rfl
theorem spec_IsTable.bits7 : waitsOk spec_IsTable.T7.2 spec_IsTable.B7 = true := by kernel_rfl
set_option maxHeartbeats 8000000 in
set_option maxRecDepth 100000 in
theorem spec_IsTable.calls (k : Nat) (A0 : Option Addr) (c0 : Nat) (l0 : List (S91)) (r : Bool) (w : World) (hr0 : Kd.C k91 w A0 l0.length l0) (hc0 : l0.length ≤ c0) (h : spec_IsTable.f k l0 = some r) :
  Calls Try.prog 100 #[.slice A0 l0.length c0] w fun e w' => e = .returned (.bool r) ∧ Below w.heap.size w w' := by
 have hu91 := Try.underlying91; have HR0 := ak hr0; have HC0 := ak hc0; clear hr0 hc0; have HB := ak (Below.refl w.heap.size w); unfold spec_IsTable.f at h; have H := h; clear h; have H' := ak H; clear H; go_enter Try.func100, Try.ntmps100; go_wp2
 go_loopg [3] k (fun kq v3 w' => ∃ (x3_1 : Int), v3 = .int .i64 x3_1 ∧ Aside0 (spec_IsTable.l0 kq l0 x3_1 = some r) ∧ Aside0 (kq ≤ k) ∧ Aside0 (Below w.heap.size w w'))
 case atStart => exact ⟨(0), es, H', ⟨Nat.le_refl _⟩, ⟨vb HB.out⟩⟩
 case round =>
  clear H'; (try clear c1); obtain ⟨x3_1, rfl, HA, HK1, HB⟩ := hrel
  cases gk with
  | zero => exact absurd HA.out (by simp [spec_IsTable.l0])
  | succ k1 =>
   have H := HA.out; clear HA; simp only [spec_IsTable.l0] at H
   by_cases c2 : x3_1 < (l0.length : Int)
   ·rw [if_pos c2] at H; have c2b0 := decide_eq_true c2; clear c2; by_cases c3 : 0 ≤ x3_1
    ·rw [if_pos c3] at H; have c3b0 := decide_eq_true c3; clear c3; have HC4 := ak H; clear H; have p587 : 0 ≤ (x3_1 : Int) := od; have q587 : x3_1 < (l0.length : Int) := od; obtain ⟨ad587, e587, hx587_0, hx587_1, hx587_2⟩ := at_T91 HR0.out x3_1 p587 q587
     cases e587; replace hx587_0 := cb HB.out hx587_0; replace hx587_1 := cb HB.out hx587_1; replace hx587_2 := cb HB.out hx587_2; replace p587 := eq_true p587; replace q587 := eq_true q587; go_upto_region 5 with (first | ((with_reducible refine gate_dst (N := 4) rfl ?_); refine bx 4 #[.int .i64 0, .int .i64 0, .int .i64 0] 91 ?_; intro gb588 hg w5 hbox hb; have BK588 := ak hbox; have GW588 := gw hg HB; have GE588 := gw hg HB; replace HB := bs HB hb; clear hb hbox hg; have hcz6 := cz3 BK588.out))
     (try simp only [Act.put, List.setIfInBounds_toArray, List.set_cons_zero, List.set_cons_succ])
     go_cut [30] (fun v30 wc => ∃ (kq : Nat) (x30_3 : Bool), v30 = .bool x30_3 ∧ Aside0 (spec_IsTable.j1 kq l0 x3_1 x30_3 ((rd_T91 l0 x3_1).f0) ((rd_T91 l0 x3_1).f1) ((rd_T91 l0 x3_1).f2) = some r) ∧ Aside0 (kq ≤ k1) ∧ Aside0 (wc.heap[gb588]? = some (.cells #[.int .i64 ((rd_T91 l0 x3_1).f0), .int .i64 ((rd_T91 l0 x3_1).f1), .int .i64 ((rd_T91 l0 x3_1).f2)] 91 (0, 0))) ∧ Aside0 (Below w.heap.size w wc))
     case first =>
      have H := HC4.out; clear HC4; obtain ⟨t589, A7, H⟩ := bnk H; by_cases c8 : t589 = true
      ·subst c8; rw [if_pos rfl] at H; obtain ⟨t590, A9, H⟩ := bnk H; by_cases c10 : t590 = true
       ·subst c10; rw [if_pos rfl] at H; obtain ⟨t591, A11, H⟩ := bnk H; have H' := ak H; clear H; have hcz12 := cz3 BK588.out; go_wp2_with (first | ((with_reducible refine at_fn (f := 98) rfl ?_); refine gl (some 17) Try.func98 #[.int .i64 ((rd_T91 l0 x3_1).f0), .int .i64 0, .int .i64 3] ?_; (with_reducible refine (spec_l01In.calls ((rd_T91 l0 x3_1).f0) 0 3 _ _ A7.out).mono ?_); rintro e w' ⟨rfl, ⟨nd, rfl⟩⟩; refine ⟨_, rfl, ?_⟩) | (go_at_call 98; (with_reducible refine (spec_l01In.calls ((rd_T91 l0 x3_1).f1) 20 300 _ _ A9.out).mono ?_); rintro e w' ⟨rfl, ⟨nd, rfl⟩⟩) | (go_at_call 98; (with_reducible refine (spec_l01In.calls ((rd_T91 l0 x3_1).f2) 0 10000 t591 _ A11.out).mono ?_); rintro e w' ⟨rfl, ⟨nd, rfl⟩⟩))
        go_meet
        case rel => exact ⟨_, (!t591), es, H', ⟨by have := HK1.out; first | omega | exact Nat.le_refl _⟩, ⟨by (with_reducible repeat (first | refine blk_drewN ?_ _ | refine blk_drew ?_ | refine blk_alloc ?_ _)); refine blk_put (cs := #[.int .i64 ((rd_T91 l0 x3_1).f0), .int .i64 ((rd_T91 l0 x3_1).f1), .int .i64 0]) ?_ 2 _ rfl; (with_reducible repeat (first | refine blk_drewN ?_ _ | refine blk_drew ?_ | refine blk_alloc ?_ _)); refine blk_put (cs := #[.int .i64 ((rd_T91 l0 x3_1).f0), .int .i64 0, .int .i64 0]) ?_ 1 _ rfl; (with_reducible repeat (first | refine blk_drewN ?_ _ | refine blk_drew ?_ | refine blk_alloc ?_ _)); refine blk_put (cs := #[.int .i64 0, .int .i64 0, .int .i64 0]) ?_ 0 _ rfl; exact vk BK588.out⟩, ⟨vb HB.out⟩⟩
       ·replace c10 := Bool.eq_false_iff.mpr c10; subst c10; rw [if_neg nf] at H; have H' := ak H; clear H; have hcz13 := cz3 BK588.out; go_wp2_with (first | ((with_reducible refine at_fn (f := 98) rfl ?_); refine gl (some 17) Try.func98 #[.int .i64 ((rd_T91 l0 x3_1).f0), .int .i64 0, .int .i64 3] ?_; (with_reducible refine (spec_l01In.calls ((rd_T91 l0 x3_1).f0) 0 3 _ _ A7.out).mono ?_); rintro e w' ⟨rfl, ⟨nd, rfl⟩⟩; refine ⟨_, rfl, ?_⟩) | (go_at_call 98; (with_reducible refine (spec_l01In.calls ((rd_T91 l0 x3_1).f1) 20 300 _ _ A9.out).mono ?_); rintro e w' ⟨rfl, ⟨nd, rfl⟩⟩))
        go_meet
        case rel => exact ⟨_, (true), es, H', ⟨by have := HK1.out; first | omega | exact Nat.le_refl _⟩, ⟨by (with_reducible repeat (first | refine blk_drewN ?_ _ | refine blk_drew ?_ | refine blk_alloc ?_ _)); refine blk_put (cs := #[.int .i64 ((rd_T91 l0 x3_1).f0), .int .i64 ((rd_T91 l0 x3_1).f1), .int .i64 0]) ?_ 2 _ rfl; (with_reducible repeat (first | refine blk_drewN ?_ _ | refine blk_drew ?_ | refine blk_alloc ?_ _)); refine blk_put (cs := #[.int .i64 ((rd_T91 l0 x3_1).f0), .int .i64 0, .int .i64 0]) ?_ 1 _ rfl; (with_reducible repeat (first | refine blk_drewN ?_ _ | refine blk_drew ?_ | refine blk_alloc ?_ _)); refine blk_put (cs := #[.int .i64 0, .int .i64 0, .int .i64 0]) ?_ 0 _ rfl; exact vk BK588.out⟩, ⟨vb HB.out⟩⟩
      ·replace c8 := Bool.eq_false_iff.mpr c8; subst c8; rw [if_neg nf] at H; have H' := ak H; clear H; have hcz14 := cz3 BK588.out; go_wp2_with (first | ((with_reducible refine at_fn (f := 98) rfl ?_); refine gl (some 17) Try.func98 #[.int .i64 ((rd_T91 l0 x3_1).f0), .int .i64 0, .int .i64 3] ?_; (with_reducible refine (spec_l01In.calls ((rd_T91 l0 x3_1).f0) 0 3 _ _ A7.out).mono ?_); rintro e w' ⟨rfl, ⟨nd, rfl⟩⟩; refine ⟨_, rfl, ?_⟩))
       go_meet
       case rel => exact ⟨_, (true), es, H', ⟨by have := HK1.out; first | omega | exact Nat.le_refl _⟩, ⟨by (with_reducible repeat (first | refine blk_drewN ?_ _ | refine blk_drew ?_ | refine blk_alloc ?_ _)); refine blk_put (cs := #[.int .i64 ((rd_T91 l0 x3_1).f0), .int .i64 ((rd_T91 l0 x3_1).f1), .int .i64 0]) ?_ 2 _ rfl; (with_reducible repeat (first | refine blk_drewN ?_ _ | refine blk_drew ?_ | refine blk_alloc ?_ _)); refine blk_put (cs := #[.int .i64 ((rd_T91 l0 x3_1).f0), .int .i64 0, .int .i64 0]) ?_ 1 _ rfl; (with_reducible repeat (first | refine blk_drewN ?_ _ | refine blk_drew ?_ | refine blk_alloc ?_ _)); refine blk_put (cs := #[.int .i64 0, .int .i64 0, .int .i64 0]) ?_ 0 _ rfl; exact vk BK588.out⟩, ⟨vb HB.out⟩⟩
     case rest =>
      clear HC4; (try clear c1); (try clear c2); (try clear c2b0); (try clear p2); (try clear c3); (try clear c3b0); (try clear p5); (try clear q5); (try clear hx5); (try clear c8); (try clear c9); (try clear c10); (try clear hcz12); (try clear hcz13); (try clear hcz14); (try clear hcz6); (try clear hx587_0); (try clear hx587_1); (try clear hx587_2); (try clear p587); (try clear q587); obtain ⟨kq, x30_3, rfl, HA, HJ3, BK588, HB⟩ := hcut
      cases kq with
      | zero => exact absurd HA.out (by simp [spec_IsTable.j1])
      | succ kj3 =>
       have H := HA.out; clear HA; simp only [spec_IsTable.j1] at H
       by_cases c15 : x30_3 = true
       ·subst c15; rw [if_pos rfl] at H; obtain rfl := sj H; go_wp2
        go_ret
        exact ⟨ew, vb HB.out⟩
       ·replace c15 := Bool.eq_false_iff.mpr c15; subst c15; rw [if_neg nf] at H; by_cases c16 : x3_1 > 0
        ·rw [if_pos c16] at H; have c16b0 := decide_eq_true c16; clear c16; obtain ⟨ji17, hji17⟩ : ∃ j_ : Int, (wrap64 (x3_1 - 1)) = j_ := ⟨_, rfl⟩; replace H : (if 0 ≤ (ji17) then (if (ji17) < (l0.length : Int) then ((spec_l16Before.f ((rd_T91 l0 (ji17)).f0) ((rd_T91 l0 (ji17)).f1) ((rd_T91 l0 (ji17)).f2) ((rd_T91 l0 x3_1).f0) ((rd_T91 l0 x3_1).f1) ((rd_T91 l0 x3_1).f2)).bind fun t593 => (if t593 = true then (if ((rd_T91 l0 (ji17)).f0) = ((rd_T91 l0 x3_1).f0) then (if ((rd_T91 l0 (ji17)).f2) > ((rd_T91 l0 x3_1).f2) then (some false) else (spec_IsTable.l0 kj3 l0 (wrap64 (x3_1 + 1)))) else (spec_IsTable.l0 kj3 l0 (wrap64 (x3_1 + 1)))) else (some false))) else (none)) else (none)) = some r := by first | (rw [hji17] at H; exact H) | (simp only [hji17] at H ⊢; exact H)
         have hji17w : (IntKind.i64.wrap (x3_1 - 1)) = ji17 := (i64_w _).trans hji17; by_cases c18 : 0 ≤ (ji17)
         ·rw [if_pos c18] at H; have c18b0 := decide_eq_true c18; clear c18; by_cases c19 : (ji17) < (l0.length : Int)
          ·rw [if_pos c19] at H; have c19b0 := decide_eq_true c19; clear c19; obtain ⟨t593, A20, H⟩ := bnk H; by_cases c21 : t593 = true
           ·subst c21; rw [if_pos rfl] at H; by_cases c22 : ((rd_T91 l0 (ji17)).f0) = ((rd_T91 l0 x3_1).f0)
            ·rw [if_pos c22] at H; have c22b0 : (((rd_T91 l0 (ji17)).f0) == ((rd_T91 l0 x3_1).f0)) = true := beq_iff_eq.mpr c22; have c22b1 : (((rd_T91 l0 (ji17)).f0) != ((rd_T91 l0 x3_1).f0)) = false := bne_eq_false_iff_eq.mpr c22; clear c22; by_cases c23 : ((rd_T91 l0 (ji17)).f2) > ((rd_T91 l0 x3_1).f2)
             ·rw [if_pos c23] at H; have c23b0 := decide_eq_true c23; clear c23; obtain rfl := sj H; (try go_wp2)
              replace BK588 := ak (blk_drew BK588.out); replace HB := ak (below_drew1 HB.out); have p592 : 0 ≤ ((ji17) : Int) := od; have q592 : (ji17) < (l0.length : Int) := od; obtain ⟨ad592, e592, hx592_0, hx592_1, hx592_2⟩ := at_T91 HR0.out (ji17) p592 q592; have hw592_2 := hx592_2; have hw592_1 := hx592_1; have hw592_0 := hx592_0; obtain rfl : ad587 = ad592 := (by injection e592); replace hx592_0 := cb HB.out hx592_0; replace hx592_1 := cb HB.out hx592_1; replace hx592_2 := cb HB.out hx592_2; replace p592 := eq_true p592; replace q592 := eq_true q592; have p594 : 0 ≤ ((ji17) : Int) := od; have q594 : (ji17) < (l0.length : Int) := od; obtain ⟨ad594, e594, hx594_0, hx594_1, hx594_2⟩ := at_T91 HR0.out (ji17) p594 q594; have hw594_2 := hx594_2; have hw594_1 := hx594_1; have hw594_0 := hx594_0; obtain rfl : ad587 = ad594 := (by injection e594); replace hx594_0 := cb HB.out hx594_0; replace hx594_1 := cb HB.out hx594_1; replace hx594_2 := cb HB.out hx594_2; replace p594 := eq_true p594; replace q594 := eq_true q594; have p595 : 0 ≤ ((ji17) : Int) := od; have q595 : (ji17) < (l0.length : Int) := od; obtain ⟨ad595, e595, hx595_0, hx595_1, hx595_2⟩ := at_T91 HR0.out (ji17) p595 q595; have hw595_2 := hx595_2; have hw595_1 := hx595_1; have hw595_0 := hx595_0; obtain rfl : ad587 = ad595 := (by injection e595); replace hx595_0 := cb HB.out hx595_0; replace hx595_1 := cb HB.out hx595_1; replace hx595_2 := cb HB.out hx595_2; replace p595 := eq_true p595; replace q595 := eq_true q595
              refine start_ (n := 34) (S := fun w' => w'.cell? ⟨gb588, 0, none⟩ = some (.int .i64 ((rd_T91 l0 x3_1).f0)) ∧ w'.cell? ⟨gb588, 1, none⟩ = some (.int .i64 ((rd_T91 l0 x3_1).f1)) ∧ w'.cell? ⟨gb588, 2, none⟩ = some (.int .i64 ((rd_T91 l0 x3_1).f2)) ∧ w'.cell? (ad587.add (((ji17)).toNat * 3)) = some (.int .i64 ((rd_T91 l0 (ji17)).f0)) ∧ w'.cell? ⟨(ad587.add (((ji17)).toNat * 3)).block, (ad587.add (((ji17)).toNat * 3)).off + 1, none⟩ = some (.int .i64 ((rd_T91 l0 (ji17)).f1)) ∧ w'.cell? ⟨(ad587.add (((ji17)).toNat * 3)).block, (ad587.add (((ji17)).toNat * 3)).off + 2, none⟩ = some (.int .i64 ((rd_T91 l0 (ji17)).f2)) ∧ w'.cell? (ad587.add (((ji17)).toNat * 3)) = some (.int .i64 ((rd_T91 l0 (ji17)).f0)) ∧ w'.cell? ⟨(ad587.add (((ji17)).toNat * 3)).block, (ad587.add (((ji17)).toNat * 3)).off + 1, none⟩ = some (.int .i64 ((rd_T91 l0 (ji17)).f1)) ∧ w'.cell? ⟨(ad587.add (((ji17)).toNat * 3)).block, (ad587.add (((ji17)).toNat * 3)).off + 2, none⟩ = some (.int .i64 ((rd_T91 l0 (ji17)).f2)) ∧ w'.cell? (ad587.add (((ji17)).toNat * 3)) = some (.int .i64 ((rd_T91 l0 (ji17)).f0)) ∧ w'.cell? ⟨(ad587.add (((ji17)).toNat * 3)).block, (ad587.add (((ji17)).toNat * 3)).off + 1, none⟩ = some (.int .i64 ((rd_T91 l0 (ji17)).f1)) ∧ w'.cell? ⟨(ad587.add (((ji17)).toNat * 3)).block, (ad587.add (((ji17)).toNat * 3)).off + 2, none⟩ = some (.int .i64 ((rd_T91 l0 (ji17)).f2))) (ds := []) (tf 0 34) (by kernel_rfl) rfl rfl ⟨bk BK588.out 0, bk BK588.out 1, bk BK588.out 2, (cb HB.out hw592_0), (cb HB.out hw592_1), (cb HB.out hw592_2), (cb HB.out hw594_0), (cb HB.out hw594_1), (cb HB.out hw594_2), (cb HB.out hw595_0), (cb HB.out hw595_1), (cb HB.out hw595_2)⟩ (fun hHeld => ?_); refine with_tabW spec_IsTable.tab7 spec_IsTable.bits7 (fun HT_ HW_ => ?_)
              generalize wc.drew = w24 at BK588 HB hx592_0 hx592_1 hx592_2 hx594_0 hx594_1 hx594_2 hx595_0 hx595_1 hx595_2 hHeld ⊢; refine pu_ 0 31 (tf 1 33) rfl rfl ?_; refine pu_ 1 32 (tf 2 32) rfl rfl ?_; refine pu_ 2 33 (tf 3 31) rfl rfl ?_; refine pu_ 3 34 (tf 4 30) rfl rfl ?_; refine pu_ 4 35 (tf 5 29) rfl rfl ?_; refine pu_ 5 36 (tf 6 28) rfl rfl ?_; refine pu_ 6 37 (tf 7 27) rfl rfl ?_; refine ta12_ 7 38 (tf 8 26) rfl rfl ?_; refine ta12_ 8 39 (tf 9 25) rfl rfl ?_; refine one_ (i := 9) (N := some 40) (tf 10 24) rfl rfl (one_of HT_.out (by kernel_rfl)) (by decide) (fun K hK => ?_); refine goes_ Try.func114 (by kernel_rfl) rfl #[.agg #[.int .i64 ((rd_T91 l0 (ji17)).f0), .int .i64 ((rd_T91 l0 (ji17)).f1), .int .i64 ((rd_T91 l0 (ji17)).f2)], .agg #[.int .i64 ((rd_T91 l0 x3_1).f0), .int .i64 ((rd_T91 l0 x3_1).f1), .int .i64 ((rd_T91 l0 x3_1).f2)]] (by rfl) rfl rfl (by (try simp only [List.map_toArray, List.map_cons, List.map_nil]); first | done | (simp only [hji17]; rfl) | rfl | (simp only [List.length_drop, List.length_take]; rfl)) ?_; with_reducible refine (spec_l16Before.calls ((rd_T91 l0 (ji17)).f0) ((rd_T91 l0 (ji17)).f1) ((rd_T91 l0 (ji17)).f2) ((rd_T91 l0 x3_1).f0) ((rd_T91 l0 x3_1).f1) ((rd_T91 l0 x3_1).f2) true _ A20.out).mono ?_
              rintro e w25 ⟨rfl, hb⟩; refine ⟨_, rfl, ?_⟩; replace BK588 := kb BK588 hb; replace HB := bs HB hb; (try clear hb)
              (try clear hb2)
              (try clear hk)
              (try clear hi)
              refine hK.out _ _ ⟨bk BK588.out 0, bk BK588.out 1, bk BK588.out 2, (cb HB.out hw592_0), (cb HB.out hw592_1), (cb HB.out hw592_2), (cb HB.out hw594_0), (cb HB.out hw594_1), (cb HB.out hw594_2), (cb HB.out hw595_0), (cb HB.out hw595_1), (cb HB.out hw595_2)⟩ (fun hHeld => ?_); clear hK K; refine norm_ (a' := ?_) ?_ ?_
              rotate_left
              ·show Act.put _ (some 40) _ = _
               simp only [Act.put, List.setIfInBounds_toArray, List.set_cons_zero, List.set_cons_succ, i64_w, i32_w]
               rfl
              refine pu_ 10 41 (tf 11 23) rfl rfl ?_; refine pu_ 11 42 (tf 12 22) rfl rfl ?_; refine pu_ 12 43 (tf 13 21) rfl rfl ?_; refine pu_ 13 44 (tf 14 20) rfl rfl ?_; refine pu_ 14 45 (tf 15 19) rfl rfl ?_; refine pu_ 15 46 (tf 16 18) rfl rfl ?_; refine pu_ 16 47 (tf 17 17) rfl rfl ?_; refine pu_ 18 49 (tM [17, 1, 1, 15]) rfl rfl ?_; refine ta12_ 17 48 (tf 19 15) rfl rfl ?_; refine ta12_ 19 50 (tf 20 14) rfl rfl ?_; refine pu_ 20 51 (tf 21 13) rfl rfl ?_; refine pu_ 21 52 (tf 22 12) rfl rfl ?_; refine pu_ 22 53 (tf 23 11) rfl rfl ?_; refine pu_ 23 54 (tf 24 10) rfl rfl ?_; refine pu_ 24 55 (tf 25 9) rfl rfl ?_; refine pu_ 25 56 (tf 26 8) rfl rfl ?_; refine pu_ 26 57 (tf 27 7) rfl rfl ?_; refine pu_ 28 59 (tM [27, 1, 1, 5]) rfl rfl ?_; refine ta12_ 27 58 (tf 29 5) rfl rfl ?_; refine ta12_ 29 60 (tf 30 4) rfl rfl ?_; refine pu_ 30 61 (tf 31 3) rfl rfl ?_; refine pu_ 31 62 (tf 32 2) rfl rfl ?_; refine pu_ 32 63 (tf 33 1) rfl rfl ?_; refine pu_ 33 64 (tf 34 0) rfl rfl ?_; refine done_ (done_of HT_.out (by kernel_rfl)) ?_; (try go_wp2)
              go_ret
              exact ⟨by first | rfl | (simp [errW_none, errW_some] <;> rfl) | (simp only [← hji17]; first | rfl | (simp [errW_none, errW_some] <;> rfl)) | (simp [*, errW_none, errW_some] <;> rfl), vb HB.out⟩
             ·rw [if_neg c23] at H; have c23b0 := decide_eq_false c23; clear c23; have H' := ak H; clear H; (try go_wp2)
              replace BK588 := ak (blk_drew BK588.out); replace HB := ak (below_drew1 HB.out); have p592 : 0 ≤ ((ji17) : Int) := od; have q592 : (ji17) < (l0.length : Int) := od; obtain ⟨ad592, e592, hx592_0, hx592_1, hx592_2⟩ := at_T91 HR0.out (ji17) p592 q592; have hw592_2 := hx592_2; have hw592_1 := hx592_1; have hw592_0 := hx592_0; obtain rfl : ad587 = ad592 := (by injection e592); replace hx592_0 := cb HB.out hx592_0; replace hx592_1 := cb HB.out hx592_1; replace hx592_2 := cb HB.out hx592_2; replace p592 := eq_true p592; replace q592 := eq_true q592; have p594 : 0 ≤ ((ji17) : Int) := od; have q594 : (ji17) < (l0.length : Int) := od; obtain ⟨ad594, e594, hx594_0, hx594_1, hx594_2⟩ := at_T91 HR0.out (ji17) p594 q594; have hw594_2 := hx594_2; have hw594_1 := hx594_1; have hw594_0 := hx594_0; obtain rfl : ad587 = ad594 := (by injection e594); replace hx594_0 := cb HB.out hx594_0; replace hx594_1 := cb HB.out hx594_1; replace hx594_2 := cb HB.out hx594_2; replace p594 := eq_true p594; replace q594 := eq_true q594; have p595 : 0 ≤ ((ji17) : Int) := od; have q595 : (ji17) < (l0.length : Int) := od; obtain ⟨ad595, e595, hx595_0, hx595_1, hx595_2⟩ := at_T91 HR0.out (ji17) p595 q595; have hw595_2 := hx595_2; have hw595_1 := hx595_1; have hw595_0 := hx595_0; obtain rfl : ad587 = ad595 := (by injection e595); replace hx595_0 := cb HB.out hx595_0; replace hx595_1 := cb HB.out hx595_1; replace hx595_2 := cb HB.out hx595_2; replace p595 := eq_true p595; replace q595 := eq_true q595
              refine start_ (n := 34) (S := fun w' => w'.cell? ⟨gb588, 0, none⟩ = some (.int .i64 ((rd_T91 l0 x3_1).f0)) ∧ w'.cell? ⟨gb588, 1, none⟩ = some (.int .i64 ((rd_T91 l0 x3_1).f1)) ∧ w'.cell? ⟨gb588, 2, none⟩ = some (.int .i64 ((rd_T91 l0 x3_1).f2)) ∧ w'.cell? (ad587.add (((ji17)).toNat * 3)) = some (.int .i64 ((rd_T91 l0 (ji17)).f0)) ∧ w'.cell? ⟨(ad587.add (((ji17)).toNat * 3)).block, (ad587.add (((ji17)).toNat * 3)).off + 1, none⟩ = some (.int .i64 ((rd_T91 l0 (ji17)).f1)) ∧ w'.cell? ⟨(ad587.add (((ji17)).toNat * 3)).block, (ad587.add (((ji17)).toNat * 3)).off + 2, none⟩ = some (.int .i64 ((rd_T91 l0 (ji17)).f2)) ∧ w'.cell? (ad587.add (((ji17)).toNat * 3)) = some (.int .i64 ((rd_T91 l0 (ji17)).f0)) ∧ w'.cell? ⟨(ad587.add (((ji17)).toNat * 3)).block, (ad587.add (((ji17)).toNat * 3)).off + 1, none⟩ = some (.int .i64 ((rd_T91 l0 (ji17)).f1)) ∧ w'.cell? ⟨(ad587.add (((ji17)).toNat * 3)).block, (ad587.add (((ji17)).toNat * 3)).off + 2, none⟩ = some (.int .i64 ((rd_T91 l0 (ji17)).f2)) ∧ w'.cell? (ad587.add (((ji17)).toNat * 3)) = some (.int .i64 ((rd_T91 l0 (ji17)).f0)) ∧ w'.cell? ⟨(ad587.add (((ji17)).toNat * 3)).block, (ad587.add (((ji17)).toNat * 3)).off + 1, none⟩ = some (.int .i64 ((rd_T91 l0 (ji17)).f1)) ∧ w'.cell? ⟨(ad587.add (((ji17)).toNat * 3)).block, (ad587.add (((ji17)).toNat * 3)).off + 2, none⟩ = some (.int .i64 ((rd_T91 l0 (ji17)).f2))) (ds := []) (tf 0 34) (by kernel_rfl) rfl rfl ⟨bk BK588.out 0, bk BK588.out 1, bk BK588.out 2, (cb HB.out hw592_0), (cb HB.out hw592_1), (cb HB.out hw592_2), (cb HB.out hw594_0), (cb HB.out hw594_1), (cb HB.out hw594_2), (cb HB.out hw595_0), (cb HB.out hw595_1), (cb HB.out hw595_2)⟩ (fun hHeld => ?_); refine with_tabW spec_IsTable.tab7 spec_IsTable.bits7 (fun HT_ HW_ => ?_)
              generalize wc.drew = w26 at BK588 HB hx592_0 hx592_1 hx592_2 hx594_0 hx594_1 hx594_2 hx595_0 hx595_1 hx595_2 hHeld ⊢; refine pu_ 0 31 (tf 1 33) rfl rfl ?_; refine pu_ 1 32 (tf 2 32) rfl rfl ?_; refine pu_ 2 33 (tf 3 31) rfl rfl ?_; refine pu_ 3 34 (tf 4 30) rfl rfl ?_; refine pu_ 4 35 (tf 5 29) rfl rfl ?_; refine pu_ 5 36 (tf 6 28) rfl rfl ?_; refine pu_ 6 37 (tf 7 27) rfl rfl ?_; refine ta12_ 7 38 (tf 8 26) rfl rfl ?_; refine ta12_ 8 39 (tf 9 25) rfl rfl ?_; refine one_ (i := 9) (N := some 40) (tf 10 24) rfl rfl (one_of HT_.out (by kernel_rfl)) (by decide) (fun K hK => ?_); refine goes_ Try.func114 (by kernel_rfl) rfl #[.agg #[.int .i64 ((rd_T91 l0 (ji17)).f0), .int .i64 ((rd_T91 l0 (ji17)).f1), .int .i64 ((rd_T91 l0 (ji17)).f2)], .agg #[.int .i64 ((rd_T91 l0 x3_1).f0), .int .i64 ((rd_T91 l0 x3_1).f1), .int .i64 ((rd_T91 l0 x3_1).f2)]] (by rfl) rfl rfl (by (try simp only [List.map_toArray, List.map_cons, List.map_nil]); first | done | (simp only [hji17]; rfl) | rfl | (simp only [List.length_drop, List.length_take]; rfl)) ?_; with_reducible refine (spec_l16Before.calls ((rd_T91 l0 (ji17)).f0) ((rd_T91 l0 (ji17)).f1) ((rd_T91 l0 (ji17)).f2) ((rd_T91 l0 x3_1).f0) ((rd_T91 l0 x3_1).f1) ((rd_T91 l0 x3_1).f2) true _ A20.out).mono ?_
              rintro e w27 ⟨rfl, hb⟩; refine ⟨_, rfl, ?_⟩; replace BK588 := kb BK588 hb; replace HB := bs HB hb; (try clear hb)
              (try clear hb2)
              (try clear hk)
              (try clear hi)
              refine hK.out _ _ ⟨bk BK588.out 0, bk BK588.out 1, bk BK588.out 2, (cb HB.out hw592_0), (cb HB.out hw592_1), (cb HB.out hw592_2), (cb HB.out hw594_0), (cb HB.out hw594_1), (cb HB.out hw594_2), (cb HB.out hw595_0), (cb HB.out hw595_1), (cb HB.out hw595_2)⟩ (fun hHeld => ?_); clear hK K; refine norm_ (a' := ?_) ?_ ?_
              rotate_left
              ·show Act.put _ (some 40) _ = _
               simp only [Act.put, List.setIfInBounds_toArray, List.set_cons_zero, List.set_cons_succ, i64_w, i32_w]
               rfl
              refine pu_ 10 41 (tf 11 23) rfl rfl ?_; refine pu_ 11 42 (tf 12 22) rfl rfl ?_; refine pu_ 12 43 (tf 13 21) rfl rfl ?_; refine pu_ 13 44 (tf 14 20) rfl rfl ?_; refine pu_ 14 45 (tf 15 19) rfl rfl ?_; refine pu_ 15 46 (tf 16 18) rfl rfl ?_; refine pu_ 16 47 (tf 17 17) rfl rfl ?_; refine pu_ 18 49 (tM [17, 1, 1, 15]) rfl rfl ?_; refine ta12_ 17 48 (tf 19 15) rfl rfl ?_; refine ta12_ 19 50 (tf 20 14) rfl rfl ?_; refine pu_ 20 51 (tf 21 13) rfl rfl ?_; refine pu_ 21 52 (tf 22 12) rfl rfl ?_; refine pu_ 22 53 (tf 23 11) rfl rfl ?_; refine pu_ 23 54 (tf 24 10) rfl rfl ?_; refine pu_ 24 55 (tf 25 9) rfl rfl ?_; refine pu_ 25 56 (tf 26 8) rfl rfl ?_; refine pu_ 26 57 (tf 27 7) rfl rfl ?_; refine pu_ 28 59 (tM [27, 1, 1, 5]) rfl rfl ?_; refine ta12_ 27 58 (tf 29 5) rfl rfl ?_; refine ta12_ 29 60 (tf 30 4) rfl rfl ?_; refine pu_ 30 61 (tf 31 3) rfl rfl ?_; refine pu_ 31 62 (tf 32 2) rfl rfl ?_; refine pu_ 32 63 (tf 33 1) rfl rfl ?_; refine pu_ 33 64 (tf 34 0) rfl rfl ?_; refine done_ (done_of HT_.out (by kernel_rfl)) ?_; (try go_wp2)
              go_roundg kj3
              case measure => have := HK1.out; have := HJ3.out; omega
              case rel => exact ⟨(wrap64 (x3_1 + 1)), es, H', ⟨by have := HK1.out; have := HJ3.out; omega⟩, ⟨vb HB.out⟩⟩
            ·rw [if_neg c22] at H; have c22b0 : (((rd_T91 l0 (ji17)).f0) == ((rd_T91 l0 x3_1).f0)) = false := beq_eq_false_iff_ne.mpr c22; have c22b1 : (((rd_T91 l0 (ji17)).f0) != ((rd_T91 l0 x3_1).f0)) = true := bne_iff_ne.mpr c22; have H' := ak H; clear H; (try go_wp2)
             replace BK588 := ak (blk_drew BK588.out); replace HB := ak (below_drew1 HB.out); have p592 : 0 ≤ ((ji17) : Int) := od; have q592 : (ji17) < (l0.length : Int) := od; obtain ⟨ad592, e592, hx592_0, hx592_1, hx592_2⟩ := at_T91 HR0.out (ji17) p592 q592; have hw592_2 := hx592_2; have hw592_1 := hx592_1; have hw592_0 := hx592_0; obtain rfl : ad587 = ad592 := (by injection e592); replace hx592_0 := cb HB.out hx592_0; replace hx592_1 := cb HB.out hx592_1; replace hx592_2 := cb HB.out hx592_2; replace p592 := eq_true p592; replace q592 := eq_true q592; have p594 : 0 ≤ ((ji17) : Int) := od; have q594 : (ji17) < (l0.length : Int) := od; obtain ⟨ad594, e594, hx594_0, hx594_1, hx594_2⟩ := at_T91 HR0.out (ji17) p594 q594; have hw594_2 := hx594_2; have hw594_1 := hx594_1; have hw594_0 := hx594_0; obtain rfl : ad587 = ad594 := (by injection e594); replace hx594_0 := cb HB.out hx594_0; replace hx594_1 := cb HB.out hx594_1; replace hx594_2 := cb HB.out hx594_2; replace p594 := eq_true p594; replace q594 := eq_true q594; refine start_ (n := 34) (S := fun w' => w'.cell? ⟨gb588, 0, none⟩ = some (.int .i64 ((rd_T91 l0 x3_1).f0)) ∧ w'.cell? ⟨gb588, 1, none⟩ = some (.int .i64 ((rd_T91 l0 x3_1).f1)) ∧ w'.cell? ⟨gb588, 2, none⟩ = some (.int .i64 ((rd_T91 l0 x3_1).f2)) ∧ w'.cell? (ad587.add (((ji17)).toNat * 3)) = some (.int .i64 ((rd_T91 l0 (ji17)).f0)) ∧ w'.cell? ⟨(ad587.add (((ji17)).toNat * 3)).block, (ad587.add (((ji17)).toNat * 3)).off + 1, none⟩ = some (.int .i64 ((rd_T91 l0 (ji17)).f1)) ∧ w'.cell? ⟨(ad587.add (((ji17)).toNat * 3)).block, (ad587.add (((ji17)).toNat * 3)).off + 2, none⟩ = some (.int .i64 ((rd_T91 l0 (ji17)).f2)) ∧ w'.cell? (ad587.add (((ji17)).toNat * 3)) = some (.int .i64 ((rd_T91 l0 (ji17)).f0)) ∧ w'.cell? ⟨(ad587.add (((ji17)).toNat * 3)).block, (ad587.add (((ji17)).toNat * 3)).off + 1, none⟩ = some (.int .i64 ((rd_T91 l0 (ji17)).f1)) ∧ w'.cell? ⟨(ad587.add (((ji17)).toNat * 3)).block, (ad587.add (((ji17)).toNat * 3)).off + 2, none⟩ = some (.int .i64 ((rd_T91 l0 (ji17)).f2))) (ds := []) (tf 0 34) (by kernel_rfl) rfl rfl ⟨bk BK588.out 0, bk BK588.out 1, bk BK588.out 2, (cb HB.out hw592_0), (cb HB.out hw592_1), (cb HB.out hw592_2), (cb HB.out hw594_0), (cb HB.out hw594_1), (cb HB.out hw594_2)⟩ (fun hHeld => ?_); refine with_tabW spec_IsTable.tab7 spec_IsTable.bits7 (fun HT_ HW_ => ?_)
             generalize wc.drew = w28 at BK588 HB hx592_0 hx592_1 hx592_2 hx594_0 hx594_1 hx594_2 hHeld ⊢; refine pu_ 0 31 (tf 1 33) rfl rfl ?_; refine pu_ 1 32 (tf 2 32) rfl rfl ?_; refine pu_ 2 33 (tf 3 31) rfl rfl ?_; refine pu_ 3 34 (tf 4 30) rfl rfl ?_; refine pu_ 4 35 (tf 5 29) rfl rfl ?_; refine pu_ 5 36 (tf 6 28) rfl rfl ?_; refine pu_ 6 37 (tf 7 27) rfl rfl ?_; refine ta9_ 7 38 (tf 8 26) rfl rfl ?_; refine ta9_ 8 39 (tf 9 25) rfl rfl ?_; refine one_ (i := 9) (N := some 40) (tf 10 24) rfl rfl (one_of HT_.out (by kernel_rfl)) (by decide) (fun K hK => ?_); refine goes_ Try.func114 (by kernel_rfl) rfl #[.agg #[.int .i64 ((rd_T91 l0 (ji17)).f0), .int .i64 ((rd_T91 l0 (ji17)).f1), .int .i64 ((rd_T91 l0 (ji17)).f2)], .agg #[.int .i64 ((rd_T91 l0 x3_1).f0), .int .i64 ((rd_T91 l0 x3_1).f1), .int .i64 ((rd_T91 l0 x3_1).f2)]] (by rfl) rfl rfl (by (try simp only [List.map_toArray, List.map_cons, List.map_nil]); first | done | (simp only [hji17]; rfl) | rfl | (simp only [List.length_drop, List.length_take]; rfl)) ?_; with_reducible refine (spec_l16Before.calls ((rd_T91 l0 (ji17)).f0) ((rd_T91 l0 (ji17)).f1) ((rd_T91 l0 (ji17)).f2) ((rd_T91 l0 x3_1).f0) ((rd_T91 l0 x3_1).f1) ((rd_T91 l0 x3_1).f2) true _ A20.out).mono ?_
             rintro e w29 ⟨rfl, hb⟩; refine ⟨_, rfl, ?_⟩; replace BK588 := kb BK588 hb; replace HB := bs HB hb; (try clear hb)
             (try clear hb2)
             (try clear hk)
             (try clear hi)
             refine hK.out _ _ ⟨bk BK588.out 0, bk BK588.out 1, bk BK588.out 2, (cb HB.out hw592_0), (cb HB.out hw592_1), (cb HB.out hw592_2), (cb HB.out hw594_0), (cb HB.out hw594_1), (cb HB.out hw594_2)⟩ (fun hHeld => ?_); clear hK K; refine norm_ (a' := ?_) ?_ ?_
             rotate_left
             ·show Act.put _ (some 40) _ = _
              simp only [Act.put, List.setIfInBounds_toArray, List.set_cons_zero, List.set_cons_succ, i64_w, i32_w]
              rfl
             refine pu_ 10 41 (tf 11 23) rfl rfl ?_; refine pu_ 11 42 (tf 12 22) rfl rfl ?_; refine pu_ 12 43 (tf 13 21) rfl rfl ?_; refine pu_ 13 44 (tf 14 20) rfl rfl ?_; refine pu_ 14 45 (tf 15 19) rfl rfl ?_; refine pu_ 15 46 (tf 16 18) rfl rfl ?_; refine pu_ 16 47 (tf 17 17) rfl rfl ?_; refine pu_ 18 49 (tM [17, 1, 1, 15]) rfl rfl ?_; refine ta9_ 17 48 (tf 19 15) rfl rfl ?_; refine ta9_ 19 50 (tf 20 14) rfl rfl ?_; refine pu_ 20 51 (tf 21 13) rfl rfl ?_; refine pu_ 21 52 (tf 22 12) rfl rfl ?_; refine un_ 22 53 (tf 23 11) rfl rfl ?_; refine un_ 23 54 (tf 24 10) rfl rfl ?_; refine un_ 24 55 (tf 25 9) rfl rfl ?_; refine un_ 25 56 (tf 26 8) rfl rfl ?_; refine un_ 26 57 (tf 27 7) rfl rfl ?_; refine un_ 27 58 (tf 28 6) rfl rfl ?_; refine un_ 28 59 (tf 29 5) rfl rfl ?_; refine un_ 29 60 (tf 30 4) rfl rfl ?_; refine un_ 30 61 (tf 31 3) rfl rfl ?_; refine pu_ 31 62 (tf 32 2) rfl rfl ?_; refine pu_ 32 63 (tf 33 1) rfl rfl ?_; refine pu_ 33 64 (tf 34 0) rfl rfl ?_; refine done_ (done_of HT_.out (by kernel_rfl)) ?_; (try go_wp2)
             go_roundg kj3
             case measure => have := HK1.out; have := HJ3.out; omega
             case rel => exact ⟨(wrap64 (x3_1 + 1)), es, H', ⟨by have := HK1.out; have := HJ3.out; omega⟩, ⟨vb HB.out⟩⟩
           ·replace c21 := Bool.eq_false_iff.mpr c21; subst c21; rw [if_neg nf] at H; obtain rfl := sj H; (try go_wp2)
            replace BK588 := ak (blk_drew BK588.out); replace HB := ak (below_drew1 HB.out); have p592 : 0 ≤ ((ji17) : Int) := od; have q592 : (ji17) < (l0.length : Int) := od; obtain ⟨ad592, e592, hx592_0, hx592_1, hx592_2⟩ := at_T91 HR0.out (ji17) p592 q592; have hw592_2 := hx592_2; have hw592_1 := hx592_1; have hw592_0 := hx592_0; obtain rfl : ad587 = ad592 := (by injection e592); replace hx592_0 := cb HB.out hx592_0; replace hx592_1 := cb HB.out hx592_1; replace hx592_2 := cb HB.out hx592_2; replace p592 := eq_true p592; replace q592 := eq_true q592; refine start_ (n := 34) (S := fun w' => w'.cell? ⟨gb588, 0, none⟩ = some (.int .i64 ((rd_T91 l0 x3_1).f0)) ∧ w'.cell? ⟨gb588, 1, none⟩ = some (.int .i64 ((rd_T91 l0 x3_1).f1)) ∧ w'.cell? ⟨gb588, 2, none⟩ = some (.int .i64 ((rd_T91 l0 x3_1).f2)) ∧ w'.cell? (ad587.add (((ji17)).toNat * 3)) = some (.int .i64 ((rd_T91 l0 (ji17)).f0)) ∧ w'.cell? ⟨(ad587.add (((ji17)).toNat * 3)).block, (ad587.add (((ji17)).toNat * 3)).off + 1, none⟩ = some (.int .i64 ((rd_T91 l0 (ji17)).f1)) ∧ w'.cell? ⟨(ad587.add (((ji17)).toNat * 3)).block, (ad587.add (((ji17)).toNat * 3)).off + 2, none⟩ = some (.int .i64 ((rd_T91 l0 (ji17)).f2))) (ds := []) (tf 0 34) (by kernel_rfl) rfl rfl ⟨bk BK588.out 0, bk BK588.out 1, bk BK588.out 2, (cb HB.out hw592_0), (cb HB.out hw592_1), (cb HB.out hw592_2)⟩ (fun hHeld => ?_); refine with_tabW spec_IsTable.tab7 spec_IsTable.bits7 (fun HT_ HW_ => ?_)
            generalize wc.drew = w30 at BK588 HB hx592_0 hx592_1 hx592_2 hHeld ⊢; refine pu_ 0 31 (tf 1 33) rfl rfl ?_; refine pu_ 1 32 (tf 2 32) rfl rfl ?_; refine pu_ 2 33 (tf 3 31) rfl rfl ?_; refine pu_ 3 34 (tf 4 30) rfl rfl ?_; refine pu_ 4 35 (tf 5 29) rfl rfl ?_; refine pu_ 5 36 (tf 6 28) rfl rfl ?_; refine pu_ 6 37 (tf 7 27) rfl rfl ?_; refine ta6_ 7 38 (tf 8 26) rfl rfl ?_; refine ta6_ 8 39 (tf 9 25) rfl rfl ?_; refine one_ (i := 9) (N := some 40) (tf 10 24) rfl rfl (one_of HT_.out (by kernel_rfl)) (by decide) (fun K hK => ?_); refine goes_ Try.func114 (by kernel_rfl) rfl #[.agg #[.int .i64 ((rd_T91 l0 (ji17)).f0), .int .i64 ((rd_T91 l0 (ji17)).f1), .int .i64 ((rd_T91 l0 (ji17)).f2)], .agg #[.int .i64 ((rd_T91 l0 x3_1).f0), .int .i64 ((rd_T91 l0 x3_1).f1), .int .i64 ((rd_T91 l0 x3_1).f2)]] (by rfl) rfl rfl (by (try simp only [List.map_toArray, List.map_cons, List.map_nil]); first | done | (simp only [hji17]; rfl) | rfl | (simp only [List.length_drop, List.length_take]; rfl)) ?_; with_reducible refine (spec_l16Before.calls ((rd_T91 l0 (ji17)).f0) ((rd_T91 l0 (ji17)).f1) ((rd_T91 l0 (ji17)).f2) ((rd_T91 l0 x3_1).f0) ((rd_T91 l0 x3_1).f1) ((rd_T91 l0 x3_1).f2) false _ A20.out).mono ?_
            rintro e w31 ⟨rfl, hb⟩; refine ⟨_, rfl, ?_⟩; replace BK588 := kb BK588 hb; replace HB := bs HB hb; (try clear hb)
            (try clear hb2)
            (try clear hk)
            (try clear hi)
            refine hK.out _ _ ⟨bk BK588.out 0, bk BK588.out 1, bk BK588.out 2, (cb HB.out hw592_0), (cb HB.out hw592_1), (cb HB.out hw592_2)⟩ (fun hHeld => ?_); clear hK K; refine norm_ (a' := ?_) ?_ ?_
            rotate_left
            ·show Act.put _ (some 40) _ = _
             simp only [Act.put, List.setIfInBounds_toArray, List.set_cons_zero, List.set_cons_succ, i64_w, i32_w]
             rfl
            refine pu_ 10 41 (tf 11 23) rfl rfl ?_; refine pu_ 11 42 (tf 12 22) rfl rfl ?_; refine un_ 12 43 (tf 13 21) rfl rfl ?_; refine un_ 13 44 (tf 14 20) rfl rfl ?_; refine un_ 14 45 (tf 15 19) rfl rfl ?_; refine un_ 15 46 (tf 16 18) rfl rfl ?_; refine un_ 16 47 (tf 17 17) rfl rfl ?_; refine un_ 17 48 (tf 18 16) rfl rfl ?_; refine un_ 18 49 (tf 19 15) rfl rfl ?_; refine un_ 19 50 (tf 20 14) rfl rfl ?_; refine un_ 20 51 (tf 21 13) rfl rfl ?_; refine un_ 21 52 (tf 22 12) rfl rfl ?_; refine un_ 22 53 (tf 23 11) rfl rfl ?_; refine un_ 23 54 (tf 24 10) rfl rfl ?_; refine un_ 24 55 (tf 25 9) rfl rfl ?_; refine un_ 25 56 (tf 26 8) rfl rfl ?_; refine un_ 26 57 (tf 27 7) rfl rfl ?_; refine un_ 27 58 (tf 28 6) rfl rfl ?_; refine un_ 28 59 (tf 29 5) rfl rfl ?_; refine un_ 29 60 (tf 30 4) rfl rfl ?_; refine un_ 30 61 (tf 31 3) rfl rfl ?_; refine un_ 31 62 (tf 32 2) rfl rfl ?_; refine pu_ 32 63 (tf 33 1) rfl rfl ?_; refine pu_ 33 64 (tf 34 0) rfl rfl ?_; refine done_ (done_of HT_.out (by kernel_rfl)) ?_; (try go_wp2)
            go_ret
            exact ⟨by first | rfl | (simp [errW_none, errW_some] <;> rfl) | (simp only [← hji17]; first | rfl | (simp [errW_none, errW_some] <;> rfl)) | (simp [*, errW_none, errW_some] <;> rfl), vb HB.out⟩
          ·exact nO_ c19 H
         ·exact nO_ c18 H
        ·rw [if_neg c16] at H; have c16b0 := decide_eq_false c16; clear c16; have H' := ak H; clear H; (try go_wp2)
         replace BK588 := ak (blk_drew BK588.out); replace HB := ak (below_drew1 HB.out); refine start_ (n := 34) (S := fun w' => True) (ds := []) (tf 0 34) (by kernel_rfl) rfl rfl trivial (fun hHeld => ?_); refine with_tabW spec_IsTable.tab7 spec_IsTable.bits7 (fun HT_ HW_ => ?_); generalize wc.drew = w32 at BK588 HB hHeld ⊢; refine pu_ 0 31 (tf 1 33) rfl rfl ?_; refine pu_ 1 32 (tf 2 32) rfl rfl ?_; refine pu_ 2 33 (tf 3 31) rfl rfl ?_; refine un_ 3 34 (tf 4 30) rfl rfl ?_; refine un_ 4 35 (tf 5 29) rfl rfl ?_; refine un_ 5 36 (tf 6 28) rfl rfl ?_; refine un_ 6 37 (tf 7 27) rfl rfl ?_; refine un_ 7 38 (tf 8 26) rfl rfl ?_; refine un_ 8 39 (tf 9 25) rfl rfl ?_; refine un_ 9 40 (tf 10 24) rfl rfl ?_; refine un_ 10 41 (tf 11 23) rfl rfl ?_; refine un_ 11 42 (tf 12 22) rfl rfl ?_; refine un_ 12 43 (tf 13 21) rfl rfl ?_; refine un_ 13 44 (tf 14 20) rfl rfl ?_; refine un_ 14 45 (tf 15 19) rfl rfl ?_; refine un_ 15 46 (tf 16 18) rfl rfl ?_; refine un_ 16 47 (tf 17 17) rfl rfl ?_; refine un_ 17 48 (tf 18 16) rfl rfl ?_; refine un_ 18 49 (tf 19 15) rfl rfl ?_; refine un_ 19 50 (tf 20 14) rfl rfl ?_; refine un_ 20 51 (tf 21 13) rfl rfl ?_; refine un_ 21 52 (tf 22 12) rfl rfl ?_; refine un_ 22 53 (tf 23 11) rfl rfl ?_; refine un_ 23 54 (tf 24 10) rfl rfl ?_; refine un_ 24 55 (tf 25 9) rfl rfl ?_; refine un_ 25 56 (tf 26 8) rfl rfl ?_; refine un_ 26 57 (tf 27 7) rfl rfl ?_; refine un_ 27 58 (tf 28 6) rfl rfl ?_; refine un_ 28 59 (tf 29 5) rfl rfl ?_; refine un_ 29 60 (tf 30 4) rfl rfl ?_
         refine un_ 30 61 (tf 31 3) rfl rfl ?_; refine un_ 31 62 (tf 32 2) rfl rfl ?_; refine un_ 32 63 (tf 33 1) rfl rfl ?_; refine pu_ 33 64 (tf 34 0) rfl rfl ?_; refine done_ (done_of HT_.out (by kernel_rfl)) ?_; (try go_wp2)
         go_roundg kj3
         case measure => have := HK1.out; have := HJ3.out; omega
         case rel => exact ⟨(wrap64 (x3_1 + 1)), es, H', ⟨by have := HK1.out; have := HJ3.out; omega⟩, ⟨vb HB.out⟩⟩
    ·exact nO_ c3 H
   ·rw [if_neg c2] at H; have c2b0 := decide_eq_false c2; clear c2; obtain rfl := sj H; go_wp2
    go_ret
    exact ⟨ew, vb HB.out⟩


/-! ### spec_IsArea: function 115 -/
def spec_IsArea.f (a0_0 : Int) (a0_1 : Int) (a0_2 : Int) (a0_3 : Int) (a0_4 : Int) : Option (Bool) := (spec_l01In.f a0_0 0 3).bind fun t597 => (if t597 = true then ((spec_l15Place.f a0_1 a0_2).bind fun t598 => (if t598 = true then ((spec_l01In.f a0_3 1 (wrap64 (100000 - a0_1))).bind fun t599 => (if t599 = true then ((spec_l01In.f a0_4 1 (wrap64 (100000 - a0_2))).bind fun t600 => (some t600)) else (some false))) else (some false))) else (some false))
set_option maxHeartbeats 8000000 in
set_option maxRecDepth 100000 in
theorem spec_IsArea.calls (a0_0 : Int) (a0_1 : Int) (a0_2 : Int) (a0_3 : Int) (a0_4 : Int) (r : Bool) (w : World) (h : spec_IsArea.f a0_0 a0_1 a0_2 a0_3 a0_4 = some r) :
  Calls Try.prog 115 #[.agg #[.int .i64 a0_0, .int .i64 a0_1, .int .i64 a0_2, .int .i64 a0_3, .int .i64 a0_4]] w fun e w' => e = .returned (.bool r) ∧ Below w.heap.size w w' := by
 have hu69 := Try.underlying69; have HB := ak (Below.refl w.heap.size w); unfold spec_IsArea.f at h; have H := h; clear h; obtain ⟨t597, A2, H⟩ := bnk H; by_cases c3 : t597 = true
 subst c3; rw [if_pos rfl] at H; obtain ⟨t598, A4, H⟩ := bnk H; by_cases c5 : t598 = true
 subst c5; rw [if_pos rfl] at H; obtain ⟨t599, A6, H⟩ := bnk H; by_cases c7 : t599 = true
 subst c7; rw [if_pos rfl] at H; obtain ⟨t600, A8, H⟩ := bnk H; obtain rfl := sj H; rotate_left
 replace c7 := Bool.eq_false_iff.mpr c7; subst c7; rw [if_neg nf] at H; obtain rfl := sj H; rotate_left
 replace c5 := Bool.eq_false_iff.mpr c5; subst c5; rw [if_neg nf] at H; obtain rfl := sj H; rotate_left
 replace c3 := Bool.eq_false_iff.mpr c3; subst c3; rw [if_neg nf] at H; obtain rfl := sj H; rotate_left
 all_goals
  go_enter Try.func115, Try.ntmps115; go_wp2_with (first | ((with_reducible refine gate_dst (N := 1) rfl ?_); refine bx 1 #[.int .i64 a0_0, .int .i64 a0_1, .int .i64 a0_2, .int .i64 a0_3, .int .i64 a0_4] 69 ?_; intro gb596 hg w9 hbox hb; have BK596 := ak hbox; have GW596 := gw hg HB; have GE596 := gw hg HB; replace HB := bs HB hb; clear hb hbox hg; have hcz9 := cz5 BK596.out) | ((with_reducible refine at_fn (f := 98) rfl ?_); refine gl (some 5) Try.func98 #[.int .i64 a0_0, .int .i64 0, .int .i64 3] ?_; (with_reducible refine (spec_l01In.calls a0_0 0 3 _ _ A2.out).mono ?_); rintro e w' ⟨rfl, ⟨nd, rfl⟩⟩; refine ⟨_, rfl, ?_⟩) | (go_at_call 99; (with_reducible refine (spec_l15Place.calls a0_1 a0_2 _ _ A4.out).mono ?_); rintro e w' ⟨rfl, ⟨nd, rfl⟩⟩) | (go_at_call 98; (with_reducible refine (spec_l01In.calls a0_3 1 (wrap64 (100000 - a0_1)) _ _ A6.out).mono ?_); rintro e w' ⟨rfl, ⟨nd, rfl⟩⟩) | (go_at_call 98; (with_reducible refine (spec_l01In.calls a0_4 1 (wrap64 (100000 - a0_2)) t600 _ A8.out).mono ?_); rintro e w' ⟨rfl, ⟨nd, rfl⟩⟩))
  go_ret
  exact ⟨ew, vb HB.out⟩


/-! ### spec_IsSite: function 101 -/
def spec_IsSite.l0 : Nat → List (S69) → Int → Option (Bool)
 | 0, _, _ => none
 | k + 1, x0, x3 => if x3 < (x0.length : Int) then (if 0 ≤ x3 then ((spec_IsArea.f ((rd_T69 x0 x3).f0) ((rd_T69 x0 x3).f1) ((rd_T69 x0 x3).f2) ((rd_T69 x0 x3).f3) ((rd_T69 x0 x3).f4)).bind fun t602 => (if t602 = true then (spec_IsSite.l0 k x0 (wrap64 (x3 + 1))) else (some false))) else (none)) else (some (decide ((x0.length : Int) ≤ 10)))
def spec_IsSite.f (k : Nat) (l0 : List (S69)) : Option (Bool) := spec_IsSite.l0 k l0 0
theorem spec_IsSite.mono_l : ∀ k, (∀ y0 y1, LeO (spec_IsSite.l0 k y0 y1) (spec_IsSite.l0 (k + 1) y0 y1))
 | 0 => fun _ _ r h => by simp [spec_IsSite.l0] at h
 | k + 1 => by
  have ih0 := spec_IsSite.mono_l k
  ·intro y0 y1; unfold spec_IsSite.l0
   repeat' (with_reducible first | exact ih0 .. | exact LeO.refl .. | exact LeO.none .. | refine LeO.ite ?_ ?_ | refine LeO.bind ?_ (fun _ => ?_))
theorem spec_IsSite.mono : ∀ a0 k, LeO (spec_IsSite.f k a0) (spec_IsSite.f (k + 1) a0) := by
 intro a0 k; have ih0 := spec_IsSite.mono_l k; unfold spec_IsSite.f
 repeat' (with_reducible first | exact ih0 .. | exact LeO.refl .. | exact LeO.none .. | refine LeO.ite ?_ ?_ | refine LeO.bind ?_ (fun _ => ?_))
set_option maxHeartbeats 8000000 in
set_option maxRecDepth 100000 in
theorem spec_IsSite.calls (k : Nat) (A0 : Option Addr) (c0 : Nat) (l0 : List (S69)) (r : Bool) (w : World) (hr0 : Kd.C k69 w A0 l0.length l0) (hc0 : l0.length ≤ c0) (h : spec_IsSite.f k l0 = some r) :
  Calls Try.prog 101 #[.slice A0 l0.length c0] w fun e w' => e = .returned (.bool r) ∧ Below w.heap.size w w' := by
 have hu69 := Try.underlying69; have HR0 := ak hr0; have HC0 := ak hc0; clear hr0 hc0; have HB := ak (Below.refl w.heap.size w); unfold spec_IsSite.f at h; have H := h; clear h; have H' := ak H; clear H; go_enter Try.func101, Try.ntmps101; go_wp2
 go_loopg [3] k (fun kq v3 w' => ∃ (x3_1 : Int), v3 = .int .i64 x3_1 ∧ Aside0 (spec_IsSite.l0 kq l0 x3_1 = some r) ∧ Aside0 (kq ≤ k) ∧ Aside0 (Below w.heap.size w w'))
 case atStart => exact ⟨(0), es, H', ⟨Nat.le_refl _⟩, ⟨vb HB.out⟩⟩
 case round =>
  clear H'; (try clear c1); obtain ⟨x3_1, rfl, HA, HK1, HB⟩ := hrel
  cases gk with
  | zero => exact absurd HA.out (by simp [spec_IsSite.l0])
  | succ k1 =>
   have H := HA.out; clear HA; simp only [spec_IsSite.l0] at H
   by_cases c2 : x3_1 < (l0.length : Int)
   ·rw [if_pos c2] at H; have c2b0 := decide_eq_true c2; clear c2; by_cases c3 : 0 ≤ x3_1
    ·rw [if_pos c3] at H; have c3b0 := decide_eq_true c3; clear c3; obtain ⟨t602, A4, H⟩ := bnk H; by_cases c5 : t602 = true
     ·subst c5; rw [if_pos rfl] at H; have H' := ak H; clear H; have p601 : 0 ≤ (x3_1 : Int) := od; have q601 : x3_1 < (l0.length : Int) := od; obtain ⟨ad601, e601, hx601_0, hx601_1, hx601_2, hx601_3, hx601_4⟩ := at_T69 HR0.out x3_1 p601 q601
      cases e601; replace hx601_0 := cb HB.out hx601_0; replace hx601_1 := cb HB.out hx601_1; replace hx601_2 := cb HB.out hx601_2; replace hx601_3 := cb HB.out hx601_3; replace hx601_4 := cb HB.out hx601_4; replace p601 := eq_true p601; replace q601 := eq_true q601; go_wp2_with (first | ((with_reducible refine at_fn (f := 115) rfl ?_); refine gl (some 14) Try.func115 #[.agg #[.int .i64 ((rd_T69 l0 x3_1).f0), .int .i64 ((rd_T69 l0 x3_1).f1), .int .i64 ((rd_T69 l0 x3_1).f2), .int .i64 ((rd_T69 l0 x3_1).f3), .int .i64 ((rd_T69 l0 x3_1).f4)]] ?_; (with_reducible refine (spec_IsArea.calls ((rd_T69 l0 x3_1).f0) ((rd_T69 l0 x3_1).f1) ((rd_T69 l0 x3_1).f2) ((rd_T69 l0 x3_1).f3) ((rd_T69 l0 x3_1).f4) _ _ A4.out).mono ?_); rintro e w6 ⟨rfl, hb⟩; refine ⟨_, rfl, ?_⟩; replace HB := bs HB hb; (try clear hb); (try clear hb2); (try clear hk); (try clear hi)))
      go_roundg k1
      case measure => have := HK1.out; omega
      case rel => exact ⟨(wrap64 (x3_1 + 1)), es, H', ⟨by have := HK1.out; omega⟩, ⟨vb HB.out⟩⟩
     ·replace c5 := Bool.eq_false_iff.mpr c5; subst c5; rw [if_neg nf] at H; obtain rfl := sj H; have p601 : 0 ≤ (x3_1 : Int) := od; have q601 : x3_1 < (l0.length : Int) := od; obtain ⟨ad601, e601, hx601_0, hx601_1, hx601_2, hx601_3, hx601_4⟩ := at_T69 HR0.out x3_1 p601 q601
      cases e601; replace hx601_0 := cb HB.out hx601_0; replace hx601_1 := cb HB.out hx601_1; replace hx601_2 := cb HB.out hx601_2; replace hx601_3 := cb HB.out hx601_3; replace hx601_4 := cb HB.out hx601_4; replace p601 := eq_true p601; replace q601 := eq_true q601; go_wp2_with (first | ((with_reducible refine at_fn (f := 115) rfl ?_); refine gl (some 14) Try.func115 #[.agg #[.int .i64 ((rd_T69 l0 x3_1).f0), .int .i64 ((rd_T69 l0 x3_1).f1), .int .i64 ((rd_T69 l0 x3_1).f2), .int .i64 ((rd_T69 l0 x3_1).f3), .int .i64 ((rd_T69 l0 x3_1).f4)]] ?_; (with_reducible refine (spec_IsArea.calls ((rd_T69 l0 x3_1).f0) ((rd_T69 l0 x3_1).f1) ((rd_T69 l0 x3_1).f2) ((rd_T69 l0 x3_1).f3) ((rd_T69 l0 x3_1).f4) _ _ A4.out).mono ?_); rintro e w7 ⟨rfl, hb⟩; refine ⟨_, rfl, ?_⟩; replace HB := bs HB hb; (try clear hb); (try clear hb2); (try clear hk); (try clear hi)))
      go_ret
      exact ⟨ew, vb HB.out⟩
    ·exact nO_ c3 H
   ·rw [if_neg c2] at H; have c2b0 := decide_eq_false c2; clear c2; obtain rfl := sj H; go_wp2
    go_ret
    exact ⟨ew, vb HB.out⟩


/-! ### spec_IsField: function 75 -/
mutual
def spec_IsField.l0 : Nat → Int → List (S91) → List (S69) → List Int → List Int → List Int → Int → Option (Bool)
 | 0, _, _, _, _, _, _, _ => none
 | k + 1, x3, x604000, x604001, x604002, x604003, x604004, x604005 => if x3 < (x604002.length : Int) then (if 0 ≤ x3 then ((spec_l01In.f (rd x604002 x3) 20 300).bind fun t605 => (if t605 = true then (spec_IsField.l0 k (wrap64 (x3 + 1)) x604000 x604001 x604002 x604003 x604004 x604005) else (some false))) else (none)) else (if (x604003.length : Int) = (x604004.length : Int) then (if (x604003.length : Int) > 7 then (spec_IsField.j1 k true x604000 x604001 x604002 x604003 x604004 x604005) else (spec_IsField.j1 k (decide ((x604002.length : Int) > 4)) x604000 x604001 x604002 x604003 x604004 x604005)) else (spec_IsField.j1 k true x604000 x604001 x604002 x604003 x604004 x604005))
def spec_IsField.j1 : Nat → Bool → List (S91) → List (S69) → List Int → List Int → List Int → Int → Option (Bool)
 | 0, _, _, _, _, _, _, _ => none
 | k + 1, x37, x604000, x604001, x604002, x604003, x604004, x604005 => if x37 = true then (some false) else (spec_IsField.l1 k 0 x604000 x604001 x604002 x604003 x604004 x604005)
def spec_IsField.l1 : Nat → Int → List (S91) → List (S69) → List Int → List Int → List Int → Int → Option (Bool)
 | 0, _, _, _, _, _, _, _ => none
 | k + 1, x4, x604000, x604001, x604002, x604003, x604004, x604005 => if x4 < (x604003.length : Int) then (if 0 ≤ x4 then (if x4 < (x604004.length : Int) then ((spec_l15Place.f (rd x604003 x4) (rd x604004 x4)).bind fun t608 => (if t608 = true then (spec_IsField.l1 k (wrap64 (x4 + 1)) x604000 x604001 x604002 x604003 x604004 x604005) else (some false))) else (none)) else (none)) else ((spec_IsTable.f k x604000).bind fun t609 => (if t609 = true then ((spec_IsSite.f k x604001).bind fun t610 => (if t610 = true then ((spec_l01In.f x604005 0 10000).bind fun t611 => (some t611)) else (some false))) else (some false)))
end
def spec_IsField.f (k : Nat) (l0_0 : List (S91)) (l0_1 : List (S69)) (l0_2 : List Int) (l0_3 : List Int) (l0_4 : List Int) (a0_5 : Int) : Option (Bool) := spec_IsField.l0 k 0 l0_0 l0_1 l0_2 l0_3 l0_4 a0_5
theorem spec_IsField.mono_l : ∀ k, (∀ y0 y1 y2 y3 y4 y5 y6, LeO (spec_IsField.l0 k y0 y1 y2 y3 y4 y5 y6) (spec_IsField.l0 (k + 1) y0 y1 y2 y3 y4 y5 y6)) ∧ (∀ y0 y1 y2 y3 y4 y5 y6, LeO (spec_IsField.j1 k y0 y1 y2 y3 y4 y5 y6) (spec_IsField.j1 (k + 1) y0 y1 y2 y3 y4 y5 y6)) ∧ (∀ y0 y1 y2 y3 y4 y5 y6, LeO (spec_IsField.l1 k y0 y1 y2 y3 y4 y5 y6) (spec_IsField.l1 (k + 1) y0 y1 y2 y3 y4 y5 y6))
 | 0 => ⟨fun _ _ _ _ _ _ _ r h => by simp [spec_IsField.l0] at h, fun _ _ _ _ _ _ _ r h => by simp [spec_IsField.j1] at h, fun _ _ _ _ _ _ _ r h => by simp [spec_IsField.l1] at h⟩
 | k + 1 => by
  obtain ⟨ih0, ih1, ih2⟩ := spec_IsField.mono_l k; refine ⟨?_, ?_, ?_⟩
  ·intro y0 y1 y2 y3 y4 y5 y6; unfold spec_IsField.l0
   repeat' (with_reducible first | exact ih0 .. | exact ih1 .. | exact ih2 .. | exact spec_IsSite.mono .. | exact spec_IsTable.mono .. | exact LeO.refl .. | exact LeO.none .. | refine LeO.ite ?_ ?_ | refine LeO.bind ?_ (fun _ => ?_))
  ·intro y0 y1 y2 y3 y4 y5 y6; unfold spec_IsField.j1
   repeat' (with_reducible first | exact ih0 .. | exact ih1 .. | exact ih2 .. | exact spec_IsSite.mono .. | exact spec_IsTable.mono .. | exact LeO.refl .. | exact LeO.none .. | refine LeO.ite ?_ ?_ | refine LeO.bind ?_ (fun _ => ?_))
  ·intro y0 y1 y2 y3 y4 y5 y6; unfold spec_IsField.l1
   repeat' (with_reducible first | exact ih0 .. | exact ih1 .. | exact ih2 .. | exact spec_IsSite.mono .. | exact spec_IsTable.mono .. | exact LeO.refl .. | exact LeO.none .. | refine LeO.ite ?_ ?_ | refine LeO.bind ?_ (fun _ => ?_))
theorem spec_IsField.mono : ∀ a0 a1 a2 a3 a4 a5 k, LeO (spec_IsField.f k a0 a1 a2 a3 a4 a5) (spec_IsField.f (k + 1) a0 a1 a2 a3 a4 a5) := by
 intro a0 a1 a2 a3 a4 a5 k; obtain ⟨ih0, ih1, ih2⟩ := spec_IsField.mono_l k; unfold spec_IsField.f
 repeat' (with_reducible first | exact ih0 .. | exact ih1 .. | exact ih2 .. | exact spec_IsSite.mono .. | exact spec_IsTable.mono .. | exact LeO.refl .. | exact LeO.none .. | refine LeO.ite ?_ ?_ | refine LeO.bind ?_ (fun _ => ?_))
set_option maxHeartbeats 8000000 in
set_option maxRecDepth 100000 in
theorem spec_IsField.calls (k : Nat) (A0_0 : Option Addr) (c0_0 : Nat) (l0_0 : List (S91)) (A0_1 : Option Addr) (c0_1 : Nat) (l0_1 : List (S69)) (A0_2 : Option Addr) (c0_2 : Nat) (l0_2 : List Int) (A0_3 : Option Addr) (c0_3 : Nat) (l0_3 : List Int) (A0_4 : Option Addr) (c0_4 : Nat) (l0_4 : List Int) (a0_5 : Int) (r : Bool) (w : World) (hr0_0 : Kd.C k91 w A0_0 l0_0.length l0_0) (hc0_0 : l0_0.length ≤ c0_0) (hr0_1 : Kd.C k69 w A0_1 l0_1.length l0_1) (hc0_1 : l0_1.length ≤ c0_1) (hr0_2 : Kd.C (Kd.int .i64) w A0_2 l0_2.length l0_2) (hc0_2 : l0_2.length ≤ c0_2) (hr0_3 : Kd.C (Kd.int .i64) w A0_3 l0_3.length l0_3) (hc0_3 : l0_3.length ≤ c0_3) (hr0_4 : Kd.C (Kd.int .i64) w A0_4 l0_4.length l0_4) (hc0_4 : l0_4.length ≤ c0_4) (h : spec_IsField.f k l0_0 l0_1 l0_2 l0_3 l0_4 a0_5 = some r) :
  Calls Try.prog 75 #[.agg (f5 A0_0 l0_0 c0_0 A0_1 l0_1 c0_1 A0_2 l0_2 c0_2 A0_3 l0_3 c0_3 A0_4 l0_4 c0_4 a0_5)] w fun e w' => e = .returned (.bool r) ∧ Below w.heap.size w w' := by
 have hu28 := Try.underlying28; have HR0_0 := ak hr0_0; have HC0_0 := ak hc0_0; clear hr0_0 hc0_0; have HR0_1 := ak hr0_1; have HC0_1 := ak hc0_1; clear hr0_1 hc0_1; have HR0_2 := ak hr0_2; have HC0_2 := ak hc0_2; clear hr0_2 hc0_2; have HR0_3 := ak hr0_3; have HC0_3 := ak hc0_3; clear hr0_3 hc0_3; have HR0_4 := ak hr0_4; have HC0_4 := ak hc0_4; clear hr0_4 hc0_4; have HB := ak (Below.refl w.heap.size w); unfold spec_IsField.f at h; have H := h; clear h; have H' := ak H; clear H; go_enter Try.func75, Try.ntmps75; go_wp2_with (first | ((with_reducible refine gate_dst (N := 1) rfl ?_); (try (refine gate_guard (by rfl) ?_; dsimp only)); refine bx 1 (f5 A0_0 l0_0 c0_0 A0_1 l0_1 c0_1 A0_2 l0_2 c0_2 A0_3 l0_3 c0_3 A0_4 l0_4 c0_4 a0_5) 28 ?_; intro gb603 hg w2 hbox hb; have BK603 := ak hbox; have GW603 := gw hg HB; have GE603 := gw hg HB; replace HB := bs HB hb; clear hb hbox hg))
 repeat (go_quiet (first | ((with_reducible refine gate_dst (N := 1) rfl ?_); (try (refine gate_guard (by rfl) ?_; dsimp only)); refine bx 1 (f5 A0_0 l0_0 c0_0 A0_1 l0_1 c0_1 A0_2 l0_2 c0_2 A0_3 l0_3 c0_3 A0_4 l0_4 c0_4 a0_5) 28 ?_; intro gb603 hg w2 hbox hb; have BK603 := ak hbox; have GW603 := gw hg HB; have GE603 := gw hg HB; replace HB := bs HB hb; clear hb hbox hg)); try go_wp2_with (first | ((with_reducible refine gate_dst (N := 1) rfl ?_); (try (refine gate_guard (by rfl) ?_; dsimp only)); refine bx 1 (f5 A0_0 l0_0 c0_0 A0_1 l0_1 c0_1 A0_2 l0_2 c0_2 A0_3 l0_3 c0_3 A0_4 l0_4 c0_4 a0_5) 28 ?_; intro gb603 hg w2 hbox hb; have BK603 := ak hbox; have GW603 := gw hg HB; have GE603 := gw hg HB; replace HB := bs HB hb; clear hb hbox hg)))
 go_loopg [3] k (fun kq v3 w' => ∃ (x3_1 : Int), v3 = .int .i64 x3_1 ∧ Aside0 (spec_IsField.l0 kq x3_1 l0_0 l0_1 l0_2 l0_3 l0_4 a0_5 = some r) ∧ Aside0 (kq ≤ k) ∧ Aside0 (w'.heap[gb603]? = some (.cells (f5 A0_0 l0_0 c0_0 A0_1 l0_1 c0_1 A0_2 l0_2 c0_2 A0_3 l0_3 c0_3 A0_4 l0_4 c0_4 a0_5) 28 (0, 0))) ∧ Aside0 (Below w.heap.size w w'))
 case atStart => exact ⟨(0), es, H', ⟨Nat.le_refl _⟩, ⟨vk BK603.out⟩, ⟨vb HB.out⟩⟩
 case round =>
  clear H'; (try clear p2); obtain ⟨x3_1, rfl, HA, HK1, BK603, HB⟩ := hrel
  cases gk with
  | zero => exact absurd HA.out (by simp [spec_IsField.l0])
  | succ k1 =>
   have H := HA.out; clear HA; simp only [spec_IsField.l0] at H
   by_cases c3 : x3_1 < (l0_2.length : Int)
   ·rw [if_pos c3] at H; have c3b0 := decide_eq_true c3; clear c3; by_cases c4 : 0 ≤ x3_1
    ·rw [if_pos c4] at H; have c4b0 := decide_eq_true c4; clear c4; obtain ⟨t605, A5, H⟩ := bnk H; by_cases c6 : t605 = true
     ·subst c6; rw [if_pos rfl] at H; have H' := ak H; clear H; have hcz7 := cz6 BK603.out; have p604 : 0 ≤ (x3_1 : Int) := od; have q604 : x3_1 < (l0_2.length : Int) := od; obtain ⟨ad604, e604, hx604_0⟩ := Kd.at_int HR0_2.out x3_1 p604 q604
      cases e604; replace hx604_0 := cb HB.out hx604_0; replace p604 := eq_true p604; replace q604 := eq_true q604; go_wp2_with (first | (go_at_call 98; (with_reducible refine (spec_l01In.calls (rd l0_2 x3_1) 20 300 _ _ A5.out).mono ?_); rintro e w' ⟨rfl, ⟨nd, rfl⟩⟩; (try first | exact ⟨rfl, _, World.drewN_drewN _ _ _⟩ | exact ⟨rfl, _, Eq.trans (World.drewN_drewN _ _ _) (congrArg (World.drewN _) (Nat.add_assoc _ _ _))⟩)))
      repeat (go_quiet (first | (go_at_call 98; (with_reducible refine (spec_l01In.calls (rd l0_2 x3_1) 20 300 _ _ A5.out).mono ?_); rintro e w' ⟨rfl, ⟨nd, rfl⟩⟩; (try first | exact ⟨rfl, _, World.drewN_drewN _ _ _⟩ | exact ⟨rfl, _, Eq.trans (World.drewN_drewN _ _ _) (congrArg (World.drewN _) (Nat.add_assoc _ _ _))⟩))); try go_wp2_with (first | (go_at_call 98; (with_reducible refine (spec_l01In.calls (rd l0_2 x3_1) 20 300 _ _ A5.out).mono ?_); rintro e w' ⟨rfl, ⟨nd, rfl⟩⟩; (try first | exact ⟨rfl, _, World.drewN_drewN _ _ _⟩ | exact ⟨rfl, _, Eq.trans (World.drewN_drewN _ _ _) (congrArg (World.drewN _) (Nat.add_assoc _ _ _))⟩))))
      go_roundg k1
      case measure => have := HK1.out; omega
      case rel => exact ⟨(wrap64 (x3_1 + 1)), es, H', ⟨by have := HK1.out; omega⟩, ⟨vk BK603.out⟩, ⟨vb HB.out⟩⟩
     ·replace c6 := Bool.eq_false_iff.mpr c6; subst c6; rw [if_neg nf] at H; obtain rfl := sj H; have hcz8 := cz6 BK603.out; have p604 : 0 ≤ (x3_1 : Int) := od; have q604 : x3_1 < (l0_2.length : Int) := od; obtain ⟨ad604, e604, hx604_0⟩ := Kd.at_int HR0_2.out x3_1 p604 q604
      cases e604; replace hx604_0 := cb HB.out hx604_0; replace p604 := eq_true p604; replace q604 := eq_true q604; go_wp2_with (first | (go_at_call 98; (with_reducible refine (spec_l01In.calls (rd l0_2 x3_1) 20 300 _ _ A5.out).mono ?_); rintro e w' ⟨rfl, ⟨nd, rfl⟩⟩; (try first | exact ⟨rfl, _, World.drewN_drewN _ _ _⟩ | exact ⟨rfl, _, Eq.trans (World.drewN_drewN _ _ _) (congrArg (World.drewN _) (Nat.add_assoc _ _ _))⟩)))
      repeat (go_quiet (first | (go_at_call 98; (with_reducible refine (spec_l01In.calls (rd l0_2 x3_1) 20 300 _ _ A5.out).mono ?_); rintro e w' ⟨rfl, ⟨nd, rfl⟩⟩; (try first | exact ⟨rfl, _, World.drewN_drewN _ _ _⟩ | exact ⟨rfl, _, Eq.trans (World.drewN_drewN _ _ _) (congrArg (World.drewN _) (Nat.add_assoc _ _ _))⟩))); try go_wp2_with (first | (go_at_call 98; (with_reducible refine (spec_l01In.calls (rd l0_2 x3_1) 20 300 _ _ A5.out).mono ?_); rintro e w' ⟨rfl, ⟨nd, rfl⟩⟩; (try first | exact ⟨rfl, _, World.drewN_drewN _ _ _⟩ | exact ⟨rfl, _, Eq.trans (World.drewN_drewN _ _ _) (congrArg (World.drewN _) (Nat.add_assoc _ _ _))⟩))))
      go_ret
      exact ⟨ew, vb HB.out⟩
    ·exact nO_ c4 H
   ·rw [if_neg c3] at H; have c3b0 := decide_eq_false c3; clear c3; have HC9 := ak H; clear H; have hcz10 := cz6 BK603.out; go_upto_region 6 with (fail)
    repeat (go_quiet (fail); go_upto_region 6 with (fail))
    go_cut [37] (fun v37 wc => ∃ (kq : Nat) (x37_8 : Bool), v37 = .bool x37_8 ∧ Aside0 (spec_IsField.j1 kq x37_8 l0_0 l0_1 l0_2 l0_3 l0_4 a0_5 = some r) ∧ Aside0 (kq ≤ k1) ∧ Aside0 (wc.heap[gb603]? = some (.cells (f5 A0_0 l0_0 c0_0 A0_1 l0_1 c0_1 A0_2 l0_2 c0_2 A0_3 l0_3 c0_3 A0_4 l0_4 c0_4 a0_5) 28 (0, 0))) ∧ Aside0 (Below w.heap.size w wc))
    case first =>
     have H := HC9.out; clear HC9; by_cases c11 : (l0_3.length : Int) = (l0_4.length : Int)
     ·rw [if_pos c11] at H; obtain ⟨c11b0, c11b1⟩ := bqt c11; have c11b2 : (l0_3.length == l0_4.length) = true := by first | simpa using c11 | (simp at c11 ⊢; omega)
      clear c11; (first | rw [c11b0] | (simp only [i64_w, i32_w]; rw [c11b0]) | skip)
      by_cases c12 : (l0_3.length : Int) > 7
      ·rw [if_pos c12] at H; have c12b0 := decide_eq_true c12; have c12b1 : decide (7 < l0_3.length) = true := decide_eq_true (by omega); clear c12; have H' := ak H; clear H; have hcz13 := cz6 BK603.out; go_wp2
       repeat (go_quiet (fail); try go_wp2)
       go_meet
       case rel => exact ⟨_, (true), es, H', ⟨by have := HK1.out; first | omega | exact Nat.le_refl _⟩, ⟨vk BK603.out⟩, ⟨vb HB.out⟩⟩
      ·rw [if_neg c12] at H; have c12b0 := decide_eq_false c12; have c12b1 : decide (7 < l0_3.length) = false := decide_eq_false (by omega); clear c12; have H' := ak H; clear H; have hcz14 := cz6 BK603.out; go_wp2
       repeat (go_quiet (fail); try go_wp2)
       go_meet
       case rel => exact ⟨_, (decide ((l0_2.length : Int) > 4)), es, H', ⟨by have := HK1.out; first | omega | exact Nat.le_refl _⟩, ⟨vk BK603.out⟩, ⟨vb HB.out⟩⟩
     ·rw [if_neg c11] at H; obtain ⟨c11b0, c11b1⟩ := bqf c11; have c11b2 : (l0_3.length == l0_4.length) = false := by first | simpa using c11 | (simp at c11 ⊢; omega)
      (first | rw [c11b0] | (simp only [i64_w, i32_w]; rw [c11b0]) | skip)
      have H' := ak H; clear H; have hcz15 := cz6 BK603.out; go_wp2
      repeat (go_quiet (fail); try go_wp2)
      go_meet
      case rel => exact ⟨_, (true), es, H', ⟨by have := HK1.out; first | omega | exact Nat.le_refl _⟩, ⟨vk BK603.out⟩, ⟨vb HB.out⟩⟩
    case rest =>
     clear HC9; (try clear c1); (try clear p2); (try clear c3); (try clear c3b0); (try clear c4); (try clear c4b0); (try clear c6); (try clear p6); (try clear q6); (try clear hx6); (try clear c7); (try clear c11); (try clear c11b0); (try clear c11b1); (try clear c11b2); (try clear c12); (try clear c12b0); (try clear c12b1); (try clear hcz10); (try clear hcz13); (try clear hcz14); (try clear hcz15); (try clear hcz7); (try clear hcz8); (try clear hx604_0); (try clear p2); (try clear p604); (try clear q604); obtain ⟨kq, x37_8, rfl, HA, HJ8, BK603, HB⟩ := hcut
     cases kq with
     | zero => exact absurd HA.out (by simp [spec_IsField.j1])
     | succ kj8 =>
      have H := HA.out; clear HA; simp only [spec_IsField.j1] at H
      by_cases c16 : x37_8 = true
      ·subst c16; rw [if_pos rfl] at H; obtain rfl := sj H; go_wp2
       repeat (go_quiet (fail); try go_wp2)
       go_ret
       exact ⟨ew, vb HB.out⟩
      ·replace c16 := Bool.eq_false_iff.mpr c16; subst c16; rw [if_neg nf] at H; have H' := ak H; clear H; go_wp2
       repeat (go_quiet (fail); try go_wp2)
       go_loopg [4] kj8 (fun kq v4 w' => ∃ (x4_3 : Int), v4 = .int .i64 x4_3 ∧ Aside0 (spec_IsField.l1 kq x4_3 l0_0 l0_1 l0_2 l0_3 l0_4 a0_5 = some r) ∧ Aside0 (kq ≤ kj8) ∧ Aside0 (w'.heap[gb603]? = some (.cells (f5 A0_0 l0_0 c0_0 A0_1 l0_1 c0_1 A0_2 l0_2 c0_2 A0_3 l0_3 c0_3 A0_4 l0_4 c0_4 a0_5) 28 (0, 0))) ∧ Aside0 (Below w.heap.size w w'))
       case atStart => exact ⟨(0), es, H', ⟨Nat.le_refl _⟩, ⟨vk BK603.out⟩, ⟨vb HB.out⟩⟩
       case round =>
        clear H'; (try clear c1); (try clear p2); (try clear c3); (try clear c3b0); (try clear c4); (try clear c4b0); (try clear c6); (try clear p6); (try clear q6); (try clear hx6); (try clear c7); (try clear c11); (try clear c11b0); (try clear c11b1); (try clear c11b2); (try clear c12); (try clear c12b0); (try clear c12b1); (try clear c16); (try clear hcz10); (try clear hcz13); (try clear hcz14); (try clear hcz15); (try clear hcz7); (try clear hcz8); (try clear hx604_0); (try clear p2); (try clear p6); (try clear p604); (try clear q6); (try clear q604); obtain ⟨x4_3, rfl, HA, HK3, BK603, HB⟩ := hrel
        cases gk with
        | zero => exact absurd HA.out (by simp [spec_IsField.l1])
        | succ k3 =>
         have H := HA.out; clear HA; simp only [spec_IsField.l1] at H
         by_cases c17 : x4_3 < (l0_3.length : Int)
         ·rw [if_pos c17] at H; have c17b0 := decide_eq_true c17; clear c17; by_cases c18 : 0 ≤ x4_3
          ·rw [if_pos c18] at H; have c18b0 := decide_eq_true c18; clear c18; by_cases c19 : x4_3 < (l0_4.length : Int)
           ·rw [if_pos c19] at H; have c19b0 := decide_eq_true c19; clear c19; obtain ⟨t608, A20, H⟩ := bnk H; by_cases c21 : t608 = true
            ·subst c21; rw [if_pos rfl] at H; have H' := ak H; clear H; have hcz22 := cz6 BK603.out; have p606 : 0 ≤ (x4_3 : Int) := od; have q606 : x4_3 < (l0_3.length : Int) := od; obtain ⟨ad606, e606, hx606_0⟩ := Kd.at_int HR0_3.out x4_3 p606 q606
             cases e606; replace hx606_0 := cb HB.out hx606_0; replace p606 := eq_true p606; replace q606 := eq_true q606; have p607 : 0 ≤ (x4_3 : Int) := od; have q607 : x4_3 < (l0_4.length : Int) := od; obtain ⟨ad607, e607, hx607_0⟩ := Kd.at_int HR0_4.out x4_3 p607 q607
             cases e607; replace hx607_0 := cb HB.out hx607_0; replace p607 := eq_true p607; replace q607 := eq_true q607; go_wp2_with (first | (go_at_call 99; (with_reducible refine (spec_l15Place.calls (rd l0_3 x4_3) (rd l0_4 x4_3) _ _ A20.out).mono ?_); rintro e w' ⟨rfl, ⟨nd, rfl⟩⟩; (try first | exact ⟨rfl, _, World.drewN_drewN _ _ _⟩ | exact ⟨rfl, _, Eq.trans (World.drewN_drewN _ _ _) (congrArg (World.drewN _) (Nat.add_assoc _ _ _))⟩)))
             repeat (go_quiet (first | (go_at_call 99; (with_reducible refine (spec_l15Place.calls (rd l0_3 x4_3) (rd l0_4 x4_3) _ _ A20.out).mono ?_); rintro e w' ⟨rfl, ⟨nd, rfl⟩⟩; (try first | exact ⟨rfl, _, World.drewN_drewN _ _ _⟩ | exact ⟨rfl, _, Eq.trans (World.drewN_drewN _ _ _) (congrArg (World.drewN _) (Nat.add_assoc _ _ _))⟩))); try go_wp2_with (first | (go_at_call 99; (with_reducible refine (spec_l15Place.calls (rd l0_3 x4_3) (rd l0_4 x4_3) _ _ A20.out).mono ?_); rintro e w' ⟨rfl, ⟨nd, rfl⟩⟩; (try first | exact ⟨rfl, _, World.drewN_drewN _ _ _⟩ | exact ⟨rfl, _, Eq.trans (World.drewN_drewN _ _ _) (congrArg (World.drewN _) (Nat.add_assoc _ _ _))⟩))))
             go_roundg k3
             case measure => have := HK1.out; have := HJ8.out; have := HK3.out; omega
             case rel => exact ⟨(wrap64 (x4_3 + 1)), es, H', ⟨by have := HK1.out; have := HJ8.out; have := HK3.out; omega⟩, ⟨vk BK603.out⟩, ⟨vb HB.out⟩⟩
            ·replace c21 := Bool.eq_false_iff.mpr c21; subst c21; rw [if_neg nf] at H; obtain rfl := sj H; have hcz23 := cz6 BK603.out; have p606 : 0 ≤ (x4_3 : Int) := od; have q606 : x4_3 < (l0_3.length : Int) := od; obtain ⟨ad606, e606, hx606_0⟩ := Kd.at_int HR0_3.out x4_3 p606 q606
             cases e606; replace hx606_0 := cb HB.out hx606_0; replace p606 := eq_true p606; replace q606 := eq_true q606; have p607 : 0 ≤ (x4_3 : Int) := od; have q607 : x4_3 < (l0_4.length : Int) := od; obtain ⟨ad607, e607, hx607_0⟩ := Kd.at_int HR0_4.out x4_3 p607 q607
             cases e607; replace hx607_0 := cb HB.out hx607_0; replace p607 := eq_true p607; replace q607 := eq_true q607; go_wp2_with (first | (go_at_call 99; (with_reducible refine (spec_l15Place.calls (rd l0_3 x4_3) (rd l0_4 x4_3) _ _ A20.out).mono ?_); rintro e w' ⟨rfl, ⟨nd, rfl⟩⟩; (try first | exact ⟨rfl, _, World.drewN_drewN _ _ _⟩ | exact ⟨rfl, _, Eq.trans (World.drewN_drewN _ _ _) (congrArg (World.drewN _) (Nat.add_assoc _ _ _))⟩)))
             repeat (go_quiet (first | (go_at_call 99; (with_reducible refine (spec_l15Place.calls (rd l0_3 x4_3) (rd l0_4 x4_3) _ _ A20.out).mono ?_); rintro e w' ⟨rfl, ⟨nd, rfl⟩⟩; (try first | exact ⟨rfl, _, World.drewN_drewN _ _ _⟩ | exact ⟨rfl, _, Eq.trans (World.drewN_drewN _ _ _) (congrArg (World.drewN _) (Nat.add_assoc _ _ _))⟩))); try go_wp2_with (first | (go_at_call 99; (with_reducible refine (spec_l15Place.calls (rd l0_3 x4_3) (rd l0_4 x4_3) _ _ A20.out).mono ?_); rintro e w' ⟨rfl, ⟨nd, rfl⟩⟩; (try first | exact ⟨rfl, _, World.drewN_drewN _ _ _⟩ | exact ⟨rfl, _, Eq.trans (World.drewN_drewN _ _ _) (congrArg (World.drewN _) (Nat.add_assoc _ _ _))⟩))))
             go_ret
             exact ⟨ew, vb HB.out⟩
           ·exact nO_ c19 H
          ·exact nO_ c18 H
         ·rw [if_neg c17] at H; have c17b0 := decide_eq_false c17; clear c17; obtain ⟨t609, A24, H⟩ := bnk H; by_cases c25 : t609 = true
          ·subst c25; rw [if_pos rfl] at H; obtain ⟨t610, A26, H⟩ := bnk H; by_cases c27 : t610 = true
           ·subst c27; rw [if_pos rfl] at H; obtain ⟨t611, A28, H⟩ := bnk H; obtain rfl := sj H; have hcz29 := cz6 BK603.out; go_wp2_with (first | (go_at_call 100; (with_reducible refine (spec_IsTable.calls k3 _ _ l0_0 _ _ ?_ HC0_0.out A24.out).mono ?_); exact vd HR0_0.out HB.out; rintro e w30 ⟨rfl, hb⟩; replace BK603 := kb BK603 hb; replace HB := bs HB hb; (try clear hb); (try clear hb2); (try clear hk); (try clear hi); have hcz31 := cz6 BK603.out) | (go_at_call 101; (with_reducible refine (spec_IsSite.calls k3 _ _ l0_1 _ _ ?_ HC0_1.out A26.out).mono ?_); exact vd HR0_1.out HB.out; rintro e w32 ⟨rfl, hb⟩; replace BK603 := kb BK603 hb; replace HB := bs HB hb; (try clear hb); (try clear hb2); (try clear hk); (try clear hi); have hcz33 := cz6 BK603.out) | (go_at_call 98; (with_reducible refine (spec_l01In.calls a0_5 0 10000 t611 _ A28.out).mono ?_); rintro e w' ⟨rfl, ⟨nd, rfl⟩⟩; (try first | exact ⟨rfl, _, World.drewN_drewN _ _ _⟩ | exact ⟨rfl, _, Eq.trans (World.drewN_drewN _ _ _) (congrArg (World.drewN _) (Nat.add_assoc _ _ _))⟩)))
            repeat (go_quiet (first | (go_at_call 100; (with_reducible refine (spec_IsTable.calls k3 _ _ l0_0 _ _ ?_ HC0_0.out A24.out).mono ?_); exact vd HR0_0.out HB.out; rintro e w30 ⟨rfl, hb⟩; replace BK603 := kb BK603 hb; replace HB := bs HB hb; (try clear hb); (try clear hb2); (try clear hk); (try clear hi); have hcz31 := cz6 BK603.out) | (go_at_call 101; (with_reducible refine (spec_IsSite.calls k3 _ _ l0_1 _ _ ?_ HC0_1.out A26.out).mono ?_); exact vd HR0_1.out HB.out; rintro e w32 ⟨rfl, hb⟩; replace BK603 := kb BK603 hb; replace HB := bs HB hb; (try clear hb); (try clear hb2); (try clear hk); (try clear hi); have hcz33 := cz6 BK603.out) | (go_at_call 98; (with_reducible refine (spec_l01In.calls a0_5 0 10000 t611 _ A28.out).mono ?_); rintro e w' ⟨rfl, ⟨nd, rfl⟩⟩; (try first | exact ⟨rfl, _, World.drewN_drewN _ _ _⟩ | exact ⟨rfl, _, Eq.trans (World.drewN_drewN _ _ _) (congrArg (World.drewN _) (Nat.add_assoc _ _ _))⟩))); try go_wp2_with (first | (go_at_call 100; (with_reducible refine (spec_IsTable.calls k3 _ _ l0_0 _ _ ?_ HC0_0.out A24.out).mono ?_); exact vd HR0_0.out HB.out; rintro e w30 ⟨rfl, hb⟩; replace BK603 := kb BK603 hb; replace HB := bs HB hb; (try clear hb); (try clear hb2); (try clear hk); (try clear hi); have hcz31 := cz6 BK603.out) | (go_at_call 101; (with_reducible refine (spec_IsSite.calls k3 _ _ l0_1 _ _ ?_ HC0_1.out A26.out).mono ?_); exact vd HR0_1.out HB.out; rintro e w32 ⟨rfl, hb⟩; replace BK603 := kb BK603 hb; replace HB := bs HB hb; (try clear hb); (try clear hb2); (try clear hk); (try clear hi); have hcz33 := cz6 BK603.out) | (go_at_call 98; (with_reducible refine (spec_l01In.calls a0_5 0 10000 t611 _ A28.out).mono ?_); rintro e w' ⟨rfl, ⟨nd, rfl⟩⟩; (try first | exact ⟨rfl, _, World.drewN_drewN _ _ _⟩ | exact ⟨rfl, _, Eq.trans (World.drewN_drewN _ _ _) (congrArg (World.drewN _) (Nat.add_assoc _ _ _))⟩))))
            go_ret
            exact ⟨ew, vb HB.out⟩
           ·replace c27 := Bool.eq_false_iff.mpr c27; subst c27; rw [if_neg nf] at H; obtain rfl := sj H; have hcz34 := cz6 BK603.out; go_wp2_with (first | (go_at_call 100; (with_reducible refine (spec_IsTable.calls k3 _ _ l0_0 _ _ ?_ HC0_0.out A24.out).mono ?_); exact vd HR0_0.out HB.out; rintro e w35 ⟨rfl, hb⟩; replace BK603 := kb BK603 hb; replace HB := bs HB hb; (try clear hb); (try clear hb2); (try clear hk); (try clear hi); have hcz36 := cz6 BK603.out) | (go_at_call 101; (with_reducible refine (spec_IsSite.calls k3 _ _ l0_1 _ _ ?_ HC0_1.out A26.out).mono ?_); exact vd HR0_1.out HB.out; rintro e w37 ⟨rfl, hb⟩; replace BK603 := kb BK603 hb; replace HB := bs HB hb; (try clear hb); (try clear hb2); (try clear hk); (try clear hi)))
            repeat (go_quiet (first | (go_at_call 100; (with_reducible refine (spec_IsTable.calls k3 _ _ l0_0 _ _ ?_ HC0_0.out A24.out).mono ?_); exact vd HR0_0.out HB.out; rintro e w35 ⟨rfl, hb⟩; replace BK603 := kb BK603 hb; replace HB := bs HB hb; (try clear hb); (try clear hb2); (try clear hk); (try clear hi); have hcz36 := cz6 BK603.out) | (go_at_call 101; (with_reducible refine (spec_IsSite.calls k3 _ _ l0_1 _ _ ?_ HC0_1.out A26.out).mono ?_); exact vd HR0_1.out HB.out; rintro e w37 ⟨rfl, hb⟩; replace BK603 := kb BK603 hb; replace HB := bs HB hb; (try clear hb); (try clear hb2); (try clear hk); (try clear hi))); try go_wp2_with (first | (go_at_call 100; (with_reducible refine (spec_IsTable.calls k3 _ _ l0_0 _ _ ?_ HC0_0.out A24.out).mono ?_); exact vd HR0_0.out HB.out; rintro e w35 ⟨rfl, hb⟩; replace BK603 := kb BK603 hb; replace HB := bs HB hb; (try clear hb); (try clear hb2); (try clear hk); (try clear hi); have hcz36 := cz6 BK603.out) | (go_at_call 101; (with_reducible refine (spec_IsSite.calls k3 _ _ l0_1 _ _ ?_ HC0_1.out A26.out).mono ?_); exact vd HR0_1.out HB.out; rintro e w37 ⟨rfl, hb⟩; replace BK603 := kb BK603 hb; replace HB := bs HB hb; (try clear hb); (try clear hb2); (try clear hk); (try clear hi))))
            go_ret
            exact ⟨ew, vb HB.out⟩
          ·replace c25 := Bool.eq_false_iff.mpr c25; subst c25; rw [if_neg nf] at H; obtain rfl := sj H; have hcz38 := cz6 BK603.out; go_wp2_with (first | (go_at_call 100; (with_reducible refine (spec_IsTable.calls k3 _ _ l0_0 _ _ ?_ HC0_0.out A24.out).mono ?_); exact vd HR0_0.out HB.out; rintro e w39 ⟨rfl, hb⟩; replace BK603 := kb BK603 hb; replace HB := bs HB hb; (try clear hb); (try clear hb2); (try clear hk); (try clear hi)))
           repeat (go_quiet (first | (go_at_call 100; (with_reducible refine (spec_IsTable.calls k3 _ _ l0_0 _ _ ?_ HC0_0.out A24.out).mono ?_); exact vd HR0_0.out HB.out; rintro e w39 ⟨rfl, hb⟩; replace BK603 := kb BK603 hb; replace HB := bs HB hb; (try clear hb); (try clear hb2); (try clear hk); (try clear hi))); try go_wp2_with (first | (go_at_call 100; (with_reducible refine (spec_IsTable.calls k3 _ _ l0_0 _ _ ?_ HC0_0.out A24.out).mono ?_); exact vd HR0_0.out HB.out; rintro e w39 ⟨rfl, hb⟩; replace BK603 := kb BK603 hb; replace HB := bs HB hb; (try clear hb); (try clear hb2); (try clear hk); (try clear hi))))
           go_ret
           exact ⟨ew, vb HB.out⟩


/-! ### spec_l01Rises: function 76 -/
def spec_l01Rises.l0 : Nat → List Int → Int → Int → Option (Bool)
 | 0, _, _, _ => none
 | k + 1, x0, x1, x5 => if x5 < (x0.length : Int) then (if 0 ≤ x5 then ((spec_l01In.f (rd x0 x5) 0 (wrap64 (x1 - 1))).bind fun t613 => (if t613 = true then (if x5 > 0 then (if 0 ≤ (wrap64 (x5 - 1)) then (if (wrap64 (x5 - 1)) < (x0.length : Int) then (if (rd x0 x5) ≤ (rd x0 (wrap64 (x5 - 1))) then (some false) else (spec_l01Rises.l0 k x0 x1 (wrap64 (x5 + 1)))) else (none)) else (none)) else (spec_l01Rises.l0 k x0 x1 (wrap64 (x5 + 1)))) else (some false))) else (none)) else (some true)
def spec_l01Rises.f (k : Nat) (l0 : List Int) (a1 : Int) : Option (Bool) := spec_l01Rises.l0 k l0 a1 0
theorem spec_l01Rises.mono_l : ∀ k, (∀ y0 y1 y2, LeO (spec_l01Rises.l0 k y0 y1 y2) (spec_l01Rises.l0 (k + 1) y0 y1 y2))
 | 0 => fun _ _ _ r h => by simp [spec_l01Rises.l0] at h
 | k + 1 => by
  have ih0 := spec_l01Rises.mono_l k
  ·intro y0 y1 y2; unfold spec_l01Rises.l0
   repeat' (with_reducible first | exact ih0 .. | exact LeO.refl .. | exact LeO.none .. | refine LeO.ite ?_ ?_ | refine LeO.bind ?_ (fun _ => ?_))
theorem spec_l01Rises.mono : ∀ a0 a1 k, LeO (spec_l01Rises.f k a0 a1) (spec_l01Rises.f (k + 1) a0 a1) := by
 intro a0 a1 k; have ih0 := spec_l01Rises.mono_l k; unfold spec_l01Rises.f
 repeat' (with_reducible first | exact ih0 .. | exact LeO.refl .. | exact LeO.none .. | refine LeO.ite ?_ ?_ | refine LeO.bind ?_ (fun _ => ?_))
set_option maxHeartbeats 8000000 in
set_option maxRecDepth 100000 in
theorem spec_l01Rises.calls (k : Nat) (A0 : Option Addr) (c0 : Nat) (l0 : List Int) (a1 : Int) (r : Bool) (w : World) (hr0 : Kd.C (Kd.int .i64) w A0 l0.length l0) (hc0 : l0.length ≤ c0) (h : spec_l01Rises.f k l0 a1 = some r) :
  Calls Try.prog 76 #[.slice A0 l0.length c0, .int .i64 a1] w fun e w' => e = .returned (.bool r) ∧ Drawn0 w w' := by
 have HR0 := ak hr0; have HC0 := ak hc0; clear hr0 hc0; unfold spec_l01Rises.f at h; have H := h; clear h; have H' := ak H; clear H; go_enter Try.func76, Try.ntmps76; go_wp2
 repeat (go_quiet (fail); try go_wp2)
 go_loopg [5] k (fun kq v5 w' => ∃ (x5_1 : Int), v5 = .int .i64 x5_1 ∧ Aside0 (spec_l01Rises.l0 kq l0 a1 x5_1 = some r) ∧ Aside0 (kq ≤ k) ∧ Drawn0 w w')
 case atStart => exact ⟨(0), es, H', ⟨Nat.le_refl _⟩, by repeat (first | exact Drawn0.refl _ | apply Drawn0.step)⟩
 case round =>
  clear H'; (try clear p2); obtain ⟨x5_1, rfl, HA, HK1, ⟨m1, rfl⟩⟩ := hrel
  cases gk with
  | zero => exact absurd HA.out (by simp [spec_l01Rises.l0])
  | succ k1 =>
   have H := HA.out; clear HA; simp only [spec_l01Rises.l0] at H
   by_cases c3 : x5_1 < (l0.length : Int)
   ·rw [if_pos c3] at H; have c3b0 := decide_eq_true c3; clear c3; by_cases c4 : 0 ≤ x5_1
    ·rw [if_pos c4] at H; have c4b0 := decide_eq_true c4; clear c4; obtain ⟨t613, A5, H⟩ := bnk H; by_cases c6 : t613 = true
     ·subst c6; rw [if_pos rfl] at H; by_cases c7 : x5_1 > 0
      ·rw [if_pos c7] at H; have c7b0 := decide_eq_true c7; clear c7; obtain ⟨ji8, hji8⟩ : ∃ j_ : Int, (wrap64 (x5_1 - 1)) = j_ := ⟨_, rfl⟩; replace H : (if 0 ≤ (ji8) then (if (ji8) < (l0.length : Int) then (if (rd l0 x5_1) ≤ (rd l0 (ji8)) then (some false) else (spec_l01Rises.l0 k1 l0 a1 (wrap64 (x5_1 + 1)))) else (none)) else (none)) = some r := by first | (rw [hji8] at H; exact H) | (simp only [hji8] at H ⊢; exact H)
       (try rw [hji8] at A5)
       have hji8w : (IntKind.i64.wrap (x5_1 - 1)) = ji8 := (i64_w _).trans hji8; by_cases c9 : 0 ≤ (ji8)
       ·rw [if_pos c9] at H; have c9b0 := decide_eq_true c9; clear c9; by_cases c10 : (ji8) < (l0.length : Int)
        ·rw [if_pos c10] at H; have c10b0 := decide_eq_true c10; clear c10; by_cases c11 : (rd l0 x5_1) ≤ (rd l0 (ji8))
         ·rw [if_pos c11] at H; have c11b0 := decide_eq_true c11; clear c11; obtain rfl := sj H; have p612 : 0 ≤ (x5_1 : Int) := od; have q612 : x5_1 < (l0.length : Int) := od; obtain ⟨ad612, e612, hx612_0⟩ := Kd.at_int HR0.out x5_1 p612 q612
          cases e612; replace p612 := eq_true p612; replace q612 := eq_true q612; have p614 : 0 ≤ (x5_1 : Int) := od; have q614 : x5_1 < (l0.length : Int) := od; obtain ⟨ad614, e614, hx614_0⟩ := Kd.at_int HR0.out x5_1 p614 q614; obtain rfl : ad612 = ad614 := (by injection e614); replace p614 := eq_true p614; replace q614 := eq_true q614; have p615 : 0 ≤ ((ji8) : Int) := od; have q615 : (ji8) < (l0.length : Int) := od; obtain ⟨ad615, e615, hx615_0⟩ := Kd.at_int HR0.out (ji8) p615 q615; obtain rfl : ad612 = ad615 := (by injection e615); replace p615 := eq_true p615; replace q615 := eq_true q615; go_wp2_with (first | (go_at_call 98; (with_reducible refine (spec_l01In.calls (rd l0 x5_1) 0 (wrap64 (a1 - 1)) _ _ A5.out).mono ?_); rintro e w' ⟨rfl, ⟨nd, rfl⟩⟩; (try first | exact ⟨rfl, _, World.drewN_drewN _ _ _⟩ | exact ⟨rfl, _, Eq.trans (World.drewN_drewN _ _ _) (congrArg (World.drewN _) (Nat.add_assoc _ _ _))⟩)))
          repeat (go_quiet (first | (go_at_call 98; (with_reducible refine (spec_l01In.calls (rd l0 x5_1) 0 (wrap64 (a1 - 1)) _ _ A5.out).mono ?_); rintro e w' ⟨rfl, ⟨nd, rfl⟩⟩; (try first | exact ⟨rfl, _, World.drewN_drewN _ _ _⟩ | exact ⟨rfl, _, Eq.trans (World.drewN_drewN _ _ _) (congrArg (World.drewN _) (Nat.add_assoc _ _ _))⟩))); try go_wp2_with (first | (go_at_call 98; (with_reducible refine (spec_l01In.calls (rd l0 x5_1) 0 (wrap64 (a1 - 1)) _ _ A5.out).mono ?_); rintro e w' ⟨rfl, ⟨nd, rfl⟩⟩; (try first | exact ⟨rfl, _, World.drewN_drewN _ _ _⟩ | exact ⟨rfl, _, Eq.trans (World.drewN_drewN _ _ _) (congrArg (World.drewN _) (Nat.add_assoc _ _ _))⟩))))
          go_ret
          exact ⟨by first | rfl | (simp; done) | (simp only [← hji8] <;> (first | rfl | simp)) | (simp [*]; done), by repeat (first | exact Drawn0.refl _ | apply Drawn0.step)⟩
         ·rw [if_neg c11] at H; have c11b0 := decide_eq_false c11; clear c11; have H' := ak H; clear H; have p612 : 0 ≤ (x5_1 : Int) := od; have q612 : x5_1 < (l0.length : Int) := od; obtain ⟨ad612, e612, hx612_0⟩ := Kd.at_int HR0.out x5_1 p612 q612
          cases e612; replace p612 := eq_true p612; replace q612 := eq_true q612; have p614 : 0 ≤ (x5_1 : Int) := od; have q614 : x5_1 < (l0.length : Int) := od; obtain ⟨ad614, e614, hx614_0⟩ := Kd.at_int HR0.out x5_1 p614 q614; obtain rfl : ad612 = ad614 := (by injection e614); replace p614 := eq_true p614; replace q614 := eq_true q614; have p615 : 0 ≤ ((ji8) : Int) := od; have q615 : (ji8) < (l0.length : Int) := od; obtain ⟨ad615, e615, hx615_0⟩ := Kd.at_int HR0.out (ji8) p615 q615; obtain rfl : ad612 = ad615 := (by injection e615); replace p615 := eq_true p615; replace q615 := eq_true q615; go_wp2_with (first | (go_at_call 98; (with_reducible refine (spec_l01In.calls (rd l0 x5_1) 0 (wrap64 (a1 - 1)) _ _ A5.out).mono ?_); rintro e w' ⟨rfl, ⟨nd, rfl⟩⟩; (try first | exact ⟨rfl, _, World.drewN_drewN _ _ _⟩ | exact ⟨rfl, _, Eq.trans (World.drewN_drewN _ _ _) (congrArg (World.drewN _) (Nat.add_assoc _ _ _))⟩)))
          repeat (go_quiet (first | (go_at_call 98; (with_reducible refine (spec_l01In.calls (rd l0 x5_1) 0 (wrap64 (a1 - 1)) _ _ A5.out).mono ?_); rintro e w' ⟨rfl, ⟨nd, rfl⟩⟩; (try first | exact ⟨rfl, _, World.drewN_drewN _ _ _⟩ | exact ⟨rfl, _, Eq.trans (World.drewN_drewN _ _ _) (congrArg (World.drewN _) (Nat.add_assoc _ _ _))⟩))); try go_wp2_with (first | (go_at_call 98; (with_reducible refine (spec_l01In.calls (rd l0 x5_1) 0 (wrap64 (a1 - 1)) _ _ A5.out).mono ?_); rintro e w' ⟨rfl, ⟨nd, rfl⟩⟩; (try first | exact ⟨rfl, _, World.drewN_drewN _ _ _⟩ | exact ⟨rfl, _, Eq.trans (World.drewN_drewN _ _ _) (congrArg (World.drewN _) (Nat.add_assoc _ _ _))⟩))))
          go_roundg k1
          case measure => have := HK1.out; omega
          case rel => exact ⟨(wrap64 (x5_1 + 1)), es, H', ⟨by have := HK1.out; omega⟩, by repeat (first | exact Drawn0.refl _ | apply Drawn0.step)⟩
        ·exact nO_ c10 H
       ·exact nO_ c9 H
      ·rw [if_neg c7] at H; have c7b0 := decide_eq_false c7; clear c7; have H' := ak H; clear H; have p612 : 0 ≤ (x5_1 : Int) := od; have q612 : x5_1 < (l0.length : Int) := od; obtain ⟨ad612, e612, hx612_0⟩ := Kd.at_int HR0.out x5_1 p612 q612
       cases e612; replace p612 := eq_true p612; replace q612 := eq_true q612; go_wp2_with (first | (go_at_call 98; (with_reducible refine (spec_l01In.calls (rd l0 x5_1) 0 (wrap64 (a1 - 1)) _ _ A5.out).mono ?_); rintro e w' ⟨rfl, ⟨nd, rfl⟩⟩; (try first | exact ⟨rfl, _, World.drewN_drewN _ _ _⟩ | exact ⟨rfl, _, Eq.trans (World.drewN_drewN _ _ _) (congrArg (World.drewN _) (Nat.add_assoc _ _ _))⟩)))
       repeat (go_quiet (first | (go_at_call 98; (with_reducible refine (spec_l01In.calls (rd l0 x5_1) 0 (wrap64 (a1 - 1)) _ _ A5.out).mono ?_); rintro e w' ⟨rfl, ⟨nd, rfl⟩⟩; (try first | exact ⟨rfl, _, World.drewN_drewN _ _ _⟩ | exact ⟨rfl, _, Eq.trans (World.drewN_drewN _ _ _) (congrArg (World.drewN _) (Nat.add_assoc _ _ _))⟩))); try go_wp2_with (first | (go_at_call 98; (with_reducible refine (spec_l01In.calls (rd l0 x5_1) 0 (wrap64 (a1 - 1)) _ _ A5.out).mono ?_); rintro e w' ⟨rfl, ⟨nd, rfl⟩⟩; (try first | exact ⟨rfl, _, World.drewN_drewN _ _ _⟩ | exact ⟨rfl, _, Eq.trans (World.drewN_drewN _ _ _) (congrArg (World.drewN _) (Nat.add_assoc _ _ _))⟩))))
       go_roundg k1
       case measure => have := HK1.out; omega
       case rel => exact ⟨(wrap64 (x5_1 + 1)), es, H', ⟨by have := HK1.out; omega⟩, by repeat (first | exact Drawn0.refl _ | apply Drawn0.step)⟩
     ·replace c6 := Bool.eq_false_iff.mpr c6; subst c6; rw [if_neg nf] at H; obtain rfl := sj H; have p612 : 0 ≤ (x5_1 : Int) := od; have q612 : x5_1 < (l0.length : Int) := od; obtain ⟨ad612, e612, hx612_0⟩ := Kd.at_int HR0.out x5_1 p612 q612
      cases e612; replace p612 := eq_true p612; replace q612 := eq_true q612; go_wp2_with (first | (go_at_call 98; (with_reducible refine (spec_l01In.calls (rd l0 x5_1) 0 (wrap64 (a1 - 1)) _ _ A5.out).mono ?_); rintro e w' ⟨rfl, ⟨nd, rfl⟩⟩; (try first | exact ⟨rfl, _, World.drewN_drewN _ _ _⟩ | exact ⟨rfl, _, Eq.trans (World.drewN_drewN _ _ _) (congrArg (World.drewN _) (Nat.add_assoc _ _ _))⟩)))
      repeat (go_quiet (first | (go_at_call 98; (with_reducible refine (spec_l01In.calls (rd l0 x5_1) 0 (wrap64 (a1 - 1)) _ _ A5.out).mono ?_); rintro e w' ⟨rfl, ⟨nd, rfl⟩⟩; (try first | exact ⟨rfl, _, World.drewN_drewN _ _ _⟩ | exact ⟨rfl, _, Eq.trans (World.drewN_drewN _ _ _) (congrArg (World.drewN _) (Nat.add_assoc _ _ _))⟩))); try go_wp2_with (first | (go_at_call 98; (with_reducible refine (spec_l01In.calls (rd l0 x5_1) 0 (wrap64 (a1 - 1)) _ _ A5.out).mono ?_); rintro e w' ⟨rfl, ⟨nd, rfl⟩⟩; (try first | exact ⟨rfl, _, World.drewN_drewN _ _ _⟩ | exact ⟨rfl, _, Eq.trans (World.drewN_drewN _ _ _) (congrArg (World.drewN _) (Nat.add_assoc _ _ _))⟩))))
      go_ret
      exact ⟨by first | rfl | (simp; done) | (simp [*]; done), by repeat (first | exact Drawn0.refl _ | apply Drawn0.step)⟩
    ·exact nO_ c4 H
   ·rw [if_neg c3] at H; have c3b0 := decide_eq_false c3; clear c3; obtain rfl := sj H; go_wp2
    repeat (go_quiet (fail); try go_wp2)
    go_ret
    exact ⟨by first | rfl | (simp; done) | (simp [*]; done), by repeat (first | exact Drawn0.refl _ | apply Drawn0.step)⟩


/-! ### spec_l19Code: function 47 -/
def spec_l19Code.f (k : Nat) (l0_0 : List (S91)) (l0_1 : List (S69)) (l0_2 : List Int) (l0_3 : List Int) (l0_4 : List Int) (a0_5 : Int) (l1 : List Int) : Option (Int) := (spec_IsField.f k l0_0 l0_1 l0_2 l0_3 l0_4 a0_5).bind fun t617 => (if t617 = true then (if (l0_1.length : Int) > 6 then (some 3) else ((spec_l01Rises.f k l1 (l0_1.length : Int)).bind fun t618 => (if t618 = true then (some 0) else (some 2)))) else (some 1))
theorem spec_l19Code.mono : ∀ a0 a1 a2 a3 a4 a5 a6 k, LeO (spec_l19Code.f k a0 a1 a2 a3 a4 a5 a6) (spec_l19Code.f (k + 1) a0 a1 a2 a3 a4 a5 a6) := by
 intro a0 a1 a2 a3 a4 a5 a6 k; unfold spec_l19Code.f
 repeat' (with_reducible first | exact spec_IsField.mono .. | exact spec_l01Rises.mono .. | exact LeO.refl .. | exact LeO.none .. | refine LeO.ite ?_ ?_ | refine LeO.bind ?_ (fun _ => ?_))
set_option maxHeartbeats 8000000 in
set_option maxRecDepth 100000 in
theorem spec_l19Code.calls (k : Nat) (A0_0 : Option Addr) (c0_0 : Nat) (l0_0 : List (S91)) (A0_1 : Option Addr) (c0_1 : Nat) (l0_1 : List (S69)) (A0_2 : Option Addr) (c0_2 : Nat) (l0_2 : List Int) (A0_3 : Option Addr) (c0_3 : Nat) (l0_3 : List Int) (A0_4 : Option Addr) (c0_4 : Nat) (l0_4 : List Int) (a0_5 : Int) (A1 : Option Addr) (c1 : Nat) (l1 : List Int) (r : Int) (w : World) (hr0_0 : Kd.C k91 w A0_0 l0_0.length l0_0) (hc0_0 : l0_0.length ≤ c0_0) (hr0_1 : Kd.C k69 w A0_1 l0_1.length l0_1) (hc0_1 : l0_1.length ≤ c0_1) (hr0_2 : Kd.C (Kd.int .i64) w A0_2 l0_2.length l0_2) (hc0_2 : l0_2.length ≤ c0_2) (hr0_3 : Kd.C (Kd.int .i64) w A0_3 l0_3.length l0_3) (hc0_3 : l0_3.length ≤ c0_3) (hr0_4 : Kd.C (Kd.int .i64) w A0_4 l0_4.length l0_4) (hc0_4 : l0_4.length ≤ c0_4) (hr1 : Kd.C (Kd.int .i64) w A1 l1.length l1) (hc1 : l1.length ≤ c1) (h : spec_l19Code.f k l0_0 l0_1 l0_2 l0_3 l0_4 a0_5 l1 = some r) :
  Calls Try.prog 47 #[.agg (f5 A0_0 l0_0 c0_0 A0_1 l0_1 c0_1 A0_2 l0_2 c0_2 A0_3 l0_3 c0_3 A0_4 l0_4 c0_4 a0_5), .slice A1 l1.length c1] w fun e w' => e = .returned (.int .i64 r) ∧ Below w.heap.size w w' := by
 have hu28 := Try.underlying28; have HR0_0 := ak hr0_0; have HC0_0 := ak hc0_0; clear hr0_0 hc0_0; have HR0_1 := ak hr0_1; have HC0_1 := ak hc0_1; clear hr0_1 hc0_1; have HR0_2 := ak hr0_2; have HC0_2 := ak hc0_2; clear hr0_2 hc0_2; have HR0_3 := ak hr0_3; have HC0_3 := ak hc0_3; clear hr0_3 hc0_3; have HR0_4 := ak hr0_4; have HC0_4 := ak hc0_4; clear hr0_4 hc0_4; have HR1 := ak hr1; have HC1 := ak hc1; clear hr1 hc1; have HB := ak (Below.refl w.heap.size w); unfold spec_l19Code.f at h; have H := h; clear h; obtain ⟨t617, A3, H⟩ := bnk H; by_cases c4 : t617 = true
 subst c4; rw [if_pos rfl] at H; by_cases c5 : (l0_1.length : Int) > 6
 rw [if_pos c5] at H; have c5b0 := decide_eq_true c5; have c5b1 : decide (6 < l0_1.length) = true := decide_eq_true (by omega); clear c5; obtain rfl := sj H; rotate_left
 rw [if_neg c5] at H; have c5b0 := decide_eq_false c5; have c5b1 : decide (6 < l0_1.length) = false := decide_eq_false (by omega); clear c5; obtain ⟨t618, A10, H⟩ := bnk H; by_cases c11 : t618 = true
 subst c11; rw [if_pos rfl] at H; obtain rfl := sj H; rotate_left
 replace c11 := Bool.eq_false_iff.mpr c11; subst c11; rw [if_neg nf] at H; obtain rfl := sj H; rotate_left
 replace c4 := Bool.eq_false_iff.mpr c4; subst c4; rw [if_neg nf] at H; obtain rfl := sj H; rotate_left
 all_goals
  go_enter Try.func47, Try.ntmps47; go_wp2_with (first | ((with_reducible refine gate_dst (N := 2) rfl ?_); refine bx 2 (f5 A0_0 l0_0 c0_0 A0_1 l0_1 c0_1 A0_2 l0_2 c0_2 A0_3 l0_3 c0_3 A0_4 l0_4 c0_4 a0_5) 28 ?_; intro gb616 hg w9 hbox hb; have BK616 := ak hbox; have GW616 := gw hg HB; have GE616 := gw hg HB; replace HB := bs HB hb; clear hb hbox hg; have hcz9 := cz6 BK616.out) | ((with_reducible refine at_fn (f := 75) rfl ?_); refine gl (some 7) Try.func75 #[.agg (f5 A0_0 l0_0 c0_0 A0_1 l0_1 c0_1 A0_2 l0_2 c0_2 A0_3 l0_3 c0_3 A0_4 l0_4 c0_4 a0_5)] ?_; (with_reducible refine (spec_IsField.calls k _ _ l0_0 _ _ l0_1 _ _ l0_2 _ _ l0_3 _ _ l0_4 a0_5 _ _ ?_ HC0_0.out ?_ HC0_1.out ?_ HC0_2.out ?_ HC0_3.out ?_ HC0_4.out A3.out).mono ?_); exact vd HR0_0.out HB.out; exact vd HR0_1.out HB.out; exact vd HR0_2.out HB.out; exact vd HR0_3.out HB.out; exact vd HR0_4.out HB.out; rintro e w9 ⟨rfl, hb⟩; refine ⟨_, rfl, ?_⟩; replace BK616 := kb BK616 hb; replace HB := bs HB hb; (try clear hb); (try clear hb2); (try clear hk); (try clear hi); have hcz9 := cz6 BK616.out) | ((with_reducible refine at_fn (f := 76) rfl ?_); refine gl (some 19) Try.func76 #[.slice A1 l1.length c1, .int .i64 (l0_1.length : Int)] ?_; (with_reducible refine (spec_l01Rises.calls k _ _ l1 (l0_1.length : Int) _ _ ?_ HC1.out A10.out).mono ?_); exact vd HR1.out HB.out; rintro e w' ⟨rfl, ⟨nd, rfl⟩⟩; refine ⟨_, rfl, ?_⟩))
  go_ret
  exact ⟨ew, vb HB.out⟩


/-! ### spec_l01Has: function 62 -/
def spec_l01Has.l0 : Nat → List Int → Int → Int → Option (Bool)
 | 0, _, _, _ => none
 | k + 1, x0, x1, x5 => if x5 < (x0.length : Int) then (if 0 ≤ x5 then (if (rd x0 x5) = x1 then (some true) else (spec_l01Has.l0 k x0 x1 (wrap64 (x5 + 1)))) else (none)) else (some false)
def spec_l01Has.f (k : Nat) (l0 : List Int) (a1 : Int) : Option (Bool) := spec_l01Has.l0 k l0 a1 0
theorem spec_l01Has.mono_l : ∀ k, (∀ y0 y1 y2, LeO (spec_l01Has.l0 k y0 y1 y2) (spec_l01Has.l0 (k + 1) y0 y1 y2))
 | 0 => fun _ _ _ r h => by simp [spec_l01Has.l0] at h
 | k + 1 => by
  have ih0 := spec_l01Has.mono_l k
  ·intro y0 y1 y2; unfold spec_l01Has.l0
   repeat' (with_reducible first | exact ih0 .. | exact LeO.refl .. | exact LeO.none .. | refine LeO.ite ?_ ?_ | refine LeO.bind ?_ (fun _ => ?_))
theorem spec_l01Has.mono : ∀ a0 a1 k, LeO (spec_l01Has.f k a0 a1) (spec_l01Has.f (k + 1) a0 a1) := by
 intro a0 a1 k; have ih0 := spec_l01Has.mono_l k; unfold spec_l01Has.f
 repeat' (with_reducible first | exact ih0 .. | exact LeO.refl .. | exact LeO.none .. | refine LeO.ite ?_ ?_ | refine LeO.bind ?_ (fun _ => ?_))
set_option maxHeartbeats 8000000 in
set_option maxRecDepth 100000 in
theorem spec_l01Has.calls (k : Nat) (A0 : Option Addr) (c0 : Nat) (l0 : List Int) (a1 : Int) (r : Bool) (w : World) (hr0 : Kd.C (Kd.int .i64) w A0 l0.length l0) (hc0 : l0.length ≤ c0) (h : spec_l01Has.f k l0 a1 = some r) :
  Calls Try.prog 62 #[.slice A0 l0.length c0, .int .i64 a1] w fun e w' => e = .returned (.bool r) ∧ Drawn0 w w' := by
 have HR0 := ak hr0; have HC0 := ak hc0; clear hr0 hc0; unfold spec_l01Has.f at h; have H := h; clear h; have H' := ak H; clear H; go_enter Try.func62, Try.ntmps62; go_wp2
 go_loopg [5] k (fun kq v5 w' => ∃ (x5_1 : Int), v5 = .int .i64 x5_1 ∧ Aside0 (spec_l01Has.l0 kq l0 a1 x5_1 = some r) ∧ Aside0 (kq ≤ k) ∧ Drawn0 w w')
 case atStart => exact ⟨(0), es, H', ⟨Nat.le_refl _⟩, by repeat (first | exact Drawn0.refl _ | apply Drawn0.step)⟩
 case round =>
  clear H'; (try clear p2); obtain ⟨x5_1, rfl, HA, HK1, ⟨m1, rfl⟩⟩ := hrel
  cases gk with
  | zero => exact absurd HA.out (by simp [spec_l01Has.l0])
  | succ k1 =>
   have H := HA.out; clear HA; simp only [spec_l01Has.l0] at H
   by_cases c3 : x5_1 < (l0.length : Int)
   ·rw [if_pos c3] at H; have c3b0 := decide_eq_true c3; clear c3; by_cases c4 : 0 ≤ x5_1
    ·rw [if_pos c4] at H; have c4b0 := decide_eq_true c4; clear c4; by_cases c5 : (rd l0 x5_1) = a1
     ·rw [if_pos c5] at H; obtain ⟨c5b0, c5b1⟩ := bqt c5; clear c5; obtain rfl := sj H; have p619 : 0 ≤ (x5_1 : Int) := od; have q619 : x5_1 < (l0.length : Int) := od; obtain ⟨ad619, e619, hx619_0⟩ := Kd.at_int HR0.out x5_1 p619 q619
      cases e619; replace p619 := eq_true p619; replace q619 := eq_true q619; go_wp2
      go_ret
      exact ⟨by first | rfl | (simp; done) | (simp [*]; done), by repeat (first | exact Drawn0.refl _ | apply Drawn0.step)⟩
     ·rw [if_neg c5] at H; obtain ⟨c5b0, c5b1⟩ := bqf c5; have H' := ak H; clear H; have p619 : 0 ≤ (x5_1 : Int) := od; have q619 : x5_1 < (l0.length : Int) := od; obtain ⟨ad619, e619, hx619_0⟩ := Kd.at_int HR0.out x5_1 p619 q619
      cases e619; replace p619 := eq_true p619; replace q619 := eq_true q619; go_wp2
      go_roundg k1
      case measure => have := HK1.out; omega
      case rel => exact ⟨(wrap64 (x5_1 + 1)), es, H', ⟨by have := HK1.out; omega⟩, by repeat (first | exact Drawn0.refl _ | apply Drawn0.step)⟩
    ·exact nO_ c4 H
   ·rw [if_neg c3] at H; have c3b0 := decide_eq_false c3; clear c3; obtain rfl := sj H; go_wp2
    go_ret
    exact ⟨by first | rfl | (simp; done) | (simp [*]; done), by repeat (first | exact Drawn0.refl _ | apply Drawn0.step)⟩


/-! ### spec_l01Own: function 79 -/
def spec_l01Own.f (l0 : List Int) : Option (List Int) := (some (([] : List Int) : List Int)).bind fun y620 => (if y620.length + l0.length < 17592186044416 then (some (y620 ++ l0)) else (none))
set_option maxHeartbeats 8000000 in
set_option maxRecDepth 100000 in
theorem spec_l01Own.calls (A0 : Option Addr) (c0 : Nat) (l0 : List Int) (r : List Int) (w : World) (hr0 : Kd.C (Kd.int .i64) w A0 l0.length l0) (hc0 : l0.length ≤ c0) (h : spec_l01Own.f l0 = some r) :
  Calls Try.prog 79 #[.slice A0 l0.length c0] w fun e w' => ∃ v0_ : Value, e = .returned (v0_) ∧ Kd.R (Kd.int .i64) 2 w' w.heap.size (fun _ => True) v0_ r ∧ Below w.heap.size w w' := by
 have HR0 := ak hr0; have HC0 := ak hc0; clear hr0 hc0; have HB := ak (Below.refl w.heap.size w); unfold spec_l01Own.f at h; have H := h; clear h; obtain ⟨y620, Ny620, H⟩ := bnE H; by_cases c2 : y620.length + l0.length < 17592186044416
 ·rw [if_pos c2] at H; have LMc2 := ak c2; clear c2; obtain ⟨y623, hy623⟩ := gen_ ((y620 ++ l0 : List Int)); rw [← hy623] at H; have Ny623 := ak hy623; clear hy623; obtain rfl := sj H; go_enter Try.func79, Try.ntmps79; go_wp2_with (first | ((with_reducible refine gate_dst (N := 3) rfl ?_); refine Kd.R_lit (Kd.int .i64) _ 2 ?hg (N := 3) ?hd (xs := ([] : List Int)) (inner := []) (ok := fun _ => True) (okp := fun _ => True) ?hr ?hp (fun _ hk => hk) trivial (Below.refl _ _) (Nat.le_refl _) (by simp) ?_; (case hd => rfl); (case hg => rfl); (case hr => first | (go_simp; done) | (go_simp; rfl)); (case hp => exact (Reps.none _ _)); intro v621 w3 ho4 hb hg_ hnew_; clear hg_ hnew_; (first | rw [← Ny620.out] at ho4 | (simp only [Int.reduceToNat] at ho4; rw [← Ny620.out] at ho4)); have HO622 := ak (Kd.R_lower ho4 (below_size (vb HB.out))); replace HB := bs HB hb; clear hb ho4) | ((with_reducible refine at_bi (b := .append) (xs := #[.tmp 3, .tmp 4]) rfl ?_); at_builtin; refine Kd.R_append_rows (Kd.int .i64) (w0 := w) w.heap.size rfl (.tmp 3) (.tmp 4) 26 2 (.int .i64 0) 8 rfl Try.underlying26 info2 rfl (by decide) (by omega) v621 y620 l0 _ _ _ (fun _ => True) (fun _ => False) rfl rfl ?aO ?aR (fun _ _ h => h) (fun _ h => h.elim) ?aF ?aB ?aS ?aL ?_; (case aR => exact vd HR0.out HB.out); (case aB => exact (vb HB.out)); (case aF => exact (fun _ _ => trivial)); (case aO => exact (vr HO622.out)); (case aS => exact (below_size (vb HB.out))); (case aL => have := LMc2.out; omega); intro v624 w5 ho hb hg hat; rw [← Ny623.out] at ho; have n0_ := ak (hb); have n1_ := ak (ho); clear HB; clear HO622; have HB := n0_; have HO625 := n1_; clear n0_ n1_; clear ho hb hg hat))
  go_ret
  exact ⟨_, ew, vr HO625.out, vb HB.out⟩
 ·exact nO_ c2 H


/-! ### spec_l15Away: function 125 -/
def spec_l15Away.f (a0 : Int) (a1 : Int) (a2 : Int) : Option (Int) := some (mx (mx 0 (wrap64 (a1 - a0))) (wrap64 (a0 - a2)))
set_option maxHeartbeats 8000000 in
set_option maxRecDepth 100000 in
theorem spec_l15Away.calls (a0 : Int) (a1 : Int) (a2 : Int) (r : Int) (w : World) (h : spec_l15Away.f a0 a1 a2 = some r) :
  Calls Try.prog 125 #[.int .i64 a0, .int .i64 a1, .int .i64 a2] w fun e w' => e = .returned (.int .i64 r) ∧ Below w.heap.size w w' := by
 have HB := ak (Below.refl w.heap.size w); unfold spec_l15Away.f at h; have H := h; clear h; obtain ⟨ji4, hji4⟩ : ∃ j_ : Int, (mx 0 (wrap64 (a1 - a0))) = j_ := ⟨_, rfl⟩; replace H : (some (mx (ji4) (wrap64 (a0 - a2)))) = some r := by first | (rw [hji4] at H; exact H) | (simp only [hji4] at H ⊢; exact H)
 (try (have hji4l : 0 ≤ ji4 := by (rw [← hji4]; unfold mx; (repeat' split) <;> omega)))
 (try (have hji4m : 0 ≤ ji4 := by omega))
 have hji4_ : (if 0 < (wrap64 (a1 - a0)) then (wrap64 (a1 - a0)) else 0) = ji4 := hji4; obtain ⟨ji5, hji5⟩ : ∃ j_ : Int, (mx (ji4) (wrap64 (a0 - a2))) = j_ := ⟨_, rfl⟩; replace H : (some ji5) = some r := by first | (rw [hji5] at H; exact H) | (simp only [hji5] at H ⊢; exact H)
 have hji5_ : (if (ji4) < (wrap64 (a0 - a2)) then (wrap64 (a0 - a2)) else (ji4)) = ji5 := hji5; obtain rfl := sj H; go_enter Try.func125, Try.ntmps125; go_wp2
 go_ret
 exact ⟨by first | rfl | (simp [errW_none, errW_some] <;> rfl) | (simp only [← hji4, ← hji5]; first | rfl | (simp [errW_none, errW_some] <;> rfl)) | (simp [*, errW_none, errW_some] <;> rfl), vb HB.out⟩


/-! ### spec_l15Square: function 122 -/
def spec_l15Square.f (a0_0 : Int) (a0_1 : Int) (a0_2 : Int) (a0_3 : Int) (a0_4 : Int) (a1 : Int) (a2 : Int) : Option (Int) := (spec_l15Away.f a1 a0_1 (wrap64 (a0_1 + a0_3))).bind fun t690 => ((spec_l15Away.f a2 a0_2 (wrap64 (a0_2 + a0_4))).bind fun t691 => (some (wrap64 ((wrap64 (t690 * t690)) + (wrap64 (t691 * t691))))))
def spec_l15Square.T1 : Bool × List (List Nat × List Nat) := (true, [([], []), ([], []), ([1], [1]), ([], []), ([3], [3]), ([], []), ([5], [5]), ([4, 6], [4, 6]), ([0, 2, 7], [0, 2, 7]), ([], []), ([], []), ([10], [10]), ([], []), ([12], [12]), ([], []), ([14], [14]), ([13, 15], [13, 15]), ([9, 11, 16, 8], [9, 11, 16]), ([8, 17, 0, 1, 2, 3, 4, 5, 6, 7, 8], [8]), ([17, 18, 0, 1, 2, 3, 4, 5, 6, 7, 8, 9, 10, 11, 12, 13, 14, 15, 16, 17, 18], [17])])
def spec_l15Square.B1 : List Nat := [0, 0, 2, 0, 8, 0, 32, 120, 255, 0, 0, 1024, 0, 4096, 0, 16384, 61440, 131071, 262143, 524287]
theorem spec_l15Square.tab1 : rtab .any (opsOf Try.f122 1) = spec_l15Square.T1 := by kernel_rfl
theorem spec_l15Square.bits1 : waitsOk spec_l15Square.T1.2 spec_l15Square.B1 = true := by kernel_rfl
set_option maxHeartbeats 8000000 in
set_option maxRecDepth 100000 in
theorem spec_l15Square.calls (a0_0 : Int) (a0_1 : Int) (a0_2 : Int) (a0_3 : Int) (a0_4 : Int) (a1 : Int) (a2 : Int) (r : Int) (w : World) (h : spec_l15Square.f a0_0 a0_1 a0_2 a0_3 a0_4 a1 a2 = some r) :
  Calls Try.prog 122 #[.agg #[.int .i64 a0_0, .int .i64 a0_1, .int .i64 a0_2, .int .i64 a0_3, .int .i64 a0_4], .int .i64 a1, .int .i64 a2] w fun e w' => e = .returned (.int .i64 r) ∧ Below w.heap.size w w' := by
 have hu69 := Try.underlying69; have HB := ak (Below.refl w.heap.size w); unfold spec_l15Square.f at h; have H := h; clear h; obtain ⟨t690, A4, H⟩ := bnk H; obtain ⟨t691, A5, H⟩ := bnk H; obtain rfl := sj H; go_enter Try.func122, Try.ntmps122; (try go_wp2_with (first | ((with_reducible refine gate_dst (N := 3) rfl ?_); refine bx 3 #[.int .i64 a0_0, .int .i64 a0_1, .int .i64 a0_2, .int .i64 a0_3, .int .i64 a0_4] 69 ?_; intro gb689 hg w6 hbox hb; have BK689 := ak hbox; have GW689 := gw hg HB; have GE689 := gw hg HB; replace HB := bs HB hb; clear hb hbox hg)))
 replace BK689 := ak (blk_drew BK689.out); replace HB := ak (below_drew1 HB.out); refine start_ (n := 20) (S := fun w' => w'.cell? ⟨gb689, 0, none⟩ = some (.int .i64 a0_0) ∧ w'.cell? ⟨gb689, 1, none⟩ = some (.int .i64 a0_1) ∧ w'.cell? ⟨gb689, 2, none⟩ = some (.int .i64 a0_2) ∧ w'.cell? ⟨gb689, 3, none⟩ = some (.int .i64 a0_3) ∧ w'.cell? ⟨gb689, 4, none⟩ = some (.int .i64 a0_4)) (ds := []) (tf 0 20) (by kernel_rfl) rfl rfl (cy5 BK689.out) (fun hHeld => ?_); refine with_tabW spec_l15Square.tab1 spec_l15Square.bits1 (fun HT_ HW_ => ?_); generalize w6.drew = w7 at BK689 HB hHeld ⊢; refine pu_ 0 9 (tf 1 19) rfl rfl ?_; refine pu_ 1 10 (tf 2 18) rfl rfl ?_; refine pu_ 3 12 (tM [2, 1, 1, 16]) rfl rfl ?_; refine pu_ 5 14 (tM [2, 1, 1, 1, 1, 14]) rfl rfl ?_; refine pu_ 9 18 (tM [2, 1, 1, 1, 1, 3, 1, 10]) rfl rfl ?_; refine pu_ 10 19 (tM [2, 1, 1, 1, 1, 3, 2, 9]) rfl rfl ?_; refine pu_ 12 21 (tM [2, 1, 1, 1, 1, 3, 2, 1, 1, 7]) rfl rfl ?_; refine pu_ 14 23 (tM [2, 1, 1, 1, 1, 3, 2, 1, 1, 1, 1, 5]) rfl rfl ?_
 refine ta5_ 2 11 (tM [4, 1, 1, 3, 2, 1, 1, 1, 1, 5]) rfl rfl ?_; refine ta5_ 4 13 (tM [6, 3, 2, 1, 1, 1, 1, 5]) rfl rfl ?_; refine ta5_ 6 15 (tM [7, 2, 2, 1, 1, 1, 1, 5]) rfl rfl ?_; refine pu_ 7 16 (tM [8, 1, 2, 1, 1, 1, 1, 5]) rfl rfl ?_; refine ta5_ 11 20 (tM [8, 1, 4, 1, 1, 5]) rfl rfl ?_; refine ta5_ 13 22 (tM [8, 1, 6, 5]) rfl rfl ?_; refine ta5_ 15 24 (tM [8, 1, 7, 4]) rfl rfl ?_; refine pu_ 16 25 (tM [8, 1, 8, 3]) rfl rfl ?_; refine one_ (i := 8) (N := some 17) (tf 17 3) rfl rfl (one_of HT_.out (by kernel_rfl)) (by decide) (fun K hK => ?_); refine goes_ Try.func125 (by kernel_rfl) rfl #[.int .i64 a1, .int .i64 a0_1, .int .i64 (wrap64 (a0_1 + a0_3))] (by rfl) rfl rfl (by (try simp only [List.map_toArray, List.map_cons, List.map_nil]); first | done | rfl | (simp only [List.length_drop, List.length_take]; rfl)) ?_
 with_reducible refine (spec_l15Away.calls a1 a0_1 (wrap64 (a0_1 + a0_3)) t690 _ A4.out).mono ?_
 rintro e w8 ⟨rfl, hb⟩; refine ⟨_, rfl, ?_⟩; replace BK689 := kb BK689 hb; replace HB := bs HB hb; (try clear hb)
 (try clear hb2)
 (try clear hk)
 (try clear hi)
 refine hK.out _ _ (cy5 BK689.out) (fun hHeld => ?_); clear hK K; refine norm_ (a' := ?_) ?_ ?_
 rotate_left
 ·show Act.put _ (some 17) _ = _
  simp only [Act.put, List.setIfInBounds_toArray, List.set_cons_zero, List.set_cons_succ, i64_w, i32_w]
  rfl
 refine one_ (i := 17) (N := some 26) (tf 18 2) rfl rfl (one_of HT_.out (by kernel_rfl)) (by decide) (fun K hK => ?_); refine goes_ Try.func125 (by kernel_rfl) rfl #[.int .i64 a2, .int .i64 a0_2, .int .i64 (wrap64 (a0_2 + a0_4))] (by rfl) rfl rfl (by (try simp only [List.map_toArray, List.map_cons, List.map_nil]); first | done | rfl | (simp only [List.length_drop, List.length_take]; rfl)) ?_; with_reducible refine (spec_l15Away.calls a2 a0_2 (wrap64 (a0_2 + a0_4)) t691 _ A5.out).mono ?_
 rintro e w9 ⟨rfl, hb⟩; refine ⟨_, rfl, ?_⟩; replace BK689 := kb BK689 hb; replace HB := bs HB hb; (try clear hb)
 (try clear hb2)
 (try clear hk)
 (try clear hi)
 refine hK.out _ _ (cy5 BK689.out) (fun hHeld => ?_); clear hK K; refine norm_ (a' := ?_) ?_ ?_
 rotate_left
 ·show Act.put _ (some 26) _ = _
  simp only [Act.put, List.setIfInBounds_toArray, List.set_cons_zero, List.set_cons_succ, i64_w, i32_w]
  rfl
 refine pu_ 18 7 (tf 19 1) rfl rfl ?_; refine pu_ 19 8 (tf 20 0) rfl rfl ?_; refine done_ (done_of HT_.out (by kernel_rfl)) ?_; (try go_wp2)
 go_ret
 exact ⟨ew, vb HB.out⟩


end Go.Proofs.Ytiblahniohjbbaa.Pall
