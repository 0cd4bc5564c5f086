/- Go functions of the program, each as a Lean function, and the proof that each call comes to what the Lean function tells; no condition beyond those that stand there. -/
import Derived.Test.YtancnecddlbhkaaF00
import Derived.Test.YtancnecddlbhkaaF04
import Derived.Test.YtancnecddlbhkaaF05
import Derived.Test.YtancnecddlbhkaaSq
import Derived.Test.YtancnecddlbhkaaWGuard
import Derived.Test.YtancnecddlbhkaaWLast
import Derived.Test.YtancnecddlbhkaaWRepsOne
import Derived.Test.YtancnecddlbhkaaWTab
import Derived.Test.YtancnecddlbhkaaCm
import Derived.Test.YtancnecddlbhkaaCm3
namespace Go.Proofs.Ytancnecddlbhkaa.Pall
open Go.RowKit Go.Proofs.YtancnecddlbhkaaW.PrintWords Go.Proofs.YtancnecddlbhkaaW.PrintLast
set_option linter.unusedVariables false
set_option linter.unusedSimpArgs false

/-! ### impl_hasPlacing: function 89 -/
mutual
def impl_hasPlacing.l0 : Nat → List Int → Int → Int → Int → List (S98) → List (S103) → List Int → List Int → List Int → Int → Option (Bool)
 | 0, _, _, _, _, _, _, _, _, _, _ => none
 | k + 1, x1, x5, x16, x17, x1154000, x1154001, x1154002, x1154003, x1154004, x1154005 => if x17 < x16 then ((impl_isFree.f k x1154000 x1154001 x1154002 x1154003 x1154004 x1154005 x1 x5 x17).bind fun t1154 => (if t1154 = true then ((impl_copyList.f x1).bind fun t1155 => ((some (([x17] : List Int) : List Int)).bind fun y1158 => (if t1155.length + y1158.length < 17592186044416 then ((impl_hasPlacing.f k x1154000 x1154001 x1154002 x1154003 x1154004 x1154005 (t1155 ++ y1158)).bind fun t1164 => (if t1164 = true then (some true) else (impl_hasPlacing.l0 k x1 x5 x16 (wrap64 (x17 + 1)) x1154000 x1154001 x1154002 x1154003 x1154004 x1154005))) else (none)))) else (impl_hasPlacing.l0 k x1 x5 x16 (wrap64 (x17 + 1)) x1154000 x1154001 x1154002 x1154003 x1154004 x1154005))) else (some false)
def impl_hasPlacing.f : Nat → List (S98) → List (S103) → List Int → List Int → List Int → Int → List Int → Option (Bool)
 | 0, _, _, _, _, _, _, _ => none
 | k + 1, l0_0, l0_1, l0_2, l0_3, l0_4, a0_5, l1 => if (l1.length : Int) = (l0_2.length : Int) then (some true) else (impl_hasPlacing.l0 k l1 (l1.length : Int) (l0_3.length : Int) 0 l0_0 l0_1 l0_2 l0_3 l0_4 a0_5)
end
theorem impl_hasPlacing.mono_l : ∀ k, (∀ y0 y1 y2 y3 y4 y5 y6, LeO (impl_hasPlacing.f k y0 y1 y2 y3 y4 y5 y6) (impl_hasPlacing.f (k + 1) y0 y1 y2 y3 y4 y5 y6)) ∧ (∀ y0 y1 y2 y3 y4 y5 y6 y7 y8 y9, LeO (impl_hasPlacing.l0 k y0 y1 y2 y3 y4 y5 y6 y7 y8 y9) (impl_hasPlacing.l0 (k + 1) y0 y1 y2 y3 y4 y5 y6 y7 y8 y9))
 | 0 => ⟨fun _ _ _ _ _ _ _ r h => by simp [impl_hasPlacing.f] at h, fun _ _ _ _ _ _ _ _ _ _ r h => by simp [impl_hasPlacing.l0] at h⟩
 | k + 1 => by
  obtain ⟨ih0, ih1⟩ := impl_hasPlacing.mono_l k; refine ⟨?_, ?_⟩
  ·intro y0 y1 y2 y3 y4 y5 y6; unfold impl_hasPlacing.f
   repeat' first | (with_reducible first | exact ih0 _ _ _ _ _ _ _ | exact ih1 _ _ _ _ _ _ _ _ _ _ | exact impl_isFree.mono _ _ _ _ _ _ _ _ _ _ | exact LeO.refl _ | exact LeO.none _ | refine LeO.ite ?_ ?_ | refine LeO.bind ?_ (fun _ => ?_)) | exact ih0 _ _ _ _ _ _ _ | exact ih1 _ _ _ _ _ _ _ _ _ _ | exact impl_isFree.mono _ _ _ _ _ _ _ _ _ _ | exact LeO.none _ | refine LeO.ite ?_ ?_ | refine LeO.bind ?_ (fun _ => ?_)
  ·intro y0 y1 y2 y3 y4 y5 y6 y7 y8 y9; unfold impl_hasPlacing.l0
   repeat' first | (with_reducible first | exact ih0 _ _ _ _ _ _ _ | exact ih1 _ _ _ _ _ _ _ _ _ _ | exact impl_isFree.mono _ _ _ _ _ _ _ _ _ _ | exact LeO.refl _ | exact LeO.none _ | refine LeO.ite ?_ ?_ | refine LeO.bind ?_ (fun _ => ?_)) | exact ih0 _ _ _ _ _ _ _ | exact ih1 _ _ _ _ _ _ _ _ _ _ | exact impl_isFree.mono _ _ _ _ _ _ _ _ _ _ | exact LeO.none _ | refine LeO.ite ?_ ?_ | refine LeO.bind ?_ (fun _ => ?_)
theorem impl_hasPlacing.mono : ∀ a0 a1 a2 a3 a4 a5 a6 k, LeO (impl_hasPlacing.f k a0 a1 a2 a3 a4 a5 a6) (impl_hasPlacing.f (k + 1) a0 a1 a2 a3 a4 a5 a6) := by
 intro a0 a1 a2 a3 a4 a5 a6 k; obtain ⟨ih0, ih1⟩ := impl_hasPlacing.mono_l k; exact ih0 a0 a1 a2 a3 a4 a5 a6
def impl_hasPlacing.T7 : Bool × List (List Nat × List Nat) := (true, [([], []), ([], []), ([], []), ([], []), ([0, 1, 2, 3], [0, 1, 2, 3]), ([4, 4], [4]), ([5], [5]), ([5], [5]), ([7, 5, 5], [5, 7]), ([5], [5]), ([9, 5], [5, 9]), ([8, 10, 8, 5], [5, 8, 10]), ([6, 11, 11, 5], [5, 6, 11]), ([5, 12], [5, 12])])
def impl_hasPlacing.B7 : List Nat := [0, 0, 0, 0, 15, 31, 63, 63, 191, 63, 575, 1983, 4095, 8191]
theorem impl_hasPlacing.tab7 : rtab .any (opsOf Try.f89 7) = impl_hasPlacing.T7 := by kernel_rfl
theorem impl_hasPlacing.bits7 : waitsOk impl_hasPlacing.T7.2 impl_hasPlacing.B7 = true := by kernel_rfl
set_option maxHeartbeats 8000000 in
set_option maxRecDepth 100000 in
theorem impl_hasPlacing.calls (k : Nat) : ∀ (A0_0 : Option Addr) (c0_0 : Nat) (l0_0 : List (S98)) (A0_1 : Option Addr) (c0_1 : Nat) (l0_1 : List (S103)) (A0_2 : Option Addr) (c0_2 : Nat) (l0_2 : List Int) (A0_3 : Option Addr) (c0_3 : Nat) (l0_3 : List Int) (A0_4 : Option Addr) (c0_4 : Nat) (l0_4 : List Int) (a0_5 : Int) (A1 : Option Addr) (c1 : Nat) (l1 : List Int) (r : Bool) (w : World) (hr0_0 : Kd.C k98 w A0_0 l0_0.length l0_0) (hc0_0 : l0_0.length ≤ c0_0) (hr0_1 : Kd.C k103 w A0_1 l0_1.length l0_1) (hc0_1 : l0_1.length ≤ c0_1) (hr0_2 : Kd.C (Kd.int .i64) w A0_2 l0_2.length l0_2) (hc0_2 : l0_2.length ≤ c0_2) (hr0_3 : Kd.C (Kd.int .i64) w A0_3 l0_3.length l0_3) (hc0_3 : l0_3.length ≤ c0_3) (hr0_4 : Kd.C (Kd.int .i64) w A0_4 l0_4.length l0_4) (hc0_4 : l0_4.length ≤ c0_4) (hr1 : Kd.C (Kd.int .i64) w A1 l1.length l1) (hc1 : l1.length ≤ c1) (h : impl_hasPlacing.f k l0_0 l0_1 l0_2 l0_3 l0_4 a0_5 l1 = some r),
  Calls Try.prog 89 #[.agg #[.slice A0_0 l0_0.length c0_0, .slice A0_1 l0_1.length c0_1, .slice A0_2 l0_2.length c0_2, .slice A0_3 l0_3.length c0_3, .slice A0_4 l0_4.length c0_4, .int .i64 a0_5], .slice A1 l1.length c1] w fun e w' => e = .returned (.bool r) ∧ Below w.heap.size w w' := by
 induction k using Nat.strongRecOn with
 | _ k ih =>
 intro A0_0 c0_0 l0_0 A0_1 c0_1 l0_1 A0_2 c0_2 l0_2 A0_3 c0_3 l0_3 A0_4 c0_4 l0_4 a0_5 A1 c1 l1 r w hr0_0 hc0_0 hr0_1 hc0_1 hr0_2 hc0_2 hr0_3 hc0_3 hr0_4 hc0_4 hr1 hc1 h
 cases k with
 | zero => exact absurd h (by simp [impl_hasPlacing.f])
 | succ k =>
 simp only [impl_hasPlacing.f] at h
 have hu33 := Try.underlying33; have HR0_0 := ak hr0_0; have HC0_0 := ak hc0_0; clear hr0_0 hc0_0; have HR0_1 := ak hr0_1; have HC0_1 := ak hc0_1; clear hr0_1 hc0_1; have HR0_2 := ak hr0_2; have HC0_2 := ak hc0_2; clear hr0_2 hc0_2; have HR0_3 := ak hr0_3; have HC0_3 := ak hc0_3; clear hr0_3 hc0_3; have HR0_4 := ak hr0_4; have HC0_4 := ak hc0_4; clear hr0_4 hc0_4; have HR1 := ak hr1; have HC1 := ak hc1; clear hr1 hc1; have HB := ak (Below.refl w.heap.size w); have H := h; clear h; by_cases c3 : (l1.length : Int) = (l0_2.length : Int)
 ·rw [if_pos c3] at H; obtain ⟨c3b0, c3b1⟩ := bqt c3; have c3b2 : (l1.length == l0_2.length) = true := by first | simpa using c3 | (simp at c3 ⊢; omega)
  clear c3; obtain rfl := Option.some.inj H; go_enter Try.func89, Try.ntmps89; go_wp2_with (first | ((with_reducible refine gate_dst (N := 2) rfl ?_); (try (refine gate_guard (by rfl) ?_; dsimp only)); refine bx 2 #[.slice A0_0 l0_0.length c0_0, .slice A0_1 l0_1.length c0_1, .slice A0_2 l0_2.length c0_2, .slice A0_3 l0_3.length c0_3, .slice A0_4 l0_4.length c0_4, .int .i64 a0_5] 33 ?_; intro gb1153 hg w4 hbox hb; have BK1153 := ak hbox; have GW1153 := gw hg HB; have GE1153 := gw hg HB; replace HB := bs HB hb; clear hb hbox hg; have hcz5 := cz6 BK1153.out))
  go_ret
  exact ⟨ew, vb HB.out⟩
 ·rw [if_neg c3] at H; obtain ⟨c3b0, c3b1⟩ := bqf c3; have c3b2 : (l1.length == l0_2.length) = false := by first | simpa using c3 | (simp at c3 ⊢; omega)
  have H' := ak H; clear H; go_enter Try.func89, Try.ntmps89; go_wp2_with (first | ((with_reducible refine gate_dst (N := 2) rfl ?_); (try (refine gate_guard (by rfl) ?_; dsimp only)); refine bx 2 #[.slice A0_0 l0_0.length c0_0, .slice A0_1 l0_1.length c0_1, .slice A0_2 l0_2.length c0_2, .slice A0_3 l0_3.length c0_3, .slice A0_4 l0_4.length c0_4, .int .i64 a0_5] 33 ?_; intro gb1153 hg w6 hbox hb; have BK1153 := ak hbox; have GW1153 := gw hg HB; have GE1153 := gw hg HB; replace HB := bs HB hb; clear hb hbox hg; have hcz7 := cz6 BK1153.out))
  go_loopg [17] k (fun kq v17 w' => ∃ (x17_1 : Int), v17 = .int .i64 x17_1 ∧ Aside0 (impl_hasPlacing.l0 kq l1 (l1.length : Int) (l0_3.length : Int) x17_1 l0_0 l0_1 l0_2 l0_3 l0_4 a0_5 = some r) ∧ Aside0 (kq ≤ k) ∧ Aside0 (w'.heap[gb1153]? = some (.cells #[(.slice A0_0 l0_0.length c0_0), (.slice A0_1 l0_1.length c0_1), (.slice A0_2 l0_2.length c0_2), (.slice A0_3 l0_3.length c0_3), (.slice A0_4 l0_4.length c0_4), .int .i64 a0_5] 33 (0, 0))) ∧ Aside0 (Below w.heap.size w w'))
  case atStart => exact ⟨(0), (by first | rfl | (simp; done) | (simp [*]; done)), H', ⟨Nat.le_refl _⟩, ⟨vk BK1153.out⟩, ⟨vb HB.out⟩⟩
  case round =>
   clear H'; (try clear c1); (try clear p2); (try clear c3); (try clear c3b0); (try clear c3b1); (try clear c3b2); (try clear hcz5); (try clear hcz7); obtain ⟨x17_1, rfl, HA, HK1, BK1153, HB⟩ := hrel
   cases gk with
   | zero => exact absurd HA.out (by simp [impl_hasPlacing.l0])
   | succ k1 =>
    have H := HA.out; clear HA; simp only [impl_hasPlacing.l0] at H
    by_cases c8 : x17_1 < (l0_3.length : Int)
    ·rw [if_pos c8] at H; have c8b0 := decide_eq_true c8; clear c8; obtain ⟨t1154, A9, H⟩ := bnk H; by_cases c10 : t1154 = true
     ·subst c10; rw [if_pos rfl] at H; obtain ⟨t1155, A11, H⟩ := bnk H; obtain ⟨y1158, Ny1158, H⟩ := bnE H; by_cases c12 : t1155.length + y1158.length < 17592186044416
      ·rw [if_pos c12] at H; have LMc12 := ak c12; clear c12; obtain ⟨y1161, hy1161⟩ := gen_ ((t1155 ++ y1158 : List Int)); rw [← hy1161] at H; have Ny1161 := ak hy1161; clear hy1161; obtain ⟨t1164, A13, H⟩ := bnk H; by_cases c14 : t1164 = true
       ·subst c14; rw [if_pos rfl] at H; obtain rfl := Option.some.inj H; (try go_wp2)
        replace BK1153 := ak (blk_drew BK1153.out); replace HB := ak (below_drew1 HB.out); refine start_ (n := 14) (S := fun w' => w'.cell? ⟨gb1153, 0, none⟩ = some (.slice A0_0 l0_0.length c0_0) ∧ w'.cell? ⟨gb1153, 1, none⟩ = some (.slice A0_1 l0_1.length c0_1) ∧ w'.cell? ⟨gb1153, 2, none⟩ = some (.slice A0_2 l0_2.length c0_2) ∧ w'.cell? ⟨gb1153, 3, none⟩ = some (.slice A0_3 l0_3.length c0_3) ∧ w'.cell? ⟨gb1153, 4, none⟩ = some (.slice A0_4 l0_4.length c0_4) ∧ w'.cell? ⟨gb1153, 5, none⟩ = some (.int .i64 a0_5)) (ds := []) (tf 0 14) (by kernel_rfl) rfl rfl (cy6 BK1153.out) (fun hHeld => ?_); refine with_tabW impl_hasPlacing.tab7 impl_hasPlacing.bits7 (fun HT_ HW_ => ?_); generalize wr.drew = w15 at BK1153 HB hHeld ⊢; refine pu_ 1 21 #[false, true, false, false, false, false, false, false, false, false, false, false, false, false] rfl rfl ?_; refine pu_ 2 22 #[false, true, true, false, false, false, false, false, false, false, false, false, false, false] rfl rfl ?_; refine pu_ 3 23 #[false, true, true, true, false, false, false, false, false, false, false, false, false, false] rfl rfl ?_; refine ta6_ 0 20 (tf 4 10) rfl rfl ?_; refine one_ (i := 4) (N := some 24) (tf 5 9) rfl rfl (one_of HT_.out (by kernel_rfl)) (by decide) (fun K hK => ?_); refine goes_ Try.func113 (by kernel_rfl) rfl #[.agg #[.slice A0_0 l0_0.length c0_0, .slice A0_1 l0_1.length c0_1, .slice A0_2 l0_2.length c0_2, .slice A0_3 l0_3.length c0_3, .slice A0_4 l0_4.length c0_4, .int .i64 a0_5], .slice A1 l1.length c1, .int .i64 (l1.length : Int), .int .i64 x17_1] (by rfl) rfl rfl (by (try simp only [List.map_toArray, List.map_cons, List.map_nil]); first | done | rfl | (simp only [List.length_drop, List.length_take]; rfl)) ?_
        with_reducible refine (impl_isFree.calls k1 _ _ l0_0 _ _ l0_1 _ _ l0_2 _ _ l0_3 _ _ l0_4 a0_5 _ _ l1 (l1.length : Int) x17_1 true _ ?side1 ?side2 ?side3 ?side4 ?side5 ?side6 ?side7 ?side8 ?side9 ?side10 ?side11 ?side12 A9.out).mono ?_
        (case side1 => exact vd HR0_0.out HB.out)
        (case side2 => exact HC0_0.out)
        (case side3 => exact vd HR0_1.out HB.out)
        (case side4 => exact HC0_1.out)
        (case side5 => exact vd HR0_2.out HB.out)
        (case side6 => exact HC0_2.out)
        (case side7 => exact vd HR0_3.out HB.out)
        (case side8 => exact HC0_3.out)
        (case side9 => exact vd HR0_4.out HB.out)
        (case side10 => exact HC0_4.out)
        (case side11 => exact vd HR1.out HB.out)
        (case side12 => exact HC1.out)
        rintro e w16 ⟨rfl, hb⟩; refine ⟨_, rfl, ?_⟩; replace BK1153 := kb BK1153 hb; replace HB := bs HB hb; (try clear hb)
        (try clear hb2)
        (try clear hk)
        (try clear hi)
        refine hK.out _ _ (cy6 BK1153.out) (fun hHeld => ?_); clear hK K; refine norm_ (a' := ?_) ?_ ?_
        rotate_left
        ·show Act.put _ (some 24) _ = _
         simp only [Act.put, List.setIfInBounds_toArray, List.set_cons_zero, List.set_cons_succ, i64_w, i32_w]
         rfl
        refine pu_ 5 25 (tf 6 8) rfl rfl ?_; refine pu_ 7 27 #[true, true, true, true, true, true, false, true, false, false, false, false, false, false] rfl rfl ?_; refine pu_ 9 29 #[true, true, true, true, true, true, false, true, false, true, false, false, false, false] rfl rfl ?_; refine ta6_ 6 26 #[true, true, true, true, true, true, true, true, false, true, false, false, false, false] rfl rfl ?_; refine join_ (σ := Value × Value) 3 (tf 11 3) (fun s_ => [(28, s_.1), (30, s_.2)]) (fun s_ w' => (w'.cell? ⟨gb1153, 0, none⟩ = some (.slice A0_0 l0_0.length c0_0) ∧ w'.cell? ⟨gb1153, 1, none⟩ = some (.slice A0_1 l0_1.length c0_1) ∧ w'.cell? ⟨gb1153, 2, none⟩ = some (.slice A0_2 l0_2.length c0_2) ∧ w'.cell? ⟨gb1153, 3, none⟩ = some (.slice A0_3 l0_3.length c0_3) ∧ w'.cell? ⟨gb1153, 4, none⟩ = some (.slice A0_4 l0_4.length c0_4) ∧ w'.cell? ⟨gb1153, 5, none⟩ = some (.int .i64 a0_5)) ∧ (Kd.R (Kd.int .i64) 2 w' w.heap.size (fun k_ => some k_ ≠ (s_.2 : Value).ownBlock) s_.1 t1155) ∧ (Kd.R (Kd.int .i64) 2 w' w.heap.size (fun k_ => some k_ ≠ (s_.1 : Value).ownBlock) s_.2 y1158) ∧ (w'.heap[gb1153]? = some (.cells #[.slice A0_0 l0_0.length c0_0, .slice A0_1 l0_1.length c0_1, .slice A0_2 l0_2.length c0_2, .slice A0_3 l0_3.length c0_3, .slice A0_4 l0_4.length c0_4, .int .i64 a0_5] 33 (0, 0))) ∧ (Below w.heap.size w w')) ?_ ?_
        rotate_left
        ·intro hCont; refine two_ (i := 8) (j := 10) (Ni := some 28) (Nj := some 30) (tf 10 4) #[true, true, true, true, true, true, true, true, false, true, true, false, false, false] rfl rfl rfl rfl (two_of HT_.out (by kernel_rfl)) (by decide) (by decide) (fun K hK => ?_) (fun K hK => ?_)
         ·skip
          refine goes_ Try.func91 (by kernel_rfl) rfl #[.slice A1 l1.length c1] (by rfl) rfl rfl (by (try simp only [List.map_toArray, List.map_cons, List.map_nil]); first | done | rfl | (simp only [List.length_drop, List.length_take]; rfl)) ?_; with_reducible refine (impl_copyList.calls _ _ l1 t1155 _ ?side1 ?side2 A11.out).mono ?_
          (case side1 => exact vd HR1.out HB.out)
          (case side2 => exact HC1.out)
          rintro e w17 ⟨v1156, rfl, ho0, hb⟩; refine ⟨_, rfl, ?_⟩; have HO1157 := ak (Kd.R_lower ho0 (below_size (vb HB.out))); replace BK1153 := kb BK1153 hb; replace HB := bs HB hb; (try clear hb)
          (try clear hb2)
          (try clear hk)
          (try clear hi)
          (try clear ho0)
          refine hK.out _ _ (cy6 BK1153.out) (fun hHeld => ?_); clear hK K; refine norm_ (a' := ?_) ?_ ?_
          rotate_left
          ·show Act.put _ (some 28) _ = _
           simp only [Act.put, List.setIfInBounds_toArray, List.set_cons_zero, List.set_cons_succ, i64_w, i32_w]
           rfl
          refine one_ (i := 10) (N := some 30) (tf 11 3) rfl rfl (one_of HT_.out (by kernel_rfl)) (by decide) (fun K hK => ?_); refine Kd.R_lit_step (Kd.int .i64) _ 2 ?hg (N := 30) ?hd (xs := ([x17_1] : List Int)) (inner := [.int .i64 x17_1]) (ok := fun _ => True) (okp := fun _ => True) ?hr ?hp (fun _ hk => hk) trivial (Below.refl _ _) (Nat.le_refl _) (by simp) ?_; (case hd => rfl); (case hg => rfl); (case hr => first | (go_simp; done) | (go_simp; rfl)); (case hp => exact (Reps.one (show Kd.M (Kd.int .i64) _ _ _ x17_1 [.int .i64 x17_1] from rfl) (Reps.none _ _))); intro v1159 w18 ho19 hb hg_ hnew_; clear hg_ hnew_; (first | rw [← Ny1158.out] at ho19 | (simp only [Int.reduceToNat] at ho19; rw [← Ny1158.out] at ho19))
          have HO1160 := ak (Kd.R_lower (Kd.R_new' ho19 (Kd.R_lt (vr HO1157.out))) (below_size (vb HB.out))); replace HO1157 := ak (Kd.R_elder' (vr HO1157.out) (Kd.R_base ho19) hb); replace BK1153 := kb BK1153 hb; replace HB := bs HB hb; clear hb ho19; refine hK.out _ _ (cy6 BK1153.out) (fun hHeld => ?_); clear hK K; refine norm_ (a' := ?_) ?_ ?_
          rotate_left
          ·show Act.put _ (some 30) _ = _
           simp only [Act.put, List.setIfInBounds_toArray, List.set_cons_zero, List.set_cons_succ, i64_w, i32_w]
           rfl
          exact norm_ (by simp only [putAll, Act.put, List.setIfInBounds_toArray, List.set_cons_zero, List.set_cons_succ]) (hCont (v1156, v1159) _ ⟨hHeld, (by (with_reducible repeat (first | apply Kd.R_alloc | apply Kd.R_drewN | apply Kd.R_drew)); exact Kd.R_mono HO1157.out (fun _ hk => hk.2)), (by (with_reducible repeat (first | apply Kd.R_alloc | apply Kd.R_drewN | apply Kd.R_drew)); exact Kd.R_mono HO1160.out (fun _ hk => hk.2)), (vk BK1153.out), (vb HB.out)⟩)
         ·skip
          refine Kd.R_lit_step (Kd.int .i64) _ 2 ?hg (N := 30) ?hd (xs := ([x17_1] : List Int)) (inner := [.int .i64 x17_1]) (ok := fun _ => True) (okp := fun _ => True) ?hr ?hp (fun _ hk => hk) trivial (Below.refl _ _) (Nat.le_refl _) (by simp) ?_; (case hd => rfl); (case hg => rfl); (case hr => first | (go_simp; done) | (go_simp; rfl)); (case hp => exact (Reps.one (show Kd.M (Kd.int .i64) _ _ _ x17_1 [.int .i64 x17_1] from rfl) (Reps.none _ _))); intro v1159 w17 ho18 hb hg_ hnew_; clear hg_ hnew_; (first | rw [← Ny1158.out] at ho18 | (simp only [Int.reduceToNat] at ho18; rw [← Ny1158.out] at ho18))
          have HO1160 := ak (Kd.R_lower ho18 (below_size (vb HB.out))); replace BK1153 := kb BK1153 hb; replace HB := bs HB hb; clear hb ho18; refine hK.out _ _ (cy6 BK1153.out) (fun hHeld => ?_); clear hK K; refine norm_ (a' := ?_) ?_ ?_
          rotate_left
          ·show Act.put _ (some 30) _ = _
           simp only [Act.put, List.setIfInBounds_toArray, List.set_cons_zero, List.set_cons_succ, i64_w, i32_w]
           rfl
          refine one_ (i := 8) (N := some 28) (tf 11 3) rfl rfl (one_of HT_.out (by kernel_rfl)) (by decide) (fun K hK => ?_); refine goes_ Try.func91 (by kernel_rfl) rfl #[.slice A1 l1.length c1] (by rfl) rfl rfl (by (try simp only [List.map_toArray, List.map_cons, List.map_nil]); first | done | rfl | (simp only [List.length_drop, List.length_take]; rfl)) ?_; with_reducible refine (impl_copyList.calls _ _ l1 t1155 _ ?side1 ?side2 A11.out).mono ?_
          (case side1 => exact vd HR1.out HB.out)
          (case side2 => exact HC1.out)
          rintro e w19 ⟨v1156, rfl, ho0, hb⟩; refine ⟨_, rfl, ?_⟩; have HO1157 := ak (Kd.R_lower (Kd.R_new' ho0 (Kd.R_lt (vr HO1160.out))) (below_size (vb HB.out))); replace HO1160 := ak (Kd.R_elder' (vr HO1160.out) (Kd.R_base ho0) hb); replace BK1153 := kb BK1153 hb; replace HB := bs HB hb; (try clear hb)
          (try clear hb2)
          (try clear hk)
          (try clear hi)
          (try clear ho0)
          refine hK.out _ _ (cy6 BK1153.out) (fun hHeld => ?_); clear hK K; refine norm_ (a' := ?_) ?_ ?_
          rotate_left
          ·show Act.put _ (some 28) _ = _
           simp only [Act.put, List.setIfInBounds_toArray, List.set_cons_zero, List.set_cons_succ, i64_w, i32_w]
           rfl
          exact norm_ (by simp only [putAll, Act.put, List.setIfInBounds_toArray, List.set_cons_zero, List.set_cons_succ]) (hCont (v1156, v1159) _ ⟨hHeld, (by (with_reducible repeat (first | apply Kd.R_alloc | apply Kd.R_drewN | apply Kd.R_drew)); exact Kd.R_mono HO1157.out (fun _ hk => hk.2)), (by (with_reducible repeat (first | apply Kd.R_alloc | apply Kd.R_drewN | apply Kd.R_drew)); exact Kd.R_mono HO1160.out (fun _ hk => hk.2)), (vk BK1153.out), (vb HB.out)⟩)
        rintro ⟨v1156, v1159⟩ w20 ⟨hS_, h0_, h1_, h2_, h3_⟩; have n0_ : Aside0 (Kd.R (Kd.int .i64) 2 w20 w.heap.size (fun k_ => some k_ ≠ (v1159 : Value).ownBlock) v1156 t1155) := ⟨h0_⟩; have n1_ : Aside0 (Kd.R (Kd.int .i64) 2 w20 w.heap.size (fun k_ => some k_ ≠ (v1156 : Value).ownBlock) v1159 y1158) := ⟨h1_⟩; have n2_ : Aside0 (w20.heap[gb1153]? = some (.cells #[.slice A0_0 l0_0.length c0_0, .slice A0_1 l0_1.length c0_1, .slice A0_2 l0_2.length c0_2, .slice A0_3 l0_3.length c0_3, .slice A0_4 l0_4.length c0_4, .int .i64 a0_5] 33 (0, 0))) := ⟨h2_⟩; have n3_ : Aside0 (Below w.heap.size w w20) := ⟨h3_⟩; clear BK1153; clear HB; clear h0_ h1_ h2_ h3_; have HO1157 := n0_; have HO1160 := n1_; have BK1153 := n2_; have HB := n3_; clear n0_ n1_ n2_ n3_; have hHeld : w20.cell? ⟨gb1153, 0, none⟩ = some (.slice A0_0 l0_0.length c0_0) ∧ w20.cell? ⟨gb1153, 1, none⟩ = some (.slice A0_1 l0_1.length c0_1) ∧ w20.cell? ⟨gb1153, 2, none⟩ = some (.slice A0_2 l0_2.length c0_2) ∧ w20.cell? ⟨gb1153, 3, none⟩ = some (.slice A0_3 l0_3.length c0_3) ∧ w20.cell? ⟨gb1153, 4, none⟩ = some (.slice A0_4 l0_4.length c0_4) ∧ w20.cell? ⟨gb1153, 5, none⟩ = some (.int .i64 a0_5) := hS_; obtain ⟨Ao22, co22, eo22⟩ := Kd.R_slice HO1160.out; (first | subst eo22 | (injection eo22 with f1_ f2_ f3_; have f4_ := f1_.symm; have f5_ := f3_.symm; clear f1_ f2_ f3_; subst f4_; subst f5_))
        refine norm_ (a' := ?_) ?_ ?_
        rotate_left
        ·simp only [putAll, Act.put, List.setIfInBounds_toArray, List.set_cons_zero, List.set_cons_succ]
         rfl
        refine one_ (i := 11) (N := some 31) (tf 12 2) rfl rfl (one_of HT_.out (by kernel_rfl)) (by decide) (fun K hK => ?_); refine Kd.R_append_rows_step (Kd.int .i64) (w0 := w) w.heap.size (by rfl) (.tmp 28) (.tmp 30) 24 2 (.int .i64 0) 8 rfl Try.underlying24 info2 rfl (by decide) (by omega) v1156 t1155 y1158 _ _ _ (fun k_ => some k_ ≠ (.slice Ao22 y1158.length co22 : Value).ownBlock) (fun _ => False) rfl rfl ?aO ?aR (fun _ _ h => h) (fun _ h => h.elim) ?aF ?aB ?aS ?aL ?_; (case aR => repeat (first | exact (Kd.R_reads' HO1160.out).2.2 | (with_reducible refine Kd.C_alloc ?_ _) | (with_reducible refine Kd.C_drewN ?_ _) | (with_reducible refine Kd.C_drew ?_)))
        (case aB => exact (vb HB.out))
        (case aF => exact (fun k_ hk => Kd.fresh' (Kd.R_lt (vr HO1160.out)) k_ hk))
        (case aO => exact (vr HO1157.out))
        (case aS => exact (below_size (vb HB.out)))
        (case aL => have := LMc12.out; omega)
        intro v1162 w21 ho hb hg hat; rw [← Ny1161.out] at ho; have n0_ := ak (blk_grown (g := gb1153) (o := .cells #[.slice A0_0 l0_0.length c0_0, .slice A0_1 l0_1.length c0_1, .slice A0_2 l0_2.length c0_2, .slice A0_3 l0_3.length c0_3, .slice A0_4 l0_4.length c0_4, .int .i64 a0_5] 33 (0, 0)) (vk BK1153.out) hg (Kd.R_ne HO1157.out BK1153.out (by decide))); have n1_ := ak (Kd.R_after (ok := (fun _ => True)) (by (with_reducible repeat (first | apply Kd.R_alloc | apply Kd.R_drewN | apply Kd.R_drew)); exact Kd.R_mono HO1160.out (fun _ hk => ⟨trivial, hk⟩)) hg hat); have n2_ := ak (hb); have n3_ := ak (ho); clear BK1153; clear HO1160; clear HB; clear HO1157; have BK1153 := n0_; have HO1160 := n1_; have HB := n2_; have HO1163 := n3_; clear n0_ n1_ n2_ n3_; clear ho hb hg hat; obtain ⟨Ao23, co23, eo23⟩ := Kd.R_slice HO1163.out; (first | subst eo23 | (injection eo23 with f1_ f2_ f3_; have f4_ := f1_.symm; have f5_ := f3_.symm; clear f1_ f2_ f3_; subst f4_; subst f5_))
        refine hK.out _ _ (cy6 BK1153.out) (fun hHeld => ?_); clear hK K; refine norm_ (a' := ?_) ?_ ?_
        rotate_left
        ·show Act.put _ (some 31) _ = _
         simp only [Act.put, List.setIfInBounds_toArray, List.set_cons_zero, List.set_cons_succ, i64_w, i32_w]
         rfl
        refine one_ (i := 12) (N := some 32) (tf 13 1) rfl rfl (one_of HT_.out (by kernel_rfl)) (by decide) (fun K hK => ?_); refine goes_ Try.func89 (by kernel_rfl) rfl #[.agg #[.slice A0_0 l0_0.length c0_0, .slice A0_1 l0_1.length c0_1, .slice A0_2 l0_2.length c0_2, .slice A0_3 l0_3.length c0_3, .slice A0_4 l0_4.length c0_4, .int .i64 a0_5], .slice Ao23 y1161.length co23] (by rfl) rfl rfl (by (try simp only [List.map_toArray, List.map_cons, List.map_nil]); first | done | rfl | (simp only [List.length_drop, List.length_take]; rfl)) ?_; with_reducible refine (ih k1 (by have := HK1.out; omega) _ _ l0_0 _ _ l0_1 _ _ l0_2 _ _ l0_3 _ _ l0_4 a0_5 _ _ y1161 true _ ?side1 ?side2 ?side3 ?side4 ?side5 ?side6 ?side7 ?side8 ?side9 ?side10 ?side11 ?side12 A13.out).mono ?_
        (case side1 => exact vd HR0_0.out HB.out)
        (case side2 => exact HC0_0.out)
        (case side3 => exact vd HR0_1.out HB.out)
        (case side4 => exact HC0_1.out)
        (case side5 => exact vd HR0_2.out HB.out)
        (case side6 => exact HC0_2.out)
        (case side7 => exact vd HR0_3.out HB.out)
        (case side8 => exact HC0_3.out)
        (case side9 => exact vd HR0_4.out HB.out)
        (case side10 => exact HC0_4.out)
        (case side11 => repeat (first | exact (Kd.R_reads' HO1163.out).2.2 | (with_reducible refine Kd.C_alloc ?_ _) | (with_reducible refine Kd.C_drewN ?_ _) | (with_reducible refine Kd.C_drew ?_)))
        (case side12 => exact (Kd.R_reads' HO1163.out).2.1)
        rintro e w24 ⟨rfl, hb⟩; refine ⟨_, rfl, ?_⟩; replace HO1160 := ak (Kd.R_below (vr HO1160.out) hb); replace HO1163 := ak (Kd.R_below (vr HO1163.out) hb); replace BK1153 := kb BK1153 hb; replace HB := bs HB hb; (try clear hb)
        (try clear hb2)
        (try clear hk)
        (try clear hi)
        refine hK.out _ _ (cy6 BK1153.out) (fun hHeld => ?_); clear hK K; refine norm_ (a' := ?_) ?_ ?_
        rotate_left
        ·show Act.put _ (some 32) _ = _
         simp only [Act.put, List.setIfInBounds_toArray, List.set_cons_zero, List.set_cons_succ, i64_w, i32_w]
         rfl
        refine pu_ 13 33 (tf 14 0) rfl rfl ?_; refine done_ (done_of HT_.out (by kernel_rfl)) ?_; (try go_wp2)
        go_ret
        exact ⟨ew, vb HB.out⟩
       ·replace c14 := Bool.eq_false_iff.mpr c14; subst c14; rw [if_neg nf] at H; have H' := ak H; clear H; (try go_wp2)
        replace BK1153 := ak (blk_drew BK1153.out); replace HB := ak (below_drew1 HB.out); refine start_ (n := 14) (S := fun w' => w'.cell? ⟨gb1153, 0, none⟩ = some (.slice A0_0 l0_0.length c0_0) ∧ w'.cell? ⟨gb1153, 1, none⟩ = some (.slice A0_1 l0_1.length c0_1) ∧ w'.cell? ⟨gb1153, 2, none⟩ = some (.slice A0_2 l0_2.length c0_2) ∧ w'.cell? ⟨gb1153, 3, none⟩ = some (.slice A0_3 l0_3.length c0_3) ∧ w'.cell? ⟨gb1153, 4, none⟩ = some (.slice A0_4 l0_4.length c0_4) ∧ w'.cell? ⟨gb1153, 5, none⟩ = some (.int .i64 a0_5)) (ds := []) (tf 0 14) (by kernel_rfl) rfl rfl (cy6 BK1153.out) (fun hHeld => ?_); refine with_tabW impl_hasPlacing.tab7 impl_hasPlacing.bits7 (fun HT_ HW_ => ?_); generalize wr.drew = w25 at BK1153 HB hHeld ⊢; refine pu_ 1 21 #[false, true, false, false, false, false, false, false, false, false, false, false, false, false] rfl rfl ?_; refine pu_ 2 22 #[false, true, true, false, false, false, false, false, false, false, false, false, false, false] rfl rfl ?_; refine pu_ 3 23 #[false, true, true, true, false, false, false, false, false, false, false, false, false, false] rfl rfl ?_; refine ta6_ 0 20 (tf 4 10) rfl rfl ?_; refine one_ (i := 4) (N := some 24) (tf 5 9) rfl rfl (one_of HT_.out (by kernel_rfl)) (by decide) (fun K hK => ?_); refine goes_ Try.func113 (by kernel_rfl) rfl #[.agg #[.slice A0_0 l0_0.length c0_0, .slice A0_1 l0_1.length c0_1, .slice A0_2 l0_2.length c0_2, .slice A0_3 l0_3.length c0_3, .slice A0_4 l0_4.length c0_4, .int .i64 a0_5], .slice A1 l1.length c1, .int .i64 (l1.length : Int), .int .i64 x17_1] (by rfl) rfl rfl (by (try simp only [List.map_toArray, List.map_cons, List.map_nil]); first | done | rfl | (simp only [List.length_drop, List.length_take]; rfl)) ?_
        with_reducible refine (impl_isFree.calls k1 _ _ l0_0 _ _ l0_1 _ _ l0_2 _ _ l0_3 _ _ l0_4 a0_5 _ _ l1 (l1.length : Int) x17_1 true _ ?side1 ?side2 ?side3 ?side4 ?side5 ?side6 ?side7 ?side8 ?side9 ?side10 ?side11 ?side12 A9.out).mono ?_
        (case side1 => exact vd HR0_0.out HB.out)
        (case side2 => exact HC0_0.out)
        (case side3 => exact vd HR0_1.out HB.out)
        (case side4 => exact HC0_1.out)
        (case side5 => exact vd HR0_2.out HB.out)
        (case side6 => exact HC0_2.out)
        (case side7 => exact vd HR0_3.out HB.out)
        (case side8 => exact HC0_3.out)
        (case side9 => exact vd HR0_4.out HB.out)
        (case side10 => exact HC0_4.out)
        (case side11 => exact vd HR1.out HB.out)
        (case side12 => exact HC1.out)
        rintro e w26 ⟨rfl, hb⟩; refine ⟨_, rfl, ?_⟩; replace BK1153 := kb BK1153 hb; replace HB := bs HB hb; (try clear hb)
        (try clear hb2)
        (try clear hk)
        (try clear hi)
        refine hK.out _ _ (cy6 BK1153.out) (fun hHeld => ?_); clear hK K; refine norm_ (a' := ?_) ?_ ?_
        rotate_left
        ·show Act.put _ (some 24) _ = _
         simp only [Act.put, List.setIfInBounds_toArray, List.set_cons_zero, List.set_cons_succ, i64_w, i32_w]
         rfl
        refine pu_ 5 25 (tf 6 8) rfl rfl ?_; refine pu_ 7 27 #[true, true, true, true, true, true, false, true, false, false, false, false, false, false] rfl rfl ?_; refine pu_ 9 29 #[true, true, true, true, true, true, false, true, false, true, false, false, false, false] rfl rfl ?_; refine ta6_ 6 26 #[true, true, true, true, true, true, true, true, false, true, false, false, false, false] rfl rfl ?_; refine join_ (σ := Value × Value) 3 (tf 11 3) (fun s_ => [(28, s_.1), (30, s_.2)]) (fun s_ w' => (w'.cell? ⟨gb1153, 0, none⟩ = some (.slice A0_0 l0_0.length c0_0) ∧ w'.cell? ⟨gb1153, 1, none⟩ = some (.slice A0_1 l0_1.length c0_1) ∧ w'.cell? ⟨gb1153, 2, none⟩ = some (.slice A0_2 l0_2.length c0_2) ∧ w'.cell? ⟨gb1153, 3, none⟩ = some (.slice A0_3 l0_3.length c0_3) ∧ w'.cell? ⟨gb1153, 4, none⟩ = some (.slice A0_4 l0_4.length c0_4) ∧ w'.cell? ⟨gb1153, 5, none⟩ = some (.int .i64 a0_5)) ∧ (Kd.R (Kd.int .i64) 2 w' w.heap.size (fun k_ => some k_ ≠ (s_.2 : Value).ownBlock) s_.1 t1155) ∧ (Kd.R (Kd.int .i64) 2 w' w.heap.size (fun k_ => some k_ ≠ (s_.1 : Value).ownBlock) s_.2 y1158) ∧ (w'.heap[gb1153]? = some (.cells #[.slice A0_0 l0_0.length c0_0, .slice A0_1 l0_1.length c0_1, .slice A0_2 l0_2.length c0_2, .slice A0_3 l0_3.length c0_3, .slice A0_4 l0_4.length c0_4, .int .i64 a0_5] 33 (0, 0))) ∧ (Below w.heap.size w w')) ?_ ?_
        rotate_left
        ·intro hCont; refine two_ (i := 8) (j := 10) (Ni := some 28) (Nj := some 30) (tf 10 4) #[true, true, true, true, true, true, true, true, false, true, true, false, false, false] rfl rfl rfl rfl (two_of HT_.out (by kernel_rfl)) (by decide) (by decide) (fun K hK => ?_) (fun K hK => ?_)
         ·skip
          refine goes_ Try.func91 (by kernel_rfl) rfl #[.slice A1 l1.length c1] (by rfl) rfl rfl (by (try simp only [List.map_toArray, List.map_cons, List.map_nil]); first | done | rfl | (simp only [List.length_drop, List.length_take]; rfl)) ?_; with_reducible refine (impl_copyList.calls _ _ l1 t1155 _ ?side1 ?side2 A11.out).mono ?_
          (case side1 => exact vd HR1.out HB.out)
          (case side2 => exact HC1.out)
          rintro e w27 ⟨v1156, rfl, ho0, hb⟩; refine ⟨_, rfl, ?_⟩; have HO1157 := ak (Kd.R_lower ho0 (below_size (vb HB.out))); replace BK1153 := kb BK1153 hb; replace HB := bs HB hb; (try clear hb)
          (try clear hb2)
          (try clear hk)
          (try clear hi)
          (try clear ho0)
          refine hK.out _ _ (cy6 BK1153.out) (fun hHeld => ?_); clear hK K; refine norm_ (a' := ?_) ?_ ?_
          rotate_left
          ·show Act.put _ (some 28) _ = _
           simp only [Act.put, List.setIfInBounds_toArray, List.set_cons_zero, List.set_cons_succ, i64_w, i32_w]
           rfl
          refine one_ (i := 10) (N := some 30) (tf 11 3) rfl rfl (one_of HT_.out (by kernel_rfl)) (by decide) (fun K hK => ?_); refine Kd.R_lit_step (Kd.int .i64) _ 2 ?hg (N := 30) ?hd (xs := ([x17_1] : List Int)) (inner := [.int .i64 x17_1]) (ok := fun _ => True) (okp := fun _ => True) ?hr ?hp (fun _ hk => hk) trivial (Below.refl _ _) (Nat.le_refl _) (by simp) ?_; (case hd => rfl); (case hg => rfl); (case hr => first | (go_simp; done) | (go_simp; rfl)); (case hp => exact (Reps.one (show Kd.M (Kd.int .i64) _ _ _ x17_1 [.int .i64 x17_1] from rfl) (Reps.none _ _))); intro v1159 w28 ho29 hb hg_ hnew_; clear hg_ hnew_; (first | rw [← Ny1158.out] at ho29 | (simp only [Int.reduceToNat] at ho29; rw [← Ny1158.out] at ho29))
          have HO1160 := ak (Kd.R_lower (Kd.R_new' ho29 (Kd.R_lt (vr HO1157.out))) (below_size (vb HB.out))); replace HO1157 := ak (Kd.R_elder' (vr HO1157.out) (Kd.R_base ho29) hb); replace BK1153 := kb BK1153 hb; replace HB := bs HB hb; clear hb ho29; refine hK.out _ _ (cy6 BK1153.out) (fun hHeld => ?_); clear hK K; refine norm_ (a' := ?_) ?_ ?_
          rotate_left
          ·show Act.put _ (some 30) _ = _
           simp only [Act.put, List.setIfInBounds_toArray, List.set_cons_zero, List.set_cons_succ, i64_w, i32_w]
           rfl
          exact norm_ (by simp only [putAll, Act.put, List.setIfInBounds_toArray, List.set_cons_zero, List.set_cons_succ]) (hCont (v1156, v1159) _ ⟨hHeld, (by (with_reducible repeat (first | apply Kd.R_alloc | apply Kd.R_drewN | apply Kd.R_drew)); exact Kd.R_mono HO1157.out (fun _ hk => hk.2)), (by (with_reducible repeat (first | apply Kd.R_alloc | apply Kd.R_drewN | apply Kd.R_drew)); exact Kd.R_mono HO1160.out (fun _ hk => hk.2)), (vk BK1153.out), (vb HB.out)⟩)
         ·skip
          refine Kd.R_lit_step (Kd.int .i64) _ 2 ?hg (N := 30) ?hd (xs := ([x17_1] : List Int)) (inner := [.int .i64 x17_1]) (ok := fun _ => True) (okp := fun _ => True) ?hr ?hp (fun _ hk => hk) trivial (Below.refl _ _) (Nat.le_refl _) (by simp) ?_; (case hd => rfl); (case hg => rfl); (case hr => first | (go_simp; done) | (go_simp; rfl)); (case hp => exact (Reps.one (show Kd.M (Kd.int .i64) _ _ _ x17_1 [.int .i64 x17_1] from rfl) (Reps.none _ _))); intro v1159 w27 ho28 hb hg_ hnew_; clear hg_ hnew_; (first | rw [← Ny1158.out] at ho28 | (simp only [Int.reduceToNat] at ho28; rw [← Ny1158.out] at ho28))
          have HO1160 := ak (Kd.R_lower ho28 (below_size (vb HB.out))); replace BK1153 := kb BK1153 hb; replace HB := bs HB hb; clear hb ho28; refine hK.out _ _ (cy6 BK1153.out) (fun hHeld => ?_); clear hK K; refine norm_ (a' := ?_) ?_ ?_
          rotate_left
          ·show Act.put _ (some 30) _ = _
           simp only [Act.put, List.setIfInBounds_toArray, List.set_cons_zero, List.set_cons_succ, i64_w, i32_w]
           rfl
          refine one_ (i := 8) (N := some 28) (tf 11 3) rfl rfl (one_of HT_.out (by kernel_rfl)) (by decide) (fun K hK => ?_); refine goes_ Try.func91 (by kernel_rfl) rfl #[.slice A1 l1.length c1] (by rfl) rfl rfl (by (try simp only [List.map_toArray, List.map_cons, List.map_nil]); first | done | rfl | (simp only [List.length_drop, List.length_take]; rfl)) ?_; with_reducible refine (impl_copyList.calls _ _ l1 t1155 _ ?side1 ?side2 A11.out).mono ?_
          (case side1 => exact vd HR1.out HB.out)
          (case side2 => exact HC1.out)
          rintro e w29 ⟨v1156, rfl, ho0, hb⟩; refine ⟨_, rfl, ?_⟩; have HO1157 := ak (Kd.R_lower (Kd.R_new' ho0 (Kd.R_lt (vr HO1160.out))) (below_size (vb HB.out))); replace HO1160 := ak (Kd.R_elder' (vr HO1160.out) (Kd.R_base ho0) hb); replace BK1153 := kb BK1153 hb; replace HB := bs HB hb; (try clear hb)
          (try clear hb2)
          (try clear hk)
          (try clear hi)
          (try clear ho0)
          refine hK.out _ _ (cy6 BK1153.out) (fun hHeld => ?_); clear hK K; refine norm_ (a' := ?_) ?_ ?_
          rotate_left
          ·show Act.put _ (some 28) _ = _
           simp only [Act.put, List.setIfInBounds_toArray, List.set_cons_zero, List.set_cons_succ, i64_w, i32_w]
           rfl
          exact norm_ (by simp only [putAll, Act.put, List.setIfInBounds_toArray, List.set_cons_zero, List.set_cons_succ]) (hCont (v1156, v1159) _ ⟨hHeld, (by (with_reducible repeat (first | apply Kd.R_alloc | apply Kd.R_drewN | apply Kd.R_drew)); exact Kd.R_mono HO1157.out (fun _ hk => hk.2)), (by (with_reducible repeat (first | apply Kd.R_alloc | apply Kd.R_drewN | apply Kd.R_drew)); exact Kd.R_mono HO1160.out (fun _ hk => hk.2)), (vk BK1153.out), (vb HB.out)⟩)
        rintro ⟨v1156, v1159⟩ w30 ⟨hS_, h0_, h1_, h2_, h3_⟩; have n0_ : Aside0 (Kd.R (Kd.int .i64) 2 w30 w.heap.size (fun k_ => some k_ ≠ (v1159 : Value).ownBlock) v1156 t1155) := ⟨h0_⟩; have n1_ : Aside0 (Kd.R (Kd.int .i64) 2 w30 w.heap.size (fun k_ => some k_ ≠ (v1156 : Value).ownBlock) v1159 y1158) := ⟨h1_⟩; have n2_ : Aside0 (w30.heap[gb1153]? = some (.cells #[.slice A0_0 l0_0.length c0_0, .slice A0_1 l0_1.length c0_1, .slice A0_2 l0_2.length c0_2, .slice A0_3 l0_3.length c0_3, .slice A0_4 l0_4.length c0_4, .int .i64 a0_5] 33 (0, 0))) := ⟨h2_⟩; have n3_ : Aside0 (Below w.heap.size w w30) := ⟨h3_⟩; clear BK1153; clear HB; clear h0_ h1_ h2_ h3_; have HO1157 := n0_; have HO1160 := n1_; have BK1153 := n2_; have HB := n3_; clear n0_ n1_ n2_ n3_; have hHeld : w30.cell? ⟨gb1153, 0, none⟩ = some (.slice A0_0 l0_0.length c0_0) ∧ w30.cell? ⟨gb1153, 1, none⟩ = some (.slice A0_1 l0_1.length c0_1) ∧ w30.cell? ⟨gb1153, 2, none⟩ = some (.slice A0_2 l0_2.length c0_2) ∧ w30.cell? ⟨gb1153, 3, none⟩ = some (.slice A0_3 l0_3.length c0_3) ∧ w30.cell? ⟨gb1153, 4, none⟩ = some (.slice A0_4 l0_4.length c0_4) ∧ w30.cell? ⟨gb1153, 5, none⟩ = some (.int .i64 a0_5) := hS_; obtain ⟨Ao32, co32, eo32⟩ := Kd.R_slice HO1160.out; (first | subst eo32 | (injection eo32 with f1_ f2_ f3_; have f4_ := f1_.symm; have f5_ := f3_.symm; clear f1_ f2_ f3_; subst f4_; subst f5_))
        refine norm_ (a' := ?_) ?_ ?_
        rotate_left
        ·simp only [putAll, Act.put, List.setIfInBounds_toArray, List.set_cons_zero, List.set_cons_succ]
         rfl
        refine one_ (i := 11) (N := some 31) (tf 12 2) rfl rfl (one_of HT_.out (by kernel_rfl)) (by decide) (fun K hK => ?_); refine Kd.R_append_rows_step (Kd.int .i64) (w0 := w) w.heap.size (by rfl) (.tmp 28) (.tmp 30) 24 2 (.int .i64 0) 8 rfl Try.underlying24 info2 rfl (by decide) (by omega) v1156 t1155 y1158 _ _ _ (fun k_ => some k_ ≠ (.slice Ao32 y1158.length co32 : Value).ownBlock) (fun _ => False) rfl rfl ?aO ?aR (fun _ _ h => h) (fun _ h => h.elim) ?aF ?aB ?aS ?aL ?_; (case aR => repeat (first | exact (Kd.R_reads' HO1160.out).2.2 | (with_reducible refine Kd.C_alloc ?_ _) | (with_reducible refine Kd.C_drewN ?_ _) | (with_reducible refine Kd.C_drew ?_)))
        (case aB => exact (vb HB.out))
        (case aF => exact (fun k_ hk => Kd.fresh' (Kd.R_lt (vr HO1160.out)) k_ hk))
        (case aO => exact (vr HO1157.out))
        (case aS => exact (below_size (vb HB.out)))
        (case aL => have := LMc12.out; omega)
        intro v1162 w31 ho hb hg hat; rw [← Ny1161.out] at ho; have n0_ := ak (blk_grown (g := gb1153) (o := .cells #[.slice A0_0 l0_0.length c0_0, .slice A0_1 l0_1.length c0_1, .slice A0_2 l0_2.length c0_2, .slice A0_3 l0_3.length c0_3, .slice A0_4 l0_4.length c0_4, .int .i64 a0_5] 33 (0, 0)) (vk BK1153.out) hg (Kd.R_ne HO1157.out BK1153.out (by decide))); have n1_ := ak (Kd.R_after (ok := (fun _ => True)) (by (with_reducible repeat (first | apply Kd.R_alloc | apply Kd.R_drewN | apply Kd.R_drew)); exact Kd.R_mono HO1160.out (fun _ hk => ⟨trivial, hk⟩)) hg hat); have n2_ := ak (hb); have n3_ := ak (ho); clear BK1153; clear HO1160; clear HB; clear HO1157; have BK1153 := n0_; have HO1160 := n1_; have HB := n2_; have HO1163 := n3_; clear n0_ n1_ n2_ n3_; clear ho hb hg hat; obtain ⟨Ao33, co33, eo33⟩ := Kd.R_slice HO1163.out; (first | subst eo33 | (injection eo33 with f1_ f2_ f3_; have f4_ := f1_.symm; have f5_ := f3_.symm; clear f1_ f2_ f3_; subst f4_; subst f5_))
        refine hK.out _ _ (cy6 BK1153.out) (fun hHeld => ?_); clear hK K; refine norm_ (a' := ?_) ?_ ?_
        rotate_left
        ·show Act.put _ (some 31) _ = _
         simp only [Act.put, List.setIfInBounds_toArray, List.set_cons_zero, List.set_cons_succ, i64_w, i32_w]
         rfl
        refine one_ (i := 12) (N := some 32) (tf 13 1) rfl rfl (one_of HT_.out (by kernel_rfl)) (by decide) (fun K hK => ?_); refine goes_ Try.func89 (by kernel_rfl) rfl #[.agg #[.slice A0_0 l0_0.length c0_0, .slice A0_1 l0_1.length c0_1, .slice A0_2 l0_2.length c0_2, .slice A0_3 l0_3.length c0_3, .slice A0_4 l0_4.length c0_4, .int .i64 a0_5], .slice Ao33 y1161.length co33] (by rfl) rfl rfl (by (try simp only [List.map_toArray, List.map_cons, List.map_nil]); first | done | rfl | (simp only [List.length_drop, List.length_take]; rfl)) ?_; with_reducible refine (ih k1 (by have := HK1.out; omega) _ _ l0_0 _ _ l0_1 _ _ l0_2 _ _ l0_3 _ _ l0_4 a0_5 _ _ y1161 false _ ?side1 ?side2 ?side3 ?side4 ?side5 ?side6 ?side7 ?side8 ?side9 ?side10 ?side11 ?side12 A13.out).mono ?_
        (case side1 => exact vd HR0_0.out HB.out)
        (case side2 => exact HC0_0.out)
        (case side3 => exact vd HR0_1.out HB.out)
        (case side4 => exact HC0_1.out)
        (case side5 => exact vd HR0_2.out HB.out)
        (case side6 => exact HC0_2.out)
        (case side7 => exact vd HR0_3.out HB.out)
        (case side8 => exact HC0_3.out)
        (case side9 => exact vd HR0_4.out HB.out)
        (case side10 => exact HC0_4.out)
        (case side11 => repeat (first | exact (Kd.R_reads' HO1163.out).2.2 | (with_reducible refine Kd.C_alloc ?_ _) | (with_reducible refine Kd.C_drewN ?_ _) | (with_reducible refine Kd.C_drew ?_)))
        (case side12 => exact (Kd.R_reads' HO1163.out).2.1)
        rintro e w34 ⟨rfl, hb⟩; refine ⟨_, rfl, ?_⟩; replace HO1160 := ak (Kd.R_below (vr HO1160.out) hb); replace HO1163 := ak (Kd.R_below (vr HO1163.out) hb); replace BK1153 := kb BK1153 hb; replace HB := bs HB hb; (try clear hb)
        (try clear hb2)
        (try clear hk)
        (try clear hi)
        refine hK.out _ _ (cy6 BK1153.out) (fun hHeld => ?_); clear hK K; refine norm_ (a' := ?_) ?_ ?_
        rotate_left
        ·show Act.put _ (some 32) _ = _
         simp only [Act.put, List.setIfInBounds_toArray, List.set_cons_zero, List.set_cons_succ, i64_w, i32_w]
         rfl
        refine pu_ 13 33 (tf 14 0) rfl rfl ?_; refine done_ (done_of HT_.out (by kernel_rfl)) ?_; (try go_wp2)
        go_roundg k1
        case measure => have := HK1.out; omega
        case rel => exact ⟨(wrap64 (x17_1 + 1)), (by first | rfl | (simp; done) | (simp [*]; done)), H', ⟨by have := HK1.out; omega⟩, ⟨vk BK1153.out⟩, ⟨vb HB.out⟩⟩
      ·rw [if_neg c12] at H; exact absurd H (by simp)
     ·replace c10 := Bool.eq_false_iff.mpr c10; subst c10; rw [if_neg nf] at H; have H' := ak H; clear H; (try go_wp2)
      replace BK1153 := ak (blk_drew BK1153.out); replace HB := ak (below_drew1 HB.out); refine start_ (n := 14) (S := fun w' => w'.cell? ⟨gb1153, 0, none⟩ = some (.slice A0_0 l0_0.length c0_0) ∧ w'.cell? ⟨gb1153, 1, none⟩ = some (.slice A0_1 l0_1.length c0_1) ∧ w'.cell? ⟨gb1153, 2, none⟩ = some (.slice A0_2 l0_2.length c0_2) ∧ w'.cell? ⟨gb1153, 3, none⟩ = some (.slice A0_3 l0_3.length c0_3) ∧ w'.cell? ⟨gb1153, 4, none⟩ = some (.slice A0_4 l0_4.length c0_4) ∧ w'.cell? ⟨gb1153, 5, none⟩ = some (.int .i64 a0_5)) (ds := []) (tf 0 14) (by kernel_rfl) rfl rfl (cy6 BK1153.out) (fun hHeld => ?_); refine with_tabW impl_hasPlacing.tab7 impl_hasPlacing.bits7 (fun HT_ HW_ => ?_); generalize wr.drew = w35 at BK1153 HB hHeld ⊢; refine pu_ 1 21 #[false, true, false, false, false, false, false, false, false, false, false, false, false, false] rfl rfl ?_; refine pu_ 2 22 #[false, true, true, false, false, false, false, false, false, false, false, false, false, false] rfl rfl ?_; refine pu_ 3 23 #[false, true, true, true, false, false, false, false, false, false, false, false, false, false] rfl rfl ?_; refine ta6_ 0 20 (tf 4 10) rfl rfl ?_; refine one_ (i := 4) (N := some 24) (tf 5 9) rfl rfl (one_of HT_.out (by kernel_rfl)) (by decide) (fun K hK => ?_); refine goes_ Try.func113 (by kernel_rfl) rfl #[.agg #[.slice A0_0 l0_0.length c0_0, .slice A0_1 l0_1.length c0_1, .slice A0_2 l0_2.length c0_2, .slice A0_3 l0_3.length c0_3, .slice A0_4 l0_4.length c0_4, .int .i64 a0_5], .slice A1 l1.length c1, .int .i64 (l1.length : Int), .int .i64 x17_1] (by rfl) rfl rfl (by (try simp only [List.map_toArray, List.map_cons, List.map_nil]); first | done | rfl | (simp only [List.length_drop, List.length_take]; rfl)) ?_
      with_reducible refine (impl_isFree.calls k1 _ _ l0_0 _ _ l0_1 _ _ l0_2 _ _ l0_3 _ _ l0_4 a0_5 _ _ l1 (l1.length : Int) x17_1 false _ ?side1 ?side2 ?side3 ?side4 ?side5 ?side6 ?side7 ?side8 ?side9 ?side10 ?side11 ?side12 A9.out).mono ?_
      (case side1 => exact vd HR0_0.out HB.out)
      (case side2 => exact HC0_0.out)
      (case side3 => exact vd HR0_1.out HB.out)
      (case side4 => exact HC0_1.out)
      (case side5 => exact vd HR0_2.out HB.out)
      (case side6 => exact HC0_2.out)
      (case side7 => exact vd HR0_3.out HB.out)
      (case side8 => exact HC0_3.out)
      (case side9 => exact vd HR0_4.out HB.out)
      (case side10 => exact HC0_4.out)
      (case side11 => exact vd HR1.out HB.out)
      (case side12 => exact HC1.out)
      rintro e w36 ⟨rfl, hb⟩; refine ⟨_, rfl, ?_⟩; replace BK1153 := kb BK1153 hb; replace HB := bs HB hb; (try clear hb)
      (try clear hb2)
      (try clear hk)
      (try clear hi)
      refine hK.out _ _ (cy6 BK1153.out) (fun hHeld => ?_); clear hK K; refine norm_ (a' := ?_) ?_ ?_
      rotate_left
      ·show Act.put _ (some 24) _ = _
       simp only [Act.put, List.setIfInBounds_toArray, List.set_cons_zero, List.set_cons_succ, i64_w, i32_w]
       rfl
      refine pu_ 5 25 (tf 6 8) rfl rfl ?_; refine un_ 6 26 (tf 7 7) rfl rfl ?_; refine un_ 7 27 (tf 8 6) rfl rfl ?_; refine un_ 8 28 (tf 9 5) rfl rfl ?_; refine un_ 9 29 (tf 10 4) rfl rfl ?_; refine un_ 10 30 (tf 11 3) rfl rfl ?_; refine un_ 11 31 (tf 12 2) rfl rfl ?_; refine un_ 12 32 (tf 13 1) rfl rfl ?_; refine pu_ 13 33 (tf 14 0) rfl rfl ?_; refine done_ (done_of HT_.out (by kernel_rfl)) ?_; (try go_wp2)
      go_roundg k1
      case measure => have := HK1.out; omega
      case rel => exact ⟨(wrap64 (x17_1 + 1)), (by first | rfl | (simp; done) | (simp [*]; done)), H', ⟨by have := HK1.out; omega⟩, ⟨vk BK1153.out⟩, ⟨vb HB.out⟩⟩
    ·rw [if_neg c8] at H; have c8b0 := decide_eq_false c8; clear c8; obtain rfl := Option.some.inj H; go_wp2
     go_ret
     exact ⟨ew, vb HB.out⟩


end Go.Proofs.Ytancnecddlbhkaa.Pall
