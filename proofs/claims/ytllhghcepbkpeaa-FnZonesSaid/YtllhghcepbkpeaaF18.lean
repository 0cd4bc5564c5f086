/- Go functions of the program, each as a Lean function, and the proof that each call comes to what the Lean function tells; no condition beyond those that stand there. -/
import Derived.Test.YtllhghcepbkpeaaF00
import Derived.Test.YtllhghcepbkpeaaF03
import Derived.Test.YtllhghcepbkpeaaSq
import Derived.Test.YtllhghcepbkpeaaWLast
import Derived.Test.YtllhghcepbkpeaaWRepsOne
import Derived.Test.YtllhghcepbkpeaaWTab
import Derived.Test.YtllhghcepbkpeaaSpare
import Derived.Test.YtllhghcepbkpeaaCm
import Derived.Test.YtllhghcepbkpeaaCm3
namespace Go.Proofs.Ytllhghcepbkpeaa.Pall
open Go.RowKit Go.Proofs.YtllhghcepbkpeaaW.PrintWords Go.Proofs.YtllhghcepbkpeaaW.PrintLast
set_option linter.unusedVariables false
set_option linter.unusedSimpArgs false

/-! ### spec_AddMove: function 27 -/
def spec_AddMove.f (k : Nat) (l0 : List (S42)) (a1_0 : Int) (a1_1 : ByteArray) (a1_2 : Int) : Option ((List (S42)) × Int) := (spec_AreMoves.f k l0).bind fun t279 => (if t279 = true then (if (l0.length : Int) = 40 then (some (([] : List (S42)), 3)) else ((some (([] : List (S42)) : List (S42))).bind fun y280 => (if y280.length + l0.length < 4398046511104 then ((some (y280 ++ l0 : List (S42))).bind fun y283 => ((some (([(⟨a1_0, a1_1, a1_2⟩ : S42)] : List (S42)) : List (S42))).bind fun y286 => (if y283.length + y286.length < 4398046511104 then ((some (y283 ++ y286 : List (S42))).bind fun y289 => ((spec_AreMoves.f k y289).bind fun t292 => (if t292 = true then (some (y289, 0)) else (some (([] : List (S42)), 5))))) else (none)))) else (none)))) else (some (([] : List (S42)), 1)))
theorem spec_AddMove.mono : ∀ a0 a1 a2 a3 k, LeO (spec_AddMove.f k a0 a1 a2 a3) (spec_AddMove.f (k + 1) a0 a1 a2 a3) := by
 intro a0 a1 a2 a3 k; unfold spec_AddMove.f
 repeat' first | (with_reducible first | exact spec_AreMoves.mono _ _ | exact LeO.refl _ | exact LeO.none _ | refine LeO.ite ?_ ?_ | refine LeO.bind ?_ (fun _ => ?_)) | exact spec_AreMoves.mono _ _ | exact LeO.none _ | refine LeO.ite ?_ ?_ | refine LeO.bind ?_ (fun _ => ?_)
set_option maxHeartbeats 8000000 in
set_option maxRecDepth 100000 in
theorem spec_AddMove.calls (k : Nat) (A0 : Option Addr) (c0 : Nat) (l0 : List (S42)) (a1_0 : Int) (a1_1 : ByteArray) (a1_2 : Int) (r1 : List (S42)) (r2 : Int) (w : World) (hr0 : Kd.C k42 w A0 l0.length l0) (hc0 : l0.length ≤ c0) (h : spec_AddMove.f k l0 a1_0 a1_1 a1_2 = some (r1, r2)) :
  Calls Try.prog 27 #[.slice A0 l0.length c0, .agg #[.int .i64 a1_0, .string a1_1, .int .i64 a1_2]] w fun e w' => ∃ v0_ : Value, e = .returned (.tuple #[v0_, .int .i64 r2]) ∧ Kd.R k42 42 w' w.heap.size (fun _ => True) v0_ r1 ∧ Below w.heap.size w w' := by
 have hu42 := Try.underlying42; have HR0 := ak hr0; have HC0 := ak hc0; clear hr0 hc0; have HB := ak (Below.refl w.heap.size w); unfold spec_AddMove.f at h; have H := h; clear h; obtain ⟨t279, A3, H⟩ := bnk H
 by_cases c4 : t279 = true
 subst c4; rw [if_pos rfl] at H; by_cases c5 : (l0.length : Int) = 40
 rw [if_pos c5] at H; obtain ⟨c5b0, c5b1⟩ := bqt c5; clear c5; simp only [Option.some.injEq, Prod.mk.injEq] at H
 obtain ⟨rfl, rfl⟩ := H; rotate_left
 rw [if_neg c5] at H; obtain ⟨c5b0, c5b1⟩ := bqf c5; obtain ⟨y280, Ny280, H⟩ := bnE H; by_cases c8 : y280.length + l0.length < 4398046511104
 rw [if_pos c8] at H; have LMc8 := ak c8; clear c8; obtain ⟨y283, Ny283, H⟩ := bnE H; obtain ⟨y286, Ny286, H⟩ := bnE H; by_cases c9 : y283.length + y286.length < 4398046511104
 rw [if_pos c9] at H; have LMc9 := ak c9; clear c9; obtain ⟨y289, Ny289, H⟩ := bnE H; obtain ⟨t292, A10, H⟩ := bnk H; by_cases c11 : t292 = true
 ·subst c11; rw [if_pos rfl] at H; simp only [Option.some.injEq, Prod.mk.injEq] at H
  obtain ⟨rfl, rfl⟩ := H; go_enter Try.func27, Try.ntmps27; (try go_wp2_with (first | ((with_reducible refine gate_dst (N := 3) rfl ?_); refine bx 3 #[.int .i64 a1_0, .string a1_1, .int .i64 a1_2] 42 ?_; intro gb278 hg w12 hbox hb; have BK278 := ak hbox; have GW278 := gw hg HB; have GE278 := gw hg HB; replace HB := bs HB hb; clear hb hbox hg) | ((with_reducible refine at_fn (f := 16) rfl ?_); refine gl (some 8) Try.func16 #[.slice A0 l0.length c0] ?_; (with_reducible refine (spec_AreMoves.calls k _ _ l0 _ _ ?side1 HC0.out A3.out).mono ?_); (case side1 => exact vd HR0.out HB.out); rintro e w13 ⟨rfl, hb⟩; refine ⟨_, rfl, ?_⟩; replace BK278 := kb BK278 hb; replace HB := bs HB hb; (try clear hb); (try clear hb2); (try clear hk); (try clear hi))))
  replace BK278 := ak (blk_drew BK278.out); replace HB := ak (below_drew1 HB.out); refine start_ (n := 7) (S := fun w' => w'.cell? ⟨gb278, 0, none⟩ = some (.int .i64 a1_0) ∧ w'.cell? ⟨gb278, 1, none⟩ = some (.string a1_1) ∧ w'.cell? ⟨gb278, 2, none⟩ = some (.int .i64 a1_2)) (ds := []) (tf 0 7) (by kernel_rfl) rfl rfl (cy3 BK278.out) (fun hHeld => ?_); generalize w13.drew = w14 at BK278 HB hHeld ⊢; refine pu_ 1 14 #[false, true, false, false, false, false, false] rfl rfl ?_ (by kernel_rfl); refine ta3_ 3 16 #[false, true, false, true, false, false, false] rfl rfl ?_ (by kernel_rfl); refine join_ (σ := Value × Value × Value) 2 (tf 5 2) (fun s_ => [(13, s_.1), (15, s_.2.1), (17, s_.2.2)]) (fun s_ w' => (w'.cell? ⟨gb278, 0, none⟩ = some (.int .i64 a1_0) ∧ w'.cell? ⟨gb278, 1, none⟩ = some (.string a1_1) ∧ w'.cell? ⟨gb278, 2, none⟩ = some (.int .i64 a1_2)) ∧ (Kd.R k42 42 w' w.heap.size (fun k_ => some k_ ≠ (s_.2.2 : Value).ownBlock ∧ k_ ≠ gb278) s_.2.1 y283) ∧ (Kd.R k42 42 w' w.heap.size (fun k_ => some k_ ≠ (s_.2.1 : Value).ownBlock ∧ k_ ≠ gb278) s_.2.2 y286) ∧ (w'.heap[gb278]? = some (.cells #[.int .i64 a1_0, .string a1_1, .int .i64 a1_2] 42 (0, 0))) ∧ (Below w.heap.size w w')) ?_ ?_
  rotate_left
  ·intro hCont; refine two_ (i := 0) (j := 4) (Ni := some 13) (Nj := some 17) #[true, true, false, true, false, false, false] #[false, true, false, true, true, false, false] rfl rfl rfl rfl (by kernel_rfl) (by decide) (by decide) (fun K hK => ?_) (fun K hK => ?_)
   ·skip
    refine Kd.R_lit_step k42 _ 42 ?hg (N := 13) ?hd (xs := ([] : List (S42))) (inner := []) (ok := fun _ => True) (okp := fun _ => True) ?hr ?hp (fun _ hk => hk) trivial (Below.refl _ _) (Nat.le_refl _) (by simp) ?_; (case hd => rfl); (case hg => rfl); (case hr => first | (go_simp; done) | (go_simp; rfl)); (case hp => exact (Reps.none _ _)); intro v281 w15 ho16 hb hg_ hnew_; clear hg_ hnew_; (first | rw [← Ny280.out] at ho16 | (simp only [Int.reduceToNat] at ho16; rw [← Ny280.out] at ho16))
    have HO282 := ak (Kd.R_lower (Kd.R_newB ho16 (g := gb278) (o := .cells #[.int .i64 a1_0, .string a1_1, .int .i64 a1_2] 42 (0, 0)) (vk BK278.out)) (below_size (vb HB.out))); replace BK278 := kb BK278 hb; replace HB := bs HB hb; clear hb ho16; refine hK.out _ _ (cy3 BK278.out) (fun hHeld => ?_); clear hK K; refine norm_ (a' := ?_) ?_ ?_
    rotate_left
    ·show Act.put _ (some 13) _ = _
     simp only [Act.put, List.setIfInBounds_toArray, List.set_cons_zero, List.set_cons_succ, i64_w, i32_w]
     rfl
    refine two_ (i := 2) (j := 4) (Ni := some 15) (Nj := some 17) (tf 4 3) #[true, true, false, true, true, false, false] rfl rfl rfl rfl (by kernel_rfl) (by decide) (by decide) (fun K hK => ?_) (fun K hK => ?_)
    ·skip
     refine Kd.R_append_rows_step k42 (w0 := w) w.heap.size (by rfl) (.tmp 13) (.tmp 14) 25 42 (.agg #[(.int .i64 0), (.string ⟨#[]⟩), (.int .i64 0)]) 32 rfl Try.underlying25 info42 rfl (by decide) (by omega) v281 y280 l0 _ _ _ (fun k_ => k_ ≠ gb278) (fun _ => False) rfl rfl ?aO ?aR (fun _ _ h => h) (fun _ h => h.elim) ?aF ?aB ?aS ?aL ?_; (case aR => exact vd HR0.out HB.out)
     (case aB => exact (vb HB.out))
     (case aF => exact (fun k_ hk => Kd.freshB (g := gb278) (o := .cells #[.int .i64 a1_0, .string a1_1, .int .i64 a1_2] 42 (0, 0)) (vk BK278.out) k_ hk))
     (case aO => exact (by (with_reducible repeat (first | apply Kd.R_alloc | apply Kd.R_drewN | apply Kd.R_drew)); exact Kd.R_mono HO282.out (fun _ hk => hk.2)))
     (case aS => exact (below_size (vb HB.out)))
     (case aL => have := LMc8.out; omega)
     intro v284 w17 ho hb hg hat; rw [← Ny283.out] at ho; have n0_ := ak (blk_grown (g := gb278) (o := .cells #[.int .i64 a1_0, .string a1_1, .int .i64 a1_2] 42 (0, 0)) (vk BK278.out) hg (Kd.R_away HO282.out (fun _ hk => hk.2))); have n1_ := ak (hb); have n2_ := ak (ho); clear BK278; clear HB; clear HO282; have BK278 := n0_; have HB := n1_; have HO285 := n2_; clear n0_ n1_ n2_; clear ho hb hg hat; refine hK.out _ _ (cy3 BK278.out) (fun hHeld => ?_); clear hK K; refine norm_ (a' := ?_) ?_ ?_
     rotate_left
     ·show Act.put _ (some 15) _ = _
      simp only [Act.put, List.setIfInBounds_toArray, List.set_cons_zero, List.set_cons_succ, i64_w, i32_w]
      rfl
     refine one_ (i := 4) (N := some 17) (tf 5 2) rfl rfl (by kernel_rfl) (by decide) (fun K hK => ?_); refine Kd.R_lit_step k42 _ 42 ?hg (N := 17) ?hd (xs := ([(⟨a1_0, a1_1, a1_2⟩ : S42)] : List (S42))) (inner := [.int .i64 a1_0, .string a1_1, .int .i64 a1_2]) (ok := fun _ => True) (okp := fun _ => True) ?hr ?hp (fun _ hk => hk) trivial (Below.refl _ _) (Nat.le_refl _) (by simp) ?_; (case hd => rfl); (case hg => rfl); (case hr => first | (go_simp; done) | (go_simp; rfl)); (case hp => exact (Reps.c3 (show Kd.M k42 _ _ _ (⟨a1_0, a1_1, a1_2⟩ : S42) [.int .i64 a1_0, .string a1_1, .int .i64 a1_2] from (k42_mkM _ _ _ (⟨a1_0, a1_1, a1_2⟩ : S42) )) (Reps.none _ _))); intro v287 w18 ho19 hb hg_ hnew_; clear hg_ hnew_; (first | rw [← Ny286.out] at ho19 | (simp only [Int.reduceToNat] at ho19; rw [← Ny286.out] at ho19))
     have HO288 := ak (Kd.R_lower (Kd.R_newB (Kd.R_new' ho19 (Kd.R_lt (vr HO285.out))) (g := gb278) (o := .cells #[.int .i64 a1_0, .string a1_1, .int .i64 a1_2] 42 (0, 0)) (vk BK278.out)) (below_size (vb HB.out))); replace HO285 := ak (Kd.R_elder' (vr HO285.out) (Kd.R_base ho19) hb); replace BK278 := kb BK278 hb; replace HB := bs HB hb; clear hb ho19; refine hK.out _ _ (cy3 BK278.out) (fun hHeld => ?_); clear hK K; refine norm_ (a' := ?_) ?_ ?_
     rotate_left
     ·show Act.put _ (some 17) _ = _
      simp only [Act.put, List.setIfInBounds_toArray, List.set_cons_zero, List.set_cons_succ, i64_w, i32_w]
      rfl
     exact norm_ (by simp only [putAll, Act.put, List.setIfInBounds_toArray, List.set_cons_zero, List.set_cons_succ]) (hCont (v281, v284, v287) _ ⟨hHeld, (by (with_reducible repeat (first | apply Kd.R_alloc | apply Kd.R_drewN | apply Kd.R_drew)); exact Kd.R_mono HO285.out (fun _ hk => ⟨hk.2, hk.1⟩)), (by (with_reducible repeat (first | apply Kd.R_alloc | apply Kd.R_drewN | apply Kd.R_drew)); exact Kd.R_mono HO288.out (fun _ hk => ⟨hk.1.2, hk.2⟩)), (vk BK278.out), (vb HB.out)⟩)
    ·skip
     refine Kd.R_lit_step k42 _ 42 ?hg (N := 17) ?hd (xs := ([(⟨a1_0, a1_1, a1_2⟩ : S42)] : List (S42))) (inner := [.int .i64 a1_0, .string a1_1, .int .i64 a1_2]) (ok := fun _ => True) (okp := fun _ => True) ?hr ?hp (fun _ hk => hk) trivial (Below.refl _ _) (Nat.le_refl _) (by simp) ?_; (case hd => rfl); (case hg => rfl); (case hr => first | (go_simp; done) | (go_simp; rfl)); (case hp => exact (Reps.c3 (show Kd.M k42 _ _ _ (⟨a1_0, a1_1, a1_2⟩ : S42) [.int .i64 a1_0, .string a1_1, .int .i64 a1_2] from (k42_mkM _ _ _ (⟨a1_0, a1_1, a1_2⟩ : S42) )) (Reps.none _ _))); intro v287 w17 ho18 hb hg_ hnew_; clear hg_ hnew_; (first | rw [← Ny286.out] at ho18 | (simp only [Int.reduceToNat] at ho18; rw [← Ny286.out] at ho18))
     have HO288 := ak (Kd.R_lower (Kd.R_newB (Kd.R_new' ho18 (Kd.R_lt (vr HO282.out))) (g := gb278) (o := .cells #[.int .i64 a1_0, .string a1_1, .int .i64 a1_2] 42 (0, 0)) (vk BK278.out)) (below_size (vb HB.out))); replace HO282 := ak (Kd.R_elder' (vr HO282.out) (Kd.R_base ho18) hb); replace BK278 := kb BK278 hb; replace HB := bs HB hb; clear hb ho18; refine hK.out _ _ (cy3 BK278.out) (fun hHeld => ?_); clear hK K; refine norm_ (a' := ?_) ?_ ?_
     rotate_left
     ·show Act.put _ (some 17) _ = _
      simp only [Act.put, List.setIfInBounds_toArray, List.set_cons_zero, List.set_cons_succ, i64_w, i32_w]
      rfl
     refine one_ (i := 2) (N := some 15) (tf 5 2) rfl rfl (by kernel_rfl) (by decide) (fun K hK => ?_); refine Kd.R_append_rows_step k42 (w0 := w) w.heap.size (by rfl) (.tmp 13) (.tmp 14) 25 42 (.agg #[(.int .i64 0), (.string ⟨#[]⟩), (.int .i64 0)]) 32 rfl Try.underlying25 info42 rfl (by decide) (by omega) v281 y280 l0 _ _ _ (fun k_ => some k_ ≠ (v287 : Value).ownBlock ∧ k_ ≠ gb278) (fun _ => False) rfl rfl ?aO ?aR (fun _ _ h => h) (fun _ h => h.elim) ?aF ?aB ?aS ?aL ?_; (case aR => exact vd HR0.out HB.out)
     (case aB => exact (vb HB.out))
     (case aF => exact (fun k_ hk => ⟨Kd.fresh' (Kd.R_lt (vr HO288.out)) k_ hk, Kd.freshB (g := gb278) (o := .cells #[.int .i64 a1_0, .string a1_1, .int .i64 a1_2] 42 (0, 0)) (vk BK278.out) k_ hk⟩))
     (case aO => exact (by (with_reducible repeat (first | apply Kd.R_alloc | apply Kd.R_drewN | apply Kd.R_drew)); exact Kd.R_mono HO282.out (fun _ hk => ⟨hk.2, hk.1.2⟩)))
     (case aS => exact (below_size (vb HB.out)))
     (case aL => have := LMc8.out; omega)
     intro v284 w19 ho hb hg hat; rw [← Ny283.out] at ho; have n0_ := ak (blk_grown (g := gb278) (o := .cells #[.int .i64 a1_0, .string a1_1, .int .i64 a1_2] 42 (0, 0)) (vk BK278.out) hg (Kd.R_away HO282.out (fun _ hk => hk.1.2))); have n1_ := ak (Kd.R_after (ok := (fun k_ => k_ ≠ gb278)) (by (with_reducible repeat (first | apply Kd.R_alloc | apply Kd.R_drewN | apply Kd.R_drew)); exact Kd.R_mono HO288.out (fun _ hk => ⟨hk.2, hk.1.2⟩)) hg hat); have n2_ := ak (hb); have n3_ := ak (ho); clear BK278; clear HO288; clear HB; clear HO282; have BK278 := n0_; have HO288 := n1_; have HB := n2_; have HO285 := n3_; clear n0_ n1_ n2_ n3_; clear ho hb hg hat; refine hK.out _ _ (cy3 BK278.out) (fun hHeld => ?_); clear hK K; refine norm_ (a' := ?_) ?_ ?_
     rotate_left
     ·show Act.put _ (some 15) _ = _
      simp only [Act.put, List.setIfInBounds_toArray, List.set_cons_zero, List.set_cons_succ, i64_w, i32_w]
      rfl
     exact norm_ (by simp only [putAll, Act.put, List.setIfInBounds_toArray, List.set_cons_zero, List.set_cons_succ]) (hCont (v281, v284, v287) _ ⟨hHeld, (vr HO285.out), (by (with_reducible repeat (first | apply Kd.R_alloc | apply Kd.R_drewN | apply Kd.R_drew)); exact Kd.R_mono HO288.out (fun _ hk => ⟨hk.2, hk.1⟩)), (vk BK278.out), (vb HB.out)⟩)
   ·skip
    refine Kd.R_lit_step k42 _ 42 ?hg (N := 17) ?hd (xs := ([(⟨a1_0, a1_1, a1_2⟩ : S42)] : List (S42))) (inner := [.int .i64 a1_0, .string a1_1, .int .i64 a1_2]) (ok := fun _ => True) (okp := fun _ => True) ?hr ?hp (fun _ hk => hk) trivial (Below.refl _ _) (Nat.le_refl _) (by simp) ?_; (case hd => rfl); (case hg => rfl); (case hr => first | (go_simp; done) | (go_simp; rfl)); (case hp => exact (Reps.c3 (show Kd.M k42 _ _ _ (⟨a1_0, a1_1, a1_2⟩ : S42) [.int .i64 a1_0, .string a1_1, .int .i64 a1_2] from (k42_mkM _ _ _ (⟨a1_0, a1_1, a1_2⟩ : S42) )) (Reps.none _ _))); intro v287 w15 ho16 hb hg_ hnew_; clear hg_ hnew_; (first | rw [← Ny286.out] at ho16 | (simp only [Int.reduceToNat] at ho16; rw [← Ny286.out] at ho16))
    have HO288 := ak (Kd.R_lower (Kd.R_newB ho16 (g := gb278) (o := .cells #[.int .i64 a1_0, .string a1_1, .int .i64 a1_2] 42 (0, 0)) (vk BK278.out)) (below_size (vb HB.out))); replace BK278 := kb BK278 hb; replace HB := bs HB hb; clear hb ho16; refine hK.out _ _ (cy3 BK278.out) (fun hHeld => ?_); clear hK K; refine norm_ (a' := ?_) ?_ ?_
    rotate_left
    ·show Act.put _ (some 17) _ = _
     simp only [Act.put, List.setIfInBounds_toArray, List.set_cons_zero, List.set_cons_succ, i64_w, i32_w]
     rfl
    refine one_ (i := 0) (N := some 13) #[true, true, false, true, true, false, false] rfl rfl (by kernel_rfl) (by decide) (fun K hK => ?_); refine Kd.R_lit_step k42 _ 42 ?hg (N := 13) ?hd (xs := ([] : List (S42))) (inner := []) (ok := fun _ => True) (okp := fun _ => True) ?hr ?hp (fun _ hk => hk) trivial (Below.refl _ _) (Nat.le_refl _) (by simp) ?_; (case hd => rfl); (case hg => rfl); (case hr => first | (go_simp; done) | (go_simp; rfl)); (case hp => exact (Reps.none _ _)); intro v281 w17 ho18 hb hg_ hnew_; clear hg_ hnew_; (first | rw [← Ny280.out] at ho18 | (simp only [Int.reduceToNat] at ho18; rw [← Ny280.out] at ho18))
    have HO282 := ak (Kd.R_lower (Kd.R_newB (Kd.R_new' ho18 (Kd.R_lt (vr HO288.out))) (g := gb278) (o := .cells #[.int .i64 a1_0, .string a1_1, .int .i64 a1_2] 42 (0, 0)) (vk BK278.out)) (below_size (vb HB.out))); replace HO288 := ak (Kd.R_elder' (vr HO288.out) (Kd.R_base ho18) hb); replace BK278 := kb BK278 hb; replace HB := bs HB hb; clear hb ho18; refine hK.out _ _ (cy3 BK278.out) (fun hHeld => ?_); clear hK K; refine norm_ (a' := ?_) ?_ ?_
    rotate_left
    ·show Act.put _ (some 13) _ = _
     simp only [Act.put, List.setIfInBounds_toArray, List.set_cons_zero, List.set_cons_succ, i64_w, i32_w]
     rfl
    refine one_ (i := 2) (N := some 15) (tf 5 2) rfl rfl (by kernel_rfl) (by decide) (fun K hK => ?_); refine Kd.R_append_rows_step k42 (w0 := w) w.heap.size (by rfl) (.tmp 13) (.tmp 14) 25 42 (.agg #[(.int .i64 0), (.string ⟨#[]⟩), (.int .i64 0)]) 32 rfl Try.underlying25 info42 rfl (by decide) (by omega) v281 y280 l0 _ _ _ (fun k_ => some k_ ≠ (v287 : Value).ownBlock ∧ k_ ≠ gb278) (fun _ => False) rfl rfl ?aO ?aR (fun _ _ h => h) (fun _ h => h.elim) ?aF ?aB ?aS ?aL ?_; (case aR => exact vd HR0.out HB.out)
    (case aB => exact (vb HB.out))
    (case aF => exact (fun k_ hk => ⟨Kd.fresh' (Kd.R_lt (vr HO288.out)) k_ hk, Kd.freshB (g := gb278) (o := .cells #[.int .i64 a1_0, .string a1_1, .int .i64 a1_2] 42 (0, 0)) (vk BK278.out) k_ hk⟩))
    (case aO => exact (by (with_reducible repeat (first | apply Kd.R_alloc | apply Kd.R_drewN | apply Kd.R_drew)); exact Kd.R_mono HO282.out (fun _ hk => ⟨hk.1.2, hk.2⟩)))
    (case aS => exact (below_size (vb HB.out)))
    (case aL => have := LMc8.out; omega)
    intro v284 w19 ho hb hg hat; rw [← Ny283.out] at ho; have n0_ := ak (blk_grown (g := gb278) (o := .cells #[.int .i64 a1_0, .string a1_1, .int .i64 a1_2] 42 (0, 0)) (vk BK278.out) hg (Kd.R_away HO282.out (fun _ hk => hk.2))); have n1_ := ak (Kd.R_after (ok := (fun k_ => k_ ≠ gb278)) (by (with_reducible repeat (first | apply Kd.R_alloc | apply Kd.R_drewN | apply Kd.R_drew)); exact Kd.R_mono HO288.out (fun _ hk => ⟨hk.1.2, hk.2⟩)) hg hat); have n2_ := ak (hb); have n3_ := ak (ho); clear BK278; clear HO288; clear HB; clear HO282; have BK278 := n0_; have HO288 := n1_; have HB := n2_; have HO285 := n3_; clear n0_ n1_ n2_ n3_; clear ho hb hg hat; refine hK.out _ _ (cy3 BK278.out) (fun hHeld => ?_); clear hK K; refine norm_ (a' := ?_) ?_ ?_
    rotate_left
    ·show Act.put _ (some 15) _ = _
     simp only [Act.put, List.setIfInBounds_toArray, List.set_cons_zero, List.set_cons_succ, i64_w, i32_w]
     rfl
    exact norm_ (by simp only [putAll, Act.put, List.setIfInBounds_toArray, List.set_cons_zero, List.set_cons_succ]) (hCont (v281, v284, v287) _ ⟨hHeld, (vr HO285.out), (by (with_reducible repeat (first | apply Kd.R_alloc | apply Kd.R_drewN | apply Kd.R_drew)); exact Kd.R_mono HO288.out (fun _ hk => ⟨hk.2, hk.1⟩)), (vk BK278.out), (vb HB.out)⟩)
  rintro ⟨v281, v284, v287⟩ w20 ⟨hS_, h0_, h1_, h2_, h3_⟩; have n0_ : Aside0 (Kd.R k42 42 w20 w.heap.size (fun k_ => some k_ ≠ (v287 : Value).ownBlock ∧ k_ ≠ gb278) v284 y283) := ⟨h0_⟩; have n1_ : Aside0 (Kd.R k42 42 w20 w.heap.size (fun k_ => some k_ ≠ (v284 : Value).ownBlock ∧ k_ ≠ gb278) v287 y286) := ⟨h1_⟩; have n2_ : Aside0 (w20.heap[gb278]? = some (.cells #[.int .i64 a1_0, .string a1_1, .int .i64 a1_2] 42 (0, 0))) := ⟨h2_⟩; have n3_ : Aside0 (Below w.heap.size w w20) := ⟨h3_⟩; clear BK278; clear HB; clear h0_ h1_ h2_ h3_; have HO285 := n0_; have HO288 := n1_; have BK278 := n2_; have HB := n3_; clear n0_ n1_ n2_ n3_; have hHeld : w20.cell? ⟨gb278, 0, none⟩ = some (.int .i64 a1_0) ∧ w20.cell? ⟨gb278, 1, none⟩ = some (.string a1_1) ∧ w20.cell? ⟨gb278, 2, none⟩ = some (.int .i64 a1_2) := hS_; obtain ⟨Ao22, co22, eo22⟩ := Kd.R_slice HO288.out; (first | subst eo22 | (injection eo22 with f1_ f2_ f3_; have f4_ := f1_.symm; have f5_ := f3_.symm; clear f1_ f2_ f3_; subst f4_; subst f5_))
  refine norm_ (a' := ?_) ?_ ?_
  rotate_left
  ·simp only [putAll, Act.put, List.setIfInBounds_toArray, List.set_cons_zero, List.set_cons_succ]
   rfl
  refine one_ (i := 5) (N := some 18) (tf 6 1) rfl rfl (by kernel_rfl) (by decide) (fun K hK => ?_); refine Kd.R_append_rows_step k42 (w0 := w) w.heap.size (by rfl) (.tmp 15) (.tmp 17) 25 42 (.agg #[(.int .i64 0), (.string ⟨#[]⟩), (.int .i64 0)]) 32 rfl Try.underlying25 info42 rfl (by decide) (by omega) v284 y283 y286 _ _ _ (fun k_ => some k_ ≠ (.slice Ao22 y286.length co22 : Value).ownBlock ∧ k_ ≠ gb278) (fun _ => False) rfl rfl ?aO ?aR (fun _ _ h => h) (fun _ h => h.elim) ?aF ?aB ?aS ?aL ?_; (case aR => repeat (first | exact (Kd.R_reads' HO288.out).2.2 | (with_reducible refine Kd.C_alloc ?_ _) | (with_reducible refine Kd.C_drewN ?_ _) | (with_reducible refine Kd.C_drew ?_)))
  (case aB => exact (vb HB.out))
  (case aF => exact (fun k_ hk => ⟨Kd.fresh' (Kd.R_lt (vr HO288.out)) k_ hk, Kd.freshB (g := gb278) (o := .cells #[.int .i64 a1_0, .string a1_1, .int .i64 a1_2] 42 (0, 0)) (vk BK278.out) k_ hk⟩))
  (case aO => exact (vr HO285.out))
  (case aS => exact (below_size (vb HB.out)))
  (case aL => have := LMc9.out; omega)
  intro v290 w21 ho hb hg hat; rw [← Ny289.out] at ho; have n0_ := ak (blk_grown (g := gb278) (o := .cells #[.int .i64 a1_0, .string a1_1, .int .i64 a1_2] 42 (0, 0)) (vk BK278.out) hg (Kd.R_away HO285.out (fun _ hk => hk.2))); have n1_ := ak (Kd.R_after (ok := (fun k_ => k_ ≠ gb278)) (by (with_reducible repeat (first | apply Kd.R_alloc | apply Kd.R_drewN | apply Kd.R_drew)); exact Kd.R_mono HO288.out (fun _ hk => ⟨hk.2, hk.1⟩)) hg hat); have n2_ := ak (hb); have n3_ := ak (ho); clear BK278; clear HO288; clear HB; clear HO285; have BK278 := n0_; have HO288 := n1_; have HB := n2_; have HO291 := n3_; clear n0_ n1_ n2_ n3_; clear ho hb hg hat; refine hK.out _ _ (cy3 BK278.out) (fun hHeld => ?_); clear hK K; refine norm_ (a' := ?_) ?_ ?_
  rotate_left
  ·show Act.put _ (some 18) _ = _
   simp only [Act.put, List.setIfInBounds_toArray, List.set_cons_zero, List.set_cons_succ, i64_w, i32_w]
   rfl
  refine pu_ 6 6 (tf 7 0) rfl rfl ?_ (by kernel_rfl); refine done_ (by kernel_rfl) ?_; obtain ⟨Ao23, co23, eo23⟩ := Kd.R_slice HO291.out; subst eo23; (try go_wp2_with (first | ((with_reducible refine at_fn (f := 16) rfl ?_); refine gl (some 20) Try.func16 #[.slice Ao23 y289.length co23] ?_; (with_reducible refine (spec_AreMoves.calls k _ _ y289 _ _ ?side1 ?side2 A10.out).mono ?_); (case side1 => repeat (first | exact (Kd.R_reads' HO291.out).2.2 | (with_reducible refine Kd.C_alloc ?_ _) | (with_reducible refine Kd.C_drewN ?_ _) | (with_reducible refine Kd.C_drew ?_))); (case side2 => exact (Kd.R_reads' HO291.out).2.1); rintro e w24 ⟨rfl, hb⟩; refine ⟨_, rfl, ?_⟩; replace HO288 := ak (Kd.R_below (vr HO288.out) hb); replace HO291 := ak (Kd.R_below (vr HO291.out) hb); replace BK278 := kb BK278 hb; replace HB := bs HB hb; (try clear hb); (try clear hb2); (try clear hk); (try clear hi))))
  go_ret2
  exact ⟨_, ew, by (with_reducible repeat (first | apply Kd.R_alloc | apply Kd.R_drewN | apply Kd.R_drew)); exact Kd.R_mono HO291.out (fun _ hk => trivial), vb HB.out⟩
 ·replace c11 := Bool.eq_false_iff.mpr c11; subst c11; rw [if_neg nf] at H; simp only [Option.some.injEq, Prod.mk.injEq] at H
  obtain ⟨rfl, rfl⟩ := H; go_enter Try.func27, Try.ntmps27; (try go_wp2_with (first | ((with_reducible refine gate_dst (N := 3) rfl ?_); refine bx 3 #[.int .i64 a1_0, .string a1_1, .int .i64 a1_2] 42 ?_; intro gb278 hg w25 hbox hb; have BK278 := ak hbox; have GW278 := gw hg HB; have GE278 := gw hg HB; replace HB := bs HB hb; clear hb hbox hg) | ((with_reducible refine at_fn (f := 16) rfl ?_); refine gl (some 8) Try.func16 #[.slice A0 l0.length c0] ?_; (with_reducible refine (spec_AreMoves.calls k _ _ l0 _ _ ?side1 HC0.out A3.out).mono ?_); (case side1 => exact vd HR0.out HB.out); rintro e w26 ⟨rfl, hb⟩; refine ⟨_, rfl, ?_⟩; replace BK278 := kb BK278 hb; replace HB := bs HB hb; (try clear hb); (try clear hb2); (try clear hk); (try clear hi))))
  replace BK278 := ak (blk_drew BK278.out); replace HB := ak (below_drew1 HB.out); refine start_ (n := 7) (S := fun w' => w'.cell? ⟨gb278, 0, none⟩ = some (.int .i64 a1_0) ∧ w'.cell? ⟨gb278, 1, none⟩ = some (.string a1_1) ∧ w'.cell? ⟨gb278, 2, none⟩ = some (.int .i64 a1_2)) (ds := []) (tf 0 7) (by kernel_rfl) rfl rfl (cy3 BK278.out) (fun hHeld => ?_); generalize w26.drew = w27 at BK278 HB hHeld ⊢; refine pu_ 1 14 #[false, true, false, false, false, false, false] rfl rfl ?_ (by kernel_rfl); refine ta3_ 3 16 #[false, true, false, true, false, false, false] rfl rfl ?_ (by kernel_rfl); refine join_ (σ := Value × Value × Value) 2 (tf 5 2) (fun s_ => [(13, s_.1), (15, s_.2.1), (17, s_.2.2)]) (fun s_ w' => (w'.cell? ⟨gb278, 0, none⟩ = some (.int .i64 a1_0) ∧ w'.cell? ⟨gb278, 1, none⟩ = some (.string a1_1) ∧ w'.cell? ⟨gb278, 2, none⟩ = some (.int .i64 a1_2)) ∧ (Kd.R k42 42 w' w.heap.size (fun k_ => some k_ ≠ (s_.2.2 : Value).ownBlock ∧ k_ ≠ gb278) s_.2.1 y283) ∧ (Kd.R k42 42 w' w.heap.size (fun k_ => some k_ ≠ (s_.2.1 : Value).ownBlock ∧ k_ ≠ gb278) s_.2.2 y286) ∧ (w'.heap[gb278]? = some (.cells #[.int .i64 a1_0, .string a1_1, .int .i64 a1_2] 42 (0, 0))) ∧ (Below w.heap.size w w')) ?_ ?_
  rotate_left
  ·intro hCont; refine two_ (i := 0) (j := 4) (Ni := some 13) (Nj := some 17) #[true, true, false, true, false, false, false] #[false, true, false, true, true, false, false] rfl rfl rfl rfl (by kernel_rfl) (by decide) (by decide) (fun K hK => ?_) (fun K hK => ?_)
   ·skip
    refine Kd.R_lit_step k42 _ 42 ?hg (N := 13) ?hd (xs := ([] : List (S42))) (inner := []) (ok := fun _ => True) (okp := fun _ => True) ?hr ?hp (fun _ hk => hk) trivial (Below.refl _ _) (Nat.le_refl _) (by simp) ?_; (case hd => rfl); (case hg => rfl); (case hr => first | (go_simp; done) | (go_simp; rfl)); (case hp => exact (Reps.none _ _)); intro v281 w28 ho29 hb hg_ hnew_; clear hg_ hnew_; (first | rw [← Ny280.out] at ho29 | (simp only [Int.reduceToNat] at ho29; rw [← Ny280.out] at ho29))
    have HO282 := ak (Kd.R_lower (Kd.R_newB ho29 (g := gb278) (o := .cells #[.int .i64 a1_0, .string a1_1, .int .i64 a1_2] 42 (0, 0)) (vk BK278.out)) (below_size (vb HB.out))); replace BK278 := kb BK278 hb; replace HB := bs HB hb; clear hb ho29; refine hK.out _ _ (cy3 BK278.out) (fun hHeld => ?_); clear hK K; refine norm_ (a' := ?_) ?_ ?_
    rotate_left
    ·show Act.put _ (some 13) _ = _
     simp only [Act.put, List.setIfInBounds_toArray, List.set_cons_zero, List.set_cons_succ, i64_w, i32_w]
     rfl
    refine two_ (i := 2) (j := 4) (Ni := some 15) (Nj := some 17) (tf 4 3) #[true, true, false, true, true, false, false] rfl rfl rfl rfl (by kernel_rfl) (by decide) (by decide) (fun K hK => ?_) (fun K hK => ?_)
    ·skip
     refine Kd.R_append_rows_step k42 (w0 := w) w.heap.size (by rfl) (.tmp 13) (.tmp 14) 25 42 (.agg #[(.int .i64 0), (.string ⟨#[]⟩), (.int .i64 0)]) 32 rfl Try.underlying25 info42 rfl (by decide) (by omega) v281 y280 l0 _ _ _ (fun k_ => k_ ≠ gb278) (fun _ => False) rfl rfl ?aO ?aR (fun _ _ h => h) (fun _ h => h.elim) ?aF ?aB ?aS ?aL ?_; (case aR => exact vd HR0.out HB.out)
     (case aB => exact (vb HB.out))
     (case aF => exact (fun k_ hk => Kd.freshB (g := gb278) (o := .cells #[.int .i64 a1_0, .string a1_1, .int .i64 a1_2] 42 (0, 0)) (vk BK278.out) k_ hk))
     (case aO => exact (by (with_reducible repeat (first | apply Kd.R_alloc | apply Kd.R_drewN | apply Kd.R_drew)); exact Kd.R_mono HO282.out (fun _ hk => hk.2)))
     (case aS => exact (below_size (vb HB.out)))
     (case aL => have := LMc8.out; omega)
     intro v284 w30 ho hb hg hat; rw [← Ny283.out] at ho; have n0_ := ak (blk_grown (g := gb278) (o := .cells #[.int .i64 a1_0, .string a1_1, .int .i64 a1_2] 42 (0, 0)) (vk BK278.out) hg (Kd.R_away HO282.out (fun _ hk => hk.2))); have n1_ := ak (hb); have n2_ := ak (ho); clear BK278; clear HB; clear HO282; have BK278 := n0_; have HB := n1_; have HO285 := n2_; clear n0_ n1_ n2_; clear ho hb hg hat; refine hK.out _ _ (cy3 BK278.out) (fun hHeld => ?_); clear hK K; refine norm_ (a' := ?_) ?_ ?_
     rotate_left
     ·show Act.put _ (some 15) _ = _
      simp only [Act.put, List.setIfInBounds_toArray, List.set_cons_zero, List.set_cons_succ, i64_w, i32_w]
      rfl
     refine one_ (i := 4) (N := some 17) (tf 5 2) rfl rfl (by kernel_rfl) (by decide) (fun K hK => ?_); refine Kd.R_lit_step k42 _ 42 ?hg (N := 17) ?hd (xs := ([(⟨a1_0, a1_1, a1_2⟩ : S42)] : List (S42))) (inner := [.int .i64 a1_0, .string a1_1, .int .i64 a1_2]) (ok := fun _ => True) (okp := fun _ => True) ?hr ?hp (fun _ hk => hk) trivial (Below.refl _ _) (Nat.le_refl _) (by simp) ?_; (case hd => rfl); (case hg => rfl); (case hr => first | (go_simp; done) | (go_simp; rfl)); (case hp => exact (Reps.c3 (show Kd.M k42 _ _ _ (⟨a1_0, a1_1, a1_2⟩ : S42) [.int .i64 a1_0, .string a1_1, .int .i64 a1_2] from (k42_mkM _ _ _ (⟨a1_0, a1_1, a1_2⟩ : S42) )) (Reps.none _ _))); intro v287 w31 ho32 hb hg_ hnew_; clear hg_ hnew_; (first | rw [← Ny286.out] at ho32 | (simp only [Int.reduceToNat] at ho32; rw [← Ny286.out] at ho32))
     have HO288 := ak (Kd.R_lower (Kd.R_newB (Kd.R_new' ho32 (Kd.R_lt (vr HO285.out))) (g := gb278) (o := .cells #[.int .i64 a1_0, .string a1_1, .int .i64 a1_2] 42 (0, 0)) (vk BK278.out)) (below_size (vb HB.out))); replace HO285 := ak (Kd.R_elder' (vr HO285.out) (Kd.R_base ho32) hb); replace BK278 := kb BK278 hb; replace HB := bs HB hb; clear hb ho32; refine hK.out _ _ (cy3 BK278.out) (fun hHeld => ?_); clear hK K; refine norm_ (a' := ?_) ?_ ?_
     rotate_left
     ·show Act.put _ (some 17) _ = _
      simp only [Act.put, List.setIfInBounds_toArray, List.set_cons_zero, List.set_cons_succ, i64_w, i32_w]
      rfl
     exact norm_ (by simp only [putAll, Act.put, List.setIfInBounds_toArray, List.set_cons_zero, List.set_cons_succ]) (hCont (v281, v284, v287) _ ⟨hHeld, (by (with_reducible repeat (first | apply Kd.R_alloc | apply Kd.R_drewN | apply Kd.R_drew)); exact Kd.R_mono HO285.out (fun _ hk => ⟨hk.2, hk.1⟩)), (by (with_reducible repeat (first | apply Kd.R_alloc | apply Kd.R_drewN | apply Kd.R_drew)); exact Kd.R_mono HO288.out (fun _ hk => ⟨hk.1.2, hk.2⟩)), (vk BK278.out), (vb HB.out)⟩)
    ·skip
     refine Kd.R_lit_step k42 _ 42 ?hg (N := 17) ?hd (xs := ([(⟨a1_0, a1_1, a1_2⟩ : S42)] : List (S42))) (inner := [.int .i64 a1_0, .string a1_1, .int .i64 a1_2]) (ok := fun _ => True) (okp := fun _ => True) ?hr ?hp (fun _ hk => hk) trivial (Below.refl _ _) (Nat.le_refl _) (by simp) ?_; (case hd => rfl); (case hg => rfl); (case hr => first | (go_simp; done) | (go_simp; rfl)); (case hp => exact (Reps.c3 (show Kd.M k42 _ _ _ (⟨a1_0, a1_1, a1_2⟩ : S42) [.int .i64 a1_0, .string a1_1, .int .i64 a1_2] from (k42_mkM _ _ _ (⟨a1_0, a1_1, a1_2⟩ : S42) )) (Reps.none _ _))); intro v287 w30 ho31 hb hg_ hnew_; clear hg_ hnew_; (first | rw [← Ny286.out] at ho31 | (simp only [Int.reduceToNat] at ho31; rw [← Ny286.out] at ho31))
     have HO288 := ak (Kd.R_lower (Kd.R_newB (Kd.R_new' ho31 (Kd.R_lt (vr HO282.out))) (g := gb278) (o := .cells #[.int .i64 a1_0, .string a1_1, .int .i64 a1_2] 42 (0, 0)) (vk BK278.out)) (below_size (vb HB.out))); replace HO282 := ak (Kd.R_elder' (vr HO282.out) (Kd.R_base ho31) hb); replace BK278 := kb BK278 hb; replace HB := bs HB hb; clear hb ho31; refine hK.out _ _ (cy3 BK278.out) (fun hHeld => ?_); clear hK K; refine norm_ (a' := ?_) ?_ ?_
     rotate_left
     ·show Act.put _ (some 17) _ = _
      simp only [Act.put, List.setIfInBounds_toArray, List.set_cons_zero, List.set_cons_succ, i64_w, i32_w]
      rfl
     refine one_ (i := 2) (N := some 15) (tf 5 2) rfl rfl (by kernel_rfl) (by decide) (fun K hK => ?_); refine Kd.R_append_rows_step k42 (w0 := w) w.heap.size (by rfl) (.tmp 13) (.tmp 14) 25 42 (.agg #[(.int .i64 0), (.string ⟨#[]⟩), (.int .i64 0)]) 32 rfl Try.underlying25 info42 rfl (by decide) (by omega) v281 y280 l0 _ _ _ (fun k_ => some k_ ≠ (v287 : Value).ownBlock ∧ k_ ≠ gb278) (fun _ => False) rfl rfl ?aO ?aR (fun _ _ h => h) (fun _ h => h.elim) ?aF ?aB ?aS ?aL ?_; (case aR => exact vd HR0.out HB.out)
     (case aB => exact (vb HB.out))
     (case aF => exact (fun k_ hk => ⟨Kd.fresh' (Kd.R_lt (vr HO288.out)) k_ hk, Kd.freshB (g := gb278) (o := .cells #[.int .i64 a1_0, .string a1_1, .int .i64 a1_2] 42 (0, 0)) (vk BK278.out) k_ hk⟩))
     (case aO => exact (by (with_reducible repeat (first | apply Kd.R_alloc | apply Kd.R_drewN | apply Kd.R_drew)); exact Kd.R_mono HO282.out (fun _ hk => ⟨hk.2, hk.1.2⟩)))
     (case aS => exact (below_size (vb HB.out)))
     (case aL => have := LMc8.out; omega)
     intro v284 w32 ho hb hg hat; rw [← Ny283.out] at ho; have n0_ := ak (blk_grown (g := gb278) (o := .cells #[.int .i64 a1_0, .string a1_1, .int .i64 a1_2] 42 (0, 0)) (vk BK278.out) hg (Kd.R_away HO282.out (fun _ hk => hk.1.2))); have n1_ := ak (Kd.R_after (ok := (fun k_ => k_ ≠ gb278)) (by (with_reducible repeat (first | apply Kd.R_alloc | apply Kd.R_drewN | apply Kd.R_drew)); exact Kd.R_mono HO288.out (fun _ hk => ⟨hk.2, hk.1.2⟩)) hg hat); have n2_ := ak (hb); have n3_ := ak (ho); clear BK278; clear HO288; clear HB; clear HO282; have BK278 := n0_; have HO288 := n1_; have HB := n2_; have HO285 := n3_; clear n0_ n1_ n2_ n3_; clear ho hb hg hat; refine hK.out _ _ (cy3 BK278.out) (fun hHeld => ?_); clear hK K; refine norm_ (a' := ?_) ?_ ?_
     rotate_left
     ·show Act.put _ (some 15) _ = _
      simp only [Act.put, List.setIfInBounds_toArray, List.set_cons_zero, List.set_cons_succ, i64_w, i32_w]
      rfl
     exact norm_ (by simp only [putAll, Act.put, List.setIfInBounds_toArray, List.set_cons_zero, List.set_cons_succ]) (hCont (v281, v284, v287) _ ⟨hHeld, (vr HO285.out), (by (with_reducible repeat (first | apply Kd.R_alloc | apply Kd.R_drewN | apply Kd.R_drew)); exact Kd.R_mono HO288.out (fun _ hk => ⟨hk.2, hk.1⟩)), (vk BK278.out), (vb HB.out)⟩)
   ·skip
    refine Kd.R_lit_step k42 _ 42 ?hg (N := 17) ?hd (xs := ([(⟨a1_0, a1_1, a1_2⟩ : S42)] : List (S42))) (inner := [.int .i64 a1_0, .string a1_1, .int .i64 a1_2]) (ok := fun _ => True) (okp := fun _ => True) ?hr ?hp (fun _ hk => hk) trivial (Below.refl _ _) (Nat.le_refl _) (by simp) ?_; (case hd => rfl); (case hg => rfl); (case hr => first | (go_simp; done) | (go_simp; rfl)); (case hp => exact (Reps.c3 (show Kd.M k42 _ _ _ (⟨a1_0, a1_1, a1_2⟩ : S42) [.int .i64 a1_0, .string a1_1, .int .i64 a1_2] from (k42_mkM _ _ _ (⟨a1_0, a1_1, a1_2⟩ : S42) )) (Reps.none _ _))); intro v287 w28 ho29 hb hg_ hnew_; clear hg_ hnew_; (first | rw [← Ny286.out] at ho29 | (simp only [Int.reduceToNat] at ho29; rw [← Ny286.out] at ho29))
    have HO288 := ak (Kd.R_lower (Kd.R_newB ho29 (g := gb278) (o := .cells #[.int .i64 a1_0, .string a1_1, .int .i64 a1_2] 42 (0, 0)) (vk BK278.out)) (below_size (vb HB.out))); replace BK278 := kb BK278 hb; replace HB := bs HB hb; clear hb ho29; refine hK.out _ _ (cy3 BK278.out) (fun hHeld => ?_); clear hK K; refine norm_ (a' := ?_) ?_ ?_
    rotate_left
    ·show Act.put _ (some 17) _ = _
     simp only [Act.put, List.setIfInBounds_toArray, List.set_cons_zero, List.set_cons_succ, i64_w, i32_w]
     rfl
    refine one_ (i := 0) (N := some 13) #[true, true, false, true, true, false, false] rfl rfl (by kernel_rfl) (by decide) (fun K hK => ?_); refine Kd.R_lit_step k42 _ 42 ?hg (N := 13) ?hd (xs := ([] : List (S42))) (inner := []) (ok := fun _ => True) (okp := fun _ => True) ?hr ?hp (fun _ hk => hk) trivial (Below.refl _ _) (Nat.le_refl _) (by simp) ?_; (case hd => rfl); (case hg => rfl); (case hr => first | (go_simp; done) | (go_simp; rfl)); (case hp => exact (Reps.none _ _)); intro v281 w30 ho31 hb hg_ hnew_; clear hg_ hnew_; (first | rw [← Ny280.out] at ho31 | (simp only [Int.reduceToNat] at ho31; rw [← Ny280.out] at ho31))
    have HO282 := ak (Kd.R_lower (Kd.R_newB (Kd.R_new' ho31 (Kd.R_lt (vr HO288.out))) (g := gb278) (o := .cells #[.int .i64 a1_0, .string a1_1, .int .i64 a1_2] 42 (0, 0)) (vk BK278.out)) (below_size (vb HB.out))); replace HO288 := ak (Kd.R_elder' (vr HO288.out) (Kd.R_base ho31) hb); replace BK278 := kb BK278 hb; replace HB := bs HB hb; clear hb ho31; refine hK.out _ _ (cy3 BK278.out) (fun hHeld => ?_); clear hK K; refine norm_ (a' := ?_) ?_ ?_
    rotate_left
    ·show Act.put _ (some 13) _ = _
     simp only [Act.put, List.setIfInBounds_toArray, List.set_cons_zero, List.set_cons_succ, i64_w, i32_w]
     rfl
    refine one_ (i := 2) (N := some 15) (tf 5 2) rfl rfl (by kernel_rfl) (by decide) (fun K hK => ?_); refine Kd.R_append_rows_step k42 (w0 := w) w.heap.size (by rfl) (.tmp 13) (.tmp 14) 25 42 (.agg #[(.int .i64 0), (.string ⟨#[]⟩), (.int .i64 0)]) 32 rfl Try.underlying25 info42 rfl (by decide) (by omega) v281 y280 l0 _ _ _ (fun k_ => some k_ ≠ (v287 : Value).ownBlock ∧ k_ ≠ gb278) (fun _ => False) rfl rfl ?aO ?aR (fun _ _ h => h) (fun _ h => h.elim) ?aF ?aB ?aS ?aL ?_; (case aR => exact vd HR0.out HB.out)
    (case aB => exact (vb HB.out))
    (case aF => exact (fun k_ hk => ⟨Kd.fresh' (Kd.R_lt (vr HO288.out)) k_ hk, Kd.freshB (g := gb278) (o := .cells #[.int .i64 a1_0, .string a1_1, .int .i64 a1_2] 42 (0, 0)) (vk BK278.out) k_ hk⟩))
    (case aO => exact (by (with_reducible repeat (first | apply Kd.R_alloc | apply Kd.R_drewN | apply Kd.R_drew)); exact Kd.R_mono HO282.out (fun _ hk => ⟨hk.1.2, hk.2⟩)))
    (case aS => exact (below_size (vb HB.out)))
    (case aL => have := LMc8.out; omega)
    intro v284 w32 ho hb hg hat; rw [← Ny283.out] at ho; have n0_ := ak (blk_grown (g := gb278) (o := .cells #[.int .i64 a1_0, .string a1_1, .int .i64 a1_2] 42 (0, 0)) (vk BK278.out) hg (Kd.R_away HO282.out (fun _ hk => hk.2))); have n1_ := ak (Kd.R_after (ok := (fun k_ => k_ ≠ gb278)) (by (with_reducible repeat (first | apply Kd.R_alloc | apply Kd.R_drewN | apply Kd.R_drew)); exact Kd.R_mono HO288.out (fun _ hk => ⟨hk.1.2, hk.2⟩)) hg hat); have n2_ := ak (hb); have n3_ := ak (ho); clear BK278; clear HO288; clear HB; clear HO282; have BK278 := n0_; have HO288 := n1_; have HB := n2_; have HO285 := n3_; clear n0_ n1_ n2_ n3_; clear ho hb hg hat; refine hK.out _ _ (cy3 BK278.out) (fun hHeld => ?_); clear hK K; refine norm_ (a' := ?_) ?_ ?_
    rotate_left
    ·show Act.put _ (some 15) _ = _
     simp only [Act.put, List.setIfInBounds_toArray, List.set_cons_zero, List.set_cons_succ, i64_w, i32_w]
     rfl
    exact norm_ (by simp only [putAll, Act.put, List.setIfInBounds_toArray, List.set_cons_zero, List.set_cons_succ]) (hCont (v281, v284, v287) _ ⟨hHeld, (vr HO285.out), (by (with_reducible repeat (first | apply Kd.R_alloc | apply Kd.R_drewN | apply Kd.R_drew)); exact Kd.R_mono HO288.out (fun _ hk => ⟨hk.2, hk.1⟩)), (vk BK278.out), (vb HB.out)⟩)
  rintro ⟨v281, v284, v287⟩ w33 ⟨hS_, h0_, h1_, h2_, h3_⟩; have n0_ : Aside0 (Kd.R k42 42 w33 w.heap.size (fun k_ => some k_ ≠ (v287 : Value).ownBlock ∧ k_ ≠ gb278) v284 y283) := ⟨h0_⟩; have n1_ : Aside0 (Kd.R k42 42 w33 w.heap.size (fun k_ => some k_ ≠ (v284 : Value).ownBlock ∧ k_ ≠ gb278) v287 y286) := ⟨h1_⟩; have n2_ : Aside0 (w33.heap[gb278]? = some (.cells #[.int .i64 a1_0, .string a1_1, .int .i64 a1_2] 42 (0, 0))) := ⟨h2_⟩; have n3_ : Aside0 (Below w.heap.size w w33) := ⟨h3_⟩; clear BK278; clear HB; clear h0_ h1_ h2_ h3_; have HO285 := n0_; have HO288 := n1_; have BK278 := n2_; have HB := n3_; clear n0_ n1_ n2_ n3_; have hHeld : w33.cell? ⟨gb278, 0, none⟩ = some (.int .i64 a1_0) ∧ w33.cell? ⟨gb278, 1, none⟩ = some (.string a1_1) ∧ w33.cell? ⟨gb278, 2, none⟩ = some (.int .i64 a1_2) := hS_; obtain ⟨Ao35, co35, eo35⟩ := Kd.R_slice HO288.out; (first | subst eo35 | (injection eo35 with f1_ f2_ f3_; have f4_ := f1_.symm; have f5_ := f3_.symm; clear f1_ f2_ f3_; subst f4_; subst f5_))
  refine norm_ (a' := ?_) ?_ ?_
  rotate_left
  ·simp only [putAll, Act.put, List.setIfInBounds_toArray, List.set_cons_zero, List.set_cons_succ]
   rfl
  refine one_ (i := 5) (N := some 18) (tf 6 1) rfl rfl (by kernel_rfl) (by decide) (fun K hK => ?_); refine Kd.R_append_rows_step k42 (w0 := w) w.heap.size (by rfl) (.tmp 15) (.tmp 17) 25 42 (.agg #[(.int .i64 0), (.string ⟨#[]⟩), (.int .i64 0)]) 32 rfl Try.underlying25 info42 rfl (by decide) (by omega) v284 y283 y286 _ _ _ (fun k_ => some k_ ≠ (.slice Ao35 y286.length co35 : Value).ownBlock ∧ k_ ≠ gb278) (fun _ => False) rfl rfl ?aO ?aR (fun _ _ h => h) (fun _ h => h.elim) ?aF ?aB ?aS ?aL ?_; (case aR => repeat (first | exact (Kd.R_reads' HO288.out).2.2 | (with_reducible refine Kd.C_alloc ?_ _) | (with_reducible refine Kd.C_drewN ?_ _) | (with_reducible refine Kd.C_drew ?_)))
  (case aB => exact (vb HB.out))
  (case aF => exact (fun k_ hk => ⟨Kd.fresh' (Kd.R_lt (vr HO288.out)) k_ hk, Kd.freshB (g := gb278) (o := .cells #[.int .i64 a1_0, .string a1_1, .int .i64 a1_2] 42 (0, 0)) (vk BK278.out) k_ hk⟩))
  (case aO => exact (vr HO285.out))
  (case aS => exact (below_size (vb HB.out)))
  (case aL => have := LMc9.out; omega)
  intro v290 w34 ho hb hg hat; rw [← Ny289.out] at ho; have n0_ := ak (blk_grown (g := gb278) (o := .cells #[.int .i64 a1_0, .string a1_1, .int .i64 a1_2] 42 (0, 0)) (vk BK278.out) hg (Kd.R_away HO285.out (fun _ hk => hk.2))); have n1_ := ak (Kd.R_after (ok := (fun k_ => k_ ≠ gb278)) (by (with_reducible repeat (first | apply Kd.R_alloc | apply Kd.R_drewN | apply Kd.R_drew)); exact Kd.R_mono HO288.out (fun _ hk => ⟨hk.2, hk.1⟩)) hg hat); have n2_ := ak (hb); have n3_ := ak (ho); clear BK278; clear HO288; clear HB; clear HO285; have BK278 := n0_; have HO288 := n1_; have HB := n2_; have HO291 := n3_; clear n0_ n1_ n2_ n3_; clear ho hb hg hat; refine hK.out _ _ (cy3 BK278.out) (fun hHeld => ?_); clear hK K; refine norm_ (a' := ?_) ?_ ?_
  rotate_left
  ·show Act.put _ (some 18) _ = _
   simp only [Act.put, List.setIfInBounds_toArray, List.set_cons_zero, List.set_cons_succ, i64_w, i32_w]
   rfl
  refine pu_ 6 6 (tf 7 0) rfl rfl ?_ (by kernel_rfl); refine done_ (by kernel_rfl) ?_; obtain ⟨Ao36, co36, eo36⟩ := Kd.R_slice HO291.out; subst eo36; (try go_wp2_with (first | ((with_reducible refine at_fn (f := 16) rfl ?_); refine gl (some 20) Try.func16 #[.slice Ao36 y289.length co36] ?_; (with_reducible refine (spec_AreMoves.calls k _ _ y289 _ _ ?side1 ?side2 A10.out).mono ?_); (case side1 => repeat (first | exact (Kd.R_reads' HO291.out).2.2 | (with_reducible refine Kd.C_alloc ?_ _) | (with_reducible refine Kd.C_drewN ?_ _) | (with_reducible refine Kd.C_drew ?_))); (case side2 => exact (Kd.R_reads' HO291.out).2.1); rintro e w37 ⟨rfl, hb⟩; refine ⟨_, rfl, ?_⟩; replace HO288 := ak (Kd.R_below (vr HO288.out) hb); replace HO291 := ak (Kd.R_below (vr HO291.out) hb); replace BK278 := kb BK278 hb; replace HB := bs HB hb; (try clear hb); (try clear hb2); (try clear hk); (try clear hi))))
  go_ret2
  exact ⟨_, ew, by first | exact Kd.R_nil _ _ _ _ _ | exact Kd.N_nil _ _ _ _ _ | exact Kd.V_nil _ _ _ _ _ | exact Kd.Q_nil _ _ _ _ _ | exact Kd.S_nil _ _ _ _ _, vb HB.out⟩
 ·rw [if_neg c9] at H; exact absurd H (by simp)
 ·rw [if_neg c8] at H; exact absurd H (by simp)
 replace c4 := Bool.eq_false_iff.mpr c4; subst c4; rw [if_neg nf] at H; simp only [Option.some.injEq, Prod.mk.injEq] at H
 obtain ⟨rfl, rfl⟩ := H; rotate_left
 all_goals
  go_enter Try.func27, Try.ntmps27; go_wp2_with (first | ((with_reducible refine gate_dst (N := 3) rfl ?_); refine bx 3 #[.int .i64 a1_0, .string a1_1, .int .i64 a1_2] 42 ?_; intro gb278 hg w9 hbox hb; have BK278 := ak hbox; have GW278 := gw hg HB; have GE278 := gw hg HB; replace HB := bs HB hb; clear hb hbox hg) | ((with_reducible refine at_fn (f := 16) rfl ?_); refine gl (some 8) Try.func16 #[.slice A0 l0.length c0] ?_; (with_reducible refine (spec_AreMoves.calls k _ _ l0 _ _ ?side1 HC0.out A3.out).mono ?_); (case side1 => exact vd HR0.out HB.out); rintro e w9 ⟨rfl, hb⟩; refine ⟨_, rfl, ?_⟩; replace BK278 := kb BK278 hb; replace HB := bs HB hb; (try clear hb); (try clear hb2); (try clear hk); (try clear hi)))
  go_ret2
  exact ⟨_, ew, by first | exact Kd.R_nil _ _ _ _ _ | exact Kd.N_nil _ _ _ _ _ | exact Kd.V_nil _ _ _ _ _ | exact Kd.Q_nil _ _ _ _ _ | exact Kd.S_nil _ _ _ _ _, vb HB.out⟩


end Go.Proofs.Ytllhghcepbkpeaa.Pall
