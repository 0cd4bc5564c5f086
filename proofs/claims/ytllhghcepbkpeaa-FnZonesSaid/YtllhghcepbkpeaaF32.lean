/- Go functions of the program, each as a Lean function, and the proof that each call comes to what the Lean function tells; no condition beyond those that stand there. -/
import Derived.Test.YtllhghcepbkpeaaF0e
import Derived.Test.YtllhghcepbkpeaaF31
import Derived.Test.YtllhghcepbkpeaaWRepsOne
import Derived.Test.YtllhghcepbkpeaaSpare
import Derived.Test.YtllhghcepbkpeaaCm
import Derived.Test.YtllhghcepbkpeaaCm3
namespace Go.Proofs.Ytllhghcepbkpeaa.Pall
open Go.RowKit Go.Proofs.YtllhghcepbkpeaaW.PrintWords
set_option linter.unusedVariables false
set_option linter.unusedSimpArgs false

/-! ### spec_DrawAddMove: function 46 -/
def spec_DrawAddMove.f (k : Nat) (l0 : List Int) : Option ((List (S42)) × Int × ByteArray × Int) := (spec_l01From.f k l0).bind fun bt697 => ((spec_l20Draw.f k bt697.1 bt697.2.1 bt697.2.2).bind fun bt701 => ((spec_l01Next.f bt697.1 bt701.2.1 bt701.2.2 200000).bind fun bt706 => ((spec_l01Pick.f bt697.1 bt706.2.1 bt706.2.2 (([600000, bt706.1, 10000001] : List Int))).bind fun bt712 => ((spec_l20Zone.f bt697.1 bt712.2.1 bt712.2.2).bind fun bt715 => ((spec_l01Pick.f bt697.1 bt715.2.1 bt715.2.2 (([1, 2, (-1), (-2), 0] : List Int))).bind fun bt721 => (some (bt701.1, bt712.1, bt715.1, bt721.1)))))))
theorem spec_DrawAddMove.mono : ∀ a0 k, LeO (spec_DrawAddMove.f k a0) (spec_DrawAddMove.f (k + 1) a0) := by
 intro a0 k; unfold spec_DrawAddMove.f
 repeat' first | (with_reducible first | exact spec_l01From.mono _ _ | exact spec_l20Draw.mono _ _ _ _ | exact LeO.refl _ | exact LeO.none _ | refine LeO.ite ?_ ?_ | refine LeO.bind ?_ (fun _ => ?_)) | exact spec_l01From.mono _ _ | exact spec_l20Draw.mono _ _ _ _ | exact LeO.none _ | refine LeO.ite ?_ ?_ | refine LeO.bind ?_ (fun _ => ?_)
set_option maxHeartbeats 8000000 in
set_option maxRecDepth 100000 in
theorem spec_DrawAddMove.calls (k : Nat) (A0 : Option Addr) (c0 : Nat) (l0 : List Int) (r1 : List (S42)) (r2 : Int) (r3 : ByteArray) (r4 : Int) (w : World) (hr0 : Kd.C (Kd.int .u8) w A0 l0.length l0) (hc0 : l0.length ≤ c0) (h : spec_DrawAddMove.f k l0 = some (r1, r2, r3, r4)) :
  Calls Try.prog 46 #[.slice A0 l0.length c0] w fun e w' => ∃ v0_ : Value, e = .returned (.tuple #[v0_, .agg #[.int .i64 r2, .string r3, .int .i64 r4]]) ∧ Kd.R k42 42 w' w.heap.size (fun _ => True) v0_ r1 ∧ Below w.heap.size w w' := by
 have hu42 := Try.underlying42; have HR0 := ak hr0; have HC0 := ak hc0; clear hr0 hc0; have HB := ak (Below.refl w.heap.size w); unfold spec_DrawAddMove.f at h; have H := h; clear h; obtain ⟨⟨t697, t698, t699⟩, A20, H⟩ := bnd H; replace H : ((spec_l20Draw.f k t697 t698 t699).bind fun bt701 => ((spec_l01Next.f t697 bt701.2.1 bt701.2.2 200000).bind fun bt706 => ((spec_l01Pick.f t697 bt706.2.1 bt706.2.2 (([600000, bt706.1, 10000001] : List Int))).bind fun bt712 => ((spec_l20Zone.f t697 bt712.2.1 bt712.2.2).bind fun bt715 => ((spec_l01Pick.f t697 bt715.2.1 bt715.2.2 (([1, 2, (-1), (-2), 0] : List Int))).bind fun bt721 => (some (bt701.1, bt712.1, bt715.1, bt721.1))))))) = some (r1, r2, r3, r4) := H; have A2 := ak A20; clear A20; obtain ⟨⟨t701, t704, t705⟩, A30, H⟩ := bnd H; replace H : ((spec_l01Next.f t697 t704 t705 200000).bind fun bt706 => ((spec_l01Pick.f t697 bt706.2.1 bt706.2.2 (([600000, bt706.1, 10000001] : List Int))).bind fun bt712 => ((spec_l20Zone.f t697 bt712.2.1 bt712.2.2).bind fun bt715 => ((spec_l01Pick.f t697 bt715.2.1 bt715.2.2 (([1, 2, (-1), (-2), 0] : List Int))).bind fun bt721 => (some (t701, bt712.1, bt715.1, bt721.1)))))) = some (r1, r2, r3, r4) := H
 have A3 := ak A30; clear A30; obtain ⟨⟨t706, t707, t708⟩, A40, H⟩ := bnd H; replace H : ((spec_l01Pick.f t697 t707 t708 (([600000, t706, 10000001] : List Int))).bind fun bt712 => ((spec_l20Zone.f t697 bt712.2.1 bt712.2.2).bind fun bt715 => ((spec_l01Pick.f t697 bt715.2.1 bt715.2.2 (([1, 2, (-1), (-2), 0] : List Int))).bind fun bt721 => (some (t701, bt712.1, bt715.1, bt721.1))))) = some (r1, r2, r3, r4) := H; have A4 := ak A40; clear A40; obtain ⟨y709, hy709⟩ := gen_ (([600000, t706, 10000001] : List Int)); rw [← hy709] at H; have Ny709 := ak hy709; clear hy709; obtain ⟨⟨t712, t713, t714⟩, A50, H⟩ := bnd H; replace H : ((spec_l20Zone.f t697 t713 t714).bind fun bt715 => ((spec_l01Pick.f t697 bt715.2.1 bt715.2.2 (([1, 2, (-1), (-2), 0] : List Int))).bind fun bt721 => (some (t701, t712, bt715.1, bt721.1)))) = some (r1, r2, r3, r4) := H; have A5 := ak A50; clear A50; obtain ⟨⟨t715, t716, t717⟩, A60, H⟩ := bnd H; replace H : ((spec_l01Pick.f t697 t716 t717 (([1, 2, (-1), (-2), 0] : List Int))).bind fun bt721 => (some (t701, t712, t715, bt721.1))) = some (r1, r2, r3, r4) := H; have A6 := ak A60; clear A60; obtain ⟨y718, hy718⟩ := gen_ (([1, 2, (-1), (-2), 0] : List Int)); rw [← hy718] at H; have Ny718 := ak hy718; clear hy718; obtain ⟨⟨t721, t722, t723⟩, A70, H⟩ := bnd H; replace H : (some (t701, t712, t715, t721)) = some (r1, r2, r3, r4) := H; have A7 := ak A70; clear A70; simp only [Option.some.injEq, Prod.mk.injEq] at H
 obtain ⟨rfl, rfl, rfl, rfl⟩ := H; go_enter Try.func46, Try.ntmps46; go_wp2_with (first | ((with_reducible refine gate_dst (N := 3) rfl ?_); refine bx 3 #[.int .i64 0, .string (⟨#[]⟩ : ByteArray), .int .i64 0] 42 ?_; intro gb696 hg w8 hbox hb; have BK696 := ak hbox; have GW696 := gw hg HB; have GE696 := gw hg HB; replace HB := bs HB hb; clear hb hbox hg) | ((with_reducible refine at_fn (f := 85) rfl ?_); refine gl (some 7) Try.func85 #[.slice A0 l0.length c0] ?_; (with_reducible refine (spec_l01From.calls k _ _ l0 t697 t698 t699 w _ ?side1 HR0.out HC0.out A2.out).mono ?_); (case side1 => exact vq HB.out GE696.out); rintro e w9 ⟨g700, rfl, hi, hb, hb2⟩; refine ⟨_, rfl, ?_⟩; replace HB := ak (hb); have HI700 := ak (hi); have NB700_696 := ak (IsS110.ne_blk hi (blk_below (vk BK696.out) hb2) (by decide)); have NB696_700 := ak (Ne.symm (IsS110.ne_blk hi (blk_below (vk BK696.out) hb2) (by decide))); replace BK696 := ak (blk_below (vk BK696.out) hb2); (try clear hb); (try clear hb2); (try clear hk); (try clear hi)) | ((with_reducible refine at_fn (f := 86) rfl ?_); refine gl (some 9) Try.func86 #[.pointer (some ⟨g700, 0, none⟩)] ?_; (with_reducible refine (spec_l20Draw.calls k g700 t697 t698 t699 t701 t704 t705 w _ ?side1 ?side2 A3.out).mono ?_); (case side1 => repeat (first | (with_reducible first | exact HI700.out | apply IsS110.alloc | apply IsS110.drewN | apply IsS110.drew | apply IsS110.set_1 | apply IsS110.set_2 | refine IsS110.far ?_ NB700_696.out _) | exact HI700.out)); (case side2 => exact vg110 HB.out HI700.out GE696.out); rintro e w10 ⟨v702, rfl, ho0, hi, hb, hk⟩; refine ⟨_, rfl, ?_⟩; have HO703 := ak (Kd.R_lower (Kd.R_newB ho0 (g := gb696) (o := .cells #[.int .i64 0, .string (⟨#[]⟩ : ByteArray), .int .i64 0] 42 (0, 0)) (vk BK696.out)) (below_size (by exact vg110 HB.out HI700.out GE696.out))); replace BK696 := ak (KeepBut.blk hk (g' := gb696) (o := .cells #[.int .i64 0, .string (⟨#[]⟩ : ByteArray), .int .i64 0] 42 (0, 0)) (vk BK696.out) NB696_700.out (by simp)); replace HB := ak (hb); replace HI700 := ak (hi); (try clear hb); (try clear hb2); (try clear hk); (try clear hi); (try clear ho0)) | ((with_reducible refine at_fn (f := 88) rfl ?_); refine gl (some 13) Try.func88 #[.pointer (some ⟨g700, 0, none⟩), .int .i64 200000] ?_; (with_reducible refine (spec_l01Next.calls g700 t697 t704 t705 200000 t706 t707 t708 w _ ?side1 ?side2 A4.out).mono ?_); (case side1 => repeat (first | (with_reducible first | exact HI700.out | apply IsS110.alloc | apply IsS110.drewN | apply IsS110.drew | apply IsS110.set_1 | apply IsS110.set_2 | refine IsS110.far ?_ NB700_696.out _) | exact HI700.out)); (case side2 => exact vg110 HB.out HI700.out GE696.out); rintro e w11 ⟨rfl, hi, hb, hk⟩; refine ⟨_, rfl, ?_⟩; replace BK696 := ak (KeepBut.blk hk (g' := gb696) (o := .cells #[.int .i64 0, .string (⟨#[]⟩ : ByteArray), .int .i64 0] 42 (0, 0)) (vk BK696.out) NB696_700.out (by simp)); replace HO703 := ak (Kd.R_mono (Kd.R_keep (IsS110.apart (show IsS110 w _ g700 t697 t704 t705 from by repeat (first | (with_reducible first | exact HI700.out | apply IsS110.alloc | apply IsS110.drewN | apply IsS110.drew | apply IsS110.set_1 | apply IsS110.set_2 | refine IsS110.far ?_ NB700_696.out _) | exact HI700.out)) (vr HO703.out) (by decide)) hk (fun _ h => h.2)) (fun _ h => h.1)); replace HB := ak (hb); replace HI700 := ak (hi); (try clear hb); (try clear hb2); (try clear hk); (try clear hi)) | ((with_reducible refine gate_dst (N := 14) rfl ?_); refine Kd.R_lit (Kd.int .i64) _ 2 ?hg (N := 14) ?hd (xs := ([600000, t706, 10000001] : List Int)) (inner := [.int .i64 600000, .int .i64 t706, .int .i64 10000001]) (ok := fun _ => True) (okp := fun _ => True) ?hr ?hp (fun _ hk => hk) trivial (Below.refl _ _) (Nat.le_refl _) (by simp) ?_; (case hd => rfl); (case hg => rfl); (case hr => first | (go_simp; done) | (go_simp; rfl)); (case hp => exact (Reps.one (show Kd.M (Kd.int .i64) _ _ _ 600000 [.int .i64 600000] from rfl) (Reps.one (show Kd.M (Kd.int .i64) _ _ _ t706 [.int .i64 t706] from rfl) (Reps.one (show Kd.M (Kd.int .i64) _ _ _ 10000001 [.int .i64 10000001] from rfl) (Reps.none _ _))))); intro v710 w12 ho13 hb hg_ hnew_; clear hg_ hnew_; (first | rw [← Ny709.out] at ho13 | (simp only [Int.reduceToNat] at ho13; rw [← Ny709.out] at ho13)); replace HO703 := ak (Kd.R_below (vr HO703.out) hb); have HO711 := ak (Kd.R_lower ho13 (below_size (by exact vg110 HB.out HI700.out GE696.out))); replace BK696 := kb BK696 hb; replace HB := ak (below_step (by exact vg110 HB.out HI700.out GE696.out) hb); replace HI700 := ak (IsS110.below (by repeat (first | (with_reducible first | exact HI700.out | apply IsS110.alloc | apply IsS110.drewN | apply IsS110.drew | apply IsS110.set_1 | apply IsS110.set_2 | refine IsS110.far ?_ NB700_696.out _) | exact HI700.out)) hb); clear hb ho13; obtain ⟨Ao14, co14, eo14⟩ := Kd.R_slice HO711.out; subst eo14) | ((with_reducible refine at_fn (f := 87) rfl ?_); refine gl (some 15) Try.func87 #[.pointer (some ⟨g700, 0, none⟩), .slice Ao14 y709.length co14] ?_; (with_reducible refine (spec_l01Pick.calls g700 t697 t707 t708 _ _ y709 t712 t713 t714 w _ ?side1 ?side2 ?side3 ?side4 ?side5 A5.out).mono ?_); (case side1 => repeat (first | (with_reducible first | exact HI700.out | apply IsS110.alloc | apply IsS110.drewN | apply IsS110.drew | apply IsS110.set_1 | apply IsS110.set_2 | refine IsS110.far ?_ NB700_696.out _) | exact HI700.out)); (case side2 => exact vg110 HB.out HI700.out GE696.out); (case side3 => repeat (first | exact (Kd.R_reads' HO711.out).2.2 | (with_reducible refine Kd.C_alloc ?_ _) | (with_reducible refine Kd.C_drewN ?_ _) | (with_reducible refine Kd.C_drew ?_))); (case side4 => exact (Kd.R_reads' HO711.out).2.1); (case side5 => exact far_slice (IsS110.own_ne HI700.out HO711.out (by decide))); rintro e w15 ⟨rfl, hi, hb, hk⟩; refine ⟨_, rfl, ?_⟩; replace BK696 := ak (KeepBut.blk hk (g' := gb696) (o := .cells #[.int .i64 0, .string (⟨#[]⟩ : ByteArray), .int .i64 0] 42 (0, 0)) (vk BK696.out) NB696_700.out (by simp)); replace HO703 := ak (Kd.R_mono (Kd.R_keep (IsS110.apart (show IsS110 w _ g700 t697 t707 t708 from by repeat (first | (with_reducible first | exact HI700.out | apply IsS110.alloc | apply IsS110.drewN | apply IsS110.drew | apply IsS110.set_1 | apply IsS110.set_2 | refine IsS110.far ?_ NB700_696.out _) | exact HI700.out)) (vr HO703.out) (by decide)) hk (fun _ h => h.2)) (fun _ h => h.1)); replace HO711 := ak (Kd.R_mono (Kd.R_keep (IsS110.apart (show IsS110 w _ g700 t697 t707 t708 from by repeat (first | (with_reducible first | exact HI700.out | apply IsS110.alloc | apply IsS110.drewN | apply IsS110.drew | apply IsS110.set_1 | apply IsS110.set_2 | refine IsS110.far ?_ NB700_696.out _) | exact HI700.out)) (vr HO711.out) (by decide)) hk (fun _ h => h.2)) (fun _ h => h.1)); replace HB := ak (hb); replace HI700 := ak (hi); (try clear hb); (try clear hb2); (try clear hk); (try clear hi)) | ((with_reducible refine at_fn (f := 89) rfl ?_); refine gl (some 17) Try.func89 #[.pointer (some ⟨g700, 0, none⟩)] ?_; (with_reducible refine (spec_l20Zone.calls g700 t697 t713 t714 t715 t716 t717 w _ ?side1 ?side2 A6.out).mono ?_); (case side1 => repeat (first | (with_reducible first | exact HI700.out | apply IsS110.alloc | apply IsS110.drewN | apply IsS110.drew | apply IsS110.set_1 | apply IsS110.set_2 | refine IsS110.far ?_ NB700_696.out _) | exact HI700.out)); (case side2 => exact vg110 HB.out HI700.out GE696.out); rintro e w16 ⟨rfl, hi, hb, hk⟩; refine ⟨_, rfl, ?_⟩; replace BK696 := ak (KeepBut.blk hk (g' := gb696) (o := .cells #[.int .i64 0, .string (⟨#[]⟩ : ByteArray), .int .i64 0] 42 (0, 0)) (vk BK696.out) NB696_700.out (by simp)); replace HO703 := ak (Kd.R_mono (Kd.R_keep (IsS110.apart (show IsS110 w _ g700 t697 t713 t714 from by repeat (first | (with_reducible first | exact HI700.out | apply IsS110.alloc | apply IsS110.drewN | apply IsS110.drew | apply IsS110.set_1 | apply IsS110.set_2 | refine IsS110.far ?_ NB700_696.out _) | exact HI700.out)) (vr HO703.out) (by decide)) hk (fun _ h => h.2)) (fun _ h => h.1)); replace HO711 := ak (Kd.R_mono (Kd.R_keep (IsS110.apart (show IsS110 w _ g700 t697 t713 t714 from by repeat (first | (with_reducible first | exact HI700.out | apply IsS110.alloc | apply IsS110.drewN | apply IsS110.drew | apply IsS110.set_1 | apply IsS110.set_2 | refine IsS110.far ?_ NB700_696.out _) | exact HI700.out)) (vr HO711.out) (by decide)) hk (fun _ h => h.2)) (fun _ h => h.1)); replace HB := ak (hb); replace HI700 := ak (hi); (try clear hb); (try clear hb2); (try clear hk); (try clear hi)) | ((with_reducible refine gate_dst (N := 19) rfl ?_); refine Kd.R_lit (Kd.int .i64) _ 2 ?hg (N := 19) ?hd (xs := ([1, 2, (-1), (-2), 0] : List Int)) (inner := [.int .i64 1, .int .i64 2, .int .i64 (-1), .int .i64 (-2), .int .i64 0]) (ok := fun _ => True) (okp := fun _ => True) ?hr ?hp (fun _ hk => hk) trivial (Below.refl _ _) (Nat.le_refl _) (by simp) ?_; (case hd => rfl); (case hg => rfl); (case hr => first | (go_simp; done) | (go_simp; rfl)); (case hp => exact (Reps.one (show Kd.M (Kd.int .i64) _ _ _ 1 [.int .i64 1] from rfl) (Reps.one (show Kd.M (Kd.int .i64) _ _ _ 2 [.int .i64 2] from rfl) (Reps.one (show Kd.M (Kd.int .i64) _ _ _ (-1) [.int .i64 (-1)] from rfl) (Reps.one (show Kd.M (Kd.int .i64) _ _ _ (-2) [.int .i64 (-2)] from rfl) (Reps.one (show Kd.M (Kd.int .i64) _ _ _ 0 [.int .i64 0] from rfl) (Reps.none _ _))))))); intro v719 w17 ho18 hb hg_ hnew_; clear hg_ hnew_; (first | rw [← Ny718.out] at ho18 | (simp only [Int.reduceToNat] at ho18; rw [← Ny718.out] at ho18)); replace HO703 := ak (Kd.R_below (vr HO703.out) hb); have HO720 := ak (Kd.R_lower (Kd.R_new' ho18 (Kd.R_lt (vr HO711.out))) (below_size (by exact vg110 HB.out HI700.out GE696.out))); replace HO711 := ak (Kd.R_elder' (vr HO711.out) (Kd.R_base ho18) hb); replace BK696 := kb BK696 hb; replace HB := ak (below_step (by exact vg110 HB.out HI700.out GE696.out) hb); replace HI700 := ak (IsS110.below (by repeat (first | (with_reducible first | exact HI700.out | apply IsS110.alloc | apply IsS110.drewN | apply IsS110.drew | apply IsS110.set_1 | apply IsS110.set_2 | refine IsS110.far ?_ NB700_696.out _) | exact HI700.out)) hb); clear hb ho18; obtain ⟨Ao19, co19, eo19⟩ := Kd.R_slice HO720.out; subst eo19) | ((with_reducible refine at_fn (f := 87) rfl ?_); refine gl (some 20) Try.func87 #[.pointer (some ⟨g700, 0, none⟩), .slice Ao19 y718.length co19] ?_; (with_reducible refine (spec_l01Pick.calls g700 t697 t716 t717 _ _ y718 t721 t722 t723 w _ ?side1 ?side2 ?side3 ?side4 ?side5 A7.out).mono ?_); (case side1 => repeat (first | (with_reducible first | exact HI700.out | apply IsS110.alloc | apply IsS110.drewN | apply IsS110.drew | apply IsS110.set_1 | apply IsS110.set_2 | refine IsS110.far ?_ NB700_696.out _) | exact HI700.out)); (case side2 => exact vg110 HB.out HI700.out GE696.out); (case side3 => repeat (first | exact (Kd.R_reads' HO720.out).2.2 | (with_reducible refine Kd.C_alloc ?_ _) | (with_reducible refine Kd.C_drewN ?_ _) | (with_reducible refine Kd.C_drew ?_))); (case side4 => exact (Kd.R_reads' HO720.out).2.1); (case side5 => exact far_slice (IsS110.own_ne HI700.out HO720.out (by decide))); rintro e w20 ⟨rfl, hi, hb, hk⟩; refine ⟨_, rfl, ?_⟩; replace BK696 := ak (KeepBut.blk hk (g' := gb696) (o := .cells #[.int .i64 0, .string (⟨#[]⟩ : ByteArray), .int .i64 0] 42 (0, 0)) (vk BK696.out) NB696_700.out (by simp)); replace HO703 := ak (Kd.R_mono (Kd.R_keep (IsS110.apart (show IsS110 w _ g700 t697 t716 t717 from by repeat (first | (with_reducible first | exact HI700.out | apply IsS110.alloc | apply IsS110.drewN | apply IsS110.drew | apply IsS110.set_1 | apply IsS110.set_2 | refine IsS110.far ?_ NB700_696.out _) | exact HI700.out)) (vr HO703.out) (by decide)) hk (fun _ h => h.2)) (fun _ h => h.1)); replace HO711 := ak (Kd.R_mono (Kd.R_keep (IsS110.apart (show IsS110 w _ g700 t697 t716 t717 from by repeat (first | (with_reducible first | exact HI700.out | apply IsS110.alloc | apply IsS110.drewN | apply IsS110.drew | apply IsS110.set_1 | apply IsS110.set_2 | refine IsS110.far ?_ NB700_696.out _) | exact HI700.out)) (vr HO711.out) (by decide)) hk (fun _ h => h.2)) (fun _ h => h.1)); replace HO720 := ak (Kd.R_mono (Kd.R_keep (IsS110.apart (show IsS110 w _ g700 t697 t716 t717 from by repeat (first | (with_reducible first | exact HI700.out | apply IsS110.alloc | apply IsS110.drewN | apply IsS110.drew | apply IsS110.set_1 | apply IsS110.set_2 | refine IsS110.far ?_ NB700_696.out _) | exact HI700.out)) (vr HO720.out) (by decide)) hk (fun _ h => h.2)) (fun _ h => h.1)); replace HB := ak (hb); replace HI700 := ak (hi); (try clear hb); (try clear hb2); (try clear hk); (try clear hi); have hnb21 := NB696_700.out; have hnc21 := NB700_696.out; have hcz22 := cz3 BK696.out))
 refine bodyPost_ret (results_tc rfl _ _ gb696 42 #[.int .i64 t712, .string t715, .int .i64 t721] (0, 0) _ rfl (vz BK696.out) Try.underlying42 rfl (by kernel_rfl)) rfl ?_; exact ⟨_, ew, by (with_reducible repeat (first | apply Kd.R_alloc | apply Kd.R_drewN | apply Kd.R_drew)); exact Kd.R_mono (Kd.R_far (p := ⟨gb696, 2, none⟩) (Kd.R_far (p := ⟨gb696, 1, none⟩) (Kd.R_far (p := ⟨gb696, 0, none⟩) (Kd.R_mono HO703.out (fun k_ hk => (⟨hk, hk.2⟩ : _ ∧ k_ ≠ gb696))) (fun _ hk => hk.2) (.int .i64 t712)) (fun _ hk => hk.2) (.string t715)) (fun _ hk => hk.2) (.int .i64 t721)) (fun _ hk => trivial), by exact vg110 HB.out HI700.out GE696.out⟩


attribute [local go_sem high] eqA42
/-! ### laws_likeMoves: function 48 -/
def laws_likeMoves.l0 : Nat → List (S42) → List (S42) → Int → Option (Bool)
 | 0, _, _, _ => none
 | k + 1, x0, x1, x5 => if x5 < (x0.length : Int) then (if 0 ≤ x5 then (if x5 < (x1.length : Int) then (if (!(((rd_T42 x0 x5).f0) == ((rd_T42 x1 x5).f0)) || (!((((rd_T42 x0 x5).f1).toList) == (((rd_T42 x1 x5).f1).toList)) || (!(((rd_T42 x0 x5).f2) == ((rd_T42 x1 x5).f2))))) = true then (some false) else (laws_likeMoves.l0 k x0 x1 (wrap64 (x5 + 1)))) else (none)) else (none)) else (some true)
def laws_likeMoves.f (k : Nat) (l0 : List (S42)) (l1 : List (S42)) : Option (Bool) := if (l0.length : Int) = (l1.length : Int) then (laws_likeMoves.l0 k l0 l1 0) else (some false)
theorem laws_likeMoves.mono_l : ∀ k, (∀ y0 y1 y2, LeO (laws_likeMoves.l0 k y0 y1 y2) (laws_likeMoves.l0 (k + 1) y0 y1 y2))
 | 0 => fun _ _ _ r h => by simp [laws_likeMoves.l0] at h
 | k + 1 => by
  have ih0 := laws_likeMoves.mono_l k
  ·intro y0 y1 y2; unfold laws_likeMoves.l0
   repeat' first | (with_reducible first | exact ih0 _ _ _ | exact LeO.refl _ | exact LeO.none _ | refine LeO.ite ?_ ?_ | refine LeO.bind ?_ (fun _ => ?_)) | exact ih0 _ _ _ | exact LeO.none _ | refine LeO.ite ?_ ?_ | refine LeO.bind ?_ (fun _ => ?_)
theorem laws_likeMoves.mono : ∀ a0 a1 k, LeO (laws_likeMoves.f k a0 a1) (laws_likeMoves.f (k + 1) a0 a1) := by
 intro a0 a1 k; have ih0 := laws_likeMoves.mono_l k; unfold laws_likeMoves.f
 repeat' first | (with_reducible first | exact ih0 _ _ _ | exact LeO.refl _ | exact LeO.none _ | refine LeO.ite ?_ ?_ | refine LeO.bind ?_ (fun _ => ?_)) | exact ih0 _ _ _ | exact LeO.none _ | refine LeO.ite ?_ ?_ | refine LeO.bind ?_ (fun _ => ?_)
set_option maxHeartbeats 8000000 in
set_option maxRecDepth 100000 in
theorem laws_likeMoves.calls (k : Nat) (A0 : Option Addr) (c0 : Nat) (l0 : List (S42)) (A1 : Option Addr) (c1 : Nat) (l1 : List (S42)) (r : Bool) (w : World) (hr0 : Kd.C k42 w A0 l0.length l0) (hc0 : l0.length ≤ c0) (hr1 : Kd.C k42 w A1 l1.length l1) (hc1 : l1.length ≤ c1) (h : laws_likeMoves.f k l0 l1 = some r) :
  Calls Try.prog 48 #[.slice A0 l0.length c0, .slice A1 l1.length c1] w fun e w' => e = .returned (.bool r) ∧ Drawn0 w w' := by
 have hu42 := Try.underlying42; have HR0 := ak hr0; have HC0 := ak hc0; clear hr0 hc0; have HR1 := ak hr1; have HC1 := ak hc1; clear hr1 hc1; unfold laws_likeMoves.f at h; have H := h; clear h; by_cases c3 : (l0.length : Int) = (l1.length : Int)
 ·rw [if_pos c3] at H; obtain ⟨c3b0, c3b1⟩ := bqt c3; have c3b2 : (l0.length == l1.length) = true := by first | simpa using c3 | (simp at c3 ⊢; omega)
  clear c3; have H' := ak H; clear H; go_enter Try.func48, Try.ntmps48; go_wp2
  repeat (go_quiet (fail); try go_wp2)
  go_loopg [5] k (fun kq v5 w' => ∃ (x5_1 : Int), v5 = .int .i64 x5_1 ∧ Aside0 (laws_likeMoves.l0 kq l0 l1 x5_1 = some r) ∧ Aside0 (kq ≤ k) ∧ Drawn0 w w')
  case atStart => exact ⟨(0), (by first | rfl | (simp; done) | (simp [*]; done)), H', ⟨Nat.le_refl _⟩, by repeat (first | exact Drawn0.refl _ | apply Drawn0.step)⟩
  case round =>
   clear H'; (try clear c1); (try clear p2); (try clear c3); (try clear c3b0); (try clear c3b1); (try clear c3b2); obtain ⟨x5_1, rfl, HA, HK1, ⟨m1, rfl⟩⟩ := hrel
   cases gk with
   | zero => exact absurd HA.out (by simp [laws_likeMoves.l0])
   | succ k1 =>
    have H := HA.out; clear HA; simp only [laws_likeMoves.l0] at H
    by_cases c4 : x5_1 < (l0.length : Int)
    ·rw [if_pos c4] at H; have c4b0 := decide_eq_true c4; clear c4; by_cases c5 : 0 ≤ x5_1
     ·rw [if_pos c5] at H; have c5b0 := decide_eq_true c5; clear c5; by_cases c6 : x5_1 < (l1.length : Int)
      ·rw [if_pos c6] at H; have c6b0 := decide_eq_true c6; clear c6; by_cases c7 : (!(((rd_T42 l0 x5_1).f0) == ((rd_T42 l1 x5_1).f0)) || (!((((rd_T42 l0 x5_1).f1).toList) == (((rd_T42 l1 x5_1).f1).toList)) || (!(((rd_T42 l0 x5_1).f2) == ((rd_T42 l1 x5_1).f2))))) = true
       ·rw [if_pos c7] at H; have c7b0 : (!(((rd_T42 l0 x5_1).f0) == ((rd_T42 l1 x5_1).f0)) || (!((((rd_T42 l0 x5_1).f1).toList) == (((rd_T42 l1 x5_1).f1).toList)) || (!(((rd_T42 l0 x5_1).f2) == ((rd_T42 l1 x5_1).f2))))) = true := c7; clear c7; obtain rfl := Option.some.inj H; have p814 : 0 ≤ (x5_1 : Int) := od; have q814 : x5_1 < (l0.length : Int) := od; obtain ⟨ad814, e814, hx814_0, hx814_1, hx814_2⟩ := at_T42 HR0.out x5_1 p814 q814
        cases e814; replace p814 := eq_true p814; replace q814 := eq_true q814; have p815 : 0 ≤ (x5_1 : Int) := od; have q815 : x5_1 < (l1.length : Int) := od; obtain ⟨ad815, e815, hx815_0, hx815_1, hx815_2⟩ := at_T42 HR1.out x5_1 p815 q815
        cases e815; replace p815 := eq_true p815; replace q815 := eq_true q815; go_wp2
        repeat (go_quiet (fail); try go_wp2)
        go_ret
        exact ⟨by first | rfl | (simp; done) | (simp [*]; done), by repeat (first | exact Drawn0.refl _ | apply Drawn0.step)⟩
       ·rw [if_neg c7] at H; have c7b0 : (!(((rd_T42 l0 x5_1).f0) == ((rd_T42 l1 x5_1).f0)) || (!((((rd_T42 l0 x5_1).f1).toList) == (((rd_T42 l1 x5_1).f1).toList)) || (!(((rd_T42 l0 x5_1).f2) == ((rd_T42 l1 x5_1).f2))))) = false := by simpa using c7
        clear c7; have H' := ak H; clear H; have p814 : 0 ≤ (x5_1 : Int) := od; have q814 : x5_1 < (l0.length : Int) := od; obtain ⟨ad814, e814, hx814_0, hx814_1, hx814_2⟩ := at_T42 HR0.out x5_1 p814 q814
        cases e814; replace p814 := eq_true p814; replace q814 := eq_true q814; have p815 : 0 ≤ (x5_1 : Int) := od; have q815 : x5_1 < (l1.length : Int) := od; obtain ⟨ad815, e815, hx815_0, hx815_1, hx815_2⟩ := at_T42 HR1.out x5_1 p815 q815
        cases e815; replace p815 := eq_true p815; replace q815 := eq_true q815; go_wp2
        repeat (go_quiet (fail); try go_wp2)
        go_roundg k1
        case measure => have := HK1.out; omega
        case rel => exact ⟨(wrap64 (x5_1 + 1)), (by first | rfl | (simp; done) | (simp [*]; done)), H', ⟨by have := HK1.out; omega⟩, by repeat (first | exact Drawn0.refl _ | apply Drawn0.step)⟩
      ·rw [if_neg c6] at H; exact absurd H (by simp)
     ·rw [if_neg c5] at H; exact absurd H (by simp)
    ·rw [if_neg c4] at H; have c4b0 := decide_eq_false c4; clear c4; obtain rfl := Option.some.inj H; go_wp2
     repeat (go_quiet (fail); try go_wp2)
     go_ret
     exact ⟨by first | rfl | (simp; done) | (simp [*]; done), by repeat (first | exact Drawn0.refl _ | apply Drawn0.step)⟩
 ·rw [if_neg c3] at H; obtain ⟨c3b0, c3b1⟩ := bqf c3; have c3b2 : (l0.length == l1.length) = false := by first | simpa using c3 | (simp at c3 ⊢; omega)
  obtain rfl := Option.some.inj H; go_enter Try.func48, Try.ntmps48; go_wp2
  repeat (go_quiet (fail); try go_wp2)
  go_ret
  exact ⟨by first | rfl | (simp; done) | (simp [*]; done), by repeat (first | exact Drawn0.refl _ | apply Drawn0.step)⟩


/-! ### laws_likeTexts: function 49 -/
def laws_likeTexts.l0 : Nat → List ByteArray → List ByteArray → Int → Option (Bool)
 | 0, _, _, _ => none
 | k + 1, x0, x1, x5 => if x5 < (x0.length : Int) then (if 0 ≤ x5 then (if x5 < (x1.length : Int) then (if (rdOf ByteArray.empty x0 x5).toList = (rdOf ByteArray.empty x1 x5).toList then (laws_likeTexts.l0 k x0 x1 (wrap64 (x5 + 1))) else (some false)) else (none)) else (none)) else (some true)
def laws_likeTexts.f (k : Nat) (l0 : List ByteArray) (l1 : List ByteArray) : Option (Bool) := if (l0.length : Int) = (l1.length : Int) then (laws_likeTexts.l0 k l0 l1 0) else (some false)
theorem laws_likeTexts.mono_l : ∀ k, (∀ y0 y1 y2, LeO (laws_likeTexts.l0 k y0 y1 y2) (laws_likeTexts.l0 (k + 1) y0 y1 y2))
 | 0 => fun _ _ _ r h => by simp [laws_likeTexts.l0] at h
 | k + 1 => by
  have ih0 := laws_likeTexts.mono_l k
  ·intro y0 y1 y2; unfold laws_likeTexts.l0
   repeat' first | (with_reducible first | exact ih0 _ _ _ | exact LeO.refl _ | exact LeO.none _ | refine LeO.ite ?_ ?_ | refine LeO.bind ?_ (fun _ => ?_)) | exact ih0 _ _ _ | exact LeO.none _ | refine LeO.ite ?_ ?_ | refine LeO.bind ?_ (fun _ => ?_)
theorem laws_likeTexts.mono : ∀ a0 a1 k, LeO (laws_likeTexts.f k a0 a1) (laws_likeTexts.f (k + 1) a0 a1) := by
 intro a0 a1 k; have ih0 := laws_likeTexts.mono_l k; unfold laws_likeTexts.f
 repeat' first | (with_reducible first | exact ih0 _ _ _ | exact LeO.refl _ | exact LeO.none _ | refine LeO.ite ?_ ?_ | refine LeO.bind ?_ (fun _ => ?_)) | exact ih0 _ _ _ | exact LeO.none _ | refine LeO.ite ?_ ?_ | refine LeO.bind ?_ (fun _ => ?_)
set_option maxHeartbeats 8000000 in
set_option maxRecDepth 100000 in
theorem laws_likeTexts.calls (k : Nat) (A0 : Option Addr) (c0 : Nat) (l0 : List ByteArray) (A1 : Option Addr) (c1 : Nat) (l1 : List ByteArray) (r : Bool) (w : World) (hr0 : Kd.C Kd.string w A0 l0.length l0) (hc0 : l0.length ≤ c0) (hr1 : Kd.C Kd.string w A1 l1.length l1) (hc1 : l1.length ≤ c1) (h : laws_likeTexts.f k l0 l1 = some r) :
  Calls Try.prog 49 #[.slice A0 l0.length c0, .slice A1 l1.length c1] w fun e w' => e = .returned (.bool r) ∧ Drawn0 w w' := by
 have HR0 := ak hr0; have HC0 := ak hc0; clear hr0 hc0; have HR1 := ak hr1; have HC1 := ak hc1; clear hr1 hc1; unfold laws_likeTexts.f at h; have H := h; clear h; by_cases c3 : (l0.length : Int) = (l1.length : Int)
 ·rw [if_pos c3] at H; obtain ⟨c3b0, c3b1⟩ := bqt c3; have c3b2 : (l0.length == l1.length) = true := by first | simpa using c3 | (simp at c3 ⊢; omega)
  clear c3; have H' := ak H; clear H; go_enter Try.func49, Try.ntmps49; go_wp2
  repeat (go_quiet (fail); try go_wp2)
  go_loopg [5] k (fun kq v5 w' => ∃ (x5_1 : Int), v5 = .int .i64 x5_1 ∧ Aside0 (laws_likeTexts.l0 kq l0 l1 x5_1 = some r) ∧ Aside0 (kq ≤ k) ∧ Drawn0 w w')
  case atStart => exact ⟨(0), (by first | rfl | (simp; done) | (simp [*]; done)), H', ⟨Nat.le_refl _⟩, by repeat (first | exact Drawn0.refl _ | apply Drawn0.step)⟩
  case round =>
   clear H'; (try clear c1); (try clear p2); (try clear c3); (try clear c3b0); (try clear c3b1); (try clear c3b2); obtain ⟨x5_1, rfl, HA, HK1, ⟨m1, rfl⟩⟩ := hrel
   cases gk with
   | zero => exact absurd HA.out (by simp [laws_likeTexts.l0])
   | succ k1 =>
    have H := HA.out; clear HA; simp only [laws_likeTexts.l0] at H
    by_cases c4 : x5_1 < (l0.length : Int)
    ·rw [if_pos c4] at H; have c4b0 := decide_eq_true c4; clear c4; by_cases c5 : 0 ≤ x5_1
     ·rw [if_pos c5] at H; have c5b0 := decide_eq_true c5; clear c5; by_cases c6 : x5_1 < (l1.length : Int)
      ·rw [if_pos c6] at H; have c6b0 := decide_eq_true c6; clear c6; by_cases c7 : (rdOf ByteArray.empty l0 x5_1).toList = (rdOf ByteArray.empty l1 x5_1).toList
       ·rw [if_pos c7] at H; have c7b0 : ((rdOf ByteArray.empty l0 x5_1).toList == (rdOf ByteArray.empty l1 x5_1).toList) = true := beq_iff_eq.mpr c7; have c7b1 : ((rdOf ByteArray.empty l0 x5_1).toList != (rdOf ByteArray.empty l1 x5_1).toList) = false := bne_eq_false_iff_eq.mpr c7; clear c7; have H' := ak H; clear H; have p816 : 0 ≤ (x5_1 : Int) := od; have q816 : x5_1 < (l0.length : Int) := od; obtain ⟨ad816, e816, hx816_0⟩ := Kd.at_string HR0.out x5_1 p816 q816
        cases e816; replace p816 := eq_true p816; replace q816 := eq_true q816; have p817 : 0 ≤ (x5_1 : Int) := od; have q817 : x5_1 < (l1.length : Int) := od; obtain ⟨ad817, e817, hx817_0⟩ := Kd.at_string HR1.out x5_1 p817 q817
        cases e817; replace p817 := eq_true p817; replace q817 := eq_true q817; go_wp2
        repeat (go_quiet (fail); try go_wp2)
        go_roundg k1
        case measure => have := HK1.out; omega
        case rel => exact ⟨(wrap64 (x5_1 + 1)), (by first | rfl | (simp; done) | (simp [*]; done)), H', ⟨by have := HK1.out; omega⟩, by repeat (first | exact Drawn0.refl _ | apply Drawn0.step)⟩
       ·rw [if_neg c7] at H; have c7b0 : ((rdOf ByteArray.empty l0 x5_1).toList == (rdOf ByteArray.empty l1 x5_1).toList) = false := beq_eq_false_iff_ne.mpr c7; have c7b1 : ((rdOf ByteArray.empty l0 x5_1).toList != (rdOf ByteArray.empty l1 x5_1).toList) = true := bne_iff_ne.mpr c7; obtain rfl := Option.some.inj H; have p816 : 0 ≤ (x5_1 : Int) := od; have q816 : x5_1 < (l0.length : Int) := od; obtain ⟨ad816, e816, hx816_0⟩ := Kd.at_string HR0.out x5_1 p816 q816
        cases e816; replace p816 := eq_true p816; replace q816 := eq_true q816; have p817 : 0 ≤ (x5_1 : Int) := od; have q817 : x5_1 < (l1.length : Int) := od; obtain ⟨ad817, e817, hx817_0⟩ := Kd.at_string HR1.out x5_1 p817 q817
        cases e817; replace p817 := eq_true p817; replace q817 := eq_true q817; go_wp2
        repeat (go_quiet (fail); try go_wp2)
        go_ret
        exact ⟨by first | rfl | (simp; done) | (simp [*]; done), by repeat (first | exact Drawn0.refl _ | apply Drawn0.step)⟩
      ·rw [if_neg c6] at H; exact absurd H (by simp)
     ·rw [if_neg c5] at H; exact absurd H (by simp)
    ·rw [if_neg c4] at H; have c4b0 := decide_eq_false c4; clear c4; obtain rfl := Option.some.inj H; go_wp2
     repeat (go_quiet (fail); try go_wp2)
     go_ret
     exact ⟨by first | rfl | (simp; done) | (simp [*]; done), by repeat (first | exact Drawn0.refl _ | apply Drawn0.step)⟩
 ·rw [if_neg c3] at H; obtain ⟨c3b0, c3b1⟩ := bqf c3; have c3b2 : (l0.length == l1.length) = false := by first | simpa using c3 | (simp at c3 ⊢; omega)
  obtain rfl := Option.some.inj H; go_enter Try.func49, Try.ntmps49; go_wp2
  repeat (go_quiet (fail); try go_wp2)
  go_ret
  exact ⟨by first | rfl | (simp; done) | (simp [*]; done), by repeat (first | exact Drawn0.refl _ | apply Drawn0.step)⟩


/-! ### laws_hasText: function 50 -/
def laws_hasText.l0 : Nat → List ByteArray → ByteArray → Int → Option (Bool)
 | 0, _, _, _ => none
 | k + 1, x0, x1, x5 => if x5 < (x0.length : Int) then (if 0 ≤ x5 then (if (rdOf ByteArray.empty x0 x5).toList = x1.toList then (some true) else (laws_hasText.l0 k x0 x1 (wrap64 (x5 + 1)))) else (none)) else (some false)
def laws_hasText.f (k : Nat) (l0 : List ByteArray) (a1 : ByteArray) : Option (Bool) := laws_hasText.l0 k l0 a1 0
theorem laws_hasText.mono_l : ∀ k, (∀ y0 y1 y2, LeO (laws_hasText.l0 k y0 y1 y2) (laws_hasText.l0 (k + 1) y0 y1 y2))
 | 0 => fun _ _ _ r h => by simp [laws_hasText.l0] at h
 | k + 1 => by
  have ih0 := laws_hasText.mono_l k
  ·intro y0 y1 y2; unfold laws_hasText.l0
   repeat' first | (with_reducible first | exact ih0 _ _ _ | exact LeO.refl _ | exact LeO.none _ | refine LeO.ite ?_ ?_ | refine LeO.bind ?_ (fun _ => ?_)) | exact ih0 _ _ _ | exact LeO.none _ | refine LeO.ite ?_ ?_ | refine LeO.bind ?_ (fun _ => ?_)
theorem laws_hasText.mono : ∀ a0 a1 k, LeO (laws_hasText.f k a0 a1) (laws_hasText.f (k + 1) a0 a1) := by
 intro a0 a1 k; have ih0 := laws_hasText.mono_l k; unfold laws_hasText.f
 repeat' first | (with_reducible first | exact ih0 _ _ _ | exact LeO.refl _ | exact LeO.none _ | refine LeO.ite ?_ ?_ | refine LeO.bind ?_ (fun _ => ?_)) | exact ih0 _ _ _ | exact LeO.none _ | refine LeO.ite ?_ ?_ | refine LeO.bind ?_ (fun _ => ?_)
set_option maxHeartbeats 8000000 in
set_option maxRecDepth 100000 in
theorem laws_hasText.calls (k : Nat) (A0 : Option Addr) (c0 : Nat) (l0 : List ByteArray) (a1 : ByteArray) (r : Bool) (w : World) (hr0 : Kd.C Kd.string w A0 l0.length l0) (hc0 : l0.length ≤ c0) (h : laws_hasText.f k l0 a1 = some r) :
  Calls Try.prog 50 #[.slice A0 l0.length c0, .string a1] w fun e w' => e = .returned (.bool r) ∧ Drawn0 w w' := by
 have HR0 := ak hr0; have HC0 := ak hc0; clear hr0 hc0; unfold laws_hasText.f at h; have H := h; clear h; have H' := ak H; clear H; go_enter Try.func50, Try.ntmps50; go_wp2
 go_loopg [5] k (fun kq v5 w' => ∃ (x5_1 : Int), v5 = .int .i64 x5_1 ∧ Aside0 (laws_hasText.l0 kq l0 a1 x5_1 = some r) ∧ Aside0 (kq ≤ k) ∧ Drawn0 w w')
 case atStart => exact ⟨(0), (by first | rfl | (simp; done) | (simp [*]; done)), H', ⟨Nat.le_refl _⟩, by repeat (first | exact Drawn0.refl _ | apply Drawn0.step)⟩
 case round =>
  clear H'; (try clear p2); obtain ⟨x5_1, rfl, HA, HK1, ⟨m1, rfl⟩⟩ := hrel
  cases gk with
  | zero => exact absurd HA.out (by simp [laws_hasText.l0])
  | succ k1 =>
   have H := HA.out; clear HA; simp only [laws_hasText.l0] at H
   by_cases c3 : x5_1 < (l0.length : Int)
   ·rw [if_pos c3] at H; have c3b0 := decide_eq_true c3; clear c3; by_cases c4 : 0 ≤ x5_1
    ·rw [if_pos c4] at H; have c4b0 := decide_eq_true c4; clear c4; by_cases c5 : (rdOf ByteArray.empty l0 x5_1).toList = a1.toList
     ·rw [if_pos c5] at H; have c5b0 : ((rdOf ByteArray.empty l0 x5_1).toList == a1.toList) = true := beq_iff_eq.mpr c5; have c5b1 : ((rdOf ByteArray.empty l0 x5_1).toList != a1.toList) = false := bne_eq_false_iff_eq.mpr c5; clear c5; obtain rfl := Option.some.inj H; have p818 : 0 ≤ (x5_1 : Int) := od; have q818 : x5_1 < (l0.length : Int) := od; obtain ⟨ad818, e818, hx818_0⟩ := Kd.at_string HR0.out x5_1 p818 q818
      cases e818; replace p818 := eq_true p818; replace q818 := eq_true q818; go_wp2
      go_ret
      exact ⟨by first | rfl | (simp; done) | (simp [*]; done), by repeat (first | exact Drawn0.refl _ | apply Drawn0.step)⟩
     ·rw [if_neg c5] at H; have c5b0 : ((rdOf ByteArray.empty l0 x5_1).toList == a1.toList) = false := beq_eq_false_iff_ne.mpr c5; have c5b1 : ((rdOf ByteArray.empty l0 x5_1).toList != a1.toList) = true := bne_iff_ne.mpr c5; have H' := ak H; clear H; have p818 : 0 ≤ (x5_1 : Int) := od; have q818 : x5_1 < (l0.length : Int) := od; obtain ⟨ad818, e818, hx818_0⟩ := Kd.at_string HR0.out x5_1 p818 q818
      cases e818; replace p818 := eq_true p818; replace q818 := eq_true q818; go_wp2
      go_roundg k1
      case measure => have := HK1.out; omega
      case rel => exact ⟨(wrap64 (x5_1 + 1)), (by first | rfl | (simp; done) | (simp [*]; done)), H', ⟨by have := HK1.out; omega⟩, by repeat (first | exact Drawn0.refl _ | apply Drawn0.step)⟩
    ·rw [if_neg c4] at H; exact absurd H (by simp)
   ·rw [if_neg c3] at H; have c3b0 := decide_eq_false c3; clear c3; obtain rfl := Option.some.inj H; go_wp2
    go_ret
    exact ⟨by first | rfl | (simp; done) | (simp [*]; done), by repeat (first | exact Drawn0.refl _ | apply Drawn0.step)⟩


end Go.Proofs.Ytllhghcepbkpeaa.Pall
