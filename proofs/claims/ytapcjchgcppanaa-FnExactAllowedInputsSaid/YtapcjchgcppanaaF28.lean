/- Go functions of the program, each as a Lean function, and the proof that each call comes to what the Lean function tells; no condition beyond those that stand there. -/
import Derived.Test.YtapcjchgcppanaaF00
import Derived.Test.YtapcjchgcppanaaF03
import Derived.Test.YtapcjchgcppanaaF13
import Derived.Test.YtapcjchgcppanaaF14
import Derived.Test.YtapcjchgcppanaaF27
import Derived.Test.YtapcjchgcppanaaWApart
import Derived.Test.YtapcjchgcppanaaWKept
import Derived.Test.YtapcjchgcppanaaWLast
import Derived.Test.YtapcjchgcppanaaWMore
import Derived.Test.YtapcjchgcppanaaSpare
namespace Go.Proofs.Ytapcjchgcppanaa.Pall
open Go.RowKit Go.Proofs.YtapcjchgcppanaaW.PrintWords Go.Proofs.YtapcjchgcppanaaW.PrintLast Go.Proofs.YtapcjchgcppanaaW.PrintMore
set_option linter.unusedVariables false
set_option linter.unusedSimpArgs false

/-! ### laws_FnExactAllowedInputs: function 9 -/
mutual
def laws_FnExactAllowedInputs.j0 : Nat → List Int → Int → List Int → Bool → Bool → Bool → Bool → Bool → Bool → Int → Option (Bool)
 | 0, _, _, _, _, _, _, _, _, _, _ => none
 | k + 1, x3, x4, x5, x31, x461000, x461001, x461002, x461003, x461004, x461005 => if x31 = true then (some false) else ((laws_markInt64S.f k x5 101).bind fun bt482 => ((laws_heldInt64S.f k bt482.2 101).bind fun t484 => (if t484 < 0 then (some false) else (if t484 = bt482.1 then ((laws_toController.f x461000 x461001 x461002 x461003 x461004 x461005).bind fun bt485 => ((impl_AllowedInputs.f k bt485.1 bt485.2.1 bt485.2.2.1 bt485.2.2.2.1 bt485.2.2.2.2.1 bt485.2.2.2.2.2).bind fun bt491 => ((laws_eqInt64S.f k bt491.1 x3).bind fun t495 => (if t495 = true then (laws_FnExactAllowedInputs.j1 k bt482.2 bt482.1 (bt491.2 != x4)) else (laws_FnExactAllowedInputs.j1 k bt482.2 bt482.1 true))))) else (some false)))))
def laws_FnExactAllowedInputs.j1 : Nat → List Int → Int → Bool → Option (Bool)
 | 0, _, _, _ => none
 | k + 1, x5, x7, x57 => if x57 = true then (some false) else ((laws_heldInt64S.f k x5 101).bind fun t496 => (if t496 < 0 then (some false) else (if t496 = x7 then (some true) else (some false))))
end
def laws_FnExactAllowedInputs.f (k : Nat) (a0_0 : Bool) (a0_1 : Bool) (a0_2 : Bool) (a0_3 : Bool) (a0_4 : Bool) (a0_5 : Int) : Option (Bool) := (laws_toController.f a0_0 a0_1 a0_2 a0_3 a0_4 a0_5).bind fun bt461 => ((spec_AllowedInputs.f k bt461.1 bt461.2.1 bt461.2.2.1 bt461.2.2.2.1 bt461.2.2.2.2.1 bt461.2.2.2.2.2).bind fun bt467 => ((laws_toController.f a0_0 a0_1 a0_2 a0_3 a0_4 a0_5).bind fun bt471 => ((impl_AllowedInputs.f k bt471.1 bt471.2.1 bt471.2.2.1 bt471.2.2.2.1 bt471.2.2.2.2.1 bt471.2.2.2.2.2).bind fun bt477 => ((laws_eqInt64S.f k bt477.1 bt467.1).bind fun t481 => (if t481 = true then (laws_FnExactAllowedInputs.j0 k bt467.1 bt467.2 bt477.1 (bt477.2 != bt467.2) a0_0 a0_1 a0_2 a0_3 a0_4 a0_5) else (laws_FnExactAllowedInputs.j0 k bt467.1 bt467.2 bt477.1 true a0_0 a0_1 a0_2 a0_3 a0_4 a0_5))))))
theorem laws_FnExactAllowedInputs.mono_l : ∀ k, (∀ y0 y1 y2 y3 y4 y5 y6 y7 y8 y9, LeO (laws_FnExactAllowedInputs.j0 k y0 y1 y2 y3 y4 y5 y6 y7 y8 y9) (laws_FnExactAllowedInputs.j0 (k + 1) y0 y1 y2 y3 y4 y5 y6 y7 y8 y9)) ∧ (∀ y0 y1 y2, LeO (laws_FnExactAllowedInputs.j1 k y0 y1 y2) (laws_FnExactAllowedInputs.j1 (k + 1) y0 y1 y2))
 | 0 => ⟨fun _ _ _ _ _ _ _ _ _ _ r h => by simp [laws_FnExactAllowedInputs.j0] at h, fun _ _ _ r h => by simp [laws_FnExactAllowedInputs.j1] at h⟩
 | k + 1 => by
  obtain ⟨ih0, ih1⟩ := laws_FnExactAllowedInputs.mono_l k
  refine ⟨?_, ?_⟩
  ·intro y0 y1 y2 y3 y4 y5 y6 y7 y8 y9
   unfold laws_FnExactAllowedInputs.j0
   repeat' first
   | (with_reducible exact ih0 _ _ _ _ _ _ _ _ _ _)
   | (with_reducible exact ih1 _ _ _)
   | (with_reducible exact impl_AllowedInputs.mono _ _ _ _ _ _ _)
   | (with_reducible exact laws_eqInt64S.mono _ _ _)
   | (with_reducible exact laws_heldInt64S.mono _ _ _)
   | (with_reducible exact laws_markInt64S.mono _ _ _)
   | (with_reducible exact spec_AllowedInputs.mono _ _ _ _ _ _ _)
   | (with_reducible exact LeO.refl _)
   | (with_reducible exact LeO.none _)
   | (with_reducible refine LeO.ite ?_ ?_)
   | (with_reducible refine LeO.bind ?_ (fun _ => ?_))
   | exact ih0 _ _ _ _ _ _ _ _ _ _
   | exact ih1 _ _ _
   | exact impl_AllowedInputs.mono _ _ _ _ _ _ _
   | exact laws_eqInt64S.mono _ _ _
   | exact laws_heldInt64S.mono _ _ _
   | exact laws_markInt64S.mono _ _ _
   | exact spec_AllowedInputs.mono _ _ _ _ _ _ _
   | exact LeO.none _
   | refine LeO.ite ?_ ?_
   | refine LeO.bind ?_ (fun _ => ?_)
  ·intro y0 y1 y2
   unfold laws_FnExactAllowedInputs.j1
   repeat' first
   | (with_reducible exact ih0 _ _ _ _ _ _ _ _ _ _)
   | (with_reducible exact ih1 _ _ _)
   | (with_reducible exact impl_AllowedInputs.mono _ _ _ _ _ _ _)
   | (with_reducible exact laws_eqInt64S.mono _ _ _)
   | (with_reducible exact laws_heldInt64S.mono _ _ _)
   | (with_reducible exact laws_markInt64S.mono _ _ _)
   | (with_reducible exact spec_AllowedInputs.mono _ _ _ _ _ _ _)
   | (with_reducible exact LeO.refl _)
   | (with_reducible exact LeO.none _)
   | (with_reducible refine LeO.ite ?_ ?_)
   | (with_reducible refine LeO.bind ?_ (fun _ => ?_))
   | exact ih0 _ _ _ _ _ _ _ _ _ _
   | exact ih1 _ _ _
   | exact impl_AllowedInputs.mono _ _ _ _ _ _ _
   | exact laws_eqInt64S.mono _ _ _
   | exact laws_heldInt64S.mono _ _ _
   | exact laws_markInt64S.mono _ _ _
   | exact spec_AllowedInputs.mono _ _ _ _ _ _ _
   | exact LeO.none _
   | refine LeO.ite ?_ ?_
   | refine LeO.bind ?_ (fun _ => ?_)
theorem laws_FnExactAllowedInputs.mono : ∀ a0 a1 a2 a3 a4 a5 k, LeO (laws_FnExactAllowedInputs.f k a0 a1 a2 a3 a4 a5) (laws_FnExactAllowedInputs.f (k + 1) a0 a1 a2 a3 a4 a5) := by
 intro a0 a1 a2 a3 a4 a5 k
 obtain ⟨ih0, ih1⟩ := laws_FnExactAllowedInputs.mono_l k
 unfold laws_FnExactAllowedInputs.f
 repeat' first
   | (with_reducible exact ih0 _ _ _ _ _ _ _ _ _ _)
   | (with_reducible exact ih1 _ _ _)
   | (with_reducible exact impl_AllowedInputs.mono _ _ _ _ _ _ _)
   | (with_reducible exact laws_eqInt64S.mono _ _ _)
   | (with_reducible exact laws_heldInt64S.mono _ _ _)
   | (with_reducible exact laws_markInt64S.mono _ _ _)
   | (with_reducible exact spec_AllowedInputs.mono _ _ _ _ _ _ _)
   | (with_reducible exact LeO.refl _)
   | (with_reducible exact LeO.none _)
   | (with_reducible refine LeO.ite ?_ ?_)
   | (with_reducible refine LeO.bind ?_ (fun _ => ?_))
   | exact ih0 _ _ _ _ _ _ _ _ _ _
   | exact ih1 _ _ _
   | exact impl_AllowedInputs.mono _ _ _ _ _ _ _
   | exact laws_eqInt64S.mono _ _ _
   | exact laws_heldInt64S.mono _ _ _
   | exact laws_markInt64S.mono _ _ _
   | exact spec_AllowedInputs.mono _ _ _ _ _ _ _
   | exact LeO.none _
   | refine LeO.ite ?_ ?_
   | refine LeO.bind ?_ (fun _ => ?_)
set_option maxHeartbeats 8000000 in
set_option maxRecDepth 100000 in
theorem laws_FnExactAllowedInputs.calls (k : Nat) (a0_0 : Bool) (a0_1 : Bool) (a0_2 : Bool) (a0_3 : Bool) (a0_4 : Bool) (a0_5 : Int) (r : Bool) (w : World) (hrt : Aside0 (r = true)) (h : laws_FnExactAllowedInputs.f k a0_0 a0_1 a0_2 a0_3 a0_4 a0_5 = some r) :
  Calls Try.prog 9 #[.agg #[.bool a0_0, .bool a0_1, .bool a0_2, .bool a0_3, .bool a0_4, .int .i64 a0_5]] w fun e w' => e = .returned (.bool r) ∧ Below w.heap.size w w' := by
 have hu23 := Try.underlying23
 have HB := Aside0.mk (Below.refl w.heap.size w)
 have H : ((laws_toController.f a0_0 a0_1 a0_2 a0_3 a0_4 a0_5).bind fun bt461 => ((spec_AllowedInputs.f k bt461.1 bt461.2.1 bt461.2.2.1 bt461.2.2.2.1 bt461.2.2.2.2.1 bt461.2.2.2.2.2).bind fun bt467 => ((laws_toController.f a0_0 a0_1 a0_2 a0_3 a0_4 a0_5).bind fun bt471 => ((impl_AllowedInputs.f k bt471.1 bt471.2.1 bt471.2.2.1 bt471.2.2.2.1 bt471.2.2.2.2.1 bt471.2.2.2.2.2).bind fun bt477 => ((laws_eqInt64S.f k bt477.1 bt467.1).bind fun t481 => (if t481 = true then (laws_FnExactAllowedInputs.j0 k bt467.1 bt467.2 bt477.1 (bt477.2 != bt467.2) a0_0 a0_1 a0_2 a0_3 a0_4 a0_5) else (laws_FnExactAllowedInputs.j0 k bt467.1 bt467.2 bt477.1 true a0_0 a0_1 a0_2 a0_3 a0_4 a0_5))))))) = some r := h
 clear h
 replace H := Option.bind_eq_some_iff.mp H
 obtain ⟨⟨t461, t462, t463, t464, t465, t466⟩, A20, H⟩ := H
 replace H : ((spec_AllowedInputs.f k t461 t462 t463 t464 t465 t466).bind fun bt467 => ((laws_toController.f a0_0 a0_1 a0_2 a0_3 a0_4 a0_5).bind fun bt471 => ((impl_AllowedInputs.f k bt471.1 bt471.2.1 bt471.2.2.1 bt471.2.2.2.1 bt471.2.2.2.2.1 bt471.2.2.2.2.2).bind fun bt477 => ((laws_eqInt64S.f k bt477.1 bt467.1).bind fun t481 => (if t481 = true then (laws_FnExactAllowedInputs.j0 k bt467.1 bt467.2 bt477.1 (bt477.2 != bt467.2) a0_0 a0_1 a0_2 a0_3 a0_4 a0_5) else (laws_FnExactAllowedInputs.j0 k bt467.1 bt467.2 bt477.1 true a0_0 a0_1 a0_2 a0_3 a0_4 a0_5)))))) = some r := H
 have A2 := Aside0.mk A20
 clear A20
 replace H := Option.bind_eq_some_iff.mp H
 obtain ⟨⟨t467, t470⟩, A30, H⟩ := H
 replace H : ((laws_toController.f a0_0 a0_1 a0_2 a0_3 a0_4 a0_5).bind fun bt471 => ((impl_AllowedInputs.f k bt471.1 bt471.2.1 bt471.2.2.1 bt471.2.2.2.1 bt471.2.2.2.2.1 bt471.2.2.2.2.2).bind fun bt477 => ((laws_eqInt64S.f k bt477.1 t467).bind fun t481 => (if t481 = true then (laws_FnExactAllowedInputs.j0 k t467 t470 bt477.1 (bt477.2 != t470) a0_0 a0_1 a0_2 a0_3 a0_4 a0_5) else (laws_FnExactAllowedInputs.j0 k t467 t470 bt477.1 true a0_0 a0_1 a0_2 a0_3 a0_4 a0_5))))) = some r := H
 have A3 := Aside0.mk A30
 clear A30
 replace H := Option.bind_eq_some_iff.mp H
 obtain ⟨⟨t471, t472, t473, t474, t475, t476⟩, A40, H⟩ := H
 replace H : ((impl_AllowedInputs.f k t471 t472 t473 t474 t475 t476).bind fun bt477 => ((laws_eqInt64S.f k bt477.1 t467).bind fun t481 => (if t481 = true then (laws_FnExactAllowedInputs.j0 k t467 t470 bt477.1 (bt477.2 != t470) a0_0 a0_1 a0_2 a0_3 a0_4 a0_5) else (laws_FnExactAllowedInputs.j0 k t467 t470 bt477.1 true a0_0 a0_1 a0_2 a0_3 a0_4 a0_5)))) = some r := H
 have A4 := Aside0.mk A40
 clear A40
 replace H := Option.bind_eq_some_iff.mp H
 obtain ⟨⟨t477, t480⟩, A50, H⟩ := H
 replace H : ((laws_eqInt64S.f k t477 t467).bind fun t481 => (if t481 = true then (laws_FnExactAllowedInputs.j0 k t467 t470 t477 (t480 != t470) a0_0 a0_1 a0_2 a0_3 a0_4 a0_5) else (laws_FnExactAllowedInputs.j0 k t467 t470 t477 true a0_0 a0_1 a0_2 a0_3 a0_4 a0_5))) = some r := H
 have A5 := Aside0.mk A50
 clear A50
 have HC6 := Aside0.mk H
 clear H
 go_enter Try.func9, Try.ntmps9
 go_upto_region 3 with (first | ((with_reducible refine gate_dst (N := 1) rfl ?_); refine box_event ?hg (N := 1) ?hd (cs := #[.bool a0_0, .bool a0_1, .bool a0_2, .bool a0_3, .bool a0_4, .int .i64 a0_5]) (t := 23) ?hr ?_; (case hd => rfl); (case hg => rfl); (case hr => first | (go_simp; done) | (go_simp; rfl)); intro gb460 hg w7 hbox hb; have n0_ := Aside0.mk (below_step (by repeat (first | (with_reducible first | exact HB.out | apply below_alloc | apply pw_below_drewN | apply below_drew1) | exact HB.out)) hb); have n1_ := Aside0.mk (hbox); have n2_ := Aside0.mk ((by rw [hg]; exact (below_size (by repeat (first | (with_reducible first | exact HB.out | apply below_alloc | apply pw_below_drewN | apply below_drew1) | exact HB.out))) : w.heap.size ≤ gb460)); have n3_ := Aside0.mk ((by rw [hg]; exact (below_size (by repeat (first | (with_reducible first | exact HB.out | apply below_alloc | apply pw_below_drewN | apply below_drew1) | exact HB.out))) : w.heap.size ≤ gb460)); clear HB; have HB := n0_; have BK460 := n1_; have GW460 := n2_; have GE460 := n3_; clear n0_ n1_ n2_ n3_; clear hb hbox hg; have hcz8_0 : w7.cell? ⟨gb460, 0, none⟩ = some (.bool a0_0) := (blk_cell BK460.out 0).trans rfl; have hcz8_1 : w7.cell? ⟨gb460, 1, none⟩ = some (.bool a0_1) := (blk_cell BK460.out 1).trans rfl; have hcz8_2 : w7.cell? ⟨gb460, 2, none⟩ = some (.bool a0_2) := (blk_cell BK460.out 2).trans rfl; have hcz8_3 : w7.cell? ⟨gb460, 3, none⟩ = some (.bool a0_3) := (blk_cell BK460.out 3).trans rfl; have hcz8_4 : w7.cell? ⟨gb460, 4, none⟩ = some (.bool a0_4) := (blk_cell BK460.out 4).trans rfl; have hcz8_5 : w7.cell? ⟨gb460, 5, none⟩ = some (.int .i64 a0_5) := (blk_cell BK460.out 5).trans rfl; have hfz8_0 := blk_frozen BK460.out 0; have hfz8_1 := blk_frozen BK460.out 1; have hfz8_2 := blk_frozen BK460.out 2; have hfz8_3 := blk_frozen BK460.out 3; have hfz8_4 := blk_frozen BK460.out 4; have hfz8_5 := blk_frozen BK460.out 5) | ((with_reducible refine at_fn (f := 15) rfl ?_); refine goesL_ (some 13) rfl rfl Try.func15 (by kernel_rfl) rfl #[.agg #[.bool a0_0, .bool a0_1, .bool a0_2, .bool a0_3, .bool a0_4, .int .i64 a0_5]] rfl (by (try simp only [List.map_toArray, List.map_cons, List.map_nil]); first | done | rfl | (simp only [List.length_drop, List.length_take]; rfl)) ?_; (with_reducible refine (laws_toController.calls a0_0 a0_1 a0_2 a0_3 a0_4 a0_5 t461 t462 t463 t464 t465 t466 _ A2.out).mono ?_); rintro e w9 ⟨rfl, hb⟩; refine ⟨_, rfl, ?_⟩; have n0_ := Aside0.mk (blk_below (g := gb460) (o := .cells #[.bool a0_0, .bool a0_1, .bool a0_2, .bool a0_3, .bool a0_4, .int .i64 a0_5] 23 (0, 0)) (by (with_reducible repeat (first | refine blk_drewN ?_ _ | refine blk_drew ?_ | refine blk_alloc ?_ _)); exact BK460.out) hb); have n1_ := Aside0.mk (below_step (by repeat (first | (with_reducible first | exact HB.out | apply below_alloc | apply pw_below_drewN | apply below_drew1 | refine below_set ?_ GE460.out) | exact HB.out)) hb); clear BK460; clear HB; have BK460 := n0_; have HB := n1_; clear n0_ n1_; (try clear hb); (try clear hb2); (try clear hk); (try clear hi)) | ((with_reducible refine at_fn (f := 33) rfl ?_); refine goesL_ (some 14) rfl rfl Try.func33 (by kernel_rfl) rfl #[.agg #[.bool t461, .bool t462, .bool t463, .bool t464, .bool t465, .int .i64 t466]] rfl (by (try simp only [List.map_toArray, List.map_cons, List.map_nil]); first | done | rfl | (simp only [List.length_drop, List.length_take]; rfl)) ?_; (with_reducible refine (spec_AllowedInputs.calls k t461 t462 t463 t464 t465 t466 t467 t470 _ A3.out).mono ?_); rintro e w10 ⟨v468, rfl, ho0, hb⟩; refine ⟨_, rfl, ?_⟩; have n0_ := Aside0.mk (Kd.R_lower ho0 (below_size (by repeat (first | (with_reducible first | exact HB.out | apply below_alloc | apply pw_below_drewN | apply below_drew1 | refine below_set ?_ GE460.out) | exact HB.out)))); have n1_ := Aside0.mk (blk_below (g := gb460) (o := .cells #[.bool a0_0, .bool a0_1, .bool a0_2, .bool a0_3, .bool a0_4, .int .i64 a0_5] 23 (0, 0)) (by (with_reducible repeat (first | refine blk_drewN ?_ _ | refine blk_drew ?_ | refine blk_alloc ?_ _)); exact BK460.out) hb); have n2_ := Aside0.mk (below_step (by repeat (first | (with_reducible first | exact HB.out | apply below_alloc | apply pw_below_drewN | apply below_drew1 | refine below_set ?_ GE460.out) | exact HB.out)) hb); clear BK460; clear HB; have HO469 := n0_; have BK460 := n1_; have HB := n2_; clear n0_ n1_ n2_; (try clear hb); (try clear hb2); (try clear hk); (try clear hi); (try clear ho0); have hcz11_0 : w10.cell? ⟨gb460, 0, none⟩ = some (.bool a0_0) := (blk_cell BK460.out 0).trans rfl; have hcz11_1 : w10.cell? ⟨gb460, 1, none⟩ = some (.bool a0_1) := (blk_cell BK460.out 1).trans rfl; have hcz11_2 : w10.cell? ⟨gb460, 2, none⟩ = some (.bool a0_2) := (blk_cell BK460.out 2).trans rfl; have hcz11_3 : w10.cell? ⟨gb460, 3, none⟩ = some (.bool a0_3) := (blk_cell BK460.out 3).trans rfl; have hcz11_4 : w10.cell? ⟨gb460, 4, none⟩ = some (.bool a0_4) := (blk_cell BK460.out 4).trans rfl; have hcz11_5 : w10.cell? ⟨gb460, 5, none⟩ = some (.int .i64 a0_5) := (blk_cell BK460.out 5).trans rfl; have hfz11_0 := blk_frozen BK460.out 0; have hfz11_1 := blk_frozen BK460.out 1; have hfz11_2 := blk_frozen BK460.out 2; have hfz11_3 := blk_frozen BK460.out 3; have hfz11_4 := blk_frozen BK460.out 4; have hfz11_5 := blk_frozen BK460.out 5) | ((with_reducible refine at_fn (f := 15) rfl ?_); refine goesL_ (some 19) rfl rfl Try.func15 (by kernel_rfl) rfl #[.agg #[.bool a0_0, .bool a0_1, .bool a0_2, .bool a0_3, .bool a0_4, .int .i64 a0_5]] rfl (by (try simp only [List.map_toArray, List.map_cons, List.map_nil]); first | done | rfl | (simp only [List.length_drop, List.length_take]; rfl)) ?_; (with_reducible refine (laws_toController.calls a0_0 a0_1 a0_2 a0_3 a0_4 a0_5 t471 t472 t473 t474 t475 t476 _ A4.out).mono ?_); rintro e w12 ⟨rfl, hb⟩; refine ⟨_, rfl, ?_⟩; have n0_ := Aside0.mk (Kd.R_below (by (with_reducible repeat (first | apply Kd.R_alloc | apply Kd.R_drewN | apply Kd.R_drew)); exact HO469.out) hb); have n1_ := Aside0.mk (blk_below (g := gb460) (o := .cells #[.bool a0_0, .bool a0_1, .bool a0_2, .bool a0_3, .bool a0_4, .int .i64 a0_5] 23 (0, 0)) (by (with_reducible repeat (first | refine blk_drewN ?_ _ | refine blk_drew ?_ | refine blk_alloc ?_ _)); exact BK460.out) hb); have n2_ := Aside0.mk (below_step (by repeat (first | (with_reducible first | exact HB.out | apply below_alloc | apply pw_below_drewN | apply below_drew1 | refine below_set ?_ GE460.out) | exact HB.out)) hb); clear HO469; clear BK460; clear HB; have HO469 := n0_; have BK460 := n1_; have HB := n2_; clear n0_ n1_ n2_; (try clear hb); (try clear hb2); (try clear hk); (try clear hi)) | ((with_reducible refine at_fn (f := 34) rfl ?_); refine goesL_ (some 20) rfl rfl Try.func34 (by kernel_rfl) rfl #[.agg #[.bool t471, .bool t472, .bool t473, .bool t474, .bool t475, .int .i64 t476]] rfl (by (try simp only [List.map_toArray, List.map_cons, List.map_nil]); first | done | rfl | (simp only [List.length_drop, List.length_take]; rfl)) ?_; (with_reducible refine (impl_AllowedInputs.calls k t471 t472 t473 t474 t475 t476 t477 t480 _ A5.out).mono ?_); rintro e w13 ⟨v478, rfl, ho0, hb⟩; refine ⟨_, rfl, ?_⟩; have n0_ := Aside0.mk (Kd.R_elder' (by (with_reducible repeat (first | apply Kd.R_alloc | apply Kd.R_drewN | apply Kd.R_drew)); exact HO469.out) (Kd.R_base ho0) hb); have n1_ := Aside0.mk (Kd.R_lower (Kd.R_new' ho0 (Kd.R_lt (by (with_reducible repeat (first | apply Kd.R_alloc | apply Kd.R_drewN | apply Kd.R_drew)); exact HO469.out))) (below_size (by repeat (first | (with_reducible first | exact HB.out | apply below_alloc | apply pw_below_drewN | apply below_drew1 | refine below_set ?_ GE460.out) | exact HB.out)))); have n2_ := Aside0.mk (blk_below (g := gb460) (o := .cells #[.bool a0_0, .bool a0_1, .bool a0_2, .bool a0_3, .bool a0_4, .int .i64 a0_5] 23 (0, 0)) (by (with_reducible repeat (first | refine blk_drewN ?_ _ | refine blk_drew ?_ | refine blk_alloc ?_ _)); exact BK460.out) hb); have n3_ := Aside0.mk (below_step (by repeat (first | (with_reducible first | exact HB.out | apply below_alloc | apply pw_below_drewN | apply below_drew1 | refine below_set ?_ GE460.out) | exact HB.out)) hb); clear HO469; clear BK460; clear HB; have HO469 := n0_; have HO479 := n1_; have BK460 := n2_; have HB := n3_; clear n0_ n1_ n2_ n3_; (try clear hb); (try clear hb2); (try clear hk); (try clear hi); (try clear ho0)))
 (try simp only [Act.put, List.setIfInBounds_toArray, List.set_cons_zero, List.set_cons_succ])
 go_cut [31] (fun v31 wc => ∃ (kq : Nat) (x31_5 : Bool), v31 = .bool x31_5 ∧ Aside0 (laws_FnExactAllowedInputs.j0 kq t467 t470 t477 x31_5 a0_0 a0_1 a0_2 a0_3 a0_4 a0_5 = some r) ∧ Aside0 (kq ≤ k) ∧ Aside0 (Kd.R (Kd.int .i64) 2 wc w.heap.size (fun k_ => some k_ ≠ (v478 : Value).ownBlock) v468 t467) ∧ Aside0 (Kd.R (Kd.int .i64) 2 wc w.heap.size (fun k_ => some k_ ≠ (v468 : Value).ownBlock) v478 t477) ∧ Aside0 (wc.heap[gb460]? = some (.cells #[.bool a0_0, .bool a0_1, .bool a0_2, .bool a0_3, .bool a0_4, .int .i64 a0_5] 23 (0, 0))) ∧ Aside0 (Below w.heap.size w wc))
 case first =>
  have H := HC6.out
  clear HC6
  replace H := Option.bind_eq_some_iff.mp H
  obtain ⟨t481, A140, H⟩ := H
  replace H : (if t481 = true then (laws_FnExactAllowedInputs.j0 k t467 t470 t477 (t480 != t470) a0_0 a0_1 a0_2 a0_3 a0_4 a0_5) else (laws_FnExactAllowedInputs.j0 k t467 t470 t477 true a0_0 a0_1 a0_2 a0_3 a0_4 a0_5)) = some r := H
  have A14 := Aside0.mk A140
  clear A140
  by_cases c15 : t481 = true
  ·subst c15
   have H1 : (laws_FnExactAllowedInputs.j0 k t467 t470 t477 (t480 != t470) a0_0 a0_1 a0_2 a0_3 a0_4 a0_5) = some r := by rw [if_pos rfl] at H; exact H
   clear H
   have H := H1
   clear H1
   have H' := Aside0.mk H
   clear H
   obtain ⟨Ao16, co16, eo16⟩ := Kd.R_slice HO479.out
   subst eo16
   obtain ⟨Ao17, co17, eo17⟩ := Kd.R_slice HO469.out
   subst eo17
   go_wp2_with (first | ((with_reducible refine at_fn (f := 23) rfl ?_); refine goesL_ (some 25) rfl rfl Try.func23 (by kernel_rfl) rfl #[.slice Ao16 t477.length co16, .slice Ao17 t467.length co17] rfl (by (try simp only [List.map_toArray, List.map_cons, List.map_nil]); first | done | rfl | (simp only [List.length_drop, List.length_take]; rfl)) ?_; (with_reducible refine (laws_eqInt64S.calls k _ _ t477 _ _ t467 true _ ?side1 ?side2 ?side3 ?side4 A14.out).mono ?_); (case side1 => repeat (first | exact (Kd.R_reads' HO479.out).2.2 | (with_reducible refine Kd.C_alloc ?_ _) | (with_reducible refine Kd.C_drewN ?_ _) | (with_reducible refine Kd.C_drew ?_))); (case side2 => exact (Kd.R_reads' HO479.out).2.1); (case side3 => repeat (first | exact (Kd.R_reads' HO469.out).2.2 | (with_reducible refine Kd.C_alloc ?_ _) | (with_reducible refine Kd.C_drewN ?_ _) | (with_reducible refine Kd.C_drew ?_))); (case side4 => exact (Kd.R_reads' HO469.out).2.1); rintro e w' ⟨rfl, ⟨nd, rfl⟩⟩; refine ⟨_, rfl, ?_⟩))
   go_meet
   case rel => exact ⟨_, ((t480 != t470)), (by first | rfl | (simp; done) | (simp [*]; done)), H', ⟨by first | omega | exact Nat.le_refl _⟩, ⟨by (with_reducible repeat (first | apply Kd.R_alloc | apply Kd.R_drewN | apply Kd.R_drew)); exact Kd.R_mono HO469.out (fun _ hk => hk.2)⟩, ⟨by (with_reducible repeat (first | apply Kd.R_alloc | apply Kd.R_drewN | apply Kd.R_drew)); exact Kd.R_mono HO479.out (fun _ hk => hk.2)⟩, ⟨by (with_reducible repeat (first | refine blk_drewN ?_ _ | refine blk_drew ?_ | refine blk_alloc ?_ _)); exact BK460.out⟩, ⟨by repeat (first | (with_reducible first | exact HB.out | apply below_alloc | apply pw_below_drewN | apply below_drew1 | refine below_set ?_ GE460.out) | exact HB.out)⟩⟩
  ·replace c15 := Bool.eq_false_iff.mpr c15
   subst c15
   have H1 : (laws_FnExactAllowedInputs.j0 k t467 t470 t477 true a0_0 a0_1 a0_2 a0_3 a0_4 a0_5) = some r := by rw [if_neg (show ¬ (false = true) by decide)] at H; exact H
   clear H
   have H := H1
   clear H1
   have H' := Aside0.mk H
   clear H
   obtain ⟨Ao18, co18, eo18⟩ := Kd.R_slice HO479.out
   subst eo18
   obtain ⟨Ao19, co19, eo19⟩ := Kd.R_slice HO469.out
   subst eo19
   go_wp2_with (first | ((with_reducible refine at_fn (f := 23) rfl ?_); refine goesL_ (some 25) rfl rfl Try.func23 (by kernel_rfl) rfl #[.slice Ao18 t477.length co18, .slice Ao19 t467.length co19] rfl (by (try simp only [List.map_toArray, List.map_cons, List.map_nil]); first | done | rfl | (simp only [List.length_drop, List.length_take]; rfl)) ?_; (with_reducible refine (laws_eqInt64S.calls k _ _ t477 _ _ t467 false _ ?side1 ?side2 ?side3 ?side4 A14.out).mono ?_); (case side1 => repeat (first | exact (Kd.R_reads' HO479.out).2.2 | (with_reducible refine Kd.C_alloc ?_ _) | (with_reducible refine Kd.C_drewN ?_ _) | (with_reducible refine Kd.C_drew ?_))); (case side2 => exact (Kd.R_reads' HO479.out).2.1); (case side3 => repeat (first | exact (Kd.R_reads' HO469.out).2.2 | (with_reducible refine Kd.C_alloc ?_ _) | (with_reducible refine Kd.C_drewN ?_ _) | (with_reducible refine Kd.C_drew ?_))); (case side4 => exact (Kd.R_reads' HO469.out).2.1); rintro e w' ⟨rfl, ⟨nd, rfl⟩⟩; refine ⟨_, rfl, ?_⟩))
   go_meet
   case rel => exact ⟨_, (true), (by first | rfl | (simp; done) | (simp [*]; done)), H', ⟨by first | omega | exact Nat.le_refl _⟩, ⟨by (with_reducible repeat (first | apply Kd.R_alloc | apply Kd.R_drewN | apply Kd.R_drew)); exact Kd.R_mono HO469.out (fun _ hk => hk.2)⟩, ⟨by (with_reducible repeat (first | apply Kd.R_alloc | apply Kd.R_drewN | apply Kd.R_drew)); exact Kd.R_mono HO479.out (fun _ hk => hk.2)⟩, ⟨by (with_reducible repeat (first | refine blk_drewN ?_ _ | refine blk_drew ?_ | refine blk_alloc ?_ _)); exact BK460.out⟩, ⟨by repeat (first | (with_reducible first | exact HB.out | apply below_alloc | apply pw_below_drewN | apply below_drew1 | refine below_set ?_ GE460.out) | exact HB.out)⟩⟩
 case rest =>
  clear HC6
  try clear c1
  try clear c2
  try clear p2
  try clear c3
  try clear c9
  try clear c15
  try clear hcz11_0
  try clear hcz11_1
  try clear hcz11_2
  try clear hcz11_3
  try clear hcz11_4
  try clear hcz11_5
  try clear hcz8_0
  try clear hcz8_1
  try clear hcz8_2
  try clear hcz8_3
  try clear hcz8_4
  try clear hcz8_5
  try clear hfz11_0
  try clear hfz11_1
  try clear hfz11_2
  try clear hfz11_3
  try clear hfz11_4
  try clear hfz11_5
  try clear hfz8_0
  try clear hfz8_1
  try clear hfz8_2
  try clear hfz8_3
  try clear hfz8_4
  try clear hfz8_5
  obtain ⟨kq, x31_5, rfl, HA, HJ5, HO_3, HO_5, BK460, HB⟩ := hcut
  cases kq with
  | zero => exact absurd HA.out (by simp [laws_FnExactAllowedInputs.j0])
  | succ kj5 =>
   have H := HA.out
   clear HA
   simp only [laws_FnExactAllowedInputs.j0] at H
   by_cases c20 : x31_5 = true
   ·subst c20
    have H1 : (some false) = some r := by rw [if_pos rfl] at H; exact H
    clear H
    have H := H1
    clear H1
    obtain rfl := Option.some.inj H
    exact absurd hrt.out (by decide)
   ·replace c20 := Bool.eq_false_iff.mpr c20
    subst c20
    have H1 : ((laws_markInt64S.f kj5 t477 101).bind fun bt482 => ((laws_heldInt64S.f kj5 bt482.2 101).bind fun t484 => (if t484 < 0 then (some false) else (if t484 = bt482.1 then ((laws_toController.f a0_0 a0_1 a0_2 a0_3 a0_4 a0_5).bind fun bt485 => ((impl_AllowedInputs.f kj5 bt485.1 bt485.2.1 bt485.2.2.1 bt485.2.2.2.1 bt485.2.2.2.2.1 bt485.2.2.2.2.2).bind fun bt491 => ((laws_eqInt64S.f kj5 bt491.1 t467).bind fun t495 => (if t495 = true then (laws_FnExactAllowedInputs.j1 kj5 bt482.2 bt482.1 (bt491.2 != t470)) else (laws_FnExactAllowedInputs.j1 kj5 bt482.2 bt482.1 true))))) else (some false))))) = some r := by rw [if_neg (show ¬ (false = true) by decide)] at H; exact H
    clear H
    have H := H1
    clear H1
    replace H := Option.bind_eq_some_iff.mp H
    obtain ⟨⟨t482, t483⟩, A210, H⟩ := H
    replace H : ((laws_heldInt64S.f kj5 t483 101).bind fun t484 => (if t484 < 0 then (some false) else (if t484 = t482 then ((laws_toController.f a0_0 a0_1 a0_2 a0_3 a0_4 a0_5).bind fun bt485 => ((impl_AllowedInputs.f kj5 bt485.1 bt485.2.1 bt485.2.2.1 bt485.2.2.2.1 bt485.2.2.2.2.1 bt485.2.2.2.2.2).bind fun bt491 => ((laws_eqInt64S.f kj5 bt491.1 t467).bind fun t495 => (if t495 = true then (laws_FnExactAllowedInputs.j1 kj5 t483 t482 (bt491.2 != t470)) else (laws_FnExactAllowedInputs.j1 kj5 t483 t482 true))))) else (some false)))) = some r := H
    have A21 := Aside0.mk A210
    clear A210
    replace H := Option.bind_eq_some_iff.mp H
    obtain ⟨t484, A220, H⟩ := H
    replace H : (if t484 < 0 then (some false) else (if t484 = t482 then ((laws_toController.f a0_0 a0_1 a0_2 a0_3 a0_4 a0_5).bind fun bt485 => ((impl_AllowedInputs.f kj5 bt485.1 bt485.2.1 bt485.2.2.1 bt485.2.2.2.1 bt485.2.2.2.2.1 bt485.2.2.2.2.2).bind fun bt491 => ((laws_eqInt64S.f kj5 bt491.1 t467).bind fun t495 => (if t495 = true then (laws_FnExactAllowedInputs.j1 kj5 t483 t482 (bt491.2 != t470)) else (laws_FnExactAllowedInputs.j1 kj5 t483 t482 true))))) else (some false))) = some r := H
    have A22 := Aside0.mk A220
    clear A220
    by_cases c23 : t484 < 0
    ·rw [if_pos c23] at H
     have c23b0 : decide (t484 < 0) = true := decide_eq_true c23
     clear c23
     obtain rfl := Option.some.inj H
     exact absurd hrt.out (by decide)
    ·rw [if_neg c23] at H
     have c23b0 : decide (t484 < 0) = false := decide_eq_false c23
     clear c23
     by_cases c24 : t484 = t482
     ·rw [if_pos c24] at H
      have c24b0 : (t484 == t482) = true := beq_iff_eq.mpr c24
      have c24b1 : (t484 != t482) = false := bne_eq_false_iff_eq.mpr c24
      clear c24
      replace H := Option.bind_eq_some_iff.mp H
      obtain ⟨⟨t485, t486, t487, t488, t489, t490⟩, A250, H⟩ := H
      replace H : ((impl_AllowedInputs.f kj5 t485 t486 t487 t488 t489 t490).bind fun bt491 => ((laws_eqInt64S.f kj5 bt491.1 t467).bind fun t495 => (if t495 = true then (laws_FnExactAllowedInputs.j1 kj5 t483 t482 (bt491.2 != t470)) else (laws_FnExactAllowedInputs.j1 kj5 t483 t482 true)))) = some r := H
      have A25 := Aside0.mk A250
      clear A250
      replace H := Option.bind_eq_some_iff.mp H
      obtain ⟨⟨t491, t494⟩, A260, H⟩ := H
      replace H : ((laws_eqInt64S.f kj5 t491 t467).bind fun t495 => (if t495 = true then (laws_FnExactAllowedInputs.j1 kj5 t483 t482 (t494 != t470)) else (laws_FnExactAllowedInputs.j1 kj5 t483 t482 true))) = some r := H
      have A26 := Aside0.mk A260
      clear A260
      have HC27 := Aside0.mk H
      clear H
      obtain ⟨Ao28, co28, eo28⟩ := Kd.R_slice HO_5.out
      subst eo28
      go_upto_region 14 with (first | ((with_reducible refine at_fn (f := 24) rfl ?_); refine goesL_ (some 34) rfl rfl Try.func24 (by kernel_rfl) rfl #[.slice Ao28 t477.length co28, .int .i64 101] rfl (by (try simp only [List.map_toArray, List.map_cons, List.map_nil]); first | done | rfl | (simp only [List.length_drop, List.length_take]; rfl)) ?_; (with_reducible refine (laws_markInt64S.calls kj5 (fun k_ => some k_ = (.slice Ao28 t477.length co28 : Value).ownBlock) (.slice Ao28 t477.length co28) t477 101 t482 t483 w _ ?side1 ?side2 A21.out).mono ?_); (case side1 => repeat (first | (with_reducible first | exact HB.out | apply below_alloc | apply pw_below_drewN | apply below_drew1 | refine below_set ?_ GE460.out) | exact HB.out)); (case side2 => exact Kd.R_tight rfl HO_5.out); rintro e w29 ⟨rfl, hy0, hb, hkp⟩; refine ⟨_, rfl, ?_⟩; have n0_ := Aside0.mk (Kd.R_mono (ok' := fun k_ => some k_ ≠ (.slice Ao28 t477.length co28 : Value).ownBlock) (Kd.R_keptB (HO_3.out) hkp (fun k_ hk_ hs_ => (hk_) hs_)) (fun k_ hk_ => hk_.1)); have n1_ := Aside0.mk (Kd.R_reok rfl hy0 (fun k_ e_ => HO_5.out.1 k_ e_)); have n2_ := Aside0.mk (blk_kept (by (with_reducible repeat (first | refine blk_drewN ?_ _ | refine blk_drew ?_ | refine blk_alloc ?_ _)); exact BK460.out) hkp (fun hs_ => (fun e_ => (Kd.R_ne HO_5.out BK460.out (by decide)) e_) hs_)); have n3_ := Aside0.mk (hb); clear HO_3; clear HO_5; clear BK460; clear HB; have HO_3 := n0_; have HO_5 := n1_; have BK460 := n2_; have HB := n3_; clear n0_ n1_ n2_ n3_; (try clear hb); (try clear hkp); (try clear hy0)) | ((with_reducible refine at_fn (f := 25) rfl ?_); refine goesL_ (some 37) rfl rfl Try.func25 (by kernel_rfl) rfl #[.slice Ao28 t483.length co28, .int .i64 101] rfl (by (try simp only [List.map_toArray, List.map_cons, List.map_nil]); first | done | (rw [show t483.length = t477.length from (Kd.R_reads' HO_5.out).1.symm] <;> rfl) | rfl | (simp only [List.length_drop, List.length_take]; rfl)) ?_; (with_reducible refine (laws_heldInt64S.calls kj5 _ _ t483 101 t484 _ ?side1 ?side2 A22.out).mono ?_); (case side1 => repeat (first | exact (Kd.R_reads' HO_5.out).2.2 | (with_reducible refine Kd.C_alloc ?_ _) | (with_reducible refine Kd.C_drewN ?_ _) | (with_reducible refine Kd.C_drew ?_))); (case side2 => rw [show t483.length = t477.length from (Kd.R_reads' HO_5.out).1.symm]; exact (Kd.R_reads' HO_5.out).2.1); rintro e w' ⟨rfl, ⟨nd, rfl⟩⟩; refine ⟨_, rfl, ?_⟩; have hcz30_0 : w29.cell? ⟨gb460, 0, none⟩ = some (.bool a0_0) := (blk_cell BK460.out 0).trans rfl; have hcz30_1 : w29.cell? ⟨gb460, 1, none⟩ = some (.bool a0_1) := (blk_cell BK460.out 1).trans rfl; have hcz30_2 : w29.cell? ⟨gb460, 2, none⟩ = some (.bool a0_2) := (blk_cell BK460.out 2).trans rfl; have hcz30_3 : w29.cell? ⟨gb460, 3, none⟩ = some (.bool a0_3) := (blk_cell BK460.out 3).trans rfl; have hcz30_4 : w29.cell? ⟨gb460, 4, none⟩ = some (.bool a0_4) := (blk_cell BK460.out 4).trans rfl; have hcz30_5 : w29.cell? ⟨gb460, 5, none⟩ = some (.int .i64 a0_5) := (blk_cell BK460.out 5).trans rfl; have hfz30_0 := blk_frozen BK460.out 0; have hfz30_1 := blk_frozen BK460.out 1; have hfz30_2 := blk_frozen BK460.out 2; have hfz30_3 := blk_frozen BK460.out 3; have hfz30_4 := blk_frozen BK460.out 4; have hfz30_5 := blk_frozen BK460.out 5) | ((with_reducible refine at_fn (f := 15) rfl ?_); refine goesL_ (some 45) rfl rfl Try.func15 (by kernel_rfl) rfl #[.agg #[.bool a0_0, .bool a0_1, .bool a0_2, .bool a0_3, .bool a0_4, .int .i64 a0_5]] rfl (by (try simp only [List.map_toArray, List.map_cons, List.map_nil]); first | done | rfl | (simp only [List.length_drop, List.length_take]; rfl)) ?_; (with_reducible refine (laws_toController.calls a0_0 a0_1 a0_2 a0_3 a0_4 a0_5 t485 t486 t487 t488 t489 t490 _ A25.out).mono ?_); rintro e w31 ⟨rfl, hb⟩; refine ⟨_, rfl, ?_⟩; have n0_ := Aside0.mk (Kd.R_below (by (with_reducible repeat (first | apply Kd.R_alloc | apply Kd.R_drewN | apply Kd.R_drew)); exact HO_3.out) hb); have n1_ := Aside0.mk (Kd.R_below (by (with_reducible repeat (first | apply Kd.R_alloc | apply Kd.R_drewN | apply Kd.R_drew)); exact HO_5.out) hb); have n2_ := Aside0.mk (blk_below (g := gb460) (o := .cells #[.bool a0_0, .bool a0_1, .bool a0_2, .bool a0_3, .bool a0_4, .int .i64 a0_5] 23 (0, 0)) (by (with_reducible repeat (first | refine blk_drewN ?_ _ | refine blk_drew ?_ | refine blk_alloc ?_ _)); exact BK460.out) hb); have n3_ := Aside0.mk (below_step (by repeat (first | (with_reducible first | exact HB.out | apply below_alloc | apply pw_below_drewN | apply below_drew1 | refine below_set ?_ GE460.out) | exact HB.out)) hb); clear HO_3; clear HO_5; clear BK460; clear HB; have HO_3 := n0_; have HO_5 := n1_; have BK460 := n2_; have HB := n3_; clear n0_ n1_ n2_ n3_; (try clear hb); (try clear hb2); (try clear hk); (try clear hi)) | ((with_reducible refine at_fn (f := 34) rfl ?_); refine goesL_ (some 46) rfl rfl Try.func34 (by kernel_rfl) rfl #[.agg #[.bool t485, .bool t486, .bool t487, .bool t488, .bool t489, .int .i64 t490]] rfl (by (try simp only [List.map_toArray, List.map_cons, List.map_nil]); first | done | rfl | (simp only [List.length_drop, List.length_take]; rfl)) ?_; (with_reducible refine (impl_AllowedInputs.calls kj5 t485 t486 t487 t488 t489 t490 t491 t494 _ A26.out).mono ?_); rintro e w32 ⟨v492, rfl, ho0, hb⟩; refine ⟨_, rfl, ?_⟩; have n0_ := Aside0.mk (Kd.R_elder' (by (with_reducible repeat (first | apply Kd.R_alloc | apply Kd.R_drewN | apply Kd.R_drew)); exact HO_3.out) (Kd.R_base ho0) hb); have n1_ := Aside0.mk (Kd.R_elder' (by (with_reducible repeat (first | apply Kd.R_alloc | apply Kd.R_drewN | apply Kd.R_drew)); exact HO_5.out) (Kd.R_base ho0) hb); have n2_ := Aside0.mk (Kd.R_lower (Kd.R_new' (Kd.R_new' ho0 (Kd.R_lt (by (with_reducible repeat (first | apply Kd.R_alloc | apply Kd.R_drewN | apply Kd.R_drew)); exact HO_3.out))) (Kd.R_lt (by (with_reducible repeat (first | apply Kd.R_alloc | apply Kd.R_drewN | apply Kd.R_drew)); exact HO_5.out))) (below_size (by repeat (first | (with_reducible first | exact HB.out | apply below_alloc | apply pw_below_drewN | apply below_drew1 | refine below_set ?_ GE460.out) | exact HB.out)))); have n3_ := Aside0.mk (blk_below (g := gb460) (o := .cells #[.bool a0_0, .bool a0_1, .bool a0_2, .bool a0_3, .bool a0_4, .int .i64 a0_5] 23 (0, 0)) (by (with_reducible repeat (first | refine blk_drewN ?_ _ | refine blk_drew ?_ | refine blk_alloc ?_ _)); exact BK460.out) hb); have n4_ := Aside0.mk (below_step (by repeat (first | (with_reducible first | exact HB.out | apply below_alloc | apply pw_below_drewN | apply below_drew1 | refine below_set ?_ GE460.out) | exact HB.out)) hb); clear HO_3; clear HO_5; clear BK460; clear HB; have HO_3 := n0_; have HO_5 := n1_; have HO493 := n2_; have BK460 := n3_; have HB := n4_; clear n0_ n1_ n2_ n3_ n4_; (try clear hb); (try clear hb2); (try clear hk); (try clear hi); (try clear ho0)))
      (try simp only [Act.put, List.setIfInBounds_toArray, List.set_cons_zero, List.set_cons_succ])
      go_cut [57] (fun v57 wc => ∃ (kq : Nat) (x57_26 : Bool), v57 = .bool x57_26 ∧ Aside0 (laws_FnExactAllowedInputs.j1 kq t483 t482 x57_26 = some r) ∧ Aside0 (kq ≤ kj5) ∧ Aside0 (Kd.R (Kd.int .i64) 2 wc w.heap.size (fun _ => True) (.slice Ao28 t477.length co28) t483) ∧ Aside0 (wc.heap[gb460]? = some (.cells #[.bool a0_0, .bool a0_1, .bool a0_2, .bool a0_3, .bool a0_4, .int .i64 a0_5] 23 (0, 0))) ∧ Aside0 (Below w.heap.size w wc))
      case first =>
       have H := HC27.out
       clear HC27
       replace H := Option.bind_eq_some_iff.mp H
       obtain ⟨t495, A330, H⟩ := H
       replace H : (if t495 = true then (laws_FnExactAllowedInputs.j1 kj5 t483 t482 (t494 != t470)) else (laws_FnExactAllowedInputs.j1 kj5 t483 t482 true)) = some r := H
       have A33 := Aside0.mk A330
       clear A330
       by_cases c34 : t495 = true
       ·subst c34
        have H1 : (laws_FnExactAllowedInputs.j1 kj5 t483 t482 (t494 != t470)) = some r := by rw [if_pos rfl] at H; exact H
        clear H
        have H := H1
        clear H1
        have H' := Aside0.mk H
        clear H
        obtain ⟨Ao35, co35, eo35⟩ := Kd.R_slice HO493.out
        subst eo35
        obtain ⟨Ao36, co36, eo36⟩ := Kd.R_slice HO_3.out
        subst eo36
        go_wp2_with (first | ((with_reducible refine at_fn (f := 23) rfl ?_); refine goesL_ (some 51) rfl rfl Try.func23 (by kernel_rfl) rfl #[.slice Ao35 t491.length co35, .slice Ao36 t467.length co36] rfl (by (try simp only [List.map_toArray, List.map_cons, List.map_nil]); first | done | rfl | (simp only [List.length_drop, List.length_take]; rfl)) ?_; (with_reducible refine (laws_eqInt64S.calls kj5 _ _ t491 _ _ t467 true _ ?side1 ?side2 ?side3 ?side4 A33.out).mono ?_); (case side1 => repeat (first | exact (Kd.R_reads' HO493.out).2.2 | (with_reducible refine Kd.C_alloc ?_ _) | (with_reducible refine Kd.C_drewN ?_ _) | (with_reducible refine Kd.C_drew ?_))); (case side2 => exact (Kd.R_reads' HO493.out).2.1); (case side3 => repeat (first | exact (Kd.R_reads' HO_3.out).2.2 | (with_reducible refine Kd.C_alloc ?_ _) | (with_reducible refine Kd.C_drewN ?_ _) | (with_reducible refine Kd.C_drew ?_))); (case side4 => exact (Kd.R_reads' HO_3.out).2.1); rintro e w' ⟨rfl, ⟨nd, rfl⟩⟩; refine ⟨_, rfl, ?_⟩))
        go_meet
        case rel => exact ⟨_, ((t494 != t470)), (by first | rfl | (simp; done) | (simp [*]; done)), H', ⟨by have := HJ5.out; first | omega | exact Nat.le_refl _⟩, ⟨by (with_reducible repeat (first | apply Kd.R_alloc | apply Kd.R_drewN | apply Kd.R_drew)); exact Kd.R_mono HO_5.out (fun _ hk => trivial)⟩, ⟨by (with_reducible repeat (first | refine blk_drewN ?_ _ | refine blk_drew ?_ | refine blk_alloc ?_ _)); exact BK460.out⟩, ⟨by repeat (first | (with_reducible first | exact HB.out | apply below_alloc | apply pw_below_drewN | apply below_drew1 | refine below_set ?_ GE460.out) | exact HB.out)⟩⟩
       ·replace c34 := Bool.eq_false_iff.mpr c34
        subst c34
        have H1 : (laws_FnExactAllowedInputs.j1 kj5 t483 t482 true) = some r := by rw [if_neg (show ¬ (false = true) by decide)] at H; exact H
        clear H
        have H := H1
        clear H1
        have H' := Aside0.mk H
        clear H
        obtain ⟨Ao37, co37, eo37⟩ := Kd.R_slice HO493.out
        subst eo37
        obtain ⟨Ao38, co38, eo38⟩ := Kd.R_slice HO_3.out
        subst eo38
        go_wp2_with (first | ((with_reducible refine at_fn (f := 23) rfl ?_); refine goesL_ (some 51) rfl rfl Try.func23 (by kernel_rfl) rfl #[.slice Ao37 t491.length co37, .slice Ao38 t467.length co38] rfl (by (try simp only [List.map_toArray, List.map_cons, List.map_nil]); first | done | rfl | (simp only [List.length_drop, List.length_take]; rfl)) ?_; (with_reducible refine (laws_eqInt64S.calls kj5 _ _ t491 _ _ t467 false _ ?side1 ?side2 ?side3 ?side4 A33.out).mono ?_); (case side1 => repeat (first | exact (Kd.R_reads' HO493.out).2.2 | (with_reducible refine Kd.C_alloc ?_ _) | (with_reducible refine Kd.C_drewN ?_ _) | (with_reducible refine Kd.C_drew ?_))); (case side2 => exact (Kd.R_reads' HO493.out).2.1); (case side3 => repeat (first | exact (Kd.R_reads' HO_3.out).2.2 | (with_reducible refine Kd.C_alloc ?_ _) | (with_reducible refine Kd.C_drewN ?_ _) | (with_reducible refine Kd.C_drew ?_))); (case side4 => exact (Kd.R_reads' HO_3.out).2.1); rintro e w' ⟨rfl, ⟨nd, rfl⟩⟩; refine ⟨_, rfl, ?_⟩))
        go_meet
        case rel => exact ⟨_, (true), (by first | rfl | (simp; done) | (simp [*]; done)), H', ⟨by have := HJ5.out; first | omega | exact Nat.le_refl _⟩, ⟨by (with_reducible repeat (first | apply Kd.R_alloc | apply Kd.R_drewN | apply Kd.R_drew)); exact Kd.R_mono HO_5.out (fun _ hk => trivial)⟩, ⟨by (with_reducible repeat (first | refine blk_drewN ?_ _ | refine blk_drew ?_ | refine blk_alloc ?_ _)); exact BK460.out⟩, ⟨by repeat (first | (with_reducible first | exact HB.out | apply below_alloc | apply pw_below_drewN | apply below_drew1 | refine below_set ?_ GE460.out) | exact HB.out)⟩⟩
      case rest =>
       clear HC27
       try clear c1
       try clear c2
       try clear p2
       try clear c3
       try clear c9
       try clear c15
       try clear c20
       try clear c23
       try clear c23b0
       try clear c24
       try clear c24b0
       try clear c24b1
       try clear c25
       try clear c33
       try clear c34
       try clear hcz11_0
       try clear hcz11_1
       try clear hcz11_2
       try clear hcz11_3
       try clear hcz11_4
       try clear hcz11_5
       try clear hcz30_0
       try clear hcz30_1
       try clear hcz30_2
       try clear hcz30_3
       try clear hcz30_4
       try clear hcz30_5
       try clear hcz8_0
       try clear hcz8_1
       try clear hcz8_2
       try clear hcz8_3
       try clear hcz8_4
       try clear hcz8_5
       try clear hfz11_0
       try clear hfz11_1
       try clear hfz11_2
       try clear hfz11_3
       try clear hfz11_4
       try clear hfz11_5
       try clear hfz30_0
       try clear hfz30_1
       try clear hfz30_2
       try clear hfz30_3
       try clear hfz30_4
       try clear hfz30_5
       try clear hfz8_0
       try clear hfz8_1
       try clear hfz8_2
       try clear hfz8_3
       try clear hfz8_4
       try clear hfz8_5
       try clear p2
       obtain ⟨kq, x57_26, rfl, HA, HJ26, HO_5, BK460, HB⟩ := hcut
       have hl5_26 := (Kd.R_reads' HO_5.out).1
       rw [hl5_26] at HO_5
       (try simp only [hl5_26])
       (try simp only [hl5_26] at BK460)
       cases kq with
       | zero => exact absurd HA.out (by simp [laws_FnExactAllowedInputs.j1])
       | succ kj26 =>
        have H := HA.out
        clear HA
        simp only [laws_FnExactAllowedInputs.j1] at H
        by_cases c39 : x57_26 = true
        ·subst c39
         have H1 : (some false) = some r := by rw [if_pos rfl] at H; exact H
         clear H
         have H := H1
         clear H1
         obtain rfl := Option.some.inj H
         exact absurd hrt.out (by decide)
        ·replace c39 := Bool.eq_false_iff.mpr c39
         subst c39
         have H1 : ((laws_heldInt64S.f kj26 t483 101).bind fun t496 => (if t496 < 0 then (some false) else (if t496 = t482 then (some true) else (some false)))) = some r := by rw [if_neg (show ¬ (false = true) by decide)] at H; exact H
         clear H
         have H := H1
         clear H1
         replace H := Option.bind_eq_some_iff.mp H
         obtain ⟨t496, A400, H⟩ := H
         replace H : (if t496 < 0 then (some false) else (if t496 = t482 then (some true) else (some false))) = some r := H
         have A40 := Aside0.mk A400
         clear A400
         by_cases c41 : t496 < 0
         ·rw [if_pos c41] at H
          have c41b0 : decide (t496 < 0) = true := decide_eq_true c41
          clear c41
          obtain rfl := Option.some.inj H
          exact absurd hrt.out (by decide)
         ·rw [if_neg c41] at H
          have c41b0 : decide (t496 < 0) = false := decide_eq_false c41
          clear c41
          by_cases c42 : t496 = t482
          ·rw [if_pos c42] at H
           have c42b0 : (t496 == t482) = true := beq_iff_eq.mpr c42
           have c42b1 : (t496 != t482) = false := bne_eq_false_iff_eq.mpr c42
           clear c42
           obtain rfl := Option.some.inj H
           go_wp2_with (first | ((with_reducible refine at_fn (f := 25) rfl ?_); refine goesL_ (some 60) rfl rfl Try.func25 (by kernel_rfl) rfl #[.slice Ao28 t483.length co28, .int .i64 101] rfl (by (try simp only [List.map_toArray, List.map_cons, List.map_nil]); first | done | rfl | (simp only [List.length_drop, List.length_take]; rfl)) ?_; (with_reducible refine (laws_heldInt64S.calls kj26 _ _ t483 101 t496 _ ?side1 ?side2 A40.out).mono ?_); (case side1 => repeat (first | exact (Kd.R_reads' HO_5.out).2.2 | (with_reducible refine Kd.C_alloc ?_ _) | (with_reducible refine Kd.C_drewN ?_ _) | (with_reducible refine Kd.C_drew ?_))); (case side2 => exact (Kd.R_reads' HO_5.out).2.1); rintro e w' ⟨rfl, ⟨nd, rfl⟩⟩; refine ⟨_, rfl, ?_⟩))
           go_ret
           exact ⟨by first | rfl | (simp [errW_none, errW_some] <;> rfl) | (simp [*, errW_none, errW_some] <;> rfl), by repeat (first | (with_reducible first | exact HB.out | apply below_alloc | apply pw_below_drewN | apply below_drew1 | refine below_set ?_ GE460.out) | exact HB.out)⟩
          ·rw [if_neg c42] at H
           have c42b0 : (t496 == t482) = false := beq_eq_false_iff_ne.mpr c42
           have c42b1 : (t496 != t482) = true := bne_iff_ne.mpr c42
           obtain rfl := Option.some.inj H
           exact absurd hrt.out (by decide)
     ·rw [if_neg c24] at H
      have c24b0 : (t484 == t482) = false := beq_eq_false_iff_ne.mpr c24
      have c24b1 : (t484 != t482) = true := bne_iff_ne.mpr c24
      obtain rfl := Option.some.inj H
      exact absurd hrt.out (by decide)


end Go.Proofs.Ytapcjchgcppanaa.Pall
