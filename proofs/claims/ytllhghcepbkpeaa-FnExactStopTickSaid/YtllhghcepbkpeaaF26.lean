/- Go functions of the program, each as a Lean function, and the proof that each call comes to what the Lean function tells; no condition beyond those that stand there. -/
import Derived.Test.YtllhghcepbkpeaaF00
import Derived.Test.YtllhghcepbkpeaaF23
import Derived.Test.YtllhghcepbkpeaaF24
import Derived.Test.YtllhghcepbkpeaaF25
import Derived.Test.YtllhghcepbkpeaaWLast
import Derived.Test.YtllhghcepbkpeaaSpare
namespace Go.Proofs.Ytllhghcepbkpeaa.Pall
open Go.RowKit Go.Proofs.YtllhghcepbkpeaaW.PrintWords Go.Proofs.YtllhghcepbkpeaaW.PrintLast
set_option linter.unusedVariables false
set_option linter.unusedSimpArgs false

/-! ### laws_FnExactStopTick: function 13 -/
def laws_FnExactStopTick.j0 : Nat → List (S105) → Int → Int → Int → Int → Int → List (S103) → Bool → Option (Bool)
 | 0, _, _, _, _, _, _, _, _ => none
 | k + 1, x0, x1, x2, x3, x10, x11, x12, x48 => if x48 = true then (some false) else ((laws_toModuleS.f k x0 false).bind fun t955 => ((laws_intactModuleS.f k x12 t955).bind fun t958 => (if t958 = true then ((laws_toModuleS.f k x0 true).bind fun t959 => ((impl_StopTick.f k t959 x1 x2 x3).bind fun bt962 => (if bt962.1 = x10 then (if bt962.2 = x11 then (some true) else (some false)) else (some false)))) else (some false))))
def laws_FnExactStopTick.f (k : Nat) (l0 : List (S105)) (a1 : Int) (a2 : Int) (a3 : Int) : Option (Bool) := (laws_szModuleS.f l0 1000000).bind fun t944 => (if t944 < 0 then (some true) else ((laws_toModuleS.f k l0 false).bind fun t945 => ((spec_StopTick.f k t945 a1 a2 a3).bind fun bt948 => ((laws_toModuleS.f k l0 false).bind fun t950 => ((impl_StopTick.f k t950 a1 a2 a3).bind fun bt953 => (if bt953.1 = bt948.1 then (laws_FnExactStopTick.j0 k l0 a1 a2 a3 bt948.1 bt948.2 t950 (bt953.2 != bt948.2)) else (laws_FnExactStopTick.j0 k l0 a1 a2 a3 bt948.1 bt948.2 t950 true)))))))
theorem laws_FnExactStopTick.mono_l : ∀ k, (∀ y0 y1 y2 y3 y4 y5 y6 y7, LeO (laws_FnExactStopTick.j0 k y0 y1 y2 y3 y4 y5 y6 y7) (laws_FnExactStopTick.j0 (k + 1) y0 y1 y2 y3 y4 y5 y6 y7))
 | 0 => fun _ _ _ _ _ _ _ _ r h => by simp [laws_FnExactStopTick.j0] at h
 | k + 1 => by
  have ih0 := laws_FnExactStopTick.mono_l k
  ·intro y0 y1 y2 y3 y4 y5 y6 y7
   unfold laws_FnExactStopTick.j0
   repeat' first
   | (with_reducible exact ih0 _ _ _ _ _ _ _ _)
   | (with_reducible exact impl_StopTick.mono _ _ _ _ _)
   | (with_reducible exact laws_intactModuleS.mono _ _ _)
   | (with_reducible exact laws_toModuleS.mono _ _ _)
   | (with_reducible exact spec_StopTick.mono _ _ _ _ _)
   | (with_reducible exact LeO.refl _)
   | (with_reducible exact LeO.none _)
   | (with_reducible refine LeO.ite ?_ ?_)
   | (with_reducible refine LeO.bind ?_ (fun _ => ?_))
   | exact ih0 _ _ _ _ _ _ _ _
   | exact impl_StopTick.mono _ _ _ _ _
   | exact laws_intactModuleS.mono _ _ _
   | exact laws_toModuleS.mono _ _ _
   | exact spec_StopTick.mono _ _ _ _ _
   | exact LeO.none _
   | refine LeO.ite ?_ ?_
   | refine LeO.bind ?_ (fun _ => ?_)
theorem laws_FnExactStopTick.mono : ∀ a0 a1 a2 a3 k, LeO (laws_FnExactStopTick.f k a0 a1 a2 a3) (laws_FnExactStopTick.f (k + 1) a0 a1 a2 a3) := by
 intro a0 a1 a2 a3 k
 have ih0 := laws_FnExactStopTick.mono_l k
 unfold laws_FnExactStopTick.f
 repeat' first
   | (with_reducible exact ih0 _ _ _ _ _ _ _ _)
   | (with_reducible exact impl_StopTick.mono _ _ _ _ _)
   | (with_reducible exact laws_intactModuleS.mono _ _ _)
   | (with_reducible exact laws_toModuleS.mono _ _ _)
   | (with_reducible exact spec_StopTick.mono _ _ _ _ _)
   | (with_reducible exact LeO.refl _)
   | (with_reducible exact LeO.none _)
   | (with_reducible refine LeO.ite ?_ ?_)
   | (with_reducible refine LeO.bind ?_ (fun _ => ?_))
   | exact ih0 _ _ _ _ _ _ _ _
   | exact impl_StopTick.mono _ _ _ _ _
   | exact laws_intactModuleS.mono _ _ _
   | exact laws_toModuleS.mono _ _ _
   | exact spec_StopTick.mono _ _ _ _ _
   | exact LeO.none _
   | refine LeO.ite ?_ ?_
   | refine LeO.bind ?_ (fun _ => ?_)
set_option maxHeartbeats 8000000 in
set_option maxRecDepth 100000 in
theorem laws_FnExactStopTick.calls (k : Nat) (A0 : Option Addr) (c0 : Nat) (l0 : List (S105)) (a1 : Int) (a2 : Int) (a3 : Int) (r : Bool) (w : World) (hr0 : Kd.C k105 w A0 l0.length l0) (hc0 : l0.length ≤ c0) (hrt : Aside0 (r = true)) (h : laws_FnExactStopTick.f k l0 a1 a2 a3 = some r) :
  Calls Try.prog 13 #[.slice A0 l0.length c0, .int .i64 a1, .int .i64 a2, .int .i64 a3] w fun e w' => e = .returned (.bool r) ∧ Below w.heap.size w w' := by
 have HR0 := Aside0.mk hr0
 have HC0 := Aside0.mk hc0
 clear hr0 hc0
 have HB := Aside0.mk (Below.refl w.heap.size w)
 have H : ((laws_szModuleS.f l0 1000000).bind fun t944 => (if t944 < 0 then (some true) else ((laws_toModuleS.f k l0 false).bind fun t945 => ((spec_StopTick.f k t945 a1 a2 a3).bind fun bt948 => ((laws_toModuleS.f k l0 false).bind fun t950 => ((impl_StopTick.f k t950 a1 a2 a3).bind fun bt953 => (if bt953.1 = bt948.1 then (laws_FnExactStopTick.j0 k l0 a1 a2 a3 bt948.1 bt948.2 t950 (bt953.2 != bt948.2)) else (laws_FnExactStopTick.j0 k l0 a1 a2 a3 bt948.1 bt948.2 t950 true)))))))) = some r := h
 clear h
 replace H := Option.bind_eq_some_iff.mp H
 obtain ⟨t944, A50, H⟩ := H
 replace H : (if t944 < 0 then (some true) else ((laws_toModuleS.f k l0 false).bind fun t945 => ((spec_StopTick.f k t945 a1 a2 a3).bind fun bt948 => ((laws_toModuleS.f k l0 false).bind fun t950 => ((impl_StopTick.f k t950 a1 a2 a3).bind fun bt953 => (if bt953.1 = bt948.1 then (laws_FnExactStopTick.j0 k l0 a1 a2 a3 bt948.1 bt948.2 t950 (bt953.2 != bt948.2)) else (laws_FnExactStopTick.j0 k l0 a1 a2 a3 bt948.1 bt948.2 t950 true))))))) = some r := H
 have A5 := Aside0.mk A50
 clear A50
 by_cases c6 : t944 < 0
 ·rw [if_pos c6] at H
  have c6b0 : decide (t944 < 0) = true := decide_eq_true c6
  clear c6
  obtain rfl := Option.some.inj H
  go_enter Try.func13, Try.ntmps13
  go_wp2_with (first | ((with_reducible refine at_fn (f := 55) rfl ?_); refine goesL_ (some 19) rfl rfl Try.func55 (by kernel_rfl) rfl #[.slice A0 l0.length c0, .int .i64 1000000] rfl (by (try simp only [List.map_toArray, List.map_cons, List.map_nil]); first | done | rfl | (simp only [List.length_drop, List.length_take]; rfl)) ?_; (with_reducible refine (laws_szModuleS.calls _ _ l0 1000000 t944 _ ?side1 ?side2 A5.out).mono ?_); (case side1 => repeat (first | exact HR0.out | (with_reducible refine Kd.C_alloc ?_ _) | (with_reducible refine Kd.C_drewN ?_ _) | (with_reducible refine Kd.C_drew ?_))); (case side2 => exact HC0.out); rintro e w' ⟨rfl, ⟨nd, rfl⟩⟩; refine ⟨_, rfl, ?_⟩))
  go_ret
  exact ⟨by first | rfl | (simp [errW_none, errW_some] <;> rfl) | (simp [*, errW_none, errW_some] <;> rfl), by repeat (first | (with_reducible first | exact HB.out | apply below_alloc | apply pw_below_drewN | apply below_drew1) | exact HB.out)⟩
 ·rw [if_neg c6] at H
  have c6b0 : decide (t944 < 0) = false := decide_eq_false c6
  clear c6
  replace H := Option.bind_eq_some_iff.mp H
  obtain ⟨t945, A70, H⟩ := H
  replace H : ((spec_StopTick.f k t945 a1 a2 a3).bind fun bt948 => ((laws_toModuleS.f k l0 false).bind fun t950 => ((impl_StopTick.f k t950 a1 a2 a3).bind fun bt953 => (if bt953.1 = bt948.1 then (laws_FnExactStopTick.j0 k l0 a1 a2 a3 bt948.1 bt948.2 t950 (bt953.2 != bt948.2)) else (laws_FnExactStopTick.j0 k l0 a1 a2 a3 bt948.1 bt948.2 t950 true))))) = some r := H
  have A7 := Aside0.mk A70
  clear A70
  replace H := Option.bind_eq_some_iff.mp H
  obtain ⟨⟨t948, t949⟩, A80, H⟩ := H
  replace H : ((laws_toModuleS.f k l0 false).bind fun t950 => ((impl_StopTick.f k t950 a1 a2 a3).bind fun bt953 => (if bt953.1 = t948 then (laws_FnExactStopTick.j0 k l0 a1 a2 a3 t948 t949 t950 (bt953.2 != t949)) else (laws_FnExactStopTick.j0 k l0 a1 a2 a3 t948 t949 t950 true)))) = some r := H
  have A8 := Aside0.mk A80
  clear A80
  replace H := Option.bind_eq_some_iff.mp H
  obtain ⟨t950, A90, H⟩ := H
  replace H : ((impl_StopTick.f k t950 a1 a2 a3).bind fun bt953 => (if bt953.1 = t948 then (laws_FnExactStopTick.j0 k l0 a1 a2 a3 t948 t949 t950 (bt953.2 != t949)) else (laws_FnExactStopTick.j0 k l0 a1 a2 a3 t948 t949 t950 true))) = some r := H
  have A9 := Aside0.mk A90
  clear A90
  replace H := Option.bind_eq_some_iff.mp H
  obtain ⟨⟨t953, t954⟩, A100, H⟩ := H
  replace H : (if t953 = t948 then (laws_FnExactStopTick.j0 k l0 a1 a2 a3 t948 t949 t950 (t954 != t949)) else (laws_FnExactStopTick.j0 k l0 a1 a2 a3 t948 t949 t950 true)) = some r := H
  have A10 := Aside0.mk A100
  clear A100
  have HC11 := Aside0.mk H
  clear H
  go_enter Try.func13, Try.ntmps13
  go_upto_region 8 with (first | ((with_reducible refine at_fn (f := 55) rfl ?_); refine goesL_ (some 19) rfl rfl Try.func55 (by kernel_rfl) rfl #[.slice A0 l0.length c0, .int .i64 1000000] rfl (by (try simp only [List.map_toArray, List.map_cons, List.map_nil]); first | done | rfl | (simp only [List.length_drop, List.length_take]; rfl)) ?_; (with_reducible refine (laws_szModuleS.calls _ _ l0 1000000 t944 _ ?side1 ?side2 A5.out).mono ?_); (case side1 => repeat (first | exact HR0.out | (with_reducible refine Kd.C_alloc ?_ _) | (with_reducible refine Kd.C_drewN ?_ _) | (with_reducible refine Kd.C_drew ?_))); (case side2 => exact HC0.out); rintro e w' ⟨rfl, ⟨nd, rfl⟩⟩; refine ⟨_, rfl, ?_⟩) | ((with_reducible refine at_fn (f := 57) rfl ?_); refine goesL_ (some 24) rfl rfl Try.func57 (by kernel_rfl) rfl #[.slice A0 l0.length c0, .bool false] rfl (by (try simp only [List.map_toArray, List.map_cons, List.map_nil]); first | done | rfl | (simp only [List.length_drop, List.length_take]; rfl)) ?_; (with_reducible refine (laws_toModuleS.callsF k _ _ l0 t945 _ ?side1 ?side2 A7.out).mono ?_); (case side1 => repeat (first | exact HR0.out | (with_reducible refine Kd.C_alloc ?_ _) | (with_reducible refine Kd.C_drewN ?_ _) | (with_reducible refine Kd.C_drew ?_))); (case side2 => exact HC0.out); rintro e w12 ⟨v946, rfl, ho0, hb⟩; refine ⟨_, rfl, ?_⟩; have n0_ := Aside0.mk (Kd.P_lower ho0 (below_size (by repeat (first | (with_reducible first | exact HB.out | apply below_alloc | apply pw_below_drewN | apply below_drew1) | exact HB.out)))); have n1_ := Aside0.mk (below_step (by repeat (first | (with_reducible first | exact HB.out | apply below_alloc | apply pw_below_drewN | apply below_drew1) | exact HB.out)) hb); clear HB; have HO947 := n0_; have HB := n1_; clear n0_ n1_; (try clear hb); (try clear hb2); (try clear hk); (try clear hi); (try clear ho0); obtain ⟨Ao13, co13, eo13⟩ := Kd.P_slice HO947.out; subst eo13) | ((with_reducible refine at_fn (f := 56) rfl ?_); refine goesL_ (some 28) rfl rfl Try.func56 (by kernel_rfl) rfl #[.slice Ao13 t945.length co13, .int .i64 a1, .int .i64 a2, .int .i64 a3] rfl (by (try simp only [List.map_toArray, List.map_cons, List.map_nil]); first | done | rfl | (simp only [List.length_drop, List.length_take]; rfl)) ?_; (with_reducible refine (spec_StopTick.calls k _ _ t945 a1 a2 a3 t948 t949 _ ?side1 ?side2 A8.out).mono ?_); (case side1 => repeat (first | exact (Kd.P_reads' HO947.out).2.2 | (with_reducible refine Kd.C_alloc ?_ _) | (with_reducible refine Kd.C_drewN ?_ _) | (with_reducible refine Kd.C_drew ?_))); (case side2 => exact (Kd.P_reads' HO947.out).2.1); rintro e w14 ⟨rfl, hb⟩; refine ⟨_, rfl, ?_⟩; have n0_ := Aside0.mk (Kd.P_below (by (with_reducible repeat (first | apply Kd.P_alloc | apply Kd.P_drewN | apply Kd.P_drew)); exact HO947.out) hb); have n1_ := Aside0.mk (below_step (by repeat (first | (with_reducible first | exact HB.out | apply below_alloc | apply pw_below_drewN | apply below_drew1) | exact HB.out)) hb); clear HO947; clear HB; have HO947 := n0_; have HB := n1_; clear n0_ n1_; (try clear hb); (try clear hb2); (try clear hk); (try clear hi)) | ((with_reducible refine at_fn (f := 57) rfl ?_); refine goesL_ (some 32) rfl rfl Try.func57 (by kernel_rfl) rfl #[.slice A0 l0.length c0, .bool false] rfl (by (try simp only [List.map_toArray, List.map_cons, List.map_nil]); first | done | rfl | (simp only [List.length_drop, List.length_take]; rfl)) ?_; (with_reducible refine (laws_toModuleS.callsF k _ _ l0 t950 _ ?side1 ?side2 A9.out).mono ?_); (case side1 => repeat (first | exact (Kd.C_below HR0.out HB.out) | (with_reducible refine Kd.C_alloc ?_ _) | (with_reducible refine Kd.C_drewN ?_ _) | (with_reducible refine Kd.C_drew ?_))); (case side2 => exact HC0.out); rintro e w15 ⟨v951, rfl, ho0, hb⟩; refine ⟨_, rfl, ?_⟩; have n0_ := Aside0.mk (Kd.P_elder' (by (with_reducible repeat (first | apply Kd.P_alloc | apply Kd.P_drewN | apply Kd.P_drew)); exact HO947.out) (Kd.P_base ho0) hb); have n1_ := Aside0.mk (Kd.P_lower (Kd.P_new' ho0 (Kd.P_lt (by (with_reducible repeat (first | apply Kd.P_alloc | apply Kd.P_drewN | apply Kd.P_drew)); exact HO947.out))) (below_size (by repeat (first | (with_reducible first | exact HB.out | apply below_alloc | apply pw_below_drewN | apply below_drew1) | exact HB.out)))); have n2_ := Aside0.mk (below_step (by repeat (first | (with_reducible first | exact HB.out | apply below_alloc | apply pw_below_drewN | apply below_drew1) | exact HB.out)) hb); clear HO947; clear HB; have HO947 := n0_; have HO952 := n1_; have HB := n2_; clear n0_ n1_ n2_; (try clear hb); (try clear hb2); (try clear hk); (try clear hi); (try clear ho0); obtain ⟨Ao16, co16, eo16⟩ := Kd.P_slice HO952.out; subst eo16) | ((with_reducible refine at_fn (f := 58) rfl ?_); refine goesL_ (some 38) rfl rfl Try.func58 (by kernel_rfl) rfl #[.slice Ao16 t950.length co16, .int .i64 a1, .int .i64 a2, .int .i64 a3] rfl (by (try simp only [List.map_toArray, List.map_cons, List.map_nil]); first | done | rfl | (simp only [List.length_drop, List.length_take]; rfl)) ?_; (with_reducible refine (impl_StopTick.calls k _ _ t950 a1 a2 a3 t953 t954 _ ?side1 ?side2 A10.out).mono ?_); (case side1 => repeat (first | exact (Kd.P_reads' HO952.out).2.2 | (with_reducible refine Kd.C_alloc ?_ _) | (with_reducible refine Kd.C_drewN ?_ _) | (with_reducible refine Kd.C_drew ?_))); (case side2 => exact (Kd.P_reads' HO952.out).2.1); rintro e w17 ⟨rfl, hb⟩; refine ⟨_, rfl, ?_⟩; have n0_ := Aside0.mk (Kd.P_below (by (with_reducible repeat (first | apply Kd.P_alloc | apply Kd.P_drewN | apply Kd.P_drew)); exact HO947.out) hb); have n1_ := Aside0.mk (Kd.P_below (by (with_reducible repeat (first | apply Kd.P_alloc | apply Kd.P_drewN | apply Kd.P_drew)); exact HO952.out) hb); have n2_ := Aside0.mk (below_step (by repeat (first | (with_reducible first | exact HB.out | apply below_alloc | apply pw_below_drewN | apply below_drew1) | exact HB.out)) hb); clear HO947; clear HO952; clear HB; have HO947 := n0_; have HO952 := n1_; have HB := n2_; clear n0_ n1_ n2_; (try clear hb); (try clear hb2); (try clear hk); (try clear hi)))
  (try simp only [Act.put, List.setIfInBounds_toArray, List.set_cons_zero, List.set_cons_succ])
  go_cut [48] (fun v48 wc => ∃ (kq : Nat) (x48_10 : Bool), v48 = .bool x48_10 ∧ Aside0 (laws_FnExactStopTick.j0 kq l0 a1 a2 a3 t948 t949 t950 x48_10 = some r) ∧ Aside0 (kq ≤ k) ∧ Aside0 (Kd.P k103 103 wc w.heap.size (fun _ => True) (.slice Ao16 t950.length co16) t950) ∧ Aside0 (Below w.heap.size w wc))
  case first =>
   have H := HC11.out
   clear HC11
   by_cases c18 : t953 = t948
   ·rw [if_pos c18] at H
    have c18b0 : (t953 == t948) = true := beq_iff_eq.mpr c18
    have c18b1 : (t953 != t948) = false := bne_eq_false_iff_eq.mpr c18
    clear c18
    (first | rw [c18b0] | (simp only [i64_w, i32_w]; rw [c18b0]) | skip)
    have H' := Aside0.mk H
    clear H
    go_wp2
    go_meet
    case rel => exact ⟨_, ((t954 != t949)), (by first | rfl | (simp; done) | (simp [*]; done)), H', ⟨by first | omega | exact Nat.le_refl _⟩, ⟨by (with_reducible repeat (first | apply Kd.P_alloc | apply Kd.P_drewN | apply Kd.P_drew)); exact Kd.P_mono HO952.out (fun _ hk => trivial)⟩, ⟨by repeat (first | (with_reducible first | exact HB.out | apply below_alloc | apply pw_below_drewN | apply below_drew1) | exact HB.out)⟩⟩
   ·rw [if_neg c18] at H
    have c18b0 : (t953 == t948) = false := beq_eq_false_iff_ne.mpr c18
    have c18b1 : (t953 != t948) = true := bne_iff_ne.mpr c18
    (first | rw [c18b0] | (simp only [i64_w, i32_w]; rw [c18b0]) | skip)
    have H' := Aside0.mk H
    clear H
    go_wp2
    go_meet
    case rel => exact ⟨_, (true), (by first | rfl | (simp; done) | (simp [*]; done)), H', ⟨by first | omega | exact Nat.le_refl _⟩, ⟨by (with_reducible repeat (first | apply Kd.P_alloc | apply Kd.P_drewN | apply Kd.P_drew)); exact Kd.P_mono HO952.out (fun _ hk => trivial)⟩, ⟨by repeat (first | (with_reducible first | exact HB.out | apply below_alloc | apply pw_below_drewN | apply below_drew1) | exact HB.out)⟩⟩
  case rest =>
   clear HC11
   try clear c1
   try clear p2
   try clear c5
   try clear c6
   try clear c6b0
   try clear c13
   try clear c18
   try clear c18b0
   try clear c18b1
   obtain ⟨kq, x48_10, rfl, HA, HJ10, HO_12, HB⟩ := hcut
   cases kq with
   | zero => exact absurd HA.out (by simp [laws_FnExactStopTick.j0])
   | succ kj10 =>
    have H := HA.out
    clear HA
    simp only [laws_FnExactStopTick.j0] at H
    by_cases c19 : x48_10 = true
    ·subst c19
     have H1 : (some false) = some r := by rw [if_pos rfl] at H; exact H
     clear H
     have H := H1
     clear H1
     obtain rfl := Option.some.inj H
     exact absurd hrt.out (by decide)
    ·replace c19 := Bool.eq_false_iff.mpr c19
     subst c19
     have H1 : ((laws_toModuleS.f kj10 l0 false).bind fun t955 => ((laws_intactModuleS.f kj10 t950 t955).bind fun t958 => (if t958 = true then ((laws_toModuleS.f kj10 l0 true).bind fun t959 => ((impl_StopTick.f kj10 t959 a1 a2 a3).bind fun bt962 => (if bt962.1 = t948 then (if bt962.2 = t949 then (some true) else (some false)) else (some false)))) else (some false)))) = some r := by rw [if_neg (show ¬ (false = true) by decide)] at H; exact H
     clear H
     have H := H1
     clear H1
     replace H := Option.bind_eq_some_iff.mp H
     obtain ⟨t955, A200, H⟩ := H
     replace H : ((laws_intactModuleS.f kj10 t950 t955).bind fun t958 => (if t958 = true then ((laws_toModuleS.f kj10 l0 true).bind fun t959 => ((impl_StopTick.f kj10 t959 a1 a2 a3).bind fun bt962 => (if bt962.1 = t948 then (if bt962.2 = t949 then (some true) else (some false)) else (some false)))) else (some false))) = some r := H
     have A20 := Aside0.mk A200
     clear A200
     replace H := Option.bind_eq_some_iff.mp H
     obtain ⟨t958, A210, H⟩ := H
     replace H : (if t958 = true then ((laws_toModuleS.f kj10 l0 true).bind fun t959 => ((impl_StopTick.f kj10 t959 a1 a2 a3).bind fun bt962 => (if bt962.1 = t948 then (if bt962.2 = t949 then (some true) else (some false)) else (some false)))) else (some false)) = some r := H
     have A21 := Aside0.mk A210
     clear A210
     by_cases c22 : t958 = true
     ·subst c22
      have H1 : ((laws_toModuleS.f kj10 l0 true).bind fun t959 => ((impl_StopTick.f kj10 t959 a1 a2 a3).bind fun bt962 => (if bt962.1 = t948 then (if bt962.2 = t949 then (some true) else (some false)) else (some false)))) = some r := by rw [if_pos rfl] at H; exact H
      clear H
      have H := H1
      clear H1
      replace H := Option.bind_eq_some_iff.mp H
      obtain ⟨t959, A230, H⟩ := H
      replace H : ((impl_StopTick.f kj10 t959 a1 a2 a3).bind fun bt962 => (if bt962.1 = t948 then (if bt962.2 = t949 then (some true) else (some false)) else (some false))) = some r := H
      have A23 := Aside0.mk A230
      clear A230
      replace H := Option.bind_eq_some_iff.mp H
      obtain ⟨⟨t962, t963⟩, A240, H⟩ := H
      replace H : (if t962 = t948 then (if t963 = t949 then (some true) else (some false)) else (some false)) = some r := H
      have A24 := Aside0.mk A240
      clear A240
      by_cases c25 : t962 = t948
      ·rw [if_pos c25] at H
       have c25b0 : (t962 == t948) = true := beq_iff_eq.mpr c25
       have c25b1 : (t962 != t948) = false := bne_eq_false_iff_eq.mpr c25
       clear c25
       by_cases c26 : t963 = t949
       ·rw [if_pos c26] at H
        have c26b0 : (t963 == t949) = true := beq_iff_eq.mpr c26
        have c26b1 : (t963 != t949) = false := bne_eq_false_iff_eq.mpr c26
        clear c26
        obtain rfl := Option.some.inj H
        go_wp2_with (first | ((with_reducible refine at_fn (f := 57) rfl ?_); refine goesL_ (some 51) rfl rfl Try.func57 (by kernel_rfl) rfl #[.slice A0 l0.length c0, .bool false] rfl (by (try simp only [List.map_toArray, List.map_cons, List.map_nil]); first | done | rfl | (simp only [List.length_drop, List.length_take]; rfl)) ?_; (with_reducible refine (laws_toModuleS.callsF kj10 _ _ l0 t955 _ ?side1 ?side2 A20.out).mono ?_); (case side1 => repeat (first | exact (Kd.C_below HR0.out HB.out) | (with_reducible refine Kd.C_alloc ?_ _) | (with_reducible refine Kd.C_drewN ?_ _) | (with_reducible refine Kd.C_drew ?_))); (case side2 => exact HC0.out); rintro e w27 ⟨v956, rfl, ho0, hb⟩; refine ⟨_, rfl, ?_⟩; have n0_ := Aside0.mk (Kd.P_elder' (by (with_reducible repeat (first | apply Kd.P_alloc | apply Kd.P_drewN | apply Kd.P_drew)); exact HO_12.out) (Kd.P_base ho0) hb); have n1_ := Aside0.mk (Kd.P_lower (Kd.P_new' ho0 (Kd.P_lt (by (with_reducible repeat (first | apply Kd.P_alloc | apply Kd.P_drewN | apply Kd.P_drew)); exact HO_12.out))) (below_size (by repeat (first | (with_reducible first | exact HB.out | apply below_alloc | apply pw_below_drewN | apply below_drew1) | exact HB.out)))); have n2_ := Aside0.mk (below_step (by repeat (first | (with_reducible first | exact HB.out | apply below_alloc | apply pw_below_drewN | apply below_drew1) | exact HB.out)) hb); clear HO_12; clear HB; have HO_12 := n0_; have HO957 := n1_; have HB := n2_; clear n0_ n1_ n2_; (try clear hb); (try clear hb2); (try clear hk); (try clear hi); (try clear ho0); obtain ⟨Ao28, co28, eo28⟩ := Kd.P_slice HO957.out; subst eo28) | ((with_reducible refine at_fn (f := 59) rfl ?_); refine goesL_ (some 52) rfl rfl Try.func59 (by kernel_rfl) rfl #[.slice Ao16 t950.length co16, .slice Ao28 t955.length co28] rfl (by (try simp only [List.map_toArray, List.map_cons, List.map_nil]); first | done | rfl | (simp only [List.length_drop, List.length_take]; rfl)) ?_; (with_reducible refine (laws_intactModuleS.calls kj10 _ _ t950 _ _ t955 true _ ?side1 ?side2 ?side3 ?side4 A21.out).mono ?_); (case side1 => repeat (first | exact (Kd.P_full HO_12.out).2 | (with_reducible refine Kd.C_alloc ?_ _) | (with_reducible refine Kd.C_drewN ?_ _) | (with_reducible refine Kd.C_drew ?_))); (case side2 => exact (Kd.P_full HO_12.out).1); (case side3 => repeat (first | exact (Kd.P_full HO957.out).2 | (with_reducible refine Kd.C_alloc ?_ _) | (with_reducible refine Kd.C_drewN ?_ _) | (with_reducible refine Kd.C_drew ?_))); (case side4 => exact (Kd.P_full HO957.out).1); rintro e w29 ⟨rfl, hb⟩; refine ⟨_, rfl, ?_⟩; have n0_ := Aside0.mk (Kd.P_below (by (with_reducible repeat (first | apply Kd.P_alloc | apply Kd.P_drewN | apply Kd.P_drew)); exact HO_12.out) hb); have n1_ := Aside0.mk (Kd.P_below (by (with_reducible repeat (first | apply Kd.P_alloc | apply Kd.P_drewN | apply Kd.P_drew)); exact HO957.out) hb); have n2_ := Aside0.mk (below_step (by repeat (first | (with_reducible first | exact HB.out | apply below_alloc | apply pw_below_drewN | apply below_drew1) | exact HB.out)) hb); clear HO_12; clear HO957; clear HB; have HO_12 := n0_; have HO957 := n1_; have HB := n2_; clear n0_ n1_ n2_; (try clear hb); (try clear hb2); (try clear hk); (try clear hi)) | ((with_reducible refine at_fn (f := 57) rfl ?_); refine goesL_ (some 56) rfl rfl Try.func57 (by kernel_rfl) rfl #[.slice A0 l0.length c0, .bool true] rfl (by (try simp only [List.map_toArray, List.map_cons, List.map_nil]); first | done | rfl | (simp only [List.length_drop, List.length_take]; rfl)) ?_; (with_reducible refine (laws_toModuleS.calls kj10 _ _ l0 true t959 _ ?side1 ?side2 A23.out).mono ?_); (case side1 => repeat (first | exact (Kd.C_below HR0.out HB.out) | (with_reducible refine Kd.C_alloc ?_ _) | (with_reducible refine Kd.C_drewN ?_ _) | (with_reducible refine Kd.C_drew ?_))); (case side2 => exact HC0.out); rintro e w30 ⟨v960, rfl, ho0, hb⟩; refine ⟨_, rfl, ?_⟩; have n0_ := Aside0.mk (Kd.P_elder' (by (with_reducible repeat (first | apply Kd.P_alloc | apply Kd.P_drewN | apply Kd.P_drew)); exact HO_12.out) (Kd.R_base ho0) hb); have n1_ := Aside0.mk (Kd.P_elder' (by (with_reducible repeat (first | apply Kd.P_alloc | apply Kd.P_drewN | apply Kd.P_drew)); exact HO957.out) (Kd.R_base ho0) hb); have n2_ := Aside0.mk (Kd.R_lower (Kd.R_new' (Kd.R_new' ho0 (Kd.P_lt (by (with_reducible repeat (first | apply Kd.P_alloc | apply Kd.P_drewN | apply Kd.P_drew)); exact HO_12.out))) (Kd.P_lt (by (with_reducible repeat (first | apply Kd.P_alloc | apply Kd.P_drewN | apply Kd.P_drew)); exact HO957.out))) (below_size (by repeat (first | (with_reducible first | exact HB.out | apply below_alloc | apply pw_below_drewN | apply below_drew1) | exact HB.out)))); have n3_ := Aside0.mk (below_step (by repeat (first | (with_reducible first | exact HB.out | apply below_alloc | apply pw_below_drewN | apply below_drew1) | exact HB.out)) hb); clear HO_12; clear HO957; clear HB; have HO_12 := n0_; have HO957 := n1_; have HO961 := n2_; have HB := n3_; clear n0_ n1_ n2_ n3_; (try clear hb); (try clear hb2); (try clear hk); (try clear hi); (try clear ho0); obtain ⟨Ao31, co31, eo31⟩ := Kd.R_slice HO961.out; subst eo31) | ((with_reducible refine at_fn (f := 58) rfl ?_); refine goesL_ (some 60) rfl rfl Try.func58 (by kernel_rfl) rfl #[.slice Ao31 t959.length co31, .int .i64 a1, .int .i64 a2, .int .i64 a3] rfl (by (try simp only [List.map_toArray, List.map_cons, List.map_nil]); first | done | rfl | (simp only [List.length_drop, List.length_take]; rfl)) ?_; (with_reducible refine (impl_StopTick.calls kj10 _ _ t959 a1 a2 a3 t962 t963 _ ?side1 ?side2 A24.out).mono ?_); (case side1 => repeat (first | exact (Kd.R_reads' HO961.out).2.2 | (with_reducible refine Kd.C_alloc ?_ _) | (with_reducible refine Kd.C_drewN ?_ _) | (with_reducible refine Kd.C_drew ?_))); (case side2 => exact (Kd.R_reads' HO961.out).2.1); rintro e w32 ⟨rfl, hb⟩; refine ⟨_, rfl, ?_⟩; have n0_ := Aside0.mk (Kd.P_below (by (with_reducible repeat (first | apply Kd.P_alloc | apply Kd.P_drewN | apply Kd.P_drew)); exact HO_12.out) hb); have n1_ := Aside0.mk (Kd.P_below (by (with_reducible repeat (first | apply Kd.P_alloc | apply Kd.P_drewN | apply Kd.P_drew)); exact HO957.out) hb); have n2_ := Aside0.mk (Kd.R_below (by (with_reducible repeat (first | apply Kd.R_alloc | apply Kd.R_drewN | apply Kd.R_drew)); exact HO961.out) hb); have n3_ := Aside0.mk (below_step (by repeat (first | (with_reducible first | exact HB.out | apply below_alloc | apply pw_below_drewN | apply below_drew1) | exact HB.out)) hb); clear HO_12; clear HO957; clear HO961; clear HB; have HO_12 := n0_; have HO957 := n1_; have HO961 := n2_; have HB := n3_; clear n0_ n1_ n2_ n3_; (try clear hb); (try clear hb2); (try clear hk); (try clear hi)))
        go_ret
        exact ⟨by first | rfl | (simp [errW_none, errW_some] <;> rfl) | (simp [*, errW_none, errW_some] <;> rfl), by repeat (first | (with_reducible first | exact HB.out | apply below_alloc | apply pw_below_drewN | apply below_drew1) | exact HB.out)⟩
       ·rw [if_neg c26] at H
        have c26b0 : (t963 == t949) = false := beq_eq_false_iff_ne.mpr c26
        have c26b1 : (t963 != t949) = true := bne_iff_ne.mpr c26
        obtain rfl := Option.some.inj H
        exact absurd hrt.out (by decide)
      ·rw [if_neg c25] at H
       have c25b0 : (t962 == t948) = false := beq_eq_false_iff_ne.mpr c25
       have c25b1 : (t962 != t948) = true := bne_iff_ne.mpr c25
       obtain rfl := Option.some.inj H
       exact absurd hrt.out (by decide)
     ·replace c22 := Bool.eq_false_iff.mpr c22
      subst c22
      have H1 : (some false) = some r := by rw [if_neg (show ¬ (false = true) by decide)] at H; exact H
      clear H
      have H := H1
      clear H1
      obtain rfl := Option.some.inj H
      exact absurd hrt.out (by decide)


end Go.Proofs.Ytllhghcepbkpeaa.Pall
