/- Go functions of the program, each as a Lean function, and the proof that each call comes to what the Lean function tells; no condition beyond those that stand there. -/
import Derived.Test.YtjgbncpbenmjoaaF00
import Derived.Test.YtjgbncpbenmjoaaF02
import Derived.Test.YtjgbncpbenmjoaaF12
import Derived.Test.YtjgbncpbenmjoaaWTab
import Derived.Test.YtjgbncpbenmjoaaSpare
import Derived.Test.YtjgbncpbenmjoaaCm
import Derived.Test.YtjgbncpbenmjoaaCm3
namespace Go.Proofs.Ytjgbncpbenmjoaa.Pall
open Go.RowKit Go.Proofs.YtjgbncpbenmjoaaW.PrintWords Go.Proofs.YtjgbncpbenmjoaaW.PrintLast
set_option linter.unusedVariables false
set_option linter.unusedSimpArgs false

/-! ### impl_ControllerAt: function 28 -/
def impl_ControllerAt.l0 : Nat → List S33 → Int → Int → Int → Bool → Bool → Bool → Bool → Bool → Int → List Int → Option (Bool × Bool × Bool × Bool × Bool × Int × Int)
 | 0, _, _, _, _, _, _, _, _, _, _, _ => none
 | k + 1, l, a1, x, t, b0, b1, b2, b3, b4, n, r => if t < a1 then ((impl_giveInput.f b0 b1 b2 b3 b4 n 8).bind fun q => ((impl_desk_begin.l0 k l x (wrap64 (t + 1)) q.1 q.2.1 q.2.2.1 q.2.2.2.1 q.2.2.2.2.1 q.2.2.2.2.2.1 r).bind fun s => (impl_ControllerAt.l0 k l a1 s.1 (wrap64 (t + 1)) s.2.1 s.2.2.1 s.2.2.2.1 s.2.2.2.2.1 s.2.2.2.2.2.1 s.2.2.2.2.2.2.1 s.2.2.2.2.2.2.2))) else (some (b0, b1, b2, b3, b4, n, 0))
def impl_ControllerAt.f (k : Nat) (l0 : List (S33)) (a1 : Int) : Option (Bool × Bool × Bool × Bool × Bool × Int × Int) := (impl_AreSignals.f k l0).bind fun c => (if c = true then ((impl_isTick.f a1).bind fun d => (if d = true then ((impl_desk_begin.l0 k l0 0 0 false false false false false 0 []).bind fun s => (impl_ControllerAt.l0 k l0 a1 s.1 0 s.2.1 s.2.2.1 s.2.2.2.1 s.2.2.2.2.1 s.2.2.2.2.2.1 s.2.2.2.2.2.2.1 s.2.2.2.2.2.2.2)) else (some (false, false, false, false, false, 0, 2)))) else (some (false, false, false, false, false, 0, 1)))
theorem impl_ControllerAt.mono_l : ∀ k, (∀ y0 y1 y2 y3 y4 y5 y6 y7 y8 y9 y10, LeO (impl_ControllerAt.l0 k y0 y1 y2 y3 y4 y5 y6 y7 y8 y9 y10) (impl_ControllerAt.l0 (k + 1) y0 y1 y2 y3 y4 y5 y6 y7 y8 y9 y10))
 | 0 => fun _ _ _ _ _ _ _ _ _ _ _ r h => by simp [impl_ControllerAt.l0] at h
 | k + 1 => by
  have ih0 := impl_ControllerAt.mono_l k
  intro y0 y1 y2 y3 y4 y5 y6 y7 y8 y9 y10; unfold impl_ControllerAt.l0
  repeat' first | (with_reducible first | exact ih0 _ _ _ _ _ _ _ _ _ _ _ | exact impl_desk_begin.mono_l _ _ _ _ _ _ _ _ _ _ _ | exact LeO.refl _ | exact LeO.none _ | refine LeO.ite ?_ ?_ | refine LeO.bind ?_ (fun _ => ?_)) | exact ih0 _ _ _ _ _ _ _ _ _ _ _ | exact impl_desk_begin.mono_l _ _ _ _ _ _ _ _ _ _ _ | exact LeO.none _ | refine LeO.ite ?_ ?_ | refine LeO.bind ?_ (fun _ => ?_)
theorem impl_ControllerAt.mono : ∀ a0 a1 k, LeO (impl_ControllerAt.f k a0 a1) (impl_ControllerAt.f (k + 1) a0 a1) := by
 intro a0 a1 k; have ih0 := impl_ControllerAt.mono_l k; unfold impl_ControllerAt.f
 repeat' first | (with_reducible first | exact ih0 _ _ _ _ _ _ _ _ _ _ _ | exact impl_AreSignals.mono _ _ | exact impl_desk_begin.mono_l _ _ _ _ _ _ _ _ _ _ _ | exact LeO.refl _ | exact LeO.none _ | refine LeO.ite ?_ ?_ | refine LeO.bind ?_ (fun _ => ?_)) | exact ih0 _ _ _ _ _ _ _ _ _ _ _ | exact impl_AreSignals.mono _ _ | exact impl_desk_begin.mono_l _ _ _ _ _ _ _ _ _ _ _ | exact LeO.none _ | refine LeO.ite ?_ ?_ | refine LeO.bind ?_ (fun _ => ?_)
set_option maxHeartbeats 8000000 in
set_option maxRecDepth 100000 in
theorem impl_ControllerAt.calls (k : Nat) (A0 : Option Addr) (c0 : Nat) (l0 : List (S33)) (a1 : Int) (r1 : Bool) (r2 : Bool) (r3 : Bool) (r4 : Bool) (r5 : Bool) (r6 : Int) (r7 : Int) (w : World) (hr0 : Kd.C k33 w A0 l0.length l0) (hc0 : l0.length ≤ c0) (h : impl_ControllerAt.f k l0 a1 = some (r1, r2, r3, r4, r5, r6, r7)) :
  Calls Try.prog 28 #[.slice A0 l0.length c0, .int .i64 a1] w fun e w' => e = .returned (.tuple #[.agg #[.bool r1, .bool r2, .bool r3, .bool r4, .bool r5, .int .i64 r6], .int .i64 r7]) ∧ Below w.heap.size w w' := by
 have hu41 := Try.underlying41; have HR0 := ak hr0; have HC0 := ak hc0; clear hr0 hc0; have HB := ak (Below.refl w.heap.size w); unfold impl_ControllerAt.f at h; have H := h; clear h
 obtain ⟨ca, A1, H⟩ := bnk H
 cases ca with
 | false =>
  simp only [Bool.false_eq_true, if_false, Option.some.injEq, Prod.mk.injEq] at H; obtain ⟨rfl, rfl, rfl, rfl, rfl, rfl, rfl⟩ := H
  go_enter Try.func28, Try.ntmps28
  go_wp2_with (first | ((with_reducible refine gate_dst (N := 4) rfl ?_); refine bx 4 #[.bool false, .bool false, .bool false, .bool false, .bool false, .int .i64 0] 41 ?_; intro gb hg wb hbox hb; have BK := ak hbox; have GW := gw hg HB; replace HB := bs HB hb; clear hb hbox hg) | ((with_reducible refine at_fn (f := 17) rfl ?_); refine gl (some 8) Try.func17 #[.slice A0 l0.length c0] ?_; (with_reducible refine (impl_AreSignals.calls k _ _ l0 _ _ ?side1 HC0.out A1.out).mono ?_); (case side1 => exact vd HR0.out HB.out); rintro e wa ⟨rfl, hb⟩; refine ⟨_, rfl, ?_⟩; replace BK := kb BK hb; replace HB := bs HB hb; clear hb; have hcz := cz6 BK.out))
  refine bodyPost_ret (results_ct rfl _ _ gb 41 #[.bool false, .bool false, .bool false, .bool false, .bool false, .int .i64 0] (0, 0) _ rfl (vz BK.out) Try.underlying41 rfl (by kernel_rfl)) rfl ?_; exact ⟨ew, vb HB.out⟩
 | true =>
  simp only [if_true] at H
  obtain ⟨da, A2, H⟩ := bnk H
  cases da with
  | false =>
   simp only [Bool.false_eq_true, if_false, Option.some.injEq, Prod.mk.injEq] at H; obtain ⟨rfl, rfl, rfl, rfl, rfl, rfl, rfl⟩ := H
   go_enter Try.func28, Try.ntmps28
   go_wp2_with (first | ((with_reducible refine gate_dst (N := 4) rfl ?_); refine bx 4 #[.bool false, .bool false, .bool false, .bool false, .bool false, .int .i64 0] 41 ?_; intro gb hg wb hbox hb; have BK := ak hbox; have GW := gw hg HB; replace HB := bs HB hb; clear hb hbox hg) | ((with_reducible refine at_fn (f := 17) rfl ?_); refine gl (some 8) Try.func17 #[.slice A0 l0.length c0] ?_; (with_reducible refine (impl_AreSignals.calls k _ _ l0 _ _ ?side1 HC0.out A1.out).mono ?_); (case side1 => exact vd HR0.out HB.out); rintro e wa ⟨rfl, hb⟩; refine ⟨_, rfl, ?_⟩; replace BK := kb BK hb; replace HB := bs HB hb; clear hb; have hcz := cz6 BK.out) | ((with_reducible refine at_fn (f := 68) rfl ?_); refine gl (some 12) Try.func68 #[.int .i64 a1] ?_; (with_reducible refine (impl_isTick.calls a1 false _ A2.out).mono ?_); rintro e wt ⟨rfl, hq⟩; obtain ⟨nq, rfl⟩ := hq.out; clear hq; refine ⟨_, rfl, ?_⟩))
   refine bodyPost_ret (results_ct rfl _ _ gb 41 #[.bool false, .bool false, .bool false, .bool false, .bool false, .int .i64 0] (0, 0) _ rfl (vz BK.out) Try.underlying41 rfl (by kernel_rfl)) rfl ?_; exact ⟨ew, vb HB.out⟩
  | true =>
   simp only [if_true] at H
   obtain ⟨⟨x1, d0, d1, d2, d3, d4, n1, q1⟩, A30, H⟩ := bnd H; replace H : impl_ControllerAt.l0 k l0 a1 x1 0 d0 d1 d2 d3 d4 n1 q1 = some (r1, r2, r3, r4, r5, r6, r7) := H; have A3 := ak A30; clear A30; have H' := ak H; clear H
   go_enter Try.func28, Try.ntmps28
   go_wp2_with (first | ((with_reducible refine gate_dst (N := 4) rfl ?_); refine bx 4 #[.bool false, .bool false, .bool false, .bool false, .bool false, .int .i64 0] 41 ?_; intro gb hg wb hbox hb; have BK := ak hbox; have GW := gw hg HB; replace HB := bs HB hb; clear hb hbox hg) | ((with_reducible refine at_fn (f := 17) rfl ?_); refine gl (some 8) Try.func17 #[.slice A0 l0.length c0] ?_; (with_reducible refine (impl_AreSignals.calls k _ _ l0 _ _ ?side1 HC0.out A1.out).mono ?_); (case side1 => exact vd HR0.out HB.out); rintro e wa ⟨rfl, hb⟩; refine ⟨_, rfl, ?_⟩; replace BK := kb BK hb; replace HB := bs HB hb; clear hb) | ((with_reducible refine at_fn (f := 68) rfl ?_); refine gl (some 12) Try.func68 #[.int .i64 a1] ?_; (with_reducible refine (impl_isTick.calls a1 true _ A2.out).mono ?_); rintro e wt ⟨rfl, hq⟩; obtain ⟨nq, rfl⟩ := hq.out; clear hq; refine ⟨_, rfl, ?_⟩) | ((with_reducible refine gate_dst (N := 17) rfl ?_); refine bx 17 #[.slice A0 l0.length c0, .int .i64 0, .int .i64 0, .bool false, .bool false, .bool false, .bool false, .bool false, .int .i64 0, .slice none 0 0] 96 ?_; intro gd hg wb hbox hb; have DK : Aside0 (Dk wb gd A0 c0 l0.length 0 0 false false false false false 0 (.slice none 0 0)) := ⟨hbox⟩; have GD := gw hg HB; replace HB := bs HB hb; replace BK := kb BK hb; have NE := ak (blk_ne BK.out DK.out (by decide)); clear hb hbox hg) | ((with_reducible refine at_fn (f := 73) rfl ?_); refine gl (some 19) Try.func73 #[.pointer (some ⟨gd, 0, none⟩)] ?_; (with_reducible refine (impl_desk_begin.calls k gd A0 c0 l0 0 0 false false false false false 0 (.slice none 0 0) [] x1 d0 d1 d2 d3 d4 n1 q1 w.heap.size (fun _ => True) w _ DK.out GD.out (Kd.R_nil _ _ _ _ _) ?bf (Nat.le_refl _) HB.out.size HB.out HR0.out HC0.out A3.out).mono ?_); (case bf => exact (fun _ _ => trivial)); rintro e wd hP; obtain ⟨rfl, vd1, hD, hR, hV, hK, hB⟩ := hP; refine ⟨_, rfl, ?_⟩; replace BK := ak (KeepBut.blk hK BK.out NE.out (by simp [Value.ownBlock])); clear DK HB; have DK := ak hD; have HO := ak hR; have HB := ak hB; clear hD hR hV hK hB))
   (try simp only [Act.put, List.setIfInBounds_toArray, List.set_cons_zero, List.set_cons_succ])
   go_loopg [] k (fun kq w' => ∃ (x_1 t_1 : Int) (b0_1 b1_1 b2_1 b3_1 b4_1 : Bool) (n_1 : Int) (v_1 : Value) (r_1 : List Int), Aside0 (impl_ControllerAt.l0 kq l0 a1 x_1 t_1 b0_1 b1_1 b2_1 b3_1 b4_1 n_1 r_1 = some (r1, r2, r3, r4, r5, r6, r7)) ∧ Aside0 (kq ≤ k) ∧ Aside0 (Dk w' gd A0 c0 l0.length x_1 t_1 b0_1 b1_1 b2_1 b3_1 b4_1 n_1 v_1) ∧ Aside0 (Kd.R (Kd.int .i64) 2 w' w.heap.size (fun _ => True) v_1 r_1) ∧ Aside0 (w'.heap[gb]? = some (.cells #[.bool false, .bool false, .bool false, .bool false, .bool false, .int .i64 0] 41 (0, 0))) ∧ Aside0 (Below w.heap.size w w'))
   case atStart => exact ⟨x1, 0, d0, d1, d2, d3, d4, n1, vd1, q1, H', ⟨Nat.le_refl _⟩, DK, HO, BK, HB⟩
   case round =>
    clear H' DK HO BK HB A3; obtain ⟨x_1, t_1, b0_1, b1_1, b2_1, b3_1, b4_1, n_1, v_1, r_1, HA, HK1, DK, HO, BK, HB⟩ := hrel
    cases gk with
    | zero => exact absurd HA.out (by simp [impl_ControllerAt.l0])
    | succ k1 =>
     have H := HA.out; clear HA; simp only [impl_ControllerAt.l0] at H; have z2 := DK.out.c2
     by_cases c1 : t_1 < a1
     · rw [if_pos c1] at H; obtain ⟨⟨u0, u1, u2, u3, u4, u5, y⟩, B10, H⟩ := bnd H; replace H : ((impl_desk_begin.l0 k1 l0 x_1 (wrap64 (t_1 + 1)) u0 u1 u2 u3 u4 u5 r_1).bind fun s => (impl_ControllerAt.l0 k1 l0 a1 s.1 (wrap64 (t_1 + 1)) s.2.1 s.2.2.1 s.2.2.2.1 s.2.2.2.2.1 s.2.2.2.2.2.1 s.2.2.2.2.2.2.1 s.2.2.2.2.2.2.2)) = some (r1, r2, r3, r4, r5, r6, r7) := H; have B1 := ak B10; clear B10; obtain ⟨⟨x2, e0, e1, e2, e3, e4, n2, q2⟩, B20, H⟩ := bnd H; replace H : impl_ControllerAt.l0 k1 l0 a1 x2 (wrap64 (t_1 + 1)) e0 e1 e2 e3 e4 n2 q2 = some (r1, r2, r3, r4, r5, r6, r7) := H; have B2 := ak B20; clear B20; have H' := ak H; clear H; have c1b := decide_eq_true c1; clear c1
       go_wp2_with (first | ((with_reducible refine at_fn (f := 75) rfl ?_); refine gl (some 27) Try.func75 #[.pointer (some ⟨gd, 0, none⟩)] ?_; (with_reducible refine (impl_desk_end.callsD gd A0 c0 l0.length x_1 t_1 b0_1 b1_1 b2_1 b3_1 b4_1 n_1 v_1 u0 u1 u2 u3 u4 u5 y w _ DK.out GD.out HB.out B1.out).mono ?_); rintro e we hP; obtain ⟨rfl, hD, hK, hB⟩ := hP; refine ⟨_, rfl, ?_⟩; have HK1_ := ak hK; replace HO := ak (Kd.R_mono (Kd.R_keep (Kd.R_types HO.out DK.out (by decide)) hK (fun _ h => h.2)) (fun _ h => h.1)); replace BK := ak (KeepBut.blk hK BK.out NE.out (by simp)); clear z2; clear DK HB; have DK := ak hD; have HB := ak hB; clear hD hK hB) | ((with_reducible refine at_fn (f := 73) rfl ?_); refine gl (some 29) Try.func73 #[.pointer (some ⟨gd, 0, none⟩)] ?_; (with_reducible refine (impl_desk_begin.calls k1 gd A0 c0 l0 x_1 (wrap64 (t_1 + 1)) u0 u1 u2 u3 u4 u5 v_1 r_1 x2 e0 e1 e2 e3 e4 n2 q2 w.heap.size (fun _ => True) w _ DK.out GD.out HO.out ?bf (Nat.le_refl _) HB.out.size HB.out HR0.out HC0.out B2.out).mono ?_); (case bf => exact (fun _ _ => trivial)); rintro e wd hP; obtain ⟨rfl, vd1, hD, hR, hV, hK, hB⟩ := hP; refine ⟨_, rfl, ?_⟩; replace BK := ak (KeepBut.blk hK BK.out NE.out (Kd.R_ne HO.out BK.out (by decide))); clear DK HB HO; have DK := ak hD; have HO := ak hR; have HB := ak hB; clear hD hR hV hK hB))
       go_roundg k1
       case measure => have := HK1.out; omega
       case rel => exact ⟨x2, wrap64 (t_1 + 1), e0, e1, e2, e3, e4, n2, vd1, q2, H', ⟨by have := HK1.out; omega⟩, DK, HO, BK, HB⟩
     · rw [if_neg c1] at H; simp only [Option.some.injEq, Prod.mk.injEq] at H; obtain ⟨rfl, rfl, rfl, rfl, rfl, rfl, rfl⟩ := H; have c1b := decide_eq_false c1; clear c1
       have z3 := DK.out.c3; have z4 := DK.out.c4; have z5 := DK.out.c5; have z6 := DK.out.c6; have z7 := DK.out.c7; have z8 := DK.out.c8; have hcz := cz6 BK.out; have hne := NE.out
       go_wp2
       refine bodyPost_ret (results_ct rfl _ _ gb 41 #[.bool b0_1, .bool b1_1, .bool b2_1, .bool b3_1, .bool b4_1, .int .i64 n_1] (0, 0) _ rfl (vz BK.out) Try.underlying41 rfl (by kernel_rfl)) rfl ?_; exact ⟨ew, vb HB.out⟩


end Go.Proofs.Ytjgbncpbenmjoaa.Pall
