/- Go functions of the program, each as a Lean function, and the proof that each call comes to what the Lean function tells; no condition beyond those that stand there. -/
import Derived.Test.YtjgbncpbenmjoaaF00
import Derived.Test.YtjgbncpbenmjoaaF02
import Derived.Test.YtjgbncpbenmjoaaF12
import Derived.Test.YtjgbncpbenmjoaaF13
import Derived.Test.YtjgbncpbenmjoaaWTab
import Derived.Test.YtjgbncpbenmjoaaSpare
import Derived.Test.YtjgbncpbenmjoaaCm
import Derived.Test.YtjgbncpbenmjoaaCm3
namespace Go.Proofs.Ytjgbncpbenmjoaa.Pall
open Go.RowKit Go.Proofs.YtjgbncpbenmjoaaW.PrintWords Go.Proofs.YtjgbncpbenmjoaaW.PrintLast
set_option linter.unusedVariables false
set_option linter.unusedSimpArgs false

/-! ### impl_FiringTicks: function 26 -/
def impl_FiringTicks.l0 : Nat → List S33 → Int → Int → Int → Int → Int → Bool → Bool → Bool → Bool → Bool → Int → List Int → Option (Int × Int)
 | 0, _, _, _, _, _, _, _, _, _, _, _, _, _ => none
 | k + 1, l, a1, a2, m, x, t, b0, b1, b2, b3, b4, n, r => if t ≤ a2 then ((impl_desk_begin.l0 k l x t b0 b1 b2 b3 b4 n r).bind fun s => ((if t ≥ a1 then (impl_mayFire.f s.2.1 s.2.2.1 s.2.2.2.1 s.2.2.2.2.1 s.2.2.2.2.2.1 s.2.2.2.2.2.2.1) else (some false)).bind fun c => ((impl_giveInput.f s.2.1 s.2.2.1 s.2.2.2.1 s.2.2.2.2.1 s.2.2.2.2.2.1 s.2.2.2.2.2.2.1 8).bind fun q => (impl_FiringTicks.l0 k l a1 a2 (if c = true then wrap64 (m + 1) else m) s.1 (wrap64 (t + 1)) q.1 q.2.1 q.2.2.1 q.2.2.2.1 q.2.2.2.2.1 q.2.2.2.2.2.1 s.2.2.2.2.2.2.2)))) else (some (m, 0))
def impl_FiringTicks.f (k : Nat) (l0 : List (S33)) (a1 : Int) (a2 : Int) : Option (Int × Int) := (impl_AreSignals.f k l0).bind fun c => (if c = true then ((impl_isTick.f a1).bind fun d => (if d = true then ((impl_isTick.f a2).bind fun e => (if e = true then ((impl_within.f (wrap64 (a2 - a1)) 0 1000).bind fun g => (if g = true then (impl_FiringTicks.l0 k l0 a1 a2 0 0 0 false false false false false 0 []) else (some (0, 2)))) else (some (0, 2)))) else (some (0, 2)))) else (some (0, 1)))
theorem impl_FiringTicks.mono_l : ∀ k, (∀ y0 y1 y2 y3 y4 y5 y6 y7 y8 y9 y10 y11 y12, LeO (impl_FiringTicks.l0 k y0 y1 y2 y3 y4 y5 y6 y7 y8 y9 y10 y11 y12) (impl_FiringTicks.l0 (k + 1) y0 y1 y2 y3 y4 y5 y6 y7 y8 y9 y10 y11 y12))
 | 0 => fun _ _ _ _ _ _ _ _ _ _ _ _ _ r h => by simp [impl_FiringTicks.l0] at h
 | k + 1 => by
  have ih0 := impl_FiringTicks.mono_l k
  intro y0 y1 y2 y3 y4 y5 y6 y7 y8 y9 y10 y11 y12; unfold impl_FiringTicks.l0
  repeat' first | (with_reducible first | exact ih0 _ _ _ _ _ _ _ _ _ _ _ _ _ | exact impl_desk_begin.mono_l _ _ _ _ _ _ _ _ _ _ _ | exact impl_AreSignals.mono _ _ | exact LeO.refl _ | exact LeO.none _ | refine LeO.ite ?_ ?_ | refine LeO.bind ?_ (fun _ => ?_)) | exact ih0 _ _ _ _ _ _ _ _ _ _ _ _ _ | exact impl_desk_begin.mono_l _ _ _ _ _ _ _ _ _ _ _ | exact impl_AreSignals.mono _ _ | exact LeO.none _ | refine LeO.ite ?_ ?_ | refine LeO.bind ?_ (fun _ => ?_)
theorem impl_FiringTicks.mono : ∀ a0 a1 a2 k, LeO (impl_FiringTicks.f k a0 a1 a2) (impl_FiringTicks.f (k + 1) a0 a1 a2) := by
 intro a0 a1 a2 k; have ih0 := impl_FiringTicks.mono_l k; unfold impl_FiringTicks.f
 repeat' first | (with_reducible first | exact ih0 _ _ _ _ _ _ _ _ _ _ _ _ _ | exact impl_desk_begin.mono_l _ _ _ _ _ _ _ _ _ _ _ | exact impl_AreSignals.mono _ _ | exact LeO.refl _ | exact LeO.none _ | refine LeO.ite ?_ ?_ | refine LeO.bind ?_ (fun _ => ?_)) | exact ih0 _ _ _ _ _ _ _ _ _ _ _ _ _ | exact impl_desk_begin.mono_l _ _ _ _ _ _ _ _ _ _ _ | exact impl_AreSignals.mono _ _ | exact LeO.none _ | refine LeO.ite ?_ ?_ | refine LeO.bind ?_ (fun _ => ?_)
set_option maxHeartbeats 8000000 in
set_option maxRecDepth 100000 in
theorem impl_FiringTicks.calls (k : Nat) (A0 : Option Addr) (c0 : Nat) (l0 : List (S33)) (a1 : Int) (a2 : Int) (r1 : Int) (r2 : Int) (w : World) (hr0 : Kd.C k33 w A0 l0.length l0) (hc0 : l0.length ≤ c0) (h : impl_FiringTicks.f k l0 a1 a2 = some (r1, r2)) :
  Calls Try.prog 26 #[.slice A0 l0.length c0, .int .i64 a1, .int .i64 a2] w fun e w' => e = .returned (.tuple #[.int .i64 r1, .int .i64 r2]) ∧ Below w.heap.size w w' := by
 have hu41 := Try.underlying41; have HR0 := ak hr0; have HC0 := ak hc0; clear hr0 hc0; have HB := ak (Below.refl w.heap.size w); unfold impl_FiringTicks.f at h; have H := h; clear h
 obtain ⟨ca, A1, H⟩ := bnk H
 cases ca with
 | false =>
  simp only [Bool.false_eq_true, if_false, Option.some.injEq, Prod.mk.injEq] at H; obtain ⟨rfl, rfl⟩ := H
  go_enter Try.func26, Try.ntmps26
  go_wp2_with (first | ((with_reducible refine at_fn (f := 17) rfl ?_); refine gl (some 11) Try.func17 #[.slice A0 l0.length c0] ?_; (with_reducible refine (impl_AreSignals.calls k _ _ l0 _ _ ?side1 HC0.out A1.out).mono ?_); (case side1 => exact vd HR0.out HB.out); rintro e wa ⟨rfl, hb⟩; refine ⟨_, rfl, ?_⟩; replace HB := bs HB hb; clear hb))
  go_ret2
  exact ⟨ew, vb HB.out⟩
 | true =>
 simp only [if_true] at H
 obtain ⟨da, A2, H⟩ := bnk H
 cases da with
 | false =>
  simp only [Bool.false_eq_true, if_false, Option.some.injEq, Prod.mk.injEq] at H; obtain ⟨rfl, rfl⟩ := H
  go_enter Try.func26, Try.ntmps26
  go_wp2_with (first | ((with_reducible refine at_fn (f := 17) rfl ?_); refine gl (some 11) Try.func17 #[.slice A0 l0.length c0] ?_; (with_reducible refine (impl_AreSignals.calls k _ _ l0 _ _ ?side1 HC0.out A1.out).mono ?_); (case side1 => exact vd HR0.out HB.out); rintro e wa ⟨rfl, hb⟩; refine ⟨_, rfl, ?_⟩; replace HB := bs HB hb; clear hb) | ((with_reducible refine at_fn (f := 68) rfl ?_); refine gl (some 14) Try.func68 #[.int .i64 a1] ?_; (with_reducible refine (impl_isTick.calls a1 false _ A2.out).mono ?_); rintro e wt ⟨rfl, hq⟩; obtain ⟨nq, rfl⟩ := hq.out; clear hq; refine ⟨_, rfl, ?_⟩))
  go_ret2
  exact ⟨ew, vb HB.out⟩
 | true =>
 simp only [if_true] at H
 obtain ⟨ea, A3, H⟩ := bnk H
 cases ea with
 | false =>
  simp only [Bool.false_eq_true, if_false, Option.some.injEq, Prod.mk.injEq] at H; obtain ⟨rfl, rfl⟩ := H
  go_enter Try.func26, Try.ntmps26
  go_wp2_with (first | ((with_reducible refine at_fn (f := 17) rfl ?_); refine gl (some 11) Try.func17 #[.slice A0 l0.length c0] ?_; (with_reducible refine (impl_AreSignals.calls k _ _ l0 _ _ ?side1 HC0.out A1.out).mono ?_); (case side1 => exact vd HR0.out HB.out); rintro e wa ⟨rfl, hb⟩; refine ⟨_, rfl, ?_⟩; replace HB := bs HB hb; clear hb) | ((with_reducible refine at_fn (f := 68) rfl ?_); refine gl (some 14) Try.func68 #[.int .i64 a1] ?_; (with_reducible refine (impl_isTick.calls a1 true _ A2.out).mono ?_); rintro e wt ⟨rfl, hq⟩; obtain ⟨nq, rfl⟩ := hq.out; clear hq; refine ⟨_, rfl, ?_⟩) | (go_at_call 68; (with_reducible refine (impl_isTick.calls a2 false _ A3.out).mono ?_); rintro e wt ⟨rfl, hq⟩; obtain ⟨nq, rfl⟩ := hq.out; clear hq))
  go_ret2
  exact ⟨ew, vb HB.out⟩
 | true =>
 simp only [if_true] at H
 obtain ⟨ga, A4, H⟩ := bnk H
 cases ga with
 | false =>
  simp only [Bool.false_eq_true, if_false, Option.some.injEq, Prod.mk.injEq] at H; obtain ⟨rfl, rfl⟩ := H
  go_enter Try.func26, Try.ntmps26
  go_wp2_with (first | ((with_reducible refine at_fn (f := 17) rfl ?_); refine gl (some 11) Try.func17 #[.slice A0 l0.length c0] ?_; (with_reducible refine (impl_AreSignals.calls k _ _ l0 _ _ ?side1 HC0.out A1.out).mono ?_); (case side1 => exact vd HR0.out HB.out); rintro e wa ⟨rfl, hb⟩; refine ⟨_, rfl, ?_⟩; replace HB := bs HB hb; clear hb) | ((with_reducible refine at_fn (f := 68) rfl ?_); refine gl (some 14) Try.func68 #[.int .i64 a1] ?_; (with_reducible refine (impl_isTick.calls a1 true _ A2.out).mono ?_); rintro e wt ⟨rfl, hq⟩; obtain ⟨nq, rfl⟩ := hq.out; clear hq; refine ⟨_, rfl, ?_⟩) | (go_at_call 68; (with_reducible refine (impl_isTick.calls a2 true _ A3.out).mono ?_); rintro e wt ⟨rfl, hq⟩; obtain ⟨nq, rfl⟩ := hq.out; clear hq) | (go_at_call 69; (with_reducible refine (impl_within.calls (wrap64 (a2 - a1)) 0 1000 false _ A4.out).mono ?_); rintro e wt ⟨rfl, hq⟩; obtain ⟨nq, rfl⟩ := hq.out; clear hq))
  go_ret2
  exact ⟨ew, vb HB.out⟩
 | true =>
   simp only [if_true] at H; have H' := ak H; clear H
   go_enter Try.func26, Try.ntmps26
   go_wp2_with (first | ((with_reducible refine at_fn (f := 17) rfl ?_); refine gl (some 11) Try.func17 #[.slice A0 l0.length c0] ?_; (with_reducible refine (impl_AreSignals.calls k _ _ l0 _ _ ?side1 HC0.out A1.out).mono ?_); (case side1 => exact vd HR0.out HB.out); rintro e wa ⟨rfl, hb⟩; refine ⟨_, rfl, ?_⟩; replace HB := bs HB hb; clear hb) | ((with_reducible refine at_fn (f := 68) rfl ?_); refine gl (some 14) Try.func68 #[.int .i64 a1] ?_; (with_reducible refine (impl_isTick.calls a1 true _ A2.out).mono ?_); rintro e wt ⟨rfl, hq⟩; obtain ⟨nq, rfl⟩ := hq.out; clear hq; refine ⟨_, rfl, ?_⟩) | (go_at_call 68; (with_reducible refine (impl_isTick.calls a2 true _ A3.out).mono ?_); rintro e wt ⟨rfl, hq⟩; obtain ⟨nq, rfl⟩ := hq.out; clear hq) | (go_at_call 69; (with_reducible refine (impl_within.calls (wrap64 (a2 - a1)) 0 1000 true _ A4.out).mono ?_); rintro e wt ⟨rfl, hq⟩; obtain ⟨nq, rfl⟩ := hq.out; clear hq) | ((with_reducible refine gate_dst (N := 30) rfl ?_); refine bx 30 #[.slice A0 l0.length c0, .int .i64 0, .int .i64 0, .bool false, .bool false, .bool false, .bool false, .bool false, .int .i64 0, .slice none 0 0] 96 ?_; intro gd hg wb hbox hb; have DK : Aside0 (Dk wb gd A0 c0 l0.length 0 0 false false false false false 0 (.slice none 0 0)) := ⟨hbox⟩; have GD := gw hg HB; replace HB := bs HB hb; clear hb hbox hg))
   (try simp only [Act.put, List.setIfInBounds_toArray, List.set_cons_zero, List.set_cons_succ])
   go_loopg [8] k (fun kq v8 w' => ∃ (m_1 x_1 t_1 : Int) (b0_1 b1_1 b2_1 b3_1 b4_1 : Bool) (n_1 : Int) (v_1 : Value) (r_1 : List Int), v8 = .int .i64 m_1 ∧ Aside0 (impl_FiringTicks.l0 kq l0 a1 a2 m_1 x_1 t_1 b0_1 b1_1 b2_1 b3_1 b4_1 n_1 r_1 = some (r1, r2)) ∧ Aside0 (kq ≤ k) ∧ Aside0 (Dk w' gd A0 c0 l0.length x_1 t_1 b0_1 b1_1 b2_1 b3_1 b4_1 n_1 v_1) ∧ Aside0 (Kd.R (Kd.int .i64) 2 w' w.heap.size (fun _ => True) v_1 r_1) ∧ Aside0 (Below w.heap.size w w'))
   case atStart => exact ⟨0, 0, 0, false, false, false, false, false, 0, .slice none 0 0, [], rfl, H', ⟨Nat.le_refl _⟩, DK, ⟨Kd.R_nil _ _ _ _ _⟩, HB⟩
   case round =>
    clear H' DK HB; obtain ⟨m_1, x_1, t_1, b0_1, b1_1, b2_1, b3_1, b4_1, n_1, v_1, r_1, rfl, HA, HK1, DK, HO, HB⟩ := hrel
    cases gk with
    | zero => exact absurd HA.out (by simp [impl_FiringTicks.l0])
    | succ k1 =>
     have H := HA.out; clear HA; simp only [impl_FiringTicks.l0] at H; have z2 := DK.out.c2
     by_cases c1 : t_1 ≤ a2
     · rw [if_pos c1] at H; have c1b := decide_eq_true c1; clear c1
       obtain ⟨⟨x2, e0, e1, e2, e3, e4, n2, q2⟩, B20, H⟩ := bnd H; have B2 := ak B20; clear B20
       obtain ⟨mf, B30, H⟩ := bnd H; obtain ⟨⟨u0, u1, u2, u3, u4, u5, y⟩, B10, H⟩ := bnd H; have B1 := ak B10; clear B10; dsimp only at B30 B1 H
       by_cases c2 : t_1 ≥ a1
       · rw [if_pos c2] at B30; have c2b := decide_eq_true c2; clear c2; have B3 := ak B30; clear B30
         cases mf with
         | false =>
          simp only [Bool.false_eq_true, if_false] at H; have H' := ak H; clear H
          go_wp2_with (first | ((with_reducible refine at_fn (f := 73) rfl ?_); refine gl (some 38) Try.func73 #[.pointer (some ⟨gd, 0, none⟩)] ?_; (with_reducible refine (impl_desk_begin.calls k1 gd A0 c0 l0 x_1 t_1 b0_1 b1_1 b2_1 b3_1 b4_1 n_1 v_1 r_1 x2 e0 e1 e2 e3 e4 n2 q2 w.heap.size (fun _ => True) w _ DK.out GD.out HO.out (fun _ _ => trivial) (Nat.le_refl _) HB.out.size HB.out HR0.out HC0.out B2.out).mono ?_); rintro e wd hP; obtain ⟨rfl, vd1, hD, hR, hV, hK, hB⟩ := hP; refine ⟨_, rfl, ?_⟩; clear DK HB HO z2; have DK := ak hD; have HO := ak hR; have HB := ak hB; clear hD hR hV hK hB; have z2 := DK.out.c2; have z3 := DK.out.c3; have z4 := DK.out.c4; have z5 := DK.out.c5; have z6 := DK.out.c6; have z7 := DK.out.c7; have z8 := DK.out.c8) | (go_at_call 74; (with_reducible refine (impl_mayFire.calls e0 e1 e2 e3 e4 n2 false _ B3.out).mono ?_); rintro e wm ⟨rfl, hb⟩; clear z2 z3 z4 z5 z6 z7 z8; replace DK : Aside0 (Dk wm gd A0 c0 l0.length x2 t_1 e0 e1 e2 e3 e4 n2 vd1) := ⟨blk_below DK.out hb⟩; replace HO := ak (Kd.R_below (vr HO.out) hb); replace HB := bs HB hb; clear hb) | ((with_reducible refine at_fn (f := 75) rfl ?_); refine gl (some 55) Try.func75 #[.pointer (some ⟨gd, 0, none⟩)] ?_; (with_reducible refine (impl_desk_end.callsD gd A0 c0 l0.length x2 t_1 e0 e1 e2 e3 e4 n2 vd1 u0 u1 u2 u3 u4 u5 y w _ DK.out GD.out HB.out B1.out).mono ?_); rintro e we hP; obtain ⟨rfl, hD, hK, hB⟩ := hP; refine ⟨_, rfl, ?_⟩; replace HO := ak (Kd.R_mono (Kd.R_keep (Kd.R_types HO.out DK.out (by decide)) hK (fun _ h => h.2)) (fun _ h => h.1)); clear DK HB; have DK := ak hD; have HB := ak hB; clear hD hK hB))
          go_roundg k1
          case measure => have := HK1.out; omega
          case rel => exact ⟨m_1, x2, wrap64 (t_1 + 1), u0, u1, u2, u3, u4, u5, vd1, q2, rfl, H', ⟨by have := HK1.out; omega⟩, DK, HO, HB⟩
         | true =>
          simp only [if_true] at H; have H' := ak H; clear H
          go_wp2_with (first | ((with_reducible refine at_fn (f := 73) rfl ?_); refine gl (some 38) Try.func73 #[.pointer (some ⟨gd, 0, none⟩)] ?_; (with_reducible refine (impl_desk_begin.calls k1 gd A0 c0 l0 x_1 t_1 b0_1 b1_1 b2_1 b3_1 b4_1 n_1 v_1 r_1 x2 e0 e1 e2 e3 e4 n2 q2 w.heap.size (fun _ => True) w _ DK.out GD.out HO.out (fun _ _ => trivial) (Nat.le_refl _) HB.out.size HB.out HR0.out HC0.out B2.out).mono ?_); rintro e wd hP; obtain ⟨rfl, vd1, hD, hR, hV, hK, hB⟩ := hP; refine ⟨_, rfl, ?_⟩; clear DK HB HO z2; have DK := ak hD; have HO := ak hR; have HB := ak hB; clear hD hR hV hK hB; have z2 := DK.out.c2; have z3 := DK.out.c3; have z4 := DK.out.c4; have z5 := DK.out.c5; have z6 := DK.out.c6; have z7 := DK.out.c7; have z8 := DK.out.c8) | (go_at_call 74; (with_reducible refine (impl_mayFire.calls e0 e1 e2 e3 e4 n2 true _ B3.out).mono ?_); rintro e wm ⟨rfl, hb⟩; clear z2 z3 z4 z5 z6 z7 z8; replace DK : Aside0 (Dk wm gd A0 c0 l0.length x2 t_1 e0 e1 e2 e3 e4 n2 vd1) := ⟨blk_below DK.out hb⟩; replace HO := ak (Kd.R_below (vr HO.out) hb); replace HB := bs HB hb; clear hb) | ((with_reducible refine at_fn (f := 75) rfl ?_); refine gl (some 55) Try.func75 #[.pointer (some ⟨gd, 0, none⟩)] ?_; (with_reducible refine (impl_desk_end.callsD gd A0 c0 l0.length x2 t_1 e0 e1 e2 e3 e4 n2 vd1 u0 u1 u2 u3 u4 u5 y w _ DK.out GD.out HB.out B1.out).mono ?_); rintro e we hP; obtain ⟨rfl, hD, hK, hB⟩ := hP; refine ⟨_, rfl, ?_⟩; replace HO := ak (Kd.R_mono (Kd.R_keep (Kd.R_types HO.out DK.out (by decide)) hK (fun _ h => h.2)) (fun _ h => h.1)); clear DK HB; have DK := ak hD; have HB := ak hB; clear hD hK hB))
          go_roundg k1
          case measure => have := HK1.out; omega
          case rel => exact ⟨wrap64 (m_1 + 1), x2, wrap64 (t_1 + 1), u0, u1, u2, u3, u4, u5, vd1, q2, rfl, H', ⟨by have := HK1.out; omega⟩, DK, HO, HB⟩
       · rw [if_neg c2] at B30; have c2b := decide_eq_false c2; clear c2; obtain rfl := Option.some.inj B30; clear B30
         simp only [Bool.false_eq_true, if_false] at H; have H' := ak H; clear H
         go_wp2_with (first | ((with_reducible refine at_fn (f := 73) rfl ?_); refine gl (some 38) Try.func73 #[.pointer (some ⟨gd, 0, none⟩)] ?_; (with_reducible refine (impl_desk_begin.calls k1 gd A0 c0 l0 x_1 t_1 b0_1 b1_1 b2_1 b3_1 b4_1 n_1 v_1 r_1 x2 e0 e1 e2 e3 e4 n2 q2 w.heap.size (fun _ => True) w _ DK.out GD.out HO.out (fun _ _ => trivial) (Nat.le_refl _) HB.out.size HB.out HR0.out HC0.out B2.out).mono ?_); rintro e wd hP; obtain ⟨rfl, vd1, hD, hR, hV, hK, hB⟩ := hP; refine ⟨_, rfl, ?_⟩; clear DK HB HO z2; have DK := ak hD; have HO := ak hR; have HB := ak hB; clear hD hR hV hK hB; have z2 := DK.out.c2; have z3 := DK.out.c3; have z4 := DK.out.c4; have z5 := DK.out.c5; have z6 := DK.out.c6; have z7 := DK.out.c7; have z8 := DK.out.c8) | ((with_reducible refine at_fn (f := 75) rfl ?_); refine gl (some 55) Try.func75 #[.pointer (some ⟨gd, 0, none⟩)] ?_; (with_reducible refine (impl_desk_end.callsD gd A0 c0 l0.length x2 t_1 e0 e1 e2 e3 e4 n2 vd1 u0 u1 u2 u3 u4 u5 y w _ DK.out GD.out HB.out B1.out).mono ?_); rintro e we hP; obtain ⟨rfl, hD, hK, hB⟩ := hP; refine ⟨_, rfl, ?_⟩; replace HO := ak (Kd.R_mono (Kd.R_keep (Kd.R_types HO.out DK.out (by decide)) hK (fun _ h => h.2)) (fun _ h => h.1)); clear DK HB; have DK := ak hD; have HB := ak hB; clear hD hK hB))
         go_roundg k1
         case measure => have := HK1.out; omega
         case rel => exact ⟨m_1, x2, wrap64 (t_1 + 1), u0, u1, u2, u3, u4, u5, vd1, q2, rfl, H', ⟨by have := HK1.out; omega⟩, DK, HO, HB⟩
     · rw [if_neg c1] at H; simp only [Option.some.injEq, Prod.mk.injEq] at H; obtain ⟨rfl, rfl⟩ := H; have c1b := decide_eq_false c1; clear c1
       go_wp2
       go_ret2
       exact ⟨ew, vb HB.out⟩


end Go.Proofs.Ytjgbncpbenmjoaa.Pall
