/- Go functions of the program, each as a Lean function, and the proof that each call comes to what the Lean function tells; no condition beyond those that stand there. -/
import Derived.Test.YtjgbncpbenmjoaaF00
import Derived.Test.YtjgbncpbenmjoaaF02
import Derived.Test.YtjgbncpbenmjoaaF08
import Derived.Test.YtjgbncpbenmjoaaF10
import Derived.Test.YtjgbncpbenmjoaaF12
import Derived.Test.YtjgbncpbenmjoaaWTab
import Derived.Test.YtjgbncpbenmjoaaSpare
import Derived.Test.YtjgbncpbenmjoaaCm
import Derived.Test.YtjgbncpbenmjoaaCm3
namespace Go.Proofs.Ytjgbncpbenmjoaa.Pall
open Go.RowKit Go.Proofs.YtjgbncpbenmjoaaW.PrintWords Go.Proofs.YtjgbncpbenmjoaaW.PrintLast
set_option linter.unusedVariables false
set_option linter.unusedSimpArgs false

/-! ### spec_RefusedSignals: function 30 -/
def spec_RefusedSignals.f (k : Nat) (l0 : List (S33)) : Option (List Int × Int) := (spec_l22Code.f k l0 0).bind fun t497 => (if t497 = 0 then ((spec_l22At.f k l0 100000).bind fun bt498 => (some (bt498.2.2.2.2.2.2, 0))) else (some (([] : List Int), t497)))
theorem spec_RefusedSignals.mono : ∀ a0 k, LeO (spec_RefusedSignals.f k a0) (spec_RefusedSignals.f (k + 1) a0) := by
 intro a0 k; unfold spec_RefusedSignals.f
 repeat' first | (with_reducible first | exact spec_l22At.mono _ _ _ | exact spec_l22Code.mono _ _ _ | exact LeO.refl _ | exact LeO.none _ | refine LeO.ite ?_ ?_ | refine LeO.bind ?_ (fun _ => ?_)) | exact spec_l22At.mono _ _ _ | exact spec_l22Code.mono _ _ _ | exact LeO.none _ | refine LeO.ite ?_ ?_ | refine LeO.bind ?_ (fun _ => ?_)
set_option maxHeartbeats 8000000 in
set_option maxRecDepth 100000 in
theorem spec_RefusedSignals.calls (k : Nat) (A0 : Option Addr) (c0 : Nat) (l0 : List (S33)) (r1 : List Int) (r2 : Int) (w : World) (hr0 : Kd.C k33 w A0 l0.length l0) (hc0 : l0.length ≤ c0) (h : spec_RefusedSignals.f k l0 = some (r1, r2)) :
  Calls Try.prog 30 #[.slice A0 l0.length c0] w fun e w' => ∃ v0_ : Value, e = .returned (.tuple #[v0_, .int .i64 r2]) ∧ Kd.R (Kd.int .i64) 2 w' w.heap.size (fun _ => True) v0_ r1 ∧ Below w.heap.size w w' := by
 have hu41 := Try.underlying41; have HR0 := ak hr0; have HC0 := ak hc0; clear hr0 hc0; have HB := ak (Below.refl w.heap.size w); unfold spec_RefusedSignals.f at h; have H := h; clear h; obtain ⟨t497, A2, H⟩ := bnk H; by_cases c3 : t497 = 0
 ·rw [if_pos c3] at H; obtain ⟨c3b0, c3b1⟩ := bqt c3; clear c3; obtain ⟨⟨t498, t499, t500, t501, t502, t503, t504⟩, A40, H⟩ := bnd H; replace H : (some (t504, 0)) = some (r1, r2) := H; have A4 := ak A40; clear A40; simp only [Option.some.injEq, Prod.mk.injEq] at H
  obtain ⟨rfl, rfl⟩ := H; go_enter Try.func30, Try.ntmps30; go_wp2_with (first | ((with_reducible refine at_fn (f := 71) rfl ?_); refine gl (some 8) Try.func71 #[.slice A0 l0.length c0, .int .i64 0] ?_; (with_reducible refine (spec_l22Code.calls k _ _ l0 0 t497 _ ?side1 HC0.out A2.out).mono ?_); (case side1 => exact vc HR0.out); rintro e w5 ⟨rfl, hb⟩; refine ⟨_, rfl, ?_⟩; replace HB := bs HB hb; (try clear hb); (try clear hb2); (try clear hk); (try clear hi)) | ((with_reducible refine at_fn (f := 72) rfl ?_); refine gl (some 14) Try.func72 #[.slice A0 l0.length c0, .int .i64 100000] ?_; (with_reducible refine (spec_l22At.calls k _ _ l0 100000 t498 t499 t500 t501 t502 t503 t504 _ ?side1 HC0.out A4.out).mono ?_); (case side1 => exact vd HR0.out HB.out); rintro e w6 ⟨v505, rfl, ho0, hb⟩; refine ⟨_, rfl, ?_⟩; have HO506 := ak (Kd.R_lower ho0 (below_size (vb HB.out))); replace HB := bs HB hb; (try clear hb); (try clear hb2); (try clear hk); (try clear hi); (try clear ho0)) | ((with_reducible refine gate_dst (N := 5) rfl ?_); refine bx 5 #[.bool false, .bool false, .bool false, .bool false, .bool false, .int .i64 0] 41 ?_; intro gb507 hg w7 hbox hb; replace HO506 := ak (Kd.R_below (vr HO506.out) hb); have BK507 := ak hbox; have GW507 := gw hg HB; have GE507 := gw hg HB; replace HB := bs HB hb; clear hb hbox hg; have hcz8 := cz6 BK507.out))
  go_ret2
  exact ⟨_, ew, by (with_reducible repeat (first | apply Kd.R_alloc | apply Kd.R_drewN | apply Kd.R_drew)); exact Kd.R_mono (Kd.R_far (p := ⟨gb507, 5, none⟩) (Kd.R_far (p := ⟨gb507, 4, none⟩) (Kd.R_far (p := ⟨gb507, 3, none⟩) (Kd.R_far (p := ⟨gb507, 2, none⟩) (Kd.R_far (p := ⟨gb507, 1, none⟩) (Kd.R_far (p := ⟨gb507, 0, none⟩) (Kd.R_types HO506.out BK507.out (by decide)) (fun _ hk => hk.2) (.bool t498)) (fun _ hk => hk.2) (.bool t499)) (fun _ hk => hk.2) (.bool t500)) (fun _ hk => hk.2) (.bool t501)) (fun _ hk => hk.2) (.bool t502)) (fun _ hk => hk.2) (.int .i64 t503)) (fun _ hk => trivial), vb HB.out⟩
 ·rw [if_neg c3] at H; obtain ⟨c3b0, c3b1⟩ := bqf c3; simp only [Option.some.injEq, Prod.mk.injEq] at H
  obtain ⟨rfl, rfl⟩ := H; go_enter Try.func30, Try.ntmps30; go_wp2_with (first | ((with_reducible refine at_fn (f := 71) rfl ?_); refine gl (some 8) Try.func71 #[.slice A0 l0.length c0, .int .i64 0] ?_; (with_reducible refine (spec_l22Code.calls k _ _ l0 0 t497 _ ?side1 HC0.out A2.out).mono ?_); (case side1 => exact vc HR0.out); rintro e w9 ⟨rfl, hb⟩; refine ⟨_, rfl, ?_⟩; replace HB := bs HB hb; (try clear hb); (try clear hb2); (try clear hk); (try clear hi)))
  go_ret2
  exact ⟨_, ew, by first | exact Kd.R_nil _ _ _ _ _ | exact Kd.N_nil _ _ _ _ _ | exact Kd.V_nil _ _ _ _ _ | exact Kd.Q_nil _ _ _ _ _ | exact Kd.S_nil _ _ _ _ _, vb HB.out⟩


/-! ### impl_RefusedSignals: function 31 -/
def impl_RefusedSignals.l0 : Nat → List S33 → Int → Int → Bool → Bool → Bool → Bool → Bool → Int → List Int → Option (List Int × Int)
 | 0, _, _, _, _, _, _, _, _, _, _ => none
 | k + 1, l, x, t, b0, b1, b2, b3, b4, n, r => if x < (l.length : Int) then ((impl_giveInput.f b0 b1 b2 b3 b4 n 8).bind fun q => ((impl_desk_begin.l0 k l x (wrap64 (t + 1)) q.1 q.2.1 q.2.2.1 q.2.2.2.1 q.2.2.2.2.1 q.2.2.2.2.2.1 r).bind fun s => (impl_RefusedSignals.l0 k l s.1 (wrap64 (t + 1)) s.2.1 s.2.2.1 s.2.2.2.1 s.2.2.2.2.1 s.2.2.2.2.2.1 s.2.2.2.2.2.2.1 s.2.2.2.2.2.2.2))) else (some (r, 0))
def impl_RefusedSignals.f (k : Nat) (l0 : List (S33)) : Option (List Int × Int) := (impl_AreSignals.f k l0).bind fun c => (if c = true then ((impl_desk_begin.l0 k l0 0 0 false false false false false 0 []).bind fun s => (impl_RefusedSignals.l0 k l0 s.1 0 s.2.1 s.2.2.1 s.2.2.2.1 s.2.2.2.2.1 s.2.2.2.2.2.1 s.2.2.2.2.2.2.1 s.2.2.2.2.2.2.2)) else (some ([], 1)))
theorem impl_RefusedSignals.mono_l : ∀ k, (∀ y0 y1 y2 y3 y4 y5 y6 y7 y8 y9, LeO (impl_RefusedSignals.l0 k y0 y1 y2 y3 y4 y5 y6 y7 y8 y9) (impl_RefusedSignals.l0 (k + 1) y0 y1 y2 y3 y4 y5 y6 y7 y8 y9))
 | 0 => fun _ _ _ _ _ _ _ _ _ _ r h => by simp [impl_RefusedSignals.l0] at h
 | k + 1 => by
  have ih0 := impl_RefusedSignals.mono_l k
  intro y0 y1 y2 y3 y4 y5 y6 y7 y8 y9; unfold impl_RefusedSignals.l0
  repeat' first | (with_reducible first | exact ih0 _ _ _ _ _ _ _ _ _ _ | exact impl_desk_begin.mono_l _ _ _ _ _ _ _ _ _ _ _ | exact impl_AreSignals.mono _ _ | exact LeO.refl _ | exact LeO.none _ | refine LeO.ite ?_ ?_ | refine LeO.bind ?_ (fun _ => ?_)) | exact ih0 _ _ _ _ _ _ _ _ _ _ | exact impl_desk_begin.mono_l _ _ _ _ _ _ _ _ _ _ _ | exact impl_AreSignals.mono _ _ | exact LeO.none _ | refine LeO.ite ?_ ?_ | refine LeO.bind ?_ (fun _ => ?_)
theorem impl_RefusedSignals.mono : ∀ a0 k, LeO (impl_RefusedSignals.f k a0) (impl_RefusedSignals.f (k + 1) a0) := by
 intro a0 k; have ih0 := impl_RefusedSignals.mono_l k; unfold impl_RefusedSignals.f
 repeat' first | (with_reducible first | exact ih0 _ _ _ _ _ _ _ _ _ _ | exact impl_desk_begin.mono_l _ _ _ _ _ _ _ _ _ _ _ | exact impl_AreSignals.mono _ _ | exact LeO.refl _ | exact LeO.none _ | refine LeO.ite ?_ ?_ | refine LeO.bind ?_ (fun _ => ?_)) | exact ih0 _ _ _ _ _ _ _ _ _ _ | exact impl_desk_begin.mono_l _ _ _ _ _ _ _ _ _ _ _ | exact impl_AreSignals.mono _ _ | exact LeO.none _ | refine LeO.ite ?_ ?_ | refine LeO.bind ?_ (fun _ => ?_)
set_option maxHeartbeats 8000000 in
set_option maxRecDepth 100000 in
theorem impl_RefusedSignals.calls (k : Nat) (A0 : Option Addr) (c0 : Nat) (l0 : List (S33)) (r1 : List Int) (r2 : Int) (w : World) (hr0 : Kd.C k33 w A0 l0.length l0) (hc0 : l0.length ≤ c0) (h : impl_RefusedSignals.f k l0 = some (r1, r2)) :
  Calls Try.prog 31 #[.slice A0 l0.length c0] w fun e w' => ∃ v0_ : Value, e = .returned (.tuple #[v0_, .int .i64 r2]) ∧ Kd.R (Kd.int .i64) 2 w' w.heap.size (fun _ => True) v0_ r1 ∧ Below w.heap.size w w' := by
 have hu41 := Try.underlying41; have HR0 := ak hr0; have HC0 := ak hc0; clear hr0 hc0; have HB := ak (Below.refl w.heap.size w); unfold impl_RefusedSignals.f at h; have H := h; clear h
 obtain ⟨ca, A1, H⟩ := bnk H
 cases ca with
 | false =>
  simp only [Bool.false_eq_true, if_false, Option.some.injEq, Prod.mk.injEq] at H; obtain ⟨rfl, rfl⟩ := H
  go_enter Try.func31, Try.ntmps31
  go_wp2_with (first | ((with_reducible refine at_fn (f := 17) rfl ?_); refine gl (some 6) Try.func17 #[.slice A0 l0.length c0] ?_; (with_reducible refine (impl_AreSignals.calls k _ _ l0 _ _ ?side1 HC0.out A1.out).mono ?_); (case side1 => exact vd HR0.out HB.out); rintro e wa ⟨rfl, hb⟩; refine ⟨_, rfl, ?_⟩; replace HB := bs HB hb; clear hb))
  go_ret2
  exact ⟨_, ew, Kd.R_nil _ _ _ _ _, vb HB.out⟩
 | true =>
   simp only [if_true] at H
   obtain ⟨⟨x1, d0, d1, d2, d3, d4, n1, q1⟩, A30, H⟩ := bnd H; replace H : impl_RefusedSignals.l0 k l0 x1 0 d0 d1 d2 d3 d4 n1 q1 = some (r1, r2) := H; have A3 := ak A30; clear A30; have H' := ak H; clear H
   go_enter Try.func31, Try.ntmps31
   go_wp2_with (first | ((with_reducible refine at_fn (f := 17) rfl ?_); refine gl (some 6) Try.func17 #[.slice A0 l0.length c0] ?_; (with_reducible refine (impl_AreSignals.calls k _ _ l0 _ _ ?side1 HC0.out A1.out).mono ?_); (case side1 => exact vd HR0.out HB.out); rintro e wa ⟨rfl, hb⟩; refine ⟨_, rfl, ?_⟩; replace HB := bs HB hb; clear hb) | ((with_reducible refine gate_dst (N := 10) rfl ?_); refine bx 10 #[.slice A0 l0.length c0, .int .i64 0, .int .i64 0, .bool false, .bool false, .bool false, .bool false, .bool false, .int .i64 0, .slice none 0 0] 96 ?_; intro gd hg wb hbox hb; have DK : Aside0 (Dk wb gd A0 c0 l0.length 0 0 false false false false false 0 (.slice none 0 0)) := ⟨hbox⟩; have GD := gw hg HB; replace HB := bs HB hb; clear hb hbox hg) | ((with_reducible refine at_fn (f := 73) rfl ?_); refine gl (some 12) Try.func73 #[.pointer (some ⟨gd, 0, none⟩)] ?_; (with_reducible refine (impl_desk_begin.calls k gd A0 c0 l0 0 0 false false false false false 0 (.slice none 0 0) [] x1 d0 d1 d2 d3 d4 n1 q1 w.heap.size (fun _ => True) w _ DK.out GD.out (Kd.R_nil _ _ _ _ _) ?bf (Nat.le_refl _) HB.out.size HB.out HR0.out HC0.out A3.out).mono ?_); (case bf => exact (fun _ _ => trivial)); rintro e wd hP; obtain ⟨rfl, vd1, hD, hR, hV, hK, hB⟩ := hP; refine ⟨_, rfl, ?_⟩; clear DK HB; have DK := ak hD; have HO := ak hR; have HB := ak hB; clear hD hR hV hK hB))
   (try simp only [Act.put, List.setIfInBounds_toArray, List.set_cons_zero, List.set_cons_succ])
   go_loopg [] k (fun kq w' => ∃ (x_1 t_1 : Int) (b0_1 b1_1 b2_1 b3_1 b4_1 : Bool) (n_1 : Int) (v_1 : Value) (r_1 : List Int), Aside0 (impl_RefusedSignals.l0 kq l0 x_1 t_1 b0_1 b1_1 b2_1 b3_1 b4_1 n_1 r_1 = some (r1, r2)) ∧ Aside0 (kq ≤ k) ∧ Aside0 (Dk w' gd A0 c0 l0.length x_1 t_1 b0_1 b1_1 b2_1 b3_1 b4_1 n_1 v_1) ∧ Aside0 (Kd.R (Kd.int .i64) 2 w' w.heap.size (fun _ => True) v_1 r_1) ∧ Aside0 (Below w.heap.size w w'))
   case atStart => exact ⟨x1, 0, d0, d1, d2, d3, d4, n1, vd1, q1, H', ⟨Nat.le_refl _⟩, DK, HO, HB⟩
   case round =>
    clear H' DK HO HB A3; obtain ⟨x_1, t_1, b0_1, b1_1, b2_1, b3_1, b4_1, n_1, v_1, r_1, HA, HK1, DK, HO, HB⟩ := hrel
    cases gk with
    | zero => exact absurd HA.out (by simp [impl_RefusedSignals.l0])
    | succ k1 =>
     have H := HA.out; clear HA; simp only [impl_RefusedSignals.l0] at H; have z1 := DK.out.c1
     by_cases c1 : x_1 < (l0.length : Int)
     · rw [if_pos c1] at H; obtain ⟨⟨u0, u1, u2, u3, u4, u5, y⟩, B10, H⟩ := bnd H; replace H : ((impl_desk_begin.l0 k1 l0 x_1 (wrap64 (t_1 + 1)) u0 u1 u2 u3 u4 u5 r_1).bind fun s => (impl_RefusedSignals.l0 k1 l0 s.1 (wrap64 (t_1 + 1)) s.2.1 s.2.2.1 s.2.2.2.1 s.2.2.2.2.1 s.2.2.2.2.2.1 s.2.2.2.2.2.2.1 s.2.2.2.2.2.2.2)) = some (r1, r2) := H; have B1 := ak B10; clear B10; obtain ⟨⟨x2, e0, e1, e2, e3, e4, n2, q2⟩, B20, H⟩ := bnd H; replace H : impl_RefusedSignals.l0 k1 l0 x2 (wrap64 (t_1 + 1)) e0 e1 e2 e3 e4 n2 q2 = some (r1, r2) := H; have B2 := ak B20; clear B20; have H' := ak H; clear H; have c1b := decide_eq_true c1; clear c1
       go_wp2_with (first | ((with_reducible refine at_fn (f := 75) rfl ?_); refine gl (some 21) Try.func75 #[.pointer (some ⟨gd, 0, none⟩)] ?_; (with_reducible refine (impl_desk_end.callsD gd A0 c0 l0.length x_1 t_1 b0_1 b1_1 b2_1 b3_1 b4_1 n_1 v_1 u0 u1 u2 u3 u4 u5 y w _ DK.out GD.out HB.out B1.out).mono ?_); rintro e we hP; obtain ⟨rfl, hD, hK, hB⟩ := hP; refine ⟨_, rfl, ?_⟩; have HK1_ := ak hK; replace HO := ak (Kd.R_mono (Kd.R_keep (Kd.R_types HO.out DK.out (by decide)) hK (fun _ h => h.2)) (fun _ h => h.1)); clear z1; clear DK HB; have DK := ak hD; have HB := ak hB; clear hD hK hB) | ((with_reducible refine at_fn (f := 73) rfl ?_); refine gl (some 23) Try.func73 #[.pointer (some ⟨gd, 0, none⟩)] ?_; (with_reducible refine (impl_desk_begin.calls k1 gd A0 c0 l0 x_1 (wrap64 (t_1 + 1)) u0 u1 u2 u3 u4 u5 v_1 r_1 x2 e0 e1 e2 e3 e4 n2 q2 w.heap.size (fun _ => True) w _ DK.out GD.out HO.out ?bf (Nat.le_refl _) HB.out.size HB.out HR0.out HC0.out B2.out).mono ?_); (case bf => exact (fun _ _ => trivial)); rintro e wd hP; obtain ⟨rfl, vd1, hD, hR, hV, hK, hB⟩ := hP; refine ⟨_, rfl, ?_⟩; clear DK HB HO; have DK := ak hD; have HO := ak hR; have HB := ak hB; clear hD hR hV hK hB))
       go_roundg k1
       case measure => have := HK1.out; omega
       case rel => exact ⟨x2, wrap64 (t_1 + 1), e0, e1, e2, e3, e4, n2, vd1, q2, H', ⟨by have := HK1.out; omega⟩, DK, HO, HB⟩
     · rw [if_neg c1] at H; simp only [Option.some.injEq, Prod.mk.injEq] at H; obtain ⟨rfl, rfl⟩ := H; have c1b := decide_eq_false c1; clear c1
       have z9 := DK.out.c9
       go_wp2
       go_ret2
       exact ⟨_, ew, Kd.R_mono HO.out (fun _ _ => trivial), vb HB.out⟩


end Go.Proofs.Ytjgbncpbenmjoaa.Pall
