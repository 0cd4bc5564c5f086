/- Go functions of the program, each as a Lean function, and the proof that each call comes to what the Lean function tells; no condition beyond those that stand there. -/
import Derived.Test.YtjgbncpbenmjoaaF00
import Derived.Test.YtjgbncpbenmjoaaF27
import Derived.Test.YtjgbncpbenmjoaaF30
import Derived.Test.YtjgbncpbenmjoaaF35
import Derived.Test.YtjgbncpbenmjoaaSpare
import Derived.Test.YtjgbncpbenmjoaaCm
import Derived.Test.YtjgbncpbenmjoaaCm3
namespace Go.Proofs.Ytjgbncpbenmjoaa.Pall
open Go.RowKit Go.Proofs.YtjgbncpbenmjoaaW.PrintWords
set_option linter.unusedVariables false
set_option linter.unusedSimpArgs false

/-! ### spec_MissedCues: function 60 -/
def spec_MissedCues.l0 : Nat → List Int → List Int → Int → Option (List Int × Int)
 | 0, _, _, _ => none
 | k + 1, x11, x12, x13 => if x13 < (x12.length : Int) then (if 0 ≤ x13 then (if (rd x12 x13) < 0 then (if x11.length < 17592186044416 then (spec_MissedCues.l0 k (x11 ++ [x13]) x12 (wrap64 (x13 + 1))) else (none)) else (spec_MissedCues.l0 k x11 x12 (wrap64 (x13 + 1)))) else (none)) else (some (x11, 0))
def spec_MissedCues.f (k : Nat) (l0 : List Int) (l1 : List (S33)) (l2 : List (S111)) (l3 : List ByteArray) : Option (List Int × Int) := (spec_l22Times.f k l0 l1 l2 l3).bind fun t1115 => (if t1115 = 0 then ((spec_l22Fired.f k l0 l1 l2 l3).bind fun t1119 => (spec_MissedCues.l0 k (([] : List Int)) t1119 0)) else (some (([] : List Int), t1115)))
theorem spec_MissedCues.mono_l : ∀ k, (∀ y0 y1 y2, LeO (spec_MissedCues.l0 k y0 y1 y2) (spec_MissedCues.l0 (k + 1) y0 y1 y2))
 | 0 => fun _ _ _ r h => by simp [spec_MissedCues.l0] at h
 | k + 1 => by
  have ih0 := spec_MissedCues.mono_l k
  ·intro y0 y1 y2; unfold spec_MissedCues.l0
   repeat' first | (with_reducible first | exact ih0 _ _ _ | exact spec_l22Fired.mono _ _ _ _ _ | exact spec_l22Times.mono _ _ _ _ _ | exact LeO.refl _ | exact LeO.none _ | refine LeO.ite ?_ ?_ | refine LeO.bind ?_ (fun _ => ?_)) | exact ih0 _ _ _ | exact spec_l22Fired.mono _ _ _ _ _ | exact spec_l22Times.mono _ _ _ _ _ | exact LeO.none _ | refine LeO.ite ?_ ?_ | refine LeO.bind ?_ (fun _ => ?_)
theorem spec_MissedCues.mono : ∀ a0 a1 a2 a3 k, LeO (spec_MissedCues.f k a0 a1 a2 a3) (spec_MissedCues.f (k + 1) a0 a1 a2 a3) := by
 intro a0 a1 a2 a3 k; have ih0 := spec_MissedCues.mono_l k; unfold spec_MissedCues.f
 repeat' first | (with_reducible first | exact ih0 _ _ _ | exact spec_l22Fired.mono _ _ _ _ _ | exact spec_l22Times.mono _ _ _ _ _ | exact LeO.refl _ | exact LeO.none _ | refine LeO.ite ?_ ?_ | refine LeO.bind ?_ (fun _ => ?_)) | exact ih0 _ _ _ | exact spec_l22Fired.mono _ _ _ _ _ | exact spec_l22Times.mono _ _ _ _ _ | exact LeO.none _ | refine LeO.ite ?_ ?_ | refine LeO.bind ?_ (fun _ => ?_)
set_option maxHeartbeats 8000000 in
set_option maxRecDepth 100000 in
theorem spec_MissedCues.calls (k : Nat) (A0 : Option Addr) (c0 : Nat) (l0 : List Int) (A1 : Option Addr) (c1 : Nat) (l1 : List (S33)) (A2 : Option Addr) (c2 : Nat) (l2 : List (S111)) (A3 : Option Addr) (c3 : Nat) (l3 : List ByteArray) (r1 : List Int) (r2 : Int) (w : World) (hr0 : Kd.C (Kd.int .i64) w A0 l0.length l0) (hc0 : l0.length ≤ c0) (hr1 : Kd.C k33 w A1 l1.length l1) (hc1 : l1.length ≤ c1) (hr2 : Kd.C k111 w A2 l2.length l2) (hc2 : l2.length ≤ c2) (hr3 : Kd.C Kd.string w A3 l3.length l3) (hc3 : l3.length ≤ c3) (h : spec_MissedCues.f k l0 l1 l2 l3 = some (r1, r2)) :
  Calls Try.prog 60 #[.slice A0 l0.length c0, .slice A1 l1.length c1, .slice A2 l2.length c2, .slice A3 l3.length c3] w fun e w' => ∃ v0_ : Value, e = .returned (.tuple #[v0_, .int .i64 r2]) ∧ Kd.R (Kd.int .i64) 2 w' w.heap.size (fun _ => True) v0_ r1 ∧ Below w.heap.size w w' := by
 have HR0 := ak hr0; have HC0 := ak hc0; clear hr0 hc0; have HR1 := ak hr1; have HC1 := ak hc1; clear hr1 hc1; have HR2 := ak hr2; have HC2 := ak hc2; clear hr2 hc2; have HR3 := ak hr3; have HC3 := ak hc3; clear hr3 hc3; have HB := ak (Below.refl w.heap.size w); unfold spec_MissedCues.f at h; have H := h; clear h; obtain ⟨t1115, A5, H⟩ := bnk H; by_cases c6 : t1115 = 0
 ·rw [if_pos c6] at H; obtain ⟨c6b0, c6b1⟩ := bqt c6; clear c6; obtain ⟨y1116, hy1116⟩ := gen_ (([] : List Int)); rw [← hy1116] at H; have Ny1116 := ak hy1116; clear hy1116; obtain ⟨t1119, A7, H⟩ := bnk H; have H' := ak H; clear H; go_enter Try.func60, Try.ntmps60; go_wp2_with (first | ((with_reducible refine at_fn (f := 80) rfl ?_); refine gl (some 18) Try.func80 #[.slice A0 l0.length c0, .slice A1 l1.length c1, .slice A2 l2.length c2, .slice A3 l3.length c3] ?_; (with_reducible refine (spec_l22Times.calls k _ _ l0 _ _ l1 _ _ l2 _ _ l3 t1115 _ ?side1 HC0.out ?side3 HC1.out ?side5 HC2.out ?side7 HC3.out A5.out).mono ?_); (case side1 => exact vc HR0.out); (case side3 => exact vc HR1.out); (case side5 => exact vc HR2.out); (case side7 => exact vc HR3.out); rintro e w8 ⟨rfl, hb⟩; refine ⟨_, rfl, ?_⟩; replace HB := bs HB hb; (try clear hb); (try clear hb2); (try clear hk); (try clear hi)) | ((with_reducible refine gate_dst (N := 22) rfl ?_); refine Kd.R_lit (Kd.int .i64) _ 2 ?hg (N := 22) ?hd (xs := ([] : List Int)) (inner := []) (ok := fun _ => True) (okp := fun _ => True) ?hr ?hp (fun _ hk => hk) trivial (Below.refl _ _) (Nat.le_refl _) (by simp) ?_; (case hd => rfl); (case hg => rfl); (case hr => first | (go_simp; done) | (go_simp; rfl)); (case hp => exact (Reps.none _ _)); intro v1117 w9 ho10 hb hg_ hnew_; clear hg_ hnew_; (first | rw [← Ny1116.out] at ho10 | (simp only [Int.reduceToNat] at ho10; rw [← Ny1116.out] at ho10)); have HO1118 := ak (Kd.R_lower ho10 (below_size (vb HB.out))); replace HB := bs HB hb; clear hb ho10) | ((with_reducible refine at_fn (f := 81) rfl ?_); refine gl (some 27) Try.func81 #[.slice A0 l0.length c0, .slice A1 l1.length c1, .slice A2 l2.length c2, .slice A3 l3.length c3] ?_; (with_reducible refine (spec_l22Fired.calls k _ _ l0 _ _ l1 _ _ l2 _ _ l3 t1119 _ ?side1 HC0.out ?side3 HC1.out ?side5 HC2.out ?side7 HC3.out A7.out).mono ?_); (case side1 => exact vd HR0.out HB.out); (case side3 => exact vd HR1.out HB.out); (case side5 => exact vd HR2.out HB.out); (case side7 => exact vd HR3.out HB.out); rintro e w11 ⟨v1120, rfl, ho0, hb⟩; refine ⟨_, rfl, ?_⟩; have HO1121 := ak (Kd.R_lower (Kd.R_new' ho0 (Kd.R_lt (vr HO1118.out))) (below_size (vb HB.out))); replace HO1118 := ak (Kd.R_elder' (vr HO1118.out) (Kd.R_base ho0) hb); replace HB := bs HB hb; (try clear hb); (try clear hb2); (try clear hk); (try clear hi); (try clear ho0)))
  go_loopg [11, 13] k (fun kq v11 v13 w' => ∃ (x11_1 : List Int) (x13_1 : Int), v13 = .int .i64 x13_1 ∧ Aside0 (spec_MissedCues.l0 kq x11_1 t1119 x13_1 = some (r1, r2)) ∧ Aside0 (kq ≤ k) ∧ Aside0 (Kd.R (Kd.int .i64) 2 w' w.heap.size (fun k_ => some k_ ≠ (v1120 : Value).ownBlock) v11 x11_1) ∧ Aside0 (Kd.R (Kd.int .i64) 2 w' w.heap.size (fun k_ => some k_ ≠ (v11 : Value).ownBlock) v1120 t1119) ∧ Aside0 (Below w.heap.size w w'))
  case atStart => exact ⟨(y1116), (0), (by first | rfl | (simp; done) | (simp [*]; done)), H', ⟨Nat.le_refl _⟩, ⟨by (with_reducible repeat (first | apply Kd.R_alloc | apply Kd.R_drewN | apply Kd.R_drew)); exact Kd.R_mono HO1118.out (fun _ hk => hk.2)⟩, ⟨by (with_reducible repeat (first | apply Kd.R_alloc | apply Kd.R_drewN | apply Kd.R_drew)); exact Kd.R_mono HO1121.out (fun _ hk => hk.2)⟩, ⟨vb HB.out⟩⟩
  case round =>
   clear H'; (try clear c1); (try clear c2); (try clear p2); (try clear c3); (try clear c6); (try clear c6b0); (try clear c6b1); (try clear c8); obtain ⟨x11_1, x13_1, rfl, HA, HK1, HO_11, HO_12, HB⟩ := hrel
   cases gk with
   | zero => exact absurd HA.out (by simp [spec_MissedCues.l0])
   | succ k1 =>
    have H := HA.out; clear HA; simp only [spec_MissedCues.l0] at H
    by_cases c12 : x13_1 < (t1119.length : Int)
    ·rw [if_pos c12] at H; have c12b0 := decide_eq_true c12; clear c12; by_cases c13 : 0 ≤ x13_1
     ·rw [if_pos c13] at H; have c13b0 := decide_eq_true c13; clear c13; by_cases c14 : (rd t1119 x13_1) < 0
      ·rw [if_pos c14] at H; have c14b0 := decide_eq_true c14; clear c14; by_cases c15 : x11_1.length < 17592186044416
       ·rw [if_pos c15] at H; have LMc15 := ak c15; clear c15; obtain ⟨y1123, hy1123⟩ := gen_ ((x11_1 ++ [x13_1] : List Int)); rw [← hy1123] at H; have Ny1123 := ak hy1123; clear hy1123; have H' := ak H; clear H; obtain ⟨Ao16, co16, eo16⟩ := Kd.R_slice HO_12.out; subst eo16; have p1122 : 0 ≤ (x13_1 : Int) := od; have q1122 : x13_1 < (t1119.length : Int) := od; obtain ⟨ad1122, e1122, hx1122_0⟩ := Kd.at_int (Kd.R_reads' HO_12.out).2.2 x13_1 p1122 q1122
        cases e1122; replace p1122 := eq_true p1122; replace q1122 := eq_true q1122; go_wp2_with (first | ((with_reducible refine at_bi (b := .append) (xs := #[.tmp 39, .tmp 41]) rfl ?_); at_builtin; refine Kd.R_append (Kd.int .i64) (w0 := w) w.heap.size rfl (.tmp 39) (.tmp 41) 46 2 (.int .i64 0) 8 rfl Try.underlying46 info2 rfl (by decide) (by omega) u11 x11_1 x13_1 [.int .i64 x13_1] (fun k_ => some k_ ≠ (.slice (some ad1122) t1119.length co16 : Value).ownBlock) (fun _ => False) rfl rfl ?aP (fun _ hk => hk.elim) ?aF ?aO ?aB ?aS ?aL ?_; (case aP => exact rfl); (case aB => exact (vb HB.out)); (case aF => exact (fun k_ hk => Kd.fresh' (Kd.R_lt (vr HO_12.out)) k_ hk)); (case aO => exact (vr HO_11.out)); (case aS => exact (below_size (vb HB.out))); (case aL => have := LMc15.out; omega); intro v1124 w17 ho hb hg hat; rw [← Ny1123.out] at ho; have n0_ := ak (Kd.R_after (ok := (fun _ => True)) (by (with_reducible repeat (first | apply Kd.R_alloc | apply Kd.R_drewN | apply Kd.R_drew)); exact Kd.R_mono HO_12.out (fun _ hk => ⟨trivial, hk⟩)) hg hat); have n1_ := ak (hb); have n2_ := ak (ho); clear HO_12; clear HB; clear HO_11; have HO_12 := n0_; have HB := n1_; have HO1125 := n2_; clear n0_ n1_ n2_; clear ho hb hg hat))
        go_roundg k1
        case measure => have := HK1.out; omega
        case rel => exact ⟨(y1123), (wrap64 (x13_1 + 1)), (by first | rfl | (simp; done) | (simp [*]; done)), H', ⟨by have := HK1.out; omega⟩, ⟨by (with_reducible repeat (first | apply Kd.R_alloc | apply Kd.R_drewN | apply Kd.R_drew)); exact HO1125.out⟩, ⟨by (with_reducible repeat (first | apply Kd.R_alloc | apply Kd.R_drewN | apply Kd.R_drew)); exact Kd.R_mono HO_12.out (fun _ hk => hk.2)⟩, ⟨vb HB.out⟩⟩
       ·rw [if_neg c15] at H; exact absurd H (by simp)
      ·rw [if_neg c14] at H; have c14b0 := decide_eq_false c14; clear c14; have H' := ak H; clear H; obtain ⟨Ao18, co18, eo18⟩ := Kd.R_slice HO_12.out; subst eo18; have p1122 : 0 ≤ (x13_1 : Int) := od; have q1122 : x13_1 < (t1119.length : Int) := od; obtain ⟨ad1122, e1122, hx1122_0⟩ := Kd.at_int (Kd.R_reads' HO_12.out).2.2 x13_1 p1122 q1122
       cases e1122; replace p1122 := eq_true p1122; replace q1122 := eq_true q1122; go_wp2
       go_roundg k1
       case measure => have := HK1.out; omega
       case rel => exact ⟨(x11_1), (wrap64 (x13_1 + 1)), (by first | rfl | (simp; done) | (simp [*]; done)), H', ⟨by have := HK1.out; omega⟩, ⟨by (with_reducible repeat (first | apply Kd.R_alloc | apply Kd.R_drewN | apply Kd.R_drew)); exact HO_11.out⟩, ⟨by (with_reducible repeat (first | apply Kd.R_alloc | apply Kd.R_drewN | apply Kd.R_drew)); exact HO_12.out⟩, ⟨vb HB.out⟩⟩
     ·rw [if_neg c13] at H; exact absurd H (by simp)
    ·rw [if_neg c12] at H; have c12b0 := decide_eq_false c12; clear c12; simp only [Option.some.injEq, Prod.mk.injEq] at H
     obtain ⟨rfl, rfl⟩ := H; obtain ⟨Ao19, co19, eo19⟩ := Kd.R_slice HO_12.out; subst eo19; go_wp2
     go_ret2
     exact ⟨_, ew, by (with_reducible repeat (first | apply Kd.R_alloc | apply Kd.R_drewN | apply Kd.R_drew)); exact Kd.R_mono HO_11.out (fun _ hk => trivial), vb HB.out⟩
 ·rw [if_neg c6] at H; obtain ⟨c6b0, c6b1⟩ := bqf c6; simp only [Option.some.injEq, Prod.mk.injEq] at H
  obtain ⟨rfl, rfl⟩ := H; go_enter Try.func60, Try.ntmps60; go_wp2_with (first | ((with_reducible refine at_fn (f := 80) rfl ?_); refine gl (some 18) Try.func80 #[.slice A0 l0.length c0, .slice A1 l1.length c1, .slice A2 l2.length c2, .slice A3 l3.length c3] ?_; (with_reducible refine (spec_l22Times.calls k _ _ l0 _ _ l1 _ _ l2 _ _ l3 t1115 _ ?side1 HC0.out ?side3 HC1.out ?side5 HC2.out ?side7 HC3.out A5.out).mono ?_); (case side1 => exact vc HR0.out); (case side3 => exact vc HR1.out); (case side5 => exact vc HR2.out); (case side7 => exact vc HR3.out); rintro e w20 ⟨rfl, hb⟩; refine ⟨_, rfl, ?_⟩; replace HB := bs HB hb; (try clear hb); (try clear hb2); (try clear hk); (try clear hi)))
  go_ret2
  exact ⟨_, ew, by first | exact Kd.R_nil _ _ _ _ _ | exact Kd.N_nil _ _ _ _ _ | exact Kd.V_nil _ _ _ _ _ | exact Kd.Q_nil _ _ _ _ _ | exact Kd.S_nil _ _ _ _ _, vb HB.out⟩


/-! ### impl_MissedCues: function 61 -/
def impl_MissedCues.l0 : Nat → List Int → List Int → Int → Int → Option (List Int × Int)
 | 0, _, _, _, _ => none
 | k + 1, x10, x23, x24, x25 => if x25 < x24 then (if 0 ≤ x25 then (if x25 < (x23.length : Int) then (if (rd x23 x25) < 0 then (if x10.length < 17592186044416 then (impl_MissedCues.l0 k (x10 ++ [x25]) x23 x24 (wrap64 (x25 + 1))) else (none)) else (impl_MissedCues.l0 k x10 x23 x24 (wrap64 (x25 + 1)))) else (none)) else (none)) else (some (x10, 0))
def impl_MissedCues.f (k : Nat) (l0 : List Int) (l1 : List (S33)) (l2 : List (S111)) (l3 : List ByteArray) : Option (List Int × Int) := (impl_areFired.f k l0 l1 l2 l3).bind fun t1126 => (if t1126 = true then ((impl_firedTicks.f k l0 l1 l2 l3).bind fun t1127 => (impl_MissedCues.l0 k ([] : List Int) t1127 (t1127.length : Int) 0)) else (some (([] : List Int), 1)))
theorem impl_MissedCues.mono_l : ∀ k, (∀ y0 y1 y2 y3, LeO (impl_MissedCues.l0 k y0 y1 y2 y3) (impl_MissedCues.l0 (k + 1) y0 y1 y2 y3))
 | 0 => fun _ _ _ _ r h => by simp [impl_MissedCues.l0] at h
 | k + 1 => by
  have ih0 := impl_MissedCues.mono_l k
  ·intro y0 y1 y2 y3; unfold impl_MissedCues.l0
   repeat' first | (with_reducible first | exact ih0 _ _ _ _ | exact impl_areFired.mono _ _ _ _ _ | exact impl_firedTicks.mono _ _ _ _ _ | exact LeO.refl _ | exact LeO.none _ | refine LeO.ite ?_ ?_ | refine LeO.bind ?_ (fun _ => ?_)) | exact ih0 _ _ _ _ | exact impl_areFired.mono _ _ _ _ _ | exact impl_firedTicks.mono _ _ _ _ _ | exact LeO.none _ | refine LeO.ite ?_ ?_ | refine LeO.bind ?_ (fun _ => ?_)
theorem impl_MissedCues.mono : ∀ a0 a1 a2 a3 k, LeO (impl_MissedCues.f k a0 a1 a2 a3) (impl_MissedCues.f (k + 1) a0 a1 a2 a3) := by
 intro a0 a1 a2 a3 k; have ih0 := impl_MissedCues.mono_l k; unfold impl_MissedCues.f
 repeat' first | (with_reducible first | exact ih0 _ _ _ _ | exact impl_areFired.mono _ _ _ _ _ | exact impl_firedTicks.mono _ _ _ _ _ | exact LeO.refl _ | exact LeO.none _ | refine LeO.ite ?_ ?_ | refine LeO.bind ?_ (fun _ => ?_)) | exact ih0 _ _ _ _ | exact impl_areFired.mono _ _ _ _ _ | exact impl_firedTicks.mono _ _ _ _ _ | exact LeO.none _ | refine LeO.ite ?_ ?_ | refine LeO.bind ?_ (fun _ => ?_)
set_option maxHeartbeats 8000000 in
set_option maxRecDepth 100000 in
theorem impl_MissedCues.calls (k : Nat) (A0 : Option Addr) (c0 : Nat) (l0 : List Int) (A1 : Option Addr) (c1 : Nat) (l1 : List (S33)) (A2 : Option Addr) (c2 : Nat) (l2 : List (S111)) (A3 : Option Addr) (c3 : Nat) (l3 : List ByteArray) (r1 : List Int) (r2 : Int) (w : World) (hr0 : Kd.C (Kd.int .i64) w A0 l0.length l0) (hc0 : l0.length ≤ c0) (hr1 : Kd.C k33 w A1 l1.length l1) (hc1 : l1.length ≤ c1) (hr2 : Kd.C k111 w A2 l2.length l2) (hc2 : l2.length ≤ c2) (hr3 : Kd.C Kd.string w A3 l3.length l3) (hc3 : l3.length ≤ c3) (h : impl_MissedCues.f k l0 l1 l2 l3 = some (r1, r2)) :
  Calls Try.prog 61 #[.slice A0 l0.length c0, .slice A1 l1.length c1, .slice A2 l2.length c2, .slice A3 l3.length c3] w fun e w' => ∃ v0_ : Value, e = .returned (.tuple #[v0_, .int .i64 r2]) ∧ Kd.R (Kd.int .i64) 2 w' w.heap.size (fun _ => True) v0_ r1 ∧ Below w.heap.size w w' := by
 have HR0 := ak hr0; have HC0 := ak hc0; clear hr0 hc0; have HR1 := ak hr1; have HC1 := ak hc1; clear hr1 hc1; have HR2 := ak hr2; have HC2 := ak hc2; clear hr2 hc2; have HR3 := ak hr3; have HC3 := ak hc3; clear hr3 hc3; have HB := ak (Below.refl w.heap.size w); unfold impl_MissedCues.f at h; have H := h; clear h; obtain ⟨t1126, A5, H⟩ := bnk H; by_cases c6 : t1126 = true
 ·subst c6; rw [if_pos rfl] at H; obtain ⟨t1127, A7, H⟩ := bnk H; have H' := ak H; clear H; go_enter Try.func61, Try.ntmps61; go_wp2_with (first | ((with_reducible refine at_fn (f := 87) rfl ?_); refine gl (some 17) Try.func87 #[.slice A0 l0.length c0, .slice A1 l1.length c1, .slice A2 l2.length c2, .slice A3 l3.length c3] ?_; (with_reducible refine (impl_areFired.calls k _ _ l0 _ _ l1 _ _ l2 _ _ l3 _ _ ?side1 HC0.out ?side3 HC1.out ?side5 HC2.out ?side7 HC3.out A5.out).mono ?_); (case side1 => exact vc HR0.out); (case side3 => exact vc HR1.out); (case side5 => exact vc HR2.out); (case side7 => exact vc HR3.out); rintro e w8 ⟨rfl, hb⟩; refine ⟨_, rfl, ?_⟩; replace HB := bs HB hb; (try clear hb); (try clear hb2); (try clear hk); (try clear hi)) | ((with_reducible refine at_fn (f := 83) rfl ?_); refine gl (some 23) Try.func83 #[.slice A0 l0.length c0, .slice A1 l1.length c1, .slice A2 l2.length c2, .slice A3 l3.length c3] ?_; (with_reducible refine (impl_firedTicks.calls k _ _ l0 _ _ l1 _ _ l2 _ _ l3 t1127 _ ?side1 HC0.out ?side3 HC1.out ?side5 HC2.out ?side7 HC3.out A7.out).mono ?_); (case side1 => exact vd HR0.out HB.out); (case side3 => exact vd HR1.out HB.out); (case side5 => exact vd HR2.out HB.out); (case side7 => exact vd HR3.out HB.out); rintro e w9 ⟨v1128, rfl, ho0, hb⟩; refine ⟨_, rfl, ?_⟩; have HO1129 := ak (Kd.R_lower ho0 (below_size (vb HB.out))); replace HB := bs HB hb; (try clear hb); (try clear hb2); (try clear hk); (try clear hi); (try clear ho0); obtain ⟨Ao10, co10, eo10⟩ := Kd.R_slice HO1129.out; subst eo10))
  go_loopg [10, 25] k (fun kq v10 v25 w' => ∃ (x10_1 : List Int) (x25_1 : Int), v25 = .int .i64 x25_1 ∧ Aside0 (impl_MissedCues.l0 kq x10_1 t1127 (t1127.length : Int) x25_1 = some (r1, r2)) ∧ Aside0 (kq ≤ k) ∧ Aside0 (Kd.R (Kd.int .i64) 2 w' w.heap.size (fun k_ => some k_ ≠ ((.slice Ao10 t1127.length co10) : Value).ownBlock) v10 x10_1) ∧ Aside0 (Kd.R (Kd.int .i64) 2 w' w.heap.size (fun k_ => some k_ ≠ (v10 : Value).ownBlock) (.slice Ao10 t1127.length co10) t1127) ∧ Aside0 (Below w.heap.size w w'))
  case atStart => exact ⟨(([] : List Int)), (0), (by first | rfl | (simp; done) | (simp [*]; done)), H', ⟨Nat.le_refl _⟩, ⟨by first | exact Kd.R_nil _ _ _ _ _ | exact Kd.N_nil _ _ _ _ _ | exact Kd.V_nil _ _ _ _ _ | exact Kd.Q_nil _ _ _ _ _ | exact Kd.S_nil _ _ _ _ _⟩, ⟨by (with_reducible repeat (first | apply Kd.R_alloc | apply Kd.R_drewN | apply Kd.R_drew)); exact Kd.R_mono HO1129.out (fun _ hk => (by simp [Value.ownBlock]))⟩, ⟨vb HB.out⟩⟩
  case round =>
   clear H'; (try clear c1); (try clear c2); (try clear p2); (try clear c3); (try clear c6); (try clear c8); obtain ⟨x10_1, x25_1, rfl, HA, HK1, HO_10, HO_23, HB⟩ := hrel
   cases gk with
   | zero => exact absurd HA.out (by simp [impl_MissedCues.l0])
   | succ k1 =>
    have H := HA.out; clear HA; simp only [impl_MissedCues.l0] at H
    by_cases c11 : x25_1 < (t1127.length : Int)
    ·rw [if_pos c11] at H; have c11b0 := decide_eq_true c11; clear c11; by_cases c12 : 0 ≤ x25_1
     ·rw [if_pos c12] at H; have c12b0 := decide_eq_true c12; clear c12; by_cases c13 : x25_1 < (t1127.length : Int)
      ·rw [if_pos c13] at H; have c13b0 := decide_eq_true c13; clear c13; by_cases c14 : (rd t1127 x25_1) < 0
       ·rw [if_pos c14] at H; have c14b0 := decide_eq_true c14; clear c14; by_cases c15 : x10_1.length < 17592186044416
        ·rw [if_pos c15] at H; have LMc15 := ak c15; clear c15; obtain ⟨y1131, hy1131⟩ := gen_ ((x10_1 ++ [x25_1] : List Int)); rw [← hy1131] at H; have Ny1131 := ak hy1131; clear hy1131; have H' := ak H; clear H; have p1130 : 0 ≤ (x25_1 : Int) := od; have q1130 : x25_1 < (t1127.length : Int) := od; obtain ⟨ad1130, e1130, hx1130_0⟩ := Kd.at_int (Kd.R_reads' HO_23.out).2.2 x25_1 p1130 q1130
         cases e1130; replace p1130 := eq_true p1130; replace q1130 := eq_true q1130; go_wp2_with (first | ((with_reducible refine at_bi (b := .append) (xs := #[.tmp 32, .tmp 34]) rfl ?_); at_builtin; refine Kd.R_append (Kd.int .i64) (w0 := w) w.heap.size rfl (.tmp 32) (.tmp 34) 46 2 (.int .i64 0) 8 rfl Try.underlying46 info2 rfl (by decide) (by omega) u10 x10_1 x25_1 [.int .i64 x25_1] (fun k_ => some k_ ≠ (.slice (some ad1130) t1127.length co10 : Value).ownBlock) (fun _ => False) rfl rfl ?aP (fun _ hk => hk.elim) ?aF ?aO ?aB ?aS ?aL ?_; (case aP => exact rfl); (case aB => exact (vb HB.out)); (case aF => exact (fun k_ hk => Kd.fresh' (Kd.R_lt (vr HO_23.out)) k_ hk)); (case aO => exact (vr HO_10.out)); (case aS => exact (below_size (vb HB.out))); (case aL => have := LMc15.out; omega); intro v1132 w16 ho hb hg hat; rw [← Ny1131.out] at ho; have n0_ := ak (Kd.R_after (ok := (fun _ => True)) (by (with_reducible repeat (first | apply Kd.R_alloc | apply Kd.R_drewN | apply Kd.R_drew)); exact Kd.R_mono HO_23.out (fun _ hk => ⟨trivial, hk⟩)) hg hat); have n1_ := ak (hb); have n2_ := ak (ho); clear HO_23; clear HB; clear HO_10; have HO_23 := n0_; have HB := n1_; have HO1133 := n2_; clear n0_ n1_ n2_; clear ho hb hg hat))
         go_roundg k1
         case measure => have := HK1.out; omega
         case rel => exact ⟨(y1131), (wrap64 (x25_1 + 1)), (by first | rfl | (simp; done) | (simp [*]; done)), H', ⟨by have := HK1.out; omega⟩, ⟨by (with_reducible repeat (first | apply Kd.R_alloc | apply Kd.R_drewN | apply Kd.R_drew)); exact HO1133.out⟩, ⟨by (with_reducible repeat (first | apply Kd.R_alloc | apply Kd.R_drewN | apply Kd.R_drew)); exact Kd.R_mono HO_23.out (fun _ hk => hk.2)⟩, ⟨vb HB.out⟩⟩
        ·rw [if_neg c15] at H; exact absurd H (by simp)
       ·rw [if_neg c14] at H; have c14b0 := decide_eq_false c14; clear c14; have H' := ak H; clear H; have p1130 : 0 ≤ (x25_1 : Int) := od; have q1130 : x25_1 < (t1127.length : Int) := od; obtain ⟨ad1130, e1130, hx1130_0⟩ := Kd.at_int (Kd.R_reads' HO_23.out).2.2 x25_1 p1130 q1130
        cases e1130; replace p1130 := eq_true p1130; replace q1130 := eq_true q1130; go_wp2
        go_roundg k1
        case measure => have := HK1.out; omega
        case rel => exact ⟨(x10_1), (wrap64 (x25_1 + 1)), (by first | rfl | (simp; done) | (simp [*]; done)), H', ⟨by have := HK1.out; omega⟩, ⟨by (with_reducible repeat (first | apply Kd.R_alloc | apply Kd.R_drewN | apply Kd.R_drew)); exact HO_10.out⟩, ⟨by (with_reducible repeat (first | apply Kd.R_alloc | apply Kd.R_drewN | apply Kd.R_drew)); exact HO_23.out⟩, ⟨vb HB.out⟩⟩
      ·rw [if_neg c13] at H; exact absurd H (by simp)
     ·rw [if_neg c12] at H; exact absurd H (by simp)
    ·rw [if_neg c11] at H; have c11b0 := decide_eq_false c11; clear c11; simp only [Option.some.injEq, Prod.mk.injEq] at H
     obtain ⟨rfl, rfl⟩ := H; go_wp2
     go_ret2
     exact ⟨_, ew, by (with_reducible repeat (first | apply Kd.R_alloc | apply Kd.R_drewN | apply Kd.R_drew)); exact Kd.R_mono HO_10.out (fun _ hk => trivial), vb HB.out⟩
 ·replace c6 := Bool.eq_false_iff.mpr c6; subst c6; rw [if_neg nf] at H; simp only [Option.some.injEq, Prod.mk.injEq] at H
  obtain ⟨rfl, rfl⟩ := H; go_enter Try.func61, Try.ntmps61; go_wp2_with (first | ((with_reducible refine at_fn (f := 87) rfl ?_); refine gl (some 17) Try.func87 #[.slice A0 l0.length c0, .slice A1 l1.length c1, .slice A2 l2.length c2, .slice A3 l3.length c3] ?_; (with_reducible refine (impl_areFired.calls k _ _ l0 _ _ l1 _ _ l2 _ _ l3 _ _ ?side1 HC0.out ?side3 HC1.out ?side5 HC2.out ?side7 HC3.out A5.out).mono ?_); (case side1 => exact vc HR0.out); (case side3 => exact vc HR1.out); (case side5 => exact vc HR2.out); (case side7 => exact vc HR3.out); rintro e w17 ⟨rfl, hb⟩; refine ⟨_, rfl, ?_⟩; replace HB := bs HB hb; (try clear hb); (try clear hb2); (try clear hk); (try clear hi)))
  go_ret2
  exact ⟨_, ew, by first | exact Kd.R_nil _ _ _ _ _ | exact Kd.N_nil _ _ _ _ _ | exact Kd.V_nil _ _ _ _ _ | exact Kd.Q_nil _ _ _ _ _ | exact Kd.S_nil _ _ _ _ _, vb HB.out⟩


end Go.Proofs.Ytjgbncpbenmjoaa.Pall
