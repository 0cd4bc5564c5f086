/- Go functions of the program, each as a Lean function, and the proof that each call comes to what the Lean function tells; no condition beyond those that stand there. -/
import Derived.Test.YtancnecddlbhkaaF00
import Derived.Test.YtancnecddlbhkaaF02
import Derived.Test.YtancnecddlbhkaaF03
import Derived.Test.YtancnecddlbhkaaF04
import Derived.Test.YtancnecddlbhkaaF06
import Derived.Test.YtancnecddlbhkaaSq
import Derived.Test.YtancnecddlbhkaaWApart
import Derived.Test.YtancnecddlbhkaaWGuard
import Derived.Test.YtancnecddlbhkaaWLast
import Derived.Test.YtancnecddlbhkaaWTab
import Derived.Test.YtancnecddlbhkaaSpare
import Derived.Test.YtancnecddlbhkaaCm
import Derived.Test.YtancnecddlbhkaaCm4
import Derived.Test.YtancnecddlbhkaaCm3
import Derived.Test.YtancnecddlbhkaaCm6
namespace Go.Proofs.Ytancnecddlbhkaa.Pall
open Go.RowKit Go.Proofs.YtancnecddlbhkaaW.PrintWords Go.Proofs.YtancnecddlbhkaaW.PrintLast
set_option linter.unusedVariables false
set_option linter.unusedSimpArgs false

/-! ### spec_l18Code: function 71 -/
def spec_l18Code.l0 : Nat → List Int → Int → List (S98) → List (S103) → List Int → List Int → List Int → Int → Option (Int)
 | 0, _, _, _, _, _, _, _, _ => none
 | k + 1, x1, x5, x637000, x637001, x637002, x637003, x637004, x637005 => if x5 < (x1.length : Int) then (if 0 ≤ x5 then ((spec_l01In.f (rd x1 x5) 0 (wrap64 ((x637003.length : Int) - 1))).bind fun t639 => (if t639 = true then (spec_l18Code.l0 k x1 (wrap64 (x5 + 1)) x637000 x637001 x637002 x637003 x637004 x637005) else (some 2))) else (none)) else (if (x1.length : Int) = (x637002.length : Int) then (some 0) else (some 2))
def spec_l18Code.f (k : Nat) (l0_0 : List (S98)) (l0_1 : List (S103)) (l0_2 : List Int) (l0_3 : List Int) (l0_4 : List Int) (a0_5 : Int) (l1 : List Int) : Option (Int) := (spec_IsField.f k l0_0 l0_1 l0_2 l0_3 l0_4 a0_5).bind fun t637 => (if t637 = true then (spec_l18Code.l0 k l1 0 l0_0 l0_1 l0_2 l0_3 l0_4 a0_5) else (some 1))
theorem spec_l18Code.mono_l : ∀ k, (∀ y0 y1 y2 y3 y4 y5 y6 y7, LeO (spec_l18Code.l0 k y0 y1 y2 y3 y4 y5 y6 y7) (spec_l18Code.l0 (k + 1) y0 y1 y2 y3 y4 y5 y6 y7))
 | 0 => fun _ _ _ _ _ _ _ _ r h => by simp [spec_l18Code.l0] at h
 | k + 1 => by
  have ih0 := spec_l18Code.mono_l k
  ·intro y0 y1 y2 y3 y4 y5 y6 y7; unfold spec_l18Code.l0
   repeat' (with_reducible first | exact ih0 .. | exact spec_IsField.mono .. | exact lm | refine LeO.ite ?_ ?_ | refine LeO.bind ?_ (fun _ => ?_))
theorem spec_l18Code.mono : ∀ a0 a1 a2 a3 a4 a5 a6 k, LeO (spec_l18Code.f k a0 a1 a2 a3 a4 a5 a6) (spec_l18Code.f (k + 1) a0 a1 a2 a3 a4 a5 a6) := by
 intro a0 a1 a2 a3 a4 a5 a6 k; have ih0 := spec_l18Code.mono_l k; unfold spec_l18Code.f
 repeat' (with_reducible first | exact ih0 .. | exact spec_IsField.mono .. | exact lm | refine LeO.ite ?_ ?_ | refine LeO.bind ?_ (fun _ => ?_))
set_option maxHeartbeats 8000000 in
set_option maxRecDepth 100000 in
theorem spec_l18Code.calls (k : Nat) (A0_0 : Option Addr) (c0_0 : Nat) (l0_0 : List (S98)) (A0_1 : Option Addr) (c0_1 : Nat) (l0_1 : List (S103)) (A0_2 : Option Addr) (c0_2 : Nat) (l0_2 : List Int) (A0_3 : Option Addr) (c0_3 : Nat) (l0_3 : List Int) (A0_4 : Option Addr) (c0_4 : Nat) (l0_4 : List Int) (a0_5 : Int) (A1 : Option Addr) (c1 : Nat) (l1 : List Int) (r : Int) (w : World) (hr0_0 : Kd.C k98 w A0_0 l0_0.length l0_0) (hc0_0 : l0_0.length ≤ c0_0) (hr0_1 : Kd.C k103 w A0_1 l0_1.length l0_1) (hc0_1 : l0_1.length ≤ c0_1) (hr0_2 : Kd.C (Kd.int .i64) w A0_2 l0_2.length l0_2) (hc0_2 : l0_2.length ≤ c0_2) (hr0_3 : Kd.C (Kd.int .i64) w A0_3 l0_3.length l0_3) (hc0_3 : l0_3.length ≤ c0_3) (hr0_4 : Kd.C (Kd.int .i64) w A0_4 l0_4.length l0_4) (hc0_4 : l0_4.length ≤ c0_4) (hr1 : Kd.C (Kd.int .i64) w A1 l1.length l1) (hc1 : l1.length ≤ c1) (h : spec_l18Code.f k l0_0 l0_1 l0_2 l0_3 l0_4 a0_5 l1 = some r) :
  Calls Try.prog 71 #[.agg (f5 A0_0 l0_0 c0_0 A0_1 l0_1 c0_1 A0_2 l0_2 c0_2 A0_3 l0_3 c0_3 A0_4 l0_4 c0_4 a0_5), .slice A1 l1.length c1] w fun e w' => e = .returned (.int .i64 r) ∧ Below w.heap.size w w' := by
 have hu33 := Try.underlying33; have HR0_0 := ak hr0_0; have HC0_0 := ak hc0_0; clear hr0_0 hc0_0; have HR0_1 := ak hr0_1; have HC0_1 := ak hc0_1; clear hr0_1 hc0_1; have HR0_2 := ak hr0_2; have HC0_2 := ak hc0_2; clear hr0_2 hc0_2; have HR0_3 := ak hr0_3; have HC0_3 := ak hc0_3; clear hr0_3 hc0_3; have HR0_4 := ak hr0_4; have HC0_4 := ak hc0_4; clear hr0_4 hc0_4; have HR1 := ak hr1; have HC1 := ak hc1; clear hr1 hc1; have HB := ak (Below.refl w.heap.size w); unfold spec_l18Code.f at h; have H := h; clear h; obtain ⟨t637, A3, H⟩ := bnk H; by_cases c4 : t637 = true
 ·subst c4; rw [if_pos rfl] at H; have H' := ak H; clear H; go_enter Try.func71, Try.ntmps71; go_wp2_with (first | ((with_reducible refine gate_dst (N := 2) rfl ?_); refine bx 2 (f5 A0_0 l0_0 c0_0 A0_1 l0_1 c0_1 A0_2 l0_2 c0_2 A0_3 l0_3 c0_3 A0_4 l0_4 c0_4 a0_5) 33 ?_; intro gb636 hg w5 hbox hb; have BK636 := ak hbox; have GW636 := gw hg HB; have GE636 := gw hg HB; replace HB := bs HB hb; clear hb hbox hg; have hcz6 := cz6 BK636.out) | (go_at_call 58; (with_reducible refine (spec_IsField.calls k _ _ l0_0 _ _ l0_1 _ _ l0_2 _ _ l0_3 _ _ l0_4 a0_5 _ _ ?_ HC0_0.out ?_ HC0_1.out ?_ HC0_2.out ?_ HC0_3.out ?_ HC0_4.out A3.out).mono ?_); exact vd HR0_0.out HB.out; exact vd HR0_1.out HB.out; exact vd HR0_2.out HB.out; exact vd HR0_3.out HB.out; exact vd HR0_4.out HB.out; rintro e w7 ⟨rfl, hb⟩; replace BK636 := kb BK636 hb; replace HB := bs HB hb; (try clear hb)))
  repeat (go_quiet (first | ((with_reducible refine gate_dst (N := 2) rfl ?_); refine bx 2 (f5 A0_0 l0_0 c0_0 A0_1 l0_1 c0_1 A0_2 l0_2 c0_2 A0_3 l0_3 c0_3 A0_4 l0_4 c0_4 a0_5) 33 ?_; intro gb636 hg w5 hbox hb; have BK636 := ak hbox; have GW636 := gw hg HB; have GE636 := gw hg HB; replace HB := bs HB hb; clear hb hbox hg; have hcz6 := cz6 BK636.out) | (go_at_call 58; (with_reducible refine (spec_IsField.calls k _ _ l0_0 _ _ l0_1 _ _ l0_2 _ _ l0_3 _ _ l0_4 a0_5 _ _ ?_ HC0_0.out ?_ HC0_1.out ?_ HC0_2.out ?_ HC0_3.out ?_ HC0_4.out A3.out).mono ?_); exact vd HR0_0.out HB.out; exact vd HR0_1.out HB.out; exact vd HR0_2.out HB.out; exact vd HR0_3.out HB.out; exact vd HR0_4.out HB.out; rintro e w7 ⟨rfl, hb⟩; replace BK636 := kb BK636 hb; replace HB := bs HB hb; (try clear hb))); try go_wp2_with (first | ((with_reducible refine gate_dst (N := 2) rfl ?_); refine bx 2 (f5 A0_0 l0_0 c0_0 A0_1 l0_1 c0_1 A0_2 l0_2 c0_2 A0_3 l0_3 c0_3 A0_4 l0_4 c0_4 a0_5) 33 ?_; intro gb636 hg w5 hbox hb; have BK636 := ak hbox; have GW636 := gw hg HB; have GE636 := gw hg HB; replace HB := bs HB hb; clear hb hbox hg; have hcz6 := cz6 BK636.out) | (go_at_call 58; (with_reducible refine (spec_IsField.calls k _ _ l0_0 _ _ l0_1 _ _ l0_2 _ _ l0_3 _ _ l0_4 a0_5 _ _ ?_ HC0_0.out ?_ HC0_1.out ?_ HC0_2.out ?_ HC0_3.out ?_ HC0_4.out A3.out).mono ?_); exact vd HR0_0.out HB.out; exact vd HR0_1.out HB.out; exact vd HR0_2.out HB.out; exact vd HR0_3.out HB.out; exact vd HR0_4.out HB.out; rintro e w7 ⟨rfl, hb⟩; replace BK636 := kb BK636 hb; replace HB := bs HB hb; (try clear hb))))
  go_loopg [5] k (fun kq v5 w' => ∃ (x5_1 : Int), v5 = .int .i64 x5_1 ∧ Aside0 (spec_l18Code.l0 kq l1 x5_1 l0_0 l0_1 l0_2 l0_3 l0_4 a0_5 = some r) ∧ Aside0 (kq ≤ k) ∧ Aside0 (w'.heap[gb636]? = some (.cells (f5 A0_0 l0_0 c0_0 A0_1 l0_1 c0_1 A0_2 l0_2 c0_2 A0_3 l0_3 c0_3 A0_4 l0_4 c0_4 a0_5) 33 (0, 0))) ∧ Aside0 (Below w.heap.size w w'))
  case atStart => exact ⟨(0), es, H', ⟨Nat.le_refl _⟩, ⟨vk BK636.out⟩, ⟨vb HB.out⟩⟩
  case round =>
   clear H'; obtain ⟨x5_1, rfl, HA, HK1, BK636, HB⟩ := hrel
   cases gk with
   | zero => exact absurd HA.out (by simp [spec_l18Code.l0])
   | succ k1 =>
    have H := HA.out; clear HA; simp only [spec_l18Code.l0] at H
    by_cases c8 : x5_1 < (l1.length : Int)
    ·rw [if_pos c8] at H; have c8b0 := decide_eq_true c8; clear c8; by_cases c9 : 0 ≤ x5_1
     ·rw [if_pos c9] at H; have c9b0 := decide_eq_true c9; clear c9; obtain ⟨t639, A10, H⟩ := bnk H; by_cases c11 : t639 = true
      ·subst c11; rw [if_pos rfl] at H; have H' := ak H; clear H; have p638 : 0 ≤ (x5_1 : Int) := od; have q638 : x5_1 < (l1.length : Int) := od; obtain ⟨ad638, e638, hx638_0⟩ := Kd.at_int HR1.out x5_1 p638 q638
       cases e638; replace hx638_0 := cb HB.out hx638_0; replace p638 := eq_true p638; replace q638 := eq_true q638; have hcz12 := cz6 BK636.out; go_wp2_with (first | (go_at_call 65; (with_reducible refine (spec_l01In.calls (rd l1 x5_1) 0 (wrap64 ((l0_3.length : Int) - 1)) _ _ A10.out).mono ?_); rintro e w' ⟨rfl, ⟨nd, rfl⟩⟩; (try first | exact ⟨rfl, _, World.drewN_drewN _ _ _⟩ | exact ⟨rfl, _, Eq.trans (World.drewN_drewN _ _ _) (congrArg (World.drewN _) (Nat.add_assoc _ _ _))⟩)))
       repeat (go_quiet (first | (go_at_call 65; (with_reducible refine (spec_l01In.calls (rd l1 x5_1) 0 (wrap64 ((l0_3.length : Int) - 1)) _ _ A10.out).mono ?_); rintro e w' ⟨rfl, ⟨nd, rfl⟩⟩; (try first | exact ⟨rfl, _, World.drewN_drewN _ _ _⟩ | exact ⟨rfl, _, Eq.trans (World.drewN_drewN _ _ _) (congrArg (World.drewN _) (Nat.add_assoc _ _ _))⟩))); try go_wp2_with (first | (go_at_call 65; (with_reducible refine (spec_l01In.calls (rd l1 x5_1) 0 (wrap64 ((l0_3.length : Int) - 1)) _ _ A10.out).mono ?_); rintro e w' ⟨rfl, ⟨nd, rfl⟩⟩; (try first | exact ⟨rfl, _, World.drewN_drewN _ _ _⟩ | exact ⟨rfl, _, Eq.trans (World.drewN_drewN _ _ _) (congrArg (World.drewN _) (Nat.add_assoc _ _ _))⟩))))
       go_roundg k1
       case measure => have := HK1.out; omega
       case rel => exact ⟨(wrap64 (x5_1 + 1)), es, H', ⟨by have := HK1.out; omega⟩, ⟨vk BK636.out⟩, ⟨vb HB.out⟩⟩
      ·replace c11 := Bool.eq_false_iff.mpr c11; subst c11; rw [if_neg nf] at H; obtain rfl := sj H; have p638 : 0 ≤ (x5_1 : Int) := od; have q638 : x5_1 < (l1.length : Int) := od; obtain ⟨ad638, e638, hx638_0⟩ := Kd.at_int HR1.out x5_1 p638 q638
       cases e638; replace hx638_0 := cb HB.out hx638_0; replace p638 := eq_true p638; replace q638 := eq_true q638; have hcz13 := cz6 BK636.out; go_wp2_with (first | (go_at_call 65; (with_reducible refine (spec_l01In.calls (rd l1 x5_1) 0 (wrap64 ((l0_3.length : Int) - 1)) _ _ A10.out).mono ?_); rintro e w' ⟨rfl, ⟨nd, rfl⟩⟩; (try first | exact ⟨rfl, _, World.drewN_drewN _ _ _⟩ | exact ⟨rfl, _, Eq.trans (World.drewN_drewN _ _ _) (congrArg (World.drewN _) (Nat.add_assoc _ _ _))⟩)))
       repeat (go_quiet (first | (go_at_call 65; (with_reducible refine (spec_l01In.calls (rd l1 x5_1) 0 (wrap64 ((l0_3.length : Int) - 1)) _ _ A10.out).mono ?_); rintro e w' ⟨rfl, ⟨nd, rfl⟩⟩; (try first | exact ⟨rfl, _, World.drewN_drewN _ _ _⟩ | exact ⟨rfl, _, Eq.trans (World.drewN_drewN _ _ _) (congrArg (World.drewN _) (Nat.add_assoc _ _ _))⟩))); try go_wp2_with (first | (go_at_call 65; (with_reducible refine (spec_l01In.calls (rd l1 x5_1) 0 (wrap64 ((l0_3.length : Int) - 1)) _ _ A10.out).mono ?_); rintro e w' ⟨rfl, ⟨nd, rfl⟩⟩; (try first | exact ⟨rfl, _, World.drewN_drewN _ _ _⟩ | exact ⟨rfl, _, Eq.trans (World.drewN_drewN _ _ _) (congrArg (World.drewN _) (Nat.add_assoc _ _ _))⟩))))
       go_ret
       exact ⟨ew, vb HB.out⟩
     ·exact nO_ c9 H
    ·rw [if_neg c8] at H; have c8b0 := decide_eq_false c8; clear c8; by_cases c14 : (l1.length : Int) = (l0_2.length : Int)
     ·rw [if_pos c14] at H; obtain ⟨c14b0, c14b1⟩ := bqt c14; have c14b2 : (l1.length == l0_2.length) = true := by first | simpa using c14 | (simp at c14 ⊢; omega)
      clear c14; obtain rfl := sj H; have hcz15 := cz6 BK636.out; go_wp2
      repeat (go_quiet (fail); try go_wp2)
      go_ret
      exact ⟨ew, vb HB.out⟩
     ·rw [if_neg c14] at H; obtain ⟨c14b0, c14b1⟩ := bqf c14; have c14b2 : (l1.length == l0_2.length) = false := by first | simpa using c14 | (simp at c14 ⊢; omega)
      obtain rfl := sj H; have hcz16 := cz6 BK636.out; go_wp2
      repeat (go_quiet (fail); try go_wp2)
      go_ret
      exact ⟨ew, vb HB.out⟩
 ·replace c4 := Bool.eq_false_iff.mpr c4; subst c4; rw [if_neg nf] at H; obtain rfl := sj H; go_enter Try.func71, Try.ntmps71; go_wp2_with (first | ((with_reducible refine gate_dst (N := 2) rfl ?_); refine bx 2 (f5 A0_0 l0_0 c0_0 A0_1 l0_1 c0_1 A0_2 l0_2 c0_2 A0_3 l0_3 c0_3 A0_4 l0_4 c0_4 a0_5) 33 ?_; intro gb636 hg w17 hbox hb; have BK636 := ak hbox; have GW636 := gw hg HB; have GE636 := gw hg HB; replace HB := bs HB hb; clear hb hbox hg; have hcz18 := cz6 BK636.out) | (go_at_call 58; (with_reducible refine (spec_IsField.calls k _ _ l0_0 _ _ l0_1 _ _ l0_2 _ _ l0_3 _ _ l0_4 a0_5 _ _ ?_ HC0_0.out ?_ HC0_1.out ?_ HC0_2.out ?_ HC0_3.out ?_ HC0_4.out A3.out).mono ?_); exact vd HR0_0.out HB.out; exact vd HR0_1.out HB.out; exact vd HR0_2.out HB.out; exact vd HR0_3.out HB.out; exact vd HR0_4.out HB.out; rintro e w19 ⟨rfl, hb⟩; replace BK636 := kb BK636 hb; replace HB := bs HB hb; (try clear hb)))
  repeat (go_quiet (first | ((with_reducible refine gate_dst (N := 2) rfl ?_); refine bx 2 (f5 A0_0 l0_0 c0_0 A0_1 l0_1 c0_1 A0_2 l0_2 c0_2 A0_3 l0_3 c0_3 A0_4 l0_4 c0_4 a0_5) 33 ?_; intro gb636 hg w17 hbox hb; have BK636 := ak hbox; have GW636 := gw hg HB; have GE636 := gw hg HB; replace HB := bs HB hb; clear hb hbox hg; have hcz18 := cz6 BK636.out) | (go_at_call 58; (with_reducible refine (spec_IsField.calls k _ _ l0_0 _ _ l0_1 _ _ l0_2 _ _ l0_3 _ _ l0_4 a0_5 _ _ ?_ HC0_0.out ?_ HC0_1.out ?_ HC0_2.out ?_ HC0_3.out ?_ HC0_4.out A3.out).mono ?_); exact vd HR0_0.out HB.out; exact vd HR0_1.out HB.out; exact vd HR0_2.out HB.out; exact vd HR0_3.out HB.out; exact vd HR0_4.out HB.out; rintro e w19 ⟨rfl, hb⟩; replace BK636 := kb BK636 hb; replace HB := bs HB hb; (try clear hb))); try go_wp2_with (first | ((with_reducible refine gate_dst (N := 2) rfl ?_); refine bx 2 (f5 A0_0 l0_0 c0_0 A0_1 l0_1 c0_1 A0_2 l0_2 c0_2 A0_3 l0_3 c0_3 A0_4 l0_4 c0_4 a0_5) 33 ?_; intro gb636 hg w17 hbox hb; have BK636 := ak hbox; have GW636 := gw hg HB; have GE636 := gw hg HB; replace HB := bs HB hb; clear hb hbox hg; have hcz18 := cz6 BK636.out) | (go_at_call 58; (with_reducible refine (spec_IsField.calls k _ _ l0_0 _ _ l0_1 _ _ l0_2 _ _ l0_3 _ _ l0_4 a0_5 _ _ ?_ HC0_0.out ?_ HC0_1.out ?_ HC0_2.out ?_ HC0_3.out ?_ HC0_4.out A3.out).mono ?_); exact vd HR0_0.out HB.out; exact vd HR0_1.out HB.out; exact vd HR0_2.out HB.out; exact vd HR0_3.out HB.out; exact vd HR0_4.out HB.out; rintro e w19 ⟨rfl, hb⟩; replace BK636 := kb BK636 hb; replace HB := bs HB hb; (try clear hb))))
  go_ret
  exact ⟨ew, vb HB.out⟩


/-! ### spec_l18Is: function 72 -/
mutual
def spec_l18Is.l0 : Nat → List Int → List (List Int) → Int → List (S98) → List (S103) → List Int → List Int → List Int → Int → Option (Bool)
 | 0, _, _, _, _, _, _, _, _, _ => none
 | k + 1, x1, x5, x6, x641000, x641001, x641002, x641003, x641004, x641005 => if x6 < (x1.length : Int) then (if 0 ≤ x6 then (if x6 < (x5.length : Int) then ((spec_l01Has.f k (rd_L5 x5 x6) (rd x1 x6)).bind fun t646 => (if t646 = true then (if x6 ≤ (x1.length : Int) then ((spec_l01Has.f k (x1.take (x6 : Int).toNat) (rd x1 x6)).bind fun t649 => (spec_l18Is.j1 k x1 x5 x6 t649 x641000 x641001 x641002 x641003 x641004 x641005)) else (none)) else (spec_l18Is.j1 k x1 x5 x6 true x641000 x641001 x641002 x641003 x641004 x641005))) else (none)) else (none)) else (some true)
def spec_l18Is.j1 : Nat → List Int → List (List Int) → Int → Bool → List (S98) → List (S103) → List Int → List Int → List Int → Int → Option (Bool)
 | 0, _, _, _, _, _, _, _, _, _, _ => none
 | k + 1, x1, x5, x6, x35, x641000, x641001, x641002, x641003, x641004, x641005 => if x35 = true then (some false) else (spec_l18Is.l1 k x1 x5 x6 0 x641000 x641001 x641002 x641003 x641004 x641005)
def spec_l18Is.l1 : Nat → List Int → List (List Int) → Int → Int → List (S98) → List (S103) → List Int → List Int → List Int → Int → Option (Bool)
 | 0, _, _, _, _, _, _, _, _, _, _ => none
 | k + 1, x1, x5, x6, x7, x641000, x641001, x641002, x641003, x641004, x641005 => if x7 < x6 then (if 0 ≤ x7 then (if x7 < (x1.length : Int) then (if 0 ≤ x6 then (if x6 < (x1.length : Int) then ((spec_l18Square.f x641000 x641001 x641002 x641003 x641004 x641005 (rd x1 x7) (rd x1 x6)).bind fun t652 => (if t652 < (wrap64 (x641005 * x641005)) then (some false) else (spec_l18Is.l1 k x1 x5 x6 (wrap64 (x7 + 1)) x641000 x641001 x641002 x641003 x641004 x641005))) else (none)) else (none)) else (none)) else (none)) else (spec_l18Is.l0 k x1 x5 (wrap64 (x6 + 1)) x641000 x641001 x641002 x641003 x641004 x641005)
end
def spec_l18Is.f (k : Nat) (l0_0 : List (S98)) (l0_1 : List (S103)) (l0_2 : List Int) (l0_3 : List Int) (l0_4 : List Int) (a0_5 : Int) (l1 : List Int) : Option (Bool) := (spec_l18Spots.f k l0_0 l0_1 l0_2 l0_3 l0_4 a0_5).bind fun t641 => (spec_l18Is.l0 k l1 t641 0 l0_0 l0_1 l0_2 l0_3 l0_4 a0_5)
theorem spec_l18Is.mono_l : ∀ k, (∀ y0 y1 y2 y3 y4 y5 y6 y7 y8, LeO (spec_l18Is.l0 k y0 y1 y2 y3 y4 y5 y6 y7 y8) (spec_l18Is.l0 (k + 1) y0 y1 y2 y3 y4 y5 y6 y7 y8)) ∧ (∀ y0 y1 y2 y3 y4 y5 y6 y7 y8 y9, LeO (spec_l18Is.j1 k y0 y1 y2 y3 y4 y5 y6 y7 y8 y9) (spec_l18Is.j1 (k + 1) y0 y1 y2 y3 y4 y5 y6 y7 y8 y9)) ∧ (∀ y0 y1 y2 y3 y4 y5 y6 y7 y8 y9, LeO (spec_l18Is.l1 k y0 y1 y2 y3 y4 y5 y6 y7 y8 y9) (spec_l18Is.l1 (k + 1) y0 y1 y2 y3 y4 y5 y6 y7 y8 y9))
 | 0 => ⟨fun _ _ _ _ _ _ _ _ _ r h => by simp [spec_l18Is.l0] at h, fun _ _ _ _ _ _ _ _ _ _ r h => by simp [spec_l18Is.j1] at h, fun _ _ _ _ _ _ _ _ _ _ r h => by simp [spec_l18Is.l1] at h⟩
 | k + 1 => by
  obtain ⟨ih0, ih1, ih2⟩ := spec_l18Is.mono_l k; refine ⟨?_, ?_, ?_⟩
  ·intro y0 y1 y2 y3 y4 y5 y6 y7 y8; unfold spec_l18Is.l0
   repeat' (with_reducible first | exact ih0 .. | exact ih1 .. | exact ih2 .. | exact spec_l01Has.mono .. | exact spec_l18Spots.mono .. | exact lm | refine LeO.ite ?_ ?_ | refine LeO.bind ?_ (fun _ => ?_))
  ·intro y0 y1 y2 y3 y4 y5 y6 y7 y8 y9; unfold spec_l18Is.j1
   repeat' (with_reducible first | exact ih0 .. | exact ih1 .. | exact ih2 .. | exact spec_l01Has.mono .. | exact spec_l18Spots.mono .. | exact lm | refine LeO.ite ?_ ?_ | refine LeO.bind ?_ (fun _ => ?_))
  ·intro y0 y1 y2 y3 y4 y5 y6 y7 y8 y9; unfold spec_l18Is.l1
   repeat' (with_reducible first | exact ih0 .. | exact ih1 .. | exact ih2 .. | exact spec_l01Has.mono .. | exact spec_l18Spots.mono .. | exact lm | refine LeO.ite ?_ ?_ | refine LeO.bind ?_ (fun _ => ?_))
theorem spec_l18Is.mono : ∀ a0 a1 a2 a3 a4 a5 a6 k, LeO (spec_l18Is.f k a0 a1 a2 a3 a4 a5 a6) (spec_l18Is.f (k + 1) a0 a1 a2 a3 a4 a5 a6) := by
 intro a0 a1 a2 a3 a4 a5 a6 k; obtain ⟨ih0, ih1, ih2⟩ := spec_l18Is.mono_l k; unfold spec_l18Is.f
 repeat' (with_reducible first | exact ih0 .. | exact ih1 .. | exact ih2 .. | exact spec_l01Has.mono .. | exact spec_l18Spots.mono .. | exact lm | refine LeO.ite ?_ ?_ | refine LeO.bind ?_ (fun _ => ?_))
def spec_l18Is.T5 : Bool × List (List Nat × List Nat) := (true, [([], []), ([], []), ([0, 1], [0, 1]), ([2], [2]), ([], []), ([], []), ([4, 5], [4, 5]), ([6], [6]), ([3, 7], [3, 7]), ([8], [8]), ([9, 8], [9]), ([10], [10]), ([10], [10]), ([11, 12, 10], [10, 11, 12]), ([10], [10]), ([10], [10]), ([14, 15, 10], [10, 14, 15]), ([16, 10], [10, 16]), ([13, 17, 10, 10], [10, 13, 17]), ([10, 18], [10, 18])])
def spec_l18Is.B5 : List Nat := [0, 0, 3, 7, 0, 0, 48, 112, 255, 511, 1023, 2047, 2047, 8191, 2047, 2047, 51199, 116735, 262143, 524287]
theorem spec_l18Is.tab5 : rtab .any (opsOf Try.f72 5) = spec_l18Is.T5 := by kernel_rfl
theorem spec_l18Is.bits5 : waitsOk spec_l18Is.T5.2 spec_l18Is.B5 = true := by kernel_rfl
def spec_l18Is.T10 : Bool × List (List Nat × List Nat) := (true, [([], []), ([], []), ([], []), ([1, 2], [1, 2]), ([3], [3]), ([], []), ([], []), ([5, 6], [5, 6]), ([7], [7]), ([0, 4, 8], [0, 4, 8]), ([], []), ([10], [10]), ([], []), ([12], [12]), ([11, 13], [11, 13]), ([9, 14], [9, 14])])
def spec_l18Is.B10 : List Nat := [0, 0, 0, 6, 14, 0, 0, 96, 224, 511, 0, 1024, 0, 4096, 15360, 32767]
theorem spec_l18Is.tab10 : rtab .any (opsOf Try.f72 10) = spec_l18Is.T10 := by kernel_rfl
theorem spec_l18Is.bits10 : waitsOk spec_l18Is.T10.2 spec_l18Is.B10 = true := by kernel_rfl
set_option maxHeartbeats 8000000 in
set_option maxRecDepth 100000 in
theorem spec_l18Is.calls (k : Nat) (A0_0 : Option Addr) (c0_0 : Nat) (l0_0 : List (S98)) (A0_1 : Option Addr) (c0_1 : Nat) (l0_1 : List (S103)) (A0_2 : Option Addr) (c0_2 : Nat) (l0_2 : List Int) (A0_3 : Option Addr) (c0_3 : Nat) (l0_3 : List Int) (A0_4 : Option Addr) (c0_4 : Nat) (l0_4 : List Int) (a0_5 : Int) (A1 : Option Addr) (c1 : Nat) (l1 : List Int) (r : Bool) (w : World) (hr0_0 : Kd.C k98 w A0_0 l0_0.length l0_0) (hc0_0 : l0_0.length ≤ c0_0) (hr0_1 : Kd.C k103 w A0_1 l0_1.length l0_1) (hc0_1 : l0_1.length ≤ c0_1) (hr0_2 : Kd.C (Kd.int .i64) w A0_2 l0_2.length l0_2) (hc0_2 : l0_2.length ≤ c0_2) (hr0_3 : Kd.C (Kd.int .i64) w A0_3 l0_3.length l0_3) (hc0_3 : l0_3.length ≤ c0_3) (hr0_4 : Kd.C (Kd.int .i64) w A0_4 l0_4.length l0_4) (hc0_4 : l0_4.length ≤ c0_4) (hr1 : Kd.C (Kd.int .i64) w A1 l1.length l1) (hc1 : l1.length ≤ c1) (h : spec_l18Is.f k l0_0 l0_1 l0_2 l0_3 l0_4 a0_5 l1 = some r) :
  Calls Try.prog 72 #[.agg (f5 A0_0 l0_0 c0_0 A0_1 l0_1 c0_1 A0_2 l0_2 c0_2 A0_3 l0_3 c0_3 A0_4 l0_4 c0_4 a0_5), .slice A1 l1.length c1] w fun e w' => e = .returned (.bool r) ∧ Below w.heap.size w w' := by
 have hu33 := Try.underlying33; have HR0_0 := ak hr0_0; have HC0_0 := ak hc0_0; clear hr0_0 hc0_0; have HR0_1 := ak hr0_1; have HC0_1 := ak hc0_1; clear hr0_1 hc0_1; have HR0_2 := ak hr0_2; have HC0_2 := ak hc0_2; clear hr0_2 hc0_2; have HR0_3 := ak hr0_3; have HC0_3 := ak hc0_3; clear hr0_3 hc0_3; have HR0_4 := ak hr0_4; have HC0_4 := ak hc0_4; clear hr0_4 hc0_4; have HR1 := ak hr1; have HC1 := ak hc1; clear hr1 hc1; have HB := ak (Below.refl w.heap.size w); unfold spec_l18Is.f at h; have H := h; clear h; obtain ⟨t641, A3, H⟩ := bnk H; have H' := ak H; clear H; go_enter Try.func72, Try.ntmps72; go_wp2_with (first | ((with_reducible refine gate_dst (N := 2) rfl ?_); refine bx 2 (f5 A0_0 l0_0 c0_0 A0_1 l0_1 c0_1 A0_2 l0_2 c0_2 A0_3 l0_3 c0_3 A0_4 l0_4 c0_4 a0_5) 33 ?_; intro gb640 hg w4 hbox hb; have BK640 := ak hbox; have GW640 := gw hg HB; have GE640 := gw hg HB; replace HB := bs HB hb; clear hb hbox hg; have hcz5 := cz6 BK640.out) | ((with_reducible refine at_fn (f := 66) rfl ?_); refine gl (some 9) Try.func66 #[.agg (f5 A0_0 l0_0 c0_0 A0_1 l0_1 c0_1 A0_2 l0_2 c0_2 A0_3 l0_3 c0_3 A0_4 l0_4 c0_4 a0_5)] ?_; (with_reducible refine (spec_l18Spots.calls k _ _ l0_0 _ _ l0_1 _ _ l0_2 _ _ l0_3 _ _ l0_4 a0_5 t641 _ ?_ HC0_0.out ?_ HC0_1.out ?_ HC0_2.out ?_ HC0_3.out ?_ HC0_4.out A3.out).mono ?_); exact vd HR0_0.out HB.out; exact vd HR0_1.out HB.out; exact vd HR0_2.out HB.out; exact vd HR0_3.out HB.out; exact vd HR0_4.out HB.out; rintro e w6 ⟨v642, rfl, ho0, hb⟩; refine ⟨_, rfl, ?_⟩; have HO643 := ak (Kd.S_lower ho0 (below_size (vb HB.out))); replace BK640 := kb BK640 hb; replace HB := bs HB hb; (try clear hb); (try clear ho0)))
 go_loopg [6] k (fun kq v6 w' => ∃ (x6_1 : Int), v6 = .int .i64 x6_1 ∧ Aside0 (spec_l18Is.l0 kq l1 t641 x6_1 l0_0 l0_1 l0_2 l0_3 l0_4 a0_5 = some r) ∧ Aside0 (kq ≤ k) ∧ Aside0 (Kd.S (Kd.slice 2 (Kd.int .i64)) 24 w' w.heap.size (fun _ => True) v642 t641) ∧ Aside0 (w'.heap[gb640]? = some (.cells (f5 A0_0 l0_0 c0_0 A0_1 l0_1 c0_1 A0_2 l0_2 c0_2 A0_3 l0_3 c0_3 A0_4 l0_4 c0_4 a0_5) 33 (0, 0))) ∧ Aside0 (Below w.heap.size w w'))
 case atStart => exact ⟨(0), es, H', ⟨Nat.le_refl _⟩, ⟨vS HO643.out⟩, ⟨vk BK640.out⟩, ⟨vb HB.out⟩⟩
 case round =>
  clear H'; obtain ⟨x6_1, rfl, HA, HK1, HO_5, BK640, HB⟩ := hrel
  cases gk with
  | zero => exact absurd HA.out (by simp [spec_l18Is.l0])
  | succ k1 =>
   have H := HA.out; clear HA; simp only [spec_l18Is.l0] at H
   by_cases c7 : x6_1 < (l1.length : Int)
   ·rw [if_pos c7] at H; have c7b0 := decide_eq_true c7; clear c7; have HC8 := ak H; clear H; go_upto_region 5 with (fail)
    go_cut [35] (fun v35 wc => ∃ (kq : Nat) (x35_7 : Bool), v35 = .bool x35_7 ∧ Aside0 (spec_l18Is.j1 kq l1 t641 x6_1 x35_7 l0_0 l0_1 l0_2 l0_3 l0_4 a0_5 = some r) ∧ Aside0 (kq ≤ k1) ∧ Aside0 (Kd.S (Kd.slice 2 (Kd.int .i64)) 24 wc w.heap.size (fun _ => True) v642 t641) ∧ Aside0 (wc.heap[gb640]? = some (.cells (f5 A0_0 l0_0 c0_0 A0_1 l0_1 c0_1 A0_2 l0_2 c0_2 A0_3 l0_3 c0_3 A0_4 l0_4 c0_4 a0_5) 33 (0, 0))) ∧ Aside0 (Below w.heap.size w wc))
    case first =>
     have H := HC8.out; clear HC8; by_cases c9 : 0 ≤ x6_1
     ·rw [if_pos c9] at H; have c9b0 := decide_eq_true c9; clear c9; (first | rw [c9b0] | (simp only [i64_w, i32_w]; rw [c9b0]) | skip)
      by_cases c10 : x6_1 < (t641.length : Int)
      ·rw [if_pos c10] at H; have c10b0 := decide_eq_true c10; clear c10; obtain ⟨t646, A11, H⟩ := bnk H; by_cases c12 : t646 = true
       ·subst c12; rw [if_pos rfl] at H; have c13b0 := eq_true (od : 0 ≤ x6_1); by_cases c14 : x6_1 ≤ (l1.length : Int)
        ·rw [if_pos c14] at H; have c14b0 := eq_true c14; have c14b1 : decide (x6_1 ≤ (l1.length : Int)) = true := decide_eq_true c14; clear c14; obtain ⟨t649, A15, H⟩ := bnk H; have H' := ak H; clear H; (try go_wp2)
         replace HO_5 := ak (Kd.S_drew HO_5.out); replace BK640 := ak (blk_drew BK640.out); replace HB := ak (below_drew1 HB.out); obtain ⟨Ao17, co17, eo17⟩ := Kd.S_slice HO_5.out; (first | subst eo17 | (injection eo17 with f1_ f2_ f3_; have f4_ := f1_.symm; have f5_ := f3_.symm; clear f1_ f2_ f3_; subst f4_; subst f5_))
         have p644 : 0 ≤ (x6_1 : Int) := od; have q644 : x6_1 < (t641.length : Int) := od; obtain ⟨ad644, A644_0, c644_0, e644, hx644_0, hl644_0, hi644_0⟩ := at_L5 (Kd.S_reads' HO_5.out).2.2 x6_1 p644 q644
         cases e644; obtain ⟨ce644, hce644, hMe644, hcc644⟩ := Kd.S_get HO_5.out [] x6_1 p644 (by first | exact q644 | exact od | (have e_ := (Kd.S_reads' HO_5.out).1; omega)); obtain ⟨ve644_0, rfl, ge644_0⟩ := hMe644; have hv644_0 := hcc644 0 _ rfl; rw [Nat.add_zero, show ((Kd.slice 2 (Kd.int .i64))).sz = 1 from rfl, Nat.mul_one] at hv644_0; replace hv644_0 := Option.some.inj (hv644_0.symm.trans hx644_0); rw [hv644_0] at ge644_0; have HL644_0 := ak (show Kd.R (Kd.int .i64) 2 _ _ _ _ (rd_L5 t641 x6_1) from ge644_0); clear hv644_0 ge644_0; clear hcc644 hce644; have HR644_0 := ak hi644_0; have HC644_0 := ak hl644_0; clear hi644_0 hl644_0; replace p644 := eq_true p644; replace q644 := eq_true q644; have p645 : 0 ≤ (x6_1 : Int) := od; have q645 : x6_1 < (l1.length : Int) := od; obtain ⟨ad645, e645, hx645_0⟩ := Kd.at_int HR1.out x6_1 p645 q645; have hw645_0 := hx645_0
         cases e645; replace hx645_0 := cb HB.out hx645_0; replace p645 := eq_true p645; replace q645 := eq_true q645; have p648 : 0 ≤ (x6_1 : Int) := od; have q648 : x6_1 < (l1.length : Int) := od; obtain ⟨ad648, e648, hx648_0⟩ := Kd.at_int HR1.out x6_1 p648 q648; have hw648_0 := hx648_0; obtain rfl : ad645 = ad648 := (by injection e648); replace hx648_0 := cb HB.out hx648_0; replace p648 := eq_true p648; replace q648 := eq_true q648; refine start_ (n := 20) (S := fun w' => w'.cell? (ad644.add (x6_1).toNat) = some (.slice A644_0 (rd_L5 t641 x6_1).length c644_0) ∧ w'.cell? (ad645.add (x6_1).toNat) = some (.int .i64 (rd l1 x6_1)) ∧ w'.cell? (ad645.add (x6_1).toNat) = some (.int .i64 (rd l1 x6_1))) (ds := []) (tf 0 20) (by kernel_rfl) rfl rfl ⟨hx644_0, (cb HB.out hw645_0 :), (cb HB.out hw648_0 :)⟩ (fun hHeld => ?_); refine with_tabW spec_l18Is.tab5 spec_l18Is.bits5 (fun HT_ HW_ => ?_); generalize wr.drew = w16 at HO_5 BK640 HB HL644_0 HR644_0 hx644_0 hx645_0 hx648_0 hHeld ⊢; refine pu_ 0 16 (tf 1 19) rfl rfl ?_; refine pu_ 1 17 (tf 2 18) rfl rfl ?_; refine pu_ 2 18 (tf 3 17) rfl rfl ?_; refine pu_ 4 20 (tM [3, 1, 1, 15]) rfl rfl ?_; refine pu_ 5 21 (tM [3, 1, 2, 14]) rfl rfl ?_
         refine pu_ 6 22 (tM [3, 1, 3, 13]) rfl rfl ?_; refine ta3_ 3 19 (tf 7 13) rfl rfl ?_; refine ta3_ 7 23 (tf 8 12) rfl rfl ?_; refine one_ (i := 8) (N := some 24) (tf 9 11) rfl rfl (one_of HT_.out (by kernel_rfl)) (by decide) (fun K hK => ?_); refine goes_ Try.func116 (by kernel_rfl) rfl #[.slice A644_0 (rd_L5 t641 x6_1).length c644_0, .int .i64 (rd l1 x6_1)] (by rfl) rfl rfl (by (try simp only [List.map_toArray, List.map_cons, List.map_nil]); first | done | rfl | (simp only [List.length_drop, List.length_take]; rfl)) ?_; with_reducible refine (spec_l01Has.calls k1 _ _ (rd_L5 t641 x6_1) (rd l1 x6_1) true _ ?side1 ?_ A11.out).mono ?_
         (case side1 => repeat (first | exact (by repeat (first | (with_reducible exact HR644_0.out) | (with_reducible refine Kd.C_alloc ?_ _) | (with_reducible refine Kd.C_drewN ?_ _) | (with_reducible refine Kd.C_drew ?_) | exact HR644_0.out)) | (with_reducible refine Kd.C_alloc ?_ _) | (with_reducible refine Kd.C_drewN ?_ _) | (with_reducible refine Kd.C_drew ?_)))
         exact HC644_0.out
         rintro e w' ⟨rfl, ⟨nd, rfl⟩⟩; refine ⟨_, rfl, ?_⟩; obtain ⟨i018, hi018, _, hsz18, _⟩ := info_parts info2; obtain ⟨hcut18, hA18, hC18⟩ := print_take_of (P := Try.prog) (Value.int .i64) 0 24 2 .i64 Try.underlying24 hi018 hsz18 (some ad645) c1 l1 x6_1 (od) (od) HC1.out; have HR647 := ak (Kd.C_of_reads (h1 := fun _ => rfl) (hA18 _ (Kd.reads_of_C HR1.out))); have HC647 := ak hC18; clear hA18 hC18 hi018 hsz18; refine hK.out _ _ ⟨hHeld.1, (cb HB.out hw645_0 :), (cb HB.out hw648_0 :)⟩ (fun hHeld => ?_); clear hK K; refine norm_ (a' := ?_) ?_ ?_
         rotate_left
         ·show Act.put _ (some 24) _ = _
          simp only [Act.put, List.setIfInBounds_toArray, List.set_cons_zero, List.set_cons_succ, i64_w, i32_w]
          rfl
         refine pu_ 9 25 (tf 10 10) rfl rfl ?_; refine pu_ 10 26 (tf 11 9) rfl rfl ?_; refine pu_ 11 27 (tf 12 8) rfl rfl ?_; refine pu_ 12 28 (tf 13 7) rfl rfl ?_; refine pu_ 13 29 (tf 14 6) rfl rfl ?_; refine pu_ 14 30 (tf 15 5) rfl rfl ?_; refine pu_ 15 31 (tf 16 4) rfl rfl ?_; refine pu_ 16 32 (tf 17 3) rfl rfl ?_; refine ta3_ 17 33 (tf 18 2) rfl rfl ?_; refine one_ (i := 18) (N := some 34) (tf 19 1) rfl rfl (one_of HT_.out (by kernel_rfl)) (by decide) (fun K hK => ?_); refine goes_ Try.func116 (by kernel_rfl) rfl #[.slice (some ad645) (l1.take (x6_1 : Int).toNat).length c1, .int .i64 (rd l1 x6_1)] (by rfl) rfl rfl (by (try simp only [List.map_toArray, List.map_cons, List.map_nil]); first | done | (rw [show (l1.take (x6_1 : Int).toNat).length = x6_1.toNat from (by rw [List.length_take]; have h_ : (x6_1 : Int) ≤ (l1.length : Int) := od; omega)] <;> rfl) | rfl | (simp only [List.length_drop, List.length_take]; rfl)) ?_; with_reducible refine (spec_l01Has.calls k1 _ _ (l1.take (x6_1 : Int).toNat) (rd l1 x6_1) t649 _ ?_ ?_ A15.out).mono ?_
         exact vd HR647.out (vb HB.out)
         exact HC647.out
         rintro e w' ⟨rfl, ⟨nd, rfl⟩⟩; refine ⟨_, rfl, ?_⟩; refine hK.out _ _ ⟨hHeld.1, (cb HB.out hw645_0 :), (cb HB.out hw648_0 :)⟩ (fun hHeld => ?_); clear hK K; refine norm_ (a' := ?_) ?_ ?_
         rotate_left
         ·show Act.put _ (some 34) _ = _
          simp only [Act.put, List.setIfInBounds_toArray, List.set_cons_zero, List.set_cons_succ, i64_w, i32_w]
          rfl
         refine pu_ 19 35 (tf 20 0) rfl rfl ?_; refine done_ (done_of HT_.out (by kernel_rfl)) ?_; (try go_wp2)
         go_meet
         case rel => exact ⟨_, (t649), es, H', ⟨by have := HK1.out; first | omega | exact Nat.le_refl _⟩, ⟨vS HO_5.out⟩, ⟨vk BK640.out⟩, ⟨vb HB.out⟩⟩
        ·exact nO_ c14 H
       ·replace c12 := Bool.eq_false_iff.mpr c12; subst c12; rw [if_neg nf] at H; have H' := ak H; clear H; (try go_wp2)
        replace HO_5 := ak (Kd.S_drew HO_5.out); replace BK640 := ak (blk_drew BK640.out); replace HB := ak (below_drew1 HB.out); obtain ⟨Ao20, co20, eo20⟩ := Kd.S_slice HO_5.out; (first | subst eo20 | (injection eo20 with f1_ f2_ f3_; have f4_ := f1_.symm; have f5_ := f3_.symm; clear f1_ f2_ f3_; subst f4_; subst f5_))
        have p644 : 0 ≤ (x6_1 : Int) := od; have q644 : x6_1 < (t641.length : Int) := od; obtain ⟨ad644, A644_0, c644_0, e644, hx644_0, hl644_0, hi644_0⟩ := at_L5 (Kd.S_reads' HO_5.out).2.2 x6_1 p644 q644
        cases e644; obtain ⟨ce644, hce644, hMe644, hcc644⟩ := Kd.S_get HO_5.out [] x6_1 p644 (by first | exact q644 | exact od | (have e_ := (Kd.S_reads' HO_5.out).1; omega)); obtain ⟨ve644_0, rfl, ge644_0⟩ := hMe644; have hv644_0 := hcc644 0 _ rfl; rw [Nat.add_zero, show ((Kd.slice 2 (Kd.int .i64))).sz = 1 from rfl, Nat.mul_one] at hv644_0; replace hv644_0 := Option.some.inj (hv644_0.symm.trans hx644_0); rw [hv644_0] at ge644_0; have HL644_0 := ak (show Kd.R (Kd.int .i64) 2 _ _ _ _ (rd_L5 t641 x6_1) from ge644_0); clear hv644_0 ge644_0; clear hcc644 hce644; have HR644_0 := ak hi644_0; have HC644_0 := ak hl644_0; clear hi644_0 hl644_0; replace p644 := eq_true p644; replace q644 := eq_true q644; have p645 : 0 ≤ (x6_1 : Int) := od; have q645 : x6_1 < (l1.length : Int) := od; obtain ⟨ad645, e645, hx645_0⟩ := Kd.at_int HR1.out x6_1 p645 q645; have hw645_0 := hx645_0
        cases e645; replace hx645_0 := cb HB.out hx645_0; replace p645 := eq_true p645; replace q645 := eq_true q645; refine start_ (n := 20) (S := fun w' => w'.cell? (ad644.add (x6_1).toNat) = some (.slice A644_0 (rd_L5 t641 x6_1).length c644_0) ∧ w'.cell? (ad645.add (x6_1).toNat) = some (.int .i64 (rd l1 x6_1))) (ds := []) (tf 0 20) (by kernel_rfl) rfl rfl ⟨hx644_0, (cb HB.out hw645_0 :)⟩ (fun hHeld => ?_); refine with_tabW spec_l18Is.tab5 spec_l18Is.bits5 (fun HT_ HW_ => ?_); generalize wr.drew = w19 at HO_5 BK640 HB HL644_0 HR644_0 hx644_0 hx645_0 hHeld ⊢; refine pu_ 0 16 (tf 1 19) rfl rfl ?_; refine pu_ 1 17 (tf 2 18) rfl rfl ?_; refine pu_ 2 18 (tf 3 17) rfl rfl ?_; refine pu_ 4 20 (tM [3, 1, 1, 15]) rfl rfl ?_; refine pu_ 5 21 (tM [3, 1, 2, 14]) rfl rfl ?_; refine pu_ 6 22 (tM [3, 1, 3, 13]) rfl rfl ?_; refine ta2_ 3 19 (tf 7 13) rfl rfl ?_; refine ta2_ 7 23 (tf 8 12) rfl rfl ?_; refine one_ (i := 8) (N := some 24) (tf 9 11) rfl rfl (one_of HT_.out (by kernel_rfl)) (by decide) (fun K hK => ?_); refine goes_ Try.func116 (by kernel_rfl) rfl #[.slice A644_0 (rd_L5 t641 x6_1).length c644_0, .int .i64 (rd l1 x6_1)] (by rfl) rfl rfl (by (try simp only [List.map_toArray, List.map_cons, List.map_nil]); first | done | rfl | (simp only [List.length_drop, List.length_take]; rfl)) ?_
        with_reducible refine (spec_l01Has.calls k1 _ _ (rd_L5 t641 x6_1) (rd l1 x6_1) false _ ?side1 ?_ A11.out).mono ?_
        (case side1 => repeat (first | exact (by repeat (first | (with_reducible exact HR644_0.out) | (with_reducible refine Kd.C_alloc ?_ _) | (with_reducible refine Kd.C_drewN ?_ _) | (with_reducible refine Kd.C_drew ?_) | exact HR644_0.out)) | (with_reducible refine Kd.C_alloc ?_ _) | (with_reducible refine Kd.C_drewN ?_ _) | (with_reducible refine Kd.C_drew ?_)))
        exact HC644_0.out
        rintro e w' ⟨rfl, ⟨nd, rfl⟩⟩; refine ⟨_, rfl, ?_⟩; refine hK.out _ _ ⟨hHeld.1, (cb HB.out hw645_0 :)⟩ (fun hHeld => ?_); clear hK K; refine norm_ (a' := ?_) ?_ ?_
        rotate_left
        ·show Act.put _ (some 24) _ = _
         simp only [Act.put, List.setIfInBounds_toArray, List.set_cons_zero, List.set_cons_succ, i64_w, i32_w]
         rfl
        refine pu_ 9 25 (tf 10 10) rfl rfl ?_; refine pu_ 10 26 (tf 11 9) rfl rfl ?_; refine un_ 11 27 (tf 12 8) rfl rfl ?_; refine un_ 12 28 (tf 13 7) rfl rfl ?_; refine un_ 13 29 (tf 14 6) rfl rfl ?_; refine un_ 14 30 (tf 15 5) rfl rfl ?_; refine un_ 15 31 (tf 16 4) rfl rfl ?_; refine un_ 16 32 (tf 17 3) rfl rfl ?_; refine un_ 17 33 (tf 18 2) rfl rfl ?_; refine un_ 18 34 (tf 19 1) rfl rfl ?_; refine pu_ 19 35 (tf 20 0) rfl rfl ?_; refine done_ (done_of HT_.out (by kernel_rfl)) ?_; (try go_wp2)
        go_meet
        case rel => exact ⟨_, (true), es, H', ⟨by have := HK1.out; first | omega | exact Nat.le_refl _⟩, ⟨vS HO_5.out⟩, ⟨vk BK640.out⟩, ⟨vb HB.out⟩⟩
      ·exact nO_ c10 H
     ·exact nO_ c9 H
    case rest =>
     clear HC8; obtain ⟨kq, x35_7, rfl, HA, HJ7, HO_5, BK640, HB⟩ := hcut
     cases kq with
     | zero => exact absurd HA.out (by simp [spec_l18Is.j1])
     | succ kj7 =>
      have H := HA.out; clear HA; simp only [spec_l18Is.j1] at H
      by_cases c21 : x35_7 = true
      ·subst c21; rw [if_pos rfl] at H; obtain rfl := sj H; go_wp2
       go_ret
       exact ⟨ew, vb HB.out⟩
      ·replace c21 := Bool.eq_false_iff.mpr c21; subst c21; rw [if_neg nf] at H; have H' := ak H; clear H; go_wp2
       go_loopg [7] kj7 (fun kq v7 w' => ∃ (x7_3 : Int), v7 = .int .i64 x7_3 ∧ Aside0 (spec_l18Is.l1 kq l1 t641 x6_1 x7_3 l0_0 l0_1 l0_2 l0_3 l0_4 a0_5 = some r) ∧ Aside0 (kq ≤ kj7) ∧ Aside0 (Kd.S (Kd.slice 2 (Kd.int .i64)) 24 w' w.heap.size (fun _ => True) v642 t641) ∧ Aside0 (w'.heap[gb640]? = some (.cells (f5 A0_0 l0_0 c0_0 A0_1 l0_1 c0_1 A0_2 l0_2 c0_2 A0_3 l0_3 c0_3 A0_4 l0_4 c0_4 a0_5) 33 (0, 0))) ∧ Aside0 (Below w.heap.size w w'))
       case atStart => exact ⟨(0), es, H', ⟨Nat.le_refl _⟩, ⟨vS HO_5.out⟩, ⟨vk BK640.out⟩, ⟨vb HB.out⟩⟩
       case round =>
        clear H'; obtain ⟨x7_3, rfl, HA, HK3, HO_5, BK640, HB⟩ := hrel
        cases gk with
        | zero => exact absurd HA.out (by simp [spec_l18Is.l1])
        | succ k3 =>
         have H := HA.out; clear HA; simp only [spec_l18Is.l1] at H
         by_cases c22 : x7_3 < x6_1
         ·rw [if_pos c22] at H; have c22b0 := decide_eq_true c22; clear c22; by_cases c23 : 0 ≤ x7_3
          ·rw [if_pos c23] at H; have c23b0 := decide_eq_true c23; clear c23; by_cases c24 : x7_3 < (l1.length : Int)
           ·rw [if_pos c24] at H; have c24b0 := decide_eq_true c24; clear c24; by_cases c25 : 0 ≤ x6_1
            ·rw [if_pos c25] at H; have c25b0 := decide_eq_true c25; clear c25; by_cases c26 : x6_1 < (l1.length : Int)
             ·rw [if_pos c26] at H; have c26b0 := decide_eq_true c26; clear c26; obtain ⟨t652, A27, H⟩ := bnk H; by_cases c28 : t652 < (wrap64 (a0_5 * a0_5))
              ·rw [if_pos c28] at H; have c28b0 := decide_eq_true c28; clear c28; obtain rfl := sj H; (try go_wp2)
               replace HO_5 := ak (Kd.S_drew HO_5.out); replace BK640 := ak (blk_drew BK640.out); replace HB := ak (below_drew1 HB.out); have p650 : 0 ≤ (x7_3 : Int) := od; have q650 : x7_3 < (l1.length : Int) := od; obtain ⟨ad650, e650, hx650_0⟩ := Kd.at_int HR1.out x7_3 p650 q650; have hw650_0 := hx650_0
               cases e650; replace hx650_0 := cb HB.out hx650_0; replace p650 := eq_true p650; replace q650 := eq_true q650; have p651 : 0 ≤ (x6_1 : Int) := od; have q651 : x6_1 < (l1.length : Int) := od; obtain ⟨ad651, e651, hx651_0⟩ := Kd.at_int HR1.out x6_1 p651 q651; have hw651_0 := hx651_0; obtain rfl : ad650 = ad651 := (by injection e651); replace hx651_0 := cb HB.out hx651_0; replace p651 := eq_true p651; replace q651 := eq_true q651; refine start_ (n := 16) (S := fun w' => w'.cell? ⟨gb640, 0, none⟩ = some (.slice A0_0 l0_0.length c0_0) ∧ w'.cell? ⟨gb640, 1, none⟩ = some (.slice A0_1 l0_1.length c0_1) ∧ w'.cell? ⟨gb640, 2, none⟩ = some (.slice A0_2 l0_2.length c0_2) ∧ w'.cell? ⟨gb640, 3, none⟩ = some (.slice A0_3 l0_3.length c0_3) ∧ w'.cell? ⟨gb640, 4, none⟩ = some (.slice A0_4 l0_4.length c0_4) ∧ w'.cell? ⟨gb640, 5, none⟩ = some (.int .i64 a0_5) ∧ w'.cell? (ad650.add (x7_3).toNat) = some (.int .i64 (rd l1 x7_3)) ∧ w'.cell? (ad650.add (x6_1).toNat) = some (.int .i64 (rd l1 x6_1))) (ds := []) (tf 0 16) (by kernel_rfl) rfl rfl ⟨bk BK640.out 0, bk BK640.out 1, bk BK640.out 2, bk BK640.out 3, bk BK640.out 4, bk BK640.out 5, (cb HB.out hw650_0 :), (cb HB.out hw651_0 :)⟩ (fun hHeld => ?_); refine with_tabW spec_l18Is.tab10 spec_l18Is.bits10 (fun HT_ HW_ => ?_); generalize wr.drew = w29 at HO_5 BK640 HB hx650_0 hx651_0 hHeld ⊢
               refine pu_ 1 42 (tM [0, 1, 1, 14]) rfl rfl ?_; refine pu_ 2 43 (tM [0, 1, 2, 13]) rfl rfl ?_; refine pu_ 3 44 (tM [0, 1, 3, 12]) rfl rfl ?_; refine pu_ 5 46 (tM [0, 1, 3, 1, 1, 10]) rfl rfl ?_; refine pu_ 6 47 (tM [0, 1, 3, 1, 2, 9]) rfl rfl ?_; refine pu_ 7 48 (tM [0, 1, 3, 1, 3, 8]) rfl rfl ?_; refine pu_ 10 51 (tM [0, 1, 3, 1, 3, 2, 1, 5]) rfl rfl ?_; refine pu_ 12 53 (tM [0, 1, 3, 1, 3, 2, 1, 1, 1, 3]) rfl rfl ?_; refine ta8_ 0 41 (tM [4, 1, 3, 2, 1, 1, 1, 3]) rfl rfl ?_; refine ta8_ 4 45 (tM [8, 2, 1, 1, 1, 3]) rfl rfl ?_; refine ta8_ 8 49 (tM [9, 1, 1, 1, 1, 3]) rfl rfl ?_
               refine ta8_ 11 52 (tM [9, 1, 3, 3]) rfl rfl ?_; refine ta8_ 13 54 (tM [9, 1, 4, 2]) rfl rfl ?_; refine pu_ 14 55 (tM [9, 1, 5, 1]) rfl rfl ?_; refine one_ (i := 9) (N := some 50) (tf 15 1) rfl rfl (one_of HT_.out (by kernel_rfl)) (by decide) (fun K hK => ?_); refine goes_ Try.func87 (by kernel_rfl) rfl #[.agg (f5 A0_0 l0_0 c0_0 A0_1 l0_1 c0_1 A0_2 l0_2 c0_2 A0_3 l0_3 c0_3 A0_4 l0_4 c0_4 a0_5), .int .i64 (rd l1 x7_3), .int .i64 (rd l1 x6_1)] (by rfl) rfl rfl (by (try simp only [List.map_toArray, List.map_cons, List.map_nil]); first | done | rfl | (simp only [List.length_drop, List.length_take]; rfl)) ?_; with_reducible refine (spec_l18Square.calls _ _ l0_0 _ _ l0_1 _ _ l0_2 _ _ l0_3 _ _ l0_4 a0_5 (rd l1 x7_3) (rd l1 x6_1) t652 _ ?_ ?_ ?_ ?_ ?_ ?_ ?_ ?_ ?_ ?_ A27.out).mono ?_
               exact vd HR0_0.out HB.out
               exact HC0_0.out
               exact vd HR0_1.out HB.out
               exact HC0_1.out
               exact vd HR0_2.out HB.out
               exact HC0_2.out
               exact vd HR0_3.out HB.out
               exact HC0_3.out
               exact vd HR0_4.out HB.out
               exact HC0_4.out
               rintro e w30 ⟨rfl, hb⟩; refine ⟨_, rfl, ?_⟩; replace HO_5 := ak (Kd.S_below (vS HO_5.out) hb); replace BK640 := kb BK640 hb; replace HB := bs HB hb; (try clear hb)
               (try clear hb2)
               (try clear hk)
               (try clear hi)
               refine hK.out _ _ ⟨bk BK640.out 0, bk BK640.out 1, bk BK640.out 2, bk BK640.out 3, bk BK640.out 4, bk BK640.out 5, (cb HB.out hw650_0 :), (cb HB.out hw651_0 :)⟩ (fun hHeld => ?_); clear hK K; refine norm_ (a' := ?_) ?_ ?_
               rotate_left
               ·show Act.put _ (some 50) _ = _
                simp only [Act.put, List.setIfInBounds_toArray, List.set_cons_zero, List.set_cons_succ, i64_w, i32_w]
                rfl
               refine pu_ 15 56 (tf 16 0) rfl rfl ?_; refine done_ (done_of HT_.out (by kernel_rfl)) ?_; (try go_wp2)
               go_ret
               exact ⟨ew, vb HB.out⟩
              ·rw [if_neg c28] at H; have c28b0 := decide_eq_false c28; clear c28; have H' := ak H; clear H; (try go_wp2)
               replace HO_5 := ak (Kd.S_drew HO_5.out); replace BK640 := ak (blk_drew BK640.out); replace HB := ak (below_drew1 HB.out); have p650 : 0 ≤ (x7_3 : Int) := od; have q650 : x7_3 < (l1.length : Int) := od; obtain ⟨ad650, e650, hx650_0⟩ := Kd.at_int HR1.out x7_3 p650 q650; have hw650_0 := hx650_0
               cases e650; replace hx650_0 := cb HB.out hx650_0; replace p650 := eq_true p650; replace q650 := eq_true q650; have p651 : 0 ≤ (x6_1 : Int) := od; have q651 : x6_1 < (l1.length : Int) := od; obtain ⟨ad651, e651, hx651_0⟩ := Kd.at_int HR1.out x6_1 p651 q651; have hw651_0 := hx651_0; obtain rfl : ad650 = ad651 := (by injection e651); replace hx651_0 := cb HB.out hx651_0; replace p651 := eq_true p651; replace q651 := eq_true q651; refine start_ (n := 16) (S := fun w' => w'.cell? ⟨gb640, 0, none⟩ = some (.slice A0_0 l0_0.length c0_0) ∧ w'.cell? ⟨gb640, 1, none⟩ = some (.slice A0_1 l0_1.length c0_1) ∧ w'.cell? ⟨gb640, 2, none⟩ = some (.slice A0_2 l0_2.length c0_2) ∧ w'.cell? ⟨gb640, 3, none⟩ = some (.slice A0_3 l0_3.length c0_3) ∧ w'.cell? ⟨gb640, 4, none⟩ = some (.slice A0_4 l0_4.length c0_4) ∧ w'.cell? ⟨gb640, 5, none⟩ = some (.int .i64 a0_5) ∧ w'.cell? (ad650.add (x7_3).toNat) = some (.int .i64 (rd l1 x7_3)) ∧ w'.cell? (ad650.add (x6_1).toNat) = some (.int .i64 (rd l1 x6_1))) (ds := []) (tf 0 16) (by kernel_rfl) rfl rfl ⟨bk BK640.out 0, bk BK640.out 1, bk BK640.out 2, bk BK640.out 3, bk BK640.out 4, bk BK640.out 5, (cb HB.out hw650_0 :), (cb HB.out hw651_0 :)⟩ (fun hHeld => ?_); refine with_tabW spec_l18Is.tab10 spec_l18Is.bits10 (fun HT_ HW_ => ?_); generalize wr.drew = w31 at HO_5 BK640 HB hx650_0 hx651_0 hHeld ⊢
               refine pu_ 1 42 (tM [0, 1, 1, 14]) rfl rfl ?_; refine pu_ 2 43 (tM [0, 1, 2, 13]) rfl rfl ?_; refine pu_ 3 44 (tM [0, 1, 3, 12]) rfl rfl ?_; refine pu_ 5 46 (tM [0, 1, 3, 1, 1, 10]) rfl rfl ?_; refine pu_ 6 47 (tM [0, 1, 3, 1, 2, 9]) rfl rfl ?_; refine pu_ 7 48 (tM [0, 1, 3, 1, 3, 8]) rfl rfl ?_; refine pu_ 10 51 (tM [0, 1, 3, 1, 3, 2, 1, 5]) rfl rfl ?_; refine pu_ 12 53 (tM [0, 1, 3, 1, 3, 2, 1, 1, 1, 3]) rfl rfl ?_; refine ta8_ 0 41 (tM [4, 1, 3, 2, 1, 1, 1, 3]) rfl rfl ?_; refine ta8_ 4 45 (tM [8, 2, 1, 1, 1, 3]) rfl rfl ?_; refine ta8_ 8 49 (tM [9, 1, 1, 1, 1, 3]) rfl rfl ?_
               refine ta8_ 11 52 (tM [9, 1, 3, 3]) rfl rfl ?_; refine ta8_ 13 54 (tM [9, 1, 4, 2]) rfl rfl ?_; refine pu_ 14 55 (tM [9, 1, 5, 1]) rfl rfl ?_; refine one_ (i := 9) (N := some 50) (tf 15 1) rfl rfl (one_of HT_.out (by kernel_rfl)) (by decide) (fun K hK => ?_); refine goes_ Try.func87 (by kernel_rfl) rfl #[.agg (f5 A0_0 l0_0 c0_0 A0_1 l0_1 c0_1 A0_2 l0_2 c0_2 A0_3 l0_3 c0_3 A0_4 l0_4 c0_4 a0_5), .int .i64 (rd l1 x7_3), .int .i64 (rd l1 x6_1)] (by rfl) rfl rfl (by (try simp only [List.map_toArray, List.map_cons, List.map_nil]); first | done | rfl | (simp only [List.length_drop, List.length_take]; rfl)) ?_; with_reducible refine (spec_l18Square.calls _ _ l0_0 _ _ l0_1 _ _ l0_2 _ _ l0_3 _ _ l0_4 a0_5 (rd l1 x7_3) (rd l1 x6_1) t652 _ ?_ ?_ ?_ ?_ ?_ ?_ ?_ ?_ ?_ ?_ A27.out).mono ?_
               exact vd HR0_0.out HB.out
               exact HC0_0.out
               exact vd HR0_1.out HB.out
               exact HC0_1.out
               exact vd HR0_2.out HB.out
               exact HC0_2.out
               exact vd HR0_3.out HB.out
               exact HC0_3.out
               exact vd HR0_4.out HB.out
               exact HC0_4.out
               rintro e w32 ⟨rfl, hb⟩; refine ⟨_, rfl, ?_⟩; replace HO_5 := ak (Kd.S_below (vS HO_5.out) hb); replace BK640 := kb BK640 hb; replace HB := bs HB hb; (try clear hb)
               (try clear hb2)
               (try clear hk)
               (try clear hi)
               refine hK.out _ _ ⟨bk BK640.out 0, bk BK640.out 1, bk BK640.out 2, bk BK640.out 3, bk BK640.out 4, bk BK640.out 5, (cb HB.out hw650_0 :), (cb HB.out hw651_0 :)⟩ (fun hHeld => ?_); clear hK K; refine norm_ (a' := ?_) ?_ ?_
               rotate_left
               ·show Act.put _ (some 50) _ = _
                simp only [Act.put, List.setIfInBounds_toArray, List.set_cons_zero, List.set_cons_succ, i64_w, i32_w]
                rfl
               refine pu_ 15 56 (tf 16 0) rfl rfl ?_; refine done_ (done_of HT_.out (by kernel_rfl)) ?_; (try go_wp2)
               go_roundg k3
               case measure => have := HK1.out; have := HJ7.out; have := HK3.out; omega
               case rel => exact ⟨(wrap64 (x7_3 + 1)), es, H', ⟨by have := HK1.out; have := HJ7.out; have := HK3.out; omega⟩, ⟨vS HO_5.out⟩, ⟨vk BK640.out⟩, ⟨vb HB.out⟩⟩
             ·exact nO_ c26 H
            ·exact nO_ c25 H
           ·exact nO_ c24 H
          ·exact nO_ c23 H
         ·rw [if_neg c22] at H; have c22b0 := decide_eq_false c22; clear c22; have H' := ak H; clear H; go_wp2
          go_roundg k3
          case measure => have := HK1.out; have := HJ7.out; have := HK3.out; omega
          case rel => exact ⟨(wrap64 (x6_1 + 1)), es, H', ⟨by have := HK1.out; have := HJ7.out; have := HK3.out; omega⟩, ⟨vS HO_5.out⟩, ⟨vk BK640.out⟩, ⟨vb HB.out⟩⟩
   ·rw [if_neg c7] at H; have c7b0 := decide_eq_false c7; clear c7; obtain rfl := sj H; go_wp2
    go_ret
    exact ⟨ew, vb HB.out⟩


/-! ### impl_areSpots: function 74 -/
def impl_areSpots.f (k : Nat) (l0_0 : List (S98)) (l0_1 : List (S103)) (l0_2 : List Int) (l0_3 : List Int) (l0_4 : List Int) (a0_5 : Int) (l1 : List Int) : Option (Bool) := if (l1.length : Int) = (l0_2.length : Int) then ((impl_allWithin.f k l1 0 (wrap64 ((l0_3.length : Int) - 1))).bind fun t657 => (some t657)) else (some false)
theorem impl_areSpots.mono : ∀ a0 a1 a2 a3 a4 a5 a6 k, LeO (impl_areSpots.f k a0 a1 a2 a3 a4 a5 a6) (impl_areSpots.f (k + 1) a0 a1 a2 a3 a4 a5 a6) := by
 intro a0 a1 a2 a3 a4 a5 a6 k; unfold impl_areSpots.f
 repeat' (with_reducible first | exact impl_allWithin.mono .. | exact lm | refine LeO.ite ?_ ?_ | refine LeO.bind ?_ (fun _ => ?_))
set_option maxHeartbeats 8000000 in
set_option maxRecDepth 100000 in
theorem impl_areSpots.calls (k : Nat) (A0_0 : Option Addr) (c0_0 : Nat) (l0_0 : List (S98)) (A0_1 : Option Addr) (c0_1 : Nat) (l0_1 : List (S103)) (A0_2 : Option Addr) (c0_2 : Nat) (l0_2 : List Int) (A0_3 : Option Addr) (c0_3 : Nat) (l0_3 : List Int) (A0_4 : Option Addr) (c0_4 : Nat) (l0_4 : List Int) (a0_5 : Int) (A1 : Option Addr) (c1 : Nat) (l1 : List Int) (r : Bool) (w : World) (hr0_0 : Kd.C k98 w A0_0 l0_0.length l0_0) (hc0_0 : l0_0.length ≤ c0_0) (hr0_1 : Kd.C k103 w A0_1 l0_1.length l0_1) (hc0_1 : l0_1.length ≤ c0_1) (hr0_2 : Kd.C (Kd.int .i64) w A0_2 l0_2.length l0_2) (hc0_2 : l0_2.length ≤ c0_2) (hr0_3 : Kd.C (Kd.int .i64) w A0_3 l0_3.length l0_3) (hc0_3 : l0_3.length ≤ c0_3) (hr0_4 : Kd.C (Kd.int .i64) w A0_4 l0_4.length l0_4) (hc0_4 : l0_4.length ≤ c0_4) (hr1 : Kd.C (Kd.int .i64) w A1 l1.length l1) (hc1 : l1.length ≤ c1) (h : impl_areSpots.f k l0_0 l0_1 l0_2 l0_3 l0_4 a0_5 l1 = some r) :
  Calls Try.prog 74 #[.agg (f5 A0_0 l0_0 c0_0 A0_1 l0_1 c0_1 A0_2 l0_2 c0_2 A0_3 l0_3 c0_3 A0_4 l0_4 c0_4 a0_5), .slice A1 l1.length c1] w fun e w' => e = .returned (.bool r) ∧ Below w.heap.size w w' := by
 have hu33 := Try.underlying33; have HR0_0 := ak hr0_0; have HC0_0 := ak hc0_0; clear hr0_0 hc0_0; have HR0_1 := ak hr0_1; have HC0_1 := ak hc0_1; clear hr0_1 hc0_1; have HR0_2 := ak hr0_2; have HC0_2 := ak hc0_2; clear hr0_2 hc0_2; have HR0_3 := ak hr0_3; have HC0_3 := ak hc0_3; clear hr0_3 hc0_3; have HR0_4 := ak hr0_4; have HC0_4 := ak hc0_4; clear hr0_4 hc0_4; have HR1 := ak hr1; have HC1 := ak hc1; clear hr1 hc1; have HB := ak (Below.refl w.heap.size w); unfold impl_areSpots.f at h; have H := h; clear h; by_cases c3 : (l1.length : Int) = (l0_2.length : Int)
 rw [if_pos c3] at H; obtain ⟨c3b0, c3b1⟩ := bqt c3; have c3b2 : (l1.length == l0_2.length) = true := by first | simpa using c3 | (simp at c3 ⊢; omega)
 clear c3; obtain ⟨t657, A4, H⟩ := bnk H; obtain rfl := sj H; rotate_left
 rw [if_neg c3] at H; obtain ⟨c3b0, c3b1⟩ := bqf c3; have c3b2 : (l1.length == l0_2.length) = false := by first | simpa using c3 | (simp at c3 ⊢; omega)
 obtain rfl := sj H; rotate_left
 all_goals
  go_enter Try.func74, Try.ntmps74; go_wp2_with (first | ((with_reducible refine gate_dst (N := 2) rfl ?_); (try (refine gate_guard (by rfl) ?_; dsimp only)); refine bx 2 (f5 A0_0 l0_0 c0_0 A0_1 l0_1 c0_1 A0_2 l0_2 c0_2 A0_3 l0_3 c0_3 A0_4 l0_4 c0_4 a0_5) 33 ?_; intro gb656 hg w9 hbox hb; have BK656 := ak hbox; have GW656 := gw hg HB; have GE656 := gw hg HB; replace HB := bs HB hb; clear hb hbox hg; have hcz9 := cz6 BK656.out) | (go_at_call 84; (with_reducible refine (impl_allWithin.calls k _ _ l1 0 (wrap64 ((l0_3.length : Int) - 1)) t657 _ ?_ HC1.out A4.out).mono ?_); exact vd HR1.out HB.out; rintro e w' ⟨rfl, ⟨nd, rfl⟩⟩))
  go_ret
  exact ⟨ew, vb HB.out⟩


/-! ### impl_isPlacing: function 75 -/
def impl_isPlacing.l0 : Nat → List Int → List Int → Int → Int → List (S98) → List (S103) → List Int → List Int → List Int → Int → Option (Bool)
 | 0, _, _, _, _, _, _, _, _, _, _ => none
 | k + 1, x1, x7, x8, x9, x659000, x659001, x659002, x659003, x659004, x659005 => if x9 < x8 then (if 0 ≤ x9 then (if x9 < (x7.length : Int) then (if x9 ≤ (x1.length : Int) then ((impl_isFree.f k x659000 x659001 x659002 x659003 x659004 x659005 (x1.take (x9 : Int).toNat) x9 (rd x7 x9)).bind fun t661 => (if t661 = true then (impl_isPlacing.l0 k x1 x7 x8 (wrap64 (x9 + 1)) x659000 x659001 x659002 x659003 x659004 x659005) else (some false))) else (none)) else (none)) else (none)) else (some true)
def impl_isPlacing.f (k : Nat) (l0_0 : List (S98)) (l0_1 : List (S103)) (l0_2 : List Int) (l0_3 : List Int) (l0_4 : List Int) (a0_5 : Int) (l1 : List Int) : Option (Bool) := impl_isPlacing.l0 k l1 l1 (l1.length : Int) 0 l0_0 l0_1 l0_2 l0_3 l0_4 a0_5
theorem impl_isPlacing.mono_l : ∀ k, (∀ y0 y1 y2 y3 y4 y5 y6 y7 y8 y9, LeO (impl_isPlacing.l0 k y0 y1 y2 y3 y4 y5 y6 y7 y8 y9) (impl_isPlacing.l0 (k + 1) y0 y1 y2 y3 y4 y5 y6 y7 y8 y9))
 | 0 => fun _ _ _ _ _ _ _ _ _ _ r h => by simp [impl_isPlacing.l0] at h
 | k + 1 => by
  have ih0 := impl_isPlacing.mono_l k
  ·intro y0 y1 y2 y3 y4 y5 y6 y7 y8 y9; unfold impl_isPlacing.l0
   repeat' (with_reducible first | exact ih0 .. | exact impl_isFree.mono .. | exact lm | refine LeO.ite ?_ ?_ | refine LeO.bind ?_ (fun _ => ?_))
theorem impl_isPlacing.mono : ∀ a0 a1 a2 a3 a4 a5 a6 k, LeO (impl_isPlacing.f k a0 a1 a2 a3 a4 a5 a6) (impl_isPlacing.f (k + 1) a0 a1 a2 a3 a4 a5 a6) := by
 intro a0 a1 a2 a3 a4 a5 a6 k; have ih0 := impl_isPlacing.mono_l k; unfold impl_isPlacing.f
 repeat' (with_reducible first | exact ih0 .. | exact impl_isFree.mono .. | exact lm | refine LeO.ite ?_ ?_ | refine LeO.bind ?_ (fun _ => ?_))
def impl_isPlacing.T4 : Bool × List (List Nat × List Nat) := (true, [([], []), ([], []), ([], []), ([1, 2], [1, 2]), ([], []), ([], []), ([0, 3, 4, 5], [0, 3, 4, 5]), ([6], [6])])
def impl_isPlacing.B4 : List Nat := [0, 0, 0, 6, 0, 0, 63, 127]
theorem impl_isPlacing.tab4 : rtab .any (opsOf Try.f75 4) = impl_isPlacing.T4 := by kernel_rfl
theorem impl_isPlacing.bits4 : waitsOk impl_isPlacing.T4.2 impl_isPlacing.B4 = true := by kernel_rfl
set_option maxHeartbeats 8000000 in
set_option maxRecDepth 100000 in
theorem impl_isPlacing.calls (k : Nat) (A0_0 : Option Addr) (c0_0 : Nat) (l0_0 : List (S98)) (A0_1 : Option Addr) (c0_1 : Nat) (l0_1 : List (S103)) (A0_2 : Option Addr) (c0_2 : Nat) (l0_2 : List Int) (A0_3 : Option Addr) (c0_3 : Nat) (l0_3 : List Int) (A0_4 : Option Addr) (c0_4 : Nat) (l0_4 : List Int) (a0_5 : Int) (A1 : Option Addr) (c1 : Nat) (l1 : List Int) (r : Bool) (w : World) (hr0_0 : Kd.C k98 w A0_0 l0_0.length l0_0) (hc0_0 : l0_0.length ≤ c0_0) (hr0_1 : Kd.C k103 w A0_1 l0_1.length l0_1) (hc0_1 : l0_1.length ≤ c0_1) (hr0_2 : Kd.C (Kd.int .i64) w A0_2 l0_2.length l0_2) (hc0_2 : l0_2.length ≤ c0_2) (hr0_3 : Kd.C (Kd.int .i64) w A0_3 l0_3.length l0_3) (hc0_3 : l0_3.length ≤ c0_3) (hr0_4 : Kd.C (Kd.int .i64) w A0_4 l0_4.length l0_4) (hc0_4 : l0_4.length ≤ c0_4) (hr1 : Kd.C (Kd.int .i64) w A1 l1.length l1) (hc1 : l1.length ≤ c1) (h : impl_isPlacing.f k l0_0 l0_1 l0_2 l0_3 l0_4 a0_5 l1 = some r) :
  Calls Try.prog 75 #[.agg (f5 A0_0 l0_0 c0_0 A0_1 l0_1 c0_1 A0_2 l0_2 c0_2 A0_3 l0_3 c0_3 A0_4 l0_4 c0_4 a0_5), .slice A1 l1.length c1] w fun e w' => e = .returned (.bool r) ∧ Below w.heap.size w w' := by
 have hu33 := Try.underlying33; have HR0_0 := ak hr0_0; have HC0_0 := ak hc0_0; clear hr0_0 hc0_0; have HR0_1 := ak hr0_1; have HC0_1 := ak hc0_1; clear hr0_1 hc0_1; have HR0_2 := ak hr0_2; have HC0_2 := ak hc0_2; clear hr0_2 hc0_2; have HR0_3 := ak hr0_3; have HC0_3 := ak hc0_3; clear hr0_3 hc0_3; have HR0_4 := ak hr0_4; have HC0_4 := ak hc0_4; clear hr0_4 hc0_4; have HR1 := ak hr1; have HC1 := ak hc1; clear hr1 hc1; have HB := ak (Below.refl w.heap.size w); unfold impl_isPlacing.f at h; have H := h; clear h; have H' := ak H; clear H; go_enter Try.func75, Try.ntmps75; go_wp2_with (first | ((with_reducible refine gate_dst (N := 2) rfl ?_); refine bx 2 (f5 A0_0 l0_0 c0_0 A0_1 l0_1 c0_1 A0_2 l0_2 c0_2 A0_3 l0_3 c0_3 A0_4 l0_4 c0_4 a0_5) 33 ?_; intro gb658 hg w3 hbox hb; have BK658 := ak hbox; have GW658 := gw hg HB; have GE658 := gw hg HB; replace HB := bs HB hb; clear hb hbox hg))
 go_loopg [9] k (fun kq v9 w' => ∃ (x9_1 : Int), v9 = .int .i64 x9_1 ∧ Aside0 (impl_isPlacing.l0 kq l1 l1 (l1.length : Int) x9_1 l0_0 l0_1 l0_2 l0_3 l0_4 a0_5 = some r) ∧ Aside0 (kq ≤ k) ∧ Aside0 (w'.heap[gb658]? = some (.cells (f5 A0_0 l0_0 c0_0 A0_1 l0_1 c0_1 A0_2 l0_2 c0_2 A0_3 l0_3 c0_3 A0_4 l0_4 c0_4 a0_5) 33 (0, 0))) ∧ Aside0 (Below w.heap.size w w'))
 case atStart => exact ⟨(0), es, H', ⟨Nat.le_refl _⟩, ⟨vk BK658.out⟩, ⟨vb HB.out⟩⟩
 case round =>
  clear H'; obtain ⟨x9_1, rfl, HA, HK1, BK658, HB⟩ := hrel
  cases gk with
  | zero => exact absurd HA.out (by simp [impl_isPlacing.l0])
  | succ k1 =>
   have H := HA.out; clear HA; simp only [impl_isPlacing.l0] at H
   by_cases c4 : x9_1 < (l1.length : Int)
   ·rw [if_pos c4] at H; have c4b0 := decide_eq_true c4; clear c4; by_cases c5 : 0 ≤ x9_1
    ·rw [if_pos c5] at H; have c5b0 := decide_eq_true c5; clear c5; by_cases c6 : x9_1 < (l1.length : Int)
     ·rw [if_pos c6] at H; have c6b0 := decide_eq_true c6; clear c6; have c7b0 := eq_true (od : 0 ≤ x9_1); by_cases c8 : x9_1 ≤ (l1.length : Int)
      ·rw [if_pos c8] at H; have c8b0 := eq_true c8; have c8b1 : decide (x9_1 ≤ (l1.length : Int)) = true := decide_eq_true c8; clear c8; obtain ⟨t661, A9, H⟩ := bnk H; by_cases c10 : t661 = true
       ·subst c10; rw [if_pos rfl] at H; have H' := ak H; clear H; have p659 : 0 ≤ (x9_1 : Int) := od; have q659 : x9_1 < (l1.length : Int) := od; obtain ⟨ad659, e659, hx659_0⟩ := Kd.at_int HR1.out x9_1 p659 q659
        cases e659; replace hx659_0 := cb HB.out hx659_0; replace p659 := eq_true p659; replace q659 := eq_true q659; (try go_wp2)
        replace BK658 := ak (blk_drew BK658.out); replace HB := ak (below_drew1 HB.out); obtain ⟨i012, hi012, _, hsz12, _⟩ := info_parts info2; obtain ⟨hcut12, hA12, hC12⟩ := print_take_of (P := Try.prog) (Value.int .i64) 0 24 2 .i64 Try.underlying24 hi012 hsz12 (some ad659) c1 l1 x9_1 (od) (od) HC1.out; have HR660 := ak (Kd.C_of_reads (h1 := fun _ => rfl) (hA12 _ (Kd.reads_of_C HR1.out))); have HC660 := ak hC12; clear hA12 hC12 hi012 hsz12; refine start_ (n := 8) (S := fun w' => w'.cell? ⟨gb658, 0, none⟩ = some (.slice A0_0 l0_0.length c0_0) ∧ w'.cell? ⟨gb658, 1, none⟩ = some (.slice A0_1 l0_1.length c0_1) ∧ w'.cell? ⟨gb658, 2, none⟩ = some (.slice A0_2 l0_2.length c0_2) ∧ w'.cell? ⟨gb658, 3, none⟩ = some (.slice A0_3 l0_3.length c0_3) ∧ w'.cell? ⟨gb658, 4, none⟩ = some (.slice A0_4 l0_4.length c0_4) ∧ w'.cell? ⟨gb658, 5, none⟩ = some (.int .i64 a0_5)) (ds := []) (tf 0 8) (by kernel_rfl) rfl rfl (cy6 BK658.out) (fun hHeld => ?_); refine with_tabW impl_isPlacing.tab4 impl_isPlacing.bits4 (fun HT_ HW_ => ?_); generalize wr.drew = w11 at BK658 HB HR660 hHeld ⊢; refine pu_ 1 15 (tM [0, 1, 1, 6]) rfl rfl ?_; refine pu_ 2 16 (tM [0, 1, 2, 5]) rfl rfl ?_; refine pu_ 3 17 (tM [0, 1, 3, 4]) rfl rfl ?_; refine pu_ 4 18 (tM [0, 1, 4, 3]) rfl rfl ?_; refine pu_ 5 19 (tM [0, 1, 5, 2]) rfl rfl ?_
        refine ta6_ 0 14 (tf 6 2) rfl rfl ?_; refine one_ (i := 6) (N := some 20) (tf 7 1) rfl rfl (one_of HT_.out (by kernel_rfl)) (by decide) (fun K hK => ?_); refine goes_ Try.func113 (by kernel_rfl) rfl #[.agg (f5 A0_0 l0_0 c0_0 A0_1 l0_1 c0_1 A0_2 l0_2 c0_2 A0_3 l0_3 c0_3 A0_4 l0_4 c0_4 a0_5), .slice (some ad659) (l1.take (x9_1 : Int).toNat).length c1, .int .i64 x9_1, .int .i64 (rd l1 x9_1)] (by rfl) rfl rfl (by (try simp only [List.map_toArray, List.map_cons, List.map_nil]); first | done | (rw [show (l1.take (x9_1 : Int).toNat).length = x9_1.toNat from (by rw [List.length_take]; have h_ : (x9_1 : Int) ≤ (l1.length : Int) := od; omega)] <;> rfl) | rfl | (simp only [List.length_drop, List.length_take]; rfl)) ?_; with_reducible refine (impl_isFree.calls k1 _ _ l0_0 _ _ l0_1 _ _ l0_2 _ _ l0_3 _ _ l0_4 a0_5 _ _ (l1.take (x9_1 : Int).toNat) x9_1 (rd l1 x9_1) true _ ?_ ?_ ?_ ?_ ?_ ?_ ?_ ?_ ?_ ?_ ?_ ?_ A9.out).mono ?_
        exact vd HR0_0.out HB.out
        exact HC0_0.out
        exact vd HR0_1.out HB.out
        exact HC0_1.out
        exact vd HR0_2.out HB.out
        exact HC0_2.out
        exact vd HR0_3.out HB.out
        exact HC0_3.out
        exact vd HR0_4.out HB.out
        exact HC0_4.out
        exact vd HR660.out HB.out
        exact HC660.out
        rintro e w13 ⟨rfl, hb⟩; refine ⟨_, rfl, ?_⟩; replace BK658 := kb BK658 hb; replace HB := bs HB hb; (try clear hb)
        (try clear hb2)
        (try clear hk)
        (try clear hi)
        refine hK.out _ _ (cy6 BK658.out) (fun hHeld => ?_); clear hK K; refine norm_ (a' := ?_) ?_ ?_
        rotate_left
        ·show Act.put _ (some 20) _ = _
         simp only [Act.put, List.setIfInBounds_toArray, List.set_cons_zero, List.set_cons_succ, i64_w, i32_w]
         rfl
        refine pu_ 7 21 (tf 8 0) rfl rfl ?_; refine done_ (done_of HT_.out (by kernel_rfl)) ?_; (try go_wp2)
        go_roundg k1
        case measure => have := HK1.out; omega
        case rel => exact ⟨(wrap64 (x9_1 + 1)), es, H', ⟨by have := HK1.out; omega⟩, ⟨vk BK658.out⟩, ⟨vb HB.out⟩⟩
       ·replace c10 := Bool.eq_false_iff.mpr c10; subst c10; rw [if_neg nf] at H; obtain rfl := sj H; have p659 : 0 ≤ (x9_1 : Int) := od; have q659 : x9_1 < (l1.length : Int) := od; obtain ⟨ad659, e659, hx659_0⟩ := Kd.at_int HR1.out x9_1 p659 q659
        cases e659; replace hx659_0 := cb HB.out hx659_0; replace p659 := eq_true p659; replace q659 := eq_true q659; (try go_wp2)
        replace BK658 := ak (blk_drew BK658.out); replace HB := ak (below_drew1 HB.out); obtain ⟨i015, hi015, _, hsz15, _⟩ := info_parts info2; obtain ⟨hcut15, hA15, hC15⟩ := print_take_of (P := Try.prog) (Value.int .i64) 0 24 2 .i64 Try.underlying24 hi015 hsz15 (some ad659) c1 l1 x9_1 (od) (od) HC1.out; have HR660 := ak (Kd.C_of_reads (h1 := fun _ => rfl) (hA15 _ (Kd.reads_of_C HR1.out))); have HC660 := ak hC15; clear hA15 hC15 hi015 hsz15; refine start_ (n := 8) (S := fun w' => w'.cell? ⟨gb658, 0, none⟩ = some (.slice A0_0 l0_0.length c0_0) ∧ w'.cell? ⟨gb658, 1, none⟩ = some (.slice A0_1 l0_1.length c0_1) ∧ w'.cell? ⟨gb658, 2, none⟩ = some (.slice A0_2 l0_2.length c0_2) ∧ w'.cell? ⟨gb658, 3, none⟩ = some (.slice A0_3 l0_3.length c0_3) ∧ w'.cell? ⟨gb658, 4, none⟩ = some (.slice A0_4 l0_4.length c0_4) ∧ w'.cell? ⟨gb658, 5, none⟩ = some (.int .i64 a0_5)) (ds := []) (tf 0 8) (by kernel_rfl) rfl rfl (cy6 BK658.out) (fun hHeld => ?_); refine with_tabW impl_isPlacing.tab4 impl_isPlacing.bits4 (fun HT_ HW_ => ?_); generalize wr.drew = w14 at BK658 HB HR660 hHeld ⊢; refine pu_ 1 15 (tM [0, 1, 1, 6]) rfl rfl ?_; refine pu_ 2 16 (tM [0, 1, 2, 5]) rfl rfl ?_; refine pu_ 3 17 (tM [0, 1, 3, 4]) rfl rfl ?_; refine pu_ 4 18 (tM [0, 1, 4, 3]) rfl rfl ?_; refine pu_ 5 19 (tM [0, 1, 5, 2]) rfl rfl ?_
        refine ta6_ 0 14 (tf 6 2) rfl rfl ?_; refine one_ (i := 6) (N := some 20) (tf 7 1) rfl rfl (one_of HT_.out (by kernel_rfl)) (by decide) (fun K hK => ?_); refine goes_ Try.func113 (by kernel_rfl) rfl #[.agg (f5 A0_0 l0_0 c0_0 A0_1 l0_1 c0_1 A0_2 l0_2 c0_2 A0_3 l0_3 c0_3 A0_4 l0_4 c0_4 a0_5), .slice (some ad659) (l1.take (x9_1 : Int).toNat).length c1, .int .i64 x9_1, .int .i64 (rd l1 x9_1)] (by rfl) rfl rfl (by (try simp only [List.map_toArray, List.map_cons, List.map_nil]); first | done | (rw [show (l1.take (x9_1 : Int).toNat).length = x9_1.toNat from (by rw [List.length_take]; have h_ : (x9_1 : Int) ≤ (l1.length : Int) := od; omega)] <;> rfl) | rfl | (simp only [List.length_drop, List.length_take]; rfl)) ?_; with_reducible refine (impl_isFree.calls k1 _ _ l0_0 _ _ l0_1 _ _ l0_2 _ _ l0_3 _ _ l0_4 a0_5 _ _ (l1.take (x9_1 : Int).toNat) x9_1 (rd l1 x9_1) false _ ?_ ?_ ?_ ?_ ?_ ?_ ?_ ?_ ?_ ?_ ?_ ?_ A9.out).mono ?_
        exact vd HR0_0.out HB.out
        exact HC0_0.out
        exact vd HR0_1.out HB.out
        exact HC0_1.out
        exact vd HR0_2.out HB.out
        exact HC0_2.out
        exact vd HR0_3.out HB.out
        exact HC0_3.out
        exact vd HR0_4.out HB.out
        exact HC0_4.out
        exact vd HR660.out HB.out
        exact HC660.out
        rintro e w16 ⟨rfl, hb⟩; refine ⟨_, rfl, ?_⟩; replace BK658 := kb BK658 hb; replace HB := bs HB hb; (try clear hb)
        (try clear hb2)
        (try clear hk)
        (try clear hi)
        refine hK.out _ _ (cy6 BK658.out) (fun hHeld => ?_); clear hK K; refine norm_ (a' := ?_) ?_ ?_
        rotate_left
        ·show Act.put _ (some 20) _ = _
         simp only [Act.put, List.setIfInBounds_toArray, List.set_cons_zero, List.set_cons_succ, i64_w, i32_w]
         rfl
        refine pu_ 7 21 (tf 8 0) rfl rfl ?_; refine done_ (done_of HT_.out (by kernel_rfl)) ?_; (try go_wp2)
        go_ret
        exact ⟨ew, vb HB.out⟩
      ·exact nO_ c8 H
     ·exact nO_ c6 H
    ·exact nO_ c5 H
   ·rw [if_neg c4] at H; have c4b0 := decide_eq_false c4; clear c4; obtain rfl := sj H; go_wp2
    go_ret
    exact ⟨ew, vb HB.out⟩


end Go.Proofs.Ytancnecddlbhkaa.Pall
