/- Go functions of the program, each as a Lean function, and the proof that each call comes to what the Lean function tells; no condition beyond those that stand there. -/
import Derived.Test.YtiblahniohjbbaaF00
import Derived.Test.YtiblahniohjbbaaF08
import Derived.Test.YtiblahniohjbbaaF10
import Derived.Test.YtiblahniohjbbaaSpare
import Derived.Test.YtiblahniohjbbaaCm
import Derived.Test.YtiblahniohjbbaaCm3
namespace Go.Proofs.Ytiblahniohjbbaa.Pall
open Go.RowKit Go.Proofs.YtiblahniohjbbaaW.PrintWords
set_option linter.unusedVariables false
set_option linter.unusedSimpArgs false

/-! ### spec_IsClosure: function 13 -/
def spec_IsClosure.f (k : Nat) (l0_0 : List (S91)) (l0_1 : List (S69)) (l0_2 : List Int) (l0_3 : List Int) (l0_4 : List Int) (a0_5 : Int) (l1 : List Int) : Option (Bool × Int) := (spec_l19Code.f k l0_0 l0_1 l0_2 l0_3 l0_4 a0_5 l1).bind fun t651 => (if t651 = 0 then ((spec_l19Is.f k l0_0 l0_1 l0_2 l0_3 l0_4 a0_5 l1).bind fun t652 => (some (t652, 0))) else (some (false, t651)))
theorem spec_IsClosure.mono : ∀ a0 a1 a2 a3 a4 a5 a6 k, LeO (spec_IsClosure.f k a0 a1 a2 a3 a4 a5 a6) (spec_IsClosure.f (k + 1) a0 a1 a2 a3 a4 a5 a6) := by
 intro a0 a1 a2 a3 a4 a5 a6 k; unfold spec_IsClosure.f
 repeat' first | (with_reducible first | exact spec_l19Code.mono _ _ _ _ _ _ _ _ | exact spec_l19Is.mono _ _ _ _ _ _ _ _ | exact LeO.refl _ | exact LeO.none _ | refine LeO.ite ?_ ?_ | refine LeO.bind ?_ (fun _ => ?_)) | exact spec_l19Code.mono _ _ _ _ _ _ _ _ | exact spec_l19Is.mono _ _ _ _ _ _ _ _ | exact LeO.none _ | refine LeO.ite ?_ ?_ | refine LeO.bind ?_ (fun _ => ?_)
set_option maxHeartbeats 8000000 in
set_option maxRecDepth 100000 in
theorem spec_IsClosure.calls (k : Nat) (A0_0 : Option Addr) (c0_0 : Nat) (l0_0 : List (S91)) (A0_1 : Option Addr) (c0_1 : Nat) (l0_1 : List (S69)) (A0_2 : Option Addr) (c0_2 : Nat) (l0_2 : List Int) (A0_3 : Option Addr) (c0_3 : Nat) (l0_3 : List Int) (A0_4 : Option Addr) (c0_4 : Nat) (l0_4 : List Int) (a0_5 : Int) (A1 : Option Addr) (c1 : Nat) (l1 : List Int) (r1 : Bool) (r2 : Int) (w : World) (hr0_0 : Kd.C k91 w A0_0 l0_0.length l0_0) (hc0_0 : l0_0.length ≤ c0_0) (hr0_1 : Kd.C k69 w A0_1 l0_1.length l0_1) (hc0_1 : l0_1.length ≤ c0_1) (hr0_2 : Kd.C (Kd.int .i64) w A0_2 l0_2.length l0_2) (hc0_2 : l0_2.length ≤ c0_2) (hr0_3 : Kd.C (Kd.int .i64) w A0_3 l0_3.length l0_3) (hc0_3 : l0_3.length ≤ c0_3) (hr0_4 : Kd.C (Kd.int .i64) w A0_4 l0_4.length l0_4) (hc0_4 : l0_4.length ≤ c0_4) (hr1 : Kd.C (Kd.int .i64) w A1 l1.length l1) (hc1 : l1.length ≤ c1) (h : spec_IsClosure.f k l0_0 l0_1 l0_2 l0_3 l0_4 a0_5 l1 = some (r1, r2)) :
  Calls Try.prog 13 #[.agg #[.slice A0_0 l0_0.length c0_0, .slice A0_1 l0_1.length c0_1, .slice A0_2 l0_2.length c0_2, .slice A0_3 l0_3.length c0_3, .slice A0_4 l0_4.length c0_4, .int .i64 a0_5], .slice A1 l1.length c1] w fun e w' => e = .returned (.tuple #[.bool r1, .int .i64 r2]) ∧ Below w.heap.size w w' := by
 have hu28 := Try.underlying28; have HR0_0 := ak hr0_0; have HC0_0 := ak hc0_0; clear hr0_0 hc0_0; have HR0_1 := ak hr0_1; have HC0_1 := ak hc0_1; clear hr0_1 hc0_1; have HR0_2 := ak hr0_2; have HC0_2 := ak hc0_2; clear hr0_2 hc0_2; have HR0_3 := ak hr0_3; have HC0_3 := ak hc0_3; clear hr0_3 hc0_3; have HR0_4 := ak hr0_4; have HC0_4 := ak hc0_4; clear hr0_4 hc0_4; have HR1 := ak hr1; have HC1 := ak hc1; clear hr1 hc1; have HB := ak (Below.refl w.heap.size w); unfold spec_IsClosure.f at h; have H := h; clear h; obtain ⟨t651, A3, H⟩ := bnk H; by_cases c4 : t651 = 0
 rw [if_pos c4] at H; obtain ⟨c4b0, c4b1⟩ := bqt c4; clear c4; obtain ⟨t652, A5, H⟩ := bnk H; simp only [Option.some.injEq, Prod.mk.injEq] at H
 obtain ⟨rfl, rfl⟩ := H; rotate_left
 rw [if_neg c4] at H; obtain ⟨c4b0, c4b1⟩ := bqf c4; simp only [Option.some.injEq, Prod.mk.injEq] at H
 obtain ⟨rfl, rfl⟩ := H; rotate_left
 all_goals
  go_enter Try.func13, Try.ntmps13; go_wp2_with (first | ((with_reducible refine gate_dst (N := 2) rfl ?_); refine bx 2 #[.slice A0_0 l0_0.length c0_0, .slice A0_1 l0_1.length c0_1, .slice A0_2 l0_2.length c0_2, .slice A0_3 l0_3.length c0_3, .slice A0_4 l0_4.length c0_4, .int .i64 a0_5] 28 ?_; intro gb650 hg w9 hbox hb; have BK650 := ak hbox; have GW650 := gw hg HB; have GE650 := gw hg HB; replace HB := bs HB hb; clear hb hbox hg; have hcz9 := cz6 BK650.out) | ((with_reducible refine at_fn (f := 47) rfl ?_); refine gl (some 9) Try.func47 #[.agg #[.slice A0_0 l0_0.length c0_0, .slice A0_1 l0_1.length c0_1, .slice A0_2 l0_2.length c0_2, .slice A0_3 l0_3.length c0_3, .slice A0_4 l0_4.length c0_4, .int .i64 a0_5], .slice A1 l1.length c1] ?_; (with_reducible refine (spec_l19Code.calls k _ _ l0_0 _ _ l0_1 _ _ l0_2 _ _ l0_3 _ _ l0_4 a0_5 _ _ l1 t651 _ ?side1 HC0_0.out ?side3 HC0_1.out ?side5 HC0_2.out ?side7 HC0_3.out ?side9 HC0_4.out ?side11 HC1.out A3.out).mono ?_); (case side1 => exact vd HR0_0.out HB.out); (case side3 => exact vd HR0_1.out HB.out); (case side5 => exact vd HR0_2.out HB.out); (case side7 => exact vd HR0_3.out HB.out); (case side9 => exact vd HR0_4.out HB.out); (case side11 => exact vd HR1.out HB.out); rintro e w9 ⟨rfl, hb⟩; refine ⟨_, rfl, ?_⟩; replace BK650 := kb BK650 hb; replace HB := bs HB hb; (try clear hb); (try clear hb2); (try clear hk); (try clear hi); have hcz9 := cz6 BK650.out) | ((with_reducible refine at_fn (f := 48) rfl ?_); refine gl (some 15) Try.func48 #[.agg #[.slice A0_0 l0_0.length c0_0, .slice A0_1 l0_1.length c0_1, .slice A0_2 l0_2.length c0_2, .slice A0_3 l0_3.length c0_3, .slice A0_4 l0_4.length c0_4, .int .i64 a0_5], .slice A1 l1.length c1] ?_; (with_reducible refine (spec_l19Is.calls k _ _ l0_0 _ _ l0_1 _ _ l0_2 _ _ l0_3 _ _ l0_4 a0_5 _ _ l1 t652 _ ?side1 HC0_0.out ?side3 HC0_1.out ?side5 HC0_2.out ?side7 HC0_3.out ?side9 HC0_4.out ?side11 HC1.out A5.out).mono ?_); (case side1 => exact vd HR0_0.out HB.out); (case side3 => exact vd HR0_1.out HB.out); (case side5 => exact vd HR0_2.out HB.out); (case side7 => exact vd HR0_3.out HB.out); (case side9 => exact vd HR0_4.out HB.out); (case side11 => exact vd HR1.out HB.out); rintro e w9 ⟨rfl, hb⟩; refine ⟨_, rfl, ?_⟩; replace BK650 := kb BK650 hb; replace HB := bs HB hb; (try clear hb); (try clear hb2); (try clear hk); (try clear hi)))
  go_ret2
  exact ⟨ew, vb HB.out⟩


end Go.Proofs.Ytiblahniohjbbaa.Pall
