/- Go functions of the program, each as a Lean function, and the proof that each call comes to what the Lean function tells; no condition beyond those that stand there. -/
import Derived.Test.YtjgbncpbenmjoaaF00
import Derived.Test.YtjgbncpbenmjoaaF08
import Derived.Test.YtjgbncpbenmjoaaF10
import Derived.Test.YtjgbncpbenmjoaaSpare
import Derived.Test.YtjgbncpbenmjoaaCm
import Derived.Test.YtjgbncpbenmjoaaCm3
namespace Go.Proofs.Ytjgbncpbenmjoaa.Pall
open Go.RowKit Go.Proofs.YtjgbncpbenmjoaaW.PrintWords
set_option linter.unusedVariables false
set_option linter.unusedSimpArgs false

/-! ### spec_ControllerAt: function 27 -/
def spec_ControllerAt.f (k : Nat) (l0 : List (S33)) (a1 : Int) : Option (Bool × Bool × Bool × Bool × Bool × Int × Int) := (spec_l22Code.f k l0 a1).bind fun t444 => (if t444 = 0 then ((spec_l22At.f k l0 a1).bind fun bt445 => (some (bt445.1, bt445.2.1, bt445.2.2.1, bt445.2.2.2.1, bt445.2.2.2.2.1, bt445.2.2.2.2.2.1, 0))) else (some (false, false, false, false, false, 0, t444)))
theorem spec_ControllerAt.mono : ∀ a0 a1 k, LeO (spec_ControllerAt.f k a0 a1) (spec_ControllerAt.f (k + 1) a0 a1) := by
 intro a0 a1 k; unfold spec_ControllerAt.f
 repeat' first | (with_reducible first | exact spec_l22At.mono _ _ _ | exact spec_l22Code.mono _ _ _ | exact LeO.refl _ | exact LeO.none _ | refine LeO.ite ?_ ?_ | refine LeO.bind ?_ (fun _ => ?_)) | exact spec_l22At.mono _ _ _ | exact spec_l22Code.mono _ _ _ | exact LeO.none _ | refine LeO.ite ?_ ?_ | refine LeO.bind ?_ (fun _ => ?_)
set_option maxHeartbeats 8000000 in
set_option maxRecDepth 100000 in
theorem spec_ControllerAt.calls (k : Nat) (A0 : Option Addr) (c0 : Nat) (l0 : List (S33)) (a1 : Int) (r1 : Bool) (r2 : Bool) (r3 : Bool) (r4 : Bool) (r5 : Bool) (r6 : Int) (r7 : Int) (w : World) (hr0 : Kd.C k33 w A0 l0.length l0) (hc0 : l0.length ≤ c0) (h : spec_ControllerAt.f k l0 a1 = some (r1, r2, r3, r4, r5, r6, r7)) :
  Calls Try.prog 27 #[.slice A0 l0.length c0, .int .i64 a1] w fun e w' => e = .returned (.tuple #[.agg #[.bool r1, .bool r2, .bool r3, .bool r4, .bool r5, .int .i64 r6], .int .i64 r7]) ∧ Below w.heap.size w w' := by
 have hu41 := Try.underlying41; have HR0 := ak hr0; have HC0 := ak hc0; clear hr0 hc0; have HB := ak (Below.refl w.heap.size w); unfold spec_ControllerAt.f at h; have H := h; clear h; obtain ⟨t444, A3, H⟩ := bnk H; by_cases c4 : t444 = 0
 ·rw [if_pos c4] at H; obtain ⟨c4b0, c4b1⟩ := bqt c4; clear c4; obtain ⟨⟨t445, t446, t447, t448, t449, t450, t451⟩, A50, H⟩ := bnd H; replace H : (some (t445, t446, t447, t448, t449, t450, 0)) = some (r1, r2, r3, r4, r5, r6, r7) := H; have A5 := ak A50; clear A50; simp only [Option.some.injEq, Prod.mk.injEq] at H
  obtain ⟨rfl, rfl, rfl, rfl, rfl, rfl, rfl⟩ := H; go_enter Try.func27, Try.ntmps27; go_wp2_with (first | ((with_reducible refine gate_dst (N := 4) rfl ?_); refine bx 4 #[.bool false, .bool false, .bool false, .bool false, .bool false, .int .i64 0] 41 ?_; intro gb443 hg w6 hbox hb; have BK443 := ak hbox; have GW443 := gw hg HB; have GE443 := gw hg HB; replace HB := bs HB hb; clear hb hbox hg) | ((with_reducible refine at_fn (f := 71) rfl ?_); refine gl (some 11) Try.func71 #[.slice A0 l0.length c0, .int .i64 a1] ?_; (with_reducible refine (spec_l22Code.calls k _ _ l0 a1 t444 _ ?side1 HC0.out A3.out).mono ?_); (case side1 => exact vd HR0.out HB.out); rintro e w7 ⟨rfl, hb⟩; refine ⟨_, rfl, ?_⟩; replace BK443 := kb BK443 hb; replace HB := bs HB hb; (try clear hb); (try clear hb2); (try clear hk); (try clear hi)) | ((with_reducible refine at_fn (f := 72) rfl ?_); refine gl (some 19) Try.func72 #[.slice A0 l0.length c0, .int .i64 a1] ?_; (with_reducible refine (spec_l22At.calls k _ _ l0 a1 t445 t446 t447 t448 t449 t450 t451 _ ?side1 HC0.out A5.out).mono ?_); (case side1 => exact vd HR0.out HB.out); rintro e w8 ⟨v452, rfl, ho0, hb⟩; refine ⟨_, rfl, ?_⟩; have HO453 := ak (Kd.R_lower ho0 (below_size (vb HB.out))); replace BK443 := kb BK443 hb; replace HB := bs HB hb; (try clear hb); (try clear hb2); (try clear hk); (try clear hi); (try clear ho0)) | ((with_reducible refine gate_dst (N := 7) rfl ?_); refine bx 7 #[.bool false, .bool false, .bool false, .bool false, .bool false, .int .i64 0] 41 ?_; intro gb454 hg w9 hbox hb; replace HO453 := ak (Kd.R_below (vr HO453.out) hb); have BK454 := ak hbox; have GW454 := gw hg HB; have GE454 := gw hg HB; replace HB := bs HB hb; have NB443_454 := ak ((by rw [hg]; exact Nat.ne_of_lt (blk_lt (vk BK443.out)) : gb443 ≠ gb454)); have NB454_443 := ak ((by rw [hg]; exact Nat.ne_of_gt (blk_lt (vk BK443.out)) : gb454 ≠ gb443)); replace BK443 := kb BK443 hb; clear hb hbox hg; have hnb10 := NB454_443.out; have hnc10 := NB443_454.out; have hcz11 := cz6 BK454.out; have hcz12 := cz6 BK443.out))
  refine bodyPost_ret (results_ct rfl _ _ gb443 41 #[.bool t445, .bool t446, .bool t447, .bool t448, .bool t449, .int .i64 t450] (0, 0) _ rfl (vz BK443.out) Try.underlying41 rfl (by kernel_rfl)) rfl ?_; exact ⟨ew, vb HB.out⟩
 ·rw [if_neg c4] at H; obtain ⟨c4b0, c4b1⟩ := bqf c4; simp only [Option.some.injEq, Prod.mk.injEq] at H
  obtain ⟨rfl, rfl, rfl, rfl, rfl, rfl, rfl⟩ := H; go_enter Try.func27, Try.ntmps27; go_wp2_with (first | ((with_reducible refine gate_dst (N := 4) rfl ?_); refine bx 4 #[.bool false, .bool false, .bool false, .bool false, .bool false, .int .i64 0] 41 ?_; intro gb443 hg w13 hbox hb; have BK443 := ak hbox; have GW443 := gw hg HB; have GE443 := gw hg HB; replace HB := bs HB hb; clear hb hbox hg) | ((with_reducible refine at_fn (f := 71) rfl ?_); refine gl (some 11) Try.func71 #[.slice A0 l0.length c0, .int .i64 a1] ?_; (with_reducible refine (spec_l22Code.calls k _ _ l0 a1 t444 _ ?side1 HC0.out A3.out).mono ?_); (case side1 => exact vd HR0.out HB.out); rintro e w14 ⟨rfl, hb⟩; refine ⟨_, rfl, ?_⟩; replace BK443 := kb BK443 hb; replace HB := bs HB hb; (try clear hb); (try clear hb2); (try clear hk); (try clear hi); have hcz15 := cz6 BK443.out))
  refine bodyPost_ret (results_ct rfl _ _ gb443 41 #[.bool false, .bool false, .bool false, .bool false, .bool false, .int .i64 0] (0, 0) _ rfl (vz BK443.out) Try.underlying41 rfl (by kernel_rfl)) rfl ?_; exact ⟨ew, vb HB.out⟩


end Go.Proofs.Ytjgbncpbenmjoaa.Pall
