/- Go functions of the program, each as a Lean function, and the proof that each call comes to what the Lean function tells; no condition beyond those that stand there. -/
import Derived.Test.YtjgbncpbenmjoaaF00
import Derived.Test.YtjgbncpbenmjoaaF02
import Derived.Test.YtjgbncpbenmjoaaF08
import Derived.Test.YtjgbncpbenmjoaaF10
import Derived.Test.YtjgbncpbenmjoaaWGuard
import Derived.Test.YtjgbncpbenmjoaaWLast
import Derived.Test.YtjgbncpbenmjoaaWMore
import Derived.Test.YtjgbncpbenmjoaaSpare
import Derived.Test.YtjgbncpbenmjoaaCm
import Derived.Test.YtjgbncpbenmjoaaCm3
namespace Go.Proofs.Ytjgbncpbenmjoaa.Pall
open Go.RowKit Go.Proofs.YtjgbncpbenmjoaaW.PrintWords Go.Proofs.YtjgbncpbenmjoaaW.PrintLast Go.Proofs.YtjgbncpbenmjoaaW.PrintMore
attribute [local go_sem] max2_int min2_int max_two min_two max_three min_three max_four min_four
set_option linter.unusedVariables false
set_option linter.unusedSimpArgs false

/-! ### spec_FiringTicks: function 25 -/
mutual
def spec_FiringTicks.j0 : Nat → List (S33) → Int → Int → Int → Bool → Option (Int × Int)
 | 0, _, _, _, _, _ => none
 | k + 1, x0, x1, x2, x8, x26 => if x26 = true then (spec_FiringTicks.j1 k x0 x1 x2 2) else (spec_FiringTicks.j1 k x0 x1 x2 x8)
def spec_FiringTicks.j1 : Nat → List (S33) → Int → Int → Int → Option (Int × Int)
 | 0, _, _, _, _ => none
 | k + 1, x0, x1, x2, x8 => if x8 = 0 then (spec_FiringTicks.l0 k x0 x2 0 x1) else (some (0, x8))
def spec_FiringTicks.l0 : Nat → List (S33) → Int → Int → Int → Option (Int × Int)
 | 0, _, _, _, _ => none
 | k + 1, x0, x2, x9, x10 => if x10 ≤ x2 then ((spec_l22At.f k x0 x10).bind fun bt361 => (if bt361.2.2.1 = true then (if bt361.2.2.2.1 = true then (spec_FiringTicks.l0 k x0 x2 x9 (wrap64 (x10 + 1))) else (spec_FiringTicks.l0 k x0 x2 (wrap64 (x9 + 1)) (wrap64 (x10 + 1)))) else (spec_FiringTicks.l0 k x0 x2 x9 (wrap64 (x10 + 1))))) else (some (x9, 0))
end
def spec_FiringTicks.f (k : Nat) (l0 : List (S33)) (a1 : Int) (a2 : Int) : Option (Int × Int) := (spec_l22Code.f k l0 a1).bind fun t359 => (if t359 = 0 then ((spec_l01In.f a2 a1 (mn 100000 (wrap64 (a1 + 1000)))).bind fun t360 => (spec_FiringTicks.j0 k l0 a1 a2 t359 (!t360))) else (spec_FiringTicks.j0 k l0 a1 a2 t359 false))
theorem spec_FiringTicks.mono_l : ∀ k, (∀ y0 y1 y2 y3 y4, LeO (spec_FiringTicks.j0 k y0 y1 y2 y3 y4) (spec_FiringTicks.j0 (k + 1) y0 y1 y2 y3 y4)) ∧ (∀ y0 y1 y2 y3, LeO (spec_FiringTicks.j1 k y0 y1 y2 y3) (spec_FiringTicks.j1 (k + 1) y0 y1 y2 y3)) ∧ (∀ y0 y1 y2 y3, LeO (spec_FiringTicks.l0 k y0 y1 y2 y3) (spec_FiringTicks.l0 (k + 1) y0 y1 y2 y3))
 | 0 => ⟨fun _ _ _ _ _ r h => by simp [spec_FiringTicks.j0] at h, fun _ _ _ _ r h => by simp [spec_FiringTicks.j1] at h, fun _ _ _ _ r h => by simp [spec_FiringTicks.l0] at h⟩
 | k + 1 => by
  obtain ⟨ih0, ih1, ih2⟩ := spec_FiringTicks.mono_l k; refine ⟨?_, ?_, ?_⟩
  ·intro y0 y1 y2 y3 y4; unfold spec_FiringTicks.j0
   repeat' first | (with_reducible first | exact ih0 _ _ _ _ _ | exact ih1 _ _ _ _ | exact ih2 _ _ _ _ | exact spec_l22At.mono _ _ _ | exact spec_l22Code.mono _ _ _ | exact LeO.refl _ | exact LeO.none _ | refine LeO.ite ?_ ?_ | refine LeO.bind ?_ (fun _ => ?_)) | exact ih0 _ _ _ _ _ | exact ih1 _ _ _ _ | exact ih2 _ _ _ _ | exact spec_l22At.mono _ _ _ | exact spec_l22Code.mono _ _ _ | exact LeO.none _ | refine LeO.ite ?_ ?_ | refine LeO.bind ?_ (fun _ => ?_)
  ·intro y0 y1 y2 y3; unfold spec_FiringTicks.j1
   repeat' first | (with_reducible first | exact ih0 _ _ _ _ _ | exact ih1 _ _ _ _ | exact ih2 _ _ _ _ | exact spec_l22At.mono _ _ _ | exact spec_l22Code.mono _ _ _ | exact LeO.refl _ | exact LeO.none _ | refine LeO.ite ?_ ?_ | refine LeO.bind ?_ (fun _ => ?_)) | exact ih0 _ _ _ _ _ | exact ih1 _ _ _ _ | exact ih2 _ _ _ _ | exact spec_l22At.mono _ _ _ | exact spec_l22Code.mono _ _ _ | exact LeO.none _ | refine LeO.ite ?_ ?_ | refine LeO.bind ?_ (fun _ => ?_)
  ·intro y0 y1 y2 y3; unfold spec_FiringTicks.l0
   repeat' first | (with_reducible first | exact ih0 _ _ _ _ _ | exact ih1 _ _ _ _ | exact ih2 _ _ _ _ | exact spec_l22At.mono _ _ _ | exact spec_l22Code.mono _ _ _ | exact LeO.refl _ | exact LeO.none _ | refine LeO.ite ?_ ?_ | refine LeO.bind ?_ (fun _ => ?_)) | exact ih0 _ _ _ _ _ | exact ih1 _ _ _ _ | exact ih2 _ _ _ _ | exact spec_l22At.mono _ _ _ | exact spec_l22Code.mono _ _ _ | exact LeO.none _ | refine LeO.ite ?_ ?_ | refine LeO.bind ?_ (fun _ => ?_)
theorem spec_FiringTicks.mono : ∀ a0 a1 a2 k, LeO (spec_FiringTicks.f k a0 a1 a2) (spec_FiringTicks.f (k + 1) a0 a1 a2) := by
 intro a0 a1 a2 k; obtain ⟨ih0, ih1, ih2⟩ := spec_FiringTicks.mono_l k; unfold spec_FiringTicks.f
 repeat' first | (with_reducible first | exact ih0 _ _ _ _ _ | exact ih1 _ _ _ _ | exact ih2 _ _ _ _ | exact spec_l22At.mono _ _ _ | exact spec_l22Code.mono _ _ _ | exact LeO.refl _ | exact LeO.none _ | refine LeO.ite ?_ ?_ | refine LeO.bind ?_ (fun _ => ?_)) | exact ih0 _ _ _ _ _ | exact ih1 _ _ _ _ | exact ih2 _ _ _ _ | exact spec_l22At.mono _ _ _ | exact spec_l22Code.mono _ _ _ | exact LeO.none _ | refine LeO.ite ?_ ?_ | refine LeO.bind ?_ (fun _ => ?_)
set_option maxHeartbeats 8000000 in
set_option maxRecDepth 100000 in
theorem spec_FiringTicks.calls (k : Nat) (A0 : Option Addr) (c0 : Nat) (l0 : List (S33)) (a1 : Int) (a2 : Int) (r1 : Int) (r2 : Int) (w : World) (hr0 : Kd.C k33 w A0 l0.length l0) (hc0 : l0.length ≤ c0) (h : spec_FiringTicks.f k l0 a1 a2 = some (r1, r2)) :
  Calls Try.prog 25 #[.slice A0 l0.length c0, .int .i64 a1, .int .i64 a2] w fun e w' => e = .returned (.tuple #[.int .i64 r1, .int .i64 r2]) ∧ Below w.heap.size w w' := by
 have hu41 := Try.underlying41; have HR0 := ak hr0; have HC0 := ak hc0; clear hr0 hc0; have HB := ak (Below.refl w.heap.size w); unfold spec_FiringTicks.f at h; have H := h; clear h; obtain ⟨t359, A4, H⟩ := bnk H; have HC5 := ak H; clear H; go_enter Try.func25, Try.ntmps25; go_upto_region 2 with (first | ((with_reducible refine at_fn (f := 71) rfl ?_); refine gl (some 15) Try.func71 #[.slice A0 l0.length c0, .int .i64 a1] ?_; (with_reducible refine (spec_l22Code.calls k _ _ l0 a1 t359 _ ?side1 HC0.out A4.out).mono ?_); (case side1 => exact vc HR0.out); rintro e w6 ⟨rfl, hb⟩; refine ⟨_, rfl, ?_⟩; replace HB := bs HB hb; (try clear hb); (try clear hb2); (try clear hk); (try clear hi)))
 (try simp only [Act.put, List.setIfInBounds_toArray, List.set_cons_zero, List.set_cons_succ])
 go_cut [26] (fun v26 wc => ∃ (kq : Nat) (x26_4 : Bool), v26 = .bool x26_4 ∧ Aside0 (spec_FiringTicks.j0 kq l0 a1 a2 t359 x26_4 = some (r1, r2)) ∧ Aside0 (kq ≤ k) ∧ Aside0 (Below w.heap.size w wc))
 case first =>
  have H := HC5.out; clear HC5; by_cases c7 : t359 = 0
  ·rw [if_pos c7] at H; obtain ⟨c7b0, c7b1⟩ := bqt c7; clear c7; (first | rw [c7b0] | (simp only [i64_w, i32_w]; rw [c7b0]) | skip)
   obtain ⟨ji8, hji8⟩ : ∃ j_ : Int, (mn 100000 (wrap64 (a1 + 1000))) = j_ := ⟨_, rfl⟩; replace H : ((spec_l01In.f a2 a1 (ji8)).bind fun t360 => (spec_FiringTicks.j0 k l0 a1 a2 t359 (!t360))) = some (r1, r2) := by first | (rw [hji8] at H; exact H) | (simp only [hji8] at H ⊢; exact H)
   (try (have hji8h : ji8 ≤ 100000 := by (rw [← hji8]; unfold mn; (repeat' split) <;> omega)))
   (try (have hji8g : ji8 ≤ 64 := by omega))
   have hji8_ : (if (wrap64 (a1 + 1000)) < 100000 then (wrap64 (a1 + 1000)) else 100000) = ji8 := hji8; obtain ⟨t360, A9, H⟩ := bnk H; have H' := ak H; clear H; go_wp2_with (first | (go_at_call 65; (with_reducible refine (spec_l01In.calls a2 a1 ji8 t360 _ A9.out).mono ?_); rintro e w' ⟨rfl, ⟨nd, rfl⟩⟩))
   go_meet
   case rel => exact ⟨_, (!t360), (by first | rfl | (simp; done) | (simp [*]; done)), H', ⟨by first | omega | exact Nat.le_refl _⟩, ⟨vb HB.out⟩⟩
  ·rw [if_neg c7] at H; obtain ⟨c7b0, c7b1⟩ := bqf c7; (first | rw [c7b0] | (simp only [i64_w, i32_w]; rw [c7b0]) | skip)
   have H' := ak H; clear H; go_wp2
   go_meet
   case rel => exact ⟨_, (false), (by first | rfl | (simp; done) | (simp [*]; done)), H', ⟨by first | omega | exact Nat.le_refl _⟩, ⟨vb HB.out⟩⟩
 case rest =>
  clear HC5; (try clear c2); (try clear p2); (try clear p6); (try clear c7); (try clear c7b0); (try clear c7b1); obtain ⟨kq, x26_4, rfl, HA, HJ4, HB⟩ := hcut
  cases kq with
  | zero => exact absurd HA.out (by simp [spec_FiringTicks.j0])
  | succ kj4 =>
   have H := HA.out; clear HA; simp only [spec_FiringTicks.j0] at H
   have HC10 := ak H; clear H; go_upto_if 26 with (fail)
   go_cut [8] (fun v8 wc => ∃ (kq : Nat) (x8_9 : Int), v8 = .int .i64 x8_9 ∧ Aside0 (spec_FiringTicks.j1 kq l0 a1 a2 x8_9 = some (r1, r2)) ∧ Aside0 (kq ≤ kj4) ∧ Aside0 (Below w.heap.size w wc))
   case first =>
    have H := HC10.out; clear HC10; by_cases c11 : x26_4 = true
    ·subst c11; rw [if_pos rfl] at H; have H' := ak H; clear H; go_wp2
     go_meet
     case rel => exact ⟨_, (2), (by first | rfl | (simp; done) | (simp [*]; done)), H', ⟨by have := HJ4.out; first | omega | exact Nat.le_refl _⟩, ⟨vb HB.out⟩⟩
    ·replace c11 := Bool.eq_false_iff.mpr c11; subst c11; rw [if_neg nf] at H; have H' := ak H; clear H; go_wp2
     go_meet
     case rel => exact ⟨_, (t359), (by first | rfl | (simp; done) | (simp [*]; done)), H', ⟨by have := HJ4.out; first | omega | exact Nat.le_refl _⟩, ⟨vb HB.out⟩⟩
   case rest =>
    clear HC10; (try clear c1); (try clear c2); (try clear p2); (try clear p6); (try clear c7); (try clear c7b0); (try clear c7b1); (try clear c11); (try clear p2); (try clear p6); obtain ⟨kq, x8_9, rfl, HA, HJ9, HB⟩ := hcut
    cases kq with
    | zero => exact absurd HA.out (by simp [spec_FiringTicks.j1])
    | succ kj9 =>
     have H := HA.out; clear HA; simp only [spec_FiringTicks.j1] at H
     by_cases c12 : x8_9 = 0
     ·rw [if_pos c12] at H; obtain ⟨c12b0, c12b1⟩ := bqt c12; clear c12; have H' := ak H; clear H; go_wp2
      go_loopg [9, 10] kj9 (fun kq v9 v10 w' => ∃ (x9_3 : Int) (x10_3 : Int), v9 = .int .i64 x9_3 ∧ v10 = .int .i64 x10_3 ∧ Aside0 (spec_FiringTicks.l0 kq l0 a2 x9_3 x10_3 = some (r1, r2)) ∧ Aside0 (kq ≤ kj9) ∧ Aside0 (Below w.heap.size w w'))
      case atStart => exact ⟨(0), (a1), (by first | rfl | (simp; done) | (simp [*]; done)), (by first | rfl | (simp; done) | (simp [*]; done)), H', ⟨Nat.le_refl _⟩, ⟨vb HB.out⟩⟩
      case round =>
       clear H'; (try clear c1); (try clear c2); (try clear p2); (try clear p6); (try clear c7); (try clear c7b0); (try clear c7b1); (try clear c11); (try clear c12); (try clear c12b0); (try clear c12b1); (try clear p2); (try clear p6); obtain ⟨x9_3, x10_3, rfl, rfl, HA, HK3, HB⟩ := hrel
       cases gk with
       | zero => exact absurd HA.out (by simp [spec_FiringTicks.l0])
       | succ k3 =>
        have H := HA.out; clear HA; simp only [spec_FiringTicks.l0] at H
        by_cases c13 : x10_3 ≤ a2
        ·rw [if_pos c13] at H; have c13b0 := decide_eq_true c13; clear c13; obtain ⟨⟨t361, t362, t363, t364, t365, t366, t367⟩, A140, H⟩ := bnd H; replace H : (if t363 = true then (if t364 = true then (spec_FiringTicks.l0 k3 l0 a2 x9_3 (wrap64 (x10_3 + 1))) else (spec_FiringTicks.l0 k3 l0 a2 (wrap64 (x9_3 + 1)) (wrap64 (x10_3 + 1)))) else (spec_FiringTicks.l0 k3 l0 a2 x9_3 (wrap64 (x10_3 + 1)))) = some (r1, r2) := H; have A14 := ak A140; clear A140; by_cases c15 : t363 = true
         ·subst c15; rw [if_pos rfl] at H; by_cases c16 : t364 = true
          ·subst c16; rw [if_pos rfl] at H; have H' := ak H; clear H; go_wp2_with (first | ((with_reducible refine at_fn (f := 72) rfl ?_); refine gl (some 39) Try.func72 #[.slice A0 l0.length c0, .int .i64 x10_3] ?_; (with_reducible refine (spec_l22At.calls k3 _ _ l0 x10_3 t361 t362 _ _ t365 t366 t367 _ ?side1 HC0.out A14.out).mono ?_); (case side1 => exact vd HR0.out HB.out); rintro e w17 ⟨v368, rfl, ho0, hb⟩; refine ⟨_, rfl, ?_⟩; have HO369 := ak (Kd.R_lower ho0 (below_size (vb HB.out))); replace HB := bs HB hb; (try clear hb); (try clear hb2); (try clear hk); (try clear hi); (try clear ho0)) | ((with_reducible refine gate_dst (N := 11) rfl ?_); (try (refine gate_guard (by rfl) ?_; dsimp only)); refine bx 11 #[.bool false, .bool false, .bool false, .bool false, .bool false, .int .i64 0] 41 ?_; intro gb370 hg w18 hbox hb; replace HO369 := ak (Kd.R_below (vr HO369.out) hb); have BK370 := ak hbox; have GW370 := gw hg HB; have GE370 := gw hg HB; replace HB := bs HB hb; clear hb hbox hg; have hcz19 := cz6 BK370.out))
           go_roundg k3
           case measure => have := HJ4.out; have := HJ9.out; have := HK3.out; omega
           case rel => exact ⟨(x9_3), (wrap64 (x10_3 + 1)), (by first | rfl | (simp; done) | (simp [*]; done)), (by first | rfl | (simp; done) | (simp [*]; done)), H', ⟨by have := HJ4.out; have := HJ9.out; have := HK3.out; omega⟩, ⟨vb HB.out⟩⟩
          ·replace c16 := Bool.eq_false_iff.mpr c16; subst c16; rw [if_neg nf] at H; have H' := ak H; clear H; go_wp2_with (first | ((with_reducible refine at_fn (f := 72) rfl ?_); refine gl (some 39) Try.func72 #[.slice A0 l0.length c0, .int .i64 x10_3] ?_; (with_reducible refine (spec_l22At.calls k3 _ _ l0 x10_3 t361 t362 _ _ t365 t366 t367 _ ?side1 HC0.out A14.out).mono ?_); (case side1 => exact vd HR0.out HB.out); rintro e w20 ⟨v368, rfl, ho0, hb⟩; refine ⟨_, rfl, ?_⟩; have HO369 := ak (Kd.R_lower ho0 (below_size (vb HB.out))); replace HB := bs HB hb; (try clear hb); (try clear hb2); (try clear hk); (try clear hi); (try clear ho0)) | ((with_reducible refine gate_dst (N := 11) rfl ?_); (try (refine gate_guard (by rfl) ?_; dsimp only)); refine bx 11 #[.bool false, .bool false, .bool false, .bool false, .bool false, .int .i64 0] 41 ?_; intro gb370 hg w21 hbox hb; replace HO369 := ak (Kd.R_below (vr HO369.out) hb); have BK370 := ak hbox; have GW370 := gw hg HB; have GE370 := gw hg HB; replace HB := bs HB hb; clear hb hbox hg; have hcz22 := cz6 BK370.out))
           go_roundg k3
           case measure => have := HJ4.out; have := HJ9.out; have := HK3.out; omega
           case rel => exact ⟨(wrap64 (x9_3 + 1)), (wrap64 (x10_3 + 1)), (by first | rfl | (simp; done) | (simp [*]; done)), (by first | rfl | (simp; done) | (simp [*]; done)), H', ⟨by have := HJ4.out; have := HJ9.out; have := HK3.out; omega⟩, ⟨vb HB.out⟩⟩
         ·replace c15 := Bool.eq_false_iff.mpr c15; subst c15; rw [if_neg nf] at H; have H' := ak H; clear H; go_wp2_with (first | ((with_reducible refine at_fn (f := 72) rfl ?_); refine gl (some 39) Try.func72 #[.slice A0 l0.length c0, .int .i64 x10_3] ?_; (with_reducible refine (spec_l22At.calls k3 _ _ l0 x10_3 t361 t362 _ t364 t365 t366 t367 _ ?side1 HC0.out A14.out).mono ?_); (case side1 => exact vd HR0.out HB.out); rintro e w23 ⟨v368, rfl, ho0, hb⟩; refine ⟨_, rfl, ?_⟩; have HO369 := ak (Kd.R_lower ho0 (below_size (vb HB.out))); replace HB := bs HB hb; (try clear hb); (try clear hb2); (try clear hk); (try clear hi); (try clear ho0)) | ((with_reducible refine gate_dst (N := 11) rfl ?_); (try (refine gate_guard (by rfl) ?_; dsimp only)); refine bx 11 #[.bool false, .bool false, .bool false, .bool false, .bool false, .int .i64 0] 41 ?_; intro gb370 hg w24 hbox hb; replace HO369 := ak (Kd.R_below (vr HO369.out) hb); have BK370 := ak hbox; have GW370 := gw hg HB; have GE370 := gw hg HB; replace HB := bs HB hb; clear hb hbox hg; have hcz25 := cz6 BK370.out))
          go_roundg k3
          case measure => have := HJ4.out; have := HJ9.out; have := HK3.out; omega
          case rel => exact ⟨(x9_3), (wrap64 (x10_3 + 1)), (by first | rfl | (simp; done) | (simp [*]; done)), (by first | rfl | (simp; done) | (simp [*]; done)), H', ⟨by have := HJ4.out; have := HJ9.out; have := HK3.out; omega⟩, ⟨vb HB.out⟩⟩
        ·rw [if_neg c13] at H; have c13b0 := decide_eq_false c13; clear c13; simp only [Option.some.injEq, Prod.mk.injEq] at H
         obtain ⟨rfl, rfl⟩ := H; go_wp2
         go_ret2
         exact ⟨ew, vb HB.out⟩
     ·rw [if_neg c12] at H; obtain ⟨c12b0, c12b1⟩ := bqf c12; simp only [Option.some.injEq, Prod.mk.injEq] at H
      obtain ⟨rfl, rfl⟩ := H; go_wp2
      go_ret2
      exact ⟨ew, vb HB.out⟩


end Go.Proofs.Ytjgbncpbenmjoaa.Pall
