/- Go functions of the program, each as a Lean function, and the proof that each call comes to what the Lean function tells; no condition beyond those that stand there. -/
import Derived.Test.YtllhghcepbkpeaaF00
import Derived.Test.YtllhghcepbkpeaaF01
import Derived.Test.YtllhghcepbkpeaaF04
import Derived.Test.YtllhghcepbkpeaaSq
import Derived.Test.YtllhghcepbkpeaaWGuard
import Derived.Test.YtllhghcepbkpeaaWLast
import Derived.Test.YtllhghcepbkpeaaWTab
import Derived.Test.YtllhghcepbkpeaaSpare
import Derived.Test.YtllhghcepbkpeaaCm
import Derived.Test.YtllhghcepbkpeaaCm3
import Derived.StillTailTactics
import Derived.IntWalk
import Derived.Lib.Hide
namespace Go.Proofs.Ytllhghcepbkpeaa.Pall
open Go.RowKit Go.Proofs.YtllhghcepbkpeaaW.PrintWords Go.Proofs.YtllhghcepbkpeaaW.PrintLast
set_option linter.unusedVariables false
set_option linter.unusedSimpArgs false

/-! ### laws_toMoveS: function 17 -/
instance : Fil S42 := ⟨(⟨(-7000000000000000101), (⟨#[126, 115, 112, 97, 114, 101, 126]⟩ : ByteArray), (-7000000000000000101)⟩ : S42)⟩
mutual
def laws_toMoveSg.j0 : Nat → List (S38) → Bool → Option ((List (S42)))
 | 0, _, _ => none
 | k + 1, x0, x13 => if x13 = true then (some ([] : List (S42))) else ((laws_roomBehind.f (x0.length : Int)).bind fun t120 => (if 0 ≤ (wrap64 ((x0.length : Int) + t120)) then (if (wrap64 ((x0.length : Int) + t120) : Int).toNat ≤ 8796093022208 then (laws_toMoveSg.l0 k x0 (List.replicate (wrap64 ((x0.length : Int) + t120) : Int).toNat z42) 0) else (none)) else (none)))
def laws_toMoveSg.l0 : Nat → List (S38) → List (S42) → Int → Option ((List (S42)))
 | 0, _, _, _ => none
 | k + 1, x0, x5, x6 => if x6 < (x0.length : Int) then (if 0 ≤ x6 then ((laws_toMove.f ((rd_T38 x0 x6).f0) ((rd_T38 x0 x6).f1) ((rd_T38 x0 x6).f2)).bind fun bt125 => (if x6 < (x5.length : Int) then (laws_toMoveSg.l0 k x0 (x5.set (x6 : Int).toNat (⟨bt125.1, bt125.2.1, bt125.2.2⟩ : S42)) (wrap64 (x6 + 1))) else (none))) else (none)) else (laws_toMoveSg.l1 k x0 x5 (x0.length : Int))
def laws_toMoveSg.l1 : Nat → List (S38) → List (S42) → Int → Option ((List (S42)))
 | 0, _, _, _ => none
 | k + 1, x0, x5, x7 => if x7 < (x5.length : Int) then ((laws_fillerMove.f).bind fun bt129 => (if 0 ≤ x7 then (laws_toMoveSg.l1 k x0 (x5.set (x7 : Int).toNat (⟨bt129.1, bt129.2.1, bt129.2.2⟩ : S42)) (wrap64 (x7 + 1))) else (none))) else (if 0 ≤ (x0.length : Int) then (if (x0.length : Int) ≤ (x5.length : Int) then (some x5) else (none)) else (none))
end
def laws_toMoveSg.f (k : Nat) (l0 : List (S38)) (a1 : Bool) : Option ((List (S42))) := if a1 = true then (laws_toMoveSg.j0 k l0 ((l0.length : Int) == 0)) else (laws_toMoveSg.j0 k l0 false)
theorem laws_toMoveSg.mono_l : ∀ k, (∀ y0 y1, LeO (laws_toMoveSg.j0 k y0 y1) (laws_toMoveSg.j0 (k + 1) y0 y1)) ∧ (∀ y0 y1 y2, LeO (laws_toMoveSg.l0 k y0 y1 y2) (laws_toMoveSg.l0 (k + 1) y0 y1 y2)) ∧ (∀ y0 y1 y2, LeO (laws_toMoveSg.l1 k y0 y1 y2) (laws_toMoveSg.l1 (k + 1) y0 y1 y2))
 | 0 => ⟨fun _ _ r h => by simp [laws_toMoveSg.j0] at h, fun _ _ _ r h => by simp [laws_toMoveSg.l0] at h, fun _ _ _ r h => by simp [laws_toMoveSg.l1] at h⟩
 | k + 1 => by
  obtain ⟨ih0, ih1, ih2⟩ := laws_toMoveSg.mono_l k; refine ⟨?_, ?_, ?_⟩
  ·intro y0 y1; unfold laws_toMoveSg.j0
   repeat' first | (with_reducible first | exact ih0 _ _ | exact ih1 _ _ _ | exact ih2 _ _ _ | exact LeO.refl _ | exact LeO.none _ | refine LeO.ite ?_ ?_ | refine LeO.bind ?_ (fun _ => ?_)) | exact ih0 _ _ | exact ih1 _ _ _ | exact ih2 _ _ _ | exact LeO.none _ | refine LeO.ite ?_ ?_ | refine LeO.bind ?_ (fun _ => ?_)
  ·intro y0 y1 y2; unfold laws_toMoveSg.l0
   repeat' first | (with_reducible first | exact ih0 _ _ | exact ih1 _ _ _ | exact ih2 _ _ _ | exact LeO.refl _ | exact LeO.none _ | refine LeO.ite ?_ ?_ | refine LeO.bind ?_ (fun _ => ?_)) | exact ih0 _ _ | exact ih1 _ _ _ | exact ih2 _ _ _ | exact LeO.none _ | refine LeO.ite ?_ ?_ | refine LeO.bind ?_ (fun _ => ?_)
  ·intro y0 y1 y2; unfold laws_toMoveSg.l1
   repeat' first | (with_reducible first | exact ih0 _ _ | exact ih1 _ _ _ | exact ih2 _ _ _ | exact LeO.refl _ | exact LeO.none _ | refine LeO.ite ?_ ?_ | refine LeO.bind ?_ (fun _ => ?_)) | exact ih0 _ _ | exact ih1 _ _ _ | exact ih2 _ _ _ | exact LeO.none _ | refine LeO.ite ?_ ?_ | refine LeO.bind ?_ (fun _ => ?_)
theorem laws_toMoveSg.mono : ∀ a0 a1 k, LeO (laws_toMoveSg.f k a0 a1) (laws_toMoveSg.f (k + 1) a0 a1) := by
 intro a0 a1 k; obtain ⟨ih0, ih1, ih2⟩ := laws_toMoveSg.mono_l k; unfold laws_toMoveSg.f
 repeat' first | (with_reducible first | exact ih0 _ _ | exact ih1 _ _ _ | exact ih2 _ _ _ | exact LeO.refl _ | exact LeO.none _ | refine LeO.ite ?_ ?_ | refine LeO.bind ?_ (fun _ => ?_)) | exact ih0 _ _ | exact ih1 _ _ _ | exact ih2 _ _ _ | exact LeO.none _ | refine LeO.ite ?_ ?_ | refine LeO.bind ?_ (fun _ => ?_)
set_option maxHeartbeats 8000000 in
set_option maxRecDepth 100000 in
theorem laws_toMoveSg.calls (k : Nat) (A0 : Option Addr) (c0 : Nat) (l0 : List (S38)) (a1 : Bool) (r : List (S42)) (w : World) (hr0 : Kd.C k38 w A0 l0.length l0) (hc0 : l0.length ≤ c0) (h : laws_toMoveSg.f k l0 a1 = some r) :
  Calls Try.prog 17 #[.slice A0 l0.length c0, .bool a1] w fun e w' => ∃ (A_ : Option Addr) (c_ : Nat), e = .returned (.slice A_ (vis l0.length r.length) c_) ∧ Kd.R k42 42 w' w.heap.size (fun _ => True) (.slice A_ r.length c_) r ∧ Below w.heap.size w w' := by
 have hu38 := Try.underlying38; have hu42 := Try.underlying42; have HR0 := ak hr0; have HC0 := ak hc0; clear hr0 hc0; have HB := ak (Below.refl w.heap.size w); unfold laws_toMoveSg.f at h; have H := h; clear h; have HC3 := ak H; clear H; go_enter Try.func17, Try.ntmps17; go_upto_region 1 with (fail)
 go_cut [13] (fun v13 wc => ∃ (kq : Nat) (x13_2 : Bool), v13 = .bool x13_2 ∧ Aside0 (laws_toMoveSg.j0 kq l0 x13_2 = some r) ∧ Aside0 (kq ≤ k) ∧ Aside0 (Below w.heap.size w wc))
 case first =>
  have H := HC3.out; clear HC3; by_cases c4 : a1 = true
  ·subst c4; rw [if_pos rfl] at H; have H' := ak H; clear H; go_wp2
   go_meet
   case rel => exact ⟨_, (((l0.length : Int) == 0)), (by first | rfl | (simp; done) | (simp [*]; done)), H', ⟨by first | omega | exact Nat.le_refl _⟩, ⟨vb HB.out⟩⟩
  ·replace c4 := Bool.eq_false_iff.mpr c4; subst c4; rw [if_neg nf] at H; have H' := ak H; clear H; go_wp2
   go_meet
   case rel => exact ⟨_, (false), (by first | rfl | (simp; done) | (simp [*]; done)), H', ⟨by first | omega | exact Nat.le_refl _⟩, ⟨vb HB.out⟩⟩
 case rest =>
  clear HC3; (try clear c1); (try clear p2); (try clear c4); obtain ⟨kq, x13_2, rfl, HA, HJ2, HB⟩ := hcut
  cases kq with
  | zero => exact absurd HA.out (by simp [laws_toMoveSg.j0])
  | succ kj2 =>
   have H := HA.out; clear HA; simp only [laws_toMoveSg.j0] at H
   by_cases c5 : x13_2 = true
   ·subst c5; rw [if_pos rfl] at H; obtain rfl := Option.some.inj H; go_wp2
    go_ret
    exact ⟨none, 0, by first | (rw [vis_zero]; rfl) | (simp only [List.length_nil, vis_zero]; rfl), Kd.R_nil _ _ _ _ _, vb HB.out⟩
   ·replace c5 := Bool.eq_false_iff.mpr c5; subst c5; rw [if_neg nf] at H; obtain ⟨t120, A6, H⟩ := bnk H; obtain ⟨ji7, hji7⟩ : ∃ j_ : Int, (wrap64 ((l0.length : Int) + t120)) = j_ := ⟨_, rfl⟩; replace H : (if 0 ≤ (ji7) then (if (ji7 : Int).toNat ≤ 8796093022208 then (laws_toMoveSg.l0 kj2 l0 (List.replicate (ji7 : Int).toNat z42) 0) else (none)) else (none)) = some r := by first | (rw [hji7] at H; exact H) | (simp only [hji7] at H ⊢; exact H)
    (try rw [hji7] at A6)
    have hji7w : (IntKind.i64.wrap ((l0.length : Int) + t120)) = ji7 := (i64_w _).trans hji7; by_cases c8 : 0 ≤ (ji7)
    ·rw [if_pos c8] at H; have c8b0 := eq_true c8; have c8b1 : decide (0 ≤ (ji7)) = true := decide_eq_true c8; clear c8; by_cases c9 : (ji7 : Int).toNat ≤ 8796093022208
     ·rw [if_pos c9] at H; have c9b0 := eq_true c9; have c9b1 : decide ((ji7 : Int).toNat ≤ 8796093022208) = true := decide_eq_true c9; clear c9; obtain ⟨y121, hy121⟩ := gen_ ((List.replicate (ji7 : Int).toNat z42 : List (S42))); rw [← hy121] at H; have Ny121 := ak hy121; clear hy121; have H' := ak H; clear H; go_wp2_with (first | ((with_reducible refine at_fn (f := 66) rfl ?_); refine gl (some 18) Try.func66 #[.int .i64 (l0.length : Int)] ?_; (with_reducible refine (laws_roomBehind.calls (l0.length : Int) t120 _ A6.out).mono ?_); rintro e w' ⟨rfl, ⟨nd, rfl⟩⟩; refine ⟨_, rfl, ?_⟩) | ((with_reducible refine gate_dst (N := 20) rfl ?_); (try (refine gate_guard (by rfl) ?_; dsimp only)); refine Kd.R_make k42 _ 42 rfl (N := 20) rfl 25 _ _ rfl ji7 rfl rfl Try.underlying25 (.agg #[(.int .i64 0), (.string ⟨#[]⟩), (.int .i64 0)]) 32 info42 rfl (by decide) (by omega) z42 (ok := fun _ => True) (okp := fun _ => True) (k42_mkM _ _ _ z42 ) (fun _ hk => hk) trivial (od) (Nat.le_trans (Nat.mul_le_mul_right _ (od : ji7.toNat ≤ 8796093022208)) (by omega)) (Below.refl _ _) (Nat.le_refl _) ?_; intro v122 w10 ho11 hb hg_ hnew_; clear hg_ hnew_; (first | rw [← Ny121.out] at ho11 | (simp only [Int.reduceToNat] at ho11; rw [← Ny121.out] at ho11)); have HO123 := ak (Kd.R_lower ho11 (below_size (vb HB.out))); replace HB := bs HB hb; clear hb ho11))
      go_loopg [6] kj2 (fun kq v6 w' => ∃ (x5_2 : List (S42)) (x6_2 : Int), v6 = .int .i64 x6_2 ∧ Aside0 (laws_toMoveSg.l0 kq l0 x5_2 x6_2 = some r) ∧ Aside0 (kq ≤ kj2) ∧ Aside0 (Kd.R k42 42 w' w.heap.size (fun _ => True) v122 x5_2) ∧ Aside0 (Below w.heap.size w w'))
      case atStart => exact ⟨(y121), (0), (by first | rfl | (simp; done) | (simp [*]; done)), H', ⟨Nat.le_refl _⟩, ⟨by (with_reducible repeat (first | apply Kd.R_alloc | apply Kd.R_drewN | apply Kd.R_drew)); exact HO123.out⟩, ⟨vb HB.out⟩⟩
      case round =>
       clear H'; (try clear c1); (try clear p2); (try clear c4); (try clear c5); (try clear c6); (try clear p6); (try clear c8); (try clear c8b0); (try clear c8b1); (try clear c9); (try clear c9b0); (try clear c9b1); (try clear p2); obtain ⟨x5_2, x6_2, rfl, HA, HK2, HO_5, HB⟩ := hrel
       cases gk with
       | zero => exact absurd HA.out (by simp [laws_toMoveSg.l0])
       | succ k2 =>
        have H := HA.out; clear HA; simp only [laws_toMoveSg.l0] at H
        by_cases c12 : x6_2 < (l0.length : Int)
        ·rw [if_pos c12] at H; have c12b0 := decide_eq_true c12; clear c12; by_cases c13 : 0 ≤ x6_2
         ·rw [if_pos c13] at H; have c13b0 := decide_eq_true c13; clear c13; obtain ⟨⟨t125, t126, t127⟩, A140, H⟩ := bnd H; replace H : (if x6_2 < (x5_2.length : Int) then (laws_toMoveSg.l0 k2 l0 (x5_2.set (x6_2 : Int).toNat (⟨t125, t126, t127⟩ : S42)) (wrap64 (x6_2 + 1))) else (none)) = some r := H; have A14 := ak A140; clear A140; by_cases c15 : x6_2 < (x5_2.length : Int)
          ·rw [if_pos c15] at H; have c15b0 := decide_eq_true c15; clear c15; obtain ⟨y128, hy128⟩ := gen_ ((x5_2.set (x6_2 : Int).toNat (⟨t125, t126, t127⟩ : S42) : List (S42))); rw [← hy128] at H; have Ny128 := ak hy128; clear hy128; have H' := ak H; clear H; have p124 : 0 ≤ (x6_2 : Int) := od; have q124 : x6_2 < (l0.length : Int) := od; obtain ⟨ad124, e124, hx124_0, hx124_1, hx124_2⟩ := at_T38 HR0.out x6_2 p124 q124
           cases e124; replace hx124_0 := cb HB.out hx124_0; replace hx124_1 := cb HB.out hx124_1; replace hx124_2 := cb HB.out hx124_2; replace p124 := eq_true p124; replace q124 := eq_true q124; go_wp2_with (first | ((with_reducible refine at_fn (f := 28) rfl ?_); refine gl (some 33) Try.func28 #[.agg #[.int .i64 ((rd_T38 l0 x6_2).f0), .string ((rd_T38 l0 x6_2).f1), .int .i64 ((rd_T38 l0 x6_2).f2)]] ?_; (with_reducible refine (laws_toMove.calls ((rd_T38 l0 x6_2).f0) ((rd_T38 l0 x6_2).f1) ((rd_T38 l0 x6_2).f2) t125 t126 t127 _ A14.out).mono ?_); rintro e w17 ⟨rfl, hb⟩; refine ⟨_, rfl, ?_⟩; replace HO_5 := ak (Kd.R_below (vr HO_5.out) hb); replace HB := bs HB hb; (try clear hb); (try clear hb2); (try clear hk); (try clear hi); have p16 : 0 ≤ (x6_2 : Int) := od; have q16 : (x6_2 : Int) < ((x5_2.length : Int) : Int) := od; obtain ⟨go16, co16, eo16, gb16, gl16, cl16, HG16⟩ := Kd.R_form HO_5.out (by omega); (first | cases eo16 | (injection eo16 with ea_ en_ ec_; (first | subst ea_ | (injection ea_ with ea_; subst ea_)); subst ec_; clear en_)); have GB16 := ak gb16; have GG16 := ak HG16; clear gb16 gl16 HG16; obtain ⟨ce16, hcl16, hM16, hcc16, hfr16⟩ := Kd.R_elem HO_5.out z42 (x6_2 : Int) p16 q16; obtain rfl := k42_openM hM16; have hx16_0 : w17.cell? ⟨go16, (x6_2 : Int).toNat * 3, none⟩ = some (.int .i64 ((rd_T42 x5_2 x6_2).f0)) := hcc16 0 _ rfl; have hx16_1 : w17.cell? ⟨go16, (x6_2 : Int).toNat * 3 + 1, none⟩ = some (.string ((rd_T42 x5_2 x6_2).f1)) := hcc16 1 _ rfl; have hx16_2 : w17.cell? ⟨go16, (x6_2 : Int).toNat * 3 + 2, none⟩ = some (.int .i64 ((rd_T42 x5_2 x6_2).f2)) := hcc16 2 _ rfl; have hf16_0 : w17.frozen? ⟨go16, (x6_2 : Int).toNat * 3, none⟩ = false := hfr16 0; have hf16_1 : w17.frozen? ⟨go16, (x6_2 : Int).toNat * 3 + 1, none⟩ = false := hfr16 1; have hf16_2 : w17.frozen? ⟨go16, (x6_2 : Int).toNat * 3 + 2, none⟩ = false := hfr16 2; clear hcl16 hcc16 hfr16 hM16; replace p16 := eq_true p16; replace q16 := eq_true q16; have HX18 := ak (show Kd.R k42 42 w17 w.heap.size (fun _ => True) (.slice (some ⟨go16, 0, none⟩) x5_2.length co16) x5_2 from (vr HO_5.out)); obtain ⟨ce18, hcl18, hM18, hcc18, hfr18⟩ := Kd.R_elem HX18.out z42 (x6_2 : Int) (od) (by have h_ : (x6_2 : Int) < ((x5_2.length : Int) : Int) := od; first | exact h_ | (have e_ := (Kd.R_reads' HO_5.out).1; omega) | simpa using h_); obtain rfl := k42_openM hM18; have HP18 := Kd.R_seg HX18.out (x6_2 : Int) (od) (by have h_ : (x6_2 : Int) < ((x5_2.length : Int) : Int) := od; first | exact h_ | (have e_ := (Kd.R_reads' HO_5.out).1; omega) | simpa using h_) (seg := [.int .i64 t125, .string t126, .int .i64 t127]) (j := 0) hcl18 hcc18 (show 3 ≤ 3 from by decide) (x' := (⟨t125, t126, t127⟩ : S42)) (k42_mkM _ _ _ (⟨t125, t126, t127⟩ : S42) ) (fun _ hk => hk); have hx18_0 := hcc18 0 _ rfl; (try simp only [show (k42).sz = 3 from rfl, Nat.mul_one, Nat.add_zero] at hx18_0); have hf18_0 := hfr18 0; (try simp only [show (k42).sz = 3 from rfl, Nat.mul_one, Nat.add_zero] at hf18_0); have hx18_1 := hcc18 1 _ rfl; (try simp only [show (k42).sz = 3 from rfl, Nat.mul_one, Nat.add_zero] at hx18_1); have hf18_1 := hfr18 1; (try simp only [show (k42).sz = 3 from rfl, Nat.mul_one, Nat.add_zero] at hf18_1); have hx18_2 := hcc18 2 _ rfl; (try simp only [show (k42).sz = 3 from rfl, Nat.mul_one, Nat.add_zero] at hx18_2); have hf18_2 := hfr18 2; (try simp only [show (k42).sz = 3 from rfl, Nat.mul_one, Nat.add_zero] at hf18_2); clear hcl18 hcc18 hfr18 hM18) | ((with_reducible refine gate_store (t := 42) (p := 34) rfl ?_); refine store_event (t := 42) (p := 34) (v := ?vo_w19) (w1 := (((w17.setCell ⟨go16, (x6_2 : Int).toNat * 3, none⟩ (.int .i64 t125)).setCell ⟨go16, (x6_2 : Int).toNat * 3 + 1, none⟩ (.string t126)).setCell ⟨go16, (x6_2 : Int).toNat * 3 + 2, none⟩ (.int .i64 t127))) ?hg ?ho ?hn ?hr ?_; (case ho => rfl); (case hg => rfl); (case hn => rfl); (case hr => first | (go_simp; done) | (go_simp; rfl)); intro w19 hw; have hg : w17.grownBy w19 (some go16) := (by rw [hw]; exact HP18.2); have hp_ : Kd.R k42 42 w19 w.heap.size (fun _ => True) (.slice (some ⟨go16, 0, none⟩) x5_2.length co16) y128 := (by rw [hw, Ny128.out]; exact HP18.1); clear HP18; replace HO_5 := ak (hp_); replace HB := ak ((by rw [hw]; exact below_set (below_set (below_set (HB.out) GB16.out) GB16.out) GB16.out : Below w.heap.size w w19)); clear hg hw hp_))
           go_roundg k2
           case measure => have := HJ2.out; have := HK2.out; omega
           case rel => exact ⟨(y128), (wrap64 (x6_2 + 1)), (by first | rfl | (simp; done) | (simp [*]; done)), H', ⟨by have := HJ2.out; have := HK2.out; omega⟩, ⟨by (with_reducible repeat (first | apply Kd.R_alloc | apply Kd.R_drewN | apply Kd.R_drew)); exact HO_5.out⟩, ⟨vb HB.out⟩⟩
          ·rw [if_neg c15] at H; exact absurd H (by simp)
         ·rw [if_neg c13] at H; exact absurd H (by simp)
        ·rw [if_neg c12] at H; have c12b0 := decide_eq_false c12; clear c12; have H' := ak H; clear H; go_wp2
         go_loopg [7] k2 (fun kq v7 w' => ∃ (x5_3 : List (S42)) (x7_3 : Int), v7 = .int .i64 x7_3 ∧ Aside0 (laws_toMoveSg.l1 kq l0 x5_3 x7_3 = some r) ∧ Aside0 (kq ≤ k2) ∧ Aside0 (Kd.R k42 42 w' w.heap.size (fun _ => True) v122 x5_3) ∧ Aside0 (Below w.heap.size w w'))
         case atStart => exact ⟨(x5_2), ((l0.length : Int)), (by first | rfl | (simp; done) | (simp [*]; done)), H', ⟨Nat.le_refl _⟩, ⟨by (with_reducible repeat (first | apply Kd.R_alloc | apply Kd.R_drewN | apply Kd.R_drew)); exact HO_5.out⟩, ⟨vb HB.out⟩⟩
         case round =>
          clear H'; (try clear c1); (try clear p1); (try clear q1); (try clear hx1); (try clear c2); (try clear p2); (try clear c4); (try clear c5); (try clear c6); (try clear p6); (try clear c8); (try clear c8b0); (try clear c8b1); (try clear c9); (try clear c9b0); (try clear c9b1); (try clear c12); (try clear c12b0); (try clear p12); (try clear q12); (try clear hx12); (try clear c13); (try clear c13b0); (try clear c15); (try clear c15b0); (try clear c16); (try clear p16); (try clear q16); (try clear hx16); (try clear hf16); (try clear c17); (try clear c18); (try clear hx18); (try clear hf18); (try clear hx124_0); (try clear hx124_1); (try clear hx124_2); (try clear hx16_0); (try clear hx16_1); (try clear hx16_2); (try clear hx18_0); (try clear hx18_1); (try clear hx18_2); (try clear p124); (try clear p16); (try clear p2); (try clear p6); (try clear q124); (try clear q16); obtain ⟨x5_3, x7_3, rfl, HA, HK3, HO_5, HB⟩ := hrel
          cases gk with
          | zero => exact absurd HA.out (by simp [laws_toMoveSg.l1])
          | succ k3 =>
           have H := HA.out; clear HA; simp only [laws_toMoveSg.l1] at H
           by_cases c20 : x7_3 < (x5_3.length : Int)
           ·rw [if_pos c20] at H; have c20b0 := decide_eq_true c20; clear c20; obtain ⟨⟨t129, t130, t131⟩, A210, H⟩ := bnd H; replace H : (if 0 ≤ x7_3 then (laws_toMoveSg.l1 k3 l0 (x5_3.set (x7_3 : Int).toNat (⟨t129, t130, t131⟩ : S42)) (wrap64 (x7_3 + 1))) else (none)) = some r := H; have A21 := ak A210; clear A210; by_cases c22 : 0 ≤ x7_3
            ·rw [if_pos c22] at H; have c22b0 := decide_eq_true c22; clear c22; obtain ⟨y132, hy132⟩ := gen_ ((x5_3.set (x7_3 : Int).toNat (⟨t129, t130, t131⟩ : S42) : List (S42))); rw [← hy132] at H; have Ny132 := ak hy132; clear hy132; have H' := ak H; clear H; obtain ⟨Ao24, co24, eo24⟩ := Kd.R_slice HO_5.out; subst eo24; go_wp2_with (first | ((with_reducible refine at_fn (f := 67) rfl ?_); refine gl (some 45) Try.func67 #[] ?_; (with_reducible refine (laws_fillerMove.calls  t129 t130 t131 _ A21.out).mono ?_); rintro e w25 ⟨rfl, hb⟩; refine ⟨_, rfl, ?_⟩; replace HO_5 := ak (Kd.R_below (vr HO_5.out) hb); replace HB := bs HB hb; (try clear hb); (try clear hb2); (try clear hk); (try clear hi); have p23 : 0 ≤ (x7_3 : Int) := od; have q23 : (x7_3 : Int) < ((x5_3.length : Int) : Int) := od; obtain ⟨go23, co23, eo23, gb23, gl23, cl23, HG23⟩ := Kd.R_form HO_5.out (by omega); (first | cases eo23 | (injection eo23 with ea_ en_ ec_; (first | subst ea_ | (injection ea_ with ea_; subst ea_)); subst ec_; clear en_)); have GB23 := ak gb23; have GG23 := ak HG23; clear gb23 gl23 HG23; obtain ⟨ce23, hcl23, hM23, hcc23, hfr23⟩ := Kd.R_elem HO_5.out z42 (x7_3 : Int) p23 q23; obtain rfl := k42_openM hM23; have hx23_0 : w25.cell? ⟨go23, (x7_3 : Int).toNat * 3, none⟩ = some (.int .i64 ((rd_T42 x5_3 x7_3).f0)) := hcc23 0 _ rfl; have hx23_1 : w25.cell? ⟨go23, (x7_3 : Int).toNat * 3 + 1, none⟩ = some (.string ((rd_T42 x5_3 x7_3).f1)) := hcc23 1 _ rfl; have hx23_2 : w25.cell? ⟨go23, (x7_3 : Int).toNat * 3 + 2, none⟩ = some (.int .i64 ((rd_T42 x5_3 x7_3).f2)) := hcc23 2 _ rfl; have hf23_0 : w25.frozen? ⟨go23, (x7_3 : Int).toNat * 3, none⟩ = false := hfr23 0; have hf23_1 : w25.frozen? ⟨go23, (x7_3 : Int).toNat * 3 + 1, none⟩ = false := hfr23 1; have hf23_2 : w25.frozen? ⟨go23, (x7_3 : Int).toNat * 3 + 2, none⟩ = false := hfr23 2; clear hcl23 hcc23 hfr23 hM23; replace p23 := eq_true p23; replace q23 := eq_true q23; have HX26 := ak (show Kd.R k42 42 w25 w.heap.size (fun _ => True) (.slice (some ⟨go23, 0, none⟩) x5_3.length co24) x5_3 from (vr HO_5.out)); obtain ⟨ce26, hcl26, hM26, hcc26, hfr26⟩ := Kd.R_elem HX26.out z42 (x7_3 : Int) (od) (by have h_ : (x7_3 : Int) < ((x5_3.length : Int) : Int) := od; first | exact h_ | (have e_ := (Kd.R_reads' HO_5.out).1; omega) | simpa using h_); obtain rfl := k42_openM hM26; have HP26 := Kd.R_seg HX26.out (x7_3 : Int) (od) (by have h_ : (x7_3 : Int) < ((x5_3.length : Int) : Int) := od; first | exact h_ | (have e_ := (Kd.R_reads' HO_5.out).1; omega) | simpa using h_) (seg := [.int .i64 t129, .string t130, .int .i64 t131]) (j := 0) hcl26 hcc26 (show 3 ≤ 3 from by decide) (x' := (⟨t129, t130, t131⟩ : S42)) (k42_mkM _ _ _ (⟨t129, t130, t131⟩ : S42) ) (fun _ hk => hk); have hx26_0 := hcc26 0 _ rfl; (try simp only [show (k42).sz = 3 from rfl, Nat.mul_one, Nat.add_zero] at hx26_0); have hf26_0 := hfr26 0; (try simp only [show (k42).sz = 3 from rfl, Nat.mul_one, Nat.add_zero] at hf26_0); have hx26_1 := hcc26 1 _ rfl; (try simp only [show (k42).sz = 3 from rfl, Nat.mul_one, Nat.add_zero] at hx26_1); have hf26_1 := hfr26 1; (try simp only [show (k42).sz = 3 from rfl, Nat.mul_one, Nat.add_zero] at hf26_1); have hx26_2 := hcc26 2 _ rfl; (try simp only [show (k42).sz = 3 from rfl, Nat.mul_one, Nat.add_zero] at hx26_2); have hf26_2 := hfr26 2; (try simp only [show (k42).sz = 3 from rfl, Nat.mul_one, Nat.add_zero] at hf26_2); clear hcl26 hcc26 hfr26 hM26) | ((with_reducible refine gate_store (t := 42) (p := 46) rfl ?_); refine store_event (t := 42) (p := 46) (v := ?vo_w27) (w1 := (((w25.setCell ⟨go23, (x7_3 : Int).toNat * 3, none⟩ (.int .i64 t129)).setCell ⟨go23, (x7_3 : Int).toNat * 3 + 1, none⟩ (.string t130)).setCell ⟨go23, (x7_3 : Int).toNat * 3 + 2, none⟩ (.int .i64 t131))) ?hg ?ho ?hn ?hr ?_; (case ho => rfl); (case hg => rfl); (case hn => rfl); (case hr => first | (go_simp; done) | (go_simp; rfl)); intro w27 hw; have hg : w25.grownBy w27 (some go23) := (by rw [hw]; exact HP26.2); have hp_ : Kd.R k42 42 w27 w.heap.size (fun _ => True) (.slice (some ⟨go23, 0, none⟩) x5_3.length co24) y132 := (by rw [hw, Ny132.out]; exact HP26.1); clear HP26; replace HO_5 := ak (hp_); replace HB := ak ((by rw [hw]; exact below_set (below_set (below_set (HB.out) GB23.out) GB23.out) GB23.out : Below w.heap.size w w27)); clear hg hw hp_))
             go_roundg k3
             case measure => have := HJ2.out; have := HK2.out; have := HK3.out; omega
             case rel => exact ⟨(y132), (wrap64 (x7_3 + 1)), (by first | rfl | (simp; done) | (simp [*]; done)), H', ⟨by have := HJ2.out; have := HK2.out; have := HK3.out; omega⟩, ⟨by (with_reducible repeat (first | apply Kd.R_alloc | apply Kd.R_drewN | apply Kd.R_drew)); exact HO_5.out⟩, ⟨vb HB.out⟩⟩
            ·rw [if_neg c22] at H; exact absurd H (by simp)
           ·rw [if_neg c20] at H; have c20b0 := decide_eq_false c20; clear c20; by_cases c28 : 0 ≤ (l0.length : Int)
            ·rw [if_pos c28] at H; have c28b0 := eq_true c28; have c28b1 : decide (0 ≤ (l0.length : Int)) = true := decide_eq_true c28; clear c28; by_cases c29 : (l0.length : Int) ≤ (x5_3.length : Int)
             ·rw [if_pos c29] at H; have c29b0 := eq_true c29; have c29b1 : decide ((l0.length : Int) ≤ (x5_3.length : Int)) = true := decide_eq_true c29; clear c29; obtain ⟨y133, hy133⟩ : ∃ y_ : List (S42), y_ = (x5_3.take ((l0.length : Int) : Int).toNat) := ⟨_, rfl⟩; have Ny133 := ak hy133; clear hy133; obtain rfl := Option.some.inj H; obtain ⟨Ao30, co30, eo30⟩ := Kd.R_slice HO_5.out; subst eo30; have q31 : ((l0.length : Int) : Int) ≤ ((x5_3.length : Int) : Int) := od; obtain ⟨i031, hi031, _, hsz31, _⟩ := info_parts info42; have hcut31 := cut_to (P := Try.prog) 25 42 .i64 Try.underlying25 hi031 Ao30 x5_3.length co30 (l0.length : Int) (od) q31 (Kd.R_reads' HO_5.out).2.1; have hr31 := Kd.R_take (m := ((l0.length : Int) : Int).toNat) HO_5.out (by omega); have hy31 : y133.length = ((l0.length : Int) : Int).toNat := (by rw [Ny133.out, List.length_take]; omega); rw [← Ny133.out] at hr31; rw [← hy31] at hr31 hcut31; clear hy31 hi031 hsz31; have HO135 := ak hr31; clear hr31; replace q31 := eq_true q31; go_wp2
              go_ret
              exact ⟨Ao30, co30, (by rw [show vis l0.length x5_3.length = y133.length from by rw [Ny133.out, Int.toNat_natCast, List.length_take]; rfl]; rfl), by (with_reducible repeat (first | apply Kd.R_alloc | apply Kd.R_drewN | apply Kd.R_drew)); exact HO_5.out, vb HB.out⟩
             ·rw [if_neg c29] at H; exact absurd H (by simp)
            ·rw [if_neg c28] at H; exact absurd H (by simp)
     ·rw [if_neg c9] at H; exact absurd H (by simp)
    ·rw [if_neg c8] at H; exact absurd H (by simp)
def laws_toMoveS.conv (x : S38) : S42 := ⟨x.f0, x.f1, x.f2⟩
theorem laws_toMoveS.w1 {i n : Nat} (h : i < n) (hn : n ≤ 4000000) : wrap64 ((i : Int) + 1) = ((i + 1 : Nat) : Int) := by unfold wrap64; omega
theorem laws_toMoveS.l1_eval (x0 : List S38) (d : Nat) : ∀ (k : Nat) (F : List S42) (i : Nat), x0.length ≤ i → F.length = i + d → F.length ≤ 4000000 → d < k →
  laws_toMoveSg.l1 k x0 F (i : Int) = some (F.take i ++ List.replicate d (⟨(-7000000000000000101), (⟨#[126, 115, 112, 97, 114, 101, 126]⟩ : ByteArray), (-7000000000000000101)⟩ : S42)) := by
 induction d with
 | zero =>
  intro k F i h0 h1 h2 h3; obtain ⟨k, rfl⟩ : ∃ m, k = m + 1 := ⟨k - 1, by omega⟩; simp only [laws_toMoveSg.l1]
  rw [if_neg (by omega), if_pos (by omega), if_pos (by omega)]; simp [List.take_of_length_le (show F.length ≤ i by omega)]
 | succ d ih =>
  intro k F i h0 h1 h2 h3; obtain ⟨k, rfl⟩ : ∃ m, k = m + 1 := ⟨k - 1, by omega⟩; have e := ih k (F.set i (⟨(-7000000000000000101), (⟨#[126, 115, 112, 97, 114, 101, 126]⟩ : ByteArray), (-7000000000000000101)⟩ : S42)) (i + 1) (by omega) (by simp; omega) (by simpa using h2) (by omega); simp only [laws_toMoveSg.l1, laws_fillerMove.f, Option.bind_some]
  rw [if_pos (by omega), if_pos (by omega), laws_toMoveS.w1 (n := F.length) (by omega) h2, Int.toNat_natCast]; refine Eq.trans e ?_; rw [take_succ_set F i (⟨(-7000000000000000101), (⟨#[126, 115, 112, 97, 114, 101, 126]⟩ : ByteArray), (-7000000000000000101)⟩ : S42) (by omega), List.append_assoc]; rfl
theorem laws_toMoveS.l0_eval (x0 : List S38) (d : Nat) : ∀ (k : Nat) (F : List S42) (i : Nat), x0.length = i + d → x0.length ≤ F.length → F.length ≤ 4000000 → d + (F.length - x0.length) + 1 < k →
  laws_toMoveSg.l0 k x0 F (i : Int) = some (F.take i ++ (x0.drop i).map laws_toMoveS.conv ++ List.replicate (F.length - x0.length) (⟨(-7000000000000000101), (⟨#[126, 115, 112, 97, 114, 101, 126]⟩ : ByteArray), (-7000000000000000101)⟩ : S42)) := by
 induction d with
 | zero =>
  intro k F i h0 h1 h2 h3; obtain ⟨k, rfl⟩ : ∃ m, k = m + 1 := ⟨k - 1, by omega⟩; simp only [laws_toMoveSg.l0]
  have hi : i = x0.length := by omega
  subst hi; rw [if_neg (by omega), laws_toMoveS.l1_eval x0 (F.length - x0.length) k F x0.length (Nat.le_refl _) (by omega) h2 (by omega)]; simp
 | succ d ih =>
  intro k F i h0 h1 h2 h3; obtain ⟨k, rfl⟩ : ∃ m, k = m + 1 := ⟨k - 1, by omega⟩; have hlt : i < x0.length := by omega
  have e := ih k (F.set i (laws_toMoveS.conv x0[i])) (i + 1) (by omega) (by simpa using h1) (by simpa using h2) (by simp; omega); simp only [laws_toMoveSg.l0, laws_toMove.f, Option.bind_some]
  have hr : rd_T38 x0 (i : Int) = x0[i] := by simp [rd_T38, hlt]
  rw [if_pos (by omega), if_pos (by omega), if_pos (by omega), laws_toMoveS.w1 (n := F.length) (by omega) h2, Int.toNat_natCast, hr]; refine Eq.trans e ?_; rw [take_succ_set F i (laws_toMoveS.conv x0[i]) (by omega), List.length_set, List.drop_eq_getElem_cons hlt]; simp only [List.map_cons, List.append_assoc, List.cons_append, List.nil_append]
theorem laws_toMoveS.g_eval (l0 : List S38) (a1 : Bool) (h : l0.length ≤ 1000000) : ∃ k, laws_toMoveSg.f k l0 a1 = some (if a1 = true ∧ l0 = [] then [] else full (l0.map laws_toMoveS.conv)) := by
 obtain ⟨K, hK⟩ : ∃ K, K = l0.length + roomN l0.length + 5 := ⟨_, rfl⟩; refine ⟨K + 1, ?_⟩; have hr := room_f l0.length; have hl : roomN l0.length ≤ 1000000 := by unfold roomN; (repeat' split) <;> omega
 have hj : laws_toMoveSg.j0 (K + 1) l0 false = some (full (l0.map laws_toMoveS.conv)) := by
  simp only [laws_toMoveSg.j0]
  rw [if_neg (by decide), hr]; rw [Option.bind_some]; have hw : wrap64 ((l0.length : Int) + ((roomN l0.length : Nat) : Int)) = ((l0.length + roomN l0.length : Nat) : Int) := by unfold wrap64; omega
  rw [hw, if_pos (by omega), if_pos (by omega), Int.toNat_natCast]; have e := laws_toMoveS.l0_eval l0 l0.length K (List.replicate (l0.length + roomN l0.length) z42) 0 (by omega) (by simp) (by simp <;> omega) (by simp <;> omega); refine Eq.trans e ?_; simp [full, Fil.fil]
  try rfl
 unfold laws_toMoveSg.f
 by_cases h1 : a1 = true
 ·rw [if_pos h1]; by_cases h2 : l0 = []
  ·subst h2; rw [if_pos ⟨h1, rfl⟩]; simp only [laws_toMoveSg.j0]
   rw [if_pos (by decide)]
  ·rw [if_neg (fun h3 => h2 h3.2)]
   have h3 : ((l0.length : Int) == 0) = false := by
    have : l0.length ≠ 0 := fun h4 => h2 (List.length_eq_zero_iff.1 h4)
    rw [beq_eq_false_iff_ne]; omega
   rw [h3]; exact hj
 ·rw [if_neg h1, if_neg (fun h2 => h1 h2.1)]; exact hj
def laws_toMoveS.f (_k : Nat) (l0 : List S38) (_a1 : Bool) : Option (List S42) := if l0.length ≤ 1000000 then some (l0.map laws_toMoveS.conv) else none
theorem laws_toMoveS.mono : ∀ a0 a1 k, LeO (laws_toMoveS.f k a0 a1) (laws_toMoveS.f (k + 1) a0 a1) := fun _ _ _ => LeO.refl _
theorem laws_toMoveS.callsF (k : Nat) (A0 : Option Addr) (c0 : Nat) (l0 : List S38) (r : List S42) (w : World) (hr0 : Kd.C k38 w A0 l0.length l0) (hc0 : l0.length ≤ c0) (h : laws_toMoveS.f k l0 false = some r) :
  Calls Try.prog 17 #[.slice A0 l0.length c0, .bool false] w fun e w' => ∃ v0_ : Value, e = .returned (v0_) ∧ Kd.P k42 42 w' w.heap.size (fun _ => True) v0_ r ∧ Below w.heap.size w w' := by
 unfold laws_toMoveS.f at h
 split at h
 ·rename_i hl
  obtain rfl := Option.some.inj h; obtain ⟨k', hk⟩ := laws_toMoveS.g_eval l0 false hl; rw [if_neg (fun h2 => absurd h2.1 (by decide))] at hk; refine (laws_toMoveSg.calls k' A0 c0 l0 false _ w hr0 hc0 hk).mono ?_; rintro e w' ⟨A_, c_, rfl, h1, h2⟩; refine ⟨_, rfl, ⟨fun _ _ => trivial, A_, c_, ?_, h1⟩, h2⟩; first | (rw [vis_le (by simp [full])]; done) | (rw [vis_le (by simp [full])]; simp)
 ·exact absurd h (by simp)
theorem laws_toMoveS.calls (k : Nat) (A0 : Option Addr) (c0 : Nat) (l0 : List S38) (a1 : Bool) (r : List S42) (w : World) (hr0 : Kd.C k38 w A0 l0.length l0) (hc0 : l0.length ≤ c0) (h : laws_toMoveS.f k l0 a1 = some r) :
  Calls Try.prog 17 #[.slice A0 l0.length c0, .bool a1] w fun e w' => ∃ v0_ : Value, e = .returned (v0_) ∧ Kd.R k42 42 w' w.heap.size (fun _ => True) v0_ r ∧ Below w.heap.size w w' := by
 unfold laws_toMoveS.f at h
 split at h
 ·rename_i hl
  obtain rfl := Option.some.inj h; obtain ⟨k', hk⟩ := laws_toMoveS.g_eval l0 a1 hl; refine (laws_toMoveSg.calls k' A0 c0 l0 a1 _ w hr0 hc0 hk).mono ?_; rintro e w' ⟨A_, c_, rfl, h1, h2⟩; refine ⟨_, rfl, ?_, h2⟩; by_cases hz : a1 = true ∧ l0 = []
  ·obtain ⟨rfl, rfl⟩ := hz; rw [if_pos ⟨rfl, rfl⟩] at h1 ⊢; simpa [vis_zero] using h1
  ·rw [if_neg hz] at h1 ⊢; have := Kd.R_take h1 (m := l0.length) (by simp [full]); rw [vis_le (by simp [full])]; simpa [full] using this
 ·exact absurd h (by simp)

/-! ### laws_eqMove: function 77 -/
def laws_eqMove.f (a0_0 : Int) (a0_1 : ByteArray) (a0_2 : Int) (a1_0 : Int) (a1_1 : ByteArray) (a1_2 : Int) : Option (Bool) := if a0_0 = a1_0 then (if a0_1.toList = a1_1.toList then (if a0_2 = a1_2 then (some true) else (some false)) else (some false)) else (some false)
set_option maxHeartbeats 8000000 in
set_option maxRecDepth 100000 in
theorem laws_eqMove.calls (a0_0 : Int) (a0_1 : ByteArray) (a0_2 : Int) (a1_0 : Int) (a1_1 : ByteArray) (a1_2 : Int) (r : Bool) (w : World) (h : laws_eqMove.f a0_0 a0_1 a0_2 a1_0 a1_1 a1_2 = some r) :
  Calls Try.prog 77 #[.agg #[.int .i64 a0_0, .string a0_1, .int .i64 a0_2], .agg #[.int .i64 a1_0, .string a1_1, .int .i64 a1_2]] w fun e w' => e = .returned (.bool r) ∧ Below w.heap.size w w' := by
 have hu42 := Try.underlying42; have HB := ak (Below.refl w.heap.size w); unfold laws_eqMove.f at h; have H := h; clear h; by_cases c3 : a0_0 = a1_0
 rw [if_pos c3] at H; obtain ⟨c3b0, c3b1⟩ := bqt c3; clear c3; by_cases c4 : a0_1.toList = a1_1.toList
 rw [if_pos c4] at H; obtain ⟨c4b0, c4b1⟩ := bqt c4; clear c4; by_cases c5 : a0_2 = a1_2
 rw [if_pos c5] at H; obtain ⟨c5b0, c5b1⟩ := bqt c5; clear c5; obtain rfl := Option.some.inj H; rotate_left
 rw [if_neg c5] at H; obtain ⟨c5b0, c5b1⟩ := bqf c5; obtain rfl := Option.some.inj H; rotate_left
 rw [if_neg c4] at H; obtain ⟨c4b0, c4b1⟩ := bqf c4; obtain rfl := Option.some.inj H; rotate_left
 rw [if_neg c3] at H; obtain ⟨c3b0, c3b1⟩ := bqf c3; obtain rfl := Option.some.inj H; rotate_left
 all_goals
  go_enter Try.func77, Try.ntmps77; go_wp2_with (first | ((with_reducible refine gate_dst (N := 2) rfl ?_); refine bx 2 #[.int .i64 a0_0, .string a0_1, .int .i64 a0_2] 42 ?_; intro gb150 hg w9 hbox hb; have BK150 := ak hbox; have GW150 := gw hg HB; have GE150 := gw hg HB; replace HB := bs HB hb; clear hb hbox hg) | ((with_reducible refine gate_dst (N := 3) rfl ?_); refine bx 3 #[.int .i64 a1_0, .string a1_1, .int .i64 a1_2] 42 ?_; intro gb151 hg w9 hbox hb; have BK151 := ak hbox; have GW151 := gw hg HB; have GE151 := gw hg HB; replace HB := bs HB hb; have NB150_151 := ak ((by rw [hg]; exact Nat.ne_of_lt (blk_lt (vk BK150.out)) : gb150 ≠ gb151)); have NB151_150 := ak ((by rw [hg]; exact Nat.ne_of_gt (blk_lt (vk BK150.out)) : gb151 ≠ gb150)); replace BK150 := kb BK150 hb; clear hb hbox hg; have hnb9 := NB150_151.out; have hnc9 := NB151_150.out; have hcz9 := cz3 BK150.out; have hcz9 := cz3 BK151.out))
  go_ret
  exact ⟨ew, vb HB.out⟩


/-! ### laws_eqMoveS: function 30 -/
def laws_eqMoveS.l0 : Nat → List (S42) → List (S42) → Int → Option (Bool)
 | 0, _, _, _ => none
 | k + 1, x0, x1, x5 => if x5 < (x0.length : Int) then (if 0 ≤ x5 then (if x5 < (x1.length : Int) then ((laws_eqMove.f ((rd_T42 x0 x5).f0) ((rd_T42 x0 x5).f1) ((rd_T42 x0 x5).f2) ((rd_T42 x1 x5).f0) ((rd_T42 x1 x5).f1) ((rd_T42 x1 x5).f2)).bind fun t154 => (if t154 = true then (laws_eqMoveS.l0 k x0 x1 (wrap64 (x5 + 1))) else (some false))) else (none)) else (none)) else (some true)
def laws_eqMoveS.f (k : Nat) (l0 : List (S42)) (l1 : List (S42)) : Option (Bool) := if (l0.length : Int) = (l1.length : Int) then (laws_eqMoveS.l0 k l0 l1 0) else (some false)
theorem laws_eqMoveS.mono_l : ∀ k, (∀ y0 y1 y2, LeO (laws_eqMoveS.l0 k y0 y1 y2) (laws_eqMoveS.l0 (k + 1) y0 y1 y2))
 | 0 => fun _ _ _ r h => by simp [laws_eqMoveS.l0] at h
 | k + 1 => by
  have ih0 := laws_eqMoveS.mono_l k
  ·intro y0 y1 y2; unfold laws_eqMoveS.l0
   repeat' first | (with_reducible first | exact ih0 _ _ _ | exact LeO.refl _ | exact LeO.none _ | refine LeO.ite ?_ ?_ | refine LeO.bind ?_ (fun _ => ?_)) | exact ih0 _ _ _ | exact LeO.none _ | refine LeO.ite ?_ ?_ | refine LeO.bind ?_ (fun _ => ?_)
theorem laws_eqMoveS.mono : ∀ a0 a1 k, LeO (laws_eqMoveS.f k a0 a1) (laws_eqMoveS.f (k + 1) a0 a1) := by
 intro a0 a1 k; have ih0 := laws_eqMoveS.mono_l k; unfold laws_eqMoveS.f
 repeat' first | (with_reducible first | exact ih0 _ _ _ | exact LeO.refl _ | exact LeO.none _ | refine LeO.ite ?_ ?_ | refine LeO.bind ?_ (fun _ => ?_)) | exact ih0 _ _ _ | exact LeO.none _ | refine LeO.ite ?_ ?_ | refine LeO.bind ?_ (fun _ => ?_)
def laws_eqMoveS.T6 : Bool × List (List Nat × List Nat) := (true, [([], []), ([], []), ([0, 1], [0, 1]), ([2], [2]), ([], []), ([], []), ([4, 5], [4, 5]), ([6], [6]), ([3, 7], [3, 7]), ([8], [8])])
def laws_eqMoveS.B6 : List Nat := [0, 0, 3, 7, 0, 0, 48, 112, 255, 511]
theorem laws_eqMoveS.tab6 : rtab .any (opsOf Try.f30 6) = laws_eqMoveS.T6 := by kernel_rfl
theorem laws_eqMoveS.bits6 : waitsOk laws_eqMoveS.T6.2 laws_eqMoveS.B6 = true := by kernel_rfl
set_option maxHeartbeats 8000000 in
set_option maxRecDepth 100000 in
theorem laws_eqMoveS.calls (k : Nat) (A0 : Option Addr) (c0 : Nat) (l0 : List (S42)) (A1 : Option Addr) (c1 : Nat) (l1 : List (S42)) (r : Bool) (w : World) (hr0 : Kd.C k42 w A0 l0.length l0) (hc0 : l0.length ≤ c0) (hr1 : Kd.C k42 w A1 l1.length l1) (hc1 : l1.length ≤ c1) (h : laws_eqMoveS.f k l0 l1 = some r) :
  Calls Try.prog 30 #[.slice A0 l0.length c0, .slice A1 l1.length c1] w fun e w' => e = .returned (.bool r) ∧ Below w.heap.size w w' := by
 have hu42 := Try.underlying42; have HR0 := ak hr0; have HC0 := ak hc0; clear hr0 hc0; have HR1 := ak hr1; have HC1 := ak hc1; clear hr1 hc1; have HB := ak (Below.refl w.heap.size w); unfold laws_eqMoveS.f at h; have H := h; clear h; by_cases c3 : (l0.length : Int) = (l1.length : Int)
 ·rw [if_pos c3] at H; obtain ⟨c3b0, c3b1⟩ := bqt c3; have c3b2 : (l0.length == l1.length) = true := by first | simpa using c3 | (simp at c3 ⊢; omega)
  clear c3; have H' := ak H; clear H; go_enter Try.func30, Try.ntmps30; go_wp2
  go_loopg [5] k (fun kq v5 w' => ∃ (x5_1 : Int), v5 = .int .i64 x5_1 ∧ Aside0 (laws_eqMoveS.l0 kq l0 l1 x5_1 = some r) ∧ Aside0 (kq ≤ k) ∧ Aside0 (Below w.heap.size w w'))
  case atStart => exact ⟨(0), (by first | rfl | (simp; done) | (simp [*]; done)), H', ⟨Nat.le_refl _⟩, ⟨vb HB.out⟩⟩
  case round =>
   clear H'; (try clear c1); (try clear p2); (try clear c3); (try clear c3b0); (try clear c3b1); (try clear c3b2); obtain ⟨x5_1, rfl, HA, HK1, HB⟩ := hrel
   cases gk with
   | zero => exact absurd HA.out (by simp [laws_eqMoveS.l0])
   | succ k1 =>
    have H := HA.out; clear HA; simp only [laws_eqMoveS.l0] at H
    by_cases c4 : x5_1 < (l0.length : Int)
    ·rw [if_pos c4] at H; have c4b0 := decide_eq_true c4; clear c4; by_cases c5 : 0 ≤ x5_1
     ·rw [if_pos c5] at H; have c5b0 := decide_eq_true c5; clear c5; by_cases c6 : x5_1 < (l1.length : Int)
      ·rw [if_pos c6] at H; have c6b0 := decide_eq_true c6; clear c6; obtain ⟨t154, A7, H⟩ := bnk H; by_cases c8 : t154 = true
       ·subst c8; rw [if_pos rfl] at H; have H' := ak H; clear H; (try go_wp2)
        replace HB := ak (below_drew1 HB.out); have p152 : 0 ≤ (x5_1 : Int) := od; have q152 : x5_1 < (l0.length : Int) := od; obtain ⟨ad152, e152, hx152_0, hx152_1, hx152_2⟩ := at_T42 HR0.out x5_1 p152 q152; have hw152_2 := hx152_2; have hw152_1 := hx152_1; have hw152_0 := hx152_0
        cases e152; replace hx152_0 := cb HB.out hx152_0; replace hx152_1 := cb HB.out hx152_1; replace hx152_2 := cb HB.out hx152_2; replace p152 := eq_true p152; replace q152 := eq_true q152; have p153 : 0 ≤ (x5_1 : Int) := od; have q153 : x5_1 < (l1.length : Int) := od; obtain ⟨ad153, e153, hx153_0, hx153_1, hx153_2⟩ := at_T42 HR1.out x5_1 p153 q153; have hw153_2 := hx153_2; have hw153_1 := hx153_1; have hw153_0 := hx153_0
        cases e153; replace hx153_0 := cb HB.out hx153_0; replace hx153_1 := cb HB.out hx153_1; replace hx153_2 := cb HB.out hx153_2; replace p153 := eq_true p153; replace q153 := eq_true q153; refine start_ (n := 10) (S := fun w' => w'.cell? (ad152.add ((x5_1).toNat * 3)) = some (.int .i64 ((rd_T42 l0 x5_1).f0)) ∧ w'.cell? ⟨(ad152.add ((x5_1).toNat * 3)).block, (ad152.add ((x5_1).toNat * 3)).off + 1, none⟩ = some (.string ((rd_T42 l0 x5_1).f1)) ∧ w'.cell? ⟨(ad152.add ((x5_1).toNat * 3)).block, (ad152.add ((x5_1).toNat * 3)).off + 2, none⟩ = some (.int .i64 ((rd_T42 l0 x5_1).f2)) ∧ w'.cell? (ad153.add ((x5_1).toNat * 3)) = some (.int .i64 ((rd_T42 l1 x5_1).f0)) ∧ w'.cell? ⟨(ad153.add ((x5_1).toNat * 3)).block, (ad153.add ((x5_1).toNat * 3)).off + 1, none⟩ = some (.string ((rd_T42 l1 x5_1).f1)) ∧ w'.cell? ⟨(ad153.add ((x5_1).toNat * 3)).block, (ad153.add ((x5_1).toNat * 3)).off + 2, none⟩ = some (.int .i64 ((rd_T42 l1 x5_1).f2))) (ds := []) (tf 0 10) (by kernel_rfl) rfl rfl ⟨((HB.out.cell (World.block_lt_of_cell? w _ hw152_0)).trans hw152_0), ((HB.out.cell (World.block_lt_of_cell? w _ hw152_1)).trans hw152_1), ((HB.out.cell (World.block_lt_of_cell? w _ hw152_2)).trans hw152_2), ((HB.out.cell (World.block_lt_of_cell? w _ hw153_0)).trans hw153_0), ((HB.out.cell (World.block_lt_of_cell? w _ hw153_1)).trans hw153_1), ((HB.out.cell (World.block_lt_of_cell? w _ hw153_2)).trans hw153_2)⟩ (fun hHeld => ?_); refine with_tabW laws_eqMoveS.tab6 laws_eqMoveS.bits6 (fun HT_ HW_ => ?_); generalize wr.drew = w9 at HB hx152_0 hx152_1 hx152_2 hx153_0 hx153_1 hx153_2 hHeld ⊢
        refine pu_ 0 17 (tf 1 9) rfl rfl ?_; refine pu_ 1 18 (tf 2 8) rfl rfl ?_; refine pu_ 2 19 (tf 3 7) rfl rfl ?_; refine pu_ 4 21 #[true, true, true, false, true, false, false, false, false, false] rfl rfl ?_; refine pu_ 5 22 #[true, true, true, false, true, true, false, false, false, false] rfl rfl ?_; refine pu_ 6 23 #[true, true, true, false, true, true, true, false, false, false] rfl rfl ?_; refine ta6_ 3 20 (tf 7 3) rfl rfl ?_; refine ta6_ 7 24 (tf 8 2) rfl rfl ?_; refine one_ (i := 8) (N := some 25) (tf 9 1) rfl rfl (one_of HT_.out (by kernel_rfl)) (by decide) (fun K hK => ?_); refine goes_ Try.func77 (by kernel_rfl) rfl #[.agg #[.int .i64 ((rd_T42 l0 x5_1).f0), .string ((rd_T42 l0 x5_1).f1), .int .i64 ((rd_T42 l0 x5_1).f2)], .agg #[.int .i64 ((rd_T42 l1 x5_1).f0), .string ((rd_T42 l1 x5_1).f1), .int .i64 ((rd_T42 l1 x5_1).f2)]] (by rfl) rfl rfl (by (try simp only [List.map_toArray, List.map_cons, List.map_nil]); first | done | rfl | (simp only [List.length_drop, List.length_take]; rfl)) ?_; with_reducible refine (laws_eqMove.calls ((rd_T42 l0 x5_1).f0) ((rd_T42 l0 x5_1).f1) ((rd_T42 l0 x5_1).f2) ((rd_T42 l1 x5_1).f0) ((rd_T42 l1 x5_1).f1) ((rd_T42 l1 x5_1).f2) true _ A7.out).mono ?_
        rintro e w10 ⟨rfl, hb⟩; refine ⟨_, rfl, ?_⟩; replace HB := bs HB hb; (try clear hb)
        (try clear hb2)
        (try clear hk)
        (try clear hi)
        refine hK.out _ _ ⟨((HB.out.cell (World.block_lt_of_cell? w _ hw152_0)).trans hw152_0), ((HB.out.cell (World.block_lt_of_cell? w _ hw152_1)).trans hw152_1), ((HB.out.cell (World.block_lt_of_cell? w _ hw152_2)).trans hw152_2), ((HB.out.cell (World.block_lt_of_cell? w _ hw153_0)).trans hw153_0), ((HB.out.cell (World.block_lt_of_cell? w _ hw153_1)).trans hw153_1), ((HB.out.cell (World.block_lt_of_cell? w _ hw153_2)).trans hw153_2)⟩ (fun hHeld => ?_); clear hK K; refine norm_ (a' := ?_) ?_ ?_
        rotate_left
        ·show Act.put _ (some 25) _ = _
         simp only [Act.put, List.setIfInBounds_toArray, List.set_cons_zero, List.set_cons_succ, i64_w, i32_w]
         rfl
        refine pu_ 9 26 (tf 10 0) rfl rfl ?_; refine done_ (done_of HT_.out (by kernel_rfl)) ?_; (try go_wp2)
        go_roundg k1
        case measure => have := HK1.out; omega
        case rel => exact ⟨(wrap64 (x5_1 + 1)), (by first | rfl | (simp; done) | (simp [*]; done)), H', ⟨by have := HK1.out; omega⟩, ⟨vb HB.out⟩⟩
       ·replace c8 := Bool.eq_false_iff.mpr c8; subst c8; rw [if_neg nf] at H; obtain rfl := Option.some.inj H; (try go_wp2)
        replace HB := ak (below_drew1 HB.out); have p152 : 0 ≤ (x5_1 : Int) := od; have q152 : x5_1 < (l0.length : Int) := od; obtain ⟨ad152, e152, hx152_0, hx152_1, hx152_2⟩ := at_T42 HR0.out x5_1 p152 q152; have hw152_2 := hx152_2; have hw152_1 := hx152_1; have hw152_0 := hx152_0
        cases e152; replace hx152_0 := cb HB.out hx152_0; replace hx152_1 := cb HB.out hx152_1; replace hx152_2 := cb HB.out hx152_2; replace p152 := eq_true p152; replace q152 := eq_true q152; have p153 : 0 ≤ (x5_1 : Int) := od; have q153 : x5_1 < (l1.length : Int) := od; obtain ⟨ad153, e153, hx153_0, hx153_1, hx153_2⟩ := at_T42 HR1.out x5_1 p153 q153; have hw153_2 := hx153_2; have hw153_1 := hx153_1; have hw153_0 := hx153_0
        cases e153; replace hx153_0 := cb HB.out hx153_0; replace hx153_1 := cb HB.out hx153_1; replace hx153_2 := cb HB.out hx153_2; replace p153 := eq_true p153; replace q153 := eq_true q153; refine start_ (n := 10) (S := fun w' => w'.cell? (ad152.add ((x5_1).toNat * 3)) = some (.int .i64 ((rd_T42 l0 x5_1).f0)) ∧ w'.cell? ⟨(ad152.add ((x5_1).toNat * 3)).block, (ad152.add ((x5_1).toNat * 3)).off + 1, none⟩ = some (.string ((rd_T42 l0 x5_1).f1)) ∧ w'.cell? ⟨(ad152.add ((x5_1).toNat * 3)).block, (ad152.add ((x5_1).toNat * 3)).off + 2, none⟩ = some (.int .i64 ((rd_T42 l0 x5_1).f2)) ∧ w'.cell? (ad153.add ((x5_1).toNat * 3)) = some (.int .i64 ((rd_T42 l1 x5_1).f0)) ∧ w'.cell? ⟨(ad153.add ((x5_1).toNat * 3)).block, (ad153.add ((x5_1).toNat * 3)).off + 1, none⟩ = some (.string ((rd_T42 l1 x5_1).f1)) ∧ w'.cell? ⟨(ad153.add ((x5_1).toNat * 3)).block, (ad153.add ((x5_1).toNat * 3)).off + 2, none⟩ = some (.int .i64 ((rd_T42 l1 x5_1).f2))) (ds := []) (tf 0 10) (by kernel_rfl) rfl rfl ⟨((HB.out.cell (World.block_lt_of_cell? w _ hw152_0)).trans hw152_0), ((HB.out.cell (World.block_lt_of_cell? w _ hw152_1)).trans hw152_1), ((HB.out.cell (World.block_lt_of_cell? w _ hw152_2)).trans hw152_2), ((HB.out.cell (World.block_lt_of_cell? w _ hw153_0)).trans hw153_0), ((HB.out.cell (World.block_lt_of_cell? w _ hw153_1)).trans hw153_1), ((HB.out.cell (World.block_lt_of_cell? w _ hw153_2)).trans hw153_2)⟩ (fun hHeld => ?_); refine with_tabW laws_eqMoveS.tab6 laws_eqMoveS.bits6 (fun HT_ HW_ => ?_); generalize wr.drew = w11 at HB hx152_0 hx152_1 hx152_2 hx153_0 hx153_1 hx153_2 hHeld ⊢
        refine pu_ 0 17 (tf 1 9) rfl rfl ?_; refine pu_ 1 18 (tf 2 8) rfl rfl ?_; refine pu_ 2 19 (tf 3 7) rfl rfl ?_; refine pu_ 4 21 #[true, true, true, false, true, false, false, false, false, false] rfl rfl ?_; refine pu_ 5 22 #[true, true, true, false, true, true, false, false, false, false] rfl rfl ?_; refine pu_ 6 23 #[true, true, true, false, true, true, true, false, false, false] rfl rfl ?_; refine ta6_ 3 20 (tf 7 3) rfl rfl ?_; refine ta6_ 7 24 (tf 8 2) rfl rfl ?_; refine one_ (i := 8) (N := some 25) (tf 9 1) rfl rfl (one_of HT_.out (by kernel_rfl)) (by decide) (fun K hK => ?_); refine goes_ Try.func77 (by kernel_rfl) rfl #[.agg #[.int .i64 ((rd_T42 l0 x5_1).f0), .string ((rd_T42 l0 x5_1).f1), .int .i64 ((rd_T42 l0 x5_1).f2)], .agg #[.int .i64 ((rd_T42 l1 x5_1).f0), .string ((rd_T42 l1 x5_1).f1), .int .i64 ((rd_T42 l1 x5_1).f2)]] (by rfl) rfl rfl (by (try simp only [List.map_toArray, List.map_cons, List.map_nil]); first | done | rfl | (simp only [List.length_drop, List.length_take]; rfl)) ?_; with_reducible refine (laws_eqMove.calls ((rd_T42 l0 x5_1).f0) ((rd_T42 l0 x5_1).f1) ((rd_T42 l0 x5_1).f2) ((rd_T42 l1 x5_1).f0) ((rd_T42 l1 x5_1).f1) ((rd_T42 l1 x5_1).f2) false _ A7.out).mono ?_
        rintro e w12 ⟨rfl, hb⟩; refine ⟨_, rfl, ?_⟩; replace HB := bs HB hb; (try clear hb)
        (try clear hb2)
        (try clear hk)
        (try clear hi)
        refine hK.out _ _ ⟨((HB.out.cell (World.block_lt_of_cell? w _ hw152_0)).trans hw152_0), ((HB.out.cell (World.block_lt_of_cell? w _ hw152_1)).trans hw152_1), ((HB.out.cell (World.block_lt_of_cell? w _ hw152_2)).trans hw152_2), ((HB.out.cell (World.block_lt_of_cell? w _ hw153_0)).trans hw153_0), ((HB.out.cell (World.block_lt_of_cell? w _ hw153_1)).trans hw153_1), ((HB.out.cell (World.block_lt_of_cell? w _ hw153_2)).trans hw153_2)⟩ (fun hHeld => ?_); clear hK K; refine norm_ (a' := ?_) ?_ ?_
        rotate_left
        ·show Act.put _ (some 25) _ = _
         simp only [Act.put, List.setIfInBounds_toArray, List.set_cons_zero, List.set_cons_succ, i64_w, i32_w]
         rfl
        refine pu_ 9 26 (tf 10 0) rfl rfl ?_; refine done_ (done_of HT_.out (by kernel_rfl)) ?_; (try go_wp2)
        go_ret
        exact ⟨ew, vb HB.out⟩
      ·rw [if_neg c6] at H; exact absurd H (by simp)
     ·rw [if_neg c5] at H; exact absurd H (by simp)
    ·rw [if_neg c4] at H; have c4b0 := decide_eq_false c4; clear c4; obtain rfl := Option.some.inj H; go_wp2
     go_ret
     exact ⟨ew, vb HB.out⟩
 ·rw [if_neg c3] at H; obtain ⟨c3b0, c3b1⟩ := bqf c3; have c3b2 : (l0.length == l1.length) = false := by first | simpa using c3 | (simp at c3 ⊢; omega)
  obtain rfl := Option.some.inj H; go_enter Try.func30, Try.ntmps30; go_wp2
  go_ret
  exact ⟨ew, vb HB.out⟩


/-! ### laws_intactMoveS: function 19 -/
def laws_intactMoveS.f (k : Nat) (l0 : List S42) (l1 : List S42) : Option Bool := if l0.length = l1.length then laws_eqMoveS.f k (full l0) (full l1) else none
theorem laws_intactMoveS.mono : ∀ a0 a1 k, LeO (laws_intactMoveS.f k a0 a1) (laws_intactMoveS.f (k + 1) a0 a1) := by
 intro a0 a1 k; unfold laws_intactMoveS.f
 exact LeO.ite (laws_eqMoveS.mono _ _ _) (LeO.none _)
set_option maxHeartbeats 1000000 in
set_option maxRecDepth 100000 in
theorem laws_intactMoveS.calls (k : Nat) (A0 : Option Addr) (c0 : Nat) (l0 : List S42) (A1 : Option Addr) (c1 : Nat) (l1 : List S42) (r : Bool) (w : World) (hr0 : Kd.C k42 w A0 (full l0).length (full l0)) (hc0 : (full l0).length ≤ c0) (hr1 : Kd.C k42 w A1 (full l1).length (full l1)) (hc1 : (full l1).length ≤ c1) (h : laws_intactMoveS.f k l0 l1 = some r) :
  Calls Try.prog 19 #[.slice A0 l0.length c0, .slice A1 l1.length c1] w fun e w' => e = .returned (.bool r) ∧ Below w.heap.size w w' := by
 unfold laws_intactMoveS.f at h
 by_cases he : l0.length = l1.length
 rotate_left
 ·rw [if_neg he] at h; exact absurd h (by simp)
 rw [if_pos he] at h; have hm1 : (full l1).length ≤ 9223372036854775807 := hr1.2.1; have ef0 : (full l0).length = (full l1).length := by rw [full_length, full_length, he]
 have hk : ((l1.length : Int) + (roomN l1.length : Int)) = ((full l1).length : Int) := by rw [full_length]; omega
 obtain ⟨i0, hi0, _, _, _⟩ := info_parts info42; have hq0 := cut_cap (P := Try.prog) 25 42 .i64 Try.underlying25 hi0 A0 l0.length c0 ((full l1).length : Int) (by omega) (by omega); have hq1 := cut_cap (P := Try.prog) 25 42 .i64 Try.underlying25 hi0 A1 l1.length c1 ((full l1).length : Int) (by omega) (by omega); have hw : IntKind.i64.wrap ((l1.length : Int) + (roomN l1.length : Int)) = ((full l1).length : Int) := by rw [hk]; exact IntWalk.i64_in _ (by omega)
 have heq : ((l0.length : Int) == (l1.length : Int)) = true := by rw [he]; simp
 have heq2 : (l0.length == l1.length) = true := by rw [he]; simp
 rw [Int.toNat_natCast] at hq0 hq1; have HE := ak ef0; clear hk ef0 he hi0; go_enter Try.func19, Try.ntmps19; go_wp2_with fail
 refine (laws_roomBehind.calls _ _ _ (room_f _)).mono ?_; rintro e w' ⟨rfl, ⟨nd, rfl⟩⟩; go_wp2_with fail
 go_still_tail 12, (by kernel_rfl)
 change wpList _ _ _ _ _ ((w.drewN nd).drew)
 have hE := laws_eqMoveS.calls k A0 c0 (full l0) A1 c1 (full l1) r ((w.drewN nd).drew) (Kd.C_drew (Kd.C_drewN hr0 nd)) hc0 (Kd.C_drew (Kd.C_drewN hr1 nd)) hc1 h; rw [HE.out] at hE; have HH := Lib.hid hE; clear hE; go_wp2_with fail
 refine HH.out.mono ?_; rintro e w' ⟨rfl, hb⟩; go_wp2_with fail
 go_ret
 exact ⟨rfl, below_step (by repeat (first | exact Below.refl _ _ | apply below_drew1 | apply pw_below_drewN)) hb⟩

end Go.Proofs.Ytllhghcepbkpeaa.Pall
