/- Go functions of the program, each as a Lean function, and the proof that each call comes to what the Lean function tells; no condition beyond those that stand there. -/
import Derived.Test.YtllhghcepbkpeaaF0e
import Derived.Test.YtllhghcepbkpeaaF03
import Derived.Test.YtllhghcepbkpeaaF06
import Derived.Test.YtllhghcepbkpeaaF24
import Derived.Test.YtllhghcepbkpeaaWApart
import Derived.Test.YtllhghcepbkpeaaWKept
import Derived.Test.YtllhghcepbkpeaaSpare
import Derived.Test.YtllhghcepbkpeaaCm
import Derived.Test.YtllhghcepbkpeaaCm3
namespace Go.Proofs.Ytllhghcepbkpeaa.Pall
open Go.RowKit Go.Proofs.YtllhghcepbkpeaaW.PrintWords Go.Proofs.YtllhghcepbkpeaaW.PrintLast
set_option linter.unusedVariables false
set_option linter.unusedSimpArgs false

/-! ### impl_OccupiedAt: function 36 -/
def impl_OccupiedAt.l0 : Nat → List (S42) → Int → List ByteArray → List (S42) → Int → Int → Option (List ByteArray × Int)
 | 0, _, _, _, _, _, _ => none
 | k + 1, x0, x1, x6, x15, x16, x17 => if x17 < x16 then (if 0 ≤ x17 then (if x17 < (x15.length : Int) then ((impl_peopleIn.f k x0 ((rd_T42 x15 x17).f1) x1).bind fun t487 => (if t487 > 0 then ((impl_putWord.f k x6 ((rd_T42 x15 x17).f1)).bind fun t488 => (impl_OccupiedAt.l0 k x0 x1 t488 x15 x16 (wrap64 (x17 + 1)))) else (impl_OccupiedAt.l0 k x0 x1 x6 x15 x16 (wrap64 (x17 + 1))))) else (none)) else (none)) else (some (x6, 0))
def impl_OccupiedAt.f (k : Nat) (l0 : List (S42)) (a1 : Int) : Option (List ByteArray × Int) := (impl_AreMoves.f k l0).bind fun t483 => (if t483 = true then ((impl_isTime.f a1).bind fun t484 => (if t484 = true then (impl_OccupiedAt.l0 k l0 a1 ([] : List ByteArray) l0 (l0.length : Int) 0) else (some (([] : List ByteArray), 2)))) else (some (([] : List ByteArray), 1)))
theorem impl_OccupiedAt.mono_l : ∀ k, (∀ y0 y1 y2 y3 y4 y5, LeO (impl_OccupiedAt.l0 k y0 y1 y2 y3 y4 y5) (impl_OccupiedAt.l0 (k + 1) y0 y1 y2 y3 y4 y5))
 | 0 => fun _ _ _ _ _ _ r h => by simp [impl_OccupiedAt.l0] at h
 | k + 1 => by
  have ih0 := impl_OccupiedAt.mono_l k
  ·intro y0 y1 y2 y3 y4 y5; unfold impl_OccupiedAt.l0
   repeat' first | (with_reducible first | exact ih0 _ _ _ _ _ _ | exact impl_AreMoves.mono _ _ | exact impl_peopleIn.mono _ _ _ _ | exact impl_putWord.mono _ _ _ | exact LeO.refl _ | exact LeO.none _ | refine LeO.ite ?_ ?_ | refine LeO.bind ?_ (fun _ => ?_)) | exact ih0 _ _ _ _ _ _ | exact impl_AreMoves.mono _ _ | exact impl_peopleIn.mono _ _ _ _ | exact impl_putWord.mono _ _ _ | exact LeO.none _ | refine LeO.ite ?_ ?_ | refine LeO.bind ?_ (fun _ => ?_)
theorem impl_OccupiedAt.mono : ∀ a0 a1 k, LeO (impl_OccupiedAt.f k a0 a1) (impl_OccupiedAt.f (k + 1) a0 a1) := by
 intro a0 a1 k; have ih0 := impl_OccupiedAt.mono_l k; unfold impl_OccupiedAt.f
 repeat' first | (with_reducible first | exact ih0 _ _ _ _ _ _ | exact impl_AreMoves.mono _ _ | exact impl_peopleIn.mono _ _ _ _ | exact impl_putWord.mono _ _ _ | exact LeO.refl _ | exact LeO.none _ | refine LeO.ite ?_ ?_ | refine LeO.bind ?_ (fun _ => ?_)) | exact ih0 _ _ _ _ _ _ | exact impl_AreMoves.mono _ _ | exact impl_peopleIn.mono _ _ _ _ | exact impl_putWord.mono _ _ _ | exact LeO.none _ | refine LeO.ite ?_ ?_ | refine LeO.bind ?_ (fun _ => ?_)
set_option maxHeartbeats 8000000 in
set_option maxRecDepth 100000 in
theorem impl_OccupiedAt.calls (k : Nat) (A0 : Option Addr) (c0 : Nat) (l0 : List (S42)) (a1 : Int) (r1 : List ByteArray) (r2 : Int) (w : World) (hr0 : Kd.C k42 w A0 l0.length l0) (hc0 : l0.length ≤ c0) (h : impl_OccupiedAt.f k l0 a1 = some (r1, r2)) :
  Calls Try.prog 36 #[.slice A0 l0.length c0, .int .i64 a1] w fun e w' => ∃ v0_ : Value, e = .returned (.tuple #[v0_, .int .i64 r2]) ∧ Kd.R Kd.string 9 w' w.heap.size (fun _ => True) v0_ r1 ∧ Below w.heap.size w w' := by
 have hu42 := Try.underlying42; have HR0 := ak hr0; have HC0 := ak hc0; clear hr0 hc0; have HB := ak (Below.refl w.heap.size w); unfold impl_OccupiedAt.f at h; have H := h; clear h; obtain ⟨t483, A3, H⟩ := bnk H; by_cases c4 : t483 = true
 subst c4; rw [if_pos rfl] at H; obtain ⟨t484, A5, H⟩ := bnk H; by_cases c6 : t484 = true
 ·subst c6; rw [if_pos rfl] at H; have H' := ak H; clear H; go_enter Try.func36, Try.ntmps36; go_wp2_with (first | ((with_reducible refine at_fn (f := 18) rfl ?_); refine gl (some 10) Try.func18 #[.slice A0 l0.length c0] ?_; (with_reducible refine (impl_AreMoves.calls k _ _ l0 _ _ ?side1 HC0.out A3.out).mono ?_); (case side1 => exact vc HR0.out); rintro e w7 ⟨rfl, hb⟩; refine ⟨_, rfl, ?_⟩; replace HB := bs HB hb; (try clear hb); (try clear hb2); (try clear hk); (try clear hi)) | ((with_reducible refine at_fn (f := 68) rfl ?_); refine gl (some 13) Try.func68 #[.int .i64 a1] ?_; (with_reducible refine (impl_isTime.calls a1 _ _ A5.out).mono ?_); rintro e w' ⟨rfl, ⟨nd, rfl⟩⟩; refine ⟨_, rfl, ?_⟩))
  go_loopg [6, 17] k (fun kq v6 v17 w' => ∃ (x6_1 : List ByteArray) (x17_1 : Int), v17 = .int .i64 x17_1 ∧ Aside0 (impl_OccupiedAt.l0 kq l0 a1 x6_1 l0 (l0.length : Int) x17_1 = some (r1, r2)) ∧ Aside0 (kq ≤ k) ∧ Aside0 (Kd.R Kd.string 9 w' w.heap.size (fun _ => True) v6 x6_1) ∧ Aside0 (Below w.heap.size w w'))
  case atStart => exact ⟨(([] : List ByteArray)), (0), (by first | rfl | (simp; done) | (simp [*]; done)), H', ⟨Nat.le_refl _⟩, ⟨by first | exact Kd.R_nil _ _ _ _ _ | exact Kd.N_nil _ _ _ _ _ | exact Kd.V_nil _ _ _ _ _ | exact Kd.Q_nil _ _ _ _ _ | exact Kd.S_nil _ _ _ _ _⟩, ⟨vb HB.out⟩⟩
  case round =>
   clear H'; (try clear c1); (try clear p2); (try clear c3); (try clear c4); (try clear c6); obtain ⟨x6_1, x17_1, rfl, HA, HK1, HO_6, HB⟩ := hrel
   cases gk with
   | zero => exact absurd HA.out (by simp [impl_OccupiedAt.l0])
   | succ k1 =>
    have H := HA.out; clear HA; simp only [impl_OccupiedAt.l0] at H
    by_cases c8 : x17_1 < (l0.length : Int)
    ·rw [if_pos c8] at H; have c8b0 := decide_eq_true c8; clear c8; by_cases c9 : 0 ≤ x17_1
     ·rw [if_pos c9] at H; have c9b0 := decide_eq_true c9; clear c9; by_cases c10 : x17_1 < (l0.length : Int)
      ·rw [if_pos c10] at H; have c10b0 := decide_eq_true c10; clear c10; obtain ⟨t487, A11, H⟩ := bnk H; by_cases c12 : t487 > 0
       ·rw [if_pos c12] at H; have c12b0 := decide_eq_true c12; clear c12; obtain ⟨t488, A13, H⟩ := bnk H; have H' := ak H; clear H; have p485 : 0 ≤ (x17_1 : Int) := od; have q485 : x17_1 < (l0.length : Int) := od; obtain ⟨ad485, e485, hx485_0, hx485_1, hx485_2⟩ := at_T42 HR0.out x17_1 p485 q485
        cases e485; replace hx485_0 := cb HB.out hx485_0; replace hx485_1 := cb HB.out hx485_1; replace hx485_2 := cb HB.out hx485_2; replace p485 := eq_true p485; replace q485 := eq_true q485; go_wp2_with (first | ((with_reducible refine gate_dst (N := 8) rfl ?_); refine bx 8 #[.int .i64 0, .string (⟨#[]⟩ : ByteArray), .int .i64 0] 42 ?_; intro gb486 hg w14 hbox hb; replace HO_6 := ak (Kd.R_below (vr HO_6.out) hb); have BK486 := ak hbox; have GW486 := gw hg HB; have GE486 := gw hg HB; replace HB := bs HB hb; clear hb hbox hg; have hcz15 := cz3 BK486.out) | ((with_reducible refine at_fn (f := 71) rfl ?_); refine gl (some 25) Try.func71 #[.slice (some ad485) l0.length c0, .string ((rd_T42 l0 x17_1).f1), .int .i64 a1] ?_; (with_reducible refine (impl_peopleIn.calls k1 _ _ l0 ((rd_T42 l0 x17_1).f1) a1 t487 _ ?side1 HC0.out A11.out).mono ?_); (case side1 => exact Kd.C_below HR0.out (vb HB.out)); rintro e w16 ⟨rfl, hb⟩; refine ⟨_, rfl, ?_⟩; replace HO_6 := ak (Kd.R_below (rz HO_6.out BK486.out) hb); replace BK486 := ak (blk_below (g := gb486) (o := .cells #[.int .i64 ((rd_T42 l0 x17_1).f0), .string ((rd_T42 l0 x17_1).f1), .int .i64 ((rd_T42 l0 x17_1).f2)] 42 (0, 0)) (vz BK486.out) hb); replace HB := bs HB hb; (try clear hb); (try clear hb2); (try clear hk); (try clear hi); have hcz17 := cz3 BK486.out; obtain ⟨Ao18, co18, eo18⟩ := Kd.R_slice HO_6.out; subst eo18) | ((with_reducible refine at_fn (f := 81) rfl ?_); refine gl (some 30) Try.func81 #[.slice Ao18 x6_1.length co18, .string ((rd_T42 l0 x17_1).f1)] ?_; (with_reducible refine (impl_putWord.calls k1 (fun k_ => some k_ = (.slice Ao18 x6_1.length co18 : Value).ownBlock) (.slice Ao18 x6_1.length co18) x6_1 ((rd_T42 l0 x17_1).f1) t488 w _ ?side1 ?side2 A13.out).mono ?_); (case side1 => exact vq HB.out GE486.out); (case side2 => exact Kd.R_tight rfl HO_6.out); rintro e w19 ⟨v489, rfl, ho0, hb, hkp⟩; refine ⟨_, rfl, ?_⟩; have n0_ := ak (blk_kept (vk BK486.out) hkp (fun hs_ => (fun e_ => (Kd.R_ne HO_6.out BK486.out (by decide)) e_) hs_)); have n1_ := ak (Kd.R_mono (ok' := fun k_ => True) ho0 (fun k_ hk_ => trivial)); have n2_ := ak (hb); clear BK486; clear HB; clear HO_6; have BK486 := n0_; have HO490 := n1_; have HB := n2_; clear n0_ n1_ n2_; (try clear hb); (try clear hkp); (try clear ho0)))
        go_roundg k1
        case measure => have := HK1.out; omega
        case rel => exact ⟨(t488), (wrap64 (x17_1 + 1)), (by first | rfl | (simp; done) | (simp [*]; done)), H', ⟨by have := HK1.out; omega⟩, ⟨by (with_reducible repeat (first | apply Kd.R_alloc | apply Kd.R_drewN | apply Kd.R_drew)); exact HO490.out⟩, ⟨vb HB.out⟩⟩
       ·rw [if_neg c12] at H; have c12b0 := decide_eq_false c12; clear c12; have H' := ak H; clear H; have p485 : 0 ≤ (x17_1 : Int) := od; have q485 : x17_1 < (l0.length : Int) := od; obtain ⟨ad485, e485, hx485_0, hx485_1, hx485_2⟩ := at_T42 HR0.out x17_1 p485 q485
        cases e485; replace hx485_0 := cb HB.out hx485_0; replace hx485_1 := cb HB.out hx485_1; replace hx485_2 := cb HB.out hx485_2; replace p485 := eq_true p485; replace q485 := eq_true q485; go_wp2_with (first | ((with_reducible refine gate_dst (N := 8) rfl ?_); refine bx 8 #[.int .i64 0, .string (⟨#[]⟩ : ByteArray), .int .i64 0] 42 ?_; intro gb486 hg w20 hbox hb; replace HO_6 := ak (Kd.R_below (vr HO_6.out) hb); have BK486 := ak hbox; have GW486 := gw hg HB; have GE486 := gw hg HB; replace HB := bs HB hb; clear hb hbox hg; have hcz21 := cz3 BK486.out) | ((with_reducible refine at_fn (f := 71) rfl ?_); refine gl (some 25) Try.func71 #[.slice (some ad485) l0.length c0, .string ((rd_T42 l0 x17_1).f1), .int .i64 a1] ?_; (with_reducible refine (impl_peopleIn.calls k1 _ _ l0 ((rd_T42 l0 x17_1).f1) a1 t487 _ ?side1 HC0.out A11.out).mono ?_); (case side1 => exact Kd.C_below HR0.out (vb HB.out)); rintro e w22 ⟨rfl, hb⟩; refine ⟨_, rfl, ?_⟩; replace HO_6 := ak (Kd.R_below (rz HO_6.out BK486.out) hb); replace BK486 := ak (blk_below (g := gb486) (o := .cells #[.int .i64 ((rd_T42 l0 x17_1).f0), .string ((rd_T42 l0 x17_1).f1), .int .i64 ((rd_T42 l0 x17_1).f2)] 42 (0, 0)) (vz BK486.out) hb); replace HB := bs HB hb; (try clear hb); (try clear hb2); (try clear hk); (try clear hi)))
        go_roundg k1
        case measure => have := HK1.out; omega
        case rel => exact ⟨(x6_1), (wrap64 (x17_1 + 1)), (by first | rfl | (simp; done) | (simp [*]; done)), H', ⟨by have := HK1.out; omega⟩, ⟨by (with_reducible repeat (first | apply Kd.R_alloc | apply Kd.R_drewN | apply Kd.R_drew)); exact HO_6.out⟩, ⟨vb HB.out⟩⟩
      ·rw [if_neg c10] at H; exact absurd H (by simp)
     ·rw [if_neg c9] at H; exact absurd H (by simp)
    ·rw [if_neg c8] at H; have c8b0 := decide_eq_false c8; clear c8; simp only [Option.some.injEq, Prod.mk.injEq] at H
     obtain ⟨rfl, rfl⟩ := H; go_wp2
     go_ret2
     exact ⟨_, ew, by (with_reducible repeat (first | apply Kd.R_alloc | apply Kd.R_drewN | apply Kd.R_drew)); exact HO_6.out, vb HB.out⟩
 replace c6 := Bool.eq_false_iff.mpr c6; subst c6; rw [if_neg nf] at H; simp only [Option.some.injEq, Prod.mk.injEq] at H
 obtain ⟨rfl, rfl⟩ := H; rotate_left
 replace c4 := Bool.eq_false_iff.mpr c4; subst c4; rw [if_neg nf] at H; simp only [Option.some.injEq, Prod.mk.injEq] at H
 obtain ⟨rfl, rfl⟩ := H; rotate_left
 all_goals
  go_enter Try.func36, Try.ntmps36; go_wp2_with (first | ((with_reducible refine at_fn (f := 18) rfl ?_); refine gl (some 10) Try.func18 #[.slice A0 l0.length c0] ?_; (with_reducible refine (impl_AreMoves.calls k _ _ l0 _ _ ?side1 HC0.out A3.out).mono ?_); (case side1 => exact vc HR0.out); rintro e w9 ⟨rfl, hb⟩; refine ⟨_, rfl, ?_⟩; replace HB := bs HB hb; (try clear hb); (try clear hb2); (try clear hk); (try clear hi)) | ((with_reducible refine at_fn (f := 68) rfl ?_); refine gl (some 13) Try.func68 #[.int .i64 a1] ?_; (with_reducible refine (impl_isTime.calls a1 _ _ A5.out).mono ?_); rintro e w' ⟨rfl, ⟨nd, rfl⟩⟩; refine ⟨_, rfl, ?_⟩))
  go_ret2
  exact ⟨_, ew, by first | exact Kd.R_nil _ _ _ _ _ | exact Kd.N_nil _ _ _ _ _ | exact Kd.V_nil _ _ _ _ _ | exact Kd.Q_nil _ _ _ _ _ | exact Kd.S_nil _ _ _ _ _, vb HB.out⟩


end Go.Proofs.Ytllhghcepbkpeaa.Pall
