/- Go functions of the program, each as a Lean function, and the proof that each call comes to what the Lean function tells; no condition beyond those that stand there. -/
import Derived.Test.YtllhghcepbkpeaaF00
import Derived.Test.YtllhghcepbkpeaaF03
import Derived.Test.YtllhghcepbkpeaaF06
import Derived.Test.YtllhghcepbkpeaaF08
import Derived.Test.YtllhghcepbkpeaaSpare
import Derived.Test.YtllhghcepbkpeaaCm
import Derived.Test.YtllhghcepbkpeaaCm3
namespace Go.Proofs.Ytllhghcepbkpeaa.Pall
open Go.RowKit Go.Proofs.YtllhghcepbkpeaaW.PrintWords
set_option linter.unusedVariables false
set_option linter.unusedSimpArgs false

/-! ### spec_FullestTime: function 22 -/
def spec_FullestTime.l0 : Nat → List (S42) → ByteArray → Int → Int → Int → Option (Int × Int × Int)
 | 0, _, _, _, _, _ => none
 | k + 1, x0, x1, x8, x9, x10 => if x10 < (x0.length : Int) then (if 0 ≤ x10 then ((spec_l20Upto.f k x0 ((rd_T42 x0 x10).f0)).bind fun t216 => ((spec_l20People.f k x0 x1 t216).bind fun t217 => (if t217 > x9 then (spec_FullestTime.l0 k x0 x1 ((rd_T42 x0 x10).f0) t217 (wrap64 (x10 + 1))) else (spec_FullestTime.l0 k x0 x1 x8 x9 (wrap64 (x10 + 1)))))) else (none)) else (some (x8, x9, 0))
def spec_FullestTime.f (k : Nat) (l0 : List (S42)) (a1 : ByteArray) : Option (Int × Int × Int) := (spec_l20Code.f k l0 a1 0).bind fun t214 => (if t214 = 0 then (spec_FullestTime.l0 k l0 a1 0 0 0) else (some (0, 0, t214)))
theorem spec_FullestTime.mono_l : ∀ k, (∀ y0 y1 y2 y3 y4, LeO (spec_FullestTime.l0 k y0 y1 y2 y3 y4) (spec_FullestTime.l0 (k + 1) y0 y1 y2 y3 y4))
 | 0 => fun _ _ _ _ _ r h => by simp [spec_FullestTime.l0] at h
 | k + 1 => by
  have ih0 := spec_FullestTime.mono_l k
  ·intro y0 y1 y2 y3 y4; unfold spec_FullestTime.l0
   repeat' first | (with_reducible first | exact ih0 _ _ _ _ _ | exact spec_l20Code.mono _ _ _ _ | exact spec_l20People.mono _ _ _ _ | exact spec_l20Upto.mono _ _ _ | exact LeO.refl _ | exact LeO.none _ | refine LeO.ite ?_ ?_ | refine LeO.bind ?_ (fun _ => ?_)) | exact ih0 _ _ _ _ _ | exact spec_l20Code.mono _ _ _ _ | exact spec_l20People.mono _ _ _ _ | exact spec_l20Upto.mono _ _ _ | exact LeO.none _ | refine LeO.ite ?_ ?_ | refine LeO.bind ?_ (fun _ => ?_)
theorem spec_FullestTime.mono : ∀ a0 a1 k, LeO (spec_FullestTime.f k a0 a1) (spec_FullestTime.f (k + 1) a0 a1) := by
 intro a0 a1 k; have ih0 := spec_FullestTime.mono_l k; unfold spec_FullestTime.f
 repeat' first | (with_reducible first | exact ih0 _ _ _ _ _ | exact spec_l20Code.mono _ _ _ _ | exact spec_l20People.mono _ _ _ _ | exact spec_l20Upto.mono _ _ _ | exact LeO.refl _ | exact LeO.none _ | refine LeO.ite ?_ ?_ | refine LeO.bind ?_ (fun _ => ?_)) | exact ih0 _ _ _ _ _ | exact spec_l20Code.mono _ _ _ _ | exact spec_l20People.mono _ _ _ _ | exact spec_l20Upto.mono _ _ _ | exact LeO.none _ | refine LeO.ite ?_ ?_ | refine LeO.bind ?_ (fun _ => ?_)
set_option maxHeartbeats 8000000 in
set_option maxRecDepth 100000 in
theorem spec_FullestTime.calls (k : Nat) (A0 : Option Addr) (c0 : Nat) (l0 : List (S42)) (a1 : ByteArray) (r1 : Int) (r2 : Int) (r3 : Int) (w : World) (hr0 : Kd.C k42 w A0 l0.length l0) (hc0 : l0.length ≤ c0) (h : spec_FullestTime.f k l0 a1 = some (r1, r2, r3)) :
  Calls Try.prog 22 #[.slice A0 l0.length c0, .string a1] w fun e w' => e = .returned (.tuple #[.int .i64 r1, .int .i64 r2, .int .i64 r3]) ∧ Below w.heap.size w w' := by
 have HR0 := ak hr0; have HC0 := ak hc0; clear hr0 hc0; have HB := ak (Below.refl w.heap.size w); unfold spec_FullestTime.f at h; have H := h; clear h; obtain ⟨t214, A3, H⟩ := bnk H; by_cases c4 : t214 = 0
 ·rw [if_pos c4] at H; obtain ⟨c4b0, c4b1⟩ := bqt c4; clear c4; have H' := ak H; clear H; go_enter Try.func22, Try.ntmps22; go_wp2_with (first | ((with_reducible refine at_fn (f := 72) rfl ?_); refine gl (some 14) Try.func72 #[.slice A0 l0.length c0, .string a1, .int .i64 0] ?_; (with_reducible refine (spec_l20Code.calls k _ _ l0 a1 0 t214 _ ?side1 HC0.out A3.out).mono ?_); (case side1 => exact vc HR0.out); rintro e w5 ⟨rfl, hb⟩; refine ⟨_, rfl, ?_⟩; replace HB := bs HB hb; (try clear hb); (try clear hb2); (try clear hk); (try clear hi)))
  go_loopg [8, 9, 10] k (fun kq v8 v9 v10 w' => ∃ (x8_1 : Int) (x9_1 : Int) (x10_1 : Int), v8 = .int .i64 x8_1 ∧ v9 = .int .i64 x9_1 ∧ v10 = .int .i64 x10_1 ∧ Aside0 (spec_FullestTime.l0 kq l0 a1 x8_1 x9_1 x10_1 = some (r1, r2, r3)) ∧ Aside0 (kq ≤ k) ∧ Aside0 (Below w.heap.size w w'))
  case atStart => exact ⟨(0), (0), (0), (by first | rfl | (simp; done) | (simp [*]; done)), (by first | rfl | (simp; done) | (simp [*]; done)), (by first | rfl | (simp; done) | (simp [*]; done)), H', ⟨Nat.le_refl _⟩, ⟨vb HB.out⟩⟩
  case round =>
   clear H'; (try clear c2); (try clear p2); (try clear c4); (try clear c4b0); (try clear c4b1); obtain ⟨x8_1, x9_1, x10_1, rfl, rfl, rfl, HA, HK1, HB⟩ := hrel
   cases gk with
   | zero => exact absurd HA.out (by simp [spec_FullestTime.l0])
   | succ k1 =>
    have H := HA.out; clear HA; simp only [spec_FullestTime.l0] at H
    by_cases c6 : x10_1 < (l0.length : Int)
    ·rw [if_pos c6] at H; have c6b0 := decide_eq_true c6; clear c6; by_cases c7 : 0 ≤ x10_1
     ·rw [if_pos c7] at H; have c7b0 := decide_eq_true c7; clear c7; obtain ⟨t216, A8, H⟩ := bnk H; obtain ⟨t217, A9, H⟩ := bnk H; by_cases c10 : t217 > x9_1
      ·rw [if_pos c10] at H; have c10b0 := decide_eq_true c10; clear c10; have H' := ak H; clear H; have p215 : 0 ≤ (x10_1 : Int) := od; have q215 : x10_1 < (l0.length : Int) := od; obtain ⟨ad215, e215, hx215_0, hx215_1, hx215_2⟩ := at_T42 HR0.out x10_1 p215 q215
       cases e215; replace hx215_0 := cb HB.out hx215_0; replace hx215_1 := cb HB.out hx215_1; replace hx215_2 := cb HB.out hx215_2; replace p215 := eq_true p215; replace q215 := eq_true q215; go_wp2_with (first | ((with_reducible refine at_fn (f := 73) rfl ?_); refine gl (some 32) Try.func73 #[.slice (some ad215) l0.length c0, .int .i64 ((rd_T42 l0 x10_1).f0)] ?_; (with_reducible refine (spec_l20Upto.calls k1 _ _ l0 ((rd_T42 l0 x10_1).f0) t216 _ ?side1 HC0.out A8.out).mono ?_); (case side1 => exact vd HR0.out HB.out); rintro e w' ⟨rfl, ⟨nd, rfl⟩⟩; refine ⟨_, rfl, ?_⟩) | ((with_reducible refine at_fn (f := 65) rfl ?_); refine gl (some 33) Try.func65 #[.slice (some ad215) l0.length c0, .string a1, .int .i64 t216] ?_; (with_reducible refine (spec_l20People.calls k1 _ _ l0 a1 t216 t217 _ ?side1 HC0.out A9.out).mono ?_); (case side1 => exact vd HR0.out (vb HB.out)); rintro e w' ⟨rfl, ⟨nd, rfl⟩⟩; refine ⟨_, rfl, ?_⟩; have p218 : 0 ≤ (x10_1 : Int) := od; have q218 : x10_1 < (l0.length : Int) := od; obtain ⟨ad218, e218, hx218_0, hx218_1, hx218_2⟩ := at_T42 HR0.out x10_1 p218 q218; obtain rfl : ad215 = ad218 := (by injection e218); replace hx218_0 := cb HB.out hx218_0; replace hx218_1 := cb HB.out hx218_1; replace hx218_2 := cb HB.out hx218_2; replace p218 := eq_true p218; replace q218 := eq_true q218))
       go_roundg k1
       case measure => have := HK1.out; omega
       case rel => exact ⟨((rd_T42 l0 x10_1).f0), (t217), (wrap64 (x10_1 + 1)), (by first | rfl | (simp; done) | (simp [*]; done)), (by first | rfl | (simp; done) | (simp [*]; done)), (by first | rfl | (simp; done) | (simp [*]; done)), H', ⟨by have := HK1.out; omega⟩, ⟨vb HB.out⟩⟩
      ·rw [if_neg c10] at H; have c10b0 := decide_eq_false c10; clear c10; have H' := ak H; clear H; have p215 : 0 ≤ (x10_1 : Int) := od; have q215 : x10_1 < (l0.length : Int) := od; obtain ⟨ad215, e215, hx215_0, hx215_1, hx215_2⟩ := at_T42 HR0.out x10_1 p215 q215
       cases e215; replace hx215_0 := cb HB.out hx215_0; replace hx215_1 := cb HB.out hx215_1; replace hx215_2 := cb HB.out hx215_2; replace p215 := eq_true p215; replace q215 := eq_true q215; go_wp2_with (first | ((with_reducible refine at_fn (f := 73) rfl ?_); refine gl (some 32) Try.func73 #[.slice (some ad215) l0.length c0, .int .i64 ((rd_T42 l0 x10_1).f0)] ?_; (with_reducible refine (spec_l20Upto.calls k1 _ _ l0 ((rd_T42 l0 x10_1).f0) t216 _ ?side1 HC0.out A8.out).mono ?_); (case side1 => exact vd HR0.out HB.out); rintro e w' ⟨rfl, ⟨nd, rfl⟩⟩; refine ⟨_, rfl, ?_⟩) | ((with_reducible refine at_fn (f := 65) rfl ?_); refine gl (some 33) Try.func65 #[.slice (some ad215) l0.length c0, .string a1, .int .i64 t216] ?_; (with_reducible refine (spec_l20People.calls k1 _ _ l0 a1 t216 t217 _ ?side1 HC0.out A9.out).mono ?_); (case side1 => exact vd HR0.out (vb HB.out)); rintro e w' ⟨rfl, ⟨nd, rfl⟩⟩; refine ⟨_, rfl, ?_⟩))
       go_roundg k1
       case measure => have := HK1.out; omega
       case rel => exact ⟨(x8_1), (x9_1), (wrap64 (x10_1 + 1)), (by first | rfl | (simp; done) | (simp [*]; done)), (by first | rfl | (simp; done) | (simp [*]; done)), (by first | rfl | (simp; done) | (simp [*]; done)), H', ⟨by have := HK1.out; omega⟩, ⟨vb HB.out⟩⟩
     ·rw [if_neg c7] at H; exact absurd H (by simp)
    ·rw [if_neg c6] at H; have c6b0 := decide_eq_false c6; clear c6; simp only [Option.some.injEq, Prod.mk.injEq] at H
     obtain ⟨rfl, rfl, rfl⟩ := H; go_wp2
     go_ret3
     exact ⟨ew, vb HB.out⟩
 ·rw [if_neg c4] at H; obtain ⟨c4b0, c4b1⟩ := bqf c4; simp only [Option.some.injEq, Prod.mk.injEq] at H
  obtain ⟨rfl, rfl, rfl⟩ := H; go_enter Try.func22, Try.ntmps22; go_wp2_with (first | ((with_reducible refine at_fn (f := 72) rfl ?_); refine gl (some 14) Try.func72 #[.slice A0 l0.length c0, .string a1, .int .i64 0] ?_; (with_reducible refine (spec_l20Code.calls k _ _ l0 a1 0 t214 _ ?side1 HC0.out A3.out).mono ?_); (case side1 => exact vc HR0.out); rintro e w11 ⟨rfl, hb⟩; refine ⟨_, rfl, ?_⟩; replace HB := bs HB hb; (try clear hb); (try clear hb2); (try clear hk); (try clear hi)))
  go_ret3
  exact ⟨ew, vb HB.out⟩


/-! ### impl_FullestTime: function 23 -/
mutual
def impl_FullestTime.j0 : Nat → List (S42) → ByteArray → Bool → Option (Int × Int × Int)
 | 0, _, _, _ => none
 | k + 1, x0, x1, x19 => if x19 = true then (some (0, 0, 1)) else (impl_FullestTime.l0 k x0 x1 0 0 x0 (x0.length : Int) 0)
def impl_FullestTime.l0 : Nat → List (S42) → ByteArray → Int → Int → List (S42) → Int → Int → Option (Int × Int × Int)
 | 0, _, _, _, _, _, _, _ => none
 | k + 1, x0, x1, x7, x8, x20, x21, x22 => if x22 < x21 then (if 0 ≤ x22 then (if x22 < (x20.length : Int) then ((impl_peopleIn.f k x0 x1 ((rd_T42 x20 x22).f0)).bind fun t223 => (if t223 > x8 then (impl_FullestTime.l0 k x0 x1 ((rd_T42 x20 x22).f0) t223 x20 x21 (wrap64 (x22 + 1))) else (impl_FullestTime.l0 k x0 x1 x7 x8 x20 x21 (wrap64 (x22 + 1))))) else (none)) else (none)) else (some (x7, x8, 0))
end
def impl_FullestTime.f (k : Nat) (l0 : List (S42)) (a1 : ByteArray) : Option (Int × Int × Int) := (impl_AreMoves.f k l0).bind fun t219 => (if t219 = true then ((impl_IsWord.f k a1).bind fun t220 => (impl_FullestTime.j0 k l0 a1 (!t220))) else (impl_FullestTime.j0 k l0 a1 true))
theorem impl_FullestTime.mono_l : ∀ k, (∀ y0 y1 y2, LeO (impl_FullestTime.j0 k y0 y1 y2) (impl_FullestTime.j0 (k + 1) y0 y1 y2)) ∧ (∀ y0 y1 y2 y3 y4 y5 y6, LeO (impl_FullestTime.l0 k y0 y1 y2 y3 y4 y5 y6) (impl_FullestTime.l0 (k + 1) y0 y1 y2 y3 y4 y5 y6))
 | 0 => ⟨fun _ _ _ r h => by simp [impl_FullestTime.j0] at h, fun _ _ _ _ _ _ _ r h => by simp [impl_FullestTime.l0] at h⟩
 | k + 1 => by
  obtain ⟨ih0, ih1⟩ := impl_FullestTime.mono_l k; refine ⟨?_, ?_⟩
  ·intro y0 y1 y2; unfold impl_FullestTime.j0
   repeat' first | (with_reducible first | exact ih0 _ _ _ | exact ih1 _ _ _ _ _ _ _ | exact impl_AreMoves.mono _ _ | exact impl_IsWord.mono _ _ | exact impl_peopleIn.mono _ _ _ _ | exact LeO.refl _ | exact LeO.none _ | refine LeO.ite ?_ ?_ | refine LeO.bind ?_ (fun _ => ?_)) | exact ih0 _ _ _ | exact ih1 _ _ _ _ _ _ _ | exact impl_AreMoves.mono _ _ | exact impl_IsWord.mono _ _ | exact impl_peopleIn.mono _ _ _ _ | exact LeO.none _ | refine LeO.ite ?_ ?_ | refine LeO.bind ?_ (fun _ => ?_)
  ·intro y0 y1 y2 y3 y4 y5 y6; unfold impl_FullestTime.l0
   repeat' first | (with_reducible first | exact ih0 _ _ _ | exact ih1 _ _ _ _ _ _ _ | exact impl_AreMoves.mono _ _ | exact impl_IsWord.mono _ _ | exact impl_peopleIn.mono _ _ _ _ | exact LeO.refl _ | exact LeO.none _ | refine LeO.ite ?_ ?_ | refine LeO.bind ?_ (fun _ => ?_)) | exact ih0 _ _ _ | exact ih1 _ _ _ _ _ _ _ | exact impl_AreMoves.mono _ _ | exact impl_IsWord.mono _ _ | exact impl_peopleIn.mono _ _ _ _ | exact LeO.none _ | refine LeO.ite ?_ ?_ | refine LeO.bind ?_ (fun _ => ?_)
theorem impl_FullestTime.mono : ∀ a0 a1 k, LeO (impl_FullestTime.f k a0 a1) (impl_FullestTime.f (k + 1) a0 a1) := by
 intro a0 a1 k; obtain ⟨ih0, ih1⟩ := impl_FullestTime.mono_l k; unfold impl_FullestTime.f
 repeat' first | (with_reducible first | exact ih0 _ _ _ | exact ih1 _ _ _ _ _ _ _ | exact impl_AreMoves.mono _ _ | exact impl_IsWord.mono _ _ | exact impl_peopleIn.mono _ _ _ _ | exact LeO.refl _ | exact LeO.none _ | refine LeO.ite ?_ ?_ | refine LeO.bind ?_ (fun _ => ?_)) | exact ih0 _ _ _ | exact ih1 _ _ _ _ _ _ _ | exact impl_AreMoves.mono _ _ | exact impl_IsWord.mono _ _ | exact impl_peopleIn.mono _ _ _ _ | exact LeO.none _ | refine LeO.ite ?_ ?_ | refine LeO.bind ?_ (fun _ => ?_)
set_option maxHeartbeats 8000000 in
set_option maxRecDepth 100000 in
theorem impl_FullestTime.calls (k : Nat) (A0 : Option Addr) (c0 : Nat) (l0 : List (S42)) (a1 : ByteArray) (r1 : Int) (r2 : Int) (r3 : Int) (w : World) (hr0 : Kd.C k42 w A0 l0.length l0) (hc0 : l0.length ≤ c0) (h : impl_FullestTime.f k l0 a1 = some (r1, r2, r3)) :
  Calls Try.prog 23 #[.slice A0 l0.length c0, .string a1] w fun e w' => e = .returned (.tuple #[.int .i64 r1, .int .i64 r2, .int .i64 r3]) ∧ Below w.heap.size w w' := by
 have hu42 := Try.underlying42; have HR0 := ak hr0; have HC0 := ak hc0; clear hr0 hc0; have HB := ak (Below.refl w.heap.size w); unfold impl_FullestTime.f at h; have H := h; clear h; have HC3 := ak H; clear H; go_enter Try.func23, Try.ntmps23; go_upto_region 1 with (fail)
 go_cut [19] (fun v19 wc => ∃ (kq : Nat) (x19_2 : Bool), v19 = .bool x19_2 ∧ Aside0 (impl_FullestTime.j0 kq l0 a1 x19_2 = some (r1, r2, r3)) ∧ Aside0 (kq ≤ k) ∧ Aside0 (Below w.heap.size w wc))
 case first =>
  have H := HC3.out; clear HC3; obtain ⟨t219, A4, H⟩ := bnk H; by_cases c5 : t219 = true
  ·subst c5; rw [if_pos rfl] at H; obtain ⟨t220, A6, H⟩ := bnk H; have H' := ak H; clear H; go_wp2_with (first | ((with_reducible refine at_fn (f := 18) rfl ?_); refine gl (some 13) Try.func18 #[.slice A0 l0.length c0] ?_; (with_reducible refine (impl_AreMoves.calls k _ _ l0 _ _ ?side1 HC0.out A4.out).mono ?_); (case side1 => exact vd HR0.out HB.out); rintro e w7 ⟨rfl, hb⟩; refine ⟨_, rfl, ?_⟩; replace HB := bs HB hb; (try clear hb); (try clear hb2); (try clear hk); (try clear hi)) | (go_at_call 69; (with_reducible refine (impl_IsWord.calls k a1 t220 _ A6.out).mono ?_); rintro e w' ⟨rfl, ⟨nd, rfl⟩⟩))
   go_meet
   case rel => exact ⟨_, (!t220), (by first | rfl | (simp; done) | (simp [*]; done)), H', ⟨by first | omega | exact Nat.le_refl _⟩, ⟨vb HB.out⟩⟩
  ·replace c5 := Bool.eq_false_iff.mpr c5; subst c5; rw [if_neg nf] at H; have H' := ak H; clear H; go_wp2_with (first | ((with_reducible refine at_fn (f := 18) rfl ?_); refine gl (some 13) Try.func18 #[.slice A0 l0.length c0] ?_; (with_reducible refine (impl_AreMoves.calls k _ _ l0 _ _ ?side1 HC0.out A4.out).mono ?_); (case side1 => exact vd HR0.out HB.out); rintro e w8 ⟨rfl, hb⟩; refine ⟨_, rfl, ?_⟩; replace HB := bs HB hb; (try clear hb); (try clear hb2); (try clear hk); (try clear hi)))
   go_meet
   case rel => exact ⟨_, (true), (by first | rfl | (simp; done) | (simp [*]; done)), H', ⟨by first | omega | exact Nat.le_refl _⟩, ⟨vb HB.out⟩⟩
 case rest =>
  clear HC3; (try clear c1); (try clear c2); (try clear p2); (try clear c5); obtain ⟨kq, x19_2, rfl, HA, HJ2, HB⟩ := hcut
  cases kq with
  | zero => exact absurd HA.out (by simp [impl_FullestTime.j0])
  | succ kj2 =>
   have H := HA.out; clear HA; simp only [impl_FullestTime.j0] at H
   by_cases c9 : x19_2 = true
   ·subst c9; rw [if_pos rfl] at H; simp only [Option.some.injEq, Prod.mk.injEq] at H
    obtain ⟨rfl, rfl, rfl⟩ := H; go_wp2
    go_ret3
    exact ⟨ew, vb HB.out⟩
   ·replace c9 := Bool.eq_false_iff.mpr c9; subst c9; rw [if_neg nf] at H; have H' := ak H; clear H; go_wp2
    go_loopg [7, 8, 22] kj2 (fun kq v7 v8 v22 w' => ∃ (x7_2 : Int) (x8_2 : Int) (x22_2 : Int), v7 = .int .i64 x7_2 ∧ v8 = .int .i64 x8_2 ∧ v22 = .int .i64 x22_2 ∧ Aside0 (impl_FullestTime.l0 kq l0 a1 x7_2 x8_2 l0 (l0.length : Int) x22_2 = some (r1, r2, r3)) ∧ Aside0 (kq ≤ kj2) ∧ Aside0 (Below w.heap.size w w'))
    case atStart => exact ⟨(0), (0), (0), (by first | rfl | (simp; done) | (simp [*]; done)), (by first | rfl | (simp; done) | (simp [*]; done)), (by first | rfl | (simp; done) | (simp [*]; done)), H', ⟨Nat.le_refl _⟩, ⟨vb HB.out⟩⟩
    case round =>
     clear H'; (try clear c1); (try clear c2); (try clear p2); (try clear c5); (try clear c9); (try clear p2); obtain ⟨x7_2, x8_2, x22_2, rfl, rfl, rfl, HA, HK2, HB⟩ := hrel
     cases gk with
     | zero => exact absurd HA.out (by simp [impl_FullestTime.l0])
     | succ k2 =>
      have H := HA.out; clear HA; simp only [impl_FullestTime.l0] at H
      by_cases c10 : x22_2 < (l0.length : Int)
      ·rw [if_pos c10] at H; have c10b0 := decide_eq_true c10; clear c10; by_cases c11 : 0 ≤ x22_2
       ·rw [if_pos c11] at H; have c11b0 := decide_eq_true c11; clear c11; by_cases c12 : x22_2 < (l0.length : Int)
        ·rw [if_pos c12] at H; have c12b0 := decide_eq_true c12; clear c12; obtain ⟨t223, A13, H⟩ := bnk H; by_cases c14 : t223 > x8_2
         ·rw [if_pos c14] at H; have c14b0 := decide_eq_true c14; clear c14; have H' := ak H; clear H; have p221 : 0 ≤ (x22_2 : Int) := od; have q221 : x22_2 < (l0.length : Int) := od; obtain ⟨ad221, e221, hx221_0, hx221_1, hx221_2⟩ := at_T42 HR0.out x22_2 p221 q221
          cases e221; replace hx221_0 := cb HB.out hx221_0; replace hx221_1 := cb HB.out hx221_1; replace hx221_2 := cb HB.out hx221_2; replace p221 := eq_true p221; replace q221 := eq_true q221; go_wp2_with (first | ((with_reducible refine gate_dst (N := 10) rfl ?_); refine bx 10 #[.int .i64 0, .string (⟨#[]⟩ : ByteArray), .int .i64 0] 42 ?_; intro gb222 hg w15 hbox hb; have BK222 := ak hbox; have GW222 := gw hg HB; have GE222 := gw hg HB; replace HB := bs HB hb; clear hb hbox hg; have hcz16 := cz3 BK222.out) | ((with_reducible refine at_fn (f := 71) rfl ?_); refine gl (some 30) Try.func71 #[.slice (some ad221) l0.length c0, .string a1, .int .i64 ((rd_T42 l0 x22_2).f0)] ?_; (with_reducible refine (impl_peopleIn.calls k2 _ _ l0 a1 ((rd_T42 l0 x22_2).f0) t223 _ ?side1 HC0.out A13.out).mono ?_); (case side1 => exact Kd.C_below HR0.out (vb HB.out)); rintro e w17 ⟨rfl, hb⟩; refine ⟨_, rfl, ?_⟩; replace BK222 := ak (blk_below (g := gb222) (o := .cells #[.int .i64 ((rd_T42 l0 x22_2).f0), .string ((rd_T42 l0 x22_2).f1), .int .i64 ((rd_T42 l0 x22_2).f2)] 42 (0, 0)) (vz BK222.out) hb); replace HB := bs HB hb; (try clear hb); (try clear hb2); (try clear hk); (try clear hi); have hcz18 := cz3 BK222.out))
          go_roundg k2
          case measure => have := HJ2.out; have := HK2.out; omega
          case rel => exact ⟨((rd_T42 l0 x22_2).f0), (t223), (wrap64 (x22_2 + 1)), (by first | rfl | (simp; done) | (simp [*]; done)), (by first | rfl | (simp; done) | (simp [*]; done)), (by first | rfl | (simp; done) | (simp [*]; done)), H', ⟨by have := HJ2.out; have := HK2.out; omega⟩, ⟨vb HB.out⟩⟩
         ·rw [if_neg c14] at H; have c14b0 := decide_eq_false c14; clear c14; have H' := ak H; clear H; have p221 : 0 ≤ (x22_2 : Int) := od; have q221 : x22_2 < (l0.length : Int) := od; obtain ⟨ad221, e221, hx221_0, hx221_1, hx221_2⟩ := at_T42 HR0.out x22_2 p221 q221
          cases e221; replace hx221_0 := cb HB.out hx221_0; replace hx221_1 := cb HB.out hx221_1; replace hx221_2 := cb HB.out hx221_2; replace p221 := eq_true p221; replace q221 := eq_true q221; go_wp2_with (first | ((with_reducible refine gate_dst (N := 10) rfl ?_); refine bx 10 #[.int .i64 0, .string (⟨#[]⟩ : ByteArray), .int .i64 0] 42 ?_; intro gb222 hg w19 hbox hb; have BK222 := ak hbox; have GW222 := gw hg HB; have GE222 := gw hg HB; replace HB := bs HB hb; clear hb hbox hg; have hcz20 := cz3 BK222.out) | ((with_reducible refine at_fn (f := 71) rfl ?_); refine gl (some 30) Try.func71 #[.slice (some ad221) l0.length c0, .string a1, .int .i64 ((rd_T42 l0 x22_2).f0)] ?_; (with_reducible refine (impl_peopleIn.calls k2 _ _ l0 a1 ((rd_T42 l0 x22_2).f0) t223 _ ?side1 HC0.out A13.out).mono ?_); (case side1 => exact Kd.C_below HR0.out (vb HB.out)); rintro e w21 ⟨rfl, hb⟩; refine ⟨_, rfl, ?_⟩; replace BK222 := ak (blk_below (g := gb222) (o := .cells #[.int .i64 ((rd_T42 l0 x22_2).f0), .string ((rd_T42 l0 x22_2).f1), .int .i64 ((rd_T42 l0 x22_2).f2)] 42 (0, 0)) (vz BK222.out) hb); replace HB := bs HB hb; (try clear hb); (try clear hb2); (try clear hk); (try clear hi)))
          go_roundg k2
          case measure => have := HJ2.out; have := HK2.out; omega
          case rel => exact ⟨(x7_2), (x8_2), (wrap64 (x22_2 + 1)), (by first | rfl | (simp; done) | (simp [*]; done)), (by first | rfl | (simp; done) | (simp [*]; done)), (by first | rfl | (simp; done) | (simp [*]; done)), H', ⟨by have := HJ2.out; have := HK2.out; omega⟩, ⟨vb HB.out⟩⟩
        ·rw [if_neg c12] at H; exact absurd H (by simp)
       ·rw [if_neg c11] at H; exact absurd H (by simp)
      ·rw [if_neg c10] at H; have c10b0 := decide_eq_false c10; clear c10; simp only [Option.some.injEq, Prod.mk.injEq] at H
       obtain ⟨rfl, rfl, rfl⟩ := H; go_wp2
       go_ret3
       exact ⟨ew, vb HB.out⟩


end Go.Proofs.Ytllhghcepbkpeaa.Pall
