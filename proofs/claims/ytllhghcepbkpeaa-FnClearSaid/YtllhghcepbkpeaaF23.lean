/- Go functions of the program, each as a Lean function, and the proof that each call comes to what the Lean function tells; no condition beyond those that stand there. -/
import Derived.Test.YtllhghcepbkpeaaF00
import Derived.Test.YtllhghcepbkpeaaF03
import Derived.Test.YtllhghcepbkpeaaF06
import Derived.Test.YtllhghcepbkpeaaF08
import Derived.Test.YtllhghcepbkpeaaF14
import Derived.Test.YtllhghcepbkpeaaSpare
import Derived.Test.YtllhghcepbkpeaaCm
import Derived.Test.YtllhghcepbkpeaaCm3
namespace Go.Proofs.Ytllhghcepbkpeaa.Pall
open Go.RowKit Go.Proofs.YtllhghcepbkpeaaW.PrintWords
set_option linter.unusedVariables false
set_option linter.unusedSimpArgs false

/-! ### spec_l01All: function 82 -/
def spec_l01All.l0 : Nat → List ByteArray → Int → Option (Bool)
 | 0, _, _ => none
 | k + 1, x0, x3 => if x3 < (x0.length : Int) then (if 0 ≤ x3 then ((spec_IsWord.f k (rdOf ByteArray.empty x0 x3)).bind fun t506 => (if t506 = true then (spec_l01All.l0 k x0 (wrap64 (x3 + 1))) else (some false))) else (none)) else (some true)
def spec_l01All.f (k : Nat) (l0 : List ByteArray) : Option (Bool) := spec_l01All.l0 k l0 0
theorem spec_l01All.mono_l : ∀ k, (∀ y0 y1, LeO (spec_l01All.l0 k y0 y1) (spec_l01All.l0 (k + 1) y0 y1))
 | 0 => fun _ _ r h => by simp [spec_l01All.l0] at h
 | k + 1 => by
  have ih0 := spec_l01All.mono_l k
  ·intro y0 y1; unfold spec_l01All.l0
   repeat' first | (with_reducible first | exact ih0 _ _ | exact spec_IsWord.mono _ _ | exact LeO.refl _ | exact LeO.none _ | refine LeO.ite ?_ ?_ | refine LeO.bind ?_ (fun _ => ?_)) | exact ih0 _ _ | exact spec_IsWord.mono _ _ | exact LeO.none _ | refine LeO.ite ?_ ?_ | refine LeO.bind ?_ (fun _ => ?_)
theorem spec_l01All.mono : ∀ a0 k, LeO (spec_l01All.f k a0) (spec_l01All.f (k + 1) a0) := by
 intro a0 k; have ih0 := spec_l01All.mono_l k; unfold spec_l01All.f
 repeat' first | (with_reducible first | exact ih0 _ _ | exact spec_IsWord.mono _ _ | exact LeO.refl _ | exact LeO.none _ | refine LeO.ite ?_ ?_ | refine LeO.bind ?_ (fun _ => ?_)) | exact ih0 _ _ | exact spec_IsWord.mono _ _ | exact LeO.none _ | refine LeO.ite ?_ ?_ | refine LeO.bind ?_ (fun _ => ?_)
set_option maxHeartbeats 8000000 in
set_option maxRecDepth 100000 in
theorem spec_l01All.calls (k : Nat) (A0 : Option Addr) (c0 : Nat) (l0 : List ByteArray) (r : Bool) (w : World) (hr0 : Kd.C Kd.string w A0 l0.length l0) (hc0 : l0.length ≤ c0) (h : spec_l01All.f k l0 = some r) :
  Calls Try.prog 82 #[.slice A0 l0.length c0] w fun e w' => e = .returned (.bool r) ∧ Drawn0 w w' := by
 have HR0 := ak hr0; have HC0 := ak hc0; clear hr0 hc0; unfold spec_l01All.f at h; have H := h; clear h; have H' := ak H; clear H; go_enter Try.func82, Try.ntmps82; go_wp2
 go_loopg [3] k (fun kq v3 w' => ∃ (x3_1 : Int), v3 = .int .i64 x3_1 ∧ Aside0 (spec_l01All.l0 kq l0 x3_1 = some r) ∧ Aside0 (kq ≤ k) ∧ Drawn0 w w')
 case atStart => exact ⟨(0), (by first | rfl | (simp; done) | (simp [*]; done)), H', ⟨Nat.le_refl _⟩, by repeat (first | exact Drawn0.refl _ | apply Drawn0.step)⟩
 case round =>
  clear H'; obtain ⟨x3_1, rfl, HA, HK1, ⟨m1, rfl⟩⟩ := hrel
  cases gk with
  | zero => exact absurd HA.out (by simp [spec_l01All.l0])
  | succ k1 =>
   have H := HA.out; clear HA; simp only [spec_l01All.l0] at H
   by_cases c2 : x3_1 < (l0.length : Int)
   ·rw [if_pos c2] at H; have c2b0 := decide_eq_true c2; clear c2; by_cases c3 : 0 ≤ x3_1
    ·rw [if_pos c3] at H; have c3b0 := decide_eq_true c3; clear c3; obtain ⟨t506, A4, H⟩ := bnk H; by_cases c5 : t506 = true
     ·subst c5; rw [if_pos rfl] at H; have H' := ak H; clear H; have p505 : 0 ≤ (x3_1 : Int) := od; have q505 : x3_1 < (l0.length : Int) := od; obtain ⟨ad505, e505, hx505_0⟩ := Kd.at_string HR0.out x3_1 p505 q505
      cases e505; replace p505 := eq_true p505; replace q505 := eq_true q505; go_wp2_with (first | ((with_reducible refine at_fn (f := 63) rfl ?_); refine gl (some 14) Try.func63 #[.string (rdOf ByteArray.empty l0 x3_1)] ?_; (with_reducible refine (spec_IsWord.calls k1 (rdOf ByteArray.empty l0 x3_1) _ _ A4.out).mono ?_); rintro e w' ⟨rfl, ⟨nd, rfl⟩⟩; refine ⟨_, rfl, ?_⟩))
      go_roundg k1
      case measure => have := HK1.out; omega
      case rel => exact ⟨(wrap64 (x3_1 + 1)), (by first | rfl | (simp; done) | (simp [*]; done)), H', ⟨by have := HK1.out; omega⟩, by repeat (first | exact Drawn0.refl _ | apply Drawn0.step)⟩
     ·replace c5 := Bool.eq_false_iff.mpr c5; subst c5; rw [if_neg nf] at H; obtain rfl := Option.some.inj H; have p505 : 0 ≤ (x3_1 : Int) := od; have q505 : x3_1 < (l0.length : Int) := od; obtain ⟨ad505, e505, hx505_0⟩ := Kd.at_string HR0.out x3_1 p505 q505
      cases e505; replace p505 := eq_true p505; replace q505 := eq_true q505; go_wp2_with (first | ((with_reducible refine at_fn (f := 63) rfl ?_); refine gl (some 14) Try.func63 #[.string (rdOf ByteArray.empty l0 x3_1)] ?_; (with_reducible refine (spec_IsWord.calls k1 (rdOf ByteArray.empty l0 x3_1) _ _ A4.out).mono ?_); rintro e w' ⟨rfl, ⟨nd, rfl⟩⟩; refine ⟨_, rfl, ?_⟩))
      go_ret
      exact ⟨by first | rfl | (simp; done) | (simp [*]; done), by repeat (first | exact Drawn0.refl _ | apply Drawn0.step)⟩
    ·rw [if_neg c3] at H; exact absurd H (by simp)
   ·rw [if_neg c2] at H; have c2b0 := decide_eq_false c2; clear c2; obtain rfl := Option.some.inj H; go_wp2
    go_ret
    exact ⟨by first | rfl | (simp; done) | (simp [*]; done), by repeat (first | exact Drawn0.refl _ | apply Drawn0.step)⟩


/-! ### spec_AreAllClear: function 41 -/
mutual
def spec_AreAllClear.j0 : Nat → List (S42) → List ByteArray → Int → Bool → Option (Bool × Int)
 | 0, _, _, _, _ => none
 | k + 1, x0, x1, x2, x17 => if x17 = true then (some (false, 1)) else ((spec_l20Code.f k x0 (⟨#[97]⟩ : ByteArray) x2).bind fun t508 => (if t508 = 0 then (spec_AreAllClear.l0 k x0 x1 x2 0) else (some (false, t508))))
def spec_AreAllClear.l0 : Nat → List (S42) → List ByteArray → Int → Int → Option (Bool × Int)
 | 0, _, _, _, _ => none
 | k + 1, x0, x1, x2, x9 => if x9 < (x1.length : Int) then (if 0 ≤ x9 then ((spec_l20Clear.f k x0 (rdOf ByteArray.empty x1 x9) x2).bind fun t510 => (if t510 = true then (spec_AreAllClear.l0 k x0 x1 x2 (wrap64 (x9 + 1))) else (some (false, 0)))) else (none)) else (some (true, 0))
end
def spec_AreAllClear.f (k : Nat) (l0 : List (S42)) (l1 : List ByteArray) (a2 : Int) : Option (Bool × Int) := (spec_l01All.f k l1).bind fun t507 => (if t507 = true then (spec_AreAllClear.j0 k l0 l1 a2 (decide ((l1.length : Int) > 60))) else (spec_AreAllClear.j0 k l0 l1 a2 true))
theorem spec_AreAllClear.mono_l : ∀ k, (∀ y0 y1 y2 y3, LeO (spec_AreAllClear.j0 k y0 y1 y2 y3) (spec_AreAllClear.j0 (k + 1) y0 y1 y2 y3)) ∧ (∀ y0 y1 y2 y3, LeO (spec_AreAllClear.l0 k y0 y1 y2 y3) (spec_AreAllClear.l0 (k + 1) y0 y1 y2 y3))
 | 0 => ⟨fun _ _ _ _ r h => by simp [spec_AreAllClear.j0] at h, fun _ _ _ _ r h => by simp [spec_AreAllClear.l0] at h⟩
 | k + 1 => by
  obtain ⟨ih0, ih1⟩ := spec_AreAllClear.mono_l k; refine ⟨?_, ?_⟩
  ·intro y0 y1 y2 y3; unfold spec_AreAllClear.j0
   repeat' first | (with_reducible first | exact ih0 _ _ _ _ | exact ih1 _ _ _ _ | exact spec_l01All.mono _ _ | exact spec_l20Clear.mono _ _ _ _ | exact spec_l20Code.mono _ _ _ _ | exact LeO.refl _ | exact LeO.none _ | refine LeO.ite ?_ ?_ | refine LeO.bind ?_ (fun _ => ?_)) | exact ih0 _ _ _ _ | exact ih1 _ _ _ _ | exact spec_l01All.mono _ _ | exact spec_l20Clear.mono _ _ _ _ | exact spec_l20Code.mono _ _ _ _ | exact LeO.none _ | refine LeO.ite ?_ ?_ | refine LeO.bind ?_ (fun _ => ?_)
  ·intro y0 y1 y2 y3; unfold spec_AreAllClear.l0
   repeat' first | (with_reducible first | exact ih0 _ _ _ _ | exact ih1 _ _ _ _ | exact spec_l01All.mono _ _ | exact spec_l20Clear.mono _ _ _ _ | exact spec_l20Code.mono _ _ _ _ | exact LeO.refl _ | exact LeO.none _ | refine LeO.ite ?_ ?_ | refine LeO.bind ?_ (fun _ => ?_)) | exact ih0 _ _ _ _ | exact ih1 _ _ _ _ | exact spec_l01All.mono _ _ | exact spec_l20Clear.mono _ _ _ _ | exact spec_l20Code.mono _ _ _ _ | exact LeO.none _ | refine LeO.ite ?_ ?_ | refine LeO.bind ?_ (fun _ => ?_)
theorem spec_AreAllClear.mono : ∀ a0 a1 a2 k, LeO (spec_AreAllClear.f k a0 a1 a2) (spec_AreAllClear.f (k + 1) a0 a1 a2) := by
 intro a0 a1 a2 k; obtain ⟨ih0, ih1⟩ := spec_AreAllClear.mono_l k; unfold spec_AreAllClear.f
 repeat' first | (with_reducible first | exact ih0 _ _ _ _ | exact ih1 _ _ _ _ | exact spec_l01All.mono _ _ | exact spec_l20Clear.mono _ _ _ _ | exact spec_l20Code.mono _ _ _ _ | exact LeO.refl _ | exact LeO.none _ | refine LeO.ite ?_ ?_ | refine LeO.bind ?_ (fun _ => ?_)) | exact ih0 _ _ _ _ | exact ih1 _ _ _ _ | exact spec_l01All.mono _ _ | exact spec_l20Clear.mono _ _ _ _ | exact spec_l20Code.mono _ _ _ _ | exact LeO.none _ | refine LeO.ite ?_ ?_ | refine LeO.bind ?_ (fun _ => ?_)
set_option maxHeartbeats 8000000 in
set_option maxRecDepth 100000 in
theorem spec_AreAllClear.calls (k : Nat) (A0 : Option Addr) (c0 : Nat) (l0 : List (S42)) (A1 : Option Addr) (c1 : Nat) (l1 : List ByteArray) (a2 : Int) (r1 : Bool) (r2 : Int) (w : World) (hr0 : Kd.C k42 w A0 l0.length l0) (hc0 : l0.length ≤ c0) (hr1 : Kd.C Kd.string w A1 l1.length l1) (hc1 : l1.length ≤ c1) (h : spec_AreAllClear.f k l0 l1 a2 = some (r1, r2)) :
  Calls Try.prog 41 #[.slice A0 l0.length c0, .slice A1 l1.length c1, .int .i64 a2] w fun e w' => e = .returned (.tuple #[.bool r1, .int .i64 r2]) ∧ Below w.heap.size w w' := by
 have HR0 := ak hr0; have HC0 := ak hc0; clear hr0 hc0; have HR1 := ak hr1; have HC1 := ak hc1; clear hr1 hc1; have HB := ak (Below.refl w.heap.size w); unfold spec_AreAllClear.f at h; have H := h; clear h; have HC4 := ak H; clear H; go_enter Try.func41, Try.ntmps41; go_upto_region 1 with (fail)
 go_cut [17] (fun v17 wc => ∃ (kq : Nat) (x17_3 : Bool), v17 = .bool x17_3 ∧ Aside0 (spec_AreAllClear.j0 kq l0 l1 a2 x17_3 = some (r1, r2)) ∧ Aside0 (kq ≤ k) ∧ Aside0 (Below w.heap.size w wc))
 case first =>
  have H := HC4.out; clear HC4; obtain ⟨t507, A5, H⟩ := bnk H; by_cases c6 : t507 = true
  ·subst c6; rw [if_pos rfl] at H; have H' := ak H; clear H; go_wp2_with (first | ((with_reducible refine at_fn (f := 82) rfl ?_); refine gl (some 11) Try.func82 #[.slice A1 l1.length c1] ?_; (with_reducible refine (spec_l01All.calls k _ _ l1 _ _ ?side1 HC1.out A5.out).mono ?_); (case side1 => exact vd HR1.out HB.out); rintro e w' ⟨rfl, ⟨nd, rfl⟩⟩; refine ⟨_, rfl, ?_⟩))
   go_meet
   case rel => exact ⟨_, (decide ((l1.length : Int) > 60)), (by first | rfl | (simp; done) | (simp [*]; done)), H', ⟨by first | omega | exact Nat.le_refl _⟩, ⟨vb HB.out⟩⟩
  ·replace c6 := Bool.eq_false_iff.mpr c6; subst c6; rw [if_neg nf] at H; have H' := ak H; clear H; go_wp2_with (first | ((with_reducible refine at_fn (f := 82) rfl ?_); refine gl (some 11) Try.func82 #[.slice A1 l1.length c1] ?_; (with_reducible refine (spec_l01All.calls k _ _ l1 _ _ ?side1 HC1.out A5.out).mono ?_); (case side1 => exact vd HR1.out HB.out); rintro e w' ⟨rfl, ⟨nd, rfl⟩⟩; refine ⟨_, rfl, ?_⟩))
   go_meet
   case rel => exact ⟨_, (true), (by first | rfl | (simp; done) | (simp [*]; done)), H', ⟨by first | omega | exact Nat.le_refl _⟩, ⟨vb HB.out⟩⟩
 case rest =>
  clear HC4; (try clear c1); (try clear p2); (try clear c4); (try clear c6); obtain ⟨kq, x17_3, rfl, HA, HJ3, HB⟩ := hcut
  cases kq with
  | zero => exact absurd HA.out (by simp [spec_AreAllClear.j0])
  | succ kj3 =>
   have H := HA.out; clear HA; simp only [spec_AreAllClear.j0] at H
   by_cases c7 : x17_3 = true
   ·subst c7; rw [if_pos rfl] at H; simp only [Option.some.injEq, Prod.mk.injEq] at H
    obtain ⟨rfl, rfl⟩ := H; go_wp2
    go_ret2
    exact ⟨ew, vb HB.out⟩
   ·replace c7 := Bool.eq_false_iff.mpr c7; subst c7; rw [if_neg nf] at H; obtain ⟨t508, A8, H⟩ := bnk H; by_cases c9 : t508 = 0
    ·rw [if_pos c9] at H; obtain ⟨c9b0, c9b1⟩ := bqt c9; clear c9; have H' := ak H; clear H; go_wp2_with (first | ((with_reducible refine at_fn (f := 72) rfl ?_); refine gl (some 20) Try.func72 #[.slice A0 l0.length c0, .string (⟨#[97]⟩ : ByteArray), .int .i64 a2] ?_; (with_reducible refine (spec_l20Code.calls kj3 _ _ l0 (⟨#[97]⟩ : ByteArray) a2 t508 _ ?side1 HC0.out A8.out).mono ?_); (case side1 => exact vd HR0.out HB.out); rintro e w10 ⟨rfl, hb⟩; refine ⟨_, rfl, ?_⟩; replace HB := bs HB hb; (try clear hb); (try clear hb2); (try clear hk); (try clear hi)))
     go_loopg [9] kj3 (fun kq v9 w' => ∃ (x9_2 : Int), v9 = .int .i64 x9_2 ∧ Aside0 (spec_AreAllClear.l0 kq l0 l1 a2 x9_2 = some (r1, r2)) ∧ Aside0 (kq ≤ kj3) ∧ Aside0 (Below w.heap.size w w'))
     case atStart => exact ⟨(0), (by first | rfl | (simp; done) | (simp [*]; done)), H', ⟨Nat.le_refl _⟩, ⟨vb HB.out⟩⟩
     case round =>
      clear H'; (try clear c1); (try clear p2); (try clear c4); (try clear c6); (try clear c7); (try clear c8); (try clear c9); (try clear c9b0); (try clear c9b1); (try clear p2); obtain ⟨x9_2, rfl, HA, HK2, HB⟩ := hrel
      cases gk with
      | zero => exact absurd HA.out (by simp [spec_AreAllClear.l0])
      | succ k2 =>
       have H := HA.out; clear HA; simp only [spec_AreAllClear.l0] at H
       by_cases c11 : x9_2 < (l1.length : Int)
       ·rw [if_pos c11] at H; have c11b0 := decide_eq_true c11; clear c11; by_cases c12 : 0 ≤ x9_2
        ·rw [if_pos c12] at H; have c12b0 := decide_eq_true c12; clear c12; obtain ⟨t510, A13, H⟩ := bnk H; by_cases c14 : t510 = true
         ·subst c14; rw [if_pos rfl] at H; have H' := ak H; clear H; have p509 : 0 ≤ (x9_2 : Int) := od; have q509 : x9_2 < (l1.length : Int) := od; obtain ⟨ad509, e509, hx509_0⟩ := Kd.at_string HR1.out x9_2 p509 q509
          cases e509; replace hx509_0 := cb HB.out hx509_0; replace p509 := eq_true p509; replace q509 := eq_true q509; go_wp2_with (first | ((with_reducible refine at_fn (f := 75) rfl ?_); refine gl (some 36) Try.func75 #[.slice A0 l0.length c0, .string (rdOf ByteArray.empty l1 x9_2), .int .i64 a2] ?_; (with_reducible refine (spec_l20Clear.calls k2 _ _ l0 (rdOf ByteArray.empty l1 x9_2) a2 _ _ ?side1 HC0.out A13.out).mono ?_); (case side1 => exact vd HR0.out HB.out); rintro e w' ⟨rfl, ⟨nd, rfl⟩⟩; refine ⟨_, rfl, ?_⟩))
          go_roundg k2
          case measure => have := HJ3.out; have := HK2.out; omega
          case rel => exact ⟨(wrap64 (x9_2 + 1)), (by first | rfl | (simp; done) | (simp [*]; done)), H', ⟨by have := HJ3.out; have := HK2.out; omega⟩, ⟨vb HB.out⟩⟩
         ·replace c14 := Bool.eq_false_iff.mpr c14; subst c14; rw [if_neg nf] at H; simp only [Option.some.injEq, Prod.mk.injEq] at H
          obtain ⟨rfl, rfl⟩ := H; have p509 : 0 ≤ (x9_2 : Int) := od; have q509 : x9_2 < (l1.length : Int) := od; obtain ⟨ad509, e509, hx509_0⟩ := Kd.at_string HR1.out x9_2 p509 q509
          cases e509; replace hx509_0 := cb HB.out hx509_0; replace p509 := eq_true p509; replace q509 := eq_true q509; go_wp2_with (first | ((with_reducible refine at_fn (f := 75) rfl ?_); refine gl (some 36) Try.func75 #[.slice A0 l0.length c0, .string (rdOf ByteArray.empty l1 x9_2), .int .i64 a2] ?_; (with_reducible refine (spec_l20Clear.calls k2 _ _ l0 (rdOf ByteArray.empty l1 x9_2) a2 _ _ ?side1 HC0.out A13.out).mono ?_); (case side1 => exact vd HR0.out HB.out); rintro e w' ⟨rfl, ⟨nd, rfl⟩⟩; refine ⟨_, rfl, ?_⟩))
          go_ret2
          exact ⟨ew, vb HB.out⟩
        ·rw [if_neg c12] at H; exact absurd H (by simp)
       ·rw [if_neg c11] at H; have c11b0 := decide_eq_false c11; clear c11; simp only [Option.some.injEq, Prod.mk.injEq] at H
        obtain ⟨rfl, rfl⟩ := H; go_wp2
        go_ret2
        exact ⟨ew, vb HB.out⟩
    ·rw [if_neg c9] at H; obtain ⟨c9b0, c9b1⟩ := bqf c9; simp only [Option.some.injEq, Prod.mk.injEq] at H
     obtain ⟨rfl, rfl⟩ := H; go_wp2_with (first | ((with_reducible refine at_fn (f := 72) rfl ?_); refine gl (some 20) Try.func72 #[.slice A0 l0.length c0, .string (⟨#[97]⟩ : ByteArray), .int .i64 a2] ?_; (with_reducible refine (spec_l20Code.calls kj3 _ _ l0 (⟨#[97]⟩ : ByteArray) a2 t508 _ ?side1 HC0.out A8.out).mono ?_); (case side1 => exact vd HR0.out HB.out); rintro e w15 ⟨rfl, hb⟩; refine ⟨_, rfl, ?_⟩; replace HB := bs HB hb; (try clear hb); (try clear hb2); (try clear hk); (try clear hi)))
     go_ret2
     exact ⟨ew, vb HB.out⟩


/-! ### impl_areZones: function 83 -/
def impl_areZones.l0 : Nat → List ByteArray → Int → Int → Option (Bool)
 | 0, _, _, _ => none
 | k + 1, x8, x9, x10 => if x10 < x9 then (if 0 ≤ x10 then (if x10 < (x8.length : Int) then ((impl_IsWord.f k (rdOf ByteArray.empty x8 x10)).bind fun t522 => (if t522 = true then (impl_areZones.l0 k x8 x9 (wrap64 (x10 + 1))) else (some false))) else (none)) else (none)) else (some true)
def impl_areZones.f (k : Nat) (l0 : List ByteArray) : Option (Bool) := if (l0.length : Int) > 60 then (some false) else (impl_areZones.l0 k l0 (l0.length : Int) 0)
theorem impl_areZones.mono_l : ∀ k, (∀ y0 y1 y2, LeO (impl_areZones.l0 k y0 y1 y2) (impl_areZones.l0 (k + 1) y0 y1 y2))
 | 0 => fun _ _ _ r h => by simp [impl_areZones.l0] at h
 | k + 1 => by
  have ih0 := impl_areZones.mono_l k
  ·intro y0 y1 y2; unfold impl_areZones.l0
   repeat' first | (with_reducible first | exact ih0 _ _ _ | exact impl_IsWord.mono _ _ | exact LeO.refl _ | exact LeO.none _ | refine LeO.ite ?_ ?_ | refine LeO.bind ?_ (fun _ => ?_)) | exact ih0 _ _ _ | exact impl_IsWord.mono _ _ | exact LeO.none _ | refine LeO.ite ?_ ?_ | refine LeO.bind ?_ (fun _ => ?_)
theorem impl_areZones.mono : ∀ a0 k, LeO (impl_areZones.f k a0) (impl_areZones.f (k + 1) a0) := by
 intro a0 k; have ih0 := impl_areZones.mono_l k; unfold impl_areZones.f
 repeat' first | (with_reducible first | exact ih0 _ _ _ | exact impl_IsWord.mono _ _ | exact LeO.refl _ | exact LeO.none _ | refine LeO.ite ?_ ?_ | refine LeO.bind ?_ (fun _ => ?_)) | exact ih0 _ _ _ | exact impl_IsWord.mono _ _ | exact LeO.none _ | refine LeO.ite ?_ ?_ | refine LeO.bind ?_ (fun _ => ?_)
set_option maxHeartbeats 8000000 in
set_option maxRecDepth 100000 in
theorem impl_areZones.calls (k : Nat) (A0 : Option Addr) (c0 : Nat) (l0 : List ByteArray) (r : Bool) (w : World) (hr0 : Kd.C Kd.string w A0 l0.length l0) (hc0 : l0.length ≤ c0) (h : impl_areZones.f k l0 = some r) :
  Calls Try.prog 83 #[.slice A0 l0.length c0] w fun e w' => e = .returned (.bool r) ∧ Drawn0 w w' := by
 have HR0 := ak hr0; have HC0 := ak hc0; clear hr0 hc0; unfold impl_areZones.f at h; have H := h; clear h; by_cases c2 : (l0.length : Int) > 60
 ·rw [if_pos c2] at H; have c2b0 := decide_eq_true c2; have c2b1 : decide (60 < l0.length) = true := decide_eq_true (by omega); clear c2; obtain rfl := Option.some.inj H; go_enter Try.func83, Try.ntmps83; go_wp2
  go_ret
  exact ⟨by first | rfl | (simp; done) | (simp [*]; done), by repeat (first | exact Drawn0.refl _ | apply Drawn0.step)⟩
 ·rw [if_neg c2] at H; have c2b0 := decide_eq_false c2; have c2b1 : decide (60 < l0.length) = false := decide_eq_false (by omega); clear c2; have H' := ak H; clear H; go_enter Try.func83, Try.ntmps83; go_wp2
  go_loopg [10] k (fun kq v10 w' => ∃ (x10_1 : Int), v10 = .int .i64 x10_1 ∧ Aside0 (impl_areZones.l0 kq l0 (l0.length : Int) x10_1 = some r) ∧ Aside0 (kq ≤ k) ∧ Drawn0 w w')
  case atStart => exact ⟨(0), (by first | rfl | (simp; done) | (simp [*]; done)), H', ⟨Nat.le_refl _⟩, by repeat (first | exact Drawn0.refl _ | apply Drawn0.step)⟩
  case round =>
   clear H'; (try clear c2); (try clear c2b0); (try clear c2b1); (try clear p2); obtain ⟨x10_1, rfl, HA, HK1, ⟨m1, rfl⟩⟩ := hrel
   cases gk with
   | zero => exact absurd HA.out (by simp [impl_areZones.l0])
   | succ k1 =>
    have H := HA.out; clear HA; simp only [impl_areZones.l0] at H
    by_cases c3 : x10_1 < (l0.length : Int)
    ·rw [if_pos c3] at H; have c3b0 := decide_eq_true c3; clear c3; by_cases c4 : 0 ≤ x10_1
     ·rw [if_pos c4] at H; have c4b0 := decide_eq_true c4; clear c4; by_cases c5 : x10_1 < (l0.length : Int)
      ·rw [if_pos c5] at H; have c5b0 := decide_eq_true c5; clear c5; obtain ⟨t522, A6, H⟩ := bnk H; by_cases c7 : t522 = true
       ·subst c7; rw [if_pos rfl] at H; have H' := ak H; clear H; have p521 : 0 ≤ (x10_1 : Int) := od; have q521 : x10_1 < (l0.length : Int) := od; obtain ⟨ad521, e521, hx521_0⟩ := Kd.at_string HR0.out x10_1 p521 q521
        cases e521; replace p521 := eq_true p521; replace q521 := eq_true q521; go_wp2_with (first | ((with_reducible refine at_fn (f := 69) rfl ?_); refine gl (some 15) Try.func69 #[.string (rdOf ByteArray.empty l0 x10_1)] ?_; (with_reducible refine (impl_IsWord.calls k1 (rdOf ByteArray.empty l0 x10_1) _ _ A6.out).mono ?_); rintro e w' ⟨rfl, ⟨nd, rfl⟩⟩; refine ⟨_, rfl, ?_⟩))
        go_roundg k1
        case measure => have := HK1.out; omega
        case rel => exact ⟨(wrap64 (x10_1 + 1)), (by first | rfl | (simp; done) | (simp [*]; done)), H', ⟨by have := HK1.out; omega⟩, by repeat (first | exact Drawn0.refl _ | apply Drawn0.step)⟩
       ·replace c7 := Bool.eq_false_iff.mpr c7; subst c7; rw [if_neg nf] at H; obtain rfl := Option.some.inj H; have p521 : 0 ≤ (x10_1 : Int) := od; have q521 : x10_1 < (l0.length : Int) := od; obtain ⟨ad521, e521, hx521_0⟩ := Kd.at_string HR0.out x10_1 p521 q521
        cases e521; replace p521 := eq_true p521; replace q521 := eq_true q521; go_wp2_with (first | ((with_reducible refine at_fn (f := 69) rfl ?_); refine gl (some 15) Try.func69 #[.string (rdOf ByteArray.empty l0 x10_1)] ?_; (with_reducible refine (impl_IsWord.calls k1 (rdOf ByteArray.empty l0 x10_1) _ _ A6.out).mono ?_); rintro e w' ⟨rfl, ⟨nd, rfl⟩⟩; refine ⟨_, rfl, ?_⟩))
        go_ret
        exact ⟨by first | rfl | (simp; done) | (simp [*]; done), by repeat (first | exact Drawn0.refl _ | apply Drawn0.step)⟩
      ·rw [if_neg c5] at H; exact absurd H (by simp)
     ·rw [if_neg c4] at H; exact absurd H (by simp)
    ·rw [if_neg c3] at H; have c3b0 := decide_eq_false c3; clear c3; obtain rfl := Option.some.inj H; go_wp2
     go_ret
     exact ⟨by first | rfl | (simp; done) | (simp [*]; done), by repeat (first | exact Drawn0.refl _ | apply Drawn0.step)⟩


/-! ### impl_areAllClear: function 84 -/
def impl_areAllClear.l0 : Nat → List (S42) → Int → List ByteArray → Int → Int → Option (Bool)
 | 0, _, _, _, _, _ => none
 | k + 1, x0, x2, x9, x10, x11 => if x11 < x10 then (if 0 ≤ x11 then (if x11 < (x9.length : Int) then ((impl_isClear.f k x0 (rdOf ByteArray.empty x9 x11) x2).bind fun t524 => (if t524 = true then (impl_areAllClear.l0 k x0 x2 x9 x10 (wrap64 (x11 + 1))) else (some false))) else (none)) else (none)) else (some true)
def impl_areAllClear.f (k : Nat) (l0 : List (S42)) (l1 : List ByteArray) (a2 : Int) : Option (Bool) := impl_areAllClear.l0 k l0 a2 l1 (l1.length : Int) 0
theorem impl_areAllClear.mono_l : ∀ k, (∀ y0 y1 y2 y3 y4, LeO (impl_areAllClear.l0 k y0 y1 y2 y3 y4) (impl_areAllClear.l0 (k + 1) y0 y1 y2 y3 y4))
 | 0 => fun _ _ _ _ _ r h => by simp [impl_areAllClear.l0] at h
 | k + 1 => by
  have ih0 := impl_areAllClear.mono_l k
  ·intro y0 y1 y2 y3 y4; unfold impl_areAllClear.l0
   repeat' first | (with_reducible first | exact ih0 _ _ _ _ _ | exact impl_isClear.mono _ _ _ _ | exact LeO.refl _ | exact LeO.none _ | refine LeO.ite ?_ ?_ | refine LeO.bind ?_ (fun _ => ?_)) | exact ih0 _ _ _ _ _ | exact impl_isClear.mono _ _ _ _ | exact LeO.none _ | refine LeO.ite ?_ ?_ | refine LeO.bind ?_ (fun _ => ?_)
theorem impl_areAllClear.mono : ∀ a0 a1 a2 k, LeO (impl_areAllClear.f k a0 a1 a2) (impl_areAllClear.f (k + 1) a0 a1 a2) := by
 intro a0 a1 a2 k; have ih0 := impl_areAllClear.mono_l k; unfold impl_areAllClear.f
 repeat' first | (with_reducible first | exact ih0 _ _ _ _ _ | exact impl_isClear.mono _ _ _ _ | exact LeO.refl _ | exact LeO.none _ | refine LeO.ite ?_ ?_ | refine LeO.bind ?_ (fun _ => ?_)) | exact ih0 _ _ _ _ _ | exact impl_isClear.mono _ _ _ _ | exact LeO.none _ | refine LeO.ite ?_ ?_ | refine LeO.bind ?_ (fun _ => ?_)
set_option maxHeartbeats 8000000 in
set_option maxRecDepth 100000 in
theorem impl_areAllClear.calls (k : Nat) (A0 : Option Addr) (c0 : Nat) (l0 : List (S42)) (A1 : Option Addr) (c1 : Nat) (l1 : List ByteArray) (a2 : Int) (r : Bool) (w : World) (hr0 : Kd.C k42 w A0 l0.length l0) (hc0 : l0.length ≤ c0) (hr1 : Kd.C Kd.string w A1 l1.length l1) (hc1 : l1.length ≤ c1) (h : impl_areAllClear.f k l0 l1 a2 = some r) :
  Calls Try.prog 84 #[.slice A0 l0.length c0, .slice A1 l1.length c1, .int .i64 a2] w fun e w' => e = .returned (.bool r) ∧ Below w.heap.size w w' := by
 have HR0 := ak hr0; have HC0 := ak hc0; clear hr0 hc0; have HR1 := ak hr1; have HC1 := ak hc1; clear hr1 hc1; have HB := ak (Below.refl w.heap.size w); unfold impl_areAllClear.f at h; have H := h; clear h; have H' := ak H; clear H; go_enter Try.func84, Try.ntmps84; go_wp2
 go_loopg [11] k (fun kq v11 w' => ∃ (x11_1 : Int), v11 = .int .i64 x11_1 ∧ Aside0 (impl_areAllClear.l0 kq l0 a2 l1 (l1.length : Int) x11_1 = some r) ∧ Aside0 (kq ≤ k) ∧ Aside0 (Below w.heap.size w w'))
 case atStart => exact ⟨(0), (by first | rfl | (simp; done) | (simp [*]; done)), H', ⟨Nat.le_refl _⟩, ⟨vb HB.out⟩⟩
 case round =>
  clear H'; (try clear c1); (try clear p2); obtain ⟨x11_1, rfl, HA, HK1, HB⟩ := hrel
  cases gk with
  | zero => exact absurd HA.out (by simp [impl_areAllClear.l0])
  | succ k1 =>
   have H := HA.out; clear HA; simp only [impl_areAllClear.l0] at H
   by_cases c4 : x11_1 < (l1.length : Int)
   ·rw [if_pos c4] at H; have c4b0 := decide_eq_true c4; clear c4; by_cases c5 : 0 ≤ x11_1
    ·rw [if_pos c5] at H; have c5b0 := decide_eq_true c5; clear c5; by_cases c6 : x11_1 < (l1.length : Int)
     ·rw [if_pos c6] at H; have c6b0 := decide_eq_true c6; clear c6; obtain ⟨t524, A7, H⟩ := bnk H; by_cases c8 : t524 = true
      ·subst c8; rw [if_pos rfl] at H; have H' := ak H; clear H; have p523 : 0 ≤ (x11_1 : Int) := od; have q523 : x11_1 < (l1.length : Int) := od; obtain ⟨ad523, e523, hx523_0⟩ := Kd.at_string HR1.out x11_1 p523 q523
       cases e523; replace hx523_0 := cb HB.out hx523_0; replace p523 := eq_true p523; replace q523 := eq_true q523; go_wp2_with (first | ((with_reducible refine at_fn (f := 76) rfl ?_); refine gl (some 18) Try.func76 #[.slice A0 l0.length c0, .string (rdOf ByteArray.empty l1 x11_1), .int .i64 a2] ?_; (with_reducible refine (impl_isClear.calls k1 _ _ l0 (rdOf ByteArray.empty l1 x11_1) a2 _ _ ?side1 HC0.out A7.out).mono ?_); (case side1 => exact vd HR0.out HB.out); rintro e w9 ⟨rfl, hb⟩; refine ⟨_, rfl, ?_⟩; replace HB := bs HB hb; (try clear hb); (try clear hb2); (try clear hk); (try clear hi)))
       go_roundg k1
       case measure => have := HK1.out; omega
       case rel => exact ⟨(wrap64 (x11_1 + 1)), (by first | rfl | (simp; done) | (simp [*]; done)), H', ⟨by have := HK1.out; omega⟩, ⟨vb HB.out⟩⟩
      ·replace c8 := Bool.eq_false_iff.mpr c8; subst c8; rw [if_neg nf] at H; obtain rfl := Option.some.inj H; have p523 : 0 ≤ (x11_1 : Int) := od; have q523 : x11_1 < (l1.length : Int) := od; obtain ⟨ad523, e523, hx523_0⟩ := Kd.at_string HR1.out x11_1 p523 q523
       cases e523; replace hx523_0 := cb HB.out hx523_0; replace p523 := eq_true p523; replace q523 := eq_true q523; go_wp2_with (first | ((with_reducible refine at_fn (f := 76) rfl ?_); refine gl (some 18) Try.func76 #[.slice A0 l0.length c0, .string (rdOf ByteArray.empty l1 x11_1), .int .i64 a2] ?_; (with_reducible refine (impl_isClear.calls k1 _ _ l0 (rdOf ByteArray.empty l1 x11_1) a2 _ _ ?side1 HC0.out A7.out).mono ?_); (case side1 => exact vd HR0.out HB.out); rintro e w10 ⟨rfl, hb⟩; refine ⟨_, rfl, ?_⟩; replace HB := bs HB hb; (try clear hb); (try clear hb2); (try clear hk); (try clear hi)))
       go_ret
       exact ⟨ew, vb HB.out⟩
     ·rw [if_neg c6] at H; exact absurd H (by simp)
    ·rw [if_neg c5] at H; exact absurd H (by simp)
   ·rw [if_neg c4] at H; have c4b0 := decide_eq_false c4; clear c4; obtain rfl := Option.some.inj H; go_wp2
    go_ret
    exact ⟨ew, vb HB.out⟩


/-! ### impl_AreAllClear: function 43 -/
def impl_AreAllClear.j0 : Nat → List (S42) → List ByteArray → Int → Bool → Option (Bool × Int)
 | 0, _, _, _, _ => none
 | k + 1, x0, x1, x2, x15 => if x15 = true then (some (false, 1)) else ((impl_isTime.f x2).bind fun t527 => (if t527 = true then ((impl_areAllClear.f k x0 x1 x2).bind fun t528 => (some (t528, 0))) else (some (false, 2))))
def impl_AreAllClear.f (k : Nat) (l0 : List (S42)) (l1 : List ByteArray) (a2 : Int) : Option (Bool × Int) := (impl_AreMoves.f k l0).bind fun t525 => (if t525 = true then ((impl_areZones.f k l1).bind fun t526 => (impl_AreAllClear.j0 k l0 l1 a2 (!t526))) else (impl_AreAllClear.j0 k l0 l1 a2 true))
theorem impl_AreAllClear.mono_l : ∀ k, (∀ y0 y1 y2 y3, LeO (impl_AreAllClear.j0 k y0 y1 y2 y3) (impl_AreAllClear.j0 (k + 1) y0 y1 y2 y3))
 | 0 => fun _ _ _ _ r h => by simp [impl_AreAllClear.j0] at h
 | k + 1 => by
  have ih0 := impl_AreAllClear.mono_l k
  ·intro y0 y1 y2 y3; unfold impl_AreAllClear.j0
   repeat' first | (with_reducible first | exact ih0 _ _ _ _ | exact impl_AreMoves.mono _ _ | exact impl_areAllClear.mono _ _ _ _ | exact impl_areZones.mono _ _ | exact LeO.refl _ | exact LeO.none _ | refine LeO.ite ?_ ?_ | refine LeO.bind ?_ (fun _ => ?_)) | exact ih0 _ _ _ _ | exact impl_AreMoves.mono _ _ | exact impl_areAllClear.mono _ _ _ _ | exact impl_areZones.mono _ _ | exact LeO.none _ | refine LeO.ite ?_ ?_ | refine LeO.bind ?_ (fun _ => ?_)
theorem impl_AreAllClear.mono : ∀ a0 a1 a2 k, LeO (impl_AreAllClear.f k a0 a1 a2) (impl_AreAllClear.f (k + 1) a0 a1 a2) := by
 intro a0 a1 a2 k; have ih0 := impl_AreAllClear.mono_l k; unfold impl_AreAllClear.f
 repeat' first | (with_reducible first | exact ih0 _ _ _ _ | exact impl_AreMoves.mono _ _ | exact impl_areAllClear.mono _ _ _ _ | exact impl_areZones.mono _ _ | exact LeO.refl _ | exact LeO.none _ | refine LeO.ite ?_ ?_ | refine LeO.bind ?_ (fun _ => ?_)) | exact ih0 _ _ _ _ | exact impl_AreMoves.mono _ _ | exact impl_areAllClear.mono _ _ _ _ | exact impl_areZones.mono _ _ | exact LeO.none _ | refine LeO.ite ?_ ?_ | refine LeO.bind ?_ (fun _ => ?_)
set_option maxHeartbeats 8000000 in
set_option maxRecDepth 100000 in
theorem impl_AreAllClear.calls (k : Nat) (A0 : Option Addr) (c0 : Nat) (l0 : List (S42)) (A1 : Option Addr) (c1 : Nat) (l1 : List ByteArray) (a2 : Int) (r1 : Bool) (r2 : Int) (w : World) (hr0 : Kd.C k42 w A0 l0.length l0) (hc0 : l0.length ≤ c0) (hr1 : Kd.C Kd.string w A1 l1.length l1) (hc1 : l1.length ≤ c1) (h : impl_AreAllClear.f k l0 l1 a2 = some (r1, r2)) :
  Calls Try.prog 43 #[.slice A0 l0.length c0, .slice A1 l1.length c1, .int .i64 a2] w fun e w' => e = .returned (.tuple #[.bool r1, .int .i64 r2]) ∧ Below w.heap.size w w' := by
 have HR0 := ak hr0; have HC0 := ak hc0; clear hr0 hc0; have HR1 := ak hr1; have HC1 := ak hc1; clear hr1 hc1; have HB := ak (Below.refl w.heap.size w); unfold impl_AreAllClear.f at h; have H := h; clear h; have HC4 := ak H; clear H; go_enter Try.func43, Try.ntmps43; go_upto_region 1 with (fail)
 go_cut [15] (fun v15 wc => ∃ (kq : Nat) (x15_3 : Bool), v15 = .bool x15_3 ∧ Aside0 (impl_AreAllClear.j0 kq l0 l1 a2 x15_3 = some (r1, r2)) ∧ Aside0 (kq ≤ k) ∧ Aside0 (Below w.heap.size w wc))
 case first =>
  have H := HC4.out; clear HC4; obtain ⟨t525, A5, H⟩ := bnk H; by_cases c6 : t525 = true
  ·subst c6; rw [if_pos rfl] at H; obtain ⟨t526, A7, H⟩ := bnk H; have H' := ak H; clear H; go_wp2_with (first | ((with_reducible refine at_fn (f := 18) rfl ?_); refine gl (some 9) Try.func18 #[.slice A0 l0.length c0] ?_; (with_reducible refine (impl_AreMoves.calls k _ _ l0 _ _ ?side1 HC0.out A5.out).mono ?_); (case side1 => exact vd HR0.out HB.out); rintro e w8 ⟨rfl, hb⟩; refine ⟨_, rfl, ?_⟩; replace HB := bs HB hb; (try clear hb); (try clear hb2); (try clear hk); (try clear hi)) | (go_at_call 83; (with_reducible refine (impl_areZones.calls k _ _ l1 t526 _ ?side1 HC1.out A7.out).mono ?_); (case side1 => exact vd HR1.out HB.out); rintro e w' ⟨rfl, ⟨nd, rfl⟩⟩))
   go_meet
   case rel => exact ⟨_, (!t526), (by first | rfl | (simp; done) | (simp [*]; done)), H', ⟨by first | omega | exact Nat.le_refl _⟩, ⟨vb HB.out⟩⟩
  ·replace c6 := Bool.eq_false_iff.mpr c6; subst c6; rw [if_neg nf] at H; have H' := ak H; clear H; go_wp2_with (first | ((with_reducible refine at_fn (f := 18) rfl ?_); refine gl (some 9) Try.func18 #[.slice A0 l0.length c0] ?_; (with_reducible refine (impl_AreMoves.calls k _ _ l0 _ _ ?side1 HC0.out A5.out).mono ?_); (case side1 => exact vd HR0.out HB.out); rintro e w9 ⟨rfl, hb⟩; refine ⟨_, rfl, ?_⟩; replace HB := bs HB hb; (try clear hb); (try clear hb2); (try clear hk); (try clear hi)))
   go_meet
   case rel => exact ⟨_, (true), (by first | rfl | (simp; done) | (simp [*]; done)), H', ⟨by first | omega | exact Nat.le_refl _⟩, ⟨vb HB.out⟩⟩
 case rest =>
  clear HC4; (try clear c1); (try clear p2); (try clear c4); (try clear c6); obtain ⟨kq, x15_3, rfl, HA, HJ3, HB⟩ := hcut
  cases kq with
  | zero => exact absurd HA.out (by simp [impl_AreAllClear.j0])
  | succ kj3 =>
   have H := HA.out; clear HA; simp only [impl_AreAllClear.j0] at H
   by_cases c10 : x15_3 = true
   ·subst c10; rw [if_pos rfl] at H; simp only [Option.some.injEq, Prod.mk.injEq] at H
    obtain ⟨rfl, rfl⟩ := H; go_wp2
    go_ret2
    exact ⟨ew, vb HB.out⟩
   ·replace c10 := Bool.eq_false_iff.mpr c10; subst c10; rw [if_neg nf] at H; obtain ⟨t527, A11, H⟩ := bnk H; by_cases c12 : t527 = true
    ·subst c12; rw [if_pos rfl] at H; obtain ⟨t528, A13, H⟩ := bnk H; simp only [Option.some.injEq, Prod.mk.injEq] at H
     obtain ⟨rfl, rfl⟩ := H; go_wp2_with (first | ((with_reducible refine at_fn (f := 68) rfl ?_); refine gl (some 17) Try.func68 #[.int .i64 a2] ?_; (with_reducible refine (impl_isTime.calls a2 _ _ A11.out).mono ?_); rintro e w' ⟨rfl, ⟨nd, rfl⟩⟩; refine ⟨_, rfl, ?_⟩) | ((with_reducible refine at_fn (f := 84) rfl ?_); refine gl (some 22) Try.func84 #[.slice A0 l0.length c0, .slice A1 l1.length c1, .int .i64 a2] ?_; (with_reducible refine (impl_areAllClear.calls kj3 _ _ l0 _ _ l1 a2 t528 _ ?side1 HC0.out ?side3 HC1.out A13.out).mono ?_); (case side1 => exact vd HR0.out (vb HB.out)); (case side3 => exact vd HR1.out (vb HB.out)); rintro e w14 ⟨rfl, hb⟩; refine ⟨_, rfl, ?_⟩; replace HB := bs HB hb; (try clear hb); (try clear hb2); (try clear hk); (try clear hi)))
     go_ret2
     exact ⟨ew, vb HB.out⟩
    ·replace c12 := Bool.eq_false_iff.mpr c12; subst c12; rw [if_neg nf] at H; simp only [Option.some.injEq, Prod.mk.injEq] at H
     obtain ⟨rfl, rfl⟩ := H; go_wp2_with (first | ((with_reducible refine at_fn (f := 68) rfl ?_); refine gl (some 17) Try.func68 #[.int .i64 a2] ?_; (with_reducible refine (impl_isTime.calls a2 _ _ A11.out).mono ?_); rintro e w' ⟨rfl, ⟨nd, rfl⟩⟩; refine ⟨_, rfl, ?_⟩))
     go_ret2
     exact ⟨ew, vb HB.out⟩


end Go.Proofs.Ytllhghcepbkpeaa.Pall
