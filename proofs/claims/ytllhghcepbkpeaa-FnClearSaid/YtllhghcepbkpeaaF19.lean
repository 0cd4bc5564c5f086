/- Go functions of the program, each as a Lean function, and the proof that each call comes to what the Lean function tells; no condition beyond those that stand there. -/
import Derived.Test.YtllhghcepbkpeaaF00
import Derived.Test.YtllhghcepbkpeaaF03
import Derived.Test.YtllhghcepbkpeaaF08
import Derived.Test.YtllhghcepbkpeaaF10
import Derived.Test.YtllhghcepbkpeaaF14
import Derived.Test.YtllhghcepbkpeaaWAt
import Derived.Test.YtllhghcepbkpeaaWLast
import Derived.Test.YtllhghcepbkpeaaWMore
import Derived.Test.YtllhghcepbkpeaaWRepsOne
import Derived.Test.YtllhghcepbkpeaaSpare
import Derived.Test.YtllhghcepbkpeaaCm
import Derived.Test.YtllhghcepbkpeaaCm3
namespace Go.Proofs.Ytllhghcepbkpeaa.Pall
open Go.RowKit Go.Proofs.YtllhghcepbkpeaaW.PrintWords Go.Proofs.YtllhghcepbkpeaaW.PrintLast Go.Proofs.YtllhghcepbkpeaaW.PrintMore
set_option linter.unusedVariables false
set_option linter.unusedSimpArgs false

/-! ### spec_ClearFrom: function 33 -/
def spec_ClearFrom.l0 : Nat → List (S42) → ByteArray → Int → Int → Option (Int × Int)
 | 0, _, _, _, _ => none
 | k + 1, x0, x1, x2, x9 => if x9 < (x0.length : Int) then (if 0 ≤ x9 then (if ((rd_T42 x0 x9).f1).toList = x1.toList then (if (wrap64 (((rd_T42 x0 x9).f0) + 30000)) > x2 then ((spec_l01IsTime.f (wrap64 (((rd_T42 x0 x9).f0) + 30000))).bind fun t369 => (if t369 = true then ((spec_l20Clear.f k x0 x1 (wrap64 (((rd_T42 x0 x9).f0) + 30000))).bind fun t370 => (if t370 = true then (some (wrap64 (((rd_T42 x0 x9).f0) + 30000), 0)) else (spec_ClearFrom.l0 k x0 x1 x2 (wrap64 (x9 + 1))))) else (spec_ClearFrom.l0 k x0 x1 x2 (wrap64 (x9 + 1))))) else (spec_ClearFrom.l0 k x0 x1 x2 (wrap64 (x9 + 1)))) else (spec_ClearFrom.l0 k x0 x1 x2 (wrap64 (x9 + 1)))) else (none)) else (some (0, 4))
def spec_ClearFrom.f (k : Nat) (l0 : List (S42)) (a1 : ByteArray) (a2 : Int) : Option (Int × Int) := (spec_l20Code.f k l0 a1 a2).bind fun t365 => (if t365 = 0 then ((spec_l20Clear.f k l0 a1 a2).bind fun t366 => (if t366 = true then (some (a2, 0)) else (spec_ClearFrom.l0 k l0 a1 a2 0))) else (some (0, t365)))
theorem spec_ClearFrom.mono_l : ∀ k, (∀ y0 y1 y2 y3, LeO (spec_ClearFrom.l0 k y0 y1 y2 y3) (spec_ClearFrom.l0 (k + 1) y0 y1 y2 y3))
 | 0 => fun _ _ _ _ r h => by simp [spec_ClearFrom.l0] at h
 | k + 1 => by
  have ih0 := spec_ClearFrom.mono_l k
  ·intro y0 y1 y2 y3; unfold spec_ClearFrom.l0
   repeat' first | (with_reducible first | exact ih0 _ _ _ _ | exact spec_l20Clear.mono _ _ _ _ | exact spec_l20Code.mono _ _ _ _ | exact LeO.refl _ | exact LeO.none _ | refine LeO.ite ?_ ?_ | refine LeO.bind ?_ (fun _ => ?_)) | exact ih0 _ _ _ _ | exact spec_l20Clear.mono _ _ _ _ | exact spec_l20Code.mono _ _ _ _ | exact LeO.none _ | refine LeO.ite ?_ ?_ | refine LeO.bind ?_ (fun _ => ?_)
theorem spec_ClearFrom.mono : ∀ a0 a1 a2 k, LeO (spec_ClearFrom.f k a0 a1 a2) (spec_ClearFrom.f (k + 1) a0 a1 a2) := by
 intro a0 a1 a2 k; have ih0 := spec_ClearFrom.mono_l k; unfold spec_ClearFrom.f
 repeat' first | (with_reducible first | exact ih0 _ _ _ _ | exact spec_l20Clear.mono _ _ _ _ | exact spec_l20Code.mono _ _ _ _ | exact LeO.refl _ | exact LeO.none _ | refine LeO.ite ?_ ?_ | refine LeO.bind ?_ (fun _ => ?_)) | exact ih0 _ _ _ _ | exact spec_l20Clear.mono _ _ _ _ | exact spec_l20Code.mono _ _ _ _ | exact LeO.none _ | refine LeO.ite ?_ ?_ | refine LeO.bind ?_ (fun _ => ?_)
set_option maxHeartbeats 8000000 in
set_option maxRecDepth 100000 in
theorem spec_ClearFrom.calls (k : Nat) (A0 : Option Addr) (c0 : Nat) (l0 : List (S42)) (a1 : ByteArray) (a2 : Int) (r1 : Int) (r2 : Int) (w : World) (hr0 : Kd.C k42 w A0 l0.length l0) (hc0 : l0.length ≤ c0) (h : spec_ClearFrom.f k l0 a1 a2 = some (r1, r2)) :
  Calls Try.prog 33 #[.slice A0 l0.length c0, .string a1, .int .i64 a2] w fun e w' => e = .returned (.tuple #[.int .i64 r1, .int .i64 r2]) ∧ Below w.heap.size w w' := by
 have HR0 := ak hr0; have HC0 := ak hc0; clear hr0 hc0; have HB := ak (Below.refl w.heap.size w); unfold spec_ClearFrom.f at h; have H := h; clear h; obtain ⟨t365, A4, H⟩ := bnk H; by_cases c5 : t365 = 0
 rw [if_pos c5] at H; obtain ⟨c5b0, c5b1⟩ := bqt c5; clear c5; obtain ⟨t366, A6, H⟩ := bnk H; by_cases c7 : t366 = true
 subst c7; rw [if_pos rfl] at H; simp only [Option.some.injEq, Prod.mk.injEq] at H
 obtain ⟨rfl, rfl⟩ := H; rotate_left
 ·replace c7 := Bool.eq_false_iff.mpr c7; subst c7; rw [if_neg nf] at H; have H' := ak H; clear H; go_enter Try.func33, Try.ntmps33; go_wp2_with (first | ((with_reducible refine at_fn (f := 72) rfl ?_); refine gl (some 14) Try.func72 #[.slice A0 l0.length c0, .string a1, .int .i64 a2] ?_; (with_reducible refine (spec_l20Code.calls k _ _ l0 a1 a2 t365 _ ?side1 HC0.out A4.out).mono ?_); (case side1 => exact vc HR0.out); rintro e w9 ⟨rfl, hb⟩; refine ⟨_, rfl, ?_⟩; replace HB := bs HB hb; (try clear hb); (try clear hb2); (try clear hk); (try clear hi)) | ((with_reducible refine at_fn (f := 75) rfl ?_); refine gl (some 21) Try.func75 #[.slice A0 l0.length c0, .string a1, .int .i64 a2] ?_; (with_reducible refine (spec_l20Clear.calls k _ _ l0 a1 a2 _ _ ?side1 HC0.out A6.out).mono ?_); (case side1 => exact vd HR0.out HB.out); rintro e w' ⟨rfl, ⟨nd, rfl⟩⟩; refine ⟨_, rfl, ?_⟩))
  go_loopg [9] k (fun kq v9 w' => ∃ (x9_1 : Int), v9 = .int .i64 x9_1 ∧ Aside0 (spec_ClearFrom.l0 kq l0 a1 a2 x9_1 = some (r1, r2)) ∧ Aside0 (kq ≤ k) ∧ Aside0 (Below w.heap.size w w'))
  case atStart => exact ⟨(0), (by first | rfl | (simp; done) | (simp [*]; done)), H', ⟨Nat.le_refl _⟩, ⟨vb HB.out⟩⟩
  case round =>
   clear H'; (try clear p2); (try clear c3); (try clear c5); (try clear c5b0); (try clear c5b1); (try clear c7); obtain ⟨x9_1, rfl, HA, HK1, HB⟩ := hrel
   cases gk with
   | zero => exact absurd HA.out (by simp [spec_ClearFrom.l0])
   | succ k1 =>
    have H := HA.out; clear HA; simp only [spec_ClearFrom.l0] at H
    by_cases c10 : x9_1 < (l0.length : Int)
    ·rw [if_pos c10] at H; have c10b0 := decide_eq_true c10; clear c10; by_cases c11 : 0 ≤ x9_1
     ·rw [if_pos c11] at H; have c11b0 := decide_eq_true c11; clear c11; by_cases c12 : ((rd_T42 l0 x9_1).f1).toList = a1.toList
      ·rw [if_pos c12] at H; have c12b0 : (((rd_T42 l0 x9_1).f1).toList == a1.toList) = true := beq_iff_eq.mpr c12; have c12b1 : (((rd_T42 l0 x9_1).f1).toList != a1.toList) = false := bne_eq_false_iff_eq.mpr c12; clear c12; by_cases c13 : (wrap64 (((rd_T42 l0 x9_1).f0) + 30000)) > a2
       ·rw [if_pos c13] at H; have c13b0 := decide_eq_true c13; clear c13; obtain ⟨t369, A14, H⟩ := bnk H; by_cases c15 : t369 = true
        ·subst c15; rw [if_pos rfl] at H; obtain ⟨t370, A16, H⟩ := bnk H; by_cases c17 : t370 = true
         ·subst c17; rw [if_pos rfl] at H; simp only [Option.some.injEq, Prod.mk.injEq] at H
          obtain ⟨rfl, rfl⟩ := H; have p367 : 0 ≤ (x9_1 : Int) := od; have q367 : x9_1 < (l0.length : Int) := od; obtain ⟨ad367, e367, hx367_0, hx367_1, hx367_2⟩ := at_T42 HR0.out x9_1 p367 q367
          cases e367; replace hx367_0 := cb HB.out hx367_0; replace hx367_1 := cb HB.out hx367_1; replace hx367_2 := cb HB.out hx367_2; replace p367 := eq_true p367; replace q367 := eq_true q367; have p368 : 0 ≤ (x9_1 : Int) := od; have q368 : x9_1 < (l0.length : Int) := od; obtain ⟨ad368, e368, hx368_0, hx368_1, hx368_2⟩ := at_T42 HR0.out x9_1 p368 q368; obtain rfl : ad367 = ad368 := (by injection e368); replace hx368_0 := cb HB.out hx368_0; replace hx368_1 := cb HB.out hx368_1; replace hx368_2 := cb HB.out hx368_2; replace p368 := eq_true p368; replace q368 := eq_true q368; go_wp2_with (first | (go_at_call 62; (with_reducible refine (spec_l01IsTime.calls (wrap64 (((rd_T42 l0 x9_1).f0) + 30000)) _ _ A14.out).mono ?_); rintro e w' ⟨rfl, ⟨nd, rfl⟩⟩) | (go_at_call 75; (with_reducible refine (spec_l20Clear.calls k1 _ _ l0 a1 (wrap64 (((rd_T42 l0 x9_1).f0) + 30000)) _ _ ?side1 HC0.out A16.out).mono ?_); (case side1 => exact vd HR0.out (vb HB.out)); rintro e w' ⟨rfl, ⟨nd, rfl⟩⟩))
          go_ret2
          exact ⟨ew, vb HB.out⟩
         ·replace c17 := Bool.eq_false_iff.mpr c17; subst c17; rw [if_neg nf] at H; have H' := ak H; clear H; have p367 : 0 ≤ (x9_1 : Int) := od; have q367 : x9_1 < (l0.length : Int) := od; obtain ⟨ad367, e367, hx367_0, hx367_1, hx367_2⟩ := at_T42 HR0.out x9_1 p367 q367
          cases e367; replace hx367_0 := cb HB.out hx367_0; replace hx367_1 := cb HB.out hx367_1; replace hx367_2 := cb HB.out hx367_2; replace p367 := eq_true p367; replace q367 := eq_true q367; have p368 : 0 ≤ (x9_1 : Int) := od; have q368 : x9_1 < (l0.length : Int) := od; obtain ⟨ad368, e368, hx368_0, hx368_1, hx368_2⟩ := at_T42 HR0.out x9_1 p368 q368; obtain rfl : ad367 = ad368 := (by injection e368); replace hx368_0 := cb HB.out hx368_0; replace hx368_1 := cb HB.out hx368_1; replace hx368_2 := cb HB.out hx368_2; replace p368 := eq_true p368; replace q368 := eq_true q368; go_wp2_with (first | (go_at_call 62; (with_reducible refine (spec_l01IsTime.calls (wrap64 (((rd_T42 l0 x9_1).f0) + 30000)) _ _ A14.out).mono ?_); rintro e w' ⟨rfl, ⟨nd, rfl⟩⟩) | (go_at_call 75; (with_reducible refine (spec_l20Clear.calls k1 _ _ l0 a1 (wrap64 (((rd_T42 l0 x9_1).f0) + 30000)) _ _ ?side1 HC0.out A16.out).mono ?_); (case side1 => exact vd HR0.out (vb HB.out)); rintro e w' ⟨rfl, ⟨nd, rfl⟩⟩))
          go_roundg k1
          case measure => have := HK1.out; omega
          case rel => exact ⟨(wrap64 (x9_1 + 1)), (by first | rfl | (simp; done) | (simp [*]; done)), H', ⟨by have := HK1.out; omega⟩, ⟨vb HB.out⟩⟩
        ·replace c15 := Bool.eq_false_iff.mpr c15; subst c15; rw [if_neg nf] at H; have H' := ak H; clear H; have p367 : 0 ≤ (x9_1 : Int) := od; have q367 : x9_1 < (l0.length : Int) := od; obtain ⟨ad367, e367, hx367_0, hx367_1, hx367_2⟩ := at_T42 HR0.out x9_1 p367 q367
         cases e367; replace hx367_0 := cb HB.out hx367_0; replace hx367_1 := cb HB.out hx367_1; replace hx367_2 := cb HB.out hx367_2; replace p367 := eq_true p367; replace q367 := eq_true q367; have p368 : 0 ≤ (x9_1 : Int) := od; have q368 : x9_1 < (l0.length : Int) := od; obtain ⟨ad368, e368, hx368_0, hx368_1, hx368_2⟩ := at_T42 HR0.out x9_1 p368 q368; obtain rfl : ad367 = ad368 := (by injection e368); replace hx368_0 := cb HB.out hx368_0; replace hx368_1 := cb HB.out hx368_1; replace hx368_2 := cb HB.out hx368_2; replace p368 := eq_true p368; replace q368 := eq_true q368; go_wp2_with (first | (go_at_call 62; (with_reducible refine (spec_l01IsTime.calls (wrap64 (((rd_T42 l0 x9_1).f0) + 30000)) _ _ A14.out).mono ?_); rintro e w' ⟨rfl, ⟨nd, rfl⟩⟩))
         go_roundg k1
         case measure => have := HK1.out; omega
         case rel => exact ⟨(wrap64 (x9_1 + 1)), (by first | rfl | (simp; done) | (simp [*]; done)), H', ⟨by have := HK1.out; omega⟩, ⟨vb HB.out⟩⟩
       ·rw [if_neg c13] at H; have c13b0 := decide_eq_false c13; clear c13; have H' := ak H; clear H; have p367 : 0 ≤ (x9_1 : Int) := od; have q367 : x9_1 < (l0.length : Int) := od; obtain ⟨ad367, e367, hx367_0, hx367_1, hx367_2⟩ := at_T42 HR0.out x9_1 p367 q367
        cases e367; replace hx367_0 := cb HB.out hx367_0; replace hx367_1 := cb HB.out hx367_1; replace hx367_2 := cb HB.out hx367_2; replace p367 := eq_true p367; replace q367 := eq_true q367; have p368 : 0 ≤ (x9_1 : Int) := od; have q368 : x9_1 < (l0.length : Int) := od; obtain ⟨ad368, e368, hx368_0, hx368_1, hx368_2⟩ := at_T42 HR0.out x9_1 p368 q368; obtain rfl : ad367 = ad368 := (by injection e368); replace hx368_0 := cb HB.out hx368_0; replace hx368_1 := cb HB.out hx368_1; replace hx368_2 := cb HB.out hx368_2; replace p368 := eq_true p368; replace q368 := eq_true q368; go_wp2
        go_roundg k1
        case measure => have := HK1.out; omega
        case rel => exact ⟨(wrap64 (x9_1 + 1)), (by first | rfl | (simp; done) | (simp [*]; done)), H', ⟨by have := HK1.out; omega⟩, ⟨vb HB.out⟩⟩
      ·rw [if_neg c12] at H; have c12b0 : (((rd_T42 l0 x9_1).f1).toList == a1.toList) = false := beq_eq_false_iff_ne.mpr c12; have c12b1 : (((rd_T42 l0 x9_1).f1).toList != a1.toList) = true := bne_iff_ne.mpr c12; have H' := ak H; clear H; have p367 : 0 ≤ (x9_1 : Int) := od; have q367 : x9_1 < (l0.length : Int) := od; obtain ⟨ad367, e367, hx367_0, hx367_1, hx367_2⟩ := at_T42 HR0.out x9_1 p367 q367
       cases e367; replace hx367_0 := cb HB.out hx367_0; replace hx367_1 := cb HB.out hx367_1; replace hx367_2 := cb HB.out hx367_2; replace p367 := eq_true p367; replace q367 := eq_true q367; have p368 : 0 ≤ (x9_1 : Int) := od; have q368 : x9_1 < (l0.length : Int) := od; obtain ⟨ad368, e368, hx368_0, hx368_1, hx368_2⟩ := at_T42 HR0.out x9_1 p368 q368; obtain rfl : ad367 = ad368 := (by injection e368); replace hx368_0 := cb HB.out hx368_0; replace hx368_1 := cb HB.out hx368_1; replace hx368_2 := cb HB.out hx368_2; replace p368 := eq_true p368; replace q368 := eq_true q368; go_wp2
       go_roundg k1
       case measure => have := HK1.out; omega
       case rel => exact ⟨(wrap64 (x9_1 + 1)), (by first | rfl | (simp; done) | (simp [*]; done)), H', ⟨by have := HK1.out; omega⟩, ⟨vb HB.out⟩⟩
     ·rw [if_neg c11] at H; exact absurd H (by simp)
    ·rw [if_neg c10] at H; have c10b0 := decide_eq_false c10; clear c10; simp only [Option.some.injEq, Prod.mk.injEq] at H
     obtain ⟨rfl, rfl⟩ := H; go_wp2
     go_ret2
     exact ⟨ew, vb HB.out⟩
 rw [if_neg c5] at H; obtain ⟨c5b0, c5b1⟩ := bqf c5; simp only [Option.some.injEq, Prod.mk.injEq] at H
 obtain ⟨rfl, rfl⟩ := H; rotate_left
 all_goals
  go_enter Try.func33, Try.ntmps33; go_wp2_with (first | ((with_reducible refine at_fn (f := 72) rfl ?_); refine gl (some 14) Try.func72 #[.slice A0 l0.length c0, .string a1, .int .i64 a2] ?_; (with_reducible refine (spec_l20Code.calls k _ _ l0 a1 a2 t365 _ ?side1 HC0.out A4.out).mono ?_); (case side1 => exact vc HR0.out); rintro e w9 ⟨rfl, hb⟩; refine ⟨_, rfl, ?_⟩; replace HB := bs HB hb; (try clear hb); (try clear hb2); (try clear hk); (try clear hi)) | ((with_reducible refine at_fn (f := 75) rfl ?_); refine gl (some 21) Try.func75 #[.slice A0 l0.length c0, .string a1, .int .i64 a2] ?_; (with_reducible refine (spec_l20Clear.calls k _ _ l0 a1 a2 _ _ ?side1 HC0.out A6.out).mono ?_); (case side1 => exact vd HR0.out HB.out); rintro e w' ⟨rfl, ⟨nd, rfl⟩⟩; refine ⟨_, rfl, ?_⟩))
  go_ret2
  exact ⟨ew, vb HB.out⟩


/-! ### impl_copyList: function 102 -/
def impl_copyList.f (l0 : List Int) : Option (List Int) := (some (([] : List Int) : List Int)).bind fun y371 => (if y371.length + l0.length < 17592186044416 then (some (y371 ++ l0)) else (none))
set_option maxHeartbeats 8000000 in
set_option maxRecDepth 100000 in
theorem impl_copyList.calls (A0 : Option Addr) (c0 : Nat) (l0 : List Int) (r : List Int) (w : World) (hr0 : Kd.C (Kd.int .i64) w A0 l0.length l0) (hc0 : l0.length ≤ c0) (h : impl_copyList.f l0 = some r) :
  Calls Try.prog 102 #[.slice A0 l0.length c0] w fun e w' => ∃ v0_ : Value, e = .returned (v0_) ∧ Kd.R (Kd.int .i64) 2 w' w.heap.size (fun _ => True) v0_ r ∧ Below w.heap.size w w' := by
 have HR0 := ak hr0; have HC0 := ak hc0; clear hr0 hc0; have HB := ak (Below.refl w.heap.size w); unfold impl_copyList.f at h; have H := h; clear h; obtain ⟨y371, Ny371, H⟩ := bnE H; by_cases c2 : y371.length + l0.length < 17592186044416
 ·rw [if_pos c2] at H; have LMc2 := ak c2; clear c2; obtain ⟨y374, hy374⟩ := gen_ ((y371 ++ l0 : List Int)); rw [← hy374] at H; have Ny374 := ak hy374; clear hy374; obtain rfl := Option.some.inj H; go_enter Try.func102, Try.ntmps102; go_wp2_with (first | ((with_reducible refine gate_dst (N := 3) rfl ?_); refine Kd.R_lit (Kd.int .i64) _ 2 ?hg (N := 3) ?hd (xs := ([] : List Int)) (inner := []) (ok := fun _ => True) (okp := fun _ => True) ?hr ?hp (fun _ hk => hk) trivial (Below.refl _ _) (Nat.le_refl _) (by simp) ?_; (case hd => rfl); (case hg => rfl); (case hr => first | (go_simp; done) | (go_simp; rfl)); (case hp => exact (Reps.none _ _)); intro v372 w3 ho4 hb hg_ hnew_; clear hg_ hnew_; (first | rw [← Ny371.out] at ho4 | (simp only [Int.reduceToNat] at ho4; rw [← Ny371.out] at ho4)); have HO373 := ak (Kd.R_lower ho4 (below_size (vb HB.out))); replace HB := bs HB hb; clear hb ho4) | ((with_reducible refine at_bi (b := .append) (xs := #[.tmp 3, .tmp 4]) rfl ?_); at_builtin; refine Kd.R_append_rows (Kd.int .i64) (w0 := w) w.heap.size rfl (.tmp 3) (.tmp 4) 86 2 (.int .i64 0) 8 rfl Try.underlying86 info2 rfl (by decide) (by omega) v372 y371 l0 _ _ _ (fun _ => True) (fun _ => False) rfl rfl ?aO ?aR (fun _ _ h => h) (fun _ h => h.elim) ?aF ?aB ?aS ?aL ?_; (case aR => exact vd HR0.out HB.out); (case aB => exact (vb HB.out)); (case aF => exact (fun _ _ => trivial)); (case aO => exact (vr HO373.out)); (case aS => exact (below_size (vb HB.out))); (case aL => have := LMc2.out; omega); intro v375 w5 ho hb hg hat; rw [← Ny374.out] at ho; have n0_ := ak (hb); have n1_ := ak (ho); clear HB; clear HO373; have HB := n0_; have HO376 := n1_; clear n0_ n1_; clear ho hb hg hat))
  go_ret
  exact ⟨_, ew, by (with_reducible repeat (first | apply Kd.R_alloc | apply Kd.R_drewN | apply Kd.R_drew)); exact HO376.out, vb HB.out⟩
 ·rw [if_neg c2] at H; exact absurd H (by simp)


/-! ### impl_sorted: function 79 -/
mutual
def impl_sorted.l0 : Nat → List Int → Int → Int → Option (List Int)
 | 0, _, _, _ => none
 | k + 1, x3, x10, x11 => if x11 < x10 then (impl_sorted.l1 k x3 x11 x10 x11) else (some x3)
def impl_sorted.l1 : Nat → List Int → Int → Int → Int → Option (List Int)
 | 0, _, _, _, _ => none
 | k + 1, x3, x5, x10, x11 => if x5 > 0 then (if 0 ≤ (wrap64 (x5 - 1)) then (if (wrap64 (x5 - 1)) < (x3.length : Int) then (if 0 ≤ x5 then (if x5 < (x3.length : Int) then (if (rd x3 (wrap64 (x5 - 1))) > (rd x3 x5) then (impl_sorted.l1 k ((x3.set (x5 : Int).toNat (rd x3 (wrap64 (x5 - 1)))).set ((wrap64 (x5 - 1)) : Int).toNat (rd x3 x5)) (wrap64 (x5 - 1)) x10 x11) else (impl_sorted.l0 k x3 x10 (wrap64 (x11 + 1)))) else (none)) else (none)) else (none)) else (none)) else (impl_sorted.l0 k x3 x10 (wrap64 (x11 + 1)))
end
def impl_sorted.f (k : Nat) (l0 : List Int) : Option (List Int) := (impl_copyList.f l0).bind fun t377 => (impl_sorted.l0 k t377 (t377.length : Int) 0)
theorem impl_sorted.mono_l : ∀ k, (∀ y0 y1 y2, LeO (impl_sorted.l0 k y0 y1 y2) (impl_sorted.l0 (k + 1) y0 y1 y2)) ∧ (∀ y0 y1 y2 y3, LeO (impl_sorted.l1 k y0 y1 y2 y3) (impl_sorted.l1 (k + 1) y0 y1 y2 y3))
 | 0 => ⟨fun _ _ _ r h => by simp [impl_sorted.l0] at h, fun _ _ _ _ r h => by simp [impl_sorted.l1] at h⟩
 | k + 1 => by
  obtain ⟨ih0, ih1⟩ := impl_sorted.mono_l k; refine ⟨?_, ?_⟩
  ·intro y0 y1 y2; unfold impl_sorted.l0
   repeat' first | (with_reducible first | exact ih0 _ _ _ | exact ih1 _ _ _ _ | exact LeO.refl _ | exact LeO.none _ | refine LeO.ite ?_ ?_ | refine LeO.bind ?_ (fun _ => ?_)) | exact ih0 _ _ _ | exact ih1 _ _ _ _ | exact LeO.none _ | refine LeO.ite ?_ ?_ | refine LeO.bind ?_ (fun _ => ?_)
  ·intro y0 y1 y2 y3; unfold impl_sorted.l1
   repeat' first | (with_reducible first | exact ih0 _ _ _ | exact ih1 _ _ _ _ | exact LeO.refl _ | exact LeO.none _ | refine LeO.ite ?_ ?_ | refine LeO.bind ?_ (fun _ => ?_)) | exact ih0 _ _ _ | exact ih1 _ _ _ _ | exact LeO.none _ | refine LeO.ite ?_ ?_ | refine LeO.bind ?_ (fun _ => ?_)
theorem impl_sorted.mono : ∀ a0 k, LeO (impl_sorted.f k a0) (impl_sorted.f (k + 1) a0) := by
 intro a0 k; obtain ⟨ih0, ih1⟩ := impl_sorted.mono_l k; unfold impl_sorted.f
 repeat' first | (with_reducible first | exact ih0 _ _ _ | exact ih1 _ _ _ _ | exact LeO.refl _ | exact LeO.none _ | refine LeO.ite ?_ ?_ | refine LeO.bind ?_ (fun _ => ?_)) | exact ih0 _ _ _ | exact ih1 _ _ _ _ | exact LeO.none _ | refine LeO.ite ?_ ?_ | refine LeO.bind ?_ (fun _ => ?_)
set_option maxHeartbeats 8000000 in
set_option maxRecDepth 100000 in
theorem impl_sorted.calls (k : Nat) (A0 : Option Addr) (c0 : Nat) (l0 : List Int) (r : List Int) (w : World) (hr0 : Kd.C (Kd.int .i64) w A0 l0.length l0) (hc0 : l0.length ≤ c0) (h : impl_sorted.f k l0 = some r) :
  Calls Try.prog 79 #[.slice A0 l0.length c0] w fun e w' => ∃ v0_ : Value, e = .returned (v0_) ∧ Kd.R (Kd.int .i64) 2 w' w.heap.size (fun _ => True) v0_ r ∧ Below w.heap.size w w' := by
 have HR0 := ak hr0; have HC0 := ak hc0; clear hr0 hc0; have HB := ak (Below.refl w.heap.size w); unfold impl_sorted.f at h; have H := h; clear h; obtain ⟨t377, A2, H⟩ := bnk H; have H' := ak H; clear H; go_enter Try.func79, Try.ntmps79; go_wp2_with (first | (go_at_call 102; (with_reducible refine (impl_copyList.calls _ _ l0 t377 _ ?side1 HC0.out A2.out).mono ?_); (case side1 => exact vc HR0.out); rintro e w3 ⟨v378, rfl, ho0, hb⟩; have HO379 := ak (Kd.R_lower ho0 (below_size (vb HB.out))); replace HB := bs HB hb; (try clear hb); (try clear hb2); (try clear hk); (try clear hi); (try clear ho0); obtain ⟨Ao4, co4, eo4⟩ := Kd.R_slice HO379.out; subst eo4))
 repeat (go_quiet (first | (go_at_call 102; (with_reducible refine (impl_copyList.calls _ _ l0 t377 _ ?side1 HC0.out A2.out).mono ?_); (case side1 => exact vc HR0.out); rintro e w3 ⟨v378, rfl, ho0, hb⟩; have HO379 := ak (Kd.R_lower ho0 (below_size (vb HB.out))); replace HB := bs HB hb; (try clear hb); (try clear hb2); (try clear hk); (try clear hi); (try clear ho0); obtain ⟨Ao4, co4, eo4⟩ := Kd.R_slice HO379.out; subst eo4)); try go_wp2_with (first | (go_at_call 102; (with_reducible refine (impl_copyList.calls _ _ l0 t377 _ ?side1 HC0.out A2.out).mono ?_); (case side1 => exact vc HR0.out); rintro e w3 ⟨v378, rfl, ho0, hb⟩; have HO379 := ak (Kd.R_lower ho0 (below_size (vb HB.out))); replace HB := bs HB hb; (try clear hb); (try clear hb2); (try clear hk); (try clear hi); (try clear ho0); obtain ⟨Ao4, co4, eo4⟩ := Kd.R_slice HO379.out; subst eo4)))
 go_loopg [11] k (fun kq v11 w' => ∃ (x3_1 : List Int) (x11_1 : Int), v11 = .int .i64 x11_1 ∧ Aside0 (impl_sorted.l0 kq x3_1 (t377.length : Int) x11_1 = some r) ∧ Aside0 (kq ≤ k) ∧ Aside0 (Kd.R (Kd.int .i64) 2 w' w.heap.size (fun _ => True) (.slice Ao4 t377.length co4) x3_1) ∧ Aside0 (Below w.heap.size w w'))
 case atStart => exact ⟨(t377), (0), (by first | rfl | (simp; done) | (simp [*]; done)), H', ⟨Nat.le_refl _⟩, ⟨by (with_reducible repeat (first | apply Kd.R_alloc | apply Kd.R_drewN | apply Kd.R_drew)); exact HO379.out⟩, ⟨vb HB.out⟩⟩
 case round =>
  clear H'; (try clear p2); obtain ⟨x3_1, x11_1, rfl, HA, HK1, HO_3, HB⟩ := hrel; have hl3_1 := (Kd.R_reads' HO_3.out).1; rw [hl3_1] at HO_3; (try simp only [hl3_1])
  cases gk with
  | zero => exact absurd HA.out (by simp [impl_sorted.l0])
  | succ k1 =>
   have H := HA.out; clear HA; simp only [impl_sorted.l0] at H
   by_cases c5 : x11_1 < (t377.length : Int)
   ·rw [if_pos c5] at H; have c5b0 := decide_eq_true c5; have c5x : decide (x11_1 < (x3_1.length : Int)) = true := by rw [← hl3_1]; exact c5b0
    clear c5; have H' := ak H; clear H; go_wp2
    repeat (go_quiet (fail); try go_wp2)
    go_loopg [5] k1 (fun kq v5 w' => ∃ (x3_2 : List Int) (x5_2 : Int), v5 = .int .i64 x5_2 ∧ Aside0 (impl_sorted.l1 kq x3_2 x5_2 (t377.length : Int) x11_1 = some r) ∧ Aside0 (kq ≤ k1) ∧ Aside0 (Kd.R (Kd.int .i64) 2 w' w.heap.size (fun _ => True) (.slice Ao4 x3_1.length co4) x3_2) ∧ Aside0 (Below w.heap.size w w'))
    case atStart => exact ⟨(x3_1), (x11_1), (by first | rfl | (simp; done) | (simp [*]; done)), H', ⟨Nat.le_refl _⟩, ⟨by (try simp only [hl3_1]); (with_reducible repeat (first | apply Kd.R_alloc | apply Kd.R_drewN | apply Kd.R_drew)); exact HO_3.out⟩, ⟨vb HB.out⟩⟩
    case round =>
     clear H'; (try clear p2); (try clear c5); (try clear c5b0); (try clear p2); obtain ⟨x3_2, x5_2, rfl, HA, HK2, HO_3, HB⟩ := hrel; have hl3_2 := (Kd.R_reads' HO_3.out).1; rw [hl3_2] at HO_3; (try simp only [hl3_2])
     cases gk with
     | zero => exact absurd HA.out (by simp [impl_sorted.l1])
     | succ k2 =>
      have H := HA.out; clear HA; simp only [impl_sorted.l1] at H
      by_cases c6 : x5_2 > 0
      ·rw [if_pos c6] at H; have c6b0 := decide_eq_true c6; clear c6; obtain ⟨ji7, hji7⟩ : ∃ j_ : Int, (wrap64 (x5_2 - 1)) = j_ := ⟨_, rfl⟩; replace H : (if 0 ≤ (ji7) then (if (ji7) < (x3_2.length : Int) then (if 0 ≤ x5_2 then (if x5_2 < (x3_2.length : Int) then (if (rd x3_2 (ji7)) > (rd x3_2 x5_2) then (impl_sorted.l1 k2 ((x3_2.set (x5_2 : Int).toNat (rd x3_2 (ji7))).set ((ji7) : Int).toNat (rd x3_2 x5_2)) ji7 (t377.length : Int) x11_1) else (impl_sorted.l0 k2 x3_2 (t377.length : Int) (wrap64 (x11_1 + 1)))) else (none)) else (none)) else (none)) else (none)) = some r := by first | (rw [hji7] at H; exact H) | (simp only [hji7] at H ⊢; exact H)
       have hji7w : (IntKind.i64.wrap (x5_2 - 1)) = ji7 := (i64_w _).trans hji7; by_cases c8 : 0 ≤ (ji7)
       ·rw [if_pos c8] at H; have c8b0 := decide_eq_true c8; clear c8; by_cases c9 : (ji7) < (x3_2.length : Int)
        ·rw [if_pos c9] at H; have c9b0 := decide_eq_true c9; clear c9; by_cases c10 : 0 ≤ x5_2
         ·rw [if_pos c10] at H; have c10b0 := decide_eq_true c10; clear c10; by_cases c11 : x5_2 < (x3_2.length : Int)
          ·rw [if_pos c11] at H; have c11b0 := decide_eq_true c11; clear c11; by_cases c12 : (rd x3_2 (ji7)) > (rd x3_2 x5_2)
           ·rw [if_pos c12] at H; have c12b0 := decide_eq_true c12; clear c12; obtain ⟨y384, hy384⟩ := gen_ ((x3_2.set (x5_2 : Int).toNat (rd x3_2 (ji7)) : List Int)); rw [← hy384] at H; have Ny384 := ak hy384; clear hy384; obtain ⟨y385, hy385⟩ := gen_ ((y384.set ((ji7) : Int).toNat (rd x3_2 x5_2) : List Int)); rw [← hy385] at H; have Ny385 := ak hy385; clear hy385; have H' := ak H; clear H; have p380 : 0 ≤ ((ji7) : Int) := od; have q380 : (ji7) < (x3_2.length : Int) := od; obtain ⟨ad380, e380, hx380_0⟩ := Kd.at_int (Kd.R_reads' HO_3.out).2.2 (ji7) p380 q380
            cases e380; replace p380 := eq_true p380; replace q380 := eq_true q380; have p381 : 0 ≤ (x5_2 : Int) := od; have q381 : x5_2 < (x3_2.length : Int) := od; obtain ⟨ad381, e381, hx381_0⟩ := Kd.at_int (Kd.R_reads' HO_3.out).2.2 x5_2 p381 q381; obtain rfl : ad380 = ad381 := (by injection e381); replace p381 := eq_true p381; replace q381 := eq_true q381; have p382 : 0 ≤ (x5_2 : Int) := od; have q382 : x5_2 < (x3_2.length : Int) := od; obtain ⟨ad382, e382, hx382_0⟩ := Kd.at_int (Kd.R_reads' HO_3.out).2.2 x5_2 p382 q382; obtain rfl : ad380 = ad382 := (by injection e382); replace p382 := eq_true p382; replace q382 := eq_true q382; have p383 : 0 ≤ ((ji7) : Int) := od; have q383 : (ji7) < (x3_2.length : Int) := od; obtain ⟨ad383, e383, hx383_0⟩ := Kd.at_int (Kd.R_reads' HO_3.out).2.2 (ji7) p383 q383; obtain rfl : ad380 = ad383 := (by injection e383); replace p383 := eq_true p383; replace q383 := eq_true q383; have p13 : 0 ≤ (x5_2 : Int) := od; have q13 : (x5_2 : Int) < ((x3_2.length : Int) : Int) := od; obtain ⟨go13, co13, eo13, gb13, gl13, cl13, HG13⟩ := Kd.R_form HO_3.out (by omega); (first | cases eo13 | (injection eo13 with ea_ en_ ec_; (first | subst ea_ | (injection ea_ with ea_; subst ea_)); subst ec_; clear en_))
            have GB13 := ak gb13; have GG13 := ak HG13; clear gb13 gl13 HG13; (first | simp only [add_plain] at hx380_0 | skip)
            (first | simp only [add_plain] at hx381_0 | skip)
            (first | simp only [add_plain] at hx382_0 | skip)
            (first | simp only [add_plain] at hx383_0 | skip)
            obtain ⟨hx13_0, hf13_0⟩ := Kd.R_celln 0 HO_3.out (x5_2 : Int) p13 q13; replace p13 := eq_true p13; replace q13 := eq_true q13; have HP15 := Kd.R_putg HO_3.out (x5_2 : Int) (rd x3_2 (ji7)); go_wp2_with (first | ((with_reducible refine gate_store (t := 2) (p := 42) rfl ?_); (try (rw [drewN_self wr]; generalize hq_ : World.drewN wr _ = wr; have n0_ := ak (Kd.R_at hq_ HO_3.out); have n1_ := ak (below_at hq_ HB.out); clear hq_ HO_3 HB; have HO_3 := n0_; have HB := n1_; clear n0_ n1_; (try (obtain ⟨hyq_, hzq_⟩ := Kd.R_celln 0 HO_3.out (x5_2 : Int) (of_eq_true p13) (of_eq_true q13))); (try (have HP15 := Kd.R_putg HO_3.out (x5_2 : Int) (rd x3_2 (ji7)))))); refine store_event (t := 2) (p := 42) (v := ?vo_w16) (w1 := (wr.setCell ⟨go13, (x5_2 : Int).toNat, none⟩ (.int .i64 (rd x3_2 (ji7))))) ?hg ?ho ?hn ?hr ?_; (case ho => rfl); (case hg => rfl); (case hn => rfl); (case hr => first | (go_simp; done) | (go_simp; rfl)); intro w16 hw; have hg : wr.grownBy w16 (some go13) := (by rw [hw]; exact HP15.2); have hp_ : Kd.R (Kd.int .i64) 2 w16 w.heap.size (fun _ => True) (.slice (some ⟨go13, 0, none⟩) x3_2.length co4) y384 := (by rw [hw, Ny384.out]; exact HP15.1); clear HP15; replace HO_3 := ak (hp_); replace HB := ak ((by rw [hw]; exact below_set (HB.out) GB13.out : Below w.heap.size w w16)); clear hg hw hp_; have p14 : 0 ≤ ((ji7) : Int) := od; have q14 : ((ji7) : Int) < ((x3_2.length : Int) : Int) := od; obtain ⟨hx14_0, hf14_0⟩ := Kd.R_celln 0 HO_3.out ((ji7) : Int) p14 q14; replace p14 := eq_true p14; replace q14 := eq_true q14; obtain ⟨hy17_, hz17_⟩ := Kd.R_celln 0 HO_3.out ((ji7) : Int) (od) (od); have HP17 := Kd.R_putg HO_3.out ((ji7) : Int) (rd x3_2 x5_2)) | ((with_reducible refine gate_store (t := 2) (p := 47) rfl ?_); (try (rw [drewN_self w16]; generalize hq_ : World.drewN w16 _ = w16; have n0_ := ak (Kd.R_at hq_ HO_3.out); have n1_ := ak (below_at hq_ HB.out); clear hq_ HO_3 HB; have HO_3 := n0_; have HB := n1_; clear n0_ n1_; (try (obtain ⟨hy17_, hz17_⟩ := Kd.R_celln 0 HO_3.out ((ji7) : Int) (od) (od))); (try (have HP17 := Kd.R_putg HO_3.out ((ji7) : Int) (rd x3_2 x5_2))))); refine store_event (t := 2) (p := 47) (v := ?vo_w18) (w1 := (w16.setCell ⟨go13, ((ji7) : Int).toNat, none⟩ (.int .i64 (rd x3_2 x5_2)))) ?hg ?ho ?hn ?hr ?_; (case ho => rfl); (case hg => rfl); (case hn => rfl); (case hr => first | (go_simp; done) | (go_simp; rfl)); intro w18 hw; have hg : w16.grownBy w18 (some go13) := (by rw [hw]; exact HP17.2); have hp_ : Kd.R (Kd.int .i64) 2 w18 w.heap.size (fun _ => True) (.slice (some ⟨go13, 0, none⟩) x3_2.length co4) y385 := (by rw [hw, Ny385.out]; exact HP17.1); clear HP17; replace HO_3 := ak (hp_); replace HB := ak ((by rw [hw]; exact below_set (HB.out) GB13.out : Below w.heap.size w w18)); clear hg hw hp_))
            repeat (go_quiet (first | ((with_reducible refine gate_store (t := 2) (p := 42) rfl ?_); (try (rw [drewN_self wr]; generalize hq_ : World.drewN wr _ = wr; have n0_ := ak (Kd.R_at hq_ HO_3.out); have n1_ := ak (below_at hq_ HB.out); clear hq_ HO_3 HB; have HO_3 := n0_; have HB := n1_; clear n0_ n1_; (try (obtain ⟨hyq_, hzq_⟩ := Kd.R_celln 0 HO_3.out (x5_2 : Int) (of_eq_true p13) (of_eq_true q13))); (try (have HP15 := Kd.R_putg HO_3.out (x5_2 : Int) (rd x3_2 (ji7)))))); refine store_event (t := 2) (p := 42) (v := ?vo_w16) (w1 := (wr.setCell ⟨go13, (x5_2 : Int).toNat, none⟩ (.int .i64 (rd x3_2 (ji7))))) ?hg ?ho ?hn ?hr ?_; (case ho => rfl); (case hg => rfl); (case hn => rfl); (case hr => first | (go_simp; done) | (go_simp; rfl)); intro w16 hw; have hg : wr.grownBy w16 (some go13) := (by rw [hw]; exact HP15.2); have hp_ : Kd.R (Kd.int .i64) 2 w16 w.heap.size (fun _ => True) (.slice (some ⟨go13, 0, none⟩) x3_2.length co4) y384 := (by rw [hw, Ny384.out]; exact HP15.1); clear HP15; replace HO_3 := ak (hp_); replace HB := ak ((by rw [hw]; exact below_set (HB.out) GB13.out : Below w.heap.size w w16)); clear hg hw hp_; have p14 : 0 ≤ ((ji7) : Int) := od; have q14 : ((ji7) : Int) < ((x3_2.length : Int) : Int) := od; obtain ⟨hx14_0, hf14_0⟩ := Kd.R_celln 0 HO_3.out ((ji7) : Int) p14 q14; replace p14 := eq_true p14; replace q14 := eq_true q14; obtain ⟨hy17_, hz17_⟩ := Kd.R_celln 0 HO_3.out ((ji7) : Int) (od) (od); have HP17 := Kd.R_putg HO_3.out ((ji7) : Int) (rd x3_2 x5_2)) | ((with_reducible refine gate_store (t := 2) (p := 47) rfl ?_); (try (rw [drewN_self w16]; generalize hq_ : World.drewN w16 _ = w16; have n0_ := ak (Kd.R_at hq_ HO_3.out); have n1_ := ak (below_at hq_ HB.out); clear hq_ HO_3 HB; have HO_3 := n0_; have HB := n1_; clear n0_ n1_; (try (obtain ⟨hy17_, hz17_⟩ := Kd.R_celln 0 HO_3.out ((ji7) : Int) (od) (od))); (try (have HP17 := Kd.R_putg HO_3.out ((ji7) : Int) (rd x3_2 x5_2))))); refine store_event (t := 2) (p := 47) (v := ?vo_w18) (w1 := (w16.setCell ⟨go13, ((ji7) : Int).toNat, none⟩ (.int .i64 (rd x3_2 x5_2)))) ?hg ?ho ?hn ?hr ?_; (case ho => rfl); (case hg => rfl); (case hn => rfl); (case hr => first | (go_simp; done) | (go_simp; rfl)); intro w18 hw; have hg : w16.grownBy w18 (some go13) := (by rw [hw]; exact HP17.2); have hp_ : Kd.R (Kd.int .i64) 2 w18 w.heap.size (fun _ => True) (.slice (some ⟨go13, 0, none⟩) x3_2.length co4) y385 := (by rw [hw, Ny385.out]; exact HP17.1); clear HP17; replace HO_3 := ak (hp_); replace HB := ak ((by rw [hw]; exact below_set (HB.out) GB13.out : Below w.heap.size w w18)); clear hg hw hp_)); try go_wp2_with (first | ((with_reducible refine gate_store (t := 2) (p := 42) rfl ?_); (try (rw [drewN_self wr]; generalize hq_ : World.drewN wr _ = wr; have n0_ := ak (Kd.R_at hq_ HO_3.out); have n1_ := ak (below_at hq_ HB.out); clear hq_ HO_3 HB; have HO_3 := n0_; have HB := n1_; clear n0_ n1_; (try (obtain ⟨hyq_, hzq_⟩ := Kd.R_celln 0 HO_3.out (x5_2 : Int) (of_eq_true p13) (of_eq_true q13))); (try (have HP15 := Kd.R_putg HO_3.out (x5_2 : Int) (rd x3_2 (ji7)))))); refine store_event (t := 2) (p := 42) (v := ?vo_w16) (w1 := (wr.setCell ⟨go13, (x5_2 : Int).toNat, none⟩ (.int .i64 (rd x3_2 (ji7))))) ?hg ?ho ?hn ?hr ?_; (case ho => rfl); (case hg => rfl); (case hn => rfl); (case hr => first | (go_simp; done) | (go_simp; rfl)); intro w16 hw; have hg : wr.grownBy w16 (some go13) := (by rw [hw]; exact HP15.2); have hp_ : Kd.R (Kd.int .i64) 2 w16 w.heap.size (fun _ => True) (.slice (some ⟨go13, 0, none⟩) x3_2.length co4) y384 := (by rw [hw, Ny384.out]; exact HP15.1); clear HP15; replace HO_3 := ak (hp_); replace HB := ak ((by rw [hw]; exact below_set (HB.out) GB13.out : Below w.heap.size w w16)); clear hg hw hp_; have p14 : 0 ≤ ((ji7) : Int) := od; have q14 : ((ji7) : Int) < ((x3_2.length : Int) : Int) := od; obtain ⟨hx14_0, hf14_0⟩ := Kd.R_celln 0 HO_3.out ((ji7) : Int) p14 q14; replace p14 := eq_true p14; replace q14 := eq_true q14; obtain ⟨hy17_, hz17_⟩ := Kd.R_celln 0 HO_3.out ((ji7) : Int) (od) (od); have HP17 := Kd.R_putg HO_3.out ((ji7) : Int) (rd x3_2 x5_2)) | ((with_reducible refine gate_store (t := 2) (p := 47) rfl ?_); (try (rw [drewN_self w16]; generalize hq_ : World.drewN w16 _ = w16; have n0_ := ak (Kd.R_at hq_ HO_3.out); have n1_ := ak (below_at hq_ HB.out); clear hq_ HO_3 HB; have HO_3 := n0_; have HB := n1_; clear n0_ n1_; (try (obtain ⟨hy17_, hz17_⟩ := Kd.R_celln 0 HO_3.out ((ji7) : Int) (od) (od))); (try (have HP17 := Kd.R_putg HO_3.out ((ji7) : Int) (rd x3_2 x5_2))))); refine store_event (t := 2) (p := 47) (v := ?vo_w18) (w1 := (w16.setCell ⟨go13, ((ji7) : Int).toNat, none⟩ (.int .i64 (rd x3_2 x5_2)))) ?hg ?ho ?hn ?hr ?_; (case ho => rfl); (case hg => rfl); (case hn => rfl); (case hr => first | (go_simp; done) | (go_simp; rfl)); intro w18 hw; have hg : w16.grownBy w18 (some go13) := (by rw [hw]; exact HP17.2); have hp_ : Kd.R (Kd.int .i64) 2 w18 w.heap.size (fun _ => True) (.slice (some ⟨go13, 0, none⟩) x3_2.length co4) y385 := (by rw [hw, Ny385.out]; exact HP17.1); clear HP17; replace HO_3 := ak (hp_); replace HB := ak ((by rw [hw]; exact below_set (HB.out) GB13.out : Below w.heap.size w w18)); clear hg hw hp_)))
            (try simp only [← hl3_2])
            go_roundg k2
            case measure => have := HK1.out; have := HK2.out; omega
            case rel => exact ⟨(y385), (ji7), (by first | rfl | (simp; done) | (simp only [← hji7] <;> (first | rfl | simp)) | (simp [*]; done)), H', ⟨by have := HK1.out; have := HK2.out; omega⟩, ⟨by (try simp only [hl3_1]); (try simp only [hl3_2]); (with_reducible repeat (first | apply Kd.R_alloc | apply Kd.R_drewN | apply Kd.R_drew)); exact HO_3.out⟩, ⟨vb HB.out⟩⟩
           ·rw [if_neg c12] at H; have c12b0 := decide_eq_false c12; clear c12; have H' := ak H; clear H; have p380 : 0 ≤ ((ji7) : Int) := od; have q380 : (ji7) < (x3_2.length : Int) := od; obtain ⟨ad380, e380, hx380_0⟩ := Kd.at_int (Kd.R_reads' HO_3.out).2.2 (ji7) p380 q380
            cases e380; replace p380 := eq_true p380; replace q380 := eq_true q380; have p381 : 0 ≤ (x5_2 : Int) := od; have q381 : x5_2 < (x3_2.length : Int) := od; obtain ⟨ad381, e381, hx381_0⟩ := Kd.at_int (Kd.R_reads' HO_3.out).2.2 x5_2 p381 q381; obtain rfl : ad380 = ad381 := (by injection e381); replace p381 := eq_true p381; replace q381 := eq_true q381; go_wp2
            repeat (go_quiet (fail); try go_wp2)
            (try simp only [← hl3_1, ← hl3_2])
            go_roundg k2
            case measure => have := HK1.out; have := HK2.out; omega
            case rel => exact ⟨(x3_2), (wrap64 (x11_1 + 1)), (by first | rfl | (simp; done) | (simp [*]; done)), H', ⟨by have := HK1.out; have := HK2.out; omega⟩, ⟨by (try simp only [hl3_1]); (try simp only [hl3_2]); (with_reducible repeat (first | apply Kd.R_alloc | apply Kd.R_drewN | apply Kd.R_drew)); exact HO_3.out⟩, ⟨vb HB.out⟩⟩
          ·rw [if_neg c11] at H; exact absurd H (by simp)
         ·rw [if_neg c10] at H; exact absurd H (by simp)
        ·rw [if_neg c9] at H; exact absurd H (by simp)
       ·rw [if_neg c8] at H; exact absurd H (by simp)
      ·rw [if_neg c6] at H; have c6b0 := decide_eq_false c6; clear c6; have H' := ak H; clear H; go_wp2
       repeat (go_quiet (fail); try go_wp2)
       (try simp only [← hl3_1, ← hl3_2])
       go_roundg k2
       case measure => have := HK1.out; have := HK2.out; omega
       case rel => exact ⟨(x3_2), (wrap64 (x11_1 + 1)), (by first | rfl | (simp; done) | (simp [*]; done)), H', ⟨by have := HK1.out; have := HK2.out; omega⟩, ⟨by (try simp only [hl3_1]); (try simp only [hl3_2]); (with_reducible repeat (first | apply Kd.R_alloc | apply Kd.R_drewN | apply Kd.R_drew)); exact HO_3.out⟩, ⟨vb HB.out⟩⟩
   ·rw [if_neg c5] at H; have c5b0 := decide_eq_false c5; have c5x : decide (x11_1 < (x3_1.length : Int)) = false := by rw [← hl3_1]; exact c5b0
    clear c5; obtain rfl := Option.some.inj H; go_wp2
    repeat (go_quiet (fail); try go_wp2)
    go_ret
    exact ⟨_, ew, by (with_reducible repeat (first | apply Kd.R_alloc | apply Kd.R_drewN | apply Kd.R_drew)); exact HO_3.out, vb HB.out⟩


/-! ### impl_ClearFrom: function 34 -/
mutual
def impl_ClearFrom.l0 : Nat → List (S42) → ByteArray → Int → List Int → List (S42) → Int → Int → Option (Int × Int)
 | 0, _, _, _, _, _, _, _ => none
 | k + 1, x0, x1, x2, x9, x23, x24, x25 => if x25 < x24 then (if 0 ≤ x25 then (if x25 < (x23.length : Int) then (if (wrap64 (((rd_T42 x23 x25).f0) + 30000)) > x2 then (if x9.length < 17592186044416 then (impl_ClearFrom.l0 k x0 x1 x2 (x9 ++ [wrap64 (((rd_T42 x23 x25).f0) + 30000)]) x23 x24 (wrap64 (x25 + 1))) else (none)) else (impl_ClearFrom.l0 k x0 x1 x2 x9 x23 x24 (wrap64 (x25 + 1)))) else (none)) else (none)) else ((impl_sorted.f k x9).bind fun t395 => (impl_ClearFrom.l1 k x0 x1 t395 (t395.length : Int) 0))
def impl_ClearFrom.l1 : Nat → List (S42) → ByteArray → List Int → Int → Int → Option (Int × Int)
 | 0, _, _, _, _, _ => none
 | k + 1, x0, x1, x42, x43, x44 => if x44 < x43 then (if 0 ≤ x44 then (if x44 < (x42.length : Int) then (if (rd x42 x44) ≤ 10000000 then ((impl_isClear.f k x0 x1 (rd x42 x44)).bind fun t399 => (if t399 = true then (some (rd x42 x44, 0)) else (impl_ClearFrom.l1 k x0 x1 x42 x43 (wrap64 (x44 + 1))))) else (impl_ClearFrom.l1 k x0 x1 x42 x43 (wrap64 (x44 + 1)))) else (none)) else (none)) else (some (0, 4))
end
def impl_ClearFrom.f (k : Nat) (l0 : List (S42)) (a1 : ByteArray) (a2 : Int) : Option (Int × Int) := (impl_zoneAsked.f k l0 a1 a2).bind fun t386 => (if t386 = 0 then (impl_ClearFrom.l0 k l0 a1 a2 (([a2] : List Int)) l0 (l0.length : Int) 0) else (some (0, t386)))
theorem impl_ClearFrom.mono_l : ∀ k, (∀ y0 y1 y2 y3 y4 y5 y6, LeO (impl_ClearFrom.l0 k y0 y1 y2 y3 y4 y5 y6) (impl_ClearFrom.l0 (k + 1) y0 y1 y2 y3 y4 y5 y6)) ∧ (∀ y0 y1 y2 y3 y4, LeO (impl_ClearFrom.l1 k y0 y1 y2 y3 y4) (impl_ClearFrom.l1 (k + 1) y0 y1 y2 y3 y4))
 | 0 => ⟨fun _ _ _ _ _ _ _ r h => by simp [impl_ClearFrom.l0] at h, fun _ _ _ _ _ r h => by simp [impl_ClearFrom.l1] at h⟩
 | k + 1 => by
  obtain ⟨ih0, ih1⟩ := impl_ClearFrom.mono_l k; refine ⟨?_, ?_⟩
  ·intro y0 y1 y2 y3 y4 y5 y6; unfold impl_ClearFrom.l0
   repeat' first | (with_reducible first | exact ih0 _ _ _ _ _ _ _ | exact ih1 _ _ _ _ _ | exact impl_isClear.mono _ _ _ _ | exact impl_sorted.mono _ _ | exact impl_zoneAsked.mono _ _ _ _ | exact LeO.refl _ | exact LeO.none _ | refine LeO.ite ?_ ?_ | refine LeO.bind ?_ (fun _ => ?_)) | exact ih0 _ _ _ _ _ _ _ | exact ih1 _ _ _ _ _ | exact impl_isClear.mono _ _ _ _ | exact impl_sorted.mono _ _ | exact impl_zoneAsked.mono _ _ _ _ | exact LeO.none _ | refine LeO.ite ?_ ?_ | refine LeO.bind ?_ (fun _ => ?_)
  ·intro y0 y1 y2 y3 y4; unfold impl_ClearFrom.l1
   repeat' first | (with_reducible first | exact ih0 _ _ _ _ _ _ _ | exact ih1 _ _ _ _ _ | exact impl_isClear.mono _ _ _ _ | exact impl_sorted.mono _ _ | exact impl_zoneAsked.mono _ _ _ _ | exact LeO.refl _ | exact LeO.none _ | refine LeO.ite ?_ ?_ | refine LeO.bind ?_ (fun _ => ?_)) | exact ih0 _ _ _ _ _ _ _ | exact ih1 _ _ _ _ _ | exact impl_isClear.mono _ _ _ _ | exact impl_sorted.mono _ _ | exact impl_zoneAsked.mono _ _ _ _ | exact LeO.none _ | refine LeO.ite ?_ ?_ | refine LeO.bind ?_ (fun _ => ?_)
theorem impl_ClearFrom.mono : ∀ a0 a1 a2 k, LeO (impl_ClearFrom.f k a0 a1 a2) (impl_ClearFrom.f (k + 1) a0 a1 a2) := by
 intro a0 a1 a2 k; obtain ⟨ih0, ih1⟩ := impl_ClearFrom.mono_l k; unfold impl_ClearFrom.f
 repeat' first | (with_reducible first | exact ih0 _ _ _ _ _ _ _ | exact ih1 _ _ _ _ _ | exact impl_isClear.mono _ _ _ _ | exact impl_sorted.mono _ _ | exact impl_zoneAsked.mono _ _ _ _ | exact LeO.refl _ | exact LeO.none _ | refine LeO.ite ?_ ?_ | refine LeO.bind ?_ (fun _ => ?_)) | exact ih0 _ _ _ _ _ _ _ | exact ih1 _ _ _ _ _ | exact impl_isClear.mono _ _ _ _ | exact impl_sorted.mono _ _ | exact impl_zoneAsked.mono _ _ _ _ | exact LeO.none _ | refine LeO.ite ?_ ?_ | refine LeO.bind ?_ (fun _ => ?_)
set_option maxHeartbeats 8000000 in
set_option maxRecDepth 100000 in
theorem impl_ClearFrom.calls (k : Nat) (A0 : Option Addr) (c0 : Nat) (l0 : List (S42)) (a1 : ByteArray) (a2 : Int) (r1 : Int) (r2 : Int) (w : World) (hr0 : Kd.C k42 w A0 l0.length l0) (hc0 : l0.length ≤ c0) (h : impl_ClearFrom.f k l0 a1 a2 = some (r1, r2)) :
  Calls Try.prog 34 #[.slice A0 l0.length c0, .string a1, .int .i64 a2] w fun e w' => e = .returned (.tuple #[.int .i64 r1, .int .i64 r2]) ∧ Below w.heap.size w w' := by
 have hu42 := Try.underlying42; have HR0 := ak hr0; have HC0 := ak hc0; clear hr0 hc0; have HB := ak (Below.refl w.heap.size w); unfold impl_ClearFrom.f at h; have H := h; clear h; obtain ⟨t386, A4, H⟩ := bnk H; by_cases c5 : t386 = 0
 ·rw [if_pos c5] at H; obtain ⟨c5b0, c5b1⟩ := bqt c5; clear c5; obtain ⟨y387, hy387⟩ := gen_ (([a2] : List Int)); rw [← hy387] at H; have Ny387 := ak hy387; clear hy387; have H' := ak H; clear H; go_enter Try.func34, Try.ntmps34; go_wp2_with (first | ((with_reducible refine at_fn (f := 74) rfl ?_); refine gl (some 17) Try.func74 #[.slice A0 l0.length c0, .string a1, .int .i64 a2] ?_; (with_reducible refine (impl_zoneAsked.calls k _ _ l0 a1 a2 t386 _ ?side1 HC0.out A4.out).mono ?_); (case side1 => exact vc HR0.out); rintro e w6 ⟨rfl, hb⟩; refine ⟨_, rfl, ?_⟩; replace HB := bs HB hb; (try clear hb); (try clear hb2); (try clear hk); (try clear hi)) | ((with_reducible refine gate_dst (N := 22) rfl ?_); refine Kd.R_lit (Kd.int .i64) _ 2 ?hg (N := 22) ?hd (xs := ([a2] : List Int)) (inner := [.int .i64 a2]) (ok := fun _ => True) (okp := fun _ => True) ?hr ?hp (fun _ hk => hk) trivial (Below.refl _ _) (Nat.le_refl _) (by simp) ?_; (case hd => rfl); (case hg => rfl); (case hr => first | (go_simp; done) | (go_simp; rfl)); (case hp => exact (Reps.one (show Kd.M (Kd.int .i64) _ _ _ a2 [.int .i64 a2] from rfl) (Reps.none _ _))); intro v388 w7 ho8 hb hg_ hnew_; clear hg_ hnew_; (first | rw [← Ny387.out] at ho8 | (simp only [Int.reduceToNat] at ho8; rw [← Ny387.out] at ho8)); have HO389 := ak (Kd.R_lower ho8 (below_size (vb HB.out))); replace HB := bs HB hb; clear hb ho8))
  go_loopg [9, 25] k (fun kq v9 v25 w' => ∃ (x9_1 : List Int) (x25_1 : Int), v25 = .int .i64 x25_1 ∧ Aside0 (impl_ClearFrom.l0 kq l0 a1 a2 x9_1 l0 (l0.length : Int) x25_1 = some (r1, r2)) ∧ Aside0 (kq ≤ k) ∧ Aside0 (Kd.R (Kd.int .i64) 2 w' w.heap.size (fun _ => True) v9 x9_1) ∧ Aside0 (Below w.heap.size w w'))
  case atStart => exact ⟨(y387), (0), (by first | rfl | (simp; done) | (simp [*]; done)), H', ⟨Nat.le_refl _⟩, ⟨by (with_reducible repeat (first | apply Kd.R_alloc | apply Kd.R_drewN | apply Kd.R_drew)); exact HO389.out⟩, ⟨vb HB.out⟩⟩
  case round =>
   clear H'; (try clear p2); (try clear c3); (try clear c5); (try clear c5b0); (try clear c5b1); (try clear c7); obtain ⟨x9_1, x25_1, rfl, HA, HK1, HO_9, HB⟩ := hrel
   cases gk with
   | zero => exact absurd HA.out (by simp [impl_ClearFrom.l0])
   | succ k1 =>
    have H := HA.out; clear HA; simp only [impl_ClearFrom.l0] at H
    by_cases c9 : x25_1 < (l0.length : Int)
    ·rw [if_pos c9] at H; have c9b0 := decide_eq_true c9; clear c9; by_cases c10 : 0 ≤ x25_1
     ·rw [if_pos c10] at H; have c10b0 := decide_eq_true c10; clear c10; by_cases c11 : x25_1 < (l0.length : Int)
      ·rw [if_pos c11] at H; have c11b0 := decide_eq_true c11; clear c11; by_cases c12 : (wrap64 (((rd_T42 l0 x25_1).f0) + 30000)) > a2
       ·rw [if_pos c12] at H; have c12b0 := decide_eq_true c12; clear c12; by_cases c13 : x9_1.length < 17592186044416
        ·rw [if_pos c13] at H; have LMc13 := ak c13; clear c13; obtain ⟨y392, hy392⟩ := gen_ ((x9_1 ++ [wrap64 (((rd_T42 l0 x25_1).f0) + 30000)] : List Int)); rw [← hy392] at H; have Ny392 := ak hy392; clear hy392; have H' := ak H; clear H; have p390 : 0 ≤ (x25_1 : Int) := od; have q390 : x25_1 < (l0.length : Int) := od; obtain ⟨ad390, e390, hx390_0, hx390_1, hx390_2⟩ := at_T42 HR0.out x25_1 p390 q390
         cases e390; replace hx390_0 := cb HB.out hx390_0; replace hx390_1 := cb HB.out hx390_1; replace hx390_2 := cb HB.out hx390_2; replace p390 := eq_true p390; replace q390 := eq_true q390; go_wp2_with (first | ((with_reducible refine gate_dst (N := 11) rfl ?_); refine bx 11 #[.int .i64 0, .string (⟨#[]⟩ : ByteArray), .int .i64 0] 42 ?_; intro gb391 hg w14 hbox hb; replace HO_9 := ak (Kd.R_below (vr HO_9.out) hb); have BK391 := ak hbox; have GW391 := gw hg HB; have GE391 := gw hg HB; replace HB := bs HB hb; clear hb hbox hg; have hcz15 := cz3 BK391.out) | ((with_reducible refine at_bi (b := .append) (xs := #[.tmp 34, .tmp 38]) rfl ?_); at_builtin; refine Kd.R_append (Kd.int .i64) (w0 := w) w.heap.size rfl (.tmp 34) (.tmp 38) 86 2 (.int .i64 0) 8 rfl Try.underlying86 info2 rfl (by decide) (by omega) u9 x9_1 (wrap64 (((rd_T42 l0 x25_1).f0) + 30000)) [.int .i64 (wrap64 (((rd_T42 l0 x25_1).f0) + 30000))] (fun _ => True) (fun _ => False) rfl (by first | (go_simp; done) | (go_simp; rfl)) ?aP (fun _ hk => hk.elim) ?aF ?aO ?aB ?aS ?aL ?_; (case aP => exact rfl); (case aB => exact (vb HB.out)); (case aF => exact (fun _ _ => trivial)); (case aO => exact (by (with_reducible repeat (first | apply Kd.R_alloc | apply Kd.R_drewN | apply Kd.R_drew)); exact Kd.R_mono (Kd.R_far (p := ⟨gb391, 2, none⟩) (Kd.R_far (p := ⟨gb391, 1, none⟩) (Kd.R_far (p := ⟨gb391, 0, none⟩) (Kd.R_types HO_9.out BK391.out (by decide)) (fun _ hk => hk.2) (.int .i64 ((rd_T42 l0 x25_1).f0))) (fun _ hk => hk.2) (.string ((rd_T42 l0 x25_1).f1))) (fun _ hk => hk.2) (.int .i64 ((rd_T42 l0 x25_1).f2))) (fun _ hk => trivial))); (case aS => exact (below_size (vb HB.out))); (case aL => have := LMc13.out; omega); intro v393 w16 ho hb hg hat; rw [← Ny392.out] at ho; have n0_ := ak (blk_grown (g := gb391) (o := .cells #[.int .i64 ((rd_T42 l0 x25_1).f0), .string ((rd_T42 l0 x25_1).f1), .int .i64 ((rd_T42 l0 x25_1).f2)] 42 (0, 0)) (vz BK391.out) hg (Kd.R_ne HO_9.out BK391.out (by decide))); have n1_ := ak (hb); have n2_ := ak (ho); clear BK391; clear HB; clear HO_9; have BK391 := n0_; have HB := n1_; have HO394 := n2_; clear n0_ n1_ n2_; clear ho hb hg hat))
         go_roundg k1
         case measure => have := HK1.out; omega
         case rel => exact ⟨(y392), (wrap64 (x25_1 + 1)), (by first | rfl | (simp; done) | (simp [*]; done)), H', ⟨by have := HK1.out; omega⟩, ⟨by (with_reducible repeat (first | apply Kd.R_alloc | apply Kd.R_drewN | apply Kd.R_drew)); exact HO394.out⟩, ⟨vb HB.out⟩⟩
        ·rw [if_neg c13] at H; exact absurd H (by simp)
       ·rw [if_neg c12] at H; have c12b0 := decide_eq_false c12; clear c12; have H' := ak H; clear H; have p390 : 0 ≤ (x25_1 : Int) := od; have q390 : x25_1 < (l0.length : Int) := od; obtain ⟨ad390, e390, hx390_0, hx390_1, hx390_2⟩ := at_T42 HR0.out x25_1 p390 q390
        cases e390; replace hx390_0 := cb HB.out hx390_0; replace hx390_1 := cb HB.out hx390_1; replace hx390_2 := cb HB.out hx390_2; replace p390 := eq_true p390; replace q390 := eq_true q390; go_wp2_with (first | ((with_reducible refine gate_dst (N := 11) rfl ?_); refine bx 11 #[.int .i64 0, .string (⟨#[]⟩ : ByteArray), .int .i64 0] 42 ?_; intro gb391 hg w17 hbox hb; replace HO_9 := ak (Kd.R_below (vr HO_9.out) hb); have BK391 := ak hbox; have GW391 := gw hg HB; have GE391 := gw hg HB; replace HB := bs HB hb; clear hb hbox hg; have hcz18 := cz3 BK391.out))
        go_roundg k1
        case measure => have := HK1.out; omega
        case rel => exact ⟨(x9_1), (wrap64 (x25_1 + 1)), (by first | rfl | (simp; done) | (simp [*]; done)), H', ⟨by have := HK1.out; omega⟩, ⟨by (with_reducible repeat (first | apply Kd.R_alloc | apply Kd.R_drewN | apply Kd.R_drew)); exact Kd.R_mono (Kd.R_far (p := ⟨gb391, 2, none⟩) (Kd.R_far (p := ⟨gb391, 1, none⟩) (Kd.R_far (p := ⟨gb391, 0, none⟩) (Kd.R_types HO_9.out BK391.out (by decide)) (fun _ hk => hk.2) (.int .i64 ((rd_T42 l0 x25_1).f0))) (fun _ hk => hk.2) (.string ((rd_T42 l0 x25_1).f1))) (fun _ hk => hk.2) (.int .i64 ((rd_T42 l0 x25_1).f2))) (fun _ hk => trivial)⟩, ⟨vb HB.out⟩⟩
      ·rw [if_neg c11] at H; exact absurd H (by simp)
     ·rw [if_neg c10] at H; exact absurd H (by simp)
    ·rw [if_neg c9] at H; have c9b0 := decide_eq_false c9; clear c9; obtain ⟨t395, A19, H⟩ := bnk H; have H' := ak H; clear H; obtain ⟨Ao20, co20, eo20⟩ := Kd.R_slice HO_9.out; subst eo20; go_wp2_with (first | ((with_reducible refine at_fn (f := 79) rfl ?_); refine gl (some 42) Try.func79 #[.slice Ao20 x9_1.length co20] ?_; (with_reducible refine (impl_sorted.calls k1 _ _ x9_1 t395 _ ?side1 ?side2 A19.out).mono ?_); (case side1 => repeat (first | exact (Kd.R_reads' HO_9.out).2.2 | (with_reducible refine Kd.C_alloc ?_ _) | (with_reducible refine Kd.C_drewN ?_ _) | (with_reducible refine Kd.C_drew ?_))); (case side2 => exact (Kd.R_reads' HO_9.out).2.1); rintro e w21 ⟨v396, rfl, ho0, hb⟩; refine ⟨_, rfl, ?_⟩; have HO397 := ak (Kd.R_lower (Kd.R_new' ho0 (Kd.R_lt (vr HO_9.out))) (below_size (vb HB.out))); replace HO_9 := ak (Kd.R_elder' (vr HO_9.out) (Kd.R_base ho0) hb); replace HB := bs HB hb; (try clear hb); (try clear hb2); (try clear hk); (try clear hi); (try clear ho0); obtain ⟨Ao22, co22, eo22⟩ := Kd.R_slice HO397.out; subst eo22))
     go_loopg [44] k1 (fun kq v44 w' => ∃ (x44_2 : Int), v44 = .int .i64 x44_2 ∧ Aside0 (impl_ClearFrom.l1 kq l0 a1 t395 (t395.length : Int) x44_2 = some (r1, r2)) ∧ Aside0 (kq ≤ k1) ∧ Aside0 (Kd.R (Kd.int .i64) 2 w' w.heap.size (fun _ => True) (.slice Ao22 t395.length co22) t395) ∧ Aside0 (Below w.heap.size w w'))
     case atStart => exact ⟨(0), (by first | rfl | (simp; done) | (simp [*]; done)), H', ⟨Nat.le_refl _⟩, ⟨by (with_reducible repeat (first | apply Kd.R_alloc | apply Kd.R_drewN | apply Kd.R_drew)); exact Kd.R_mono HO397.out (fun _ hk => trivial)⟩, ⟨vb HB.out⟩⟩
     case round =>
      clear H'; (try clear c1); (try clear p2); (try clear c3); (try clear p3); (try clear q3); (try clear hx3); (try clear c5); (try clear c5b0); (try clear c5b1); (try clear p6); (try clear c7); (try clear c9); (try clear c9b0); (try clear c10); (try clear c10b0); (try clear c11); (try clear c11b0); (try clear c12); (try clear c12b0); (try clear c13); (try clear hcz15); (try clear hcz18); (try clear hx390_0); (try clear hx390_1); (try clear hx390_2); (try clear p2); (try clear p390); (try clear q390); obtain ⟨x44_2, rfl, HA, HK2, HO_42, HB⟩ := hrel
      cases gk with
      | zero => exact absurd HA.out (by simp [impl_ClearFrom.l1])
      | succ k2 =>
       have H := HA.out; clear HA; simp only [impl_ClearFrom.l1] at H
       by_cases c23 : x44_2 < (t395.length : Int)
       ·rw [if_pos c23] at H; have c23b0 := decide_eq_true c23; clear c23; by_cases c24 : 0 ≤ x44_2
        ·rw [if_pos c24] at H; have c24b0 := decide_eq_true c24; clear c24; by_cases c25 : x44_2 < (t395.length : Int)
         ·rw [if_pos c25] at H; have c25b0 := decide_eq_true c25; clear c25; by_cases c26 : (rd t395 x44_2) ≤ 10000000
          ·rw [if_pos c26] at H; have c26b0 := decide_eq_true c26; clear c26; obtain ⟨t399, A27, H⟩ := bnk H; by_cases c28 : t399 = true
           ·subst c28; rw [if_pos rfl] at H; simp only [Option.some.injEq, Prod.mk.injEq] at H
            obtain ⟨rfl, rfl⟩ := H; have p398 : 0 ≤ (x44_2 : Int) := od; have q398 : x44_2 < (t395.length : Int) := od; obtain ⟨ad398, e398, hx398_0⟩ := Kd.at_int (Kd.R_reads' HO_42.out).2.2 x44_2 p398 q398
            cases e398; replace p398 := eq_true p398; replace q398 := eq_true q398; go_wp2_with (first | (go_at_call 76; (with_reducible refine (impl_isClear.calls k2 _ _ l0 a1 (rd t395 x44_2) _ _ ?side1 HC0.out A27.out).mono ?_); (case side1 => exact vd HR0.out HB.out); rintro e w29 ⟨rfl, hb⟩; replace HO_42 := ak (Kd.R_below (vr HO_42.out) hb); replace HB := bs HB hb; (try clear hb); (try clear hb2); (try clear hk); (try clear hi)))
            go_ret2
            exact ⟨ew, vb HB.out⟩
           ·replace c28 := Bool.eq_false_iff.mpr c28; subst c28; rw [if_neg nf] at H; have H' := ak H; clear H; have p398 : 0 ≤ (x44_2 : Int) := od; have q398 : x44_2 < (t395.length : Int) := od; obtain ⟨ad398, e398, hx398_0⟩ := Kd.at_int (Kd.R_reads' HO_42.out).2.2 x44_2 p398 q398
            cases e398; replace p398 := eq_true p398; replace q398 := eq_true q398; go_wp2_with (first | (go_at_call 76; (with_reducible refine (impl_isClear.calls k2 _ _ l0 a1 (rd t395 x44_2) _ _ ?side1 HC0.out A27.out).mono ?_); (case side1 => exact vd HR0.out HB.out); rintro e w30 ⟨rfl, hb⟩; replace HO_42 := ak (Kd.R_below (vr HO_42.out) hb); replace HB := bs HB hb; (try clear hb); (try clear hb2); (try clear hk); (try clear hi)))
            go_roundg k2
            case measure => have := HK1.out; have := HK2.out; omega
            case rel => exact ⟨(wrap64 (x44_2 + 1)), (by first | rfl | (simp; done) | (simp [*]; done)), H', ⟨by have := HK1.out; have := HK2.out; omega⟩, ⟨by (with_reducible repeat (first | apply Kd.R_alloc | apply Kd.R_drewN | apply Kd.R_drew)); exact HO_42.out⟩, ⟨vb HB.out⟩⟩
          ·rw [if_neg c26] at H; have c26b0 := decide_eq_false c26; clear c26; have H' := ak H; clear H; have p398 : 0 ≤ (x44_2 : Int) := od; have q398 : x44_2 < (t395.length : Int) := od; obtain ⟨ad398, e398, hx398_0⟩ := Kd.at_int (Kd.R_reads' HO_42.out).2.2 x44_2 p398 q398
           cases e398; replace p398 := eq_true p398; replace q398 := eq_true q398; go_wp2
           go_roundg k2
           case measure => have := HK1.out; have := HK2.out; omega
           case rel => exact ⟨(wrap64 (x44_2 + 1)), (by first | rfl | (simp; done) | (simp [*]; done)), H', ⟨by have := HK1.out; have := HK2.out; omega⟩, ⟨by (with_reducible repeat (first | apply Kd.R_alloc | apply Kd.R_drewN | apply Kd.R_drew)); exact HO_42.out⟩, ⟨vb HB.out⟩⟩
         ·rw [if_neg c25] at H; exact absurd H (by simp)
        ·rw [if_neg c24] at H; exact absurd H (by simp)
       ·rw [if_neg c23] at H; have c23b0 := decide_eq_false c23; clear c23; simp only [Option.some.injEq, Prod.mk.injEq] at H
        obtain ⟨rfl, rfl⟩ := H; go_wp2
        go_ret2
        exact ⟨ew, vb HB.out⟩
 ·rw [if_neg c5] at H; obtain ⟨c5b0, c5b1⟩ := bqf c5; simp only [Option.some.injEq, Prod.mk.injEq] at H
  obtain ⟨rfl, rfl⟩ := H; go_enter Try.func34, Try.ntmps34; go_wp2_with (first | ((with_reducible refine at_fn (f := 74) rfl ?_); refine gl (some 17) Try.func74 #[.slice A0 l0.length c0, .string a1, .int .i64 a2] ?_; (with_reducible refine (impl_zoneAsked.calls k _ _ l0 a1 a2 t386 _ ?side1 HC0.out A4.out).mono ?_); (case side1 => exact vc HR0.out); rintro e w31 ⟨rfl, hb⟩; refine ⟨_, rfl, ?_⟩; replace HB := bs HB hb; (try clear hb); (try clear hb2); (try clear hk); (try clear hi)))
  go_ret2
  exact ⟨ew, vb HB.out⟩


end Go.Proofs.Ytllhghcepbkpeaa.Pall
