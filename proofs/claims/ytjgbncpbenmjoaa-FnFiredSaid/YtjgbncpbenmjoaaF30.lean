/- Go functions of the program, each as a Lean function, and the proof that each call comes to what the Lean function tells; no condition beyond those that stand there. -/
import Derived.Test.YtjgbncpbenmjoaaF00
import Derived.Test.YtjgbncpbenmjoaaF02
import Derived.Test.YtjgbncpbenmjoaaF12
import Derived.Test.YtjgbncpbenmjoaaF13
import Derived.Test.YtjgbncpbenmjoaaWGuard
import Derived.Test.YtjgbncpbenmjoaaWMore
import Derived.Test.YtjgbncpbenmjoaaWTab
import Derived.Test.YtjgbncpbenmjoaaSpare
import Derived.Test.YtjgbncpbenmjoaaCm
import Derived.Test.YtjgbncpbenmjoaaCm3
namespace Go.Proofs.Ytjgbncpbenmjoaa.Pall
open Go.RowKit Go.Proofs.YtjgbncpbenmjoaaW.PrintWords Go.Proofs.YtjgbncpbenmjoaaW.PrintLast Go.Proofs.YtjgbncpbenmjoaaW.PrintMore
attribute [local go_sem] max2_int min2_int max_two min_two max_three min_three max_four min_four
set_option linter.unusedVariables false
set_option linter.unusedSimpArgs false

/-! ### impl_allWithin: function 104 -/
def impl_allWithin.l0 : Nat → Int → Int → List Int → Int → Int → Option (Bool)
 | 0, _, _, _, _, _ => none
 | k + 1, x1, x2, x9, x10, x11 => if x11 < x10 then (if 0 ≤ x11 then (if x11 < (x9.length : Int) then ((impl_within.f (rd x9 x11) x1 x2).bind fun t875 => (if t875 = true then (impl_allWithin.l0 k x1 x2 x9 x10 (wrap64 (x11 + 1))) else (some false))) else (none)) else (none)) else (some true)
def impl_allWithin.f (k : Nat) (l0 : List Int) (a1 : Int) (a2 : Int) : Option (Bool) := impl_allWithin.l0 k a1 a2 l0 (l0.length : Int) 0
theorem impl_allWithin.mono_l : ∀ k, (∀ y0 y1 y2 y3 y4, LeO (impl_allWithin.l0 k y0 y1 y2 y3 y4) (impl_allWithin.l0 (k + 1) y0 y1 y2 y3 y4))
 | 0 => fun _ _ _ _ _ r h => by simp [impl_allWithin.l0] at h
 | k + 1 => by
  have ih0 := impl_allWithin.mono_l k
  ·intro y0 y1 y2 y3 y4; unfold impl_allWithin.l0
   repeat' first | (with_reducible first | exact ih0 _ _ _ _ _ | exact LeO.refl _ | exact LeO.none _ | refine LeO.ite ?_ ?_ | refine LeO.bind ?_ (fun _ => ?_)) | exact ih0 _ _ _ _ _ | exact LeO.none _ | refine LeO.ite ?_ ?_ | refine LeO.bind ?_ (fun _ => ?_)
theorem impl_allWithin.mono : ∀ a0 a1 a2 k, LeO (impl_allWithin.f k a0 a1 a2) (impl_allWithin.f (k + 1) a0 a1 a2) := by
 intro a0 a1 a2 k; have ih0 := impl_allWithin.mono_l k; unfold impl_allWithin.f
 repeat' first | (with_reducible first | exact ih0 _ _ _ _ _ | exact LeO.refl _ | exact LeO.none _ | refine LeO.ite ?_ ?_ | refine LeO.bind ?_ (fun _ => ?_)) | exact ih0 _ _ _ _ _ | exact LeO.none _ | refine LeO.ite ?_ ?_ | refine LeO.bind ?_ (fun _ => ?_)
set_option maxHeartbeats 8000000 in
set_option maxRecDepth 100000 in
theorem impl_allWithin.calls (k : Nat) (A0 : Option Addr) (c0 : Nat) (l0 : List Int) (a1 : Int) (a2 : Int) (r : Bool) (w : World) (hr0 : Kd.C (Kd.int .i64) w A0 l0.length l0) (hc0 : l0.length ≤ c0) (h : impl_allWithin.f k l0 a1 a2 = some r) :
  Calls Try.prog 104 #[.slice A0 l0.length c0, .int .i64 a1, .int .i64 a2] w fun e w' => e = .returned (.bool r) ∧ Drawn0 w w' := by
 have HR0 := ak hr0; have HC0 := ak hc0; clear hr0 hc0; unfold impl_allWithin.f at h; have H := h; clear h; have H' := ak H; clear H; go_enter Try.func104, Try.ntmps104; go_wp2
 go_loopg [11] k (fun kq v11 w' => ∃ (x11_1 : Int), v11 = .int .i64 x11_1 ∧ Aside0 (impl_allWithin.l0 kq a1 a2 l0 (l0.length : Int) x11_1 = some r) ∧ Aside0 (kq ≤ k) ∧ Drawn0 w w')
 case atStart => exact ⟨(0), (by first | rfl | (simp; done) | (simp [*]; done)), H', ⟨Nat.le_refl _⟩, by repeat (first | exact Drawn0.refl _ | apply Drawn0.step)⟩
 case round =>
  clear H'; (try clear c1); (try clear p2); obtain ⟨x11_1, rfl, HA, HK1, ⟨m1, rfl⟩⟩ := hrel
  cases gk with
  | zero => exact absurd HA.out (by simp [impl_allWithin.l0])
  | succ k1 =>
   have H := HA.out; clear HA; simp only [impl_allWithin.l0] at H
   by_cases c4 : x11_1 < (l0.length : Int)
   ·rw [if_pos c4] at H; have c4b0 := decide_eq_true c4; clear c4; by_cases c5 : 0 ≤ x11_1
    ·rw [if_pos c5] at H; have c5b0 := decide_eq_true c5; clear c5; by_cases c6 : x11_1 < (l0.length : Int)
     ·rw [if_pos c6] at H; have c6b0 := decide_eq_true c6; clear c6; obtain ⟨t875, A7, H⟩ := bnk H; by_cases c8 : t875 = true
      ·subst c8; rw [if_pos rfl] at H; have H' := ak H; clear H; have p874 : 0 ≤ (x11_1 : Int) := od; have q874 : x11_1 < (l0.length : Int) := od; obtain ⟨ad874, e874, hx874_0⟩ := Kd.at_int HR0.out x11_1 p874 q874
       cases e874; replace p874 := eq_true p874; replace q874 := eq_true q874; go_wp2_with (first | ((with_reducible refine at_fn (f := 69) rfl ?_); refine gl (some 18) Try.func69 #[.int .i64 (rd l0 x11_1), .int .i64 a1, .int .i64 a2] ?_; (with_reducible refine (impl_within.calls (rd l0 x11_1) a1 a2 _ _ A7.out).mono ?_); rintro e w' ⟨rfl, ⟨nd, rfl⟩⟩; refine ⟨_, rfl, ?_⟩))
       go_roundg k1
       case measure => have := HK1.out; omega
       case rel => exact ⟨(wrap64 (x11_1 + 1)), (by first | rfl | (simp; done) | (simp [*]; done)), H', ⟨by have := HK1.out; omega⟩, by repeat (first | exact Drawn0.refl _ | apply Drawn0.step)⟩
      ·replace c8 := Bool.eq_false_iff.mpr c8; subst c8; rw [if_neg nf] at H; obtain rfl := Option.some.inj H; have p874 : 0 ≤ (x11_1 : Int) := od; have q874 : x11_1 < (l0.length : Int) := od; obtain ⟨ad874, e874, hx874_0⟩ := Kd.at_int HR0.out x11_1 p874 q874
       cases e874; replace p874 := eq_true p874; replace q874 := eq_true q874; go_wp2_with (first | ((with_reducible refine at_fn (f := 69) rfl ?_); refine gl (some 18) Try.func69 #[.int .i64 (rd l0 x11_1), .int .i64 a1, .int .i64 a2] ?_; (with_reducible refine (impl_within.calls (rd l0 x11_1) a1 a2 _ _ A7.out).mono ?_); rintro e w' ⟨rfl, ⟨nd, rfl⟩⟩; refine ⟨_, rfl, ?_⟩))
       go_ret
       exact ⟨by first | rfl | (simp; done) | (simp [*]; done), by repeat (first | exact Drawn0.refl _ | apply Drawn0.step)⟩
     ·rw [if_neg c6] at H; exact absurd H (by simp)
    ·rw [if_neg c5] at H; exact absurd H (by simp)
   ·rw [if_neg c4] at H; have c4b0 := decide_eq_false c4; clear c4; obtain rfl := Option.some.inj H; go_wp2
    go_ret
    exact ⟨by first | rfl | (simp; done) | (simp [*]; done), by repeat (first | exact Drawn0.refl _ | apply Drawn0.step)⟩


/-! ### impl_areCueTimes: function 82 -/
def impl_areCueTimes.f (k : Nat) (l0 : List Int) : Option (Bool) := if (l0.length : Int) ≤ 20 then ((impl_allWithin.f k l0 0 10000000).bind fun t876 => (some t876)) else (some false)
theorem impl_areCueTimes.mono : ∀ a0 k, LeO (impl_areCueTimes.f k a0) (impl_areCueTimes.f (k + 1) a0) := by
 intro a0 k; unfold impl_areCueTimes.f
 repeat' first | (with_reducible first | exact impl_allWithin.mono _ _ _ _ | exact LeO.refl _ | exact LeO.none _ | refine LeO.ite ?_ ?_ | refine LeO.bind ?_ (fun _ => ?_)) | exact impl_allWithin.mono _ _ _ _ | exact LeO.none _ | refine LeO.ite ?_ ?_ | refine LeO.bind ?_ (fun _ => ?_)
set_option maxHeartbeats 8000000 in
set_option maxRecDepth 100000 in
theorem impl_areCueTimes.calls (k : Nat) (A0 : Option Addr) (c0 : Nat) (l0 : List Int) (r : Bool) (w : World) (hr0 : Kd.C (Kd.int .i64) w A0 l0.length l0) (hc0 : l0.length ≤ c0) (h : impl_areCueTimes.f k l0 = some r) :
  Calls Try.prog 82 #[.slice A0 l0.length c0] w fun e w' => e = .returned (.bool r) ∧ Drawn0 w w' := by
 have HR0 := ak hr0; have HC0 := ak hc0; clear hr0 hc0; unfold impl_areCueTimes.f at h; have H := h; clear h; by_cases c2 : (l0.length : Int) ≤ 20
 rw [if_pos c2] at H; have c2b0 := decide_eq_true c2; have c2b1 : decide (l0.length ≤ 20) = true := decide_eq_true (by omega); clear c2; obtain ⟨t876, A3, H⟩ := bnk H; obtain rfl := Option.some.inj H; rotate_left
 rw [if_neg c2] at H; have c2b0 := decide_eq_false c2; have c2b1 : decide (l0.length ≤ 20) = false := decide_eq_false (by omega); clear c2; obtain rfl := Option.some.inj H; rotate_left
 all_goals
  go_enter Try.func82, Try.ntmps82; go_wp2_with (first | (go_at_call 104; (with_reducible refine (impl_allWithin.calls k _ _ l0 0 10000000 t876 _ ?side1 HC0.out A3.out).mono ?_); (case side1 => exact vc HR0.out); rintro e w' ⟨rfl, ⟨nd, rfl⟩⟩))
  go_ret
  exact ⟨by first | rfl | (simp; done) | (simp [*]; done), by repeat (first | exact Drawn0.refl _ | apply Drawn0.step)⟩


/-! ### impl_peopleIn: function 110 -/
def impl_peopleIn.l0 : Nat → ByteArray → Int → Int → List (S111) → Int → Int → Option (Int)
 | 0, _, _, _, _, _, _ => none
 | k + 1, x1, x2, x7, x10, x11, x12 => if x12 < x11 then (if 0 ≤ x12 then (if x12 < (x10.length : Int) then (if ((rd_T111 x10 x12).f1).toList = x1.toList then (if ((rd_T111 x10 x12).f0) ≤ x2 then (impl_peopleIn.l0 k x1 x2 (wrap64 (x7 + ((rd_T111 x10 x12).f2))) x10 x11 (wrap64 (x12 + 1))) else (impl_peopleIn.l0 k x1 x2 x7 x10 x11 (wrap64 (x12 + 1)))) else (impl_peopleIn.l0 k x1 x2 x7 x10 x11 (wrap64 (x12 + 1)))) else (none)) else (none)) else (some x7)
def impl_peopleIn.f (k : Nat) (l0 : List (S111)) (a1 : ByteArray) (a2 : Int) : Option (Int) := impl_peopleIn.l0 k a1 a2 0 l0 (l0.length : Int) 0
theorem impl_peopleIn.mono_l : ∀ k, (∀ y0 y1 y2 y3 y4 y5, LeO (impl_peopleIn.l0 k y0 y1 y2 y3 y4 y5) (impl_peopleIn.l0 (k + 1) y0 y1 y2 y3 y4 y5))
 | 0 => fun _ _ _ _ _ _ r h => by simp [impl_peopleIn.l0] at h
 | k + 1 => by
  have ih0 := impl_peopleIn.mono_l k
  ·intro y0 y1 y2 y3 y4 y5; unfold impl_peopleIn.l0
   repeat' first | (with_reducible first | exact ih0 _ _ _ _ _ _ | exact LeO.refl _ | exact LeO.none _ | refine LeO.ite ?_ ?_ | refine LeO.bind ?_ (fun _ => ?_)) | exact ih0 _ _ _ _ _ _ | exact LeO.none _ | refine LeO.ite ?_ ?_ | refine LeO.bind ?_ (fun _ => ?_)
theorem impl_peopleIn.mono : ∀ a0 a1 a2 k, LeO (impl_peopleIn.f k a0 a1 a2) (impl_peopleIn.f (k + 1) a0 a1 a2) := by
 intro a0 a1 a2 k; have ih0 := impl_peopleIn.mono_l k; unfold impl_peopleIn.f
 repeat' first | (with_reducible first | exact ih0 _ _ _ _ _ _ | exact LeO.refl _ | exact LeO.none _ | refine LeO.ite ?_ ?_ | refine LeO.bind ?_ (fun _ => ?_)) | exact ih0 _ _ _ _ _ _ | exact LeO.none _ | refine LeO.ite ?_ ?_ | refine LeO.bind ?_ (fun _ => ?_)
set_option maxHeartbeats 8000000 in
set_option maxRecDepth 100000 in
theorem impl_peopleIn.calls (k : Nat) (A0 : Option Addr) (c0 : Nat) (l0 : List (S111)) (a1 : ByteArray) (a2 : Int) (r : Int) (w : World) (hr0 : Kd.C k111 w A0 l0.length l0) (hc0 : l0.length ≤ c0) (h : impl_peopleIn.f k l0 a1 a2 = some r) :
  Calls Try.prog 110 #[.slice A0 l0.length c0, .string a1, .int .i64 a2] w fun e w' => e = .returned (.int .i64 r) ∧ Below w.heap.size w w' := by
 have hu111 := Try.underlying111; have HR0 := ak hr0; have HC0 := ak hc0; clear hr0 hc0; have HB := ak (Below.refl w.heap.size w); unfold impl_peopleIn.f at h; have H := h; clear h; have H' := ak H; clear H; go_enter Try.func110, Try.ntmps110; go_wp2
 go_loopg [7, 12] k (fun kq v7 v12 w' => ∃ (x7_1 : Int) (x12_1 : Int), v7 = .int .i64 x7_1 ∧ v12 = .int .i64 x12_1 ∧ Aside0 (impl_peopleIn.l0 kq a1 a2 x7_1 l0 (l0.length : Int) x12_1 = some r) ∧ Aside0 (kq ≤ k) ∧ Aside0 (Below w.heap.size w w'))
 case atStart => exact ⟨(0), (0), (by first | rfl | (simp; done) | (simp [*]; done)), (by first | rfl | (simp; done) | (simp [*]; done)), H', ⟨Nat.le_refl _⟩, ⟨vb HB.out⟩⟩
 case round =>
  clear H'; (try clear c1); (try clear p2); obtain ⟨x7_1, x12_1, rfl, rfl, HA, HK1, HB⟩ := hrel
  cases gk with
  | zero => exact absurd HA.out (by simp [impl_peopleIn.l0])
  | succ k1 =>
   have H := HA.out; clear HA; simp only [impl_peopleIn.l0] at H
   by_cases c4 : x12_1 < (l0.length : Int)
   ·rw [if_pos c4] at H; have c4b0 := decide_eq_true c4; clear c4; by_cases c5 : 0 ≤ x12_1
    ·rw [if_pos c5] at H; have c5b0 := decide_eq_true c5; clear c5; by_cases c6 : x12_1 < (l0.length : Int)
     ·rw [if_pos c6] at H; have c6b0 := decide_eq_true c6; clear c6; by_cases c7 : ((rd_T111 l0 x12_1).f1).toList = a1.toList
      ·rw [if_pos c7] at H; have c7b0 : (((rd_T111 l0 x12_1).f1).toList == a1.toList) = true := beq_iff_eq.mpr c7; have c7b1 : (((rd_T111 l0 x12_1).f1).toList != a1.toList) = false := bne_eq_false_iff_eq.mpr c7; clear c7; by_cases c8 : ((rd_T111 l0 x12_1).f0) ≤ a2
       ·rw [if_pos c8] at H; have c8b0 := decide_eq_true c8; clear c8; have H' := ak H; clear H; have p877 : 0 ≤ (x12_1 : Int) := od; have q877 : x12_1 < (l0.length : Int) := od; obtain ⟨ad877, e877, hx877_0, hx877_1, hx877_2⟩ := at_T111 HR0.out x12_1 p877 q877
        cases e877; replace hx877_0 := cb HB.out hx877_0; replace hx877_1 := cb HB.out hx877_1; replace hx877_2 := cb HB.out hx877_2; replace p877 := eq_true p877; replace q877 := eq_true q877; go_wp2_with (first | ((with_reducible refine gate_dst (N := 9) rfl ?_); refine bx 9 #[.int .i64 0, .string (⟨#[]⟩ : ByteArray), .int .i64 0] 111 ?_; intro gb878 hg w9 hbox hb; have BK878 := ak hbox; have GW878 := gw hg HB; have GE878 := gw hg HB; replace HB := bs HB hb; clear hb hbox hg; have hcz10 := cz3 BK878.out))
        go_roundg k1
        case measure => have := HK1.out; omega
        case rel => exact ⟨(wrap64 (x7_1 + ((rd_T111 l0 x12_1).f2))), (wrap64 (x12_1 + 1)), (by first | rfl | (simp; done) | (simp [*]; done)), (by first | rfl | (simp; done) | (simp [*]; done)), H', ⟨by have := HK1.out; omega⟩, ⟨vb HB.out⟩⟩
       ·rw [if_neg c8] at H; have c8b0 := decide_eq_false c8; clear c8; have H' := ak H; clear H; have p877 : 0 ≤ (x12_1 : Int) := od; have q877 : x12_1 < (l0.length : Int) := od; obtain ⟨ad877, e877, hx877_0, hx877_1, hx877_2⟩ := at_T111 HR0.out x12_1 p877 q877
        cases e877; replace hx877_0 := cb HB.out hx877_0; replace hx877_1 := cb HB.out hx877_1; replace hx877_2 := cb HB.out hx877_2; replace p877 := eq_true p877; replace q877 := eq_true q877; go_wp2_with (first | ((with_reducible refine gate_dst (N := 9) rfl ?_); refine bx 9 #[.int .i64 0, .string (⟨#[]⟩ : ByteArray), .int .i64 0] 111 ?_; intro gb878 hg w11 hbox hb; have BK878 := ak hbox; have GW878 := gw hg HB; have GE878 := gw hg HB; replace HB := bs HB hb; clear hb hbox hg; have hcz12 := cz3 BK878.out))
        go_roundg k1
        case measure => have := HK1.out; omega
        case rel => exact ⟨(x7_1), (wrap64 (x12_1 + 1)), (by first | rfl | (simp; done) | (simp [*]; done)), (by first | rfl | (simp; done) | (simp [*]; done)), H', ⟨by have := HK1.out; omega⟩, ⟨vb HB.out⟩⟩
      ·rw [if_neg c7] at H; have c7b0 : (((rd_T111 l0 x12_1).f1).toList == a1.toList) = false := beq_eq_false_iff_ne.mpr c7; have c7b1 : (((rd_T111 l0 x12_1).f1).toList != a1.toList) = true := bne_iff_ne.mpr c7; have H' := ak H; clear H; have p877 : 0 ≤ (x12_1 : Int) := od; have q877 : x12_1 < (l0.length : Int) := od; obtain ⟨ad877, e877, hx877_0, hx877_1, hx877_2⟩ := at_T111 HR0.out x12_1 p877 q877
       cases e877; replace hx877_0 := cb HB.out hx877_0; replace hx877_1 := cb HB.out hx877_1; replace hx877_2 := cb HB.out hx877_2; replace p877 := eq_true p877; replace q877 := eq_true q877; go_wp2_with (first | ((with_reducible refine gate_dst (N := 9) rfl ?_); refine bx 9 #[.int .i64 0, .string (⟨#[]⟩ : ByteArray), .int .i64 0] 111 ?_; intro gb878 hg w13 hbox hb; have BK878 := ak hbox; have GW878 := gw hg HB; have GE878 := gw hg HB; replace HB := bs HB hb; clear hb hbox hg; have hcz14 := cz3 BK878.out))
       go_roundg k1
       case measure => have := HK1.out; omega
       case rel => exact ⟨(x7_1), (wrap64 (x12_1 + 1)), (by first | rfl | (simp; done) | (simp [*]; done)), (by first | rfl | (simp; done) | (simp [*]; done)), H', ⟨by have := HK1.out; omega⟩, ⟨vb HB.out⟩⟩
     ·rw [if_neg c6] at H; exact absurd H (by simp)
    ·rw [if_neg c5] at H; exact absurd H (by simp)
   ·rw [if_neg c4] at H; have c4b0 := decide_eq_false c4; clear c4; obtain rfl := Option.some.inj H; go_wp2
    go_ret
    exact ⟨ew, vb HB.out⟩


/-! ### impl_isClear: function 111 -/
def impl_isClear.l0 : Nat → List (S111) → ByteArray → Int → List (S111) → Int → Int → Option (Bool)
 | 0, _, _, _, _, _, _ => none
 | k + 1, x0, x1, x2, x9, x10, x11 => if x11 < x10 then (if 0 ≤ x11 then (if x11 < (x9.length : Int) then (if ((rd_T111 x9 x11).f1).toList = x1.toList then (if ((rd_T111 x9 x11).f0) ≤ x2 then (if (wrap64 (x2 - ((rd_T111 x9 x11).f0))) < 30000 then (some false) else (impl_isClear.l0 k x0 x1 x2 x9 x10 (wrap64 (x11 + 1)))) else (impl_isClear.l0 k x0 x1 x2 x9 x10 (wrap64 (x11 + 1)))) else (impl_isClear.l0 k x0 x1 x2 x9 x10 (wrap64 (x11 + 1)))) else (none)) else (none)) else ((impl_peopleIn.f k x0 x1 x2).bind fun t881 => (some (t881 == 0)))
def impl_isClear.f (k : Nat) (l0 : List (S111)) (a1 : ByteArray) (a2 : Int) : Option (Bool) := impl_isClear.l0 k l0 a1 a2 l0 (l0.length : Int) 0
theorem impl_isClear.mono_l : ∀ k, (∀ y0 y1 y2 y3 y4 y5, LeO (impl_isClear.l0 k y0 y1 y2 y3 y4 y5) (impl_isClear.l0 (k + 1) y0 y1 y2 y3 y4 y5))
 | 0 => fun _ _ _ _ _ _ r h => by simp [impl_isClear.l0] at h
 | k + 1 => by
  have ih0 := impl_isClear.mono_l k
  ·intro y0 y1 y2 y3 y4 y5; unfold impl_isClear.l0
   repeat' first | (with_reducible first | exact ih0 _ _ _ _ _ _ | exact impl_peopleIn.mono _ _ _ _ | exact LeO.refl _ | exact LeO.none _ | refine LeO.ite ?_ ?_ | refine LeO.bind ?_ (fun _ => ?_)) | exact ih0 _ _ _ _ _ _ | exact impl_peopleIn.mono _ _ _ _ | exact LeO.none _ | refine LeO.ite ?_ ?_ | refine LeO.bind ?_ (fun _ => ?_)
theorem impl_isClear.mono : ∀ a0 a1 a2 k, LeO (impl_isClear.f k a0 a1 a2) (impl_isClear.f (k + 1) a0 a1 a2) := by
 intro a0 a1 a2 k; have ih0 := impl_isClear.mono_l k; unfold impl_isClear.f
 repeat' first | (with_reducible first | exact ih0 _ _ _ _ _ _ | exact impl_peopleIn.mono _ _ _ _ | exact LeO.refl _ | exact LeO.none _ | refine LeO.ite ?_ ?_ | refine LeO.bind ?_ (fun _ => ?_)) | exact ih0 _ _ _ _ _ _ | exact impl_peopleIn.mono _ _ _ _ | exact LeO.none _ | refine LeO.ite ?_ ?_ | refine LeO.bind ?_ (fun _ => ?_)
set_option maxHeartbeats 8000000 in
set_option maxRecDepth 100000 in
theorem impl_isClear.calls (k : Nat) (A0 : Option Addr) (c0 : Nat) (l0 : List (S111)) (a1 : ByteArray) (a2 : Int) (r : Bool) (w : World) (hr0 : Kd.C k111 w A0 l0.length l0) (hc0 : l0.length ≤ c0) (h : impl_isClear.f k l0 a1 a2 = some r) :
  Calls Try.prog 111 #[.slice A0 l0.length c0, .string a1, .int .i64 a2] w fun e w' => e = .returned (.bool r) ∧ Below w.heap.size w w' := by
 have hu111 := Try.underlying111; have HR0 := ak hr0; have HC0 := ak hc0; clear hr0 hc0; have HB := ak (Below.refl w.heap.size w); unfold impl_isClear.f at h; have H := h; clear h; have H' := ak H; clear H; go_enter Try.func111, Try.ntmps111; go_wp2
 go_loopg [11] k (fun kq v11 w' => ∃ (x11_1 : Int), v11 = .int .i64 x11_1 ∧ Aside0 (impl_isClear.l0 kq l0 a1 a2 l0 (l0.length : Int) x11_1 = some r) ∧ Aside0 (kq ≤ k) ∧ Aside0 (Below w.heap.size w w'))
 case atStart => exact ⟨(0), (by first | rfl | (simp; done) | (simp [*]; done)), H', ⟨Nat.le_refl _⟩, ⟨vb HB.out⟩⟩
 case round =>
  clear H'; (try clear c1); (try clear p2); obtain ⟨x11_1, rfl, HA, HK1, HB⟩ := hrel
  cases gk with
  | zero => exact absurd HA.out (by simp [impl_isClear.l0])
  | succ k1 =>
   have H := HA.out; clear HA; simp only [impl_isClear.l0] at H
   by_cases c4 : x11_1 < (l0.length : Int)
   ·rw [if_pos c4] at H; have c4b0 := decide_eq_true c4; clear c4; by_cases c5 : 0 ≤ x11_1
    ·rw [if_pos c5] at H; have c5b0 := decide_eq_true c5; clear c5; by_cases c6 : x11_1 < (l0.length : Int)
     ·rw [if_pos c6] at H; have c6b0 := decide_eq_true c6; clear c6; by_cases c7 : ((rd_T111 l0 x11_1).f1).toList = a1.toList
      ·rw [if_pos c7] at H; have c7b0 : (((rd_T111 l0 x11_1).f1).toList == a1.toList) = true := beq_iff_eq.mpr c7; have c7b1 : (((rd_T111 l0 x11_1).f1).toList != a1.toList) = false := bne_eq_false_iff_eq.mpr c7; clear c7; by_cases c8 : ((rd_T111 l0 x11_1).f0) ≤ a2
       ·rw [if_pos c8] at H; have c8b0 := decide_eq_true c8; clear c8; by_cases c9 : (wrap64 (a2 - ((rd_T111 l0 x11_1).f0))) < 30000
        ·rw [if_pos c9] at H; have c9b0 := decide_eq_true c9; clear c9; obtain rfl := Option.some.inj H; have p879 : 0 ≤ (x11_1 : Int) := od; have q879 : x11_1 < (l0.length : Int) := od; obtain ⟨ad879, e879, hx879_0, hx879_1, hx879_2⟩ := at_T111 HR0.out x11_1 p879 q879
         cases e879; replace hx879_0 := cb HB.out hx879_0; replace hx879_1 := cb HB.out hx879_1; replace hx879_2 := cb HB.out hx879_2; replace p879 := eq_true p879; replace q879 := eq_true q879; go_wp2_with (first | ((with_reducible refine gate_dst (N := 8) rfl ?_); refine bx 8 #[.int .i64 0, .string (⟨#[]⟩ : ByteArray), .int .i64 0] 111 ?_; intro gb880 hg w10 hbox hb; have BK880 := ak hbox; have GW880 := gw hg HB; have GE880 := gw hg HB; replace HB := bs HB hb; clear hb hbox hg; have hcz11 := cz3 BK880.out))
         go_ret
         exact ⟨ew, vb HB.out⟩
        ·rw [if_neg c9] at H; have c9b0 := decide_eq_false c9; clear c9; have H' := ak H; clear H; have p879 : 0 ≤ (x11_1 : Int) := od; have q879 : x11_1 < (l0.length : Int) := od; obtain ⟨ad879, e879, hx879_0, hx879_1, hx879_2⟩ := at_T111 HR0.out x11_1 p879 q879
         cases e879; replace hx879_0 := cb HB.out hx879_0; replace hx879_1 := cb HB.out hx879_1; replace hx879_2 := cb HB.out hx879_2; replace p879 := eq_true p879; replace q879 := eq_true q879; go_wp2_with (first | ((with_reducible refine gate_dst (N := 8) rfl ?_); refine bx 8 #[.int .i64 0, .string (⟨#[]⟩ : ByteArray), .int .i64 0] 111 ?_; intro gb880 hg w12 hbox hb; have BK880 := ak hbox; have GW880 := gw hg HB; have GE880 := gw hg HB; replace HB := bs HB hb; clear hb hbox hg; have hcz13 := cz3 BK880.out))
         go_roundg k1
         case measure => have := HK1.out; omega
         case rel => exact ⟨(wrap64 (x11_1 + 1)), (by first | rfl | (simp; done) | (simp [*]; done)), H', ⟨by have := HK1.out; omega⟩, ⟨vb HB.out⟩⟩
       ·rw [if_neg c8] at H; have c8b0 := decide_eq_false c8; clear c8; have H' := ak H; clear H; have p879 : 0 ≤ (x11_1 : Int) := od; have q879 : x11_1 < (l0.length : Int) := od; obtain ⟨ad879, e879, hx879_0, hx879_1, hx879_2⟩ := at_T111 HR0.out x11_1 p879 q879
        cases e879; replace hx879_0 := cb HB.out hx879_0; replace hx879_1 := cb HB.out hx879_1; replace hx879_2 := cb HB.out hx879_2; replace p879 := eq_true p879; replace q879 := eq_true q879; go_wp2_with (first | ((with_reducible refine gate_dst (N := 8) rfl ?_); refine bx 8 #[.int .i64 0, .string (⟨#[]⟩ : ByteArray), .int .i64 0] 111 ?_; intro gb880 hg w14 hbox hb; have BK880 := ak hbox; have GW880 := gw hg HB; have GE880 := gw hg HB; replace HB := bs HB hb; clear hb hbox hg; have hcz15 := cz3 BK880.out))
        go_roundg k1
        case measure => have := HK1.out; omega
        case rel => exact ⟨(wrap64 (x11_1 + 1)), (by first | rfl | (simp; done) | (simp [*]; done)), H', ⟨by have := HK1.out; omega⟩, ⟨vb HB.out⟩⟩
      ·rw [if_neg c7] at H; have c7b0 : (((rd_T111 l0 x11_1).f1).toList == a1.toList) = false := beq_eq_false_iff_ne.mpr c7; have c7b1 : (((rd_T111 l0 x11_1).f1).toList != a1.toList) = true := bne_iff_ne.mpr c7; have H' := ak H; clear H; have p879 : 0 ≤ (x11_1 : Int) := od; have q879 : x11_1 < (l0.length : Int) := od; obtain ⟨ad879, e879, hx879_0, hx879_1, hx879_2⟩ := at_T111 HR0.out x11_1 p879 q879
       cases e879; replace hx879_0 := cb HB.out hx879_0; replace hx879_1 := cb HB.out hx879_1; replace hx879_2 := cb HB.out hx879_2; replace p879 := eq_true p879; replace q879 := eq_true q879; go_wp2_with (first | ((with_reducible refine gate_dst (N := 8) rfl ?_); refine bx 8 #[.int .i64 0, .string (⟨#[]⟩ : ByteArray), .int .i64 0] 111 ?_; intro gb880 hg w16 hbox hb; have BK880 := ak hbox; have GW880 := gw hg HB; have GE880 := gw hg HB; replace HB := bs HB hb; clear hb hbox hg; have hcz17 := cz3 BK880.out))
       go_roundg k1
       case measure => have := HK1.out; omega
       case rel => exact ⟨(wrap64 (x11_1 + 1)), (by first | rfl | (simp; done) | (simp [*]; done)), H', ⟨by have := HK1.out; omega⟩, ⟨vb HB.out⟩⟩
     ·rw [if_neg c6] at H; exact absurd H (by simp)
    ·rw [if_neg c5] at H; exact absurd H (by simp)
   ·rw [if_neg c4] at H; have c4b0 := decide_eq_false c4; clear c4; obtain ⟨t881, A18, H⟩ := bnk H; obtain rfl := Option.some.inj H; go_wp2_with (first | ((with_reducible refine at_fn (f := 110) rfl ?_); refine gl (some 36) Try.func110 #[.slice A0 l0.length c0, .string a1, .int .i64 a2] ?_; (with_reducible refine (impl_peopleIn.calls k1 _ _ l0 a1 a2 t881 _ ?side1 HC0.out A18.out).mono ?_); (case side1 => exact vd HR0.out HB.out); rintro e w19 ⟨rfl, hb⟩; refine ⟨_, rfl, ?_⟩; replace HB := bs HB hb; (try clear hb); (try clear hb2); (try clear hk); (try clear hi)))
    go_ret
    exact ⟨ew, vb HB.out⟩


/-! ### impl_areAllClear: function 95 -/
def impl_areAllClear.l0 : Nat → List (S111) → Int → List ByteArray → Int → Int → Option (Bool)
 | 0, _, _, _, _, _ => none
 | k + 1, x0, x2, x9, x10, x11 => if x11 < x10 then (if 0 ≤ x11 then (if x11 < (x9.length : Int) then ((impl_isClear.f k x0 (rdOf ByteArray.empty x9 x11) x2).bind fun t883 => (if t883 = true then (impl_areAllClear.l0 k x0 x2 x9 x10 (wrap64 (x11 + 1))) else (some false))) else (none)) else (none)) else (some true)
def impl_areAllClear.f (k : Nat) (l0 : List (S111)) (l1 : List ByteArray) (a2 : Int) : Option (Bool) := impl_areAllClear.l0 k l0 a2 l1 (l1.length : Int) 0
theorem impl_areAllClear.mono_l : ∀ k, (∀ y0 y1 y2 y3 y4, LeO (impl_areAllClear.l0 k y0 y1 y2 y3 y4) (impl_areAllClear.l0 (k + 1) y0 y1 y2 y3 y4))
 | 0 => fun _ _ _ _ _ r h => by simp [impl_areAllClear.l0] at h
 | k + 1 => by
  have ih0 := impl_areAllClear.mono_l k
  ·intro y0 y1 y2 y3 y4; unfold impl_areAllClear.l0
   repeat' first | (with_reducible first | exact ih0 _ _ _ _ _ | exact impl_isClear.mono _ _ _ _ | exact LeO.refl _ | exact LeO.none _ | refine LeO.ite ?_ ?_ | refine LeO.bind ?_ (fun _ => ?_)) | exact ih0 _ _ _ _ _ | exact impl_isClear.mono _ _ _ _ | exact LeO.none _ | refine LeO.ite ?_ ?_ | refine LeO.bind ?_ (fun _ => ?_)
theorem impl_areAllClear.mono : ∀ a0 a1 a2 k, LeO (impl_areAllClear.f k a0 a1 a2) (impl_areAllClear.f (k + 1) a0 a1 a2) := by
 intro a0 a1 a2 k; have ih0 := impl_areAllClear.mono_l k; unfold impl_areAllClear.f
 repeat' first | (with_reducible first | exact ih0 _ _ _ _ _ | exact impl_isClear.mono _ _ _ _ | exact LeO.refl _ | exact LeO.none _ | refine LeO.ite ?_ ?_ | refine LeO.bind ?_ (fun _ => ?_)) | exact ih0 _ _ _ _ _ | exact impl_isClear.mono _ _ _ _ | exact LeO.none _ | refine LeO.ite ?_ ?_ | refine LeO.bind ?_ (fun _ => ?_)
set_option maxHeartbeats 8000000 in
set_option maxRecDepth 100000 in
theorem impl_areAllClear.calls (k : Nat) (A0 : Option Addr) (c0 : Nat) (l0 : List (S111)) (A1 : Option Addr) (c1 : Nat) (l1 : List ByteArray) (a2 : Int) (r : Bool) (w : World) (hr0 : Kd.C k111 w A0 l0.length l0) (hc0 : l0.length ≤ c0) (hr1 : Kd.C Kd.string w A1 l1.length l1) (hc1 : l1.length ≤ c1) (h : impl_areAllClear.f k l0 l1 a2 = some r) :
  Calls Try.prog 95 #[.slice A0 l0.length c0, .slice A1 l1.length c1, .int .i64 a2] w fun e w' => e = .returned (.bool r) ∧ Below w.heap.size w w' := by
 have HR0 := ak hr0; have HC0 := ak hc0; clear hr0 hc0; have HR1 := ak hr1; have HC1 := ak hc1; clear hr1 hc1; have HB := ak (Below.refl w.heap.size w); unfold impl_areAllClear.f at h; have H := h; clear h; have H' := ak H; clear H; go_enter Try.func95, Try.ntmps95; go_wp2
 go_loopg [11] k (fun kq v11 w' => ∃ (x11_1 : Int), v11 = .int .i64 x11_1 ∧ Aside0 (impl_areAllClear.l0 kq l0 a2 l1 (l1.length : Int) x11_1 = some r) ∧ Aside0 (kq ≤ k) ∧ Aside0 (Below w.heap.size w w'))
 case atStart => exact ⟨(0), (by first | rfl | (simp; done) | (simp [*]; done)), H', ⟨Nat.le_refl _⟩, ⟨vb HB.out⟩⟩
 case round =>
  clear H'; (try clear c1); (try clear p2); obtain ⟨x11_1, rfl, HA, HK1, HB⟩ := hrel
  cases gk with
  | zero => exact absurd HA.out (by simp [impl_areAllClear.l0])
  | succ k1 =>
   have H := HA.out; clear HA; simp only [impl_areAllClear.l0] at H
   by_cases c4 : x11_1 < (l1.length : Int)
   ·rw [if_pos c4] at H; have c4b0 := decide_eq_true c4; clear c4; by_cases c5 : 0 ≤ x11_1
    ·rw [if_pos c5] at H; have c5b0 := decide_eq_true c5; clear c5; by_cases c6 : x11_1 < (l1.length : Int)
     ·rw [if_pos c6] at H; have c6b0 := decide_eq_true c6; clear c6; obtain ⟨t883, A7, H⟩ := bnk H; by_cases c8 : t883 = true
      ·subst c8; rw [if_pos rfl] at H; have H' := ak H; clear H; have p882 : 0 ≤ (x11_1 : Int) := od; have q882 : x11_1 < (l1.length : Int) := od; obtain ⟨ad882, e882, hx882_0⟩ := Kd.at_string HR1.out x11_1 p882 q882
       cases e882; replace hx882_0 := cb HB.out hx882_0; replace p882 := eq_true p882; replace q882 := eq_true q882; go_wp2_with (first | ((with_reducible refine at_fn (f := 111) rfl ?_); refine gl (some 18) Try.func111 #[.slice A0 l0.length c0, .string (rdOf ByteArray.empty l1 x11_1), .int .i64 a2] ?_; (with_reducible refine (impl_isClear.calls k1 _ _ l0 (rdOf ByteArray.empty l1 x11_1) a2 _ _ ?side1 HC0.out A7.out).mono ?_); (case side1 => exact vd HR0.out HB.out); rintro e w9 ⟨rfl, hb⟩; refine ⟨_, rfl, ?_⟩; replace HB := bs HB hb; (try clear hb); (try clear hb2); (try clear hk); (try clear hi)))
       go_roundg k1
       case measure => have := HK1.out; omega
       case rel => exact ⟨(wrap64 (x11_1 + 1)), (by first | rfl | (simp; done) | (simp [*]; done)), H', ⟨by have := HK1.out; omega⟩, ⟨vb HB.out⟩⟩
      ·replace c8 := Bool.eq_false_iff.mpr c8; subst c8; rw [if_neg nf] at H; obtain rfl := Option.some.inj H; have p882 : 0 ≤ (x11_1 : Int) := od; have q882 : x11_1 < (l1.length : Int) := od; obtain ⟨ad882, e882, hx882_0⟩ := Kd.at_string HR1.out x11_1 p882 q882
       cases e882; replace hx882_0 := cb HB.out hx882_0; replace p882 := eq_true p882; replace q882 := eq_true q882; go_wp2_with (first | ((with_reducible refine at_fn (f := 111) rfl ?_); refine gl (some 18) Try.func111 #[.slice A0 l0.length c0, .string (rdOf ByteArray.empty l1 x11_1), .int .i64 a2] ?_; (with_reducible refine (impl_isClear.calls k1 _ _ l0 (rdOf ByteArray.empty l1 x11_1) a2 _ _ ?side1 HC0.out A7.out).mono ?_); (case side1 => exact vd HR0.out HB.out); rintro e w10 ⟨rfl, hb⟩; refine ⟨_, rfl, ?_⟩; replace HB := bs HB hb; (try clear hb); (try clear hb2); (try clear hk); (try clear hi)))
       go_ret
       exact ⟨ew, vb HB.out⟩
     ·rw [if_neg c6] at H; exact absurd H (by simp)
    ·rw [if_neg c5] at H; exact absurd H (by simp)
   ·rw [if_neg c4] at H; have c4b0 := decide_eq_false c4; clear c4; obtain rfl := Option.some.inj H; go_wp2
    go_ret
    exact ⟨ew, vb HB.out⟩


/-! ### impl_firedTicks: function 83 -/
mutual
def impl_firedTicks.l1 : Nat → List Int → List S33 → List S111 → List ByteArray → List Int → Int → Int → Int → Bool → Bool → Bool → Bool → Bool → Int → List Int → Option (List Int)
 | 0, _, _, _, _, _, _, _, _, _, _, _, _, _, _, _ => none
 | k + 1, l0, l1, l2, l3, o, m, x, t, b0, b1, b2, b3, b4, n, r => if t ≤ m then ((impl_desk_begin.l0 k l1 x t b0 b1 b2 b3 b4 n r).bind fun s => ((impl_mayFire.f s.2.1 s.2.2.1 s.2.2.2.1 s.2.2.2.2.1 s.2.2.2.2.2.1 s.2.2.2.2.2.2.1).bind fun c => (if c = true then (impl_firedTicks.l2 k l0 l1 l2 l3 o m s.1 t s.2.1 s.2.2.1 s.2.2.2.1 s.2.2.2.2.1 s.2.2.2.2.2.1 s.2.2.2.2.2.2.1 s.2.2.2.2.2.2.2 0) else ((impl_giveInput.f s.2.1 s.2.2.1 s.2.2.2.1 s.2.2.2.2.1 s.2.2.2.2.2.1 s.2.2.2.2.2.2.1 8).bind fun q => (impl_firedTicks.l1 k l0 l1 l2 l3 o m s.1 (wrap64 (t + 1)) q.1 q.2.1 q.2.2.1 q.2.2.2.1 q.2.2.2.2.1 q.2.2.2.2.2.1 s.2.2.2.2.2.2.2))))) else (some o)
def impl_firedTicks.l2 : Nat → List Int → List S33 → List S111 → List ByteArray → List Int → Int → Int → Int → Bool → Bool → Bool → Bool → Bool → Int → List Int → Int → Option (List Int)
 | 0, _, _, _, _, _, _, _, _, _, _, _, _, _, _, _, _ => none
 | k + 1, l0, l1, l2, l3, o, m, x, t, b0, b1, b2, b3, b4, n, r, i => if i < (l0.length : Int) then (if 0 ≤ i then ((if (wrap64 (Int.tdiv (rd l0 i) 100)) = t then (impl_areAllClear.f k l2 l3 (wrap64 (t * 100))) else (some false)).bind fun c => (if c = true then (if i < (o.length : Int) then (impl_firedTicks.l2 k l0 l1 l2 l3 (o.set i.toNat t) m x t b0 b1 b2 b3 b4 n r (wrap64 (i + 1))) else (none)) else (impl_firedTicks.l2 k l0 l1 l2 l3 o m x t b0 b1 b2 b3 b4 n r (wrap64 (i + 1))))) else (none)) else ((impl_giveInput.f b0 b1 b2 b3 b4 n 8).bind fun q => (impl_firedTicks.l1 k l0 l1 l2 l3 o m x (wrap64 (t + 1)) q.1 q.2.1 q.2.2.1 q.2.2.2.1 q.2.2.2.2.1 q.2.2.2.2.2.1 r))
end
def impl_firedTicks.l0 : Nat → List Int → List S33 → List S111 → List ByteArray → List Int → Int → Int → Option (List Int)
 | 0, _, _, _, _, _, _, _ => none
 | k + 1, l0, l1, l2, l3, o, m, i => if i < (l0.length : Int) then (if 0 ≤ i then (if i < (o.length : Int) then (impl_firedTicks.l0 k l0 l1 l2 l3 (o.set i.toNat (-1)) (mx m (wrap64 (Int.tdiv (rd l0 i) 100))) (wrap64 (i + 1))) else (none)) else (none)) else (impl_firedTicks.l1 k l0 l1 l2 l3 o m 0 0 false false false false false 0 [])
def impl_firedTicks.f (k : Nat) (l0 : List Int) (l1 : List S33) (l2 : List S111) (l3 : List ByteArray) : Option (List Int) := if l0.length ≤ 35184372088832 then (impl_firedTicks.l0 k l0 l1 l2 l3 (List.replicate l0.length 0) 0 0) else (none)
theorem impl_firedTicks.mono_l : ∀ k, (∀ y0 y1 y2 y3 y4 y5 y6 y7 y8 y9 y10 y11 y12 y13 y14, LeO (impl_firedTicks.l1 k y0 y1 y2 y3 y4 y5 y6 y7 y8 y9 y10 y11 y12 y13 y14) (impl_firedTicks.l1 (k + 1) y0 y1 y2 y3 y4 y5 y6 y7 y8 y9 y10 y11 y12 y13 y14)) ∧ (∀ y0 y1 y2 y3 y4 y5 y6 y7 y8 y9 y10 y11 y12 y13 y14 y15, LeO (impl_firedTicks.l2 k y0 y1 y2 y3 y4 y5 y6 y7 y8 y9 y10 y11 y12 y13 y14 y15) (impl_firedTicks.l2 (k + 1) y0 y1 y2 y3 y4 y5 y6 y7 y8 y9 y10 y11 y12 y13 y14 y15))
 | 0 => ⟨fun _ _ _ _ _ _ _ _ _ _ _ _ _ _ _ r h => by simp [impl_firedTicks.l1] at h, fun _ _ _ _ _ _ _ _ _ _ _ _ _ _ _ _ r h => by simp [impl_firedTicks.l2] at h⟩
 | k + 1 => by
  obtain ⟨ih0, ih1⟩ := impl_firedTicks.mono_l k; refine ⟨?_, ?_⟩
  · intro y0 y1 y2 y3 y4 y5 y6 y7 y8 y9 y10 y11 y12 y13 y14; unfold impl_firedTicks.l1
    repeat' first | (with_reducible first | exact ih0 _ _ _ _ _ _ _ _ _ _ _ _ _ _ _ | exact ih1 _ _ _ _ _ _ _ _ _ _ _ _ _ _ _ _ | exact impl_desk_begin.mono_l _ _ _ _ _ _ _ _ _ _ _ | exact impl_areAllClear.mono _ _ _ _ | exact LeO.refl _ | exact LeO.none _ | refine LeO.ite ?_ ?_ | refine LeO.bind ?_ (fun _ => ?_)) | exact ih0 _ _ _ _ _ _ _ _ _ _ _ _ _ _ _ | exact ih1 _ _ _ _ _ _ _ _ _ _ _ _ _ _ _ _ | exact impl_desk_begin.mono_l _ _ _ _ _ _ _ _ _ _ _ | exact impl_areAllClear.mono _ _ _ _ | exact LeO.none _ | refine LeO.ite ?_ ?_ | refine LeO.bind ?_ (fun _ => ?_)
  · intro y0 y1 y2 y3 y4 y5 y6 y7 y8 y9 y10 y11 y12 y13 y14 y15; unfold impl_firedTicks.l2
    repeat' first | (with_reducible first | exact ih0 _ _ _ _ _ _ _ _ _ _ _ _ _ _ _ | exact ih1 _ _ _ _ _ _ _ _ _ _ _ _ _ _ _ _ | exact impl_desk_begin.mono_l _ _ _ _ _ _ _ _ _ _ _ | exact impl_areAllClear.mono _ _ _ _ | exact LeO.refl _ | exact LeO.none _ | refine LeO.ite ?_ ?_ | refine LeO.bind ?_ (fun _ => ?_)) | exact ih0 _ _ _ _ _ _ _ _ _ _ _ _ _ _ _ | exact ih1 _ _ _ _ _ _ _ _ _ _ _ _ _ _ _ _ | exact impl_desk_begin.mono_l _ _ _ _ _ _ _ _ _ _ _ | exact impl_areAllClear.mono _ _ _ _ | exact LeO.none _ | refine LeO.ite ?_ ?_ | refine LeO.bind ?_ (fun _ => ?_)
theorem impl_firedTicks.mono_l0 : ∀ k, (∀ y0 y1 y2 y3 y4 y5 y6, LeO (impl_firedTicks.l0 k y0 y1 y2 y3 y4 y5 y6) (impl_firedTicks.l0 (k + 1) y0 y1 y2 y3 y4 y5 y6))
 | 0 => fun _ _ _ _ _ _ _ r h => by simp [impl_firedTicks.l0] at h
 | k + 1 => by
  have ih0 := impl_firedTicks.mono_l0 k
  intro y0 y1 y2 y3 y4 y5 y6; unfold impl_firedTicks.l0
  repeat' first | (with_reducible first | exact ih0 _ _ _ _ _ _ _ | exact (impl_firedTicks.mono_l _).1 _ _ _ _ _ _ _ _ _ _ _ _ _ _ _ | exact LeO.refl _ | exact LeO.none _ | refine LeO.ite ?_ ?_ | refine LeO.bind ?_ (fun _ => ?_)) | exact ih0 _ _ _ _ _ _ _ | exact (impl_firedTicks.mono_l _).1 _ _ _ _ _ _ _ _ _ _ _ _ _ _ _ | exact LeO.none _ | refine LeO.ite ?_ ?_ | refine LeO.bind ?_ (fun _ => ?_)
theorem impl_firedTicks.mono : ∀ a0 a1 a2 a3 k, LeO (impl_firedTicks.f k a0 a1 a2 a3) (impl_firedTicks.f (k + 1) a0 a1 a2 a3) := by
 intro a0 a1 a2 a3 k; have ih0 := impl_firedTicks.mono_l0 k; unfold impl_firedTicks.f
 repeat' first | (with_reducible first | exact ih0 _ _ _ _ _ _ _ | exact (impl_firedTicks.mono_l _).1 _ _ _ _ _ _ _ _ _ _ _ _ _ _ _ | exact LeO.refl _ | exact LeO.none _ | refine LeO.ite ?_ ?_ | refine LeO.bind ?_ (fun _ => ?_)) | exact ih0 _ _ _ _ _ _ _ | exact (impl_firedTicks.mono_l _).1 _ _ _ _ _ _ _ _ _ _ _ _ _ _ _ | exact LeO.none _ | refine LeO.ite ?_ ?_ | refine LeO.bind ?_ (fun _ => ?_)
/-- A row of whole numbers of one's own lies in one block alone: it stays where that block stays. -/
theorem R_int_stay {W w' : World} {base : Nat} {v : Value} {ys : List Int} {ok : Nat → Prop} (h : Kd.R (Kd.int .i64) 2 W base ok v ys) (hk : ∀ k, v.ownBlock = some k → k < W.heap.size → w'.heap[k]? = W.heap[k]?) : Kd.R (Kd.int .i64) 2 w' base ok v ys := by
  have h1 : Kd.R (Kd.int .i64) 2 W base (fun k => v.ownBlock = some k) v ys := ⟨fun _ hk => hk, h.2⟩
  exact ⟨h.1, (Kd.R_step h1 hk).2⟩
theorem R_int_keep {W w' : World} {base g : Nat} {row : Option Nat} {v : Value} {ys : List Int} {ok : Nat → Prop} (h : Kd.R (Kd.int .i64) 2 W base ok v ys) (hk : KeepBut W w' g row) (hg : some g ≠ v.ownBlock) (hr : ∀ k, v.ownBlock = some k → some k ≠ row) : Kd.R (Kd.int .i64) 2 w' base ok v ys :=
  R_int_stay h (fun k ho hlt => hk.2 k hlt (fun e => hg (by rw [ho, e])) (hr k ho))
set_option maxHeartbeats 8000000 in
set_option maxRecDepth 100000 in
theorem impl_firedTicks.calls (k : Nat) (A0 : Option Addr) (c0 : Nat) (l0 : List Int) (A1 : Option Addr) (c1 : Nat) (l1 : List (S33)) (A2 : Option Addr) (c2 : Nat) (l2 : List (S111)) (A3 : Option Addr) (c3 : Nat) (l3 : List ByteArray) (r : List Int) (w : World) (hr0 : Kd.C (Kd.int .i64) w A0 l0.length l0) (hc0 : l0.length ≤ c0) (hr1 : Kd.C k33 w A1 l1.length l1) (hc1 : l1.length ≤ c1) (hr2 : Kd.C k111 w A2 l2.length l2) (hc2 : l2.length ≤ c2) (hr3 : Kd.C Kd.string w A3 l3.length l3) (hc3 : l3.length ≤ c3) (h : impl_firedTicks.f k l0 l1 l2 l3 = some r) :
  Calls Try.prog 83 #[.slice A0 l0.length c0, .slice A1 l1.length c1, .slice A2 l2.length c2, .slice A3 l3.length c3] w fun e w' => ∃ v0_ : Value, e = .returned (v0_) ∧ Kd.R (Kd.int .i64) 2 w' w.heap.size (fun _ => True) v0_ r ∧ Below w.heap.size w w' := by
 have hu41 := Try.underlying41; have HR0 := ak hr0; have HC0 := ak hc0; clear hr0 hc0; have HR1 := ak hr1; have HC1 := ak hc1; clear hr1 hc1; have HR2 := ak hr2; have HC2 := ak hc2; clear hr2 hc2; have HR3 := ak hr3; have HC3 := ak hc3; clear hr3 hc3; have HB := ak (Below.refl w.heap.size w); unfold impl_firedTicks.f at h; have H := h; clear h
 by_cases cM : l0.length ≤ 35184372088832
 · rw [if_pos cM] at H; have LM := ak cM; clear cM; have cm1 : decide (0 ≤ (l0.length : Int)) = true := decide_eq_true (by omega)
   have H' := ak H; clear H
   go_enter Try.func83, Try.ntmps83
   go_wp2_with (first | ((with_reducible refine gate_dst (N := 18) rfl ?_); (try (refine gate_guard (by rfl) ?_; dsimp only)); refine Kd.R_make (Kd.int .i64) _ 2 rfl (N := 18) rfl 46 _ _ rfl (l0.length : Int) rfl rfl Try.underlying46 (.int .i64 0) 8 info2 rfl (by decide) (by omega) 0 (ok := fun _ => True) (okp := fun _ => True) rfl (fun _ hk => hk) trivial (by omega) (by have := LM.out; simp only [Int.toNat_natCast]; omega) (Below.refl _ _) (Nat.le_refl _) ?_; intro v9 w10 ho11 hb hg_ hnew_; clear hg_ hnew_; simp only [Int.toNat_natCast] at ho11; have HY := ak (Kd.R_lower ho11 (below_size (vb HB.out))); replace HB := bs HB hb; clear hb ho11))
   go_loopg [10, 21] k (fun kq v10 v21 w' => ∃ (o_1 : List Int) (m_1 i_1 : Int), v10 = .int .i64 m_1 ∧ v21 = .int .i64 i_1 ∧ Aside0 (impl_firedTicks.l0 kq l0 l1 l2 l3 o_1 m_1 i_1 = some r) ∧ Aside0 (kq ≤ k) ∧ Aside0 (Kd.R (Kd.int .i64) 2 w' w.heap.size (fun _ => True) v9 o_1) ∧ Aside0 (Below w.heap.size w w'))
   case atStart => exact ⟨_, 0, 0, rfl, (by first | rfl | (simp; done)), H', ⟨Nat.le_refl _⟩, HY, HB⟩
   case round =>
    clear H' HY HB; obtain ⟨o_1, m_1, i_1, rfl, rfl, HA, HK1, HY, HB⟩ := hrel
    cases gk with
    | zero => exact absurd HA.out (by simp [impl_firedTicks.l0])
    | succ k0 =>
     have H := HA.out; clear HA; simp only [impl_firedTicks.l0] at H
     by_cases ca : i_1 < (l0.length : Int)
     · rw [if_pos ca] at H
       by_cases cb_ : 0 ≤ i_1
       · rw [if_pos cb_] at H
         by_cases cc : i_1 < (o_1.length : Int)
         · rw [if_pos cc] at H; have H' := ak H; clear H
           obtain ⟨ad, ea, hx_0⟩ := Kd.at_int HR0.out i_1 cb_ ca
           cases ea
           replace hx_0 := cb HB.out hx_0
           obtain ⟨go, co, eo, gb, gl, cl, HGo⟩ := Kd.R_form HY.out (by omega); cases eo; have GB := ak gb; clear gb gl HGo
           obtain ⟨ho_0, hf_0⟩ := Kd.R_celln 0 HY.out i_1 cb_ cc
           have HP := Kd.R_putg HY.out i_1 (-1)
           have c0b := decide_eq_true ca; have c1b := decide_eq_true cb_; have p1 := eq_true cb_; have q1 := eq_true ca; have q2 := eq_true cc; clear ca cb_ cc
           obtain ⟨mq, hmq⟩ : ∃ j_ : Int, mx m_1 (wrap64 (Int.tdiv (rd l0 i_1) 100)) = j_ := ⟨_, rfl⟩; have H2 := H'.out; rw [hmq] at H2; replace H' := ak H2; clear H2; have hmq_ : (if m_1 < wrap64 (Int.tdiv (rd l0 i_1) 100) then wrap64 (Int.tdiv (rd l0 i_1) 100) else m_1) = mq := hmq; clear hmq
           go_wp2_with (first | ((with_reducible refine gate_store (t := 2) (p := 28) rfl ?_); refine store_event (t := 2) (p := 28) (v := ?vo) (w1 := (wr.setCell ⟨go, (i_1 : Int).toNat, none⟩ (.int .i64 (-1)))) ?hg ?ho ?hn ?hr ?_; (case ho => rfl); (case hg => rfl); (case hn => rfl); (case hr => first | (go_simp; done) | (go_simp; rfl)); intro ws hw; have hp_ : Kd.R (Kd.int .i64) 2 ws w.heap.size (fun _ => True) (.slice (some ⟨go, 0, none⟩) o_1.length co) (o_1.set i_1.toNat (-1)) := (by rw [hw]; exact HP.1); have hb_ : Below w.heap.size w ws := (by rw [hw]; exact below_set HB.out GB.out); clear HY HB HP; have HY := ak hp_; have HB := ak hb_; clear hw hp_ hb_))
           go_roundg k0
           case measure => have := HK1.out; omega
           case rel => exact ⟨_, _, _, (by first | rfl | (simp [mx]; done)), (by first | rfl | (simp; done)), H', ⟨by have := HK1.out; omega⟩, HY, HB⟩
         · rw [if_neg cc] at H; exact absurd H (by simp)
       · rw [if_neg cb_] at H; exact absurd H (by simp)
     · rw [if_neg ca] at H; have c0b := decide_eq_false ca; clear ca; have H' := ak H; clear H
       go_wp2_with (first | ((with_reducible refine gate_dst (N := 36) rfl ?_); refine bx 36 #[.slice A1 l1.length c1, .int .i64 0, .int .i64 0, .bool false, .bool false, .bool false, .bool false, .bool false, .int .i64 0, .slice none 0 0] 96 ?_; intro gd hg wb hbox hb; have DK : Aside0 (Dk wb gd A1 c1 l1.length 0 0 false false false false false 0 (.slice none 0 0)) := ⟨hbox⟩; have GD := gw hg HB; replace HY := ak (Kd.R_below (vr HY.out) hb); replace HB := bs HB hb; clear hb hbox hg))
       go_loopg [] k0 (fun kq w' => ∃ (o_1 : List Int) (x_1 t_1 : Int) (b0_1 b1_1 b2_1 b3_1 b4_1 : Bool) (n_1 : Int) (v_1 : Value) (r_1 : List Int), Aside0 (impl_firedTicks.l1 kq l0 l1 l2 l3 o_1 m_1 x_1 t_1 b0_1 b1_1 b2_1 b3_1 b4_1 n_1 r_1 = some r) ∧ Aside0 (kq ≤ k0) ∧ Aside0 (Dk w' gd A1 c1 l1.length x_1 t_1 b0_1 b1_1 b2_1 b3_1 b4_1 n_1 v_1) ∧ Aside0 (Kd.R (Kd.int .i64) 2 w' w.heap.size (fun k => some k ≠ v9.ownBlock) v_1 r_1) ∧ Aside0 (Kd.R (Kd.int .i64) 2 w' w.heap.size (fun _ => True) v9 o_1) ∧ Aside0 (Below w.heap.size w w'))
       case atStart => exact ⟨o_1, 0, 0, false, false, false, false, false, 0, .slice none 0 0, [], H', ⟨Nat.le_refl _⟩, DK, ⟨Kd.R_nil _ _ _ _ _⟩, HY, HB⟩
       case round =>
        clear H' HY HB DK; obtain ⟨o_1, x_1, t_1, b0_1, b1_1, b2_1, b3_1, b4_1, n_1, v_1, r_1, HA, HK2, DK, HO, HY, HB⟩ := hrel
        cases gk with
        | zero => exact absurd HA.out (by simp [impl_firedTicks.l1])
        | succ k1 =>
         have H := HA.out; clear HA; simp only [impl_firedTicks.l1] at H; have z2 := DK.out.c2
         by_cases c1_ : t_1 ≤ m_1
         · rw [if_pos c1_] at H; have c1b := decide_eq_true c1_; clear c1_
           obtain ⟨⟨x2, e0, e1, e2, e3, e4, n2, q2⟩, B20, H⟩ := bnd H; have B2 := ak B20; clear B20
           obtain ⟨mf, B30, H⟩ := bnd H; dsimp only at B30 H; have B3 := ak B30; clear B30
           cases mf with
           | false =>
            simp only [Bool.false_eq_true, if_false] at H
            obtain ⟨⟨u0, u1, u2, u3, u4, u5, y⟩, B10, H⟩ := bnd H; have B1 := ak B10; clear B10; have H' := ak H; clear H
            go_wp2_with (first | ((with_reducible refine at_fn (f := 73) rfl ?_); refine gl (some 44) Try.func73 #[.pointer (some ⟨gd, 0, none⟩)] ?_; (with_reducible refine (impl_desk_begin.calls k1 gd A1 c1 l1 x_1 t_1 b0_1 b1_1 b2_1 b3_1 b4_1 n_1 v_1 r_1 x2 e0 e1 e2 e3 e4 n2 q2 w.heap.size (fun k => some k ≠ v9.ownBlock) w _ DK.out GD.out HO.out ?bf (Nat.le_refl _) HB.out.size HB.out HR1.out HC1.out B2.out).mono ?_); (case bf => exact fun k hk e => Nat.lt_irrefl _ (Nat.lt_of_lt_of_le (Kd.R_lt HY.out k e.symm) hk)); rintro e wd hP; obtain ⟨rfl, vd1, hD, hR, hV, hK, hB⟩ := hP; refine ⟨_, rfl, ?_⟩; replace HY := ak (R_int_keep HY.out hK (Kd.R_ne HY.out DK.out (by decide)) (fun k hk e => HO.out.1 k e.symm hk.symm)); clear DK HB HO z2; have DK := ak hD; have HO := ak hR; have HB := ak hB; clear hD hR hV hK hB; have z2 := DK.out.c2; have z3 := DK.out.c3; have z4 := DK.out.c4; have z5 := DK.out.c5; have z6 := DK.out.c6; have z7 := DK.out.c7; have z8 := DK.out.c8) | ((with_reducible refine at_fn (f := 74) rfl ?_); refine gl (some 49) Try.func74 #[.agg #[.bool e0, .bool e1, .bool e2, .bool e3, .bool e4, .int .i64 n2]] ?_; (with_reducible refine (impl_mayFire.calls e0 e1 e2 e3 e4 n2 false _ B3.out).mono ?_); rintro e wm ⟨rfl, hb⟩; refine ⟨_, rfl, ?_⟩; clear z2 z3 z4 z5 z6 z7 z8; replace DK : Aside0 (Dk wm gd A1 c1 l1.length x2 t_1 e0 e1 e2 e3 e4 n2 vd1) := ⟨blk_below DK.out hb⟩; replace HO := ak (Kd.R_below (vr HO.out) hb); replace HY := ak (Kd.R_below (vr HY.out) hb); replace HB := bs HB hb; clear hb) | ((with_reducible refine at_fn (f := 75) rfl ?_); refine gl (some 83) Try.func75 #[.pointer (some ⟨gd, 0, none⟩)] ?_; (with_reducible refine (impl_desk_end.callsD gd A1 c1 l1.length x2 t_1 e0 e1 e2 e3 e4 n2 vd1 u0 u1 u2 u3 u4 u5 y w _ DK.out GD.out HB.out B1.out).mono ?_); rintro e we hP; obtain ⟨rfl, hD, hK, hB⟩ := hP; refine ⟨_, rfl, ?_⟩; replace HO := ak (Kd.R_mono (Kd.R_keep (Kd.R_types HO.out DK.out (by decide)) hK (fun _ h => h.2)) (fun _ h => h.1)); replace HY := ak (R_int_keep HY.out hK (Kd.R_ne HY.out DK.out (by decide)) (fun _ _ => by simp)); clear DK HB; have DK := ak hD; have HB := ak hB; clear hD hK hB))
            go_roundg k1
            case measure => have := HK2.out; omega
            case rel => exact ⟨o_1, x2, wrap64 (t_1 + 1), u0, u1, u2, u3, u4, u5, vd1, q2, H', ⟨by have := HK2.out; omega⟩, DK, HO, HY, HB⟩
           | true =>
            simp only [if_true] at H; have H' := ak H; clear H
            go_wp2_with (first | ((with_reducible refine at_fn (f := 73) rfl ?_); refine gl (some 44) Try.func73 #[.pointer (some ⟨gd, 0, none⟩)] ?_; (with_reducible refine (impl_desk_begin.calls k1 gd A1 c1 l1 x_1 t_1 b0_1 b1_1 b2_1 b3_1 b4_1 n_1 v_1 r_1 x2 e0 e1 e2 e3 e4 n2 q2 w.heap.size (fun k => some k ≠ v9.ownBlock) w _ DK.out GD.out HO.out ?bf (Nat.le_refl _) HB.out.size HB.out HR1.out HC1.out B2.out).mono ?_); (case bf => exact fun k hk e => Nat.lt_irrefl _ (Nat.lt_of_lt_of_le (Kd.R_lt HY.out k e.symm) hk)); rintro e wd hP; obtain ⟨rfl, vd1, hD, hR, hV, hK, hB⟩ := hP; refine ⟨_, rfl, ?_⟩; replace HY := ak (R_int_keep HY.out hK (Kd.R_ne HY.out DK.out (by decide)) (fun k hk e => HO.out.1 k e.symm hk.symm)); clear DK HB HO z2; have DK := ak hD; have HO := ak hR; have HB := ak hB; clear hD hR hV hK hB; have z2 := DK.out.c2; have z3 := DK.out.c3; have z4 := DK.out.c4; have z5 := DK.out.c5; have z6 := DK.out.c6; have z7 := DK.out.c7; have z8 := DK.out.c8) | ((with_reducible refine at_fn (f := 74) rfl ?_); refine gl (some 49) Try.func74 #[.agg #[.bool e0, .bool e1, .bool e2, .bool e3, .bool e4, .int .i64 n2]] ?_; (with_reducible refine (impl_mayFire.calls e0 e1 e2 e3 e4 n2 true _ B3.out).mono ?_); rintro e wm ⟨rfl, hb⟩; refine ⟨_, rfl, ?_⟩; clear z2 z3 z4 z5 z6 z7 z8; replace DK : Aside0 (Dk wm gd A1 c1 l1.length x2 t_1 e0 e1 e2 e3 e4 n2 vd1) := ⟨blk_below DK.out hb⟩; replace HO := ak (Kd.R_below (vr HO.out) hb); replace HY := ak (Kd.R_below (vr HY.out) hb); replace HB := bs HB hb; clear hb))
            go_loopg [52] k1 (fun kq v52 w' => ∃ (i_2 : Int) (o_2 : List Int) (x_2 t_2 : Int) (b0_2 b1_2 b2_2 b3_2 b4_2 : Bool) (n_2 : Int) (v_2 : Value) (r_2 : List Int), v52 = .int .i64 i_2 ∧ Aside0 (impl_firedTicks.l2 kq l0 l1 l2 l3 o_2 m_1 x_2 t_2 b0_2 b1_2 b2_2 b3_2 b4_2 n_2 r_2 i_2 = some r) ∧ Aside0 (kq ≤ k1) ∧ Aside0 (Dk w' gd A1 c1 l1.length x_2 t_2 b0_2 b1_2 b2_2 b3_2 b4_2 n_2 v_2) ∧ Aside0 (Kd.R (Kd.int .i64) 2 w' w.heap.size (fun k => some k ≠ v9.ownBlock) v_2 r_2) ∧ Aside0 (Kd.R (Kd.int .i64) 2 w' w.heap.size (fun _ => True) v9 o_2) ∧ Aside0 (Below w.heap.size w w'))
            case atStart => exact ⟨0, o_1, x2, t_1, e0, e1, e2, e3, e4, n2, vd1, q2, (by first | rfl | (simp; done)), H', ⟨Nat.le_refl _⟩, DK, HO, HY, HB⟩
            case round =>
             clear H' HY HB DK HO B2 B3; obtain ⟨i_2, o_2, x_2, t_2, b0_2, b1_2, b2_2, b3_2, b4_2, n_2, v_2, r_2, rfl, HA, HK3, DK, HO, HY, HB⟩ := hrel
             cases gk with
             | zero => exact absurd HA.out (by simp [impl_firedTicks.l2])
             | succ k2 =>
              have H := HA.out; clear HA; simp only [impl_firedTicks.l2] at H
              by_cases ca : i_2 < (l0.length : Int)
              · rw [if_pos ca] at H
                by_cases cb_ : 0 ≤ i_2
                · rw [if_pos cb_] at H; obtain ⟨cf, B30, H⟩ := bnd H
                  obtain ⟨ad, ea, hx_0⟩ := Kd.at_int HR0.out i_2 cb_ ca
                  cases ea
                  replace hx_0 := cb HB.out hx_0; have z2 := DK.out.c2
                  have c0b := decide_eq_true ca; have c1b := decide_eq_true cb_; have p1 := eq_true cb_; have q1 := eq_true ca
                  by_cases cd : (wrap64 (Int.tdiv (rd l0 i_2) 100)) = t_2
                  · rw [if_pos cd] at B30; have B3 := ak B30; clear B30; have c2b : ((wrap64 (Int.tdiv (rd l0 i_2) 100)) == t_2) = true := by simp [cd]
                    clear cd
                    cases cf with
                    | false =>
                     simp only [Bool.false_eq_true, if_false] at H; have H' := ak H; clear H ca cb_
                     go_wp2_with (first | ((go_at_call 95; (with_reducible refine (impl_areAllClear.calls k2 _ _ l2 _ _ l3 (wrap64 (t_2 * 100)) false _ ?s1 HC2.out ?s2 HC3.out B3.out).mono ?_); (case s1 => exact vd HR2.out HB.out); (case s2 => exact vd HR3.out HB.out); rintro e wm ⟨rfl, hb⟩; clear z2 hx_0; replace DK : Aside0 (Dk wm gd A1 c1 l1.length x_2 t_2 b0_2 b1_2 b2_2 b3_2 b4_2 n_2 v_2) := ⟨blk_below DK.out hb⟩; replace HO := ak (Kd.R_below (vr HO.out) hb); replace HY := ak (Kd.R_below (vr HY.out) hb); replace HB := bs HB hb; clear hb; have z2 := DK.out.c2)))
                     go_roundg k2
                     case measure => have := HK3.out; omega
                     case rel => exact ⟨_, o_2, x_2, t_2, b0_2, b1_2, b2_2, b3_2, b4_2, n_2, v_2, r_2, (by first | rfl | (simp; done)), H', ⟨by have := HK3.out; omega⟩, DK, HO, HY, HB⟩
                    | true =>
                     simp only [if_true] at H
                     by_cases cc : i_2 < (o_2.length : Int)
                     · rw [if_pos cc] at H; have H' := ak H; clear H
                       obtain ⟨go, co, eo, gb, gl, cl, HGo⟩ := Kd.R_form HY.out (by omega); cases eo; have GB := ak gb; clear gb gl HGo
                       have q2 := eq_true cc; have p1' := ak cb_; have q2' := ak cc; clear cc ca cb_
                       go_wp2_with (first | ((go_at_call 95; (with_reducible refine (impl_areAllClear.calls k2 _ _ l2 _ _ l3 (wrap64 (t_2 * 100)) true _ ?s1 HC2.out ?s2 HC3.out B3.out).mono ?_); (case s1 => exact vd HR2.out HB.out); (case s2 => exact vd HR3.out HB.out); rintro e wm ⟨rfl, hb⟩; clear z2 hx_0; replace DK : Aside0 (Dk wm gd A1 c1 l1.length x_2 t_2 b0_2 b1_2 b2_2 b3_2 b4_2 n_2 v_2) := ⟨blk_below DK.out hb⟩; replace HO := ak (Kd.R_below (vr HO.out) hb); replace HY := ak (Kd.R_below (vr HY.out) hb); replace HB := bs HB hb; clear hb; have z2 := DK.out.c2; obtain ⟨ho_0, hf_0⟩ := Kd.R_celln 0 HY.out i_2 p1'.out q2'.out; have HP := Kd.R_putg HY.out i_2 t_2)))
                       have hd_ : Dk (wm.setCell ⟨go, (i_2 : Int).toNat, none⟩ (.int .i64 t_2)) gd A1 c1 l1.length x_2 t_2 b0_2 b1_2 b2_2 b3_2 b4_2 n_2 v_2 := blk_grown DK.out HP.2 (Kd.R_ne HY.out DK.out (by decide)); have hr_ := Kd.R_grown HO.out HP.2 (fun k hk => hk); have hb_ := below_set (j := (i_2 : Int).toNat) (v := .int .i64 t_2) HB.out GB.out
                       go_roundg k2
                       case measure => have := HK3.out; omega
                       case rel => exact ⟨_, _, x_2, t_2, b0_2, b1_2, b2_2, b3_2, b4_2, n_2, v_2, r_2, (by first | rfl | (simp; done)), H', ⟨by have := HK3.out; omega⟩, ⟨hd_⟩, ⟨hr_⟩, ⟨HP.1⟩, ⟨hb_⟩⟩
                     · rw [if_neg cc] at H; exact absurd H (by simp)
                  · rw [if_neg cd] at B30; obtain rfl := Option.some.inj B30; clear B30; have c2b : ((wrap64 (Int.tdiv (rd l0 i_2) 100)) == t_2) = false := by simp [cd]
                    clear cd; simp only [Bool.false_eq_true, if_false] at H; have H' := ak H; clear H ca cb_
                    go_wp2
                    go_roundg k2
                    case measure => have := HK3.out; omega
                    case rel => exact ⟨_, o_2, x_2, t_2, b0_2, b1_2, b2_2, b3_2, b4_2, n_2, v_2, r_2, (by first | rfl | (simp; done)), H', ⟨by have := HK3.out; omega⟩, DK, HO, HY, HB⟩
                · rw [if_neg cb_] at H; exact absurd H (by simp)
              · rw [if_neg ca] at H; have c0b := decide_eq_false ca; clear ca
                obtain ⟨⟨u0, u1, u2, u3, u4, u5, y⟩, B10, H⟩ := bnd H; have B1 := ak B10; clear B10; have H' := ak H; clear H
                go_wp2_with (first | ((with_reducible refine at_fn (f := 75) rfl ?_); refine gl (some 83) Try.func75 #[.pointer (some ⟨gd, 0, none⟩)] ?_; (with_reducible refine (impl_desk_end.callsD gd A1 c1 l1.length x_2 t_2 b0_2 b1_2 b2_2 b3_2 b4_2 n_2 v_2 u0 u1 u2 u3 u4 u5 y w _ DK.out GD.out HB.out B1.out).mono ?_); rintro e we hP; obtain ⟨rfl, hD, hK, hB⟩ := hP; refine ⟨_, rfl, ?_⟩; replace HO := ak (Kd.R_mono (Kd.R_keep (Kd.R_types HO.out DK.out (by decide)) hK (fun _ h => h.2)) (fun _ h => h.1)); replace HY := ak (R_int_keep HY.out hK (Kd.R_ne HY.out DK.out (by decide)) (fun _ _ => by simp)); clear DK HB; have DK := ak hD; have HB := ak hB; clear hD hK hB))
                go_roundg k2
                case measure => have := HK3.out; have := HK2.out; omega
                case rel => exact ⟨o_2, x_2, wrap64 (t_2 + 1), u0, u1, u2, u3, u4, u5, v_2, r_2, H', ⟨by have := HK3.out; have := HK2.out; omega⟩, DK, HO, HY, HB⟩
         · rw [if_neg c1_] at H; obtain rfl := Option.some.inj H; have c1b := decide_eq_false c1_; clear c1_
           go_wp2
           go_ret
           exact ⟨_, ew, HY.out, vb HB.out⟩
 · rw [if_neg cM] at H; exact absurd H (by simp)


end Go.Proofs.Ytjgbncpbenmjoaa.Pall
