/- Go functions of the program, each as a Lean function, and the proof that each call comes to what the Lean function tells; no condition beyond those that stand there. -/
import Derived.Test.YtllhghcepbkpeaaF00
import Derived.Test.YtllhghcepbkpeaaF03
import Derived.Test.YtllhghcepbkpeaaF08
import Derived.Test.YtllhghcepbkpeaaSpare
import Derived.Test.YtllhghcepbkpeaaCm
import Derived.Test.YtllhghcepbkpeaaCm3
namespace Go.Proofs.Ytllhghcepbkpeaa.Pall
open Go.RowKit Go.Proofs.YtllhghcepbkpeaaW.PrintWords
set_option linter.unusedVariables false
set_option linter.unusedSimpArgs false

/-! ### spec_l20Clear: function 75 -/
def spec_l20Clear.l0 : Nat → List (S42) → ByteArray → Int → Int → Int → Option (Bool)
 | 0, _, _, _, _, _ => none
 | k + 1, x0, x1, x2, x7, x8 => if x8 < x7 then (if 0 ≤ x8 then (if x8 < (x0.length : Int) then (if ((rd_T42 x0 x8).f1).toList = x1.toList then (if (wrap64 (((rd_T42 x0 x8).f0) + 30000)) > x2 then (some false) else (spec_l20Clear.l0 k x0 x1 x2 x7 (wrap64 (x8 + 1)))) else (spec_l20Clear.l0 k x0 x1 x2 x7 (wrap64 (x8 + 1)))) else (none)) else (none)) else ((spec_l20People.f k x0 x1 x7).bind fun t250 => (some (t250 == 0)))
def spec_l20Clear.f (k : Nat) (l0 : List (S42)) (a1 : ByteArray) (a2 : Int) : Option (Bool) := (spec_l20Upto.f k l0 a2).bind fun t247 => (spec_l20Clear.l0 k l0 a1 a2 t247 0)
theorem spec_l20Clear.mono_l : ∀ k, (∀ y0 y1 y2 y3 y4, LeO (spec_l20Clear.l0 k y0 y1 y2 y3 y4) (spec_l20Clear.l0 (k + 1) y0 y1 y2 y3 y4))
 | 0 => fun _ _ _ _ _ r h => by simp [spec_l20Clear.l0] at h
 | k + 1 => by
  have ih0 := spec_l20Clear.mono_l k
  ·intro y0 y1 y2 y3 y4; unfold spec_l20Clear.l0
   repeat' first | (with_reducible first | exact ih0 _ _ _ _ _ | exact spec_l20People.mono _ _ _ _ | exact spec_l20Upto.mono _ _ _ | exact LeO.refl _ | exact LeO.none _ | refine LeO.ite ?_ ?_ | refine LeO.bind ?_ (fun _ => ?_)) | exact ih0 _ _ _ _ _ | exact spec_l20People.mono _ _ _ _ | exact spec_l20Upto.mono _ _ _ | exact LeO.none _ | refine LeO.ite ?_ ?_ | refine LeO.bind ?_ (fun _ => ?_)
theorem spec_l20Clear.mono : ∀ a0 a1 a2 k, LeO (spec_l20Clear.f k a0 a1 a2) (spec_l20Clear.f (k + 1) a0 a1 a2) := by
 intro a0 a1 a2 k; have ih0 := spec_l20Clear.mono_l k; unfold spec_l20Clear.f
 repeat' first | (with_reducible first | exact ih0 _ _ _ _ _ | exact spec_l20People.mono _ _ _ _ | exact spec_l20Upto.mono _ _ _ | exact LeO.refl _ | exact LeO.none _ | refine LeO.ite ?_ ?_ | refine LeO.bind ?_ (fun _ => ?_)) | exact ih0 _ _ _ _ _ | exact spec_l20People.mono _ _ _ _ | exact spec_l20Upto.mono _ _ _ | exact LeO.none _ | refine LeO.ite ?_ ?_ | refine LeO.bind ?_ (fun _ => ?_)
set_option maxHeartbeats 8000000 in
set_option maxRecDepth 100000 in
theorem spec_l20Clear.calls (k : Nat) (A0 : Option Addr) (c0 : Nat) (l0 : List (S42)) (a1 : ByteArray) (a2 : Int) (r : Bool) (w : World) (hr0 : Kd.C k42 w A0 l0.length l0) (hc0 : l0.length ≤ c0) (h : spec_l20Clear.f k l0 a1 a2 = some r) :
  Calls Try.prog 75 #[.slice A0 l0.length c0, .string a1, .int .i64 a2] w fun e w' => e = .returned (.bool r) ∧ Drawn0 w w' := by
 have HR0 := ak hr0; have HC0 := ak hc0; clear hr0 hc0; unfold spec_l20Clear.f at h; have H := h; clear h; obtain ⟨t247, A4, H⟩ := bnk H; have H' := ak H; clear H; go_enter Try.func75, Try.ntmps75; go_wp2_with (first | ((with_reducible refine at_fn (f := 73) rfl ?_); refine gl (some 11) Try.func73 #[.slice A0 l0.length c0, .int .i64 a2] ?_; (with_reducible refine (spec_l20Upto.calls k _ _ l0 a2 t247 _ ?side1 HC0.out A4.out).mono ?_); (case side1 => exact vc HR0.out); rintro e w' ⟨rfl, ⟨nd, rfl⟩⟩; refine ⟨_, rfl, ?_⟩))
 go_loopg [8] k (fun kq v8 w' => ∃ (x8_1 : Int), v8 = .int .i64 x8_1 ∧ Aside0 (spec_l20Clear.l0 kq l0 a1 a2 t247 x8_1 = some r) ∧ Aside0 (kq ≤ k) ∧ Drawn0 w w')
 case atStart => exact ⟨(0), (by first | rfl | (simp; done) | (simp [*]; done)), H', ⟨Nat.le_refl _⟩, by repeat (first | exact Drawn0.refl _ | apply Drawn0.step)⟩
 case round =>
  clear H'; (try clear p2); obtain ⟨x8_1, rfl, HA, HK1, ⟨m1, rfl⟩⟩ := hrel
  cases gk with
  | zero => exact absurd HA.out (by simp [spec_l20Clear.l0])
  | succ k1 =>
   have H := HA.out; clear HA; simp only [spec_l20Clear.l0] at H
   by_cases c5 : x8_1 < t247
   ·rw [if_pos c5] at H; have c5b0 := decide_eq_true c5; clear c5; by_cases c6 : 0 ≤ x8_1
    ·rw [if_pos c6] at H; have c6b0 := decide_eq_true c6; clear c6; by_cases c7 : x8_1 < (l0.length : Int)
     ·rw [if_pos c7] at H; have c7b0 := decide_eq_true c7; clear c7; by_cases c8 : ((rd_T42 l0 x8_1).f1).toList = a1.toList
      ·rw [if_pos c8] at H; have c8b0 : (((rd_T42 l0 x8_1).f1).toList == a1.toList) = true := beq_iff_eq.mpr c8; have c8b1 : (((rd_T42 l0 x8_1).f1).toList != a1.toList) = false := bne_eq_false_iff_eq.mpr c8; clear c8; by_cases c9 : (wrap64 (((rd_T42 l0 x8_1).f0) + 30000)) > a2
       ·rw [if_pos c9] at H; have c9b0 := decide_eq_true c9; clear c9; obtain rfl := Option.some.inj H; have p248 : 0 ≤ (x8_1 : Int) := od; have q248 : x8_1 < (l0.length : Int) := od; obtain ⟨ad248, e248, hx248_0, hx248_1, hx248_2⟩ := at_T42 HR0.out x8_1 p248 q248
        cases e248; replace p248 := eq_true p248; replace q248 := eq_true q248; have p249 : 0 ≤ (x8_1 : Int) := od; have q249 : x8_1 < (l0.length : Int) := od; obtain ⟨ad249, e249, hx249_0, hx249_1, hx249_2⟩ := at_T42 HR0.out x8_1 p249 q249; obtain rfl : ad248 = ad249 := (by injection e249); replace p249 := eq_true p249; replace q249 := eq_true q249; go_wp2
        go_ret
        exact ⟨by first | rfl | (simp; done) | (simp [*]; done), by repeat (first | exact Drawn0.refl _ | apply Drawn0.step)⟩
       ·rw [if_neg c9] at H; have c9b0 := decide_eq_false c9; clear c9; have H' := ak H; clear H; have p248 : 0 ≤ (x8_1 : Int) := od; have q248 : x8_1 < (l0.length : Int) := od; obtain ⟨ad248, e248, hx248_0, hx248_1, hx248_2⟩ := at_T42 HR0.out x8_1 p248 q248
        cases e248; replace p248 := eq_true p248; replace q248 := eq_true q248; have p249 : 0 ≤ (x8_1 : Int) := od; have q249 : x8_1 < (l0.length : Int) := od; obtain ⟨ad249, e249, hx249_0, hx249_1, hx249_2⟩ := at_T42 HR0.out x8_1 p249 q249; obtain rfl : ad248 = ad249 := (by injection e249); replace p249 := eq_true p249; replace q249 := eq_true q249; go_wp2
        go_roundg k1
        case measure => have := HK1.out; omega
        case rel => exact ⟨(wrap64 (x8_1 + 1)), (by first | rfl | (simp; done) | (simp [*]; done)), H', ⟨by have := HK1.out; omega⟩, by repeat (first | exact Drawn0.refl _ | apply Drawn0.step)⟩
      ·rw [if_neg c8] at H; have c8b0 : (((rd_T42 l0 x8_1).f1).toList == a1.toList) = false := beq_eq_false_iff_ne.mpr c8; have c8b1 : (((rd_T42 l0 x8_1).f1).toList != a1.toList) = true := bne_iff_ne.mpr c8; have H' := ak H; clear H; have p248 : 0 ≤ (x8_1 : Int) := od; have q248 : x8_1 < (l0.length : Int) := od; obtain ⟨ad248, e248, hx248_0, hx248_1, hx248_2⟩ := at_T42 HR0.out x8_1 p248 q248
       cases e248; replace p248 := eq_true p248; replace q248 := eq_true q248; go_wp2
       go_roundg k1
       case measure => have := HK1.out; omega
       case rel => exact ⟨(wrap64 (x8_1 + 1)), (by first | rfl | (simp; done) | (simp [*]; done)), H', ⟨by have := HK1.out; omega⟩, by repeat (first | exact Drawn0.refl _ | apply Drawn0.step)⟩
     ·rw [if_neg c7] at H; exact absurd H (by simp)
    ·rw [if_neg c6] at H; exact absurd H (by simp)
   ·rw [if_neg c5] at H; have c5b0 := decide_eq_false c5; clear c5; obtain ⟨t250, A10, H⟩ := bnk H; obtain rfl := Option.some.inj H; go_wp2_with (first | ((with_reducible refine at_fn (f := 65) rfl ?_); refine gl (some 37) Try.func65 #[.slice A0 l0.length c0, .string a1, .int .i64 t247] ?_; (with_reducible refine (spec_l20People.calls k1 _ _ l0 a1 t247 t250 _ ?side1 HC0.out A10.out).mono ?_); (case side1 => exact vc HR0.out); rintro e w' ⟨rfl, ⟨nd, rfl⟩⟩; refine ⟨_, rfl, ?_⟩))
    go_ret
    exact ⟨by first | rfl | (simp; done) | (simp [*]; done), by repeat (first | exact Drawn0.refl _ | apply Drawn0.step)⟩


/-! ### impl_isClear: function 76 -/
def impl_isClear.l0 : Nat → List (S42) → ByteArray → Int → List (S42) → Int → Int → Option (Bool)
 | 0, _, _, _, _, _, _ => none
 | k + 1, x0, x1, x2, x9, x10, x11 => if x11 < x10 then (if 0 ≤ x11 then (if x11 < (x9.length : Int) then (if ((rd_T42 x9 x11).f1).toList = x1.toList then (if ((rd_T42 x9 x11).f0) ≤ x2 then (if (wrap64 (x2 - ((rd_T42 x9 x11).f0))) < 30000 then (some false) else (impl_isClear.l0 k x0 x1 x2 x9 x10 (wrap64 (x11 + 1)))) else (impl_isClear.l0 k x0 x1 x2 x9 x10 (wrap64 (x11 + 1)))) else (impl_isClear.l0 k x0 x1 x2 x9 x10 (wrap64 (x11 + 1)))) else (none)) else (none)) else ((impl_peopleIn.f k x0 x1 x2).bind fun t255 => (some (t255 == 0)))
def impl_isClear.f (k : Nat) (l0 : List (S42)) (a1 : ByteArray) (a2 : Int) : Option (Bool) := impl_isClear.l0 k l0 a1 a2 l0 (l0.length : Int) 0
theorem impl_isClear.mono_l : ∀ k, (∀ y0 y1 y2 y3 y4 y5, LeO (impl_isClear.l0 k y0 y1 y2 y3 y4 y5) (impl_isClear.l0 (k + 1) y0 y1 y2 y3 y4 y5))
 | 0 => fun _ _ _ _ _ _ r h => by simp [impl_isClear.l0] at h
 | k + 1 => by
  have ih0 := impl_isClear.mono_l k
  ·intro y0 y1 y2 y3 y4 y5; unfold impl_isClear.l0
   repeat' first | (with_reducible first | exact ih0 _ _ _ _ _ _ | exact impl_peopleIn.mono _ _ _ _ | exact LeO.refl _ | exact LeO.none _ | refine LeO.ite ?_ ?_ | refine LeO.bind ?_ (fun _ => ?_)) | exact ih0 _ _ _ _ _ _ | exact impl_peopleIn.mono _ _ _ _ | exact LeO.none _ | refine LeO.ite ?_ ?_ | refine LeO.bind ?_ (fun _ => ?_)
theorem impl_isClear.mono : ∀ a0 a1 a2 k, LeO (impl_isClear.f k a0 a1 a2) (impl_isClear.f (k + 1) a0 a1 a2) := by
 intro a0 a1 a2 k; have ih0 := impl_isClear.mono_l k; unfold impl_isClear.f
 repeat' first | (with_reducible first | exact ih0 _ _ _ _ _ _ | exact impl_peopleIn.mono _ _ _ _ | exact LeO.refl _ | exact LeO.none _ | refine LeO.ite ?_ ?_ | refine LeO.bind ?_ (fun _ => ?_)) | exact ih0 _ _ _ _ _ _ | exact impl_peopleIn.mono _ _ _ _ | exact LeO.none _ | refine LeO.ite ?_ ?_ | refine LeO.bind ?_ (fun _ => ?_)
set_option maxHeartbeats 8000000 in
set_option maxRecDepth 100000 in
theorem impl_isClear.calls (k : Nat) (A0 : Option Addr) (c0 : Nat) (l0 : List (S42)) (a1 : ByteArray) (a2 : Int) (r : Bool) (w : World) (hr0 : Kd.C k42 w A0 l0.length l0) (hc0 : l0.length ≤ c0) (h : impl_isClear.f k l0 a1 a2 = some r) :
  Calls Try.prog 76 #[.slice A0 l0.length c0, .string a1, .int .i64 a2] w fun e w' => e = .returned (.bool r) ∧ Below w.heap.size w w' := by
 have hu42 := Try.underlying42; have HR0 := ak hr0; have HC0 := ak hc0; clear hr0 hc0; have HB := ak (Below.refl w.heap.size w); unfold impl_isClear.f at h; have H := h; clear h; have H' := ak H; clear H; go_enter Try.func76, Try.ntmps76; go_wp2
 go_loopg [11] k (fun kq v11 w' => ∃ (x11_1 : Int), v11 = .int .i64 x11_1 ∧ Aside0 (impl_isClear.l0 kq l0 a1 a2 l0 (l0.length : Int) x11_1 = some r) ∧ Aside0 (kq ≤ k) ∧ Aside0 (Below w.heap.size w w'))
 case atStart => exact ⟨(0), (by first | rfl | (simp; done) | (simp [*]; done)), H', ⟨Nat.le_refl _⟩, ⟨vb HB.out⟩⟩
 case round =>
  clear H'; (try clear p2); obtain ⟨x11_1, rfl, HA, HK1, HB⟩ := hrel
  cases gk with
  | zero => exact absurd HA.out (by simp [impl_isClear.l0])
  | succ k1 =>
   have H := HA.out; clear HA; simp only [impl_isClear.l0] at H
   by_cases c4 : x11_1 < (l0.length : Int)
   ·rw [if_pos c4] at H; have c4b0 := decide_eq_true c4; clear c4; by_cases c5 : 0 ≤ x11_1
    ·rw [if_pos c5] at H; have c5b0 := decide_eq_true c5; clear c5; by_cases c6 : x11_1 < (l0.length : Int)
     ·rw [if_pos c6] at H; have c6b0 := decide_eq_true c6; clear c6; by_cases c7 : ((rd_T42 l0 x11_1).f1).toList = a1.toList
      ·rw [if_pos c7] at H; have c7b0 : (((rd_T42 l0 x11_1).f1).toList == a1.toList) = true := beq_iff_eq.mpr c7; have c7b1 : (((rd_T42 l0 x11_1).f1).toList != a1.toList) = false := bne_eq_false_iff_eq.mpr c7; clear c7; by_cases c8 : ((rd_T42 l0 x11_1).f0) ≤ a2
       ·rw [if_pos c8] at H; have c8b0 := decide_eq_true c8; clear c8; by_cases c9 : (wrap64 (a2 - ((rd_T42 l0 x11_1).f0))) < 30000
        ·rw [if_pos c9] at H; have c9b0 := decide_eq_true c9; clear c9; obtain rfl := Option.some.inj H; have p253 : 0 ≤ (x11_1 : Int) := od; have q253 : x11_1 < (l0.length : Int) := od; obtain ⟨ad253, e253, hx253_0, hx253_1, hx253_2⟩ := at_T42 HR0.out x11_1 p253 q253
         cases e253; replace hx253_0 := cb HB.out hx253_0; replace hx253_1 := cb HB.out hx253_1; replace hx253_2 := cb HB.out hx253_2; replace p253 := eq_true p253; replace q253 := eq_true q253; go_wp2_with (first | ((with_reducible refine gate_dst (N := 8) rfl ?_); refine bx 8 #[.int .i64 0, .string (⟨#[]⟩ : ByteArray), .int .i64 0] 42 ?_; intro gb254 hg w10 hbox hb; have BK254 := ak hbox; have GW254 := gw hg HB; have GE254 := gw hg HB; replace HB := bs HB hb; clear hb hbox hg; have hcz11 := cz3 BK254.out))
         go_ret
         exact ⟨ew, vb HB.out⟩
        ·rw [if_neg c9] at H; have c9b0 := decide_eq_false c9; clear c9; have H' := ak H; clear H; have p253 : 0 ≤ (x11_1 : Int) := od; have q253 : x11_1 < (l0.length : Int) := od; obtain ⟨ad253, e253, hx253_0, hx253_1, hx253_2⟩ := at_T42 HR0.out x11_1 p253 q253
         cases e253; replace hx253_0 := cb HB.out hx253_0; replace hx253_1 := cb HB.out hx253_1; replace hx253_2 := cb HB.out hx253_2; replace p253 := eq_true p253; replace q253 := eq_true q253; go_wp2_with (first | ((with_reducible refine gate_dst (N := 8) rfl ?_); refine bx 8 #[.int .i64 0, .string (⟨#[]⟩ : ByteArray), .int .i64 0] 42 ?_; intro gb254 hg w12 hbox hb; have BK254 := ak hbox; have GW254 := gw hg HB; have GE254 := gw hg HB; replace HB := bs HB hb; clear hb hbox hg; have hcz13 := cz3 BK254.out))
         go_roundg k1
         case measure => have := HK1.out; omega
         case rel => exact ⟨(wrap64 (x11_1 + 1)), (by first | rfl | (simp; done) | (simp [*]; done)), H', ⟨by have := HK1.out; omega⟩, ⟨vb HB.out⟩⟩
       ·rw [if_neg c8] at H; have c8b0 := decide_eq_false c8; clear c8; have H' := ak H; clear H; have p253 : 0 ≤ (x11_1 : Int) := od; have q253 : x11_1 < (l0.length : Int) := od; obtain ⟨ad253, e253, hx253_0, hx253_1, hx253_2⟩ := at_T42 HR0.out x11_1 p253 q253
        cases e253; replace hx253_0 := cb HB.out hx253_0; replace hx253_1 := cb HB.out hx253_1; replace hx253_2 := cb HB.out hx253_2; replace p253 := eq_true p253; replace q253 := eq_true q253; go_wp2_with (first | ((with_reducible refine gate_dst (N := 8) rfl ?_); refine bx 8 #[.int .i64 0, .string (⟨#[]⟩ : ByteArray), .int .i64 0] 42 ?_; intro gb254 hg w14 hbox hb; have BK254 := ak hbox; have GW254 := gw hg HB; have GE254 := gw hg HB; replace HB := bs HB hb; clear hb hbox hg; have hcz15 := cz3 BK254.out))
        go_roundg k1
        case measure => have := HK1.out; omega
        case rel => exact ⟨(wrap64 (x11_1 + 1)), (by first | rfl | (simp; done) | (simp [*]; done)), H', ⟨by have := HK1.out; omega⟩, ⟨vb HB.out⟩⟩
      ·rw [if_neg c7] at H; have c7b0 : (((rd_T42 l0 x11_1).f1).toList == a1.toList) = false := beq_eq_false_iff_ne.mpr c7; have c7b1 : (((rd_T42 l0 x11_1).f1).toList != a1.toList) = true := bne_iff_ne.mpr c7; have H' := ak H; clear H; have p253 : 0 ≤ (x11_1 : Int) := od; have q253 : x11_1 < (l0.length : Int) := od; obtain ⟨ad253, e253, hx253_0, hx253_1, hx253_2⟩ := at_T42 HR0.out x11_1 p253 q253
       cases e253; replace hx253_0 := cb HB.out hx253_0; replace hx253_1 := cb HB.out hx253_1; replace hx253_2 := cb HB.out hx253_2; replace p253 := eq_true p253; replace q253 := eq_true q253; go_wp2_with (first | ((with_reducible refine gate_dst (N := 8) rfl ?_); refine bx 8 #[.int .i64 0, .string (⟨#[]⟩ : ByteArray), .int .i64 0] 42 ?_; intro gb254 hg w16 hbox hb; have BK254 := ak hbox; have GW254 := gw hg HB; have GE254 := gw hg HB; replace HB := bs HB hb; clear hb hbox hg; have hcz17 := cz3 BK254.out))
       go_roundg k1
       case measure => have := HK1.out; omega
       case rel => exact ⟨(wrap64 (x11_1 + 1)), (by first | rfl | (simp; done) | (simp [*]; done)), H', ⟨by have := HK1.out; omega⟩, ⟨vb HB.out⟩⟩
     ·rw [if_neg c6] at H; exact absurd H (by simp)
    ·rw [if_neg c5] at H; exact absurd H (by simp)
   ·rw [if_neg c4] at H; have c4b0 := decide_eq_false c4; clear c4; obtain ⟨t255, A18, H⟩ := bnk H; obtain rfl := Option.some.inj H; go_wp2_with (first | ((with_reducible refine at_fn (f := 71) rfl ?_); refine gl (some 36) Try.func71 #[.slice A0 l0.length c0, .string a1, .int .i64 a2] ?_; (with_reducible refine (impl_peopleIn.calls k1 _ _ l0 a1 a2 t255 _ ?side1 HC0.out A18.out).mono ?_); (case side1 => exact vd HR0.out HB.out); rintro e w19 ⟨rfl, hb⟩; refine ⟨_, rfl, ?_⟩; replace HB := bs HB hb; (try clear hb); (try clear hb2); (try clear hk); (try clear hi)))
    go_ret
    exact ⟨ew, vb HB.out⟩


end Go.Proofs.Ytllhghcepbkpeaa.Pall
