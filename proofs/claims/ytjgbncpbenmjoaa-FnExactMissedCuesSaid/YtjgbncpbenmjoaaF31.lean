/- Go functions of the program, each as a Lean function, and the proof that each call comes to what the Lean function tells; no condition beyond those that stand there. -/
import Derived.Test.YtjgbncpbenmjoaaF00
import Derived.Test.YtjgbncpbenmjoaaF01
import Derived.Test.YtjgbncpbenmjoaaSq
import Derived.Test.YtjgbncpbenmjoaaWGuard
import Derived.Test.YtjgbncpbenmjoaaWKept
import Derived.Test.YtjgbncpbenmjoaaWLast
import Derived.Test.YtjgbncpbenmjoaaWRepsOne
import Derived.Test.YtjgbncpbenmjoaaWTab
import Derived.Test.YtjgbncpbenmjoaaSpare
import Derived.Test.YtjgbncpbenmjoaaCm
import Derived.Test.YtjgbncpbenmjoaaCm3
import Derived.StillTailTactics
import Derived.IntWalk
import Derived.Lib.Hide
namespace Go.Proofs.Ytjgbncpbenmjoaa.Pall
open Go.RowKit Go.Proofs.YtjgbncpbenmjoaaW.PrintWords Go.Proofs.YtjgbncpbenmjoaaW.PrintLast
set_option linter.unusedVariables false
set_option linter.unusedSimpArgs false

/-! ### laws_szMove: function 84 -/
def laws_szMove.f (a0_0 : Int) (a0_1 : ByteArray) (a0_2 : Int) (a1 : Int) : Option (Int) := if (wrap64 (a1 - (a0_1.size : Int))) < 0 then (some (-1)) else (some (wrap64 (a1 - (a0_1.size : Int))))
set_option maxHeartbeats 8000000 in
set_option maxRecDepth 100000 in
theorem laws_szMove.calls (a0_0 : Int) (a0_1 : ByteArray) (a0_2 : Int) (a1 : Int) (r : Int) (w : World) (h : laws_szMove.f a0_0 a0_1 a0_2 a1 = some r) :
  Calls Try.prog 84 #[.agg #[.int .i64 a0_0, .string a0_1, .int .i64 a0_2], .int .i64 a1] w fun e w' => e = .returned (.int .i64 r) ∧ Below w.heap.size w w' := by
 have hu110 := Try.underlying110; have HB := ak (Below.refl w.heap.size w); unfold laws_szMove.f at h; have H := h; clear h; by_cases c3 : (wrap64 (a1 - (a0_1.size : Int))) < 0
 rw [if_pos c3] at H; have c3b0 := decide_eq_true c3; clear c3; obtain rfl := Option.some.inj H; rotate_left
 rw [if_neg c3] at H; have c3b0 := decide_eq_false c3; clear c3; obtain rfl := Option.some.inj H; rotate_left
 all_goals
  go_enter Try.func84, Try.ntmps84; go_wp2_with (first | ((with_reducible refine gate_dst (N := 2) rfl ?_); refine bx 2 #[.int .i64 a0_0, .string a0_1, .int .i64 a0_2] 110 ?_; intro gb943 hg w9 hbox hb; have BK943 := ak hbox; have GW943 := gw hg HB; have GE943 := gw hg HB; replace HB := bs HB hb; clear hb hbox hg; have hcz9 := cz3 BK943.out))
  go_ret
  exact ⟨ew, vb HB.out⟩


/-! ### laws_szMoveS: function 50 -/
def laws_szMoveS.l0 : Nat → List (S110) → Int → Int → Option (Int)
 | 0, _, _, _ => none
 | k + 1, x0, x1, x5 => if x5 < (x0.length : Int) then (if 0 ≤ x5 then ((laws_szMove.f ((rd_T110 x0 x5).f0) ((rd_T110 x0 x5).f1) ((rd_T110 x0 x5).f2) x1).bind fun t945 => (if t945 < 0 then (some (-1)) else (laws_szMoveS.l0 k x0 t945 (wrap64 (x5 + 1))))) else (none)) else (some x1)
def laws_szMoveS.f (k : Nat) (l0 : List (S110)) (a1 : Int) : Option (Int) := if (wrap64 (a1 - (l0.length : Int))) < 0 then (some (-1)) else (laws_szMoveS.l0 k l0 (wrap64 (a1 - (l0.length : Int))) 0)
theorem laws_szMoveS.mono_l : ∀ k, (∀ y0 y1 y2, LeO (laws_szMoveS.l0 k y0 y1 y2) (laws_szMoveS.l0 (k + 1) y0 y1 y2))
 | 0 => fun _ _ _ r h => by simp [laws_szMoveS.l0] at h
 | k + 1 => by
  have ih0 := laws_szMoveS.mono_l k
  ·intro y0 y1 y2; unfold laws_szMoveS.l0
   repeat' first | (with_reducible first | exact ih0 _ _ _ | exact LeO.refl _ | exact LeO.none _ | refine LeO.ite ?_ ?_ | refine LeO.bind ?_ (fun _ => ?_)) | exact ih0 _ _ _ | exact LeO.none _ | refine LeO.ite ?_ ?_ | refine LeO.bind ?_ (fun _ => ?_)
theorem laws_szMoveS.mono : ∀ a0 a1 k, LeO (laws_szMoveS.f k a0 a1) (laws_szMoveS.f (k + 1) a0 a1) := by
 intro a0 a1 k; have ih0 := laws_szMoveS.mono_l k; unfold laws_szMoveS.f
 repeat' first | (with_reducible first | exact ih0 _ _ _ | exact LeO.refl _ | exact LeO.none _ | refine LeO.ite ?_ ?_ | refine LeO.bind ?_ (fun _ => ?_)) | exact ih0 _ _ _ | exact LeO.none _ | refine LeO.ite ?_ ?_ | refine LeO.bind ?_ (fun _ => ?_)
set_option maxHeartbeats 8000000 in
set_option maxRecDepth 100000 in
theorem laws_szMoveS.calls (k : Nat) (A0 : Option Addr) (c0 : Nat) (l0 : List (S110)) (a1 : Int) (r : Int) (w : World) (hr0 : Kd.C k110 w A0 l0.length l0) (hc0 : l0.length ≤ c0) (h : laws_szMoveS.f k l0 a1 = some r) :
  Calls Try.prog 50 #[.slice A0 l0.length c0, .int .i64 a1] w fun e w' => e = .returned (.int .i64 r) ∧ Below w.heap.size w w' := by
 have hu110 := Try.underlying110; have HR0 := ak hr0; have HC0 := ak hc0; clear hr0 hc0; have HB := ak (Below.refl w.heap.size w); unfold laws_szMoveS.f at h; have H := h; clear h; by_cases c3 : (wrap64 (a1 - (l0.length : Int))) < 0
 ·rw [if_pos c3] at H; have c3b0 := decide_eq_true c3; clear c3; obtain rfl := Option.some.inj H; go_enter Try.func50, Try.ntmps50; go_wp2
  go_ret
  exact ⟨ew, vb HB.out⟩
 ·rw [if_neg c3] at H; have c3b0 := decide_eq_false c3; clear c3; have H' := ak H; clear H; go_enter Try.func50, Try.ntmps50; go_wp2
  go_loopg [1, 5] k (fun kq v1 v5 w' => ∃ (x1_1 : Int) (x5_1 : Int), v1 = .int .i64 x1_1 ∧ v5 = .int .i64 x5_1 ∧ Aside0 (laws_szMoveS.l0 kq l0 x1_1 x5_1 = some r) ∧ Aside0 (kq ≤ k) ∧ Aside0 (Below w.heap.size w w'))
  case atStart => exact ⟨(wrap64 (a1 - (l0.length : Int))), (0), (by first | rfl | (simp; done) | (simp [*]; done)), (by first | rfl | (simp; done) | (simp [*]; done)), H', ⟨Nat.le_refl _⟩, ⟨vb HB.out⟩⟩
  case round =>
   clear H'; (try clear p2); (try clear c3); (try clear c3b0); obtain ⟨x1_1, x5_1, rfl, rfl, HA, HK1, HB⟩ := hrel
   cases gk with
   | zero => exact absurd HA.out (by simp [laws_szMoveS.l0])
   | succ k1 =>
    have H := HA.out; clear HA; simp only [laws_szMoveS.l0] at H
    by_cases c4 : x5_1 < (l0.length : Int)
    ·rw [if_pos c4] at H; have c4b0 := decide_eq_true c4; clear c4; by_cases c5 : 0 ≤ x5_1
     ·rw [if_pos c5] at H; have c5b0 := decide_eq_true c5; clear c5; obtain ⟨t945, A6, H⟩ := bnk H; by_cases c7 : t945 < 0
      ·rw [if_pos c7] at H; have c7b0 := decide_eq_true c7; clear c7; obtain rfl := Option.some.inj H; have p944 : 0 ≤ (x5_1 : Int) := od; have q944 : x5_1 < (l0.length : Int) := od; obtain ⟨ad944, e944, hx944_0, hx944_1, hx944_2⟩ := at_T110 HR0.out x5_1 p944 q944
       cases e944; replace hx944_0 := cb HB.out hx944_0; replace hx944_1 := cb HB.out hx944_1; replace hx944_2 := cb HB.out hx944_2; replace p944 := eq_true p944; replace q944 := eq_true q944; go_wp2_with (first | ((with_reducible refine at_fn (f := 84) rfl ?_); refine gl (some 23) Try.func84 #[.agg #[.int .i64 ((rd_T110 l0 x5_1).f0), .string ((rd_T110 l0 x5_1).f1), .int .i64 ((rd_T110 l0 x5_1).f2)], .int .i64 x1_1] ?_; (with_reducible refine (laws_szMove.calls ((rd_T110 l0 x5_1).f0) ((rd_T110 l0 x5_1).f1) ((rd_T110 l0 x5_1).f2) x1_1 t945 _ A6.out).mono ?_); rintro e w8 ⟨rfl, hb⟩; refine ⟨_, rfl, ?_⟩; replace HB := bs HB hb; (try clear hb); (try clear hb2); (try clear hk); (try clear hi)))
       go_ret
       exact ⟨ew, vb HB.out⟩
      ·rw [if_neg c7] at H; have c7b0 := decide_eq_false c7; clear c7; have H' := ak H; clear H; have p944 : 0 ≤ (x5_1 : Int) := od; have q944 : x5_1 < (l0.length : Int) := od; obtain ⟨ad944, e944, hx944_0, hx944_1, hx944_2⟩ := at_T110 HR0.out x5_1 p944 q944
       cases e944; replace hx944_0 := cb HB.out hx944_0; replace hx944_1 := cb HB.out hx944_1; replace hx944_2 := cb HB.out hx944_2; replace p944 := eq_true p944; replace q944 := eq_true q944; go_wp2_with (first | ((with_reducible refine at_fn (f := 84) rfl ?_); refine gl (some 23) Try.func84 #[.agg #[.int .i64 ((rd_T110 l0 x5_1).f0), .string ((rd_T110 l0 x5_1).f1), .int .i64 ((rd_T110 l0 x5_1).f2)], .int .i64 x1_1] ?_; (with_reducible refine (laws_szMove.calls ((rd_T110 l0 x5_1).f0) ((rd_T110 l0 x5_1).f1) ((rd_T110 l0 x5_1).f2) x1_1 t945 _ A6.out).mono ?_); rintro e w9 ⟨rfl, hb⟩; refine ⟨_, rfl, ?_⟩; replace HB := bs HB hb; (try clear hb); (try clear hb2); (try clear hk); (try clear hi)))
       go_roundg k1
       case measure => have := HK1.out; omega
       case rel => exact ⟨(t945), (wrap64 (x5_1 + 1)), (by first | rfl | (simp; done) | (simp [*]; done)), (by first | rfl | (simp; done) | (simp [*]; done)), H', ⟨by have := HK1.out; omega⟩, ⟨vb HB.out⟩⟩
     ·rw [if_neg c5] at H; exact absurd H (by simp)
    ·rw [if_neg c4] at H; have c4b0 := decide_eq_false c4; clear c4; obtain rfl := Option.some.inj H; go_wp2
     go_ret
     exact ⟨ew, vb HB.out⟩


/-! ### laws_szStringS: function 51 -/
def laws_szStringS.l0 : Nat → List ByteArray → Int → Int → Option (Int)
 | 0, _, _, _ => none
 | k + 1, x0, x1, x5 => if x5 < (x0.length : Int) then (if 0 ≤ x5 then (if (wrap64 (x1 - ((rdOf ByteArray.empty x0 x5).size : Int))) < 0 then (some (-1)) else (laws_szStringS.l0 k x0 (wrap64 (x1 - ((rdOf ByteArray.empty x0 x5).size : Int))) (wrap64 (x5 + 1)))) else (none)) else (some x1)
def laws_szStringS.f (k : Nat) (l0 : List ByteArray) (a1 : Int) : Option (Int) := if (wrap64 (a1 - (l0.length : Int))) < 0 then (some (-1)) else (laws_szStringS.l0 k l0 (wrap64 (a1 - (l0.length : Int))) 0)
theorem laws_szStringS.mono_l : ∀ k, (∀ y0 y1 y2, LeO (laws_szStringS.l0 k y0 y1 y2) (laws_szStringS.l0 (k + 1) y0 y1 y2))
 | 0 => fun _ _ _ r h => by simp [laws_szStringS.l0] at h
 | k + 1 => by
  have ih0 := laws_szStringS.mono_l k
  ·intro y0 y1 y2; unfold laws_szStringS.l0
   repeat' first | (with_reducible first | exact ih0 _ _ _ | exact LeO.refl _ | exact LeO.none _ | refine LeO.ite ?_ ?_ | refine LeO.bind ?_ (fun _ => ?_)) | exact ih0 _ _ _ | exact LeO.none _ | refine LeO.ite ?_ ?_ | refine LeO.bind ?_ (fun _ => ?_)
theorem laws_szStringS.mono : ∀ a0 a1 k, LeO (laws_szStringS.f k a0 a1) (laws_szStringS.f (k + 1) a0 a1) := by
 intro a0 a1 k; have ih0 := laws_szStringS.mono_l k; unfold laws_szStringS.f
 repeat' first | (with_reducible first | exact ih0 _ _ _ | exact LeO.refl _ | exact LeO.none _ | refine LeO.ite ?_ ?_ | refine LeO.bind ?_ (fun _ => ?_)) | exact ih0 _ _ _ | exact LeO.none _ | refine LeO.ite ?_ ?_ | refine LeO.bind ?_ (fun _ => ?_)
set_option maxHeartbeats 8000000 in
set_option maxRecDepth 100000 in
theorem laws_szStringS.calls (k : Nat) (A0 : Option Addr) (c0 : Nat) (l0 : List ByteArray) (a1 : Int) (r : Int) (w : World) (hr0 : Kd.C Kd.string w A0 l0.length l0) (hc0 : l0.length ≤ c0) (h : laws_szStringS.f k l0 a1 = some r) :
  Calls Try.prog 51 #[.slice A0 l0.length c0, .int .i64 a1] w fun e w' => e = .returned (.int .i64 r) ∧ Drawn0 w w' := by
 have HR0 := ak hr0; have HC0 := ak hc0; clear hr0 hc0; unfold laws_szStringS.f at h; have H := h; clear h; by_cases c3 : (wrap64 (a1 - (l0.length : Int))) < 0
 ·rw [if_pos c3] at H; have c3b0 := decide_eq_true c3; clear c3; obtain rfl := Option.some.inj H; go_enter Try.func51, Try.ntmps51; go_wp2
  go_ret
  exact ⟨by first | rfl | (simp; done) | (simp [*]; done), by repeat (first | exact Drawn0.refl _ | apply Drawn0.step)⟩
 ·rw [if_neg c3] at H; have c3b0 := decide_eq_false c3; clear c3; have H' := ak H; clear H; go_enter Try.func51, Try.ntmps51; go_wp2
  go_loopg [1, 5] k (fun kq v1 v5 w' => ∃ (x1_1 : Int) (x5_1 : Int), v1 = .int .i64 x1_1 ∧ v5 = .int .i64 x5_1 ∧ Aside0 (laws_szStringS.l0 kq l0 x1_1 x5_1 = some r) ∧ Aside0 (kq ≤ k) ∧ Drawn0 w w')
  case atStart => exact ⟨(wrap64 (a1 - (l0.length : Int))), (0), (by first | rfl | (simp; done) | (simp [*]; done)), (by first | rfl | (simp; done) | (simp [*]; done)), H', ⟨Nat.le_refl _⟩, by repeat (first | exact Drawn0.refl _ | apply Drawn0.step)⟩
  case round =>
   clear H'; (try clear p2); (try clear c3); (try clear c3b0); obtain ⟨x1_1, x5_1, rfl, rfl, HA, HK1, ⟨m1, rfl⟩⟩ := hrel
   cases gk with
   | zero => exact absurd HA.out (by simp [laws_szStringS.l0])
   | succ k1 =>
    have H := HA.out; clear HA; simp only [laws_szStringS.l0] at H
    by_cases c4 : x5_1 < (l0.length : Int)
    ·rw [if_pos c4] at H; have c4b0 := decide_eq_true c4; clear c4; by_cases c5 : 0 ≤ x5_1
     ·rw [if_pos c5] at H; have c5b0 := decide_eq_true c5; clear c5; by_cases c6 : (wrap64 (x1_1 - ((rdOf ByteArray.empty l0 x5_1).size : Int))) < 0
      ·rw [if_pos c6] at H; have c6b0 := decide_eq_true c6; clear c6; obtain rfl := Option.some.inj H; have p946 : 0 ≤ (x5_1 : Int) := od; have q946 : x5_1 < (l0.length : Int) := od; obtain ⟨ad946, e946, hx946_0⟩ := Kd.at_string HR0.out x5_1 p946 q946
       cases e946; replace p946 := eq_true p946; replace q946 := eq_true q946; go_wp2
       go_ret
       exact ⟨by first | rfl | (simp; done) | (simp [*]; done), by repeat (first | exact Drawn0.refl _ | apply Drawn0.step)⟩
      ·rw [if_neg c6] at H; have c6b0 := decide_eq_false c6; clear c6; have H' := ak H; clear H; have p946 : 0 ≤ (x5_1 : Int) := od; have q946 : x5_1 < (l0.length : Int) := od; obtain ⟨ad946, e946, hx946_0⟩ := Kd.at_string HR0.out x5_1 p946 q946
       cases e946; replace p946 := eq_true p946; replace q946 := eq_true q946; go_wp2
       go_roundg k1
       case measure => have := HK1.out; omega
       case rel => exact ⟨(wrap64 (x1_1 - ((rdOf ByteArray.empty l0 x5_1).size : Int))), (wrap64 (x5_1 + 1)), (by first | rfl | (simp; done) | (simp [*]; done)), (by first | rfl | (simp; done) | (simp [*]; done)), H', ⟨by have := HK1.out; omega⟩, by repeat (first | exact Drawn0.refl _ | apply Drawn0.step)⟩
     ·rw [if_neg c5] at H; exact absurd H (by simp)
    ·rw [if_neg c4] at H; have c4b0 := decide_eq_false c4; clear c4; obtain rfl := Option.some.inj H; go_wp2
     go_ret
     exact ⟨by first | rfl | (simp; done) | (simp [*]; done), by repeat (first | exact Drawn0.refl _ | apply Drawn0.step)⟩


/-! ### laws_toMove: function 85 -/
def laws_toMove.f (a0_0 : Int) (a0_1 : ByteArray) (a0_2 : Int) : Option (Int × ByteArray × Int) := some (a0_0, a0_1, a0_2)
set_option maxHeartbeats 8000000 in
set_option maxRecDepth 100000 in
theorem laws_toMove.calls (a0_0 : Int) (a0_1 : ByteArray) (a0_2 : Int) (r1 : Int) (r2 : ByteArray) (r3 : Int) (w : World) (h : laws_toMove.f a0_0 a0_1 a0_2 = some (r1, r2, r3)) :
  Calls Try.prog 85 #[.agg #[.int .i64 a0_0, .string a0_1, .int .i64 a0_2]] w fun e w' => e = .returned (.agg #[.int .i64 r1, .string r2, .int .i64 r3]) ∧ Below w.heap.size w w' := by
 have hu110 := Try.underlying110; have hu111 := Try.underlying111; have HB := ak (Below.refl w.heap.size w); unfold laws_toMove.f at h; have H := h; clear h; simp only [Option.some.injEq, Prod.mk.injEq] at H
 obtain ⟨rfl, rfl, rfl⟩ := H; go_enter Try.func85, Try.ntmps85; go_wp2_with (first | ((with_reducible refine gate_dst (N := 1) rfl ?_); refine bx 1 #[.int .i64 a0_0, .string a0_1, .int .i64 a0_2] 110 ?_; intro gb951 hg w2 hbox hb; have BK951 := ak hbox; have GW951 := gw hg HB; have GE951 := gw hg HB; replace HB := bs HB hb; clear hb hbox hg) | ((with_reducible refine gate_dst (N := 2) rfl ?_); refine bx 2 #[.int .i64 0, .string (⟨#[]⟩ : ByteArray), .int .i64 0] 111 ?_; intro gb952 hg w3 hbox hb; have BK952 := ak hbox; have GW952 := gw hg HB; have GE952 := gw hg HB; replace HB := bs HB hb; have NB951_952 := ak ((by rw [hg]; exact Nat.ne_of_lt (blk_lt (vk BK951.out)) : gb951 ≠ gb952)); have NB952_951 := ak ((by rw [hg]; exact Nat.ne_of_gt (blk_lt (vk BK951.out)) : gb952 ≠ gb951)); replace BK951 := kb BK951 hb; clear hb hbox hg) | ((with_reducible refine gate_dst (N := 3) rfl ?_); refine bx 3 #[.int .i64 0, .string (⟨#[]⟩ : ByteArray), .int .i64 0] 111 ?_; intro gb953 hg w4 hbox hb; have BK953 := ak hbox; have GW953 := gw hg HB; have GE953 := gw hg HB; replace HB := bs HB hb; have NB951_953 := ak ((by rw [hg]; exact Nat.ne_of_lt (blk_lt (vk BK951.out)) : gb951 ≠ gb953)); have NB953_951 := ak ((by rw [hg]; exact Nat.ne_of_gt (blk_lt (vk BK951.out)) : gb953 ≠ gb951)); replace BK951 := kb BK951 hb; have NB952_953 := ak ((by rw [hg]; exact Nat.ne_of_lt (blk_lt (vk BK952.out)) : gb952 ≠ gb953)); have NB953_952 := ak ((by rw [hg]; exact Nat.ne_of_gt (blk_lt (vk BK952.out)) : gb953 ≠ gb952)); replace BK952 := kb BK952 hb; clear hb hbox hg; have hnb5 := NB951_952.out; have hnc5 := NB952_951.out; have hnb6 := NB951_953.out; have hnc6 := NB953_951.out; have hcz7 := cz3 BK951.out; have hnb8 := NB953_952.out; have hnc8 := NB952_953.out; have hcz9 := cz3 BK953.out; have hcz10 := cz3 BK952.out))
 refine bodyPost_ret (results_cell_row rfl _ _ gb952 111 #[.int .i64 a0_0, .string a0_1, .int .i64 a0_2] (0, 0) _ rfl (vz BK952.out) Try.underlying111 rfl (by kernel_rfl)) rfl ?_; exact ⟨ew, vb HB.out⟩


/-! ### laws_fillerMove: function 86 -/
def laws_fillerMove.f  : Option (Int × ByteArray × Int) := some ((-7000000000000000101), (⟨#[126, 115, 112, 97, 114, 101, 126]⟩ : ByteArray), (-7000000000000000101))
set_option maxHeartbeats 8000000 in
set_option maxRecDepth 100000 in
theorem laws_fillerMove.calls  (r1 : Int) (r2 : ByteArray) (r3 : Int) (w : World) (h : laws_fillerMove.f  = some (r1, r2, r3)) :
  Calls Try.prog 86 #[] w fun e w' => e = .returned (.agg #[.int .i64 r1, .string r2, .int .i64 r3]) ∧ Below w.heap.size w w' := by
 have hu111 := Try.underlying111; have HB := ak (Below.refl w.heap.size w); unfold laws_fillerMove.f at h; have H := h; clear h; simp only [Option.some.injEq, Prod.mk.injEq] at H
 obtain ⟨rfl, rfl, rfl⟩ := H; go_enter Try.func86, Try.ntmps86; go_wp2_with (first | ((with_reducible refine gate_dst (N := 0) rfl ?_); refine bx 0 #[.int .i64 0, .string (⟨#[]⟩ : ByteArray), .int .i64 0] 111 ?_; intro gb954 hg w1 hbox hb; have BK954 := ak hbox; have GW954 := gw hg HB; have GE954 := gw hg HB; replace HB := bs HB hb; clear hb hbox hg; have hcz2 := cz3 BK954.out))
 refine bodyPost_ret (results_cell_row rfl _ _ gb954 111 #[.int .i64 (-7000000000000000101), .string (⟨#[126, 115, 112, 97, 114, 101, 126]⟩ : ByteArray), .int .i64 (-7000000000000000101)] (0, 0) _ rfl (vz BK954.out) Try.underlying111 rfl (by kernel_rfl)) rfl ?_; exact ⟨ew, vb HB.out⟩


/-! ### laws_toMoveS: function 53 -/
instance : Fil S111 := ⟨(⟨(-7000000000000000101), (⟨#[126, 115, 112, 97, 114, 101, 126]⟩ : ByteArray), (-7000000000000000101)⟩ : S111)⟩
mutual
def laws_toMoveSg.j0 : Nat → List (S110) → Bool → Option ((List (S111)))
 | 0, _, _ => none
 | k + 1, x0, x13 => if x13 = true then (some ([] : List (S111))) else ((laws_roomBehind.f (x0.length : Int)).bind fun t955 => (if 0 ≤ (wrap64 ((x0.length : Int) + t955)) then (if (wrap64 ((x0.length : Int) + t955) : Int).toNat ≤ 8796093022208 then (laws_toMoveSg.l0 k x0 (List.replicate (wrap64 ((x0.length : Int) + t955) : Int).toNat z111) 0) else (none)) else (none)))
def laws_toMoveSg.l0 : Nat → List (S110) → List (S111) → Int → Option ((List (S111)))
 | 0, _, _, _ => none
 | k + 1, x0, x5, x6 => if x6 < (x0.length : Int) then (if 0 ≤ x6 then ((laws_toMove.f ((rd_T110 x0 x6).f0) ((rd_T110 x0 x6).f1) ((rd_T110 x0 x6).f2)).bind fun bt960 => (if x6 < (x5.length : Int) then (laws_toMoveSg.l0 k x0 (x5.set (x6 : Int).toNat (⟨bt960.1, bt960.2.1, bt960.2.2⟩ : S111)) (wrap64 (x6 + 1))) else (none))) else (none)) else (laws_toMoveSg.l1 k x0 x5 (x0.length : Int))
def laws_toMoveSg.l1 : Nat → List (S110) → List (S111) → Int → Option ((List (S111)))
 | 0, _, _, _ => none
 | k + 1, x0, x5, x7 => if x7 < (x5.length : Int) then ((laws_fillerMove.f).bind fun bt964 => (if 0 ≤ x7 then (laws_toMoveSg.l1 k x0 (x5.set (x7 : Int).toNat (⟨bt964.1, bt964.2.1, bt964.2.2⟩ : S111)) (wrap64 (x7 + 1))) else (none))) else (if 0 ≤ (x0.length : Int) then (if (x0.length : Int) ≤ (x5.length : Int) then (some x5) else (none)) else (none))
end
def laws_toMoveSg.f (k : Nat) (l0 : List (S110)) (a1 : Bool) : Option ((List (S111))) := if a1 = true then (laws_toMoveSg.j0 k l0 ((l0.length : Int) == 0)) else (laws_toMoveSg.j0 k l0 false)
theorem laws_toMoveSg.mono_l : ∀ k, (∀ y0 y1, LeO (laws_toMoveSg.j0 k y0 y1) (laws_toMoveSg.j0 (k + 1) y0 y1)) ∧ (∀ y0 y1 y2, LeO (laws_toMoveSg.l0 k y0 y1 y2) (laws_toMoveSg.l0 (k + 1) y0 y1 y2)) ∧ (∀ y0 y1 y2, LeO (laws_toMoveSg.l1 k y0 y1 y2) (laws_toMoveSg.l1 (k + 1) y0 y1 y2))
 | 0 => ⟨fun _ _ r h => by simp [laws_toMoveSg.j0] at h, fun _ _ _ r h => by simp [laws_toMoveSg.l0] at h, fun _ _ _ r h => by simp [laws_toMoveSg.l1] at h⟩
 | k + 1 => by
  obtain ⟨ih0, ih1, ih2⟩ := laws_toMoveSg.mono_l k; refine ⟨?_, ?_, ?_⟩
  ·intro y0 y1; unfold laws_toMoveSg.j0
   repeat' first | (with_reducible first | exact ih0 _ _ | exact ih1 _ _ _ | exact ih2 _ _ _ | exact LeO.refl _ | exact LeO.none _ | refine LeO.ite ?_ ?_ | refine LeO.bind ?_ (fun _ => ?_)) | exact ih0 _ _ | exact ih1 _ _ _ | exact ih2 _ _ _ | exact LeO.none _ | refine LeO.ite ?_ ?_ | refine LeO.bind ?_ (fun _ => ?_)
  ·intro y0 y1 y2; unfold laws_toMoveSg.l0
   repeat' first | (with_reducible first | exact ih0 _ _ | exact ih1 _ _ _ | exact ih2 _ _ _ | exact LeO.refl _ | exact LeO.none _ | refine LeO.ite ?_ ?_ | refine LeO.bind ?_ (fun _ => ?_)) | exact ih0 _ _ | exact ih1 _ _ _ | exact ih2 _ _ _ | exact LeO.none _ | refine LeO.ite ?_ ?_ | refine LeO.bind ?_ (fun _ => ?_)
  ·intro y0 y1 y2; unfold laws_toMoveSg.l1
   repeat' first | (with_reducible first | exact ih0 _ _ | exact ih1 _ _ _ | exact ih2 _ _ _ | exact LeO.refl _ | exact LeO.none _ | refine LeO.ite ?_ ?_ | refine LeO.bind ?_ (fun _ => ?_)) | exact ih0 _ _ | exact ih1 _ _ _ | exact ih2 _ _ _ | exact LeO.none _ | refine LeO.ite ?_ ?_ | refine LeO.bind ?_ (fun _ => ?_)
theorem laws_toMoveSg.mono : ∀ a0 a1 k, LeO (laws_toMoveSg.f k a0 a1) (laws_toMoveSg.f (k + 1) a0 a1) := by
 intro a0 a1 k; obtain ⟨ih0, ih1, ih2⟩ := laws_toMoveSg.mono_l k; unfold laws_toMoveSg.f
 repeat' first | (with_reducible first | exact ih0 _ _ | exact ih1 _ _ _ | exact ih2 _ _ _ | exact LeO.refl _ | exact LeO.none _ | refine LeO.ite ?_ ?_ | refine LeO.bind ?_ (fun _ => ?_)) | exact ih0 _ _ | exact ih1 _ _ _ | exact ih2 _ _ _ | exact LeO.none _ | refine LeO.ite ?_ ?_ | refine LeO.bind ?_ (fun _ => ?_)
set_option maxHeartbeats 8000000 in
set_option maxRecDepth 100000 in
theorem laws_toMoveSg.calls (k : Nat) (A0 : Option Addr) (c0 : Nat) (l0 : List (S110)) (a1 : Bool) (r : List (S111)) (w : World) (hr0 : Kd.C k110 w A0 l0.length l0) (hc0 : l0.length ≤ c0) (h : laws_toMoveSg.f k l0 a1 = some r) :
  Calls Try.prog 53 #[.slice A0 l0.length c0, .bool a1] w fun e w' => ∃ (A_ : Option Addr) (c_ : Nat), e = .returned (.slice A_ (vis l0.length r.length) c_) ∧ Kd.R k111 111 w' w.heap.size (fun _ => True) (.slice A_ r.length c_) r ∧ Below w.heap.size w w' := by
 have hu110 := Try.underlying110; have hu111 := Try.underlying111; have HR0 := ak hr0; have HC0 := ak hc0; clear hr0 hc0; have HB := ak (Below.refl w.heap.size w); unfold laws_toMoveSg.f at h; have H := h; clear h; have HC3 := ak H; clear H; go_enter Try.func53, Try.ntmps53; go_upto_region 1 with (fail)
 go_cut [13] (fun v13 wc => ∃ (kq : Nat) (x13_2 : Bool), v13 = .bool x13_2 ∧ Aside0 (laws_toMoveSg.j0 kq l0 x13_2 = some r) ∧ Aside0 (kq ≤ k) ∧ Aside0 (Below w.heap.size w wc))
 case first =>
  have H := HC3.out; clear HC3; by_cases c4 : a1 = true
  ·subst c4; rw [if_pos rfl] at H; have H' := ak H; clear H; go_wp2
   go_meet
   case rel => exact ⟨_, (((l0.length : Int) == 0)), (by first | rfl | (simp; done) | (simp [*]; done)), H', ⟨by first | omega | exact Nat.le_refl _⟩, ⟨vb HB.out⟩⟩
  ·replace c4 := Bool.eq_false_iff.mpr c4; subst c4; rw [if_neg nf] at H; have H' := ak H; clear H; go_wp2
   go_meet
   case rel => exact ⟨_, (false), (by first | rfl | (simp; done) | (simp [*]; done)), H', ⟨by first | omega | exact Nat.le_refl _⟩, ⟨vb HB.out⟩⟩
 case rest =>
  clear HC3; (try clear p2); (try clear c4); obtain ⟨kq, x13_2, rfl, HA, HJ2, HB⟩ := hcut
  cases kq with
  | zero => exact absurd HA.out (by simp [laws_toMoveSg.j0])
  | succ kj2 =>
   have H := HA.out; clear HA; simp only [laws_toMoveSg.j0] at H
   by_cases c5 : x13_2 = true
   ·subst c5; rw [if_pos rfl] at H; obtain rfl := Option.some.inj H; go_wp2
    go_ret
    exact ⟨none, 0, by first | (rw [vis_zero]; rfl) | (simp only [List.length_nil, vis_zero]; rfl), Kd.R_nil _ _ _ _ _, vb HB.out⟩
   ·replace c5 := Bool.eq_false_iff.mpr c5; subst c5; rw [if_neg nf] at H; obtain ⟨t955, A6, H⟩ := bnk H; obtain ⟨ji7, hji7⟩ : ∃ j_ : Int, (wrap64 ((l0.length : Int) + t955)) = j_ := ⟨_, rfl⟩; replace H : (if 0 ≤ (ji7) then (if (ji7 : Int).toNat ≤ 8796093022208 then (laws_toMoveSg.l0 kj2 l0 (List.replicate (ji7 : Int).toNat z111) 0) else (none)) else (none)) = some r := by first | (rw [hji7] at H; exact H) | (simp only [hji7] at H ⊢; exact H)
    (try rw [hji7] at A6)
    have hji7w : (IntKind.i64.wrap ((l0.length : Int) + t955)) = ji7 := (i64_w _).trans hji7; by_cases c8 : 0 ≤ (ji7)
    ·rw [if_pos c8] at H; have c8b0 := eq_true c8; have c8b1 : decide (0 ≤ (ji7)) = true := decide_eq_true c8; clear c8; by_cases c9 : (ji7 : Int).toNat ≤ 8796093022208
     ·rw [if_pos c9] at H; have c9b0 := eq_true c9; have c9b1 : decide ((ji7 : Int).toNat ≤ 8796093022208) = true := decide_eq_true c9; clear c9; obtain ⟨y956, hy956⟩ := gen_ ((List.replicate (ji7 : Int).toNat z111 : List (S111))); rw [← hy956] at H; have Ny956 := ak hy956; clear hy956; have H' := ak H; clear H; go_wp2_with (first | ((with_reducible refine at_fn (f := 66) rfl ?_); refine gl (some 18) Try.func66 #[.int .i64 (l0.length : Int)] ?_; (with_reducible refine (laws_roomBehind.calls (l0.length : Int) t955 _ A6.out).mono ?_); rintro e w' ⟨rfl, ⟨nd, rfl⟩⟩; refine ⟨_, rfl, ?_⟩) | ((with_reducible refine gate_dst (N := 20) rfl ?_); (try (refine gate_guard (by rfl) ?_; dsimp only)); refine Kd.R_make k111 _ 111 rfl (N := 20) rfl 73 _ _ rfl ji7 rfl rfl Try.underlying73 (.agg #[(.int .i64 0), (.string ⟨#[]⟩), (.int .i64 0)]) 32 info111 rfl (by decide) (by omega) z111 (ok := fun _ => True) (okp := fun _ => True) (k111_mkM _ _ _ z111 ) (fun _ hk => hk) trivial (od) (Nat.le_trans (Nat.mul_le_mul_right _ (od : ji7.toNat ≤ 8796093022208)) (by omega)) (Below.refl _ _) (Nat.le_refl _) ?_; intro v957 w10 ho11 hb hg_ hnew_; clear hg_ hnew_; (first | rw [← Ny956.out] at ho11 | (simp only [Int.reduceToNat] at ho11; rw [← Ny956.out] at ho11)); have HO958 := ak (Kd.R_lower ho11 (below_size (vb HB.out))); replace HB := bs HB hb; clear hb ho11))
      go_loopg [6] kj2 (fun kq v6 w' => ∃ (x5_2 : List (S111)) (x6_2 : Int), v6 = .int .i64 x6_2 ∧ Aside0 (laws_toMoveSg.l0 kq l0 x5_2 x6_2 = some r) ∧ Aside0 (kq ≤ kj2) ∧ Aside0 (Kd.R k111 111 w' w.heap.size (fun _ => True) v957 x5_2) ∧ Aside0 (Below w.heap.size w w'))
      case atStart => exact ⟨(y956), (0), (by first | rfl | (simp; done) | (simp [*]; done)), H', ⟨Nat.le_refl _⟩, ⟨by (with_reducible repeat (first | apply Kd.R_alloc | apply Kd.R_drewN | apply Kd.R_drew)); exact HO958.out⟩, ⟨vb HB.out⟩⟩
      case round =>
       clear H'; (try clear p2); (try clear c4); (try clear c5); (try clear c6); (try clear p6); (try clear c8); (try clear c8b0); (try clear c8b1); (try clear c9); (try clear c9b0); (try clear c9b1); (try clear p2); obtain ⟨x5_2, x6_2, rfl, HA, HK2, HO_5, HB⟩ := hrel
       cases gk with
       | zero => exact absurd HA.out (by simp [laws_toMoveSg.l0])
       | succ k2 =>
        have H := HA.out; clear HA; simp only [laws_toMoveSg.l0] at H
        by_cases c12 : x6_2 < (l0.length : Int)
        ·rw [if_pos c12] at H; have c12b0 := decide_eq_true c12; clear c12; by_cases c13 : 0 ≤ x6_2
         ·rw [if_pos c13] at H; have c13b0 := decide_eq_true c13; clear c13; obtain ⟨⟨t960, t961, t962⟩, A140, H⟩ := bnd H; replace H : (if x6_2 < (x5_2.length : Int) then (laws_toMoveSg.l0 k2 l0 (x5_2.set (x6_2 : Int).toNat (⟨t960, t961, t962⟩ : S111)) (wrap64 (x6_2 + 1))) else (none)) = some r := H; have A14 := ak A140; clear A140; by_cases c15 : x6_2 < (x5_2.length : Int)
          ·rw [if_pos c15] at H; have c15b0 := decide_eq_true c15; clear c15; obtain ⟨y963, hy963⟩ := gen_ ((x5_2.set (x6_2 : Int).toNat (⟨t960, t961, t962⟩ : S111) : List (S111))); rw [← hy963] at H; have Ny963 := ak hy963; clear hy963; have H' := ak H; clear H; have p959 : 0 ≤ (x6_2 : Int) := od; have q959 : x6_2 < (l0.length : Int) := od; obtain ⟨ad959, e959, hx959_0, hx959_1, hx959_2⟩ := at_T110 HR0.out x6_2 p959 q959
           cases e959; replace hx959_0 := cb HB.out hx959_0; replace hx959_1 := cb HB.out hx959_1; replace hx959_2 := cb HB.out hx959_2; replace p959 := eq_true p959; replace q959 := eq_true q959; go_wp2_with (first | ((with_reducible refine at_fn (f := 85) rfl ?_); refine gl (some 33) Try.func85 #[.agg #[.int .i64 ((rd_T110 l0 x6_2).f0), .string ((rd_T110 l0 x6_2).f1), .int .i64 ((rd_T110 l0 x6_2).f2)]] ?_; (with_reducible refine (laws_toMove.calls ((rd_T110 l0 x6_2).f0) ((rd_T110 l0 x6_2).f1) ((rd_T110 l0 x6_2).f2) t960 t961 t962 _ A14.out).mono ?_); rintro e w17 ⟨rfl, hb⟩; refine ⟨_, rfl, ?_⟩; replace HO_5 := ak (Kd.R_below (vr HO_5.out) hb); replace HB := bs HB hb; (try clear hb); (try clear hb2); (try clear hk); (try clear hi); have p16 : 0 ≤ (x6_2 : Int) := od; have q16 : (x6_2 : Int) < ((x5_2.length : Int) : Int) := od; obtain ⟨go16, co16, eo16, gb16, gl16, cl16, HG16⟩ := Kd.R_form HO_5.out (by omega); (first | cases eo16 | (injection eo16 with ea_ en_ ec_; (first | subst ea_ | (injection ea_ with ea_; subst ea_)); subst ec_; clear en_)); have GB16 := ak gb16; have GG16 := ak HG16; clear gb16 gl16 HG16; obtain ⟨ce16, hcl16, hM16, hcc16, hfr16⟩ := Kd.R_elem HO_5.out z111 (x6_2 : Int) p16 q16; obtain rfl := k111_openM hM16; have hx16_0 : w17.cell? ⟨go16, (x6_2 : Int).toNat * 3, none⟩ = some (.int .i64 ((rd_T111 x5_2 x6_2).f0)) := hcc16 0 _ rfl; have hx16_1 : w17.cell? ⟨go16, (x6_2 : Int).toNat * 3 + 1, none⟩ = some (.string ((rd_T111 x5_2 x6_2).f1)) := hcc16 1 _ rfl; have hx16_2 : w17.cell? ⟨go16, (x6_2 : Int).toNat * 3 + 2, none⟩ = some (.int .i64 ((rd_T111 x5_2 x6_2).f2)) := hcc16 2 _ rfl; have hf16_0 : w17.frozen? ⟨go16, (x6_2 : Int).toNat * 3, none⟩ = false := hfr16 0; have hf16_1 : w17.frozen? ⟨go16, (x6_2 : Int).toNat * 3 + 1, none⟩ = false := hfr16 1; have hf16_2 : w17.frozen? ⟨go16, (x6_2 : Int).toNat * 3 + 2, none⟩ = false := hfr16 2; clear hcl16 hcc16 hfr16 hM16; replace p16 := eq_true p16; replace q16 := eq_true q16; have HX18 := ak (show Kd.R k111 111 w17 w.heap.size (fun _ => True) (.slice (some ⟨go16, 0, none⟩) x5_2.length co16) x5_2 from (vr HO_5.out)); obtain ⟨ce18, hcl18, hM18, hcc18, hfr18⟩ := Kd.R_elem HX18.out z111 (x6_2 : Int) (od) (by have h_ : (x6_2 : Int) < ((x5_2.length : Int) : Int) := od; first | exact h_ | (have e_ := (Kd.R_reads' HO_5.out).1; omega) | simpa using h_); obtain rfl := k111_openM hM18; have HP18 := Kd.R_seg HX18.out (x6_2 : Int) (od) (by have h_ : (x6_2 : Int) < ((x5_2.length : Int) : Int) := od; first | exact h_ | (have e_ := (Kd.R_reads' HO_5.out).1; omega) | simpa using h_) (seg := [.int .i64 t960, .string t961, .int .i64 t962]) (j := 0) hcl18 hcc18 (show 3 ≤ 3 from by decide) (x' := (⟨t960, t961, t962⟩ : S111)) (k111_mkM _ _ _ (⟨t960, t961, t962⟩ : S111) ) (fun _ hk => hk); have hx18_0 := hcc18 0 _ rfl; (try simp only [show (k111).sz = 3 from rfl, Nat.mul_one, Nat.add_zero] at hx18_0); have hf18_0 := hfr18 0; (try simp only [show (k111).sz = 3 from rfl, Nat.mul_one, Nat.add_zero] at hf18_0); have hx18_1 := hcc18 1 _ rfl; (try simp only [show (k111).sz = 3 from rfl, Nat.mul_one, Nat.add_zero] at hx18_1); have hf18_1 := hfr18 1; (try simp only [show (k111).sz = 3 from rfl, Nat.mul_one, Nat.add_zero] at hf18_1); have hx18_2 := hcc18 2 _ rfl; (try simp only [show (k111).sz = 3 from rfl, Nat.mul_one, Nat.add_zero] at hx18_2); have hf18_2 := hfr18 2; (try simp only [show (k111).sz = 3 from rfl, Nat.mul_one, Nat.add_zero] at hf18_2); clear hcl18 hcc18 hfr18 hM18) | ((with_reducible refine gate_store (t := 111) (p := 34) rfl ?_); refine store_event (t := 111) (p := 34) (v := ?vo_w19) (w1 := (((w17.setCell ⟨go16, (x6_2 : Int).toNat * 3, none⟩ (.int .i64 t960)).setCell ⟨go16, (x6_2 : Int).toNat * 3 + 1, none⟩ (.string t961)).setCell ⟨go16, (x6_2 : Int).toNat * 3 + 2, none⟩ (.int .i64 t962))) ?hg ?ho ?hn ?hr ?_; (case ho => rfl); (case hg => rfl); (case hn => rfl); (case hr => first | (go_simp; done) | (go_simp; rfl)); intro w19 hw; have hg : w17.grownBy w19 (some go16) := (by rw [hw]; exact HP18.2); have hp_ : Kd.R k111 111 w19 w.heap.size (fun _ => True) (.slice (some ⟨go16, 0, none⟩) x5_2.length co16) y963 := (by rw [hw, Ny963.out]; exact HP18.1); clear HP18; replace HO_5 := ak (hp_); replace HB := ak ((by rw [hw]; exact below_set (below_set (below_set (HB.out) GB16.out) GB16.out) GB16.out : Below w.heap.size w w19)); clear hg hw hp_))
           go_roundg k2
           case measure => have := HJ2.out; have := HK2.out; omega
           case rel => exact ⟨(y963), (wrap64 (x6_2 + 1)), (by first | rfl | (simp; done) | (simp [*]; done)), H', ⟨by have := HJ2.out; have := HK2.out; omega⟩, ⟨by (with_reducible repeat (first | apply Kd.R_alloc | apply Kd.R_drewN | apply Kd.R_drew)); exact HO_5.out⟩, ⟨vb HB.out⟩⟩
          ·rw [if_neg c15] at H; exact absurd H (by simp)
         ·rw [if_neg c13] at H; exact absurd H (by simp)
        ·rw [if_neg c12] at H; have c12b0 := decide_eq_false c12; clear c12; have H' := ak H; clear H; go_wp2
         go_loopg [7] k2 (fun kq v7 w' => ∃ (x5_3 : List (S111)) (x7_3 : Int), v7 = .int .i64 x7_3 ∧ Aside0 (laws_toMoveSg.l1 kq l0 x5_3 x7_3 = some r) ∧ Aside0 (kq ≤ k2) ∧ Aside0 (Kd.R k111 111 w' w.heap.size (fun _ => True) v957 x5_3) ∧ Aside0 (Below w.heap.size w w'))
         case atStart => exact ⟨(x5_2), ((l0.length : Int)), (by first | rfl | (simp; done) | (simp [*]; done)), H', ⟨Nat.le_refl _⟩, ⟨by (with_reducible repeat (first | apply Kd.R_alloc | apply Kd.R_drewN | apply Kd.R_drew)); exact HO_5.out⟩, ⟨vb HB.out⟩⟩
         case round =>
          clear H'; (try clear c1); (try clear p1); (try clear q1); (try clear hx1); (try clear p2); (try clear c4); (try clear c5); (try clear c6); (try clear p6); (try clear c8); (try clear c8b0); (try clear c8b1); (try clear c9); (try clear c9b0); (try clear c9b1); (try clear p9); (try clear q9); (try clear hx9); (try clear c12); (try clear c12b0); (try clear c13); (try clear c13b0); (try clear c15); (try clear c15b0); (try clear c16); (try clear p16); (try clear q16); (try clear hx16); (try clear hf16); (try clear c18); (try clear hx18); (try clear hf18); (try clear hx16_0); (try clear hx16_1); (try clear hx16_2); (try clear hx18_0); (try clear hx18_1); (try clear hx18_2); (try clear hx959_0); (try clear hx959_1); (try clear hx959_2); (try clear p16); (try clear p2); (try clear p6); (try clear p959); (try clear q16); (try clear q959); obtain ⟨x5_3, x7_3, rfl, HA, HK3, HO_5, HB⟩ := hrel
          cases gk with
          | zero => exact absurd HA.out (by simp [laws_toMoveSg.l1])
          | succ k3 =>
           have H := HA.out; clear HA; simp only [laws_toMoveSg.l1] at H
           by_cases c20 : x7_3 < (x5_3.length : Int)
           ·rw [if_pos c20] at H; have c20b0 := decide_eq_true c20; clear c20; obtain ⟨⟨t964, t965, t966⟩, A210, H⟩ := bnd H; replace H : (if 0 ≤ x7_3 then (laws_toMoveSg.l1 k3 l0 (x5_3.set (x7_3 : Int).toNat (⟨t964, t965, t966⟩ : S111)) (wrap64 (x7_3 + 1))) else (none)) = some r := H; have A21 := ak A210; clear A210; by_cases c22 : 0 ≤ x7_3
            ·rw [if_pos c22] at H; have c22b0 := decide_eq_true c22; clear c22; obtain ⟨y967, hy967⟩ := gen_ ((x5_3.set (x7_3 : Int).toNat (⟨t964, t965, t966⟩ : S111) : List (S111))); rw [← hy967] at H; have Ny967 := ak hy967; clear hy967; have H' := ak H; clear H; obtain ⟨Ao24, co24, eo24⟩ := Kd.R_slice HO_5.out; subst eo24; go_wp2_with (first | ((with_reducible refine at_fn (f := 86) rfl ?_); refine gl (some 45) Try.func86 #[] ?_; (with_reducible refine (laws_fillerMove.calls  t964 t965 t966 _ A21.out).mono ?_); rintro e w25 ⟨rfl, hb⟩; refine ⟨_, rfl, ?_⟩; replace HO_5 := ak (Kd.R_below (vr HO_5.out) hb); replace HB := bs HB hb; (try clear hb); (try clear hb2); (try clear hk); (try clear hi); have p23 : 0 ≤ (x7_3 : Int) := od; have q23 : (x7_3 : Int) < ((x5_3.length : Int) : Int) := od; obtain ⟨go23, co23, eo23, gb23, gl23, cl23, HG23⟩ := Kd.R_form HO_5.out (by omega); (first | cases eo23 | (injection eo23 with ea_ en_ ec_; (first | subst ea_ | (injection ea_ with ea_; subst ea_)); subst ec_; clear en_)); have GB23 := ak gb23; have GG23 := ak HG23; clear gb23 gl23 HG23; obtain ⟨ce23, hcl23, hM23, hcc23, hfr23⟩ := Kd.R_elem HO_5.out z111 (x7_3 : Int) p23 q23; obtain rfl := k111_openM hM23; have hx23_0 : w25.cell? ⟨go23, (x7_3 : Int).toNat * 3, none⟩ = some (.int .i64 ((rd_T111 x5_3 x7_3).f0)) := hcc23 0 _ rfl; have hx23_1 : w25.cell? ⟨go23, (x7_3 : Int).toNat * 3 + 1, none⟩ = some (.string ((rd_T111 x5_3 x7_3).f1)) := hcc23 1 _ rfl; have hx23_2 : w25.cell? ⟨go23, (x7_3 : Int).toNat * 3 + 2, none⟩ = some (.int .i64 ((rd_T111 x5_3 x7_3).f2)) := hcc23 2 _ rfl; have hf23_0 : w25.frozen? ⟨go23, (x7_3 : Int).toNat * 3, none⟩ = false := hfr23 0; have hf23_1 : w25.frozen? ⟨go23, (x7_3 : Int).toNat * 3 + 1, none⟩ = false := hfr23 1; have hf23_2 : w25.frozen? ⟨go23, (x7_3 : Int).toNat * 3 + 2, none⟩ = false := hfr23 2; clear hcl23 hcc23 hfr23 hM23; replace p23 := eq_true p23; replace q23 := eq_true q23; have HX26 := ak (show Kd.R k111 111 w25 w.heap.size (fun _ => True) (.slice (some ⟨go23, 0, none⟩) x5_3.length co24) x5_3 from (vr HO_5.out)); obtain ⟨ce26, hcl26, hM26, hcc26, hfr26⟩ := Kd.R_elem HX26.out z111 (x7_3 : Int) (od) (by have h_ : (x7_3 : Int) < ((x5_3.length : Int) : Int) := od; first | exact h_ | (have e_ := (Kd.R_reads' HO_5.out).1; omega) | simpa using h_); obtain rfl := k111_openM hM26; have HP26 := Kd.R_seg HX26.out (x7_3 : Int) (od) (by have h_ : (x7_3 : Int) < ((x5_3.length : Int) : Int) := od; first | exact h_ | (have e_ := (Kd.R_reads' HO_5.out).1; omega) | simpa using h_) (seg := [.int .i64 t964, .string t965, .int .i64 t966]) (j := 0) hcl26 hcc26 (show 3 ≤ 3 from by decide) (x' := (⟨t964, t965, t966⟩ : S111)) (k111_mkM _ _ _ (⟨t964, t965, t966⟩ : S111) ) (fun _ hk => hk); have hx26_0 := hcc26 0 _ rfl; (try simp only [show (k111).sz = 3 from rfl, Nat.mul_one, Nat.add_zero] at hx26_0); have hf26_0 := hfr26 0; (try simp only [show (k111).sz = 3 from rfl, Nat.mul_one, Nat.add_zero] at hf26_0); have hx26_1 := hcc26 1 _ rfl; (try simp only [show (k111).sz = 3 from rfl, Nat.mul_one, Nat.add_zero] at hx26_1); have hf26_1 := hfr26 1; (try simp only [show (k111).sz = 3 from rfl, Nat.mul_one, Nat.add_zero] at hf26_1); have hx26_2 := hcc26 2 _ rfl; (try simp only [show (k111).sz = 3 from rfl, Nat.mul_one, Nat.add_zero] at hx26_2); have hf26_2 := hfr26 2; (try simp only [show (k111).sz = 3 from rfl, Nat.mul_one, Nat.add_zero] at hf26_2); clear hcl26 hcc26 hfr26 hM26) | ((with_reducible refine gate_store (t := 111) (p := 46) rfl ?_); refine store_event (t := 111) (p := 46) (v := ?vo_w27) (w1 := (((w25.setCell ⟨go23, (x7_3 : Int).toNat * 3, none⟩ (.int .i64 t964)).setCell ⟨go23, (x7_3 : Int).toNat * 3 + 1, none⟩ (.string t965)).setCell ⟨go23, (x7_3 : Int).toNat * 3 + 2, none⟩ (.int .i64 t966))) ?hg ?ho ?hn ?hr ?_; (case ho => rfl); (case hg => rfl); (case hn => rfl); (case hr => first | (go_simp; done) | (go_simp; rfl)); intro w27 hw; have hg : w25.grownBy w27 (some go23) := (by rw [hw]; exact HP26.2); have hp_ : Kd.R k111 111 w27 w.heap.size (fun _ => True) (.slice (some ⟨go23, 0, none⟩) x5_3.length co24) y967 := (by rw [hw, Ny967.out]; exact HP26.1); clear HP26; replace HO_5 := ak (hp_); replace HB := ak ((by rw [hw]; exact below_set (below_set (below_set (HB.out) GB23.out) GB23.out) GB23.out : Below w.heap.size w w27)); clear hg hw hp_))
             go_roundg k3
             case measure => have := HJ2.out; have := HK2.out; have := HK3.out; omega
             case rel => exact ⟨(y967), (wrap64 (x7_3 + 1)), (by first | rfl | (simp; done) | (simp [*]; done)), H', ⟨by have := HJ2.out; have := HK2.out; have := HK3.out; omega⟩, ⟨by (with_reducible repeat (first | apply Kd.R_alloc | apply Kd.R_drewN | apply Kd.R_drew)); exact HO_5.out⟩, ⟨vb HB.out⟩⟩
            ·rw [if_neg c22] at H; exact absurd H (by simp)
           ·rw [if_neg c20] at H; have c20b0 := decide_eq_false c20; clear c20; by_cases c28 : 0 ≤ (l0.length : Int)
            ·rw [if_pos c28] at H; have c28b0 := eq_true c28; have c28b1 : decide (0 ≤ (l0.length : Int)) = true := decide_eq_true c28; clear c28; by_cases c29 : (l0.length : Int) ≤ (x5_3.length : Int)
             ·rw [if_pos c29] at H; have c29b0 := eq_true c29; have c29b1 : decide ((l0.length : Int) ≤ (x5_3.length : Int)) = true := decide_eq_true c29; clear c29; obtain ⟨y968, hy968⟩ : ∃ y_ : List (S111), y_ = (x5_3.take ((l0.length : Int) : Int).toNat) := ⟨_, rfl⟩; have Ny968 := ak hy968; clear hy968; obtain rfl := Option.some.inj H; obtain ⟨Ao30, co30, eo30⟩ := Kd.R_slice HO_5.out; subst eo30; have q31 : ((l0.length : Int) : Int) ≤ ((x5_3.length : Int) : Int) := od; obtain ⟨i031, hi031, _, hsz31, _⟩ := info_parts info111; have hcut31 := cut_to (P := Try.prog) 73 111 .i64 Try.underlying73 hi031 Ao30 x5_3.length co30 (l0.length : Int) (od) q31 (Kd.R_reads' HO_5.out).2.1; have hr31 := Kd.R_take (m := ((l0.length : Int) : Int).toNat) HO_5.out (by omega); have hy31 : y968.length = ((l0.length : Int) : Int).toNat := (by rw [Ny968.out, List.length_take]; omega); rw [← Ny968.out] at hr31; rw [← hy31] at hr31 hcut31; clear hy31 hi031 hsz31; have HO970 := ak hr31; clear hr31; replace q31 := eq_true q31; go_wp2
              go_ret
              exact ⟨Ao30, co30, (by rw [show vis l0.length x5_3.length = y968.length from by rw [Ny968.out, Int.toNat_natCast, List.length_take]; rfl]; rfl), by (with_reducible repeat (first | apply Kd.R_alloc | apply Kd.R_drewN | apply Kd.R_drew)); exact HO_5.out, vb HB.out⟩
             ·rw [if_neg c29] at H; exact absurd H (by simp)
            ·rw [if_neg c28] at H; exact absurd H (by simp)
     ·rw [if_neg c9] at H; exact absurd H (by simp)
    ·rw [if_neg c8] at H; exact absurd H (by simp)
def laws_toMoveS.conv (x : S110) : S111 := ⟨x.f0, x.f1, x.f2⟩
theorem laws_toMoveS.w1 {i n : Nat} (h : i < n) (hn : n ≤ 4000000) : wrap64 ((i : Int) + 1) = ((i + 1 : Nat) : Int) := by unfold wrap64; omega
theorem laws_toMoveS.l1_eval (x0 : List S110) (d : Nat) : ∀ (k : Nat) (F : List S111) (i : Nat), x0.length ≤ i → F.length = i + d → F.length ≤ 4000000 → d < k →
  laws_toMoveSg.l1 k x0 F (i : Int) = some (F.take i ++ List.replicate d (⟨(-7000000000000000101), (⟨#[126, 115, 112, 97, 114, 101, 126]⟩ : ByteArray), (-7000000000000000101)⟩ : S111)) := by
 induction d with
 | zero =>
  intro k F i h0 h1 h2 h3; obtain ⟨k, rfl⟩ : ∃ m, k = m + 1 := ⟨k - 1, by omega⟩; simp only [laws_toMoveSg.l1]
  rw [if_neg (by omega), if_pos (by omega), if_pos (by omega)]; simp [List.take_of_length_le (show F.length ≤ i by omega)]
 | succ d ih =>
  intro k F i h0 h1 h2 h3; obtain ⟨k, rfl⟩ : ∃ m, k = m + 1 := ⟨k - 1, by omega⟩; have e := ih k (F.set i (⟨(-7000000000000000101), (⟨#[126, 115, 112, 97, 114, 101, 126]⟩ : ByteArray), (-7000000000000000101)⟩ : S111)) (i + 1) (by omega) (by simp; omega) (by simpa using h2) (by omega); simp only [laws_toMoveSg.l1, laws_fillerMove.f, Option.bind_some]
  rw [if_pos (by omega), if_pos (by omega), laws_toMoveS.w1 (n := F.length) (by omega) h2, Int.toNat_natCast]; refine Eq.trans e ?_; rw [take_succ_set F i (⟨(-7000000000000000101), (⟨#[126, 115, 112, 97, 114, 101, 126]⟩ : ByteArray), (-7000000000000000101)⟩ : S111) (by omega), List.append_assoc]; rfl
theorem laws_toMoveS.l0_eval (x0 : List S110) (d : Nat) : ∀ (k : Nat) (F : List S111) (i : Nat), x0.length = i + d → x0.length ≤ F.length → F.length ≤ 4000000 → d + (F.length - x0.length) + 1 < k →
  laws_toMoveSg.l0 k x0 F (i : Int) = some (F.take i ++ (x0.drop i).map laws_toMoveS.conv ++ List.replicate (F.length - x0.length) (⟨(-7000000000000000101), (⟨#[126, 115, 112, 97, 114, 101, 126]⟩ : ByteArray), (-7000000000000000101)⟩ : S111)) := by
 induction d with
 | zero =>
  intro k F i h0 h1 h2 h3; obtain ⟨k, rfl⟩ : ∃ m, k = m + 1 := ⟨k - 1, by omega⟩; simp only [laws_toMoveSg.l0]
  have hi : i = x0.length := by omega
  subst hi; rw [if_neg (by omega), laws_toMoveS.l1_eval x0 (F.length - x0.length) k F x0.length (Nat.le_refl _) (by omega) h2 (by omega)]; simp
 | succ d ih =>
  intro k F i h0 h1 h2 h3; obtain ⟨k, rfl⟩ : ∃ m, k = m + 1 := ⟨k - 1, by omega⟩; have hlt : i < x0.length := by omega
  have e := ih k (F.set i (laws_toMoveS.conv x0[i])) (i + 1) (by omega) (by simpa using h1) (by simpa using h2) (by simp; omega); simp only [laws_toMoveSg.l0, laws_toMove.f, Option.bind_some]
  have hr : rd_T110 x0 (i : Int) = x0[i] := by simp [rd_T110, hlt]
  rw [if_pos (by omega), if_pos (by omega), if_pos (by omega), laws_toMoveS.w1 (n := F.length) (by omega) h2, Int.toNat_natCast, hr]; refine Eq.trans e ?_; rw [take_succ_set F i (laws_toMoveS.conv x0[i]) (by omega), List.length_set, List.drop_eq_getElem_cons hlt]; simp only [List.map_cons, List.append_assoc, List.cons_append, List.nil_append]
theorem laws_toMoveS.g_eval (l0 : List S110) (a1 : Bool) (h : l0.length ≤ 1000000) : ∃ k, laws_toMoveSg.f k l0 a1 = some (if a1 = true ∧ l0 = [] then [] else full (l0.map laws_toMoveS.conv)) := by
 obtain ⟨K, hK⟩ : ∃ K, K = l0.length + roomN l0.length + 5 := ⟨_, rfl⟩; refine ⟨K + 1, ?_⟩; have hr := room_f l0.length; have hl : roomN l0.length ≤ 1000000 := by unfold roomN; (repeat' split) <;> omega
 have hj : laws_toMoveSg.j0 (K + 1) l0 false = some (full (l0.map laws_toMoveS.conv)) := by
  simp only [laws_toMoveSg.j0]
  rw [if_neg (by decide), hr]; rw [Option.bind_some]; have hw : wrap64 ((l0.length : Int) + ((roomN l0.length : Nat) : Int)) = ((l0.length + roomN l0.length : Nat) : Int) := by unfold wrap64; omega
  rw [hw, if_pos (by omega), if_pos (by omega), Int.toNat_natCast]; have e := laws_toMoveS.l0_eval l0 l0.length K (List.replicate (l0.length + roomN l0.length) z111) 0 (by omega) (by simp) (by simp <;> omega) (by simp <;> omega); refine Eq.trans e ?_; simp [full, Fil.fil]
  try rfl
 unfold laws_toMoveSg.f
 by_cases h1 : a1 = true
 ·rw [if_pos h1]; by_cases h2 : l0 = []
  ·subst h2; rw [if_pos ⟨h1, rfl⟩]; simp only [laws_toMoveSg.j0]
   rw [if_pos (by decide)]
  ·rw [if_neg (fun h3 => h2 h3.2)]
   have h3 : ((l0.length : Int) == 0) = false := by
    have : l0.length ≠ 0 := fun h4 => h2 (List.length_eq_zero_iff.1 h4)
    rw [beq_eq_false_iff_ne]; omega
   rw [h3]; exact hj
 ·rw [if_neg h1, if_neg (fun h2 => h1 h2.1)]; exact hj
def laws_toMoveS.f (_k : Nat) (l0 : List S110) (_a1 : Bool) : Option (List S111) := if l0.length ≤ 1000000 then some (l0.map laws_toMoveS.conv) else none
theorem laws_toMoveS.mono : ∀ a0 a1 k, LeO (laws_toMoveS.f k a0 a1) (laws_toMoveS.f (k + 1) a0 a1) := fun _ _ _ => LeO.refl _
theorem laws_toMoveS.callsF (k : Nat) (A0 : Option Addr) (c0 : Nat) (l0 : List S110) (r : List S111) (w : World) (hr0 : Kd.C k110 w A0 l0.length l0) (hc0 : l0.length ≤ c0) (h : laws_toMoveS.f k l0 false = some r) :
  Calls Try.prog 53 #[.slice A0 l0.length c0, .bool false] w fun e w' => ∃ v0_ : Value, e = .returned (v0_) ∧ Kd.P k111 111 w' w.heap.size (fun _ => True) v0_ r ∧ Below w.heap.size w w' := by
 unfold laws_toMoveS.f at h
 split at h
 ·rename_i hl
  obtain rfl := Option.some.inj h; obtain ⟨k', hk⟩ := laws_toMoveS.g_eval l0 false hl; rw [if_neg (fun h2 => absurd h2.1 (by decide))] at hk; refine (laws_toMoveSg.calls k' A0 c0 l0 false _ w hr0 hc0 hk).mono ?_; rintro e w' ⟨A_, c_, rfl, h1, h2⟩; refine ⟨_, rfl, ⟨fun _ _ => trivial, A_, c_, ?_, h1⟩, h2⟩; first | (rw [vis_le (by simp [full])]; done) | (rw [vis_le (by simp [full])]; simp)
 ·exact absurd h (by simp)
theorem laws_toMoveS.calls (k : Nat) (A0 : Option Addr) (c0 : Nat) (l0 : List S110) (a1 : Bool) (r : List S111) (w : World) (hr0 : Kd.C k110 w A0 l0.length l0) (hc0 : l0.length ≤ c0) (h : laws_toMoveS.f k l0 a1 = some r) :
  Calls Try.prog 53 #[.slice A0 l0.length c0, .bool a1] w fun e w' => ∃ v0_ : Value, e = .returned (v0_) ∧ Kd.R k111 111 w' w.heap.size (fun _ => True) v0_ r ∧ Below w.heap.size w w' := by
 unfold laws_toMoveS.f at h
 split at h
 ·rename_i hl
  obtain rfl := Option.some.inj h; obtain ⟨k', hk⟩ := laws_toMoveS.g_eval l0 a1 hl; refine (laws_toMoveSg.calls k' A0 c0 l0 a1 _ w hr0 hc0 hk).mono ?_; rintro e w' ⟨A_, c_, rfl, h1, h2⟩; refine ⟨_, rfl, ?_, h2⟩; by_cases hz : a1 = true ∧ l0 = []
  ·obtain ⟨rfl, rfl⟩ := hz; rw [if_pos ⟨rfl, rfl⟩] at h1 ⊢; simpa [vis_zero] using h1
  ·rw [if_neg hz] at h1 ⊢; have := Kd.R_take h1 (m := l0.length) (by simp [full]); rw [vis_le (by simp [full])]; simpa [full] using this
 ·exact absurd h (by simp)

/-! ### laws_toStringS: function 54 -/
mutual
def laws_toStringSg.j0 : Nat → List ByteArray → Bool → Option (List ByteArray)
 | 0, _, _ => none
 | k + 1, x0, x13 => if x13 = true then (some ([] : List ByteArray)) else ((laws_roomBehind.f (x0.length : Int)).bind fun t971 => (if 0 ≤ (wrap64 ((x0.length : Int) + t971)) then (if (wrap64 ((x0.length : Int) + t971) : Int).toNat ≤ 17592186044416 then (laws_toStringSg.l0 k x0 (List.replicate (wrap64 ((x0.length : Int) + t971) : Int).toNat (⟨#[]⟩ : ByteArray)) 0) else (none)) else (none)))
def laws_toStringSg.l0 : Nat → List ByteArray → List ByteArray → Int → Option (List ByteArray)
 | 0, _, _, _ => none
 | k + 1, x0, x5, x6 => if x6 < (x0.length : Int) then (if 0 ≤ x6 then (if x6 < (x5.length : Int) then (laws_toStringSg.l0 k x0 (x5.set (x6 : Int).toNat (rdOf ByteArray.empty x0 x6)) (wrap64 (x6 + 1))) else (none)) else (none)) else (laws_toStringSg.l1 k x0 x5 (x0.length : Int))
def laws_toStringSg.l1 : Nat → List ByteArray → List ByteArray → Int → Option (List ByteArray)
 | 0, _, _, _ => none
 | k + 1, x0, x5, x7 => if x7 < (x5.length : Int) then (if 0 ≤ x7 then (laws_toStringSg.l1 k x0 (x5.set (x7 : Int).toNat (⟨#[126, 115, 112, 97, 114, 101, 126]⟩ : ByteArray)) (wrap64 (x7 + 1))) else (none)) else (if 0 ≤ (x0.length : Int) then (if (x0.length : Int) ≤ (x5.length : Int) then (some x5) else (none)) else (none))
end
def laws_toStringSg.f (k : Nat) (l0 : List ByteArray) (a1 : Bool) : Option (List ByteArray) := if a1 = true then (laws_toStringSg.j0 k l0 ((l0.length : Int) == 0)) else (laws_toStringSg.j0 k l0 false)
theorem laws_toStringSg.mono_l : ∀ k, (∀ y0 y1, LeO (laws_toStringSg.j0 k y0 y1) (laws_toStringSg.j0 (k + 1) y0 y1)) ∧ (∀ y0 y1 y2, LeO (laws_toStringSg.l0 k y0 y1 y2) (laws_toStringSg.l0 (k + 1) y0 y1 y2)) ∧ (∀ y0 y1 y2, LeO (laws_toStringSg.l1 k y0 y1 y2) (laws_toStringSg.l1 (k + 1) y0 y1 y2))
 | 0 => ⟨fun _ _ r h => by simp [laws_toStringSg.j0] at h, fun _ _ _ r h => by simp [laws_toStringSg.l0] at h, fun _ _ _ r h => by simp [laws_toStringSg.l1] at h⟩
 | k + 1 => by
  obtain ⟨ih0, ih1, ih2⟩ := laws_toStringSg.mono_l k; refine ⟨?_, ?_, ?_⟩
  ·intro y0 y1; unfold laws_toStringSg.j0
   repeat' first | (with_reducible first | exact ih0 _ _ | exact ih1 _ _ _ | exact ih2 _ _ _ | exact LeO.refl _ | exact LeO.none _ | refine LeO.ite ?_ ?_ | refine LeO.bind ?_ (fun _ => ?_)) | exact ih0 _ _ | exact ih1 _ _ _ | exact ih2 _ _ _ | exact LeO.none _ | refine LeO.ite ?_ ?_ | refine LeO.bind ?_ (fun _ => ?_)
  ·intro y0 y1 y2; unfold laws_toStringSg.l0
   repeat' first | (with_reducible first | exact ih0 _ _ | exact ih1 _ _ _ | exact ih2 _ _ _ | exact LeO.refl _ | exact LeO.none _ | refine LeO.ite ?_ ?_ | refine LeO.bind ?_ (fun _ => ?_)) | exact ih0 _ _ | exact ih1 _ _ _ | exact ih2 _ _ _ | exact LeO.none _ | refine LeO.ite ?_ ?_ | refine LeO.bind ?_ (fun _ => ?_)
  ·intro y0 y1 y2; unfold laws_toStringSg.l1
   repeat' first | (with_reducible first | exact ih0 _ _ | exact ih1 _ _ _ | exact ih2 _ _ _ | exact LeO.refl _ | exact LeO.none _ | refine LeO.ite ?_ ?_ | refine LeO.bind ?_ (fun _ => ?_)) | exact ih0 _ _ | exact ih1 _ _ _ | exact ih2 _ _ _ | exact LeO.none _ | refine LeO.ite ?_ ?_ | refine LeO.bind ?_ (fun _ => ?_)
theorem laws_toStringSg.mono : ∀ a0 a1 k, LeO (laws_toStringSg.f k a0 a1) (laws_toStringSg.f (k + 1) a0 a1) := by
 intro a0 a1 k; obtain ⟨ih0, ih1, ih2⟩ := laws_toStringSg.mono_l k; unfold laws_toStringSg.f
 repeat' first | (with_reducible first | exact ih0 _ _ | exact ih1 _ _ _ | exact ih2 _ _ _ | exact LeO.refl _ | exact LeO.none _ | refine LeO.ite ?_ ?_ | refine LeO.bind ?_ (fun _ => ?_)) | exact ih0 _ _ | exact ih1 _ _ _ | exact ih2 _ _ _ | exact LeO.none _ | refine LeO.ite ?_ ?_ | refine LeO.bind ?_ (fun _ => ?_)
set_option maxHeartbeats 8000000 in
set_option maxRecDepth 100000 in
theorem laws_toStringSg.calls (k : Nat) (A0 : Option Addr) (c0 : Nat) (l0 : List ByteArray) (a1 : Bool) (r : List ByteArray) (w : World) (hr0 : Kd.C Kd.string w A0 l0.length l0) (hc0 : l0.length ≤ c0) (h : laws_toStringSg.f k l0 a1 = some r) :
  Calls Try.prog 54 #[.slice A0 l0.length c0, .bool a1] w fun e w' => ∃ (A_ : Option Addr) (c_ : Nat), e = .returned (.slice A_ (vis l0.length r.length) c_) ∧ Kd.R Kd.string 9 w' w.heap.size (fun _ => True) (.slice A_ r.length c_) r ∧ Below w.heap.size w w' := by
 have HR0 := ak hr0; have HC0 := ak hc0; clear hr0 hc0; have HB := ak (Below.refl w.heap.size w); unfold laws_toStringSg.f at h; have H := h; clear h; have HC3 := ak H; clear H; go_enter Try.func54, Try.ntmps54; go_upto_region 1 with (fail)
 go_cut [13] (fun v13 wc => ∃ (kq : Nat) (x13_2 : Bool), v13 = .bool x13_2 ∧ Aside0 (laws_toStringSg.j0 kq l0 x13_2 = some r) ∧ Aside0 (kq ≤ k) ∧ Aside0 (Below w.heap.size w wc))
 case first =>
  have H := HC3.out; clear HC3; by_cases c4 : a1 = true
  ·subst c4; rw [if_pos rfl] at H; have H' := ak H; clear H; go_wp2
   go_meet
   case rel => exact ⟨_, (((l0.length : Int) == 0)), (by first | rfl | (simp; done) | (simp [*]; done)), H', ⟨by first | omega | exact Nat.le_refl _⟩, ⟨vb HB.out⟩⟩
  ·replace c4 := Bool.eq_false_iff.mpr c4; subst c4; rw [if_neg nf] at H; have H' := ak H; clear H; go_wp2
   go_meet
   case rel => exact ⟨_, (false), (by first | rfl | (simp; done) | (simp [*]; done)), H', ⟨by first | omega | exact Nat.le_refl _⟩, ⟨vb HB.out⟩⟩
 case rest =>
  clear HC3; (try clear p2); (try clear c4); obtain ⟨kq, x13_2, rfl, HA, HJ2, HB⟩ := hcut
  cases kq with
  | zero => exact absurd HA.out (by simp [laws_toStringSg.j0])
  | succ kj2 =>
   have H := HA.out; clear HA; simp only [laws_toStringSg.j0] at H
   by_cases c5 : x13_2 = true
   ·subst c5; rw [if_pos rfl] at H; obtain rfl := Option.some.inj H; go_wp2
    go_ret
    exact ⟨none, 0, by first | (rw [vis_zero]; rfl) | (simp only [List.length_nil, vis_zero]; rfl), Kd.R_nil _ _ _ _ _, vb HB.out⟩
   ·replace c5 := Bool.eq_false_iff.mpr c5; subst c5; rw [if_neg nf] at H; obtain ⟨t971, A6, H⟩ := bnk H; obtain ⟨ji7, hji7⟩ : ∃ j_ : Int, (wrap64 ((l0.length : Int) + t971)) = j_ := ⟨_, rfl⟩; replace H : (if 0 ≤ (ji7) then (if (ji7 : Int).toNat ≤ 17592186044416 then (laws_toStringSg.l0 kj2 l0 (List.replicate (ji7 : Int).toNat (⟨#[]⟩ : ByteArray)) 0) else (none)) else (none)) = some r := by first | (rw [hji7] at H; exact H) | (simp only [hji7] at H ⊢; exact H)
    (try rw [hji7] at A6)
    have hji7w : (IntKind.i64.wrap ((l0.length : Int) + t971)) = ji7 := (i64_w _).trans hji7; by_cases c8 : 0 ≤ (ji7)
    ·rw [if_pos c8] at H; have c8b0 := eq_true c8; have c8b1 : decide (0 ≤ (ji7)) = true := decide_eq_true c8; clear c8; by_cases c9 : (ji7 : Int).toNat ≤ 17592186044416
     ·rw [if_pos c9] at H; have c9b0 := eq_true c9; have c9b1 : decide ((ji7 : Int).toNat ≤ 17592186044416) = true := decide_eq_true c9; clear c9; obtain ⟨y972, hy972⟩ := gen_ ((List.replicate (ji7 : Int).toNat (⟨#[]⟩ : ByteArray) : List ByteArray)); rw [← hy972] at H; have Ny972 := ak hy972; clear hy972; have H' := ak H; clear H; go_wp2_with (first | ((with_reducible refine at_fn (f := 66) rfl ?_); refine gl (some 18) Try.func66 #[.int .i64 (l0.length : Int)] ?_; (with_reducible refine (laws_roomBehind.calls (l0.length : Int) t971 _ A6.out).mono ?_); rintro e w' ⟨rfl, ⟨nd, rfl⟩⟩; refine ⟨_, rfl, ?_⟩) | ((with_reducible refine gate_dst (N := 20) rfl ?_); (try (refine gate_guard (by rfl) ?_; dsimp only)); refine Kd.R_make Kd.string _ 9 rfl (N := 20) rfl 69 _ _ rfl ji7 rfl rfl Try.underlying69 (.string ⟨#[]⟩) 16 info9 rfl (by decide) (by omega) (⟨#[]⟩ : ByteArray) (ok := fun _ => True) (okp := fun _ => True) rfl (fun _ hk => hk) trivial (od) (Nat.le_trans (Nat.mul_le_mul_right _ (od : ji7.toNat ≤ 17592186044416)) (by omega)) (Below.refl _ _) (Nat.le_refl _) ?_; intro v973 w10 ho11 hb hg_ hnew_; clear hg_ hnew_; (first | rw [← Ny972.out] at ho11 | (simp only [Int.reduceToNat] at ho11; rw [← Ny972.out] at ho11)); have HO974 := ak (Kd.R_lower ho11 (below_size (vb HB.out))); replace HB := bs HB hb; clear hb ho11))
      go_loopg [6] kj2 (fun kq v6 w' => ∃ (x5_2 : List ByteArray) (x6_2 : Int), v6 = .int .i64 x6_2 ∧ Aside0 (laws_toStringSg.l0 kq l0 x5_2 x6_2 = some r) ∧ Aside0 (kq ≤ kj2) ∧ Aside0 (Kd.R Kd.string 9 w' w.heap.size (fun _ => True) v973 x5_2) ∧ Aside0 (Below w.heap.size w w'))
      case atStart => exact ⟨(y972), (0), (by first | rfl | (simp; done) | (simp [*]; done)), H', ⟨Nat.le_refl _⟩, ⟨by (with_reducible repeat (first | apply Kd.R_alloc | apply Kd.R_drewN | apply Kd.R_drew)); exact HO974.out⟩, ⟨vb HB.out⟩⟩
      case round =>
       clear H'; (try clear p2); (try clear c4); (try clear c5); (try clear c6); (try clear p6); (try clear c8); (try clear c8b0); (try clear c8b1); (try clear c9); (try clear c9b0); (try clear c9b1); (try clear p2); obtain ⟨x5_2, x6_2, rfl, HA, HK2, HO_5, HB⟩ := hrel
       cases gk with
       | zero => exact absurd HA.out (by simp [laws_toStringSg.l0])
       | succ k2 =>
        have H := HA.out; clear HA; simp only [laws_toStringSg.l0] at H
        by_cases c12 : x6_2 < (l0.length : Int)
        ·rw [if_pos c12] at H; have c12b0 := decide_eq_true c12; clear c12; by_cases c13 : 0 ≤ x6_2
         ·rw [if_pos c13] at H; have c13b0 := decide_eq_true c13; clear c13; by_cases c14 : x6_2 < (x5_2.length : Int)
          ·rw [if_pos c14] at H; have c14b0 := decide_eq_true c14; clear c14; obtain ⟨y976, hy976⟩ := gen_ ((x5_2.set (x6_2 : Int).toNat (rdOf ByteArray.empty l0 x6_2) : List ByteArray)); rw [← hy976] at H; have Ny976 := ak hy976; clear hy976; have H' := ak H; clear H; have p975 : 0 ≤ (x6_2 : Int) := od; have q975 : x6_2 < (l0.length : Int) := od; obtain ⟨ad975, e975, hx975_0⟩ := Kd.at_string HR0.out x6_2 p975 q975
           cases e975; replace hx975_0 := cb HB.out hx975_0; replace p975 := eq_true p975; replace q975 := eq_true q975; have p15 : 0 ≤ (x6_2 : Int) := od; have q15 : (x6_2 : Int) < ((x5_2.length : Int) : Int) := od; obtain ⟨go15, co15, eo15, gb15, gl15, cl15, HG15⟩ := Kd.R_form HO_5.out (by omega); (first | cases eo15 | (injection eo15 with ea_ en_ ec_; (first | subst ea_ | (injection ea_ with ea_; subst ea_)); subst ec_; clear en_))
           have GB15 := ak gb15; have GG15 := ak HG15; clear gb15 gl15 HG15; obtain ⟨hx15_0, hf15_0⟩ := Kd.R_celln (⟨#[]⟩ : ByteArray) HO_5.out (x6_2 : Int) p15 q15; replace p15 := eq_true p15; replace q15 := eq_true q15; have HP16 := Kd.R_putg HO_5.out (x6_2 : Int) (rdOf ByteArray.empty l0 x6_2); go_wp2_with (first | ((with_reducible refine gate_store (t := 9) (p := 33) rfl ?_); refine store_event (t := 9) (p := 33) (v := ?vo_w17) (w1 := (wr.setCell ⟨go15, (x6_2 : Int).toNat, none⟩ (.string (rdOf ByteArray.empty l0 x6_2)))) ?hg ?ho ?hn ?hr ?_; (case ho => rfl); (case hg => rfl); (case hn => rfl); (case hr => first | (go_simp; done) | (go_simp; rfl)); intro w17 hw; have hg : wr.grownBy w17 (some go15) := (by rw [hw]; exact HP16.2); have hp_ : Kd.R Kd.string 9 w17 w.heap.size (fun _ => True) (.slice (some ⟨go15, 0, none⟩) x5_2.length co15) y976 := (by rw [hw, Ny976.out]; exact HP16.1); clear HP16; replace HO_5 := ak (hp_); replace HB := ak ((by rw [hw]; exact below_set (HB.out) GB15.out : Below w.heap.size w w17)); clear hg hw hp_))
           go_roundg k2
           case measure => have := HJ2.out; have := HK2.out; omega
           case rel => exact ⟨(y976), (wrap64 (x6_2 + 1)), (by first | rfl | (simp; done) | (simp [*]; done)), H', ⟨by have := HJ2.out; have := HK2.out; omega⟩, ⟨by (with_reducible repeat (first | apply Kd.R_alloc | apply Kd.R_drewN | apply Kd.R_drew)); exact HO_5.out⟩, ⟨vb HB.out⟩⟩
          ·rw [if_neg c14] at H; exact absurd H (by simp)
         ·rw [if_neg c13] at H; exact absurd H (by simp)
        ·rw [if_neg c12] at H; have c12b0 := decide_eq_false c12; clear c12; have H' := ak H; clear H; go_wp2
         go_loopg [7] k2 (fun kq v7 w' => ∃ (x5_3 : List ByteArray) (x7_3 : Int), v7 = .int .i64 x7_3 ∧ Aside0 (laws_toStringSg.l1 kq l0 x5_3 x7_3 = some r) ∧ Aside0 (kq ≤ k2) ∧ Aside0 (Kd.R Kd.string 9 w' w.heap.size (fun _ => True) v973 x5_3) ∧ Aside0 (Below w.heap.size w w'))
         case atStart => exact ⟨(x5_2), ((l0.length : Int)), (by first | rfl | (simp; done) | (simp [*]; done)), H', ⟨Nat.le_refl _⟩, ⟨by (with_reducible repeat (first | apply Kd.R_alloc | apply Kd.R_drewN | apply Kd.R_drew)); exact HO_5.out⟩, ⟨vb HB.out⟩⟩
         case round =>
          clear H'; (try clear c1); (try clear p1); (try clear q1); (try clear hx1); (try clear p2); (try clear c4); (try clear c5); (try clear c6); (try clear p6); (try clear c8); (try clear c8b0); (try clear c8b1); (try clear c9); (try clear c9b0); (try clear c9b1); (try clear p9); (try clear q9); (try clear hx9); (try clear c12); (try clear c12b0); (try clear c13); (try clear c13b0); (try clear c14); (try clear c14b0); (try clear p15); (try clear q15); (try clear hx15); (try clear hf15); (try clear hx15_0); (try clear hx975_0); (try clear p15); (try clear p2); (try clear p6); (try clear p975); (try clear q15); (try clear q975); obtain ⟨x5_3, x7_3, rfl, HA, HK3, HO_5, HB⟩ := hrel
          cases gk with
          | zero => exact absurd HA.out (by simp [laws_toStringSg.l1])
          | succ k3 =>
           have H := HA.out; clear HA; simp only [laws_toStringSg.l1] at H
           by_cases c18 : x7_3 < (x5_3.length : Int)
           ·rw [if_pos c18] at H; have c18b0 := decide_eq_true c18; clear c18; by_cases c19 : 0 ≤ x7_3
            ·rw [if_pos c19] at H; have c19b0 := decide_eq_true c19; clear c19; obtain ⟨y977, hy977⟩ := gen_ ((x5_3.set (x7_3 : Int).toNat (⟨#[126, 115, 112, 97, 114, 101, 126]⟩ : ByteArray) : List ByteArray)); rw [← hy977] at H; have Ny977 := ak hy977; clear hy977; have H' := ak H; clear H; obtain ⟨Ao21, co21, eo21⟩ := Kd.R_slice HO_5.out; subst eo21; have p20 : 0 ≤ (x7_3 : Int) := od; have q20 : (x7_3 : Int) < ((x5_3.length : Int) : Int) := od; obtain ⟨go20, co20, eo20, gb20, gl20, cl20, HG20⟩ := Kd.R_form HO_5.out (by omega); (first | cases eo20 | (injection eo20 with ea_ en_ ec_; (first | subst ea_ | (injection ea_ with ea_; subst ea_)); subst ec_; clear en_))
             have GB20 := ak gb20; have GG20 := ak HG20; clear gb20 gl20 HG20; obtain ⟨hx20_0, hf20_0⟩ := Kd.R_celln (⟨#[]⟩ : ByteArray) HO_5.out (x7_3 : Int) p20 q20; replace p20 := eq_true p20; replace q20 := eq_true q20; have HP22 := Kd.R_putg HO_5.out (x7_3 : Int) (⟨#[126, 115, 112, 97, 114, 101, 126]⟩ : ByteArray); go_wp2_with (first | ((with_reducible refine gate_store (t := 9) (p := 44) rfl ?_); refine store_event (t := 9) (p := 44) (v := ?vo_w23) (w1 := (wr.setCell ⟨go20, (x7_3 : Int).toNat, none⟩ (.string (⟨#[126, 115, 112, 97, 114, 101, 126]⟩ : ByteArray)))) ?hg ?ho ?hn ?hr ?_; (case ho => rfl); (case hg => rfl); (case hn => rfl); (case hr => first | (go_simp; done) | (go_simp; rfl)); intro w23 hw; have hg : wr.grownBy w23 (some go20) := (by rw [hw]; exact HP22.2); have hp_ : Kd.R Kd.string 9 w23 w.heap.size (fun _ => True) (.slice (some ⟨go20, 0, none⟩) x5_3.length co21) y977 := (by rw [hw, Ny977.out]; exact HP22.1); clear HP22; replace HO_5 := ak (hp_); replace HB := ak ((by rw [hw]; exact below_set (HB.out) GB20.out : Below w.heap.size w w23)); clear hg hw hp_))
             go_roundg k3
             case measure => have := HJ2.out; have := HK2.out; have := HK3.out; omega
             case rel => exact ⟨(y977), (wrap64 (x7_3 + 1)), (by first | rfl | (simp; done) | (simp [*]; done)), H', ⟨by have := HJ2.out; have := HK2.out; have := HK3.out; omega⟩, ⟨by (with_reducible repeat (first | apply Kd.R_alloc | apply Kd.R_drewN | apply Kd.R_drew)); exact HO_5.out⟩, ⟨vb HB.out⟩⟩
            ·rw [if_neg c19] at H; exact absurd H (by simp)
           ·rw [if_neg c18] at H; have c18b0 := decide_eq_false c18; clear c18; by_cases c24 : 0 ≤ (l0.length : Int)
            ·rw [if_pos c24] at H; have c24b0 := eq_true c24; have c24b1 : decide (0 ≤ (l0.length : Int)) = true := decide_eq_true c24; clear c24; by_cases c25 : (l0.length : Int) ≤ (x5_3.length : Int)
             ·rw [if_pos c25] at H; have c25b0 := eq_true c25; have c25b1 : decide ((l0.length : Int) ≤ (x5_3.length : Int)) = true := decide_eq_true c25; clear c25; obtain ⟨y978, hy978⟩ : ∃ y_ : List ByteArray, y_ = (x5_3.take ((l0.length : Int) : Int).toNat) := ⟨_, rfl⟩; have Ny978 := ak hy978; clear hy978; obtain rfl := Option.some.inj H; obtain ⟨Ao26, co26, eo26⟩ := Kd.R_slice HO_5.out; subst eo26; have q27 : ((l0.length : Int) : Int) ≤ ((x5_3.length : Int) : Int) := od; obtain ⟨i027, hi027, _, hsz27, _⟩ := info_parts info9; have hcut27 := cut_to (P := Try.prog) 69 9 .i64 Try.underlying69 hi027 Ao26 x5_3.length co26 (l0.length : Int) (od) q27 (Kd.R_reads' HO_5.out).2.1; have hr27 := Kd.R_take (m := ((l0.length : Int) : Int).toNat) HO_5.out (by omega); have hy27 : y978.length = ((l0.length : Int) : Int).toNat := (by rw [Ny978.out, List.length_take]; omega); rw [← Ny978.out] at hr27; rw [← hy27] at hr27 hcut27; clear hy27 hi027 hsz27; have HO980 := ak hr27; clear hr27; replace q27 := eq_true q27; go_wp2
              go_ret
              exact ⟨Ao26, co26, (by rw [show vis l0.length x5_3.length = y978.length from by rw [Ny978.out, Int.toNat_natCast, List.length_take]; rfl]; rfl), by (with_reducible repeat (first | apply Kd.R_alloc | apply Kd.R_drewN | apply Kd.R_drew)); exact HO_5.out, vb HB.out⟩
             ·rw [if_neg c25] at H; exact absurd H (by simp)
            ·rw [if_neg c24] at H; exact absurd H (by simp)
     ·rw [if_neg c9] at H; exact absurd H (by simp)
    ·rw [if_neg c8] at H; exact absurd H (by simp)
theorem laws_toStringS.w1 {i n : Nat} (h : i < n) (hn : n ≤ 4000000) : wrap64 ((i : Int) + 1) = ((i + 1 : Nat) : Int) := by unfold wrap64; omega
theorem laws_toStringS.l1_eval (x0 : List ByteArray) (d : Nat) : ∀ (k : Nat) (F : List ByteArray) (i : Nat), x0.length ≤ i → F.length = i + d → F.length ≤ 4000000 → d < k →
  laws_toStringSg.l1 k x0 F (i : Int) = some (F.take i ++ List.replicate d (⟨#[126, 115, 112, 97, 114, 101, 126]⟩ : ByteArray)) := by
 induction d with
 | zero =>
  intro k F i h0 h1 h2 h3; obtain ⟨k, rfl⟩ : ∃ m, k = m + 1 := ⟨k - 1, by omega⟩; simp only [laws_toStringSg.l1]
  rw [if_neg (by omega), if_pos (by omega), if_pos (by omega)]; simp [List.take_of_length_le (show F.length ≤ i by omega)]
 | succ d ih =>
  intro k F i h0 h1 h2 h3; obtain ⟨k, rfl⟩ : ∃ m, k = m + 1 := ⟨k - 1, by omega⟩; have e := ih k (F.set i (⟨#[126, 115, 112, 97, 114, 101, 126]⟩ : ByteArray)) (i + 1) (by omega) (by simp; omega) (by simpa using h2) (by omega); simp only [laws_toStringSg.l1]
  rw [if_pos (by omega), if_pos (by omega), laws_toStringS.w1 (n := F.length) (by omega) h2, Int.toNat_natCast]; refine Eq.trans e ?_; rw [take_succ_set F i (⟨#[126, 115, 112, 97, 114, 101, 126]⟩ : ByteArray) (by omega), List.append_assoc]; rfl
theorem laws_toStringS.l0_eval (x0 : List ByteArray) (d : Nat) : ∀ (k : Nat) (F : List ByteArray) (i : Nat), x0.length = i + d → x0.length ≤ F.length → F.length ≤ 4000000 → d + (F.length - x0.length) + 1 < k →
  laws_toStringSg.l0 k x0 F (i : Int) = some (F.take i ++ (x0.drop i) ++ List.replicate (F.length - x0.length) (⟨#[126, 115, 112, 97, 114, 101, 126]⟩ : ByteArray)) := by
 induction d with
 | zero =>
  intro k F i h0 h1 h2 h3; obtain ⟨k, rfl⟩ : ∃ m, k = m + 1 := ⟨k - 1, by omega⟩; simp only [laws_toStringSg.l0]
  have hi : i = x0.length := by omega
  subst hi; rw [if_neg (by omega), laws_toStringS.l1_eval x0 (F.length - x0.length) k F x0.length (Nat.le_refl _) (by omega) h2 (by omega)]; simp
 | succ d ih =>
  intro k F i h0 h1 h2 h3; obtain ⟨k, rfl⟩ : ∃ m, k = m + 1 := ⟨k - 1, by omega⟩; have hlt : i < x0.length := by omega
  have e := ih k (F.set i x0[i]) (i + 1) (by omega) (by simpa using h1) (by simpa using h2) (by simp; omega); simp only [laws_toStringSg.l0]
  have hr : rdOf ByteArray.empty x0 (i : Int) = x0[i] := by simp [rdOf, hlt]
  rw [if_pos (by omega), if_pos (by omega), if_pos (by omega), laws_toStringS.w1 (n := F.length) (by omega) h2, Int.toNat_natCast, hr]; refine Eq.trans e ?_; rw [take_succ_set F i x0[i] (by omega), List.length_set, List.drop_eq_getElem_cons hlt]; simp only [List.append_assoc, List.cons_append, List.nil_append]
theorem laws_toStringS.g_eval (l0 : List ByteArray) (a1 : Bool) (h : l0.length ≤ 1000000) : ∃ k, laws_toStringSg.f k l0 a1 = some (if a1 = true ∧ l0 = [] then [] else full l0) := by
 obtain ⟨K, hK⟩ : ∃ K, K = l0.length + roomN l0.length + 5 := ⟨_, rfl⟩; refine ⟨K + 1, ?_⟩; have hr := room_f l0.length; have hl : roomN l0.length ≤ 1000000 := by unfold roomN; (repeat' split) <;> omega
 have hj : laws_toStringSg.j0 (K + 1) l0 false = some (full l0) := by
  simp only [laws_toStringSg.j0]
  rw [if_neg (by decide), hr]; rw [Option.bind_some]; have hw : wrap64 ((l0.length : Int) + ((roomN l0.length : Nat) : Int)) = ((l0.length + roomN l0.length : Nat) : Int) := by unfold wrap64; omega
  rw [hw, if_pos (by omega), if_pos (by omega), Int.toNat_natCast]; have e := laws_toStringS.l0_eval l0 l0.length K (List.replicate (l0.length + roomN l0.length) (⟨#[]⟩ : ByteArray)) 0 (by omega) (by simp) (by simp <;> omega) (by simp <;> omega); refine Eq.trans e ?_; simp [full, Fil.fil]
  try rfl
 unfold laws_toStringSg.f
 by_cases h1 : a1 = true
 ·rw [if_pos h1]; by_cases h2 : l0 = []
  ·subst h2; rw [if_pos ⟨h1, rfl⟩]; simp only [laws_toStringSg.j0]
   rw [if_pos (by decide)]
  ·rw [if_neg (fun h3 => h2 h3.2)]
   have h3 : ((l0.length : Int) == 0) = false := by
    have : l0.length ≠ 0 := fun h4 => h2 (List.length_eq_zero_iff.1 h4)
    rw [beq_eq_false_iff_ne]; omega
   rw [h3]; exact hj
 ·rw [if_neg h1, if_neg (fun h2 => h1 h2.1)]; exact hj
def laws_toStringS.f (_k : Nat) (l0 : List ByteArray) (_a1 : Bool) : Option (List ByteArray) := if l0.length ≤ 1000000 then some l0 else none
theorem laws_toStringS.mono : ∀ a0 a1 k, LeO (laws_toStringS.f k a0 a1) (laws_toStringS.f (k + 1) a0 a1) := fun _ _ _ => LeO.refl _
theorem laws_toStringS.callsF (k : Nat) (A0 : Option Addr) (c0 : Nat) (l0 : List ByteArray) (r : List ByteArray) (w : World) (hr0 : Kd.C Kd.string w A0 l0.length l0) (hc0 : l0.length ≤ c0) (h : laws_toStringS.f k l0 false = some r) :
  Calls Try.prog 54 #[.slice A0 l0.length c0, .bool false] w fun e w' => ∃ v0_ : Value, e = .returned (v0_) ∧ Kd.P Kd.string 9 w' w.heap.size (fun _ => True) v0_ r ∧ Below w.heap.size w w' := by
 unfold laws_toStringS.f at h
 split at h
 ·rename_i hl
  obtain rfl := Option.some.inj h; obtain ⟨k', hk⟩ := laws_toStringS.g_eval l0 false hl; rw [if_neg (fun h2 => absurd h2.1 (by decide))] at hk; refine (laws_toStringSg.calls k' A0 c0 l0 false _ w hr0 hc0 hk).mono ?_; rintro e w' ⟨A_, c_, rfl, h1, h2⟩; refine ⟨_, rfl, ⟨fun _ _ => trivial, A_, c_, ?_, h1⟩, h2⟩; first | (rw [vis_le (by simp [full])]; done) | (rw [vis_le (by simp [full])]; simp)
 ·exact absurd h (by simp)
theorem laws_toStringS.calls (k : Nat) (A0 : Option Addr) (c0 : Nat) (l0 : List ByteArray) (a1 : Bool) (r : List ByteArray) (w : World) (hr0 : Kd.C Kd.string w A0 l0.length l0) (hc0 : l0.length ≤ c0) (h : laws_toStringS.f k l0 a1 = some r) :
  Calls Try.prog 54 #[.slice A0 l0.length c0, .bool a1] w fun e w' => ∃ v0_ : Value, e = .returned (v0_) ∧ Kd.R Kd.string 9 w' w.heap.size (fun _ => True) v0_ r ∧ Below w.heap.size w w' := by
 unfold laws_toStringS.f at h
 split at h
 ·rename_i hl
  obtain rfl := Option.some.inj h; obtain ⟨k', hk⟩ := laws_toStringS.g_eval l0 a1 hl; refine (laws_toStringSg.calls k' A0 c0 l0 a1 _ w hr0 hc0 hk).mono ?_; rintro e w' ⟨A_, c_, rfl, h1, h2⟩; refine ⟨_, rfl, ?_, h2⟩; by_cases hz : a1 = true ∧ l0 = []
  ·obtain ⟨rfl, rfl⟩ := hz; rw [if_pos ⟨rfl, rfl⟩] at h1 ⊢; simpa [vis_zero] using h1
  ·rw [if_neg hz] at h1 ⊢; have := Kd.R_take h1 (m := l0.length) (by simp [full]); rw [vis_le (by simp [full])]; simpa [full] using this
 ·exact absurd h (by simp)

/-! ### laws_eqMove: function 105 -/
def laws_eqMove.f (a0_0 : Int) (a0_1 : ByteArray) (a0_2 : Int) (a1_0 : Int) (a1_1 : ByteArray) (a1_2 : Int) : Option (Bool) := if a0_0 = a1_0 then (if a0_1.toList = a1_1.toList then (if a0_2 = a1_2 then (some true) else (some false)) else (some false)) else (some false)
set_option maxHeartbeats 8000000 in
set_option maxRecDepth 100000 in
theorem laws_eqMove.calls (a0_0 : Int) (a0_1 : ByteArray) (a0_2 : Int) (a1_0 : Int) (a1_1 : ByteArray) (a1_2 : Int) (r : Bool) (w : World) (h : laws_eqMove.f a0_0 a0_1 a0_2 a1_0 a1_1 a1_2 = some r) :
  Calls Try.prog 105 #[.agg #[.int .i64 a0_0, .string a0_1, .int .i64 a0_2], .agg #[.int .i64 a1_0, .string a1_1, .int .i64 a1_2]] w fun e w' => e = .returned (.bool r) ∧ Below w.heap.size w w' := by
 have hu111 := Try.underlying111; have HB := ak (Below.refl w.heap.size w); unfold laws_eqMove.f at h; have H := h; clear h; by_cases c3 : a0_0 = a1_0
 rw [if_pos c3] at H; obtain ⟨c3b0, c3b1⟩ := bqt c3; clear c3; by_cases c4 : a0_1.toList = a1_1.toList
 rw [if_pos c4] at H; obtain ⟨c4b0, c4b1⟩ := bqt c4; clear c4; by_cases c5 : a0_2 = a1_2
 rw [if_pos c5] at H; obtain ⟨c5b0, c5b1⟩ := bqt c5; clear c5; obtain rfl := Option.some.inj H; rotate_left
 rw [if_neg c5] at H; obtain ⟨c5b0, c5b1⟩ := bqf c5; obtain rfl := Option.some.inj H; rotate_left
 rw [if_neg c4] at H; obtain ⟨c4b0, c4b1⟩ := bqf c4; obtain rfl := Option.some.inj H; rotate_left
 rw [if_neg c3] at H; obtain ⟨c3b0, c3b1⟩ := bqf c3; obtain rfl := Option.some.inj H; rotate_left
 all_goals
  go_enter Try.func105, Try.ntmps105; go_wp2_with (first | ((with_reducible refine gate_dst (N := 2) rfl ?_); refine bx 2 #[.int .i64 a0_0, .string a0_1, .int .i64 a0_2] 111 ?_; intro gb1003 hg w9 hbox hb; have BK1003 := ak hbox; have GW1003 := gw hg HB; have GE1003 := gw hg HB; replace HB := bs HB hb; clear hb hbox hg) | ((with_reducible refine gate_dst (N := 3) rfl ?_); refine bx 3 #[.int .i64 a1_0, .string a1_1, .int .i64 a1_2] 111 ?_; intro gb1004 hg w9 hbox hb; have BK1004 := ak hbox; have GW1004 := gw hg HB; have GE1004 := gw hg HB; replace HB := bs HB hb; have NB1003_1004 := ak ((by rw [hg]; exact Nat.ne_of_lt (blk_lt (vk BK1003.out)) : gb1003 ≠ gb1004)); have NB1004_1003 := ak ((by rw [hg]; exact Nat.ne_of_gt (blk_lt (vk BK1003.out)) : gb1004 ≠ gb1003)); replace BK1003 := kb BK1003 hb; clear hb hbox hg; have hnb9 := NB1003_1004.out; have hnc9 := NB1004_1003.out; have hcz9 := cz3 BK1003.out; have hcz9 := cz3 BK1004.out))
  go_ret
  exact ⟨ew, vb HB.out⟩


/-! ### laws_eqMoveS: function 88 -/
def laws_eqMoveS.l0 : Nat → List (S111) → List (S111) → Int → Option (Bool)
 | 0, _, _, _ => none
 | k + 1, x0, x1, x5 => if x5 < (x0.length : Int) then (if 0 ≤ x5 then (if x5 < (x1.length : Int) then ((laws_eqMove.f ((rd_T111 x0 x5).f0) ((rd_T111 x0 x5).f1) ((rd_T111 x0 x5).f2) ((rd_T111 x1 x5).f0) ((rd_T111 x1 x5).f1) ((rd_T111 x1 x5).f2)).bind fun t1007 => (if t1007 = true then (laws_eqMoveS.l0 k x0 x1 (wrap64 (x5 + 1))) else (some false))) else (none)) else (none)) else (some true)
def laws_eqMoveS.f (k : Nat) (l0 : List (S111)) (l1 : List (S111)) : Option (Bool) := if (l0.length : Int) = (l1.length : Int) then (laws_eqMoveS.l0 k l0 l1 0) else (some false)
theorem laws_eqMoveS.mono_l : ∀ k, (∀ y0 y1 y2, LeO (laws_eqMoveS.l0 k y0 y1 y2) (laws_eqMoveS.l0 (k + 1) y0 y1 y2))
 | 0 => fun _ _ _ r h => by simp [laws_eqMoveS.l0] at h
 | k + 1 => by
  have ih0 := laws_eqMoveS.mono_l k
  ·intro y0 y1 y2; unfold laws_eqMoveS.l0
   repeat' first | (with_reducible first | exact ih0 _ _ _ | exact LeO.refl _ | exact LeO.none _ | refine LeO.ite ?_ ?_ | refine LeO.bind ?_ (fun _ => ?_)) | exact ih0 _ _ _ | exact LeO.none _ | refine LeO.ite ?_ ?_ | refine LeO.bind ?_ (fun _ => ?_)
theorem laws_eqMoveS.mono : ∀ a0 a1 k, LeO (laws_eqMoveS.f k a0 a1) (laws_eqMoveS.f (k + 1) a0 a1) := by
 intro a0 a1 k; have ih0 := laws_eqMoveS.mono_l k; unfold laws_eqMoveS.f
 repeat' first | (with_reducible first | exact ih0 _ _ _ | exact LeO.refl _ | exact LeO.none _ | refine LeO.ite ?_ ?_ | refine LeO.bind ?_ (fun _ => ?_)) | exact ih0 _ _ _ | exact LeO.none _ | refine LeO.ite ?_ ?_ | refine LeO.bind ?_ (fun _ => ?_)
def laws_eqMoveS.T6 : Bool × List (List Nat × List Nat) := (true, [([], []), ([], []), ([0, 1], [0, 1]), ([2], [2]), ([], []), ([], []), ([4, 5], [4, 5]), ([6], [6]), ([3, 7], [3, 7]), ([8], [8])])
def laws_eqMoveS.B6 : List Nat := [0, 0, 3, 7, 0, 0, 48, 112, 255, 511]
theorem laws_eqMoveS.tab6 : rtab .any (opsOf Try.f88 6) = laws_eqMoveS.T6 := by kernel_rfl
theorem laws_eqMoveS.bits6 : waitsOk laws_eqMoveS.T6.2 laws_eqMoveS.B6 = true := by kernel_rfl
set_option maxHeartbeats 8000000 in
set_option maxRecDepth 100000 in
theorem laws_eqMoveS.calls (k : Nat) (A0 : Option Addr) (c0 : Nat) (l0 : List (S111)) (A1 : Option Addr) (c1 : Nat) (l1 : List (S111)) (r : Bool) (w : World) (hr0 : Kd.C k111 w A0 l0.length l0) (hc0 : l0.length ≤ c0) (hr1 : Kd.C k111 w A1 l1.length l1) (hc1 : l1.length ≤ c1) (h : laws_eqMoveS.f k l0 l1 = some r) :
  Calls Try.prog 88 #[.slice A0 l0.length c0, .slice A1 l1.length c1] w fun e w' => e = .returned (.bool r) ∧ Below w.heap.size w w' := by
 have hu111 := Try.underlying111; have HR0 := ak hr0; have HC0 := ak hc0; clear hr0 hc0; have HR1 := ak hr1; have HC1 := ak hc1; clear hr1 hc1; have HB := ak (Below.refl w.heap.size w); unfold laws_eqMoveS.f at h; have H := h; clear h; by_cases c3 : (l0.length : Int) = (l1.length : Int)
 ·rw [if_pos c3] at H; obtain ⟨c3b0, c3b1⟩ := bqt c3; have c3b2 : (l0.length == l1.length) = true := by first | simpa using c3 | (simp at c3 ⊢; omega)
  clear c3; have H' := ak H; clear H; go_enter Try.func88, Try.ntmps88; go_wp2
  go_loopg [5] k (fun kq v5 w' => ∃ (x5_1 : Int), v5 = .int .i64 x5_1 ∧ Aside0 (laws_eqMoveS.l0 kq l0 l1 x5_1 = some r) ∧ Aside0 (kq ≤ k) ∧ Aside0 (Below w.heap.size w w'))
  case atStart => exact ⟨(0), (by first | rfl | (simp; done) | (simp [*]; done)), H', ⟨Nat.le_refl _⟩, ⟨vb HB.out⟩⟩
  case round =>
   clear H'; (try clear c1); (try clear p2); (try clear c3); (try clear c3b0); (try clear c3b1); (try clear c3b2); obtain ⟨x5_1, rfl, HA, HK1, HB⟩ := hrel
   cases gk with
   | zero => exact absurd HA.out (by simp [laws_eqMoveS.l0])
   | succ k1 =>
    have H := HA.out; clear HA; simp only [laws_eqMoveS.l0] at H
    by_cases c4 : x5_1 < (l0.length : Int)
    ·rw [if_pos c4] at H; have c4b0 := decide_eq_true c4; clear c4; by_cases c5 : 0 ≤ x5_1
     ·rw [if_pos c5] at H; have c5b0 := decide_eq_true c5; clear c5; by_cases c6 : x5_1 < (l1.length : Int)
      ·rw [if_pos c6] at H; have c6b0 := decide_eq_true c6; clear c6; obtain ⟨t1007, A7, H⟩ := bnk H; by_cases c8 : t1007 = true
       ·subst c8; rw [if_pos rfl] at H; have H' := ak H; clear H; (try go_wp2)
        replace HB := ak (below_drew1 HB.out); have p1005 : 0 ≤ (x5_1 : Int) := od; have q1005 : x5_1 < (l0.length : Int) := od; obtain ⟨ad1005, e1005, hx1005_0, hx1005_1, hx1005_2⟩ := at_T111 HR0.out x5_1 p1005 q1005; have hw1005_2 := hx1005_2; have hw1005_1 := hx1005_1; have hw1005_0 := hx1005_0
        cases e1005; replace hx1005_0 := cb HB.out hx1005_0; replace hx1005_1 := cb HB.out hx1005_1; replace hx1005_2 := cb HB.out hx1005_2; replace p1005 := eq_true p1005; replace q1005 := eq_true q1005; have p1006 : 0 ≤ (x5_1 : Int) := od; have q1006 : x5_1 < (l1.length : Int) := od; obtain ⟨ad1006, e1006, hx1006_0, hx1006_1, hx1006_2⟩ := at_T111 HR1.out x5_1 p1006 q1006; have hw1006_2 := hx1006_2; have hw1006_1 := hx1006_1; have hw1006_0 := hx1006_0
        cases e1006; replace hx1006_0 := cb HB.out hx1006_0; replace hx1006_1 := cb HB.out hx1006_1; replace hx1006_2 := cb HB.out hx1006_2; replace p1006 := eq_true p1006; replace q1006 := eq_true q1006; refine start_ (n := 10) (S := fun w' => w'.cell? (ad1005.add ((x5_1).toNat * 3)) = some (.int .i64 ((rd_T111 l0 x5_1).f0)) ∧ w'.cell? ⟨(ad1005.add ((x5_1).toNat * 3)).block, (ad1005.add ((x5_1).toNat * 3)).off + 1, none⟩ = some (.string ((rd_T111 l0 x5_1).f1)) ∧ w'.cell? ⟨(ad1005.add ((x5_1).toNat * 3)).block, (ad1005.add ((x5_1).toNat * 3)).off + 2, none⟩ = some (.int .i64 ((rd_T111 l0 x5_1).f2)) ∧ w'.cell? (ad1006.add ((x5_1).toNat * 3)) = some (.int .i64 ((rd_T111 l1 x5_1).f0)) ∧ w'.cell? ⟨(ad1006.add ((x5_1).toNat * 3)).block, (ad1006.add ((x5_1).toNat * 3)).off + 1, none⟩ = some (.string ((rd_T111 l1 x5_1).f1)) ∧ w'.cell? ⟨(ad1006.add ((x5_1).toNat * 3)).block, (ad1006.add ((x5_1).toNat * 3)).off + 2, none⟩ = some (.int .i64 ((rd_T111 l1 x5_1).f2))) (ds := []) (tf 0 10) (by kernel_rfl) rfl rfl ⟨((HB.out.cell (World.block_lt_of_cell? w _ hw1005_0)).trans hw1005_0), ((HB.out.cell (World.block_lt_of_cell? w _ hw1005_1)).trans hw1005_1), ((HB.out.cell (World.block_lt_of_cell? w _ hw1005_2)).trans hw1005_2), ((HB.out.cell (World.block_lt_of_cell? w _ hw1006_0)).trans hw1006_0), ((HB.out.cell (World.block_lt_of_cell? w _ hw1006_1)).trans hw1006_1), ((HB.out.cell (World.block_lt_of_cell? w _ hw1006_2)).trans hw1006_2)⟩ (fun hHeld => ?_); refine with_tabW laws_eqMoveS.tab6 laws_eqMoveS.bits6 (fun HT_ HW_ => ?_)
        generalize wr.drew = w9 at HB hx1005_0 hx1005_1 hx1005_2 hx1006_0 hx1006_1 hx1006_2 hHeld ⊢; refine pu_ 0 17 (tf 1 9) rfl rfl ?_; refine pu_ 1 18 (tf 2 8) rfl rfl ?_; refine pu_ 2 19 (tf 3 7) rfl rfl ?_; refine pu_ 4 21 #[true, true, true, false, true, false, false, false, false, false] rfl rfl ?_; refine pu_ 5 22 #[true, true, true, false, true, true, false, false, false, false] rfl rfl ?_; refine pu_ 6 23 #[true, true, true, false, true, true, true, false, false, false] rfl rfl ?_; refine ta6_ 3 20 (tf 7 3) rfl rfl ?_; refine ta6_ 7 24 (tf 8 2) rfl rfl ?_; refine one_ (i := 8) (N := some 25) (tf 9 1) rfl rfl (one_of HT_.out (by kernel_rfl)) (by decide) (fun K hK => ?_); refine goes_ Try.func105 (by kernel_rfl) rfl #[.agg #[.int .i64 ((rd_T111 l0 x5_1).f0), .string ((rd_T111 l0 x5_1).f1), .int .i64 ((rd_T111 l0 x5_1).f2)], .agg #[.int .i64 ((rd_T111 l1 x5_1).f0), .string ((rd_T111 l1 x5_1).f1), .int .i64 ((rd_T111 l1 x5_1).f2)]] (by rfl) rfl rfl (by (try simp only [List.map_toArray, List.map_cons, List.map_nil]); first | done | rfl | (simp only [List.length_drop, List.length_take]; rfl)) ?_; with_reducible refine (laws_eqMove.calls ((rd_T111 l0 x5_1).f0) ((rd_T111 l0 x5_1).f1) ((rd_T111 l0 x5_1).f2) ((rd_T111 l1 x5_1).f0) ((rd_T111 l1 x5_1).f1) ((rd_T111 l1 x5_1).f2) true _ A7.out).mono ?_
        rintro e w10 ⟨rfl, hb⟩; refine ⟨_, rfl, ?_⟩; replace HB := bs HB hb; (try clear hb)
        (try clear hb2)
        (try clear hk)
        (try clear hi)
        refine hK.out _ _ ⟨((HB.out.cell (World.block_lt_of_cell? w _ hw1005_0)).trans hw1005_0), ((HB.out.cell (World.block_lt_of_cell? w _ hw1005_1)).trans hw1005_1), ((HB.out.cell (World.block_lt_of_cell? w _ hw1005_2)).trans hw1005_2), ((HB.out.cell (World.block_lt_of_cell? w _ hw1006_0)).trans hw1006_0), ((HB.out.cell (World.block_lt_of_cell? w _ hw1006_1)).trans hw1006_1), ((HB.out.cell (World.block_lt_of_cell? w _ hw1006_2)).trans hw1006_2)⟩ (fun hHeld => ?_); clear hK K; refine norm_ (a' := ?_) ?_ ?_
        rotate_left
        ·show Act.put _ (some 25) _ = _
         simp only [Act.put, List.setIfInBounds_toArray, List.set_cons_zero, List.set_cons_succ, i64_w, i32_w]
         rfl
        refine pu_ 9 26 (tf 10 0) rfl rfl ?_; refine done_ (done_of HT_.out (by kernel_rfl)) ?_; (try go_wp2)
        go_roundg k1
        case measure => have := HK1.out; omega
        case rel => exact ⟨(wrap64 (x5_1 + 1)), (by first | rfl | (simp; done) | (simp [*]; done)), H', ⟨by have := HK1.out; omega⟩, ⟨vb HB.out⟩⟩
       ·replace c8 := Bool.eq_false_iff.mpr c8; subst c8; rw [if_neg nf] at H; obtain rfl := Option.some.inj H; (try go_wp2)
        replace HB := ak (below_drew1 HB.out); have p1005 : 0 ≤ (x5_1 : Int) := od; have q1005 : x5_1 < (l0.length : Int) := od; obtain ⟨ad1005, e1005, hx1005_0, hx1005_1, hx1005_2⟩ := at_T111 HR0.out x5_1 p1005 q1005; have hw1005_2 := hx1005_2; have hw1005_1 := hx1005_1; have hw1005_0 := hx1005_0
        cases e1005; replace hx1005_0 := cb HB.out hx1005_0; replace hx1005_1 := cb HB.out hx1005_1; replace hx1005_2 := cb HB.out hx1005_2; replace p1005 := eq_true p1005; replace q1005 := eq_true q1005; have p1006 : 0 ≤ (x5_1 : Int) := od; have q1006 : x5_1 < (l1.length : Int) := od; obtain ⟨ad1006, e1006, hx1006_0, hx1006_1, hx1006_2⟩ := at_T111 HR1.out x5_1 p1006 q1006; have hw1006_2 := hx1006_2; have hw1006_1 := hx1006_1; have hw1006_0 := hx1006_0
        cases e1006; replace hx1006_0 := cb HB.out hx1006_0; replace hx1006_1 := cb HB.out hx1006_1; replace hx1006_2 := cb HB.out hx1006_2; replace p1006 := eq_true p1006; replace q1006 := eq_true q1006; refine start_ (n := 10) (S := fun w' => w'.cell? (ad1005.add ((x5_1).toNat * 3)) = some (.int .i64 ((rd_T111 l0 x5_1).f0)) ∧ w'.cell? ⟨(ad1005.add ((x5_1).toNat * 3)).block, (ad1005.add ((x5_1).toNat * 3)).off + 1, none⟩ = some (.string ((rd_T111 l0 x5_1).f1)) ∧ w'.cell? ⟨(ad1005.add ((x5_1).toNat * 3)).block, (ad1005.add ((x5_1).toNat * 3)).off + 2, none⟩ = some (.int .i64 ((rd_T111 l0 x5_1).f2)) ∧ w'.cell? (ad1006.add ((x5_1).toNat * 3)) = some (.int .i64 ((rd_T111 l1 x5_1).f0)) ∧ w'.cell? ⟨(ad1006.add ((x5_1).toNat * 3)).block, (ad1006.add ((x5_1).toNat * 3)).off + 1, none⟩ = some (.string ((rd_T111 l1 x5_1).f1)) ∧ w'.cell? ⟨(ad1006.add ((x5_1).toNat * 3)).block, (ad1006.add ((x5_1).toNat * 3)).off + 2, none⟩ = some (.int .i64 ((rd_T111 l1 x5_1).f2))) (ds := []) (tf 0 10) (by kernel_rfl) rfl rfl ⟨((HB.out.cell (World.block_lt_of_cell? w _ hw1005_0)).trans hw1005_0), ((HB.out.cell (World.block_lt_of_cell? w _ hw1005_1)).trans hw1005_1), ((HB.out.cell (World.block_lt_of_cell? w _ hw1005_2)).trans hw1005_2), ((HB.out.cell (World.block_lt_of_cell? w _ hw1006_0)).trans hw1006_0), ((HB.out.cell (World.block_lt_of_cell? w _ hw1006_1)).trans hw1006_1), ((HB.out.cell (World.block_lt_of_cell? w _ hw1006_2)).trans hw1006_2)⟩ (fun hHeld => ?_); refine with_tabW laws_eqMoveS.tab6 laws_eqMoveS.bits6 (fun HT_ HW_ => ?_)
        generalize wr.drew = w11 at HB hx1005_0 hx1005_1 hx1005_2 hx1006_0 hx1006_1 hx1006_2 hHeld ⊢; refine pu_ 0 17 (tf 1 9) rfl rfl ?_; refine pu_ 1 18 (tf 2 8) rfl rfl ?_; refine pu_ 2 19 (tf 3 7) rfl rfl ?_; refine pu_ 4 21 #[true, true, true, false, true, false, false, false, false, false] rfl rfl ?_; refine pu_ 5 22 #[true, true, true, false, true, true, false, false, false, false] rfl rfl ?_; refine pu_ 6 23 #[true, true, true, false, true, true, true, false, false, false] rfl rfl ?_; refine ta6_ 3 20 (tf 7 3) rfl rfl ?_; refine ta6_ 7 24 (tf 8 2) rfl rfl ?_; refine one_ (i := 8) (N := some 25) (tf 9 1) rfl rfl (one_of HT_.out (by kernel_rfl)) (by decide) (fun K hK => ?_); refine goes_ Try.func105 (by kernel_rfl) rfl #[.agg #[.int .i64 ((rd_T111 l0 x5_1).f0), .string ((rd_T111 l0 x5_1).f1), .int .i64 ((rd_T111 l0 x5_1).f2)], .agg #[.int .i64 ((rd_T111 l1 x5_1).f0), .string ((rd_T111 l1 x5_1).f1), .int .i64 ((rd_T111 l1 x5_1).f2)]] (by rfl) rfl rfl (by (try simp only [List.map_toArray, List.map_cons, List.map_nil]); first | done | rfl | (simp only [List.length_drop, List.length_take]; rfl)) ?_; with_reducible refine (laws_eqMove.calls ((rd_T111 l0 x5_1).f0) ((rd_T111 l0 x5_1).f1) ((rd_T111 l0 x5_1).f2) ((rd_T111 l1 x5_1).f0) ((rd_T111 l1 x5_1).f1) ((rd_T111 l1 x5_1).f2) false _ A7.out).mono ?_
        rintro e w12 ⟨rfl, hb⟩; refine ⟨_, rfl, ?_⟩; replace HB := bs HB hb; (try clear hb)
        (try clear hb2)
        (try clear hk)
        (try clear hi)
        refine hK.out _ _ ⟨((HB.out.cell (World.block_lt_of_cell? w _ hw1005_0)).trans hw1005_0), ((HB.out.cell (World.block_lt_of_cell? w _ hw1005_1)).trans hw1005_1), ((HB.out.cell (World.block_lt_of_cell? w _ hw1005_2)).trans hw1005_2), ((HB.out.cell (World.block_lt_of_cell? w _ hw1006_0)).trans hw1006_0), ((HB.out.cell (World.block_lt_of_cell? w _ hw1006_1)).trans hw1006_1), ((HB.out.cell (World.block_lt_of_cell? w _ hw1006_2)).trans hw1006_2)⟩ (fun hHeld => ?_); clear hK K; refine norm_ (a' := ?_) ?_ ?_
        rotate_left
        ·show Act.put _ (some 25) _ = _
         simp only [Act.put, List.setIfInBounds_toArray, List.set_cons_zero, List.set_cons_succ, i64_w, i32_w]
         rfl
        refine pu_ 9 26 (tf 10 0) rfl rfl ?_; refine done_ (done_of HT_.out (by kernel_rfl)) ?_; (try go_wp2)
        go_ret
        exact ⟨ew, vb HB.out⟩
      ·rw [if_neg c6] at H; exact absurd H (by simp)
     ·rw [if_neg c5] at H; exact absurd H (by simp)
    ·rw [if_neg c4] at H; have c4b0 := decide_eq_false c4; clear c4; obtain rfl := Option.some.inj H; go_wp2
     go_ret
     exact ⟨ew, vb HB.out⟩
 ·rw [if_neg c3] at H; obtain ⟨c3b0, c3b1⟩ := bqf c3; have c3b2 : (l0.length == l1.length) = false := by first | simpa using c3 | (simp at c3 ⊢; omega)
  obtain rfl := Option.some.inj H; go_enter Try.func88, Try.ntmps88; go_wp2
  go_ret
  exact ⟨ew, vb HB.out⟩


/-! ### laws_intactMoveS: function 56 -/
def laws_intactMoveS.f (k : Nat) (l0 : List S111) (l1 : List S111) : Option Bool := if l0.length = l1.length then laws_eqMoveS.f k (full l0) (full l1) else none
theorem laws_intactMoveS.mono : ∀ a0 a1 k, LeO (laws_intactMoveS.f k a0 a1) (laws_intactMoveS.f (k + 1) a0 a1) := by
 intro a0 a1 k; unfold laws_intactMoveS.f
 exact LeO.ite (laws_eqMoveS.mono _ _ _) (LeO.none _)
set_option maxHeartbeats 1000000 in
set_option maxRecDepth 100000 in
theorem laws_intactMoveS.calls (k : Nat) (A0 : Option Addr) (c0 : Nat) (l0 : List S111) (A1 : Option Addr) (c1 : Nat) (l1 : List S111) (r : Bool) (w : World) (hr0 : Kd.C k111 w A0 (full l0).length (full l0)) (hc0 : (full l0).length ≤ c0) (hr1 : Kd.C k111 w A1 (full l1).length (full l1)) (hc1 : (full l1).length ≤ c1) (h : laws_intactMoveS.f k l0 l1 = some r) :
  Calls Try.prog 56 #[.slice A0 l0.length c0, .slice A1 l1.length c1] w fun e w' => e = .returned (.bool r) ∧ Below w.heap.size w w' := by
 unfold laws_intactMoveS.f at h
 by_cases he : l0.length = l1.length
 rotate_left
 ·rw [if_neg he] at h; exact absurd h (by simp)
 rw [if_pos he] at h; have hm1 : (full l1).length ≤ 9223372036854775807 := hr1.2.1; have ef0 : (full l0).length = (full l1).length := by rw [full_length, full_length, he]
 have hk : ((l1.length : Int) + (roomN l1.length : Int)) = ((full l1).length : Int) := by rw [full_length]; omega
 obtain ⟨i0, hi0, _, _, _⟩ := info_parts info111; have hq0 := cut_cap (P := Try.prog) 73 111 .i64 Try.underlying73 hi0 A0 l0.length c0 ((full l1).length : Int) (by omega) (by omega); have hq1 := cut_cap (P := Try.prog) 73 111 .i64 Try.underlying73 hi0 A1 l1.length c1 ((full l1).length : Int) (by omega) (by omega); have hw : IntKind.i64.wrap ((l1.length : Int) + (roomN l1.length : Int)) = ((full l1).length : Int) := by rw [hk]; exact IntWalk.i64_in _ (by omega)
 have heq : ((l0.length : Int) == (l1.length : Int)) = true := by rw [he]; simp
 have heq2 : (l0.length == l1.length) = true := by rw [he]; simp
 rw [Int.toNat_natCast] at hq0 hq1; have HE := ak ef0; clear hk ef0 he hi0; go_enter Try.func56, Try.ntmps56; go_wp2_with fail
 refine (laws_roomBehind.calls _ _ _ (room_f _)).mono ?_; rintro e w' ⟨rfl, ⟨nd, rfl⟩⟩; go_wp2_with fail
 go_still_tail 12, (by kernel_rfl)
 change wpList _ _ _ _ _ ((w.drewN nd).drew)
 have hE := laws_eqMoveS.calls k A0 c0 (full l0) A1 c1 (full l1) r ((w.drewN nd).drew) (Kd.C_drew (Kd.C_drewN hr0 nd)) hc0 (Kd.C_drew (Kd.C_drewN hr1 nd)) hc1 h; rw [HE.out] at hE; have HH := Lib.hid hE; clear hE; go_wp2_with fail
 refine HH.out.mono ?_; rintro e w' ⟨rfl, hb⟩; go_wp2_with fail
 go_ret
 exact ⟨rfl, below_step (by repeat (first | exact Below.refl _ _ | apply below_drew1 | apply pw_below_drewN)) hb⟩

/-! ### laws_eqStringS: function 89 -/
def laws_eqStringS.l0 : Nat → List ByteArray → List ByteArray → Int → Option (Bool)
 | 0, _, _, _ => none
 | k + 1, x0, x1, x5 => if x5 < (x0.length : Int) then (if 0 ≤ x5 then (if x5 < (x1.length : Int) then (if (rdOf ByteArray.empty x0 x5).toList = (rdOf ByteArray.empty x1 x5).toList then (laws_eqStringS.l0 k x0 x1 (wrap64 (x5 + 1))) else (some false)) else (none)) else (none)) else (some true)
def laws_eqStringS.f (k : Nat) (l0 : List ByteArray) (l1 : List ByteArray) : Option (Bool) := if (l0.length : Int) = (l1.length : Int) then (laws_eqStringS.l0 k l0 l1 0) else (some false)
theorem laws_eqStringS.mono_l : ∀ k, (∀ y0 y1 y2, LeO (laws_eqStringS.l0 k y0 y1 y2) (laws_eqStringS.l0 (k + 1) y0 y1 y2))
 | 0 => fun _ _ _ r h => by simp [laws_eqStringS.l0] at h
 | k + 1 => by
  have ih0 := laws_eqStringS.mono_l k
  ·intro y0 y1 y2; unfold laws_eqStringS.l0
   repeat' first | (with_reducible first | exact ih0 _ _ _ | exact LeO.refl _ | exact LeO.none _ | refine LeO.ite ?_ ?_ | refine LeO.bind ?_ (fun _ => ?_)) | exact ih0 _ _ _ | exact LeO.none _ | refine LeO.ite ?_ ?_ | refine LeO.bind ?_ (fun _ => ?_)
theorem laws_eqStringS.mono : ∀ a0 a1 k, LeO (laws_eqStringS.f k a0 a1) (laws_eqStringS.f (k + 1) a0 a1) := by
 intro a0 a1 k; have ih0 := laws_eqStringS.mono_l k; unfold laws_eqStringS.f
 repeat' first | (with_reducible first | exact ih0 _ _ _ | exact LeO.refl _ | exact LeO.none _ | refine LeO.ite ?_ ?_ | refine LeO.bind ?_ (fun _ => ?_)) | exact ih0 _ _ _ | exact LeO.none _ | refine LeO.ite ?_ ?_ | refine LeO.bind ?_ (fun _ => ?_)
set_option maxHeartbeats 8000000 in
set_option maxRecDepth 100000 in
theorem laws_eqStringS.calls (k : Nat) (A0 : Option Addr) (c0 : Nat) (l0 : List ByteArray) (A1 : Option Addr) (c1 : Nat) (l1 : List ByteArray) (r : Bool) (w : World) (hr0 : Kd.C Kd.string w A0 l0.length l0) (hc0 : l0.length ≤ c0) (hr1 : Kd.C Kd.string w A1 l1.length l1) (hc1 : l1.length ≤ c1) (h : laws_eqStringS.f k l0 l1 = some r) :
  Calls Try.prog 89 #[.slice A0 l0.length c0, .slice A1 l1.length c1] w fun e w' => e = .returned (.bool r) ∧ Drawn0 w w' := by
 have HR0 := ak hr0; have HC0 := ak hc0; clear hr0 hc0; have HR1 := ak hr1; have HC1 := ak hc1; clear hr1 hc1; unfold laws_eqStringS.f at h; have H := h; clear h; by_cases c3 : (l0.length : Int) = (l1.length : Int)
 ·rw [if_pos c3] at H; obtain ⟨c3b0, c3b1⟩ := bqt c3; have c3b2 : (l0.length == l1.length) = true := by first | simpa using c3 | (simp at c3 ⊢; omega)
  clear c3; have H' := ak H; clear H; go_enter Try.func89, Try.ntmps89; go_wp2
  repeat (go_quiet (fail); try go_wp2)
  go_loopg [5] k (fun kq v5 w' => ∃ (x5_1 : Int), v5 = .int .i64 x5_1 ∧ Aside0 (laws_eqStringS.l0 kq l0 l1 x5_1 = some r) ∧ Aside0 (kq ≤ k) ∧ Drawn0 w w')
  case atStart => exact ⟨(0), (by first | rfl | (simp; done) | (simp [*]; done)), H', ⟨Nat.le_refl _⟩, by repeat (first | exact Drawn0.refl _ | apply Drawn0.step)⟩
  case round =>
   clear H'; (try clear c1); (try clear p2); (try clear c3); (try clear c3b0); (try clear c3b1); (try clear c3b2); obtain ⟨x5_1, rfl, HA, HK1, ⟨m1, rfl⟩⟩ := hrel
   cases gk with
   | zero => exact absurd HA.out (by simp [laws_eqStringS.l0])
   | succ k1 =>
    have H := HA.out; clear HA; simp only [laws_eqStringS.l0] at H
    by_cases c4 : x5_1 < (l0.length : Int)
    ·rw [if_pos c4] at H; have c4b0 := decide_eq_true c4; clear c4; by_cases c5 : 0 ≤ x5_1
     ·rw [if_pos c5] at H; have c5b0 := decide_eq_true c5; clear c5; by_cases c6 : x5_1 < (l1.length : Int)
      ·rw [if_pos c6] at H; have c6b0 := decide_eq_true c6; clear c6; by_cases c7 : (rdOf ByteArray.empty l0 x5_1).toList = (rdOf ByteArray.empty l1 x5_1).toList
       ·rw [if_pos c7] at H; have c7b0 : ((rdOf ByteArray.empty l0 x5_1).toList == (rdOf ByteArray.empty l1 x5_1).toList) = true := beq_iff_eq.mpr c7; have c7b1 : ((rdOf ByteArray.empty l0 x5_1).toList != (rdOf ByteArray.empty l1 x5_1).toList) = false := bne_eq_false_iff_eq.mpr c7; clear c7; have H' := ak H; clear H; have p1018 : 0 ≤ (x5_1 : Int) := od; have q1018 : x5_1 < (l0.length : Int) := od; obtain ⟨ad1018, e1018, hx1018_0⟩ := Kd.at_string HR0.out x5_1 p1018 q1018
        cases e1018; replace p1018 := eq_true p1018; replace q1018 := eq_true q1018; have p1019 : 0 ≤ (x5_1 : Int) := od; have q1019 : x5_1 < (l1.length : Int) := od; obtain ⟨ad1019, e1019, hx1019_0⟩ := Kd.at_string HR1.out x5_1 p1019 q1019
        cases e1019; replace p1019 := eq_true p1019; replace q1019 := eq_true q1019; go_wp2
        repeat (go_quiet (fail); try go_wp2)
        go_roundg k1
        case measure => have := HK1.out; omega
        case rel => exact ⟨(wrap64 (x5_1 + 1)), (by first | rfl | (simp; done) | (simp [*]; done)), H', ⟨by have := HK1.out; omega⟩, by repeat (first | exact Drawn0.refl _ | apply Drawn0.step)⟩
       ·rw [if_neg c7] at H; have c7b0 : ((rdOf ByteArray.empty l0 x5_1).toList == (rdOf ByteArray.empty l1 x5_1).toList) = false := beq_eq_false_iff_ne.mpr c7; have c7b1 : ((rdOf ByteArray.empty l0 x5_1).toList != (rdOf ByteArray.empty l1 x5_1).toList) = true := bne_iff_ne.mpr c7; obtain rfl := Option.some.inj H; have p1018 : 0 ≤ (x5_1 : Int) := od; have q1018 : x5_1 < (l0.length : Int) := od; obtain ⟨ad1018, e1018, hx1018_0⟩ := Kd.at_string HR0.out x5_1 p1018 q1018
        cases e1018; replace p1018 := eq_true p1018; replace q1018 := eq_true q1018; have p1019 : 0 ≤ (x5_1 : Int) := od; have q1019 : x5_1 < (l1.length : Int) := od; obtain ⟨ad1019, e1019, hx1019_0⟩ := Kd.at_string HR1.out x5_1 p1019 q1019
        cases e1019; replace p1019 := eq_true p1019; replace q1019 := eq_true q1019; go_wp2
        repeat (go_quiet (fail); try go_wp2)
        go_ret
        exact ⟨by first | rfl | (simp; done) | (simp [*]; done), by repeat (first | exact Drawn0.refl _ | apply Drawn0.step)⟩
      ·rw [if_neg c6] at H; exact absurd H (by simp)
     ·rw [if_neg c5] at H; exact absurd H (by simp)
    ·rw [if_neg c4] at H; have c4b0 := decide_eq_false c4; clear c4; obtain rfl := Option.some.inj H; go_wp2
     repeat (go_quiet (fail); try go_wp2)
     go_ret
     exact ⟨by first | rfl | (simp; done) | (simp [*]; done), by repeat (first | exact Drawn0.refl _ | apply Drawn0.step)⟩
 ·rw [if_neg c3] at H; obtain ⟨c3b0, c3b1⟩ := bqf c3; have c3b2 : (l0.length == l1.length) = false := by first | simpa using c3 | (simp at c3 ⊢; omega)
  obtain rfl := Option.some.inj H; go_enter Try.func89, Try.ntmps89; go_wp2
  repeat (go_quiet (fail); try go_wp2)
  go_ret
  exact ⟨by first | rfl | (simp; done) | (simp [*]; done), by repeat (first | exact Drawn0.refl _ | apply Drawn0.step)⟩


/-! ### laws_intactStringS: function 57 -/
def laws_intactStringS.f (k : Nat) (l0 : List ByteArray) (l1 : List ByteArray) : Option Bool := if l0.length = l1.length then laws_eqStringS.f k (full l0) (full l1) else none
theorem laws_intactStringS.mono : ∀ a0 a1 k, LeO (laws_intactStringS.f k a0 a1) (laws_intactStringS.f (k + 1) a0 a1) := by
 intro a0 a1 k; unfold laws_intactStringS.f
 exact LeO.ite (laws_eqStringS.mono _ _ _) (LeO.none _)
set_option maxHeartbeats 1000000 in
set_option maxRecDepth 100000 in
theorem laws_intactStringS.calls (k : Nat) (A0 : Option Addr) (c0 : Nat) (l0 : List ByteArray) (A1 : Option Addr) (c1 : Nat) (l1 : List ByteArray) (r : Bool) (w : World) (hr0 : Kd.C Kd.string w A0 (full l0).length (full l0)) (hc0 : (full l0).length ≤ c0) (hr1 : Kd.C Kd.string w A1 (full l1).length (full l1)) (hc1 : (full l1).length ≤ c1) (h : laws_intactStringS.f k l0 l1 = some r) :
  Calls Try.prog 57 #[.slice A0 l0.length c0, .slice A1 l1.length c1] w fun e w' => e = .returned (.bool r) ∧ Drawn0 w w' := by
 unfold laws_intactStringS.f at h
 by_cases he : l0.length = l1.length
 rotate_left
 ·rw [if_neg he] at h; exact absurd h (by simp)
 rw [if_pos he] at h; have hm1 : (full l1).length ≤ 9223372036854775807 := hr1.2.1; have ef0 : (full l0).length = (full l1).length := by rw [full_length, full_length, he]
 have hk : ((l1.length : Int) + (roomN l1.length : Int)) = ((full l1).length : Int) := by rw [full_length]; omega
 obtain ⟨i0, hi0, _, _, _⟩ := info_parts info9; have hq0 := cut_cap (P := Try.prog) 69 9 .i64 Try.underlying69 hi0 A0 l0.length c0 ((full l1).length : Int) (by omega) (by omega); have hq1 := cut_cap (P := Try.prog) 69 9 .i64 Try.underlying69 hi0 A1 l1.length c1 ((full l1).length : Int) (by omega) (by omega); have hw : IntKind.i64.wrap ((l1.length : Int) + (roomN l1.length : Int)) = ((full l1).length : Int) := by rw [hk]; exact IntWalk.i64_in _ (by omega)
 have heq : ((l0.length : Int) == (l1.length : Int)) = true := by rw [he]; simp
 have heq2 : (l0.length == l1.length) = true := by rw [he]; simp
 rw [Int.toNat_natCast] at hq0 hq1; have HE := ak ef0; clear hk ef0 he hi0; go_enter Try.func57, Try.ntmps57; go_wp2_with fail
 refine (laws_roomBehind.calls _ _ _ (room_f _)).mono ?_; rintro e w' ⟨rfl, ⟨nd, rfl⟩⟩; go_wp2_with fail
 go_still_tail 12, (by kernel_rfl)
 change wpList _ _ _ _ _ ((w.drewN nd).drew)
 have hE := laws_eqStringS.calls k A0 c0 (full l0) A1 c1 (full l1) r ((w.drewN nd).drew) (Kd.C_drew (Kd.C_drewN hr0 nd)) hc0 (Kd.C_drew (Kd.C_drewN hr1 nd)) hc1 h; rw [HE.out] at hE; have HH := Lib.hid hE; clear hE; go_wp2_with fail
 refine HH.out.mono ?_; rintro e w' ⟨rfl, ⟨nq, rfl⟩⟩; go_wp2_with fail
 go_ret
 exact ⟨rfl, by repeat (first | exact Drawn0.refl _ | apply Drawn0.step)⟩

/-! ### laws_markText: function 90 -/
def laws_markText.l0 : Nat → Int → ByteArray → Option (ByteArray)
 | 0, _, _ => none
 | k + 1, x0, x3 => if x0 > 0 then ((some (([(wrap64 (48 + (Int.tmod x0 10))) % 256] : List Int) : List Int)).bind fun y1024 => (if (strOfNums y1024).size + x3.size ≤ 9223372036854775807 then (laws_markText.l0 k (wrap64 (Int.tdiv x0 10)) ((strOfNums y1024) ++ x3)) else (none))) else (if 1 + x3.size ≤ 9223372036854775807 then (some ((⟨#[109]⟩ : ByteArray) ++ x3)) else (none))
def laws_markText.f (k : Nat) (a0 : Int) : Option (ByteArray) := if a0 ≤ 0 then (some (⟨#[109, 48]⟩ : ByteArray)) else (laws_markText.l0 k a0 (⟨#[]⟩ : ByteArray))
theorem laws_markText.mono_l : ∀ k, (∀ y0 y1, LeO (laws_markText.l0 k y0 y1) (laws_markText.l0 (k + 1) y0 y1))
 | 0 => fun _ _ r h => by simp [laws_markText.l0] at h
 | k + 1 => by
  have ih0 := laws_markText.mono_l k
  ·intro y0 y1; unfold laws_markText.l0
   repeat' first | (with_reducible first | exact ih0 _ _ | exact LeO.refl _ | exact LeO.none _ | refine LeO.ite ?_ ?_ | refine LeO.bind ?_ (fun _ => ?_)) | exact ih0 _ _ | exact LeO.none _ | refine LeO.ite ?_ ?_ | refine LeO.bind ?_ (fun _ => ?_)
theorem laws_markText.mono : ∀ a0 k, LeO (laws_markText.f k a0) (laws_markText.f (k + 1) a0) := by
 intro a0 k; have ih0 := laws_markText.mono_l k; unfold laws_markText.f
 repeat' first | (with_reducible first | exact ih0 _ _ | exact LeO.refl _ | exact LeO.none _ | refine LeO.ite ?_ ?_ | refine LeO.bind ?_ (fun _ => ?_)) | exact ih0 _ _ | exact LeO.none _ | refine LeO.ite ?_ ?_ | refine LeO.bind ?_ (fun _ => ?_)
set_option maxHeartbeats 8000000 in
set_option maxRecDepth 100000 in
theorem laws_markText.calls (k : Nat) (a0 : Int) (r : ByteArray) (w : World) (h : laws_markText.f k a0 = some r) :
  Calls Try.prog 90 #[.int .i64 a0] w fun e w' => e = .returned (.string r) ∧ Below w.heap.size w w' := by
 have HB := ak (Below.refl w.heap.size w); unfold laws_markText.f at h; have H := h; clear h; by_cases c2 : a0 ≤ 0
 ·rw [if_pos c2] at H; have c2b0 := decide_eq_true c2; clear c2; obtain rfl := Option.some.inj H; go_enter Try.func90, Try.ntmps90; go_wp2
  go_ret
  exact ⟨ew, vb HB.out⟩
 ·rw [if_neg c2] at H; have c2b0 := decide_eq_false c2; clear c2; have H' := ak H; clear H; go_enter Try.func90, Try.ntmps90; go_wp2
  go_loopg [0, 3] k (fun kq v0 v3 w' => ∃ (x0_1 : Int) (x3_1 : ByteArray), v0 = .int .i64 x0_1 ∧ v3 = .string x3_1 ∧ Aside0 (laws_markText.l0 kq x0_1 x3_1 = some r) ∧ Aside0 (kq ≤ k) ∧ Aside0 (Below w.heap.size w w'))
  case atStart => exact ⟨(a0), ((⟨#[]⟩ : ByteArray)), (by first | rfl | (simp; done) | (simp [*]; done)), (by first | rfl | (simp; done) | (simp [*]; done)), H', ⟨Nat.le_refl _⟩, ⟨vb HB.out⟩⟩
  case round =>
   clear H'; (try clear c2); (try clear c2b0); (try clear p2); obtain ⟨x0_1, x3_1, rfl, rfl, HA, HK1, HB⟩ := hrel
   cases gk with
   | zero => exact absurd HA.out (by simp [laws_markText.l0])
   | succ k1 =>
    have H := HA.out; clear HA; simp only [laws_markText.l0] at H
    by_cases c3 : x0_1 > 0
    ·rw [if_pos c3] at H; have c3b0 := decide_eq_true c3; clear c3; obtain ⟨y1024, Ny1024, H⟩ := bnE H; by_cases c4 : (strOfNums y1024).size + x3_1.size ≤ 9223372036854775807
     ·rw [if_pos c4] at H; have c4b0 := eq_true c4; have c4b1 : decide ((strOfNums y1024).size + x3_1.size ≤ 9223372036854775807) = true := decide_eq_true c4; (try have c4b2 : (9223372036854775807 < (strOfNums y1024).size + x3_1.size) = False := eq_false (Nat.not_lt.2 c4))
      have H' := ak H; clear H; go_wp2_with (first | ((with_reducible refine gate_dst (N := 12) rfl ?_); refine Kd.R_lit (Kd.int .u8) _ 5 ?hg (N := 12) ?hd (xs := ([(wrap64 (48 + (Int.tmod x0_1 10))) % 256] : List Int)) (inner := [.int .u8 ((wrap64 (48 + (Int.tmod x0_1 10))) % 256)]) (ok := fun _ => True) (okp := fun _ => True) ?hr ?hp (fun _ hk => hk) trivial (Below.refl _ _) (Nat.le_refl _) (by simp) ?_; (case hd => rfl); (case hg => rfl); (case hr => first | (go_simp; done) | (go_simp; rfl)); (case hp => exact (Reps.one (show Kd.M (Kd.int .u8) _ _ _ ((wrap64 (48 + (Int.tmod x0_1 10))) % 256) [.int .u8 ((wrap64 (48 + (Int.tmod x0_1 10))) % 256)] from rfl) (Reps.none _ _))); intro v1025 w5 ho6 hb hg_ hnew_; clear hg_ hnew_; (first | rw [← Ny1024.out] at ho6 | (simp only [Int.reduceToNat] at ho6; rw [← Ny1024.out] at ho6)); have HO1026 := ak (Kd.R_lower ho6 (below_size (vb HB.out))); replace HB := bs HB hb; clear hb ho6; have hcv7 := own_string (P := Try.prog) Try.underlying51 Try.underlying5 Try.underlying9 (Kd.own_of_R HO1026.out)))
      go_roundg k1
      case measure => have := HK1.out; omega
      case rel => exact ⟨(wrap64 (Int.tdiv x0_1 10)), ((strOfNums y1024) ++ x3_1), (by first | rfl | (simp; done) | (simp [*]; done)), (by first | rfl | (simp; done) | (simp [*]; done)), H', ⟨by have := HK1.out; omega⟩, ⟨vb HB.out⟩⟩
     ·rw [if_neg c4] at H; exact absurd H (by simp)
    ·rw [if_neg c3] at H; have c3b0 := decide_eq_false c3; clear c3; by_cases c8 : 1 + x3_1.size ≤ 9223372036854775807
     ·rw [if_pos c8] at H; have c8b0 := eq_true c8; have c8b1 : decide (1 + x3_1.size ≤ 9223372036854775807) = true := decide_eq_true c8; (try have c8b2 : (9223372036854775807 < 1 + x3_1.size) = False := eq_false (Nat.not_lt.2 c8))
      obtain rfl := Option.some.inj H; go_wp2
      go_ret
      exact ⟨ew, vb HB.out⟩
     ·rw [if_neg c8] at H; exact absurd H (by simp)


/-! ### laws_markMoveS: function 58 -/
def laws_markMoveS.l0 : Nat → List (S111) → Int → Int → Option (Int × (List (S111)))
 | 0, _, _, _ => none
 | k + 1, x0, x1, x5 => if x5 < (x0.length : Int) then (if 0 ≤ x5 then ((some (x0.set (x5 : Int).toNat (⟨x1, (rd_T111 x0 x5).f1, (rd_T111 x0 x5).f2⟩ : S111) : List (S111))).bind fun y1027 => ((laws_markText.f k (wrap64 (x1 + 1))).bind fun t1028 => ((some (y1027.set (x5 : Int).toNat (⟨(rd_T111 y1027 x5).f0, t1028, (rd_T111 y1027 x5).f2⟩ : S111) : List (S111))).bind fun y1029 => (laws_markMoveS.l0 k (y1029.set (x5 : Int).toNat (⟨(rd_T111 y1029 x5).f0, (rd_T111 y1029 x5).f1, wrap64 ((wrap64 (x1 + 1)) + 1)⟩ : S111)) (wrap64 ((wrap64 ((wrap64 (x1 + 1)) + 1)) + 1)) (wrap64 (x5 + 1)))))) else (none)) else (some (x1, x0))
def laws_markMoveS.f (k : Nat) (l0 : List (S111)) (a1 : Int) : Option (Int × (List (S111))) := laws_markMoveS.l0 k l0 a1 0
theorem laws_markMoveS.mono_l : ∀ k, (∀ y0 y1 y2, LeO (laws_markMoveS.l0 k y0 y1 y2) (laws_markMoveS.l0 (k + 1) y0 y1 y2))
 | 0 => fun _ _ _ r h => by simp [laws_markMoveS.l0] at h
 | k + 1 => by
  have ih0 := laws_markMoveS.mono_l k
  ·intro y0 y1 y2; unfold laws_markMoveS.l0
   repeat' first | (with_reducible first | exact ih0 _ _ _ | exact laws_markText.mono _ _ | exact LeO.refl _ | exact LeO.none _ | refine LeO.ite ?_ ?_ | refine LeO.bind ?_ (fun _ => ?_)) | exact ih0 _ _ _ | exact laws_markText.mono _ _ | exact LeO.none _ | refine LeO.ite ?_ ?_ | refine LeO.bind ?_ (fun _ => ?_)
theorem laws_markMoveS.mono : ∀ a0 a1 k, LeO (laws_markMoveS.f k a0 a1) (laws_markMoveS.f (k + 1) a0 a1) := by
 intro a0 a1 k; have ih0 := laws_markMoveS.mono_l k; unfold laws_markMoveS.f
 repeat' first | (with_reducible first | exact ih0 _ _ _ | exact laws_markText.mono _ _ | exact LeO.refl _ | exact LeO.none _ | refine LeO.ite ?_ ?_ | refine LeO.bind ?_ (fun _ => ?_)) | exact ih0 _ _ _ | exact laws_markText.mono _ _ | exact LeO.none _ | refine LeO.ite ?_ ?_ | refine LeO.bind ?_ (fun _ => ?_)
set_option maxHeartbeats 8000000 in
set_option maxRecDepth 100000 in
theorem laws_markMoveS.calls (k : Nat) (P0_ : Nat → Prop) (u9000_ : Value) (l0 : List (S111)) (a1 : Int) (r1 : Int) (r2 : List (S111)) (w0 w : World) (hB : Below w0.heap.size w0 w) (ho0 : Kd.R k111 111 w w0.heap.size P0_ u9000_ l0) (h : laws_markMoveS.f k l0 a1 = some (r1, r2)) :
  Calls Try.prog 58 #[u9000_, .int .i64 a1] w fun e w' => e = .returned (.int .i64 r1) ∧ Kd.R k111 111 w' w0.heap.size (fun k_ => (P0_ k_ ∨ w.heap.size ≤ k_)) u9000_ r2 ∧ Below w0.heap.size w0 w' ∧ Kept w w' (fun k_ => P0_ k_) := by
 have HO0 := ak (show Kd.R k111 111 w w0.heap.size (fun k_ => (P0_ k_ ∨ w.heap.size ≤ k_)) u9000_ l0 from Kd.R_mono ho0 (fun k_ hk => (.inl hk))); have HK := ak (Kept.refl w (fun k_ => P0_ k_)); have HW0 := ak hB.size; have HB := ak hB; clear hB; unfold laws_markMoveS.f at h; have H := h; clear h; have H' := ak H; clear H; go_enter Try.func58, Try.ntmps58; go_wp2
 go_loopg [1, 5] k (fun kq v1 v5 w' => ∃ (x0_1 : List (S111)) (x1_1 : Int) (x5_1 : Int), v1 = .int .i64 x1_1 ∧ v5 = .int .i64 x5_1 ∧ Aside0 (laws_markMoveS.l0 kq x0_1 x1_1 x5_1 = some (r1, r2)) ∧ Aside0 (kq ≤ k) ∧ Aside0 (Kd.R k111 111 w' w0.heap.size (fun k_ => (P0_ k_ ∨ w.heap.size ≤ k_)) u9000_ x0_1) ∧ Aside0 (Kept w w' (fun k_ => P0_ k_)) ∧ Aside0 (Below w0.heap.size w0 w'))
 case atStart => exact ⟨(l0), (a1), (0), (by first | rfl | (simp; done) | (simp [*]; done)), (by first | rfl | (simp; done) | (simp [*]; done)), H', ⟨Nat.le_refl _⟩, ⟨by (with_reducible repeat (first | apply Kd.R_alloc | apply Kd.R_drewN | apply Kd.R_drew)); exact HO0.out⟩, ⟨by repeat (first | (with_reducible first | exact HK.out | apply Kept.alloc | apply Kept.drewN | apply Kept.drew) | exact HK.out)⟩, ⟨vb HB.out⟩⟩
 case round =>
  clear H'; (try clear p2); obtain ⟨x0_1, x1_1, x5_1, rfl, rfl, HA, HK1, HO_0, HK, HB⟩ := hrel
  cases gk with
  | zero => exact absurd HA.out (by simp [laws_markMoveS.l0])
  | succ k1 =>
   have H := HA.out; clear HA; simp only [laws_markMoveS.l0] at H
   by_cases c3 : x5_1 < (x0_1.length : Int)
   ·rw [if_pos c3] at H; have c3b0 := decide_eq_true c3; clear c3; by_cases c4 : 0 ≤ x5_1
    ·rw [if_pos c4] at H; have c4b0 := decide_eq_true c4; clear c4; obtain ⟨y1027, Ny1027, H⟩ := bnE H; obtain ⟨t1028, A6, H⟩ := bnk H; obtain ⟨y1029, Ny1029, H⟩ := bnE H; obtain ⟨y1030, hy1030⟩ := gen_ ((y1029.set (x5_1 : Int).toNat (⟨(rd_T111 y1029 x5_1).f0, (rd_T111 y1029 x5_1).f1, wrap64 ((wrap64 (x1_1 + 1)) + 1)⟩ : S111) : List (S111))); rw [← hy1030] at H; have Ny1030 := ak hy1030; clear hy1030; have H' := ak H; clear H; obtain ⟨Ao9, co9, eo9⟩ := Kd.R_slice HO_0.out; subst eo9; have p5 : 0 ≤ (x5_1 : Int) := od; have q5 : (x5_1 : Int) < ((x0_1.length : Int) : Int) := od; obtain ⟨go5, co5, eo5, gb5, gl5, cl5, HG5⟩ := Kd.R_form HO_0.out (by omega); (first | cases eo5 | (injection eo5 with ea_ en_ ec_; (first | subst ea_ | (injection ea_ with ea_; subst ea_)); subst ec_; clear en_))
     have GB5 := ak gb5; have GG5 := ak HG5; clear gb5 gl5 HG5; have HMgo5 := ak (show (P0_ go5 ∨ w.heap.size ≤ go5) from (HO_0.out.1 _ rfl)); obtain ⟨ce5, hcl5, hM5, hcc5, hfr5⟩ := Kd.R_elem HO_0.out z111 (x5_1 : Int) p5 q5; obtain rfl := k111_openM hM5; have hx5_0 : wr.cell? ⟨go5, (x5_1 : Int).toNat * 3, none⟩ = some (.int .i64 ((rd_T111 x0_1 x5_1).f0)) := hcc5 0 _ rfl; have hx5_1 : wr.cell? ⟨go5, (x5_1 : Int).toNat * 3 + 1, none⟩ = some (.string ((rd_T111 x0_1 x5_1).f1)) := hcc5 1 _ rfl; have hx5_2 : wr.cell? ⟨go5, (x5_1 : Int).toNat * 3 + 2, none⟩ = some (.int .i64 ((rd_T111 x0_1 x5_1).f2)) := hcc5 2 _ rfl; have hf5_0 : wr.frozen? ⟨go5, (x5_1 : Int).toNat * 3, none⟩ = false := hfr5 0; have hf5_1 : wr.frozen? ⟨go5, (x5_1 : Int).toNat * 3 + 1, none⟩ = false := hfr5 1; have hf5_2 : wr.frozen? ⟨go5, (x5_1 : Int).toNat * 3 + 2, none⟩ = false := hfr5 2; clear hcl5 hcc5 hfr5 hM5; replace p5 := eq_true p5; replace q5 := eq_true q5; have HX10 := ak (show Kd.R k111 111 wr w0.heap.size (fun k_ => (P0_ k_ ∨ w.heap.size ≤ k_)) (.slice (some ⟨go5, 0, none⟩) x0_1.length co9) x0_1 from (vr HO_0.out)); obtain ⟨ce10, hcl10, hM10, hcc10, hfr10⟩ := Kd.R_elem HX10.out z111 (x5_1 : Int) (od) (by have h_ : (x5_1 : Int) < ((x0_1.length : Int) : Int) := od; first | exact h_ | (have e_ := (Kd.R_reads' HO_0.out).1; omega) | simpa using h_); obtain rfl := k111_openM hM10; have HP10 := Kd.R_seg HX10.out (x5_1 : Int) (od) (by have h_ : (x5_1 : Int) < ((x0_1.length : Int) : Int) := od; first | exact h_ | (have e_ := (Kd.R_reads' HO_0.out).1; omega) | simpa using h_) (seg := [.int .i64 x1_1]) (j := 0) hcl10 hcc10 (show 1 ≤ 3 from by decide) (x' := (⟨x1_1, (rd_T111 x0_1 x5_1).f1, (rd_T111 x0_1 x5_1).f2⟩ : S111)) (k111_mkM _ _ _ (⟨x1_1, (rd_T111 x0_1 x5_1).f1, (rd_T111 x0_1 x5_1).f2⟩ : S111) ) (fun _ hk => hk)
     have hx10_0 := hcc10 0 _ rfl; (try simp only [show (k111).sz = 3 from rfl, Nat.mul_one, Nat.add_zero] at hx10_0)
     have hf10_0 := hfr10 0; (try simp only [show (k111).sz = 3 from rfl, Nat.mul_one, Nat.add_zero] at hf10_0)
     clear hcl10 hcc10 hfr10 hM10; go_wp2_with (first | ((with_reducible refine gate_store (t := 2) (p := 16) rfl ?_); refine store_event (t := 2) (p := 16) (v := ?vo_w11) (w1 := (wr.setCell ⟨go5, (x5_1 : Int).toNat * 3, none⟩ (.int .i64 x1_1))) ?hg ?ho ?hn ?hr ?_; (case ho => rfl); (case hg => rfl); (case hn => rfl); (case hr => first | (go_simp; done) | (go_simp; rfl)); intro w11 hw; have hg : wr.grownBy w11 (some go5) := (by rw [hw]; exact HP10.2); have hp_ : Kd.R k111 111 w11 w0.heap.size (fun k_ => (P0_ k_ ∨ w.heap.size ≤ k_)) (.slice (some ⟨go5, 0, none⟩) x0_1.length co9) y1027 := (by rw [hw, Ny1027.out]; exact HP10.1); clear HP10; replace HB := ak ((by rw [hw]; exact below_set (HB.out) GB5.out : Below w0.heap.size w0 w11)); replace HK := ak (Kept.of_grown (S := (fun k_ => P0_ k_)) hg (by repeat (first | (with_reducible first | exact HK.out | apply Kept.alloc | apply Kept.drewN | apply Kept.drew) | exact HK.out)) (fun k_ e_ => (HO_0.out.1 k_ e_))); replace HO_0 := ak (hp_); clear hg hw hp_) | ((with_reducible refine at_fn (f := 90) rfl ?_); refine gl (some 22) Try.func90 #[.int .i64 (wrap64 (x1_1 + 1))] ?_; (with_reducible refine (laws_markText.calls k1 (wrap64 (x1_1 + 1)) t1028 _ A6.out).mono ?_); rintro e w12 ⟨rfl, hb⟩; refine ⟨_, rfl, ?_⟩; replace HO_0 := ak (Kd.R_below (vr HO_0.out) hb); replace HK := ak (Kept.below (S := (fun k_ => P0_ k_)) (by repeat (first | (with_reducible first | exact HK.out | apply Kept.alloc | apply Kept.drewN | apply Kept.drew) | exact HK.out)) hb); replace HB := bs HB hb; (try clear hb); (try clear hb2); (try clear hk); (try clear hi); have p7 : 0 ≤ (x5_1 : Int) := od; have q7 : (x5_1 : Int) < ((x0_1.length : Int) : Int) := od; obtain ⟨ce7, hcl7, hM7, hcc7, hfr7⟩ := Kd.R_elem HO_0.out z111 (x5_1 : Int) p7 q7; obtain rfl := k111_openM hM7; have hx7_0 : w12.cell? ⟨go5, (x5_1 : Int).toNat * 3, none⟩ = some (.int .i64 ((rd_T111 y1027 x5_1).f0)) := hcc7 0 _ rfl; have hx7_1 : w12.cell? ⟨go5, (x5_1 : Int).toNat * 3 + 1, none⟩ = some (.string ((rd_T111 y1027 x5_1).f1)) := hcc7 1 _ rfl; have hx7_2 : w12.cell? ⟨go5, (x5_1 : Int).toNat * 3 + 2, none⟩ = some (.int .i64 ((rd_T111 y1027 x5_1).f2)) := hcc7 2 _ rfl; have hf7_0 : w12.frozen? ⟨go5, (x5_1 : Int).toNat * 3, none⟩ = false := hfr7 0; have hf7_1 : w12.frozen? ⟨go5, (x5_1 : Int).toNat * 3 + 1, none⟩ = false := hfr7 1; have hf7_2 : w12.frozen? ⟨go5, (x5_1 : Int).toNat * 3 + 2, none⟩ = false := hfr7 2; clear hcl7 hcc7 hfr7 hM7; replace p7 := eq_true p7; replace q7 := eq_true q7; have HX13 := ak (show Kd.R k111 111 w12 w0.heap.size (fun k_ => (P0_ k_ ∨ w.heap.size ≤ k_)) (.slice (some ⟨go5, 0, none⟩) x0_1.length co9) y1027 from (vr HO_0.out)); obtain ⟨ce13, hcl13, hM13, hcc13, hfr13⟩ := Kd.R_elem HX13.out z111 (x5_1 : Int) (od) (by have h_ : (x5_1 : Int) < ((x0_1.length : Int) : Int) := od; first | exact h_ | (have e_ := (Kd.R_reads' HO_0.out).1; omega) | simpa using h_); obtain rfl := k111_openM hM13; have HP13 := Kd.R_seg HX13.out (x5_1 : Int) (od) (by have h_ : (x5_1 : Int) < ((x0_1.length : Int) : Int) := od; first | exact h_ | (have e_ := (Kd.R_reads' HO_0.out).1; omega) | simpa using h_) (seg := [.string t1028]) (j := 1) hcl13 hcc13 (show 2 ≤ 3 from by decide) (x' := (⟨(rd_T111 y1027 x5_1).f0, t1028, (rd_T111 y1027 x5_1).f2⟩ : S111)) (k111_mkM _ _ _ (⟨(rd_T111 y1027 x5_1).f0, t1028, (rd_T111 y1027 x5_1).f2⟩ : S111) ) (fun _ hk => hk); have hx13_1 := hcc13 1 _ rfl; (try simp only [show (k111).sz = 3 from rfl, Nat.mul_one, Nat.add_zero] at hx13_1); have hf13_1 := hfr13 1; (try simp only [show (k111).sz = 3 from rfl, Nat.mul_one, Nat.add_zero] at hf13_1); clear hcl13 hcc13 hfr13 hM13) | ((with_reducible refine gate_store (t := 9) (p := 24) rfl ?_); refine store_event (t := 9) (p := 24) (v := ?vo_w14) (w1 := (w12.setCell ⟨go5, (x5_1 : Int).toNat * 3 + 1, none⟩ (.string t1028))) ?hg ?ho ?hn ?hr ?_; (case ho => rfl); (case hg => rfl); (case hn => rfl); (case hr => first | (go_simp; done) | (go_simp; rfl)); intro w14 hw; have hg : w12.grownBy w14 (some go5) := (by rw [hw]; exact HP13.2); have hp_ : Kd.R k111 111 w14 w0.heap.size (fun k_ => (P0_ k_ ∨ w.heap.size ≤ k_)) (.slice (some ⟨go5, 0, none⟩) x0_1.length co9) y1029 := (by rw [hw, Ny1029.out]; exact HP13.1); clear HP13; replace HB := ak ((by rw [hw]; exact below_set (HB.out) GB5.out : Below w0.heap.size w0 w14)); replace HK := ak (Kept.of_grown (S := (fun k_ => P0_ k_)) hg (by repeat (first | (with_reducible first | exact HK.out | apply Kept.alloc | apply Kept.drewN | apply Kept.drew) | exact HK.out)) (fun k_ e_ => (HO_0.out.1 k_ e_))); replace HO_0 := ak (hp_); clear hg hw hp_; have p8 : 0 ≤ (x5_1 : Int) := od; have q8 : (x5_1 : Int) < ((x0_1.length : Int) : Int) := od; obtain ⟨ce8, hcl8, hM8, hcc8, hfr8⟩ := Kd.R_elem HO_0.out z111 (x5_1 : Int) p8 q8; obtain rfl := k111_openM hM8; have hx8_0 : w14.cell? ⟨go5, (x5_1 : Int).toNat * 3, none⟩ = some (.int .i64 ((rd_T111 y1029 x5_1).f0)) := hcc8 0 _ rfl; have hx8_1 : w14.cell? ⟨go5, (x5_1 : Int).toNat * 3 + 1, none⟩ = some (.string ((rd_T111 y1029 x5_1).f1)) := hcc8 1 _ rfl; have hx8_2 : w14.cell? ⟨go5, (x5_1 : Int).toNat * 3 + 2, none⟩ = some (.int .i64 ((rd_T111 y1029 x5_1).f2)) := hcc8 2 _ rfl; have hf8_0 : w14.frozen? ⟨go5, (x5_1 : Int).toNat * 3, none⟩ = false := hfr8 0; have hf8_1 : w14.frozen? ⟨go5, (x5_1 : Int).toNat * 3 + 1, none⟩ = false := hfr8 1; have hf8_2 : w14.frozen? ⟨go5, (x5_1 : Int).toNat * 3 + 2, none⟩ = false := hfr8 2; clear hcl8 hcc8 hfr8 hM8; replace p8 := eq_true p8; replace q8 := eq_true q8; have HX15 := ak (show Kd.R k111 111 w14 w0.heap.size (fun k_ => (P0_ k_ ∨ w.heap.size ≤ k_)) (.slice (some ⟨go5, 0, none⟩) x0_1.length co9) y1029 from (vr HO_0.out)); obtain ⟨ce15, hcl15, hM15, hcc15, hfr15⟩ := Kd.R_elem HX15.out z111 (x5_1 : Int) (od) (by have h_ : (x5_1 : Int) < ((x0_1.length : Int) : Int) := od; first | exact h_ | (have e_ := (Kd.R_reads' HO_0.out).1; omega) | simpa using h_); obtain rfl := k111_openM hM15; have HP15 := Kd.R_seg HX15.out (x5_1 : Int) (od) (by have h_ : (x5_1 : Int) < ((x0_1.length : Int) : Int) := od; first | exact h_ | (have e_ := (Kd.R_reads' HO_0.out).1; omega) | simpa using h_) (seg := [.int .i64 (wrap64 ((wrap64 (x1_1 + 1)) + 1))]) (j := 2) hcl15 hcc15 (show 3 ≤ 3 from by decide) (x' := (⟨(rd_T111 y1029 x5_1).f0, (rd_T111 y1029 x5_1).f1, wrap64 ((wrap64 (x1_1 + 1)) + 1)⟩ : S111)) (k111_mkM _ _ _ (⟨(rd_T111 y1029 x5_1).f0, (rd_T111 y1029 x5_1).f1, wrap64 ((wrap64 (x1_1 + 1)) + 1)⟩ : S111) ) (fun _ hk => hk); have hx15_2 := hcc15 2 _ rfl; (try simp only [show (k111).sz = 3 from rfl, Nat.mul_one, Nat.add_zero] at hx15_2); have hf15_2 := hfr15 2; (try simp only [show (k111).sz = 3 from rfl, Nat.mul_one, Nat.add_zero] at hf15_2); clear hcl15 hcc15 hfr15 hM15) | ((with_reducible refine gate_store (t := 2) (p := 31) rfl ?_); refine store_event (t := 2) (p := 31) (v := ?vo_w16) (w1 := (w14.setCell ⟨go5, (x5_1 : Int).toNat * 3 + 2, none⟩ (.int .i64 (wrap64 ((wrap64 (x1_1 + 1)) + 1))))) ?hg ?ho ?hn ?hr ?_; (case ho => rfl); (case hg => rfl); (case hn => rfl); (case hr => first | (go_simp; done) | (go_simp; rfl)); intro w16 hw; have hg : w14.grownBy w16 (some go5) := (by rw [hw]; exact HP15.2); have hp_ : Kd.R k111 111 w16 w0.heap.size (fun k_ => (P0_ k_ ∨ w.heap.size ≤ k_)) (.slice (some ⟨go5, 0, none⟩) x0_1.length co9) y1030 := (by rw [hw, Ny1030.out]; exact HP15.1); clear HP15; replace HB := ak ((by rw [hw]; exact below_set (HB.out) GB5.out : Below w0.heap.size w0 w16)); replace HK := ak (Kept.of_grown (S := (fun k_ => P0_ k_)) hg (by repeat (first | (with_reducible first | exact HK.out | apply Kept.alloc | apply Kept.drewN | apply Kept.drew) | exact HK.out)) (fun k_ e_ => (HO_0.out.1 k_ e_))); replace HO_0 := ak (hp_); clear hg hw hp_))
     go_roundg k1
     case measure => have := HK1.out; omega
     case rel => exact ⟨(y1030), (wrap64 ((wrap64 ((wrap64 (x1_1 + 1)) + 1)) + 1)), (wrap64 (x5_1 + 1)), (by first | rfl | (simp; done) | (simp [*]; done)), (by first | rfl | (simp; done) | (simp [*]; done)), H', ⟨by have := HK1.out; omega⟩, ⟨by (with_reducible repeat (first | apply Kd.R_alloc | apply Kd.R_drewN | apply Kd.R_drew)); exact HO_0.out⟩, ⟨by repeat (first | (with_reducible first | exact HK.out | apply Kept.alloc | apply Kept.drewN | apply Kept.drew) | exact HK.out)⟩, ⟨vb HB.out⟩⟩
    ·rw [if_neg c4] at H; exact absurd H (by simp)
   ·rw [if_neg c3] at H; have c3b0 := decide_eq_false c3; clear c3; simp only [Option.some.injEq, Prod.mk.injEq] at H
    obtain ⟨rfl, rfl⟩ := H; obtain ⟨Ao17, co17, eo17⟩ := Kd.R_slice HO_0.out; subst eo17; go_wp2
    go_ret
    exact ⟨ew, by (with_reducible repeat (first | apply Kd.R_alloc | apply Kd.R_drewN | apply Kd.R_drew)); exact HO_0.out, vb HB.out, by repeat (first | (with_reducible first | exact HK.out | apply Kept.alloc | apply Kept.drewN | apply Kept.drew) | exact HK.out)⟩


/-! ### laws_markStringS: function 59 -/
def laws_markStringS.l0 : Nat → List ByteArray → Int → Int → Option (Int × List ByteArray)
 | 0, _, _, _ => none
 | k + 1, x0, x1, x5 => if x5 < (x0.length : Int) then ((laws_markText.f k x1).bind fun t1031 => (if 0 ≤ x5 then (laws_markStringS.l0 k (x0.set (x5 : Int).toNat t1031) (wrap64 (x1 + 1)) (wrap64 (x5 + 1))) else (none))) else (some (x1, x0))
def laws_markStringS.f (k : Nat) (l0 : List ByteArray) (a1 : Int) : Option (Int × List ByteArray) := laws_markStringS.l0 k l0 a1 0
theorem laws_markStringS.mono_l : ∀ k, (∀ y0 y1 y2, LeO (laws_markStringS.l0 k y0 y1 y2) (laws_markStringS.l0 (k + 1) y0 y1 y2))
 | 0 => fun _ _ _ r h => by simp [laws_markStringS.l0] at h
 | k + 1 => by
  have ih0 := laws_markStringS.mono_l k
  ·intro y0 y1 y2; unfold laws_markStringS.l0
   repeat' first | (with_reducible first | exact ih0 _ _ _ | exact laws_markText.mono _ _ | exact LeO.refl _ | exact LeO.none _ | refine LeO.ite ?_ ?_ | refine LeO.bind ?_ (fun _ => ?_)) | exact ih0 _ _ _ | exact laws_markText.mono _ _ | exact LeO.none _ | refine LeO.ite ?_ ?_ | refine LeO.bind ?_ (fun _ => ?_)
theorem laws_markStringS.mono : ∀ a0 a1 k, LeO (laws_markStringS.f k a0 a1) (laws_markStringS.f (k + 1) a0 a1) := by
 intro a0 a1 k; have ih0 := laws_markStringS.mono_l k; unfold laws_markStringS.f
 repeat' first | (with_reducible first | exact ih0 _ _ _ | exact laws_markText.mono _ _ | exact LeO.refl _ | exact LeO.none _ | refine LeO.ite ?_ ?_ | refine LeO.bind ?_ (fun _ => ?_)) | exact ih0 _ _ _ | exact laws_markText.mono _ _ | exact LeO.none _ | refine LeO.ite ?_ ?_ | refine LeO.bind ?_ (fun _ => ?_)
set_option maxHeartbeats 8000000 in
set_option maxRecDepth 100000 in
theorem laws_markStringS.calls (k : Nat) (P0_ : Nat → Prop) (u9000_ : Value) (l0 : List ByteArray) (a1 : Int) (r1 : Int) (r2 : List ByteArray) (w0 w : World) (hB : Below w0.heap.size w0 w) (ho0 : Kd.R Kd.string 9 w w0.heap.size P0_ u9000_ l0) (h : laws_markStringS.f k l0 a1 = some (r1, r2)) :
  Calls Try.prog 59 #[u9000_, .int .i64 a1] w fun e w' => e = .returned (.int .i64 r1) ∧ Kd.R Kd.string 9 w' w0.heap.size (fun k_ => (P0_ k_ ∨ w.heap.size ≤ k_)) u9000_ r2 ∧ Below w0.heap.size w0 w' ∧ Kept w w' (fun k_ => P0_ k_) := by
 have HO0 := ak (show Kd.R Kd.string 9 w w0.heap.size (fun k_ => (P0_ k_ ∨ w.heap.size ≤ k_)) u9000_ l0 from Kd.R_mono ho0 (fun k_ hk => (.inl hk))); have HK := ak (Kept.refl w (fun k_ => P0_ k_)); have HW0 := ak hB.size; have HB := ak hB; clear hB; unfold laws_markStringS.f at h; have H := h; clear h; have H' := ak H; clear H; go_enter Try.func59, Try.ntmps59; go_wp2
 go_loopg [1, 5] k (fun kq v1 v5 w' => ∃ (x0_1 : List ByteArray) (x1_1 : Int) (x5_1 : Int), v1 = .int .i64 x1_1 ∧ v5 = .int .i64 x5_1 ∧ Aside0 (laws_markStringS.l0 kq x0_1 x1_1 x5_1 = some (r1, r2)) ∧ Aside0 (kq ≤ k) ∧ Aside0 (Kd.R Kd.string 9 w' w0.heap.size (fun k_ => (P0_ k_ ∨ w.heap.size ≤ k_)) u9000_ x0_1) ∧ Aside0 (Kept w w' (fun k_ => P0_ k_)) ∧ Aside0 (Below w0.heap.size w0 w'))
 case atStart => exact ⟨(l0), (a1), (0), (by first | rfl | (simp; done) | (simp [*]; done)), (by first | rfl | (simp; done) | (simp [*]; done)), H', ⟨Nat.le_refl _⟩, ⟨by (with_reducible repeat (first | apply Kd.R_alloc | apply Kd.R_drewN | apply Kd.R_drew)); exact HO0.out⟩, ⟨by repeat (first | (with_reducible first | exact HK.out | apply Kept.alloc | apply Kept.drewN | apply Kept.drew) | exact HK.out)⟩, ⟨vb HB.out⟩⟩
 case round =>
  clear H'; (try clear p2); obtain ⟨x0_1, x1_1, x5_1, rfl, rfl, HA, HK1, HO_0, HK, HB⟩ := hrel
  cases gk with
  | zero => exact absurd HA.out (by simp [laws_markStringS.l0])
  | succ k1 =>
   have H := HA.out; clear HA; simp only [laws_markStringS.l0] at H
   by_cases c3 : x5_1 < (x0_1.length : Int)
   ·rw [if_pos c3] at H; have c3b0 := decide_eq_true c3; clear c3; obtain ⟨t1031, A4, H⟩ := bnk H; by_cases c5 : 0 ≤ x5_1
    ·rw [if_pos c5] at H; have c5b0 := decide_eq_true c5; clear c5; obtain ⟨y1032, hy1032⟩ := gen_ ((x0_1.set (x5_1 : Int).toNat t1031 : List ByteArray)); rw [← hy1032] at H; have Ny1032 := ak hy1032; clear hy1032; have H' := ak H; clear H; obtain ⟨Ao7, co7, eo7⟩ := Kd.R_slice HO_0.out; subst eo7; go_wp2_with (first | ((with_reducible refine at_fn (f := 90) rfl ?_); refine gl (some 15) Try.func90 #[.int .i64 x1_1] ?_; (with_reducible refine (laws_markText.calls k1 x1_1 t1031 _ A4.out).mono ?_); rintro e w8 ⟨rfl, hb⟩; refine ⟨_, rfl, ?_⟩; replace HO_0 := ak (Kd.R_below (vr HO_0.out) hb); replace HK := ak (Kept.below (S := (fun k_ => P0_ k_)) (by repeat (first | (with_reducible first | exact HK.out | apply Kept.alloc | apply Kept.drewN | apply Kept.drew) | exact HK.out)) hb); replace HB := bs HB hb; (try clear hb); (try clear hb2); (try clear hk); (try clear hi); have p6 : 0 ≤ (x5_1 : Int) := od; have q6 : (x5_1 : Int) < ((x0_1.length : Int) : Int) := od; obtain ⟨go6, co6, eo6, gb6, gl6, cl6, HG6⟩ := Kd.R_form HO_0.out (by omega); (first | cases eo6 | (injection eo6 with ea_ en_ ec_; (first | subst ea_ | (injection ea_ with ea_; subst ea_)); subst ec_; clear en_)); have GB6 := ak gb6; have GG6 := ak HG6; clear gb6 gl6 HG6; have HMgo6 := ak (show (P0_ go6 ∨ w.heap.size ≤ go6) from (HO_0.out.1 _ rfl)); obtain ⟨hx6_0, hf6_0⟩ := Kd.R_celln (⟨#[]⟩ : ByteArray) HO_0.out (x5_1 : Int) p6 q6; replace p6 := eq_true p6; replace q6 := eq_true q6; obtain ⟨hy9_, hz9_⟩ := Kd.R_celln (⟨#[]⟩ : ByteArray) HO_0.out (x5_1 : Int) (od) (od); have HP9 := Kd.R_putg HO_0.out (x5_1 : Int) t1031) | ((with_reducible refine gate_store (t := 9) (p := 16) rfl ?_); refine store_event (t := 9) (p := 16) (v := ?vo_w10) (w1 := (w8.setCell ⟨go6, (x5_1 : Int).toNat, none⟩ (.string t1031))) ?hg ?ho ?hn ?hr ?_; (case ho => rfl); (case hg => rfl); (case hn => rfl); (case hr => first | (go_simp; done) | (go_simp; rfl)); intro w10 hw; have hg : w8.grownBy w10 (some go6) := (by rw [hw]; exact HP9.2); have hp_ : Kd.R Kd.string 9 w10 w0.heap.size (fun k_ => (P0_ k_ ∨ w.heap.size ≤ k_)) (.slice (some ⟨go6, 0, none⟩) x0_1.length co7) y1032 := (by rw [hw, Ny1032.out]; exact HP9.1); clear HP9; replace HB := ak ((by rw [hw]; exact below_set (HB.out) GB6.out : Below w0.heap.size w0 w10)); replace HK := ak (Kept.of_grown (S := (fun k_ => P0_ k_)) hg (by repeat (first | (with_reducible first | exact HK.out | apply Kept.alloc | apply Kept.drewN | apply Kept.drew) | exact HK.out)) (fun k_ e_ => (HO_0.out.1 k_ e_))); replace HO_0 := ak (hp_); clear hg hw hp_))
     go_roundg k1
     case measure => have := HK1.out; omega
     case rel => exact ⟨(y1032), (wrap64 (x1_1 + 1)), (wrap64 (x5_1 + 1)), (by first | rfl | (simp; done) | (simp [*]; done)), (by first | rfl | (simp; done) | (simp [*]; done)), H', ⟨by have := HK1.out; omega⟩, ⟨by (with_reducible repeat (first | apply Kd.R_alloc | apply Kd.R_drewN | apply Kd.R_drew)); exact HO_0.out⟩, ⟨by repeat (first | (with_reducible first | exact HK.out | apply Kept.alloc | apply Kept.drewN | apply Kept.drew) | exact HK.out)⟩, ⟨vb HB.out⟩⟩
    ·rw [if_neg c5] at H; exact absurd H (by simp)
   ·rw [if_neg c3] at H; have c3b0 := decide_eq_false c3; clear c3; simp only [Option.some.injEq, Prod.mk.injEq] at H
    obtain ⟨rfl, rfl⟩ := H; obtain ⟨Ao11, co11, eo11⟩ := Kd.R_slice HO_0.out; subst eo11; go_wp2
    go_ret
    exact ⟨ew, by (with_reducible repeat (first | apply Kd.R_alloc | apply Kd.R_drewN | apply Kd.R_drew)); exact HO_0.out, vb HB.out, by repeat (first | (with_reducible first | exact HK.out | apply Kept.alloc | apply Kept.drewN | apply Kept.drew) | exact HK.out)⟩


end Go.Proofs.Ytjgbncpbenmjoaa.Pall
