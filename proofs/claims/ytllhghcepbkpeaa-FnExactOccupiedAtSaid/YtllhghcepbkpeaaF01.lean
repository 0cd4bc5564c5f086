/- Go functions of the program, each as a Lean function, and the proof that each call comes to what the Lean function tells; no condition beyond those that stand there. -/
import Derived.Test.YtllhghcepbkpeaaF00
import Derived.Test.YtllhghcepbkpeaaSpare
import Derived.Test.YtllhghcepbkpeaaCm
import Derived.Test.YtllhghcepbkpeaaCm3
namespace Go.Proofs.Ytllhghcepbkpeaa.Pall
open Go.RowKit Go.Proofs.YtllhghcepbkpeaaW.PrintWords
set_option linter.unusedVariables false
set_option linter.unusedSimpArgs false

/-! ### laws_szMove: function 26 -/
def laws_szMove.f (a0_0 : Int) (a0_1 : ByteArray) (a0_2 : Int) (a1 : Int) : Option (Int) := if (wrap64 (a1 - (a0_1.size : Int))) < 0 then (some (-1)) else (some (wrap64 (a1 - (a0_1.size : Int))))
set_option maxHeartbeats 8000000 in
set_option maxRecDepth 100000 in
theorem laws_szMove.calls (a0_0 : Int) (a0_1 : ByteArray) (a0_2 : Int) (a1 : Int) (r : Int) (w : World) (h : laws_szMove.f a0_0 a0_1 a0_2 a1 = some r) :
  Calls Try.prog 26 #[.agg #[.int .i64 a0_0, .string a0_1, .int .i64 a0_2], .int .i64 a1] w fun e w' => e = .returned (.int .i64 r) ∧ Below w.heap.size w w' := by
 have hu38 := Try.underlying38; have HB := ak (Below.refl w.heap.size w); unfold laws_szMove.f at h; have H := h; clear h; by_cases c3 : (wrap64 (a1 - (a0_1.size : Int))) < 0
 rw [if_pos c3] at H; have c3b0 := decide_eq_true c3; clear c3; obtain rfl := Option.some.inj H; rotate_left
 rw [if_neg c3] at H; have c3b0 := decide_eq_false c3; clear c3; obtain rfl := Option.some.inj H; rotate_left
 all_goals
  go_enter Try.func26, Try.ntmps26; go_wp2_with (first | ((with_reducible refine gate_dst (N := 2) rfl ?_); refine bx 2 #[.int .i64 a0_0, .string a0_1, .int .i64 a0_2] 38 ?_; intro gb101 hg w9 hbox hb; have BK101 := ak hbox; have GW101 := gw hg HB; have GE101 := gw hg HB; replace HB := bs HB hb; clear hb hbox hg; have hcz9 := cz3 BK101.out))
  go_ret
  exact ⟨ew, vb HB.out⟩


/-! ### laws_szMoveS: function 15 -/
def laws_szMoveS.l0 : Nat → List (S38) → Int → Int → Option (Int)
 | 0, _, _, _ => none
 | k + 1, x0, x1, x5 => if x5 < (x0.length : Int) then (if 0 ≤ x5 then ((laws_szMove.f ((rd_T38 x0 x5).f0) ((rd_T38 x0 x5).f1) ((rd_T38 x0 x5).f2) x1).bind fun t103 => (if t103 < 0 then (some (-1)) else (laws_szMoveS.l0 k x0 t103 (wrap64 (x5 + 1))))) else (none)) else (some x1)
def laws_szMoveS.f (k : Nat) (l0 : List (S38)) (a1 : Int) : Option (Int) := if (wrap64 (a1 - (l0.length : Int))) < 0 then (some (-1)) else (laws_szMoveS.l0 k l0 (wrap64 (a1 - (l0.length : Int))) 0)
theorem laws_szMoveS.mono_l : ∀ k, (∀ y0 y1 y2, LeO (laws_szMoveS.l0 k y0 y1 y2) (laws_szMoveS.l0 (k + 1) y0 y1 y2))
 | 0 => fun _ _ _ r h => by simp [laws_szMoveS.l0] at h
 | k + 1 => by
  have ih0 := laws_szMoveS.mono_l k
  ·intro y0 y1 y2; unfold laws_szMoveS.l0
   repeat' first | (with_reducible first | exact ih0 _ _ _ | exact LeO.refl _ | exact LeO.none _ | refine LeO.ite ?_ ?_ | refine LeO.bind ?_ (fun _ => ?_)) | exact ih0 _ _ _ | exact LeO.none _ | refine LeO.ite ?_ ?_ | refine LeO.bind ?_ (fun _ => ?_)
theorem laws_szMoveS.mono : ∀ a0 a1 k, LeO (laws_szMoveS.f k a0 a1) (laws_szMoveS.f (k + 1) a0 a1) := by
 intro a0 a1 k; have ih0 := laws_szMoveS.mono_l k; unfold laws_szMoveS.f
 repeat' first | (with_reducible first | exact ih0 _ _ _ | exact LeO.refl _ | exact LeO.none _ | refine LeO.ite ?_ ?_ | refine LeO.bind ?_ (fun _ => ?_)) | exact ih0 _ _ _ | exact LeO.none _ | refine LeO.ite ?_ ?_ | refine LeO.bind ?_ (fun _ => ?_)
set_option maxHeartbeats 8000000 in
set_option maxRecDepth 100000 in
theorem laws_szMoveS.calls (k : Nat) (A0 : Option Addr) (c0 : Nat) (l0 : List (S38)) (a1 : Int) (r : Int) (w : World) (hr0 : Kd.C k38 w A0 l0.length l0) (hc0 : l0.length ≤ c0) (h : laws_szMoveS.f k l0 a1 = some r) :
  Calls Try.prog 15 #[.slice A0 l0.length c0, .int .i64 a1] w fun e w' => e = .returned (.int .i64 r) ∧ Below w.heap.size w w' := by
 have hu38 := Try.underlying38; have HR0 := ak hr0; have HC0 := ak hc0; clear hr0 hc0; have HB := ak (Below.refl w.heap.size w); unfold laws_szMoveS.f at h; have H := h; clear h; by_cases c3 : (wrap64 (a1 - (l0.length : Int))) < 0
 ·rw [if_pos c3] at H; have c3b0 := decide_eq_true c3; clear c3; obtain rfl := Option.some.inj H; go_enter Try.func15, Try.ntmps15; go_wp2
  go_ret
  exact ⟨ew, vb HB.out⟩
 ·rw [if_neg c3] at H; have c3b0 := decide_eq_false c3; clear c3; have H' := ak H; clear H; go_enter Try.func15, Try.ntmps15; go_wp2
  go_loopg [1, 5] k (fun kq v1 v5 w' => ∃ (x1_1 : Int) (x5_1 : Int), v1 = .int .i64 x1_1 ∧ v5 = .int .i64 x5_1 ∧ Aside0 (laws_szMoveS.l0 kq l0 x1_1 x5_1 = some r) ∧ Aside0 (kq ≤ k) ∧ Aside0 (Below w.heap.size w w'))
  case atStart => exact ⟨(wrap64 (a1 - (l0.length : Int))), (0), (by first | rfl | (simp; done) | (simp [*]; done)), (by first | rfl | (simp; done) | (simp [*]; done)), H', ⟨Nat.le_refl _⟩, ⟨vb HB.out⟩⟩
  case round =>
   clear H'; (try clear c1); (try clear p2); (try clear c3); (try clear c3b0); obtain ⟨x1_1, x5_1, rfl, rfl, HA, HK1, HB⟩ := hrel
   cases gk with
   | zero => exact absurd HA.out (by simp [laws_szMoveS.l0])
   | succ k1 =>
    have H := HA.out; clear HA; simp only [laws_szMoveS.l0] at H
    by_cases c4 : x5_1 < (l0.length : Int)
    ·rw [if_pos c4] at H; have c4b0 := decide_eq_true c4; clear c4; by_cases c5 : 0 ≤ x5_1
     ·rw [if_pos c5] at H; have c5b0 := decide_eq_true c5; clear c5; obtain ⟨t103, A6, H⟩ := bnk H; by_cases c7 : t103 < 0
      ·rw [if_pos c7] at H; have c7b0 := decide_eq_true c7; clear c7; obtain rfl := Option.some.inj H; have p102 : 0 ≤ (x5_1 : Int) := od; have q102 : x5_1 < (l0.length : Int) := od; obtain ⟨ad102, e102, hx102_0, hx102_1, hx102_2⟩ := at_T38 HR0.out x5_1 p102 q102
       cases e102; replace hx102_0 := cb HB.out hx102_0; replace hx102_1 := cb HB.out hx102_1; replace hx102_2 := cb HB.out hx102_2; replace p102 := eq_true p102; replace q102 := eq_true q102; go_wp2_with (first | ((with_reducible refine at_fn (f := 26) rfl ?_); refine gl (some 23) Try.func26 #[.agg #[.int .i64 ((rd_T38 l0 x5_1).f0), .string ((rd_T38 l0 x5_1).f1), .int .i64 ((rd_T38 l0 x5_1).f2)], .int .i64 x1_1] ?_; (with_reducible refine (laws_szMove.calls ((rd_T38 l0 x5_1).f0) ((rd_T38 l0 x5_1).f1) ((rd_T38 l0 x5_1).f2) x1_1 t103 _ A6.out).mono ?_); rintro e w8 ⟨rfl, hb⟩; refine ⟨_, rfl, ?_⟩; replace HB := bs HB hb; (try clear hb); (try clear hb2); (try clear hk); (try clear hi)))
       go_ret
       exact ⟨ew, vb HB.out⟩
      ·rw [if_neg c7] at H; have c7b0 := decide_eq_false c7; clear c7; have H' := ak H; clear H; have p102 : 0 ≤ (x5_1 : Int) := od; have q102 : x5_1 < (l0.length : Int) := od; obtain ⟨ad102, e102, hx102_0, hx102_1, hx102_2⟩ := at_T38 HR0.out x5_1 p102 q102
       cases e102; replace hx102_0 := cb HB.out hx102_0; replace hx102_1 := cb HB.out hx102_1; replace hx102_2 := cb HB.out hx102_2; replace p102 := eq_true p102; replace q102 := eq_true q102; go_wp2_with (first | ((with_reducible refine at_fn (f := 26) rfl ?_); refine gl (some 23) Try.func26 #[.agg #[.int .i64 ((rd_T38 l0 x5_1).f0), .string ((rd_T38 l0 x5_1).f1), .int .i64 ((rd_T38 l0 x5_1).f2)], .int .i64 x1_1] ?_; (with_reducible refine (laws_szMove.calls ((rd_T38 l0 x5_1).f0) ((rd_T38 l0 x5_1).f1) ((rd_T38 l0 x5_1).f2) x1_1 t103 _ A6.out).mono ?_); rintro e w9 ⟨rfl, hb⟩; refine ⟨_, rfl, ?_⟩; replace HB := bs HB hb; (try clear hb); (try clear hb2); (try clear hk); (try clear hi)))
       go_roundg k1
       case measure => have := HK1.out; omega
       case rel => exact ⟨(t103), (wrap64 (x5_1 + 1)), (by first | rfl | (simp; done) | (simp [*]; done)), (by first | rfl | (simp; done) | (simp [*]; done)), H', ⟨by have := HK1.out; omega⟩, ⟨vb HB.out⟩⟩
     ·rw [if_neg c5] at H; exact absurd H (by simp)
    ·rw [if_neg c4] at H; have c4b0 := decide_eq_false c4; clear c4; obtain rfl := Option.some.inj H; go_wp2
     go_ret
     exact ⟨ew, vb HB.out⟩


/-! ### laws_toMove: function 28 -/
def laws_toMove.f (a0_0 : Int) (a0_1 : ByteArray) (a0_2 : Int) : Option (Int × ByteArray × Int) := some (a0_0, a0_1, a0_2)
set_option maxHeartbeats 8000000 in
set_option maxRecDepth 100000 in
theorem laws_toMove.calls (a0_0 : Int) (a0_1 : ByteArray) (a0_2 : Int) (r1 : Int) (r2 : ByteArray) (r3 : Int) (w : World) (h : laws_toMove.f a0_0 a0_1 a0_2 = some (r1, r2, r3)) :
  Calls Try.prog 28 #[.agg #[.int .i64 a0_0, .string a0_1, .int .i64 a0_2]] w fun e w' => e = .returned (.agg #[.int .i64 r1, .string r2, .int .i64 r3]) ∧ Below w.heap.size w w' := by
 have hu38 := Try.underlying38; have hu42 := Try.underlying42; have HB := ak (Below.refl w.heap.size w); unfold laws_toMove.f at h; have H := h; clear h; simp only [Option.some.injEq, Prod.mk.injEq] at H
 obtain ⟨rfl, rfl, rfl⟩ := H; go_enter Try.func28, Try.ntmps28; go_wp2_with (first | ((with_reducible refine gate_dst (N := 1) rfl ?_); refine bx 1 #[.int .i64 a0_0, .string a0_1, .int .i64 a0_2] 38 ?_; intro gb116 hg w2 hbox hb; have BK116 := ak hbox; have GW116 := gw hg HB; have GE116 := gw hg HB; replace HB := bs HB hb; clear hb hbox hg) | ((with_reducible refine gate_dst (N := 2) rfl ?_); refine bx 2 #[.int .i64 0, .string (⟨#[]⟩ : ByteArray), .int .i64 0] 42 ?_; intro gb117 hg w3 hbox hb; have BK117 := ak hbox; have GW117 := gw hg HB; have GE117 := gw hg HB; replace HB := bs HB hb; have NB116_117 := ak ((by rw [hg]; exact Nat.ne_of_lt (blk_lt (vk BK116.out)) : gb116 ≠ gb117)); have NB117_116 := ak ((by rw [hg]; exact Nat.ne_of_gt (blk_lt (vk BK116.out)) : gb117 ≠ gb116)); replace BK116 := kb BK116 hb; clear hb hbox hg) | ((with_reducible refine gate_dst (N := 3) rfl ?_); refine bx 3 #[.int .i64 0, .string (⟨#[]⟩ : ByteArray), .int .i64 0] 42 ?_; intro gb118 hg w4 hbox hb; have BK118 := ak hbox; have GW118 := gw hg HB; have GE118 := gw hg HB; replace HB := bs HB hb; have NB116_118 := ak ((by rw [hg]; exact Nat.ne_of_lt (blk_lt (vk BK116.out)) : gb116 ≠ gb118)); have NB118_116 := ak ((by rw [hg]; exact Nat.ne_of_gt (blk_lt (vk BK116.out)) : gb118 ≠ gb116)); replace BK116 := kb BK116 hb; have NB117_118 := ak ((by rw [hg]; exact Nat.ne_of_lt (blk_lt (vk BK117.out)) : gb117 ≠ gb118)); have NB118_117 := ak ((by rw [hg]; exact Nat.ne_of_gt (blk_lt (vk BK117.out)) : gb118 ≠ gb117)); replace BK117 := kb BK117 hb; clear hb hbox hg; have hnb5 := NB116_117.out; have hnc5 := NB117_116.out; have hnb6 := NB116_118.out; have hnc6 := NB118_116.out; have hcz7 := cz3 BK116.out; have hnb8 := NB118_117.out; have hnc8 := NB117_118.out; have hcz9 := cz3 BK118.out; have hcz10 := cz3 BK117.out))
 refine bodyPost_ret (results_cell_row rfl _ _ gb117 42 #[.int .i64 a0_0, .string a0_1, .int .i64 a0_2] (0, 0) _ rfl (vz BK117.out) Try.underlying42 rfl (by kernel_rfl)) rfl ?_; exact ⟨ew, vb HB.out⟩


/-! ### laws_fillerMove: function 67 -/
def laws_fillerMove.f  : Option (Int × ByteArray × Int) := some ((-7000000000000000101), (⟨#[126, 115, 112, 97, 114, 101, 126]⟩ : ByteArray), (-7000000000000000101))
set_option maxHeartbeats 8000000 in
set_option maxRecDepth 100000 in
theorem laws_fillerMove.calls  (r1 : Int) (r2 : ByteArray) (r3 : Int) (w : World) (h : laws_fillerMove.f  = some (r1, r2, r3)) :
  Calls Try.prog 67 #[] w fun e w' => e = .returned (.agg #[.int .i64 r1, .string r2, .int .i64 r3]) ∧ Below w.heap.size w w' := by
 have hu42 := Try.underlying42; have HB := ak (Below.refl w.heap.size w); unfold laws_fillerMove.f at h; have H := h; clear h; simp only [Option.some.injEq, Prod.mk.injEq] at H
 obtain ⟨rfl, rfl, rfl⟩ := H; go_enter Try.func67, Try.ntmps67; go_wp2_with (first | ((with_reducible refine gate_dst (N := 0) rfl ?_); refine bx 0 #[.int .i64 0, .string (⟨#[]⟩ : ByteArray), .int .i64 0] 42 ?_; intro gb119 hg w1 hbox hb; have BK119 := ak hbox; have GW119 := gw hg HB; have GE119 := gw hg HB; replace HB := bs HB hb; clear hb hbox hg; have hcz2 := cz3 BK119.out))
 refine bodyPost_ret (results_cell_row rfl _ _ gb119 42 #[.int .i64 (-7000000000000000101), .string (⟨#[126, 115, 112, 97, 114, 101, 126]⟩ : ByteArray), .int .i64 (-7000000000000000101)] (0, 0) _ rfl (vz BK119.out) Try.underlying42 rfl (by kernel_rfl)) rfl ?_; exact ⟨ew, vb HB.out⟩


end Go.Proofs.Ytllhghcepbkpeaa.Pall
