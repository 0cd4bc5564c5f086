/- Go functions of the program, each as a Lean function, and the proof that each call comes to what the Lean function tells; no condition beyond those that stand there. -/
import Derived.Test.YtllhghcepbkpeaaF00
import Derived.Test.YtllhghcepbkpeaaSpare
import Derived.Test.YtllhghcepbkpeaaCm3
namespace Go.Proofs.Ytllhghcepbkpeaa.Pall
open Go.RowKit Go.Proofs.YtllhghcepbkpeaaW.PrintWords
set_option linter.unusedVariables false
set_option linter.unusedSimpArgs false

/-! ### laws_roomBehind: function 66 -/
def laws_roomBehind.f (a0 : Int) : Option (Int) := if (Int.tmod a0 6) = 5 then (some 0) else (if (Int.tmod a0 3) = 0 then (some 1) else (some a0))
set_option maxHeartbeats 8000000 in
set_option maxRecDepth 100000 in
theorem laws_roomBehind.calls (a0 : Int) (r : Int) (w : World) (h : laws_roomBehind.f a0 = some r) :
  Calls Try.prog 66 #[.int .i64 a0] w fun e w' => e = .returned (.int .i64 r) ∧ Drawn0 w w' := by
 unfold laws_roomBehind.f at h; have H := h; clear h; by_cases c2 : (Int.tmod a0 6) = 5
 rw [if_pos c2] at H; obtain ⟨c2b0, c2b1⟩ := bqt c2; clear c2; obtain rfl := Option.some.inj H; rotate_left
 rw [if_neg c2] at H; obtain ⟨c2b0, c2b1⟩ := bqf c2; by_cases c3 : (Int.tmod a0 3) = 0
 rw [if_pos c3] at H; obtain ⟨c3b0, c3b1⟩ := bqt c3; clear c3; obtain rfl := Option.some.inj H; rotate_left
 rw [if_neg c3] at H; obtain ⟨c3b0, c3b1⟩ := bqf c3; obtain rfl := Option.some.inj H; rotate_left
 all_goals
  go_enter Try.func66, Try.ntmps66; go_wp2
  go_ret
  exact ⟨by first | rfl | (simp; done) | (simp [*]; done), by repeat (first | exact Drawn0.refl _ | apply Drawn0.step)⟩
theorem room_f (n : Nat) : laws_roomBehind.f (n : Int) = some ((roomN n : Nat) : Int) := by
 have h6 : Int.tmod (n : Int) 6 = ((n % 6 : Nat) : Int) := (Int.ofNat_tmod n 6).symm; have h3 : Int.tmod (n : Int) 3 = ((n % 3 : Nat) : Int) := (Int.ofNat_tmod n 3).symm; unfold laws_roomBehind.f roomN
 rw [h6, h3]; by_cases a : n % 6 = 5
 ·rw [if_pos (by omega), if_pos a]; rfl
 ·rw [if_neg (by omega), if_neg a]; by_cases b : n % 3 = 0
  ·rw [if_pos (by omega), if_pos b]; rfl
  ·rw [if_neg (by omega), if_neg b]


end Go.Proofs.Ytllhghcepbkpeaa.Pall
