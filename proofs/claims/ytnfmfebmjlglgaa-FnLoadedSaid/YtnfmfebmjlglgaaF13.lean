/- Go functions of the program, each as a Lean function, and the proof that each call comes to what the Lean function tells; no condition beyond those that stand there. -/
import Derived.Test.YtnfmfebmjlglgaaF00
import Derived.Test.YtnfmfebmjlglgaaF05
import Derived.Test.YtnfmfebmjlglgaaSpare
import Derived.Test.YtnfmfebmjlglgaaCm
import Derived.Test.YtnfmfebmjlglgaaCm3
import Derived.Test.YtnfmfebmjlglgaaCm6
namespace Go.Proofs.Ytnfmfebmjlglgaa.Pall
open Go.RowKit Go.Proofs.YtnfmfebmjlglgaaW.PrintWords
set_option linter.unusedVariables false
set_option linter.unusedSimpArgs false

/-! ### spec_l17Named: function 73 -/
def spec_l17Named.f (k : Nat) (l0 : List (S67)) (a1_0 : Int) (a1_1 : Int) (l1_2 : List Int) (l1_3 : List ByteArray) (a2 : Int) (a3 : ByteArray) : Option (Int) := (spec_l17Code.f k l0 a1_0 a1_1 l1_2 l1_3 a2).bind fun t0 => (if t0 = 0 then ((spec_l03Find.f k l0 a3).bind fun t2 => (if t2 < 0 then (some 4) else (some t0))) else (some t0))
set_option maxHeartbeats 8000000 in
set_option maxRecDepth 100000 in
theorem spec_l17Named.calls (k : Nat) (A0 : Option Addr) (c0 : Nat) (l0 : List (S67)) (a1_0 : Int) (a1_1 : Int) (A1_2 : Option Addr) (c1_2 : Nat) (l1_2 : List Int) (A1_3 : Option Addr) (c1_3 : Nat) (l1_3 : List ByteArray) (a2 : Int) (a3 : ByteArray) (r : Int) (w : World) (hr0 : Kd.C k67 w A0 l0.length l0) (hc0 : l0.length ≤ c0) (hr1_2 : Kd.C (Kd.int .i64) w A1_2 l1_2.length l1_2) (hc1_2 : l1_2.length ≤ c1_2) (hr1_3 : Kd.C Kd.string w A1_3 l1_3.length l1_3) (hc1_3 : l1_3.length ≤ c1_3) (h : spec_l17Named.f k l0 a1_0 a1_1 l1_2 l1_3 a2 a3 = some r) :
  Calls Try.prog 73 #[.slice A0 l0.length c0, .agg #[.int .i64 a1_0, .int .i64 a1_1, .slice A1_2 l1_2.length c1_2, .slice A1_3 l1_3.length c1_3], .int .i64 a2, .string a3] w fun e w' => e = .returned (.int .i64 r) ∧ Below w.heap.size w w' := by
 have hu33 := Try.underlying33; have HR0 := ak hr0; have HC0 := ak hc0; clear hr0 hc0; have HR1_2 := ak hr1_2; have HC1_2 := ak hc1_2; clear hr1_2 hc1_2; have HR1_3 := ak hr1_3; have HC1_3 := ak hc1_3; clear hr1_3 hc1_3; have HB := ak (Below.refl w.heap.size w); unfold spec_l17Named.f at h; have H := h; clear h; obtain ⟨t0, A5, H⟩ := bnk H; by_cases c6 : t0 = 0
 rw [if_pos c6] at H; obtain ⟨c6b0, c6b1⟩ := bqt c6; clear c6; obtain ⟨t2, A7, H⟩ := bnk H; by_cases c8 : t2 < 0
 rw [if_pos c8] at H; have c8b0 := decide_eq_true c8; clear c8; obtain rfl := sj H; rotate_left
 rw [if_neg c8] at H; have c8b0 := decide_eq_false c8; clear c8; obtain rfl := sj H; rotate_left
 rw [if_neg c6] at H; obtain ⟨c6b0, c6b1⟩ := bqf c6; obtain rfl := sj H; rotate_left
 all_goals
  go_enter Try.func73, Try.ntmps73; go_wp2_with (first | ((with_reducible refine gate_dst (N := 5) rfl ?_); refine bx 5 #[.int .i64 a1_0, .int .i64 a1_1, .slice A1_2 l1_2.length c1_2, .slice A1_3 l1_3.length c1_3] 33 ?_; intro gb1 hg w9 hbox hb; have BK1 := ak hbox; have GW479 := gw hg HB; have GE1 := gw hg HB; replace HB := bs HB hb; clear hb hbox hg; have hcz3 := cz4 BK1.1) | ((with_reducible refine at_fn (f := 59) rfl ?_); refine gl (some 13) Try.func59 #[.slice A0 l0.length c0, .agg #[.int .i64 a1_0, .int .i64 a1_1, .slice A1_2 l1_2.length c1_2, .slice A1_3 l1_3.length c1_3], .int .i64 a2] ?_; (with_reducible refine (spec_l17Code.calls k _ _ l0 a1_0 a1_1 _ _ l1_2 _ _ l1_3 a2 t0 _ ?_ HC0.1 ?_ HC1_2.1 ?_ HC1_3.1 A5.1).mono ?_); exact vd HR0.1 HB.1; exact vd HR1_2.1 HB.1; exact vd HR1_3.1 HB.1; rintro e w9 ⟨rfl, hb⟩; refine ⟨_, rfl, ?_⟩; replace BK1 := kb BK1 hb; replace HB := bs HB hb; (try clear hb)) | (go_at_call 70; (with_reducible refine (spec_l03Find.calls k _ _ l0 a3 t2 _ ?_ HC0.1 A7.1).mono ?_); exact vd HR0.1 HB.1; rintro e w' ⟨rfl, ⟨nd, rfl⟩⟩))
  go_ret
  exact ⟨ew, vb HB.1⟩


end Go.Proofs.Ytnfmfebmjlglgaa.Pall
