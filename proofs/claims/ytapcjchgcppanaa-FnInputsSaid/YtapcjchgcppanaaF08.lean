/- Go functions of the program, each as a Lean function, and the proof that each call comes to what the Lean function tells; no condition beyond those that stand there. -/
import Derived.Test.YtapcjchgcppanaaF00
import Derived.Test.YtapcjchgcppanaaF02
import Derived.Test.YtapcjchgcppanaaSpare
import Derived.Test.YtapcjchgcppanaaCm
import Derived.Test.YtapcjchgcppanaaCm3
namespace Go.Proofs.Ytapcjchgcppanaa.Pall
open Go.RowKit Go.Proofs.YtapcjchgcppanaaW.PrintWords
set_option linter.unusedVariables false
set_option linter.unusedSimpArgs false

/-! ### spec_TicksLeft: function 19 -/
def spec_TicksLeft.f (a0_0 : Bool) (a0_1 : Bool) (a0_2 : Bool) (a0_3 : Bool) (a0_4 : Bool) (a0_5 : Int) : Option (Int × Int) := (spec_IsSound.f a0_0 a0_1 a0_2 a0_3 a0_4 a0_5).bind fun t148 => (if t148 = true then (if a0_2 = true then (some (wrap64 (3 - a0_5), 0)) else (some (0, 0))) else (some (0, 1)))
set_option maxHeartbeats 8000000 in
set_option maxRecDepth 100000 in
theorem spec_TicksLeft.calls (a0_0 : Bool) (a0_1 : Bool) (a0_2 : Bool) (a0_3 : Bool) (a0_4 : Bool) (a0_5 : Int) (r1 : Int) (r2 : Int) (w : World) (h : spec_TicksLeft.f a0_0 a0_1 a0_2 a0_3 a0_4 a0_5 = some (r1, r2)) :
  Calls Try.prog 19 #[.agg #[.bool a0_0, .bool a0_1, .bool a0_2, .bool a0_3, .bool a0_4, .int .i64 a0_5]] w fun e w' => e = .returned (.tuple #[.int .i64 r1, .int .i64 r2]) ∧ Below w.heap.size w w' := by
 have hu25 := Try.underlying25; have HB := ak (Below.refl w.heap.size w); unfold spec_TicksLeft.f at h; have H := h; clear h; obtain ⟨t148, A2, H⟩ := bnk H; by_cases c3 : t148 = true
 subst c3; rw [if_pos rfl] at H; by_cases c4 : a0_2 = true
 subst c4; rw [if_pos rfl] at H; simp only [Option.some.injEq, Prod.mk.injEq] at H
 obtain ⟨rfl, rfl⟩ := H; rotate_left
 replace c4 := Bool.eq_false_iff.mpr c4; subst c4; rw [if_neg nf] at H; simp only [Option.some.injEq, Prod.mk.injEq] at H
 obtain ⟨rfl, rfl⟩ := H; rotate_left
 replace c3 := Bool.eq_false_iff.mpr c3; subst c3; rw [if_neg nf] at H; simp only [Option.some.injEq, Prod.mk.injEq] at H
 obtain ⟨rfl, rfl⟩ := H; rotate_left
 all_goals
  go_enter Try.func19, Try.ntmps19; go_wp2_with (first | ((with_reducible refine gate_dst (N := 1) rfl ?_); refine bx 1 #[.bool a0_0, .bool a0_1, .bool a0_2, .bool a0_3, .bool a0_4, .int .i64 a0_5] 25 ?_; intro gb147 hg w9 hbox hb; have BK147 := ak hbox; have GW147 := gw hg HB; have GE147 := gw hg HB; replace HB := bs HB hb; clear hb hbox hg; have hcz9 := cz6 BK147.out) | ((with_reducible refine at_fn (f := 14) rfl ?_); refine gl (some 5) Try.func14 #[.agg #[.bool a0_0, .bool a0_1, .bool a0_2, .bool a0_3, .bool a0_4, .int .i64 a0_5]] ?_; (with_reducible refine (spec_IsSound.calls a0_0 a0_1 a0_2 a0_3 a0_4 a0_5 _ _ A2.out).mono ?_); rintro e w9 ⟨rfl, hb⟩; refine ⟨_, rfl, ?_⟩; replace BK147 := kb BK147 hb; replace HB := bs HB hb; (try clear hb); (try clear hb2); (try clear hk); (try clear hi)) | ((with_reducible refine gate_dst (N := 1) rfl ?_); refine bx 1 #[.bool a0_0, .bool a0_1, .bool false, .bool a0_3, .bool a0_4, .int .i64 a0_5] 25 ?_; intro gb147 hg w9 hbox hb; have BK147 := ak hbox; have GW147 := gw hg HB; have GE147 := gw hg HB; replace HB := bs HB hb; clear hb hbox hg; have hcz9 := cz6 BK147.out) | ((with_reducible refine at_fn (f := 14) rfl ?_); refine gl (some 5) Try.func14 #[.agg #[.bool a0_0, .bool a0_1, .bool false, .bool a0_3, .bool a0_4, .int .i64 a0_5]] ?_; (with_reducible refine (spec_IsSound.calls a0_0 a0_1 _ a0_3 a0_4 a0_5 _ _ A2.out).mono ?_); rintro e w9 ⟨rfl, hb⟩; refine ⟨_, rfl, ?_⟩; replace BK147 := kb BK147 hb; replace HB := bs HB hb; (try clear hb); (try clear hb2); (try clear hk); (try clear hi); have hcz9 := cz6 BK147.out) | ((with_reducible refine gate_dst (N := 1) rfl ?_); refine bx 1 #[.bool a0_0, .bool a0_1, .bool true, .bool a0_3, .bool a0_4, .int .i64 a0_5] 25 ?_; intro gb147 hg w9 hbox hb; have BK147 := ak hbox; have GW147 := gw hg HB; have GE147 := gw hg HB; replace HB := bs HB hb; clear hb hbox hg; have hcz9 := cz6 BK147.out) | ((with_reducible refine at_fn (f := 14) rfl ?_); refine gl (some 5) Try.func14 #[.agg #[.bool a0_0, .bool a0_1, .bool true, .bool a0_3, .bool a0_4, .int .i64 a0_5]] ?_; (with_reducible refine (spec_IsSound.calls a0_0 a0_1 _ a0_3 a0_4 a0_5 _ _ A2.out).mono ?_); rintro e w9 ⟨rfl, hb⟩; refine ⟨_, rfl, ?_⟩; replace BK147 := kb BK147 hb; replace HB := bs HB hb; (try clear hb); (try clear hb2); (try clear hk); (try clear hi); have hcz9 := cz6 BK147.out))
  go_ret2
  exact ⟨ew, vb HB.out⟩


/-! ### impl_TicksLeft: function 20 -/
def impl_TicksLeft.f (a0_0 : Bool) (a0_1 : Bool) (a0_2 : Bool) (a0_3 : Bool) (a0_4 : Bool) (a0_5 : Int) : Option (Int × Int) := (impl_IsSound.f a0_0 a0_1 a0_2 a0_3 a0_4 a0_5).bind fun t150 => (if t150 = true then (if a0_2 = true then (some (wrap64 (3 - a0_5), 0)) else (some (0, 0))) else (some (0, 1)))
set_option maxHeartbeats 8000000 in
set_option maxRecDepth 100000 in
theorem impl_TicksLeft.calls (a0_0 : Bool) (a0_1 : Bool) (a0_2 : Bool) (a0_3 : Bool) (a0_4 : Bool) (a0_5 : Int) (r1 : Int) (r2 : Int) (w : World) (h : impl_TicksLeft.f a0_0 a0_1 a0_2 a0_3 a0_4 a0_5 = some (r1, r2)) :
  Calls Try.prog 20 #[.agg #[.bool a0_0, .bool a0_1, .bool a0_2, .bool a0_3, .bool a0_4, .int .i64 a0_5]] w fun e w' => e = .returned (.tuple #[.int .i64 r1, .int .i64 r2]) ∧ Below w.heap.size w w' := by
 have hu25 := Try.underlying25; have HB := ak (Below.refl w.heap.size w); unfold impl_TicksLeft.f at h; have H := h; clear h; obtain ⟨t150, A2, H⟩ := bnk H; by_cases c3 : t150 = true
 subst c3; rw [if_pos rfl] at H; by_cases c4 : a0_2 = true
 subst c4; rw [if_pos rfl] at H; simp only [Option.some.injEq, Prod.mk.injEq] at H
 obtain ⟨rfl, rfl⟩ := H; rotate_left
 replace c4 := Bool.eq_false_iff.mpr c4; subst c4; rw [if_neg nf] at H; simp only [Option.some.injEq, Prod.mk.injEq] at H
 obtain ⟨rfl, rfl⟩ := H; rotate_left
 replace c3 := Bool.eq_false_iff.mpr c3; subst c3; rw [if_neg nf] at H; simp only [Option.some.injEq, Prod.mk.injEq] at H
 obtain ⟨rfl, rfl⟩ := H; rotate_left
 all_goals
  go_enter Try.func20, Try.ntmps20; go_wp2_with (first | ((with_reducible refine gate_dst (N := 1) rfl ?_); refine bx 1 #[.bool a0_0, .bool a0_1, .bool a0_2, .bool a0_3, .bool a0_4, .int .i64 a0_5] 25 ?_; intro gb149 hg w9 hbox hb; have BK149 := ak hbox; have GW149 := gw hg HB; have GE149 := gw hg HB; replace HB := bs HB hb; clear hb hbox hg; have hcz9 := cz6 BK149.out) | ((with_reducible refine at_fn (f := 16) rfl ?_); refine gl (some 5) Try.func16 #[.agg #[.bool a0_0, .bool a0_1, .bool a0_2, .bool a0_3, .bool a0_4, .int .i64 a0_5]] ?_; (with_reducible refine (impl_IsSound.calls a0_0 a0_1 a0_2 a0_3 a0_4 a0_5 _ _ A2.out).mono ?_); rintro e w9 ⟨rfl, hb⟩; refine ⟨_, rfl, ?_⟩; replace BK149 := kb BK149 hb; replace HB := bs HB hb; (try clear hb); (try clear hb2); (try clear hk); (try clear hi)) | ((with_reducible refine gate_dst (N := 1) rfl ?_); refine bx 1 #[.bool a0_0, .bool a0_1, .bool false, .bool a0_3, .bool a0_4, .int .i64 a0_5] 25 ?_; intro gb149 hg w9 hbox hb; have BK149 := ak hbox; have GW149 := gw hg HB; have GE149 := gw hg HB; replace HB := bs HB hb; clear hb hbox hg; have hcz9 := cz6 BK149.out) | ((with_reducible refine at_fn (f := 16) rfl ?_); refine gl (some 5) Try.func16 #[.agg #[.bool a0_0, .bool a0_1, .bool false, .bool a0_3, .bool a0_4, .int .i64 a0_5]] ?_; (with_reducible refine (impl_IsSound.calls a0_0 a0_1 _ a0_3 a0_4 a0_5 _ _ A2.out).mono ?_); rintro e w9 ⟨rfl, hb⟩; refine ⟨_, rfl, ?_⟩; replace BK149 := kb BK149 hb; replace HB := bs HB hb; (try clear hb); (try clear hb2); (try clear hk); (try clear hi); have hcz9 := cz6 BK149.out) | ((with_reducible refine gate_dst (N := 1) rfl ?_); refine bx 1 #[.bool a0_0, .bool a0_1, .bool true, .bool a0_3, .bool a0_4, .int .i64 a0_5] 25 ?_; intro gb149 hg w9 hbox hb; have BK149 := ak hbox; have GW149 := gw hg HB; have GE149 := gw hg HB; replace HB := bs HB hb; clear hb hbox hg; have hcz9 := cz6 BK149.out) | ((with_reducible refine at_fn (f := 16) rfl ?_); refine gl (some 5) Try.func16 #[.agg #[.bool a0_0, .bool a0_1, .bool true, .bool a0_3, .bool a0_4, .int .i64 a0_5]] ?_; (with_reducible refine (impl_IsSound.calls a0_0 a0_1 _ a0_3 a0_4 a0_5 _ _ A2.out).mono ?_); rintro e w9 ⟨rfl, hb⟩; refine ⟨_, rfl, ?_⟩; replace BK149 := kb BK149 hb; replace HB := bs HB hb; (try clear hb); (try clear hb2); (try clear hk); (try clear hi); have hcz9 := cz6 BK149.out))
  go_ret2
  exact ⟨ew, vb HB.out⟩


end Go.Proofs.Ytapcjchgcppanaa.Pall
