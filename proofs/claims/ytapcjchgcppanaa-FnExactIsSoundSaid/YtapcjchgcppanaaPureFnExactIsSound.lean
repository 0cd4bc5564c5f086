/- The law FnExactIsSound as a statement over numbers and lists, proved; no condition but the sizes and ranges that every input has. -/
import Derived.Test.YtapcjchgcppanaaPFnExactIsSoundx1
namespace Go.Proofs.Ytapcjchgcppanaa.Pure
open Go.RowKit Go.Proofs.Ytapcjchgcppanaa.PFnExactIsSound Go.Proofs.YtapcjchgcppanaaW.PrintWords Go.Proofs.YtapcjchgcppanaaW.PrintLast

theorem FnExactIsSound : ∀ (x0_0 : Bool) (x0_1 : Bool) (x0_2 : Bool) (x0_3 : Bool) (x0_4 : Bool) (x0_5 : Int), (True ∧ True ∧ True ∧ True ∧ True ∧ (Lit.int .i64 x0_5).wf = true) → laws_FnExactIsSound.f x0_0 x0_1 x0_2 x0_3 x0_4 x0_5 = some true := by
  intro x0_0 x0_1 x0_2 x0_3 x0_4 x0_5 _
  simp only [laws_FnExactIsSound.f, laws_toController.f, spec_IsSound.f, impl_IsSound.f, spec_l01In.f, impl_within.f, Option.bind_some]
  have e3 : (3 < x0_5) = ¬ (x0_5 ≤ 3) := by simp [Int.not_le]
  by_cases h0 : 0 ≤ x0_5 <;> by_cases h4 : x0_5 ≤ 4 <;> by_cases h3 : x0_5 ≤ 3 <;> cases x0_0 <;> cases x0_1 <;> cases x0_2 <;> cases x0_3 <;> cases x0_4 <;> (first | (exfalso; omega) | simp [ge_iff_le, gt_iff_lt, e3, h0, h4, h3])

end Go.Proofs.Ytapcjchgcppanaa.Pure
