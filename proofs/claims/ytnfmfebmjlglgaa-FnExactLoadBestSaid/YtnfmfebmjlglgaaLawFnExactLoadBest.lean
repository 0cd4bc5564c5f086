/- The row of the law FnExactLoadBest: at every input that can be read the call returns true, and each argument reads behind it as it read before. It follows from the pure statement and from the contract of the law's function; no other condition. -/
import Derived.Test.YtnfmfebmjlglgaaRows
import Derived.Test.YtnfmfebmjlglgaaF23
import Derived.Test.YtnfmfebmjlglgaaPureFnExactLoadBest
import Derived.Test.YtnfmfebmjlglgaaOpen
import Derived.WalkKit
import Derived.ProofKit
import Derived.OpenShut
import Derived.ShutString
import Derived.ChangeOld
import Derived.Below
import Derived.SizedLaws
import Derived.WideShapes
namespace Go.Proofs.Ytnfmfebmjlglgaa.fnExactLoadBest
open Go.ChangeShapes Go.WideShapes Go.ChangeAt Go.RowKit Go.Proofs.Ytnfmfebmjlglgaa.Open Go.Proofs.Ytnfmfebmjlglgaa.Pall Go.Proofs.YtnfmfebmjlglgaaW.PrintWords
open Go.ChangeMaps (open_string shut_string)
set_option linter.unusedVariables false
theorem own : ownKnob Try.prog.godebug = none := by kernel_rfl
theorem laidOut : laidOutB Try.prog = true := by kernel_rfl
set_option maxRecDepth 100000 in
theorem lifted (os : Os) (started : os.Started) (H : Type) (enc : TypeId × Value → H) :
    ReturnsInHanded {} Try.checked os 8 .any (Rows.fnExactLoadBestSpec.pre6 enc Try.prog Try.f8 Rows.fnExactLoadBestRow.domain false) (Rows.fnExactLoadBestSpec.post enc Try.prog Try.f8 false true false false) := by
  refine returnsInHanded_of_change_sized (C := Try.checked) own started (by kernel_rfl) Try.func8
    (ChangeSpec.witness6 (enc := enc) (C := Try.checked) false ⟨#[], #[.slice none 0 0, .agg #[.int .i64 0, .int .i64 0, .slice none 0 0, .slice none 0 0], .string ByteArray.empty], []⟩ 8 (by kernel_rfl) (by kernel_rfl) (by kernel_rfl) (by kernel_rfl)) ?_
  intro W base args ds gs before hval0 hW hcnd hsz0 _
  have hsz : (DataW.weightsEach Try.prog (Try.f8.params.toList ++ Rows.fnExactLoadBestSpec.plain.varTypes Try.prog) (ds ++ gs)).all (· ≤ reachBytes) = true := hsz0
  have hval : ∀ (j : Nat) t v, Try.f8.params[j]? = some t → args[j]? = some v → Value.okWide Try.prog W .any base t v := hval0
  have hW' := hW
  obtain ⟨p, q, hA0, hV, rfl, hfz, hnd⟩ := hW
  have hA : DataW.TrodAll enc Try.prog W 0 (fun _ => true) true Try.f8.params.toList args.toList ds p := hA0
  rw [Try.params8] at hA hval hsz
  obtain ⟨v0, vs0, d0, ds0, p0, q0, hargs, rfl, rfl, h0, r0⟩ := trodAll_cons hA
  obtain ⟨v1, vs1, d1, ds1, p1, q1, rfl, rfl, rfl, h1, r1⟩ := trodAll_cons r0
  obtain ⟨v2, vs2, d2, ds2, p2, q2, rfl, rfl, rfl, h2, r2⟩ := trodAll_cons r1
  obtain ⟨rfl, rfl, rfl⟩ := trodAll_nil r2
  obtain rfl : args = #[v0, v1, v2] := by cases args; simp_all
  obtain ⟨rfl, rfl⟩ := trodVars_none hV
  have k0 := h0
  have lt0 : ∀ x ∈ p0, x.block < W.heap.size := by obtain ⟨m, hm⟩ := k0; exact DataW.trod_lt m _ _ _ hm
  obtain ⟨a0, len0, cap0, rfl⟩ := okWide_slice Try.underlying22 (hval 0 22 v0 rfl rfl)
  obtain ⟨fuel0, hf0⟩ := h0
  obtain ⟨l0, kk0, g0⟩ := (opens_slice 82 Try.underlying22 (by kernel_rfl) (of_decide_eq_true (by kernel_rfl)) (opens_iso (fun x : S82 => (x.f0, x.f1, x.f2, x.f3, x.f4, x.f5, x.f6, x.f7, x.f8)) (fun a => ⟨a.1, a.2.1, a.2.2.1, a.2.2.2.1, a.2.2.2.2.1, a.2.2.2.2.2.1, a.2.2.2.2.2.2.1, a.2.2.2.2.2.2.2.1, a.2.2.2.2.2.2.2.2⟩) (fun _ => rfl) (opens_struct Try.underlying82 (by kernel_rfl) (by kernel_rfl) (all_cons (opens_string Try.underlying9) (all_cons (opens_int Try.underlying2) (all_cons (opens_int Try.underlying2) (all_cons (opens_int Try.underlying2) (all_cons (opens_int Try.underlying2) (all_cons (opens_int Try.underlying2) (all_cons (opens_int Try.underlying2) (all_cons (opens_int Try.underlying2) (all_one (opens_int Try.underlying2))))))))))))) _ _ _ hf0 (wt hsz (j := 0) rfl rfl)
  obtain ⟨A0, c0, e0, hc0, hr0⟩ := kk0
  simp only [Value.cells, List.cons.injEq, Value.slice.injEq, and_true] at e0
  obtain ⟨rfl, rfl, rfl⟩ := e0
  have k1 := h1
  have lt1 : ∀ x ∈ p1, x.block < W.heap.size := by obtain ⟨m, hm⟩ := k1; exact DataW.trod_lt m _ _ _ hm
  obtain ⟨cs1, rfl, hz1⟩ := okWide_struct Try.underlying26 (hval 1 26 v1 rfl rfl)
  obtain ⟨fuel1, hf1⟩ := h1
  obtain ⟨⟨x1_0, x1_1, x1_2, x1_3⟩, kk1, g1⟩ := (opens_struct Try.underlying26 (by kernel_rfl) (by kernel_rfl) (all_cons (opens_int Try.underlying2) (all_cons (opens_int Try.underlying2) (all_cons (opens_slice 2 Try.underlying23 (by kernel_rfl) (of_decide_eq_true (by kernel_rfl)) (opens_int Try.underlying2)) (all_one (opens_slice 9 Try.underlying24 (by kernel_rfl) (of_decide_eq_true (by kernel_rfl)) (opens_string Try.underlying9))))))) _ _ _ hf1 (wt hsz (j := 1) rfl rfl)
  obtain ⟨_, _, ee1, rfl, ⟨_, _, rfl, rfl, ⟨_, _, rfl, ⟨A1_2, c1_2, rfl, hc1_2, hr1_2⟩, ⟨A1_3, c1_3, rfl, hc1_3, hr1_3⟩⟩⟩⟩ := kk1
  obtain rfl : cs1 = #[.int .i64 x1_0, .int .i64 x1_1, .slice A1_2 x1_2.length c1_2, .slice A1_3 x1_3.length c1_3] := by cases cs1; simpa [Value.cells] using ee1
  have k2 := h2
  have lt2 : ∀ x ∈ p2, x.block < W.heap.size := by obtain ⟨m, hm⟩ := k2; exact DataW.trod_lt m _ _ _ hm
  obtain ⟨a2, rfl, rfl, rfl, _⟩ := open_string Try.underlying9 (hval 2 9 v2 rfl rfl) h2
  have y2 : a2.size ≤ reachBytes := by simpa using sized_string hsz (j := 2) rfl rfl
  clear hA0 hval0 hsz0 hsz
  have P0 := Pure.FnExactLoadBest l0 x1_0 x1_1 x1_2 x1_3 a2 g0 g1 y2
  obtain ⟨k, P0⟩ := P0
  refine (laws_FnExactLoadBest.calls k _ _ l0 x1_0 x1_1 _ _ x1_2 _ _ x1_3 a2 true W hr0 hc0 hr1_2 hc1_2 hr1_3 hc1_3 ⟨rfl⟩ P0).mono fun e W' ⟨he, bel⟩ => ?_
  subst he
  exact ⟨_, rfl, _, _, _, [], _, [], hW', trodAll_mk1 (shut_bool Try.underlying4 _), (trodAll_cons_mk (Below.trod laidOut (by kernel_rfl) (of_decide_eq_true (by kernel_rfl)) k0 bel lt0) (trodAll_cons_mk (Below.trod laidOut (by kernel_rfl) (of_decide_eq_true (by kernel_rfl)) k1 bel lt1) (trodAll_cons_mk (Below.trod laidOut (by kernel_rfl) (of_decide_eq_true (by kernel_rfl)) k2 bel lt2) trodAll_mk0))), rfl, bel.frame _, fun h => by cases h⟩
theorem over : Rows.fnExactLoadBestRow.holds Try.pinned (OpenSpec.ofChange Rows.fnExactLoadBestSpec) :=
  OpenClaim.holds_of_wide 8 Try.f8 rfl rfl rfl rfl rfl rfl rfl ⟨rfl, rfl, rfl, rfl, rfl⟩ rfl rfl rfl rfl rfl (by kernel_rfl) Try.func8 (by kernel_rfl)
    (of_decide_eq_true (by kernel_rfl)) (by unfold Func.isWrapper; first | (rw [if_pos (by decide +kernel)]; kernel_rfl) | (rw [if_neg (by decide +kernel)]; exact ⟨rfl, rfl⟩))
    (fun os started H enc _ => lifted os started H enc)
theorem proved : Rows.FnExactLoadBestSaid := over
#print axioms proved
end Go.Proofs.Ytnfmfebmjlglgaa.fnExactLoadBest
namespace Go.Proofs.Ytnfmfebmjlglgaa
/-- The row, under a short name, for the claim. -/
theorem fnExactLoadBest_holds : Rows.FnExactLoadBestSaid := fnExactLoadBest.proved
end Go.Proofs.Ytnfmfebmjlglgaa
