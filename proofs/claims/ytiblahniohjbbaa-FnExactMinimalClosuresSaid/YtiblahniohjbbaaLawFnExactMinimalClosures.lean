/- The row of the law FnExactMinimalClosures: at every input that can be read the call returns true, and each argument reads behind it as it read before. It follows from the pure statement and from the contract of the law's function; no other condition. -/
import Derived.Test.YtiblahniohjbbaaRows
import Derived.Test.YtiblahniohjbbaaPureFnExactMinimalClosures
import Derived.Test.YtiblahniohjbbaaOpen
import Derived.WalkKit
import Derived.ProofKit
import Derived.OpenShut
import Derived.ShutString
import Derived.ChangeOld
import Derived.Below
import Derived.SizedLaws
import Derived.WideShapes
namespace Go.Proofs.Ytiblahniohjbbaa.fnExactMinimalClosures
open Go.ChangeShapes Go.WideShapes Go.ChangeAt Go.RowKit Go.Proofs.Ytiblahniohjbbaa.Open Go.Proofs.Ytiblahniohjbbaa.Pall Go.Proofs.YtiblahniohjbbaaW.PrintWords
open Go.ChangeMaps (open_string shut_string)
set_option linter.unusedVariables false
theorem own:ownKnob Try.prog.godebug=none:=by kernel_rfl
theorem laidOut:laidOutB Try.prog=true:=by kernel_rfl
set_option maxRecDepth 100000 in
theorem lifted (os:Os) (started:os.Started) (H:Type) (enc:TypeId×Value→H):
    ReturnsInHanded {} Try.checked os 5 .any (Rows.fnExactMinimalClosuresSpec.pre6 enc Try.prog Try.f5 Rows.fnExactMinimalClosuresRow.domain false) (Rows.fnExactMinimalClosuresSpec.post enc Try.prog Try.f5 false true false false):=by
  refine returnsInHanded_of_change_sized (C:=Try.checked) own started (by kernel_rfl) Try.func5
    (ChangeSpec.witness6 (enc:=enc) (C:=Try.checked) false ⟨#[],#[.agg #[.slice none 0 0,.slice none 0 0,.slice none 0 0,.slice none 0 0,.slice none 0 0,.int .i64 0]],[]⟩ 8 (by kernel_rfl) (by kernel_rfl) (by kernel_rfl) (by kernel_rfl)) ?_
  intro W base args ds gs before hval0 hW hcnd hsz0 _
  have hsz:(DataW.weightsEach Try.prog (Try.f5.params.toList++Rows.fnExactMinimalClosuresSpec.plain.varTypes Try.prog) (ds++gs)).all (·≤reachBytes)=true:=hsz0
  have hval:∀(j:Nat) t v,Try.f5.params[j]? =some t→args[j]? =some v→Value.okWide Try.prog W .any base t v:=hval0
  have hW':=hW
  obtain⟨p,q,hA0,hV,rfl,hfz,hnd⟩:=hW
  have hA:DataW.TrodAll enc Try.prog W 0 (fun _=>true) true Try.f5.params.toList args.toList ds p:=hA0
  rw [Try.params5] at hA hval hsz
  obtain⟨v0,vs0,d0,ds0,p0,q0,hargs,rfl,rfl,h0,r0⟩:=trodAll_cons hA
  obtain⟨rfl,rfl,rfl⟩:=trodAll_nil r0
  obtain rfl:args=#[v0]:=by cases args;simp_all
  obtain⟨rfl,rfl⟩:=trodVars_none hV
  have k0:=h0
  have lt0:∀x∈p0,x.block<W.heap.size:=by obtain⟨m,hm⟩:=k0;exact DataW.trod_lt m _ _ _ hm
  obtain⟨cs0,rfl,hz0⟩:=okWide_struct Try.underlying47 (hval 0 47 v0 rfl rfl)
  obtain⟨fuel0,hf0⟩:=h0
  obtain⟨⟨x0_0,x0_1,x0_2,x0_3,x0_4,x0_5⟩,kk0,g0⟩:=(opens_struct Try.underlying47 (by kernel_rfl) (by kernel_rfl) (all_cons (opens_slice 95 Try.underlying44 (by kernel_rfl) (of_decide_eq_true (by kernel_rfl)) (opens_iso (fun x:S95=>(x.f0,x.f1,x.f2)) (fun a=>⟨a.1,a.2.1,a.2.2⟩) (fun _=>rfl) (opens_struct Try.underlying95 (by kernel_rfl) (by kernel_rfl) (all_cons (opens_int Try.underlying2) (all_cons (opens_int Try.underlying2) (all_one (opens_int Try.underlying2))))))) (all_cons (opens_slice 98 Try.underlying45 (by kernel_rfl) (of_decide_eq_true (by kernel_rfl)) (opens_iso (fun x:S98=>(x.f0,x.f1,x.f2,x.f3,x.f4)) (fun a=>⟨a.1,a.2.1,a.2.2.1,a.2.2.2.1,a.2.2.2.2⟩) (fun _=>rfl) (opens_struct Try.underlying98 (by kernel_rfl) (by kernel_rfl) (all_cons (opens_int Try.underlying2) (all_cons (opens_int Try.underlying2) (all_cons (opens_int Try.underlying2) (all_cons (opens_int Try.underlying2) (all_one (opens_int Try.underlying2))))))))) (all_cons (opens_slice 2 Try.underlying26 (by kernel_rfl) (of_decide_eq_true (by kernel_rfl)) (opens_int Try.underlying2)) (all_cons (opens_slice 2 Try.underlying26 (by kernel_rfl) (of_decide_eq_true (by kernel_rfl)) (opens_int Try.underlying2)) (all_cons (opens_slice 2 Try.underlying26 (by kernel_rfl) (of_decide_eq_true (by kernel_rfl)) (opens_int Try.underlying2)) (all_one (opens_int Try.underlying2)))))))) _ _ _ hf0 (wt hsz (j:=0) rfl rfl)
  obtain⟨_,_,ee0,⟨A0_0,c0_0,rfl,hc0_0,hr0_0⟩,⟨_,_,rfl,⟨A0_1,c0_1,rfl,hc0_1,hr0_1⟩,⟨_,_,rfl,⟨A0_2,c0_2,rfl,hc0_2,hr0_2⟩,⟨_,_,rfl,⟨A0_3,c0_3,rfl,hc0_3,hr0_3⟩,⟨_,_,rfl,⟨A0_4,c0_4,rfl,hc0_4,hr0_4⟩,rfl⟩⟩⟩⟩⟩:=kk0
  obtain rfl:cs0=#[.slice A0_0 x0_0.length c0_0,.slice A0_1 x0_1.length c0_1,.slice A0_2 x0_2.length c0_2,.slice A0_3 x0_3.length c0_3,.slice A0_4 x0_4.length c0_4,.int .i64 x0_5]:=by cases cs0;simpa [Value.cells] using ee0
  clear hA0 hval0 hsz0 hsz
  have P0:=Pure.FnExactMinimalClosures x0_0 x0_1 x0_2 x0_3 x0_4 x0_5 g0
  obtain⟨k,P0⟩:=P0
  refine(laws_FnExactMinimalClosures.calls k _ _ x0_0 _ _ x0_1 _ _ x0_2 _ _ x0_3 _ _ x0_4 x0_5 true W hr0_0 hc0_0 hr0_1 hc0_1 hr0_2 hc0_2 hr0_3 hc0_3 hr0_4 hc0_4 (Pure.mcHap x0_0 x0_1 x0_2 x0_3 x0_4 x0_5 g0) ⟨rfl⟩ P0).mono fun e W' ⟨he,bel⟩=>?_
  subst he
  exact⟨_,rfl,_,_,_,[],_,[],hW',trodAll_mk1 (shut_bool Try.underlying4 _),(trodAll_cons_mk (Below.trod laidOut (by kernel_rfl) (of_decide_eq_true (by kernel_rfl)) k0 bel lt0) trodAll_mk0),rfl,bel.frame _,fun h=>by cases h⟩
theorem over:Rows.fnExactMinimalClosuresRow.holds Try.pinned (OpenSpec.ofChange Rows.fnExactMinimalClosuresSpec):=
  OpenClaim.holds_of_wide 5 Try.f5 rfl rfl rfl rfl rfl rfl rfl ⟨rfl,rfl,rfl,rfl,rfl⟩ rfl rfl rfl rfl rfl (by kernel_rfl) Try.func5 (by kernel_rfl)
    (of_decide_eq_true (by kernel_rfl)) (by unfold Func.isWrapper;first|(rw [if_pos (by decide+kernel)];kernel_rfl)|(rw [if_neg (by decide+kernel)];exact⟨rfl,rfl⟩))
    (fun os started H enc _=>lifted os started H enc)
theorem proved:Rows.FnExactMinimalClosuresSaid:=over
#print axioms proved
end Go.Proofs.Ytiblahniohjbbaa.fnExactMinimalClosures
namespace Go.Proofs.Ytiblahniohjbbaa
theorem fnExactMinimalClosures_holds:Rows.FnExactMinimalClosuresSaid:=fnExactMinimalClosures.proved
end Go.Proofs.Ytiblahniohjbbaa
