/- Short forms of what the printed proofs say again and again, a second part. No condition. -/
import Derived.Test.YtiblahniohjbbaaCm
namespace Go.Proofs.YtiblahniohjbbaaW.PrintWords
open Go.RowKit Go.Proofs.YtiblahniohjbbaaW.PrintLast
theorem ak {p:Prop} (h:p):Aside0 p:=⟨h⟩
theorem evl {a:Act} {t:Tmp} {v:Value} (h:a.tmps[t]? =some v):a.eval (.tmp t)=v:=by simp [Act.eval,h]
theorem nf:¬(false=true):=by decide
theorem bnd {α β:Type} {x:Option α} {g:α→Option β} {r:β} (H:x.bind g=some r):∃t,x=some t∧g t=some r:=Option.bind_eq_some_iff.mp H
theorem bnk {α β:Type} {x:Option α} {g:α→Option β} {r:β} (H:x.bind g=some r):∃t,Aside0 (x=some t)∧g t=some r:=by
  obtain⟨t,h1,h2⟩:=Option.bind_eq_some_iff.mp H
  exact⟨t,⟨h1⟩,h2⟩
theorem bnE {α β:Type} {x:α} {g:α→Option β} {r:β} (H:(some x).bind g=some r):∃t,Aside0 (t=x)∧g t=some r:=⟨x,⟨rfl⟩,H⟩
theorem gen_ {α:Type} (x:α):∃y,y=x:=⟨x,rfl⟩
theorem bqt {α:Type} [BEq α] [LawfulBEq α] {a b:α} (h:a=b):(a==b)=true∧(a !=b)=false:=⟨beq_iff_eq.mpr h,bne_eq_false_iff_eq.mpr h⟩
theorem bqf {α:Type} [BEq α] [LawfulBEq α] {a b:α} (h:¬a=b):(a==b)=false∧(a !=b)=true:=⟨beq_eq_false_iff_ne.mpr h,bne_iff_ne.mpr h⟩
theorem bs {w W W2 w1:World} (HB:Aside0 (Below w.heap.size w W)) (hb:Below W2.heap.size W2 w1) (k:Below w.heap.size w W→Below w.heap.size w W2:=by intro h;repeat (first|(with_reducible first|exact h|apply below_alloc|apply pw_below_drewN|apply below_drew1|refine below_set ?_ (Aside0.out (by assumption)))|exact h)):Aside0 (Below w.heap.size w w1):=⟨below_step (k HB.out) hb⟩
theorem gw {w W W2:World} {g:Nat} (hg:g=W2.heap.size) (HB:Aside0 (Below w.heap.size w W)) (k:Below w.heap.size w W→Below w.heap.size w W2:=by intro h;repeat (first|(with_reducible first|exact h|apply below_alloc|apply pw_below_drewN|apply below_drew1|refine below_set ?_ (Aside0.out (by assumption)))|exact h)):Aside0 (w.heap.size≤g):=⟨by rw [hg];exact below_size (k HB.out)⟩
theorem kb {W W2 w1:World} {g:Nat} {o:Obj} (h:Aside0 (W.heap[g]? =some o)) (hb:Below W2.heap.size W2 w1) (k:W.heap[g]? =some o→W2.heap[g]? =some o:=by intro h;repeat (first|(with_reducible first|refine blk_drewN ?_ _|refine blk_drew ?_|refine blk_alloc ?_ _|refine far_ (by assumption) ?_)|exact h)):Aside0 (w1.heap[g]? =some o):=⟨blk_below (k h.out) hb⟩
end Go.Proofs.YtiblahniohjbbaaW.PrintWords
