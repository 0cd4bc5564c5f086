/- Short forms, a further part: cells beside stores, blocks of rows, blocks kept. No condition. -/
import Derived.Test.YtiblahniohjbbaaCm9
namespace Go.Proofs.YtiblahniohjbbaaW.PrintWords
open Go.RowKit Go.Proofs.YtiblahniohjbbaaW.PrintLast
theorem kk {W W2 w1:World} {g g2:Nat} {o:Obj} (hk:KeepBut W2 w1 g none) (b:Aside0 (W.heap[g2]? =some o)) (n:Aside0 (g2≠g)) (k:W.heap[g2]? =some o→W2.heap[g2]? =some o:=by intro h;repeat (first|(with_reducible first|refine blk_drewN ?_ _|refine blk_drew ?_|refine blk_alloc ?_ _|refine far_ (by assumption) ?_)|exact h)):Aside0 (w1.heap[g2]? =some o):=⟨KeepBut.blk hk (k b.out) n.out (by simp)⟩
end Go.Proofs.YtiblahniohjbbaaW.PrintWords
