/- Short forms of what the printed proofs say again and again, a third part: rows that are shared. No condition. -/
import Derived.Test.YtiblahniohjbbaaCm
import Derived.Test.YtiblahniohjbbaaWMore
namespace Go.Proofs.YtiblahniohjbbaaW.PrintWords
open Go.RowKit Go.Proofs.YtiblahniohjbbaaW.PrintLast
section
variable {α:Type} {d:Kd α} {e:Nat} {W W2:World} {base:Nat} {ok:Nat→Prop} {v:Value} {xs:List α}
theorem vV (h:Kd.V d e W base ok v xs) (k:Kd.V d e W base ok v xs→Kd.V d e W2 base ok v xs:=by intro h;(with_reducible repeat (first|apply Kd.V_alloc|apply Kd.V_drewN|apply Kd.V_drew));exact h):Kd.V d e W2 base ok v xs:=k h
theorem vN (h:Kd.N d e W base ok v xs) (k:Kd.N d e W base ok v xs→Kd.N d e W2 base ok v xs:=by intro h;(with_reducible repeat (first|apply Kd.N_alloc|apply Kd.N_drewN|apply Kd.N_drew));exact h):Kd.N d e W2 base ok v xs:=k h
theorem vS (h:Kd.S d e W base ok v xs) (k:Kd.S d e W base ok v xs→Kd.S d e W2 base ok v xs:=by intro h;(with_reducible repeat (first|apply Kd.S_alloc|apply Kd.S_drewN|apply Kd.S_drew));exact h):Kd.S d e W2 base ok v xs:=k h
end
end Go.Proofs.YtiblahniohjbbaaW.PrintWords
