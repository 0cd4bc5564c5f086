/- Words that the functions' proofs use; no condition. -/
import Derived.Test.YtiblahniohjbbaaWWords
import Derived.Laws.StructEq
namespace Go.Proofs.YtiblahniohjbbaaW.PrintWords
open Go.RowKit
section
variable {P:Program} {d:Nat} {xs ys:Array Value} {f:Field} {fs:List Field} {a b:Value} {r s:Bool} {w:World}
end
end Go.Proofs.YtiblahniohjbbaaW.PrintWords
