/- A slice of the call's own whose spare cells are told, too: behind the visible elements lie so many fillers as 'roomBehind' says. No condition. -/
import Derived.Test.YtiblahniohjbbaaWWords
namespace Go.Proofs.YtiblahniohjbbaaW.PrintWords
open Go.RowKit
section
variable {P:Program} {ops:Array Oper} {Q:Exit→Act→World→Prop} {o:Oper} {rest:List Oper} {a:Act} {W:World}
theorem at_fn {f:FuncId} {as:Array Operand} {ts:Array TypeId} (_ho:o.op=.call { callee:=.value (.func f),args:=as,argTypes:=ts }) (h:wpList P ops Q (o::rest) a W):wpList P ops Q (o::rest) a W:=h
theorem at_bi {b:Builtin} {xs:Array Operand} {ts:Array TypeId} (_ho:o.op=.call { callee:=.builtin b,args:=xs,argTypes:=ts }) (h:wpList P ops Q (o::rest) a W):wpList P ops Q (o::rest) a W:=h
end
class Fil (α:Type) where
  fil:α
instance:Fil Int:=⟨-7000000000000000101⟩
instance:Fil ByteArray:=⟨⟨#[126,115,112,97,114,101,126]⟩⟩
def roomN (n:Nat):Nat:=if n % 6=5 then 0 else if n % 3=0 then 1 else n
def full {α:Type} [Fil α] (xs:List α):List α:=xs++List.replicate (roomN xs.length) Fil.fil
namespace Kd
def P {α:Type} [Fil α] (d:Kd α) (e:Nat) (w:World) (base:Nat) (ok:Nat→Prop) (v:Value) (xs:List α):Prop:=
  (∀k,v.ownBlock=some k→ok k)∧∃A c,v=.slice A xs.length c∧d.R e w base ok (.slice A (full xs).length c) (full xs)
section
variable {α:Type} [Fil α] {d:Kd α} {e:Nat} {w w1:World} {base:Nat} {ok ok':Nat→Prop} {v u:Value} {xs:List α}
end
end Kd
end Go.Proofs.YtiblahniohjbbaaW.PrintWords
