/- Short forms, a further part: rows of flags told by their runs; a cell of a block; what cannot be. No condition. -/
import Derived.Test.YtiblahniohjbbaaCm
namespace Go.Proofs.YtiblahniohjbbaaW.PrintWords
open Go.RowKit
def tR:Bool→List Nat→List Bool
  |_,[]=>[]
  |b,n::r=>List.replicate n b++tR (!b) r
def tM (r:List Nat):Array Bool:=(tR true r).toArray
theorem bk {W:World} {g:Nat} {t:TypeId} {cs:Array Value} (h:W.heap[g]? =some (.cells cs t (0,0))) (j:Nat) {v:Value} (e:cs[j]? =some v:=by rfl):W.cell? ⟨g,j,none⟩=some v:=(blk_cell h j).trans e
theorem nO_ {α:Type} {c:Prop} {i:Decidable c} {x:Option α} {r:α} {p:Prop} (h:¬c) (H:(if c then x else none)=some r):p:=by rw [if_neg h] at H;exact absurd H (by simp)
theorem es {p:Prop} (h:p:=by first|rfl|(simp;done)|(simp [*];done)):p:=h
theorem nH {x:Bool} {p:Prop} (e:x=false):x=true→p:=fun h=>absurd (e.symm.trans h) (by decide)
theorem lm {α:Type} {a b:Option α} (h:LeO a b:=by with_reducible first|exact LeO.refl .. |exact LeO.none ..):LeO a b:=h
abbrev nB (k:Nat) (A:Option Addr) (n c:Nat):Prop:=some k≠(Value.slice A n c).ownBlock
theorem sj {α:Type} {a b:α} (h:some a=some b):a=b:=Option.some.inj h
theorem fr {α:Type} {d:Kd α} {e:Nat} {w:World} {base:Nat} {ok:Nat→Prop} {v:Value} {xs:List α} (g j:Nat) (h:d.R e w base ok v xs) (hok:∀k,ok k→k≠g) (u:Value):d.R e (w.setCell ⟨g,j,none⟩ u) base ok v xs:=Kd.R_far (p:=⟨g,j,none⟩) h hok u
abbrev f5 {α β:Type} (A0:Option Addr) (l0:List α) (c0:Nat) (A1:Option Addr) (l1:List β) (c1:Nat) (A2:Option Addr) (l2:List Int) (c2:Nat) (A3:Option Addr) (l3:List Int) (c3:Nat) (A4:Option Addr) (l4:List Int) (c4:Nat) (x:Int):Array Value:=
  #[.slice A0 l0.length c0,.slice A1 l1.length c1,.slice A2 l2.length c2,.slice A3 l3.length c3,.slice A4 l4.length c4,.int .i64 x]
end Go.Proofs.YtiblahniohjbbaaW.PrintWords
