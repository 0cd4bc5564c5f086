/- Short forms, a further part: a row of one's own beside what was stored into a block of another type; what is on or off in a table. No condition. -/
import Derived.Test.YtiblahniohjbbaaCm6
namespace Go.Proofs.YtiblahniohjbbaaW.PrintWords
open Go.RowKit
section
variable {α:Type} {d:Kd α} {e g t:Nat} {cs:Array Value} {w:World} {base:Nat} {ok:Nat→Prop} {v u0 u1 u2 u3 u4 u5:Value} {xs:List α}
theorem sQ1 {j:Nat} (h:Aside0 (d.R e w base ok v xs)) (b:Aside0 (w.heap[g]? =some (.cells cs t (0,0)))) (ht:∀q,q∈e::d.E→q≠t:=by decide):d.R e (w.setCell ⟨g,j,none⟩ u0) base ok v xs:=Kd.R_set h.out b.out ht j u0
theorem sQ5 (h:Aside0 (d.R e w base ok v xs)) (b:Aside0 (w.heap[g]? =some (.cells cs t (0,0)))) (ht:∀q,q∈e::d.E→q≠t:=by decide):d.R e (((((w.setCell ⟨g,0,none⟩ u0).setCell ⟨g,1,none⟩ u1).setCell ⟨g,2,none⟩ u2).setCell ⟨g,3,none⟩ u3).setCell ⟨g,4,none⟩ u4) base ok v xs:=
  Kd.R_mono (fr g 4 (fr g 3 (fr g 2 (fr g 1 (fr g 0 (Kd.R_types h.out b.out ht) (fun _ hk=>hk.2) u0) (fun _ hk=>hk.2) u1) (fun _ hk=>hk.2) u2) (fun _ hk=>hk.2) u3) (fun _ hk=>hk.2) u4) (fun _ hk=>hk.1)
theorem sQ6 (h:Aside0 (d.R e w base ok v xs)) (b:Aside0 (w.heap[g]? =some (.cells cs t (0,0)))) (ht:∀q,q∈e::d.E→q≠t:=by decide):d.R e ((((((w.setCell ⟨g,0,none⟩ u0).setCell ⟨g,1,none⟩ u1).setCell ⟨g,2,none⟩ u2).setCell ⟨g,3,none⟩ u3).setCell ⟨g,4,none⟩ u4).setCell ⟨g,5,none⟩ u5) base ok v xs:=
  Kd.R_mono (fr g 5 (fr g 4 (fr g 3 (fr g 2 (fr g 1 (fr g 0 (Kd.R_types h.out b.out ht) (fun _ hk=>hk.2) u0) (fun _ hk=>hk.2) u1) (fun _ hk=>hk.2) u2) (fun _ hk=>hk.2) u3) (fun _ hk=>hk.2) u4) (fun _ hk=>hk.2) u5) (fun _ hk=>hk.1)
theorem tQ1 {j:Nat} (h:Aside0 (d.R e w base ok v xs)) (b:Aside0 (w.heap[g]? =some (.cells cs t (0,0)))) (ht:∀q,q∈e::d.E→q≠t:=by decide):d.R e (w.setCell ⟨g,j,none⟩ u0) base (fun _=>True) v xs:=Kd.R_mono (sQ1 h b ht) (fun _ _=>trivial)
theorem tQ5 (h:Aside0 (d.R e w base ok v xs)) (b:Aside0 (w.heap[g]? =some (.cells cs t (0,0)))) (ht:∀q,q∈e::d.E→q≠t:=by decide):d.R e (((((w.setCell ⟨g,0,none⟩ u0).setCell ⟨g,1,none⟩ u1).setCell ⟨g,2,none⟩ u2).setCell ⟨g,3,none⟩ u3).setCell ⟨g,4,none⟩ u4) base (fun _=>True) v xs:=Kd.R_mono (sQ5 h b ht) (fun _ _=>trivial)
theorem tQ6 (h:Aside0 (d.R e w base ok v xs)) (b:Aside0 (w.heap[g]? =some (.cells cs t (0,0)))) (ht:∀q,q∈e::d.E→q≠t:=by decide):d.R e ((((((w.setCell ⟨g,0,none⟩ u0).setCell ⟨g,1,none⟩ u1).setCell ⟨g,2,none⟩ u2).setCell ⟨g,3,none⟩ u3).setCell ⟨g,4,none⟩ u4).setCell ⟨g,5,none⟩ u5) base (fun _=>True) v xs:=Kd.R_mono (sQ6 h b ht) (fun _ _=>trivial)
end
theorem oQ {b:Nat→Bool} {C:Nat→Prop} {v:Bool} (h:∀i,C i→b i=v) (i:Nat) (k:C i:=by kernel_rfl):b i=v:=h i k
theorem nQ {b:Nat→Bool} {C:Nat→Prop} {p:Prop} (h:∀i,C i→b i=false) (i:Nat) (k:C i:=by kernel_rfl):b i=true→p:=nH (h i k)
end Go.Proofs.YtiblahniohjbbaaW.PrintWords
