/- The same rows, where others are written: what lies apart is kept. No condition. -/
import Derived.Test.YtiblahniohjbbaaSpare
import Derived.Test.YtiblahniohjbbaaWMore
namespace Go.Proofs.YtiblahniohjbbaaW.PrintWords
open Go.RowKit
namespace Kd
section
variable {α:Type} [Fil α] {d:Kd α} {e:Nat} {w w1:World} {base:Nat} {ok ok':Nat→Prop} {v u:Value} {xs:List α}
theorem P_keptB {W2:World} {S:Nat→Prop} {W:World} (h:d.P e W base ok v xs) (hk:Kept W W2 S) (hne:∀k,ok k→¬S k):d.P e W2 base (fun k=>ok k∧(¬S k∧k<W.heap.size)) v xs:=
  P_map h (fun k hk2=>⟨h.1 k hk2,hne k (h.1 k hk2),P_lt h k hk2⟩) (fun _ _ hr _=>R_keptB hr hk hne)
theorem P_old {w1 W:World} (h:d.P e W base ok v xs) (hb:Below W.heap.size W w1):d.P e w1 base (fun k=>ok k∧k<W.heap.size) v xs:=P_map h (fun k hk=>⟨h.1 k hk,P_lt h k hk⟩) (fun _ _ hr _=>Go.Proofs.YtiblahniohjbbaaW.PrintMore.Kd.R_old hr hb)
theorem P_told {w1:World} {N:Nat} (h:d.P e w1 base (fun k=>ok k∧k<N) u xs) (hbase:∀k,v.ownBlock=some k→N≤k):d.P e w1 base (fun k=>(ok k∧some k≠v.ownBlock)∧k<N) u xs:=
  P_map h (fun k hk=>⟨⟨(h.1 k hk).1,fun e2=>Nat.lt_irrefl _ (Nat.lt_of_lt_of_le (h.1 k hk).2 (hbase k e2.symm))⟩,(h.1 k hk).2⟩) (fun _ _ hr _=>Go.Proofs.YtiblahniohjbbaaW.PrintMore.Kd.R_told hr hbase)
end
end Kd
end Go.Proofs.YtiblahniohjbbaaW.PrintWords
