/- A slice of the call's own whose spare cells are told, too: behind the visible elements lie so many fillers as 'roomBehind' says. No condition. -/
import Derived.Test.YtiblahniohjbbaaWWords
namespace Go.Proofs.YtiblahniohjbbaaW.PrintWords
open Go.RowKit
section
variable {P:Program} {ops:Array Oper} {Q:Exit→Act→World→Prop} {o:Oper} {rest:List Oper} {a:Act} {W:World}
theorem at_fn {f:FuncId} {as:Array Operand} {ts:Array TypeId} (_ho:o.op=.call { callee:=.value (.func f),args:=as,argTypes:=ts }) (h:wpList P ops Q (o::rest) a W):wpList P ops Q (o::rest) a W:=h
theorem at_bi {b:Builtin} {xs:Array Operand} {ts:Array TypeId} (_ho:o.op=.call { callee:=.builtin b,args:=xs,argTypes:=ts }) (h:wpList P ops Q (o::rest) a W):wpList P ops Q (o::rest) a W:=h
end
class Fil (α:Type) where
  fil:α
instance:Fil Int:=⟨-7000000000000000101⟩
instance:Fil ByteArray:=⟨⟨#[126,115,112,97,114,101,126]⟩⟩
def roomN (n:Nat):Nat:=if n % 6=5 then 0 else if n % 3=0 then 1 else n
def full {α:Type} [Fil α] (xs:List α):List α:=xs++List.replicate (roomN xs.length) Fil.fil
theorem full_length {α:Type} [Fil α] (xs:List α):(full xs).length=xs.length+roomN xs.length:=by simp [full]
theorem le_full {α:Type} [Fil α] (xs:List α):xs.length≤(full xs).length:=by rw [full_length];omega
theorem full_take {α:Type} [Fil α] (xs:List α):(full xs).take xs.length=xs:=by simp [full]
theorem take_succ_set {α:Type} (F:List α) (i:Nat) (v:α) (h:i<F.length):(F.set i v).take (i+1)=F.take i++[v]:=by
  rw [List.take_succ_eq_append_getElem (by simpa using h),List.getElem_set_self,List.take_set,List.set_eq_of_length_le (by simp [Nat.min_eq_left (Nat.le_of_lt h)])]
theorem cut_cap {P:Program} (t e:TypeId) (kh:IntKind) {i:TypeInfo} (ht:P.underlying t=some (.slice e)) (hi:P.info? e=some i) (A:Option Addr) (n c:Nat) (j:Int) (h0:0≤j) (hm:j≤c):
    ∀W:World,(Instr.slice t (.slice A n c) none (some (.int kh j)) none).run P W=.ok (.slice A j.toNat c) W:=by
  intro W
  have hel:P.elem t=e:=by simp [Program.elem,ht]
  have hu:P.underlying t=some (.slice (P.elem t)):=by rw [hel];exact ht
  have ha:(A.map fun x=>x.add 0)=A:=by cases A<;>simp [Addr.add]
  rw [run_slice_h W t A n c hu kh j h0 (by omega),hel]
  simp [sizeOf,typeInfo,hi,sliced,Result.andThen,ha]
def vis (n m:Nat):Nat:=min n m
theorem vis_zero (n:Nat):vis n 0=0:=Nat.min_zero n
theorem vis_le {n m:Nat} (h:n≤m):vis n m=n:=Nat.min_eq_left h
theorem slice_block (A:Option Addr) (n m c:Nat):(Value.slice A n c).ownBlock=(Value.slice A m c).ownBlock:=by cases A<;>rfl
namespace Kd
def P {α:Type} [Fil α] (d:Kd α) (e:Nat) (w:World) (base:Nat) (ok:Nat→Prop) (v:Value) (xs:List α):Prop:=
  (∀k,v.ownBlock=some k→ok k)∧∃A c,v=.slice A xs.length c∧d.R e w base ok (.slice A (full xs).length c) (full xs)
section
variable {α:Type} [Fil α] {d:Kd α} {e:Nat} {w w1:World} {base:Nat} {ok ok':Nat→Prop} {v u:Value} {xs:List α}
theorem P_R (h:d.P e w base ok v xs):d.R e w base ok v xs:=by
  obtain⟨_,A,c,rfl,h2⟩:=h
  have:=R_take h2 (m:=xs.length) (le_full xs)
  rwa [full_take] at this
theorem P_map (h:d.P e w base ok v xs) {base':Nat} (hok:∀k,v.ownBlock=some k→ok' k)
    (hm:∀A c,d.R e w base ok (.slice A (full xs).length c) (full xs)→v.ownBlock=(Value.slice A (full xs).length c).ownBlock→d.R e w1 base' ok' (.slice A (full xs).length c) (full xs)):d.P e w1 base' ok' v xs:=by
  obtain⟨_,A,c,rfl,h2⟩:=h
  exact⟨hok,A,c,rfl,hm A c h2 (slice_block _ _ _ _)⟩
theorem P_mono (h:d.P e w base ok v xs) (hok:∀k,ok k→ok' k):d.P e w base ok' v xs:=P_map h (fun k hk=>hok k (h.1 k hk)) (fun _ _ hr _=>R_mono hr hok)
theorem P_lower {base':Nat} (h:d.P e w base ok v xs) (hb:base'≤base):d.P e w base' ok v xs:=P_map h h.1 (fun _ _ hr _=>R_lower hr hb)
theorem P_below (h:d.P e w base ok v xs) (hb:Below w.heap.size w w1):d.P e w1 base ok v xs:=P_map h h.1 (fun _ _ hr _=>R_below hr hb)
theorem P_alloc (h:d.P e w base ok v xs) (o:Obj):d.P e (w.alloc o) base ok v xs:=P_below h (below_alloc (Below.refl _ _) o)
theorem P_drew (h:d.P e w base ok v xs):d.P e w.drew base ok v xs:=P_below h (below_drew (Below.refl _ _))
theorem P_drewN (h:d.P e w base ok v xs) (m:Nat):d.P e (w.drewN m) base ok v xs:=P_below h (pw_below_drewN (Below.refl _ _) m)
theorem P_far (h:d.P e w base ok v xs) {p:Addr} (hok:∀k,ok k→k≠p.block) (x:Value):d.P e (w.setCell p x) base ok v xs:=P_map h h.1 (fun _ _ hr _=>R_far hr hok x)
theorem P_slice (h:d.P e w base ok v xs):∃A c,v=.slice A xs.length c:=R_slice (P_R h)
theorem P_reads' {A:Option Addr} {n c:Nat} (h:d.P e w base ok (.slice A n c) xs):n=xs.length∧n≤c∧d.C w A xs.length xs:=R_reads' (P_R h)
theorem P_lt (h:d.P e w base ok v xs):∀k,v.ownBlock=some k→k<w.heap.size:=R_lt (P_R h)
theorem P_base (h:d.P e w base ok v xs):∀k,v.ownBlock=some k→base≤k:=R_base (P_R h)
theorem P_typed (h:d.P e w base ok v xs):∀k,v.ownBlock=some k→∃cells,w.heap[k]? =some (.cells cells e (0,0)):=R_typed (P_R h)
theorem P_ne (h:d.P e w base ok v xs) {g t:Nat} {cells:Array Value} (hb:w.heap[g]? =some (.cells cells t (0,0))) (ht:e≠t):some g≠v.ownBlock:=R_ne (P_R h) hb ht
theorem P_elder' (h:d.P e w base ok u xs) (hbase:∀k,v.ownBlock=some k→w.heap.size≤k) (hb:Below w.heap.size w w1):d.P e w1 base (fun k=>ok k∧some k≠v.ownBlock) u xs:=
  P_map h (fun k hk=>⟨h.1 k hk,fun e2=>by have a1:=hbase k e2.symm;have a2:=P_lt h k hk;omega⟩) (fun _ _ hr _=>R_elder' hr hbase hb)
theorem P_new' (h:d.P e w1 w.heap.size ok v xs) (hlt:∀k,u.ownBlock=some k→k<w.heap.size):d.P e w1 w.heap.size (fun k=>ok k∧some k≠u.ownBlock) v xs:=
  P_map h (fun k hk=>⟨h.1 k hk,fun e2=>by have a1:=hlt k e2.symm;have a2:=P_base h k hk;omega⟩) (fun _ _ hr _=>R_new' hr hlt)
theorem P_apart' {e':Nat} (h:d.P e w base ok u xs) (hty:∀k,v.ownBlock=some k→∃cells,w.heap[k]? =some (.cells cells e' (0,0))) (ht:∀q,q∈e::d.E→q≠e'):d.P e w base (fun k=>ok k∧some k≠v.ownBlock) u xs:=
  P_map h (fun k hk=>(R_apart' (P_R h) hty ht).1 k hk) (fun _ _ hr _=>R_apart' hr hty ht)
theorem P_types (h:d.P e w base ok v xs) {g t:Nat} {cells:Array Value} (hb:w.heap[g]? =some (.cells cells t (0,0))) (ht:∀q,q∈e::d.E→q≠t):d.P e w base (fun k=>ok k∧k≠g) v xs:=
  P_map h (fun k hk=>(R_types (P_R h) hb ht).1 k hk) (fun _ _ hr _=>R_types hr hb ht)
theorem P_full {A:Option Addr} {n c:Nat} (h:d.P e w base ok (.slice A n c) xs):(full xs).length≤c∧d.C w A (full xs).length (full xs):=by
  obtain⟨_,A',c',e1,h2⟩:=h
  injection e1 with e2 e3 e4
  subst e2 e4
  exact⟨(R_reads' h2).2.1,(R_reads' h2).2.2⟩
end
end Kd
end Go.Proofs.YtiblahniohjbbaaW.PrintWords
