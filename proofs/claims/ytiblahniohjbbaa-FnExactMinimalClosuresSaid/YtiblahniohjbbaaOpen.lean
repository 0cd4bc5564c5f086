/- What an argument reads as, kind by kind: if its cells can be read as data of the type, then they hold a value of the print's kind, and the value is well formed. No condition. -/
import Derived.Test.YtiblahniohjbbaaWWords
import Derived.SizedLaws
import Derived.ChangeArms
import Derived.ChangeSame
import Derived.Deep.Slices
import Derived.Carry
import Derived.WideShapes
import Derived.Deep.Fields
namespace Go.Proofs.Ytiblahniohjbbaa.Open
open Go.ChangeShapes Go.WideShapes Go.RowKit Go.Deep Go.Proofs.YtiblahniohjbbaaW.PrintWords
section
variable {H:Type} {enc:TypeId×Value→H} {P:Program} {w:World} {base:Nat} {spare:Nat→Bool} {held:Bool}
def Opens {H:Type} (enc:TypeId×Value→H) (P:Program) (w:World) (base:Nat) (spare:Nat→Bool) (held:Bool) {α:Type} (d:Kd α) (t:TypeId) (good:α→Prop):Prop:=
  ∀fuel cs x,DataW.trod enc P w base spare held fuel t cs=some x→(∀n∈x.1.weights P t,n≤reachBytes)→∃a:α,d.K w a cs∧good a
theorem opens_int {t:TypeId} {k:IntKind} (ht:P.underlying t=some (.int k)):Opens enc P w base spare held (Kd.int k) t (fun n=>(Lit.int k n).wf=true):=by
  intro fuel cs x h _
  obtain⟨n,rfl,_,hw⟩:=DataW.trod_int ht h
  exact⟨n,rfl,hw⟩
theorem weights_all {e:TypeId}:∀{ds:List (DataW H)} {d:DataW H},d∈ds→∀n∈d.weights P e,n∈DataW.weightsAll P e ds
  |d0::ds,d,hd,n,hn=>by
    simp only [DataW.weightsAll,List.mem_append]
    rcases List.mem_cons.1 hd with rfl|hd
    · exact Or.inl hn
    · exact Or.inr (weights_all hd n hn)
  |[],_,hd,_,_=>by simp at hd
theorem opens_slice {t e:TypeId} {α:Type} {d:Kd α} {good:α→Prop} (eN:Nat) (ht:P.underlying t=some (.slice e)) (hz:P.cellsOf e=d.sz) (hb1:1≤P.bytesOf e) (hd:Opens enc P w base spare held d e good):
    Opens enc P w base spare held (Kd.slice eN d) t (fun xs=>xs.length≤reachBytes∧∀x∈xs,good x):=by
  intro fuel cs x h hw
  rcases open_slice ht h with ⟨rfl,_⟩|⟨a,len,cap,m,n,D,Pl,rfl,hb,hl,hm,hmm,rfl,hx⟩
  · exact⟨[],⟨none,0,rfl,Nat.le_refl _,Kd.C_nil d w⟩,by simp,fun x hx=>by simp at hx⟩
  · have hlm:len≤m:=by rw [hmm];split<;>omega
    have key:∀i,i<len→∃y:α,good y∧∃cs',cs'.length=d.sz∧d.K w y cs'∧∀j u,cs'[j]? =some u→w.cell? (a.add (i*d.sz+j))=some u:=by
      intro i hi
      obtain⟨cs',h1,h2⟩:=hx i (by omega)
      obtain⟨y,hK,hg⟩:=hd _ _ _ h2 (fun q hq=>hw q (by
        simp only [DataW.weights,ht,List.mem_cons,List.mem_append]
        exact Or.inr (Or.inl (weights_all (List.mem_map.2 ⟨i,by simpa using hi,rfl⟩) q hq))))
      obtain⟨_,hlen,hcell⟩:=World.cells?_some h1
      refine⟨y,hg,cs',by rw [hlen,hz],hK,fun j u hu=>?_⟩
      have hj:j<P.cellsOf e:=by
        rw [←hlen]
        exact(List.getElem?_eq_some_iff.1 hu).1
      have:=hcell j hj
      rw [Go.Deep.add_add,hz] at this
      rw [this,hu]
    have hlist:∀k,k≤len→∃ys:List α,ys.length=k∧(∀y∈ys,good y)∧∀i y,ys[i]? =some y→∃cs',cs'.length=d.sz∧d.K w y cs'∧∀j u,cs'[j]? =some u→w.cell? (a.add (i*d.sz+j))=some u:=by
      intro k
      induction k with
      |zero=>exact fun _=>⟨[],rfl,fun y hy=>by simp at hy,fun i y hy=>by simp at hy⟩
      |succ k ih=>
        intro hk
        obtain⟨ys,h1,h2,h3⟩:=ih (by omega)
        obtain⟨y,hg,hc⟩:=key k (by omega)
        refine⟨ys++[y],by simp [h1],fun z hz=>?_,fun i z hz=>?_⟩
        · rcases List.mem_append.1 hz with hz|hz
          · exact h2 z hz
          · rw [List.mem_singleton.1 hz]
            exact hg
        · by_cases hi:i<ys.length
          · rw [List.getElem?_append_left hi] at hz
            exact h3 i z hz
          · rw [List.getElem?_append_right (by omega)] at hz
            have hi0:i-ys.length=0:=by
              have:=(List.getElem?_eq_some_iff.1 hz).1
              simp at this
              omega
            rw [hi0] at hz
            have hik:i=k:=by omega
            obtain rfl:y=z:=by simpa using hz
            rw [hik]
            exact hc
    obtain⟨ys,h1,h2,h3⟩:=hlist len (Nat.le_refl _)
    have hM:len≤maxLen:=Nat.le_trans hl hm
    have hR:len≤reachBytes:=by
      have q:=hw ((((List.range len).map D).length+((List.range (m-len)).map fun j=>D (len+j)).length)*P.bytesOf e) (by simp only [DataW.weights,ht,List.mem_cons,true_or])
      have q2:len*1≤(((List.range len).map D).length+((List.range (m-len)).map fun j=>D (len+j)).length)*P.bytesOf e:=Nat.mul_le_mul (by simp) hb1
      omega
    refine⟨ys,⟨some a,cap,by rw [h1],by omega,h1.symm▸⟨h1,?_,fun _=>⟨a,rfl,h3⟩⟩⟩,by omega,h2⟩
    unfold maxLen at hM
    omega
theorem opens_iso {α β:Type} {d:Kd α} {t:TypeId} {good:α→Prop} (f:β→α) (g:α→β) (hfg:∀a,f (g a)=a) (h:Opens enc P w base spare held d t good):Opens enc P w base spare held (Kd.iso d f) t (fun b=>good (f b)):=by
  intro fuel cs x hx hw
  obtain⟨a,hK,hg⟩:=h fuel cs x hx hw
  exact⟨g a,by show d.K w (f (g a)) cs;rw [hfg];exact hK,by show good (f (g a));rw [hfg];exact hg⟩
theorem cut_one {cs:List Value} {i:Nat} (hi:i<cs.length):(cs.drop i).take 1=[cs[i]]:=by
  rw [List.drop_eq_getElem_cons hi]
  rfl
theorem wt {ts:List TypeId} {ds:List (DataW H)} (h:(DataW.weightsEach P ts ds).all (·≤reachBytes)=true) {j:Nat} {t:TypeId} {d:DataW H} (ht:ts[j]? =some t) (hd:ds[j]? =some d):∀n∈d.weights P t,n≤reachBytes:=by
  intro n hn
  have:=List.all_eq_true.1 h n (DataW.weights_mem_each ht hd n hn)
  simpa using this
def OpensAll {H:Type} (enc:TypeId×Value→H) (P:Program) (w:World) (base:Nat) (spare:Nat→Bool) (held:Bool) {α:Type} (d:Kd α) (ts:List TypeId) (good:α→Prop):Prop:=
  ∀cs:List Value,cs.length=ts.length→(∀(i:Nat) (t:TypeId) (c:Value),ts[i]? =some t→cs[i]? =some c→∃n y,DataW.trod enc P w base spare held n t [c]=some y∧∀q∈y.1.weights P t,q≤reachBytes)→∃a:α,d.K w a cs∧good a
theorem all_one {α:Type} {d:Kd α} {t:TypeId} {good:α→Prop} (h:Opens enc P w base spare held d t good):OpensAll enc P w base spare held d [t] good:=by
  intro cs hl hx
  match cs,hl with
  |[c],_=>
    obtain⟨n,y,hy,hq⟩:=hx 0 t c rfl rfl
    exact h _ _ _ hy hq
theorem all_cons {α β:Type} {d:Kd α} {t:TypeId} {good:α→Prop} {dd:Kd β} {ts:List TypeId} {good2:β→Prop} (h:Opens enc P w base spare held d t good) (h2:OpensAll enc P w base spare held dd ts good2):
    OpensAll enc P w base spare held (Kd.pair d dd) (t::ts) (fun a=>good a.1∧good2 a.2):=by
  intro cs hl hx
  match cs,hl with
  |c::cs,hl=>
    obtain⟨n,y,hy,hq⟩:=hx 0 t c rfl rfl
    obtain⟨a,ka,ga⟩:=h _ _ _ hy hq
    obtain⟨b,kb,gb⟩:=h2 cs (by simpa using hl) (fun i t c hi hc=>hx (i+1) t c (by simpa using hi) (by simpa using hc))
    exact⟨(a,b),⟨[c],cs,rfl,ka,kb⟩,ga,gb⟩
theorem opens_struct {t:TypeId} {fs:Array Field} {α:Type} {d:Kd α} {good:α→Prop} (ht:P.underlying t=some (.struct fs)) (hC:P.cellsOf t=fs.size) (hone:Go.Deep.oneCellFields P fs=true)
    (hd:OpensAll enc P w base spare held d (fs.toList.map (·.type)) good):Opens enc P w base spare held d t good:=by
  intro fuel cs x h hw
  obtain⟨xs,m,_,rfl,hl,hlen,hf⟩:=DataW.trod_struct ht h
  refine hd cs (by simp [hl,hC]) (fun i ty c hi hc=>?_)
  rw [List.getElem?_map] at hi
  obtain⟨f,hf0,rfl⟩:=Option.map_eq_some_iff.1 hi
  have hfi:fs[i]? =some f:=by simpa using hf0
  obtain⟨o,k⟩:=Go.Deep.hone_of hone i f hfi
  have q:=hf i f (by simpa using hfi)
  rw [o,k] at q
  have hi2:i<cs.length:=(List.getElem?_eq_some_iff.1 hc).1
  rw [cut_one hi2] at q
  have hci:cs[i]=c:=by
    have:=List.getElem?_eq_getElem hi2
    rw [hc] at this
    exact(Option.some.inj this).symm
  rw [hci] at q
  have hix:i<xs.length:=by
    rw [hlen]
    have:=(Array.getElem?_eq_some_iff.1 hfi).1
    simpa using this
  refine⟨m,_,q.trans (List.getElem?_eq_getElem hix),fun z hz=>hw z ?_⟩
  simp only [DataW.weights,ht]
  exact DataW.weights_mem_each (j:=i) (by rw [List.getElem?_map];simp [hf0]) (by rw [List.getElem?_map,List.getElem?_eq_getElem hix];rfl) z hz
end
end Go.Proofs.Ytiblahniohjbbaa.Open
