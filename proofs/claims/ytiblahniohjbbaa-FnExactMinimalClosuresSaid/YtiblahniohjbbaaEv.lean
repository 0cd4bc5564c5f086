/- Loops with a number of rounds: what they come to when the rounds suffice. Plain; no condition. -/
import Derived.Test.YtiblahniohjbbaaSpare
namespace Go.Proofs.YtiblahniohjbbaaW.PrintWords
open Go.RowKit
def Evt (p:Nat→Prop):Prop:=∃K,∀k,K≤k→p k
theorem Evt.all {p:Nat→Prop} (h:∀k,p k):Evt p:=⟨0,fun k _=>h k⟩
theorem Evt.and {p q:Nat→Prop} (h:Evt p) (h':Evt q):Evt (fun k=>p k∧q k):=by
  obtain⟨K,hK⟩:=h
  obtain⟨L,hL⟩:=h'
  exact⟨max K L,fun k hk=>⟨hK k (by omega),hL k (by omega)⟩⟩
theorem Evt.mono {p q:Nat→Prop} (h:Evt p) (h':∀k,p k→q k):Evt q:=by
  obtain⟨K,hK⟩:=h
  exact⟨K,fun k hk=>h' k (hK k hk)⟩
theorem Evt.succ {p:Nat→Prop} (h:Evt p):Evt (fun k=>p (k+1)):=by
  obtain⟨K,hK⟩:=h
  exact⟨K,fun k hk=>hK (k+1) (by omega)⟩
theorem Ev.all {α:Type} {g:Nat→Option α} {r:α} (h:∀k,g k=some r):Ev g r:=⟨0,fun k _=>h k⟩
theorem Ev.stepE {α:Type} {g f:Nat→Option α} {r:α} (h:Evt (fun k=>g (k+1)=f k)) (hf:Ev f r):Ev g r:=by
  obtain⟨K,hK⟩:=h
  obtain⟨L,hL⟩:=hf
  refine⟨max K L+1,fun k hk=>?_⟩
  obtain⟨j,rfl⟩:∃j,k=j+1:=⟨k-1,by omega⟩
  exact(hK j (by omega)).trans (hL j (by omega))
theorem Ev.doneE {α:Type} {g:Nat→Option α} {r:α} (h:Evt (fun k=>g (k+1)=some r)):Ev g r:=Ev.stepE (f:=fun _=>some r) h (Ev.now r)
theorem Ev.up {α:Type} {g:Nat→Option α} {r:α} (h:Ev g r):Ev (fun k=>g (k+1)) r:=by
  obtain⟨K,hK⟩:=h
  exact⟨K,fun k hk=>hK (k+1) (by omega)⟩
theorem Ev.dn {α:Type} {g:Nat→Option α} {r:α} (h:Ev (fun k=>g (k+1)) r):Ev g r:=Ev.stepE (f:=fun k=>g (k+1)) (Evt.all fun _=>rfl) h
theorem Ev.eq {α:Type} {g:Nat→Option α} {r r':α} (h:Ev g r) (e:r=r'):Ev g r':=e▸h
theorem Ev.eq' {α:Type} {g f:Nat→Option α} {r:α} (h:Ev f r) (e:∀k,g k=f k):Ev g r:=by
  obtain⟨K,hK⟩:=h
  exact⟨K,fun k hk=>(e k).trans (hK k hk)⟩
theorem Ev.loop {σ α:Type} {l:Nat→σ→Option α} (res:σ→α) (valid:σ→Prop) (μ:σ→Nat)
    (h:∀s,valid s→Evt (fun k=>l (k+1) s=some (res s))∨∃s',valid s'∧μ s'<μ s∧res s'=res s∧Evt (fun k=>l (k+1) s=l k s')):
    ∀s,valid s→Ev (fun k=>l k s) (res s):=by
  have key:∀n s,μ s<n→valid s→Ev (fun k=>l k s) (res s):=by
    intro n
    induction n with
    |zero=>exact fun s hs _=>absurd hs (Nat.not_lt_zero _)
    |succ n ih=>
      intro s hs hv
      rcases h s hv with h1|⟨s',hv',hm,hr,h1⟩
      · exact Ev.doneE h1
      · have:=ih s' (by omega) hv'
        rw [hr] at this
        exact Ev.stepE h1 this
  exact fun s hv=>key (μ s+1) s (Nat.lt_succ_self _) hv
def allD (step:Nat→Bool):Nat→Nat→Bool
  |_,0=>true
  |i,d+1=>step i&&allD step (i+1) d
theorem allD_iff (step:Nat→Bool):∀d i,allD step i d=true↔∀j,i≤j→j<i+d→step j=true
  |0,i=>by simp only [allD];exact⟨fun _ j h1 h2=>by omega,fun _=>trivial⟩
  |d+1,i=>by
    simp only [allD,Bool.and_eq_true,allD_iff step d (i+1)]
    constructor
    · rintro⟨h1,h2⟩ j hj hj2
      by_cases e:j=i
      · rw [e];exact h1
      · exact h2 j (by omega) (by omega)
    · exact fun h=>⟨h i (Nat.le_refl _) (by omega),fun j hj hj2=>h j (by omega) (by omega)⟩
theorem Ev.allLoop {α:Type} {l:Nat→Int→Option α} {n:Nat} (step:Nat→Bool) (bad fin:α)
    (hr:∀i,i<n→Evt (fun k=>l (k+1) (i:Int)=if step i=true then l k ((i+1:Nat):Int) else some bad))
    (hf:Evt (fun k=>l (k+1) (n:Int)=some fin)):
    ∀d i,i+d=n→Ev (fun k=>l k (i:Int)) (if allD step i d=true then fin else bad):=by
  intro d
  induction d with
  |zero=>
    intro i hi
    obtain rfl:i=n:=by omega
    exact Ev.doneE (by simpa [allD] using hf)
  |succ d ih=>
    intro i hi
    have h1:=hr i (by omega)
    cases hs:step i with
    |true=>
      have:=ih (i+1) (by omega)
      simp only [allD,hs,Bool.true_and]
      exact Ev.stepE (h1.mono fun k hk=>by rw [hk,hs,if_pos rfl]) this
    |false=>
      simp only [allD,hs,Bool.false_and]
      exact Ev.doneE (h1.mono fun k hk=>by rw [hk,hs];rfl)
theorem Ev.allLoopQ {α:Type} {l:Nat→Int→Option α} {n:Nat} (step:Nat→Bool) (bad fin:α)
    (hr:∀i,i<n→(∀j,j<i→step j=true)→(step i=true→∀r,Ev (fun k=>l k ((i+1:Nat):Int)) r→Ev (fun k=>l k (i:Int)) r)∧(step i=false→Ev (fun k=>l k (i:Int)) bad))
    (hf:(∀j,j<n→step j=true)→Ev (fun k=>l k (n:Int)) fin):
    ∀d i,i+d=n→(∀j,j<i→step j=true)→Ev (fun k=>l k (i:Int)) (if allD step i d=true then fin else bad):=by
  intro d
  induction d with
  |zero=>
    intro i hi hp
    obtain rfl:i=n:=by omega
    simpa [allD] using hf hp
  |succ d ih=>
    intro i hi hp
    have h1:=hr i (by omega) hp
    cases hs:step i with
    |true=>
      have:=ih (i+1) (by omega) (fun j hj=>by
        by_cases e:j=i
        · rw [e];exact hs
        · exact hp j (by omega))
      simp only [allD,hs,Bool.true_and]
      exact h1.1 hs _ this
    |false=>
      simp only [allD,hs,Bool.false_and]
      exact h1.2 hs
theorem wrap_id {x:Int} (h1: -9223372036854775808≤x) (h2:x≤9223372036854775807):wrap64 x=x:=by unfold wrap64;omega
theorem wrap_succ {i n:Nat} (h:i<n) (hn:n≤9223372036854775807):wrap64 ((i:Int)+1)=((i+1:Nat):Int):=by unfold wrap64;omega
theorem wrap_pred {i n:Nat} (h:i<n) (h0:0<i) (hn:n≤9223372036854775807):wrap64 ((i:Int)-1)=((i-1:Nat):Int):=by unfold wrap64;omega
theorem rd_nat {xs:List Int} {i:Nat} (h:i<xs.length):rd xs (i:Int)=xs[i]:=by simp [rd,h]
theorem full_le {α:Type} [Fil α] (l:List α) (h:l.length≤1000000):(full l).length≤9223372036854775807:=by
  have hl:roomN l.length≤1000000:=by unfold roomN;(repeat' split)<;>omega
  rw [full_length]
  omega
end Go.Proofs.YtiblahniohjbbaaW.PrintWords
