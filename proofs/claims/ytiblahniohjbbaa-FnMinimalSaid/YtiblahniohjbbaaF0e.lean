/- Go functions of the program, each as a Lean function, and the proof that each call comes to what the Lean function tells; no condition beyond those that stand there. -/
import Derived.Test.YtiblahniohjbbaaF00
import Derived.Test.YtiblahniohjbbaaWEqStruct
import Derived.Test.YtiblahniohjbbaaCm6
namespace Go.Proofs.Ytiblahniohjbbaa.Pall
open Go.RowKit Go.Proofs.YtiblahniohjbbaaW.PrintWords
set_option linter.unusedVariables false
set_option linter.unusedSimpArgs false
def IsS84 (w0 W:World) (g:Nat) (f0:List Int) (f1:Int) (f2:Int):Prop:=∃A0 c0,W.heap[g]? =some (.cells #[.slice A0 f0.length c0,.int .i64 f1,.int .i64 f2] 84 (0,0))∧w0.heap.size≤g∧Kd.C (Kd.int .u8) w0 A0 f0.length f0
theorem IsS84.grown {w0 W:World} {g:Nat} {f0:List Int} {f1:Int} {f2:Int} {W1:World} {row:Option Nat} (h:IsS84 w0 W g f0 f1 f2) (hw:W.grownBy W1 row) (hne:some g≠row):IsS84 w0 W1 g f0 f1 f2:=by
  obtain⟨A0,c0,hb,hg,hr0⟩:=h
  exact⟨A0,c0,blk_grown hb hw hne,hg,hr0⟩
theorem IsS84.below {w0 W:World} {g:Nat} {f0:List Int} {f1:Int} {f2:Int} {W1:World} (h:IsS84 w0 W g f0 f1 f2) (hw:Below W.heap.size W W1):IsS84 w0 W1 g f0 f1 f2:=h.grown (grown_of_below hw none) (by simp)
theorem IsS84.alloc {w0 W:World} {g:Nat} {f0:List Int} {f1:Int} {f2:Int} (h:IsS84 w0 W g f0 f1 f2) (o:Obj):IsS84 w0 (W.alloc o) g f0 f1 f2:=h.below (below_alloc (Below.refl _ _) o)
theorem IsS84.drewN {w0 W:World} {g:Nat} {f0:List Int} {f1:Int} {f2:Int} (h:IsS84 w0 W g f0 f1 f2) (m:Nat):IsS84 w0 (W.drewN m) g f0 f1 f2:=h
theorem IsS84.drew {w0 W:World} {g:Nat} {f0:List Int} {f1:Int} {f2:Int} (h:IsS84 w0 W g f0 f1 f2):IsS84 w0 W.drew g f0 f1 f2:=h
theorem IsS84.apart {w0 W:World} {g:Nat} {f0:List Int} {f1:Int} {f2:Int} {α:Type} {d:Kd α} {e:Nat} {base:Nat} {ok:Nat→Prop} {v:Value} {xs:List α} (h:IsS84 w0 W g f0 f1 f2) (ho:d.R e W base ok v xs) (ht:∀q,q∈e::d.E→q≠84):d.R e W base (fun k=>ok k∧k≠g) v xs:=by
  obtain⟨A0,c0,hb,hg,hr0⟩:=h
  exact Kd.R_types ho hb ht
theorem IsS84.own_ne {w0 W:World} {g:Nat} {f0:List Int} {f1:Int} {f2:Int} {α:Type} {d:Kd α} {e:Nat} {base:Nat} {ok:Nat→Prop} {v:Value} {xs:List α} (h:IsS84 w0 W g f0 f1 f2) (ho:d.R e W base ok v xs) (ht:e≠84):some g≠v.ownBlock:=by
  obtain⟨A0,c0,hb,hg,hr0⟩:=h
  exact Kd.R_ne ho hb ht
theorem IsS84.lt {w0 W:World} {g:Nat} {f0:List Int} {f1:Int} {f2:Int} (h:IsS84 w0 W g f0 f1 f2):g<W.heap.size:=by
  obtain⟨A0,c0,hb,hg,hr0⟩:=h
  exact blk_lt hb
theorem IsS84.ge {w0 W:World} {g:Nat} {f0:List Int} {f1:Int} {f2:Int} (h:IsS84 w0 W g f0 f1 f2):w0.heap.size≤g:=by
  obtain⟨A0,c0,hb,hg,hr0⟩:=h
  exact hg
theorem IsS84.ne_blk {w0 W:World} {g:Nat} {f0:List Int} {f1:Int} {f2:Int} {a:Nat} {cs:Array Value} {t:TypeId} {fr:Nat×Nat} (h:IsS84 w0 W g f0 f1 f2) (hb2:W.heap[a]? =some (.cells cs t fr)) (ht:t≠84):g≠a:=by
  obtain⟨A0,c0,hb,hg,hr0⟩:=h
  rintro rfl
  rw [hb] at hb2
  injection hb2 with hb2
  injection hb2 with _ ht2
  exact ht ht2.symm
theorem IsS84.far {w0 W:World} {g:Nat} {f0:List Int} {f1:Int} {f2:Int} {p:Addr} (h:IsS84 w0 W g f0 f1 f2) (hne:g≠p.block) (u:Value):IsS84 w0 (W.setCell p u) g f0 f1 f2:=by
  obtain⟨A0,c0,hb,hg,hr0⟩:=h
  exact⟨A0,c0,blk_far hb hne u,hg,hr0⟩
theorem cellS84_0 {W:World} {g:Nat} {A0:Option Addr} {c0:Nat} {f0:List Int} {f1:Int} {f2:Int} (h:W.heap[g]? =some (.cells #[.slice A0 f0.length c0,.int .i64 f1,.int .i64 f2] 84 (0,0))):W.cell? ⟨g,0,none⟩=some (.slice A0 f0.length c0):=(blk_cell h 0).trans rfl
theorem cellS84_1 {W:World} {g:Nat} {A0:Option Addr} {c0:Nat} {f0:List Int} {f1:Int} {f2:Int} (h:W.heap[g]? =some (.cells #[.slice A0 f0.length c0,.int .i64 f1,.int .i64 f2] 84 (0,0))):W.cell? ⟨g,1,none⟩=some (.int .i64 f1):=(blk_cell h 1).trans rfl
theorem IsS84.set_1 {w0 W:World} {g:Nat} {f0:List Int} {f1:Int} {f2:Int} (h:IsS84 w0 W g f0 f1 f2) (x:Int):IsS84 w0 (W.setCell ⟨g,1,none⟩ (.int .i64 x)) g f0 x f2:=by
  obtain⟨A0,c0,hb,hg,hr0⟩:=h
  exact⟨A0,c0,by simpa using blk_set hb 1 (.int .i64 x),hg,hr0⟩
theorem cellS84_2 {W:World} {g:Nat} {A0:Option Addr} {c0:Nat} {f0:List Int} {f1:Int} {f2:Int} (h:W.heap[g]? =some (.cells #[.slice A0 f0.length c0,.int .i64 f1,.int .i64 f2] 84 (0,0))):W.cell? ⟨g,2,none⟩=some (.int .i64 f2):=(blk_cell h 2).trans rfl
theorem IsS84.set_2 {w0 W:World} {g:Nat} {f0:List Int} {f1:Int} {f2:Int} (h:IsS84 w0 W g f0 f1 f2) (x:Int):IsS84 w0 (W.setCell ⟨g,2,none⟩ (.int .i64 x)) g f0 f1 x:=by
  obtain⟨A0,c0,hb,hg,hr0⟩:=h
  exact⟨A0,c0,by simpa using blk_set hb 2 (.int .i64 x),hg,hr0⟩
theorem vi84 {w0 W W2:World} {g:Nat} {f0:List Int} {f1:Int} {f2:Int} {e0:List Int} {e1:Int} {e2:Int} (h:IsS84 w0 W g f0 f1 f2) (k:IsS84 w0 W g f0 f1 f2→IsS84 w0 W2 g e0 e1 e2:=by intro h;repeat (first|(with_reducible first|exact h|apply IsS84.alloc|apply IsS84.drewN|apply IsS84.drew|apply IsS84.set_1|apply IsS84.set_2)|exact h)):IsS84 w0 W2 g e0 e1 e2:=k h
theorem vj84 {w W W1 W2:World} {g:Nat} {f0:List Int} {f1:Int} {f2:Int} (h:Below w.heap.size w W) (i:IsS84 w W1 g f0 f1 f2) (k:w.heap.size≤g→Below w.heap.size w W→Below w.heap.size w W2:=by intro i h;repeat (first|(with_reducible first|exact h|apply below_alloc|apply pw_below_drewN|apply below_drew1|refine below_set ?_ i)|exact h)):Below w.heap.size w W2:=k (IsS84.ge i) h
theorem vg84 {w W W1 W2:World} {g j:Nat} {f0:List Int} {f1:Int} {f2:Int} (h:Below w.heap.size w W) (i:IsS84 w W1 g f0 f1 f2) (q:w.heap.size≤j) (k:w.heap.size≤g→w.heap.size≤j→Below w.heap.size w W→Below w.heap.size w W2:=by intro i q h;repeat (first|(with_reducible first|exact h|apply below_alloc|apply pw_below_drewN|apply below_drew1|refine below_set ?_ i|refine below_set ?_ q)|exact h)):Below w.heap.size w W2:=k (IsS84.ge i) q h
theorem vq {w W W2:World} {j:Nat} (h:Below w.heap.size w W) (q:w.heap.size≤j) (k:w.heap.size≤j→Below w.heap.size w W→Below w.heap.size w W2:=by intro q h;repeat (first|(with_reducible first|exact h|apply below_alloc|apply pw_below_drewN|apply below_drew1|refine below_set ?_ q)|exact h)):Below w.heap.size w W2:=k q h
theorem vK {w W W2:World} {g:Nat} (h:KeepBut w W g none) (k:KeepBut w W g none→KeepBut w W2 g none:=by intro h;repeat (first|(with_reducible first|exact h|apply KeepBut.set_|apply keep_drewN|apply keep_drew|apply keep_alloc)|exact h)):KeepBut w W2 g none:=k h
theorem IsS84.fa {w0 W:World} {g q j:Nat} {f0:List Int} {f1:Int} {f2:Int} {u:Value} (hp:Aside0 (g≠q)) (h:IsS84 w0 W g f0 f1 f2):IsS84 w0 (W.setCell ⟨q,j,none⟩ u) g f0 f1 f2:=IsS84.far (p:=⟨q,j,none⟩) h hp.1 u
theorem vY84 {w0 W W2:World} {g:Nat} {f0:List Int} {f1:Int} {f2:Int} {e0:List Int} {e1:Int} {e2:Int} (h:IsS84 w0 W g f0 f1 f2) (k:IsS84 w0 W g f0 f1 f2→IsS84 w0 W2 g e0 e1 e2:=by intro h;repeat (first|(with_reducible first|exact h|apply IsS84.alloc|apply IsS84.drewN|apply IsS84.drew|apply IsS84.set_1|apply IsS84.set_2|apply IsS84.fa (by assumption))|exact h)):IsS84 w0 W2 g e0 e1 e2:=k h
theorem vA84 {w0 W W1:World} {g:Nat} {f0:List Int} {f1:Int} {f2:Int} {α:Type} {d:Kd α} {e base:Nat} {ok:Nat→Prop} {v:Value} {xs:List α} (h:IsS84 w0 W g f0 f1 f2) (ho:d.R e W base ok v xs) (hk:KeepBut W W1 g none) (ht:∀q,q∈e::d.E→q≠84:=by decide):d.R e W1 base ok v xs:=Kd.R_mono (Kd.R_keep (IsS84.apart h ho ht) hk (fun _ h=>h.2)) (fun _ h=>h.1)
theorem vZ84 {w W W1 W2:World} {g:Nat} {f0:List Int} {f1:Int} {f2:Int} (h:Below w.heap.size w W) (i:IsS84 w W1 g f0 f1 f2) (k:w.heap.size≤g→Below w.heap.size w W→Below w.heap.size w W2:=by intro i h;repeat (first|(with_reducible first|exact h|apply below_alloc|apply pw_below_drewN|apply below_drew1|refine below_set ?_ i|refine below_set ?_ (Aside0.out (by assumption)))|exact h)):Below w.heap.size w W2:=k (IsS84.ge i) h
theorem keep_fa {w W:World} {g q j:Nat} {u:Value} (hp:Aside0 (w.heap.size≤q)) (h:KeepBut w W g none):KeepBut w (W.setCell ⟨q,j,none⟩ u) g none:=keep_far (p:=⟨q,j,none⟩) h hp.1 u
theorem vL {w W W2:World} {g:Nat} (h:KeepBut w W g none) (k:KeepBut w W g none→KeepBut w W2 g none:=by intro h;repeat (first|(with_reducible first|exact h|apply KeepBut.set_|apply keep_drewN|apply keep_drew|apply keep_alloc|apply keep_fa (by assumption))|exact h)):KeepBut w W2 g none:=k h
theorem at_T69b {w W:World} {A:Option Addr} {n:Nat} {xs:List S69} (h:Kd.C k69 w A n xs) (hB:Below w.heap.size w W) (i:Int) (h0:0≤i) (h1:i<n):∃ad,A=some ad∧W.cell? (ad.add (i.toNat*5))=some (.int .i64 (rd_T69 xs i).f0)∧W.cell? ⟨(ad.add (i.toNat*5)).block,(ad.add (i.toNat*5)).off+1,none⟩=some (.int .i64 (rd_T69 xs i).f1)∧W.cell? ⟨(ad.add (i.toNat*5)).block,(ad.add (i.toNat*5)).off+2,none⟩=some (.int .i64 (rd_T69 xs i).f2)∧W.cell? ⟨(ad.add (i.toNat*5)).block,(ad.add (i.toNat*5)).off+3,none⟩=some (.int .i64 (rd_T69 xs i).f3)∧W.cell? ⟨(ad.add (i.toNat*5)).block,(ad.add (i.toNat*5)).off+4,none⟩=some (.int .i64 (rd_T69 xs i).f4):=by
  obtain⟨ad,e,a0,a1,a2,a3,a4⟩:=at_T69 h i h0 h1
  exact⟨ad,e,cb hB a0,cb hB a1,cb hB a2,cb hB a3,cb hB a4⟩
theorem at_T91b {w W:World} {A:Option Addr} {n:Nat} {xs:List S91} (h:Kd.C k91 w A n xs) (hB:Below w.heap.size w W) (i:Int) (h0:0≤i) (h1:i<n):∃ad,A=some ad∧W.cell? (ad.add (i.toNat*3))=some (.int .i64 (rd_T91 xs i).f0)∧W.cell? ⟨(ad.add (i.toNat*3)).block,(ad.add (i.toNat*3)).off+1,none⟩=some (.int .i64 (rd_T91 xs i).f1)∧W.cell? ⟨(ad.add (i.toNat*3)).block,(ad.add (i.toNat*3)).off+2,none⟩=some (.int .i64 (rd_T91 xs i).f2):=by
  obtain⟨ad,e,a0,a1,a2⟩:=at_T91 h i h0 h1
  exact⟨ad,e,cb hB a0,cb hB a1,cb hB a2⟩
end Go.Proofs.Ytiblahniohjbbaa.Pall
