/- Go functions of the program, each as a Lean function, and the proof that each call comes to what the Lean function tells; no condition beyond those that stand there. -/
import Derived.Test.YtiblahniohjbbaaF00
import Derived.Test.YtiblahniohjbbaaWEqStruct
import Derived.Test.YtiblahniohjbbaaCm6
namespace Go.Proofs.Ytiblahniohjbbaa.Pall
open Go.RowKit Go.Proofs.YtiblahniohjbbaaW.PrintWords
set_option linter.unusedVariables false
set_option linter.unusedSimpArgs false
def IsS84 (w0 W:World) (g:Nat) (f0:List Int) (f1:Int) (f2:Int):Prop:=∃A0 c0,W.heap[g]? =some (.cells #[.slice A0 f0.length c0,.int .i64 f1,.int .i64 f2] 84 (0,0))∧w0.heap.size≤g∧Kd.C (Kd.int .u8) w0 A0 f0.length f0
theorem IsS84.grown {w0 W:World} {g:Nat} {f0:List Int} {f1:Int} {f2:Int} {W1:World} {row:Option Nat} (h:IsS84 w0 W g f0 f1 f2) (hw:W.grownBy W1 row) (hne:some g≠row):IsS84 w0 W1 g f0 f1 f2:=by
  obtain⟨A0,c0,hb,hg,hr0⟩:=h
  exact⟨A0,c0,blk_grown hb hw hne,hg,hr0⟩
theorem IsS84.below {w0 W:World} {g:Nat} {f0:List Int} {f1:Int} {f2:Int} {W1:World} (h:IsS84 w0 W g f0 f1 f2) (hw:Below W.heap.size W W1):IsS84 w0 W1 g f0 f1 f2:=h.grown (grown_of_below hw none) (by simp)
theorem IsS84.alloc {w0 W:World} {g:Nat} {f0:List Int} {f1:Int} {f2:Int} (h:IsS84 w0 W g f0 f1 f2) (o:Obj):IsS84 w0 (W.alloc o) g f0 f1 f2:=h.below (below_alloc (Below.refl _ _) o)
theorem IsS84.drewN {w0 W:World} {g:Nat} {f0:List Int} {f1:Int} {f2:Int} (h:IsS84 w0 W g f0 f1 f2) (m:Nat):IsS84 w0 (W.drewN m) g f0 f1 f2:=h
theorem IsS84.drew {w0 W:World} {g:Nat} {f0:List Int} {f1:Int} {f2:Int} (h:IsS84 w0 W g f0 f1 f2):IsS84 w0 W.drew g f0 f1 f2:=h
theorem IsS84.apart {w0 W:World} {g:Nat} {f0:List Int} {f1:Int} {f2:Int} {α:Type} {d:Kd α} {e:Nat} {base:Nat} {ok:Nat→Prop} {v:Value} {xs:List α} (h:IsS84 w0 W g f0 f1 f2) (ho:d.R e W base ok v xs) (ht:∀q,q∈e::d.E→q≠84):d.R e W base (fun k=>ok k∧k≠g) v xs:=by
  obtain⟨A0,c0,hb,hg,hr0⟩:=h
  exact Kd.R_types ho hb ht
theorem IsS84.own_ne {w0 W:World} {g:Nat} {f0:List Int} {f1:Int} {f2:Int} {α:Type} {d:Kd α} {e:Nat} {base:Nat} {ok:Nat→Prop} {v:Value} {xs:List α} (h:IsS84 w0 W g f0 f1 f2) (ho:d.R e W base ok v xs) (ht:e≠84):some g≠v.ownBlock:=by
  obtain⟨A0,c0,hb,hg,hr0⟩:=h
  exact Kd.R_ne ho hb ht
theorem vq {w W W2:World} {j:Nat} (h:Below w.heap.size w W) (q:w.heap.size≤j) (k:w.heap.size≤j→Below w.heap.size w W→Below w.heap.size w W2:=by intro q h;repeat (first|(with_reducible first|exact h|apply below_alloc|apply pw_below_drewN|apply below_drew1|refine below_set ?_ q)|exact h)):Below w.heap.size w W2:=k q h
theorem at_T69b {w W:World} {A:Option Addr} {n:Nat} {xs:List S69} (h:Kd.C k69 w A n xs) (hB:Below w.heap.size w W) (i:Int) (h0:0≤i) (h1:i<n):∃ad,A=some ad∧W.cell? (ad.add (i.toNat*5))=some (.int .i64 (rd_T69 xs i).f0)∧W.cell? ⟨(ad.add (i.toNat*5)).block,(ad.add (i.toNat*5)).off+1,none⟩=some (.int .i64 (rd_T69 xs i).f1)∧W.cell? ⟨(ad.add (i.toNat*5)).block,(ad.add (i.toNat*5)).off+2,none⟩=some (.int .i64 (rd_T69 xs i).f2)∧W.cell? ⟨(ad.add (i.toNat*5)).block,(ad.add (i.toNat*5)).off+3,none⟩=some (.int .i64 (rd_T69 xs i).f3)∧W.cell? ⟨(ad.add (i.toNat*5)).block,(ad.add (i.toNat*5)).off+4,none⟩=some (.int .i64 (rd_T69 xs i).f4):=by
  obtain⟨ad,e,a0,a1,a2,a3,a4⟩:=at_T69 h i h0 h1
  exact⟨ad,e,cb hB a0,cb hB a1,cb hB a2,cb hB a3,cb hB a4⟩
theorem at_T91b {w W:World} {A:Option Addr} {n:Nat} {xs:List S91} (h:Kd.C k91 w A n xs) (hB:Below w.heap.size w W) (i:Int) (h0:0≤i) (h1:i<n):∃ad,A=some ad∧W.cell? (ad.add (i.toNat*3))=some (.int .i64 (rd_T91 xs i).f0)∧W.cell? ⟨(ad.add (i.toNat*3)).block,(ad.add (i.toNat*3)).off+1,none⟩=some (.int .i64 (rd_T91 xs i).f1)∧W.cell? ⟨(ad.add (i.toNat*3)).block,(ad.add (i.toNat*3)).off+2,none⟩=some (.int .i64 (rd_T91 xs i).f2):=by
  obtain⟨ad,e,a0,a1,a2⟩:=at_T91 h i h0 h1
  exact⟨ad,e,cb hB a0,cb hB a1,cb hB a2⟩
theorem at_T95b {w W:World} {A:Option Addr} {n:Nat} {xs:List S95} (h:Kd.C k95 w A n xs) (hB:Below w.heap.size w W) (i:Int) (h0:0≤i) (h1:i<n):∃ad,A=some ad∧W.cell? (ad.add (i.toNat*3))=some (.int .i64 (rd_T95 xs i).f0)∧W.cell? ⟨(ad.add (i.toNat*3)).block,(ad.add (i.toNat*3)).off+1,none⟩=some (.int .i64 (rd_T95 xs i).f1)∧W.cell? ⟨(ad.add (i.toNat*3)).block,(ad.add (i.toNat*3)).off+2,none⟩=some (.int .i64 (rd_T95 xs i).f2):=by
  obtain⟨ad,e,a0,a1,a2⟩:=at_T95 h i h0 h1
  exact⟨ad,e,cb hB a0,cb hB a1,cb hB a2⟩
theorem at_T98b {w W:World} {A:Option Addr} {n:Nat} {xs:List S98} (h:Kd.C k98 w A n xs) (hB:Below w.heap.size w W) (i:Int) (h0:0≤i) (h1:i<n):∃ad,A=some ad∧W.cell? (ad.add (i.toNat*5))=some (.int .i64 (rd_T98 xs i).f0)∧W.cell? ⟨(ad.add (i.toNat*5)).block,(ad.add (i.toNat*5)).off+1,none⟩=some (.int .i64 (rd_T98 xs i).f1)∧W.cell? ⟨(ad.add (i.toNat*5)).block,(ad.add (i.toNat*5)).off+2,none⟩=some (.int .i64 (rd_T98 xs i).f2)∧W.cell? ⟨(ad.add (i.toNat*5)).block,(ad.add (i.toNat*5)).off+3,none⟩=some (.int .i64 (rd_T98 xs i).f3)∧W.cell? ⟨(ad.add (i.toNat*5)).block,(ad.add (i.toNat*5)).off+4,none⟩=some (.int .i64 (rd_T98 xs i).f4):=by
  obtain⟨ad,e,a0,a1,a2,a3,a4⟩:=at_T98 h i h0 h1
  exact⟨ad,e,cb hB a0,cb hB a1,cb hB a2,cb hB a3,cb hB a4⟩
end Go.Proofs.Ytiblahniohjbbaa.Pall
