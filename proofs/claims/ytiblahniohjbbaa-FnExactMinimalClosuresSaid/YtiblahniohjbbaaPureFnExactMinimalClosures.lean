/- The law FnExactMinimalClosures as a statement over numbers and lists, proved; no condition but the sizes and ranges that every input has. -/
import Derived.Test.YtiblahniohjbbaaF24
import Derived.Test.YtiblahniohjbbaaEv
namespace Go.Proofs.Ytiblahniohjbbaa.Pure
open Go.RowKit Go.Proofs.Ytiblahniohjbbaa.Pall Go.Proofs.YtiblahniohjbbaaW.PrintWords
set_option linter.unusedSimpArgs false
set_option linter.unusedVariables false
def rin (x a b:Int):Bool:=decide (a≤x)&&decide (x≤b)
theorem l01In_eq (x a b:Int):spec_l01In.f x a b=some (rin x a b):=by
  unfold spec_l01In.f rin
  by_cases h:a≤x
  · rw [if_pos h,decide_eq_true h,Bool.true_and]
  · rw [if_neg h,decide_eq_false h,Bool.false_and]
theorem within_eq (x a b:Int):impl_within.f x a b=some (rin x a b):=by
  unfold impl_within.f rin
  by_cases h:a≤x
  · rw [if_pos h,decide_eq_true h,Bool.true_and]
  · rw [if_neg h,decide_eq_false h,Bool.false_and]
theorem rin_iff {x a b:Int}:rin x a b=true↔a≤x∧x≤b:=by simp [rin]
def allIn (l:List Int) (a b:Int):Bool:=allD (fun j=>rin (rd l (j:Int)) a b) 0 l.length
theorem allIn_iff (l:List Int) (a b:Int):allIn l a b=true↔∀j:Nat,j<l.length→a≤rd l (j:Int)∧rd l (j:Int)≤b:=by
  unfold allIn
  rw [allD_iff]
  simp only [rin_iff]
  exact⟨fun h j hj=>h j (Nat.zero_le _) (by omega),fun h j _ hj=>h j (by omega)⟩
theorem allWithin_ev (l:List Int) (a b:Int) (hn:l.length≤9223372036854775807):Ev (fun k=>impl_allWithin.f k l a b) (allIn l a b):=by
  unfold impl_allWithin.f
  have h:=Ev.allLoop (l:=fun k i=>impl_allWithin.l0 k a b l (l.length:Int) i) (n:=l.length) (fun j=>rin (rd l (j:Int)) a b) false true
    (fun i hi=>Evt.all fun k=>by
      simp only [impl_allWithin.l0,within_eq,Option.bind_some]
      rw [if_pos (by omega),if_pos (by omega),if_pos (by omega),wrap_succ hi hn])
    (Evt.all fun k=>by
      simp only [impl_allWithin.l0]
      rw [if_neg (by omega)]) l.length 0 (by omega)
  refine h.eq ?_
  unfold allIn
  cases allD (fun j=>rin (rd l (j:Int)) a b) 0 l.length<;>simp
def szv (n:Nat) (a:Int):Int:=if a<(n:Int) then -1 else a-(n:Int)
theorem sz_eq {n:Nat} {a:Int} (hn:n≤4611686018427387904) (h0:0≤a) (h1:a≤1000000):(if (wrap64 (a-(n:Int)))<0 then (some (-1)) else (some (wrap64 (a-(n:Int)))))=some (szv n a):=by
  rw [wrap_id (by omega) (by omega)]
  unfold szv
  by_cases h:a<(n:Int)
  · rw [if_pos (by omega),if_pos h]
  · rw [if_neg (by omega),if_neg h]
theorem szv_ok {n:Nat} {a:Int} (h0:0≤a) (h1:a≤1000000) (h:¬szv n a<0):n≤1000000∧0≤szv n a∧szv n a≤1000000:=by
  unfold szv at*
  split at h
  · exact absurd (show (-1:Int)<0 by decide) h
  · rename_i h2
    rw [if_neg h2]
    omega
theorem eqInt_refl (l:List Int) (hn:l.length≤9223372036854775807):Ev (fun k=>laws_eqInt64S.f k l l) true:=by
  unfold laws_eqInt64S.f
  simp only [if_pos rfl]
  have h:=Ev.allLoop (l:=fun k i=>laws_eqInt64S.l0 k l l i) (n:=l.length) (fun _=>true) false true
    (fun i hi=>Evt.all fun k=>by
      simp only [laws_eqInt64S.l0]
      rw [if_pos (by omega),if_pos (by omega),if_pos (by omega),wrap_succ hi hn]
      (try simp))
    (Evt.all fun k=>by
      simp only [laws_eqInt64S.l0]
      rw [if_neg (by omega)]) l.length 0 (by omega)
  refine h.eq ?_
  rw [if_pos ((allD_iff _ _ _).2 (fun _ _ _=>rfl))]
theorem eqDemandS_refl (l:List S91) (hn:l.length≤9223372036854775807):Ev (fun k=>laws_eqDemandS.f k l l) true:=by
  unfold laws_eqDemandS.f
  simp only [if_pos rfl]
  have h:=Ev.allLoop (l:=fun k i=>laws_eqDemandS.l0 k l l i) (n:=l.length) (fun _=>true) false true
    (fun i hi=>Evt.all fun k=>by
      simp only [laws_eqDemandS.l0,laws_eqDemand.f]
      rw [if_pos (by omega),if_pos (by omega),if_pos (by omega),wrap_succ hi hn]
      (try simp))
    (Evt.all fun k=>by
      simp only [laws_eqDemandS.l0]
      rw [if_neg (by omega)]) l.length 0 (by omega)
  refine h.eq ?_
  rw [if_pos ((allD_iff _ _ _).2 (fun _ _ _=>rfl))]
theorem intactDemandS_refl (l:List S91) (hn:l.length≤1000000):Ev (fun k=>laws_intactDemandS.f k l l) true:=by
  unfold laws_intactDemandS.f
  simp only [if_pos rfl]
  exact eqDemandS_refl _ (full_le l hn)
theorem toDemandS_some (k:Nat) (l:List S95) (b:Bool) (hn:l.length≤1000000):laws_toDemandS.f k l b=some (l.map laws_toDemandS.conv):=by
  unfold laws_toDemandS.f
  rw [if_pos hn]
theorem eqAreaS_refl (l:List S69) (hn:l.length≤9223372036854775807):Ev (fun k=>laws_eqAreaS.f k l l) true:=by
  unfold laws_eqAreaS.f
  simp only [if_pos rfl]
  have h:=Ev.allLoop (l:=fun k i=>laws_eqAreaS.l0 k l l i) (n:=l.length) (fun _=>true) false true
    (fun i hi=>Evt.all fun k=>by
      simp only [laws_eqAreaS.l0,laws_eqArea.f]
      rw [if_pos (by omega),if_pos (by omega),if_pos (by omega),wrap_succ hi hn]
      (try simp))
    (Evt.all fun k=>by
      simp only [laws_eqAreaS.l0]
      rw [if_neg (by omega)]) l.length 0 (by omega)
  refine h.eq ?_
  rw [if_pos ((allD_iff _ _ _).2 (fun _ _ _=>rfl))]
theorem intactAreaS_refl (l:List S69) (hn:l.length≤1000000):Ev (fun k=>laws_intactAreaS.f k l l) true:=by
  unfold laws_intactAreaS.f
  simp only [if_pos rfl]
  exact eqAreaS_refl _ (full_le l hn)
theorem toAreaS_some (k:Nat) (l:List S98) (b:Bool) (hn:l.length≤1000000):laws_toAreaS.f k l b=some (l.map laws_toAreaS.conv):=by
  unfold laws_toAreaS.f
  rw [if_pos hn]
def ordB (l:List S91) (i j:Nat):Bool:=
  decide ((rd_T91 l (i:Int)).f0<(rd_T91 l (j:Int)).f0)||(decide ((rd_T91 l (i:Int)).f0=(rd_T91 l (j:Int)).f0)&&decide ((rd_T91 l (i:Int)).f1<(rd_T91 l (j:Int)).f1)&&decide ((rd_T91 l (i:Int)).f2≤(rd_T91 l (j:Int)).f2))
def tbB (l:List S91) (j:Nat):Bool:=
  rin (rd_T91 l (j:Int)).f0 0 3&&rin (rd_T91 l (j:Int)).f1 20 300&&rin (rd_T91 l (j:Int)).f2 0 10000&&(decide (j=0)||ordB l (j-1) j)
def tblOk (l:List S91):Bool:=allD (tbB l) 0 l.length&&decide (l.length≤12)
theorem spec_IsTable_ev (l:List S91) (hn:l.length≤1000000):Ev (fun k=>spec_IsTable.f k l) (tblOk l):=by
  have h:=Ev.allLoopQ (l:=fun k i=>spec_IsTable.l0 k l i) (n:=l.length) (tbB l) false (decide (l.length≤12))
    (fun i hi _=>by
      have main:∀r,(tbB l i=true→Ev (fun k=>spec_IsTable.l0 k l ((i+1:Nat):Int)) r)→(tbB l i=false→r=false)→Ev (fun k=>spec_IsTable.l0 k l (i:Int)) r:=by
        intro r h1 h2
        have hbad:∀x y z,tbB l i=false→Ev (fun k=>spec_IsTable.j1 k l (i:Int) true x y z) r:=fun x y z hb=>Ev.dn (by
          rw [h2 hb];simp only [spec_IsTable.j1,if_true];exact Ev.now _)
        refine Ev.dn ?_
        simp only [spec_IsTable.l0,l01In_eq,Option.bind_some,if_pos (show (i:Int)<(l.length:Int) by omega),if_pos (show (0:Int)≤(i:Int) by omega)]
        cases c0:rin (rd_T91 l (i:Int)).f0 0 3 with
        |false=>simp only [Bool.false_eq_true,if_false];exact hbad _ _ _ (by simp [tbB,c0])
        |true=>
        simp only [if_true]
        cases c1:rin (rd_T91 l (i:Int)).f1 20 300 with
        |false=>simp only [Bool.false_eq_true,if_false];exact hbad _ _ _ (by simp [tbB,c1])
        |true=>
        simp only [if_true]
        cases c2:rin (rd_T91 l (i:Int)).f2 0 10000 with
        |false=>simp only [Bool.not_false];exact hbad _ _ _ (by simp [tbB,c2])
        |true=>
        simp only [Bool.not_true]
        refine Ev.dn ?_
        simp only [spec_IsTable.j1,Bool.false_eq_true,if_false]
        by_cases h0:i=0
        · simp only [if_neg (show ¬(i:Int)>0 by omega),wrap_succ hi (show l.length≤9223372036854775807 by omega)]
          exact h1 (by unfold tbB;rw [c0,c1,c2,decide_eq_true h0];rfl)
        · have hp:wrap64 ((i:Int)-1)=((i-1:Nat):Int):=wrap_pred hi (by omega) (by omega)
          simp only [if_pos (show (i:Int)>0 by omega),hp,if_pos (show (0:Int)≤((i-1:Nat):Int) by omega),if_pos (show ((i-1:Nat):Int)<(l.length:Int) by omega),spec_l16Before.f,wrap_succ hi (show l.length≤9223372036854775807 by omega)]
          have ht:tbB l i=ordB l (i-1) i:=by simp [tbB,c0,c1,c2,h0]
          rw [ht] at h1 h2
          unfold ordB at h1 h2
          generalize rd_T91 l ((i-1:Nat):Int)=p at h1 h2 ⊢
          generalize rd_T91 l (i:Int)=q at h1 h2 ⊢
          by_cases d0:p.f0<q.f0
          · have d1:¬p.f0=q.f0:=by omega
            simp only [if_pos d0,Option.bind_some,if_true,if_neg d1]
            exact h1 (by simp [d0])
          · by_cases d1:p.f0=q.f0
            · simp only [if_neg d0,if_pos d1,Option.bind_some]
              by_cases d2:p.f1<q.f1
              · simp only [decide_eq_true d2,if_true]
                by_cases d3:p.f2>q.f2
                · simp only [if_pos d3]
                  rw [h2 (by simp [d0,d1,d2];omega)]
                  exact Ev.now _
                · simp only [if_neg d3]
                  exact h1 (by simp [d0,d1,d2];omega)
              · simp only [decide_eq_false d2,Bool.false_eq_true,if_false]
                rw [h2 (by simp [d0,d1,d2])]
                exact Ev.now _
            · simp only [if_neg d0,if_neg d1,Option.bind_some,Bool.false_eq_true,if_false]
              rw [h2 (by simp [d0,d1])]
              exact Ev.now _
      exact⟨fun hs r hr=>main r (fun _=>hr) (fun hf=>by rw [hs] at hf;exact absurd hf (by decide)),fun hs=>main false (fun ht=>by rw [hs] at ht;exact absurd ht (by decide)) (fun _=>rfl)⟩)
    (fun _=>by
      refine Ev.dn ?_
      simp only [spec_IsTable.l0,if_neg (show ¬(l.length:Int)<(l.length:Int) by omega)]
      have e:decide ((l.length:Int)≤12)=decide (l.length≤12):=decide_eq_decide.2 (by omega)
      rw [e]
      exact Ev.now _) l.length 0 (by omega) (fun j hj=>by omega)
  refine h.eq ?_
  unfold tblOk
  cases allD (tbB l) 0 l.length<;>simp
theorem impl_IsTable_ev (l:List S91) (hn:l.length≤1000000):Ev (fun k=>impl_IsTable.f k l) (tblOk l):=by
  unfold impl_IsTable.f
  by_cases hl:(l.length:Int)>12
  · simp only [if_pos hl]
    refine(Ev.now false).eq ?_
    unfold tblOk
    rw [decide_eq_false (by omega),Bool.and_false]
  simp only [if_neg hl]
  have h:=Ev.allLoopQ (l:=fun k i=>impl_IsTable.l0 k l l (l.length:Int) i) (n:=l.length) (tbB l) false true
    (fun i hi _=>by
      have main:∀r,(tbB l i=true→Ev (fun k=>impl_IsTable.l0 k l l (l.length:Int) ((i+1:Nat):Int)) r)→(tbB l i=false→r=false)→Ev (fun k=>impl_IsTable.l0 k l l (l.length:Int) (i:Int)) r:=by
        intro r h1 h2
        have hbad:∀x y z,tbB l i=false→Ev (fun k=>impl_IsTable.j1 k l (i:Int) l (l.length:Int) (i:Int) true x y z) r:=fun x y z hb=>Ev.dn (by
          rw [h2 hb];simp only [impl_IsTable.j1,if_true];exact Ev.now _)
        refine Ev.dn ?_
        simp only [impl_IsTable.l0,impl_isKind.f,impl_isCalibre.f,within_eq,Option.bind_some,if_pos (show (i:Int)<(l.length:Int) by omega),if_pos (show (0:Int)≤(i:Int) by omega)]
        cases c0:rin (rd_T91 l (i:Int)).f0 0 3 with
        |false=>simp only [Bool.false_eq_true,if_false];exact hbad _ _ _ (by simp [tbB,c0])
        |true=>
        simp only [if_true]
        cases c1:rin (rd_T91 l (i:Int)).f1 20 300 with
        |false=>simp only [Bool.false_eq_true,if_false];exact hbad _ _ _ (by simp [tbB,c1])
        |true=>
        simp only [if_true]
        cases c2:rin (rd_T91 l (i:Int)).f2 0 10000 with
        |false=>simp only [Bool.not_false];exact hbad _ _ _ (by simp [tbB,c2])
        |true=>
        simp only [Bool.not_true]
        refine Ev.dn ?_
        simp only [impl_IsTable.j1,Bool.false_eq_true,if_false]
        by_cases h0:i=0
        · simp only [if_pos (show (i:Int)=0 by omega),wrap_succ hi (show l.length≤9223372036854775807 by omega)]
          exact h1 (by unfold tbB;rw [c0,c1,c2,decide_eq_true h0];rfl)
        · have hp:wrap64 ((i:Int)-1)=((i-1:Nat):Int):=wrap_pred hi (by omega) (by omega)
          simp only [if_neg (show ¬(i:Int)=0 by omega),hp,if_pos (show (0:Int)≤((i-1:Nat):Int) by omega),if_pos (show ((i-1:Nat):Int)<(l.length:Int) by omega),wrap_succ hi (show l.length≤9223372036854775807 by omega)]
          have ht:tbB l i=ordB l (i-1) i:=by simp [tbB,c0,c1,c2,h0]
          rw [ht] at h1 h2
          unfold ordB at h1 h2
          generalize rd_T91 l ((i-1:Nat):Int)=p at h1 h2 ⊢
          generalize rd_T91 l (i:Int)=q at h1 h2 ⊢
          by_cases d0:p.f0>q.f0
          · simp only [if_pos d0]
            rw [h2 (by simp;omega)]
            exact Ev.now _
          · simp only [if_neg d0]
            by_cases d1:p.f0=q.f0
            · simp only [if_pos d1]
              by_cases d2:p.f1≥q.f1
              · simp only [if_pos d2]
                rw [h2 (by simp;omega)]
                exact Ev.now _
              · simp only [if_neg d2]
                by_cases d3:p.f2>q.f2
                · simp only [if_pos d3]
                  rw [h2 (by simp;omega)]
                  exact Ev.now _
                · simp only [if_neg d3]
                  exact h1 (by simp;omega)
            · simp only [if_neg d1]
              exact h1 (by simp;omega)
      exact⟨fun hs r hr=>main r (fun _=>hr) (fun hf=>by rw [hs] at hf;exact absurd hf (by decide)),fun hs=>main false (fun ht=>by rw [hs] at ht;exact absurd ht (by decide)) (fun _=>rfl)⟩)
    (fun _=>by
      refine Ev.dn ?_
      simp only [impl_IsTable.l0,if_neg (show ¬(l.length:Int)<(l.length:Int) by omega)]
      exact Ev.now _) l.length 0 (by omega) (fun j hj=>by omega)
  refine h.eq ?_
  unfold tblOk
  rw [decide_eq_true (by omega:l.length≤12),Bool.and_true]
  cases allD (tbB l) 0 l.length<;>simp
def arB (x:S69):Bool:=rin x.f0 0 3&&(rin x.f1 0 100000&&rin x.f2 0 100000)&&rin x.f3 1 (100000-x.f1)&&rin x.f4 1 (100000-x.f2)
theorem spec_IsArea_eq (x:S69):spec_IsArea.f x.f0 x.f1 x.f2 x.f3 x.f4=some (arB x):=by
  unfold spec_IsArea.f spec_l15Place.f arB
  simp only [l01In_eq,Option.bind_some]
  cases rin x.f0 0 3 with
  |false=>simp
  |true=>
    cases h1:rin x.f1 0 100000 with
    |false=>simp
    |true=>
      cases h2:rin x.f2 0 100000 with
      |false=>simp
      |true=>
        have e1:=rin_iff.1 h1
        have e2:=rin_iff.1 h2
        rw [wrap_id (x:=100000-x.f1) (by omega) (by omega),wrap_id (x:=100000-x.f2) (by omega) (by omega)]
        cases rin x.f3 1 (100000-x.f1)<;>simp
theorem impl_IsArea_eq (x:S69):impl_IsArea.f x.f0 x.f1 x.f2 x.f3 x.f4=some (arB x):=by
  unfold impl_IsArea.f impl_isKind.f impl_isPlace.f arB
  simp only [within_eq,Option.bind_some]
  cases rin x.f0 0 3 with
  |false=>simp
  |true=>
    cases h1:rin x.f1 0 100000 with
    |false=>simp
    |true=>
      cases h2:rin x.f2 0 100000 with
      |false=>simp
      |true=>
        have e1:=rin_iff.1 h1
        have e2:=rin_iff.1 h2
        simp only [if_true]
        rw [wrap_id (x:=100000-x.f1) (by omega) (by omega),wrap_id (x:=100000-x.f2) (by omega) (by omega)]
        cases rin x.f3 1 (100000-x.f1)<;>simp
def siteOk (l:List S69):Bool:=allD (fun j=>arB (rd_T69 l (j:Int))) 0 l.length&&decide (l.length≤10)
theorem spec_IsSite_ev (l:List S69) (hn:l.length≤1000000):Ev (fun k=>spec_IsSite.f k l) (siteOk l):=by
  have h:=Ev.allLoop (l:=fun k i=>spec_IsSite.l0 k l i) (n:=l.length) (fun j=>arB (rd_T69 l (j:Int))) false (decide (l.length≤10))
    (fun i hi=>Evt.all fun k=>by
      simp only [spec_IsSite.l0,spec_IsArea_eq,Option.bind_some]
      rw [if_pos (by omega),if_pos (by omega),wrap_succ hi (by omega)])
    (Evt.all fun k=>by
      simp only [spec_IsSite.l0]
      rw [if_neg (by omega)]
      congr 1
      exact decide_eq_decide.2 (by omega)) l.length 0 (by omega)
  refine h.eq ?_
  unfold siteOk
  cases allD (fun j=>arB (rd_T69 l (j:Int))) 0 l.length<;>simp
theorem impl_IsSite_ev (l:List S69) (hn:l.length≤1000000):Ev (fun k=>impl_IsSite.f k l) (siteOk l):=by
  unfold impl_IsSite.f
  by_cases hl:(l.length:Int)>10
  · simp only [if_pos hl]
    refine(Ev.now false).eq ?_
    unfold siteOk
    rw [decide_eq_false (by omega),Bool.and_false]
  simp only [if_neg hl]
  have h:=Ev.allLoop (l:=fun k i=>impl_IsSite.l0 k l (l.length:Int) i) (n:=l.length) (fun j=>arB (rd_T69 l (j:Int))) false true
    (fun i hi=>Evt.all fun k=>by
      simp only [impl_IsSite.l0,impl_IsArea_eq,Option.bind_some]
      rw [if_pos (by omega),if_pos (by omega),if_pos (by omega),wrap_succ hi (by omega)])
    (Evt.all fun k=>by
      simp only [impl_IsSite.l0]
      rw [if_neg (by omega)]) l.length 0 (by omega)
  refine h.eq ?_
  unfold siteOk
  rw [decide_eq_true (by omega:l.length≤10),Bool.and_true]
  cases allD (fun j=>arB (rd_T69 l (j:Int))) 0 l.length<;>simp
def fldOk (T:List S91) (S:List S69) (C X Y:List Int) (g:Int):Bool:=
  tblOk T&&siteOk S&&decide (C.length≤4)&&allIn C 20 300&&decide (X.length≤7)&&decide (Y.length=X.length)&&allIn X 0 100000&&allIn Y 0 100000&&rin g 0 10000
theorem impl_IsField_ev (T:List S91) (S:List S69) (C X Y:List Int) (g:Int) (h1:T.length≤1000000) (h2:S.length≤1000000) (h3:C.length≤1000000) (h4:X.length≤1000000) (h5:Y.length≤1000000):
    Ev (fun k=>impl_IsField.f k T S C X Y g) (fldOk T S C X Y g):=by
  unfold impl_IsField.f fldOk
  refine Ev.bind (impl_IsTable_ev T h1) ?_
  cases tblOk T with
  |false=>simp only [Bool.false_eq_true,if_false,Bool.false_and];exact Ev.now _
  |true=>
  simp only [if_true,Bool.true_and]
  refine Ev.bind (impl_IsSite_ev S h2) ?_
  cases siteOk S with
  |false=>simp only [Bool.false_eq_true,if_false,Bool.false_and];exact Ev.now _
  |true=>
  simp only [if_true,Bool.true_and]
  by_cases c1:C.length≤4
  case neg=>simp only [if_neg (show ¬(C.length:Int)≤4 by omega),decide_eq_false c1,Bool.false_and];exact Ev.now _
  simp only [if_pos (show (C.length:Int)≤4 by omega),decide_eq_true c1,Bool.true_and]
  refine Ev.bind (allWithin_ev C 20 300 (by omega)) ?_
  cases allIn C 20 300 with
  |false=>simp only [Bool.false_eq_true,if_false,Bool.false_and];exact Ev.now _
  |true=>
  simp only [if_true,Bool.true_and]
  by_cases c2:X.length≤7
  case neg=>simp only [if_neg (show ¬(X.length:Int)≤7 by omega),decide_eq_false c2,Bool.false_and];exact Ev.now _
  simp only [if_pos (show (X.length:Int)≤7 by omega),decide_eq_true c2,Bool.true_and]
  by_cases c3:Y.length=X.length
  case neg=>simp only [if_neg (show ¬(Y.length:Int)=(X.length:Int) by omega),decide_eq_false c3,Bool.false_and];exact Ev.now _
  simp only [if_pos (show (Y.length:Int)=(X.length:Int) by omega),decide_eq_true c3,Bool.true_and]
  refine Ev.bind (allWithin_ev X 0 100000 (by omega)) ?_
  cases allIn X 0 100000 with
  |false=>simp only [Bool.false_eq_true,if_false,Bool.false_and];exact Ev.now _
  |true=>
  simp only [if_true,Bool.true_and]
  refine Ev.bind (allWithin_ev Y 0 100000 (by omega)) ?_
  cases allIn Y 0 100000 with
  |false=>simp only [Bool.false_eq_true,if_false,Bool.false_and];exact Ev.now _
  |true=>
  simp only [if_true,Bool.true_and,within_eq,Option.bind_some]
  exact Ev.now _
theorem spec_IsField_ev (T:List S91) (S:List S69) (C X Y:List Int) (g:Int) (h1:T.length≤1000000) (h2:S.length≤1000000) (h3:C.length≤1000000) (h4:X.length≤1000000) (h5:Y.length≤1000000):
    Ev (fun k=>spec_IsField.f k T S C X Y g) (fldOk T S C X Y g):=by
  have hend:Ev (fun k=>((spec_IsTable.f k T).bind fun t1285=>(if t1285=true then ((spec_IsSite.f k S).bind fun t1286=>(if t1286=true then ((spec_l01In.f g 0 10000).bind fun t1287=>(some t1287)) else (some false))) else (some false)))) (tblOk T&&siteOk S&&rin g 0 10000):=by
    refine Ev.bind (spec_IsTable_ev T h1) ?_
    cases tblOk T with
    |false=>simp only [Bool.false_eq_true,if_false,Bool.false_and];exact Ev.now _
    |true=>
    simp only [if_true,Bool.true_and]
    refine Ev.bind (spec_IsSite_ev S h2) ?_
    cases siteOk S with
    |false=>simp only [Bool.false_eq_true,if_false,Bool.false_and];exact Ev.now _
    |true=>
    simp only [if_true,Bool.true_and,l01In_eq,Option.bind_some]
    exact Ev.now _
  have hxy:Y.length=X.length→Ev (fun k=>spec_IsField.l1 k 0 T S C X Y g) (allIn X 0 100000&&allIn Y 0 100000&&(tblOk T&&siteOk S&&rin g 0 10000)):=by
    intro hl
    have h:=Ev.allLoopQ (l:=fun k i=>spec_IsField.l1 k i T S C X Y g) (n:=X.length) (fun j=>rin (rd X (j:Int)) 0 100000&&rin (rd Y (j:Int)) 0 100000) false (tblOk T&&siteOk S&&rin g 0 10000)
      (fun i hi _=>by
        refine⟨fun hs r hr=>Ev.dn (Ev.eq' hr (fun k=>?_)),fun hs=>Ev.dn (Ev.eq' (f:=fun _=>some false) (Ev.now _) (fun k=>?_))⟩
        · simp only [Bool.and_eq_true] at hs
          simp only [spec_IsField.l1,spec_l15Place.f,l01In_eq,Option.bind_some,hs.1,hs.2,if_true]
          rw [if_pos (show (i:Int)<(X.length:Int) by omega),if_pos (show (0:Int)≤(i:Int) by omega),if_pos (show (i:Int)<(Y.length:Int) by omega),wrap_succ hi (by omega)]
        · simp only [spec_IsField.l1,spec_l15Place.f,l01In_eq,Option.bind_some]
          rw [if_pos (show (i:Int)<(X.length:Int) by omega),if_pos (show (0:Int)≤(i:Int) by omega),if_pos (show (i:Int)<(Y.length:Int) by omega)]
          cases c:rin (rd X (i:Int)) 0 100000 with
          |false=>simp
          |true=>rw [c,Bool.true_and] at hs;simp [hs])
      (fun _=>by
        refine Ev.dn ?_
        simp only [spec_IsField.l1,if_neg (show ¬(X.length:Int)<(X.length:Int) by omega)]
        exact hend) X.length 0 (by omega) (fun j hj=>by omega)
    refine h.eq ?_
    have e:allD (fun j=>rin (rd X (j:Int)) 0 100000&&rin (rd Y (j:Int)) 0 100000) 0 X.length=(allIn X 0 100000&&allIn Y 0 100000):=by
      rw [Bool.eq_iff_iff,Bool.and_eq_true,allIn_iff,allIn_iff,allD_iff]
      simp only [Bool.and_eq_true,rin_iff,hl]
      exact⟨fun h=>⟨fun j hj=>(h j (by omega) (by omega)).1,fun j hj=>(h j (by omega) (by omega)).2⟩,fun h j _ hj=>⟨h.1 j (by omega),h.2 j (by omega)⟩⟩
    rw [e]
    cases allIn X 0 100000&&allIn Y 0 100000<;>simp
  have hj:∀b,Ev (fun k=>spec_IsField.j1 k b T S C X Y g) (if b=true then false else (if Y.length=X.length then (allIn X 0 100000&&allIn Y 0 100000&&(tblOk T&&siteOk S&&rin g 0 10000)) else false))∨(b=false∧¬Y.length=X.length):=by
    intro b
    cases b with
    |true=>exact Or.inl (Ev.dn (by simp only [spec_IsField.j1,if_true];exact Ev.now _))
    |false=>
      by_cases hl:Y.length=X.length
      · refine Or.inl (Ev.dn ?_)
        simp only [spec_IsField.j1,Bool.false_eq_true,if_false,if_pos hl]
        exact hxy hl
      · exact Or.inr ⟨rfl,hl⟩
  have h:=Ev.allLoopQ (l:=fun k i=>spec_IsField.l0 k i T S C X Y g) (n:=C.length) (fun j=>rin (rd C (j:Int)) 20 300) false (decide (C.length≤4)&&decide (X.length≤7)&&decide (Y.length=X.length)&&(allIn X 0 100000&&allIn Y 0 100000&&(tblOk T&&siteOk S&&rin g 0 10000)))
    (fun i hi _=>by
      refine⟨fun hs r hr=>Ev.dn (Ev.eq' hr (fun k=>?_)),fun hs=>Ev.dn (Ev.eq' (f:=fun _=>some false) (Ev.now _) (fun k=>?_))⟩
      · simp only [spec_IsField.l0,l01In_eq,Option.bind_some,hs,if_true]
        rw [if_pos (show (i:Int)<(C.length:Int) by omega),if_pos (show (0:Int)≤(i:Int) by omega),wrap_succ hi (by omega)]
      · simp only [spec_IsField.l0,l01In_eq,Option.bind_some,hs]
        rw [if_pos (show (i:Int)<(C.length:Int) by omega),if_pos (show (0:Int)≤(i:Int) by omega)]
        rfl)
    (fun _=>by
      refine Ev.dn ?_
      simp only [spec_IsField.l0,if_neg (show ¬(C.length:Int)<(C.length:Int) by omega)]
      have hjt:=(hj true).resolve_right (fun h=>by simp at h)
      by_cases c1:Y.length=X.length
      · have hjf:=(hj false).resolve_right (fun h=>h.2 c1)
        simp only [if_pos (show (X.length:Int)=(Y.length:Int) by omega)]
        by_cases c2:X.length≤7
        · simp only [if_neg (show ¬(X.length:Int)>7 by omega)]
          by_cases c3:C.length≤4
          · rw [decide_eq_false (show ¬(C.length:Int)>4 by omega)]
            refine hjf.eq ?_
            simp [c1,c2,c3]
          · rw [decide_eq_true (show (C.length:Int)>4 by omega)]
            refine hjt.eq ?_
            simp [c3]
        · simp only [if_pos (show (X.length:Int)>7 by omega)]
          refine hjt.eq ?_
          simp [c2]
      · simp only [if_neg (show ¬(X.length:Int)=(Y.length:Int) by omega)]
        refine hjt.eq ?_
        simp [c1]) C.length 0 (by omega) (fun j hj=>by omega)
  refine h.eq ?_
  unfold fldOk
  rw [show allD (fun j=>rin (rd C (j:Int)) 20 300) 0 C.length=allIn C 20 300 from rfl]
  generalize tblOk T=b1
  generalize siteOk S=b2
  generalize decide (C.length≤4)=b3
  generalize allIn C 20 300=b4
  generalize decide (X.length≤7)=b5
  generalize decide (Y.length=X.length)=b6
  generalize allIn X 0 100000=b7
  generalize allIn Y 0 100000=b8
  generalize rin g 0 10000=b9
  cases b1<;>cases b2<;>cases b3<;>cases b4<;>cases b5<;>cases b6<;>cases b7<;>cases b8<;>rfl
theorem intactInt_refl (l:List Int) (hn:l.length≤1000000):Ev (fun k=>laws_intactInt64S.f k l l) true:=by
  unfold laws_intactInt64S.f
  simp only [if_pos rfl]
  exact eqInt_refl _ (full_le l hn)
theorem toInt_some (k:Nat) (l:List Int) (b:Bool) (hn:l.length≤1000000):laws_toInt64S.f k l b=some l:=by
  unfold laws_toInt64S.f
  rw [if_pos hn]
theorem szField_some (T:List S95) (S:List S98) (C X Y:List Int) (g a:Int) (h1:T.length≤reachBytes) (h2:S.length≤reachBytes) (h3:C.length≤reachBytes) (h4:X.length≤reachBytes) (h5:Y.length≤reachBytes) (h0:0≤a) (ha:a≤1000000):
    ∃r,laws_szField.f T S C X Y g a=some r∧(¬r<0→T.length≤1000000∧S.length≤1000000∧C.length≤1000000∧X.length≤1000000∧Y.length≤1000000∧0≤r∧r≤1000000):=by
  unfold reachBytes at*
  unfold laws_szField.f laws_szDemandS.f laws_szAreaS.f laws_szInt64S.f
  have bad:∃r:Int,some (-1:Int)=some r∧(¬r<0→T.length≤1000000∧S.length≤1000000∧C.length≤1000000∧X.length≤1000000∧Y.length≤1000000∧0≤r∧r≤1000000):=⟨-1,rfl,fun h=>absurd (show (-1:Int)<0 by decide) h⟩
  rw [sz_eq (by omega) h0 ha,Option.bind_some]
  by_cases c1:szv T.length a<0
  · rw [if_pos c1];exact bad
  rw [if_neg c1]
  obtain⟨k1,l1,u1⟩:=szv_ok h0 ha c1
  generalize szv T.length a=a1 at l1 u1
  rw [sz_eq (by omega) l1 u1,Option.bind_some]
  by_cases c2:szv S.length a1<0
  · rw [if_pos c2];exact bad
  rw [if_neg c2]
  obtain⟨k2,l2,u2⟩:=szv_ok l1 u1 c2
  generalize szv S.length a1=a2 at l2 u2
  rw [sz_eq (by omega) l2 u2,Option.bind_some]
  by_cases c3:szv C.length a2<0
  · rw [if_pos c3];exact bad
  rw [if_neg c3]
  obtain⟨k3,l3,u3⟩:=szv_ok l2 u2 c3
  generalize szv C.length a2=a3 at l3 u3
  rw [sz_eq (by omega) l3 u3,Option.bind_some]
  by_cases c4:szv X.length a3<0
  · rw [if_pos c4];exact bad
  rw [if_neg c4]
  obtain⟨k4,l4,u4⟩:=szv_ok l3 u3 c4
  generalize szv X.length a3=a4 at l4 u4
  rw [sz_eq (by omega) l4 u4,Option.bind_some]
  by_cases c5:szv Y.length a4<0
  · rw [if_pos c5];exact bad
  rw [if_neg c5]
  obtain⟨k5,l5,u5⟩:=szv_ok l4 u4 c5
  exact⟨_,rfl,fun _=>⟨k1,k2,k3,k4,k5,l5,u5⟩⟩
theorem toField_some (k:Nat) (T:List S95) (S:List S98) (C X Y:List Int) (g:Int) (b:Bool) (h1:T.length≤1000000) (h2:S.length≤1000000) (h3:C.length≤1000000) (h4:X.length≤1000000) (h5:Y.length≤1000000):
    laws_toField.f k T S C X Y g b=some (T.map laws_toDemandS.conv,S.map laws_toAreaS.conv,C,X,Y,g):=by
  unfold laws_toField.f
  simp only [toDemandS_some _ T _ h1,toAreaS_some _ S _ h2,toInt_some _ C _ h3,toInt_some _ X _ h4,toInt_some _ Y _ h5,Option.bind_some]
theorem intactField_refl (T:List S91) (S:List S69) (C X Y:List Int) (g:Int) (h1:T.length≤1000000) (h2:S.length≤1000000) (h3:C.length≤1000000) (h4:X.length≤1000000) (h5:Y.length≤1000000):
    Ev (fun k=>laws_intactField.f k T S C X Y g T S C X Y g) true:=by
  unfold laws_intactField.f
  refine Ev.bind (intactDemandS_refl T h1) ?_
  simp only [if_true]
  refine Ev.bind (intactAreaS_refl S h2) ?_
  simp only [if_true]
  refine Ev.bind (intactInt_refl C h3) ?_
  simp only [if_true]
  refine Ev.bind (intactInt_refl X h4) ?_
  simp only [if_true]
  refine Ev.bind (intactInt_refl Y h5) ?_
  simp only [if_true]
  exact Ev.now _
theorem markLoop {α:Type} {F:Nat→List α→Int→Int→Option (Int×List α)} {c n:Nat} (hn:n≤1000000)
    (hstep:∀(xs:List α) (a:Int) (i:Nat),xs.length=n→i<n→1≤a→a+(c:Int)≤100000000→∃ys:List α,ys.length=n∧Evt (fun k=>F (k+1) xs a (i:Int)=F k ys (a+(c:Int)) ((i+1:Nat):Int)))
    (hend:∀(xs:List α) (a:Int),xs.length=n→Evt (fun k=>F (k+1) xs a (n:Int)=some (a,xs))):
    ∀(d i:Nat) (xs:List α) (a:Int),i+d=n→xs.length=n→1≤a→a+(c:Int)*(d:Int)≤100000000→∃L:List α,L.length=n∧Ev (fun k=>F k xs a (i:Int)) (a+(c:Int)*(d:Int),L):=by
  intro d
  induction d with
  |zero=>
    intro i xs a hi hx ha hb
    obtain rfl:i=n:=by omega
    exact⟨xs,hx,(Ev.doneE (hend xs a hx)).eq (by simp)⟩
  |succ d ih=>
    intro i xs a hi hx ha hb
    have e:(c:Int)*((d+1:Nat):Int)=(c:Int)*(d:Int)+(c:Int):=by rw [Int.natCast_succ,Int.mul_add,Int.mul_one]
    have hp:0≤(c:Int)*(d:Int):=Int.mul_nonneg (Int.natCast_nonneg _) (Int.natCast_nonneg _)
    obtain⟨ys,hy,hs⟩:=hstep xs a i hx (by omega) ha (by omega)
    obtain⟨L,hL,hE⟩:=ih (i+1) ys (a+(c:Int)) (by omega) hy (by omega) (by omega)
    refine⟨L,hL,(Ev.stepE hs hE).eq ?_⟩
    rw [e]
    congr 1
    omega
theorem wr5 (a:Int) (h1:1≤a) (h2:a≤100000000):wrap64 (a+1)=a+1∧wrap64 (a+1+1)=a+1+1∧wrap64 (a+1+1+1)=a+1+1+1∧wrap64 (a+1+1+1+1)=a+1+1+1+1∧wrap64 (a+1+1+1+1+1)=a+1+1+1+1+1:=
  ⟨wrap_id (by omega) (by omega),wrap_id (by omega) (by omega),wrap_id (by omega) (by omega),wrap_id (by omega) (by omega),wrap_id (by omega) (by omega)⟩
theorem markInt_a (xs:List Int) (a:Int) (hn:xs.length≤1000000) (ha:1≤a) (hb:a+(xs.length:Int)≤100000000):∃L:List Int,L.length=xs.length∧Ev (fun k=>laws_markInt64S.f k xs a) (a+(xs.length:Int),L):=by
  have h:=markLoop (F:=laws_markInt64S.l0) (c:=1) (n:=xs.length) hn
    (fun ys a i hy hi h1 h2=>⟨ys.set i a,by simpa using hy,Evt.all fun k=>by
      simp only [laws_markInt64S.l0]
      rw [if_pos (by omega),if_pos (by omega),wrap_succ (show i<ys.length by omega) (by omega),wrap_id (by omega) (by omega),Int.toNat_natCast]
      rfl⟩)
    (fun ys a hy=>Evt.all fun k=>by
      simp only [laws_markInt64S.l0]
      rw [if_neg (by omega)]) xs.length 0 xs a (by omega) rfl ha (by omega)
  obtain⟨L,h1,h2⟩:=h
  exact⟨L,h1,h2.eq (by simp)⟩
theorem rd_T91_nat {l:List S91} {i:Nat} (h:i<l.length):rd_T91 l (i:Int)=l[i]:=by simp [rd_T91,h]
theorem rd_T69_nat {l:List S69} {i:Nat} (h:i<l.length):rd_T69 l (i:Int)=l[i]:=by simp [rd_T69,h]
theorem rds_D (l:List S91) (i:Nat) (v:S91) (h:i<l.length):rd_T91 (l.set i v) (i:Int)=v:=by
  rw [rd_T91_nat (by simpa using h)]
  simp
theorem rds_A (l:List S69) (i:Nat) (v:S69) (h:i<l.length):rd_T69 (l.set i v) (i:Int)=v:=by
  rw [rd_T69_nat (by simpa using h)]
  simp
theorem markDem_a (xs:List S91) (a:Int) (hn:xs.length≤1000000) (ha:1≤a) (hb:a+3*(xs.length:Int)≤100000000):∃L:List S91,L.length=xs.length∧Ev (fun k=>laws_markDemandS.f k xs a) (a+3*(xs.length:Int),L):=by
  have hstep:∀(ys:List S91) (a:Int) (i:Nat),ys.length=xs.length→i<xs.length→1≤a→a+((3:Nat):Int)≤100000000→∃zs:List S91,zs.length=xs.length∧Evt (fun k=>laws_markDemandS.l0 (k+1) ys a (i:Int)=laws_markDemandS.l0 k zs (a+((3:Nat):Int)) ((i+1:Nat):Int)):=by
    intro ys a i hy hi h1 h2
    have e3:a+1+1+1=a+((3:Nat):Int):=by omega
    have hs:=wrap_succ (show i<ys.length by omega) (show ys.length≤9223372036854775807 by omega)
    have hlt:(i:Int)<(ys.length:Int):=by omega
    have hil:i<ys.length:=by omega
    have h0:(0:Int)≤(i:Int):=by omega
    obtain⟨w1,w2,w3,_,_⟩:=wr5 a h1 (by omega)
    refine⟨((ys.set i ⟨a,(rd_T91 ys (i:Int)).f1,(rd_T91 ys (i:Int)).f2⟩).set i ⟨a,a+1,(rd_T91 ys (i:Int)).f2⟩).set i ⟨a,a+1,a+1+1⟩,by simp only [List.length_set];exact hy,Evt.all fun k=>?_⟩
    rw [laws_markDemandS.l0,if_pos hlt,if_pos h0,Option.bind_some,Option.bind_some,Int.toNat_natCast,rds_D _ _ _ hil,rds_D _ _ _ (by simpa using hil),w1,w2,w3,hs,e3]
  have hend:∀(ys:List S91) (a:Int),ys.length=xs.length→Evt (fun k=>laws_markDemandS.l0 (k+1) ys a (xs.length:Int)=some (a,ys)):=fun ys a hy=>Evt.all fun k=>by
    rw [laws_markDemandS.l0,if_neg (show ¬(xs.length:Int)<(ys.length:Int) by omega)]
  obtain⟨L,h1,h2⟩:=markLoop (F:=laws_markDemandS.l0) (c:=3) (n:=xs.length) hn hstep hend xs.length 0 xs a (by omega) rfl ha (by omega)
  exact⟨L,h1,h2⟩
theorem markArea_a (xs:List S69) (a:Int) (hn:xs.length≤1000000) (ha:1≤a) (hb:a+5*(xs.length:Int)≤100000000):∃L:List S69,L.length=xs.length∧Ev (fun k=>laws_markAreaS.f k xs a) (a+5*(xs.length:Int),L):=by
  have hstep:∀(ys:List S69) (a:Int) (i:Nat),ys.length=xs.length→i<xs.length→1≤a→a+((5:Nat):Int)≤100000000→∃zs:List S69,zs.length=xs.length∧Evt (fun k=>laws_markAreaS.l0 (k+1) ys a (i:Int)=laws_markAreaS.l0 k zs (a+((5:Nat):Int)) ((i+1:Nat):Int)):=by
    intro ys a i hy hi h1 h2
    have e5:a+1+1+1+1+1=a+((5:Nat):Int):=by omega
    have hs:=wrap_succ (show i<ys.length by omega) (show ys.length≤9223372036854775807 by omega)
    have hlt:(i:Int)<(ys.length:Int):=by omega
    have hil:i<ys.length:=by omega
    have h0:(0:Int)≤(i:Int):=by omega
    obtain⟨w1,w2,w3,w4,w5⟩:=wr5 a h1 (by omega)
    obtain⟨o,eo⟩:∃o,o=rd_T69 ys (i:Int):=⟨_,rfl⟩
    refine⟨((((ys.set i ⟨a,o.f1,o.f2,o.f3,o.f4⟩).set i ⟨a,a+1,o.f2,o.f3,o.f4⟩).set i ⟨a,a+1,a+1+1,o.f3,o.f4⟩).set i ⟨a,a+1,a+1+1,a+1+1+1,o.f4⟩).set i ⟨a,a+1,a+1+1,a+1+1+1,a+1+1+1+1⟩,by simp only [List.length_set];exact hy,Evt.all fun k=>?_⟩
    rw [laws_markAreaS.l0,if_pos hlt,if_pos h0,←eo,Option.bind_some,Int.toNat_natCast,rds_A _ _ _ hil,Option.bind_some,rds_A _ _ _ (by simpa using hil),Option.bind_some,rds_A _ _ _ (by simpa using hil),Option.bind_some,rds_A _ _ _ (by simpa using hil),w1,w2,w3,w4,w5,hs,e5]
  have hend:∀(ys:List S69) (a:Int),ys.length=xs.length→Evt (fun k=>laws_markAreaS.l0 (k+1) ys a (xs.length:Int)=some (a,ys)):=fun ys a hy=>Evt.all fun k=>by
    rw [laws_markAreaS.l0,if_neg (show ¬(xs.length:Int)<(ys.length:Int) by omega)]
  obtain⟨L,h1,h2⟩:=markLoop (F:=laws_markAreaS.l0) (c:=5) (n:=xs.length) hn hstep hend xs.length 0 xs a (by omega) rfl ha (by omega)
  exact⟨L,h1,h2⟩
theorem markField_ev (T:List S91) (S:List S69) (C X Y:List Int) (g:Int) (h1:T.length≤1000000) (h2:S.length≤1000000) (h3:C.length≤1000000) (h4:X.length≤1000000) (h5:Y.length≤1000000):
    ∃(r:Int) (T':List S91) (S':List S69) (C' X' Y':List Int),1≤r∧Ev (fun k=>laws_markField.f k T S C X Y g 101) (r,T',S',C',X',Y'):=by
  obtain⟨T',_,t2⟩:=markDem_a T 101 h1 (by omega) (by omega)
  obtain⟨S',_,s2⟩:=markArea_a S (101+3*(T.length:Int)) h2 (by omega) (by omega)
  obtain⟨C',_,c2⟩:=markInt_a C (101+3*(T.length:Int)+5*(S.length:Int)) h3 (by omega) (by omega)
  obtain⟨X',_,x2⟩:=markInt_a X (101+3*(T.length:Int)+5*(S.length:Int)+(C.length:Int)) h4 (by omega) (by omega)
  obtain⟨Y',_,y2⟩:=markInt_a Y (101+3*(T.length:Int)+5*(S.length:Int)+(C.length:Int)+(X.length:Int)) h5 (by omega) (by omega)
  refine⟨101+3*(T.length:Int)+5*(S.length:Int)+(C.length:Int)+(X.length:Int)+(Y.length:Int),T',S',C',X',Y',by omega,?_⟩
  unfold laws_markField.f
  exact Ev.bind t2 (Ev.bind s2 (Ev.bind c2 (Ev.bind x2 (Ev.bind y2 (Ev.now _)))))
def dsD (T:List S91) (c kd:Int):Nat→Nat→Int→Int
  |0,_,m=>m
  |d+1,i,m=>if (rd_T91 T (i:Int)).f0=kd then (if (rd_T91 T (i:Int)).f1≥c then (rd_T91 T (i:Int)).f2 else dsD T c kd d (i+1) (-1)) else dsD T c kd d (i+1) m
def dst (T:List S91) (c kd:Int):Int:=dsD T c kd T.length 0 0
theorem dist_ev (T:List S91) (c kd:Int) (hn:T.length≤1000000):∀d i m,i+d=T.length→
    Ev (fun k=>spec_l16Distance.l0 k T c kd m (i:Int)) (dsD T c kd d i m)∧Ev (fun k=>impl_distanceFor.l0 k c kd m T (T.length:Int) (i:Int)) (dsD T c kd d i m):=by
  intro d
  induction d with
  |zero=>
    intro i m hi
    refine⟨Ev.dn ?_,Ev.dn ?_⟩
    · simp only [spec_l16Distance.l0,if_neg (show ¬(i:Int)<(T.length:Int) by omega)];exact Ev.now _
    · simp only [impl_distanceFor.l0,if_neg (show ¬(i:Int)<(T.length:Int) by omega)];exact Ev.now _
  |succ d ih=>
    intro i m hi
    have h1:=ih (i+1) (-1) (by omega)
    have h2:=ih (i+1) m (by omega)
    refine⟨Ev.dn ?_,Ev.dn ?_⟩
    · simp only [spec_l16Distance.l0,dsD,if_pos (show (i:Int)<(T.length:Int) by omega),if_pos (show (0:Int)≤(i:Int) by omega),wrap_succ (show i<T.length by omega) (show T.length≤9223372036854775807 by omega)]
      split
      · split
        · exact Ev.now _
        · exact h1.1
      · exact h2.1
    · simp only [impl_distanceFor.l0,dsD,if_pos (show (i:Int)<(T.length:Int) by omega),if_pos (show (0:Int)≤(i:Int) by omega),wrap_succ (show i<T.length by omega) (show T.length≤9223372036854775807 by omega)]
      split
      · split
        · exact Ev.now _
        · exact h1.2
      · exact h2.2
theorem spec_dist_ev (T:List S91) (c kd:Int) (hn:T.length≤1000000):Ev (fun k=>spec_l16Distance.f k T c kd) (dst T c kd):=(dist_ev T c kd hn T.length 0 0 (by omega)).1
theorem impl_dist_ev (T:List S91) (c kd:Int) (hn:T.length≤1000000):Ev (fun k=>impl_distanceFor.f k T c kd) (dst T c kd):=(dist_ev T c kd hn T.length 0 0 (by omega)).2
def sqv (a:S69) (x y:Int):Int:=wrap64 ((wrap64 ((mx (mx 0 (wrap64 (a.f1-x))) (wrap64 ((wrap64 (x-a.f1))-a.f3)))*(mx (mx 0 (wrap64 (a.f1-x))) (wrap64 ((wrap64 (x-a.f1))-a.f3)))))+(wrap64 ((mx (mx 0 (wrap64 (a.f2-y))) (wrap64 ((wrap64 (y-a.f2))-a.f4)))*(mx (mx 0 (wrap64 (a.f2-y))) (wrap64 ((wrap64 (y-a.f2))-a.f4))))))
theorem impl_square_eq (a:S69) (x y:Int):impl_squareTo.f a.f0 a.f1 a.f2 a.f3 a.f4 x y=some (sqv a x y):=rfl
theorem wrap_away (x a w:Int):wrap64 (x-wrap64 (a+w))=wrap64 (wrap64 (x-a)-w):=by unfold wrap64;omega
theorem spec_square_eq (a:S69) (x y:Int):spec_l15Square.f a.f0 a.f1 a.f2 a.f3 a.f4 x y=some (sqv a x y):=by
  unfold spec_l15Square.f spec_l15Away.f sqv
  simp only [Option.bind_some,wrap_away]
def agB (T:List S91) (c x y:Int) (a:S69):Bool:=decide (dst T c a.f0<0)||decide (sqv a x y<wrap64 (dst T c a.f0*dst T c a.f0))
def agD (T:List S91) (S:List S69) (c x y:Int):Nat→Nat→List Int→List Int
  |0,_,xs=>xs
  |d+1,i,xs=>agD T S c x y d (i+1) (if agB T c x y (rd_T69 S (i:Int))=true then xs++[(i:Int)] else xs)
def ags (T:List S91) (S:List S69) (c x y:Int):List Int:=agD T S c x y S.length 0 []
theorem against_ev (T:List S91) (S:List S69) (c x y:Int) (hn:T.length≤1000000) (hS:S.length≤1000000):∀d i xs,i+d=S.length→xs.length≤i→
    Ev (fun k=>spec_l16Against.l0 k T S c x y xs (i:Int)) (agD T S c x y d i xs)∧Ev (fun k=>impl_areasAgainst.l0 k T c x y xs S (S.length:Int) (i:Int)) (agD T S c x y d i xs):=by
  intro d
  induction d with
  |zero=>
    intro i xs hi hx
    refine⟨Ev.dn ?_,Ev.dn ?_⟩
    · simp only [spec_l16Against.l0,if_neg (show ¬(i:Int)<(S.length:Int) by omega)];exact Ev.now _
    · simp only [impl_areasAgainst.l0,if_neg (show ¬(i:Int)<(S.length:Int) by omega)];exact Ev.now _
  |succ d ih=>
    intro i xs hi hx
    have h1:=ih (i+1) (xs++[(i:Int)]) (by omega) (by simp;omega)
    have h2:=ih (i+1) xs (by omega) (by omega)
    have hs:=wrap_succ (show i<S.length by omega) (show S.length≤9223372036854775807 by omega)
    refine⟨Ev.dn ?_,Ev.dn ?_⟩
    · simp only [spec_l16Against.l0,agD,if_pos (show (i:Int)<(S.length:Int) by omega),if_pos (show (0:Int)≤(i:Int) by omega),hs,if_pos (show xs.length<17592186044416 by omega),spec_square_eq,Option.bind_some]
      refine Ev.bind (spec_dist_ev T c _ hn) ?_
      by_cases c1:dst T c (rd_T69 S (i:Int)).f0<0
      · rw [if_pos (show agB T c x y (rd_T69 S (i:Int))=true by unfold agB;rw [decide_eq_true c1,Bool.true_or])]
        simp only [if_pos c1]
        exact h1.1
      · simp only [if_neg c1]
        by_cases c2:sqv (rd_T69 S (i:Int)) x y<wrap64 (dst T c (rd_T69 S (i:Int)).f0*dst T c (rd_T69 S (i:Int)).f0)
        · rw [if_pos (show agB T c x y (rd_T69 S (i:Int))=true by unfold agB;rw [decide_eq_true c2,Bool.or_true])]
          simp only [if_pos c2]
          exact h1.1
        · rw [if_neg (show ¬agB T c x y (rd_T69 S (i:Int))=true by unfold agB;rw [decide_eq_false c1,decide_eq_false c2];decide)]
          simp only [if_neg c2]
          exact h2.1
    · simp only [impl_areasAgainst.l0,agD,if_pos (show (i:Int)<(S.length:Int) by omega),if_pos (show (0:Int)≤(i:Int) by omega),hs,if_pos (show xs.length<17592186044416 by omega),impl_square_eq,Option.bind_some]
      refine Ev.bind (impl_dist_ev T c _ hn) ?_
      by_cases c1:dst T c (rd_T69 S (i:Int)).f0<0
      · rw [if_pos (show agB T c x y (rd_T69 S (i:Int))=true by unfold agB;rw [decide_eq_true c1,Bool.true_or])]
        simp only [if_pos c1]
        exact h1.2
      · simp only [if_neg c1]
        by_cases c2:sqv (rd_T69 S (i:Int)) x y<wrap64 (dst T c (rd_T69 S (i:Int)).f0*dst T c (rd_T69 S (i:Int)).f0)
        · rw [if_pos (show agB T c x y (rd_T69 S (i:Int))=true by unfold agB;rw [decide_eq_true c2,Bool.or_true])]
          simp only [if_pos c2]
          exact h1.2
        · rw [if_neg (show ¬agB T c x y (rd_T69 S (i:Int))=true by unfold agB;rw [decide_eq_false c1,decide_eq_false c2];decide)]
          simp only [if_neg c2]
          exact h2.2
theorem spec_against_ev (T:List S91) (S:List S69) (c x y:Int) (hn:T.length≤1000000) (hS:S.length≤1000000):Ev (fun k=>spec_l16Against.f k T S c x y) (ags T S c x y):=
  (against_ev T S c x y hn hS S.length 0 [] (by omega) (by simp)).1
theorem impl_against_ev (T:List S91) (S:List S69) (c x y:Int) (hn:T.length≤1000000) (hS:S.length≤1000000):Ev (fun k=>impl_areasAgainst.f k T S c x y) (ags T S c x y):=
  (against_ev T S c x y hn hS S.length 0 [] (by omega) (by simp)).2
def alw (T:List S91) (S:List S69) (c x y:Int):Bool:=((ags T S c x y).length:Int)==0
theorem impl_isAllowed_ev (T:List S91) (S:List S69) (c x y:Int) (hn:T.length≤1000000) (hS:S.length≤1000000):Ev (fun k=>impl_isAllowed.f k T S c x y) (alw T S c x y):=by
  unfold impl_isAllowed.f
  exact Ev.bind (impl_against_ev T S c x y hn hS) (Ev.now _)
def spD (T:List S91) (S:List S69) (X Y:List Int) (c:Int):Nat→Nat→List Int→List Int
  |0,_,xs=>xs
  |d+1,j,xs=>spD T S X Y c d (j+1) (if alw T S c (rd X (j:Int)) (rd Y (j:Int))=true then xs++[(j:Int)] else xs)
theorem spD_len (T:List S91) (S:List S69) (X Y:List Int) (c:Int):∀d j xs,(spD T S X Y c d j xs).length≤xs.length+d
  |0,_,xs=>Nat.le_refl _
  |d+1,j,xs=>by
    simp only [spD]
    refine Nat.le_trans (spD_len T S X Y c d (j+1) _) ?_
    split
    · simp;omega
    · omega
def sps (T:List S91) (S:List S69) (X Y:List Int) (c:Int):List Int:=spD T S X Y c X.length 0 []
def stD (T:List S91) (S:List S69) (C X Y:List Int):Nat→Nat→List (List Int)→List (List Int)
  |0,_,a=>a
  |d+1,i,a=>stD T S C X Y d (i+1) (a++[sps T S X Y (rd C (i:Int))])
theorem stD_len (T:List S91) (S:List S69) (C X Y:List Int):∀d i a,(stD T S C X Y d i a).length=a.length+d
  |0,_,a=>rfl
  |d+1,i,a=>by
    simp only [stD]
    rw [stD_len T S C X Y d (i+1) _]
    simp;omega
theorem stD_old (T:List S91) (S:List S69) (C X Y:List Int):∀d i a j,j<a.length→(stD T S C X Y d i a).getD j []=a.getD j []
  |0,_,a,j,_=>rfl
  |d+1,i,a,j,h=>by
    simp only [stD]
    rw [stD_old T S C X Y d (i+1) _ j (by simp;omega)]
    simp [List.getD,List.getElem?_append_left h]
theorem stD_get (T:List S91) (S:List S69) (C X Y:List Int):∀d i a j,a.length=i→i≤j→j<i+d→(stD T S C X Y d i a).getD j []=sps T S X Y (rd C (j:Int))
  |0,i,a,j,_,h1,h2=>by omega
  |d+1,i,a,j,ha,h1,h2=>by
    simp only [stD]
    by_cases e:j=i
    · subst e
      rw [stD_old T S C X Y d (j+1) _ j (by simp;omega)]
      subst ha
      simp [List.getD]
    · exact stD_get T S C X Y d (i+1) _ j (by simp;omega) (by omega) (by omega)
def sts (T:List S91) (S:List S69) (C X Y:List Int):List (List Int):=stD T S C X Y C.length 0 []
theorem sts_rd (T:List S91) (S:List S69) (C X Y:List Int) (i:Int) (h0:0≤i) (h1:i<(C.length:Int)):rd_L4 (sts T S C X Y) i=sps T S X Y (rd C i):=by
  obtain⟨n,rfl⟩:=Int.eq_ofNat_of_zero_le h0
  unfold rd_L4 sts
  rw [Int.toNat_natCast]
  exact stD_get T S C X Y C.length 0 [] n rfl (by omega) (by omega)
theorem sts_len (T:List S91) (S:List S69) (C X Y:List Int):(sts T S C X Y).length=C.length:=by
  unfold sts
  rw [stD_len]
  simp
theorem idx3 {X Y xs:List Int} {j d:Nat} (h4:X.length≤1000000) (e:Y.length=X.length) (hj:j+(d+1)=X.length) (hx:xs.length≤j):
    (j:Int)<(X.length:Int)∧(0:Int)≤(j:Int)∧(j:Int)<(Y.length:Int)∧xs.length<17592186044416∧wrap64 ((j:Int)+1)=((j+1:Nat):Int)∧(xs++[(j:Int)]).length≤j+1∧xs.length≤j+1∧j+1+d=X.length:=
  ⟨by omega,by omega,by omega,by omega,wrap_succ (show j<X.length by omega) (by omega),by simp;omega,by omega,by omega⟩
theorem idx3z {X:List Int} {j:Nat} (hj:j+0=X.length):¬(j:Int)<(X.length:Int):=by omega
theorem spots_inner (T:List S91) (S:List S69) (C X Y:List Int) (g:Int) (h1:T.length≤1000000) (h2:S.length≤1000000) (h3:C.length≤1000000) (h4:X.length≤1000000) (e:Y.length=X.length) (a:List (List Int)) (i:Nat) (R:List (List Int)) (hi:i<C.length) (ha:a.length≤1000000) (hR:Ev (fun k=>spec_l18Spots.l0 k (a++[sps T S X Y (rd C (i:Int))]) ((i+1:Nat):Int) T S C X Y g) R):
    ∀d j xs,j+d=X.length→xs.length≤j→spD T S X Y (rd C (i:Int)) d j xs=sps T S X Y (rd C (i:Int))→Ev (fun k=>spec_l18Spots.l1 k a (i:Int) xs (j:Int) T S C X Y g) R:=by
  have hiC:(i:Int)<(C.length:Int):=by omega
  have hi0:(0:Int)≤(i:Int):=by omega
  have hwi:=wrap_succ hi (show C.length≤9223372036854775807 by omega)
  have ha':a.length<5864062014805:=by omega
  intro d
  induction d with
  |zero=>
    intro j xs hj hx hq
    refine Ev.dn ?_
    simp only [spD] at hq
    simp only [spec_l18Spots.l1,if_neg (idx3z hj),if_pos ha',hwi,hq]
    exact hR
  |succ d ih=>
    intro j xs hj hx hq
    simp only [spD] at hq
    obtain⟨q1,q2,q3,q4,hs,q5,q6,q7⟩:=idx3 h4 e hj hx
    refine Ev.dn ?_
    simp only [spec_l18Spots.l1,if_pos q1,if_pos hi0,if_pos hiC,if_pos q2,if_pos q3,if_pos q4,hs]
    refine Ev.bind (spec_against_ev T S _ _ _ h1 h2) ?_
    by_cases c:((ags T S (rd C (i:Int)) (rd X (j:Int)) (rd Y (j:Int))).length:Int)=0
    · rw [show alw T S (rd C (i:Int)) (rd X (j:Int)) (rd Y (j:Int))=true by unfold alw;simpa using c] at hq
      simp only [if_true] at hq
      simp only [if_pos c]
      exact ih (j+1) (xs++[(j:Int)]) q7 q5 hq
    · rw [show alw T S (rd C (i:Int)) (rd X (j:Int)) (rd Y (j:Int))=false by unfold alw;simpa using c] at hq
      simp only [Bool.false_eq_true,if_false] at hq
      simp only [if_neg c]
      exact ih (j+1) xs q7 q6 hq
theorem spec_spots_ev (T:List S91) (S:List S69) (C X Y:List Int) (g:Int) (h1:T.length≤1000000) (h2:S.length≤1000000) (h3:C.length≤1000000) (h4:X.length≤1000000) (e:Y.length=X.length):
    Ev (fun k=>spec_l18Spots.f k T S C X Y g) (sts T S C X Y):=by
  have outer:∀d i a,i+d=C.length→a.length=i→Ev (fun k=>spec_l18Spots.l0 k a (i:Int) T S C X Y g) (stD T S C X Y d i a):=by
    intro d
    induction d with
    |zero=>
      intro i a hi ha
      refine Ev.dn ?_
      simp only [spec_l18Spots.l0,if_neg (show ¬(i:Int)<(C.length:Int) by omega)]
      exact Ev.now _
    |succ d ih=>
      intro i a hi ha
      refine Ev.dn ?_
      simp only [spec_l18Spots.l0,if_pos (show (i:Int)<(C.length:Int) by omega)]
      exact spots_inner T S C X Y g h1 h2 h3 h4 e a i _ (by omega) (by omega) (ih (i+1) _ (by omega) (by simp;omega)) X.length 0 [] (by omega) (by simp) rfl
  exact outer C.length 0 [] (by omega) rfl
theorem fldOk_len {T:List S91} {S:List S69} {C X Y:List Int} {g:Int} (h:fldOk T S C X Y g=true):T.length≤12∧S.length≤10∧C.length≤4∧X.length≤7∧Y.length=X.length:=by
  simp only [fldOk,tblOk,siteOk,Bool.and_eq_true,decide_eq_true_eq] at h
  omega
theorem has_ev (l:List Int) (v:Int) (hn:l.length≤1000000):Ev (fun k=>spec_l01Has.f k l v) (!allD (fun j=>decide (rd l (j:Int)≠v)) 0 l.length):=by
  have h:=Ev.allLoop (l:=fun k i=>spec_l01Has.l0 k l v i) (n:=l.length) (fun j=>decide (rd l (j:Int)≠v)) true false
    (fun i hi=>Evt.all fun k=>by
      simp only [spec_l01Has.l0]
      rw [if_pos (show (i:Int)<(l.length:Int) by omega),if_pos (show (0:Int)≤(i:Int) by omega),wrap_succ hi (by omega)]
      by_cases c:rd l (i:Int)=v
      · rw [if_pos c,decide_eq_false (fun h=>h c),if_neg (by decide)]
      · rw [if_neg c,decide_eq_true c,if_pos rfl])
    (Evt.all fun k=>by
      simp only [spec_l01Has.l0]
      rw [if_neg (by omega)]) l.length 0 (by omega)
  unfold spec_l01Has.f
  refine h.eq ?_
  cases allD (fun j=>decide (rd l (j:Int)≠v)) 0 l.length<;>rfl
theorem mem_spD (T:List S91) (S:List S69) (X Y:List Int) (c v:Int):∀d j xs,v∈spD T S X Y c d j xs↔v∈xs∨∃n:Nat,j≤n∧n<j+d∧v=(n:Int)∧alw T S c (rd X v) (rd Y v)=true
  |0,j,xs=>by
    simp only [spD]
    exact⟨Or.inl,fun h=>h.elim id (fun ⟨n,h1,h2,_⟩=>by omega)⟩
  |d+1,j,xs=>by
    simp only [spD]
    rw [mem_spD T S X Y c v d (j+1) _]
    constructor
    · rintro(h|⟨n,h1,h2,h3⟩)
      · split at h
        · rename_i q
          rcases List.mem_append.1 h with h|h
          · exact Or.inl h
          · obtain rfl:=List.mem_singleton.1 h
            exact Or.inr ⟨j,Nat.le_refl _,by omega,rfl,q⟩
        · exact Or.inl h
      · exact Or.inr ⟨n,by omega,by omega,h3⟩
    · rintro(h|⟨n,h1,h2,h3,h4⟩)
      · refine Or.inl ?_
        split
        · exact List.mem_append.2 (Or.inl h)
        · exact h
      · by_cases e:n=j
        · subst e
          subst h3
          rw [if_pos h4]
          exact Or.inl (by simp)
        · exact Or.inr ⟨n,by omega,by omega,h3,h4⟩
theorem sps_len (T:List S91) (S:List S69) (X Y:List Int) (c:Int):(sps T S X Y c).length≤X.length:=by
  have:=spD_len T S X Y c X.length 0 []
  simpa [sps] using this
def sq2 (X Y:List Int) (a b:Int):Int:=wrap64 ((wrap64 ((wrap64 ((rd X a)-(rd X b)))*(wrap64 ((rd X a)-(rd X b)))))+(wrap64 ((wrap64 ((rd Y a)-(rd Y b)))*(wrap64 ((rd Y a)-(rd Y b))))))
theorem rd_bound {X:List Int} {a b v:Int} (h:allIn X a b=true) (h0:0≤v) (h1:v<(X.length:Int)):a≤rd X v∧rd X v≤b:=by
  obtain⟨n,rfl⟩:=Int.eq_ofNat_of_zero_le h0
  exact(allIn_iff X a b).1 h n (by omega)
theorem sq2_comm {X Y:List Int} {a b:Int} (hX:allIn X 0 100000=true) (hY:allIn Y 0 100000=true) (e:Y.length=X.length) (a0:0≤a) (a1:a<(X.length:Int)) (b0:0≤b) (b1:b<(X.length:Int)):sq2 X Y a b=sq2 X Y b a:=by
  obtain⟨x1,x2⟩:=rd_bound hX a0 a1
  obtain⟨x3,x4⟩:=rd_bound hX b0 b1
  obtain⟨y1,y2⟩:=rd_bound hY a0 (by omega)
  obtain⟨y3,y4⟩:=rd_bound hY b0 (by omega)
  unfold sq2
  generalize rd X a=p at*
  generalize rd X b=q at*
  generalize rd Y a=s at*
  generalize rd Y b=t at*
  have e1:wrap64 (p-q)= - wrap64 (q-p):=by rw [wrap_id (by omega) (by omega),wrap_id (by omega) (by omega)];omega
  have e2:wrap64 (s-t)= - wrap64 (t-s):=by rw [wrap_id (by omega) (by omega),wrap_id (by omega) (by omega)];omega
  rw [e1,e2,Int.neg_mul_neg,Int.neg_mul_neg]
theorem fldOk_xy {T:List S91} {S:List S69} {C X Y:List Int} {g:Int} (h:fldOk T S C X Y g=true):allIn X 0 100000=true∧allIn Y 0 100000=true:=by
  simp only [fldOk,Bool.and_eq_true] at h
  exact⟨h.1.1.2,h.1.2⟩
theorem copyList_ev (l:List Int) (hn:l.length≤1000000):Ev (fun k=>impl_copyList.f l) l:=by
  unfold impl_copyList.f
  simp only [Option.bind_some]
  refine Ev.all (fun k=>?_)
  simp
  try omega
def nwB (p:List Int) (n:Int):Bool:=allD (fun j=>decide (rd p (j:Int)≠n)) 0 p.length
def apP (X Y p:List Int) (g n:Int) (j:Nat):Bool:=!decide (sq2 X Y (rd p (j:Int)) n<wrap64 (g*g))
def frB (T:List S91) (S:List S69) (C X Y:List Int) (g:Int) (p:List Int) (n:Int):Bool:=
  alw T S (rd C (p.length:Int)) (rd X n) (rd Y n)&&(nwB p n&&allD (apP X Y p g n) 0 p.length)
def plA (F:Nat→List (List Int)):Nat→Nat→List (List Int)→List (List Int)
  |0,_,a=>a
  |e+1,i,a=>plA F e (i+1) (a++F i)
def plD (T:List S91) (S:List S69) (C X Y:List Int) (g:Int):Nat→List Int→List (List Int)
  |0,p=>[p]
  |d+1,p=>plA (fun n=>if frB T S C X Y g p (n:Int)=true then plD T S C X Y g d (p++[(n:Int)]) else []) X.length 0 []
theorem plA_len (F:Nat→List (List Int)) (B:Nat) (hF:∀n,(F n).length≤B):∀e i a,(plA F e i a).length≤a.length+e*B
  |0,_,a=>by simp [plA]
  |e+1,i,a=>by
    simp only [plA]
    refine Nat.le_trans (plA_len F B hF e (i+1) (a++F i)) ?_
    have:=hF i
    rw [List.length_append,Nat.succ_mul]
    omega
theorem plD_len (T:List S91) (S:List S69) (C X Y:List Int) (g:Int) (hX:X.length≤7):∀d p,(plD T S C X Y g d p).length≤7 ^ d
  |0,p=>by simp [plD]
  |d+1,p=>by
    simp only [plD]
    refine Nat.le_trans (plA_len _ (7 ^ d) (fun n=>?_) X.length 0 []) ?_
    · split
      · exact plD_len T S C X Y g hX d _
      · simp
    · rw [List.length_nil,Nat.zero_add,Nat.pow_succ,Nat.mul_comm (7 ^ d) 7]
      exact Nat.mul_le_mul_right _ hX
def inX (X p:List Int):Prop:=∀j:Nat,j<p.length→0≤rd p (j:Int)∧rd p (j:Int)<(X.length:Int)
theorem inX_snoc {X p:List Int} (h:inX X p) (n:Nat) (hn:n<X.length):inX X (p++[(n:Int)]):=by
  intro j hj
  rw [List.length_append,List.length_singleton] at hj
  rw [rd_nat (by rw [List.length_append,List.length_singleton];exact hj)]
  by_cases c:j<p.length
  · rw [List.getElem_append_left c]
    have:=h j c
    rwa [rd_nat c] at this
  · rw [List.getElem_append_right (by omega)]
    simp only [List.getElem_singleton]
    omega
theorem isFree_p_ev (T:List S91) (S:List S69) (C X Y:List Int) (g:Int) (p:List Int) (k1:T.length≤1000000) (k2:S.length≤1000000) (hX:allIn X 0 100000=true) (hY:allIn Y 0 100000=true) (e:Y.length=X.length) (hp:p.length<C.length) (hn:p.length≤1000000) (hin:inX X p) (n:Nat) (i1:n<X.length):
    Ev (fun k=>impl_isFree.f k T S C X Y g p (p.length:Int) (n:Int)) (frB T S C X Y g p (n:Int)):=by
  unfold impl_isFree.f
  have n0:(0:Int)≤(n:Int):=by omega
  have n1:(n:Int)<(X.length:Int):=by omega
  have n2:(n:Int)<(Y.length:Int):=by omega
  simp only [if_pos (show (0:Int)≤(p.length:Int) by omega),if_pos (show (p.length:Int)<(C.length:Int) by omega),if_pos n0,if_pos n1,if_pos n2]
  refine Ev.bind (impl_isAllowed_ev T S _ _ _ k1 k2) ?_
  unfold frB
  cases alw T S (rd C (p.length:Int)) (rd X (n:Int)) (rd Y (n:Int)) with
  |false=>simp only [Bool.false_eq_true,if_false,Bool.false_and];exact Ev.now _
  |true=>
  simp only [if_true,Bool.true_and]
  have h:=Ev.allLoop (l:=fun k j=>impl_isFree.l0 k (n:Int) p (p.length:Int) j T S C X Y g) (n:=p.length) (fun j=>decide (rd p (j:Int)≠(n:Int))&&apP X Y p g (n:Int) j) false true
    (fun j hj=>Evt.all fun k=>by
      obtain⟨j0,j1⟩:=hin j hj
      have hq:wrap64 ((wrap64 ((wrap64 ((rd X (n:Int))-(rd X (rd p (j:Int)))))*(wrap64 ((rd X (n:Int))-(rd X (rd p (j:Int)))))))+(wrap64 ((wrap64 ((rd Y (n:Int))-(rd Y (rd p (j:Int)))))*(wrap64 ((rd Y (n:Int))-(rd Y (rd p (j:Int))))))))=sq2 X Y (rd p (j:Int)) (n:Int):=sq2_comm hX hY e n0 n1 j0 j1
      simp only [impl_isFree.l0,hq]
      rw [if_pos (show (j:Int)<(p.length:Int) by omega),if_pos (show (0:Int)≤(j:Int) by omega),if_pos (show (j:Int)<(p.length:Int) by omega),if_pos n0,if_pos n1,if_pos j0,if_pos j1,if_pos n2,if_pos (show rd p (j:Int)<(Y.length:Int) by omega),wrap_succ hj (by omega)]
      unfold apP
      by_cases c1:(n:Int)=rd p (j:Int)
      · have n1:decide (rd p (j:Int)≠(n:Int))=false:=decide_eq_false (fun h=>h c1.symm)
        rw [if_pos c1,n1,Bool.false_and]
        rfl
      · have n1:decide (rd p (j:Int)≠(n:Int))=true:=decide_eq_true (fun h=>c1 h.symm)
        rw [if_neg c1,n1,Bool.true_and]
        by_cases c2:sq2 X Y (rd p (j:Int)) (n:Int)<wrap64 (g*g)
        · rw [if_pos c2,decide_eq_true c2]
          rfl
        · rw [if_neg c2,decide_eq_false c2]
          rfl)
    (Evt.all fun k=>by
      simp only [impl_isFree.l0]
      rw [if_neg (by omega)]) p.length 0 (by omega)
  refine h.eq ?_
  have key:allD (fun j=>decide (rd p (j:Int)≠(n:Int))&&apP X Y p g (n:Int) j) 0 p.length=(nwB p (n:Int)&&allD (apP X Y p g (n:Int)) 0 p.length):=by
    unfold nwB
    rw [Bool.eq_iff_iff,Bool.and_eq_true,allD_iff,allD_iff,allD_iff]
    constructor
    · intro h2
      exact⟨fun j a b=>((Bool.and_eq_true _ _).mp (h2 j a b)).1,fun j a b=>((Bool.and_eq_true _ _).mp (h2 j a b)).2⟩
    · intro h1 j a b
      exact(Bool.and_eq_true _ _).mpr ⟨h1.1 j a b,h1.2 j a b⟩
  rw [key]
  cases nwB p (n:Int)&&allD (apP X Y p g (n:Int)) 0 p.length<;>rfl
theorem len_small {a b i K x:Nat} (h:a≤i*K) (hb:b≤K) (hi:i<x) (hx:x≤7) (hK:K=2401):a+b<5864062014805:=by
  subst hK
  omega
theorem len_next {a b i K:Nat} (h:a≤i*K) (hb:b≤K):a+b≤(i+1)*K:=by
  rw [Nat.succ_mul]
  omega
theorem len_keep {a i K:Nat} (h:a≤i*K):a≤(i+1)*K:=len_next (b:=0) h (Nat.zero_le _)
theorem own_some (l:List Int) (h:l.length≤1000000):spec_l01Own.f l=some l:=by
  unfold spec_l01Own.f
  rw [Option.bind_some,if_pos (by rw [List.length_nil];omega),List.nil_append]
def flD (F:Int→List (List Int)) (q:List Int):Nat→Nat→List (List Int)→List (List Int)
  |0,_,a=>a
  |d+1,i,a=>flD F q d (i+1) (a++F (rd q (i:Int)))
theorem flD_eq (F:Int→List (List Int)) (q:List Int):∀d i a,i+d=q.length→flD F q d i a=a++(q.drop i).flatMap F
  |0,i,a,h=>by
    rw [List.drop_eq_nil_of_le (by omega)]
    simp [flD]
  |d+1,i,a,h=>by
    simp only [flD]
    rw [flD_eq F q d (i+1) _ (by omega),List.drop_eq_getElem_cons (show i<q.length by omega),rd_nat (show i<q.length by omega),List.flatMap_cons,List.append_assoc]
theorem plA_eq (G:Nat→List (List Int)):∀e i a,plA G e i a=a++(List.range' i e).flatMap G
  |0,i,a=>by simp [plA]
  |e+1,i,a=>by
    simp only [plA]
    rw [plA_eq G e (i+1) _,List.range'_succ,List.flatMap_cons,List.append_assoc]
theorem spD_eq (T:List S91) (S:List S69) (X Y:List Int) (c:Int):∀d j xs,spD T S X Y c d j xs=xs++(List.range' j d).flatMap (fun n:Nat=>if alw T S c (rd X (n:Int)) (rd Y (n:Int))=true then [(n:Int)] else [])
  |0,j,xs=>by simp [spD]
  |d+1,j,xs=>by
    simp only [spD]
    rw [spD_eq T S X Y c d (j+1) _,List.range'_succ,List.flatMap_cons]
    by_cases c1:alw T S c (rd X (j:Int)) (rd Y (j:Int))=true
    · rw [if_pos c1,if_pos c1,List.append_assoc]
    · rw [if_neg c1,if_neg c1,List.nil_append]
def plF (T:List S91) (S:List S69) (C X Y:List Int) (g:Int) (d:Nat) (p:List Int) (s:Int):List (List Int):=
  if (nwB p s&&allD (apP X Y p g s) 0 p.length)=true then plD T S C X Y g d (p++[s]) else []
theorem flD_plD (T:List S91) (S:List S69) (C X Y:List Int) (g:Int) (d:Nat) (p:List Int):
    flD (plF T S C X Y g d p) (sps T S X Y (rd C (p.length:Int))) (sps T S X Y (rd C (p.length:Int))).length 0 []=plD T S C X Y g (d+1) p:=by
  rw [flD_eq _ _ _ _ _ (by omega)]
  simp only [plD]
  rw [plA_eq,List.drop_zero,List.nil_append,List.nil_append]
  unfold sps
  rw [spD_eq,List.nil_append,List.flatMap_assoc]
  congr 1
  funext n
  unfold frB plF
  cases alw T S (rd C (p.length:Int)) (rd X (n:Int)) (rd Y (n:Int)) with
  |false=>simp
  |true=>simp
theorem sps_in (T:List S91) (S:List S69) (X Y:List Int) (c:Int) (i:Nat) (h:i<(sps T S X Y c).length):∃n:Nat,n<X.length∧rd (sps T S X Y c) (i:Int)=(n:Int):=by
  have hm:rd (sps T S X Y c) (i:Int)∈sps T S X Y c:=by
    rw [rd_nat h]
    exact List.getElem_mem h
  unfold sps at hm ⊢
  rcases (mem_spD T S X Y c _ _ _ _).1 hm with h1|⟨n,_,h2,h3,_⟩
  · exact absurd h1 (by simp)
  · exact⟨n,by omega,h3⟩
theorem square_some (T:List S91) (S:List S69) (C X Y:List Int) (g a b:Int) (e:Y.length=X.length) (a0:0≤a) (a1:a<(X.length:Int)) (b0:0≤b) (b1:b<(X.length:Int)):spec_l18Square.f T S C X Y g a b=some (sq2 X Y a b):=by
  unfold spec_l18Square.f sq2
  rw [if_pos a0,if_pos a1,if_pos b0,if_pos b1,if_pos (by omega),if_pos (by omega)]
theorem all_l1 (T:List S91) (S:List S69) (C X Y:List Int) (g:Int) (L:List (List Int)) (p:List Int) (a:List (List Int)) (q:List Int) (i n:Nat) (e:Y.length=X.length) (hi:i<q.length) (hq:q.length≤1000000) (hp:p.length≤1000000) (hin:inX X p) (hn:n<X.length) (hr:rd q (i:Int)=(n:Int)) (R:List (List Int)):
    ∀d j (b:Bool),j+d=p.length→Ev (fun k=>spec_l18All.l1 k L p a q (i:Int) (b&&allD (apP X Y p g (n:Int)) j d) (p.length:Int) T S C X Y g) R→Ev (fun k=>spec_l18All.l1 k L p a q (i:Int) b (j:Int) T S C X Y g) R:=by
  have i0:(0:Int)≤(i:Int):=by omega
  have i1:(i:Int)<(q.length:Int):=by omega
  intro d
  induction d with
  |zero=>
    intro j b hj h
    obtain rfl:j=p.length:=by omega
    simp only [allD,Bool.and_true] at h
    exact h
  |succ d ih=>
    intro j b hj h
    have hjl:j<p.length:=by clear ih;omega
    have hw:=wrap_succ hjl (show p.length≤9223372036854775807 by clear ih;omega)
    have j0:(0:Int)≤(j:Int):=by clear ih;omega
    have j1:(j:Int)<(p.length:Int):=by clear ih;omega
    have hj':j+1+d=p.length:=by clear ih;omega
    obtain⟨s0,s1⟩:=hin j hjl
    refine Ev.dn ?_
    simp only [allD] at h
    cases b with
    |false=>
      simp only [spec_l18All.l1,if_pos j1,Bool.false_eq_true,if_false,hw]
      refine ih (j+1) false hj' ?_
      simp only [Bool.false_and] at h ⊢
      exact h
    |true=>
      simp only [spec_l18All.l1,if_pos j1,if_true,if_pos j0,if_pos i0,if_pos i1,hr,square_some T S C X Y g _ _ e s0 s1 (Int.natCast_nonneg n) (Int.ofNat_lt.2 hn),Option.bind_some,hw]
      refine ih (j+1) _ hj' ?_
      have ha:decide (sq2 X Y (rd p (j:Int)) (n:Int)≥wrap64 (g*g))=apP X Y p g (n:Int) j:=by
        unfold apP
        by_cases c:sq2 X Y (rd p (j:Int)) (n:Int)<wrap64 (g*g)
        · rw [decide_eq_true c,decide_eq_false (by omega)];rfl
        · rw [decide_eq_false c,decide_eq_true (by omega)];rfl
      rw [ha]
      simpa only [Bool.true_and] using h
theorem spec_all_ev (T:List S91) (S:List S69) (C X Y:List Int) (g:Int) (k3:C.length≤4) (k4:X.length≤7) (e:Y.length=X.length):
    ∀d p,p.length+d=C.length→inX X p→Ev (fun k=>spec_l18All.f k T S C X Y g (sts T S C X Y) p) (plD T S C X Y g d p):=by
  intro d
  induction d with
  |zero=>
    intro p hp hi
    refine Ev.dn ?_
    simp only [spec_l18All.f,plD,sts_len,if_pos (show (p.length:Int)=(C.length:Int) by omega)]
    exact Ev.now _
  |succ d ih=>
    intro p hp hi
    have hp1:p.length≤1000000:=by clear ih;omega
    have hp2:(p.length:Int)<(C.length:Int):=by clear ih;omega
    have hp0:(0:Int)≤(p.length:Int):=by clear ih;omega
    have hpl:¬(p.length:Int)<(p.length:Int):=by clear ih;omega
    have hp3:p.length+1<17592186044416:=by clear ih;omega
    obtain⟨K,hK⟩:∃K:Nat,K=2401:=⟨_,rfl⟩
    have hB:∀s:Int,(plD T S C X Y g d (p++[s])).length≤K:=hK▸fun s=>Nat.le_trans (plD_len T S C X Y g k4 d _) (Nat.le_trans (Nat.pow_le_pow_right (by decide) (show d≤4 by omega)) (by decide))
    have hsl:=sps_len T S X Y (rd C (p.length:Int))
    have hE:Ev (fun k=>spec_l18All.l0 k (sts T S C X Y) p [] (sps T S X Y (rd C (p.length:Int))) ((0:Nat):Int) T S C X Y g) (flD (plF T S C X Y g d p) (sps T S X Y (rd C (p.length:Int))) (sps T S X Y (rd C (p.length:Int))).length 0 []):=by
      have hin:=sps_in T S X Y (rd C (p.length:Int))
      generalize sps T S X Y (rd C (p.length:Int))=q at hsl hin
      have hq7:q.length≤7:=by clear ih;omega
      have loop:∀m i a,i+m=q.length→a.length≤i*K→Ev (fun k=>spec_l18All.l0 k (sts T S C X Y) p a q (i:Int) T S C X Y g) (flD (plF T S C X Y g d p) q m i a):=by
        intro m
        induction m with
        |zero=>
          intro i a him ha
          refine Ev.dn ?_
          simp only [spec_l18All.l0,if_neg (show ¬(i:Int)<(q.length:Int) by omega)]
          exact Ev.now _
        |succ m ihm=>
          intro i a him ha
          have hil:i<q.length:=by clear ihm ih;omega
          have him':(i+1)+m=q.length:=by clear ihm ih;omega
          have hq6:q.length≤1000000:=by clear ihm ih;omega
          have i0:(0:Int)≤(i:Int):=by clear ihm ih;omega
          have i1:(i:Int)<(q.length:Int):=by clear ihm ih;omega
          have hw:=wrap_succ hil (show q.length≤9223372036854775807 by clear ihm ih;omega)
          obtain⟨n,hn,hr⟩:=hin i hil
          refine Ev.dn ?_
          simp only [spec_l18All.l0,flD,if_pos i1,if_pos i0,hr]
          refine Ev.bind (has_ev p (n:Int) hp1) ?_
          simp only [Bool.not_not]
          refine all_l1 T S C X Y g (sts T S C X Y) p a q i n e hil hq6 hp1 hi hn hr _ p.length 0 _ (by clear ihm ih;omega) ?_
          refine Ev.dn ?_
          rw [show allD (fun j=>decide (rd p (j:Int)≠(n:Int))) 0 p.length=nwB p (n:Int) from rfl]
          unfold plF
          cases c:nwB p (n:Int)&&allD (apP X Y p g (n:Int)) 0 p.length with
          |false=>
            simp only [spec_l18All.l1,if_neg hpl,Bool.false_eq_true,if_false,hw,List.append_nil]
            exact ihm (i+1) a him' (len_keep ha)
          |true=>
            simp only [spec_l18All.l1,if_neg hpl,if_true,hw,own_some p hp1,Option.bind_some,if_pos i0,if_pos i1,hr,List.length_singleton,if_pos hp3]
            refine Ev.bind (ih (p++[(n:Int)]) (by rw [List.length_append,List.length_singleton];clear ihm ih;omega) (inX_snoc hi n hn)) ?_
            simp only [if_pos (len_small ha (hB (n:Int)) hil hq7 hK)]
            exact ihm (i+1) _ him' (by rw [List.length_append];exact len_next ha (hB (n:Int)))
      exact loop q.length 0 [] (by omega) (by simp)
    rw [flD_plD] at hE
    refine Ev.dn ?_
    simp only [spec_l18All.f,sts_len,if_neg (show ¬(p.length:Int)=(C.length:Int) by omega),if_pos hp0,if_pos hp2,sts_rd T S C X Y (p.length:Int) hp0 hp2]
    exact hE
def neB (l:List (List Int)):Bool:=!l.isEmpty
theorem neB_iff (l:List (List Int)):neB l=true↔l≠[]:=by cases l<;>simp [neB]
theorem neB_plA (F:Nat→List (List Int)) (m i:Nat):neB (plA F (m+1) i [])=(neB (F i)||neB (plA F m (i+1) [])):=by
  rw [plA_eq,plA_eq,List.nil_append,List.nil_append,List.range'_succ,List.flatMap_cons]
  unfold neB
  generalize F i=a
  generalize (List.range' (i+1) m).flatMap F=b
  cases a<;>cases b<;>simp
theorem hasPlacing_ev (T:List S91) (S:List S69) (C X Y:List Int) (g:Int) (k1:T.length≤1000000) (k2:S.length≤1000000) (k3:C.length≤4) (k4:X.length≤7) (hX:allIn X 0 100000=true) (hY:allIn Y 0 100000=true) (e:Y.length=X.length):
    ∀d p,p.length+d=C.length→inX X p→Ev (fun k=>impl_hasPlacing.f k T S C X Y g p) (neB (plD T S C X Y g d p)):=by
  intro d
  induction d with
  |zero=>
    intro p hp hi
    refine Ev.dn ?_
    simp only [impl_hasPlacing.f,plD,if_pos (show (p.length:Int)=(C.length:Int) by omega)]
    exact Ev.now _
  |succ d ih=>
    intro p hp hi
    refine Ev.dn ?_
    simp only [impl_hasPlacing.f,plD,if_neg (show ¬(p.length:Int)=(C.length:Int) by omega)]
    have loop:∀m i,i+m=X.length→Ev (fun k=>impl_hasPlacing.l0 k p (p.length:Int) (X.length:Int) (i:Int) T S C X Y g) (neB (plA (fun n=>if frB T S C X Y g p (n:Int)=true then plD T S C X Y g d (p++[(n:Int)]) else []) m i [])):=by
      intro m
      induction m with
      |zero=>
        intro i him
        refine Ev.dn ?_
        simp only [impl_hasPlacing.l0,if_neg (show ¬(i:Int)<(X.length:Int) by omega)]
        exact Ev.now _
      |succ m ihm=>
        intro i him
        have hil:i<X.length:=by clear ihm ih;omega
        have him':(i+1)+m=X.length:=by clear ihm ih;omega
        have hp1:p.length<C.length:=by clear ihm ih;omega
        have hp2:p.length≤1000000:=by clear ihm ih;omega
        have hp3:p.length+1<17592186044416:=by clear ihm ih;omega
        have hp4:(p++[(i:Int)]).length+d=C.length:=by clear ihm ih;rw [List.length_append,List.length_singleton];omega
        have hw:=wrap_succ hil (show X.length≤9223372036854775807 by omega)
        rw [neB_plA]
        refine Ev.dn ?_
        simp only [impl_hasPlacing.l0,if_pos (show (i:Int)<(X.length:Int) by omega),hw,Option.bind_some]
        refine Ev.bind (isFree_p_ev T S C X Y g p k1 k2 hX hY e hp1 hp2 hi i hil) ?_
        cases c:frB T S C X Y g p (i:Int) with
        |false=>
          simp only [Bool.false_eq_true,if_false,neB,List.isEmpty_nil,Bool.not_true,Bool.false_or]
          exact ihm (i+1) him'
        |true=>
          simp only [if_true]
          refine Ev.bind (copyList_ev p hp2) ?_
          simp only [List.length_singleton,if_pos hp3]
          refine Ev.bind (ih (p++[(i:Int)]) hp4 (inX_snoc hi i hil)) ?_
          cases neB (plD T S C X Y g d (p++[(i:Int)])) with
          |false=>
            simp only [Bool.false_eq_true,if_false,Bool.false_or]
            exact ihm (i+1) him'
          |true=>
            simp only [if_true,Bool.true_or]
            exact Ev.now _
    exact loop X.length 0 (by omega)
theorem mem_plD (T:List S91) (S:List S69) (C X Y:List Int) (g:Int) (d:Nat) (p x:List Int):
    x∈plD T S C X Y g (d+1) p↔∃n:Nat,n<X.length∧frB T S C X Y g p (n:Int)=true∧x∈plD T S C X Y g d (p++[(n:Int)]):=by
  simp only [plD]
  rw [plA_eq,List.nil_append,List.mem_flatMap]
  constructor
  · rintro⟨n,hn,hx⟩
    by_cases c:frB T S C X Y g p (n:Int)=true
    · rw [if_pos c] at hx
      exact⟨n,by have:=(List.mem_range'_1.1 hn).2;omega,c,hx⟩
    · rw [if_neg c] at hx
      exact absurd hx (by simp)
  · rintro⟨n,hn,c,hx⟩
    exact⟨n,List.mem_range'_1.2 ⟨by omega,by omega⟩,by rw [if_pos c];exact hx⟩
def hsB (l:List Int) (v:Int):Bool:=!allD (fun j=>decide (rd l (j:Int)≠v)) 0 l.length
def woD (S:List S69) (l:List Int):Nat→Nat→List S69→List S69
  |0,_,a=>a
  |d+1,i,a=>woD S l d (i+1) (if hsB l (i:Int)=true then a else a++[rd_T69 S (i:Int)])
def wo (S:List S69) (l:List Int):List S69:=woD S l S.length 0 []
theorem woD_len (S:List S69) (l:List Int):∀d i a,(woD S l d i a).length≤a.length+d
  |0,_,a=>Nat.le_refl _
  |d+1,i,a=>by
    simp only [woD]
    refine Nat.le_trans (woD_len S l d (i+1) _) ?_
    split
    · omega
    · rw [List.length_append,List.length_singleton];omega
theorem wo_len (S:List S69) (l:List Int):(wo S l).length≤S.length:=by
  have:=woD_len S l S.length 0 []
  rw [List.length_nil,Nat.zero_add] at this
  exact this
theorem spec_wo_loop (T:List S91) (S:List S69) (C X Y:List Int) (g:Int) (l:List Int) (h2:S.length≤1000000) (hl:l.length≤1000000) (T':List S91) (C' X' Y':List Int) (g':Int):
    ∀d i a,i+d=S.length→a.length≤i→Ev (fun k=>spec_l19Without.l0 k l (i:Int) T S C X Y g T' a C' X' Y' g') (T',woD S l d i a,C',X',Y',g'):=by
  intro d
  induction d with
  |zero=>
    intro i a hi ha
    refine Ev.dn ?_
    simp only [spec_l19Without.l0,if_neg (show ¬(i:Int)<(S.length:Int) by omega)]
    exact Ev.now _
  |succ d ih=>
    intro i a hi ha
    have i0:(0:Int)≤(i:Int):=by clear ih;omega
    have i1:(i:Int)<(S.length:Int):=by clear ih;omega
    have hi':i+1+d=S.length:=by clear ih;omega
    have hw:=wrap_succ (show i<S.length by clear ih;omega) (show S.length≤9223372036854775807 by clear ih;omega)
    refine Ev.dn ?_
    simp only [spec_l19Without.l0,if_pos i1,woD,hw]
    refine Ev.bind (has_ev l (i:Int) hl) ?_
    by_cases c:hsB l (i:Int)=true
    · simp only [if_pos c]
      rw [show (!allD (fun j=>decide (rd l (j:Int)≠(i:Int))) 0 l.length)=true from c]
      simp only [if_true]
      exact ih (i+1) a hi' (by clear ih;omega)
    · simp only [if_neg c]
      rw [show (!allD (fun j=>decide (rd l (j:Int)≠(i:Int))) 0 l.length)=false from Bool.eq_false_iff.2 c]
      simp only [Bool.false_eq_true,if_false,if_pos i0,if_pos (show a.length<3518437208883 by clear ih;omega)]
      exact ih (i+1) _ hi' (by clear ih;rw [List.length_append,List.length_singleton];omega)
theorem spec_wo_ev (T:List S91) (S:List S69) (C X Y:List Int) (g:Int) (l:List Int) (h1:T.length≤1000000) (h2:S.length≤1000000) (h3:C.length≤1000000) (h4:X.length≤1000000) (h5:Y.length≤1000000) (hl:l.length≤1000000):
    Ev (fun k=>spec_l19Without.f k T S C X Y g l) (T,wo S l,C,X,Y,g):=by
  unfold spec_l19Without.f
  simp only [Option.bind_some,List.length_nil,List.nil_append,if_pos (show 0+T.length<5864062014805 by omega),own_some C h3,own_some X h4,own_some Y h5]
  exact spec_wo_loop T S C X Y g l h2 hl T C X Y g S.length 0 [] (by omega) (by simp)
theorem impl_wo_in (T:List S91) (S:List S69) (C X Y:List Int) (g:Int) (l:List Int) (a:List S69) (i:Nat) (R:List S91×List S69×List Int×List Int×List Int×Int) (hi:i<S.length) (h2:S.length≤1000000) (hl:l.length≤1000000) (ha:a.length≤1000000):
    ∀d j (b:Bool),j+d=l.length→Ev (fun k=>impl_withoutAreas.l0 k l S (S.length:Int) ((i+1:Nat):Int) T (if (b|| !allD (fun j=>decide (rd l (j:Int)≠(i:Int))) j d)=true then a else a++[rd_T69 S (i:Int)]) C X Y g) R→
      Ev (fun k=>impl_withoutAreas.l1 k l (i:Int) b S (S.length:Int) (i:Int) l (l.length:Int) (j:Int) T a C X Y g (rd_T69 S (i:Int)).f0 (rd_T69 S (i:Int)).f1 (rd_T69 S (i:Int)).f2 (rd_T69 S (i:Int)).f3 (rd_T69 S (i:Int)).f4) R:=by
  have hwi:=wrap_succ hi (show S.length≤9223372036854775807 by omega)
  intro d
  induction d with
  |zero=>
    intro j b hj h
    refine Ev.dn ?_
    simp only [impl_withoutAreas.l1,if_neg (show ¬(j:Int)<(l.length:Int) by omega),hwi]
    simp only [allD,Bool.not_true,Bool.or_false] at h
    cases b with
    |true=>
      simp only [if_true] at h ⊢
      exact h
    |false=>
      simp only [Bool.false_eq_true,if_false,if_pos (show a.length<3518437208883 by omega)] at h ⊢
      exact h
  |succ d ih=>
    intro j b hj h
    have j0:(0:Int)≤(j:Int):=by clear ih h;omega
    have j1:(j:Int)<(l.length:Int):=by clear ih h;omega
    have hj':j+1+d=l.length:=by clear ih h;omega
    have hw:=wrap_succ (show j<l.length by clear ih h;omega) (show l.length≤9223372036854775807 by clear ih h;omega)
    refine Ev.dn ?_
    simp only [impl_withoutAreas.l1,if_pos j1,if_pos j0,hw]
    simp only [allD,Bool.not_and] at h
    have e:(!decide (rd l (j:Int)≠(i:Int)))=(rd l (j:Int)==(i:Int)):=by
      by_cases c:rd l (j:Int)=(i:Int)
      · rw [decide_eq_false (fun h=>h c),c];simp
      · rw [decide_eq_true c,beq_eq_false_iff_ne.2 c];rfl
    rw [e] at h
    cases b with
    |true=>
      simp only [if_true]
      exact ih (j+1) true hj' (by simpa only [Bool.true_or] using h)
    |false=>
      simp only [Bool.false_eq_true,if_false]
      exact ih (j+1) _ hj' (by simpa only [Bool.false_or] using h)
theorem impl_wo_loop (T:List S91) (S:List S69) (C X Y:List Int) (g:Int) (l:List Int) (h2:S.length≤1000000) (hl:l.length≤1000000):
    ∀d i a,i+d=S.length→a.length≤i→Ev (fun k=>impl_withoutAreas.l0 k l S (S.length:Int) (i:Int) T a C X Y g) (T,woD S l d i a,C,X,Y,g):=by
  intro d
  induction d with
  |zero=>
    intro i a hi ha
    refine Ev.dn ?_
    simp only [impl_withoutAreas.l0,if_neg (show ¬(i:Int)<(S.length:Int) by omega)]
    exact Ev.now _
  |succ d ih=>
    intro i a hi ha
    have i0:(0:Int)≤(i:Int):=by clear ih;omega
    have i1:(i:Int)<(S.length:Int):=by clear ih;omega
    have hil:i<S.length:=by clear ih;omega
    have hi':i+1+d=S.length:=by clear ih;omega
    refine Ev.dn ?_
    simp only [impl_withoutAreas.l0,if_pos i1,if_pos i0,woD]
    refine impl_wo_in T S C X Y g l a i _ hil h2 hl (by clear ih;omega) l.length 0 false (by clear ih;omega) ?_
    rw [Bool.false_or]
    refine ih (i+1) _ hi' ?_
    clear ih
    split
    · omega
    · rw [List.length_append,List.length_singleton];omega
theorem impl_wo_ev (T:List S91) (S:List S69) (C X Y:List Int) (g:Int) (l:List Int) (h1:T.length≤1000000) (h2:S.length≤1000000) (h3:C.length≤1000000) (h4:X.length≤1000000) (h5:Y.length≤1000000) (hl:l.length≤1000000):
    Ev (fun k=>impl_withoutAreas.f k T S C X Y g l) (T,wo S l,C,X,Y,g):=by
  unfold impl_withoutAreas.f
  simp only [Option.bind_some,List.length_nil,List.nil_append,if_pos (show 0+T.length<5864062014805 by omega)]
  refine Ev.bind (copyList_ev C h3) (Ev.bind (copyList_ev X h4) (Ev.bind (copyList_ev Y h5) ?_))
  exact impl_wo_loop T S C X Y g l h2 hl S.length 0 [] (by omega) (by simp)
def rsJ (l:List Int) (n:Int) (j:Nat):Bool:=rin (rd l (j:Int)) 0 (n-1)&&(decide (j=0)||decide (rd l ((j-1:Nat):Int)<rd l (j:Int)))
def rsB (l:List Int) (n:Int):Bool:=allD (rsJ l n) 0 l.length
theorem spec_rises_ev (l:List Int) (n:Nat) (hl:l.length≤1000000) (hn:n≤1000000):Ev (fun k=>spec_l01Rises.f k l (n:Int)) (rsB l (n:Int)):=by
  have h:=Ev.allLoop (l:=fun k i=>spec_l01Rises.l0 k l (n:Int) i) (n:=l.length) (rsJ l (n:Int)) false true
    (fun i hi=>Evt.all fun k=>by
      simp only [spec_l01Rises.l0,l01In_eq,Option.bind_some,wrap_id (x:=(n:Int)-1) (by omega) (by omega)]
      rw [if_pos (show (i:Int)<(l.length:Int) by omega),if_pos (show (0:Int)≤(i:Int) by omega),wrap_succ hi (by omega)]
      unfold rsJ
      cases rin (rd l (i:Int)) 0 ((n:Int)-1) with
      |false=>simp only [Bool.false_eq_true,if_false,Bool.false_and]
      |true=>
        simp only [if_true,Bool.true_and]
        by_cases z:i=0
        · subst z
          rw [if_neg (by omega),decide_eq_true rfl,Bool.true_or,if_pos rfl]
        · rw [if_pos (show (i:Int)>0 by omega),wrap_pred (i:=i) (n:=l.length) hi (by omega) (by omega),if_pos (by omega),if_pos (by omega),decide_eq_false z,Bool.false_or]
          by_cases c:rd l (i:Int)≤rd l ((i-1:Nat):Int)
          · rw [if_pos c,decide_eq_false (by omega),if_neg (by decide)]
          · rw [if_neg c,decide_eq_true (by omega),if_pos rfl])
    (Evt.all fun k=>by
      simp only [spec_l01Rises.l0]
      rw [if_neg (by omega)]) l.length 0 (by omega)
  unfold spec_l01Rises.f
  refine h.eq ?_
  unfold rsB
  cases allD (rsJ l (n:Int)) 0 l.length<;>rfl
theorem impl_asked_loop (T:List S91) (S:List S69) (C X Y:List Int) (g:Int) (l:List Int) (hl:l.length≤1000000) (hn:S.length≤1000000):Ev (fun k=>impl_fieldAsked.l0 k l l (l.length:Int) 0 T S C X Y g) (if rsB l (S.length:Int)=true then (0:Int) else 2):=by
  have h:=Ev.allLoop (l:=fun k i=>impl_fieldAsked.l0 k l l (l.length:Int) i T S C X Y g) (n:=l.length) (rsJ l (S.length:Int)) (2:Int) 0
    (fun i hi=>Evt.all fun k=>by
      simp only [impl_fieldAsked.l0,impl_isIndex.f,within_eq,Option.bind_some,wrap_id (x:=(S.length:Int)-1) (by omega) (by omega)]
      rw [if_pos (show (i:Int)<(l.length:Int) by omega),if_pos (show (0:Int)≤(i:Int) by omega),if_pos (show (i:Int)<(l.length:Int) by omega),wrap_succ hi (by omega)]
      unfold rsJ
      cases rin (rd l (i:Int)) 0 ((S.length:Int)-1) with
      |false=>simp only [Bool.false_eq_true,if_false,Bool.false_and]
      |true=>
        simp only [if_true,Bool.true_and]
        by_cases z:i=0
        · subst z
          rw [if_neg (by omega),decide_eq_true rfl,Bool.true_or,if_pos rfl]
        · rw [if_pos (show (i:Int)>0 by omega),wrap_pred (i:=i) (n:=l.length) hi (by omega) (by omega),if_pos (by omega),if_pos (by omega),decide_eq_false z,Bool.false_or]
          by_cases c:rd l ((i-1:Nat):Int)≥rd l (i:Int)
          · rw [if_pos c,decide_eq_false (by omega),if_neg (by decide)]
          · rw [if_neg c,decide_eq_true (by omega),if_pos rfl])
    (Evt.all fun k=>by
      simp only [impl_fieldAsked.l0]
      rw [if_neg (by omega)]) l.length 0 (by omega)
  exact h
def askC (T:List S91) (S:List S69) (C X Y:List Int) (g:Int) (l:List Int):Int:=
  if fldOk T S C X Y g=true then (if (S.length:Int)>6 then 3 else (if rsB l (S.length:Int)=true then 0 else 2)) else 1
theorem spec_ask_ev (T:List S91) (S:List S69) (C X Y:List Int) (g:Int) (l:List Int) (h1:T.length≤1000000) (h2:S.length≤1000000) (h3:C.length≤1000000) (h4:X.length≤1000000) (h5:Y.length≤1000000) (hl:l.length≤1000000):
    Ev (fun k=>spec_l19Code.f k T S C X Y g l) (askC T S C X Y g l):=by
  unfold spec_l19Code.f askC
  refine Ev.bind (spec_IsField_ev T S C X Y g h1 h2 h3 h4 h5) ?_
  cases fldOk T S C X Y g with
  |false=>simp only [Bool.false_eq_true,if_false];exact Ev.now _
  |true=>
    simp only [if_true]
    by_cases c:(S.length:Int)>6
    · simp only [if_pos c];exact Ev.now _
    · simp only [if_neg c]
      refine Ev.bind (spec_rises_ev l S.length hl h2) ?_
      cases rsB l (S.length:Int) with
      |false=>simp only [Bool.false_eq_true,if_false];exact Ev.now _
      |true=>simp only [if_true];exact Ev.now _
theorem impl_ask_ev (T:List S91) (S:List S69) (C X Y:List Int) (g:Int) (l:List Int) (h1:T.length≤1000000) (h2:S.length≤1000000) (h3:C.length≤1000000) (h4:X.length≤1000000) (h5:Y.length≤1000000) (hl:l.length≤1000000):
    Ev (fun k=>impl_fieldAsked.f k T S C X Y g l) (askC T S C X Y g l):=by
  unfold impl_fieldAsked.f askC
  refine Ev.bind (impl_IsField_ev T S C X Y g h1 h2 h3 h4 h5) ?_
  cases fldOk T S C X Y g with
  |false=>simp only [Bool.false_eq_true,if_false];exact Ev.now _
  |true=>
    simp only [if_true]
    by_cases c:(S.length:Int)>6
    · simp only [if_pos c];exact Ev.now _
    · simp only [if_neg c]
      exact impl_asked_loop T S C X Y g l hl h2
def clB (T:List S91) (S:List S69) (C X Y:List Int) (g:Int) (l:List Int):Bool:=neB (plD T (wo S l) C X Y g C.length [])
theorem neB_dec (l:List (List Int)):decide ((l.length:Int)>0)=neB l:=by cases l<;>simp [neB]
theorem inX_nil (X:List Int):inX X []:=fun j hj=>absurd hj (by simp)
theorem askC_ok {T:List S91} {S:List S69} {C X Y:List Int} {g:Int} {l:List Int} (h:askC T S C X Y g l=0):fldOk T S C X Y g=true∧S.length≤6∧rsB l (S.length:Int)=true:=by
  unfold askC at h
  split at h
  · rename_i h1
    split at h
    · exact absurd h (by decide)
    · rename_i h2
      split at h
      · rename_i h3;exact⟨h1,by omega,h3⟩
      · exact absurd h (by decide)
  · exact absurd h (by decide)
theorem impl_cl_ev (T:List S91) (S:List S69) (C X Y:List Int) (g:Int) (l:List Int) (ok:fldOk T S C X Y g=true) (hl:l.length≤1000000):Ev (fun k=>impl_isClosure.f k T S C X Y g l) (clB T S C X Y g l):=by
  obtain⟨h1,h2,l3,l4,e⟩:=fldOk_len ok
  obtain⟨hX,hY⟩:=fldOk_xy ok
  have hw:=wo_len S l
  unfold impl_isClosure.f
  refine Ev.bind (impl_wo_ev T S C X Y g l (by omega) (by omega) (by omega) (by omega) (by omega) hl) ?_
  refine Ev.bind (hasPlacing_ev T (wo S l) C X Y g (by omega) (by omega) l3 l4 hX hY e C.length [] (by simp) (inX_nil X)) ?_
  exact Ev.now _
theorem spec_cl_ev (T:List S91) (S:List S69) (C X Y:List Int) (g:Int) (l:List Int) (ok:fldOk T S C X Y g=true) (hl:l.length≤1000000):Ev (fun k=>spec_l19Is.f k T S C X Y g l) (clB T S C X Y g l):=by
  obtain⟨h1,h2,l3,l4,e⟩:=fldOk_len ok
  have hw:=wo_len S l
  unfold spec_l19Is.f
  refine Ev.bind (spec_wo_ev T S C X Y g l (by omega) (by omega) (by omega) (by omega) (by omega) hl) ?_
  unfold spec_l18Placings.f
  refine Ev.bind (Ev.bind (spec_spots_ev T (wo S l) C X Y g (by omega) (by omega) (by omega) (by omega) e) (Ev.bind (spec_all_ev T (wo S l) C X Y g l3 l4 e C.length [] (by simp) (inX_nil X)) (Ev.now _))) ?_
  exact Ev.eq (Ev.now _) (by rw [neB_dec];rfl)
def cmb (n:Nat):Nat→Nat→List (List Int)
  |0,_=>[[]]
  |s+1,i=>plA (fun m=>(cmb n s (m+1)).map ((m:Int)::·)) (n-i) i []
theorem cmb_len (n:Nat) (hn:n≤6):∀s i,(cmb n s i).length≤6 ^ s
  |0,_=>by simp [cmb]
  |s+1,i=>by
    simp only [cmb]
    refine Nat.le_trans (plA_len _ (6 ^ s) (fun m=>?_) (n-i) i []) ?_
    · rw [List.length_map];exact cmb_len n hn s (m+1)
    · rw [List.length_nil,Nat.zero_add,Nat.pow_succ,Nat.mul_comm (6 ^ s) 6]
      exact Nat.mul_le_mul_right _ (by omega)
theorem cmb_mem (n:Nat):∀s i x,x∈cmb n s i→x.length=s∧x.Nodup∧∀v∈x,(i:Int)≤v∧v<(n:Int):=by
  intro s
  induction s with
  |zero=>intro i x hx;simp only [cmb,List.mem_singleton] at hx;subst hx;exact⟨rfl,List.nodup_nil,fun v hv=>absurd hv (by simp)⟩
  |succ s ih=>
    intro i x hx
    simp only [cmb] at hx
    rw [plA_eq,List.nil_append,List.mem_flatMap] at hx
    obtain⟨m,hm,hx⟩:=hx
    rw [List.mem_map] at hx
    obtain⟨q,hq,rfl⟩:=hx
    rw [List.mem_range'_1] at hm
    obtain⟨h1,h2,h3⟩:=ih (m+1) q hq
    refine⟨by rw [List.length_cons,h1],List.nodup_cons.2 ⟨fun hmem=>?_,h2⟩,fun v hv=>?_⟩
    · have:=(h3 _ hmem).1
      omega
    · rcases List.mem_cons.1 hv with rfl|hv
      · omega
      · have:=h3 v hv
        omega
theorem pow6_le {s:Nat} (h:s≤6):6 ^ s≤46656:=Nat.le_trans (Nat.pow_le_pow_right (by decide) h) (by decide)
theorem listsOf_row (n s1 m:Nat) (t:List (List Int)) (ht:∀x∈t,x.length≤1000) (htl:t.length≤1000000) (hm:m<1000) (R:List (List Int)):
    ∀e j (a:List (List Int)),j+e=t.length→a.length+e≤1000000→Ev (fun k=>impl_listsOf.l0 k (n:Int) (s1:Int) (a++(t.drop j).map ((m:Int)::·)) ((m+1:Nat):Int)) R→Ev (fun k=>impl_listsOf.l1 k (n:Int) (s1:Int) a (m:Int) t (t.length:Int) (j:Int)) R:=by
  intro e
  induction e with
  |zero=>
    intro j a hj ha h
    refine Ev.dn ?_
    simp only [impl_listsOf.l1,if_neg (show ¬(j:Int)<(t.length:Int) by omega),wrap_succ (show m<1000 by omega) (by omega)]
    rw [List.drop_of_length_le (by omega),List.map_nil,List.append_nil] at h
    exact h
  |succ e ih=>
    intro j a hj ha h
    have hjt:j<t.length:=by clear ih;omega
    have hr:rd_L4 t (j:Int)=t[j]:=by simp [rd_L4,hjt]
    have hw:=wrap_succ hjt (show t.length≤9223372036854775807 by clear ih;omega)
    have hrl:=ht t[j] (List.getElem_mem hjt)
    refine Ev.dn ?_
    simp only [impl_listsOf.l1,if_pos (show (j:Int)<(t.length:Int) by clear ih;omega),if_pos (show (0:Int)≤(j:Int) by clear ih;omega),Option.bind_some,hr,List.length_singleton,if_pos (show 1+(t[j]).length<17592186044416 by clear ih;omega),if_pos (show a.length<5864062014805 by clear ih;omega),hw]
    refine ih (j+1) _ (by clear ih;omega) (by clear ih;rw [List.length_append,List.length_singleton];omega) ?_
    rw [List.drop_eq_getElem_cons hjt,List.map_cons] at h
    rw [List.append_assoc]
    exact h
theorem impl_lists_ev (n:Nat) (hn:n≤6):∀s i:Nat,s≤6→i≤n→Ev (fun k=>impl_listsOf.f k (n:Int) (i:Int) (s:Int)) (cmb n s i):=by
  intro s
  induction s with
  |zero=>
    intro i _ _
    refine Ev.dn ?_
    simp only [impl_listsOf.f,cmb,if_pos (show ((0:Nat):Int)=0 by rfl)]
    exact Ev.now _
  |succ s ih=>
    intro i hs hi
    have hK:=pow6_le (s:=s) (by clear ih;omega)
    have hL:=cmb_len n hn s
    have ws:wrap64 (((s+1:Nat):Int)-1)=(s:Int):=by clear ih hL hK;unfold wrap64;omega
    have loop:∀d m (a:List (List Int)),m+d=n→a.length+d*46656≤1000000→Ev (fun k=>impl_listsOf.l0 k (n:Int) ((s+1:Nat):Int) a (m:Int)) (plA (fun m=>(cmb n s (m+1)).map ((m:Int)::·)) d m a):=by
      intro d
      induction d with
      |zero=>
        intro m a hm ha
        refine Ev.dn ?_
        simp only [impl_listsOf.l0,plA,if_neg (show ¬(m:Int)<(n:Int) by clear ih;omega)]
        exact Ev.now _
      |succ d ihd=>
        intro m a hm ha
        have hm1:m<n:=by clear ih ihd;omega
        have hw:=wrap_succ hm1 (show n≤9223372036854775807 by clear ih ihd;omega)
        have hl:=hL (m+1)
        refine Ev.dn ?_
        simp only [impl_listsOf.l0,plA,if_pos (show (m:Int)<(n:Int) by clear ih ihd;omega),hw,ws]
        refine Ev.bind (ih (m+1) (by clear ih ihd;omega) (by clear ih ihd;omega)) ?_
        refine listsOf_row n (s+1) m (cmb n s (m+1)) (fun x hx=>by rw [(cmb_mem n s (m+1) x hx).1];clear ih ihd;omega) (by clear ih ihd;omega) (by clear ih ihd;omega) _ (cmb n s (m+1)).length 0 a (by omega) (by clear ih ihd;omega) ?_
        rw [List.drop_zero]
        exact ihd (m+1) _ (by clear ih ihd;omega) (by clear ih ihd;rw [List.length_append,List.length_map];omega)
    refine Ev.dn ?_
    simp only [impl_listsOf.f,cmb,if_neg (show ¬((s+1:Nat):Int)=0 by clear ih;omega)]
    exact loop (n-i) i [] (by clear ih;omega) (by clear ih;rw [List.length_nil];omega)
theorem plA_map (F:Nat→List (List Int)) (G:List Int→List Int):∀d m a,plA (fun m=>(F m).map G) d m (a.map G)=(plA F d m a).map G
  |0,_,_=>rfl
  |d+1,m,a=>by
    simp only [plA]
    rw [←List.map_append]
    exact plA_map F G d (m+1) _
theorem spec_lists_ev (n:Nat) (hn:n≤6):∀(s i:Nat) (q:List Int),s≤6→i≤n→q.length+s≤1000→Ev (fun k=>spec_l19Lists.f k (n:Int) (i:Int) (s:Int) q) ((cmb n s i).map (q++·)):=by
  intro s
  induction s with
  |zero=>
    intro i q _ _ _
    refine Ev.dn ?_
    simp only [spec_l19Lists.f,cmb,if_pos (show ((0:Nat):Int)=0 by rfl)]
    exact Ev.eq (Ev.now _) (by simp)
  |succ s ih=>
    intro i q hs hi hq
    have hK:=pow6_le (s:=s) (by clear ih;omega)
    have hL:=cmb_len n hn s
    have ws:wrap64 (((s+1:Nat):Int)-1)=(s:Int):=by clear ih hL hK;unfold wrap64;omega
    have loop:∀d m (a:List (List Int)),m+d=n→a.length+d*46656≤1000000→Ev (fun k=>spec_l19Lists.l0 k (n:Int) ((s+1:Nat):Int) q a (m:Int)) (plA (fun m=>(cmb n s (m+1)).map (fun x=>q++((m:Int)::x))) d m a):=by
      intro d
      induction d with
      |zero=>
        intro m a hm ha
        refine Ev.dn ?_
        simp only [spec_l19Lists.l0,plA,if_neg (show ¬(m:Int)<(n:Int) by clear ih;omega)]
        exact Ev.now _
      |succ d ihd=>
        intro m a hm ha
        have hm1:m<n:=by clear ih ihd;omega
        have hw:=wrap_succ hm1 (show n≤9223372036854775807 by clear ih ihd;omega)
        have hl:=hL (m+1)
        have e:(cmb n s (m+1)).map (q++[(m:Int)]++·)=(cmb n s (m+1)).map (fun x=>q++((m:Int)::x)):=by
          congr 1;funext x;rw [List.append_assoc];rfl
        refine Ev.dn ?_
        simp only [spec_l19Lists.l0,plA,if_pos (show (m:Int)<(n:Int) by clear ih ihd;omega),own_some q (by clear ih ihd;omega),Option.bind_some,if_pos (show q.length<17592186044416 by clear ih ihd;omega),hw,ws]
        refine Ev.bind (ih (m+1) (q++[(m:Int)]) (by clear ih ihd;omega) (by clear ih ihd;omega) (by clear ih ihd;rw [List.length_append,List.length_singleton];omega)) ?_
        rw [e]
        have hl2:((cmb n s (m+1)).map (fun x=>q++((m:Int)::x))).length≤46656:=by clear ih ihd;rw [List.length_map];omega
        generalize (cmb n s (m+1)).map (fun x=>q++((m:Int)::x))=u at hl2
        simp only [if_pos (show a.length+u.length<5864062014805 by clear ih ihd;omega)]
        exact ihd (m+1) _ (by clear ih ihd;omega) (by clear ih ihd;rw [List.length_append];omega)
    refine Ev.dn ?_
    simp only [spec_l19Lists.f,cmb,if_neg (show ¬((s+1:Nat):Int)=0 by clear ih;omega)]
    refine Ev.eq (loop (n-i) i [] (by clear ih;omega) (by clear ih;rw [List.length_nil];omega)) ?_
    rw [←plA_map]
    simp only [List.map_map,List.map_nil]
    rfl
def clsOf (T:List S91) (S:List S69) (C X Y:List Int) (g:Int):List (List Int):=plA (fun s=>(cmb S.length s 0).filter (clB T S C X Y g)) (S.length+1) 0 []
theorem clsOf_len (T:List S91) (S:List S69) (C X Y:List Int) (g:Int) (hn:S.length≤6):∀d i a,i+d≤7→(plA (fun s=>(cmb S.length s 0).filter (clB T S C X Y g)) d i a).length≤a.length+d*46656
  |0,_,a,_=>by simp [plA]
  |d+1,i,a,hi=>by
    simp only [plA]
    refine Nat.le_trans (clsOf_len T S C X Y g hn d (i+1) _ (by omega)) ?_
    have h1:=List.length_filter_le (clB T S C X Y g) (cmb S.length i 0)
    have h2:=cmb_len S.length hn i 0
    have h3:=pow6_le (s:=i) (by omega)
    rw [List.length_append]
    omega
theorem clsOf_mem (T:List S91) (S:List S69) (C X Y:List Int) (g:Int) (x:List Int) (hx:x∈clsOf T S C X Y g):x.length≤S.length∧x.Nodup∧∀v∈x,0≤v∧v<(S.length:Int):=by
  unfold clsOf at hx
  rw [plA_eq,List.nil_append,List.mem_flatMap] at hx
  obtain⟨s,hs,hx⟩:=hx
  rw [List.mem_range'_1] at hs
  obtain⟨h1,h2,h3⟩:=cmb_mem S.length s 0 x (List.mem_filter.1 hx).1
  exact⟨by omega,h2,fun v hv=>by have:=h3 v hv;omega⟩
theorem impl_cls_in (T:List S91) (S:List S69) (C X Y:List Int) (g:Int) (ok:fldOk T S C X Y g=true) (i:Nat) (t:List (List Int)) (ht:∀x∈t,x.length≤1000) (htl:t.length≤1000000) (hi:i≤1000) (R:List (List Int)):
    ∀e j (a:List (List Int)),j+e=t.length→a.length+e≤1000000→Ev (fun k=>impl_closures.l0 k (a++(t.drop j).filter (clB T S C X Y g)) ((i+1:Nat):Int) T S C X Y g) R→Ev (fun k=>impl_closures.l1 k a (i:Int) t (t.length:Int) (j:Int) T S C X Y g) R:=by
  intro e
  induction e with
  |zero=>
    intro j a hj ha h
    refine Ev.dn ?_
    simp only [impl_closures.l1,if_neg (show ¬(j:Int)<(t.length:Int) by omega),wrap_succ (show i<1001 by omega) (by omega)]
    rw [List.drop_of_length_le (by omega),List.filter_nil,List.append_nil] at h
    exact h
  |succ e ih=>
    intro j a hj ha h
    have hjt:j<t.length:=by clear ih;omega
    have hr:rd_L4 t (j:Int)=t[j]:=by simp [rd_L4,hjt]
    have hw:=wrap_succ hjt (show t.length≤9223372036854775807 by clear ih;omega)
    have hrl:=ht t[j] (List.getElem_mem hjt)
    refine Ev.dn ?_
    simp only [impl_closures.l1,if_pos (show (j:Int)<(t.length:Int) by clear ih;omega),if_pos (show (0:Int)≤(j:Int) by clear ih;omega),hr,hw]
    refine Ev.bind (impl_cl_ev T S C X Y g t[j] ok (by clear ih;omega)) ?_
    rw [List.drop_eq_getElem_cons hjt] at h
    by_cases c:clB T S C X Y g t[j]=true
    · rw [List.filter_cons_of_pos c] at h
      simp only [if_pos c,if_pos (show a.length<5864062014805 by clear ih;omega)]
      refine ih (j+1) _ (by clear ih;omega) (by clear ih;rw [List.length_append,List.length_singleton];omega) ?_
      rw [List.append_assoc]
      exact h
    · rw [List.filter_cons_of_neg c] at h
      simp only [if_neg c]
      exact ih (j+1) _ (by clear ih;omega) (by clear ih;omega) h
theorem impl_cls_ev (T:List S91) (S:List S69) (C X Y:List Int) (g:Int) (ok:fldOk T S C X Y g=true) (hn:S.length≤6):Ev (fun k=>impl_closures.f k T S C X Y g) (clsOf T S C X Y g):=by
  have loop:∀d i (a:List (List Int)),i+d=S.length+1→a.length+d*46656≤1000000→Ev (fun k=>impl_closures.l0 k a (i:Int) T S C X Y g) (plA (fun s=>(cmb S.length s 0).filter (clB T S C X Y g)) d i a):=by
    intro d
    induction d with
    |zero=>
      intro i a hi ha
      refine Ev.dn ?_
      simp only [impl_closures.l0,plA,if_neg (show ¬(i:Int)≤(S.length:Int) by omega)]
      exact Ev.now _
    |succ d ih=>
      intro i a hi ha
      have h2:=cmb_len S.length hn i 0
      have h3:=pow6_le (s:=i) (by clear ih;omega)
      have h4:=List.length_filter_le (clB T S C X Y g) (cmb S.length i 0)
      refine Ev.dn ?_
      simp only [impl_closures.l0,plA,if_pos (show (i:Int)≤(S.length:Int) by clear ih;omega)]
      refine Ev.bind (impl_lists_ev S.length hn i 0 (by clear ih;omega) (by omega)) ?_
      refine impl_cls_in T S C X Y g ok i _ (fun x hx=>by rw [(cmb_mem S.length i 0 x hx).1];clear ih;omega) (by clear ih;omega) (by clear ih;omega) _ (cmb S.length i 0).length 0 a (by omega) (by clear ih;omega) ?_
      rw [List.drop_zero]
      exact ih (i+1) _ (by clear ih;omega) (by clear ih;rw [List.length_append];omega)
  unfold impl_closures.f
  exact loop (S.length+1) 0 [] (by omega) (by rw [List.length_nil];omega)
theorem spec_cls_in (T:List S91) (S:List S69) (C X Y:List Int) (g:Int) (ok:fldOk T S C X Y g=true) (i:Nat) (t:List (List Int)) (ht:∀x∈t,x.length≤1000) (htl:t.length≤1000000) (hi:i≤1000) (R:List (List Int)):
    ∀e j (a:List (List Int)),j+e=t.length→a.length+e≤1000000→Ev (fun k=>spec_l19All.l0 k (S.length:Int) (a++(t.drop j).filter (clB T S C X Y g)) ((i+1:Nat):Int) T S C X Y g) R→Ev (fun k=>spec_l19All.l1 k (S.length:Int) a (i:Int) t (j:Int) T S C X Y g) R:=by
  intro e
  induction e with
  |zero=>
    intro j a hj ha h
    refine Ev.dn ?_
    simp only [spec_l19All.l1,if_neg (show ¬(j:Int)<(t.length:Int) by omega),wrap_succ (show i<1001 by omega) (by omega)]
    rw [List.drop_of_length_le (by omega),List.filter_nil,List.append_nil] at h
    exact h
  |succ e ih=>
    intro j a hj ha h
    have hjt:j<t.length:=by clear ih;omega
    have hr:rd_L4 t (j:Int)=t[j]:=by simp [rd_L4,hjt]
    have hw:=wrap_succ hjt (show t.length≤9223372036854775807 by clear ih;omega)
    have hrl:=ht t[j] (List.getElem_mem hjt)
    refine Ev.dn ?_
    simp only [spec_l19All.l1,if_pos (show (j:Int)<(t.length:Int) by clear ih;omega),if_pos (show (0:Int)≤(j:Int) by clear ih;omega),hr,hw]
    refine Ev.bind (spec_cl_ev T S C X Y g t[j] ok (by clear ih;omega)) ?_
    rw [List.drop_eq_getElem_cons hjt] at h
    by_cases c:clB T S C X Y g t[j]=true
    · rw [List.filter_cons_of_pos c] at h
      simp only [if_pos c,if_pos (show a.length<5864062014805 by clear ih;omega)]
      refine ih (j+1) _ (by clear ih;omega) (by clear ih;rw [List.length_append,List.length_singleton];omega) ?_
      rw [List.append_assoc]
      exact h
    · rw [List.filter_cons_of_neg c] at h
      simp only [if_neg c]
      exact ih (j+1) _ (by clear ih;omega) (by clear ih;omega) h
theorem spec_cls_ev (T:List S91) (S:List S69) (C X Y:List Int) (g:Int) (ok:fldOk T S C X Y g=true) (hn:S.length≤6):Ev (fun k=>spec_l19All.f k T S C X Y g) (clsOf T S C X Y g):=by
  have loop:∀d i (a:List (List Int)),i+d=S.length+1→a.length+d*46656≤1000000→Ev (fun k=>spec_l19All.l0 k (S.length:Int) a (i:Int) T S C X Y g) (plA (fun s=>(cmb S.length s 0).filter (clB T S C X Y g)) d i a):=by
    intro d
    induction d with
    |zero=>
      intro i a hi ha
      refine Ev.dn ?_
      simp only [spec_l19All.l0,plA,if_neg (show ¬(i:Int)≤(S.length:Int) by omega)]
      exact Ev.now _
    |succ d ih=>
      intro i a hi ha
      have h2:=cmb_len S.length hn i 0
      have h3:=pow6_le (s:=i) (by clear ih;omega)
      have h4:=List.length_filter_le (clB T S C X Y g) (cmb S.length i 0)
      have hsp:Ev (fun k=>spec_l19Lists.f k (S.length:Int) 0 (i:Int) []) (cmb S.length i 0):=Ev.eq (spec_lists_ev S.length hn i 0 [] (by clear ih;omega) (by omega) (by clear ih;rw [List.length_nil];omega)) (by simp)
      refine Ev.dn ?_
      simp only [spec_l19All.l0,plA,if_pos (show (i:Int)≤(S.length:Int) by clear ih;omega)]
      refine Ev.bind hsp ?_
      refine spec_cls_in T S C X Y g ok i _ (fun x hx=>by rw [(cmb_mem S.length i 0 x hx).1];clear ih;omega) (by clear ih;omega) (by clear ih;omega) _ (cmb S.length i 0).length 0 a (by omega) (by clear ih;omega) ?_
      rw [List.drop_zero]
      exact ih (i+1) _ (by clear ih;omega) (by clear ih;rw [List.length_append];omega)
  unfold spec_l19All.f
  exact loop (S.length+1) 0 [] (by omega) (by rw [List.length_nil];omega)
theorem agD_nil (T:List S91) (S:List S69) (c x y:Int):∀d i xs,(agD T S c x y d i xs).length=0↔xs.length=0∧∀j:Nat,i≤j→j<i+d→agB T c x y (rd_T69 S (j:Int))=false
  |0,i,xs=>⟨fun h=>⟨h,fun j h1 h2=>by omega⟩,fun h=>h.1⟩
  |d+1,i,xs=>by
    simp only [agD]
    rw [agD_nil T S c x y d (i+1) _]
    cases q:agB T c x y (rd_T69 S (i:Int)) with
    |true=>
      simp only [if_true,List.length_append,List.length_singleton]
      exact⟨fun h=>by omega,fun h=>by have:=h.2 i (Nat.le_refl _) (by omega);rw [q] at this;exact absurd this (by decide)⟩
    |false=>
      simp only [Bool.false_eq_true,if_false]
      refine⟨fun h=>⟨h.1,fun j h1 h2=>?_⟩,fun h=>⟨h.1,fun j h1 h2=>h.2 j (by omega) (by omega)⟩⟩
      by_cases e:j=i
      · subst e;exact q
      · exact h.2 j (by omega) (by omega)
theorem alw_iff (T:List S91) (S:List S69) (c x y:Int):alw T S c x y=true↔∀a∈S,agB T c x y a=false:=by
  have h0:alw T S c x y=true↔(agD T S c x y S.length 0 []).length=0:=by
    unfold alw ags
    rw [beq_iff_eq]
    omega
  rw [h0,agD_nil]
  constructor
  · rintro⟨_,h⟩ a ha
    obtain⟨j,hj,rfl⟩:=List.getElem_of_mem ha
    have:=h j (Nat.zero_le _) (by omega)
    rwa [show rd_T69 S (j:Int)=S[j] by simp [rd_T69,hj]] at this
  · intro h
    refine⟨rfl,fun j _ hj=>?_⟩
    have hj':j<S.length:=by omega
    rw [show rd_T69 S (j:Int)=S[j] by simp [rd_T69,hj']]
    exact h _ (List.getElem_mem hj')
theorem pl_sub (T:List S91) {S S':List S69} (C X Y:List Int) (g:Int) (h:∀a∈S',a∈S):∀d p x,x∈plD T S C X Y g d p→x∈plD T S' C X Y g d p
  |0,p,x,hx=>hx
  |d+1,p,x,hx=>by
    obtain⟨n,hn,hf,hx⟩:=(mem_plD T S C X Y g d p x).1 hx
    refine(mem_plD T S' C X Y g d p x).2 ⟨n,hn,?_,pl_sub T C X Y g h d _ x hx⟩
    unfold frB at hf ⊢
    rw [Bool.and_eq_true] at hf ⊢
    exact⟨(alw_iff T S' _ _ _).2 fun a ha=>(alw_iff T S _ _ _).1 hf.1 a (h a ha),hf.2⟩
theorem hsB_mem (l:List Int) (v:Int):hsB l v=true↔v∈l:=by
  unfold hsB
  rw [Bool.not_eq_true',←Bool.not_eq_true,allD_iff]
  constructor
  · intro h
    apply Classical.byContradiction
    intro hv
    refine h fun j _ hj=>decide_eq_true fun e=>hv ?_
    have hj':j<l.length:=by omega
    rw [←e,rd_nat hj']
    exact List.getElem_mem hj'
  · intro hv h
    obtain⟨j,hj,rfl⟩:=List.getElem_of_mem hv
    have:=of_decide_eq_true (h j (Nat.zero_le _) (by omega))
    rw [rd_nat hj] at this
    exact this rfl
theorem woD_iff (S:List S69) (l:List Int):∀d i xs a,a∈woD S l d i xs↔a∈xs∨∃j:Nat,i≤j∧j<i+d∧¬(j:Int)∈l∧a=rd_T69 S (j:Int)
  |0,i,xs,a=>⟨.inl,fun h=>h.elim id fun ⟨j,h1,h2,_⟩=>by omega⟩
  |d+1,i,xs,a=>by
    simp only [woD]
    rw [woD_iff S l d (i+1) _ a]
    by_cases q:hsB l (i:Int)=true
    · rw [if_pos q]
      have qi:=(hsB_mem l (i:Int)).1 q
      refine⟨fun h=>h.imp id fun ⟨j,h1,h2,h3⟩=>⟨j,by omega,by omega,h3⟩,fun h=>h.imp id fun ⟨j,h1,h2,h3⟩=>⟨j,?_,by omega,h3⟩⟩
      by_cases e:j=i
      · subst e;exact absurd qi h3.1
      · omega
    · rw [if_neg q]
      have qi:¬(i:Int)∈l:=fun h=>q ((hsB_mem l (i:Int)).2 h)
      constructor
      · rintro(h|⟨j,h1,h2,h3⟩)
        · rcases List.mem_append.1 h with h|h
          · exact .inl h
          · exact .inr ⟨i,Nat.le_refl _,by omega,qi,List.mem_singleton.1 h⟩
        · exact .inr ⟨j,by omega,by omega,h3⟩
      · rintro(h|⟨j,h1,h2,h3⟩)
        · exact .inl (List.mem_append_left _ h)
        · by_cases e:j=i
          · subst e
            exact .inl (List.mem_append_right _ (by rw [h3.2];exact List.mem_singleton.2 rfl))
          · exact .inr ⟨j,by omega,by omega,h3⟩
theorem wo_iff (S:List S69) (l:List Int) (a:S69):a∈wo S l↔∃j:Nat,j<S.length∧¬(j:Int)∈l∧a=rd_T69 S (j:Int):=by
  unfold wo
  rw [woD_iff]
  refine⟨fun h=>h.elim (fun h=>absurd h (by simp)) fun ⟨j,_,h2,h3⟩=>⟨j,by omega,h3⟩,fun ⟨j,h2,h3⟩=>.inr ⟨j,Nat.zero_le _,by omega,h3⟩⟩
theorem ne_sub (T:List S91) {S S':List S69} (C X Y:List Int) (g:Int) (h:∀a∈S',a∈S) (hc:neB (plD T S C X Y g C.length [])=true):neB (plD T S' C X Y g C.length [])=true:=by
  rw [neB_iff] at hc ⊢
  obtain⟨x,hx⟩:=List.exists_mem_of_ne_nil _ hc
  exact List.ne_nil_of_mem (pl_sub T C X Y g h C.length [] x hx)
theorem cl_mono {T:List S91} {S:List S69} {C X Y:List Int} {g:Int} {l l':List Int} (h:∀v∈l,v∈l') (hc:clB T S C X Y g l=true):clB T S C X Y g l'=true:=by
  unfold clB at hc ⊢
  refine ne_sub T C X Y g (fun a ha=>?_) hc
  obtain⟨j,h1,h2,h3⟩:=(wo_iff S l' a).1 ha
  exact(wo_iff S l a).2 ⟨j,h1,fun q=>h2 (h _ q),h3⟩
theorem woD_cnt_nil (S:List S69):∀d i xs,(woD S [] d i xs).length=xs.length+d
  |0,_,_=>rfl
  |d+1,i,xs=>by
    simp only [woD]
    rw [if_neg (by rw [hsB_mem];simp),woD_cnt_nil S d (i+1) _,List.length_append,List.length_singleton]
    omega
theorem woD_cnt (S:List S69):∀(d i:Nat) (l:List Int) (xs:List S69),l.Pairwise (·<·)→(∀v∈l,(i:Int)≤v∧v<((i+d:Nat):Int))→(woD S l d i xs).length+l.length=xs.length+d
  |0,i,l,xs,_,h=>by
    cases l with
    |nil=>simp [woD]
    |cons v l=>have:=h v (List.mem_cons_self ..);omega
  |d+1,i,l,xs,hp,h=>by
    have key:∀(l l':List Int) (xs:List S69),(∀j:Nat,i+1≤j→((j:Int)∈l↔(j:Int)∈l'))→woD S l d (i+1) xs=woD S l' d (i+1) xs:=by
      intro l l' xs hh
      have:∀d' j xs,i+1≤j→woD S l d' j xs=woD S l' d' j xs:=by
        intro d'
        induction d' with
        |zero=>intro j xs _;rfl
        |succ d' ih=>
          intro j xs hj
          simp only [woD]
          have hb:hsB l (j:Int)=hsB l' (j:Int):=by rw [Bool.eq_iff_iff,hsB_mem,hsB_mem];exact hh j hj
          rw [hb]
          exact ih (j+1) _ (by omega)
      exact this d (i+1) xs (Nat.le_refl _)
    simp only [woD]
    cases l with
    |nil=>
      rw [if_neg (by rw [hsB_mem];simp),woD_cnt_nil S d (i+1) _]
      simp
      omega
    |cons v l=>
      obtain⟨v0,v1⟩:=h v (List.mem_cons_self ..)
      obtain⟨hv,hp'⟩:=List.pairwise_cons.1 hp
      by_cases e:v=(i:Int)
      · subst e
        rw [if_pos ((hsB_mem _ _).2 (List.mem_cons_self ..)),key ((i:Int)::l) l xs (fun j hj=>by rw [List.mem_cons];exact⟨fun h=>h.resolve_left (by omega),.inr⟩)]
        have:=woD_cnt S d (i+1) l xs hp' (fun u hu=>by have:=hv u hu;have:=h u (List.mem_cons_of_mem _ hu);omega)
        rw [List.length_cons]
        omega
      · rw [if_neg (by
          rw [hsB_mem,List.mem_cons]
          rintro(q|q)
          · exact e q.symm
          · have:=hv _ q;omega)]
        have:=woD_cnt S d (i+1) (v::l) (xs++[rd_T69 S (i:Int)]) hp (fun u hu=>by
          rcases List.mem_cons.1 hu with rfl|hu
          · omega
          · have:=hv u hu;have:=h u (List.mem_cons_of_mem _ hu);omega)
        rw [List.length_append,List.length_singleton] at this
        omega
theorem cls_in (T:List S91) (S:List S69) (C X Y:List Int) (g:Int) (s:Nat) (hs:s≤S.length) (x:List Int) (hx:x∈cmb S.length s 0) (hc:clB T S C X Y g x=true):x∈clsOf T S C X Y g:=by
  unfold clsOf
  rw [plA_eq,List.nil_append,List.mem_flatMap]
  exact⟨s,List.mem_range'_1.2 ⟨by omega,by omega⟩,List.mem_filter.2 ⟨hx,hc⟩⟩
def rs (l:List Int) (n:Nat):Prop:=l.Pairwise (·<·)∧∀v∈l,0≤v∧v<(n:Int)
theorem cmb_all (n:Nat):∀(l:List Int) (i:Nat),l.Pairwise (·<·)→(∀v∈l,(i:Int)≤v∧v<(n:Int))→l∈cmb n l.length i
  |[],i,_,_=>List.mem_singleton.2 rfl
  |v::l,i,hp,h=>by
    obtain⟨v0,v1⟩:=h v (List.mem_cons_self ..)
    obtain⟨hv,hp'⟩:=List.pairwise_cons.1 hp
    obtain⟨m,rfl⟩:∃m:Nat,v=(m:Int):=⟨v.toNat,by omega⟩
    simp only [List.length_cons,cmb]
    rw [plA_eq,List.nil_append,List.mem_flatMap]
    refine⟨m,List.mem_range'_1.2 ⟨by omega,by omega⟩,List.mem_map.2 ⟨l,cmb_all n l (m+1) hp' (fun u hu=>?_),rfl⟩⟩
    have:=hv u hu
    have:=(h u (List.mem_cons_of_mem _ hu)).2
    omega
theorem rs_len {l:List Int} {n:Nat} (h:rs l n):l.length≤n:=by
  have:=woD_cnt ([]:List S69) n 0 l [] h.1 (fun v hv=>by have:=h.2 v hv;omega)
  rw [List.length_nil] at this
  omega
theorem cls_all (T:List S91) (S:List S69) (C X Y:List Int) (g:Int) {l:List Int} (h:rs l S.length) (hc:clB T S C X Y g l=true):l∈clsOf T S C X Y g:=
  cls_in T S C X Y g l.length (rs_len h) l (cmb_all S.length l 0 h.1 fun v hv=>by have:=h.2 v hv;omega) hc
def drp (l:List Int) (i:Nat):List Int:=l.take i++l.drop (i+1)
theorem drp_len {l:List Int} {i:Nat} (h:i<l.length):(drp l i).length+1=l.length:=by
  unfold drp
  rw [List.length_append,List.length_take,List.length_drop]
  omega
theorem drp_sub (l:List Int) (i:Nat):(drp l i).Sublist l:=by
  unfold drp
  have h:=List.Sublist.append (List.Sublist.refl (l.take i)) (List.drop_sublist 1 (l.drop i))
  rw [List.drop_drop,List.take_append_drop] at h
  exact h
def mnB (T:List S91) (S:List S69) (C X Y:List Int) (g:Int) (l:List Int):Bool:=allD (fun i=>!clB T S C X Y g (drp l i)) 0 l.length
theorem min_ex (T:List S91) (S:List S69) (C X Y:List Int) (g:Int):∀(n:Nat) (l:List Int),l.length≤n→rs l S.length→clB T S C X Y g l=true→∃m,rs m S.length∧(∀v∈m,v∈l)∧clB T S C X Y g m=true∧mnB T S C X Y g m=true:=by
  intro n
  induction n with
  |zero=>
    intro l hn h hc
    refine⟨l,h,fun v hv=>hv,hc,?_⟩
    rw [List.length_eq_zero_iff.1 (by omega:l.length=0)]
    rfl
  |succ n ih=>
    intro l hn h hc
    cases q:mnB T S C X Y g l with
    |true=>exact⟨l,h,fun v hv=>hv,hc,q⟩
    |false=>
      have:∃i,i<l.length∧clB T S C X Y g (drp l i)=true:=by
        apply Classical.byContradiction
        intro hn
        have:mnB T S C X Y g l=true:=by
          unfold mnB
          rw [allD_iff]
          intro j _ hj
          cases z:clB T S C X Y g (drp l j) with
          |false=>rfl
          |true=>exact absurd ⟨j,by omega,z⟩ hn
        rw [this] at q
        exact absurd q (by decide)
      obtain⟨i,hi,hci⟩:=this
      have hs:=drp_sub l i
      obtain⟨m,h1,h2,h3⟩:=ih (drp l i) (by have:=drp_len hi;omega) ⟨h.1.sublist hs,fun v hv=>h.2 v (hs.subset hv)⟩ hci
      exact⟨m,h1,fun v hv=>hs.subset (h2 v hv),h3⟩
theorem min_ev (T:List S91) (S:List S69) (C X Y:List Int) (g:Int) (ok:fldOk T S C X Y g=true) (l:List Int) (hl:l.length≤1000):∀d i,i+d=l.length→Ev (fun k=>impl_isMinimal.l0 k l (l.length:Int) (i:Int) T S C X Y g) (allD (fun i=>!clB T S C X Y g (drp l i)) i d):=by
  intro d
  induction d with
  |zero=>
    intro i hi
    refine Ev.dn ?_
    simp only [impl_isMinimal.l0,allD,if_neg (show ¬(i:Int)<(l.length:Int) by omega)]
    exact Ev.now _
  |succ d ih=>
    intro i hi
    have h:=ih (i+1) (by omega)
    have hil:i<l.length:=by clear ih;omega
    have hw:=wrap_succ hil (show l.length≤9223372036854775807 by clear ih;omega)
    have hn:((i:Nat):Int).toNat=i:=by clear ih;omega
    have hn2:(((i+1:Nat):Int)).toNat=i+1:=by clear ih;omega
    have hc:=copyList_ev (l.take i) (by clear ih;rw [List.length_take];omega)
    have hk2:(l.take i++l.drop (i+1)).length≤1000000:=by clear ih;rw [List.length_append,List.length_take,List.length_drop];omega
    have hk:(l.take i).length+(l.drop (i+1)).length<17592186044416:=by clear ih;rw [List.length_take,List.length_drop];omega
    refine Ev.dn ?_
    simp only [impl_isMinimal.l0,allD,hw,hn,hn2,if_pos (show (i:Int)<(l.length:Int) by clear ih;omega),if_pos (show (0:Int)≤(i:Int) by clear ih;omega),if_pos (show (i:Int)≤(l.length:Int) by clear ih;omega),if_pos (show (0:Int)≤((i+1:Nat):Int) by clear ih;omega),if_pos (show ((i+1:Nat):Int)≤(l.length:Int) by clear ih;omega)]
    refine Ev.bind hc ?_
    simp only [if_pos hk]
    refine Ev.bind (impl_cl_ev T S C X Y g (l.take i++l.drop (i+1)) ok hk2) ?_
    show Ev (fun k=>if clB T S C X Y g (drp l i)=true then _ else _) _
    cases q:clB T S C X Y g (drp l i) with
    |true=>
      simp only [if_true,Bool.not_true,Bool.false_and]
      exact Ev.now _
    |false=>
      simp only [Bool.false_eq_true,if_false,Bool.not_false,Bool.true_and]
      exact h
theorem mins_ev (T:List S91) (S:List S69) (C X Y:List Int) (g:Int) (ok:fldOk T S C X Y g=true) (t:List (List Int)) (ht:∀x∈t,x.length≤1000) (htl:t.length≤1000000):
    ∀e j (a:List (List Int)),j+e=t.length→a.length≤j→Ev (fun k=>impl_MinimalClosures.l0 k a t (t.length:Int) (j:Int) T S C X Y g) (a++(t.drop j).filter (mnB T S C X Y g),0):=by
  intro e
  induction e with
  |zero=>
    intro j a hj ha
    refine Ev.dn ?_
    simp only [impl_MinimalClosures.l0,if_neg (show ¬(j:Int)<(t.length:Int) by omega)]
    rw [List.drop_of_length_le (by omega),List.filter_nil,List.append_nil]
    exact Ev.now _
  |succ e ih=>
    intro j a hj ha
    have hjt:j<t.length:=by clear ih;omega
    have hr:rd_L4 t (j:Int)=t[j]:=by simp [rd_L4,hjt]
    have hw:=wrap_succ hjt (show t.length≤9223372036854775807 by clear ih;omega)
    have hrl:=ht t[j] (List.getElem_mem hjt)
    have hm:=min_ev T S C X Y g ok t[j] hrl t[j].length 0 (by omega)
    refine Ev.dn ?_
    simp only [impl_MinimalClosures.l0,if_pos (show (j:Int)<(t.length:Int) by clear ih;omega),if_pos (show (0:Int)≤(j:Int) by clear ih;omega),hr,hw]
    unfold impl_isMinimal.f
    refine Ev.bind hm ?_
    show Ev (fun k=>if mnB T S C X Y g t[j]=true then _ else _) _
    rw [List.drop_eq_getElem_cons hjt]
    by_cases c:mnB T S C X Y g t[j]=true
    · rw [List.filter_cons_of_pos c]
      simp only [if_pos c,if_pos (show a.length<5864062014805 by clear ih;omega)]
      have h:=ih (j+1) (a++[t[j]]) (by clear ih;omega) (by clear ih;rw [List.length_append,List.length_singleton];omega)
      rw [List.append_assoc] at h
      exact h
    · rw [List.filter_cons_of_neg c]
      simp only [if_neg c]
      exact ih (j+1) a (by clear ih;omega) (by clear ih;omega)
theorem cls_bd (T:List S91) (S:List S69) (C X Y:List Int) (g:Int) (hn:S.length≤6):(clsOf T S C X Y g).length≤1000000:=by
  have:=clsOf_len T S C X Y g hn (S.length+1) 0 [] (by omega)
  rw [List.length_nil] at this
  exact Nat.le_trans this (by omega)
def msR (T:List S91) (S:List S69) (C X Y:List Int) (g:Int):List (List Int)×Int:=if askC T S C X Y g []=0 then ((clsOf T S C X Y g).filter (mnB T S C X Y g),0) else ([],askC T S C X Y g [])
theorem impl_ms_ev (T:List S91) (S:List S69) (C X Y:List Int) (g:Int) (h1:T.length≤1000000) (h2:S.length≤1000000) (h3:C.length≤1000000) (h4:X.length≤1000000) (h5:Y.length≤1000000):Ev (fun k=>impl_MinimalClosures.f k T S C X Y g) (msR T S C X Y g):=by
  unfold impl_MinimalClosures.f msR
  refine Ev.bind (impl_ask_ev T S C X Y g [] h1 h2 h3 h4 h5 (by simp)) ?_
  by_cases c:askC T S C X Y g []=0
  · obtain⟨ok,h6,_⟩:=askC_ok c
    simp only [if_pos c]
    refine Ev.bind (impl_cls_ev T S C X Y g ok h6) ?_
    have h:=mins_ev T S C X Y g ok (clsOf T S C X Y g) (fun x hx=>by have:=(clsOf_mem T S C X Y g x hx).1;omega) (cls_bd T S C X Y g h6) (clsOf T S C X Y g).length 0 [] (by omega) (by simp)
    rw [List.drop_zero,List.nil_append] at h
    exact h
  · simp only [if_neg c]
    exact Ev.now _
theorem srt_sub:∀(b a:List Int),a.Pairwise (·<·)→b.Pairwise (·<·)→(∀v∈a,v∈b)→a.Sublist b
  |[],[],_,_,_=>List.Sublist.refl _
  |[],x::a,_,_,h=>absurd (h x (List.mem_cons_self ..)) (by simp)
  |y::b,[],_,_,_=>List.nil_sublist _
  |y::b,x::a,ha,hb,h=>by
    obtain⟨ha1,ha2⟩:=List.pairwise_cons.1 ha
    obtain⟨hb1,hb2⟩:=List.pairwise_cons.1 hb
    rcases List.mem_cons.1 (h x (List.mem_cons_self ..)) with e|hx
    · subst e
      refine List.Sublist.cons_cons _ (srt_sub b a ha2 hb2 fun v hv=>?_)
      rcases List.mem_cons.1 (h v (List.mem_cons_of_mem _ hv)) with e|hv'
      · subst e;exact absurd (ha1 _ hv) (Int.lt_irrefl _)
      · exact hv'
    · refine List.Sublist.cons _ (srt_sub b (x::a) ha hb2 fun v hv=>?_)
      rcases List.mem_cons.1 (h v hv) with e|hv'
      · subst e
        have h1:=hb1 x hx
        rcases List.mem_cons.1 hv with e|hv
        · subst e;exact hx
        · have:=ha1 _ hv;omega
      · exact hv'
theorem drp_mem {l:List Int} {i:Nat} (h:i<l.length) {v:Int} (hv:v∈l) (hn:v≠l[i]):v∈drp l i:=by
  unfold drp
  rw [←List.take_append_drop i l,←List.getElem_cons_drop h] at hv
  rcases List.mem_append.1 hv with hv|hv
  · exact List.mem_append_left _ hv
  · rcases List.mem_cons.1 hv with e|hv
    · exact absurd e hn
    · exact List.mem_append_right _ hv
theorem rs_drp {l:List Int} {n:Nat} (h:rs l n) (i:Nat):rs (drp l i) n:=⟨h.1.sublist (drp_sub l i),fun v hv=>h.2 v ((drp_sub l i).subset hv)⟩
theorem cmb_srt (n:Nat):∀s i,∀x∈cmb n s i,x.Pairwise (·<·)
  |0,_,x,hx=>by
    simp only [cmb,List.mem_singleton] at hx
    subst hx
    exact List.Pairwise.nil
  |s+1,i,x,hx=>by
    simp only [cmb] at hx
    rw [plA_eq,List.nil_append,List.mem_flatMap] at hx
    obtain⟨m,_,hx⟩:=hx
    obtain⟨y,hy,rfl⟩:=List.mem_map.1 hx
    refine List.pairwise_cons.2 ⟨fun v hv=>?_,cmb_srt n s (m+1) y hy⟩
    have:=((cmb_mem n s (m+1) y hy).2.2 v hv).1
    omega
theorem cmb_nodup (n:Nat):∀s i,(cmb n s i).Pairwise (·≠·)
  |0,_=>by simp [cmb]
  |s+1,i=>by
    simp only [cmb]
    rw [plA_eq,List.nil_append,List.pairwise_flatMap]
    refine⟨fun m _=>?_,(List.pairwise_lt_range' ..).imp (fun {a b} hab x hx y hy e=>?_)⟩
    · rw [List.pairwise_map]
      exact(cmb_nodup n s (m+1)).imp (fun h e=>h (List.cons.inj e).2)
    · obtain⟨x',_,rfl⟩:=List.mem_map.1 hx
      obtain⟨y',_,rfl⟩:=List.mem_map.1 hy
      have:=(List.cons.inj e).1
      omega
theorem cls_srt (T:List S91) (S:List S69) (C X Y:List Int) (g:Int):(clsOf T S C X Y g).Pairwise (fun a b=>a.length≤b.length∧a≠b):=by
  unfold clsOf
  rw [plA_eq,List.nil_append,List.pairwise_flatMap]
  refine⟨fun s _=>List.Pairwise.filter _ (List.Pairwise.imp_of_mem (fun {a b} ha hb h=>⟨?_,h⟩) (cmb_nodup S.length s 0)),(List.pairwise_lt_range' ..).imp (fun {a b} hab x hx y hy=>?_)⟩
  · rw [(cmb_mem _ s 0 a ha).1,(cmb_mem _ s 0 b hb).1]
    exact Nat.le_refl _
  · have hx':=(cmb_mem _ a 0 x (List.mem_filter.1 hx).1).1
    have hy':=(cmb_mem _ b 0 y (List.mem_filter.1 hy).1).1
    exact⟨by omega,fun e=>by subst e;omega⟩
theorem cls_is {T:List S91} {S:List S69} {C X Y:List Int} {g:Int} {x:List Int} (hx:x∈clsOf T S C X Y g):rs x S.length∧clB T S C X Y g x=true:=by
  unfold clsOf at hx
  rw [plA_eq,List.nil_append,List.mem_flatMap] at hx
  obtain⟨s,_,hx⟩:=hx
  obtain⟨h1,h2⟩:=List.mem_filter.1 hx
  exact⟨⟨cmb_srt _ s 0 x h1,fun v hv=>by have:=(cmb_mem _ s 0 x h1).2.2 v hv;omega⟩,h2⟩
theorem mn_get {T:List S91} {S:List S69} {C X Y:List Int} {g:Int} {l:List Int} (h:mnB T S C X Y g l=true) {i:Nat} (hi:i<l.length):clB T S C X Y g (drp l i)=false:=by
  unfold mnB at h
  rw [allD_iff] at h
  have:=h i (Nat.zero_le _) (by omega)
  rwa [Bool.not_eq_true'] at this
theorem mn_not {T:List S91} {S:List S69} {C X Y:List Int} {g:Int} {l:List Int} (h:¬mnB T S C X Y g l=true):∃i,i<l.length∧clB T S C X Y g (drp l i)=true:=by
  apply Classical.byContradiction
  intro hn
  apply h
  unfold mnB
  rw [allD_iff]
  intro j _ hj
  rw [Bool.not_eq_true',←Bool.not_eq_true]
  exact fun q=>hn ⟨j,by omega,q⟩
theorem mn_step {T:List S91} {S:List S69} {C X Y:List Int} {g:Int} {P Q:List (List Int)} {l:List Int} (he:clsOf T S C X Y g=P++l::Q):mnB T S C X Y g l=true↔∀o∈P.filter (mnB T S C X Y g),¬∀v∈o,v∈l:=by
  have hs:=cls_srt T S C X Y g
  rw [he] at hs
  obtain⟨_,hs2,hs3⟩:=List.pairwise_append.1 hs
  obtain⟨hs4,_⟩:=List.pairwise_cons.1 hs2
  obtain⟨hl,hcl⟩:=cls_is (x:=l) (he▸List.mem_append_right _ (List.mem_cons_self ..))
  constructor
  · intro hm o ho hin
    obtain⟨hoP,_⟩:=List.mem_filter.1 ho
    obtain⟨hor,hoc⟩:=cls_is (x:=o) (he▸List.mem_append_left _ hoP)
    have hne:=(hs3 o hoP l (List.mem_cons_self ..)).2
    have hsub:=srt_sub l o hor.1 hl.1 hin
    obtain⟨i,hi,hni⟩:∃i,∃hi:i<l.length,l[i]∉o:=by
      apply Classical.byContradiction
      intro hn
      have hle:=(srt_sub o l hl.1 hor.1 (fun v hv=>by
        obtain⟨i,hi,rfl⟩:=List.getElem_of_mem hv
        exact Classical.byContradiction fun q=>hn ⟨i,hi,q⟩)).length_le
      exact hne (hsub.eq_of_length_le hle)
    have h1:=mn_get hm hi
    rw [cl_mono (fun v hv=>drp_mem hi (hin v hv) (fun e=>hni (e▸hv))) hoc] at h1
    exact absurd h1 (by decide)
  · intro h
    apply Classical.byContradiction
    intro hn
    obtain⟨i,hi,hc⟩:=mn_not hn
    obtain⟨m,m1,m2,m3,m4⟩:=min_ex T S C X Y g _ (drp l i) (Nat.le_refl _) (rs_drp hl i) hc
    have hmc:=cls_all T S C X Y g m1 m3
    have hsub:=srt_sub (drp l i) m m1.1 (rs_drp hl i).1 m2
    have hlen:=hsub.length_le
    have hdl:=drp_len hi
    rw [he] at hmc
    rcases List.mem_append.1 hmc with hP|hQ
    · exact h m (List.mem_filter.2 ⟨hP,m4⟩) (fun v hv=>(drp_sub l i).subset (m2 v hv))
    · rcases List.mem_cons.1 hQ with e|hQ
      · rw [e] at hlen;omega
      · have:=(hs4 m hQ).1
        omega
theorem hsB_in (l:List Int) (v:Int):hsB l v=true↔v∈l:=hsB_mem l v
def wiB (o l:List Int):Bool:=allD (fun i=>hsB l (rd o (i:Int))) 0 o.length
theorem wiB_iff (o l:List Int):wiB o l=true↔∀v∈o,v∈l:=by
  unfold wiB
  rw [allD_iff]
  constructor
  · intro h v hv
    obtain⟨i,hi,rfl⟩:=List.getElem_of_mem hv
    have:=h i (Nat.zero_le _) (by omega)
    rwa [hsB_in,rd_nat hi] at this
  · intro h i _ hi
    have hi':i<o.length:=by omega
    rw [hsB_in,rd_nat hi']
    exact h _ (List.getElem_mem hi')
theorem within_ev (o l:List Int) (ho:o.length≤1000) (hl:l.length≤1000000):Ev (fun k=>spec_l19Within.f k o l) (wiB o l):=by
  have loop:∀d i,i+d=o.length→Ev (fun k=>spec_l19Within.l0 k o l (i:Int)) (allD (fun i=>hsB l (rd o (i:Int))) i d):=by
    intro d
    induction d with
    |zero=>
      intro i hi
      refine Ev.dn ?_
      simp only [spec_l19Within.l0,allD,if_neg (show ¬(i:Int)<(o.length:Int) by omega)]
      exact Ev.now _
    |succ d ih=>
      intro i hi
      have hil:i<o.length:=by clear ih;omega
      have hw:=wrap_succ hil (show o.length≤9223372036854775807 by clear ih;omega)
      have h:=ih (i+1) (by omega)
      refine Ev.dn ?_
      simp only [spec_l19Within.l0,allD,if_pos (show (i:Int)<(o.length:Int) by clear ih h;omega),if_pos (show (0:Int)≤(i:Int) by clear ih h;omega),hw]
      refine Ev.bind (has_ev l (rd o (i:Int)) hl) ?_
      show Ev (fun k=>if hsB l (rd o (i:Int))=true then _ else _) _
      cases hsB l (rd o (i:Int)) with
      |true=>
        simp only [if_true,Bool.true_and]
        exact h
      |false=>
        simp only [Bool.false_eq_true,if_false,Bool.false_and]
        exact Ev.now _
  exact loop o.length 0 (by omega)
theorem spec_ms_in (t:List (List Int)) (ht:∀x∈t,x.length≤1000) (htl:t.length≤1000000) (i:Nat) (hi:i<t.length) (a:List (List Int)) (ha:∀x∈a,x.length≤1000) (hal:a.length≤1000000) (q:Bool) (R:List (List Int)×Int)
    (h:Ev (fun k=>spec_MinimalClosures.l0 k t (if q=true then a++[t[i]] else a) ((i+1:Nat):Int)) R):∀d j b,j+d=a.length→(b&&(a.drop j).all (fun o=>!wiB o t[i]))=q→Ev (fun k=>spec_MinimalClosures.l1 k t a (i:Int) b (j:Int)) R:=by
  have hr:rd_L4 t (i:Int)=t[i]:=by simp [rd_L4,hi]
  have i0:(0:Int)≤(i:Int):=by omega
  have i1:(i:Int)<(t.length:Int):=by omega
  have hwi:=wrap_succ hi (show t.length≤9223372036854775807 by omega)
  intro d
  induction d with
  |zero=>
    intro j b hj hq
    rw [List.drop_of_length_le (by omega),List.all_nil,Bool.and_true] at hq
    subst hq
    refine Ev.dn ?_
    cases b with
    |true=>
      simp only [spec_MinimalClosures.l1,if_neg (show ¬(j:Int)<(a.length:Int) by omega),if_true,if_pos i0,if_pos i1,hr,hwi,if_pos (show a.length<5864062014805 by omega)]
      exact h
    |false=>
      simp only [spec_MinimalClosures.l1,if_neg (show ¬(j:Int)<(a.length:Int) by omega),Bool.false_eq_true,if_false,hwi]
      exact h
  |succ d ih=>
    intro j b hj hq
    have hjl:j<a.length:=by clear ih;omega
    have hw:=wrap_succ hjl (show a.length≤9223372036854775807 by clear ih;omega)
    have hrj:rd_L4 a (j:Int)=a[j]:=by simp [rd_L4,hjl]
    rw [List.drop_eq_getElem_cons hjl,List.all_cons] at hq
    refine Ev.dn ?_
    cases b with
    |true=>
      rw [Bool.true_and] at hq
      simp only [spec_MinimalClosures.l1,if_pos (show (j:Int)<(a.length:Int) by clear ih;omega),if_true,if_pos (show (0:Int)≤(j:Int) by clear ih;omega),if_pos i0,if_pos i1,hr,hrj,hw]
      exact Ev.bind (within_ev a[j] t[i] (ha _ (List.getElem_mem hjl)) (Nat.le_trans (ht _ (List.getElem_mem hi)) (by decide))) (ih (j+1) _ (by clear ih;omega) hq)
    |false=>
      rw [Bool.false_and] at hq
      simp only [spec_MinimalClosures.l1,if_pos (show (j:Int)<(a.length:Int) by clear ih;omega),Bool.false_eq_true,if_false,hw]
      exact ih (j+1) false (by clear ih;omega) (by rw [Bool.false_and];exact hq)
theorem spec_ms_loop (T:List S91) (S:List S69) (C X Y:List Int) (g:Int) (h6:S.length≤6):∀d i,i+d=(clsOf T S C X Y g).length→Ev (fun k=>spec_MinimalClosures.l0 k (clsOf T S C X Y g) (((clsOf T S C X Y g).take i).filter (mnB T S C X Y g)) (i:Int)) ((clsOf T S C X Y g).filter (mnB T S C X Y g),0):=by
  have hbd:=cls_bd T S C X Y g h6
  have hlen:∀x∈clsOf T S C X Y g,x.length≤1000:=fun x hx=>Nat.le_trans (Nat.le_trans (clsOf_mem T S C X Y g x hx).1 h6) (by decide)
  intro d
  induction d with
  |zero=>
    intro i hi
    refine Ev.dn ?_
    simp only [spec_MinimalClosures.l0,if_neg (show ¬(i:Int)<((clsOf T S C X Y g).length:Int) by omega)]
    rw [List.take_of_length_le (by omega)]
    exact Ev.now _
  |succ d ih=>
    intro i hi
    have hil:i<(clsOf T S C X Y g).length:=by clear ih;omega
    have h:=ih (i+1) (by omega)
    have he:clsOf T S C X Y g=(clsOf T S C X Y g).take i++(clsOf T S C X Y g)[i]::(clsOf T S C X Y g).drop (i+1):=by rw [List.getElem_cons_drop hil,List.take_append_drop]
    have hst:=mn_step he
    have htk:(((clsOf T S C X Y g).take (i+1)).filter (mnB T S C X Y g))=if mnB T S C X Y g (clsOf T S C X Y g)[i]=true then ((clsOf T S C X Y g).take i).filter (mnB T S C X Y g)++[(clsOf T S C X Y g)[i]] else ((clsOf T S C X Y g).take i).filter (mnB T S C X Y g):=by
      rw [List.take_succ_eq_append_getElem hil,List.filter_append]
      by_cases q:mnB T S C X Y g (clsOf T S C X Y g)[i]=true
      · rw [if_pos q,List.filter_cons_of_pos q,List.filter_nil]
      · rw [if_neg q,List.filter_cons_of_neg q,List.filter_nil,List.append_nil]
    rw [htk] at h
    refine Ev.dn ?_
    simp only [spec_MinimalClosures.l0,if_pos (show (i:Int)<((clsOf T S C X Y g).length:Int) by clear ih h;omega)]
    refine spec_ms_in (clsOf T S C X Y g) hlen hbd i hil _ (fun x hx=>hlen x (List.mem_of_mem_take (List.mem_filter.1 hx).1)) (Nat.le_trans (List.length_filter_le _ _) (Nat.le_trans (List.length_take_le' ..) hbd)) _ _ h _ 0 true (Nat.zero_add _) ?_
    rw [Bool.true_and,List.drop_zero,Bool.eq_iff_iff,hst,List.all_eq_true]
    refine⟨fun q o ho hv=>?_,fun q o ho=>?_⟩
    · have:=q o ho
      rw [Bool.not_eq_true',←Bool.not_eq_true,wiB_iff] at this
      exact this hv
    · rw [Bool.not_eq_true',←Bool.not_eq_true,wiB_iff]
      exact q o ho
theorem spec_ms_ev (T:List S91) (S:List S69) (C X Y:List Int) (g:Int) (h1:T.length≤1000000) (h2:S.length≤1000000) (h3:C.length≤1000000) (h4:X.length≤1000000) (h5:Y.length≤1000000):Ev (fun k=>spec_MinimalClosures.f k T S C X Y g) (msR T S C X Y g):=by
  unfold spec_MinimalClosures.f msR
  refine Ev.bind (spec_ask_ev T S C X Y g [] h1 h2 h3 h4 h5 (by simp)) ?_
  by_cases c:askC T S C X Y g []=0
  · obtain⟨ok,h6,_⟩:=askC_ok c
    simp only [if_pos c]
    refine Ev.bind (spec_cls_ev T S C X Y g ok h6) ?_
    have h:=spec_ms_loop T S C X Y g h6 (clsOf T S C X Y g).length 0 (Nat.zero_add _)
    rw [List.take_zero,List.filter_nil] at h
    exact h
  · simp only [if_neg c]
    exact Ev.now _
theorem markRow_loop (a:Int) (h0:0≤a) (ha:a≤1000000000000) (n:Nat) (hn:n≤1000000):∀d i (xs:List Int),i+d=n→xs.length=n→(∀j,j<i→rd xs (j:Int)=a+(j:Int))→
    ∃L:List Int,L.length=n∧(∀j,j<n→rd L (j:Int)=a+(j:Int))∧Ev (fun k=>laws_markInt64S.l0 k xs (a+(i:Int)) (i:Int)) (a+(n:Int),L):=by
  intro d
  induction d with
  |zero=>
    intro i xs hi hx hj
    obtain rfl:i=n:=by omega
    refine⟨xs,hx,hj,Ev.dn ?_⟩
    simp only [laws_markInt64S.l0]
    simp only [if_neg (show ¬(i:Int)<(xs.length:Int) by omega)]
    exact Ev.now _
  |succ d ih=>
    intro i xs hi hx hj
    obtain⟨L,h1,h2,h3⟩:=ih (i+1) (xs.set i (a+(i:Int))) (by omega) (by simpa using hx) (fun j hj2=>by
      have hjl:j<(xs.set i (a+(i:Int))).length:=by rw [List.length_set];omega
      rw [rd_nat hjl,List.getElem_set]
      by_cases e:i=j
      · rw [if_pos e,e]
      · rw [if_neg e]
        have:=hj j (by omega)
        rwa [rd_nat (by omega)] at this)
    refine⟨L,h1,h2,Ev.dn ?_⟩
    refine Ev.eq' h3 (fun k=>?_)
    have e1:a+(i:Int)+1=a+((i+1:Nat):Int):=by omega
    simp only [laws_markInt64S.l0]
    rw [if_pos (show (i:Int)<(xs.length:Int) by omega),if_pos (show (0:Int)≤(i:Int) by omega),wrap_succ (show i<n by omega) (by omega),wrap_id (by omega) (by omega),Int.toNat_natCast,e1]
theorem markRow_ev (a:Int) (h0:0≤a) (ha:a≤1000000000000) (xs:List Int) (hn:xs.length≤1000000):∃L:List Int,L.length=xs.length∧(∀j,j<L.length→rd L (j:Int)=a+(j:Int))∧Ev (fun k=>laws_markInt64S.f k xs a) (a+(xs.length:Int),L):=by
  obtain⟨L,h1,h2,h3⟩:=markRow_loop a h0 ha xs.length hn xs.length 0 xs (by omega) rfl (fun j hj=>by omega)
  refine⟨L,h1,fun j hj=>h2 j (by omega),?_⟩
  rw [show a+((0:Nat):Int)=a by omega] at h3
  exact h3
theorem heldRow_ev (a:Int) (h0:0≤a) (ha:a≤1000000000000) (L:List Int) (hn:L.length≤1000000) (h:∀j,j<L.length→rd L (j:Int)=a+(j:Int)):Ev (fun k=>laws_heldInt64S.f k L a) (a+(L.length:Int)):=by
  have key:∀d i,i+d=L.length→Ev (fun k=>laws_heldInt64S.l0 k L (a+(i:Int)) (i:Int)) (a+(L.length:Int)):=by
    intro d
    induction d with
    |zero=>
      intro i hi
      obtain rfl:i=L.length:=by omega
      refine Ev.dn ?_
      simp only [laws_heldInt64S.l0]
      simp only [if_neg (show ¬(L.length:Int)<(L.length:Int) by omega)]
      exact Ev.now _
    |succ d ih=>
      intro i hi
      refine Ev.dn ?_
      refine Ev.eq' (ih (i+1) (by omega)) (fun k=>?_)
      have e1:a+(i:Int)+1=a+((i+1:Nat):Int):=by omega
      simp only [laws_heldInt64S.l0]
      rw [if_pos (show (i:Int)<(L.length:Int) by omega),if_pos (show (0:Int)≤(i:Int) by omega),if_pos (h i (by omega)),wrap_succ (show i<L.length by omega) (by omega),wrap_id (by omega) (by omega),e1]
  have h3:=key L.length 0 (by omega)
  rw [show a+((0:Nat):Int)=a by omega] at h3
  exact h3
theorem markRows_loop:∀d i (a:Int) (x:List (List Int)),i+d=x.length→x.length≤1000000→(∀y∈x,y.length≤1000)→0≤a→a≤101+1000*(i:Int)→∃(L:List (List Int)) (b:Int),L.length=x.length∧0≤b∧Ev (fun k=>laws_markInt64SS.l0 k x a (i:Int)) (b,L)∧Ev (fun k=>laws_heldInt64SS.l0 k L a (i:Int)) b∧∀j,j<i→L[j]? =x[j]? :=by
  intro d
  induction d with
  |zero=>
    intro i a x hi hn hx h0 ha
    refine⟨x,a,rfl,h0,Ev.dn ?_,Ev.dn ?_,fun j _=>rfl⟩
    · simp only [laws_markInt64SS.l0,if_neg (show ¬(i:Int)<(x.length:Int) by omega)]
      exact Ev.now _
    · simp only [laws_heldInt64SS.l0,if_neg (show ¬(i:Int)<(x.length:Int) by omega)]
      exact Ev.now _
  |succ d ih=>
    intro i a x hi hn hx h0 ha
    have hil:i<x.length:=by clear ih;omega
    have hw:=wrap_succ hil (show x.length≤9223372036854775807 by clear ih;omega)
    have hr:rd_L4 x (i:Int)=x[i]:=by simp [rd_L4,hil]
    have hl:=hx _ (List.getElem_mem hil)
    obtain⟨r,r1,r2,r3⟩:=markRow_ev a h0 (by clear ih;omega) x[i] (by clear ih;omega)
    have hxl:(x.set i r).length=x.length:=List.length_set ..
    obtain⟨L,b,l1,l2,l3,l4,l5⟩:=ih (i+1) (a+(x[i].length:Int)) (x.set i r) (by clear ih;omega) (by clear ih;omega) (fun y hy=>by
      rcases List.mem_or_eq_of_mem_set hy with hy|rfl
      · exact hx y hy
      · omega) (by clear ih;omega) (by clear ih;omega)
    have hLl:L.length=x.length:=l1.trans hxl
    have hLi:L[i]? =some r:=by
      rw [l5 i (Nat.lt_succ_self i),List.getElem?_set_self hil]
    have hiL:i<L.length:=by clear ih;omega
    have hrL:rd_L4 L (i:Int)=r:=by
      rw [List.getElem?_eq_getElem hiL] at hLi
      injection hLi with hLi
      simp [rd_L4,hiL,hLi]
    have hh:=heldRow_ev a h0 (by clear ih;omega) r (by clear ih;omega) r2
    rw [r1] at hh
    have hn0:¬a+(x[i].length:Int)<0:=by clear ih;omega
    refine⟨L,b,hLl,l2,Ev.dn ?_,Ev.dn ?_,fun j hj=>?_⟩
    · simp only [laws_markInt64SS.l0,if_pos (show (i:Int)<(x.length:Int) by clear ih;omega),if_pos (show (0:Int)≤(i:Int) by clear ih;omega),hr,hw,Int.toNat_natCast]
      exact Ev.bind r3 l3
    · simp only [laws_heldInt64SS.l0,if_pos (show (i:Int)<(L.length:Int) by clear ih;omega),if_pos (show (0:Int)≤(i:Int) by clear ih;omega),hrL,hw]
      refine Ev.bind hh ?_
      simp only [if_neg hn0]
      exact l4
    · rw [l5 j (by clear ih;omega),List.getElem?_set_ne (by clear ih;omega)]
theorem markRows_ev (x:List (List Int)) (hn:x.length≤1000000) (hx:∀y∈x,y.length≤1000):∃(L:List (List Int)) (b:Int),0≤b∧Ev (fun k=>laws_markInt64SS.f k x 101) (b,L)∧Ev (fun k=>laws_heldInt64SS.f k L 101) b:=by
  obtain⟨L,b,_,h2,h3,h4,_⟩:=markRows_loop x.length 0 101 x (Nat.zero_add _) hn hx (by decide) (by decide)
  exact⟨L,b,h2,h3,h4⟩
theorem eqRows_refl (t:List (List Int)) (ht:∀x∈t,x.length≤1000) (htl:t.length≤1000000):Ev (fun k=>laws_eqInt64SS.f k t t) true:=by
  have loop:∀d i,i+d=t.length→Ev (fun k=>laws_eqInt64SS.l0 k t t (i:Int)) true:=by
    intro d
    induction d with
    |zero=>
      intro i hi
      refine Ev.dn ?_
      simp only [laws_eqInt64SS.l0,if_neg (show ¬(i:Int)<(t.length:Int) by omega)]
      exact Ev.now _
    |succ d ih=>
      intro i hi
      have hil:i<t.length:=by clear ih;omega
      have hw:=wrap_succ hil (show t.length≤9223372036854775807 by clear ih;omega)
      have hr:rd_L4 t (i:Int)=t[i]:=by simp [rd_L4,hil]
      have h:=ih (i+1) (by omega)
      refine Ev.dn ?_
      simp only [laws_eqInt64SS.l0,if_pos (show (i:Int)<(t.length:Int) by clear ih h;omega),if_pos (show (0:Int)≤(i:Int) by clear ih h;omega),hr,hw]
      refine Ev.bind (eqInt_refl t[i] (Nat.le_trans (ht _ (List.getElem_mem hil)) (by decide))) ?_
      simp only [if_true]
      exact h
  unfold laws_eqInt64SS.f
  simp only [if_true]
  exact loop t.length 0 (Nat.zero_add _)
theorem mn_anti {T:List S91} {S:List S69} {C X Y:List Int} {g:Int} {o l:List Int} (hor:rs o S.length) (hoc:clB T S C X Y g o=true) (hl:rs l S.length) (hm:mnB T S C X Y g l=true) (hin:∀v∈o,v∈l):o=l:=by
  apply Classical.byContradiction
  intro hne
  have hsub:=srt_sub l o hor.1 hl.1 hin
  obtain⟨i,hi,hni⟩:∃i,∃hi:i<l.length,l[i]∉o:=by
    apply Classical.byContradiction
    intro hn
    have hle:=(srt_sub o l hl.1 hor.1 (fun v hv=>by
      obtain⟨i,hi,rfl⟩:=List.getElem_of_mem hv
      exact Classical.byContradiction fun q=>hn ⟨i,hi,q⟩)).length_le
    exact hne (hsub.eq_of_length_le hle)
  have h1:=mn_get hm hi
  rw [cl_mono (fun v hv=>drp_mem hi (hin v hv) (fun e=>hni (e▸hv))) hoc] at h1
  exact absurd h1 (by decide)
theorem ms_pf (T:List S91) (S:List S69) (C X Y:List Int) (g:Int):PF (msR T S C X Y g).1:=by
  unfold msR
  by_cases c:askC T S C X Y g []=0
  · rw [if_pos c]
    intro i j a b hi hj hne hpre
    have ha:=List.mem_filter.1 (List.mem_of_getElem? hi)
    have hb:=List.mem_filter.1 (List.mem_of_getElem? hj)
    have e:a=b:=mn_anti (cls_is ha.1).1 (cls_is ha.1).2 (cls_is hb.1).1 hb.2 (fun v hv=>hpre.subset hv)
    subst e
    have hp:=List.pairwise_iff_getElem.1 ((cls_srt T S C X Y g).filter (mnB T S C X Y g))
    obtain⟨hi1,hi2⟩:=List.getElem?_eq_some_iff.1 hi
    obtain⟨hj1,hj2⟩:=List.getElem?_eq_some_iff.1 hj
    rcases Nat.lt_or_gt_of_ne hne with h|h
    · exact(hp i j hi1 hj1 h).2 (hi2.trans hj2.symm)
    · exact(hp j i hj1 hi1 h).2 (hj2.trans hi2.symm)
  · rw [if_neg c]
    intro i j a b hi
    exact absurd hi (by simp)
theorem ms_up (T:List S91) (S:List S69) (C X Y:List Int) (g:Int) (k:Nat) (r:List (List Int)×Int) (h:impl_MinimalClosures.f k T S C X Y g=some r):∀d,impl_MinimalClosures.f (k+d) T S C X Y g=some r
  |0=>h
  |d+1=>impl_MinimalClosures.mono T S C X Y g (k+d) r (ms_up T S C X Y g k r h d)
theorem mcHap:∀(x0_0:List S95) (x0_1:List S98) (x0_2:List Int) (x0_3:List Int) (x0_4:List Int) (x0_5:Int),((x0_0.length≤reachBytes∧∀y∈x0_0,((Lit.int .i64 y.f0).wf=true∧(Lit.int .i64 y.f1).wf=true∧(Lit.int .i64 y.f2).wf=true))∧(x0_1.length≤reachBytes∧∀y∈x0_1,((Lit.int .i64 y.f0).wf=true∧(Lit.int .i64 y.f1).wf=true∧(Lit.int .i64 y.f2).wf=true∧(Lit.int .i64 y.f3).wf=true∧(Lit.int .i64 y.f4).wf=true))∧(x0_2.length≤reachBytes∧∀y∈x0_2,(Lit.int .i64 y).wf=true)∧(x0_3.length≤reachBytes∧∀y∈x0_3,(Lit.int .i64 y).wf=true)∧(x0_4.length≤reachBytes∧∀y∈x0_4,(Lit.int .i64 y).wf=true)∧(Lit.int .i64 x0_5).wf=true)→∀(k:Nat) (z:Int) (T:List S91) (S:List S69) (C X Y:List Int) (g:Int) (m:List (List Int)) (c:Int),laws_szField.f x0_0 x0_1 x0_2 x0_3 x0_4 x0_5 1000000=some z→¬z<0→laws_toField.f k x0_0 x0_1 x0_2 x0_3 x0_4 x0_5 false=some (T,S,C,X,Y,g)→impl_MinimalClosures.f k T S C X Y g=some (m,c)→PF m:=by
  intro T0 S0 C0 X0 Y0 g0 ⟨⟨b1,_⟩,⟨b2,_⟩,⟨b3,_⟩,⟨b4,_⟩,⟨b5,_⟩,_⟩ k z T S C X Y g m c hz hn ht hm
  obtain⟨r,hr,hr2⟩:=szField_some T0 S0 C0 X0 Y0 g0 1000000 b1 b2 b3 b4 b5 (by omega) (by omega)
  rw [hr] at hz
  injection hz with hz
  subst hz
  obtain⟨h1,h2,h3,h4,h5,_,_⟩:=hr2 hn
  rw [toField_some _ T0 S0 C0 X0 Y0 g0 _ h1 h2 h3 h4 h5] at ht
  injection ht with ht
  have k1:(T0.map laws_toDemandS.conv).length≤1000000:=by simpa using h1
  have k2:(S0.map laws_toAreaS.conv).length≤1000000:=by simpa using h2
  obtain⟨K,hK⟩:=impl_ms_ev (T0.map laws_toDemandS.conv) (S0.map laws_toAreaS.conv) C0 X0 Y0 g0 k1 k2 h3 h4 h5
  injection ht with e1 ht
  injection ht with e2 ht
  injection ht with e3 ht
  injection ht with e4 ht
  injection ht with e5 e6
  subst e1 e2 e3 e4 e5 e6
  have e:=(ms_up _ _ _ _ _ _ k (m,c) hm K).symm.trans (hK (k+K) (Nat.le_add_left ..))
  injection e with e
  have hp:=ms_pf (T0.map laws_toDemandS.conv) (S0.map laws_toAreaS.conv) C0 X0 Y0 g0
  rw [←e] at hp
  exact hp
theorem msR_len2 (T:List S91) (S:List S69) (C X Y:List Int) (g:Int):(msR T S C X Y g).1.length≤1000000∧∀x∈(msR T S C X Y g).1,x.length≤1000:=by
  unfold msR
  by_cases c:askC T S C X Y g []=0
  · obtain⟨_,h6,_⟩:=askC_ok c
    rw [if_pos c]
    exact⟨Nat.le_trans (List.length_filter_le (mnB T S C X Y g) (clsOf T S C X Y g)) (cls_bd T S C X Y g h6),fun x hx=>Nat.le_trans (Nat.le_trans (clsOf_mem T S C X Y g x (List.mem_filter.1 hx).1).1 h6) (by decide)⟩
  · rw [if_neg c]
    exact⟨by simp,fun x hx=>absurd hx (by simp)⟩
theorem FnExactMinimalClosures:∀(x0_0:List S95) (x0_1:List S98) (x0_2:List Int) (x0_3:List Int) (x0_4:List Int) (x0_5:Int),((x0_0.length≤reachBytes∧∀y∈x0_0,((Lit.int .i64 y.f0).wf=true∧(Lit.int .i64 y.f1).wf=true∧(Lit.int .i64 y.f2).wf=true))∧(x0_1.length≤reachBytes∧∀y∈x0_1,((Lit.int .i64 y.f0).wf=true∧(Lit.int .i64 y.f1).wf=true∧(Lit.int .i64 y.f2).wf=true∧(Lit.int .i64 y.f3).wf=true∧(Lit.int .i64 y.f4).wf=true))∧(x0_2.length≤reachBytes∧∀y∈x0_2,(Lit.int .i64 y).wf=true)∧(x0_3.length≤reachBytes∧∀y∈x0_3,(Lit.int .i64 y).wf=true)∧(x0_4.length≤reachBytes∧∀y∈x0_4,(Lit.int .i64 y).wf=true)∧(Lit.int .i64 x0_5).wf=true)→∃k,laws_FnExactMinimalClosures.f k x0_0 x0_1 x0_2 x0_3 x0_4 x0_5=some true:=by
  intro T0 S0 C X Y g ⟨⟨b1,_⟩,⟨b2,_⟩,⟨b3,_⟩,⟨b4,_⟩,⟨b5,_⟩,_⟩
  apply Ev.rounds
  unfold laws_FnExactMinimalClosures.f
  obtain⟨r,hr,hr2⟩:=szField_some T0 S0 C X Y g 1000000 b1 b2 b3 b4 b5 (by omega) (by omega)
  simp only [hr,Option.bind_some]
  by_cases h:r<0
  · simp only [if_pos h];exact Ev.now _
  obtain⟨h1,h2,h3,h4,h5,_,_⟩:=hr2 h
  simp only [if_neg h,toField_some _ T0 S0 C X Y g _ h1 h2 h3 h4 h5,Option.bind_some]
  have k1:(T0.map laws_toDemandS.conv).length≤1000000:=by simpa using h1
  have k2:(S0.map laws_toAreaS.conv).length≤1000000:=by simpa using h2
  generalize hT:T0.map laws_toDemandS.conv=T at k1
  generalize hS:S0.map laws_toAreaS.conv=S at k2
  have _keep:=@mcHap
  have p1:=spec_ms_ev T S C X Y g k1 k2 h3 h4 h5
  have p2:=impl_ms_ev T S C X Y g k1 k2 h3 h4 h5
  obtain⟨p3,p4⟩:=msR_len2 T S C X Y g
  generalize msR T S C X Y g=p at p1 p2 p3 p4
  obtain⟨m,T',S',C',X',Y',hm1,hR⟩:=markField_ev T S C X Y g k1 k2 h3 h4 h5
  obtain⟨M,b,hb,hM3,hH⟩:=markRows_ev p.1 p3 p4
  have hE:=eqRows_refl p.1 p4 p3
  refine Ev.bind p1 (Ev.bind p2 (Ev.bind hE ?_))
  simp only [bne_self_eq_false,if_true]
  refine Ev.dn ?_
  simp only [laws_FnExactMinimalClosures.j0,Bool.false_eq_true,if_false,toField_some _ T0 S0 C X Y g _ h1 h2 h3 h4 h5,Option.bind_some,hT,hS]
  refine Ev.bind (intactField_refl T S C X Y g k1 k2 h3 h4 h5) ?_
  simp only [if_true]
  refine Ev.bind hR ?_
  simp only [if_neg (show ¬m<0 by omega)]
  refine Ev.bind hE ?_
  simp only [bne_self_eq_false,if_true]
  refine Ev.dn ?_
  simp only [laws_FnExactMinimalClosures.j1,Bool.false_eq_true,if_false,toField_some _ T0 S0 C X Y g _ h1 h2 h3 h4 h5,Option.bind_some,hT,hS]
  refine Ev.bind hM3 (Ev.bind hH ?_)
  simp only [if_neg (show ¬b<0 by omega),if_true]
  refine Ev.bind p2 (Ev.bind hE ?_)
  simp only [bne_self_eq_false,if_true]
  refine Ev.dn ?_
  simp only [laws_FnExactMinimalClosures.j2,Bool.false_eq_true,if_false]
  refine Ev.bind hH ?_
  simp only [if_neg (show ¬b<0 by omega),if_true]
  exact Ev.now _
end Go.Proofs.Ytiblahniohjbbaa.Pure
