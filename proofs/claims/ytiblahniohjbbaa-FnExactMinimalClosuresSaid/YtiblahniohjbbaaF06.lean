/- Go functions of the program, each as a Lean function, and the proof that each call comes to what the Lean function tells; no condition beyond those that stand there. -/
import Derived.Test.YtiblahniohjbbaaF04
import Derived.Test.YtiblahniohjbbaaWRepsOne
namespace Go.Proofs.Ytiblahniohjbbaa.Pall
set_option maxRecDepth 100000
set_option maxHeartbeats 8000000
open Go.RowKit Go.Proofs.YtiblahniohjbbaaW.PrintWords Go.Proofs.YtiblahniohjbbaaW.PrintLast
set_option linter.unusedVariables false
set_option linter.unusedSimpArgs false
mutual
def impl_hasPlacing.l0:Nat→List Int→Int→Int→Int→List (S91)→List (S69)→List Int→List Int→List Int→Int→Option (Bool)
 |0,_,_,_,_,_,_,_,_,_,_=>none
 |k+1,x1,x10,x34,x2,x26,x27,x28,x29,x30,x31=>if x2<x34 then ((impl_isFree.f k x26 x27 x28 x29 x30 x31 x1 x10 x2).bind fun t35=>(if t35=true then ((impl_copyList.f x1).bind fun t7=>((some (([x2]:List Int):List Int)).bind fun y4=>(if t7.length+y4.length<17592186044416 then ((impl_hasPlacing.f k x26 x27 x28 x29 x30 x31 (t7++y4)).bind fun t36=>(if t36=true then (some true) else (impl_hasPlacing.l0 k x1 x10 x34 (wrap64 (x2+1)) x26 x27 x28 x29 x30 x31))) else (none)))) else (impl_hasPlacing.l0 k x1 x10 x34 (wrap64 (x2+1)) x26 x27 x28 x29 x30 x31))) else (some false)
def impl_hasPlacing.f:Nat→List (S91)→List (S69)→List Int→List Int→List Int→Int→List Int→Option (Bool)
 |0,_,_,_,_,_,_,_=>none
 |k+1,l0_0,l0_1,l0_2,l0_3,l0_4,a0_5,l1=>if (l1.length:Int)=(l0_2.length:Int) then (some true) else (impl_hasPlacing.l0 k l1 (l1.length:Int) (l0_3.length:Int) 0 l0_0 l0_1 l0_2 l0_3 l0_4 a0_5)
end
theorem impl_hasPlacing.mono_l:∀k,(∀y5 y1 y13 y14 y15 y10 y16,LeO (impl_hasPlacing.f k y5 y1 y13 y14 y15 y10 y16) (impl_hasPlacing.f (k+1) y5 y1 y13 y14 y15 y10 y16))∧(∀y5 y1 y13 y14 y15 y10 y16 y25 y32 y33,LeO (impl_hasPlacing.l0 k y5 y1 y13 y14 y15 y10 y16 y25 y32 y33) (impl_hasPlacing.l0 (k+1) y5 y1 y13 y14 y15 y10 y16 y25 y32 y33))
 |0=>⟨fun _ _ _ _ _ _ _ r h=>by simp [impl_hasPlacing.f] at h,fun _ _ _ _ _ _ _ _ _ _ r h=>by simp [impl_hasPlacing.l0] at h⟩
 |k+1=>by
  obtain⟨ih0,ih1⟩:=impl_hasPlacing.mono_l k;refine⟨?_,?_⟩
  ·intro y5 y1 y13 y14 y15 y10 y16;unfold impl_hasPlacing.f
   repeat' (with_reducible first|exact ih0 .. |exact ih1 .. |exact impl_isFree.mono .. |exact lm|refine LeO.ite ?_ ?_|refine LeO.bind ?_ (fun _=>?_))
  ·intro y5 y1 y13 y14 y15 y10 y16 y25 y32 y33;unfold impl_hasPlacing.l0
   repeat' (with_reducible first|exact ih0 .. |exact ih1 .. |exact impl_isFree.mono .. |exact lm|refine LeO.ite ?_ ?_|refine LeO.bind ?_ (fun _=>?_))
theorem impl_hasPlacing.mono:∀a0 a1 a2 a3 a4 a5 a6 k,LeO (impl_hasPlacing.f k a0 a1 a2 a3 a4 a5 a6) (impl_hasPlacing.f (k+1) a0 a1 a2 a3 a4 a5 a6):=by
 intro a0 a1 a2 a3 a4 a5 a6 k;obtain⟨ih0,ih1⟩:=impl_hasPlacing.mono_l k;exact ih0 a0 a1 a2 a3 a4 a5 a6
def impl_hasPlacing.T7:Bool×List (List Nat×List Nat):=(true,[([],[]),([],[]),([],[]),([],[]),([0,1,2,3],[0,1,2,3]),([4,4],[4]),([5],[5]),([5],[5]),([7,5,5],[5,7]),([5],[5]),([9,5],[5,9]),([8,10,8,5],[5,8,10]),([6,11,11,5],[5,6,11]),([5,12],[5,12])])
def impl_hasPlacing.B7:List Nat:=[0,0,0,0,15,31,63,63,191,63,575,1983,4095,8191]
theorem impl_hasPlacing.tab7:rtab .any (opsOf Try.f53 7)=impl_hasPlacing.T7:=by kernel_rfl
theorem impl_hasPlacing.bits7:waitsOk impl_hasPlacing.T7.2 impl_hasPlacing.B7=true:=by kernel_rfl
theorem impl_hasPlacing.calls (k:Nat):∀(A0_0:Option Addr) (c0_0:Nat) (l0_0:List (S91)) (A0_1:Option Addr) (c0_1:Nat) (l0_1:List (S69)) (A0_2:Option Addr) (c0_2:Nat) (l0_2:List Int) (A0_3:Option Addr) (c0_3:Nat) (l0_3:List Int) (A0_4:Option Addr) (c0_4:Nat) (l0_4:List Int) (a0_5:Int) (A1:Option Addr) (c1:Nat) (l1:List Int) (r:Bool) (w:World) (hr0_0:Kd.C k91 w A0_0 l0_0.length l0_0) (hc0_0:l0_0.length≤c0_0) (hr0_1:Kd.C k69 w A0_1 l0_1.length l0_1) (hc0_1:l0_1.length≤c0_1) (hr0_2:Kd.C (Kd.int .i64) w A0_2 l0_2.length l0_2) (hc0_2:l0_2.length≤c0_2) (hr0_3:Kd.C (Kd.int .i64) w A0_3 l0_3.length l0_3) (hc0_3:l0_3.length≤c0_3) (hr0_4:Kd.C (Kd.int .i64) w A0_4 l0_4.length l0_4) (hc0_4:l0_4.length≤c0_4) (hr1:Kd.C (Kd.int .i64) w A1 l1.length l1) (hc1:l1.length≤c1) (h:impl_hasPlacing.f k l0_0 l0_1 l0_2 l0_3 l0_4 a0_5 l1=some r),
  Calls Try.prog 53 #[.agg (f5 A0_0 l0_0 c0_0 A0_1 l0_1 c0_1 A0_2 l0_2 c0_2 A0_3 l0_3 c0_3 A0_4 l0_4 c0_4 a0_5),.slice A1 l1.length c1] w fun e w'=>e=.returned (.bool r)∧Below w.heap.size w w':=by
 induction k using Nat.strongRecOn with
 |_ k ih=>
 intro A0_0 c0_0 l0_0 A0_1 c0_1 l0_1 A0_2 c0_2 l0_2 A0_3 c0_3 l0_3 A0_4 c0_4 l0_4 a0_5 A1 c1 l1 r w hr0_0 hc0_0 hr0_1 hc0_1 hr0_2 hc0_2 hr0_3 hc0_3 hr0_4 hc0_4 hr1 hc1 h
 cases k with
 |zero=>exact absurd h (by simp [impl_hasPlacing.f])
 |succ k=>
 simp only [impl_hasPlacing.f] at h
 have hu28:=Try.underlying28;have HR0_0:=ak hr0_0;have HC0_0:=ak hc0_0;clear hr0_0 hc0_0;have HR0_1:=ak hr0_1;have HC0_1:=ak hc0_1;clear hr0_1 hc0_1;have HR0_2:=ak hr0_2;have HC0_2:=ak hc0_2;clear hr0_2 hc0_2;have HR0_3:=ak hr0_3;have HC0_3:=ak hc0_3;clear hr0_3 hc0_3;have HR0_4:=ak hr0_4;have HC0_4:=ak hc0_4;clear hr0_4 hc0_4;have HR1:=ak hr1;have HC1:=ak hc1;clear hr1 hc1;have HB:=ak (Below.refl w.heap.size w);have H:=h;clear h;by_cases c3:(l1.length:Int)=(l0_2.length:Int)
 ·rw [if_pos c3] at H;obtain⟨c3b0,c3b1⟩:=bqt c3;have c3b2:(l1.length==l0_2.length)=true:=by first|simpa using c3|(simp at c3 ⊢;omega)
  clear c3;obtain rfl:=sj H;go_enter Try.func53,Try.ntmps53;go_wp2_with (first|((with_reducible refine gate_dst (N:=2) rfl ?_);(try (refine gate_guard (by rfl) ?_;dsimp only));refine bx 2 (f5 A0_0 l0_0 c0_0 A0_1 l0_1 c0_1 A0_2 l0_2 c0_2 A0_3 l0_3 c0_3 A0_4 l0_4 c0_4 a0_5) 28 ?_;intro gb0 hg w4 hbox hb;have BK0:=ak hbox;have GW550:=gw hg HB;have GE0:=gw hg HB;replace HB:=bs HB hb;clear hb hbox hg;have hcz10:=cz6 BK0.1))
  go_ret
  exact⟨ew,vb HB.1⟩
 ·rw [if_neg c3] at H;obtain⟨c3b0,c3b1⟩:=bqf c3;have c3b2:(l1.length==l0_2.length)=false:=by first|simpa using c3|(simp at c3 ⊢;omega)
  have H':=ak H;clear H;go_enter Try.func53,Try.ntmps53;go_wp2_with (first|((with_reducible refine gate_dst (N:=2) rfl ?_);(try (refine gate_guard (by rfl) ?_;dsimp only));refine bx 2 (f5 A0_0 l0_0 c0_0 A0_1 l0_1 c0_1 A0_2 l0_2 c0_2 A0_3 l0_3 c0_3 A0_4 l0_4 c0_4 a0_5) 28 ?_;intro gb0 hg w6 hbox hb;have BK0:=ak hbox;have GW550:=gw hg HB;have GE0:=gw hg HB;replace HB:=bs HB hb;clear hb hbox hg;have hcz25:=cz6 BK0.1))
  go_loopg [17] k (fun kq v2 w'=>∃(x2_1:Int),v2=.int .i64 x2_1∧Aside0 (impl_hasPlacing.l0 kq l1 (l1.length:Int) (l0_3.length:Int) x2_1 l0_0 l0_1 l0_2 l0_3 l0_4 a0_5=some r)∧Aside0 (kq≤k)∧Aside0 (w'.heap[gb0]? =some (.cells (f5 A0_0 l0_0 c0_0 A0_1 l0_1 c0_1 A0_2 l0_2 c0_2 A0_3 l0_3 c0_3 A0_4 l0_4 c0_4 a0_5) 28 (0,0)))∧Aside0 (Below w.heap.size w w'))
  case atStart=>exact⟨(0),es,H',⟨Nat.le_refl _⟩,⟨vk BK0.1⟩,⟨vb HB.1⟩⟩
  case round=>
   clear H';obtain⟨x2_1,rfl,HA,HK1,BK0,HB⟩:=hrel
   cases gk with
   |zero=>exact absurd HA.1 (by simp [impl_hasPlacing.l0])
   |succ k1=>
    have H:=HA.1;clear HA;simp only [impl_hasPlacing.l0] at H
    by_cases c8:x2_1<(l0_3.length:Int)
    ·rw [if_pos c8] at H;have c8b0:=decide_eq_true c8;clear c8;obtain⟨t35,A9,H⟩:=bnk H;by_cases c10:t35=true
     ·subst c10;rw [if_pos rfl] at H;obtain⟨t7,A11,H⟩:=bnk H;obtain⟨y4,Ny4,H⟩:=bnE H;by_cases c12:t7.length+y4.length<17592186044416
      ·rw [if_pos c12] at H;have LMc12:=ak c12;clear c12;obtain⟨y11,hy11⟩:=gen_ ((t7++y4:List Int));rw [←hy11] at H;have Ny11:=ak hy11;clear hy11;obtain⟨t36,A13,H⟩:=bnk H;by_cases c14:t36=true
       ·subst c14;rw [if_pos rfl] at H;obtain rfl:=sj H;(try go_wp2)
        replace BK0:=ak (blk_drew BK0.1);replace HB:=ak (below_drew1 HB.1);refine start_ (n:=14) (S:=fun w'=>w'.cell? ⟨gb0,0,none⟩=some (.slice A0_0 l0_0.length c0_0)∧w'.cell? ⟨gb0,1,none⟩=some (.slice A0_1 l0_1.length c0_1)∧w'.cell? ⟨gb0,2,none⟩=some (.slice A0_2 l0_2.length c0_2)∧w'.cell? ⟨gb0,3,none⟩=some (.slice A0_3 l0_3.length c0_3)∧w'.cell? ⟨gb0,4,none⟩=some (.slice A0_4 l0_4.length c0_4)∧w'.cell? ⟨gb0,5,none⟩=some (.int .i64 a0_5)) (ds:=[]) (tf 0 14) (by kernel_rfl) rfl rfl (cy6 BK0.1) (fun hHeld=>?_);refine with_tabW impl_hasPlacing.tab7 impl_hasPlacing.bits7 (fun HT_ HW_=>?_);generalize wr.drew=w15 at BK0 HB hHeld ⊢;refine pu_ 1 21 (tM [0,1,1,12]) rfl rfl ?_;refine pu_ 2 22 (tM [0,1,2,11]) rfl rfl ?_;refine pu_ 3 23 (tM [0,1,3,10]) rfl rfl ?_;refine ta6_ 0 20 (tf 4 10) rfl rfl ?_;refine one_ (i:=4) (N:=some 24) (tf 5 9) rfl rfl (one_of HT_.1 (by kernel_rfl)) (by decide) (fun K hK=>?_);refine goes_ Try.func83 (by kernel_rfl) rfl #[.agg (f5 A0_0 l0_0 c0_0 A0_1 l0_1 c0_1 A0_2 l0_2 c0_2 A0_3 l0_3 c0_3 A0_4 l0_4 c0_4 a0_5),.slice A1 l1.length c1,.int .i64 (l1.length:Int),.int .i64 x2_1] (by rfl) rfl rfl (by(try simp only [List.map_toArray,List.map_cons,List.map_nil]);first|done|rfl|(simp only [List.length_drop,List.length_take];rfl)) ?_
        with_reducible refine(impl_isFree.calls k1 _ _ l0_0 _ _ l0_1 _ _ l0_2 _ _ l0_3 _ _ l0_4 a0_5 _ _ l1 (l1.length:Int) x2_1 true _ ?_ ?_ ?_ ?_ ?_ ?_ ?_ ?_ ?_ ?_ ?_ ?_ A9.1).mono ?_
        exact vd HR0_0.1 HB.1
        exact HC0_0.1
        exact vd HR0_1.1 HB.1
        exact HC0_1.1
        exact vd HR0_2.1 HB.1
        exact HC0_2.1
        exact vd HR0_3.1 HB.1
        exact HC0_3.1
        exact vd HR0_4.1 HB.1
        exact HC0_4.1
        exact vd HR1.1 HB.1
        exact HC1.1
        rintro e w16 ⟨rfl,hb⟩;refine⟨_,rfl,?_⟩;replace BK0:=kb BK0 hb;replace HB:=bs HB hb;(try clear hb)
        (try clear hb2)
        (try clear hk)
        (try clear hi)
        refine hK.out _ _ (cy6 BK0.1) (fun hHeld=>?_);clear hK K;refine norm_ (a':=?_) ?_ ?_
        rotate_left
        ·show Act.put _ (some 24) _=_
         simp only [Act.put,List.setIfInBounds_toArray,List.set_cons_zero,List.set_cons_succ,i64_w,i32_w]
         rfl
        refine pu_ 5 25 (tf 6 8) rfl rfl ?_;refine pu_ 7 27 (tM [6,1,1,6]) rfl rfl ?_;refine pu_ 9 29 (tM [6,1,1,1,1,4]) rfl rfl ?_;refine ta6_ 6 26 (tM [8,1,1,4]) rfl rfl ?_;refine join_ (σ:=Value×Value) 3 (tf 11 3) (fun s_=>[(28,s_.1),(30,s_.2)]) (fun s_ w'=>(w'.cell? ⟨gb0,0,none⟩=some (.slice A0_0 l0_0.length c0_0)∧w'.cell? ⟨gb0,1,none⟩=some (.slice A0_1 l0_1.length c0_1)∧w'.cell? ⟨gb0,2,none⟩=some (.slice A0_2 l0_2.length c0_2)∧w'.cell? ⟨gb0,3,none⟩=some (.slice A0_3 l0_3.length c0_3)∧w'.cell? ⟨gb0,4,none⟩=some (.slice A0_4 l0_4.length c0_4)∧w'.cell? ⟨gb0,5,none⟩=some (.int .i64 a0_5))∧(Kd.R (Kd.int .i64) 2 w' w.heap.size (fun k_=>some k_≠(s_.2:Value).ownBlock) s_.1 t7)∧(Kd.R (Kd.int .i64) 2 w' w.heap.size (fun k_=>some k_≠(s_.1:Value).ownBlock) s_.2 y4)∧(w'.heap[gb0]? =some (.cells (f5 A0_0 l0_0 c0_0 A0_1 l0_1 c0_1 A0_2 l0_2 c0_2 A0_3 l0_3 c0_3 A0_4 l0_4 c0_4 a0_5) 28 (0,0)))∧(Below w.heap.size w w')) ?_ ?_
        rotate_left
        ·intro hCont;refine two_ (i:=8) (j:=10) (Ni:=some 28) (Nj:=some 30) (tf 10 4) (tM [8,1,2,3]) rfl rfl rfl rfl (two_of HT_.1 (by kernel_rfl)) (by decide) (by decide) (fun K hK=>?_) (fun K hK=>?_)
         ·skip
          refine goes_ Try.func78 (by kernel_rfl) rfl #[.slice A1 l1.length c1] (by rfl) rfl rfl (by(try simp only [List.map_toArray,List.map_cons,List.map_nil]);first|done|rfl|(simp only [List.length_drop,List.length_take];rfl)) ?_;with_reducible refine(impl_copyList.calls _ _ l1 t7 _ ?_ ?_ A11.1).mono ?_
          exact vd HR1.1 HB.1
          exact HC1.1
          rintro e w17 ⟨v8,rfl,ho5,hb⟩;refine⟨_,rfl,?_⟩;have HO6:=ak (Kd.R_lower ho5 (below_size (vb HB.1)));replace BK0:=kb BK0 hb;replace HB:=bs HB hb;(try clear hb)
          (try clear hb2)
          (try clear hk)
          (try clear hi)
          (try clear ho5)
          refine hK.out _ _ (cy6 BK0.1) (fun hHeld=>?_);clear hK K;refine norm_ (a':=?_) ?_ ?_
          rotate_left
          ·show Act.put _ (some 28) _=_
           simp only [Act.put,List.setIfInBounds_toArray,List.set_cons_zero,List.set_cons_succ,i64_w,i32_w]
           rfl
          refine one_ (i:=10) (N:=some 30) (tf 11 3) rfl rfl (one_of HT_.1 (by kernel_rfl)) (by decide) (fun K hK=>?_);refine Kd.R_lit_step (Kd.int .i64) _ 2 ?hg (N:=30) ?hd (xs:=([x2_1]:List Int)) (inner:=[.int .i64 x2_1]) (ok:=fun _=>True) (okp:=fun _=>True) ?hr ?hp (fun _ hk=>hk) trivial (Below.refl _ _) (Nat.le_refl _) (by simp) ?_;(case hd=>rfl);(case hg=>rfl);(case hr=>first|(go_simp;done)|(go_simp;rfl));(case hp=>exact(Reps.one (show Kd.M (Kd.int .i64) _ _ _ x2_1 [.int .i64 x2_1] from rfl) (Reps.none _ _)));intro v9 w18 ho17 hb hg_ hnew_;clear hg_ hnew_;(first|rw [←Ny4.1] at ho17|(simp only [Int.reduceToNat] at ho17;rw [←Ny4.1] at ho17))
          have HO3:=ak (Kd.R_lower (Kd.R_new' ho17 (Kd.R_lt (vr HO6.1))) (below_size (vb HB.1)));replace HO6:=ro HO6 ho17 hb;replace BK0:=kb BK0 hb;replace HB:=bs HB hb;clear hb ho17;refine hK.out _ _ (cy6 BK0.1) (fun hHeld=>?_);clear hK K;refine norm_ (a':=?_) ?_ ?_
          rotate_left
          ·show Act.put _ (some 30) _=_
           simp only [Act.put,List.setIfInBounds_toArray,List.set_cons_zero,List.set_cons_succ,i64_w,i32_w]
           rfl
          exact norm_ (by simp only [putAll,Act.put,List.setIfInBounds_toArray,List.set_cons_zero,List.set_cons_succ]) (hCont (v8,v9) _ ⟨hHeld,(vr (Kd.R_mono HO6.1 (fun _ hk=>hk.2))),(vr (Kd.R_mono HO3.1 (fun _ hk=>hk.2))),(vk BK0.1),(vb HB.1)⟩)
         ·skip
          refine Kd.R_lit_step (Kd.int .i64) _ 2 ?hg (N:=30) ?hd (xs:=([x2_1]:List Int)) (inner:=[.int .i64 x2_1]) (ok:=fun _=>True) (okp:=fun _=>True) ?hr ?hp (fun _ hk=>hk) trivial (Below.refl _ _) (Nat.le_refl _) (by simp) ?_;(case hd=>rfl);(case hg=>rfl);(case hr=>first|(go_simp;done)|(go_simp;rfl));(case hp=>exact(Reps.one (show Kd.M (Kd.int .i64) _ _ _ x2_1 [.int .i64 x2_1] from rfl) (Reps.none _ _)));intro v9 w17 ho23 hb hg_ hnew_;clear hg_ hnew_;(first|rw [←Ny4.1] at ho23|(simp only [Int.reduceToNat] at ho23;rw [←Ny4.1] at ho23))
          have HO3:=ak (Kd.R_lower ho23 (below_size (vb HB.1)));replace BK0:=kb BK0 hb;replace HB:=bs HB hb;clear hb ho23;refine hK.out _ _ (cy6 BK0.1) (fun hHeld=>?_);clear hK K;refine norm_ (a':=?_) ?_ ?_
          rotate_left
          ·show Act.put _ (some 30) _=_
           simp only [Act.put,List.setIfInBounds_toArray,List.set_cons_zero,List.set_cons_succ,i64_w,i32_w]
           rfl
          refine one_ (i:=8) (N:=some 28) (tf 11 3) rfl rfl (one_of HT_.1 (by kernel_rfl)) (by decide) (fun K hK=>?_);refine goes_ Try.func78 (by kernel_rfl) rfl #[.slice A1 l1.length c1] (by rfl) rfl rfl (by(try simp only [List.map_toArray,List.map_cons,List.map_nil]);first|done|rfl|(simp only [List.length_drop,List.length_take];rfl)) ?_;with_reducible refine(impl_copyList.calls _ _ l1 t7 _ ?_ ?_ A11.1).mono ?_
          exact vd HR1.1 HB.1
          exact HC1.1
          rintro e w19 ⟨v8,rfl,ho5,hb⟩;refine⟨_,rfl,?_⟩;have HO6:=ak (Kd.R_lower (Kd.R_new' ho5 (Kd.R_lt (vr HO3.1))) (below_size (vb HB.1)));replace HO3:=ro HO3 ho5 hb;replace BK0:=kb BK0 hb;replace HB:=bs HB hb;(try clear hb)
          (try clear hb2)
          (try clear hk)
          (try clear hi)
          (try clear ho5)
          refine hK.out _ _ (cy6 BK0.1) (fun hHeld=>?_);clear hK K;refine norm_ (a':=?_) ?_ ?_
          rotate_left
          ·show Act.put _ (some 28) _=_
           simp only [Act.put,List.setIfInBounds_toArray,List.set_cons_zero,List.set_cons_succ,i64_w,i32_w]
           rfl
          exact norm_ (by simp only [putAll,Act.put,List.setIfInBounds_toArray,List.set_cons_zero,List.set_cons_succ]) (hCont (v8,v9) _ ⟨hHeld,(vr (Kd.R_mono HO6.1 (fun _ hk=>hk.2))),(vr (Kd.R_mono HO3.1 (fun _ hk=>hk.2))),(vk BK0.1),(vb HB.1)⟩)
        rintro⟨v8,v9⟩ w20 ⟨hS_,h0_,h1_,h2_,h3_⟩;have n0_:Aside0 (Kd.R (Kd.int .i64) 2 w20 w.heap.size (fun k_=>some k_≠(v9:Value).ownBlock) v8 t7):=⟨h0_⟩;have n1_:Aside0 (Kd.R (Kd.int .i64) 2 w20 w.heap.size (fun k_=>some k_≠(v8:Value).ownBlock) v9 y4):=⟨h1_⟩;have n2_:Aside0 (w20.heap[gb0]? =some (.cells (f5 A0_0 l0_0 c0_0 A0_1 l0_1 c0_1 A0_2 l0_2 c0_2 A0_3 l0_3 c0_3 A0_4 l0_4 c0_4 a0_5) 28 (0,0))):=⟨h2_⟩;have n3_:Aside0 (Below w.heap.size w w20):=⟨h3_⟩;clear BK0;clear HB;clear h0_ h1_ h2_ h3_;have HO6:=n0_;have HO3:=n1_;have BK0:=n2_;have HB:=n3_;clear n0_ n1_ n2_ n3_;have hHeld:w20.cell? ⟨gb0,0,none⟩=some (.slice A0_0 l0_0.length c0_0)∧w20.cell? ⟨gb0,1,none⟩=some (.slice A0_1 l0_1.length c0_1)∧w20.cell? ⟨gb0,2,none⟩=some (.slice A0_2 l0_2.length c0_2)∧w20.cell? ⟨gb0,3,none⟩=some (.slice A0_3 l0_3.length c0_3)∧w20.cell? ⟨gb0,4,none⟩=some (.slice A0_4 l0_4.length c0_4)∧w20.cell? ⟨gb0,5,none⟩=some (.int .i64 a0_5):=hS_;obtain⟨Ao18,co18,eo18⟩:=Kd.R_slice HO3.1;(first|subst eo18|(injection eo18 with f1_ f2_ f3_;have f4_:=f1_.symm;have f5_:=f3_.symm;clear f1_ f2_ f3_;subst f4_;subst f5_))
        refine norm_ (a':=?_) ?_ ?_
        rotate_left
        ·simp only [putAll,Act.put,List.setIfInBounds_toArray,List.set_cons_zero,List.set_cons_succ]
         rfl
        refine one_ (i:=11) (N:=some 31) (tf 12 2) rfl rfl (one_of HT_.1 (by kernel_rfl)) (by decide) (fun K hK=>?_);refine Kd.R_append_rows_step (Kd.int .i64) (w0:=w) w.heap.size (by rfl) (.tmp 28) (.tmp 30) 26 2 (.int .i64 0) 8 rfl Try.underlying26 info2 rfl (by decide) (by omega) v8 t7 y4 _ _ _ (fun k_=>nB k_ Ao18 y4.length co18) (fun _=>False) rfl rfl ?aO ?aR (fun _ _ h=>h) (fun _ h=>h.elim) ?aF ?aB ?aS ?aL ?_;(case aR=>exact rc_ HO3)
        (case aB=>exact(vb HB.1))
        (case aF=>exact(fun k_ hk=>Kd.fresh' (Kd.R_lt (vr HO3.1)) k_ hk))
        (case aO=>exact(vr HO6.1))
        (case aS=>exact(below_size (vb HB.1)))
        (case aL=>have:=LMc12.1;omega)
        intro v37 w21 ho hb hg hat;rw [←Ny11.1] at ho;have n0_:=ak (blk_grown (g:=gb0) (o:=.cells (f5 A0_0 l0_0 c0_0 A0_1 l0_1 c0_1 A0_2 l0_2 c0_2 A0_3 l0_3 c0_3 A0_4 l0_4 c0_4 a0_5) 28 (0,0)) (vk BK0.1) hg (Kd.R_ne HO6.1 BK0.1 (by decide)));have n1_:=ak (Kd.R_after (ok:=(fun _=>True)) (vr (Kd.R_mono HO3.1 (fun _ hk=>⟨trivial,hk⟩))) hg hat);have n2_:=ak (hb);have n3_:=ak (ho);clear BK0;clear HO3;clear HB;clear HO6;have BK0:=n0_;have HO3:=n1_;have HB:=n2_;have HO12:=n3_;clear n0_ n1_ n2_ n3_;clear ho hb hg hat;obtain⟨Ao19,co19,eo19⟩:=Kd.R_slice HO12.1;(first|subst eo19|(injection eo19 with f1_ f2_ f3_;have f4_:=f1_.symm;have f5_:=f3_.symm;clear f1_ f2_ f3_;subst f4_;subst f5_))
        refine hK.out _ _ (cy6 BK0.1) (fun hHeld=>?_);clear hK K;refine norm_ (a':=?_) ?_ ?_
        rotate_left
        ·show Act.put _ (some 31) _=_
         simp only [Act.put,List.setIfInBounds_toArray,List.set_cons_zero,List.set_cons_succ,i64_w,i32_w]
         rfl
        refine one_ (i:=12) (N:=some 32) (tf 13 1) rfl rfl (one_of HT_.1 (by kernel_rfl)) (by decide) (fun K hK=>?_);refine goes_ Try.func53 (by kernel_rfl) rfl #[.agg (f5 A0_0 l0_0 c0_0 A0_1 l0_1 c0_1 A0_2 l0_2 c0_2 A0_3 l0_3 c0_3 A0_4 l0_4 c0_4 a0_5),.slice Ao19 y11.length co19] (by rfl) rfl rfl (by(try simp only [List.map_toArray,List.map_cons,List.map_nil]);first|done|rfl|(simp only [List.length_drop,List.length_take];rfl)) ?_;with_reducible refine(ih k1 (by have:=HK1.1;omega) _ _ l0_0 _ _ l0_1 _ _ l0_2 _ _ l0_3 _ _ l0_4 a0_5 _ _ y11 true _ ?_ ?_ ?_ ?_ ?_ ?_ ?_ ?_ ?_ ?_ ?_ ?_ A13.1).mono ?_
        exact vd HR0_0.1 HB.1
        exact HC0_0.1
        exact vd HR0_1.1 HB.1
        exact HC0_1.1
        exact vd HR0_2.1 HB.1
        exact HC0_2.1
        exact vd HR0_3.1 HB.1
        exact HC0_3.1
        exact vd HR0_4.1 HB.1
        exact HC0_4.1
        exact rc_ HO12
        exact rl_ HO12
        rintro e w24 ⟨rfl,hb⟩;refine⟨_,rfl,?_⟩;replace HO3:=rb HO3 hb;replace HO12:=rb HO12 hb;replace BK0:=kb BK0 hb;replace HB:=bs HB hb;(try clear hb)
        (try clear hb2)
        (try clear hk)
        (try clear hi)
        refine hK.out _ _ (cy6 BK0.1) (fun hHeld=>?_);clear hK K;refine norm_ (a':=?_) ?_ ?_
        rotate_left
        ·show Act.put _ (some 32) _=_
         simp only [Act.put,List.setIfInBounds_toArray,List.set_cons_zero,List.set_cons_succ,i64_w,i32_w]
         rfl
        refine pu_ 13 33 (tf 14 0) rfl rfl ?_;refine done_ (done_of HT_.1 (by kernel_rfl)) ?_;(try go_wp2)
        go_ret
        exact⟨ew,vb HB.1⟩
       ·replace c14:=Bool.eq_false_iff.mpr c14;subst c14;rw [if_neg nf] at H;have H':=ak H;clear H;(try go_wp2)
        replace BK0:=ak (blk_drew BK0.1);replace HB:=ak (below_drew1 HB.1);refine start_ (n:=14) (S:=fun w'=>w'.cell? ⟨gb0,0,none⟩=some (.slice A0_0 l0_0.length c0_0)∧w'.cell? ⟨gb0,1,none⟩=some (.slice A0_1 l0_1.length c0_1)∧w'.cell? ⟨gb0,2,none⟩=some (.slice A0_2 l0_2.length c0_2)∧w'.cell? ⟨gb0,3,none⟩=some (.slice A0_3 l0_3.length c0_3)∧w'.cell? ⟨gb0,4,none⟩=some (.slice A0_4 l0_4.length c0_4)∧w'.cell? ⟨gb0,5,none⟩=some (.int .i64 a0_5)) (ds:=[]) (tf 0 14) (by kernel_rfl) rfl rfl (cy6 BK0.1) (fun hHeld=>?_);refine with_tabW impl_hasPlacing.tab7 impl_hasPlacing.bits7 (fun HT_ HW_=>?_);generalize wr.drew=w25 at BK0 HB hHeld ⊢;refine pu_ 1 21 (tM [0,1,1,12]) rfl rfl ?_;refine pu_ 2 22 (tM [0,1,2,11]) rfl rfl ?_;refine pu_ 3 23 (tM [0,1,3,10]) rfl rfl ?_;refine ta6_ 0 20 (tf 4 10) rfl rfl ?_;refine one_ (i:=4) (N:=some 24) (tf 5 9) rfl rfl (one_of HT_.1 (by kernel_rfl)) (by decide) (fun K hK=>?_);refine goes_ Try.func83 (by kernel_rfl) rfl #[.agg (f5 A0_0 l0_0 c0_0 A0_1 l0_1 c0_1 A0_2 l0_2 c0_2 A0_3 l0_3 c0_3 A0_4 l0_4 c0_4 a0_5),.slice A1 l1.length c1,.int .i64 (l1.length:Int),.int .i64 x2_1] (by rfl) rfl rfl (by(try simp only [List.map_toArray,List.map_cons,List.map_nil]);first|done|rfl|(simp only [List.length_drop,List.length_take];rfl)) ?_
        with_reducible refine(impl_isFree.calls k1 _ _ l0_0 _ _ l0_1 _ _ l0_2 _ _ l0_3 _ _ l0_4 a0_5 _ _ l1 (l1.length:Int) x2_1 true _ ?_ ?_ ?_ ?_ ?_ ?_ ?_ ?_ ?_ ?_ ?_ ?_ A9.1).mono ?_
        exact vd HR0_0.1 HB.1
        exact HC0_0.1
        exact vd HR0_1.1 HB.1
        exact HC0_1.1
        exact vd HR0_2.1 HB.1
        exact HC0_2.1
        exact vd HR0_3.1 HB.1
        exact HC0_3.1
        exact vd HR0_4.1 HB.1
        exact HC0_4.1
        exact vd HR1.1 HB.1
        exact HC1.1
        rintro e w26 ⟨rfl,hb⟩;refine⟨_,rfl,?_⟩;replace BK0:=kb BK0 hb;replace HB:=bs HB hb;(try clear hb)
        (try clear hb2)
        (try clear hk)
        (try clear hi)
        refine hK.out _ _ (cy6 BK0.1) (fun hHeld=>?_);clear hK K;refine norm_ (a':=?_) ?_ ?_
        rotate_left
        ·show Act.put _ (some 24) _=_
         simp only [Act.put,List.setIfInBounds_toArray,List.set_cons_zero,List.set_cons_succ,i64_w,i32_w]
         rfl
        refine pu_ 5 25 (tf 6 8) rfl rfl ?_;refine pu_ 7 27 (tM [6,1,1,6]) rfl rfl ?_;refine pu_ 9 29 (tM [6,1,1,1,1,4]) rfl rfl ?_;refine ta6_ 6 26 (tM [8,1,1,4]) rfl rfl ?_;refine join_ (σ:=Value×Value) 3 (tf 11 3) (fun s_=>[(28,s_.1),(30,s_.2)]) (fun s_ w'=>(w'.cell? ⟨gb0,0,none⟩=some (.slice A0_0 l0_0.length c0_0)∧w'.cell? ⟨gb0,1,none⟩=some (.slice A0_1 l0_1.length c0_1)∧w'.cell? ⟨gb0,2,none⟩=some (.slice A0_2 l0_2.length c0_2)∧w'.cell? ⟨gb0,3,none⟩=some (.slice A0_3 l0_3.length c0_3)∧w'.cell? ⟨gb0,4,none⟩=some (.slice A0_4 l0_4.length c0_4)∧w'.cell? ⟨gb0,5,none⟩=some (.int .i64 a0_5))∧(Kd.R (Kd.int .i64) 2 w' w.heap.size (fun k_=>some k_≠(s_.2:Value).ownBlock) s_.1 t7)∧(Kd.R (Kd.int .i64) 2 w' w.heap.size (fun k_=>some k_≠(s_.1:Value).ownBlock) s_.2 y4)∧(w'.heap[gb0]? =some (.cells (f5 A0_0 l0_0 c0_0 A0_1 l0_1 c0_1 A0_2 l0_2 c0_2 A0_3 l0_3 c0_3 A0_4 l0_4 c0_4 a0_5) 28 (0,0)))∧(Below w.heap.size w w')) ?_ ?_
        rotate_left
        ·intro hCont;refine two_ (i:=8) (j:=10) (Ni:=some 28) (Nj:=some 30) (tf 10 4) (tM [8,1,2,3]) rfl rfl rfl rfl (two_of HT_.1 (by kernel_rfl)) (by decide) (by decide) (fun K hK=>?_) (fun K hK=>?_)
         ·skip
          refine goes_ Try.func78 (by kernel_rfl) rfl #[.slice A1 l1.length c1] (by rfl) rfl rfl (by(try simp only [List.map_toArray,List.map_cons,List.map_nil]);first|done|rfl|(simp only [List.length_drop,List.length_take];rfl)) ?_;with_reducible refine(impl_copyList.calls _ _ l1 t7 _ ?_ ?_ A11.1).mono ?_
          exact vd HR1.1 HB.1
          exact HC1.1
          rintro e w27 ⟨v8,rfl,ho5,hb⟩;refine⟨_,rfl,?_⟩;have HO6:=ak (Kd.R_lower ho5 (below_size (vb HB.1)));replace BK0:=kb BK0 hb;replace HB:=bs HB hb;(try clear hb)
          (try clear hb2)
          (try clear hk)
          (try clear hi)
          (try clear ho5)
          refine hK.out _ _ (cy6 BK0.1) (fun hHeld=>?_);clear hK K;refine norm_ (a':=?_) ?_ ?_
          rotate_left
          ·show Act.put _ (some 28) _=_
           simp only [Act.put,List.setIfInBounds_toArray,List.set_cons_zero,List.set_cons_succ,i64_w,i32_w]
           rfl
          refine one_ (i:=10) (N:=some 30) (tf 11 3) rfl rfl (one_of HT_.1 (by kernel_rfl)) (by decide) (fun K hK=>?_);refine Kd.R_lit_step (Kd.int .i64) _ 2 ?hg (N:=30) ?hd (xs:=([x2_1]:List Int)) (inner:=[.int .i64 x2_1]) (ok:=fun _=>True) (okp:=fun _=>True) ?hr ?hp (fun _ hk=>hk) trivial (Below.refl _ _) (Nat.le_refl _) (by simp) ?_;(case hd=>rfl);(case hg=>rfl);(case hr=>first|(go_simp;done)|(go_simp;rfl));(case hp=>exact(Reps.one (show Kd.M (Kd.int .i64) _ _ _ x2_1 [.int .i64 x2_1] from rfl) (Reps.none _ _)));intro v9 w28 ho20 hb hg_ hnew_;clear hg_ hnew_;(first|rw [←Ny4.1] at ho20|(simp only [Int.reduceToNat] at ho20;rw [←Ny4.1] at ho20))
          have HO3:=ak (Kd.R_lower (Kd.R_new' ho20 (Kd.R_lt (vr HO6.1))) (below_size (vb HB.1)));replace HO6:=ro HO6 ho20 hb;replace BK0:=kb BK0 hb;replace HB:=bs HB hb;clear hb ho20;refine hK.out _ _ (cy6 BK0.1) (fun hHeld=>?_);clear hK K;refine norm_ (a':=?_) ?_ ?_
          rotate_left
          ·show Act.put _ (some 30) _=_
           simp only [Act.put,List.setIfInBounds_toArray,List.set_cons_zero,List.set_cons_succ,i64_w,i32_w]
           rfl
          exact norm_ (by simp only [putAll,Act.put,List.setIfInBounds_toArray,List.set_cons_zero,List.set_cons_succ]) (hCont (v8,v9) _ ⟨hHeld,(vr (Kd.R_mono HO6.1 (fun _ hk=>hk.2))),(vr (Kd.R_mono HO3.1 (fun _ hk=>hk.2))),(vk BK0.1),(vb HB.1)⟩)
         ·skip
          refine Kd.R_lit_step (Kd.int .i64) _ 2 ?hg (N:=30) ?hd (xs:=([x2_1]:List Int)) (inner:=[.int .i64 x2_1]) (ok:=fun _=>True) (okp:=fun _=>True) ?hr ?hp (fun _ hk=>hk) trivial (Below.refl _ _) (Nat.le_refl _) (by simp) ?_;(case hd=>rfl);(case hg=>rfl);(case hr=>first|(go_simp;done)|(go_simp;rfl));(case hp=>exact(Reps.one (show Kd.M (Kd.int .i64) _ _ _ x2_1 [.int .i64 x2_1] from rfl) (Reps.none _ _)));intro v9 w27 ho24 hb hg_ hnew_;clear hg_ hnew_;(first|rw [←Ny4.1] at ho24|(simp only [Int.reduceToNat] at ho24;rw [←Ny4.1] at ho24))
          have HO3:=ak (Kd.R_lower ho24 (below_size (vb HB.1)));replace BK0:=kb BK0 hb;replace HB:=bs HB hb;clear hb ho24;refine hK.out _ _ (cy6 BK0.1) (fun hHeld=>?_);clear hK K;refine norm_ (a':=?_) ?_ ?_
          rotate_left
          ·show Act.put _ (some 30) _=_
           simp only [Act.put,List.setIfInBounds_toArray,List.set_cons_zero,List.set_cons_succ,i64_w,i32_w]
           rfl
          refine one_ (i:=8) (N:=some 28) (tf 11 3) rfl rfl (one_of HT_.1 (by kernel_rfl)) (by decide) (fun K hK=>?_);refine goes_ Try.func78 (by kernel_rfl) rfl #[.slice A1 l1.length c1] (by rfl) rfl rfl (by(try simp only [List.map_toArray,List.map_cons,List.map_nil]);first|done|rfl|(simp only [List.length_drop,List.length_take];rfl)) ?_;with_reducible refine(impl_copyList.calls _ _ l1 t7 _ ?_ ?_ A11.1).mono ?_
          exact vd HR1.1 HB.1
          exact HC1.1
          rintro e w29 ⟨v8,rfl,ho5,hb⟩;refine⟨_,rfl,?_⟩;have HO6:=ak (Kd.R_lower (Kd.R_new' ho5 (Kd.R_lt (vr HO3.1))) (below_size (vb HB.1)));replace HO3:=ro HO3 ho5 hb;replace BK0:=kb BK0 hb;replace HB:=bs HB hb;(try clear hb)
          (try clear hb2)
          (try clear hk)
          (try clear hi)
          (try clear ho5)
          refine hK.out _ _ (cy6 BK0.1) (fun hHeld=>?_);clear hK K;refine norm_ (a':=?_) ?_ ?_
          rotate_left
          ·show Act.put _ (some 28) _=_
           simp only [Act.put,List.setIfInBounds_toArray,List.set_cons_zero,List.set_cons_succ,i64_w,i32_w]
           rfl
          exact norm_ (by simp only [putAll,Act.put,List.setIfInBounds_toArray,List.set_cons_zero,List.set_cons_succ]) (hCont (v8,v9) _ ⟨hHeld,(vr (Kd.R_mono HO6.1 (fun _ hk=>hk.2))),(vr (Kd.R_mono HO3.1 (fun _ hk=>hk.2))),(vk BK0.1),(vb HB.1)⟩)
        rintro⟨v8,v9⟩ w30 ⟨hS_,h0_,h1_,h2_,h3_⟩;have n0_:Aside0 (Kd.R (Kd.int .i64) 2 w30 w.heap.size (fun k_=>some k_≠(v9:Value).ownBlock) v8 t7):=⟨h0_⟩;have n1_:Aside0 (Kd.R (Kd.int .i64) 2 w30 w.heap.size (fun k_=>some k_≠(v8:Value).ownBlock) v9 y4):=⟨h1_⟩;have n2_:Aside0 (w30.heap[gb0]? =some (.cells (f5 A0_0 l0_0 c0_0 A0_1 l0_1 c0_1 A0_2 l0_2 c0_2 A0_3 l0_3 c0_3 A0_4 l0_4 c0_4 a0_5) 28 (0,0))):=⟨h2_⟩;have n3_:Aside0 (Below w.heap.size w w30):=⟨h3_⟩;clear BK0;clear HB;clear h0_ h1_ h2_ h3_;have HO6:=n0_;have HO3:=n1_;have BK0:=n2_;have HB:=n3_;clear n0_ n1_ n2_ n3_;have hHeld:w30.cell? ⟨gb0,0,none⟩=some (.slice A0_0 l0_0.length c0_0)∧w30.cell? ⟨gb0,1,none⟩=some (.slice A0_1 l0_1.length c0_1)∧w30.cell? ⟨gb0,2,none⟩=some (.slice A0_2 l0_2.length c0_2)∧w30.cell? ⟨gb0,3,none⟩=some (.slice A0_3 l0_3.length c0_3)∧w30.cell? ⟨gb0,4,none⟩=some (.slice A0_4 l0_4.length c0_4)∧w30.cell? ⟨gb0,5,none⟩=some (.int .i64 a0_5):=hS_;obtain⟨Ao21,co21,eo21⟩:=Kd.R_slice HO3.1;(first|subst eo21|(injection eo21 with f1_ f2_ f3_;have f4_:=f1_.symm;have f5_:=f3_.symm;clear f1_ f2_ f3_;subst f4_;subst f5_))
        refine norm_ (a':=?_) ?_ ?_
        rotate_left
        ·simp only [putAll,Act.put,List.setIfInBounds_toArray,List.set_cons_zero,List.set_cons_succ]
         rfl
        refine one_ (i:=11) (N:=some 31) (tf 12 2) rfl rfl (one_of HT_.1 (by kernel_rfl)) (by decide) (fun K hK=>?_);refine Kd.R_append_rows_step (Kd.int .i64) (w0:=w) w.heap.size (by rfl) (.tmp 28) (.tmp 30) 26 2 (.int .i64 0) 8 rfl Try.underlying26 info2 rfl (by decide) (by omega) v8 t7 y4 _ _ _ (fun k_=>nB k_ Ao21 y4.length co21) (fun _=>False) rfl rfl ?aO ?aR (fun _ _ h=>h) (fun _ h=>h.elim) ?aF ?aB ?aS ?aL ?_;(case aR=>exact rc_ HO3)
        (case aB=>exact(vb HB.1))
        (case aF=>exact(fun k_ hk=>Kd.fresh' (Kd.R_lt (vr HO3.1)) k_ hk))
        (case aO=>exact(vr HO6.1))
        (case aS=>exact(below_size (vb HB.1)))
        (case aL=>have:=LMc12.1;omega)
        intro v37 w31 ho hb hg hat;rw [←Ny11.1] at ho;have n0_:=ak (blk_grown (g:=gb0) (o:=.cells (f5 A0_0 l0_0 c0_0 A0_1 l0_1 c0_1 A0_2 l0_2 c0_2 A0_3 l0_3 c0_3 A0_4 l0_4 c0_4 a0_5) 28 (0,0)) (vk BK0.1) hg (Kd.R_ne HO6.1 BK0.1 (by decide)));have n1_:=ak (Kd.R_after (ok:=(fun _=>True)) (vr (Kd.R_mono HO3.1 (fun _ hk=>⟨trivial,hk⟩))) hg hat);have n2_:=ak (hb);have n3_:=ak (ho);clear BK0;clear HO3;clear HB;clear HO6;have BK0:=n0_;have HO3:=n1_;have HB:=n2_;have HO12:=n3_;clear n0_ n1_ n2_ n3_;clear ho hb hg hat;obtain⟨Ao22,co22,eo22⟩:=Kd.R_slice HO12.1;(first|subst eo22|(injection eo22 with f1_ f2_ f3_;have f4_:=f1_.symm;have f5_:=f3_.symm;clear f1_ f2_ f3_;subst f4_;subst f5_))
        refine hK.out _ _ (cy6 BK0.1) (fun hHeld=>?_);clear hK K;refine norm_ (a':=?_) ?_ ?_
        rotate_left
        ·show Act.put _ (some 31) _=_
         simp only [Act.put,List.setIfInBounds_toArray,List.set_cons_zero,List.set_cons_succ,i64_w,i32_w]
         rfl
        refine one_ (i:=12) (N:=some 32) (tf 13 1) rfl rfl (one_of HT_.1 (by kernel_rfl)) (by decide) (fun K hK=>?_);refine goes_ Try.func53 (by kernel_rfl) rfl #[.agg (f5 A0_0 l0_0 c0_0 A0_1 l0_1 c0_1 A0_2 l0_2 c0_2 A0_3 l0_3 c0_3 A0_4 l0_4 c0_4 a0_5),.slice Ao22 y11.length co22] (by rfl) rfl rfl (by(try simp only [List.map_toArray,List.map_cons,List.map_nil]);first|done|rfl|(simp only [List.length_drop,List.length_take];rfl)) ?_;with_reducible refine(ih k1 (by have:=HK1.1;omega) _ _ l0_0 _ _ l0_1 _ _ l0_2 _ _ l0_3 _ _ l0_4 a0_5 _ _ y11 false _ ?_ ?_ ?_ ?_ ?_ ?_ ?_ ?_ ?_ ?_ ?_ ?_ A13.1).mono ?_
        exact vd HR0_0.1 HB.1
        exact HC0_0.1
        exact vd HR0_1.1 HB.1
        exact HC0_1.1
        exact vd HR0_2.1 HB.1
        exact HC0_2.1
        exact vd HR0_3.1 HB.1
        exact HC0_3.1
        exact vd HR0_4.1 HB.1
        exact HC0_4.1
        exact rc_ HO12
        exact rl_ HO12
        rintro e w34 ⟨rfl,hb⟩;refine⟨_,rfl,?_⟩;replace HO3:=rb HO3 hb;replace HO12:=rb HO12 hb;replace BK0:=kb BK0 hb;replace HB:=bs HB hb;(try clear hb)
        (try clear hb2)
        (try clear hk)
        (try clear hi)
        refine hK.out _ _ (cy6 BK0.1) (fun hHeld=>?_);clear hK K;refine norm_ (a':=?_) ?_ ?_
        rotate_left
        ·show Act.put _ (some 32) _=_
         simp only [Act.put,List.setIfInBounds_toArray,List.set_cons_zero,List.set_cons_succ,i64_w,i32_w]
         rfl
        refine pu_ 13 33 (tf 14 0) rfl rfl ?_;refine done_ (done_of HT_.1 (by kernel_rfl)) ?_;(try go_wp2)
        go_roundg k1
        case measure=>have:=HK1.1;omega
        case rel=>exact⟨(wrap64 (x2_1+1)),es,H',⟨by have:=HK1.1;omega⟩,⟨vk BK0.1⟩,⟨vb HB.1⟩⟩
      ·exact nO_ c12 H
     ·replace c10:=Bool.eq_false_iff.mpr c10;subst c10;rw [if_neg nf] at H;have H':=ak H;clear H;(try go_wp2)
      replace BK0:=ak (blk_drew BK0.1);replace HB:=ak (below_drew1 HB.1);refine start_ (n:=14) (S:=fun w'=>w'.cell? ⟨gb0,0,none⟩=some (.slice A0_0 l0_0.length c0_0)∧w'.cell? ⟨gb0,1,none⟩=some (.slice A0_1 l0_1.length c0_1)∧w'.cell? ⟨gb0,2,none⟩=some (.slice A0_2 l0_2.length c0_2)∧w'.cell? ⟨gb0,3,none⟩=some (.slice A0_3 l0_3.length c0_3)∧w'.cell? ⟨gb0,4,none⟩=some (.slice A0_4 l0_4.length c0_4)∧w'.cell? ⟨gb0,5,none⟩=some (.int .i64 a0_5)) (ds:=[]) (tf 0 14) (by kernel_rfl) rfl rfl (cy6 BK0.1) (fun hHeld=>?_);refine with_tabW impl_hasPlacing.tab7 impl_hasPlacing.bits7 (fun HT_ HW_=>?_);generalize wr.drew=w35 at BK0 HB hHeld ⊢;refine pu_ 1 21 (tM [0,1,1,12]) rfl rfl ?_;refine pu_ 2 22 (tM [0,1,2,11]) rfl rfl ?_;refine pu_ 3 23 (tM [0,1,3,10]) rfl rfl ?_;refine ta6_ 0 20 (tf 4 10) rfl rfl ?_;refine one_ (i:=4) (N:=some 24) (tf 5 9) rfl rfl (one_of HT_.1 (by kernel_rfl)) (by decide) (fun K hK=>?_);refine goes_ Try.func83 (by kernel_rfl) rfl #[.agg (f5 A0_0 l0_0 c0_0 A0_1 l0_1 c0_1 A0_2 l0_2 c0_2 A0_3 l0_3 c0_3 A0_4 l0_4 c0_4 a0_5),.slice A1 l1.length c1,.int .i64 (l1.length:Int),.int .i64 x2_1] (by rfl) rfl rfl (by(try simp only [List.map_toArray,List.map_cons,List.map_nil]);first|done|rfl|(simp only [List.length_drop,List.length_take];rfl)) ?_
      with_reducible refine(impl_isFree.calls k1 _ _ l0_0 _ _ l0_1 _ _ l0_2 _ _ l0_3 _ _ l0_4 a0_5 _ _ l1 (l1.length:Int) x2_1 false _ ?_ ?_ ?_ ?_ ?_ ?_ ?_ ?_ ?_ ?_ ?_ ?_ A9.1).mono ?_
      exact vd HR0_0.1 HB.1
      exact HC0_0.1
      exact vd HR0_1.1 HB.1
      exact HC0_1.1
      exact vd HR0_2.1 HB.1
      exact HC0_2.1
      exact vd HR0_3.1 HB.1
      exact HC0_3.1
      exact vd HR0_4.1 HB.1
      exact HC0_4.1
      exact vd HR1.1 HB.1
      exact HC1.1
      rintro e w36 ⟨rfl,hb⟩;refine⟨_,rfl,?_⟩;replace BK0:=kb BK0 hb;replace HB:=bs HB hb;(try clear hb)
      (try clear hb2)
      (try clear hk)
      (try clear hi)
      refine hK.out _ _ (cy6 BK0.1) (fun hHeld=>?_);clear hK K;refine norm_ (a':=?_) ?_ ?_
      rotate_left
      ·show Act.put _ (some 24) _=_
       simp only [Act.put,List.setIfInBounds_toArray,List.set_cons_zero,List.set_cons_succ,i64_w,i32_w]
       rfl
      refine pu_ 5 25 (tf 6 8) rfl rfl ?_;refine un_ 6 26 (tf 7 7) rfl rfl ?_;refine un_ 7 27 (tf 8 6) rfl rfl ?_;refine un_ 8 28 (tf 9 5) rfl rfl ?_;refine un_ 9 29 (tf 10 4) rfl rfl ?_;refine un_ 10 30 (tf 11 3) rfl rfl ?_;refine un_ 11 31 (tf 12 2) rfl rfl ?_;refine un_ 12 32 (tf 13 1) rfl rfl ?_;refine pu_ 13 33 (tf 14 0) rfl rfl ?_;refine done_ (done_of HT_.1 (by kernel_rfl)) ?_;(try go_wp2)
      go_roundg k1
      case measure=>have:=HK1.1;omega
      case rel=>exact⟨(wrap64 (x2_1+1)),es,H',⟨by have:=HK1.1;omega⟩,⟨vk BK0.1⟩,⟨vb HB.1⟩⟩
    ·rw [if_neg c8] at H;have c8b0:=decide_eq_false c8;clear c8;obtain rfl:=sj H;go_wp2
     go_ret
     exact⟨ew,vb HB.1⟩
def spec_l01In.f (a0:Int) (a1:Int) (a2:Int):Option (Bool):=if a0≥a1 then (some (decide (a0≤a2))) else (some false)
theorem spec_l01In.calls (a0:Int) (a1:Int) (a2:Int) (r:Bool) (w:World) (h:spec_l01In.f a0 a1 a2=some r):
  Calls Try.prog 98 #[.int .i64 a0,.int .i64 a1,.int .i64 a2] w fun e w'=>e=.returned (.bool r)∧Drawn0 w w':=by
 unfold spec_l01In.f at h;have H:=h;clear h;by_cases c4:a0≥a1
 rw [if_pos c4] at H;have c4b0:=decide_eq_true c4;clear c4;obtain rfl:=sj H;rotate_left
 rw [if_neg c4] at H;have c4b0:=decide_eq_false c4;clear c4;obtain rfl:=sj H;rotate_left
 all_goals
  go_enter Try.func98,Try.ntmps98;go_wp2
  go_ret
  exact⟨by first|rfl|(simp;done)|(simp [*];done),by repeat (first|exact Drawn0.refl _|apply Drawn0.step)⟩
def spec_l15Place.f (a0:Int) (a1:Int):Option (Bool):=(spec_l01In.f a0 0 100000).bind fun t0=>(if t0=true then ((spec_l01In.f a1 0 100000).bind fun t1=>(some t1)) else (some false))
theorem spec_l15Place.calls (a0:Int) (a1:Int) (r:Bool) (w:World) (h:spec_l15Place.f a0 a1=some r):
  Calls Try.prog 99 #[.int .i64 a0,.int .i64 a1] w fun e w'=>e=.returned (.bool r)∧Drawn0 w w':=by
 unfold spec_l15Place.f at h;have H:=h;clear h;obtain⟨t0,A3,H⟩:=bnk H;by_cases c4:t0=true
 subst c4;rw [if_pos rfl] at H;obtain⟨t1,A5,H⟩:=bnk H;obtain rfl:=sj H;rotate_left
 replace c4:=Bool.eq_false_iff.mpr c4;subst c4;rw [if_neg nf] at H;obtain rfl:=sj H;rotate_left
 all_goals
  go_enter Try.func99,Try.ntmps99;go_wp2_with (first|((with_reducible refine at_fn (f:=98) rfl ?_);refine gl (some 6) Try.func98 #[.int .i64 a0,.int .i64 0,.int .i64 100000] ?_;(with_reducible refine(spec_l01In.calls a0 0 100000 _ _ A3.1).mono ?_);rintro e w' ⟨rfl,⟨nd,rfl⟩⟩;refine⟨_,rfl,?_⟩)|(go_at_call 98;(with_reducible refine(spec_l01In.calls a1 0 100000 t1 _ A5.1).mono ?_);rintro e w' ⟨rfl,⟨nd,rfl⟩⟩))
  go_ret
  exact⟨by first|rfl|(simp;done)|(simp [*];done),by repeat (first|exact Drawn0.refl _|apply Drawn0.step)⟩
def spec_l16Before.f (a0_0:Int) (a0_1:Int) (a0_2:Int) (a1_0:Int) (a1_1:Int) (a1_2:Int):Option (Bool):=if a0_0<a1_0 then (some true) else (if a0_0=a1_0 then (some (decide (a0_1<a1_1))) else (some false))
theorem spec_l16Before.calls (a0_0:Int) (a0_1:Int) (a0_2:Int) (a1_0:Int) (a1_1:Int) (a1_2:Int) (r:Bool) (w:World) (h:spec_l16Before.f a0_0 a0_1 a0_2 a1_0 a1_1 a1_2=some r):
  Calls Try.prog 114 #[.agg #[.int .i64 a0_0,.int .i64 a0_1,.int .i64 a0_2],.agg #[.int .i64 a1_0,.int .i64 a1_1,.int .i64 a1_2]] w fun e w'=>e=.returned (.bool r)∧Below w.heap.size w w':=by
 have hu91:=Try.underlying91;have HB:=ak (Below.refl w.heap.size w);unfold spec_l16Before.f at h;have H:=h;clear h;by_cases c3:a0_0<a1_0
 rw [if_pos c3] at H;have c3b0:=decide_eq_true c3;clear c3;obtain rfl:=sj H;rotate_left
 rw [if_neg c3] at H;have c3b0:=decide_eq_false c3;clear c3;by_cases c9:a0_0=a1_0
 rw [if_pos c9] at H;obtain⟨c9b0,c9b1⟩:=bqt c9;clear c9;obtain rfl:=sj H;rotate_left
 rw [if_neg c9] at H;obtain⟨c9b0,c9b1⟩:=bqf c9;obtain rfl:=sj H;rotate_left
 all_goals
  go_enter Try.func114,Try.ntmps114;go_wp2_with (first|((with_reducible refine gate_dst (N:=2) rfl ?_);refine bx 2 #[.int .i64 a0_0,.int .i64 a0_1,.int .i64 a0_2] 91 ?_;intro gb0 hg w9 hbox hb;have BK0:=ak hbox;have GW585:=gw hg HB;have GE0:=gw hg HB;replace HB:=bs HB hb;clear hb hbox hg)|((with_reducible refine gate_dst (N:=3) rfl ?_);refine bx 3 #[.int .i64 a1_0,.int .i64 a1_1,.int .i64 a1_2] 91 ?_;intro gb1 hg w9 hbox hb;have BK1:=ak hbox;have GW586:=gw hg HB;have GE1:=gw hg HB;replace HB:=bs HB hb;have NB0_1:=nl hg BK0;have NB1_0:=nr hg BK0;replace BK0:=kb BK0 hb;clear hb hbox hg;have:=NB0_1.1;have:=NB1_0.1;have hcz2:=cz3 BK0.1;have hcz2:=cz3 BK1.1))
  go_ret
  exact⟨ew,vb HB.1⟩
mutual
def spec_IsTable.l0:Nat→List (S91)→Int→Option (Bool)
 |0,_,_=>none
 |k+1,x5,x3=>if x3<(x5.length:Int) then (if 0≤x3 then ((spec_l01In.f ((rd_T91 x5 x3).f0) 0 3).bind fun t13=>(if t13=true then ((spec_l01In.f ((rd_T91 x5 x3).f1) 20 300).bind fun t14=>(if t14=true then ((spec_l01In.f ((rd_T91 x5 x3).f2) 0 10000).bind fun t12=>(spec_IsTable.j1 k x5 x3 (!t12) ((rd_T91 x5 x3).f0) ((rd_T91 x5 x3).f1) ((rd_T91 x5 x3).f2))) else (spec_IsTable.j1 k x5 x3 true ((rd_T91 x5 x3).f0) ((rd_T91 x5 x3).f1) ((rd_T91 x5 x3).f2)))) else (spec_IsTable.j1 k x5 x3 true ((rd_T91 x5 x3).f0) ((rd_T91 x5 x3).f1) ((rd_T91 x5 x3).f2)))) else (none)) else (some (decide ((x5.length:Int)≤12)))
def spec_IsTable.j1:Nat→List (S91)→Int→Bool→Int→Int→Int→Option (Bool)
 |0,_,_,_,_,_,_=>none
 |k+1,x5,x3,x10,x15,x17,x16=>if x10=true then (some false) else (if x3>0 then (if 0≤(wrap64 (x3-1)) then (if (wrap64 (x3-1))<(x5.length:Int) then ((spec_l16Before.f ((rd_T91 x5 (wrap64 (x3-1))).f0) ((rd_T91 x5 (wrap64 (x3-1))).f1) ((rd_T91 x5 (wrap64 (x3-1))).f2) x15 x17 x16).bind fun t11=>(if t11=true then (if ((rd_T91 x5 (wrap64 (x3-1))).f0)=x15 then (if ((rd_T91 x5 (wrap64 (x3-1))).f2)>x16 then (some false) else (spec_IsTable.l0 k x5 (wrap64 (x3+1)))) else (spec_IsTable.l0 k x5 (wrap64 (x3+1)))) else (some false))) else (none)) else (none)) else (spec_IsTable.l0 k x5 (wrap64 (x3+1))))
end
def spec_IsTable.f (k:Nat) (l0:List (S91)):Option (Bool):=spec_IsTable.l0 k l0 0
def spec_IsTable.T7:Bool×List (List Nat×List Nat):=(true,[([],[]),([0],[0]),([1],[1]),([2],[2]),([2],[2]),([4,2],[2,4]),([3,5,2],[2,3,5]),([6,2],[2,6]),([2],[2]),([7,8,2,2],[2,7,8]),([9,2],[2,9]),([10,9,2],[2,10]),([11],[11]),([11],[11]),([13,11],[11,13]),([12,14,11],[11,12,14]),([15,11],[11,15]),([16,11],[11,16]),([11],[11]),([18,11],[11,18]),([17,19,11],[11,17,19]),([20,11,11],[11,20]),([21],[21]),([21],[21]),([23,21],[21,23]),([22,24,21],[21,22,24]),([25,21],[21,25]),([26,21],[21,26]),([21],[21]),([28,21],[21,28]),([27,29,21],[21,27,29]),([21,30,11],[11,21,30]),([11,31,2],[2,11,31]),([2,32],[2,32])])
def spec_IsTable.B7:List Nat:=[0,1,3,7,7,23,63,127,7,511,1023,2047,4095,4095,12287,32767,65535,131071,4095,266239,1048575,2097151,4194303,4194303,12582911,33554431,67108863,134217727,4194303,272629759,1073741823,2147483647,4294967295,8589934591]
theorem spec_IsTable.tab7:rtab .any (opsOf Try.f100 7)=spec_IsTable.T7:=by kernel_rfl
theorem spec_IsTable.bits7:waitsOk spec_IsTable.T7.2 spec_IsTable.B7=true:=by kernel_rfl
theorem spec_IsTable.calls (k:Nat) (A0:Option Addr) (c0:Nat) (l0:List (S91)) (r:Bool) (w:World) (hr0:Kd.C k91 w A0 l0.length l0) (hc0:l0.length≤c0) (h:spec_IsTable.f k l0=some r):
  Calls Try.prog 100 #[.slice A0 l0.length c0] w fun e w'=>e=.returned (.bool r)∧Below w.heap.size w w':=by
 have hu91:=Try.underlying91;have HR0:=ak hr0;have HC0:=ak hc0;clear hr0 hc0;have HB:=ak (Below.refl w.heap.size w);unfold spec_IsTable.f at h;have H:=h;clear h;have H':=ak H;clear H;go_enter Try.func100,Try.ntmps100;go_wp2
 go_loopg [3] k (fun kq v3 w'=>∃(x3_0:Int),v3=.int .i64 x3_0∧Aside0 (spec_IsTable.l0 kq l0 x3_0=some r)∧Aside0 (kq≤k)∧Aside0 (Below w.heap.size w w'))
 case atStart=>exact⟨(0),es,H',⟨Nat.le_refl _⟩,⟨vb HB.1⟩⟩
 case round=>
  clear H';obtain⟨x3_0,rfl,HA,HK1,HB⟩:=hrel
  cases gk with
  |zero=>exact absurd HA.1 (by simp [spec_IsTable.l0])
  |succ k1=>
   have H:=HA.1;clear HA;simp only [spec_IsTable.l0] at H
   by_cases c2:x3_0<(l0.length:Int)
   ·rw [if_pos c2] at H;have c2b0:=decide_eq_true c2;clear c2;by_cases c3:0≤x3_0
    ·rw [if_pos c3] at H;have c3b0:=decide_eq_true c3;clear c3;have HC4:=ak H;clear H;have p9:0≤(x3_0:Int):=od;have q9:x3_0<(l0.length:Int):=od;obtain⟨ad9,e9,hx9_5,hx9_0,hx9_6⟩:=at_T91b HR0.1 HB.1 x3_0 p9 q9
     cases e9;replace p9:=eq_true p9;replace q9:=eq_true q9;go_upto_region 5 with (first|((with_reducible refine gate_dst (N:=4) rfl ?_);refine bx 4 #[.int .i64 0,.int .i64 0,.int .i64 0] 91 ?_;intro gb8 hg w5 hbox hb;have BK8:=ak hbox;have GW588:=gw hg HB;have GE8:=gw hg HB;replace HB:=bs HB hb;clear hb hbox hg;have hcz18:=cz3 BK8.1))
     (try simp only [Act.put,List.setIfInBounds_toArray,List.set_cons_zero,List.set_cons_succ])
     go_cut [30] (fun v10 wc=>∃(kq:Nat) (x10_3:Bool),v10=.bool x10_3∧Aside0 (spec_IsTable.j1 kq l0 x3_0 x10_3 ((rd_T91 l0 x3_0).f0) ((rd_T91 l0 x3_0).f1) ((rd_T91 l0 x3_0).f2)=some r)∧Aside0 (kq≤k1)∧Aside0 (wc.heap[gb8]? =some (.cells #[.int .i64 ((rd_T91 l0 x3_0).f0),.int .i64 ((rd_T91 l0 x3_0).f1),.int .i64 ((rd_T91 l0 x3_0).f2)] 91 (0,0)))∧Aside0 (Below w.heap.size w wc))
     case first=>
      have H:=HC4.1;clear HC4;obtain⟨t13,A7,H⟩:=bnk H;by_cases c8:t13=true
      ·subst c8;rw [if_pos rfl] at H;obtain⟨t14,A9,H⟩:=bnk H;by_cases c10:t14=true
       ·subst c10;rw [if_pos rfl] at H;obtain⟨t12,A11,H⟩:=bnk H;have H':=ak H;clear H;have hcz19:=cz3 BK8.1;go_wp2_with (first|((with_reducible refine at_fn (f:=98) rfl ?_);refine gl (some 17) Try.func98 #[.int .i64 ((rd_T91 l0 x3_0).f0),.int .i64 0,.int .i64 3] ?_;(with_reducible refine(spec_l01In.calls ((rd_T91 l0 x3_0).f0) 0 3 _ _ A7.1).mono ?_);rintro e w' ⟨rfl,⟨nd,rfl⟩⟩;refine⟨_,rfl,?_⟩)|(go_at_call 98;(with_reducible refine(spec_l01In.calls ((rd_T91 l0 x3_0).f1) 20 300 _ _ A9.1).mono ?_);rintro e w' ⟨rfl,⟨nd,rfl⟩⟩)|(go_at_call 98;(with_reducible refine(spec_l01In.calls ((rd_T91 l0 x3_0).f2) 0 10000 t12 _ A11.1).mono ?_);rintro e w' ⟨rfl,⟨nd,rfl⟩⟩))
        go_meet
        case rel=>exact⟨_,(!t12),es,H',⟨by have:=HK1.1;first|omega|exact Nat.le_refl _⟩,⟨by(with_reducible repeat (first|refine blk_drewN ?_ _|refine blk_drew ?_|refine blk_alloc ?_ _));refine blk_put (cs:=#[.int .i64 ((rd_T91 l0 x3_0).f0),.int .i64 ((rd_T91 l0 x3_0).f1),.int .i64 0]) ?_ 2 _ rfl;(with_reducible repeat (first|refine blk_drewN ?_ _|refine blk_drew ?_|refine blk_alloc ?_ _));refine blk_put (cs:=#[.int .i64 ((rd_T91 l0 x3_0).f0),.int .i64 0,.int .i64 0]) ?_ 1 _ rfl;(with_reducible repeat (first|refine blk_drewN ?_ _|refine blk_drew ?_|refine blk_alloc ?_ _));refine blk_put (cs:=#[.int .i64 0,.int .i64 0,.int .i64 0]) ?_ 0 _ rfl;exact vk BK8.1⟩,⟨vb HB.1⟩⟩
       ·replace c10:=Bool.eq_false_iff.mpr c10;subst c10;rw [if_neg nf] at H;have H':=ak H;clear H;have hcz20:=cz3 BK8.1;go_wp2_with (first|((with_reducible refine at_fn (f:=98) rfl ?_);refine gl (some 17) Try.func98 #[.int .i64 ((rd_T91 l0 x3_0).f0),.int .i64 0,.int .i64 3] ?_;(with_reducible refine(spec_l01In.calls ((rd_T91 l0 x3_0).f0) 0 3 _ _ A7.1).mono ?_);rintro e w' ⟨rfl,⟨nd,rfl⟩⟩;refine⟨_,rfl,?_⟩)|(go_at_call 98;(with_reducible refine(spec_l01In.calls ((rd_T91 l0 x3_0).f1) 20 300 _ _ A9.1).mono ?_);rintro e w' ⟨rfl,⟨nd,rfl⟩⟩))
        go_meet
        case rel=>exact⟨_,(true),es,H',⟨by have:=HK1.1;first|omega|exact Nat.le_refl _⟩,⟨by(with_reducible repeat (first|refine blk_drewN ?_ _|refine blk_drew ?_|refine blk_alloc ?_ _));refine blk_put (cs:=#[.int .i64 ((rd_T91 l0 x3_0).f0),.int .i64 ((rd_T91 l0 x3_0).f1),.int .i64 0]) ?_ 2 _ rfl;(with_reducible repeat (first|refine blk_drewN ?_ _|refine blk_drew ?_|refine blk_alloc ?_ _));refine blk_put (cs:=#[.int .i64 ((rd_T91 l0 x3_0).f0),.int .i64 0,.int .i64 0]) ?_ 1 _ rfl;(with_reducible repeat (first|refine blk_drewN ?_ _|refine blk_drew ?_|refine blk_alloc ?_ _));refine blk_put (cs:=#[.int .i64 0,.int .i64 0,.int .i64 0]) ?_ 0 _ rfl;exact vk BK8.1⟩,⟨vb HB.1⟩⟩
      ·replace c8:=Bool.eq_false_iff.mpr c8;subst c8;rw [if_neg nf] at H;have H':=ak H;clear H;have hcz21:=cz3 BK8.1;go_wp2_with (first|((with_reducible refine at_fn (f:=98) rfl ?_);refine gl (some 17) Try.func98 #[.int .i64 ((rd_T91 l0 x3_0).f0),.int .i64 0,.int .i64 3] ?_;(with_reducible refine(spec_l01In.calls ((rd_T91 l0 x3_0).f0) 0 3 _ _ A7.1).mono ?_);rintro e w' ⟨rfl,⟨nd,rfl⟩⟩;refine⟨_,rfl,?_⟩))
       go_meet
       case rel=>exact⟨_,(true),es,H',⟨by have:=HK1.1;first|omega|exact Nat.le_refl _⟩,⟨by(with_reducible repeat (first|refine blk_drewN ?_ _|refine blk_drew ?_|refine blk_alloc ?_ _));refine blk_put (cs:=#[.int .i64 ((rd_T91 l0 x3_0).f0),.int .i64 ((rd_T91 l0 x3_0).f1),.int .i64 0]) ?_ 2 _ rfl;(with_reducible repeat (first|refine blk_drewN ?_ _|refine blk_drew ?_|refine blk_alloc ?_ _));refine blk_put (cs:=#[.int .i64 ((rd_T91 l0 x3_0).f0),.int .i64 0,.int .i64 0]) ?_ 1 _ rfl;(with_reducible repeat (first|refine blk_drewN ?_ _|refine blk_drew ?_|refine blk_alloc ?_ _));refine blk_put (cs:=#[.int .i64 0,.int .i64 0,.int .i64 0]) ?_ 0 _ rfl;exact vk BK8.1⟩,⟨vb HB.1⟩⟩
     case rest=>
      clear HC4;obtain⟨kq,x10_3,rfl,HA,HJ3,BK8,HB⟩:=hcut
      cases kq with
      |zero=>exact absurd HA.1 (by simp [spec_IsTable.j1])
      |succ kj3=>
       have H:=HA.1;clear HA;simp only [spec_IsTable.j1] at H
       by_cases c15:x10_3=true
       ·subst c15;rw [if_pos rfl] at H;obtain rfl:=sj H;go_wp2
        go_ret
        exact⟨ew,vb HB.1⟩
       ·replace c15:=Bool.eq_false_iff.mpr c15;subst c15;rw [if_neg nf] at H;by_cases c16:x3_0>0
        ·rw [if_pos c16] at H;have c16b0:=decide_eq_true c16;clear c16;obtain⟨ji2,hji17⟩:∃j_:Int,(wrap64 (x3_0-1))=j_:=⟨_,rfl⟩;replace H:(if 0≤(ji2) then (if (ji2)<(l0.length:Int) then ((spec_l16Before.f ((rd_T91 l0 (ji2)).f0) ((rd_T91 l0 (ji2)).f1) ((rd_T91 l0 (ji2)).f2) ((rd_T91 l0 x3_0).f0) ((rd_T91 l0 x3_0).f1) ((rd_T91 l0 x3_0).f2)).bind fun t11=>(if t11=true then (if ((rd_T91 l0 (ji2)).f0)=((rd_T91 l0 x3_0).f0) then (if ((rd_T91 l0 (ji2)).f2)>((rd_T91 l0 x3_0).f2) then (some false) else (spec_IsTable.l0 kj3 l0 (wrap64 (x3_0+1)))) else (spec_IsTable.l0 kj3 l0 (wrap64 (x3_0+1)))) else (some false))) else (none)) else (none))=some r:=by first|(rw [hji17] at H;exact H)|(simp only [hji17] at H ⊢;exact H)
         have hji17w:(IntKind.i64.wrap (x3_0-1))=ji2:=(i64_w _).trans hji17;by_cases c18:0≤(ji2)
         ·rw [if_pos c18] at H;have c18b0:=decide_eq_true c18;clear c18;by_cases c19:(ji2)<(l0.length:Int)
          ·rw [if_pos c19] at H;have c19b0:=decide_eq_true c19;clear c19;obtain⟨t11,A20,H⟩:=bnk H;by_cases c21:t11=true
           ·subst c21;rw [if_pos rfl] at H;by_cases c22:((rd_T91 l0 (ji2)).f0)=((rd_T91 l0 x3_0).f0)
            ·rw [if_pos c22] at H;have c22b0:(((rd_T91 l0 (ji2)).f0)==((rd_T91 l0 x3_0).f0))=true:=beq_iff_eq.mpr c22;have c22b1:(((rd_T91 l0 (ji2)).f0) !=((rd_T91 l0 x3_0).f0))=false:=bne_eq_false_iff_eq.mpr c22;clear c22;by_cases c23:((rd_T91 l0 (ji2)).f2)>((rd_T91 l0 x3_0).f2)
             ·rw [if_pos c23] at H;have c23b0:=decide_eq_true c23;clear c23;obtain rfl:=sj H;(try go_wp2)
              replace BK8:=ak (blk_drew BK8.1);replace HB:=ak (below_drew1 HB.1);have p1:0≤((ji2):Int):=od;have q1:(ji2)<(l0.length:Int):=od;obtain⟨ad1,e1,hx1_5,hx1_0,hx1_6⟩:=at_T91 HR0.1 (ji2) p1 q1;have hw1_6:=hx1_6;have hw1_0:=hx1_0;have hw1_5:=hx1_5;obtain rfl:ad9=ad1:=(by injection e1);replace hx1_5:=cb HB.1 hx1_5;replace hx1_0:=cb HB.1 hx1_0;replace hx1_6:=cb HB.1 hx1_6;replace p1:=eq_true p1;replace q1:=eq_true q1;have p4:0≤((ji2):Int):=od;have q4:(ji2)<(l0.length:Int):=od;obtain⟨ad4,e4,hx4_5,hx4_0,hx4_6⟩:=at_T91 HR0.1 (ji2) p4 q4;have hw4_6:=hx4_6;have hw4_0:=hx4_0;have hw4_5:=hx4_5;obtain rfl:ad9=ad4:=(by injection e4);replace hx4_5:=cb HB.1 hx4_5;replace hx4_0:=cb HB.1 hx4_0;replace hx4_6:=cb HB.1 hx4_6;replace p4:=eq_true p4;replace q4:=eq_true q4;have p7:0≤((ji2):Int):=od;have q7:(ji2)<(l0.length:Int):=od;obtain⟨ad7,e7,hx7_5,hx7_0,hx7_6⟩:=at_T91 HR0.1 (ji2) p7 q7;have hw7_6:=hx7_6;have hw7_0:=hx7_0;have hw7_5:=hx7_5;obtain rfl:ad9=ad7:=(by injection e7);replace hx7_5:=cb HB.1 hx7_5;replace hx7_0:=cb HB.1 hx7_0;replace hx7_6:=cb HB.1 hx7_6;replace p7:=eq_true p7;replace q7:=eq_true q7
              refine start_ (n:=34) (S:=fun w'=>w'.cell? ⟨gb8,0,none⟩=some (.int .i64 ((rd_T91 l0 x3_0).f0))∧w'.cell? ⟨gb8,1,none⟩=some (.int .i64 ((rd_T91 l0 x3_0).f1))∧w'.cell? ⟨gb8,2,none⟩=some (.int .i64 ((rd_T91 l0 x3_0).f2))∧w'.cell? (ad9.add (((ji2)).toNat*3))=some (.int .i64 ((rd_T91 l0 (ji2)).f0))∧w'.cell? ⟨(ad9.add (((ji2)).toNat*3)).block,(ad9.add (((ji2)).toNat*3)).off+1,none⟩=some (.int .i64 ((rd_T91 l0 (ji2)).f1))∧w'.cell? ⟨(ad9.add (((ji2)).toNat*3)).block,(ad9.add (((ji2)).toNat*3)).off+2,none⟩=some (.int .i64 ((rd_T91 l0 (ji2)).f2))∧w'.cell? (ad9.add (((ji2)).toNat*3))=some (.int .i64 ((rd_T91 l0 (ji2)).f0))∧w'.cell? ⟨(ad9.add (((ji2)).toNat*3)).block,(ad9.add (((ji2)).toNat*3)).off+1,none⟩=some (.int .i64 ((rd_T91 l0 (ji2)).f1))∧w'.cell? ⟨(ad9.add (((ji2)).toNat*3)).block,(ad9.add (((ji2)).toNat*3)).off+2,none⟩=some (.int .i64 ((rd_T91 l0 (ji2)).f2))∧w'.cell? (ad9.add (((ji2)).toNat*3))=some (.int .i64 ((rd_T91 l0 (ji2)).f0))∧w'.cell? ⟨(ad9.add (((ji2)).toNat*3)).block,(ad9.add (((ji2)).toNat*3)).off+1,none⟩=some (.int .i64 ((rd_T91 l0 (ji2)).f1))∧w'.cell? ⟨(ad9.add (((ji2)).toNat*3)).block,(ad9.add (((ji2)).toNat*3)).off+2,none⟩=some (.int .i64 ((rd_T91 l0 (ji2)).f2))) (ds:=[]) (tf 0 34) (by kernel_rfl) rfl rfl ⟨bk BK8.1 0,bk BK8.1 1,bk BK8.1 2,(cb HB.1 hw1_5:),(cb HB.1 hw1_0:),(cb HB.1 hw1_6:),(cb HB.1 hw4_5:),(cb HB.1 hw4_0:),(cb HB.1 hw4_6:),(cb HB.1 hw7_5:),(cb HB.1 hw7_0:),(cb HB.1 hw7_6:)⟩ (fun hHeld=>?_);refine with_tabW spec_IsTable.tab7 spec_IsTable.bits7 (fun HT_ HW_=>?_)
              generalize wc.drew=w24 at BK8 HB hx1_5 hx1_0 hx1_6 hx4_5 hx4_0 hx4_6 hx7_5 hx7_0 hx7_6 hHeld ⊢;refine pu_ 0 31 (tf 1 33) rfl rfl ?_;refine pu_ 1 32 (tf 2 32) rfl rfl ?_;refine pu_ 2 33 (tf 3 31) rfl rfl ?_;refine pu_ 3 34 (tf 4 30) rfl rfl ?_;refine pu_ 4 35 (tf 5 29) rfl rfl ?_;refine pu_ 5 36 (tf 6 28) rfl rfl ?_;refine pu_ 6 37 (tf 7 27) rfl rfl ?_;refine ta12_ 7 38 (tf 8 26) rfl rfl ?_;refine ta12_ 8 39 (tf 9 25) rfl rfl ?_;refine one_ (i:=9) (N:=some 40) (tf 10 24) rfl rfl (one_of HT_.1 (by kernel_rfl)) (by decide) (fun K hK=>?_);refine goes_ Try.func114 (by kernel_rfl) rfl #[.agg #[.int .i64 ((rd_T91 l0 (ji2)).f0),.int .i64 ((rd_T91 l0 (ji2)).f1),.int .i64 ((rd_T91 l0 (ji2)).f2)],.agg #[.int .i64 ((rd_T91 l0 x3_0).f0),.int .i64 ((rd_T91 l0 x3_0).f1),.int .i64 ((rd_T91 l0 x3_0).f2)]] (by rfl) rfl rfl (by(try simp only [List.map_toArray,List.map_cons,List.map_nil]);first|done|(simp only [hji17];rfl)|rfl|(simp only [List.length_drop,List.length_take];rfl)) ?_;with_reducible refine(spec_l16Before.calls ((rd_T91 l0 (ji2)).f0) ((rd_T91 l0 (ji2)).f1) ((rd_T91 l0 (ji2)).f2) ((rd_T91 l0 x3_0).f0) ((rd_T91 l0 x3_0).f1) ((rd_T91 l0 x3_0).f2) true _ A20.1).mono ?_
              rintro e w25 ⟨rfl,hb⟩;refine⟨_,rfl,?_⟩;replace BK8:=kb BK8 hb;replace HB:=bs HB hb;(try clear hb)
              (try clear hb2)
              (try clear hk)
              (try clear hi)
              refine hK.out _ _ ⟨bk BK8.1 0,bk BK8.1 1,bk BK8.1 2,(cb HB.1 hw1_5:),(cb HB.1 hw1_0:),(cb HB.1 hw1_6:),(cb HB.1 hw4_5:),(cb HB.1 hw4_0:),(cb HB.1 hw4_6:),(cb HB.1 hw7_5:),(cb HB.1 hw7_0:),(cb HB.1 hw7_6:)⟩ (fun hHeld=>?_);clear hK K;refine norm_ (a':=?_) ?_ ?_
              rotate_left
              ·show Act.put _ (some 40) _=_
               simp only [Act.put,List.setIfInBounds_toArray,List.set_cons_zero,List.set_cons_succ,i64_w,i32_w]
               rfl
              refine pu_ 10 41 (tf 11 23) rfl rfl ?_;refine pu_ 11 42 (tf 12 22) rfl rfl ?_;refine pu_ 12 43 (tf 13 21) rfl rfl ?_;refine pu_ 13 44 (tf 14 20) rfl rfl ?_;refine pu_ 14 45 (tf 15 19) rfl rfl ?_;refine pu_ 15 46 (tf 16 18) rfl rfl ?_;refine pu_ 16 47 (tf 17 17) rfl rfl ?_;refine pu_ 18 49 (tM [17,1,1,15]) rfl rfl ?_;refine ta12_ 17 48 (tf 19 15) rfl rfl ?_;refine ta12_ 19 50 (tf 20 14) rfl rfl ?_;refine pu_ 20 51 (tf 21 13) rfl rfl ?_;refine pu_ 21 52 (tf 22 12) rfl rfl ?_;refine pu_ 22 53 (tf 23 11) rfl rfl ?_;refine pu_ 23 54 (tf 24 10) rfl rfl ?_;refine pu_ 24 55 (tf 25 9) rfl rfl ?_;refine pu_ 25 56 (tf 26 8) rfl rfl ?_;refine pu_ 26 57 (tf 27 7) rfl rfl ?_;refine pu_ 28 59 (tM [27,1,1,5]) rfl rfl ?_;refine ta12_ 27 58 (tf 29 5) rfl rfl ?_;refine ta12_ 29 60 (tf 30 4) rfl rfl ?_;refine pu_ 30 61 (tf 31 3) rfl rfl ?_;refine pu_ 31 62 (tf 32 2) rfl rfl ?_;refine pu_ 32 63 (tf 33 1) rfl rfl ?_;refine pu_ 33 64 (tf 34 0) rfl rfl ?_;refine done_ (done_of HT_.1 (by kernel_rfl)) ?_;(try go_wp2)
              go_ret
              exact⟨by first|rfl|(simp [errW_none,errW_some]<;>rfl)|(simp only [←hji17];first|rfl|(simp [errW_none,errW_some]<;>rfl))|(simp [*,errW_none,errW_some]<;>rfl),vb HB.1⟩
             ·rw [if_neg c23] at H;have c23b0:=decide_eq_false c23;clear c23;have H':=ak H;clear H;(try go_wp2)
              replace BK8:=ak (blk_drew BK8.1);replace HB:=ak (below_drew1 HB.1);have p1:0≤((ji2):Int):=od;have q1:(ji2)<(l0.length:Int):=od;obtain⟨ad1,e1,hx1_5,hx1_0,hx1_6⟩:=at_T91 HR0.1 (ji2) p1 q1;have hw1_6:=hx1_6;have hw1_0:=hx1_0;have hw1_5:=hx1_5;obtain rfl:ad9=ad1:=(by injection e1);replace hx1_5:=cb HB.1 hx1_5;replace hx1_0:=cb HB.1 hx1_0;replace hx1_6:=cb HB.1 hx1_6;replace p1:=eq_true p1;replace q1:=eq_true q1;have p4:0≤((ji2):Int):=od;have q4:(ji2)<(l0.length:Int):=od;obtain⟨ad4,e4,hx4_5,hx4_0,hx4_6⟩:=at_T91 HR0.1 (ji2) p4 q4;have hw4_6:=hx4_6;have hw4_0:=hx4_0;have hw4_5:=hx4_5;obtain rfl:ad9=ad4:=(by injection e4);replace hx4_5:=cb HB.1 hx4_5;replace hx4_0:=cb HB.1 hx4_0;replace hx4_6:=cb HB.1 hx4_6;replace p4:=eq_true p4;replace q4:=eq_true q4;have p7:0≤((ji2):Int):=od;have q7:(ji2)<(l0.length:Int):=od;obtain⟨ad7,e7,hx7_5,hx7_0,hx7_6⟩:=at_T91 HR0.1 (ji2) p7 q7;have hw7_6:=hx7_6;have hw7_0:=hx7_0;have hw7_5:=hx7_5;obtain rfl:ad9=ad7:=(by injection e7);replace hx7_5:=cb HB.1 hx7_5;replace hx7_0:=cb HB.1 hx7_0;replace hx7_6:=cb HB.1 hx7_6;replace p7:=eq_true p7;replace q7:=eq_true q7
              refine start_ (n:=34) (S:=fun w'=>w'.cell? ⟨gb8,0,none⟩=some (.int .i64 ((rd_T91 l0 x3_0).f0))∧w'.cell? ⟨gb8,1,none⟩=some (.int .i64 ((rd_T91 l0 x3_0).f1))∧w'.cell? ⟨gb8,2,none⟩=some (.int .i64 ((rd_T91 l0 x3_0).f2))∧w'.cell? (ad9.add (((ji2)).toNat*3))=some (.int .i64 ((rd_T91 l0 (ji2)).f0))∧w'.cell? ⟨(ad9.add (((ji2)).toNat*3)).block,(ad9.add (((ji2)).toNat*3)).off+1,none⟩=some (.int .i64 ((rd_T91 l0 (ji2)).f1))∧w'.cell? ⟨(ad9.add (((ji2)).toNat*3)).block,(ad9.add (((ji2)).toNat*3)).off+2,none⟩=some (.int .i64 ((rd_T91 l0 (ji2)).f2))∧w'.cell? (ad9.add (((ji2)).toNat*3))=some (.int .i64 ((rd_T91 l0 (ji2)).f0))∧w'.cell? ⟨(ad9.add (((ji2)).toNat*3)).block,(ad9.add (((ji2)).toNat*3)).off+1,none⟩=some (.int .i64 ((rd_T91 l0 (ji2)).f1))∧w'.cell? ⟨(ad9.add (((ji2)).toNat*3)).block,(ad9.add (((ji2)).toNat*3)).off+2,none⟩=some (.int .i64 ((rd_T91 l0 (ji2)).f2))∧w'.cell? (ad9.add (((ji2)).toNat*3))=some (.int .i64 ((rd_T91 l0 (ji2)).f0))∧w'.cell? ⟨(ad9.add (((ji2)).toNat*3)).block,(ad9.add (((ji2)).toNat*3)).off+1,none⟩=some (.int .i64 ((rd_T91 l0 (ji2)).f1))∧w'.cell? ⟨(ad9.add (((ji2)).toNat*3)).block,(ad9.add (((ji2)).toNat*3)).off+2,none⟩=some (.int .i64 ((rd_T91 l0 (ji2)).f2))) (ds:=[]) (tf 0 34) (by kernel_rfl) rfl rfl ⟨bk BK8.1 0,bk BK8.1 1,bk BK8.1 2,(cb HB.1 hw1_5:),(cb HB.1 hw1_0:),(cb HB.1 hw1_6:),(cb HB.1 hw4_5:),(cb HB.1 hw4_0:),(cb HB.1 hw4_6:),(cb HB.1 hw7_5:),(cb HB.1 hw7_0:),(cb HB.1 hw7_6:)⟩ (fun hHeld=>?_);refine with_tabW spec_IsTable.tab7 spec_IsTable.bits7 (fun HT_ HW_=>?_)
              generalize wc.drew=w26 at BK8 HB hx1_5 hx1_0 hx1_6 hx4_5 hx4_0 hx4_6 hx7_5 hx7_0 hx7_6 hHeld ⊢;refine pu_ 0 31 (tf 1 33) rfl rfl ?_;refine pu_ 1 32 (tf 2 32) rfl rfl ?_;refine pu_ 2 33 (tf 3 31) rfl rfl ?_;refine pu_ 3 34 (tf 4 30) rfl rfl ?_;refine pu_ 4 35 (tf 5 29) rfl rfl ?_;refine pu_ 5 36 (tf 6 28) rfl rfl ?_;refine pu_ 6 37 (tf 7 27) rfl rfl ?_;refine ta12_ 7 38 (tf 8 26) rfl rfl ?_;refine ta12_ 8 39 (tf 9 25) rfl rfl ?_;refine one_ (i:=9) (N:=some 40) (tf 10 24) rfl rfl (one_of HT_.1 (by kernel_rfl)) (by decide) (fun K hK=>?_);refine goes_ Try.func114 (by kernel_rfl) rfl #[.agg #[.int .i64 ((rd_T91 l0 (ji2)).f0),.int .i64 ((rd_T91 l0 (ji2)).f1),.int .i64 ((rd_T91 l0 (ji2)).f2)],.agg #[.int .i64 ((rd_T91 l0 x3_0).f0),.int .i64 ((rd_T91 l0 x3_0).f1),.int .i64 ((rd_T91 l0 x3_0).f2)]] (by rfl) rfl rfl (by(try simp only [List.map_toArray,List.map_cons,List.map_nil]);first|done|(simp only [hji17];rfl)|rfl|(simp only [List.length_drop,List.length_take];rfl)) ?_;with_reducible refine(spec_l16Before.calls ((rd_T91 l0 (ji2)).f0) ((rd_T91 l0 (ji2)).f1) ((rd_T91 l0 (ji2)).f2) ((rd_T91 l0 x3_0).f0) ((rd_T91 l0 x3_0).f1) ((rd_T91 l0 x3_0).f2) true _ A20.1).mono ?_
              rintro e w27 ⟨rfl,hb⟩;refine⟨_,rfl,?_⟩;replace BK8:=kb BK8 hb;replace HB:=bs HB hb;(try clear hb)
              (try clear hb2)
              (try clear hk)
              (try clear hi)
              refine hK.out _ _ ⟨bk BK8.1 0,bk BK8.1 1,bk BK8.1 2,(cb HB.1 hw1_5:),(cb HB.1 hw1_0:),(cb HB.1 hw1_6:),(cb HB.1 hw4_5:),(cb HB.1 hw4_0:),(cb HB.1 hw4_6:),(cb HB.1 hw7_5:),(cb HB.1 hw7_0:),(cb HB.1 hw7_6:)⟩ (fun hHeld=>?_);clear hK K;refine norm_ (a':=?_) ?_ ?_
              rotate_left
              ·show Act.put _ (some 40) _=_
               simp only [Act.put,List.setIfInBounds_toArray,List.set_cons_zero,List.set_cons_succ,i64_w,i32_w]
               rfl
              refine pu_ 10 41 (tf 11 23) rfl rfl ?_;refine pu_ 11 42 (tf 12 22) rfl rfl ?_;refine pu_ 12 43 (tf 13 21) rfl rfl ?_;refine pu_ 13 44 (tf 14 20) rfl rfl ?_;refine pu_ 14 45 (tf 15 19) rfl rfl ?_;refine pu_ 15 46 (tf 16 18) rfl rfl ?_;refine pu_ 16 47 (tf 17 17) rfl rfl ?_;refine pu_ 18 49 (tM [17,1,1,15]) rfl rfl ?_;refine ta12_ 17 48 (tf 19 15) rfl rfl ?_;refine ta12_ 19 50 (tf 20 14) rfl rfl ?_;refine pu_ 20 51 (tf 21 13) rfl rfl ?_;refine pu_ 21 52 (tf 22 12) rfl rfl ?_;refine pu_ 22 53 (tf 23 11) rfl rfl ?_;refine pu_ 23 54 (tf 24 10) rfl rfl ?_;refine pu_ 24 55 (tf 25 9) rfl rfl ?_;refine pu_ 25 56 (tf 26 8) rfl rfl ?_;refine pu_ 26 57 (tf 27 7) rfl rfl ?_;refine pu_ 28 59 (tM [27,1,1,5]) rfl rfl ?_;refine ta12_ 27 58 (tf 29 5) rfl rfl ?_;refine ta12_ 29 60 (tf 30 4) rfl rfl ?_;refine pu_ 30 61 (tf 31 3) rfl rfl ?_;refine pu_ 31 62 (tf 32 2) rfl rfl ?_;refine pu_ 32 63 (tf 33 1) rfl rfl ?_;refine pu_ 33 64 (tf 34 0) rfl rfl ?_;refine done_ (done_of HT_.1 (by kernel_rfl)) ?_;(try go_wp2)
              go_roundg kj3
              case measure=>have:=HK1.1;have:=HJ3.1;omega
              case rel=>exact⟨(wrap64 (x3_0+1)),es,H',⟨by have:=HK1.1;have:=HJ3.1;omega⟩,⟨vb HB.1⟩⟩
            ·rw [if_neg c22] at H;have c22b0:(((rd_T91 l0 (ji2)).f0)==((rd_T91 l0 x3_0).f0))=false:=beq_eq_false_iff_ne.mpr c22;have c22b1:(((rd_T91 l0 (ji2)).f0) !=((rd_T91 l0 x3_0).f0))=true:=bne_iff_ne.mpr c22;have H':=ak H;clear H;(try go_wp2)
             replace BK8:=ak (blk_drew BK8.1);replace HB:=ak (below_drew1 HB.1);have p1:0≤((ji2):Int):=od;have q1:(ji2)<(l0.length:Int):=od;obtain⟨ad1,e1,hx1_5,hx1_0,hx1_6⟩:=at_T91 HR0.1 (ji2) p1 q1;have hw1_6:=hx1_6;have hw1_0:=hx1_0;have hw1_5:=hx1_5;obtain rfl:ad9=ad1:=(by injection e1);replace hx1_5:=cb HB.1 hx1_5;replace hx1_0:=cb HB.1 hx1_0;replace hx1_6:=cb HB.1 hx1_6;replace p1:=eq_true p1;replace q1:=eq_true q1;have p4:0≤((ji2):Int):=od;have q4:(ji2)<(l0.length:Int):=od;obtain⟨ad4,e4,hx4_5,hx4_0,hx4_6⟩:=at_T91 HR0.1 (ji2) p4 q4;have hw4_6:=hx4_6;have hw4_0:=hx4_0;have hw4_5:=hx4_5;obtain rfl:ad9=ad4:=(by injection e4);replace hx4_5:=cb HB.1 hx4_5;replace hx4_0:=cb HB.1 hx4_0;replace hx4_6:=cb HB.1 hx4_6;replace p4:=eq_true p4;replace q4:=eq_true q4;refine start_ (n:=34) (S:=fun w'=>w'.cell? ⟨gb8,0,none⟩=some (.int .i64 ((rd_T91 l0 x3_0).f0))∧w'.cell? ⟨gb8,1,none⟩=some (.int .i64 ((rd_T91 l0 x3_0).f1))∧w'.cell? ⟨gb8,2,none⟩=some (.int .i64 ((rd_T91 l0 x3_0).f2))∧w'.cell? (ad9.add (((ji2)).toNat*3))=some (.int .i64 ((rd_T91 l0 (ji2)).f0))∧w'.cell? ⟨(ad9.add (((ji2)).toNat*3)).block,(ad9.add (((ji2)).toNat*3)).off+1,none⟩=some (.int .i64 ((rd_T91 l0 (ji2)).f1))∧w'.cell? ⟨(ad9.add (((ji2)).toNat*3)).block,(ad9.add (((ji2)).toNat*3)).off+2,none⟩=some (.int .i64 ((rd_T91 l0 (ji2)).f2))∧w'.cell? (ad9.add (((ji2)).toNat*3))=some (.int .i64 ((rd_T91 l0 (ji2)).f0))∧w'.cell? ⟨(ad9.add (((ji2)).toNat*3)).block,(ad9.add (((ji2)).toNat*3)).off+1,none⟩=some (.int .i64 ((rd_T91 l0 (ji2)).f1))∧w'.cell? ⟨(ad9.add (((ji2)).toNat*3)).block,(ad9.add (((ji2)).toNat*3)).off+2,none⟩=some (.int .i64 ((rd_T91 l0 (ji2)).f2))) (ds:=[]) (tf 0 34) (by kernel_rfl) rfl rfl ⟨bk BK8.1 0,bk BK8.1 1,bk BK8.1 2,(cb HB.1 hw1_5:),(cb HB.1 hw1_0:),(cb HB.1 hw1_6:),(cb HB.1 hw4_5:),(cb HB.1 hw4_0:),(cb HB.1 hw4_6:)⟩ (fun hHeld=>?_);refine with_tabW spec_IsTable.tab7 spec_IsTable.bits7 (fun HT_ HW_=>?_)
             generalize wc.drew=w28 at BK8 HB hx1_5 hx1_0 hx1_6 hx4_5 hx4_0 hx4_6 hHeld ⊢;refine pu_ 0 31 (tf 1 33) rfl rfl ?_;refine pu_ 1 32 (tf 2 32) rfl rfl ?_;refine pu_ 2 33 (tf 3 31) rfl rfl ?_;refine pu_ 3 34 (tf 4 30) rfl rfl ?_;refine pu_ 4 35 (tf 5 29) rfl rfl ?_;refine pu_ 5 36 (tf 6 28) rfl rfl ?_;refine pu_ 6 37 (tf 7 27) rfl rfl ?_;refine ta9_ 7 38 (tf 8 26) rfl rfl ?_;refine ta9_ 8 39 (tf 9 25) rfl rfl ?_;refine one_ (i:=9) (N:=some 40) (tf 10 24) rfl rfl (one_of HT_.1 (by kernel_rfl)) (by decide) (fun K hK=>?_);refine goes_ Try.func114 (by kernel_rfl) rfl #[.agg #[.int .i64 ((rd_T91 l0 (ji2)).f0),.int .i64 ((rd_T91 l0 (ji2)).f1),.int .i64 ((rd_T91 l0 (ji2)).f2)],.agg #[.int .i64 ((rd_T91 l0 x3_0).f0),.int .i64 ((rd_T91 l0 x3_0).f1),.int .i64 ((rd_T91 l0 x3_0).f2)]] (by rfl) rfl rfl (by(try simp only [List.map_toArray,List.map_cons,List.map_nil]);first|done|(simp only [hji17];rfl)|rfl|(simp only [List.length_drop,List.length_take];rfl)) ?_;with_reducible refine(spec_l16Before.calls ((rd_T91 l0 (ji2)).f0) ((rd_T91 l0 (ji2)).f1) ((rd_T91 l0 (ji2)).f2) ((rd_T91 l0 x3_0).f0) ((rd_T91 l0 x3_0).f1) ((rd_T91 l0 x3_0).f2) true _ A20.1).mono ?_
             rintro e w29 ⟨rfl,hb⟩;refine⟨_,rfl,?_⟩;replace BK8:=kb BK8 hb;replace HB:=bs HB hb;(try clear hb)
             (try clear hb2)
             (try clear hk)
             (try clear hi)
             refine hK.out _ _ ⟨bk BK8.1 0,bk BK8.1 1,bk BK8.1 2,(cb HB.1 hw1_5:),(cb HB.1 hw1_0:),(cb HB.1 hw1_6:),(cb HB.1 hw4_5:),(cb HB.1 hw4_0:),(cb HB.1 hw4_6:)⟩ (fun hHeld=>?_);clear hK K;refine norm_ (a':=?_) ?_ ?_
             rotate_left
             ·show Act.put _ (some 40) _=_
              simp only [Act.put,List.setIfInBounds_toArray,List.set_cons_zero,List.set_cons_succ,i64_w,i32_w]
              rfl
             refine pu_ 10 41 (tf 11 23) rfl rfl ?_;refine pu_ 11 42 (tf 12 22) rfl rfl ?_;refine pu_ 12 43 (tf 13 21) rfl rfl ?_;refine pu_ 13 44 (tf 14 20) rfl rfl ?_;refine pu_ 14 45 (tf 15 19) rfl rfl ?_;refine pu_ 15 46 (tf 16 18) rfl rfl ?_;refine pu_ 16 47 (tf 17 17) rfl rfl ?_;refine pu_ 18 49 (tM [17,1,1,15]) rfl rfl ?_;refine ta9_ 17 48 (tf 19 15) rfl rfl ?_;refine ta9_ 19 50 (tf 20 14) rfl rfl ?_;refine pu_ 20 51 (tf 21 13) rfl rfl ?_;refine pu_ 21 52 (tf 22 12) rfl rfl ?_;refine un_ 22 53 (tf 23 11) rfl rfl ?_;refine un_ 23 54 (tf 24 10) rfl rfl ?_;refine un_ 24 55 (tf 25 9) rfl rfl ?_;refine un_ 25 56 (tf 26 8) rfl rfl ?_;refine un_ 26 57 (tf 27 7) rfl rfl ?_;refine un_ 27 58 (tf 28 6) rfl rfl ?_;refine un_ 28 59 (tf 29 5) rfl rfl ?_;refine un_ 29 60 (tf 30 4) rfl rfl ?_;refine un_ 30 61 (tf 31 3) rfl rfl ?_;refine pu_ 31 62 (tf 32 2) rfl rfl ?_;refine pu_ 32 63 (tf 33 1) rfl rfl ?_;refine pu_ 33 64 (tf 34 0) rfl rfl ?_;refine done_ (done_of HT_.1 (by kernel_rfl)) ?_;(try go_wp2)
             go_roundg kj3
             case measure=>have:=HK1.1;have:=HJ3.1;omega
             case rel=>exact⟨(wrap64 (x3_0+1)),es,H',⟨by have:=HK1.1;have:=HJ3.1;omega⟩,⟨vb HB.1⟩⟩
           ·replace c21:=Bool.eq_false_iff.mpr c21;subst c21;rw [if_neg nf] at H;obtain rfl:=sj H;(try go_wp2)
            replace BK8:=ak (blk_drew BK8.1);replace HB:=ak (below_drew1 HB.1);have p1:0≤((ji2):Int):=od;have q1:(ji2)<(l0.length:Int):=od;obtain⟨ad1,e1,hx1_5,hx1_0,hx1_6⟩:=at_T91 HR0.1 (ji2) p1 q1;have hw1_6:=hx1_6;have hw1_0:=hx1_0;have hw1_5:=hx1_5;obtain rfl:ad9=ad1:=(by injection e1);replace hx1_5:=cb HB.1 hx1_5;replace hx1_0:=cb HB.1 hx1_0;replace hx1_6:=cb HB.1 hx1_6;replace p1:=eq_true p1;replace q1:=eq_true q1;refine start_ (n:=34) (S:=fun w'=>w'.cell? ⟨gb8,0,none⟩=some (.int .i64 ((rd_T91 l0 x3_0).f0))∧w'.cell? ⟨gb8,1,none⟩=some (.int .i64 ((rd_T91 l0 x3_0).f1))∧w'.cell? ⟨gb8,2,none⟩=some (.int .i64 ((rd_T91 l0 x3_0).f2))∧w'.cell? (ad9.add (((ji2)).toNat*3))=some (.int .i64 ((rd_T91 l0 (ji2)).f0))∧w'.cell? ⟨(ad9.add (((ji2)).toNat*3)).block,(ad9.add (((ji2)).toNat*3)).off+1,none⟩=some (.int .i64 ((rd_T91 l0 (ji2)).f1))∧w'.cell? ⟨(ad9.add (((ji2)).toNat*3)).block,(ad9.add (((ji2)).toNat*3)).off+2,none⟩=some (.int .i64 ((rd_T91 l0 (ji2)).f2))) (ds:=[]) (tf 0 34) (by kernel_rfl) rfl rfl ⟨bk BK8.1 0,bk BK8.1 1,bk BK8.1 2,(cb HB.1 hw1_5:),(cb HB.1 hw1_0:),(cb HB.1 hw1_6:)⟩ (fun hHeld=>?_);refine with_tabW spec_IsTable.tab7 spec_IsTable.bits7 (fun HT_ HW_=>?_)
            generalize wc.drew=w30 at BK8 HB hx1_5 hx1_0 hx1_6 hHeld ⊢;refine pu_ 0 31 (tf 1 33) rfl rfl ?_;refine pu_ 1 32 (tf 2 32) rfl rfl ?_;refine pu_ 2 33 (tf 3 31) rfl rfl ?_;refine pu_ 3 34 (tf 4 30) rfl rfl ?_;refine pu_ 4 35 (tf 5 29) rfl rfl ?_;refine pu_ 5 36 (tf 6 28) rfl rfl ?_;refine pu_ 6 37 (tf 7 27) rfl rfl ?_;refine ta6_ 7 38 (tf 8 26) rfl rfl ?_;refine ta6_ 8 39 (tf 9 25) rfl rfl ?_;refine one_ (i:=9) (N:=some 40) (tf 10 24) rfl rfl (one_of HT_.1 (by kernel_rfl)) (by decide) (fun K hK=>?_);refine goes_ Try.func114 (by kernel_rfl) rfl #[.agg #[.int .i64 ((rd_T91 l0 (ji2)).f0),.int .i64 ((rd_T91 l0 (ji2)).f1),.int .i64 ((rd_T91 l0 (ji2)).f2)],.agg #[.int .i64 ((rd_T91 l0 x3_0).f0),.int .i64 ((rd_T91 l0 x3_0).f1),.int .i64 ((rd_T91 l0 x3_0).f2)]] (by rfl) rfl rfl (by(try simp only [List.map_toArray,List.map_cons,List.map_nil]);first|done|(simp only [hji17];rfl)|rfl|(simp only [List.length_drop,List.length_take];rfl)) ?_;with_reducible refine(spec_l16Before.calls ((rd_T91 l0 (ji2)).f0) ((rd_T91 l0 (ji2)).f1) ((rd_T91 l0 (ji2)).f2) ((rd_T91 l0 x3_0).f0) ((rd_T91 l0 x3_0).f1) ((rd_T91 l0 x3_0).f2) false _ A20.1).mono ?_
            rintro e w31 ⟨rfl,hb⟩;refine⟨_,rfl,?_⟩;replace BK8:=kb BK8 hb;replace HB:=bs HB hb;(try clear hb)
            (try clear hb2)
            (try clear hk)
            (try clear hi)
            refine hK.out _ _ ⟨bk BK8.1 0,bk BK8.1 1,bk BK8.1 2,(cb HB.1 hw1_5:),(cb HB.1 hw1_0:),(cb HB.1 hw1_6:)⟩ (fun hHeld=>?_);clear hK K;refine norm_ (a':=?_) ?_ ?_
            rotate_left
            ·show Act.put _ (some 40) _=_
             simp only [Act.put,List.setIfInBounds_toArray,List.set_cons_zero,List.set_cons_succ,i64_w,i32_w]
             rfl
            refine pu_ 10 41 (tf 11 23) rfl rfl ?_;refine pu_ 11 42 (tf 12 22) rfl rfl ?_;refine un_ 12 43 (tf 13 21) rfl rfl ?_;refine un_ 13 44 (tf 14 20) rfl rfl ?_;refine un_ 14 45 (tf 15 19) rfl rfl ?_;refine un_ 15 46 (tf 16 18) rfl rfl ?_;refine un_ 16 47 (tf 17 17) rfl rfl ?_;refine un_ 17 48 (tf 18 16) rfl rfl ?_;refine un_ 18 49 (tf 19 15) rfl rfl ?_;refine un_ 19 50 (tf 20 14) rfl rfl ?_;refine un_ 20 51 (tf 21 13) rfl rfl ?_;refine un_ 21 52 (tf 22 12) rfl rfl ?_;refine un_ 22 53 (tf 23 11) rfl rfl ?_;refine un_ 23 54 (tf 24 10) rfl rfl ?_;refine un_ 24 55 (tf 25 9) rfl rfl ?_;refine un_ 25 56 (tf 26 8) rfl rfl ?_;refine un_ 26 57 (tf 27 7) rfl rfl ?_;refine un_ 27 58 (tf 28 6) rfl rfl ?_;refine un_ 28 59 (tf 29 5) rfl rfl ?_;refine un_ 29 60 (tf 30 4) rfl rfl ?_;refine un_ 30 61 (tf 31 3) rfl rfl ?_;refine un_ 31 62 (tf 32 2) rfl rfl ?_;refine pu_ 32 63 (tf 33 1) rfl rfl ?_;refine pu_ 33 64 (tf 34 0) rfl rfl ?_;refine done_ (done_of HT_.1 (by kernel_rfl)) ?_;(try go_wp2)
            go_ret
            exact⟨by first|rfl|(simp [errW_none,errW_some]<;>rfl)|(simp only [←hji17];first|rfl|(simp [errW_none,errW_some]<;>rfl))|(simp [*,errW_none,errW_some]<;>rfl),vb HB.1⟩
          ·exact nO_ c19 H
         ·exact nO_ c18 H
        ·rw [if_neg c16] at H;have c16b0:=decide_eq_false c16;clear c16;have H':=ak H;clear H;(try go_wp2)
         replace BK8:=ak (blk_drew BK8.1);replace HB:=ak (below_drew1 HB.1);refine start_ (n:=34) (S:=fun w'=>True) (ds:=[]) (tf 0 34) (by kernel_rfl) rfl rfl trivial (fun hHeld=>?_);refine with_tabW spec_IsTable.tab7 spec_IsTable.bits7 (fun HT_ HW_=>?_);generalize wc.drew=w32 at BK8 HB hHeld ⊢;refine pu_ 0 31 (tf 1 33) rfl rfl ?_;refine pu_ 1 32 (tf 2 32) rfl rfl ?_;refine pu_ 2 33 (tf 3 31) rfl rfl ?_;refine un_ 3 34 (tf 4 30) rfl rfl ?_;refine un_ 4 35 (tf 5 29) rfl rfl ?_;refine un_ 5 36 (tf 6 28) rfl rfl ?_;refine un_ 6 37 (tf 7 27) rfl rfl ?_;refine un_ 7 38 (tf 8 26) rfl rfl ?_;refine un_ 8 39 (tf 9 25) rfl rfl ?_;refine un_ 9 40 (tf 10 24) rfl rfl ?_;refine un_ 10 41 (tf 11 23) rfl rfl ?_;refine un_ 11 42 (tf 12 22) rfl rfl ?_;refine un_ 12 43 (tf 13 21) rfl rfl ?_;refine un_ 13 44 (tf 14 20) rfl rfl ?_;refine un_ 14 45 (tf 15 19) rfl rfl ?_;refine un_ 15 46 (tf 16 18) rfl rfl ?_;refine un_ 16 47 (tf 17 17) rfl rfl ?_;refine un_ 17 48 (tf 18 16) rfl rfl ?_;refine un_ 18 49 (tf 19 15) rfl rfl ?_;refine un_ 19 50 (tf 20 14) rfl rfl ?_;refine un_ 20 51 (tf 21 13) rfl rfl ?_;refine un_ 21 52 (tf 22 12) rfl rfl ?_;refine un_ 22 53 (tf 23 11) rfl rfl ?_;refine un_ 23 54 (tf 24 10) rfl rfl ?_;refine un_ 24 55 (tf 25 9) rfl rfl ?_;refine un_ 25 56 (tf 26 8) rfl rfl ?_;refine un_ 26 57 (tf 27 7) rfl rfl ?_;refine un_ 27 58 (tf 28 6) rfl rfl ?_;refine un_ 28 59 (tf 29 5) rfl rfl ?_;refine un_ 29 60 (tf 30 4) rfl rfl ?_
         refine un_ 30 61 (tf 31 3) rfl rfl ?_;refine un_ 31 62 (tf 32 2) rfl rfl ?_;refine un_ 32 63 (tf 33 1) rfl rfl ?_;refine pu_ 33 64 (tf 34 0) rfl rfl ?_;refine done_ (done_of HT_.1 (by kernel_rfl)) ?_;(try go_wp2)
         go_roundg kj3
         case measure=>have:=HK1.1;have:=HJ3.1;omega
         case rel=>exact⟨(wrap64 (x3_0+1)),es,H',⟨by have:=HK1.1;have:=HJ3.1;omega⟩,⟨vb HB.1⟩⟩
    ·exact nO_ c3 H
   ·rw [if_neg c2] at H;have c2b0:=decide_eq_false c2;clear c2;obtain rfl:=sj H;go_wp2
    go_ret
    exact⟨ew,vb HB.1⟩
def spec_IsArea.f (a0_0:Int) (a0_1:Int) (a0_2:Int) (a0_3:Int) (a0_4:Int):Option (Bool):=(spec_l01In.f a0_0 0 3).bind fun t1=>(if t1=true then ((spec_l15Place.f a0_1 a0_2).bind fun t2=>(if t2=true then ((spec_l01In.f a0_3 1 (wrap64 (100000-a0_1))).bind fun t3=>(if t3=true then ((spec_l01In.f a0_4 1 (wrap64 (100000-a0_2))).bind fun t4=>(some t4)) else (some false))) else (some false))) else (some false))
theorem spec_IsArea.calls (a0_0:Int) (a0_1:Int) (a0_2:Int) (a0_3:Int) (a0_4:Int) (r:Bool) (w:World) (h:spec_IsArea.f a0_0 a0_1 a0_2 a0_3 a0_4=some r):
  Calls Try.prog 115 #[.agg #[.int .i64 a0_0,.int .i64 a0_1,.int .i64 a0_2,.int .i64 a0_3,.int .i64 a0_4]] w fun e w'=>e=.returned (.bool r)∧Below w.heap.size w w':=by
 have hu69:=Try.underlying69;have HB:=ak (Below.refl w.heap.size w);unfold spec_IsArea.f at h;have H:=h;clear h;obtain⟨t1,A2,H⟩:=bnk H;by_cases c3:t1=true
 subst c3;rw [if_pos rfl] at H;obtain⟨t2,A4,H⟩:=bnk H;by_cases c5:t2=true
 subst c5;rw [if_pos rfl] at H;obtain⟨t3,A6,H⟩:=bnk H;by_cases c7:t3=true
 subst c7;rw [if_pos rfl] at H;obtain⟨t4,A8,H⟩:=bnk H;obtain rfl:=sj H;rotate_left
 replace c7:=Bool.eq_false_iff.mpr c7;subst c7;rw [if_neg nf] at H;obtain rfl:=sj H;rotate_left
 replace c5:=Bool.eq_false_iff.mpr c5;subst c5;rw [if_neg nf] at H;obtain rfl:=sj H;rotate_left
 replace c3:=Bool.eq_false_iff.mpr c3;subst c3;rw [if_neg nf] at H;obtain rfl:=sj H;rotate_left
 all_goals
  go_enter Try.func115,Try.ntmps115;go_wp2_with (first|((with_reducible refine gate_dst (N:=1) rfl ?_);refine bx 1 #[.int .i64 a0_0,.int .i64 a0_1,.int .i64 a0_2,.int .i64 a0_3,.int .i64 a0_4] 69 ?_;intro gb0 hg w9 hbox hb;have BK0:=ak hbox;have GW596:=gw hg HB;have GE0:=gw hg HB;replace HB:=bs HB hb;clear hb hbox hg;have hcz5:=cz5 BK0.1)|((with_reducible refine at_fn (f:=98) rfl ?_);refine gl (some 5) Try.func98 #[.int .i64 a0_0,.int .i64 0,.int .i64 3] ?_;(with_reducible refine(spec_l01In.calls a0_0 0 3 _ _ A2.1).mono ?_);rintro e w' ⟨rfl,⟨nd,rfl⟩⟩;refine⟨_,rfl,?_⟩)|(go_at_call 99;(with_reducible refine(spec_l15Place.calls a0_1 a0_2 _ _ A4.1).mono ?_);rintro e w' ⟨rfl,⟨nd,rfl⟩⟩)|(go_at_call 98;(with_reducible refine(spec_l01In.calls a0_3 1 (wrap64 (100000-a0_1)) _ _ A6.1).mono ?_);rintro e w' ⟨rfl,⟨nd,rfl⟩⟩)|(go_at_call 98;(with_reducible refine(spec_l01In.calls a0_4 1 (wrap64 (100000-a0_2)) t4 _ A8.1).mono ?_);rintro e w' ⟨rfl,⟨nd,rfl⟩⟩))
  go_ret
  exact⟨ew,vb HB.1⟩
def spec_IsSite.l0:Nat→List (S69)→Int→Option (Bool)
 |0,_,_=>none
 |k+1,x3,x0=>if x0<(x3.length:Int) then (if 0≤x0 then ((spec_IsArea.f ((rd_T69 x3 x0).f0) ((rd_T69 x3 x0).f1) ((rd_T69 x3 x0).f2) ((rd_T69 x3 x0).f3) ((rd_T69 x3 x0).f4)).bind fun t4=>(if t4=true then (spec_IsSite.l0 k x3 (wrap64 (x0+1))) else (some false))) else (none)) else (some (decide ((x3.length:Int)≤10)))
def spec_IsSite.f (k:Nat) (l0:List (S69)):Option (Bool):=spec_IsSite.l0 k l0 0
theorem spec_IsSite.calls (k:Nat) (A0:Option Addr) (c0:Nat) (l0:List (S69)) (r:Bool) (w:World) (hr0:Kd.C k69 w A0 l0.length l0) (hc0:l0.length≤c0) (h:spec_IsSite.f k l0=some r):
  Calls Try.prog 101 #[.slice A0 l0.length c0] w fun e w'=>e=.returned (.bool r)∧Below w.heap.size w w':=by
 have hu69:=Try.underlying69;have HR0:=ak hr0;have HC0:=ak hc0;clear hr0 hc0;have HB:=ak (Below.refl w.heap.size w);unfold spec_IsSite.f at h;have H:=h;clear h;have H':=ak H;clear H;go_enter Try.func101,Try.ntmps101;go_wp2
 go_loopg [3] k (fun kq v0 w'=>∃(x0_1:Int),v0=.int .i64 x0_1∧Aside0 (spec_IsSite.l0 kq l0 x0_1=some r)∧Aside0 (kq≤k)∧Aside0 (Below w.heap.size w w'))
 case atStart=>exact⟨(0),es,H',⟨Nat.le_refl _⟩,⟨vb HB.1⟩⟩
 case round=>
  clear H';obtain⟨x0_1,rfl,HA,HK1,HB⟩:=hrel
  cases gk with
  |zero=>exact absurd HA.1 (by simp [spec_IsSite.l0])
  |succ k1=>
   have H:=HA.1;clear HA;simp only [spec_IsSite.l0] at H
   by_cases c2:x0_1<(l0.length:Int)
   ·rw [if_pos c2] at H;have c2b0:=decide_eq_true c2;clear c2;by_cases c3:0≤x0_1
    ·rw [if_pos c3] at H;have c3b0:=decide_eq_true c3;clear c3;obtain⟨t4,A4,H⟩:=bnk H;by_cases c5:t4=true
     ·subst c5;rw [if_pos rfl] at H;have H':=ak H;clear H;have p2:0≤(x0_1:Int):=od;have q2:x0_1<(l0.length:Int):=od;obtain⟨ad2,e2,hx2_3,hx2_1,hx2_5,hx2_0,hx2_6⟩:=at_T69b HR0.1 HB.1 x0_1 p2 q2
      cases e2;replace p2:=eq_true p2;replace q2:=eq_true q2;go_wp2_with (first|((with_reducible refine at_fn (f:=115) rfl ?_);refine gl (some 14) Try.func115 #[.agg #[.int .i64 ((rd_T69 l0 x0_1).f0),.int .i64 ((rd_T69 l0 x0_1).f1),.int .i64 ((rd_T69 l0 x0_1).f2),.int .i64 ((rd_T69 l0 x0_1).f3),.int .i64 ((rd_T69 l0 x0_1).f4)]] ?_;(with_reducible refine(spec_IsArea.calls ((rd_T69 l0 x0_1).f0) ((rd_T69 l0 x0_1).f1) ((rd_T69 l0 x0_1).f2) ((rd_T69 l0 x0_1).f3) ((rd_T69 l0 x0_1).f4) _ _ A4.1).mono ?_);rintro e w6 ⟨rfl,hb⟩;refine⟨_,rfl,?_⟩;replace HB:=bs HB hb;(try clear hb)))
      go_roundg k1
      case measure=>have:=HK1.1;omega
      case rel=>exact⟨(wrap64 (x0_1+1)),es,H',⟨by have:=HK1.1;omega⟩,⟨vb HB.1⟩⟩
     ·replace c5:=Bool.eq_false_iff.mpr c5;subst c5;rw [if_neg nf] at H;obtain rfl:=sj H;have p2:0≤(x0_1:Int):=od;have q2:x0_1<(l0.length:Int):=od;obtain⟨ad2,e2,hx2_3,hx2_1,hx2_5,hx2_0,hx2_6⟩:=at_T69b HR0.1 HB.1 x0_1 p2 q2
      cases e2;replace p2:=eq_true p2;replace q2:=eq_true q2;go_wp2_with (first|((with_reducible refine at_fn (f:=115) rfl ?_);refine gl (some 14) Try.func115 #[.agg #[.int .i64 ((rd_T69 l0 x0_1).f0),.int .i64 ((rd_T69 l0 x0_1).f1),.int .i64 ((rd_T69 l0 x0_1).f2),.int .i64 ((rd_T69 l0 x0_1).f3),.int .i64 ((rd_T69 l0 x0_1).f4)]] ?_;(with_reducible refine(spec_IsArea.calls ((rd_T69 l0 x0_1).f0) ((rd_T69 l0 x0_1).f1) ((rd_T69 l0 x0_1).f2) ((rd_T69 l0 x0_1).f3) ((rd_T69 l0 x0_1).f4) _ _ A4.1).mono ?_);rintro e w7 ⟨rfl,hb⟩;refine⟨_,rfl,?_⟩;replace HB:=bs HB hb;(try clear hb)))
      go_ret
      exact⟨ew,vb HB.1⟩
    ·exact nO_ c3 H
   ·rw [if_neg c2] at H;have c2b0:=decide_eq_false c2;clear c2;obtain rfl:=sj H;go_wp2
    go_ret
    exact⟨ew,vb HB.1⟩
mutual
def spec_IsField.l0:Nat→Int→List (S91)→List (S69)→List Int→List Int→List Int→Int→Option (Bool)
 |0,_,_,_,_,_,_,_=>none
 |k+1,x1,x11,x12,x9,x8,x10,x13=>if x1<(x9.length:Int) then (if 0≤x1 then ((spec_l01In.f (rd x9 x1) 20 300).bind fun t17=>(if t17=true then (spec_IsField.l0 k (wrap64 (x1+1)) x11 x12 x9 x8 x10 x13) else (some false))) else (none)) else (if (x8.length:Int)=(x10.length:Int) then (if (x8.length:Int)>7 then (spec_IsField.j1 k true x11 x12 x9 x8 x10 x13) else (spec_IsField.j1 k (decide ((x9.length:Int)>4)) x11 x12 x9 x8 x10 x13)) else (spec_IsField.j1 k true x11 x12 x9 x8 x10 x13))
def spec_IsField.j1:Nat→Bool→List (S91)→List (S69)→List Int→List Int→List Int→Int→Option (Bool)
 |0,_,_,_,_,_,_,_=>none
 |k+1,x14,x11,x12,x9,x8,x10,x13=>if x14=true then (some false) else (spec_IsField.l1 k 0 x11 x12 x9 x8 x10 x13)
def spec_IsField.l1:Nat→Int→List (S91)→List (S69)→List Int→List Int→List Int→Int→Option (Bool)
 |0,_,_,_,_,_,_,_=>none
 |k+1,x2,x11,x12,x9,x8,x10,x13=>if x2<(x8.length:Int) then (if 0≤x2 then (if x2<(x10.length:Int) then ((spec_l15Place.f (rd x8 x2) (rd x10 x2)).bind fun t18=>(if t18=true then (spec_IsField.l1 k (wrap64 (x2+1)) x11 x12 x9 x8 x10 x13) else (some false))) else (none)) else (none)) else ((spec_IsTable.f k x11).bind fun t19=>(if t19=true then ((spec_IsSite.f k x12).bind fun t20=>(if t20=true then ((spec_l01In.f x13 0 10000).bind fun t16=>(some t16)) else (some false))) else (some false)))
end
def spec_IsField.f (k:Nat) (l0_0:List (S91)) (l0_1:List (S69)) (l0_2:List Int) (l0_3:List Int) (l0_4:List Int) (a0_5:Int):Option (Bool):=spec_IsField.l0 k 0 l0_0 l0_1 l0_2 l0_3 l0_4 a0_5
theorem spec_IsField.calls (k:Nat) (A0_0:Option Addr) (c0_0:Nat) (l0_0:List (S91)) (A0_1:Option Addr) (c0_1:Nat) (l0_1:List (S69)) (A0_2:Option Addr) (c0_2:Nat) (l0_2:List Int) (A0_3:Option Addr) (c0_3:Nat) (l0_3:List Int) (A0_4:Option Addr) (c0_4:Nat) (l0_4:List Int) (a0_5:Int) (r:Bool) (w:World) (hr0_0:Kd.C k91 w A0_0 l0_0.length l0_0) (hc0_0:l0_0.length≤c0_0) (hr0_1:Kd.C k69 w A0_1 l0_1.length l0_1) (hc0_1:l0_1.length≤c0_1) (hr0_2:Kd.C (Kd.int .i64) w A0_2 l0_2.length l0_2) (hc0_2:l0_2.length≤c0_2) (hr0_3:Kd.C (Kd.int .i64) w A0_3 l0_3.length l0_3) (hc0_3:l0_3.length≤c0_3) (hr0_4:Kd.C (Kd.int .i64) w A0_4 l0_4.length l0_4) (hc0_4:l0_4.length≤c0_4) (h:spec_IsField.f k l0_0 l0_1 l0_2 l0_3 l0_4 a0_5=some r):
  Calls Try.prog 75 #[.agg (f5 A0_0 l0_0 c0_0 A0_1 l0_1 c0_1 A0_2 l0_2 c0_2 A0_3 l0_3 c0_3 A0_4 l0_4 c0_4 a0_5)] w fun e w'=>e=.returned (.bool r)∧Below w.heap.size w w':=by
 have hu28:=Try.underlying28;have HR0_0:=ak hr0_0;have HC0_0:=ak hc0_0;clear hr0_0 hc0_0;have HR0_1:=ak hr0_1;have HC0_1:=ak hc0_1;clear hr0_1 hc0_1;have HR0_2:=ak hr0_2;have HC0_2:=ak hc0_2;clear hr0_2 hc0_2;have HR0_3:=ak hr0_3;have HC0_3:=ak hc0_3;clear hr0_3 hc0_3;have HR0_4:=ak hr0_4;have HC0_4:=ak hc0_4;clear hr0_4 hc0_4;have HB:=ak (Below.refl w.heap.size w);unfold spec_IsField.f at h;have H:=h;clear h;have H':=ak H;clear H;go_enter Try.func75,Try.ntmps75;go_wp2_with (first|((with_reducible refine gate_dst (N:=1) rfl ?_);(try (refine gate_guard (by rfl) ?_;dsimp only));refine bx 1 (f5 A0_0 l0_0 c0_0 A0_1 l0_1 c0_1 A0_2 l0_2 c0_2 A0_3 l0_3 c0_3 A0_4 l0_4 c0_4 a0_5) 28 ?_;intro gb0 hg w2 hbox hb;have BK0:=ak hbox;have GW603:=gw hg HB;have GE0:=gw hg HB;replace HB:=bs HB hb;clear hb hbox hg))
 repeat (go_quiet (first|((with_reducible refine gate_dst (N:=1) rfl ?_);(try (refine gate_guard (by rfl) ?_;dsimp only));refine bx 1 (f5 A0_0 l0_0 c0_0 A0_1 l0_1 c0_1 A0_2 l0_2 c0_2 A0_3 l0_3 c0_3 A0_4 l0_4 c0_4 a0_5) 28 ?_;intro gb0 hg w2 hbox hb;have BK0:=ak hbox;have GW603:=gw hg HB;have GE0:=gw hg HB;replace HB:=bs HB hb;clear hb hbox hg));try go_wp2_with (first|((with_reducible refine gate_dst (N:=1) rfl ?_);(try (refine gate_guard (by rfl) ?_;dsimp only));refine bx 1 (f5 A0_0 l0_0 c0_0 A0_1 l0_1 c0_1 A0_2 l0_2 c0_2 A0_3 l0_3 c0_3 A0_4 l0_4 c0_4 a0_5) 28 ?_;intro gb0 hg w2 hbox hb;have BK0:=ak hbox;have GW603:=gw hg HB;have GE0:=gw hg HB;replace HB:=bs HB hb;clear hb hbox hg)))
 go_loopg [3] k (fun kq v1 w'=>∃(x1_6:Int),v1=.int .i64 x1_6∧Aside0 (spec_IsField.l0 kq x1_6 l0_0 l0_1 l0_2 l0_3 l0_4 a0_5=some r)∧Aside0 (kq≤k)∧Aside0 (w'.heap[gb0]? =some (.cells (f5 A0_0 l0_0 c0_0 A0_1 l0_1 c0_1 A0_2 l0_2 c0_2 A0_3 l0_3 c0_3 A0_4 l0_4 c0_4 a0_5) 28 (0,0)))∧Aside0 (Below w.heap.size w w'))
 case atStart=>exact⟨(0),es,H',⟨Nat.le_refl _⟩,⟨vk BK0.1⟩,⟨vb HB.1⟩⟩
 case round=>
  clear H';obtain⟨x1_6,rfl,HA,HK1,BK0,HB⟩:=hrel
  cases gk with
  |zero=>exact absurd HA.1 (by simp [spec_IsField.l0])
  |succ k1=>
   have H:=HA.1;clear HA;simp only [spec_IsField.l0] at H
   by_cases c3:x1_6<(l0_2.length:Int)
   ·rw [if_pos c3] at H;have c3b0:=decide_eq_true c3;clear c3;by_cases c4:0≤x1_6
    ·rw [if_pos c4] at H;have c4b0:=decide_eq_true c4;clear c4;obtain⟨t17,A5,H⟩:=bnk H;by_cases c6:t17=true
     ·subst c6;rw [if_pos rfl] at H;have H':=ak H;clear H;have hcz24:=cz6 BK0.1;have p3:0≤(x1_6:Int):=od;have q3:x1_6<(l0_2.length:Int):=od;obtain⟨ad3,e3,hx3_7⟩:=Kd.at_int HR0_2.1 x1_6 p3 q3
      cases e3;replace hx3_7:=cb HB.1 hx3_7;replace p3:=eq_true p3;replace q3:=eq_true q3;go_wp2_with (first|(go_at_call 98;(with_reducible refine(spec_l01In.calls (rd l0_2 x1_6) 20 300 _ _ A5.1).mono ?_);rintro e w' ⟨rfl,⟨nd,rfl⟩⟩;(try first|exact⟨rfl,_,World.drewN_drewN _ _ _⟩|exact⟨rfl,_,Eq.trans (World.drewN_drewN _ _ _) (congrArg (World.drewN _) (Nat.add_assoc _ _ _))⟩)))
      repeat (go_quiet (first|(go_at_call 98;(with_reducible refine(spec_l01In.calls (rd l0_2 x1_6) 20 300 _ _ A5.1).mono ?_);rintro e w' ⟨rfl,⟨nd,rfl⟩⟩;(try first|exact⟨rfl,_,World.drewN_drewN _ _ _⟩|exact⟨rfl,_,Eq.trans (World.drewN_drewN _ _ _) (congrArg (World.drewN _) (Nat.add_assoc _ _ _))⟩)));try go_wp2_with (first|(go_at_call 98;(with_reducible refine(spec_l01In.calls (rd l0_2 x1_6) 20 300 _ _ A5.1).mono ?_);rintro e w' ⟨rfl,⟨nd,rfl⟩⟩;(try first|exact⟨rfl,_,World.drewN_drewN _ _ _⟩|exact⟨rfl,_,Eq.trans (World.drewN_drewN _ _ _) (congrArg (World.drewN _) (Nat.add_assoc _ _ _))⟩))))
      go_roundg k1
      case measure=>have:=HK1.1;omega
      case rel=>exact⟨(wrap64 (x1_6+1)),es,H',⟨by have:=HK1.1;omega⟩,⟨vk BK0.1⟩,⟨vb HB.1⟩⟩
     ·replace c6:=Bool.eq_false_iff.mpr c6;subst c6;rw [if_neg nf] at H;obtain rfl:=sj H;have hcz15:=cz6 BK0.1;have p3:0≤(x1_6:Int):=od;have q3:x1_6<(l0_2.length:Int):=od;obtain⟨ad3,e3,hx3_7⟩:=Kd.at_int HR0_2.1 x1_6 p3 q3
      cases e3;replace hx3_7:=cb HB.1 hx3_7;replace p3:=eq_true p3;replace q3:=eq_true q3;go_wp2_with (first|(go_at_call 98;(with_reducible refine(spec_l01In.calls (rd l0_2 x1_6) 20 300 _ _ A5.1).mono ?_);rintro e w' ⟨rfl,⟨nd,rfl⟩⟩;(try first|exact⟨rfl,_,World.drewN_drewN _ _ _⟩|exact⟨rfl,_,Eq.trans (World.drewN_drewN _ _ _) (congrArg (World.drewN _) (Nat.add_assoc _ _ _))⟩)))
      repeat (go_quiet (first|(go_at_call 98;(with_reducible refine(spec_l01In.calls (rd l0_2 x1_6) 20 300 _ _ A5.1).mono ?_);rintro e w' ⟨rfl,⟨nd,rfl⟩⟩;(try first|exact⟨rfl,_,World.drewN_drewN _ _ _⟩|exact⟨rfl,_,Eq.trans (World.drewN_drewN _ _ _) (congrArg (World.drewN _) (Nat.add_assoc _ _ _))⟩)));try go_wp2_with (first|(go_at_call 98;(with_reducible refine(spec_l01In.calls (rd l0_2 x1_6) 20 300 _ _ A5.1).mono ?_);rintro e w' ⟨rfl,⟨nd,rfl⟩⟩;(try first|exact⟨rfl,_,World.drewN_drewN _ _ _⟩|exact⟨rfl,_,Eq.trans (World.drewN_drewN _ _ _) (congrArg (World.drewN _) (Nat.add_assoc _ _ _))⟩))))
      go_ret
      exact⟨ew,vb HB.1⟩
    ·exact nO_ c4 H
   ·rw [if_neg c3] at H;have c3b0:=decide_eq_false c3;clear c3;have HC9:=ak H;clear H;have hcz25:=cz6 BK0.1;go_upto_region 6 with (fail)
    repeat (go_quiet (fail);go_upto_region 6 with (fail))
    go_cut [37] (fun v14 wc=>∃(kq:Nat) (x14_15:Bool),v14=.bool x14_15∧Aside0 (spec_IsField.j1 kq x14_15 l0_0 l0_1 l0_2 l0_3 l0_4 a0_5=some r)∧Aside0 (kq≤k1)∧Aside0 (wc.heap[gb0]? =some (.cells (f5 A0_0 l0_0 c0_0 A0_1 l0_1 c0_1 A0_2 l0_2 c0_2 A0_3 l0_3 c0_3 A0_4 l0_4 c0_4 a0_5) 28 (0,0)))∧Aside0 (Below w.heap.size w wc))
    case first=>
     have H:=HC9.1;clear HC9;by_cases c11:(l0_3.length:Int)=(l0_4.length:Int)
     ·rw [if_pos c11] at H;obtain⟨c11b0,c11b1⟩:=bqt c11;have c11b2:(l0_3.length==l0_4.length)=true:=by first|simpa using c11|(simp at c11 ⊢;omega)
      clear c11;(first|rw [c11b0]|(simp only [i64_w,i32_w];rw [c11b0])|skip)
      by_cases c12:(l0_3.length:Int)>7
      ·rw [if_pos c12] at H;have c12b0:=decide_eq_true c12;have c12b1:decide (7<l0_3.length)=true:=decide_eq_true (by omega);clear c12;have H':=ak H;clear H;have hcz26:=cz6 BK0.1;go_wp2
       repeat (go_quiet (fail);try go_wp2)
       go_meet
       case rel=>exact⟨_,(true),es,H',⟨by have:=HK1.1;first|omega|exact Nat.le_refl _⟩,⟨vk BK0.1⟩,⟨vb HB.1⟩⟩
      ·rw [if_neg c12] at H;have c12b0:=decide_eq_false c12;have c12b1:decide (7<l0_3.length)=false:=decide_eq_false (by omega);clear c12;have H':=ak H;clear H;have hcz27:=cz6 BK0.1;go_wp2
       repeat (go_quiet (fail);try go_wp2)
       go_meet
       case rel=>exact⟨_,(decide ((l0_2.length:Int)>4)),es,H',⟨by have:=HK1.1;first|omega|exact Nat.le_refl _⟩,⟨vk BK0.1⟩,⟨vb HB.1⟩⟩
     ·rw [if_neg c11] at H;obtain⟨c11b0,c11b1⟩:=bqf c11;have c11b2:(l0_3.length==l0_4.length)=false:=by first|simpa using c11|(simp at c11 ⊢;omega)
      (first|rw [c11b0]|(simp only [i64_w,i32_w];rw [c11b0])|skip)
      have H':=ak H;clear H;have hcz28:=cz6 BK0.1;go_wp2
      repeat (go_quiet (fail);try go_wp2)
      go_meet
      case rel=>exact⟨_,(true),es,H',⟨by have:=HK1.1;first|omega|exact Nat.le_refl _⟩,⟨vk BK0.1⟩,⟨vb HB.1⟩⟩
    case rest=>
     clear HC9;obtain⟨kq,x14_15,rfl,HA,HJ8,BK0,HB⟩:=hcut
     cases kq with
     |zero=>exact absurd HA.1 (by simp [spec_IsField.j1])
     |succ kj8=>
      have H:=HA.1;clear HA;simp only [spec_IsField.j1] at H
      by_cases c16:x14_15=true
      ·subst c16;rw [if_pos rfl] at H;obtain rfl:=sj H;go_wp2
       repeat (go_quiet (fail);try go_wp2)
       go_ret
       exact⟨ew,vb HB.1⟩
      ·replace c16:=Bool.eq_false_iff.mpr c16;subst c16;rw [if_neg nf] at H;have H':=ak H;clear H;go_wp2
       repeat (go_quiet (fail);try go_wp2)
       go_loopg [4] kj8 (fun kq v2 w'=>∃(x2_1:Int),v2=.int .i64 x2_1∧Aside0 (spec_IsField.l1 kq x2_1 l0_0 l0_1 l0_2 l0_3 l0_4 a0_5=some r)∧Aside0 (kq≤kj8)∧Aside0 (w'.heap[gb0]? =some (.cells (f5 A0_0 l0_0 c0_0 A0_1 l0_1 c0_1 A0_2 l0_2 c0_2 A0_3 l0_3 c0_3 A0_4 l0_4 c0_4 a0_5) 28 (0,0)))∧Aside0 (Below w.heap.size w w'))
       case atStart=>exact⟨(0),es,H',⟨Nat.le_refl _⟩,⟨vk BK0.1⟩,⟨vb HB.1⟩⟩
       case round=>
        clear H';obtain⟨x2_1,rfl,HA,HK3,BK0,HB⟩:=hrel
        cases gk with
        |zero=>exact absurd HA.1 (by simp [spec_IsField.l1])
        |succ k3=>
         have H:=HA.1;clear HA;simp only [spec_IsField.l1] at H
         by_cases c17:x2_1<(l0_3.length:Int)
         ·rw [if_pos c17] at H;have c17b0:=decide_eq_true c17;clear c17;by_cases c18:0≤x2_1
          ·rw [if_pos c18] at H;have c18b0:=decide_eq_true c18;clear c18;by_cases c19:x2_1<(l0_4.length:Int)
           ·rw [if_pos c19] at H;have c19b0:=decide_eq_true c19;clear c19;obtain⟨t18,A20,H⟩:=bnk H;by_cases c21:t18=true
            ·subst c21;rw [if_pos rfl] at H;have H':=ak H;clear H;have hcz29:=cz6 BK0.1;have p4:0≤(x2_1:Int):=od;have q4:x2_1<(l0_3.length:Int):=od;obtain⟨ad4,e4,hx4_7⟩:=Kd.at_int HR0_3.1 x2_1 p4 q4
             cases e4;replace hx4_7:=cb HB.1 hx4_7;replace p4:=eq_true p4;replace q4:=eq_true q4;have p5:0≤(x2_1:Int):=od;have q5:x2_1<(l0_4.length:Int):=od;obtain⟨ad5,e5,hx5_7⟩:=Kd.at_int HR0_4.1 x2_1 p5 q5
             cases e5;replace hx5_7:=cb HB.1 hx5_7;replace p5:=eq_true p5;replace q5:=eq_true q5;go_wp2_with (first|(go_at_call 99;(with_reducible refine(spec_l15Place.calls (rd l0_3 x2_1) (rd l0_4 x2_1) _ _ A20.1).mono ?_);rintro e w' ⟨rfl,⟨nd,rfl⟩⟩;(try first|exact⟨rfl,_,World.drewN_drewN _ _ _⟩|exact⟨rfl,_,Eq.trans (World.drewN_drewN _ _ _) (congrArg (World.drewN _) (Nat.add_assoc _ _ _))⟩)))
             repeat (go_quiet (first|(go_at_call 99;(with_reducible refine(spec_l15Place.calls (rd l0_3 x2_1) (rd l0_4 x2_1) _ _ A20.1).mono ?_);rintro e w' ⟨rfl,⟨nd,rfl⟩⟩;(try first|exact⟨rfl,_,World.drewN_drewN _ _ _⟩|exact⟨rfl,_,Eq.trans (World.drewN_drewN _ _ _) (congrArg (World.drewN _) (Nat.add_assoc _ _ _))⟩)));try go_wp2_with (first|(go_at_call 99;(with_reducible refine(spec_l15Place.calls (rd l0_3 x2_1) (rd l0_4 x2_1) _ _ A20.1).mono ?_);rintro e w' ⟨rfl,⟨nd,rfl⟩⟩;(try first|exact⟨rfl,_,World.drewN_drewN _ _ _⟩|exact⟨rfl,_,Eq.trans (World.drewN_drewN _ _ _) (congrArg (World.drewN _) (Nat.add_assoc _ _ _))⟩))))
             go_roundg k3
             case measure=>have:=HK1.1;have:=HJ8.1;have:=HK3.1;omega
             case rel=>exact⟨(wrap64 (x2_1+1)),es,H',⟨by have:=HK1.1;have:=HJ8.1;have:=HK3.1;omega⟩,⟨vk BK0.1⟩,⟨vb HB.1⟩⟩
            ·replace c21:=Bool.eq_false_iff.mpr c21;subst c21;rw [if_neg nf] at H;obtain rfl:=sj H;have hcz30:=cz6 BK0.1;have p4:0≤(x2_1:Int):=od;have q4:x2_1<(l0_3.length:Int):=od;obtain⟨ad4,e4,hx4_7⟩:=Kd.at_int HR0_3.1 x2_1 p4 q4
             cases e4;replace hx4_7:=cb HB.1 hx4_7;replace p4:=eq_true p4;replace q4:=eq_true q4;have p5:0≤(x2_1:Int):=od;have q5:x2_1<(l0_4.length:Int):=od;obtain⟨ad5,e5,hx5_7⟩:=Kd.at_int HR0_4.1 x2_1 p5 q5
             cases e5;replace hx5_7:=cb HB.1 hx5_7;replace p5:=eq_true p5;replace q5:=eq_true q5;go_wp2_with (first|(go_at_call 99;(with_reducible refine(spec_l15Place.calls (rd l0_3 x2_1) (rd l0_4 x2_1) _ _ A20.1).mono ?_);rintro e w' ⟨rfl,⟨nd,rfl⟩⟩;(try first|exact⟨rfl,_,World.drewN_drewN _ _ _⟩|exact⟨rfl,_,Eq.trans (World.drewN_drewN _ _ _) (congrArg (World.drewN _) (Nat.add_assoc _ _ _))⟩)))
             repeat (go_quiet (first|(go_at_call 99;(with_reducible refine(spec_l15Place.calls (rd l0_3 x2_1) (rd l0_4 x2_1) _ _ A20.1).mono ?_);rintro e w' ⟨rfl,⟨nd,rfl⟩⟩;(try first|exact⟨rfl,_,World.drewN_drewN _ _ _⟩|exact⟨rfl,_,Eq.trans (World.drewN_drewN _ _ _) (congrArg (World.drewN _) (Nat.add_assoc _ _ _))⟩)));try go_wp2_with (first|(go_at_call 99;(with_reducible refine(spec_l15Place.calls (rd l0_3 x2_1) (rd l0_4 x2_1) _ _ A20.1).mono ?_);rintro e w' ⟨rfl,⟨nd,rfl⟩⟩;(try first|exact⟨rfl,_,World.drewN_drewN _ _ _⟩|exact⟨rfl,_,Eq.trans (World.drewN_drewN _ _ _) (congrArg (World.drewN _) (Nat.add_assoc _ _ _))⟩))))
             go_ret
             exact⟨ew,vb HB.1⟩
           ·exact nO_ c19 H
          ·exact nO_ c18 H
         ·rw [if_neg c17] at H;have c17b0:=decide_eq_false c17;clear c17;obtain⟨t19,A24,H⟩:=bnk H;by_cases c25:t19=true
          ·subst c25;rw [if_pos rfl] at H;obtain⟨t20,A26,H⟩:=bnk H;by_cases c27:t20=true
           ·subst c27;rw [if_pos rfl] at H;obtain⟨t16,A28,H⟩:=bnk H;obtain rfl:=sj H;have hcz31:=cz6 BK0.1;go_wp2_with (first|(go_at_call 100;(with_reducible refine(spec_IsTable.calls k3 _ _ l0_0 _ _ ?_ HC0_0.1 A24.1).mono ?_);exact vd HR0_0.1 HB.1;rintro e w30 ⟨rfl,hb⟩;replace BK0:=kb BK0 hb;replace HB:=bs HB hb;(try clear hb);have hcz21:=cz6 BK0.1)|(go_at_call 101;(with_reducible refine(spec_IsSite.calls k3 _ _ l0_1 _ _ ?_ HC0_1.1 A26.1).mono ?_);exact vd HR0_1.1 HB.1;rintro e w32 ⟨rfl,hb⟩;replace BK0:=kb BK0 hb;replace HB:=bs HB hb;(try clear hb);have hcz22:=cz6 BK0.1)|(go_at_call 98;(with_reducible refine(spec_l01In.calls a0_5 0 10000 t16 _ A28.1).mono ?_);rintro e w' ⟨rfl,⟨nd,rfl⟩⟩;(try first|exact⟨rfl,_,World.drewN_drewN _ _ _⟩|exact⟨rfl,_,Eq.trans (World.drewN_drewN _ _ _) (congrArg (World.drewN _) (Nat.add_assoc _ _ _))⟩)))
            repeat (go_quiet (first|(go_at_call 100;(with_reducible refine(spec_IsTable.calls k3 _ _ l0_0 _ _ ?_ HC0_0.1 A24.1).mono ?_);exact vd HR0_0.1 HB.1;rintro e w30 ⟨rfl,hb⟩;replace BK0:=kb BK0 hb;replace HB:=bs HB hb;(try clear hb);have hcz21:=cz6 BK0.1)|(go_at_call 101;(with_reducible refine(spec_IsSite.calls k3 _ _ l0_1 _ _ ?_ HC0_1.1 A26.1).mono ?_);exact vd HR0_1.1 HB.1;rintro e w32 ⟨rfl,hb⟩;replace BK0:=kb BK0 hb;replace HB:=bs HB hb;(try clear hb);have hcz22:=cz6 BK0.1)|(go_at_call 98;(with_reducible refine(spec_l01In.calls a0_5 0 10000 t16 _ A28.1).mono ?_);rintro e w' ⟨rfl,⟨nd,rfl⟩⟩;(try first|exact⟨rfl,_,World.drewN_drewN _ _ _⟩|exact⟨rfl,_,Eq.trans (World.drewN_drewN _ _ _) (congrArg (World.drewN _) (Nat.add_assoc _ _ _))⟩)));try go_wp2_with (first|(go_at_call 100;(with_reducible refine(spec_IsTable.calls k3 _ _ l0_0 _ _ ?_ HC0_0.1 A24.1).mono ?_);exact vd HR0_0.1 HB.1;rintro e w30 ⟨rfl,hb⟩;replace BK0:=kb BK0 hb;replace HB:=bs HB hb;(try clear hb);have hcz21:=cz6 BK0.1)|(go_at_call 101;(with_reducible refine(spec_IsSite.calls k3 _ _ l0_1 _ _ ?_ HC0_1.1 A26.1).mono ?_);exact vd HR0_1.1 HB.1;rintro e w32 ⟨rfl,hb⟩;replace BK0:=kb BK0 hb;replace HB:=bs HB hb;(try clear hb);have hcz22:=cz6 BK0.1)|(go_at_call 98;(with_reducible refine(spec_l01In.calls a0_5 0 10000 t16 _ A28.1).mono ?_);rintro e w' ⟨rfl,⟨nd,rfl⟩⟩;(try first|exact⟨rfl,_,World.drewN_drewN _ _ _⟩|exact⟨rfl,_,Eq.trans (World.drewN_drewN _ _ _) (congrArg (World.drewN _) (Nat.add_assoc _ _ _))⟩))))
            go_ret
            exact⟨ew,vb HB.1⟩
           ·replace c27:=Bool.eq_false_iff.mpr c27;subst c27;rw [if_neg nf] at H;obtain rfl:=sj H;have hcz32:=cz6 BK0.1;go_wp2_with (first|(go_at_call 100;(with_reducible refine(spec_IsTable.calls k3 _ _ l0_0 _ _ ?_ HC0_0.1 A24.1).mono ?_);exact vd HR0_0.1 HB.1;rintro e w35 ⟨rfl,hb⟩;replace BK0:=kb BK0 hb;replace HB:=bs HB hb;(try clear hb);have hcz23:=cz6 BK0.1)|(go_at_call 101;(with_reducible refine(spec_IsSite.calls k3 _ _ l0_1 _ _ ?_ HC0_1.1 A26.1).mono ?_);exact vd HR0_1.1 HB.1;rintro e w37 ⟨rfl,hb⟩;replace BK0:=kb BK0 hb;replace HB:=bs HB hb;(try clear hb)))
            repeat (go_quiet (first|(go_at_call 100;(with_reducible refine(spec_IsTable.calls k3 _ _ l0_0 _ _ ?_ HC0_0.1 A24.1).mono ?_);exact vd HR0_0.1 HB.1;rintro e w35 ⟨rfl,hb⟩;replace BK0:=kb BK0 hb;replace HB:=bs HB hb;(try clear hb);have hcz23:=cz6 BK0.1)|(go_at_call 101;(with_reducible refine(spec_IsSite.calls k3 _ _ l0_1 _ _ ?_ HC0_1.1 A26.1).mono ?_);exact vd HR0_1.1 HB.1;rintro e w37 ⟨rfl,hb⟩;replace BK0:=kb BK0 hb;replace HB:=bs HB hb;(try clear hb)));try go_wp2_with (first|(go_at_call 100;(with_reducible refine(spec_IsTable.calls k3 _ _ l0_0 _ _ ?_ HC0_0.1 A24.1).mono ?_);exact vd HR0_0.1 HB.1;rintro e w35 ⟨rfl,hb⟩;replace BK0:=kb BK0 hb;replace HB:=bs HB hb;(try clear hb);have hcz23:=cz6 BK0.1)|(go_at_call 101;(with_reducible refine(spec_IsSite.calls k3 _ _ l0_1 _ _ ?_ HC0_1.1 A26.1).mono ?_);exact vd HR0_1.1 HB.1;rintro e w37 ⟨rfl,hb⟩;replace BK0:=kb BK0 hb;replace HB:=bs HB hb;(try clear hb))))
            go_ret
            exact⟨ew,vb HB.1⟩
          ·replace c25:=Bool.eq_false_iff.mpr c25;subst c25;rw [if_neg nf] at H;obtain rfl:=sj H;have hcz33:=cz6 BK0.1;go_wp2_with (first|(go_at_call 100;(with_reducible refine(spec_IsTable.calls k3 _ _ l0_0 _ _ ?_ HC0_0.1 A24.1).mono ?_);exact vd HR0_0.1 HB.1;rintro e w39 ⟨rfl,hb⟩;replace BK0:=kb BK0 hb;replace HB:=bs HB hb;(try clear hb)))
           repeat (go_quiet (first|(go_at_call 100;(with_reducible refine(spec_IsTable.calls k3 _ _ l0_0 _ _ ?_ HC0_0.1 A24.1).mono ?_);exact vd HR0_0.1 HB.1;rintro e w39 ⟨rfl,hb⟩;replace BK0:=kb BK0 hb;replace HB:=bs HB hb;(try clear hb)));try go_wp2_with (first|(go_at_call 100;(with_reducible refine(spec_IsTable.calls k3 _ _ l0_0 _ _ ?_ HC0_0.1 A24.1).mono ?_);exact vd HR0_0.1 HB.1;rintro e w39 ⟨rfl,hb⟩;replace BK0:=kb BK0 hb;replace HB:=bs HB hb;(try clear hb))))
           go_ret
           exact⟨ew,vb HB.1⟩
def spec_l01Rises.l0:Nat→List Int→Int→Int→Option (Bool)
 |0,_,_,_=>none
 |k+1,x5,x2,x0=>if x0<(x5.length:Int) then (if 0≤x0 then ((spec_l01In.f (rd x5 x0) 0 (wrap64 (x2-1))).bind fun t7=>(if t7=true then (if x0>0 then (if 0≤(wrap64 (x0-1)) then (if (wrap64 (x0-1))<(x5.length:Int) then (if (rd x5 x0)≤(rd x5 (wrap64 (x0-1))) then (some false) else (spec_l01Rises.l0 k x5 x2 (wrap64 (x0+1)))) else (none)) else (none)) else (spec_l01Rises.l0 k x5 x2 (wrap64 (x0+1)))) else (some false))) else (none)) else (some true)
def spec_l01Rises.f (k:Nat) (l0:List Int) (a1:Int):Option (Bool):=spec_l01Rises.l0 k l0 a1 0
theorem spec_l01Rises.calls (k:Nat) (A0:Option Addr) (c0:Nat) (l0:List Int) (a1:Int) (r:Bool) (w:World) (hr0:Kd.C (Kd.int .i64) w A0 l0.length l0) (hc0:l0.length≤c0) (h:spec_l01Rises.f k l0 a1=some r):
  Calls Try.prog 76 #[.slice A0 l0.length c0,.int .i64 a1] w fun e w'=>e=.returned (.bool r)∧Drawn0 w w':=by
 have HR0:=ak hr0;have HC0:=ak hc0;clear hr0 hc0;unfold spec_l01Rises.f at h;have H:=h;clear h;have H':=ak H;clear H;go_enter Try.func76,Try.ntmps76;go_wp2
 repeat (go_quiet (fail);try go_wp2)
 go_loopg [5] k (fun kq v0 w'=>∃(x0_2:Int),v0=.int .i64 x0_2∧Aside0 (spec_l01Rises.l0 kq l0 a1 x0_2=some r)∧Aside0 (kq≤k)∧Drawn0 w w')
 case atStart=>exact⟨(0),es,H',⟨Nat.le_refl _⟩,by repeat (first|exact Drawn0.refl _|apply Drawn0.step)⟩
 case round=>
  clear H';obtain⟨x0_2,rfl,HA,HK1,⟨m2,rfl⟩⟩:=hrel
  cases gk with
  |zero=>exact absurd HA.1 (by simp [spec_l01Rises.l0])
  |succ k1=>
   have H:=HA.1;clear HA;simp only [spec_l01Rises.l0] at H
   by_cases c3:x0_2<(l0.length:Int)
   ·rw [if_pos c3] at H;have c3b0:=decide_eq_true c3;clear c3;by_cases c4:0≤x0_2
    ·rw [if_pos c4] at H;have c4b0:=decide_eq_true c4;clear c4;obtain⟨t7,A5,H⟩:=bnk H;by_cases c6:t7=true
     ·subst c6;rw [if_pos rfl] at H;by_cases c7:x0_2>0
      ·rw [if_pos c7] at H;have c7b0:=decide_eq_true c7;clear c7;obtain⟨ji6,hji8⟩:∃j_:Int,(wrap64 (x0_2-1))=j_:=⟨_,rfl⟩;replace H:(if 0≤(ji6) then (if (ji6)<(l0.length:Int) then (if (rd l0 x0_2)≤(rd l0 (ji6)) then (some false) else (spec_l01Rises.l0 k1 l0 a1 (wrap64 (x0_2+1)))) else (none)) else (none))=some r:=by first|(rw [hji8] at H;exact H)|(simp only [hji8] at H ⊢;exact H)
       (try rw [hji8] at A5)
       have hji8w:(IntKind.i64.wrap (x0_2-1))=ji6:=(i64_w _).trans hji8;by_cases c9:0≤(ji6)
       ·rw [if_pos c9] at H;have c9b0:=decide_eq_true c9;clear c9;by_cases c10:(ji6)<(l0.length:Int)
        ·rw [if_pos c10] at H;have c10b0:=decide_eq_true c10;clear c10;by_cases c11:(rd l0 x0_2)≤(rd l0 (ji6))
         ·rw [if_pos c11] at H;have c11b0:=decide_eq_true c11;clear c11;obtain rfl:=sj H;have p1:0≤(x0_2:Int):=od;have q1:x0_2<(l0.length:Int):=od;obtain⟨ad1,e1,hx1_5⟩:=Kd.at_int HR0.1 x0_2 p1 q1
          cases e1;replace p1:=eq_true p1;replace q1:=eq_true q1;have p3:0≤(x0_2:Int):=od;have q3:x0_2<(l0.length:Int):=od;obtain⟨ad3,e3,hx3_5⟩:=Kd.at_int HR0.1 x0_2 p3 q3;obtain rfl:ad1=ad3:=(by injection e3);replace p3:=eq_true p3;replace q3:=eq_true q3;have p4:0≤((ji6):Int):=od;have q4:(ji6)<(l0.length:Int):=od;obtain⟨ad4,e4,hx4_5⟩:=Kd.at_int HR0.1 (ji6) p4 q4;obtain rfl:ad1=ad4:=(by injection e4);replace p4:=eq_true p4;replace q4:=eq_true q4;go_wp2_with (first|(go_at_call 98;(with_reducible refine(spec_l01In.calls (rd l0 x0_2) 0 (wrap64 (a1-1)) _ _ A5.1).mono ?_);rintro e w' ⟨rfl,⟨nd,rfl⟩⟩;(try first|exact⟨rfl,_,World.drewN_drewN _ _ _⟩|exact⟨rfl,_,Eq.trans (World.drewN_drewN _ _ _) (congrArg (World.drewN _) (Nat.add_assoc _ _ _))⟩)))
          repeat (go_quiet (first|(go_at_call 98;(with_reducible refine(spec_l01In.calls (rd l0 x0_2) 0 (wrap64 (a1-1)) _ _ A5.1).mono ?_);rintro e w' ⟨rfl,⟨nd,rfl⟩⟩;(try first|exact⟨rfl,_,World.drewN_drewN _ _ _⟩|exact⟨rfl,_,Eq.trans (World.drewN_drewN _ _ _) (congrArg (World.drewN _) (Nat.add_assoc _ _ _))⟩)));try go_wp2_with (first|(go_at_call 98;(with_reducible refine(spec_l01In.calls (rd l0 x0_2) 0 (wrap64 (a1-1)) _ _ A5.1).mono ?_);rintro e w' ⟨rfl,⟨nd,rfl⟩⟩;(try first|exact⟨rfl,_,World.drewN_drewN _ _ _⟩|exact⟨rfl,_,Eq.trans (World.drewN_drewN _ _ _) (congrArg (World.drewN _) (Nat.add_assoc _ _ _))⟩))))
          go_ret
          exact⟨by first|rfl|(simp;done)|(simp only [←hji8]<;>(first|rfl|simp))|(simp [*];done),by repeat (first|exact Drawn0.refl _|apply Drawn0.step)⟩
         ·rw [if_neg c11] at H;have c11b0:=decide_eq_false c11;clear c11;have H':=ak H;clear H;have p1:0≤(x0_2:Int):=od;have q1:x0_2<(l0.length:Int):=od;obtain⟨ad1,e1,hx1_5⟩:=Kd.at_int HR0.1 x0_2 p1 q1
          cases e1;replace p1:=eq_true p1;replace q1:=eq_true q1;have p3:0≤(x0_2:Int):=od;have q3:x0_2<(l0.length:Int):=od;obtain⟨ad3,e3,hx3_5⟩:=Kd.at_int HR0.1 x0_2 p3 q3;obtain rfl:ad1=ad3:=(by injection e3);replace p3:=eq_true p3;replace q3:=eq_true q3;have p4:0≤((ji6):Int):=od;have q4:(ji6)<(l0.length:Int):=od;obtain⟨ad4,e4,hx4_5⟩:=Kd.at_int HR0.1 (ji6) p4 q4;obtain rfl:ad1=ad4:=(by injection e4);replace p4:=eq_true p4;replace q4:=eq_true q4;go_wp2_with (first|(go_at_call 98;(with_reducible refine(spec_l01In.calls (rd l0 x0_2) 0 (wrap64 (a1-1)) _ _ A5.1).mono ?_);rintro e w' ⟨rfl,⟨nd,rfl⟩⟩;(try first|exact⟨rfl,_,World.drewN_drewN _ _ _⟩|exact⟨rfl,_,Eq.trans (World.drewN_drewN _ _ _) (congrArg (World.drewN _) (Nat.add_assoc _ _ _))⟩)))
          repeat (go_quiet (first|(go_at_call 98;(with_reducible refine(spec_l01In.calls (rd l0 x0_2) 0 (wrap64 (a1-1)) _ _ A5.1).mono ?_);rintro e w' ⟨rfl,⟨nd,rfl⟩⟩;(try first|exact⟨rfl,_,World.drewN_drewN _ _ _⟩|exact⟨rfl,_,Eq.trans (World.drewN_drewN _ _ _) (congrArg (World.drewN _) (Nat.add_assoc _ _ _))⟩)));try go_wp2_with (first|(go_at_call 98;(with_reducible refine(spec_l01In.calls (rd l0 x0_2) 0 (wrap64 (a1-1)) _ _ A5.1).mono ?_);rintro e w' ⟨rfl,⟨nd,rfl⟩⟩;(try first|exact⟨rfl,_,World.drewN_drewN _ _ _⟩|exact⟨rfl,_,Eq.trans (World.drewN_drewN _ _ _) (congrArg (World.drewN _) (Nat.add_assoc _ _ _))⟩))))
          go_roundg k1
          case measure=>have:=HK1.1;omega
          case rel=>exact⟨(wrap64 (x0_2+1)),es,H',⟨by have:=HK1.1;omega⟩,by repeat (first|exact Drawn0.refl _|apply Drawn0.step)⟩
        ·exact nO_ c10 H
       ·exact nO_ c9 H
      ·rw [if_neg c7] at H;have c7b0:=decide_eq_false c7;clear c7;have H':=ak H;clear H;have p1:0≤(x0_2:Int):=od;have q1:x0_2<(l0.length:Int):=od;obtain⟨ad1,e1,hx1_5⟩:=Kd.at_int HR0.1 x0_2 p1 q1
       cases e1;replace p1:=eq_true p1;replace q1:=eq_true q1;go_wp2_with (first|(go_at_call 98;(with_reducible refine(spec_l01In.calls (rd l0 x0_2) 0 (wrap64 (a1-1)) _ _ A5.1).mono ?_);rintro e w' ⟨rfl,⟨nd,rfl⟩⟩;(try first|exact⟨rfl,_,World.drewN_drewN _ _ _⟩|exact⟨rfl,_,Eq.trans (World.drewN_drewN _ _ _) (congrArg (World.drewN _) (Nat.add_assoc _ _ _))⟩)))
       repeat (go_quiet (first|(go_at_call 98;(with_reducible refine(spec_l01In.calls (rd l0 x0_2) 0 (wrap64 (a1-1)) _ _ A5.1).mono ?_);rintro e w' ⟨rfl,⟨nd,rfl⟩⟩;(try first|exact⟨rfl,_,World.drewN_drewN _ _ _⟩|exact⟨rfl,_,Eq.trans (World.drewN_drewN _ _ _) (congrArg (World.drewN _) (Nat.add_assoc _ _ _))⟩)));try go_wp2_with (first|(go_at_call 98;(with_reducible refine(spec_l01In.calls (rd l0 x0_2) 0 (wrap64 (a1-1)) _ _ A5.1).mono ?_);rintro e w' ⟨rfl,⟨nd,rfl⟩⟩;(try first|exact⟨rfl,_,World.drewN_drewN _ _ _⟩|exact⟨rfl,_,Eq.trans (World.drewN_drewN _ _ _) (congrArg (World.drewN _) (Nat.add_assoc _ _ _))⟩))))
       go_roundg k1
       case measure=>have:=HK1.1;omega
       case rel=>exact⟨(wrap64 (x0_2+1)),es,H',⟨by have:=HK1.1;omega⟩,by repeat (first|exact Drawn0.refl _|apply Drawn0.step)⟩
     ·replace c6:=Bool.eq_false_iff.mpr c6;subst c6;rw [if_neg nf] at H;obtain rfl:=sj H;have p1:0≤(x0_2:Int):=od;have q1:x0_2<(l0.length:Int):=od;obtain⟨ad1,e1,hx1_5⟩:=Kd.at_int HR0.1 x0_2 p1 q1
      cases e1;replace p1:=eq_true p1;replace q1:=eq_true q1;go_wp2_with (first|(go_at_call 98;(with_reducible refine(spec_l01In.calls (rd l0 x0_2) 0 (wrap64 (a1-1)) _ _ A5.1).mono ?_);rintro e w' ⟨rfl,⟨nd,rfl⟩⟩;(try first|exact⟨rfl,_,World.drewN_drewN _ _ _⟩|exact⟨rfl,_,Eq.trans (World.drewN_drewN _ _ _) (congrArg (World.drewN _) (Nat.add_assoc _ _ _))⟩)))
      repeat (go_quiet (first|(go_at_call 98;(with_reducible refine(spec_l01In.calls (rd l0 x0_2) 0 (wrap64 (a1-1)) _ _ A5.1).mono ?_);rintro e w' ⟨rfl,⟨nd,rfl⟩⟩;(try first|exact⟨rfl,_,World.drewN_drewN _ _ _⟩|exact⟨rfl,_,Eq.trans (World.drewN_drewN _ _ _) (congrArg (World.drewN _) (Nat.add_assoc _ _ _))⟩)));try go_wp2_with (first|(go_at_call 98;(with_reducible refine(spec_l01In.calls (rd l0 x0_2) 0 (wrap64 (a1-1)) _ _ A5.1).mono ?_);rintro e w' ⟨rfl,⟨nd,rfl⟩⟩;(try first|exact⟨rfl,_,World.drewN_drewN _ _ _⟩|exact⟨rfl,_,Eq.trans (World.drewN_drewN _ _ _) (congrArg (World.drewN _) (Nat.add_assoc _ _ _))⟩))))
      go_ret
      exact⟨by first|rfl|(simp;done)|(simp [*];done),by repeat (first|exact Drawn0.refl _|apply Drawn0.step)⟩
    ·exact nO_ c4 H
   ·rw [if_neg c3] at H;have c3b0:=decide_eq_false c3;clear c3;obtain rfl:=sj H;go_wp2
    repeat (go_quiet (fail);try go_wp2)
    go_ret
    exact⟨by first|rfl|(simp;done)|(simp [*];done),by repeat (first|exact Drawn0.refl _|apply Drawn0.step)⟩
def spec_l19Code.f (k:Nat) (l0_0:List (S91)) (l0_1:List (S69)) (l0_2:List Int) (l0_3:List Int) (l0_4:List Int) (a0_5:Int) (l1:List Int):Option (Int):=(spec_IsField.f k l0_0 l0_1 l0_2 l0_3 l0_4 a0_5).bind fun t1=>(if t1=true then (if (l0_1.length:Int)>6 then (some 3) else ((spec_l01Rises.f k l1 (l0_1.length:Int)).bind fun t2=>(if t2=true then (some 0) else (some 2)))) else (some 1))
theorem spec_l19Code.calls (k:Nat) (A0_0:Option Addr) (c0_0:Nat) (l0_0:List (S91)) (A0_1:Option Addr) (c0_1:Nat) (l0_1:List (S69)) (A0_2:Option Addr) (c0_2:Nat) (l0_2:List Int) (A0_3:Option Addr) (c0_3:Nat) (l0_3:List Int) (A0_4:Option Addr) (c0_4:Nat) (l0_4:List Int) (a0_5:Int) (A1:Option Addr) (c1:Nat) (l1:List Int) (r:Int) (w:World) (hr0_0:Kd.C k91 w A0_0 l0_0.length l0_0) (hc0_0:l0_0.length≤c0_0) (hr0_1:Kd.C k69 w A0_1 l0_1.length l0_1) (hc0_1:l0_1.length≤c0_1) (hr0_2:Kd.C (Kd.int .i64) w A0_2 l0_2.length l0_2) (hc0_2:l0_2.length≤c0_2) (hr0_3:Kd.C (Kd.int .i64) w A0_3 l0_3.length l0_3) (hc0_3:l0_3.length≤c0_3) (hr0_4:Kd.C (Kd.int .i64) w A0_4 l0_4.length l0_4) (hc0_4:l0_4.length≤c0_4) (hr1:Kd.C (Kd.int .i64) w A1 l1.length l1) (hc1:l1.length≤c1) (h:spec_l19Code.f k l0_0 l0_1 l0_2 l0_3 l0_4 a0_5 l1=some r):
  Calls Try.prog 47 #[.agg (f5 A0_0 l0_0 c0_0 A0_1 l0_1 c0_1 A0_2 l0_2 c0_2 A0_3 l0_3 c0_3 A0_4 l0_4 c0_4 a0_5),.slice A1 l1.length c1] w fun e w'=>e=.returned (.int .i64 r)∧Below w.heap.size w w':=by
 have hu28:=Try.underlying28;have HR0_0:=ak hr0_0;have HC0_0:=ak hc0_0;clear hr0_0 hc0_0;have HR0_1:=ak hr0_1;have HC0_1:=ak hc0_1;clear hr0_1 hc0_1;have HR0_2:=ak hr0_2;have HC0_2:=ak hc0_2;clear hr0_2 hc0_2;have HR0_3:=ak hr0_3;have HC0_3:=ak hc0_3;clear hr0_3 hc0_3;have HR0_4:=ak hr0_4;have HC0_4:=ak hc0_4;clear hr0_4 hc0_4;have HR1:=ak hr1;have HC1:=ak hc1;clear hr1 hc1;have HB:=ak (Below.refl w.heap.size w);unfold spec_l19Code.f at h;have H:=h;clear h;obtain⟨t1,A3,H⟩:=bnk H;by_cases c4:t1=true
 subst c4;rw [if_pos rfl] at H;by_cases c5:(l0_1.length:Int)>6
 rw [if_pos c5] at H;have c5b0:=decide_eq_true c5;have c5b1:decide (6<l0_1.length)=true:=decide_eq_true (by omega);clear c5;obtain rfl:=sj H;rotate_left
 rw [if_neg c5] at H;have c5b0:=decide_eq_false c5;have c5b1:decide (6<l0_1.length)=false:=decide_eq_false (by omega);clear c5;obtain⟨t2,A10,H⟩:=bnk H;by_cases c11:t2=true
 subst c11;rw [if_pos rfl] at H;obtain rfl:=sj H;rotate_left
 replace c11:=Bool.eq_false_iff.mpr c11;subst c11;rw [if_neg nf] at H;obtain rfl:=sj H;rotate_left
 replace c4:=Bool.eq_false_iff.mpr c4;subst c4;rw [if_neg nf] at H;obtain rfl:=sj H;rotate_left
 all_goals
  go_enter Try.func47,Try.ntmps47;go_wp2_with (first|((with_reducible refine gate_dst (N:=2) rfl ?_);refine bx 2 (f5 A0_0 l0_0 c0_0 A0_1 l0_1 c0_1 A0_2 l0_2 c0_2 A0_3 l0_3 c0_3 A0_4 l0_4 c0_4 a0_5) 28 ?_;intro gb0 hg w9 hbox hb;have BK0:=ak hbox;have GW616:=gw hg HB;have GE0:=gw hg HB;replace HB:=bs HB hb;clear hb hbox hg;have hcz3:=cz6 BK0.1)|((with_reducible refine at_fn (f:=75) rfl ?_);refine gl (some 7) Try.func75 #[.agg (f5 A0_0 l0_0 c0_0 A0_1 l0_1 c0_1 A0_2 l0_2 c0_2 A0_3 l0_3 c0_3 A0_4 l0_4 c0_4 a0_5)] ?_;(with_reducible refine(spec_IsField.calls k _ _ l0_0 _ _ l0_1 _ _ l0_2 _ _ l0_3 _ _ l0_4 a0_5 _ _ ?_ HC0_0.1 ?_ HC0_1.1 ?_ HC0_2.1 ?_ HC0_3.1 ?_ HC0_4.1 A3.1).mono ?_);exact vd HR0_0.1 HB.1;exact vd HR0_1.1 HB.1;exact vd HR0_2.1 HB.1;exact vd HR0_3.1 HB.1;exact vd HR0_4.1 HB.1;rintro e w9 ⟨rfl,hb⟩;refine⟨_,rfl,?_⟩;replace BK0:=kb BK0 hb;replace HB:=bs HB hb;(try clear hb);have hcz3:=cz6 BK0.1)|((with_reducible refine at_fn (f:=76) rfl ?_);refine gl (some 19) Try.func76 #[.slice A1 l1.length c1,.int .i64 (l0_1.length:Int)] ?_;(with_reducible refine(spec_l01Rises.calls k _ _ l1 (l0_1.length:Int) _ _ ?_ HC1.1 A10.1).mono ?_);exact vd HR1.1 HB.1;rintro e w' ⟨rfl,⟨nd,rfl⟩⟩;refine⟨_,rfl,?_⟩))
  go_ret
  exact⟨ew,vb HB.1⟩
def spec_l01Has.l0:Nat→List Int→Int→Int→Option (Bool)
 |0,_,_,_=>none
 |k+1,x3,x2,x1=>if x1<(x3.length:Int) then (if 0≤x1 then (if (rd x3 x1)=x2 then (some true) else (spec_l01Has.l0 k x3 x2 (wrap64 (x1+1)))) else (none)) else (some false)
def spec_l01Has.f (k:Nat) (l0:List Int) (a1:Int):Option (Bool):=spec_l01Has.l0 k l0 a1 0
theorem spec_l01Has.calls (k:Nat) (A0:Option Addr) (c0:Nat) (l0:List Int) (a1:Int) (r:Bool) (w:World) (hr0:Kd.C (Kd.int .i64) w A0 l0.length l0) (hc0:l0.length≤c0) (h:spec_l01Has.f k l0 a1=some r):
  Calls Try.prog 62 #[.slice A0 l0.length c0,.int .i64 a1] w fun e w'=>e=.returned (.bool r)∧Drawn0 w w':=by
 have HR0:=ak hr0;have HC0:=ak hc0;clear hr0 hc0;unfold spec_l01Has.f at h;have H:=h;clear h;have H':=ak H;clear H;go_enter Try.func62,Try.ntmps62;go_wp2
 go_loopg [5] k (fun kq v1 w'=>∃(x1_2:Int),v1=.int .i64 x1_2∧Aside0 (spec_l01Has.l0 kq l0 a1 x1_2=some r)∧Aside0 (kq≤k)∧Drawn0 w w')
 case atStart=>exact⟨(0),es,H',⟨Nat.le_refl _⟩,by repeat (first|exact Drawn0.refl _|apply Drawn0.step)⟩
 case round=>
  clear H';obtain⟨x1_2,rfl,HA,HK1,⟨m2,rfl⟩⟩:=hrel
  cases gk with
  |zero=>exact absurd HA.1 (by simp [spec_l01Has.l0])
  |succ k1=>
   have H:=HA.1;clear HA;simp only [spec_l01Has.l0] at H
   by_cases c3:x1_2<(l0.length:Int)
   ·rw [if_pos c3] at H;have c3b0:=decide_eq_true c3;clear c3;by_cases c4:0≤x1_2
    ·rw [if_pos c4] at H;have c4b0:=decide_eq_true c4;clear c4;by_cases c5:(rd l0 x1_2)=a1
     ·rw [if_pos c5] at H;obtain⟨c5b0,c5b1⟩:=bqt c5;clear c5;obtain rfl:=sj H;have p0:0≤(x1_2:Int):=od;have q0:x1_2<(l0.length:Int):=od;obtain⟨ad0,e0,hx0_3⟩:=Kd.at_int HR0.1 x1_2 p0 q0
      cases e0;replace p0:=eq_true p0;replace q0:=eq_true q0;go_wp2
      go_ret
      exact⟨by first|rfl|(simp;done)|(simp [*];done),by repeat (first|exact Drawn0.refl _|apply Drawn0.step)⟩
     ·rw [if_neg c5] at H;obtain⟨c5b0,c5b1⟩:=bqf c5;have H':=ak H;clear H;have p0:0≤(x1_2:Int):=od;have q0:x1_2<(l0.length:Int):=od;obtain⟨ad0,e0,hx0_3⟩:=Kd.at_int HR0.1 x1_2 p0 q0
      cases e0;replace p0:=eq_true p0;replace q0:=eq_true q0;go_wp2
      go_roundg k1
      case measure=>have:=HK1.1;omega
      case rel=>exact⟨(wrap64 (x1_2+1)),es,H',⟨by have:=HK1.1;omega⟩,by repeat (first|exact Drawn0.refl _|apply Drawn0.step)⟩
    ·exact nO_ c4 H
   ·rw [if_neg c3] at H;have c3b0:=decide_eq_false c3;clear c3;obtain rfl:=sj H;go_wp2
    go_ret
    exact⟨by first|rfl|(simp;done)|(simp [*];done),by repeat (first|exact Drawn0.refl _|apply Drawn0.step)⟩
def spec_l01Own.f (l0:List Int):Option (List Int):=(some (([]:List Int):List Int)).bind fun y0=>(if y0.length+l0.length<17592186044416 then (some (y0++l0)) else (none))
theorem spec_l01Own.calls (A0:Option Addr) (c0:Nat) (l0:List Int) (r:List Int) (w:World) (hr0:Kd.C (Kd.int .i64) w A0 l0.length l0) (hc0:l0.length≤c0) (h:spec_l01Own.f l0=some r):
  Calls Try.prog 79 #[.slice A0 l0.length c0] w fun e w'=>∃v0_:Value,e=.returned (v0_)∧Kd.R (Kd.int .i64) 2 w' w.heap.size (fun _=>True) v0_ r∧Below w.heap.size w w':=by
 have HR0:=ak hr0;have HC0:=ak hc0;clear hr0 hc0;have HB:=ak (Below.refl w.heap.size w);unfold spec_l01Own.f at h;have H:=h;clear h;obtain⟨y0,Ny0,H⟩:=bnE H;by_cases c2:y0.length+l0.length<17592186044416
 ·rw [if_pos c2] at H;have LMc2:=ak c2;clear c2;obtain⟨y1,hy1⟩:=gen_ ((y0++l0:List Int));rw [←hy1] at H;have Ny1:=ak hy1;clear hy1;obtain rfl:=sj H;go_enter Try.func79,Try.ntmps79;go_wp2_with (first|((with_reducible refine gate_dst (N:=3) rfl ?_);refine Kd.R_lit (Kd.int .i64) _ 2 ?hg (N:=3) ?hd (xs:=([]:List Int)) (inner:=[]) (ok:=fun _=>True) (okp:=fun _=>True) ?hr ?hp (fun _ hk=>hk) trivial (Below.refl _ _) (Nat.le_refl _) (by simp) ?_;(case hd=>rfl);(case hg=>rfl);(case hr=>first|(go_simp;done)|(go_simp;rfl));(case hp=>exact(Reps.none _ _));intro v4 w3 ho2 hb hg_ hnew_;clear hg_ hnew_;(first|rw [←Ny0.1] at ho2|(simp only [Int.reduceToNat] at ho2;rw [←Ny0.1] at ho2));have HO3:=ak (Kd.R_lower ho2 (below_size (vb HB.1)));replace HB:=bs HB hb;clear hb ho2)|((with_reducible refine at_bi (b:=.append) (xs:=#[.tmp 3,.tmp 4]) rfl ?_);at_builtin;refine Kd.R_append_rows (Kd.int .i64) (w0:=w) w.heap.size rfl (.tmp 3) (.tmp 4) 26 2 (.int .i64 0) 8 rfl Try.underlying26 info2 rfl (by decide) (by omega) v4 y0 l0 _ _ _ (fun _=>True) (fun _=>False) rfl rfl ?aO ?aR (fun _ _ h=>h) (fun _ h=>h.elim) ?aF ?aB ?aS ?aL ?_;(case aR=>exact vd HR0.1 HB.1);(case aB=>exact(vb HB.1));(case aF=>exact(fun _ _=>trivial));(case aO=>exact(vr HO3.1));(case aS=>exact(below_size (vb HB.1)));(case aL=>have:=LMc2.1;omega);intro v6 w5 ho hb hg hat;rw [←Ny1.1] at ho;have n0_:=ak (hb);have n1_:=ak (ho);clear HB;clear HO3;have HB:=n0_;have HO5:=n1_;clear n0_ n1_;clear ho hb hg hat))
  go_ret
  exact⟨_,ew,vr HO5.1,vb HB.1⟩
 ·exact nO_ c2 H
end Go.Proofs.Ytiblahniohjbbaa.Pall
