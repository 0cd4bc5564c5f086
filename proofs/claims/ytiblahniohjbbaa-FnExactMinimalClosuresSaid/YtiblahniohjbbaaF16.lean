/- Go functions of the program, each as a Lean function, and the proof that each call comes to what the Lean function tells; no condition beyond those that stand there. -/
import Derived.Test.YtiblahniohjbbaaF15
namespace Go.Proofs.Ytiblahniohjbbaa.Pall
set_option maxRecDepth 100000
set_option maxHeartbeats 8000000
open Go.RowKit Go.Proofs.YtiblahniohjbbaaW.PrintWords Go.Proofs.YtiblahniohjbbaaW.PrintLast
set_option linter.unusedVariables false
set_option linter.unusedSimpArgs false
def impl_isMinimal.l0:Nat→List Int→Int→Int→List (S91)→List (S69)→List Int→List Int→List Int→Int→Option (Bool)
 |0,_,_,_,_,_,_,_,_,_=>none
 |k+1,x2,x8,x0,x18,x19,x20,x21,x22,x23=>if x0<x8 then (if 0≤x0 then (if x0≤(x2.length:Int) then ((impl_copyList.f (x2.take (x0:Int).toNat)).bind fun t3=>(if 0≤(wrap64 (x0+1)) then (if (wrap64 (x0+1))≤(x2.length:Int) then (if t3.length+(x2.drop ((wrap64 (x0+1)):Int).toNat).length<17592186044416 then ((impl_isClosure.f k x18 x19 x20 x21 x22 x23 (t3++(x2.drop ((wrap64 (x0+1)):Int).toNat))).bind fun t11=>(if t11=true then (some false) else (impl_isMinimal.l0 k x2 x8 (wrap64 (x0+1)) x18 x19 x20 x21 x22 x23))) else (none)) else (none)) else (none))) else (none)) else (none)) else (some true)
def impl_isMinimal.f (k:Nat) (l0_0:List (S91)) (l0_1:List (S69)) (l0_2:List Int) (l0_3:List Int) (l0_4:List Int) (a0_5:Int) (l1:List Int):Option (Bool):=impl_isMinimal.l0 k l1 (l1.length:Int) 0 l0_0 l0_1 l0_2 l0_3 l0_4 a0_5
theorem impl_isMinimal.mono_l:∀k,(∀y6 y2 y12 y13 y14 y15 y16 y8 y0,LeO (impl_isMinimal.l0 k y6 y2 y12 y13 y14 y15 y16 y8 y0) (impl_isMinimal.l0 (k+1) y6 y2 y12 y13 y14 y15 y16 y8 y0))
 |0=>fun _ _ _ _ _ _ _ _ _ r h=>by simp [impl_isMinimal.l0] at h
 |k+1=>by
  have ih0:=impl_isMinimal.mono_l k
  ·intro y6 y2 y12 y13 y14 y15 y16 y8 y0;unfold impl_isMinimal.l0
   repeat' (with_reducible first|exact ih0 .. |exact impl_isClosure.mono .. |exact lm|refine LeO.ite ?_ ?_|refine LeO.bind ?_ (fun _=>?_))
theorem impl_isMinimal.mono:∀a0 a1 a2 a3 a4 a5 a6 k,LeO (impl_isMinimal.f k a0 a1 a2 a3 a4 a5 a6) (impl_isMinimal.f (k+1) a0 a1 a2 a3 a4 a5 a6):=by
 intro a0 a1 a2 a3 a4 a5 a6 k;have ih0:=impl_isMinimal.mono_l k;unfold impl_isMinimal.f
 repeat' (with_reducible first|exact ih0 .. |exact impl_isClosure.mono .. |exact lm|refine LeO.ite ?_ ?_|refine LeO.bind ?_ (fun _=>?_))
def impl_isMinimal.T4:Bool×List (List Nat×List Nat):=(true,[([],[]),([],[]),([],[]),([1,2],[1,2]),([3],[3]),([],[]),([],[]),([6],[6]),([5,7],[5,7]),([4,8,4],[4,8]),([0,9,9],[0,9])])
def impl_isMinimal.B4:List Nat:=[0,0,0,6,14,0,0,64,224,510,1023]
theorem impl_isMinimal.tab4:rtab .any (opsOf Try.f57 4)=impl_isMinimal.T4:=by kernel_rfl
theorem impl_isMinimal.bits4:waitsOk impl_isMinimal.T4.2 impl_isMinimal.B4=true:=by kernel_rfl
theorem impl_isMinimal.calls (k:Nat) (A0_0:Option Addr) (c0_0:Nat) (l0_0:List (S91)) (A0_1:Option Addr) (c0_1:Nat) (l0_1:List (S69)) (A0_2:Option Addr) (c0_2:Nat) (l0_2:List Int) (A0_3:Option Addr) (c0_3:Nat) (l0_3:List Int) (A0_4:Option Addr) (c0_4:Nat) (l0_4:List Int) (a0_5:Int) (A1:Option Addr) (c1:Nat) (l1:List Int) (r:Bool) (w:World) (hr0_0:Kd.C k91 w A0_0 l0_0.length l0_0) (hc0_0:l0_0.length≤c0_0) (hr0_1:Kd.C k69 w A0_1 l0_1.length l0_1) (hc0_1:l0_1.length≤c0_1) (hr0_2:Kd.C (Kd.int .i64) w A0_2 l0_2.length l0_2) (hc0_2:l0_2.length≤c0_2) (hr0_3:Kd.C (Kd.int .i64) w A0_3 l0_3.length l0_3) (hc0_3:l0_3.length≤c0_3) (hr0_4:Kd.C (Kd.int .i64) w A0_4 l0_4.length l0_4) (hc0_4:l0_4.length≤c0_4) (hr1:Kd.C (Kd.int .i64) w A1 l1.length l1) (hc1:l1.length≤c1) (h:impl_isMinimal.f k l0_0 l0_1 l0_2 l0_3 l0_4 a0_5 l1=some r):
  Calls Try.prog 57 #[.agg (f5 A0_0 l0_0 c0_0 A0_1 l0_1 c0_1 A0_2 l0_2 c0_2 A0_3 l0_3 c0_3 A0_4 l0_4 c0_4 a0_5),.slice A1 l1.length c1] w fun e w'=>e=.returned (.bool r)∧Below w.heap.size w w':=by
 have hu28:=Try.underlying28;have HR0_0:=ak hr0_0;have HC0_0:=ak hc0_0;clear hr0_0 hc0_0;have HR0_1:=ak hr0_1;have HC0_1:=ak hc0_1;clear hr0_1 hc0_1;have HR0_2:=ak hr0_2;have HC0_2:=ak hc0_2;clear hr0_2 hc0_2;have HR0_3:=ak hr0_3;have HC0_3:=ak hc0_3;clear hr0_3 hc0_3;have HR0_4:=ak hr0_4;have HC0_4:=ak hc0_4;clear hr0_4 hc0_4;have HR1:=ak hr1;have HC1:=ak hc1;clear hr1 hc1;have HB:=ak (Below.refl w.heap.size w);unfold impl_isMinimal.f at h;have H:=h;clear h;have H':=ak H;clear H;go_enter Try.func57,Try.ntmps57;go_wp2_with (first|((with_reducible refine gate_dst (N:=2) rfl ?_);refine bx 2 (f5 A0_0 l0_0 c0_0 A0_1 l0_1 c0_1 A0_2 l0_2 c0_2 A0_3 l0_3 c0_3 A0_4 l0_4 c0_4 a0_5) 28 ?_;intro gb1 hg w3 hbox hb;have BK1:=ak hbox;have GW954:=gw hg HB;have GE1:=gw hg HB;replace HB:=bs HB hb;clear hb hbox hg))
 go_loopg [8] k (fun kq v0 w'=>∃(x0_2:Int),v0=.int .i64 x0_2∧Aside0 (impl_isMinimal.l0 kq l1 (l1.length:Int) x0_2 l0_0 l0_1 l0_2 l0_3 l0_4 a0_5=some r)∧Aside0 (kq≤k)∧Aside0 (w'.heap[gb1]? =some (.cells (f5 A0_0 l0_0 c0_0 A0_1 l0_1 c0_1 A0_2 l0_2 c0_2 A0_3 l0_3 c0_3 A0_4 l0_4 c0_4 a0_5) 28 (0,0)))∧Aside0 (Below w.heap.size w w'))
 case atStart=>exact⟨(0),es,H',⟨Nat.le_refl _⟩,⟨vk BK1.1⟩,⟨vb HB.1⟩⟩
 case round=>
  clear H';obtain⟨x0_2,rfl,HA,HK1,BK1,HB⟩:=hrel
  cases gk with
  |zero=>exact absurd HA.1 (by simp [impl_isMinimal.l0])
  |succ k1=>
   have H:=HA.1;clear HA;simp only [impl_isMinimal.l0] at H
   by_cases c4:x0_2<(l1.length:Int)
   ·rw [if_pos c4] at H;have c4b0:=decide_eq_true c4;clear c4;by_cases c5:0≤x0_2
    ·rw [if_pos c5] at H;have c5b0:=eq_true c5;have c5b1:decide (0≤x0_2)=true:=decide_eq_true c5;clear c5;by_cases c6:x0_2≤(l1.length:Int)
     ·rw [if_pos c6] at H;have c6b0:=eq_true c6;have c6b1:decide (x0_2≤(l1.length:Int))=true:=decide_eq_true c6;clear c6;obtain⟨t3,A7,H⟩:=bnk H;obtain⟨ji0,hji8⟩:∃j_:Int,(wrap64 (x0_2+1))=j_:=⟨_,rfl⟩;replace H:(if 0≤(ji0) then (if (ji0)≤(l1.length:Int) then (if t3.length+(l1.drop ((ji0):Int).toNat).length<17592186044416 then ((impl_isClosure.f k1 l0_0 l0_1 l0_2 l0_3 l0_4 a0_5 (t3++(l1.drop ((ji0):Int).toNat))).bind fun t11=>(if t11=true then (some false) else (impl_isMinimal.l0 k1 l1 (l1.length:Int) ji0 l0_0 l0_1 l0_2 l0_3 l0_4 a0_5))) else (none)) else (none)) else (none))=some r:=by first|(rw [hji8] at H;exact H)|(simp only [hji8] at H ⊢;exact H)
      (try rw [hji8] at A7)
      have hji8w:(IntKind.i64.wrap (x0_2+1))=ji0:=(i64_w _).trans hji8;by_cases c9:0≤(ji0)
      ·rw [if_pos c9] at H;have c9b0:=eq_true c9;have c9b1:decide (0≤(ji0))=true:=decide_eq_true c9;clear c9;by_cases c10:(ji0)≤(l1.length:Int)
       ·rw [if_pos c10] at H;have c10b0:=eq_true c10;have c10b1:decide ((ji0)≤(l1.length:Int))=true:=decide_eq_true c10;clear c10;by_cases c11:t3.length+(l1.drop ((ji0):Int).toNat).length<17592186044416
        ·rw [if_pos c11] at H;have LMc11:=ak c11;clear c11;obtain⟨y4,hy4⟩:=gen_ ((t3++(l1.drop ((ji0):Int).toNat):List Int));rw [←hy4] at H;have Ny4:=ak hy4;clear hy4;obtain⟨t11,A12,H⟩:=bnk H;by_cases c13:t11=true
         ·subst c13;rw [if_pos rfl] at H;obtain rfl:=sj H;(try go_wp2)
          replace BK1:=ak (blk_drew BK1.1);replace HB:=ak (below_drew1 HB.1);obtain⟨i015,hi015,_,hsz15,_⟩:=info_parts info2;obtain⟨hcut15,hA15,hC15⟩:=print_take_of (P:=Try.prog) (Value.int .i64) 0 26 2 .i64 Try.underlying26 hi015 hsz15 A1 c1 l1 x0_2 (od) (od) HC1.1;have HR955:=ak (Kd.C_of_reads (h1:=fun _=>rfl) (hA15 _ (Kd.reads_of_C HR1.1)));have HC955:=ak hC15;clear hA15 hC15 hi015 hsz15;obtain⟨i016,hi016,_,hsz16,_⟩:=info_parts info2;obtain⟨A16,hcut16,hA16,hC16⟩:=print_drop_of (P:=Try.prog) (Value.int .i64) 0 26 2 .i64 Try.underlying26 hi016 hsz16 A1 c1 l1 (ji0) (od) (od) HC1.1;have HR959:=ak (Kd.C_of_reads (h1:=fun _=>rfl) (hA16 _ (Kd.reads_of_C HR1.1)));have HC959:=ak hC16;clear hA16 hC16 hi016 hsz16;refine start_ (n:=11) (S:=fun w'=>w'.cell? ⟨gb1,0,none⟩=some (.slice A0_0 l0_0.length c0_0)∧w'.cell? ⟨gb1,1,none⟩=some (.slice A0_1 l0_1.length c0_1)∧w'.cell? ⟨gb1,2,none⟩=some (.slice A0_2 l0_2.length c0_2)∧w'.cell? ⟨gb1,3,none⟩=some (.slice A0_3 l0_3.length c0_3)∧w'.cell? ⟨gb1,4,none⟩=some (.slice A0_4 l0_4.length c0_4)∧w'.cell? ⟨gb1,5,none⟩=some (.int .i64 a0_5)) (ds:=[]) (tf 0 11) (by kernel_rfl) rfl rfl (cy6 BK1.1) (fun hHeld=>?_);refine with_tabW impl_isMinimal.tab4 impl_isMinimal.bits4 (fun HT_ HW_=>?_);generalize wr.drew=w14 at BK1 HB HR955 HR959 hHeld ⊢;refine pu_ 1 12 (tM [0,1,1,9]) rfl rfl ?_
          refine pu_ 2 13 (tM [0,1,2,8]) rfl rfl ?_;refine pu_ 3 14 (tM [0,1,3,7]) rfl rfl ?_;refine pu_ 5 16 (tM [0,1,3,1,1,5]) rfl rfl ?_;refine pu_ 6 17 (tM [0,1,3,1,2,4]) rfl rfl ?_;refine pu_ 7 18 (tM [0,1,3,1,3,3]) rfl rfl ?_;refine pu_ 8 19 (tM [0,1,3,1,4,2]) rfl rfl ?_;refine ta6_ 0 11 (tM [4,1,4,2]) rfl rfl ?_;refine one_ (i:=4) (N:=some 15) (tf 9 2) rfl rfl (one_of HT_.1 (by kernel_rfl)) (by decide) (fun K hK=>?_);refine goes_ Try.func78 (by kernel_rfl) rfl #[.slice A1 (l1.take (x0_2:Int).toNat).length c1] (by rfl) rfl rfl (by(try simp only [List.map_toArray,List.map_cons,List.map_nil]);first|done|(rw [show (l1.take (x0_2:Int).toNat).length=x0_2.toNat from(by rw [List.length_take];have h_:(x0_2:Int)≤(l1.length:Int):=od;omega)]<;>rfl)|rfl|(simp only [List.length_drop,List.length_take];rfl)) ?_;with_reducible refine(impl_copyList.calls _ _ (l1.take (x0_2:Int).toNat) t3 _ ?_ ?_ A7.1).mono ?_
          exact vd HR955.1 HB.1
          exact HC955.1
          rintro e w17 ⟨v17,rfl,ho6,hb⟩;refine⟨_,rfl,?_⟩;have HO7:=ak (Kd.R_lower ho6 (below_size (vb HB.1)));replace BK1:=kb BK1 hb;replace HB:=bs HB hb;(try clear hb)
          (try clear hb2)
          (try clear hk)
          (try clear hi)
          (try clear ho6)
          refine hK.out _ _ (cy6 BK1.1) (fun hHeld=>?_);clear hK K;refine norm_ (a':=?_) ?_ ?_
          rotate_left
          ·show Act.put _ (some 15) _=_
           simp only [Act.put,List.setIfInBounds_toArray,List.set_cons_zero,List.set_cons_succ,i64_w,i32_w]
           rfl
          refine one_ (i:=9) (N:=some 20) (tf 10 1) rfl rfl (one_of HT_.1 (by kernel_rfl)) (by decide) (fun K hK=>?_);refine Kd.R_append_rows_step (Kd.int .i64) (w0:=w) w.heap.size (by rfl) (.tmp 15) (.tmp 19) 26 2 (.int .i64 0) 8 rfl Try.underlying26 info2 rfl (by decide) (by omega) v17 t3 (l1.drop ((ji0):Int).toNat) _ _ _ (fun _=>True) (fun _=>False) rfl rfl ?aO ?aR (fun _ _ h=>h) (fun _ h=>h.elim) ?aF ?aB ?aS ?aL ?_;(case aR=>first|(rw [←show (l1.drop ((ji0):Int).toNat).length=(l1.length-(ji0).toNat) from List.length_drop];exact vd HR959.1 HB.1)|(exact vd HR959.1 HB.1))
          (case aB=>exact(vb HB.1))
          (case aF=>exact(fun _ _=>trivial))
          (case aO=>exact(vr HO7.1))
          (case aS=>exact(below_size (vb HB.1)))
          (case aL=>have:=LMc11.1;have hlx_:=(show (l1.drop ((ji0):Int).toNat).length=(l1.length-(ji0).toNat) from List.length_drop);omega)
          intro v24 w18 ho hb hg hat;rw [←Ny4.1] at ho;have n0_:=ak (blk_grown (g:=gb1) (o:=.cells (f5 A0_0 l0_0 c0_0 A0_1 l0_1 c0_1 A0_2 l0_2 c0_2 A0_3 l0_3 c0_3 A0_4 l0_4 c0_4 a0_5) 28 (0,0)) (vk BK1.1) hg (Kd.R_ne HO7.1 BK1.1 (by decide)));have n1_:=ak (hb);have n2_:=ak (ho);clear BK1;clear HB;clear HO7;have BK1:=n0_;have HB:=n1_;have HO5:=n2_;clear n0_ n1_ n2_;clear ho hb hg hat;obtain⟨Ao9,co9,eo9⟩:=Kd.R_slice HO5.1;(first|subst eo9|(injection eo9 with f1_ f2_ f3_;have f4_:=f1_.symm;have f5_:=f3_.symm;clear f1_ f2_ f3_;subst f4_;subst f5_))
          refine hK.out _ _ (cy6 BK1.1) (fun hHeld=>?_);clear hK K;refine norm_ (a':=?_) ?_ ?_
          rotate_left
          ·show Act.put _ (some 20) _=_
           simp only [Act.put,List.setIfInBounds_toArray,List.set_cons_zero,List.set_cons_succ,i64_w,i32_w]
           rfl
          refine one_ (i:=10) (N:=some 21) (tf 11 0) rfl rfl (one_of HT_.1 (by kernel_rfl)) (by decide) (fun K hK=>?_);refine goes_ Try.func46 (by kernel_rfl) rfl #[.agg (f5 A0_0 l0_0 c0_0 A0_1 l0_1 c0_1 A0_2 l0_2 c0_2 A0_3 l0_3 c0_3 A0_4 l0_4 c0_4 a0_5),.slice Ao9 y4.length co9] (by rfl) rfl rfl (by(try simp only [List.map_toArray,List.map_cons,List.map_nil]);first|done|rfl|(simp only [List.length_drop,List.length_take];rfl)) ?_;with_reducible refine(impl_isClosure.calls k1 _ _ l0_0 _ _ l0_1 _ _ l0_2 _ _ l0_3 _ _ l0_4 a0_5 _ _ y4 true _ ?_ ?_ ?_ ?_ ?_ ?_ ?_ ?_ ?_ ?_ ?_ ?_ A12.1).mono ?_
          exact vd HR0_0.1 HB.1
          exact HC0_0.1
          exact vd HR0_1.1 HB.1
          exact HC0_1.1
          exact vd HR0_2.1 HB.1
          exact HC0_2.1
          exact vd HR0_3.1 HB.1
          exact HC0_3.1
          exact vd HR0_4.1 HB.1
          exact HC0_4.1
          exact rc_ HO5
          exact rl_ HO5
          rintro e w20 ⟨rfl,hb⟩;refine⟨_,rfl,?_⟩;replace HO5:=rb HO5 hb;replace BK1:=kb BK1 hb;replace HB:=bs HB hb;(try clear hb)
          (try clear hb2)
          (try clear hk)
          (try clear hi)
          refine hK.out _ _ (cy6 BK1.1) (fun hHeld=>?_);clear hK K;refine norm_ (a':=?_) ?_ ?_
          rotate_left
          ·show Act.put _ (some 21) _=_
           simp only [Act.put,List.setIfInBounds_toArray,List.set_cons_zero,List.set_cons_succ,i64_w,i32_w]
           rfl
          refine done_ (done_of HT_.1 (by kernel_rfl)) ?_;(try go_wp2)
          go_ret
          exact⟨by first|rfl|(simp [errW_none,errW_some]<;>rfl)|(simp only [←hji8];first|rfl|(simp [errW_none,errW_some]<;>rfl))|(simp [*,errW_none,errW_some]<;>rfl),vb HB.1⟩
         ·replace c13:=Bool.eq_false_iff.mpr c13;subst c13;rw [if_neg nf] at H;have H':=ak H;clear H;(try go_wp2)
          replace BK1:=ak (blk_drew BK1.1);replace HB:=ak (below_drew1 HB.1);obtain⟨i022,hi022,_,hsz22,_⟩:=info_parts info2;obtain⟨hcut22,hA22,hC22⟩:=print_take_of (P:=Try.prog) (Value.int .i64) 0 26 2 .i64 Try.underlying26 hi022 hsz22 A1 c1 l1 x0_2 (od) (od) HC1.1;have HR955:=ak (Kd.C_of_reads (h1:=fun _=>rfl) (hA22 _ (Kd.reads_of_C HR1.1)));have HC955:=ak hC22;clear hA22 hC22 hi022 hsz22;obtain⟨i023,hi023,_,hsz23,_⟩:=info_parts info2;obtain⟨A23,hcut23,hA23,hC23⟩:=print_drop_of (P:=Try.prog) (Value.int .i64) 0 26 2 .i64 Try.underlying26 hi023 hsz23 A1 c1 l1 (ji0) (od) (od) HC1.1;have HR959:=ak (Kd.C_of_reads (h1:=fun _=>rfl) (hA23 _ (Kd.reads_of_C HR1.1)));have HC959:=ak hC23;clear hA23 hC23 hi023 hsz23;refine start_ (n:=11) (S:=fun w'=>w'.cell? ⟨gb1,0,none⟩=some (.slice A0_0 l0_0.length c0_0)∧w'.cell? ⟨gb1,1,none⟩=some (.slice A0_1 l0_1.length c0_1)∧w'.cell? ⟨gb1,2,none⟩=some (.slice A0_2 l0_2.length c0_2)∧w'.cell? ⟨gb1,3,none⟩=some (.slice A0_3 l0_3.length c0_3)∧w'.cell? ⟨gb1,4,none⟩=some (.slice A0_4 l0_4.length c0_4)∧w'.cell? ⟨gb1,5,none⟩=some (.int .i64 a0_5)) (ds:=[]) (tf 0 11) (by kernel_rfl) rfl rfl (cy6 BK1.1) (fun hHeld=>?_);refine with_tabW impl_isMinimal.tab4 impl_isMinimal.bits4 (fun HT_ HW_=>?_);generalize wr.drew=w21 at BK1 HB HR955 HR959 hHeld ⊢;refine pu_ 1 12 (tM [0,1,1,9]) rfl rfl ?_
          refine pu_ 2 13 (tM [0,1,2,8]) rfl rfl ?_;refine pu_ 3 14 (tM [0,1,3,7]) rfl rfl ?_;refine pu_ 5 16 (tM [0,1,3,1,1,5]) rfl rfl ?_;refine pu_ 6 17 (tM [0,1,3,1,2,4]) rfl rfl ?_;refine pu_ 7 18 (tM [0,1,3,1,3,3]) rfl rfl ?_;refine pu_ 8 19 (tM [0,1,3,1,4,2]) rfl rfl ?_;refine ta6_ 0 11 (tM [4,1,4,2]) rfl rfl ?_;refine one_ (i:=4) (N:=some 15) (tf 9 2) rfl rfl (one_of HT_.1 (by kernel_rfl)) (by decide) (fun K hK=>?_);refine goes_ Try.func78 (by kernel_rfl) rfl #[.slice A1 (l1.take (x0_2:Int).toNat).length c1] (by rfl) rfl rfl (by(try simp only [List.map_toArray,List.map_cons,List.map_nil]);first|done|(rw [show (l1.take (x0_2:Int).toNat).length=x0_2.toNat from(by rw [List.length_take];have h_:(x0_2:Int)≤(l1.length:Int):=od;omega)]<;>rfl)|rfl|(simp only [List.length_drop,List.length_take];rfl)) ?_;with_reducible refine(impl_copyList.calls _ _ (l1.take (x0_2:Int).toNat) t3 _ ?_ ?_ A7.1).mono ?_
          exact vd HR955.1 HB.1
          exact HC955.1
          rintro e w24 ⟨v17,rfl,ho6,hb⟩;refine⟨_,rfl,?_⟩;have HO7:=ak (Kd.R_lower ho6 (below_size (vb HB.1)));replace BK1:=kb BK1 hb;replace HB:=bs HB hb;(try clear hb)
          (try clear hb2)
          (try clear hk)
          (try clear hi)
          (try clear ho6)
          refine hK.out _ _ (cy6 BK1.1) (fun hHeld=>?_);clear hK K;refine norm_ (a':=?_) ?_ ?_
          rotate_left
          ·show Act.put _ (some 15) _=_
           simp only [Act.put,List.setIfInBounds_toArray,List.set_cons_zero,List.set_cons_succ,i64_w,i32_w]
           rfl
          refine one_ (i:=9) (N:=some 20) (tf 10 1) rfl rfl (one_of HT_.1 (by kernel_rfl)) (by decide) (fun K hK=>?_);refine Kd.R_append_rows_step (Kd.int .i64) (w0:=w) w.heap.size (by rfl) (.tmp 15) (.tmp 19) 26 2 (.int .i64 0) 8 rfl Try.underlying26 info2 rfl (by decide) (by omega) v17 t3 (l1.drop ((ji0):Int).toNat) _ _ _ (fun _=>True) (fun _=>False) rfl rfl ?aO ?aR (fun _ _ h=>h) (fun _ h=>h.elim) ?aF ?aB ?aS ?aL ?_;(case aR=>first|(rw [←show (l1.drop ((ji0):Int).toNat).length=(l1.length-(ji0).toNat) from List.length_drop];exact vd HR959.1 HB.1)|(exact vd HR959.1 HB.1))
          (case aB=>exact(vb HB.1))
          (case aF=>exact(fun _ _=>trivial))
          (case aO=>exact(vr HO7.1))
          (case aS=>exact(below_size (vb HB.1)))
          (case aL=>have:=LMc11.1;have hlx_:=(show (l1.drop ((ji0):Int).toNat).length=(l1.length-(ji0).toNat) from List.length_drop);omega)
          intro v24 w25 ho hb hg hat;rw [←Ny4.1] at ho;have n0_:=ak (blk_grown (g:=gb1) (o:=.cells (f5 A0_0 l0_0 c0_0 A0_1 l0_1 c0_1 A0_2 l0_2 c0_2 A0_3 l0_3 c0_3 A0_4 l0_4 c0_4 a0_5) 28 (0,0)) (vk BK1.1) hg (Kd.R_ne HO7.1 BK1.1 (by decide)));have n1_:=ak (hb);have n2_:=ak (ho);clear BK1;clear HB;clear HO7;have BK1:=n0_;have HB:=n1_;have HO5:=n2_;clear n0_ n1_ n2_;clear ho hb hg hat;obtain⟨Ao10,co10,eo10⟩:=Kd.R_slice HO5.1;(first|subst eo10|(injection eo10 with f1_ f2_ f3_;have f4_:=f1_.symm;have f5_:=f3_.symm;clear f1_ f2_ f3_;subst f4_;subst f5_))
          refine hK.out _ _ (cy6 BK1.1) (fun hHeld=>?_);clear hK K;refine norm_ (a':=?_) ?_ ?_
          rotate_left
          ·show Act.put _ (some 20) _=_
           simp only [Act.put,List.setIfInBounds_toArray,List.set_cons_zero,List.set_cons_succ,i64_w,i32_w]
           rfl
          refine one_ (i:=10) (N:=some 21) (tf 11 0) rfl rfl (one_of HT_.1 (by kernel_rfl)) (by decide) (fun K hK=>?_);refine goes_ Try.func46 (by kernel_rfl) rfl #[.agg (f5 A0_0 l0_0 c0_0 A0_1 l0_1 c0_1 A0_2 l0_2 c0_2 A0_3 l0_3 c0_3 A0_4 l0_4 c0_4 a0_5),.slice Ao10 y4.length co10] (by rfl) rfl rfl (by(try simp only [List.map_toArray,List.map_cons,List.map_nil]);first|done|rfl|(simp only [List.length_drop,List.length_take];rfl)) ?_;with_reducible refine(impl_isClosure.calls k1 _ _ l0_0 _ _ l0_1 _ _ l0_2 _ _ l0_3 _ _ l0_4 a0_5 _ _ y4 false _ ?_ ?_ ?_ ?_ ?_ ?_ ?_ ?_ ?_ ?_ ?_ ?_ A12.1).mono ?_
          exact vd HR0_0.1 HB.1
          exact HC0_0.1
          exact vd HR0_1.1 HB.1
          exact HC0_1.1
          exact vd HR0_2.1 HB.1
          exact HC0_2.1
          exact vd HR0_3.1 HB.1
          exact HC0_3.1
          exact vd HR0_4.1 HB.1
          exact HC0_4.1
          exact rc_ HO5
          exact rl_ HO5
          rintro e w27 ⟨rfl,hb⟩;refine⟨_,rfl,?_⟩;replace HO5:=rb HO5 hb;replace BK1:=kb BK1 hb;replace HB:=bs HB hb;(try clear hb)
          (try clear hb2)
          (try clear hk)
          (try clear hi)
          refine hK.out _ _ (cy6 BK1.1) (fun hHeld=>?_);clear hK K;refine norm_ (a':=?_) ?_ ?_
          rotate_left
          ·show Act.put _ (some 21) _=_
           simp only [Act.put,List.setIfInBounds_toArray,List.set_cons_zero,List.set_cons_succ,i64_w,i32_w]
           rfl
          refine done_ (done_of HT_.1 (by kernel_rfl)) ?_;(try go_wp2)
          go_roundg k1
          case measure=>have:=HK1.1;omega
          case rel=>exact⟨(ji0),(by first|rfl|(simp;done)|(simp only [←hji8]<;>(first|rfl|simp))|(simp [*];done)),H',⟨by have:=HK1.1;omega⟩,⟨vk BK1.1⟩,⟨vb HB.1⟩⟩
        ·exact nO_ c11 H
       ·exact nO_ c10 H
      ·exact nO_ c9 H
     ·exact nO_ c6 H
    ·exact nO_ c5 H
   ·rw [if_neg c4] at H;have c4b0:=decide_eq_false c4;clear c4;obtain rfl:=sj H;go_wp2
    go_ret
    exact⟨ew,vb HB.1⟩
theorem M_open2 {α:Type} {d:Kd α} {e base:Nat} {W:World} {ok:Nat→Prop} {l:List α} {cs:List Value} (h:(Kd.slice e d).M W base ok l cs):∃A c,cs=[.slice A l.length c]∧l.length≤c∧d.R e W base ok (.slice A l.length c) l:=by
 obtain⟨v,rfl,h⟩:=h;obtain⟨A,c,rfl⟩:=Kd.R_slice h;exact⟨A,c,rfl,(Kd.R_reads' h).2.1,h⟩
theorem M_mk2 {α:Type} {d:Kd α} {e base:Nat} {W:World} {ok:Nat→Prop} {l:List α} {v:Value} (h:d.R e W base ok v l):(Kd.slice e d).M W base ok l [v]:=⟨v,rfl,h⟩
def impl_MinimalClosures.l0:Nat→List (List Int)→List (List Int)→Int→Int→List (S91)→List (S69)→List Int→List Int→List Int→Int→Option ((List (List Int))×Int)
 |0,_,_,_,_,_,_,_,_,_,_=>none
 |k+1,x9,x12,x24,x8,x26,x27,x28,x29,x30,x31=>if x8<x24 then (if 0≤x8 then (if x8<(x12.length:Int) then ((impl_isMinimal.f k x26 x27 x28 x29 x30 x31 (rd_L4 x12 x8)).bind fun t25=>(if t25=true then (if x9.length<5864062014805 then (impl_MinimalClosures.l0 k (x9++[rd_L4 x12 x8]) x12 x24 (wrap64 (x8+1)) x26 x27 x28 x29 x30 x31) else (none)) else (impl_MinimalClosures.l0 k x9 x12 x24 (wrap64 (x8+1)) x26 x27 x28 x29 x30 x31))) else (none)) else (none)) else (some (x9,0))
def impl_MinimalClosures.f (k:Nat) (l0_0:List (S91)) (l0_1:List (S69)) (l0_2:List Int) (l0_3:List Int) (l0_4:List Int) (a0_5:Int):Option ((List (List Int))×Int):=(impl_fieldAsked.f k l0_0 l0_1 l0_2 l0_3 l0_4 a0_5 ([]:List Int)).bind fun t20=>(if t20=0 then ((impl_closures.f k l0_0 l0_1 l0_2 l0_3 l0_4 a0_5).bind fun t11=>(impl_MinimalClosures.l0 k ([]:List (List Int)) t11 (t11.length:Int) 0 l0_0 l0_1 l0_2 l0_3 l0_4 a0_5)) else (some (([]:List (List Int)),t20)))
theorem impl_MinimalClosures.mono_l:∀k,(∀y5 y0 y6 y7 y15 y9 y21 y16 y22 y23,LeO (impl_MinimalClosures.l0 k y5 y0 y6 y7 y15 y9 y21 y16 y22 y23) (impl_MinimalClosures.l0 (k+1) y5 y0 y6 y7 y15 y9 y21 y16 y22 y23))
 |0=>fun _ _ _ _ _ _ _ _ _ _ r h=>by simp [impl_MinimalClosures.l0] at h
 |k+1=>by
  have ih0:=impl_MinimalClosures.mono_l k
  ·intro y5 y0 y6 y7 y15 y9 y21 y16 y22 y23;unfold impl_MinimalClosures.l0
   repeat' (with_reducible first|exact ih0 .. |exact impl_closures.mono .. |exact impl_fieldAsked.mono .. |exact impl_isMinimal.mono .. |exact lm|refine LeO.ite ?_ ?_|refine LeO.bind ?_ (fun _=>?_))
theorem impl_MinimalClosures.mono:∀a0 a1 a2 a3 a4 a5 k,LeO (impl_MinimalClosures.f k a0 a1 a2 a3 a4 a5) (impl_MinimalClosures.f (k+1) a0 a1 a2 a3 a4 a5):=by
 intro a0 a1 a2 a3 a4 a5 k;have ih0:=impl_MinimalClosures.mono_l k;unfold impl_MinimalClosures.f
 repeat' (with_reducible first|exact ih0 .. |exact impl_closures.mono .. |exact impl_fieldAsked.mono .. |exact impl_isMinimal.mono .. |exact lm|refine LeO.ite ?_ ?_|refine LeO.bind ?_ (fun _=>?_))
theorem impl_closures.callsM (k:Nat) (A0_0:Option Addr) (c0_0:Nat) (l0_0:List (S91)) (A0_1:Option Addr) (c0_1:Nat) (l0_1:List (S69)) (A0_2:Option Addr) (c0_2:Nat) (l0_2:List Int) (A0_3:Option Addr) (c0_3:Nat) (l0_3:List Int) (A0_4:Option Addr) (c0_4:Nat) (l0_4:List Int) (a0_5:Int) (r:List (List Int)) (w:World) (hr0_0:Kd.C k91 w A0_0 l0_0.length l0_0) (hc0_0:l0_0.length≤c0_0) (hr0_1:Kd.C k69 w A0_1 l0_1.length l0_1) (hc0_1:l0_1.length≤c0_1) (hr0_2:Kd.C (Kd.int .i64) w A0_2 l0_2.length l0_2) (hc0_2:l0_2.length≤c0_2) (hr0_3:Kd.C (Kd.int .i64) w A0_3 l0_3.length l0_3) (hc0_3:l0_3.length≤c0_3) (hr0_4:Kd.C (Kd.int .i64) w A0_4 l0_4.length l0_4) (hc0_4:l0_4.length≤c0_4) (h:impl_closures.f k l0_0 l0_1 l0_2 l0_3 l0_4 a0_5=some r):
  Calls Try.prog 56 #[.agg (f5 A0_0 l0_0 c0_0 A0_1 l0_1 c0_1 A0_2 l0_2 c0_2 A0_3 l0_3 c0_3 A0_4 l0_4 c0_4 a0_5)] w fun e w'=>∃v0_:Value,e=.returned (v0_)∧Kd.R (Kd.slice 2 (Kd.int .i64)) 26 w' w.heap.size (fun k_=>(w.heap.size≤k_)) v0_ r∧Below w.heap.size w w':=by
 have hu28:=Try.underlying28;have HR0_0:=ak hr0_0;have HC0_0:=ak hc0_0;clear hr0_0 hc0_0;have HR0_1:=ak hr0_1;have HC0_1:=ak hc0_1;clear hr0_1 hc0_1;have HR0_2:=ak hr0_2;have HC0_2:=ak hc0_2;clear hr0_2 hc0_2;have HR0_3:=ak hr0_3;have HC0_3:=ak hc0_3;clear hr0_3 hc0_3;have HR0_4:=ak hr0_4;have HC0_4:=ak hc0_4;clear hr0_4 hc0_4;have HB:=ak (Below.refl w.heap.size w);unfold impl_closures.f at h;have H:=h;clear h;have H':=ak H;clear H;go_enter Try.func56,Try.ntmps56;go_wp2_with (first|((with_reducible refine gate_dst (N:=1) rfl ?_);refine bx 1 (f5 A0_0 l0_0 c0_0 A0_1 l0_1 c0_1 A0_2 l0_2 c0_2 A0_3 l0_3 c0_3 A0_4 l0_4 c0_4 a0_5) 28 ?_;intro gb4 hg w2 hbox hb;have BK4:=ak hbox;have GW945:=gw hg HB;have GE4:=gw hg HB;replace HB:=bs HB hb;clear hb hbox hg))
 go_loopg [3,4] k (fun kq v7 v15 w'=>∃(x7_0:List (List Int)) (x15_0:Int),v15=.int .i64 x15_0∧Aside0 (impl_closures.l0 kq x7_0 x15_0 l0_0 l0_1 l0_2 l0_3 l0_4 a0_5=some r)∧Aside0 (kq≤k)∧Aside0 (Kd.R (Kd.slice 2 (Kd.int .i64)) 26 w' w.heap.size (fun k_=>(w.heap.size≤k_)∧k_≠gb4) v7 x7_0)∧Aside0 (w'.heap[gb4]? =some (.cells (f5 A0_0 l0_0 c0_0 A0_1 l0_1 c0_1 A0_2 l0_2 c0_2 A0_3 l0_3 c0_3 A0_4 l0_4 c0_4 a0_5) 28 (0,0)))∧Aside0 (Below w.heap.size w w'))
 case atStart=>exact⟨(([]:List (List Int))),(0),es,H',⟨Nat.le_refl _⟩,⟨by first|exact Kd.S_nil _ _ _ _ _|exact Kd.N_nil _ _ _ _ _|exact Kd.V_nil _ _ _ _ _|exact Kd.Q_nil _ _ _ _ _|exact Kd.R_nil _ _ _ _ _⟩,⟨vk BK4.1⟩,⟨vb HB.1⟩⟩
 case round=>
  clear H';obtain⟨x7_0,x15_0,rfl,HA,HK1,HO_7,BK4,HB⟩:=hrel
  cases gk with
  |zero=>exact absurd HA.1 (by simp [impl_closures.l0])
  |succ k1=>
   have H:=HA.1;clear HA;simp only [impl_closures.l0] at H
   by_cases c3:x15_0≤(l0_1.length:Int)
   ·rw [if_pos c3] at H;have c3b0:=decide_eq_true c3;clear c3;obtain⟨t13,A4,H⟩:=bnk H;have H':=ak H;clear H;have hcz9:=cz6 BK4.1;go_wp2_with (first|((with_reducible refine at_fn (f:=84) rfl ?_);refine gl (some 18) Try.func84 #[.int .i64 (l0_1.length:Int),.int .i64 0,.int .i64 x15_0] ?_;(with_reducible refine(impl_listsOf.calls k1 (l0_1.length:Int) 0 x15_0 t13 _ A4.1).mono ?_);rintro e w6 ⟨v40,rfl,ho5,hb⟩;refine⟨_,rfl,?_⟩;have HO32:=ak (Kd.R_lower (Kd.R_mono (ok':=fun k_=>(w.heap.size≤k_)∧some k_≠(u3:Value).ownBlock∧k_≠gb4) (Kd.S_R (Kd.S_bound ho5)) (fun k_ hk_=>⟨(Nat.le_trans (below_size (vb HB.1)) hk_.2.1),(Kd.fresh' (Kd.R_lt (vr HO_7.1)) k_ hk_.2.1),(Kd.freshB (g:=gb4) (o:=.cells (f5 A0_0 l0_0 c0_0 A0_1 l0_1 c0_1 A0_2 l0_2 c0_2 A0_3 l0_3 c0_3 A0_4 l0_4 c0_4 a0_5) 28 (0,0)) (vk BK4.1) k_ hk_.2.1)⟩)) (below_size (vb HB.1)));replace HO_7:=ak (Kd.R_elder' (vr HO_7.1) (Kd.R_base (Kd.S_R ho5)) hb);replace BK4:=kb BK4 hb;replace HB:=bs HB hb;(try clear hb);(try clear ho5);obtain⟨Ao16,co16,rfl⟩:=Kd.R_slice HO32.1))
    go_loopg [3,20] k1 (fun kq v7 v10 w'=>∃(x7_6:List (List Int)) (x10_6:Int),v10=.int .i64 x10_6∧Aside0 (impl_closures.l1 kq x7_6 x15_0 t13 (t13.length:Int) x10_6 l0_0 l0_1 l0_2 l0_3 l0_4 a0_5=some r)∧Aside0 (kq≤k1)∧Aside0 (Kd.R (Kd.slice 2 (Kd.int .i64)) 26 w' w.heap.size (fun k_=>(w.heap.size≤k_)∧nB k_ Ao16 t13.length co16∧k_≠gb4) v7 x7_6)∧Aside0 (Kd.R (Kd.slice 2 (Kd.int .i64)) 26 w' w.heap.size (fun k_=>(w.heap.size≤k_)∧some k_≠(v7:Value).ownBlock∧k_≠gb4) (.slice Ao16 t13.length co16) t13)∧Aside0 (w'.heap[gb4]? =some (.cells (f5 A0_0 l0_0 c0_0 A0_1 l0_1 c0_1 A0_2 l0_2 c0_2 A0_3 l0_3 c0_3 A0_4 l0_4 c0_4 a0_5) 28 (0,0)))∧Aside0 (Below w.heap.size w w'))
    case atStart=>exact⟨(x7_0),(0),es,H',⟨Nat.le_refl _⟩,vm HO_7,⟨vr HO32.1⟩,⟨vk BK4.1⟩,⟨vb HB.1⟩⟩
    case round=>
     clear H';obtain⟨x7_6,x10_6,rfl,HA,HK2,HO_7,HO_14,BK4,HB⟩:=hrel
     cases gk with
     |zero=>exact absurd HA.1 (by simp [impl_closures.l1])
     |succ k2=>
      have H:=HA.1;clear HA;simp only [impl_closures.l1] at H
      by_cases c8:x10_6<(t13.length:Int)
      ·rw [if_pos c8] at H;have c8b0:=decide_eq_true c8;clear c8;by_cases c9:0≤x10_6
       ·rw [if_pos c9] at H;have c9b0:=decide_eq_true c9;clear c9;by_cases c10:x10_6<(t13.length:Int)
        ·rw [if_pos c10] at H;have c10b0:=decide_eq_true c10;clear c10;obtain⟨t35,A11,H⟩:=bnk H;by_cases c12:t35=true
         ·subst c12;rw [if_pos rfl] at H;by_cases c13:x7_6.length<5864062014805
          ·rw [if_pos c13] at H;have LMc13:=ak c13;clear c13;obtain⟨y18,hy18⟩:=gen_ ((x7_6++[rd_L4 t13 x10_6]:List (List Int)));rw [←hy18] at H;have Ny18:=ak hy18;clear hy18;have H':=ak H;clear H;have p1:0≤(x10_6:Int):=od;have q1:x10_6<(t13.length:Int):=od;obtain⟨ad1,A949_0,c949_0,e1,hx1_5,hl949_0,hi949_0⟩:=at_L4 (Kd.R_reads' HO_14.1).2.2 x10_6 p1 q1
           cases e1;obtain⟨ce949,hce949,hMe949,hcc949⟩:=Kd.R_getA HO_14.1 [] x10_6 p1 (by first|exact q1|exact od|(have e_:=(Kd.R_reads' HO_14.1).1;omega));obtain⟨ua949_0,uc949_0,rfl,ul949_0,ge949_0⟩:=M_open2 hMe949;have hv1_5:=hcc949 0 _ rfl;rw [Nat.add_zero,show ((Kd.slice 2 (Kd.int .i64))).sz=1 from rfl,Nat.mul_one] at hv1_5;replace hv1_5:=Option.some.inj (hv1_5.symm.trans hx1_5);injection hv1_5 with hva_ hvn_ hvc_
           rw [hva_,hvc_] at ge949_0;rw [hvc_] at ul949_0;have HL949_0:=ak (show Kd.R (Kd.int .i64) 2 _ w.heap.size _ _ (rd_L4 t13 x10_6) from ge949_0);clear hva_ hvn_ hvc_ ge949_0 ul949_0;clear hcc949 hce949;have HR949_0:=ak hi949_0;have HC949_0:=ak hl949_0;clear hi949_0 hl949_0;replace p1:=eq_true p1;replace q1:=eq_true q1;have hcz12:=cz6 BK4.1;go_wp2_with (first|((with_reducible refine at_fn (f:=46) rfl ?_);refine gl (some 26) Try.func46 #[.agg (f5 A0_0 l0_0 c0_0 A0_1 l0_1 c0_1 A0_2 l0_2 c0_2 A0_3 l0_3 c0_3 A0_4 l0_4 c0_4 a0_5),.slice A949_0 (rd_L4 t13 x10_6).length c949_0] ?_;(with_reducible refine(impl_isClosure.calls k2 _ _ l0_0 _ _ l0_1 _ _ l0_2 _ _ l0_3 _ _ l0_4 a0_5 _ _ (rd_L4 t13 x10_6) _ _ ?_ HC0_0.1 ?_ HC0_1.1 ?_ HC0_2.1 ?_ HC0_3.1 ?_ HC0_4.1 ?side11 HC949_0.1 A11.1).mono ?_);exact vd HR0_0.1 HB.1;exact vd HR0_1.1 HB.1;exact vd HR0_2.1 HB.1;exact vd HR0_3.1 HB.1;exact vd HR0_4.1 HB.1;(case side11=>repeat (first|exact(by repeat (first|(with_reducible exact HR949_0.1)|(with_reducible refine Kd.C_alloc ?_ _)|(with_reducible refine Kd.C_drewN ?_ _)|(with_reducible refine Kd.C_drew ?_)|exact HR949_0.1))|(with_reducible refine Kd.C_alloc ?_ _)|(with_reducible refine Kd.C_drewN ?_ _)|(with_reducible refine Kd.C_drew ?_)));rintro e w15 ⟨rfl,hb⟩;refine⟨_,rfl,?_⟩;replace HO_7:=rb HO_7 hb;replace HO_14:=rb HO_14 hb;replace HL949_0:=rb HL949_0 hb;replace BK4:=kb BK4 hb;replace HR949_0:=ak (Kd.C_below (by repeat (first|(with_reducible exact HR949_0.1)|(with_reducible refine Kd.C_alloc ?_ _)|(with_reducible refine Kd.C_drewN ?_ _)|(with_reducible refine Kd.C_drew ?_)|exact HR949_0.1)) hb);replace HB:=bs HB hb;(try clear hb))|((with_reducible refine at_bi (b:=.append) (xs:=#[.tmp 27,.tmp 29]) rfl ?_);at_builtin;refine Kd.R_append (Kd.slice 2 (Kd.int .i64)) (w0:=w) w.heap.size rfl (.tmp 27) (.tmp 29) 41 26 (.slice none 0 0) 24 rfl Try.underlying41 info26 rfl (by decide) (by omega) u3 x7_6 (rd_L4 t13 x10_6) [.slice A949_0 (rd_L4 t13 x10_6).length c949_0] (fun k_=>(w.heap.size≤k_)∧nB k_ (some ad1) t13.length co16∧k_≠gb4) (fun k_=>((fun k_=>(w.heap.size≤k_)∧nB k_ (some ad1) t13.length co16∧k_≠gb4)) k_∧some k_≠(u3:Value).ownBlock) rfl rfl ?aP (fun _ hk=>hk) ?aF ?aO ?aB ?aS ?aL ?_;(case aP=>exact(M_mk2 (Kd.R_mono (ok':=(fun k_=>((fun k_=>(w.heap.size≤k_)∧nB k_ (some ad1) t13.length co16∧k_≠gb4)) k_∧some k_≠(u3:Value).ownBlock)) (HL949_0.1) (fun k_ hk=>⟨⟨hk.1.1,⟨hk.2,hk.1.2.2⟩⟩,hk.1.2.1⟩))));(case aB=>exact(vb HB.1));(case aF=>exact(fun k_ hk=>⟨(Nat.le_trans (below_size (vb HB.1)) hk),Kd.fresh' (Kd.R_lt (vr HO_14.1)) k_ hk,Kd.freshB (g:=gb4) (o:=.cells (f5 A0_0 l0_0 c0_0 A0_1 l0_1 c0_1 A0_2 l0_2 c0_2 A0_3 l0_3 c0_3 A0_4 l0_4 c0_4 a0_5) 28 (0,0)) (vk BK4.1) k_ hk⟩));(case aO=>exact(vr HO_7.1));(case aS=>exact(below_size (vb HB.1)));(case aL=>have:=LMc13.1;omega);intro v41 w16 ho hb hg hat;rw [←Ny18.1] at ho;have n0_:=ak (Kd.R_after (ok:=(fun k_=>(w.heap.size≤k_)∧k_≠gb4)) (vr (Kd.R_mono HO_14.1 (fun _ hk=>⟨⟨hk.1,hk.2.2⟩,hk.2.1⟩))) hg hat);have n1_:=ak (blk_grown (g:=gb4) (o:=.cells (f5 A0_0 l0_0 c0_0 A0_1 l0_1 c0_1 A0_2 l0_2 c0_2 A0_3 l0_3 c0_3 A0_4 l0_4 c0_4 a0_5) 28 (0,0)) (vk BK4.1) hg (Kd.R_ne HO_7.1 BK4.1 (by decide)));have n2_:=ak (Kd.R_after (ok:=(fun k_=>(w.heap.size≤k_)∧nB k_ (some ad1) t13.length co16∧k_≠gb4)) (vr (Kd.R_mono HL949_0.1 (fun _ hk=>⟨⟨hk.1.1,⟨hk.2,hk.1.2.2⟩⟩,hk.1.2.1⟩))) hg hat);have n3_:=ak (hb);have n4_:=ak (ho);clear HO_14;clear BK4;clear HL949_0;clear HB;clear HO_7;have HO_14:=n0_;have BK4:=n1_;have HL949_0:=n2_;have HB:=n3_;have HO36:=n4_;clear n0_ n1_ n2_ n3_ n4_;clear ho hb hg hat))
           go_roundg k2
           case measure=>have:=HK1.1;have:=HK2.1;omega
           case rel=>exact⟨(y18),(wrap64 (x10_6+1)),es,H',⟨by have:=HK1.1;have:=HK2.1;omega⟩,⟨vr HO36.1⟩,vm HO_14,⟨vk BK4.1⟩,⟨vb HB.1⟩⟩
          ·exact nO_ c13 H
         ·replace c12:=Bool.eq_false_iff.mpr c12;subst c12;rw [if_neg nf] at H;have H':=ak H;clear H;have p1:0≤(x10_6:Int):=od;have q1:x10_6<(t13.length:Int):=od;obtain⟨ad1,A949_0,c949_0,e1,hx1_5,hl949_0,hi949_0⟩:=at_L4 (Kd.R_reads' HO_14.1).2.2 x10_6 p1 q1
          cases e1;obtain⟨ce949,hce949,hMe949,hcc949⟩:=Kd.R_getA HO_14.1 [] x10_6 p1 (by first|exact q1|exact od|(have e_:=(Kd.R_reads' HO_14.1).1;omega));obtain⟨ua949_0,uc949_0,rfl,ul949_0,ge949_0⟩:=M_open2 hMe949;have hv1_5:=hcc949 0 _ rfl;rw [Nat.add_zero,show ((Kd.slice 2 (Kd.int .i64))).sz=1 from rfl,Nat.mul_one] at hv1_5;replace hv1_5:=Option.some.inj (hv1_5.symm.trans hx1_5);injection hv1_5 with hva_ hvn_ hvc_
          rw [hva_,hvc_] at ge949_0;rw [hvc_] at ul949_0;have HL949_0:=ak (show Kd.R (Kd.int .i64) 2 _ w.heap.size _ _ (rd_L4 t13 x10_6) from ge949_0);clear hva_ hvn_ hvc_ ge949_0 ul949_0;clear hcc949 hce949;have HR949_0:=ak hi949_0;have HC949_0:=ak hl949_0;clear hi949_0 hl949_0;replace p1:=eq_true p1;replace q1:=eq_true q1;have hcz34:=cz6 BK4.1;go_wp2_with (first|((with_reducible refine at_fn (f:=46) rfl ?_);refine gl (some 26) Try.func46 #[.agg (f5 A0_0 l0_0 c0_0 A0_1 l0_1 c0_1 A0_2 l0_2 c0_2 A0_3 l0_3 c0_3 A0_4 l0_4 c0_4 a0_5),.slice A949_0 (rd_L4 t13 x10_6).length c949_0] ?_;(with_reducible refine(impl_isClosure.calls k2 _ _ l0_0 _ _ l0_1 _ _ l0_2 _ _ l0_3 _ _ l0_4 a0_5 _ _ (rd_L4 t13 x10_6) _ _ ?_ HC0_0.1 ?_ HC0_1.1 ?_ HC0_2.1 ?_ HC0_3.1 ?_ HC0_4.1 ?side11 HC949_0.1 A11.1).mono ?_);exact vd HR0_0.1 HB.1;exact vd HR0_1.1 HB.1;exact vd HR0_2.1 HB.1;exact vd HR0_3.1 HB.1;exact vd HR0_4.1 HB.1;(case side11=>repeat (first|exact(by repeat (first|(with_reducible exact HR949_0.1)|(with_reducible refine Kd.C_alloc ?_ _)|(with_reducible refine Kd.C_drewN ?_ _)|(with_reducible refine Kd.C_drew ?_)|exact HR949_0.1))|(with_reducible refine Kd.C_alloc ?_ _)|(with_reducible refine Kd.C_drewN ?_ _)|(with_reducible refine Kd.C_drew ?_)));rintro e w18 ⟨rfl,hb⟩;refine⟨_,rfl,?_⟩;replace HO_7:=rb HO_7 hb;replace HO_14:=rb HO_14 hb;replace HL949_0:=rb HL949_0 hb;replace BK4:=kb BK4 hb;replace HR949_0:=ak (Kd.C_below (by repeat (first|(with_reducible exact HR949_0.1)|(with_reducible refine Kd.C_alloc ?_ _)|(with_reducible refine Kd.C_drewN ?_ _)|(with_reducible refine Kd.C_drew ?_)|exact HR949_0.1)) hb);replace HB:=bs HB hb;(try clear hb)))
          go_roundg k2
          case measure=>have:=HK1.1;have:=HK2.1;omega
          case rel=>exact⟨(x7_6),(wrap64 (x10_6+1)),es,H',⟨by have:=HK1.1;have:=HK2.1;omega⟩,⟨vr HO_7.1⟩,⟨vr HO_14.1⟩,⟨vk BK4.1⟩,⟨vb HB.1⟩⟩
        ·exact nO_ c10 H
       ·exact nO_ c9 H
      ·rw [if_neg c8] at H;have c8b0:=decide_eq_false c8;clear c8;have H':=ak H;clear H;go_wp2
       go_roundg k2
       case measure=>have:=HK1.1;have:=HK2.1;omega
       case rel=>exact⟨(x7_6),(wrap64 (x15_0+1)),es,H',⟨by have:=HK1.1;have:=HK2.1;omega⟩,vm HO_7,⟨vk BK4.1⟩,⟨vb HB.1⟩⟩
   ·rw [if_neg c3] at H;have c3b0:=decide_eq_false c3;clear c3;obtain rfl:=sj H;have hcz38:=cz6 BK4.1;go_wp2
    go_ret
    exact⟨_,ew,vr (Kd.R_mono HO_7.1 (fun _ hk=>hk.1)),vb HB.1⟩
theorem impl_MinimalClosures.calls0 (k:Nat) (A0_0:Option Addr) (c0_0:Nat) (l0_0:List (S91)) (A0_1:Option Addr) (c0_1:Nat) (l0_1:List (S69)) (A0_2:Option Addr) (c0_2:Nat) (l0_2:List Int) (A0_3:Option Addr) (c0_3:Nat) (l0_3:List Int) (A0_4:Option Addr) (c0_4:Nat) (l0_4:List Int) (a0_5:Int) (r1:List (List Int)) (r2:Int) (w:World) (hr0_0:Kd.C k91 w A0_0 l0_0.length l0_0) (hc0_0:l0_0.length≤c0_0) (hr0_1:Kd.C k69 w A0_1 l0_1.length l0_1) (hc0_1:l0_1.length≤c0_1) (hr0_2:Kd.C (Kd.int .i64) w A0_2 l0_2.length l0_2) (hc0_2:l0_2.length≤c0_2) (hr0_3:Kd.C (Kd.int .i64) w A0_3 l0_3.length l0_3) (hc0_3:l0_3.length≤c0_3) (hr0_4:Kd.C (Kd.int .i64) w A0_4 l0_4.length l0_4) (hc0_4:l0_4.length≤c0_4) (h:impl_MinimalClosures.f k l0_0 l0_1 l0_2 l0_3 l0_4 a0_5=some (r1,r2)):
  Calls Try.prog 23 #[.agg (f5 A0_0 l0_0 c0_0 A0_1 l0_1 c0_1 A0_2 l0_2 c0_2 A0_3 l0_3 c0_3 A0_4 l0_4 c0_4 a0_5)] w fun e w'=>∃v0_:Value,e=.returned (.tuple #[v0_,.int .i64 r2])∧Kd.R (Kd.slice 2 (Kd.int .i64)) 26 w' w.heap.size (fun k_=>(w.heap.size≤k_)) v0_ r1∧Below w.heap.size w w':=by
 have hu28:=Try.underlying28;have HR0_0:=ak hr0_0;have HC0_0:=ak hc0_0;clear hr0_0 hc0_0;have HR0_1:=ak hr0_1;have HC0_1:=ak hc0_1;clear hr0_1 hc0_1;have HR0_2:=ak hr0_2;have HC0_2:=ak hc0_2;clear hr0_2 hc0_2;have HR0_3:=ak hr0_3;have HC0_3:=ak hc0_3;clear hr0_3 hc0_3;have HR0_4:=ak hr0_4;have HC0_4:=ak hc0_4;clear hr0_4 hc0_4;have HB:=ak (Below.refl w.heap.size w);unfold impl_MinimalClosures.f at h;have H:=h;clear h;obtain⟨t20,A2,H⟩:=bnk H;by_cases c3:t20=0
 ·rw [if_pos c3] at H;obtain⟨c3b0,c3b1⟩:=bqt c3;clear c3;obtain⟨t11,A4,H⟩:=bnk H;have H':=ak H;clear H;go_enter Try.func23,Try.ntmps23;go_wp2_with (first|((with_reducible refine gate_dst (N:=1) rfl ?_);refine bx 1 (f5 A0_0 l0_0 c0_0 A0_1 l0_1 c0_1 A0_2 l0_2 c0_2 A0_3 l0_3 c0_3 A0_4 l0_4 c0_4 a0_5) 28 ?_;intro gb3 hg w5 hbox hb;have BK3:=ak hbox;have GW964:=gw hg HB;have GE3:=gw hg HB;replace HB:=bs HB hb;clear hb hbox hg;have hcz21:=cz6 BK3.1)|((with_reducible refine at_fn (f:=45) rfl ?_);refine gl (some 9) Try.func45 #[.agg (f5 A0_0 l0_0 c0_0 A0_1 l0_1 c0_1 A0_2 l0_2 c0_2 A0_3 l0_3 c0_3 A0_4 l0_4 c0_4 a0_5),.slice none 0 0] ?_;(refine(impl_fieldAsked.calls k _ _ l0_0 _ _ l0_1 _ _ l0_2 _ _ l0_3 _ _ l0_4 a0_5 _ _ ([]:List Int) t20 _ ?_ ?_ ?_ ?_ ?_ ?_ ?_ ?_ ?_ ?_ ?_ ?_ A2.1).mono ?_);exact vd HR0_0.1 HB.1;exact HC0_0.1;exact vd HR0_1.1 HB.1;exact HC0_1.1;exact vd HR0_2.1 HB.1;exact HC0_2.1;exact vd HR0_3.1 HB.1;exact HC0_3.1;exact vd HR0_4.1 HB.1;exact HC0_4.1;exact Kd.C_nil _ _;exact Nat.le_refl _;rintro e w7 ⟨rfl,hb⟩;refine⟨_,rfl,?_⟩;replace BK3:=kb BK3 hb;replace HB:=bs HB hb;(try clear hb);have hcz22:=cz6 BK3.1)|((with_reducible refine at_fn (f:=56) rfl ?_);refine gl (some 14) Try.func56 #[.agg (f5 A0_0 l0_0 c0_0 A0_1 l0_1 c0_1 A0_2 l0_2 c0_2 A0_3 l0_3 c0_3 A0_4 l0_4 c0_4 a0_5)] ?_;(with_reducible refine(impl_closures.callsM k _ _ l0_0 _ _ l0_1 _ _ l0_2 _ _ l0_3 _ _ l0_4 a0_5 t11 _ ?_ HC0_0.1 ?_ HC0_1.1 ?_ HC0_2.1 ?_ HC0_3.1 ?_ HC0_4.1 A4.1).mono ?_);exact vd HR0_0.1 HB.1;exact vd HR0_1.1 HB.1;exact vd HR0_2.1 HB.1;exact vd HR0_3.1 HB.1;exact vd HR0_4.1 HB.1;rintro e w9 ⟨v42,rfl,ho5,hb⟩;refine⟨_,rfl,?_⟩;have HO33:=ak (Kd.R_lower (Kd.R_mono (ok':=fun k_=>(w.heap.size≤k_)∧k_≠gb3) ho5 (fun k_ hk_=>⟨(Nat.le_trans (below_size (vb HB.1)) hk_),(Kd.freshB (g:=gb3) (o:=.cells (f5 A0_0 l0_0 c0_0 A0_1 l0_1 c0_1 A0_2 l0_2 c0_2 A0_3 l0_3 c0_3 A0_4 l0_4 c0_4 a0_5) 28 (0,0)) (vk BK3.1) k_ hk_)⟩)) (below_size (vb HB.1)));replace BK3:=kb BK3 hb;replace HB:=bs HB hb;(try clear hb);(try clear ho5);obtain⟨Ao17,co17,rfl⟩:=Kd.R_slice HO33.1))
  go_loopg [5,16] k (fun kq v9 v8 w'=>∃(x9_0:List (List Int)) (x8_0:Int),v8=.int .i64 x8_0∧Aside0 (impl_MinimalClosures.l0 kq x9_0 t11 (t11.length:Int) x8_0 l0_0 l0_1 l0_2 l0_3 l0_4 a0_5=some (r1,r2))∧Aside0 (kq≤k)∧Aside0 (Kd.R (Kd.slice 2 (Kd.int .i64)) 26 w' w.heap.size (fun k_=>(w.heap.size≤k_)∧nB k_ Ao17 t11.length co17∧k_≠gb3) v9 x9_0)∧Aside0 (Kd.R (Kd.slice 2 (Kd.int .i64)) 26 w' w.heap.size (fun k_=>(w.heap.size≤k_)∧some k_≠(v9:Value).ownBlock∧k_≠gb3) (.slice Ao17 t11.length co17) t11)∧Aside0 (w'.heap[gb3]? =some (.cells (f5 A0_0 l0_0 c0_0 A0_1 l0_1 c0_1 A0_2 l0_2 c0_2 A0_3 l0_3 c0_3 A0_4 l0_4 c0_4 a0_5) 28 (0,0)))∧Aside0 (Below w.heap.size w w'))
  case atStart=>exact⟨(([]:List (List Int))),(0),es,H',⟨Nat.le_refl _⟩,⟨by first|exact Kd.S_nil _ _ _ _ _|exact Kd.N_nil _ _ _ _ _|exact Kd.V_nil _ _ _ _ _|exact Kd.Q_nil _ _ _ _ _|exact Kd.R_nil _ _ _ _ _⟩,⟨vr (Kd.R_mono HO33.1 (fun _ hk=>⟨hk.1,⟨(by simp [Value.ownBlock]),hk.2⟩⟩))⟩,⟨vk BK3.1⟩,⟨vb HB.1⟩⟩
  case round=>
   clear H';obtain⟨x9_0,x8_0,rfl,HA,HK1,HO_9,HO_12,BK3,HB⟩:=hrel
   cases gk with
   |zero=>exact absurd HA.1 (by simp [impl_MinimalClosures.l0])
   |succ k1=>
    have H:=HA.1;clear HA;simp only [impl_MinimalClosures.l0] at H
    by_cases c11:x8_0<(t11.length:Int)
    ·rw [if_pos c11] at H;have c11b0:=decide_eq_true c11;clear c11;by_cases c12:0≤x8_0
     ·rw [if_pos c12] at H;have c12b0:=decide_eq_true c12;clear c12;by_cases c13:x8_0<(t11.length:Int)
      ·rw [if_pos c13] at H;have c13b0:=decide_eq_true c13;clear c13;obtain⟨t25,A14,H⟩:=bnk H;by_cases c15:t25=true
       ·subst c15;rw [if_pos rfl] at H;by_cases c16:x9_0.length<5864062014805
        ·rw [if_pos c16] at H;have LMc16:=ak c16;clear c16;obtain⟨y19,hy19⟩:=gen_ ((x9_0++[rd_L4 t11 x8_0]:List (List Int)));rw [←hy19] at H;have Ny19:=ak hy19;clear hy19;have H':=ak H;clear H;have p2:0≤(x8_0:Int):=od;have q2:x8_0<(t11.length:Int):=od;obtain⟨ad2,A969_0,c969_0,e2,hx2_5,hl969_0,hi969_0⟩:=at_L4 (Kd.R_reads' HO_12.1).2.2 x8_0 p2 q2
         cases e2;obtain⟨ce969,hce969,hMe969,hcc969⟩:=Kd.R_getA HO_12.1 [] x8_0 p2 (by first|exact q2|exact od|(have e_:=(Kd.R_reads' HO_12.1).1;omega));obtain⟨ua969_0,uc969_0,rfl,ul969_0,ge969_0⟩:=M_open2 hMe969;have hv2_5:=hcc969 0 _ rfl;rw [Nat.add_zero,show ((Kd.slice 2 (Kd.int .i64))).sz=1 from rfl,Nat.mul_one] at hv2_5;replace hv2_5:=Option.some.inj (hv2_5.symm.trans hx2_5);injection hv2_5 with hva_ hvn_ hvc_
         rw [hva_,hvc_] at ge969_0;rw [hvc_] at ul969_0;have HL969_0:=ak (show Kd.R (Kd.int .i64) 2 _ w.heap.size _ _ (rd_L4 t11 x8_0) from ge969_0);clear hva_ hvn_ hvc_ ge969_0 ul969_0;clear hcc969 hce969;have HR969_0:=ak hi969_0;have HC969_0:=ak hl969_0;clear hi969_0 hl969_0;replace p2:=eq_true p2;replace q2:=eq_true q2;have hcz34:=cz6 BK3.1;go_wp2_with (first|((with_reducible refine at_fn (f:=57) rfl ?_);refine gl (some 22) Try.func57 #[.agg (f5 A0_0 l0_0 c0_0 A0_1 l0_1 c0_1 A0_2 l0_2 c0_2 A0_3 l0_3 c0_3 A0_4 l0_4 c0_4 a0_5),.slice A969_0 (rd_L4 t11 x8_0).length c969_0] ?_;(with_reducible refine(impl_isMinimal.calls k1 _ _ l0_0 _ _ l0_1 _ _ l0_2 _ _ l0_3 _ _ l0_4 a0_5 _ _ (rd_L4 t11 x8_0) _ _ ?_ HC0_0.1 ?_ HC0_1.1 ?_ HC0_2.1 ?_ HC0_3.1 ?_ HC0_4.1 ?side11 HC969_0.1 A14.1).mono ?_);exact vd HR0_0.1 HB.1;exact vd HR0_1.1 HB.1;exact vd HR0_2.1 HB.1;exact vd HR0_3.1 HB.1;exact vd HR0_4.1 HB.1;(case side11=>repeat (first|exact(by repeat (first|(with_reducible exact HR969_0.1)|(with_reducible refine Kd.C_alloc ?_ _)|(with_reducible refine Kd.C_drewN ?_ _)|(with_reducible refine Kd.C_drew ?_)|exact HR969_0.1))|(with_reducible refine Kd.C_alloc ?_ _)|(with_reducible refine Kd.C_drewN ?_ _)|(with_reducible refine Kd.C_drew ?_)));rintro e w18 ⟨rfl,hb⟩;refine⟨_,rfl,?_⟩;replace HO_9:=rb HO_9 hb;replace HO_12:=rb HO_12 hb;replace HL969_0:=rb HL969_0 hb;replace BK3:=kb BK3 hb;replace HR969_0:=ak (Kd.C_below (by repeat (first|(with_reducible exact HR969_0.1)|(with_reducible refine Kd.C_alloc ?_ _)|(with_reducible refine Kd.C_drewN ?_ _)|(with_reducible refine Kd.C_drew ?_)|exact HR969_0.1)) hb);replace HB:=bs HB hb;(try clear hb))|((with_reducible refine at_bi (b:=.append) (xs:=#[.tmp 23,.tmp 25]) rfl ?_);at_builtin;refine Kd.R_append (Kd.slice 2 (Kd.int .i64)) (w0:=w) w.heap.size rfl (.tmp 23) (.tmp 25) 41 26 (.slice none 0 0) 24 rfl Try.underlying41 info26 rfl (by decide) (by omega) u5 x9_0 (rd_L4 t11 x8_0) [.slice A969_0 (rd_L4 t11 x8_0).length c969_0] (fun k_=>(w.heap.size≤k_)∧nB k_ (some ad2) t11.length co17∧k_≠gb3) (fun k_=>((fun k_=>(w.heap.size≤k_)∧nB k_ (some ad2) t11.length co17∧k_≠gb3)) k_∧some k_≠(u5:Value).ownBlock) rfl rfl ?aP (fun _ hk=>hk) ?aF ?aO ?aB ?aS ?aL ?_;(case aP=>exact(M_mk2 (Kd.R_mono (ok':=(fun k_=>((fun k_=>(w.heap.size≤k_)∧nB k_ (some ad2) t11.length co17∧k_≠gb3)) k_∧some k_≠(u5:Value).ownBlock)) (HL969_0.1) (fun k_ hk=>⟨⟨hk.1.1,⟨hk.2,hk.1.2.2⟩⟩,hk.1.2.1⟩))));(case aB=>exact(vb HB.1));(case aF=>exact(fun k_ hk=>⟨(Nat.le_trans (below_size (vb HB.1)) hk),Kd.fresh' (Kd.R_lt (vr HO_12.1)) k_ hk,Kd.freshB (g:=gb3) (o:=.cells (f5 A0_0 l0_0 c0_0 A0_1 l0_1 c0_1 A0_2 l0_2 c0_2 A0_3 l0_3 c0_3 A0_4 l0_4 c0_4 a0_5) 28 (0,0)) (vk BK3.1) k_ hk⟩));(case aO=>exact(vr HO_9.1));(case aS=>exact(below_size (vb HB.1)));(case aL=>have:=LMc16.1;omega);intro v43 w19 ho hb hg hat;rw [←Ny19.1] at ho;have n0_:=ak (Kd.R_after (ok:=(fun k_=>(w.heap.size≤k_)∧k_≠gb3)) (vr (Kd.R_mono HO_12.1 (fun _ hk=>⟨⟨hk.1,hk.2.2⟩,hk.2.1⟩))) hg hat);have n1_:=ak (blk_grown (g:=gb3) (o:=.cells (f5 A0_0 l0_0 c0_0 A0_1 l0_1 c0_1 A0_2 l0_2 c0_2 A0_3 l0_3 c0_3 A0_4 l0_4 c0_4 a0_5) 28 (0,0)) (vk BK3.1) hg (Kd.R_ne HO_9.1 BK3.1 (by decide)));have n2_:=ak (Kd.R_after (ok:=(fun k_=>(w.heap.size≤k_)∧nB k_ (some ad2) t11.length co17∧k_≠gb3)) (vr (Kd.R_mono HL969_0.1 (fun _ hk=>⟨⟨hk.1.1,⟨hk.2,hk.1.2.2⟩⟩,hk.1.2.1⟩))) hg hat);have n3_:=ak (hb);have n4_:=ak (ho);clear HO_12;clear BK3;clear HL969_0;clear HB;clear HO_9;have HO_12:=n0_;have BK3:=n1_;have HL969_0:=n2_;have HB:=n3_;have HO37:=n4_;clear n0_ n1_ n2_ n3_ n4_;clear ho hb hg hat))
         go_roundg k1
         case measure=>have:=HK1.1;omega
         case rel=>exact⟨(y19),(wrap64 (x8_0+1)),es,H',⟨by have:=HK1.1;omega⟩,⟨vr HO37.1⟩,vm HO_12,⟨vk BK3.1⟩,⟨vb HB.1⟩⟩
        ·exact nO_ c16 H
       ·replace c15:=Bool.eq_false_iff.mpr c15;subst c15;rw [if_neg nf] at H;have H':=ak H;clear H;have p2:0≤(x8_0:Int):=od;have q2:x8_0<(t11.length:Int):=od;obtain⟨ad2,A969_0,c969_0,e2,hx2_5,hl969_0,hi969_0⟩:=at_L4 (Kd.R_reads' HO_12.1).2.2 x8_0 p2 q2
        cases e2;obtain⟨ce969,hce969,hMe969,hcc969⟩:=Kd.R_getA HO_12.1 [] x8_0 p2 (by first|exact q2|exact od|(have e_:=(Kd.R_reads' HO_12.1).1;omega));obtain⟨ua969_0,uc969_0,rfl,ul969_0,ge969_0⟩:=M_open2 hMe969;have hv2_5:=hcc969 0 _ rfl;rw [Nat.add_zero,show ((Kd.slice 2 (Kd.int .i64))).sz=1 from rfl,Nat.mul_one] at hv2_5;replace hv2_5:=Option.some.inj (hv2_5.symm.trans hx2_5);injection hv2_5 with hva_ hvn_ hvc_
        rw [hva_,hvc_] at ge969_0;rw [hvc_] at ul969_0;have HL969_0:=ak (show Kd.R (Kd.int .i64) 2 _ w.heap.size _ _ (rd_L4 t11 x8_0) from ge969_0);clear hva_ hvn_ hvc_ ge969_0 ul969_0;clear hcc969 hce969;have HR969_0:=ak hi969_0;have HC969_0:=ak hl969_0;clear hi969_0 hl969_0;replace p2:=eq_true p2;replace q2:=eq_true q2;have hcz10:=cz6 BK3.1;go_wp2_with (first|((with_reducible refine at_fn (f:=57) rfl ?_);refine gl (some 22) Try.func57 #[.agg (f5 A0_0 l0_0 c0_0 A0_1 l0_1 c0_1 A0_2 l0_2 c0_2 A0_3 l0_3 c0_3 A0_4 l0_4 c0_4 a0_5),.slice A969_0 (rd_L4 t11 x8_0).length c969_0] ?_;(with_reducible refine(impl_isMinimal.calls k1 _ _ l0_0 _ _ l0_1 _ _ l0_2 _ _ l0_3 _ _ l0_4 a0_5 _ _ (rd_L4 t11 x8_0) _ _ ?_ HC0_0.1 ?_ HC0_1.1 ?_ HC0_2.1 ?_ HC0_3.1 ?_ HC0_4.1 ?side11 HC969_0.1 A14.1).mono ?_);exact vd HR0_0.1 HB.1;exact vd HR0_1.1 HB.1;exact vd HR0_2.1 HB.1;exact vd HR0_3.1 HB.1;exact vd HR0_4.1 HB.1;(case side11=>repeat (first|exact(by repeat (first|(with_reducible exact HR969_0.1)|(with_reducible refine Kd.C_alloc ?_ _)|(with_reducible refine Kd.C_drewN ?_ _)|(with_reducible refine Kd.C_drew ?_)|exact HR969_0.1))|(with_reducible refine Kd.C_alloc ?_ _)|(with_reducible refine Kd.C_drewN ?_ _)|(with_reducible refine Kd.C_drew ?_)));rintro e w21 ⟨rfl,hb⟩;refine⟨_,rfl,?_⟩;replace HO_9:=rb HO_9 hb;replace HO_12:=rb HO_12 hb;replace HL969_0:=rb HL969_0 hb;replace BK3:=kb BK3 hb;replace HR969_0:=ak (Kd.C_below (by repeat (first|(with_reducible exact HR969_0.1)|(with_reducible refine Kd.C_alloc ?_ _)|(with_reducible refine Kd.C_drewN ?_ _)|(with_reducible refine Kd.C_drew ?_)|exact HR969_0.1)) hb);replace HB:=bs HB hb;(try clear hb)))
        go_roundg k1
        case measure=>have:=HK1.1;omega
        case rel=>exact⟨(x9_0),(wrap64 (x8_0+1)),es,H',⟨by have:=HK1.1;omega⟩,⟨vr HO_9.1⟩,⟨vr HO_12.1⟩,⟨vk BK3.1⟩,⟨vb HB.1⟩⟩
      ·exact nO_ c13 H
     ·exact nO_ c12 H
    ·rw [if_neg c11] at H;have c11b0:=decide_eq_false c11;clear c11;simp only [Option.some.injEq,Prod.mk.injEq] at H
     obtain⟨rfl,rfl⟩:=H;go_wp2
     go_ret2
     exact⟨_,ew,vr (Kd.R_mono HO_9.1 (fun _ hk=>hk.1)),vb HB.1⟩
 ·rw [if_neg c3] at H;obtain⟨c3b0,c3b1⟩:=bqf c3;simp only [Option.some.injEq,Prod.mk.injEq] at H
  obtain⟨rfl,rfl⟩:=H;go_enter Try.func23,Try.ntmps23;go_wp2_with (first|((with_reducible refine gate_dst (N:=1) rfl ?_);refine bx 1 (f5 A0_0 l0_0 c0_0 A0_1 l0_1 c0_1 A0_2 l0_2 c0_2 A0_3 l0_3 c0_3 A0_4 l0_4 c0_4 a0_5) 28 ?_;intro gb3 hg w22 hbox hb;have BK3:=ak hbox;have GW964:=gw hg HB;have GE3:=gw hg HB;replace HB:=bs HB hb;clear hb hbox hg;have hcz39:=cz6 BK3.1)|((with_reducible refine at_fn (f:=45) rfl ?_);refine gl (some 9) Try.func45 #[.agg (f5 A0_0 l0_0 c0_0 A0_1 l0_1 c0_1 A0_2 l0_2 c0_2 A0_3 l0_3 c0_3 A0_4 l0_4 c0_4 a0_5),.slice none 0 0] ?_;(refine(impl_fieldAsked.calls k _ _ l0_0 _ _ l0_1 _ _ l0_2 _ _ l0_3 _ _ l0_4 a0_5 _ _ ([]:List Int) t20 _ ?_ ?_ ?_ ?_ ?_ ?_ ?_ ?_ ?_ ?_ ?_ ?_ A2.1).mono ?_);exact vd HR0_0.1 HB.1;exact HC0_0.1;exact vd HR0_1.1 HB.1;exact HC0_1.1;exact vd HR0_2.1 HB.1;exact HC0_2.1;exact vd HR0_3.1 HB.1;exact HC0_3.1;exact vd HR0_4.1 HB.1;exact HC0_4.1;exact Kd.C_nil _ _;exact Nat.le_refl _;rintro e w24 ⟨rfl,hb⟩;refine⟨_,rfl,?_⟩;replace BK3:=kb BK3 hb;replace HB:=bs HB hb;(try clear hb)))
  go_ret2
  exact⟨_,ew,by first|exact Kd.S_nil _ _ _ _ _|exact Kd.N_nil _ _ _ _ _|exact Kd.V_nil _ _ _ _ _|exact Kd.Q_nil _ _ _ _ _|exact Kd.R_nil _ _ _ _ _,vb HB.1⟩
theorem impl_MinimalClosures.calls (k:Nat) (A0_0:Option Addr) (c0_0:Nat) (l0_0:List (S91)) (A0_1:Option Addr) (c0_1:Nat) (l0_1:List (S69)) (A0_2:Option Addr) (c0_2:Nat) (l0_2:List Int) (A0_3:Option Addr) (c0_3:Nat) (l0_3:List Int) (A0_4:Option Addr) (c0_4:Nat) (l0_4:List Int) (a0_5:Int) (r1:List (List Int)) (r2:Int) (w:World) (hr0_0:Kd.C k91 w A0_0 l0_0.length l0_0) (hc0_0:l0_0.length≤c0_0) (hr0_1:Kd.C k69 w A0_1 l0_1.length l0_1) (hc0_1:l0_1.length≤c0_1) (hr0_2:Kd.C (Kd.int .i64) w A0_2 l0_2.length l0_2) (hc0_2:l0_2.length≤c0_2) (hr0_3:Kd.C (Kd.int .i64) w A0_3 l0_3.length l0_3) (hc0_3:l0_3.length≤c0_3) (hr0_4:Kd.C (Kd.int .i64) w A0_4 l0_4.length l0_4) (hc0_4:l0_4.length≤c0_4) (h:impl_MinimalClosures.f k l0_0 l0_1 l0_2 l0_3 l0_4 a0_5=some (r1,r2)):
  Calls Try.prog 23 #[.agg (f5 A0_0 l0_0 c0_0 A0_1 l0_1 c0_1 A0_2 l0_2 c0_2 A0_3 l0_3 c0_3 A0_4 l0_4 c0_4 a0_5)] w fun e w'=>∃v0_:Value,e=.returned (.tuple #[v0_,.int .i64 r2])∧Kd.R (Kd.slice 2 (Kd.int .i64)) 26 w' w.heap.size (fun _=>True) v0_ r1∧Below w.heap.size w w':=(impl_MinimalClosures.calls0 k A0_0 c0_0 l0_0 A0_1 c0_1 l0_1 A0_2 c0_2 l0_2 A0_3 c0_3 l0_3 A0_4 c0_4 l0_4 a0_5 r1 r2 w hr0_0 hc0_0 hr0_1 hc0_1 hr0_2 hc0_2 hr0_3 hc0_3 hr0_4 hc0_4 h).mono (fun _ _ ⟨v,he,hR,hb⟩=>⟨v,he,Kd.R_mono hR (fun _ _=>trivial),hb⟩)
end Go.Proofs.Ytiblahniohjbbaa.Pall
