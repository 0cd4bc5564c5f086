/- Go functions of the program, each as a Lean function, and the proof that each call comes to what the Lean function tells; no condition beyond those that stand there. -/
import Derived.Test.YtiblahniohjbbaaF06
import Derived.Test.YtiblahniohjbbaaWInv
import Derived.Test.YtiblahniohjbbaaCm4
import Derived.Test.YtiblahniohjbbaaCm11
namespace Go.Proofs.Ytiblahniohjbbaa.Pall
set_option maxRecDepth 100000
set_option maxHeartbeats 8000000
open Go.RowKit Go.Proofs.YtiblahniohjbbaaW.PrintWords Go.Proofs.YtiblahniohjbbaaW.PrintLast Go.Proofs.YtiblahniohjbbaaW.PrintMore
attribute [local go_sem] max2_int min2_int max_two min_two max_three min_three max_four min_four
set_option linter.unusedVariables false
set_option linter.unusedSimpArgs false
def spec_l19Without.l0:Nat→List Int→Int→List (S91)→List (S69)→List Int→List Int→List Int→Int→List (S91)→List (S69)→List Int→List Int→List Int→Int→Option ((List (S91))×(List (S69))×List Int×List Int×List Int×Int)
 |0,_,_,_,_,_,_,_,_,_,_,_,_,_,_=>none
 |k+1,x3,x5,x54,x47,x55,x56,x57,x58,x35,x14,x36,x37,x38,x50=>if x5<(x47.length:Int) then ((spec_l01Has.f k x3 x5).bind fun t49=>(if t49=true then (spec_l19Without.l0 k x3 (wrap64 (x5+1)) x54 x47 x55 x56 x57 x58 x35 x14 x36 x37 x38 x50) else (if 0≤x5 then (if x14.length<3518437208883 then (spec_l19Without.l0 k x3 (wrap64 (x5+1)) x54 x47 x55 x56 x57 x58 x35 (x14++[(⟨(rd_T69 x47 x5).f0,(rd_T69 x47 x5).f1,(rd_T69 x47 x5).f2,(rd_T69 x47 x5).f3,(rd_T69 x47 x5).f4⟩:S69)]) x36 x37 x38 x50) else (none)) else (none)))) else (some (x35,x14,x36,x37,x38,x50))
def spec_l19Without.f (k:Nat) (l0_0:List (S91)) (l0_1:List (S69)) (l0_2:List Int) (l0_3:List Int) (l0_4:List Int) (a0_5:Int) (l1:List Int):Option ((List (S91))×(List (S69))×List Int×List Int×List Int×Int):=(some (([]:List (S91)):List (S91))).bind fun y43=>(if y43.length+l0_0.length<5864062014805 then ((spec_l01Own.f l0_2).bind fun t17=>((spec_l01Own.f l0_3).bind fun t18=>((spec_l01Own.f l0_4).bind fun t19=>(spec_l19Without.l0 k l1 0 l0_0 l0_1 l0_2 l0_3 l0_4 a0_5 (y43++l0_0) (([]:List (S69))) t17 t18 t19 a0_5)))) else (none))
def spec_l19Without.T1:Bool×List (List Nat×List Nat):=(true,[([],[]),([],[]),([1],[1]),([0,2],[0,2]),([],[]),([],[]),([5],[5]),([6,3],[6]),([],[]),([8],[8]),([9,7],[9]),([],[]),([11],[11]),([12,10],[12]),([],[]),([14],[14]),([3,4,7,10,13,15],[3,4,7,10,13,15]),([],[]),([17,16,13,0,1,2,3,4,5,6,7,8,9,10,11,12,13,14,15,16,17],[16,17])])
def spec_l19Without.B1:List Nat:=[0,0,2,7,0,0,32,111,0,256,1007,0,2048,8175,0,16384,65535,0,262143]
theorem spec_l19Without.tab1:rtab .any (opsOf Try.f50 1)=spec_l19Without.T1:=by kernel_rfl
theorem spec_l19Without.bits1:waitsOk spec_l19Without.T1.2 spec_l19Without.B1=true:=by kernel_rfl
def spec_l19Without.T6:Bool×List (List Nat×List Nat):=(true,[([],[]),([0],[0]),([],[]),([2],[2]),([],[]),([3,4],[3,4]),([5],[5]),([6],[6]),([1,7],[1,7]),([0,1,2,3,4,5,6,7,8],[]),([9,8,8,0,1,2,3,4,5,6,7,8],[8,9])])
def spec_l19Without.B6:List Nat:=[0,1,0,4,0,28,60,124,255,511,1023]
theorem spec_l19Without.tab6:rtab .any (opsOf Try.f50 6)=spec_l19Without.T6:=by kernel_rfl
theorem spec_l19Without.bits6:waitsOk spec_l19Without.T6.2 spec_l19Without.B6=true:=by kernel_rfl
theorem spec_l19Without.calls (k:Nat) (A0_0:Option Addr) (c0_0:Nat) (l0_0:List (S91)) (A0_1:Option Addr) (c0_1:Nat) (l0_1:List (S69)) (A0_2:Option Addr) (c0_2:Nat) (l0_2:List Int) (A0_3:Option Addr) (c0_3:Nat) (l0_3:List Int) (A0_4:Option Addr) (c0_4:Nat) (l0_4:List Int) (a0_5:Int) (A1:Option Addr) (c1:Nat) (l1:List Int) (r1:List (S91)) (r2:List (S69)) (r3:List Int) (r4:List Int) (r5:List Int) (r6:Int) (w:World) (hr0_0:Kd.C k91 w A0_0 l0_0.length l0_0) (hc0_0:l0_0.length≤c0_0) (hr0_1:Kd.C k69 w A0_1 l0_1.length l0_1) (hc0_1:l0_1.length≤c0_1) (hr0_2:Kd.C (Kd.int .i64) w A0_2 l0_2.length l0_2) (hc0_2:l0_2.length≤c0_2) (hr0_3:Kd.C (Kd.int .i64) w A0_3 l0_3.length l0_3) (hc0_3:l0_3.length≤c0_3) (hr0_4:Kd.C (Kd.int .i64) w A0_4 l0_4.length l0_4) (hc0_4:l0_4.length≤c0_4) (hr1:Kd.C (Kd.int .i64) w A1 l1.length l1) (hc1:l1.length≤c1) (h:spec_l19Without.f k l0_0 l0_1 l0_2 l0_3 l0_4 a0_5 l1=some (r1,r2,r3,r4,r5,r6)):
  Calls Try.prog 50 #[.agg (f5 A0_0 l0_0 c0_0 A0_1 l0_1 c0_1 A0_2 l0_2 c0_2 A0_3 l0_3 c0_3 A0_4 l0_4 c0_4 a0_5),.slice A1 l1.length c1] w fun e w'=>∃v0_ v1_ v2_ v3_ v4_:Value,e=.returned (.agg #[v0_,v1_,v2_,v3_,v4_,.int .i64 r6])∧Kd.R k91 91 w' w.heap.size (fun _=>True) v0_ r1∧Kd.R k69 69 w' w.heap.size (fun _=>True) v1_ r2∧Kd.R (Kd.int .i64) 2 w' w.heap.size (fun k_=>some k_≠(v3_:Value).ownBlock∧some k_≠(v4_:Value).ownBlock) v2_ r3∧Kd.R (Kd.int .i64) 2 w' w.heap.size (fun k_=>some k_≠(v2_:Value).ownBlock∧some k_≠(v4_:Value).ownBlock) v3_ r4∧Kd.R (Kd.int .i64) 2 w' w.heap.size (fun k_=>some k_≠(v2_:Value).ownBlock∧some k_≠(v3_:Value).ownBlock) v4_ r5∧Below w.heap.size w w':=by
 have hu28:=Try.underlying28;have hu69:=Try.underlying69;have HR0_0:=ak hr0_0;have HC0_0:=ak hc0_0;clear hr0_0 hc0_0;have HR0_1:=ak hr0_1;have HC0_1:=ak hc0_1;clear hr0_1 hc0_1;have HR0_2:=ak hr0_2;have HC0_2:=ak hc0_2;clear hr0_2 hc0_2;have HR0_3:=ak hr0_3;have HC0_3:=ak hc0_3;clear hr0_3 hc0_3;have HR0_4:=ak hr0_4;have HC0_4:=ak hc0_4;clear hr0_4 hc0_4;have HR1:=ak hr1;have HC1:=ak hc1;clear hr1 hc1;have HB:=ak (Below.refl w.heap.size w);unfold spec_l19Without.f at h;have H:=h;clear h;obtain⟨y43,Ny43,H⟩:=bnE H;by_cases c3:y43.length+l0_0.length<5864062014805
 ·rw [if_pos c3] at H;have LMc3:=ak c3;clear c3;obtain⟨y20,hy20⟩:=gen_ ((y43++l0_0:List (S91)));rw [←hy20] at H;have Ny20:=ak hy20;clear hy20;obtain⟨y23,hy23⟩:=gen_ (([]:List (S69)));rw [←hy23] at H;have Ny23:=ak hy23;clear hy23;obtain⟨t17,A4,H⟩:=bnk H;obtain⟨t18,A5,H⟩:=bnk H;obtain⟨t19,A6,H⟩:=bnk H;have H':=ak H;clear H;go_enter Try.func50,Try.ntmps50;(try go_wp2_with (first|((with_reducible refine gate_dst (N:=2) rfl ?_);refine bx 2 (f5 A0_0 l0_0 c0_0 A0_1 l0_1 c0_1 A0_2 l0_2 c0_2 A0_3 l0_3 c0_3 A0_4 l0_4 c0_4 a0_5) 28 ?_;intro gb1 hg w7 hbox hb;have BK1:=ak hbox;have GW626:=gw hg HB;have GE1:=gw hg HB;replace HB:=bs HB hb;clear hb hbox hg)|((with_reducible refine gate_dst (N:=4) rfl ?_);refine bx 4 #[.slice none 0 0,.slice none 0 0,.slice none 0 0,.slice none 0 0,.slice none 0 0,.int .i64 0] 28 ?_;intro gb2 hg w8 hbox hb;have BK2:=ak hbox;have GW627:=gw hg HB;have GE2:=gw hg HB;replace HB:=bs HB hb;have NB1_2:=nl hg BK1;have NB2_1:=nr hg BK1;replace BK1:=kb BK1 hb;clear hb hbox hg)))
  replace BK1:=ak (blk_drew BK1.1);replace BK2:=ak (blk_drew BK2.1);replace HB:=ak (below_drew1 HB.1);refine start_ (n:=19) (S:=fun w'=>True) (ds:=[]) (tf 0 19) (by kernel_rfl) rfl rfl trivial (fun hHeld=>?_);refine with_tabW spec_l19Without.tab1 spec_l19Without.bits1 (fun HT_ HW_=>?_);generalize w8.drew=w9 at BK1 BK2 HB hHeld ⊢;refine pu_ 1 8 (tM [0,1,1,17]) rfl rfl ?_;refine pu_ 5 12 (tM [0,1,1,3,1,13]) rfl rfl ?_;refine pu_ 8 15 (tM [0,1,1,3,1,2,1,10]) rfl rfl ?_;refine pu_ 11 18 (tM [0,1,1,3,1,2,1,2,1,7]) rfl rfl ?_;refine pu_ 14 21 (tM [0,1,1,3,1,2,1,2,1,2,1,4]) rfl rfl ?_;refine inv_at [0,2,3,4,6,7,9,10,12,13,15,16,17,18] (fun a0_ b a w'=>∃(v15:Value) (v16:Value) (v10:Value) (v6:Value) (v7:Value) (v8:Value) (gb0:Nat) (m16_:Value) (m17_:Value),a=putSel a0_ b [(0,7,v15),(2,9,.slice A0_0 l0_0.length c0_0),(3,10,v16),(4,11,v10),(6,13,.slice A0_2 l0_2.length c0_2),(7,14,v6),(9,16,.slice A0_3 l0_3.length c0_3),(10,17,v7),(12,19,.slice A0_4 l0_4.length c0_4),(13,20,v8),(15,22,.int .i64 a0_5),(16,23,m16_),(17,5,m17_)]∧(w'.heap[gb1]? =some (.cells (f5 A0_0 l0_0 c0_0 A0_1 l0_1 c0_1 A0_2 l0_2 c0_2 A0_3 l0_3 c0_3 A0_4 l0_4 c0_4 a0_5) 28 (0,0)))∧(w'.heap[gb2]? =some (.cells #[.slice none 0 0,.slice none 0 0,.slice none 0 0,.slice none 0 0,.slice none 0 0,.int .i64 0] 28 (0,0)))∧(Below w.heap.size w w')∧(b 0=true→b 3=false→Kd.R k91 91 w' w.heap.size (fun _=>True) v15 y43)∧(b 3=true→Kd.R k91 91 w' w.heap.size (fun _=>True) v16 y20)∧(b 4=true→Kd.R k69 69 w' w.heap.size (fun _=>True) v10 y23)∧(b 7=true→Kd.R (Kd.int .i64) 2 w' w.heap.size (fun k_=>(b 10=true→some k_≠(v7:Value).ownBlock)∧(b 13=true→some k_≠(v8:Value).ownBlock)) v6 t17)∧(b 10=true→Kd.R (Kd.int .i64) 2 w' w.heap.size (fun k_=>some k_≠(v6:Value).ownBlock∧(b 13=true→some k_≠(v8:Value).ownBlock)) v7 t18)∧(b 13=true→Kd.R (Kd.int .i64) 2 w' w.heap.size (fun k_=>some k_≠(v6:Value).ownBlock∧some k_≠(v7:Value).ownBlock) v8 t19)∧(b 17=true→b 18=false→w'.heap[gb0]? =some (.cells #[.slice none 0 0,.slice none 0 0,.slice none 0 0,.slice none 0 0,.slice none 0 0,.int .i64 0] 28 (0,0)))∧(b 17=true→w.heap.size≤gb0)∧(b 17=true→w.heap.size≤gb0)∧(b 17=true→gb1≠gb0)∧(b 17=true→gb0≠gb1)∧(b 17=true→gb2≠gb0)∧(b 17=true→gb0≠gb2)∧(b 18=true→w'.heap[gb0]? =some (.cells #[v16,v10,v6,v7,v8,.int .i64 a0_5] 28 (0,0)))∧(b 16=true→(m16_:Value)=.agg #[v16,v10,v6,v7,v8,.int .i64 a0_5])∧(b 17=true→(m17_:Value)=.pointer (some ⟨gb0,0,none⟩))) HT_.1 HW_.1 (by kernel_rfl) (by kernel_rfl) ?_ ?_ ?_
  ·exact⟨.bool false,.bool false,.bool false,.bool false,.bool false,.bool false,0,.bool false,.bool false,by simp only [putSel,Bool.false_eq_true,if_false],BK1.1,BK2.1,HB.1,fun h_=>absurd h_ (by decide),fun h_=>absurd h_ (by decide),fun h_=>absurd h_ (by decide),fun h_=>absurd h_ (by decide),fun h_=>absurd h_ (by decide),fun h_=>absurd h_ (by decide),fun h_=>absurd h_ (by decide),fun h_=>absurd h_ (by decide),fun h_=>absurd h_ (by decide),fun h_=>absurd h_ (by decide),fun h_=>absurd h_ (by decide),fun h_=>absurd h_ (by decide),fun h_=>absurd h_ (by decide),fun h_=>absurd h_ (by decide),fun h_=>absurd h_ (by decide),fun h_=>absurd h_ (by decide)⟩
  ·skip
   clear BK1 BK2 HB;refine steps_cons ?_ ?_
   ·rintro b a w' ⟨v15,v16,v10,v6,v7,v8,gb0,m16_,m17_,ha,Qa,Qb,Qc,Qp,Qm,Qd,Qn,Qo,Qq,Qe,Qg,Qf,Qh,Qj,Qi,Qk,Qs,Qr,Ql⟩ hb_ hon hoff;refine⟨_,rfl,fun K hK=>?_⟩;replace ha:=ak ha;have BK1:=ak Qa;have BK2:=ak Qb;have HB:=ak Qc;refine Kd.R_lit_step k91 _ 91 ?hg (N:=7) ?hd (xs:=([]:List (S91))) (inner:=[]) (ok:=fun _=>True) (okp:=fun _=>True) ?hr ?hp (fun _ hk=>hk) trivial (Below.refl _ _) (Nat.le_refl _) (by simp) ?_;(case hd=>rfl);(case hg=>rfl);(case hr=>first|(go_simp;done)|(go_simp;rfl));(case hp=>exact(Reps.none _ _));intro v15 w10 ho42 hb hg_ hnew_;clear hg_ hnew_;(first|rw [←Ny43.1] at ho42|(simp only [Int.reduceToNat] at ho42;rw [←Ny43.1] at ho42))
    have Qu:=fun h0_=>Kd.R_below (Qd h0_) hb
    have Qt:=fun h0_ h1_=>blk_below (Qe h0_ h1_) hb
    have HO44:=ak (Kd.R_lower ho42 (below_size (vb HB.1)));replace BK1:=ak (blk_below (vk BK1.1) hb);replace BK2:=ak (blk_below (vk BK2.1) hb);replace HB:=ak (below_step (vb HB.1) hb);clear hb ho42;refine hK.out _ _ ⟨v15,v16,v10,v6,v7,v8,gb0,m16_,m17_,(by rw [ha.1];exact putSel_upk 0 hb_ rfl rfl rfl),(vk BK1.1),(vk BK2.1),(vb HB.1),fun _ _=>(vr HO44.1),nQ hoff 3,Qu,nQ hoff 7,nQ hoff 10,nQ hoff 13,Qt,Qg,Qf,Qh,Qj,Qi,Qk,nQ hoff 18,nQ hoff 16,Ql⟩
   refine steps_cons ?_ ?_
   ·rintro b a w' ⟨v15,v16,v10,v6,v7,v8,gb0,m16_,m17_,ha,Qa,Qb,Qc,Qp,Qm,Qd,Qn,Qo,Qq,Qe,Qg,Qf,Qh,Qj,Qi,Qk,Qs,Qr,Ql⟩ hb_ hon hoff;refine⟨_,rfl,fun K hK=>?_⟩;have e63:a.tmps[8]? =some (.pointer (some ⟨gb1,0,none⟩)):=by rw [ha];exact(putSel_off rfl).trans rfl
    replace ha:=ak ha;have BK1:=ak Qa;have hc0_:w'.cell? ⟨gb1,0,none⟩=some (.slice A0_0 l0_0.length c0_0):=bk BK1.1 0;refine value_ (w1:=w') (v:=.slice A0_0 l0_0.length c0_0) (by rfl) rfl ?_ ?_
    ·go_simp
     (try simp only [i64_w])
     try rfl
    refine hK.out _ _ ⟨v15,v16,v10,v6,v7,v8,gb0,m16_,m17_,(by rw [ha.1];exact putSel_upk 1 hb_ rfl rfl rfl),Qa,Qb,Qc,Qp,nQ hoff 3,Qd,nQ hoff 7,nQ hoff 10,nQ hoff 13,Qe,Qg,Qf,Qh,Qj,Qi,Qk,nQ hoff 18,nQ hoff 16,Ql⟩
   refine steps_cons ?_ ?_
   ·rintro b a w' ⟨v15,v16,v10,v6,v7,v8,gb0,m16_,m17_,ha,Qa,Qb,Qc,Qp,Qm,Qd,Qn,Qo,Qq,Qe,Qg,Qf,Qh,Qj,Qi,Qk,Qs,Qr,Ql⟩ hb_ hon hoff;refine⟨_,rfl,fun K hK=>?_⟩;have e60:a.tmps[7]? =some (v15):=by rw [ha];exact putSel_on (e:=(0,7,v15)) 0 rfl rfl (oQ hon 0) rfl
    have e61:a.tmps[9]? =some (.slice A0_0 l0_0.length c0_0):=by rw [ha];exact putSel_on (e:=(2,9,.slice A0_0 l0_0.length c0_0)) 1 rfl rfl (oQ hon 2) rfl
    replace ha:=ak ha;have BK1:=ak Qa;have BK2:=ak Qb;have HB:=ak Qc;have HO44:=ak (Qp (oQ hon 0) hb_);refine Kd.R_append_rows_step k91 (w0:=w) w.heap.size (by rfl) (.tmp 7) (.tmp 9) 24 91 (.agg #[(.int .i64 0),(.int .i64 0),(.int .i64 0)]) 24 rfl Try.underlying24 info91 rfl (by decide) (by omega) v15 y43 l0_0 _ _ _ (fun _=>True) (fun _=>False) (evl e60) (evl e61) ?aO ?aR (fun _ _ h=>h) (fun _ h=>h.elim) ?aF ?aB ?aS ?aL ?_;(case aR=>exact vd HR0_0.1 HB.1)
    (case aB=>exact(vb HB.1))
    (case aF=>exact(fun _ _=>trivial))
    (case aO=>exact(vr HO44.1))
    (case aS=>exact(below_size (vb HB.1)))
    (case aL=>have:=LMc3.1;omega)
    intro v16 w13 ho hb hg hat;rw [←Ny20.1] at ho;have n0_:=ak (blk_grown (g:=gb1) (o:=.cells (f5 A0_0 l0_0 c0_0 A0_1 l0_1 c0_1 A0_2 l0_2 c0_2 A0_3 l0_3 c0_3 A0_4 l0_4 c0_4 a0_5) 28 (0,0)) (vk BK1.1) hg (Kd.R_ne HO44.1 BK1.1 (by decide)));have n1_:=ak (blk_grown (g:=gb2) (o:=.cells #[.slice none 0 0,.slice none 0 0,.slice none 0 0,.slice none 0 0,.slice none 0 0,.int .i64 0] 28 (0,0)) (vk BK2.1) hg (Kd.R_ne HO44.1 BK2.1 (by decide)));have n2_:=ak (hb);have n3_:=ak (ho);have Qu:=fun h0_=>Kd.R_over' (Qd h0_) (Kd.R_typed (vr HO44.1)) (by decide) hg
    have Qt:=fun h0_ h1_=>blk_grown (Qe h0_ h1_) hg (Kd.R_ne HO44.1 (Qe h0_ h1_) (by decide))
    clear BK1;clear BK2;clear HB;clear HO44;have BK1:=n0_;have BK2:=n1_;have HB:=n2_;have HO24:=n3_;clear n0_ n1_ n2_ n3_;clear ho hb hg hat;refine hK.out _ _ ⟨v15,v16,v10,v6,v7,v8,gb0,m16_,m17_,(by rw [ha.1];exact putSel_upk 2 hb_ rfl rfl rfl),(vk BK1.1),(vk BK2.1),(vb HB.1),fun _ h1_=>absurd ((up_self b 3).symm.trans h1_) (by decide),fun _=>(vr HO24.1),Qu,nQ hoff 7,nQ hoff 10,nQ hoff 13,Qt,Qg,Qf,Qh,Qj,Qi,Qk,nQ hoff 18,nQ hoff 16,Ql⟩
   refine steps_cons ?_ ?_
   ·rintro b a w' ⟨v15,v16,v10,v6,v7,v8,gb0,m16_,m17_,ha,Qa,Qb,Qc,Qp,Qm,Qd,Qn,Qo,Qq,Qe,Qg,Qf,Qh,Qj,Qi,Qk,Qs,Qr,Ql⟩ hb_ hon hoff;refine⟨_,rfl,fun K hK=>?_⟩;replace ha:=ak ha;have BK1:=ak Qa;have BK2:=ak Qb;have HB:=ak Qc;refine Kd.R_lit_step k69 _ 69 ?hg (N:=11) ?hd (xs:=([]:List (S69))) (inner:=[]) (ok:=fun _=>True) (okp:=fun _=>True) ?hr ?hp (fun _ hk=>hk) trivial (Below.refl _ _) (Nat.le_refl _) (by simp) ?_;(case hd=>rfl);(case hg=>rfl);(case hr=>first|(go_simp;done)|(go_simp;rfl));(case hp=>exact(Reps.none _ _));intro v10 w10 ho42 hb hg_ hnew_;clear hg_ hnew_;(first|rw [←Ny23.1] at ho42|(simp only [Int.reduceToNat] at ho42;rw [←Ny23.1] at ho42))
    have Qv:=fun h0_ h1_=>Kd.R_below (Qp h0_ h1_) hb
    have Qw:=fun h0_=>Kd.R_below (Qm h0_) hb
    have Qx:=fun h0_=>Kd.R_below (Qn h0_) hb
    have Qy:=fun h0_=>Kd.R_below (Qo h0_) hb
    have Qz:=fun h0_=>Kd.R_below (Qq h0_) hb
    have Qt:=fun h0_ h1_=>blk_below (Qe h0_ h1_) hb
    have HO45:=ak (Kd.R_lower ho42 (below_size (vb HB.1)));replace BK1:=ak (blk_below (vk BK1.1) hb);replace BK2:=ak (blk_below (vk BK2.1) hb);replace HB:=ak (below_step (vb HB.1) hb);clear hb ho42;refine hK.out _ _ ⟨v15,v16,v10,v6,v7,v8,gb0,m16_,m17_,(by rw [ha.1];exact putSel_upk 3 hb_ rfl rfl rfl),(vk BK1.1),(vk BK2.1),(vb HB.1),Qv,Qw,fun _=>(vr HO45.1),Qx,Qy,Qz,Qt,Qg,Qf,Qh,Qj,Qi,Qk,nQ hoff 18,nQ hoff 16,Ql⟩
   refine steps_cons ?_ ?_
   ·rintro b a w' ⟨v15,v16,v10,v6,v7,v8,gb0,m16_,m17_,ha,Qa,Qb,Qc,Qp,Qm,Qd,Qn,Qo,Qq,Qe,Qg,Qf,Qh,Qj,Qi,Qk,Qs,Qr,Ql⟩ hb_ hon hoff;refine⟨_,rfl,fun K hK=>?_⟩;have e65:a.tmps[12]? =some (.pointer (some ⟨gb1,2,none⟩)):=by rw [ha];exact(putSel_off rfl).trans rfl
    replace ha:=ak ha;have BK1:=ak Qa;have hc2_:w'.cell? ⟨gb1,2,none⟩=some (.slice A0_2 l0_2.length c0_2):=bk BK1.1 2;refine value_ (w1:=w') (v:=.slice A0_2 l0_2.length c0_2) (by rfl) rfl ?_ ?_
    ·go_simp
     (try simp only [i64_w])
     try rfl
    refine hK.out _ _ ⟨v15,v16,v10,v6,v7,v8,gb0,m16_,m17_,(by rw [ha.1];exact putSel_upk 4 hb_ rfl rfl rfl),Qa,Qb,Qc,Qp,Qm,Qd,nQ hoff 7,nQ hoff 10,nQ hoff 13,Qe,Qg,Qf,Qh,Qj,Qi,Qk,nQ hoff 18,nQ hoff 16,Ql⟩
   refine steps_cons ?_ ?_
   ·rintro b a w' ⟨v15,v16,v10,v6,v7,v8,gb0,m16_,m17_,ha,Qa,Qb,Qc,Qp,Qm,Qd,Qn,Qo,Qq,Qe,Qg,Qf,Qh,Qj,Qi,Qk,Qs,Qr,Ql⟩ hb_ hon hoff;refine⟨_,rfl,fun K hK=>?_⟩;have e51:a.tmps[13]? =some (.slice A0_2 l0_2.length c0_2):=by rw [ha];exact putSel_on (e:=(6,13,.slice A0_2 l0_2.length c0_2)) 4 rfl rfl (oQ hon 6) rfl
    replace ha:=ak ha;have BK1:=ak Qa;have BK2:=ak Qb;have HB:=ak Qc;have HO24:=ak (Qm (oQ hon 3));refine goes_ Try.func79 (by kernel_rfl) rfl #[.slice A0_2 l0_2.length c0_2] (by rfl) rfl rfl (by first|(simp only [List.map_toArray,List.map_cons,List.map_nil,Act.eval,Array.getD_eq_getD_getElem?,Option.getD_some,e51];done)|(simp only [List.map_toArray,List.map_cons,List.map_nil,Act.eval,Array.getD_eq_getD_getElem?,Option.getD_some,e51];rfl)) ?_;with_reducible refine(spec_l01Own.calls _ _ l0_2 t17 _ ?_ ?_ A4.1).mono ?_
    exact vd HR0_2.1 HB.1
    exact HC0_2.1
    rintro e w14 ⟨v6,rfl,ho22,hb⟩;refine⟨_,rfl,?_⟩;have Qu:=fun h0_=>Kd.R_below (Qd h0_) hb
    have Qt:=fun h0_ h1_=>blk_below (Qe h0_ h1_) hb
    replace HO24:=ak (Kd.R_below (vr HO24.1) hb);have HO25:=ak (Kd.R_lower ho22 (below_size (vb HB.1)));replace BK1:=ak (blk_below (vk BK1.1) hb);replace BK2:=ak (blk_below (vk BK2.1) hb);replace HB:=ak (below_step (vb HB.1) hb)
    (try clear hb2)
    (try clear hk)
    (try clear hi)
    (try clear ho22)
    refine hK.out _ _ ⟨v15,v16,v10,v6,v7,v8,gb0,m16_,m17_,(by rw [ha.1];exact putSel_upk 5 hb_ rfl rfl rfl),(vk BK1.1),(vk BK2.1),(vb HB.1),fun _ h1_=>absurd ((oQ hon 3).symm.trans h1_) (by decide),fun _=>(vr HO24.1),Qu,fun _=>(vr (Kd.R_mono HO25.1 (fun _ hk=>by refine⟨?_,?_⟩<;>first|exact hk.2|exact hk.1.2|exact hk.1.1|exact fun _=>hk.2|exact fun _=>hk.1.2|exact fun h_=>absurd ((oQ hoff 10).symm.trans h_) (by decide)|exact fun h_=>absurd ((oQ hoff 13).symm.trans h_) (by decide)))),nQ hoff 10,nQ hoff 13,Qt,Qg,Qf,Qh,Qj,Qi,Qk,nQ hoff 18,nQ hoff 16,Ql⟩
   refine steps_cons ?_ ?_
   ·rintro b a w' ⟨v15,v16,v10,v6,v7,v8,gb0,m16_,m17_,ha,Qa,Qb,Qc,Qp,Qm,Qd,Qn,Qo,Qq,Qe,Qg,Qf,Qh,Qj,Qi,Qk,Qs,Qr,Ql⟩ hb_ hon hoff;refine⟨_,rfl,fun K hK=>?_⟩;have e67:a.tmps[15]? =some (.pointer (some ⟨gb1,3,none⟩)):=by rw [ha];exact(putSel_off rfl).trans rfl
    replace ha:=ak ha;have BK1:=ak Qa;have hc3_:w'.cell? ⟨gb1,3,none⟩=some (.slice A0_3 l0_3.length c0_3):=bk BK1.1 3;refine value_ (w1:=w') (v:=.slice A0_3 l0_3.length c0_3) (by rfl) rfl ?_ ?_
    ·go_simp
     (try simp only [i64_w])
     try rfl
    refine hK.out _ _ ⟨v15,v16,v10,v6,v7,v8,gb0,m16_,m17_,(by rw [ha.1];exact putSel_upk 6 hb_ rfl rfl rfl),Qa,Qb,Qc,Qp,Qm,Qd,Qn,nQ hoff 10,nQ hoff 13,Qe,Qg,Qf,Qh,Qj,Qi,Qk,nQ hoff 18,nQ hoff 16,Ql⟩
   refine steps_cons ?_ ?_
   ·rintro b a w' ⟨v15,v16,v10,v6,v7,v8,gb0,m16_,m17_,ha,Qa,Qb,Qc,Qp,Qm,Qd,Qn,Qo,Qq,Qe,Qg,Qf,Qh,Qj,Qi,Qk,Qs,Qr,Ql⟩ hb_ hon hoff;refine⟨_,rfl,fun K hK=>?_⟩;have e9:a.tmps[16]? =some (.slice A0_3 l0_3.length c0_3):=by rw [ha];exact putSel_on (e:=(9,16,.slice A0_3 l0_3.length c0_3)) 6 rfl rfl (oQ hon 9) rfl
    replace ha:=ak ha;have BK1:=ak Qa;have BK2:=ak Qb;have HB:=ak Qc;have HO24:=ak (Qm (oQ hon 3));have HO25:=ak (Qn (oQ hon 7));refine goes_ Try.func79 (by kernel_rfl) rfl #[.slice A0_3 l0_3.length c0_3] (by rfl) rfl rfl (by first|(simp only [List.map_toArray,List.map_cons,List.map_nil,Act.eval,Array.getD_eq_getD_getElem?,Option.getD_some,e9];done)|(simp only [List.map_toArray,List.map_cons,List.map_nil,Act.eval,Array.getD_eq_getD_getElem?,Option.getD_some,e9];rfl)) ?_;with_reducible refine(spec_l01Own.calls _ _ l0_3 t18 _ ?_ ?_ A5.1).mono ?_
    exact vd HR0_3.1 HB.1
    exact HC0_3.1
    rintro e w15 ⟨v7,rfl,ho22,hb⟩;refine⟨_,rfl,?_⟩;have Qu:=fun h0_=>Kd.R_below (Qd h0_) hb
    have Qt:=fun h0_ h1_=>blk_below (Qe h0_ h1_) hb
    replace HO24:=ak (Kd.R_below (vr HO24.1) hb);have HO39:=ak (Kd.R_lower (Kd.R_new' ho22 (Kd.R_lt (vr HO25.1))) (below_size (vb HB.1)));replace HO25:=ak (Kd.R_elder' (vr HO25.1) (Kd.R_base ho22) hb);replace BK1:=ak (blk_below (vk BK1.1) hb);replace BK2:=ak (blk_below (vk BK2.1) hb);replace HB:=ak (below_step (vb HB.1) hb)
    (try clear hb2)
    (try clear hk)
    (try clear hi)
    (try clear ho22)
    refine hK.out _ _ ⟨v15,v16,v10,v6,v7,v8,gb0,m16_,m17_,(by rw [ha.1];exact putSel_upk 7 hb_ rfl rfl rfl),(vk BK1.1),(vk BK2.1),(vb HB.1),fun _ h1_=>absurd ((oQ hon 3).symm.trans h1_) (by decide),fun _=>(vr HO24.1),Qu,fun _=>(vr (Kd.R_mono HO25.1 (fun _ hk=>by refine⟨?_,?_⟩<;>first|exact hk.2|exact hk.1.2|exact hk.1.1|exact fun _=>hk.2|exact fun _=>hk.1.2|exact fun h_=>absurd ((oQ hoff 10).symm.trans h_) (by decide)|exact fun h_=>absurd ((oQ hoff 13).symm.trans h_) (by decide)))),fun _=>(vr (Kd.R_mono HO39.1 (fun _ hk=>by refine⟨?_,?_⟩<;>first|exact hk.2|exact hk.1.2|exact hk.1.1|exact fun _=>hk.2|exact fun _=>hk.1.2|exact fun h_=>absurd ((oQ hoff 10).symm.trans h_) (by decide)|exact fun h_=>absurd ((oQ hoff 13).symm.trans h_) (by decide)))),nQ hoff 13,Qt,Qg,Qf,Qh,Qj,Qi,Qk,nQ hoff 18,nQ hoff 16,Ql⟩
   refine steps_cons ?_ ?_
   ·rintro b a w' ⟨v15,v16,v10,v6,v7,v8,gb0,m16_,m17_,ha,Qa,Qb,Qc,Qp,Qm,Qd,Qn,Qo,Qq,Qe,Qg,Qf,Qh,Qj,Qi,Qk,Qs,Qr,Ql⟩ hb_ hon hoff;refine⟨_,rfl,fun K hK=>?_⟩;have e69:a.tmps[18]? =some (.pointer (some ⟨gb1,4,none⟩)):=by rw [ha];exact(putSel_off rfl).trans rfl
    replace ha:=ak ha;have BK1:=ak Qa;have hc4_:w'.cell? ⟨gb1,4,none⟩=some (.slice A0_4 l0_4.length c0_4):=bk BK1.1 4;refine value_ (w1:=w') (v:=.slice A0_4 l0_4.length c0_4) (by rfl) rfl ?_ ?_
    ·go_simp
     (try simp only [i64_w])
     try rfl
    refine hK.out _ _ ⟨v15,v16,v10,v6,v7,v8,gb0,m16_,m17_,(by rw [ha.1];exact putSel_upk 8 hb_ rfl rfl rfl),Qa,Qb,Qc,Qp,Qm,Qd,Qn,Qo,nQ hoff 13,Qe,Qg,Qf,Qh,Qj,Qi,Qk,nQ hoff 18,nQ hoff 16,Ql⟩
   refine steps_cons ?_ ?_
   ·rintro b a w' ⟨v15,v16,v10,v6,v7,v8,gb0,m16_,m17_,ha,Qa,Qb,Qc,Qp,Qm,Qd,Qn,Qo,Qq,Qe,Qg,Qf,Qh,Qj,Qi,Qk,Qs,Qr,Ql⟩ hb_ hon hoff;refine⟨_,rfl,fun K hK=>?_⟩;have e52:a.tmps[19]? =some (.slice A0_4 l0_4.length c0_4):=by rw [ha];exact putSel_on (e:=(12,19,.slice A0_4 l0_4.length c0_4)) 8 rfl rfl (oQ hon 12) rfl
    replace ha:=ak ha;have BK1:=ak Qa;have BK2:=ak Qb;have HB:=ak Qc;have HO24:=ak (Qm (oQ hon 3));have HO25:=ak (Qn (oQ hon 7));have HO39:=ak (Qo (oQ hon 10));refine goes_ Try.func79 (by kernel_rfl) rfl #[.slice A0_4 l0_4.length c0_4] (by rfl) rfl rfl (by first|(simp only [List.map_toArray,List.map_cons,List.map_nil,Act.eval,Array.getD_eq_getD_getElem?,Option.getD_some,e52];done)|(simp only [List.map_toArray,List.map_cons,List.map_nil,Act.eval,Array.getD_eq_getD_getElem?,Option.getD_some,e52];rfl)) ?_;with_reducible refine(spec_l01Own.calls _ _ l0_4 t19 _ ?_ ?_ A6.1).mono ?_
    exact vd HR0_4.1 HB.1
    exact HC0_4.1
    rintro e w16 ⟨v8,rfl,ho22,hb⟩;refine⟨_,rfl,?_⟩;have Qu:=fun h0_=>Kd.R_below (Qd h0_) hb
    have Qt:=fun h0_ h1_=>blk_below (Qe h0_ h1_) hb
    replace HO24:=ak (Kd.R_below (vr HO24.1) hb);have HO46:=ak (Kd.R_lower (Kd.R_new' (Kd.R_new' ho22 (Kd.R_lt (vr HO25.1))) (Kd.R_lt (vr HO39.1))) (below_size (vb HB.1)));replace HO25:=ak (Kd.R_elder' (vr HO25.1) (Kd.R_base ho22) hb);replace HO39:=ak (Kd.R_elder' (vr HO39.1) (Kd.R_base ho22) hb);replace BK1:=ak (blk_below (vk BK1.1) hb);replace BK2:=ak (blk_below (vk BK2.1) hb);replace HB:=ak (below_step (vb HB.1) hb)
    (try clear hb2)
    (try clear hk)
    (try clear hi)
    (try clear ho22)
    refine hK.out _ _ ⟨v15,v16,v10,v6,v7,v8,gb0,m16_,m17_,(by rw [ha.1];exact putSel_upk 9 hb_ rfl rfl rfl),(vk BK1.1),(vk BK2.1),(vb HB.1),fun _ h1_=>absurd ((oQ hon 3).symm.trans h1_) (by decide),fun _=>(vr HO24.1),Qu,fun _=>(vr (Kd.R_mono HO25.1 (fun _ hk=>by refine⟨?_,?_⟩<;>first|exact hk.2|exact hk.1.2|exact hk.1.1|exact fun _=>hk.2|exact fun _=>hk.1.2|exact fun h_=>absurd ((oQ hoff 10).symm.trans h_) (by decide)|exact fun h_=>absurd ((oQ hoff 13).symm.trans h_) (by decide)))),fun _=>(vr (Kd.R_mono HO39.1 (fun _ hk=>by refine⟨?_,?_⟩<;>first|exact hk.2|exact hk.1.2|exact hk.1.1|exact fun _=>hk.2|exact fun _=>hk.1.2|exact fun h_=>absurd ((oQ hoff 10).symm.trans h_) (by decide)|exact fun h_=>absurd ((oQ hoff 13).symm.trans h_) (by decide)))),fun _=>(vr (Kd.R_mono HO46.1 (fun _ hk=>by refine⟨?_,?_⟩<;>first|exact hk.2|exact hk.1.2|exact hk.1.1|exact fun _=>hk.2|exact fun _=>hk.1.2|exact fun h_=>absurd ((oQ hoff 10).symm.trans h_) (by decide)|exact fun h_=>absurd ((oQ hoff 13).symm.trans h_) (by decide)))),Qt,Qg,Qf,Qh,Qj,Qi,Qk,nQ hoff 18,nQ hoff 16,Ql⟩
   refine steps_cons ?_ ?_
   ·rintro b a w' ⟨v15,v16,v10,v6,v7,v8,gb0,m16_,m17_,ha,Qa,Qb,Qc,Qp,Qm,Qd,Qn,Qo,Qq,Qe,Qg,Qf,Qh,Qj,Qi,Qk,Qs,Qr,Ql⟩ hb_ hon hoff;refine⟨_,rfl,fun K hK=>?_⟩;have e71:a.tmps[21]? =some (.pointer (some ⟨gb1,5,none⟩)):=by rw [ha];exact(putSel_off rfl).trans rfl
    replace ha:=ak ha;have BK1:=ak Qa;have hc5_:w'.cell? ⟨gb1,5,none⟩=some (.int .i64 a0_5):=bk BK1.1 5;refine value_ (w1:=w') (v:=.int .i64 a0_5) (by rfl) rfl ?_ ?_
    ·go_simp
     (try simp only [i64_w])
     try rfl
    refine hK.out _ _ ⟨v15,v16,v10,v6,v7,v8,gb0,m16_,m17_,(by rw [ha.1];exact putSel_upk 10 hb_ rfl rfl rfl),Qa,Qb,Qc,Qp,Qm,Qd,Qn,Qo,Qq,Qe,Qg,Qf,Qh,Qj,Qi,Qk,nQ hoff 18,nQ hoff 16,Ql⟩
   refine steps_cons ?_ ?_
   ·rintro b a w' ⟨v15,v16,v10,v6,v7,v8,gb0,m16_,m17_,ha,Qa,Qb,Qc,Qp,Qm,Qd,Qn,Qo,Qq,Qe,Qg,Qf,Qh,Qj,Qi,Qk,Qs,Qr,Ql⟩ hb_ hon hoff;refine⟨_,rfl,fun K hK=>?_⟩;have e64:a.tmps[10]? =some (v16):=by rw [ha];exact putSel_on (e:=(3,10,v16)) 2 rfl rfl (oQ hon 3) rfl
    have e42:a.tmps[11]? =some (v10):=by rw [ha];exact putSel_on (e:=(4,11,v10)) 3 rfl rfl (oQ hon 4) rfl
    have e66:a.tmps[14]? =some (v6):=by rw [ha];exact putSel_on (e:=(7,14,v6)) 5 rfl rfl (oQ hon 7) rfl
    have e68:a.tmps[17]? =some (v7):=by rw [ha];exact putSel_on (e:=(10,17,v7)) 7 rfl rfl (oQ hon 10) rfl
    have e70:a.tmps[20]? =some (v8):=by rw [ha];exact putSel_on (e:=(13,20,v8)) 9 rfl rfl (oQ hon 13) rfl
    have e72:a.tmps[22]? =some (.int .i64 a0_5):=by rw [ha];exact putSel_on (e:=(15,22,.int .i64 a0_5)) 10 rfl rfl (oQ hon 15) rfl
    replace ha:=ak ha;have HO24:=ak (Qm (oQ hon 3));have HO45:=ak (Qd (oQ hon 4));have HO25:=ak (Qn (oQ hon 7));have HO39:=ak (Qo (oQ hon 10));have HO46:=ak (Qq (oQ hon 13));obtain⟨Ao9_22,co9_22,rfl⟩:=Kd.R_slice HO24.1;obtain⟨Ao9_3,co9_3,rfl⟩:=Kd.R_slice HO45.1;obtain⟨Ao9_26,co9_26,rfl⟩:=Kd.R_slice HO25.1;obtain⟨Ao9_27,co9_27,rfl⟩:=Kd.R_slice HO39.1;obtain⟨Ao9_28,co9_28,rfl⟩:=Kd.R_slice HO46.1;refine value_ (w1:=w') (v:=.agg (f5 Ao9_22 y20 co9_22 Ao9_3 y23 co9_3 Ao9_26 t17 co9_26 Ao9_27 t18 co9_27 Ao9_28 t19 co9_28 a0_5)) (by rfl) rfl ?_ ?_
    ·go_simp
     (try simp only [i64_w])
     try rfl
    refine hK.out _ _ ⟨v15,.slice Ao9_22 y20.length co9_22,.slice Ao9_3 y23.length co9_3,.slice Ao9_26 t17.length co9_26,.slice Ao9_27 t18.length co9_27,.slice Ao9_28 t19.length co9_28,gb0,(.agg (f5 Ao9_22 y20 co9_22 Ao9_3 y23 co9_3 Ao9_26 t17 co9_26 Ao9_27 t18 co9_27 Ao9_28 t19 co9_28 a0_5)),m17_,(by rw [ha.1];exact putSel_upk 11 hb_ rfl rfl rfl),Qa,Qb,Qc,fun _ h1_=>absurd ((oQ hon 3).symm.trans h1_) (by decide),Qm,Qd,Qn,Qo,Qq,Qe,Qg,Qf,Qh,Qj,Qi,Qk,nQ hoff 18,fun _=>rfl,Ql⟩
   refine steps_cons ?_ ?_
   ·rintro b a w' ⟨v15,v16,v10,v6,v7,v8,gb0,m16_,m17_,ha,Qa,Qb,Qc,Qp,Qm,Qd,Qn,Qo,Qq,Qe,Qg,Qf,Qh,Qj,Qi,Qk,Qs,Qr,Ql⟩ hb_ hon hoff;refine⟨_,rfl,fun K hK=>?_⟩;replace ha:=ak ha;have BK1:=ak Qa;have BK2:=ak Qb;have HB:=ak Qc;refine box_step ?hg (N:=5) ?hd (cs:=#[.slice none 0 0,.slice none 0 0,.slice none 0 0,.slice none 0 0,.slice none 0 0,.int .i64 0]) (t:=28) ?hr ?_;(case hd=>rfl);(case hg=>rfl);(case hr=>first|(go_simp;done)|(go_simp;rfl));intro gb0 hg w10 hbox hb;have Qv:=fun h0_ h1_=>Kd.R_below (Qp h0_ h1_) hb
    have Qw:=fun h0_=>Kd.R_below (Qm h0_) hb
    have Qu:=fun h0_=>Kd.R_below (Qd h0_) hb
    have Qx:=fun h0_=>Kd.R_below (Qn h0_) hb
    have Qy:=fun h0_=>Kd.R_below (Qo h0_) hb
    have Qz:=fun h0_=>Kd.R_below (Qq h0_) hb
    have BK0:=ak (hbox);have GW646:=ak ((by rw [hg];exact(below_size (vb HB.1)):w.heap.size≤gb0));have GE0:=ak ((by rw [hg];exact(below_size (vb HB.1)):w.heap.size≤gb0));replace HB:=ak (below_step (vb HB.1) hb);have NB1_0:=ak ((by rw [hg];exact Nat.ne_of_lt (blk_lt (vk BK1.1)):gb1≠gb0));have NB0_1:=ak ((by rw [hg];exact Nat.ne_of_gt (blk_lt (vk BK1.1)):gb0≠gb1));replace BK1:=ak (blk_below (vk BK1.1) hb);have NB2_0:=ak ((by rw [hg];exact Nat.ne_of_lt (blk_lt (vk BK2.1)):gb2≠gb0));have NB0_2:=ak ((by rw [hg];exact Nat.ne_of_gt (blk_lt (vk BK2.1)):gb0≠gb2));replace BK2:=ak (blk_below (vk BK2.1) hb);clear hb hbox hg;refine hK.out _ _ ⟨v15,v16,v10,v6,v7,v8,gb0,m16_,(.pointer (some ⟨gb0,0,none⟩)),(by rw [ha.1];exact putSel_upk 12 hb_ rfl rfl rfl),(vk BK1.1),(vk BK2.1),(vb HB.1),Qv,Qw,Qu,Qx,Qy,Qz,fun _ _=>(vk BK0.1),fun _=>GW646.1,fun _=>GE0.1,fun _=>NB1_0.1,fun _=>NB0_1.1,fun _=>NB2_0.1,fun _=>NB0_2.1,nQ hoff 18,Qr,fun _=>rfl⟩
   refine steps_cons ?_ ?_
   ·rintro b a w' ⟨v15,v16,v10,v6,v7,v8,gb0,m16_,m17_,ha,Qa,Qb,Qc,Qp,Qm,Qd,Qn,Qo,Qq,Qe,Qg,Qf,Qh,Qj,Qi,Qk,Qs,Qr,Ql⟩ hb_ hon hoff;refine⟨_,rfl,fun K hK=>?_⟩;have e59:a.tmps[5]? =some (m17_):=by rw [ha];exact putSel_on (e:=(17,5,m17_)) 12 rfl rfl (oQ hon 17) rfl
    rw [Ql (oQ hon 17)] at e59;have e62:a.tmps[23]? =some (m16_):=by rw [ha];exact putSel_on (e:=(16,23,m16_)) 11 rfl rfl (oQ hon 16) rfl
    rw [Qr (oQ hon 16)] at e62;replace ha:=ak ha;have BK1:=ak Qa;have BK2:=ak Qb;have HB:=ak Qc;have HO24:=ak (Qm (oQ hon 3));have HO45:=ak (Qd (oQ hon 4));have HO25:=ak (Qn (oQ hon 7));have HO39:=ak (Qo (oQ hon 10));have HO46:=ak (Qq (oQ hon 13));have BK0:=ak (Qe (oQ hon 17) hb_);have GW646:=ak (Qg (oQ hon 17));have GE0:=ak (Qf (oQ hon 17));have NB1_0:=ak (Qh (oQ hon 17));have NB0_1:=ak (Qj (oQ hon 17));have NB2_0:=ak (Qi (oQ hon 17));have NB0_2:=ak (Qk (oQ hon 17));obtain⟨Ao29,co29,rfl⟩:=Kd.R_slice HO46.1
    obtain⟨Ao30,co30,rfl⟩:=Kd.R_slice HO39.1
    obtain⟨Ao31,co31,rfl⟩:=Kd.R_slice HO25.1
    obtain⟨Ao32,co32,rfl⟩:=Kd.R_slice HO45.1
    obtain⟨Ao33,co33,rfl⟩:=Kd.R_slice HO24.1
    have hs30:w'.cell? ⟨gb0,0,none⟩=some (.slice none 0 0):=bk BK0.1 0;have hfs30:=blk_frozen BK0.1 0;have:=NB1_0.1;have:=NB2_0.1;have:=NB0_1.1;have:=NB0_2.1;have hs31:w'.cell? ⟨gb0,1,none⟩=some (.slice none 0 0):=bk BK0.1 1;have hfs31:=blk_frozen BK0.1 1;have hs32:w'.cell? ⟨gb0,2,none⟩=some (.slice none 0 0):=bk BK0.1 2;have hfs32:=blk_frozen BK0.1 2;have hs33:w'.cell? ⟨gb0,3,none⟩=some (.slice none 0 0):=bk BK0.1 3;have hfs33:=blk_frozen BK0.1 3;have hs34:w'.cell? ⟨gb0,4,none⟩=some (.slice none 0 0):=bk BK0.1 4;have hfs34:=blk_frozen BK0.1 4;have hs35:w'.cell? ⟨gb0,5,none⟩=some (.int .i64 0):=bk BK0.1 5;have hfs35:=blk_frozen BK0.1 5;refine skip_ (w1:=?_) (by rfl) rfl ?_ ?_
    rotate_left
    ·go_simp
     rfl
    refine hK.out _ _ ⟨v15,.slice Ao33 y20.length co33,.slice Ao32 y23.length co32,.slice Ao31 t17.length co31,.slice Ao30 t18.length co30,.slice Ao29 t19.length co29,gb0,m16_,m17_,(by rw [ha.1];first|exact putSel_none (v:=undef) rfl|exact(putSel_same rfl).symm),(vk BK1.1),(vk BK2.1),(vb HB.1),fun _ h1_=>absurd ((oQ hon 3).symm.trans h1_) (by decide),fun _=>(tQ6 HO24 BK0),fun _=>(tQ6 HO45 BK0),fun _=>(sQ6 HO25 BK0),fun _=>(sQ6 HO39 BK0),fun _=>(sQ6 HO46 BK0),fun _ h1_=>absurd ((up_self b 18).symm.trans h1_) (by decide),fun _=>GW646.1,fun _=>GE0.1,fun _=>NB1_0.1,fun _=>NB0_1.1,fun _=>NB2_0.1,fun _=>NB0_2.1,fun _=>(vz BK0.1),Qr,Ql⟩
   exact steps_nil
  rintro b a w30 hall ⟨v15,v16,v10,v6,v7,v8,gb0,m16_,m17_,ha,Qa,Qb,Qc,Qp,Qm,Qd,Qn,Qo,Qq,Qe,Qg,Qf,Qh,Qj,Qi,Qk,Qs,Qr,Ql⟩;clear BK1 BK2 HB;have hb0_:=oQ hall 0;have hb2_:=oQ hall 2;have hb3_:=oQ hall 3;have hb4_:=oQ hall 4;have hb6_:=oQ hall 6;have hb7_:=oQ hall 7;have hb9_:=oQ hall 9;have hb10_:=oQ hall 10;have hb12_:=oQ hall 12;have hb13_:=oQ hall 13;have hb15_:=oQ hall 15;have hb16_:=oQ hall 16;have hb17_:=oQ hall 17;have hb18_:=oQ hall 18;subst ha;obtain rfl:=Qr hb16_;obtain rfl:=Ql hb17_;simp only [putSel,hb0_,hb2_,hb3_,hb4_,hb6_,hb7_,hb9_,hb10_,hb12_,hb13_,hb15_,hb16_,hb17_,hb18_,if_true,Act.put,List.setIfInBounds_toArray,List.set_cons_zero,List.set_cons_succ]
  have BK1:=ak Qa;clear Qa;have BK2:=ak Qb;clear Qb;have HB:=ak Qc;clear Qc;clear Qp;have HO24:=ak (Qm hb3_);clear Qm;have HO45:=ak (Qd hb4_);clear Qd;have HO25:=ak (show Kd.R (Kd.int .i64) 2 w30 w.heap.size (fun k_=>some k_≠(v7:Value).ownBlock∧some k_≠(v8:Value).ownBlock) v6 t17 from Kd.R_mono (Qn hb7_) (fun _ hk=>⟨hk.1 hb10_,hk.2 hb13_⟩));clear Qn;have HO39:=ak (show Kd.R (Kd.int .i64) 2 w30 w.heap.size (fun k_=>some k_≠(v6:Value).ownBlock∧some k_≠(v8:Value).ownBlock) v7 t18 from Kd.R_mono (Qo hb10_) (fun _ hk=>⟨hk.1,hk.2 hb13_⟩));clear Qo;have HO46:=ak (Qq hb13_);clear Qq;clear Qe;have GW646:=ak (Qg hb17_);clear Qg;have GE0:=ak (Qf hb17_);clear Qf;have NB1_0:=ak (Qh hb17_);clear Qh;have NB0_1:=ak (Qj hb17_);clear Qj;have NB2_0:=ak (Qi hb17_);clear Qi;have NB0_2:=ak (Qk hb17_);clear Qk;have BK0:=ak (Qs hb18_);clear Qs;clear hall hb0_ hb2_ hb3_ hb4_ hb6_ hb7_ hb9_ hb10_ hb12_ hb13_ hb15_ hb16_ hb17_ hb18_;obtain⟨Ao11,co11,rfl⟩:=Kd.R_slice HO46.1
  obtain⟨Ao12,co12,rfl⟩:=Kd.R_slice HO39.1
  obtain⟨Ao13,co13,rfl⟩:=Kd.R_slice HO25.1
  obtain⟨Ao48,co48,rfl⟩:=Kd.R_slice HO45.1
  obtain⟨Ao21,co21,rfl⟩:=Kd.R_slice HO24.1
  try go_wp2
  go_loopg [6] k (fun kq v5 w'=>∃(x5_3:Int) (x14_3:List (S69)) (u647001:Value),v5=.int .i64 x5_3∧Aside0 (spec_l19Without.l0 kq l1 x5_3 l0_0 l0_1 l0_2 l0_3 l0_4 a0_5 y20 x14_3 t17 t18 t19 a0_5=some (r1,r2,r3,r4,r5,r6))∧Aside0 (kq≤k)∧Aside0 (Kd.R k91 91 w' w.heap.size (fun _=>True) (.slice Ao21 y20.length co21) y20)∧Aside0 (Kd.R k69 69 w' w.heap.size (fun _=>True) u647001 x14_3)∧Aside0 (Kd.R (Kd.int .i64) 2 w' w.heap.size (fun k_=>nB k_ Ao12 t18.length co12∧nB k_ Ao11 t19.length co11) (.slice Ao13 t17.length co13) t17)∧Aside0 (Kd.R (Kd.int .i64) 2 w' w.heap.size (fun k_=>nB k_ Ao13 t17.length co13∧nB k_ Ao11 t19.length co11) (.slice Ao12 t18.length co12) t18)∧Aside0 (Kd.R (Kd.int .i64) 2 w' w.heap.size (fun k_=>nB k_ Ao13 t17.length co13∧nB k_ Ao12 t18.length co12) (.slice Ao11 t19.length co11) t19)∧Aside0 (w'.heap[gb1]? =some (.cells (f5 A0_0 l0_0 c0_0 A0_1 l0_1 c0_1 A0_2 l0_2 c0_2 A0_3 l0_3 c0_3 A0_4 l0_4 c0_4 a0_5) 28 (0,0)))∧Aside0 (w'.heap[gb2]? =some (.cells #[(.slice none 0 0),(.slice none 0 0),(.slice none 0 0),(.slice none 0 0),(.slice none 0 0),.int .i64 0] 28 (0,0)))∧Aside0 (w'.heap[gb0]? =some (.cells #[(.slice Ao21 y20.length co21),u647001,(.slice Ao13 t17.length co13),(.slice Ao12 t18.length co12),(.slice Ao11 t19.length co11),.int .i64 a0_5] 28 (0,0)))∧Aside0 (Below w.heap.size w w'))
  case atStart=>exact⟨(0),(y23),(.slice Ao48 y23.length co48),es,H',⟨Nat.le_refl _⟩,⟨vr HO24.1⟩,⟨vr HO45.1⟩,⟨vr HO25.1⟩,⟨vr HO39.1⟩,⟨vr HO46.1⟩,⟨vk BK1.1⟩,⟨vk BK2.1⟩,⟨vk BK0.1⟩,⟨vb HB.1⟩⟩
  case round=>
   clear H';obtain⟨x5_3,x14_3,u647001,rfl,HA,HK1,HO_35,HO_14,HO_36,HO_37,HO_38,BK1,BK2,BK0,HB⟩:=hrel
   cases gk with
   |zero=>exact absurd HA.1 (by simp [spec_l19Without.l0])
   |succ k1=>
    have H:=HA.1;clear HA;simp only [spec_l19Without.l0] at H
    by_cases c36:x5_3<(l0_1.length:Int)
    ·rw [if_pos c36] at H;have c36b0:=decide_eq_true c36;clear c36;obtain⟨t49,A37,H⟩:=bnk H;by_cases c38:t49=true
     ·subst c38;rw [if_pos rfl] at H;have H':=ak H;clear H;have:=NB1_2.1;have:=NB2_1.1;have:=NB1_0.1;have:=NB0_1.1;have hcz73:=cz6 BK1.1;go_wp2_with (first|((with_reducible refine at_fn (f:=62) rfl ?_);refine gl (some 33) Try.func62 #[.slice A1 l1.length c1,.int .i64 x5_3] ?_;(with_reducible refine(spec_l01Has.calls k1 _ _ l1 x5_3 _ _ ?_ HC1.1 A37.1).mono ?_);exact vd HR1.1 HB.1;rintro e w' ⟨rfl,⟨nd,rfl⟩⟩;refine⟨_,rfl,?_⟩))
      go_roundg k1
      case measure=>have:=HK1.1;omega
      case rel=>exact⟨(wrap64 (x5_3+1)),(x14_3),(u647001),es,H',⟨by have:=HK1.1;omega⟩,⟨vr HO_35.1⟩,⟨vr HO_14.1⟩,⟨vr HO_36.1⟩,⟨vr HO_37.1⟩,⟨vr HO_38.1⟩,⟨vk BK1.1⟩,⟨vk BK2.1⟩,⟨vk BK0.1⟩,⟨vb HB.1⟩⟩
     ·replace c38:=Bool.eq_false_iff.mpr c38;subst c38;rw [if_neg nf] at H;by_cases c42:0≤x5_3
      ·rw [if_pos c42] at H;have c42b0:=decide_eq_true c42;clear c42;by_cases c43:x14_3.length<3518437208883
       ·rw [if_pos c43] at H;have LMc43:=ak c43;clear c43;obtain⟨y41,hy41⟩:=gen_ ((x14_3++[(⟨(rd_T69 l0_1 x5_3).f0,(rd_T69 l0_1 x5_3).f1,(rd_T69 l0_1 x5_3).f2,(rd_T69 l0_1 x5_3).f3,(rd_T69 l0_1 x5_3).f4⟩:S69)]:List (S69)));rw [←hy41] at H;have Ny41:=ak hy41;clear hy41;have H':=ak H;clear H;have:=NB1_2.1;have:=NB2_1.1;have:=NB1_0.1;have:=NB0_1.1;have hcz74:=cz6 BK1.1;(try go_wp2_with (first|((with_reducible refine at_fn (f:=62) rfl ?_);refine gl (some 33) Try.func62 #[.slice A1 l1.length c1,.int .i64 x5_3] ?_;(with_reducible refine(spec_l01Has.calls k1 _ _ l1 x5_3 _ _ ?_ HC1.1 A37.1).mono ?_);exact vd HR1.1 HB.1;rintro e w' ⟨rfl,⟨nd,rfl⟩⟩;refine⟨_,rfl,?_⟩;(try (rw [drewN_self wr];generalize hq_:World.drewN wr _=wr;have n0_:Aside0 (Kd.R k91 91 wr w.heap.size (fun _=>True) (.slice Ao21 y20.length co21) y20):=⟨by rw [←hq_];exact(vr HO_35.1)⟩;have n1_:Aside0 (Kd.R k69 69 wr w.heap.size (fun _=>True) u647001 x14_3):=⟨by rw [←hq_];exact(vr HO_14.1)⟩;have n2_:Aside0 (Kd.R (Kd.int .i64) 2 wr w.heap.size (fun k_=>nB k_ Ao12 t18.length co12∧nB k_ Ao11 t19.length co11) (.slice Ao13 t17.length co13) t17):=⟨by rw [←hq_];exact(vr HO_36.1)⟩;have n3_:Aside0 (Kd.R (Kd.int .i64) 2 wr w.heap.size (fun k_=>nB k_ Ao13 t17.length co13∧nB k_ Ao11 t19.length co11) (.slice Ao12 t18.length co12) t18):=⟨by rw [←hq_];exact(vr HO_37.1)⟩;have n4_:Aside0 (Kd.R (Kd.int .i64) 2 wr w.heap.size (fun k_=>nB k_ Ao13 t17.length co13∧nB k_ Ao12 t18.length co12) (.slice Ao11 t19.length co11) t19):=⟨by rw [←hq_];exact(vr HO_38.1)⟩;have n5_:Aside0 (wr.heap[gb1]? =some (.cells (f5 A0_0 l0_0 c0_0 A0_1 l0_1 c0_1 A0_2 l0_2 c0_2 A0_3 l0_3 c0_3 A0_4 l0_4 c0_4 a0_5) 28 (0,0))):=⟨by rw [←hq_];exact(vk BK1.1)⟩;have n6_:Aside0 (wr.heap[gb2]? =some (.cells #[.slice none 0 0,.slice none 0 0,.slice none 0 0,.slice none 0 0,.slice none 0 0,.int .i64 0] 28 (0,0))):=⟨by rw [←hq_];exact(vk BK2.1)⟩;have n7_:Aside0 (wr.heap[gb0]? =some (.cells #[.slice Ao21 y20.length co21,u647001,.slice Ao13 t17.length co13,.slice Ao12 t18.length co12,.slice Ao11 t19.length co11,.int .i64 a0_5] 28 (0,0))):=⟨by rw [←hq_];exact(vk BK0.1)⟩;have n8_:Aside0 (Below w.heap.size w wr):=⟨by rw [←hq_];exact(vb HB.1)⟩;clear HO_35 HO_14 HO_36 HO_37 HO_38 BK1 BK2 BK0 HB hq_;have HO_35:=n0_;have HO_14:=n1_;have HO_36:=n2_;have HO_37:=n3_;have HO_38:=n4_;have BK1:=n5_;have BK2:=n6_;have BK0:=n7_;have HB:=n8_;clear n0_ n1_ n2_ n3_ n4_ n5_ n6_ n7_ n8_)))))
        replace HO_35:=ak (Kd.R_drew HO_35.1);replace HO_14:=ak (Kd.R_drew HO_14.1);replace HO_36:=ak (Kd.R_drew HO_36.1);replace HO_37:=ak (Kd.R_drew HO_37.1);replace HO_38:=ak (Kd.R_drew HO_38.1);replace BK1:=ak (blk_drew BK1.1);replace BK2:=ak (blk_drew BK2.1);replace BK0:=ak (blk_drew BK0.1);replace HB:=ak (below_drew1 HB.1);have p4:0≤(x5_3:Int):=od;have q4:x5_3<(l0_1.length:Int):=od;obtain⟨ad4,e4,hx4_22,hx4_3,hx4_26,hx4_27,hx4_28⟩:=at_T69 HR0_1.1 x5_3 p4 q4;have hw4_28:=hx4_28;have hw4_27:=hx4_27;have hw4_26:=hx4_26;have hw4_3:=hx4_3;have hw4_22:=hx4_22
        cases e4;replace hx4_22:=cb HB.1 hx4_22;replace hx4_3:=cb HB.1 hx4_3;replace hx4_26:=cb HB.1 hx4_26;replace hx4_27:=cb HB.1 hx4_27;replace hx4_28:=cb HB.1 hx4_28;replace p4:=eq_true p4;replace q4:=eq_true q4;refine start_ (n:=11) (S:=fun w'=>w'.cell? ⟨gb0,0,none⟩=some (.slice Ao21 y20.length co21)∧w'.cell? ⟨gb0,1,none⟩=some (u647001)∧w'.cell? ⟨gb0,2,none⟩=some (.slice Ao13 t17.length co13)∧w'.cell? ⟨gb0,3,none⟩=some (.slice Ao12 t18.length co12)∧w'.cell? ⟨gb0,4,none⟩=some (.slice Ao11 t19.length co11)∧w'.cell? ⟨gb0,5,none⟩=some (.int .i64 a0_5)∧w'.cell? ⟨gb1,0,none⟩=some (.slice A0_0 l0_0.length c0_0)∧w'.cell? ⟨gb1,1,none⟩=some (.slice (some ad4) l0_1.length c0_1)∧w'.cell? ⟨gb1,2,none⟩=some (.slice A0_2 l0_2.length c0_2)∧w'.cell? ⟨gb1,3,none⟩=some (.slice A0_3 l0_3.length c0_3)∧w'.cell? ⟨gb1,4,none⟩=some (.slice A0_4 l0_4.length c0_4)∧w'.cell? ⟨gb1,5,none⟩=some (.int .i64 a0_5)∧w'.cell? (ad4.add ((x5_3).toNat*5))=some (.int .i64 ((rd_T69 l0_1 x5_3).f0))∧w'.cell? ⟨(ad4.add ((x5_3).toNat*5)).block,(ad4.add ((x5_3).toNat*5)).off+1,none⟩=some (.int .i64 ((rd_T69 l0_1 x5_3).f1))∧w'.cell? ⟨(ad4.add ((x5_3).toNat*5)).block,(ad4.add ((x5_3).toNat*5)).off+2,none⟩=some (.int .i64 ((rd_T69 l0_1 x5_3).f2))∧w'.cell? ⟨(ad4.add ((x5_3).toNat*5)).block,(ad4.add ((x5_3).toNat*5)).off+3,none⟩=some (.int .i64 ((rd_T69 l0_1 x5_3).f3))∧w'.cell? ⟨(ad4.add ((x5_3).toNat*5)).block,(ad4.add ((x5_3).toNat*5)).off+4,none⟩=some (.int .i64 ((rd_T69 l0_1 x5_3).f4))) (ds:=[10]) (tf 0 11) (by kernel_rfl) rfl rfl ⟨bk BK0.1 0,bk BK0.1 1,bk BK0.1 2,bk BK0.1 3,bk BK0.1 4,bk BK0.1 5,bk BK1.1 0,bk BK1.1 1,bk BK1.1 2,bk BK1.1 3,bk BK1.1 4,bk BK1.1 5,(cb HB.1 hw4_22:),(cb HB.1 hw4_3:),(cb HB.1 hw4_26:),(cb HB.1 hw4_27:),(cb HB.1 hw4_28:)⟩ (fun hHeld=>?_);refine with_tabW spec_l19Without.tab6 spec_l19Without.bits6 (fun HT_ HW_=>?_)
        generalize wr.drew=w47 at HO_35 HO_14 HO_36 HO_37 HO_38 BK1 BK2 BK0 HB hx4_22 hx4_3 hx4_26 hx4_27 hx4_28 hHeld ⊢;refine pu_ 0 35 (tf 1 10) rfl rfl ?_;refine pu_ 2 37 (tM [1,1,1,8]) rfl rfl ?_;refine pu_ 4 39 (tM [1,1,1,1,1,6]) rfl rfl ?_;refine ta17_ 1 36 (tM [3,1,1,6]) rfl rfl ?_;refine ta17_ 3 38 (tf 5 6) rfl rfl ?_;refine pu_ 5 40 (tf 6 5) rfl rfl ?_;refine ta17_ 6 41 (tf 7 4) rfl rfl ?_;refine one_ (i:=7) (N:=some 42) (tf 8 3) rfl rfl (one_of HT_.1 (by kernel_rfl)) (by decide) (fun K hK=>?_);refine value_ (w1:=?_) (v:=?_) (by rfl) rfl ?_ ?_
        rotate_left 2
        ·go_simp
         constructor
         ·rfl
         ·rfl
        refine hK.out _ _ ⟨(blk_cell (blk_alloc BK0.1 _) 0).trans rfl,(blk_cell (blk_alloc BK0.1 _) 1).trans rfl,(blk_cell (blk_alloc BK0.1 _) 2).trans rfl,(blk_cell (blk_alloc BK0.1 _) 3).trans rfl,(blk_cell (blk_alloc BK0.1 _) 4).trans rfl,(blk_cell (blk_alloc BK0.1 _) 5).trans rfl,(blk_cell (blk_alloc BK1.1 _) 0).trans rfl,(blk_cell (blk_alloc BK1.1 _) 1).trans rfl,(blk_cell (blk_alloc BK1.1 _) 2).trans rfl,(blk_cell (blk_alloc BK1.1 _) 3).trans rfl,(blk_cell (blk_alloc BK1.1 _) 4).trans rfl,(blk_cell (blk_alloc BK1.1 _) 5).trans rfl,(World.cell?_alloc_lt _ _ _ (World.block_lt_of_cell? _ _ ((cb HB.1 hw4_22:)))).trans ((cb HB.1 hw4_22:)),(World.cell?_alloc_lt _ _ _ (World.block_lt_of_cell? _ _ ((cb HB.1 hw4_3:)))).trans ((cb HB.1 hw4_3:)),(World.cell?_alloc_lt _ _ _ (World.block_lt_of_cell? _ _ ((cb HB.1 hw4_26:)))).trans ((cb HB.1 hw4_26:)),(World.cell?_alloc_lt _ _ _ (World.block_lt_of_cell? _ _ ((cb HB.1 hw4_27:)))).trans ((cb HB.1 hw4_27:)),(World.cell?_alloc_lt _ _ _ (World.block_lt_of_cell? _ _ ((cb HB.1 hw4_28:)))).trans ((cb HB.1 hw4_28:))⟩ (fun hHeld=>?_)
        clear hK K;refine norm_ (a':=?_) ?_ ?_
        rotate_left
        ·show Act.put _ (some 42) _=_
         simp only [Act.put,List.setIfInBounds_toArray,List.set_cons_zero,List.set_cons_succ,i64_w,i32_w]
         rfl
        refine one_ (i:=8) (N:=some 43) (tf 9 2) rfl rfl (one_of HT_.1 (by kernel_rfl)) (by decide) (fun K hK=>?_);refine Kd.R_append_step k69 (w0:=w) w.heap.size (by rfl) (.tmp 36) (.tmp 42) 25 69 (.agg #[(.int .i64 0),(.int .i64 0),(.int .i64 0),(.int .i64 0),(.int .i64 0)]) 40 rfl Try.underlying25 info69 rfl (by decide) (by omega) u647001 x14_3 (⟨(rd_T69 l0_1 x5_3).f0,(rd_T69 l0_1 x5_3).f1,(rd_T69 l0_1 x5_3).f2,(rd_T69 l0_1 x5_3).f3,(rd_T69 l0_1 x5_3).f4⟩:S69) [.int .i64 ((rd_T69 l0_1 x5_3).f0),.int .i64 ((rd_T69 l0_1 x5_3).f1),.int .i64 ((rd_T69 l0_1 x5_3).f2),.int .i64 ((rd_T69 l0_1 x5_3).f3),.int .i64 ((rd_T69 l0_1 x5_3).f4)] (fun _=>True) (fun _=>False) rfl rfl ?aP (fun _ hk=>hk.elim) ?aF ?aO ?aB ?aS ?aL ?_;(case aP=>exact k69_mkM _ _ _ (⟨(rd_T69 l0_1 x5_3).f0,(rd_T69 l0_1 x5_3).f1,(rd_T69 l0_1 x5_3).f2,(rd_T69 l0_1 x5_3).f3,(rd_T69 l0_1 x5_3).f4⟩:S69))
        (case aB=>exact(vb HB.1))
        (case aF=>exact(fun _ _=>trivial))
        (case aO=>exact(vr HO_14.1))
        (case aS=>exact(below_size (vb HB.1)))
        (case aL=>have:=LMc43.1;omega)
        intro v78 w48 ho hb hg hat;rw [←Ny41.1] at ho;have n0_:=ak (Kd.R_over' (vr HO_35.1) (Kd.R_typed (vr HO_14.1)) (by decide) hg);have n1_:=ak (Kd.R_over' (vr HO_36.1) (Kd.R_typed (vr HO_14.1)) (by decide) hg);have n2_:=ak (Kd.R_over' (vr HO_37.1) (Kd.R_typed (vr HO_14.1)) (by decide) hg);have n3_:=ak (Kd.R_over' (vr HO_38.1) (Kd.R_typed (vr HO_14.1)) (by decide) hg);have n4_:=ak (blk_grown (g:=gb1) (o:=.cells #[.slice A0_0 l0_0.length c0_0,.slice (some ad4) l0_1.length c0_1,.slice A0_2 l0_2.length c0_2,.slice A0_3 l0_3.length c0_3,.slice A0_4 l0_4.length c0_4,.int .i64 a0_5] 28 (0,0)) (vk BK1.1) hg (Kd.R_ne HO_14.1 BK1.1 (by decide)));have n5_:=ak (blk_grown (g:=gb2) (o:=.cells #[.slice none 0 0,.slice none 0 0,.slice none 0 0,.slice none 0 0,.slice none 0 0,.int .i64 0] 28 (0,0)) (vk BK2.1) hg (Kd.R_ne HO_14.1 BK2.1 (by decide)));have n6_:=ak (blk_grown (g:=gb0) (o:=.cells #[.slice Ao21 y20.length co21,u647001,.slice Ao13 t17.length co13,.slice Ao12 t18.length co12,.slice Ao11 t19.length co11,.int .i64 a0_5] 28 (0,0)) (vk BK0.1) hg (Kd.R_ne HO_14.1 BK0.1 (by decide)));have n7_:=ak (hb);have n8_:=ak (ho);clear HO_35;clear HO_36;clear HO_37;clear HO_38;clear BK1;clear BK2;clear BK0;clear HB;clear HO_14;have HO_35:=n0_
        have HO_36:=n1_;have HO_37:=n2_;have HO_38:=n3_;have BK1:=n4_;have BK2:=n5_;have BK0:=n6_;have HB:=n7_;have HO53:=n8_;clear n0_ n1_ n2_ n3_ n4_ n5_ n6_ n7_ n8_;clear ho hb hg hat;obtain⟨Ao34,co34,rfl⟩:=Kd.R_slice HO53.1
        refine hK.out _ _ ⟨bk BK0.1 0,bk BK0.1 1,bk BK0.1 2,bk BK0.1 3,bk BK0.1 4,bk BK0.1 5,bk BK1.1 0,bk BK1.1 1,bk BK1.1 2,bk BK1.1 3,bk BK1.1 4,bk BK1.1 5,(cb HB.1 hw4_22:),(cb HB.1 hw4_3:),(cb HB.1 hw4_26:),(cb HB.1 hw4_27:),(cb HB.1 hw4_28:)⟩ (fun hHeld=>?_);clear hK K;refine norm_ (a':=?_) ?_ ?_
        rotate_left
        ·show Act.put _ (some 43) _=_
         simp only [Act.put,List.setIfInBounds_toArray,List.set_cons_zero,List.set_cons_succ,i64_w,i32_w]
         rfl
        refine pu_ 9 44 (tf 10 1) rfl rfl ?_;refine last_ (i:=10) (N:=none) (tf 11 0) rfl rfl (one_of HT_.1 (by kernel_rfl)) (by decide) (fun K hK=>?_);have hs50:w48.cell? ⟨gb0,1,none⟩=some (u647001):=bk BK0.1 1;have hfs50:=blk_frozen BK0.1 1;have:=NB1_0.1;have:=NB2_0.1;have:=NB0_1.1;have:=NB0_2.1;refine skip_ (w1:=?_) (by rfl) rfl ?_ ?_
        rotate_left
        ·go_simp
         rfl
        refine hK.out _ _ ?_;clear hK K;refine done_ (done_of HT_.1 (by kernel_rfl)) ?_;(try go_wp2)
        go_roundg k1
        case measure=>have:=HK1.1;omega
        case rel=>exact⟨(wrap64 (x5_3+1)),(y41),(.slice Ao34 y41.length co34),es,H',⟨by have:=HK1.1;omega⟩,⟨tQ1 HO_35 BK0⟩,⟨tQ1 HO53 BK0⟩,⟨sQ1 HO_36 BK0⟩,⟨sQ1 HO_37 BK0⟩,⟨sQ1 HO_38 BK0⟩,⟨by(with_reducible repeat (first|refine blk_drewN ?_ _|refine blk_drew ?_|refine blk_alloc ?_ _));refine blk_far ?_ NB1_0.1 _;exact vk BK1.1⟩,⟨by(with_reducible repeat (first|refine blk_drewN ?_ _|refine blk_drew ?_|refine blk_alloc ?_ _));refine blk_far ?_ NB2_0.1 _;exact vk BK2.1⟩,⟨by(with_reducible repeat (first|refine blk_drewN ?_ _|refine blk_drew ?_|refine blk_alloc ?_ _));refine blk_put (cs:=#[.slice Ao21 y20.length co21,u647001,.slice Ao13 t17.length co13,.slice Ao12 t18.length co12,.slice Ao11 t19.length co11,.int .i64 a0_5]) ?_ 1 _ rfl;exact vk BK0.1⟩,⟨vb HB.1⟩⟩
       ·exact nO_ c43 H
      ·exact nO_ c42 H
    ·rw [if_neg c36] at H;have c36b0:=decide_eq_false c36;clear c36;simp only [Option.some.injEq,Prod.mk.injEq] at H
     obtain⟨rfl,rfl,rfl,rfl,rfl,rfl⟩:=H;have:=NB1_2.1;have:=NB2_1.1;have:=NB1_0.1;have:=NB0_1.1;have hcz75:=cz6 BK1.1;have:=NB0_2.1;have:=NB2_0.1;have hcz76:=cz6 BK0.1;have hcz77:=cz6 BK2.1;obtain⟨Ao40,co40,rfl⟩:=Kd.R_slice HO_14.1;go_wp2
     refine bodyPost_ret (results_cell_row rfl _ _ gb2 28 (f5 Ao21 y20 co21 Ao40 x14_3 co40 Ao13 t17 co13 Ao12 t18 co12 Ao11 t19 co11 a0_5) (0,0) _ rfl (vz BK2.1) Try.underlying28 rfl (by kernel_rfl)) rfl ?_;exact⟨_,_,_,_,_,ew,tQ6 HO_35 BK2,tQ6 HO_14 BK2,sQ6 HO_36 BK2,sQ6 HO_37 BK2,sQ6 HO_38 BK2,vb HB.1⟩
 ·exact nO_ c3 H
def spec_l18Square.f (l0_0:List (S91)) (l0_1:List (S69)) (l0_2:List Int) (l0_3:List Int) (l0_4:List Int) (a0_5:Int) (a1:Int) (a2:Int):Option (Int):=if 0≤a1 then (if a1<(l0_3.length:Int) then (if 0≤a2 then (if a2<(l0_3.length:Int) then (if a1<(l0_4.length:Int) then (if a2<(l0_4.length:Int) then (some (wrap64 ((wrap64 ((wrap64 ((rd l0_3 a1)-(rd l0_3 a2)))*(wrap64 ((rd l0_3 a1)-(rd l0_3 a2)))))+(wrap64 ((wrap64 ((rd l0_4 a1)-(rd l0_4 a2)))*(wrap64 ((rd l0_4 a1)-(rd l0_4 a2)))))))) else (none)) else (none)) else (none)) else (none)) else (none)) else (none)
theorem spec_l18Square.calls (A0_0:Option Addr) (c0_0:Nat) (l0_0:List (S91)) (A0_1:Option Addr) (c0_1:Nat) (l0_1:List (S69)) (A0_2:Option Addr) (c0_2:Nat) (l0_2:List Int) (A0_3:Option Addr) (c0_3:Nat) (l0_3:List Int) (A0_4:Option Addr) (c0_4:Nat) (l0_4:List Int) (a0_5:Int) (a1:Int) (a2:Int) (r:Int) (w:World) (hr0_0:Kd.C k91 w A0_0 l0_0.length l0_0) (hc0_0:l0_0.length≤c0_0) (hr0_1:Kd.C k69 w A0_1 l0_1.length l0_1) (hc0_1:l0_1.length≤c0_1) (hr0_2:Kd.C (Kd.int .i64) w A0_2 l0_2.length l0_2) (hc0_2:l0_2.length≤c0_2) (hr0_3:Kd.C (Kd.int .i64) w A0_3 l0_3.length l0_3) (hc0_3:l0_3.length≤c0_3) (hr0_4:Kd.C (Kd.int .i64) w A0_4 l0_4.length l0_4) (hc0_4:l0_4.length≤c0_4) (h:spec_l18Square.f l0_0 l0_1 l0_2 l0_3 l0_4 a0_5 a1 a2=some r):
  Calls Try.prog 116 #[.agg (f5 A0_0 l0_0 c0_0 A0_1 l0_1 c0_1 A0_2 l0_2 c0_2 A0_3 l0_3 c0_3 A0_4 l0_4 c0_4 a0_5),.int .i64 a1,.int .i64 a2] w fun e w'=>e=.returned (.int .i64 r)∧Below w.heap.size w w':=by
 have hu28:=Try.underlying28;have HR0_0:=ak hr0_0;have HC0_0:=ak hc0_0;clear hr0_0 hc0_0;have HR0_1:=ak hr0_1;have HC0_1:=ak hc0_1;clear hr0_1 hc0_1;have HR0_2:=ak hr0_2;have HC0_2:=ak hc0_2;clear hr0_2 hc0_2;have HR0_3:=ak hr0_3;have HC0_3:=ak hc0_3;clear hr0_3 hc0_3;have HR0_4:=ak hr0_4;have HC0_4:=ak hc0_4;clear hr0_4 hc0_4;have HB:=ak (Below.refl w.heap.size w);unfold spec_l18Square.f at h;have H:=h;clear h;by_cases c4:0≤a1
 ·rw [if_pos c4] at H;have c4b0:=decide_eq_true c4;clear c4;by_cases c5:a1<(l0_3.length:Int)
  ·rw [if_pos c5] at H;have c5b0:=decide_eq_true c5;clear c5;by_cases c6:0≤a2
   ·rw [if_pos c6] at H;have c6b0:=decide_eq_true c6;clear c6;by_cases c7:a2<(l0_3.length:Int)
    ·rw [if_pos c7] at H;have c7b0:=decide_eq_true c7;clear c7;by_cases c8:a1<(l0_4.length:Int)
     ·rw [if_pos c8] at H;have c8b0:=decide_eq_true c8;clear c8;by_cases c9:a2<(l0_4.length:Int)
      ·rw [if_pos c9] at H;have c9b0:=decide_eq_true c9;clear c9;obtain rfl:=sj H;go_enter Try.func116,Try.ntmps116;go_wp2_with (first|((with_reducible refine gate_dst (N:=3) rfl ?_);refine bx 3 (f5 A0_0 l0_0 c0_0 A0_1 l0_1 c0_1 A0_2 l0_2 c0_2 A0_3 l0_3 c0_3 A0_4 l0_4 c0_4 a0_5) 28 ?_;intro gb5 hg w10 hbox hb;have BK5:=ak hbox;have GW652:=gw hg HB;have GE5:=gw hg HB;replace HB:=bs HB hb;clear hb hbox hg;have hcz6:=cz6 BK5.1;have p0:0≤(a1:Int):=od;have q0:a1<(l0_3.length:Int):=od;obtain⟨ad0,e0,hx0_4⟩:=Kd.at_int HR0_3.1 a1 p0 q0;cases e0;replace hx0_4:=cb HB.1 hx0_4;replace p0:=eq_true p0;replace q0:=eq_true q0;have p1:0≤(a2:Int):=od;have q1:a2<(l0_3.length:Int):=od;obtain⟨ad1,e1,hx1_4⟩:=Kd.at_int HR0_3.1 a2 p1 q1;obtain rfl:ad0=ad1:=(by injection e1);replace hx1_4:=cb HB.1 hx1_4;replace p1:=eq_true p1;replace q1:=eq_true q1;have p2:0≤(a1:Int):=od;have q2:a1<(l0_4.length:Int):=od;obtain⟨ad2,e2,hx2_4⟩:=Kd.at_int HR0_4.1 a1 p2 q2;cases e2;replace hx2_4:=cb HB.1 hx2_4;replace p2:=eq_true p2;replace q2:=eq_true q2;have p3:0≤(a2:Int):=od;have q3:a2<(l0_4.length:Int):=od;obtain⟨ad3,e3,hx3_4⟩:=Kd.at_int HR0_4.1 a2 p3 q3;obtain rfl:ad2=ad3:=(by injection e3);replace hx3_4:=cb HB.1 hx3_4;replace p3:=eq_true p3;replace q3:=eq_true q3))
       repeat (go_quiet (first|((with_reducible refine gate_dst (N:=3) rfl ?_);refine bx 3 (f5 A0_0 l0_0 c0_0 A0_1 l0_1 c0_1 A0_2 l0_2 c0_2 A0_3 l0_3 c0_3 A0_4 l0_4 c0_4 a0_5) 28 ?_;intro gb5 hg w10 hbox hb;have BK5:=ak hbox;have GW652:=gw hg HB;have GE5:=gw hg HB;replace HB:=bs HB hb;clear hb hbox hg;have hcz6:=cz6 BK5.1;have p0:0≤(a1:Int):=od;have q0:a1<(l0_3.length:Int):=od;obtain⟨ad0,e0,hx0_4⟩:=Kd.at_int HR0_3.1 a1 p0 q0;cases e0;replace hx0_4:=cb HB.1 hx0_4;replace p0:=eq_true p0;replace q0:=eq_true q0;have p1:0≤(a2:Int):=od;have q1:a2<(l0_3.length:Int):=od;obtain⟨ad1,e1,hx1_4⟩:=Kd.at_int HR0_3.1 a2 p1 q1;obtain rfl:ad0=ad1:=(by injection e1);replace hx1_4:=cb HB.1 hx1_4;replace p1:=eq_true p1;replace q1:=eq_true q1;have p2:0≤(a1:Int):=od;have q2:a1<(l0_4.length:Int):=od;obtain⟨ad2,e2,hx2_4⟩:=Kd.at_int HR0_4.1 a1 p2 q2;cases e2;replace hx2_4:=cb HB.1 hx2_4;replace p2:=eq_true p2;replace q2:=eq_true q2;have p3:0≤(a2:Int):=od;have q3:a2<(l0_4.length:Int):=od;obtain⟨ad3,e3,hx3_4⟩:=Kd.at_int HR0_4.1 a2 p3 q3;obtain rfl:ad2=ad3:=(by injection e3);replace hx3_4:=cb HB.1 hx3_4;replace p3:=eq_true p3;replace q3:=eq_true q3));try go_wp2_with (first|((with_reducible refine gate_dst (N:=3) rfl ?_);refine bx 3 (f5 A0_0 l0_0 c0_0 A0_1 l0_1 c0_1 A0_2 l0_2 c0_2 A0_3 l0_3 c0_3 A0_4 l0_4 c0_4 a0_5) 28 ?_;intro gb5 hg w10 hbox hb;have BK5:=ak hbox;have GW652:=gw hg HB;have GE5:=gw hg HB;replace HB:=bs HB hb;clear hb hbox hg;have hcz6:=cz6 BK5.1;have p0:0≤(a1:Int):=od;have q0:a1<(l0_3.length:Int):=od;obtain⟨ad0,e0,hx0_4⟩:=Kd.at_int HR0_3.1 a1 p0 q0;cases e0;replace hx0_4:=cb HB.1 hx0_4;replace p0:=eq_true p0;replace q0:=eq_true q0;have p1:0≤(a2:Int):=od;have q1:a2<(l0_3.length:Int):=od;obtain⟨ad1,e1,hx1_4⟩:=Kd.at_int HR0_3.1 a2 p1 q1;obtain rfl:ad0=ad1:=(by injection e1);replace hx1_4:=cb HB.1 hx1_4;replace p1:=eq_true p1;replace q1:=eq_true q1;have p2:0≤(a1:Int):=od;have q2:a1<(l0_4.length:Int):=od;obtain⟨ad2,e2,hx2_4⟩:=Kd.at_int HR0_4.1 a1 p2 q2;cases e2;replace hx2_4:=cb HB.1 hx2_4;replace p2:=eq_true p2;replace q2:=eq_true q2;have p3:0≤(a2:Int):=od;have q3:a2<(l0_4.length:Int):=od;obtain⟨ad3,e3,hx3_4⟩:=Kd.at_int HR0_4.1 a2 p3 q3;obtain rfl:ad2=ad3:=(by injection e3);replace hx3_4:=cb HB.1 hx3_4;replace p3:=eq_true p3;replace q3:=eq_true q3)))
       go_ret
       exact⟨ew,vb HB.1⟩
      ·exact nO_ c9 H
     ·exact nO_ c8 H
    ·exact nO_ c7 H
   ·exact nO_ c6 H
  ·exact nO_ c5 H
 ·exact nO_ c4 H
mutual
def spec_l18All.l0:Nat→List (List Int)→List Int→List (List Int)→List Int→Int→List (S91)→List (S69)→List Int→List Int→List Int→Int→Option ((List (List Int)))
 |0,_,_,_,_,_,_,_,_,_,_,_=>none
 |k+1,x3,x1,x2,x16,x4,x29,x30,x31,x32,x33,x23=>if x4<(x16.length:Int) then (if 0≤x4 then ((spec_l01Has.f k x1 (rd x16 x4)).bind fun t40=>(spec_l18All.l1 k x3 x1 x2 x16 x4 (!t40) 0 x29 x30 x31 x32 x33 x23)) else (none)) else (some x2)
def spec_l18All.l1:Nat→List (List Int)→List Int→List (List Int)→List Int→Int→Bool→Int→List (S91)→List (S69)→List Int→List Int→List Int→Int→Option ((List (List Int)))
 |0,_,_,_,_,_,_,_,_,_,_,_,_,_=>none
 |k+1,x3,x1,x2,x16,x4,x18,x7,x29,x30,x31,x32,x33,x23=>if x7<(x1.length:Int) then (if x18=true then (if 0≤x7 then (if 0≤x4 then (if x4<(x16.length:Int) then ((spec_l18Square.f x29 x30 x31 x32 x33 x23 (rd x1 x7) (rd x16 x4)).bind fun t41=>(spec_l18All.l1 k x3 x1 x2 x16 x4 (decide (t41≥(wrap64 (x23*x23)))) (wrap64 (x7+1)) x29 x30 x31 x32 x33 x23)) else (none)) else (none)) else (none)) else (spec_l18All.l1 k x3 x1 x2 x16 x4 false (wrap64 (x7+1)) x29 x30 x31 x32 x33 x23)) else (if x18=true then ((spec_l01Own.f x1).bind fun t20=>(if 0≤x4 then (if x4<(x16.length:Int) then ((some (([rd x16 x4]:List Int):List Int)).bind fun y9=>(if t20.length+y9.length<17592186044416 then ((spec_l18All.f k x29 x30 x31 x32 x33 x23 x3 (t20++y9)).bind fun t28=>(if x2.length+t28.length<5864062014805 then (spec_l18All.l0 k x3 x1 (x2++t28) x16 (wrap64 (x4+1)) x29 x30 x31 x32 x33 x23) else (none))) else (none))) else (none)) else (none))) else (spec_l18All.l0 k x3 x1 x2 x16 (wrap64 (x4+1)) x29 x30 x31 x32 x33 x23))
def spec_l18All.f:Nat→List (S91)→List (S69)→List Int→List Int→List Int→Int→List (List Int)→List Int→Option ((List (List Int)))
 |0,_,_,_,_,_,_,_,_=>none
 |k+1,l0_0,l0_1,l0_2,l0_3,l0_4,a0_5,l1,l2=>if (l2.length:Int)=(l1.length:Int) then (some (([l2]:List (List Int)))) else (if 0≤(l2.length:Int) then (if (l2.length:Int)<(l1.length:Int) then (spec_l18All.l0 k l1 l2 (([]:List (List Int))) (rd_L4 l1 (l2.length:Int)) 0 l0_0 l0_1 l0_2 l0_3 l0_4 a0_5) else (none)) else (none))
end
def spec_l18All.T12:Bool×List (List Nat×List Nat):=(true,[([],[]),([0],[0]),([1],[1]),([1],[1]),([1],[1]),([3,4,1],[1,3,4]),([5,1],[1,5]),([1],[1]),([1],[1]),([7,8,1],[1,7,8]),([9,1],[1,9]),([2,6,10,1,1],[1,2,6,10]),([1],[1]),([12,1],[1,12]),([1],[1]),([14,1],[1,14]),([13,15,1],[1,13,15]),([11,16,1],[1,11,16]),([1,17],[1,17]),([18,11,0,1,2,3,4,5,6,7,8,9,10,11,12,13,14,15,16,17,18],[0,18])])
def spec_l18All.B12:List Nat:=[0,1,3,3,3,27,59,3,3,387,899,2047,3,4099,3,16387,61443,131071,262143,524287]
theorem spec_l18All.tab12:rtab .any (opsOf Try.f102 12)=spec_l18All.T12:=by kernel_rfl
theorem spec_l18All.bits12:waitsOk spec_l18All.T12.2 spec_l18All.B12=true:=by kernel_rfl
def spec_l18All.T14:Bool×List (List Nat×List Nat):=(true,[([],[]),([],[]),([],[]),([],[]),([3],[3]),([],[]),([],[]),([5,6],[5,6]),([7],[7]),([8],[8]),([4,9,4],[4,9]),([1,2,10,10],[1,2,10]),([0,11,11],[0,11]),([12,12,0,1,2,3,4,5,6,7,8,9,10,11,12],[0,12])])
def spec_l18All.B14:List Nat:=[0,0,0,0,8,0,0,96,224,480,1016,2046,4095,8191]
theorem spec_l18All.tab14:rtab .any (opsOf Try.f102 14)=spec_l18All.T14:=by kernel_rfl
theorem spec_l18All.bits14:waitsOk spec_l18All.T14.2 spec_l18All.B14=true:=by kernel_rfl
theorem spec_l18All.calls (k:Nat):∀(A0_0:Option Addr) (c0_0:Nat) (l0_0:List (S91)) (A0_1:Option Addr) (c0_1:Nat) (l0_1:List (S69)) (A0_2:Option Addr) (c0_2:Nat) (l0_2:List Int) (A0_3:Option Addr) (c0_3:Nat) (l0_3:List Int) (A0_4:Option Addr) (c0_4:Nat) (l0_4:List Int) (a0_5:Int) (A1:Option Addr) (c1:Nat) (l1:List (List Int)) (P2_:Nat→Prop) (A2:Option Addr) (c2:Nat) (l2:List Int) (r:List (List Int)) (w:World) (hr0_0:Kd.C k91 w A0_0 l0_0.length l0_0) (hc0_0:l0_0.length≤c0_0) (hr0_1:Kd.C k69 w A0_1 l0_1.length l0_1) (hc0_1:l0_1.length≤c0_1) (hr0_2:Kd.C (Kd.int .i64) w A0_2 l0_2.length l0_2) (hc0_2:l0_2.length≤c0_2) (hr0_3:Kd.C (Kd.int .i64) w A0_3 l0_3.length l0_3) (hc0_3:l0_3.length≤c0_3) (hr0_4:Kd.C (Kd.int .i64) w A0_4 l0_4.length l0_4) (hc0_4:l0_4.length≤c0_4) (hr1:Kd.C (Kd.slice 2 (Kd.int .i64)) w A1 l1.length l1) (hc1:l1.length≤c1) (hs2:Kd.V (Kd.int .i64) 2 w w.heap.size (fun k_=>P2_ k_) (.slice A2 l2.length c2) l2) (h:spec_l18All.f k l0_0 l0_1 l0_2 l0_3 l0_4 a0_5 l1 l2=some r),
  Calls Try.prog 102 #[.agg (f5 A0_0 l0_0 c0_0 A0_1 l0_1 c0_1 A0_2 l0_2 c0_2 A0_3 l0_3 c0_3 A0_4 l0_4 c0_4 a0_5),.slice A1 l1.length c1,.slice A2 l2.length c2] w fun e w'=>∃v0_:Value,e=.returned (v0_)∧Kd.N (Kd.slice 2 (Kd.int .i64)) 26 w' w.heap.size (fun k_=>(P2_ k_∨w.heap.size≤k_)) v0_ r∧Below w.heap.size w w':=by
 induction k using Nat.strongRecOn with
 |_ k ih=>
 intro A0_0 c0_0 l0_0 A0_1 c0_1 l0_1 A0_2 c0_2 l0_2 A0_3 c0_3 l0_3 A0_4 c0_4 l0_4 a0_5 A1 c1 l1 P2_ A2 c2 l2 r w hr0_0 hc0_0 hr0_1 hc0_1 hr0_2 hc0_2 hr0_3 hc0_3 hr0_4 hc0_4 hr1 hc1 hs2 h
 cases k with
 |zero=>exact absurd h (by simp [spec_l18All.f])
 |succ k=>
 simp only [spec_l18All.f] at h
 have hu28:=Try.underlying28;have HR0_0:=ak hr0_0;have HC0_0:=ak hc0_0;clear hr0_0 hc0_0;have HR0_1:=ak hr0_1;have HC0_1:=ak hc0_1;clear hr0_1 hc0_1;have HR0_2:=ak hr0_2;have HC0_2:=ak hc0_2;clear hr0_2 hc0_2;have HR0_3:=ak hr0_3;have HC0_3:=ak hc0_3;clear hr0_3 hc0_3;have HR0_4:=ak hr0_4;have HC0_4:=ak hc0_4;clear hr0_4 hc0_4;have HR1:=ak hr1;have HC1:=ak hc1;clear hr1 hc1;have HO1:=ak (show Kd.V (Kd.int .i64) 2 w w.heap.size (fun k_=>(P2_ k_∨w.heap.size≤k_)) (.slice A2 l2.length c2) l2 from Kd.V_mono hs2 (fun k_ hk=>.inl hk));have HB:=ak (Below.refl w.heap.size w);have H:=h;clear h;by_cases c4:(l2.length:Int)=(l1.length:Int)
 ·rw [if_pos c4] at H;obtain⟨c4b0,c4b1⟩:=bqt c4;have c4b2:(l2.length==l1.length)=true:=by first|simpa using c4|(simp at c4 ⊢;omega)
  clear c4;obtain⟨y35,hy35⟩:=gen_ (([l2]:List (List Int)));rw [←hy35] at H;have Ny35:=ak hy35;clear hy35;obtain rfl:=sj H;go_enter Try.func102,Try.ntmps102;go_wp2_with (first|((with_reducible refine gate_dst (N:=3) rfl ?_);refine bx 3 (f5 A0_0 l0_0 c0_0 A0_1 l0_1 c0_1 A0_2 l0_2 c0_2 A0_3 l0_3 c0_3 A0_4 l0_4 c0_4 a0_5) 28 ?_;intro gb0 hg w5 hbox hb;replace HO1:=ak (Kd.V_below (Kd.V_elderB (vV HO1.1) gb0 (Nat.le_of_eq hg.symm)) hb);have BK0:=ak hbox;have GW657:=gw hg HB;have GE0:=gw hg HB;replace HB:=bs HB hb;clear hb hbox hg)|((with_reducible refine gate_dst (N:=18) rfl ?_);refine Kd.N_lit (Kd.slice 2 (Kd.int .i64)) _ 26 ?hg (N':=18) ?hd (xs:=([l2]:List (List Int))) (inner:=[.slice A2 l2.length c2]) (ok:=(fun k_=>(P2_ k_∨w.heap.size≤k_)∧k_≠gb0)) (okp:=(fun k_=>(P2_ k_∨w.heap.size≤k_)∧k_≠gb0)) ?hr ?hp (fun _ hk=>hk) ((show ∀k_,w5.heap.size≤k_→(fun k_=>(P2_ k_∨w.heap.size≤k_)∧k_≠gb0) k_ from fun k_ hk=>⟨(.inr (Nat.le_trans (below_size (vb HB.1)) hk)),Kd.freshB (g:=gb0) (o:=.cells (f5 A0_0 l0_0 c0_0 A0_1 l0_1 c0_1 A0_2 l0_2 c0_2 A0_3 l0_3 c0_3 A0_4 l0_4 c0_4 a0_5) 28 (0,0)) (vk BK0.1) k_ hk⟩) _ (Nat.le_refl _)) (Below.refl _ _) (Nat.le_refl _) (by simp) ?_;(case hd=>rfl);(case hg=>rfl);(case hr=>first|(go_simp;done)|(go_simp;rfl));(case hp=>exact(Reps.one (show Kd.FK (Kd.slice 2 (Kd.int .i64)) _ _ l2 [.slice A2 l2.length c2] from(Kd.FK_slice_mk (Kd.V_reads' (Kd.V_mono (ok':=(fun k_=>(P2_ k_∨w.heap.size≤k_)∧k_≠gb0)) (HO1.1) (fun k_ hk=>⟨hk.1,hk.2⟩))).2.1 (Kd.V_F (Kd.V_mono (ok':=(fun k_=>(P2_ k_∨w.heap.size≤k_)∧k_≠gb0)) (HO1.1) (fun k_ hk=>⟨hk.1,hk.2⟩))))) (Reps.none _ _)));intro v45 w6 ho2 hb hg_ hnew_;clear hg_ hnew_;(first|rw [←Ny35.1] at ho2|(simp only [Int.reduceToNat] at ho2;rw [←Ny35.1] at ho2));replace HO1:=ak (Kd.V_elder' (vV HO1.1) (Kd.N_base ho2) hb);have HO42:=ak (Kd.N_lower ho2 (below_size (vb HB.1)));replace BK0:=kb BK0 hb;replace HB:=bs HB hb;clear hb ho2))
  go_ret
  exact⟨_,ew,vN (Kd.N_mono HO42.1 (fun _ hk=>hk.1)),vb HB.1⟩
 ·rw [if_neg c4] at H;obtain⟨c4b0,c4b1⟩:=bqf c4;have c4b2:(l2.length==l1.length)=false:=by first|simpa using c4|(simp at c4 ⊢;omega)
  obtain⟨y26,hy26⟩:=gen_ (([]:List (List Int)));rw [←hy26] at H;have Ny26:=ak hy26;clear hy26;by_cases c8:0≤(l2.length:Int)
  ·rw [if_pos c8] at H;have c8b0:=decide_eq_true c8;have c8b1:decide (0≤l2.length)=true:=decide_eq_true (by omega);clear c8;by_cases c9:(l2.length:Int)<(l1.length:Int)
   ·rw [if_pos c9] at H;have c9b0:=decide_eq_true c9;have c9b1:decide (l2.length<l1.length)=true:=decide_eq_true (Int.ofNat_lt.mp c9);clear c9;have H':=ak H;clear H;go_enter Try.func102,Try.ntmps102;go_wp2_with (first|((with_reducible refine gate_dst (N:=3) rfl ?_);refine bx 3 (f5 A0_0 l0_0 c0_0 A0_1 l0_1 c0_1 A0_2 l0_2 c0_2 A0_3 l0_3 c0_3 A0_4 l0_4 c0_4 a0_5) 28 ?_;intro gb0 hg w10 hbox hb;replace HO1:=ak (Kd.V_below (Kd.V_elderB (vV HO1.1) gb0 (Nat.le_of_eq hg.symm)) hb);have BK0:=ak hbox;have GW657:=gw hg HB;have GE0:=gw hg HB;replace HB:=bs HB hb;clear hb hbox hg)|((with_reducible refine gate_dst (N:=19) rfl ?_);refine Kd.N_lit (Kd.slice 2 (Kd.int .i64)) _ 26 ?hg (N':=19) ?hd (xs:=([]:List (List Int))) (inner:=[]) (ok:=(fun k_=>(P2_ k_∨w.heap.size≤k_)∧k_≠gb0)) (okp:=(fun k_=>(P2_ k_∨w.heap.size≤k_)∧k_≠gb0)) ?hr ?hp (fun _ hk=>hk) ((show ∀k_,w10.heap.size≤k_→(fun k_=>(P2_ k_∨w.heap.size≤k_)∧k_≠gb0) k_ from fun k_ hk=>⟨(.inr (Nat.le_trans (below_size (vb HB.1)) hk)),Kd.freshB (g:=gb0) (o:=.cells (f5 A0_0 l0_0 c0_0 A0_1 l0_1 c0_1 A0_2 l0_2 c0_2 A0_3 l0_3 c0_3 A0_4 l0_4 c0_4 a0_5) 28 (0,0)) (vk BK0.1) k_ hk⟩) _ (Nat.le_refl _)) (Below.refl _ _) (Nat.le_refl _) (by simp) ?_;(case hd=>rfl);(case hg=>rfl);(case hr=>first|(go_simp;done)|(go_simp;rfl));(case hp=>exact(Reps.none _ _));intro v46 w11 ho37 hb hg_ hnew_;clear hg_ hnew_;(first|rw [←Ny26.1] at ho37|(simp only [Int.reduceToNat] at ho37;rw [←Ny26.1] at ho37));replace HO1:=ak (Kd.V_elder' (vV HO1.1) (Kd.N_base ho37) hb);have HO43:=ak (Kd.N_lower ho37 (below_size (vb HB.1)));replace BK0:=kb BK0 hb;replace HB:=bs HB hb;clear hb ho37;have p14:0≤((l2.length:Int):Int):=od;have q14:(l2.length:Int)<(l1.length:Int):=od;obtain⟨ad14,A664_0,c664_0,e14,hx14_5,hl664_0,hi664_0⟩:=at_L4 HR1.1 (l2.length:Int) p14 q14;cases e14;replace hx14_5:=cb HB.1 hx14_5;have HR664_0:=ak hi664_0;have HC664_0:=ak hl664_0;clear hi664_0 hl664_0;(try simp only [Go.IntWalk.toNatUp] at hx14_5);replace p14:=eq_true p14;replace q14:=eq_true q14))
    go_loopg [7,9] k (fun kq v2 v4 w'=>∃(x2_3:List (List Int)) (x4_3:Int),v4=.int .i64 x4_3∧Aside0 (spec_l18All.l0 kq l1 l2 x2_3 (rd_L4 l1 (l2.length:Int)) x4_3 l0_0 l0_1 l0_2 l0_3 l0_4 a0_5=some r)∧Aside0 (kq≤k)∧Aside0 (Kd.V (Kd.int .i64) 2 w' w.heap.size (fun k_=>(P2_ k_∨w.heap.size≤k_)∧some k_≠(v2:Value).ownBlock∧k_≠gb0) (.slice A2 l2.length c2) l2)∧Aside0 (Kd.N (Kd.slice 2 (Kd.int .i64)) 26 w' w.heap.size (fun k_=>(P2_ k_∨w.heap.size≤k_)∧k_≠gb0) v2 x2_3)∧Aside0 (w'.heap[gb0]? =some (.cells (f5 A0_0 l0_0 c0_0 A0_1 l0_1 c0_1 A0_2 l0_2 c0_2 A0_3 l0_3 c0_3 A0_4 l0_4 c0_4 a0_5) 28 (0,0)))∧Aside0 (Below w.heap.size w w'))
    case atStart=>exact⟨(y26),(0),es,H',⟨Nat.le_refl _⟩,⟨by(with_reducible repeat (first|apply Kd.V_alloc|apply Kd.V_drewN|apply Kd.V_drew));exact Kd.V_mono HO1.1 (fun _ hk=>⟨hk.1.1,⟨hk.2,hk.1.2⟩⟩)⟩,⟨vN HO43.1⟩,⟨vk BK0.1⟩,⟨vb HB.1⟩⟩
    case round=>
     clear H';obtain⟨x2_3,x4_3,rfl,HA,HK1,HO_1,HO_2,BK0,HB⟩:=hrel
     cases gk with
     |zero=>exact absurd HA.1 (by simp [spec_l18All.l0])
     |succ k1=>
      have H:=HA.1;clear HA;simp only [spec_l18All.l0] at H
      by_cases c13:x4_3<((rd_L4 l1 (l2.length:Int)).length:Int)
      ·rw [if_pos c13] at H;have c13b0:=decide_eq_true c13;clear c13;by_cases c14:0≤x4_3
       ·rw [if_pos c14] at H;have c14b0:=decide_eq_true c14;clear c14;obtain⟨t40,A15,H⟩:=bnk H;have H':=ak H;clear H;have p12:0≤(x4_3:Int):=od;have q12:x4_3<((rd_L4 l1 (l2.length:Int)).length:Int):=od;obtain⟨ad12,e12,hx12_5⟩:=Kd.at_int HR664_0.1 x4_3 p12 q12
        cases e12;replace hx12_5:=cb HB.1 hx12_5;replace p12:=eq_true p12;replace q12:=eq_true q12;go_wp2_with (first|((with_reducible refine at_fn (f:=62) rfl ?_);refine gl (some 36) Try.func62 #[.slice A2 l2.length c2,.int .i64 (rd (rd_L4 l1 (l2.length:Int)) x4_3)] ?_;(with_reducible refine(spec_l01Has.calls k1 _ _ l2 (rd (rd_L4 l1 (l2.length:Int)) x4_3) t40 _ ?_ ?_ A15.1).mono ?_);exact vc (Kd.V_reads' HO_1.1).2.2;exact(Kd.V_reads' HO_1.1).2.1;rintro e w' ⟨rfl,⟨nd,rfl⟩⟩;refine⟨_,rfl,?_⟩))
        go_loopg [10,11] k1 (fun kq v18 v7 w'=>∃(x18_1:Bool) (x7_1:Int),v18=.bool x18_1∧v7=.int .i64 x7_1∧Aside0 (spec_l18All.l1 kq l1 l2 x2_3 (rd_L4 l1 (l2.length:Int)) x4_3 x18_1 x7_1 l0_0 l0_1 l0_2 l0_3 l0_4 a0_5=some r)∧Aside0 (kq≤k1)∧Aside0 (Kd.V (Kd.int .i64) 2 w' w.heap.size (fun k_=>(P2_ k_∨w.heap.size≤k_)∧some k_≠(u7:Value).ownBlock∧k_≠gb0) (.slice A2 l2.length c2) l2)∧Aside0 (Kd.N (Kd.slice 2 (Kd.int .i64)) 26 w' w.heap.size (fun k_=>(P2_ k_∨w.heap.size≤k_)∧k_≠gb0) u7 x2_3)∧Aside0 (w'.heap[gb0]? =some (.cells (f5 A0_0 l0_0 c0_0 A0_1 l0_1 c0_1 A0_2 l0_2 c0_2 A0_3 l0_3 c0_3 A0_4 l0_4 c0_4 a0_5) 28 (0,0)))∧Aside0 (Below w.heap.size w w'))
        case atStart=>exact⟨(!t40),(0),es,es,H',⟨Nat.le_refl _⟩,⟨vV HO_1.1⟩,⟨vN HO_2.1⟩,⟨vk BK0.1⟩,⟨vb HB.1⟩⟩
        case round=>
         clear H';obtain⟨x18_1,x7_1,rfl,rfl,HA,HK2,HO_1,HO_2,BK0,HB⟩:=hrel
         cases gk with
         |zero=>exact absurd HA.1 (by simp [spec_l18All.l1])
         |succ k2=>
          have H:=HA.1;clear HA;simp only [spec_l18All.l1] at H
          by_cases c16:x7_1<(l2.length:Int)
          ·rw [if_pos c16] at H;have c16b0:=decide_eq_true c16;clear c16;by_cases c17:x18_1=true
           ·subst c17;rw [if_pos rfl] at H;by_cases c18:0≤x7_1
            ·rw [if_pos c18] at H;have c18b0:=decide_eq_true c18;clear c18;by_cases c19:0≤x4_3
             ·rw [if_pos c19] at H;have c19b0:=decide_eq_true c19;clear c19;by_cases c20:x4_3<((rd_L4 l1 (l2.length:Int)).length:Int)
              ·rw [if_pos c20] at H;have c20b0:=decide_eq_true c20;clear c20;obtain⟨t41,A21,H⟩:=bnk H;have H':=ak H;clear H;(try go_wp2)
               replace HO_1:=ak (Kd.V_drew HO_1.1);replace HO_2:=ak (Kd.N_drew HO_2.1);replace BK0:=ak (blk_drew BK0.1);replace HB:=ak (below_drew1 HB.1);have p15:0≤(x7_1:Int):=od;have q15:x7_1<(l2.length:Int):=od;obtain⟨ad15,e15,hx15_5⟩:=Kd.at_int (Kd.V_reads' HO_1.1).2.2 x7_1 p15 q15
               cases e15;replace p15:=eq_true p15;replace q15:=eq_true q15;have p13:0≤(x4_3:Int):=od;have q13:x4_3<((rd_L4 l1 (l2.length:Int)).length:Int):=od;obtain⟨ad13,e13,hx13_5⟩:=Kd.at_int HR664_0.1 x4_3 p13 q13;have hw13_5:=hx13_5;obtain rfl:ad12=ad13:=(by injection e13);replace hx13_5:=cb HB.1 hx13_5;replace p13:=eq_true p13;replace q13:=eq_true q13;refine start_ (n:=20) (S:=fun w'=>w'.cell? ⟨gb0,0,none⟩=some (.slice A0_0 l0_0.length c0_0)∧w'.cell? ⟨gb0,1,none⟩=some (.slice A0_1 l0_1.length c0_1)∧w'.cell? ⟨gb0,2,none⟩=some (.slice A0_2 l0_2.length c0_2)∧w'.cell? ⟨gb0,3,none⟩=some (.slice A0_3 l0_3.length c0_3)∧w'.cell? ⟨gb0,4,none⟩=some (.slice A0_4 l0_4.length c0_4)∧w'.cell? ⟨gb0,5,none⟩=some (.int .i64 a0_5)∧w'.cell? (ad15.add (x7_1).toNat)=some (.int .i64 (rd l2 x7_1))∧w'.cell? (ad12.add (x4_3).toNat)=some (.int .i64 (rd (rd_L4 l1 (l2.length:Int)) x4_3))) (ds:=[]) (tf 0 20) (by kernel_rfl) rfl rfl ⟨bk BK0.1 0,bk BK0.1 1,bk BK0.1 2,bk BK0.1 3,bk BK0.1 4,bk BK0.1 5,hx15_5,(cb HB.1 hw13_5:)⟩ (fun hHeld=>?_);refine with_tabW spec_l18All.tab12 spec_l18All.bits12 (fun HT_ HW_=>?_);generalize wr.drew=w22 at HO_1 HO_2 BK0 HB hx15_5 hx13_5 hHeld ⊢
               refine pu_ 0 44 (tf 1 19) rfl rfl ?_;refine pu_ 1 45 (tf 2 18) rfl rfl ?_;refine pu_ 3 47 (tM [2,1,1,16]) rfl rfl ?_;refine pu_ 4 48 (tM [2,1,2,15]) rfl rfl ?_;refine pu_ 5 49 (tM [2,1,3,14]) rfl rfl ?_;refine pu_ 7 51 (tM [2,1,3,1,1,12]) rfl rfl ?_;refine pu_ 8 52 (tM [2,1,3,1,2,11]) rfl rfl ?_;refine pu_ 9 53 (tM [2,1,3,1,3,10]) rfl rfl ?_;refine pu_ 12 56 (tM [2,1,3,1,3,2,1,7]) rfl rfl ?_;refine pu_ 14 58 (tM [2,1,3,1,3,2,1,1,1,5]) rfl rfl ?_;refine ta8_ 2 46 (tM [6,1,3,2,1,1,1,5]) rfl rfl ?_
               refine ta8_ 6 50 (tM [10,2,1,1,1,5]) rfl rfl ?_;refine ta8_ 10 54 (tM [11,1,1,1,1,5]) rfl rfl ?_;refine ta8_ 13 57 (tM [11,1,3,5]) rfl rfl ?_;refine ta8_ 15 59 (tM [11,1,4,4]) rfl rfl ?_;refine pu_ 16 60 (tM [11,1,5,3]) rfl rfl ?_;refine one_ (i:=11) (N:=some 55) (tf 17 3) rfl rfl (one_of HT_.1 (by kernel_rfl)) (by decide) (fun K hK=>?_);refine goes_ Try.func116 (by kernel_rfl) rfl #[.agg (f5 A0_0 l0_0 c0_0 A0_1 l0_1 c0_1 A0_2 l0_2 c0_2 A0_3 l0_3 c0_3 A0_4 l0_4 c0_4 a0_5),.int .i64 (rd l2 x7_1),.int .i64 (rd (rd_L4 l1 (l2.length:Int)) x4_3)] (by rfl) rfl rfl (by(try simp only [List.map_toArray,List.map_cons,List.map_nil]);first|done|rfl|(simp only [List.length_drop,List.length_take];rfl)) ?_;with_reducible refine(spec_l18Square.calls _ _ l0_0 _ _ l0_1 _ _ l0_2 _ _ l0_3 _ _ l0_4 a0_5 (rd l2 x7_1) (rd (rd_L4 l1 (l2.length:Int)) x4_3) t41 _ ?_ ?_ ?_ ?_ ?_ ?_ ?_ ?_ ?_ ?_ A21.1).mono ?_
               exact vd HR0_0.1 HB.1
               exact HC0_0.1
               exact vd HR0_1.1 HB.1
               exact HC0_1.1
               exact vd HR0_2.1 HB.1
               exact HC0_2.1
               exact vd HR0_3.1 HB.1
               exact HC0_3.1
               exact vd HR0_4.1 HB.1
               exact HC0_4.1
               rintro e w23 ⟨rfl,hb⟩;have HS6_:=cb hb (hHeld.2.2.2.2.2.2.1);refine⟨_,rfl,?_⟩;replace HO_1:=ak (Kd.V_below (vV HO_1.1) hb);replace HO_2:=ak (Kd.N_below (vN HO_2.1) hb);replace BK0:=kb BK0 hb;replace HB:=bs HB hb;(try clear hb)
               (try clear hb2)
               (try clear hk)
               (try clear hi)
               refine hK.out _ _ ⟨bk BK0.1 0,bk BK0.1 1,bk BK0.1 2,bk BK0.1 3,bk BK0.1 4,bk BK0.1 5,HS6_,(cb HB.1 hw13_5:)⟩ (fun hHeld=>?_);clear hK K;refine norm_ (a':=?_) ?_ ?_
               rotate_left
               ·show Act.put _ (some 55) _=_
                simp only [Act.put,List.setIfInBounds_toArray,List.set_cons_zero,List.set_cons_succ,i64_w,i32_w]
                rfl
               refine pu_ 17 61 (tf 18 2) rfl rfl ?_;refine pu_ 18 62 (tf 19 1) rfl rfl ?_;refine pu_ 19 10 (tf 20 0) rfl rfl ?_;refine done_ (done_of HT_.1 (by kernel_rfl)) ?_;(try go_wp2)
               go_roundg k2
               case measure=>have:=HK1.1;have:=HK2.1;omega
               case rel=>exact⟨(decide (t41≥(wrap64 (a0_5*a0_5)))),(wrap64 (x7_1+1)),es,es,H',⟨by have:=HK1.1;have:=HK2.1;omega⟩,⟨vV HO_1.1⟩,⟨vN HO_2.1⟩,⟨vk BK0.1⟩,⟨vb HB.1⟩⟩
              ·exact nO_ c20 H
             ·exact nO_ c19 H
            ·exact nO_ c18 H
           ·replace c17:=Bool.eq_false_iff.mpr c17;subst c17;rw [if_neg nf] at H;have H':=ak H;clear H;(try go_wp2)
            replace HO_1:=ak (Kd.V_drew HO_1.1);replace HO_2:=ak (Kd.N_drew HO_2.1);replace BK0:=ak (blk_drew BK0.1);replace HB:=ak (below_drew1 HB.1);refine start_ (n:=20) (S:=fun w'=>True) (ds:=[]) (tf 0 20) (by kernel_rfl) rfl rfl trivial (fun hHeld=>?_);refine with_tabW spec_l18All.tab12 spec_l18All.bits12 (fun HT_ HW_=>?_);generalize wr.drew=w24 at HO_1 HO_2 BK0 HB hHeld ⊢;refine pu_ 0 44 (tf 1 19) rfl rfl ?_;refine pu_ 1 45 (tf 2 18) rfl rfl ?_;refine un_ 2 46 (tf 3 17) rfl rfl ?_;refine un_ 3 47 (tf 4 16) rfl rfl ?_;refine un_ 4 48 (tf 5 15) rfl rfl ?_;refine un_ 5 49 (tf 6 14) rfl rfl ?_;refine un_ 6 50 (tf 7 13) rfl rfl ?_;refine un_ 7 51 (tf 8 12) rfl rfl ?_;refine un_ 8 52 (tf 9 11) rfl rfl ?_;refine un_ 9 53 (tf 10 10) rfl rfl ?_;refine un_ 10 54 (tf 11 9) rfl rfl ?_;refine un_ 11 55 (tf 12 8) rfl rfl ?_;refine un_ 12 56 (tf 13 7) rfl rfl ?_;refine un_ 13 57 (tf 14 6) rfl rfl ?_;refine un_ 14 58 (tf 15 5) rfl rfl ?_;refine un_ 15 59 (tf 16 4) rfl rfl ?_;refine un_ 16 60 (tf 17 3) rfl rfl ?_;refine un_ 17 61 (tf 18 2) rfl rfl ?_;refine pu_ 18 62 (tf 19 1) rfl rfl ?_;refine pu_ 19 10 (tf 20 0) rfl rfl ?_;refine done_ (done_of HT_.1 (by kernel_rfl)) ?_;(try go_wp2)
            go_roundg k2
            case measure=>have:=HK1.1;have:=HK2.1;omega
            case rel=>exact⟨(false),(wrap64 (x7_1+1)),es,es,H',⟨by have:=HK1.1;have:=HK2.1;omega⟩,⟨vV HO_1.1⟩,⟨vN HO_2.1⟩,⟨vk BK0.1⟩,⟨vb HB.1⟩⟩
          ·rw [if_neg c16] at H;have c16b0:=decide_eq_false c16;clear c16;by_cases c25:x18_1=true
           ·subst c25;rw [if_pos rfl] at H;obtain⟨t20,A26,H⟩:=bnk H;by_cases c27:0≤x4_3
            ·rw [if_pos c27] at H;have c27b0:=decide_eq_true c27;clear c27;by_cases c28:x4_3<((rd_L4 l1 (l2.length:Int)).length:Int)
             ·rw [if_pos c28] at H;have c28b0:=decide_eq_true c28;clear c28;obtain⟨y9,Ny9,H⟩:=bnE H;by_cases c29:t20.length+y9.length<17592186044416
              ·rw [if_pos c29] at H;have LMc29:=ak c29;clear c29;obtain⟨y22,hy22⟩:=gen_ ((t20++y9:List Int));rw [←hy22] at H;have Ny22:=ak hy22;clear hy22;obtain⟨t28,A30,H⟩:=bnk H;by_cases c31:x2_3.length+t28.length<5864062014805
               ·rw [if_pos c31] at H;have LMc31:=ak c31;clear c31;obtain⟨y36,hy36⟩:=gen_ ((x2_3++t28:List (List Int)));rw [←hy36] at H;have Ny36:=ak hy36;clear hy36;have H':=ak H;clear H;obtain⟨Ao10,co10,eo10⟩:=Kd.N_slice HO_2.1;subst eo10;(try go_wp2)
                replace HO_1:=ak (Kd.V_drew HO_1.1);replace HO_2:=ak (Kd.N_drew HO_2.1);replace BK0:=ak (blk_drew BK0.1);replace HB:=ak (below_drew1 HB.1);have p6:0≤(x4_3:Int):=od;have q6:x4_3<((rd_L4 l1 (l2.length:Int)).length:Int):=od;obtain⟨ad6,e6,hx6_5⟩:=Kd.at_int HR664_0.1 x4_3 p6 q6;have hw6_5:=hx6_5;obtain rfl:ad12=ad6:=(by injection e6);replace hx6_5:=cb HB.1 hx6_5;replace p6:=eq_true p6;replace q6:=eq_true q6;refine start_ (n:=14) (S:=fun w'=>w'.cell? ⟨gb0,0,none⟩=some (.slice A0_0 l0_0.length c0_0)∧w'.cell? ⟨gb0,1,none⟩=some (.slice A0_1 l0_1.length c0_1)∧w'.cell? ⟨gb0,2,none⟩=some (.slice A0_2 l0_2.length c0_2)∧w'.cell? ⟨gb0,3,none⟩=some (.slice A0_3 l0_3.length c0_3)∧w'.cell? ⟨gb0,4,none⟩=some (.slice A0_4 l0_4.length c0_4)∧w'.cell? ⟨gb0,5,none⟩=some (.int .i64 a0_5)∧w'.cell? (ad12.add (x4_3).toNat)=some (.int .i64 (rd (rd_L4 l1 (l2.length:Int)) x4_3))) (ds:=[]) (tf 0 14) (by kernel_rfl) rfl rfl ⟨bk BK0.1 0,bk BK0.1 1,bk BK0.1 2,bk BK0.1 3,bk BK0.1 4,bk BK0.1 5,(cb HB.1 hw6_5:)⟩ (fun hHeld=>?_);refine with_tabW spec_l18All.tab14 spec_l18All.bits14 (fun HT_ HW_=>?_);generalize wr.drew=w33 at HO_1 HO_2 BK0 HB hx6_5 hHeld ⊢
                refine pu_ 0 64 (tf 1 13) rfl rfl ?_;refine pu_ 2 66 (tM [1,1,1,11]) rfl rfl ?_;refine pu_ 3 67 (tM [1,1,2,10]) rfl rfl ?_;refine pu_ 5 69 (tM [1,1,2,1,1,8]) rfl rfl ?_;refine pu_ 6 70 (tM [1,1,2,1,2,7]) rfl rfl ?_;refine pu_ 7 71 (tM [1,1,2,1,3,6]) rfl rfl ?_;refine ta7_ 1 65 (tM [4,1,3,6]) rfl rfl ?_;refine ta7_ 8 72 (tM [4,1,4,5]) rfl rfl ?_;refine join_ (σ:=Value×Value) 4 (tf 10 4) (fun s_=>[(68,s_.1),(73,s_.2)]) (fun s_ w'=>(w'.cell? ⟨gb0,0,none⟩=some (.slice A0_0 l0_0.length c0_0)∧w'.cell? ⟨gb0,1,none⟩=some (.slice A0_1 l0_1.length c0_1)∧w'.cell? ⟨gb0,2,none⟩=some (.slice A0_2 l0_2.length c0_2)∧w'.cell? ⟨gb0,3,none⟩=some (.slice A0_3 l0_3.length c0_3)∧w'.cell? ⟨gb0,4,none⟩=some (.slice A0_4 l0_4.length c0_4)∧w'.cell? ⟨gb0,5,none⟩=some (.int .i64 a0_5)∧w'.cell? (ad12.add (x4_3).toNat)=some (.int .i64 (rd (rd_L4 l1 (l2.length:Int)) x4_3)))∧(Kd.R (Kd.int .i64) 2 w' w.heap.size (fun k_=>(w.heap.size≤k_)∧some k_≠(s_.2:Value).ownBlock) s_.1 t20)∧(Kd.R (Kd.int .i64) 2 w' w.heap.size (fun k_=>(w.heap.size≤k_)∧some k_≠(s_.1:Value).ownBlock) s_.2 y9)∧(Kd.V (Kd.int .i64) 2 w' w.heap.size (fun k_=>(P2_ k_∨w.heap.size≤k_)∧some k_≠(s_.1:Value).ownBlock∧some k_≠(s_.2:Value).ownBlock∧nB k_ Ao10 x2_3.length co10∧k_≠gb0) (.slice A2 l2.length c2) l2)∧(Kd.N (Kd.slice 2 (Kd.int .i64)) 26 w' w.heap.size (fun k_=>(P2_ k_∨w.heap.size≤k_)∧some k_≠(s_.1:Value).ownBlock∧some k_≠(s_.2:Value).ownBlock∧k_≠gb0) (.slice Ao10 x2_3.length co10) x2_3)∧(w'.heap[gb0]? =some (.cells (f5 A0_0 l0_0 c0_0 A0_1 l0_1 c0_1 A0_2 l0_2 c0_2 A0_3 l0_3 c0_3 A0_4 l0_4 c0_4 a0_5) 28 (0,0)))∧(Below w.heap.size w w')) ?_ ?_
                rotate_left
                ·intro hCont;refine two_ (i:=4) (j:=9) (Ni:=some 68) (Nj:=some 73) (tf 9 5) (tM [4,1,5,4]) rfl rfl rfl rfl (two_of HT_.1 (by kernel_rfl)) (by decide) (by decide) (fun K hK=>?_) (fun K hK=>?_)
                 ·skip
                  refine goes_ Try.func79 (by kernel_rfl) rfl #[.slice A2 l2.length c2] (by rfl) rfl rfl (by(try simp only [List.map_toArray,List.map_cons,List.map_nil]);first|done|rfl|(simp only [List.length_drop,List.length_take];rfl)) ?_;with_reducible refine(spec_l01Own.calls _ _ l2 t20 _ ?_ ?_ A26.1).mono ?_
                  exact vc (Kd.V_reads' HO_1.1).2.2
                  exact(Kd.V_reads' HO_1.1).2.1
                  rintro e w34 ⟨v24,rfl,ho5,hb⟩;refine⟨_,rfl,?_⟩;replace HO_1:=ak (Kd.V_elder' (vV HO_1.1) (Kd.R_base ho5) hb);replace HO_2:=ak (Kd.N_elder' (vN HO_2.1) (Kd.R_base ho5) hb);have HO21:=ak (Kd.R_lower (Kd.R_newM (M:=fun k_=>(w.heap.size≤k_)) ho5 (below_size (vb HB.1)) (fun k_ h_=>h_)) (below_size (vb HB.1)));replace BK0:=kb BK0 hb;replace HB:=bs HB hb;(try clear hb)
                  (try clear hb2)
                  (try clear hk)
                  (try clear hi)
                  (try clear ho5)
                  refine hK.out _ _ ⟨bk BK0.1 0,bk BK0.1 1,bk BK0.1 2,bk BK0.1 3,bk BK0.1 4,bk BK0.1 5,(cb HB.1 hw6_5:)⟩ (fun hHeld=>?_);clear hK K;refine norm_ (a':=?_) ?_ ?_
                  rotate_left
                  ·show Act.put _ (some 68) _=_
                   simp only [Act.put,List.setIfInBounds_toArray,List.set_cons_zero,List.set_cons_succ,i64_w,i32_w]
                   rfl
                  refine one_ (i:=9) (N:=some 73) (tf 10 4) rfl rfl (one_of HT_.1 (by kernel_rfl)) (by decide) (fun K hK=>?_);refine Kd.R_lit_step (Kd.int .i64) _ 2 ?hg (N:=73) ?hd (xs:=([rd (rd_L4 l1 (l2.length:Int)) x4_3]:List Int)) (inner:=[.int .i64 (rd (rd_L4 l1 (l2.length:Int)) x4_3)]) (ok:=fun _=>True) (okp:=fun _=>True) ?hr ?hp (fun _ hk=>hk) trivial (Below.refl _ _) (Nat.le_refl _) (by simp) ?_;(case hd=>rfl);(case hg=>rfl);(case hr=>first|(go_simp;done)|(go_simp;rfl));(case hp=>exact(Reps.one (show Kd.M (Kd.int .i64) _ _ _ (rd (rd_L4 l1 (l2.length:Int)) x4_3) [.int .i64 (rd (rd_L4 l1 (l2.length:Int)) x4_3)] from rfl) (Reps.none _ _)));intro v27 w35 ho25 hb hg_ hnew_;clear hg_ hnew_;(first|rw [←Ny9.1] at ho25|(simp only [Int.reduceToNat] at ho25;rw [←Ny9.1] at ho25))
                  replace HO_1:=ak (Kd.V_elder' (vV HO_1.1) (Kd.R_base ho25) hb);replace HO_2:=ak (Kd.N_elder' (vN HO_2.1) (Kd.R_base ho25) hb);have HO11:=ak (Kd.R_lower (Kd.R_new' (Kd.R_newM (M:=fun k_=>(w.heap.size≤k_)) ho25 (below_size (vb HB.1)) (fun k_ h_=>h_)) (Kd.R_lt (vr HO21.1))) (below_size (vb HB.1)));replace HO21:=ro HO21 ho25 hb;replace BK0:=kb BK0 hb;replace HB:=bs HB hb;clear hb ho25;refine hK.out _ _ ⟨bk BK0.1 0,bk BK0.1 1,bk BK0.1 2,bk BK0.1 3,bk BK0.1 4,bk BK0.1 5,(cb HB.1 hw6_5:)⟩ (fun hHeld=>?_);clear hK K;refine norm_ (a':=?_) ?_ ?_
                  rotate_left
                  ·show Act.put _ (some 73) _=_
                   simp only [Act.put,List.setIfInBounds_toArray,List.set_cons_zero,List.set_cons_succ,i64_w,i32_w]
                   rfl
                  exact norm_ (by simp only [putAll,Act.put,List.setIfInBounds_toArray,List.set_cons_zero,List.set_cons_succ]) (hCont (v24,v27) _ ⟨hHeld,(vr (Kd.R_mono HO21.1 (fun _ hk=>⟨hk.1.1,hk.2⟩))),(vr (Kd.R_mono HO11.1 (fun _ hk=>⟨hk.1.1,hk.2⟩))),(by(with_reducible repeat (first|apply Kd.V_alloc|apply Kd.V_drewN|apply Kd.V_drew));exact Kd.V_mono HO_1.1 (fun _ hk=>⟨hk.1.1.1,⟨hk.1.2,⟨hk.2,⟨hk.1.1.2.1,hk.1.1.2.2⟩⟩⟩⟩)),(vN (Kd.N_mono HO_2.1 (fun _ hk=>⟨hk.1.1.1,⟨hk.1.2,⟨hk.2,hk.1.1.2⟩⟩⟩))),(vk BK0.1),(vb HB.1)⟩)
                 ·skip
                  refine Kd.R_lit_step (Kd.int .i64) _ 2 ?hg (N:=73) ?hd (xs:=([rd (rd_L4 l1 (l2.length:Int)) x4_3]:List Int)) (inner:=[.int .i64 (rd (rd_L4 l1 (l2.length:Int)) x4_3)]) (ok:=fun _=>True) (okp:=fun _=>True) ?hr ?hp (fun _ hk=>hk) trivial (Below.refl _ _) (Nat.le_refl _) (by simp) ?_;(case hd=>rfl);(case hg=>rfl);(case hr=>first|(go_simp;done)|(go_simp;rfl));(case hp=>exact(Reps.one (show Kd.M (Kd.int .i64) _ _ _ (rd (rd_L4 l1 (l2.length:Int)) x4_3) [.int .i64 (rd (rd_L4 l1 (l2.length:Int)) x4_3)] from rfl) (Reps.none _ _)));intro v27 w34 ho34 hb hg_ hnew_;clear hg_ hnew_;(first|rw [←Ny9.1] at ho34|(simp only [Int.reduceToNat] at ho34;rw [←Ny9.1] at ho34))
                  replace HO_1:=ak (Kd.V_elder' (vV HO_1.1) (Kd.R_base ho34) hb);replace HO_2:=ak (Kd.N_elder' (vN HO_2.1) (Kd.R_base ho34) hb);have HO11:=ak (Kd.R_lower (Kd.R_newM (M:=fun k_=>(w.heap.size≤k_)) ho34 (below_size (vb HB.1)) (fun k_ h_=>h_)) (below_size (vb HB.1)));replace BK0:=kb BK0 hb;replace HB:=bs HB hb;clear hb ho34;refine hK.out _ _ ⟨bk BK0.1 0,bk BK0.1 1,bk BK0.1 2,bk BK0.1 3,bk BK0.1 4,bk BK0.1 5,(cb HB.1 hw6_5:)⟩ (fun hHeld=>?_);clear hK K;refine norm_ (a':=?_) ?_ ?_
                  rotate_left
                  ·show Act.put _ (some 73) _=_
                   simp only [Act.put,List.setIfInBounds_toArray,List.set_cons_zero,List.set_cons_succ,i64_w,i32_w]
                   rfl
                  refine one_ (i:=4) (N:=some 68) (tf 10 4) rfl rfl (one_of HT_.1 (by kernel_rfl)) (by decide) (fun K hK=>?_);refine goes_ Try.func79 (by kernel_rfl) rfl #[.slice A2 l2.length c2] (by rfl) rfl rfl (by(try simp only [List.map_toArray,List.map_cons,List.map_nil]);first|done|rfl|(simp only [List.length_drop,List.length_take];rfl)) ?_;with_reducible refine(spec_l01Own.calls _ _ l2 t20 _ ?_ ?_ A26.1).mono ?_
                  exact vc (Kd.V_reads' HO_1.1).2.2
                  exact(Kd.V_reads' HO_1.1).2.1
                  rintro e w36 ⟨v24,rfl,ho5,hb⟩;refine⟨_,rfl,?_⟩;replace HO_1:=ak (Kd.V_elder' (vV HO_1.1) (Kd.R_base ho5) hb);replace HO_2:=ak (Kd.N_elder' (vN HO_2.1) (Kd.R_base ho5) hb);have HO21:=ak (Kd.R_lower (Kd.R_new' (Kd.R_newM (M:=fun k_=>(w.heap.size≤k_)) ho5 (below_size (vb HB.1)) (fun k_ h_=>h_)) (Kd.R_lt (vr HO11.1))) (below_size (vb HB.1)));replace HO11:=ro HO11 ho5 hb;replace BK0:=kb BK0 hb;replace HB:=bs HB hb;(try clear hb)
                  (try clear hb2)
                  (try clear hk)
                  (try clear hi)
                  (try clear ho5)
                  refine hK.out _ _ ⟨bk BK0.1 0,bk BK0.1 1,bk BK0.1 2,bk BK0.1 3,bk BK0.1 4,bk BK0.1 5,(cb HB.1 hw6_5:)⟩ (fun hHeld=>?_);clear hK K;refine norm_ (a':=?_) ?_ ?_
                  rotate_left
                  ·show Act.put _ (some 68) _=_
                   simp only [Act.put,List.setIfInBounds_toArray,List.set_cons_zero,List.set_cons_succ,i64_w,i32_w]
                   rfl
                  exact norm_ (by simp only [putAll,Act.put,List.setIfInBounds_toArray,List.set_cons_zero,List.set_cons_succ]) (hCont (v24,v27) _ ⟨hHeld,(vr (Kd.R_mono HO21.1 (fun _ hk=>⟨hk.1.1,hk.2⟩))),(vr (Kd.R_mono HO11.1 (fun _ hk=>⟨hk.1.1,hk.2⟩))),(by(with_reducible repeat (first|apply Kd.V_alloc|apply Kd.V_drewN|apply Kd.V_drew));exact Kd.V_mono HO_1.1 (fun _ hk=>⟨hk.1.1.1,⟨hk.2,⟨hk.1.2,⟨hk.1.1.2.1,hk.1.1.2.2⟩⟩⟩⟩)),(vN (Kd.N_mono HO_2.1 (fun _ hk=>⟨hk.1.1.1,⟨hk.2,⟨hk.1.2,hk.1.1.2⟩⟩⟩))),(vk BK0.1),(vb HB.1)⟩)
                rintro⟨v24,v27⟩ w37 ⟨hS_,h0_,h1_,h2_,h3_,h4_,h5_⟩;have n0_:Aside0 (Kd.R (Kd.int .i64) 2 w37 w.heap.size (fun k_=>(w.heap.size≤k_)∧some k_≠(v27:Value).ownBlock) v24 t20):=⟨h0_⟩;have n1_:Aside0 (Kd.R (Kd.int .i64) 2 w37 w.heap.size (fun k_=>(w.heap.size≤k_)∧some k_≠(v24:Value).ownBlock) v27 y9):=⟨h1_⟩;have n2_:Aside0 (Kd.V (Kd.int .i64) 2 w37 w.heap.size (fun k_=>(P2_ k_∨w.heap.size≤k_)∧some k_≠(v24:Value).ownBlock∧some k_≠(v27:Value).ownBlock∧nB k_ Ao10 x2_3.length co10∧k_≠gb0) (.slice A2 l2.length c2) l2):=⟨h2_⟩;have n3_:Aside0 (Kd.N (Kd.slice 2 (Kd.int .i64)) 26 w37 w.heap.size (fun k_=>(P2_ k_∨w.heap.size≤k_)∧some k_≠(v24:Value).ownBlock∧some k_≠(v27:Value).ownBlock∧k_≠gb0) (.slice Ao10 x2_3.length co10) x2_3):=⟨h3_⟩;have n4_:Aside0 (w37.heap[gb0]? =some (.cells (f5 A0_0 l0_0 c0_0 A0_1 l0_1 c0_1 A0_2 l0_2 c0_2 A0_3 l0_3 c0_3 A0_4 l0_4 c0_4 a0_5) 28 (0,0))):=⟨h4_⟩;have n5_:Aside0 (Below w.heap.size w w37):=⟨h5_⟩;clear HO_1;clear HO_2;clear BK0;clear HB;clear h0_ h1_ h2_ h3_ h4_ h5_;have HO21:=n0_;have HO11:=n1_;have HO_1:=n2_;have HO_2:=n3_;have BK0:=n4_;have HB:=n5_;clear n0_ n1_ n2_ n3_ n4_ n5_;have hHeld:w37.cell? ⟨gb0,0,none⟩=some (.slice A0_0 l0_0.length c0_0)∧w37.cell? ⟨gb0,1,none⟩=some (.slice A0_1 l0_1.length c0_1)∧w37.cell? ⟨gb0,2,none⟩=some (.slice A0_2 l0_2.length c0_2)∧w37.cell? ⟨gb0,3,none⟩=some (.slice A0_3 l0_3.length c0_3)∧w37.cell? ⟨gb0,4,none⟩=some (.slice A0_4 l0_4.length c0_4)∧w37.cell? ⟨gb0,5,none⟩=some (.int .i64 a0_5)∧w37.cell? (ad12.add (x4_3).toNat)=some (.int .i64 (rd (rd_L4 l1 (l2.length:Int)) x4_3)):=hS_
                obtain⟨Ao8,co8,eo8⟩:=Kd.R_slice HO11.1;(first|subst eo8|(injection eo8 with f1_ f2_ f3_;have f4_:=f1_.symm;have f5_:=f3_.symm;clear f1_ f2_ f3_;subst f4_;subst f5_))
                refine norm_ (a':=?_) ?_ ?_
                rotate_left
                ·simp only [putAll,Act.put,List.setIfInBounds_toArray,List.set_cons_zero,List.set_cons_succ]
                 rfl
                refine one_ (i:=10) (N:=some 74) (tf 11 3) rfl rfl (one_of HT_.1 (by kernel_rfl)) (by decide) (fun K hK=>?_);refine Kd.R_append_rows_step (Kd.int .i64) (w0:=w) w.heap.size (by rfl) (.tmp 68) (.tmp 73) 26 2 (.int .i64 0) 8 rfl Try.underlying26 info2 rfl (by decide) (by omega) v24 t20 y9 _ _ _ (fun k_=>(w.heap.size≤k_)∧nB k_ Ao8 y9.length co8) (fun _=>False) rfl rfl ?aO ?aR (fun _ _ h=>h) (fun _ h=>h.elim) ?aF ?aB ?aS ?aL ?_;(case aR=>exact rc_ HO11)
                (case aB=>exact(vb HB.1))
                (case aF=>exact(fun k_ hk=>⟨(Nat.le_trans (below_size (vb HB.1)) hk),Kd.fresh' (Kd.R_lt (vr HO11.1)) k_ hk⟩))
                (case aO=>exact(vr HO21.1))
                (case aS=>exact(below_size (vb HB.1)))
                (case aL=>have:=LMc29.1;omega)
                intro v47 w38 ho hb hg hat;rw [←Ny22.1] at ho;have n0_:=ak (Kd.V_afterv (ok:=(fun k_=>(P2_ k_∨w.heap.size≤k_)∧nB k_ Ao10 x2_3.length co10∧nB k_ Ao8 y9.length co8∧k_≠gb0)) (by(with_reducible repeat (first|apply Kd.V_alloc|apply Kd.V_drewN|apply Kd.V_drew));exact Kd.V_mono HO_1.1 (fun _ hk=>⟨⟨hk.1,⟨hk.2.2.2.1,⟨hk.2.2.1,hk.2.2.2.2⟩⟩⟩,hk.2.1⟩)) hg hat);have n1_:=ak (Kd.N_afterv (ok:=(fun k_=>(P2_ k_∨w.heap.size≤k_)∧nB k_ Ao8 y9.length co8∧k_≠gb0)) (vN (Kd.N_mono HO_2.1 (fun _ hk=>⟨⟨hk.1,⟨hk.2.2.1,hk.2.2.2⟩⟩,hk.2.1⟩))) hg hat);have n2_:=ak (blk_grown (g:=gb0) (o:=.cells (f5 A0_0 l0_0 c0_0 A0_1 l0_1 c0_1 A0_2 l0_2 c0_2 A0_3 l0_3 c0_3 A0_4 l0_4 c0_4 a0_5) 28 (0,0)) (vk BK0.1) hg (Kd.R_ne HO21.1 BK0.1 (by decide)));have n3_:=ak (Kd.R_after (ok:=(fun k_=>(w.heap.size≤k_))) (vr HO11.1) hg hat);have n4_:=ak (hb);have n5_:=ak (ho);clear HO_1;clear HO_2;clear BK0;clear HO11;clear HB;clear HO21;have HO_1:=n0_;have HO_2:=n1_;have BK0:=n2_;have HO11:=n3_;have HB:=n4_;have HO17:=n5_;clear n0_ n1_ n2_ n3_ n4_ n5_;clear ho hb hg hat
                obtain⟨Ao19,co19,eo19⟩:=Kd.R_slice HO17.1;(first|subst eo19|(injection eo19 with f1_ f2_ f3_;have f4_:=f1_.symm;have f5_:=f3_.symm;clear f1_ f2_ f3_;subst f4_;subst f5_))
                refine hK.out _ _ ⟨bk BK0.1 0,bk BK0.1 1,bk BK0.1 2,bk BK0.1 3,bk BK0.1 4,bk BK0.1 5,(cb HB.1 hw6_5:)⟩ (fun hHeld=>?_);clear hK K;refine norm_ (a':=?_) ?_ ?_
                rotate_left
                ·show Act.put _ (some 74) _=_
                 simp only [Act.put,List.setIfInBounds_toArray,List.set_cons_zero,List.set_cons_succ,i64_w,i32_w]
                 rfl
                refine one_ (i:=11) (N:=some 75) (tf 12 2) rfl rfl (one_of HT_.1 (by kernel_rfl)) (by decide) (fun K hK=>?_);refine goes_ Try.func102 (by kernel_rfl) rfl #[.agg (f5 A0_0 l0_0 c0_0 A0_1 l0_1 c0_1 A0_2 l0_2 c0_2 A0_3 l0_3 c0_3 A0_4 l0_4 c0_4 a0_5),.slice (some ad14) l1.length c1,.slice Ao19 y22.length co19] (by rfl) rfl rfl (by(try simp only [List.map_toArray,List.map_cons,List.map_nil]);first|done|rfl|(simp only [List.length_drop,List.length_take];rfl)) ?_;with_reducible refine(ih k2 (by have:=HK1.1;have:=HK2.1;omega) _ _ l0_0 _ _ l0_1 _ _ l0_2 _ _ l0_3 _ _ l0_4 a0_5 _ _ l1 (fun k_=>some k_=(.slice Ao19 y22.length co19:Value).ownBlock) _ _ y22 t28 _ ?_ ?_ ?_ ?_ ?_ ?_ ?_ ?_ ?_ ?_ ?_ ?_ ?_ A30.1).mono ?_
                exact vd HR0_0.1 HB.1
                exact HC0_0.1
                exact vd HR0_1.1 HB.1
                exact HC0_1.1
                exact vd HR0_2.1 HB.1
                exact HC0_2.1
                exact vd HR0_3.1 HB.1
                exact HC0_3.1
                exact vd HR0_4.1 HB.1
                exact HC0_4.1
                exact vd HR1.1 HB.1
                exact HC1.1
                exact Kd.R_V (Kd.R_tight rfl (Kd.R_types (Kd.R_apart' (HO17.1) (Kd.N_typed HO_2.1) (by decide)) BK0.1 (by decide)))
                rintro e w41 ⟨v48,rfl,ho5,hb⟩;refine⟨_,rfl,?_⟩;replace HO_1:=ak (Kd.V_elder' (vV HO_1.1) (Kd.N_base ho5) hb);have HO39:=ak (Kd.N_lower (Kd.N_mono (ok':=fun k_=>(P2_ k_∨w.heap.size≤k_)∧nB k_ Ao10 x2_3.length co10∧nB k_ Ao8 y9.length co8∧k_≠gb0) ho5 (fun k_ hk_=>⟨Or.elim hk_ (fun hs_=>(.inr (((Kd.R_types (Kd.R_apart' (HO17.1) (Kd.N_typed HO_2.1) (by decide)) BK0.1 (by decide)).1 k_ hs_.symm).1.1.1))) (fun hn_=>(.inr (Nat.le_trans (below_size (vb HB.1)) hn_))),Or.elim hk_ (fun hs_=>((Kd.R_types (Kd.R_apart' (HO17.1) (Kd.N_typed HO_2.1) (by decide)) BK0.1 (by decide)).1 k_ hs_.symm).1.2) (fun hn_=>(Kd.fresh' (Kd.N_lt (vN HO_2.1)) k_ hn_)),Or.elim hk_ (fun hs_=>((Kd.R_types (Kd.R_apart' (HO17.1) (Kd.N_typed HO_2.1) (by decide)) BK0.1 (by decide)).1 k_ hs_.symm).1.1.2) (fun hn_=>(Kd.fresh' (Kd.R_lt (vr HO11.1)) k_ hn_)),Or.elim hk_ (fun hs_=>((Kd.R_types (Kd.R_apart' (HO17.1) (Kd.N_typed HO_2.1) (by decide)) BK0.1 (by decide)).1 k_ hs_.symm).2) (fun hn_=>(Kd.freshB (g:=gb0) (o:=.cells (f5 A0_0 l0_0 c0_0 A0_1 l0_1 c0_1 A0_2 l0_2 c0_2 A0_3 l0_3 c0_3 A0_4 l0_4 c0_4 a0_5) 28 (0,0)) (vk BK0.1) k_ hn_))⟩)) (below_size (vb HB.1)))
                replace HO_2:=ak (Kd.N_elder' (vN HO_2.1) (Kd.N_base ho5) hb);replace HO11:=rb HO11 hb;replace HO17:=rb HO17 hb;replace BK0:=kb BK0 hb;replace HB:=bs HB hb;(try clear hb)
                (try clear hb2)
                (try clear hk)
                (try clear hi)
                (try clear ho5)
                obtain⟨Ao38,co38,eo38⟩:=Kd.N_slice HO39.1;(first|subst eo38|(injection eo38 with f1_ f2_ f3_;have f4_:=f1_.symm;have f5_:=f3_.symm;clear f1_ f2_ f3_;subst f4_;subst f5_))
                refine hK.out _ _ ⟨bk BK0.1 0,bk BK0.1 1,bk BK0.1 2,bk BK0.1 3,bk BK0.1 4,bk BK0.1 5,(cb HB.1 hw6_5:)⟩ (fun hHeld=>?_);clear hK K;refine norm_ (a':=?_) ?_ ?_
                rotate_left
                ·show Act.put _ (some 75) _=_
                 simp only [Act.put,List.setIfInBounds_toArray,List.set_cons_zero,List.set_cons_succ,i64_w,i32_w]
                 rfl
                refine one_ (i:=12) (N:=some 76) (tf 13 1) rfl rfl (one_of HT_.1 (by kernel_rfl)) (by decide) (fun K hK=>?_);refine Kd.N_append_rows_step (Kd.slice 2 (Kd.int .i64)) (w0:=w) w.heap.size (by rfl) (.tmp 64) (.tmp 75) 41 26 (.slice none 0 0) 24 rfl Try.underlying41 info26 rfl (by decide) (by omega) (.slice Ao10 x2_3.length co10) x2_3 t28 _ _ _ (fun k_=>(P2_ k_∨w.heap.size≤k_)∧nB k_ Ao8 y9.length co8∧k_≠gb0) (fun k_=>((fun k_=>(P2_ k_∨w.heap.size≤k_)∧nB k_ Ao8 y9.length co8∧k_≠gb0)) k_∧nB k_ Ao10 x2_3.length co10) rfl rfl ?aO ?aR (fun _ hk=>hk) ?aF ?aB ?aS ?aL ?_;(case aR=>exact(by skip;exact Kd.N_F (Kd.N_mono (ok':=(fun k_=>((fun k_=>(P2_ k_∨w.heap.size≤k_)∧nB k_ Ao8 y9.length co8∧k_≠gb0)) k_∧nB k_ Ao10 x2_3.length co10)) (HO39.1) (fun k_ hk=>⟨⟨hk.1,⟨hk.2.2.1,hk.2.2.2⟩⟩,hk.2.1⟩))))
                (case aB=>exact(vb HB.1))
                (case aF=>exact(fun k_ hk=>⟨(.inr (Nat.le_trans (below_size (vb HB.1)) hk)),Kd.fresh' (Kd.R_lt (vr HO11.1)) k_ hk,Kd.freshB (g:=gb0) (o:=.cells (f5 A0_0 l0_0 c0_0 A0_1 l0_1 c0_1 A0_2 l0_2 c0_2 A0_3 l0_3 c0_3 A0_4 l0_4 c0_4 a0_5) 28 (0,0)) (vk BK0.1) k_ hk⟩))
                (case aO=>exact(vN (Kd.N_mono HO_2.1 (fun _ hk=>⟨hk.1.1.1,⟨hk.1.1.2.1,hk.1.1.2.2⟩⟩))))
                (case aS=>exact(below_size (vb HB.1)))
                (case aL=>have:=LMc31.1;omega)
                intro v49 w42 ho hb hg hat;rw [←Ny36.1] at ho;have n0_:=ak (Kd.V_afterv (ok:=(fun k_=>(P2_ k_∨w.heap.size≤k_)∧nB k_ Ao8 y9.length co8∧nB k_ Ao19 y22.length co19∧nB k_ Ao38 t28.length co38∧k_≠gb0)) (by(with_reducible repeat (first|apply Kd.V_alloc|apply Kd.V_drewN|apply Kd.V_drew));exact Kd.V_mono HO_1.1 (fun _ hk=>⟨⟨hk.1.1.1,⟨hk.1.1.2.2.1,⟨hk.1.2,⟨hk.2,hk.1.1.2.2.2⟩⟩⟩⟩,hk.1.1.2.1⟩)) hg hat);have n1_:=ak (blk_grown (g:=gb0) (o:=.cells (f5 A0_0 l0_0 c0_0 A0_1 l0_1 c0_1 A0_2 l0_2 c0_2 A0_3 l0_3 c0_3 A0_4 l0_4 c0_4 a0_5) 28 (0,0)) (vk BK0.1) hg (Kd.N_ne HO_2.1 BK0.1 (by decide)));have n2_:=ak (Kd.R_over' (vr HO11.1) (Kd.N_typed (vN HO_2.1)) (by decide) hg);have n3_:=ak (Kd.R_over' (vr HO17.1) (Kd.N_typed (vN HO_2.1)) (by decide) hg);have n4_:=ak (Kd.N_afterv (ok:=(fun k_=>(P2_ k_∨w.heap.size≤k_)∧nB k_ Ao8 y9.length co8∧k_≠gb0)) (vN (Kd.N_mono HO39.1 (fun _ hk=>⟨⟨hk.1,⟨hk.2.2.1,hk.2.2.2⟩⟩,hk.2.1⟩))) hg hat)
                have n5_:=ak (hb);have n6_:=ak (ho);clear HO_1;clear BK0;clear HO11;clear HO17;clear HO39;clear HB;clear HO_2;have HO_1:=n0_;have BK0:=n1_;have HO11:=n2_;have HO17:=n3_;have HO39:=n4_;have HB:=n5_;have HO44:=n6_;clear n0_ n1_ n2_ n3_ n4_ n5_ n6_;clear ho hb hg hat;refine hK.out _ _ ⟨bk BK0.1 0,bk BK0.1 1,bk BK0.1 2,bk BK0.1 3,bk BK0.1 4,bk BK0.1 5,(cb HB.1 hw6_5:)⟩ (fun hHeld=>?_);clear hK K;refine norm_ (a':=?_) ?_ ?_
                rotate_left
                ·show Act.put _ (some 76) _=_
                 simp only [Act.put,List.setIfInBounds_toArray,List.set_cons_zero,List.set_cons_succ,i64_w,i32_w]
                 rfl
                refine pu_ 13 7 (tf 14 0) rfl rfl ?_;refine done_ (done_of HT_.1 (by kernel_rfl)) ?_;(try go_wp2)
                go_roundg k2
                case measure=>have:=HK1.1;have:=HK2.1;omega
                case rel=>exact⟨(y36),(wrap64 (x4_3+1)),es,H',⟨by have:=HK1.1;have:=HK2.1;omega⟩,⟨by(with_reducible repeat (first|apply Kd.V_alloc|apply Kd.V_drewN|apply Kd.V_drew));exact Kd.V_mono HO_1.1 (fun _ hk=>⟨hk.1.1,⟨hk.2,hk.1.2.2.2.2⟩⟩)⟩,⟨vN (Kd.N_mono HO44.1 (fun _ hk=>⟨hk.1,hk.2.2⟩))⟩,⟨vk BK0.1⟩,⟨vb HB.1⟩⟩
               ·exact nO_ c31 H
              ·exact nO_ c29 H
             ·exact nO_ c28 H
            ·exact nO_ c27 H
           ·replace c25:=Bool.eq_false_iff.mpr c25;subst c25;rw [if_neg nf] at H;have H':=ak H;clear H;go_wp2
            go_roundg k2
            case measure=>have:=HK1.1;have:=HK2.1;omega
            case rel=>exact⟨(x2_3),(wrap64 (x4_3+1)),es,H',⟨by have:=HK1.1;have:=HK2.1;omega⟩,⟨vV HO_1.1⟩,⟨vN HO_2.1⟩,⟨vk BK0.1⟩,⟨vb HB.1⟩⟩
       ·exact nO_ c14 H
      ·rw [if_neg c13] at H;have c13b0:=decide_eq_false c13;clear c13;obtain rfl:=sj H;go_wp2
       go_ret
       exact⟨_,ew,vN (Kd.N_mono HO_2.1 (fun _ hk=>hk.1)),vb HB.1⟩
   ·exact nO_ c9 H
  ·exact nO_ c8 H
def spec_l16Distance.l0:Nat→List (S91)→Int→Int→Int→Int→Option (Int)
 |0,_,_,_,_,_=>none
 |k+1,x5,x0,x6,x7,x2=>if x2<(x5.length:Int) then (if 0≤x2 then (if ((rd_T91 x5 x2).f0)=x6 then (if ((rd_T91 x5 x2).f1)≥x0 then (some ((rd_T91 x5 x2).f2)) else (spec_l16Distance.l0 k x5 x0 x6 (-1) (wrap64 (x2+1)))) else (spec_l16Distance.l0 k x5 x0 x6 x7 (wrap64 (x2+1)))) else (none)) else (some x7)
def spec_l16Distance.f (k:Nat) (l0:List (S91)) (a1:Int) (a2:Int):Option (Int):=spec_l16Distance.l0 k l0 a1 a2 0 0
theorem spec_l16Distance.calls (k:Nat) (A0:Option Addr) (c0:Nat) (l0:List (S91)) (a1:Int) (a2:Int) (r:Int) (w:World) (hr0:Kd.C k91 w A0 l0.length l0) (hc0:l0.length≤c0) (h:spec_l16Distance.f k l0 a1 a2=some r):
  Calls Try.prog 121 #[.slice A0 l0.length c0,.int .i64 a1,.int .i64 a2] w fun e w'=>e=.returned (.int .i64 r)∧Drawn0 w w':=by
 have HR0:=ak hr0;have HC0:=ak hc0;clear hr0 hc0;unfold spec_l16Distance.f at h;have H:=h;clear h;have H':=ak H;clear H;go_enter Try.func121,Try.ntmps121;go_wp2
 go_loopg [7,8] k (fun kq v7 v2 w'=>∃(x7_0:Int) (x2_0:Int),v7=.int .i64 x7_0∧v2=.int .i64 x2_0∧Aside0 (spec_l16Distance.l0 kq l0 a1 a2 x7_0 x2_0=some r)∧Aside0 (kq≤k)∧Drawn0 w w')
 case atStart=>exact⟨(0),(0),es,es,H',⟨Nat.le_refl _⟩,by repeat (first|exact Drawn0.refl _|apply Drawn0.step)⟩
 case round=>
  clear H';obtain⟨x7_0,x2_0,rfl,rfl,HA,HK1,⟨m0,rfl⟩⟩:=hrel
  cases gk with
  |zero=>exact absurd HA.1 (by simp [spec_l16Distance.l0])
  |succ k1=>
   have H:=HA.1;clear HA;simp only [spec_l16Distance.l0] at H
   by_cases c4:x2_0<(l0.length:Int)
   ·rw [if_pos c4] at H;have c4b0:=decide_eq_true c4;clear c4;by_cases c5:0≤x2_0
    ·rw [if_pos c5] at H;have c5b0:=decide_eq_true c5;clear c5;by_cases c6:((rd_T91 l0 x2_0).f0)=a2
     ·rw [if_pos c6] at H;have c6b0:(((rd_T91 l0 x2_0).f0)==a2)=true:=beq_iff_eq.mpr c6;have c6b1:(((rd_T91 l0 x2_0).f0) !=a2)=false:=bne_eq_false_iff_eq.mpr c6;clear c6;by_cases c7:((rd_T91 l0 x2_0).f1)≥a1
      ·rw [if_pos c7] at H;have c7b0:=decide_eq_true c7;clear c7;obtain rfl:=sj H;have p1:0≤(x2_0:Int):=od;have q1:x2_0<(l0.length:Int):=od;obtain⟨ad1,e1,hx1_5,hx1_0,hx1_6⟩:=at_T91 HR0.1 x2_0 p1 q1
       cases e1;replace p1:=eq_true p1;replace q1:=eq_true q1;have p3:0≤(x2_0:Int):=od;have q3:x2_0<(l0.length:Int):=od;obtain⟨ad3,e3,hx3_5,hx3_0,hx3_6⟩:=at_T91 HR0.1 x2_0 p3 q3;obtain rfl:ad1=ad3:=(by injection e3);replace p3:=eq_true p3;replace q3:=eq_true q3;have p4:0≤(x2_0:Int):=od;have q4:x2_0<(l0.length:Int):=od;obtain⟨ad4,e4,hx4_5,hx4_0,hx4_6⟩:=at_T91 HR0.1 x2_0 p4 q4;obtain rfl:ad1=ad4:=(by injection e4);replace p4:=eq_true p4;replace q4:=eq_true q4;go_wp2
       go_ret
       exact⟨by first|rfl|(simp;done)|(simp [*];done),by repeat (first|exact Drawn0.refl _|apply Drawn0.step)⟩
      ·rw [if_neg c7] at H;have c7b0:=decide_eq_false c7;clear c7;have H':=ak H;clear H;have p1:0≤(x2_0:Int):=od;have q1:x2_0<(l0.length:Int):=od;obtain⟨ad1,e1,hx1_5,hx1_0,hx1_6⟩:=at_T91 HR0.1 x2_0 p1 q1
       cases e1;replace p1:=eq_true p1;replace q1:=eq_true q1;have p3:0≤(x2_0:Int):=od;have q3:x2_0<(l0.length:Int):=od;obtain⟨ad3,e3,hx3_5,hx3_0,hx3_6⟩:=at_T91 HR0.1 x2_0 p3 q3;obtain rfl:ad1=ad3:=(by injection e3);replace p3:=eq_true p3;replace q3:=eq_true q3;go_wp2
       go_roundg k1
       case measure=>have:=HK1.1;omega
       case rel=>exact⟨((-1)),(wrap64 (x2_0+1)),es,es,H',⟨by have:=HK1.1;omega⟩,by repeat (first|exact Drawn0.refl _|apply Drawn0.step)⟩
     ·rw [if_neg c6] at H;have c6b0:(((rd_T91 l0 x2_0).f0)==a2)=false:=beq_eq_false_iff_ne.mpr c6;have c6b1:(((rd_T91 l0 x2_0).f0) !=a2)=true:=bne_iff_ne.mpr c6;have H':=ak H;clear H;have p1:0≤(x2_0:Int):=od;have q1:x2_0<(l0.length:Int):=od;obtain⟨ad1,e1,hx1_5,hx1_0,hx1_6⟩:=at_T91 HR0.1 x2_0 p1 q1
      cases e1;replace p1:=eq_true p1;replace q1:=eq_true q1;go_wp2
      go_roundg k1
      case measure=>have:=HK1.1;omega
      case rel=>exact⟨(x7_0),(wrap64 (x2_0+1)),es,es,H',⟨by have:=HK1.1;omega⟩,by repeat (first|exact Drawn0.refl _|apply Drawn0.step)⟩
    ·exact nO_ c5 H
   ·rw [if_neg c4] at H;have c4b0:=decide_eq_false c4;clear c4;obtain rfl:=sj H;go_wp2
    go_ret
    exact⟨by first|rfl|(simp;done)|(simp [*];done),by repeat (first|exact Drawn0.refl _|apply Drawn0.step)⟩
def spec_l15Away.f (a0:Int) (a1:Int) (a2:Int):Option (Int):=some (mx (mx 0 (wrap64 (a1-a0))) (wrap64 (a0-a2)))
theorem spec_l15Away.calls (a0:Int) (a1:Int) (a2:Int) (r:Int) (w:World) (h:spec_l15Away.f a0 a1 a2=some r):
  Calls Try.prog 125 #[.int .i64 a0,.int .i64 a1,.int .i64 a2] w fun e w'=>e=.returned (.int .i64 r)∧Below w.heap.size w w':=by
 have HB:=ak (Below.refl w.heap.size w);unfold spec_l15Away.f at h;have H:=h;clear h;obtain⟨ji0,hji4⟩:∃j_:Int,(mx 0 (wrap64 (a1-a0)))=j_:=⟨_,rfl⟩;replace H:(some (mx (ji0) (wrap64 (a0-a2))))=some r:=by first|(rw [hji4] at H;exact H)|(simp only [hji4] at H ⊢;exact H)
 (try (have hji4l:0≤ji0:=by(rw [←hji4];unfold mx;(repeat' split)<;>omega)))
 (try (have hji4m:0≤ji0:=by omega))
 have hji4_:(if 0<(wrap64 (a1-a0)) then (wrap64 (a1-a0)) else 0)=ji0:=hji4;obtain⟨ji1,hji5⟩:∃j_:Int,(mx (ji0) (wrap64 (a0-a2)))=j_:=⟨_,rfl⟩;replace H:(some ji1)=some r:=by first|(rw [hji5] at H;exact H)|(simp only [hji5] at H ⊢;exact H)
 have hji5_:(if (ji0)<(wrap64 (a0-a2)) then (wrap64 (a0-a2)) else (ji0))=ji1:=hji5;obtain rfl:=sj H;go_enter Try.func125,Try.ntmps125;go_wp2
 go_ret
 exact⟨by first|rfl|(simp [errW_none,errW_some]<;>rfl)|(simp only [←hji4,←hji5];first|rfl|(simp [errW_none,errW_some]<;>rfl))|(simp [*,errW_none,errW_some]<;>rfl),vb HB.1⟩
def spec_l15Square.f (a0_0:Int) (a0_1:Int) (a0_2:Int) (a0_3:Int) (a0_4:Int) (a1:Int) (a2:Int):Option (Int):=(spec_l15Away.f a1 a0_1 (wrap64 (a0_1+a0_3))).bind fun t1=>((spec_l15Away.f a2 a0_2 (wrap64 (a0_2+a0_4))).bind fun t2=>(some (wrap64 ((wrap64 (t1*t1))+(wrap64 (t2*t2))))))
def spec_l15Square.T1:Bool×List (List Nat×List Nat):=(true,[([],[]),([],[]),([1],[1]),([],[]),([3],[3]),([],[]),([5],[5]),([4,6],[4,6]),([0,2,7],[0,2,7]),([],[]),([],[]),([10],[10]),([],[]),([12],[12]),([],[]),([14],[14]),([13,15],[13,15]),([9,11,16,8],[9,11,16]),([8,17,0,1,2,3,4,5,6,7,8],[8]),([17,18,0,1,2,3,4,5,6,7,8,9,10,11,12,13,14,15,16,17,18],[17])])
def spec_l15Square.B1:List Nat:=[0,0,2,0,8,0,32,120,255,0,0,1024,0,4096,0,16384,61440,131071,262143,524287]
theorem spec_l15Square.tab1:rtab .any (opsOf Try.f122 1)=spec_l15Square.T1:=by kernel_rfl
theorem spec_l15Square.bits1:waitsOk spec_l15Square.T1.2 spec_l15Square.B1=true:=by kernel_rfl
theorem spec_l15Square.calls (a0_0:Int) (a0_1:Int) (a0_2:Int) (a0_3:Int) (a0_4:Int) (a1:Int) (a2:Int) (r:Int) (w:World) (h:spec_l15Square.f a0_0 a0_1 a0_2 a0_3 a0_4 a1 a2=some r):
  Calls Try.prog 122 #[.agg #[.int .i64 a0_0,.int .i64 a0_1,.int .i64 a0_2,.int .i64 a0_3,.int .i64 a0_4],.int .i64 a1,.int .i64 a2] w fun e w'=>e=.returned (.int .i64 r)∧Below w.heap.size w w':=by
 have hu69:=Try.underlying69;have HB:=ak (Below.refl w.heap.size w);unfold spec_l15Square.f at h;have H:=h;clear h;obtain⟨t1,A4,H⟩:=bnk H;obtain⟨t2,A5,H⟩:=bnk H;obtain rfl:=sj H;go_enter Try.func122,Try.ntmps122;(try go_wp2_with (first|((with_reducible refine gate_dst (N:=3) rfl ?_);refine bx 3 #[.int .i64 a0_0,.int .i64 a0_1,.int .i64 a0_2,.int .i64 a0_3,.int .i64 a0_4] 69 ?_;intro gb0 hg w6 hbox hb;have BK0:=ak hbox;have GW689:=gw hg HB;have GE0:=gw hg HB;replace HB:=bs HB hb;clear hb hbox hg)))
 replace BK0:=ak (blk_drew BK0.1);replace HB:=ak (below_drew1 HB.1);refine start_ (n:=20) (S:=fun w'=>w'.cell? ⟨gb0,0,none⟩=some (.int .i64 a0_0)∧w'.cell? ⟨gb0,1,none⟩=some (.int .i64 a0_1)∧w'.cell? ⟨gb0,2,none⟩=some (.int .i64 a0_2)∧w'.cell? ⟨gb0,3,none⟩=some (.int .i64 a0_3)∧w'.cell? ⟨gb0,4,none⟩=some (.int .i64 a0_4)) (ds:=[]) (tf 0 20) (by kernel_rfl) rfl rfl (cy5 BK0.1) (fun hHeld=>?_);refine with_tabW spec_l15Square.tab1 spec_l15Square.bits1 (fun HT_ HW_=>?_);generalize w6.drew=w7 at BK0 HB hHeld ⊢;refine pu_ 0 9 (tf 1 19) rfl rfl ?_;refine pu_ 1 10 (tf 2 18) rfl rfl ?_;refine pu_ 3 12 (tM [2,1,1,16]) rfl rfl ?_;refine pu_ 5 14 (tM [2,1,1,1,1,14]) rfl rfl ?_;refine pu_ 9 18 (tM [2,1,1,1,1,3,1,10]) rfl rfl ?_;refine pu_ 10 19 (tM [2,1,1,1,1,3,2,9]) rfl rfl ?_;refine pu_ 12 21 (tM [2,1,1,1,1,3,2,1,1,7]) rfl rfl ?_;refine pu_ 14 23 (tM [2,1,1,1,1,3,2,1,1,1,1,5]) rfl rfl ?_
 refine ta5_ 2 11 (tM [4,1,1,3,2,1,1,1,1,5]) rfl rfl ?_;refine ta5_ 4 13 (tM [6,3,2,1,1,1,1,5]) rfl rfl ?_;refine ta5_ 6 15 (tM [7,2,2,1,1,1,1,5]) rfl rfl ?_;refine pu_ 7 16 (tM [8,1,2,1,1,1,1,5]) rfl rfl ?_;refine ta5_ 11 20 (tM [8,1,4,1,1,5]) rfl rfl ?_;refine ta5_ 13 22 (tM [8,1,6,5]) rfl rfl ?_;refine ta5_ 15 24 (tM [8,1,7,4]) rfl rfl ?_;refine pu_ 16 25 (tM [8,1,8,3]) rfl rfl ?_;refine one_ (i:=8) (N:=some 17) (tf 17 3) rfl rfl (one_of HT_.1 (by kernel_rfl)) (by decide) (fun K hK=>?_);refine goes_ Try.func125 (by kernel_rfl) rfl #[.int .i64 a1,.int .i64 a0_1,.int .i64 (wrap64 (a0_1+a0_3))] (by rfl) rfl rfl (by(try simp only [List.map_toArray,List.map_cons,List.map_nil]);first|done|rfl|(simp only [List.length_drop,List.length_take];rfl)) ?_
 with_reducible refine(spec_l15Away.calls a1 a0_1 (wrap64 (a0_1+a0_3)) t1 _ A4.1).mono ?_
 rintro e w8 ⟨rfl,hb⟩;refine⟨_,rfl,?_⟩;replace BK0:=kb BK0 hb;replace HB:=bs HB hb;(try clear hb)
 (try clear hb2)
 (try clear hk)
 (try clear hi)
 refine hK.out _ _ (cy5 BK0.1) (fun hHeld=>?_);clear hK K;refine norm_ (a':=?_) ?_ ?_
 rotate_left
 ·show Act.put _ (some 17) _=_
  simp only [Act.put,List.setIfInBounds_toArray,List.set_cons_zero,List.set_cons_succ,i64_w,i32_w]
  rfl
 refine one_ (i:=17) (N:=some 26) (tf 18 2) rfl rfl (one_of HT_.1 (by kernel_rfl)) (by decide) (fun K hK=>?_);refine goes_ Try.func125 (by kernel_rfl) rfl #[.int .i64 a2,.int .i64 a0_2,.int .i64 (wrap64 (a0_2+a0_4))] (by rfl) rfl rfl (by(try simp only [List.map_toArray,List.map_cons,List.map_nil]);first|done|rfl|(simp only [List.length_drop,List.length_take];rfl)) ?_;with_reducible refine(spec_l15Away.calls a2 a0_2 (wrap64 (a0_2+a0_4)) t2 _ A5.1).mono ?_
 rintro e w9 ⟨rfl,hb⟩;refine⟨_,rfl,?_⟩;replace BK0:=kb BK0 hb;replace HB:=bs HB hb;(try clear hb)
 (try clear hb2)
 (try clear hk)
 (try clear hi)
 refine hK.out _ _ (cy5 BK0.1) (fun hHeld=>?_);clear hK K;refine norm_ (a':=?_) ?_ ?_
 rotate_left
 ·show Act.put _ (some 26) _=_
  simp only [Act.put,List.setIfInBounds_toArray,List.set_cons_zero,List.set_cons_succ,i64_w,i32_w]
  rfl
 refine pu_ 18 7 (tf 19 1) rfl rfl ?_;refine pu_ 19 8 (tf 20 0) rfl rfl ?_;refine done_ (done_of HT_.1 (by kernel_rfl)) ?_;(try go_wp2)
 go_ret
 exact⟨ew,vb HB.1⟩
end Go.Proofs.Ytiblahniohjbbaa.Pall
