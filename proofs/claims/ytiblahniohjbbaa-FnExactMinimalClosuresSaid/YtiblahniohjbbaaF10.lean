/- Go functions of the program, each as a Lean function, and the proof that each call comes to what the Lean function tells; no condition beyond those that stand there. -/
import Derived.Test.YtiblahniohjbbaaF09
namespace Go.Proofs.Ytiblahniohjbbaa.Pall
set_option maxRecDepth 100000
set_option maxHeartbeats 8000000
open Go.RowKit Go.Proofs.YtiblahniohjbbaaW.PrintWords Go.Proofs.YtiblahniohjbbaaW.PrintLast Go.Proofs.YtiblahniohjbbaaW.PrintMore
set_option linter.unusedVariables false
set_option linter.unusedSimpArgs false
def spec_l16Against.l0:Nat→List (S91)→List (S69)→Int→Int→Int→List Int→Int→Option (List Int)
 |0,_,_,_,_,_,_,_=>none
 |k+1,x5,x0,x6,x7,x8,x4,x1=>if x1<(x0.length:Int) then (if 0≤x1 then ((spec_l16Distance.f k x5 x6 ((rd_T69 x0 x1).f0)).bind fun t9=>(if t9<0 then (if x4.length<17592186044416 then (spec_l16Against.l0 k x5 x0 x6 x7 x8 (x4++[x1]) (wrap64 (x1+1))) else (none)) else ((spec_l15Square.f ((rd_T69 x0 x1).f0) ((rd_T69 x0 x1).f1) ((rd_T69 x0 x1).f2) ((rd_T69 x0 x1).f3) ((rd_T69 x0 x1).f4) x7 x8).bind fun t14=>(if t14<(wrap64 (t9*t9)) then (if x4.length<17592186044416 then (spec_l16Against.l0 k x5 x0 x6 x7 x8 (x4++[x1]) (wrap64 (x1+1))) else (none)) else (spec_l16Against.l0 k x5 x0 x6 x7 x8 x4 (wrap64 (x1+1))))))) else (none)) else (some x4)
def spec_l16Against.f (k:Nat) (l0:List (S91)) (l1:List (S69)) (a2:Int) (a3:Int) (a4:Int):Option (List Int):=spec_l16Against.l0 k l0 l1 a2 a3 a4 (([]:List Int)) 0
theorem spec_l16Against.calls (k:Nat) (A0:Option Addr) (c0:Nat) (l0:List (S91)) (A1:Option Addr) (c1:Nat) (l1:List (S69)) (a2:Int) (a3:Int) (a4:Int) (r:List Int) (w:World) (hr0:Kd.C k91 w A0 l0.length l0) (hc0:l0.length≤c0) (hr1:Kd.C k69 w A1 l1.length l1) (hc1:l1.length≤c1) (h:spec_l16Against.f k l0 l1 a2 a3 a4=some r):
  Calls Try.prog 117 #[.slice A0 l0.length c0,.slice A1 l1.length c1,.int .i64 a2,.int .i64 a3,.int .i64 a4] w fun e w'=>∃v0_:Value,e=.returned (v0_)∧Kd.R (Kd.int .i64) 2 w' w.heap.size (fun _=>True) v0_ r∧Below w.heap.size w w':=by
 have hu69:=Try.underlying69;have HR0:=ak hr0;have HC0:=ak hc0;clear hr0 hc0;have HR1:=ak hr1;have HC1:=ak hc1;clear hr1 hc1;have HB:=ak (Below.refl w.heap.size w);unfold spec_l16Against.f at h;have H:=h;clear h;obtain⟨y10,hy10⟩:=gen_ (([]:List Int));rw [←hy10] at H;have Ny10:=ak hy10;clear hy10;have H':=ak H;clear H;go_enter Try.func117,Try.ntmps117;go_wp2_with (first|((with_reducible refine gate_dst (N:=14) rfl ?_);refine Kd.R_lit (Kd.int .i64) _ 2 ?hg (N:=14) ?hd (xs:=([]:List Int)) (inner:=[]) (ok:=fun _=>True) (okp:=fun _=>True) ?hr ?hp (fun _ hk=>hk) trivial (Below.refl _ _) (Nat.le_refl _) (by simp) ?_;(case hd=>rfl);(case hg=>rfl);(case hr=>first|(go_simp;done)|(go_simp;rfl));(case hp=>exact(Reps.none _ _));intro v18 w6 ho13 hb hg_ hnew_;clear hg_ hnew_;(first|rw [←Ny10.1] at ho13|(simp only [Int.reduceToNat] at ho13;rw [←Ny10.1] at ho13));have HO15:=ak (Kd.R_lower ho13 (below_size (vb HB.1)));replace HB:=bs HB hb;clear hb ho13))
 go_loopg [11,12] k (fun kq v4 v1 w'=>∃(x4_0:List Int) (x1_0:Int),v1=.int .i64 x1_0∧Aside0 (spec_l16Against.l0 kq l0 l1 a2 a3 a4 x4_0 x1_0=some r)∧Aside0 (kq≤k)∧Aside0 (Kd.R (Kd.int .i64) 2 w' w.heap.size (fun _=>True) v4 x4_0)∧Aside0 (Below w.heap.size w w'))
 case atStart=>exact⟨(y10),(0),es,H',⟨Nat.le_refl _⟩,⟨vr HO15.1⟩,⟨vb HB.1⟩⟩
 case round=>
  clear H';obtain⟨x4_0,x1_0,rfl,HA,HK1,HO_4,HB⟩:=hrel
  cases gk with
  |zero=>exact absurd HA.1 (by simp [spec_l16Against.l0])
  |succ k1=>
   have H:=HA.1;clear HA;simp only [spec_l16Against.l0] at H
   by_cases c8:x1_0<(l1.length:Int)
   ·rw [if_pos c8] at H;have c8b0:=decide_eq_true c8;clear c8;by_cases c9:0≤x1_0
    ·rw [if_pos c9] at H;have c9b0:=decide_eq_true c9;clear c9;obtain⟨t9,A10,H⟩:=bnk H;by_cases c11:t9<0
     ·rw [if_pos c11] at H;have c11b0:=decide_eq_true c11;clear c11;by_cases c12:x4_0.length<17592186044416
      ·rw [if_pos c12] at H;have LMc12:=ak c12;clear c12;obtain⟨y11,hy11⟩:=gen_ ((x4_0++[x1_0]:List Int));rw [←hy11] at H;have Ny11:=ak hy11;clear hy11;have H':=ak H;clear H;have p3:0≤(x1_0:Int):=od;have q3:x1_0<(l1.length:Int):=od;obtain⟨ad3,e3,hx3_5,hx3_0,hx3_6,hx3_7,hx3_8⟩:=at_T69b HR1.1 HB.1 x1_0 p3 q3
       cases e3;replace p3:=eq_true p3;replace q3:=eq_true q3;go_wp2_with (first|((with_reducible refine at_fn (f:=121) rfl ?_);refine gl (some 28) Try.func121 #[.slice A0 l0.length c0,.int .i64 a2,.int .i64 ((rd_T69 l1 x1_0).f0)] ?_;(with_reducible refine(spec_l16Distance.calls k1 _ _ l0 a2 ((rd_T69 l1 x1_0).f0) t9 _ ?_ HC0.1 A10.1).mono ?_);exact vd HR0.1 HB.1;rintro e w' ⟨rfl,⟨nd,rfl⟩⟩;refine⟨_,rfl,?_⟩)|((with_reducible refine at_bi (b:=.append) (xs:=#[.tmp 44,.tmp 46]) rfl ?_);at_builtin;refine Kd.R_append (Kd.int .i64) (w0:=w) w.heap.size rfl (.tmp 44) (.tmp 46) 26 2 (.int .i64 0) 8 rfl Try.underlying26 info2 rfl (by decide) (by omega) u11 x4_0 x1_0 [.int .i64 x1_0] (fun _=>True) (fun _=>False) rfl rfl ?aP (fun _ hk=>hk.elim) ?aF ?aO ?aB ?aS ?aL ?_;(case aP=>exact rfl);(case aB=>exact(vb HB.1));(case aF=>exact(fun _ _=>trivial));(case aO=>exact(vr HO_4.1));(case aS=>exact(below_size (vb HB.1)));(case aL=>have:=LMc12.1;omega);intro v19 w13 ho hb hg hat;rw [←Ny11.1] at ho;have n0_:=ak (hb);have n1_:=ak (ho);clear HB;clear HO_4;have HB:=n0_;have HO16:=n1_;clear n0_ n1_;clear ho hb hg hat))
       go_roundg k1
       case measure=>have:=HK1.1;omega
       case rel=>exact⟨(y11),(wrap64 (x1_0+1)),es,H',⟨by have:=HK1.1;omega⟩,⟨vr HO16.1⟩,⟨vb HB.1⟩⟩
      ·exact nO_ c12 H
     ·rw [if_neg c11] at H;have c11b0:=decide_eq_false c11;clear c11;obtain⟨t14,A14,H⟩:=bnk H;by_cases c15:t14<(wrap64 (t9*t9))
      ·rw [if_pos c15] at H;have c15b0:=decide_eq_true c15;clear c15;by_cases c16:x4_0.length<17592186044416
       ·rw [if_pos c16] at H;have LMc16:=ak c16;clear c16;obtain⟨y12,hy12⟩:=gen_ ((x4_0++[x1_0]:List Int));rw [←hy12] at H;have Ny12:=ak hy12;clear hy12;have H':=ak H;clear H;have p3:0≤(x1_0:Int):=od;have q3:x1_0<(l1.length:Int):=od;obtain⟨ad3,e3,hx3_5,hx3_0,hx3_6,hx3_7,hx3_8⟩:=at_T69b HR1.1 HB.1 x1_0 p3 q3
        cases e3;replace p3:=eq_true p3;replace q3:=eq_true q3;go_wp2_with (first|((with_reducible refine at_fn (f:=121) rfl ?_);refine gl (some 28) Try.func121 #[.slice A0 l0.length c0,.int .i64 a2,.int .i64 ((rd_T69 l1 x1_0).f0)] ?_;(with_reducible refine(spec_l16Distance.calls k1 _ _ l0 a2 ((rd_T69 l1 x1_0).f0) t9 _ ?_ HC0.1 A10.1).mono ?_);exact vd HR0.1 HB.1;rintro e w' ⟨rfl,⟨nd,rfl⟩⟩;refine⟨_,rfl,?_⟩;have p2:0≤(x1_0:Int):=od;have q2:x1_0<(l1.length:Int):=od;obtain⟨ad2,e2,hx2_5,hx2_0,hx2_6,hx2_7,hx2_8⟩:=at_T69 HR1.1 x1_0 p2 q2;obtain rfl:ad3=ad2:=(by injection e2);replace hx2_5:=cb HB.1 hx2_5;replace hx2_0:=cb HB.1 hx2_0;replace hx2_6:=cb HB.1 hx2_6;replace hx2_7:=cb HB.1 hx2_7;replace hx2_8:=cb HB.1 hx2_8;replace p2:=eq_true p2;replace q2:=eq_true q2)|(go_at_call 122;(with_reducible refine(spec_l15Square.calls ((rd_T69 l1 x1_0).f0) ((rd_T69 l1 x1_0).f1) ((rd_T69 l1 x1_0).f2) ((rd_T69 l1 x1_0).f3) ((rd_T69 l1 x1_0).f4) a3 a4 t14 _ A14.1).mono ?_);rintro e w17 ⟨rfl,hb⟩;replace HO_4:=rb HO_4 hb;replace HB:=bs HB hb;(try clear hb))|((with_reducible refine at_bi (b:=.append) (xs:=#[.tmp 44,.tmp 46]) rfl ?_);at_builtin;refine Kd.R_append (Kd.int .i64) (w0:=w) w.heap.size rfl (.tmp 44) (.tmp 46) 26 2 (.int .i64 0) 8 rfl Try.underlying26 info2 rfl (by decide) (by omega) u11 x4_0 x1_0 [.int .i64 x1_0] (fun _=>True) (fun _=>False) rfl rfl ?aP (fun _ hk=>hk.elim) ?aF ?aO ?aB ?aS ?aL ?_;(case aP=>exact rfl);(case aB=>exact(vb HB.1));(case aF=>exact(fun _ _=>trivial));(case aO=>exact(vr HO_4.1));(case aS=>exact(below_size (vb HB.1)));(case aL=>have:=LMc16.1;omega);intro v20 w18 ho hb hg hat;rw [←Ny12.1] at ho;have n0_:=ak (hb);have n1_:=ak (ho);clear HB;clear HO_4;have HB:=n0_;have HO17:=n1_;clear n0_ n1_;clear ho hb hg hat))
        go_roundg k1
        case measure=>have:=HK1.1;omega
        case rel=>exact⟨(y12),(wrap64 (x1_0+1)),es,H',⟨by have:=HK1.1;omega⟩,⟨vr HO17.1⟩,⟨vb HB.1⟩⟩
       ·exact nO_ c16 H
      ·rw [if_neg c15] at H;have c15b0:=decide_eq_false c15;clear c15;have H':=ak H;clear H;have p3:0≤(x1_0:Int):=od;have q3:x1_0<(l1.length:Int):=od;obtain⟨ad3,e3,hx3_5,hx3_0,hx3_6,hx3_7,hx3_8⟩:=at_T69b HR1.1 HB.1 x1_0 p3 q3
       cases e3;replace p3:=eq_true p3;replace q3:=eq_true q3;go_wp2_with (first|((with_reducible refine at_fn (f:=121) rfl ?_);refine gl (some 28) Try.func121 #[.slice A0 l0.length c0,.int .i64 a2,.int .i64 ((rd_T69 l1 x1_0).f0)] ?_;(with_reducible refine(spec_l16Distance.calls k1 _ _ l0 a2 ((rd_T69 l1 x1_0).f0) t9 _ ?_ HC0.1 A10.1).mono ?_);exact vd HR0.1 HB.1;rintro e w' ⟨rfl,⟨nd,rfl⟩⟩;refine⟨_,rfl,?_⟩;have p2:0≤(x1_0:Int):=od;have q2:x1_0<(l1.length:Int):=od;obtain⟨ad2,e2,hx2_5,hx2_0,hx2_6,hx2_7,hx2_8⟩:=at_T69 HR1.1 x1_0 p2 q2;obtain rfl:ad3=ad2:=(by injection e2);replace hx2_5:=cb HB.1 hx2_5;replace hx2_0:=cb HB.1 hx2_0;replace hx2_6:=cb HB.1 hx2_6;replace hx2_7:=cb HB.1 hx2_7;replace hx2_8:=cb HB.1 hx2_8;replace p2:=eq_true p2;replace q2:=eq_true q2)|(go_at_call 122;(with_reducible refine(spec_l15Square.calls ((rd_T69 l1 x1_0).f0) ((rd_T69 l1 x1_0).f1) ((rd_T69 l1 x1_0).f2) ((rd_T69 l1 x1_0).f3) ((rd_T69 l1 x1_0).f4) a3 a4 t14 _ A14.1).mono ?_);rintro e w19 ⟨rfl,hb⟩;replace HO_4:=rb HO_4 hb;replace HB:=bs HB hb;(try clear hb)))
       go_roundg k1
       case measure=>have:=HK1.1;omega
       case rel=>exact⟨(x4_0),(wrap64 (x1_0+1)),es,H',⟨by have:=HK1.1;omega⟩,⟨vr HO_4.1⟩,⟨vb HB.1⟩⟩
    ·exact nO_ c9 H
   ·rw [if_neg c8] at H;have c8b0:=decide_eq_false c8;clear c8;obtain rfl:=sj H;go_wp2
    go_ret
    exact⟨_,ew,vr HO_4.1,vb HB.1⟩
mutual
def spec_l18Spots.l0:Nat→List (List Int)→Int→List (S91)→List (S69)→List Int→List Int→List Int→Int→Option ((List (List Int)))
 |0,_,_,_,_,_,_,_,_=>none
 |k+1,x4,x8,x22,x23,x15,x19,x20,x25=>if x8<(x15.length:Int) then (spec_l18Spots.l1 k x4 x8 (([]:List Int)) 0 x22 x23 x15 x19 x20 x25) else (some x4)
def spec_l18Spots.l1:Nat→List (List Int)→Int→List Int→Int→List (S91)→List (S69)→List Int→List Int→List Int→Int→Option ((List (List Int)))
 |0,_,_,_,_,_,_,_,_,_,_=>none
 |k+1,x4,x8,x9,x3,x22,x23,x15,x19,x20,x25=>if x3<(x19.length:Int) then (if 0≤x8 then (if x8<(x15.length:Int) then (if 0≤x3 then (if x3<(x20.length:Int) then ((spec_l16Against.f k x22 x23 (rd x15 x8) (rd x19 x3) (rd x20 x3)).bind fun t14=>(if (t14.length:Int)=0 then (if x9.length<17592186044416 then (spec_l18Spots.l1 k x4 x8 (x9++[x3]) (wrap64 (x3+1)) x22 x23 x15 x19 x20 x25) else (none)) else (spec_l18Spots.l1 k x4 x8 x9 (wrap64 (x3+1)) x22 x23 x15 x19 x20 x25))) else (none)) else (none)) else (none)) else (none)) else (if x4.length<5864062014805 then (spec_l18Spots.l0 k (x4++[x9]) (wrap64 (x8+1)) x22 x23 x15 x19 x20 x25) else (none))
end
def spec_l18Spots.f (k:Nat) (l0_0:List (S91)) (l0_1:List (S69)) (l0_2:List Int) (l0_3:List Int) (l0_4:List Int) (a0_5:Int):Option ((List (List Int))):=spec_l18Spots.l0 k (([]:List (List Int))) 0 l0_0 l0_1 l0_2 l0_3 l0_4 a0_5
def spec_l18Spots.T9:Bool×List (List Nat×List Nat):=(true,[([],[]),([0],[0]),([],[]),([2],[2]),([],[]),([4],[4]),([],[]),([5,6],[5,6]),([7],[7]),([],[]),([9],[9]),([],[]),([10,11],[10,11]),([12],[12]),([],[]),([14],[14]),([],[]),([15,16],[15,16]),([17],[17]),([1,3,8,13,18],[1,3,8,13,18]),([19],[19]),([20],[20])])
def spec_l18Spots.B9:List Nat:=[0,1,0,4,0,16,0,112,240,0,512,0,3584,7680,0,16384,0,114688,245760,524287,1048575,2097151]
theorem spec_l18Spots.tab9:rtab .any (opsOf Try.f103 9)=spec_l18Spots.T9:=by kernel_rfl
theorem spec_l18Spots.bits9:waitsOk spec_l18Spots.T9.2 spec_l18Spots.B9=true:=by kernel_rfl
theorem spec_l18Spots.calls (k:Nat) (A0_0:Option Addr) (c0_0:Nat) (l0_0:List (S91)) (A0_1:Option Addr) (c0_1:Nat) (l0_1:List (S69)) (A0_2:Option Addr) (c0_2:Nat) (l0_2:List Int) (A0_3:Option Addr) (c0_3:Nat) (l0_3:List Int) (A0_4:Option Addr) (c0_4:Nat) (l0_4:List Int) (a0_5:Int) (r:List (List Int)) (w:World) (hr0_0:Kd.C k91 w A0_0 l0_0.length l0_0) (hc0_0:l0_0.length≤c0_0) (hr0_1:Kd.C k69 w A0_1 l0_1.length l0_1) (hc0_1:l0_1.length≤c0_1) (hr0_2:Kd.C (Kd.int .i64) w A0_2 l0_2.length l0_2) (hc0_2:l0_2.length≤c0_2) (hr0_3:Kd.C (Kd.int .i64) w A0_3 l0_3.length l0_3) (hc0_3:l0_3.length≤c0_3) (hr0_4:Kd.C (Kd.int .i64) w A0_4 l0_4.length l0_4) (hc0_4:l0_4.length≤c0_4) (h:spec_l18Spots.f k l0_0 l0_1 l0_2 l0_3 l0_4 a0_5=some r):
  Calls Try.prog 103 #[.agg (f5 A0_0 l0_0 c0_0 A0_1 l0_1 c0_1 A0_2 l0_2 c0_2 A0_3 l0_3 c0_3 A0_4 l0_4 c0_4 a0_5)] w fun e w'=>∃v0_:Value,e=.returned (v0_)∧Kd.S (Kd.slice 2 (Kd.int .i64)) 26 w' w.heap.size (fun _=>True) v0_ r∧Below w.heap.size w w':=by
 have hu28:=Try.underlying28;have HR0_0:=ak hr0_0;have HC0_0:=ak hc0_0;clear hr0_0 hc0_0;have HR0_1:=ak hr0_1;have HC0_1:=ak hc0_1;clear hr0_1 hc0_1;have HR0_2:=ak hr0_2;have HC0_2:=ak hc0_2;clear hr0_2 hc0_2;have HR0_3:=ak hr0_3;have HC0_3:=ak hc0_3;clear hr0_3 hc0_3;have HR0_4:=ak hr0_4;have HC0_4:=ak hc0_4;clear hr0_4 hc0_4;have HB:=ak (Below.refl w.heap.size w);unfold spec_l18Spots.f at h;have H:=h;clear h;obtain⟨y12,hy12⟩:=gen_ (([]:List (List Int)));rw [←hy12] at H;have Ny12:=ak hy12;clear hy12;have H':=ak H;clear H;go_enter Try.func103,Try.ntmps103;go_wp2_with (first|((with_reducible refine gate_dst (N:=1) rfl ?_);refine bx 1 (f5 A0_0 l0_0 c0_0 A0_1 l0_1 c0_1 A0_2 l0_2 c0_2 A0_3 l0_3 c0_3 A0_4 l0_4 c0_4 a0_5) 28 ?_;intro gb0 hg w2 hbox hb;have BK0:=ak hbox;have GW705:=gw hg HB;have GE0:=gw hg HB;replace HB:=bs HB hb;clear hb hbox hg)|((with_reducible refine gate_dst (N:=7) rfl ?_);refine Kd.S_lit (Kd.slice 2 (Kd.int .i64)) _ 26 ?hg (N:=7) ?hd (xs:=([]:List (List Int))) (inner:=[]) (ok:=fun _=>True) (okp:=fun _=>True) ?hr ?hp (fun _ hk=>hk) trivial (Below.refl _ _) (Nat.le_refl _) (by simp) ?_;(case hd=>rfl);(case hg=>rfl);(case hr=>first|(go_simp;done)|(go_simp;rfl));(case hp=>exact(Reps.none _ _));intro v36 w3 ho8 hb hg_ hnew_;clear hg_ hnew_;(first|rw [←Ny12.1] at ho8|(simp only [Int.reduceToNat] at ho8;rw [←Ny12.1] at ho8));have HO27:=ak (Kd.S_lower ho8 (below_size (vb HB.1)));replace BK0:=kb BK0 hb;replace HB:=bs HB hb;clear hb ho8))
 go_loopg [3,4] k (fun kq v4 v8 w'=>∃(x4_10:List (List Int)) (x8_10:Int),v8=.int .i64 x8_10∧Aside0 (spec_l18Spots.l0 kq x4_10 x8_10 l0_0 l0_1 l0_2 l0_3 l0_4 a0_5=some r)∧Aside0 (kq≤k)∧Aside0 (Kd.S (Kd.slice 2 (Kd.int .i64)) 26 w' w.heap.size (fun _=>True) v4 x4_10)∧Aside0 (w'.heap[gb0]? =some (.cells (f5 A0_0 l0_0 c0_0 A0_1 l0_1 c0_1 A0_2 l0_2 c0_2 A0_3 l0_3 c0_3 A0_4 l0_4 c0_4 a0_5) 28 (0,0)))∧Aside0 (Below w.heap.size w w'))
 case atStart=>exact⟨(y12),(0),es,H',⟨Nat.le_refl _⟩,⟨vS HO27.1⟩,⟨vk BK0.1⟩,⟨vb HB.1⟩⟩
 case round=>
  clear H';obtain⟨x4_10,x8_10,rfl,HA,HK1,HO_4,BK0,HB⟩:=hrel
  cases gk with
  |zero=>exact absurd HA.1 (by simp [spec_l18Spots.l0])
  |succ k1=>
   have H:=HA.1;clear HA;simp only [spec_l18Spots.l0] at H
   by_cases c5:x8_10<(l0_2.length:Int)
   ·rw [if_pos c5] at H;have c5b0:=decide_eq_true c5;clear c5;obtain⟨y13,hy13⟩:=gen_ (([]:List Int));rw [←hy13] at H;have Ny13:=ak hy13;clear hy13;have H':=ak H;clear H;have hcz3:=cz6 BK0.1;go_wp2_with (first|((with_reducible refine gate_dst (N:=15) rfl ?_);refine Kd.R_lit (Kd.int .i64) _ 2 ?hg (N:=15) ?hd (xs:=([]:List Int)) (inner:=[]) (ok:=fun _=>True) (okp:=fun _=>True) ?hr ?hp (fun _ hk=>hk) trivial (Below.refl _ _) (Nat.le_refl _) (by simp) ?_;(case hd=>rfl);(case hg=>rfl);(case hr=>first|(go_simp;done)|(go_simp;rfl));(case hp=>exact(Reps.none _ _));intro v37 w7 ho21 hb hg_ hnew_;clear hg_ hnew_;(first|rw [←Ny13.1] at ho21|(simp only [Int.reduceToNat] at ho21;rw [←Ny13.1] at ho21));replace HO_4:=ak (Kd.S_elder' (vS HO_4.1) (Kd.R_base ho21) hb);have HO28:=ak (Kd.R_lower ho21 (below_size (vb HB.1)));replace BK0:=kb BK0 hb;replace HB:=bs HB hb;clear hb ho21))
    go_loopg [5,6] k1 (fun kq v9 v3 w'=>∃(x9_2:List Int) (x3_2:Int),v3=.int .i64 x3_2∧Aside0 (spec_l18Spots.l1 kq x4_10 x8_10 x9_2 x3_2 l0_0 l0_1 l0_2 l0_3 l0_4 a0_5=some r)∧Aside0 (kq≤k1)∧Aside0 (Kd.S (Kd.slice 2 (Kd.int .i64)) 26 w' w.heap.size (fun k_=>some k_≠(v9:Value).ownBlock) u3 x4_10)∧Aside0 (Kd.R (Kd.int .i64) 2 w' w.heap.size (fun _=>True) v9 x9_2)∧Aside0 (w'.heap[gb0]? =some (.cells (f5 A0_0 l0_0 c0_0 A0_1 l0_1 c0_1 A0_2 l0_2 c0_2 A0_3 l0_3 c0_3 A0_4 l0_4 c0_4 a0_5) 28 (0,0)))∧Aside0 (Below w.heap.size w w'))
    case atStart=>exact⟨(y13),(0),es,H',⟨Nat.le_refl _⟩,⟨by(with_reducible repeat (first|apply Kd.S_alloc|apply Kd.S_drewN|apply Kd.S_drew));exact Kd.S_mono HO_4.1 (fun _ hk=>hk.2)⟩,⟨vr HO28.1⟩,⟨vk BK0.1⟩,⟨vb HB.1⟩⟩
    case round=>
     clear H';obtain⟨x9_2,x3_2,rfl,HA,HK2,HO_4,HO_9,BK0,HB⟩:=hrel
     cases gk with
     |zero=>exact absurd HA.1 (by simp [spec_l18Spots.l1])
     |succ k2=>
      have H:=HA.1;clear HA;simp only [spec_l18Spots.l1] at H
      by_cases c9:x3_2<(l0_3.length:Int)
      ·rw [if_pos c9] at H;have c9b0:=decide_eq_true c9;clear c9;by_cases c10:0≤x8_10
       ·rw [if_pos c10] at H;have c10b0:=decide_eq_true c10;clear c10;by_cases c11:x8_10<(l0_2.length:Int)
        ·rw [if_pos c11] at H;have c11b0:=decide_eq_true c11;clear c11;by_cases c12:0≤x3_2
         ·rw [if_pos c12] at H;have c12b0:=decide_eq_true c12;clear c12;by_cases c13:x3_2<(l0_4.length:Int)
          ·rw [if_pos c13] at H;have c13b0:=decide_eq_true c13;clear c13;obtain⟨t14,A14,H⟩:=bnk H;by_cases c15:(t14.length:Int)=0
           ·rw [if_pos c15] at H;obtain⟨c15b0,c15b1⟩:=bqt c15;clear c15;by_cases c16:x9_2.length<17592186044416
            ·rw [if_pos c16] at H;have LMc16:=ak c16;clear c16;obtain⟨y17,hy17⟩:=gen_ ((x9_2++[x3_2]:List Int));rw [←hy17] at H;have Ny17:=ak hy17;clear hy17;have H':=ak H;clear H;have hcz32:=cz6 BK0.1;(try go_wp2)
             replace HO_4:=ak (Kd.S_drew HO_4.1);replace HO_9:=ak (Kd.R_drew HO_9.1);replace BK0:=ak (blk_drew BK0.1);replace HB:=ak (below_drew1 HB.1);have p5:0≤(x8_10:Int):=od;have q5:x8_10<(l0_2.length:Int):=od;obtain⟨ad5,e5,hx5_1⟩:=Kd.at_int HR0_2.1 x8_10 p5 q5;have hw5_1:=hx5_1
             cases e5;replace hx5_1:=cb HB.1 hx5_1;replace p5:=eq_true p5;replace q5:=eq_true q5;have p6:0≤(x3_2:Int):=od;have q6:x3_2<(l0_3.length:Int):=od;obtain⟨ad6,e6,hx6_1⟩:=Kd.at_int HR0_3.1 x3_2 p6 q6;have hw6_1:=hx6_1
             cases e6;replace hx6_1:=cb HB.1 hx6_1;replace p6:=eq_true p6;replace q6:=eq_true q6;have p7:0≤(x3_2:Int):=od;have q7:x3_2<(l0_4.length:Int):=od;obtain⟨ad7,e7,hx7_1⟩:=Kd.at_int HR0_4.1 x3_2 p7 q7;have hw7_1:=hx7_1
             cases e7;replace hx7_1:=cb HB.1 hx7_1;replace p7:=eq_true p7;replace q7:=eq_true q7;refine start_ (n:=22) (S:=fun w'=>w'.cell? ⟨gb0,0,none⟩=some (.slice A0_0 l0_0.length c0_0)∧w'.cell? ⟨gb0,1,none⟩=some (.slice A0_1 l0_1.length c0_1)∧w'.cell? ⟨gb0,2,none⟩=some (.slice (some ad5) l0_2.length c0_2)∧w'.cell? ⟨gb0,3,none⟩=some (.slice (some ad6) l0_3.length c0_3)∧w'.cell? ⟨gb0,4,none⟩=some (.slice (some ad7) l0_4.length c0_4)∧w'.cell? ⟨gb0,5,none⟩=some (.int .i64 a0_5)∧w'.cell? (ad5.add (x8_10).toNat)=some (.int .i64 (rd l0_2 x8_10))∧w'.cell? (ad6.add (x3_2).toNat)=some (.int .i64 (rd l0_3 x3_2))∧w'.cell? (ad7.add (x3_2).toNat)=some (.int .i64 (rd l0_4 x3_2))) (ds:=[]) (tf 0 22) (by kernel_rfl) rfl rfl ⟨bk BK0.1 0,bk BK0.1 1,bk BK0.1 2,bk BK0.1 3,bk BK0.1 4,bk BK0.1 5,(cb HB.1 hw5_1:),(cb HB.1 hw6_1:),(cb HB.1 hw7_1:)⟩ (fun hHeld=>?_);refine with_tabW spec_l18Spots.tab9 spec_l18Spots.bits9 (fun HT_ HW_=>?_);generalize wr.drew=w18 at HO_4 HO_9 BK0 HB hx5_1 hx6_1 hx7_1 hHeld ⊢;refine pu_ 0 23 (tf 1 21) rfl rfl ?_;refine pu_ 2 25 (tM [1,1,1,19]) rfl rfl ?_
             refine pu_ 4 27 (tM [1,1,1,1,1,17]) rfl rfl ?_;refine pu_ 6 29 (tM [1,1,1,1,1,1,1,15]) rfl rfl ?_;refine pu_ 9 32 (tM [1,1,1,1,1,1,1,2,1,12]) rfl rfl ?_;refine pu_ 11 34 (tM [1,1,1,1,1,1,1,2,1,1,1,10]) rfl rfl ?_;refine pu_ 14 37 (tM [1,1,1,1,1,1,1,2,1,1,1,2,1,7]) rfl rfl ?_;refine pu_ 16 39 (tM [1,1,1,1,1,1,1,2,1,1,1,2,1,1,1,5]) rfl rfl ?_;refine ta9_ 1 24 (tM [3,1,1,1,1,2,1,1,1,2,1,1,1,5]) rfl rfl ?_;refine ta9_ 3 26 (tM [5,1,1,2,1,1,1,2,1,1,1,5]) rfl rfl ?_;refine ta9_ 5 28 (tM [7,2,1,1,1,2,1,1,1,5]) rfl rfl ?_
             refine pu_ 7 30 (tM [8,1,1,1,1,2,1,1,1,5]) rfl rfl ?_;refine ta9_ 8 31 (tM [10,1,1,2,1,1,1,5]) rfl rfl ?_;refine ta9_ 10 33 (tM [12,2,1,1,1,5]) rfl rfl ?_;refine pu_ 12 35 (tM [13,1,1,1,1,5]) rfl rfl ?_;refine ta9_ 13 36 (tM [15,1,1,5]) rfl rfl ?_;refine ta9_ 15 38 (tf 17 5) rfl rfl ?_;refine pu_ 17 40 (tf 18 4) rfl rfl ?_;refine ta9_ 18 41 (tf 19 3) rfl rfl ?_;refine one_ (i:=19) (N:=some 42) (tf 20 2) rfl rfl (one_of HT_.1 (by kernel_rfl)) (by decide) (fun K hK=>?_);refine goes_ Try.func117 (by kernel_rfl) rfl #[.slice A0_0 l0_0.length c0_0,.slice A0_1 l0_1.length c0_1,.int .i64 (rd l0_2 x8_10),.int .i64 (rd l0_3 x3_2),.int .i64 (rd l0_4 x3_2)] (by rfl) rfl rfl (by(try simp only [List.map_toArray,List.map_cons,List.map_nil]);first|done|rfl|(simp only [List.length_drop,List.length_take];rfl)) ?_;with_reducible refine(spec_l16Against.calls k2 _ _ l0_0 _ _ l0_1 (rd l0_2 x8_10) (rd l0_3 x3_2) (rd l0_4 x3_2) t14 _ ?_ ?_ ?_ ?_ A14.1).mono ?_
             exact vd HR0_0.1 HB.1
             exact HC0_0.1
             exact vd HR0_1.1 HB.1
             exact HC0_1.1
             rintro e w19 ⟨v29,rfl,ho1,hb⟩;refine⟨_,rfl,?_⟩;replace HO_4:=ak (Kd.S_elder' (vS HO_4.1) (Kd.R_base ho1) hb);have HO16:=ak (Kd.R_lower (Kd.R_new' ho1 (Kd.R_lt (vr HO_9.1))) (below_size (vb HB.1)));replace HO_9:=ro HO_9 ho1 hb;replace BK0:=kb BK0 hb;replace HB:=bs HB hb;(try clear hb)
             (try clear hb2)
             (try clear hk)
             (try clear hi)
             (try clear ho1)
             obtain⟨Ao11,co11,eo11⟩:=Kd.R_slice HO16.1;(first|subst eo11|(injection eo11 with f1_ f2_ f3_;have f4_:=f1_.symm;have f5_:=f3_.symm;clear f1_ f2_ f3_;subst f4_;subst f5_))
             refine hK.out _ _ ⟨bk BK0.1 0,bk BK0.1 1,bk BK0.1 2,bk BK0.1 3,bk BK0.1 4,bk BK0.1 5,(cb HB.1 hw5_1:),(cb HB.1 hw6_1:),(cb HB.1 hw7_1:)⟩ (fun hHeld=>?_);clear hK K;refine norm_ (a':=?_) ?_ ?_
             rotate_left
             ·show Act.put _ (some 42) _=_
              simp only [Act.put,List.setIfInBounds_toArray,List.set_cons_zero,List.set_cons_succ,i64_w,i32_w]
              rfl
             refine pu_ 20 43 (tf 21 1) rfl rfl ?_;refine pu_ 21 44 (tf 22 0) rfl rfl ?_;refine done_ (done_of HT_.1 (by kernel_rfl)) ?_;(try go_wp2_with (first|((with_reducible refine at_bi (b:=.append) (xs:=#[.tmp 45,.tmp 47]) rfl ?_);at_builtin;refine Kd.R_append (Kd.int .i64) (w0:=w) w.heap.size rfl (.tmp 45) (.tmp 47) 26 2 (.int .i64 0) 8 rfl Try.underlying26 info2 rfl (by decide) (by omega) u5 x9_2 x3_2 [.int .i64 x3_2] (fun k_=>nB k_ Ao11 t14.length co11) (fun _=>False) rfl rfl ?aP (fun _ hk=>hk.elim) ?aF ?aO ?aB ?aS ?aL ?_;(case aP=>exact rfl);(case aB=>exact(vb HB.1));(case aF=>exact(fun k_ hk=>Kd.fresh' (Kd.R_lt (vr HO16.1)) k_ hk));(case aO=>exact(vr (Kd.R_mono HO_9.1 (fun _ hk=>hk.2))));(case aS=>exact(below_size (vb HB.1)));(case aL=>have:=LMc16.1;omega);intro v38 w21 ho hb hg hat;rw [←Ny17.1] at ho;have n0_:=ak (Kd.S_after (ok:=(fun k_=>nB k_ Ao11 t14.length co11)) (by(with_reducible repeat (first|apply Kd.S_alloc|apply Kd.S_drewN|apply Kd.S_drew));exact Kd.S_mono HO_4.1 (fun _ hk=>⟨hk.2,hk.1⟩)) hg hat);have n1_:=ak (blk_grown (g:=gb0) (o:=.cells #[.slice A0_0 l0_0.length c0_0,.slice A0_1 l0_1.length c0_1,.slice (some ad5) l0_2.length c0_2,.slice (some ad6) l0_3.length c0_3,.slice (some ad7) l0_4.length c0_4,.int .i64 a0_5] 28 (0,0)) (vk BK0.1) hg (Kd.R_ne HO_9.1 BK0.1 (by decide)));have n2_:=ak (Kd.R_after (ok:=(fun _=>True)) (vr HO16.1) hg hat);have n3_:=ak (hb);have n4_:=ak (ho);clear HO_4;clear BK0;clear HO16;clear HB;clear HO_9;have HO_4:=n0_;have BK0:=n1_;have HO16:=n2_;have HB:=n3_;have HO30:=n4_;clear n0_ n1_ n2_ n3_ n4_;clear ho hb hg hat)))
             go_roundg k2
             case measure=>have:=HK1.1;have:=HK2.1;omega
             case rel=>exact⟨(y17),(wrap64 (x3_2+1)),es,H',⟨by have:=HK1.1;have:=HK2.1;omega⟩,⟨by(with_reducible repeat (first|apply Kd.S_alloc|apply Kd.S_drewN|apply Kd.S_drew));exact Kd.S_mono HO_4.1 (fun _ hk=>hk.2)⟩,vm HO30,⟨vk BK0.1⟩,⟨vb HB.1⟩⟩
            ·exact nO_ c16 H
           ·rw [if_neg c15] at H;obtain⟨c15b0,c15b1⟩:=bqf c15;have c15b2:¬(t14=[]):=fun h_=>c15 (by rw [h_];rfl)
            have H':=ak H;clear H;have hcz33:=cz6 BK0.1;(try go_wp2)
            replace HO_4:=ak (Kd.S_drew HO_4.1);replace HO_9:=ak (Kd.R_drew HO_9.1);replace BK0:=ak (blk_drew BK0.1);replace HB:=ak (below_drew1 HB.1);have p5:0≤(x8_10:Int):=od;have q5:x8_10<(l0_2.length:Int):=od;obtain⟨ad5,e5,hx5_1⟩:=Kd.at_int HR0_2.1 x8_10 p5 q5;have hw5_1:=hx5_1
            cases e5;replace hx5_1:=cb HB.1 hx5_1;replace p5:=eq_true p5;replace q5:=eq_true q5;have p6:0≤(x3_2:Int):=od;have q6:x3_2<(l0_3.length:Int):=od;obtain⟨ad6,e6,hx6_1⟩:=Kd.at_int HR0_3.1 x3_2 p6 q6;have hw6_1:=hx6_1
            cases e6;replace hx6_1:=cb HB.1 hx6_1;replace p6:=eq_true p6;replace q6:=eq_true q6;have p7:0≤(x3_2:Int):=od;have q7:x3_2<(l0_4.length:Int):=od;obtain⟨ad7,e7,hx7_1⟩:=Kd.at_int HR0_4.1 x3_2 p7 q7;have hw7_1:=hx7_1
            cases e7;replace hx7_1:=cb HB.1 hx7_1;replace p7:=eq_true p7;replace q7:=eq_true q7;refine start_ (n:=22) (S:=fun w'=>w'.cell? ⟨gb0,0,none⟩=some (.slice A0_0 l0_0.length c0_0)∧w'.cell? ⟨gb0,1,none⟩=some (.slice A0_1 l0_1.length c0_1)∧w'.cell? ⟨gb0,2,none⟩=some (.slice (some ad5) l0_2.length c0_2)∧w'.cell? ⟨gb0,3,none⟩=some (.slice (some ad6) l0_3.length c0_3)∧w'.cell? ⟨gb0,4,none⟩=some (.slice (some ad7) l0_4.length c0_4)∧w'.cell? ⟨gb0,5,none⟩=some (.int .i64 a0_5)∧w'.cell? (ad5.add (x8_10).toNat)=some (.int .i64 (rd l0_2 x8_10))∧w'.cell? (ad6.add (x3_2).toNat)=some (.int .i64 (rd l0_3 x3_2))∧w'.cell? (ad7.add (x3_2).toNat)=some (.int .i64 (rd l0_4 x3_2))) (ds:=[]) (tf 0 22) (by kernel_rfl) rfl rfl ⟨bk BK0.1 0,bk BK0.1 1,bk BK0.1 2,bk BK0.1 3,bk BK0.1 4,bk BK0.1 5,(cb HB.1 hw5_1:),(cb HB.1 hw6_1:),(cb HB.1 hw7_1:)⟩ (fun hHeld=>?_);refine with_tabW spec_l18Spots.tab9 spec_l18Spots.bits9 (fun HT_ HW_=>?_);generalize wr.drew=w23 at HO_4 HO_9 BK0 HB hx5_1 hx6_1 hx7_1 hHeld ⊢;refine pu_ 0 23 (tf 1 21) rfl rfl ?_;refine pu_ 2 25 (tM [1,1,1,19]) rfl rfl ?_
            refine pu_ 4 27 (tM [1,1,1,1,1,17]) rfl rfl ?_;refine pu_ 6 29 (tM [1,1,1,1,1,1,1,15]) rfl rfl ?_;refine pu_ 9 32 (tM [1,1,1,1,1,1,1,2,1,12]) rfl rfl ?_;refine pu_ 11 34 (tM [1,1,1,1,1,1,1,2,1,1,1,10]) rfl rfl ?_;refine pu_ 14 37 (tM [1,1,1,1,1,1,1,2,1,1,1,2,1,7]) rfl rfl ?_;refine pu_ 16 39 (tM [1,1,1,1,1,1,1,2,1,1,1,2,1,1,1,5]) rfl rfl ?_;refine ta9_ 1 24 (tM [3,1,1,1,1,2,1,1,1,2,1,1,1,5]) rfl rfl ?_;refine ta9_ 3 26 (tM [5,1,1,2,1,1,1,2,1,1,1,5]) rfl rfl ?_;refine ta9_ 5 28 (tM [7,2,1,1,1,2,1,1,1,5]) rfl rfl ?_
            refine pu_ 7 30 (tM [8,1,1,1,1,2,1,1,1,5]) rfl rfl ?_;refine ta9_ 8 31 (tM [10,1,1,2,1,1,1,5]) rfl rfl ?_;refine ta9_ 10 33 (tM [12,2,1,1,1,5]) rfl rfl ?_;refine pu_ 12 35 (tM [13,1,1,1,1,5]) rfl rfl ?_;refine ta9_ 13 36 (tM [15,1,1,5]) rfl rfl ?_;refine ta9_ 15 38 (tf 17 5) rfl rfl ?_;refine pu_ 17 40 (tf 18 4) rfl rfl ?_;refine ta9_ 18 41 (tf 19 3) rfl rfl ?_;refine one_ (i:=19) (N:=some 42) (tf 20 2) rfl rfl (one_of HT_.1 (by kernel_rfl)) (by decide) (fun K hK=>?_);refine goes_ Try.func117 (by kernel_rfl) rfl #[.slice A0_0 l0_0.length c0_0,.slice A0_1 l0_1.length c0_1,.int .i64 (rd l0_2 x8_10),.int .i64 (rd l0_3 x3_2),.int .i64 (rd l0_4 x3_2)] (by rfl) rfl rfl (by(try simp only [List.map_toArray,List.map_cons,List.map_nil]);first|done|rfl|(simp only [List.length_drop,List.length_take];rfl)) ?_;with_reducible refine(spec_l16Against.calls k2 _ _ l0_0 _ _ l0_1 (rd l0_2 x8_10) (rd l0_3 x3_2) (rd l0_4 x3_2) t14 _ ?_ ?_ ?_ ?_ A14.1).mono ?_
            exact vd HR0_0.1 HB.1
            exact HC0_0.1
            exact vd HR0_1.1 HB.1
            exact HC0_1.1
            rintro e w24 ⟨v29,rfl,ho1,hb⟩;refine⟨_,rfl,?_⟩;replace HO_4:=ak (Kd.S_elder' (vS HO_4.1) (Kd.R_base ho1) hb);have HO16:=ak (Kd.R_lower (Kd.R_new' ho1 (Kd.R_lt (vr HO_9.1))) (below_size (vb HB.1)));replace HO_9:=ro HO_9 ho1 hb;replace BK0:=kb BK0 hb;replace HB:=bs HB hb;(try clear hb)
            (try clear hb2)
            (try clear hk)
            (try clear hi)
            (try clear ho1)
            obtain⟨Ao26,co26,eo26⟩:=Kd.R_slice HO16.1;(first|subst eo26|(injection eo26 with f1_ f2_ f3_;have f4_:=f1_.symm;have f5_:=f3_.symm;clear f1_ f2_ f3_;subst f4_;subst f5_))
            refine hK.out _ _ ⟨bk BK0.1 0,bk BK0.1 1,bk BK0.1 2,bk BK0.1 3,bk BK0.1 4,bk BK0.1 5,(cb HB.1 hw5_1:),(cb HB.1 hw6_1:),(cb HB.1 hw7_1:)⟩ (fun hHeld=>?_);clear hK K;refine norm_ (a':=?_) ?_ ?_
            rotate_left
            ·show Act.put _ (some 42) _=_
             simp only [Act.put,List.setIfInBounds_toArray,List.set_cons_zero,List.set_cons_succ,i64_w,i32_w]
             rfl
            refine pu_ 20 43 (tf 21 1) rfl rfl ?_;refine pu_ 21 44 (tf 22 0) rfl rfl ?_;refine done_ (done_of HT_.1 (by kernel_rfl)) ?_;(try go_wp2)
            go_roundg k2
            case measure=>have:=HK1.1;have:=HK2.1;omega
            case rel=>exact⟨(x9_2),(wrap64 (x3_2+1)),es,H',⟨by have:=HK1.1;have:=HK2.1;omega⟩,⟨by(with_reducible repeat (first|apply Kd.S_alloc|apply Kd.S_drewN|apply Kd.S_drew));exact Kd.S_mono HO_4.1 (fun _ hk=>hk.1)⟩,vm HO_9,⟨vk BK0.1⟩,⟨vb HB.1⟩⟩
          ·exact nO_ c13 H
         ·exact nO_ c12 H
        ·exact nO_ c11 H
       ·exact nO_ c10 H
      ·rw [if_neg c9] at H;have c9b0:=decide_eq_false c9;clear c9;by_cases c26:x4_10.length<5864062014805
       ·rw [if_pos c26] at H;have LMc26:=ak c26;clear c26;obtain⟨y18,hy18⟩:=gen_ ((x4_10++[x9_2]:List (List Int)));rw [←hy18] at H;have Ny18:=ak hy18;clear hy18;have H':=ak H;clear H;have hcz34:=cz6 BK0.1;obtain⟨Ao24,co24,rfl⟩:=Kd.R_slice HO_9.1;go_wp2_with (first|((with_reducible refine at_bi (b:=.append) (xs:=#[.tmp 49,.tmp 51]) rfl ?_);at_builtin;refine Kd.S_append (Kd.slice 2 (Kd.int .i64)) (w0:=w) w.heap.size rfl (.tmp 49) (.tmp 51) 41 26 (.slice none 0 0) 24 rfl Try.underlying41 info26 rfl (by decide) (by omega) u3 x4_10 x9_2 [.slice Ao24 x9_2.length co24] (fun _=>True) (fun k_=>some k_=(.slice Ao24 x9_2.length co24:Value).ownBlock) rfl rfl ?aP (fun k_ hk_=>((Kd.R_mono (ok':=fun k_=>((fun _=>True)) k_∧some k_≠(u3:Value).ownBlock) (Kd.R_apart' (HO_9.1) (Kd.S_typed HO_4.1) (by decide)) (fun k_ hk=>⟨trivial,hk.2⟩))).1 k_ hk_.symm) ?aF ?aO ?aB ?aS ?aL ?_;(case aP=>exact Kd.M_row (Kd.R_mono (Kd.R_tight rfl (Kd.R_mono (ok':=fun k_=>((fun _=>True)) k_∧some k_≠(u3:Value).ownBlock) (Kd.R_apart' (HO_9.1) (Kd.S_typed HO_4.1) (by decide)) (fun k_ hk=>⟨trivial,hk.2⟩))) (fun _ h_=>h_)));(case aB=>exact(vb HB.1));(case aF=>exact(fun _ _=>trivial));(case aO=>exact(by(with_reducible repeat (first|apply Kd.S_alloc|apply Kd.S_drewN|apply Kd.S_drew));exact Kd.S_mono HO_4.1 (fun k_ hk=>⟨trivial,fun e_=>hk e_⟩)));(case aS=>exact(below_size (vb HB.1)));(case aL=>have:=LMc26.1;omega);intro v39 w28 ho hb hg hat;rw [←Ny18.1] at ho;have n0_:=ak (blk_grown (g:=gb0) (o:=.cells (f5 A0_0 l0_0 c0_0 A0_1 l0_1 c0_1 A0_2 l0_2 c0_2 A0_3 l0_3 c0_3 A0_4 l0_4 c0_4 a0_5) 28 (0,0)) (vk BK0.1) hg (Kd.S_ne HO_4.1 BK0.1 (by decide)));have n1_:=ak (hb);have n2_:=ak (ho);clear BK0;clear HB;clear HO_4;clear HO_9;have BK0:=n0_;have HB:=n1_;have HO31:=n2_;clear n0_ n1_ n2_;clear ho hb hg hat))
        go_roundg k2
        case measure=>have:=HK1.1;have:=HK2.1;omega
        case rel=>exact⟨(y18),(wrap64 (x8_10+1)),es,H',⟨by have:=HK1.1;have:=HK2.1;omega⟩,⟨vS HO31.1⟩,⟨vk BK0.1⟩,⟨vb HB.1⟩⟩
       ·exact nO_ c26 H
   ·rw [if_neg c5] at H;have c5b0:=decide_eq_false c5;clear c5;obtain rfl:=sj H;have hcz35:=cz6 BK0.1;go_wp2
    go_ret
    exact⟨_,ew,vS HO_4.1,vb HB.1⟩
def spec_l18Placings.f (k:Nat) (l0_0:List (S91)) (l0_1:List (S69)) (l0_2:List Int) (l0_3:List Int) (l0_4:List Int) (a0_5:Int):Option ((List (List Int))):=(spec_l18Spots.f k l0_0 l0_1 l0_2 l0_3 l0_4 a0_5).bind fun t9=>((spec_l18All.f k l0_0 l0_1 l0_2 l0_3 l0_4 a0_5 t9 (([]:List Int))).bind fun t13=>(some t13))
def spec_l18Placings.T1:Bool×List (List Nat×List Nat):=(true,[([],[]),([],[]),([1],[1]),([],[]),([0,2,3,2],[0,2,3]),([4,4,0,1,2,3,4],[4])])
def spec_l18Placings.B1:List Nat:=[0,0,2,0,15,31]
theorem spec_l18Placings.tab1:rtab .any (opsOf Try.f77 1)=spec_l18Placings.T1:=by kernel_rfl
theorem spec_l18Placings.bits1:waitsOk spec_l18Placings.T1.2 spec_l18Placings.B1=true:=by kernel_rfl
theorem spec_l18Placings.calls (k:Nat) (A0_0:Option Addr) (c0_0:Nat) (l0_0:List (S91)) (A0_1:Option Addr) (c0_1:Nat) (l0_1:List (S69)) (A0_2:Option Addr) (c0_2:Nat) (l0_2:List Int) (A0_3:Option Addr) (c0_3:Nat) (l0_3:List Int) (A0_4:Option Addr) (c0_4:Nat) (l0_4:List Int) (a0_5:Int) (r:List (List Int)) (w:World) (hr0_0:Kd.C k91 w A0_0 l0_0.length l0_0) (hc0_0:l0_0.length≤c0_0) (hr0_1:Kd.C k69 w A0_1 l0_1.length l0_1) (hc0_1:l0_1.length≤c0_1) (hr0_2:Kd.C (Kd.int .i64) w A0_2 l0_2.length l0_2) (hc0_2:l0_2.length≤c0_2) (hr0_3:Kd.C (Kd.int .i64) w A0_3 l0_3.length l0_3) (hc0_3:l0_3.length≤c0_3) (hr0_4:Kd.C (Kd.int .i64) w A0_4 l0_4.length l0_4) (hc0_4:l0_4.length≤c0_4) (h:spec_l18Placings.f k l0_0 l0_1 l0_2 l0_3 l0_4 a0_5=some r):
  Calls Try.prog 77 #[.agg (f5 A0_0 l0_0 c0_0 A0_1 l0_1 c0_1 A0_2 l0_2 c0_2 A0_3 l0_3 c0_3 A0_4 l0_4 c0_4 a0_5)] w fun e w'=>∃v0_:Value,e=.returned (v0_)∧Kd.N (Kd.slice 2 (Kd.int .i64)) 26 w' w.heap.size (fun k_=>(w.heap.size≤k_)) v0_ r∧Below w.heap.size w w':=by
 have hu28:=Try.underlying28;have HR0_0:=ak hr0_0;have HC0_0:=ak hc0_0;clear hr0_0 hc0_0;have HR0_1:=ak hr0_1;have HC0_1:=ak hc0_1;clear hr0_1 hc0_1;have HR0_2:=ak hr0_2;have HC0_2:=ak hc0_2;clear hr0_2 hc0_2;have HR0_3:=ak hr0_3;have HC0_3:=ak hc0_3;clear hr0_3 hc0_3;have HR0_4:=ak hr0_4;have HC0_4:=ak hc0_4;clear hr0_4 hc0_4;have HB:=ak (Below.refl w.heap.size w);unfold spec_l18Placings.f at h;have H:=h;clear h;obtain⟨t9,A2,H⟩:=bnk H;obtain⟨y5,hy5⟩:=gen_ (([]:List Int));rw [←hy5] at H;have Ny5:=ak hy5;clear hy5;obtain⟨t13,A3,H⟩:=bnk H;obtain rfl:=sj H;go_enter Try.func77,Try.ntmps77;(try go_wp2_with (first|((with_reducible refine gate_dst (N:=1) rfl ?_);refine bx 1 (f5 A0_0 l0_0 c0_0 A0_1 l0_1 c0_1 A0_2 l0_2 c0_2 A0_3 l0_3 c0_3 A0_4 l0_4 c0_4 a0_5) 28 ?_;intro gb0 hg w4 hbox hb;have BK0:=ak hbox;have GW724:=gw hg HB;have GE0:=gw hg HB;replace HB:=bs HB hb;clear hb hbox hg)))
 replace BK0:=ak (blk_drew BK0.1);replace HB:=ak (below_drew1 HB.1);refine start_ (n:=6) (S:=fun w'=>True) (ds:=[]) (tf 0 6) (by kernel_rfl) rfl rfl trivial (fun hHeld=>?_);refine with_tabW spec_l18Placings.tab1 spec_l18Placings.bits1 (fun HT_ HW_=>?_);generalize w4.drew=w5 at BK0 HB hHeld ⊢;refine inv_at [0,1,2,3,4,5] (fun a0_ b a w'=>∃(v2:Value) (v3:Value) (v1:Value) (m5_:Value),a=putSel a0_ b [(0,3,.agg (f5 A0_0 l0_0 c0_0 A0_1 l0_1 c0_1 A0_2 l0_2 c0_2 A0_3 l0_3 c0_3 A0_4 l0_4 c0_4 a0_5)),(1,4,.agg (f5 A0_0 l0_0 c0_0 A0_1 l0_1 c0_1 A0_2 l0_2 c0_2 A0_3 l0_3 c0_3 A0_4 l0_4 c0_4 a0_5)),(2,5,v2),(3,6,v3),(4,7,v1),(5,2,m5_)]∧(w'.heap[gb0]? =some (.cells (f5 A0_0 l0_0 c0_0 A0_1 l0_1 c0_1 A0_2 l0_2 c0_2 A0_3 l0_3 c0_3 A0_4 l0_4 c0_4 a0_5) 28 (0,0)))∧(Below w.heap.size w w')∧(b 2=true→Kd.N (Kd.slice 2 (Kd.int .i64)) 26 w' w.heap.size (fun k_=>(w.heap.size≤k_)∧k_≠gb0) v2 t9)∧(b 3=true→Kd.R (Kd.int .i64) 2 w' w.heap.size (fun k_=>(w.heap.size≤k_)) v3 y5)∧(b 4=true→Kd.N (Kd.slice 2 (Kd.int .i64)) 26 w' w.heap.size (fun k_=>(w.heap.size≤k_)∧k_≠gb0) v1 t13)∧(b 5=true→(m5_:Value)=v1)) HT_.1 HW_.1 (by kernel_rfl) (by kernel_rfl) ?_ ?_ ?_
 ·exact⟨.bool false,.bool false,.bool false,.bool false,by simp only [putSel,Bool.false_eq_true,if_false],BK0.1,HB.1,fun h_=>absurd h_ (by decide),fun h_=>absurd h_ (by decide),fun h_=>absurd h_ (by decide),fun h_=>absurd h_ (by decide)⟩
 ·skip
  clear BK0 HB;refine steps_cons ?_ ?_
  ·rintro b a w' ⟨v2,v3,v1,m5_,ha,Qa,Qb,Qc,Qd,Qe,Qf⟩ hb_ hon hoff;refine⟨_,rfl,fun K hK=>?_⟩;have e18:a.tmps[1]? =some (.pointer (some ⟨gb0,0,none⟩)):=by rw [ha];exact(putSel_off rfl).trans rfl
   replace ha:=ak ha;have BK0:=ak Qa;have hc0_:w'.cell? ⟨gb0,0,none⟩=some (.slice A0_0 l0_0.length c0_0):=bk BK0.1 0;have hc1_:w'.cell? ⟨gb0,1,none⟩=some (.slice A0_1 l0_1.length c0_1):=bk BK0.1 1;have hc2_:w'.cell? ⟨gb0,2,none⟩=some (.slice A0_2 l0_2.length c0_2):=bk BK0.1 2;have hc3_:w'.cell? ⟨gb0,3,none⟩=some (.slice A0_3 l0_3.length c0_3):=bk BK0.1 3;have hc4_:w'.cell? ⟨gb0,4,none⟩=some (.slice A0_4 l0_4.length c0_4):=bk BK0.1 4;have hc5_:w'.cell? ⟨gb0,5,none⟩=some (.int .i64 a0_5):=bk BK0.1 5;refine value_ (w1:=w') (v:=.agg (f5 A0_0 l0_0 c0_0 A0_1 l0_1 c0_1 A0_2 l0_2 c0_2 A0_3 l0_3 c0_3 A0_4 l0_4 c0_4 a0_5)) (by rfl) rfl ?_ ?_
   ·go_simp
    (try simp only [i64_w])
    try rfl
   refine hK.out _ _ ⟨v2,v3,v1,m5_,(by rw [ha.1];exact putSel_upk 0 hb_ rfl rfl rfl),Qa,Qb,Qc,Qd,nQ hoff 4,nQ hoff 5⟩
  refine steps_cons ?_ ?_
  ·rintro b a w' ⟨v2,v3,v1,m5_,ha,Qa,Qb,Qc,Qd,Qe,Qf⟩ hb_ hon hoff;refine⟨_,rfl,fun K hK=>?_⟩;have e18:a.tmps[1]? =some (.pointer (some ⟨gb0,0,none⟩)):=by rw [ha];exact(putSel_off rfl).trans rfl
   replace ha:=ak ha;have BK0:=ak Qa;have hc0_:w'.cell? ⟨gb0,0,none⟩=some (.slice A0_0 l0_0.length c0_0):=bk BK0.1 0;have hc1_:w'.cell? ⟨gb0,1,none⟩=some (.slice A0_1 l0_1.length c0_1):=bk BK0.1 1;have hc2_:w'.cell? ⟨gb0,2,none⟩=some (.slice A0_2 l0_2.length c0_2):=bk BK0.1 2;have hc3_:w'.cell? ⟨gb0,3,none⟩=some (.slice A0_3 l0_3.length c0_3):=bk BK0.1 3;have hc4_:w'.cell? ⟨gb0,4,none⟩=some (.slice A0_4 l0_4.length c0_4):=bk BK0.1 4;have hc5_:w'.cell? ⟨gb0,5,none⟩=some (.int .i64 a0_5):=bk BK0.1 5;refine value_ (w1:=w') (v:=.agg (f5 A0_0 l0_0 c0_0 A0_1 l0_1 c0_1 A0_2 l0_2 c0_2 A0_3 l0_3 c0_3 A0_4 l0_4 c0_4 a0_5)) (by rfl) rfl ?_ ?_
   ·go_simp
    (try simp only [i64_w])
    try rfl
   refine hK.out _ _ ⟨v2,v3,v1,m5_,(by rw [ha.1];exact putSel_upk 1 hb_ rfl rfl rfl),Qa,Qb,nQ hoff 2,Qd,nQ hoff 4,nQ hoff 5⟩
  refine steps_cons ?_ ?_
  ·rintro b a w' ⟨v2,v3,v1,m5_,ha,Qa,Qb,Qc,Qd,Qe,Qf⟩ hb_ hon hoff;refine⟨_,rfl,fun K hK=>?_⟩;have e15:a.tmps[4]? =some (.agg (f5 A0_0 l0_0 c0_0 A0_1 l0_1 c0_1 A0_2 l0_2 c0_2 A0_3 l0_3 c0_3 A0_4 l0_4 c0_4 a0_5)):=by rw [ha];exact putSel_on (e:=(1,4,.agg (f5 A0_0 l0_0 c0_0 A0_1 l0_1 c0_1 A0_2 l0_2 c0_2 A0_3 l0_3 c0_3 A0_4 l0_4 c0_4 a0_5))) 1 rfl rfl (oQ hon 1) rfl
   replace ha:=ak ha;have BK0:=ak Qa;have HB:=ak Qb;refine goes_ Try.func103 (by kernel_rfl) rfl #[.agg (f5 A0_0 l0_0 c0_0 A0_1 l0_1 c0_1 A0_2 l0_2 c0_2 A0_3 l0_3 c0_3 A0_4 l0_4 c0_4 a0_5)] (by rfl) rfl rfl (by first|(simp only [List.map_toArray,List.map_cons,List.map_nil,Act.eval,Array.getD_eq_getD_getElem?,Option.getD_some,e15];done)|(simp only [List.map_toArray,List.map_cons,List.map_nil,Act.eval,Array.getD_eq_getD_getElem?,Option.getD_some,e15];rfl)) ?_;with_reducible refine(spec_l18Spots.calls k _ _ l0_0 _ _ l0_1 _ _ l0_2 _ _ l0_3 _ _ l0_4 a0_5 t9 _ ?_ ?_ ?_ ?_ ?_ ?_ ?_ ?_ ?_ ?_ A2.1).mono ?_
   exact vd HR0_0.1 HB.1
   exact HC0_0.1
   exact vd HR0_1.1 HB.1
   exact HC0_1.1
   exact vd HR0_2.1 HB.1
   exact HC0_2.1
   exact vd HR0_3.1 HB.1
   exact HC0_3.1
   exact vd HR0_4.1 HB.1
   exact HC0_4.1
   rintro e w6 ⟨v2,rfl,ho11,hb⟩;refine⟨_,rfl,?_⟩;have Qh:=fun h0_=>Kd.R_below (Qd h0_) hb
   have HO4:=ak (Kd.N_lower (Kd.N_mono (ok':=fun k_=>(w.heap.size≤k_)∧k_≠gb0) (Kd.S_N (Kd.S_bound ho11)) (fun k_ hk_=>⟨(Nat.le_trans (below_size (vb HB.1)) hk_.2.1),(Kd.freshB (g:=gb0) (o:=.cells (f5 A0_0 l0_0 c0_0 A0_1 l0_1 c0_1 A0_2 l0_2 c0_2 A0_3 l0_3 c0_3 A0_4 l0_4 c0_4 a0_5) 28 (0,0)) (vk BK0.1) k_ hk_.2.1)⟩)) (below_size (vb HB.1)));replace BK0:=ak (blk_below (vk BK0.1) hb);replace HB:=ak (below_step (vb HB.1) hb)
   (try clear hb2)
   (try clear hk)
   (try clear hi)
   (try clear ho11)
   refine hK.out _ _ ⟨v2,v3,v1,m5_,(by rw [ha.1];exact putSel_upk 2 hb_ rfl rfl rfl),(vk BK0.1),(vb HB.1),fun _=>(by(with_reducible repeat (first|apply Kd.N_alloc|apply Kd.N_drewN|apply Kd.N_drew));first|exact HO4.1|exact Kd.N_mono HO4.1 (fun _ hk=>by simp [hk])),Qh,nQ hoff 4,nQ hoff 5⟩
  refine steps_cons ?_ ?_
  ·rintro b a w' ⟨v2,v3,v1,m5_,ha,Qa,Qb,Qc,Qd,Qe,Qf⟩ hb_ hon hoff;refine⟨_,rfl,fun K hK=>?_⟩;replace ha:=ak ha;have BK0:=ak Qa;have HB:=ak Qb;refine Kd.R_lit_step (Kd.int .i64) _ 2 ?hg (N:=6) ?hd (xs:=([]:List Int)) (inner:=[]) (ok:=fun _=>True) (okp:=fun _=>True) ?hr ?hp (fun _ hk=>hk) trivial (Below.refl _ _) (Nat.le_refl _) (by simp) ?_;(case hd=>rfl);(case hg=>rfl);(case hr=>first|(go_simp;done)|(go_simp;rfl));(case hp=>exact(Reps.none _ _));intro v3 w6 ho10 hb hg_ hnew_;clear hg_ hnew_;(first|rw [←Ny5.1] at ho10|(simp only [Int.reduceToNat] at ho10;rw [←Ny5.1] at ho10))
   have Qg:=fun (h0_:b 2=true)=>(show Kd.N (Kd.slice 2 (Kd.int .i64)) 26 w6 w.heap.size (fun k_=>(w.heap.size≤k_)∧k_≠gb0) v2 t9 from by first|exact(Kd.N_elder' (vN ((Qc h0_))) (Kd.R_base ho10) hb)|exact Kd.N_mono (Kd.N_elder' (vN ((Qc h0_))) (Kd.R_base ho10) hb) (fun _ h_=>by first|trivial|exact h_|exact h_.1))
   have HO6:=ak (Kd.R_lower (Kd.R_newM (M:=fun k_=>(w.heap.size≤k_)) ho10 (below_size (vb HB.1)) (fun k_ h_=>h_)) (below_size (vb HB.1)));replace BK0:=ak (blk_below (vk BK0.1) hb);replace HB:=ak (below_step (vb HB.1) hb);clear hb ho10;refine hK.out _ _ ⟨v2,v3,v1,m5_,(by rw [ha.1];exact putSel_upk 3 hb_ rfl rfl rfl),(vk BK0.1),(vb HB.1),Qg,fun _=>(vr (Kd.R_mono HO6.1 (fun _ hk=>hk.1))),nQ hoff 4,nQ hoff 5⟩
  refine steps_cons ?_ ?_
  ·rintro b a w' ⟨v2,v3,v1,m5_,ha,Qa,Qb,Qc,Qd,Qe,Qf⟩ hb_ hon hoff;refine⟨_,rfl,fun K hK=>?_⟩;have e14:a.tmps[3]? =some (.agg (f5 A0_0 l0_0 c0_0 A0_1 l0_1 c0_1 A0_2 l0_2 c0_2 A0_3 l0_3 c0_3 A0_4 l0_4 c0_4 a0_5)):=by rw [ha];exact putSel_on (e:=(0,3,.agg (f5 A0_0 l0_0 c0_0 A0_1 l0_1 c0_1 A0_2 l0_2 c0_2 A0_3 l0_3 c0_3 A0_4 l0_4 c0_4 a0_5))) 0 rfl rfl (oQ hon 0) rfl
   have e16:a.tmps[5]? =some (v2):=by rw [ha];exact putSel_on (e:=(2,5,v2)) 2 rfl rfl (oQ hon 2) rfl
   have e17:a.tmps[6]? =some (v3):=by rw [ha];exact putSel_on (e:=(3,6,v3)) 3 rfl rfl (oQ hon 3) rfl
   replace ha:=ak ha;have BK0:=ak Qa;have HB:=ak Qb;have HO4:=ak (Qc (oQ hon 2));have HO6:=ak (Qd (oQ hon 3));obtain⟨Ao7,co7,eo7⟩:=Kd.N_slice HO4.1;(first|subst eo7|(injection eo7 with f1_ f2_ f3_;have f4_:=f1_.symm;have f5_:=f3_.symm;clear f1_ f2_ f3_;subst f4_;subst f5_))
   obtain⟨Ao8,co8,rfl⟩:=Kd.R_slice HO6.1
   refine goes_ Try.func102 (by kernel_rfl) rfl #[.agg (f5 A0_0 l0_0 c0_0 A0_1 l0_1 c0_1 A0_2 l0_2 c0_2 A0_3 l0_3 c0_3 A0_4 l0_4 c0_4 a0_5),.slice Ao7 t9.length co7,.slice Ao8 y5.length co8] (by rfl) rfl rfl (by first|(simp only [List.map_toArray,List.map_cons,List.map_nil,Act.eval,Array.getD_eq_getD_getElem?,Option.getD_some,e14,e16,e17];done)|(simp only [List.map_toArray,List.map_cons,List.map_nil,Act.eval,Array.getD_eq_getD_getElem?,Option.getD_some,e14,e16,e17];rfl)) ?_;with_reducible refine(spec_l18All.calls k _ _ l0_0 _ _ l0_1 _ _ l0_2 _ _ l0_3 _ _ l0_4 a0_5 _ _ t9 (fun k_=>some k_=(.slice Ao8 y5.length co8:Value).ownBlock) _ _ y5 t13 _ ?_ ?_ ?_ ?_ ?_ ?_ ?_ ?_ ?_ ?_ ?_ ?_ ?_ A3.1).mono ?_
   exact vd HR0_0.1 HB.1
   exact HC0_0.1
   exact vd HR0_1.1 HB.1
   exact HC0_1.1
   exact vd HR0_2.1 HB.1
   exact HC0_2.1
   exact vd HR0_3.1 HB.1
   exact HC0_3.1
   exact vd HR0_4.1 HB.1
   exact HC0_4.1
   exact vc (Kd.N_reads' HO4.1).2.2
   exact(Kd.N_reads' HO4.1).2.1
   exact Kd.R_V (Kd.R_tight rfl (Kd.R_types (Kd.R_apart' (HO6.1) (Kd.N_typed HO4.1) (by decide)) BK0.1 (by decide)))
   rintro e w12 ⟨v1,rfl,ho11,hb⟩;refine⟨_,rfl,?_⟩;have HO12:=ak (Kd.N_lower (Kd.N_mono (ok':=fun k_=>(w.heap.size≤k_)∧nB k_ Ao7 t9.length co7∧k_≠gb0) ho11 (fun k_ hk_=>⟨Or.elim hk_ (fun hs_=>((Kd.R_types (Kd.R_apart' (HO6.1) (Kd.N_typed HO4.1) (by decide)) BK0.1 (by decide)).1 k_ hs_.symm).1.1) (fun hn_=>(Nat.le_trans (below_size (vb HB.1)) hn_)),Or.elim hk_ (fun hs_=>((Kd.R_types (Kd.R_apart' (HO6.1) (Kd.N_typed HO4.1) (by decide)) BK0.1 (by decide)).1 k_ hs_.symm).1.2) (fun hn_=>(Kd.fresh' (Kd.N_lt (vN HO4.1)) k_ hn_)),Or.elim hk_ (fun hs_=>((Kd.R_types (Kd.R_apart' (HO6.1) (Kd.N_typed HO4.1) (by decide)) BK0.1 (by decide)).1 k_ hs_.symm).2) (fun hn_=>(Kd.freshB (g:=gb0) (o:=.cells (f5 A0_0 l0_0 c0_0 A0_1 l0_1 c0_1 A0_2 l0_2 c0_2 A0_3 l0_3 c0_3 A0_4 l0_4 c0_4 a0_5) 28 (0,0)) (vk BK0.1) k_ hn_))⟩)) (below_size (vb HB.1)));replace HO4:=ak (Kd.N_elder' (vN HO4.1) (Kd.N_base ho11) hb);replace HO6:=rb HO6 hb;replace BK0:=kb BK0 hb;replace HB:=bs HB hb;(try clear hb)
   (try clear hb2)
   (try clear hk)
   (try clear hi)
   (try clear ho11)
   refine hK.out _ _ ⟨.slice Ao7 t9.length co7,.slice Ao8 y5.length co8,v1,m5_,(by rw [ha.1];exact putSel_upk 4 hb_ rfl rfl rfl),(vk BK0.1),(vb HB.1),fun _=>(vN (Kd.N_mono HO4.1 (fun _ hk=>by first|exact⟨hk.1.1,⟨hk.1.2.1,⟨hk.2,hk.1.2.2⟩⟩⟩|simp [hk]))),fun _=>(by(with_reducible repeat (first|apply Kd.R_alloc|apply Kd.R_drewN|apply Kd.R_drew));first|exact HO6.1|exact Kd.R_mono HO6.1 (fun _ hk=>by simp [hk])),fun _=>(by(with_reducible repeat (first|apply Kd.N_alloc|apply Kd.N_drewN|apply Kd.N_drew));first|exact HO12.1|exact Kd.N_mono HO12.1 (fun _ hk=>by simp [hk])),nQ hoff 5⟩
  refine steps_cons ?_ ?_
  ·rintro b a w' ⟨v2,v3,v1,m5_,ha,Qa,Qb,Qc,Qd,Qe,Qf⟩ hb_ hon hoff;refine⟨_,rfl,fun K hK=>?_⟩;have e10:a.tmps[7]? =some (v1):=by rw [ha];exact putSel_on (e:=(4,7,v1)) 4 rfl rfl (oQ hon 4) rfl
   replace ha:=ak ha;refine value_ (w1:=w') (v:=v1) (by rfl) rfl ?_ ?_
   ·go_simp
    (try simp only [i64_w])
    try rfl
   refine hK.out _ _ ⟨v2,v3,v1,(v1),(by rw [ha.1];exact putSel_upk 5 hb_ rfl rfl rfl),Qa,Qb,Qc,Qd,Qe,fun _=>rfl⟩
  exact steps_nil
 rintro b a w12 hall ⟨v2,v3,v1,m5_,ha,Qa,Qb,Qc,Qd,Qe,Qf⟩;clear BK0 HB;have hb0_:=oQ hall 0;have hb1_:=oQ hall 1;have hb2_:=oQ hall 2;have hb3_:=oQ hall 3;have hb4_:=oQ hall 4;have hb5_:=oQ hall 5;subst ha;obtain rfl:=Qf hb5_;simp only [putSel,hb0_,hb1_,hb2_,hb3_,hb4_,hb5_,if_true,Act.put,List.setIfInBounds_toArray,List.set_cons_zero,List.set_cons_succ]
 have BK0:=ak Qa;clear Qa;have HB:=ak Qb;clear Qb;have HO4:=ak (Qc hb2_);clear Qc;have HO6:=ak (Qd hb3_);clear Qd;have HO12:=ak (Qe hb4_);clear Qe;clear hall hb0_ hb1_ hb2_ hb3_ hb4_ hb5_;(try go_wp2)
 go_ret
 exact⟨_,ew,vN (Kd.N_mono HO12.1 (fun _ hk=>hk.1)),vb HB.1⟩
def spec_l19Is.f (k:Nat) (l0_0:List (S91)) (l0_1:List (S69)) (l0_2:List Int) (l0_3:List Int) (l0_4:List Int) (a0_5:Int) (l1:List Int):Option (Bool):=(spec_l19Without.f k l0_0 l0_1 l0_2 l0_3 l0_4 a0_5 l1).bind fun bt0=>((spec_l18Placings.f k bt0.1 bt0.2.1 bt0.2.2.1 bt0.2.2.2.1 bt0.2.2.2.2.1 bt0.2.2.2.2.2).bind fun t19=>(some (decide ((t19.length:Int)>0))))
theorem spec_l19Is.calls (k:Nat) (A0_0:Option Addr) (c0_0:Nat) (l0_0:List (S91)) (A0_1:Option Addr) (c0_1:Nat) (l0_1:List (S69)) (A0_2:Option Addr) (c0_2:Nat) (l0_2:List Int) (A0_3:Option Addr) (c0_3:Nat) (l0_3:List Int) (A0_4:Option Addr) (c0_4:Nat) (l0_4:List Int) (a0_5:Int) (A1:Option Addr) (c1:Nat) (l1:List Int) (r:Bool) (w:World) (hr0_0:Kd.C k91 w A0_0 l0_0.length l0_0) (hc0_0:l0_0.length≤c0_0) (hr0_1:Kd.C k69 w A0_1 l0_1.length l0_1) (hc0_1:l0_1.length≤c0_1) (hr0_2:Kd.C (Kd.int .i64) w A0_2 l0_2.length l0_2) (hc0_2:l0_2.length≤c0_2) (hr0_3:Kd.C (Kd.int .i64) w A0_3 l0_3.length l0_3) (hc0_3:l0_3.length≤c0_3) (hr0_4:Kd.C (Kd.int .i64) w A0_4 l0_4.length l0_4) (hc0_4:l0_4.length≤c0_4) (hr1:Kd.C (Kd.int .i64) w A1 l1.length l1) (hc1:l1.length≤c1) (h:spec_l19Is.f k l0_0 l0_1 l0_2 l0_3 l0_4 a0_5 l1=some r):
  Calls Try.prog 48 #[.agg (f5 A0_0 l0_0 c0_0 A0_1 l0_1 c0_1 A0_2 l0_2 c0_2 A0_3 l0_3 c0_3 A0_4 l0_4 c0_4 a0_5),.slice A1 l1.length c1] w fun e w'=>e=.returned (.bool r)∧Below w.heap.size w w':=by
 have hu28:=Try.underlying28;have HR0_0:=ak hr0_0;have HC0_0:=ak hc0_0;clear hr0_0 hc0_0;have HR0_1:=ak hr0_1;have HC0_1:=ak hc0_1;clear hr0_1 hc0_1;have HR0_2:=ak hr0_2;have HC0_2:=ak hc0_2;clear hr0_2 hc0_2;have HR0_3:=ak hr0_3;have HC0_3:=ak hc0_3;clear hr0_3 hc0_3;have HR0_4:=ak hr0_4;have HC0_4:=ak hc0_4;clear hr0_4 hc0_4;have HR1:=ak hr1;have HC1:=ak hc1;clear hr1 hc1;have HB:=ak (Below.refl w.heap.size w);unfold spec_l19Is.f at h;have H:=h;clear h;obtain⟨⟨t0,t13,t14,t15,t16,t18⟩,A30,H⟩:=bnd H;dsimp only at H;have A3:=ak A30;clear A30;obtain⟨t19,A4,H⟩:=bnk H;obtain rfl:=sj H;go_enter Try.func48,Try.ntmps48;go_wp2_with (first|((with_reducible refine gate_dst (N:=2) rfl ?_);refine bx 2 (f5 A0_0 l0_0 c0_0 A0_1 l0_1 c0_1 A0_2 l0_2 c0_2 A0_3 l0_3 c0_3 A0_4 l0_4 c0_4 a0_5) 28 ?_;intro gb1 hg w5 hbox hb;have BK1:=ak hbox;have GW734:=gw hg HB;have GE1:=gw hg HB;replace HB:=bs HB hb;clear hb hbox hg;have hcz25:=cz6 BK1.1)|((with_reducible refine at_fn (f:=50) rfl ?_);refine gl (some 7) Try.func50 #[.agg (f5 A0_0 l0_0 c0_0 A0_1 l0_1 c0_1 A0_2 l0_2 c0_2 A0_3 l0_3 c0_3 A0_4 l0_4 c0_4 a0_5),.slice A1 l1.length c1] ?_;(with_reducible refine(spec_l19Without.calls k _ _ l0_0 _ _ l0_1 _ _ l0_2 _ _ l0_3 _ _ l0_4 a0_5 _ _ l1 t0 t13 t14 t15 t16 t18 _ ?_ HC0_0.1 ?_ HC0_1.1 ?_ HC0_2.1 ?_ HC0_3.1 ?_ HC0_4.1 ?_ HC1.1 A3.1).mono ?_);exact vd HR0_0.1 HB.1;exact vd HR0_1.1 HB.1;exact vd HR0_2.1 HB.1;exact vd HR0_3.1 HB.1;exact vd HR0_4.1 HB.1;exact vd HR1.1 HB.1;rintro e w7 ⟨v26,v27,v28,v29,v30,rfl,ho7,ho20,ho21,ho22,ho23,hb⟩;refine⟨_,rfl,?_⟩;have HO2:=ak (Kd.R_lower ho7 (below_size (vb HB.1)));have HO3:=ak (Kd.R_lower ho20 (below_size (vb HB.1)));have HO4:=ak (Kd.R_lower ho21 (below_size (vb HB.1)));have HO5:=ak (Kd.R_lower ho22 (below_size (vb HB.1)));have HO6:=ak (Kd.R_lower ho23 (below_size (vb HB.1)));replace BK1:=kb BK1 hb;replace HB:=bs HB hb;(try clear hb);(try clear ho7);(try clear ho20);(try clear ho21);(try clear ho22);(try clear ho23);obtain⟨Ao8,co8,rfl⟩:=Kd.R_slice HO2.1;obtain⟨Ao9,co9,rfl⟩:=Kd.R_slice HO3.1;obtain⟨Ao10,co10,rfl⟩:=Kd.R_slice HO4.1;obtain⟨Ao11,co11,rfl⟩:=Kd.R_slice HO5.1;obtain⟨Ao12,co12,rfl⟩:=Kd.R_slice HO6.1)|((with_reducible refine at_fn (f:=77) rfl ?_);refine gl (some 8) Try.func77 #[.agg (f5 Ao8 t0 co8 Ao9 t13 co9 Ao10 t14 co10 Ao11 t15 co11 Ao12 t16 co12 t18)] ?_;(with_reducible refine(spec_l18Placings.calls k _ _ t0 _ _ t13 _ _ t14 _ _ t15 _ _ t16 t18 t19 _ ?_ ?_ ?_ ?_ ?_ ?_ ?_ ?_ ?_ ?_ A4.1).mono ?_);exact rc_ HO2;exact rl_ HO2;exact rc_ HO3;exact rl_ HO3;exact rc_ HO4;exact rl_ HO4;exact rc_ HO5;exact rl_ HO5;exact rc_ HO6;exact rl_ HO6;rintro e w13 ⟨v31,rfl,ho7,hb⟩;refine⟨_,rfl,?_⟩;have HO24:=ak (Kd.N_lower (Kd.N_mono (ok':=fun k_=>nB k_ Ao8 t0.length co8∧nB k_ Ao9 t13.length co9∧nB k_ Ao10 t14.length co10∧nB k_ Ao11 t15.length co11∧nB k_ Ao12 t16.length co12∧k_≠gb1) ho7 (fun k_ hk_=>⟨(Kd.fresh' (Kd.R_lt (vr HO2.1)) k_ hk_),(Kd.fresh' (Kd.R_lt (vr HO3.1)) k_ hk_),(Kd.fresh' (Kd.R_lt (vr HO4.1)) k_ hk_),(Kd.fresh' (Kd.R_lt (vr HO5.1)) k_ hk_),(Kd.fresh' (Kd.R_lt (vr HO6.1)) k_ hk_),(Kd.freshB (g:=gb1) (o:=.cells (f5 A0_0 l0_0 c0_0 A0_1 l0_1 c0_1 A0_2 l0_2 c0_2 A0_3 l0_3 c0_3 A0_4 l0_4 c0_4 a0_5) 28 (0,0)) (vk BK1.1) k_ hk_)⟩)) (below_size (vb HB.1)));replace HO2:=rb HO2 hb;replace HO3:=rb HO3 hb;replace HO4:=rb HO4 hb;replace HO5:=rb HO5 hb;replace HO6:=rb HO6 hb;replace BK1:=kb BK1 hb;replace HB:=bs HB hb;(try clear hb);(try clear ho7);obtain⟨Ao17,co17,eo17⟩:=Kd.N_slice HO24.1;subst eo17))
 go_ret
 exact⟨ew,vb HB.1⟩
end Go.Proofs.Ytiblahniohjbbaa.Pall
