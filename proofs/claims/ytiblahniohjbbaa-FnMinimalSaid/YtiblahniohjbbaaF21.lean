/- Go functions of the program, each as a Lean function, and the proof that each call comes to what the Lean function tells; no condition beyond those that stand there. -/
import Derived.Test.YtiblahniohjbbaaF16
import Derived.Test.YtiblahniohjbbaaF20
namespace Go.Proofs.Ytiblahniohjbbaa.Pall
set_option maxRecDepth 100000
set_option maxHeartbeats 8000000
open Go.RowKit Go.Proofs.YtiblahniohjbbaaW.PrintWords Go.Proofs.YtiblahniohjbbaaW.PrintLast Go.Proofs.YtiblahniohjbbaaW.PrintMore
set_option linter.unusedVariables false
set_option linter.unusedSimpArgs false
mutual
def spec_NeededAreas.l0:Nat→List (List Int)→List Int→Int→List (S91)→List (S69)→List Int→List Int→List Int→Int→Option (List Int×Int)
 |0,_,_,_,_,_,_,_,_,_=>none
 |k+1,x5,x1,x2,x18,x14,x19,x20,x21,x22=>if x2<(x14.length:Int) then (spec_NeededAreas.l1 k x5 x1 x2 true 0 x18 x14 x19 x20 x21 x22) else (some (x1,0))
def spec_NeededAreas.l1:Nat→List (List Int)→List Int→Int→Bool→Int→List (S91)→List (S69)→List Int→List Int→List Int→Int→Option (List Int×Int)
 |0,_,_,_,_,_,_,_,_,_,_,_=>none
 |k+1,x5,x1,x2,x10,x3,x18,x14,x19,x20,x21,x22=>if x3<(x5.length:Int) then (if x10=true then (if 0≤x3 then ((spec_l01Has.f k (rd_L4 x5 x3) x2).bind fun t23=>(spec_NeededAreas.l1 k x5 x1 x2 t23 (wrap64 (x3+1)) x18 x14 x19 x20 x21 x22)) else (none)) else (spec_NeededAreas.l1 k x5 x1 x2 false (wrap64 (x3+1)) x18 x14 x19 x20 x21 x22)) else (if x10=true then (if x1.length<17592186044416 then (spec_NeededAreas.l0 k x5 (x1++[x2]) (wrap64 (x2+1)) x18 x14 x19 x20 x21 x22) else (none)) else (spec_NeededAreas.l0 k x5 x1 (wrap64 (x2+1)) x18 x14 x19 x20 x21 x22))
end
def spec_NeededAreas.f (k:Nat) (l0_0:List (S91)) (l0_1:List (S69)) (l0_2:List Int) (l0_3:List Int) (l0_4:List Int) (a0_5:Int):Option (List Int×Int):=(spec_l19Code.f k l0_0 l0_1 l0_2 l0_3 l0_4 a0_5 ([]:List Int)).bind fun t16=>(if t16=0 then ((spec_l19All.f k l0_0 l0_1 l0_2 l0_3 l0_4 a0_5).bind fun t8=>(if (t8.length:Int)=0 then (some (([]:List Int),4)) else (spec_NeededAreas.l0 k t8 (([]:List Int)) 0 l0_0 l0_1 l0_2 l0_3 l0_4 a0_5))) else (some (([]:List Int),t16)))
theorem spec_NeededAreas.calls (k:Nat) (A0_0:Option Addr) (c0_0:Nat) (l0_0:List (S91)) (A0_1:Option Addr) (c0_1:Nat) (l0_1:List (S69)) (A0_2:Option Addr) (c0_2:Nat) (l0_2:List Int) (A0_3:Option Addr) (c0_3:Nat) (l0_3:List Int) (A0_4:Option Addr) (c0_4:Nat) (l0_4:List Int) (a0_5:Int) (r1:List Int) (r2:Int) (w:World) (hr0_0:Kd.C k91 w A0_0 l0_0.length l0_0) (hc0_0:l0_0.length≤c0_0) (hr0_1:Kd.C k69 w A0_1 l0_1.length l0_1) (hc0_1:l0_1.length≤c0_1) (hr0_2:Kd.C (Kd.int .i64) w A0_2 l0_2.length l0_2) (hc0_2:l0_2.length≤c0_2) (hr0_3:Kd.C (Kd.int .i64) w A0_3 l0_3.length l0_3) (hc0_3:l0_3.length≤c0_3) (hr0_4:Kd.C (Kd.int .i64) w A0_4 l0_4.length l0_4) (hc0_4:l0_4.length≤c0_4) (h:spec_NeededAreas.f k l0_0 l0_1 l0_2 l0_3 l0_4 a0_5=some (r1,r2)):
  Calls Try.prog 25 #[.agg (f5 A0_0 l0_0 c0_0 A0_1 l0_1 c0_1 A0_2 l0_2 c0_2 A0_3 l0_3 c0_3 A0_4 l0_4 c0_4 a0_5)] w fun e w'=>∃v0_:Value,e=.returned (.tuple #[v0_,.int .i64 r2])∧Kd.R (Kd.int .i64) 2 w' w.heap.size (fun _=>True) v0_ r1∧Below w.heap.size w w':=by
 have hu28:=Try.underlying28;have HR0_0:=ak hr0_0;have HC0_0:=ak hc0_0;clear hr0_0 hc0_0;have HR0_1:=ak hr0_1;have HC0_1:=ak hc0_1;clear hr0_1 hc0_1;have HR0_2:=ak hr0_2;have HC0_2:=ak hc0_2;clear hr0_2 hc0_2;have HR0_3:=ak hr0_3;have HC0_3:=ak hc0_3;clear hr0_3 hc0_3;have HR0_4:=ak hr0_4;have HC0_4:=ak hc0_4;clear hr0_4 hc0_4;have HB:=ak (Below.refl w.heap.size w);unfold spec_NeededAreas.f at h;have H:=h;clear h;obtain⟨t16,A2,H⟩:=bnk H;by_cases c3:t16=0
 rw [if_pos c3] at H;obtain⟨c3b0,c3b1⟩:=bqt c3;clear c3;obtain⟨t8,A4,H⟩:=bnk H;by_cases c5:(t8.length:Int)=0
 rw [if_pos c5] at H;obtain⟨c5b0,c5b1⟩:=bqt c5;clear c5;simp only [Option.some.injEq,Prod.mk.injEq] at H
 obtain⟨rfl,rfl⟩:=H;rotate_left
 ·rw [if_neg c5] at H;obtain⟨c5b0,c5b1⟩:=bqf c5;have c5b2:¬(t8=[]):=fun h_=>c5 (by rw [h_];rfl)
  obtain⟨y11,hy11⟩:=gen_ (([]:List Int));rw [←hy11] at H;have Ny11:=ak hy11;clear hy11;have H':=ak H;clear H;go_enter Try.func25,Try.ntmps25;go_wp2_with (first|((with_reducible refine gate_dst (N:=1) rfl ?_);refine bx 1 (f5 A0_0 l0_0 c0_0 A0_1 l0_1 c0_1 A0_2 l0_2 c0_2 A0_3 l0_3 c0_3 A0_4 l0_4 c0_4 a0_5) 28 ?_;intro gb0 hg w12 hbox hb;have BK0:=ak hbox;have GW1112:=gw hg HB;have GE0:=gw hg HB;replace HB:=bs HB hb;clear hb hbox hg;have hcz28:=cz6 BK0.1)|((with_reducible refine at_fn (f:=47) rfl ?_);refine gl (some 11) Try.func47 #[.agg (f5 A0_0 l0_0 c0_0 A0_1 l0_1 c0_1 A0_2 l0_2 c0_2 A0_3 l0_3 c0_3 A0_4 l0_4 c0_4 a0_5),.slice none 0 0] ?_;(refine(spec_l19Code.calls k _ _ l0_0 _ _ l0_1 _ _ l0_2 _ _ l0_3 _ _ l0_4 a0_5 _ _ ([]:List Int) t16 _ ?_ ?_ ?_ ?_ ?_ ?_ ?_ ?_ ?_ ?_ ?_ ?_ A2.1).mono ?_);exact vd HR0_0.1 HB.1;exact HC0_0.1;exact vd HR0_1.1 HB.1;exact HC0_1.1;exact vd HR0_2.1 HB.1;exact HC0_2.1;exact vd HR0_3.1 HB.1;exact HC0_3.1;exact vd HR0_4.1 HB.1;exact HC0_4.1;exact Kd.C_nil _ _;exact Nat.le_refl _;rintro e w14 ⟨rfl,hb⟩;refine⟨_,rfl,?_⟩;replace BK0:=kb BK0 hb;replace HB:=bs HB hb;(try clear hb);have hcz29:=cz6 BK0.1)|((with_reducible refine at_fn (f:=61) rfl ?_);refine gl (some 16) Try.func61 #[.agg (f5 A0_0 l0_0 c0_0 A0_1 l0_1 c0_1 A0_2 l0_2 c0_2 A0_3 l0_3 c0_3 A0_4 l0_4 c0_4 a0_5)] ?_;(with_reducible refine(spec_l19All.calls k _ _ l0_0 _ _ l0_1 _ _ l0_2 _ _ l0_3 _ _ l0_4 a0_5 t8 _ ?_ HC0_0.1 ?_ HC0_1.1 ?_ HC0_2.1 ?_ HC0_3.1 ?_ HC0_4.1 A4.1).mono ?_);exact vd HR0_0.1 HB.1;exact vd HR0_1.1 HB.1;exact vd HR0_2.1 HB.1;exact vd HR0_3.1 HB.1;exact vd HR0_4.1 HB.1;rintro e w16 ⟨v25,rfl,ho9,hb⟩;refine⟨_,rfl,?_⟩;have HO17:=ak (Kd.N_lower (Kd.N_mono (ok':=fun k_=>k_≠gb0) ho9 (fun k_ hk_=>(Kd.freshB (g:=gb0) (o:=.cells (f5 A0_0 l0_0 c0_0 A0_1 l0_1 c0_1 A0_2 l0_2 c0_2 A0_3 l0_3 c0_3 A0_4 l0_4 c0_4 a0_5) 28 (0,0)) (vk BK0.1) k_ hk_))) (below_size (vb HB.1)));replace BK0:=kb BK0 hb;replace HB:=bs HB hb;(try clear hb);(try clear ho9);obtain⟨Ao12,co12,eo12⟩:=Kd.N_slice HO17.1;subst eo12)|((with_reducible refine gate_dst (N:=20) rfl ?_);refine Kd.R_lit (Kd.int .i64) _ 2 ?hg (N:=20) ?hd (xs:=([]:List Int)) (inner:=[]) (ok:=fun _=>True) (okp:=fun _=>True) ?hr ?hp (fun _ hk=>hk) trivial (Below.refl _ _) (Nat.le_refl _) (by simp) ?_;(case hd=>rfl);(case hg=>rfl);(case hr=>first|(go_simp;done)|(go_simp;rfl));(case hp=>exact(Reps.none _ _));intro v32 w18 ho15 hb hg_ hnew_;clear hg_ hnew_;(first|rw [←Ny11.1] at ho15|(simp only [Int.reduceToNat] at ho15;rw [←Ny11.1] at ho15));replace HO17:=ak (Kd.N_elder' (vN HO17.1) (Kd.R_base ho15) hb);have HO26:=ak (Kd.R_lower ho15 (below_size (vb HB.1)));replace BK0:=kb BK0 hb;replace HB:=bs HB hb;clear hb ho15))
  go_loopg [6,7] k (fun kq v1 v2 w'=>∃(x1_4:List Int) (x2_4:Int),v2=.int .i64 x2_4∧Aside0 (spec_NeededAreas.l0 kq t8 x1_4 x2_4 l0_0 l0_1 l0_2 l0_3 l0_4 a0_5=some (r1,r2))∧Aside0 (kq≤k)∧Aside0 (Kd.N (Kd.slice 2 (Kd.int .i64)) 26 w' w.heap.size (fun k_=>some k_≠(v1:Value).ownBlock∧k_≠gb0) (.slice Ao12 t8.length co12) t8)∧Aside0 (Kd.R (Kd.int .i64) 2 w' w.heap.size (fun _=>True) v1 x1_4)∧Aside0 (w'.heap[gb0]? =some (.cells (f5 A0_0 l0_0 c0_0 A0_1 l0_1 c0_1 A0_2 l0_2 c0_2 A0_3 l0_3 c0_3 A0_4 l0_4 c0_4 a0_5) 28 (0,0)))∧Aside0 (Below w.heap.size w w'))
  case atStart=>exact⟨(y11),(0),es,H',⟨Nat.le_refl _⟩,⟨vN (Kd.N_mono HO17.1 (fun _ hk=>⟨hk.2,hk.1⟩))⟩,⟨vr HO26.1⟩,⟨vk BK0.1⟩,⟨vb HB.1⟩⟩
  case round=>
   clear H';obtain⟨x1_4,x2_4,rfl,HA,HK1,HO_5,HO_1,BK0,HB⟩:=hrel
   cases gk with
   |zero=>exact absurd HA.1 (by simp [spec_NeededAreas.l0])
   |succ k1=>
    have H:=HA.1;clear HA;simp only [spec_NeededAreas.l0] at H
    by_cases c20:x2_4<(l0_1.length:Int)
    ·rw [if_pos c20] at H;have c20b0:=decide_eq_true c20;clear c20;have H':=ak H;clear H;have hcz30:=cz6 BK0.1;go_wp2
     go_loopg [8,9] k1 (fun kq v10 v3 w'=>∃(x10_6:Bool) (x3_6:Int),v10=.bool x10_6∧v3=.int .i64 x3_6∧Aside0 (spec_NeededAreas.l1 kq t8 x1_4 x2_4 x10_6 x3_6 l0_0 l0_1 l0_2 l0_3 l0_4 a0_5=some (r1,r2))∧Aside0 (kq≤k1)∧Aside0 (Kd.N (Kd.slice 2 (Kd.int .i64)) 26 w' w.heap.size (fun k_=>some k_≠(u6:Value).ownBlock∧k_≠gb0) (.slice Ao12 t8.length co12) t8)∧Aside0 (Kd.R (Kd.int .i64) 2 w' w.heap.size (fun _=>True) u6 x1_4)∧Aside0 (w'.heap[gb0]? =some (.cells (f5 A0_0 l0_0 c0_0 A0_1 l0_1 c0_1 A0_2 l0_2 c0_2 A0_3 l0_3 c0_3 A0_4 l0_4 c0_4 a0_5) 28 (0,0)))∧Aside0 (Below w.heap.size w w'))
     case atStart=>exact⟨(true),(0),es,es,H',⟨Nat.le_refl _⟩,⟨vN HO_5.1⟩,⟨vr HO_1.1⟩,⟨vk BK0.1⟩,⟨vb HB.1⟩⟩
     case round=>
      clear H';obtain⟨x10_6,x3_6,rfl,rfl,HA,HK2,HO_5,HO_1,BK0,HB⟩:=hrel
      cases gk with
      |zero=>exact absurd HA.1 (by simp [spec_NeededAreas.l1])
      |succ k2=>
       have H:=HA.1;clear HA;simp only [spec_NeededAreas.l1] at H
       by_cases c22:x3_6<(t8.length:Int)
       ·rw [if_pos c22] at H;have c22b0:=decide_eq_true c22;clear c22;by_cases c23:x10_6=true
        ·subst c23;rw [if_pos rfl] at H;by_cases c24:0≤x3_6
         ·rw [if_pos c24] at H;have c24b0:=decide_eq_true c24;clear c24;obtain⟨t23,A25,H⟩:=bnk H;have H':=ak H;clear H;have p7:0≤(x3_6:Int):=od;have q7:x3_6<(t8.length:Int):=od;obtain⟨ad7,A1120_0,c1120_0,e7,hx7_9,hl1120_0,hi1120_0⟩:=at_L4 (Kd.N_reads' HO_5.1).2.2 x3_6 p7 q7
          cases e7;obtain⟨ce1120,hce1120,hMe1120,hcc1120⟩:=Kd.N_get HO_5.1 [] x3_6 p7 (by first|exact q7|exact od|(have e_:=(Kd.N_reads' HO_5.1).1;omega));obtain⟨ua1120_0,uc1120_0,rfl,ul1120_0,ge1120_0⟩:=Kd.FK_slice_open hMe1120;have hv7_9:=hcc1120 0 _ rfl;rw [Nat.add_zero,show ((Kd.slice 2 (Kd.int .i64))).sz=1 from rfl,Nat.mul_one] at hv7_9;replace hv7_9:=Option.some.inj (hv7_9.symm.trans hx7_9);injection hv7_9 with hva_ hvn_ hvc_
          rw [hva_] at ge1120_0;rw [hvc_] at ul1120_0;have HL1120_0:=ak (show Kd.V (Kd.int .i64) 2 _ w.heap.size _ _ (rd_L4 t8 x3_6) from Kd.V_mk ul1120_0 ge1120_0);clear hva_ hvn_ hvc_ ge1120_0 ul1120_0;clear hcc1120 hce1120;have HR1120_0:=ak hi1120_0;have HC1120_0:=ak hl1120_0;clear hi1120_0 hl1120_0;replace p7:=eq_true p7;replace q7:=eq_true q7;go_wp2_with (first|(go_at_call 62;(with_reducible refine(spec_l01Has.calls k2 _ _ (rd_L4 t8 x3_6) x2_4 t23 _ ?side1 HC1120_0.1 A25.1).mono ?_);(case side1=>repeat (first|exact(by repeat (first|(with_reducible exact HR1120_0.1)|(with_reducible refine Kd.C_alloc ?_ _)|(with_reducible refine Kd.C_drewN ?_ _)|(with_reducible refine Kd.C_drew ?_)|exact HR1120_0.1))|(with_reducible refine Kd.C_alloc ?_ _)|(with_reducible refine Kd.C_drewN ?_ _)|(with_reducible refine Kd.C_drew ?_)));rintro e w' ⟨rfl,⟨nd,rfl⟩⟩))
          go_roundg k2
          case measure=>have:=HK1.1;have:=HK2.1;omega
          case rel=>exact⟨(t23),(wrap64 (x3_6+1)),es,es,H',⟨by have:=HK1.1;have:=HK2.1;omega⟩,⟨vN HO_5.1⟩,⟨vr HO_1.1⟩,⟨vk BK0.1⟩,⟨vb HB.1⟩⟩
         ·exact nO_ c24 H
        ·replace c23:=Bool.eq_false_iff.mpr c23;subst c23;rw [if_neg nf] at H;have H':=ak H;clear H;go_wp2
         go_roundg k2
         case measure=>have:=HK1.1;have:=HK2.1;omega
         case rel=>exact⟨(false),(wrap64 (x3_6+1)),es,es,H',⟨by have:=HK1.1;have:=HK2.1;omega⟩,⟨vN HO_5.1⟩,⟨vr HO_1.1⟩,⟨vk BK0.1⟩,⟨vb HB.1⟩⟩
       ·rw [if_neg c22] at H;have c22b0:=decide_eq_false c22;clear c22;by_cases c26:x10_6=true
        ·subst c26;rw [if_pos rfl] at H;by_cases c27:x1_4.length<17592186044416
         ·rw [if_pos c27] at H;have LMc27:=ak c27;clear c27;obtain⟨y13,hy13⟩:=gen_ ((x1_4++[x2_4]:List Int));rw [←hy13] at H;have Ny13:=ak hy13;clear hy13;have H':=ak H;clear H;go_wp2_with (first|((with_reducible refine at_bi (b:=.append) (xs:=#[.tmp 44,.tmp 46]) rfl ?_);at_builtin;refine Kd.R_append (Kd.int .i64) (w0:=w) w.heap.size rfl (.tmp 44) (.tmp 46) 26 2 (.int .i64 0) 8 rfl Try.underlying26 info2 rfl (by decide) (by omega) u6 x1_4 x2_4 [.int .i64 x2_4] (fun _=>True) (fun _=>False) rfl rfl ?aP (fun _ hk=>hk.elim) ?aF ?aO ?aB ?aS ?aL ?_;(case aP=>exact rfl);(case aB=>exact(vb HB.1));(case aF=>exact(fun _ _=>trivial));(case aO=>exact(vr HO_1.1));(case aS=>exact(below_size (vb HB.1)));(case aL=>have:=LMc27.1;omega);intro v33 w28 ho hb hg hat;rw [←Ny13.1] at ho;have n0_:=ak (Kd.N_afterv (ok:=(fun k_=>k_≠gb0)) (vN (Kd.N_mono HO_5.1 (fun _ hk=>⟨hk.2,hk.1⟩))) hg hat);have n1_:=ak (blk_grown (g:=gb0) (o:=.cells (f5 A0_0 l0_0 c0_0 A0_1 l0_1 c0_1 A0_2 l0_2 c0_2 A0_3 l0_3 c0_3 A0_4 l0_4 c0_4 a0_5) 28 (0,0)) (vk BK0.1) hg (Kd.R_ne HO_1.1 BK0.1 (by decide)));have n2_:=ak (hb);have n3_:=ak (ho);clear HO_5;clear BK0;clear HB;clear HO_1;have HO_5:=n0_;have BK0:=n1_;have HB:=n2_;have HO27:=n3_;clear n0_ n1_ n2_ n3_;clear ho hb hg hat))
          go_roundg k2
          case measure=>have:=HK1.1;have:=HK2.1;omega
          case rel=>exact⟨(y13),(wrap64 (x2_4+1)),es,H',⟨by have:=HK1.1;have:=HK2.1;omega⟩,⟨vN (Kd.N_mono HO_5.1 (fun _ hk=>⟨hk.2,hk.1⟩))⟩,⟨vr HO27.1⟩,⟨vk BK0.1⟩,⟨vb HB.1⟩⟩
         ·exact nO_ c27 H
        ·replace c26:=Bool.eq_false_iff.mpr c26;subst c26;rw [if_neg nf] at H;have H':=ak H;clear H;go_wp2
         go_roundg k2
         case measure=>have:=HK1.1;have:=HK2.1;omega
         case rel=>exact⟨(x1_4),(wrap64 (x2_4+1)),es,H',⟨by have:=HK1.1;have:=HK2.1;omega⟩,⟨vN HO_5.1⟩,⟨vr HO_1.1⟩,⟨vk BK0.1⟩,⟨vb HB.1⟩⟩
    ·rw [if_neg c20] at H;have c20b0:=decide_eq_false c20;clear c20;simp only [Option.some.injEq,Prod.mk.injEq] at H
     obtain⟨rfl,rfl⟩:=H;have hcz31:=cz6 BK0.1;go_wp2
     go_ret2
     exact⟨_,ew,vr HO_1.1,vb HB.1⟩
 rw [if_neg c3] at H;obtain⟨c3b0,c3b1⟩:=bqf c3;simp only [Option.some.injEq,Prod.mk.injEq] at H
 obtain⟨rfl,rfl⟩:=H;rotate_left
 all_goals
  go_enter Try.func25,Try.ntmps25;go_wp2_with (first|((with_reducible refine gate_dst (N:=1) rfl ?_);refine bx 1 (f5 A0_0 l0_0 c0_0 A0_1 l0_1 c0_1 A0_2 l0_2 c0_2 A0_3 l0_3 c0_3 A0_4 l0_4 c0_4 a0_5) 28 ?_;intro gb0 hg w9 hbox hb;have BK0:=ak hbox;have GW1112:=gw hg HB;have GE0:=gw hg HB;replace HB:=bs HB hb;clear hb hbox hg;have hcz3:=cz6 BK0.1)|((with_reducible refine at_fn (f:=47) rfl ?_);refine gl (some 11) Try.func47 #[.agg (f5 A0_0 l0_0 c0_0 A0_1 l0_1 c0_1 A0_2 l0_2 c0_2 A0_3 l0_3 c0_3 A0_4 l0_4 c0_4 a0_5),.slice none 0 0] ?_;(refine(spec_l19Code.calls k _ _ l0_0 _ _ l0_1 _ _ l0_2 _ _ l0_3 _ _ l0_4 a0_5 _ _ ([]:List Int) t16 _ ?_ ?_ ?_ ?_ ?_ ?_ ?_ ?_ ?_ ?_ ?_ ?_ A2.1).mono ?_);exact vd HR0_0.1 HB.1;exact HC0_0.1;exact vd HR0_1.1 HB.1;exact HC0_1.1;exact vd HR0_2.1 HB.1;exact HC0_2.1;exact vd HR0_3.1 HB.1;exact HC0_3.1;exact vd HR0_4.1 HB.1;exact HC0_4.1;exact Kd.C_nil _ _;exact Nat.le_refl _;rintro e w9 ⟨rfl,hb⟩;refine⟨_,rfl,?_⟩;replace BK0:=kb BK0 hb;replace HB:=bs HB hb;(try clear hb);have hcz3:=cz6 BK0.1)|((with_reducible refine at_fn (f:=61) rfl ?_);refine gl (some 16) Try.func61 #[.agg (f5 A0_0 l0_0 c0_0 A0_1 l0_1 c0_1 A0_2 l0_2 c0_2 A0_3 l0_3 c0_3 A0_4 l0_4 c0_4 a0_5)] ?_;(with_reducible refine(spec_l19All.calls k _ _ l0_0 _ _ l0_1 _ _ l0_2 _ _ l0_3 _ _ l0_4 a0_5 t8 _ ?_ HC0_0.1 ?_ HC0_1.1 ?_ HC0_2.1 ?_ HC0_3.1 ?_ HC0_4.1 A4.1).mono ?_);exact vd HR0_0.1 HB.1;exact vd HR0_1.1 HB.1;exact vd HR0_2.1 HB.1;exact vd HR0_3.1 HB.1;exact vd HR0_4.1 HB.1;rintro e w9 ⟨v25,rfl,ho9,hb⟩;refine⟨_,rfl,?_⟩;have HO17:=ak (Kd.N_lower (Kd.N_mono (ok':=fun k_=>k_≠gb0) ho9 (fun k_ hk_=>(Kd.freshB (g:=gb0) (o:=.cells (f5 A0_0 l0_0 c0_0 A0_1 l0_1 c0_1 A0_2 l0_2 c0_2 A0_3 l0_3 c0_3 A0_4 l0_4 c0_4 a0_5) 28 (0,0)) (vk BK0.1) k_ hk_))) (below_size (vb HB.1)));replace BK0:=kb BK0 hb;replace HB:=bs HB hb;(try clear hb);(try clear ho9);obtain⟨Ao24,co24,eo24⟩:=Kd.N_slice HO17.1;subst eo24))
  go_ret2
  exact⟨_,ew,by first|exact Kd.R_nil _ _ _ _ _|exact Kd.N_nil _ _ _ _ _|exact Kd.V_nil _ _ _ _ _|exact Kd.Q_nil _ _ _ _ _|exact Kd.S_nil _ _ _ _ _,vb HB.1⟩
mutual
def impl_NeededAreas.l0:Nat→List (List Int)→List Int→List (List Int)→Int→Int→Option (List Int×Int)
 |0,_,_,_,_,_=>none
 |k+1,x9,x1,x14,x29,x5=>if x5<x29 then (if 0≤x5 then (if x5<(x14.length:Int) then (impl_NeededAreas.l1 k x9 x1 x14 x29 x5 (rd_L4 x14 x5) ((rd_L4 x14 x5).length:Int) 0) else (none)) else (none)) else (impl_NeededAreas.l2 k x9 ([]:List Int) x1 (x1.length:Int) 0)
def impl_NeededAreas.l1:Nat→List (List Int)→List Int→List (List Int)→Int→Int→List Int→Int→Int→Option (List Int×Int)
 |0,_,_,_,_,_,_,_,_=>none
 |k+1,x9,x1,x14,x29,x5,x27,x19,x6=>if x6<x19 then (if 0≤x6 then (if x6<(x27.length:Int) then (if 0≤(rd x27 x6) then (if (rd x27 x6)<(x1.length:Int) then (impl_NeededAreas.l1 k x9 (x1.set ((rd x27 x6):Int).toNat (wrap64 ((rd x1 (rd x27 x6))+1))) x14 x29 x5 x27 x19 (wrap64 (x6+1))) else (none)) else (none)) else (none)) else (none)) else (impl_NeededAreas.l0 k x9 x1 x14 x29 (wrap64 (x5+1)))
def impl_NeededAreas.l2:Nat→List (List Int)→List Int→List Int→Int→Int→Option (List Int×Int)
 |0,_,_,_,_,_=>none
 |k+1,x9,x10,x15,x30,x7=>if x7<x30 then (if 0≤x7 then (if x7<(x15.length:Int) then (if (rd x15 x7)=(x9.length:Int) then (if x10.length<17592186044416 then (impl_NeededAreas.l2 k x9 (x10++[x7]) x15 x30 (wrap64 (x7+1))) else (none)) else (impl_NeededAreas.l2 k x9 x10 x15 x30 (wrap64 (x7+1)))) else (none)) else (none)) else (some (x10,0))
end
def impl_NeededAreas.f (k:Nat) (l0_0:List (S91)) (l0_1:List (S69)) (l0_2:List Int) (l0_3:List Int) (l0_4:List Int) (a0_5:Int):Option (List Int×Int):=(impl_fieldAsked.f k l0_0 l0_1 l0_2 l0_3 l0_4 a0_5 ([]:List Int)).bind fun t28=>(if t28=0 then ((impl_closures.f k l0_0 l0_1 l0_2 l0_3 l0_4 a0_5).bind fun t3=>(if (t3.length:Int)=0 then (some (([]:List Int),4)) else (if 0≤(l0_1.length:Int) then (if ((l0_1.length:Int):Int).toNat≤35184372088832 then (impl_NeededAreas.l0 k t3 (List.replicate ((l0_1.length:Int):Int).toNat 0) t3 (t3.length:Int) 0) else (none)) else (none)))) else (some (([]:List Int),t28)))
theorem impl_NeededAreas.calls (k:Nat) (A0_0:Option Addr) (c0_0:Nat) (l0_0:List (S91)) (A0_1:Option Addr) (c0_1:Nat) (l0_1:List (S69)) (A0_2:Option Addr) (c0_2:Nat) (l0_2:List Int) (A0_3:Option Addr) (c0_3:Nat) (l0_3:List Int) (A0_4:Option Addr) (c0_4:Nat) (l0_4:List Int) (a0_5:Int) (r1:List Int) (r2:Int) (w:World) (hr0_0:Kd.C k91 w A0_0 l0_0.length l0_0) (hc0_0:l0_0.length≤c0_0) (hr0_1:Kd.C k69 w A0_1 l0_1.length l0_1) (hc0_1:l0_1.length≤c0_1) (hr0_2:Kd.C (Kd.int .i64) w A0_2 l0_2.length l0_2) (hc0_2:l0_2.length≤c0_2) (hr0_3:Kd.C (Kd.int .i64) w A0_3 l0_3.length l0_3) (hc0_3:l0_3.length≤c0_3) (hr0_4:Kd.C (Kd.int .i64) w A0_4 l0_4.length l0_4) (hc0_4:l0_4.length≤c0_4) (h:impl_NeededAreas.f k l0_0 l0_1 l0_2 l0_3 l0_4 a0_5=some (r1,r2)):
  Calls Try.prog 27 #[.agg (f5 A0_0 l0_0 c0_0 A0_1 l0_1 c0_1 A0_2 l0_2 c0_2 A0_3 l0_3 c0_3 A0_4 l0_4 c0_4 a0_5)] w fun e w'=>∃v0_:Value,e=.returned (.tuple #[v0_,.int .i64 r2])∧Kd.R (Kd.int .i64) 2 w' w.heap.size (fun _=>True) v0_ r1∧Below w.heap.size w w':=by
 have hu28:=Try.underlying28;have HR0_0:=ak hr0_0;have HC0_0:=ak hc0_0;clear hr0_0 hc0_0;have HR0_1:=ak hr0_1;have HC0_1:=ak hc0_1;clear hr0_1 hc0_1;have HR0_2:=ak hr0_2;have HC0_2:=ak hc0_2;clear hr0_2 hc0_2;have HR0_3:=ak hr0_3;have HC0_3:=ak hc0_3;clear hr0_3 hc0_3;have HR0_4:=ak hr0_4;have HC0_4:=ak hc0_4;clear hr0_4 hc0_4;have HB:=ak (Below.refl w.heap.size w);unfold impl_NeededAreas.f at h;have H:=h;clear h;obtain⟨t28,A2,H⟩:=bnk H
 by_cases c3:t28=0
 rw [if_pos c3] at H;obtain⟨c3b0,c3b1⟩:=bqt c3;clear c3;obtain⟨t3,A4,H⟩:=bnk H;by_cases c5:(t3.length:Int)=0
 rw [if_pos c5] at H;obtain⟨c5b0,c5b1⟩:=bqt c5;clear c5;simp only [Option.some.injEq,Prod.mk.injEq] at H
 obtain⟨rfl,rfl⟩:=H;rotate_left
 rw [if_neg c5] at H;obtain⟨c5b0,c5b1⟩:=bqf c5;have c5b2:¬(t3=[]):=fun h_=>c5 (by rw [h_];rfl)
 by_cases c12:0≤(l0_1.length:Int)
 rw [if_pos c12] at H;have c12b0:=eq_true c12;have c12b1:decide (0≤(l0_1.length:Int))=true:=decide_eq_true c12;clear c12;by_cases c13:((l0_1.length:Int):Int).toNat≤35184372088832
 ·rw [if_pos c13] at H;have c13b0:=eq_true c13;have c13b1:decide (((l0_1.length:Int):Int).toNat≤35184372088832)=true:=decide_eq_true c13;clear c13;obtain⟨y21,hy21⟩:=gen_ ((List.replicate ((l0_1.length:Int):Int).toNat 0:List Int));rw [←hy21] at H;have Ny21:=ak hy21;clear hy21;have H':=ak H;clear H;go_enter Try.func27,Try.ntmps27;go_wp2_with (first|((with_reducible refine gate_dst (N:=1) rfl ?_);refine bx 1 (f5 A0_0 l0_0 c0_0 A0_1 l0_1 c0_1 A0_2 l0_2 c0_2 A0_3 l0_3 c0_3 A0_4 l0_4 c0_4 a0_5) 28 ?_;intro gb2 hg w14 hbox hb;have BK2:=ak hbox;have GW1197:=gw hg HB;have GE2:=gw hg HB;replace HB:=bs HB hb;clear hb hbox hg;have hcz36:=cz6 BK2.1)|((with_reducible refine at_fn (f:=45) rfl ?_);refine gl (some 15) Try.func45 #[.agg (f5 A0_0 l0_0 c0_0 A0_1 l0_1 c0_1 A0_2 l0_2 c0_2 A0_3 l0_3 c0_3 A0_4 l0_4 c0_4 a0_5),.slice none 0 0] ?_;(refine(impl_fieldAsked.calls k _ _ l0_0 _ _ l0_1 _ _ l0_2 _ _ l0_3 _ _ l0_4 a0_5 _ _ ([]:List Int) t28 _ ?_ ?_ ?_ ?_ ?_ ?_ ?_ ?_ ?_ ?_ ?_ ?_ A2.1).mono ?_);exact vd HR0_0.1 HB.1;exact HC0_0.1;exact vd HR0_1.1 HB.1;exact HC0_1.1;exact vd HR0_2.1 HB.1;exact HC0_2.1;exact vd HR0_3.1 HB.1;exact HC0_3.1;exact vd HR0_4.1 HB.1;exact HC0_4.1;exact Kd.C_nil _ _;exact Nat.le_refl _;rintro e w16 ⟨rfl,hb⟩;refine⟨_,rfl,?_⟩;replace BK2:=kb BK2 hb;replace HB:=bs HB hb;(try clear hb);have hcz37:=cz6 BK2.1)|((with_reducible refine at_fn (f:=56) rfl ?_);refine gl (some 20) Try.func56 #[.agg (f5 A0_0 l0_0 c0_0 A0_1 l0_1 c0_1 A0_2 l0_2 c0_2 A0_3 l0_3 c0_3 A0_4 l0_4 c0_4 a0_5)] ?_;(with_reducible refine(impl_closures.calls k _ _ l0_0 _ _ l0_1 _ _ l0_2 _ _ l0_3 _ _ l0_4 a0_5 t3 _ ?_ HC0_0.1 ?_ HC0_1.1 ?_ HC0_2.1 ?_ HC0_3.1 ?_ HC0_4.1 A4.1).mono ?_);exact vd HR0_0.1 HB.1;exact vd HR0_1.1 HB.1;exact vd HR0_2.1 HB.1;exact vd HR0_3.1 HB.1;exact vd HR0_4.1 HB.1;rintro e w18 ⟨v33,rfl,ho12,hb⟩;refine⟨_,rfl,?_⟩;have HO23:=ak (Kd.N_lower (Kd.N_mono (ok':=fun k_=>k_≠gb2) ho12 (fun k_ hk_=>(Kd.freshB (g:=gb2) (o:=.cells (f5 A0_0 l0_0 c0_0 A0_1 l0_1 c0_1 A0_2 l0_2 c0_2 A0_3 l0_3 c0_3 A0_4 l0_4 c0_4 a0_5) 28 (0,0)) (vk BK2.1) k_ hk_))) (below_size (vb HB.1)));replace BK2:=kb BK2 hb;replace HB:=bs HB hb;(try clear hb);(try clear ho12);obtain⟨Ao17,co17,eo17⟩:=Kd.N_slice HO23.1;subst eo17;have hcz38:=cz6 BK2.1)|((with_reducible refine gate_dst (N:=27) rfl ?_);refine Kd.R_make (Kd.int .i64) _ 3 rfl (N:=27) rfl 77 _ _ rfl (l0_1.length:Int) rfl rfl Try.underlying77 (.int .i64 0) 8 info3 rfl (by decide) (by omega) 0 (ok:=fun _=>True) (okp:=fun _=>True) rfl (fun _ hk=>hk) trivial (od) (Nat.le_trans (Nat.mul_le_mul_right _ (od:(l0_1.length:Int).toNat≤35184372088832)) (by omega)) (Below.refl _ _) (Nat.le_refl _) ?_;intro v24 w21 ho26 hb hg_ hnew_;clear hg_ hnew_;(first|rw [←Ny21.1] at ho26|(simp only [Int.reduceToNat] at ho26;rw [←Ny21.1] at ho26));replace HO23:=ak (Kd.N_elder' (vN HO23.1) (Kd.R_base ho26) hb);have HO34:=ak (Kd.R_lower ho26 (below_size (vb HB.1)));replace BK2:=kb BK2 hb;replace HB:=bs HB hb;clear hb ho26))
  go_loopg [30] k (fun kq v5 w'=>∃(x1_4:List Int) (x5_4:Int),v5=.int .i64 x5_4∧Aside0 (impl_NeededAreas.l0 kq t3 x1_4 t3 (t3.length:Int) x5_4=some (r1,r2))∧Aside0 (kq≤k)∧Aside0 (Kd.N (Kd.slice 2 (Kd.int .i64)) 26 w' w.heap.size (fun k_=>some k_≠(v24:Value).ownBlock∧k_≠gb2) (.slice Ao17 t3.length co17) t3)∧Aside0 (Kd.R (Kd.int .i64) 3 w' w.heap.size (fun _=>True) v24 x1_4)∧Aside0 (Kd.N (Kd.slice 2 (Kd.int .i64)) 26 w' w.heap.size (fun k_=>some k_≠(v24:Value).ownBlock∧k_≠gb2) (.slice Ao17 t3.length co17) t3)∧Aside0 (w'.heap[gb2]? =some (.cells (f5 A0_0 l0_0 c0_0 A0_1 l0_1 c0_1 A0_2 l0_2 c0_2 A0_3 l0_3 c0_3 A0_4 l0_4 c0_4 a0_5) 28 (0,0)))∧Aside0 (Below w.heap.size w w'))
  case atStart=>exact⟨(y21),(0),es,H',⟨Nat.le_refl _⟩,⟨vN (Kd.N_mono HO23.1 (fun _ hk=>⟨hk.2,hk.1⟩))⟩,⟨vr HO34.1⟩,⟨vN (Kd.N_mono HO23.1 (fun _ hk=>⟨hk.2,hk.1⟩))⟩,⟨vk BK2.1⟩,⟨vb HB.1⟩⟩
  case round=>
   clear H';obtain⟨x1_4,x5_4,rfl,HA,HK1,HO_9,HO_1,HO_14,BK2,HB⟩:=hrel
   cases gk with
   |zero=>exact absurd HA.1 (by simp [impl_NeededAreas.l0])
   |succ k1=>
    have H:=HA.1;clear HA;simp only [impl_NeededAreas.l0] at H
    by_cases c23:x5_4<(t3.length:Int)
    ·rw [if_pos c23] at H;have c23b0:=decide_eq_true c23;clear c23;by_cases c24:0≤x5_4
     ·rw [if_pos c24] at H;have c24b0:=decide_eq_true c24;clear c24;by_cases c25:x5_4<(t3.length:Int)
      ·rw [if_pos c25] at H;have c25b0:=decide_eq_true c25;clear c25;have H':=ak H;clear H;have p11:0≤(x5_4:Int):=od;have q11:x5_4<(t3.length:Int):=od;obtain⟨ad11,A1205_0,c1205_0,e11,hx11_12,hl1205_0,hi1205_0⟩:=at_L4 (Kd.N_reads' HO_14.1).2.2 x5_4 p11 q11
       cases e11;obtain⟨ce1205,hce1205,hMe1205,hcc1205⟩:=Kd.N_get HO_14.1 [] x5_4 p11 (by first|exact q11|exact od|(have e_:=(Kd.N_reads' HO_14.1).1;omega));obtain⟨ua1205_0,uc1205_0,rfl,ul1205_0,ge1205_0⟩:=Kd.FK_slice_open hMe1205;have hv11_12:=hcc1205 0 _ rfl;rw [Nat.add_zero,show ((Kd.slice 2 (Kd.int .i64))).sz=1 from rfl,Nat.mul_one] at hv11_12;replace hv11_12:=Option.some.inj (hv11_12.symm.trans hx11_12);injection hv11_12 with hva_ hvn_ hvc_
       rw [hva_] at ge1205_0;rw [hvc_] at ul1205_0;have HL1205_0:=ak (show Kd.V (Kd.int .i64) 2 _ w.heap.size _ _ (rd_L4 t3 x5_4) from Kd.V_mk ul1205_0 ge1205_0);clear hva_ hvn_ hvc_ ge1205_0 ul1205_0;clear hcc1205 hce1205;have HR1205_0:=ak hi1205_0;have HC1205_0:=ak hl1205_0;clear hi1205_0 hl1205_0;replace p11:=eq_true p11;replace q11:=eq_true q11;go_wp2
       go_loopg [36] k1 (fun kq v6 w'=>∃(x1_0:List Int) (x6_0:Int),v6=.int .i64 x6_0∧Aside0 (impl_NeededAreas.l1 kq t3 x1_0 t3 (t3.length:Int) x5_4 (rd_L4 t3 x5_4) ((rd_L4 t3 x5_4).length:Int) x6_0=some (r1,r2))∧Aside0 (kq≤k1)∧Aside0 (Kd.N (Kd.slice 2 (Kd.int .i64)) 26 w' w.heap.size (fun k_=>some k_≠(v24:Value).ownBlock∧k_≠gb2) (.slice (some ad11) t3.length co17) t3)∧Aside0 (Kd.R (Kd.int .i64) 3 w' w.heap.size (fun _=>True) v24 x1_0)∧Aside0 (Kd.N (Kd.slice 2 (Kd.int .i64)) 26 w' w.heap.size (fun k_=>some k_≠(v24:Value).ownBlock∧k_≠gb2) (.slice (some ad11) t3.length co17) t3)∧Aside0 (Kd.V (Kd.int .i64) 2 w' w.heap.size (fun k_=>some k_≠(v24:Value).ownBlock) (.slice A1205_0 (rd_L4 t3 x5_4).length c1205_0) (rd_L4 t3 x5_4))∧Aside0 (w'.heap[gb2]? =some (.cells (f5 A0_0 l0_0 c0_0 A0_1 l0_1 c0_1 A0_2 l0_2 c0_2 A0_3 l0_3 c0_3 A0_4 l0_4 c0_4 a0_5) 28 (0,0)))∧Aside0 (Below w.heap.size w w'))
       case atStart=>exact⟨(x1_4),(0),es,H',⟨Nat.le_refl _⟩,⟨vN HO_9.1⟩,⟨vr HO_1.1⟩,⟨vN HO_14.1⟩,⟨Kd.V_mono (vV HL1205_0.1) (fun _ hk=>by first|exact hk.1.1|exact hk.1)⟩,⟨vk BK2.1⟩,⟨vb HB.1⟩⟩
       case round=>
        clear H';obtain⟨x1_0,x6_0,rfl,HA,HK2,HO_9,HO_1,HO_14,HV_,BK2,HB⟩:=hrel
        cases gk with
        |zero=>exact absurd HA.1 (by simp [impl_NeededAreas.l1])
        |succ k2=>
         have H:=HA.1;clear HA;simp only [impl_NeededAreas.l1] at H
         by_cases c26:x6_0<((rd_L4 t3 x5_4).length:Int)
         ·rw [if_pos c26] at H;have c26b0:=decide_eq_true c26;clear c26;by_cases c27:0≤x6_0
          ·rw [if_pos c27] at H;have c27b0:=decide_eq_true c27;clear c27;by_cases c28:x6_0<((rd_L4 t3 x5_4).length:Int)
           ·rw [if_pos c28] at H;have c28b0:=decide_eq_true c28;clear c28;by_cases c29:0≤(rd (rd_L4 t3 x5_4) x6_0)
            ·rw [if_pos c29] at H;have c29b0:=decide_eq_true c29;clear c29;by_cases c30:(rd (rd_L4 t3 x5_4) x6_0)<(x1_0.length:Int)
             ·rw [if_pos c30] at H;have c30b0:=decide_eq_true c30;clear c30;obtain⟨y22,hy22⟩:=gen_ ((x1_0.set ((rd (rd_L4 t3 x5_4) x6_0):Int).toNat (wrap64 ((rd x1_0 (rd (rd_L4 t3 x5_4) x6_0))+1)):List Int));rw [←hy22] at H;have Ny22:=ak hy22;clear hy22;have H':=ak H;clear H;have p18:0≤(x6_0:Int):=od;have q18:x6_0<((rd_L4 t3 x5_4).length:Int):=od;obtain⟨ad18,e18,hx18_12⟩:=Kd.at_int (Kd.V_reads' HV_.1).2.2 x6_0 p18 q18
              cases e18;replace p18:=eq_true p18;replace q18:=eq_true q18;obtain⟨Ao20,co20,rfl⟩:=Kd.R_slice HO_1.1;have p16:0≤((rd (rd_L4 t3 x5_4) x6_0):Int):=od;have q16:(rd (rd_L4 t3 x5_4) x6_0)<(x1_0.length:Int):=od;obtain⟨ad16,e16,hx16_12⟩:=Kd.at_int (Kd.R_reads' HO_1.1).2.2 (rd (rd_L4 t3 x5_4) x6_0) p16 q16
              cases e16;replace p16:=eq_true p16;replace q16:=eq_true q16;have p13:0≤((rd (rd_L4 t3 x5_4) x6_0):Int):=od;have q13:((rd (rd_L4 t3 x5_4) x6_0):Int)<((x1_0.length:Int):Int):=od;obtain⟨go31,co13,eo13,gb13,gl31,cl31,HG13⟩:=Kd.R_form HO_1.1 (by omega);(first|cases eo13|(injection eo13 with ea_ en_ ec_;(first|subst ea_|(injection ea_ with ea_;subst ea_));subst ec_;clear en_))
              have GB31:=ak gb13;have GG31:=ak HG13;clear gb13 gl31 HG13;(first|simp only [add_plain] at hx16_12|skip)
              obtain⟨hx13_12,hf31_0⟩:=Kd.R_celln 0 HO_1.1 ((rd (rd_L4 t3 x5_4) x6_0):Int) p13 q13;replace p13:=eq_true p13;replace q13:=eq_true q13;have HP33:=Kd.R_putg HO_1.1 ((rd (rd_L4 t3 x5_4) x6_0):Int) (wrap64 ((rd x1_0 (rd (rd_L4 t3 x5_4) x6_0))+1));go_wp2_with (first|((with_reducible refine gate_store (t:=3) (p:=45) rfl ?_);refine store_event (t:=3) (p:=45) (v:=?vo_w34) (w1:=(wr.setCell ⟨go31,((rd (rd_L4 t3 x5_4) x6_0):Int).toNat,none⟩ (.int .i64 (wrap64 ((rd x1_0 (rd (rd_L4 t3 x5_4) x6_0))+1))))) ?hg ?ho ?hn ?hr ?_;(case ho=>rfl);(case hg=>rfl);(case hn=>rfl);(case hr=>first|(go_simp;done)|(go_simp;rfl));intro w34 hw;have hg:wr.grownBy w34 (some go31):=(by rw [hw];exact HP33.2);have hp_:Kd.R (Kd.int .i64) 3 w34 w.heap.size (fun _=>True) (.slice (some ⟨go31,0,none⟩) x1_0.length co20) y22:=(by rw [hw,Ny22.1];exact HP33.1);replace HV_:=ak (Kd.V_mono (Kd.V_afterv (v:=(.slice (some ⟨go31,0,none⟩) x1_0.length co20)) (v1:=(.slice (some ⟨go31,0,none⟩) x1_0.length co20)) (ok:=fun _=>True) (Kd.V_mono HV_.1 (fun _ hk_=>⟨trivial,hk_⟩)) hg (.inl rfl)) (fun _ hk_=>hk_.2));clear HP33;replace HO_9:=ak (Kd.N_afterv (v:=(.slice (some ⟨go31,0,none⟩) x1_0.length co20)) (v1:=(.slice (some ⟨go31,0,none⟩) x1_0.length co20)) (ok:=(fun k_=>k_≠gb2)) (vN (Kd.N_mono HO_9.1 (fun _ hk=>⟨hk.2,hk.1⟩))) hg (.inl rfl));replace HO_14:=ak (Kd.N_afterv (v:=(.slice (some ⟨go31,0,none⟩) x1_0.length co20)) (v1:=(.slice (some ⟨go31,0,none⟩) x1_0.length co20)) (ok:=(fun k_=>k_≠gb2)) (vN (Kd.N_mono HO_14.1 (fun _ hk=>⟨hk.2,hk.1⟩))) hg (.inl rfl));replace BK2:=ak (blk_grown (g:=gb2) (o:=.cells (f5 A0_0 l0_0 c0_0 A0_1 l0_1 c0_1 A0_2 l0_2 c0_2 A0_3 l0_3 c0_3 A0_4 l0_4 c0_4 a0_5) 28 (0,0)) (vk BK2.1) hg (Kd.R_ne HO_1.1 BK2.1 (by decide)));replace HO_1:=ak (hp_);replace HB:=ak ((by rw [hw];exact below_set (HB.1) GB31.1:Below w.heap.size w w34));clear hg hw hp_))
              go_roundg k2
              case measure=>have:=HK1.1;have:=HK2.1;omega
              case rel=>exact⟨(y22),(wrap64 (x6_0+1)),es,H',⟨by have:=HK1.1;have:=HK2.1;omega⟩,⟨vN (Kd.N_mono HO_9.1 (fun _ hk=>⟨hk.2,hk.1⟩))⟩,⟨vr HO_1.1⟩,⟨vN (Kd.N_mono HO_14.1 (fun _ hk=>⟨hk.2,hk.1⟩))⟩,⟨vV HV_.1⟩,⟨vk BK2.1⟩,⟨vb HB.1⟩⟩
             ·exact nO_ c30 H
            ·exact nO_ c29 H
           ·exact nO_ c28 H
          ·exact nO_ c27 H
         ·rw [if_neg c26] at H;have c26b0:=decide_eq_false c26;clear c26;have H':=ak H;clear H;go_wp2
          go_roundg k2
          case measure=>have:=HK1.1;have:=HK2.1;omega
          case rel=>exact⟨(x1_0),(wrap64 (x5_4+1)),es,H',⟨by have:=HK1.1;have:=HK2.1;omega⟩,⟨vN HO_9.1⟩,⟨vr HO_1.1⟩,⟨vN HO_14.1⟩,⟨vk BK2.1⟩,⟨vb HB.1⟩⟩
      ·exact nO_ c25 H
     ·exact nO_ c24 H
    ·rw [if_neg c23] at H;have c23b0:=decide_eq_false c23;clear c23;have H':=ak H;clear H;obtain⟨Ao19,co19,rfl⟩:=Kd.R_slice HO_1.1;go_wp2
     go_loopg [11,50] k1 (fun kq v10 v7 w'=>∃(x10_0:List Int) (x7_0:Int),v7=.int .i64 x7_0∧Aside0 (impl_NeededAreas.l2 kq t3 x10_0 x1_4 (x1_4.length:Int) x7_0=some (r1,r2))∧Aside0 (kq≤k1)∧Aside0 (Kd.N (Kd.slice 2 (Kd.int .i64)) 26 w' w.heap.size (fun k_=>some k_≠(v10:Value).ownBlock∧nB k_ Ao19 x1_4.length co19∧k_≠gb2) (.slice Ao17 t3.length co17) t3)∧Aside0 (Kd.R (Kd.int .i64) 2 w' w.heap.size (fun _=>True) v10 x10_0)∧Aside0 (Kd.R (Kd.int .i64) 3 w' w.heap.size (fun _=>True) (.slice Ao19 x1_4.length co19) x1_4)∧Aside0 (w'.heap[gb2]? =some (.cells (f5 A0_0 l0_0 c0_0 A0_1 l0_1 c0_1 A0_2 l0_2 c0_2 A0_3 l0_3 c0_3 A0_4 l0_4 c0_4 a0_5) 28 (0,0)))∧Aside0 (Below w.heap.size w w'))
     case atStart=>exact⟨(([]:List Int)),(0),es,H',⟨Nat.le_refl _⟩,⟨vN (Kd.N_mono HO_9.1 (fun _ hk=>⟨(by simp [Value.ownBlock]),⟨hk.1,hk.2⟩⟩))⟩,⟨by first|exact Kd.R_nil _ _ _ _ _|exact Kd.N_nil _ _ _ _ _|exact Kd.V_nil _ _ _ _ _|exact Kd.Q_nil _ _ _ _ _|exact Kd.S_nil _ _ _ _ _⟩,⟨vr HO_1.1⟩,⟨vk BK2.1⟩,⟨vb HB.1⟩⟩
     case round=>
      clear H'
      (try clear hx13_12);obtain⟨x10_0,x7_0,rfl,HA,HK2,HO_9,HO_10,HO_15,BK2,HB⟩:=hrel
      cases gk with
      |zero=>exact absurd HA.1 (by simp [impl_NeededAreas.l2])
      |succ k2=>
       have H:=HA.1;clear HA;simp only [impl_NeededAreas.l2] at H
       by_cases c36:x7_0<(x1_4.length:Int)
       ·rw [if_pos c36] at H;have c36b0:=decide_eq_true c36;clear c36;by_cases c37:0≤x7_0
        ·rw [if_pos c37] at H;have c37b0:=decide_eq_true c37;clear c37;by_cases c38:x7_0<(x1_4.length:Int)
         ·rw [if_pos c38] at H;have c38b0:=decide_eq_true c38;clear c38;by_cases c39:(rd x1_4 x7_0)=(t3.length:Int)
          ·rw [if_pos c39] at H;obtain⟨c39b0,c39b1⟩:=bqt c39;clear c39;by_cases c40:x10_0.length<17592186044416
           ·rw [if_pos c40] at H;have LMc40:=ak c40;clear c40;obtain⟨y25,hy25⟩:=gen_ ((x10_0++[x7_0]:List Int));rw [←hy25] at H;have Ny25:=ak hy25;clear hy25;have H':=ak H;clear H;have p8:0≤(x7_0:Int):=od;have q8:x7_0<(x1_4.length:Int):=od;obtain⟨ad8,e8,hx8_12⟩:=Kd.at_int (Kd.R_reads' HO_15.1).2.2 x7_0 p8 q8
            cases e8;replace p8:=eq_true p8;replace q8:=eq_true q8;go_wp2_with (first|((with_reducible refine at_bi (b:=.append) (xs:=#[.tmp 59,.tmp 61]) rfl ?_);at_builtin;refine Kd.R_append (Kd.int .i64) (w0:=w) w.heap.size rfl (.tmp 59) (.tmp 61) 26 2 (.int .i64 0) 8 rfl Try.underlying26 info2 rfl (by decide) (by omega) u11 x10_0 x7_0 [.int .i64 x7_0] (fun _=>True) (fun _=>False) rfl rfl ?aP (fun _ hk=>hk.elim) ?aF ?aO ?aB ?aS ?aL ?_;(case aP=>exact rfl);(case aB=>exact(vb HB.1));(case aF=>exact(fun _ _=>trivial));(case aO=>exact(vr HO_10.1));(case aS=>exact(below_size (vb HB.1)));(case aL=>have:=LMc40.1;omega);intro v39 w41 ho hb hg hat;rw [←Ny25.1] at ho;have n0_:=ak (Kd.N_afterv (ok:=(fun k_=>nB k_ (some ad8) x1_4.length co19∧k_≠gb2)) (vN (Kd.N_mono HO_9.1 (fun _ hk=>⟨⟨hk.2.1,hk.2.2⟩,hk.1⟩))) hg hat);have n1_:=ak (Kd.R_over' (vr HO_15.1) (Kd.R_typed (vr HO_10.1)) (by decide) hg);have n2_:=ak (blk_grown (g:=gb2) (o:=.cells (f5 A0_0 l0_0 c0_0 A0_1 l0_1 c0_1 A0_2 l0_2 c0_2 A0_3 l0_3 c0_3 A0_4 l0_4 c0_4 a0_5) 28 (0,0)) (vk BK2.1) hg (Kd.R_ne HO_10.1 BK2.1 (by decide)));have n3_:=ak (hb);have n4_:=ak (ho);clear HO_9;clear HO_15;clear BK2;clear HB;clear HO_10;have HO_9:=n0_;have HO_15:=n1_;have BK2:=n2_;have HB:=n3_;have HO35:=n4_;clear n0_ n1_ n2_ n3_ n4_;clear ho hb hg hat))
            go_roundg k2
            case measure=>have:=HK1.1;have:=HK2.1;omega
            case rel=>exact⟨(y25),(wrap64 (x7_0+1)),es,H',⟨by have:=HK1.1;have:=HK2.1;omega⟩,⟨vN (Kd.N_mono HO_9.1 (fun _ hk=>⟨hk.2,⟨hk.1.1,hk.1.2⟩⟩))⟩,⟨vr HO35.1⟩,⟨vr HO_15.1⟩,⟨vk BK2.1⟩,⟨vb HB.1⟩⟩
           ·exact nO_ c40 H
          ·rw [if_neg c39] at H;obtain⟨c39b0,c39b1⟩:=bqf c39;have H':=ak H;clear H;have p8:0≤(x7_0:Int):=od;have q8:x7_0<(x1_4.length:Int):=od;obtain⟨ad8,e8,hx8_12⟩:=Kd.at_int (Kd.R_reads' HO_15.1).2.2 x7_0 p8 q8
           cases e8;replace p8:=eq_true p8;replace q8:=eq_true q8;go_wp2
           go_roundg k2
           case measure=>have:=HK1.1;have:=HK2.1;omega
           case rel=>exact⟨(x10_0),(wrap64 (x7_0+1)),es,H',⟨by have:=HK1.1;have:=HK2.1;omega⟩,⟨vN HO_9.1⟩,⟨vr HO_10.1⟩,⟨vr HO_15.1⟩,⟨vk BK2.1⟩,⟨vb HB.1⟩⟩
         ·exact nO_ c38 H
        ·exact nO_ c37 H
       ·rw [if_neg c36] at H;have c36b0:=decide_eq_false c36;clear c36;simp only [Option.some.injEq,Prod.mk.injEq] at H
        obtain⟨rfl,rfl⟩:=H;go_wp2
        go_ret2
        exact⟨_,ew,vr HO_10.1,vb HB.1⟩
 ·exact nO_ c13 H
 ·exact nO_ c12 H
 rw [if_neg c3] at H;obtain⟨c3b0,c3b1⟩:=bqf c3;simp only [Option.some.injEq,Prod.mk.injEq] at H
 obtain⟨rfl,rfl⟩:=H;rotate_left
 all_goals
  go_enter Try.func27,Try.ntmps27;go_wp2_with (first|((with_reducible refine gate_dst (N:=1) rfl ?_);refine bx 1 (f5 A0_0 l0_0 c0_0 A0_1 l0_1 c0_1 A0_2 l0_2 c0_2 A0_3 l0_3 c0_3 A0_4 l0_4 c0_4 a0_5) 28 ?_;intro gb2 hg w9 hbox hb;have BK2:=ak hbox;have GW1197:=gw hg HB;have GE2:=gw hg HB;replace HB:=bs HB hb;clear hb hbox hg;have hcz32:=cz6 BK2.1)|((with_reducible refine at_fn (f:=45) rfl ?_);refine gl (some 15) Try.func45 #[.agg (f5 A0_0 l0_0 c0_0 A0_1 l0_1 c0_1 A0_2 l0_2 c0_2 A0_3 l0_3 c0_3 A0_4 l0_4 c0_4 a0_5),.slice none 0 0] ?_;(refine(impl_fieldAsked.calls k _ _ l0_0 _ _ l0_1 _ _ l0_2 _ _ l0_3 _ _ l0_4 a0_5 _ _ ([]:List Int) t28 _ ?_ ?_ ?_ ?_ ?_ ?_ ?_ ?_ ?_ ?_ ?_ ?_ A2.1).mono ?_);exact vd HR0_0.1 HB.1;exact HC0_0.1;exact vd HR0_1.1 HB.1;exact HC0_1.1;exact vd HR0_2.1 HB.1;exact HC0_2.1;exact vd HR0_3.1 HB.1;exact HC0_3.1;exact vd HR0_4.1 HB.1;exact HC0_4.1;exact Kd.C_nil _ _;exact Nat.le_refl _;rintro e w9 ⟨rfl,hb⟩;refine⟨_,rfl,?_⟩;replace BK2:=kb BK2 hb;replace HB:=bs HB hb;(try clear hb);have hcz32:=cz6 BK2.1)|((with_reducible refine at_fn (f:=56) rfl ?_);refine gl (some 20) Try.func56 #[.agg (f5 A0_0 l0_0 c0_0 A0_1 l0_1 c0_1 A0_2 l0_2 c0_2 A0_3 l0_3 c0_3 A0_4 l0_4 c0_4 a0_5)] ?_;(with_reducible refine(impl_closures.calls k _ _ l0_0 _ _ l0_1 _ _ l0_2 _ _ l0_3 _ _ l0_4 a0_5 t3 _ ?_ HC0_0.1 ?_ HC0_1.1 ?_ HC0_2.1 ?_ HC0_3.1 ?_ HC0_4.1 A4.1).mono ?_);exact vd HR0_0.1 HB.1;exact vd HR0_1.1 HB.1;exact vd HR0_2.1 HB.1;exact vd HR0_3.1 HB.1;exact vd HR0_4.1 HB.1;rintro e w9 ⟨v33,rfl,ho12,hb⟩;refine⟨_,rfl,?_⟩;have HO23:=ak (Kd.N_lower (Kd.N_mono (ok':=fun k_=>k_≠gb2) ho12 (fun k_ hk_=>(Kd.freshB (g:=gb2) (o:=.cells (f5 A0_0 l0_0 c0_0 A0_1 l0_1 c0_1 A0_2 l0_2 c0_2 A0_3 l0_3 c0_3 A0_4 l0_4 c0_4 a0_5) 28 (0,0)) (vk BK2.1) k_ hk_))) (below_size (vb HB.1)));replace BK2:=kb BK2 hb;replace HB:=bs HB hb;(try clear hb);(try clear ho12);obtain⟨Ao31,co31,eo31⟩:=Kd.N_slice HO23.1;subst eo31))
  go_ret2
  exact⟨_,ew,by first|exact Kd.R_nil _ _ _ _ _|exact Kd.N_nil _ _ _ _ _|exact Kd.V_nil _ _ _ _ _|exact Kd.Q_nil _ _ _ _ _|exact Kd.S_nil _ _ _ _ _,vb HB.1⟩
end Go.Proofs.Ytiblahniohjbbaa.Pall
