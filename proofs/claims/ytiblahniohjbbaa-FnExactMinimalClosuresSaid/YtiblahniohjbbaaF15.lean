/- Go functions of the program, each as a Lean function, and the proof that each call comes to what the Lean function tells; no condition beyond those that stand there. -/
import Derived.Test.YtiblahniohjbbaaF07
import Derived.Test.YtiblahniohjbbaaCm4
namespace Go.Proofs.Ytiblahniohjbbaa.Pall
set_option maxRecDepth 100000
set_option maxHeartbeats 8000000
open Go.RowKit Go.Proofs.YtiblahniohjbbaaW.PrintWords Go.Proofs.YtiblahniohjbbaaW.PrintLast Go.Proofs.YtiblahniohjbbaaW.PrintMore
set_option linter.unusedVariables false
set_option linter.unusedSimpArgs false
mutual
def impl_listsOf.l0:Nat→Int→Int→List (List Int)→Int→Option ((List (List Int)))
 |0,_,_,_,_=>none
 |k+1,x2,x0,x1,x7=>if x7<x2 then ((impl_listsOf.f k x2 (wrap64 (x7+1)) (wrap64 (x0-1))).bind fun t6=>(impl_listsOf.l1 k x2 x0 x1 x7 t6 (t6.length:Int) 0)) else (some x1)
def impl_listsOf.l1:Nat→Int→Int→List (List Int)→Int→List (List Int)→Int→Int→Option ((List (List Int)))
 |0,_,_,_,_,_,_,_=>none
 |k+1,x2,x0,x1,x7,x8,x21,x5=>if x5<x21 then (if 0≤x5 then (if x5<(x8.length:Int) then ((some (([x7]:List Int):List Int)).bind fun y13=>(if y13.length+(rd_L4 x8 x5).length<17592186044416 then (if x1.length<5864062014805 then (impl_listsOf.l1 k x2 x0 (x1++[(y13++(rd_L4 x8 x5))]) x7 x8 x21 (wrap64 (x5+1))) else (none)) else (none))) else (none)) else (none)) else (impl_listsOf.l0 k x2 x0 x1 (wrap64 (x7+1)))
def impl_listsOf.f:Nat→Int→Int→Int→Option ((List (List Int)))
 |0,_,_,_=>none
 |k+1,a0,a1,a2=>if a2=0 then (some (([[]]:List (List Int)))) else (impl_listsOf.l0 k a0 a2 ([]:List (List Int)) a1)
end
theorem impl_listsOf.mono_l:∀k,(∀y2 y3 y0,LeO (impl_listsOf.f k y2 y3 y0) (impl_listsOf.f (k+1) y2 y3 y0))∧(∀y2 y3 y0 y15,LeO (impl_listsOf.l0 k y2 y3 y0 y15) (impl_listsOf.l0 (k+1) y2 y3 y0 y15))∧(∀y2 y3 y0 y15 y19 y20 y11,LeO (impl_listsOf.l1 k y2 y3 y0 y15 y19 y20 y11) (impl_listsOf.l1 (k+1) y2 y3 y0 y15 y19 y20 y11))
 |0=>⟨fun _ _ _ r h=>by simp [impl_listsOf.f] at h,fun _ _ _ _ r h=>by simp [impl_listsOf.l0] at h,fun _ _ _ _ _ _ _ r h=>by simp [impl_listsOf.l1] at h⟩
 |k+1=>by
  obtain⟨ih0,ih1,ih2⟩:=impl_listsOf.mono_l k;refine⟨?_,?_,?_⟩
  ·intro y2 y3 y0;unfold impl_listsOf.f
   repeat' (with_reducible first|exact ih0 .. |exact ih1 .. |exact ih2 .. |exact lm|refine LeO.ite ?_ ?_|refine LeO.bind ?_ (fun _=>?_))
  ·intro y2 y3 y0 y15;unfold impl_listsOf.l0
   repeat' (with_reducible first|exact ih0 .. |exact ih1 .. |exact ih2 .. |exact lm|refine LeO.ite ?_ ?_|refine LeO.bind ?_ (fun _=>?_))
  ·intro y2 y3 y0 y15 y19 y20 y11;unfold impl_listsOf.l1
   repeat' (with_reducible first|exact ih0 .. |exact ih1 .. |exact ih2 .. |exact lm|refine LeO.ite ?_ ?_|refine LeO.bind ?_ (fun _=>?_))
theorem impl_listsOf.mono:∀a0 a1 a2 k,LeO (impl_listsOf.f k a0 a1 a2) (impl_listsOf.f (k+1) a0 a1 a2):=by
 intro a0 a1 a2 k;obtain⟨ih0,ih1,ih2⟩:=impl_listsOf.mono_l k;exact ih0 a0 a1 a2
theorem impl_listsOf.calls (k:Nat):∀(a0:Int) (a1:Int) (a2:Int) (r:List (List Int)) (w:World) (h:impl_listsOf.f k a0 a1 a2=some r),
  Calls Try.prog 84 #[.int .i64 a0,.int .i64 a1,.int .i64 a2] w fun e w'=>∃v0_:Value,e=.returned (v0_)∧Kd.S (Kd.slice 2 (Kd.int .i64)) 26 w' w.heap.size (fun _=>True) v0_ r∧Below w.heap.size w w':=by
 induction k using Nat.strongRecOn with
 |_ k ih=>
 intro a0 a1 a2 r w h
 cases k with
 |zero=>exact absurd h (by simp [impl_listsOf.f])
 |succ k=>
 simp only [impl_listsOf.f] at h
 have HB:=ak (Below.refl w.heap.size w);have H:=h;clear h;by_cases c4:a2=0
 ·rw [if_pos c4] at H;obtain⟨c4b0,c4b1⟩:=bqt c4;clear c4;obtain⟨y16,hy16⟩:=gen_ (([[]]:List (List Int)));rw [←hy16] at H;have Ny16:=ak hy16;clear hy16;obtain rfl:=sj H;go_enter Try.func84,Try.ntmps84;go_wp2_with (first|((with_reducible refine gate_dst (N:=13) rfl ?_);refine Kd.S_lit (Kd.slice 2 (Kd.int .i64)) _ 26 ?hg (N:=13) ?hd (xs:=([[]]:List (List Int))) (inner:=[.slice none 0 0]) (ok:=fun _=>True) (okp:=fun _=>True) ?hr ?hp (fun _ hk=>hk) trivial (Below.refl _ _) (Nat.le_refl _) (by simp) ?_;(case hd=>rfl);(case hg=>rfl);(case hr=>first|(go_simp;done)|(go_simp;rfl));(case hp=>exact(Reps.one (show Kd.M (Kd.slice 2 (Kd.int .i64)) _ _ _ [] [.slice none 0 0] from⟨_,rfl,Kd.R_nil _ _ _ _ _⟩) (Reps.none _ _)));intro v27 w5 ho11 hb hg_ hnew_;clear hg_ hnew_;(first|rw [←Ny16.1] at ho11|(simp only [Int.reduceToNat] at ho11;rw [←Ny16.1] at ho11));have HO24:=ak (Kd.S_lower ho11 (below_size (vb HB.1)));replace HB:=bs HB hb;clear hb ho11))
  go_ret
  exact⟨_,ew,vS HO24.1,vb HB.1⟩
 ·rw [if_neg c4] at H;obtain⟨c4b0,c4b1⟩:=bqf c4;have H':=ak H;clear H;go_enter Try.func84,Try.ntmps84;go_wp2
  go_loopg [7,8] k (fun kq v1 v7 w'=>∃(x1_3:List (List Int)) (x7_3:Int),v7=.int .i64 x7_3∧Aside0 (impl_listsOf.l0 kq a0 a2 x1_3 x7_3=some r)∧Aside0 (kq≤k)∧Aside0 (Kd.S (Kd.slice 2 (Kd.int .i64)) 26 w' w.heap.size (fun _=>True) v1 x1_3)∧Aside0 (Below w.heap.size w w'))
  case atStart=>exact⟨(([]:List (List Int))),(a1),es,H',⟨Nat.le_refl _⟩,⟨by first|exact Kd.S_nil _ _ _ _ _|exact Kd.N_nil _ _ _ _ _|exact Kd.V_nil _ _ _ _ _|exact Kd.Q_nil _ _ _ _ _|exact Kd.R_nil _ _ _ _ _⟩,⟨vb HB.1⟩⟩
  case round=>
   clear H';obtain⟨x1_3,x7_3,rfl,HA,HK1,HO_1,HB⟩:=hrel
   cases gk with
   |zero=>exact absurd HA.1 (by simp [impl_listsOf.l0])
   |succ k1=>
    have H:=HA.1;clear HA;simp only [impl_listsOf.l0] at H
    by_cases c7:x7_3<a0
    ·rw [if_pos c7] at H;have c7b0:=decide_eq_true c7;clear c7;obtain⟨t6,A8,H⟩:=bnk H;have H':=ak H;clear H;go_wp2_with (first|((with_reducible refine at_fn (f:=84) rfl ?_);refine gl (some 25) Try.func84 #[.int .i64 a0,.int .i64 (wrap64 (x7_3+1)),.int .i64 (wrap64 (a2-1))] ?_;(with_reducible refine(ih k1 (by have:=HK1.1;omega) a0 (wrap64 (x7_3+1)) (wrap64 (a2-1)) t6 _ A8.1).mono ?_);rintro e w9 ⟨v28,rfl,ho2,hb⟩;refine⟨_,rfl,?_⟩;have HO22:=ak (Kd.S_lower (Kd.S_new' ho2 (Kd.S_lt (vS HO_1.1))) (below_size (vb HB.1)));replace HO_1:=ak (Kd.S_elder' (vS HO_1.1) (Kd.S_base ho2) hb);replace HB:=bs HB hb;(try clear hb);(try clear ho2);obtain⟨Ao9,co9,eo9⟩:=Kd.S_slice HO22.1;subst eo9))
     go_loopg [7,27] k1 (fun kq v1 v5 w'=>∃(x1_0:List (List Int)) (x5_0:Int),v5=.int .i64 x5_0∧Aside0 (impl_listsOf.l1 kq a0 a2 x1_0 x7_3 t6 (t6.length:Int) x5_0=some r)∧Aside0 (kq≤k1)∧Aside0 (Kd.S (Kd.slice 2 (Kd.int .i64)) 26 w' w.heap.size (fun k_=>nB k_ Ao9 t6.length co9) v1 x1_0)∧Aside0 (Kd.S (Kd.slice 2 (Kd.int .i64)) 26 w' w.heap.size (fun k_=>some k_≠(v1:Value).ownBlock) (.slice Ao9 t6.length co9) t6)∧Aside0 (Below w.heap.size w w'))
     case atStart=>exact⟨(x1_3),(0),es,H',⟨Nat.le_refl _⟩,⟨by(with_reducible repeat (first|apply Kd.S_alloc|apply Kd.S_drewN|apply Kd.S_drew));exact Kd.S_mono HO_1.1 (fun _ hk=>hk.2)⟩,⟨by(with_reducible repeat (first|apply Kd.S_alloc|apply Kd.S_drewN|apply Kd.S_drew));exact Kd.S_mono HO22.1 (fun _ hk=>hk.2)⟩,⟨vb HB.1⟩⟩
     case round=>
      clear H';obtain⟨x1_0,x5_0,rfl,HA,HK2,HO_1,HO_8,HB⟩:=hrel
      cases gk with
      |zero=>exact absurd HA.1 (by simp [impl_listsOf.l1])
      |succ k2=>
       have H:=HA.1;clear HA;simp only [impl_listsOf.l1] at H
       by_cases c11:x5_0<(t6.length:Int)
       ·rw [if_pos c11] at H;have c11b0:=decide_eq_true c11;clear c11;by_cases c12:0≤x5_0
        ·rw [if_pos c12] at H;have c12b0:=decide_eq_true c12;clear c12;by_cases c13:x5_0<(t6.length:Int)
         ·rw [if_pos c13] at H;have c13b0:=decide_eq_true c13;clear c13;obtain⟨y13,Ny13,H⟩:=bnE H;by_cases c14:y13.length+(rd_L4 t6 x5_0).length<17592186044416
          ·rw [if_pos c14] at H;have LMc14:=ak c14;clear c14;obtain⟨y10,hy10⟩:=gen_ ((y13++(rd_L4 t6 x5_0):List Int));rw [←hy10] at H;have Ny10:=ak hy10;clear hy10;by_cases c15:x1_0.length<5864062014805
           ·rw [if_pos c15] at H;have LMc15:=ak c15;clear c15;obtain⟨y17,hy17⟩:=gen_ ((x1_0++[y10]:List (List Int)));rw [←hy17] at H;have Ny17:=ak hy17;clear hy17;have H':=ak H;clear H;have p4:0≤(x5_0:Int):=od;have q4:x5_0<(t6.length:Int):=od;obtain⟨ad4,A935_0,c935_0,e4,hx4_2,hl935_0,hi935_0⟩:=at_L4 (Kd.S_reads' HO_8.1).2.2 x5_0 p4 q4
            cases e4;obtain⟨ce935,hce935,hMe935,hcc935⟩:=Kd.S_get HO_8.1 [] x5_0 p4 (by first|exact q4|exact od|(have e_:=(Kd.S_reads' HO_8.1).1;omega));obtain⟨ve935_0,rfl,ge935_0⟩:=hMe935;have hv4_2:=hcc935 0 _ rfl;rw [Nat.add_zero,show ((Kd.slice 2 (Kd.int .i64))).sz=1 from rfl,Nat.mul_one] at hv4_2;replace hv4_2:=Option.some.inj (hv4_2.symm.trans hx4_2);rw [hv4_2] at ge935_0;have HL935_0:=ak (show Kd.R (Kd.int .i64) 2 _ _ _ _ (rd_L4 t6 x5_0) from ge935_0);clear hv4_2 ge935_0;clear hcc935 hce935;have HR935_0:=ak hi935_0;have HC935_0:=ak hl935_0;clear hi935_0 hl935_0;replace p4:=eq_true p4;replace q4:=eq_true q4;go_wp2_with (first|((with_reducible refine gate_dst (N:=33) rfl ?_);refine Kd.R_lit (Kd.int .i64) _ 2 ?hg (N:=33) ?hd (xs:=([x7_3]:List Int)) (inner:=[.int .i64 x7_3]) (ok:=fun _=>True) (okp:=fun _=>True) ?hr ?hp (fun _ hk=>hk) trivial (Below.refl _ _) (Nat.le_refl _) (by simp) ?_;(case hd=>rfl);(case hg=>rfl);(case hr=>first|(go_simp;done)|(go_simp;rfl));(case hp=>exact(Reps.one (show Kd.M (Kd.int .i64) _ _ _ x7_3 [.int .i64 x7_3] from rfl) (Reps.none _ _)));intro v25 w16 ho14 hb hg_ hnew_;clear hg_ hnew_;(first|rw [←Ny13.1] at ho14|(simp only [Int.reduceToNat] at ho14;rw [←Ny13.1] at ho14));replace HO_1:=ak (Kd.S_elder' (vS HO_1.1) (Kd.R_base ho14) hb);replace HO_8:=ak (Kd.S_elder' (vS HO_8.1) (Kd.R_base ho14) hb);have HO23:=ak (Kd.R_lower (Kd.R_new' ho14 (Kd.R_lt (vr HL935_0.1))) (below_size (vb HB.1)));replace HL935_0:=ro HL935_0 ho14 hb;replace HR935_0:=ak (Kd.C_below (by repeat (first|(with_reducible exact HR935_0.1)|(with_reducible refine Kd.C_alloc ?_ _)|(with_reducible refine Kd.C_drewN ?_ _)|(with_reducible refine Kd.C_drew ?_)|exact HR935_0.1)) hb);replace HB:=bs HB hb;clear hb ho14)|((with_reducible refine at_bi (b:=.append) (xs:=#[.tmp 33,.tmp 34]) rfl ?_);at_builtin;refine Kd.R_append_rows (Kd.int .i64) (w0:=w) w.heap.size rfl (.tmp 33) (.tmp 34) 26 2 (.int .i64 0) 8 rfl Try.underlying26 info2 rfl (by decide) (by omega) v25 y13 (rd_L4 t6 x5_0) _ _ _ (fun k_=>some k_≠(.slice A935_0 (rd_L4 t6 x5_0).length c935_0:Value).ownBlock) (fun _=>False) rfl rfl ?aO ?aR (fun _ _ h=>h) (fun _ h=>h.elim) ?aF ?aB ?aS ?aL ?_;(case aR=>repeat (first|exact(by repeat (first|(with_reducible exact HR935_0.1)|(with_reducible refine Kd.C_alloc ?_ _)|(with_reducible refine Kd.C_drewN ?_ _)|(with_reducible refine Kd.C_drew ?_)|exact HR935_0.1))|(with_reducible refine Kd.C_alloc ?_ _)|(with_reducible refine Kd.C_drewN ?_ _)|(with_reducible refine Kd.C_drew ?_)));(case aB=>exact(vb HB.1));(case aF=>exact(fun k_ hk=>Kd.fresh' (Kd.R_lt (vr HL935_0.1)) k_ hk));(case aO=>exact(vr (Kd.R_mono HO23.1 (fun _ hk=>hk.2))));(case aS=>exact(below_size (vb HB.1)));(case aL=>have:=LMc14.1;omega);intro v29 w18 ho hb hg hat;rw [←Ny10.1] at ho;have n0_:=ak (Kd.S_after (ok:=(fun k_=>nB k_ (some ad4) t6.length co9)) (vS HO_1.1) hg hat);have n1_:=ak (Kd.S_after (ok:=(fun k_=>some k_≠(u7:Value).ownBlock)) (vS HO_8.1) hg hat);have n2_:=ak (Kd.R_after (ok:=(fun k_=>some k_≠(u7:Value).ownBlock∧nB k_ (some ad4) t6.length co9)) (vr HL935_0.1) hg hat);have n3_:=ak (hb);have n4_:=ak (ho);clear HO_1;clear HO_8;clear HL935_0;clear HB;clear HO23;have HO_1:=n0_;have HO_8:=n1_;have HL935_0:=n2_;have HB:=n3_;have HO18:=n4_;clear n0_ n1_ n2_ n3_ n4_;clear ho hb hg hat;obtain⟨Ao12,co12,rfl⟩:=Kd.R_slice HO18.1)|((with_reducible refine at_bi (b:=.append) (xs:=#[.tmp 31,.tmp 36]) rfl ?_);at_builtin;refine Kd.S_append (Kd.slice 2 (Kd.int .i64)) (w0:=w) w.heap.size rfl (.tmp 31) (.tmp 36) 41 26 (.slice none 0 0) 24 rfl Try.underlying41 info26 rfl (by decide) (by omega) u7 x1_0 y10 [.slice Ao12 y10.length co12] (fun k_=>nB k_ (some ad4) t6.length co9) (fun k_=>some k_=(.slice Ao12 y10.length co12:Value).ownBlock) rfl rfl ?aP (fun k_ hk_=>((Kd.R_mono (ok':=fun k_=>((fun k_=>nB k_ (some ad4) t6.length co9)) k_∧some k_≠(u7:Value).ownBlock) (Kd.R_apart' (Kd.R_apart' (HO18.1) (Kd.S_typed HO_8.1) (by decide)) (Kd.S_typed HO_1.1) (by decide)) (fun k_ hk=>⟨hk.1.2,hk.2⟩))).1 k_ hk_.symm) ?aF ?aO ?aB ?aS ?aL ?_;(case aP=>exact Kd.M_row (Kd.R_mono (Kd.R_tight rfl (Kd.R_mono (ok':=fun k_=>((fun k_=>nB k_ (some ad4) t6.length co9)) k_∧some k_≠(u7:Value).ownBlock) (Kd.R_apart' (Kd.R_apart' (HO18.1) (Kd.S_typed HO_8.1) (by decide)) (Kd.S_typed HO_1.1) (by decide)) (fun k_ hk=>⟨hk.1.2,hk.2⟩))) (fun _ h_=>h_)));(case aB=>exact(vb HB.1));(case aF=>exact(fun k_ hk=>Kd.fresh' (Kd.S_lt (vS HO_8.1)) k_ hk));(case aO=>exact(by(with_reducible repeat (first|apply Kd.S_alloc|apply Kd.S_drewN|apply Kd.S_drew));exact Kd.S_mono HO_1.1 (fun k_ hk=>⟨hk.1,fun e_=>hk.2 e_⟩)));(case aS=>exact(below_size (vb HB.1)));(case aL=>have:=LMc15.1;omega);intro v30 w19 ho hb hg hat;rw [←Ny17.1] at ho;have n0_:=ak (Kd.S_after (ok:=(fun k_=>nB k_ Ao12 y10.length co12)) (by(with_reducible repeat (first|apply Kd.S_alloc|apply Kd.S_drewN|apply Kd.S_drew));exact Kd.S_mono HO_8.1 (fun _ hk=>⟨hk.2,hk.1⟩)) hg hat);have n1_:=ak (Kd.R_after (ok:=(fun k_=>nB k_ (some ad4) t6.length co9∧nB k_ Ao12 y10.length co12)) (vr (Kd.R_mono HL935_0.1 (fun _ hk=>⟨⟨hk.1.2,hk.2⟩,hk.1.1⟩))) hg hat);have n2_:=ak (hb);have n3_:=ak (ho);clear HO_8;clear HL935_0;clear HB;clear HO_1;clear HO18;have HO_8:=n0_;have HL935_0:=n1_;have HB:=n2_;have HO26:=n3_;clear n0_ n1_ n2_ n3_;clear ho hb hg hat))
            go_roundg k2
            case measure=>have:=HK1.1;have:=HK2.1;omega
            case rel=>exact⟨(y17),(wrap64 (x5_0+1)),es,H',⟨by have:=HK1.1;have:=HK2.1;omega⟩,⟨vS HO26.1⟩,⟨by(with_reducible repeat (first|apply Kd.S_alloc|apply Kd.S_drewN|apply Kd.S_drew));exact Kd.S_mono HO_8.1 (fun _ hk=>hk.2)⟩,⟨vb HB.1⟩⟩
           ·exact nO_ c15 H
          ·exact nO_ c14 H
         ·exact nO_ c13 H
        ·exact nO_ c12 H
       ·rw [if_neg c11] at H;have c11b0:=decide_eq_false c11;clear c11;have H':=ak H;clear H;go_wp2
        go_roundg k2
        case measure=>have:=HK1.1;have:=HK2.1;omega
        case rel=>exact⟨(x1_0),(wrap64 (x7_3+1)),es,H',⟨by have:=HK1.1;have:=HK2.1;omega⟩,⟨by(with_reducible repeat (first|apply Kd.S_alloc|apply Kd.S_drewN|apply Kd.S_drew));exact Kd.S_mono HO_1.1 (fun _ hk=>trivial)⟩,⟨vb HB.1⟩⟩
    ·rw [if_neg c7] at H;have c7b0:=decide_eq_false c7;clear c7;obtain rfl:=sj H;go_wp2
     go_ret
     exact⟨_,ew,vS HO_1.1,vb HB.1⟩
mutual
def impl_closures.l0:Nat→List (List Int)→Int→List (S91)→List (S69)→List Int→List Int→List Int→Int→Option ((List (List Int)))
 |0,_,_,_,_,_,_,_,_=>none
 |k+1,x0,x6,x15,x12,x16,x17,x18,x19=>if x6≤(x12.length:Int) then ((impl_listsOf.f k (x12.length:Int) 0 x6).bind fun t5=>(impl_closures.l1 k x0 x6 t5 (t5.length:Int) 0 x15 x12 x16 x17 x18 x19)) else (some x0)
def impl_closures.l1:Nat→List (List Int)→Int→List (List Int)→Int→Int→List (S91)→List (S69)→List Int→List Int→List Int→Int→Option ((List (List Int)))
 |0,_,_,_,_,_,_,_,_,_,_,_=>none
 |k+1,x0,x6,x8,x20,x4,x15,x12,x16,x17,x18,x19=>if x4<x20 then (if 0≤x4 then (if x4<(x8.length:Int) then ((impl_isClosure.f k x15 x12 x16 x17 x18 x19 (rd_L4 x8 x4)).bind fun t24=>(if t24=true then (if x0.length<5864062014805 then (impl_closures.l1 k (x0++[rd_L4 x8 x4]) x6 x8 x20 (wrap64 (x4+1)) x15 x12 x16 x17 x18 x19) else (none)) else (impl_closures.l1 k x0 x6 x8 x20 (wrap64 (x4+1)) x15 x12 x16 x17 x18 x19))) else (none)) else (none)) else (impl_closures.l0 k x0 (wrap64 (x6+1)) x15 x12 x16 x17 x18 x19)
end
def impl_closures.f (k:Nat) (l0_0:List (S91)) (l0_1:List (S69)) (l0_2:List Int) (l0_3:List Int) (l0_4:List Int) (a0_5:Int):Option ((List (List Int))):=impl_closures.l0 k ([]:List (List Int)) 0 l0_0 l0_1 l0_2 l0_3 l0_4 a0_5
theorem impl_closures.mono_l:∀k,(∀y7 y9 y2 y0 y6 y11 y13 y10,LeO (impl_closures.l0 k y7 y9 y2 y0 y6 y11 y13 y10) (impl_closures.l0 (k+1) y7 y9 y2 y0 y6 y11 y13 y10))∧(∀y7 y9 y2 y0 y6 y11 y13 y10 y21 y22 y23,LeO (impl_closures.l1 k y7 y9 y2 y0 y6 y11 y13 y10 y21 y22 y23) (impl_closures.l1 (k+1) y7 y9 y2 y0 y6 y11 y13 y10 y21 y22 y23))
 |0=>⟨fun _ _ _ _ _ _ _ _ r h=>by simp [impl_closures.l0] at h,fun _ _ _ _ _ _ _ _ _ _ _ r h=>by simp [impl_closures.l1] at h⟩
 |k+1=>by
  obtain⟨ih0,ih1⟩:=impl_closures.mono_l k;refine⟨?_,?_⟩
  ·intro y7 y9 y2 y0 y6 y11 y13 y10;unfold impl_closures.l0
   repeat' (with_reducible first|exact ih0 .. |exact ih1 .. |exact impl_isClosure.mono .. |exact impl_listsOf.mono .. |exact lm|refine LeO.ite ?_ ?_|refine LeO.bind ?_ (fun _=>?_))
  ·intro y7 y9 y2 y0 y6 y11 y13 y10 y21 y22 y23;unfold impl_closures.l1
   repeat' (with_reducible first|exact ih0 .. |exact ih1 .. |exact impl_isClosure.mono .. |exact impl_listsOf.mono .. |exact lm|refine LeO.ite ?_ ?_|refine LeO.bind ?_ (fun _=>?_))
theorem impl_closures.mono:∀a0 a1 a2 a3 a4 a5 k,LeO (impl_closures.f k a0 a1 a2 a3 a4 a5) (impl_closures.f (k+1) a0 a1 a2 a3 a4 a5):=by
 intro a0 a1 a2 a3 a4 a5 k;obtain⟨ih0,ih1⟩:=impl_closures.mono_l k;unfold impl_closures.f
 repeat' (with_reducible first|exact ih0 .. |exact ih1 .. |exact impl_isClosure.mono .. |exact impl_listsOf.mono .. |exact lm|refine LeO.ite ?_ ?_|refine LeO.bind ?_ (fun _=>?_))
theorem impl_closures.calls (k:Nat) (A0_0:Option Addr) (c0_0:Nat) (l0_0:List (S91)) (A0_1:Option Addr) (c0_1:Nat) (l0_1:List (S69)) (A0_2:Option Addr) (c0_2:Nat) (l0_2:List Int) (A0_3:Option Addr) (c0_3:Nat) (l0_3:List Int) (A0_4:Option Addr) (c0_4:Nat) (l0_4:List Int) (a0_5:Int) (r:List (List Int)) (w:World) (hr0_0:Kd.C k91 w A0_0 l0_0.length l0_0) (hc0_0:l0_0.length≤c0_0) (hr0_1:Kd.C k69 w A0_1 l0_1.length l0_1) (hc0_1:l0_1.length≤c0_1) (hr0_2:Kd.C (Kd.int .i64) w A0_2 l0_2.length l0_2) (hc0_2:l0_2.length≤c0_2) (hr0_3:Kd.C (Kd.int .i64) w A0_3 l0_3.length l0_3) (hc0_3:l0_3.length≤c0_3) (hr0_4:Kd.C (Kd.int .i64) w A0_4 l0_4.length l0_4) (hc0_4:l0_4.length≤c0_4) (h:impl_closures.f k l0_0 l0_1 l0_2 l0_3 l0_4 a0_5=some r):
  Calls Try.prog 56 #[.agg (f5 A0_0 l0_0 c0_0 A0_1 l0_1 c0_1 A0_2 l0_2 c0_2 A0_3 l0_3 c0_3 A0_4 l0_4 c0_4 a0_5)] w fun e w'=>∃v0_:Value,e=.returned (v0_)∧Kd.N (Kd.slice 2 (Kd.int .i64)) 26 w' w.heap.size (fun k_=>(w.heap.size≤k_)) v0_ r∧Below w.heap.size w w':=by
 have hu28:=Try.underlying28;have HR0_0:=ak hr0_0;have HC0_0:=ak hc0_0;clear hr0_0 hc0_0;have HR0_1:=ak hr0_1;have HC0_1:=ak hc0_1;clear hr0_1 hc0_1;have HR0_2:=ak hr0_2;have HC0_2:=ak hc0_2;clear hr0_2 hc0_2;have HR0_3:=ak hr0_3;have HC0_3:=ak hc0_3;clear hr0_3 hc0_3;have HR0_4:=ak hr0_4;have HC0_4:=ak hc0_4;clear hr0_4 hc0_4;have HB:=ak (Below.refl w.heap.size w);unfold impl_closures.f at h;have H:=h;clear h;have H':=ak H;clear H;go_enter Try.func56,Try.ntmps56;go_wp2_with (first|((with_reducible refine gate_dst (N:=1) rfl ?_);refine bx 1 (f5 A0_0 l0_0 c0_0 A0_1 l0_1 c0_1 A0_2 l0_2 c0_2 A0_3 l0_3 c0_3 A0_4 l0_4 c0_4 a0_5) 28 ?_;intro gb3 hg w2 hbox hb;have BK3:=ak hbox;have GW945:=gw hg HB;have GE3:=gw hg HB;replace HB:=bs HB hb;clear hb hbox hg))
 go_loopg [3,4] k (fun kq v0 v6 w'=>∃(x0_9:List (List Int)) (x6_9:Int),v6=.int .i64 x6_9∧Aside0 (impl_closures.l0 kq x0_9 x6_9 l0_0 l0_1 l0_2 l0_3 l0_4 a0_5=some r)∧Aside0 (kq≤k)∧Aside0 (Kd.N (Kd.slice 2 (Kd.int .i64)) 26 w' w.heap.size (fun k_=>(w.heap.size≤k_)∧k_≠gb3) v0 x0_9)∧Aside0 (w'.heap[gb3]? =some (.cells (f5 A0_0 l0_0 c0_0 A0_1 l0_1 c0_1 A0_2 l0_2 c0_2 A0_3 l0_3 c0_3 A0_4 l0_4 c0_4 a0_5) 28 (0,0)))∧Aside0 (Below w.heap.size w w'))
 case atStart=>exact⟨(([]:List (List Int))),(0),es,H',⟨Nat.le_refl _⟩,⟨by first|exact Kd.S_nil _ _ _ _ _|exact Kd.N_nil _ _ _ _ _|exact Kd.V_nil _ _ _ _ _|exact Kd.Q_nil _ _ _ _ _|exact Kd.R_nil _ _ _ _ _⟩,⟨vk BK3.1⟩,⟨vb HB.1⟩⟩
 case round=>
  clear H';obtain⟨x0_9,x6_9,rfl,HA,HK1,HO_0,BK3,HB⟩:=hrel
  cases gk with
  |zero=>exact absurd HA.1 (by simp [impl_closures.l0])
  |succ k1=>
   have H:=HA.1;clear HA;simp only [impl_closures.l0] at H
   by_cases c3:x6_9≤(l0_1.length:Int)
   ·rw [if_pos c3] at H;have c3b0:=decide_eq_true c3;clear c3;obtain⟨t5,A4,H⟩:=bnk H;have H':=ak H;clear H;have hcz11:=cz6 BK3.1;go_wp2_with (first|((with_reducible refine at_fn (f:=84) rfl ?_);refine gl (some 18) Try.func84 #[.int .i64 (l0_1.length:Int),.int .i64 0,.int .i64 x6_9] ?_;(with_reducible refine(impl_listsOf.calls k1 (l0_1.length:Int) 0 x6_9 t5 _ A4.1).mono ?_);rintro e w6 ⟨v29,rfl,ho7,hb⟩;refine⟨_,rfl,?_⟩;have HO25:=ak (Kd.N_lower (Kd.N_mono (ok':=fun k_=>(w.heap.size≤k_)∧some k_≠(u3:Value).ownBlock∧k_≠gb3) (Kd.S_N (Kd.S_bound ho7)) (fun k_ hk_=>⟨(Nat.le_trans (below_size (vb HB.1)) hk_.2.1),(Kd.fresh' (Kd.N_lt (vN HO_0.1)) k_ hk_.2.1),(Kd.freshB (g:=gb3) (o:=.cells (f5 A0_0 l0_0 c0_0 A0_1 l0_1 c0_1 A0_2 l0_2 c0_2 A0_3 l0_3 c0_3 A0_4 l0_4 c0_4 a0_5) 28 (0,0)) (vk BK3.1) k_ hk_.2.1)⟩)) (below_size (vb HB.1)));replace HO_0:=ak (Kd.N_elder' (vN HO_0.1) (Kd.N_base (Kd.S_N ho7)) hb);replace BK3:=kb BK3 hb;replace HB:=bs HB hb;(try clear hb);(try clear ho7);obtain⟨Ao10,co10,eo10⟩:=Kd.N_slice HO25.1;subst eo10))
    go_loopg [3,20] k1 (fun kq v0 v4 w'=>∃(x0_2:List (List Int)) (x4_2:Int),v4=.int .i64 x4_2∧Aside0 (impl_closures.l1 kq x0_2 x6_9 t5 (t5.length:Int) x4_2 l0_0 l0_1 l0_2 l0_3 l0_4 a0_5=some r)∧Aside0 (kq≤k1)∧Aside0 (Kd.N (Kd.slice 2 (Kd.int .i64)) 26 w' w.heap.size (fun k_=>(w.heap.size≤k_)∧nB k_ Ao10 t5.length co10∧k_≠gb3) v0 x0_2)∧Aside0 (Kd.N (Kd.slice 2 (Kd.int .i64)) 26 w' w.heap.size (fun k_=>(w.heap.size≤k_)∧some k_≠(v0:Value).ownBlock∧k_≠gb3) (.slice Ao10 t5.length co10) t5)∧Aside0 (w'.heap[gb3]? =some (.cells (f5 A0_0 l0_0 c0_0 A0_1 l0_1 c0_1 A0_2 l0_2 c0_2 A0_3 l0_3 c0_3 A0_4 l0_4 c0_4 a0_5) 28 (0,0)))∧Aside0 (Below w.heap.size w w'))
    case atStart=>exact⟨(x0_9),(0),es,H',⟨Nat.le_refl _⟩,⟨vN (Kd.N_mono HO_0.1 (fun _ hk=>⟨hk.1.1,⟨hk.2,hk.1.2⟩⟩))⟩,⟨vN HO25.1⟩,⟨vk BK3.1⟩,⟨vb HB.1⟩⟩
    case round=>
     clear H';obtain⟨x0_2,x4_2,rfl,HA,HK2,HO_0,HO_8,BK3,HB⟩:=hrel
     cases gk with
     |zero=>exact absurd HA.1 (by simp [impl_closures.l1])
     |succ k2=>
      have H:=HA.1;clear HA;simp only [impl_closures.l1] at H
      by_cases c8:x4_2<(t5.length:Int)
      ·rw [if_pos c8] at H;have c8b0:=decide_eq_true c8;clear c8;by_cases c9:0≤x4_2
       ·rw [if_pos c9] at H;have c9b0:=decide_eq_true c9;clear c9;by_cases c10:x4_2<(t5.length:Int)
        ·rw [if_pos c10] at H;have c10b0:=decide_eq_true c10;clear c10;obtain⟨t24,A11,H⟩:=bnk H;by_cases c12:t24=true
         ·subst c12;rw [if_pos rfl] at H;by_cases c13:x0_2.length<5864062014805
          ·rw [if_pos c13] at H;have LMc13:=ak c13;clear c13;obtain⟨y14,hy14⟩:=gen_ ((x0_2++[rd_L4 t5 x4_2]:List (List Int)));rw [←hy14] at H;have Ny14:=ak hy14;clear hy14;have H':=ak H;clear H;have p1:0≤(x4_2:Int):=od;have q1:x4_2<(t5.length:Int):=od;obtain⟨ad1,A949_0,c949_0,e1,hx1_7,hl949_0,hi949_0⟩:=at_L4 (Kd.N_reads' HO_8.1).2.2 x4_2 p1 q1
           cases e1;obtain⟨ce949,hce949,hMe949,hcc949⟩:=Kd.N_get HO_8.1 [] x4_2 p1 (by first|exact q1|exact od|(have e_:=(Kd.N_reads' HO_8.1).1;omega));obtain⟨ua949_0,uc949_0,rfl,ul949_0,ge949_0⟩:=Kd.FK_slice_open hMe949;have hv1_7:=hcc949 0 _ rfl;rw [Nat.add_zero,show ((Kd.slice 2 (Kd.int .i64))).sz=1 from rfl,Nat.mul_one] at hv1_7;replace hv1_7:=Option.some.inj (hv1_7.symm.trans hx1_7);injection hv1_7 with hva_ hvn_ hvc_
           rw [hva_] at ge949_0;rw [hvc_] at ul949_0;have HL949_0:=ak (show Kd.V (Kd.int .i64) 2 _ w.heap.size _ _ (rd_L4 t5 x4_2) from Kd.V_mk ul949_0 ge949_0);clear hva_ hvn_ hvc_ ge949_0 ul949_0;clear hcc949 hce949;have HR949_0:=ak hi949_0;have HC949_0:=ak hl949_0;clear hi949_0 hl949_0;replace p1:=eq_true p1;replace q1:=eq_true q1;have hcz27:=cz6 BK3.1;go_wp2_with (first|((with_reducible refine at_fn (f:=46) rfl ?_);refine gl (some 26) Try.func46 #[.agg (f5 A0_0 l0_0 c0_0 A0_1 l0_1 c0_1 A0_2 l0_2 c0_2 A0_3 l0_3 c0_3 A0_4 l0_4 c0_4 a0_5),.slice A949_0 (rd_L4 t5 x4_2).length c949_0] ?_;(with_reducible refine(impl_isClosure.calls k2 _ _ l0_0 _ _ l0_1 _ _ l0_2 _ _ l0_3 _ _ l0_4 a0_5 _ _ (rd_L4 t5 x4_2) _ _ ?_ HC0_0.1 ?_ HC0_1.1 ?_ HC0_2.1 ?_ HC0_3.1 ?_ HC0_4.1 ?side11 HC949_0.1 A11.1).mono ?_);exact vd HR0_0.1 HB.1;exact vd HR0_1.1 HB.1;exact vd HR0_2.1 HB.1;exact vd HR0_3.1 HB.1;exact vd HR0_4.1 HB.1;(case side11=>repeat (first|exact(by repeat (first|(with_reducible exact HR949_0.1)|(with_reducible refine Kd.C_alloc ?_ _)|(with_reducible refine Kd.C_drewN ?_ _)|(with_reducible refine Kd.C_drew ?_)|exact HR949_0.1))|(with_reducible refine Kd.C_alloc ?_ _)|(with_reducible refine Kd.C_drewN ?_ _)|(with_reducible refine Kd.C_drew ?_)));rintro e w15 ⟨rfl,hb⟩;refine⟨_,rfl,?_⟩;replace HO_0:=ak (Kd.N_below (vN HO_0.1) hb);replace HO_8:=ak (Kd.N_below (vN HO_8.1) hb);replace HL949_0:=ak (Kd.V_below (vV HL949_0.1) hb);replace BK3:=kb BK3 hb;replace HR949_0:=ak (Kd.C_below (by repeat (first|(with_reducible exact HR949_0.1)|(with_reducible refine Kd.C_alloc ?_ _)|(with_reducible refine Kd.C_drewN ?_ _)|(with_reducible refine Kd.C_drew ?_)|exact HR949_0.1)) hb);replace HB:=bs HB hb;(try clear hb))|((with_reducible refine at_bi (b:=.append) (xs:=#[.tmp 27,.tmp 29]) rfl ?_);at_builtin;refine Kd.N_append (Kd.slice 2 (Kd.int .i64)) (w0:=w) w.heap.size rfl (.tmp 27) (.tmp 29) 41 26 (.slice none 0 0) 24 rfl Try.underlying41 info26 rfl (by decide) (by omega) u3 x0_2 (rd_L4 t5 x4_2) [.slice A949_0 (rd_L4 t5 x4_2).length c949_0] (fun k_=>(w.heap.size≤k_)∧nB k_ (some ad1) t5.length co10∧k_≠gb3) (fun k_=>((fun k_=>(w.heap.size≤k_)∧nB k_ (some ad1) t5.length co10∧k_≠gb3)) k_∧some k_≠(u3:Value).ownBlock) rfl rfl ?aP (fun _ hk=>hk) ?aF ?aO ?aB ?aS ?aL ?_;(case aP=>exact(Kd.FK_slice_mk (Kd.V_reads' (Kd.V_mono (ok':=(fun k_=>((fun k_=>(w.heap.size≤k_)∧nB k_ (some ad1) t5.length co10∧k_≠gb3)) k_∧some k_≠(u3:Value).ownBlock)) (HL949_0.1) (fun k_ hk=>⟨⟨hk.1.1,⟨hk.2,hk.1.2.2⟩⟩,hk.1.2.1⟩))).2.1 (Kd.V_F (Kd.V_mono (ok':=(fun k_=>((fun k_=>(w.heap.size≤k_)∧nB k_ (some ad1) t5.length co10∧k_≠gb3)) k_∧some k_≠(u3:Value).ownBlock)) (HL949_0.1) (fun k_ hk=>⟨⟨hk.1.1,⟨hk.2,hk.1.2.2⟩⟩,hk.1.2.1⟩)))));(case aB=>exact(vb HB.1));(case aF=>exact(fun k_ hk=>⟨(Nat.le_trans (below_size (vb HB.1)) hk),Kd.fresh' (Kd.N_lt (vN HO_8.1)) k_ hk,Kd.freshB (g:=gb3) (o:=.cells (f5 A0_0 l0_0 c0_0 A0_1 l0_1 c0_1 A0_2 l0_2 c0_2 A0_3 l0_3 c0_3 A0_4 l0_4 c0_4 a0_5) 28 (0,0)) (vk BK3.1) k_ hk⟩));(case aO=>exact(vN HO_0.1));(case aS=>exact(below_size (vb HB.1)));(case aL=>have:=LMc13.1;omega);intro v30 w16 ho hb hg hat;rw [←Ny14.1] at ho;have n0_:=ak (Kd.N_afterv (ok:=(fun k_=>(w.heap.size≤k_)∧k_≠gb3)) (vN (Kd.N_mono HO_8.1 (fun _ hk=>⟨⟨hk.1,hk.2.2⟩,hk.2.1⟩))) hg hat);have n1_:=ak (blk_grown (g:=gb3) (o:=.cells (f5 A0_0 l0_0 c0_0 A0_1 l0_1 c0_1 A0_2 l0_2 c0_2 A0_3 l0_3 c0_3 A0_4 l0_4 c0_4 a0_5) 28 (0,0)) (vk BK3.1) hg (Kd.N_ne HO_0.1 BK3.1 (by decide)));have n2_:=ak (Kd.V_afterv (ok:=(fun k_=>(w.heap.size≤k_)∧nB k_ (some ad1) t5.length co10∧k_≠gb3)) (by(with_reducible repeat (first|apply Kd.V_alloc|apply Kd.V_drewN|apply Kd.V_drew));exact Kd.V_mono HL949_0.1 (fun _ hk=>⟨⟨hk.1.1,⟨hk.2,hk.1.2.2⟩⟩,hk.1.2.1⟩)) hg hat);have n3_:=ak (hb);have n4_:=ak (ho);clear HO_8;clear BK3;clear HL949_0;clear HB;clear HO_0;have HO_8:=n0_;have BK3:=n1_;have HL949_0:=n2_;have HB:=n3_;have HO26:=n4_;clear n0_ n1_ n2_ n3_ n4_;clear ho hb hg hat))
           go_roundg k2
           case measure=>have:=HK1.1;have:=HK2.1;omega
           case rel=>exact⟨(y14),(wrap64 (x4_2+1)),es,H',⟨by have:=HK1.1;have:=HK2.1;omega⟩,⟨vN HO26.1⟩,⟨vN (Kd.N_mono HO_8.1 (fun _ hk=>⟨hk.1.1,⟨hk.2,hk.1.2⟩⟩))⟩,⟨vk BK3.1⟩,⟨vb HB.1⟩⟩
          ·exact nO_ c13 H
         ·replace c12:=Bool.eq_false_iff.mpr c12;subst c12;rw [if_neg nf] at H;have H':=ak H;clear H;have p1:0≤(x4_2:Int):=od;have q1:x4_2<(t5.length:Int):=od;obtain⟨ad1,A949_0,c949_0,e1,hx1_7,hl949_0,hi949_0⟩:=at_L4 (Kd.N_reads' HO_8.1).2.2 x4_2 p1 q1
          cases e1;obtain⟨ce949,hce949,hMe949,hcc949⟩:=Kd.N_get HO_8.1 [] x4_2 p1 (by first|exact q1|exact od|(have e_:=(Kd.N_reads' HO_8.1).1;omega));obtain⟨ua949_0,uc949_0,rfl,ul949_0,ge949_0⟩:=Kd.FK_slice_open hMe949;have hv1_7:=hcc949 0 _ rfl;rw [Nat.add_zero,show ((Kd.slice 2 (Kd.int .i64))).sz=1 from rfl,Nat.mul_one] at hv1_7;replace hv1_7:=Option.some.inj (hv1_7.symm.trans hx1_7);injection hv1_7 with hva_ hvn_ hvc_
          rw [hva_] at ge949_0;rw [hvc_] at ul949_0;have HL949_0:=ak (show Kd.V (Kd.int .i64) 2 _ w.heap.size _ _ (rd_L4 t5 x4_2) from Kd.V_mk ul949_0 ge949_0);clear hva_ hvn_ hvc_ ge949_0 ul949_0;clear hcc949 hce949;have HR949_0:=ak hi949_0;have HC949_0:=ak hl949_0;clear hi949_0 hl949_0;replace p1:=eq_true p1;replace q1:=eq_true q1;have hcz28:=cz6 BK3.1;go_wp2_with (first|((with_reducible refine at_fn (f:=46) rfl ?_);refine gl (some 26) Try.func46 #[.agg (f5 A0_0 l0_0 c0_0 A0_1 l0_1 c0_1 A0_2 l0_2 c0_2 A0_3 l0_3 c0_3 A0_4 l0_4 c0_4 a0_5),.slice A949_0 (rd_L4 t5 x4_2).length c949_0] ?_;(with_reducible refine(impl_isClosure.calls k2 _ _ l0_0 _ _ l0_1 _ _ l0_2 _ _ l0_3 _ _ l0_4 a0_5 _ _ (rd_L4 t5 x4_2) _ _ ?_ HC0_0.1 ?_ HC0_1.1 ?_ HC0_2.1 ?_ HC0_3.1 ?_ HC0_4.1 ?side11 HC949_0.1 A11.1).mono ?_);exact vd HR0_0.1 HB.1;exact vd HR0_1.1 HB.1;exact vd HR0_2.1 HB.1;exact vd HR0_3.1 HB.1;exact vd HR0_4.1 HB.1;(case side11=>repeat (first|exact(by repeat (first|(with_reducible exact HR949_0.1)|(with_reducible refine Kd.C_alloc ?_ _)|(with_reducible refine Kd.C_drewN ?_ _)|(with_reducible refine Kd.C_drew ?_)|exact HR949_0.1))|(with_reducible refine Kd.C_alloc ?_ _)|(with_reducible refine Kd.C_drewN ?_ _)|(with_reducible refine Kd.C_drew ?_)));rintro e w18 ⟨rfl,hb⟩;refine⟨_,rfl,?_⟩;replace HO_0:=ak (Kd.N_below (vN HO_0.1) hb);replace HO_8:=ak (Kd.N_below (vN HO_8.1) hb);replace HL949_0:=ak (Kd.V_below (vV HL949_0.1) hb);replace BK3:=kb BK3 hb;replace HR949_0:=ak (Kd.C_below (by repeat (first|(with_reducible exact HR949_0.1)|(with_reducible refine Kd.C_alloc ?_ _)|(with_reducible refine Kd.C_drewN ?_ _)|(with_reducible refine Kd.C_drew ?_)|exact HR949_0.1)) hb);replace HB:=bs HB hb;(try clear hb)))
          go_roundg k2
          case measure=>have:=HK1.1;have:=HK2.1;omega
          case rel=>exact⟨(x0_2),(wrap64 (x4_2+1)),es,H',⟨by have:=HK1.1;have:=HK2.1;omega⟩,⟨vN HO_0.1⟩,⟨vN HO_8.1⟩,⟨vk BK3.1⟩,⟨vb HB.1⟩⟩
        ·exact nO_ c10 H
       ·exact nO_ c9 H
      ·rw [if_neg c8] at H;have c8b0:=decide_eq_false c8;clear c8;have H':=ak H;clear H;go_wp2
       go_roundg k2
       case measure=>have:=HK1.1;have:=HK2.1;omega
       case rel=>exact⟨(x0_2),(wrap64 (x6_9+1)),es,H',⟨by have:=HK1.1;have:=HK2.1;omega⟩,⟨vN (Kd.N_mono HO_0.1 (fun _ hk=>⟨hk.1,hk.2.2⟩))⟩,⟨vk BK3.1⟩,⟨vb HB.1⟩⟩
   ·rw [if_neg c3] at H;have c3b0:=decide_eq_false c3;clear c3;obtain rfl:=sj H;have hcz20:=cz6 BK3.1;go_wp2
    go_ret
    exact⟨_,ew,vN (Kd.N_mono HO_0.1 (fun _ hk=>hk.1)),vb HB.1⟩
end Go.Proofs.Ytiblahniohjbbaa.Pall
