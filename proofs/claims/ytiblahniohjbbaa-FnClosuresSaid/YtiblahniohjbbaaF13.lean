/- Go functions of the program, each as a Lean function, and the proof that each call comes to what the Lean function tells; no condition beyond those that stand there. -/
import Derived.Test.YtiblahniohjbbaaF07
import Derived.Test.YtiblahniohjbbaaF12
namespace Go.Proofs.Ytiblahniohjbbaa.Pall
set_option maxRecDepth 100000
set_option maxHeartbeats 8000000
open Go.RowKit Go.Proofs.YtiblahniohjbbaaW.PrintWords Go.Proofs.YtiblahniohjbbaaW.PrintLast Go.Proofs.YtiblahniohjbbaaW.PrintMore
set_option linter.unusedVariables false
set_option linter.unusedSimpArgs false
def spec_PlacingAfter.f (k:Nat) (l0_0:List (S91)) (l0_1:List (S69)) (l0_2:List Int) (l0_3:List Int) (l0_4:List Int) (a0_5:Int) (l1:List Int):Option (List Int×Int):=(spec_l19Code.f k l0_0 l0_1 l0_2 l0_3 l0_4 a0_5 l1).bind fun t12=>(if t12=0 then ((spec_l19Without.f k l0_0 l0_1 l0_2 l0_3 l0_4 a0_5 l1).bind fun bt1=>((spec_BestPlacing.f k bt1.1 bt1.2.1 bt1.2.2.1 bt1.2.2.2.1 bt1.2.2.2.2.1 bt1.2.2.2.2.2).bind fun bt23=>(if bt23.2.2=0 then (some (bt23.1,0)) else (some (([]:List Int),5))))) else (some (([]:List Int),t12)))
theorem spec_PlacingAfter.calls (k:Nat) (A0_0:Option Addr) (c0_0:Nat) (l0_0:List (S91)) (A0_1:Option Addr) (c0_1:Nat) (l0_1:List (S69)) (A0_2:Option Addr) (c0_2:Nat) (l0_2:List Int) (A0_3:Option Addr) (c0_3:Nat) (l0_3:List Int) (A0_4:Option Addr) (c0_4:Nat) (l0_4:List Int) (a0_5:Int) (A1:Option Addr) (c1:Nat) (l1:List Int) (r1:List Int) (r2:Int) (w:World) (hr0_0:Kd.C k91 w A0_0 l0_0.length l0_0) (hc0_0:l0_0.length≤c0_0) (hr0_1:Kd.C k69 w A0_1 l0_1.length l0_1) (hc0_1:l0_1.length≤c0_1) (hr0_2:Kd.C (Kd.int .i64) w A0_2 l0_2.length l0_2) (hc0_2:l0_2.length≤c0_2) (hr0_3:Kd.C (Kd.int .i64) w A0_3 l0_3.length l0_3) (hc0_3:l0_3.length≤c0_3) (hr0_4:Kd.C (Kd.int .i64) w A0_4 l0_4.length l0_4) (hc0_4:l0_4.length≤c0_4) (hr1:Kd.C (Kd.int .i64) w A1 l1.length l1) (hc1:l1.length≤c1) (h:spec_PlacingAfter.f k l0_0 l0_1 l0_2 l0_3 l0_4 a0_5 l1=some (r1,r2)):
  Calls Try.prog 17 #[.agg (f5 A0_0 l0_0 c0_0 A0_1 l0_1 c0_1 A0_2 l0_2 c0_2 A0_3 l0_3 c0_3 A0_4 l0_4 c0_4 a0_5),.slice A1 l1.length c1] w fun e w'=>∃v0_:Value,e=.returned (.tuple #[v0_,.int .i64 r2])∧Kd.V (Kd.int .i64) 2 w' w.heap.size (fun k_=>(w.heap.size≤k_)) v0_ r1∧Below w.heap.size w w':=by
 have hu28:=Try.underlying28;have HR0_0:=ak hr0_0;have HC0_0:=ak hc0_0;clear hr0_0 hc0_0;have HR0_1:=ak hr0_1;have HC0_1:=ak hc0_1;clear hr0_1 hc0_1;have HR0_2:=ak hr0_2;have HC0_2:=ak hc0_2;clear hr0_2 hc0_2;have HR0_3:=ak hr0_3;have HC0_3:=ak hc0_3;clear hr0_3 hc0_3;have HR0_4:=ak hr0_4;have HC0_4:=ak hc0_4;clear hr0_4 hc0_4;have HR1:=ak hr1;have HC1:=ak hc1;clear hr1 hc1;have HB:=ak (Below.refl w.heap.size w);unfold spec_PlacingAfter.f at h;have H:=h;clear h;obtain⟨t12,A3,H⟩:=bnk H;by_cases c4:t12=0
 rw [if_pos c4] at H;obtain⟨c4b0,c4b1⟩:=bqt c4;clear c4;obtain⟨⟨t1,t8,t9,t10,t11,t13⟩,A50,H⟩:=bnd H;dsimp only at H;have A5:=ak A50;clear A50;obtain⟨⟨t23,t32,t29⟩,A60,H⟩:=bnd H;dsimp only at H;have A6:=ak A60;clear A60;by_cases c7:t29=0
 ·rw [if_pos c7] at H;obtain⟨c7b0,c7b1⟩:=bqt c7;clear c7;simp only [Option.some.injEq,Prod.mk.injEq] at H
  obtain⟨rfl,rfl⟩:=H;go_enter Try.func17,Try.ntmps17;go_wp2_with (first|((with_reducible refine gate_dst (N:=2) rfl ?_);refine bx 2 (f5 A0_0 l0_0 c0_0 A0_1 l0_1 c0_1 A0_2 l0_2 c0_2 A0_3 l0_3 c0_3 A0_4 l0_4 c0_4 a0_5) 28 ?_;intro gb0 hg w8 hbox hb;have BK0:=ak hbox;have GW865:=gw hg HB;have GE0:=gw hg HB;replace HB:=bs HB hb;clear hb hbox hg;have hcz30:=cz6 BK0.1)|((with_reducible refine at_fn (f:=47) rfl ?_);refine gl (some 12) Try.func47 #[.agg (f5 A0_0 l0_0 c0_0 A0_1 l0_1 c0_1 A0_2 l0_2 c0_2 A0_3 l0_3 c0_3 A0_4 l0_4 c0_4 a0_5),.slice A1 l1.length c1] ?_;(with_reducible refine(spec_l19Code.calls k _ _ l0_0 _ _ l0_1 _ _ l0_2 _ _ l0_3 _ _ l0_4 a0_5 _ _ l1 t12 _ ?_ HC0_0.1 ?_ HC0_1.1 ?_ HC0_2.1 ?_ HC0_3.1 ?_ HC0_4.1 ?_ HC1.1 A3.1).mono ?_);exact vd HR0_0.1 HB.1;exact vd HR0_1.1 HB.1;exact vd HR0_2.1 HB.1;exact vd HR0_3.1 HB.1;exact vd HR0_4.1 HB.1;exact vd HR1.1 HB.1;rintro e w10 ⟨rfl,hb⟩;refine⟨_,rfl,?_⟩;replace BK0:=kb BK0 hb;replace HB:=bs HB hb;(try clear hb);have hcz39:=cz6 BK0.1)|((with_reducible refine at_fn (f:=50) rfl ?_);refine gl (some 19) Try.func50 #[.agg (f5 A0_0 l0_0 c0_0 A0_1 l0_1 c0_1 A0_2 l0_2 c0_2 A0_3 l0_3 c0_3 A0_4 l0_4 c0_4 a0_5),.slice A1 l1.length c1] ?_;(with_reducible refine(spec_l19Without.calls k _ _ l0_0 _ _ l0_1 _ _ l0_2 _ _ l0_3 _ _ l0_4 a0_5 _ _ l1 t1 t8 t9 t10 t11 t13 _ ?_ HC0_0.1 ?_ HC0_1.1 ?_ HC0_2.1 ?_ HC0_3.1 ?_ HC0_4.1 ?_ HC1.1 A5.1).mono ?_);exact vd HR0_0.1 HB.1;exact vd HR0_1.1 HB.1;exact vd HR0_2.1 HB.1;exact vd HR0_3.1 HB.1;exact vd HR0_4.1 HB.1;exact vd HR1.1 HB.1;rintro e w12 ⟨v33,v34,v35,v36,v37,rfl,ho7,ho14,ho15,ho16,ho17,hb⟩;refine⟨_,rfl,?_⟩;have HO2:=ak (Kd.R_lower (Kd.R_newM (M:=fun k_=>(w.heap.size≤k_)) ho7 (below_size (vb HB.1)) (fun k_ h_=>h_)) (below_size (vb HB.1)));have HO3:=ak (Kd.R_lower (Kd.R_newM (M:=fun k_=>(w.heap.size≤k_)) ho14 (below_size (vb HB.1)) (fun k_ h_=>h_)) (below_size (vb HB.1)));have HO4:=ak (Kd.R_lower (Kd.R_newM (M:=fun k_=>(w.heap.size≤k_)) ho15 (below_size (vb HB.1)) (fun k_ h_=>h_)) (below_size (vb HB.1)));have HO5:=ak (Kd.R_lower (Kd.R_newM (M:=fun k_=>(w.heap.size≤k_)) ho16 (below_size (vb HB.1)) (fun k_ h_=>h_)) (below_size (vb HB.1)));have HO6:=ak (Kd.R_lower (Kd.R_newM (M:=fun k_=>(w.heap.size≤k_)) ho17 (below_size (vb HB.1)) (fun k_ h_=>h_)) (below_size (vb HB.1)));replace BK0:=kb BK0 hb;replace HB:=bs HB hb;(try clear hb);(try clear ho7);(try clear ho14);(try clear ho15);(try clear ho16);(try clear ho17);obtain⟨Ao18,co18,rfl⟩:=Kd.R_slice HO2.1;obtain⟨Ao19,co19,rfl⟩:=Kd.R_slice HO3.1;obtain⟨Ao20,co20,rfl⟩:=Kd.R_slice HO4.1;obtain⟨Ao21,co21,rfl⟩:=Kd.R_slice HO5.1;obtain⟨Ao22,co22,rfl⟩:=Kd.R_slice HO6.1)|((with_reducible refine at_fn (f:=52) rfl ?_);refine gl (some 20) Try.func52 #[.agg (f5 Ao18 t1 co18 Ao19 t8 co19 Ao20 t9 co20 Ao21 t10 co21 Ao22 t11 co22 t13)] ?_;(with_reducible refine(spec_BestPlacing.calls k _ _ t1 _ _ t8 _ _ t9 _ _ t10 _ _ t11 t13 t23 t32 t29 _ ?_ ?_ ?_ ?_ ?_ ?_ ?_ ?_ ?_ ?_ A6.1).mono ?_);exact rc_ HO2;exact rl_ HO2;exact rc_ HO3;exact rl_ HO3;exact rc_ HO4;exact rl_ HO4;exact rc_ HO5;exact rl_ HO5;exact rc_ HO6;exact rl_ HO6;rintro e w18 ⟨v38,rfl,ho7,hb⟩;refine⟨_,rfl,?_⟩;have HO31:=ak (Kd.V_lower (Kd.V_mono (ok':=fun k_=>(w.heap.size≤k_)∧nB k_ Ao18 t1.length co18∧nB k_ Ao19 t8.length co19∧nB k_ Ao20 t9.length co20∧nB k_ Ao21 t10.length co21∧nB k_ Ao22 t11.length co22∧k_≠gb0) ho7 (fun k_ hk_=>⟨(Nat.le_trans (below_size (vb HB.1)) hk_),(Kd.fresh' (Kd.R_lt (vr HO2.1)) k_ hk_),(Kd.fresh' (Kd.R_lt (vr HO3.1)) k_ hk_),(Kd.fresh' (Kd.R_lt (vr HO4.1)) k_ hk_),(Kd.fresh' (Kd.R_lt (vr HO5.1)) k_ hk_),(Kd.fresh' (Kd.R_lt (vr HO6.1)) k_ hk_),(Kd.freshB (g:=gb0) (o:=.cells (f5 A0_0 l0_0 c0_0 A0_1 l0_1 c0_1 A0_2 l0_2 c0_2 A0_3 l0_3 c0_3 A0_4 l0_4 c0_4 a0_5) 28 (0,0)) (vk BK0.1) k_ hk_)⟩)) (below_size (vb HB.1)));replace HO2:=rb HO2 hb;replace HO3:=rb HO3 hb;replace HO4:=rb HO4 hb;replace HO5:=rb HO5 hb;replace HO6:=rb HO6 hb;replace BK0:=kb BK0 hb;replace HB:=bs HB hb;(try clear hb);(try clear ho7)))
  go_ret2
  exact⟨_,ew,by(with_reducible repeat (first|apply Kd.V_alloc|apply Kd.V_drewN|apply Kd.V_drew));exact Kd.V_mono HO31.1 (fun _ hk=>hk.1),vb HB.1⟩
 rw [if_neg c7] at H;obtain⟨c7b0,c7b1⟩:=bqf c7;simp only [Option.some.injEq,Prod.mk.injEq] at H
 obtain⟨rfl,rfl⟩:=H;rotate_left
 rw [if_neg c4] at H;obtain⟨c4b0,c4b1⟩:=bqf c4;simp only [Option.some.injEq,Prod.mk.injEq] at H
 obtain⟨rfl,rfl⟩:=H;rotate_left
 all_goals
  go_enter Try.func17,Try.ntmps17;go_wp2_with (first|((with_reducible refine gate_dst (N:=2) rfl ?_);refine bx 2 (f5 A0_0 l0_0 c0_0 A0_1 l0_1 c0_1 A0_2 l0_2 c0_2 A0_3 l0_3 c0_3 A0_4 l0_4 c0_4 a0_5) 28 ?_;intro gb0 hg w9 hbox hb;have BK0:=ak hbox;have GW865:=gw hg HB;have GE0:=gw hg HB;replace HB:=bs HB hb;clear hb hbox hg;have hcz30:=cz6 BK0.1)|((with_reducible refine at_fn (f:=47) rfl ?_);refine gl (some 12) Try.func47 #[.agg (f5 A0_0 l0_0 c0_0 A0_1 l0_1 c0_1 A0_2 l0_2 c0_2 A0_3 l0_3 c0_3 A0_4 l0_4 c0_4 a0_5),.slice A1 l1.length c1] ?_;(with_reducible refine(spec_l19Code.calls k _ _ l0_0 _ _ l0_1 _ _ l0_2 _ _ l0_3 _ _ l0_4 a0_5 _ _ l1 t12 _ ?_ HC0_0.1 ?_ HC0_1.1 ?_ HC0_2.1 ?_ HC0_3.1 ?_ HC0_4.1 ?_ HC1.1 A3.1).mono ?_);exact vd HR0_0.1 HB.1;exact vd HR0_1.1 HB.1;exact vd HR0_2.1 HB.1;exact vd HR0_3.1 HB.1;exact vd HR0_4.1 HB.1;exact vd HR1.1 HB.1;rintro e w9 ⟨rfl,hb⟩;refine⟨_,rfl,?_⟩;replace BK0:=kb BK0 hb;replace HB:=bs HB hb;(try clear hb);have hcz30:=cz6 BK0.1)|((with_reducible refine at_fn (f:=50) rfl ?_);refine gl (some 19) Try.func50 #[.agg (f5 A0_0 l0_0 c0_0 A0_1 l0_1 c0_1 A0_2 l0_2 c0_2 A0_3 l0_3 c0_3 A0_4 l0_4 c0_4 a0_5),.slice A1 l1.length c1] ?_;(with_reducible refine(spec_l19Without.calls k _ _ l0_0 _ _ l0_1 _ _ l0_2 _ _ l0_3 _ _ l0_4 a0_5 _ _ l1 t1 t8 t9 t10 t11 t13 _ ?_ HC0_0.1 ?_ HC0_1.1 ?_ HC0_2.1 ?_ HC0_3.1 ?_ HC0_4.1 ?_ HC1.1 A5.1).mono ?_);exact vd HR0_0.1 HB.1;exact vd HR0_1.1 HB.1;exact vd HR0_2.1 HB.1;exact vd HR0_3.1 HB.1;exact vd HR0_4.1 HB.1;exact vd HR1.1 HB.1;rintro e w9 ⟨v33,v34,v35,v36,v37,rfl,ho7,ho14,ho15,ho16,ho17,hb⟩;refine⟨_,rfl,?_⟩;have HO2:=ak (Kd.R_lower (Kd.R_newM (M:=fun k_=>(w.heap.size≤k_)) ho7 (below_size (vb HB.1)) (fun k_ h_=>h_)) (below_size (vb HB.1)));have HO3:=ak (Kd.R_lower (Kd.R_newM (M:=fun k_=>(w.heap.size≤k_)) ho14 (below_size (vb HB.1)) (fun k_ h_=>h_)) (below_size (vb HB.1)));have HO4:=ak (Kd.R_lower (Kd.R_newM (M:=fun k_=>(w.heap.size≤k_)) ho15 (below_size (vb HB.1)) (fun k_ h_=>h_)) (below_size (vb HB.1)));have HO5:=ak (Kd.R_lower (Kd.R_newM (M:=fun k_=>(w.heap.size≤k_)) ho16 (below_size (vb HB.1)) (fun k_ h_=>h_)) (below_size (vb HB.1)));have HO6:=ak (Kd.R_lower (Kd.R_newM (M:=fun k_=>(w.heap.size≤k_)) ho17 (below_size (vb HB.1)) (fun k_ h_=>h_)) (below_size (vb HB.1)));replace BK0:=kb BK0 hb;replace HB:=bs HB hb;(try clear hb);(try clear ho7);(try clear ho14);(try clear ho15);(try clear ho16);(try clear ho17);obtain⟨Ao24,co24,rfl⟩:=Kd.R_slice HO2.1;obtain⟨Ao25,co25,rfl⟩:=Kd.R_slice HO3.1;obtain⟨Ao26,co26,rfl⟩:=Kd.R_slice HO4.1;obtain⟨Ao27,co27,rfl⟩:=Kd.R_slice HO5.1;obtain⟨Ao28,co28,rfl⟩:=Kd.R_slice HO6.1)|((with_reducible refine at_fn (f:=52) rfl ?_);refine gl (some 20) Try.func52 #[.agg (f5 Ao24 t1 co24 Ao25 t8 co25 Ao26 t9 co26 Ao27 t10 co27 Ao28 t11 co28 t13)] ?_;(with_reducible refine(spec_BestPlacing.calls k _ _ t1 _ _ t8 _ _ t9 _ _ t10 _ _ t11 t13 t23 t32 t29 _ ?_ ?_ ?_ ?_ ?_ ?_ ?_ ?_ ?_ ?_ A6.1).mono ?_);exact rc_ HO2;exact rl_ HO2;exact rc_ HO3;exact rl_ HO3;exact rc_ HO4;exact rl_ HO4;exact rc_ HO5;exact rl_ HO5;exact rc_ HO6;exact rl_ HO6;rintro e w9 ⟨v38,rfl,ho7,hb⟩;refine⟨_,rfl,?_⟩;have HO31:=ak (Kd.V_lower (Kd.V_mono (ok':=fun k_=>(w.heap.size≤k_)∧nB k_ Ao24 t1.length co24∧nB k_ Ao25 t8.length co25∧nB k_ Ao26 t9.length co26∧nB k_ Ao27 t10.length co27∧nB k_ Ao28 t11.length co28∧k_≠gb0) ho7 (fun k_ hk_=>⟨(Nat.le_trans (below_size (vb HB.1)) hk_),(Kd.fresh' (Kd.R_lt (vr HO2.1)) k_ hk_),(Kd.fresh' (Kd.R_lt (vr HO3.1)) k_ hk_),(Kd.fresh' (Kd.R_lt (vr HO4.1)) k_ hk_),(Kd.fresh' (Kd.R_lt (vr HO5.1)) k_ hk_),(Kd.fresh' (Kd.R_lt (vr HO6.1)) k_ hk_),(Kd.freshB (g:=gb0) (o:=.cells (f5 A0_0 l0_0 c0_0 A0_1 l0_1 c0_1 A0_2 l0_2 c0_2 A0_3 l0_3 c0_3 A0_4 l0_4 c0_4 a0_5) 28 (0,0)) (vk BK0.1) k_ hk_)⟩)) (below_size (vb HB.1)));replace HO2:=rb HO2 hb;replace HO3:=rb HO3 hb;replace HO4:=rb HO4 hb;replace HO5:=rb HO5 hb;replace HO6:=rb HO6 hb;replace BK0:=kb BK0 hb;replace HB:=bs HB hb;(try clear hb);(try clear ho7)))
  go_ret2
  exact⟨_,ew,Kd.V_nil _ _ _ _ _,vb HB.1⟩
def laws_likeInts.l0:Nat→List Int→List Int→Int→Option (Bool)
 |0,_,_,_=>none
 |k+1,x4,x1,x0=>if x0<(x4.length:Int) then (if 0≤x0 then (if x0<(x1.length:Int) then (if (rd x4 x0)=(rd x1 x0) then (laws_likeInts.l0 k x4 x1 (wrap64 (x0+1))) else (some false)) else (none)) else (none)) else (some true)
def laws_likeInts.f (k:Nat) (l0:List Int) (l1:List Int):Option (Bool):=if (l0.length:Int)=(l1.length:Int) then (laws_likeInts.l0 k l0 l1 0) else (some false)
theorem laws_likeInts.calls (k:Nat) (A0:Option Addr) (c0:Nat) (l0:List Int) (A1:Option Addr) (c1:Nat) (l1:List Int) (r:Bool) (w:World) (hr0:Kd.C (Kd.int .i64) w A0 l0.length l0) (hc0:l0.length≤c0) (hr1:Kd.C (Kd.int .i64) w A1 l1.length l1) (hc1:l1.length≤c1) (h:laws_likeInts.f k l0 l1=some r):
  Calls Try.prog 21 #[.slice A0 l0.length c0,.slice A1 l1.length c1] w fun e w'=>e=.returned (.bool r)∧Drawn0 w w':=by
 have HR0:=ak hr0;have HC0:=ak hc0;clear hr0 hc0;have HR1:=ak hr1;have HC1:=ak hc1;clear hr1 hc1;unfold laws_likeInts.f at h;have H:=h;clear h;by_cases c3:(l0.length:Int)=(l1.length:Int)
 ·rw [if_pos c3] at H;obtain⟨c3b0,c3b1⟩:=bqt c3;have c3b2:(l0.length==l1.length)=true:=by first|simpa using c3|(simp at c3 ⊢;omega)
  clear c3;have H':=ak H;clear H;go_enter Try.func21,Try.ntmps21;go_wp2
  repeat (go_quiet (fail);try go_wp2)
  go_loopg [5] k (fun kq v0 w'=>∃(x0_1:Int),v0=.int .i64 x0_1∧Aside0 (laws_likeInts.l0 kq l0 l1 x0_1=some r)∧Aside0 (kq≤k)∧Drawn0 w w')
  case atStart=>exact⟨(0),es,H',⟨Nat.le_refl _⟩,by repeat (first|exact Drawn0.refl _|apply Drawn0.step)⟩
  case round=>
   clear H';obtain⟨x0_1,rfl,HA,HK1,⟨m1,rfl⟩⟩:=hrel
   cases gk with
   |zero=>exact absurd HA.1 (by simp [laws_likeInts.l0])
   |succ k1=>
    have H:=HA.1;clear HA;simp only [laws_likeInts.l0] at H
    by_cases c4:x0_1<(l0.length:Int)
    ·rw [if_pos c4] at H;have c4b0:=decide_eq_true c4;clear c4;by_cases c5:0≤x0_1
     ·rw [if_pos c5] at H;have c5b0:=decide_eq_true c5;clear c5;by_cases c6:x0_1<(l1.length:Int)
      ·rw [if_pos c6] at H;have c6b0:=decide_eq_true c6;clear c6;by_cases c7:(rd l0 x0_1)=(rd l1 x0_1)
       ·rw [if_pos c7] at H;obtain⟨c7b0,c7b1⟩:=bqt c7;clear c7;have H':=ak H;clear H;have p2:0≤(x0_1:Int):=od;have q2:x0_1<(l0.length:Int):=od;obtain⟨ad2,e2,hx2_4⟩:=Kd.at_int HR0.1 x0_1 p2 q2
        cases e2;replace p2:=eq_true p2;replace q2:=eq_true q2;have p3:0≤(x0_1:Int):=od;have q3:x0_1<(l1.length:Int):=od;obtain⟨ad3,e3,hx3_4⟩:=Kd.at_int HR1.1 x0_1 p3 q3
        cases e3;replace p3:=eq_true p3;replace q3:=eq_true q3;go_wp2
        repeat (go_quiet (fail);try go_wp2)
        go_roundg k1
        case measure=>have:=HK1.1;omega
        case rel=>exact⟨(wrap64 (x0_1+1)),es,H',⟨by have:=HK1.1;omega⟩,by repeat (first|exact Drawn0.refl _|apply Drawn0.step)⟩
       ·rw [if_neg c7] at H;obtain⟨c7b0,c7b1⟩:=bqf c7;obtain rfl:=sj H;have p2:0≤(x0_1:Int):=od;have q2:x0_1<(l0.length:Int):=od;obtain⟨ad2,e2,hx2_4⟩:=Kd.at_int HR0.1 x0_1 p2 q2
        cases e2;replace p2:=eq_true p2;replace q2:=eq_true q2;have p3:0≤(x0_1:Int):=od;have q3:x0_1<(l1.length:Int):=od;obtain⟨ad3,e3,hx3_4⟩:=Kd.at_int HR1.1 x0_1 p3 q3
        cases e3;replace p3:=eq_true p3;replace q3:=eq_true q3;go_wp2
        repeat (go_quiet (fail);try go_wp2)
        go_ret
        exact⟨by first|rfl|(simp;done)|(simp [*];done),by repeat (first|exact Drawn0.refl _|apply Drawn0.step)⟩
      ·exact nO_ c6 H
     ·exact nO_ c5 H
    ·rw [if_neg c4] at H;have c4b0:=decide_eq_false c4;clear c4;obtain rfl:=sj H;go_wp2
     repeat (go_quiet (fail);try go_wp2)
     go_ret
     exact⟨by first|rfl|(simp;done)|(simp [*];done),by repeat (first|exact Drawn0.refl _|apply Drawn0.step)⟩
 ·rw [if_neg c3] at H;obtain⟨c3b0,c3b1⟩:=bqf c3;have c3b2:(l0.length==l1.length)=false:=by first|simpa using c3|(simp at c3 ⊢;omega)
  obtain rfl:=sj H;go_enter Try.func21,Try.ntmps21;go_wp2
  repeat (go_quiet (fail);try go_wp2)
  go_ret
  exact⟨by first|rfl|(simp;done)|(simp [*];done),by repeat (first|exact Drawn0.refl _|apply Drawn0.step)⟩
attribute [local go_sem high] eqA91
def laws_likeDemands.l0:Nat→List (S91)→List (S91)→Int→Option (Bool)
 |0,_,_,_=>none
 |k+1,x4,x1,x0=>if x0<(x4.length:Int) then (if 0≤x0 then (if x0<(x1.length:Int) then (if (!(((rd_T91 x4 x0).f0)==((rd_T91 x1 x0).f0))||(!(((rd_T91 x4 x0).f1)==((rd_T91 x1 x0).f1))||(!(((rd_T91 x4 x0).f2)==((rd_T91 x1 x0).f2)))))=true then (some false) else (laws_likeDemands.l0 k x4 x1 (wrap64 (x0+1)))) else (none)) else (none)) else (some true)
def laws_likeDemands.f (k:Nat) (l0:List (S91)) (l1:List (S91)):Option (Bool):=if (l0.length:Int)=(l1.length:Int) then (laws_likeDemands.l0 k l0 l1 0) else (some false)
theorem laws_likeDemands.calls (k:Nat) (A0:Option Addr) (c0:Nat) (l0:List (S91)) (A1:Option Addr) (c1:Nat) (l1:List (S91)) (r:Bool) (w:World) (hr0:Kd.C k91 w A0 l0.length l0) (hc0:l0.length≤c0) (hr1:Kd.C k91 w A1 l1.length l1) (hc1:l1.length≤c1) (h:laws_likeDemands.f k l0 l1=some r):
  Calls Try.prog 54 #[.slice A0 l0.length c0,.slice A1 l1.length c1] w fun e w'=>e=.returned (.bool r)∧Drawn0 w w':=by
 have hu91:=Try.underlying91;have HR0:=ak hr0;have HC0:=ak hc0;clear hr0 hc0;have HR1:=ak hr1;have HC1:=ak hc1;clear hr1 hc1;unfold laws_likeDemands.f at h;have H:=h;clear h;by_cases c3:(l0.length:Int)=(l1.length:Int)
 ·rw [if_pos c3] at H;obtain⟨c3b0,c3b1⟩:=bqt c3;have c3b2:(l0.length==l1.length)=true:=by first|simpa using c3|(simp at c3 ⊢;omega)
  clear c3;have H':=ak H;clear H;go_enter Try.func54,Try.ntmps54;go_wp2
  repeat (go_quiet (fail);try go_wp2)
  go_loopg [5] k (fun kq v0 w'=>∃(x0_1:Int),v0=.int .i64 x0_1∧Aside0 (laws_likeDemands.l0 kq l0 l1 x0_1=some r)∧Aside0 (kq≤k)∧Drawn0 w w')
  case atStart=>exact⟨(0),es,H',⟨Nat.le_refl _⟩,by repeat (first|exact Drawn0.refl _|apply Drawn0.step)⟩
  case round=>
   clear H';obtain⟨x0_1,rfl,HA,HK1,⟨m1,rfl⟩⟩:=hrel
   cases gk with
   |zero=>exact absurd HA.1 (by simp [laws_likeDemands.l0])
   |succ k1=>
    have H:=HA.1;clear HA;simp only [laws_likeDemands.l0] at H
    by_cases c4:x0_1<(l0.length:Int)
    ·rw [if_pos c4] at H;have c4b0:=decide_eq_true c4;clear c4;by_cases c5:0≤x0_1
     ·rw [if_pos c5] at H;have c5b0:=decide_eq_true c5;clear c5;by_cases c6:x0_1<(l1.length:Int)
      ·rw [if_pos c6] at H;have c6b0:=decide_eq_true c6;clear c6;by_cases c7:(!(((rd_T91 l0 x0_1).f0)==((rd_T91 l1 x0_1).f0))||(!(((rd_T91 l0 x0_1).f1)==((rd_T91 l1 x0_1).f1))||(!(((rd_T91 l0 x0_1).f2)==((rd_T91 l1 x0_1).f2)))))=true
       ·rw [if_pos c7] at H;have c7b0:(!(((rd_T91 l0 x0_1).f0)==((rd_T91 l1 x0_1).f0))||(!(((rd_T91 l0 x0_1).f1)==((rd_T91 l1 x0_1).f1))||(!(((rd_T91 l0 x0_1).f2)==((rd_T91 l1 x0_1).f2)))))=true:=c7;clear c7;obtain rfl:=sj H;have p2:0≤(x0_1:Int):=od;have q2:x0_1<(l0.length:Int):=od;obtain⟨ad2,e2,hx2_4,hx2_1,hx2_5⟩:=at_T91 HR0.1 x0_1 p2 q2
        cases e2;replace p2:=eq_true p2;replace q2:=eq_true q2;have p3:0≤(x0_1:Int):=od;have q3:x0_1<(l1.length:Int):=od;obtain⟨ad3,e3,hx3_4,hx3_1,hx3_5⟩:=at_T91 HR1.1 x0_1 p3 q3
        cases e3;replace p3:=eq_true p3;replace q3:=eq_true q3;go_wp2
        repeat (go_quiet (fail);try go_wp2)
        go_ret
        exact⟨by first|rfl|(simp;done)|(simp [*];done),by repeat (first|exact Drawn0.refl _|apply Drawn0.step)⟩
       ·rw [if_neg c7] at H;have c7b0:(!(((rd_T91 l0 x0_1).f0)==((rd_T91 l1 x0_1).f0))||(!(((rd_T91 l0 x0_1).f1)==((rd_T91 l1 x0_1).f1))||(!(((rd_T91 l0 x0_1).f2)==((rd_T91 l1 x0_1).f2)))))=false:=by simpa using c7
        clear c7;have H':=ak H;clear H;have p2:0≤(x0_1:Int):=od;have q2:x0_1<(l0.length:Int):=od;obtain⟨ad2,e2,hx2_4,hx2_1,hx2_5⟩:=at_T91 HR0.1 x0_1 p2 q2
        cases e2;replace p2:=eq_true p2;replace q2:=eq_true q2;have p3:0≤(x0_1:Int):=od;have q3:x0_1<(l1.length:Int):=od;obtain⟨ad3,e3,hx3_4,hx3_1,hx3_5⟩:=at_T91 HR1.1 x0_1 p3 q3
        cases e3;replace p3:=eq_true p3;replace q3:=eq_true q3;go_wp2
        repeat (go_quiet (fail);try go_wp2)
        go_roundg k1
        case measure=>have:=HK1.1;omega
        case rel=>exact⟨(wrap64 (x0_1+1)),es,H',⟨by have:=HK1.1;omega⟩,by repeat (first|exact Drawn0.refl _|apply Drawn0.step)⟩
      ·exact nO_ c6 H
     ·exact nO_ c5 H
    ·rw [if_neg c4] at H;have c4b0:=decide_eq_false c4;clear c4;obtain rfl:=sj H;go_wp2
     repeat (go_quiet (fail);try go_wp2)
     go_ret
     exact⟨by first|rfl|(simp;done)|(simp [*];done),by repeat (first|exact Drawn0.refl _|apply Drawn0.step)⟩
 ·rw [if_neg c3] at H;obtain⟨c3b0,c3b1⟩:=bqf c3;have c3b2:(l0.length==l1.length)=false:=by first|simpa using c3|(simp at c3 ⊢;omega)
  obtain rfl:=sj H;go_enter Try.func54,Try.ntmps54;go_wp2
  repeat (go_quiet (fail);try go_wp2)
  go_ret
  exact⟨by first|rfl|(simp;done)|(simp [*];done),by repeat (first|exact Drawn0.refl _|apply Drawn0.step)⟩
attribute [local go_sem high] eqA69
def laws_likeAreas.l0:Nat→List (S69)→List (S69)→Int→Option (Bool)
 |0,_,_,_=>none
 |k+1,x4,x1,x0=>if x0<(x4.length:Int) then (if 0≤x0 then (if x0<(x1.length:Int) then (if (!(((rd_T69 x4 x0).f0)==((rd_T69 x1 x0).f0))||(!(((rd_T69 x4 x0).f1)==((rd_T69 x1 x0).f1))||(!(((rd_T69 x4 x0).f2)==((rd_T69 x1 x0).f2))||(!(((rd_T69 x4 x0).f3)==((rd_T69 x1 x0).f3))||(!(((rd_T69 x4 x0).f4)==((rd_T69 x1 x0).f4)))))))=true then (some false) else (laws_likeAreas.l0 k x4 x1 (wrap64 (x0+1)))) else (none)) else (none)) else (some true)
def laws_likeAreas.f (k:Nat) (l0:List (S69)) (l1:List (S69)):Option (Bool):=if (l0.length:Int)=(l1.length:Int) then (laws_likeAreas.l0 k l0 l1 0) else (some false)
theorem laws_likeAreas.calls (k:Nat) (A0:Option Addr) (c0:Nat) (l0:List (S69)) (A1:Option Addr) (c1:Nat) (l1:List (S69)) (r:Bool) (w:World) (hr0:Kd.C k69 w A0 l0.length l0) (hc0:l0.length≤c0) (hr1:Kd.C k69 w A1 l1.length l1) (hc1:l1.length≤c1) (h:laws_likeAreas.f k l0 l1=some r):
  Calls Try.prog 55 #[.slice A0 l0.length c0,.slice A1 l1.length c1] w fun e w'=>e=.returned (.bool r)∧Drawn0 w w':=by
 have hu69:=Try.underlying69;have HR0:=ak hr0;have HC0:=ak hc0;clear hr0 hc0;have HR1:=ak hr1;have HC1:=ak hc1;clear hr1 hc1;unfold laws_likeAreas.f at h;have H:=h;clear h;by_cases c3:(l0.length:Int)=(l1.length:Int)
 ·rw [if_pos c3] at H;obtain⟨c3b0,c3b1⟩:=bqt c3;have c3b2:(l0.length==l1.length)=true:=by first|simpa using c3|(simp at c3 ⊢;omega)
  clear c3;have H':=ak H;clear H;go_enter Try.func55,Try.ntmps55;go_wp2
  repeat (go_quiet (fail);try go_wp2)
  go_loopg [5] k (fun kq v0 w'=>∃(x0_1:Int),v0=.int .i64 x0_1∧Aside0 (laws_likeAreas.l0 kq l0 l1 x0_1=some r)∧Aside0 (kq≤k)∧Drawn0 w w')
  case atStart=>exact⟨(0),es,H',⟨Nat.le_refl _⟩,by repeat (first|exact Drawn0.refl _|apply Drawn0.step)⟩
  case round=>
   clear H';obtain⟨x0_1,rfl,HA,HK1,⟨m1,rfl⟩⟩:=hrel
   cases gk with
   |zero=>exact absurd HA.1 (by simp [laws_likeAreas.l0])
   |succ k1=>
    have H:=HA.1;clear HA;simp only [laws_likeAreas.l0] at H
    by_cases c4:x0_1<(l0.length:Int)
    ·rw [if_pos c4] at H;have c4b0:=decide_eq_true c4;clear c4;by_cases c5:0≤x0_1
     ·rw [if_pos c5] at H;have c5b0:=decide_eq_true c5;clear c5;by_cases c6:x0_1<(l1.length:Int)
      ·rw [if_pos c6] at H;have c6b0:=decide_eq_true c6;clear c6;by_cases c7:(!(((rd_T69 l0 x0_1).f0)==((rd_T69 l1 x0_1).f0))||(!(((rd_T69 l0 x0_1).f1)==((rd_T69 l1 x0_1).f1))||(!(((rd_T69 l0 x0_1).f2)==((rd_T69 l1 x0_1).f2))||(!(((rd_T69 l0 x0_1).f3)==((rd_T69 l1 x0_1).f3))||(!(((rd_T69 l0 x0_1).f4)==((rd_T69 l1 x0_1).f4)))))))=true
       ·rw [if_pos c7] at H;have c7b0:(!(((rd_T69 l0 x0_1).f0)==((rd_T69 l1 x0_1).f0))||(!(((rd_T69 l0 x0_1).f1)==((rd_T69 l1 x0_1).f1))||(!(((rd_T69 l0 x0_1).f2)==((rd_T69 l1 x0_1).f2))||(!(((rd_T69 l0 x0_1).f3)==((rd_T69 l1 x0_1).f3))||(!(((rd_T69 l0 x0_1).f4)==((rd_T69 l1 x0_1).f4)))))))=true:=c7;clear c7;obtain rfl:=sj H;have p2:0≤(x0_1:Int):=od;have q2:x0_1<(l0.length:Int):=od;obtain⟨ad2,e2,hx2_4,hx2_1,hx2_5,hx2_6,hx2_7⟩:=at_T69 HR0.1 x0_1 p2 q2
        cases e2;replace p2:=eq_true p2;replace q2:=eq_true q2;have p3:0≤(x0_1:Int):=od;have q3:x0_1<(l1.length:Int):=od;obtain⟨ad3,e3,hx3_4,hx3_1,hx3_5,hx3_6,hx3_7⟩:=at_T69 HR1.1 x0_1 p3 q3
        cases e3;replace p3:=eq_true p3;replace q3:=eq_true q3;go_wp2
        repeat (go_quiet (fail);try go_wp2)
        go_ret
        exact⟨by first|rfl|(simp;done)|(simp [*];done),by repeat (first|exact Drawn0.refl _|apply Drawn0.step)⟩
       ·rw [if_neg c7] at H;have c7b0:(!(((rd_T69 l0 x0_1).f0)==((rd_T69 l1 x0_1).f0))||(!(((rd_T69 l0 x0_1).f1)==((rd_T69 l1 x0_1).f1))||(!(((rd_T69 l0 x0_1).f2)==((rd_T69 l1 x0_1).f2))||(!(((rd_T69 l0 x0_1).f3)==((rd_T69 l1 x0_1).f3))||(!(((rd_T69 l0 x0_1).f4)==((rd_T69 l1 x0_1).f4)))))))=false:=by simpa using c7
        clear c7;have H':=ak H;clear H;have p2:0≤(x0_1:Int):=od;have q2:x0_1<(l0.length:Int):=od;obtain⟨ad2,e2,hx2_4,hx2_1,hx2_5,hx2_6,hx2_7⟩:=at_T69 HR0.1 x0_1 p2 q2
        cases e2;replace p2:=eq_true p2;replace q2:=eq_true q2;have p3:0≤(x0_1:Int):=od;have q3:x0_1<(l1.length:Int):=od;obtain⟨ad3,e3,hx3_4,hx3_1,hx3_5,hx3_6,hx3_7⟩:=at_T69 HR1.1 x0_1 p3 q3
        cases e3;replace p3:=eq_true p3;replace q3:=eq_true q3;go_wp2
        repeat (go_quiet (fail);try go_wp2)
        go_roundg k1
        case measure=>have:=HK1.1;omega
        case rel=>exact⟨(wrap64 (x0_1+1)),es,H',⟨by have:=HK1.1;omega⟩,by repeat (first|exact Drawn0.refl _|apply Drawn0.step)⟩
      ·exact nO_ c6 H
     ·exact nO_ c5 H
    ·rw [if_neg c4] at H;have c4b0:=decide_eq_false c4;clear c4;obtain rfl:=sj H;go_wp2
     repeat (go_quiet (fail);try go_wp2)
     go_ret
     exact⟨by first|rfl|(simp;done)|(simp [*];done),by repeat (first|exact Drawn0.refl _|apply Drawn0.step)⟩
 ·rw [if_neg c3] at H;obtain⟨c3b0,c3b1⟩:=bqf c3;have c3b2:(l0.length==l1.length)=false:=by first|simpa using c3|(simp at c3 ⊢;omega)
  obtain rfl:=sj H;go_enter Try.func55,Try.ntmps55;go_wp2
  repeat (go_quiet (fail);try go_wp2)
  go_ret
  exact⟨by first|rfl|(simp;done)|(simp [*];done),by repeat (first|exact Drawn0.refl _|apply Drawn0.step)⟩
def laws_likeField.f (k:Nat) (l0_0:List (S91)) (l0_1:List (S69)) (l0_2:List Int) (l0_3:List Int) (l0_4:List Int) (a0_5:Int) (l1_0:List (S91)) (l1_1:List (S69)) (l1_2:List Int) (l1_3:List Int) (l1_4:List Int) (a1_5:Int):Option (Bool):=if a0_5=a1_5 then ((laws_likeDemands.f k l0_0 l1_0).bind fun t2=>(if t2=true then ((laws_likeAreas.f k l0_1 l1_1).bind fun t3=>(if t3=true then ((laws_likeInts.f k l0_2 l1_2).bind fun t4=>(if t4=true then ((laws_likeInts.f k l0_3 l1_3).bind fun t5=>(if t5=true then ((laws_likeInts.f k l0_4 l1_4).bind fun t6=>(some t6)) else (some false))) else (some false))) else (some false))) else (some false))) else (some false)
theorem laws_likeField.calls (k:Nat) (A0_0:Option Addr) (c0_0:Nat) (l0_0:List (S91)) (A0_1:Option Addr) (c0_1:Nat) (l0_1:List (S69)) (A0_2:Option Addr) (c0_2:Nat) (l0_2:List Int) (A0_3:Option Addr) (c0_3:Nat) (l0_3:List Int) (A0_4:Option Addr) (c0_4:Nat) (l0_4:List Int) (a0_5:Int) (A1_0:Option Addr) (c1_0:Nat) (l1_0:List (S91)) (A1_1:Option Addr) (c1_1:Nat) (l1_1:List (S69)) (A1_2:Option Addr) (c1_2:Nat) (l1_2:List Int) (A1_3:Option Addr) (c1_3:Nat) (l1_3:List Int) (A1_4:Option Addr) (c1_4:Nat) (l1_4:List Int) (a1_5:Int) (r:Bool) (w:World) (hr0_0:Kd.C k91 w A0_0 l0_0.length l0_0) (hc0_0:l0_0.length≤c0_0) (hr0_1:Kd.C k69 w A0_1 l0_1.length l0_1) (hc0_1:l0_1.length≤c0_1) (hr0_2:Kd.C (Kd.int .i64) w A0_2 l0_2.length l0_2) (hc0_2:l0_2.length≤c0_2) (hr0_3:Kd.C (Kd.int .i64) w A0_3 l0_3.length l0_3) (hc0_3:l0_3.length≤c0_3) (hr0_4:Kd.C (Kd.int .i64) w A0_4 l0_4.length l0_4) (hc0_4:l0_4.length≤c0_4) (hr1_0:Kd.C k91 w A1_0 l1_0.length l1_0) (hc1_0:l1_0.length≤c1_0) (hr1_1:Kd.C k69 w A1_1 l1_1.length l1_1) (hc1_1:l1_1.length≤c1_1) (hr1_2:Kd.C (Kd.int .i64) w A1_2 l1_2.length l1_2) (hc1_2:l1_2.length≤c1_2) (hr1_3:Kd.C (Kd.int .i64) w A1_3 l1_3.length l1_3) (hc1_3:l1_3.length≤c1_3) (hr1_4:Kd.C (Kd.int .i64) w A1_4 l1_4.length l1_4) (hc1_4:l1_4.length≤c1_4) (h:laws_likeField.f k l0_0 l0_1 l0_2 l0_3 l0_4 a0_5 l1_0 l1_1 l1_2 l1_3 l1_4 a1_5=some r):
  Calls Try.prog 20 #[.agg (f5 A0_0 l0_0 c0_0 A0_1 l0_1 c0_1 A0_2 l0_2 c0_2 A0_3 l0_3 c0_3 A0_4 l0_4 c0_4 a0_5),.agg (f5 A1_0 l1_0 c1_0 A1_1 l1_1 c1_1 A1_2 l1_2 c1_2 A1_3 l1_3 c1_3 A1_4 l1_4 c1_4 a1_5)] w fun e w'=>e=.returned (.bool r)∧Below w.heap.size w w':=by
 have hu28:=Try.underlying28;have HR0_0:=ak hr0_0;have HC0_0:=ak hc0_0;clear hr0_0 hc0_0;have HR0_1:=ak hr0_1;have HC0_1:=ak hc0_1;clear hr0_1 hc0_1;have HR0_2:=ak hr0_2;have HC0_2:=ak hc0_2;clear hr0_2 hc0_2;have HR0_3:=ak hr0_3;have HC0_3:=ak hc0_3;clear hr0_3 hc0_3;have HR0_4:=ak hr0_4;have HC0_4:=ak hc0_4;clear hr0_4 hc0_4;have HR1_0:=ak hr1_0;have HC1_0:=ak hc1_0;clear hr1_0 hc1_0;have HR1_1:=ak hr1_1;have HC1_1:=ak hc1_1;clear hr1_1 hc1_1;have HR1_2:=ak hr1_2;have HC1_2:=ak hc1_2;clear hr1_2 hc1_2;have HR1_3:=ak hr1_3;have HC1_3:=ak hc1_3;clear hr1_3 hc1_3;have HR1_4:=ak hr1_4;have HC1_4:=ak hc1_4;clear hr1_4 hc1_4;have HB:=ak (Below.refl w.heap.size w);unfold laws_likeField.f at h;have H:=h;clear h;by_cases c3:a0_5=a1_5
 rw [if_pos c3] at H;obtain⟨c3b0,c3b1⟩:=bqt c3;clear c3;obtain⟨t2,A4,H⟩:=bnk H;by_cases c5:t2=true
 subst c5;rw [if_pos rfl] at H;obtain⟨t3,A6,H⟩:=bnk H;by_cases c7:t3=true
 subst c7;rw [if_pos rfl] at H;obtain⟨t4,A8,H⟩:=bnk H;by_cases c9:t4=true
 subst c9;rw [if_pos rfl] at H;obtain⟨t5,A10,H⟩:=bnk H;by_cases c11:t5=true
 subst c11;rw [if_pos rfl] at H;obtain⟨t6,A12,H⟩:=bnk H;obtain rfl:=sj H;rotate_left
 replace c11:=Bool.eq_false_iff.mpr c11;subst c11;rw [if_neg nf] at H;obtain rfl:=sj H;rotate_left
 replace c9:=Bool.eq_false_iff.mpr c9;subst c9;rw [if_neg nf] at H;obtain rfl:=sj H;rotate_left
 replace c7:=Bool.eq_false_iff.mpr c7;subst c7;rw [if_neg nf] at H;obtain rfl:=sj H;rotate_left
 replace c5:=Bool.eq_false_iff.mpr c5;subst c5;rw [if_neg nf] at H;obtain rfl:=sj H;rotate_left
 rw [if_neg c3] at H;obtain⟨c3b0,c3b1⟩:=bqf c3;obtain rfl:=sj H;rotate_left
 all_goals
  go_enter Try.func20,Try.ntmps20;go_wp2_with (first|((with_reducible refine gate_dst (N:=2) rfl ?_);refine bx 2 (f5 A0_0 l0_0 c0_0 A0_1 l0_1 c0_1 A0_2 l0_2 c0_2 A0_3 l0_3 c0_3 A0_4 l0_4 c0_4 a0_5) 28 ?_;intro gb0 hg w9 hbox hb;have BK0:=ak hbox;have GW921:=gw hg HB;have GE0:=gw hg HB;replace HB:=bs HB hb;clear hb hbox hg)|((with_reducible refine gate_dst (N:=3) rfl ?_);refine bx 3 (f5 A1_0 l1_0 c1_0 A1_1 l1_1 c1_1 A1_2 l1_2 c1_2 A1_3 l1_3 c1_3 A1_4 l1_4 c1_4 a1_5) 28 ?_;intro gb1 hg w9 hbox hb;have BK1:=ak hbox;have GW922:=gw hg HB;have GE1:=gw hg HB;replace HB:=bs HB hb;have NB0_1:=nl hg BK0;have NB1_0:=nr hg BK0;replace BK0:=kb BK0 hb;clear hb hbox hg;have:=NB0_1.1;have:=NB1_0.1;have hcz7:=cz6 BK0.1;have hcz7:=cz6 BK1.1)|(go_at_call 54;(with_reducible refine(laws_likeDemands.calls k _ _ l0_0 _ _ l1_0 _ _ ?_ HC0_0.1 ?_ HC1_0.1 A4.1).mono ?_);exact vd HR0_0.1 HB.1;exact vd HR1_0.1 HB.1;rintro e w' ⟨rfl,⟨nd,rfl⟩⟩)|(go_at_call 55;(with_reducible refine(laws_likeAreas.calls k _ _ l0_1 _ _ l1_1 _ _ ?_ HC0_1.1 ?_ HC1_1.1 A6.1).mono ?_);exact vd HR0_1.1 (vb HB.1);exact vd HR1_1.1 (vb HB.1);rintro e w' ⟨rfl,⟨nd,rfl⟩⟩)|(go_at_call 21;(with_reducible refine(laws_likeInts.calls k _ _ l0_2 _ _ l1_2 _ _ ?_ HC0_2.1 ?_ HC1_2.1 A8.1).mono ?_);exact vd HR0_2.1 (vb HB.1);exact vd HR1_2.1 (vb HB.1);rintro e w' ⟨rfl,⟨nd,rfl⟩⟩)|(go_at_call 21;(with_reducible refine(laws_likeInts.calls k _ _ l0_3 _ _ l1_3 _ _ ?_ HC0_3.1 ?_ HC1_3.1 A10.1).mono ?_);exact vd HR0_3.1 (vb HB.1);exact vd HR1_3.1 (vb HB.1);rintro e w' ⟨rfl,⟨nd,rfl⟩⟩)|(go_at_call 21;(with_reducible refine(laws_likeInts.calls k _ _ l0_4 _ _ l1_4 t6 _ ?_ HC0_4.1 ?_ HC1_4.1 A12.1).mono ?_);exact vd HR0_4.1 (vb HB.1);exact vd HR1_4.1 (vb HB.1);rintro e w' ⟨rfl,⟨nd,rfl⟩⟩))
  go_ret
  exact⟨ew,vb HB.1⟩
def laws_hasInt.l0:Nat→List Int→Int→Int→Option (Bool)
 |0,_,_,_=>none
 |k+1,x3,x2,x1=>if x1<(x3.length:Int) then (if 0≤x1 then (if (rd x3 x1)=x2 then (some true) else (laws_hasInt.l0 k x3 x2 (wrap64 (x1+1)))) else (none)) else (some false)
def laws_hasInt.f (k:Nat) (l0:List Int) (a1:Int):Option (Bool):=laws_hasInt.l0 k l0 a1 0
theorem laws_hasInt.calls (k:Nat) (A0:Option Addr) (c0:Nat) (l0:List Int) (a1:Int) (r:Bool) (w:World) (hr0:Kd.C (Kd.int .i64) w A0 l0.length l0) (hc0:l0.length≤c0) (h:laws_hasInt.f k l0 a1=some r):
  Calls Try.prog 22 #[.slice A0 l0.length c0,.int .i64 a1] w fun e w'=>e=.returned (.bool r)∧Drawn0 w w':=by
 have HR0:=ak hr0;have HC0:=ak hc0;clear hr0 hc0;unfold laws_hasInt.f at h;have H:=h;clear h;have H':=ak H;clear H;go_enter Try.func22,Try.ntmps22;go_wp2
 go_loopg [5] k (fun kq v1 w'=>∃(x1_2:Int),v1=.int .i64 x1_2∧Aside0 (laws_hasInt.l0 kq l0 a1 x1_2=some r)∧Aside0 (kq≤k)∧Drawn0 w w')
 case atStart=>exact⟨(0),es,H',⟨Nat.le_refl _⟩,by repeat (first|exact Drawn0.refl _|apply Drawn0.step)⟩
 case round=>
  clear H';obtain⟨x1_2,rfl,HA,HK1,⟨m2,rfl⟩⟩:=hrel
  cases gk with
  |zero=>exact absurd HA.1 (by simp [laws_hasInt.l0])
  |succ k1=>
   have H:=HA.1;clear HA;simp only [laws_hasInt.l0] at H
   by_cases c3:x1_2<(l0.length:Int)
   ·rw [if_pos c3] at H;have c3b0:=decide_eq_true c3;clear c3;by_cases c4:0≤x1_2
    ·rw [if_pos c4] at H;have c4b0:=decide_eq_true c4;clear c4;by_cases c5:(rd l0 x1_2)=a1
     ·rw [if_pos c5] at H;obtain⟨c5b0,c5b1⟩:=bqt c5;clear c5;obtain rfl:=sj H;have p0:0≤(x1_2:Int):=od;have q0:x1_2<(l0.length:Int):=od;obtain⟨ad0,e0,hx0_3⟩:=Kd.at_int HR0.1 x1_2 p0 q0
      cases e0;replace p0:=eq_true p0;replace q0:=eq_true q0;go_wp2
      go_ret
      exact⟨by first|rfl|(simp;done)|(simp [*];done),by repeat (first|exact Drawn0.refl _|apply Drawn0.step)⟩
     ·rw [if_neg c5] at H;obtain⟨c5b0,c5b1⟩:=bqf c5;have H':=ak H;clear H;have p0:0≤(x1_2:Int):=od;have q0:x1_2<(l0.length:Int):=od;obtain⟨ad0,e0,hx0_3⟩:=Kd.at_int HR0.1 x1_2 p0 q0
      cases e0;replace p0:=eq_true p0;replace q0:=eq_true q0;go_wp2
      go_roundg k1
      case measure=>have:=HK1.1;omega
      case rel=>exact⟨(wrap64 (x1_2+1)),es,H',⟨by have:=HK1.1;omega⟩,by repeat (first|exact Drawn0.refl _|apply Drawn0.step)⟩
    ·exact nO_ c4 H
   ·rw [if_neg c3] at H;have c3b0:=decide_eq_false c3;clear c3;obtain rfl:=sj H;go_wp2
    go_ret
    exact⟨by first|rfl|(simp;done)|(simp [*];done),by repeat (first|exact Drawn0.refl _|apply Drawn0.step)⟩
def impl_isMinimal.l0:Nat→List Int→Int→Int→List (S91)→List (S69)→List Int→List Int→List Int→Int→Option (Bool)
 |0,_,_,_,_,_,_,_,_,_=>none
 |k+1,x2,x12,x0,x13,x14,x15,x16,x17,x18=>if x0<x12 then (if 0≤x0 then (if x0≤(x2.length:Int) then ((impl_copyList.f (x2.take (x0:Int).toNat)).bind fun t3=>(if 0≤(wrap64 (x0+1)) then (if (wrap64 (x0+1))≤(x2.length:Int) then (if t3.length+(x2.drop ((wrap64 (x0+1)):Int).toNat).length<17592186044416 then ((impl_isClosure.f k x13 x14 x15 x16 x17 x18 (t3++(x2.drop ((wrap64 (x0+1)):Int).toNat))).bind fun t10=>(if t10=true then (some false) else (impl_isMinimal.l0 k x2 x12 (wrap64 (x0+1)) x13 x14 x15 x16 x17 x18))) else (none)) else (none)) else (none))) else (none)) else (none)) else (some true)
def impl_isMinimal.f (k:Nat) (l0_0:List (S91)) (l0_1:List (S69)) (l0_2:List Int) (l0_3:List Int) (l0_4:List Int) (a0_5:Int) (l1:List Int):Option (Bool):=impl_isMinimal.l0 k l1 (l1.length:Int) 0 l0_0 l0_1 l0_2 l0_3 l0_4 a0_5
def impl_isMinimal.T4:Bool×List (List Nat×List Nat):=(true,[([],[]),([],[]),([],[]),([1,2],[1,2]),([3],[3]),([],[]),([],[]),([6],[6]),([5,7],[5,7]),([4,8,4],[4,8]),([0,9,9],[0,9])])
def impl_isMinimal.B4:List Nat:=[0,0,0,6,14,0,0,64,224,510,1023]
theorem impl_isMinimal.tab4:rtab .any (opsOf Try.f57 4)=impl_isMinimal.T4:=by kernel_rfl
theorem impl_isMinimal.bits4:waitsOk impl_isMinimal.T4.2 impl_isMinimal.B4=true:=by kernel_rfl
theorem impl_isMinimal.calls (k:Nat) (A0_0:Option Addr) (c0_0:Nat) (l0_0:List (S91)) (A0_1:Option Addr) (c0_1:Nat) (l0_1:List (S69)) (A0_2:Option Addr) (c0_2:Nat) (l0_2:List Int) (A0_3:Option Addr) (c0_3:Nat) (l0_3:List Int) (A0_4:Option Addr) (c0_4:Nat) (l0_4:List Int) (a0_5:Int) (A1:Option Addr) (c1:Nat) (l1:List Int) (r:Bool) (w:World) (hr0_0:Kd.C k91 w A0_0 l0_0.length l0_0) (hc0_0:l0_0.length≤c0_0) (hr0_1:Kd.C k69 w A0_1 l0_1.length l0_1) (hc0_1:l0_1.length≤c0_1) (hr0_2:Kd.C (Kd.int .i64) w A0_2 l0_2.length l0_2) (hc0_2:l0_2.length≤c0_2) (hr0_3:Kd.C (Kd.int .i64) w A0_3 l0_3.length l0_3) (hc0_3:l0_3.length≤c0_3) (hr0_4:Kd.C (Kd.int .i64) w A0_4 l0_4.length l0_4) (hc0_4:l0_4.length≤c0_4) (hr1:Kd.C (Kd.int .i64) w A1 l1.length l1) (hc1:l1.length≤c1) (h:impl_isMinimal.f k l0_0 l0_1 l0_2 l0_3 l0_4 a0_5 l1=some r):
  Calls Try.prog 57 #[.agg (f5 A0_0 l0_0 c0_0 A0_1 l0_1 c0_1 A0_2 l0_2 c0_2 A0_3 l0_3 c0_3 A0_4 l0_4 c0_4 a0_5),.slice A1 l1.length c1] w fun e w'=>e=.returned (.bool r)∧Below w.heap.size w w':=by
 have hu28:=Try.underlying28;have HR0_0:=ak hr0_0;have HC0_0:=ak hc0_0;clear hr0_0 hc0_0;have HR0_1:=ak hr0_1;have HC0_1:=ak hc0_1;clear hr0_1 hc0_1;have HR0_2:=ak hr0_2;have HC0_2:=ak hc0_2;clear hr0_2 hc0_2;have HR0_3:=ak hr0_3;have HC0_3:=ak hc0_3;clear hr0_3 hc0_3;have HR0_4:=ak hr0_4;have HC0_4:=ak hc0_4;clear hr0_4 hc0_4;have HR1:=ak hr1;have HC1:=ak hc1;clear hr1 hc1;have HB:=ak (Below.refl w.heap.size w);unfold impl_isMinimal.f at h;have H:=h;clear h;have H':=ak H;clear H;go_enter Try.func57,Try.ntmps57;go_wp2_with (first|((with_reducible refine gate_dst (N:=2) rfl ?_);refine bx 2 (f5 A0_0 l0_0 c0_0 A0_1 l0_1 c0_1 A0_2 l0_2 c0_2 A0_3 l0_3 c0_3 A0_4 l0_4 c0_4 a0_5) 28 ?_;intro gb1 hg w3 hbox hb;have BK1:=ak hbox;have GW954:=gw hg HB;have GE1:=gw hg HB;replace HB:=bs HB hb;clear hb hbox hg))
 go_loopg [8] k (fun kq v0 w'=>∃(x0_2:Int),v0=.int .i64 x0_2∧Aside0 (impl_isMinimal.l0 kq l1 (l1.length:Int) x0_2 l0_0 l0_1 l0_2 l0_3 l0_4 a0_5=some r)∧Aside0 (kq≤k)∧Aside0 (w'.heap[gb1]? =some (.cells (f5 A0_0 l0_0 c0_0 A0_1 l0_1 c0_1 A0_2 l0_2 c0_2 A0_3 l0_3 c0_3 A0_4 l0_4 c0_4 a0_5) 28 (0,0)))∧Aside0 (Below w.heap.size w w'))
 case atStart=>exact⟨(0),es,H',⟨Nat.le_refl _⟩,⟨vk BK1.1⟩,⟨vb HB.1⟩⟩
 case round=>
  clear H';obtain⟨x0_2,rfl,HA,HK1,BK1,HB⟩:=hrel
  cases gk with
  |zero=>exact absurd HA.1 (by simp [impl_isMinimal.l0])
  |succ k1=>
   have H:=HA.1;clear HA;simp only [impl_isMinimal.l0] at H
   by_cases c4:x0_2<(l1.length:Int)
   ·rw [if_pos c4] at H;have c4b0:=decide_eq_true c4;clear c4;by_cases c5:0≤x0_2
    ·rw [if_pos c5] at H;have c5b0:=eq_true c5;have c5b1:decide (0≤x0_2)=true:=decide_eq_true c5;clear c5;by_cases c6:x0_2≤(l1.length:Int)
     ·rw [if_pos c6] at H;have c6b0:=eq_true c6;have c6b1:decide (x0_2≤(l1.length:Int))=true:=decide_eq_true c6;clear c6;obtain⟨t3,A7,H⟩:=bnk H;obtain⟨ji0,hji8⟩:∃j_:Int,(wrap64 (x0_2+1))=j_:=⟨_,rfl⟩;replace H:(if 0≤(ji0) then (if (ji0)≤(l1.length:Int) then (if t3.length+(l1.drop ((ji0):Int).toNat).length<17592186044416 then ((impl_isClosure.f k1 l0_0 l0_1 l0_2 l0_3 l0_4 a0_5 (t3++(l1.drop ((ji0):Int).toNat))).bind fun t10=>(if t10=true then (some false) else (impl_isMinimal.l0 k1 l1 (l1.length:Int) ji0 l0_0 l0_1 l0_2 l0_3 l0_4 a0_5))) else (none)) else (none)) else (none))=some r:=by first|(rw [hji8] at H;exact H)|(simp only [hji8] at H ⊢;exact H)
      (try rw [hji8] at A7)
      have hji8w:(IntKind.i64.wrap (x0_2+1))=ji0:=(i64_w _).trans hji8;by_cases c9:0≤(ji0)
      ·rw [if_pos c9] at H;have c9b0:=eq_true c9;have c9b1:decide (0≤(ji0))=true:=decide_eq_true c9;clear c9;by_cases c10:(ji0)≤(l1.length:Int)
       ·rw [if_pos c10] at H;have c10b0:=eq_true c10;have c10b1:decide ((ji0)≤(l1.length:Int))=true:=decide_eq_true c10;clear c10;by_cases c11:t3.length+(l1.drop ((ji0):Int).toNat).length<17592186044416
        ·rw [if_pos c11] at H;have LMc11:=ak c11;clear c11;obtain⟨y4,hy4⟩:=gen_ ((t3++(l1.drop ((ji0):Int).toNat):List Int));rw [←hy4] at H;have Ny4:=ak hy4;clear hy4;obtain⟨t10,A12,H⟩:=bnk H;by_cases c13:t10=true
         ·subst c13;rw [if_pos rfl] at H;obtain rfl:=sj H;(try go_wp2)
          replace BK1:=ak (blk_drew BK1.1);replace HB:=ak (below_drew1 HB.1);obtain⟨i015,hi015,_,hsz15,_⟩:=info_parts info2;obtain⟨hcut15,hA15,hC15⟩:=print_take_of (P:=Try.prog) (Value.int .i64) 0 26 2 .i64 Try.underlying26 hi015 hsz15 A1 c1 l1 x0_2 (od) (od) HC1.1;have HR955:=ak (Kd.C_of_reads (h1:=fun _=>rfl) (hA15 _ (Kd.reads_of_C HR1.1)));have HC955:=ak hC15;clear hA15 hC15 hi015 hsz15;obtain⟨i016,hi016,_,hsz16,_⟩:=info_parts info2;obtain⟨A16,hcut16,hA16,hC16⟩:=print_drop_of (P:=Try.prog) (Value.int .i64) 0 26 2 .i64 Try.underlying26 hi016 hsz16 A1 c1 l1 (ji0) (od) (od) HC1.1;have HR959:=ak (Kd.C_of_reads (h1:=fun _=>rfl) (hA16 _ (Kd.reads_of_C HR1.1)));have HC959:=ak hC16;clear hA16 hC16 hi016 hsz16;refine start_ (n:=11) (S:=fun w'=>w'.cell? ⟨gb1,0,none⟩=some (.slice A0_0 l0_0.length c0_0)∧w'.cell? ⟨gb1,1,none⟩=some (.slice A0_1 l0_1.length c0_1)∧w'.cell? ⟨gb1,2,none⟩=some (.slice A0_2 l0_2.length c0_2)∧w'.cell? ⟨gb1,3,none⟩=some (.slice A0_3 l0_3.length c0_3)∧w'.cell? ⟨gb1,4,none⟩=some (.slice A0_4 l0_4.length c0_4)∧w'.cell? ⟨gb1,5,none⟩=some (.int .i64 a0_5)) (ds:=[]) (tf 0 11) (by kernel_rfl) rfl rfl (cy6 BK1.1) (fun hHeld=>?_);refine with_tabW impl_isMinimal.tab4 impl_isMinimal.bits4 (fun HT_ HW_=>?_);generalize wr.drew=w14 at BK1 HB HR955 HR959 hHeld ⊢;refine pu_ 1 12 (tM [0,1,1,9]) rfl rfl ?_
          refine pu_ 2 13 (tM [0,1,2,8]) rfl rfl ?_;refine pu_ 3 14 (tM [0,1,3,7]) rfl rfl ?_;refine pu_ 5 16 (tM [0,1,3,1,1,5]) rfl rfl ?_;refine pu_ 6 17 (tM [0,1,3,1,2,4]) rfl rfl ?_;refine pu_ 7 18 (tM [0,1,3,1,3,3]) rfl rfl ?_;refine pu_ 8 19 (tM [0,1,3,1,4,2]) rfl rfl ?_;refine ta6_ 0 11 (tM [4,1,4,2]) rfl rfl ?_;refine one_ (i:=4) (N:=some 15) (tf 9 2) rfl rfl (one_of HT_.1 (by kernel_rfl)) (by decide) (fun K hK=>?_);refine goes_ Try.func78 (by kernel_rfl) rfl #[.slice A1 (l1.take (x0_2:Int).toNat).length c1] (by rfl) rfl rfl (by(try simp only [List.map_toArray,List.map_cons,List.map_nil]);first|done|(rw [show (l1.take (x0_2:Int).toNat).length=x0_2.toNat from(by rw [List.length_take];have h_:(x0_2:Int)≤(l1.length:Int):=od;omega)]<;>rfl)|rfl|(simp only [List.length_drop,List.length_take];rfl)) ?_;with_reducible refine(impl_copyList.calls _ _ (l1.take (x0_2:Int).toNat) t3 _ ?_ ?_ A7.1).mono ?_
          exact vd HR955.1 HB.1
          exact HC955.1
          rintro e w17 ⟨v11,rfl,ho9,hb⟩;refine⟨_,rfl,?_⟩;have HO6:=ak (Kd.R_lower ho9 (below_size (vb HB.1)));replace BK1:=kb BK1 hb;replace HB:=bs HB hb;(try clear hb)
          (try clear hb2)
          (try clear hk)
          (try clear hi)
          (try clear ho9)
          refine hK.out _ _ (cy6 BK1.1) (fun hHeld=>?_);clear hK K;refine norm_ (a':=?_) ?_ ?_
          rotate_left
          ·show Act.put _ (some 15) _=_
           simp only [Act.put,List.setIfInBounds_toArray,List.set_cons_zero,List.set_cons_succ,i64_w,i32_w]
           rfl
          refine one_ (i:=9) (N:=some 20) (tf 10 1) rfl rfl (one_of HT_.1 (by kernel_rfl)) (by decide) (fun K hK=>?_);refine Kd.R_append_rows_step (Kd.int .i64) (w0:=w) w.heap.size (by rfl) (.tmp 15) (.tmp 19) 26 2 (.int .i64 0) 8 rfl Try.underlying26 info2 rfl (by decide) (by omega) v11 t3 (l1.drop ((ji0):Int).toNat) _ _ _ (fun _=>True) (fun _=>False) rfl rfl ?aO ?aR (fun _ _ h=>h) (fun _ h=>h.elim) ?aF ?aB ?aS ?aL ?_;(case aR=>first|(rw [←show (l1.drop ((ji0):Int).toNat).length=(l1.length-(ji0).toNat) from List.length_drop];exact vd HR959.1 HB.1)|(exact vd HR959.1 HB.1))
          (case aB=>exact(vb HB.1))
          (case aF=>exact(fun _ _=>trivial))
          (case aO=>exact(vr HO6.1))
          (case aS=>exact(below_size (vb HB.1)))
          (case aL=>have:=LMc11.1;have hlx_:=(show (l1.drop ((ji0):Int).toNat).length=(l1.length-(ji0).toNat) from List.length_drop);omega)
          intro v19 w18 ho hb hg hat;rw [←Ny4.1] at ho;have n0_:=ak (blk_grown (g:=gb1) (o:=.cells (f5 A0_0 l0_0 c0_0 A0_1 l0_1 c0_1 A0_2 l0_2 c0_2 A0_3 l0_3 c0_3 A0_4 l0_4 c0_4 a0_5) 28 (0,0)) (vk BK1.1) hg (Kd.R_ne HO6.1 BK1.1 (by decide)));have n1_:=ak (hb);have n2_:=ak (ho);clear BK1;clear HB;clear HO6;have BK1:=n0_;have HB:=n1_;have HO5:=n2_;clear n0_ n1_ n2_;clear ho hb hg hat;obtain⟨Ao7,co7,eo7⟩:=Kd.R_slice HO5.1;(first|subst eo7|(injection eo7 with f1_ f2_ f3_;have f4_:=f1_.symm;have f5_:=f3_.symm;clear f1_ f2_ f3_;subst f4_;subst f5_))
          refine hK.out _ _ (cy6 BK1.1) (fun hHeld=>?_);clear hK K;refine norm_ (a':=?_) ?_ ?_
          rotate_left
          ·show Act.put _ (some 20) _=_
           simp only [Act.put,List.setIfInBounds_toArray,List.set_cons_zero,List.set_cons_succ,i64_w,i32_w]
           rfl
          refine one_ (i:=10) (N:=some 21) (tf 11 0) rfl rfl (one_of HT_.1 (by kernel_rfl)) (by decide) (fun K hK=>?_);refine goes_ Try.func46 (by kernel_rfl) rfl #[.agg (f5 A0_0 l0_0 c0_0 A0_1 l0_1 c0_1 A0_2 l0_2 c0_2 A0_3 l0_3 c0_3 A0_4 l0_4 c0_4 a0_5),.slice Ao7 y4.length co7] (by rfl) rfl rfl (by(try simp only [List.map_toArray,List.map_cons,List.map_nil]);first|done|rfl|(simp only [List.length_drop,List.length_take];rfl)) ?_;with_reducible refine(impl_isClosure.calls k1 _ _ l0_0 _ _ l0_1 _ _ l0_2 _ _ l0_3 _ _ l0_4 a0_5 _ _ y4 true _ ?_ ?_ ?_ ?_ ?_ ?_ ?_ ?_ ?_ ?_ ?_ ?_ A12.1).mono ?_
          exact vd HR0_0.1 HB.1
          exact HC0_0.1
          exact vd HR0_1.1 HB.1
          exact HC0_1.1
          exact vd HR0_2.1 HB.1
          exact HC0_2.1
          exact vd HR0_3.1 HB.1
          exact HC0_3.1
          exact vd HR0_4.1 HB.1
          exact HC0_4.1
          exact rc_ HO5
          exact rl_ HO5
          rintro e w20 ⟨rfl,hb⟩;refine⟨_,rfl,?_⟩;replace HO5:=rb HO5 hb;replace BK1:=kb BK1 hb;replace HB:=bs HB hb;(try clear hb)
          (try clear hb2)
          (try clear hk)
          (try clear hi)
          refine hK.out _ _ (cy6 BK1.1) (fun hHeld=>?_);clear hK K;refine norm_ (a':=?_) ?_ ?_
          rotate_left
          ·show Act.put _ (some 21) _=_
           simp only [Act.put,List.setIfInBounds_toArray,List.set_cons_zero,List.set_cons_succ,i64_w,i32_w]
           rfl
          refine done_ (done_of HT_.1 (by kernel_rfl)) ?_;(try go_wp2)
          go_ret
          exact⟨by first|rfl|(simp [errW_none,errW_some]<;>rfl)|(simp only [←hji8];first|rfl|(simp [errW_none,errW_some]<;>rfl))|(simp [*,errW_none,errW_some]<;>rfl),vb HB.1⟩
         ·replace c13:=Bool.eq_false_iff.mpr c13;subst c13;rw [if_neg nf] at H;have H':=ak H;clear H;(try go_wp2)
          replace BK1:=ak (blk_drew BK1.1);replace HB:=ak (below_drew1 HB.1);obtain⟨i022,hi022,_,hsz22,_⟩:=info_parts info2;obtain⟨hcut22,hA22,hC22⟩:=print_take_of (P:=Try.prog) (Value.int .i64) 0 26 2 .i64 Try.underlying26 hi022 hsz22 A1 c1 l1 x0_2 (od) (od) HC1.1;have HR955:=ak (Kd.C_of_reads (h1:=fun _=>rfl) (hA22 _ (Kd.reads_of_C HR1.1)));have HC955:=ak hC22;clear hA22 hC22 hi022 hsz22;obtain⟨i023,hi023,_,hsz23,_⟩:=info_parts info2;obtain⟨A23,hcut23,hA23,hC23⟩:=print_drop_of (P:=Try.prog) (Value.int .i64) 0 26 2 .i64 Try.underlying26 hi023 hsz23 A1 c1 l1 (ji0) (od) (od) HC1.1;have HR959:=ak (Kd.C_of_reads (h1:=fun _=>rfl) (hA23 _ (Kd.reads_of_C HR1.1)));have HC959:=ak hC23;clear hA23 hC23 hi023 hsz23;refine start_ (n:=11) (S:=fun w'=>w'.cell? ⟨gb1,0,none⟩=some (.slice A0_0 l0_0.length c0_0)∧w'.cell? ⟨gb1,1,none⟩=some (.slice A0_1 l0_1.length c0_1)∧w'.cell? ⟨gb1,2,none⟩=some (.slice A0_2 l0_2.length c0_2)∧w'.cell? ⟨gb1,3,none⟩=some (.slice A0_3 l0_3.length c0_3)∧w'.cell? ⟨gb1,4,none⟩=some (.slice A0_4 l0_4.length c0_4)∧w'.cell? ⟨gb1,5,none⟩=some (.int .i64 a0_5)) (ds:=[]) (tf 0 11) (by kernel_rfl) rfl rfl (cy6 BK1.1) (fun hHeld=>?_);refine with_tabW impl_isMinimal.tab4 impl_isMinimal.bits4 (fun HT_ HW_=>?_);generalize wr.drew=w21 at BK1 HB HR955 HR959 hHeld ⊢;refine pu_ 1 12 (tM [0,1,1,9]) rfl rfl ?_
          refine pu_ 2 13 (tM [0,1,2,8]) rfl rfl ?_;refine pu_ 3 14 (tM [0,1,3,7]) rfl rfl ?_;refine pu_ 5 16 (tM [0,1,3,1,1,5]) rfl rfl ?_;refine pu_ 6 17 (tM [0,1,3,1,2,4]) rfl rfl ?_;refine pu_ 7 18 (tM [0,1,3,1,3,3]) rfl rfl ?_;refine pu_ 8 19 (tM [0,1,3,1,4,2]) rfl rfl ?_;refine ta6_ 0 11 (tM [4,1,4,2]) rfl rfl ?_;refine one_ (i:=4) (N:=some 15) (tf 9 2) rfl rfl (one_of HT_.1 (by kernel_rfl)) (by decide) (fun K hK=>?_);refine goes_ Try.func78 (by kernel_rfl) rfl #[.slice A1 (l1.take (x0_2:Int).toNat).length c1] (by rfl) rfl rfl (by(try simp only [List.map_toArray,List.map_cons,List.map_nil]);first|done|(rw [show (l1.take (x0_2:Int).toNat).length=x0_2.toNat from(by rw [List.length_take];have h_:(x0_2:Int)≤(l1.length:Int):=od;omega)]<;>rfl)|rfl|(simp only [List.length_drop,List.length_take];rfl)) ?_;with_reducible refine(impl_copyList.calls _ _ (l1.take (x0_2:Int).toNat) t3 _ ?_ ?_ A7.1).mono ?_
          exact vd HR955.1 HB.1
          exact HC955.1
          rintro e w24 ⟨v11,rfl,ho9,hb⟩;refine⟨_,rfl,?_⟩;have HO6:=ak (Kd.R_lower ho9 (below_size (vb HB.1)));replace BK1:=kb BK1 hb;replace HB:=bs HB hb;(try clear hb)
          (try clear hb2)
          (try clear hk)
          (try clear hi)
          (try clear ho9)
          refine hK.out _ _ (cy6 BK1.1) (fun hHeld=>?_);clear hK K;refine norm_ (a':=?_) ?_ ?_
          rotate_left
          ·show Act.put _ (some 15) _=_
           simp only [Act.put,List.setIfInBounds_toArray,List.set_cons_zero,List.set_cons_succ,i64_w,i32_w]
           rfl
          refine one_ (i:=9) (N:=some 20) (tf 10 1) rfl rfl (one_of HT_.1 (by kernel_rfl)) (by decide) (fun K hK=>?_);refine Kd.R_append_rows_step (Kd.int .i64) (w0:=w) w.heap.size (by rfl) (.tmp 15) (.tmp 19) 26 2 (.int .i64 0) 8 rfl Try.underlying26 info2 rfl (by decide) (by omega) v11 t3 (l1.drop ((ji0):Int).toNat) _ _ _ (fun _=>True) (fun _=>False) rfl rfl ?aO ?aR (fun _ _ h=>h) (fun _ h=>h.elim) ?aF ?aB ?aS ?aL ?_;(case aR=>first|(rw [←show (l1.drop ((ji0):Int).toNat).length=(l1.length-(ji0).toNat) from List.length_drop];exact vd HR959.1 HB.1)|(exact vd HR959.1 HB.1))
          (case aB=>exact(vb HB.1))
          (case aF=>exact(fun _ _=>trivial))
          (case aO=>exact(vr HO6.1))
          (case aS=>exact(below_size (vb HB.1)))
          (case aL=>have:=LMc11.1;have hlx_:=(show (l1.drop ((ji0):Int).toNat).length=(l1.length-(ji0).toNat) from List.length_drop);omega)
          intro v19 w25 ho hb hg hat;rw [←Ny4.1] at ho;have n0_:=ak (blk_grown (g:=gb1) (o:=.cells (f5 A0_0 l0_0 c0_0 A0_1 l0_1 c0_1 A0_2 l0_2 c0_2 A0_3 l0_3 c0_3 A0_4 l0_4 c0_4 a0_5) 28 (0,0)) (vk BK1.1) hg (Kd.R_ne HO6.1 BK1.1 (by decide)));have n1_:=ak (hb);have n2_:=ak (ho);clear BK1;clear HB;clear HO6;have BK1:=n0_;have HB:=n1_;have HO5:=n2_;clear n0_ n1_ n2_;clear ho hb hg hat;obtain⟨Ao8,co8,eo8⟩:=Kd.R_slice HO5.1;(first|subst eo8|(injection eo8 with f1_ f2_ f3_;have f4_:=f1_.symm;have f5_:=f3_.symm;clear f1_ f2_ f3_;subst f4_;subst f5_))
          refine hK.out _ _ (cy6 BK1.1) (fun hHeld=>?_);clear hK K;refine norm_ (a':=?_) ?_ ?_
          rotate_left
          ·show Act.put _ (some 20) _=_
           simp only [Act.put,List.setIfInBounds_toArray,List.set_cons_zero,List.set_cons_succ,i64_w,i32_w]
           rfl
          refine one_ (i:=10) (N:=some 21) (tf 11 0) rfl rfl (one_of HT_.1 (by kernel_rfl)) (by decide) (fun K hK=>?_);refine goes_ Try.func46 (by kernel_rfl) rfl #[.agg (f5 A0_0 l0_0 c0_0 A0_1 l0_1 c0_1 A0_2 l0_2 c0_2 A0_3 l0_3 c0_3 A0_4 l0_4 c0_4 a0_5),.slice Ao8 y4.length co8] (by rfl) rfl rfl (by(try simp only [List.map_toArray,List.map_cons,List.map_nil]);first|done|rfl|(simp only [List.length_drop,List.length_take];rfl)) ?_;with_reducible refine(impl_isClosure.calls k1 _ _ l0_0 _ _ l0_1 _ _ l0_2 _ _ l0_3 _ _ l0_4 a0_5 _ _ y4 false _ ?_ ?_ ?_ ?_ ?_ ?_ ?_ ?_ ?_ ?_ ?_ ?_ A12.1).mono ?_
          exact vd HR0_0.1 HB.1
          exact HC0_0.1
          exact vd HR0_1.1 HB.1
          exact HC0_1.1
          exact vd HR0_2.1 HB.1
          exact HC0_2.1
          exact vd HR0_3.1 HB.1
          exact HC0_3.1
          exact vd HR0_4.1 HB.1
          exact HC0_4.1
          exact rc_ HO5
          exact rl_ HO5
          rintro e w27 ⟨rfl,hb⟩;refine⟨_,rfl,?_⟩;replace HO5:=rb HO5 hb;replace BK1:=kb BK1 hb;replace HB:=bs HB hb;(try clear hb)
          (try clear hb2)
          (try clear hk)
          (try clear hi)
          refine hK.out _ _ (cy6 BK1.1) (fun hHeld=>?_);clear hK K;refine norm_ (a':=?_) ?_ ?_
          rotate_left
          ·show Act.put _ (some 21) _=_
           simp only [Act.put,List.setIfInBounds_toArray,List.set_cons_zero,List.set_cons_succ,i64_w,i32_w]
           rfl
          refine done_ (done_of HT_.1 (by kernel_rfl)) ?_;(try go_wp2)
          go_roundg k1
          case measure=>have:=HK1.1;omega
          case rel=>exact⟨(ji0),(by first|rfl|(simp;done)|(simp only [←hji8]<;>(first|rfl|simp))|(simp [*];done)),H',⟨by have:=HK1.1;omega⟩,⟨vk BK1.1⟩,⟨vb HB.1⟩⟩
        ·exact nO_ c11 H
       ·exact nO_ c10 H
      ·exact nO_ c9 H
     ·exact nO_ c6 H
    ·exact nO_ c5 H
   ·rw [if_neg c4] at H;have c4b0:=decide_eq_false c4;clear c4;obtain rfl:=sj H;go_wp2
    go_ret
    exact⟨ew,vb HB.1⟩
end Go.Proofs.Ytiblahniohjbbaa.Pall
