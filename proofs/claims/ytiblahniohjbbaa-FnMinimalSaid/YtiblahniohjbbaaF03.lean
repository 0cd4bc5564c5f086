/- Go functions of the program, each as a Lean function, and the proof that each call comes to what the Lean function tells; no condition beyond those that stand there. -/
import Derived.Test.YtiblahniohjbbaaF02
namespace Go.Proofs.Ytiblahniohjbbaa.Pall
set_option maxRecDepth 100000
set_option maxHeartbeats 8000000
open Go.RowKit Go.Proofs.YtiblahniohjbbaaW.PrintWords Go.Proofs.YtiblahniohjbbaaW.PrintLast
set_option linter.unusedVariables false
set_option linter.unusedSimpArgs false
mutual
def spec_l19Draw.j0:Nat→List Int→Int→Int→List (S91)→List (S69)→List Int→List Int→List Int→Int→Option ((List (S91))×(List (S69))×List Int×List Int×List Int×Int×Int×Int)
 |0,_,_,_,_,_,_,_,_,_=>none
 |k+1,x51,x10,x11,x8,x3,x15,x16,x17,x56=>(spec_l01Next.f x51 x10 x11 30).bind fun bt41=>(if bt41.1=0 then (spec_l19Draw.l0 k x51 bt41.2.1 bt41.2.2 x8 x3 x15 x16 x17 x56) else (some (x8,x3,x15,x16,x17,x56,bt41.2.1,bt41.2.2)))
def spec_l19Draw.l0:Nat→List Int→Int→Int→List (S91)→List (S69)→List Int→List Int→List Int→Int→Option ((List (S91))×(List (S69))×List Int×List Int×List Int×Int×Int×Int)
 |0,_,_,_,_,_,_,_,_,_=>none
 |k+1,x51,x10,x11,x8,x3,x15,x16,x17,x56=>(spec_l01Next.f x51 x10 x11 2).bind fun bt42=>(if (x3.length:Int)<(wrap64 (6+bt42.1)) then ((spec_l15Good.f x51 bt42.2.1 bt42.2.2).bind fun bt34=>(if x3.length<3518437208883 then (spec_l19Draw.l0 k x51 bt34.2.2.2.2.2.1 bt34.2.2.2.2.2.2 x8 (x3++[(⟨bt34.1,bt34.2.1,bt34.2.2.1,bt34.2.2.2.1,bt34.2.2.2.2.1⟩:S69)]) x15 x16 x17 x56) else (none))) else (some (x8,x3,x15,x16,x17,x56,bt42.2.1,bt42.2.2)))
end
def spec_l19Draw.f (k:Nat) (s0_0:List Int) (s0_1:Int) (s0_2:Int):Option ((List (S91))×(List (S69))×List Int×List Int×List Int×Int×Int×Int):=(spec_l18Draw.f k s0_0 s0_1 s0_2).bind fun bt20=>((spec_l01Next.f s0_0 bt20.2.2.2.2.2.2.1 bt20.2.2.2.2.2.2.2 4).bind fun bt43=>(if bt43.1>0 then ((spec_l01Next.f s0_0 bt43.2.1 bt43.2.2 900).bind fun bt37=>((spec_l01Next.f s0_0 bt37.2.1 bt37.2.2 600).bind fun bt38=>(spec_l19Draw.j0 k s0_0 bt38.2.1 bt38.2.2 (([(⟨0,300,wrap64 (400+bt37.1)⟩:S91),(⟨1,120,wrap64 (200+bt38.1)⟩:S91)]:List (S91))) bt20.2.1 bt20.2.2.1 bt20.2.2.2.1 bt20.2.2.2.2.1 bt20.2.2.2.2.2.1))) else (spec_l19Draw.j0 k s0_0 bt43.2.1 bt43.2.2 bt20.1 bt20.2.1 bt20.2.2.1 bt20.2.2.2.1 bt20.2.2.2.2.1 bt20.2.2.2.2.2.1)))
def spec_l19Draw.T6:Bool×List (List Nat×List Nat):=(true,[([],[]),([0],[0]),([],[]),([2],[2]),([3],[3]),([1,4,3],[1,4]),([0,1,2,3,4,5],[]),([6,5,5,0,1,2,3,4,5],[5,6])])
def spec_l19Draw.B6:List Nat:=[0,1,0,4,12,31,63,127]
theorem spec_l19Draw.tab6:rtab .any (opsOf Try.f71 6)=spec_l19Draw.T6:=by kernel_rfl
theorem spec_l19Draw.bits6:waitsOk spec_l19Draw.T6.2 spec_l19Draw.B6=true:=by kernel_rfl
theorem spec_l19Draw.calls (k:Nat) (g:Nat) (s0_0:List Int) (s0_1:Int) (s0_2:Int) (r1:List (S91)) (r2:List (S69)) (r3:List Int) (r4:List Int) (r5:List Int) (r6:Int) (r7:Int) (r8:Int) (w0 w:World) (hI:IsS84 w0 w g s0_0 s0_1 s0_2) (hB:Below w0.heap.size w0 w) (h:spec_l19Draw.f k s0_0 s0_1 s0_2=some (r1,r2,r3,r4,r5,r6,r7,r8)):
  Calls Try.prog 71 #[.pointer (some ⟨g,0,none⟩)] w fun e w'=>∃v0_ v1_ v2_ v3_ v4_:Value,e=.returned (.agg #[v0_,v1_,v2_,v3_,v4_,.int .i64 r6])∧Kd.R k91 91 w' w.heap.size (fun _=>True) v0_ r1∧Kd.R k69 69 w' w.heap.size (fun _=>True) v1_ r2∧Kd.R (Kd.int .i64) 2 w' w.heap.size (fun k_=>some k_≠(v3_:Value).ownBlock∧some k_≠(v4_:Value).ownBlock) v2_ r3∧Kd.R (Kd.int .i64) 2 w' w.heap.size (fun k_=>some k_≠(v2_:Value).ownBlock∧some k_≠(v4_:Value).ownBlock) v3_ r4∧Kd.R (Kd.int .i64) 2 w' w.heap.size (fun k_=>some k_≠(v2_:Value).ownBlock∧some k_≠(v3_:Value).ownBlock) v4_ r5∧IsS84 w0 w' g s0_0 r7 r8∧Below w0.heap.size w0 w'∧KeepBut w w' g none:=by
 have hu28:=Try.underlying28;have hu91:=Try.underlying91;have HI1:=ak hI;have HK:=ak (KeepBut.refl w g none);have HL:=ak hB.size;clear hI;have HW1:=ak hB.size;have HB:=ak hB;clear hB;unfold spec_l19Draw.f at h;have H:=h;clear h;obtain⟨⟨t20,t22,t12,t13,t14,t19,t39,t40⟩,A20,H⟩:=bnd H;dsimp only at H
 have A2:=ak A20;clear A20;obtain⟨⟨t43,t44,t45⟩,A30,H⟩:=bnd H;dsimp only at H;have A3:=ak A30;clear A30;have HC4:=ak H;clear H;go_enter Try.func71,Try.ntmps71;go_upto_if 8 with (first|((with_reducible refine gate_dst (N:=2) rfl ?_);refine bx 2 #[.slice none 0 0,.slice none 0 0,.slice none 0 0,.slice none 0 0,.slice none 0 0,.int .i64 0] 28 ?_;intro gb0 hg w5 hbox hb;replace HB:=ak (below_step (by exact vj84 HB.1 HI1.1) hb);have BK0:=ak hbox;have GW346:=ak ((by rw [hg];exact(keep_size (w:=w) (g:=g) (row:=none) (by exact vK HK.1)):w.heap.size≤gb0));have GE0:=ak ((Nat.le_trans HW1.1 (by rw [hg];exact(keep_size (w:=w) (g:=g) (row:=none) (by exact vK HK.1)):w.heap.size≤gb0):w0.heap.size≤gb0));replace HK:=ak (KeepBut.trans (by exact vK HK.1) (KeepBut.of_below hb g none) (.inl rfl));have NB1_0:=ak ((by rw [hg];exact Nat.ne_of_lt (IsS84.lt (show IsS84 w0 _ g s0_0 s0_1 s0_2 from by exact vi84 HI1.1)):g≠gb0));have NB0_1:=ak ((by rw [hg];exact Nat.ne_of_gt (IsS84.lt (show IsS84 w0 _ g s0_0 s0_1 s0_2 from by exact vi84 HI1.1)):gb0≠g));replace HI1:=ak (IsS84.below (by exact vi84 HI1.1) hb);clear hb hbox hg)|((with_reducible refine at_fn (f:=92) rfl ?_);refine gl (some 5) Try.func92 #[.pointer (some ⟨g,0,none⟩)] ?_;(with_reducible refine(spec_l18Draw.calls k g s0_0 s0_1 s0_2 t20 t22 t12 t13 t14 t19 t39 t40 w0 _ ?side1 ?_ A2.1).mono ?_);(case side1=>exact vY84 HI1.1);exact vg84 HB.1 HI1.1 GE0.1;rintro e w6 ⟨v73,v74,v75,v76,v77,rfl,ho1,ho65,ho7,ho9,ho66,hi,hb,hk⟩;refine⟨_,rfl,?_⟩;replace BK0:=kk hk BK0 NB0_1;have HO29:=ak (Kd.R_lower ho1 (keep_size (w:=w) (g:=g) (row:=none) (vL HK.1)));have HO30:=ak (Kd.R_lower ho65 (keep_size (w:=w) (g:=g) (row:=none) (vL HK.1)));have HO31:=ak (Kd.R_lower ho7 (keep_size (w:=w) (g:=g) (row:=none) (vL HK.1)));have HO32:=ak (Kd.R_lower ho9 (keep_size (w:=w) (g:=g) (row:=none) (vL HK.1)));have HO33:=ak (Kd.R_lower ho66 (keep_size (w:=w) (g:=g) (row:=none) (vL HK.1)));replace HK:=ak (KeepBut.trans (vL HK.1) hk (.inl rfl));replace HB:=ak (hb);replace HI1:=ak (hi);(try clear hb);(try clear hk);(try clear hi))|((with_reducible refine gate_dst (N:=3) rfl ?_);refine bx 3 #[.slice none 0 0,.slice none 0 0,.slice none 0 0,.slice none 0 0,.slice none 0 0,.int .i64 0] 28 ?_;intro gb2 hg w7 hbox hb;replace HO29:=rb HO29 hb;replace HO30:=rb HO30 hb;replace HO31:=rb HO31 hb;replace HO32:=rb HO32 hb;replace HO33:=rb HO33 hb;replace HB:=ak (below_step (by exact vg84 HB.1 HI1.1 GE0.1) hb);have BK2:=ak hbox;have GW365:=ak ((by rw [hg];exact(keep_size (w:=w) (g:=g) (row:=none) (vL HK.1)):w.heap.size≤gb2));have GE2:=ak ((Nat.le_trans HW1.1 (by rw [hg];exact(keep_size (w:=w) (g:=g) (row:=none) (vL HK.1)):w.heap.size≤gb2):w0.heap.size≤gb2));replace HK:=ak (KeepBut.trans (vL HK.1) (KeepBut.of_below hb g none) (.inl rfl));have NB0_2:=nl hg BK0;have NB2_0:=nr hg BK0;replace BK0:=kb BK0 hb;have NB1_2:=ak ((by rw [hg];exact Nat.ne_of_lt (IsS84.lt (show IsS84 w0 _ g s0_0 t39 t40 from vY84 HI1.1)):g≠gb2));have NB2_1:=ak ((by rw [hg];exact Nat.ne_of_gt (IsS84.lt (show IsS84 w0 _ g s0_0 t39 t40 from vY84 HI1.1)):gb2≠g));replace HI1:=ak (IsS84.below (vY84 HI1.1) hb);clear hb hbox hg;obtain⟨Ao36,co36,rfl⟩:=Kd.R_slice HO29.1;have:=NB2_0.1;have:=NB0_2.1;have:=NB2_1.1;have:=NB1_2.1;have hcz67:=cz6 BK2.1;obtain⟨Ao18,co18,rfl⟩:=Kd.R_slice HO30.1;obtain⟨Ao4,co4,rfl⟩:=Kd.R_slice HO31.1;obtain⟨Ao5,co5,rfl⟩:=Kd.R_slice HO32.1;obtain⟨Ao6,co6,rfl⟩:=Kd.R_slice HO33.1)|((with_reducible refine at_fn (f:=72) rfl ?_);refine gl (some 7) Try.func72 #[.pointer (some ⟨g,0,none⟩),.int .i64 4] ?_;(with_reducible refine(spec_l01Next.calls g s0_0 t39 t40 4 t43 t44 t45 w0 _ ?side1 ?side2 A3.1).mono ?_);(case side1=>exact vY84 HI1.1);(case side2=>exact vZ84 HB.1 HI1.1);rintro e w16 ⟨rfl,hi,hb,hk⟩;refine⟨_,rfl,?_⟩;replace BK0:=kk hk BK0 NB0_1;replace HO29:=ak (vA84 (show IsS84 w0 _ g s0_0 t39 t40 from vY84 HI1.1) (rz HO29.1 BK2.1) hk);replace HO30:=ak (vA84 (show IsS84 w0 _ g s0_0 t39 t40 from vY84 HI1.1) (rz HO30.1 BK2.1) hk);replace HO31:=ak (vA84 (show IsS84 w0 _ g s0_0 t39 t40 from vY84 HI1.1) (rz HO31.1 BK2.1) hk);replace HO32:=ak (vA84 (show IsS84 w0 _ g s0_0 t39 t40 from vY84 HI1.1) (rz HO32.1 BK2.1) hk);replace HO33:=ak (vA84 (show IsS84 w0 _ g s0_0 t39 t40 from vY84 HI1.1) (rz HO33.1 BK2.1) hk);replace BK2:=ak (KeepBut.blk hk (g':=gb2) (o:=.cells (f5 Ao36 t20 co36 Ao18 t22 co18 Ao4 t12 co4 Ao5 t13 co5 Ao6 t14 co6 t19) 28 (0,0)) (vz BK2.1) NB2_1.1 (by simp));replace HK:=ak (KeepBut.trans (vL HK.1) hk (.inl rfl));replace HB:=ak (hb);replace HI1:=ak (hi);(try clear hb);(try clear hk);(try clear hi)))
 (try simp only [Act.put,List.setIfInBounds_toArray,List.set_cons_zero,List.set_cons_succ])
 go_cut [] (fun wc=>∃(kq:Nat) (x10_9:Int) (x11_9:Int) (x8_9:List (S91)) (u366000:Value),Aside0 (spec_l19Draw.j0 kq s0_0 x10_9 x11_9 x8_9 t22 t12 t13 t14 t19=some (r1,r2,r3,r4,r5,r6,r7,r8))∧Aside0 (kq≤k)∧Aside0 (Kd.R k91 91 wc w.heap.size (fun _=>True) u366000 x8_9)∧Aside0 (Kd.R k69 69 wc w.heap.size (fun _=>True) (.slice Ao18 t22.length co18) t22)∧Aside0 (Kd.R (Kd.int .i64) 2 wc w.heap.size (fun k_=>nB k_ Ao5 t13.length co5∧nB k_ Ao6 t14.length co6) (.slice Ao4 t12.length co4) t12)∧Aside0 (Kd.R (Kd.int .i64) 2 wc w.heap.size (fun k_=>nB k_ Ao4 t12.length co4∧nB k_ Ao6 t14.length co6) (.slice Ao5 t13.length co5) t13)∧Aside0 (Kd.R (Kd.int .i64) 2 wc w.heap.size (fun k_=>nB k_ Ao4 t12.length co4∧nB k_ Ao5 t13.length co5) (.slice Ao6 t14.length co6) t14)∧Aside0 (wc.heap[gb0]? =some (.cells #[(.slice none 0 0),(.slice none 0 0),(.slice none 0 0),(.slice none 0 0),(.slice none 0 0),.int .i64 0] 28 (0,0)))∧Aside0 (wc.heap[gb2]? =some (.cells #[u366000,(.slice Ao18 t22.length co18),(.slice Ao4 t12.length co4),(.slice Ao5 t13.length co5),(.slice Ao6 t14.length co6),.int .i64 t19] 28 (0,0)))∧Aside0 (IsS84 w0 wc g s0_0 x10_9 x11_9)∧Aside0 (KeepBut w wc g none)∧Aside0 (Below w0.heap.size w0 wc))
 case first=>
  have H:=HC4.1;clear HC4;by_cases c17:t43>0
  ·rw [if_pos c17] at H;have c17b0:=decide_eq_true c17;clear c17;(first|rw [c17b0]|(simp only [i64_w,i32_w];rw [c17b0])|skip)
   obtain⟨⟨t37,t48,t49⟩,A180,H⟩:=bnd H;dsimp only at H;have A18:=ak A180;clear A180;obtain⟨⟨t38,t59,t60⟩,A190,H⟩:=bnd H;dsimp only at H;have A19:=ak A190;clear A190;obtain⟨y25,hy25⟩:=gen_ (([(⟨0,300,wrap64 (400+t37)⟩:S91),(⟨1,120,wrap64 (200+t38)⟩:S91)]:List (S91)));rw [←hy25] at H;have Ny25:=ak hy25;clear hy25;have H':=ak H;clear H;go_wp2_with (first|((with_reducible refine at_fn (f:=72) rfl ?_);refine gl (some 10) Try.func72 #[.pointer (some ⟨g,0,none⟩),.int .i64 900] ?_;(with_reducible refine(spec_l01Next.calls g s0_0 t44 t45 900 t37 t48 t49 w0 _ ?side1 ?side2 A18.1).mono ?_);(case side1=>exact vY84 HI1.1);(case side2=>exact vZ84 HB.1 HI1.1);rintro e w20 ⟨rfl,hi,hb,hk⟩;refine⟨_,rfl,?_⟩;replace BK0:=kk hk BK0 NB0_1;replace HO29:=ak (vA84 (show IsS84 w0 _ g s0_0 t44 t45 from vY84 HI1.1) (vr HO29.1) hk);replace HO30:=ak (vA84 (show IsS84 w0 _ g s0_0 t44 t45 from vY84 HI1.1) (vr HO30.1) hk);replace HO31:=ak (vA84 (show IsS84 w0 _ g s0_0 t44 t45 from vY84 HI1.1) (vr HO31.1) hk);replace HO32:=ak (vA84 (show IsS84 w0 _ g s0_0 t44 t45 from vY84 HI1.1) (vr HO32.1) hk);replace HO33:=ak (vA84 (show IsS84 w0 _ g s0_0 t44 t45 from vY84 HI1.1) (vr HO33.1) hk);replace BK2:=ak (KeepBut.blk hk (g':=gb2) (o:=.cells (f5 Ao36 t20 co36 Ao18 t22 co18 Ao4 t12 co4 Ao5 t13 co5 Ao6 t14 co6 t19) 28 (0,0)) (vk BK2.1) NB2_1.1 (by simp));replace HK:=ak (KeepBut.trans (vL HK.1) hk (.inl rfl));replace HB:=ak (hb);replace HI1:=ak (hi);(try clear hb);(try clear hk);(try clear hi))|((with_reducible refine at_fn (f:=72) rfl ?_);refine gl (some 14) Try.func72 #[.pointer (some ⟨g,0,none⟩),.int .i64 600] ?_;(with_reducible refine(spec_l01Next.calls g s0_0 t48 t49 600 t38 t59 t60 w0 _ ?side1 ?side2 A19.1).mono ?_);(case side1=>exact vY84 HI1.1);(case side2=>exact vZ84 HB.1 HI1.1);rintro e w21 ⟨rfl,hi,hb,hk⟩;refine⟨_,rfl,?_⟩;replace BK0:=kk hk BK0 NB0_1;replace HO29:=ak (vA84 (show IsS84 w0 _ g s0_0 t48 t49 from vY84 HI1.1) (vr HO29.1) hk);replace HO30:=ak (vA84 (show IsS84 w0 _ g s0_0 t48 t49 from vY84 HI1.1) (vr HO30.1) hk);replace HO31:=ak (vA84 (show IsS84 w0 _ g s0_0 t48 t49 from vY84 HI1.1) (vr HO31.1) hk);replace HO32:=ak (vA84 (show IsS84 w0 _ g s0_0 t48 t49 from vY84 HI1.1) (vr HO32.1) hk);replace HO33:=ak (vA84 (show IsS84 w0 _ g s0_0 t48 t49 from vY84 HI1.1) (vr HO33.1) hk);replace BK2:=ak (KeepBut.blk hk (g':=gb2) (o:=.cells (f5 Ao36 t20 co36 Ao18 t22 co18 Ao4 t12 co4 Ao5 t13 co5 Ao6 t14 co6 t19) 28 (0,0)) (vk BK2.1) NB2_1.1 (by simp));replace HK:=ak (KeepBut.trans (vL HK.1) hk (.inl rfl));replace HB:=ak (hb);replace HI1:=ak (hi);(try clear hb);(try clear hk);(try clear hi))|((with_reducible refine gate_dst (N:=17) rfl ?_);refine Kd.R_lit k91 _ 91 ?hg (N:=17) ?hd (xs:=([(⟨0,300,wrap64 (400+t37)⟩:S91),(⟨1,120,wrap64 (200+t38)⟩:S91)]:List (S91))) (inner:=[.int .i64 0,.int .i64 300,.int .i64 (wrap64 (400+t37)),.int .i64 1,.int .i64 120,.int .i64 (wrap64 (200+t38))]) (ok:=fun _=>True) (okp:=fun _=>True) ?hr ?hp (fun _ hk=>hk) trivial (Below.refl _ _) (Nat.le_refl _) (by simp) ?_;(case hd=>rfl);(case hg=>rfl);(case hr=>first|(go_simp;done)|(go_simp;rfl));(case hp=>exact(Reps.c3 (show Kd.M k91 _ _ _ (⟨0,300,wrap64 (400+t37)⟩:S91) [.int .i64 0,.int .i64 300,.int .i64 (wrap64 (400+t37))] from(k91_mkM _ _ _ (⟨0,300,wrap64 (400+t37)⟩:S91))) (Reps.c3 (show Kd.M k91 _ _ _ (⟨1,120,wrap64 (200+t38)⟩:S91) [.int .i64 1,.int .i64 120,.int .i64 (wrap64 (200+t38))] from(k91_mkM _ _ _ (⟨1,120,wrap64 (200+t38)⟩:S91))) (Reps.none _ _))));intro v78 w22 ho50 hb hg_ hnew_;clear hg_ hnew_;(first|rw [←Ny25.1] at ho50|(simp only [Int.reduceToNat] at ho50;rw [←Ny25.1] at ho50));replace HO30:=rb HO30 hb;replace HO31:=rb HO31 hb;replace HO32:=rb HO32 hb;replace HO33:=rb HO33 hb;have HO61:=ak (Kd.R_lower (Kd.R_new' ho50 (Kd.R_lt (vr HO29.1))) (keep_size (w:=w) (g:=g) (row:=none) (vL HK.1)));replace HO29:=ro HO29 ho50 hb;replace BK0:=kb BK0 hb;replace BK2:=kb BK2 hb;replace HK:=ak (KeepBut.trans (vL HK.1) (KeepBut.of_below hb g none) (.inl rfl));replace HB:=ak (below_step (vZ84 HB.1 HI1.1) hb);replace HI1:=ak (IsS84.below (vY84 HI1.1) hb);clear hb ho50;obtain⟨Ao26,co26,rfl⟩:=Kd.R_slice HO61.1;have:=NB2_0.1;have:=NB0_2.1;have:=NB2_1.1;have:=NB1_2.1;have hcz68:=cz6 BK2.1))
   go_meet
   case rel=>exact⟨_,(t59),(t60),(y25),(.slice Ao26 y25.length co26),H',⟨by first|omega|exact Nat.le_refl _⟩,⟨tQ1 HO61 BK2⟩,⟨tQ1 HO30 BK2⟩,⟨sQ1 HO31 BK2⟩,⟨sQ1 HO32 BK2⟩,⟨sQ1 HO33 BK2⟩,⟨by(with_reducible repeat (first|refine blk_drewN ?_ _|refine blk_drew ?_|refine blk_alloc ?_ _));refine blk_far ?_ NB0_2.1 _;exact vk BK0.1⟩,⟨by(with_reducible repeat (first|refine blk_drewN ?_ _|refine blk_drew ?_|refine blk_alloc ?_ _));refine blk_put (cs:=(f5 Ao36 t20 co36 Ao18 t22 co18 Ao4 t12 co4 Ao5 t13 co5 Ao6 t14 co6 t19)) ?_ 0 _ rfl;exact vk BK2.1⟩,⟨vY84 HI1.1⟩,⟨vL HK.1⟩,⟨vZ84 HB.1 HI1.1⟩⟩
  ·rw [if_neg c17] at H;have c17b0:=decide_eq_false c17;clear c17;(first|rw [c17b0]|(simp only [i64_w,i32_w];rw [c17b0])|skip)
   have H':=ak H;clear H;go_wp2
   go_meet
   case rel=>exact⟨_,(t44),(t45),(t20),(.slice Ao36 t20.length co36),H',⟨by first|omega|exact Nat.le_refl _⟩,⟨vr HO29.1⟩,⟨vr HO30.1⟩,⟨vr HO31.1⟩,⟨vr HO32.1⟩,⟨vr HO33.1⟩,⟨vk BK0.1⟩,⟨vk BK2.1⟩,⟨vY84 HI1.1⟩,⟨vL HK.1⟩,⟨vZ84 HB.1 HI1.1⟩⟩
 case rest=>
  clear HC4;obtain⟨kq,x10_9,x11_9,x8_9,u366000,HA,HJ3,HO_8,HO_3,HO_15,HO_16,HO_17,BK0,BK2,HI1,HK,HB⟩:=hcut
  cases kq with
  |zero=>exact absurd HA.1 (by simp [spec_l19Draw.j0])
  |succ kj3=>
   have H:=HA.1;clear HA;simp only [spec_l19Draw.j0] at H
   obtain⟨⟨t41,t57,t58⟩,A280,H⟩:=bnd H;dsimp only at H;have A28:=ak A280;clear A280;by_cases c29:t41=0
   ·rw [if_pos c29] at H;obtain⟨c29b0,c29b1⟩:=bqt c29;clear c29;have H':=ak H;clear H;go_wp2_with (first|((with_reducible refine at_fn (f:=72) rfl ?_);refine gl (some 20) Try.func72 #[.pointer (some ⟨g,0,none⟩),.int .i64 30] ?_;(with_reducible refine(spec_l01Next.calls g s0_0 x10_9 x11_9 30 t41 t57 t58 w0 _ ?side1 ?side2 A28.1).mono ?_);(case side1=>exact vY84 HI1.1);(case side2=>exact vZ84 HB.1 HI1.1);rintro e w30 ⟨rfl,hi,hb,hk⟩;refine⟨_,rfl,?_⟩;replace HO_8:=ak (vA84 (show IsS84 w0 _ g s0_0 x10_9 x11_9 from vY84 HI1.1) (vr HO_8.1) hk);replace HO_3:=ak (vA84 (show IsS84 w0 _ g s0_0 x10_9 x11_9 from vY84 HI1.1) (vr HO_3.1) hk);replace HO_15:=ak (vA84 (show IsS84 w0 _ g s0_0 x10_9 x11_9 from vY84 HI1.1) (vr HO_15.1) hk);replace HO_16:=ak (vA84 (show IsS84 w0 _ g s0_0 x10_9 x11_9 from vY84 HI1.1) (vr HO_16.1) hk);replace HO_17:=ak (vA84 (show IsS84 w0 _ g s0_0 x10_9 x11_9 from vY84 HI1.1) (vr HO_17.1) hk);replace BK0:=kk hk BK0 NB0_1;replace BK2:=kk hk BK2 NB2_1;replace HK:=ak (KeepBut.trans (vL HK.1) hk (.inl rfl));replace HB:=ak (hb);replace HI1:=ak (hi);(try clear hb);(try clear hk);(try clear hi)))
    go_loopg [] kj3 (fun kq w'=>∃(x10_7:Int) (x11_7:Int) (x3_7:List (S69)) (u366001:Value),Aside0 (spec_l19Draw.l0 kq s0_0 x10_7 x11_7 x8_9 x3_7 t12 t13 t14 t19=some (r1,r2,r3,r4,r5,r6,r7,r8))∧Aside0 (kq≤kj3)∧Aside0 (Kd.R k91 91 w' w.heap.size (fun _=>True) u366000 x8_9)∧Aside0 (Kd.R k69 69 w' w.heap.size (fun _=>True) u366001 x3_7)∧Aside0 (Kd.R (Kd.int .i64) 2 w' w.heap.size (fun k_=>nB k_ Ao5 t13.length co5∧nB k_ Ao6 t14.length co6) (.slice Ao4 t12.length co4) t12)∧Aside0 (Kd.R (Kd.int .i64) 2 w' w.heap.size (fun k_=>nB k_ Ao4 t12.length co4∧nB k_ Ao6 t14.length co6) (.slice Ao5 t13.length co5) t13)∧Aside0 (Kd.R (Kd.int .i64) 2 w' w.heap.size (fun k_=>nB k_ Ao4 t12.length co4∧nB k_ Ao5 t13.length co5) (.slice Ao6 t14.length co6) t14)∧Aside0 (w'.heap[gb0]? =some (.cells #[(.slice none 0 0),(.slice none 0 0),(.slice none 0 0),(.slice none 0 0),(.slice none 0 0),.int .i64 0] 28 (0,0)))∧Aside0 (w'.heap[gb2]? =some (.cells #[u366000,u366001,(.slice Ao4 t12.length co4),(.slice Ao5 t13.length co5),(.slice Ao6 t14.length co6),.int .i64 t19] 28 (0,0)))∧Aside0 (IsS84 w0 w' g s0_0 x10_7 x11_7)∧Aside0 (KeepBut w w' g none)∧Aside0 (Below w0.heap.size w0 w'))
    case atStart=>exact⟨(t57),(t58),(t22),(.slice Ao18 t22.length co18),H',⟨Nat.le_refl _⟩,⟨vr HO_8.1⟩,⟨vr HO_3.1⟩,⟨vr HO_15.1⟩,⟨vr HO_16.1⟩,⟨vr HO_17.1⟩,⟨vk BK0.1⟩,⟨vk BK2.1⟩,⟨vY84 HI1.1⟩,⟨vL HK.1⟩,⟨vZ84 HB.1 HI1.1⟩⟩
    case round=>
     clear H';obtain⟨x10_7,x11_7,x3_7,u366001,HA,HK2,HO_8,HO_3,HO_15,HO_16,HO_17,BK0,BK2,HI1,HK,HB⟩:=hrel
     cases gk with
     |zero=>exact absurd HA.1 (by simp [spec_l19Draw.l0])
     |succ k2=>
      have H:=HA.1;clear HA;simp only [spec_l19Draw.l0] at H
      obtain⟨⟨t42,t46,t47⟩,A310,H⟩:=bnd H;dsimp only at H;have A31:=ak A310;clear A310;by_cases c32:(x3_7.length:Int)<(wrap64 (6+t42))
      ·rw [if_pos c32] at H;have c32b0:=decide_eq_true c32;clear c32;obtain⟨⟨t34,t52,t53,t54,t55,t62,t63⟩,A330,H⟩:=bnd H;dsimp only at H;have A33:=ak A330;clear A330;by_cases c34:x3_7.length<3518437208883
       ·rw [if_pos c34] at H;have LMc34:=ak c34;clear c34;obtain⟨y35,hy35⟩:=gen_ ((x3_7++[(⟨t34,t52,t53,t54,t55⟩:S69)]:List (S69)));rw [←hy35] at H;have Ny35:=ak hy35;clear hy35;have H':=ak H;clear H;(try go_wp2)
        replace HO_8:=ak (Kd.R_drew HO_8.1);replace HO_3:=ak (Kd.R_drew HO_3.1);replace HO_15:=ak (Kd.R_drew HO_15.1);replace HO_16:=ak (Kd.R_drew HO_16.1);replace HO_17:=ak (Kd.R_drew HO_17.1);replace BK0:=ak (blk_drew BK0.1);replace BK2:=ak (blk_drew BK2.1);replace HI1:=ak (IsS84.drew HI1.1);replace HK:=ak (keep_drew HK.1);replace HB:=ak (below_drew1 HB.1);obtain⟨Ao23,co23,eo23⟩:=Kd.R_slice HO_3.1;(first|subst eo23|(injection eo23 with f1_ f2_ f3_;have f4_:=f1_.symm;have f5_:=f3_.symm;clear f1_ f2_ f3_;subst f4_;subst f5_))
        refine start_ (n:=7) (S:=fun w'=>w'.cell? ⟨gb2,0,none⟩=some (u366000)∧w'.cell? ⟨gb2,1,none⟩=some (.slice Ao23 x3_7.length co23)∧w'.cell? ⟨gb2,2,none⟩=some (.slice Ao4 t12.length co4)∧w'.cell? ⟨gb2,3,none⟩=some (.slice Ao5 t13.length co5)∧w'.cell? ⟨gb2,4,none⟩=some (.slice Ao6 t14.length co6)∧w'.cell? ⟨gb2,5,none⟩=some (.int .i64 t19)) (ds:=[]) (tf 0 7) (by kernel_rfl) rfl rfl (cy6 BK2.1) (fun hHeld=>?_);generalize wr.drew=w35 at HO_8 HO_3 HO_15 HO_16 HO_17 BK0 BK2 HI1 HK HB hHeld ⊢;refine pu_ 0 22 (tf 1 6) rfl rfl ?_ (by kernel_rfl);refine pu_ 3 25 (tM [1,2,1,3]) rfl rfl ?_ (by kernel_rfl);refine ta6_ 1 23 (tM [2,1,1,3]) rfl rfl ?_ (by kernel_rfl);refine pu_ 2 24 (tf 4 3) rfl rfl ?_ (by kernel_rfl);refine one_ (i:=4) (N:=some 26) (tf 5 2) rfl rfl (by kernel_rfl) (by decide) (fun K hK=>?_);refine goes_ Try.func72 (by kernel_rfl) rfl #[.pointer (some ⟨g,0,none⟩),.int .i64 2] (by rfl) rfl rfl (by(try simp only [List.map_toArray,List.map_cons,List.map_nil]);first|done|rfl|(simp only [List.length_drop,List.length_take];rfl)) ?_;with_reducible refine(spec_l01Next.calls g s0_0 x10_7 x11_7 2 t42 t46 t47 w0 _ ?side1 ?side2 A31.1).mono ?_
        (case side1=>exact vY84 HI1.1)
        (case side2=>exact vZ84 HB.1 HI1.1)
        rintro e w37 ⟨rfl,hi,hb,hk⟩;refine⟨_,rfl,?_⟩;replace HO_8:=ak (vA84 (show IsS84 w0 _ g s0_0 x10_7 x11_7 from vY84 HI1.1) (vr HO_8.1) hk);replace HO_3:=ak (vA84 (show IsS84 w0 _ g s0_0 x10_7 x11_7 from vY84 HI1.1) (vr HO_3.1) hk);replace HO_15:=ak (vA84 (show IsS84 w0 _ g s0_0 x10_7 x11_7 from vY84 HI1.1) (vr HO_15.1) hk);replace HO_16:=ak (vA84 (show IsS84 w0 _ g s0_0 x10_7 x11_7 from vY84 HI1.1) (vr HO_16.1) hk)
        replace HO_17:=ak (vA84 (show IsS84 w0 _ g s0_0 x10_7 x11_7 from vY84 HI1.1) (vr HO_17.1) hk);replace BK0:=kk hk BK0 NB0_1;replace BK2:=kk hk BK2 NB2_1;replace HK:=ak (KeepBut.trans (vL HK.1) hk (.inl rfl));replace HB:=ak (hb);replace HI1:=ak (hi);(try clear hb)
        (try clear hb2)
        (try clear hk)
        (try clear hi)
        refine hK.out _ _ (cy6 BK2.1) (fun hHeld=>?_);clear hK K;refine norm_ (a':=?_) ?_ ?_
        rotate_left
        ·show Act.put _ (some 26) _=_
         simp only [Act.put,List.setIfInBounds_toArray,List.set_cons_zero,List.set_cons_succ,i64_w,i32_w]
         rfl
        refine pu_ 5 27 (tf 6 1) rfl rfl ?_ (by kernel_rfl);refine pu_ 6 28 (tf 7 0) rfl rfl ?_ (by kernel_rfl);refine done_ (by kernel_rfl) ?_;(try go_wp2)
        replace HO_8:=ak (Kd.R_drew HO_8.1);replace HO_3:=ak (Kd.R_drew HO_3.1);replace HO_15:=ak (Kd.R_drew HO_15.1);replace HO_16:=ak (Kd.R_drew HO_16.1);replace HO_17:=ak (Kd.R_drew HO_17.1);replace BK0:=ak (blk_drew BK0.1);replace BK2:=ak (blk_drew BK2.1);replace HI1:=ak (IsS84.drew HI1.1);replace HK:=ak (keep_drew HK.1);replace HB:=ak (below_drew1 HB.1);refine start_ (n:=8) (S:=fun w'=>w'.cell? ⟨gb2,0,none⟩=some (u366000)∧w'.cell? ⟨gb2,1,none⟩=some (.slice Ao23 x3_7.length co23)∧w'.cell? ⟨gb2,2,none⟩=some (.slice Ao4 t12.length co4)∧w'.cell? ⟨gb2,3,none⟩=some (.slice Ao5 t13.length co5)∧w'.cell? ⟨gb2,4,none⟩=some (.slice Ao6 t14.length co6)∧w'.cell? ⟨gb2,5,none⟩=some (.int .i64 t19)) (ds:=[7]) (tf 0 8) (by kernel_rfl) rfl rfl (cy6 BK2.1) (fun hHeld=>?_);refine with_tabW spec_l19Draw.tab6 spec_l19Draw.bits6 (fun HT_ HW_=>?_);generalize w37.drew=w38 at HO_8 HO_3 HO_15 HO_16 HO_17 BK0 BK2 HI1 HK HB hHeld ⊢;refine pu_ 0 29 (tf 1 7) rfl rfl ?_;refine pu_ 2 31 (tM [1,1,1,5]) rfl rfl ?_;refine ta6_ 1 30 (tf 3 5) rfl rfl ?_;refine one_ (i:=3) (N:=some 32) (tf 4 4) rfl rfl (one_of HT_.1 (by kernel_rfl)) (by decide) (fun K hK=>?_);refine goes_ Try.func93 (by kernel_rfl) rfl #[.pointer (some ⟨g,0,none⟩)] (by rfl) rfl rfl (by(try simp only [List.map_toArray,List.map_cons,List.map_nil]);first|done|rfl|(simp only [List.length_drop,List.length_take];rfl)) ?_
        with_reducible refine(spec_l15Good.calls g s0_0 t46 t47 t34 t52 t53 t54 t55 t62 t63 w0 _ ?side1 ?side2 A33.1).mono ?_
        (case side1=>exact vY84 HI1.1)
        (case side2=>exact vZ84 HB.1 HI1.1)
        rintro e w39 ⟨rfl,hi,hb,hk⟩;refine⟨_,rfl,?_⟩;replace HO_8:=ak (vA84 (show IsS84 w0 _ g s0_0 t46 t47 from vY84 HI1.1) (vr HO_8.1) hk);replace HO_3:=ak (vA84 (show IsS84 w0 _ g s0_0 t46 t47 from vY84 HI1.1) (vr HO_3.1) hk);replace HO_15:=ak (vA84 (show IsS84 w0 _ g s0_0 t46 t47 from vY84 HI1.1) (vr HO_15.1) hk);replace HO_16:=ak (vA84 (show IsS84 w0 _ g s0_0 t46 t47 from vY84 HI1.1) (vr HO_16.1) hk)
        replace HO_17:=ak (vA84 (show IsS84 w0 _ g s0_0 t46 t47 from vY84 HI1.1) (vr HO_17.1) hk);replace BK0:=kk hk BK0 NB0_1;replace BK2:=kk hk BK2 NB2_1;replace HK:=ak (KeepBut.trans (vL HK.1) hk (.inl rfl));replace HB:=ak (hb);replace HI1:=ak (hi);(try clear hb)
        (try clear hb2)
        (try clear hk)
        (try clear hi)
        refine hK.out _ _ (cy6 BK2.1) (fun hHeld=>?_);clear hK K;refine norm_ (a':=?_) ?_ ?_
        rotate_left
        ·show Act.put _ (some 32) _=_
         simp only [Act.put,List.setIfInBounds_toArray,List.set_cons_zero,List.set_cons_succ,i64_w,i32_w]
         rfl
        refine one_ (i:=4) (N:=some 33) (tf 5 3) rfl rfl (one_of HT_.1 (by kernel_rfl)) (by decide) (fun K hK=>?_);refine value_ (w1:=?_) (v:=?_) (by rfl) rfl ?_ ?_
        rotate_left 2
        ·go_simp
         constructor
         ·rfl
         ·rfl
        refine hK.out _ _ ⟨(blk_cell (blk_alloc BK2.1 _) 0).trans rfl,(blk_cell (blk_alloc BK2.1 _) 1).trans rfl,(blk_cell (blk_alloc BK2.1 _) 2).trans rfl,(blk_cell (blk_alloc BK2.1 _) 3).trans rfl,(blk_cell (blk_alloc BK2.1 _) 4).trans rfl,(blk_cell (blk_alloc BK2.1 _) 5).trans rfl⟩ (fun hHeld=>?_);clear hK K;refine norm_ (a':=?_) ?_ ?_
        rotate_left
        ·show Act.put _ (some 33) _=_
         simp only [Act.put,List.setIfInBounds_toArray,List.set_cons_zero,List.set_cons_succ,i64_w,i32_w]
         rfl
        refine one_ (i:=5) (N:=some 34) (tf 6 2) rfl rfl (one_of HT_.1 (by kernel_rfl)) (by decide) (fun K hK=>?_);refine Kd.R_append_step k69 w.heap.size (by rfl) (.tmp 30) (.tmp 33) 25 69 (.agg #[(.int .i64 0),(.int .i64 0),(.int .i64 0),(.int .i64 0),(.int .i64 0)]) 40 rfl Try.underlying25 info69 rfl (by decide) (by omega) (.slice Ao23 x3_7.length co23) x3_7 (⟨t34,t52,t53,t54,t55⟩:S69) [.int .i64 t34,.int .i64 t52,.int .i64 t53,.int .i64 t54,.int .i64 t55] (fun _=>True) (fun _=>False) rfl rfl ?aP (fun _ hk=>hk.elim) ?aF ?aO (Below.refl _ _) ?aS ?aL ?_;(case aP=>exact k69_mkM _ _ _ (⟨t34,t52,t53,t54,t55⟩:S69))
        (case aF=>exact(fun _ _=>trivial))
        (case aO=>exact(vr HO_3.1))
        (case aS=>exact(keep_size (w:=w) (g:=g) (row:=none) (vL HK.1)))
        (case aL=>have:=LMc34.1;omega)
        intro v79 w40 ho hb hg hat;rw [←Ny35.1] at ho;have n0_:=ak (Kd.R_over' (vr HO_8.1) (Kd.R_typed (vr HO_3.1)) (by decide) hg);have n1_:=ak (Kd.R_over' (vr HO_15.1) (Kd.R_typed (vr HO_3.1)) (by decide) hg);have n2_:=ak (Kd.R_over' (vr HO_16.1) (Kd.R_typed (vr HO_3.1)) (by decide) hg);have n3_:=ak (Kd.R_over' (vr HO_17.1) (Kd.R_typed (vr HO_3.1)) (by decide) hg);have n4_:=ak (blk_grown (g:=gb0) (o:=.cells #[.slice none 0 0,.slice none 0 0,.slice none 0 0,.slice none 0 0,.slice none 0 0,.int .i64 0] 28 (0,0)) (vk BK0.1) hg (Kd.R_ne HO_3.1 BK0.1 (by decide)));have n5_:=ak (blk_grown (g:=gb2) (o:=.cells #[u366000,.slice Ao23 x3_7.length co23,.slice Ao4 t12.length co4,.slice Ao5 t13.length co5,.slice Ao6 t14.length co6,.int .i64 t19] 28 (0,0)) (vk BK2.1) hg (Kd.R_ne HO_3.1 BK2.1 (by decide)));have n6_:=ak (IsS84.grown (vY84 HI1.1) hg (IsS84.own_ne HI1.1 HO_3.1 (by decide)));have n7_:=ak (below_weaken (vZ84 HB.1 HI1.1) HL.1 hb)
        have n8_:=ak (KeepBut.trans (vL HK.1) (KeepBut.of_grown hg g) (Kd.R_base2 HO_3.1));have n9_:=ak (ho);clear HO_8;clear HO_15;clear HO_16;clear HO_17;clear BK0;clear BK2;clear HI1;clear HB;clear HK;clear HO_3;have HO_8:=n0_;have HO_15:=n1_;have HO_16:=n2_;have HO_17:=n3_;have BK0:=n4_;have BK2:=n5_;have HI1:=n6_;have HB:=n7_;have HK:=n8_;have HO64:=n9_;clear n0_ n1_ n2_ n3_ n4_ n5_ n6_ n7_ n8_ n9_;clear ho hb hg hat;obtain⟨Ao24,co24,eo24⟩:=Kd.R_slice HO64.1;(first|subst eo24|(injection eo24 with f1_ f2_ f3_;have f4_:=f1_.symm;have f5_:=f3_.symm;clear f1_ f2_ f3_;subst f4_;subst f5_))
        refine hK.out _ _ (cy6 BK2.1) (fun hHeld=>?_);clear hK K;refine norm_ (a':=?_) ?_ ?_
        rotate_left
        ·show Act.put _ (some 34) _=_
         simp only [Act.put,List.setIfInBounds_toArray,List.set_cons_zero,List.set_cons_succ,i64_w,i32_w]
         rfl
        refine pu_ 6 35 (tf 7 1) rfl rfl ?_;refine last_ (i:=7) (N:=none) (tf 8 0) rfl rfl (one_of HT_.1 (by kernel_rfl)) (by decide) (fun K hK=>?_);have hs42:w40.cell? ⟨gb2,1,none⟩=some (.slice Ao23 x3_7.length co23):=bk BK2.1 1;have hfs42:=blk_frozen BK2.1 1;have hns42_0:=NB0_2.1;have hms42_0:=NB2_0.1;refine skip_ (w1:=?_) (by rfl) rfl ?_ ?_
        rotate_left
        ·go_simp
         rfl
        refine hK.out _ _ ?_;clear hK K;refine done_ (done_of HT_.1 (by kernel_rfl)) ?_;(try go_wp2)
        go_roundg k2
        case measure=>have:=HJ3.1;have:=HK2.1;omega
        case rel=>exact⟨(t62),(t63),(y35),(.slice Ao24 y35.length co24),H',⟨by have:=HJ3.1;have:=HK2.1;omega⟩,⟨tQ1 HO_8 BK2⟩,⟨tQ1 HO64 BK2⟩,⟨sQ1 HO_15 BK2⟩,⟨sQ1 HO_16 BK2⟩,⟨sQ1 HO_17 BK2⟩,⟨by(with_reducible repeat (first|refine blk_drewN ?_ _|refine blk_drew ?_|refine blk_alloc ?_ _));refine blk_far ?_ NB0_2.1 _;exact vk BK0.1⟩,⟨by(with_reducible repeat (first|refine blk_drewN ?_ _|refine blk_drew ?_|refine blk_alloc ?_ _));refine blk_put (cs:=#[u366000,.slice Ao23 x3_7.length co23,.slice Ao4 t12.length co4,.slice Ao5 t13.length co5,.slice Ao6 t14.length co6,.int .i64 t19]) ?_ 1 _ rfl;exact vk BK2.1⟩,⟨vY84 HI1.1⟩,⟨vL HK.1⟩,⟨vZ84 HB.1 HI1.1⟩⟩
       ·exact nO_ c34 H
      ·rw [if_neg c32] at H;have c32b0:=decide_eq_false c32;clear c32;simp only [Option.some.injEq,Prod.mk.injEq] at H
       obtain⟨rfl,rfl,rfl,rfl,rfl,rfl,rfl,rfl⟩:=H;(try go_wp2)
       replace HO_8:=ak (Kd.R_drew HO_8.1);replace HO_3:=ak (Kd.R_drew HO_3.1);replace HO_15:=ak (Kd.R_drew HO_15.1);replace HO_16:=ak (Kd.R_drew HO_16.1);replace HO_17:=ak (Kd.R_drew HO_17.1);replace BK0:=ak (blk_drew BK0.1);replace BK2:=ak (blk_drew BK2.1);replace HI1:=ak (IsS84.drew HI1.1);replace HK:=ak (keep_drew HK.1);replace HB:=ak (below_drew1 HB.1);obtain⟨Ao21,co21,eo21⟩:=Kd.R_slice HO_3.1;(first|subst eo21|(injection eo21 with f1_ f2_ f3_;have f4_:=f1_.symm;have f5_:=f3_.symm;clear f1_ f2_ f3_;subst f4_;subst f5_))
       refine start_ (n:=7) (S:=fun w'=>w'.cell? ⟨gb2,0,none⟩=some (u366000)∧w'.cell? ⟨gb2,1,none⟩=some (.slice Ao21 x3_7.length co21)∧w'.cell? ⟨gb2,2,none⟩=some (.slice Ao4 t12.length co4)∧w'.cell? ⟨gb2,3,none⟩=some (.slice Ao5 t13.length co5)∧w'.cell? ⟨gb2,4,none⟩=some (.slice Ao6 t14.length co6)∧w'.cell? ⟨gb2,5,none⟩=some (.int .i64 t19)) (ds:=[]) (tf 0 7) (by kernel_rfl) rfl rfl (cy6 BK2.1) (fun hHeld=>?_);generalize wr.drew=w43 at HO_8 HO_3 HO_15 HO_16 HO_17 BK0 BK2 HI1 HK HB hHeld ⊢;refine pu_ 0 22 (tf 1 6) rfl rfl ?_ (by kernel_rfl);refine pu_ 3 25 (tM [1,2,1,3]) rfl rfl ?_ (by kernel_rfl);refine ta6_ 1 23 (tM [2,1,1,3]) rfl rfl ?_ (by kernel_rfl);refine pu_ 2 24 (tf 4 3) rfl rfl ?_ (by kernel_rfl);refine one_ (i:=4) (N:=some 26) (tf 5 2) rfl rfl (by kernel_rfl) (by decide) (fun K hK=>?_);refine goes_ Try.func72 (by kernel_rfl) rfl #[.pointer (some ⟨g,0,none⟩),.int .i64 2] (by rfl) rfl rfl (by(try simp only [List.map_toArray,List.map_cons,List.map_nil]);first|done|rfl|(simp only [List.length_drop,List.length_take];rfl)) ?_;with_reducible refine(spec_l01Next.calls g s0_0 x10_7 x11_7 2 t42 t46 t47 w0 _ ?side1 ?side2 A31.1).mono ?_
       (case side1=>exact vY84 HI1.1)
       (case side2=>exact vZ84 HB.1 HI1.1)
       rintro e w45 ⟨rfl,hi,hb,hk⟩;refine⟨_,rfl,?_⟩;replace HO_8:=ak (vA84 (show IsS84 w0 _ g s0_0 x10_7 x11_7 from vY84 HI1.1) (vr HO_8.1) hk);replace HO_3:=ak (vA84 (show IsS84 w0 _ g s0_0 x10_7 x11_7 from vY84 HI1.1) (vr HO_3.1) hk);replace HO_15:=ak (vA84 (show IsS84 w0 _ g s0_0 x10_7 x11_7 from vY84 HI1.1) (vr HO_15.1) hk);replace HO_16:=ak (vA84 (show IsS84 w0 _ g s0_0 x10_7 x11_7 from vY84 HI1.1) (vr HO_16.1) hk)
       replace HO_17:=ak (vA84 (show IsS84 w0 _ g s0_0 x10_7 x11_7 from vY84 HI1.1) (vr HO_17.1) hk);replace BK0:=kk hk BK0 NB0_1;replace BK2:=kk hk BK2 NB2_1;replace HK:=ak (KeepBut.trans (vL HK.1) hk (.inl rfl));replace HB:=ak (hb);replace HI1:=ak (hi);(try clear hb)
       (try clear hb2)
       (try clear hk)
       (try clear hi)
       refine hK.out _ _ (cy6 BK2.1) (fun hHeld=>?_);clear hK K;refine norm_ (a':=?_) ?_ ?_
       rotate_left
       ·show Act.put _ (some 26) _=_
        simp only [Act.put,List.setIfInBounds_toArray,List.set_cons_zero,List.set_cons_succ,i64_w,i32_w]
        rfl
       refine pu_ 5 27 (tf 6 1) rfl rfl ?_ (by kernel_rfl);refine pu_ 6 28 (tf 7 0) rfl rfl ?_ (by kernel_rfl);refine done_ (by kernel_rfl) ?_;have:=NB2_0.1;have:=NB0_2.1;have:=NB2_1.1;have:=NB1_2.1;have hcz69:=cz6 BK2.1;obtain⟨Ao27,co27,rfl⟩:=Kd.R_slice HO_8.1;have:=NB0_1.1;have:=NB1_0.1;have hcz70:=cz6 BK0.1;(try go_wp2)
       refine bodyPost_ret (results_cell_row rfl _ _ gb0 28 (f5 Ao27 x8_9 co27 Ao21 x3_7 co21 Ao4 t12 co4 Ao5 t13 co5 Ao6 t14 co6 t19) (0,0) _ rfl (vz BK0.1) Try.underlying28 rfl (by kernel_rfl)) rfl ?_;exact⟨_,_,_,_,_,ew,tQ6 HO_8 BK0,tQ6 HO_3 BK0,sQ6 HO_15 BK0,sQ6 HO_16 BK0,sQ6 HO_17 BK0,vY84 HI1.1,vZ84 HB.1 HI1.1,vL HK.1⟩
   ·rw [if_neg c29] at H;obtain⟨c29b0,c29b1⟩:=bqf c29;simp only [Option.some.injEq,Prod.mk.injEq] at H
    obtain⟨rfl,rfl,rfl,rfl,rfl,rfl,rfl,rfl⟩:=H;go_wp2_with (first|((with_reducible refine at_fn (f:=72) rfl ?_);refine gl (some 20) Try.func72 #[.pointer (some ⟨g,0,none⟩),.int .i64 30] ?_;(with_reducible refine(spec_l01Next.calls g s0_0 x10_9 x11_9 30 t41 t57 t58 w0 _ ?side1 ?side2 A28.1).mono ?_);(case side1=>exact vY84 HI1.1);(case side2=>exact vZ84 HB.1 HI1.1);rintro e w52 ⟨rfl,hi,hb,hk⟩;refine⟨_,rfl,?_⟩;replace HO_8:=ak (vA84 (show IsS84 w0 _ g s0_0 x10_9 x11_9 from vY84 HI1.1) (vr HO_8.1) hk);replace HO_3:=ak (vA84 (show IsS84 w0 _ g s0_0 x10_9 x11_9 from vY84 HI1.1) (vr HO_3.1) hk);replace HO_15:=ak (vA84 (show IsS84 w0 _ g s0_0 x10_9 x11_9 from vY84 HI1.1) (vr HO_15.1) hk);replace HO_16:=ak (vA84 (show IsS84 w0 _ g s0_0 x10_9 x11_9 from vY84 HI1.1) (vr HO_16.1) hk);replace HO_17:=ak (vA84 (show IsS84 w0 _ g s0_0 x10_9 x11_9 from vY84 HI1.1) (vr HO_17.1) hk);replace BK0:=kk hk BK0 NB0_1;replace BK2:=kk hk BK2 NB2_1;replace HK:=ak (KeepBut.trans (vL HK.1) hk (.inl rfl));replace HB:=ak (hb);replace HI1:=ak (hi);(try clear hb);(try clear hk);(try clear hi);have:=NB2_0.1;have:=NB0_2.1;have:=NB2_1.1;have:=NB1_2.1;have hcz71:=cz6 BK2.1;obtain⟨Ao28,co28,rfl⟩:=Kd.R_slice HO_8.1;have:=NB0_1.1;have:=NB1_0.1;have hcz72:=cz6 BK0.1))
    refine bodyPost_ret (results_cell_row rfl _ _ gb0 28 (f5 Ao28 x8_9 co28 Ao18 t22 co18 Ao4 t12 co4 Ao5 t13 co5 Ao6 t14 co6 t19) (0,0) _ rfl (vz BK0.1) Try.underlying28 rfl (by kernel_rfl)) rfl ?_;exact⟨_,_,_,_,_,ew,tQ6 HO_8 BK0,tQ6 HO_3 BK0,sQ6 HO_15 BK0,sQ6 HO_16 BK0,sQ6 HO_17 BK0,vY84 HI1.1,vZ84 HB.1 HI1.1,vL HK.1⟩
def spec_l01From.l0:Nat→List Int→Int→List Int→Int→Int→Option (List Int×Int×Int)
 |0,_,_,_,_,_=>none
 |k+1,x4,x2,x6,x7,x5=>if x2<(x4.length:Int) then (if x2<64 then (if 0≤x2 then (spec_l01From.l0 k x4 (wrap64 (x2+1)) x6 x7 (Int.tmod (wrap64 ((wrap64 (x5*83))+(wrap64 (rd x4 x2)))) 2147483647)) else (none)) else (some (x6,x7,x5))) else (some (x6,x7,x5))
def spec_l01From.f (k:Nat) (l0:List Int):Option (List Int×Int×Int):=spec_l01From.l0 k l0 0 l0 0 61043
def spec_l01From.T5:Bool×List (List Nat×List Nat):=(true,[([],[]),([],[]),([1],[1]),([2],[2]),([3],[3]),([4],[4]),([],[]),([],[]),([6,7],[6,7]),([8],[8]),([9],[9]),([5,10],[5,10]),([11],[11]),([0,0,1,2,3,4,5,6,7,8,9,10,11,12],[0]),([13,0,1,2,3,4,5,6,7,8,9,10,11,12],[13]),([14,12,0,1,2,3,4,5,6,7,8,9,10,11,12],[12,14])])
def spec_l01From.B5:List Nat:=[0,0,2,6,14,30,0,0,192,448,960,2046,4094,8191,16383,32767]
theorem spec_l01From.tab5:rtab .any (opsOf Try.f44 5)=spec_l01From.T5:=by kernel_rfl
theorem spec_l01From.bits5:waitsOk spec_l01From.T5.2 spec_l01From.B5=true:=by kernel_rfl
theorem spec_l01From.calls (k:Nat) (A0:Option Addr) (c0:Nat) (l0:List Int) (r1:List Int) (r2:Int) (r3:Int) (w0 w:World) (hB:Below w0.heap.size w0 w) (hr0:Kd.C (Kd.int .u8) w0 A0 l0.length l0) (hc0:l0.length≤c0) (h:spec_l01From.f k l0=some (r1,r2,r3)):
  Calls Try.prog 44 #[.slice A0 l0.length c0] w fun e w'=>∃g_:Nat,e=.returned (.pointer (some ⟨g_,0,none⟩))∧IsS84 w0 w' g_ r1 r2 r3∧Below w0.heap.size w0 w'∧Below w.heap.size w w':=by
 have hu84:=Try.underlying84;have HR0:=ak hr0;have HC0:=ak hc0;clear hr0 hc0;have HBW:=ak (Below.refl w.heap.size w);have HW4:=ak hB.size;have HB:=ak hB;clear hB;unfold spec_l01From.f at h;have H:=h;clear h;have H':=ak H;clear H;go_enter Try.func44,Try.ntmps44;go_wp2_with (first|((with_reducible refine gate_dst (N:=7) rfl ?_);refine bx 7 #[.slice A0 l0.length c0,.int .i64 0,.int .i64 61043] 84 ?_;intro gb0 hg w2 hbox hb;replace HB:=bs HB hb;have BK0:=ak hbox;have GW432:=ak ((by rw [hg];exact(below_size (vb HBW.1)):w.heap.size≤gb0));have GE0:=ak ((Nat.le_trans HW4.1 (by rw [hg];exact(below_size (vb HBW.1)):w.heap.size≤gb0):w0.heap.size≤gb0));replace HBW:=ak (below_step HBW.1 hb);clear hb hbox hg))
 go_loopg [4] k (fun kq v2 w'=>∃(x2_1:Int) (x5_1:Int),v2=.int .i64 x2_1∧Aside0 (spec_l01From.l0 kq l0 x2_1 l0 0 x5_1=some (r1,r2,r3))∧Aside0 (kq≤k)∧Aside0 (w'.heap[gb0]? =some (.cells #[(.slice A0 l0.length c0),.int .i64 0,.int .i64 x5_1] 84 (0,0)))∧Aside0 (Below w0.heap.size w0 w')∧Aside0 (Below w.heap.size w w'))
 case atStart=>exact⟨(0),(61043),es,H',⟨Nat.le_refl _⟩,⟨vk BK0.1⟩,⟨vb HB.1⟩,⟨vb HBW.1⟩⟩
 case round=>
  clear H';obtain⟨x2_1,x5_1,rfl,HA,HK1,BK0,HB,HBW⟩:=hrel
  cases gk with
  |zero=>exact absurd HA.1 (by simp [spec_l01From.l0])
  |succ k1=>
   have H:=HA.1;clear HA;simp only [spec_l01From.l0] at H
   by_cases c3:x2_1<(l0.length:Int)
   ·rw [if_pos c3] at H;have c3b0:=decide_eq_true c3;clear c3;by_cases c4:x2_1<64
    ·rw [if_pos c4] at H;have c4b0:=decide_eq_true c4;clear c4;by_cases c5:0≤x2_1
     ·rw [if_pos c5] at H;have c5b0:=decide_eq_true c5;clear c5;have H':=ak H;clear H;(try go_wp2)
      have n0_:=ak (blk_drew BK0.1);have n1_:=ak (below_drew1 HB.1);replace HBW:=ak (below_drew1 HBW.1);clear BK0;clear HB;have BK0:=n0_;have HB:=n1_;clear n0_ n1_;have p3:0≤(x2_1:Int):=od;have q3:x2_1<(l0.length:Int):=od;obtain⟨ad3,e3,hx3_4⟩:=Kd.at_int HR0.1 x2_1 p3 q3;have hw3_4:=hx3_4
      cases e3;replace hx3_4:=pw_cell_below HB.1 hx3_4;replace p3:=eq_true p3;replace q3:=eq_true q3;refine start_ (n:=16) (S:=fun w'=>w'.cell? ⟨gb0,0,none⟩=some (.slice (some ad3) l0.length c0)∧w'.cell? ⟨gb0,1,none⟩=some (.int .i64 0)∧w'.cell? ⟨gb0,2,none⟩=some (.int .i64 x5_1)∧w'.cell? (ad3.add (x2_1).toNat)=some (.int .u8 (rd l0 x2_1))) (ds:=[15]) (tf 0 16) (by kernel_rfl) rfl rfl ⟨bk BK0.1 0,bk BK0.1 1,bk BK0.1 2,((HB.1.cell (World.block_lt_of_cell? w0 _ hw3_4)).trans hw3_4)⟩ (fun hHeld=>?_);refine with_tabW spec_l01From.tab5 spec_l01From.bits5 (fun HT_ HW_=>?_);generalize wr.drew=w6 at BK0 HB HBW hx3_4 hHeld ⊢;refine pu_ 0 18 (tf 1 15) rfl rfl ?_;refine pu_ 1 19 (tf 2 14) rfl rfl ?_;refine pu_ 2 20 (tf 3 13) rfl rfl ?_;refine pu_ 3 21 (tf 4 12) rfl rfl ?_;refine pu_ 6 24 (tM [4,2,1,9]) rfl rfl ?_;refine pu_ 7 25 (tM [4,2,2,8]) rfl rfl ?_;refine pu_ 8 26 (tM [4,2,3,7]) rfl rfl ?_;refine ta4_ 4 22 (tM [5,1,3,7]) rfl rfl ?_;refine pu_ 5 23 (tf 9 7) rfl rfl ?_
      refine ta4_ 9 27 (tf 10 6) rfl rfl ?_;refine pu_ 10 28 (tf 11 5) rfl rfl ?_;refine pu_ 11 29 (tf 12 4) rfl rfl ?_;refine pu_ 12 30 (tf 13 3) rfl rfl ?_;refine pu_ 13 31 (tf 14 2) rfl rfl ?_;refine pu_ 14 32 (tf 15 1) rfl rfl ?_;refine last_ (i:=15) (N:=none) (tf 16 0) rfl rfl (one_of HT_.1 (by kernel_rfl)) (by decide) (fun K hK=>?_);have hs7:w6.cell? ⟨gb0,2,none⟩=some (.int .i64 x5_1):=bk BK0.1 2;have hfs7:=blk_frozen BK0.1 2;refine skip_ (w1:=?_) (by rfl) rfl ?_ ?_
      rotate_left
      ·go_simp
       rfl
      refine hK.out _ _ ?_;clear hK K;refine done_ (done_of HT_.1 (by kernel_rfl)) ?_;(try go_wp2)
      go_roundg k1
      case measure=>have:=HK1.1;omega
      case rel=>exact⟨(wrap64 (x2_1+1)),(Int.tmod (wrap64 ((wrap64 (x5_1*83))+(wrap64 (rd l0 x2_1)))) 2147483647),es,H',⟨by have:=HK1.1;omega⟩,⟨by(with_reducible repeat (first|refine blk_drewN ?_ _|refine blk_drew ?_|refine blk_alloc ?_ _));refine blk_put (cs:=#[.slice (some ad3) l0.length c0,.int .i64 0,.int .i64 x5_1]) ?_ 2 _ rfl;exact vk BK0.1⟩,⟨vb HB.1⟩,⟨vb HBW.1⟩⟩
     ·exact nO_ c5 H
    ·rw [if_neg c4] at H;have c4b0:=decide_eq_false c4;clear c4;simp only [Option.some.injEq,Prod.mk.injEq] at H
     obtain⟨rfl,rfl,rfl⟩:=H;go_wp2
     go_ret
     exact⟨_,rfl,(show IsS84 w0 _ gb0 l0 0 x5_1 from⟨_,_,vk BK0.1,GE0.1,HR0.1⟩),vb HB.1,vb HBW.1⟩
   ·rw [if_neg c3] at H;have c3b0:=decide_eq_false c3;clear c3;simp only [Option.some.injEq,Prod.mk.injEq] at H
    obtain⟨rfl,rfl,rfl⟩:=H;go_wp2
    go_ret
    exact⟨_,rfl,(show IsS84 w0 _ gb0 l0 0 x5_1 from⟨_,_,vk BK0.1,GE0.1,HR0.1⟩),vb HB.1,vb HBW.1⟩
def laws_likeInts.l0:Nat→List Int→List Int→Int→Option (Bool)
 |0,_,_,_=>none
 |k+1,x4,x1,x0=>if x0<(x4.length:Int) then (if 0≤x0 then (if x0<(x1.length:Int) then (if (rd x4 x0)=(rd x1 x0) then (laws_likeInts.l0 k x4 x1 (wrap64 (x0+1))) else (some false)) else (none)) else (none)) else (some true)
def laws_likeInts.f (k:Nat) (l0:List Int) (l1:List Int):Option (Bool):=if (l0.length:Int)=(l1.length:Int) then (laws_likeInts.l0 k l0 l1 0) else (some false)
theorem laws_likeInts.calls (k:Nat) (A0:Option Addr) (c0:Nat) (l0:List Int) (A1:Option Addr) (c1:Nat) (l1:List Int) (r:Bool) (w:World) (hr0:Kd.C (Kd.int .i64) w A0 l0.length l0) (hc0:l0.length≤c0) (hr1:Kd.C (Kd.int .i64) w A1 l1.length l1) (hc1:l1.length≤c1) (h:laws_likeInts.f k l0 l1=some r):
  Calls Try.prog 21 #[.slice A0 l0.length c0,.slice A1 l1.length c1] w fun e w'=>e=.returned (.bool r)∧Drawn0 w w':=by
 have HR0:=ak hr0;have HC0:=ak hc0;clear hr0 hc0;have HR1:=ak hr1;have HC1:=ak hc1;clear hr1 hc1;unfold laws_likeInts.f at h;have H:=h;clear h;by_cases c3:(l0.length:Int)=(l1.length:Int)
 ·rw [if_pos c3] at H;obtain⟨c3b0,c3b1⟩:=bqt c3;have c3b2:(l0.length==l1.length)=true:=by first|simpa using c3|(simp at c3 ⊢;omega)
  clear c3;have H':=ak H;clear H;go_enter Try.func21,Try.ntmps21;go_wp2
  repeat (go_quiet (fail);try go_wp2)
  go_loopg [5] k (fun kq v0 w'=>∃(x0_1:Int),v0=.int .i64 x0_1∧Aside0 (laws_likeInts.l0 kq l0 l1 x0_1=some r)∧Aside0 (kq≤k)∧Drawn0 w w')
  case atStart=>exact⟨(0),es,H',⟨Nat.le_refl _⟩,by repeat (first|exact Drawn0.refl _|apply Drawn0.step)⟩
  case round=>
   clear H';obtain⟨x0_1,rfl,HA,HK1,⟨m1,rfl⟩⟩:=hrel
   cases gk with
   |zero=>exact absurd HA.1 (by simp [laws_likeInts.l0])
   |succ k1=>
    have H:=HA.1;clear HA;simp only [laws_likeInts.l0] at H
    by_cases c4:x0_1<(l0.length:Int)
    ·rw [if_pos c4] at H;have c4b0:=decide_eq_true c4;clear c4;by_cases c5:0≤x0_1
     ·rw [if_pos c5] at H;have c5b0:=decide_eq_true c5;clear c5;by_cases c6:x0_1<(l1.length:Int)
      ·rw [if_pos c6] at H;have c6b0:=decide_eq_true c6;clear c6;by_cases c7:(rd l0 x0_1)=(rd l1 x0_1)
       ·rw [if_pos c7] at H;obtain⟨c7b0,c7b1⟩:=bqt c7;clear c7;have H':=ak H;clear H;have p2:0≤(x0_1:Int):=od;have q2:x0_1<(l0.length:Int):=od;obtain⟨ad2,e2,hx2_4⟩:=Kd.at_int HR0.1 x0_1 p2 q2
        cases e2;replace p2:=eq_true p2;replace q2:=eq_true q2;have p3:0≤(x0_1:Int):=od;have q3:x0_1<(l1.length:Int):=od;obtain⟨ad3,e3,hx3_4⟩:=Kd.at_int HR1.1 x0_1 p3 q3
        cases e3;replace p3:=eq_true p3;replace q3:=eq_true q3;go_wp2
        repeat (go_quiet (fail);try go_wp2)
        go_roundg k1
        case measure=>have:=HK1.1;omega
        case rel=>exact⟨(wrap64 (x0_1+1)),es,H',⟨by have:=HK1.1;omega⟩,by repeat (first|exact Drawn0.refl _|apply Drawn0.step)⟩
       ·rw [if_neg c7] at H;obtain⟨c7b0,c7b1⟩:=bqf c7;obtain rfl:=sj H;have p2:0≤(x0_1:Int):=od;have q2:x0_1<(l0.length:Int):=od;obtain⟨ad2,e2,hx2_4⟩:=Kd.at_int HR0.1 x0_1 p2 q2
        cases e2;replace p2:=eq_true p2;replace q2:=eq_true q2;have p3:0≤(x0_1:Int):=od;have q3:x0_1<(l1.length:Int):=od;obtain⟨ad3,e3,hx3_4⟩:=Kd.at_int HR1.1 x0_1 p3 q3
        cases e3;replace p3:=eq_true p3;replace q3:=eq_true q3;go_wp2
        repeat (go_quiet (fail);try go_wp2)
        go_ret
        exact⟨by first|rfl|(simp;done)|(simp [*];done),by repeat (first|exact Drawn0.refl _|apply Drawn0.step)⟩
      ·exact nO_ c6 H
     ·exact nO_ c5 H
    ·rw [if_neg c4] at H;have c4b0:=decide_eq_false c4;clear c4;obtain rfl:=sj H;go_wp2
     repeat (go_quiet (fail);try go_wp2)
     go_ret
     exact⟨by first|rfl|(simp;done)|(simp [*];done),by repeat (first|exact Drawn0.refl _|apply Drawn0.step)⟩
 ·rw [if_neg c3] at H;obtain⟨c3b0,c3b1⟩:=bqf c3;have c3b2:(l0.length==l1.length)=false:=by first|simpa using c3|(simp at c3 ⊢;omega)
  obtain rfl:=sj H;go_enter Try.func21,Try.ntmps21;go_wp2
  repeat (go_quiet (fail);try go_wp2)
  go_ret
  exact⟨by first|rfl|(simp;done)|(simp [*];done),by repeat (first|exact Drawn0.refl _|apply Drawn0.step)⟩
def laws_hasInt.l0:Nat→List Int→Int→Int→Option (Bool)
 |0,_,_,_=>none
 |k+1,x3,x2,x1=>if x1<(x3.length:Int) then (if 0≤x1 then (if (rd x3 x1)=x2 then (some true) else (laws_hasInt.l0 k x3 x2 (wrap64 (x1+1)))) else (none)) else (some false)
def laws_hasInt.f (k:Nat) (l0:List Int) (a1:Int):Option (Bool):=laws_hasInt.l0 k l0 a1 0
theorem laws_hasInt.calls (k:Nat) (A0:Option Addr) (c0:Nat) (l0:List Int) (a1:Int) (r:Bool) (w:World) (hr0:Kd.C (Kd.int .i64) w A0 l0.length l0) (hc0:l0.length≤c0) (h:laws_hasInt.f k l0 a1=some r):
  Calls Try.prog 22 #[.slice A0 l0.length c0,.int .i64 a1] w fun e w'=>e=.returned (.bool r)∧Drawn0 w w':=by
 have HR0:=ak hr0;have HC0:=ak hc0;clear hr0 hc0;unfold laws_hasInt.f at h;have H:=h;clear h;have H':=ak H;clear H;go_enter Try.func22,Try.ntmps22;go_wp2
 go_loopg [5] k (fun kq v1 w'=>∃(x1_2:Int),v1=.int .i64 x1_2∧Aside0 (laws_hasInt.l0 kq l0 a1 x1_2=some r)∧Aside0 (kq≤k)∧Drawn0 w w')
 case atStart=>exact⟨(0),es,H',⟨Nat.le_refl _⟩,by repeat (first|exact Drawn0.refl _|apply Drawn0.step)⟩
 case round=>
  clear H';obtain⟨x1_2,rfl,HA,HK1,⟨m2,rfl⟩⟩:=hrel
  cases gk with
  |zero=>exact absurd HA.1 (by simp [laws_hasInt.l0])
  |succ k1=>
   have H:=HA.1;clear HA;simp only [laws_hasInt.l0] at H
   by_cases c3:x1_2<(l0.length:Int)
   ·rw [if_pos c3] at H;have c3b0:=decide_eq_true c3;clear c3;by_cases c4:0≤x1_2
    ·rw [if_pos c4] at H;have c4b0:=decide_eq_true c4;clear c4;by_cases c5:(rd l0 x1_2)=a1
     ·rw [if_pos c5] at H;obtain⟨c5b0,c5b1⟩:=bqt c5;clear c5;obtain rfl:=sj H;have p0:0≤(x1_2:Int):=od;have q0:x1_2<(l0.length:Int):=od;obtain⟨ad0,e0,hx0_3⟩:=Kd.at_int HR0.1 x1_2 p0 q0
      cases e0;replace p0:=eq_true p0;replace q0:=eq_true q0;go_wp2
      go_ret
      exact⟨by first|rfl|(simp;done)|(simp [*];done),by repeat (first|exact Drawn0.refl _|apply Drawn0.step)⟩
     ·rw [if_neg c5] at H;obtain⟨c5b0,c5b1⟩:=bqf c5;have H':=ak H;clear H;have p0:0≤(x1_2:Int):=od;have q0:x1_2<(l0.length:Int):=od;obtain⟨ad0,e0,hx0_3⟩:=Kd.at_int HR0.1 x1_2 p0 q0
      cases e0;replace p0:=eq_true p0;replace q0:=eq_true q0;go_wp2
      go_roundg k1
      case measure=>have:=HK1.1;omega
      case rel=>exact⟨(wrap64 (x1_2+1)),es,H',⟨by have:=HK1.1;omega⟩,by repeat (first|exact Drawn0.refl _|apply Drawn0.step)⟩
    ·exact nO_ c4 H
   ·rw [if_neg c3] at H;have c3b0:=decide_eq_false c3;clear c3;obtain rfl:=sj H;go_wp2
    go_ret
    exact⟨by first|rfl|(simp;done)|(simp [*];done),by repeat (first|exact Drawn0.refl _|apply Drawn0.step)⟩
end Go.Proofs.Ytiblahniohjbbaa.Pall
