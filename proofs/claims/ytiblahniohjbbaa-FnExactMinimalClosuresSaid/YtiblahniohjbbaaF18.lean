/- Go functions of the program, each as a Lean function, and the proof that each call comes to what the Lean function tells; no condition beyond those that stand there. -/
import Derived.Test.YtiblahniohjbbaaF0e
import Derived.Test.YtiblahniohjbbaaSq
import Derived.Test.YtiblahniohjbbaaWGuard
import Derived.Test.YtiblahniohjbbaaCm9
import Derived.StillTailTactics
import Derived.IntWalk
import Derived.Lib.Hide
namespace Go.Proofs.Ytiblahniohjbbaa.Pall
set_option maxRecDepth 100000
set_option maxHeartbeats 8000000
open Go.RowKit Go.Proofs.YtiblahniohjbbaaW.PrintWords Go.Proofs.YtiblahniohjbbaaW.PrintLast
set_option linter.unusedVariables false
set_option linter.unusedSimpArgs false
def laws_szDemandS.f (l0:List (S95)) (a1:Int):Option (Int):=if (wrap64 (a1-(l0.length:Int)))<0 then (some (-1)) else (some (wrap64 (a1-(l0.length:Int))))
theorem laws_szDemandS.calls (A0:Option Addr) (c0:Nat) (l0:List (S95)) (a1:Int) (r:Int) (w:World) (hr0:Kd.C k95 w A0 l0.length l0) (hc0:l0.length≤c0) (h:laws_szDemandS.f l0 a1=some r):
  Calls Try.prog 58 #[.slice A0 l0.length c0,.int .i64 a1] w fun e w'=>e=.returned (.int .i64 r)∧Drawn0 w w':=by
 have HR0:=ak hr0;have HC0:=ak hc0;clear hr0 hc0;unfold laws_szDemandS.f at h;have H:=h;clear h;by_cases c3:(wrap64 (a1-(l0.length:Int)))<0
 rw [if_pos c3] at H;have c3b0:=decide_eq_true c3;clear c3;obtain rfl:=sj H;rotate_left
 rw [if_neg c3] at H;have c3b0:=decide_eq_false c3;clear c3;obtain rfl:=sj H;rotate_left
 all_goals
  go_enter Try.func58,Try.ntmps58;go_wp2
  go_ret
  exact⟨by first|rfl|(simp;done)|(simp [*];done),by repeat (first|exact Drawn0.refl _|apply Drawn0.step)⟩
def laws_szAreaS.f (l0:List (S98)) (a1:Int):Option (Int):=if (wrap64 (a1-(l0.length:Int)))<0 then (some (-1)) else (some (wrap64 (a1-(l0.length:Int))))
theorem laws_szAreaS.calls (A0:Option Addr) (c0:Nat) (l0:List (S98)) (a1:Int) (r:Int) (w:World) (hr0:Kd.C k98 w A0 l0.length l0) (hc0:l0.length≤c0) (h:laws_szAreaS.f l0 a1=some r):
  Calls Try.prog 59 #[.slice A0 l0.length c0,.int .i64 a1] w fun e w'=>e=.returned (.int .i64 r)∧Drawn0 w w':=by
 have HR0:=ak hr0;have HC0:=ak hc0;clear hr0 hc0;unfold laws_szAreaS.f at h;have H:=h;clear h;by_cases c3:(wrap64 (a1-(l0.length:Int)))<0
 rw [if_pos c3] at H;have c3b0:=decide_eq_true c3;clear c3;obtain rfl:=sj H;rotate_left
 rw [if_neg c3] at H;have c3b0:=decide_eq_false c3;clear c3;obtain rfl:=sj H;rotate_left
 all_goals
  go_enter Try.func59,Try.ntmps59;go_wp2
  go_ret
  exact⟨by first|rfl|(simp;done)|(simp [*];done),by repeat (first|exact Drawn0.refl _|apply Drawn0.step)⟩
def laws_szInt64S.f (l0:List Int) (a1:Int):Option (Int):=if (wrap64 (a1-(l0.length:Int)))<0 then (some (-1)) else (some (wrap64 (a1-(l0.length:Int))))
theorem laws_szInt64S.calls (A0:Option Addr) (c0:Nat) (l0:List Int) (a1:Int) (r:Int) (w:World) (hr0:Kd.C (Kd.int .i64) w A0 l0.length l0) (hc0:l0.length≤c0) (h:laws_szInt64S.f l0 a1=some r):
  Calls Try.prog 60 #[.slice A0 l0.length c0,.int .i64 a1] w fun e w'=>e=.returned (.int .i64 r)∧Drawn0 w w':=by
 have HR0:=ak hr0;have HC0:=ak hc0;clear hr0 hc0;unfold laws_szInt64S.f at h;have H:=h;clear h;by_cases c3:(wrap64 (a1-(l0.length:Int)))<0
 rw [if_pos c3] at H;have c3b0:=decide_eq_true c3;clear c3;obtain rfl:=sj H;rotate_left
 rw [if_neg c3] at H;have c3b0:=decide_eq_false c3;clear c3;obtain rfl:=sj H;rotate_left
 all_goals
  go_enter Try.func60,Try.ntmps60;go_wp2
  go_ret
  exact⟨by first|rfl|(simp;done)|(simp [*];done),by repeat (first|exact Drawn0.refl _|apply Drawn0.step)⟩
def laws_szField.f (l0_0:List (S95)) (l0_1:List (S98)) (l0_2:List Int) (l0_3:List Int) (l0_4:List Int) (a0_5:Int) (a1:Int):Option (Int):=(laws_szDemandS.f l0_0 a1).bind fun t0=>(if t0<0 then (some (-1)) else ((laws_szAreaS.f l0_1 t0).bind fun t1=>(if t1<0 then (some (-1)) else ((laws_szInt64S.f l0_2 t1).bind fun t2=>(if t2<0 then (some (-1)) else ((laws_szInt64S.f l0_3 t2).bind fun t3=>(if t3<0 then (some (-1)) else ((laws_szInt64S.f l0_4 t3).bind fun t4=>(if t4<0 then (some (-1)) else (some t4))))))))))
theorem laws_szField.calls (A0_0:Option Addr) (c0_0:Nat) (l0_0:List (S95)) (A0_1:Option Addr) (c0_1:Nat) (l0_1:List (S98)) (A0_2:Option Addr) (c0_2:Nat) (l0_2:List Int) (A0_3:Option Addr) (c0_3:Nat) (l0_3:List Int) (A0_4:Option Addr) (c0_4:Nat) (l0_4:List Int) (a0_5:Int) (a1:Int) (r:Int) (w:World) (hr0_0:Kd.C k95 w A0_0 l0_0.length l0_0) (hc0_0:l0_0.length≤c0_0) (hr0_1:Kd.C k98 w A0_1 l0_1.length l0_1) (hc0_1:l0_1.length≤c0_1) (hr0_2:Kd.C (Kd.int .i64) w A0_2 l0_2.length l0_2) (hc0_2:l0_2.length≤c0_2) (hr0_3:Kd.C (Kd.int .i64) w A0_3 l0_3.length l0_3) (hc0_3:l0_3.length≤c0_3) (hr0_4:Kd.C (Kd.int .i64) w A0_4 l0_4.length l0_4) (hc0_4:l0_4.length≤c0_4) (h:laws_szField.f l0_0 l0_1 l0_2 l0_3 l0_4 a0_5 a1=some r):
  Calls Try.prog 24 #[.agg (f5 A0_0 l0_0 c0_0 A0_1 l0_1 c0_1 A0_2 l0_2 c0_2 A0_3 l0_3 c0_3 A0_4 l0_4 c0_4 a0_5),.int .i64 a1] w fun e w'=>e=.returned (.int .i64 r)∧Below w.heap.size w w':=by
 have hu47:=Try.underlying47;have HR0_0:=ak hr0_0;have HC0_0:=ak hc0_0;clear hr0_0 hc0_0;have HR0_1:=ak hr0_1;have HC0_1:=ak hc0_1;clear hr0_1 hc0_1;have HR0_2:=ak hr0_2;have HC0_2:=ak hc0_2;clear hr0_2 hc0_2;have HR0_3:=ak hr0_3;have HC0_3:=ak hc0_3;clear hr0_3 hc0_3;have HR0_4:=ak hr0_4;have HC0_4:=ak hc0_4;clear hr0_4 hc0_4;have HB:=ak (Below.refl w.heap.size w);unfold laws_szField.f at h;have H:=h;clear h;obtain⟨t0,A3,H⟩:=bnk H;by_cases c4:t0<0
 rw [if_pos c4] at H;have c4b0:=decide_eq_true c4;clear c4;obtain rfl:=sj H;rotate_left
 rw [if_neg c4] at H;have c4b0:=decide_eq_false c4;clear c4;obtain⟨t1,A7,H⟩:=bnk H;by_cases c8:t1<0
 rw [if_pos c8] at H;have c8b0:=decide_eq_true c8;clear c8;obtain rfl:=sj H;rotate_left
 rw [if_neg c8] at H;have c8b0:=decide_eq_false c8;clear c8;obtain⟨t2,A11,H⟩:=bnk H;by_cases c12:t2<0
 rw [if_pos c12] at H;have c12b0:=decide_eq_true c12;clear c12;obtain rfl:=sj H;rotate_left
 rw [if_neg c12] at H;have c12b0:=decide_eq_false c12;clear c12;obtain⟨t3,A15,H⟩:=bnk H;by_cases c16:t3<0
 rw [if_pos c16] at H;have c16b0:=decide_eq_true c16;clear c16;obtain rfl:=sj H;rotate_left
 rw [if_neg c16] at H;have c16b0:=decide_eq_false c16;clear c16;obtain⟨t4,A19,H⟩:=bnk H;by_cases c20:t4<0
 rw [if_pos c20] at H;have c20b0:=decide_eq_true c20;clear c20;obtain rfl:=sj H;rotate_left
 rw [if_neg c20] at H;have c20b0:=decide_eq_false c20;clear c20;obtain rfl:=sj H;rotate_left
 all_goals
  go_enter Try.func24,Try.ntmps24;go_wp2_with (first|((with_reducible refine gate_dst (N:=2) rfl ?_);refine bx 2 (f5 A0_0 l0_0 c0_0 A0_1 l0_1 c0_1 A0_2 l0_2 c0_2 A0_3 l0_3 c0_3 A0_4 l0_4 c0_4 a0_5) 47 ?_;intro gb5 hg w9 hbox hb;have BK5:=ak hbox;have GW1062:=gw hg HB;have GE5:=gw hg HB;replace HB:=bs HB hb;clear hb hbox hg;have hcz6:=cz6 BK5.1)|((with_reducible refine at_fn (f:=58) rfl ?_);refine gl (some 8) Try.func58 #[.slice A0_0 l0_0.length c0_0,.int .i64 a1] ?_;(with_reducible refine(laws_szDemandS.calls _ _ l0_0 a1 t0 _ ?_ HC0_0.1 A3.1).mono ?_);exact vd HR0_0.1 HB.1;rintro e w' ⟨rfl,⟨nd,rfl⟩⟩;refine⟨_,rfl,?_⟩)|((with_reducible refine at_fn (f:=59) rfl ?_);refine gl (some 14) Try.func59 #[.slice A0_1 l0_1.length c0_1,.int .i64 t0] ?_;(with_reducible refine(laws_szAreaS.calls _ _ l0_1 t0 t1 _ ?_ HC0_1.1 A7.1).mono ?_);exact vd HR0_1.1 (vb HB.1);rintro e w' ⟨rfl,⟨nd,rfl⟩⟩;refine⟨_,rfl,?_⟩)|((with_reducible refine at_fn (f:=60) rfl ?_);refine gl (some 20) Try.func60 #[.slice A0_2 l0_2.length c0_2,.int .i64 t1] ?_;(with_reducible refine(laws_szInt64S.calls _ _ l0_2 t1 t2 _ ?_ HC0_2.1 A11.1).mono ?_);exact vd HR0_2.1 (vb HB.1);rintro e w' ⟨rfl,⟨nd,rfl⟩⟩;refine⟨_,rfl,?_⟩)|((with_reducible refine at_fn (f:=60) rfl ?_);refine gl (some 26) Try.func60 #[.slice A0_3 l0_3.length c0_3,.int .i64 t2] ?_;(with_reducible refine(laws_szInt64S.calls _ _ l0_3 t2 t3 _ ?_ HC0_3.1 A15.1).mono ?_);exact vd HR0_3.1 (vb HB.1);rintro e w' ⟨rfl,⟨nd,rfl⟩⟩;refine⟨_,rfl,?_⟩)|((with_reducible refine at_fn (f:=60) rfl ?_);refine gl (some 32) Try.func60 #[.slice A0_4 l0_4.length c0_4,.int .i64 t3] ?_;(with_reducible refine(laws_szInt64S.calls _ _ l0_4 t3 t4 _ ?_ HC0_4.1 A19.1).mono ?_);exact vd HR0_4.1 (vb HB.1);rintro e w' ⟨rfl,⟨nd,rfl⟩⟩;refine⟨_,rfl,?_⟩))
  go_ret
  exact⟨ew,vb HB.1⟩
def laws_roomBehind.f (a0:Int):Option (Int):=if (Int.tmod a0 6)=5 then (some 0) else (if (Int.tmod a0 3)=0 then (some 1) else (some a0))
theorem laws_roomBehind.calls (a0:Int) (r:Int) (w:World) (h:laws_roomBehind.f a0=some r):
  Calls Try.prog 70 #[.int .i64 a0] w fun e w'=>e=.returned (.int .i64 r)∧Drawn0 w w':=by
 unfold laws_roomBehind.f at h;have H:=h;clear h;by_cases c2:(Int.tmod a0 6)=5
 rw [if_pos c2] at H;obtain⟨c2b0,c2b1⟩:=bqt c2;clear c2;obtain rfl:=sj H;rotate_left
 rw [if_neg c2] at H;obtain⟨c2b0,c2b1⟩:=bqf c2;by_cases c3:(Int.tmod a0 3)=0
 rw [if_pos c3] at H;obtain⟨c3b0,c3b1⟩:=bqt c3;clear c3;obtain rfl:=sj H;rotate_left
 rw [if_neg c3] at H;obtain⟨c3b0,c3b1⟩:=bqf c3;obtain rfl:=sj H;rotate_left
 all_goals
  go_enter Try.func70,Try.ntmps70;go_wp2
  go_ret
  exact⟨by first|rfl|(simp;done)|(simp [*];done),by repeat (first|exact Drawn0.refl _|apply Drawn0.step)⟩
theorem room_f (n:Nat):laws_roomBehind.f (n:Int)=some ((roomN n:Nat):Int):=by
 have h6:Int.tmod (n:Int) 6=((n % 6:Nat):Int):=(Int.ofNat_tmod n 6).symm;have h3:Int.tmod (n:Int) 3=((n % 3:Nat):Int):=(Int.ofNat_tmod n 3).symm;unfold laws_roomBehind.f roomN
 rw [h6,h3];by_cases a:n % 6=5
 ·rw [if_pos (by omega),if_pos a];rfl
 ·rw [if_neg (by omega),if_neg a];by_cases b:n % 3=0
  ·rw [if_pos (by omega),if_pos b];rfl
  ·rw [if_neg (by omega),if_neg b]
mutual
def laws_toInt64Sg.j0:Nat→List Int→Bool→Option (List Int)
 |0,_,_=>none
 |k+1,x1,x10=>if x10=true then (some ([]:List Int)) else ((laws_roomBehind.f (x1.length:Int)).bind fun t14=>(if 0≤(wrap64 ((x1.length:Int)+t14)) then (if (wrap64 ((x1.length:Int)+t14):Int).toNat≤35184372088832 then (laws_toInt64Sg.l0 k x1 (List.replicate (wrap64 ((x1.length:Int)+t14):Int).toNat 0) 0) else (none)) else (none)))
def laws_toInt64Sg.l0:Nat→List Int→List Int→Int→Option (List Int)
 |0,_,_,_=>none
 |k+1,x1,x0,x4=>if x4<(x1.length:Int) then (if 0≤x4 then (if x4<(x0.length:Int) then (laws_toInt64Sg.l0 k x1 (x0.set (x4:Int).toNat (rd x1 x4)) (wrap64 (x4+1))) else (none)) else (none)) else (laws_toInt64Sg.l1 k x1 x0 (x1.length:Int))
def laws_toInt64Sg.l1:Nat→List Int→List Int→Int→Option (List Int)
 |0,_,_,_=>none
 |k+1,x1,x0,x3=>if x3<(x0.length:Int) then (if 0≤x3 then (laws_toInt64Sg.l1 k x1 (x0.set (x3:Int).toNat (-7000000000000000101)) (wrap64 (x3+1))) else (none)) else (if 0≤(x1.length:Int) then (if (x1.length:Int)≤(x0.length:Int) then (some x0) else (none)) else (none))
end
def laws_toInt64Sg.f (k:Nat) (l0:List Int) (a1:Bool):Option (List Int):=if a1=true then (laws_toInt64Sg.j0 k l0 ((l0.length:Int)==0)) else (laws_toInt64Sg.j0 k l0 false)
theorem laws_toInt64Sg.calls (k:Nat) (A0:Option Addr) (c0:Nat) (l0:List Int) (a1:Bool) (r:List Int) (w:World) (hr0:Kd.C (Kd.int .i64) w A0 l0.length l0) (hc0:l0.length≤c0) (h:laws_toInt64Sg.f k l0 a1=some r):
  Calls Try.prog 37 #[.slice A0 l0.length c0,.bool a1] w fun e w'=>∃(A_:Option Addr) (c_:Nat),e=.returned (.slice A_ (vis l0.length r.length) c_)∧Kd.R (Kd.int .i64) 2 w' w.heap.size (fun _=>True) (.slice A_ r.length c_) r∧Below w.heap.size w w':=by
 have HR0:=ak hr0;have HC0:=ak hc0;clear hr0 hc0;have HB:=ak (Below.refl w.heap.size w);unfold laws_toInt64Sg.f at h;have H:=h;clear h;have HC3:=ak H;clear H;go_enter Try.func37,Try.ntmps37;go_upto_region 1 with (fail)
 go_cut [13] (fun v10 wc=>∃(kq:Nat) (x10_2:Bool),v10=.bool x10_2∧Aside0 (laws_toInt64Sg.j0 kq l0 x10_2=some r)∧Aside0 (kq≤k)∧Aside0 (Below w.heap.size w wc))
 case first=>
  have H:=HC3.1;clear HC3;by_cases c4:a1=true
  ·subst c4;rw [if_pos rfl] at H;have H':=ak H;clear H;go_wp2
   go_meet
   case rel=>exact⟨_,(((l0.length:Int)==0)),es,H',⟨by first|omega|exact Nat.le_refl _⟩,⟨vb HB.1⟩⟩
  ·replace c4:=Bool.eq_false_iff.mpr c4;subst c4;rw [if_neg nf] at H;have H':=ak H;clear H;go_wp2
   go_meet
   case rel=>exact⟨_,(false),es,H',⟨by first|omega|exact Nat.le_refl _⟩,⟨vb HB.1⟩⟩
 case rest=>
  clear HC3;obtain⟨kq,x10_2,rfl,HA,HJ2,HB⟩:=hcut
  cases kq with
  |zero=>exact absurd HA.1 (by simp [laws_toInt64Sg.j0])
  |succ kj2=>
   have H:=HA.1;clear HA;simp only [laws_toInt64Sg.j0] at H
   by_cases c5:x10_2=true
   ·subst c5;rw [if_pos rfl] at H;obtain rfl:=sj H;go_wp2
    go_ret
    exact⟨none,0,by first|(rw [vis_zero];rfl)|(simp only [List.length_nil,vis_zero];rfl),Kd.R_nil _ _ _ _ _,vb HB.1⟩
   ·replace c5:=Bool.eq_false_iff.mpr c5;subst c5;rw [if_neg nf] at H;obtain⟨t14,A6,H⟩:=bnk H;obtain⟨ji3,hji7⟩:∃j_:Int,(wrap64 ((l0.length:Int)+t14))=j_:=⟨_,rfl⟩;replace H:(if 0≤(ji3) then (if (ji3:Int).toNat≤35184372088832 then (laws_toInt64Sg.l0 kj2 l0 (List.replicate (ji3:Int).toNat 0) 0) else (none)) else (none))=some r:=by first|(rw [hji7] at H;exact H)|(simp only [hji7] at H ⊢;exact H)
    (try rw [hji7] at A6)
    have hji7w:(IntKind.i64.wrap ((l0.length:Int)+t14))=ji3:=(i64_w _).trans hji7;by_cases c8:0≤(ji3)
    ·rw [if_pos c8] at H;have c8b0:=eq_true c8;have c8b1:decide (0≤(ji3))=true:=decide_eq_true c8;clear c8;by_cases c9:(ji3:Int).toNat≤35184372088832
     ·rw [if_pos c9] at H;have c9b0:=eq_true c9;have c9b1:decide ((ji3:Int).toNat≤35184372088832)=true:=decide_eq_true c9;clear c9;obtain⟨y11,hy11⟩:=gen_ ((List.replicate (ji3:Int).toNat 0:List Int));rw [←hy11] at H;have Ny11:=ak hy11;clear hy11;have H':=ak H;clear H;go_wp2_with (first|((with_reducible refine at_fn (f:=70) rfl ?_);refine gl (some 18) Try.func70 #[.int .i64 (l0.length:Int)] ?_;(with_reducible refine(laws_roomBehind.calls (l0.length:Int) t14 _ A6.1).mono ?_);rintro e w' ⟨rfl,⟨nd,rfl⟩⟩;refine⟨_,rfl,?_⟩)|((with_reducible refine gate_dst (N:=20) rfl ?_);(try (refine gate_guard (by rfl) ?_;dsimp only));refine Kd.R_make (Kd.int .i64) _ 2 rfl (N:=20) rfl 26 _ _ rfl ji3 rfl rfl Try.underlying26 (.int .i64 0) 8 info2 rfl (by decide) (by omega) 0 (ok:=fun _=>True) (okp:=fun _=>True) rfl (fun _ hk=>hk) trivial (od) (Nat.le_trans (Nat.mul_le_mul_right _ (od:ji3.toNat≤35184372088832)) (by omega)) (Below.refl _ _) (Nat.le_refl _) ?_;intro v19 w10 ho16 hb hg_ hnew_;clear hg_ hnew_;(first|rw [←Ny11.1] at ho16|(simp only [Int.reduceToNat] at ho16;rw [←Ny11.1] at ho16));have HO20:=ak (Kd.R_lower ho16 (below_size (vb HB.1)));replace HB:=bs HB hb;clear hb ho16))
      go_loopg [6] kj2 (fun kq v4 w'=>∃(x0_2:List Int) (x4_2:Int),v4=.int .i64 x4_2∧Aside0 (laws_toInt64Sg.l0 kq l0 x0_2 x4_2=some r)∧Aside0 (kq≤kj2)∧Aside0 (Kd.R (Kd.int .i64) 2 w' w.heap.size (fun _=>True) v19 x0_2)∧Aside0 (Below w.heap.size w w'))
      case atStart=>exact⟨(y11),(0),es,H',⟨Nat.le_refl _⟩,⟨vr HO20.1⟩,⟨vb HB.1⟩⟩
      case round=>
       clear H';obtain⟨x0_2,x4_2,rfl,HA,HK2,HO_0,HB⟩:=hrel
       cases gk with
       |zero=>exact absurd HA.1 (by simp [laws_toInt64Sg.l0])
       |succ k2=>
        have H:=HA.1;clear HA;simp only [laws_toInt64Sg.l0] at H
        by_cases c12:x4_2<(l0.length:Int)
        ·rw [if_pos c12] at H;have c12b0:=decide_eq_true c12;clear c12;by_cases c13:0≤x4_2
         ·rw [if_pos c13] at H;have c13b0:=decide_eq_true c13;clear c13;by_cases c14:x4_2<(x0_2.length:Int)
          ·rw [if_pos c14] at H;have c14b0:=decide_eq_true c14;clear c14;obtain⟨y12,hy12⟩:=gen_ ((x0_2.set (x4_2:Int).toNat (rd l0 x4_2):List Int));rw [←hy12] at H;have Ny12:=ak hy12;clear hy12;have H':=ak H;clear H;have p8:0≤(x4_2:Int):=od;have q8:x4_2<(l0.length:Int):=od;obtain⟨ad8,e8,hx8_1⟩:=Kd.at_int HR0.1 x4_2 p8 q8
           cases e8;replace hx8_1:=cb HB.1 hx8_1;replace p8:=eq_true p8;replace q8:=eq_true q8;have p6:0≤(x4_2:Int):=od;have q6:(x4_2:Int)<((x0_2.length:Int):Int):=od;obtain⟨go15,co6,eo6,gb6,gl15,cl15,HG6⟩:=Kd.R_form HO_0.1 (by omega);(first|cases eo6|(injection eo6 with ea_ en_ ec_;(first|subst ea_|(injection ea_ with ea_;subst ea_));subst ec_;clear en_))
           have GB15:=ak gb6;have GG15:=ak HG6;clear gb6 gl15 HG6;obtain⟨hx6_1,hf15_0⟩:=Kd.R_celln 0 HO_0.1 (x4_2:Int) p6 q6;replace p6:=eq_true p6;replace q6:=eq_true q6;have HP16:=Kd.R_putg HO_0.1 (x4_2:Int) (rd l0 x4_2);go_wp2_with (first|((with_reducible refine gate_store (t:=2) (p:=33) rfl ?_);refine store_event (t:=2) (p:=33) (v:=?vo_w17) (w1:=(wr.setCell ⟨go15,(x4_2:Int).toNat,none⟩ (.int .i64 (rd l0 x4_2)))) ?hg ?ho ?hn ?hr ?_;(case ho=>rfl);(case hg=>rfl);(case hn=>rfl);(case hr=>first|(go_simp;done)|(go_simp;rfl));intro w17 hw;have hg:wr.grownBy w17 (some go15):=(by rw [hw];exact HP16.2);have hp_:Kd.R (Kd.int .i64) 2 w17 w.heap.size (fun _=>True) (.slice (some ⟨go15,0,none⟩) x0_2.length co6) y12:=(by rw [hw,Ny12.1];exact HP16.1);clear HP16;replace HO_0:=ak (hp_);replace HB:=ak ((by rw [hw];exact below_set (HB.1) GB15.1:Below w.heap.size w w17));clear hg hw hp_))
           go_roundg k2
           case measure=>have:=HJ2.1;have:=HK2.1;omega
           case rel=>exact⟨(y12),(wrap64 (x4_2+1)),es,H',⟨by have:=HJ2.1;have:=HK2.1;omega⟩,⟨vr HO_0.1⟩,⟨vb HB.1⟩⟩
          ·exact nO_ c14 H
         ·exact nO_ c13 H
        ·rw [if_neg c12] at H;have c12b0:=decide_eq_false c12;clear c12;have H':=ak H;clear H;go_wp2
         go_loopg [7] k2 (fun kq v3 w'=>∃(x0_5:List Int) (x3_5:Int),v3=.int .i64 x3_5∧Aside0 (laws_toInt64Sg.l1 kq l0 x0_5 x3_5=some r)∧Aside0 (kq≤k2)∧Aside0 (Kd.R (Kd.int .i64) 2 w' w.heap.size (fun _=>True) v19 x0_5)∧Aside0 (Below w.heap.size w w'))
         case atStart=>exact⟨(x0_2),((l0.length:Int)),es,H',⟨Nat.le_refl _⟩,⟨vr HO_0.1⟩,⟨vb HB.1⟩⟩
         case round=>
          clear H';obtain⟨x0_5,x3_5,rfl,HA,HK3,HO_0,HB⟩:=hrel
          cases gk with
          |zero=>exact absurd HA.1 (by simp [laws_toInt64Sg.l1])
          |succ k3=>
           have H:=HA.1;clear HA;simp only [laws_toInt64Sg.l1] at H
           by_cases c18:x3_5<(x0_5.length:Int)
           ·rw [if_pos c18] at H;have c18b0:=decide_eq_true c18;clear c18;by_cases c19:0≤x3_5
            ·rw [if_pos c19] at H;have c19b0:=decide_eq_true c19;clear c19;obtain⟨y13,hy13⟩:=gen_ ((x0_5.set (x3_5:Int).toNat (-7000000000000000101):List Int));rw [←hy13] at H;have Ny13:=ak hy13;clear hy13;have H':=ak H;clear H;obtain⟨Ao18,co18,rfl⟩:=Kd.R_slice HO_0.1;have p7:0≤(x3_5:Int):=od;have q7:(x3_5:Int)<((x0_5.length:Int):Int):=od;obtain⟨go20,co7,eo7,gb7,gl20,cl20,HG7⟩:=Kd.R_form HO_0.1 (by omega);(first|cases eo7|(injection eo7 with ea_ en_ ec_;(first|subst ea_|(injection ea_ with ea_;subst ea_));subst ec_;clear en_))
             have GB20:=ak gb7;have GG20:=ak HG7;clear gb7 gl20 HG7;obtain⟨hx7_1,hf20_0⟩:=Kd.R_celln 0 HO_0.1 (x3_5:Int) p7 q7;replace p7:=eq_true p7;replace q7:=eq_true q7;have HP22:=Kd.R_putg HO_0.1 (x3_5:Int) (-7000000000000000101);go_wp2_with (first|((with_reducible refine gate_store (t:=2) (p:=44) rfl ?_);refine store_event (t:=2) (p:=44) (v:=?vo_w23) (w1:=(wr.setCell ⟨go20,(x3_5:Int).toNat,none⟩ (.int .i64 (-7000000000000000101)))) ?hg ?ho ?hn ?hr ?_;(case ho=>rfl);(case hg=>rfl);(case hn=>rfl);(case hr=>first|(go_simp;done)|(go_simp;rfl));intro w23 hw;have hg:wr.grownBy w23 (some go20):=(by rw [hw];exact HP22.2);have hp_:Kd.R (Kd.int .i64) 2 w23 w.heap.size (fun _=>True) (.slice (some ⟨go20,0,none⟩) x0_5.length co18) y13:=(by rw [hw,Ny13.1];exact HP22.1);clear HP22;replace HO_0:=ak (hp_);replace HB:=ak ((by rw [hw];exact below_set (HB.1) GB20.1:Below w.heap.size w w23));clear hg hw hp_))
             go_roundg k3
             case measure=>have:=HJ2.1;have:=HK2.1;have:=HK3.1;omega
             case rel=>exact⟨(y13),(wrap64 (x3_5+1)),es,H',⟨by have:=HJ2.1;have:=HK2.1;have:=HK3.1;omega⟩,⟨vr HO_0.1⟩,⟨vb HB.1⟩⟩
            ·exact nO_ c19 H
           ·rw [if_neg c18] at H;have c18b0:=decide_eq_false c18;clear c18;by_cases c24:0≤(l0.length:Int)
            ·rw [if_pos c24] at H;have c24b0:=eq_true c24;have c24b1:decide (0≤(l0.length:Int))=true:=decide_eq_true c24;clear c24;by_cases c25:(l0.length:Int)≤(x0_5.length:Int)
             ·rw [if_pos c25] at H;have c25b0:=eq_true c25;have c25b1:decide ((l0.length:Int)≤(x0_5.length:Int))=true:=decide_eq_true c25;clear c25;obtain⟨y9,hy9⟩:∃y_:List Int,y_=(x0_5.take ((l0.length:Int):Int).toNat):=⟨_,rfl⟩;have Ny9:=ak hy9;clear hy9;obtain rfl:=sj H;obtain⟨Ao17,co17,rfl⟩:=Kd.R_slice HO_0.1;have q15:((l0.length:Int):Int)≤((x0_5.length:Int):Int):=od;obtain⟨i027,hi027,_,hsz27,_⟩:=info_parts info2;have hcut27:=cut_to (P:=Try.prog) 26 2 .i64 Try.underlying26 hi027 Ao17 x0_5.length co17 (l0.length:Int) (od) q15 (Kd.R_reads' HO_0.1).2.1;have hr27:=Kd.R_take (m:=((l0.length:Int):Int).toNat) HO_0.1 (by omega);have hy15:y9.length=((l0.length:Int):Int).toNat:=(by rw [Ny9.1,List.length_take];omega);rw [←Ny9.1] at hr27;rw [←hy15] at hr27 hcut27;clear hy15 hi027 hsz27;have HO21:=ak hr27;clear hr27;replace q15:=eq_true q15;go_wp2
              go_ret
              exact⟨Ao17,co17,(by rw [show vis l0.length x0_5.length=y9.length from by rw [Ny9.1,Int.toNat_natCast,List.length_take];rfl];rfl),vr HO_0.1,vb HB.1⟩
             ·exact nO_ c25 H
            ·exact nO_ c24 H
     ·exact nO_ c9 H
    ·exact nO_ c8 H
theorem laws_toInt64S.w1 {i n:Nat} (h:i<n) (hn:n≤4000000):wrap64 ((i:Int)+1)=((i+1:Nat):Int):=by unfold wrap64;omega
theorem laws_toInt64S.l1_eval (x1:List Int) (d:Nat):∀(k:Nat) (F:List Int) (i:Nat),x1.length≤i→F.length=i+d→F.length≤4000000→d<k→
  laws_toInt64Sg.l1 k x1 F (i:Int)=some (F.take i++List.replicate d ((-7000000000000000101):Int)):=by
 induction d with
 |zero=>
  intro k F i h0 h1 h2 h3;obtain⟨k,rfl⟩:∃m,k=m+1:=⟨k-1,by omega⟩;simp only [laws_toInt64Sg.l1]
  rw [if_neg (by omega),if_pos (by omega),if_pos (by omega)];simp [List.take_of_length_le (show F.length≤i by omega)]
 |succ d ih=>
  intro k F i h0 h1 h2 h3;obtain⟨k,rfl⟩:∃m,k=m+1:=⟨k-1,by omega⟩;have e:=ih k (F.set i ((-7000000000000000101):Int)) (i+1) (by omega) (by simp;omega) (by simpa using h2) (by omega);simp only [laws_toInt64Sg.l1]
  rw [if_pos (by omega),if_pos (by omega),laws_toInt64S.w1 (n:=F.length) (by omega) h2,Int.toNat_natCast];refine Eq.trans e ?_;rw [take_succ_set F i ((-7000000000000000101):Int) (by omega),List.append_assoc];rfl
theorem laws_toInt64S.l0_eval (x1:List Int) (d:Nat):∀(k:Nat) (F:List Int) (i:Nat),x1.length=i+d→x1.length≤F.length→F.length≤4000000→d+(F.length-x1.length)+1<k→
  laws_toInt64Sg.l0 k x1 F (i:Int)=some (F.take i++(x1.drop i)++List.replicate (F.length-x1.length) ((-7000000000000000101):Int)):=by
 induction d with
 |zero=>
  intro k F i h0 h1 h2 h3;obtain⟨k,rfl⟩:∃m,k=m+1:=⟨k-1,by omega⟩;simp only [laws_toInt64Sg.l0]
  have hi:i=x1.length:=by omega
  subst hi;rw [if_neg (by omega),laws_toInt64S.l1_eval x1 (F.length-x1.length) k F x1.length (Nat.le_refl _) (by omega) h2 (by omega)];simp
 |succ d ih=>
  intro k F i h0 h1 h2 h3;obtain⟨k,rfl⟩:∃m,k=m+1:=⟨k-1,by omega⟩;have hlt:i<x1.length:=by omega
  have e:=ih k (F.set i x1[i]) (i+1) (by omega) (by simpa using h1) (by simpa using h2) (by simp;omega);simp only [laws_toInt64Sg.l0]
  have hr:rd x1 (i:Int)=x1[i]:=by simp [rd,hlt]
  rw [if_pos (by omega),if_pos (by omega),if_pos (by omega),laws_toInt64S.w1 (n:=F.length) (by omega) h2,Int.toNat_natCast,hr];refine Eq.trans e ?_;rw [take_succ_set F i x1[i] (by omega),List.length_set,List.drop_eq_getElem_cons hlt];simp only [List.append_assoc,List.cons_append,List.nil_append]
theorem laws_toInt64S.g_eval (l0:List Int) (a1:Bool) (h:l0.length≤1000000):∃k,laws_toInt64Sg.f k l0 a1=some (if a1=true∧l0=[] then [] else full l0):=by
 obtain⟨K,hK⟩:∃K,K=l0.length+roomN l0.length+5:=⟨_,rfl⟩;refine⟨K+1,?_⟩;have hr:=room_f l0.length;have hl:roomN l0.length≤1000000:=by unfold roomN;(repeat' split)<;>omega
 have hj:laws_toInt64Sg.j0 (K+1) l0 false=some (full l0):=by
  simp only [laws_toInt64Sg.j0]
  rw [if_neg (by decide),hr];rw [Option.bind_some];have hw:wrap64 ((l0.length:Int)+((roomN l0.length:Nat):Int))=((l0.length+roomN l0.length:Nat):Int):=by unfold wrap64;omega
  rw [hw,if_pos (by omega),if_pos (by omega),Int.toNat_natCast];have e:=laws_toInt64S.l0_eval l0 l0.length K (List.replicate (l0.length+roomN l0.length) 0) 0 (by omega) (by simp) (by simp<;>omega) (by simp<;>omega);refine Eq.trans e ?_;simp [full,Fil.fil]
  try rfl
 unfold laws_toInt64Sg.f
 by_cases h1:a1=true
 ·rw [if_pos h1];by_cases h2:l0=[]
  ·subst h2;rw [if_pos ⟨h1,rfl⟩];simp only [laws_toInt64Sg.j0]
   rw [if_pos (by decide)]
  ·rw [if_neg (fun h3=>h2 h3.2)]
   have h3:((l0.length:Int)==0)=false:=by
    have:l0.length≠0:=fun h4=>h2 (List.length_eq_zero_iff.1 h4)
    rw [beq_eq_false_iff_ne];omega
   rw [h3];exact hj
 ·rw [if_neg h1,if_neg (fun h2=>h1 h2.1)];exact hj
def laws_toInt64S.f (_k:Nat) (l0:List Int) (_a1:Bool):Option (List Int):=if l0.length≤1000000 then some l0 else none
theorem laws_toInt64S.callsF (k:Nat) (A0:Option Addr) (c0:Nat) (l0:List Int) (r:List Int) (w:World) (hr0:Kd.C (Kd.int .i64) w A0 l0.length l0) (hc0:l0.length≤c0) (h:laws_toInt64S.f k l0 false=some r):
  Calls Try.prog 37 #[.slice A0 l0.length c0,.bool false] w fun e w'=>∃v0_:Value,e=.returned (v0_)∧Kd.P (Kd.int .i64) 2 w' w.heap.size (fun _=>True) v0_ r∧Below w.heap.size w w':=by
 unfold laws_toInt64S.f at h
 split at h
 ·rename_i hl
  obtain rfl:=Option.some.inj h;obtain⟨k',hk⟩:=laws_toInt64S.g_eval l0 false hl;rw [if_neg (fun h2=>absurd h2.1 (by decide))] at hk;refine(laws_toInt64Sg.calls k' A0 c0 l0 false _ w hr0 hc0 hk).mono ?_;rintro e w' ⟨A_,c_,rfl,h1,h2⟩;refine⟨_,rfl,⟨fun _ _=>trivial,A_,c_,?_,h1⟩,h2⟩;first|(rw [vis_le (by simp [full])];done)|(rw [vis_le (by simp [full])];simp)
 ·exact absurd h (by simp)
theorem laws_toInt64S.calls (k:Nat) (A0:Option Addr) (c0:Nat) (l0:List Int) (a1:Bool) (r:List Int) (w:World) (hr0:Kd.C (Kd.int .i64) w A0 l0.length l0) (hc0:l0.length≤c0) (h:laws_toInt64S.f k l0 a1=some r):
  Calls Try.prog 37 #[.slice A0 l0.length c0,.bool a1] w fun e w'=>∃v0_:Value,e=.returned (v0_)∧Kd.R (Kd.int .i64) 2 w' w.heap.size (fun _=>True) v0_ r∧Below w.heap.size w w':=by
 unfold laws_toInt64S.f at h
 split at h
 ·rename_i hl
  obtain rfl:=Option.some.inj h;obtain⟨k',hk⟩:=laws_toInt64S.g_eval l0 a1 hl;refine(laws_toInt64Sg.calls k' A0 c0 l0 a1 _ w hr0 hc0 hk).mono ?_;rintro e w' ⟨A_,c_,rfl,h1,h2⟩;refine⟨_,rfl,?_,h2⟩;by_cases hz:a1=true∧l0=[]
  ·obtain⟨rfl,rfl⟩:=hz;rw [if_pos ⟨rfl,rfl⟩] at h1 ⊢;simpa [vis_zero] using h1
  ·rw [if_neg hz] at h1 ⊢;have:=Kd.R_take h1 (m:=l0.length) (by simp [full]);rw [vis_le (by simp [full])];simpa [full] using this
 ·exact absurd h (by simp)
def laws_toDemand.f (a0_0:Int) (a0_1:Int) (a0_2:Int):Option (Int×Int×Int):=some (a0_0,a0_1,a0_2)
theorem laws_toDemand.calls (a0_0:Int) (a0_1:Int) (a0_2:Int) (r1:Int) (r2:Int) (r3:Int) (w:World) (h:laws_toDemand.f a0_0 a0_1 a0_2=some (r1,r2,r3)):
  Calls Try.prog 86 #[.agg #[.int .i64 a0_0,.int .i64 a0_1,.int .i64 a0_2]] w fun e w'=>e=.returned (.agg #[.int .i64 r1,.int .i64 r2,.int .i64 r3])∧Below w.heap.size w w':=by
 have hu95:=Try.underlying95;have hu91:=Try.underlying91;have HB:=ak (Below.refl w.heap.size w);unfold laws_toDemand.f at h;have H:=h;clear h;simp only [Option.some.injEq,Prod.mk.injEq] at H
 obtain⟨rfl,rfl,rfl⟩:=H;go_enter Try.func86,Try.ntmps86;go_wp2_with (first|((with_reducible refine gate_dst (N:=1) rfl ?_);refine bx 1 #[.int .i64 a0_0,.int .i64 a0_1,.int .i64 a0_2] 95 ?_;intro gb0 hg w2 hbox hb;have BK0:=ak hbox;have GW1125:=gw hg HB;have GE0:=gw hg HB;replace HB:=bs HB hb;clear hb hbox hg)|((with_reducible refine gate_dst (N:=2) rfl ?_);refine bx 2 #[.int .i64 0,.int .i64 0,.int .i64 0] 91 ?_;intro gb1 hg w3 hbox hb;have BK1:=ak hbox;have GW1126:=gw hg HB;have GE1:=gw hg HB;replace HB:=bs HB hb;have NB0_1:=nl hg BK0;have NB1_0:=nr hg BK0;replace BK0:=kb BK0 hb;clear hb hbox hg)|((with_reducible refine gate_dst (N:=3) rfl ?_);refine bx 3 #[.int .i64 0,.int .i64 0,.int .i64 0] 91 ?_;intro gb2 hg w4 hbox hb;have BK2:=ak hbox;have GW1127:=gw hg HB;have GE2:=gw hg HB;replace HB:=bs HB hb;have NB0_2:=nl hg BK0;have NB2_0:=nr hg BK0;replace BK0:=kb BK0 hb;have NB1_2:=nl hg BK1;have NB2_1:=nr hg BK1;replace BK1:=kb BK1 hb;clear hb hbox hg;have:=NB0_1.1;have:=NB1_0.1;have:=NB0_2.1;have:=NB2_0.1;have hcz3:=cz3 BK0.1;have:=NB2_1.1;have:=NB1_2.1;have hcz4:=cz3 BK2.1;have hcz5:=cz3 BK1.1))
 refine bodyPost_ret (results_cell_row rfl _ _ gb1 91 #[.int .i64 a0_0,.int .i64 a0_1,.int .i64 a0_2] (0,0) _ rfl (vz BK1.1) Try.underlying91 rfl (by kernel_rfl)) rfl ?_;exact⟨ew,vb HB.1⟩
def laws_fillerDemand.f:Option (Int×Int×Int):=some ((-7000000000000000101),(-7000000000000000101),(-7000000000000000101))
theorem laws_fillerDemand.calls (r1:Int) (r2:Int) (r3:Int) (w:World) (h:laws_fillerDemand.f=some (r1,r2,r3)):
  Calls Try.prog 87 #[] w fun e w'=>e=.returned (.agg #[.int .i64 r1,.int .i64 r2,.int .i64 r3])∧Below w.heap.size w w':=by
 have hu91:=Try.underlying91;have HB:=ak (Below.refl w.heap.size w);unfold laws_fillerDemand.f at h;have H:=h;clear h;simp only [Option.some.injEq,Prod.mk.injEq] at H
 obtain⟨rfl,rfl,rfl⟩:=H;go_enter Try.func87,Try.ntmps87;go_wp2_with (first|((with_reducible refine gate_dst (N:=0) rfl ?_);refine bx 0 #[.int .i64 0,.int .i64 0,.int .i64 0] 91 ?_;intro gb0 hg w1 hbox hb;have BK0:=ak hbox;have GW1128:=gw hg HB;have GE0:=gw hg HB;replace HB:=bs HB hb;clear hb hbox hg;have hcz1:=cz3 BK0.1))
 refine bodyPost_ret (results_cell_row rfl _ _ gb0 91 #[.int .i64 (-7000000000000000101),.int .i64 (-7000000000000000101),.int .i64 (-7000000000000000101)] (0,0) _ rfl (vz BK0.1) Try.underlying91 rfl (by kernel_rfl)) rfl ?_;exact⟨ew,vb HB.1⟩
instance:Fil S91:=⟨(⟨(-7000000000000000101),(-7000000000000000101),(-7000000000000000101)⟩:S91)⟩
mutual
def laws_toDemandSg.j0:Nat→List (S95)→Bool→Option ((List (S91)))
 |0,_,_=>none
 |k+1,x5,x12=>if x12=true then (some ([]:List (S91))) else ((laws_roomBehind.f (x5.length:Int)).bind fun t16=>(if 0≤(wrap64 ((x5.length:Int)+t16)) then (if (wrap64 ((x5.length:Int)+t16):Int).toNat≤11728124029610 then (laws_toDemandSg.l0 k x5 (List.replicate (wrap64 ((x5.length:Int)+t16):Int).toNat z91) 0) else (none)) else (none)))
def laws_toDemandSg.l0:Nat→List (S95)→List (S91)→Int→Option ((List (S91)))
 |0,_,_,_=>none
 |k+1,x5,x0,x3=>if x3<(x5.length:Int) then (if 0≤x3 then ((laws_toDemand.f ((rd_T95 x5 x3).f0) ((rd_T95 x5 x3).f1) ((rd_T95 x5 x3).f2)).bind fun bt9=>(if x3<(x0.length:Int) then (laws_toDemandSg.l0 k x5 (x0.set (x3:Int).toNat (⟨bt9.1,bt9.2.1,bt9.2.2⟩:S91)) (wrap64 (x3+1))) else (none))) else (none)) else (laws_toDemandSg.l1 k x5 x0 (x5.length:Int))
def laws_toDemandSg.l1:Nat→List (S95)→List (S91)→Int→Option ((List (S91)))
 |0,_,_,_=>none
 |k+1,x5,x0,x4=>if x4<(x0.length:Int) then ((laws_fillerDemand.f).bind fun bt10=>(if 0≤x4 then (laws_toDemandSg.l1 k x5 (x0.set (x4:Int).toNat (⟨bt10.1,bt10.2.1,bt10.2.2⟩:S91)) (wrap64 (x4+1))) else (none))) else (if 0≤(x5.length:Int) then (if (x5.length:Int)≤(x0.length:Int) then (some x0) else (none)) else (none))
end
def laws_toDemandSg.f (k:Nat) (l0:List (S95)) (a1:Bool):Option ((List (S91))):=if a1=true then (laws_toDemandSg.j0 k l0 ((l0.length:Int)==0)) else (laws_toDemandSg.j0 k l0 false)
theorem laws_toDemandSg.calls (k:Nat) (A0:Option Addr) (c0:Nat) (l0:List (S95)) (a1:Bool) (r:List (S91)) (w:World) (hr0:Kd.C k95 w A0 l0.length l0) (hc0:l0.length≤c0) (h:laws_toDemandSg.f k l0 a1=some r):
  Calls Try.prog 63 #[.slice A0 l0.length c0,.bool a1] w fun e w'=>∃(A_:Option Addr) (c_:Nat),e=.returned (.slice A_ (vis l0.length r.length) c_)∧Kd.R k91 91 w' w.heap.size (fun _=>True) (.slice A_ r.length c_) r∧Below w.heap.size w w':=by
 have hu95:=Try.underlying95;have hu91:=Try.underlying91;have HR0:=ak hr0;have HC0:=ak hc0;clear hr0 hc0;have HB:=ak (Below.refl w.heap.size w);unfold laws_toDemandSg.f at h;have H:=h;clear h;have HC3:=ak H;clear H;go_enter Try.func63,Try.ntmps63;go_upto_region 1 with (fail)
 go_cut [13] (fun v12 wc=>∃(kq:Nat) (x12_1:Bool),v12=.bool x12_1∧Aside0 (laws_toDemandSg.j0 kq l0 x12_1=some r)∧Aside0 (kq≤k)∧Aside0 (Below w.heap.size w wc))
 case first=>
  have H:=HC3.1;clear HC3;by_cases c4:a1=true
  ·subst c4;rw [if_pos rfl] at H;have H':=ak H;clear H;go_wp2
   go_meet
   case rel=>exact⟨_,(((l0.length:Int)==0)),es,H',⟨by first|omega|exact Nat.le_refl _⟩,⟨vb HB.1⟩⟩
  ·replace c4:=Bool.eq_false_iff.mpr c4;subst c4;rw [if_neg nf] at H;have H':=ak H;clear H;go_wp2
   go_meet
   case rel=>exact⟨_,(false),es,H',⟨by first|omega|exact Nat.le_refl _⟩,⟨vb HB.1⟩⟩
 case rest=>
  clear HC3;obtain⟨kq,x12_1,rfl,HA,HJ2,HB⟩:=hcut
  cases kq with
  |zero=>exact absurd HA.1 (by simp [laws_toDemandSg.j0])
  |succ kj2=>
   have H:=HA.1;clear HA;simp only [laws_toDemandSg.j0] at H
   by_cases c5:x12_1=true
   ·subst c5;rw [if_pos rfl] at H;obtain rfl:=sj H;go_wp2
    go_ret
    exact⟨none,0,by first|(rw [vis_zero];rfl)|(simp only [List.length_nil,vis_zero];rfl),Kd.R_nil _ _ _ _ _,vb HB.1⟩
   ·replace c5:=Bool.eq_false_iff.mpr c5;subst c5;rw [if_neg nf] at H;obtain⟨t16,A6,H⟩:=bnk H;obtain⟨ji4,hji7⟩:∃j_:Int,(wrap64 ((l0.length:Int)+t16))=j_:=⟨_,rfl⟩;replace H:(if 0≤(ji4) then (if (ji4:Int).toNat≤11728124029610 then (laws_toDemandSg.l0 kj2 l0 (List.replicate (ji4:Int).toNat z91) 0) else (none)) else (none))=some r:=by first|(rw [hji7] at H;exact H)|(simp only [hji7] at H ⊢;exact H)
    (try rw [hji7] at A6)
    have hji7w:(IntKind.i64.wrap ((l0.length:Int)+t16))=ji4:=(i64_w _).trans hji7;by_cases c8:0≤(ji4)
    ·rw [if_pos c8] at H;have c8b0:=eq_true c8;have c8b1:decide (0≤(ji4))=true:=decide_eq_true c8;clear c8;by_cases c9:(ji4:Int).toNat≤11728124029610
     ·rw [if_pos c9] at H;have c9b0:=eq_true c9;have c9b1:decide ((ji4:Int).toNat≤11728124029610)=true:=decide_eq_true c9;clear c9;obtain⟨y13,hy13⟩:=gen_ ((List.replicate (ji4:Int).toNat z91:List (S91)));rw [←hy13] at H;have Ny13:=ak hy13;clear hy13;have H':=ak H;clear H;go_wp2_with (first|((with_reducible refine at_fn (f:=70) rfl ?_);refine gl (some 18) Try.func70 #[.int .i64 (l0.length:Int)] ?_;(with_reducible refine(laws_roomBehind.calls (l0.length:Int) t16 _ A6.1).mono ?_);rintro e w' ⟨rfl,⟨nd,rfl⟩⟩;refine⟨_,rfl,?_⟩)|((with_reducible refine gate_dst (N:=20) rfl ?_);(try (refine gate_guard (by rfl) ?_;dsimp only));refine Kd.R_make k91 _ 91 rfl (N:=20) rfl 24 _ _ rfl ji4 rfl rfl Try.underlying24 (.agg #[(.int .i64 0),(.int .i64 0),(.int .i64 0)]) 24 info91 rfl (by decide) (by omega) z91 (ok:=fun _=>True) (okp:=fun _=>True) (k91_mkM _ _ _ z91) (fun _ hk=>hk) trivial (od) (Nat.le_trans (Nat.mul_le_mul_right _ (od:ji4.toNat≤11728124029610)) (by omega)) (Below.refl _ _) (Nat.le_refl _) ?_;intro v28 w10 ho23 hb hg_ hnew_;clear hg_ hnew_;(first|rw [←Ny13.1] at ho23|(simp only [Int.reduceToNat] at ho23;rw [←Ny13.1] at ho23));have HO29:=ak (Kd.R_lower ho23 (below_size (vb HB.1)));replace HB:=bs HB hb;clear hb ho23))
      go_loopg [6] kj2 (fun kq v3 w'=>∃(x0_1:List (S91)) (x3_1:Int),v3=.int .i64 x3_1∧Aside0 (laws_toDemandSg.l0 kq l0 x0_1 x3_1=some r)∧Aside0 (kq≤kj2)∧Aside0 (Kd.R k91 91 w' w.heap.size (fun _=>True) v28 x0_1)∧Aside0 (Below w.heap.size w w'))
      case atStart=>exact⟨(y13),(0),es,H',⟨Nat.le_refl _⟩,⟨vr HO29.1⟩,⟨vb HB.1⟩⟩
      case round=>
       clear H';obtain⟨x0_1,x3_1,rfl,HA,HK2,HO_0,HB⟩:=hrel
       cases gk with
       |zero=>exact absurd HA.1 (by simp [laws_toDemandSg.l0])
       |succ k2=>
        have H:=HA.1;clear HA;simp only [laws_toDemandSg.l0] at H
        by_cases c12:x3_1<(l0.length:Int)
        ·rw [if_pos c12] at H;have c12b0:=decide_eq_true c12;clear c12;by_cases c13:0≤x3_1
         ·rw [if_pos c13] at H;have c13b0:=decide_eq_true c13;clear c13;obtain⟨⟨t9,t19,t20⟩,A140,H⟩:=bnd H;dsimp only at H;have A14:=ak A140;clear A140;by_cases c15:x3_1<(x0_1.length:Int)
          ·rw [if_pos c15] at H;have c15b0:=decide_eq_true c15;clear c15;obtain⟨y14,hy14⟩:=gen_ ((x0_1.set (x3_1:Int).toNat (⟨t9,t19,t20⟩:S91):List (S91)));rw [←hy14] at H;have Ny14:=ak hy14;clear hy14;have H':=ak H;clear H;have p8:0≤(x3_1:Int):=od;have q8:x3_1<(l0.length:Int):=od;obtain⟨ad8,e8,hx8_5,hx8_17,hx8_1⟩:=at_T95b HR0.1 HB.1 x3_1 p8 q8
           cases e8;replace p8:=eq_true p8;replace q8:=eq_true q8;go_wp2_with (first|((with_reducible refine at_fn (f:=86) rfl ?_);refine gl (some 33) Try.func86 #[.agg #[.int .i64 ((rd_T95 l0 x3_1).f0),.int .i64 ((rd_T95 l0 x3_1).f1),.int .i64 ((rd_T95 l0 x3_1).f2)]] ?_;(with_reducible refine(laws_toDemand.calls ((rd_T95 l0 x3_1).f0) ((rd_T95 l0 x3_1).f1) ((rd_T95 l0 x3_1).f2) t9 t19 t20 _ A14.1).mono ?_);rintro e w17 ⟨rfl,hb⟩;refine⟨_,rfl,?_⟩;replace HO_0:=rb HO_0 hb;replace HB:=bs HB hb;(try clear hb);have p6:0≤(x3_1:Int):=od;have q6:(x3_1:Int)<((x0_1.length:Int):Int):=od;obtain⟨go16,co6,eo6,gb6,gl16,cl16,HG6⟩:=Kd.R_form HO_0.1 (by omega);(first|cases eo6|(injection eo6 with ea_ en_ ec_;(first|subst ea_|(injection ea_ with ea_;subst ea_));subst ec_;clear en_));have GB16:=ak gb6;have GG16:=ak HG6;clear gb6 gl16 HG6;obtain⟨ce16,hcl16,hM16,hcc16,hfr16⟩:=Kd.R_elem HO_0.1 z91 (x3_1:Int) p6 q6;obtain rfl:=k91_openM hM16;have hx6_5:w17.cell? ⟨go16,(x3_1:Int).toNat*3,none⟩=some (.int .i64 ((rd_T91 x0_1 x3_1).f0)):=hcc16 0 _ rfl;have hx6_17:w17.cell? ⟨go16,(x3_1:Int).toNat*3+1,none⟩=some (.int .i64 ((rd_T91 x0_1 x3_1).f1)):=hcc16 1 _ rfl;have hx6_1:w17.cell? ⟨go16,(x3_1:Int).toNat*3+2,none⟩=some (.int .i64 ((rd_T91 x0_1 x3_1).f2)):=hcc16 2 _ rfl;have hf16_0:w17.frozen? ⟨go16,(x3_1:Int).toNat*3,none⟩=false:=hfr16 0;have hf16_1:w17.frozen? ⟨go16,(x3_1:Int).toNat*3+1,none⟩=false:=hfr16 1;have hf16_2:w17.frozen? ⟨go16,(x3_1:Int).toNat*3+2,none⟩=false:=hfr16 2;clear hcl16 hcc16 hfr16 hM16;replace p6:=eq_true p6;replace q6:=eq_true q6;have HX18:=ak (show Kd.R k91 91 w17 w.heap.size (fun _=>True) (.slice (some ⟨go16,0,none⟩) x0_1.length co6) x0_1 from(vr HO_0.1));obtain⟨ce18,hcl18,hM18,hcc18,hfr18⟩:=Kd.R_elem HX18.1 z91 (x3_1:Int) (od) (by have h_:(x3_1:Int)<((x0_1.length:Int):Int):=od;first|exact h_|(have e_:=(Kd.R_reads' HO_0.1).1;omega)|simpa using h_);obtain rfl:=k91_openM hM18;have HP18:=Kd.R_seg HX18.1 (x3_1:Int) (od) (by have h_:(x3_1:Int)<((x0_1.length:Int):Int):=od;first|exact h_|(have e_:=(Kd.R_reads' HO_0.1).1;omega)|simpa using h_) (seg:=[.int .i64 t9,.int .i64 t19,.int .i64 t20]) (j:=0) hcl18 hcc18 (show 3≤3 from by decide) (x':=(⟨t9,t19,t20⟩:S91)) (k91_mkM _ _ _ (⟨t9,t19,t20⟩:S91)) (fun _ hk=>hk);have hx24_5:=hcc18 0 _ rfl;(try simp only [show (k91).sz=3 from rfl,Nat.mul_one,Nat.add_zero] at hx24_5);have hf18_0:=hfr18 0;(try simp only [show (k91).sz=3 from rfl,Nat.mul_one,Nat.add_zero] at hf18_0);have hx24_17:=hcc18 1 _ rfl;(try simp only [show (k91).sz=3 from rfl,Nat.mul_one,Nat.add_zero] at hx24_17);have hf18_1:=hfr18 1;(try simp only [show (k91).sz=3 from rfl,Nat.mul_one,Nat.add_zero] at hf18_1);have hx24_1:=hcc18 2 _ rfl;(try simp only [show (k91).sz=3 from rfl,Nat.mul_one,Nat.add_zero] at hx24_1);have hf18_2:=hfr18 2;(try simp only [show (k91).sz=3 from rfl,Nat.mul_one,Nat.add_zero] at hf18_2);clear hcl18 hcc18 hfr18 hM18)|((with_reducible refine gate_store (t:=91) (p:=34) rfl ?_);refine store_event (t:=91) (p:=34) (v:=?vo_w19) (w1:=(((w17.setCell ⟨go16,(x3_1:Int).toNat*3,none⟩ (.int .i64 t9)).setCell ⟨go16,(x3_1:Int).toNat*3+1,none⟩ (.int .i64 t19)).setCell ⟨go16,(x3_1:Int).toNat*3+2,none⟩ (.int .i64 t20))) ?hg ?ho ?hn ?hr ?_;(case ho=>rfl);(case hg=>rfl);(case hn=>rfl);(case hr=>first|(go_simp;done)|(go_simp;rfl));intro w19 hw;have hg:w17.grownBy w19 (some go16):=(by rw [hw];exact HP18.2);have hp_:Kd.R k91 91 w19 w.heap.size (fun _=>True) (.slice (some ⟨go16,0,none⟩) x0_1.length co6) y14:=(by rw [hw,Ny14.1];exact HP18.1);clear HP18;replace HO_0:=ak (hp_);replace HB:=ak ((by rw [hw];exact below_set (below_set (below_set (HB.1) GB16.1) GB16.1) GB16.1:Below w.heap.size w w19));clear hg hw hp_))
           go_roundg k2
           case measure=>have:=HJ2.1;have:=HK2.1;omega
           case rel=>exact⟨(y14),(wrap64 (x3_1+1)),es,H',⟨by have:=HJ2.1;have:=HK2.1;omega⟩,⟨vr HO_0.1⟩,⟨vb HB.1⟩⟩
          ·exact nO_ c15 H
         ·exact nO_ c13 H
        ·rw [if_neg c12] at H;have c12b0:=decide_eq_false c12;clear c12;have H':=ak H;clear H;go_wp2
         go_loopg [7] k2 (fun kq v4 w'=>∃(x0_2:List (S91)) (x4_2:Int),v4=.int .i64 x4_2∧Aside0 (laws_toDemandSg.l1 kq l0 x0_2 x4_2=some r)∧Aside0 (kq≤k2)∧Aside0 (Kd.R k91 91 w' w.heap.size (fun _=>True) v28 x0_2)∧Aside0 (Below w.heap.size w w'))
         case atStart=>exact⟨(x0_1),((l0.length:Int)),es,H',⟨Nat.le_refl _⟩,⟨vr HO_0.1⟩,⟨vb HB.1⟩⟩
         case round=>
          clear H';obtain⟨x0_2,x4_2,rfl,HA,HK3,HO_0,HB⟩:=hrel
          cases gk with
          |zero=>exact absurd HA.1 (by simp [laws_toDemandSg.l1])
          |succ k3=>
           have H:=HA.1;clear HA;simp only [laws_toDemandSg.l1] at H
           by_cases c20:x4_2<(x0_2.length:Int)
           ·rw [if_pos c20] at H;have c20b0:=decide_eq_true c20;clear c20;obtain⟨⟨t10,t21,t22⟩,A210,H⟩:=bnd H;dsimp only at H;have A21:=ak A210;clear A210;by_cases c22:0≤x4_2
            ·rw [if_pos c22] at H;have c22b0:=decide_eq_true c22;clear c22;obtain⟨y15,hy15⟩:=gen_ ((x0_2.set (x4_2:Int).toNat (⟨t10,t21,t22⟩:S91):List (S91)));rw [←hy15] at H;have Ny15:=ak hy15;clear hy15;have H':=ak H;clear H;obtain⟨Ao27,co27,rfl⟩:=Kd.R_slice HO_0.1;go_wp2_with (first|((with_reducible refine at_fn (f:=87) rfl ?_);refine gl (some 45) Try.func87 #[] ?_;(with_reducible refine(laws_fillerDemand.calls t10 t21 t22 _ A21.1).mono ?_);rintro e w25 ⟨rfl,hb⟩;refine⟨_,rfl,?_⟩;replace HO_0:=rb HO_0 hb;replace HB:=bs HB hb;(try clear hb);have p7:0≤(x4_2:Int):=od;have q7:(x4_2:Int)<((x0_2.length:Int):Int):=od;obtain⟨go23,co7,eo7,gb7,gl23,cl23,HG7⟩:=Kd.R_form HO_0.1 (by omega);(first|cases eo7|(injection eo7 with ea_ en_ ec_;(first|subst ea_|(injection ea_ with ea_;subst ea_));subst ec_;clear en_));have GB23:=ak gb7;have GG23:=ak HG7;clear gb7 gl23 HG7;obtain⟨ce23,hcl23,hM23,hcc23,hfr23⟩:=Kd.R_elem HO_0.1 z91 (x4_2:Int) p7 q7;obtain rfl:=k91_openM hM23;have hx7_5:w25.cell? ⟨go23,(x4_2:Int).toNat*3,none⟩=some (.int .i64 ((rd_T91 x0_2 x4_2).f0)):=hcc23 0 _ rfl;have hx7_17:w25.cell? ⟨go23,(x4_2:Int).toNat*3+1,none⟩=some (.int .i64 ((rd_T91 x0_2 x4_2).f1)):=hcc23 1 _ rfl;have hx7_1:w25.cell? ⟨go23,(x4_2:Int).toNat*3+2,none⟩=some (.int .i64 ((rd_T91 x0_2 x4_2).f2)):=hcc23 2 _ rfl;have hf23_0:w25.frozen? ⟨go23,(x4_2:Int).toNat*3,none⟩=false:=hfr23 0;have hf23_1:w25.frozen? ⟨go23,(x4_2:Int).toNat*3+1,none⟩=false:=hfr23 1;have hf23_2:w25.frozen? ⟨go23,(x4_2:Int).toNat*3+2,none⟩=false:=hfr23 2;clear hcl23 hcc23 hfr23 hM23;replace p7:=eq_true p7;replace q7:=eq_true q7;have HX26:=ak (show Kd.R k91 91 w25 w.heap.size (fun _=>True) (.slice (some ⟨go23,0,none⟩) x0_2.length co27) x0_2 from(vr HO_0.1));obtain⟨ce26,hcl26,hM26,hcc26,hfr26⟩:=Kd.R_elem HX26.1 z91 (x4_2:Int) (od) (by have h_:(x4_2:Int)<((x0_2.length:Int):Int):=od;first|exact h_|(have e_:=(Kd.R_reads' HO_0.1).1;omega)|simpa using h_);obtain rfl:=k91_openM hM26;have HP26:=Kd.R_seg HX26.1 (x4_2:Int) (od) (by have h_:(x4_2:Int)<((x0_2.length:Int):Int):=od;first|exact h_|(have e_:=(Kd.R_reads' HO_0.1).1;omega)|simpa using h_) (seg:=[.int .i64 t10,.int .i64 t21,.int .i64 t22]) (j:=0) hcl26 hcc26 (show 3≤3 from by decide) (x':=(⟨t10,t21,t22⟩:S91)) (k91_mkM _ _ _ (⟨t10,t21,t22⟩:S91)) (fun _ hk=>hk);have hx25_5:=hcc26 0 _ rfl;(try simp only [show (k91).sz=3 from rfl,Nat.mul_one,Nat.add_zero] at hx25_5);have hf26_0:=hfr26 0;(try simp only [show (k91).sz=3 from rfl,Nat.mul_one,Nat.add_zero] at hf26_0);have hx25_17:=hcc26 1 _ rfl;(try simp only [show (k91).sz=3 from rfl,Nat.mul_one,Nat.add_zero] at hx25_17);have hf26_1:=hfr26 1;(try simp only [show (k91).sz=3 from rfl,Nat.mul_one,Nat.add_zero] at hf26_1);have hx25_1:=hcc26 2 _ rfl;(try simp only [show (k91).sz=3 from rfl,Nat.mul_one,Nat.add_zero] at hx25_1);have hf26_2:=hfr26 2;(try simp only [show (k91).sz=3 from rfl,Nat.mul_one,Nat.add_zero] at hf26_2);clear hcl26 hcc26 hfr26 hM26)|((with_reducible refine gate_store (t:=91) (p:=46) rfl ?_);refine store_event (t:=91) (p:=46) (v:=?vo_w27) (w1:=(((w25.setCell ⟨go23,(x4_2:Int).toNat*3,none⟩ (.int .i64 t10)).setCell ⟨go23,(x4_2:Int).toNat*3+1,none⟩ (.int .i64 t21)).setCell ⟨go23,(x4_2:Int).toNat*3+2,none⟩ (.int .i64 t22))) ?hg ?ho ?hn ?hr ?_;(case ho=>rfl);(case hg=>rfl);(case hn=>rfl);(case hr=>first|(go_simp;done)|(go_simp;rfl));intro w27 hw;have hg:w25.grownBy w27 (some go23):=(by rw [hw];exact HP26.2);have hp_:Kd.R k91 91 w27 w.heap.size (fun _=>True) (.slice (some ⟨go23,0,none⟩) x0_2.length co27) y15:=(by rw [hw,Ny15.1];exact HP26.1);clear HP26;replace HO_0:=ak (hp_);replace HB:=ak ((by rw [hw];exact below_set (below_set (below_set (HB.1) GB23.1) GB23.1) GB23.1:Below w.heap.size w w27));clear hg hw hp_))
             go_roundg k3
             case measure=>have:=HJ2.1;have:=HK2.1;have:=HK3.1;omega
             case rel=>exact⟨(y15),(wrap64 (x4_2+1)),es,H',⟨by have:=HJ2.1;have:=HK2.1;have:=HK3.1;omega⟩,⟨vr HO_0.1⟩,⟨vb HB.1⟩⟩
            ·exact nO_ c22 H
           ·rw [if_neg c20] at H;have c20b0:=decide_eq_false c20;clear c20;by_cases c28:0≤(l0.length:Int)
            ·rw [if_pos c28] at H;have c28b0:=eq_true c28;have c28b1:decide (0≤(l0.length:Int))=true:=decide_eq_true c28;clear c28;by_cases c29:(l0.length:Int)≤(x0_2.length:Int)
             ·rw [if_pos c29] at H;have c29b0:=eq_true c29;have c29b1:decide ((l0.length:Int)≤(x0_2.length:Int))=true:=decide_eq_true c29;clear c29;obtain⟨y11,hy11⟩:∃y_:List (S91),y_=(x0_2.take ((l0.length:Int):Int).toNat):=⟨_,rfl⟩;have Ny11:=ak hy11;clear hy11;obtain rfl:=sj H;obtain⟨Ao26,co26,rfl⟩:=Kd.R_slice HO_0.1;have q18:((l0.length:Int):Int)≤((x0_2.length:Int):Int):=od;obtain⟨i031,hi031,_,hsz31,_⟩:=info_parts info91;have hcut31:=cut_to (P:=Try.prog) 24 91 .i64 Try.underlying24 hi031 Ao26 x0_2.length co26 (l0.length:Int) (od) q18 (Kd.R_reads' HO_0.1).2.1;have hr31:=Kd.R_take (m:=((l0.length:Int):Int).toNat) HO_0.1 (by omega);have hy18:y11.length=((l0.length:Int):Int).toNat:=(by rw [Ny11.1,List.length_take];omega);rw [←Ny11.1] at hr31;rw [←hy18] at hr31 hcut31;clear hy18 hi031 hsz31;have HO30:=ak hr31;clear hr31;replace q18:=eq_true q18;go_wp2
              go_ret
              exact⟨Ao26,co26,(by rw [show vis l0.length x0_2.length=y11.length from by rw [Ny11.1,Int.toNat_natCast,List.length_take];rfl];rfl),vr HO_0.1,vb HB.1⟩
             ·exact nO_ c29 H
            ·exact nO_ c28 H
     ·exact nO_ c9 H
    ·exact nO_ c8 H
def laws_toDemandS.conv (x:S95):S91:=⟨x.f0,x.f1,x.f2⟩
theorem laws_toDemandS.w1 {i n:Nat} (h:i<n) (hn:n≤4000000):wrap64 ((i:Int)+1)=((i+1:Nat):Int):=by unfold wrap64;omega
theorem laws_toDemandS.l1_eval (x5:List S95) (d:Nat):∀(k:Nat) (F:List S91) (i:Nat),x5.length≤i→F.length=i+d→F.length≤4000000→d<k→
  laws_toDemandSg.l1 k x5 F (i:Int)=some (F.take i++List.replicate d (⟨(-7000000000000000101),(-7000000000000000101),(-7000000000000000101)⟩:S91)):=by
 induction d with
 |zero=>
  intro k F i h0 h1 h2 h3;obtain⟨k,rfl⟩:∃m,k=m+1:=⟨k-1,by omega⟩;simp only [laws_toDemandSg.l1]
  rw [if_neg (by omega),if_pos (by omega),if_pos (by omega)];simp [List.take_of_length_le (show F.length≤i by omega)]
 |succ d ih=>
  intro k F i h0 h1 h2 h3;obtain⟨k,rfl⟩:∃m,k=m+1:=⟨k-1,by omega⟩;have e:=ih k (F.set i (⟨(-7000000000000000101),(-7000000000000000101),(-7000000000000000101)⟩:S91)) (i+1) (by omega) (by simp;omega) (by simpa using h2) (by omega);simp only [laws_toDemandSg.l1,laws_fillerDemand.f,Option.bind_some]
  rw [if_pos (by omega),if_pos (by omega),laws_toDemandS.w1 (n:=F.length) (by omega) h2,Int.toNat_natCast];refine Eq.trans e ?_;rw [take_succ_set F i (⟨(-7000000000000000101),(-7000000000000000101),(-7000000000000000101)⟩:S91) (by omega),List.append_assoc];rfl
theorem laws_toDemandS.l0_eval (x5:List S95) (d:Nat):∀(k:Nat) (F:List S91) (i:Nat),x5.length=i+d→x5.length≤F.length→F.length≤4000000→d+(F.length-x5.length)+1<k→
  laws_toDemandSg.l0 k x5 F (i:Int)=some (F.take i++(x5.drop i).map laws_toDemandS.conv++List.replicate (F.length-x5.length) (⟨(-7000000000000000101),(-7000000000000000101),(-7000000000000000101)⟩:S91)):=by
 induction d with
 |zero=>
  intro k F i h0 h1 h2 h3;obtain⟨k,rfl⟩:∃m,k=m+1:=⟨k-1,by omega⟩;simp only [laws_toDemandSg.l0]
  have hi:i=x5.length:=by omega
  subst hi;rw [if_neg (by omega),laws_toDemandS.l1_eval x5 (F.length-x5.length) k F x5.length (Nat.le_refl _) (by omega) h2 (by omega)];simp
 |succ d ih=>
  intro k F i h0 h1 h2 h3;obtain⟨k,rfl⟩:∃m,k=m+1:=⟨k-1,by omega⟩;have hlt:i<x5.length:=by omega
  have e:=ih k (F.set i (laws_toDemandS.conv x5[i])) (i+1) (by omega) (by simpa using h1) (by simpa using h2) (by simp;omega);simp only [laws_toDemandSg.l0,laws_toDemand.f,Option.bind_some]
  have hr:rd_T95 x5 (i:Int)=x5[i]:=by simp [rd_T95,hlt]
  rw [if_pos (by omega),if_pos (by omega),if_pos (by omega),laws_toDemandS.w1 (n:=F.length) (by omega) h2,Int.toNat_natCast,hr];refine Eq.trans e ?_;rw [take_succ_set F i (laws_toDemandS.conv x5[i]) (by omega),List.length_set,List.drop_eq_getElem_cons hlt];simp only [List.map_cons,List.append_assoc,List.cons_append,List.nil_append]
theorem laws_toDemandS.g_eval (l0:List S95) (a1:Bool) (h:l0.length≤1000000):∃k,laws_toDemandSg.f k l0 a1=some (if a1=true∧l0=[] then [] else full (l0.map laws_toDemandS.conv)):=by
 obtain⟨K,hK⟩:∃K,K=l0.length+roomN l0.length+5:=⟨_,rfl⟩;refine⟨K+1,?_⟩;have hr:=room_f l0.length;have hl:roomN l0.length≤1000000:=by unfold roomN;(repeat' split)<;>omega
 have hj:laws_toDemandSg.j0 (K+1) l0 false=some (full (l0.map laws_toDemandS.conv)):=by
  simp only [laws_toDemandSg.j0]
  rw [if_neg (by decide),hr];rw [Option.bind_some];have hw:wrap64 ((l0.length:Int)+((roomN l0.length:Nat):Int))=((l0.length+roomN l0.length:Nat):Int):=by unfold wrap64;omega
  rw [hw,if_pos (by omega),if_pos (by omega),Int.toNat_natCast];have e:=laws_toDemandS.l0_eval l0 l0.length K (List.replicate (l0.length+roomN l0.length) z91) 0 (by omega) (by simp) (by simp<;>omega) (by simp<;>omega);refine Eq.trans e ?_;simp [full,Fil.fil]
  try rfl
 unfold laws_toDemandSg.f
 by_cases h1:a1=true
 ·rw [if_pos h1];by_cases h2:l0=[]
  ·subst h2;rw [if_pos ⟨h1,rfl⟩];simp only [laws_toDemandSg.j0]
   rw [if_pos (by decide)]
  ·rw [if_neg (fun h3=>h2 h3.2)]
   have h3:((l0.length:Int)==0)=false:=by
    have:l0.length≠0:=fun h4=>h2 (List.length_eq_zero_iff.1 h4)
    rw [beq_eq_false_iff_ne];omega
   rw [h3];exact hj
 ·rw [if_neg h1,if_neg (fun h2=>h1 h2.1)];exact hj
def laws_toDemandS.f (_k:Nat) (l0:List S95) (_a1:Bool):Option (List S91):=if l0.length≤1000000 then some (l0.map laws_toDemandS.conv) else none
theorem laws_toDemandS.callsF (k:Nat) (A0:Option Addr) (c0:Nat) (l0:List S95) (r:List S91) (w:World) (hr0:Kd.C k95 w A0 l0.length l0) (hc0:l0.length≤c0) (h:laws_toDemandS.f k l0 false=some r):
  Calls Try.prog 63 #[.slice A0 l0.length c0,.bool false] w fun e w'=>∃v0_:Value,e=.returned (v0_)∧Kd.P k91 91 w' w.heap.size (fun _=>True) v0_ r∧Below w.heap.size w w':=by
 unfold laws_toDemandS.f at h
 split at h
 ·rename_i hl
  obtain rfl:=Option.some.inj h;obtain⟨k',hk⟩:=laws_toDemandS.g_eval l0 false hl;rw [if_neg (fun h2=>absurd h2.1 (by decide))] at hk;refine(laws_toDemandSg.calls k' A0 c0 l0 false _ w hr0 hc0 hk).mono ?_;rintro e w' ⟨A_,c_,rfl,h1,h2⟩;refine⟨_,rfl,⟨fun _ _=>trivial,A_,c_,?_,h1⟩,h2⟩;first|(rw [vis_le (by simp [full])];done)|(rw [vis_le (by simp [full])];simp)
 ·exact absurd h (by simp)
theorem laws_toDemandS.calls (k:Nat) (A0:Option Addr) (c0:Nat) (l0:List S95) (a1:Bool) (r:List S91) (w:World) (hr0:Kd.C k95 w A0 l0.length l0) (hc0:l0.length≤c0) (h:laws_toDemandS.f k l0 a1=some r):
  Calls Try.prog 63 #[.slice A0 l0.length c0,.bool a1] w fun e w'=>∃v0_:Value,e=.returned (v0_)∧Kd.R k91 91 w' w.heap.size (fun _=>True) v0_ r∧Below w.heap.size w w':=by
 unfold laws_toDemandS.f at h
 split at h
 ·rename_i hl
  obtain rfl:=Option.some.inj h;obtain⟨k',hk⟩:=laws_toDemandS.g_eval l0 a1 hl;refine(laws_toDemandSg.calls k' A0 c0 l0 a1 _ w hr0 hc0 hk).mono ?_;rintro e w' ⟨A_,c_,rfl,h1,h2⟩;refine⟨_,rfl,?_,h2⟩;by_cases hz:a1=true∧l0=[]
  ·obtain⟨rfl,rfl⟩:=hz;rw [if_pos ⟨rfl,rfl⟩] at h1 ⊢;simpa [vis_zero] using h1
  ·rw [if_neg hz] at h1 ⊢;have:=Kd.R_take h1 (m:=l0.length) (by simp [full]);rw [vis_le (by simp [full])];simpa [full] using this
 ·exact absurd h (by simp)
def laws_toArea.f (a0_0:Int) (a0_1:Int) (a0_2:Int) (a0_3:Int) (a0_4:Int):Option (Int×Int×Int×Int×Int):=some (a0_0,a0_1,a0_2,a0_3,a0_4)
theorem laws_toArea.calls (a0_0:Int) (a0_1:Int) (a0_2:Int) (a0_3:Int) (a0_4:Int) (r1:Int) (r2:Int) (r3:Int) (r4:Int) (r5:Int) (w:World) (h:laws_toArea.f a0_0 a0_1 a0_2 a0_3 a0_4=some (r1,r2,r3,r4,r5)):
  Calls Try.prog 88 #[.agg #[.int .i64 a0_0,.int .i64 a0_1,.int .i64 a0_2,.int .i64 a0_3,.int .i64 a0_4]] w fun e w'=>e=.returned (.agg #[.int .i64 r1,.int .i64 r2,.int .i64 r3,.int .i64 r4,.int .i64 r5])∧Below w.heap.size w w':=by
 have hu98:=Try.underlying98;have hu69:=Try.underlying69;have HB:=ak (Below.refl w.heap.size w);unfold laws_toArea.f at h;have H:=h;clear h;simp only [Option.some.injEq,Prod.mk.injEq] at H
 obtain⟨rfl,rfl,rfl,rfl,rfl⟩:=H;go_enter Try.func88,Try.ntmps88;go_wp2_with (first|((with_reducible refine gate_dst (N:=1) rfl ?_);refine bx 1 #[.int .i64 a0_0,.int .i64 a0_1,.int .i64 a0_2,.int .i64 a0_3,.int .i64 a0_4] 98 ?_;intro gb0 hg w2 hbox hb;have BK0:=ak hbox;have GW1145:=gw hg HB;have GE0:=gw hg HB;replace HB:=bs HB hb;clear hb hbox hg)|((with_reducible refine gate_dst (N:=2) rfl ?_);refine bx 2 #[.int .i64 0,.int .i64 0,.int .i64 0,.int .i64 0,.int .i64 0] 69 ?_;intro gb1 hg w3 hbox hb;have BK1:=ak hbox;have GW1146:=gw hg HB;have GE1:=gw hg HB;replace HB:=bs HB hb;have NB0_1:=nl hg BK0;have NB1_0:=nr hg BK0;replace BK0:=kb BK0 hb;clear hb hbox hg)|((with_reducible refine gate_dst (N:=3) rfl ?_);refine bx 3 #[.int .i64 0,.int .i64 0,.int .i64 0,.int .i64 0,.int .i64 0] 69 ?_;intro gb2 hg w4 hbox hb;have BK2:=ak hbox;have GW1147:=gw hg HB;have GE2:=gw hg HB;replace HB:=bs HB hb;have NB0_2:=nl hg BK0;have NB2_0:=nr hg BK0;replace BK0:=kb BK0 hb;have NB1_2:=nl hg BK1;have NB2_1:=nr hg BK1;replace BK1:=kb BK1 hb;clear hb hbox hg;have:=NB0_1.1;have:=NB1_0.1;have:=NB0_2.1;have:=NB2_0.1;have hcz3:=cz5 BK0.1;have:=NB2_1.1;have:=NB1_2.1;have hcz4:=cz5 BK2.1;have hcz5:=cz5 BK1.1))
 refine bodyPost_ret (results_cell_row rfl _ _ gb1 69 #[.int .i64 a0_0,.int .i64 a0_1,.int .i64 a0_2,.int .i64 a0_3,.int .i64 a0_4] (0,0) _ rfl (vz BK1.1) Try.underlying69 rfl (by kernel_rfl)) rfl ?_;exact⟨ew,vb HB.1⟩
def laws_fillerArea.f:Option (Int×Int×Int×Int×Int):=some ((-7000000000000000101),(-7000000000000000101),(-7000000000000000101),(-7000000000000000101),(-7000000000000000101))
theorem laws_fillerArea.calls (r1:Int) (r2:Int) (r3:Int) (r4:Int) (r5:Int) (w:World) (h:laws_fillerArea.f=some (r1,r2,r3,r4,r5)):
  Calls Try.prog 89 #[] w fun e w'=>e=.returned (.agg #[.int .i64 r1,.int .i64 r2,.int .i64 r3,.int .i64 r4,.int .i64 r5])∧Below w.heap.size w w':=by
 have hu69:=Try.underlying69;have HB:=ak (Below.refl w.heap.size w);unfold laws_fillerArea.f at h;have H:=h;clear h;simp only [Option.some.injEq,Prod.mk.injEq] at H
 obtain⟨rfl,rfl,rfl,rfl,rfl⟩:=H;go_enter Try.func89,Try.ntmps89;go_wp2_with (first|((with_reducible refine gate_dst (N:=0) rfl ?_);refine bx 0 #[.int .i64 0,.int .i64 0,.int .i64 0,.int .i64 0,.int .i64 0] 69 ?_;intro gb0 hg w1 hbox hb;have BK0:=ak hbox;have GW1148:=gw hg HB;have GE0:=gw hg HB;replace HB:=bs HB hb;clear hb hbox hg;have hcz1:=cz5 BK0.1))
 refine bodyPost_ret (results_cell_row rfl _ _ gb0 69 #[.int .i64 (-7000000000000000101),.int .i64 (-7000000000000000101),.int .i64 (-7000000000000000101),.int .i64 (-7000000000000000101),.int .i64 (-7000000000000000101)] (0,0) _ rfl (vz BK0.1) Try.underlying69 rfl (by kernel_rfl)) rfl ?_;exact⟨ew,vb HB.1⟩
instance:Fil S69:=⟨(⟨(-7000000000000000101),(-7000000000000000101),(-7000000000000000101),(-7000000000000000101),(-7000000000000000101)⟩:S69)⟩
mutual
def laws_toAreaSg.j0:Nat→List (S98)→Bool→Option ((List (S69)))
 |0,_,_=>none
 |k+1,x5,x14=>if x14=true then (some ([]:List (S69))) else ((laws_roomBehind.f (x5.length:Int)).bind fun t18=>(if 0≤(wrap64 ((x5.length:Int)+t18)) then (if (wrap64 ((x5.length:Int)+t18):Int).toNat≤7036874417766 then (laws_toAreaSg.l0 k x5 (List.replicate (wrap64 ((x5.length:Int)+t18):Int).toNat z69) 0) else (none)) else (none)))
def laws_toAreaSg.l0:Nat→List (S98)→List (S69)→Int→Option ((List (S69)))
 |0,_,_,_=>none
 |k+1,x5,x1,x3=>if x3<(x5.length:Int) then (if 0≤x3 then ((laws_toArea.f ((rd_T98 x5 x3).f0) ((rd_T98 x5 x3).f1) ((rd_T98 x5 x3).f2) ((rd_T98 x5 x3).f3) ((rd_T98 x5 x3).f4)).bind fun bt9=>(if x3<(x1.length:Int) then (laws_toAreaSg.l0 k x5 (x1.set (x3:Int).toNat (⟨bt9.1,bt9.2.1,bt9.2.2.1,bt9.2.2.2.1,bt9.2.2.2.2⟩:S69)) (wrap64 (x3+1))) else (none))) else (none)) else (laws_toAreaSg.l1 k x5 x1 (x5.length:Int))
def laws_toAreaSg.l1:Nat→List (S98)→List (S69)→Int→Option ((List (S69)))
 |0,_,_,_=>none
 |k+1,x5,x1,x4=>if x4<(x1.length:Int) then ((laws_fillerArea.f).bind fun bt10=>(if 0≤x4 then (laws_toAreaSg.l1 k x5 (x1.set (x4:Int).toNat (⟨bt10.1,bt10.2.1,bt10.2.2.1,bt10.2.2.2.1,bt10.2.2.2.2⟩:S69)) (wrap64 (x4+1))) else (none))) else (if 0≤(x5.length:Int) then (if (x5.length:Int)≤(x1.length:Int) then (some x1) else (none)) else (none))
end
def laws_toAreaSg.f (k:Nat) (l0:List (S98)) (a1:Bool):Option ((List (S69))):=if a1=true then (laws_toAreaSg.j0 k l0 ((l0.length:Int)==0)) else (laws_toAreaSg.j0 k l0 false)
theorem laws_toAreaSg.calls (k:Nat) (A0:Option Addr) (c0:Nat) (l0:List (S98)) (a1:Bool) (r:List (S69)) (w:World) (hr0:Kd.C k98 w A0 l0.length l0) (hc0:l0.length≤c0) (h:laws_toAreaSg.f k l0 a1=some r):
  Calls Try.prog 64 #[.slice A0 l0.length c0,.bool a1] w fun e w'=>∃(A_:Option Addr) (c_:Nat),e=.returned (.slice A_ (vis l0.length r.length) c_)∧Kd.R k69 69 w' w.heap.size (fun _=>True) (.slice A_ r.length c_) r∧Below w.heap.size w w':=by
 have hu98:=Try.underlying98;have hu69:=Try.underlying69;have HR0:=ak hr0;have HC0:=ak hc0;clear hr0 hc0;have HB:=ak (Below.refl w.heap.size w);unfold laws_toAreaSg.f at h;have H:=h;clear h;have HC3:=ak H;clear H;go_enter Try.func64,Try.ntmps64;go_upto_region 1 with (fail)
 go_cut [13] (fun v14 wc=>∃(kq:Nat) (x14_0:Bool),v14=.bool x14_0∧Aside0 (laws_toAreaSg.j0 kq l0 x14_0=some r)∧Aside0 (kq≤k)∧Aside0 (Below w.heap.size w wc))
 case first=>
  have H:=HC3.1;clear HC3;by_cases c4:a1=true
  ·subst c4;rw [if_pos rfl] at H;have H':=ak H;clear H;go_wp2
   go_meet
   case rel=>exact⟨_,(((l0.length:Int)==0)),es,H',⟨by first|omega|exact Nat.le_refl _⟩,⟨vb HB.1⟩⟩
  ·replace c4:=Bool.eq_false_iff.mpr c4;subst c4;rw [if_neg nf] at H;have H':=ak H;clear H;go_wp2
   go_meet
   case rel=>exact⟨_,(false),es,H',⟨by first|omega|exact Nat.le_refl _⟩,⟨vb HB.1⟩⟩
 case rest=>
  clear HC3;obtain⟨kq,x14_0,rfl,HA,HJ2,HB⟩:=hcut
  cases kq with
  |zero=>exact absurd HA.1 (by simp [laws_toAreaSg.j0])
  |succ kj2=>
   have H:=HA.1;clear HA;simp only [laws_toAreaSg.j0] at H
   by_cases c5:x14_0=true
   ·subst c5;rw [if_pos rfl] at H;obtain rfl:=sj H;go_wp2
    go_ret
    exact⟨none,0,by first|(rw [vis_zero];rfl)|(simp only [List.length_nil,vis_zero];rfl),Kd.R_nil _ _ _ _ _,vb HB.1⟩
   ·replace c5:=Bool.eq_false_iff.mpr c5;subst c5;rw [if_neg nf] at H;obtain⟨t18,A6,H⟩:=bnk H;obtain⟨ji4,hji7⟩:∃j_:Int,(wrap64 ((l0.length:Int)+t18))=j_:=⟨_,rfl⟩;replace H:(if 0≤(ji4) then (if (ji4:Int).toNat≤7036874417766 then (laws_toAreaSg.l0 kj2 l0 (List.replicate (ji4:Int).toNat z69) 0) else (none)) else (none))=some r:=by first|(rw [hji7] at H;exact H)|(simp only [hji7] at H ⊢;exact H)
    (try rw [hji7] at A6)
    have hji7w:(IntKind.i64.wrap ((l0.length:Int)+t18))=ji4:=(i64_w _).trans hji7;by_cases c8:0≤(ji4)
    ·rw [if_pos c8] at H;have c8b0:=eq_true c8;have c8b1:decide (0≤(ji4))=true:=decide_eq_true c8;clear c8;by_cases c9:(ji4:Int).toNat≤7036874417766
     ·rw [if_pos c9] at H;have c9b0:=eq_true c9;have c9b1:decide ((ji4:Int).toNat≤7036874417766)=true:=decide_eq_true c9;clear c9;obtain⟨y15,hy15⟩:=gen_ ((List.replicate (ji4:Int).toNat z69:List (S69)));rw [←hy15] at H;have Ny15:=ak hy15;clear hy15;have H':=ak H;clear H;go_wp2_with (first|((with_reducible refine at_fn (f:=70) rfl ?_);refine gl (some 18) Try.func70 #[.int .i64 (l0.length:Int)] ?_;(with_reducible refine(laws_roomBehind.calls (l0.length:Int) t18 _ A6.1).mono ?_);rintro e w' ⟨rfl,⟨nd,rfl⟩⟩;refine⟨_,rfl,?_⟩)|((with_reducible refine gate_dst (N:=20) rfl ?_);(try (refine gate_guard (by rfl) ?_;dsimp only));refine Kd.R_make k69 _ 69 rfl (N:=20) rfl 25 _ _ rfl ji4 rfl rfl Try.underlying25 (.agg #[(.int .i64 0),(.int .i64 0),(.int .i64 0),(.int .i64 0),(.int .i64 0)]) 40 info69 rfl (by decide) (by omega) z69 (ok:=fun _=>True) (okp:=fun _=>True) (k69_mkM _ _ _ z69) (fun _ hk=>hk) trivial (od) (Nat.le_trans (Nat.mul_le_mul_right _ (od:ji4.toNat≤7036874417766)) (by omega)) (Below.refl _ _) (Nat.le_refl _) ?_;intro v33 w10 ho30 hb hg_ hnew_;clear hg_ hnew_;(first|rw [←Ny15.1] at ho30|(simp only [Int.reduceToNat] at ho30;rw [←Ny15.1] at ho30));have HO34:=ak (Kd.R_lower ho30 (below_size (vb HB.1)));replace HB:=bs HB hb;clear hb ho30))
      go_loopg [6] kj2 (fun kq v3 w'=>∃(x1_0:List (S69)) (x3_0:Int),v3=.int .i64 x3_0∧Aside0 (laws_toAreaSg.l0 kq l0 x1_0 x3_0=some r)∧Aside0 (kq≤kj2)∧Aside0 (Kd.R k69 69 w' w.heap.size (fun _=>True) v33 x1_0)∧Aside0 (Below w.heap.size w w'))
      case atStart=>exact⟨(y15),(0),es,H',⟨Nat.le_refl _⟩,⟨vr HO34.1⟩,⟨vb HB.1⟩⟩
      case round=>
       clear H';obtain⟨x1_0,x3_0,rfl,HA,HK2,HO_1,HB⟩:=hrel
       cases gk with
       |zero=>exact absurd HA.1 (by simp [laws_toAreaSg.l0])
       |succ k2=>
        have H:=HA.1;clear HA;simp only [laws_toAreaSg.l0] at H
        by_cases c12:x3_0<(l0.length:Int)
        ·rw [if_pos c12] at H;have c12b0:=decide_eq_true c12;clear c12;by_cases c13:0≤x3_0
         ·rw [if_pos c13] at H;have c13b0:=decide_eq_true c13;clear c13;obtain⟨⟨t9,t22,t23,t24,t25⟩,A140,H⟩:=bnd H;dsimp only at H;have A14:=ak A140;clear A140;by_cases c15:x3_0<(x1_0.length:Int)
          ·rw [if_pos c15] at H;have c15b0:=decide_eq_true c15;clear c15;obtain⟨y16,hy16⟩:=gen_ ((x1_0.set (x3_0:Int).toNat (⟨t9,t22,t23,t24,t25⟩:S69):List (S69)));rw [←hy16] at H;have Ny16:=ak hy16;clear hy16;have H':=ak H;clear H;have p8:0≤(x3_0:Int):=od;have q8:x3_0<(l0.length:Int):=od;obtain⟨ad8,e8,hx8_5,hx8_19,hx8_0,hx8_2,hx8_20⟩:=at_T98b HR0.1 HB.1 x3_0 p8 q8
           cases e8;replace p8:=eq_true p8;replace q8:=eq_true q8;go_wp2_with (first|((with_reducible refine at_fn (f:=88) rfl ?_);refine gl (some 33) Try.func88 #[.agg #[.int .i64 ((rd_T98 l0 x3_0).f0),.int .i64 ((rd_T98 l0 x3_0).f1),.int .i64 ((rd_T98 l0 x3_0).f2),.int .i64 ((rd_T98 l0 x3_0).f3),.int .i64 ((rd_T98 l0 x3_0).f4)]] ?_;(with_reducible refine(laws_toArea.calls ((rd_T98 l0 x3_0).f0) ((rd_T98 l0 x3_0).f1) ((rd_T98 l0 x3_0).f2) ((rd_T98 l0 x3_0).f3) ((rd_T98 l0 x3_0).f4) t9 t22 t23 t24 t25 _ A14.1).mono ?_);rintro e w17 ⟨rfl,hb⟩;refine⟨_,rfl,?_⟩;replace HO_1:=rb HO_1 hb;replace HB:=bs HB hb;(try clear hb);have p6:0≤(x3_0:Int):=od;have q6:(x3_0:Int)<((x1_0.length:Int):Int):=od;obtain⟨go16,co6,eo6,gb6,gl16,cl16,HG6⟩:=Kd.R_form HO_1.1 (by omega);(first|cases eo6|(injection eo6 with ea_ en_ ec_;(first|subst ea_|(injection ea_ with ea_;subst ea_));subst ec_;clear en_));have GB16:=ak gb6;have GG16:=ak HG6;clear gb6 gl16 HG6;obtain⟨ce16,hcl16,hM16,hcc16,hfr16⟩:=Kd.R_elem HO_1.1 z69 (x3_0:Int) p6 q6;obtain rfl:=k69_openM hM16;have hx6_5:w17.cell? ⟨go16,(x3_0:Int).toNat*5,none⟩=some (.int .i64 ((rd_T69 x1_0 x3_0).f0)):=hcc16 0 _ rfl;have hx6_19:w17.cell? ⟨go16,(x3_0:Int).toNat*5+1,none⟩=some (.int .i64 ((rd_T69 x1_0 x3_0).f1)):=hcc16 1 _ rfl;have hx6_0:w17.cell? ⟨go16,(x3_0:Int).toNat*5+2,none⟩=some (.int .i64 ((rd_T69 x1_0 x3_0).f2)):=hcc16 2 _ rfl;have hx6_2:w17.cell? ⟨go16,(x3_0:Int).toNat*5+3,none⟩=some (.int .i64 ((rd_T69 x1_0 x3_0).f3)):=hcc16 3 _ rfl;have hx6_20:w17.cell? ⟨go16,(x3_0:Int).toNat*5+4,none⟩=some (.int .i64 ((rd_T69 x1_0 x3_0).f4)):=hcc16 4 _ rfl;have hf16_0:w17.frozen? ⟨go16,(x3_0:Int).toNat*5,none⟩=false:=hfr16 0;have hf16_1:w17.frozen? ⟨go16,(x3_0:Int).toNat*5+1,none⟩=false:=hfr16 1;have hf16_2:w17.frozen? ⟨go16,(x3_0:Int).toNat*5+2,none⟩=false:=hfr16 2;have hf16_3:w17.frozen? ⟨go16,(x3_0:Int).toNat*5+3,none⟩=false:=hfr16 3;have hf16_4:w17.frozen? ⟨go16,(x3_0:Int).toNat*5+4,none⟩=false:=hfr16 4;clear hcl16 hcc16 hfr16 hM16;replace p6:=eq_true p6;replace q6:=eq_true q6;have HX18:=ak (show Kd.R k69 69 w17 w.heap.size (fun _=>True) (.slice (some ⟨go16,0,none⟩) x1_0.length co6) x1_0 from(vr HO_1.1));obtain⟨ce18,hcl18,hM18,hcc18,hfr18⟩:=Kd.R_elem HX18.1 z69 (x3_0:Int) (od) (by have h_:(x3_0:Int)<((x1_0.length:Int):Int):=od;first|exact h_|(have e_:=(Kd.R_reads' HO_1.1).1;omega)|simpa using h_);obtain rfl:=k69_openM hM18;have HP18:=Kd.R_seg HX18.1 (x3_0:Int) (od) (by have h_:(x3_0:Int)<((x1_0.length:Int):Int):=od;first|exact h_|(have e_:=(Kd.R_reads' HO_1.1).1;omega)|simpa using h_) (seg:=[.int .i64 t9,.int .i64 t22,.int .i64 t23,.int .i64 t24,.int .i64 t25]) (j:=0) hcl18 hcc18 (show 5≤5 from by decide) (x':=(⟨t9,t22,t23,t24,t25⟩:S69)) (k69_mkM _ _ _ (⟨t9,t22,t23,t24,t25⟩:S69)) (fun _ hk=>hk);have hx11_5:=hcc18 0 _ rfl;(try simp only [show (k69).sz=5 from rfl,Nat.mul_one,Nat.add_zero] at hx11_5);have hf18_0:=hfr18 0;(try simp only [show (k69).sz=5 from rfl,Nat.mul_one,Nat.add_zero] at hf18_0);have hx11_19:=hcc18 1 _ rfl;(try simp only [show (k69).sz=5 from rfl,Nat.mul_one,Nat.add_zero] at hx11_19);have hf18_1:=hfr18 1;(try simp only [show (k69).sz=5 from rfl,Nat.mul_one,Nat.add_zero] at hf18_1);have hx11_0:=hcc18 2 _ rfl;(try simp only [show (k69).sz=5 from rfl,Nat.mul_one,Nat.add_zero] at hx11_0);have hf18_2:=hfr18 2;(try simp only [show (k69).sz=5 from rfl,Nat.mul_one,Nat.add_zero] at hf18_2);have hx11_2:=hcc18 3 _ rfl;(try simp only [show (k69).sz=5 from rfl,Nat.mul_one,Nat.add_zero] at hx11_2);have hf18_3:=hfr18 3;(try simp only [show (k69).sz=5 from rfl,Nat.mul_one,Nat.add_zero] at hf18_3);have hx11_20:=hcc18 4 _ rfl;(try simp only [show (k69).sz=5 from rfl,Nat.mul_one,Nat.add_zero] at hx11_20);have hf18_4:=hfr18 4;(try simp only [show (k69).sz=5 from rfl,Nat.mul_one,Nat.add_zero] at hf18_4);clear hcl18 hcc18 hfr18 hM18)|((with_reducible refine gate_store (t:=69) (p:=34) rfl ?_);refine store_event (t:=69) (p:=34) (v:=?vo_w19) (w1:=(((((w17.setCell ⟨go16,(x3_0:Int).toNat*5,none⟩ (.int .i64 t9)).setCell ⟨go16,(x3_0:Int).toNat*5+1,none⟩ (.int .i64 t22)).setCell ⟨go16,(x3_0:Int).toNat*5+2,none⟩ (.int .i64 t23)).setCell ⟨go16,(x3_0:Int).toNat*5+3,none⟩ (.int .i64 t24)).setCell ⟨go16,(x3_0:Int).toNat*5+4,none⟩ (.int .i64 t25))) ?hg ?ho ?hn ?hr ?_;(case ho=>rfl);(case hg=>rfl);(case hn=>rfl);(case hr=>first|(go_simp;done)|(go_simp;rfl));intro w19 hw;have hg:w17.grownBy w19 (some go16):=(by rw [hw];exact HP18.2);have hp_:Kd.R k69 69 w19 w.heap.size (fun _=>True) (.slice (some ⟨go16,0,none⟩) x1_0.length co6) y16:=(by rw [hw,Ny16.1];exact HP18.1);clear HP18;replace HO_1:=ak (hp_);replace HB:=ak ((by rw [hw];exact below_set (below_set (below_set (below_set (below_set (HB.1) GB16.1) GB16.1) GB16.1) GB16.1) GB16.1:Below w.heap.size w w19));clear hg hw hp_))
           go_roundg k2
           case measure=>have:=HJ2.1;have:=HK2.1;omega
           case rel=>exact⟨(y16),(wrap64 (x3_0+1)),es,H',⟨by have:=HJ2.1;have:=HK2.1;omega⟩,⟨vr HO_1.1⟩,⟨vb HB.1⟩⟩
          ·exact nO_ c15 H
         ·exact nO_ c13 H
        ·rw [if_neg c12] at H;have c12b0:=decide_eq_false c12;clear c12;have H':=ak H;clear H;go_wp2
         go_loopg [7] k2 (fun kq v4 w'=>∃(x1_2:List (S69)) (x4_2:Int),v4=.int .i64 x4_2∧Aside0 (laws_toAreaSg.l1 kq l0 x1_2 x4_2=some r)∧Aside0 (kq≤k2)∧Aside0 (Kd.R k69 69 w' w.heap.size (fun _=>True) v33 x1_2)∧Aside0 (Below w.heap.size w w'))
         case atStart=>exact⟨(x1_0),((l0.length:Int)),es,H',⟨Nat.le_refl _⟩,⟨vr HO_1.1⟩,⟨vb HB.1⟩⟩
         case round=>
          clear H';obtain⟨x1_2,x4_2,rfl,HA,HK3,HO_1,HB⟩:=hrel
          cases gk with
          |zero=>exact absurd HA.1 (by simp [laws_toAreaSg.l1])
          |succ k3=>
           have H:=HA.1;clear HA;simp only [laws_toAreaSg.l1] at H
           by_cases c20:x4_2<(x1_2.length:Int)
           ·rw [if_pos c20] at H;have c20b0:=decide_eq_true c20;clear c20;obtain⟨⟨t10,t26,t27,t28,t29⟩,A210,H⟩:=bnd H;dsimp only at H;have A21:=ak A210;clear A210;by_cases c22:0≤x4_2
            ·rw [if_pos c22] at H;have c22b0:=decide_eq_true c22;clear c22;obtain⟨y17,hy17⟩:=gen_ ((x1_2.set (x4_2:Int).toNat (⟨t10,t26,t27,t28,t29⟩:S69):List (S69)));rw [←hy17] at H;have Ny17:=ak hy17;clear hy17;have H':=ak H;clear H;obtain⟨Ao32,co32,rfl⟩:=Kd.R_slice HO_1.1;go_wp2_with (first|((with_reducible refine at_fn (f:=89) rfl ?_);refine gl (some 45) Try.func89 #[] ?_;(with_reducible refine(laws_fillerArea.calls t10 t26 t27 t28 t29 _ A21.1).mono ?_);rintro e w25 ⟨rfl,hb⟩;refine⟨_,rfl,?_⟩;replace HO_1:=rb HO_1 hb;replace HB:=bs HB hb;(try clear hb);have p7:0≤(x4_2:Int):=od;have q7:(x4_2:Int)<((x1_2.length:Int):Int):=od;obtain⟨go23,co7,eo7,gb7,gl23,cl23,HG7⟩:=Kd.R_form HO_1.1 (by omega);(first|cases eo7|(injection eo7 with ea_ en_ ec_;(first|subst ea_|(injection ea_ with ea_;subst ea_));subst ec_;clear en_));have GB23:=ak gb7;have GG23:=ak HG7;clear gb7 gl23 HG7;obtain⟨ce23,hcl23,hM23,hcc23,hfr23⟩:=Kd.R_elem HO_1.1 z69 (x4_2:Int) p7 q7;obtain rfl:=k69_openM hM23;have hx7_5:w25.cell? ⟨go23,(x4_2:Int).toNat*5,none⟩=some (.int .i64 ((rd_T69 x1_2 x4_2).f0)):=hcc23 0 _ rfl;have hx7_19:w25.cell? ⟨go23,(x4_2:Int).toNat*5+1,none⟩=some (.int .i64 ((rd_T69 x1_2 x4_2).f1)):=hcc23 1 _ rfl;have hx7_0:w25.cell? ⟨go23,(x4_2:Int).toNat*5+2,none⟩=some (.int .i64 ((rd_T69 x1_2 x4_2).f2)):=hcc23 2 _ rfl;have hx7_2:w25.cell? ⟨go23,(x4_2:Int).toNat*5+3,none⟩=some (.int .i64 ((rd_T69 x1_2 x4_2).f3)):=hcc23 3 _ rfl;have hx7_20:w25.cell? ⟨go23,(x4_2:Int).toNat*5+4,none⟩=some (.int .i64 ((rd_T69 x1_2 x4_2).f4)):=hcc23 4 _ rfl;have hf23_0:w25.frozen? ⟨go23,(x4_2:Int).toNat*5,none⟩=false:=hfr23 0;have hf23_1:w25.frozen? ⟨go23,(x4_2:Int).toNat*5+1,none⟩=false:=hfr23 1;have hf23_2:w25.frozen? ⟨go23,(x4_2:Int).toNat*5+2,none⟩=false:=hfr23 2;have hf23_3:w25.frozen? ⟨go23,(x4_2:Int).toNat*5+3,none⟩=false:=hfr23 3;have hf23_4:w25.frozen? ⟨go23,(x4_2:Int).toNat*5+4,none⟩=false:=hfr23 4;clear hcl23 hcc23 hfr23 hM23;replace p7:=eq_true p7;replace q7:=eq_true q7;have HX26:=ak (show Kd.R k69 69 w25 w.heap.size (fun _=>True) (.slice (some ⟨go23,0,none⟩) x1_2.length co32) x1_2 from(vr HO_1.1));obtain⟨ce26,hcl26,hM26,hcc26,hfr26⟩:=Kd.R_elem HX26.1 z69 (x4_2:Int) (od) (by have h_:(x4_2:Int)<((x1_2.length:Int):Int):=od;first|exact h_|(have e_:=(Kd.R_reads' HO_1.1).1;omega)|simpa using h_);obtain rfl:=k69_openM hM26;have HP26:=Kd.R_seg HX26.1 (x4_2:Int) (od) (by have h_:(x4_2:Int)<((x1_2.length:Int):Int):=od;first|exact h_|(have e_:=(Kd.R_reads' HO_1.1).1;omega)|simpa using h_) (seg:=[.int .i64 t10,.int .i64 t26,.int .i64 t27,.int .i64 t28,.int .i64 t29]) (j:=0) hcl26 hcc26 (show 5≤5 from by decide) (x':=(⟨t10,t26,t27,t28,t29⟩:S69)) (k69_mkM _ _ _ (⟨t10,t26,t27,t28,t29⟩:S69)) (fun _ hk=>hk);have hx12_5:=hcc26 0 _ rfl;(try simp only [show (k69).sz=5 from rfl,Nat.mul_one,Nat.add_zero] at hx12_5);have hf26_0:=hfr26 0;(try simp only [show (k69).sz=5 from rfl,Nat.mul_one,Nat.add_zero] at hf26_0);have hx12_19:=hcc26 1 _ rfl;(try simp only [show (k69).sz=5 from rfl,Nat.mul_one,Nat.add_zero] at hx12_19);have hf26_1:=hfr26 1;(try simp only [show (k69).sz=5 from rfl,Nat.mul_one,Nat.add_zero] at hf26_1);have hx12_0:=hcc26 2 _ rfl;(try simp only [show (k69).sz=5 from rfl,Nat.mul_one,Nat.add_zero] at hx12_0);have hf26_2:=hfr26 2;(try simp only [show (k69).sz=5 from rfl,Nat.mul_one,Nat.add_zero] at hf26_2);have hx12_2:=hcc26 3 _ rfl;(try simp only [show (k69).sz=5 from rfl,Nat.mul_one,Nat.add_zero] at hx12_2);have hf26_3:=hfr26 3;(try simp only [show (k69).sz=5 from rfl,Nat.mul_one,Nat.add_zero] at hf26_3);have hx12_20:=hcc26 4 _ rfl;(try simp only [show (k69).sz=5 from rfl,Nat.mul_one,Nat.add_zero] at hx12_20);have hf26_4:=hfr26 4;(try simp only [show (k69).sz=5 from rfl,Nat.mul_one,Nat.add_zero] at hf26_4);clear hcl26 hcc26 hfr26 hM26)|((with_reducible refine gate_store (t:=69) (p:=46) rfl ?_);refine store_event (t:=69) (p:=46) (v:=?vo_w27) (w1:=(((((w25.setCell ⟨go23,(x4_2:Int).toNat*5,none⟩ (.int .i64 t10)).setCell ⟨go23,(x4_2:Int).toNat*5+1,none⟩ (.int .i64 t26)).setCell ⟨go23,(x4_2:Int).toNat*5+2,none⟩ (.int .i64 t27)).setCell ⟨go23,(x4_2:Int).toNat*5+3,none⟩ (.int .i64 t28)).setCell ⟨go23,(x4_2:Int).toNat*5+4,none⟩ (.int .i64 t29))) ?hg ?ho ?hn ?hr ?_;(case ho=>rfl);(case hg=>rfl);(case hn=>rfl);(case hr=>first|(go_simp;done)|(go_simp;rfl));intro w27 hw;have hg:w25.grownBy w27 (some go23):=(by rw [hw];exact HP26.2);have hp_:Kd.R k69 69 w27 w.heap.size (fun _=>True) (.slice (some ⟨go23,0,none⟩) x1_2.length co32) y17:=(by rw [hw,Ny17.1];exact HP26.1);clear HP26;replace HO_1:=ak (hp_);replace HB:=ak ((by rw [hw];exact below_set (below_set (below_set (below_set (below_set (HB.1) GB23.1) GB23.1) GB23.1) GB23.1) GB23.1:Below w.heap.size w w27));clear hg hw hp_))
             go_roundg k3
             case measure=>have:=HJ2.1;have:=HK2.1;have:=HK3.1;omega
             case rel=>exact⟨(y17),(wrap64 (x4_2+1)),es,H',⟨by have:=HJ2.1;have:=HK2.1;have:=HK3.1;omega⟩,⟨vr HO_1.1⟩,⟨vb HB.1⟩⟩
            ·exact nO_ c22 H
           ·rw [if_neg c20] at H;have c20b0:=decide_eq_false c20;clear c20;by_cases c28:0≤(l0.length:Int)
            ·rw [if_pos c28] at H;have c28b0:=eq_true c28;have c28b1:decide (0≤(l0.length:Int))=true:=decide_eq_true c28;clear c28;by_cases c29:(l0.length:Int)≤(x1_2.length:Int)
             ·rw [if_pos c29] at H;have c29b0:=eq_true c29;have c29b1:decide ((l0.length:Int)≤(x1_2.length:Int))=true:=decide_eq_true c29;clear c29;obtain⟨y13,hy13⟩:∃y_:List (S69),y_=(x1_2.take ((l0.length:Int):Int).toNat):=⟨_,rfl⟩;have Ny13:=ak hy13;clear hy13;obtain rfl:=sj H;obtain⟨Ao31,co31,rfl⟩:=Kd.R_slice HO_1.1;have q21:((l0.length:Int):Int)≤((x1_2.length:Int):Int):=od;obtain⟨i031,hi031,_,hsz31,_⟩:=info_parts info69;have hcut31:=cut_to (P:=Try.prog) 25 69 .i64 Try.underlying25 hi031 Ao31 x1_2.length co31 (l0.length:Int) (od) q21 (Kd.R_reads' HO_1.1).2.1;have hr31:=Kd.R_take (m:=((l0.length:Int):Int).toNat) HO_1.1 (by omega);have hy21:y13.length=((l0.length:Int):Int).toNat:=(by rw [Ny13.1,List.length_take];omega);rw [←Ny13.1] at hr31;rw [←hy21] at hr31 hcut31;clear hy21 hi031 hsz31;have HO35:=ak hr31;clear hr31;replace q21:=eq_true q21;go_wp2
              go_ret
              exact⟨Ao31,co31,(by rw [show vis l0.length x1_2.length=y13.length from by rw [Ny13.1,Int.toNat_natCast,List.length_take];rfl];rfl),vr HO_1.1,vb HB.1⟩
             ·exact nO_ c29 H
            ·exact nO_ c28 H
     ·exact nO_ c9 H
    ·exact nO_ c8 H
def laws_toAreaS.conv (x:S98):S69:=⟨x.f0,x.f1,x.f2,x.f3,x.f4⟩
theorem laws_toAreaS.w1 {i n:Nat} (h:i<n) (hn:n≤4000000):wrap64 ((i:Int)+1)=((i+1:Nat):Int):=by unfold wrap64;omega
theorem laws_toAreaS.l1_eval (x5:List S98) (d:Nat):∀(k:Nat) (F:List S69) (i:Nat),x5.length≤i→F.length=i+d→F.length≤4000000→d<k→
  laws_toAreaSg.l1 k x5 F (i:Int)=some (F.take i++List.replicate d (⟨(-7000000000000000101),(-7000000000000000101),(-7000000000000000101),(-7000000000000000101),(-7000000000000000101)⟩:S69)):=by
 induction d with
 |zero=>
  intro k F i h0 h1 h2 h3;obtain⟨k,rfl⟩:∃m,k=m+1:=⟨k-1,by omega⟩;simp only [laws_toAreaSg.l1]
  rw [if_neg (by omega),if_pos (by omega),if_pos (by omega)];simp [List.take_of_length_le (show F.length≤i by omega)]
 |succ d ih=>
  intro k F i h0 h1 h2 h3;obtain⟨k,rfl⟩:∃m,k=m+1:=⟨k-1,by omega⟩;have e:=ih k (F.set i (⟨(-7000000000000000101),(-7000000000000000101),(-7000000000000000101),(-7000000000000000101),(-7000000000000000101)⟩:S69)) (i+1) (by omega) (by simp;omega) (by simpa using h2) (by omega);simp only [laws_toAreaSg.l1,laws_fillerArea.f,Option.bind_some]
  rw [if_pos (by omega),if_pos (by omega),laws_toAreaS.w1 (n:=F.length) (by omega) h2,Int.toNat_natCast];refine Eq.trans e ?_;rw [take_succ_set F i (⟨(-7000000000000000101),(-7000000000000000101),(-7000000000000000101),(-7000000000000000101),(-7000000000000000101)⟩:S69) (by omega),List.append_assoc];rfl
theorem laws_toAreaS.l0_eval (x5:List S98) (d:Nat):∀(k:Nat) (F:List S69) (i:Nat),x5.length=i+d→x5.length≤F.length→F.length≤4000000→d+(F.length-x5.length)+1<k→
  laws_toAreaSg.l0 k x5 F (i:Int)=some (F.take i++(x5.drop i).map laws_toAreaS.conv++List.replicate (F.length-x5.length) (⟨(-7000000000000000101),(-7000000000000000101),(-7000000000000000101),(-7000000000000000101),(-7000000000000000101)⟩:S69)):=by
 induction d with
 |zero=>
  intro k F i h0 h1 h2 h3;obtain⟨k,rfl⟩:∃m,k=m+1:=⟨k-1,by omega⟩;simp only [laws_toAreaSg.l0]
  have hi:i=x5.length:=by omega
  subst hi;rw [if_neg (by omega),laws_toAreaS.l1_eval x5 (F.length-x5.length) k F x5.length (Nat.le_refl _) (by omega) h2 (by omega)];simp
 |succ d ih=>
  intro k F i h0 h1 h2 h3;obtain⟨k,rfl⟩:∃m,k=m+1:=⟨k-1,by omega⟩;have hlt:i<x5.length:=by omega
  have e:=ih k (F.set i (laws_toAreaS.conv x5[i])) (i+1) (by omega) (by simpa using h1) (by simpa using h2) (by simp;omega);simp only [laws_toAreaSg.l0,laws_toArea.f,Option.bind_some]
  have hr:rd_T98 x5 (i:Int)=x5[i]:=by simp [rd_T98,hlt]
  rw [if_pos (by omega),if_pos (by omega),if_pos (by omega),laws_toAreaS.w1 (n:=F.length) (by omega) h2,Int.toNat_natCast,hr];refine Eq.trans e ?_;rw [take_succ_set F i (laws_toAreaS.conv x5[i]) (by omega),List.length_set,List.drop_eq_getElem_cons hlt];simp only [List.map_cons,List.append_assoc,List.cons_append,List.nil_append]
theorem laws_toAreaS.g_eval (l0:List S98) (a1:Bool) (h:l0.length≤1000000):∃k,laws_toAreaSg.f k l0 a1=some (if a1=true∧l0=[] then [] else full (l0.map laws_toAreaS.conv)):=by
 obtain⟨K,hK⟩:∃K,K=l0.length+roomN l0.length+5:=⟨_,rfl⟩;refine⟨K+1,?_⟩;have hr:=room_f l0.length;have hl:roomN l0.length≤1000000:=by unfold roomN;(repeat' split)<;>omega
 have hj:laws_toAreaSg.j0 (K+1) l0 false=some (full (l0.map laws_toAreaS.conv)):=by
  simp only [laws_toAreaSg.j0]
  rw [if_neg (by decide),hr];rw [Option.bind_some];have hw:wrap64 ((l0.length:Int)+((roomN l0.length:Nat):Int))=((l0.length+roomN l0.length:Nat):Int):=by unfold wrap64;omega
  rw [hw,if_pos (by omega),if_pos (by omega),Int.toNat_natCast];have e:=laws_toAreaS.l0_eval l0 l0.length K (List.replicate (l0.length+roomN l0.length) z69) 0 (by omega) (by simp) (by simp<;>omega) (by simp<;>omega);refine Eq.trans e ?_;simp [full,Fil.fil]
  try rfl
 unfold laws_toAreaSg.f
 by_cases h1:a1=true
 ·rw [if_pos h1];by_cases h2:l0=[]
  ·subst h2;rw [if_pos ⟨h1,rfl⟩];simp only [laws_toAreaSg.j0]
   rw [if_pos (by decide)]
  ·rw [if_neg (fun h3=>h2 h3.2)]
   have h3:((l0.length:Int)==0)=false:=by
    have:l0.length≠0:=fun h4=>h2 (List.length_eq_zero_iff.1 h4)
    rw [beq_eq_false_iff_ne];omega
   rw [h3];exact hj
 ·rw [if_neg h1,if_neg (fun h2=>h1 h2.1)];exact hj
def laws_toAreaS.f (_k:Nat) (l0:List S98) (_a1:Bool):Option (List S69):=if l0.length≤1000000 then some (l0.map laws_toAreaS.conv) else none
theorem laws_toAreaS.callsF (k:Nat) (A0:Option Addr) (c0:Nat) (l0:List S98) (r:List S69) (w:World) (hr0:Kd.C k98 w A0 l0.length l0) (hc0:l0.length≤c0) (h:laws_toAreaS.f k l0 false=some r):
  Calls Try.prog 64 #[.slice A0 l0.length c0,.bool false] w fun e w'=>∃v0_:Value,e=.returned (v0_)∧Kd.P k69 69 w' w.heap.size (fun _=>True) v0_ r∧Below w.heap.size w w':=by
 unfold laws_toAreaS.f at h
 split at h
 ·rename_i hl
  obtain rfl:=Option.some.inj h;obtain⟨k',hk⟩:=laws_toAreaS.g_eval l0 false hl;rw [if_neg (fun h2=>absurd h2.1 (by decide))] at hk;refine(laws_toAreaSg.calls k' A0 c0 l0 false _ w hr0 hc0 hk).mono ?_;rintro e w' ⟨A_,c_,rfl,h1,h2⟩;refine⟨_,rfl,⟨fun _ _=>trivial,A_,c_,?_,h1⟩,h2⟩;first|(rw [vis_le (by simp [full])];done)|(rw [vis_le (by simp [full])];simp)
 ·exact absurd h (by simp)
theorem laws_toAreaS.calls (k:Nat) (A0:Option Addr) (c0:Nat) (l0:List S98) (a1:Bool) (r:List S69) (w:World) (hr0:Kd.C k98 w A0 l0.length l0) (hc0:l0.length≤c0) (h:laws_toAreaS.f k l0 a1=some r):
  Calls Try.prog 64 #[.slice A0 l0.length c0,.bool a1] w fun e w'=>∃v0_:Value,e=.returned (v0_)∧Kd.R k69 69 w' w.heap.size (fun _=>True) v0_ r∧Below w.heap.size w w':=by
 unfold laws_toAreaS.f at h
 split at h
 ·rename_i hl
  obtain rfl:=Option.some.inj h;obtain⟨k',hk⟩:=laws_toAreaS.g_eval l0 a1 hl;refine(laws_toAreaSg.calls k' A0 c0 l0 a1 _ w hr0 hc0 hk).mono ?_;rintro e w' ⟨A_,c_,rfl,h1,h2⟩;refine⟨_,rfl,?_,h2⟩;by_cases hz:a1=true∧l0=[]
  ·obtain⟨rfl,rfl⟩:=hz;rw [if_pos ⟨rfl,rfl⟩] at h1 ⊢;simpa [vis_zero] using h1
  ·rw [if_neg hz] at h1 ⊢;have:=Kd.R_take h1 (m:=l0.length) (by simp [full]);rw [vis_le (by simp [full])];simpa [full] using this
 ·exact absurd h (by simp)
def laws_toField.f (k:Nat) (l0_0:List (S95)) (l0_1:List (S98)) (l0_2:List Int) (l0_3:List Int) (l0_4:List Int) (a0_5:Int) (a1:Bool):Option ((List (S91))×(List (S69))×List Int×List Int×List Int×Int):=(laws_toDemandS.f k l0_0 a1).bind fun t10=>((laws_toAreaS.f k l0_1 a1).bind fun t11=>((laws_toInt64S.f k l0_2 a1).bind fun t13=>((laws_toInt64S.f k l0_3 a1).bind fun t14=>((laws_toInt64S.f k l0_4 a1).bind fun t9=>(some (t10,t11,t13,t14,t9,a0_5))))))
theorem laws_toField.calls (k:Nat) (A0_0:Option Addr) (c0_0:Nat) (l0_0:List (S95)) (A0_1:Option Addr) (c0_1:Nat) (l0_1:List (S98)) (A0_2:Option Addr) (c0_2:Nat) (l0_2:List Int) (A0_3:Option Addr) (c0_3:Nat) (l0_3:List Int) (A0_4:Option Addr) (c0_4:Nat) (l0_4:List Int) (a0_5:Int) (a1:Bool) (r1:List (S91)) (r2:List (S69)) (r3:List Int) (r4:List Int) (r5:List Int) (r6:Int) (w:World) (hr0_0:Kd.C k95 w A0_0 l0_0.length l0_0) (hc0_0:l0_0.length≤c0_0) (hr0_1:Kd.C k98 w A0_1 l0_1.length l0_1) (hc0_1:l0_1.length≤c0_1) (hr0_2:Kd.C (Kd.int .i64) w A0_2 l0_2.length l0_2) (hc0_2:l0_2.length≤c0_2) (hr0_3:Kd.C (Kd.int .i64) w A0_3 l0_3.length l0_3) (hc0_3:l0_3.length≤c0_3) (hr0_4:Kd.C (Kd.int .i64) w A0_4 l0_4.length l0_4) (hc0_4:l0_4.length≤c0_4) (h:laws_toField.f k l0_0 l0_1 l0_2 l0_3 l0_4 a0_5 a1=some (r1,r2,r3,r4,r5,r6)):
  Calls Try.prog 26 #[.agg (f5 A0_0 l0_0 c0_0 A0_1 l0_1 c0_1 A0_2 l0_2 c0_2 A0_3 l0_3 c0_3 A0_4 l0_4 c0_4 a0_5),.bool a1] w fun e w'=>∃v0_ v1_ v2_ v3_ v4_:Value,e=.returned (.agg #[v0_,v1_,v2_,v3_,v4_,.int .i64 r6])∧Kd.R k91 91 w' w.heap.size (fun _=>True) v0_ r1∧Kd.R k69 69 w' w.heap.size (fun _=>True) v1_ r2∧Kd.R (Kd.int .i64) 2 w' w.heap.size (fun k_=>some k_≠(v3_:Value).ownBlock∧some k_≠(v4_:Value).ownBlock) v2_ r3∧Kd.R (Kd.int .i64) 2 w' w.heap.size (fun k_=>some k_≠(v2_:Value).ownBlock∧some k_≠(v4_:Value).ownBlock) v3_ r4∧Kd.R (Kd.int .i64) 2 w' w.heap.size (fun k_=>some k_≠(v2_:Value).ownBlock∧some k_≠(v3_:Value).ownBlock) v4_ r5∧Below w.heap.size w w':=by
 have hu47:=Try.underlying47;have hu28:=Try.underlying28;have HR0_0:=ak hr0_0;have HC0_0:=ak hc0_0;clear hr0_0 hc0_0;have HR0_1:=ak hr0_1;have HC0_1:=ak hc0_1;clear hr0_1 hc0_1;have HR0_2:=ak hr0_2;have HC0_2:=ak hc0_2;clear hr0_2 hc0_2;have HR0_3:=ak hr0_3;have HC0_3:=ak hc0_3;clear hr0_3 hc0_3;have HR0_4:=ak hr0_4;have HC0_4:=ak hc0_4;clear hr0_4 hc0_4;have HB:=ak (Below.refl w.heap.size w);unfold laws_toField.f at h;have H:=h;clear h;obtain⟨t10,A3,H⟩:=bnk H;obtain⟨t11,A4,H⟩:=bnk H
 obtain⟨t13,A5,H⟩:=bnk H;obtain⟨t14,A6,H⟩:=bnk H;obtain⟨t9,A7,H⟩:=bnk H;simp only [Option.some.injEq,Prod.mk.injEq] at H
 obtain⟨rfl,rfl,rfl,rfl,rfl,rfl⟩:=H;go_enter Try.func26,Try.ntmps26;go_wp2_with (first|((with_reducible refine gate_dst (N:=2) rfl ?_);refine bx 2 (f5 A0_0 l0_0 c0_0 A0_1 l0_1 c0_1 A0_2 l0_2 c0_2 A0_3 l0_3 c0_3 A0_4 l0_4 c0_4 a0_5) 47 ?_;intro gb2 hg w8 hbox hb;have BK2:=ak hbox;have GW1169:=gw hg HB;have GE2:=gw hg HB;replace HB:=bs HB hb;clear hb hbox hg)|((with_reducible refine gate_dst (N:=4) rfl ?_);refine bx 4 #[.slice none 0 0,.slice none 0 0,.slice none 0 0,.slice none 0 0,.slice none 0 0,.int .i64 0] 28 ?_;intro gb0 hg w9 hbox hb;have BK0:=ak hbox;have GW1170:=gw hg HB;have GE0:=gw hg HB;replace HB:=bs HB hb;have NB2_0:=nl hg BK2;have NB0_2:=nr hg BK2;replace BK2:=kb BK2 hb;clear hb hbox hg)|((with_reducible refine gate_dst (N:=5) rfl ?_);refine bx 5 #[.slice none 0 0,.slice none 0 0,.slice none 0 0,.slice none 0 0,.slice none 0 0,.int .i64 0] 28 ?_;intro gb1 hg w10 hbox hb;have BK1:=ak hbox;have GW1171:=gw hg HB;have GE1:=gw hg HB;replace HB:=bs HB hb;have NB2_1:=nl hg BK2;have NB1_2:=nr hg BK2;replace BK2:=kb BK2 hb;have NB0_1:=nl hg BK0;have NB1_0:=nr hg BK0;replace BK0:=kb BK0 hb;clear hb hbox hg;have:=NB2_0.1;have:=NB0_2.1;have:=NB2_1.1;have:=NB1_2.1;have hcz19:=cz6 BK2.1)|((with_reducible refine at_fn (f:=63) rfl ?_);refine gl (some 9) Try.func63 #[.slice A0_0 l0_0.length c0_0,.bool a1] ?_;(with_reducible refine(laws_toDemandS.calls k _ _ l0_0 a1 t10 _ ?_ HC0_0.1 A3.1).mono ?_);exact vd HR0_0.1 HB.1;rintro e w14 ⟨v31,rfl,ho7,hb⟩;refine⟨_,rfl,?_⟩;have HO12:=ak (Kd.R_lower ho7 (below_size (vb HB.1)));replace BK2:=kb BK2 hb;replace BK0:=kb BK0 hb;replace BK1:=kb BK1 hb;replace HB:=bs HB hb;(try clear hb);(try clear ho7);obtain⟨Ao4,co4,rfl⟩:=Kd.R_slice HO12.1;have:=NB1_0.1;have:=NB0_1.1;have hcz20:=cz6 BK1.1;have hcz21:=cz6 BK2.1)|((with_reducible refine at_fn (f:=64) rfl ?_);refine gl (some 14) Try.func64 #[.slice A0_1 l0_1.length c0_1,.bool a1] ?_;(with_reducible refine(laws_toAreaS.calls k _ _ l0_1 a1 t11 _ ?_ HC0_1.1 A4.1).mono ?_);exact Kd.C_below HR0_1.1 (vb HB.1);rintro e w19 ⟨v32,rfl,ho7,hb⟩;refine⟨_,rfl,?_⟩;replace HO12:=rbz HO12 BK1 hb;have HO15:=ak (Kd.R_lower ho7 (below_size (vb HB.1)));replace BK2:=kb BK2 hb;replace BK0:=kb BK0 hb;replace BK1:=ak (blk_below (g:=gb1) (o:=.cells #[.slice Ao4 t10.length co4,.slice none 0 0,.slice none 0 0,.slice none 0 0,.slice none 0 0,.int .i64 0] 28 (0,0)) (vz BK1.1) hb);replace HB:=bs HB hb;(try clear hb);(try clear ho7);obtain⟨Ao5,co5,rfl⟩:=Kd.R_slice HO15.1;have hcz22:=cz6 BK1.1;have hcz23:=cz6 BK2.1)|((with_reducible refine at_fn (f:=37) rfl ?_);refine gl (some 19) Try.func37 #[.slice A0_2 l0_2.length c0_2,.bool a1] ?_;(with_reducible refine(laws_toInt64S.calls k _ _ l0_2 a1 t13 _ ?_ HC0_2.1 A5.1).mono ?_);exact Kd.C_below HR0_2.1 (vb HB.1);rintro e w23 ⟨v33,rfl,ho7,hb⟩;refine⟨_,rfl,?_⟩;replace HO12:=rbz HO12 BK1 hb;replace HO15:=rbz HO15 BK1 hb;have HO16:=ak (Kd.R_lower ho7 (below_size (vb HB.1)));replace BK2:=kb BK2 hb;replace BK0:=kb BK0 hb;replace BK1:=ak (blk_below (g:=gb1) (o:=.cells #[.slice Ao4 t10.length co4,.slice Ao5 t11.length co5,.slice none 0 0,.slice none 0 0,.slice none 0 0,.int .i64 0] 28 (0,0)) (vz BK1.1) hb);replace HB:=bs HB hb;(try clear hb);(try clear ho7);obtain⟨Ao6,co6,rfl⟩:=Kd.R_slice HO16.1;have hcz24:=cz6 BK1.1;have hcz25:=cz6 BK2.1)|((with_reducible refine at_fn (f:=37) rfl ?_);refine gl (some 24) Try.func37 #[.slice A0_3 l0_3.length c0_3,.bool a1] ?_;(with_reducible refine(laws_toInt64S.calls k _ _ l0_3 a1 t14 _ ?_ HC0_3.1 A6.1).mono ?_);exact Kd.C_below HR0_3.1 (vb HB.1);rintro e w27 ⟨v34,rfl,ho7,hb⟩;refine⟨_,rfl,?_⟩;replace HO12:=rbz HO12 BK1 hb;replace HO15:=rbz HO15 BK1 hb;have HO17:=ak (Kd.R_lower (Kd.R_new' ho7 (Kd.R_lt (rz HO16.1 BK1.1))) (below_size (vb HB.1)));replace HO16:=roz HO16 BK1 ho7 hb;replace BK2:=kb BK2 hb;replace BK0:=kb BK0 hb;replace BK1:=ak (blk_below (g:=gb1) (o:=.cells #[.slice Ao4 t10.length co4,.slice Ao5 t11.length co5,.slice Ao6 t13.length co6,.slice none 0 0,.slice none 0 0,.int .i64 0] 28 (0,0)) (vz BK1.1) hb);replace HB:=bs HB hb;(try clear hb);(try clear ho7);obtain⟨Ao8,co8,rfl⟩:=Kd.R_slice HO17.1;have hcz26:=cz6 BK1.1;have hcz27:=cz6 BK2.1)|((with_reducible refine at_fn (f:=37) rfl ?_);refine gl (some 29) Try.func37 #[.slice A0_4 l0_4.length c0_4,.bool a1] ?_;(with_reducible refine(laws_toInt64S.calls k _ _ l0_4 a1 t9 _ ?_ HC0_4.1 A7.1).mono ?_);exact Kd.C_below HR0_4.1 (vb HB.1);rintro e w31 ⟨v35,rfl,ho7,hb⟩;refine⟨_,rfl,?_⟩;replace HO12:=rbz HO12 BK1 hb;replace HO15:=rbz HO15 BK1 hb;have HO18:=ak (Kd.R_lower (Kd.R_new' (Kd.R_new' ho7 (Kd.R_lt (rz HO16.1 BK1.1))) (Kd.R_lt (rz HO17.1 BK1.1))) (below_size (vb HB.1)));replace HO16:=roz HO16 BK1 ho7 hb;replace HO17:=roz HO17 BK1 ho7 hb;replace BK2:=kb BK2 hb;replace BK0:=kb BK0 hb;replace BK1:=ak (blk_below (g:=gb1) (o:=.cells #[.slice Ao4 t10.length co4,.slice Ao5 t11.length co5,.slice Ao6 t13.length co6,.slice Ao8 t14.length co8,.slice none 0 0,.int .i64 0] 28 (0,0)) (vz BK1.1) hb);replace HB:=bs HB hb;(try clear hb);(try clear ho7);obtain⟨Ao3,co3,rfl⟩:=Kd.R_slice HO18.1;have hcz28:=cz6 BK1.1;have hcz29:=cz6 BK2.1;have hcz30:=cz6 BK0.1))
 refine bodyPost_ret (results_cell_row rfl _ _ gb0 28 (f5 Ao4 t10 co4 Ao5 t11 co5 Ao6 t13 co6 Ao8 t14 co8 Ao3 t9 co3 a0_5) (0,0) _ rfl (vz BK0.1) Try.underlying28 rfl (by kernel_rfl)) rfl ?_;exact⟨_,_,_,_,_,ew,vr (Kd.R_mono (fr gb0 5 (fr gb0 4 (fr gb0 3 (fr gb0 2 (fr gb0 1 (fr gb0 0 (fr gb1 5 (fr gb1 4 (Kd.R_types (Kd.R_types HO12.1 BK1.1 (by decide)) BK0.1 (by decide)) (fun _ hk=>hk.1.2) (.slice Ao3 t9.length co3)) (fun _ hk=>hk.1.2) (.int .i64 a0_5)) (fun _ hk=>hk.2) (.slice Ao4 t10.length co4)) (fun _ hk=>hk.2) (.slice Ao5 t11.length co5)) (fun _ hk=>hk.2) (.slice Ao6 t13.length co6)) (fun _ hk=>hk.2) (.slice Ao8 t14.length co8)) (fun _ hk=>hk.2) (.slice Ao3 t9.length co3)) (fun _ hk=>hk.2) (.int .i64 a0_5)) (fun _ hk=>trivial)),vr (Kd.R_mono (fr gb0 5 (fr gb0 4 (fr gb0 3 (fr gb0 2 (fr gb0 1 (fr gb0 0 (fr gb1 5 (fr gb1 4 (Kd.R_types (Kd.R_types HO15.1 BK1.1 (by decide)) BK0.1 (by decide)) (fun _ hk=>hk.1.2) (.slice Ao3 t9.length co3)) (fun _ hk=>hk.1.2) (.int .i64 a0_5)) (fun _ hk=>hk.2) (.slice Ao4 t10.length co4)) (fun _ hk=>hk.2) (.slice Ao5 t11.length co5)) (fun _ hk=>hk.2) (.slice Ao6 t13.length co6)) (fun _ hk=>hk.2) (.slice Ao8 t14.length co8)) (fun _ hk=>hk.2) (.slice Ao3 t9.length co3)) (fun _ hk=>hk.2) (.int .i64 a0_5)) (fun _ hk=>trivial)),vr (Kd.R_mono (fr gb0 5 (fr gb0 4 (fr gb0 3 (fr gb0 2 (fr gb0 1 (fr gb0 0 (fr gb1 5 (fr gb1 4 (Kd.R_types (Kd.R_types HO16.1 BK1.1 (by decide)) BK0.1 (by decide)) (fun _ hk=>hk.1.2) (.slice Ao3 t9.length co3)) (fun _ hk=>hk.1.2) (.int .i64 a0_5)) (fun _ hk=>hk.2) (.slice Ao4 t10.length co4)) (fun _ hk=>hk.2) (.slice Ao5 t11.length co5)) (fun _ hk=>hk.2) (.slice Ao6 t13.length co6)) (fun _ hk=>hk.2) (.slice Ao8 t14.length co8)) (fun _ hk=>hk.2) (.slice Ao3 t9.length co3)) (fun _ hk=>hk.2) (.int .i64 a0_5)) (fun _ hk=>⟨hk.1.1.1.2,hk.1.1.2⟩)),vr (Kd.R_mono (fr gb0 5 (fr gb0 4 (fr gb0 3 (fr gb0 2 (fr gb0 1 (fr gb0 0 (fr gb1 5 (fr gb1 4 (Kd.R_types (Kd.R_types HO17.1 BK1.1 (by decide)) BK0.1 (by decide)) (fun _ hk=>hk.1.2) (.slice Ao3 t9.length co3)) (fun _ hk=>hk.1.2) (.int .i64 a0_5)) (fun _ hk=>hk.2) (.slice Ao4 t10.length co4)) (fun _ hk=>hk.2) (.slice Ao5 t11.length co5)) (fun _ hk=>hk.2) (.slice Ao6 t13.length co6)) (fun _ hk=>hk.2) (.slice Ao8 t14.length co8)) (fun _ hk=>hk.2) (.slice Ao3 t9.length co3)) (fun _ hk=>hk.2) (.int .i64 a0_5)) (fun _ hk=>⟨hk.1.1.1.2,hk.1.1.2⟩)),vr (Kd.R_mono (fr gb0 5 (fr gb0 4 (fr gb0 3 (fr gb0 2 (fr gb0 1 (fr gb0 0 (fr gb1 5 (fr gb1 4 (Kd.R_types (Kd.R_types HO18.1 BK1.1 (by decide)) BK0.1 (by decide)) (fun _ hk=>hk.1.2) (.slice Ao3 t9.length co3)) (fun _ hk=>hk.1.2) (.int .i64 a0_5)) (fun _ hk=>hk.2) (.slice Ao4 t10.length co4)) (fun _ hk=>hk.2) (.slice Ao5 t11.length co5)) (fun _ hk=>hk.2) (.slice Ao6 t13.length co6)) (fun _ hk=>hk.2) (.slice Ao8 t14.length co8)) (fun _ hk=>hk.2) (.slice Ao3 t9.length co3)) (fun _ hk=>hk.2) (.int .i64 a0_5)) (fun _ hk=>⟨hk.1.1.1.2,hk.1.1.2⟩)),vb HB.1⟩
theorem laws_toField.callsF (k:Nat) (A0_0:Option Addr) (c0_0:Nat) (l0_0:List (S95)) (A0_1:Option Addr) (c0_1:Nat) (l0_1:List (S98)) (A0_2:Option Addr) (c0_2:Nat) (l0_2:List Int) (A0_3:Option Addr) (c0_3:Nat) (l0_3:List Int) (A0_4:Option Addr) (c0_4:Nat) (l0_4:List Int) (a0_5:Int) (r1:List (S91)) (r2:List (S69)) (r3:List Int) (r4:List Int) (r5:List Int) (r6:Int) (w:World) (hr0_0:Kd.C k95 w A0_0 l0_0.length l0_0) (hc0_0:l0_0.length≤c0_0) (hr0_1:Kd.C k98 w A0_1 l0_1.length l0_1) (hc0_1:l0_1.length≤c0_1) (hr0_2:Kd.C (Kd.int .i64) w A0_2 l0_2.length l0_2) (hc0_2:l0_2.length≤c0_2) (hr0_3:Kd.C (Kd.int .i64) w A0_3 l0_3.length l0_3) (hc0_3:l0_3.length≤c0_3) (hr0_4:Kd.C (Kd.int .i64) w A0_4 l0_4.length l0_4) (hc0_4:l0_4.length≤c0_4) (h:laws_toField.f k l0_0 l0_1 l0_2 l0_3 l0_4 a0_5 false=some (r1,r2,r3,r4,r5,r6)):
  Calls Try.prog 26 #[.agg (f5 A0_0 l0_0 c0_0 A0_1 l0_1 c0_1 A0_2 l0_2 c0_2 A0_3 l0_3 c0_3 A0_4 l0_4 c0_4 a0_5),.bool false] w fun e w'=>∃v0_ v1_ v2_ v3_ v4_:Value,e=.returned (.agg #[v0_,v1_,v2_,v3_,v4_,.int .i64 r6])∧Kd.P k91 91 w' w.heap.size (fun _=>True) v0_ r1∧Kd.P k69 69 w' w.heap.size (fun _=>True) v1_ r2∧Kd.P (Kd.int .i64) 2 w' w.heap.size (fun k_=>some k_≠(v3_:Value).ownBlock∧some k_≠(v4_:Value).ownBlock) v2_ r3∧Kd.P (Kd.int .i64) 2 w' w.heap.size (fun k_=>some k_≠(v2_:Value).ownBlock∧some k_≠(v4_:Value).ownBlock) v3_ r4∧Kd.P (Kd.int .i64) 2 w' w.heap.size (fun k_=>some k_≠(v2_:Value).ownBlock∧some k_≠(v3_:Value).ownBlock) v4_ r5∧Below w.heap.size w w':=by
 have hu47:=Try.underlying47;have hu28:=Try.underlying28;have HR0_0:=ak hr0_0;have HC0_0:=ak hc0_0;clear hr0_0 hc0_0;have HR0_1:=ak hr0_1;have HC0_1:=ak hc0_1;clear hr0_1 hc0_1;have HR0_2:=ak hr0_2;have HC0_2:=ak hc0_2;clear hr0_2 hc0_2;have HR0_3:=ak hr0_3;have HC0_3:=ak hc0_3;clear hr0_3 hc0_3;have HR0_4:=ak hr0_4;have HC0_4:=ak hc0_4;clear hr0_4 hc0_4;have HB:=ak (Below.refl w.heap.size w);unfold laws_toField.f at h;have H:=h;clear h;obtain⟨t10,A3,H⟩:=bnk H;obtain⟨t11,A4,H⟩:=bnk H
 obtain⟨t13,A5,H⟩:=bnk H;obtain⟨t14,A6,H⟩:=bnk H;obtain⟨t9,A7,H⟩:=bnk H;simp only [Option.some.injEq,Prod.mk.injEq] at H
 obtain⟨rfl,rfl,rfl,rfl,rfl,rfl⟩:=H;go_enter Try.func26,Try.ntmps26;go_wp2_with (first|((with_reducible refine gate_dst (N:=2) rfl ?_);refine bx 2 (f5 A0_0 l0_0 c0_0 A0_1 l0_1 c0_1 A0_2 l0_2 c0_2 A0_3 l0_3 c0_3 A0_4 l0_4 c0_4 a0_5) 47 ?_;intro gb2 hg w8 hbox hb;have BK2:=ak hbox;have GW1169:=gw hg HB;have GE2:=gw hg HB;replace HB:=bs HB hb;clear hb hbox hg)|((with_reducible refine gate_dst (N:=4) rfl ?_);refine bx 4 #[.slice none 0 0,.slice none 0 0,.slice none 0 0,.slice none 0 0,.slice none 0 0,.int .i64 0] 28 ?_;intro gb0 hg w9 hbox hb;have BK0:=ak hbox;have GW1170:=gw hg HB;have GE0:=gw hg HB;replace HB:=bs HB hb;have NB2_0:=nl hg BK2;have NB0_2:=nr hg BK2;replace BK2:=kb BK2 hb;clear hb hbox hg)|((with_reducible refine gate_dst (N:=5) rfl ?_);refine bx 5 #[.slice none 0 0,.slice none 0 0,.slice none 0 0,.slice none 0 0,.slice none 0 0,.int .i64 0] 28 ?_;intro gb1 hg w10 hbox hb;have BK1:=ak hbox;have GW1171:=gw hg HB;have GE1:=gw hg HB;replace HB:=bs HB hb;have NB2_1:=nl hg BK2;have NB1_2:=nr hg BK2;replace BK2:=kb BK2 hb;have NB0_1:=nl hg BK0;have NB1_0:=nr hg BK0;replace BK0:=kb BK0 hb;clear hb hbox hg;have:=NB2_0.1;have:=NB0_2.1;have:=NB2_1.1;have:=NB1_2.1;have hcz19:=cz6 BK2.1)|((with_reducible refine at_fn (f:=63) rfl ?_);refine gl (some 9) Try.func63 #[.slice A0_0 l0_0.length c0_0,.bool false] ?_;(with_reducible refine(laws_toDemandS.callsF k _ _ l0_0 t10 _ ?_ HC0_0.1 A3.1).mono ?_);exact vd HR0_0.1 HB.1;rintro e w14 ⟨v31,rfl,ho7,hb⟩;refine⟨_,rfl,?_⟩;have HO12:=ak (Kd.P_lower ho7 (below_size (vb HB.1)));replace BK2:=kb BK2 hb;replace BK0:=kb BK0 hb;replace BK1:=kb BK1 hb;replace HB:=bs HB hb;(try clear hb);(try clear ho7);obtain⟨Ao4,co4,eo4⟩:=Kd.P_slice HO12.1;subst eo4;have:=NB1_0.1;have:=NB0_1.1;have hcz20:=cz6 BK1.1;have hcz21:=cz6 BK2.1)|((with_reducible refine at_fn (f:=64) rfl ?_);refine gl (some 14) Try.func64 #[.slice A0_1 l0_1.length c0_1,.bool false] ?_;(with_reducible refine(laws_toAreaS.callsF k _ _ l0_1 t11 _ ?_ HC0_1.1 A4.1).mono ?_);exact Kd.C_below HR0_1.1 (vb HB.1);rintro e w19 ⟨v32,rfl,ho7,hb⟩;refine⟨_,rfl,?_⟩;replace HO12:=ak (Kd.P_below (pz HO12.1 BK1.1) hb);have HO15:=ak (Kd.P_lower ho7 (below_size (vb HB.1)));replace BK2:=kb BK2 hb;replace BK0:=kb BK0 hb;replace BK1:=ak (blk_below (g:=gb1) (o:=.cells #[.slice Ao4 t10.length co4,.slice none 0 0,.slice none 0 0,.slice none 0 0,.slice none 0 0,.int .i64 0] 28 (0,0)) (vz BK1.1) hb);replace HB:=bs HB hb;(try clear hb);(try clear ho7);obtain⟨Ao5,co5,eo5⟩:=Kd.P_slice HO15.1;subst eo5;have hcz22:=cz6 BK1.1;have hcz23:=cz6 BK2.1)|((with_reducible refine at_fn (f:=37) rfl ?_);refine gl (some 19) Try.func37 #[.slice A0_2 l0_2.length c0_2,.bool false] ?_;(with_reducible refine(laws_toInt64S.callsF k _ _ l0_2 t13 _ ?_ HC0_2.1 A5.1).mono ?_);exact Kd.C_below HR0_2.1 (vb HB.1);rintro e w23 ⟨v33,rfl,ho7,hb⟩;refine⟨_,rfl,?_⟩;replace HO12:=ak (Kd.P_below (pz HO12.1 BK1.1) hb);replace HO15:=ak (Kd.P_below (pz HO15.1 BK1.1) hb);have HO16:=ak (Kd.P_lower ho7 (below_size (vb HB.1)));replace BK2:=kb BK2 hb;replace BK0:=kb BK0 hb;replace BK1:=ak (blk_below (g:=gb1) (o:=.cells #[.slice Ao4 t10.length co4,.slice Ao5 t11.length co5,.slice none 0 0,.slice none 0 0,.slice none 0 0,.int .i64 0] 28 (0,0)) (vz BK1.1) hb);replace HB:=bs HB hb;(try clear hb);(try clear ho7);obtain⟨Ao6,co6,eo6⟩:=Kd.P_slice HO16.1;subst eo6;have hcz24:=cz6 BK1.1;have hcz25:=cz6 BK2.1)|((with_reducible refine at_fn (f:=37) rfl ?_);refine gl (some 24) Try.func37 #[.slice A0_3 l0_3.length c0_3,.bool false] ?_;(with_reducible refine(laws_toInt64S.callsF k _ _ l0_3 t14 _ ?_ HC0_3.1 A6.1).mono ?_);exact Kd.C_below HR0_3.1 (vb HB.1);rintro e w27 ⟨v34,rfl,ho7,hb⟩;refine⟨_,rfl,?_⟩;replace HO12:=ak (Kd.P_below (pz HO12.1 BK1.1) hb);replace HO15:=ak (Kd.P_below (pz HO15.1 BK1.1) hb);have HO17:=ak (Kd.P_lower (Kd.P_new' ho7 (Kd.P_lt (pz HO16.1 BK1.1))) (below_size (vb HB.1)));replace HO16:=ak (Kd.P_elder' (pz HO16.1 BK1.1) (Kd.P_base ho7) hb);replace BK2:=kb BK2 hb;replace BK0:=kb BK0 hb;replace BK1:=ak (blk_below (g:=gb1) (o:=.cells #[.slice Ao4 t10.length co4,.slice Ao5 t11.length co5,.slice Ao6 t13.length co6,.slice none 0 0,.slice none 0 0,.int .i64 0] 28 (0,0)) (vz BK1.1) hb);replace HB:=bs HB hb;(try clear hb);(try clear ho7);obtain⟨Ao8,co8,eo8⟩:=Kd.P_slice HO17.1;subst eo8;have hcz26:=cz6 BK1.1;have hcz27:=cz6 BK2.1)|((with_reducible refine at_fn (f:=37) rfl ?_);refine gl (some 29) Try.func37 #[.slice A0_4 l0_4.length c0_4,.bool false] ?_;(with_reducible refine(laws_toInt64S.callsF k _ _ l0_4 t9 _ ?_ HC0_4.1 A7.1).mono ?_);exact Kd.C_below HR0_4.1 (vb HB.1);rintro e w31 ⟨v35,rfl,ho7,hb⟩;refine⟨_,rfl,?_⟩;replace HO12:=ak (Kd.P_below (pz HO12.1 BK1.1) hb);replace HO15:=ak (Kd.P_below (pz HO15.1 BK1.1) hb);have HO18:=ak (Kd.P_lower (Kd.P_new' (Kd.P_new' ho7 (Kd.P_lt (pz HO16.1 BK1.1))) (Kd.P_lt (pz HO17.1 BK1.1))) (below_size (vb HB.1)));replace HO16:=ak (Kd.P_elder' (pz HO16.1 BK1.1) (Kd.P_base ho7) hb);replace HO17:=ak (Kd.P_elder' (pz HO17.1 BK1.1) (Kd.P_base ho7) hb);replace BK2:=kb BK2 hb;replace BK0:=kb BK0 hb;replace BK1:=ak (blk_below (g:=gb1) (o:=.cells #[.slice Ao4 t10.length co4,.slice Ao5 t11.length co5,.slice Ao6 t13.length co6,.slice Ao8 t14.length co8,.slice none 0 0,.int .i64 0] 28 (0,0)) (vz BK1.1) hb);replace HB:=bs HB hb;(try clear hb);(try clear ho7);obtain⟨Ao3,co3,eo3⟩:=Kd.P_slice HO18.1;subst eo3;have hcz28:=cz6 BK1.1;have hcz29:=cz6 BK2.1;have hcz30:=cz6 BK0.1))
 refine bodyPost_ret (results_cell_row rfl _ _ gb0 28 (f5 Ao4 t10 co4 Ao5 t11 co5 Ao6 t13 co6 Ao8 t14 co8 Ao3 t9 co3 a0_5) (0,0) _ rfl (vz BK0.1) Try.underlying28 rfl (by kernel_rfl)) rfl ?_;exact⟨_,_,_,_,_,ew,vp (Kd.P_mono (Kd.P_far (p:=⟨gb0,5,none⟩) (Kd.P_far (p:=⟨gb0,4,none⟩) (Kd.P_far (p:=⟨gb0,3,none⟩) (Kd.P_far (p:=⟨gb0,2,none⟩) (Kd.P_far (p:=⟨gb0,1,none⟩) (Kd.P_far (p:=⟨gb0,0,none⟩) (Kd.P_far (p:=⟨gb1,5,none⟩) (Kd.P_far (p:=⟨gb1,4,none⟩) (Kd.P_types (Kd.P_types HO12.1 BK1.1 (by decide)) BK0.1 (by decide)) (fun _ hk=>hk.1.2) (.slice Ao3 t9.length co3)) (fun _ hk=>hk.1.2) (.int .i64 a0_5)) (fun _ hk=>hk.2) (.slice Ao4 t10.length co4)) (fun _ hk=>hk.2) (.slice Ao5 t11.length co5)) (fun _ hk=>hk.2) (.slice Ao6 t13.length co6)) (fun _ hk=>hk.2) (.slice Ao8 t14.length co8)) (fun _ hk=>hk.2) (.slice Ao3 t9.length co3)) (fun _ hk=>hk.2) (.int .i64 a0_5)) (fun _ hk=>trivial)),vp (Kd.P_mono (Kd.P_far (p:=⟨gb0,5,none⟩) (Kd.P_far (p:=⟨gb0,4,none⟩) (Kd.P_far (p:=⟨gb0,3,none⟩) (Kd.P_far (p:=⟨gb0,2,none⟩) (Kd.P_far (p:=⟨gb0,1,none⟩) (Kd.P_far (p:=⟨gb0,0,none⟩) (Kd.P_far (p:=⟨gb1,5,none⟩) (Kd.P_far (p:=⟨gb1,4,none⟩) (Kd.P_types (Kd.P_types HO15.1 BK1.1 (by decide)) BK0.1 (by decide)) (fun _ hk=>hk.1.2) (.slice Ao3 t9.length co3)) (fun _ hk=>hk.1.2) (.int .i64 a0_5)) (fun _ hk=>hk.2) (.slice Ao4 t10.length co4)) (fun _ hk=>hk.2) (.slice Ao5 t11.length co5)) (fun _ hk=>hk.2) (.slice Ao6 t13.length co6)) (fun _ hk=>hk.2) (.slice Ao8 t14.length co8)) (fun _ hk=>hk.2) (.slice Ao3 t9.length co3)) (fun _ hk=>hk.2) (.int .i64 a0_5)) (fun _ hk=>trivial)),vp (Kd.P_mono (Kd.P_far (p:=⟨gb0,5,none⟩) (Kd.P_far (p:=⟨gb0,4,none⟩) (Kd.P_far (p:=⟨gb0,3,none⟩) (Kd.P_far (p:=⟨gb0,2,none⟩) (Kd.P_far (p:=⟨gb0,1,none⟩) (Kd.P_far (p:=⟨gb0,0,none⟩) (Kd.P_far (p:=⟨gb1,5,none⟩) (Kd.P_far (p:=⟨gb1,4,none⟩) (Kd.P_types (Kd.P_types HO16.1 BK1.1 (by decide)) BK0.1 (by decide)) (fun _ hk=>hk.1.2) (.slice Ao3 t9.length co3)) (fun _ hk=>hk.1.2) (.int .i64 a0_5)) (fun _ hk=>hk.2) (.slice Ao4 t10.length co4)) (fun _ hk=>hk.2) (.slice Ao5 t11.length co5)) (fun _ hk=>hk.2) (.slice Ao6 t13.length co6)) (fun _ hk=>hk.2) (.slice Ao8 t14.length co8)) (fun _ hk=>hk.2) (.slice Ao3 t9.length co3)) (fun _ hk=>hk.2) (.int .i64 a0_5)) (fun _ hk=>⟨hk.1.1.1.2,hk.1.1.2⟩)),vp (Kd.P_mono (Kd.P_far (p:=⟨gb0,5,none⟩) (Kd.P_far (p:=⟨gb0,4,none⟩) (Kd.P_far (p:=⟨gb0,3,none⟩) (Kd.P_far (p:=⟨gb0,2,none⟩) (Kd.P_far (p:=⟨gb0,1,none⟩) (Kd.P_far (p:=⟨gb0,0,none⟩) (Kd.P_far (p:=⟨gb1,5,none⟩) (Kd.P_far (p:=⟨gb1,4,none⟩) (Kd.P_types (Kd.P_types HO17.1 BK1.1 (by decide)) BK0.1 (by decide)) (fun _ hk=>hk.1.2) (.slice Ao3 t9.length co3)) (fun _ hk=>hk.1.2) (.int .i64 a0_5)) (fun _ hk=>hk.2) (.slice Ao4 t10.length co4)) (fun _ hk=>hk.2) (.slice Ao5 t11.length co5)) (fun _ hk=>hk.2) (.slice Ao6 t13.length co6)) (fun _ hk=>hk.2) (.slice Ao8 t14.length co8)) (fun _ hk=>hk.2) (.slice Ao3 t9.length co3)) (fun _ hk=>hk.2) (.int .i64 a0_5)) (fun _ hk=>⟨hk.1.1.1.2,hk.1.1.2⟩)),vp (Kd.P_mono (Kd.P_far (p:=⟨gb0,5,none⟩) (Kd.P_far (p:=⟨gb0,4,none⟩) (Kd.P_far (p:=⟨gb0,3,none⟩) (Kd.P_far (p:=⟨gb0,2,none⟩) (Kd.P_far (p:=⟨gb0,1,none⟩) (Kd.P_far (p:=⟨gb0,0,none⟩) (Kd.P_far (p:=⟨gb1,5,none⟩) (Kd.P_far (p:=⟨gb1,4,none⟩) (Kd.P_types (Kd.P_types HO18.1 BK1.1 (by decide)) BK0.1 (by decide)) (fun _ hk=>hk.1.2) (.slice Ao3 t9.length co3)) (fun _ hk=>hk.1.2) (.int .i64 a0_5)) (fun _ hk=>hk.2) (.slice Ao4 t10.length co4)) (fun _ hk=>hk.2) (.slice Ao5 t11.length co5)) (fun _ hk=>hk.2) (.slice Ao6 t13.length co6)) (fun _ hk=>hk.2) (.slice Ao8 t14.length co8)) (fun _ hk=>hk.2) (.slice Ao3 t9.length co3)) (fun _ hk=>hk.2) (.int .i64 a0_5)) (fun _ hk=>⟨hk.1.1.1.2,hk.1.1.2⟩)),vb HB.1⟩
def laws_eqInt64S.l0:Nat→List Int→List Int→Int→Option (Bool)
 |0,_,_,_=>none
 |k+1,x4,x1,x0=>if x0<(x4.length:Int) then (if 0≤x0 then (if x0<(x1.length:Int) then (if (rd x4 x0)=(rd x1 x0) then (laws_eqInt64S.l0 k x4 x1 (wrap64 (x0+1))) else (some false)) else (none)) else (none)) else (some true)
def laws_eqInt64S.f (k:Nat) (l0:List Int) (l1:List Int):Option (Bool):=if (l0.length:Int)=(l1.length:Int) then (laws_eqInt64S.l0 k l0 l1 0) else (some false)
theorem laws_eqInt64S.calls (k:Nat) (A0:Option Addr) (c0:Nat) (l0:List Int) (A1:Option Addr) (c1:Nat) (l1:List Int) (r:Bool) (w:World) (hr0:Kd.C (Kd.int .i64) w A0 l0.length l0) (hc0:l0.length≤c0) (hr1:Kd.C (Kd.int .i64) w A1 l1.length l1) (hc1:l1.length≤c1) (h:laws_eqInt64S.f k l0 l1=some r):
  Calls Try.prog 28 #[.slice A0 l0.length c0,.slice A1 l1.length c1] w fun e w'=>e=.returned (.bool r)∧Drawn0 w w':=by
 have HR0:=ak hr0;have HC0:=ak hc0;clear hr0 hc0;have HR1:=ak hr1;have HC1:=ak hc1;clear hr1 hc1;unfold laws_eqInt64S.f at h;have H:=h;clear h;by_cases c3:(l0.length:Int)=(l1.length:Int)
 ·rw [if_pos c3] at H;obtain⟨c3b0,c3b1⟩:=bqt c3;have c3b2:(l0.length==l1.length)=true:=by first|simpa using c3|(simp at c3 ⊢;omega)
  clear c3;have H':=ak H;clear H;go_enter Try.func28,Try.ntmps28;go_wp2
  repeat (go_quiet (fail);try go_wp2)
  go_loopg [5] k (fun kq v0 w'=>∃(x0_1:Int),v0=.int .i64 x0_1∧Aside0 (laws_eqInt64S.l0 kq l0 l1 x0_1=some r)∧Aside0 (kq≤k)∧Drawn0 w w')
  case atStart=>exact⟨(0),es,H',⟨Nat.le_refl _⟩,by repeat (first|exact Drawn0.refl _|apply Drawn0.step)⟩
  case round=>
   clear H';obtain⟨x0_1,rfl,HA,HK1,⟨m1,rfl⟩⟩:=hrel
   cases gk with
   |zero=>exact absurd HA.1 (by simp [laws_eqInt64S.l0])
   |succ k1=>
    have H:=HA.1;clear HA;simp only [laws_eqInt64S.l0] at H
    by_cases c4:x0_1<(l0.length:Int)
    ·rw [if_pos c4] at H;have c4b0:=decide_eq_true c4;clear c4;by_cases c5:0≤x0_1
     ·rw [if_pos c5] at H;have c5b0:=decide_eq_true c5;clear c5;by_cases c6:x0_1<(l1.length:Int)
      ·rw [if_pos c6] at H;have c6b0:=decide_eq_true c6;clear c6;by_cases c7:(rd l0 x0_1)=(rd l1 x0_1)
       ·rw [if_pos c7] at H;obtain⟨c7b0,c7b1⟩:=bqt c7;clear c7;have H':=ak H;clear H;have p2:0≤(x0_1:Int):=od;have q2:x0_1<(l0.length:Int):=od;obtain⟨ad2,e2,hx2_4⟩:=Kd.at_int HR0.1 x0_1 p2 q2
        cases e2;replace p2:=eq_true p2;replace q2:=eq_true q2;have p3:0≤(x0_1:Int):=od;have q3:x0_1<(l1.length:Int):=od;obtain⟨ad3,e3,hx3_4⟩:=Kd.at_int HR1.1 x0_1 p3 q3
        cases e3;replace p3:=eq_true p3;replace q3:=eq_true q3;go_wp2
        repeat (go_quiet (fail);try go_wp2)
        go_roundg k1
        case measure=>have:=HK1.1;omega
        case rel=>exact⟨(wrap64 (x0_1+1)),es,H',⟨by have:=HK1.1;omega⟩,by repeat (first|exact Drawn0.refl _|apply Drawn0.step)⟩
       ·rw [if_neg c7] at H;obtain⟨c7b0,c7b1⟩:=bqf c7;obtain rfl:=sj H;have p2:0≤(x0_1:Int):=od;have q2:x0_1<(l0.length:Int):=od;obtain⟨ad2,e2,hx2_4⟩:=Kd.at_int HR0.1 x0_1 p2 q2
        cases e2;replace p2:=eq_true p2;replace q2:=eq_true q2;have p3:0≤(x0_1:Int):=od;have q3:x0_1<(l1.length:Int):=od;obtain⟨ad3,e3,hx3_4⟩:=Kd.at_int HR1.1 x0_1 p3 q3
        cases e3;replace p3:=eq_true p3;replace q3:=eq_true q3;go_wp2
        repeat (go_quiet (fail);try go_wp2)
        go_ret
        exact⟨by first|rfl|(simp;done)|(simp [*];done),by repeat (first|exact Drawn0.refl _|apply Drawn0.step)⟩
      ·exact nO_ c6 H
     ·exact nO_ c5 H
    ·rw [if_neg c4] at H;have c4b0:=decide_eq_false c4;clear c4;obtain rfl:=sj H;go_wp2
     repeat (go_quiet (fail);try go_wp2)
     go_ret
     exact⟨by first|rfl|(simp;done)|(simp [*];done),by repeat (first|exact Drawn0.refl _|apply Drawn0.step)⟩
 ·rw [if_neg c3] at H;obtain⟨c3b0,c3b1⟩:=bqf c3;have c3b2:(l0.length==l1.length)=false:=by first|simpa using c3|(simp at c3 ⊢;omega)
  obtain rfl:=sj H;go_enter Try.func28,Try.ntmps28;go_wp2
  repeat (go_quiet (fail);try go_wp2)
  go_ret
  exact⟨by first|rfl|(simp;done)|(simp [*];done),by repeat (first|exact Drawn0.refl _|apply Drawn0.step)⟩
def laws_intactInt64S.f (k:Nat) (l0:List Int) (l1:List Int):Option Bool:=if l0.length=l1.length then laws_eqInt64S.f k (full l0) (full l1) else none
set_option maxHeartbeats 1000000 in
theorem laws_intactInt64S.calls (k:Nat) (A0:Option Addr) (c0:Nat) (l0:List Int) (A1:Option Addr) (c1:Nat) (l1:List Int) (r:Bool) (w:World) (hr0:Kd.C (Kd.int .i64) w A0 (full l0).length (full l0)) (hc0:(full l0).length≤c0) (hr1:Kd.C (Kd.int .i64) w A1 (full l1).length (full l1)) (hc1:(full l1).length≤c1) (h:laws_intactInt64S.f k l0 l1=some r):
  Calls Try.prog 38 #[.slice A0 l0.length c0,.slice A1 l1.length c1] w fun e w'=>e=.returned (.bool r)∧Drawn0 w w':=by
 unfold laws_intactInt64S.f at h
 by_cases he:l0.length=l1.length
 rotate_left
 ·rw [if_neg he] at h;exact absurd h (by simp)
 rw [if_pos he] at h;have hm0:(full l1).length≤9223372036854775807:=hr1.2.1;have ef0:(full l0).length=(full l1).length:=by rw [full_length,full_length,he]
 have hk:((l1.length:Int)+(roomN l1.length:Int))=((full l1).length:Int):=by rw [full_length];omega
 obtain⟨i0,hi0,_,_,_⟩:=info_parts info2;have hq1:=cut_cap (P:=Try.prog) 26 2 .i64 Try.underlying26 hi0 A0 l0.length c0 ((full l1).length:Int) (by omega) (by omega);have hq0:=cut_cap (P:=Try.prog) 26 2 .i64 Try.underlying26 hi0 A1 l1.length c1 ((full l1).length:Int) (by omega) (by omega);have hw:IntKind.i64.wrap ((l1.length:Int)+(roomN l1.length:Int))=((full l1).length:Int):=by rw [hk];exact IntWalk.i64_in _ (by omega)
 have heq:((l0.length:Int)==(l1.length:Int))=true:=by rw [he];simp
 have heq2:(l0.length==l1.length)=true:=by rw [he];simp
 rw [Int.toNat_natCast] at hq1 hq0;have HE:=ak ef0;clear hk ef0 he hi0;go_enter Try.func38,Try.ntmps38;go_wp2_with fail
 refine(laws_roomBehind.calls _ _ _ (room_f _)).mono ?_;rintro e w' ⟨rfl,⟨nd,rfl⟩⟩;go_wp2_with fail
 go_still_tail 12,(by kernel_rfl)
 change wpList _ _ _ _ _ ((w.drewN nd).drew)
 have hE:=laws_eqInt64S.calls k A0 c0 (full l0) A1 c1 (full l1) r ((w.drewN nd).drew) (Kd.C_drew (Kd.C_drewN hr0 nd)) hc0 (Kd.C_drew (Kd.C_drewN hr1 nd)) hc1 h;rw [HE.1] at hE;have HH:=Lib.hid hE;clear hE;go_wp2_with fail
 refine HH.out.mono ?_;rintro e w' ⟨rfl,⟨nq,rfl⟩⟩;go_wp2_with fail
 go_ret
 exact⟨rfl,by repeat (first|exact Drawn0.refl _|apply Drawn0.step)⟩
def laws_eqDemand.f (a0_0:Int) (a0_1:Int) (a0_2:Int) (a1_0:Int) (a1_1:Int) (a1_2:Int):Option (Bool):=if a0_0=a1_0 then (if a0_1=a1_1 then (if a0_2=a1_2 then (some true) else (some false)) else (some false)) else (some false)
theorem laws_eqDemand.calls (a0_0:Int) (a0_1:Int) (a0_2:Int) (a1_0:Int) (a1_1:Int) (a1_2:Int) (r:Bool) (w:World) (h:laws_eqDemand.f a0_0 a0_1 a0_2 a1_0 a1_1 a1_2=some r):
  Calls Try.prog 105 #[.agg #[.int .i64 a0_0,.int .i64 a0_1,.int .i64 a0_2],.agg #[.int .i64 a1_0,.int .i64 a1_1,.int .i64 a1_2]] w fun e w'=>e=.returned (.bool r)∧Below w.heap.size w w':=by
 have hu91:=Try.underlying91;have HB:=ak (Below.refl w.heap.size w);unfold laws_eqDemand.f at h;have H:=h;clear h;by_cases c3:a0_0=a1_0
 rw [if_pos c3] at H;obtain⟨c3b0,c3b1⟩:=bqt c3;clear c3;by_cases c4:a0_1=a1_1
 rw [if_pos c4] at H;obtain⟨c4b0,c4b1⟩:=bqt c4;clear c4;by_cases c5:a0_2=a1_2
 rw [if_pos c5] at H;obtain⟨c5b0,c5b1⟩:=bqt c5;clear c5;obtain rfl:=sj H;rotate_left
 rw [if_neg c5] at H;obtain⟨c5b0,c5b1⟩:=bqf c5;obtain rfl:=sj H;rotate_left
 rw [if_neg c4] at H;obtain⟨c4b0,c4b1⟩:=bqf c4;obtain rfl:=sj H;rotate_left
 rw [if_neg c3] at H;obtain⟨c3b0,c3b1⟩:=bqf c3;obtain rfl:=sj H;rotate_left
 all_goals
  go_enter Try.func105,Try.ntmps105;go_wp2_with (first|((with_reducible refine gate_dst (N:=2) rfl ?_);refine bx 2 #[.int .i64 a0_0,.int .i64 a0_1,.int .i64 a0_2] 91 ?_;intro gb0 hg w9 hbox hb;have BK0:=ak hbox;have GW1209:=gw hg HB;have GE0:=gw hg HB;replace HB:=bs HB hb;clear hb hbox hg)|((with_reducible refine gate_dst (N:=3) rfl ?_);refine bx 3 #[.int .i64 a1_0,.int .i64 a1_1,.int .i64 a1_2] 91 ?_;intro gb1 hg w9 hbox hb;have BK1:=ak hbox;have GW1210:=gw hg HB;have GE1:=gw hg HB;replace HB:=bs HB hb;have NB0_1:=nl hg BK0;have NB1_0:=nr hg BK0;replace BK0:=kb BK0 hb;clear hb hbox hg;have:=NB0_1.1;have:=NB1_0.1;have hcz2:=cz3 BK0.1;have hcz2:=cz3 BK1.1))
  go_ret
  exact⟨ew,vb HB.1⟩
def laws_eqDemandS.l0:Nat→List (S91)→List (S91)→Int→Option (Bool)
 |0,_,_,_=>none
 |k+1,x4,x0,x1=>if x1<(x4.length:Int) then (if 0≤x1 then (if x1<(x0.length:Int) then ((laws_eqDemand.f ((rd_T91 x4 x1).f0) ((rd_T91 x4 x1).f1) ((rd_T91 x4 x1).f2) ((rd_T91 x0 x1).f0) ((rd_T91 x0 x1).f1) ((rd_T91 x0 x1).f2)).bind fun t6=>(if t6=true then (laws_eqDemandS.l0 k x4 x0 (wrap64 (x1+1))) else (some false))) else (none)) else (none)) else (some true)
def laws_eqDemandS.f (k:Nat) (l0:List (S91)) (l1:List (S91)):Option (Bool):=if (l0.length:Int)=(l1.length:Int) then (laws_eqDemandS.l0 k l0 l1 0) else (some false)
def laws_eqDemandS.T6:Bool×List (List Nat×List Nat):=(true,[([],[]),([],[]),([0,1],[0,1]),([2],[2]),([],[]),([],[]),([4,5],[4,5]),([6],[6]),([3,7],[3,7]),([8],[8])])
def laws_eqDemandS.B6:List Nat:=[0,0,3,7,0,0,48,112,255,511]
theorem laws_eqDemandS.tab6:rtab .any (opsOf Try.f90 6)=laws_eqDemandS.T6:=by kernel_rfl
theorem laws_eqDemandS.bits6:waitsOk laws_eqDemandS.T6.2 laws_eqDemandS.B6=true:=by kernel_rfl
theorem laws_eqDemandS.calls (k:Nat) (A0:Option Addr) (c0:Nat) (l0:List (S91)) (A1:Option Addr) (c1:Nat) (l1:List (S91)) (r:Bool) (w:World) (hr0:Kd.C k91 w A0 l0.length l0) (hc0:l0.length≤c0) (hr1:Kd.C k91 w A1 l1.length l1) (hc1:l1.length≤c1) (h:laws_eqDemandS.f k l0 l1=some r):
  Calls Try.prog 90 #[.slice A0 l0.length c0,.slice A1 l1.length c1] w fun e w'=>e=.returned (.bool r)∧Below w.heap.size w w':=by
 have hu91:=Try.underlying91;have HR0:=ak hr0;have HC0:=ak hc0;clear hr0 hc0;have HR1:=ak hr1;have HC1:=ak hc1;clear hr1 hc1;have HB:=ak (Below.refl w.heap.size w);unfold laws_eqDemandS.f at h;have H:=h;clear h;by_cases c3:(l0.length:Int)=(l1.length:Int)
 ·rw [if_pos c3] at H;obtain⟨c3b0,c3b1⟩:=bqt c3;have c3b2:(l0.length==l1.length)=true:=by first|simpa using c3|(simp at c3 ⊢;omega)
  clear c3;have H':=ak H;clear H;go_enter Try.func90,Try.ntmps90;go_wp2
  go_loopg [5] k (fun kq v1 w'=>∃(x1_0:Int),v1=.int .i64 x1_0∧Aside0 (laws_eqDemandS.l0 kq l0 l1 x1_0=some r)∧Aside0 (kq≤k)∧Aside0 (Below w.heap.size w w'))
  case atStart=>exact⟨(0),es,H',⟨Nat.le_refl _⟩,⟨vb HB.1⟩⟩
  case round=>
   clear H';obtain⟨x1_0,rfl,HA,HK1,HB⟩:=hrel
   cases gk with
   |zero=>exact absurd HA.1 (by simp [laws_eqDemandS.l0])
   |succ k1=>
    have H:=HA.1;clear HA;simp only [laws_eqDemandS.l0] at H
    by_cases c4:x1_0<(l0.length:Int)
    ·rw [if_pos c4] at H;have c4b0:=decide_eq_true c4;clear c4;by_cases c5:0≤x1_0
     ·rw [if_pos c5] at H;have c5b0:=decide_eq_true c5;clear c5;by_cases c6:x1_0<(l1.length:Int)
      ·rw [if_pos c6] at H;have c6b0:=decide_eq_true c6;clear c6;obtain⟨t6,A7,H⟩:=bnk H;by_cases c8:t6=true
       ·subst c8;rw [if_pos rfl] at H;have H':=ak H;clear H;(try go_wp2)
        replace HB:=ak (below_drew1 HB.1);have p2:0≤(x1_0:Int):=od;have q2:x1_0<(l0.length:Int):=od;obtain⟨ad2,e2,hx2_4,hx2_0,hx2_5⟩:=at_T91 HR0.1 x1_0 p2 q2;have hw2_5:=hx2_5;have hw2_0:=hx2_0;have hw2_4:=hx2_4
        cases e2;replace hx2_4:=cb HB.1 hx2_4;replace hx2_0:=cb HB.1 hx2_0;replace hx2_5:=cb HB.1 hx2_5;replace p2:=eq_true p2;replace q2:=eq_true q2;have p3:0≤(x1_0:Int):=od;have q3:x1_0<(l1.length:Int):=od;obtain⟨ad3,e3,hx3_4,hx3_0,hx3_5⟩:=at_T91 HR1.1 x1_0 p3 q3;have hw3_5:=hx3_5;have hw3_0:=hx3_0;have hw3_4:=hx3_4
        cases e3;replace hx3_4:=cb HB.1 hx3_4;replace hx3_0:=cb HB.1 hx3_0;replace hx3_5:=cb HB.1 hx3_5;replace p3:=eq_true p3;replace q3:=eq_true q3;refine start_ (n:=10) (S:=fun w'=>w'.cell? (ad2.add ((x1_0).toNat*3))=some (.int .i64 ((rd_T91 l0 x1_0).f0))∧w'.cell? ⟨(ad2.add ((x1_0).toNat*3)).block,(ad2.add ((x1_0).toNat*3)).off+1,none⟩=some (.int .i64 ((rd_T91 l0 x1_0).f1))∧w'.cell? ⟨(ad2.add ((x1_0).toNat*3)).block,(ad2.add ((x1_0).toNat*3)).off+2,none⟩=some (.int .i64 ((rd_T91 l0 x1_0).f2))∧w'.cell? (ad3.add ((x1_0).toNat*3))=some (.int .i64 ((rd_T91 l1 x1_0).f0))∧w'.cell? ⟨(ad3.add ((x1_0).toNat*3)).block,(ad3.add ((x1_0).toNat*3)).off+1,none⟩=some (.int .i64 ((rd_T91 l1 x1_0).f1))∧w'.cell? ⟨(ad3.add ((x1_0).toNat*3)).block,(ad3.add ((x1_0).toNat*3)).off+2,none⟩=some (.int .i64 ((rd_T91 l1 x1_0).f2))) (ds:=[]) (tf 0 10) (by kernel_rfl) rfl rfl ⟨(cb HB.1 hw2_4:),(cb HB.1 hw2_0:),(cb HB.1 hw2_5:),(cb HB.1 hw3_4:),(cb HB.1 hw3_0:),(cb HB.1 hw3_5:)⟩ (fun hHeld=>?_);refine with_tabW laws_eqDemandS.tab6 laws_eqDemandS.bits6 (fun HT_ HW_=>?_)
        generalize wr.drew=w9 at HB hx2_4 hx2_0 hx2_5 hx3_4 hx3_0 hx3_5 hHeld ⊢;refine pu_ 0 17 (tf 1 9) rfl rfl ?_;refine pu_ 1 18 (tf 2 8) rfl rfl ?_;refine pu_ 2 19 (tf 3 7) rfl rfl ?_;refine pu_ 4 21 (tM [3,1,1,5]) rfl rfl ?_;refine pu_ 5 22 (tM [3,1,2,4]) rfl rfl ?_;refine pu_ 6 23 (tM [3,1,3,3]) rfl rfl ?_;refine ta6_ 3 20 (tf 7 3) rfl rfl ?_;refine ta6_ 7 24 (tf 8 2) rfl rfl ?_;refine one_ (i:=8) (N:=some 25) (tf 9 1) rfl rfl (one_of HT_.1 (by kernel_rfl)) (by decide) (fun K hK=>?_);refine goes_ Try.func105 (by kernel_rfl) rfl #[.agg #[.int .i64 ((rd_T91 l0 x1_0).f0),.int .i64 ((rd_T91 l0 x1_0).f1),.int .i64 ((rd_T91 l0 x1_0).f2)],.agg #[.int .i64 ((rd_T91 l1 x1_0).f0),.int .i64 ((rd_T91 l1 x1_0).f1),.int .i64 ((rd_T91 l1 x1_0).f2)]] (by rfl) rfl rfl (by(try simp only [List.map_toArray,List.map_cons,List.map_nil]);first|done|rfl|(simp only [List.length_drop,List.length_take];rfl)) ?_;with_reducible refine(laws_eqDemand.calls ((rd_T91 l0 x1_0).f0) ((rd_T91 l0 x1_0).f1) ((rd_T91 l0 x1_0).f2) ((rd_T91 l1 x1_0).f0) ((rd_T91 l1 x1_0).f1) ((rd_T91 l1 x1_0).f2) true _ A7.1).mono ?_
        rintro e w10 ⟨rfl,hb⟩;refine⟨_,rfl,?_⟩;replace HB:=bs HB hb;(try clear hb)
        (try clear hb2)
        (try clear hk)
        (try clear hi)
        refine hK.out _ _ ⟨(cb HB.1 hw2_4:),(cb HB.1 hw2_0:),(cb HB.1 hw2_5:),(cb HB.1 hw3_4:),(cb HB.1 hw3_0:),(cb HB.1 hw3_5:)⟩ (fun hHeld=>?_);clear hK K;refine norm_ (a':=?_) ?_ ?_
        rotate_left
        ·show Act.put _ (some 25) _=_
         simp only [Act.put,List.setIfInBounds_toArray,List.set_cons_zero,List.set_cons_succ,i64_w,i32_w]
         rfl
        refine pu_ 9 26 (tf 10 0) rfl rfl ?_;refine done_ (done_of HT_.1 (by kernel_rfl)) ?_;(try go_wp2)
        go_roundg k1
        case measure=>have:=HK1.1;omega
        case rel=>exact⟨(wrap64 (x1_0+1)),es,H',⟨by have:=HK1.1;omega⟩,⟨vb HB.1⟩⟩
       ·replace c8:=Bool.eq_false_iff.mpr c8;subst c8;rw [if_neg nf] at H;obtain rfl:=sj H;(try go_wp2)
        replace HB:=ak (below_drew1 HB.1);have p2:0≤(x1_0:Int):=od;have q2:x1_0<(l0.length:Int):=od;obtain⟨ad2,e2,hx2_4,hx2_0,hx2_5⟩:=at_T91 HR0.1 x1_0 p2 q2;have hw2_5:=hx2_5;have hw2_0:=hx2_0;have hw2_4:=hx2_4
        cases e2;replace hx2_4:=cb HB.1 hx2_4;replace hx2_0:=cb HB.1 hx2_0;replace hx2_5:=cb HB.1 hx2_5;replace p2:=eq_true p2;replace q2:=eq_true q2;have p3:0≤(x1_0:Int):=od;have q3:x1_0<(l1.length:Int):=od;obtain⟨ad3,e3,hx3_4,hx3_0,hx3_5⟩:=at_T91 HR1.1 x1_0 p3 q3;have hw3_5:=hx3_5;have hw3_0:=hx3_0;have hw3_4:=hx3_4
        cases e3;replace hx3_4:=cb HB.1 hx3_4;replace hx3_0:=cb HB.1 hx3_0;replace hx3_5:=cb HB.1 hx3_5;replace p3:=eq_true p3;replace q3:=eq_true q3;refine start_ (n:=10) (S:=fun w'=>w'.cell? (ad2.add ((x1_0).toNat*3))=some (.int .i64 ((rd_T91 l0 x1_0).f0))∧w'.cell? ⟨(ad2.add ((x1_0).toNat*3)).block,(ad2.add ((x1_0).toNat*3)).off+1,none⟩=some (.int .i64 ((rd_T91 l0 x1_0).f1))∧w'.cell? ⟨(ad2.add ((x1_0).toNat*3)).block,(ad2.add ((x1_0).toNat*3)).off+2,none⟩=some (.int .i64 ((rd_T91 l0 x1_0).f2))∧w'.cell? (ad3.add ((x1_0).toNat*3))=some (.int .i64 ((rd_T91 l1 x1_0).f0))∧w'.cell? ⟨(ad3.add ((x1_0).toNat*3)).block,(ad3.add ((x1_0).toNat*3)).off+1,none⟩=some (.int .i64 ((rd_T91 l1 x1_0).f1))∧w'.cell? ⟨(ad3.add ((x1_0).toNat*3)).block,(ad3.add ((x1_0).toNat*3)).off+2,none⟩=some (.int .i64 ((rd_T91 l1 x1_0).f2))) (ds:=[]) (tf 0 10) (by kernel_rfl) rfl rfl ⟨(cb HB.1 hw2_4:),(cb HB.1 hw2_0:),(cb HB.1 hw2_5:),(cb HB.1 hw3_4:),(cb HB.1 hw3_0:),(cb HB.1 hw3_5:)⟩ (fun hHeld=>?_);refine with_tabW laws_eqDemandS.tab6 laws_eqDemandS.bits6 (fun HT_ HW_=>?_)
        generalize wr.drew=w11 at HB hx2_4 hx2_0 hx2_5 hx3_4 hx3_0 hx3_5 hHeld ⊢;refine pu_ 0 17 (tf 1 9) rfl rfl ?_;refine pu_ 1 18 (tf 2 8) rfl rfl ?_;refine pu_ 2 19 (tf 3 7) rfl rfl ?_;refine pu_ 4 21 (tM [3,1,1,5]) rfl rfl ?_;refine pu_ 5 22 (tM [3,1,2,4]) rfl rfl ?_;refine pu_ 6 23 (tM [3,1,3,3]) rfl rfl ?_;refine ta6_ 3 20 (tf 7 3) rfl rfl ?_;refine ta6_ 7 24 (tf 8 2) rfl rfl ?_;refine one_ (i:=8) (N:=some 25) (tf 9 1) rfl rfl (one_of HT_.1 (by kernel_rfl)) (by decide) (fun K hK=>?_);refine goes_ Try.func105 (by kernel_rfl) rfl #[.agg #[.int .i64 ((rd_T91 l0 x1_0).f0),.int .i64 ((rd_T91 l0 x1_0).f1),.int .i64 ((rd_T91 l0 x1_0).f2)],.agg #[.int .i64 ((rd_T91 l1 x1_0).f0),.int .i64 ((rd_T91 l1 x1_0).f1),.int .i64 ((rd_T91 l1 x1_0).f2)]] (by rfl) rfl rfl (by(try simp only [List.map_toArray,List.map_cons,List.map_nil]);first|done|rfl|(simp only [List.length_drop,List.length_take];rfl)) ?_;with_reducible refine(laws_eqDemand.calls ((rd_T91 l0 x1_0).f0) ((rd_T91 l0 x1_0).f1) ((rd_T91 l0 x1_0).f2) ((rd_T91 l1 x1_0).f0) ((rd_T91 l1 x1_0).f1) ((rd_T91 l1 x1_0).f2) false _ A7.1).mono ?_
        rintro e w12 ⟨rfl,hb⟩;refine⟨_,rfl,?_⟩;replace HB:=bs HB hb;(try clear hb)
        (try clear hb2)
        (try clear hk)
        (try clear hi)
        refine hK.out _ _ ⟨(cb HB.1 hw2_4:),(cb HB.1 hw2_0:),(cb HB.1 hw2_5:),(cb HB.1 hw3_4:),(cb HB.1 hw3_0:),(cb HB.1 hw3_5:)⟩ (fun hHeld=>?_);clear hK K;refine norm_ (a':=?_) ?_ ?_
        rotate_left
        ·show Act.put _ (some 25) _=_
         simp only [Act.put,List.setIfInBounds_toArray,List.set_cons_zero,List.set_cons_succ,i64_w,i32_w]
         rfl
        refine pu_ 9 26 (tf 10 0) rfl rfl ?_;refine done_ (done_of HT_.1 (by kernel_rfl)) ?_;(try go_wp2)
        go_ret
        exact⟨ew,vb HB.1⟩
      ·exact nO_ c6 H
     ·exact nO_ c5 H
    ·rw [if_neg c4] at H;have c4b0:=decide_eq_false c4;clear c4;obtain rfl:=sj H;go_wp2
     go_ret
     exact⟨ew,vb HB.1⟩
 ·rw [if_neg c3] at H;obtain⟨c3b0,c3b1⟩:=bqf c3;have c3b2:(l0.length==l1.length)=false:=by first|simpa using c3|(simp at c3 ⊢;omega)
  obtain rfl:=sj H;go_enter Try.func90,Try.ntmps90;go_wp2
  go_ret
  exact⟨ew,vb HB.1⟩
def laws_intactDemandS.f (k:Nat) (l0:List S91) (l1:List S91):Option Bool:=if l0.length=l1.length then laws_eqDemandS.f k (full l0) (full l1) else none
set_option maxHeartbeats 1000000 in
theorem laws_intactDemandS.calls (k:Nat) (A0:Option Addr) (c0:Nat) (l0:List S91) (A1:Option Addr) (c1:Nat) (l1:List S91) (r:Bool) (w:World) (hr0:Kd.C k91 w A0 (full l0).length (full l0)) (hc0:(full l0).length≤c0) (hr1:Kd.C k91 w A1 (full l1).length (full l1)) (hc1:(full l1).length≤c1) (h:laws_intactDemandS.f k l0 l1=some r):
  Calls Try.prog 65 #[.slice A0 l0.length c0,.slice A1 l1.length c1] w fun e w'=>e=.returned (.bool r)∧Below w.heap.size w w':=by
 unfold laws_intactDemandS.f at h
 by_cases he:l0.length=l1.length
 rotate_left
 ·rw [if_neg he] at h;exact absurd h (by simp)
 rw [if_pos he] at h;have hm0:(full l1).length≤9223372036854775807:=hr1.2.1;have ef0:(full l0).length=(full l1).length:=by rw [full_length,full_length,he]
 have hk:((l1.length:Int)+(roomN l1.length:Int))=((full l1).length:Int):=by rw [full_length];omega
 obtain⟨i0,hi0,_,_,_⟩:=info_parts info91;have hq1:=cut_cap (P:=Try.prog) 24 91 .i64 Try.underlying24 hi0 A0 l0.length c0 ((full l1).length:Int) (by omega) (by omega);have hq0:=cut_cap (P:=Try.prog) 24 91 .i64 Try.underlying24 hi0 A1 l1.length c1 ((full l1).length:Int) (by omega) (by omega);have hw:IntKind.i64.wrap ((l1.length:Int)+(roomN l1.length:Int))=((full l1).length:Int):=by rw [hk];exact IntWalk.i64_in _ (by omega)
 have heq:((l0.length:Int)==(l1.length:Int))=true:=by rw [he];simp
 have heq2:(l0.length==l1.length)=true:=by rw [he];simp
 rw [Int.toNat_natCast] at hq1 hq0;have HE:=ak ef0;clear hk ef0 he hi0;go_enter Try.func65,Try.ntmps65;go_wp2_with fail
 refine(laws_roomBehind.calls _ _ _ (room_f _)).mono ?_;rintro e w' ⟨rfl,⟨nd,rfl⟩⟩;go_wp2_with fail
 go_still_tail 12,(by kernel_rfl)
 change wpList _ _ _ _ _ ((w.drewN nd).drew)
 have hE:=laws_eqDemandS.calls k A0 c0 (full l0) A1 c1 (full l1) r ((w.drewN nd).drew) (Kd.C_drew (Kd.C_drewN hr0 nd)) hc0 (Kd.C_drew (Kd.C_drewN hr1 nd)) hc1 h;rw [HE.1] at hE;have HH:=Lib.hid hE;clear hE;go_wp2_with fail
 refine HH.out.mono ?_;rintro e w' ⟨rfl,hb⟩;go_wp2_with fail
 go_ret
 exact⟨rfl,below_step (by repeat (first|exact Below.refl _ _|apply below_drew1|apply pw_below_drewN)) hb⟩
def laws_eqArea.f (a0_0:Int) (a0_1:Int) (a0_2:Int) (a0_3:Int) (a0_4:Int) (a1_0:Int) (a1_1:Int) (a1_2:Int) (a1_3:Int) (a1_4:Int):Option (Bool):=if a0_0=a1_0 then (if a0_1=a1_1 then (if a0_2=a1_2 then (if a0_3=a1_3 then (if a0_4=a1_4 then (some true) else (some false)) else (some false)) else (some false)) else (some false)) else (some false)
theorem laws_eqArea.calls (a0_0:Int) (a0_1:Int) (a0_2:Int) (a0_3:Int) (a0_4:Int) (a1_0:Int) (a1_1:Int) (a1_2:Int) (a1_3:Int) (a1_4:Int) (r:Bool) (w:World) (h:laws_eqArea.f a0_0 a0_1 a0_2 a0_3 a0_4 a1_0 a1_1 a1_2 a1_3 a1_4=some r):
  Calls Try.prog 106 #[.agg #[.int .i64 a0_0,.int .i64 a0_1,.int .i64 a0_2,.int .i64 a0_3,.int .i64 a0_4],.agg #[.int .i64 a1_0,.int .i64 a1_1,.int .i64 a1_2,.int .i64 a1_3,.int .i64 a1_4]] w fun e w'=>e=.returned (.bool r)∧Below w.heap.size w w':=by
 have hu69:=Try.underlying69;have HB:=ak (Below.refl w.heap.size w);unfold laws_eqArea.f at h;have H:=h;clear h;by_cases c3:a0_0=a1_0
 rw [if_pos c3] at H;obtain⟨c3b0,c3b1⟩:=bqt c3;clear c3;by_cases c4:a0_1=a1_1
 rw [if_pos c4] at H;obtain⟨c4b0,c4b1⟩:=bqt c4;clear c4;by_cases c5:a0_2=a1_2
 rw [if_pos c5] at H;obtain⟨c5b0,c5b1⟩:=bqt c5;clear c5;by_cases c6:a0_3=a1_3
 rw [if_pos c6] at H;obtain⟨c6b0,c6b1⟩:=bqt c6;clear c6;by_cases c7:a0_4=a1_4
 rw [if_pos c7] at H;obtain⟨c7b0,c7b1⟩:=bqt c7;clear c7;obtain rfl:=sj H;rotate_left
 rw [if_neg c7] at H;obtain⟨c7b0,c7b1⟩:=bqf c7;obtain rfl:=sj H;rotate_left
 rw [if_neg c6] at H;obtain⟨c6b0,c6b1⟩:=bqf c6;obtain rfl:=sj H;rotate_left
 rw [if_neg c5] at H;obtain⟨c5b0,c5b1⟩:=bqf c5;obtain rfl:=sj H;rotate_left
 rw [if_neg c4] at H;obtain⟨c4b0,c4b1⟩:=bqf c4;obtain rfl:=sj H;rotate_left
 rw [if_neg c3] at H;obtain⟨c3b0,c3b1⟩:=bqf c3;obtain rfl:=sj H;rotate_left
 all_goals
  go_enter Try.func106,Try.ntmps106;go_wp2_with (first|((with_reducible refine gate_dst (N:=2) rfl ?_);refine bx 2 #[.int .i64 a0_0,.int .i64 a0_1,.int .i64 a0_2,.int .i64 a0_3,.int .i64 a0_4] 69 ?_;intro gb0 hg w9 hbox hb;have BK0:=ak hbox;have GW1224:=gw hg HB;have GE0:=gw hg HB;replace HB:=bs HB hb;clear hb hbox hg)|((with_reducible refine gate_dst (N:=3) rfl ?_);refine bx 3 #[.int .i64 a1_0,.int .i64 a1_1,.int .i64 a1_2,.int .i64 a1_3,.int .i64 a1_4] 69 ?_;intro gb1 hg w9 hbox hb;have BK1:=ak hbox;have GW1225:=gw hg HB;have GE1:=gw hg HB;replace HB:=bs HB hb;have NB0_1:=nl hg BK0;have NB1_0:=nr hg BK0;replace BK0:=kb BK0 hb;clear hb hbox hg;have:=NB0_1.1;have:=NB1_0.1;have hcz2:=cz5 BK0.1;have hcz2:=cz5 BK1.1))
  go_ret
  exact⟨ew,vb HB.1⟩
end Go.Proofs.Ytiblahniohjbbaa.Pall
