/- Go functions of the program, each as a Lean function, and the proof that each call comes to what the Lean function tells; no condition beyond those that stand there. -/
import Derived.Test.YtiblahniohjbbaaF0e
import Derived.Test.YtiblahniohjbbaaSq
import Derived.Test.YtiblahniohjbbaaWGuard
import Derived.Test.YtiblahniohjbbaaWMore
import Derived.Test.YtiblahniohjbbaaCm9
namespace Go.Proofs.Ytiblahniohjbbaa.Pall
set_option maxRecDepth 100000
set_option maxHeartbeats 8000000
open Go.RowKit Go.Proofs.YtiblahniohjbbaaW.PrintWords Go.Proofs.YtiblahniohjbbaaW.PrintLast Go.Proofs.YtiblahniohjbbaaW.PrintMore
attribute [local go_sem] max2_int min2_int max_two min_two max_three min_three max_four min_four
set_option linter.unusedVariables false
set_option linter.unusedSimpArgs false
def impl_within.f (a0:Int) (a1:Int) (a2:Int):Option (Bool):=if a1≤a0 then (some (decide (a0≤a2))) else (some false)
theorem impl_within.calls (a0:Int) (a1:Int) (a2:Int) (r:Bool) (w:World) (h:impl_within.f a0 a1 a2=some r):
  Calls Try.prog 97 #[.int .i64 a0,.int .i64 a1,.int .i64 a2] w fun e w'=>e=.returned (.bool r)∧Drawn0 w w':=by
 unfold impl_within.f at h;have H:=h;clear h;by_cases c4:a1≤a0
 rw [if_pos c4] at H;have c4b0:=decide_eq_true c4;clear c4;obtain rfl:=sj H;rotate_left
 rw [if_neg c4] at H;have c4b0:=decide_eq_false c4;clear c4;obtain rfl:=sj H;rotate_left
 all_goals
  go_enter Try.func97,Try.ntmps97;go_wp2
  go_ret
  exact⟨by first|rfl|(simp;done)|(simp [*];done),by repeat (first|exact Drawn0.refl _|apply Drawn0.step)⟩
def impl_isKind.f (a0:Int):Option (Bool):=(impl_within.f a0 0 3).bind fun t0=>(some t0)
theorem impl_isKind.calls (a0:Int) (r:Bool) (w:World) (h:impl_isKind.f a0=some r):
  Calls Try.prog 111 #[.int .i64 a0] w fun e w'=>e=.returned (.bool r)∧Drawn0 w w':=by
 unfold impl_isKind.f at h;have H:=h;clear h;obtain⟨t0,A2,H⟩:=bnk H;obtain rfl:=sj H;go_enter Try.func111,Try.ntmps111;go_wp2_with (first|((with_reducible refine at_fn (f:=97) rfl ?_);refine gl (some 4) Try.func97 #[.int .i64 a0,.int .i64 0,.int .i64 3] ?_;(with_reducible refine(impl_within.calls a0 0 3 t0 _ A2.1).mono ?_);rintro e w' ⟨rfl,⟨nd,rfl⟩⟩;refine⟨_,rfl,?_⟩))
 go_ret
 exact⟨by first|rfl|(simp;done)|(simp [*];done),by repeat (first|exact Drawn0.refl _|apply Drawn0.step)⟩
def impl_isCalibre.f (a0:Int):Option (Bool):=(impl_within.f a0 20 300).bind fun t0=>(some t0)
theorem impl_isCalibre.calls (a0:Int) (r:Bool) (w:World) (h:impl_isCalibre.f a0=some r):
  Calls Try.prog 112 #[.int .i64 a0] w fun e w'=>e=.returned (.bool r)∧Drawn0 w w':=by
 unfold impl_isCalibre.f at h;have H:=h;clear h;obtain⟨t0,A2,H⟩:=bnk H;obtain rfl:=sj H;go_enter Try.func112,Try.ntmps112;go_wp2_with (first|((with_reducible refine at_fn (f:=97) rfl ?_);refine gl (some 4) Try.func97 #[.int .i64 a0,.int .i64 20,.int .i64 300] ?_;(with_reducible refine(impl_within.calls a0 20 300 t0 _ A2.1).mono ?_);rintro e w' ⟨rfl,⟨nd,rfl⟩⟩;refine⟨_,rfl,?_⟩))
 go_ret
 exact⟨by first|rfl|(simp;done)|(simp [*];done),by repeat (first|exact Drawn0.refl _|apply Drawn0.step)⟩
mutual
def impl_IsTable.l0:Nat→List (S91)→List (S91)→Int→Int→Option (Bool)
 |0,_,_,_,_=>none
 |k+1,x5,x8,x13,x1=>if x1<x13 then (if 0≤x1 then (if x1<(x8.length:Int) then ((impl_isKind.f ((rd_T91 x8 x1).f0)).bind fun t19=>(if t19=true then ((impl_isCalibre.f ((rd_T91 x8 x1).f1)).bind fun t20=>(if t20=true then ((impl_within.f ((rd_T91 x8 x1).f2) 0 10000).bind fun t15=>(impl_IsTable.j1 k x5 x1 x8 x13 x1 (!t15) ((rd_T91 x8 x1).f0) ((rd_T91 x8 x1).f1) ((rd_T91 x8 x1).f2))) else (impl_IsTable.j1 k x5 x1 x8 x13 x1 true ((rd_T91 x8 x1).f0) ((rd_T91 x8 x1).f1) ((rd_T91 x8 x1).f2)))) else (impl_IsTable.j1 k x5 x1 x8 x13 x1 true ((rd_T91 x8 x1).f0) ((rd_T91 x8 x1).f1) ((rd_T91 x8 x1).f2)))) else (none)) else (none)) else (some true)
def impl_IsTable.j1:Nat→List (S91)→Int→List (S91)→Int→Int→Bool→Int→Int→Int→Option (Bool)
 |0,_,_,_,_,_,_,_,_,_=>none
 |k+1,x5,x10,x8,x13,x1,x11,x21,x22,x23=>if x11=true then (some false) else (if x10=0 then (impl_IsTable.l0 k x5 x8 x13 (wrap64 (x1+1))) else (if 0≤(wrap64 (x10-1)) then (if (wrap64 (x10-1))<(x5.length:Int) then (if ((rd_T91 x5 (wrap64 (x10-1))).f0)>x21 then (some false) else (if ((rd_T91 x5 (wrap64 (x10-1))).f0)=x21 then (if ((rd_T91 x5 (wrap64 (x10-1))).f1)≥x22 then (some false) else (if ((rd_T91 x5 (wrap64 (x10-1))).f2)>x23 then (some false) else (impl_IsTable.l0 k x5 x8 x13 (wrap64 (x1+1))))) else (impl_IsTable.l0 k x5 x8 x13 (wrap64 (x1+1))))) else (none)) else (none)))
end
def impl_IsTable.f (k:Nat) (l0:List (S91)):Option (Bool):=if (l0.length:Int)>12 then (some false) else (impl_IsTable.l0 k l0 l0 (l0.length:Int) 0)
theorem impl_IsTable.mono_l:∀k,(∀y5 y2 y7 y10,LeO (impl_IsTable.l0 k y5 y2 y7 y10) (impl_IsTable.l0 (k+1) y5 y2 y7 y10))∧(∀y5 y2 y7 y10 y16 y12 y17 y18 y14,LeO (impl_IsTable.j1 k y5 y2 y7 y10 y16 y12 y17 y18 y14) (impl_IsTable.j1 (k+1) y5 y2 y7 y10 y16 y12 y17 y18 y14))
 |0=>⟨fun _ _ _ _ r h=>by simp [impl_IsTable.l0] at h,fun _ _ _ _ _ _ _ _ _ r h=>by simp [impl_IsTable.j1] at h⟩
 |k+1=>by
  obtain⟨ih0,ih1⟩:=impl_IsTable.mono_l k;refine⟨?_,?_⟩
  ·intro y5 y2 y7 y10;unfold impl_IsTable.l0
   repeat' (with_reducible first|exact ih0 .. |exact ih1 .. |exact lm|refine LeO.ite ?_ ?_|refine LeO.bind ?_ (fun _=>?_))
  ·intro y5 y2 y7 y10 y16 y12 y17 y18 y14;unfold impl_IsTable.j1
   repeat' (with_reducible first|exact ih0 .. |exact ih1 .. |exact lm|refine LeO.ite ?_ ?_|refine LeO.bind ?_ (fun _=>?_))
theorem impl_IsTable.mono:∀a0 k,LeO (impl_IsTable.f k a0) (impl_IsTable.f (k+1) a0):=by
 intro a0 k;obtain⟨ih0,ih1⟩:=impl_IsTable.mono_l k;unfold impl_IsTable.f
 repeat' (with_reducible first|exact ih0 .. |exact ih1 .. |exact lm|refine LeO.ite ?_ ?_|refine LeO.bind ?_ (fun _=>?_))
theorem impl_IsTable.calls (k:Nat) (A0:Option Addr) (c0:Nat) (l0:List (S91)) (r:Bool) (w:World) (hr0:Kd.C k91 w A0 l0.length l0) (hc0:l0.length≤c0) (h:impl_IsTable.f k l0=some r):
  Calls Try.prog 94 #[.slice A0 l0.length c0] w fun e w'=>e=.returned (.bool r)∧Below w.heap.size w w':=by
 have hu91:=Try.underlying91;have HR0:=ak hr0;have HC0:=ak hc0;clear hr0 hc0;have HB:=ak (Below.refl w.heap.size w);unfold impl_IsTable.f at h;have H:=h;clear h;by_cases c2:(l0.length:Int)>12
 ·rw [if_pos c2] at H;have c2b0:=decide_eq_true c2;have c2b1:decide (12<l0.length)=true:=decide_eq_true (by omega);clear c2;obtain rfl:=sj H;go_enter Try.func94,Try.ntmps94;go_wp2
  go_ret
  exact⟨ew,vb HB.1⟩
 ·rw [if_neg c2] at H;have c2b0:=decide_eq_false c2;have c2b1:decide (12<l0.length)=false:=decide_eq_false (by omega);clear c2;have H':=ak H;clear H;go_enter Try.func94,Try.ntmps94;go_wp2
  go_loopg [11] k (fun kq v1 w'=>∃(x1_2:Int),v1=.int .i64 x1_2∧Aside0 (impl_IsTable.l0 kq l0 l0 (l0.length:Int) x1_2=some r)∧Aside0 (kq≤k)∧Aside0 (Below w.heap.size w w'))
  case atStart=>exact⟨(0),es,H',⟨Nat.le_refl _⟩,⟨vb HB.1⟩⟩
  case round=>
   clear H';obtain⟨x1_2,rfl,HA,HK1,HB⟩:=hrel
   cases gk with
   |zero=>exact absurd HA.1 (by simp [impl_IsTable.l0])
   |succ k1=>
    have H:=HA.1;clear HA;simp only [impl_IsTable.l0] at H
    by_cases c3:x1_2<(l0.length:Int)
    ·rw [if_pos c3] at H;have c3b0:=decide_eq_true c3;clear c3;by_cases c4:0≤x1_2
     ·rw [if_pos c4] at H;have c4b0:=decide_eq_true c4;clear c4;by_cases c5:x1_2<(l0.length:Int)
      ·rw [if_pos c5] at H;have c5b0:=decide_eq_true c5;clear c5;have HC6:=ak H;clear H;have p9:0≤(x1_2:Int):=od;have q9:x1_2<(l0.length:Int):=od;obtain⟨ad9,e9,hx9_5,hx9_2,hx9_7⟩:=at_T91b HR0.1 HB.1 x1_2 p9 q9
       cases e9;replace p9:=eq_true p9;replace q9:=eq_true q9;go_upto_region 6 with (first|((with_reducible refine gate_dst (N:=4) rfl ?_);refine bx 4 #[.int .i64 0,.int .i64 0,.int .i64 0] 91 ?_;intro gb3 hg w7 hbox hb;have BK3:=ak hbox;have GW463:=gw hg HB;have GE3:=gw hg HB;replace HB:=bs HB hb;clear hb hbox hg;have hcz14:=cz3 BK3.1))
       (try simp only [Act.put,List.setIfInBounds_toArray,List.set_cons_zero,List.set_cons_succ])
       go_cut [31] (fun v11 wc=>∃(kq:Nat) (x11_12:Bool),v11=.bool x11_12∧Aside0 (impl_IsTable.j1 kq l0 x1_2 l0 (l0.length:Int) x1_2 x11_12 ((rd_T91 l0 x1_2).f0) ((rd_T91 l0 x1_2).f1) ((rd_T91 l0 x1_2).f2)=some r)∧Aside0 (kq≤k1)∧Aside0 (wc.heap[gb3]? =some (.cells #[.int .i64 ((rd_T91 l0 x1_2).f0),.int .i64 ((rd_T91 l0 x1_2).f1),.int .i64 ((rd_T91 l0 x1_2).f2)] 91 (0,0)))∧Aside0 (Below w.heap.size w wc))
       case first=>
        have H:=HC6.1;clear HC6;obtain⟨t19,A9,H⟩:=bnk H;by_cases c10:t19=true
        ·subst c10;rw [if_pos rfl] at H;obtain⟨t20,A11,H⟩:=bnk H;by_cases c12:t20=true
         ·subst c12;rw [if_pos rfl] at H;obtain⟨t15,A13,H⟩:=bnk H;have H':=ak H;clear H;have hcz24:=cz3 BK3.1;go_wp2_with (first|((with_reducible refine at_fn (f:=111) rfl ?_);refine gl (some 18) Try.func111 #[.int .i64 ((rd_T91 l0 x1_2).f0)] ?_;(with_reducible refine(impl_isKind.calls ((rd_T91 l0 x1_2).f0) _ _ A9.1).mono ?_);rintro e w' ⟨rfl,⟨nd,rfl⟩⟩;refine⟨_,rfl,?_⟩)|(go_at_call 112;(with_reducible refine(impl_isCalibre.calls ((rd_T91 l0 x1_2).f1) _ _ A11.1).mono ?_);rintro e w' ⟨rfl,⟨nd,rfl⟩⟩)|(go_at_call 97;(with_reducible refine(impl_within.calls ((rd_T91 l0 x1_2).f2) 0 10000 t15 _ A13.1).mono ?_);rintro e w' ⟨rfl,⟨nd,rfl⟩⟩))
          go_meet
          case rel=>exact⟨_,(!t15),es,H',⟨by have:=HK1.1;first|omega|exact Nat.le_refl _⟩,⟨by(with_reducible repeat (first|refine blk_drewN ?_ _|refine blk_drew ?_|refine blk_alloc ?_ _));refine blk_put (cs:=#[.int .i64 ((rd_T91 l0 x1_2).f0),.int .i64 ((rd_T91 l0 x1_2).f1),.int .i64 0]) ?_ 2 _ rfl;(with_reducible repeat (first|refine blk_drewN ?_ _|refine blk_drew ?_|refine blk_alloc ?_ _));refine blk_put (cs:=#[.int .i64 ((rd_T91 l0 x1_2).f0),.int .i64 0,.int .i64 0]) ?_ 1 _ rfl;(with_reducible repeat (first|refine blk_drewN ?_ _|refine blk_drew ?_|refine blk_alloc ?_ _));refine blk_put (cs:=#[.int .i64 0,.int .i64 0,.int .i64 0]) ?_ 0 _ rfl;exact vk BK3.1⟩,⟨vb HB.1⟩⟩
         ·replace c12:=Bool.eq_false_iff.mpr c12;subst c12;rw [if_neg nf] at H;have H':=ak H;clear H;have hcz25:=cz3 BK3.1;go_wp2_with (first|((with_reducible refine at_fn (f:=111) rfl ?_);refine gl (some 18) Try.func111 #[.int .i64 ((rd_T91 l0 x1_2).f0)] ?_;(with_reducible refine(impl_isKind.calls ((rd_T91 l0 x1_2).f0) _ _ A9.1).mono ?_);rintro e w' ⟨rfl,⟨nd,rfl⟩⟩;refine⟨_,rfl,?_⟩)|(go_at_call 112;(with_reducible refine(impl_isCalibre.calls ((rd_T91 l0 x1_2).f1) _ _ A11.1).mono ?_);rintro e w' ⟨rfl,⟨nd,rfl⟩⟩))
          go_meet
          case rel=>exact⟨_,(true),es,H',⟨by have:=HK1.1;first|omega|exact Nat.le_refl _⟩,⟨by(with_reducible repeat (first|refine blk_drewN ?_ _|refine blk_drew ?_|refine blk_alloc ?_ _));refine blk_put (cs:=#[.int .i64 ((rd_T91 l0 x1_2).f0),.int .i64 ((rd_T91 l0 x1_2).f1),.int .i64 0]) ?_ 2 _ rfl;(with_reducible repeat (first|refine blk_drewN ?_ _|refine blk_drew ?_|refine blk_alloc ?_ _));refine blk_put (cs:=#[.int .i64 ((rd_T91 l0 x1_2).f0),.int .i64 0,.int .i64 0]) ?_ 1 _ rfl;(with_reducible repeat (first|refine blk_drewN ?_ _|refine blk_drew ?_|refine blk_alloc ?_ _));refine blk_put (cs:=#[.int .i64 0,.int .i64 0,.int .i64 0]) ?_ 0 _ rfl;exact vk BK3.1⟩,⟨vb HB.1⟩⟩
        ·replace c10:=Bool.eq_false_iff.mpr c10;subst c10;rw [if_neg nf] at H;have H':=ak H;clear H;have hcz26:=cz3 BK3.1;go_wp2_with (first|((with_reducible refine at_fn (f:=111) rfl ?_);refine gl (some 18) Try.func111 #[.int .i64 ((rd_T91 l0 x1_2).f0)] ?_;(with_reducible refine(impl_isKind.calls ((rd_T91 l0 x1_2).f0) _ _ A9.1).mono ?_);rintro e w' ⟨rfl,⟨nd,rfl⟩⟩;refine⟨_,rfl,?_⟩))
         go_meet
         case rel=>exact⟨_,(true),es,H',⟨by have:=HK1.1;first|omega|exact Nat.le_refl _⟩,⟨by(with_reducible repeat (first|refine blk_drewN ?_ _|refine blk_drew ?_|refine blk_alloc ?_ _));refine blk_put (cs:=#[.int .i64 ((rd_T91 l0 x1_2).f0),.int .i64 ((rd_T91 l0 x1_2).f1),.int .i64 0]) ?_ 2 _ rfl;(with_reducible repeat (first|refine blk_drewN ?_ _|refine blk_drew ?_|refine blk_alloc ?_ _));refine blk_put (cs:=#[.int .i64 ((rd_T91 l0 x1_2).f0),.int .i64 0,.int .i64 0]) ?_ 1 _ rfl;(with_reducible repeat (first|refine blk_drewN ?_ _|refine blk_drew ?_|refine blk_alloc ?_ _));refine blk_put (cs:=#[.int .i64 0,.int .i64 0,.int .i64 0]) ?_ 0 _ rfl;exact vk BK3.1⟩,⟨vb HB.1⟩⟩
       case rest=>
        clear HC6;obtain⟨kq,x11_12,rfl,HA,HJ5,BK3,HB⟩:=hcut
        cases kq with
        |zero=>exact absurd HA.1 (by simp [impl_IsTable.j1])
        |succ kj5=>
         have H:=HA.1;clear HA;simp only [impl_IsTable.j1] at H
         by_cases c17:x11_12=true
         ·subst c17;rw [if_pos rfl] at H;obtain rfl:=sj H;go_wp2
          go_ret
          exact⟨ew,vb HB.1⟩
         ·replace c17:=Bool.eq_false_iff.mpr c17;subst c17;rw [if_neg nf] at H;by_cases c18:x1_2=0
          ·rw [if_pos c18] at H;obtain⟨c18b0,c18b1⟩:=bqt c18;clear c18;have H':=ak H;clear H;go_wp2
           go_roundg kj5
           case measure=>have:=HK1.1;have:=HJ5.1;omega
           case rel=>exact⟨(wrap64 (x1_2+1)),es,H',⟨by have:=HK1.1;have:=HJ5.1;omega⟩,⟨vb HB.1⟩⟩
          ·rw [if_neg c18] at H;obtain⟨c18b0,c18b1⟩:=bqf c18;obtain⟨ji6,hji19⟩:∃j_:Int,(wrap64 (x1_2-1))=j_:=⟨_,rfl⟩;replace H:(if 0≤(ji6) then (if (ji6)<(l0.length:Int) then (if ((rd_T91 l0 (ji6)).f0)>((rd_T91 l0 x1_2).f0) then (some false) else (if ((rd_T91 l0 (ji6)).f0)=((rd_T91 l0 x1_2).f0) then (if ((rd_T91 l0 (ji6)).f1)≥((rd_T91 l0 x1_2).f1) then (some false) else (if ((rd_T91 l0 (ji6)).f2)>((rd_T91 l0 x1_2).f2) then (some false) else (impl_IsTable.l0 kj5 l0 l0 (l0.length:Int) (wrap64 (x1_2+1))))) else (impl_IsTable.l0 kj5 l0 l0 (l0.length:Int) (wrap64 (x1_2+1))))) else (none)) else (none))=some r:=by first|(rw [hji19] at H;exact H)|(simp only [hji19] at H ⊢;exact H)
           have hji19w:(IntKind.i64.wrap (x1_2-1))=ji6:=(i64_w _).trans hji19;by_cases c20:0≤(ji6)
           ·rw [if_pos c20] at H;have c20b0:=decide_eq_true c20;clear c20;by_cases c21:(ji6)<(l0.length:Int)
            ·rw [if_pos c21] at H;have c21b0:=decide_eq_true c21;clear c21;by_cases c22:((rd_T91 l0 (ji6)).f0)>((rd_T91 l0 x1_2).f0)
             ·rw [if_pos c22] at H;have c22b0:=decide_eq_true c22;clear c22;obtain rfl:=sj H;have p0:0≤((ji6):Int):=od;have q0:(ji6)<(l0.length:Int):=od;obtain⟨ad0,e0,hx0_5,hx0_2,hx0_7⟩:=at_T91 HR0.1 (ji6) p0 q0;obtain rfl:ad9=ad0:=(by injection e0);replace hx0_5:=cb HB.1 hx0_5;replace hx0_2:=cb HB.1 hx0_2;replace hx0_7:=cb HB.1 hx0_7;replace p0:=eq_true p0;replace q0:=eq_true q0;go_wp2_with (first|((with_reducible refine gate_dst (N:=5) rfl ?_);refine bx 5 #[.int .i64 0,.int .i64 0,.int .i64 0] 91 ?_;intro gb4 hg w23 hbox hb;have BK4:=ak hbox;have GW468:=gw hg HB;have GE4:=gw hg HB;replace HB:=bs HB hb;have NB3_4:=nl hg BK3;have NB4_3:=nr hg BK3;replace BK3:=kb BK3 hb;clear hb hbox hg;have:=NB4_3.1;have:=NB3_4.1;have hcz27:=cz3 BK4.1;have hcz28:=cz3 BK3.1))
              go_ret
              exact⟨by first|rfl|(simp [errW_none,errW_some]<;>rfl)|(simp only [←hji19];first|rfl|(simp [errW_none,errW_some]<;>rfl))|(simp [*,errW_none,errW_some]<;>rfl),vb HB.1⟩
             ·rw [if_neg c22] at H;have c22b0:=decide_eq_false c22;clear c22;by_cases c27:((rd_T91 l0 (ji6)).f0)=((rd_T91 l0 x1_2).f0)
              ·rw [if_pos c27] at H;have c27b0:(((rd_T91 l0 (ji6)).f0)==((rd_T91 l0 x1_2).f0))=true:=beq_iff_eq.mpr c27;have c27b1:(((rd_T91 l0 (ji6)).f0) !=((rd_T91 l0 x1_2).f0))=false:=bne_eq_false_iff_eq.mpr c27;clear c27;by_cases c28:((rd_T91 l0 (ji6)).f1)≥((rd_T91 l0 x1_2).f1)
               ·rw [if_pos c28] at H;have c28b0:=decide_eq_true c28;clear c28;obtain rfl:=sj H;have p0:0≤((ji6):Int):=od;have q0:(ji6)<(l0.length:Int):=od;obtain⟨ad0,e0,hx0_5,hx0_2,hx0_7⟩:=at_T91 HR0.1 (ji6) p0 q0;obtain rfl:ad9=ad0:=(by injection e0);replace hx0_5:=cb HB.1 hx0_5;replace hx0_2:=cb HB.1 hx0_2;replace hx0_7:=cb HB.1 hx0_7;replace p0:=eq_true p0;replace q0:=eq_true q0;go_wp2_with (first|((with_reducible refine gate_dst (N:=5) rfl ?_);refine bx 5 #[.int .i64 0,.int .i64 0,.int .i64 0] 91 ?_;intro gb4 hg w29 hbox hb;have BK4:=ak hbox;have GW468:=gw hg HB;have GE4:=gw hg HB;replace HB:=bs HB hb;have NB3_4:=nl hg BK3;have NB4_3:=nr hg BK3;replace BK3:=kb BK3 hb;clear hb hbox hg;have:=NB4_3.1;have:=NB3_4.1;have hcz11:=cz3 BK4.1;have hcz29:=cz3 BK3.1))
                go_ret
                exact⟨by first|rfl|(simp [errW_none,errW_some]<;>rfl)|(simp only [←hji19];first|rfl|(simp [errW_none,errW_some]<;>rfl))|(simp [*,errW_none,errW_some]<;>rfl),vb HB.1⟩
               ·rw [if_neg c28] at H;have c28b0:=decide_eq_false c28;clear c28;by_cases c33:((rd_T91 l0 (ji6)).f2)>((rd_T91 l0 x1_2).f2)
                ·rw [if_pos c33] at H;have c33b0:=decide_eq_true c33;clear c33;obtain rfl:=sj H;have p0:0≤((ji6):Int):=od;have q0:(ji6)<(l0.length:Int):=od;obtain⟨ad0,e0,hx0_5,hx0_2,hx0_7⟩:=at_T91 HR0.1 (ji6) p0 q0;obtain rfl:ad9=ad0:=(by injection e0);replace hx0_5:=cb HB.1 hx0_5;replace hx0_2:=cb HB.1 hx0_2;replace hx0_7:=cb HB.1 hx0_7;replace p0:=eq_true p0;replace q0:=eq_true q0;go_wp2_with (first|((with_reducible refine gate_dst (N:=5) rfl ?_);refine bx 5 #[.int .i64 0,.int .i64 0,.int .i64 0] 91 ?_;intro gb4 hg w34 hbox hb;have BK4:=ak hbox;have GW468:=gw hg HB;have GE4:=gw hg HB;replace HB:=bs HB hb;have NB3_4:=nl hg BK3;have NB4_3:=nr hg BK3;replace BK3:=kb BK3 hb;clear hb hbox hg;have:=NB4_3.1;have:=NB3_4.1;have hcz30:=cz3 BK4.1;have hcz31:=cz3 BK3.1))
                 go_ret
                 exact⟨by first|rfl|(simp [errW_none,errW_some]<;>rfl)|(simp only [←hji19];first|rfl|(simp [errW_none,errW_some]<;>rfl))|(simp [*,errW_none,errW_some]<;>rfl),vb HB.1⟩
                ·rw [if_neg c33] at H;have c33b0:=decide_eq_false c33;clear c33;have H':=ak H;clear H;have p0:0≤((ji6):Int):=od;have q0:(ji6)<(l0.length:Int):=od;obtain⟨ad0,e0,hx0_5,hx0_2,hx0_7⟩:=at_T91 HR0.1 (ji6) p0 q0;obtain rfl:ad9=ad0:=(by injection e0);replace hx0_5:=cb HB.1 hx0_5;replace hx0_2:=cb HB.1 hx0_2;replace hx0_7:=cb HB.1 hx0_7;replace p0:=eq_true p0;replace q0:=eq_true q0;go_wp2_with (first|((with_reducible refine gate_dst (N:=5) rfl ?_);refine bx 5 #[.int .i64 0,.int .i64 0,.int .i64 0] 91 ?_;intro gb4 hg w38 hbox hb;have BK4:=ak hbox;have GW468:=gw hg HB;have GE4:=gw hg HB;replace HB:=bs HB hb;have NB3_4:=nl hg BK3;have NB4_3:=nr hg BK3;replace BK3:=kb BK3 hb;clear hb hbox hg;have:=NB4_3.1;have:=NB3_4.1;have hcz32:=cz3 BK4.1;have hcz33:=cz3 BK3.1))
                 go_roundg kj5
                 case measure=>have:=HK1.1;have:=HJ5.1;omega
                 case rel=>exact⟨(wrap64 (x1_2+1)),es,H',⟨by have:=HK1.1;have:=HJ5.1;omega⟩,⟨vb HB.1⟩⟩
              ·rw [if_neg c27] at H;have c27b0:(((rd_T91 l0 (ji6)).f0)==((rd_T91 l0 x1_2).f0))=false:=beq_eq_false_iff_ne.mpr c27;have c27b1:(((rd_T91 l0 (ji6)).f0) !=((rd_T91 l0 x1_2).f0))=true:=bne_iff_ne.mpr c27;have H':=ak H;clear H;have p0:0≤((ji6):Int):=od;have q0:(ji6)<(l0.length:Int):=od;obtain⟨ad0,e0,hx0_5,hx0_2,hx0_7⟩:=at_T91 HR0.1 (ji6) p0 q0;obtain rfl:ad9=ad0:=(by injection e0);replace hx0_5:=cb HB.1 hx0_5;replace hx0_2:=cb HB.1 hx0_2;replace hx0_7:=cb HB.1 hx0_7;replace p0:=eq_true p0;replace q0:=eq_true q0;go_wp2_with (first|((with_reducible refine gate_dst (N:=5) rfl ?_);refine bx 5 #[.int .i64 0,.int .i64 0,.int .i64 0] 91 ?_;intro gb4 hg w42 hbox hb;have BK4:=ak hbox;have GW468:=gw hg HB;have GE4:=gw hg HB;replace HB:=bs HB hb;have NB3_4:=nl hg BK3;have NB4_3:=nr hg BK3;replace BK3:=kb BK3 hb;clear hb hbox hg;have:=NB4_3.1;have:=NB3_4.1;have hcz34:=cz3 BK4.1;have hcz35:=cz3 BK3.1))
               go_roundg kj5
               case measure=>have:=HK1.1;have:=HJ5.1;omega
               case rel=>exact⟨(wrap64 (x1_2+1)),es,H',⟨by have:=HK1.1;have:=HJ5.1;omega⟩,⟨vb HB.1⟩⟩
            ·exact nO_ c21 H
           ·exact nO_ c20 H
      ·exact nO_ c5 H
     ·exact nO_ c4 H
    ·rw [if_neg c3] at H;have c3b0:=decide_eq_false c3;clear c3;obtain rfl:=sj H;go_wp2
     go_ret
     exact⟨ew,vb HB.1⟩
def impl_isPlace.f (a0:Int) (a1:Int):Option (Bool):=(impl_within.f a0 0 100000).bind fun t0=>(if t0=true then ((impl_within.f a1 0 100000).bind fun t1=>(some t1)) else (some false))
theorem impl_isPlace.calls (a0:Int) (a1:Int) (r:Bool) (w:World) (h:impl_isPlace.f a0 a1=some r):
  Calls Try.prog 120 #[.int .i64 a0,.int .i64 a1] w fun e w'=>e=.returned (.bool r)∧Drawn0 w w':=by
 unfold impl_isPlace.f at h;have H:=h;clear h;obtain⟨t0,A3,H⟩:=bnk H;by_cases c4:t0=true
 subst c4;rw [if_pos rfl] at H;obtain⟨t1,A5,H⟩:=bnk H;obtain rfl:=sj H;rotate_left
 replace c4:=Bool.eq_false_iff.mpr c4;subst c4;rw [if_neg nf] at H;obtain rfl:=sj H;rotate_left
 all_goals
  go_enter Try.func120,Try.ntmps120;go_wp2_with (first|((with_reducible refine at_fn (f:=97) rfl ?_);refine gl (some 6) Try.func97 #[.int .i64 a0,.int .i64 0,.int .i64 100000] ?_;(with_reducible refine(impl_within.calls a0 0 100000 _ _ A3.1).mono ?_);rintro e w' ⟨rfl,⟨nd,rfl⟩⟩;refine⟨_,rfl,?_⟩)|(go_at_call 97;(with_reducible refine(impl_within.calls a1 0 100000 t1 _ A5.1).mono ?_);rintro e w' ⟨rfl,⟨nd,rfl⟩⟩))
  go_ret
  exact⟨by first|rfl|(simp;done)|(simp [*];done),by repeat (first|exact Drawn0.refl _|apply Drawn0.step)⟩
def impl_IsArea.f (a0_0:Int) (a0_1:Int) (a0_2:Int) (a0_3:Int) (a0_4:Int):Option (Bool):=(impl_isKind.f a0_0).bind fun t1=>(if t1=true then ((impl_isPlace.f a0_1 a0_2).bind fun t2=>(if t2=true then ((impl_within.f a0_3 1 (wrap64 (100000-a0_1))).bind fun t3=>(if t3=true then ((impl_within.f a0_4 1 (wrap64 (100000-a0_2))).bind fun t4=>(some t4)) else (some false))) else (some false))) else (some false))
theorem impl_IsArea.calls (a0_0:Int) (a0_1:Int) (a0_2:Int) (a0_3:Int) (a0_4:Int) (r:Bool) (w:World) (h:impl_IsArea.f a0_0 a0_1 a0_2 a0_3 a0_4=some r):
  Calls Try.prog 113 #[.agg #[.int .i64 a0_0,.int .i64 a0_1,.int .i64 a0_2,.int .i64 a0_3,.int .i64 a0_4]] w fun e w'=>e=.returned (.bool r)∧Below w.heap.size w w':=by
 have hu69:=Try.underlying69;have HB:=ak (Below.refl w.heap.size w);unfold impl_IsArea.f at h;have H:=h;clear h;obtain⟨t1,A2,H⟩:=bnk H;by_cases c3:t1=true
 subst c3;rw [if_pos rfl] at H;obtain⟨t2,A4,H⟩:=bnk H;by_cases c5:t2=true
 subst c5;rw [if_pos rfl] at H;obtain⟨t3,A6,H⟩:=bnk H;by_cases c7:t3=true
 subst c7;rw [if_pos rfl] at H;obtain⟨t4,A8,H⟩:=bnk H;obtain rfl:=sj H;rotate_left
 replace c7:=Bool.eq_false_iff.mpr c7;subst c7;rw [if_neg nf] at H;obtain rfl:=sj H;rotate_left
 replace c5:=Bool.eq_false_iff.mpr c5;subst c5;rw [if_neg nf] at H;obtain rfl:=sj H;rotate_left
 replace c3:=Bool.eq_false_iff.mpr c3;subst c3;rw [if_neg nf] at H;obtain rfl:=sj H;rotate_left
 all_goals
  go_enter Try.func113,Try.ntmps113;go_wp2_with (first|((with_reducible refine gate_dst (N:=1) rfl ?_);refine bx 1 #[.int .i64 a0_0,.int .i64 a0_1,.int .i64 a0_2,.int .i64 a0_3,.int .i64 a0_4] 69 ?_;intro gb0 hg w9 hbox hb;have BK0:=ak hbox;have GW471:=gw hg HB;have GE0:=gw hg HB;replace HB:=bs HB hb;clear hb hbox hg;have hcz5:=cz5 BK0.1)|((with_reducible refine at_fn (f:=111) rfl ?_);refine gl (some 5) Try.func111 #[.int .i64 a0_0] ?_;(with_reducible refine(impl_isKind.calls a0_0 _ _ A2.1).mono ?_);rintro e w' ⟨rfl,⟨nd,rfl⟩⟩;refine⟨_,rfl,?_⟩)|(go_at_call 120;(with_reducible refine(impl_isPlace.calls a0_1 a0_2 _ _ A4.1).mono ?_);rintro e w' ⟨rfl,⟨nd,rfl⟩⟩)|(go_at_call 97;(with_reducible refine(impl_within.calls a0_3 1 (wrap64 (100000-a0_1)) _ _ A6.1).mono ?_);rintro e w' ⟨rfl,⟨nd,rfl⟩⟩)|(go_at_call 97;(with_reducible refine(impl_within.calls a0_4 1 (wrap64 (100000-a0_2)) t4 _ A8.1).mono ?_);rintro e w' ⟨rfl,⟨nd,rfl⟩⟩))
  go_ret
  exact⟨ew,vb HB.1⟩
def impl_IsSite.l0:Nat→List (S69)→Int→Int→Option (Bool)
 |0,_,_,_=>none
 |k+1,x4,x7,x0=>if x0<x7 then (if 0≤x0 then (if x0<(x4.length:Int) then ((impl_IsArea.f ((rd_T69 x4 x0).f0) ((rd_T69 x4 x0).f1) ((rd_T69 x4 x0).f2) ((rd_T69 x4 x0).f3) ((rd_T69 x4 x0).f4)).bind fun t8=>(if t8=true then (impl_IsSite.l0 k x4 x7 (wrap64 (x0+1))) else (some false))) else (none)) else (none)) else (some true)
def impl_IsSite.f (k:Nat) (l0:List (S69)):Option (Bool):=if (l0.length:Int)>10 then (some false) else (impl_IsSite.l0 k l0 (l0.length:Int) 0)
theorem impl_IsSite.mono_l:∀k,(∀y5 y1 y6,LeO (impl_IsSite.l0 k y5 y1 y6) (impl_IsSite.l0 (k+1) y5 y1 y6))
 |0=>fun _ _ _ r h=>by simp [impl_IsSite.l0] at h
 |k+1=>by
  have ih0:=impl_IsSite.mono_l k
  ·intro y5 y1 y6;unfold impl_IsSite.l0
   repeat' (with_reducible first|exact ih0 .. |exact lm|refine LeO.ite ?_ ?_|refine LeO.bind ?_ (fun _=>?_))
theorem impl_IsSite.mono:∀a0 k,LeO (impl_IsSite.f k a0) (impl_IsSite.f (k+1) a0):=by
 intro a0 k;have ih0:=impl_IsSite.mono_l k;unfold impl_IsSite.f
 repeat' (with_reducible first|exact ih0 .. |exact lm|refine LeO.ite ?_ ?_|refine LeO.bind ?_ (fun _=>?_))
theorem impl_IsSite.calls (k:Nat) (A0:Option Addr) (c0:Nat) (l0:List (S69)) (r:Bool) (w:World) (hr0:Kd.C k69 w A0 l0.length l0) (hc0:l0.length≤c0) (h:impl_IsSite.f k l0=some r):
  Calls Try.prog 95 #[.slice A0 l0.length c0] w fun e w'=>e=.returned (.bool r)∧Below w.heap.size w w':=by
 have hu69:=Try.underlying69;have HR0:=ak hr0;have HC0:=ak hc0;clear hr0 hc0;have HB:=ak (Below.refl w.heap.size w);unfold impl_IsSite.f at h;have H:=h;clear h;by_cases c2:(l0.length:Int)>10
 ·rw [if_pos c2] at H;have c2b0:=decide_eq_true c2;have c2b1:decide (10<l0.length)=true:=decide_eq_true (by omega);clear c2;obtain rfl:=sj H;go_enter Try.func95,Try.ntmps95;go_wp2
  go_ret
  exact⟨ew,vb HB.1⟩
 ·rw [if_neg c2] at H;have c2b0:=decide_eq_false c2;have c2b1:decide (10<l0.length)=false:=decide_eq_false (by omega);clear c2;have H':=ak H;clear H;go_enter Try.func95,Try.ntmps95;go_wp2
  go_loopg [10] k (fun kq v0 w'=>∃(x0_1:Int),v0=.int .i64 x0_1∧Aside0 (impl_IsSite.l0 kq l0 (l0.length:Int) x0_1=some r)∧Aside0 (kq≤k)∧Aside0 (Below w.heap.size w w'))
  case atStart=>exact⟨(0),es,H',⟨Nat.le_refl _⟩,⟨vb HB.1⟩⟩
  case round=>
   clear H';obtain⟨x0_1,rfl,HA,HK1,HB⟩:=hrel
   cases gk with
   |zero=>exact absurd HA.1 (by simp [impl_IsSite.l0])
   |succ k1=>
    have H:=HA.1;clear HA;simp only [impl_IsSite.l0] at H
    by_cases c3:x0_1<(l0.length:Int)
    ·rw [if_pos c3] at H;have c3b0:=decide_eq_true c3;clear c3;by_cases c4:0≤x0_1
     ·rw [if_pos c4] at H;have c4b0:=decide_eq_true c4;clear c4;by_cases c5:x0_1<(l0.length:Int)
      ·rw [if_pos c5] at H;have c5b0:=decide_eq_true c5;clear c5;obtain⟨t8,A6,H⟩:=bnk H;by_cases c7:t8=true
       ·subst c7;rw [if_pos rfl] at H;have H':=ak H;clear H;have p2:0≤(x0_1:Int):=od;have q2:x0_1<(l0.length:Int):=od;obtain⟨ad2,e2,hx2_5,hx2_1,hx2_6,hx2_9,hx2_10⟩:=at_T69b HR0.1 HB.1 x0_1 p2 q2
        cases e2;replace p2:=eq_true p2;replace q2:=eq_true q2;go_wp2_with (first|((with_reducible refine gate_dst (N:=4) rfl ?_);refine bx 4 #[.int .i64 0,.int .i64 0,.int .i64 0,.int .i64 0,.int .i64 0] 69 ?_;intro gb3 hg w8 hbox hb;have BK3:=ak hbox;have GW477:=gw hg HB;have GE3:=gw hg HB;replace HB:=bs HB hb;clear hb hbox hg;have hcz7:=cz5 BK3.1)|((with_reducible refine at_fn (f:=113) rfl ?_);refine gl (some 15) Try.func113 #[.agg #[.int .i64 ((rd_T69 l0 x0_1).f0),.int .i64 ((rd_T69 l0 x0_1).f1),.int .i64 ((rd_T69 l0 x0_1).f2),.int .i64 ((rd_T69 l0 x0_1).f3),.int .i64 ((rd_T69 l0 x0_1).f4)]] ?_;(with_reducible refine(impl_IsArea.calls ((rd_T69 l0 x0_1).f0) ((rd_T69 l0 x0_1).f1) ((rd_T69 l0 x0_1).f2) ((rd_T69 l0 x0_1).f3) ((rd_T69 l0 x0_1).f4) _ _ A6.1).mono ?_);rintro e w10 ⟨rfl,hb⟩;refine⟨_,rfl,?_⟩;replace BK3:=ak (blk_below (g:=gb3) (o:=.cells #[.int .i64 ((rd_T69 l0 x0_1).f0),.int .i64 ((rd_T69 l0 x0_1).f1),.int .i64 ((rd_T69 l0 x0_1).f2),.int .i64 ((rd_T69 l0 x0_1).f3),.int .i64 ((rd_T69 l0 x0_1).f4)] 69 (0,0)) (vz BK3.1) hb);replace HB:=bs HB hb;(try clear hb)))
        go_roundg k1
        case measure=>have:=HK1.1;omega
        case rel=>exact⟨(wrap64 (x0_1+1)),es,H',⟨by have:=HK1.1;omega⟩,⟨vb HB.1⟩⟩
       ·replace c7:=Bool.eq_false_iff.mpr c7;subst c7;rw [if_neg nf] at H;obtain rfl:=sj H;have p2:0≤(x0_1:Int):=od;have q2:x0_1<(l0.length:Int):=od;obtain⟨ad2,e2,hx2_5,hx2_1,hx2_6,hx2_9,hx2_10⟩:=at_T69b HR0.1 HB.1 x0_1 p2 q2
        cases e2;replace p2:=eq_true p2;replace q2:=eq_true q2;go_wp2_with (first|((with_reducible refine gate_dst (N:=4) rfl ?_);refine bx 4 #[.int .i64 0,.int .i64 0,.int .i64 0,.int .i64 0,.int .i64 0] 69 ?_;intro gb3 hg w11 hbox hb;have BK3:=ak hbox;have GW477:=gw hg HB;have GE3:=gw hg HB;replace HB:=bs HB hb;clear hb hbox hg;have hcz11:=cz5 BK3.1)|((with_reducible refine at_fn (f:=113) rfl ?_);refine gl (some 15) Try.func113 #[.agg #[.int .i64 ((rd_T69 l0 x0_1).f0),.int .i64 ((rd_T69 l0 x0_1).f1),.int .i64 ((rd_T69 l0 x0_1).f2),.int .i64 ((rd_T69 l0 x0_1).f3),.int .i64 ((rd_T69 l0 x0_1).f4)]] ?_;(with_reducible refine(impl_IsArea.calls ((rd_T69 l0 x0_1).f0) ((rd_T69 l0 x0_1).f1) ((rd_T69 l0 x0_1).f2) ((rd_T69 l0 x0_1).f3) ((rd_T69 l0 x0_1).f4) _ _ A6.1).mono ?_);rintro e w13 ⟨rfl,hb⟩;refine⟨_,rfl,?_⟩;replace BK3:=ak (blk_below (g:=gb3) (o:=.cells #[.int .i64 ((rd_T69 l0 x0_1).f0),.int .i64 ((rd_T69 l0 x0_1).f1),.int .i64 ((rd_T69 l0 x0_1).f2),.int .i64 ((rd_T69 l0 x0_1).f3),.int .i64 ((rd_T69 l0 x0_1).f4)] 69 (0,0)) (vz BK3.1) hb);replace HB:=bs HB hb;(try clear hb)))
        go_ret
        exact⟨ew,vb HB.1⟩
      ·exact nO_ c5 H
     ·exact nO_ c4 H
    ·rw [if_neg c3] at H;have c3b0:=decide_eq_false c3;clear c3;obtain rfl:=sj H;go_wp2
     go_ret
     exact⟨ew,vb HB.1⟩
def impl_allWithin.l0:Nat→Int→Int→List Int→Int→Int→Option (Bool)
 |0,_,_,_,_,_=>none
 |k+1,x0,x3,x7,x9,x1=>if x1<x9 then (if 0≤x1 then (if x1<(x7.length:Int) then ((impl_within.f (rd x7 x1) x0 x3).bind fun t8=>(if t8=true then (impl_allWithin.l0 k x0 x3 x7 x9 (wrap64 (x1+1))) else (some false))) else (none)) else (none)) else (some true)
def impl_allWithin.f (k:Nat) (l0:List Int) (a1:Int) (a2:Int):Option (Bool):=impl_allWithin.l0 k a1 a2 l0 (l0.length:Int) 0
theorem impl_allWithin.mono_l:∀k,(∀y4 y0 y3 y5 y6,LeO (impl_allWithin.l0 k y4 y0 y3 y5 y6) (impl_allWithin.l0 (k+1) y4 y0 y3 y5 y6))
 |0=>fun _ _ _ _ _ r h=>by simp [impl_allWithin.l0] at h
 |k+1=>by
  have ih0:=impl_allWithin.mono_l k
  ·intro y4 y0 y3 y5 y6;unfold impl_allWithin.l0
   repeat' (with_reducible first|exact ih0 .. |exact lm|refine LeO.ite ?_ ?_|refine LeO.bind ?_ (fun _=>?_))
theorem impl_allWithin.mono:∀a0 a1 a2 k,LeO (impl_allWithin.f k a0 a1 a2) (impl_allWithin.f (k+1) a0 a1 a2):=by
 intro a0 a1 a2 k;have ih0:=impl_allWithin.mono_l k;unfold impl_allWithin.f
 repeat' (with_reducible first|exact ih0 .. |exact lm|refine LeO.ite ?_ ?_|refine LeO.bind ?_ (fun _=>?_))
theorem impl_allWithin.calls (k:Nat) (A0:Option Addr) (c0:Nat) (l0:List Int) (a1:Int) (a2:Int) (r:Bool) (w:World) (hr0:Kd.C (Kd.int .i64) w A0 l0.length l0) (hc0:l0.length≤c0) (h:impl_allWithin.f k l0 a1 a2=some r):
  Calls Try.prog 96 #[.slice A0 l0.length c0,.int .i64 a1,.int .i64 a2] w fun e w'=>e=.returned (.bool r)∧Drawn0 w w':=by
 have HR0:=ak hr0;have HC0:=ak hc0;clear hr0 hc0;unfold impl_allWithin.f at h;have H:=h;clear h;have H':=ak H;clear H;go_enter Try.func96,Try.ntmps96;go_wp2
 go_loopg [11] k (fun kq v1 w'=>∃(x1_0:Int),v1=.int .i64 x1_0∧Aside0 (impl_allWithin.l0 kq a1 a2 l0 (l0.length:Int) x1_0=some r)∧Aside0 (kq≤k)∧Drawn0 w w')
 case atStart=>exact⟨(0),es,H',⟨Nat.le_refl _⟩,by repeat (first|exact Drawn0.refl _|apply Drawn0.step)⟩
 case round=>
  clear H';obtain⟨x1_0,rfl,HA,HK1,⟨m0,rfl⟩⟩:=hrel
  cases gk with
  |zero=>exact absurd HA.1 (by simp [impl_allWithin.l0])
  |succ k1=>
   have H:=HA.1;clear HA;simp only [impl_allWithin.l0] at H
   by_cases c4:x1_0<(l0.length:Int)
   ·rw [if_pos c4] at H;have c4b0:=decide_eq_true c4;clear c4;by_cases c5:0≤x1_0
    ·rw [if_pos c5] at H;have c5b0:=decide_eq_true c5;clear c5;by_cases c6:x1_0<(l0.length:Int)
     ·rw [if_pos c6] at H;have c6b0:=decide_eq_true c6;clear c6;obtain⟨t8,A7,H⟩:=bnk H;by_cases c8:t8=true
      ·subst c8;rw [if_pos rfl] at H;have H':=ak H;clear H;have p2:0≤(x1_0:Int):=od;have q2:x1_0<(l0.length:Int):=od;obtain⟨ad2,e2,hx2_4⟩:=Kd.at_int HR0.1 x1_0 p2 q2
       cases e2;replace p2:=eq_true p2;replace q2:=eq_true q2;go_wp2_with (first|((with_reducible refine at_fn (f:=97) rfl ?_);refine gl (some 18) Try.func97 #[.int .i64 (rd l0 x1_0),.int .i64 a1,.int .i64 a2] ?_;(with_reducible refine(impl_within.calls (rd l0 x1_0) a1 a2 _ _ A7.1).mono ?_);rintro e w' ⟨rfl,⟨nd,rfl⟩⟩;refine⟨_,rfl,?_⟩))
       go_roundg k1
       case measure=>have:=HK1.1;omega
       case rel=>exact⟨(wrap64 (x1_0+1)),es,H',⟨by have:=HK1.1;omega⟩,by repeat (first|exact Drawn0.refl _|apply Drawn0.step)⟩
      ·replace c8:=Bool.eq_false_iff.mpr c8;subst c8;rw [if_neg nf] at H;obtain rfl:=sj H;have p2:0≤(x1_0:Int):=od;have q2:x1_0<(l0.length:Int):=od;obtain⟨ad2,e2,hx2_4⟩:=Kd.at_int HR0.1 x1_0 p2 q2
       cases e2;replace p2:=eq_true p2;replace q2:=eq_true q2;go_wp2_with (first|((with_reducible refine at_fn (f:=97) rfl ?_);refine gl (some 18) Try.func97 #[.int .i64 (rd l0 x1_0),.int .i64 a1,.int .i64 a2] ?_;(with_reducible refine(impl_within.calls (rd l0 x1_0) a1 a2 _ _ A7.1).mono ?_);rintro e w' ⟨rfl,⟨nd,rfl⟩⟩;refine⟨_,rfl,?_⟩))
       go_ret
       exact⟨by first|rfl|(simp;done)|(simp [*];done),by repeat (first|exact Drawn0.refl _|apply Drawn0.step)⟩
     ·exact nO_ c6 H
    ·exact nO_ c5 H
   ·rw [if_neg c4] at H;have c4b0:=decide_eq_false c4;clear c4;obtain rfl:=sj H;go_wp2
    go_ret
    exact⟨by first|rfl|(simp;done)|(simp [*];done),by repeat (first|exact Drawn0.refl _|apply Drawn0.step)⟩
def impl_IsField.f (k:Nat) (l0_0:List (S91)) (l0_1:List (S69)) (l0_2:List Int) (l0_3:List Int) (l0_4:List Int) (a0_5:Int):Option (Bool):=(impl_IsTable.f k l0_0).bind fun t1=>(if t1=true then ((impl_IsSite.f k l0_1).bind fun t2=>(if t2=true then (if (l0_2.length:Int)≤4 then ((impl_allWithin.f k l0_2 20 300).bind fun t3=>(if t3=true then (if (l0_3.length:Int)≤7 then (if (l0_4.length:Int)=(l0_3.length:Int) then ((impl_allWithin.f k l0_3 0 100000).bind fun t4=>(if t4=true then ((impl_allWithin.f k l0_4 0 100000).bind fun t5=>(if t5=true then ((impl_within.f a0_5 0 10000).bind fun t6=>(some t6)) else (some false))) else (some false))) else (some false)) else (some false)) else (some false))) else (some false)) else (some false))) else (some false))
theorem impl_IsField.mono:∀a0 a1 a2 a3 a4 a5 k,LeO (impl_IsField.f k a0 a1 a2 a3 a4 a5) (impl_IsField.f (k+1) a0 a1 a2 a3 a4 a5):=by
 intro a0 a1 a2 a3 a4 a5 k;unfold impl_IsField.f
 repeat' (with_reducible first|exact impl_IsSite.mono .. |exact impl_IsTable.mono .. |exact impl_allWithin.mono .. |exact lm|refine LeO.ite ?_ ?_|refine LeO.bind ?_ (fun _=>?_))
theorem impl_IsField.calls (k:Nat) (A0_0:Option Addr) (c0_0:Nat) (l0_0:List (S91)) (A0_1:Option Addr) (c0_1:Nat) (l0_1:List (S69)) (A0_2:Option Addr) (c0_2:Nat) (l0_2:List Int) (A0_3:Option Addr) (c0_3:Nat) (l0_3:List Int) (A0_4:Option Addr) (c0_4:Nat) (l0_4:List Int) (a0_5:Int) (r:Bool) (w:World) (hr0_0:Kd.C k91 w A0_0 l0_0.length l0_0) (hc0_0:l0_0.length≤c0_0) (hr0_1:Kd.C k69 w A0_1 l0_1.length l0_1) (hc0_1:l0_1.length≤c0_1) (hr0_2:Kd.C (Kd.int .i64) w A0_2 l0_2.length l0_2) (hc0_2:l0_2.length≤c0_2) (hr0_3:Kd.C (Kd.int .i64) w A0_3 l0_3.length l0_3) (hc0_3:l0_3.length≤c0_3) (hr0_4:Kd.C (Kd.int .i64) w A0_4 l0_4.length l0_4) (hc0_4:l0_4.length≤c0_4) (h:impl_IsField.f k l0_0 l0_1 l0_2 l0_3 l0_4 a0_5=some r):
  Calls Try.prog 73 #[.agg (f5 A0_0 l0_0 c0_0 A0_1 l0_1 c0_1 A0_2 l0_2 c0_2 A0_3 l0_3 c0_3 A0_4 l0_4 c0_4 a0_5)] w fun e w'=>e=.returned (.bool r)∧Below w.heap.size w w':=by
 have hu28:=Try.underlying28;have HR0_0:=ak hr0_0;have HC0_0:=ak hc0_0;clear hr0_0 hc0_0;have HR0_1:=ak hr0_1;have HC0_1:=ak hc0_1;clear hr0_1 hc0_1;have HR0_2:=ak hr0_2;have HC0_2:=ak hc0_2;clear hr0_2 hc0_2;have HR0_3:=ak hr0_3;have HC0_3:=ak hc0_3;clear hr0_3 hc0_3;have HR0_4:=ak hr0_4;have HC0_4:=ak hc0_4;clear hr0_4 hc0_4;have HB:=ak (Below.refl w.heap.size w);unfold impl_IsField.f at h;have H:=h;clear h;obtain⟨t1,A2,H⟩:=bnk H
 by_cases c3:t1=true
 subst c3;rw [if_pos rfl] at H;obtain⟨t2,A4,H⟩:=bnk H;by_cases c5:t2=true
 subst c5;rw [if_pos rfl] at H;by_cases c6:(l0_2.length:Int)≤4
 rw [if_pos c6] at H;have c6b0:=decide_eq_true c6;have c6b1:decide (l0_2.length≤4)=true:=decide_eq_true (by omega);clear c6;obtain⟨t3,A7,H⟩:=bnk H;by_cases c8:t3=true
 subst c8;rw [if_pos rfl] at H;by_cases c9:(l0_3.length:Int)≤7
 rw [if_pos c9] at H;have c9b0:=decide_eq_true c9;have c9b1:decide (l0_3.length≤7)=true:=decide_eq_true (by omega);clear c9;by_cases c10:(l0_4.length:Int)=(l0_3.length:Int)
 rw [if_pos c10] at H;obtain⟨c10b0,c10b1⟩:=bqt c10;have c10b2:(l0_4.length==l0_3.length)=true:=by first|simpa using c10|(simp at c10 ⊢;omega)
 clear c10;obtain⟨t4,A11,H⟩:=bnk H;by_cases c12:t4=true
 subst c12;rw [if_pos rfl] at H;obtain⟨t5,A13,H⟩:=bnk H;by_cases c14:t5=true
 subst c14;rw [if_pos rfl] at H;obtain⟨t6,A15,H⟩:=bnk H;obtain rfl:=sj H;rotate_left
 replace c14:=Bool.eq_false_iff.mpr c14;subst c14;rw [if_neg nf] at H;obtain rfl:=sj H;rotate_left
 replace c12:=Bool.eq_false_iff.mpr c12;subst c12;rw [if_neg nf] at H;obtain rfl:=sj H;rotate_left
 rw [if_neg c10] at H;obtain⟨c10b0,c10b1⟩:=bqf c10;have c10b2:(l0_4.length==l0_3.length)=false:=by first|simpa using c10|(simp at c10 ⊢;omega)
 obtain rfl:=sj H;rotate_left
 rw [if_neg c9] at H;have c9b0:=decide_eq_false c9;have c9b1:decide (l0_3.length≤7)=false:=decide_eq_false (by omega);clear c9;obtain rfl:=sj H;rotate_left
 replace c8:=Bool.eq_false_iff.mpr c8;subst c8;rw [if_neg nf] at H;obtain rfl:=sj H;rotate_left
 rw [if_neg c6] at H;have c6b0:=decide_eq_false c6;have c6b1:decide (l0_2.length≤4)=false:=decide_eq_false (by omega);clear c6;obtain rfl:=sj H;rotate_left
 replace c5:=Bool.eq_false_iff.mpr c5;subst c5;rw [if_neg nf] at H;obtain rfl:=sj H;rotate_left
 replace c3:=Bool.eq_false_iff.mpr c3;subst c3;rw [if_neg nf] at H;obtain rfl:=sj H;rotate_left
 all_goals
  go_enter Try.func73,Try.ntmps73;go_wp2_with (first|((with_reducible refine gate_dst (N:=1) rfl ?_);(try (refine gate_guard (by rfl) ?_;dsimp only));refine bx 1 (f5 A0_0 l0_0 c0_0 A0_1 l0_1 c0_1 A0_2 l0_2 c0_2 A0_3 l0_3 c0_3 A0_4 l0_4 c0_4 a0_5) 28 ?_;intro gb0 hg w9 hbox hb;have BK0:=ak hbox;have GW481:=gw hg HB;have GE0:=gw hg HB;replace HB:=bs HB hb;clear hb hbox hg;have hcz7:=cz6 BK0.1)|((with_reducible refine at_fn (f:=94) rfl ?_);refine gl (some 5) Try.func94 #[.slice A0_0 l0_0.length c0_0] ?_;(with_reducible refine(impl_IsTable.calls k _ _ l0_0 _ _ ?_ HC0_0.1 A2.1).mono ?_);exact vd HR0_0.1 HB.1;rintro e w9 ⟨rfl,hb⟩;refine⟨_,rfl,?_⟩;replace BK0:=kb BK0 hb;replace HB:=bs HB hb;(try clear hb);have hcz7:=cz6 BK0.1)|(go_at_call 95;(with_reducible refine(impl_IsSite.calls k _ _ l0_1 _ _ ?_ HC0_1.1 A4.1).mono ?_);exact vd HR0_1.1 HB.1;rintro e w9 ⟨rfl,hb⟩;replace BK0:=kb BK0 hb;replace HB:=bs HB hb;(try clear hb);have hcz7:=cz6 BK0.1)|(go_at_call 96;(with_reducible refine(impl_allWithin.calls k _ _ l0_2 20 300 _ _ ?_ HC0_2.1 A7.1).mono ?_);exact vd HR0_2.1 HB.1;rintro e w' ⟨rfl,⟨nd,rfl⟩⟩)|(go_at_call 96;(with_reducible refine(impl_allWithin.calls k _ _ l0_3 0 100000 _ _ ?_ HC0_3.1 A11.1).mono ?_);exact vd HR0_3.1 (vb HB.1);rintro e w' ⟨rfl,⟨nd,rfl⟩⟩)|(go_at_call 96;(with_reducible refine(impl_allWithin.calls k _ _ l0_4 0 100000 _ _ ?_ HC0_4.1 A13.1).mono ?_);exact vd HR0_4.1 (vb HB.1);rintro e w' ⟨rfl,⟨nd,rfl⟩⟩)|(go_at_call 97;(with_reducible refine(impl_within.calls a0_5 0 10000 t6 _ A15.1).mono ?_);rintro e w' ⟨rfl,⟨nd,rfl⟩⟩))
  go_ret
  exact⟨ew,vb HB.1⟩
def impl_isIndex.f (a0:Int) (a1:Int):Option (Bool):=(impl_within.f a0 0 (wrap64 (a1-1))).bind fun t0=>(some t0)
theorem impl_isIndex.calls (a0:Int) (a1:Int) (r:Bool) (w:World) (h:impl_isIndex.f a0 a1=some r):
  Calls Try.prog 74 #[.int .i64 a0,.int .i64 a1] w fun e w'=>e=.returned (.bool r)∧Drawn0 w w':=by
 unfold impl_isIndex.f at h;have H:=h;clear h;obtain⟨t0,A3,H⟩:=bnk H;obtain rfl:=sj H;go_enter Try.func74,Try.ntmps74;go_wp2_with (first|((with_reducible refine at_fn (f:=97) rfl ?_);refine gl (some 8) Try.func97 #[.int .i64 a0,.int .i64 0,.int .i64 (wrap64 (a1-1))] ?_;(with_reducible refine(impl_within.calls a0 0 (wrap64 (a1-1)) t0 _ A3.1).mono ?_);rintro e w' ⟨rfl,⟨nd,rfl⟩⟩;refine⟨_,rfl,?_⟩))
 go_ret
 exact⟨by first|rfl|(simp;done)|(simp [*];done),by repeat (first|exact Drawn0.refl _|apply Drawn0.step)⟩
def impl_fieldAsked.l0:Nat→List Int→List Int→Int→Int→List (S91)→List (S69)→List Int→List Int→List Int→Int→Option (Int)
 |0,_,_,_,_,_,_,_,_,_,_=>none
 |k+1,x2,x8,x16,x1,x20,x19,x21,x22,x23,x24=>if x1<x16 then (if 0≤x1 then (if x1<(x8.length:Int) then ((impl_isIndex.f (rd x8 x1) (x19.length:Int)).bind fun t18=>(if t18=true then (if x1>0 then (if 0≤(wrap64 (x1-1)) then (if (wrap64 (x1-1))<(x2.length:Int) then (if (rd x2 (wrap64 (x1-1)))≥(rd x8 x1) then (some 2) else (impl_fieldAsked.l0 k x2 x8 x16 (wrap64 (x1+1)) x20 x19 x21 x22 x23 x24)) else (none)) else (none)) else (impl_fieldAsked.l0 k x2 x8 x16 (wrap64 (x1+1)) x20 x19 x21 x22 x23 x24)) else (some 2))) else (none)) else (none)) else (some 0)
def impl_fieldAsked.f (k:Nat) (l0_0:List (S91)) (l0_1:List (S69)) (l0_2:List Int) (l0_3:List Int) (l0_4:List Int) (a0_5:Int) (l1:List Int):Option (Int):=(impl_IsField.f k l0_0 l0_1 l0_2 l0_3 l0_4 a0_5).bind fun t17=>(if t17=true then (if (l0_1.length:Int)>6 then (some 3) else (impl_fieldAsked.l0 k l1 l1 (l1.length:Int) 0 l0_0 l0_1 l0_2 l0_3 l0_4 a0_5)) else (some 1))
theorem impl_fieldAsked.mono_l:∀k,(∀y5 y2 y9 y10 y11 y12 y13 y14 y15 y7,LeO (impl_fieldAsked.l0 k y5 y2 y9 y10 y11 y12 y13 y14 y15 y7) (impl_fieldAsked.l0 (k+1) y5 y2 y9 y10 y11 y12 y13 y14 y15 y7))
 |0=>fun _ _ _ _ _ _ _ _ _ _ r h=>by simp [impl_fieldAsked.l0] at h
 |k+1=>by
  have ih0:=impl_fieldAsked.mono_l k
  ·intro y5 y2 y9 y10 y11 y12 y13 y14 y15 y7;unfold impl_fieldAsked.l0
   repeat' (with_reducible first|exact ih0 .. |exact impl_IsField.mono .. |exact lm|refine LeO.ite ?_ ?_|refine LeO.bind ?_ (fun _=>?_))
theorem impl_fieldAsked.mono:∀a0 a1 a2 a3 a4 a5 a6 k,LeO (impl_fieldAsked.f k a0 a1 a2 a3 a4 a5 a6) (impl_fieldAsked.f (k+1) a0 a1 a2 a3 a4 a5 a6):=by
 intro a0 a1 a2 a3 a4 a5 a6 k;have ih0:=impl_fieldAsked.mono_l k;unfold impl_fieldAsked.f
 repeat' (with_reducible first|exact ih0 .. |exact impl_IsField.mono .. |exact lm|refine LeO.ite ?_ ?_|refine LeO.bind ?_ (fun _=>?_))
theorem impl_fieldAsked.calls (k:Nat) (A0_0:Option Addr) (c0_0:Nat) (l0_0:List (S91)) (A0_1:Option Addr) (c0_1:Nat) (l0_1:List (S69)) (A0_2:Option Addr) (c0_2:Nat) (l0_2:List Int) (A0_3:Option Addr) (c0_3:Nat) (l0_3:List Int) (A0_4:Option Addr) (c0_4:Nat) (l0_4:List Int) (a0_5:Int) (A1:Option Addr) (c1:Nat) (l1:List Int) (r:Int) (w:World) (hr0_0:Kd.C k91 w A0_0 l0_0.length l0_0) (hc0_0:l0_0.length≤c0_0) (hr0_1:Kd.C k69 w A0_1 l0_1.length l0_1) (hc0_1:l0_1.length≤c0_1) (hr0_2:Kd.C (Kd.int .i64) w A0_2 l0_2.length l0_2) (hc0_2:l0_2.length≤c0_2) (hr0_3:Kd.C (Kd.int .i64) w A0_3 l0_3.length l0_3) (hc0_3:l0_3.length≤c0_3) (hr0_4:Kd.C (Kd.int .i64) w A0_4 l0_4.length l0_4) (hc0_4:l0_4.length≤c0_4) (hr1:Kd.C (Kd.int .i64) w A1 l1.length l1) (hc1:l1.length≤c1) (h:impl_fieldAsked.f k l0_0 l0_1 l0_2 l0_3 l0_4 a0_5 l1=some r):
  Calls Try.prog 45 #[.agg (f5 A0_0 l0_0 c0_0 A0_1 l0_1 c0_1 A0_2 l0_2 c0_2 A0_3 l0_3 c0_3 A0_4 l0_4 c0_4 a0_5),.slice A1 l1.length c1] w fun e w'=>e=.returned (.int .i64 r)∧Below w.heap.size w w':=by
 have hu28:=Try.underlying28;have HR0_0:=ak hr0_0;have HC0_0:=ak hc0_0;clear hr0_0 hc0_0;have HR0_1:=ak hr0_1;have HC0_1:=ak hc0_1;clear hr0_1 hc0_1;have HR0_2:=ak hr0_2;have HC0_2:=ak hc0_2;clear hr0_2 hc0_2;have HR0_3:=ak hr0_3;have HC0_3:=ak hc0_3;clear hr0_3 hc0_3;have HR0_4:=ak hr0_4;have HC0_4:=ak hc0_4;clear hr0_4 hc0_4;have HR1:=ak hr1;have HC1:=ak hc1;clear hr1 hc1;have HB:=ak (Below.refl w.heap.size w);unfold impl_fieldAsked.f at h;have H:=h;clear h;obtain⟨t17,A3,H⟩:=bnk H;by_cases c4:t17=true
 subst c4;rw [if_pos rfl] at H;by_cases c5:(l0_1.length:Int)>6
 rw [if_pos c5] at H;have c5b0:=decide_eq_true c5;have c5b1:decide (6<l0_1.length)=true:=decide_eq_true (by omega);clear c5;obtain rfl:=sj H;rotate_left
 ·rw [if_neg c5] at H;have c5b0:=decide_eq_false c5;have c5b1:decide (6<l0_1.length)=false:=decide_eq_false (by omega);clear c5;have H':=ak H;clear H;go_enter Try.func45,Try.ntmps45;go_wp2_with (first|((with_reducible refine gate_dst (N:=2) rfl ?_);refine bx 2 (f5 A0_0 l0_0 c0_0 A0_1 l0_1 c0_1 A0_2 l0_2 c0_2 A0_3 l0_3 c0_3 A0_4 l0_4 c0_4 a0_5) 28 ?_;intro gb4 hg w10 hbox hb;have BK4:=ak hbox;have GW489:=gw hg HB;have GE4:=gw hg HB;replace HB:=bs HB hb;clear hb hbox hg;have hcz25:=cz6 BK4.1)|((with_reducible refine at_fn (f:=73) rfl ?_);refine gl (some 8) Try.func73 #[.agg (f5 A0_0 l0_0 c0_0 A0_1 l0_1 c0_1 A0_2 l0_2 c0_2 A0_3 l0_3 c0_3 A0_4 l0_4 c0_4 a0_5)] ?_;(with_reducible refine(impl_IsField.calls k _ _ l0_0 _ _ l0_1 _ _ l0_2 _ _ l0_3 _ _ l0_4 a0_5 _ _ ?_ HC0_0.1 ?_ HC0_1.1 ?_ HC0_2.1 ?_ HC0_3.1 ?_ HC0_4.1 A3.1).mono ?_);exact vd HR0_0.1 HB.1;exact vd HR0_1.1 HB.1;exact vd HR0_2.1 HB.1;exact vd HR0_3.1 HB.1;exact vd HR0_4.1 HB.1;rintro e w12 ⟨rfl,hb⟩;refine⟨_,rfl,?_⟩;replace BK4:=kb BK4 hb;replace HB:=bs HB hb;(try clear hb);have hcz26:=cz6 BK4.1))
  go_loopg [16] k (fun kq v1 w'=>∃(x1_2:Int),v1=.int .i64 x1_2∧Aside0 (impl_fieldAsked.l0 kq l1 l1 (l1.length:Int) x1_2 l0_0 l0_1 l0_2 l0_3 l0_4 a0_5=some r)∧Aside0 (kq≤k)∧Aside0 (w'.heap[gb4]? =some (.cells (f5 A0_0 l0_0 c0_0 A0_1 l0_1 c0_1 A0_2 l0_2 c0_2 A0_3 l0_3 c0_3 A0_4 l0_4 c0_4 a0_5) 28 (0,0)))∧Aside0 (Below w.heap.size w w'))
  case atStart=>exact⟨(0),es,H',⟨Nat.le_refl _⟩,⟨vk BK4.1⟩,⟨vb HB.1⟩⟩
  case round=>
   clear H';obtain⟨x1_2,rfl,HA,HK1,BK4,HB⟩:=hrel
   cases gk with
   |zero=>exact absurd HA.1 (by simp [impl_fieldAsked.l0])
   |succ k1=>
    have H:=HA.1;clear HA;simp only [impl_fieldAsked.l0] at H
    by_cases c14:x1_2<(l1.length:Int)
    ·rw [if_pos c14] at H;have c14b0:=decide_eq_true c14;clear c14;by_cases c15:0≤x1_2
     ·rw [if_pos c15] at H;have c15b0:=decide_eq_true c15;clear c15;by_cases c16:x1_2<(l1.length:Int)
      ·rw [if_pos c16] at H;have c16b0:=decide_eq_true c16;clear c16;obtain⟨t18,A17,H⟩:=bnk H;by_cases c18:t18=true
       ·subst c18;rw [if_pos rfl] at H;by_cases c19:x1_2>0
        ·rw [if_pos c19] at H;have c19b0:=decide_eq_true c19;clear c19;obtain⟨ji6,hji20⟩:∃j_:Int,(wrap64 (x1_2-1))=j_:=⟨_,rfl⟩;replace H:(if 0≤(ji6) then (if (ji6)<(l1.length:Int) then (if (rd l1 (ji6))≥(rd l1 x1_2) then (some 2) else (impl_fieldAsked.l0 k1 l1 l1 (l1.length:Int) (wrap64 (x1_2+1)) l0_0 l0_1 l0_2 l0_3 l0_4 a0_5)) else (none)) else (none))=some r:=by first|(rw [hji20] at H;exact H)|(simp only [hji20] at H ⊢;exact H)
         (try rw [hji20] at A17)
         have hji20w:(IntKind.i64.wrap (x1_2-1))=ji6:=(i64_w _).trans hji20;by_cases c21:0≤(ji6)
         ·rw [if_pos c21] at H;have c21b0:=decide_eq_true c21;clear c21;by_cases c22:(ji6)<(l1.length:Int)
          ·rw [if_pos c22] at H;have c22b0:=decide_eq_true c22;clear c22;by_cases c23:(rd l1 (ji6))≥(rd l1 x1_2)
           ·rw [if_pos c23] at H;have c23b0:=decide_eq_true c23;clear c23;obtain rfl:=sj H;have p0:0≤(x1_2:Int):=od;have q0:x1_2<(l1.length:Int):=od;obtain⟨ad0,e0,hx0_5⟩:=Kd.at_int HR1.1 x1_2 p0 q0
            cases e0;replace hx0_5:=cb HB.1 hx0_5;replace p0:=eq_true p0;replace q0:=eq_true q0;have hcz27:=cz6 BK4.1;go_wp2_with (first|((with_reducible refine at_fn (f:=74) rfl ?_);refine gl (some 25) Try.func74 #[.int .i64 (rd l1 x1_2),.int .i64 (l0_1.length:Int)] ?_;(with_reducible refine(impl_isIndex.calls (rd l1 x1_2) (l0_1.length:Int) _ _ A17.1).mono ?_);rintro e w' ⟨rfl,⟨nd,rfl⟩⟩;refine⟨_,rfl,?_⟩;have p3:0≤((ji6):Int):=od;have q3:(ji6)<(l1.length:Int):=od;obtain⟨ad3,e3,hx3_5⟩:=Kd.at_int HR1.1 (ji6) p3 q3;obtain rfl:ad0=ad3:=(by injection e3);replace hx3_5:=cb HB.1 hx3_5;replace p3:=eq_true p3;replace q3:=eq_true q3))
            go_ret
            exact⟨by first|rfl|(simp [errW_none,errW_some]<;>rfl)|(simp only [←hji20];first|rfl|(simp [errW_none,errW_some]<;>rfl))|(simp [*,errW_none,errW_some]<;>rfl),vb HB.1⟩
           ·rw [if_neg c23] at H;have c23b0:=decide_eq_false c23;clear c23;have H':=ak H;clear H;have p0:0≤(x1_2:Int):=od;have q0:x1_2<(l1.length:Int):=od;obtain⟨ad0,e0,hx0_5⟩:=Kd.at_int HR1.1 x1_2 p0 q0
            cases e0;replace hx0_5:=cb HB.1 hx0_5;replace p0:=eq_true p0;replace q0:=eq_true q0;have hcz28:=cz6 BK4.1;go_wp2_with (first|((with_reducible refine at_fn (f:=74) rfl ?_);refine gl (some 25) Try.func74 #[.int .i64 (rd l1 x1_2),.int .i64 (l0_1.length:Int)] ?_;(with_reducible refine(impl_isIndex.calls (rd l1 x1_2) (l0_1.length:Int) _ _ A17.1).mono ?_);rintro e w' ⟨rfl,⟨nd,rfl⟩⟩;refine⟨_,rfl,?_⟩;have p3:0≤((ji6):Int):=od;have q3:(ji6)<(l1.length:Int):=od;obtain⟨ad3,e3,hx3_5⟩:=Kd.at_int HR1.1 (ji6) p3 q3;obtain rfl:ad0=ad3:=(by injection e3);replace hx3_5:=cb HB.1 hx3_5;replace p3:=eq_true p3;replace q3:=eq_true q3))
            go_roundg k1
            case measure=>have:=HK1.1;omega
            case rel=>exact⟨(wrap64 (x1_2+1)),es,H',⟨by have:=HK1.1;omega⟩,⟨vk BK4.1⟩,⟨vb HB.1⟩⟩
          ·exact nO_ c22 H
         ·exact nO_ c21 H
        ·rw [if_neg c19] at H;have c19b0:=decide_eq_false c19;clear c19;have H':=ak H;clear H;have p0:0≤(x1_2:Int):=od;have q0:x1_2<(l1.length:Int):=od;obtain⟨ad0,e0,hx0_5⟩:=Kd.at_int HR1.1 x1_2 p0 q0
         cases e0;replace hx0_5:=cb HB.1 hx0_5;replace p0:=eq_true p0;replace q0:=eq_true q0;have hcz29:=cz6 BK4.1;go_wp2_with (first|((with_reducible refine at_fn (f:=74) rfl ?_);refine gl (some 25) Try.func74 #[.int .i64 (rd l1 x1_2),.int .i64 (l0_1.length:Int)] ?_;(with_reducible refine(impl_isIndex.calls (rd l1 x1_2) (l0_1.length:Int) _ _ A17.1).mono ?_);rintro e w' ⟨rfl,⟨nd,rfl⟩⟩;refine⟨_,rfl,?_⟩))
         go_roundg k1
         case measure=>have:=HK1.1;omega
         case rel=>exact⟨(wrap64 (x1_2+1)),es,H',⟨by have:=HK1.1;omega⟩,⟨vk BK4.1⟩,⟨vb HB.1⟩⟩
       ·replace c18:=Bool.eq_false_iff.mpr c18;subst c18;rw [if_neg nf] at H;obtain rfl:=sj H;have p0:0≤(x1_2:Int):=od;have q0:x1_2<(l1.length:Int):=od;obtain⟨ad0,e0,hx0_5⟩:=Kd.at_int HR1.1 x1_2 p0 q0
        cases e0;replace hx0_5:=cb HB.1 hx0_5;replace p0:=eq_true p0;replace q0:=eq_true q0;have hcz30:=cz6 BK4.1;go_wp2_with (first|((with_reducible refine at_fn (f:=74) rfl ?_);refine gl (some 25) Try.func74 #[.int .i64 (rd l1 x1_2),.int .i64 (l0_1.length:Int)] ?_;(with_reducible refine(impl_isIndex.calls (rd l1 x1_2) (l0_1.length:Int) _ _ A17.1).mono ?_);rintro e w' ⟨rfl,⟨nd,rfl⟩⟩;refine⟨_,rfl,?_⟩))
        go_ret
        exact⟨ew,vb HB.1⟩
      ·exact nO_ c16 H
     ·exact nO_ c15 H
    ·rw [if_neg c14] at H;have c14b0:=decide_eq_false c14;clear c14;obtain rfl:=sj H;go_wp2
     go_ret
     exact⟨ew,vb HB.1⟩
 replace c4:=Bool.eq_false_iff.mpr c4;subst c4;rw [if_neg nf] at H;obtain rfl:=sj H;rotate_left
 all_goals
  go_enter Try.func45,Try.ntmps45;go_wp2_with (first|((with_reducible refine gate_dst (N:=2) rfl ?_);refine bx 2 (f5 A0_0 l0_0 c0_0 A0_1 l0_1 c0_1 A0_2 l0_2 c0_2 A0_3 l0_3 c0_3 A0_4 l0_4 c0_4 a0_5) 28 ?_;intro gb4 hg w9 hbox hb;have BK4:=ak hbox;have GW489:=gw hg HB;have GE4:=gw hg HB;replace HB:=bs HB hb;clear hb hbox hg;have hcz7:=cz6 BK4.1)|((with_reducible refine at_fn (f:=73) rfl ?_);refine gl (some 8) Try.func73 #[.agg (f5 A0_0 l0_0 c0_0 A0_1 l0_1 c0_1 A0_2 l0_2 c0_2 A0_3 l0_3 c0_3 A0_4 l0_4 c0_4 a0_5)] ?_;(with_reducible refine(impl_IsField.calls k _ _ l0_0 _ _ l0_1 _ _ l0_2 _ _ l0_3 _ _ l0_4 a0_5 _ _ ?_ HC0_0.1 ?_ HC0_1.1 ?_ HC0_2.1 ?_ HC0_3.1 ?_ HC0_4.1 A3.1).mono ?_);exact vd HR0_0.1 HB.1;exact vd HR0_1.1 HB.1;exact vd HR0_2.1 HB.1;exact vd HR0_3.1 HB.1;exact vd HR0_4.1 HB.1;rintro e w9 ⟨rfl,hb⟩;refine⟨_,rfl,?_⟩;replace BK4:=kb BK4 hb;replace HB:=bs HB hb;(try clear hb);have hcz7:=cz6 BK4.1))
  go_ret
  exact⟨ew,vb HB.1⟩
def impl_copyList.f (l0:List Int):Option (List Int):=(some (([]:List Int):List Int)).bind fun y0=>(if y0.length+l0.length<17592186044416 then (some (y0++l0)) else (none))
theorem impl_copyList.calls (A0:Option Addr) (c0:Nat) (l0:List Int) (r:List Int) (w:World) (hr0:Kd.C (Kd.int .i64) w A0 l0.length l0) (hc0:l0.length≤c0) (h:impl_copyList.f l0=some r):
  Calls Try.prog 78 #[.slice A0 l0.length c0] w fun e w'=>∃v0_:Value,e=.returned (v0_)∧Kd.R (Kd.int .i64) 2 w' w.heap.size (fun _=>True) v0_ r∧Below w.heap.size w w':=by
 have HR0:=ak hr0;have HC0:=ak hc0;clear hr0 hc0;have HB:=ak (Below.refl w.heap.size w);unfold impl_copyList.f at h;have H:=h;clear h;obtain⟨y0,Ny0,H⟩:=bnE H;by_cases c2:y0.length+l0.length<17592186044416
 ·rw [if_pos c2] at H;have LMc2:=ak c2;clear c2;obtain⟨y1,hy1⟩:=gen_ ((y0++l0:List Int));rw [←hy1] at H;have Ny1:=ak hy1;clear hy1;obtain rfl:=sj H;go_enter Try.func78,Try.ntmps78;go_wp2_with (first|((with_reducible refine gate_dst (N:=3) rfl ?_);refine Kd.R_lit (Kd.int .i64) _ 2 ?hg (N:=3) ?hd (xs:=([]:List Int)) (inner:=[]) (ok:=fun _=>True) (okp:=fun _=>True) ?hr ?hp (fun _ hk=>hk) trivial (Below.refl _ _) (Nat.le_refl _) (by simp) ?_;(case hd=>rfl);(case hg=>rfl);(case hr=>first|(go_simp;done)|(go_simp;rfl));(case hp=>exact(Reps.none _ _));intro v4 w3 ho2 hb hg_ hnew_;clear hg_ hnew_;(first|rw [←Ny0.1] at ho2|(simp only [Int.reduceToNat] at ho2;rw [←Ny0.1] at ho2));have HO3:=ak (Kd.R_lower ho2 (below_size (vb HB.1)));replace HB:=bs HB hb;clear hb ho2)|((with_reducible refine at_bi (b:=.append) (xs:=#[.tmp 3,.tmp 4]) rfl ?_);at_builtin;refine Kd.R_append_rows (Kd.int .i64) (w0:=w) w.heap.size rfl (.tmp 3) (.tmp 4) 26 2 (.int .i64 0) 8 rfl Try.underlying26 info2 rfl (by decide) (by omega) v4 y0 l0 _ _ _ (fun _=>True) (fun _=>False) rfl rfl ?aO ?aR (fun _ _ h=>h) (fun _ h=>h.elim) ?aF ?aB ?aS ?aL ?_;(case aR=>exact vd HR0.1 HB.1);(case aB=>exact(vb HB.1));(case aF=>exact(fun _ _=>trivial));(case aO=>exact(vr HO3.1));(case aS=>exact(below_size (vb HB.1)));(case aL=>have:=LMc2.1;omega);intro v6 w5 ho hb hg hat;rw [←Ny1.1] at ho;have n0_:=ak (hb);have n1_:=ak (ho);clear HB;clear HO3;have HB:=n0_;have HO5:=n1_;clear n0_ n1_;clear ho hb hg hat))
  go_ret
  exact⟨_,ew,vr HO5.1,vb HB.1⟩
 ·exact nO_ c2 H
def impl_distanceFor.l0:Nat→Int→Int→Int→List (S91)→Int→Int→Option (Int)
 |0,_,_,_,_,_,_=>none
 |k+1,x1,x4,x5,x6,x11,x2=>if x2<x11 then (if 0≤x2 then (if x2<(x6.length:Int) then (if ((rd_T91 x6 x2).f0)=x4 then (if ((rd_T91 x6 x2).f1)≥x1 then (some ((rd_T91 x6 x2).f2)) else (impl_distanceFor.l0 k x1 x4 (-1) x6 x11 (wrap64 (x2+1)))) else (impl_distanceFor.l0 k x1 x4 x5 x6 x11 (wrap64 (x2+1)))) else (none)) else (none)) else (some x5)
def impl_distanceFor.f (k:Nat) (l0:List (S91)) (a1:Int) (a2:Int):Option (Int):=impl_distanceFor.l0 k a1 a2 0 l0 (l0.length:Int) 0
theorem impl_distanceFor.mono_l:∀k,(∀y7 y1 y4 y8 y9 y10,LeO (impl_distanceFor.l0 k y7 y1 y4 y8 y9 y10) (impl_distanceFor.l0 (k+1) y7 y1 y4 y8 y9 y10))
 |0=>fun _ _ _ _ _ _ r h=>by simp [impl_distanceFor.l0] at h
 |k+1=>by
  have ih0:=impl_distanceFor.mono_l k
  ·intro y7 y1 y4 y8 y9 y10;unfold impl_distanceFor.l0
   repeat' (with_reducible first|exact ih0 .. |exact lm|refine LeO.ite ?_ ?_|refine LeO.bind ?_ (fun _=>?_))
theorem impl_distanceFor.mono:∀a0 a1 a2 k,LeO (impl_distanceFor.f k a0 a1 a2) (impl_distanceFor.f (k+1) a0 a1 a2):=by
 intro a0 a1 a2 k;have ih0:=impl_distanceFor.mono_l k;unfold impl_distanceFor.f
 repeat' (with_reducible first|exact ih0 .. |exact lm|refine LeO.ite ?_ ?_|refine LeO.bind ?_ (fun _=>?_))
theorem impl_distanceFor.calls (k:Nat) (A0:Option Addr) (c0:Nat) (l0:List (S91)) (a1:Int) (a2:Int) (r:Int) (w:World) (hr0:Kd.C k91 w A0 l0.length l0) (hc0:l0.length≤c0) (h:impl_distanceFor.f k l0 a1 a2=some r):
  Calls Try.prog 123 #[.slice A0 l0.length c0,.int .i64 a1,.int .i64 a2] w fun e w'=>e=.returned (.int .i64 r)∧Below w.heap.size w w':=by
 have hu91:=Try.underlying91;have HR0:=ak hr0;have HC0:=ak hc0;clear hr0 hc0;have HB:=ak (Below.refl w.heap.size w);unfold impl_distanceFor.f at h;have H:=h;clear h;have H':=ak H;clear H;go_enter Try.func123,Try.ntmps123;go_wp2
 go_loopg [7,12] k (fun kq v5 v2 w'=>∃(x5_1:Int) (x2_1:Int),v5=.int .i64 x5_1∧v2=.int .i64 x2_1∧Aside0 (impl_distanceFor.l0 kq a1 a2 x5_1 l0 (l0.length:Int) x2_1=some r)∧Aside0 (kq≤k)∧Aside0 (Below w.heap.size w w'))
 case atStart=>exact⟨(0),(0),es,es,H',⟨Nat.le_refl _⟩,⟨vb HB.1⟩⟩
 case round=>
  clear H';obtain⟨x5_1,x2_1,rfl,rfl,HA,HK1,HB⟩:=hrel
  cases gk with
  |zero=>exact absurd HA.1 (by simp [impl_distanceFor.l0])
  |succ k1=>
   have H:=HA.1;clear HA;simp only [impl_distanceFor.l0] at H
   by_cases c4:x2_1<(l0.length:Int)
   ·rw [if_pos c4] at H;have c4b0:=decide_eq_true c4;clear c4;by_cases c5:0≤x2_1
    ·rw [if_pos c5] at H;have c5b0:=decide_eq_true c5;clear c5;by_cases c6:x2_1<(l0.length:Int)
     ·rw [if_pos c6] at H;have c6b0:=decide_eq_true c6;clear c6;by_cases c7:((rd_T91 l0 x2_1).f0)=a2
      ·rw [if_pos c7] at H;have c7b0:(((rd_T91 l0 x2_1).f0)==a2)=true:=beq_iff_eq.mpr c7;have c7b1:(((rd_T91 l0 x2_1).f0) !=a2)=false:=bne_eq_false_iff_eq.mpr c7;clear c7;by_cases c8:((rd_T91 l0 x2_1).f1)≥a1
       ·rw [if_pos c8] at H;have c8b0:=decide_eq_true c8;clear c8;obtain rfl:=sj H;have p0:0≤(x2_1:Int):=od;have q0:x2_1<(l0.length:Int):=od;obtain⟨ad0,e0,hx0_7,hx0_1,hx0_4⟩:=at_T91b HR0.1 HB.1 x2_1 p0 q0
        cases e0;replace p0:=eq_true p0;replace q0:=eq_true q0;go_wp2_with (first|((with_reducible refine gate_dst (N:=9) rfl ?_);refine bx 9 #[.int .i64 0,.int .i64 0,.int .i64 0] 91 ?_;intro gb3 hg w9 hbox hb;have BK3:=ak hbox;have GW525:=gw hg HB;have GE3:=gw hg HB;replace HB:=bs HB hb;clear hb hbox hg;have hcz6:=cz3 BK3.1))
        go_ret
        exact⟨ew,vb HB.1⟩
       ·rw [if_neg c8] at H;have c8b0:=decide_eq_false c8;clear c8;have H':=ak H;clear H;have p0:0≤(x2_1:Int):=od;have q0:x2_1<(l0.length:Int):=od;obtain⟨ad0,e0,hx0_7,hx0_1,hx0_4⟩:=at_T91b HR0.1 HB.1 x2_1 p0 q0
        cases e0;replace p0:=eq_true p0;replace q0:=eq_true q0;go_wp2_with (first|((with_reducible refine gate_dst (N:=9) rfl ?_);refine bx 9 #[.int .i64 0,.int .i64 0,.int .i64 0] 91 ?_;intro gb3 hg w11 hbox hb;have BK3:=ak hbox;have GW525:=gw hg HB;have GE3:=gw hg HB;replace HB:=bs HB hb;clear hb hbox hg;have hcz2:=cz3 BK3.1))
        go_roundg k1
        case measure=>have:=HK1.1;omega
        case rel=>exact⟨((-1)),(wrap64 (x2_1+1)),es,es,H',⟨by have:=HK1.1;omega⟩,⟨vb HB.1⟩⟩
      ·rw [if_neg c7] at H;have c7b0:(((rd_T91 l0 x2_1).f0)==a2)=false:=beq_eq_false_iff_ne.mpr c7;have c7b1:(((rd_T91 l0 x2_1).f0) !=a2)=true:=bne_iff_ne.mpr c7;have H':=ak H;clear H;have p0:0≤(x2_1:Int):=od;have q0:x2_1<(l0.length:Int):=od;obtain⟨ad0,e0,hx0_7,hx0_1,hx0_4⟩:=at_T91b HR0.1 HB.1 x2_1 p0 q0
       cases e0;replace p0:=eq_true p0;replace q0:=eq_true q0;go_wp2_with (first|((with_reducible refine gate_dst (N:=9) rfl ?_);refine bx 9 #[.int .i64 0,.int .i64 0,.int .i64 0] 91 ?_;intro gb3 hg w13 hbox hb;have BK3:=ak hbox;have GW525:=gw hg HB;have GE3:=gw hg HB;replace HB:=bs HB hb;clear hb hbox hg;have hcz12:=cz3 BK3.1))
       go_roundg k1
       case measure=>have:=HK1.1;omega
       case rel=>exact⟨(x5_1),(wrap64 (x2_1+1)),es,es,H',⟨by have:=HK1.1;omega⟩,⟨vb HB.1⟩⟩
     ·exact nO_ c6 H
    ·exact nO_ c5 H
   ·rw [if_neg c4] at H;have c4b0:=decide_eq_false c4;clear c4;obtain rfl:=sj H;go_wp2
    go_ret
    exact⟨ew,vb HB.1⟩
def impl_squareTo.f (a0_0:Int) (a0_1:Int) (a0_2:Int) (a0_3:Int) (a0_4:Int) (a1:Int) (a2:Int):Option (Int):=some (wrap64 ((wrap64 ((mx (mx 0 (wrap64 (a0_1-a1))) (wrap64 ((wrap64 (a1-a0_1))-a0_3)))*(mx (mx 0 (wrap64 (a0_1-a1))) (wrap64 ((wrap64 (a1-a0_1))-a0_3)))))+(wrap64 ((mx (mx 0 (wrap64 (a0_2-a2))) (wrap64 ((wrap64 (a2-a0_2))-a0_4)))*(mx (mx 0 (wrap64 (a0_2-a2))) (wrap64 ((wrap64 (a2-a0_2))-a0_4)))))))
theorem impl_squareTo.calls (a0_0:Int) (a0_1:Int) (a0_2:Int) (a0_3:Int) (a0_4:Int) (a1:Int) (a2:Int) (r:Int) (w:World) (h:impl_squareTo.f a0_0 a0_1 a0_2 a0_3 a0_4 a1 a2=some r):
  Calls Try.prog 124 #[.agg #[.int .i64 a0_0,.int .i64 a0_1,.int .i64 a0_2,.int .i64 a0_3,.int .i64 a0_4],.int .i64 a1,.int .i64 a2] w fun e w'=>e=.returned (.int .i64 r)∧Below w.heap.size w w':=by
 have hu69:=Try.underlying69;have HB:=ak (Below.refl w.heap.size w);unfold impl_squareTo.f at h;have H:=h;clear h;obtain⟨ji0,hji4⟩:∃j_:Int,(mx 0 (wrap64 (a0_1-a1)))=j_:=⟨_,rfl⟩;replace H:(some (wrap64 ((wrap64 ((mx (ji0) (wrap64 ((wrap64 (a1-a0_1))-a0_3)))*(mx (ji0) (wrap64 ((wrap64 (a1-a0_1))-a0_3)))))+(wrap64 ((mx (mx 0 (wrap64 (a0_2-a2))) (wrap64 ((wrap64 (a2-a0_2))-a0_4)))*(mx (mx 0 (wrap64 (a0_2-a2))) (wrap64 ((wrap64 (a2-a0_2))-a0_4))))))))=some r:=by first|(rw [hji4] at H;exact H)|(simp only [hji4] at H ⊢;exact H)
 (try (have hji4l:0≤ji0:=by(rw [←hji4];unfold mx;(repeat' split)<;>omega)))
 (try (have hji4m:0≤ji0:=by omega))
 have hji4_:(if 0<(wrap64 (a0_1-a1)) then (wrap64 (a0_1-a1)) else 0)=ji0:=hji4;obtain⟨ji2,hji5⟩:∃j_:Int,(mx (ji0) (wrap64 ((wrap64 (a1-a0_1))-a0_3)))=j_:=⟨_,rfl⟩;replace H:(some (wrap64 ((wrap64 ((ji2)*(ji2)))+(wrap64 ((mx (mx 0 (wrap64 (a0_2-a2))) (wrap64 ((wrap64 (a2-a0_2))-a0_4)))*(mx (mx 0 (wrap64 (a0_2-a2))) (wrap64 ((wrap64 (a2-a0_2))-a0_4))))))))=some r:=by first|(rw [hji5] at H;exact H)|(simp only [hji5] at H ⊢;exact H)
 have hji5_:(if (ji0)<(wrap64 ((wrap64 (a1-a0_1))-a0_3)) then (wrap64 ((wrap64 (a1-a0_1))-a0_3)) else (ji0))=ji2:=hji5;obtain⟨ji1,hji6⟩:∃j_:Int,(mx 0 (wrap64 (a0_2-a2)))=j_:=⟨_,rfl⟩;replace H:(some (wrap64 ((wrap64 ((ji2)*(ji2)))+(wrap64 ((mx (ji1) (wrap64 ((wrap64 (a2-a0_2))-a0_4)))*(mx (ji1) (wrap64 ((wrap64 (a2-a0_2))-a0_4))))))))=some r:=by first|(rw [hji6] at H;exact H)|(simp only [hji6] at H ⊢;exact H)
 (try (have hji6l:0≤ji1:=by(rw [←hji6];unfold mx;(repeat' split)<;>omega)))
 (try (have hji6m:0≤ji1:=by omega))
 have hji6_:(if 0<(wrap64 (a0_2-a2)) then (wrap64 (a0_2-a2)) else 0)=ji1:=hji6;obtain⟨ji3,hji7⟩:∃j_:Int,(mx (ji1) (wrap64 ((wrap64 (a2-a0_2))-a0_4)))=j_:=⟨_,rfl⟩;replace H:(some (wrap64 ((wrap64 ((ji2)*(ji2)))+(wrap64 ((ji3)*(ji3))))))=some r:=by first|(rw [hji7] at H;exact H)|(simp only [hji7] at H ⊢;exact H)
 have hji7_:(if (ji1)<(wrap64 ((wrap64 (a2-a0_2))-a0_4)) then (wrap64 ((wrap64 (a2-a0_2))-a0_4)) else (ji1))=ji3:=hji7;obtain rfl:=sj H;go_enter Try.func124,Try.ntmps124;go_wp2_with (first|((with_reducible refine gate_dst (N:=3) rfl ?_);refine bx 3 #[.int .i64 a0_0,.int .i64 a0_1,.int .i64 a0_2,.int .i64 a0_3,.int .i64 a0_4] 69 ?_;intro gb4 hg w8 hbox hb;have BK4:=ak hbox;have GW526:=gw hg HB;have GE4:=gw hg HB;replace HB:=bs HB hb;clear hb hbox hg;have hcz5:=cz5 BK4.1))
 go_ret
 exact⟨by first|rfl|(simp [errW_none,errW_some]<;>rfl)|(simp only [←hji4,←hji5,←hji6,←hji7];first|rfl|(simp [errW_none,errW_some]<;>rfl))|(simp [*,errW_none,errW_some]<;>rfl),vb HB.1⟩
def impl_areasAgainst.l0:Nat→List (S91)→Int→Int→Int→List Int→List (S69)→Int→Int→Option (List Int)
 |0,_,_,_,_,_,_,_,_=>none
 |k+1,x5,x6,x7,x8,x3,x9,x14,x1=>if x1<x14 then (if 0≤x1 then (if x1<(x9.length:Int) then ((impl_distanceFor.f k x5 x6 ((rd_T69 x9 x1).f0)).bind fun t10=>(if t10<0 then (if x3.length<17592186044416 then (impl_areasAgainst.l0 k x5 x6 x7 x8 (x3++[x1]) x9 x14 (wrap64 (x1+1))) else (none)) else ((impl_squareTo.f ((rd_T69 x9 x1).f0) ((rd_T69 x9 x1).f1) ((rd_T69 x9 x1).f2) ((rd_T69 x9 x1).f3) ((rd_T69 x9 x1).f4) x7 x8).bind fun t13=>(if t13<(wrap64 (t10*t10)) then (if x3.length<17592186044416 then (impl_areasAgainst.l0 k x5 x6 x7 x8 (x3++[x1]) x9 x14 (wrap64 (x1+1))) else (none)) else (impl_areasAgainst.l0 k x5 x6 x7 x8 x3 x9 x14 (wrap64 (x1+1))))))) else (none)) else (none)) else (some x3)
def impl_areasAgainst.f (k:Nat) (l0:List (S91)) (l1:List (S69)) (a2:Int) (a3:Int) (a4:Int):Option (List Int):=impl_areasAgainst.l0 k l0 a2 a3 a4 ([]:List Int) l1 (l1.length:Int) 0
theorem impl_areasAgainst.mono_l:∀k,(∀y5 y0 y6 y7 y8 y15 y16 y17,LeO (impl_areasAgainst.l0 k y5 y0 y6 y7 y8 y15 y16 y17) (impl_areasAgainst.l0 (k+1) y5 y0 y6 y7 y8 y15 y16 y17))
 |0=>fun _ _ _ _ _ _ _ _ r h=>by simp [impl_areasAgainst.l0] at h
 |k+1=>by
  have ih0:=impl_areasAgainst.mono_l k
  ·intro y5 y0 y6 y7 y8 y15 y16 y17;unfold impl_areasAgainst.l0
   repeat' (with_reducible first|exact ih0 .. |exact impl_distanceFor.mono .. |exact lm|refine LeO.ite ?_ ?_|refine LeO.bind ?_ (fun _=>?_))
theorem impl_areasAgainst.mono:∀a0 a1 a2 a3 a4 k,LeO (impl_areasAgainst.f k a0 a1 a2 a3 a4) (impl_areasAgainst.f (k+1) a0 a1 a2 a3 a4):=by
 intro a0 a1 a2 a3 a4 k;have ih0:=impl_areasAgainst.mono_l k;unfold impl_areasAgainst.f
 repeat' (with_reducible first|exact ih0 .. |exact impl_distanceFor.mono .. |exact lm|refine LeO.ite ?_ ?_|refine LeO.bind ?_ (fun _=>?_))
theorem impl_areasAgainst.calls (k:Nat) (A0:Option Addr) (c0:Nat) (l0:List (S91)) (A1:Option Addr) (c1:Nat) (l1:List (S69)) (a2:Int) (a3:Int) (a4:Int) (r:List Int) (w:World) (hr0:Kd.C k91 w A0 l0.length l0) (hc0:l0.length≤c0) (hr1:Kd.C k69 w A1 l1.length l1) (hc1:l1.length≤c1) (h:impl_areasAgainst.f k l0 l1 a2 a3 a4=some r):
  Calls Try.prog 118 #[.slice A0 l0.length c0,.slice A1 l1.length c1,.int .i64 a2,.int .i64 a3,.int .i64 a4] w fun e w'=>∃v0_:Value,e=.returned (v0_)∧Kd.R (Kd.int .i64) 2 w' w.heap.size (fun _=>True) v0_ r∧Below w.heap.size w w':=by
 have hu69:=Try.underlying69;have HR0:=ak hr0;have HC0:=ak hc0;clear hr0 hc0;have HR1:=ak hr1;have HC1:=ak hc1;clear hr1 hc1;have HB:=ak (Below.refl w.heap.size w);unfold impl_areasAgainst.f at h;have H:=h;clear h;have H':=ak H;clear H;go_enter Try.func118,Try.ntmps118;go_wp2
 go_loopg [11,17] k (fun kq v3 v1 w'=>∃(x3_0:List Int) (x1_0:Int),v1=.int .i64 x1_0∧Aside0 (impl_areasAgainst.l0 kq l0 a2 a3 a4 x3_0 l1 (l1.length:Int) x1_0=some r)∧Aside0 (kq≤k)∧Aside0 (Kd.R (Kd.int .i64) 2 w' w.heap.size (fun _=>True) v3 x3_0)∧Aside0 (Below w.heap.size w w'))
 case atStart=>exact⟨(([]:List Int)),(0),es,H',⟨Nat.le_refl _⟩,⟨by first|exact Kd.R_nil _ _ _ _ _|exact Kd.N_nil _ _ _ _ _|exact Kd.V_nil _ _ _ _ _|exact Kd.Q_nil _ _ _ _ _|exact Kd.S_nil _ _ _ _ _⟩,⟨vb HB.1⟩⟩
 case round=>
  clear H';obtain⟨x3_0,x1_0,rfl,HA,HK1,HO_3,HB⟩:=hrel
  cases gk with
  |zero=>exact absurd HA.1 (by simp [impl_areasAgainst.l0])
  |succ k1=>
   have H:=HA.1;clear HA;simp only [impl_areasAgainst.l0] at H
   by_cases c6:x1_0<(l1.length:Int)
   ·rw [if_pos c6] at H;have c6b0:=decide_eq_true c6;clear c6;by_cases c7:0≤x1_0
    ·rw [if_pos c7] at H;have c7b0:=decide_eq_true c7;clear c7;by_cases c8:x1_0<(l1.length:Int)
     ·rw [if_pos c8] at H;have c8b0:=decide_eq_true c8;clear c8;obtain⟨t10,A9,H⟩:=bnk H;by_cases c10:t10<0
      ·rw [if_pos c10] at H;have c10b0:=decide_eq_true c10;clear c10;by_cases c11:x3_0.length<17592186044416
       ·rw [if_pos c11] at H;have LMc11:=ak c11;clear c11;obtain⟨y11,hy11⟩:=gen_ ((x3_0++[x1_0]:List Int));rw [←hy11] at H;have Ny11:=ak hy11;clear hy11;have H':=ak H;clear H;have p2:0≤(x1_0:Int):=od;have q2:x1_0<(l1.length:Int):=od;obtain⟨ad2,e2,hx2_5,hx2_0,hx2_6,hx2_7,hx2_8⟩:=at_T69b HR1.1 HB.1 x1_0 p2 q2
        cases e2;replace p2:=eq_true p2;replace q2:=eq_true q2;go_wp2_with (first|((with_reducible refine gate_dst (N:=13) rfl ?_);refine bx 13 #[.int .i64 0,.int .i64 0,.int .i64 0,.int .i64 0,.int .i64 0] 69 ?_;intro gb4 hg w12 hbox hb;replace HO_3:=rb HO_3 hb;have BK4:=ak hbox;have GW528:=gw hg HB;have GE4:=gw hg HB;replace HB:=bs HB hb;clear hb hbox hg;have hcz20:=cz5 BK4.1)|((with_reducible refine at_fn (f:=123) rfl ?_);refine gl (some 26) Try.func123 #[.slice A0 l0.length c0,.int .i64 a2,.int .i64 ((rd_T69 l1 x1_0).f0)] ?_;(with_reducible refine(impl_distanceFor.calls k1 _ _ l0 a2 ((rd_T69 l1 x1_0).f0) t10 _ ?_ HC0.1 A9.1).mono ?_);exact Kd.C_below HR0.1 (vb HB.1);rintro e w14 ⟨rfl,hb⟩;refine⟨_,rfl,?_⟩;replace HO_3:=rbz HO_3 BK4 hb;replace BK4:=ak (blk_below (g:=gb4) (o:=.cells #[.int .i64 ((rd_T69 l1 x1_0).f0),.int .i64 ((rd_T69 l1 x1_0).f1),.int .i64 ((rd_T69 l1 x1_0).f2),.int .i64 ((rd_T69 l1 x1_0).f3),.int .i64 ((rd_T69 l1 x1_0).f4)] 69 (0,0)) (vz BK4.1) hb);replace HB:=bs HB hb;(try clear hb))|((with_reducible refine at_bi (b:=.append) (xs:=#[.tmp 39,.tmp 41]) rfl ?_);at_builtin;refine Kd.R_append (Kd.int .i64) (w0:=w) w.heap.size rfl (.tmp 39) (.tmp 41) 26 2 (.int .i64 0) 8 rfl Try.underlying26 info2 rfl (by decide) (by omega) u11 x3_0 x1_0 [.int .i64 x1_0] (fun _=>True) (fun _=>False) rfl rfl ?aP (fun _ hk=>hk.elim) ?aF ?aO ?aB ?aS ?aL ?_;(case aP=>exact rfl);(case aB=>exact(vb HB.1));(case aF=>exact(fun _ _=>trivial));(case aO=>exact(vr HO_3.1));(case aS=>exact(below_size (vb HB.1)));(case aL=>have:=LMc11.1;omega);intro v25 w15 ho hb hg hat;rw [←Ny11.1] at ho;have n0_:=ak (blk_grown (g:=gb4) (o:=.cells #[.int .i64 ((rd_T69 l1 x1_0).f0),.int .i64 ((rd_T69 l1 x1_0).f1),.int .i64 ((rd_T69 l1 x1_0).f2),.int .i64 ((rd_T69 l1 x1_0).f3),.int .i64 ((rd_T69 l1 x1_0).f4)] 69 (0,0)) (vk BK4.1) hg (Kd.R_ne HO_3.1 BK4.1 (by decide)));have n1_:=ak (hb);have n2_:=ak (ho);clear BK4;clear HB;clear HO_3;have BK4:=n0_;have HB:=n1_;have HO18:=n2_;clear n0_ n1_ n2_;clear ho hb hg hat))
        go_roundg k1
        case measure=>have:=HK1.1;omega
        case rel=>exact⟨(y11),(wrap64 (x1_0+1)),es,H',⟨by have:=HK1.1;omega⟩,⟨vr HO18.1⟩,⟨vb HB.1⟩⟩
       ·exact nO_ c11 H
      ·rw [if_neg c10] at H;have c10b0:=decide_eq_false c10;clear c10;obtain⟨t13,A16,H⟩:=bnk H;by_cases c17:t13<(wrap64 (t10*t10))
       ·rw [if_pos c17] at H;have c17b0:=decide_eq_true c17;clear c17;by_cases c18:x3_0.length<17592186044416
        ·rw [if_pos c18] at H;have LMc18:=ak c18;clear c18;obtain⟨y12,hy12⟩:=gen_ ((x3_0++[x1_0]:List Int));rw [←hy12] at H;have Ny12:=ak hy12;clear hy12;have H':=ak H;clear H;have p2:0≤(x1_0:Int):=od;have q2:x1_0<(l1.length:Int):=od;obtain⟨ad2,e2,hx2_5,hx2_0,hx2_6,hx2_7,hx2_8⟩:=at_T69b HR1.1 HB.1 x1_0 p2 q2
         cases e2;replace p2:=eq_true p2;replace q2:=eq_true q2;go_wp2_with (first|((with_reducible refine gate_dst (N:=13) rfl ?_);refine bx 13 #[.int .i64 0,.int .i64 0,.int .i64 0,.int .i64 0,.int .i64 0] 69 ?_;intro gb4 hg w19 hbox hb;replace HO_3:=rb HO_3 hb;have BK4:=ak hbox;have GW528:=gw hg HB;have GE4:=gw hg HB;replace HB:=bs HB hb;clear hb hbox hg;have hcz21:=cz5 BK4.1)|((with_reducible refine at_fn (f:=123) rfl ?_);refine gl (some 26) Try.func123 #[.slice A0 l0.length c0,.int .i64 a2,.int .i64 ((rd_T69 l1 x1_0).f0)] ?_;(with_reducible refine(impl_distanceFor.calls k1 _ _ l0 a2 ((rd_T69 l1 x1_0).f0) t10 _ ?_ HC0.1 A9.1).mono ?_);exact Kd.C_below HR0.1 (vb HB.1);rintro e w21 ⟨rfl,hb⟩;refine⟨_,rfl,?_⟩;replace HO_3:=rbz HO_3 BK4 hb;replace BK4:=ak (blk_below (g:=gb4) (o:=.cells #[.int .i64 ((rd_T69 l1 x1_0).f0),.int .i64 ((rd_T69 l1 x1_0).f1),.int .i64 ((rd_T69 l1 x1_0).f2),.int .i64 ((rd_T69 l1 x1_0).f3),.int .i64 ((rd_T69 l1 x1_0).f4)] 69 (0,0)) (vz BK4.1) hb);replace HB:=bs HB hb;(try clear hb);have hcz22:=cz5 BK4.1)|(go_at_call 124;(with_reducible refine(impl_squareTo.calls ((rd_T69 l1 x1_0).f0) ((rd_T69 l1 x1_0).f1) ((rd_T69 l1 x1_0).f2) ((rd_T69 l1 x1_0).f3) ((rd_T69 l1 x1_0).f4) a3 a4 t13 _ A16.1).mono ?_);rintro e w23 ⟨rfl,hb⟩;replace HO_3:=rb HO_3 hb;replace BK4:=kb BK4 hb;replace HB:=bs HB hb;(try clear hb))|((with_reducible refine at_bi (b:=.append) (xs:=#[.tmp 39,.tmp 41]) rfl ?_);at_builtin;refine Kd.R_append (Kd.int .i64) (w0:=w) w.heap.size rfl (.tmp 39) (.tmp 41) 26 2 (.int .i64 0) 8 rfl Try.underlying26 info2 rfl (by decide) (by omega) u11 x3_0 x1_0 [.int .i64 x1_0] (fun _=>True) (fun _=>False) rfl rfl ?aP (fun _ hk=>hk.elim) ?aF ?aO ?aB ?aS ?aL ?_;(case aP=>exact rfl);(case aB=>exact(vb HB.1));(case aF=>exact(fun _ _=>trivial));(case aO=>exact(vr HO_3.1));(case aS=>exact(below_size (vb HB.1)));(case aL=>have:=LMc18.1;omega);intro v26 w24 ho hb hg hat;rw [←Ny12.1] at ho;have n0_:=ak (blk_grown (g:=gb4) (o:=.cells #[.int .i64 ((rd_T69 l1 x1_0).f0),.int .i64 ((rd_T69 l1 x1_0).f1),.int .i64 ((rd_T69 l1 x1_0).f2),.int .i64 ((rd_T69 l1 x1_0).f3),.int .i64 ((rd_T69 l1 x1_0).f4)] 69 (0,0)) (vk BK4.1) hg (Kd.R_ne HO_3.1 BK4.1 (by decide)));have n1_:=ak (hb);have n2_:=ak (ho);clear BK4;clear HB;clear HO_3;have BK4:=n0_;have HB:=n1_;have HO19:=n2_;clear n0_ n1_ n2_;clear ho hb hg hat))
         go_roundg k1
         case measure=>have:=HK1.1;omega
         case rel=>exact⟨(y12),(wrap64 (x1_0+1)),es,H',⟨by have:=HK1.1;omega⟩,⟨vr HO19.1⟩,⟨vb HB.1⟩⟩
        ·exact nO_ c18 H
       ·rw [if_neg c17] at H;have c17b0:=decide_eq_false c17;clear c17;have H':=ak H;clear H;have p2:0≤(x1_0:Int):=od;have q2:x1_0<(l1.length:Int):=od;obtain⟨ad2,e2,hx2_5,hx2_0,hx2_6,hx2_7,hx2_8⟩:=at_T69b HR1.1 HB.1 x1_0 p2 q2
        cases e2;replace p2:=eq_true p2;replace q2:=eq_true q2;go_wp2_with (first|((with_reducible refine gate_dst (N:=13) rfl ?_);refine bx 13 #[.int .i64 0,.int .i64 0,.int .i64 0,.int .i64 0,.int .i64 0] 69 ?_;intro gb4 hg w25 hbox hb;replace HO_3:=rb HO_3 hb;have BK4:=ak hbox;have GW528:=gw hg HB;have GE4:=gw hg HB;replace HB:=bs HB hb;clear hb hbox hg;have hcz23:=cz5 BK4.1)|((with_reducible refine at_fn (f:=123) rfl ?_);refine gl (some 26) Try.func123 #[.slice A0 l0.length c0,.int .i64 a2,.int .i64 ((rd_T69 l1 x1_0).f0)] ?_;(with_reducible refine(impl_distanceFor.calls k1 _ _ l0 a2 ((rd_T69 l1 x1_0).f0) t10 _ ?_ HC0.1 A9.1).mono ?_);exact Kd.C_below HR0.1 (vb HB.1);rintro e w27 ⟨rfl,hb⟩;refine⟨_,rfl,?_⟩;replace HO_3:=rbz HO_3 BK4 hb;replace BK4:=ak (blk_below (g:=gb4) (o:=.cells #[.int .i64 ((rd_T69 l1 x1_0).f0),.int .i64 ((rd_T69 l1 x1_0).f1),.int .i64 ((rd_T69 l1 x1_0).f2),.int .i64 ((rd_T69 l1 x1_0).f3),.int .i64 ((rd_T69 l1 x1_0).f4)] 69 (0,0)) (vz BK4.1) hb);replace HB:=bs HB hb;(try clear hb);have hcz24:=cz5 BK4.1)|(go_at_call 124;(with_reducible refine(impl_squareTo.calls ((rd_T69 l1 x1_0).f0) ((rd_T69 l1 x1_0).f1) ((rd_T69 l1 x1_0).f2) ((rd_T69 l1 x1_0).f3) ((rd_T69 l1 x1_0).f4) a3 a4 t13 _ A16.1).mono ?_);rintro e w29 ⟨rfl,hb⟩;replace HO_3:=rb HO_3 hb;replace BK4:=kb BK4 hb;replace HB:=bs HB hb;(try clear hb)))
        go_roundg k1
        case measure=>have:=HK1.1;omega
        case rel=>exact⟨(x3_0),(wrap64 (x1_0+1)),es,H',⟨by have:=HK1.1;omega⟩,⟨vr HO_3.1⟩,⟨vb HB.1⟩⟩
     ·exact nO_ c8 H
    ·exact nO_ c7 H
   ·rw [if_neg c6] at H;have c6b0:=decide_eq_false c6;clear c6;obtain rfl:=sj H;go_wp2
    go_ret
    exact⟨_,ew,vr HO_3.1,vb HB.1⟩
def impl_isAllowed.f (k:Nat) (l0:List (S91)) (l1:List (S69)) (a2:Int) (a3:Int) (a4:Int):Option (Bool):=(impl_areasAgainst.f k l0 l1 a2 a3 a4).bind fun t0=>(some ((t0.length:Int)==0))
theorem impl_isAllowed.mono:∀a0 a1 a2 a3 a4 k,LeO (impl_isAllowed.f k a0 a1 a2 a3 a4) (impl_isAllowed.f (k+1) a0 a1 a2 a3 a4):=by
 intro a0 a1 a2 a3 a4 k;unfold impl_isAllowed.f
 repeat' (with_reducible first|exact impl_areasAgainst.mono .. |exact lm|refine LeO.ite ?_ ?_|refine LeO.bind ?_ (fun _=>?_))
theorem impl_isAllowed.calls (k:Nat) (A0:Option Addr) (c0:Nat) (l0:List (S91)) (A1:Option Addr) (c1:Nat) (l1:List (S69)) (a2:Int) (a3:Int) (a4:Int) (r:Bool) (w:World) (hr0:Kd.C k91 w A0 l0.length l0) (hc0:l0.length≤c0) (hr1:Kd.C k69 w A1 l1.length l1) (hc1:l1.length≤c1) (h:impl_isAllowed.f k l0 l1 a2 a3 a4=some r):
  Calls Try.prog 104 #[.slice A0 l0.length c0,.slice A1 l1.length c1,.int .i64 a2,.int .i64 a3,.int .i64 a4] w fun e w'=>e=.returned (.bool r)∧Below w.heap.size w w':=by
 have HR0:=ak hr0;have HC0:=ak hc0;clear hr0 hc0;have HR1:=ak hr1;have HC1:=ak hc1;clear hr1 hc1;have HB:=ak (Below.refl w.heap.size w);unfold impl_isAllowed.f at h;have H:=h;clear h;obtain⟨t0,A6,H⟩:=bnk H;obtain rfl:=sj H;go_enter Try.func104,Try.ntmps104;go_wp2_with (first|((with_reducible refine at_fn (f:=118) rfl ?_);refine gl (some 16) Try.func118 #[.slice A0 l0.length c0,.slice A1 l1.length c1,.int .i64 a2,.int .i64 a3,.int .i64 a4] ?_;(with_reducible refine(impl_areasAgainst.calls k _ _ l0 _ _ l1 a2 a3 a4 t0 _ ?_ HC0.1 ?_ HC1.1 A6.1).mono ?_);exact vc HR0.1;exact vc HR1.1;rintro e w7 ⟨v4,rfl,ho1,hb⟩;refine⟨_,rfl,?_⟩;have HO3:=ak (Kd.R_lower ho1 (below_size (vb HB.1)));replace HB:=bs HB hb;(try clear hb);(try clear ho1);obtain⟨Ao2,co2,rfl⟩:=Kd.R_slice HO3.1))
 go_ret
 exact⟨ew,vb HB.1⟩
def impl_isFree.l0:Nat→Int→List Int→Int→Int→List (S91)→List (S69)→List Int→List Int→List Int→Int→Option (Bool)
 |0,_,_,_,_,_,_,_,_,_,_=>none
 |k+1,x12,x13,x25,x2,x26,x27,x28,x14,x15,x24=>if x2<x25 then (if 0≤x2 then (if x2<(x13.length:Int) then (if 0≤x12 then (if x12<(x14.length:Int) then (if 0≤(rd x13 x2) then (if (rd x13 x2)<(x14.length:Int) then (if x12<(x15.length:Int) then (if (rd x13 x2)<(x15.length:Int) then (if x12=(rd x13 x2) then (some false) else (if (wrap64 ((wrap64 ((wrap64 ((rd x14 x12)-(rd x14 (rd x13 x2))))*(wrap64 ((rd x14 x12)-(rd x14 (rd x13 x2))))))+(wrap64 ((wrap64 ((rd x15 x12)-(rd x15 (rd x13 x2))))*(wrap64 ((rd x15 x12)-(rd x15 (rd x13 x2))))))))<(wrap64 (x24*x24)) then (some false) else (impl_isFree.l0 k x12 x13 x25 (wrap64 (x2+1)) x26 x27 x28 x14 x15 x24))) else (none)) else (none)) else (none)) else (none)) else (none)) else (none)) else (none)) else (none)) else (some true)
def impl_isFree.f (k:Nat) (l0_0:List (S91)) (l0_1:List (S69)) (l0_2:List Int) (l0_3:List Int) (l0_4:List Int) (a0_5:Int) (l1:List Int) (a2:Int) (a3:Int):Option (Bool):=if 0≤a2 then (if a2<(l0_2.length:Int) then (if 0≤a3 then (if a3<(l0_3.length:Int) then (if a3<(l0_4.length:Int) then ((impl_isAllowed.f k l0_0 l0_1 (rd l0_2 a2) (rd l0_3 a3) (rd l0_4 a3)).bind fun t23=>(if t23=true then (impl_isFree.l0 k a3 l1 (l1.length:Int) 0 l0_0 l0_1 l0_2 l0_3 l0_4 a0_5) else (some false))) else (none)) else (none)) else (none)) else (none)) else (none)
theorem impl_isFree.mono_l:∀k,(∀y0 y3 y16 y12 y17 y18 y19 y20 y21 y22,LeO (impl_isFree.l0 k y0 y3 y16 y12 y17 y18 y19 y20 y21 y22) (impl_isFree.l0 (k+1) y0 y3 y16 y12 y17 y18 y19 y20 y21 y22))
 |0=>fun _ _ _ _ _ _ _ _ _ _ r h=>by simp [impl_isFree.l0] at h
 |k+1=>by
  have ih0:=impl_isFree.mono_l k
  ·intro y0 y3 y16 y12 y17 y18 y19 y20 y21 y22;unfold impl_isFree.l0
   repeat' (with_reducible first|exact ih0 .. |exact impl_isAllowed.mono .. |exact lm|refine LeO.ite ?_ ?_|refine LeO.bind ?_ (fun _=>?_))
theorem impl_isFree.mono:∀a0 a1 a2 a3 a4 a5 a6 a7 a8 k,LeO (impl_isFree.f k a0 a1 a2 a3 a4 a5 a6 a7 a8) (impl_isFree.f (k+1) a0 a1 a2 a3 a4 a5 a6 a7 a8):=by
 intro a0 a1 a2 a3 a4 a5 a6 a7 a8 k;have ih0:=impl_isFree.mono_l k;unfold impl_isFree.f
 repeat' (with_reducible first|exact ih0 .. |exact impl_isAllowed.mono .. |exact lm|refine LeO.ite ?_ ?_|refine LeO.bind ?_ (fun _=>?_))
def impl_isFree.T1:Bool×List (List Nat×List Nat):=(true,[([],[]),([0],[0]),([],[]),([2],[2]),([],[]),([4],[4]),([],[]),([5,6],[5,6]),([7],[7]),([],[]),([9],[9]),([],[]),([10,11],[10,11]),([12],[12]),([],[]),([14],[14]),([],[]),([15,16],[15,16]),([17],[17]),([1,3,8,13,18],[1,3,8,13,18]),([19],[19])])
def impl_isFree.B1:List Nat:=[0,1,0,4,0,16,0,112,240,0,512,0,3584,7680,0,16384,0,114688,245760,524287,1048575]
theorem impl_isFree.tab1:rtab .any (opsOf Try.f83 1)=impl_isFree.T1:=by kernel_rfl
theorem impl_isFree.bits1:waitsOk impl_isFree.T1.2 impl_isFree.B1=true:=by kernel_rfl
def impl_isFree.T6:Bool×List (List Nat×List Nat):=(true,[([],[]),([0],[0]),([],[]),([1,2],[1,2]),([3],[3]),([],[]),([5],[5]),([],[]),([6,7],[6,7]),([8],[8]),([4,9],[4,9]),([],[]),([11],[11]),([],[]),([12,13],[12,13]),([14],[14]),([],[]),([16],[16]),([],[]),([17,18],[17,18]),([19],[19]),([15,20],[15,20]),([10,0,1,2,3,4,5,6,7,8,9,10],[10]),([21,22,0,1,2,3,4,5,6,7,8,9,10,11,12,13,14,15,16,17,18,19,20,21,22],[21])])
def impl_isFree.B6:List Nat:=[0,1,0,7,15,0,32,0,224,480,1023,0,2048,0,14336,30720,0,65536,0,458752,983040,2095104,2047,8388607]
theorem impl_isFree.tab6:rtab .any (opsOf Try.f83 6)=impl_isFree.T6:=by kernel_rfl
theorem impl_isFree.bits6:waitsOk impl_isFree.T6.2 impl_isFree.B6=true:=by kernel_rfl
theorem impl_isFree.calls (k:Nat) (A0_0:Option Addr) (c0_0:Nat) (l0_0:List (S91)) (A0_1:Option Addr) (c0_1:Nat) (l0_1:List (S69)) (A0_2:Option Addr) (c0_2:Nat) (l0_2:List Int) (A0_3:Option Addr) (c0_3:Nat) (l0_3:List Int) (A0_4:Option Addr) (c0_4:Nat) (l0_4:List Int) (a0_5:Int) (A1:Option Addr) (c1:Nat) (l1:List Int) (a2:Int) (a3:Int) (r:Bool) (w:World) (hr0_0:Kd.C k91 w A0_0 l0_0.length l0_0) (hc0_0:l0_0.length≤c0_0) (hr0_1:Kd.C k69 w A0_1 l0_1.length l0_1) (hc0_1:l0_1.length≤c0_1) (hr0_2:Kd.C (Kd.int .i64) w A0_2 l0_2.length l0_2) (hc0_2:l0_2.length≤c0_2) (hr0_3:Kd.C (Kd.int .i64) w A0_3 l0_3.length l0_3) (hc0_3:l0_3.length≤c0_3) (hr0_4:Kd.C (Kd.int .i64) w A0_4 l0_4.length l0_4) (hc0_4:l0_4.length≤c0_4) (hr1:Kd.C (Kd.int .i64) w A1 l1.length l1) (hc1:l1.length≤c1) (h:impl_isFree.f k l0_0 l0_1 l0_2 l0_3 l0_4 a0_5 l1 a2 a3=some r):
  Calls Try.prog 83 #[.agg (f5 A0_0 l0_0 c0_0 A0_1 l0_1 c0_1 A0_2 l0_2 c0_2 A0_3 l0_3 c0_3 A0_4 l0_4 c0_4 a0_5),.slice A1 l1.length c1,.int .i64 a2,.int .i64 a3] w fun e w'=>e=.returned (.bool r)∧Below w.heap.size w w':=by
 have hu28:=Try.underlying28;have HR0_0:=ak hr0_0;have HC0_0:=ak hc0_0;clear hr0_0 hc0_0;have HR0_1:=ak hr0_1;have HC0_1:=ak hc0_1;clear hr0_1 hc0_1;have HR0_2:=ak hr0_2;have HC0_2:=ak hc0_2;clear hr0_2 hc0_2;have HR0_3:=ak hr0_3;have HC0_3:=ak hc0_3;clear hr0_3 hc0_3;have HR0_4:=ak hr0_4;have HC0_4:=ak hc0_4;clear hr0_4 hc0_4;have HR1:=ak hr1;have HC1:=ak hc1;clear hr1 hc1;have HB:=ak (Below.refl w.heap.size w);unfold impl_isFree.f at h;have H:=h;clear h;by_cases c5:0≤a2
 ·rw [if_pos c5] at H;have c5b0:=decide_eq_true c5;clear c5;by_cases c6:a2<(l0_2.length:Int)
  ·rw [if_pos c6] at H;have c6b0:=decide_eq_true c6;clear c6;by_cases c7:0≤a3
   ·rw [if_pos c7] at H;have c7b0:=decide_eq_true c7;clear c7;by_cases c8:a3<(l0_3.length:Int)
    ·rw [if_pos c8] at H;have c8b0:=decide_eq_true c8;clear c8;by_cases c9:a3<(l0_4.length:Int)
     ·rw [if_pos c9] at H;have c9b0:=decide_eq_true c9;clear c9;obtain⟨t23,A10,H⟩:=bnk H;by_cases c11:t23=true
      ·subst c11;rw [if_pos rfl] at H;have H':=ak H;clear H;go_enter Try.func83,Try.ntmps83;(try go_wp2_with (first|((with_reducible refine gate_dst (N:=4) rfl ?_);refine bx 4 (f5 A0_0 l0_0 c0_0 A0_1 l0_1 c0_1 A0_2 l0_2 c0_2 A0_3 l0_3 c0_3 A0_4 l0_4 c0_4 a0_5) 28 ?_;intro gb1 hg w12 hbox hb;have BK1:=ak hbox;have GW540:=gw hg HB;have GE1:=gw hg HB;replace HB:=bs HB hb;clear hb hbox hg)))
       replace BK1:=ak (blk_drew BK1.1);replace HB:=ak (below_drew1 HB.1);have p10:0≤(a2:Int):=od;have q10:a2<(l0_2.length:Int):=od;obtain⟨ad10,e10,hx10_0⟩:=Kd.at_int HR0_2.1 a2 p10 q10;have hw10_0:=hx10_0
       cases e10;replace hx10_0:=cb HB.1 hx10_0;replace p10:=eq_true p10;replace q10:=eq_true q10;have p4:0≤(a3:Int):=od;have q4:a3<(l0_3.length:Int):=od;obtain⟨ad4,e4,hx4_0⟩:=Kd.at_int HR0_3.1 a3 p4 q4;have hw4_0:=hx4_0
       cases e4;replace hx4_0:=cb HB.1 hx4_0;replace p4:=eq_true p4;replace q4:=eq_true q4;have p5:0≤(a3:Int):=od;have q5:a3<(l0_4.length:Int):=od;obtain⟨ad5,e5,hx5_0⟩:=Kd.at_int HR0_4.1 a3 p5 q5;have hw5_0:=hx5_0
       cases e5;replace hx5_0:=cb HB.1 hx5_0;replace p5:=eq_true p5;replace q5:=eq_true q5;refine start_ (n:=21) (S:=fun w'=>w'.cell? ⟨gb1,0,none⟩=some (.slice A0_0 l0_0.length c0_0)∧w'.cell? ⟨gb1,1,none⟩=some (.slice A0_1 l0_1.length c0_1)∧w'.cell? ⟨gb1,2,none⟩=some (.slice (some ad10) l0_2.length c0_2)∧w'.cell? ⟨gb1,3,none⟩=some (.slice (some ad4) l0_3.length c0_3)∧w'.cell? ⟨gb1,4,none⟩=some (.slice (some ad5) l0_4.length c0_4)∧w'.cell? ⟨gb1,5,none⟩=some (.int .i64 a0_5)∧w'.cell? (ad10.add (a2).toNat)=some (.int .i64 (rd l0_2 a2))∧w'.cell? (ad4.add (a3).toNat)=some (.int .i64 (rd l0_3 a3))∧w'.cell? (ad5.add (a3).toNat)=some (.int .i64 (rd l0_4 a3))) (ds:=[]) (tf 0 21) (by kernel_rfl) rfl rfl ⟨bk BK1.1 0,bk BK1.1 1,bk BK1.1 2,bk BK1.1 3,bk BK1.1 4,bk BK1.1 5,(cb HB.1 hw10_0:),(cb HB.1 hw4_0:),(cb HB.1 hw5_0:)⟩ (fun hHeld=>?_);refine with_tabW impl_isFree.tab1 impl_isFree.bits1 (fun HT_ HW_=>?_);generalize w12.drew=w13 at BK1 HB hx10_0 hx4_0 hx5_0 hHeld ⊢;refine pu_ 0 13 (tf 1 20) rfl rfl ?_;refine pu_ 2 15 (tM [1,1,1,18]) rfl rfl ?_
       refine pu_ 4 17 (tM [1,1,1,1,1,16]) rfl rfl ?_;refine pu_ 6 19 (tM [1,1,1,1,1,1,1,14]) rfl rfl ?_;refine pu_ 9 22 (tM [1,1,1,1,1,1,1,2,1,11]) rfl rfl ?_;refine pu_ 11 24 (tM [1,1,1,1,1,1,1,2,1,1,1,9]) rfl rfl ?_;refine pu_ 14 27 (tM [1,1,1,1,1,1,1,2,1,1,1,2,1,6]) rfl rfl ?_;refine pu_ 16 29 (tM [1,1,1,1,1,1,1,2,1,1,1,2,1,1,1,4]) rfl rfl ?_;refine ta9_ 1 14 (tM [3,1,1,1,1,2,1,1,1,2,1,1,1,4]) rfl rfl ?_;refine ta9_ 3 16 (tM [5,1,1,2,1,1,1,2,1,1,1,4]) rfl rfl ?_;refine ta9_ 5 18 (tM [7,2,1,1,1,2,1,1,1,4]) rfl rfl ?_
       refine pu_ 7 20 (tM [8,1,1,1,1,2,1,1,1,4]) rfl rfl ?_;refine ta9_ 8 21 (tM [10,1,1,2,1,1,1,4]) rfl rfl ?_;refine ta9_ 10 23 (tM [12,2,1,1,1,4]) rfl rfl ?_;refine pu_ 12 25 (tM [13,1,1,1,1,4]) rfl rfl ?_;refine ta9_ 13 26 (tM [15,1,1,4]) rfl rfl ?_;refine ta9_ 15 28 (tf 17 4) rfl rfl ?_;refine pu_ 17 30 (tf 18 3) rfl rfl ?_;refine ta9_ 18 31 (tf 19 2) rfl rfl ?_;refine one_ (i:=19) (N:=some 32) (tf 20 1) rfl rfl (one_of HT_.1 (by kernel_rfl)) (by decide) (fun K hK=>?_);refine goes_ Try.func104 (by kernel_rfl) rfl #[.slice A0_0 l0_0.length c0_0,.slice A0_1 l0_1.length c0_1,.int .i64 (rd l0_2 a2),.int .i64 (rd l0_3 a3),.int .i64 (rd l0_4 a3)] (by rfl) rfl rfl (by(try simp only [List.map_toArray,List.map_cons,List.map_nil]);first|done|rfl|(simp only [List.length_drop,List.length_take];rfl)) ?_;with_reducible refine(impl_isAllowed.calls k _ _ l0_0 _ _ l0_1 (rd l0_2 a2) (rd l0_3 a3) (rd l0_4 a3) true _ ?_ ?_ ?_ ?_ A10.1).mono ?_
       exact vd HR0_0.1 HB.1
       exact HC0_0.1
       exact vd HR0_1.1 HB.1
       exact HC0_1.1
       rintro e w14 ⟨rfl,hb⟩;refine⟨_,rfl,?_⟩;replace BK1:=kb BK1 hb;replace HB:=bs HB hb;(try clear hb)
       (try clear hb2)
       (try clear hk)
       (try clear hi)
       refine hK.out _ _ ⟨bk BK1.1 0,bk BK1.1 1,bk BK1.1 2,bk BK1.1 3,bk BK1.1 4,bk BK1.1 5,(cb HB.1 hw10_0:),(cb HB.1 hw4_0:),(cb HB.1 hw5_0:)⟩ (fun hHeld=>?_);clear hK K;refine norm_ (a':=?_) ?_ ?_
       rotate_left
       ·show Act.put _ (some 32) _=_
        simp only [Act.put,List.setIfInBounds_toArray,List.set_cons_zero,List.set_cons_succ,i64_w,i32_w]
        rfl
       refine pu_ 20 33 (tf 21 0) rfl rfl ?_;refine done_ (done_of HT_.1 (by kernel_rfl)) ?_;(try go_wp2)
       go_loopg [36] k (fun kq v2 w'=>∃(x2_3:Int),v2=.int .i64 x2_3∧Aside0 (impl_isFree.l0 kq a3 l1 (l1.length:Int) x2_3 l0_0 l0_1 l0_2 l0_3 l0_4 a0_5=some r)∧Aside0 (kq≤k)∧Aside0 (w'.heap[gb1]? =some (.cells #[(.slice A0_0 l0_0.length c0_0),(.slice A0_1 l0_1.length c0_1),(.slice (some ad10) l0_2.length c0_2),(.slice (some ad4) l0_3.length c0_3),(.slice (some ad5) l0_4.length c0_4),.int .i64 a0_5] 28 (0,0)))∧Aside0 (Below w.heap.size w w'))
       case atStart=>exact⟨(0),es,H',⟨Nat.le_refl _⟩,⟨vk BK1.1⟩,⟨vb HB.1⟩⟩
       case round=>
        clear H';obtain⟨x2_3,rfl,HA,HK1,BK1,HB⟩:=hrel
        cases gk with
        |zero=>exact absurd HA.1 (by simp [impl_isFree.l0])
        |succ k1=>
         have H:=HA.1;clear HA;simp only [impl_isFree.l0] at H
         by_cases c15:x2_3<(l1.length:Int)
         ·rw [if_pos c15] at H;have c15b0:=decide_eq_true c15;clear c15;by_cases c16:0≤x2_3
          ·rw [if_pos c16] at H;have c16b0:=decide_eq_true c16;clear c16;by_cases c17:x2_3<(l1.length:Int)
           ·rw [if_pos c17] at H;have c17b0:=decide_eq_true c17;clear c17;by_cases c18:0≤a3
            ·rw [if_pos c18] at H;have c18b0:=decide_eq_true c18;clear c18;by_cases c19:a3<(l0_3.length:Int)
             ·rw [if_pos c19] at H;have c19b0:=decide_eq_true c19;clear c19;by_cases c20:0≤(rd l1 x2_3)
              ·rw [if_pos c20] at H;have c20b0:=decide_eq_true c20;clear c20;by_cases c21:(rd l1 x2_3)<(l0_3.length:Int)
               ·rw [if_pos c21] at H;have c21b0:=decide_eq_true c21;clear c21;by_cases c22:a3<(l0_4.length:Int)
                ·rw [if_pos c22] at H;have c22b0:=decide_eq_true c22;clear c22;by_cases c23:(rd l1 x2_3)<(l0_4.length:Int)
                 ·rw [if_pos c23] at H;have c23b0:=decide_eq_true c23;clear c23;by_cases c24:a3=(rd l1 x2_3)
                  ·rw [if_pos c24] at H;obtain⟨c24b0,c24b1⟩:=bqt c24;clear c24;obtain rfl:=sj H;have p11:0≤(x2_3:Int):=od;have q11:x2_3<(l1.length:Int):=od;obtain⟨ad11,e11,hx11_0⟩:=Kd.at_int HR1.1 x2_3 p11 q11
                   cases e11;replace hx11_0:=cb HB.1 hx11_0;replace p11:=eq_true p11;replace q11:=eq_true q11;(try go_wp2)
                   replace BK1:=ak (blk_drew BK1.1);replace HB:=ak (below_drew1 HB.1);have p6:0≤(a3:Int):=od;have q6:a3<(l0_3.length:Int):=od;obtain⟨ad6,e6,hx6_0⟩:=Kd.at_int HR0_3.1 a3 p6 q6;have hw6_0:=hx6_0;obtain rfl:ad4=ad6:=(by injection e6);replace hx6_0:=cb HB.1 hx6_0;replace p6:=eq_true p6;replace q6:=eq_true q6;have p7:0≤((rd l1 x2_3):Int):=od;have q7:(rd l1 x2_3)<(l0_3.length:Int):=od;obtain⟨ad7,e7,hx7_0⟩:=Kd.at_int HR0_3.1 (rd l1 x2_3) p7 q7;have hw7_0:=hx7_0;obtain rfl:ad4=ad7:=(by injection e7);replace hx7_0:=cb HB.1 hx7_0;replace p7:=eq_true p7;replace q7:=eq_true q7;have p8:0≤(a3:Int):=od;have q8:a3<(l0_4.length:Int):=od;obtain⟨ad8,e8,hx8_0⟩:=Kd.at_int HR0_4.1 a3 p8 q8;have hw8_0:=hx8_0;obtain rfl:ad5=ad8:=(by injection e8);replace hx8_0:=cb HB.1 hx8_0;replace p8:=eq_true p8;replace q8:=eq_true q8;have p9:0≤((rd l1 x2_3):Int):=od;have q9:(rd l1 x2_3)<(l0_4.length:Int):=od;obtain⟨ad9,e9,hx9_0⟩:=Kd.at_int HR0_4.1 (rd l1 x2_3) p9 q9;have hw9_0:=hx9_0;obtain rfl:ad5=ad9:=(by injection e9);replace hx9_0:=cb HB.1 hx9_0;replace p9:=eq_true p9;replace q9:=eq_true q9;refine start_ (n:=24) (S:=fun w'=>w'.cell? ⟨gb1,0,none⟩=some (.slice A0_0 l0_0.length c0_0)∧w'.cell? ⟨gb1,1,none⟩=some (.slice A0_1 l0_1.length c0_1)∧w'.cell? ⟨gb1,2,none⟩=some (.slice (some ad10) l0_2.length c0_2)∧w'.cell? ⟨gb1,3,none⟩=some (.slice (some ad4) l0_3.length c0_3)∧w'.cell? ⟨gb1,4,none⟩=some (.slice (some ad5) l0_4.length c0_4)∧w'.cell? ⟨gb1,5,none⟩=some (.int .i64 a0_5)∧w'.cell? (ad4.add (a3).toNat)=some (.int .i64 (rd l0_3 a3))∧w'.cell? (ad4.add ((rd l1 x2_3)).toNat)=some (.int .i64 (rd l0_3 (rd l1 x2_3)))∧w'.cell? (ad5.add (a3).toNat)=some (.int .i64 (rd l0_4 a3))∧w'.cell? (ad5.add ((rd l1 x2_3)).toNat)=some (.int .i64 (rd l0_4 (rd l1 x2_3)))) (ds:=[]) (tf 0 24) (by kernel_rfl) rfl rfl ⟨bk BK1.1 0,bk BK1.1 1,bk BK1.1 2,bk BK1.1 3,bk BK1.1 4,bk BK1.1 5,(cb HB.1 hw6_0:),(cb HB.1 hw7_0:),(cb HB.1 hw8_0:),(cb HB.1 hw9_0:)⟩ (fun hHeld=>?_);refine with_tabW impl_isFree.tab6 impl_isFree.bits6 (fun HT_ HW_=>?_)
                   generalize wr.drew=w25 at BK1 HB hx6_0 hx7_0 hx8_0 hx9_0 hHeld ⊢;refine pu_ 0 40 (tf 1 23) rfl rfl ?_;refine pu_ 2 42 (tM [1,1,1,21]) rfl rfl ?_;refine pu_ 5 45 (tM [1,1,1,2,1,18]) rfl rfl ?_;refine pu_ 7 47 (tM [1,1,1,2,1,1,1,16]) rfl rfl ?_;refine pu_ 11 51 (tM [1,1,1,2,1,1,1,3,1,12]) rfl rfl ?_;refine pu_ 13 53 (tM [1,1,1,2,1,1,1,3,1,1,1,10]) rfl rfl ?_;refine pu_ 16 56 (tM [1,1,1,2,1,1,1,3,1,1,1,2,1,7]) rfl rfl ?_;refine pu_ 18 58 (tM [1,1,1,2,1,1,1,3,1,1,1,2,1,1,1,5]) rfl rfl ?_;refine ta10_ 1 41 (tM [3,2,1,1,1,3,1,1,1,2,1,1,1,5]) rfl rfl ?_
                   refine pu_ 3 43 (tM [4,1,1,1,1,3,1,1,1,2,1,1,1,5]) rfl rfl ?_;refine ta10_ 4 44 (tM [6,1,1,3,1,1,1,2,1,1,1,5]) rfl rfl ?_;refine ta10_ 6 46 (tM [8,3,1,1,1,2,1,1,1,5]) rfl rfl ?_;refine pu_ 8 48 (tM [9,2,1,1,1,2,1,1,1,5]) rfl rfl ?_;refine ta10_ 9 49 (tM [10,1,1,1,1,2,1,1,1,5]) rfl rfl ?_;refine pu_ 10 50 (tM [12,1,1,2,1,1,1,5]) rfl rfl ?_;refine pu_ 22 11 (tM [12,1,1,2,1,1,1,3,1,1]) rfl rfl ?_;refine ta10_ 12 52 (tM [14,2,1,1,1,3,1,1]) rfl rfl ?_
                   refine pu_ 14 54 (tM [15,1,1,1,1,3,1,1]) rfl rfl ?_;refine ta10_ 15 55 (tM [17,1,1,3,1,1]) rfl rfl ?_;refine ta10_ 17 57 (tM [19,3,1,1]) rfl rfl ?_;refine pu_ 19 59 (tM [20,2,1,1]) rfl rfl ?_;refine ta10_ 20 60 (tM [21,1,1,1]) rfl rfl ?_;refine pu_ 21 61 (tf 23 1) rfl rfl ?_;refine pu_ 23 12 (tf 24 0) rfl rfl ?_;refine done_ (done_of HT_.1 (by kernel_rfl)) ?_;(try go_wp2)
                   go_ret
                   exact⟨ew,vb HB.1⟩
                  ·rw [if_neg c24] at H;obtain⟨c24b0,c24b1⟩:=bqf c24;by_cases c26:(wrap64 ((wrap64 ((wrap64 ((rd l0_3 a3)-(rd l0_3 (rd l1 x2_3))))*(wrap64 ((rd l0_3 a3)-(rd l0_3 (rd l1 x2_3))))))+(wrap64 ((wrap64 ((rd l0_4 a3)-(rd l0_4 (rd l1 x2_3))))*(wrap64 ((rd l0_4 a3)-(rd l0_4 (rd l1 x2_3))))))))<(wrap64 (a0_5*a0_5))
                   ·rw [if_pos c26] at H;have c26b0:=decide_eq_true c26;clear c26;obtain rfl:=sj H;have p11:0≤(x2_3:Int):=od;have q11:x2_3<(l1.length:Int):=od;obtain⟨ad11,e11,hx11_0⟩:=Kd.at_int HR1.1 x2_3 p11 q11
                    cases e11;replace hx11_0:=cb HB.1 hx11_0;replace p11:=eq_true p11;replace q11:=eq_true q11;(try go_wp2)
                    replace BK1:=ak (blk_drew BK1.1);replace HB:=ak (below_drew1 HB.1);have p6:0≤(a3:Int):=od;have q6:a3<(l0_3.length:Int):=od;obtain⟨ad6,e6,hx6_0⟩:=Kd.at_int HR0_3.1 a3 p6 q6;have hw6_0:=hx6_0;obtain rfl:ad4=ad6:=(by injection e6);replace hx6_0:=cb HB.1 hx6_0;replace p6:=eq_true p6;replace q6:=eq_true q6;have p7:0≤((rd l1 x2_3):Int):=od;have q7:(rd l1 x2_3)<(l0_3.length:Int):=od;obtain⟨ad7,e7,hx7_0⟩:=Kd.at_int HR0_3.1 (rd l1 x2_3) p7 q7;have hw7_0:=hx7_0;obtain rfl:ad4=ad7:=(by injection e7);replace hx7_0:=cb HB.1 hx7_0;replace p7:=eq_true p7;replace q7:=eq_true q7;have p8:0≤(a3:Int):=od;have q8:a3<(l0_4.length:Int):=od;obtain⟨ad8,e8,hx8_0⟩:=Kd.at_int HR0_4.1 a3 p8 q8;have hw8_0:=hx8_0;obtain rfl:ad5=ad8:=(by injection e8);replace hx8_0:=cb HB.1 hx8_0;replace p8:=eq_true p8;replace q8:=eq_true q8;have p9:0≤((rd l1 x2_3):Int):=od;have q9:(rd l1 x2_3)<(l0_4.length:Int):=od;obtain⟨ad9,e9,hx9_0⟩:=Kd.at_int HR0_4.1 (rd l1 x2_3) p9 q9;have hw9_0:=hx9_0;obtain rfl:ad5=ad9:=(by injection e9);replace hx9_0:=cb HB.1 hx9_0;replace p9:=eq_true p9;replace q9:=eq_true q9;refine start_ (n:=24) (S:=fun w'=>w'.cell? ⟨gb1,0,none⟩=some (.slice A0_0 l0_0.length c0_0)∧w'.cell? ⟨gb1,1,none⟩=some (.slice A0_1 l0_1.length c0_1)∧w'.cell? ⟨gb1,2,none⟩=some (.slice (some ad10) l0_2.length c0_2)∧w'.cell? ⟨gb1,3,none⟩=some (.slice (some ad4) l0_3.length c0_3)∧w'.cell? ⟨gb1,4,none⟩=some (.slice (some ad5) l0_4.length c0_4)∧w'.cell? ⟨gb1,5,none⟩=some (.int .i64 a0_5)∧w'.cell? (ad4.add (a3).toNat)=some (.int .i64 (rd l0_3 a3))∧w'.cell? (ad4.add ((rd l1 x2_3)).toNat)=some (.int .i64 (rd l0_3 (rd l1 x2_3)))∧w'.cell? (ad5.add (a3).toNat)=some (.int .i64 (rd l0_4 a3))∧w'.cell? (ad5.add ((rd l1 x2_3)).toNat)=some (.int .i64 (rd l0_4 (rd l1 x2_3)))) (ds:=[]) (tf 0 24) (by kernel_rfl) rfl rfl ⟨bk BK1.1 0,bk BK1.1 1,bk BK1.1 2,bk BK1.1 3,bk BK1.1 4,bk BK1.1 5,(cb HB.1 hw6_0:),(cb HB.1 hw7_0:),(cb HB.1 hw8_0:),(cb HB.1 hw9_0:)⟩ (fun hHeld=>?_);refine with_tabW impl_isFree.tab6 impl_isFree.bits6 (fun HT_ HW_=>?_)
                    generalize wr.drew=w27 at BK1 HB hx6_0 hx7_0 hx8_0 hx9_0 hHeld ⊢;refine pu_ 0 40 (tf 1 23) rfl rfl ?_;refine pu_ 2 42 (tM [1,1,1,21]) rfl rfl ?_;refine pu_ 5 45 (tM [1,1,1,2,1,18]) rfl rfl ?_;refine pu_ 7 47 (tM [1,1,1,2,1,1,1,16]) rfl rfl ?_;refine pu_ 11 51 (tM [1,1,1,2,1,1,1,3,1,12]) rfl rfl ?_;refine pu_ 13 53 (tM [1,1,1,2,1,1,1,3,1,1,1,10]) rfl rfl ?_;refine pu_ 16 56 (tM [1,1,1,2,1,1,1,3,1,1,1,2,1,7]) rfl rfl ?_;refine pu_ 18 58 (tM [1,1,1,2,1,1,1,3,1,1,1,2,1,1,1,5]) rfl rfl ?_;refine ta10_ 1 41 (tM [3,2,1,1,1,3,1,1,1,2,1,1,1,5]) rfl rfl ?_
                    refine pu_ 3 43 (tM [4,1,1,1,1,3,1,1,1,2,1,1,1,5]) rfl rfl ?_;refine ta10_ 4 44 (tM [6,1,1,3,1,1,1,2,1,1,1,5]) rfl rfl ?_;refine ta10_ 6 46 (tM [8,3,1,1,1,2,1,1,1,5]) rfl rfl ?_;refine pu_ 8 48 (tM [9,2,1,1,1,2,1,1,1,5]) rfl rfl ?_;refine ta10_ 9 49 (tM [10,1,1,1,1,2,1,1,1,5]) rfl rfl ?_;refine pu_ 10 50 (tM [12,1,1,2,1,1,1,5]) rfl rfl ?_;refine pu_ 22 11 (tM [12,1,1,2,1,1,1,3,1,1]) rfl rfl ?_;refine ta10_ 12 52 (tM [14,2,1,1,1,3,1,1]) rfl rfl ?_
                    refine pu_ 14 54 (tM [15,1,1,1,1,3,1,1]) rfl rfl ?_;refine ta10_ 15 55 (tM [17,1,1,3,1,1]) rfl rfl ?_;refine ta10_ 17 57 (tM [19,3,1,1]) rfl rfl ?_;refine pu_ 19 59 (tM [20,2,1,1]) rfl rfl ?_;refine ta10_ 20 60 (tM [21,1,1,1]) rfl rfl ?_;refine pu_ 21 61 (tf 23 1) rfl rfl ?_;refine pu_ 23 12 (tf 24 0) rfl rfl ?_;refine done_ (done_of HT_.1 (by kernel_rfl)) ?_;have hcz29:=cz6 BK1.1;(try go_wp2)
                    go_ret
                    exact⟨ew,vb HB.1⟩
                   ·rw [if_neg c26] at H;have c26b0:=decide_eq_false c26;clear c26;have H':=ak H;clear H;have p11:0≤(x2_3:Int):=od;have q11:x2_3<(l1.length:Int):=od;obtain⟨ad11,e11,hx11_0⟩:=Kd.at_int HR1.1 x2_3 p11 q11
                    cases e11;replace hx11_0:=cb HB.1 hx11_0;replace p11:=eq_true p11;replace q11:=eq_true q11;(try go_wp2)
                    replace BK1:=ak (blk_drew BK1.1);replace HB:=ak (below_drew1 HB.1);have p6:0≤(a3:Int):=od;have q6:a3<(l0_3.length:Int):=od;obtain⟨ad6,e6,hx6_0⟩:=Kd.at_int HR0_3.1 a3 p6 q6;have hw6_0:=hx6_0;obtain rfl:ad4=ad6:=(by injection e6);replace hx6_0:=cb HB.1 hx6_0;replace p6:=eq_true p6;replace q6:=eq_true q6;have p7:0≤((rd l1 x2_3):Int):=od;have q7:(rd l1 x2_3)<(l0_3.length:Int):=od;obtain⟨ad7,e7,hx7_0⟩:=Kd.at_int HR0_3.1 (rd l1 x2_3) p7 q7;have hw7_0:=hx7_0;obtain rfl:ad4=ad7:=(by injection e7);replace hx7_0:=cb HB.1 hx7_0;replace p7:=eq_true p7;replace q7:=eq_true q7;have p8:0≤(a3:Int):=od;have q8:a3<(l0_4.length:Int):=od;obtain⟨ad8,e8,hx8_0⟩:=Kd.at_int HR0_4.1 a3 p8 q8;have hw8_0:=hx8_0;obtain rfl:ad5=ad8:=(by injection e8);replace hx8_0:=cb HB.1 hx8_0;replace p8:=eq_true p8;replace q8:=eq_true q8;have p9:0≤((rd l1 x2_3):Int):=od;have q9:(rd l1 x2_3)<(l0_4.length:Int):=od;obtain⟨ad9,e9,hx9_0⟩:=Kd.at_int HR0_4.1 (rd l1 x2_3) p9 q9;have hw9_0:=hx9_0;obtain rfl:ad5=ad9:=(by injection e9);replace hx9_0:=cb HB.1 hx9_0;replace p9:=eq_true p9;replace q9:=eq_true q9;refine start_ (n:=24) (S:=fun w'=>w'.cell? ⟨gb1,0,none⟩=some (.slice A0_0 l0_0.length c0_0)∧w'.cell? ⟨gb1,1,none⟩=some (.slice A0_1 l0_1.length c0_1)∧w'.cell? ⟨gb1,2,none⟩=some (.slice (some ad10) l0_2.length c0_2)∧w'.cell? ⟨gb1,3,none⟩=some (.slice (some ad4) l0_3.length c0_3)∧w'.cell? ⟨gb1,4,none⟩=some (.slice (some ad5) l0_4.length c0_4)∧w'.cell? ⟨gb1,5,none⟩=some (.int .i64 a0_5)∧w'.cell? (ad4.add (a3).toNat)=some (.int .i64 (rd l0_3 a3))∧w'.cell? (ad4.add ((rd l1 x2_3)).toNat)=some (.int .i64 (rd l0_3 (rd l1 x2_3)))∧w'.cell? (ad5.add (a3).toNat)=some (.int .i64 (rd l0_4 a3))∧w'.cell? (ad5.add ((rd l1 x2_3)).toNat)=some (.int .i64 (rd l0_4 (rd l1 x2_3)))) (ds:=[]) (tf 0 24) (by kernel_rfl) rfl rfl ⟨bk BK1.1 0,bk BK1.1 1,bk BK1.1 2,bk BK1.1 3,bk BK1.1 4,bk BK1.1 5,(cb HB.1 hw6_0:),(cb HB.1 hw7_0:),(cb HB.1 hw8_0:),(cb HB.1 hw9_0:)⟩ (fun hHeld=>?_);refine with_tabW impl_isFree.tab6 impl_isFree.bits6 (fun HT_ HW_=>?_)
                    generalize wr.drew=w29 at BK1 HB hx6_0 hx7_0 hx8_0 hx9_0 hHeld ⊢;refine pu_ 0 40 (tf 1 23) rfl rfl ?_;refine pu_ 2 42 (tM [1,1,1,21]) rfl rfl ?_;refine pu_ 5 45 (tM [1,1,1,2,1,18]) rfl rfl ?_;refine pu_ 7 47 (tM [1,1,1,2,1,1,1,16]) rfl rfl ?_;refine pu_ 11 51 (tM [1,1,1,2,1,1,1,3,1,12]) rfl rfl ?_;refine pu_ 13 53 (tM [1,1,1,2,1,1,1,3,1,1,1,10]) rfl rfl ?_;refine pu_ 16 56 (tM [1,1,1,2,1,1,1,3,1,1,1,2,1,7]) rfl rfl ?_;refine pu_ 18 58 (tM [1,1,1,2,1,1,1,3,1,1,1,2,1,1,1,5]) rfl rfl ?_;refine ta10_ 1 41 (tM [3,2,1,1,1,3,1,1,1,2,1,1,1,5]) rfl rfl ?_
                    refine pu_ 3 43 (tM [4,1,1,1,1,3,1,1,1,2,1,1,1,5]) rfl rfl ?_;refine ta10_ 4 44 (tM [6,1,1,3,1,1,1,2,1,1,1,5]) rfl rfl ?_;refine ta10_ 6 46 (tM [8,3,1,1,1,2,1,1,1,5]) rfl rfl ?_;refine pu_ 8 48 (tM [9,2,1,1,1,2,1,1,1,5]) rfl rfl ?_;refine ta10_ 9 49 (tM [10,1,1,1,1,2,1,1,1,5]) rfl rfl ?_;refine pu_ 10 50 (tM [12,1,1,2,1,1,1,5]) rfl rfl ?_;refine pu_ 22 11 (tM [12,1,1,2,1,1,1,3,1,1]) rfl rfl ?_;refine ta10_ 12 52 (tM [14,2,1,1,1,3,1,1]) rfl rfl ?_
                    refine pu_ 14 54 (tM [15,1,1,1,1,3,1,1]) rfl rfl ?_;refine ta10_ 15 55 (tM [17,1,1,3,1,1]) rfl rfl ?_;refine ta10_ 17 57 (tM [19,3,1,1]) rfl rfl ?_;refine pu_ 19 59 (tM [20,2,1,1]) rfl rfl ?_;refine ta10_ 20 60 (tM [21,1,1,1]) rfl rfl ?_;refine pu_ 21 61 (tf 23 1) rfl rfl ?_;refine pu_ 23 12 (tf 24 0) rfl rfl ?_;refine done_ (done_of HT_.1 (by kernel_rfl)) ?_;have hcz30:=cz6 BK1.1;(try go_wp2)
                    go_roundg k1
                    case measure=>have:=HK1.1;omega
                    case rel=>exact⟨(wrap64 (x2_3+1)),es,H',⟨by have:=HK1.1;omega⟩,⟨vk BK1.1⟩,⟨vb HB.1⟩⟩
                 ·exact nO_ c23 H
                ·exact nO_ c22 H
               ·exact nO_ c21 H
              ·exact nO_ c20 H
             ·exact nO_ c19 H
            ·exact nO_ c18 H
           ·exact nO_ c17 H
          ·exact nO_ c16 H
         ·rw [if_neg c15] at H;have c15b0:=decide_eq_false c15;clear c15;obtain rfl:=sj H;go_wp2
          go_ret
          exact⟨ew,vb HB.1⟩
      ·replace c11:=Bool.eq_false_iff.mpr c11;subst c11;rw [if_neg nf] at H;obtain rfl:=sj H;go_enter Try.func83,Try.ntmps83;(try go_wp2_with (first|((with_reducible refine gate_dst (N:=4) rfl ?_);refine bx 4 (f5 A0_0 l0_0 c0_0 A0_1 l0_1 c0_1 A0_2 l0_2 c0_2 A0_3 l0_3 c0_3 A0_4 l0_4 c0_4 a0_5) 28 ?_;intro gb1 hg w31 hbox hb;have BK1:=ak hbox;have GW540:=gw hg HB;have GE1:=gw hg HB;replace HB:=bs HB hb;clear hb hbox hg)))
       replace BK1:=ak (blk_drew BK1.1);replace HB:=ak (below_drew1 HB.1);have p10:0≤(a2:Int):=od;have q10:a2<(l0_2.length:Int):=od;obtain⟨ad10,e10,hx10_0⟩:=Kd.at_int HR0_2.1 a2 p10 q10;have hw10_0:=hx10_0
       cases e10;replace hx10_0:=cb HB.1 hx10_0;replace p10:=eq_true p10;replace q10:=eq_true q10;have p4:0≤(a3:Int):=od;have q4:a3<(l0_3.length:Int):=od;obtain⟨ad4,e4,hx4_0⟩:=Kd.at_int HR0_3.1 a3 p4 q4;have hw4_0:=hx4_0
       cases e4;replace hx4_0:=cb HB.1 hx4_0;replace p4:=eq_true p4;replace q4:=eq_true q4;have p5:0≤(a3:Int):=od;have q5:a3<(l0_4.length:Int):=od;obtain⟨ad5,e5,hx5_0⟩:=Kd.at_int HR0_4.1 a3 p5 q5;have hw5_0:=hx5_0
       cases e5;replace hx5_0:=cb HB.1 hx5_0;replace p5:=eq_true p5;replace q5:=eq_true q5;refine start_ (n:=21) (S:=fun w'=>w'.cell? ⟨gb1,0,none⟩=some (.slice A0_0 l0_0.length c0_0)∧w'.cell? ⟨gb1,1,none⟩=some (.slice A0_1 l0_1.length c0_1)∧w'.cell? ⟨gb1,2,none⟩=some (.slice (some ad10) l0_2.length c0_2)∧w'.cell? ⟨gb1,3,none⟩=some (.slice (some ad4) l0_3.length c0_3)∧w'.cell? ⟨gb1,4,none⟩=some (.slice (some ad5) l0_4.length c0_4)∧w'.cell? ⟨gb1,5,none⟩=some (.int .i64 a0_5)∧w'.cell? (ad10.add (a2).toNat)=some (.int .i64 (rd l0_2 a2))∧w'.cell? (ad4.add (a3).toNat)=some (.int .i64 (rd l0_3 a3))∧w'.cell? (ad5.add (a3).toNat)=some (.int .i64 (rd l0_4 a3))) (ds:=[]) (tf 0 21) (by kernel_rfl) rfl rfl ⟨bk BK1.1 0,bk BK1.1 1,bk BK1.1 2,bk BK1.1 3,bk BK1.1 4,bk BK1.1 5,(cb HB.1 hw10_0:),(cb HB.1 hw4_0:),(cb HB.1 hw5_0:)⟩ (fun hHeld=>?_);refine with_tabW impl_isFree.tab1 impl_isFree.bits1 (fun HT_ HW_=>?_);generalize w31.drew=w32 at BK1 HB hx10_0 hx4_0 hx5_0 hHeld ⊢;refine pu_ 0 13 (tf 1 20) rfl rfl ?_;refine pu_ 2 15 (tM [1,1,1,18]) rfl rfl ?_
       refine pu_ 4 17 (tM [1,1,1,1,1,16]) rfl rfl ?_;refine pu_ 6 19 (tM [1,1,1,1,1,1,1,14]) rfl rfl ?_;refine pu_ 9 22 (tM [1,1,1,1,1,1,1,2,1,11]) rfl rfl ?_;refine pu_ 11 24 (tM [1,1,1,1,1,1,1,2,1,1,1,9]) rfl rfl ?_;refine pu_ 14 27 (tM [1,1,1,1,1,1,1,2,1,1,1,2,1,6]) rfl rfl ?_;refine pu_ 16 29 (tM [1,1,1,1,1,1,1,2,1,1,1,2,1,1,1,4]) rfl rfl ?_;refine ta9_ 1 14 (tM [3,1,1,1,1,2,1,1,1,2,1,1,1,4]) rfl rfl ?_;refine ta9_ 3 16 (tM [5,1,1,2,1,1,1,2,1,1,1,4]) rfl rfl ?_;refine ta9_ 5 18 (tM [7,2,1,1,1,2,1,1,1,4]) rfl rfl ?_
       refine pu_ 7 20 (tM [8,1,1,1,1,2,1,1,1,4]) rfl rfl ?_;refine ta9_ 8 21 (tM [10,1,1,2,1,1,1,4]) rfl rfl ?_;refine ta9_ 10 23 (tM [12,2,1,1,1,4]) rfl rfl ?_;refine pu_ 12 25 (tM [13,1,1,1,1,4]) rfl rfl ?_;refine ta9_ 13 26 (tM [15,1,1,4]) rfl rfl ?_;refine ta9_ 15 28 (tf 17 4) rfl rfl ?_;refine pu_ 17 30 (tf 18 3) rfl rfl ?_;refine ta9_ 18 31 (tf 19 2) rfl rfl ?_;refine one_ (i:=19) (N:=some 32) (tf 20 1) rfl rfl (one_of HT_.1 (by kernel_rfl)) (by decide) (fun K hK=>?_);refine goes_ Try.func104 (by kernel_rfl) rfl #[.slice A0_0 l0_0.length c0_0,.slice A0_1 l0_1.length c0_1,.int .i64 (rd l0_2 a2),.int .i64 (rd l0_3 a3),.int .i64 (rd l0_4 a3)] (by rfl) rfl rfl (by(try simp only [List.map_toArray,List.map_cons,List.map_nil]);first|done|rfl|(simp only [List.length_drop,List.length_take];rfl)) ?_;with_reducible refine(impl_isAllowed.calls k _ _ l0_0 _ _ l0_1 (rd l0_2 a2) (rd l0_3 a3) (rd l0_4 a3) false _ ?_ ?_ ?_ ?_ A10.1).mono ?_
       exact vd HR0_0.1 HB.1
       exact HC0_0.1
       exact vd HR0_1.1 HB.1
       exact HC0_1.1
       rintro e w33 ⟨rfl,hb⟩;refine⟨_,rfl,?_⟩;replace BK1:=kb BK1 hb;replace HB:=bs HB hb;(try clear hb)
       (try clear hb2)
       (try clear hk)
       (try clear hi)
       refine hK.out _ _ ⟨bk BK1.1 0,bk BK1.1 1,bk BK1.1 2,bk BK1.1 3,bk BK1.1 4,bk BK1.1 5,(cb HB.1 hw10_0:),(cb HB.1 hw4_0:),(cb HB.1 hw5_0:)⟩ (fun hHeld=>?_);clear hK K;refine norm_ (a':=?_) ?_ ?_
       rotate_left
       ·show Act.put _ (some 32) _=_
        simp only [Act.put,List.setIfInBounds_toArray,List.set_cons_zero,List.set_cons_succ,i64_w,i32_w]
        rfl
       refine pu_ 20 33 (tf 21 0) rfl rfl ?_;refine done_ (done_of HT_.1 (by kernel_rfl)) ?_;(try go_wp2)
       go_ret
       exact⟨ew,vb HB.1⟩
     ·exact nO_ c9 H
    ·exact nO_ c8 H
   ·exact nO_ c7 H
  ·exact nO_ c6 H
 ·exact nO_ c5 H
end Go.Proofs.Ytiblahniohjbbaa.Pall
