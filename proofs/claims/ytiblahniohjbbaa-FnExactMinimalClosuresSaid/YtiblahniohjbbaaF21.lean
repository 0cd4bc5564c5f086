/- Go functions of the program, each as a Lean function, and the proof that each call comes to what the Lean function tells; no condition beyond those that stand there. -/
import Derived.Test.YtiblahniohjbbaaF18
import Derived.StillTailTactics
import Derived.IntWalk
import Derived.Lib.Hide
namespace Go.Proofs.Ytiblahniohjbbaa.Pall
set_option maxRecDepth 100000
set_option maxHeartbeats 8000000
open Go.RowKit Go.Proofs.YtiblahniohjbbaaW.PrintWords Go.Proofs.YtiblahniohjbbaaW.PrintLast
set_option linter.unusedVariables false
set_option linter.unusedSimpArgs false
def laws_eqAreaS.l0:Nat→List (S69)→List (S69)→Int→Option (Bool)
 |0,_,_,_=>none
 |k+1,x4,x0,x1=>if x1<(x4.length:Int) then (if 0≤x1 then (if x1<(x0.length:Int) then ((laws_eqArea.f ((rd_T69 x4 x1).f0) ((rd_T69 x4 x1).f1) ((rd_T69 x4 x1).f2) ((rd_T69 x4 x1).f3) ((rd_T69 x4 x1).f4) ((rd_T69 x0 x1).f0) ((rd_T69 x0 x1).f1) ((rd_T69 x0 x1).f2) ((rd_T69 x0 x1).f3) ((rd_T69 x0 x1).f4)).bind fun t8=>(if t8=true then (laws_eqAreaS.l0 k x4 x0 (wrap64 (x1+1))) else (some false))) else (none)) else (none)) else (some true)
def laws_eqAreaS.f (k:Nat) (l0:List (S69)) (l1:List (S69)):Option (Bool):=if (l0.length:Int)=(l1.length:Int) then (laws_eqAreaS.l0 k l0 l1 0) else (some false)
def laws_eqAreaS.T6:Bool×List (List Nat×List Nat):=(true,[([],[]),([],[]),([0,1],[0,1]),([2],[2]),([],[]),([],[]),([4,5],[4,5]),([6],[6]),([3,7],[3,7]),([8],[8])])
def laws_eqAreaS.B6:List Nat:=[0,0,3,7,0,0,48,112,255,511]
theorem laws_eqAreaS.tab6:rtab .any (opsOf Try.f91 6)=laws_eqAreaS.T6:=by kernel_rfl
theorem laws_eqAreaS.bits6:waitsOk laws_eqAreaS.T6.2 laws_eqAreaS.B6=true:=by kernel_rfl
theorem laws_eqAreaS.calls (k:Nat) (A0:Option Addr) (c0:Nat) (l0:List (S69)) (A1:Option Addr) (c1:Nat) (l1:List (S69)) (r:Bool) (w:World) (hr0:Kd.C k69 w A0 l0.length l0) (hc0:l0.length≤c0) (hr1:Kd.C k69 w A1 l1.length l1) (hc1:l1.length≤c1) (h:laws_eqAreaS.f k l0 l1=some r):
  Calls Try.prog 91 #[.slice A0 l0.length c0,.slice A1 l1.length c1] w fun e w'=>e=.returned (.bool r)∧Below w.heap.size w w':=by
 have hu69:=Try.underlying69;have HR0:=ak hr0;have HC0:=ak hc0;clear hr0 hc0;have HR1:=ak hr1;have HC1:=ak hc1;clear hr1 hc1;have HB:=ak (Below.refl w.heap.size w);unfold laws_eqAreaS.f at h;have H:=h;clear h;by_cases c3:(l0.length:Int)=(l1.length:Int)
 ·rw [if_pos c3] at H;obtain⟨c3b0,c3b1⟩:=bqt c3;have c3b2:(l0.length==l1.length)=true:=by first|simpa using c3|(simp at c3 ⊢;omega)
  clear c3;have H':=ak H;clear H;go_enter Try.func91,Try.ntmps91;go_wp2
  go_loopg [5] k (fun kq v1 w'=>∃(x1_0:Int),v1=.int .i64 x1_0∧Aside0 (laws_eqAreaS.l0 kq l0 l1 x1_0=some r)∧Aside0 (kq≤k)∧Aside0 (Below w.heap.size w w'))
  case atStart=>exact⟨(0),es,H',⟨Nat.le_refl _⟩,⟨vb HB.1⟩⟩
  case round=>
   clear H';obtain⟨x1_0,rfl,HA,HK1,HB⟩:=hrel
   cases gk with
   |zero=>exact absurd HA.1 (by simp [laws_eqAreaS.l0])
   |succ k1=>
    have H:=HA.1;clear HA;simp only [laws_eqAreaS.l0] at H
    by_cases c4:x1_0<(l0.length:Int)
    ·rw [if_pos c4] at H;have c4b0:=decide_eq_true c4;clear c4;by_cases c5:0≤x1_0
     ·rw [if_pos c5] at H;have c5b0:=decide_eq_true c5;clear c5;by_cases c6:x1_0<(l1.length:Int)
      ·rw [if_pos c6] at H;have c6b0:=decide_eq_true c6;clear c6;obtain⟨t8,A7,H⟩:=bnk H;by_cases c8:t8=true
       ·subst c8;rw [if_pos rfl] at H;have H':=ak H;clear H;(try go_wp2)
        replace HB:=ak (below_drew1 HB.1);have p2:0≤(x1_0:Int):=od;have q2:x1_0<(l0.length:Int):=od;obtain⟨ad2,e2,hx2_4,hx2_0,hx2_5,hx2_6,hx2_7⟩:=at_T69 HR0.1 x1_0 p2 q2;have hw2_7:=hx2_7;have hw2_6:=hx2_6;have hw2_5:=hx2_5;have hw2_0:=hx2_0;have hw2_4:=hx2_4
        cases e2;replace hx2_4:=cb HB.1 hx2_4;replace hx2_0:=cb HB.1 hx2_0;replace hx2_5:=cb HB.1 hx2_5;replace hx2_6:=cb HB.1 hx2_6;replace hx2_7:=cb HB.1 hx2_7;replace p2:=eq_true p2;replace q2:=eq_true q2;have p3:0≤(x1_0:Int):=od;have q3:x1_0<(l1.length:Int):=od;obtain⟨ad3,e3,hx3_4,hx3_0,hx3_5,hx3_6,hx3_7⟩:=at_T69 HR1.1 x1_0 p3 q3;have hw3_7:=hx3_7;have hw3_6:=hx3_6;have hw3_5:=hx3_5;have hw3_0:=hx3_0;have hw3_4:=hx3_4
        cases e3;replace hx3_4:=cb HB.1 hx3_4;replace hx3_0:=cb HB.1 hx3_0;replace hx3_5:=cb HB.1 hx3_5;replace hx3_6:=cb HB.1 hx3_6;replace hx3_7:=cb HB.1 hx3_7;replace p3:=eq_true p3;replace q3:=eq_true q3;refine start_ (n:=10) (S:=fun w'=>w'.cell? (ad2.add ((x1_0).toNat*5))=some (.int .i64 ((rd_T69 l0 x1_0).f0))∧w'.cell? ⟨(ad2.add ((x1_0).toNat*5)).block,(ad2.add ((x1_0).toNat*5)).off+1,none⟩=some (.int .i64 ((rd_T69 l0 x1_0).f1))∧w'.cell? ⟨(ad2.add ((x1_0).toNat*5)).block,(ad2.add ((x1_0).toNat*5)).off+2,none⟩=some (.int .i64 ((rd_T69 l0 x1_0).f2))∧w'.cell? ⟨(ad2.add ((x1_0).toNat*5)).block,(ad2.add ((x1_0).toNat*5)).off+3,none⟩=some (.int .i64 ((rd_T69 l0 x1_0).f3))∧w'.cell? ⟨(ad2.add ((x1_0).toNat*5)).block,(ad2.add ((x1_0).toNat*5)).off+4,none⟩=some (.int .i64 ((rd_T69 l0 x1_0).f4))∧w'.cell? (ad3.add ((x1_0).toNat*5))=some (.int .i64 ((rd_T69 l1 x1_0).f0))∧w'.cell? ⟨(ad3.add ((x1_0).toNat*5)).block,(ad3.add ((x1_0).toNat*5)).off+1,none⟩=some (.int .i64 ((rd_T69 l1 x1_0).f1))∧w'.cell? ⟨(ad3.add ((x1_0).toNat*5)).block,(ad3.add ((x1_0).toNat*5)).off+2,none⟩=some (.int .i64 ((rd_T69 l1 x1_0).f2))∧w'.cell? ⟨(ad3.add ((x1_0).toNat*5)).block,(ad3.add ((x1_0).toNat*5)).off+3,none⟩=some (.int .i64 ((rd_T69 l1 x1_0).f3))∧w'.cell? ⟨(ad3.add ((x1_0).toNat*5)).block,(ad3.add ((x1_0).toNat*5)).off+4,none⟩=some (.int .i64 ((rd_T69 l1 x1_0).f4))) (ds:=[]) (tf 0 10) (by kernel_rfl) rfl rfl ⟨(cb HB.1 hw2_4:),(cb HB.1 hw2_0:),(cb HB.1 hw2_5:),(cb HB.1 hw2_6:),(cb HB.1 hw2_7:),(cb HB.1 hw3_4:),(cb HB.1 hw3_0:),(cb HB.1 hw3_5:),(cb HB.1 hw3_6:),(cb HB.1 hw3_7:)⟩ (fun hHeld=>?_);refine with_tabW laws_eqAreaS.tab6 laws_eqAreaS.bits6 (fun HT_ HW_=>?_)
        generalize wr.drew=w9 at HB hx2_4 hx2_0 hx2_5 hx2_6 hx2_7 hx3_4 hx3_0 hx3_5 hx3_6 hx3_7 hHeld ⊢;refine pu_ 0 17 (tf 1 9) rfl rfl ?_;refine pu_ 1 18 (tf 2 8) rfl rfl ?_;refine pu_ 2 19 (tf 3 7) rfl rfl ?_;refine pu_ 4 21 (tM [3,1,1,5]) rfl rfl ?_;refine pu_ 5 22 (tM [3,1,2,4]) rfl rfl ?_;refine pu_ 6 23 (tM [3,1,3,3]) rfl rfl ?_;refine ta10_ 3 20 (tf 7 3) rfl rfl ?_;refine ta10_ 7 24 (tf 8 2) rfl rfl ?_;refine one_ (i:=8) (N:=some 25) (tf 9 1) rfl rfl (one_of HT_.1 (by kernel_rfl)) (by decide) (fun K hK=>?_);refine goes_ Try.func106 (by kernel_rfl) rfl #[.agg #[.int .i64 ((rd_T69 l0 x1_0).f0),.int .i64 ((rd_T69 l0 x1_0).f1),.int .i64 ((rd_T69 l0 x1_0).f2),.int .i64 ((rd_T69 l0 x1_0).f3),.int .i64 ((rd_T69 l0 x1_0).f4)],.agg #[.int .i64 ((rd_T69 l1 x1_0).f0),.int .i64 ((rd_T69 l1 x1_0).f1),.int .i64 ((rd_T69 l1 x1_0).f2),.int .i64 ((rd_T69 l1 x1_0).f3),.int .i64 ((rd_T69 l1 x1_0).f4)]] (by rfl) rfl rfl (by(try simp only [List.map_toArray,List.map_cons,List.map_nil]);first|done|rfl|(simp only [List.length_drop,List.length_take];rfl)) ?_;with_reducible refine(laws_eqArea.calls ((rd_T69 l0 x1_0).f0) ((rd_T69 l0 x1_0).f1) ((rd_T69 l0 x1_0).f2) ((rd_T69 l0 x1_0).f3) ((rd_T69 l0 x1_0).f4) ((rd_T69 l1 x1_0).f0) ((rd_T69 l1 x1_0).f1) ((rd_T69 l1 x1_0).f2) ((rd_T69 l1 x1_0).f3) ((rd_T69 l1 x1_0).f4) true _ A7.1).mono ?_
        rintro e w10 ⟨rfl,hb⟩;refine⟨_,rfl,?_⟩;replace HB:=bs HB hb;(try clear hb)
        (try clear hb2)
        (try clear hk)
        (try clear hi)
        refine hK.out _ _ ⟨(cb HB.1 hw2_4:),(cb HB.1 hw2_0:),(cb HB.1 hw2_5:),(cb HB.1 hw2_6:),(cb HB.1 hw2_7:),(cb HB.1 hw3_4:),(cb HB.1 hw3_0:),(cb HB.1 hw3_5:),(cb HB.1 hw3_6:),(cb HB.1 hw3_7:)⟩ (fun hHeld=>?_);clear hK K;refine norm_ (a':=?_) ?_ ?_
        rotate_left
        ·show Act.put _ (some 25) _=_
         simp only [Act.put,List.setIfInBounds_toArray,List.set_cons_zero,List.set_cons_succ,i64_w,i32_w]
         rfl
        refine pu_ 9 26 (tf 10 0) rfl rfl ?_;refine done_ (done_of HT_.1 (by kernel_rfl)) ?_;(try go_wp2)
        go_roundg k1
        case measure=>have:=HK1.1;omega
        case rel=>exact⟨(wrap64 (x1_0+1)),es,H',⟨by have:=HK1.1;omega⟩,⟨vb HB.1⟩⟩
       ·replace c8:=Bool.eq_false_iff.mpr c8;subst c8;rw [if_neg nf] at H;obtain rfl:=sj H;(try go_wp2)
        replace HB:=ak (below_drew1 HB.1);have p2:0≤(x1_0:Int):=od;have q2:x1_0<(l0.length:Int):=od;obtain⟨ad2,e2,hx2_4,hx2_0,hx2_5,hx2_6,hx2_7⟩:=at_T69 HR0.1 x1_0 p2 q2;have hw2_7:=hx2_7;have hw2_6:=hx2_6;have hw2_5:=hx2_5;have hw2_0:=hx2_0;have hw2_4:=hx2_4
        cases e2;replace hx2_4:=cb HB.1 hx2_4;replace hx2_0:=cb HB.1 hx2_0;replace hx2_5:=cb HB.1 hx2_5;replace hx2_6:=cb HB.1 hx2_6;replace hx2_7:=cb HB.1 hx2_7;replace p2:=eq_true p2;replace q2:=eq_true q2;have p3:0≤(x1_0:Int):=od;have q3:x1_0<(l1.length:Int):=od;obtain⟨ad3,e3,hx3_4,hx3_0,hx3_5,hx3_6,hx3_7⟩:=at_T69 HR1.1 x1_0 p3 q3;have hw3_7:=hx3_7;have hw3_6:=hx3_6;have hw3_5:=hx3_5;have hw3_0:=hx3_0;have hw3_4:=hx3_4
        cases e3;replace hx3_4:=cb HB.1 hx3_4;replace hx3_0:=cb HB.1 hx3_0;replace hx3_5:=cb HB.1 hx3_5;replace hx3_6:=cb HB.1 hx3_6;replace hx3_7:=cb HB.1 hx3_7;replace p3:=eq_true p3;replace q3:=eq_true q3;refine start_ (n:=10) (S:=fun w'=>w'.cell? (ad2.add ((x1_0).toNat*5))=some (.int .i64 ((rd_T69 l0 x1_0).f0))∧w'.cell? ⟨(ad2.add ((x1_0).toNat*5)).block,(ad2.add ((x1_0).toNat*5)).off+1,none⟩=some (.int .i64 ((rd_T69 l0 x1_0).f1))∧w'.cell? ⟨(ad2.add ((x1_0).toNat*5)).block,(ad2.add ((x1_0).toNat*5)).off+2,none⟩=some (.int .i64 ((rd_T69 l0 x1_0).f2))∧w'.cell? ⟨(ad2.add ((x1_0).toNat*5)).block,(ad2.add ((x1_0).toNat*5)).off+3,none⟩=some (.int .i64 ((rd_T69 l0 x1_0).f3))∧w'.cell? ⟨(ad2.add ((x1_0).toNat*5)).block,(ad2.add ((x1_0).toNat*5)).off+4,none⟩=some (.int .i64 ((rd_T69 l0 x1_0).f4))∧w'.cell? (ad3.add ((x1_0).toNat*5))=some (.int .i64 ((rd_T69 l1 x1_0).f0))∧w'.cell? ⟨(ad3.add ((x1_0).toNat*5)).block,(ad3.add ((x1_0).toNat*5)).off+1,none⟩=some (.int .i64 ((rd_T69 l1 x1_0).f1))∧w'.cell? ⟨(ad3.add ((x1_0).toNat*5)).block,(ad3.add ((x1_0).toNat*5)).off+2,none⟩=some (.int .i64 ((rd_T69 l1 x1_0).f2))∧w'.cell? ⟨(ad3.add ((x1_0).toNat*5)).block,(ad3.add ((x1_0).toNat*5)).off+3,none⟩=some (.int .i64 ((rd_T69 l1 x1_0).f3))∧w'.cell? ⟨(ad3.add ((x1_0).toNat*5)).block,(ad3.add ((x1_0).toNat*5)).off+4,none⟩=some (.int .i64 ((rd_T69 l1 x1_0).f4))) (ds:=[]) (tf 0 10) (by kernel_rfl) rfl rfl ⟨(cb HB.1 hw2_4:),(cb HB.1 hw2_0:),(cb HB.1 hw2_5:),(cb HB.1 hw2_6:),(cb HB.1 hw2_7:),(cb HB.1 hw3_4:),(cb HB.1 hw3_0:),(cb HB.1 hw3_5:),(cb HB.1 hw3_6:),(cb HB.1 hw3_7:)⟩ (fun hHeld=>?_);refine with_tabW laws_eqAreaS.tab6 laws_eqAreaS.bits6 (fun HT_ HW_=>?_)
        generalize wr.drew=w11 at HB hx2_4 hx2_0 hx2_5 hx2_6 hx2_7 hx3_4 hx3_0 hx3_5 hx3_6 hx3_7 hHeld ⊢;refine pu_ 0 17 (tf 1 9) rfl rfl ?_;refine pu_ 1 18 (tf 2 8) rfl rfl ?_;refine pu_ 2 19 (tf 3 7) rfl rfl ?_;refine pu_ 4 21 (tM [3,1,1,5]) rfl rfl ?_;refine pu_ 5 22 (tM [3,1,2,4]) rfl rfl ?_;refine pu_ 6 23 (tM [3,1,3,3]) rfl rfl ?_;refine ta10_ 3 20 (tf 7 3) rfl rfl ?_;refine ta10_ 7 24 (tf 8 2) rfl rfl ?_;refine one_ (i:=8) (N:=some 25) (tf 9 1) rfl rfl (one_of HT_.1 (by kernel_rfl)) (by decide) (fun K hK=>?_);refine goes_ Try.func106 (by kernel_rfl) rfl #[.agg #[.int .i64 ((rd_T69 l0 x1_0).f0),.int .i64 ((rd_T69 l0 x1_0).f1),.int .i64 ((rd_T69 l0 x1_0).f2),.int .i64 ((rd_T69 l0 x1_0).f3),.int .i64 ((rd_T69 l0 x1_0).f4)],.agg #[.int .i64 ((rd_T69 l1 x1_0).f0),.int .i64 ((rd_T69 l1 x1_0).f1),.int .i64 ((rd_T69 l1 x1_0).f2),.int .i64 ((rd_T69 l1 x1_0).f3),.int .i64 ((rd_T69 l1 x1_0).f4)]] (by rfl) rfl rfl (by(try simp only [List.map_toArray,List.map_cons,List.map_nil]);first|done|rfl|(simp only [List.length_drop,List.length_take];rfl)) ?_;with_reducible refine(laws_eqArea.calls ((rd_T69 l0 x1_0).f0) ((rd_T69 l0 x1_0).f1) ((rd_T69 l0 x1_0).f2) ((rd_T69 l0 x1_0).f3) ((rd_T69 l0 x1_0).f4) ((rd_T69 l1 x1_0).f0) ((rd_T69 l1 x1_0).f1) ((rd_T69 l1 x1_0).f2) ((rd_T69 l1 x1_0).f3) ((rd_T69 l1 x1_0).f4) false _ A7.1).mono ?_
        rintro e w12 ⟨rfl,hb⟩;refine⟨_,rfl,?_⟩;replace HB:=bs HB hb;(try clear hb)
        (try clear hb2)
        (try clear hk)
        (try clear hi)
        refine hK.out _ _ ⟨(cb HB.1 hw2_4:),(cb HB.1 hw2_0:),(cb HB.1 hw2_5:),(cb HB.1 hw2_6:),(cb HB.1 hw2_7:),(cb HB.1 hw3_4:),(cb HB.1 hw3_0:),(cb HB.1 hw3_5:),(cb HB.1 hw3_6:),(cb HB.1 hw3_7:)⟩ (fun hHeld=>?_);clear hK K;refine norm_ (a':=?_) ?_ ?_
        rotate_left
        ·show Act.put _ (some 25) _=_
         simp only [Act.put,List.setIfInBounds_toArray,List.set_cons_zero,List.set_cons_succ,i64_w,i32_w]
         rfl
        refine pu_ 9 26 (tf 10 0) rfl rfl ?_;refine done_ (done_of HT_.1 (by kernel_rfl)) ?_;(try go_wp2)
        go_ret
        exact⟨ew,vb HB.1⟩
      ·exact nO_ c6 H
     ·exact nO_ c5 H
    ·rw [if_neg c4] at H;have c4b0:=decide_eq_false c4;clear c4;obtain rfl:=sj H;go_wp2
     go_ret
     exact⟨ew,vb HB.1⟩
 ·rw [if_neg c3] at H;obtain⟨c3b0,c3b1⟩:=bqf c3;have c3b2:(l0.length==l1.length)=false:=by first|simpa using c3|(simp at c3 ⊢;omega)
  obtain rfl:=sj H;go_enter Try.func91,Try.ntmps91;go_wp2
  go_ret
  exact⟨ew,vb HB.1⟩
def laws_intactAreaS.f (k:Nat) (l0:List S69) (l1:List S69):Option Bool:=if l0.length=l1.length then laws_eqAreaS.f k (full l0) (full l1) else none
set_option maxHeartbeats 1000000 in
theorem laws_intactAreaS.calls (k:Nat) (A0:Option Addr) (c0:Nat) (l0:List S69) (A1:Option Addr) (c1:Nat) (l1:List S69) (r:Bool) (w:World) (hr0:Kd.C k69 w A0 (full l0).length (full l0)) (hc0:(full l0).length≤c0) (hr1:Kd.C k69 w A1 (full l1).length (full l1)) (hc1:(full l1).length≤c1) (h:laws_intactAreaS.f k l0 l1=some r):
  Calls Try.prog 66 #[.slice A0 l0.length c0,.slice A1 l1.length c1] w fun e w'=>e=.returned (.bool r)∧Below w.heap.size w w':=by
 unfold laws_intactAreaS.f at h
 by_cases he:l0.length=l1.length
 rotate_left
 ·rw [if_neg he] at h;exact absurd h (by simp)
 rw [if_pos he] at h;have hm0:(full l1).length≤9223372036854775807:=hr1.2.1;have ef0:(full l0).length=(full l1).length:=by rw [full_length,full_length,he]
 have hk:((l1.length:Int)+(roomN l1.length:Int))=((full l1).length:Int):=by rw [full_length];omega
 obtain⟨i0,hi0,_,_,_⟩:=info_parts info69;have hq1:=cut_cap (P:=Try.prog) 25 69 .i64 Try.underlying25 hi0 A0 l0.length c0 ((full l1).length:Int) (by omega) (by omega);have hq0:=cut_cap (P:=Try.prog) 25 69 .i64 Try.underlying25 hi0 A1 l1.length c1 ((full l1).length:Int) (by omega) (by omega);have hw:IntKind.i64.wrap ((l1.length:Int)+(roomN l1.length:Int))=((full l1).length:Int):=by rw [hk];exact IntWalk.i64_in _ (by omega)
 have heq:((l0.length:Int)==(l1.length:Int))=true:=by rw [he];simp
 have heq2:(l0.length==l1.length)=true:=by rw [he];simp
 rw [Int.toNat_natCast] at hq1 hq0;have HE:=ak ef0;clear hk ef0 he hi0;go_enter Try.func66,Try.ntmps66;go_wp2_with fail
 refine(laws_roomBehind.calls _ _ _ (room_f _)).mono ?_;rintro e w' ⟨rfl,⟨nd,rfl⟩⟩;go_wp2_with fail
 go_still_tail 12,(by kernel_rfl)
 change wpList _ _ _ _ _ ((w.drewN nd).drew)
 have hE:=laws_eqAreaS.calls k A0 c0 (full l0) A1 c1 (full l1) r ((w.drewN nd).drew) (Kd.C_drew (Kd.C_drewN hr0 nd)) hc0 (Kd.C_drew (Kd.C_drewN hr1 nd)) hc1 h;rw [HE.1] at hE;have HH:=Lib.hid hE;clear hE;go_wp2_with fail
 refine HH.out.mono ?_;rintro e w' ⟨rfl,hb⟩;go_wp2_with fail
 go_ret
 exact⟨rfl,below_step (by repeat (first|exact Below.refl _ _|apply below_drew1|apply pw_below_drewN)) hb⟩
def laws_intactField.f (k:Nat) (l0_0:List (S91)) (l0_1:List (S69)) (l0_2:List Int) (l0_3:List Int) (l0_4:List Int) (a0_5:Int) (l1_0:List (S91)) (l1_1:List (S69)) (l1_2:List Int) (l1_3:List Int) (l1_4:List Int) (a1_5:Int):Option (Bool):=(laws_intactDemandS.f k l0_0 l1_0).bind fun t3=>(if t3=true then ((laws_intactAreaS.f k l0_1 l1_1).bind fun t4=>(if t4=true then ((laws_intactInt64S.f k l0_2 l1_2).bind fun t5=>(if t5=true then ((laws_intactInt64S.f k l0_3 l1_3).bind fun t6=>(if t6=true then ((laws_intactInt64S.f k l0_4 l1_4).bind fun t7=>(if t7=true then (if a0_5=a1_5 then (some true) else (some false)) else (some false))) else (some false))) else (some false))) else (some false))) else (some false))
theorem laws_intactField.calls (k:Nat) (A0_0:Option Addr) (c0_0:Nat) (l0_0:List (S91)) (A0_1:Option Addr) (c0_1:Nat) (l0_1:List (S69)) (A0_2:Option Addr) (c0_2:Nat) (l0_2:List Int) (A0_3:Option Addr) (c0_3:Nat) (l0_3:List Int) (A0_4:Option Addr) (c0_4:Nat) (l0_4:List Int) (a0_5:Int) (A1_0:Option Addr) (c1_0:Nat) (l1_0:List (S91)) (A1_1:Option Addr) (c1_1:Nat) (l1_1:List (S69)) (A1_2:Option Addr) (c1_2:Nat) (l1_2:List Int) (A1_3:Option Addr) (c1_3:Nat) (l1_3:List Int) (A1_4:Option Addr) (c1_4:Nat) (l1_4:List Int) (a1_5:Int) (r:Bool) (w:World) (hr0_0:Kd.C k91 w A0_0 (full l0_0).length (full l0_0)) (hc0_0:(full l0_0).length≤c0_0) (hr0_1:Kd.C k69 w A0_1 (full l0_1).length (full l0_1)) (hc0_1:(full l0_1).length≤c0_1) (hr0_2:Kd.C (Kd.int .i64) w A0_2 (full l0_2).length (full l0_2)) (hc0_2:(full l0_2).length≤c0_2) (hr0_3:Kd.C (Kd.int .i64) w A0_3 (full l0_3).length (full l0_3)) (hc0_3:(full l0_3).length≤c0_3) (hr0_4:Kd.C (Kd.int .i64) w A0_4 (full l0_4).length (full l0_4)) (hc0_4:(full l0_4).length≤c0_4) (hr1_0:Kd.C k91 w A1_0 (full l1_0).length (full l1_0)) (hc1_0:(full l1_0).length≤c1_0) (hr1_1:Kd.C k69 w A1_1 (full l1_1).length (full l1_1)) (hc1_1:(full l1_1).length≤c1_1) (hr1_2:Kd.C (Kd.int .i64) w A1_2 (full l1_2).length (full l1_2)) (hc1_2:(full l1_2).length≤c1_2) (hr1_3:Kd.C (Kd.int .i64) w A1_3 (full l1_3).length (full l1_3)) (hc1_3:(full l1_3).length≤c1_3) (hr1_4:Kd.C (Kd.int .i64) w A1_4 (full l1_4).length (full l1_4)) (hc1_4:(full l1_4).length≤c1_4) (h:laws_intactField.f k l0_0 l0_1 l0_2 l0_3 l0_4 a0_5 l1_0 l1_1 l1_2 l1_3 l1_4 a1_5=some r):
  Calls Try.prog 29 #[.agg (f5 A0_0 l0_0 c0_0 A0_1 l0_1 c0_1 A0_2 l0_2 c0_2 A0_3 l0_3 c0_3 A0_4 l0_4 c0_4 a0_5),.agg (f5 A1_0 l1_0 c1_0 A1_1 l1_1 c1_1 A1_2 l1_2 c1_2 A1_3 l1_3 c1_3 A1_4 l1_4 c1_4 a1_5)] w fun e w'=>e=.returned (.bool r)∧Below w.heap.size w w':=by
 have hu28:=Try.underlying28;have HR0_0:=ak hr0_0;have HC0_0:=ak hc0_0;clear hr0_0 hc0_0;have HR0_1:=ak hr0_1;have HC0_1:=ak hc0_1;clear hr0_1 hc0_1;have HR0_2:=ak hr0_2;have HC0_2:=ak hc0_2;clear hr0_2 hc0_2;have HR0_3:=ak hr0_3;have HC0_3:=ak hc0_3;clear hr0_3 hc0_3;have HR0_4:=ak hr0_4;have HC0_4:=ak hc0_4;clear hr0_4 hc0_4;have HR1_0:=ak hr1_0;have HC1_0:=ak hc1_0;clear hr1_0 hc1_0;have HR1_1:=ak hr1_1;have HC1_1:=ak hc1_1;clear hr1_1 hc1_1;have HR1_2:=ak hr1_2;have HC1_2:=ak hc1_2;clear hr1_2 hc1_2;have HR1_3:=ak hr1_3;have HC1_3:=ak hc1_3;clear hr1_3 hc1_3;have HR1_4:=ak hr1_4;have HC1_4:=ak hc1_4;clear hr1_4 hc1_4;have HB:=ak (Below.refl w.heap.size w);unfold laws_intactField.f at h;have H:=h;clear h;obtain⟨t3,A3,H⟩:=bnk H;by_cases c4:t3=true
 subst c4;rw [if_pos rfl] at H;obtain⟨t4,A5,H⟩:=bnk H;by_cases c6:t4=true
 subst c6;rw [if_pos rfl] at H;obtain⟨t5,A7,H⟩:=bnk H;by_cases c8:t5=true
 subst c8;rw [if_pos rfl] at H;obtain⟨t6,A9,H⟩:=bnk H;by_cases c10:t6=true
 subst c10;rw [if_pos rfl] at H;obtain⟨t7,A11,H⟩:=bnk H;by_cases c12:t7=true
 subst c12;rw [if_pos rfl] at H;by_cases c13:a0_5=a1_5
 rw [if_pos c13] at H;obtain⟨c13b0,c13b1⟩:=bqt c13;clear c13;obtain rfl:=sj H;rotate_left
 rw [if_neg c13] at H;obtain⟨c13b0,c13b1⟩:=bqf c13;obtain rfl:=sj H;rotate_left
 replace c12:=Bool.eq_false_iff.mpr c12;subst c12;rw [if_neg nf] at H;obtain rfl:=sj H;rotate_left
 replace c10:=Bool.eq_false_iff.mpr c10;subst c10;rw [if_neg nf] at H;obtain rfl:=sj H;rotate_left
 replace c8:=Bool.eq_false_iff.mpr c8;subst c8;rw [if_neg nf] at H;obtain rfl:=sj H;rotate_left
 replace c6:=Bool.eq_false_iff.mpr c6;subst c6;rw [if_neg nf] at H;obtain rfl:=sj H;rotate_left
 replace c4:=Bool.eq_false_iff.mpr c4;subst c4;rw [if_neg nf] at H;obtain rfl:=sj H;rotate_left
 all_goals
  go_enter Try.func29,Try.ntmps29;go_wp2_with (first|((with_reducible refine gate_dst (N:=2) rfl ?_);refine bx 2 (f5 A0_0 l0_0 c0_0 A0_1 l0_1 c0_1 A0_2 l0_2 c0_2 A0_3 l0_3 c0_3 A0_4 l0_4 c0_4 a0_5) 28 ?_;intro gb0 hg w9 hbox hb;have BK0:=ak hbox;have GW1239:=gw hg HB;have GE0:=gw hg HB;replace HB:=bs HB hb;clear hb hbox hg)|((with_reducible refine gate_dst (N:=3) rfl ?_);refine bx 3 (f5 A1_0 l1_0 c1_0 A1_1 l1_1 c1_1 A1_2 l1_2 c1_2 A1_3 l1_3 c1_3 A1_4 l1_4 c1_4 a1_5) 28 ?_;intro gb1 hg w9 hbox hb;have BK1:=ak hbox;have GW1240:=gw hg HB;have GE1:=gw hg HB;replace HB:=bs HB hb;have NB0_1:=nl hg BK0;have NB1_0:=nr hg BK0;replace BK0:=kb BK0 hb;clear hb hbox hg;have:=NB0_1.1;have:=NB1_0.1;have hcz2:=cz6 BK0.1;have hcz2:=cz6 BK1.1)|((with_reducible refine at_fn (f:=65) rfl ?_);refine gl (some 9) Try.func65 #[.slice A0_0 l0_0.length c0_0,.slice A1_0 l1_0.length c1_0] ?_;(with_reducible refine(laws_intactDemandS.calls k _ _ l0_0 _ _ l1_0 _ _ ?_ HC0_0.1 ?_ HC1_0.1 A3.1).mono ?_);exact vd HR0_0.1 HB.1;exact vd HR1_0.1 HB.1;rintro e w9 ⟨rfl,hb⟩;refine⟨_,rfl,?_⟩;replace BK0:=kb BK0 hb;replace BK1:=kb BK1 hb;replace HB:=bs HB hb;(try clear hb);have hcz2:=cz6 BK0.1;have hcz2:=cz6 BK1.1)|((with_reducible refine at_fn (f:=66) rfl ?_);refine gl (some 15) Try.func66 #[.slice A0_1 l0_1.length c0_1,.slice A1_1 l1_1.length c1_1] ?_;(with_reducible refine(laws_intactAreaS.calls k _ _ l0_1 _ _ l1_1 _ _ ?_ HC0_1.1 ?_ HC1_1.1 A5.1).mono ?_);exact vd HR0_1.1 HB.1;exact vd HR1_1.1 HB.1;rintro e w9 ⟨rfl,hb⟩;refine⟨_,rfl,?_⟩;replace BK0:=kb BK0 hb;replace BK1:=kb BK1 hb;replace HB:=bs HB hb;(try clear hb);have hcz2:=cz6 BK0.1;have hcz2:=cz6 BK1.1)|((with_reducible refine at_fn (f:=38) rfl ?_);refine gl (some 21) Try.func38 #[.slice A0_2 l0_2.length c0_2,.slice A1_2 l1_2.length c1_2] ?_;(with_reducible refine(laws_intactInt64S.calls k _ _ l0_2 _ _ l1_2 _ _ ?_ HC0_2.1 ?_ HC1_2.1 A7.1).mono ?_);exact vd HR0_2.1 HB.1;exact vd HR1_2.1 HB.1;rintro e w' ⟨rfl,⟨nd,rfl⟩⟩;refine⟨_,rfl,?_⟩)|((with_reducible refine at_fn (f:=38) rfl ?_);refine gl (some 27) Try.func38 #[.slice A0_3 l0_3.length c0_3,.slice A1_3 l1_3.length c1_3] ?_;(with_reducible refine(laws_intactInt64S.calls k _ _ l0_3 _ _ l1_3 _ _ ?_ HC0_3.1 ?_ HC1_3.1 A9.1).mono ?_);exact vd HR0_3.1 (vb HB.1);exact vd HR1_3.1 (vb HB.1);rintro e w' ⟨rfl,⟨nd,rfl⟩⟩;refine⟨_,rfl,?_⟩)|((with_reducible refine at_fn (f:=38) rfl ?_);refine gl (some 33) Try.func38 #[.slice A0_4 l0_4.length c0_4,.slice A1_4 l1_4.length c1_4] ?_;(with_reducible refine(laws_intactInt64S.calls k _ _ l0_4 _ _ l1_4 _ _ ?_ HC0_4.1 ?_ HC1_4.1 A11.1).mono ?_);exact vd HR0_4.1 (vb HB.1);exact vd HR1_4.1 (vb HB.1);rintro e w' ⟨rfl,⟨nd,rfl⟩⟩;refine⟨_,rfl,?_⟩))
  go_ret
  exact⟨ew,vb HB.1⟩
end Go.Proofs.Ytiblahniohjbbaa.Pall
