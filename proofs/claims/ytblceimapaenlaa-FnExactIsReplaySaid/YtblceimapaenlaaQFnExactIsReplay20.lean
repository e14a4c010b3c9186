/- FnExactIsReplay: the functions that the law reaches, each as a plain Lean function, and that a call does what it says. Made by a program of this work (wip/mp.py) out of the kit's print. No condition. -/
import Derived.Test.YtblceimapaenlaaQFnExactIsReplay0
import Derived.Test.YtblceimapaenlaaQFnExactIsReplay2
import Derived.Test.YtblceimapaenlaaQFnExactIsReplay3
import Derived.Test.YtblceimapaenlaaQFnExactIsReplay11
import Derived.Test.YtblceimapaenlaaQFnExactIsReplay19
namespace Go.Proofs.Ytblceimapaenlaa.PFnExactIsReplay
open Go.RowKit Go.Proofs.YtblceimapaenlaaW.PrintWords Go.Proofs.YtblceimapaenlaaW.PrintLast Go.Proofs.YtblceimapaenlaaW.PrintMore
open Fix (bK bnd cl14 cr14 d14 dB dK dR eB eK eR fR gE gl gs hh lR nG nL nu ou pu rE tu uB uC uK uR)
open Go.Value renaming int→V,slice→L,bool→O
open Go.IntKind renaming i64→I
open Go.Proofs.YtblceimapaenlaaW.PrintWords.Aside0 renaming mk→C
open Go.Proofs.YtblceimapaenlaaW.PrintWords.Kd renaming R_mono→X,C_below→Z,R_slice→U
open Go.Proofs.YtblceimapaenlaaW.PrintWords renaming gate_callee→F
attribute [local go_sem] max2_int min2_int max_two min_two max_three min_three max_four min_four
attribute [local go_sem] Fix.isSome_setCell
set_option linter.unusedVariables false
set_option linter.unusedSimpArgs false
def laws_FnExactIsReplay.f (k:Nat) (l0_0:List (S24)) (a0_1:Int) (a0_2:Int) (a0_3:Int) (a0_4:Bool) (a0_5:Int) (a0_6:Bool) (a0_7:Int) (a0_8:Int) (l0_9:List Int) (l0_10:List Int) (a0_11:Int) (a0_12:Bool) (a0_13:Int) (l1:List (S50)) (l2:List Int):Option (Bool):=if(l2.length:Int) >1048576 then(some true) else((laws_szMachine.f l0_0 a0_1 a0_2 a0_3 a0_4 a0_5 a0_6 a0_7 a0_8 l0_9 l0_10 a0_11 a0_12 a0_13 1048576).bind fun t977=>(if t977<0 then(some true) else((laws_szActS.f l1 t977).bind fun t978=>(if t978<0 then(some true) else((laws_toMachine.f k l0_0 a0_1 a0_2 a0_3 a0_4 a0_5 a0_6 a0_7 a0_8 l0_9 l0_10 a0_11 a0_12 a0_13).bind fun bt979=>((laws_toActS.f k l1).bind fun t999=>((laws_toIntS.f k l2).bind fun t1002=>((spec_IsReplay.f k bt979.1 bt979.2.1 bt979.2.2.1 bt979.2.2.2.1 bt979.2.2.2.2.1 bt979.2.2.2.2.2.1 bt979.2.2.2.2.2.2.1 bt979.2.2.2.2.2.2.2.1 bt979.2.2.2.2.2.2.2.2.1 bt979.2.2.2.2.2.2.2.2.2.1 bt979.2.2.2.2.2.2.2.2.2.2.1 bt979.2.2.2.2.2.2.2.2.2.2.2.1 bt979.2.2.2.2.2.2.2.2.2.2.2.2.1 bt979.2.2.2.2.2.2.2.2.2.2.2.2.2 t999 t1002).bind fun t1005=>((laws_toMachine.f k l0_0 a0_1 a0_2 a0_3 a0_4 a0_5 a0_6 a0_7 a0_8 l0_9 l0_10 a0_11 a0_12 a0_13).bind fun bt1006=>((laws_toActS.f k l1).bind fun t1027=>((laws_toIntS.f k l2).bind fun t1030=>((impl_IsReplay.f k bt1006.1 bt1006.2.1 bt1006.2.2.1 bt1006.2.2.2.1 bt1006.2.2.2.2.1 bt1006.2.2.2.2.2.1 bt1006.2.2.2.2.2.2.1 bt1006.2.2.2.2.2.2.2.1 bt1006.2.2.2.2.2.2.2.2.1 bt1006.2.2.2.2.2.2.2.2.2.1 bt1006.2.2.2.2.2.2.2.2.2.2.1 bt1006.2.2.2.2.2.2.2.2.2.2.2.1 bt1006.2.2.2.2.2.2.2.2.2.2.2.2.1 bt1006.2.2.2.2.2.2.2.2.2.2.2.2.2 t1027 t1030).bind fun t1033=>(if(t1033 !=t1005)=true then(some false) else((laws_toMachine.f k l0_0 a0_1 a0_2 a0_3 a0_4 a0_5 a0_6 a0_7 a0_8 l0_9 l0_10 a0_11 a0_12 a0_13).bind fun bt1034=>((laws_eqMachine.f k bt1006.1 bt1006.2.1 bt1006.2.2.1 bt1006.2.2.2.1 bt1006.2.2.2.2.1 bt1006.2.2.2.2.2.1 bt1006.2.2.2.2.2.2.1 bt1006.2.2.2.2.2.2.2.1 bt1006.2.2.2.2.2.2.2.2.1 bt1006.2.2.2.2.2.2.2.2.2.1 bt1006.2.2.2.2.2.2.2.2.2.2.1 bt1006.2.2.2.2.2.2.2.2.2.2.2.1 bt1006.2.2.2.2.2.2.2.2.2.2.2.2.1 bt1006.2.2.2.2.2.2.2.2.2.2.2.2.2 bt1034.1 bt1034.2.1 bt1034.2.2.1 bt1034.2.2.2.1 bt1034.2.2.2.2.1 bt1034.2.2.2.2.2.1 bt1034.2.2.2.2.2.2.1 bt1034.2.2.2.2.2.2.2.1 bt1034.2.2.2.2.2.2.2.2.1 bt1034.2.2.2.2.2.2.2.2.2.1 bt1034.2.2.2.2.2.2.2.2.2.2.1 bt1034.2.2.2.2.2.2.2.2.2.2.2.1 bt1034.2.2.2.2.2.2.2.2.2.2.2.2.1 bt1034.2.2.2.2.2.2.2.2.2.2.2.2.2).bind fun t1054=>(if t1054=true then((laws_toActS.f k l1).bind fun t1055=>((laws_eqActS.f k t1027 t1055).bind fun t1058=>(if t1058=true then((laws_toIntS.f k l2).bind fun t1059=>((laws_eqIntS.f k t1030 t1059).bind fun t1062=>(if t1062=true then(some true) else(some false)))) else(some false)))) else(some false)))))))))))))))))
theorem laws_FnExactIsReplay.mono:∀a0 a1 a2 a3 a4 a5 a6 a7 a8 a9 a10 a11 a12 a13 a14 a15 k,LeO (laws_FnExactIsReplay.f k a0 a1 a2 a3 a4 a5 a6 a7 a8 a9 a10 a11 a12 a13 a14 a15) (laws_FnExactIsReplay.f (k+1) a0 a1 a2 a3 a4 a5 a6 a7 a8 a9 a10 a11 a12 a13 a14 a15):=by
 intro a0 a1 a2 a3 a4 a5 a6 a7 a8 a9 a10 a11 a12 a13 a14 a15 k
 unfold laws_FnExactIsReplay.f
 repeat' first|(with_reducible first|apply impl_IsReplay.mono|apply laws_eqActS.mono|apply laws_eqIntS.mono|apply laws_eqMachine.mono|apply laws_toActS.mono|apply laws_toIntS.mono|apply laws_toMachine.mono|apply spec_IsReplay.mono|exact LeO.refl _|exact LeO.none _|refine LeO.ite ?_ ?_|refine LeO.bind ?_ (fun _=> ?_))|exact LeO.none _|refine LeO.ite ?_ ?_|refine LeO.bind ?_ (fun _=> ?_)
theorem laws_FnExactIsReplay.W1 {p:Prop} (h:p:=by
  go_enter Try.func7,Try.ntmps7
  go_wp2_with (first|((with_reducible refine gate_dst (N:=3) rfl ?_);refine Fix.be 3 #[L A0_0 l0_0.length c0_0,V I a0_1,V I a0_2,V I a0_3,O a0_4,V I a0_5,O a0_6,V I a0_7,V I a0_8,L A0_9 l0_9.length c0_9,L A0_10 l0_10.length c0_10,V I a0_11,O a0_12,V I a0_13] 29 ?_;intro gb1 hg w1 BK1 hb;have GW1:Aside0 (w.heap.size≤gb1):=gE hg;have GE1:=GW1;replace HB:=eB hb;clear hb hg;have h_:=d14 BK1.out;(repeat(obtain⟨_,h_⟩:=h_)))|((with_reducible refine F (f:=9) rfl ?_);refine gl 9 (some 18) Try.func9 #[.agg #[L A0_0 l0_0.length c0_0,V I a0_1,V I a0_2,V I a0_3,O a0_4,V I a0_5,O a0_6,V I a0_7,V I a0_8,L A0_9 l0_9.length c0_9,L A0_10 l0_10.length c0_10,V I a0_11,O a0_12,V I a0_13],V I 1048576] ?_;(with_reducible refine(laws_szMachine.calls _ _ l0_0 a0_1 a0_2 a0_3 a0_4 a0_5 a0_6 a0_7 a0_8 _ _ l0_9 _ _ l0_10 a0_11 a0_12 a0_13 1048576 t1 _ ?side1 ?side2 ?side3 ?side4 ?side5 ?side6 A3.out).mono ?_);(case side1=>exact uC (Z HR1_0.out HB.out));(case side2=>exact HC1_0.out);(case side3=>exact uC (Z HR1_9.out HB.out));(case side4=>exact HC1_9.out);(case side5=>exact uC (Z HR1_10.out HB.out));(case side6=>exact HC1_10.out);rintro e w2 ⟨rfl,hb⟩;refine⟨_,rfl,?_⟩;replace BK1:=eK BK1 hb;replace HB:=eB hb;clear hb)|((with_reducible refine F (f:=24) rfl ?_);refine gl 24 (some 23) Try.func24 #[L A1 l1.length c1,V I t1] ?_;(with_reducible refine(laws_szActS.calls _ _ l1 t1 t2 _ ?side1 ?side2 A4.out).mono ?_);(case side1=>exact uC (Z HR2.out HB.out));(case side2=>exact HC2.out);rintro e w' ⟨rfl,⟨nd,rfl⟩⟩;refine⟨_,rfl,?_⟩))
  go_ret
  exact⟨rE,uB⟩):p:=h
set_option maxHeartbeats 40000000 in
set_option maxRecDepth 100000 in
theorem laws_FnExactIsReplay.calls (k:Nat) (A0_0:Option Addr) (c0_0:Nat) (l0_0:List (S24)) (a0_1:Int) (a0_2:Int) (a0_3:Int) (a0_4:Bool) (a0_5:Int) (a0_6:Bool) (a0_7:Int) (a0_8:Int) (A0_9:Option Addr) (c0_9:Nat) (l0_9:List Int) (A0_10:Option Addr) (c0_10:Nat) (l0_10:List Int) (a0_11:Int) (a0_12:Bool) (a0_13:Int) (A1:Option Addr) (c1:Nat) (l1:List (S50)) (A2:Option Addr) (c2:Nat) (l2:List Int) (r:Bool) (w:World) (hr0_0:Kd.C k24 w A0_0 l0_0.length l0_0) (hc0_0:l0_0.length≤c0_0) (hr0_9:Kd.C (Kd.int .i64) w A0_9 l0_9.length l0_9) (hc0_9:l0_9.length≤c0_9) (hr0_10:Kd.C (Kd.int .i64) w A0_10 l0_10.length l0_10) (hc0_10:l0_10.length≤c0_10) (hr1:Kd.C k50 w A1 l1.length l1) (hc1:l1.length≤c1) (hr2:Kd.C (Kd.int .i64) w A2 l2.length l2) (hc2:l2.length≤c2) (hT:r=true) (h:laws_FnExactIsReplay.f k l0_0 a0_1 a0_2 a0_3 a0_4 a0_5 a0_6 a0_7 a0_8 l0_9 l0_10 a0_11 a0_12 a0_13 l1 l2=some r):
  Calls Try.prog 7 #[.agg #[L A0_0 l0_0.length c0_0,V I a0_1,V I a0_2,V I a0_3,O a0_4,V I a0_5,O a0_6,V I a0_7,V I a0_8,L A0_9 l0_9.length c0_9,L A0_10 l0_10.length c0_10,V I a0_11,O a0_12,V I a0_13],L A1 l1.length c1,L A2 l2.length c2] w fun e w'=>e=.returned (O r)∧Below w.heap.size w w':=by
 have hu1:=Try.underlying29
 have hu2:=Try.underlying36
 have HR1_0:=C hr0_0
 have HC1_0:=C hc0_0
 (try clear hr0_0);(try clear hc0_0)
 have HR1_9:=C hr0_9
 have HC1_9:=C hc0_9
 (try clear hr0_9);(try clear hc0_9)
 have HR1_10:=C hr0_10
 have HC1_10:=C hc0_10
 (try clear hr0_10);(try clear hc0_10)
 have HR2:=C hr1
 have HC2:=C hc1
 (try clear hr1);(try clear hc1)
 have HR3:=C hr2
 have HC3:=C hc2
 (try clear hr2);(try clear hc2)
 replace hT:=C hT
 have HB:=C (Below.refl w.heap.size w)
 have H:=h
 unfold laws_FnExactIsReplay.f at H
 clear h
 by_cases c3:(l2.length:Int) >1048576
 ·rw[if_pos c3]at H
  have c3b0:decide (1048576<(l2.length:Int))=true:=decide_eq_true c3
  have c3b1:decide (1048576<l2.length)=true:=decide_eq_true (by omega)
  clear c3
  obtain rfl:=Option.some.inj H
  go_enter Try.func7,Try.ntmps7
  go_wp2_with (first|((with_reducible refine gate_dst (N:=3) rfl ?_);refine Fix.be 3 #[L A0_0 l0_0.length c0_0,V I a0_1,V I a0_2,V I a0_3,O a0_4,V I a0_5,O a0_6,V I a0_7,V I a0_8,L A0_9 l0_9.length c0_9,L A0_10 l0_10.length c0_10,V I a0_11,O a0_12,V I a0_13] 29 ?_;intro gb1 hg w1 BK1 hb;have GW1:Aside0 (w.heap.size≤gb1):=gE hg;have GE1:=GW1;replace HB:=eB hb;clear hb hg))
  go_ret
  exact⟨rE,uB⟩
 ·rw[if_neg c3]at H
  have c3b0:decide (1048576<(l2.length:Int))=false:=decide_eq_false c3
  have c3b1:decide (1048576<l2.length)=false:=decide_eq_false (by omega)
  clear c3
  obtain⟨t1,A3,H⟩:=bnd H
  by_cases c4:t1<0
  ·rw[if_pos c4]at H
   have c4b0:decide (t1<0)=true:=decide_eq_true c4
   clear c4
   obtain rfl:=Option.some.inj H
   exact laws_FnExactIsReplay.W1
  ·rw[if_neg c4]at H
   have c4b0:decide (t1<0)=false:=decide_eq_false c4
   clear c4
   obtain⟨t2,A4,H⟩:=bnd H
   by_cases c5:t2<0
   ·rw[if_pos c5]at H
    have c5b0:decide (t2<0)=true:=decide_eq_true c5
    clear c5
    obtain rfl:=Option.some.inj H
    exact laws_FnExactIsReplay.W1
   ·rw[if_neg c5]at H
    have c5b0:decide (t2<0)=false:=decide_eq_false c5
    clear c5
    obtain⟨⟨t3,t4,t5,t6,t7,t8,t9,t10,t11,t12,t13,t14,t15,t16⟩,A5,H⟩:=bnd H
    dsimp only at H
    obtain⟨t17,A6,H⟩:=bnd H
    obtain⟨t18,A7,H⟩:=bnd H
    obtain⟨t19,A8,H⟩:=bnd H
    obtain⟨⟨t20,t21,t22,t23,t24,t25,t26,t27,t28,t29,t30,t31,t32,t33⟩,A9,H⟩:=bnd H
    dsimp only at H
    obtain⟨t34,A10,H⟩:=bnd H
    obtain⟨t35,A11,H⟩:=bnd H
    obtain⟨t36,A12,H⟩:=bnd H
    by_cases c6:(t36 !=t19)=true
    ·rw[if_pos c6]at H
     have c6b0:(t36 !=t19)=true:=c6
     (try(have c6b1:decide (t36=t19)=false:=by simpa using c6))
     (try(have c6b2:(t36==t19)=false:=by simpa using c6))
     (try(have c6b3:¬(t36=t19):=by simpa using c6))
     clear c6
     exact absurd (hT.out ▸ H) (by simp)
    ·rw[if_neg c6]at H
     have c6b0:(t36 !=t19)=false:=by simpa using c6
     (try(have c6b1:decide (t36=t19)=true:=by simpa using c6))
     (try(have c6b2:(t36==t19)=true:=by simpa using c6))
     clear c6
     obtain⟨⟨t37,t38,t39,t40,t41,t42,t43,t44,t45,t46,t47,t48,t49,t50⟩,A13,H⟩:=bnd H
     dsimp only at H
     obtain⟨t51,A14,H⟩:=bnd H
     by_cases c7:t51=true
     ·subst c7
      rw[if_pos rfl]at H
      obtain⟨t52,A15,H⟩:=bnd H
      obtain⟨t53,A16,H⟩:=bnd H
      by_cases c8:t53=true
      ·subst c8
       rw[if_pos rfl]at H
       obtain⟨t54,A17,H⟩:=bnd H
       obtain⟨t55,A18,H⟩:=bnd H
       by_cases c9:t55=true
       ·subst c9
        rw[if_pos rfl]at H
        obtain rfl:=Option.some.inj H
        go_enter Try.func7,Try.ntmps7
        try go_wp2_with (first|((with_reducible refine gate_dst (N:=3) rfl ?_);refine Fix.be 3 #[L A0_0 l0_0.length c0_0,V I a0_1,V I a0_2,V I a0_3,O a0_4,V I a0_5,O a0_6,V I a0_7,V I a0_8,L A0_9 l0_9.length c0_9,L A0_10 l0_10.length c0_10,V I a0_11,O a0_12,V I a0_13] 29 ?_;intro gb1 hg w1 BK1 hb;have GW1:Aside0 (w.heap.size≤gb1):=gE hg;have GE1:=GW1;replace HB:=eB hb;clear hb hg;have h_:=d14 BK1.out;(repeat(obtain⟨_,h_⟩:=h_)))|((with_reducible refine F (f:=9) rfl ?_);refine gl 9 (some 18) Try.func9 #[.agg #[L A0_0 l0_0.length c0_0,V I a0_1,V I a0_2,V I a0_3,O a0_4,V I a0_5,O a0_6,V I a0_7,V I a0_8,L A0_9 l0_9.length c0_9,L A0_10 l0_10.length c0_10,V I a0_11,O a0_12,V I a0_13],V I 1048576] ?_;(with_reducible refine(laws_szMachine.calls _ _ l0_0 a0_1 a0_2 a0_3 a0_4 a0_5 a0_6 a0_7 a0_8 _ _ l0_9 _ _ l0_10 a0_11 a0_12 a0_13 1048576 t1 _ ?side1 ?side2 ?side3 ?side4 ?side5 ?side6 A3.out).mono ?_);(case side1=>exact uC (Z HR1_0.out HB.out));(case side2=>exact HC1_0.out);(case side3=>exact uC (Z HR1_9.out HB.out));(case side4=>exact HC1_9.out);(case side5=>exact uC (Z HR1_10.out HB.out));(case side6=>exact HC1_10.out);rintro e w2 ⟨rfl,hb⟩;refine⟨_,rfl,?_⟩;replace BK1:=eK BK1 hb;replace HB:=eB hb;clear hb)|((with_reducible refine F (f:=24) rfl ?_);refine gl 24 (some 23) Try.func24 #[L A1 l1.length c1,V I t1] ?_;(with_reducible refine(laws_szActS.calls _ _ l1 t1 t2 _ ?side1 ?side2 A4.out).mono ?_);(case side1=>exact uC (Z HR2.out HB.out));(case side2=>exact HC2.out);rintro e w' ⟨rfl,⟨nd,rfl⟩⟩;refine⟨_,rfl,?_⟩;(try(rw[drewN_self w2];generalize hq_:World.drewN w2 _=w2;have n0_:Aside0 (w2.heap[gb1]? =some (.cells #[L A0_0 l0_0.length c0_0,V I a0_1,V I a0_2,V I a0_3,O a0_4,V I a0_5,O a0_6,V I a0_7,V I a0_8,L A0_9 l0_9.length c0_9,L A0_10 l0_10.length c0_10,V I a0_11,O a0_12,V I a0_13] 29 (0,0))):=⟨by rw[←hq_];exact(uK BK1.out)⟩;have n1_:Aside0 (Below w.heap.size w w2):=⟨by rw[←hq_];exact uB⟩;clear BK1 HB hq_;have BK1:=n0_;have HB:=n1_;clear n0_ n1_));have h_:=d14 BK1.out;(repeat(obtain⟨_,h_⟩:=h_)))|((with_reducible refine F (f:=11) rfl ?_);refine gl 11 (some 27) Try.func11 #[.agg #[L A0_0 l0_0.length c0_0,V I a0_1,V I a0_2,V I a0_3,O a0_4,V I a0_5,O a0_6,V I a0_7,V I a0_8,L A0_9 l0_9.length c0_9,L A0_10 l0_10.length c0_10,V I a0_11,O a0_12,V I a0_13]] ?_;(with_reducible refine(laws_toMachine.calls k _ _ l0_0 a0_1 a0_2 a0_3 a0_4 a0_5 a0_6 a0_7 a0_8 _ _ l0_9 _ _ l0_10 a0_11 a0_12 a0_13 t3 t4 t5 t6 t7 t8 t9 t10 t11 t12 t13 t14 t15 t16 _ ?side1 ?side2 ?side3 ?side4 ?side5 ?side6 A5.out).mono ?_);(case side1=>exact uC (Z HR1_0.out HB.out));(case side2=>exact HC1_0.out);(case side3=>exact uC (Z HR1_9.out HB.out));(case side4=>exact HC1_9.out);(case side5=>exact uC (Z HR1_10.out HB.out));(case side6=>exact HC1_10.out);rintro e w3 ⟨v1,v2,v3,rfl,ho1,ho2,ho3,hb⟩;refine⟨_,rfl,?_⟩;have HO1:=lR ho1;have HO2:=lR ho2;have HO3:=lR ho3;replace BK1:=eK BK1 hb;replace HB:=eB hb;clear hb ho1 ho2 ho3)|((with_reducible refine F (f:=26) rfl ?_);refine gl 26 (some 29) Try.func26 #[L A1 l1.length c1] ?_;(with_reducible refine(laws_toActS.calls k _ _ l1 t17 _ ?side1 ?side2 A6.out).mono ?_);(case side1=>exact uC (Z HR2.out HB.out));(case side2=>exact HC2.out);rintro e w4 ⟨v4,rfl,ho1,hb⟩;refine⟨_,rfl,?_⟩;have HO4:=lR ho1;replace HO1:=eR HO1 hb;replace HO2:=eR HO2 hb;replace HO3:=eR HO3 hb;replace BK1:=eK BK1 hb;replace HB:=eB hb;clear hb ho1)|((with_reducible refine F (f:=27) rfl ?_);refine gl 27 (some 31) Try.func27 #[L A2 l2.length c2] ?_;(with_reducible refine(laws_toIntS.calls k _ _ l2 t18 _ ?side1 ?side2 A7.out).mono ?_);(case side1=>exact uC (Z HR3.out HB.out));(case side2=>exact HC3.out);rintro e w5 ⟨v5,rfl,ho1,hb⟩;refine⟨_,rfl,?_⟩;have HO5:=C (Kd.R_lower (Kd.R_new' (Kd.R_new' ho1 (Kd.R_lt (uR HO2.out))) (Kd.R_lt (uR HO3.out))) (below_size uB));replace HO1:=eR HO1 hb;replace HO2:=C (Kd.R_elder' (uR HO2.out) (Kd.R_base ho1) hb);replace HO3:=C (Kd.R_elder' (uR HO3.out) (Kd.R_base ho1) hb);replace HO4:=eR HO4 hb;replace BK1:=eK BK1 hb;replace HB:=eB hb;clear hb ho1;obtain⟨Ao1,co1,eo1⟩:=U HO1.out;subst eo1;obtain⟨Ao2,co2,eo2⟩:=U HO2.out;subst eo2;obtain⟨Ao3,co3,eo3⟩:=U HO3.out;subst eo3;obtain⟨Ao4,co4,eo4⟩:=U HO4.out;subst eo4;obtain⟨Ao5,co5,eo5⟩:=U HO5.out;subst eo5)|((with_reducible refine F (f:=25) rfl ?_);refine gl 25 (some 32) Try.func25 #[.agg #[L Ao1 t3.length co1,V I t4,V I t5,V I t6,O t7,V I t8,O t9,V I t10,V I t11,L Ao2 t12.length co2,L Ao3 t13.length co3,V I t14,O t15,V I t16],L Ao4 t17.length co4,L Ao5 t18.length co5] ?_;(with_reducible refine(spec_IsReplay.calls k _ _ t3 t4 t5 t6 t7 t8 t9 t10 t11 _ _ t12 _ _ t13 t14 t15 t16 _ _ t17 _ _ t18 t19 _ ?side1 ?side2 ?side3 ?side4 ?side5 ?side6 ?side7 ?side8 ?side9 ?side10 A8.out).mono ?_);(case side1=>exact uC (Kd.R_reads' HO1.out).2.2);(case side2=>exact(Kd.R_reads' HO1.out).2.1);(case side3=>exact uC (Kd.R_reads' HO2.out).2.2);(case side4=>exact(Kd.R_reads' HO2.out).2.1);(case side5=>exact uC (Kd.R_reads' HO3.out).2.2);(case side6=>exact(Kd.R_reads' HO3.out).2.1);(case side7=>exact uC (Kd.R_reads' HO4.out).2.2);(case side8=>exact(Kd.R_reads' HO4.out).2.1);(case side9=>exact uC (Kd.R_reads' HO5.out).2.2);(case side10=>exact(Kd.R_reads' HO5.out).2.1);rintro e w6 ⟨rfl,hb⟩;refine⟨_,rfl,?_⟩;replace HO1:=eR HO1 hb;replace HO2:=eR HO2 hb;replace HO3:=eR HO3 hb;replace HO4:=eR HO4 hb;replace HO5:=eR HO5 hb;replace BK1:=eK BK1 hb;replace HB:=eB hb;clear hb;have h_:=d14 BK1.out;(repeat(obtain⟨_,h_⟩:=h_)))|((with_reducible refine F (f:=11) rfl ?_);refine gl 11 (some 34) Try.func11 #[.agg #[L A0_0 l0_0.length c0_0,V I a0_1,V I a0_2,V I a0_3,O a0_4,V I a0_5,O a0_6,V I a0_7,V I a0_8,L A0_9 l0_9.length c0_9,L A0_10 l0_10.length c0_10,V I a0_11,O a0_12,V I a0_13]] ?_;(with_reducible refine(laws_toMachine.calls k _ _ l0_0 a0_1 a0_2 a0_3 a0_4 a0_5 a0_6 a0_7 a0_8 _ _ l0_9 _ _ l0_10 a0_11 a0_12 a0_13 t20 t21 t22 t23 t24 t25 t26 t27 t28 t29 t30 t31 t32 t33 _ ?side1 ?side2 ?side3 ?side4 ?side5 ?side6 A9.out).mono ?_);(case side1=>exact uC (Z HR1_0.out HB.out));(case side2=>exact HC1_0.out);(case side3=>exact uC (Z HR1_9.out HB.out));(case side4=>exact HC1_9.out);(case side5=>exact uC (Z HR1_10.out HB.out));(case side6=>exact HC1_10.out);rintro e w7 ⟨v6,v7,v8,rfl,ho1,ho2,ho3,hb⟩;refine⟨_,rfl,?_⟩;have HO6:=C (Kd.R_lower (Kd.R_new' ho1 (Kd.R_lt (uR HO1.out))) (below_size uB));have HO7:=C (Kd.R_lower (Kd.R_new' (Kd.R_new' (Kd.R_new' ho2 (Kd.R_lt (uR HO2.out))) (Kd.R_lt (uR HO3.out))) (Kd.R_lt (uR HO5.out))) (below_size uB));have HO8:=C (Kd.R_lower (Kd.R_new' (Kd.R_new' (Kd.R_new' ho3 (Kd.R_lt (uR HO2.out))) (Kd.R_lt (uR HO3.out))) (Kd.R_lt (uR HO5.out))) (below_size uB));replace HO1:=C (Kd.R_elder' (uR HO1.out) (Kd.R_base ho1) hb);replace HO2:=C (X (Kd.R_told (Kd.R_told (Kd.R_old (uR HO2.out) hb) (Kd.R_base ho2)) (Kd.R_base ho3)) (fun _ h_=>h_.1));replace HO3:=C (X (Kd.R_told (Kd.R_told (Kd.R_old (uR HO3.out) hb) (Kd.R_base ho2)) (Kd.R_base ho3)) (fun _ h_=>h_.1));replace HO4:=eR HO4 hb;replace HO5:=C (X (Kd.R_told (Kd.R_told (Kd.R_old (uR HO5.out) hb) (Kd.R_base ho2)) (Kd.R_base ho3)) (fun _ h_=>h_.1));replace BK1:=eK BK1 hb;replace HB:=eB hb;clear hb ho1 ho2 ho3)|((with_reducible refine gate_dst (N:=9) rfl ?_);refine Fix.be 9 #[L none 0 0,V I 0,V I 0,V I 0,O false,V I 0,O false,V I 0,V I 0,L none 0 0,L none 0 0,V I 0,O false,V I 0] 36 ?_;intro gb2 hg w8 BK2 hb;have GW2:Aside0 (w.heap.size≤gb2):=gE hg;have GE2:=GW2;have NB1_1026:=nL hg BK1;have NB2_976:=nG hg BK1;replace HO1:=eR HO1 hb;replace HO2:=eR HO2 hb;replace HO3:=eR HO3 hb;replace HO4:=eR HO4 hb;replace HO5:=eR HO5 hb;replace HO6:=eR HO6 hb;replace HO7:=eR HO7 hb;replace HO8:=eR HO8 hb;replace BK1:=eK BK1 hb;replace HB:=eB hb;clear hb hg;obtain⟨Ao6,co6,eo6⟩:=U HO6.out;subst eo6;have hnb1:=NB2_976.out;have hnc1:=NB1_1026.out;have h_:=d14 BK2.out;(repeat(obtain⟨_,h_⟩:=h_));obtain⟨Ao7,co7,eo7⟩:=U HO7.out;subst eo7;obtain⟨Ao8,co8,eo8⟩:=U HO8.out;subst eo8)|((with_reducible refine F (f:=26) rfl ?_);refine gl 26 (some 36) Try.func26 #[L A1 l1.length c1] ?_;(with_reducible refine(laws_toActS.calls k _ _ l1 t34 _ ?side1 ?side2 A10.out).mono ?_);(case side1=>exact Z HR2.out uB);(case side2=>exact HC2.out);rintro e w9 ⟨v9,rfl,ho1,hb⟩;refine⟨_,rfl,?_⟩;have HO9:=C (Kd.R_lower (Kd.R_new' ho1 (Kd.R_lt (X (fR (Kd.R_types HO4.out BK2.out (by decide))) (fun _ h_=>h_.1)))) (below_size uB));replace HO1:=C (Kd.R_below (X (fR (Kd.R_types HO1.out BK2.out (by decide))) (fun _ h_=>h_.1)) hb);replace HO2:=C (Kd.R_below (X (fR (Kd.R_types HO2.out BK2.out (by decide))) (fun _ h_=>h_.1)) hb);replace HO3:=C (Kd.R_below (X (fR (Kd.R_types HO3.out BK2.out (by decide))) (fun _ h_=>h_.1)) hb);replace HO4:=C (Kd.R_elder' (X (fR (Kd.R_types HO4.out BK2.out (by decide))) (fun _ h_=>h_.1)) (Kd.R_base ho1) hb);replace HO5:=C (Kd.R_below (X (fR (Kd.R_types HO5.out BK2.out (by decide))) (fun _ h_=>h_.1)) hb);replace HO6:=C (Kd.R_below (X (fR (Kd.R_types HO6.out BK2.out (by decide))) (fun _ h_=>h_.1)) hb);replace HO7:=C (Kd.R_below (X (fR (Kd.R_types HO7.out BK2.out (by decide))) (fun _ h_=>h_.1)) hb);replace HO8:=C (Kd.R_below (X (fR (Kd.R_types HO8.out BK2.out (by decide))) (fun _ h_=>h_.1)) hb);replace BK1:=eK BK1 hb;replace BK2:=C (blk_below (g:=gb2) (o:=.cells #[L Ao6 t20.length co6,V I t21,V I t22,V I t23,O t24,V I t25,O t26,V I t27,V I t28,L Ao7 t29.length co7,L Ao8 t30.length co8,V I t31,O t32,V I t33] 36 (0,0)) (bK BK2.out) hb);replace HB:=eB hb;clear hb ho1)|((with_reducible refine F (f:=27) rfl ?_);refine gl 27 (some 38) Try.func27 #[L A2 l2.length c2] ?_;(with_reducible refine(laws_toIntS.calls k _ _ l2 t35 _ ?side1 ?side2 A11.out).mono ?_);(case side1=>exact uC (Z HR3.out HB.out));(case side2=>exact HC3.out);rintro e w10 ⟨v10,rfl,ho1,hb⟩;refine⟨_,rfl,?_⟩;have HO10:=C (Kd.R_lower (Kd.R_new' (Kd.R_new' (Kd.R_new' (Kd.R_new' (Kd.R_new' ho1 (Kd.R_lt (uR HO2.out))) (Kd.R_lt (uR HO3.out))) (Kd.R_lt (uR HO5.out))) (Kd.R_lt (uR HO7.out))) (Kd.R_lt (uR HO8.out))) (below_size uB));replace HO1:=eR HO1 hb;replace HO2:=C (Kd.R_elder' (uR HO2.out) (Kd.R_base ho1) hb);replace HO3:=C (Kd.R_elder' (uR HO3.out) (Kd.R_base ho1) hb);replace HO4:=eR HO4 hb;replace HO5:=C (Kd.R_elder' (uR HO5.out) (Kd.R_base ho1) hb);replace HO6:=eR HO6 hb;replace HO7:=C (Kd.R_elder' (uR HO7.out) (Kd.R_base ho1) hb);replace HO8:=C (Kd.R_elder' (uR HO8.out) (Kd.R_base ho1) hb);replace HO9:=eR HO9 hb;replace BK1:=eK BK1 hb;replace BK2:=eK BK2 hb;replace HB:=eB hb;clear hb ho1;have h_:=d14 BK2.out;(repeat(obtain⟨_,h_⟩:=h_));obtain⟨Ao9,co9,eo9⟩:=U HO9.out;subst eo9;obtain⟨Ao10,co10,eo10⟩:=U HO10.out;subst eo10)|((with_reducible refine F (f:=17) rfl ?_);refine gl 17 (some 42) Try.func17 #[.agg #[L Ao6 t20.length co6,V I t21,V I t22,V I t23,O t24,V I t25,O t26,V I t27,V I t28,L Ao7 t29.length co7,L Ao8 t30.length co8,V I t31,O t32,V I t33],L Ao9 t34.length co9,L Ao10 t35.length co10] ?_;(with_reducible refine(impl_IsReplay.calls k _ _ t20 t21 t22 t23 t24 t25 t26 t27 t28 _ _ t29 _ _ t30 t31 t32 t33 _ _ t34 _ _ t35 t36 _ ?side1 ?side2 ?side3 ?side4 ?side5 ?side6 ?side7 ?side8 ?side9 ?side10 A12.out).mono ?_);(case side1=>exact uC (Kd.R_reads' HO6.out).2.2);(case side2=>exact(Kd.R_reads' HO6.out).2.1);(case side3=>exact uC (Kd.R_reads' HO7.out).2.2);(case side4=>exact(Kd.R_reads' HO7.out).2.1);(case side5=>exact uC (Kd.R_reads' HO8.out).2.2);(case side6=>exact(Kd.R_reads' HO8.out).2.1);(case side7=>exact uC (Kd.R_reads' HO9.out).2.2);(case side8=>exact(Kd.R_reads' HO9.out).2.1);(case side9=>exact uC (Kd.R_reads' HO10.out).2.2);(case side10=>exact(Kd.R_reads' HO10.out).2.1);rintro e w11 ⟨rfl,hb⟩;refine⟨_,rfl,?_⟩;replace HO1:=eR HO1 hb;replace HO2:=eR HO2 hb;replace HO3:=eR HO3 hb;replace HO4:=eR HO4 hb;replace HO5:=eR HO5 hb;replace HO6:=eR HO6 hb;replace HO7:=eR HO7 hb;replace HO8:=eR HO8 hb;replace HO9:=eR HO9 hb;replace HO10:=eR HO10 hb;replace BK1:=eK BK1 hb;replace BK2:=eK BK2 hb;replace HB:=eB hb;clear hb))
        replace HO1:=dR HO1
        replace HO2:=dR HO2
        replace HO3:=dR HO3
        replace HO4:=dR HO4
        replace HO5:=dR HO5
        replace HO6:=dR HO6
        replace HO7:=dR HO7
        replace HO8:=dR HO8
        replace HO9:=dR HO9
        replace HO10:=dR HO10
        replace BK1:=dK BK1
        replace BK2:=dK BK2
        replace HB:=dB HB
        refine start_ (n:=5) (S:=fun w'=>cr14 w' gb2 (L Ao6 t20.length co6) (V I t21) (V I t22) (V I t23) (O t24) (V I t25) (O t26) (V I t27) (V I t28) (L Ao7 t29.length co7) (L Ao8 t30.length co8) (V I t31) (O t32) (V I t33) (cl14 w' gb1 (L A0_0 l0_0.length c0_0) (V I a0_1) (V I a0_2) (V I a0_3) (O a0_4) (V I a0_5) (O a0_6) (V I a0_7) (V I a0_8) (L A0_9 l0_9.length c0_9) (L A0_10 l0_10.length c0_10) (V I a0_11) (O a0_12) (V I a0_13))) (ds:= []) #[false,false,false,false,false] (by kernel_rfl) rfl rfl hh (fun hHeld=> ?_)
        generalize w11.drew=w12 at HO1 HO2 HO3 HO4 HO5 HO6 HO7 HO8 HO9 HO10 BK1 BK2 HB hHeld ⊢
        refine tu 0 (some 46) hHeld ?_
        refine tu 1 (some 47) hHeld ?_
        refine ou 2 (some 48) (fun K hK=> ?_)
        refine gs Try.func11 #[.agg #[L A0_0 l0_0.length c0_0,V I a0_1,V I a0_2,V I a0_3,O a0_4,V I a0_5,O a0_6,V I a0_7,V I a0_8,L A0_9 l0_9.length c0_9,L A0_10 l0_10.length c0_10,V I a0_11,O a0_12,V I a0_13]] ?_
        with_reducible refine(laws_toMachine.calls k _ _ l0_0 a0_1 a0_2 a0_3 a0_4 a0_5 a0_6 a0_7 a0_8 _ _ l0_9 _ _ l0_10 a0_11 a0_12 a0_13 t37 t38 t39 t40 t41 t42 t43 t44 t45 t46 t47 t48 t49 t50 _ ?side1 ?side2 ?side3 ?side4 ?side5 ?side6 A13.out).mono ?_
        (case side1=>exact uC (Z HR1_0.out HB.out))
        (case side2=>exact HC1_0.out)
        (case side3=>exact uC (Z HR1_9.out HB.out))
        (case side4=>exact HC1_9.out)
        (case side5=>exact uC (Z HR1_10.out HB.out))
        (case side6=>exact HC1_10.out)
        rintro e w13 ⟨v11,v12,v13,rfl,ho1,ho2,ho3,hb⟩
        refine⟨_,rfl,?_⟩
        have HO11:=C (Kd.R_lower (Kd.R_new' (Kd.R_new' ho1 (Kd.R_lt (uR HO1.out))) (Kd.R_lt (uR HO6.out))) (below_size uB))
        have HO12:=C (Kd.R_lower (Kd.R_new' (Kd.R_new' (Kd.R_new' (Kd.R_new' (Kd.R_new' (Kd.R_new' ho2 (Kd.R_lt (uR HO2.out))) (Kd.R_lt (uR HO3.out))) (Kd.R_lt (uR HO5.out))) (Kd.R_lt (uR HO7.out))) (Kd.R_lt (uR HO8.out))) (Kd.R_lt (uR HO10.out))) (below_size uB))
        have HO13:=C (Kd.R_lower (Kd.R_new' (Kd.R_new' (Kd.R_new' (Kd.R_new' (Kd.R_new' (Kd.R_new' ho3 (Kd.R_lt (uR HO2.out))) (Kd.R_lt (uR HO3.out))) (Kd.R_lt (uR HO5.out))) (Kd.R_lt (uR HO7.out))) (Kd.R_lt (uR HO8.out))) (Kd.R_lt (uR HO10.out))) (below_size uB))
        replace HO1:=C (Kd.R_elder' (uR HO1.out) (Kd.R_base ho1) hb)
        replace HO2:=C (X (Kd.R_told (Kd.R_told (Kd.R_old (uR HO2.out) hb) (Kd.R_base ho2)) (Kd.R_base ho3)) (fun _ h_=>h_.1))
        replace HO3:=C (X (Kd.R_told (Kd.R_told (Kd.R_old (uR HO3.out) hb) (Kd.R_base ho2)) (Kd.R_base ho3)) (fun _ h_=>h_.1))
        replace HO4:=eR HO4 hb
        replace HO5:=C (X (Kd.R_told (Kd.R_told (Kd.R_old (uR HO5.out) hb) (Kd.R_base ho2)) (Kd.R_base ho3)) (fun _ h_=>h_.1))
        replace HO6:=C (Kd.R_elder' (uR HO6.out) (Kd.R_base ho1) hb)
        replace HO7:=C (X (Kd.R_told (Kd.R_told (Kd.R_old (uR HO7.out) hb) (Kd.R_base ho2)) (Kd.R_base ho3)) (fun _ h_=>h_.1))
        replace HO8:=C (X (Kd.R_told (Kd.R_told (Kd.R_old (uR HO8.out) hb) (Kd.R_base ho2)) (Kd.R_base ho3)) (fun _ h_=>h_.1))
        replace HO9:=eR HO9 hb
        replace HO10:=C (X (Kd.R_told (Kd.R_told (Kd.R_old (uR HO10.out) hb) (Kd.R_base ho2)) (Kd.R_base ho3)) (fun _ h_=>h_.1))
        replace BK1:=eK BK1 hb
        replace BK2:=eK BK2 hb
        replace HB:=eB hb
        (try clear hb)
        obtain⟨Ao11,co11,eo11⟩:=U HO11.out
        (first|subst eo11|(injection eo11 with f1_ f2_ f3_;have f4_:=f1_.symm;have f5_:=f3_.symm;clear f1_ f2_ f3_;subst f4_;subst f5_))
        obtain⟨Ao12,co12,eo12⟩:=U HO12.out
        (first|subst eo12|(injection eo12 with f1_ f2_ f3_;have f4_:=f1_.symm;have f5_:=f3_.symm;clear f1_ f2_ f3_;subst f4_;subst f5_))
        obtain⟨Ao13,co13,eo13⟩:=U HO13.out
        (first|subst eo13|(injection eo13 with f1_ f2_ f3_;have f4_:=f1_.symm;have f5_:=f3_.symm;clear f1_ f2_ f3_;subst f4_;subst f5_))
        refine hK.out _ _ hh (fun hHeld=> ?_)
        clear hK K
        refine nu (N:=(some 48)) ?_
        refine ou 3 (some 49) (fun K hK=> ?_)
        refine gs Try.func13 #[.agg #[L Ao6 t20.length co6,V I t21,V I t22,V I t23,O t24,V I t25,O t26,V I t27,V I t28,L Ao7 t29.length co7,L Ao8 t30.length co8,V I t31,O t32,V I t33],.agg #[L Ao11 t37.length co11,V I t38,V I t39,V I t40,O t41,V I t42,O t43,V I t44,V I t45,L Ao12 t46.length co12,L Ao13 t47.length co13,V I t48,O t49,V I t50]] ?_
        with_reducible refine(laws_eqMachine.calls k _ _ t20 t21 t22 t23 t24 t25 t26 t27 t28 _ _ t29 _ _ t30 t31 t32 t33 _ _ t37 t38 t39 t40 t41 t42 t43 t44 t45 _ _ t46 _ _ t47 t48 t49 t50 true _ ?side1 ?side2 ?side3 ?side4 ?side5 ?side6 ?side7 ?side8 ?side9 ?side10 ?side11 ?side12 A14.out).mono ?_
        (case side1=>exact uC (Kd.R_reads' HO6.out).2.2)
        (case side2=>exact(Kd.R_reads' HO6.out).2.1)
        (case side3=>exact uC (Kd.R_reads' HO7.out).2.2)
        (case side4=>exact(Kd.R_reads' HO7.out).2.1)
        (case side5=>exact uC (Kd.R_reads' HO8.out).2.2)
        (case side6=>exact(Kd.R_reads' HO8.out).2.1)
        (case side7=>exact uC (Kd.R_reads' HO11.out).2.2)
        (case side8=>exact(Kd.R_reads' HO11.out).2.1)
        (case side9=>exact uC (Kd.R_reads' HO12.out).2.2)
        (case side10=>exact(Kd.R_reads' HO12.out).2.1)
        (case side11=>exact uC (Kd.R_reads' HO13.out).2.2)
        (case side12=>exact(Kd.R_reads' HO13.out).2.1)
        rintro e w14 ⟨rfl,hb⟩
        refine⟨_,rfl,?_⟩
        replace HO1:=eR HO1 hb
        replace HO2:=eR HO2 hb
        replace HO3:=eR HO3 hb
        replace HO4:=eR HO4 hb
        replace HO5:=eR HO5 hb
        replace HO6:=eR HO6 hb
        replace HO7:=eR HO7 hb
        replace HO8:=eR HO8 hb
        replace HO9:=eR HO9 hb
        replace HO10:=eR HO10 hb
        replace HO11:=eR HO11 hb
        replace HO12:=eR HO12 hb
        replace HO13:=eR HO13 hb
        replace BK1:=eK BK1 hb
        replace BK2:=eK BK2 hb
        replace HB:=eB hb
        (try clear hb)
        refine hK.out _ _ hh (fun hHeld=> ?_)
        clear hK K
        refine nu (N:=(some 49)) ?_
        refine pu 4 (some 50) ?_
        refine done_ (by kernel_rfl) ?_
        try go_wp2_with (first|((with_reducible refine F (f:=26) rfl ?_);refine gl 26 (some 53) Try.func26 #[L A1 l1.length c1] ?_;(with_reducible refine(laws_toActS.calls k _ _ l1 t52 _ ?side1 ?side2 A15.out).mono ?_);(case side1=>exact uC (Z HR2.out HB.out));(case side2=>exact HC2.out);rintro e w15 ⟨v14,rfl,ho1,hb⟩;refine⟨_,rfl,?_⟩;have HO14:=C (Kd.R_lower (Kd.R_new' (Kd.R_new' ho1 (Kd.R_lt (uR HO4.out))) (Kd.R_lt (uR HO9.out))) (below_size uB));replace HO1:=eR HO1 hb;replace HO2:=eR HO2 hb;replace HO3:=eR HO3 hb;replace HO4:=C (Kd.R_elder' (uR HO4.out) (Kd.R_base ho1) hb);replace HO5:=eR HO5 hb;replace HO6:=eR HO6 hb;replace HO7:=eR HO7 hb;replace HO8:=eR HO8 hb;replace HO9:=C (Kd.R_elder' (uR HO9.out) (Kd.R_base ho1) hb);replace HO10:=eR HO10 hb;replace HO11:=eR HO11 hb;replace HO12:=eR HO12 hb;replace HO13:=eR HO13 hb;replace BK1:=eK BK1 hb;replace BK2:=eK BK2 hb;replace HB:=eB hb;clear hb ho1;obtain⟨Ao14,co14,eo14⟩:=U HO14.out;subst eo14)|((with_reducible refine F (f:=28) rfl ?_);refine gl 28 (some 54) Try.func28 #[L Ao9 t34.length co9,L Ao14 t52.length co14] ?_;(with_reducible refine(laws_eqActS.calls k _ _ t34 _ _ t52 true _ ?side1 ?side2 ?side3 ?side4 A16.out).mono ?_);(case side1=>exact uC (Kd.R_reads' HO9.out).2.2);(case side2=>exact(Kd.R_reads' HO9.out).2.1);(case side3=>exact uC (Kd.R_reads' HO14.out).2.2);(case side4=>exact(Kd.R_reads' HO14.out).2.1);rintro e w16 ⟨rfl,hb⟩;refine⟨_,rfl,?_⟩;replace HO1:=eR HO1 hb;replace HO2:=eR HO2 hb;replace HO3:=eR HO3 hb;replace HO4:=eR HO4 hb;replace HO5:=eR HO5 hb;replace HO6:=eR HO6 hb;replace HO7:=eR HO7 hb;replace HO8:=eR HO8 hb;replace HO9:=eR HO9 hb;replace HO10:=eR HO10 hb;replace HO11:=eR HO11 hb;replace HO12:=eR HO12 hb;replace HO13:=eR HO13 hb;replace HO14:=eR HO14 hb;replace BK1:=eK BK1 hb;replace BK2:=eK BK2 hb;replace HB:=eB hb;clear hb)|((with_reducible refine F (f:=27) rfl ?_);refine gl 27 (some 58) Try.func27 #[L A2 l2.length c2] ?_;(with_reducible refine(laws_toIntS.calls k _ _ l2 t54 _ ?side1 ?side2 A17.out).mono ?_);(case side1=>exact uC (Z HR3.out HB.out));(case side2=>exact HC3.out);rintro e w17 ⟨v15,rfl,ho1,hb⟩;refine⟨_,rfl,?_⟩;have HO15:=C (Kd.R_lower (Kd.R_new' (Kd.R_new' (Kd.R_new' (Kd.R_new' (Kd.R_new' (Kd.R_new' (Kd.R_new' (Kd.R_new' ho1 (Kd.R_lt (uR HO2.out))) (Kd.R_lt (uR HO3.out))) (Kd.R_lt (uR HO5.out))) (Kd.R_lt (uR HO7.out))) (Kd.R_lt (uR HO8.out))) (Kd.R_lt (uR HO10.out))) (Kd.R_lt (uR HO12.out))) (Kd.R_lt (uR HO13.out))) (below_size uB));replace HO1:=eR HO1 hb;replace HO2:=C (Kd.R_elder' (uR HO2.out) (Kd.R_base ho1) hb);replace HO3:=C (Kd.R_elder' (uR HO3.out) (Kd.R_base ho1) hb);replace HO4:=eR HO4 hb;replace HO5:=C (Kd.R_elder' (uR HO5.out) (Kd.R_base ho1) hb);replace HO6:=eR HO6 hb;replace HO7:=C (Kd.R_elder' (uR HO7.out) (Kd.R_base ho1) hb);replace HO8:=C (Kd.R_elder' (uR HO8.out) (Kd.R_base ho1) hb);replace HO9:=eR HO9 hb;replace HO10:=C (Kd.R_elder' (uR HO10.out) (Kd.R_base ho1) hb);replace HO11:=eR HO11 hb;replace HO12:=C (Kd.R_elder' (uR HO12.out) (Kd.R_base ho1) hb);replace HO13:=C (Kd.R_elder' (uR HO13.out) (Kd.R_base ho1) hb);replace HO14:=eR HO14 hb;replace BK1:=eK BK1 hb;replace BK2:=eK BK2 hb;replace HB:=eB hb;clear hb ho1;obtain⟨Ao15,co15,eo15⟩:=U HO15.out;subst eo15)|((with_reducible refine F (f:=29) rfl ?_);refine gl 29 (some 59) Try.func29 #[L Ao10 t35.length co10,L Ao15 t54.length co15] ?_;(with_reducible refine(laws_eqIntS.calls k _ _ t35 _ _ t54 true _ ?side1 ?side2 ?side3 ?side4 A18.out).mono ?_);(case side1=>exact uC (Kd.R_reads' HO10.out).2.2);(case side2=>exact(Kd.R_reads' HO10.out).2.1);(case side3=>exact uC (Kd.R_reads' HO15.out).2.2);(case side4=>exact(Kd.R_reads' HO15.out).2.1);rintro e w' ⟨rfl,⟨nd,rfl⟩⟩;refine⟨_,rfl,?_⟩))
        go_ret
        exact⟨rE,uB⟩
       ·replace c9:=Bool.eq_false_iff.mpr c9
        subst c9
        rw[if_neg Bool.false_ne_true]at H
        exact absurd (hT.out ▸ H) (by simp)
      ·replace c8:=Bool.eq_false_iff.mpr c8
       subst c8
       rw[if_neg Bool.false_ne_true]at H
       exact absurd (hT.out ▸ H) (by simp)
     ·replace c7:=Bool.eq_false_iff.mpr c7
      subst c7
      rw[if_neg Bool.false_ne_true]at H
      exact absurd (hT.out ▸ H) (by simp)
end Go.Proofs.Ytblceimapaenlaa.PFnExactIsReplay
