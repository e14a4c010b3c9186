/- FnExactFormatMachine: the functions that the law reaches, each as a plain Lean function, and that a call does what it says. Made by a program of this work (wip/mp.py) out of the kit's print. No condition. -/
import Derived.Test.YtblceimapaenlaaDoorQFnExactFormatMachine0
import Derived.Test.YtblceimapaenlaaDoorQFnExactFormatMachine3
import Derived.Test.YtblceimapaenlaaDoorQFnExactFormatMachine5
import Derived.Test.YtblceimapaenlaaDoorQFnExactFormatMachine6
import Derived.Test.YtblceimapaenlaaDoorQFnExactFormatMachine7
namespace Go.Proofs.YtblceimapaenlaaDoor.PFnExactFormatMachine
open Go.RowKit Go.Proofs.YtblceimapaenlaaDoorW.PrintWords Go.Proofs.YtblceimapaenlaaDoorW.PrintLast Go.Proofs.YtblceimapaenlaaDoorW.PrintMore
open Fix (bK bnd cl14 cr14 d14 dB dK dR eB eK eQ eR fQ fR gE gl gs hh lR nG nL nu oL ou pu rE rS tR tu uB uC uK uQ uR wB wK)
open Go.Value renaming int→V,slice→L,bool→O,agg→G
open Go.IntKind renaming i64→I
open Go.Proofs.YtblceimapaenlaaDoorW.PrintWords.Aside0 renaming mk→C
open Go.Proofs.YtblceimapaenlaaDoorW.PrintWords renaming Aside0→D,gate_callee→F
open Go.Proofs.YtblceimapaenlaaDoorW.PrintWords.Kd renaming R_mono→X,C_below→Z,R_slice→U
attribute [local go_sem] max2_int min2_int max_two min_two max_three min_three max_four min_four
attribute [local go_sem] Fix.isSome_setCell
set_option linter.unusedVariables false
set_option linter.unusedSimpArgs false
def laws_FnExactFormatMachine.j0:Nat→List ByteArray→List ByteArray→Bool→List (S52)→Int→Int→Int→Bool→Int→Bool→Int→Int→List Int→List Int→Int→Bool→Int→Option (Bool)
 |0,_,_,_,_,_,_,_,_,_,_,_,_,_,_,_,_,_=>none
 |k+1,x4,x6,x42,x334000,x334001,x334002,x334003,x334004,x334005,x334006,x334007,x334008,x334009,x334010,x334011,x334012,x334013=>if x42=true then(some false) else((laws_markStringS.f k x6 1).bind fun bt409=>((laws_heldStringS.f k bt409.2 1).bind fun t411=>(if t411<0 then(some false) else(if t411=bt409.1 then((laws_toMachine.f k x334000 x334001 x334002 x334003 x334004 x334005 x334006 x334007 x334008 x334009 x334010 x334011 x334012 x334013).bind fun bt412=>((impl_FormatMachine.f k bt412.1 bt412.2.1 bt412.2.2.1 bt412.2.2.2.1 bt412.2.2.2.2.1 bt412.2.2.2.2.2.1 bt412.2.2.2.2.2.2.1 bt412.2.2.2.2.2.2.2.1 bt412.2.2.2.2.2.2.2.2.1 bt412.2.2.2.2.2.2.2.2.2.1 bt412.2.2.2.2.2.2.2.2.2.2.1 bt412.2.2.2.2.2.2.2.2.2.2.2.1 bt412.2.2.2.2.2.2.2.2.2.2.2.2.1 bt412.2.2.2.2.2.2.2.2.2.2.2.2.2).bind fun t432=>((laws_eqStringS.f k t432 x4).bind fun t435=>(if t435=true then((laws_heldStringS.f k bt409.2 1).bind fun t436=>(if t436<0 then(some false) else(if t436=bt409.1 then(some true) else(some false)))) else(some false))))) else(some false)))))
def laws_FnExactFormatMachine.f (k:Nat) (l0_0:List (S52)) (a0_1:Int) (a0_2:Int) (a0_3:Int) (a0_4:Bool) (a0_5:Int) (a0_6:Bool) (a0_7:Int) (a0_8:Int) (l0_9:List Int) (l0_10:List Int) (a0_11:Int) (a0_12:Bool) (a0_13:Int):Option (Bool):=(laws_szMachine.f l0_0 a0_1 a0_2 a0_3 a0_4 a0_5 a0_6 a0_7 a0_8 l0_9 l0_10 a0_11 a0_12 a0_13 1048576).bind fun t334=>(if t334<0 then(some true) else((laws_toMachine.f k l0_0 a0_1 a0_2 a0_3 a0_4 a0_5 a0_6 a0_7 a0_8 l0_9 l0_10 a0_11 a0_12 a0_13).bind fun bt335=>((spec_FormatMachine.f k bt335.1 bt335.2.1 bt335.2.2.1 bt335.2.2.2.1 bt335.2.2.2.2.1 bt335.2.2.2.2.2.1 bt335.2.2.2.2.2.2.1 bt335.2.2.2.2.2.2.2.1 bt335.2.2.2.2.2.2.2.2.1 bt335.2.2.2.2.2.2.2.2.2.1 bt335.2.2.2.2.2.2.2.2.2.2.1 bt335.2.2.2.2.2.2.2.2.2.2.2.1 bt335.2.2.2.2.2.2.2.2.2.2.2.2.1 bt335.2.2.2.2.2.2.2.2.2.2.2.2.2).bind fun t355=>((laws_toMachine.f k l0_0 a0_1 a0_2 a0_3 a0_4 a0_5 a0_6 a0_7 a0_8 l0_9 l0_10 a0_11 a0_12 a0_13).bind fun bt358=>((impl_FormatMachine.f k bt358.1 bt358.2.1 bt358.2.2.1 bt358.2.2.2.1 bt358.2.2.2.2.1 bt358.2.2.2.2.2.1 bt358.2.2.2.2.2.2.1 bt358.2.2.2.2.2.2.2.1 bt358.2.2.2.2.2.2.2.2.1 bt358.2.2.2.2.2.2.2.2.2.1 bt358.2.2.2.2.2.2.2.2.2.2.1 bt358.2.2.2.2.2.2.2.2.2.2.2.1 bt358.2.2.2.2.2.2.2.2.2.2.2.2.1 bt358.2.2.2.2.2.2.2.2.2.2.2.2.2).bind fun t379=>((laws_eqStringS.f k t379 t355).bind fun t382=>(if t382=true then((laws_toMachine.f k l0_0 a0_1 a0_2 a0_3 a0_4 a0_5 a0_6 a0_7 a0_8 l0_9 l0_10 a0_11 a0_12 a0_13).bind fun bt383=>((laws_eqMachine.f k bt358.1 bt358.2.1 bt358.2.2.1 bt358.2.2.2.1 bt358.2.2.2.2.1 bt358.2.2.2.2.2.1 bt358.2.2.2.2.2.2.1 bt358.2.2.2.2.2.2.2.1 bt358.2.2.2.2.2.2.2.2.1 bt358.2.2.2.2.2.2.2.2.2.1 bt358.2.2.2.2.2.2.2.2.2.2.1 bt358.2.2.2.2.2.2.2.2.2.2.2.1 bt358.2.2.2.2.2.2.2.2.2.2.2.2.1 bt358.2.2.2.2.2.2.2.2.2.2.2.2.2 bt383.1 bt383.2.1 bt383.2.2.1 bt383.2.2.2.1 bt383.2.2.2.2.1 bt383.2.2.2.2.2.1 bt383.2.2.2.2.2.2.1 bt383.2.2.2.2.2.2.2.1 bt383.2.2.2.2.2.2.2.2.1 bt383.2.2.2.2.2.2.2.2.2.1 bt383.2.2.2.2.2.2.2.2.2.2.1 bt383.2.2.2.2.2.2.2.2.2.2.2.1 bt383.2.2.2.2.2.2.2.2.2.2.2.2.1 bt383.2.2.2.2.2.2.2.2.2.2.2.2.2).bind fun t403=>(if t403=true then((laws_markMachine.f k bt358.1 bt358.2.1 bt358.2.2.1 bt358.2.2.2.1 bt358.2.2.2.2.1 bt358.2.2.2.2.2.1 bt358.2.2.2.2.2.2.1 bt358.2.2.2.2.2.2.2.1 bt358.2.2.2.2.2.2.2.2.1 bt358.2.2.2.2.2.2.2.2.2.1 bt358.2.2.2.2.2.2.2.2.2.2.1 bt358.2.2.2.2.2.2.2.2.2.2.2.1 bt358.2.2.2.2.2.2.2.2.2.2.2.2.1 bt358.2.2.2.2.2.2.2.2.2.2.2.2.2 1).bind fun bt404=>(if bt404.1<0 then(laws_FnExactFormatMachine.j0 k t355 t379 true l0_0 a0_1 a0_2 a0_3 a0_4 a0_5 a0_6 a0_7 a0_8 l0_9 l0_10 a0_11 a0_12 a0_13) else((laws_eqStringS.f k t379 t355).bind fun t408=>(laws_FnExactFormatMachine.j0 k t355 t379 (!t408) l0_0 a0_1 a0_2 a0_3 a0_4 a0_5 a0_6 a0_7 a0_8 l0_9 l0_10 a0_11 a0_12 a0_13)))) else(some false)))) else(some false))))))))
theorem laws_FnExactFormatMachine.mono_l:∀k,(∀y0 y1 y2 y3 y4 y5 y6 y7 y8 y9 y10 y11 y12 y13 y14 y15 y16,LeO (laws_FnExactFormatMachine.j0 k y0 y1 y2 y3 y4 y5 y6 y7 y8 y9 y10 y11 y12 y13 y14 y15 y16) (laws_FnExactFormatMachine.j0 (k+1) y0 y1 y2 y3 y4 y5 y6 y7 y8 y9 y10 y11 y12 y13 y14 y15 y16))
 |0=>fun _ _ _ _ _ _ _ _ _ _ _ _ _ _ _ _ _ r h=>by simp[laws_FnExactFormatMachine.j0]at h
 |k+1=>by
  have ih0:=laws_FnExactFormatMachine.mono_l k
  ·intro y0 y1 y2 y3 y4 y5 y6 y7 y8 y9 y10 y11 y12 y13 y14 y15 y16
   unfold laws_FnExactFormatMachine.j0
   repeat' first|(with_reducible first|apply ih0|apply impl_FormatMachine.mono|apply laws_eqMachine.mono|apply laws_eqStringS.mono|apply laws_heldStringS.mono|apply laws_markMachine.mono|apply laws_markStringS.mono|apply laws_toMachine.mono|apply spec_FormatMachine.mono|exact LeO.refl _|exact LeO.none _|refine LeO.ite ?_ ?_|refine LeO.bind ?_ (fun _=> ?_))|apply ih0|exact LeO.none _|refine LeO.ite ?_ ?_|refine LeO.bind ?_ (fun _=> ?_)
theorem laws_FnExactFormatMachine.mono:∀a0 a1 a2 a3 a4 a5 a6 a7 a8 a9 a10 a11 a12 a13 k,LeO (laws_FnExactFormatMachine.f k a0 a1 a2 a3 a4 a5 a6 a7 a8 a9 a10 a11 a12 a13) (laws_FnExactFormatMachine.f (k+1) a0 a1 a2 a3 a4 a5 a6 a7 a8 a9 a10 a11 a12 a13):=by
 intro a0 a1 a2 a3 a4 a5 a6 a7 a8 a9 a10 a11 a12 a13 k
 have ih0:=laws_FnExactFormatMachine.mono_l k
 unfold laws_FnExactFormatMachine.f
 repeat' first|(with_reducible first|apply ih0|apply impl_FormatMachine.mono|apply laws_eqMachine.mono|apply laws_eqStringS.mono|apply laws_heldStringS.mono|apply laws_markMachine.mono|apply laws_markStringS.mono|apply laws_toMachine.mono|apply spec_FormatMachine.mono|exact LeO.refl _|exact LeO.none _|refine LeO.ite ?_ ?_|refine LeO.bind ?_ (fun _=> ?_))|apply ih0|exact LeO.none _|refine LeO.ite ?_ ?_|refine LeO.bind ?_ (fun _=> ?_)
set_option maxHeartbeats 40000000 in
set_option maxRecDepth 100000 in
theorem laws_FnExactFormatMachine.calls (k:Nat) (A0_0:Option Addr) (c0_0:Nat) (l0_0:List (S52)) (a0_1:Int) (a0_2:Int) (a0_3:Int) (a0_4:Bool) (a0_5:Int) (a0_6:Bool) (a0_7:Int) (a0_8:Int) (A0_9:Option Addr) (c0_9:Nat) (l0_9:List Int) (A0_10:Option Addr) (c0_10:Nat) (l0_10:List Int) (a0_11:Int) (a0_12:Bool) (a0_13:Int) (r:Bool) (w:World) (hr0_0:Kd.C k52 w A0_0 l0_0.length l0_0) (hc0_0:l0_0.length≤c0_0) (hr0_9:Kd.C (Kd.int .i64) w A0_9 l0_9.length l0_9) (hc0_9:l0_9.length≤c0_9) (hr0_10:Kd.C (Kd.int .i64) w A0_10 l0_10.length l0_10) (hc0_10:l0_10.length≤c0_10) (hT:r=true) (h:laws_FnExactFormatMachine.f k l0_0 a0_1 a0_2 a0_3 a0_4 a0_5 a0_6 a0_7 a0_8 l0_9 l0_10 a0_11 a0_12 a0_13=some r) (hTab:Ito.Tab w):
  Calls Tryd.prog 6 #[G #[L A0_0 l0_0.length c0_0,V I a0_1,V I a0_2,V I a0_3,O a0_4,V I a0_5,O a0_6,V I a0_7,V I a0_8,L A0_9 l0_9.length c0_9,L A0_10 l0_10.length c0_10,V I a0_11,O a0_12,V I a0_13]] w fun e w'=>e=.returned (O r)∧Below w.heap.size w w':=by
 replace hTab:=C hTab
 have hu1:=Tryd.underlying55
 have hu2:=Tryd.underlying45
 have HR1_0:=C hr0_0
 have HC1_0:=C hc0_0
 (try clear hr0_0);(try clear hc0_0)
 have HR1_9:=C hr0_9
 have HC1_9:=C hc0_9
 (try clear hr0_9);(try clear hc0_9)
 have HR1_10:=C hr0_10
 have HC1_10:=C hc0_10
 (try clear hr0_10);(try clear hc0_10)
 replace hT:=C hT
 have HB:=C (Below.refl w.heap.size w)
 have H:=h
 unfold laws_FnExactFormatMachine.f at H
 clear h
 obtain⟨t1,A1,H⟩:=bnd H
 by_cases c1:t1<0
 ·rw[if_pos c1]at H
  have c1b0:decide (t1<0)=true:=decide_eq_true c1
  clear c1
  obtain rfl:=Option.some.inj H
  go_enter Tryd.func6,Tryd.ntmps6
  go_wp2_with (first|((with_reducible refine gate_dst (N:=1) rfl ?_);refine Fix.be 1 #[L A0_0 l0_0.length c0_0,V I a0_1,V I a0_2,V I a0_3,O a0_4,V I a0_5,O a0_6,V I a0_7,V I a0_8,L A0_9 l0_9.length c0_9,L A0_10 l0_10.length c0_10,V I a0_11,O a0_12,V I a0_13] 55 ?_;intro gb1 hg w2 BK1 hb;have GW1:D (w.heap.size≤gb1):=gE hg;have GE1:=GW1;replace HB:=eB hb;clear hb hg;have h_:=d14 BK1.out;(repeat(obtain⟨_,h_⟩:=h_)))|((with_reducible refine F (f:=20) rfl ?_);refine gl 20 (some 13) Tryd.func20 #[G #[L A0_0 l0_0.length c0_0,V I a0_1,V I a0_2,V I a0_3,O a0_4,V I a0_5,O a0_6,V I a0_7,V I a0_8,L A0_9 l0_9.length c0_9,L A0_10 l0_10.length c0_10,V I a0_11,O a0_12,V I a0_13],V I 1048576] ?_;(with_reducible refine(laws_szMachine.calls _ _ l0_0 a0_1 a0_2 a0_3 a0_4 a0_5 a0_6 a0_7 a0_8 _ _ l0_9 _ _ l0_10 a0_11 a0_12 a0_13 1048576 t1 _ ?side1 ?side2 ?side3 ?side4 ?side5 ?side6 A1.out).mono ?_);(case side1=>exact uC (Z HR1_0.out HB.out));(case side2=>exact HC1_0.out);(case side3=>exact uC (Z HR1_9.out HB.out));(case side4=>exact HC1_9.out);(case side5=>exact uC (Z HR1_10.out HB.out));(case side6=>exact HC1_10.out);rintro e w3 ⟨rfl,hb⟩;refine⟨_,rfl,?_⟩;replace BK1:=eK BK1 hb;replace HB:=eB hb;clear hb))
  go_ret
  exact⟨rE,uB⟩
 ·rw[if_neg c1]at H
  have c1b0:decide (t1<0)=false:=decide_eq_false c1
  clear c1
  obtain⟨⟨t2,t3,t4,t5,t6,t7,t8,t9,t10,t11,t12,t13,t14,t15⟩,A2,H⟩:=bnd H
  dsimp only at H
  obtain⟨t16,A3,H⟩:=bnd H
  obtain⟨⟨t17,t18,t19,t20,t21,t22,t23,t24,t25,t26,t27,t28,t29,t30⟩,A4,H⟩:=bnd H
  dsimp only at H
  obtain⟨t31,A5,H⟩:=bnd H
  obtain⟨t32,A6,H⟩:=bnd H
  by_cases c2:t32=true
  ·subst c2
   rw[if_pos rfl]at H
   obtain⟨⟨t33,t34,t35,t36,t37,t38,t39,t40,t41,t42,t43,t44,t45,t46⟩,A7,H⟩:=bnd H
   dsimp only at H
   obtain⟨t47,A8,H⟩:=bnd H
   by_cases c3:t47=true
   ·subst c3
    rw[if_pos rfl]at H
    obtain⟨⟨t48,t49,t50,t51⟩,A9,H⟩:=bnd H
    dsimp only at H
    have HC2:=C H
    clear H
    go_enter Tryd.func6,Tryd.ntmps6
    try go_wp2_with (first|((with_reducible refine gate_dst (N:=1) rfl ?_);refine Fix.be 1 #[L A0_0 l0_0.length c0_0,V I a0_1,V I a0_2,V I a0_3,O a0_4,V I a0_5,O a0_6,V I a0_7,V I a0_8,L A0_9 l0_9.length c0_9,L A0_10 l0_10.length c0_10,V I a0_11,O a0_12,V I a0_13] 55 ?_;intro gb1 hg w2 BK1 hb;have GW1:D (w.heap.size≤gb1):=gE hg;have GE1:=GW1;replace HB:=eB hb;clear hb hg;have h_:=d14 BK1.out;(repeat(obtain⟨_,h_⟩:=h_)))|((with_reducible refine F (f:=20) rfl ?_);refine gl 20 (some 13) Tryd.func20 #[G #[L A0_0 l0_0.length c0_0,V I a0_1,V I a0_2,V I a0_3,O a0_4,V I a0_5,O a0_6,V I a0_7,V I a0_8,L A0_9 l0_9.length c0_9,L A0_10 l0_10.length c0_10,V I a0_11,O a0_12,V I a0_13],V I 1048576] ?_;(with_reducible refine(laws_szMachine.calls _ _ l0_0 a0_1 a0_2 a0_3 a0_4 a0_5 a0_6 a0_7 a0_8 _ _ l0_9 _ _ l0_10 a0_11 a0_12 a0_13 1048576 t1 _ ?side1 ?side2 ?side3 ?side4 ?side5 ?side6 A1.out).mono ?_);(case side1=>exact uC (Z HR1_0.out HB.out));(case side2=>exact HC1_0.out);(case side3=>exact uC (Z HR1_9.out HB.out));(case side4=>exact HC1_9.out);(case side5=>exact uC (Z HR1_10.out HB.out));(case side6=>exact HC1_10.out);rintro e w3 ⟨rfl,hb⟩;refine⟨_,rfl,?_⟩;replace BK1:=eK BK1 hb;replace HB:=eB hb;clear hb;have h_:=d14 BK1.out;(repeat(obtain⟨_,h_⟩:=h_)))|((with_reducible refine F (f:=22) rfl ?_);refine gl 22 (some 17) Tryd.func22 #[G #[L A0_0 l0_0.length c0_0,V I a0_1,V I a0_2,V I a0_3,O a0_4,V I a0_5,O a0_6,V I a0_7,V I a0_8,L A0_9 l0_9.length c0_9,L A0_10 l0_10.length c0_10,V I a0_11,O a0_12,V I a0_13]] ?_;(with_reducible refine(laws_toMachine.calls k _ _ l0_0 a0_1 a0_2 a0_3 a0_4 a0_5 a0_6 a0_7 a0_8 _ _ l0_9 _ _ l0_10 a0_11 a0_12 a0_13 t2 t3 t4 t5 t6 t7 t8 t9 t10 t11 t12 t13 t14 t15 _ ?side1 ?side2 ?side3 ?side4 ?side5 ?side6 A2.out).mono ?_);(case side1=>exact uC (Z HR1_0.out HB.out));(case side2=>exact HC1_0.out);(case side3=>exact uC (Z HR1_9.out HB.out));(case side4=>exact HC1_9.out);(case side5=>exact uC (Z HR1_10.out HB.out));(case side6=>exact HC1_10.out);rintro e w4 ⟨v1,v2,v3,rfl,ho1,ho2,ho3,hb⟩;refine⟨_,rfl,?_⟩;have HO1:=lR ho1;have HO2:=lR ho2;have HO3:=lR ho3;replace BK1:=eK BK1 hb;replace HB:=eB hb;clear hb ho1 ho2 ho3;obtain⟨Ao1,co1,eo1⟩:=U HO1.out;subst eo1;obtain⟨Ao2,co2,eo2⟩:=U HO2.out;subst eo2;obtain⟨Ao3,co3,eo3⟩:=U HO3.out;subst eo3)|((with_reducible refine F (f:=21) rfl ?_);refine gl 21 (some 18) Tryd.func21 #[G #[L Ao1 t2.length co1,V I t3,V I t4,V I t5,O t6,V I t7,O t8,V I t9,V I t10,L Ao2 t11.length co2,L Ao3 t12.length co3,V I t13,O t14,V I t15]] ?_;(with_reducible refine(spec_FormatMachine.calls k _ _ t2 t3 t4 t5 t6 t7 t8 t9 t10 _ _ t11 _ _ t12 t13 t14 t15 t16 _ ?side1 ?side2 ?side3 ?side4 ?side5 ?side6 A3.out).mono ?_);(case side1=>exact uC (Kd.R_reads' HO1.out).2.2);(case side2=>exact(Kd.R_reads' HO1.out).2.1);(case side3=>exact uC (Kd.R_reads' HO2.out).2.2);(case side4=>exact(Kd.R_reads' HO2.out).2.1);(case side5=>exact uC (Kd.R_reads' HO3.out).2.2);(case side6=>exact(Kd.R_reads' HO3.out).2.1);rintro e w5 ⟨v4,rfl,ho1,hb⟩;refine⟨_,rfl,?_⟩;have HO4:=lR ho1;replace HO1:=eR HO1 hb;replace HO2:=eR HO2 hb;replace HO3:=eR HO3 hb;replace BK1:=eK BK1 hb;replace HB:=eB hb;clear hb ho1;have h_:=d14 BK1.out;(repeat(obtain⟨_,h_⟩:=h_)))|((with_reducible refine F (f:=22) rfl ?_);refine gl 22 (some 20) Tryd.func22 #[G #[L A0_0 l0_0.length c0_0,V I a0_1,V I a0_2,V I a0_3,O a0_4,V I a0_5,O a0_6,V I a0_7,V I a0_8,L A0_9 l0_9.length c0_9,L A0_10 l0_10.length c0_10,V I a0_11,O a0_12,V I a0_13]] ?_;(with_reducible refine(laws_toMachine.calls k _ _ l0_0 a0_1 a0_2 a0_3 a0_4 a0_5 a0_6 a0_7 a0_8 _ _ l0_9 _ _ l0_10 a0_11 a0_12 a0_13 t17 t18 t19 t20 t21 t22 t23 t24 t25 t26 t27 t28 t29 t30 _ ?side1 ?side2 ?side3 ?side4 ?side5 ?side6 A4.out).mono ?_);(case side1=>exact uC (Z HR1_0.out HB.out));(case side2=>exact HC1_0.out);(case side3=>exact uC (Z HR1_9.out HB.out));(case side4=>exact HC1_9.out);(case side5=>exact uC (Z HR1_10.out HB.out));(case side6=>exact HC1_10.out);rintro e w6 ⟨v5,v6,v7,rfl,ho1,ho2,ho3,hb⟩;refine⟨_,rfl,?_⟩;have HO5:=C (Kd.R_lower (Kd.R_new' ho1 (Kd.R_lt (uR HO1.out))) (below_size uB));have HO6:=C (Kd.R_lower (Kd.R_new' (Kd.R_new' ho2 (Kd.R_lt (uR HO2.out))) (Kd.R_lt (uR HO3.out))) (below_size uB));have HO7:=C (Kd.R_lower (Kd.R_new' (Kd.R_new' ho3 (Kd.R_lt (uR HO2.out))) (Kd.R_lt (uR HO3.out))) (below_size uB));replace HO1:=C (Kd.R_elder' (uR HO1.out) (Kd.R_base ho1) hb);replace HO2:=C (X (Kd.R_told (Kd.R_told (Kd.R_old (uR HO2.out) hb) (Kd.R_base ho2)) (Kd.R_base ho3)) (fun _ h_=>h_.1));replace HO3:=C (X (Kd.R_told (Kd.R_told (Kd.R_old (uR HO3.out) hb) (Kd.R_base ho2)) (Kd.R_base ho3)) (fun _ h_=>h_.1));replace HO4:=eR HO4 hb;replace BK1:=eK BK1 hb;replace HB:=eB hb;clear hb ho1 ho2 ho3)|((with_reducible refine gate_dst (N:=5) rfl ?_);refine Fix.be 5 #[L none 0 0,V I 0,V I 0,V I 0,O false,V I 0,O false,V I 0,V I 0,L none 0 0,L none 0 0,V I 0,O false,V I 0] 45 ?_;intro gb2 hg w7 BK2 hb;have GW2:D (w.heap.size≤gb2):=gE hg;have GE2:=GW2;have NB1_378:=nL hg BK1;have NB2_333:=nG hg BK1;replace HO1:=eR HO1 hb;replace HO2:=eR HO2 hb;replace HO3:=eR HO3 hb;replace HO4:=eR HO4 hb;replace HO5:=eR HO5 hb;replace HO6:=eR HO6 hb;replace HO7:=eR HO7 hb;replace BK1:=eK BK1 hb;replace HB:=eB hb;clear hb hg;obtain⟨Ao4,co4,eo4⟩:=U HO5.out;subst eo4;have hnb1:=NB2_333.out;have hnc1:=NB1_378.out;have h_:=d14 BK2.out;(repeat(obtain⟨_,h_⟩:=h_));obtain⟨Ao5,co5,eo5⟩:=U HO6.out;subst eo5;obtain⟨Ao6,co6,eo6⟩:=U HO7.out;subst eo6)|((with_reducible refine gate_store (t:=45) (p:=5) rfl ?_);refine store_event (t:=45) (p:=5) (v:= ?vo_w1) (w1:=((((((((((((((w7.setCell ⟨gb2,0,none⟩ (L Ao4 t17.length co4)).setCell ⟨gb2,1,none⟩ (V I t18)).setCell ⟨gb2,2,none⟩ (V I t19)).setCell ⟨gb2,3,none⟩ (V I t20)).setCell ⟨gb2,4,none⟩ (O t21)).setCell ⟨gb2,5,none⟩ (V I t22)).setCell ⟨gb2,6,none⟩ (O t23)).setCell ⟨gb2,7,none⟩ (V I t24)).setCell ⟨gb2,8,none⟩ (V I t25)).setCell ⟨gb2,9,none⟩ (L Ao5 t26.length co5)).setCell ⟨gb2,10,none⟩ (L Ao6 t27.length co6)).setCell ⟨gb2,11,none⟩ (V I t28)).setCell ⟨gb2,12,none⟩ (O t29)).setCell ⟨gb2,13,none⟩ (V I t30))) ?hg ?ho ?hn ?hr ?_;(case ho=>rfl);(case hg=>rfl);(case hn=>rfl);(case hr=>exact Fix.hr);intro w8 hw;replace HO1:D (Kd.R _ _ _ _ (fun k_=>some k_≠(L Ao4 t17.length co4:Value).ownBlock) _ _):=tR hw (Kd.R_types HO1.out BK2.out (by decide)) (fun _ hk=>hk.1.2);replace HO2:D (Kd.R _ _ _ _ (fun k_=>some k_≠(L Ao3 t12.length co3:Value).ownBlock∧some k_≠(L Ao5 t26.length co5:Value).ownBlock∧some k_≠(L Ao6 t27.length co6:Value).ownBlock) _ _):=tR hw (Kd.R_types HO2.out BK2.out (by decide)) (fun _ hk=>⟨hk.1.1.1,⟨hk.1.1.2,hk.1.2⟩⟩);replace HO3:D (Kd.R _ _ _ _ (fun k_=>some k_≠(L Ao2 t11.length co2:Value).ownBlock∧some k_≠(L Ao5 t26.length co5:Value).ownBlock∧some k_≠(L Ao6 t27.length co6:Value).ownBlock) _ _):=tR hw (Kd.R_types HO3.out BK2.out (by decide)) (fun _ hk=>⟨hk.1.1.1,⟨hk.1.1.2,hk.1.2⟩⟩);replace HO4:D (Kd.R _ _ _ _ (fun _=>True) _ _):=tR hw (Kd.R_types HO4.out BK2.out (by decide)) (fun _ hk=>trivial);replace HO5:D (Kd.R _ _ _ _ (fun k_=>some k_≠(L Ao1 t2.length co1:Value).ownBlock) _ _):=tR hw (Kd.R_types HO5.out BK2.out (by decide)) (fun _ hk=>hk.1.2);replace HO6:D (Kd.R _ _ _ _ (fun k_=>some k_≠(L Ao2 t11.length co2:Value).ownBlock∧some k_≠(L Ao3 t12.length co3:Value).ownBlock∧some k_≠(L Ao6 t27.length co6:Value).ownBlock) _ _):=tR hw (Kd.R_types HO6.out BK2.out (by decide)) (fun _ hk=>⟨hk.1.1.2,⟨hk.1.2,hk.1.1.1⟩⟩);replace HO7:D (Kd.R _ _ _ _ (fun k_=>some k_≠(L Ao2 t11.length co2:Value).ownBlock∧some k_≠(L Ao3 t12.length co3:Value).ownBlock∧some k_≠(L Ao5 t26.length co5:Value).ownBlock) _ _):=tR hw (Kd.R_types HO7.out BK2.out (by decide)) (fun _ hk=>⟨hk.1.1.2,⟨hk.1.2,hk.1.1.1⟩⟩);replace BK1:=wK hw BK1;replace BK2:D (w8.heap[gb2]? =some (.cells #[L Ao4 t17.length co4,V I t18,V I t19,V I t20,O t21,V I t22,O t23,V I t24,V I t25,L Ao5 t26.length co5,L Ao6 t27.length co6,V I t28,O t29,V I t30] 45 (0,0))):=⟨(by rw[hw];exact(bK BK2.out))⟩;replace HB:=wB hw;clear hw;have h_:=d14 BK2.out;(repeat(obtain⟨_,h_⟩:=h_)))|((with_reducible refine F (f:=18) rfl ?_);refine gl 18 (some 22) Tryd.func18 #[G #[L Ao4 t17.length co4,V I t18,V I t19,V I t20,O t21,V I t22,O t23,V I t24,V I t25,L Ao5 t26.length co5,L Ao6 t27.length co6,V I t28,O t29,V I t30]] ?_;(with_reducible refine(impl_FormatMachine.calls k _ _ t17 t18 t19 t20 t21 t22 t23 t24 t25 _ _ t26 _ _ t27 t28 t29 t30 t31 _ ?side1 ?side2 ?side3 ?side4 ?side5 ?side6 A5.out (Ito.on hTab.out uB)).mono ?_);(case side1=>exact uC (Kd.R_reads' HO5.out).2.2);(case side2=>exact(Kd.R_reads' HO5.out).2.1);(case side3=>exact uC (Kd.R_reads' HO6.out).2.2);(case side4=>exact(Kd.R_reads' HO6.out).2.1);(case side5=>exact uC (Kd.R_reads' HO7.out).2.2);(case side6=>exact(Kd.R_reads' HO7.out).2.1);rintro e w9 ⟨v8,rfl,ho1,hb⟩;refine⟨_,rfl,?_⟩;have HO8:=C (Kd.R_lower (Kd.R_new' ho1 (Kd.R_lt (uR HO4.out))) (below_size uB));replace HO1:=eR HO1 hb;replace HO2:=eR HO2 hb;replace HO3:=eR HO3 hb;replace HO4:=C (Kd.R_elder' (uR HO4.out) (Kd.R_base ho1) hb);replace HO5:=eR HO5 hb;replace HO6:=eR HO6 hb;replace HO7:=eR HO7 hb;replace BK1:=eK BK1 hb;replace BK2:=eK BK2 hb;replace HB:=eB hb;clear hb ho1;obtain⟨Ao7,co7,eo7⟩:=U HO8.out;subst eo7;obtain⟨Ao8,co8,eo8⟩:=U HO4.out;subst eo8)|((with_reducible refine F (f:=23) rfl ?_);refine gl 23 (some 25) Tryd.func23 #[L Ao7 t31.length co7,L Ao8 t16.length co8] ?_;(with_reducible refine(laws_eqStringS.calls k _ _ t31 _ _ t16 true _ ?side1 ?side2 ?side3 ?side4 A6.out).mono ?_);(case side1=>exact uC (Kd.R_reads' HO8.out).2.2);(case side2=>exact(Kd.R_reads' HO8.out).2.1);(case side3=>exact uC (Kd.R_reads' HO4.out).2.2);(case side4=>exact(Kd.R_reads' HO4.out).2.1);rintro e w' ⟨rfl,⟨nd,rfl⟩⟩;refine⟨_,rfl,?_⟩))
    (try(rw[drewN_self w9];generalize hq_:World.drewN w9 _=w9;have n0_:D (Kd.R k40 40 w9 w.heap.size (fun k_=>some k_≠(L Ao4 t17.length co4:Value).ownBlock) (L Ao1 t2.length co1) t2):=⟨by rw[←hq_];exact(uR HO1.out)⟩;have n1_:D (Kd.R (Kd.int .i64) 3 w9 w.heap.size (fun k_=>some k_≠(L Ao3 t12.length co3:Value).ownBlock∧some k_≠(L Ao5 t26.length co5:Value).ownBlock∧some k_≠(L Ao6 t27.length co6:Value).ownBlock) (L Ao2 t11.length co2) t11):=⟨by rw[←hq_];exact(uR HO2.out)⟩;have n2_:D (Kd.R (Kd.int .i64) 3 w9 w.heap.size (fun k_=>some k_≠(L Ao2 t11.length co2:Value).ownBlock∧some k_≠(L Ao5 t26.length co5:Value).ownBlock∧some k_≠(L Ao6 t27.length co6:Value).ownBlock) (L Ao3 t12.length co3) t12):=⟨by rw[←hq_];exact(uR HO3.out)⟩;have n3_:D (Kd.R Kd.string 9 w9 w.heap.size (fun k_=>some k_≠(L Ao7 t31.length co7:Value).ownBlock) (L Ao8 t16.length co8) t16):=⟨by rw[←hq_];exact(X (fR HO4.out) (fun _ hk=>hk.2))⟩;have n4_:D (Kd.R k40 40 w9 w.heap.size (fun k_=>some k_≠(L Ao1 t2.length co1:Value).ownBlock) (L Ao4 t17.length co4) t17):=⟨by rw[←hq_];exact(uR HO5.out)⟩;have n5_:D (Kd.R (Kd.int .i64) 3 w9 w.heap.size (fun k_=>some k_≠(L Ao2 t11.length co2:Value).ownBlock∧some k_≠(L Ao3 t12.length co3:Value).ownBlock∧some k_≠(L Ao6 t27.length co6:Value).ownBlock) (L Ao5 t26.length co5) t26):=⟨by rw[←hq_];exact(uR HO6.out)⟩;have n6_:D (Kd.R (Kd.int .i64) 3 w9 w.heap.size (fun k_=>some k_≠(L Ao2 t11.length co2:Value).ownBlock∧some k_≠(L Ao3 t12.length co3:Value).ownBlock∧some k_≠(L Ao5 t26.length co5:Value).ownBlock) (L Ao6 t27.length co6) t27):=⟨by rw[←hq_];exact(uR HO7.out)⟩;have n7_:D (Kd.R Kd.string 9 w9 w.heap.size (fun k_=>some k_≠(L Ao8 t16.length co8:Value).ownBlock) (L Ao7 t31.length co7) t31):=⟨by rw[←hq_];exact(X (fR HO8.out) (fun _ hk=>hk.2))⟩;have n8_:D (w9.heap[gb1]? =some (.cells #[L A0_0 l0_0.length c0_0,V I a0_1,V I a0_2,V I a0_3,O a0_4,V I a0_5,O a0_6,V I a0_7,V I a0_8,L A0_9 l0_9.length c0_9,L A0_10 l0_10.length c0_10,V I a0_11,O a0_12,V I a0_13] 55 (0,0))):=⟨by rw[←hq_];exact(uK BK1.out)⟩;have n9_:D (w9.heap[gb2]? =some (.cells #[L Ao4 t17.length co4,V I t18,V I t19,V I t20,O t21,V I t22,O t23,V I t24,V I t25,L Ao5 t26.length co5,L Ao6 t27.length co6,V I t28,O t29,V I t30] 45 (0,0))):=⟨by rw[←hq_];exact(uK BK2.out)⟩;have n10_:D (Below w.heap.size w w9):=⟨by rw[←hq_];exact uB⟩;clear HO1 HO2 HO3 HO4 HO5 HO6 HO7 HO8 BK1 BK2 HB hq_;have HO1:=n0_;have HO2:=n1_;have HO3:=n2_;have HO4:=n3_;have HO5:=n4_;have HO6:=n5_;have HO7:=n6_;have HO8:=n7_;have BK1:=n8_;have BK2:=n9_;have HB:=n10_;clear n0_ n1_ n2_ n3_ n4_ n5_ n6_ n7_ n8_ n9_ n10_))
    replace HO1:=dR HO1
    replace HO2:=dR HO2
    replace HO3:=dR HO3
    replace HO4:=dR HO4
    replace HO5:=dR HO5
    replace HO6:=dR HO6
    replace HO7:=dR HO7
    replace HO8:=dR HO8
    replace BK1:=dK BK1
    replace BK2:=dK BK2
    replace HB:=dB HB
    refine start_ (n:=5) (S:=fun w'=>cr14 w' gb2 (L Ao4 t17.length co4) (V I t18) (V I t19) (V I t20) (O t21) (V I t22) (O t23) (V I t24) (V I t25) (L Ao5 t26.length co5) (L Ao6 t27.length co6) (V I t28) (O t29) (V I t30) (cl14 w' gb1 (L A0_0 l0_0.length c0_0) (V I a0_1) (V I a0_2) (V I a0_3) (O a0_4) (V I a0_5) (O a0_6) (V I a0_7) (V I a0_8) (L A0_9 l0_9.length c0_9) (L A0_10 l0_10.length c0_10) (V I a0_11) (O a0_12) (V I a0_13))) (ds:= []) #[false,false,false,false,false] (by kernel_rfl) rfl rfl hh (fun hHeld=> ?_)
    generalize w9.drew=w10 at HO1 HO2 HO3 HO4 HO5 HO6 HO7 HO8 BK1 BK2 HB hHeld ⊢
    refine tu 0 (some 27) hHeld ?_
    refine tu 1 (some 28) hHeld ?_
    refine ou 2 (some 29) (fun K hK=> ?_)
    refine gs Tryd.func22 #[G #[L A0_0 l0_0.length c0_0,V I a0_1,V I a0_2,V I a0_3,O a0_4,V I a0_5,O a0_6,V I a0_7,V I a0_8,L A0_9 l0_9.length c0_9,L A0_10 l0_10.length c0_10,V I a0_11,O a0_12,V I a0_13]] ?_
    with_reducible refine(laws_toMachine.calls k _ _ l0_0 a0_1 a0_2 a0_3 a0_4 a0_5 a0_6 a0_7 a0_8 _ _ l0_9 _ _ l0_10 a0_11 a0_12 a0_13 t33 t34 t35 t36 t37 t38 t39 t40 t41 t42 t43 t44 t45 t46 _ ?side1 ?side2 ?side3 ?side4 ?side5 ?side6 A7.out).mono ?_
    (case side1=>exact uC (Z HR1_0.out HB.out))
    (case side2=>exact HC1_0.out)
    (case side3=>exact uC (Z HR1_9.out HB.out))
    (case side4=>exact HC1_9.out)
    (case side5=>exact uC (Z HR1_10.out HB.out))
    (case side6=>exact HC1_10.out)
    rintro e w11 ⟨v9,v10,v11,rfl,ho1,ho2,ho3,hb⟩
    refine⟨_,rfl,?_⟩
    have HO9:=C (Kd.R_lower (Kd.R_new' (Kd.R_new' ho1 (Kd.R_lt (uR HO1.out))) (Kd.R_lt (uR HO5.out))) (below_size uB))
    have HO10:=C (Kd.R_lower (Kd.R_new' (Kd.R_new' (Kd.R_new' (Kd.R_new' ho2 (Kd.R_lt (uR HO2.out))) (Kd.R_lt (uR HO3.out))) (Kd.R_lt (uR HO6.out))) (Kd.R_lt (uR HO7.out))) (below_size uB))
    have HO11:=C (Kd.R_lower (Kd.R_new' (Kd.R_new' (Kd.R_new' (Kd.R_new' ho3 (Kd.R_lt (uR HO2.out))) (Kd.R_lt (uR HO3.out))) (Kd.R_lt (uR HO6.out))) (Kd.R_lt (uR HO7.out))) (below_size uB))
    replace HO1:=C (Kd.R_elder' (uR HO1.out) (Kd.R_base ho1) hb)
    replace HO2:=C (X (Kd.R_told (Kd.R_told (Kd.R_old (uR HO2.out) hb) (Kd.R_base ho2)) (Kd.R_base ho3)) (fun _ h_=>h_.1))
    replace HO3:=C (X (Kd.R_told (Kd.R_told (Kd.R_old (uR HO3.out) hb) (Kd.R_base ho2)) (Kd.R_base ho3)) (fun _ h_=>h_.1))
    replace HO4:=eR HO4 hb
    replace HO5:=C (Kd.R_elder' (uR HO5.out) (Kd.R_base ho1) hb)
    replace HO6:=C (X (Kd.R_told (Kd.R_told (Kd.R_old (uR HO6.out) hb) (Kd.R_base ho2)) (Kd.R_base ho3)) (fun _ h_=>h_.1))
    replace HO7:=C (X (Kd.R_told (Kd.R_told (Kd.R_old (uR HO7.out) hb) (Kd.R_base ho2)) (Kd.R_base ho3)) (fun _ h_=>h_.1))
    replace HO8:=eR HO8 hb
    replace BK1:=eK BK1 hb
    replace BK2:=eK BK2 hb
    replace HB:=eB hb
    (try clear hb)
    obtain⟨Ao9,co9,eo9⟩:=U HO9.out
    (first|subst eo9|(injection eo9 with f1_ f2_ f3_;have f4_:=f1_.symm;have f5_:=f3_.symm;clear f1_ f2_ f3_;subst f4_;subst f5_))
    obtain⟨Ao10,co10,eo10⟩:=U HO10.out
    (first|subst eo10|(injection eo10 with f1_ f2_ f3_;have f4_:=f1_.symm;have f5_:=f3_.symm;clear f1_ f2_ f3_;subst f4_;subst f5_))
    obtain⟨Ao11,co11,eo11⟩:=U HO11.out
    (first|subst eo11|(injection eo11 with f1_ f2_ f3_;have f4_:=f1_.symm;have f5_:=f3_.symm;clear f1_ f2_ f3_;subst f4_;subst f5_))
    refine hK.out _ _ hh (fun hHeld=> ?_)
    clear hK K
    refine nu (N:=(some 29)) ?_
    refine ou 3 (some 30) (fun K hK=> ?_)
    refine gs Tryd.func24 #[G #[L Ao4 t17.length co4,V I t18,V I t19,V I t20,O t21,V I t22,O t23,V I t24,V I t25,L Ao5 t26.length co5,L Ao6 t27.length co6,V I t28,O t29,V I t30],G #[L Ao9 t33.length co9,V I t34,V I t35,V I t36,O t37,V I t38,O t39,V I t40,V I t41,L Ao10 t42.length co10,L Ao11 t43.length co11,V I t44,O t45,V I t46]] ?_
    with_reducible refine(laws_eqMachine.calls k _ _ t17 t18 t19 t20 t21 t22 t23 t24 t25 _ _ t26 _ _ t27 t28 t29 t30 _ _ t33 t34 t35 t36 t37 t38 t39 t40 t41 _ _ t42 _ _ t43 t44 t45 t46 true _ ?side1 ?side2 ?side3 ?side4 ?side5 ?side6 ?side7 ?side8 ?side9 ?side10 ?side11 ?side12 A8.out).mono ?_
    (case side1=>exact uC (Kd.R_reads' HO5.out).2.2)
    (case side2=>exact(Kd.R_reads' HO5.out).2.1)
    (case side3=>exact uC (Kd.R_reads' HO6.out).2.2)
    (case side4=>exact(Kd.R_reads' HO6.out).2.1)
    (case side5=>exact uC (Kd.R_reads' HO7.out).2.2)
    (case side6=>exact(Kd.R_reads' HO7.out).2.1)
    (case side7=>exact uC (Kd.R_reads' HO9.out).2.2)
    (case side8=>exact(Kd.R_reads' HO9.out).2.1)
    (case side9=>exact uC (Kd.R_reads' HO10.out).2.2)
    (case side10=>exact(Kd.R_reads' HO10.out).2.1)
    (case side11=>exact uC (Kd.R_reads' HO11.out).2.2)
    (case side12=>exact(Kd.R_reads' HO11.out).2.1)
    rintro e w12 ⟨rfl,hb⟩
    refine⟨_,rfl,?_⟩
    replace HO1:=eR HO1 hb
    replace HO2:=eR HO2 hb
    replace HO3:=eR HO3 hb
    replace HO4:=eR HO4 hb
    replace HO5:=eR HO5 hb
    replace HO6:=eR HO6 hb
    replace HO7:=eR HO7 hb
    replace HO8:=eR HO8 hb
    replace HO9:=eR HO9 hb
    replace HO10:=eR HO10 hb
    replace HO11:=eR HO11 hb
    replace BK1:=eK BK1 hb
    replace BK2:=eK BK2 hb
    replace HB:=eB hb
    (try clear hb)
    refine hK.out _ _ hh (fun hHeld=> ?_)
    clear hK K
    refine nu (N:=(some 30)) ?_
    refine pu 4 (some 31) ?_
    refine done_ (by kernel_rfl) ?_
    have h_:=d14 BK2.out;(repeat(obtain⟨_,h_⟩:=h_))
    go_upto_region 14 with(first|((with_reducible refine F (f:=25) rfl ?_);refine gl 25 (some 34) Tryd.func25 #[G #[L Ao4 t17.length co4,V I t18,V I t19,V I t20,O t21,V I t22,O t23,V I t24,V I t25,L Ao5 t26.length co5,L Ao6 t27.length co6,V I t28,O t29,V I t30],V I 1] ?_;(with_reducible refine(laws_markMachine.calls k (fun k_=>some k_=(L Ao4 t17.length co4:Value).ownBlock) (L Ao4 t17.length co4) t17 t18 t19 t20 t21 t22 t23 t24 t25 (fun k_=>some k_=(L Ao5 t26.length co5:Value).ownBlock) (L Ao5 t26.length co5) t26 (fun k_=>some k_=(L Ao6 t27.length co6:Value).ownBlock) (L Ao6 t27.length co6) t27 t28 t29 t30 1 t48 t49 t50 t51 w _ ?side1 ?side2 ?side3 ?side4 ?side5 ?side6 A9.out).mono ?_);(case side1=>exact uB);(case side2=>exact Kd.Q_of_R (Kd.R_tight rfl HO5.out));(case side3=>exact Kd.Q_of_R (Kd.R_tight rfl HO6.out));(case side4=>exact fun k_ e_=>(HO6.out.1 k_ e_.symm).1.1.2.2);(case side5=>exact Kd.Q_of_R (Kd.R_tight rfl HO7.out));(case side6=>exact fun k_ e_=>(HO7.out.1 k_ e_.symm).1.1.2.2);rintro e w13 ⟨rfl,hy1,hy2,hy3,hb,hkp⟩;refine⟨_,rfl,?_⟩;replace BK1:=C (blk_kept (uK BK1.out) hkp (fun hs_=>Or.elim hs_ (fun e_=>(fun e_=>(Kd.R_ne HO5.out BK1.out (by decide)) e_) e_) (fun e_=>Or.elim e_ (fun e_=>(fun e_=>(Kd.R_ne HO6.out BK1.out (by decide)) e_) e_) (fun e_=>(fun e_=>(Kd.R_ne HO7.out BK1.out (by decide)) e_) e_))));replace HO1:=C (X (ok':=fun k_=>some k_≠(L Ao4 t17.length co4:Value).ownBlock∧some k_≠(L Ao9 t33.length co9:Value).ownBlock) (Kd.R_keptB ((Kd.R_apart' (Kd.R_apart' HO1.out (Kd.R_typed HO6.out) (by decide)) (Kd.R_typed HO7.out) (by decide))) hkp (fun k_ hk_ hs_=>Or.elim hs_ (fun e_=>(hk_.1.1.1) e_) (fun e_=>Or.elim e_ (fun e_=>(hk_.1.2) e_) (fun e_=>(hk_.2) e_)))) (fun k_ hk_=>⟨hk_.1.1.1.1,hk_.1.1.1.2⟩));replace HO2:=C (X (ok':=fun k_=>some k_≠(L Ao3 t12.length co3:Value).ownBlock∧some k_≠(L Ao5 t26.length co5:Value).ownBlock∧some k_≠(L Ao6 t27.length co6:Value).ownBlock∧some k_≠(L Ao10 t42.length co10:Value).ownBlock∧some k_≠(L Ao11 t43.length co11:Value).ownBlock) (Kd.R_keptB ((Kd.R_apart' HO2.out (Kd.R_typed HO5.out) (by decide))) hkp (fun k_ hk_ hs_=>Or.elim hs_ (fun e_=>(hk_.2) e_) (fun e_=>Or.elim e_ (fun e_=>(hk_.1.1.1.2.1) e_) (fun e_=>(hk_.1.1.1.2.2) e_)))) (fun k_ hk_=>⟨hk_.1.1.1.1.1,hk_.1.1.1.1.2.1,hk_.1.1.1.1.2.2,hk_.1.1.1.2,hk_.1.1.2⟩));replace HO3:=C (X (ok':=fun k_=>some k_≠(L Ao2 t11.length co2:Value).ownBlock∧some k_≠(L Ao5 t26.length co5:Value).ownBlock∧some k_≠(L Ao6 t27.length co6:Value).ownBlock∧some k_≠(L Ao10 t42.length co10:Value).ownBlock∧some k_≠(L Ao11 t43.length co11:Value).ownBlock) (Kd.R_keptB ((Kd.R_apart' HO3.out (Kd.R_typed HO5.out) (by decide))) hkp (fun k_ hk_ hs_=>Or.elim hs_ (fun e_=>(hk_.2) e_) (fun e_=>Or.elim e_ (fun e_=>(hk_.1.1.1.2.1) e_) (fun e_=>(hk_.1.1.1.2.2) e_)))) (fun k_ hk_=>⟨hk_.1.1.1.1.1,hk_.1.1.1.1.2.1,hk_.1.1.1.1.2.2,hk_.1.1.1.2,hk_.1.1.2⟩));replace HO4:=C (X (ok':=fun k_=>some k_≠(L Ao7 t31.length co7:Value).ownBlock) (Kd.R_keptB ((Kd.R_apart' (Kd.R_apart' (Kd.R_apart' HO4.out (Kd.R_typed HO5.out) (by decide)) (Kd.R_typed HO6.out) (by decide)) (Kd.R_typed HO7.out) (by decide))) hkp (fun k_ hk_ hs_=>Or.elim hs_ (fun e_=>(hk_.1.1.2) e_) (fun e_=>Or.elim e_ (fun e_=>(hk_.1.2) e_) (fun e_=>(hk_.2) e_)))) (fun k_ hk_=>by first|exact hk_.1.1.1.1.2|exact hk_.1.1.1.1));replace BK2:=C (blk_kept (uK BK2.out) hkp (fun hs_=>Or.elim hs_ (fun e_=>(fun e_=>(Kd.R_ne HO5.out BK2.out (by decide)) e_) e_) (fun e_=>Or.elim e_ (fun e_=>(fun e_=>(Kd.R_ne HO6.out BK2.out (by decide)) e_) e_) (fun e_=>(fun e_=>(Kd.R_ne HO7.out BK2.out (by decide)) e_) e_))));replace HO8:=C (X (ok':=fun k_=>some k_≠(L Ao8 t16.length co8:Value).ownBlock) (Kd.R_keptB ((Kd.R_apart' (Kd.R_apart' (Kd.R_apart' HO8.out (Kd.R_typed HO5.out) (by decide)) (Kd.R_typed HO6.out) (by decide)) (Kd.R_typed HO7.out) (by decide))) hkp (fun k_ hk_ hs_=>Or.elim hs_ (fun e_=>(hk_.1.1.2) e_) (fun e_=>Or.elim e_ (fun e_=>(hk_.1.2) e_) (fun e_=>(hk_.2) e_)))) (fun k_ hk_=>by first|exact hk_.1.1.1.1.2|exact hk_.1.1.1.1));replace HO9:=C (X (ok':=fun k_=>some k_≠(L Ao1 t2.length co1:Value).ownBlock∧some k_≠(L Ao4 t17.length co4:Value).ownBlock) (Kd.R_keptB ((Kd.R_apart' (Kd.R_apart' HO9.out (Kd.R_typed HO6.out) (by decide)) (Kd.R_typed HO7.out) (by decide))) hkp (fun k_ hk_ hs_=>Or.elim hs_ (fun e_=>(hk_.1.1.2) e_) (fun e_=>Or.elim e_ (fun e_=>(hk_.1.2) e_) (fun e_=>(hk_.2) e_)))) (fun k_ hk_=>⟨hk_.1.1.1.1.2,hk_.1.1.1.2⟩));replace HO6:=C (Ext.Q_reok rfl hy2 (fun k_ e_=>HO6.out.1 k_ e_));replace HO7:=C (Ext.Q_reok rfl hy3 (fun k_ e_=>HO7.out.1 k_ e_));replace HO10:=C (X (ok':=fun k_=>some k_≠(L Ao2 t11.length co2:Value).ownBlock∧some k_≠(L Ao3 t12.length co3:Value).ownBlock∧some k_≠(L Ao5 t26.length co5:Value).ownBlock∧some k_≠(L Ao6 t27.length co6:Value).ownBlock∧some k_≠(L Ao11 t43.length co11:Value).ownBlock) (Kd.R_keptB ((Kd.R_apart' HO10.out (Kd.R_typed HO5.out) (by decide))) hkp (fun k_ hk_ hs_=>Or.elim hs_ (fun e_=>(hk_.2) e_) (fun e_=>Or.elim e_ (fun e_=>(hk_.1.1.2) e_) (fun e_=>(hk_.1.2) e_)))) (fun k_ hk_=>⟨hk_.1.1.1.1.1.2,hk_.1.1.1.1.2,hk_.1.1.1.2,hk_.1.1.2,hk_.1.1.1.1.1.1⟩));replace HO11:=C (X (ok':=fun k_=>some k_≠(L Ao2 t11.length co2:Value).ownBlock∧some k_≠(L Ao3 t12.length co3:Value).ownBlock∧some k_≠(L Ao5 t26.length co5:Value).ownBlock∧some k_≠(L Ao6 t27.length co6:Value).ownBlock∧some k_≠(L Ao10 t42.length co10:Value).ownBlock) (Kd.R_keptB ((Kd.R_apart' HO11.out (Kd.R_typed HO5.out) (by decide))) hkp (fun k_ hk_ hs_=>Or.elim hs_ (fun e_=>(hk_.2) e_) (fun e_=>Or.elim e_ (fun e_=>(hk_.1.1.2) e_) (fun e_=>(hk_.1.2) e_)))) (fun k_ hk_=>⟨hk_.1.1.1.1.1.2,hk_.1.1.1.1.2,hk_.1.1.1.2,hk_.1.1.2,hk_.1.1.1.1.1.1⟩));replace HO5:=C (Ext.Q_reok rfl hy1 (fun k_ e_=>HO5.out.1 k_ e_));replace HB:=C (hb);clear hb;(try clear hkp);(try clear hy1);(try clear hy2);(try clear hy3)))
    (try simp only[Act.put,List.setIfInBounds_toArray,List.set_cons_zero,List.set_cons_succ])
    go_cut [42] (fun v42 wc=>∃(kq:Nat) (x1_16:Bool),v42=O x1_16∧D (laws_FnExactFormatMachine.j0 kq t16 t31 x1_16 l0_0 a0_1 a0_2 a0_3 a0_4 a0_5 a0_6 a0_7 a0_8 l0_9 l0_10 a0_11 a0_12 a0_13=some r)∧D (kq≤k)∧D (Kd.R Kd.string 9 wc w.heap.size (fun k_=>some k_≠Fix.o Ao7 t31.length co7) (L Ao8 t16.length co8) t16)∧D (Kd.R Kd.string 9 wc w.heap.size (fun k_=>some k_≠Fix.o Ao8 t16.length co8) (L Ao7 t31.length co7) t31)∧D (Kd.Q k40 40 wc w.heap.size (fun _=>True) (L Ao4 t17.length co4) t49)∧D (Kd.Q (Kd.int .i64) 3 wc w.heap.size (fun k_=>some k_≠Fix.o Ao6 t27.length co6) (L Ao5 t26.length co5) t50)∧D (Kd.Q (Kd.int .i64) 3 wc w.heap.size (fun k_=>some k_≠Fix.o Ao5 t26.length co5) (L Ao6 t27.length co6) t51)∧D (wc.heap[gb1]? =some (.cells #[(L A0_0 l0_0.length c0_0),V I a0_1,V I a0_2,V I a0_3,O a0_4,V I a0_5,O a0_6,V I a0_7,V I a0_8,(L A0_9 l0_9.length c0_9),(L A0_10 l0_10.length c0_10),V I a0_11,O a0_12,V I a0_13] 55 (0,0)))∧D (wc.heap[gb2]? =some (.cells #[(L Ao4 t17.length co4),V I t18,V I t19,V I t20,O t21,V I t22,O t23,V I t24,V I t25,(L Ao5 t26.length co5),(L Ao6 t27.length co6),V I t28,O t29,V I t30] 45 (0,0)))∧D (Below w.heap.size w wc))
    case first=>
     have H:=HC2.out
     clear HC2
     by_cases c4:t48<0
     ·rw[if_pos c4]at H
      have c4b0:decide (t48<0)=true:=decide_eq_true c4
      clear c4
      (first|rw[c4b0]|(simp only[i64_w,i32_w];rw[c4b0])|skip)
      have H':=C H
      clear H
      go_wp2
      go_meet
      case rel=>exact⟨_,(true),rS,H',⟨oL⟩,⟨fR HO4.out⟩,⟨fR HO8.out⟩,⟨Kd.Q_mono (fQ HO5.out) (fun _ hk=>trivial)⟩,⟨Kd.Q_mono (fQ HO6.out) (fun _ hk=>hk.1.1.2.2)⟩,⟨Kd.Q_mono (fQ HO7.out) (fun _ hk=>hk.1.1.2.2)⟩,⟨bK BK1.out⟩,⟨bK BK2.out⟩,⟨uB⟩⟩
     ·rw[if_neg c4]at H
      have c4b0:decide (t48<0)=false:=decide_eq_false c4
      clear c4
      (first|rw[c4b0]|(simp only[i64_w,i32_w];rw[c4b0])|skip)
      obtain⟨t52,A10,H⟩:=bnd H
      have H':=C H
      clear H
      go_wp2_with (first|(go_at_call 23;(with_reducible refine(laws_eqStringS.calls k _ _ t31 _ _ t16 t52 _ ?side1 ?side2 ?side3 ?side4 A10.out).mono ?_);(case side1=>exact uC (Kd.R_reads' HO8.out).2.2);(case side2=>exact(Kd.R_reads' HO8.out).2.1);(case side3=>exact uC (Kd.R_reads' HO4.out).2.2);(case side4=>exact(Kd.R_reads' HO4.out).2.1);rintro e w' ⟨rfl,⟨nd,rfl⟩⟩))
      go_meet
      case rel=>exact⟨_,(!t52),rS,H',⟨oL⟩,⟨fR HO4.out⟩,⟨fR HO8.out⟩,⟨Kd.Q_mono (fQ HO5.out) (fun _ hk=>trivial)⟩,⟨Kd.Q_mono (fQ HO6.out) (fun _ hk=>hk.1.1.2.2)⟩,⟨Kd.Q_mono (fQ HO7.out) (fun _ hk=>hk.1.1.2.2)⟩,⟨bK BK1.out⟩,⟨bK BK2.out⟩,⟨uB⟩⟩
    case rest=>
     clear HC2
     obtain⟨kq,x1_16,rfl,HA,HJ1,HO_1,HO_2,HO_3,HO_4,HO_5,BK1,BK2,HB⟩:=hcut
     have hl1_16:=(Kd.Q_reads' HO_3.out).1
     rw[hl1_16]at HO_3
     (try simp only[hl1_16])
     (try simp only[hl1_16]at BK1)
     (try simp only[hl1_16]at BK2)
     (try simp only[hl1_16]at HO_1)
     (try simp only[hl1_16]at HO_2)
     (try simp only[hl1_16]at HO_4)
     (try simp only[hl1_16]at HO_5)
     have hl2_16:=(Kd.Q_reads' HO_4.out).1
     rw[hl2_16]at HO_4
     (try simp only[hl2_16])
     (try simp only[hl2_16]at BK1)
     (try simp only[hl2_16]at BK2)
     (try simp only[hl2_16]at HO_1)
     (try simp only[hl2_16]at HO_2)
     (try simp only[hl2_16]at HO_3)
     (try simp only[hl2_16]at HO_5)
     have hl3_16:=(Kd.Q_reads' HO_5.out).1
     rw[hl3_16]at HO_5
     (try simp only[hl3_16])
     (try simp only[hl3_16]at BK1)
     (try simp only[hl3_16]at BK2)
     (try simp only[hl3_16]at HO_1)
     (try simp only[hl3_16]at HO_2)
     (try simp only[hl3_16]at HO_3)
     (try simp only[hl3_16]at HO_4)
     cases kq with
     |zero=>exact absurd HA.out (by simp[laws_FnExactFormatMachine.j0])
     |succ kj16=>
      have H:=HA.out
      clear HA
      simp only[laws_FnExactFormatMachine.j0]at H
      by_cases c4:x1_16=true
      ·subst c4
       rw[if_pos rfl]at H
       exact absurd (hT.out ▸ H) (by simp)
      ·replace c4:=Bool.eq_false_iff.mpr c4
       subst c4
       rw[if_neg Bool.false_ne_true]at H
       obtain⟨⟨t52,t53⟩,A10,H⟩:=bnd H
       dsimp only at H
       obtain⟨t54,A11,H⟩:=bnd H
       by_cases c5:t54<0
       ·rw[if_pos c5]at H
        have c5b0:decide (t54<0)=true:=decide_eq_true c5
        clear c5
        exact absurd (hT.out ▸ H) (by simp)
       ·rw[if_neg c5]at H
        have c5b0:decide (t54<0)=false:=decide_eq_false c5
        clear c5
        by_cases c6:t54=t52
        ·rw[if_pos c6]at H
         have c6b0:(t54==t52)=true:=beq_iff_eq.mpr c6
         have c6b1:(t54 !=t52)=false:=bne_eq_false_iff_eq.mpr c6
         clear c6
         obtain⟨⟨t55,t56,t57,t58,t59,t60,t61,t62,t63,t64,t65,t66,t67,t68⟩,A12,H⟩:=bnd H
         dsimp only at H
         obtain⟨t69,A13,H⟩:=bnd H
         obtain⟨t70,A14,H⟩:=bnd H
         by_cases c7:t70=true
         ·subst c7
          rw[if_pos rfl]at H
          obtain⟨t71,A15,H⟩:=bnd H
          by_cases c8:t71<0
          ·rw[if_pos c8]at H
           have c8b0:decide (t71<0)=true:=decide_eq_true c8
           clear c8
           exact absurd (hT.out ▸ H) (by simp)
          ·rw[if_neg c8]at H
           have c8b0:decide (t71<0)=false:=decide_eq_false c8
           clear c8
           by_cases c9:t71=t52
           ·rw[if_pos c9]at H
            have c9b0:(t71==t52)=true:=beq_iff_eq.mpr c9
            have c9b1:(t71 !=t52)=false:=bne_eq_false_iff_eq.mpr c9
            clear c9
            obtain rfl:=Option.some.inj H
            go_wp2_with (first|((with_reducible refine F (f:=26) rfl ?_);refine gl 26 (some 45) Tryd.func26 #[L Ao7 t31.length co7,V I 1] ?_;(with_reducible refine(laws_markStringS.calls kj16 (fun k_=>some k_=(L Ao7 t31.length co7:Value).ownBlock) (L Ao7 t31.length co7) t31 1 t52 t53 w _ ?side1 ?side2 A10.out).mono ?_);(case side1=>exact uB);(case side2=>exact Kd.Q_of_R (Kd.R_tight rfl HO_2.out));rintro e w14 ⟨rfl,hy1,hb,hkp⟩;refine⟨_,rfl,?_⟩;replace HO_1:=C (X (ok':=fun k_=>some k_≠(L Ao7 t31.length co7:Value).ownBlock) (Kd.R_keptB (HO_1.out) hkp (fun k_ hk_ hs_=>(hk_) hs_)) (fun k_ hk_=>hk_.1));replace HO_3:=C (Kd.Q_mono (ok':=fun k_=>True) (Kd.Q_keptB ((Kd.Q_apart' HO_3.out (Kd.R_typed HO_2.out) (by decide))) hkp (fun k_ hk_ hs_=>(hk_.2) hs_)) (fun k_ hk_=>trivial));replace HO_4:=C (Kd.Q_mono (ok':=fun k_=>some k_≠(L Ao6 t51.length co6:Value).ownBlock) (Kd.Q_keptB ((Kd.Q_apart' HO_4.out (Kd.R_typed HO_2.out) (by decide))) hkp (fun k_ hk_ hs_=>(hk_.2) hs_)) (fun k_ hk_=>hk_.1.1));replace HO_5:=C (Kd.Q_mono (ok':=fun k_=>some k_≠(L Ao5 t50.length co5:Value).ownBlock) (Kd.Q_keptB ((Kd.Q_apart' HO_5.out (Kd.R_typed HO_2.out) (by decide))) hkp (fun k_ hk_ hs_=>(hk_.2) hs_)) (fun k_ hk_=>hk_.1.1));replace BK1:=C (blk_kept (uK BK1.out) hkp (fun hs_=>(fun e_=>(Kd.R_ne HO_2.out BK1.out (by decide)) e_) hs_));replace BK2:=C (blk_kept (uK BK2.out) hkp (fun hs_=>(fun e_=>(Kd.R_ne HO_2.out BK2.out (by decide)) e_) hs_));replace HO_2:=C (Ext.Q_reok rfl hy1 (fun k_ e_=>HO_2.out.1 k_ e_));replace HB:=C (hb);clear hb;(try clear hkp);(try clear hy1))|((with_reducible refine F (f:=27) rfl ?_);refine goesL_ (some 48) rfl rfl Tryd.func27 (by kernel_rfl) rfl #[L Ao7 t53.length co7,V I 1] rfl (by(try simp only[List.map_toArray,List.map_cons,List.map_nil]);first|done|(rw[show t53.length=t31.length from(Kd.Q_reads' HO_2.out).1.symm]<;>rfl)|rfl|(simp only[List.length_drop,List.length_take];rfl)) ?_;(with_reducible refine(laws_heldStringS.calls kj16 _ _ t53 1 t54 _ ?side1 ?side2 A11.out).mono ?_);(case side1=>exact uC (Kd.Q_reads' HO_2.out).2.2);(case side2=>rw[show t53.length=t31.length from(Kd.Q_reads' HO_2.out).1.symm];exact(Kd.Q_reads' HO_2.out).2.1);rintro e w15 ⟨rfl,hb⟩;refine⟨_,rfl,?_⟩;replace HO_1:=eR HO_1 hb;replace HO_2:=eQ HO_2 hb;replace HO_3:=eQ HO_3 hb;replace HO_4:=eQ HO_4 hb;replace HO_5:=eQ HO_5 hb;replace BK1:=eK BK1 hb;replace BK2:=eK BK2 hb;replace HB:=eB hb;clear hb;have hnb2:=NB1_378.out;have hnc2:=NB2_333.out;have h_:=d14 BK1.out;(repeat(obtain⟨_,h_⟩:=h_)))|((with_reducible refine F (f:=22) rfl ?_);refine gl 22 (some 55) Tryd.func22 #[G #[L A0_0 l0_0.length c0_0,V I a0_1,V I a0_2,V I a0_3,O a0_4,V I a0_5,O a0_6,V I a0_7,V I a0_8,L A0_9 l0_9.length c0_9,L A0_10 l0_10.length c0_10,V I a0_11,O a0_12,V I a0_13]] ?_;(with_reducible refine(laws_toMachine.calls kj16 _ _ l0_0 a0_1 a0_2 a0_3 a0_4 a0_5 a0_6 a0_7 a0_8 _ _ l0_9 _ _ l0_10 a0_11 a0_12 a0_13 t55 t56 t57 t58 t59 t60 t61 t62 t63 t64 t65 t66 t67 t68 _ ?side1 ?side2 ?side3 ?side4 ?side5 ?side6 A12.out).mono ?_);(case side1=>exact uC (Z HR1_0.out HB.out));(case side2=>exact HC1_0.out);(case side3=>exact uC (Z HR1_9.out HB.out));(case side4=>exact HC1_9.out);(case side5=>exact uC (Z HR1_10.out HB.out));(case side6=>exact HC1_10.out);rintro e w16 ⟨v12,v13,v14,rfl,ho1,ho2,ho3,hb⟩;refine⟨_,rfl,?_⟩;have HO12:=C (Kd.R_lower (Kd.R_new' ho1 (Kd.Q_lt (uQ HO_3.out))) (below_size uB));have HO13:=C (Kd.R_lower (Kd.R_new' (Kd.R_new' ho2 (Kd.Q_lt (uQ HO_4.out))) (Kd.Q_lt (uQ HO_5.out))) (below_size uB));have HO14:=C (Kd.R_lower (Kd.R_new' (Kd.R_new' ho3 (Kd.Q_lt (uQ HO_4.out))) (Kd.Q_lt (uQ HO_5.out))) (below_size uB));replace HO_1:=eR HO_1 hb;replace HO_2:=eQ HO_2 hb;replace HO_3:=C (Kd.Q_elder' (uQ HO_3.out) (Kd.R_base ho1) hb);replace HO_4:=C (Kd.Q_mono (Kd.Q_told (Kd.Q_told (Kd.Q_old (uQ HO_4.out) hb) (Kd.R_base ho2)) (Kd.R_base ho3)) (fun _ h_=>h_.1));replace HO_5:=C (Kd.Q_mono (Kd.Q_told (Kd.Q_told (Kd.Q_old (uQ HO_5.out) hb) (Kd.R_base ho2)) (Kd.R_base ho3)) (fun _ h_=>h_.1));replace BK1:=eK BK1 hb;replace BK2:=eK BK2 hb;replace HB:=eB hb;clear hb ho1 ho2 ho3;obtain⟨Ao12,co12,eo12⟩:=U HO12.out;subst eo12;obtain⟨Ao13,co13,eo13⟩:=U HO13.out;subst eo13;obtain⟨Ao14,co14,eo14⟩:=U HO14.out;subst eo14)|((with_reducible refine F (f:=18) rfl ?_);refine gl 18 (some 56) Tryd.func18 #[G #[L Ao12 t55.length co12,V I t56,V I t57,V I t58,O t59,V I t60,O t61,V I t62,V I t63,L Ao13 t64.length co13,L Ao14 t65.length co14,V I t66,O t67,V I t68]] ?_;(with_reducible refine(impl_FormatMachine.calls kj16 _ _ t55 t56 t57 t58 t59 t60 t61 t62 t63 _ _ t64 _ _ t65 t66 t67 t68 t69 _ ?side1 ?side2 ?side3 ?side4 ?side5 ?side6 A13.out (Ito.on hTab.out uB)).mono ?_);(case side1=>exact uC (Kd.R_reads' HO12.out).2.2);(case side2=>exact(Kd.R_reads' HO12.out).2.1);(case side3=>exact uC (Kd.R_reads' HO13.out).2.2);(case side4=>exact(Kd.R_reads' HO13.out).2.1);(case side5=>exact uC (Kd.R_reads' HO14.out).2.2);(case side6=>exact(Kd.R_reads' HO14.out).2.1);rintro e w17 ⟨v15,rfl,ho1,hb⟩;refine⟨_,rfl,?_⟩;have HO15:=C (Kd.R_lower (Kd.R_new' (Kd.R_new' ho1 (Kd.R_lt (uR HO_1.out))) (Kd.Q_lt (uQ HO_2.out))) (below_size uB));replace HO_1:=C (Kd.R_elder' (uR HO_1.out) (Kd.R_base ho1) hb);replace HO_2:=C (Kd.Q_elder' (uQ HO_2.out) (Kd.R_base ho1) hb);replace HO_3:=eQ HO_3 hb;replace HO_4:=eQ HO_4 hb;replace HO_5:=eQ HO_5 hb;replace HO12:=eR HO12 hb;replace HO13:=eR HO13 hb;replace HO14:=eR HO14 hb;replace BK1:=eK BK1 hb;replace BK2:=eK BK2 hb;replace HB:=eB hb;clear hb ho1;obtain⟨Ao15,co15,eo15⟩:=U HO15.out;subst eo15)|((with_reducible refine F (f:=23) rfl ?_);refine gl 23 (some 59) Tryd.func23 #[L Ao15 t69.length co15,L Ao8 t16.length co8] ?_;(with_reducible refine(laws_eqStringS.calls kj16 _ _ t69 _ _ t16 true _ ?side1 ?side2 ?side3 ?side4 A14.out).mono ?_);(case side1=>exact uC (Kd.R_reads' HO15.out).2.2);(case side2=>exact(Kd.R_reads' HO15.out).2.1);(case side3=>exact uC (Kd.R_reads' HO_1.out).2.2);(case side4=>exact(Kd.R_reads' HO_1.out).2.1);rintro e w' ⟨rfl,⟨nd,rfl⟩⟩;refine⟨_,rfl,?_⟩)|((with_reducible refine F (f:=27) rfl ?_);refine goesL_ (some 63) rfl rfl Tryd.func27 (by kernel_rfl) rfl #[L Ao7 t53.length co7,V I 1] rfl (by(try simp only[List.map_toArray,List.map_cons,List.map_nil]);first|done|(rw[show t53.length=t31.length from(Kd.Q_reads' HO_2.out).1.symm]<;>rfl)|rfl|(simp only[List.length_drop,List.length_take];rfl)) ?_;(with_reducible refine(laws_heldStringS.calls kj16 _ _ t53 1 t71 _ ?side1 ?side2 A15.out).mono ?_);(case side1=>exact uC (Kd.Q_reads' HO_2.out).2.2);(case side2=>rw[show t53.length=t31.length from(Kd.Q_reads' HO_2.out).1.symm];exact(Kd.Q_reads' HO_2.out).2.1);rintro e w18 ⟨rfl,hb⟩;refine⟨_,rfl,?_⟩;replace HO_1:=eR HO_1 hb;replace HO_2:=eQ HO_2 hb;replace HO_3:=eQ HO_3 hb;replace HO_4:=eQ HO_4 hb;replace HO_5:=eQ HO_5 hb;replace HO12:=eR HO12 hb;replace HO13:=eR HO13 hb;replace HO14:=eR HO14 hb;replace HO15:=eR HO15 hb;replace BK1:=eK BK1 hb;replace BK2:=eK BK2 hb;replace HB:=eB hb;clear hb))
            go_ret
            exact⟨rE,uB⟩
           ·rw[if_neg c9]at H
            have c9b0:(t71==t52)=false:=beq_eq_false_iff_ne.mpr c9
            have c9b1:(t71 !=t52)=true:=bne_iff_ne.mpr c9
            exact absurd (hT.out ▸ H) (by simp)
         ·replace c7:=Bool.eq_false_iff.mpr c7
          subst c7
          rw[if_neg Bool.false_ne_true]at H
          exact absurd (hT.out ▸ H) (by simp)
        ·rw[if_neg c6]at H
         have c6b0:(t54==t52)=false:=beq_eq_false_iff_ne.mpr c6
         have c6b1:(t54 !=t52)=true:=bne_iff_ne.mpr c6
         exact absurd (hT.out ▸ H) (by simp)
   ·replace c3:=Bool.eq_false_iff.mpr c3
    subst c3
    rw[if_neg Bool.false_ne_true]at H
    exact absurd (hT.out ▸ H) (by simp)
  ·replace c2:=Bool.eq_false_iff.mpr c2
   subst c2
   rw[if_neg Bool.false_ne_true]at H
   exact absurd (hT.out ▸ H) (by simp)
end Go.Proofs.YtblceimapaenlaaDoor.PFnExactFormatMachine
