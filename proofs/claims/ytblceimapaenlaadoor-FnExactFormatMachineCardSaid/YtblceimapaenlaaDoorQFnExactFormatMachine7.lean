/- FnExactFormatMachine: the functions that the law reaches, each as a plain Lean function, and that a call does what it says. Made by a program of this work (wip/mp.py) out of the kit's print. No condition. -/
import Derived.Test.YtblceimapaenlaaDoorQFnExactFormatMachine0
import Derived.Test.YtblceimapaenlaaDoorQFnExactFormatMachine6
namespace Go.Proofs.YtblceimapaenlaaDoor.PFnExactFormatMachine
open Go.RowKit Go.Proofs.YtblceimapaenlaaDoorW.PrintWords Go.Proofs.YtblceimapaenlaaDoorW.PrintLast Go.Proofs.YtblceimapaenlaaDoorW.PrintMore
open Fix (bnd d14 d6 dB eB eK eQ fQ gE gl gs hx lR nG nL nu ou pu rE rS uB uC uK uP uQ)
open Go.Value renaming int→V,slice→L,bool→O,agg→G
open Go.IntKind renaming i64→I
open Go.Proofs.YtblceimapaenlaaDoorW.PrintWords.Aside0 renaming mk→C
open Go.Proofs.YtblceimapaenlaaDoorW.PrintWords renaming Aside0→D,gate_callee→F
open Go.Proofs.YtblceimapaenlaaDoorW.PrintWords.Kd renaming C_below→Z
attribute [local go_sem] max2_int min2_int max_two min_two max_three min_three max_four min_four
attribute [local go_sem] Fix.isSome_setCell
set_option linter.unusedVariables false
set_option linter.unusedSimpArgs false
def laws_eqMachine.f (k:Nat) (l0_0:List (S40)) (a0_1:Int) (a0_2:Int) (a0_3:Int) (a0_4:Bool) (a0_5:Int) (a0_6:Bool) (a0_7:Int) (a0_8:Int) (l0_9:List Int) (l0_10:List Int) (a0_11:Int) (a0_12:Bool) (a0_13:Int) (l1_0:List (S40)) (a1_1:Int) (a1_2:Int) (a1_3:Int) (a1_4:Bool) (a1_5:Int) (a1_6:Bool) (a1_7:Int) (a1_8:Int) (l1_9:List Int) (l1_10:List Int) (a1_11:Int) (a1_12:Bool) (a1_13:Int):Option (Bool):=(laws_eqJobS.f k l0_0 l1_0).bind fun t305=>(if t305=true then((laws_eqJob.f a0_1 a0_2 a0_3 a0_4 a0_5 a0_6 a1_1 a1_2 a1_3 a1_4 a1_5 a1_6).bind fun t306=>(if t306=true then((laws_eqLine.f k a0_7 a0_8 l0_9 l0_10 a0_11 a0_12 a1_7 a1_8 l1_9 l1_10 a1_11 a1_12).bind fun t307=>(if t307=true then(if a0_13=a1_13 then(some true) else(some false)) else(some false))) else(some false))) else(some false))
theorem laws_eqMachine.mono:∀a0 a1 a2 a3 a4 a5 a6 a7 a8 a9 a10 a11 a12 a13 a14 a15 a16 a17 a18 a19 a20 a21 a22 a23 a24 a25 a26 a27 k,LeO (laws_eqMachine.f k a0 a1 a2 a3 a4 a5 a6 a7 a8 a9 a10 a11 a12 a13 a14 a15 a16 a17 a18 a19 a20 a21 a22 a23 a24 a25 a26 a27) (laws_eqMachine.f (k+1) a0 a1 a2 a3 a4 a5 a6 a7 a8 a9 a10 a11 a12 a13 a14 a15 a16 a17 a18 a19 a20 a21 a22 a23 a24 a25 a26 a27):=by
 intro a0 a1 a2 a3 a4 a5 a6 a7 a8 a9 a10 a11 a12 a13 a14 a15 a16 a17 a18 a19 a20 a21 a22 a23 a24 a25 a26 a27 k
 unfold laws_eqMachine.f
 repeat' first|(with_reducible first|apply laws_eqJobS.mono|apply laws_eqLine.mono|exact LeO.refl _|exact LeO.none _|refine LeO.ite ?_ ?_|refine LeO.bind ?_ (fun _=> ?_))|exact LeO.none _|refine LeO.ite ?_ ?_|refine LeO.bind ?_ (fun _=> ?_)
theorem laws_eqMachine.W1 {p:Prop} (h:p:=by
  go_enter Tryd.func24,Tryd.ntmps24
  go_wp2_with (first|((with_reducible refine gate_dst (N:=2) rfl ?_);refine Fix.be 2 #[L A0_0 l0_0.length c0_0,V I a0_1,V I a0_2,V I a0_3,O a0_4,V I a0_5,O a0_6,V I a0_7,V I a0_8,L A0_9 l0_9.length c0_9,L A0_10 l0_10.length c0_10,V I a0_11,O a0_12,V I a0_13] 45 ?_;intro gb1 hg w1 BK1 hb;have GW1:D (w.heap.size≤gb1):=gE hg;have GE1:=GW1;replace HB:=eB hb;clear hb hg)|((with_reducible refine gate_dst (N:=3) rfl ?_);refine Fix.be 3 #[L A1_0 l1_0.length c1_0,V I a1_1,V I a1_2,V I a1_3,O a1_4,V I a1_5,O a1_6,V I a1_7,V I a1_8,L A1_9 l1_9.length c1_9,L A1_10 l1_10.length c1_10,V I a1_11,O a1_12,V I a1_13] 45 ?_;intro gb2 hg w2 BK2 hb;have GW2:D (w.heap.size≤gb2):=gE hg;have GE2:=GW2;have NB1_304:=nL hg BK1;have NB2_303:=nG hg BK1;replace BK1:=eK BK1 hb;replace HB:=eB hb;clear hb hg;have hnb1:=NB1_304.out;have hnc1:=NB2_303.out;have h_:=d14 BK1.out;(repeat(obtain⟨_,h_⟩:=h_));have h_:=d14 BK2.out;(repeat(obtain⟨_,h_⟩:=h_)))|((with_reducible refine F (f:=50) rfl ?_);refine gl 50 (some 9) Tryd.func50 #[L A0_0 l0_0.length c0_0,L A1_0 l1_0.length c1_0] ?_;(with_reducible refine(laws_eqJobS.calls k _ _ l0_0 _ _ l1_0 true _ ?side1 ?side2 ?side3 ?side4 A2.out).mono ?_);(case side1=>exact uC (Z HR1_0.out HB.out));(case side2=>exact HC1_0.out);(case side3=>exact uC (Z HR2_0.out HB.out));(case side4=>exact HC2_0.out);rintro e w3 ⟨rfl,hb⟩;refine⟨_,rfl,?_⟩;replace BK1:=eK BK1 hb;replace BK2:=eK BK2 hb;replace HB:=eB hb;clear hb;have h_:=d14 BK1.out;(repeat(obtain⟨_,h_⟩:=h_));have h_:=d14 BK2.out;(repeat(obtain⟨_,h_⟩:=h_)))|((with_reducible refine F (f:=51) rfl ?_);refine gl 51 (some 15) Tryd.func51 #[G #[V I a0_1,V I a0_2,V I a0_3,O a0_4,V I a0_5,O a0_6],G #[V I a1_1,V I a1_2,V I a1_3,O a1_4,V I a1_5,O a1_6]] ?_;(with_reducible refine(laws_eqJob.calls a0_1 a0_2 a0_3 a0_4 a0_5 a0_6 a1_1 a1_2 a1_3 a1_4 a1_5 a1_6 true _ A3.out).mono ?_);rintro e w4 ⟨rfl,hb⟩;refine⟨_,rfl,?_⟩;replace BK1:=eK BK1 hb;replace BK2:=eK BK2 hb;replace HB:=eB hb;clear hb;have h_:=d14 BK1.out;(repeat(obtain⟨_,h_⟩:=h_));have h_:=d14 BK2.out;(repeat(obtain⟨_,h_⟩:=h_)))|((with_reducible refine F (f:=52) rfl ?_);refine gl 52 (some 21) Tryd.func52 #[G #[V I a0_7,V I a0_8,L A0_9 l0_9.length c0_9,L A0_10 l0_10.length c0_10,V I a0_11,O a0_12],G #[V I a1_7,V I a1_8,L A1_9 l1_9.length c1_9,L A1_10 l1_10.length c1_10,V I a1_11,O a1_12]] ?_;(with_reducible refine(laws_eqLine.calls k a0_7 a0_8 _ _ l0_9 _ _ l0_10 a0_11 a0_12 a1_7 a1_8 _ _ l1_9 _ _ l1_10 a1_11 a1_12 true _ ?side1 ?side2 ?side3 ?side4 ?side5 ?side6 ?side7 ?side8 A4.out).mono ?_);(case side1=>exact uC (Z HR1_9.out HB.out));(case side2=>exact HC1_9.out);(case side3=>exact uC (Z HR1_10.out HB.out));(case side4=>exact HC1_10.out);(case side5=>exact uC (Z HR2_9.out HB.out));(case side6=>exact HC2_9.out);(case side7=>exact uC (Z HR2_10.out HB.out));(case side8=>exact HC2_10.out);rintro e w5 ⟨rfl,hb⟩;refine⟨_,rfl,?_⟩;replace BK1:=eK BK1 hb;replace BK2:=eK BK2 hb;replace HB:=eB hb;clear hb;have h_:=d14 BK1.out;(repeat(obtain⟨_,h_⟩:=h_));have h_:=d14 BK2.out;(repeat(obtain⟨_,h_⟩:=h_))))
  go_ret
  exact⟨rE,uB⟩):p:=h
set_option maxHeartbeats 40000000 in
set_option maxRecDepth 100000 in
theorem laws_eqMachine.calls (k:Nat) (A0_0:Option Addr) (c0_0:Nat) (l0_0:List (S40)) (a0_1:Int) (a0_2:Int) (a0_3:Int) (a0_4:Bool) (a0_5:Int) (a0_6:Bool) (a0_7:Int) (a0_8:Int) (A0_9:Option Addr) (c0_9:Nat) (l0_9:List Int) (A0_10:Option Addr) (c0_10:Nat) (l0_10:List Int) (a0_11:Int) (a0_12:Bool) (a0_13:Int) (A1_0:Option Addr) (c1_0:Nat) (l1_0:List (S40)) (a1_1:Int) (a1_2:Int) (a1_3:Int) (a1_4:Bool) (a1_5:Int) (a1_6:Bool) (a1_7:Int) (a1_8:Int) (A1_9:Option Addr) (c1_9:Nat) (l1_9:List Int) (A1_10:Option Addr) (c1_10:Nat) (l1_10:List Int) (a1_11:Int) (a1_12:Bool) (a1_13:Int) (r:Bool) (w:World) (hr0_0:Kd.C k40 w A0_0 l0_0.length l0_0) (hc0_0:l0_0.length≤c0_0) (hr0_9:Kd.C (Kd.int .i64) w A0_9 l0_9.length l0_9) (hc0_9:l0_9.length≤c0_9) (hr0_10:Kd.C (Kd.int .i64) w A0_10 l0_10.length l0_10) (hc0_10:l0_10.length≤c0_10) (hr1_0:Kd.C k40 w A1_0 l1_0.length l1_0) (hc1_0:l1_0.length≤c1_0) (hr1_9:Kd.C (Kd.int .i64) w A1_9 l1_9.length l1_9) (hc1_9:l1_9.length≤c1_9) (hr1_10:Kd.C (Kd.int .i64) w A1_10 l1_10.length l1_10) (hc1_10:l1_10.length≤c1_10) (h:laws_eqMachine.f k l0_0 a0_1 a0_2 a0_3 a0_4 a0_5 a0_6 a0_7 a0_8 l0_9 l0_10 a0_11 a0_12 a0_13 l1_0 a1_1 a1_2 a1_3 a1_4 a1_5 a1_6 a1_7 a1_8 l1_9 l1_10 a1_11 a1_12 a1_13=some r):
  Calls Tryd.prog 24 #[G #[L A0_0 l0_0.length c0_0,V I a0_1,V I a0_2,V I a0_3,O a0_4,V I a0_5,O a0_6,V I a0_7,V I a0_8,L A0_9 l0_9.length c0_9,L A0_10 l0_10.length c0_10,V I a0_11,O a0_12,V I a0_13],G #[L A1_0 l1_0.length c1_0,V I a1_1,V I a1_2,V I a1_3,O a1_4,V I a1_5,O a1_6,V I a1_7,V I a1_8,L A1_9 l1_9.length c1_9,L A1_10 l1_10.length c1_10,V I a1_11,O a1_12,V I a1_13]] w fun e w'=>e=.returned (O r)∧Below w.heap.size w w':=by
 have hu1:=Tryd.underlying45
 have hu2:=Tryd.underlying40
 have hu3:=Tryd.underlying43
 have HR1_0:=C hr0_0
 have HC1_0:=C hc0_0
 (try clear hr0_0);(try clear hc0_0)
 have HR1_9:=C hr0_9
 have HC1_9:=C hc0_9
 (try clear hr0_9);(try clear hc0_9)
 have HR1_10:=C hr0_10
 have HC1_10:=C hc0_10
 (try clear hr0_10);(try clear hc0_10)
 have HR2_0:=C hr1_0
 have HC2_0:=C hc1_0
 (try clear hr1_0);(try clear hc1_0)
 have HR2_9:=C hr1_9
 have HC2_9:=C hc1_9
 (try clear hr1_9);(try clear hc1_9)
 have HR2_10:=C hr1_10
 have HC2_10:=C hc1_10
 (try clear hr1_10);(try clear hc1_10)
 have HB:=C (Below.refl w.heap.size w)
 have H:=h
 unfold laws_eqMachine.f at H
 clear h
 obtain⟨t1,A2,H⟩:=bnd H
 by_cases c2:t1=true
 ·subst c2
  rw[if_pos rfl]at H
  obtain⟨t2,A3,H⟩:=bnd H
  by_cases c3:t2=true
  ·subst c3
   rw[if_pos rfl]at H
   obtain⟨t3,A4,H⟩:=bnd H
   by_cases c4:t3=true
   ·subst c4
    rw[if_pos rfl]at H
    by_cases c5:a0_13=a1_13
    ·rw[if_pos c5]at H
     have c5b0:(a0_13==a1_13)=true:=beq_iff_eq.mpr c5
     have c5b1:(a0_13 !=a1_13)=false:=bne_eq_false_iff_eq.mpr c5
     clear c5
     obtain rfl:=Option.some.inj H
     exact laws_eqMachine.W1
    ·rw[if_neg c5]at H
     have c5b0:(a0_13==a1_13)=false:=beq_eq_false_iff_ne.mpr c5
     have c5b1:(a0_13 !=a1_13)=true:=bne_iff_ne.mpr c5
     obtain rfl:=Option.some.inj H
     exact laws_eqMachine.W1
   ·replace c4:=Bool.eq_false_iff.mpr c4
    subst c4
    rw[if_neg Bool.false_ne_true]at H
    obtain rfl:=Option.some.inj H
    go_enter Tryd.func24,Tryd.ntmps24
    go_wp2_with (first|((with_reducible refine gate_dst (N:=2) rfl ?_);refine Fix.be 2 #[L A0_0 l0_0.length c0_0,V I a0_1,V I a0_2,V I a0_3,O a0_4,V I a0_5,O a0_6,V I a0_7,V I a0_8,L A0_9 l0_9.length c0_9,L A0_10 l0_10.length c0_10,V I a0_11,O a0_12,V I a0_13] 45 ?_;intro gb1 hg w1 BK1 hb;have GW1:D (w.heap.size≤gb1):=gE hg;have GE1:=GW1;replace HB:=eB hb;clear hb hg)|((with_reducible refine gate_dst (N:=3) rfl ?_);refine Fix.be 3 #[L A1_0 l1_0.length c1_0,V I a1_1,V I a1_2,V I a1_3,O a1_4,V I a1_5,O a1_6,V I a1_7,V I a1_8,L A1_9 l1_9.length c1_9,L A1_10 l1_10.length c1_10,V I a1_11,O a1_12,V I a1_13] 45 ?_;intro gb2 hg w2 BK2 hb;have GW2:D (w.heap.size≤gb2):=gE hg;have GE2:=GW2;have NB1_304:=nL hg BK1;have NB2_303:=nG hg BK1;replace BK1:=eK BK1 hb;replace HB:=eB hb;clear hb hg;have hnb1:=NB1_304.out;have hnc1:=NB2_303.out;have h_:=d14 BK1.out;(repeat(obtain⟨_,h_⟩:=h_));have h_:=d14 BK2.out;(repeat(obtain⟨_,h_⟩:=h_)))|((with_reducible refine F (f:=50) rfl ?_);refine gl 50 (some 9) Tryd.func50 #[L A0_0 l0_0.length c0_0,L A1_0 l1_0.length c1_0] ?_;(with_reducible refine(laws_eqJobS.calls k _ _ l0_0 _ _ l1_0 true _ ?side1 ?side2 ?side3 ?side4 A2.out).mono ?_);(case side1=>exact uC (Z HR1_0.out HB.out));(case side2=>exact HC1_0.out);(case side3=>exact uC (Z HR2_0.out HB.out));(case side4=>exact HC2_0.out);rintro e w3 ⟨rfl,hb⟩;refine⟨_,rfl,?_⟩;replace BK1:=eK BK1 hb;replace BK2:=eK BK2 hb;replace HB:=eB hb;clear hb;have h_:=d14 BK1.out;(repeat(obtain⟨_,h_⟩:=h_));have h_:=d14 BK2.out;(repeat(obtain⟨_,h_⟩:=h_)))|((with_reducible refine F (f:=51) rfl ?_);refine gl 51 (some 15) Tryd.func51 #[G #[V I a0_1,V I a0_2,V I a0_3,O a0_4,V I a0_5,O a0_6],G #[V I a1_1,V I a1_2,V I a1_3,O a1_4,V I a1_5,O a1_6]] ?_;(with_reducible refine(laws_eqJob.calls a0_1 a0_2 a0_3 a0_4 a0_5 a0_6 a1_1 a1_2 a1_3 a1_4 a1_5 a1_6 true _ A3.out).mono ?_);rintro e w4 ⟨rfl,hb⟩;refine⟨_,rfl,?_⟩;replace BK1:=eK BK1 hb;replace BK2:=eK BK2 hb;replace HB:=eB hb;clear hb;have h_:=d14 BK1.out;(repeat(obtain⟨_,h_⟩:=h_));have h_:=d14 BK2.out;(repeat(obtain⟨_,h_⟩:=h_)))|((with_reducible refine F (f:=52) rfl ?_);refine gl 52 (some 21) Tryd.func52 #[G #[V I a0_7,V I a0_8,L A0_9 l0_9.length c0_9,L A0_10 l0_10.length c0_10,V I a0_11,O a0_12],G #[V I a1_7,V I a1_8,L A1_9 l1_9.length c1_9,L A1_10 l1_10.length c1_10,V I a1_11,O a1_12]] ?_;(with_reducible refine(laws_eqLine.calls k a0_7 a0_8 _ _ l0_9 _ _ l0_10 a0_11 a0_12 a1_7 a1_8 _ _ l1_9 _ _ l1_10 a1_11 a1_12 false _ ?side1 ?side2 ?side3 ?side4 ?side5 ?side6 ?side7 ?side8 A4.out).mono ?_);(case side1=>exact uC (Z HR1_9.out HB.out));(case side2=>exact HC1_9.out);(case side3=>exact uC (Z HR1_10.out HB.out));(case side4=>exact HC1_10.out);(case side5=>exact uC (Z HR2_9.out HB.out));(case side6=>exact HC2_9.out);(case side7=>exact uC (Z HR2_10.out HB.out));(case side8=>exact HC2_10.out);rintro e w5 ⟨rfl,hb⟩;refine⟨_,rfl,?_⟩;replace BK1:=eK BK1 hb;replace BK2:=eK BK2 hb;replace HB:=eB hb;clear hb))
    go_ret
    exact⟨rE,uB⟩
  ·replace c3:=Bool.eq_false_iff.mpr c3
   subst c3
   rw[if_neg Bool.false_ne_true]at H
   obtain rfl:=Option.some.inj H
   go_enter Tryd.func24,Tryd.ntmps24
   go_wp2_with (first|((with_reducible refine gate_dst (N:=2) rfl ?_);refine Fix.be 2 #[L A0_0 l0_0.length c0_0,V I a0_1,V I a0_2,V I a0_3,O a0_4,V I a0_5,O a0_6,V I a0_7,V I a0_8,L A0_9 l0_9.length c0_9,L A0_10 l0_10.length c0_10,V I a0_11,O a0_12,V I a0_13] 45 ?_;intro gb1 hg w1 BK1 hb;have GW1:D (w.heap.size≤gb1):=gE hg;have GE1:=GW1;replace HB:=eB hb;clear hb hg)|((with_reducible refine gate_dst (N:=3) rfl ?_);refine Fix.be 3 #[L A1_0 l1_0.length c1_0,V I a1_1,V I a1_2,V I a1_3,O a1_4,V I a1_5,O a1_6,V I a1_7,V I a1_8,L A1_9 l1_9.length c1_9,L A1_10 l1_10.length c1_10,V I a1_11,O a1_12,V I a1_13] 45 ?_;intro gb2 hg w2 BK2 hb;have GW2:D (w.heap.size≤gb2):=gE hg;have GE2:=GW2;have NB1_304:=nL hg BK1;have NB2_303:=nG hg BK1;replace BK1:=eK BK1 hb;replace HB:=eB hb;clear hb hg;have hnb1:=NB1_304.out;have hnc1:=NB2_303.out;have h_:=d14 BK1.out;(repeat(obtain⟨_,h_⟩:=h_));have h_:=d14 BK2.out;(repeat(obtain⟨_,h_⟩:=h_)))|((with_reducible refine F (f:=50) rfl ?_);refine gl 50 (some 9) Tryd.func50 #[L A0_0 l0_0.length c0_0,L A1_0 l1_0.length c1_0] ?_;(with_reducible refine(laws_eqJobS.calls k _ _ l0_0 _ _ l1_0 true _ ?side1 ?side2 ?side3 ?side4 A2.out).mono ?_);(case side1=>exact uC (Z HR1_0.out HB.out));(case side2=>exact HC1_0.out);(case side3=>exact uC (Z HR2_0.out HB.out));(case side4=>exact HC2_0.out);rintro e w3 ⟨rfl,hb⟩;refine⟨_,rfl,?_⟩;replace BK1:=eK BK1 hb;replace BK2:=eK BK2 hb;replace HB:=eB hb;clear hb;have h_:=d14 BK1.out;(repeat(obtain⟨_,h_⟩:=h_));have h_:=d14 BK2.out;(repeat(obtain⟨_,h_⟩:=h_)))|((with_reducible refine F (f:=51) rfl ?_);refine gl 51 (some 15) Tryd.func51 #[G #[V I a0_1,V I a0_2,V I a0_3,O a0_4,V I a0_5,O a0_6],G #[V I a1_1,V I a1_2,V I a1_3,O a1_4,V I a1_5,O a1_6]] ?_;(with_reducible refine(laws_eqJob.calls a0_1 a0_2 a0_3 a0_4 a0_5 a0_6 a1_1 a1_2 a1_3 a1_4 a1_5 a1_6 false _ A3.out).mono ?_);rintro e w4 ⟨rfl,hb⟩;refine⟨_,rfl,?_⟩;replace BK1:=eK BK1 hb;replace BK2:=eK BK2 hb;replace HB:=eB hb;clear hb))
   go_ret
   exact⟨rE,uB⟩
 ·replace c2:=Bool.eq_false_iff.mpr c2
  subst c2
  rw[if_neg Bool.false_ne_true]at H
  obtain rfl:=Option.some.inj H
  go_enter Tryd.func24,Tryd.ntmps24
  go_wp2_with (first|((with_reducible refine gate_dst (N:=2) rfl ?_);refine Fix.be 2 #[L A0_0 l0_0.length c0_0,V I a0_1,V I a0_2,V I a0_3,O a0_4,V I a0_5,O a0_6,V I a0_7,V I a0_8,L A0_9 l0_9.length c0_9,L A0_10 l0_10.length c0_10,V I a0_11,O a0_12,V I a0_13] 45 ?_;intro gb1 hg w1 BK1 hb;have GW1:D (w.heap.size≤gb1):=gE hg;have GE1:=GW1;replace HB:=eB hb;clear hb hg)|((with_reducible refine gate_dst (N:=3) rfl ?_);refine Fix.be 3 #[L A1_0 l1_0.length c1_0,V I a1_1,V I a1_2,V I a1_3,O a1_4,V I a1_5,O a1_6,V I a1_7,V I a1_8,L A1_9 l1_9.length c1_9,L A1_10 l1_10.length c1_10,V I a1_11,O a1_12,V I a1_13] 45 ?_;intro gb2 hg w2 BK2 hb;have GW2:D (w.heap.size≤gb2):=gE hg;have GE2:=GW2;have NB1_304:=nL hg BK1;have NB2_303:=nG hg BK1;replace BK1:=eK BK1 hb;replace HB:=eB hb;clear hb hg;have hnb1:=NB1_304.out;have hnc1:=NB2_303.out;have h_:=d14 BK1.out;(repeat(obtain⟨_,h_⟩:=h_));have h_:=d14 BK2.out;(repeat(obtain⟨_,h_⟩:=h_)))|((with_reducible refine F (f:=50) rfl ?_);refine gl 50 (some 9) Tryd.func50 #[L A0_0 l0_0.length c0_0,L A1_0 l1_0.length c1_0] ?_;(with_reducible refine(laws_eqJobS.calls k _ _ l0_0 _ _ l1_0 false _ ?side1 ?side2 ?side3 ?side4 A2.out).mono ?_);(case side1=>exact uC (Z HR1_0.out HB.out));(case side2=>exact HC1_0.out);(case side3=>exact uC (Z HR2_0.out HB.out));(case side4=>exact HC2_0.out);rintro e w3 ⟨rfl,hb⟩;refine⟨_,rfl,?_⟩;replace BK1:=eK BK1 hb;replace BK2:=eK BK2 hb;replace HB:=eB hb;clear hb))
  go_ret
  exact⟨rE,uB⟩
def laws_markJobS.l0:Nat→List (S40)→Int→Int→Option (Int×(List (S40)))
 |0,_,_,_=>none
 |k+1,x0,x1,x5=>if x5<(x0.length:Int) then(if 0≤x5 then((some (x0.set (x5:Int).toNat (⟨x1,(rd_T40 x0 x5).f1,(rd_T40 x0 x5).f2,(rd_T40 x0 x5).f3,(rd_T40 x0 x5).f4,(rd_T40 x0 x5).f5⟩:S40):List (S40))).bind fun y308=>((some (y308.set (x5:Int).toNat (⟨(rd_T40 y308 x5).f0,wrap64 (x1+1),(rd_T40 y308 x5).f2,(rd_T40 y308 x5).f3,(rd_T40 y308 x5).f4,(rd_T40 y308 x5).f5⟩:S40):List (S40))).bind fun y309=>((some (y309.set (x5:Int).toNat (⟨(rd_T40 y309 x5).f0,(rd_T40 y309 x5).f1,wrap64 ((wrap64 (x1+1))+1),(rd_T40 y309 x5).f3,(rd_T40 y309 x5).f4,(rd_T40 y309 x5).f5⟩:S40):List (S40))).bind fun y310=>((some (y310.set (x5:Int).toNat (⟨(rd_T40 y310 x5).f0,(rd_T40 y310 x5).f1,(rd_T40 y310 x5).f2,((Int.tmod (wrap64 ((wrap64 ((wrap64 (x1+1))+1))+1)) 3)==0),(rd_T40 y310 x5).f4,(rd_T40 y310 x5).f5⟩:S40):List (S40))).bind fun y311=>((some (y311.set (x5:Int).toNat (⟨(rd_T40 y311 x5).f0,(rd_T40 y311 x5).f1,(rd_T40 y311 x5).f2,(rd_T40 y311 x5).f3,wrap64 ((wrap64 ((wrap64 ((wrap64 (x1+1))+1))+1))+1),(rd_T40 y311 x5).f5⟩:S40):List (S40))).bind fun y312=>(laws_markJobS.l0 k (y312.set (x5:Int).toNat (⟨(rd_T40 y312 x5).f0,(rd_T40 y312 x5).f1,(rd_T40 y312 x5).f2,(rd_T40 y312 x5).f3,(rd_T40 y312 x5).f4,((Int.tmod (wrap64 ((wrap64 ((wrap64 ((wrap64 ((wrap64 (x1+1))+1))+1))+1))+1)) 3)==0)⟩:S40)) (wrap64 ((wrap64 ((wrap64 ((wrap64 ((wrap64 ((wrap64 (x1+1))+1))+1))+1))+1))+1)) (wrap64 (x5+1)))))))) else(none)) else(some (x1,x0))
def laws_markJobS.f (k:Nat) (l0:List (S40)) (a1:Int):Option (Int×(List (S40))):=laws_markJobS.l0 k l0 a1 0
theorem laws_markJobS.mono_l:∀k,(∀y0 y1 y2,LeO (laws_markJobS.l0 k y0 y1 y2) (laws_markJobS.l0 (k+1) y0 y1 y2))
 |0=>fun _ _ _ r h=>by simp[laws_markJobS.l0]at h
 |k+1=>by
  have ih0:=laws_markJobS.mono_l k
  ·intro y0 y1 y2
   unfold laws_markJobS.l0
   repeat' first|(with_reducible first|apply ih0|exact LeO.refl _|exact LeO.none _|refine LeO.ite ?_ ?_|refine LeO.bind ?_ (fun _=> ?_))|apply ih0|exact LeO.none _|refine LeO.ite ?_ ?_|refine LeO.bind ?_ (fun _=> ?_)
theorem laws_markJobS.mono:∀a0 a1 k,LeO (laws_markJobS.f k a0 a1) (laws_markJobS.f (k+1) a0 a1):=by
 intro a0 a1 k
 have ih0:=laws_markJobS.mono_l k
 unfold laws_markJobS.f
 repeat' first|(with_reducible first|apply ih0|exact LeO.refl _|exact LeO.none _|refine LeO.ite ?_ ?_|refine LeO.bind ?_ (fun _=> ?_))|apply ih0|exact LeO.none _|refine LeO.ite ?_ ?_|refine LeO.bind ?_ (fun _=> ?_)
set_option maxHeartbeats 40000000 in
set_option maxRecDepth 100000 in
theorem laws_markJobS.calls (k:Nat) (P0_:Nat→Prop) (u9000_:Value) (l0:List (S40)) (a1:Int) (r1:Int) (r2:List (S40)) (w0 w:World) (hB:Below w0.heap.size w0 w) (ho0:Kd.Q k40 40 w w0.heap.size P0_ u9000_ l0) (h:laws_markJobS.f k l0 a1=some (r1,r2)):
  Calls Tryd.prog 53 #[u9000_,V I a1] w fun e w'=>e=.returned (V I r1)∧Kd.Q k40 40 w' w0.heap.size (fun k_=>(P0_ k_∨w.heap.size≤k_)) u9000_ r2∧Below w0.heap.size w0 w'∧Kept w w' (fun k_=>P0_ k_):=by
 have HO1:=C (show Kd.Q k40 40 w w0.heap.size (fun k_=>(P0_ k_∨w.heap.size≤k_)) u9000_ l0 from Kd.Q_mono ho0 (fun k_ hk=>(.inl hk)))
 have HK:=C (Kept.refl w (fun k_=>P0_ k_))
 have HW1:=C hB.size
 have HB:=C hB
 clear hB
 have H:=h
 unfold laws_markJobS.f at H
 clear h
 have H':=C H
 clear H
 go_enter Tryd.func53,Tryd.ntmps53
 go_wp2
 go_loopg [1,5] k (fun kq v1 v5 w'=>∃(x1_1:List (S40)) (x2_1:Int) (x3_1:Int),v1=V I x2_1∧v5=V I x3_1∧D (laws_markJobS.l0 kq x1_1 x2_1 x3_1=some (r1,r2))∧D (kq≤k)∧D (Kd.Q k40 40 w' w0.heap.size (fun k_=>(P0_ k_∨w.heap.size≤k_)) u9000_ x1_1)∧D (Kept w w' (fun k_=>P0_ k_))∧D (Below w0.heap.size w0 w'))
 case atStart=>exact⟨(l0),(a1),(0),rS,rS,H',⟨Nat.le_refl _⟩,⟨fQ HO1.out⟩,⟨uP⟩,⟨uB⟩⟩
 case round=>
  clear H'
  obtain⟨x1_1,x2_1,x3_1,rfl,rfl,HA,HK1,HO_1,HK,HB⟩:=hrel
  cases gk with
  |zero=>exact absurd HA.out (by simp[laws_markJobS.l0])
  |succ k1=>
   have H:=HA.out
   clear HA
   simp only[laws_markJobS.l0]at H
   by_cases c1:x3_1<(x1_1.length:Int)
   ·rw[if_pos c1]at H
    have c1b0:decide (x3_1<(x1_1.length:Int))=true:=decide_eq_true c1
    clear c1
    by_cases c2:0≤x3_1
    ·rw[if_pos c2]at H
     have c2b0:decide (0≤x3_1)=true:=decide_eq_true c2
     clear c2
     obtain⟨y1,hy1⟩:∃y_:List (S40),y_=(x1_1.set (x3_1:Int).toNat (⟨x2_1,(rd_T40 x1_1 x3_1).f1,(rd_T40 x1_1 x3_1).f2,(rd_T40 x1_1 x3_1).f3,(rd_T40 x1_1 x3_1).f4,(rd_T40 x1_1 x3_1).f5⟩:S40)):=⟨_,rfl⟩
     replace H:((some (y1.set (x3_1:Int).toNat (⟨(rd_T40 y1 x3_1).f0,wrap64 (x2_1+1),(rd_T40 y1 x3_1).f2,(rd_T40 y1 x3_1).f3,(rd_T40 y1 x3_1).f4,(rd_T40 y1 x3_1).f5⟩:S40):List (S40))).bind fun y2=>((some (y2.set (x3_1:Int).toNat (⟨(rd_T40 y2 x3_1).f0,(rd_T40 y2 x3_1).f1,wrap64 ((wrap64 (x2_1+1))+1),(rd_T40 y2 x3_1).f3,(rd_T40 y2 x3_1).f4,(rd_T40 y2 x3_1).f5⟩:S40):List (S40))).bind fun y3=>((some (y3.set (x3_1:Int).toNat (⟨(rd_T40 y3 x3_1).f0,(rd_T40 y3 x3_1).f1,(rd_T40 y3 x3_1).f2,((Int.tmod (wrap64 ((wrap64 ((wrap64 (x2_1+1))+1))+1)) 3)==0),(rd_T40 y3 x3_1).f4,(rd_T40 y3 x3_1).f5⟩:S40):List (S40))).bind fun y4=>((some (y4.set (x3_1:Int).toNat (⟨(rd_T40 y4 x3_1).f0,(rd_T40 y4 x3_1).f1,(rd_T40 y4 x3_1).f2,(rd_T40 y4 x3_1).f3,wrap64 ((wrap64 ((wrap64 ((wrap64 (x2_1+1))+1))+1))+1),(rd_T40 y4 x3_1).f5⟩:S40):List (S40))).bind fun y5=>(laws_markJobS.l0 k1 (y5.set (x3_1:Int).toNat (⟨(rd_T40 y5 x3_1).f0,(rd_T40 y5 x3_1).f1,(rd_T40 y5 x3_1).f2,(rd_T40 y5 x3_1).f3,(rd_T40 y5 x3_1).f4,((Int.tmod (wrap64 ((wrap64 ((wrap64 ((wrap64 ((wrap64 (x2_1+1))+1))+1))+1))+1)) 3)==0)⟩:S40)) (wrap64 ((wrap64 ((wrap64 ((wrap64 ((wrap64 ((wrap64 (x2_1+1))+1))+1))+1))+1))+1)) (wrap64 (x3_1+1)))))))=some (r1,r2):=by first|(rw[hy1];with_reducible exact H)|(have H1_:=(Option.bind_some _ _).symm.trans H;rw[hy1];with_reducible exact H1_)|(have H1_:=(Option.bind_some _ _).symm.trans H;with_reducible exact H1_)|with_reducible exact H|(rw[hy1];exact H)|exact H
     have Ny1:=C hy1
     clear hy1
     obtain⟨y2,hy2⟩:∃y_:List (S40),y_=(y1.set (x3_1:Int).toNat (⟨(rd_T40 y1 x3_1).f0,wrap64 (x2_1+1),(rd_T40 y1 x3_1).f2,(rd_T40 y1 x3_1).f3,(rd_T40 y1 x3_1).f4,(rd_T40 y1 x3_1).f5⟩:S40)):=⟨_,rfl⟩
     replace H:((some (y2.set (x3_1:Int).toNat (⟨(rd_T40 y2 x3_1).f0,(rd_T40 y2 x3_1).f1,wrap64 ((wrap64 (x2_1+1))+1),(rd_T40 y2 x3_1).f3,(rd_T40 y2 x3_1).f4,(rd_T40 y2 x3_1).f5⟩:S40):List (S40))).bind fun y3=>((some (y3.set (x3_1:Int).toNat (⟨(rd_T40 y3 x3_1).f0,(rd_T40 y3 x3_1).f1,(rd_T40 y3 x3_1).f2,((Int.tmod (wrap64 ((wrap64 ((wrap64 (x2_1+1))+1))+1)) 3)==0),(rd_T40 y3 x3_1).f4,(rd_T40 y3 x3_1).f5⟩:S40):List (S40))).bind fun y4=>((some (y4.set (x3_1:Int).toNat (⟨(rd_T40 y4 x3_1).f0,(rd_T40 y4 x3_1).f1,(rd_T40 y4 x3_1).f2,(rd_T40 y4 x3_1).f3,wrap64 ((wrap64 ((wrap64 ((wrap64 (x2_1+1))+1))+1))+1),(rd_T40 y4 x3_1).f5⟩:S40):List (S40))).bind fun y5=>(laws_markJobS.l0 k1 (y5.set (x3_1:Int).toNat (⟨(rd_T40 y5 x3_1).f0,(rd_T40 y5 x3_1).f1,(rd_T40 y5 x3_1).f2,(rd_T40 y5 x3_1).f3,(rd_T40 y5 x3_1).f4,((Int.tmod (wrap64 ((wrap64 ((wrap64 ((wrap64 ((wrap64 (x2_1+1))+1))+1))+1))+1)) 3)==0)⟩:S40)) (wrap64 ((wrap64 ((wrap64 ((wrap64 ((wrap64 ((wrap64 (x2_1+1))+1))+1))+1))+1))+1)) (wrap64 (x3_1+1))))))=some (r1,r2):=by first|(rw[hy2];with_reducible exact H)|(have H1_:=(Option.bind_some _ _).symm.trans H;rw[hy2];with_reducible exact H1_)|(have H1_:=(Option.bind_some _ _).symm.trans H;with_reducible exact H1_)|with_reducible exact H|(rw[hy2];exact H)|exact H
     have Ny2:=C hy2
     clear hy2
     obtain⟨y3,hy3⟩:∃y_:List (S40),y_=(y2.set (x3_1:Int).toNat (⟨(rd_T40 y2 x3_1).f0,(rd_T40 y2 x3_1).f1,wrap64 ((wrap64 (x2_1+1))+1),(rd_T40 y2 x3_1).f3,(rd_T40 y2 x3_1).f4,(rd_T40 y2 x3_1).f5⟩:S40)):=⟨_,rfl⟩
     replace H:((some (y3.set (x3_1:Int).toNat (⟨(rd_T40 y3 x3_1).f0,(rd_T40 y3 x3_1).f1,(rd_T40 y3 x3_1).f2,((Int.tmod (wrap64 ((wrap64 ((wrap64 (x2_1+1))+1))+1)) 3)==0),(rd_T40 y3 x3_1).f4,(rd_T40 y3 x3_1).f5⟩:S40):List (S40))).bind fun y4=>((some (y4.set (x3_1:Int).toNat (⟨(rd_T40 y4 x3_1).f0,(rd_T40 y4 x3_1).f1,(rd_T40 y4 x3_1).f2,(rd_T40 y4 x3_1).f3,wrap64 ((wrap64 ((wrap64 ((wrap64 (x2_1+1))+1))+1))+1),(rd_T40 y4 x3_1).f5⟩:S40):List (S40))).bind fun y5=>(laws_markJobS.l0 k1 (y5.set (x3_1:Int).toNat (⟨(rd_T40 y5 x3_1).f0,(rd_T40 y5 x3_1).f1,(rd_T40 y5 x3_1).f2,(rd_T40 y5 x3_1).f3,(rd_T40 y5 x3_1).f4,((Int.tmod (wrap64 ((wrap64 ((wrap64 ((wrap64 ((wrap64 (x2_1+1))+1))+1))+1))+1)) 3)==0)⟩:S40)) (wrap64 ((wrap64 ((wrap64 ((wrap64 ((wrap64 ((wrap64 (x2_1+1))+1))+1))+1))+1))+1)) (wrap64 (x3_1+1)))))=some (r1,r2):=by first|(rw[hy3];with_reducible exact H)|(have H1_:=(Option.bind_some _ _).symm.trans H;rw[hy3];with_reducible exact H1_)|(have H1_:=(Option.bind_some _ _).symm.trans H;with_reducible exact H1_)|with_reducible exact H|(rw[hy3];exact H)|exact H
     have Ny3:=C hy3
     clear hy3
     obtain⟨y4,hy4⟩:∃y_:List (S40),y_=(y3.set (x3_1:Int).toNat (⟨(rd_T40 y3 x3_1).f0,(rd_T40 y3 x3_1).f1,(rd_T40 y3 x3_1).f2,((Int.tmod (wrap64 ((wrap64 ((wrap64 (x2_1+1))+1))+1)) 3)==0),(rd_T40 y3 x3_1).f4,(rd_T40 y3 x3_1).f5⟩:S40)):=⟨_,rfl⟩
     replace H:((some (y4.set (x3_1:Int).toNat (⟨(rd_T40 y4 x3_1).f0,(rd_T40 y4 x3_1).f1,(rd_T40 y4 x3_1).f2,(rd_T40 y4 x3_1).f3,wrap64 ((wrap64 ((wrap64 ((wrap64 (x2_1+1))+1))+1))+1),(rd_T40 y4 x3_1).f5⟩:S40):List (S40))).bind fun y5=>(laws_markJobS.l0 k1 (y5.set (x3_1:Int).toNat (⟨(rd_T40 y5 x3_1).f0,(rd_T40 y5 x3_1).f1,(rd_T40 y5 x3_1).f2,(rd_T40 y5 x3_1).f3,(rd_T40 y5 x3_1).f4,((Int.tmod (wrap64 ((wrap64 ((wrap64 ((wrap64 ((wrap64 (x2_1+1))+1))+1))+1))+1)) 3)==0)⟩:S40)) (wrap64 ((wrap64 ((wrap64 ((wrap64 ((wrap64 ((wrap64 (x2_1+1))+1))+1))+1))+1))+1)) (wrap64 (x3_1+1))))=some (r1,r2):=by first|(rw[hy4];with_reducible exact H)|(have H1_:=(Option.bind_some _ _).symm.trans H;rw[hy4];with_reducible exact H1_)|(have H1_:=(Option.bind_some _ _).symm.trans H;with_reducible exact H1_)|with_reducible exact H|(rw[hy4];exact H)|exact H
     have Ny4:=C hy4
     clear hy4
     obtain⟨y5,hy5⟩:∃y_:List (S40),y_=(y4.set (x3_1:Int).toNat (⟨(rd_T40 y4 x3_1).f0,(rd_T40 y4 x3_1).f1,(rd_T40 y4 x3_1).f2,(rd_T40 y4 x3_1).f3,wrap64 ((wrap64 ((wrap64 ((wrap64 (x2_1+1))+1))+1))+1),(rd_T40 y4 x3_1).f5⟩:S40)):=⟨_,rfl⟩
     replace H:(laws_markJobS.l0 k1 (y5.set (x3_1:Int).toNat (⟨(rd_T40 y5 x3_1).f0,(rd_T40 y5 x3_1).f1,(rd_T40 y5 x3_1).f2,(rd_T40 y5 x3_1).f3,(rd_T40 y5 x3_1).f4,((Int.tmod (wrap64 ((wrap64 ((wrap64 ((wrap64 ((wrap64 (x2_1+1))+1))+1))+1))+1)) 3)==0)⟩:S40)) (wrap64 ((wrap64 ((wrap64 ((wrap64 ((wrap64 ((wrap64 (x2_1+1))+1))+1))+1))+1))+1)) (wrap64 (x3_1+1)))=some (r1,r2):=by first|(rw[hy5];with_reducible exact H)|(have H1_:=(Option.bind_some _ _).symm.trans H;rw[hy5];with_reducible exact H1_)|(have H1_:=(Option.bind_some _ _).symm.trans H;with_reducible exact H1_)|with_reducible exact H|(rw[hy5];exact H)|exact H
     have Ny5:=C hy5
     clear hy5
     obtain⟨y6,hy6⟩:∃y_:List (S40),y_=(y5.set (x3_1:Int).toNat (⟨(rd_T40 y5 x3_1).f0,(rd_T40 y5 x3_1).f1,(rd_T40 y5 x3_1).f2,(rd_T40 y5 x3_1).f3,(rd_T40 y5 x3_1).f4,((Int.tmod (wrap64 ((wrap64 ((wrap64 ((wrap64 ((wrap64 (x2_1+1))+1))+1))+1))+1)) 3)==0)⟩:S40)):=⟨_,rfl⟩
     replace H:(laws_markJobS.l0 k1 y6 (wrap64 ((wrap64 ((wrap64 ((wrap64 ((wrap64 ((wrap64 (x2_1+1))+1))+1))+1))+1))+1)) (wrap64 (x3_1+1)))=some (r1,r2):=by first|(rw[hy6];with_reducible exact H)|(have H1_:=(Option.bind_some _ _).symm.trans H;rw[hy6];with_reducible exact H1_)|(have H1_:=(Option.bind_some _ _).symm.trans H;with_reducible exact H1_)|with_reducible exact H|(rw[hy6];exact H)|exact H
     have Ny6:=C hy6
     clear hy6
     have H':=C H
     clear H
     obtain⟨Ao1,co1,eo1,_⟩:=Kd.Q_slice HO_1.out
     subst eo1
     have p1:0≤(x3_1:Int):=of_decide_eq_true (by first|(with_reducible assumption)|assumption)
     have q1:(x3_1:Int)<((x1_1.length:Int):Int):=of_decide_eq_true (by first|(with_reducible assumption)|assumption)
     obtain⟨go1,oo1,co2,eo2,gb1,gl1,cl1,HG1⟩:=Kd.Q_form HO_1.out (by omega)
     (first|cases eo2|(injection eo2 with ea_ en_ ec_;(first|subst ea_|(injection ea_ with ea_;subst ea_));subst ec_;clear en_))
     have GB1:=C gb1
     have GG1:=C HG1
     clear gb1 gl1 HG1
     have HMgo1:=C (show(P0_ go1∨w.heap.size≤go1) from(HO_1.out.1 _ rfl))
     obtain⟨ce1,hcl1,hM1,hcc1,hfr1⟩:=Kd.Q_elem HO_1.out z40 (x3_1:Int) p1 q1
     obtain rfl:=k40_openM hM1
     have hx1_0:wr.cell? ⟨go1,oo1+(x3_1:Int).toNat * 6,none⟩=some (V I ((rd_T40 x1_1 x3_1).f0)):=hcc1 0 _ rfl
     have hx1_1:wr.cell? ⟨go1,oo1+(x3_1:Int).toNat * 6+1,none⟩=some (V I ((rd_T40 x1_1 x3_1).f1)):=hcc1 1 _ rfl
     have hx1_2:wr.cell? ⟨go1,oo1+(x3_1:Int).toNat * 6+2,none⟩=some (V I ((rd_T40 x1_1 x3_1).f2)):=hcc1 2 _ rfl
     have hx1_3:wr.cell? ⟨go1,oo1+(x3_1:Int).toNat * 6+3,none⟩=some (O ((rd_T40 x1_1 x3_1).f3)):=hcc1 3 _ rfl
     have hx1_4:wr.cell? ⟨go1,oo1+(x3_1:Int).toNat * 6+4,none⟩=some (V I ((rd_T40 x1_1 x3_1).f4)):=hcc1 4 _ rfl
     have hx1_5:wr.cell? ⟨go1,oo1+(x3_1:Int).toNat * 6+5,none⟩=some (O ((rd_T40 x1_1 x3_1).f5)):=hcc1 5 _ rfl
     have hf1_0:wr.frozen? ⟨go1,oo1+(x3_1:Int).toNat * 6,none⟩=false:=hfr1 0
     have hf1_1:wr.frozen? ⟨go1,oo1+(x3_1:Int).toNat * 6+1,none⟩=false:=hfr1 1
     have hf1_2:wr.frozen? ⟨go1,oo1+(x3_1:Int).toNat * 6+2,none⟩=false:=hfr1 2
     have hf1_3:wr.frozen? ⟨go1,oo1+(x3_1:Int).toNat * 6+3,none⟩=false:=hfr1 3
     have hf1_4:wr.frozen? ⟨go1,oo1+(x3_1:Int).toNat * 6+4,none⟩=false:=hfr1 4
     have hf1_5:wr.frozen? ⟨go1,oo1+(x3_1:Int).toNat * 6+5,none⟩=false:=hfr1 5
     (try clear hcl1);(try clear hcc1);(try clear hfr1);(try clear hM1)
     replace p1:=eq_true p1
     replace q1:=eq_true q1
     have HX1:=C (show Kd.Q k40 40 wr w0.heap.size (fun k_=>(P0_ k_∨w.heap.size≤k_)) (L (some ⟨go1,oo1,none⟩) x1_1.length co1) x1_1 from(uQ HO_1.out))
     obtain⟨ce2,hcl2,hM2,hcc2,hfr2⟩:=Kd.Q_elem HX1.out z40 (x3_1:Int) (of_decide_eq_true (by first|(with_reducible assumption)|assumption)) (by have h_:(x3_1:Int)<((x1_1.length:Int):Int):=of_decide_eq_true (by first|(with_reducible assumption)|assumption);first|exact h_|(have e_:=(Kd.Q_reads' HO_1.out).1;omega)|simpa using h_)
     obtain rfl:=k40_openM hM2
     have HP1:=Kd.Q_seg HX1.out (x3_1:Int) (of_decide_eq_true (by first|(with_reducible assumption)|assumption)) (by have h_:(x3_1:Int)<((x1_1.length:Int):Int):=of_decide_eq_true (by first|(with_reducible assumption)|assumption);first|exact h_|(have e_:=(Kd.Q_reads' HO_1.out).1;omega)|simpa using h_) (seg:= [V I x2_1]) (j:=0) hcl2 hcc2 (show 1≤6 from by decide) (x':=(⟨x2_1,(rd_T40 x1_1 x3_1).f1,(rd_T40 x1_1 x3_1).f2,(rd_T40 x1_1 x3_1).f3,(rd_T40 x1_1 x3_1).f4,(rd_T40 x1_1 x3_1).f5⟩:S40)) (k40_mkM _ _ _ (⟨x2_1,(rd_T40 x1_1 x3_1).f1,(rd_T40 x1_1 x3_1).f2,(rd_T40 x1_1 x3_1).f3,(rd_T40 x1_1 x3_1).f4,(rd_T40 x1_1 x3_1).f5⟩:S40)) (fun _ hk=>hk)
     have hx2_0:=hcc2 0 _ rfl
     (try simp only[show(k40).sz=6 from rfl,Nat.mul_one,Nat.add_zero]at hx2_0)
     have hf2_0:=hfr2 0
     (try simp only[show(k40).sz=6 from rfl,Nat.mul_one,Nat.add_zero]at hf2_0)
     (try clear hcl2);(try clear hcc2);(try clear hfr2);(try clear hM2)
     go_wp2_with (first|((with_reducible refine gate_store (t:=3) (p:=16) rfl ?_);refine store_event (t:=3) (p:=16) (v:= ?vo_w1) (w1:=(wr.setCell ⟨go1,oo1+(x3_1:Int).toNat * 6,none⟩ (V I x2_1))) ?hg ?ho ?hn ?hr ?_;(case ho=>rfl);(case hg=>rfl);(case hn=>rfl);(case hr=>exact Fix.hr);intro w2 hw;have hg:wr.grownBy w2 (some go1):=(by rw[hw];exact HP1.2);have hp_:Kd.Q k40 40 w2 w0.heap.size (fun k_=>(P0_ k_∨w.heap.size≤k_)) (L (some ⟨go1,oo1,none⟩) x1_1.length co1) y1:=(by rw[hw,Ny1.out];exact HP1.1);clear HP1;replace HB:=C ((by rw[hw];exact below_set (HB.out) GB1.out:Below w0.heap.size w0 w2));replace HK:=C (Kept.of_grown (S:=(fun k_=>P0_ k_)) hg (show Kept w _ _ from uP) (fun k_ e_=>(HO_1.out.1 k_ e_)));replace HO_1:=C (hp_);clear hg hw hp_;have p2:0≤(x3_1:Int):=of_decide_eq_true (by first|(with_reducible assumption)|assumption);have q2:(x3_1:Int)<((x1_1.length:Int):Int):=of_decide_eq_true (by first|(with_reducible assumption)|assumption);obtain⟨ce3,hcl3,hM3,hcc3,hfr3⟩:=Kd.Q_elem HO_1.out z40 (x3_1:Int) p2 q2;obtain rfl:=k40_openM hM3;have hx3_0:w2.cell? ⟨go1,oo1+(x3_1:Int).toNat * 6,none⟩=some (V I ((rd_T40 y1 x3_1).f0)):=hcc3 0 _ rfl;have hx3_1:w2.cell? ⟨go1,oo1+(x3_1:Int).toNat * 6+1,none⟩=some (V I ((rd_T40 y1 x3_1).f1)):=hcc3 1 _ rfl;have hx3_2:w2.cell? ⟨go1,oo1+(x3_1:Int).toNat * 6+2,none⟩=some (V I ((rd_T40 y1 x3_1).f2)):=hcc3 2 _ rfl;have hx3_3:w2.cell? ⟨go1,oo1+(x3_1:Int).toNat * 6+3,none⟩=some (O ((rd_T40 y1 x3_1).f3)):=hcc3 3 _ rfl;have hx3_4:w2.cell? ⟨go1,oo1+(x3_1:Int).toNat * 6+4,none⟩=some (V I ((rd_T40 y1 x3_1).f4)):=hcc3 4 _ rfl;have hx3_5:w2.cell? ⟨go1,oo1+(x3_1:Int).toNat * 6+5,none⟩=some (O ((rd_T40 y1 x3_1).f5)):=hcc3 5 _ rfl;have hf3_0:w2.frozen? ⟨go1,oo1+(x3_1:Int).toNat * 6,none⟩=false:=hfr3 0;have hf3_1:w2.frozen? ⟨go1,oo1+(x3_1:Int).toNat * 6+1,none⟩=false:=hfr3 1;have hf3_2:w2.frozen? ⟨go1,oo1+(x3_1:Int).toNat * 6+2,none⟩=false:=hfr3 2;have hf3_3:w2.frozen? ⟨go1,oo1+(x3_1:Int).toNat * 6+3,none⟩=false:=hfr3 3;have hf3_4:w2.frozen? ⟨go1,oo1+(x3_1:Int).toNat * 6+4,none⟩=false:=hfr3 4;have hf3_5:w2.frozen? ⟨go1,oo1+(x3_1:Int).toNat * 6+5,none⟩=false:=hfr3 5;(try clear hcl3);(try clear hcc3);(try clear hfr3);(try clear hM3);replace p2:=eq_true p2;replace q2:=eq_true q2;have HX2:=C (show Kd.Q k40 40 w2 w0.heap.size (fun k_=>(P0_ k_∨w.heap.size≤k_)) (L (some ⟨go1,oo1,none⟩) x1_1.length co1) y1 from(uQ HO_1.out));obtain⟨ce4,hcl4,hM4,hcc4,hfr4⟩:=Kd.Q_elem HX2.out z40 (x3_1:Int) (of_decide_eq_true (by first|(with_reducible assumption)|assumption)) (by have h_:(x3_1:Int)<((x1_1.length:Int):Int):=of_decide_eq_true (by first|(with_reducible assumption)|assumption);first|exact h_|(have e_:=(Kd.Q_reads' HO_1.out).1;omega)|simpa using h_);obtain rfl:=k40_openM hM4;have HP2:=Kd.Q_seg HX2.out (x3_1:Int) (of_decide_eq_true (by first|(with_reducible assumption)|assumption)) (by have h_:(x3_1:Int)<((x1_1.length:Int):Int):=of_decide_eq_true (by first|(with_reducible assumption)|assumption);first|exact h_|(have e_:=(Kd.Q_reads' HO_1.out).1;omega)|simpa using h_) (seg:= [V I (wrap64 (x2_1+1))]) (j:=1) hcl4 hcc4 (show 2≤6 from by decide) (x':=(⟨(rd_T40 y1 x3_1).f0,wrap64 (x2_1+1),(rd_T40 y1 x3_1).f2,(rd_T40 y1 x3_1).f3,(rd_T40 y1 x3_1).f4,(rd_T40 y1 x3_1).f5⟩:S40)) (k40_mkM _ _ _ (⟨(rd_T40 y1 x3_1).f0,wrap64 (x2_1+1),(rd_T40 y1 x3_1).f2,(rd_T40 y1 x3_1).f3,(rd_T40 y1 x3_1).f4,(rd_T40 y1 x3_1).f5⟩:S40)) (fun _ hk=>hk);have hx4_1:=hcc4 1 _ rfl;(try simp only[show(k40).sz=6 from rfl,Nat.mul_one,Nat.add_zero]at hx4_1);have hf4_1:=hfr4 1;(try simp only[show(k40).sz=6 from rfl,Nat.mul_one,Nat.add_zero]at hf4_1);(try clear hcl4);(try clear hcc4);(try clear hfr4);(try clear hM4))|((with_reducible refine gate_store (t:=3) (p:=23) rfl ?_);refine store_event (t:=3) (p:=23) (v:= ?vo_w2) (w1:=(w2.setCell ⟨go1,oo1+(x3_1:Int).toNat * 6+1,none⟩ (V I (wrap64 (x2_1+1))))) ?hg ?ho ?hn ?hr ?_;(case ho=>rfl);(case hg=>rfl);(case hn=>rfl);(case hr=>exact Fix.hr);intro w3 hw;have hg:w2.grownBy w3 (some go1):=(by rw[hw];exact HP2.2);have hp_:Kd.Q k40 40 w3 w0.heap.size (fun k_=>(P0_ k_∨w.heap.size≤k_)) (L (some ⟨go1,oo1,none⟩) x1_1.length co1) y2:=(by rw[hw,Ny2.out];exact HP2.1);clear HP2;replace HB:=C ((by rw[hw];exact below_set (HB.out) GB1.out:Below w0.heap.size w0 w3));replace HK:=C (Kept.of_grown (S:=(fun k_=>P0_ k_)) hg (show Kept w _ _ from uP) (fun k_ e_=>(HO_1.out.1 k_ e_)));replace HO_1:=C (hp_);clear hg hw hp_;have p3:0≤(x3_1:Int):=of_decide_eq_true (by first|(with_reducible assumption)|assumption);have q3:(x3_1:Int)<((x1_1.length:Int):Int):=of_decide_eq_true (by first|(with_reducible assumption)|assumption);obtain⟨ce5,hcl5,hM5,hcc5,hfr5⟩:=Kd.Q_elem HO_1.out z40 (x3_1:Int) p3 q3;obtain rfl:=k40_openM hM5;have hx5_0:w3.cell? ⟨go1,oo1+(x3_1:Int).toNat * 6,none⟩=some (V I ((rd_T40 y2 x3_1).f0)):=hcc5 0 _ rfl;have hx5_1:w3.cell? ⟨go1,oo1+(x3_1:Int).toNat * 6+1,none⟩=some (V I ((rd_T40 y2 x3_1).f1)):=hcc5 1 _ rfl;have hx5_2:w3.cell? ⟨go1,oo1+(x3_1:Int).toNat * 6+2,none⟩=some (V I ((rd_T40 y2 x3_1).f2)):=hcc5 2 _ rfl;have hx5_3:w3.cell? ⟨go1,oo1+(x3_1:Int).toNat * 6+3,none⟩=some (O ((rd_T40 y2 x3_1).f3)):=hcc5 3 _ rfl;have hx5_4:w3.cell? ⟨go1,oo1+(x3_1:Int).toNat * 6+4,none⟩=some (V I ((rd_T40 y2 x3_1).f4)):=hcc5 4 _ rfl;have hx5_5:w3.cell? ⟨go1,oo1+(x3_1:Int).toNat * 6+5,none⟩=some (O ((rd_T40 y2 x3_1).f5)):=hcc5 5 _ rfl;have hf5_0:w3.frozen? ⟨go1,oo1+(x3_1:Int).toNat * 6,none⟩=false:=hfr5 0;have hf5_1:w3.frozen? ⟨go1,oo1+(x3_1:Int).toNat * 6+1,none⟩=false:=hfr5 1;have hf5_2:w3.frozen? ⟨go1,oo1+(x3_1:Int).toNat * 6+2,none⟩=false:=hfr5 2;have hf5_3:w3.frozen? ⟨go1,oo1+(x3_1:Int).toNat * 6+3,none⟩=false:=hfr5 3;have hf5_4:w3.frozen? ⟨go1,oo1+(x3_1:Int).toNat * 6+4,none⟩=false:=hfr5 4;have hf5_5:w3.frozen? ⟨go1,oo1+(x3_1:Int).toNat * 6+5,none⟩=false:=hfr5 5;(try clear hcl5);(try clear hcc5);(try clear hfr5);(try clear hM5);replace p3:=eq_true p3;replace q3:=eq_true q3;have HX3:=C (show Kd.Q k40 40 w3 w0.heap.size (fun k_=>(P0_ k_∨w.heap.size≤k_)) (L (some ⟨go1,oo1,none⟩) x1_1.length co1) y2 from(uQ HO_1.out));obtain⟨ce6,hcl6,hM6,hcc6,hfr6⟩:=Kd.Q_elem HX3.out z40 (x3_1:Int) (of_decide_eq_true (by first|(with_reducible assumption)|assumption)) (by have h_:(x3_1:Int)<((x1_1.length:Int):Int):=of_decide_eq_true (by first|(with_reducible assumption)|assumption);first|exact h_|(have e_:=(Kd.Q_reads' HO_1.out).1;omega)|simpa using h_);obtain rfl:=k40_openM hM6;have HP3:=Kd.Q_seg HX3.out (x3_1:Int) (of_decide_eq_true (by first|(with_reducible assumption)|assumption)) (by have h_:(x3_1:Int)<((x1_1.length:Int):Int):=of_decide_eq_true (by first|(with_reducible assumption)|assumption);first|exact h_|(have e_:=(Kd.Q_reads' HO_1.out).1;omega)|simpa using h_) (seg:= [V I (wrap64 ((wrap64 (x2_1+1))+1))]) (j:=2) hcl6 hcc6 (show 3≤6 from by decide) (x':=(⟨(rd_T40 y2 x3_1).f0,(rd_T40 y2 x3_1).f1,wrap64 ((wrap64 (x2_1+1))+1),(rd_T40 y2 x3_1).f3,(rd_T40 y2 x3_1).f4,(rd_T40 y2 x3_1).f5⟩:S40)) (k40_mkM _ _ _ (⟨(rd_T40 y2 x3_1).f0,(rd_T40 y2 x3_1).f1,wrap64 ((wrap64 (x2_1+1))+1),(rd_T40 y2 x3_1).f3,(rd_T40 y2 x3_1).f4,(rd_T40 y2 x3_1).f5⟩:S40)) (fun _ hk=>hk);have hx6_2:=hcc6 2 _ rfl;(try simp only[show(k40).sz=6 from rfl,Nat.mul_one,Nat.add_zero]at hx6_2);have hf6_2:=hfr6 2;(try simp only[show(k40).sz=6 from rfl,Nat.mul_one,Nat.add_zero]at hf6_2);(try clear hcl6);(try clear hcc6);(try clear hfr6);(try clear hM6))|((with_reducible refine gate_store (t:=3) (p:=30) rfl ?_);refine store_event (t:=3) (p:=30) (v:= ?vo_w3) (w1:=(w3.setCell ⟨go1,oo1+(x3_1:Int).toNat * 6+2,none⟩ (V I (wrap64 ((wrap64 (x2_1+1))+1))))) ?hg ?ho ?hn ?hr ?_;(case ho=>rfl);(case hg=>rfl);(case hn=>rfl);(case hr=>exact Fix.hr);intro w4 hw;have hg:w3.grownBy w4 (some go1):=(by rw[hw];exact HP3.2);have hp_:Kd.Q k40 40 w4 w0.heap.size (fun k_=>(P0_ k_∨w.heap.size≤k_)) (L (some ⟨go1,oo1,none⟩) x1_1.length co1) y3:=(by rw[hw,Ny3.out];exact HP3.1);clear HP3;replace HB:=C ((by rw[hw];exact below_set (HB.out) GB1.out:Below w0.heap.size w0 w4));replace HK:=C (Kept.of_grown (S:=(fun k_=>P0_ k_)) hg (show Kept w _ _ from uP) (fun k_ e_=>(HO_1.out.1 k_ e_)));replace HO_1:=C (hp_);clear hg hw hp_;have p4:0≤(x3_1:Int):=of_decide_eq_true (by first|(with_reducible assumption)|assumption);have q4:(x3_1:Int)<((x1_1.length:Int):Int):=of_decide_eq_true (by first|(with_reducible assumption)|assumption);obtain⟨ce7,hcl7,hM7,hcc7,hfr7⟩:=Kd.Q_elem HO_1.out z40 (x3_1:Int) p4 q4;obtain rfl:=k40_openM hM7;have hx7_0:w4.cell? ⟨go1,oo1+(x3_1:Int).toNat * 6,none⟩=some (V I ((rd_T40 y3 x3_1).f0)):=hcc7 0 _ rfl;have hx7_1:w4.cell? ⟨go1,oo1+(x3_1:Int).toNat * 6+1,none⟩=some (V I ((rd_T40 y3 x3_1).f1)):=hcc7 1 _ rfl;have hx7_2:w4.cell? ⟨go1,oo1+(x3_1:Int).toNat * 6+2,none⟩=some (V I ((rd_T40 y3 x3_1).f2)):=hcc7 2 _ rfl;have hx7_3:w4.cell? ⟨go1,oo1+(x3_1:Int).toNat * 6+3,none⟩=some (O ((rd_T40 y3 x3_1).f3)):=hcc7 3 _ rfl;have hx7_4:w4.cell? ⟨go1,oo1+(x3_1:Int).toNat * 6+4,none⟩=some (V I ((rd_T40 y3 x3_1).f4)):=hcc7 4 _ rfl;have hx7_5:w4.cell? ⟨go1,oo1+(x3_1:Int).toNat * 6+5,none⟩=some (O ((rd_T40 y3 x3_1).f5)):=hcc7 5 _ rfl;have hf7_0:w4.frozen? ⟨go1,oo1+(x3_1:Int).toNat * 6,none⟩=false:=hfr7 0;have hf7_1:w4.frozen? ⟨go1,oo1+(x3_1:Int).toNat * 6+1,none⟩=false:=hfr7 1;have hf7_2:w4.frozen? ⟨go1,oo1+(x3_1:Int).toNat * 6+2,none⟩=false:=hfr7 2;have hf7_3:w4.frozen? ⟨go1,oo1+(x3_1:Int).toNat * 6+3,none⟩=false:=hfr7 3;have hf7_4:w4.frozen? ⟨go1,oo1+(x3_1:Int).toNat * 6+4,none⟩=false:=hfr7 4;have hf7_5:w4.frozen? ⟨go1,oo1+(x3_1:Int).toNat * 6+5,none⟩=false:=hfr7 5;(try clear hcl7);(try clear hcc7);(try clear hfr7);(try clear hM7);replace p4:=eq_true p4;replace q4:=eq_true q4;have HX4:=C (show Kd.Q k40 40 w4 w0.heap.size (fun k_=>(P0_ k_∨w.heap.size≤k_)) (L (some ⟨go1,oo1,none⟩) x1_1.length co1) y3 from(uQ HO_1.out));obtain⟨ce8,hcl8,hM8,hcc8,hfr8⟩:=Kd.Q_elem HX4.out z40 (x3_1:Int) (of_decide_eq_true (by first|(with_reducible assumption)|assumption)) (by have h_:(x3_1:Int)<((x1_1.length:Int):Int):=of_decide_eq_true (by first|(with_reducible assumption)|assumption);first|exact h_|(have e_:=(Kd.Q_reads' HO_1.out).1;omega)|simpa using h_);obtain rfl:=k40_openM hM8;have HP4:=Kd.Q_seg HX4.out (x3_1:Int) (of_decide_eq_true (by first|(with_reducible assumption)|assumption)) (by have h_:(x3_1:Int)<((x1_1.length:Int):Int):=of_decide_eq_true (by first|(with_reducible assumption)|assumption);first|exact h_|(have e_:=(Kd.Q_reads' HO_1.out).1;omega)|simpa using h_) (seg:= [O ((Int.tmod (wrap64 ((wrap64 ((wrap64 (x2_1+1))+1))+1)) 3)==0)]) (j:=3) hcl8 hcc8 (show 4≤6 from by decide) (x':=(⟨(rd_T40 y3 x3_1).f0,(rd_T40 y3 x3_1).f1,(rd_T40 y3 x3_1).f2,((Int.tmod (wrap64 ((wrap64 ((wrap64 (x2_1+1))+1))+1)) 3)==0),(rd_T40 y3 x3_1).f4,(rd_T40 y3 x3_1).f5⟩:S40)) (k40_mkM _ _ _ (⟨(rd_T40 y3 x3_1).f0,(rd_T40 y3 x3_1).f1,(rd_T40 y3 x3_1).f2,((Int.tmod (wrap64 ((wrap64 ((wrap64 (x2_1+1))+1))+1)) 3)==0),(rd_T40 y3 x3_1).f4,(rd_T40 y3 x3_1).f5⟩:S40)) (fun _ hk=>hk);have hx8_3:=hcc8 3 _ rfl;(try simp only[show(k40).sz=6 from rfl,Nat.mul_one,Nat.add_zero]at hx8_3);have hf8_3:=hfr8 3;(try simp only[show(k40).sz=6 from rfl,Nat.mul_one,Nat.add_zero]at hf8_3);(try clear hcl8);(try clear hcc8);(try clear hfr8);(try clear hM8))|((with_reducible refine gate_store (t:=4) (p:=39) rfl ?_);refine store_event (t:=4) (p:=39) (v:= ?vo_w4) (w1:=(w4.setCell ⟨go1,oo1+(x3_1:Int).toNat * 6+3,none⟩ (O ((Int.tmod (wrap64 ((wrap64 ((wrap64 (x2_1+1))+1))+1)) 3)==0)))) ?hg ?ho ?hn ?hr ?_;(case ho=>rfl);(case hg=>rfl);(case hn=>rfl);(case hr=>exact Fix.hr);intro w5 hw;have hg:w4.grownBy w5 (some go1):=(by rw[hw];exact HP4.2);have hp_:Kd.Q k40 40 w5 w0.heap.size (fun k_=>(P0_ k_∨w.heap.size≤k_)) (L (some ⟨go1,oo1,none⟩) x1_1.length co1) y4:=(by rw[hw,Ny4.out];exact HP4.1);clear HP4;replace HB:=C ((by rw[hw];exact below_set (HB.out) GB1.out:Below w0.heap.size w0 w5));replace HK:=C (Kept.of_grown (S:=(fun k_=>P0_ k_)) hg (show Kept w _ _ from uP) (fun k_ e_=>(HO_1.out.1 k_ e_)));replace HO_1:=C (hp_);clear hg hw hp_;have p5:0≤(x3_1:Int):=of_decide_eq_true (by first|(with_reducible assumption)|assumption);have q5:(x3_1:Int)<((x1_1.length:Int):Int):=of_decide_eq_true (by first|(with_reducible assumption)|assumption);obtain⟨ce9,hcl9,hM9,hcc9,hfr9⟩:=Kd.Q_elem HO_1.out z40 (x3_1:Int) p5 q5;obtain rfl:=k40_openM hM9;have hx9_0:w5.cell? ⟨go1,oo1+(x3_1:Int).toNat * 6,none⟩=some (V I ((rd_T40 y4 x3_1).f0)):=hcc9 0 _ rfl;have hx9_1:w5.cell? ⟨go1,oo1+(x3_1:Int).toNat * 6+1,none⟩=some (V I ((rd_T40 y4 x3_1).f1)):=hcc9 1 _ rfl;have hx9_2:w5.cell? ⟨go1,oo1+(x3_1:Int).toNat * 6+2,none⟩=some (V I ((rd_T40 y4 x3_1).f2)):=hcc9 2 _ rfl;have hx9_3:w5.cell? ⟨go1,oo1+(x3_1:Int).toNat * 6+3,none⟩=some (O ((rd_T40 y4 x3_1).f3)):=hcc9 3 _ rfl;have hx9_4:w5.cell? ⟨go1,oo1+(x3_1:Int).toNat * 6+4,none⟩=some (V I ((rd_T40 y4 x3_1).f4)):=hcc9 4 _ rfl;have hx9_5:w5.cell? ⟨go1,oo1+(x3_1:Int).toNat * 6+5,none⟩=some (O ((rd_T40 y4 x3_1).f5)):=hcc9 5 _ rfl;have hf9_0:w5.frozen? ⟨go1,oo1+(x3_1:Int).toNat * 6,none⟩=false:=hfr9 0;have hf9_1:w5.frozen? ⟨go1,oo1+(x3_1:Int).toNat * 6+1,none⟩=false:=hfr9 1;have hf9_2:w5.frozen? ⟨go1,oo1+(x3_1:Int).toNat * 6+2,none⟩=false:=hfr9 2;have hf9_3:w5.frozen? ⟨go1,oo1+(x3_1:Int).toNat * 6+3,none⟩=false:=hfr9 3;have hf9_4:w5.frozen? ⟨go1,oo1+(x3_1:Int).toNat * 6+4,none⟩=false:=hfr9 4;have hf9_5:w5.frozen? ⟨go1,oo1+(x3_1:Int).toNat * 6+5,none⟩=false:=hfr9 5;(try clear hcl9);(try clear hcc9);(try clear hfr9);(try clear hM9);replace p5:=eq_true p5;replace q5:=eq_true q5;have HX5:=C (show Kd.Q k40 40 w5 w0.heap.size (fun k_=>(P0_ k_∨w.heap.size≤k_)) (L (some ⟨go1,oo1,none⟩) x1_1.length co1) y4 from(uQ HO_1.out));obtain⟨ce10,hcl10,hM10,hcc10,hfr10⟩:=Kd.Q_elem HX5.out z40 (x3_1:Int) (of_decide_eq_true (by first|(with_reducible assumption)|assumption)) (by have h_:(x3_1:Int)<((x1_1.length:Int):Int):=of_decide_eq_true (by first|(with_reducible assumption)|assumption);first|exact h_|(have e_:=(Kd.Q_reads' HO_1.out).1;omega)|simpa using h_);obtain rfl:=k40_openM hM10;have HP5:=Kd.Q_seg HX5.out (x3_1:Int) (of_decide_eq_true (by first|(with_reducible assumption)|assumption)) (by have h_:(x3_1:Int)<((x1_1.length:Int):Int):=of_decide_eq_true (by first|(with_reducible assumption)|assumption);first|exact h_|(have e_:=(Kd.Q_reads' HO_1.out).1;omega)|simpa using h_) (seg:= [V I (wrap64 ((wrap64 ((wrap64 ((wrap64 (x2_1+1))+1))+1))+1))]) (j:=4) hcl10 hcc10 (show 5≤6 from by decide) (x':=(⟨(rd_T40 y4 x3_1).f0,(rd_T40 y4 x3_1).f1,(rd_T40 y4 x3_1).f2,(rd_T40 y4 x3_1).f3,wrap64 ((wrap64 ((wrap64 ((wrap64 (x2_1+1))+1))+1))+1),(rd_T40 y4 x3_1).f5⟩:S40)) (k40_mkM _ _ _ (⟨(rd_T40 y4 x3_1).f0,(rd_T40 y4 x3_1).f1,(rd_T40 y4 x3_1).f2,(rd_T40 y4 x3_1).f3,wrap64 ((wrap64 ((wrap64 ((wrap64 (x2_1+1))+1))+1))+1),(rd_T40 y4 x3_1).f5⟩:S40)) (fun _ hk=>hk);have hx10_4:=hcc10 4 _ rfl;(try simp only[show(k40).sz=6 from rfl,Nat.mul_one,Nat.add_zero]at hx10_4);have hf10_4:=hfr10 4;(try simp only[show(k40).sz=6 from rfl,Nat.mul_one,Nat.add_zero]at hf10_4);(try clear hcl10);(try clear hcc10);(try clear hfr10);(try clear hM10))|((with_reducible refine gate_store (t:=3) (p:=46) rfl ?_);refine store_event (t:=3) (p:=46) (v:= ?vo_w5) (w1:=(w5.setCell ⟨go1,oo1+(x3_1:Int).toNat * 6+4,none⟩ (V I (wrap64 ((wrap64 ((wrap64 ((wrap64 (x2_1+1))+1))+1))+1))))) ?hg ?ho ?hn ?hr ?_;(case ho=>rfl);(case hg=>rfl);(case hn=>rfl);(case hr=>exact Fix.hr);intro w6 hw;have hg:w5.grownBy w6 (some go1):=(by rw[hw];exact HP5.2);have hp_:Kd.Q k40 40 w6 w0.heap.size (fun k_=>(P0_ k_∨w.heap.size≤k_)) (L (some ⟨go1,oo1,none⟩) x1_1.length co1) y5:=(by rw[hw,Ny5.out];exact HP5.1);clear HP5;replace HB:=C ((by rw[hw];exact below_set (HB.out) GB1.out:Below w0.heap.size w0 w6));replace HK:=C (Kept.of_grown (S:=(fun k_=>P0_ k_)) hg (show Kept w _ _ from uP) (fun k_ e_=>(HO_1.out.1 k_ e_)));replace HO_1:=C (hp_);clear hg hw hp_;have p6:0≤(x3_1:Int):=of_decide_eq_true (by first|(with_reducible assumption)|assumption);have q6:(x3_1:Int)<((x1_1.length:Int):Int):=of_decide_eq_true (by first|(with_reducible assumption)|assumption);obtain⟨ce11,hcl11,hM11,hcc11,hfr11⟩:=Kd.Q_elem HO_1.out z40 (x3_1:Int) p6 q6;obtain rfl:=k40_openM hM11;have hx11_0:w6.cell? ⟨go1,oo1+(x3_1:Int).toNat * 6,none⟩=some (V I ((rd_T40 y5 x3_1).f0)):=hcc11 0 _ rfl;have hx11_1:w6.cell? ⟨go1,oo1+(x3_1:Int).toNat * 6+1,none⟩=some (V I ((rd_T40 y5 x3_1).f1)):=hcc11 1 _ rfl;have hx11_2:w6.cell? ⟨go1,oo1+(x3_1:Int).toNat * 6+2,none⟩=some (V I ((rd_T40 y5 x3_1).f2)):=hcc11 2 _ rfl;have hx11_3:w6.cell? ⟨go1,oo1+(x3_1:Int).toNat * 6+3,none⟩=some (O ((rd_T40 y5 x3_1).f3)):=hcc11 3 _ rfl;have hx11_4:w6.cell? ⟨go1,oo1+(x3_1:Int).toNat * 6+4,none⟩=some (V I ((rd_T40 y5 x3_1).f4)):=hcc11 4 _ rfl;have hx11_5:w6.cell? ⟨go1,oo1+(x3_1:Int).toNat * 6+5,none⟩=some (O ((rd_T40 y5 x3_1).f5)):=hcc11 5 _ rfl;have hf11_0:w6.frozen? ⟨go1,oo1+(x3_1:Int).toNat * 6,none⟩=false:=hfr11 0;have hf11_1:w6.frozen? ⟨go1,oo1+(x3_1:Int).toNat * 6+1,none⟩=false:=hfr11 1;have hf11_2:w6.frozen? ⟨go1,oo1+(x3_1:Int).toNat * 6+2,none⟩=false:=hfr11 2;have hf11_3:w6.frozen? ⟨go1,oo1+(x3_1:Int).toNat * 6+3,none⟩=false:=hfr11 3;have hf11_4:w6.frozen? ⟨go1,oo1+(x3_1:Int).toNat * 6+4,none⟩=false:=hfr11 4;have hf11_5:w6.frozen? ⟨go1,oo1+(x3_1:Int).toNat * 6+5,none⟩=false:=hfr11 5;(try clear hcl11);(try clear hcc11);(try clear hfr11);(try clear hM11);replace p6:=eq_true p6;replace q6:=eq_true q6;have HX6:=C (show Kd.Q k40 40 w6 w0.heap.size (fun k_=>(P0_ k_∨w.heap.size≤k_)) (L (some ⟨go1,oo1,none⟩) x1_1.length co1) y5 from(uQ HO_1.out));obtain⟨ce12,hcl12,hM12,hcc12,hfr12⟩:=Kd.Q_elem HX6.out z40 (x3_1:Int) (of_decide_eq_true (by first|(with_reducible assumption)|assumption)) (by have h_:(x3_1:Int)<((x1_1.length:Int):Int):=of_decide_eq_true (by first|(with_reducible assumption)|assumption);first|exact h_|(have e_:=(Kd.Q_reads' HO_1.out).1;omega)|simpa using h_);obtain rfl:=k40_openM hM12;have HP6:=Kd.Q_seg HX6.out (x3_1:Int) (of_decide_eq_true (by first|(with_reducible assumption)|assumption)) (by have h_:(x3_1:Int)<((x1_1.length:Int):Int):=of_decide_eq_true (by first|(with_reducible assumption)|assumption);first|exact h_|(have e_:=(Kd.Q_reads' HO_1.out).1;omega)|simpa using h_) (seg:= [O ((Int.tmod (wrap64 ((wrap64 ((wrap64 ((wrap64 ((wrap64 (x2_1+1))+1))+1))+1))+1)) 3)==0)]) (j:=5) hcl12 hcc12 (show 6≤6 from by decide) (x':=(⟨(rd_T40 y5 x3_1).f0,(rd_T40 y5 x3_1).f1,(rd_T40 y5 x3_1).f2,(rd_T40 y5 x3_1).f3,(rd_T40 y5 x3_1).f4,((Int.tmod (wrap64 ((wrap64 ((wrap64 ((wrap64 ((wrap64 (x2_1+1))+1))+1))+1))+1)) 3)==0)⟩:S40)) (k40_mkM _ _ _ (⟨(rd_T40 y5 x3_1).f0,(rd_T40 y5 x3_1).f1,(rd_T40 y5 x3_1).f2,(rd_T40 y5 x3_1).f3,(rd_T40 y5 x3_1).f4,((Int.tmod (wrap64 ((wrap64 ((wrap64 ((wrap64 ((wrap64 (x2_1+1))+1))+1))+1))+1)) 3)==0)⟩:S40)) (fun _ hk=>hk);have hx12_5:=hcc12 5 _ rfl;(try simp only[show(k40).sz=6 from rfl,Nat.mul_one,Nat.add_zero]at hx12_5);have hf12_5:=hfr12 5;(try simp only[show(k40).sz=6 from rfl,Nat.mul_one,Nat.add_zero]at hf12_5);(try clear hcl12);(try clear hcc12);(try clear hfr12);(try clear hM12))|((with_reducible refine gate_store (t:=4) (p:=55) rfl ?_);refine store_event (t:=4) (p:=55) (v:= ?vo_w6) (w1:=(w6.setCell ⟨go1,oo1+(x3_1:Int).toNat * 6+5,none⟩ (O ((Int.tmod (wrap64 ((wrap64 ((wrap64 ((wrap64 ((wrap64 (x2_1+1))+1))+1))+1))+1)) 3)==0)))) ?hg ?ho ?hn ?hr ?_;(case ho=>rfl);(case hg=>rfl);(case hn=>rfl);(case hr=>exact Fix.hr);intro w7 hw;have hg:w6.grownBy w7 (some go1):=(by rw[hw];exact HP6.2);have hp_:Kd.Q k40 40 w7 w0.heap.size (fun k_=>(P0_ k_∨w.heap.size≤k_)) (L (some ⟨go1,oo1,none⟩) x1_1.length co1) y6:=(by rw[hw,Ny6.out];exact HP6.1);clear HP6;replace HB:=C ((by rw[hw];exact below_set (HB.out) GB1.out:Below w0.heap.size w0 w7));replace HK:=C (Kept.of_grown (S:=(fun k_=>P0_ k_)) hg (show Kept w _ _ from uP) (fun k_ e_=>(HO_1.out.1 k_ e_)));replace HO_1:=C (hp_);clear hg hw hp_))
     go_roundg k1
     case measure=>have:=HK1.out;omega
     case rel=>exact⟨(y6),(wrap64 ((wrap64 ((wrap64 ((wrap64 ((wrap64 ((wrap64 (x2_1+1))+1))+1))+1))+1))+1)),(wrap64 (x3_1+1)),rS,rS,H',⟨by have:=HK1.out;omega⟩,⟨fQ HO_1.out⟩,⟨uP⟩,⟨uB⟩⟩
    ·rw[if_neg c2]at H
     exact absurd H (by simp)
   ·rw[if_neg c1]at H
    have c1b0:decide (x3_1<(x1_1.length:Int))=false:=decide_eq_false c1
    clear c1
    simp only[Option.some.injEq,Prod.mk.injEq]at H
    obtain⟨rfl,rfl⟩:=H
    obtain⟨Ao1,co1,eo1,_⟩:=Kd.Q_slice HO_1.out
    subst eo1
    go_wp2
    go_ret
    exact⟨rE,fQ HO_1.out,uB,uP⟩
def laws_markIntS.l0:Nat→List Int→Int→Int→Option (Int×List Int)
 |0,_,_,_=>none
 |k+1,x0,x1,x5=>if x5<(x0.length:Int) then(if 0≤x5 then(laws_markIntS.l0 k (x0.set (x5:Int).toNat x1) (wrap64 (x1+1)) (wrap64 (x5+1))) else(none)) else(some (x1,x0))
def laws_markIntS.f (k:Nat) (l0:List Int) (a1:Int):Option (Int×List Int):=laws_markIntS.l0 k l0 a1 0
theorem laws_markIntS.mono_l:∀k,(∀y0 y1 y2,LeO (laws_markIntS.l0 k y0 y1 y2) (laws_markIntS.l0 (k+1) y0 y1 y2))
 |0=>fun _ _ _ r h=>by simp[laws_markIntS.l0]at h
 |k+1=>by
  have ih0:=laws_markIntS.mono_l k
  ·intro y0 y1 y2
   unfold laws_markIntS.l0
   repeat' first|(with_reducible first|apply ih0|exact LeO.refl _|exact LeO.none _|refine LeO.ite ?_ ?_|refine LeO.bind ?_ (fun _=> ?_))|apply ih0|exact LeO.none _|refine LeO.ite ?_ ?_|refine LeO.bind ?_ (fun _=> ?_)
theorem laws_markIntS.mono:∀a0 a1 k,LeO (laws_markIntS.f k a0 a1) (laws_markIntS.f (k+1) a0 a1):=by
 intro a0 a1 k
 have ih0:=laws_markIntS.mono_l k
 unfold laws_markIntS.f
 repeat' first|(with_reducible first|apply ih0|exact LeO.refl _|exact LeO.none _|refine LeO.ite ?_ ?_|refine LeO.bind ?_ (fun _=> ?_))|apply ih0|exact LeO.none _|refine LeO.ite ?_ ?_|refine LeO.bind ?_ (fun _=> ?_)
set_option maxHeartbeats 40000000 in
set_option maxRecDepth 100000 in
theorem laws_markIntS.calls (k:Nat) (P0_:Nat→Prop) (u9000_:Value) (l0:List Int) (a1:Int) (r1:Int) (r2:List Int) (w0 w:World) (hB:Below w0.heap.size w0 w) (ho0:Kd.Q (Kd.int .i64) 3 w w0.heap.size P0_ u9000_ l0) (h:laws_markIntS.f k l0 a1=some (r1,r2)):
  Calls Tryd.prog 80 #[u9000_,V I a1] w fun e w'=>e=.returned (V I r1)∧Kd.Q (Kd.int .i64) 3 w' w0.heap.size (fun k_=>(P0_ k_∨w.heap.size≤k_)) u9000_ r2∧Below w0.heap.size w0 w'∧Kept w w' (fun k_=>P0_ k_):=by
 have HO1:=C (show Kd.Q (Kd.int .i64) 3 w w0.heap.size (fun k_=>(P0_ k_∨w.heap.size≤k_)) u9000_ l0 from Kd.Q_mono ho0 (fun k_ hk=>(.inl hk)))
 have HK:=C (Kept.refl w (fun k_=>P0_ k_))
 have HW1:=C hB.size
 have HB:=C hB
 clear hB
 have H:=h
 unfold laws_markIntS.f at H
 clear h
 have H':=C H
 clear H
 go_enter Tryd.func80,Tryd.ntmps80
 go_wp2
 go_loopg [1,5] k (fun kq v1 v5 w'=>∃(x1_1:List Int) (x2_1:Int) (x3_1:Int),v1=V I x2_1∧v5=V I x3_1∧D (laws_markIntS.l0 kq x1_1 x2_1 x3_1=some (r1,r2))∧D (kq≤k)∧D (Kd.Q (Kd.int .i64) 3 w' w0.heap.size (fun k_=>(P0_ k_∨w.heap.size≤k_)) u9000_ x1_1)∧D (Kept w w' (fun k_=>P0_ k_))∧D (Below w0.heap.size w0 w'))
 case atStart=>exact⟨(l0),(a1),(0),rS,rS,H',⟨Nat.le_refl _⟩,⟨fQ HO1.out⟩,⟨uP⟩,⟨uB⟩⟩
 case round=>
  clear H'
  obtain⟨x1_1,x2_1,x3_1,rfl,rfl,HA,HK1,HO_1,HK,HB⟩:=hrel
  cases gk with
  |zero=>exact absurd HA.out (by simp[laws_markIntS.l0])
  |succ k1=>
   have H:=HA.out
   clear HA
   simp only[laws_markIntS.l0]at H
   by_cases c1:x3_1<(x1_1.length:Int)
   ·rw[if_pos c1]at H
    have c1b0:decide (x3_1<(x1_1.length:Int))=true:=decide_eq_true c1
    clear c1
    by_cases c2:0≤x3_1
    ·rw[if_pos c2]at H
     have c2b0:decide (0≤x3_1)=true:=decide_eq_true c2
     clear c2
     obtain⟨y1,hy1⟩:∃y_:List Int,y_=(x1_1.set (x3_1:Int).toNat x2_1):=⟨_,rfl⟩
     replace H:(laws_markIntS.l0 k1 y1 (wrap64 (x2_1+1)) (wrap64 (x3_1+1)))=some (r1,r2):=by first|(rw[hy1];with_reducible exact H)|(have H1_:=(Option.bind_some _ _).symm.trans H;rw[hy1];with_reducible exact H1_)|(have H1_:=(Option.bind_some _ _).symm.trans H;with_reducible exact H1_)|with_reducible exact H|(rw[hy1];exact H)|exact H
     have Ny1:=C hy1
     clear hy1
     have H':=C H
     clear H
     obtain⟨Ao1,co1,eo1,_⟩:=Kd.Q_slice HO_1.out
     subst eo1
     have p1:0≤(x3_1:Int):=of_decide_eq_true (by first|(with_reducible assumption)|assumption)
     have q1:(x3_1:Int)<((x1_1.length:Int):Int):=of_decide_eq_true (by first|(with_reducible assumption)|assumption)
     obtain⟨go1,oo1,co2,eo2,gb1,gl1,cl1,HG1⟩:=Kd.Q_form HO_1.out (by omega)
     (first|cases eo2|(injection eo2 with ea_ en_ ec_;(first|subst ea_|(injection ea_ with ea_;subst ea_));subst ec_;clear en_))
     have GB1:=C gb1
     have GG1:=C HG1
     clear gb1 gl1 HG1
     have HMgo1:=C (show(P0_ go1∨w.heap.size≤go1) from(HO_1.out.1 _ rfl))
     obtain⟨hx1_0,hf1_0⟩:=Kd.Q_cell 0 HO_1.out (x3_1:Int) p1 q1
     replace p1:=eq_true p1
     replace q1:=eq_true q1
     have HP1:=Kd.Q_putg HO_1.out (x3_1:Int) (of_decide_eq_true (by first|(with_reducible assumption)|assumption)) (by have h_:(x3_1:Int)<((x1_1.length:Int):Int):=of_decide_eq_true (by first|(with_reducible assumption)|assumption);first|exact h_|(have e_:=(Kd.Q_reads' HO_1.out).1;omega)|simpa using h_) x2_1
     go_wp2_with (first|((with_reducible refine gate_store (t:=3) (p:=15) rfl ?_);refine store_event (t:=3) (p:=15) (v:= ?vo_w1) (w1:=(wr.setCell ⟨go1,oo1+(x3_1:Int).toNat,none⟩ (V I x2_1))) ?hg ?ho ?hn ?hr ?_;(case ho=>rfl);(case hg=>rfl);(case hn=>rfl);(case hr=>exact Fix.hr);intro w2 hw;have hg:wr.grownBy w2 (some go1):=(by rw[hw];exact HP1.2);have hp_:Kd.Q (Kd.int .i64) 3 w2 w0.heap.size (fun k_=>(P0_ k_∨w.heap.size≤k_)) (L (some ⟨go1,oo1,none⟩) x1_1.length co1) y1:=(by rw[hw,Ny1.out];exact HP1.1);clear HP1;replace HB:=C ((by rw[hw];exact below_set (HB.out) GB1.out:Below w0.heap.size w0 w2));replace HK:=C (Kept.of_grown (S:=(fun k_=>P0_ k_)) hg (show Kept w _ _ from uP) (fun k_ e_=>(HO_1.out.1 k_ e_)));replace HO_1:=C (hp_);clear hg hw hp_))
     go_roundg k1
     case measure=>have:=HK1.out;omega
     case rel=>exact⟨(y1),(wrap64 (x2_1+1)),(wrap64 (x3_1+1)),rS,rS,H',⟨by have:=HK1.out;omega⟩,⟨fQ HO_1.out⟩,⟨uP⟩,⟨uB⟩⟩
    ·rw[if_neg c2]at H
     exact absurd H (by simp)
   ·rw[if_neg c1]at H
    have c1b0:decide (x3_1<(x1_1.length:Int))=false:=decide_eq_false c1
    clear c1
    simp only[Option.some.injEq,Prod.mk.injEq]at H
    obtain⟨rfl,rfl⟩:=H
    obtain⟨Ao1,co1,eo1,_⟩:=Kd.Q_slice HO_1.out
    subst eo1
    go_wp2
    go_ret
    exact⟨rE,fQ HO_1.out,uB,uP⟩
def laws_markLine.f (k:Nat) (a0_0:Int) (a0_1:Int) (l0_2:List Int) (l0_3:List Int) (a0_4:Int) (a0_5:Bool) (a1:Int):Option (Int×List Int×List Int):=(laws_markIntS.f k l0_2 a1).bind fun bt316=>((laws_markIntS.f k l0_3 bt316.1).bind fun bt318=>(some (bt318.1,bt316.2,bt318.2)))
theorem laws_markLine.mono:∀a0 a1 a2 a3 a4 a5 a6 k,LeO (laws_markLine.f k a0 a1 a2 a3 a4 a5 a6) (laws_markLine.f (k+1) a0 a1 a2 a3 a4 a5 a6):=by
 intro a0 a1 a2 a3 a4 a5 a6 k
 unfold laws_markLine.f
 repeat' first|(with_reducible first|apply laws_markIntS.mono|exact LeO.refl _|exact LeO.none _|refine LeO.ite ?_ ?_|refine LeO.bind ?_ (fun _=> ?_))|exact LeO.none _|refine LeO.ite ?_ ?_|refine LeO.bind ?_ (fun _=> ?_)
set_option maxHeartbeats 40000000 in
set_option maxRecDepth 100000 in
theorem laws_markLine.calls (k:Nat) (a0_0:Int) (a0_1:Int) (P0_2_:Nat→Prop) (u9000_:Value) (l0_2:List Int) (P0_3_:Nat→Prop) (u9001_:Value) (l0_3:List Int) (a0_4:Int) (a0_5:Bool) (a1:Int) (r1:Int) (r2:List Int) (r3:List Int) (w0 w:World) (hB:Below w0.heap.size w0 w) (ho0_2:Kd.Q (Kd.int .i64) 3 w w0.heap.size P0_2_ u9000_ l0_2) (hp0_2_0_3:∀k_,P0_2_ k_→ ¬P0_3_ k_) (ho0_3:Kd.Q (Kd.int .i64) 3 w w0.heap.size P0_3_ u9001_ l0_3) (hp0_3_0_2:∀k_,P0_3_ k_→ ¬P0_2_ k_) (h:laws_markLine.f k a0_0 a0_1 l0_2 l0_3 a0_4 a0_5 a1=some (r1,r2,r3)):
  Calls Tryd.prog 54 #[G #[V I a0_0,V I a0_1,u9000_,u9001_,V I a0_4,O a0_5],V I a1] w fun e w'=>e=.returned (V I r1)∧Kd.Q (Kd.int .i64) 3 w' w0.heap.size (fun k_=>((P0_2_ k_∨P0_3_ k_)∨w.heap.size≤k_)) u9000_ r2∧Kd.Q (Kd.int .i64) 3 w' w0.heap.size (fun k_=>((P0_2_ k_∨P0_3_ k_)∨w.heap.size≤k_)) u9001_ r3∧Below w0.heap.size w0 w'∧Kept w w' (fun k_=>P0_2_ k_∨P0_3_ k_):=by
 have hu1:=Tryd.underlying43
 have HO1_2:=C (show Kd.Q (Kd.int .i64) 3 w w0.heap.size (fun k_=>((P0_2_ k_∨P0_3_ k_)∨w.heap.size≤k_)∧some k_≠(u9001_:Value).ownBlock) u9000_ l0_2 from Kd.Q_mono ho0_2 (fun k_ hk=>⟨(.inl (.inl hk)),fun e_=>hp0_2_0_3 k_ hk (ho0_3.1 k_ e_.symm)⟩))
 have HO1_3:=C (show Kd.Q (Kd.int .i64) 3 w w0.heap.size (fun k_=>((P0_2_ k_∨P0_3_ k_)∨w.heap.size≤k_)∧some k_≠(u9000_:Value).ownBlock) u9001_ l0_3 from Kd.Q_mono ho0_3 (fun k_ hk=>⟨(.inl (.inr hk)),fun e_=>hp0_3_0_2 k_ hk (ho0_2.1 k_ e_.symm)⟩))
 have HK:=C (Kept.refl w (fun k_=>P0_2_ k_∨P0_3_ k_))
 have HW1:=C hB.size
 have HB:=C hB
 clear hB
 have H:=h
 unfold laws_markLine.f at H
 clear h
 obtain⟨⟨t1,t2⟩,A1,H⟩:=bnd H
 dsimp only at H
 obtain⟨⟨t3,t4⟩,A2,H⟩:=bnd H
 dsimp only at H
 simp only[Option.some.injEq,Prod.mk.injEq]at H
 obtain⟨rfl,rfl,rfl⟩:=H
 obtain⟨Ao1,co1,eo1,_⟩:=Kd.Q_slice HO1_2.out
 subst eo1
 obtain⟨Ao2,co2,eo2,_⟩:=Kd.Q_slice HO1_3.out
 subst eo2
 go_enter Tryd.func54,Tryd.ntmps54
 go_wp2_with (first|((with_reducible refine gate_dst (N:=2) rfl ?_);refine Fix.be 2 #[V I a0_0,V I a0_1,L Ao1 l0_2.length co1,L Ao2 l0_3.length co2,V I a0_4,O a0_5] 43 ?_;intro gb1 hg w1 BK1 hb;have GW1:=C ((by rw[hg];exact(by first|exact HK.out.1|exact(show Kept w _ (fun k_=>P0_2_ k_∨P0_3_ k_) from uP).1):w.heap.size≤gb1));have GE1:D (w0.heap.size≤gb1):=gE hg;replace HO1_2:=eQ HO1_2 hb;replace HO1_3:=eQ HO1_3 hb;replace HK:=C (Kept.below (S:=(fun k_=>P0_2_ k_∨P0_3_ k_)) (show Kept w _ _ from uP) hb);replace HB:=eB hb;clear hb hg;have h_:=d6 BK1.out;(repeat(obtain⟨_,h_⟩:=h_)))|((with_reducible refine F (f:=80) rfl ?_);refine gl 80 (some 8) Tryd.func80 #[L Ao1 l0_2.length co1,V I a1] ?_;(with_reducible refine(laws_markIntS.calls k (fun k_=>some k_=(L Ao1 l0_2.length co1:Value).ownBlock) (L Ao1 l0_2.length co1) l0_2 a1 t1 t2 w0 _ ?side1 ?side2 A1.out).mono ?_);(case side1=>exact uB);(case side2=>exact Kd.Q_tight rfl HO1_2.out);rintro e w2 ⟨rfl,hy1,hb,hkp⟩;refine⟨_,rfl,?_⟩;replace HO1_3:=C (Kd.Q_mono (ok':=fun k_=>((P0_2_ k_∨P0_3_ k_)∨w.heap.size≤k_)∧some k_≠(L Ao1 l0_2.length co1:Value).ownBlock) (Kd.Q_keptB (HO1_3.out) hkp (fun k_ hk_ hs_=>(hk_.2) hs_)) (fun k_ hk_=>⟨hk_.1.1,hk_.1.2⟩));replace BK1:=C (blk_kept (uK BK1.out) hkp (fun hs_=>(fun e_=>(Kd.Q_ne HO1_2.out BK1.out (by decide)) e_) hs_));replace HK:=C (Kept.then_ (S:=(fun k_=>P0_2_ k_∨P0_3_ k_)) (show Kept w _ _ from uP) hkp (fun k_ hs_=>(fun e_=>(HO1_2.out.1 k_ e_.symm).1) hs_));replace HO1_2:=C (Ext.Q_reok rfl hy1 (fun k_ e_=>HO1_2.out.1 k_ e_));replace HB:=C (hb);clear hb;(try clear hkp);(try clear hy1);have h_:=d6 BK1.out;(repeat(obtain⟨_,h_⟩:=h_)))|((with_reducible refine F (f:=80) rfl ?_);refine gl 80 (some 12) Tryd.func80 #[L Ao2 l0_3.length co2,V I t1] ?_;(with_reducible refine(laws_markIntS.calls k (fun k_=>some k_=(L Ao2 l0_3.length co2:Value).ownBlock) (L Ao2 l0_3.length co2) l0_3 t1 t3 t4 w0 _ ?side1 ?side2 A2.out).mono ?_);(case side1=>exact uB);(case side2=>exact Kd.Q_tight rfl HO1_3.out);rintro e w3 ⟨rfl,hy1,hb,hkp⟩;refine⟨_,rfl,?_⟩;replace HO1_2:=C (Kd.Q_mono (ok':=fun k_=>((P0_2_ k_∨P0_3_ k_)∨w.heap.size≤k_)∧some k_≠(L Ao2 l0_3.length co2:Value).ownBlock) (Kd.Q_keptB (HO1_2.out) hkp (fun k_ hk_ hs_=>(hk_.2) hs_)) (fun k_ hk_=>⟨hk_.1.1,hk_.1.2⟩));replace BK1:=C (blk_kept (uK BK1.out) hkp (fun hs_=>(fun e_=>(Kd.Q_ne HO1_3.out BK1.out (by decide)) e_) hs_));replace HK:=C (Kept.then_ (S:=(fun k_=>P0_2_ k_∨P0_3_ k_)) (show Kept w _ _ from uP) hkp (fun k_ hs_=>(fun e_=>(HO1_3.out.1 k_ e_.symm).1) hs_));replace HO1_3:=C (Ext.Q_reok rfl hy1 (fun k_ e_=>HO1_3.out.1 k_ e_));replace HB:=C (hb);clear hb;(try clear hkp);(try clear hy1)))
 go_ret
 exact⟨rE,Kd.Q_mono (fQ HO1_2.out) (fun _ hk=>hk.1),Kd.Q_mono (fQ HO1_3.out) (fun _ hk=>hk.1),uB,uP⟩
def laws_markMachine.f (k:Nat) (l0_0:List (S40)) (a0_1:Int) (a0_2:Int) (a0_3:Int) (a0_4:Bool) (a0_5:Int) (a0_6:Bool) (a0_7:Int) (a0_8:Int) (l0_9:List Int) (l0_10:List Int) (a0_11:Int) (a0_12:Bool) (a0_13:Int) (a1:Int):Option (Int×(List (S40))×List Int×List Int):=(laws_markJobS.f k l0_0 a1).bind fun bt321=>((laws_markLine.f k a0_7 a0_8 l0_9 l0_10 a0_11 a0_12 bt321.1).bind fun bt323=>(some (bt323.1,bt321.2,bt323.2.1,bt323.2.2)))
theorem laws_markMachine.mono:∀a0 a1 a2 a3 a4 a5 a6 a7 a8 a9 a10 a11 a12 a13 a14 k,LeO (laws_markMachine.f k a0 a1 a2 a3 a4 a5 a6 a7 a8 a9 a10 a11 a12 a13 a14) (laws_markMachine.f (k+1) a0 a1 a2 a3 a4 a5 a6 a7 a8 a9 a10 a11 a12 a13 a14):=by
 intro a0 a1 a2 a3 a4 a5 a6 a7 a8 a9 a10 a11 a12 a13 a14 k
 unfold laws_markMachine.f
 repeat' first|(with_reducible first|apply laws_markJobS.mono|apply laws_markLine.mono|exact LeO.refl _|exact LeO.none _|refine LeO.ite ?_ ?_|refine LeO.bind ?_ (fun _=> ?_))|exact LeO.none _|refine LeO.ite ?_ ?_|refine LeO.bind ?_ (fun _=> ?_)
set_option maxHeartbeats 40000000 in
set_option maxRecDepth 100000 in
theorem laws_markMachine.calls (k:Nat) (P0_0_:Nat→Prop) (u9000_:Value) (l0_0:List (S40)) (a0_1:Int) (a0_2:Int) (a0_3:Int) (a0_4:Bool) (a0_5:Int) (a0_6:Bool) (a0_7:Int) (a0_8:Int) (P0_9_:Nat→Prop) (u9001_:Value) (l0_9:List Int) (P0_10_:Nat→Prop) (u9002_:Value) (l0_10:List Int) (a0_11:Int) (a0_12:Bool) (a0_13:Int) (a1:Int) (r1:Int) (r2:List (S40)) (r3:List Int) (r4:List Int) (w0 w:World) (hB:Below w0.heap.size w0 w) (ho0_0:Kd.Q k40 40 w w0.heap.size P0_0_ u9000_ l0_0) (ho0_9:Kd.Q (Kd.int .i64) 3 w w0.heap.size P0_9_ u9001_ l0_9) (hp0_9_0_10:∀k_,P0_9_ k_→ ¬P0_10_ k_) (ho0_10:Kd.Q (Kd.int .i64) 3 w w0.heap.size P0_10_ u9002_ l0_10) (hp0_10_0_9:∀k_,P0_10_ k_→ ¬P0_9_ k_) (h:laws_markMachine.f k l0_0 a0_1 a0_2 a0_3 a0_4 a0_5 a0_6 a0_7 a0_8 l0_9 l0_10 a0_11 a0_12 a0_13 a1=some (r1,r2,r3,r4)):
  Calls Tryd.prog 25 #[G #[u9000_,V I a0_1,V I a0_2,V I a0_3,O a0_4,V I a0_5,O a0_6,V I a0_7,V I a0_8,u9001_,u9002_,V I a0_11,O a0_12,V I a0_13],V I a1] w fun e w'=>e=.returned (V I r1)∧Kd.Q k40 40 w' w0.heap.size (fun k_=>((P0_0_ k_∨P0_9_ k_∨P0_10_ k_)∨w.heap.size≤k_)) u9000_ r2∧Kd.Q (Kd.int .i64) 3 w' w0.heap.size (fun k_=>((P0_0_ k_∨P0_9_ k_∨P0_10_ k_)∨w.heap.size≤k_)) u9001_ r3∧Kd.Q (Kd.int .i64) 3 w' w0.heap.size (fun k_=>((P0_0_ k_∨P0_9_ k_∨P0_10_ k_)∨w.heap.size≤k_)) u9002_ r4∧Below w0.heap.size w0 w'∧Kept w w' (fun k_=>P0_0_ k_∨P0_9_ k_∨P0_10_ k_):=by
 have hu1:=Tryd.underlying45
 have hu2:=Tryd.underlying43
 have HO1_0:=C (show Kd.Q k40 40 w w0.heap.size (fun k_=>((P0_0_ k_∨P0_9_ k_∨P0_10_ k_)∨w.heap.size≤k_)) u9000_ l0_0 from Kd.Q_mono ho0_0 (fun k_ hk=>(.inl (.inl hk))))
 have HO1_9:=C (show Kd.Q (Kd.int .i64) 3 w w0.heap.size (fun k_=>((P0_0_ k_∨P0_9_ k_∨P0_10_ k_)∨w.heap.size≤k_)∧some k_≠(u9002_:Value).ownBlock) u9001_ l0_9 from Kd.Q_mono ho0_9 (fun k_ hk=>⟨(.inl (.inr (.inl hk))),fun e_=>hp0_9_0_10 k_ hk (ho0_10.1 k_ e_.symm)⟩))
 have HO1_10:=C (show Kd.Q (Kd.int .i64) 3 w w0.heap.size (fun k_=>((P0_0_ k_∨P0_9_ k_∨P0_10_ k_)∨w.heap.size≤k_)∧some k_≠(u9001_:Value).ownBlock) u9002_ l0_10 from Kd.Q_mono ho0_10 (fun k_ hk=>⟨(.inl (.inr (.inr hk))),fun e_=>hp0_10_0_9 k_ hk (ho0_9.1 k_ e_.symm)⟩))
 have HK:=C (Kept.refl w (fun k_=>P0_0_ k_∨P0_9_ k_∨P0_10_ k_))
 have HW1:=C hB.size
 have HB:=C hB
 clear hB
 have H:=h
 unfold laws_markMachine.f at H
 clear h
 obtain⟨⟨t1,t2⟩,A1,H⟩:=bnd H
 dsimp only at H
 obtain⟨⟨t3,t4,t5⟩,A2,H⟩:=bnd H
 dsimp only at H
 simp only[Option.some.injEq,Prod.mk.injEq]at H
 obtain⟨rfl,rfl,rfl,rfl⟩:=H
 obtain⟨Ao1,co1,eo1,_⟩:=Kd.Q_slice HO1_0.out
 subst eo1
 obtain⟨Ao2,co2,eo2,_⟩:=Kd.Q_slice HO1_9.out
 subst eo2
 obtain⟨Ao3,co3,eo3,_⟩:=Kd.Q_slice HO1_10.out
 subst eo3
 go_enter Tryd.func25,Tryd.ntmps25
 go_wp2_with (first|((with_reducible refine gate_dst (N:=2) rfl ?_);refine Fix.be 2 #[L Ao1 l0_0.length co1,V I a0_1,V I a0_2,V I a0_3,O a0_4,V I a0_5,O a0_6,V I a0_7,V I a0_8,L Ao2 l0_9.length co2,L Ao3 l0_10.length co3,V I a0_11,O a0_12,V I a0_13] 45 ?_;intro gb1 hg w1 BK1 hb;have GW1:=C ((by rw[hg];exact(by first|exact HK.out.1|exact(show Kept w _ (fun k_=>P0_0_ k_∨P0_9_ k_∨P0_10_ k_) from uP).1):w.heap.size≤gb1));have GE1:D (w0.heap.size≤gb1):=gE hg;replace HO1_0:=eQ HO1_0 hb;replace HO1_9:=eQ HO1_9 hb;replace HO1_10:=eQ HO1_10 hb;replace HK:=C (Kept.below (S:=(fun k_=>P0_0_ k_∨P0_9_ k_∨P0_10_ k_)) (show Kept w _ _ from uP) hb);replace HB:=eB hb;clear hb hg;have h_:=d14 BK1.out;(repeat(obtain⟨_,h_⟩:=h_)))|((with_reducible refine F (f:=53) rfl ?_);refine gl 53 (some 8) Tryd.func53 #[L Ao1 l0_0.length co1,V I a1] ?_;(with_reducible refine(laws_markJobS.calls k (fun k_=>some k_=(L Ao1 l0_0.length co1:Value).ownBlock) (L Ao1 l0_0.length co1) l0_0 a1 t1 t2 w0 _ ?side1 ?side2 A1.out).mono ?_);(case side1=>exact uB);(case side2=>exact Kd.Q_tight rfl HO1_0.out);rintro e w2 ⟨rfl,hy1,hb,hkp⟩;refine⟨_,rfl,?_⟩;replace HO1_9:=C (Kd.Q_mono (ok':=fun k_=>((P0_0_ k_∨P0_9_ k_∨P0_10_ k_)∨w.heap.size≤k_)∧some k_≠(L Ao3 l0_10.length co3:Value).ownBlock) (Kd.Q_keptB ((Kd.Q_apart' HO1_9.out (Kd.Q_typed HO1_0.out) (by decide))) hkp (fun k_ hk_ hs_=>(hk_.2) hs_)) (fun k_ hk_=>⟨hk_.1.1.1,hk_.1.1.2⟩));replace HO1_10:=C (Kd.Q_mono (ok':=fun k_=>((P0_0_ k_∨P0_9_ k_∨P0_10_ k_)∨w.heap.size≤k_)∧some k_≠(L Ao2 l0_9.length co2:Value).ownBlock) (Kd.Q_keptB ((Kd.Q_apart' HO1_10.out (Kd.Q_typed HO1_0.out) (by decide))) hkp (fun k_ hk_ hs_=>(hk_.2) hs_)) (fun k_ hk_=>⟨hk_.1.1.1,hk_.1.1.2⟩));replace BK1:=C (blk_kept (uK BK1.out) hkp (fun hs_=>(fun e_=>(Kd.Q_ne HO1_0.out BK1.out (by decide)) e_) hs_));replace HK:=C (Kept.then_ (S:=(fun k_=>P0_0_ k_∨P0_9_ k_∨P0_10_ k_)) (show Kept w _ _ from uP) hkp (fun k_ hs_=>(fun e_=>(HO1_0.out.1 k_ e_.symm)) hs_));replace HO1_0:=C (Ext.Q_reok rfl hy1 (fun k_ e_=>HO1_0.out.1 k_ e_));replace HB:=C (hb);clear hb;(try clear hkp);(try clear hy1);have h_:=d14 BK1.out;(repeat(obtain⟨_,h_⟩:=h_)))|((with_reducible refine F (f:=54) rfl ?_);refine gl 54 (some 12) Tryd.func54 #[G #[V I a0_7,V I a0_8,L Ao2 l0_9.length co2,L Ao3 l0_10.length co3,V I a0_11,O a0_12],V I t1] ?_;(with_reducible refine(laws_markLine.calls k a0_7 a0_8 (fun k_=>some k_=(L Ao2 l0_9.length co2:Value).ownBlock) (L Ao2 l0_9.length co2) l0_9 (fun k_=>some k_=(L Ao3 l0_10.length co3:Value).ownBlock) (L Ao3 l0_10.length co3) l0_10 a0_11 a0_12 t1 t3 t4 t5 w0 _ ?side1 ?side2 ?side3 ?side4 ?side5 A2.out).mono ?_);(case side1=>exact uB);(case side2=>exact Kd.Q_tight rfl HO1_9.out);(case side3=>exact fun k_ e_=>(HO1_9.out.1 k_ e_.symm).2);(case side4=>exact Kd.Q_tight rfl HO1_10.out);(case side5=>exact fun k_ e_=>(HO1_10.out.1 k_ e_.symm).2);rintro e w3 ⟨rfl,hy1,hy2,hb,hkp⟩;refine⟨_,rfl,?_⟩;replace HO1_0:=C (Kd.Q_mono (ok':=fun k_=>((P0_0_ k_∨P0_9_ k_∨P0_10_ k_)∨w.heap.size≤k_)) (Kd.Q_keptB ((Kd.Q_apart' (Kd.Q_apart' HO1_0.out (Kd.Q_typed HO1_9.out) (by decide)) (Kd.Q_typed HO1_10.out) (by decide))) hkp (fun k_ hk_ hs_=>Or.elim hs_ (fun e_=>(hk_.1.2) e_) (fun e_=>(hk_.2) e_))) (fun k_ hk_=>hk_.1.1.1));replace BK1:=C (blk_kept (uK BK1.out) hkp (fun hs_=>Or.elim hs_ (fun e_=>(fun e_=>(Kd.Q_ne HO1_9.out BK1.out (by decide)) e_) e_) (fun e_=>(fun e_=>(Kd.Q_ne HO1_10.out BK1.out (by decide)) e_) e_)));replace HK:=C (Kept.then_ (S:=(fun k_=>P0_0_ k_∨P0_9_ k_∨P0_10_ k_)) (show Kept w _ _ from uP) hkp (fun k_ hs_=>Or.elim hs_ (fun e_=>(fun e_=>(HO1_9.out.1 k_ e_.symm).1) e_) (fun e_=>(fun e_=>(HO1_10.out.1 k_ e_.symm).1) e_)));replace HO1_9:=C (Ext.Q_reok rfl hy1 (fun k_ e_=>HO1_9.out.1 k_ e_));replace HO1_10:=C (Ext.Q_reok rfl hy2 (fun k_ e_=>HO1_10.out.1 k_ e_));replace HB:=C (hb);clear hb;(try clear hkp);(try clear hy1);(try clear hy2)))
 go_ret
 exact⟨rE,fQ HO1_0.out,Kd.Q_mono (fQ HO1_9.out) (fun _ hk=>hk.1),Kd.Q_mono (fQ HO1_10.out) (fun _ hk=>hk.1),uB,uP⟩
def laws_markText.l0:Nat→Int→ByteArray→Option (ByteArray)
 |0,_,_=>none
 |k+1,x0,x3=>if x0 >0 then((some (([(wrap64 (48+(Int.tmod x0 10))) % 256]:List Int):List Int)).bind fun y326=>(if(strOfNums y326).size+x3.size≤9223372036854775807 then(laws_markText.l0 k (wrap64 (Int.tdiv x0 10)) ((strOfNums y326)++x3)) else(none))) else(if 1+x3.size≤9223372036854775807 then(some ((⟨#[109]⟩:ByteArray)++x3)) else(none))
def laws_markText.f (k:Nat) (a0:Int):Option (ByteArray):=if a0≤0 then(some (⟨#[109,48]⟩:ByteArray)) else(laws_markText.l0 k a0 (⟨#[]⟩:ByteArray))
theorem laws_markText.mono_l:∀k,(∀y0 y1,LeO (laws_markText.l0 k y0 y1) (laws_markText.l0 (k+1) y0 y1))
 |0=>fun _ _ r h=>by simp[laws_markText.l0]at h
 |k+1=>by
  have ih0:=laws_markText.mono_l k
  ·intro y0 y1
   unfold laws_markText.l0
   repeat' first|(with_reducible first|apply ih0|exact LeO.refl _|exact LeO.none _|refine LeO.ite ?_ ?_|refine LeO.bind ?_ (fun _=> ?_))|apply ih0|exact LeO.none _|refine LeO.ite ?_ ?_|refine LeO.bind ?_ (fun _=> ?_)
theorem laws_markText.mono:∀a0 k,LeO (laws_markText.f k a0) (laws_markText.f (k+1) a0):=by
 intro a0 k
 have ih0:=laws_markText.mono_l k
 unfold laws_markText.f
 repeat' first|(with_reducible first|apply ih0|exact LeO.refl _|exact LeO.none _|refine LeO.ite ?_ ?_|refine LeO.bind ?_ (fun _=> ?_))|apply ih0|exact LeO.none _|refine LeO.ite ?_ ?_|refine LeO.bind ?_ (fun _=> ?_)
set_option maxHeartbeats 40000000 in
set_option maxRecDepth 100000 in
theorem laws_markText.calls (k:Nat) (a0:Int) (r:ByteArray) (w:World) (h:laws_markText.f k a0=some r):
  Calls Tryd.prog 55 #[V I a0] w fun e w'=>e=.returned (.string r)∧Below w.heap.size w w':=by
 have HB:=C (Below.refl w.heap.size w)
 have H:=h
 unfold laws_markText.f at H
 clear h
 by_cases c1:a0≤0
 ·rw[if_pos c1]at H
  have c1b0:decide (a0≤0)=true:=decide_eq_true c1
  clear c1
  obtain rfl:=Option.some.inj H
  go_enter Tryd.func55,Tryd.ntmps55
  go_wp2
  go_ret
  exact⟨rE,uB⟩
 ·rw[if_neg c1]at H
  have c1b0:decide (a0≤0)=false:=decide_eq_false c1
  clear c1
  have H':=C H
  clear H
  go_enter Tryd.func55,Tryd.ntmps55
  go_wp2
  go_loopg [0,3] k (fun kq v0 v3 w'=>∃(x1_1:Int) (x2_1:ByteArray),v0=V I x1_1∧v3=.string x2_1∧D (laws_markText.l0 kq x1_1 x2_1=some r)∧D (kq≤k)∧D (Below w.heap.size w w'))
  case atStart=>exact⟨(a0),((⟨#[]⟩:ByteArray)),rS,rS,H',⟨Nat.le_refl _⟩,⟨uB⟩⟩
  case round=>
   clear H'
   obtain⟨x1_1,x2_1,rfl,rfl,HA,HK1,HB⟩:=hrel
   cases gk with
   |zero=>exact absurd HA.out (by simp[laws_markText.l0])
   |succ k1=>
    have H:=HA.out
    clear HA
    simp only[laws_markText.l0]at H
    by_cases c2:x1_1 >0
    ·rw[if_pos c2]at H
     have c2b0:decide (0<x1_1)=true:=decide_eq_true c2
     clear c2
     obtain⟨y1,hy1⟩:∃y_:List Int,y_=(([(wrap64 (48+(Int.tmod x1_1 10))) % 256]:List Int)):=⟨_,rfl⟩
     replace H:(if(strOfNums y1).size+x2_1.size≤9223372036854775807 then(laws_markText.l0 k1 (wrap64 (Int.tdiv x1_1 10)) ((strOfNums y1)++x2_1)) else(none))=some r:=by first|(rw[hy1];with_reducible exact H)|(have H1_:=(Option.bind_some _ _).symm.trans H;rw[hy1];with_reducible exact H1_)|(have H1_:=(Option.bind_some _ _).symm.trans H;with_reducible exact H1_)|with_reducible exact H|(rw[hy1];exact H)|exact H
     have Ny1:=C hy1
     clear hy1
     by_cases c3:(strOfNums y1).size+x2_1.size≤9223372036854775807
     ·rw[if_pos c3]at H
      have c3b0:=eq_true c3
      have c3b1:decide ((strOfNums y1).size+x2_1.size≤9223372036854775807)=true:=decide_eq_true c3
      try have c3b2:(9223372036854775807<(strOfNums y1).size+x2_1.size)=False:=eq_false (Nat.not_lt.2 c3)
      try(have h1_:=c3;simp only[ByteArray.size_append,Ito.bsz,List.size_toArray,List.length_cons,List.length_nil]at h1_;have c3b3:=eq_false (Nat.not_lt.2 h1_);clear h1_)
      have H':=C H
      clear H
      go_wp2_with (first|((with_reducible refine gate_dst (N:=12) rfl ?_);refine Kd.R_lit (Kd.int .u8) _ 5 ?hg (N:=12) ?hd (xs:=([(wrap64 (48+(Int.tmod x1_1 10))) % 256]:List Int)) (inner:= [.int .u8 ((wrap64 (48+(Int.tmod x1_1 10))) % 256)]) (ok:=fun _=>True) (okp:=fun _=>True) ?hr ?hp (fun _ hk=>hk) trivial (Below.refl _ _) (Nat.le_refl _) (by simp) ?_;(case hd=>rfl);(case hg=>rfl);(case hr=>exact Fix.hr);(case hp=>exact(Reps.one (show Kd.M (Kd.int .u8) _ _ _ ((wrap64 (48+(Int.tmod x1_1 10))) % 256) [.int .u8 ((wrap64 (48+(Int.tmod x1_1 10))) % 256)] from rfl) (Reps.none _ _)));intro v1 w1 ho1 hb hg_ hnew_;clear hg_ hnew_;(first|rw[←Ny1.out]at ho1|(simp only[Int.reduceToNat]at ho1;rw[←Ny1.out]at ho1));have HO1:=lR ho1;replace HB:=eB hb;clear hb ho1;have hcv1:=own_string (P:=Tryd.prog) Tryd.underlying36 Tryd.underlying5 Tryd.underlying9 (Kd.own_of_R HO1.out)))
      go_roundg k1
      case measure=>have:=HK1.out;omega
      case rel=>exact⟨(wrap64 (Int.tdiv x1_1 10)),((strOfNums y1)++x2_1),rS,rS,H',⟨by have:=HK1.out;omega⟩,⟨uB⟩⟩
     ·rw[if_neg c3]at H
      exact absurd H (by simp)
    ·rw[if_neg c2]at H
     have c2b0:decide (0<x1_1)=false:=decide_eq_false c2
     clear c2
     by_cases c3:1+x2_1.size≤9223372036854775807
     ·rw[if_pos c3]at H
      have c3b0:=eq_true c3
      have c3b1:decide (1+x2_1.size≤9223372036854775807)=true:=decide_eq_true c3
      try have c3b2:(9223372036854775807<1+x2_1.size)=False:=eq_false (Nat.not_lt.2 c3)
      try(have h1_:=c3;simp only[ByteArray.size_append,Ito.bsz,List.size_toArray,List.length_cons,List.length_nil]at h1_;have c3b3:=eq_false (Nat.not_lt.2 h1_);clear h1_)
      obtain rfl:=Option.some.inj H
      go_wp2
      go_ret
      exact⟨rE,uB⟩
     ·rw[if_neg c3]at H
      exact absurd H (by simp)
def laws_markStringS.l0:Nat→List ByteArray→Int→Int→Option (Int×List ByteArray)
 |0,_,_,_=>none
 |k+1,x0,x1,x5=>if x5<(x0.length:Int) then((laws_markText.f k x1).bind fun t329=>(if 0≤x5 then(laws_markStringS.l0 k (x0.set (x5:Int).toNat t329) (wrap64 (x1+1)) (wrap64 (x5+1))) else(none))) else(some (x1,x0))
def laws_markStringS.f (k:Nat) (l0:List ByteArray) (a1:Int):Option (Int×List ByteArray):=laws_markStringS.l0 k l0 a1 0
theorem laws_markStringS.mono_l:∀k,(∀y0 y1 y2,LeO (laws_markStringS.l0 k y0 y1 y2) (laws_markStringS.l0 (k+1) y0 y1 y2))
 |0=>fun _ _ _ r h=>by simp[laws_markStringS.l0]at h
 |k+1=>by
  have ih0:=laws_markStringS.mono_l k
  ·intro y0 y1 y2
   unfold laws_markStringS.l0
   repeat' first|(with_reducible first|apply ih0|apply laws_markText.mono|exact LeO.refl _|exact LeO.none _|refine LeO.ite ?_ ?_|refine LeO.bind ?_ (fun _=> ?_))|apply ih0|exact LeO.none _|refine LeO.ite ?_ ?_|refine LeO.bind ?_ (fun _=> ?_)
theorem laws_markStringS.mono:∀a0 a1 k,LeO (laws_markStringS.f k a0 a1) (laws_markStringS.f (k+1) a0 a1):=by
 intro a0 a1 k
 have ih0:=laws_markStringS.mono_l k
 unfold laws_markStringS.f
 repeat' first|(with_reducible first|apply ih0|apply laws_markText.mono|exact LeO.refl _|exact LeO.none _|refine LeO.ite ?_ ?_|refine LeO.bind ?_ (fun _=> ?_))|apply ih0|exact LeO.none _|refine LeO.ite ?_ ?_|refine LeO.bind ?_ (fun _=> ?_)
set_option maxHeartbeats 40000000 in
set_option maxRecDepth 100000 in
theorem laws_markStringS.calls (k:Nat) (P0_:Nat→Prop) (u9000_:Value) (l0:List ByteArray) (a1:Int) (r1:Int) (r2:List ByteArray) (w0 w:World) (hB:Below w0.heap.size w0 w) (ho0:Kd.Q Kd.string 9 w w0.heap.size P0_ u9000_ l0) (h:laws_markStringS.f k l0 a1=some (r1,r2)):
  Calls Tryd.prog 26 #[u9000_,V I a1] w fun e w'=>e=.returned (V I r1)∧Kd.Q Kd.string 9 w' w0.heap.size (fun k_=>(P0_ k_∨w.heap.size≤k_)) u9000_ r2∧Below w0.heap.size w0 w'∧Kept w w' (fun k_=>P0_ k_):=by
 have HO1:=C (show Kd.Q Kd.string 9 w w0.heap.size (fun k_=>(P0_ k_∨w.heap.size≤k_)) u9000_ l0 from Kd.Q_mono ho0 (fun k_ hk=>(.inl hk)))
 have HK:=C (Kept.refl w (fun k_=>P0_ k_))
 have HW1:=C hB.size
 have HB:=C hB
 clear hB
 have H:=h
 unfold laws_markStringS.f at H
 clear h
 have H':=C H
 clear H
 go_enter Tryd.func26,Tryd.ntmps26
 go_wp2
 go_loopg [1,5] k (fun kq v1 v5 w'=>∃(x1_1:List ByteArray) (x2_1:Int) (x3_1:Int),v1=V I x2_1∧v5=V I x3_1∧D (laws_markStringS.l0 kq x1_1 x2_1 x3_1=some (r1,r2))∧D (kq≤k)∧D (Kd.Q Kd.string 9 w' w0.heap.size (fun k_=>(P0_ k_∨w.heap.size≤k_)) u9000_ x1_1)∧D (Kept w w' (fun k_=>P0_ k_))∧D (Below w0.heap.size w0 w'))
 case atStart=>exact⟨(l0),(a1),(0),rS,rS,H',⟨Nat.le_refl _⟩,⟨fQ HO1.out⟩,⟨uP⟩,⟨uB⟩⟩
 case round=>
  clear H'
  obtain⟨x1_1,x2_1,x3_1,rfl,rfl,HA,HK1,HO_1,HK,HB⟩:=hrel
  cases gk with
  |zero=>exact absurd HA.out (by simp[laws_markStringS.l0])
  |succ k1=>
   have H:=HA.out
   clear HA
   simp only[laws_markStringS.l0]at H
   by_cases c1:x3_1<(x1_1.length:Int)
   ·rw[if_pos c1]at H
    have c1b0:decide (x3_1<(x1_1.length:Int))=true:=decide_eq_true c1
    clear c1
    obtain⟨t1,A1,H⟩:=bnd H
    by_cases c2:0≤x3_1
    ·rw[if_pos c2]at H
     have c2b0:decide (0≤x3_1)=true:=decide_eq_true c2
     clear c2
     obtain⟨y1,hy1⟩:∃y_:List ByteArray,y_=(x1_1.set (x3_1:Int).toNat t1):=⟨_,rfl⟩
     replace H:(laws_markStringS.l0 k1 y1 (wrap64 (x2_1+1)) (wrap64 (x3_1+1)))=some (r1,r2):=by first|(rw[hy1];with_reducible exact H)|(have H1_:=(Option.bind_some _ _).symm.trans H;rw[hy1];with_reducible exact H1_)|(have H1_:=(Option.bind_some _ _).symm.trans H;with_reducible exact H1_)|with_reducible exact H|(rw[hy1];exact H)|exact H
     have Ny1:=C hy1
     clear hy1
     have H':=C H
     clear H
     obtain⟨Ao1,co1,eo1,_⟩:=Kd.Q_slice HO_1.out
     subst eo1
     go_wp2_with (first|((with_reducible refine F (f:=55) rfl ?_);refine gl 55 (some 15) Tryd.func55 #[V I x2_1] ?_;(with_reducible refine(laws_markText.calls k1 x2_1 t1 _ A1.out).mono ?_);rintro e w2 ⟨rfl,hb⟩;refine⟨_,rfl,?_⟩;replace HO_1:=eQ HO_1 hb;replace HK:=C (Kept.below (S:=(fun k_=>P0_ k_)) (show Kept w _ _ from uP) hb);replace HB:=eB hb;clear hb;have p1:0≤(x3_1:Int):=of_decide_eq_true (by first|(with_reducible assumption)|assumption);have q1:(x3_1:Int)<((x1_1.length:Int):Int):=of_decide_eq_true (by first|(with_reducible assumption)|assumption);obtain⟨go1,oo1,co2,eo2,gb1,gl1,cl1,HG1⟩:=Kd.Q_form HO_1.out (by omega);(first|cases eo2|(injection eo2 with ea_ en_ ec_;(first|subst ea_|(injection ea_ with ea_;subst ea_));subst ec_;clear en_));have GB1:=C gb1;have GG1:=C HG1;clear gb1 gl1 HG1;have HMgo1:=C (show(P0_ go1∨w.heap.size≤go1) from(HO_1.out.1 _ rfl));obtain⟨hx1_0,hf1_0⟩:=Kd.Q_cell (⟨#[]⟩:ByteArray) HO_1.out (x3_1:Int) p1 q1;replace p1:=eq_true p1;replace q1:=eq_true q1;obtain⟨hy2_,hz1_⟩:=Kd.Q_cell (⟨#[]⟩:ByteArray) HO_1.out (x3_1:Int) (of_decide_eq_true (by first|(with_reducible assumption)|assumption)) (of_decide_eq_true (by first|(with_reducible assumption)|assumption));have HP1:=Kd.Q_putg HO_1.out (x3_1:Int) (of_decide_eq_true (by first|(with_reducible assumption)|assumption)) (by have h_:(x3_1:Int)<((x1_1.length:Int):Int):=of_decide_eq_true (by first|(with_reducible assumption)|assumption);first|exact h_|(have e_:=(Kd.Q_reads' HO_1.out).1;omega)|simpa using h_) t1)|((with_reducible refine gate_store (t:=9) (p:=16) rfl ?_);refine store_event (t:=9) (p:=16) (v:= ?vo_w1) (w1:=(w2.setCell ⟨go1,oo1+(x3_1:Int).toNat,none⟩ (.string t1))) ?hg ?ho ?hn ?hr ?_;(case ho=>rfl);(case hg=>rfl);(case hn=>rfl);(case hr=>exact Fix.hr);intro w3 hw;have hg:w2.grownBy w3 (some go1):=(by rw[hw];exact HP1.2);have hp_:Kd.Q Kd.string 9 w3 w0.heap.size (fun k_=>(P0_ k_∨w.heap.size≤k_)) (L (some ⟨go1,oo1,none⟩) x1_1.length co1) y1:=(by rw[hw,Ny1.out];exact HP1.1);clear HP1;replace HB:=C ((by rw[hw];exact below_set (HB.out) GB1.out:Below w0.heap.size w0 w3));replace HK:=C (Kept.of_grown (S:=(fun k_=>P0_ k_)) hg (show Kept w _ _ from uP) (fun k_ e_=>(HO_1.out.1 k_ e_)));replace HO_1:=C (hp_);clear hg hw hp_))
     go_roundg k1
     case measure=>have:=HK1.out;omega
     case rel=>exact⟨(y1),(wrap64 (x2_1+1)),(wrap64 (x3_1+1)),rS,rS,H',⟨by have:=HK1.out;omega⟩,⟨fQ HO_1.out⟩,⟨uP⟩,⟨uB⟩⟩
    ·rw[if_neg c2]at H
     exact absurd H (by simp)
   ·rw[if_neg c1]at H
    have c1b0:decide (x3_1<(x1_1.length:Int))=false:=decide_eq_false c1
    clear c1
    simp only[Option.some.injEq,Prod.mk.injEq]at H
    obtain⟨rfl,rfl⟩:=H
    obtain⟨Ao1,co1,eo1,_⟩:=Kd.Q_slice HO_1.out
    subst eo1
    go_wp2
    go_ret
    exact⟨rE,fQ HO_1.out,uB,uP⟩
def laws_heldStringS.l0:Nat→List ByteArray→Int→Int→Option (Int)
 |0,_,_,_=>none
 |k+1,x0,x1,x5=>if x5<(x0.length:Int) then(if 0≤x5 then((laws_markText.f k x1).bind fun t332=>(if(rdOf ByteArray.empty x0 x5).toList=t332.toList then(laws_heldStringS.l0 k x0 (wrap64 (x1+1)) (wrap64 (x5+1))) else(some (-1)))) else(none)) else(some x1)
def laws_heldStringS.f (k:Nat) (l0:List ByteArray) (a1:Int):Option (Int):=laws_heldStringS.l0 k l0 a1 0
theorem laws_heldStringS.mono_l:∀k,(∀y0 y1 y2,LeO (laws_heldStringS.l0 k y0 y1 y2) (laws_heldStringS.l0 (k+1) y0 y1 y2))
 |0=>fun _ _ _ r h=>by simp[laws_heldStringS.l0]at h
 |k+1=>by
  have ih0:=laws_heldStringS.mono_l k
  ·intro y0 y1 y2
   unfold laws_heldStringS.l0
   repeat' first|(with_reducible first|apply ih0|apply laws_markText.mono|exact LeO.refl _|exact LeO.none _|refine LeO.ite ?_ ?_|refine LeO.bind ?_ (fun _=> ?_))|apply ih0|exact LeO.none _|refine LeO.ite ?_ ?_|refine LeO.bind ?_ (fun _=> ?_)
theorem laws_heldStringS.mono:∀a0 a1 k,LeO (laws_heldStringS.f k a0 a1) (laws_heldStringS.f (k+1) a0 a1):=by
 intro a0 a1 k
 have ih0:=laws_heldStringS.mono_l k
 unfold laws_heldStringS.f
 repeat' first|(with_reducible first|apply ih0|apply laws_markText.mono|exact LeO.refl _|exact LeO.none _|refine LeO.ite ?_ ?_|refine LeO.bind ?_ (fun _=> ?_))|apply ih0|exact LeO.none _|refine LeO.ite ?_ ?_|refine LeO.bind ?_ (fun _=> ?_)
set_option maxHeartbeats 40000000 in
set_option maxRecDepth 100000 in
theorem laws_heldStringS.calls (k:Nat) (A0:Option Addr) (c0:Nat) (l0:List ByteArray) (a1:Int) (r:Int) (w:World) (hr0:Kd.C Kd.string w A0 l0.length l0) (hc0:l0.length≤c0) (h:laws_heldStringS.f k l0 a1=some r):
  Calls Tryd.prog 27 #[L A0 l0.length c0,V I a1] w fun e w'=>e=.returned (V I r)∧Below w.heap.size w w':=by
 have HR1:=C hr0
 have HC1:=C hc0
 (try clear hr0);(try clear hc0)
 have HB:=C (Below.refl w.heap.size w)
 have H:=h
 unfold laws_heldStringS.f at H
 clear h
 have H':=C H
 clear H
 go_enter Tryd.func27,Tryd.ntmps27
 go_wp2
 go_loopg [1,5] k (fun kq v1 v5 w'=>∃(x1_1:Int) (x2_1:Int),v1=V I x1_1∧v5=V I x2_1∧D (laws_heldStringS.l0 kq l0 x1_1 x2_1=some r)∧D (kq≤k)∧D (Below w.heap.size w w'))
 case atStart=>exact⟨(a1),(0),rS,rS,H',⟨Nat.le_refl _⟩,⟨uB⟩⟩
 case round=>
  clear H'
  obtain⟨x1_1,x2_1,rfl,rfl,HA,HK1,HB⟩:=hrel
  cases gk with
  |zero=>exact absurd HA.out (by simp[laws_heldStringS.l0])
  |succ k1=>
   have H:=HA.out
   clear HA
   simp only[laws_heldStringS.l0]at H
   by_cases c1:x2_1<(l0.length:Int)
   ·rw[if_pos c1]at H
    have c1b0:decide (x2_1<(l0.length:Int))=true:=decide_eq_true c1
    clear c1
    by_cases c2:0≤x2_1
    ·rw[if_pos c2]at H
     have c2b0:decide (0≤x2_1)=true:=decide_eq_true c2
     clear c2
     obtain⟨t1,A1,H⟩:=bnd H
     by_cases c3:(rdOf ByteArray.empty l0 x2_1).toList=t1.toList
     ·rw[if_pos c3]at H
      have c3b0:((rdOf ByteArray.empty l0 x2_1).toList==t1.toList)=true:=beq_iff_eq.mpr c3
      have c3b1:((rdOf ByteArray.empty l0 x2_1).toList !=t1.toList)=false:=bne_eq_false_iff_eq.mpr c3
      clear c3
      have H':=C H
      clear H
      try go_wp2
      replace HB:=dB HB
      have p1:0≤(x2_1:Int):=of_decide_eq_true (by first|(with_reducible assumption)|assumption)
      have q1:x2_1<(l0.length:Int):=of_decide_eq_true (by first|(with_reducible assumption)|assumption)
      obtain⟨ad1,e1,hx1_0⟩:=Kd.at_string HR1.out x2_1 p1 q1
      have hw1_0:=hx1_0
      cases e1
      replace hx1_0:=hx HB hx1_0
      replace p1:=eq_true p1
      replace q1:=eq_true q1
      refine start_ (n:=7) (S:=fun w'=>w'.cell? (ad1.add (x2_1).toNat)=some (.string (rdOf ByteArray.empty l0 x2_1))) (ds:= []) #[false,false,false,false,false,false,false] (by kernel_rfl) rfl rfl (((HB.out.cell (World.block_lt_of_cell? w _ hw1_0)).trans hw1_0)) (fun hHeld=> ?_)
      generalize wr.drew=w1 at HB hx1_0 hHeld ⊢
      refine pu 0 (some 12) ?_
      refine pu 1 (some 13) ?_
      refine pu 2 (some 14) ?_
      refine pu 4 (some 16) ?_
      refine take_ (i:=3) (N:=some 15) (v:= ?_) (a':= ?_) #[true,true,true,true,true,false,false] rfl rfl (by kernel_rfl) (fun _ _ _ h=>h) (Or.inl ⟨by rfl,?_⟩) hHeld ?_ ?_
      rotate_left
      ·intro w' s1
       go_simp
       with_reducible rfl
      rotate_left
      ·simp only[Act.put,List.setIfInBounds_toArray,List.set_cons_zero,List.set_cons_succ,i64_w,i32_w]
       rfl
      refine ou 5 (some 17) (fun K hK=> ?_)
      refine gs Tryd.func55 #[V I x1_1] ?_
      with_reducible refine(laws_markText.calls k1 x1_1 t1 _ A1.out).mono ?_
      rintro e w2 ⟨rfl,hb⟩
      refine⟨_,rfl,?_⟩
      replace HB:=eB hb
      (try clear hb)
      refine hK.out _ _ (((HB.out.cell (World.block_lt_of_cell? w _ hw1_0)).trans hw1_0)) (fun hHeld=> ?_)
      clear hK K
      refine nu (N:=(some 17)) ?_
      refine pu 6 (some 18) ?_
      refine done_ (by kernel_rfl) ?_
      try go_wp2
      go_roundg k1
      case measure=>have:=HK1.out;omega
      case rel=>exact⟨(wrap64 (x1_1+1)),(wrap64 (x2_1+1)),rS,rS,H',⟨by have:=HK1.out;omega⟩,⟨uB⟩⟩
     ·rw[if_neg c3]at H
      have c3b0:((rdOf ByteArray.empty l0 x2_1).toList==t1.toList)=false:=beq_eq_false_iff_ne.mpr c3
      have c3b1:((rdOf ByteArray.empty l0 x2_1).toList !=t1.toList)=true:=bne_iff_ne.mpr c3
      obtain rfl:=Option.some.inj H
      try go_wp2
      replace HB:=dB HB
      have p1:0≤(x2_1:Int):=of_decide_eq_true (by first|(with_reducible assumption)|assumption)
      have q1:x2_1<(l0.length:Int):=of_decide_eq_true (by first|(with_reducible assumption)|assumption)
      obtain⟨ad1,e1,hx1_0⟩:=Kd.at_string HR1.out x2_1 p1 q1
      have hw1_0:=hx1_0
      cases e1
      replace hx1_0:=hx HB hx1_0
      replace p1:=eq_true p1
      replace q1:=eq_true q1
      refine start_ (n:=7) (S:=fun w'=>w'.cell? (ad1.add (x2_1).toNat)=some (.string (rdOf ByteArray.empty l0 x2_1))) (ds:= []) #[false,false,false,false,false,false,false] (by kernel_rfl) rfl rfl (((HB.out.cell (World.block_lt_of_cell? w _ hw1_0)).trans hw1_0)) (fun hHeld=> ?_)
      generalize wr.drew=w1 at HB hx1_0 hHeld ⊢
      refine pu 0 (some 12) ?_
      refine pu 1 (some 13) ?_
      refine pu 2 (some 14) ?_
      refine pu 4 (some 16) ?_
      refine take_ (i:=3) (N:=some 15) (v:= ?_) (a':= ?_) #[true,true,true,true,true,false,false] rfl rfl (by kernel_rfl) (fun _ _ _ h=>h) (Or.inl ⟨by rfl,?_⟩) hHeld ?_ ?_
      rotate_left
      ·intro w' s1
       go_simp
       with_reducible rfl
      rotate_left
      ·simp only[Act.put,List.setIfInBounds_toArray,List.set_cons_zero,List.set_cons_succ,i64_w,i32_w]
       rfl
      refine ou 5 (some 17) (fun K hK=> ?_)
      refine gs Tryd.func55 #[V I x1_1] ?_
      with_reducible refine(laws_markText.calls k1 x1_1 t1 _ A1.out).mono ?_
      rintro e w2 ⟨rfl,hb⟩
      refine⟨_,rfl,?_⟩
      replace HB:=eB hb
      (try clear hb)
      refine hK.out _ _ (((HB.out.cell (World.block_lt_of_cell? w _ hw1_0)).trans hw1_0)) (fun hHeld=> ?_)
      clear hK K
      refine nu (N:=(some 17)) ?_
      refine pu 6 (some 18) ?_
      refine done_ (by kernel_rfl) ?_
      try go_wp2
      go_ret
      exact⟨rE,uB⟩
    ·rw[if_neg c2]at H
     exact absurd H (by simp)
   ·rw[if_neg c1]at H
    have c1b0:decide (x2_1<(l0.length:Int))=false:=decide_eq_false c1
    clear c1
    obtain rfl:=Option.some.inj H
    go_wp2
    go_ret
    exact⟨rE,uB⟩
end Go.Proofs.YtblceimapaenlaaDoor.PFnExactFormatMachine
