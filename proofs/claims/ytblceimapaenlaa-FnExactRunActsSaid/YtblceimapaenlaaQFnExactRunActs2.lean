/- Calls do what plain Lean functions say (FnExactRunActs). No condition. -/
import Derived.Test.YtblceimapaenlaaQFnExactRunActs0
namespace Go.Proofs.Ytblceimapaenlaa.PFnExactRunActs
open Go.RowKit Go.Proofs.YtblceimapaenlaaW.PrintWords Go.Proofs.YtblceimapaenlaaW.PrintLast Go.Proofs.YtblceimapaenlaaW.PrintMore
open Try
open Fix (bK bnd d14 d6 dB eB eK eR fR gE gl gs gy hi hx lR nG nL nf np nt nu oT ou pu qm rE rS si tu uB uC uR uZ)
open Go.Value renaming int→V,slice→L,bool→O,agg→G
open Go.IntKind renaming i64→I
open Go.Proofs.YtblceimapaenlaaW.PrintWords.Aside0 renaming mk→C
open Go.Proofs.YtblceimapaenlaaW.PrintWords renaming Aside0→D,gate_callee→F,gate_dst→J
open Go.Proofs.YtblceimapaenlaaW.PrintWords.Kd renaming R_types→Y,C_below→Z
open Go.World renaming block_lt_of_cell?→E
attribute [local go_sem] max2_int min2_int max_two min_two max_three min_three max_four min_four
attribute [local go_sem] Fix.isSome_setCell
set_option linter.unusedVariables false
set_option maxHeartbeats 40000000
set_option maxRecDepth 100000
set_option linter.unusedSimpArgs false
def laws_szJobS.f (l0:List (S24)) (a1:Int):Option (Int):=if(wrap64 (a1 - (l0.length:Int)))<0 then(some (-1)) else(some (wrap64 (a1 - (l0.length:Int))))
theorem laws_szJobS.W1 {p:Prop} (h:p:=by
 go_enter func34,ntmps34
 go_wp2
 go_ret
 exact⟨by first|rfl|(simp;done)|(simp[*];done),by repeat(first|exact Drawn0.refl _|apply Drawn0.step)⟩):p:=h
theorem laws_szJobS.calls (A0:Option Addr) (c0:Nat) (l0:List (S24)) (a1:Int) (r:Int) (w:World) (hr0:Kd.C k24 w A0 l0.length l0) (hc0:l0.length≤c0) (h:laws_szJobS.f l0 a1=some r):
 Calls prog 34 #[L A0 l0.length c0,V I a1] w fun e w'=>e=.returned (V I r)∧Drawn0 w w':=by
 have HR1:=C hr0
 have HC1:=C hc0
 (try clear hr0);(try clear hc0)
 have H:=h
 unfold laws_szJobS.f at H
 clear h
 by_cases c1:(wrap64 (a1 - (l0.length:Int)))<0
 ·rw[if_pos c1]at H
  replace c1:=decide_eq_true c1
  obtain rfl:=si H
  exact laws_szJobS.W1
 rw[if_neg c1]at H
 replace c1:=decide_eq_false c1
 obtain rfl:=si H
 exact laws_szJobS.W1
def laws_szIntS.f (l0:List Int) (a1:Int):Option (Int):=if(wrap64 (a1 - (l0.length:Int)))<0 then(some (-1)) else(some (wrap64 (a1 - (l0.length:Int))))
theorem laws_szIntS.W1 {p:Prop} (h:p:=by
 go_enter func83,ntmps83
 go_wp2
 go_ret
 exact⟨by first|rfl|(simp;done)|(simp[*];done),by repeat(first|exact Drawn0.refl _|apply Drawn0.step)⟩):p:=h
theorem laws_szIntS.calls (A0:Option Addr) (c0:Nat) (l0:List Int) (a1:Int) (r:Int) (w:World) (hr0:Kd.C (Kd.int .i64) w A0 l0.length l0) (hc0:l0.length≤c0) (h:laws_szIntS.f l0 a1=some r):
 Calls prog 83 #[L A0 l0.length c0,V I a1] w fun e w'=>e=.returned (V I r)∧Drawn0 w w':=by
 have HR1:=C hr0
 have HC1:=C hc0
 (try clear hr0);(try clear hc0)
 have H:=h
 unfold laws_szIntS.f at H
 clear h
 by_cases c1:(wrap64 (a1 - (l0.length:Int)))<0
 ·rw[if_pos c1]at H
  replace c1:=decide_eq_true c1
  obtain rfl:=si H
  exact laws_szIntS.W1
 rw[if_neg c1]at H
 replace c1:=decide_eq_false c1
 obtain rfl:=si H
 exact laws_szIntS.W1
def laws_szLine.f (a0_0:Int) (a0_1:Int) (l0_2:List Int) (l0_3:List Int) (a0_4:Int) (a0_5:Bool) (a1:Int):Option (Int):=(laws_szIntS.f l0_2 a1).bind fun t102=>(if t102<0 then(some (-1)) else((laws_szIntS.f l0_3 t102).bind fun t103=>(if t103<0 then(some (-1)) else(some t103))))
theorem laws_szLine.calls (a0_0:Int) (a0_1:Int) (A0_2:Option Addr) (c0_2:Nat) (l0_2:List Int) (A0_3:Option Addr) (c0_3:Nat) (l0_3:List Int) (a0_4:Int) (a0_5:Bool) (a1:Int) (r:Int) (w:World) (hr0_2:Kd.C (Kd.int .i64) w A0_2 l0_2.length l0_2) (hc0_2:l0_2.length≤c0_2) (hr0_3:Kd.C (Kd.int .i64) w A0_3 l0_3.length l0_3) (hc0_3:l0_3.length≤c0_3) (h:laws_szLine.f a0_0 a0_1 l0_2 l0_3 a0_4 a0_5 a1=some r):
 Calls prog 35 #[G #[V I a0_0,V I a0_1,L A0_2 l0_2.length c0_2,L A0_3 l0_3.length c0_3,V I a0_4,O a0_5],V I a1] w fun e w'=>e=.returned (V I r)∧Below w.heap.size w w':=by
 have hu1:=underlying27
 have HR1_2:=C hr0_2
 have HC1_2:=C hc0_2
 (try clear hr0_2);(try clear hc0_2)
 have HR1_3:=C hr0_3
 have HC1_3:=C hc0_3
 (try clear hr0_3);(try clear hc0_3)
 have HB:=C (Below.refl w.heap.size w)
 have H:=h
 unfold laws_szLine.f at H
 clear h
 obtain⟨t1,A1,H⟩:=bnd H
 by_cases c1:t1<0
 ·rw[if_pos c1]at H
  replace c1:=decide_eq_true c1
  obtain rfl:=si H
  go_enter func35,ntmps35
  go_wp2_with (first|((with_reducible refine J (N:=2) rfl ?_);refine Fix.be 2 #[V I a0_0,V I a0_1,L A0_2 l0_2.length c0_2,L A0_3 l0_3.length c0_3,V I a0_4,O a0_5] 27 ?_;intro gb1 hg w1 BK1 hb;have GW1:=gE (w:=w) hg;have GE1:=GW1;replace HB:=eB hb;clear hb hg;obtain⟨_,_,_,_,_,_,_,_,_,_,_,_⟩:=d6 BK1.out)|((with_reducible refine F (f:=83) rfl ?_);refine gl 83 (some 8) func83 #[L A0_2 l0_2.length c0_2,V I a1] ?_;(with_reducible refine(laws_szIntS.calls _ _ l0_2 a1 t1 _ ?side1 HC1_2.out A1.out).mono ?_);(case side1=>exact uZ HR1_2);rintro e w' ⟨rfl,⟨nd,rfl⟩⟩;refine⟨_,rfl,?_⟩))
  go_ret
  exact⟨rE,uB⟩
 rw[if_neg c1]at H
 replace c1:=decide_eq_false c1
 obtain⟨t2,A2,H⟩:=bnd H
 by_cases c2:t2<0
 ·rw[if_pos c2]at H
  replace c2:=decide_eq_true c2
  obtain rfl:=si H
  go_enter func35,ntmps35
  go_wp2_with (first|((with_reducible refine J (N:=2) rfl ?_);refine Fix.be 2 #[V I a0_0,V I a0_1,L A0_2 l0_2.length c0_2,L A0_3 l0_3.length c0_3,V I a0_4,O a0_5] 27 ?_;intro gb1 hg w1 BK1 hb;have GW1:=gE (w:=w) hg;have GE1:=GW1;replace HB:=eB hb;clear hb hg;obtain⟨_,_,_,_,_,_,_,_,_,_,_,_⟩:=d6 BK1.out)|((with_reducible refine F (f:=83) rfl ?_);refine gl 83 (some 8) func83 #[L A0_2 l0_2.length c0_2,V I a1] ?_;(with_reducible refine(laws_szIntS.calls _ _ l0_2 a1 t1 _ ?side1 HC1_2.out A1.out).mono ?_);(case side1=>exact uZ HR1_2);rintro e w' ⟨rfl,⟨nd,rfl⟩⟩;refine⟨_,rfl,?_⟩)|((with_reducible refine F (f:=83) rfl ?_);refine gl 83 (some 14) func83 #[L A0_3 l0_3.length c0_3,V I t1] ?_;(with_reducible refine(laws_szIntS.calls _ _ l0_3 t1 t2 _ ?side1 HC1_3.out A2.out).mono ?_);(case side1=>exact uC (Z HR1_3.out uB));rintro e w' ⟨rfl,⟨nd,rfl⟩⟩;refine⟨_,rfl,?_⟩))
  go_ret
  exact⟨rE,uB⟩
 rw[if_neg c2]at H
 replace c2:=decide_eq_false c2
 obtain rfl:=si H
 go_enter func35,ntmps35
 go_wp2_with (first|((with_reducible refine J (N:=2) rfl ?_);refine Fix.be 2 #[V I a0_0,V I a0_1,L A0_2 l0_2.length c0_2,L A0_3 l0_3.length c0_3,V I a0_4,O a0_5] 27 ?_;intro gb1 hg w1 BK1 hb;have GW1:=gE (w:=w) hg;have GE1:=GW1;replace HB:=eB hb;clear hb hg;obtain⟨_,_,_,_,_,_,_,_,_,_,_,_⟩:=d6 BK1.out)|((with_reducible refine F (f:=83) rfl ?_);refine gl 83 (some 8) func83 #[L A0_2 l0_2.length c0_2,V I a1] ?_;(with_reducible refine(laws_szIntS.calls _ _ l0_2 a1 t1 _ ?side1 HC1_2.out A1.out).mono ?_);(case side1=>exact uZ HR1_2);rintro e w' ⟨rfl,⟨nd,rfl⟩⟩;refine⟨_,rfl,?_⟩)|((with_reducible refine F (f:=83) rfl ?_);refine gl 83 (some 14) func83 #[L A0_3 l0_3.length c0_3,V I t1] ?_;(with_reducible refine(laws_szIntS.calls _ _ l0_3 t1 t2 _ ?side1 HC1_3.out A2.out).mono ?_);(case side1=>exact uC (Z HR1_3.out uB));rintro e w' ⟨rfl,⟨nd,rfl⟩⟩;refine⟨_,rfl,?_⟩))
 go_ret
 exact⟨rE,uB⟩
def laws_szMachine.f (l0_0:List (S24)) (a0_1:Int) (a0_2:Int) (a0_3:Int) (a0_4:Bool) (a0_5:Int) (a0_6:Bool) (a0_7:Int) (a0_8:Int) (l0_9:List Int) (l0_10:List Int) (a0_11:Int) (a0_12:Bool) (a0_13:Int) (a1:Int):Option (Int):=(laws_szJobS.f l0_0 a1).bind fun t105=>(if t105<0 then(some (-1)) else((laws_szLine.f a0_7 a0_8 l0_9 l0_10 a0_11 a0_12 t105).bind fun t106=>(if t106<0 then(some (-1)) else(some t106))))
theorem laws_szMachine.W1 {p:Prop} (h:p:=by
 go_enter func9,ntmps9
 go_wp2_with (first|((with_reducible refine J (N:=2) rfl ?_);refine Fix.be 2 #[L A0_0 l0_0.length c0_0,V I a0_1,V I a0_2,V I a0_3,O a0_4,V I a0_5,O a0_6,V I a0_7,V I a0_8,L A0_9 l0_9.length c0_9,L A0_10 l0_10.length c0_10,V I a0_11,O a0_12,V I a0_13] 29 ?_;intro gb1 hg w1 BK1 hb;have GW1:=gE (w:=w) hg;replace HB:=eB hb;clear hb hg;obtain⟨_,_,_,_,_,_,_,_,_,_,_,_,_,_,_,_,_,_,_,_,_,_,_,_,_,_,_,_⟩:=d14 BK1.out)|((with_reducible refine F (f:=34) rfl ?_);refine gl 34 (some 8) func34 #[L A0_0 l0_0.length c0_0,V I a1] ?_;(with_reducible refine(laws_szJobS.calls _ _ l0_0 a1 t1 _ ?side1 HC1_0.out A1.out).mono ?_);(case side1=>exact uZ HR1_0);rintro e w' ⟨rfl,⟨nd,rfl⟩⟩;refine⟨_,rfl,?_⟩)|((with_reducible refine F (f:=35) rfl ?_);refine gl 35 (some 14) func35 #[G #[V I a0_7,V I a0_8,L A0_9 l0_9.length c0_9,L A0_10 l0_10.length c0_10,V I a0_11,O a0_12],V I t1] ?_;(with_reducible refine(laws_szLine.calls a0_7 a0_8 _ _ l0_9 _ _ l0_10 a0_11 a0_12 t1 t2 _ ?side1 HC1_9.out ?side3 HC1_10.out A2.out).mono ?_);(case side1=>exact uC (Z HR1_9.out uB));(case side3=>exact uC (Z HR1_10.out uB));rintro e w2 ⟨rfl,hb⟩;refine⟨_,rfl,?_⟩;replace BK1:=eK BK1 hb;replace HB:=eB hb;clear hb))
 go_ret
 exact⟨rE,uB⟩):p:=h
theorem laws_szMachine.calls (A0_0:Option Addr) (c0_0:Nat) (l0_0:List (S24)) (a0_1:Int) (a0_2:Int) (a0_3:Int) (a0_4:Bool) (a0_5:Int) (a0_6:Bool) (a0_7:Int) (a0_8:Int) (A0_9:Option Addr) (c0_9:Nat) (l0_9:List Int) (A0_10:Option Addr) (c0_10:Nat) (l0_10:List Int) (a0_11:Int) (a0_12:Bool) (a0_13:Int) (a1:Int) (r:Int) (w:World) (hr0_0:Kd.C k24 w A0_0 l0_0.length l0_0) (hc0_0:l0_0.length≤c0_0) (hr0_9:Kd.C (Kd.int .i64) w A0_9 l0_9.length l0_9) (hc0_9:l0_9.length≤c0_9) (hr0_10:Kd.C (Kd.int .i64) w A0_10 l0_10.length l0_10) (hc0_10:l0_10.length≤c0_10) (h:laws_szMachine.f l0_0 a0_1 a0_2 a0_3 a0_4 a0_5 a0_6 a0_7 a0_8 l0_9 l0_10 a0_11 a0_12 a0_13 a1=some r):
 Calls prog 9 #[G #[L A0_0 l0_0.length c0_0,V I a0_1,V I a0_2,V I a0_3,O a0_4,V I a0_5,O a0_6,V I a0_7,V I a0_8,L A0_9 l0_9.length c0_9,L A0_10 l0_10.length c0_10,V I a0_11,O a0_12,V I a0_13],V I a1] w fun e w'=>e=.returned (V I r)∧Below w.heap.size w w':=by
 have hu1:=underlying29
 have hu2:=underlying27
 have HR1_0:=C hr0_0
 have HC1_0:=C hc0_0
 (try clear hr0_0);(try clear hc0_0)
 have HR1_9:=C hr0_9
 have HC1_9:=C hc0_9
 (try clear hr0_9);(try clear hc0_9)
 have HR1_10:=C hr0_10
 have HC1_10:=C hc0_10
 (try clear hr0_10);(try clear hc0_10)
 have HB:=C (Below.refl w.heap.size w)
 have H:=h
 unfold laws_szMachine.f at H
 clear h
 obtain⟨t1,A1,H⟩:=bnd H
 by_cases c1:t1<0
 ·rw[if_pos c1]at H
  replace c1:=decide_eq_true c1
  obtain rfl:=si H
  exact laws_szMachine.W1
 rw[if_neg c1]at H
 replace c1:=decide_eq_false c1
 obtain⟨t2,A2,H⟩:=bnd H
 by_cases c2:t2<0
 ·rw[if_pos c2]at H
  replace c2:=decide_eq_true c2
  obtain rfl:=si H
  exact laws_szMachine.W1
 rw[if_neg c2]at H
 replace c2:=decide_eq_false c2
 obtain rfl:=si H
 go_enter func9,ntmps9
 go_wp2_with (first|((with_reducible refine J (N:=2) rfl ?_);refine Fix.be 2 #[L A0_0 l0_0.length c0_0,V I a0_1,V I a0_2,V I a0_3,O a0_4,V I a0_5,O a0_6,V I a0_7,V I a0_8,L A0_9 l0_9.length c0_9,L A0_10 l0_10.length c0_10,V I a0_11,O a0_12,V I a0_13] 29 ?_;intro gb1 hg w1 BK1 hb;have GW1:=gE (w:=w) hg;replace HB:=eB hb;clear hb hg;have h_:=d14 BK1.out;(repeat(obtain⟨_,h_⟩:=h_)))|((with_reducible refine F (f:=34) rfl ?_);refine gl 34 (some 8) func34 #[L A0_0 l0_0.length c0_0,V I a1] ?_;(with_reducible refine(laws_szJobS.calls _ _ l0_0 a1 t1 _ ?side1 HC1_0.out A1.out).mono ?_);(case side1=>exact uZ HR1_0);rintro e w' ⟨rfl,⟨nd,rfl⟩⟩;refine⟨_,rfl,?_⟩)|((with_reducible refine F (f:=35) rfl ?_);refine gl 35 (some 14) func35 #[G #[V I a0_7,V I a0_8,L A0_9 l0_9.length c0_9,L A0_10 l0_10.length c0_10,V I a0_11,O a0_12],V I t1] ?_;(with_reducible refine(laws_szLine.calls a0_7 a0_8 _ _ l0_9 _ _ l0_10 a0_11 a0_12 t1 t2 _ ?side1 HC1_9.out ?side3 HC1_10.out A2.out).mono ?_);(case side1=>exact uC (Z HR1_9.out uB));(case side3=>exact uC (Z HR1_10.out uB));rintro e w2 ⟨rfl,hb⟩;refine⟨_,rfl,?_⟩;replace BK1:=eK BK1 hb;replace HB:=eB hb;clear hb))
 go_ret
 exact⟨rE,uB⟩
def laws_toJob.f (a0_0:Int) (a0_1:Int) (a0_2:Int) (a0_3:Bool) (a0_4:Int) (a0_5:Bool):Option (Int×Int×Int×Bool×Int×Bool):=some (a0_0,a0_1,a0_2,a0_3,a0_4,a0_5)
theorem laws_toJob.calls (a0_0:Int) (a0_1:Int) (a0_2:Int) (a0_3:Bool) (a0_4:Int) (a0_5:Bool) (r1:Int) (r2:Int) (r3:Int) (r4:Bool) (r5:Int) (r6:Bool) (w:World) (h:laws_toJob.f a0_0 a0_1 a0_2 a0_3 a0_4 a0_5=some (r1,r2,r3,r4,r5,r6)):
 Calls prog 42 #[G #[V I a0_0,V I a0_1,V I a0_2,O a0_3,V I a0_4,O a0_5]] w fun e w'=>e=.returned (G #[V I r1,V I r2,V I r3,O r4,V I r5,O r6])∧Below w.heap.size w w':=by
 have hu1:=underlying24
 have hu2:=underlying33
 have HB:=C (Below.refl w.heap.size w)
 have H:=h
 unfold laws_toJob.f at H
 clear h
 simp only[Option.some.injEq,Prod.mk.injEq]at H
 obtain⟨rfl,rfl,rfl,rfl,rfl,rfl⟩:=H
 go_enter func42,ntmps42
 go_wp2_with (first|((with_reducible refine J (N:=1) rfl ?_);refine Fix.be 1 #[V I a0_0,V I a0_1,V I a0_2,O a0_3,V I a0_4,O a0_5] 24 ?_;intro gb1 hg w1 BK1 hb;have GW1:=gE (w:=w) hg;replace HB:=eB hb;clear hb hg)|((with_reducible refine J (N:=2) rfl ?_);refine Fix.be 2 #[V I 0,V I 0,V I 0,O false,V I 0,O false] 33 ?_;intro gb2 hg w2 BK2 hb;have GW2:=gE (w:=w) hg;have n0:=nL hg BK1;have n1:=nG hg BK1;replace BK1:=eK BK1 hb;replace HB:=eB hb;clear hb hg)|((with_reducible refine J (N:=3) rfl ?_);refine Fix.be 3 #[V I 0,V I 0,V I 0,O false,V I 0,O false] 33 ?_;intro gb3 hg w3 BK3 hb;have GW3:=gE (w:=w) hg;have n2:=nL hg BK1;have n3:=nG hg BK1;have n4:=nL hg BK2;have n5:=nG hg BK2;replace BK1:=eK BK1 hb;replace BK2:=eK BK2 hb;replace HB:=eB hb;clear hb hg;have:=n0.out;have:=n1.out;have:=n2.out;have:=n3.out;obtain⟨_,_,_,_,_,_,_,_,_,_,_,_⟩:=d6 BK1.out;have:=n5.out;have:=n4.out;obtain⟨_,_,_,_,_,_,_,_,_,_,_,_⟩:=d6 BK3.out;obtain⟨_,_,_,_,_,_,_,_,_,_,_,_⟩:=d6 BK2.out))
 refine bodyPost_ret (results_cell_row rfl _ _ gb2 33 #[V I a0_0,V I a0_1,V I a0_2,O a0_3,V I a0_4,O a0_5] (0,0) _ rfl (bK BK2.out) underlying33 rfl (by kernel_rfl)) rfl ?_
 exact⟨rE,uB⟩
def laws_toJobS.l0:Nat→List (S24)→List (S33)→Int→Option ((List (S33)))
 |0,_,_,_=>none
 |k+1,x0,x3,x4=>if x4<(x0.length:Int) then(if 0≤x4 then((laws_toJob.f ((rd_T24 x0 x4).f0) ((rd_T24 x0 x4).f1) ((rd_T24 x0 x4).f2) ((rd_T24 x0 x4).f3) ((rd_T24 x0 x4).f4) ((rd_T24 x0 x4).f5)).bind fun bt114=>(if x4<(x3.length:Int) then(laws_toJobS.l0 k x0 (x3.set (x4:Int).toNat (⟨bt114.1,bt114.2.1,bt114.2.2.1,bt114.2.2.2.1,bt114.2.2.2.2.1,bt114.2.2.2.2.2⟩:S33)) (wrap64 (x4+1))) else(none))) else(none)) else(some x3)
def laws_toJobS.f (k:Nat) (l0:List (S24)):Option ((List (S33))):=if 0≤(l0.length:Int) then(if((l0.length:Int):Int).toNat≤5864062014805 then(laws_toJobS.l0 k l0 (List.replicate ((l0.length:Int):Int).toNat z33) 0) else(none)) else(none)
theorem laws_toJobS.calls (k:Nat) (A0:Option Addr) (c0:Nat) (l0:List (S24)) (r:List (S33)) (w:World) (hr0:Kd.C k24 w A0 l0.length l0) (hc0:l0.length≤c0) (h:laws_toJobS.f k l0=some r):
 Calls prog 41 #[L A0 l0.length c0] w fun e w'=>∃v0_:Value,e=.returned (v0_)∧Kd.R k33 33 w' w.heap.size (fun _=>True) v0_ r∧Below w.heap.size w w':=by
 have hu1:=underlying24
 have hu2:=underlying33
 have HR1:=C hr0
 have HC1:=C hc0
 (try clear hr0);(try clear hc0)
 have HB:=C (Below.refl w.heap.size w)
 have H:=h
 unfold laws_toJobS.f at H
 clear h
 obtain⟨c1,H⟩:=np H
 have c1b0:=eq_true c1
 have c1b1:decide (0≤(l0.length:Int))=true:=decide_eq_true c1
 clear c1
 obtain⟨c2,H⟩:=np H
 have c2b0:=eq_true c2
 have c2b1:decide (((l0.length:Int):Int).toNat≤5864062014805)=true:=decide_eq_true c2
 clear c2
 obtain⟨y1,hy1⟩:∃y_:List (S33),y_=(List.replicate ((l0.length:Int):Int).toNat z33):=⟨_,rfl⟩
 replace H:(laws_toJobS.l0 k l0 y1 0)=some r:=gy hy1 H
 have Ny1:=C hy1
 clear hy1
 have H':=C H
 clear H
 go_enter func41,ntmps41
 go_wp2_with (first|((with_reducible refine J (N:=7) rfl ?_);refine Kd.R_make k33 _ 33 rfl (N:=7) rfl 32 _ _ rfl (l0.length:Int) rfl rfl underlying32 (G #[(V I 0),(V I 0),(V I 0),(O false),(V I 0),(O false)]) 48 info33 rfl (by decide) (by omega) z33 (ok:=fun _=>True) (okp:=fun _=>True) (k33_mkM _ _ _ z33 ) (fun _ hk=>hk) trivial oT (Nat.le_trans (Nat.mul_le_mul_right _ (oT:(l0.length:Int).toNat≤5864062014805)) (by omega)) (Below.refl _ _) (Nat.le_refl _) ?_;intro v1 w2 ho1 hb hg_ hnew_;clear hg_ hnew_;(first|rw[←Ny1.out]at ho1|(simp only[Int.reduceToNat]at ho1;rw[←Ny1.out]at ho1));have HO1:=lR ho1;replace HB:=eB hb;clear hb ho1))
 go_loopg [4] k (fun kq v4 w'=>∃(x1_1:List (S33)) (x2_1:Int),v4=V I x2_1∧D (laws_toJobS.l0 kq l0 x1_1 x2_1=some r)∧D (kq≤k)∧D (Kd.R k33 33 w' w.heap.size (fun _=>True) v1 x1_1)∧D (Below w.heap.size w w'))
 case atStart=>exact⟨(y1),(0),rS,H',⟨Nat.le_refl _⟩,⟨fR HO1.out⟩,⟨uB⟩⟩
 case round=>
  clear H'
  obtain⟨x1_1,x2_1,rfl,HA,HK1,HO_1,HB⟩:=hrel
  cases gk with
  |zero=>exact absurd HA.out (by simp[laws_toJobS.l0])
  |succ k1=>
   have H:=HA.out
   clear HA
   simp only[laws_toJobS.l0]at H
   by_cases c3:x2_1<(l0.length:Int)
   rotate_left
   ·rw[if_neg c3]at H
    replace c3:=decide_eq_false c3
    obtain rfl:=si H
    go_wp2
    go_ret
    exact⟨_,rE,fR HO_1.out,uB⟩
   rw[if_pos c3]at H
   replace c3:=decide_eq_true c3
   obtain⟨c4,H⟩:=np H
   replace c4:=decide_eq_true c4
   obtain⟨⟨t1,t2,t3,t4,t5,t6⟩,A1,H⟩:=bnd H
   dsimp only at H
   obtain⟨c5,H⟩:=np H
   replace c5:=decide_eq_true c5
   obtain⟨y2,hy2⟩:∃y_:List (S33),y_=(x1_1.set (x2_1:Int).toNat (⟨t1,t2,t3,t4,t5,t6⟩:S33)):=⟨_,rfl⟩
   replace H:(laws_toJobS.l0 k1 l0 y2 (wrap64 (x2_1+1)))=some r:=gy hy2 H
   have Ny2:=C hy2
   clear hy2
   have H':=C H
   clear H
   have p1:0≤(x2_1:Int):=oT
   have q1:x2_1<(l0.length:Int):=oT
   obtain⟨ad1,e1,hx1_0,hx1_1,hx1_2,hx1_3,hx1_4,hx1_5⟩:=at_T24 (Z HR1.out HB.out) x2_1 p1 q1
   cases e1
   replace p1:=eq_true p1
   replace q1:=eq_true q1
   go_wp2_with (first|((with_reducible refine F (f:=42) rfl ?_);refine gl 42 (some 20) func42 #[G #[V I ((rd_T24 l0 x2_1).f0),V I ((rd_T24 l0 x2_1).f1),V I ((rd_T24 l0 x2_1).f2),O ((rd_T24 l0 x2_1).f3),V I ((rd_T24 l0 x2_1).f4),O ((rd_T24 l0 x2_1).f5)]] ?_;(with_reducible refine(laws_toJob.calls ((rd_T24 l0 x2_1).f0) ((rd_T24 l0 x2_1).f1) ((rd_T24 l0 x2_1).f2) ((rd_T24 l0 x2_1).f3) ((rd_T24 l0 x2_1).f4) ((rd_T24 l0 x2_1).f5) t1 t2 t3 t4 t5 t6 _ A1.out).mono ?_);rintro e w3 ⟨rfl,hb⟩;refine⟨_,rfl,?_⟩;replace HO_1:=eR HO_1 hb;replace HB:=eB hb;clear hb;have p2:0≤(x2_1:Int):=oT;have q2:(x2_1:Int)<((x1_1.length:Int):Int):=oT;obtain⟨go1,co1,eo1,gb1,gl1,cl1,HG1⟩:=Kd.R_form HO_1.out (by omega);(first|cases eo1|(injection eo1 with ea_ en_ ec_;(first|subst ea_|(injection ea_ with ea_;subst ea_));subst ec_;clear en_));have GB1:=C gb1;have GG1:=C HG1;clear gb1 gl1 HG1;obtain⟨ce1,hcl1,hM1,hcc1,hfr1⟩:=Kd.R_elem HO_1.out z33 (x2_1:Int) p2 q2;obtain rfl:=k33_openM hM1;have hx2_0:w3.cell? ⟨go1,(x2_1:Int).toNat * 6,none⟩=some (V I ((rd_T33 x1_1 x2_1).f0)):=hcc1 0 _ rfl;have hx2_1:w3.cell? ⟨go1,(x2_1:Int).toNat * 6+1,none⟩=some (V I ((rd_T33 x1_1 x2_1).f1)):=hcc1 1 _ rfl;have hx2_2:w3.cell? ⟨go1,(x2_1:Int).toNat * 6+2,none⟩=some (V I ((rd_T33 x1_1 x2_1).f2)):=hcc1 2 _ rfl;have hx2_3:w3.cell? ⟨go1,(x2_1:Int).toNat * 6+3,none⟩=some (O ((rd_T33 x1_1 x2_1).f3)):=hcc1 3 _ rfl;have hx2_4:w3.cell? ⟨go1,(x2_1:Int).toNat * 6+4,none⟩=some (V I ((rd_T33 x1_1 x2_1).f4)):=hcc1 4 _ rfl;have hx2_5:w3.cell? ⟨go1,(x2_1:Int).toNat * 6+5,none⟩=some (O ((rd_T33 x1_1 x2_1).f5)):=hcc1 5 _ rfl;have hf1_0:w3.frozen? ⟨go1,(x2_1:Int).toNat * 6,none⟩=false:=hfr1 0;have hf1_1:w3.frozen? ⟨go1,(x2_1:Int).toNat * 6+1,none⟩=false:=hfr1 1;have hf1_2:w3.frozen? ⟨go1,(x2_1:Int).toNat * 6+2,none⟩=false:=hfr1 2;have hf1_3:w3.frozen? ⟨go1,(x2_1:Int).toNat * 6+3,none⟩=false:=hfr1 3;have hf1_4:w3.frozen? ⟨go1,(x2_1:Int).toNat * 6+4,none⟩=false:=hfr1 4;have hf1_5:w3.frozen? ⟨go1,(x2_1:Int).toNat * 6+5,none⟩=false:=hfr1 5;(try clear hcl1);(try clear hcc1);(try clear hfr1);(try clear hM1);replace p2:=eq_true p2;replace q2:=eq_true q2;have HX1:=C (show Kd.R k33 33 w3 w.heap.size (fun _=>True) (L (some ⟨go1,0,none⟩) x1_1.length co1) x1_1 from(uR HO_1.out));obtain⟨ce2,hcl2,hM2,hcc2,hfr2⟩:=Kd.R_elem HX1.out z33 (x2_1:Int) oT (by have h_:(x2_1:Int)<((x1_1.length:Int):Int):=oT;first|exact h_|(have e_:=(Kd.R_reads' HO_1.out).1;omega)|simpa using h_);obtain rfl:=k33_openM hM2;have HP1:=Kd.R_seg HX1.out (x2_1:Int) oT (by have h_:(x2_1:Int)<((x1_1.length:Int):Int):=oT;first|exact h_|(have e_:=(Kd.R_reads' HO_1.out).1;omega)|simpa using h_) (seg:= [V I t1,V I t2,V I t3,O t4,V I t5,O t6]) (j:=0) hcl2 hcc2 (show 6≤6 from by decide) (x':=(⟨t1,t2,t3,t4,t5,t6⟩:S33)) (k33_mkM _ _ _ (⟨t1,t2,t3,t4,t5,t6⟩:S33)) (fun _ hk=>hk);have hx3_0:=hcc2 0 _ rfl;(try simp only[show(k33).sz=6 from rfl,Nat.mul_one,Nat.add_zero]at hx3_0);have hf2_0:=hfr2 0;(try simp only[show(k33).sz=6 from rfl,Nat.mul_one,Nat.add_zero]at hf2_0);have hx3_1:=hcc2 1 _ rfl;(try simp only[show(k33).sz=6 from rfl,Nat.mul_one,Nat.add_zero]at hx3_1);have hf2_1:=hfr2 1;(try simp only[show(k33).sz=6 from rfl,Nat.mul_one,Nat.add_zero]at hf2_1);have hx3_2:=hcc2 2 _ rfl;(try simp only[show(k33).sz=6 from rfl,Nat.mul_one,Nat.add_zero]at hx3_2);have hf2_2:=hfr2 2;(try simp only[show(k33).sz=6 from rfl,Nat.mul_one,Nat.add_zero]at hf2_2);have hx3_3:=hcc2 3 _ rfl;(try simp only[show(k33).sz=6 from rfl,Nat.mul_one,Nat.add_zero]at hx3_3);have hf2_3:=hfr2 3;(try simp only[show(k33).sz=6 from rfl,Nat.mul_one,Nat.add_zero]at hf2_3);have hx3_4:=hcc2 4 _ rfl;(try simp only[show(k33).sz=6 from rfl,Nat.mul_one,Nat.add_zero]at hx3_4);have hf2_4:=hfr2 4;(try simp only[show(k33).sz=6 from rfl,Nat.mul_one,Nat.add_zero]at hf2_4);have hx3_5:=hcc2 5 _ rfl;(try simp only[show(k33).sz=6 from rfl,Nat.mul_one,Nat.add_zero]at hx3_5);have hf2_5:=hfr2 5;(try simp only[show(k33).sz=6 from rfl,Nat.mul_one,Nat.add_zero]at hf2_5);(try clear hcl2);(try clear hcc2);(try clear hfr2);(try clear hM2))|((with_reducible refine gate_store (t:=33) (p:=21) rfl ?_);refine store_event (t:=33) (p:=21) (v:= ?vo_w1) (w1:=((((((w3.setCell ⟨go1,(x2_1:Int).toNat * 6,none⟩ (V I t1)).setCell ⟨go1,(x2_1:Int).toNat * 6+1,none⟩ (V I t2)).setCell ⟨go1,(x2_1:Int).toNat * 6+2,none⟩ (V I t3)).setCell ⟨go1,(x2_1:Int).toNat * 6+3,none⟩ (O t4)).setCell ⟨go1,(x2_1:Int).toNat * 6+4,none⟩ (V I t5)).setCell ⟨go1,(x2_1:Int).toNat * 6+5,none⟩ (O t6))) ?hg ?ho ?hn ?hr ?_;(case ho=>rfl);(case hg=>rfl);(case hn=>rfl);(case hr=>exact Fix.hr);intro w4 hw;have hg:w3.grownBy w4 (some go1):=(by rw[hw];exact HP1.2);have hp_:Kd.R k33 33 w4 w.heap.size (fun _=>True) (L (some ⟨go1,0,none⟩) x1_1.length co1) y2:=(by rw[hw,Ny2.out];exact HP1.1);clear HP1;replace HO_1:=C (hp_);replace HB:=C ((by rw[hw];exact below_set (below_set (below_set (below_set (below_set (below_set (HB.out) GB1.out) GB1.out) GB1.out) GB1.out) GB1.out) GB1.out:Below w.heap.size w w4));clear hg hw hp_))
   go_roundg k1
   case measure=>have:=HK1.out;omega
   case rel=>exact⟨(y2),(wrap64 (x2_1+1)),rS,H',⟨by have:=HK1.out;omega⟩,⟨fR HO_1.out⟩,⟨uB⟩⟩
def laws_toIntS.l0:Nat→List Int→List Int→Int→Option (List Int)
 |0,_,_,_=>none
 |k+1,x0,x3,x4=>if x4<(x0.length:Int) then(if 0≤x4 then(if x4<(x3.length:Int) then(laws_toIntS.l0 k x0 (x3.set (x4:Int).toNat (rd x0 x4)) (wrap64 (x4+1))) else(none)) else(none)) else(some x3)
def laws_toIntS.f (k:Nat) (l0:List Int):Option (List Int):=if 0≤(l0.length:Int) then(if((l0.length:Int):Int).toNat≤35184372088832 then(laws_toIntS.l0 k l0 (List.replicate ((l0.length:Int):Int).toNat 0) 0) else(none)) else(none)
theorem laws_toIntS.calls (k:Nat) (A0:Option Addr) (c0:Nat) (l0:List Int) (r:List Int) (w:World) (hr0:Kd.C (Kd.int .i64) w A0 l0.length l0) (hc0:l0.length≤c0) (h:laws_toIntS.f k l0=some r):
 Calls prog 27 #[L A0 l0.length c0] w fun e w'=>∃v0_:Value,e=.returned (v0_)∧Kd.R (Kd.int .i64) 3 w' w.heap.size (fun _=>True) v0_ r∧Below w.heap.size w w':=by
 have HR1:=C hr0
 have HC1:=C hc0
 (try clear hr0);(try clear hc0)
 have HB:=C (Below.refl w.heap.size w)
 have H:=h
 unfold laws_toIntS.f at H
 clear h
 obtain⟨c1,H⟩:=np H
 have c1b0:=eq_true c1
 have c1b1:decide (0≤(l0.length:Int))=true:=decide_eq_true c1
 clear c1
 obtain⟨c2,H⟩:=np H
 have c2b0:=eq_true c2
 have c2b1:decide (((l0.length:Int):Int).toNat≤35184372088832)=true:=decide_eq_true c2
 clear c2
 obtain⟨y1,hy1⟩:∃y_:List Int,y_=(List.replicate ((l0.length:Int):Int).toNat 0):=⟨_,rfl⟩
 replace H:(laws_toIntS.l0 k l0 y1 0)=some r:=gy hy1 H
 have Ny1:=C hy1
 clear hy1
 have H':=C H
 clear H
 go_enter func27,ntmps27
 go_wp2_with (first|((with_reducible refine J (N:=7) rfl ?_);refine Kd.R_make (Kd.int .i64) _ 3 rfl (N:=7) rfl 25 _ _ rfl (l0.length:Int) rfl rfl underlying25 (V I 0) 8 info3 rfl (by decide) (by omega) 0 (ok:=fun _=>True) (okp:=fun _=>True) rfl (fun _ hk=>hk) trivial oT (Nat.le_trans (Nat.mul_le_mul_right _ (oT:(l0.length:Int).toNat≤35184372088832)) (by omega)) (Below.refl _ _) (Nat.le_refl _) ?_;intro v1 w2 ho1 hb hg_ hnew_;clear hg_ hnew_;(first|rw[←Ny1.out]at ho1|(simp only[Int.reduceToNat]at ho1;rw[←Ny1.out]at ho1));have HO1:=lR ho1;replace HB:=eB hb;clear hb ho1))
 go_loopg [4] k (fun kq v4 w'=>∃(x1_1:List Int) (x2_1:Int),v4=V I x2_1∧D (laws_toIntS.l0 kq l0 x1_1 x2_1=some r)∧D (kq≤k)∧D (Kd.R (Kd.int .i64) 3 w' w.heap.size (fun _=>True) v1 x1_1)∧D (Below w.heap.size w w'))
 case atStart=>exact⟨(y1),(0),rS,H',⟨Nat.le_refl _⟩,⟨fR HO1.out⟩,⟨uB⟩⟩
 case round=>
  clear H'
  obtain⟨x1_1,x2_1,rfl,HA,HK1,HO_1,HB⟩:=hrel
  cases gk with
  |zero=>exact absurd HA.out (by simp[laws_toIntS.l0])
  |succ k1=>
   have H:=HA.out
   clear HA
   simp only[laws_toIntS.l0]at H
   by_cases c3:x2_1<(l0.length:Int)
   rotate_left
   ·rw[if_neg c3]at H
    replace c3:=decide_eq_false c3
    obtain rfl:=si H
    go_wp2
    go_ret
    exact⟨_,rE,fR HO_1.out,uB⟩
   rw[if_pos c3]at H
   replace c3:=decide_eq_true c3
   obtain⟨c4,H⟩:=np H
   replace c4:=decide_eq_true c4
   obtain⟨c5,H⟩:=np H
   replace c5:=decide_eq_true c5
   obtain⟨y2,hy2⟩:∃y_:List Int,y_=(x1_1.set (x2_1:Int).toNat (rd l0 x2_1)):=⟨_,rfl⟩
   replace H:(laws_toIntS.l0 k1 l0 y2 (wrap64 (x2_1+1)))=some r:=gy hy2 H
   have Ny2:=C hy2
   clear hy2
   have H':=C H
   clear H
   have p1:0≤(x2_1:Int):=oT
   have q1:x2_1<(l0.length:Int):=oT
   obtain⟨ad1,e1,hx1_0⟩:=Kd.at_int (Z HR1.out HB.out) x2_1 p1 q1
   cases e1
   replace p1:=eq_true p1
   replace q1:=eq_true q1
   have p2:0≤(x2_1:Int):=oT
   have q2:(x2_1:Int)<((x1_1.length:Int):Int):=oT
   obtain⟨go1,co1,eo1,gb1,gl1,cl1,HG1⟩:=Kd.R_form HO_1.out (by omega)
   (first|cases eo1|(injection eo1 with ea_ en_ ec_;(first|subst ea_|(injection ea_ with ea_;subst ea_));subst ec_;clear en_))
   have GB1:=C gb1
   have GG1:=C HG1
   clear gb1 gl1 HG1
   obtain⟨hx2_0,hf1_0⟩:=Kd.R_celln 0 HO_1.out (x2_1:Int) p2 q2
   replace p2:=eq_true p2
   replace q2:=eq_true q2
   have HP1:=Kd.R_putg HO_1.out (x2_1:Int) (rd l0 x2_1)
   go_wp2_with (first|((with_reducible refine gate_store (t:=3) (p:=20) rfl ?_);refine store_event (t:=3) (p:=20) (v:= ?vo_w1) (w1:=(wr.setCell ⟨go1,(x2_1:Int).toNat,none⟩ (V I (rd l0 x2_1)))) ?hg ?ho ?hn ?hr ?_;(case ho=>rfl);(case hg=>rfl);(case hn=>rfl);(case hr=>exact Fix.hr);intro w3 hw;have hg:wr.grownBy w3 (some go1):=(by rw[hw];exact HP1.2);have hp_:Kd.R (Kd.int .i64) 3 w3 w.heap.size (fun _=>True) (L (some ⟨go1,0,none⟩) x1_1.length co1) y2:=(by rw[hw,Ny2.out];exact HP1.1);clear HP1;replace HO_1:=C (hp_);replace HB:=C ((by rw[hw];exact below_set (HB.out) GB1.out:Below w.heap.size w w3));clear hg hw hp_))
   go_roundg k1
   case measure=>have:=HK1.out;omega
   case rel=>exact⟨(y2),(wrap64 (x2_1+1)),rS,H',⟨by have:=HK1.out;omega⟩,⟨fR HO_1.out⟩,⟨uB⟩⟩
def laws_toLine.f (k:Nat) (a0_0:Int) (a0_1:Int) (l0_2:List Int) (l0_3:List Int) (a0_4:Int) (a0_5:Bool):Option (Int×Int×List Int×List Int×Int×Bool):=(laws_toIntS.f k l0_2).bind fun t129=>((laws_toIntS.f k l0_3).bind fun t132=>(some (a0_0,a0_1,t129,t132,a0_4,a0_5)))
theorem laws_toLine.calls (k:Nat) (a0_0:Int) (a0_1:Int) (A0_2:Option Addr) (c0_2:Nat) (l0_2:List Int) (A0_3:Option Addr) (c0_3:Nat) (l0_3:List Int) (a0_4:Int) (a0_5:Bool) (r1:Int) (r2:Int) (r3:List Int) (r4:List Int) (r5:Int) (r6:Bool) (w:World) (hr0_2:Kd.C (Kd.int .i64) w A0_2 l0_2.length l0_2) (hc0_2:l0_2.length≤c0_2) (hr0_3:Kd.C (Kd.int .i64) w A0_3 l0_3.length l0_3) (hc0_3:l0_3.length≤c0_3) (h:laws_toLine.f k a0_0 a0_1 l0_2 l0_3 a0_4 a0_5=some (r1,r2,r3,r4,r5,r6)):
 Calls prog 43 #[G #[V I a0_0,V I a0_1,L A0_2 l0_2.length c0_2,L A0_3 l0_3.length c0_3,V I a0_4,O a0_5]] w fun e w'=>∃v2_ v3_:Value,e=.returned (G #[V I r1,V I r2,v2_,v3_,V I r5,O r6])∧Kd.R (Kd.int .i64) 3 w' w.heap.size (fun k_=>qm k_ v3_) v2_ r3∧Kd.R (Kd.int .i64) 3 w' w.heap.size (fun k_=>qm k_ v2_) v3_ r4∧Below w.heap.size w w':=by
 have hu1:=underlying27
 have hu2:=underlying34
 have HR1_2:=C hr0_2
 have HC1_2:=C hc0_2
 (try clear hr0_2);(try clear hc0_2)
 have HR1_3:=C hr0_3
 have HC1_3:=C hc0_3
 (try clear hr0_3);(try clear hc0_3)
 have HB:=C (Below.refl w.heap.size w)
 have H:=h
 unfold laws_toLine.f at H
 clear h
 obtain⟨t1,A1,H⟩:=bnd H
 obtain⟨t2,A2,H⟩:=bnd H
 simp only[Option.some.injEq,Prod.mk.injEq]at H
 obtain⟨rfl,rfl,rfl,rfl,rfl,rfl⟩:=H
 go_enter func43,ntmps43
 go_wp2_with (first|((with_reducible refine J (N:=1) rfl ?_);refine Fix.be 1 #[V I a0_0,V I a0_1,L A0_2 l0_2.length c0_2,L A0_3 l0_3.length c0_3,V I a0_4,O a0_5] 27 ?_;intro gb1 hg w1 BK1 hb;have GW1:=gE (w:=w) hg;replace HB:=eB hb;clear hb hg)|((with_reducible refine J (N:=2) rfl ?_);refine Fix.be 2 #[V I 0,V I 0,L none 0 0,L none 0 0,V I 0,O false] 34 ?_;intro gb2 hg w2 BK2 hb;have GW2:=gE (w:=w) hg;have n0:=nL hg BK1;have n1:=nG hg BK1;replace BK1:=eK BK1 hb;replace HB:=eB hb;clear hb hg)|((with_reducible refine J (N:=3) rfl ?_);refine Fix.be 3 #[V I 0,V I 0,L none 0 0,L none 0 0,V I 0,O false] 34 ?_;intro gb3 hg w3 BK3 hb;have GW3:=gE (w:=w) hg;have n2:=nL hg BK1;have n3:=nG hg BK1;have n4:=nL hg BK2;have n5:=nG hg BK2;replace BK1:=eK BK1 hb;replace BK2:=eK BK2 hb;replace HB:=eB hb;clear hb hg;have:=n0.out;have:=n1.out;have:=n2.out;have:=n3.out;obtain⟨_,_,_,_,_,_,_,_,_,_,_,_⟩:=d6 BK1.out;have:=n5.out;have:=n4.out;obtain⟨_,_,_,_,_,_,_,_,_,_,_,_⟩:=d6 BK3.out)|((with_reducible refine F (f:=27) rfl ?_);refine gl 27 (some 12) func27 #[L A0_2 l0_2.length c0_2] ?_;(with_reducible refine(laws_toIntS.calls k _ _ l0_2 t1 _ ?side1 HC1_2.out A1.out).mono ?_);(case side1=>exact Z HR1_2.out uB);rintro e w4 ⟨v1,rfl,ho1,hb⟩;refine⟨_,rfl,?_⟩;have HO1:=lR ho1;replace BK1:=eK BK1 hb;replace BK2:=eK BK2 hb;replace BK3:=C (blk_below (g:=gb3) (o:=.cells #[V I a0_0,V I a0_1,L none 0 0,L none 0 0,V I 0,O false] 34 (0,0)) (bK BK3.out) hb);replace HB:=eB hb;clear hb ho1;obtain⟨Ao1,co1,rfl⟩:=Kd.R_slice HO1.out;obtain⟨_,_,_,_,_,_,_,_,_,_,_,_⟩:=d6 BK3.out;obtain⟨_,_,_,_,_,_,_,_,_,_,_,_⟩:=d6 BK1.out)|((with_reducible refine F (f:=27) rfl ?_);refine gl 27 (some 16) func27 #[L A0_3 l0_3.length c0_3] ?_;(with_reducible refine(laws_toIntS.calls k _ _ l0_3 t2 _ ?side1 HC1_3.out A2.out).mono ?_);(case side1=>exact Z HR1_3.out uB);rintro e w5 ⟨v2,rfl,ho1,hb⟩;refine⟨_,rfl,?_⟩;have HO2:=C (Kd.R_lower (Kd.R_new' ho1 (Kd.R_lt (Kd.R_mono (fR (Y HO1.out BK3.out (by decide))) (fun _ h_=>h_.1)))) (below_size uB));replace HO1:=C (Kd.R_elder' (Kd.R_mono (fR (Y HO1.out BK3.out (by decide))) (fun _ h_=>h_.1)) (Kd.R_base ho1) hb);replace BK1:=eK BK1 hb;replace BK2:=eK BK2 hb;replace BK3:=C (blk_below (g:=gb3) (o:=.cells #[V I a0_0,V I a0_1,L Ao1 t1.length co1,L none 0 0,V I 0,O false] 34 (0,0)) (bK BK3.out) hb);replace HB:=eB hb;clear hb ho1;obtain⟨Ao2,co2,rfl⟩:=Kd.R_slice HO2.out;obtain⟨_,_,_,_,_,_,_,_,_,_,_,_⟩:=d6 BK3.out;obtain⟨_,_,_,_,_,_,_,_,_,_,_,_⟩:=d6 BK1.out;obtain⟨_,_,_,_,_,_,_,_,_,_,_,_⟩:=d6 BK2.out))
 refine bodyPost_ret (results_cell_row rfl _ _ gb2 34 #[V I a0_0,V I a0_1,L Ao1 t1.length co1,L Ao2 t2.length co2,V I a0_4,O a0_5] (0,0) _ rfl (bK BK2.out) underlying34 rfl (by kernel_rfl)) rfl ?_
 exact⟨_,_,rE,Kd.R_mono (fR (Y (Y HO1.out BK3.out (by decide)) BK2.out (by decide))) (fun _ hk=>hk.1.1.2),Kd.R_mono (fR (Y (Y HO2.out BK3.out (by decide)) BK2.out (by decide))) (fun _ hk=>hk.1.1.2),uB⟩
def laws_toMachine.f (k:Nat) (l0_0:List (S24)) (a0_1:Int) (a0_2:Int) (a0_3:Int) (a0_4:Bool) (a0_5:Int) (a0_6:Bool) (a0_7:Int) (a0_8:Int) (l0_9:List Int) (l0_10:List Int) (a0_11:Int) (a0_12:Bool) (a0_13:Int):Option ((List (S33))×Int×Int×Int×Bool×Int×Bool×Int×Int×List Int×List Int×Int×Bool×Int):=(laws_toJobS.f k l0_0).bind fun t138=>((laws_toJob.f a0_1 a0_2 a0_3 a0_4 a0_5 a0_6).bind fun bt141=>((laws_toLine.f k a0_7 a0_8 l0_9 l0_10 a0_11 a0_12).bind fun bt147=>(some (t138,bt141.1,bt141.2.1,bt141.2.2.1,bt141.2.2.2.1,bt141.2.2.2.2.1,bt141.2.2.2.2.2,bt147.1,bt147.2.1,bt147.2.2.1,bt147.2.2.2.1,bt147.2.2.2.2.1,bt147.2.2.2.2.2,a0_13))))
theorem laws_toMachine.calls (k:Nat) (A0_0:Option Addr) (c0_0:Nat) (l0_0:List (S24)) (a0_1:Int) (a0_2:Int) (a0_3:Int) (a0_4:Bool) (a0_5:Int) (a0_6:Bool) (a0_7:Int) (a0_8:Int) (A0_9:Option Addr) (c0_9:Nat) (l0_9:List Int) (A0_10:Option Addr) (c0_10:Nat) (l0_10:List Int) (a0_11:Int) (a0_12:Bool) (a0_13:Int) (r1:List (S33)) (r2:Int) (r3:Int) (r4:Int) (r5:Bool) (r6:Int) (r7:Bool) (r8:Int) (r9:Int) (r10:List Int) (r11:List Int) (r12:Int) (r13:Bool) (r14:Int) (w:World) (hr0_0:Kd.C k24 w A0_0 l0_0.length l0_0) (hc0_0:l0_0.length≤c0_0) (hr0_9:Kd.C (Kd.int .i64) w A0_9 l0_9.length l0_9) (hc0_9:l0_9.length≤c0_9) (hr0_10:Kd.C (Kd.int .i64) w A0_10 l0_10.length l0_10) (hc0_10:l0_10.length≤c0_10) (h:laws_toMachine.f k l0_0 a0_1 a0_2 a0_3 a0_4 a0_5 a0_6 a0_7 a0_8 l0_9 l0_10 a0_11 a0_12 a0_13=some (r1,r2,r3,r4,r5,r6,r7,r8,r9,r10,r11,r12,r13,r14)):
 Calls prog 11 #[G #[L A0_0 l0_0.length c0_0,V I a0_1,V I a0_2,V I a0_3,O a0_4,V I a0_5,O a0_6,V I a0_7,V I a0_8,L A0_9 l0_9.length c0_9,L A0_10 l0_10.length c0_10,V I a0_11,O a0_12,V I a0_13]] w fun e w'=>∃v0_ v9_ v10_:Value,e=.returned (G #[v0_,V I r2,V I r3,V I r4,O r5,V I r6,O r7,V I r8,V I r9,v9_,v10_,V I r12,O r13,V I r14])∧Kd.R k33 33 w' w.heap.size (fun _=>True) v0_ r1∧Kd.R (Kd.int .i64) 3 w' w.heap.size (fun k_=>qm k_ v10_) v9_ r10∧Kd.R (Kd.int .i64) 3 w' w.heap.size (fun k_=>qm k_ v9_) v10_ r11∧Below w.heap.size w w':=by
 have hu1:=underlying29
 have hu2:=underlying36
 have hu3:=underlying24
 have hu4:=underlying33
 have hu5:=underlying27
 have hu6:=underlying34
 have HR1_0:=C hr0_0
 have HC1_0:=C hc0_0
 (try clear hr0_0);(try clear hc0_0)
 have HR1_9:=C hr0_9
 have HC1_9:=C hc0_9
 (try clear hr0_9);(try clear hc0_9)
 have HR1_10:=C hr0_10
 have HC1_10:=C hc0_10
 (try clear hr0_10);(try clear hc0_10)
 have HB:=C (Below.refl w.heap.size w)
 have H:=h
 unfold laws_toMachine.f at H
 clear h
 obtain⟨t1,A1,H⟩:=bnd H
 obtain⟨⟨t2,t3,t4,t5,t6,t7⟩,A2,H⟩:=bnd H
 dsimp only at H
 obtain⟨⟨t8,t9,t10,t11,t12,t13⟩,A3,H⟩:=bnd H
 dsimp only at H
 simp only[Option.some.injEq,Prod.mk.injEq]at H
 obtain⟨rfl,rfl,rfl,rfl,rfl,rfl,rfl,rfl,rfl,rfl,rfl,rfl,rfl,rfl⟩:=H
 go_enter func11,ntmps11
 go_wp2_with (first|((with_reducible refine J (N:=1) rfl ?_);refine Fix.be 1 #[L A0_0 l0_0.length c0_0,V I a0_1,V I a0_2,V I a0_3,O a0_4,V I a0_5,O a0_6,V I a0_7,V I a0_8,L A0_9 l0_9.length c0_9,L A0_10 l0_10.length c0_10,V I a0_11,O a0_12,V I a0_13] 29 ?_;intro gb1 hg w1 BK1 hb;have GW1:=gE (w:=w) hg;replace HB:=eB hb;clear hb hg)|((with_reducible refine J (N:=2) rfl ?_);refine Fix.be 2 #[L none 0 0,V I 0,V I 0,V I 0,O false,V I 0,O false,V I 0,V I 0,L none 0 0,L none 0 0,V I 0,O false,V I 0] 36 ?_;intro gb2 hg w2 BK2 hb;have GW2:=gE (w:=w) hg;have n0:=nL hg BK1;have n1:=nG hg BK1;replace BK1:=eK BK1 hb;replace HB:=eB hb;clear hb hg)|((with_reducible refine J (N:=3) rfl ?_);refine Fix.be 3 #[L none 0 0,V I 0,V I 0,V I 0,O false,V I 0,O false,V I 0,V I 0,L none 0 0,L none 0 0,V I 0,O false,V I 0] 36 ?_;intro gb3 hg w3 BK3 hb;have GW3:=gE (w:=w) hg;have n2:=nL hg BK1;have n3:=nG hg BK1;have n4:=nL hg BK2;have n5:=nG hg BK2;replace BK1:=eK BK1 hb;replace BK2:=eK BK2 hb;replace HB:=eB hb;clear hb hg;have:=n0.out;have:=n1.out;have:=n2.out;have:=n3.out;obtain⟨_,_,_,_,_,_,_,_,_,_,_,_,_,_,_,_,_,_,_,_,_,_,_,_,_,_,_,_⟩:=d14 BK1.out)|((with_reducible refine F (f:=41) rfl ?_);refine gl 41 (some 6) func41 #[L A0_0 l0_0.length c0_0] ?_;(with_reducible refine(laws_toJobS.calls k _ _ l0_0 t1 _ ?side1 HC1_0.out A1.out).mono ?_);(case side1=>exact uZ HR1_0);rintro e w4 ⟨v1,rfl,ho1,hb⟩;refine⟨_,rfl,?_⟩;have HO1:=lR ho1;replace BK1:=eK BK1 hb;replace BK2:=eK BK2 hb;replace BK3:=eK BK3 hb;replace HB:=eB hb;clear hb ho1;obtain⟨Ao1,co1,rfl⟩:=Kd.R_slice HO1.out;have:=n5.out;have:=n4.out;obtain⟨_,_,_,_,_,_,_,_,_,_,_,_,_,_,_,_,_,_,_,_,_,_,_,_,_,_,_,_⟩:=d14 BK3.out;obtain⟨_,_,_,_,_,_,_,_,_,_,_,_,_,_,_,_,_,_,_,_,_,_,_,_,_,_,_,_⟩:=d14 BK1.out)|((with_reducible refine F (f:=42) rfl ?_);refine gl 42 (some 10) func42 #[G #[V I a0_1,V I a0_2,V I a0_3,O a0_4,V I a0_5,O a0_6]] ?_;(with_reducible refine(laws_toJob.calls a0_1 a0_2 a0_3 a0_4 a0_5 a0_6 t2 t3 t4 t5 t6 t7 _ A2.out).mono ?_);rintro e w5 ⟨rfl,hb⟩;refine⟨_,rfl,?_⟩;replace HO1:=C (Kd.R_below (Kd.R_mono (fR (Y HO1.out BK3.out (by decide))) (fun _ h_=>h_.1)) hb);replace BK1:=eK BK1 hb;replace BK2:=eK BK2 hb;replace BK3:=C (blk_below (g:=gb3) (o:=.cells #[L Ao1 t1.length co1,V I 0,V I 0,V I 0,O false,V I 0,O false,V I 0,V I 0,L none 0 0,L none 0 0,V I 0,O false,V I 0] 36 (0,0)) (bK BK3.out) hb);replace HB:=eB hb;clear hb;obtain⟨_,_,_,_,_,_,_,_,_,_,_,_,_,_,_,_,_,_,_,_,_,_,_,_,_,_,_,_⟩:=d14 BK3.out;obtain⟨_,_,_,_,_,_,_,_,_,_,_,_,_,_,_,_,_,_,_,_,_,_,_,_,_,_,_,_⟩:=d14 BK1.out)|((with_reducible refine F (f:=43) rfl ?_);refine gl 43 (some 14) func43 #[G #[V I a0_7,V I a0_8,L A0_9 l0_9.length c0_9,L A0_10 l0_10.length c0_10,V I a0_11,O a0_12]] ?_;(with_reducible refine(laws_toLine.calls k a0_7 a0_8 _ _ l0_9 _ _ l0_10 a0_11 a0_12 t8 t9 t10 t11 t12 t13 _ ?side1 HC1_9.out ?side3 HC1_10.out A3.out).mono ?_);(case side1=>exact Z HR1_9.out uB);(case side3=>exact Z HR1_10.out uB);rintro e w6 ⟨v2,v3,rfl,ho1,ho2,hb⟩;refine⟨_,rfl,?_⟩;have HO2:=lR ho1;have HO3:=lR ho2;replace HO1:=C (Kd.R_below (Kd.R_mono (fR (Y HO1.out BK3.out (by decide))) (fun _ h_=>h_.1)) hb);replace BK1:=eK BK1 hb;replace BK2:=eK BK2 hb;replace BK3:=C (blk_below (g:=gb3) (o:=.cells #[L Ao1 t1.length co1,V I t2,V I t3,V I t4,O t5,V I t6,O t7,V I 0,V I 0,L none 0 0,L none 0 0,V I 0,O false,V I 0] 36 (0,0)) (bK BK3.out) hb);replace HB:=eB hb;clear hb ho1 ho2;obtain⟨_,_,_,_,_,_,_,_,_,_,_,_,_,_,_,_,_,_,_,_,_,_,_,_,_,_,_,_⟩:=d14 BK3.out;obtain⟨Ao2,co2,rfl⟩:=Kd.R_slice HO2.out;obtain⟨Ao3,co3,rfl⟩:=Kd.R_slice HO3.out;obtain⟨_,_,_,_,_,_,_,_,_,_,_,_,_,_,_,_,_,_,_,_,_,_,_,_,_,_,_,_⟩:=d14 BK1.out;obtain⟨_,_,_,_,_,_,_,_,_,_,_,_,_,_,_,_,_,_,_,_,_,_,_,_,_,_,_,_⟩:=d14 BK2.out))
 refine bodyPost_ret (results_cell_row rfl _ _ gb2 36 #[L Ao1 t1.length co1,V I t2,V I t3,V I t4,O t5,V I t6,O t7,V I t8,V I t9,L Ao2 t10.length co2,L Ao3 t11.length co3,V I t12,O t13,V I a0_13] (0,0) _ rfl (bK BK2.out) underlying36 rfl (by kernel_rfl)) rfl ?_
 exact⟨_,_,_,rE,Kd.R_mono (fR (Y (Y HO1.out BK3.out (by decide)) BK2.out (by decide))) (fun _ hk=>trivial),Kd.R_mono (fR (Y (Y HO2.out BK3.out (by decide)) BK2.out (by decide))) (fun _ hk=>hk.1.1),Kd.R_mono (fR (Y (Y HO3.out BK3.out (by decide)) BK2.out (by decide))) (fun _ hk=>hk.1.1),uB⟩
def laws_eqJob.f (a0_0:Int) (a0_1:Int) (a0_2:Int) (a0_3:Bool) (a0_4:Int) (a0_5:Bool) (a1_0:Int) (a1_1:Int) (a1_2:Int) (a1_3:Bool) (a1_4:Int) (a1_5:Bool):Option (Bool):=if a0_0=a1_0 then(if a0_1=a1_1 then(if a0_2=a1_2 then(if(a0_3 !=a1_3)=true then(some false) else(if a0_4=a1_4 then(if(a0_5 !=a1_5)=true then(some false) else(some true)) else(some false))) else(some false)) else(some false)) else(some false)
theorem laws_eqJob.W1 {p:Prop} (h:p:=by
 go_enter func50,ntmps50
 go_wp2_with (first|((with_reducible refine J (N:=2) rfl ?_);refine Fix.be 2 #[V I a0_0,V I a0_1,V I a0_2,O a0_3,V I a0_4,O a0_5] 33 ?_;intro gb1 hg w1 BK1 hb;have GW1:=gE (w:=w) hg;replace HB:=eB hb;clear hb hg)|((with_reducible refine J (N:=3) rfl ?_);refine Fix.be 3 #[V I a1_0,V I a1_1,V I a1_2,O a1_3,V I a1_4,O a1_5] 33 ?_;intro gb2 hg w2 BK2 hb;have GW2:=gE (w:=w) hg;have n0:=nL hg BK1;have n1:=nG hg BK1;replace BK1:=eK BK1 hb;replace HB:=eB hb;clear hb hg;have:=n0.out;have:=n1.out;obtain⟨_,_,_,_,_,_,_,_,_,_,_,_⟩:=d6 BK1.out;obtain⟨_,_,_,_,_,_,_,_,_,_,_,_⟩:=d6 BK2.out))
 go_ret
 exact⟨rE,uB⟩):p:=h
theorem laws_eqJob.W2 {p:Prop} (h:p:=by
 go_enter func50,ntmps50
 go_wp2_with (first|((with_reducible refine J (N:=2) rfl ?_);refine Fix.be 2 #[V I a0_0,V I a0_1,V I a0_2,O a0_3,V I a0_4,O a0_5] 33 ?_;intro gb1 hg w1 BK1 hb;have GW1:=gE (w:=w) hg;replace HB:=eB hb;clear hb hg)|((with_reducible refine J (N:=3) rfl ?_);refine Fix.be 3 #[V I a1_0,V I a1_1,V I a1_2,O a1_3,V I a1_4,O a1_5] 33 ?_;intro gb2 hg w2 BK2 hb;have GW2:=gE (w:=w) hg;have n0:=nL hg BK1;have n1:=nG hg BK1;replace BK1:=eK BK1 hb;replace HB:=eB hb;clear hb hg;have:=n0.out;have:=n1.out;obtain⟨_,_,_,_,_,_,_,_,_,_,_,_⟩:=d6 BK1.out;obtain⟨_,_,_,_,_,_,_,_,_,_,_,_⟩:=d6 BK2.out))
 go_ret
 exact⟨rE,uB⟩):p:=h
theorem laws_eqJob.calls (a0_0:Int) (a0_1:Int) (a0_2:Int) (a0_3:Bool) (a0_4:Int) (a0_5:Bool) (a1_0:Int) (a1_1:Int) (a1_2:Int) (a1_3:Bool) (a1_4:Int) (a1_5:Bool) (r:Bool) (w:World) (h:laws_eqJob.f a0_0 a0_1 a0_2 a0_3 a0_4 a0_5 a1_0 a1_1 a1_2 a1_3 a1_4 a1_5=some r):
 Calls prog 50 #[G #[V I a0_0,V I a0_1,V I a0_2,O a0_3,V I a0_4,O a0_5],G #[V I a1_0,V I a1_1,V I a1_2,O a1_3,V I a1_4,O a1_5]] w fun e w'=>e=.returned (O r)∧Below w.heap.size w w':=by
 have hu1:=underlying33
 have HB:=C (Below.refl w.heap.size w)
 have H:=h
 unfold laws_eqJob.f at H
 clear h
 by_cases c1:a0_0=a1_0
 rotate_left
 ·rw[if_neg c1]at H
  have c1b0:(a0_0==a1_0)=false:=beq_eq_false_iff_ne.mpr c1
  have c1b1:(a0_0 !=a1_0)=true:=bne_iff_ne.mpr c1
  obtain rfl:=si H
  exact laws_eqJob.W2
 rw[if_pos c1]at H
 have c1b0:(a0_0==a1_0)=true:=beq_iff_eq.mpr c1
 have c1b1:(a0_0 !=a1_0)=false:=bne_eq_false_iff_eq.mpr c1
 clear c1
 by_cases c2:a0_1=a1_1
 rotate_left
 ·rw[if_neg c2]at H
  have c2b0:(a0_1==a1_1)=false:=beq_eq_false_iff_ne.mpr c2
  have c2b1:(a0_1 !=a1_1)=true:=bne_iff_ne.mpr c2
  obtain rfl:=si H
  exact laws_eqJob.W2
 rw[if_pos c2]at H
 have c2b0:(a0_1==a1_1)=true:=beq_iff_eq.mpr c2
 have c2b1:(a0_1 !=a1_1)=false:=bne_eq_false_iff_eq.mpr c2
 clear c2
 by_cases c3:a0_2=a1_2
 rotate_left
 ·rw[if_neg c3]at H
  have c3b0:(a0_2==a1_2)=false:=beq_eq_false_iff_ne.mpr c3
  have c3b1:(a0_2 !=a1_2)=true:=bne_iff_ne.mpr c3
  obtain rfl:=si H
  exact laws_eqJob.W2
 rw[if_pos c3]at H
 have c3b0:(a0_2==a1_2)=true:=beq_iff_eq.mpr c3
 have c3b1:(a0_2 !=a1_2)=false:=bne_eq_false_iff_eq.mpr c3
 clear c3
 by_cases c4:(a0_3 !=a1_3)=true
 ·rw[if_pos c4]at H
  have c4b0:(a0_3 !=a1_3)=true:=c4
  (try(have c4b1:decide (a0_3=a1_3)=false:=by simpa using c4))
  (try(have c4b2:(a0_3==a1_3)=false:=by simpa using c4))
  (try(have c4b3:¬(a0_3=a1_3):=by simpa using c4))
  clear c4
  obtain rfl:=si H
  exact laws_eqJob.W1
 rw[if_neg c4]at H
 have c4b0:(a0_3 !=a1_3)=false:=by simpa using c4
 (try(have c4b1:decide (a0_3=a1_3)=true:=by simpa using c4))
 (try(have c4b2:(a0_3==a1_3)=true:=by simpa using c4))
 clear c4
 by_cases c5:a0_4=a1_4
 rotate_left
 ·rw[if_neg c5]at H
  have c5b0:(a0_4==a1_4)=false:=beq_eq_false_iff_ne.mpr c5
  have c5b1:(a0_4 !=a1_4)=true:=bne_iff_ne.mpr c5
  obtain rfl:=si H
  exact laws_eqJob.W2
 rw[if_pos c5]at H
 have c5b0:(a0_4==a1_4)=true:=beq_iff_eq.mpr c5
 have c5b1:(a0_4 !=a1_4)=false:=bne_eq_false_iff_eq.mpr c5
 clear c5
 by_cases c6:(a0_5 !=a1_5)=true
 ·rw[if_pos c6]at H
  have c6b0:(a0_5 !=a1_5)=true:=c6
  (try(have c6b1:decide (a0_5=a1_5)=false:=by simpa using c6))
  (try(have c6b2:(a0_5==a1_5)=false:=by simpa using c6))
  (try(have c6b3:¬(a0_5=a1_5):=by simpa using c6))
  clear c6
  obtain rfl:=si H
  exact laws_eqJob.W1
 rw[if_neg c6]at H
 have c6b0:(a0_5 !=a1_5)=false:=by simpa using c6
 (try(have c6b1:decide (a0_5=a1_5)=true:=by simpa using c6))
 (try(have c6b2:(a0_5==a1_5)=true:=by simpa using c6))
 clear c6
 obtain rfl:=si H
 go_enter func50,ntmps50
 go_wp2_with (first|((with_reducible refine J (N:=2) rfl ?_);refine Fix.be 2 #[V I a0_0,V I a0_1,V I a0_2,O a0_3,V I a0_4,O a0_5] 33 ?_;intro gb1 hg w1 BK1 hb;have GW1:=gE (w:=w) hg;replace HB:=eB hb;clear hb hg)|((with_reducible refine J (N:=3) rfl ?_);refine Fix.be 3 #[V I a1_0,V I a1_1,V I a1_2,O a1_3,V I a1_4,O a1_5] 33 ?_;intro gb2 hg w2 BK2 hb;have GW2:=gE (w:=w) hg;have n0:=nL hg BK1;have n1:=nG hg BK1;replace BK1:=eK BK1 hb;replace HB:=eB hb;clear hb hg;have:=n0.out;have:=n1.out;obtain⟨_,_,_,_,_,_,_,_,_,_,_,_⟩:=d6 BK1.out;obtain⟨_,_,_,_,_,_,_,_,_,_,_,_⟩:=d6 BK2.out))
 go_ret
 exact⟨rE,uB⟩
def laws_eqJobS.l0:Nat→List (S33)→List (S33)→Int→Option (Bool)
 |0,_,_,_=>none
 |k+1,x0,x1,x5=>if x5<(x0.length:Int) then(if 0≤x5 then(if x5<(x1.length:Int) then((laws_eqJob.f ((rd_T33 x0 x5).f0) ((rd_T33 x0 x5).f1) ((rd_T33 x0 x5).f2) ((rd_T33 x0 x5).f3) ((rd_T33 x0 x5).f4) ((rd_T33 x0 x5).f5) ((rd_T33 x1 x5).f0) ((rd_T33 x1 x5).f1) ((rd_T33 x1 x5).f2) ((rd_T33 x1 x5).f3) ((rd_T33 x1 x5).f4) ((rd_T33 x1 x5).f5)).bind fun t161=>(if t161=true then(laws_eqJobS.l0 k x0 x1 (wrap64 (x5+1))) else(some false))) else(none)) else(none)) else(some true)
def laws_eqJobS.f (k:Nat) (l0:List (S33)) (l1:List (S33)):Option (Bool):=if(l0.length:Int)=(l1.length:Int) then(laws_eqJobS.l0 k l0 l1 0) else(some false)
def laws_eqJobS.T6:Bool×List (List Nat×List Nat):=(true,[([],[]),([],[]),([0,1],[0,1]),([2],[2]),([],[]),([],[]),([4,5],[4,5]),([6],[6]),([3,7],[3,7]),([8],[8])])
def laws_eqJobS.B6:List Nat:= [0,0,3,7,0,0,48,112,255,511]
theorem laws_eqJobS.tab6:rtab .any (opsOf Try.f49 6)=laws_eqJobS.T6:=by kernel_rfl
theorem laws_eqJobS.bits6:waitsOk laws_eqJobS.T6.2 laws_eqJobS.B6=true:=by kernel_rfl
theorem laws_eqJobS.calls (k:Nat) (A0:Option Addr) (c0:Nat) (l0:List (S33)) (A1:Option Addr) (c1:Nat) (l1:List (S33)) (r:Bool) (w:World) (hr0:Kd.C k33 w A0 l0.length l0) (hc0:l0.length≤c0) (hr1:Kd.C k33 w A1 l1.length l1) (hc1:l1.length≤c1) (h:laws_eqJobS.f k l0 l1=some r):
 Calls prog 49 #[L A0 l0.length c0,L A1 l1.length c1] w fun e w'=>e=.returned (O r)∧Below w.heap.size w w':=by
 have hu1:=underlying33
 have HR1:=C hr0
 have HC1:=C hc0
 (try clear hr0);(try clear hc0)
 have HR2:=C hr1
 have HC2:=C hc1
 (try clear hr1);(try clear hc1)
 have HB:=C (Below.refl w.heap.size w)
 have H:=h
 unfold laws_eqJobS.f at H
 clear h
 by_cases c1:(l0.length:Int)=(l1.length:Int)
 rotate_left
 ·rw[if_neg c1]at H
  have c1b0:((l0.length:Int)==(l1.length:Int))=false:=beq_eq_false_iff_ne.mpr c1
  have c1b1:((l0.length:Int) !=(l1.length:Int))=true:=bne_iff_ne.mpr c1
  have c1b2:(l0.length==l1.length)=false:=by first|simpa using c1|(simp at c1 ⊢;omega)
  obtain rfl:=si H
  go_enter func49,ntmps49
  go_wp2
  go_ret
  exact⟨rE,uB⟩
 rw[if_pos c1]at H
 have c1b0:((l0.length:Int)==(l1.length:Int))=true:=beq_iff_eq.mpr c1
 have c1b1:((l0.length:Int) !=(l1.length:Int))=false:=bne_eq_false_iff_eq.mpr c1
 have c1b2:(l0.length==l1.length)=true:=by first|simpa using c1|(simp at c1 ⊢;omega)
 clear c1
 have H':=C H
 clear H
 go_enter func49,ntmps49
 go_wp2
 go_loopg [5] k (fun kq v5 w'=>∃(x1_1:Int),v5=V I x1_1∧D (laws_eqJobS.l0 kq l0 l1 x1_1=some r)∧D (kq≤k)∧D (Below w.heap.size w w'))
 case atStart=>exact⟨(0),rS,H',⟨Nat.le_refl _⟩,⟨uB⟩⟩
 case round=>
  clear H'
  obtain⟨x1_1,rfl,HA,HK1,HB⟩:=hrel
  cases gk with
  |zero=>exact absurd HA.out (by simp[laws_eqJobS.l0])
  |succ k1=>
   have H:=HA.out
   clear HA
   simp only[laws_eqJobS.l0]at H
   by_cases c2:x1_1<(l0.length:Int)
   rotate_left
   ·rw[if_neg c2]at H
    replace c2:=decide_eq_false c2
    obtain rfl:=si H
    go_wp2
    go_ret
    exact⟨rE,uB⟩
   rw[if_pos c2]at H
   replace c2:=decide_eq_true c2
   obtain⟨c3,H⟩:=np H
   replace c3:=decide_eq_true c3
   obtain⟨c4,H⟩:=np H
   replace c4:=decide_eq_true c4
   obtain⟨t1,A1,H⟩:=bnd H
   by_cases c5:t1=true
   rotate_left
   ·obtain rfl:=nt c5
    replace H:=nf H
    obtain rfl:=si H
    try go_wp2
    replace HB:=dB HB
    have p1:0≤(x1_1:Int):=oT
    have q1:x1_1<(l0.length:Int):=oT
    obtain⟨ad1,e1,hx1_0,hx1_1,hx1_2,hx1_3,hx1_4,hx1_5⟩:=at_T33 HR1.out x1_1 p1 q1
    have hw1_5:=hx1_5
    have hw1_4:=hx1_4
    have hw1_3:=hx1_3
    have hw1_2:=hx1_2
    have hw1_1:=hx1_1
    have hw1_0:=hx1_0
    cases e1
    replace hx1_0:=hx HB hx1_0
    replace hx1_1:=hx HB hx1_1
    replace hx1_2:=hx HB hx1_2
    replace hx1_3:=hx HB hx1_3
    replace hx1_4:=hx HB hx1_4
    replace hx1_5:=hx HB hx1_5
    replace p1:=eq_true p1
    replace q1:=eq_true q1
    have p2:0≤(x1_1:Int):=oT
    have q2:x1_1<(l1.length:Int):=oT
    obtain⟨ad2,e2,hx2_0,hx2_1,hx2_2,hx2_3,hx2_4,hx2_5⟩:=at_T33 HR2.out x1_1 p2 q2
    have hw2_5:=hx2_5
    have hw2_4:=hx2_4
    have hw2_3:=hx2_3
    have hw2_2:=hx2_2
    have hw2_1:=hx2_1
    have hw2_0:=hx2_0
    cases e2
    replace hx2_0:=hx HB hx2_0
    replace hx2_1:=hx HB hx2_1
    replace hx2_2:=hx HB hx2_2
    replace hx2_3:=hx HB hx2_3
    replace hx2_4:=hx HB hx2_4
    replace hx2_5:=hx HB hx2_5
    replace p2:=eq_true p2
    replace q2:=eq_true q2
    refine start_ (n:=10) (S:=fun w'=>w'.cell? (ad1.add ((x1_1).toNat * 6))=some (V I ((rd_T33 l0 x1_1).f0))∧w'.cell? ⟨(ad1.add ((x1_1).toNat * 6)).block,(ad1.add ((x1_1).toNat * 6)).off+1,none⟩=some (V I ((rd_T33 l0 x1_1).f1))∧w'.cell? ⟨(ad1.add ((x1_1).toNat * 6)).block,(ad1.add ((x1_1).toNat * 6)).off+2,none⟩=some (V I ((rd_T33 l0 x1_1).f2))∧w'.cell? ⟨(ad1.add ((x1_1).toNat * 6)).block,(ad1.add ((x1_1).toNat * 6)).off+3,none⟩=some (O ((rd_T33 l0 x1_1).f3))∧w'.cell? ⟨(ad1.add ((x1_1).toNat * 6)).block,(ad1.add ((x1_1).toNat * 6)).off+4,none⟩=some (V I ((rd_T33 l0 x1_1).f4))∧w'.cell? ⟨(ad1.add ((x1_1).toNat * 6)).block,(ad1.add ((x1_1).toNat * 6)).off+5,none⟩=some (O ((rd_T33 l0 x1_1).f5))∧w'.cell? (ad2.add ((x1_1).toNat * 6))=some (V I ((rd_T33 l1 x1_1).f0))∧w'.cell? ⟨(ad2.add ((x1_1).toNat * 6)).block,(ad2.add ((x1_1).toNat * 6)).off+1,none⟩=some (V I ((rd_T33 l1 x1_1).f1))∧w'.cell? ⟨(ad2.add ((x1_1).toNat * 6)).block,(ad2.add ((x1_1).toNat * 6)).off+2,none⟩=some (V I ((rd_T33 l1 x1_1).f2))∧w'.cell? ⟨(ad2.add ((x1_1).toNat * 6)).block,(ad2.add ((x1_1).toNat * 6)).off+3,none⟩=some (O ((rd_T33 l1 x1_1).f3))∧w'.cell? ⟨(ad2.add ((x1_1).toNat * 6)).block,(ad2.add ((x1_1).toNat * 6)).off+4,none⟩=some (V I ((rd_T33 l1 x1_1).f4))∧w'.cell? ⟨(ad2.add ((x1_1).toNat * 6)).block,(ad2.add ((x1_1).toNat * 6)).off+5,none⟩=some (O ((rd_T33 l1 x1_1).f5))) (ds:= []) #[false,false,false,false,false,false,false,false,false,false] (by kernel_rfl) rfl rfl hi (fun hHeld=> ?_);refine with_tabW laws_eqJobS.tab6 laws_eqJobS.bits6 (fun HT_ HW_=> ?_)
    generalize wr.drew=w1 at HB hx1_0 hx1_1 hx1_2 hx1_3 hx1_4 hx1_5 hx2_0 hx2_1 hx2_2 hx2_3 hx2_4 hx2_5 hHeld ⊢
    refine pu 0 (some 17) ?_
    refine pu 1 (some 18) ?_
    refine pu 2 (some 19) ?_
    refine pu 4 (some 21) ?_
    refine pu 5 (some 22) ?_
    refine pu 6 (some 23) ?_
    refine tu 3 (some 20) hHeld ?_
    refine tu 7 (some 24) hHeld ?_
    refine ou 8 (some 25) (fun K hK=> ?_)
    refine gs func50 #[G #[V I ((rd_T33 l0 x1_1).f0),V I ((rd_T33 l0 x1_1).f1),V I ((rd_T33 l0 x1_1).f2),O ((rd_T33 l0 x1_1).f3),V I ((rd_T33 l0 x1_1).f4),O ((rd_T33 l0 x1_1).f5)],G #[V I ((rd_T33 l1 x1_1).f0),V I ((rd_T33 l1 x1_1).f1),V I ((rd_T33 l1 x1_1).f2),O ((rd_T33 l1 x1_1).f3),V I ((rd_T33 l1 x1_1).f4),O ((rd_T33 l1 x1_1).f5)]] ?_
    with_reducible refine(laws_eqJob.calls ((rd_T33 l0 x1_1).f0) ((rd_T33 l0 x1_1).f1) ((rd_T33 l0 x1_1).f2) ((rd_T33 l0 x1_1).f3) ((rd_T33 l0 x1_1).f4) ((rd_T33 l0 x1_1).f5) ((rd_T33 l1 x1_1).f0) ((rd_T33 l1 x1_1).f1) ((rd_T33 l1 x1_1).f2) ((rd_T33 l1 x1_1).f3) ((rd_T33 l1 x1_1).f4) ((rd_T33 l1 x1_1).f5) false _ A1.out).mono ?_
    rintro e w2 ⟨rfl,hb⟩
    refine⟨_,rfl,?_⟩
    replace HB:=eB hb
    (try clear hb)
    refine hK.out _ _ ⟨((HB.out.cell (E w _ hw1_0)).trans hw1_0),((HB.out.cell (E w _ hw1_1)).trans hw1_1),((HB.out.cell (E w _ hw1_2)).trans hw1_2),((HB.out.cell (E w _ hw1_3)).trans hw1_3),((HB.out.cell (E w _ hw1_4)).trans hw1_4),((HB.out.cell (E w _ hw1_5)).trans hw1_5),((HB.out.cell (E w _ hw2_0)).trans hw2_0),((HB.out.cell (E w _ hw2_1)).trans hw2_1),((HB.out.cell (E w _ hw2_2)).trans hw2_2),((HB.out.cell (E w _ hw2_3)).trans hw2_3),((HB.out.cell (E w _ hw2_4)).trans hw2_4),((HB.out.cell (E w _ hw2_5)).trans hw2_5)⟩ (fun hHeld=> ?_)
    clear hK K
    refine nu (N:=(some 25)) ?_
    refine pu 9 (some 26) ?_
    refine done_ (done_of HT_.out (by kernel_rfl)) ?_
    try go_wp2
    go_ret
    exact⟨rE,uB⟩
   subst c5
   rw[if_pos rfl]at H
   have H':=C H
   clear H
   try go_wp2
   replace HB:=dB HB
   have p1:0≤(x1_1:Int):=oT
   have q1:x1_1<(l0.length:Int):=oT
   obtain⟨ad1,e1,hx1_0,hx1_1,hx1_2,hx1_3,hx1_4,hx1_5⟩:=at_T33 HR1.out x1_1 p1 q1
   have hw1_5:=hx1_5
   have hw1_4:=hx1_4
   have hw1_3:=hx1_3
   have hw1_2:=hx1_2
   have hw1_1:=hx1_1
   have hw1_0:=hx1_0
   cases e1
   replace hx1_0:=hx HB hx1_0
   replace hx1_1:=hx HB hx1_1
   replace hx1_2:=hx HB hx1_2
   replace hx1_3:=hx HB hx1_3
   replace hx1_4:=hx HB hx1_4
   replace hx1_5:=hx HB hx1_5
   replace p1:=eq_true p1
   replace q1:=eq_true q1
   have p2:0≤(x1_1:Int):=oT
   have q2:x1_1<(l1.length:Int):=oT
   obtain⟨ad2,e2,hx2_0,hx2_1,hx2_2,hx2_3,hx2_4,hx2_5⟩:=at_T33 HR2.out x1_1 p2 q2
   have hw2_5:=hx2_5
   have hw2_4:=hx2_4
   have hw2_3:=hx2_3
   have hw2_2:=hx2_2
   have hw2_1:=hx2_1
   have hw2_0:=hx2_0
   cases e2
   replace hx2_0:=hx HB hx2_0
   replace hx2_1:=hx HB hx2_1
   replace hx2_2:=hx HB hx2_2
   replace hx2_3:=hx HB hx2_3
   replace hx2_4:=hx HB hx2_4
   replace hx2_5:=hx HB hx2_5
   replace p2:=eq_true p2
   replace q2:=eq_true q2
   refine start_ (n:=10) (S:=fun w'=>w'.cell? (ad1.add ((x1_1).toNat * 6))=some (V I ((rd_T33 l0 x1_1).f0))∧w'.cell? ⟨(ad1.add ((x1_1).toNat * 6)).block,(ad1.add ((x1_1).toNat * 6)).off+1,none⟩=some (V I ((rd_T33 l0 x1_1).f1))∧w'.cell? ⟨(ad1.add ((x1_1).toNat * 6)).block,(ad1.add ((x1_1).toNat * 6)).off+2,none⟩=some (V I ((rd_T33 l0 x1_1).f2))∧w'.cell? ⟨(ad1.add ((x1_1).toNat * 6)).block,(ad1.add ((x1_1).toNat * 6)).off+3,none⟩=some (O ((rd_T33 l0 x1_1).f3))∧w'.cell? ⟨(ad1.add ((x1_1).toNat * 6)).block,(ad1.add ((x1_1).toNat * 6)).off+4,none⟩=some (V I ((rd_T33 l0 x1_1).f4))∧w'.cell? ⟨(ad1.add ((x1_1).toNat * 6)).block,(ad1.add ((x1_1).toNat * 6)).off+5,none⟩=some (O ((rd_T33 l0 x1_1).f5))∧w'.cell? (ad2.add ((x1_1).toNat * 6))=some (V I ((rd_T33 l1 x1_1).f0))∧w'.cell? ⟨(ad2.add ((x1_1).toNat * 6)).block,(ad2.add ((x1_1).toNat * 6)).off+1,none⟩=some (V I ((rd_T33 l1 x1_1).f1))∧w'.cell? ⟨(ad2.add ((x1_1).toNat * 6)).block,(ad2.add ((x1_1).toNat * 6)).off+2,none⟩=some (V I ((rd_T33 l1 x1_1).f2))∧w'.cell? ⟨(ad2.add ((x1_1).toNat * 6)).block,(ad2.add ((x1_1).toNat * 6)).off+3,none⟩=some (O ((rd_T33 l1 x1_1).f3))∧w'.cell? ⟨(ad2.add ((x1_1).toNat * 6)).block,(ad2.add ((x1_1).toNat * 6)).off+4,none⟩=some (V I ((rd_T33 l1 x1_1).f4))∧w'.cell? ⟨(ad2.add ((x1_1).toNat * 6)).block,(ad2.add ((x1_1).toNat * 6)).off+5,none⟩=some (O ((rd_T33 l1 x1_1).f5))) (ds:= []) #[false,false,false,false,false,false,false,false,false,false] (by kernel_rfl) rfl rfl hi (fun hHeld=> ?_);refine with_tabW laws_eqJobS.tab6 laws_eqJobS.bits6 (fun HT_ HW_=> ?_)
   generalize wr.drew=w1 at HB hx1_0 hx1_1 hx1_2 hx1_3 hx1_4 hx1_5 hx2_0 hx2_1 hx2_2 hx2_3 hx2_4 hx2_5 hHeld ⊢
   refine pu 0 (some 17) ?_
   refine pu 1 (some 18) ?_
   refine pu 2 (some 19) ?_
   refine pu 4 (some 21) ?_
   refine pu 5 (some 22) ?_
   refine pu 6 (some 23) ?_
   refine tu 3 (some 20) hHeld ?_
   refine tu 7 (some 24) hHeld ?_
   refine ou 8 (some 25) (fun K hK=> ?_)
   refine gs func50 #[G #[V I ((rd_T33 l0 x1_1).f0),V I ((rd_T33 l0 x1_1).f1),V I ((rd_T33 l0 x1_1).f2),O ((rd_T33 l0 x1_1).f3),V I ((rd_T33 l0 x1_1).f4),O ((rd_T33 l0 x1_1).f5)],G #[V I ((rd_T33 l1 x1_1).f0),V I ((rd_T33 l1 x1_1).f1),V I ((rd_T33 l1 x1_1).f2),O ((rd_T33 l1 x1_1).f3),V I ((rd_T33 l1 x1_1).f4),O ((rd_T33 l1 x1_1).f5)]] ?_
   with_reducible refine(laws_eqJob.calls ((rd_T33 l0 x1_1).f0) ((rd_T33 l0 x1_1).f1) ((rd_T33 l0 x1_1).f2) ((rd_T33 l0 x1_1).f3) ((rd_T33 l0 x1_1).f4) ((rd_T33 l0 x1_1).f5) ((rd_T33 l1 x1_1).f0) ((rd_T33 l1 x1_1).f1) ((rd_T33 l1 x1_1).f2) ((rd_T33 l1 x1_1).f3) ((rd_T33 l1 x1_1).f4) ((rd_T33 l1 x1_1).f5) true _ A1.out).mono ?_
   rintro e w2 ⟨rfl,hb⟩
   refine⟨_,rfl,?_⟩
   replace HB:=eB hb
   (try clear hb)
   refine hK.out _ _ ⟨((HB.out.cell (E w _ hw1_0)).trans hw1_0),((HB.out.cell (E w _ hw1_1)).trans hw1_1),((HB.out.cell (E w _ hw1_2)).trans hw1_2),((HB.out.cell (E w _ hw1_3)).trans hw1_3),((HB.out.cell (E w _ hw1_4)).trans hw1_4),((HB.out.cell (E w _ hw1_5)).trans hw1_5),((HB.out.cell (E w _ hw2_0)).trans hw2_0),((HB.out.cell (E w _ hw2_1)).trans hw2_1),((HB.out.cell (E w _ hw2_2)).trans hw2_2),((HB.out.cell (E w _ hw2_3)).trans hw2_3),((HB.out.cell (E w _ hw2_4)).trans hw2_4),((HB.out.cell (E w _ hw2_5)).trans hw2_5)⟩ (fun hHeld=> ?_)
   clear hK K
   refine nu (N:=(some 25)) ?_
   refine pu 9 (some 26) ?_
   refine done_ (done_of HT_.out (by kernel_rfl)) ?_
   try go_wp2
   go_roundg k1
   case measure=>have:=HK1.out;omega
   case rel=>exact⟨(wrap64 (x1_1+1)),rS,H',⟨by have:=HK1.out;omega⟩,⟨uB⟩⟩
def laws_eqIntS.l0:Nat→List Int→List Int→Int→Option (Bool)
 |0,_,_,_=>none
 |k+1,x0,x1,x5=>if x5<(x0.length:Int) then(if 0≤x5 then(if x5<(x1.length:Int) then(if(rd x0 x5)=(rd x1 x5) then(laws_eqIntS.l0 k x0 x1 (wrap64 (x5+1))) else(some false)) else(none)) else(none)) else(some true)
def laws_eqIntS.f (k:Nat) (l0:List Int) (l1:List Int):Option (Bool):=if(l0.length:Int)=(l1.length:Int) then(laws_eqIntS.l0 k l0 l1 0) else(some false)
theorem laws_eqIntS.W1 {p:Prop} (h:p:=by
 go_wp2
 repeat(go_quiet (fail);try go_wp2)
 go_ret
 exact⟨by first|rfl|(simp;done)|(simp[*];done),by repeat(first|exact Drawn0.refl _|apply Drawn0.step)⟩):p:=h
theorem laws_eqIntS.calls (k:Nat) (A0:Option Addr) (c0:Nat) (l0:List Int) (A1:Option Addr) (c1:Nat) (l1:List Int) (r:Bool) (w:World) (hr0:Kd.C (Kd.int .i64) w A0 l0.length l0) (hc0:l0.length≤c0) (hr1:Kd.C (Kd.int .i64) w A1 l1.length l1) (hc1:l1.length≤c1) (h:laws_eqIntS.f k l0 l1=some r):
 Calls prog 29 #[L A0 l0.length c0,L A1 l1.length c1] w fun e w'=>e=.returned (O r)∧Drawn0 w w':=by
 have HR1:=C hr0
 have HC1:=C hc0
 (try clear hr0);(try clear hc0)
 have HR2:=C hr1
 have HC2:=C hc1
 (try clear hr1);(try clear hc1)
 have H:=h
 unfold laws_eqIntS.f at H
 clear h
 by_cases c1:(l0.length:Int)=(l1.length:Int)
 rotate_left
 ·rw[if_neg c1]at H
  have c1b0:((l0.length:Int)==(l1.length:Int))=false:=beq_eq_false_iff_ne.mpr c1
  have c1b1:((l0.length:Int) !=(l1.length:Int))=true:=bne_iff_ne.mpr c1
  have c1b2:(l0.length==l1.length)=false:=by first|simpa using c1|(simp at c1 ⊢;omega)
  obtain rfl:=si H
  go_enter func29,ntmps29
  go_wp2
  repeat(go_quiet (fail);try go_wp2)
  go_ret
  exact⟨by first|rfl|(simp;done)|(simp[*];done),by repeat(first|exact Drawn0.refl _|apply Drawn0.step)⟩
 rw[if_pos c1]at H
 have c1b0:((l0.length:Int)==(l1.length:Int))=true:=beq_iff_eq.mpr c1
 have c1b1:((l0.length:Int) !=(l1.length:Int))=false:=bne_eq_false_iff_eq.mpr c1
 have c1b2:(l0.length==l1.length)=true:=by first|simpa using c1|(simp at c1 ⊢;omega)
 clear c1
 have H':=C H
 clear H
 go_enter func29,ntmps29
 go_wp2
 repeat(go_quiet (fail);try go_wp2)
 go_loopg [5] k (fun kq v5 w'=>∃(x1_1:Int),v5=V I x1_1∧D (laws_eqIntS.l0 kq l0 l1 x1_1=some r)∧D (kq≤k)∧Drawn0 w w')
 case atStart=>exact⟨(0),rS,H',⟨Nat.le_refl _⟩,by repeat(first|exact Drawn0.refl _|apply Drawn0.step)⟩
 case round=>
  clear H'
  obtain⟨x1_1,rfl,HA,HK1,⟨m1,rfl⟩⟩:=hrel
  cases gk with
  |zero=>exact absurd HA.out (by simp[laws_eqIntS.l0])
  |succ k1=>
   have H:=HA.out
   clear HA
   simp only[laws_eqIntS.l0]at H
   by_cases c2:x1_1<(l0.length:Int)
   rotate_left
   ·rw[if_neg c2]at H
    replace c2:=decide_eq_false c2
    obtain rfl:=si H
    exact laws_eqIntS.W1
   rw[if_pos c2]at H
   replace c2:=decide_eq_true c2
   obtain⟨c3,H⟩:=np H
   replace c3:=decide_eq_true c3
   obtain⟨c4,H⟩:=np H
   replace c4:=decide_eq_true c4
   by_cases c5:(rd l0 x1_1)=(rd l1 x1_1)
   rotate_left
   ·rw[if_neg c5]at H
    have c5b0:((rd l0 x1_1)==(rd l1 x1_1))=false:=beq_eq_false_iff_ne.mpr c5
    have c5b1:((rd l0 x1_1) !=(rd l1 x1_1))=true:=bne_iff_ne.mpr c5
    obtain rfl:=si H
    have p1:0≤(x1_1:Int):=oT
    have q1:x1_1<(l0.length:Int):=oT
    obtain⟨ad1,e1,hx1_0⟩:=Kd.at_int HR1.out x1_1 p1 q1
    cases e1
    replace p1:=eq_true p1
    replace q1:=eq_true q1
    have p2:0≤(x1_1:Int):=oT
    have q2:x1_1<(l1.length:Int):=oT
    obtain⟨ad2,e2,hx2_0⟩:=Kd.at_int HR2.out x1_1 p2 q2
    cases e2
    replace p2:=eq_true p2
    replace q2:=eq_true q2
    exact laws_eqIntS.W1
   rw[if_pos c5]at H
   have c5b0:((rd l0 x1_1)==(rd l1 x1_1))=true:=beq_iff_eq.mpr c5
   have c5b1:((rd l0 x1_1) !=(rd l1 x1_1))=false:=bne_eq_false_iff_eq.mpr c5
   clear c5
   have H':=C H
   clear H
   have p1:0≤(x1_1:Int):=oT
   have q1:x1_1<(l0.length:Int):=oT
   obtain⟨ad1,e1,hx1_0⟩:=Kd.at_int HR1.out x1_1 p1 q1
   cases e1
   replace p1:=eq_true p1
   replace q1:=eq_true q1
   have p2:0≤(x1_1:Int):=oT
   have q2:x1_1<(l1.length:Int):=oT
   obtain⟨ad2,e2,hx2_0⟩:=Kd.at_int HR2.out x1_1 p2 q2
   cases e2
   replace p2:=eq_true p2
   replace q2:=eq_true q2
   go_wp2
   repeat(go_quiet (fail);try go_wp2)
   go_roundg k1
   case measure=>have:=HK1.out;omega
   case rel=>exact⟨(wrap64 (x1_1+1)),rS,H',⟨by have:=HK1.out;omega⟩,by repeat(first|exact Drawn0.refl _|apply Drawn0.step)⟩
def laws_eqLine.f (k:Nat) (a0_0:Int) (a0_1:Int) (l0_2:List Int) (l0_3:List Int) (a0_4:Int) (a0_5:Bool) (a1_0:Int) (a1_1:Int) (l1_2:List Int) (l1_3:List Int) (a1_4:Int) (a1_5:Bool):Option (Bool):=if a0_0=a1_0 then(if a0_1=a1_1 then((laws_eqIntS.f k l0_2 l1_2).bind fun t166=>(if t166=true then((laws_eqIntS.f k l0_3 l1_3).bind fun t167=>(if t167=true then(if a0_4=a1_4 then(if(a0_5 !=a1_5)=true then(some false) else(some true)) else(some false)) else(some false))) else(some false))) else(some false)) else(some false)
theorem laws_eqLine.W1 {p:Prop} (h:p:=by
 go_enter func51,ntmps51
 go_wp2_with (first|((with_reducible refine J (N:=2) rfl ?_);refine Fix.be 2 #[V I a0_0,V I a0_1,L A0_2 l0_2.length c0_2,L A0_3 l0_3.length c0_3,V I a0_4,O a0_5] 34 ?_;intro gb1 hg w1 BK1 hb;have GW1:=gE (w:=w) hg;replace HB:=eB hb;clear hb hg)|((with_reducible refine J (N:=3) rfl ?_);refine Fix.be 3 #[V I a1_0,V I a1_1,L A1_2 l1_2.length c1_2,L A1_3 l1_3.length c1_3,V I a1_4,O a1_5] 34 ?_;intro gb2 hg w2 BK2 hb;have GW2:=gE (w:=w) hg;have n0:=nL hg BK1;have n1:=nG hg BK1;replace BK1:=eK BK1 hb;replace HB:=eB hb;clear hb hg;have:=n0.out;have:=n1.out;obtain⟨_,_,_,_,_,_,_,_,_,_,_,_⟩:=d6 BK1.out;obtain⟨_,_,_,_,_,_,_,_,_,_,_,_⟩:=d6 BK2.out)|((with_reducible refine F (f:=29) rfl ?_);refine gl 29 (some 19) func29 #[L A0_2 l0_2.length c0_2,L A1_2 l1_2.length c1_2] ?_;(with_reducible refine(laws_eqIntS.calls k _ _ l0_2 _ _ l1_2 true _ ?side1 HC1_2.out ?side3 HC2_2.out A2.out).mono ?_);(case side1=>exact uZ HR1_2);(case side3=>exact uZ HR2_2);rintro e w' ⟨rfl,⟨nd,rfl⟩⟩;refine⟨_,rfl,?_⟩)|((with_reducible refine F (f:=29) rfl ?_);refine gl 29 (some 25) func29 #[L A0_3 l0_3.length c0_3,L A1_3 l1_3.length c1_3] ?_;(with_reducible refine(laws_eqIntS.calls k _ _ l0_3 _ _ l1_3 true _ ?side1 HC1_3.out ?side3 HC2_3.out A3.out).mono ?_);(case side1=>exact uC (Z HR1_3.out uB));(case side3=>exact uC (Z HR2_3.out uB));rintro e w' ⟨rfl,⟨nd,rfl⟩⟩;refine⟨_,rfl,?_⟩))
 go_ret
 exact⟨rE,uB⟩):p:=h
theorem laws_eqLine.W2 {p:Prop} (h:p:=by
 go_enter func51,ntmps51
 go_wp2_with (first|((with_reducible refine J (N:=2) rfl ?_);refine Fix.be 2 #[V I a0_0,V I a0_1,L A0_2 l0_2.length c0_2,L A0_3 l0_3.length c0_3,V I a0_4,O a0_5] 34 ?_;intro gb1 hg w1 BK1 hb;have GW1:=gE (w:=w) hg;replace HB:=eB hb;clear hb hg)|((with_reducible refine J (N:=3) rfl ?_);refine Fix.be 3 #[V I a1_0,V I a1_1,L A1_2 l1_2.length c1_2,L A1_3 l1_3.length c1_3,V I a1_4,O a1_5] 34 ?_;intro gb2 hg w2 BK2 hb;have GW2:=gE (w:=w) hg;have n0:=nL hg BK1;have n1:=nG hg BK1;replace BK1:=eK BK1 hb;replace HB:=eB hb;clear hb hg;have:=n0.out;have:=n1.out;obtain⟨_,_,_,_,_,_,_,_,_,_,_,_⟩:=d6 BK1.out;obtain⟨_,_,_,_,_,_,_,_,_,_,_,_⟩:=d6 BK2.out)|((with_reducible refine F (f:=29) rfl ?_);refine gl 29 (some 19) func29 #[L A0_2 l0_2.length c0_2,L A1_2 l1_2.length c1_2] ?_;(with_reducible refine(laws_eqIntS.calls k _ _ l0_2 _ _ l1_2 true _ ?side1 HC1_2.out ?side3 HC2_2.out A2.out).mono ?_);(case side1=>exact uZ HR1_2);(case side3=>exact uZ HR2_2);rintro e w' ⟨rfl,⟨nd,rfl⟩⟩;refine⟨_,rfl,?_⟩)|((with_reducible refine F (f:=29) rfl ?_);refine gl 29 (some 25) func29 #[L A0_3 l0_3.length c0_3,L A1_3 l1_3.length c1_3] ?_;(with_reducible refine(laws_eqIntS.calls k _ _ l0_3 _ _ l1_3 false _ ?side1 HC1_3.out ?side3 HC2_3.out A3.out).mono ?_);(case side1=>exact uC (Z HR1_3.out uB));(case side3=>exact uC (Z HR2_3.out uB));rintro e w' ⟨rfl,⟨nd,rfl⟩⟩;refine⟨_,rfl,?_⟩))
 go_ret
 exact⟨rE,uB⟩):p:=h
theorem laws_eqLine.calls (k:Nat) (a0_0:Int) (a0_1:Int) (A0_2:Option Addr) (c0_2:Nat) (l0_2:List Int) (A0_3:Option Addr) (c0_3:Nat) (l0_3:List Int) (a0_4:Int) (a0_5:Bool) (a1_0:Int) (a1_1:Int) (A1_2:Option Addr) (c1_2:Nat) (l1_2:List Int) (A1_3:Option Addr) (c1_3:Nat) (l1_3:List Int) (a1_4:Int) (a1_5:Bool) (r:Bool) (w:World) (hr0_2:Kd.C (Kd.int .i64) w A0_2 l0_2.length l0_2) (hc0_2:l0_2.length≤c0_2) (hr0_3:Kd.C (Kd.int .i64) w A0_3 l0_3.length l0_3) (hc0_3:l0_3.length≤c0_3) (hr1_2:Kd.C (Kd.int .i64) w A1_2 l1_2.length l1_2) (hc1_2:l1_2.length≤c1_2) (hr1_3:Kd.C (Kd.int .i64) w A1_3 l1_3.length l1_3) (hc1_3:l1_3.length≤c1_3) (h:laws_eqLine.f k a0_0 a0_1 l0_2 l0_3 a0_4 a0_5 a1_0 a1_1 l1_2 l1_3 a1_4 a1_5=some r):
 Calls prog 51 #[G #[V I a0_0,V I a0_1,L A0_2 l0_2.length c0_2,L A0_3 l0_3.length c0_3,V I a0_4,O a0_5],G #[V I a1_0,V I a1_1,L A1_2 l1_2.length c1_2,L A1_3 l1_3.length c1_3,V I a1_4,O a1_5]] w fun e w'=>e=.returned (O r)∧Below w.heap.size w w':=by
 have hu1:=underlying34
 have HR1_2:=C hr0_2
 have HC1_2:=C hc0_2
 (try clear hr0_2);(try clear hc0_2)
 have HR1_3:=C hr0_3
 have HC1_3:=C hc0_3
 (try clear hr0_3);(try clear hc0_3)
 have HR2_2:=C hr1_2
 have HC2_2:=C hc1_2
 (try clear hr1_2);(try clear hc1_2)
 have HR2_3:=C hr1_3
 have HC2_3:=C hc1_3
 (try clear hr1_3);(try clear hc1_3)
 have HB:=C (Below.refl w.heap.size w)
 have H:=h
 unfold laws_eqLine.f at H
 clear h
 by_cases c2:a0_0=a1_0
 rotate_left
 ·rw[if_neg c2]at H
  have c2b0:(a0_0==a1_0)=false:=beq_eq_false_iff_ne.mpr c2
  have c2b1:(a0_0 !=a1_0)=true:=bne_iff_ne.mpr c2
  obtain rfl:=si H
  exact laws_eqLine.W2
 rw[if_pos c2]at H
 have c2b0:(a0_0==a1_0)=true:=beq_iff_eq.mpr c2
 have c2b1:(a0_0 !=a1_0)=false:=bne_eq_false_iff_eq.mpr c2
 clear c2
 by_cases c3:a0_1=a1_1
 rotate_left
 ·rw[if_neg c3]at H
  have c3b0:(a0_1==a1_1)=false:=beq_eq_false_iff_ne.mpr c3
  have c3b1:(a0_1 !=a1_1)=true:=bne_iff_ne.mpr c3
  obtain rfl:=si H
  exact laws_eqLine.W2
 rw[if_pos c3]at H
 have c3b0:(a0_1==a1_1)=true:=beq_iff_eq.mpr c3
 have c3b1:(a0_1 !=a1_1)=false:=bne_eq_false_iff_eq.mpr c3
 clear c3
 obtain⟨t1,A2,H⟩:=bnd H
 by_cases c4:t1=true
 rotate_left
 ·obtain rfl:=nt c4
  replace H:=nf H
  obtain rfl:=si H
  go_enter func51,ntmps51
  go_wp2_with (first|((with_reducible refine J (N:=2) rfl ?_);refine Fix.be 2 #[V I a0_0,V I a0_1,L A0_2 l0_2.length c0_2,L A0_3 l0_3.length c0_3,V I a0_4,O a0_5] 34 ?_;intro gb1 hg w1 BK1 hb;have GW1:=gE (w:=w) hg;have GE1:=GW1;replace HB:=eB hb;clear hb hg)|((with_reducible refine J (N:=3) rfl ?_);refine Fix.be 3 #[V I a1_0,V I a1_1,L A1_2 l1_2.length c1_2,L A1_3 l1_3.length c1_3,V I a1_4,O a1_5] 34 ?_;intro gb2 hg w2 BK2 hb;have GW2:=gE (w:=w) hg;have GE2:=GW2;have n0:=nL hg BK1;have n1:=nG hg BK1;replace BK1:=eK BK1 hb;replace HB:=eB hb;clear hb hg;have:=n0.out;have:=n1.out;obtain⟨_,_,_,_,_,_,_,_,_,_,_,_⟩:=d6 BK1.out;obtain⟨_,_,_,_,_,_,_,_,_,_,_,_⟩:=d6 BK2.out)|((with_reducible refine F (f:=29) rfl ?_);refine gl 29 (some 19) func29 #[L A0_2 l0_2.length c0_2,L A1_2 l1_2.length c1_2] ?_;(with_reducible refine(laws_eqIntS.calls k _ _ l0_2 _ _ l1_2 false _ ?side1 HC1_2.out ?side3 HC2_2.out A2.out).mono ?_);(case side1=>exact uZ HR1_2);(case side3=>exact uZ HR2_2);rintro e w' ⟨rfl,⟨nd,rfl⟩⟩;refine⟨_,rfl,?_⟩))
  go_ret
  exact⟨rE,uB⟩
 subst c4
 rw[if_pos rfl]at H
 obtain⟨t2,A3,H⟩:=bnd H
 by_cases c5:t2=true
 rotate_left
 ·obtain rfl:=nt c5
  replace H:=nf H
  obtain rfl:=si H
  exact laws_eqLine.W2
 subst c5
 rw[if_pos rfl]at H
 by_cases c6:a0_4=a1_4
 ·rw[if_pos c6]at H
  have c6b0:(a0_4==a1_4)=true:=beq_iff_eq.mpr c6
  have c6b1:(a0_4 !=a1_4)=false:=bne_eq_false_iff_eq.mpr c6
  clear c6
  by_cases c7:(a0_5 !=a1_5)=true
  rotate_left
  ·rw[if_neg c7]at H
   have c7b0:(a0_5 !=a1_5)=false:=by simpa using c7
   (try(have c7b1:decide (a0_5=a1_5)=true:=by simpa using c7))
   (try(have c7b2:(a0_5==a1_5)=true:=by simpa using c7))
   clear c7
   obtain rfl:=si H
   exact laws_eqLine.W1
  rw[if_pos c7]at H
  have c7b0:(a0_5 !=a1_5)=true:=c7
  (try(have c7b1:decide (a0_5=a1_5)=false:=by simpa using c7))
  (try(have c7b2:(a0_5==a1_5)=false:=by simpa using c7))
  (try(have c7b3:¬(a0_5=a1_5):=by simpa using c7))
  clear c7
  obtain rfl:=si H
  exact laws_eqLine.W1
 rw[if_neg c6]at H
 have c6b0:(a0_4==a1_4)=false:=beq_eq_false_iff_ne.mpr c6
 have c6b1:(a0_4 !=a1_4)=true:=bne_iff_ne.mpr c6
 obtain rfl:=si H
 go_enter func51,ntmps51
 go_wp2_with (first|((with_reducible refine J (N:=2) rfl ?_);refine Fix.be 2 #[V I a0_0,V I a0_1,L A0_2 l0_2.length c0_2,L A0_3 l0_3.length c0_3,V I a0_4,O a0_5] 34 ?_;intro gb1 hg w1 BK1 hb;have GW1:=gE (w:=w) hg;have GE1:=GW1;replace HB:=eB hb;clear hb hg)|((with_reducible refine J (N:=3) rfl ?_);refine Fix.be 3 #[V I a1_0,V I a1_1,L A1_2 l1_2.length c1_2,L A1_3 l1_3.length c1_3,V I a1_4,O a1_5] 34 ?_;intro gb2 hg w2 BK2 hb;have GW2:=gE (w:=w) hg;have GE2:=GW2;have n0:=nL hg BK1;have n1:=nG hg BK1;replace BK1:=eK BK1 hb;replace HB:=eB hb;clear hb hg;have:=n0.out;have:=n1.out;obtain⟨_,_,_,_,_,_,_,_,_,_,_,_⟩:=d6 BK1.out;obtain⟨_,_,_,_,_,_,_,_,_,_,_,_⟩:=d6 BK2.out)|((with_reducible refine F (f:=29) rfl ?_);refine gl 29 (some 19) func29 #[L A0_2 l0_2.length c0_2,L A1_2 l1_2.length c1_2] ?_;(with_reducible refine(laws_eqIntS.calls k _ _ l0_2 _ _ l1_2 true _ ?side1 HC1_2.out ?side3 HC2_2.out A2.out).mono ?_);(case side1=>exact uZ HR1_2);(case side3=>exact uZ HR2_2);rintro e w' ⟨rfl,⟨nd,rfl⟩⟩;refine⟨_,rfl,?_⟩)|((with_reducible refine F (f:=29) rfl ?_);refine gl 29 (some 25) func29 #[L A0_3 l0_3.length c0_3,L A1_3 l1_3.length c1_3] ?_;(with_reducible refine(laws_eqIntS.calls k _ _ l0_3 _ _ l1_3 true _ ?side1 HC1_3.out ?side3 HC2_3.out A3.out).mono ?_);(case side1=>exact uC (Z HR1_3.out uB));(case side3=>exact uC (Z HR2_3.out uB));rintro e w' ⟨rfl,⟨nd,rfl⟩⟩;refine⟨_,rfl,?_⟩))
 go_ret
 exact⟨rE,uB⟩
end Go.Proofs.Ytblceimapaenlaa.PFnExactRunActs
