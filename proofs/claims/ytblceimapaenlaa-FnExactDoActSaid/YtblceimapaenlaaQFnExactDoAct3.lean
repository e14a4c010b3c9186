/- Calls do what plain Lean functions say (FnExactDoAct). No condition. -/
import Derived.Test.YtblceimapaenlaaQFnExactDoAct0
import Derived.Test.YtblceimapaenlaaQFnExactDoAct2
namespace Go.Proofs.Ytblceimapaenlaa.PFnExactDoAct
open Go.RowKit Go.Proofs.YtblceimapaenlaaW.PrintWords Go.Proofs.YtblceimapaenlaaW.PrintLast Go.Proofs.YtblceimapaenlaaW.PrintMore
open Try
open Fix (bnd d14 d6 eB eK gE gl hx nG nL nf np nt oT rE rS si uB uC uZ)
open Go.Value renaming int→V,slice→L,bool→O,agg→G
open Go.IntKind renaming i64→I
open Go.Proofs.YtblceimapaenlaaW.PrintWords.Aside0 renaming mk→C
open Go.Proofs.YtblceimapaenlaaW.PrintWords renaming gate_callee→F,gate_dst→J
attribute [local go_sem] max2_int min2_int max_two min_two max_three min_three max_four min_four
attribute [local go_sem] Fix.isSome_setCell
set_option linter.unusedVariables false
set_option maxHeartbeats 40000000
set_option maxRecDepth 100000
set_option linter.unusedSimpArgs false
def laws_eqLine.f (k:Nat) (a0_0:Int) (a0_1:Int) (l0_2:List Int) (l0_3:List Int) (a0_4:Int) (a0_5:Bool) (a1_0:Int) (a1_1:Int) (l1_2:List Int) (l1_3:List Int) (a1_4:Int) (a1_5:Bool):Option (Bool):=if a0_0=a1_0 then(if a0_1=a1_1 then((laws_eqIntS.f k l0_2 l1_2).bind fun t166=>(if t166=true then((laws_eqIntS.f k l0_3 l1_3).bind fun t167=>(if t167=true then(if a0_4=a1_4 then(if(a0_5 !=a1_5)=true then(some false) else(some true)) else(some false)) else(some false))) else(some false))) else(some false)) else(some false)
theorem laws_eqLine.W1 {p:Prop} (h:p:=by
 go_enter func51,ntmps51
 go_wp2_with (first|((with_reducible refine J (N:=2) rfl ?_);refine Fix.be 2 #[V I a0_0,V I a0_1,L A0_2 l0_2.length c0_2,L A0_3 l0_3.length c0_3,V I a0_4,O a0_5] 34 ?_;intro gb1 hg w1 BK1 hb;have GW1:=gE (w:=w) hg;replace HB:=eB hb;clear hb hg)|((with_reducible refine J (N:=3) rfl ?_);refine Fix.be 3 #[V I a1_0,V I a1_1,L A1_2 l1_2.length c1_2,L A1_3 l1_3.length c1_3,V I a1_4,O a1_5] 34 ?_;intro gb2 hg w2 BK2 hb;have GW2:=gE (w:=w) hg;have n0:=nL hg BK1;have n1:=nG hg BK1;replace BK1:=eK BK1 hb;replace HB:=eB hb;clear hb hg;have:=n0.out;have:=n1.out;obtain⟨_,_,_,_,_,_,_,_,_,_,_,_⟩:=d6 BK1.out;obtain⟨_,_,_,_,_,_,_,_,_,_,_,_⟩:=d6 BK2.out)|((with_reducible refine F (f:=29) rfl ?_);refine gl 29 (some 19) func29 #[L A0_2 l0_2.length c0_2,L A1_2 l1_2.length c1_2] ?_;(with_reducible refine(laws_eqIntS.calls k _ _ l0_2 _ _ l1_2 true _ ?side1 HC1_2.out ?side3 HC2_2.out A2.out).mono ?_);(case side1=>exact uZ HR1_2);(case side3=>exact uZ HR2_2);rintro e w' ⟨rfl,⟨nd,rfl⟩⟩;refine⟨_,rfl,?_⟩)|((with_reducible refine F (f:=29) rfl ?_);refine gl 29 (some 25) func29 #[L A0_3 l0_3.length c0_3,L A1_3 l1_3.length c1_3] ?_;(with_reducible refine(laws_eqIntS.calls k _ _ l0_3 _ _ l1_3 true _ ?side1 HC1_3.out ?side3 HC2_3.out A3.out).mono ?_);(case side1=>exact uC (Kd.C_below HR1_3.out uB));(case side3=>exact uC (Kd.C_below HR2_3.out uB));rintro e w' ⟨rfl,⟨nd,rfl⟩⟩;refine⟨_,rfl,?_⟩))
 go_ret
 exact⟨rE,uB⟩):p:=h
theorem laws_eqLine.W2 {p:Prop} (h:p:=by
 go_enter func51,ntmps51
 go_wp2_with (first|((with_reducible refine J (N:=2) rfl ?_);refine Fix.be 2 #[V I a0_0,V I a0_1,L A0_2 l0_2.length c0_2,L A0_3 l0_3.length c0_3,V I a0_4,O a0_5] 34 ?_;intro gb1 hg w1 BK1 hb;have GW1:=gE (w:=w) hg;replace HB:=eB hb;clear hb hg)|((with_reducible refine J (N:=3) rfl ?_);refine Fix.be 3 #[V I a1_0,V I a1_1,L A1_2 l1_2.length c1_2,L A1_3 l1_3.length c1_3,V I a1_4,O a1_5] 34 ?_;intro gb2 hg w2 BK2 hb;have GW2:=gE (w:=w) hg;have n0:=nL hg BK1;have n1:=nG hg BK1;replace BK1:=eK BK1 hb;replace HB:=eB hb;clear hb hg;have:=n0.out;have:=n1.out;obtain⟨_,_,_,_,_,_,_,_,_,_,_,_⟩:=d6 BK1.out;obtain⟨_,_,_,_,_,_,_,_,_,_,_,_⟩:=d6 BK2.out)|((with_reducible refine F (f:=29) rfl ?_);refine gl 29 (some 19) func29 #[L A0_2 l0_2.length c0_2,L A1_2 l1_2.length c1_2] ?_;(with_reducible refine(laws_eqIntS.calls k _ _ l0_2 _ _ l1_2 true _ ?side1 HC1_2.out ?side3 HC2_2.out A2.out).mono ?_);(case side1=>exact uZ HR1_2);(case side3=>exact uZ HR2_2);rintro e w' ⟨rfl,⟨nd,rfl⟩⟩;refine⟨_,rfl,?_⟩)|((with_reducible refine F (f:=29) rfl ?_);refine gl 29 (some 25) func29 #[L A0_3 l0_3.length c0_3,L A1_3 l1_3.length c1_3] ?_;(with_reducible refine(laws_eqIntS.calls k _ _ l0_3 _ _ l1_3 true _ ?side1 HC1_3.out ?side3 HC2_3.out A3.out).mono ?_);(case side1=>exact uC (Kd.C_below HR1_3.out uB));(case side3=>exact uC (Kd.C_below HR2_3.out uB));rintro e w' ⟨rfl,⟨nd,rfl⟩⟩;refine⟨_,rfl,?_⟩))
 go_ret
 exact⟨rE,uB⟩):p:=h
theorem laws_eqLine.calls (k:Nat) (a0_0:Int) (a0_1:Int) (A0_2:Option Addr) (c0_2:Nat) (l0_2:List Int) (A0_3:Option Addr) (c0_3:Nat) (l0_3:List Int) (a0_4:Int) (a0_5:Bool) (a1_0:Int) (a1_1:Int) (A1_2:Option Addr) (c1_2:Nat) (l1_2:List Int) (A1_3:Option Addr) (c1_3:Nat) (l1_3:List Int) (a1_4:Int) (a1_5:Bool) (r:Bool) (w:World) (hr0_2:Kd.C (Kd.int .i64) w A0_2 l0_2.length l0_2) (hc0_2:l0_2.length≤c0_2) (hr0_3:Kd.C (Kd.int .i64) w A0_3 l0_3.length l0_3) (hc0_3:l0_3.length≤c0_3) (hr1_2:Kd.C (Kd.int .i64) w A1_2 l1_2.length l1_2) (hc1_2:l1_2.length≤c1_2) (hr1_3:Kd.C (Kd.int .i64) w A1_3 l1_3.length l1_3) (hc1_3:l1_3.length≤c1_3) (h:laws_eqLine.f k a0_0 a0_1 l0_2 l0_3 a0_4 a0_5 a1_0 a1_1 l1_2 l1_3 a1_4 a1_5=some r):
 Calls prog 51 #[G #[V I a0_0,V I a0_1,L A0_2 l0_2.length c0_2,L A0_3 l0_3.length c0_3,V I a0_4,O a0_5],G #[V I a1_0,V I a1_1,L A1_2 l1_2.length c1_2,L A1_3 l1_3.length c1_3,V I a1_4,O a1_5]] w fun e w'=>e=.returned (O r)∧Below w.heap.size w w':=by
 have hu1:=underlying34
 have HR1_2:=C hr0_2
 have HC1_2:=C hc0_2
 (try clear hr0_2);(try clear hc0_2)
 have HR1_3:=C hr0_3
 have HC1_3:=C hc0_3
 (try clear hr0_3);(try clear hc0_3)
 have HR2_2:=C hr1_2
 have HC2_2:=C hc1_2
 (try clear hr1_2);(try clear hc1_2)
 have HR2_3:=C hr1_3
 have HC2_3:=C hc1_3
 (try clear hr1_3);(try clear hc1_3)
 have HB:=C (Below.refl w.heap.size w)
 have H:=h
 unfold laws_eqLine.f at H
 clear h
 by_cases c2:a0_0=a1_0
 rotate_left
 ·rw[if_neg c2]at H
  have c2b0:(a0_0==a1_0)=false:=beq_eq_false_iff_ne.mpr c2
  have c2b1:(a0_0 !=a1_0)=true:=bne_iff_ne.mpr c2
  obtain rfl:=si H
  exact laws_eqLine.W1
 rw[if_pos c2]at H
 have c2b0:(a0_0==a1_0)=true:=beq_iff_eq.mpr c2
 have c2b1:(a0_0 !=a1_0)=false:=bne_eq_false_iff_eq.mpr c2
 clear c2
 by_cases c3:a0_1=a1_1
 rotate_left
 ·rw[if_neg c3]at H
  have c3b0:(a0_1==a1_1)=false:=beq_eq_false_iff_ne.mpr c3
  have c3b1:(a0_1 !=a1_1)=true:=bne_iff_ne.mpr c3
  obtain rfl:=si H
  exact laws_eqLine.W2
 rw[if_pos c3]at H
 have c3b0:(a0_1==a1_1)=true:=beq_iff_eq.mpr c3
 have c3b1:(a0_1 !=a1_1)=false:=bne_eq_false_iff_eq.mpr c3
 clear c3
 obtain⟨t1,A2,H⟩:=bnd H
 by_cases c4:t1=true
 rotate_left
 ·obtain rfl:=nt c4
  replace H:=nf H
  obtain rfl:=si H
  go_enter func51,ntmps51
  go_wp2_with (first|((with_reducible refine J (N:=2) rfl ?_);refine Fix.be 2 #[V I a0_0,V I a0_1,L A0_2 l0_2.length c0_2,L A0_3 l0_3.length c0_3,V I a0_4,O a0_5] 34 ?_;intro gb1 hg w1 BK1 hb;have GW1:=gE (w:=w) hg;have GE1:=GW1;replace HB:=eB hb;clear hb hg)|((with_reducible refine J (N:=3) rfl ?_);refine Fix.be 3 #[V I a1_0,V I a1_1,L A1_2 l1_2.length c1_2,L A1_3 l1_3.length c1_3,V I a1_4,O a1_5] 34 ?_;intro gb2 hg w2 BK2 hb;have GW2:=gE (w:=w) hg;have GE2:=GW2;have n0:=nL hg BK1;have n1:=nG hg BK1;replace BK1:=eK BK1 hb;replace HB:=eB hb;clear hb hg;have:=n0.out;have:=n1.out;obtain⟨_,_,_,_,_,_,_,_,_,_,_,_⟩:=d6 BK1.out;obtain⟨_,_,_,_,_,_,_,_,_,_,_,_⟩:=d6 BK2.out)|((with_reducible refine F (f:=29) rfl ?_);refine gl 29 (some 19) func29 #[L A0_2 l0_2.length c0_2,L A1_2 l1_2.length c1_2] ?_;(with_reducible refine(laws_eqIntS.calls k _ _ l0_2 _ _ l1_2 false _ ?side1 HC1_2.out ?side3 HC2_2.out A2.out).mono ?_);(case side1=>exact uZ HR1_2);(case side3=>exact uZ HR2_2);rintro e w' ⟨rfl,⟨nd,rfl⟩⟩;refine⟨_,rfl,?_⟩))
  go_ret
  exact⟨rE,uB⟩
 subst c4
 rw[if_pos rfl]at H
 obtain⟨t2,A3,H⟩:=bnd H
 by_cases c5:t2=true
 rotate_left
 ·obtain rfl:=nt c5
  replace H:=nf H
  obtain rfl:=si H
  go_enter func51,ntmps51
  go_wp2_with (first|((with_reducible refine J (N:=2) rfl ?_);refine Fix.be 2 #[V I a0_0,V I a0_1,L A0_2 l0_2.length c0_2,L A0_3 l0_3.length c0_3,V I a0_4,O a0_5] 34 ?_;intro gb1 hg w1 BK1 hb;have GW1:=gE (w:=w) hg;have GE1:=GW1;replace HB:=eB hb;clear hb hg)|((with_reducible refine J (N:=3) rfl ?_);refine Fix.be 3 #[V I a1_0,V I a1_1,L A1_2 l1_2.length c1_2,L A1_3 l1_3.length c1_3,V I a1_4,O a1_5] 34 ?_;intro gb2 hg w2 BK2 hb;have GW2:=gE (w:=w) hg;have GE2:=GW2;have n0:=nL hg BK1;have n1:=nG hg BK1;replace BK1:=eK BK1 hb;replace HB:=eB hb;clear hb hg;have:=n0.out;have:=n1.out;obtain⟨_,_,_,_,_,_,_,_,_,_,_,_⟩:=d6 BK1.out;obtain⟨_,_,_,_,_,_,_,_,_,_,_,_⟩:=d6 BK2.out)|((with_reducible refine F (f:=29) rfl ?_);refine gl 29 (some 19) func29 #[L A0_2 l0_2.length c0_2,L A1_2 l1_2.length c1_2] ?_;(with_reducible refine(laws_eqIntS.calls k _ _ l0_2 _ _ l1_2 true _ ?side1 HC1_2.out ?side3 HC2_2.out A2.out).mono ?_);(case side1=>exact uZ HR1_2);(case side3=>exact uZ HR2_2);rintro e w' ⟨rfl,⟨nd,rfl⟩⟩;refine⟨_,rfl,?_⟩)|((with_reducible refine F (f:=29) rfl ?_);refine gl 29 (some 25) func29 #[L A0_3 l0_3.length c0_3,L A1_3 l1_3.length c1_3] ?_;(with_reducible refine(laws_eqIntS.calls k _ _ l0_3 _ _ l1_3 false _ ?side1 HC1_3.out ?side3 HC2_3.out A3.out).mono ?_);(case side1=>exact uC (Kd.C_below HR1_3.out uB));(case side3=>exact uC (Kd.C_below HR2_3.out uB));rintro e w' ⟨rfl,⟨nd,rfl⟩⟩;refine⟨_,rfl,?_⟩))
  go_ret
  exact⟨rE,uB⟩
 subst c5
 rw[if_pos rfl]at H
 by_cases c6:a0_4=a1_4
 rotate_left
 ·rw[if_neg c6]at H
  have c6b0:(a0_4==a1_4)=false:=beq_eq_false_iff_ne.mpr c6
  have c6b1:(a0_4 !=a1_4)=true:=bne_iff_ne.mpr c6
  obtain rfl:=si H
  exact laws_eqLine.W2
 rw[if_pos c6]at H
 have c6b0:(a0_4==a1_4)=true:=beq_iff_eq.mpr c6
 have c6b1:(a0_4 !=a1_4)=false:=bne_eq_false_iff_eq.mpr c6
 clear c6
 by_cases c7:(a0_5 !=a1_5)=true
 rotate_left
 ·rw[if_neg c7]at H
  have c7b0:(a0_5 !=a1_5)=false:=by simpa using c7
  (try(have c7b1:decide (a0_5=a1_5)=true:=by simpa using c7))
  (try(have c7b2:(a0_5==a1_5)=true:=by simpa using c7))
  clear c7
  obtain rfl:=si H
  exact laws_eqLine.W1
 rw[if_pos c7]at H
 have c7b0:(a0_5 !=a1_5)=true:=c7
 (try(have c7b1:decide (a0_5=a1_5)=false:=by simpa using c7))
 (try(have c7b2:(a0_5==a1_5)=false:=by simpa using c7))
 (try(have c7b3:¬(a0_5=a1_5):=by simpa using c7))
 clear c7
 obtain rfl:=si H
 go_enter func51,ntmps51
 go_wp2_with (first|((with_reducible refine J (N:=2) rfl ?_);refine Fix.be 2 #[V I a0_0,V I a0_1,L A0_2 l0_2.length c0_2,L A0_3 l0_3.length c0_3,V I a0_4,O a0_5] 34 ?_;intro gb1 hg w1 BK1 hb;have GW1:=gE (w:=w) hg;have GE1:=GW1;replace HB:=eB hb;clear hb hg)|((with_reducible refine J (N:=3) rfl ?_);refine Fix.be 3 #[V I a1_0,V I a1_1,L A1_2 l1_2.length c1_2,L A1_3 l1_3.length c1_3,V I a1_4,O a1_5] 34 ?_;intro gb2 hg w2 BK2 hb;have GW2:=gE (w:=w) hg;have GE2:=GW2;have n0:=nL hg BK1;have n1:=nG hg BK1;replace BK1:=eK BK1 hb;replace HB:=eB hb;clear hb hg;have:=n0.out;have:=n1.out;obtain⟨_,_,_,_,_,_,_,_,_,_,_,_⟩:=d6 BK1.out;obtain⟨_,_,_,_,_,_,_,_,_,_,_,_⟩:=d6 BK2.out)|((with_reducible refine F (f:=29) rfl ?_);refine gl 29 (some 19) func29 #[L A0_2 l0_2.length c0_2,L A1_2 l1_2.length c1_2] ?_;(with_reducible refine(laws_eqIntS.calls k _ _ l0_2 _ _ l1_2 true _ ?side1 HC1_2.out ?side3 HC2_2.out A2.out).mono ?_);(case side1=>exact uZ HR1_2);(case side3=>exact uZ HR2_2);rintro e w' ⟨rfl,⟨nd,rfl⟩⟩;refine⟨_,rfl,?_⟩)|((with_reducible refine F (f:=29) rfl ?_);refine gl 29 (some 25) func29 #[L A0_3 l0_3.length c0_3,L A1_3 l1_3.length c1_3] ?_;(with_reducible refine(laws_eqIntS.calls k _ _ l0_3 _ _ l1_3 true _ ?side1 HC1_3.out ?side3 HC2_3.out A3.out).mono ?_);(case side1=>exact uC (Kd.C_below HR1_3.out uB));(case side3=>exact uC (Kd.C_below HR2_3.out uB));rintro e w' ⟨rfl,⟨nd,rfl⟩⟩;refine⟨_,rfl,?_⟩))
 go_ret
 exact⟨rE,uB⟩
def laws_eqMachine.f (k:Nat) (l0_0:List (S33)) (a0_1:Int) (a0_2:Int) (a0_3:Int) (a0_4:Bool) (a0_5:Int) (a0_6:Bool) (a0_7:Int) (a0_8:Int) (l0_9:List Int) (l0_10:List Int) (a0_11:Int) (a0_12:Bool) (a0_13:Int) (l1_0:List (S33)) (a1_1:Int) (a1_2:Int) (a1_3:Int) (a1_4:Bool) (a1_5:Int) (a1_6:Bool) (a1_7:Int) (a1_8:Int) (l1_9:List Int) (l1_10:List Int) (a1_11:Int) (a1_12:Bool) (a1_13:Int):Option (Bool):=(laws_eqJobS.f k l0_0 l1_0).bind fun t170=>(if t170=true then((laws_eqJob.f a0_1 a0_2 a0_3 a0_4 a0_5 a0_6 a1_1 a1_2 a1_3 a1_4 a1_5 a1_6).bind fun t171=>(if t171=true then((laws_eqLine.f k a0_7 a0_8 l0_9 l0_10 a0_11 a0_12 a1_7 a1_8 l1_9 l1_10 a1_11 a1_12).bind fun t172=>(if t172=true then(if a0_13=a1_13 then(some true) else(some false)) else(some false))) else(some false))) else(some false))
theorem laws_eqMachine.calls (k:Nat) (A0_0:Option Addr) (c0_0:Nat) (l0_0:List (S33)) (a0_1:Int) (a0_2:Int) (a0_3:Int) (a0_4:Bool) (a0_5:Int) (a0_6:Bool) (a0_7:Int) (a0_8:Int) (A0_9:Option Addr) (c0_9:Nat) (l0_9:List Int) (A0_10:Option Addr) (c0_10:Nat) (l0_10:List Int) (a0_11:Int) (a0_12:Bool) (a0_13:Int) (A1_0:Option Addr) (c1_0:Nat) (l1_0:List (S33)) (a1_1:Int) (a1_2:Int) (a1_3:Int) (a1_4:Bool) (a1_5:Int) (a1_6:Bool) (a1_7:Int) (a1_8:Int) (A1_9:Option Addr) (c1_9:Nat) (l1_9:List Int) (A1_10:Option Addr) (c1_10:Nat) (l1_10:List Int) (a1_11:Int) (a1_12:Bool) (a1_13:Int) (r:Bool) (w:World) (hr0_0:Kd.C k33 w A0_0 l0_0.length l0_0) (hc0_0:l0_0.length≤c0_0) (hr0_9:Kd.C (Kd.int .i64) w A0_9 l0_9.length l0_9) (hc0_9:l0_9.length≤c0_9) (hr0_10:Kd.C (Kd.int .i64) w A0_10 l0_10.length l0_10) (hc0_10:l0_10.length≤c0_10) (hr1_0:Kd.C k33 w A1_0 l1_0.length l1_0) (hc1_0:l1_0.length≤c1_0) (hr1_9:Kd.C (Kd.int .i64) w A1_9 l1_9.length l1_9) (hc1_9:l1_9.length≤c1_9) (hr1_10:Kd.C (Kd.int .i64) w A1_10 l1_10.length l1_10) (hc1_10:l1_10.length≤c1_10) (h:laws_eqMachine.f k l0_0 a0_1 a0_2 a0_3 a0_4 a0_5 a0_6 a0_7 a0_8 l0_9 l0_10 a0_11 a0_12 a0_13 l1_0 a1_1 a1_2 a1_3 a1_4 a1_5 a1_6 a1_7 a1_8 l1_9 l1_10 a1_11 a1_12 a1_13=some r):
 Calls prog 13 #[G #[L A0_0 l0_0.length c0_0,V I a0_1,V I a0_2,V I a0_3,O a0_4,V I a0_5,O a0_6,V I a0_7,V I a0_8,L A0_9 l0_9.length c0_9,L A0_10 l0_10.length c0_10,V I a0_11,O a0_12,V I a0_13],G #[L A1_0 l1_0.length c1_0,V I a1_1,V I a1_2,V I a1_3,O a1_4,V I a1_5,O a1_6,V I a1_7,V I a1_8,L A1_9 l1_9.length c1_9,L A1_10 l1_10.length c1_10,V I a1_11,O a1_12,V I a1_13]] w fun e w'=>e=.returned (O r)∧Below w.heap.size w w':=by
 have hu1:=underlying36
 have hu2:=underlying33
 have hu3:=underlying34
 have HR1_0:=C hr0_0
 have HC1_0:=C hc0_0
 (try clear hr0_0);(try clear hc0_0)
 have HR1_9:=C hr0_9
 have HC1_9:=C hc0_9
 (try clear hr0_9);(try clear hc0_9)
 have HR1_10:=C hr0_10
 have HC1_10:=C hc0_10
 (try clear hr0_10);(try clear hc0_10)
 have HR2_0:=C hr1_0
 have HC2_0:=C hc1_0
 (try clear hr1_0);(try clear hc1_0)
 have HR2_9:=C hr1_9
 have HC2_9:=C hc1_9
 (try clear hr1_9);(try clear hc1_9)
 have HR2_10:=C hr1_10
 have HC2_10:=C hc1_10
 (try clear hr1_10);(try clear hc1_10)
 have HB:=C (Below.refl w.heap.size w)
 have H:=h
 unfold laws_eqMachine.f at H
 clear h
 obtain⟨t1,A2,H⟩:=bnd H
 by_cases c2:t1=true
 rotate_left
 ·obtain rfl:=nt c2
  replace H:=nf H
  obtain rfl:=si H
  go_enter func13,ntmps13
  go_wp2_with (first|((with_reducible refine J (N:=2) rfl ?_);refine Fix.be 2 #[L A0_0 l0_0.length c0_0,V I a0_1,V I a0_2,V I a0_3,O a0_4,V I a0_5,O a0_6,V I a0_7,V I a0_8,L A0_9 l0_9.length c0_9,L A0_10 l0_10.length c0_10,V I a0_11,O a0_12,V I a0_13] 36 ?_;intro gb1 hg w1 BK1 hb;have GW1:=gE (w:=w) hg;have GE1:=GW1;replace HB:=eB hb;clear hb hg)|((with_reducible refine J (N:=3) rfl ?_);refine Fix.be 3 #[L A1_0 l1_0.length c1_0,V I a1_1,V I a1_2,V I a1_3,O a1_4,V I a1_5,O a1_6,V I a1_7,V I a1_8,L A1_9 l1_9.length c1_9,L A1_10 l1_10.length c1_10,V I a1_11,O a1_12,V I a1_13] 36 ?_;intro gb2 hg w2 BK2 hb;have GW2:=gE (w:=w) hg;have GE2:=GW2;have n0:=nL hg BK1;have n1:=nG hg BK1;replace BK1:=eK BK1 hb;replace HB:=eB hb;clear hb hg;have:=n0.out;have:=n1.out;have h_:=d14 BK1.out;(repeat(obtain⟨_,h_⟩:=h_));have h_:=d14 BK2.out;(repeat(obtain⟨_,h_⟩:=h_)))|((with_reducible refine F (f:=49) rfl ?_);refine gl 49 (some 9) func49 #[L A0_0 l0_0.length c0_0,L A1_0 l1_0.length c1_0] ?_;(with_reducible refine(laws_eqJobS.calls k _ _ l0_0 _ _ l1_0 false _ ?side1 HC1_0.out ?side3 HC2_0.out A2.out).mono ?_);(case side1=>exact uZ HR1_0);(case side3=>exact uZ HR2_0);rintro e w3 ⟨rfl,hb⟩;refine⟨_,rfl,?_⟩;replace BK1:=eK BK1 hb;replace BK2:=eK BK2 hb;replace HB:=eB hb;clear hb))
  go_ret
  exact⟨rE,uB⟩
 subst c2
 rw[if_pos rfl]at H
 obtain⟨t2,A3,H⟩:=bnd H
 by_cases c3:t2=true
 rotate_left
 ·obtain rfl:=nt c3
  replace H:=nf H
  obtain rfl:=si H
  go_enter func13,ntmps13
  go_wp2_with (first|((with_reducible refine J (N:=2) rfl ?_);refine Fix.be 2 #[L A0_0 l0_0.length c0_0,V I a0_1,V I a0_2,V I a0_3,O a0_4,V I a0_5,O a0_6,V I a0_7,V I a0_8,L A0_9 l0_9.length c0_9,L A0_10 l0_10.length c0_10,V I a0_11,O a0_12,V I a0_13] 36 ?_;intro gb1 hg w1 BK1 hb;have GW1:=gE (w:=w) hg;have GE1:=GW1;replace HB:=eB hb;clear hb hg)|((with_reducible refine J (N:=3) rfl ?_);refine Fix.be 3 #[L A1_0 l1_0.length c1_0,V I a1_1,V I a1_2,V I a1_3,O a1_4,V I a1_5,O a1_6,V I a1_7,V I a1_8,L A1_9 l1_9.length c1_9,L A1_10 l1_10.length c1_10,V I a1_11,O a1_12,V I a1_13] 36 ?_;intro gb2 hg w2 BK2 hb;have GW2:=gE (w:=w) hg;have GE2:=GW2;have n0:=nL hg BK1;have n1:=nG hg BK1;replace BK1:=eK BK1 hb;replace HB:=eB hb;clear hb hg;have:=n0.out;have:=n1.out;have h_:=d14 BK1.out;(repeat(obtain⟨_,h_⟩:=h_));have h_:=d14 BK2.out;(repeat(obtain⟨_,h_⟩:=h_)))|((with_reducible refine F (f:=49) rfl ?_);refine gl 49 (some 9) func49 #[L A0_0 l0_0.length c0_0,L A1_0 l1_0.length c1_0] ?_;(with_reducible refine(laws_eqJobS.calls k _ _ l0_0 _ _ l1_0 true _ ?side1 HC1_0.out ?side3 HC2_0.out A2.out).mono ?_);(case side1=>exact uZ HR1_0);(case side3=>exact uZ HR2_0);rintro e w3 ⟨rfl,hb⟩;refine⟨_,rfl,?_⟩;replace BK1:=eK BK1 hb;replace BK2:=eK BK2 hb;replace HB:=eB hb;clear hb;have h_:=d14 BK1.out;(repeat(obtain⟨_,h_⟩:=h_));have h_:=d14 BK2.out;(repeat(obtain⟨_,h_⟩:=h_)))|((with_reducible refine F (f:=50) rfl ?_);refine gl 50 (some 15) func50 #[G #[V I a0_1,V I a0_2,V I a0_3,O a0_4,V I a0_5,O a0_6],G #[V I a1_1,V I a1_2,V I a1_3,O a1_4,V I a1_5,O a1_6]] ?_;(with_reducible refine(laws_eqJob.calls a0_1 a0_2 a0_3 a0_4 a0_5 a0_6 a1_1 a1_2 a1_3 a1_4 a1_5 a1_6 false _ A3.out).mono ?_);rintro e w4 ⟨rfl,hb⟩;refine⟨_,rfl,?_⟩;replace BK1:=eK BK1 hb;replace BK2:=eK BK2 hb;replace HB:=eB hb;clear hb))
  go_ret
  exact⟨rE,uB⟩
 subst c3
 rw[if_pos rfl]at H
 obtain⟨t3,A4,H⟩:=bnd H
 by_cases c4:t3=true
 rotate_left
 ·obtain rfl:=nt c4
  replace H:=nf H
  obtain rfl:=si H
  go_enter func13,ntmps13
  go_wp2_with (first|((with_reducible refine J (N:=2) rfl ?_);refine Fix.be 2 #[L A0_0 l0_0.length c0_0,V I a0_1,V I a0_2,V I a0_3,O a0_4,V I a0_5,O a0_6,V I a0_7,V I a0_8,L A0_9 l0_9.length c0_9,L A0_10 l0_10.length c0_10,V I a0_11,O a0_12,V I a0_13] 36 ?_;intro gb1 hg w1 BK1 hb;have GW1:=gE (w:=w) hg;have GE1:=GW1;replace HB:=eB hb;clear hb hg)|((with_reducible refine J (N:=3) rfl ?_);refine Fix.be 3 #[L A1_0 l1_0.length c1_0,V I a1_1,V I a1_2,V I a1_3,O a1_4,V I a1_5,O a1_6,V I a1_7,V I a1_8,L A1_9 l1_9.length c1_9,L A1_10 l1_10.length c1_10,V I a1_11,O a1_12,V I a1_13] 36 ?_;intro gb2 hg w2 BK2 hb;have GW2:=gE (w:=w) hg;have GE2:=GW2;have n0:=nL hg BK1;have n1:=nG hg BK1;replace BK1:=eK BK1 hb;replace HB:=eB hb;clear hb hg;have:=n0.out;have:=n1.out;have h_:=d14 BK1.out;(repeat(obtain⟨_,h_⟩:=h_));have h_:=d14 BK2.out;(repeat(obtain⟨_,h_⟩:=h_)))|((with_reducible refine F (f:=49) rfl ?_);refine gl 49 (some 9) func49 #[L A0_0 l0_0.length c0_0,L A1_0 l1_0.length c1_0] ?_;(with_reducible refine(laws_eqJobS.calls k _ _ l0_0 _ _ l1_0 true _ ?side1 HC1_0.out ?side3 HC2_0.out A2.out).mono ?_);(case side1=>exact uZ HR1_0);(case side3=>exact uZ HR2_0);rintro e w3 ⟨rfl,hb⟩;refine⟨_,rfl,?_⟩;replace BK1:=eK BK1 hb;replace BK2:=eK BK2 hb;replace HB:=eB hb;clear hb;obtain⟨_,_,_,_,_,_,_,_,_,_,_,_,_,_,_,_,_,_,_,_,_,_,_,_,_,_,_,_⟩:=d14 BK1.out;obtain⟨_,_,_,_,_,_,_,_,_,_,_,_,_,_,_,_,_,_,_,_,_,_,_,_,_,_,_,_⟩:=d14 BK2.out)|((with_reducible refine F (f:=50) rfl ?_);refine gl 50 (some 15) func50 #[G #[V I a0_1,V I a0_2,V I a0_3,O a0_4,V I a0_5,O a0_6],G #[V I a1_1,V I a1_2,V I a1_3,O a1_4,V I a1_5,O a1_6]] ?_;(with_reducible refine(laws_eqJob.calls a0_1 a0_2 a0_3 a0_4 a0_5 a0_6 a1_1 a1_2 a1_3 a1_4 a1_5 a1_6 true _ A3.out).mono ?_);rintro e w4 ⟨rfl,hb⟩;refine⟨_,rfl,?_⟩;replace BK1:=eK BK1 hb;replace BK2:=eK BK2 hb;replace HB:=eB hb;clear hb;have h_:=d14 BK1.out;(repeat(obtain⟨_,h_⟩:=h_));have h_:=d14 BK2.out;(repeat(obtain⟨_,h_⟩:=h_)))|((with_reducible refine F (f:=51) rfl ?_);refine gl 51 (some 21) func51 #[G #[V I a0_7,V I a0_8,L A0_9 l0_9.length c0_9,L A0_10 l0_10.length c0_10,V I a0_11,O a0_12],G #[V I a1_7,V I a1_8,L A1_9 l1_9.length c1_9,L A1_10 l1_10.length c1_10,V I a1_11,O a1_12]] ?_;(with_reducible refine(laws_eqLine.calls k a0_7 a0_8 _ _ l0_9 _ _ l0_10 a0_11 a0_12 a1_7 a1_8 _ _ l1_9 _ _ l1_10 a1_11 a1_12 false _ ?side1 HC1_9.out ?side3 HC1_10.out ?side5 HC2_9.out ?side7 HC2_10.out A4.out).mono ?_);(case side1=>exact uZ HR1_9);(case side3=>exact uZ HR1_10);(case side5=>exact uZ HR2_9);(case side7=>exact uZ HR2_10);rintro e w5 ⟨rfl,hb⟩;refine⟨_,rfl,?_⟩;replace BK1:=eK BK1 hb;replace BK2:=eK BK2 hb;replace HB:=eB hb;clear hb))
  go_ret
  exact⟨rE,uB⟩
 subst c4
 rw[if_pos rfl]at H
 by_cases c5:a0_13=a1_13
 rotate_left
 ·rw[if_neg c5]at H
  have c5b0:(a0_13==a1_13)=false:=beq_eq_false_iff_ne.mpr c5
  have c5b1:(a0_13 !=a1_13)=true:=bne_iff_ne.mpr c5
  obtain rfl:=si H
  go_enter func13,ntmps13
  go_wp2_with (first|((with_reducible refine J (N:=2) rfl ?_);refine Fix.be 2 #[L A0_0 l0_0.length c0_0,V I a0_1,V I a0_2,V I a0_3,O a0_4,V I a0_5,O a0_6,V I a0_7,V I a0_8,L A0_9 l0_9.length c0_9,L A0_10 l0_10.length c0_10,V I a0_11,O a0_12,V I a0_13] 36 ?_;intro gb1 hg w1 BK1 hb;have GW1:=gE (w:=w) hg;have GE1:=GW1;replace HB:=eB hb;clear hb hg)|((with_reducible refine J (N:=3) rfl ?_);refine Fix.be 3 #[L A1_0 l1_0.length c1_0,V I a1_1,V I a1_2,V I a1_3,O a1_4,V I a1_5,O a1_6,V I a1_7,V I a1_8,L A1_9 l1_9.length c1_9,L A1_10 l1_10.length c1_10,V I a1_11,O a1_12,V I a1_13] 36 ?_;intro gb2 hg w2 BK2 hb;have GW2:=gE (w:=w) hg;have GE2:=GW2;have n0:=nL hg BK1;have n1:=nG hg BK1;replace BK1:=eK BK1 hb;replace HB:=eB hb;clear hb hg;have:=n0.out;have:=n1.out;have h_:=d14 BK1.out;(repeat(obtain⟨_,h_⟩:=h_));have h_:=d14 BK2.out;(repeat(obtain⟨_,h_⟩:=h_)))|((with_reducible refine F (f:=49) rfl ?_);refine gl 49 (some 9) func49 #[L A0_0 l0_0.length c0_0,L A1_0 l1_0.length c1_0] ?_;(with_reducible refine(laws_eqJobS.calls k _ _ l0_0 _ _ l1_0 true _ ?side1 HC1_0.out ?side3 HC2_0.out A2.out).mono ?_);(case side1=>exact uZ HR1_0);(case side3=>exact uZ HR2_0);rintro e w3 ⟨rfl,hb⟩;refine⟨_,rfl,?_⟩;replace BK1:=eK BK1 hb;replace BK2:=eK BK2 hb;replace HB:=eB hb;clear hb;obtain⟨_,_,_,_,_,_,_,_,_,_,_,_,_,_,_,_,_,_,_,_,_,_,_,_,_,_,_,_⟩:=d14 BK1.out;have h_:=d14 BK2.out;(repeat(obtain⟨_,h_⟩:=h_)))|((with_reducible refine F (f:=50) rfl ?_);refine gl 50 (some 15) func50 #[G #[V I a0_1,V I a0_2,V I a0_3,O a0_4,V I a0_5,O a0_6],G #[V I a1_1,V I a1_2,V I a1_3,O a1_4,V I a1_5,O a1_6]] ?_;(with_reducible refine(laws_eqJob.calls a0_1 a0_2 a0_3 a0_4 a0_5 a0_6 a1_1 a1_2 a1_3 a1_4 a1_5 a1_6 true _ A3.out).mono ?_);rintro e w4 ⟨rfl,hb⟩;refine⟨_,rfl,?_⟩;replace BK1:=eK BK1 hb;replace BK2:=eK BK2 hb;replace HB:=eB hb;clear hb;have h_:=d14 BK1.out;(repeat(obtain⟨_,h_⟩:=h_));obtain⟨_,_,_,_,_,_,_,_,_,_,_,_,_,_,_,_,_,_,_,_,_,_,_,_,_,_,_,_⟩:=d14 BK2.out)|((with_reducible refine F (f:=51) rfl ?_);refine gl 51 (some 21) func51 #[G #[V I a0_7,V I a0_8,L A0_9 l0_9.length c0_9,L A0_10 l0_10.length c0_10,V I a0_11,O a0_12],G #[V I a1_7,V I a1_8,L A1_9 l1_9.length c1_9,L A1_10 l1_10.length c1_10,V I a1_11,O a1_12]] ?_;(with_reducible refine(laws_eqLine.calls k a0_7 a0_8 _ _ l0_9 _ _ l0_10 a0_11 a0_12 a1_7 a1_8 _ _ l1_9 _ _ l1_10 a1_11 a1_12 true _ ?side1 HC1_9.out ?side3 HC1_10.out ?side5 HC2_9.out ?side7 HC2_10.out A4.out).mono ?_);(case side1=>exact uZ HR1_9);(case side3=>exact uZ HR1_10);(case side5=>exact uZ HR2_9);(case side7=>exact uZ HR2_10);rintro e w5 ⟨rfl,hb⟩;refine⟨_,rfl,?_⟩;replace BK1:=eK BK1 hb;replace BK2:=eK BK2 hb;replace HB:=eB hb;clear hb;have h_:=d14 BK1.out;(repeat(obtain⟨_,h_⟩:=h_));have h_:=d14 BK2.out;(repeat(obtain⟨_,h_⟩:=h_))))
  go_ret
  exact⟨rE,uB⟩
 rw[if_pos c5]at H
 have c5b0:(a0_13==a1_13)=true:=beq_iff_eq.mpr c5
 have c5b1:(a0_13 !=a1_13)=false:=bne_eq_false_iff_eq.mpr c5
 clear c5
 obtain rfl:=si H
 go_enter func13,ntmps13
 go_wp2_with (first|((with_reducible refine J (N:=2) rfl ?_);refine Fix.be 2 #[L A0_0 l0_0.length c0_0,V I a0_1,V I a0_2,V I a0_3,O a0_4,V I a0_5,O a0_6,V I a0_7,V I a0_8,L A0_9 l0_9.length c0_9,L A0_10 l0_10.length c0_10,V I a0_11,O a0_12,V I a0_13] 36 ?_;intro gb1 hg w1 BK1 hb;have GW1:=gE (w:=w) hg;have GE1:=GW1;replace HB:=eB hb;clear hb hg)|((with_reducible refine J (N:=3) rfl ?_);refine Fix.be 3 #[L A1_0 l1_0.length c1_0,V I a1_1,V I a1_2,V I a1_3,O a1_4,V I a1_5,O a1_6,V I a1_7,V I a1_8,L A1_9 l1_9.length c1_9,L A1_10 l1_10.length c1_10,V I a1_11,O a1_12,V I a1_13] 36 ?_;intro gb2 hg w2 BK2 hb;have GW2:=gE (w:=w) hg;have GE2:=GW2;have n0:=nL hg BK1;have n1:=nG hg BK1;replace BK1:=eK BK1 hb;replace HB:=eB hb;clear hb hg;have:=n0.out;have:=n1.out;have h_:=d14 BK1.out;(repeat(obtain⟨_,h_⟩:=h_));obtain⟨_,_,_,_,_,_,_,_,_,_,_,_,_,_,_,_,_,_,_,_,_,_,_,_,_,_,_,_⟩:=d14 BK2.out)|((with_reducible refine F (f:=49) rfl ?_);refine gl 49 (some 9) func49 #[L A0_0 l0_0.length c0_0,L A1_0 l1_0.length c1_0] ?_;(with_reducible refine(laws_eqJobS.calls k _ _ l0_0 _ _ l1_0 true _ ?side1 HC1_0.out ?side3 HC2_0.out A2.out).mono ?_);(case side1=>exact uZ HR1_0);(case side3=>exact uZ HR2_0);rintro e w3 ⟨rfl,hb⟩;refine⟨_,rfl,?_⟩;replace BK1:=eK BK1 hb;replace BK2:=eK BK2 hb;replace HB:=eB hb;clear hb;obtain⟨_,_,_,_,_,_,_,_,_,_,_,_,_,_,_,_,_,_,_,_,_,_,_,_,_,_,_,_⟩:=d14 BK1.out;have h_:=d14 BK2.out;(repeat(obtain⟨_,h_⟩:=h_)))|((with_reducible refine F (f:=50) rfl ?_);refine gl 50 (some 15) func50 #[G #[V I a0_1,V I a0_2,V I a0_3,O a0_4,V I a0_5,O a0_6],G #[V I a1_1,V I a1_2,V I a1_3,O a1_4,V I a1_5,O a1_6]] ?_;(with_reducible refine(laws_eqJob.calls a0_1 a0_2 a0_3 a0_4 a0_5 a0_6 a1_1 a1_2 a1_3 a1_4 a1_5 a1_6 true _ A3.out).mono ?_);rintro e w4 ⟨rfl,hb⟩;refine⟨_,rfl,?_⟩;replace BK1:=eK BK1 hb;replace BK2:=eK BK2 hb;replace HB:=eB hb;clear hb;obtain⟨_,_,_,_,_,_,_,_,_,_,_,_,_,_,_,_,_,_,_,_,_,_,_,_,_,_,_,_⟩:=d14 BK1.out;obtain⟨_,_,_,_,_,_,_,_,_,_,_,_,_,_,_,_,_,_,_,_,_,_,_,_,_,_,_,_⟩:=d14 BK2.out)|((with_reducible refine F (f:=51) rfl ?_);refine gl 51 (some 21) func51 #[G #[V I a0_7,V I a0_8,L A0_9 l0_9.length c0_9,L A0_10 l0_10.length c0_10,V I a0_11,O a0_12],G #[V I a1_7,V I a1_8,L A1_9 l1_9.length c1_9,L A1_10 l1_10.length c1_10,V I a1_11,O a1_12]] ?_;(with_reducible refine(laws_eqLine.calls k a0_7 a0_8 _ _ l0_9 _ _ l0_10 a0_11 a0_12 a1_7 a1_8 _ _ l1_9 _ _ l1_10 a1_11 a1_12 true _ ?side1 HC1_9.out ?side3 HC1_10.out ?side5 HC2_9.out ?side7 HC2_10.out A4.out).mono ?_);(case side1=>exact uZ HR1_9);(case side3=>exact uZ HR1_10);(case side5=>exact uZ HR2_9);(case side7=>exact uZ HR2_10);rintro e w5 ⟨rfl,hb⟩;refine⟨_,rfl,?_⟩;replace BK1:=eK BK1 hb;replace BK2:=eK BK2 hb;replace HB:=eB hb;clear hb;have h_:=d14 BK1.out;(repeat(obtain⟨_,h_⟩:=h_));have h_:=d14 BK2.out;(repeat(obtain⟨_,h_⟩:=h_))))
 go_ret
 exact⟨rE,uB⟩
def spec_l01In.f (a0:Int) (a1:Int) (a2:Int):Option (Bool):=if a0 ≥ a1 then(some (decide (a0≤a2))) else(some false)
theorem spec_l01In.W1 {p:Prop} (h:p:=by
 go_enter func38,ntmps38
 go_wp2
 go_ret
 exact⟨by first|rfl|(simp;done)|(simp[*];done),by repeat(first|exact Drawn0.refl _|apply Drawn0.step)⟩):p:=h
theorem spec_l01In.calls (a0:Int) (a1:Int) (a2:Int) (r:Bool) (w:World) (h:spec_l01In.f a0 a1 a2=some r):
 Calls prog 38 #[V I a0,V I a1,V I a2] w fun e w'=>e=.returned (O r)∧Drawn0 w w':=by
 have H:=h
 unfold spec_l01In.f at H
 clear h
 by_cases c1:a0 ≥ a1
 ·rw[if_pos c1]at H
  replace c1:=decide_eq_true c1
  obtain rfl:=si H
  exact spec_l01In.W1
 rw[if_neg c1]at H
 replace c1:=decide_eq_false c1
 obtain rfl:=si H
 exact spec_l01In.W1
def spec_JobOk.f (a0_0:Int) (a0_1:Int) (a0_2:Int) (a0_3:Bool) (a0_4:Int) (a0_5:Bool):Option (Bool):=(spec_l01In.f a0_0 1 9999).bind fun t174=>(if t174=true then((spec_l01In.f a0_1 1 64).bind fun t175=>(if t175=true then((spec_l01In.f a0_2 1 20).bind fun t176=>(if t176=true then((spec_l01In.f a0_4 0 9).bind fun t177=>(some t177)) else(some false))) else(some false))) else(some false))
theorem spec_JobOk.W1 {p:Prop} (h:p:=by
 go_enter func39,ntmps39
 go_wp2_with (first|((with_reducible refine J (N:=1) rfl ?_);refine Fix.be 1 #[V I a0_0,V I a0_1,V I a0_2,O a0_3,V I a0_4,O a0_5] 33 ?_;intro gb1 hg w1 BK1 hb;have GW1:=gE (w:=w) hg;replace HB:=eB hb;clear hb hg;obtain⟨_,_,_,_,_,_,_,_,_,_,_,_⟩:=d6 BK1.out)|((with_reducible refine F (f:=38) rfl ?_);refine gl 38 (some 5) func38 #[V I a0_0,V I 1,V I 9999] ?_;(with_reducible refine(spec_l01In.calls a0_0 1 9999 true _ A1.out).mono ?_);rintro e w' ⟨rfl,⟨nd,rfl⟩⟩;refine⟨_,rfl,?_⟩)|(go_at_call 38;(with_reducible refine(spec_l01In.calls a0_1 1 64 true _ A2.out).mono ?_);rintro e w' ⟨rfl,⟨nd,rfl⟩⟩)|(go_at_call 38;(with_reducible refine(spec_l01In.calls a0_2 1 20 true _ A3.out).mono ?_);rintro e w' ⟨rfl,⟨nd,rfl⟩⟩)|(go_at_call 38;(with_reducible refine(spec_l01In.calls a0_4 0 9 t4 _ A4.out).mono ?_);rintro e w' ⟨rfl,⟨nd,rfl⟩⟩)|(go_at_call 38;(with_reducible refine(spec_l01In.calls a0_2 1 20 false _ A3.out).mono ?_);rintro e w' ⟨rfl,⟨nd,rfl⟩⟩))
 go_ret
 exact⟨rE,uB⟩):p:=h
theorem spec_JobOk.calls (a0_0:Int) (a0_1:Int) (a0_2:Int) (a0_3:Bool) (a0_4:Int) (a0_5:Bool) (r:Bool) (w:World) (h:spec_JobOk.f a0_0 a0_1 a0_2 a0_3 a0_4 a0_5=some r):
 Calls prog 39 #[G #[V I a0_0,V I a0_1,V I a0_2,O a0_3,V I a0_4,O a0_5]] w fun e w'=>e=.returned (O r)∧Below w.heap.size w w':=by
 have hu1:=underlying33
 have HB:=C (Below.refl w.heap.size w)
 have H:=h
 unfold spec_JobOk.f at H
 clear h
 obtain⟨t1,A1,H⟩:=bnd H
 by_cases c1:t1=true
 rotate_left
 ·obtain rfl:=nt c1
  replace H:=nf H
  obtain rfl:=si H
  go_enter func39,ntmps39
  go_wp2_with (first|((with_reducible refine J (N:=1) rfl ?_);refine Fix.be 1 #[V I a0_0,V I a0_1,V I a0_2,O a0_3,V I a0_4,O a0_5] 33 ?_;intro gb1 hg w1 BK1 hb;have GW1:=gE (w:=w) hg;have GE1:=GW1;replace HB:=eB hb;clear hb hg;obtain⟨_,_,_,_,_,_,_,_,_,_,_,_⟩:=d6 BK1.out)|((with_reducible refine F (f:=38) rfl ?_);refine gl 38 (some 5) func38 #[V I a0_0,V I 1,V I 9999] ?_;(with_reducible refine(spec_l01In.calls a0_0 1 9999 false _ A1.out).mono ?_);rintro e w' ⟨rfl,⟨nd,rfl⟩⟩;refine⟨_,rfl,?_⟩))
  go_ret
  exact⟨rE,uB⟩
 subst c1
 rw[if_pos rfl]at H
 obtain⟨t2,A2,H⟩:=bnd H
 by_cases c2:t2=true
 ·subst c2
  rw[if_pos rfl]at H
  obtain⟨t3,A3,H⟩:=bnd H
  by_cases c3:t3=true
  rotate_left
  ·obtain rfl:=nt c3
   replace H:=nf H
   obtain rfl:=si H
   exact spec_JobOk.W1
  subst c3
  rw[if_pos rfl]at H
  obtain⟨t4,A4,H⟩:=bnd H
  obtain rfl:=si H
  exact spec_JobOk.W1
 obtain rfl:=nt c2
 replace H:=nf H
 obtain rfl:=si H
 go_enter func39,ntmps39
 go_wp2_with (first|((with_reducible refine J (N:=1) rfl ?_);refine Fix.be 1 #[V I a0_0,V I a0_1,V I a0_2,O a0_3,V I a0_4,O a0_5] 33 ?_;intro gb1 hg w1 BK1 hb;have GW1:=gE (w:=w) hg;have GE1:=GW1;replace HB:=eB hb;clear hb hg;obtain⟨_,_,_,_,_,_,_,_,_,_,_,_⟩:=d6 BK1.out)|((with_reducible refine F (f:=38) rfl ?_);refine gl 38 (some 5) func38 #[V I a0_0,V I 1,V I 9999] ?_;(with_reducible refine(spec_l01In.calls a0_0 1 9999 true _ A1.out).mono ?_);rintro e w' ⟨rfl,⟨nd,rfl⟩⟩;refine⟨_,rfl,?_⟩)|(go_at_call 38;(with_reducible refine(spec_l01In.calls a0_1 1 64 false _ A2.out).mono ?_);rintro e w' ⟨rfl,⟨nd,rfl⟩⟩))
 go_ret
 exact⟨rE,uB⟩
mutual
def spec_JobsOk.l0:Nat→List (S33)→Int→Option (Bool)
 |0,_,_=>none
 |k+1,x0,x3=>if x3<(x0.length:Int) then(if 0≤x3 then((spec_JobOk.f ((rd_T33 x0 x3).f0) ((rd_T33 x0 x3).f1) ((rd_T33 x0 x3).f2) ((rd_T33 x0 x3).f3) ((rd_T33 x0 x3).f4) ((rd_T33 x0 x3).f5)).bind fun t179=>(if t179=true then(spec_JobsOk.l1 k x0 x3 0) else(some false))) else(none)) else(some (decide ((x0.length:Int)≤12)))
def spec_JobsOk.l1:Nat→List (S33)→Int→Int→Option (Bool)
 |0,_,_,_=>none
 |k+1,x0,x3,x4=>if x4<x3 then(if 0≤x4 then(if x4<(x0.length:Int) then(if 0≤x3 then(if x3<(x0.length:Int) then(if((rd_T33 x0 x4).f0)=((rd_T33 x0 x3).f0) then(some false) else(spec_JobsOk.l1 k x0 x3 (wrap64 (x4+1)))) else(none)) else(none)) else(none)) else(none)) else(spec_JobsOk.l0 k x0 (wrap64 (x3+1)))
end
def spec_JobsOk.f (k:Nat) (l0:List (S33)):Option (Bool):=spec_JobsOk.l0 k l0 0
theorem spec_JobsOk.W1 {p:Prop} (h:p:=by
 go_wp2
 repeat(go_quiet (fail);try go_wp2)
 go_ret
 exact⟨rE,uB⟩):p:=h
theorem spec_JobsOk.W2 {p:Prop} (h:p:=by
 go_wp2
 repeat(go_quiet (fail);try go_wp2)
 go_roundg k2
 case measure=>have:=HK1.out;have:=HK2.out;omega
 first
  |(case rel=>exact⟨(wrap64 (x2_2+1)),rS,H',⟨by have:=HK1.out;have:=HK2.out;omega⟩,⟨uB⟩⟩)
  |(case rel=>exact⟨(wrap64 (x1_1+1)),rS,H',⟨by have:=HK1.out;have:=HK2.out;omega⟩,⟨uB⟩⟩)):p:=h
theorem spec_JobsOk.calls (k:Nat) (A0:Option Addr) (c0:Nat) (l0:List (S33)) (r:Bool) (w:World) (hr0:Kd.C k33 w A0 l0.length l0) (hc0:l0.length≤c0) (h:spec_JobsOk.f k l0=some r):
 Calls prog 36 #[L A0 l0.length c0] w fun e w'=>e=.returned (O r)∧Below w.heap.size w w':=by
 have hu1:=underlying33
 have HR1:=C hr0
 have HC1:=C hc0
 (try clear hr0);(try clear hc0)
 have HB:=C (Below.refl w.heap.size w)
 have H:=h
 unfold spec_JobsOk.f at H
 clear h
 have H':=C H
 clear H
 go_enter func36,ntmps36
 go_wp2
 repeat(go_quiet (fail);try go_wp2)
 go_loopg [3] k (fun kq v3 w'=>∃(x1_1:Int),v3=V I x1_1∧Aside0 (spec_JobsOk.l0 kq l0 x1_1=some r)∧Aside0 (kq≤k)∧Aside0 (Below w.heap.size w w'))
 case atStart=>exact⟨(0),rS,H',⟨Nat.le_refl _⟩,⟨uB⟩⟩
 case round=>
  clear H'
  obtain⟨x1_1,rfl,HA,HK1,HB⟩:=hrel
  cases gk with
  |zero=>exact absurd HA.out (by simp[spec_JobsOk.l0])
  |succ k1=>
   have H:=HA.out
   clear HA
   simp only[spec_JobsOk.l0]at H
   by_cases c1:x1_1<(l0.length:Int)
   rotate_left
   ·rw[if_neg c1]at H
    replace c1:=decide_eq_false c1
    obtain rfl:=si H
    exact spec_JobsOk.W1
   rw[if_pos c1]at H
   replace c1:=decide_eq_true c1
   obtain⟨c2,H⟩:=np H
   replace c2:=decide_eq_true c2
   obtain⟨t1,A1,H⟩:=bnd H
   by_cases c3:t1=true
   rotate_left
   ·obtain rfl:=nt c3
    replace H:=nf H
    obtain rfl:=si H
    have p1:0≤(x1_1:Int):=oT
    have q1:x1_1<(l0.length:Int):=oT
    obtain⟨ad1,e1,hx1_0,hx1_1,hx1_2,hx1_3,hx1_4,hx1_5⟩:=at_T33 (Kd.C_below HR1.out HB.out) x1_1 p1 q1
    cases e1
    replace p1:=eq_true p1
    replace q1:=eq_true q1
    go_wp2_with (first|(go_at_call 39;(with_reducible refine(spec_JobOk.calls ((rd_T33 l0 x1_1).f0) ((rd_T33 l0 x1_1).f1) ((rd_T33 l0 x1_1).f2) ((rd_T33 l0 x1_1).f3) ((rd_T33 l0 x1_1).f4) ((rd_T33 l0 x1_1).f5) false _ A1.out).mono ?_);rintro e w1 ⟨rfl,hb⟩;replace HB:=eB hb;clear hb))
    repeat(go_quiet (fail);try go_wp2_with (first|(go_at_call 39;(with_reducible refine(spec_JobOk.calls ((rd_T33 l0 x1_1).f0) ((rd_T33 l0 x1_1).f1) ((rd_T33 l0 x1_1).f2) ((rd_T33 l0 x1_1).f3) ((rd_T33 l0 x1_1).f4) ((rd_T33 l0 x1_1).f5) false _ A1.out).mono ?_);rintro e w1 ⟨rfl,hb⟩;replace HB:=eB hb;clear hb)))
    go_ret
    exact⟨rE,uB⟩
   subst c3
   rw[if_pos rfl]at H
   have H':=C H
   clear H
   have p1:0≤(x1_1:Int):=oT
   have q1:x1_1<(l0.length:Int):=oT
   obtain⟨ad1,e1,hx1_0,hx1_1,hx1_2,hx1_3,hx1_4,hx1_5⟩:=at_T33 (Kd.C_below HR1.out HB.out) x1_1 p1 q1
   cases e1
   replace p1:=eq_true p1
   replace q1:=eq_true q1
   go_wp2_with (first|(go_at_call 39;(with_reducible refine(spec_JobOk.calls ((rd_T33 l0 x1_1).f0) ((rd_T33 l0 x1_1).f1) ((rd_T33 l0 x1_1).f2) ((rd_T33 l0 x1_1).f3) ((rd_T33 l0 x1_1).f4) ((rd_T33 l0 x1_1).f5) true _ A1.out).mono ?_);rintro e w1 ⟨rfl,hb⟩;replace HB:=eB hb;clear hb))
   repeat(go_quiet (fail);try go_wp2_with (first|(go_at_call 39;(with_reducible refine(spec_JobOk.calls ((rd_T33 l0 x1_1).f0) ((rd_T33 l0 x1_1).f1) ((rd_T33 l0 x1_1).f2) ((rd_T33 l0 x1_1).f3) ((rd_T33 l0 x1_1).f4) ((rd_T33 l0 x1_1).f5) true _ A1.out).mono ?_);rintro e w1 ⟨rfl,hb⟩;replace HB:=eB hb;clear hb)))
   go_loopg [4] k1 (fun kq v4 w'=>∃(x2_2:Int),v4=V I x2_2∧Aside0 (spec_JobsOk.l1 kq l0 x1_1 x2_2=some r)∧Aside0 (kq≤k1)∧Aside0 (Below w.heap.size w w'))
   case atStart=>exact⟨(0),rS,H',⟨Nat.le_refl _⟩,⟨uB⟩⟩
   case round=>
    clear H'
    obtain⟨x2_2,rfl,HA,HK2,HB⟩:=hrel
    cases gk with
    |zero=>exact absurd HA.out (by simp[spec_JobsOk.l1])
    |succ k2=>
     have H:=HA.out
     clear HA
     simp only[spec_JobsOk.l1]at H
     by_cases c4:x2_2<x1_1
     rotate_left
     ·rw[if_neg c4]at H
      replace c4:=decide_eq_false c4
      have H':=C H
      clear H
      exact spec_JobsOk.W2
     rw[if_pos c4]at H
     replace c4:=decide_eq_true c4
     obtain⟨c5,H⟩:=np H
     replace c5:=decide_eq_true c5
     obtain⟨c6,H⟩:=np H
     replace c6:=decide_eq_true c6
     obtain⟨c7,H⟩:=np H
     replace c7:=decide_eq_true c7
     obtain⟨c8,H⟩:=np H
     replace c8:=decide_eq_true c8
     by_cases c9:((rd_T33 l0 x2_2).f0)=((rd_T33 l0 x1_1).f0)
     rotate_left
     ·rw[if_neg c9]at H
      have c9b0:(((rd_T33 l0 x2_2).f0)==((rd_T33 l0 x1_1).f0))=false:=beq_eq_false_iff_ne.mpr c9
      have c9b1:(((rd_T33 l0 x2_2).f0) !=((rd_T33 l0 x1_1).f0))=true:=bne_iff_ne.mpr c9
      have H':=C H
      clear H
      have p2:0≤(x2_2:Int):=oT
      have q2:x2_2<(l0.length:Int):=oT
      obtain⟨ad2,e2,hx2_0,hx2_1,hx2_2,hx2_3,hx2_4,hx2_5⟩:=at_T33 HR1.out x2_2 p2 q2
      obtain rfl:ad1=ad2:=(by injection e2)
      replace hx2_0:=hx HB hx2_0
      replace hx2_1:=hx HB hx2_1
      replace hx2_2:=hx HB hx2_2
      replace hx2_3:=hx HB hx2_3
      replace hx2_4:=hx HB hx2_4
      replace hx2_5:=hx HB hx2_5
      replace p2:=eq_true p2
      replace q2:=eq_true q2
      have p3:0≤(x1_1:Int):=oT
      have q3:x1_1<(l0.length:Int):=oT
      obtain⟨ad3,e3,hx3_0,hx3_1,hx3_2,hx3_3,hx3_4,hx3_5⟩:=at_T33 HR1.out x1_1 p3 q3
      obtain rfl:ad1=ad3:=(by injection e3)
      replace hx3_0:=hx HB hx3_0
      replace hx3_1:=hx HB hx3_1
      replace hx3_2:=hx HB hx3_2
      replace hx3_3:=hx HB hx3_3
      replace hx3_4:=hx HB hx3_4
      replace hx3_5:=hx HB hx3_5
      replace p3:=eq_true p3
      replace q3:=eq_true q3
      exact spec_JobsOk.W2
     rw[if_pos c9]at H
     have c9b0:(((rd_T33 l0 x2_2).f0)==((rd_T33 l0 x1_1).f0))=true:=beq_iff_eq.mpr c9
     have c9b1:(((rd_T33 l0 x2_2).f0) !=((rd_T33 l0 x1_1).f0))=false:=bne_eq_false_iff_eq.mpr c9
     clear c9
     obtain rfl:=si H
     have p2:0≤(x2_2:Int):=oT
     have q2:x2_2<(l0.length:Int):=oT
     obtain⟨ad2,e2,hx2_0,hx2_1,hx2_2,hx2_3,hx2_4,hx2_5⟩:=at_T33 HR1.out x2_2 p2 q2
     obtain rfl:ad1=ad2:=(by injection e2)
     replace hx2_0:=hx HB hx2_0
     replace hx2_1:=hx HB hx2_1
     replace hx2_2:=hx HB hx2_2
     replace hx2_3:=hx HB hx2_3
     replace hx2_4:=hx HB hx2_4
     replace hx2_5:=hx HB hx2_5
     replace p2:=eq_true p2
     replace q2:=eq_true q2
     have p3:0≤(x1_1:Int):=oT
     have q3:x1_1<(l0.length:Int):=oT
     obtain⟨ad3,e3,hx3_0,hx3_1,hx3_2,hx3_3,hx3_4,hx3_5⟩:=at_T33 HR1.out x1_1 p3 q3
     obtain rfl:ad1=ad3:=(by injection e3)
     replace hx3_0:=hx HB hx3_0
     replace hx3_1:=hx HB hx3_1
     replace hx3_2:=hx HB hx3_2
     replace hx3_3:=hx HB hx3_3
     replace hx3_4:=hx HB hx3_4
     replace hx3_5:=hx HB hx3_5
     replace p3:=eq_true p3
     replace q3:=eq_true q3
     exact spec_JobsOk.W1
end Go.Proofs.Ytblceimapaenlaa.PFnExactDoAct
