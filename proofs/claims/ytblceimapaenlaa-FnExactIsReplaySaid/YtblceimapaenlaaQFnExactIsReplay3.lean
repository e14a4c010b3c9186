/- FnExactIsReplay: the functions that the law reaches, each as a plain Lean function, and that a call does what it says. Made by a program of this work (wip/mp.py) out of the kit's print. No condition. -/
import Derived.Test.YtblceimapaenlaaQFnExactIsReplay0
import Derived.Test.YtblceimapaenlaaQFnExactIsReplay2
namespace Go.Proofs.Ytblceimapaenlaa.PFnExactIsReplay
open Go.RowKit Go.Proofs.YtblceimapaenlaaW.PrintWords Go.Proofs.YtblceimapaenlaaW.PrintLast Go.Proofs.YtblceimapaenlaaW.PrintMore
open Fix (bK bnd d14 d6 eB eK gE gl hx nG nL rE rS uB uC)
open Go.Value renaming int→V,slice→L,bool→O,agg→G
open Go.IntKind renaming i64→I
open Go.Proofs.YtblceimapaenlaaW.PrintWords.Aside0 renaming mk→C
open Go.Proofs.YtblceimapaenlaaW.PrintWords renaming Aside0→D,gate_callee→F,gate_dst→J
open Go.Proofs.YtblceimapaenlaaW.PrintWords.Kd renaming C_below→Z
attribute [local go_sem] max2_int min2_int max_two min_two max_three min_three max_four min_four
attribute [local go_sem] Fix.isSome_setCell
set_option linter.unusedVariables false
set_option linter.unusedSimpArgs false
def laws_eqIntS.l0:Nat→List Int→List Int→Int→Option (Bool)
 |0,_,_,_=>none
 |k+1,x0,x1,x5=>if x5<(x0.length:Int) then(if 0≤x5 then(if x5<(x1.length:Int) then(if(rd x0 x5)=(rd x1 x5) then(laws_eqIntS.l0 k x0 x1 (wrap64 (x5+1))) else(some false)) else(none)) else(none)) else(some true)
def laws_eqIntS.f (k:Nat) (l0:List Int) (l1:List Int):Option (Bool):=if(l0.length:Int)=(l1.length:Int) then(laws_eqIntS.l0 k l0 l1 0) else(some false)
theorem laws_eqIntS.mono_l:∀k,(∀y0 y1 y2,LeO (laws_eqIntS.l0 k y0 y1 y2) (laws_eqIntS.l0 (k+1) y0 y1 y2))
 |0=>fun _ _ _ r h=>by simp[laws_eqIntS.l0]at h
 |k+1=>by
  have ih0:=laws_eqIntS.mono_l k
  ·intro y0 y1 y2
   unfold laws_eqIntS.l0
   repeat' first|(with_reducible first|apply ih0|exact LeO.refl _|exact LeO.none _|refine LeO.ite ?_ ?_|refine LeO.bind ?_ (fun _=> ?_))|apply ih0|exact LeO.none _|refine LeO.ite ?_ ?_|refine LeO.bind ?_ (fun _=> ?_)
theorem laws_eqIntS.mono:∀a0 a1 k,LeO (laws_eqIntS.f k a0 a1) (laws_eqIntS.f (k+1) a0 a1):=by
 intro a0 a1 k
 have ih0:=laws_eqIntS.mono_l k
 unfold laws_eqIntS.f
 repeat' first|(with_reducible first|apply ih0|exact LeO.refl _|exact LeO.none _|refine LeO.ite ?_ ?_|refine LeO.bind ?_ (fun _=> ?_))|apply ih0|exact LeO.none _|refine LeO.ite ?_ ?_|refine LeO.bind ?_ (fun _=> ?_)
theorem laws_eqIntS.W1 {p:Prop} (h:p:=by
  go_wp2
  repeat(go_quiet (fail);try go_wp2)
  go_ret
  exact⟨by first|rfl|(simp;done)|(simp[*];done),by repeat(first|exact Drawn0.refl _|apply Drawn0.step)⟩):p:=h
set_option maxHeartbeats 40000000 in
set_option maxRecDepth 100000 in
theorem laws_eqIntS.calls (k:Nat) (A0:Option Addr) (c0:Nat) (l0:List Int) (A1:Option Addr) (c1:Nat) (l1:List Int) (r:Bool) (w:World) (hr0:Kd.C (Kd.int .i64) w A0 l0.length l0) (hc0:l0.length≤c0) (hr1:Kd.C (Kd.int .i64) w A1 l1.length l1) (hc1:l1.length≤c1) (h:laws_eqIntS.f k l0 l1=some r):
  Calls Try.prog 29 #[L A0 l0.length c0,L A1 l1.length c1] w fun e w'=>e=.returned (O r)∧Drawn0 w w':=by
 have HR1:=C hr0
 have HC1:=C hc0
 (try clear hr0);(try clear hc0)
 have HR2:=C hr1
 have HC2:=C hc1
 (try clear hr1);(try clear hc1)
 have H:=h
 unfold laws_eqIntS.f at H
 clear h
 by_cases c1:(l0.length:Int)=(l1.length:Int)
 ·rw[if_pos c1]at H
  have c1b0:((l0.length:Int)==(l1.length:Int))=true:=beq_iff_eq.mpr c1
  have c1b1:((l0.length:Int) !=(l1.length:Int))=false:=bne_eq_false_iff_eq.mpr c1
  have c1b2:(l0.length==l1.length)=true:=by first|simpa using c1|(simp at c1 ⊢;omega)
  clear c1
  have H':=C H
  clear H
  go_enter Try.func29,Try.ntmps29
  go_wp2
  repeat(go_quiet (fail);try go_wp2)
  go_loopg [5] k (fun kq v5 w'=>∃(x1_1:Int),v5=V I x1_1∧D (laws_eqIntS.l0 kq l0 l1 x1_1=some r)∧D (kq≤k)∧Drawn0 w w')
  case atStart=>exact⟨(0),rS,H',⟨Nat.le_refl _⟩,by repeat(first|exact Drawn0.refl _|apply Drawn0.step)⟩
  case round=>
   clear H'
   obtain⟨x1_1,rfl,HA,HK1,⟨m1,rfl⟩⟩:=hrel
   cases gk with
   |zero=>exact absurd HA.out (by simp[laws_eqIntS.l0])
   |succ k1=>
    have H:=HA.out
    clear HA
    simp only[laws_eqIntS.l0]at H
    by_cases c2:x1_1<(l0.length:Int)
    ·rw[if_pos c2]at H
     have c2b0:decide (x1_1<(l0.length:Int))=true:=decide_eq_true c2
     clear c2
     by_cases c3:0≤x1_1
     ·rw[if_pos c3]at H
      have c3b0:decide (0≤x1_1)=true:=decide_eq_true c3
      clear c3
      by_cases c4:x1_1<(l1.length:Int)
      ·rw[if_pos c4]at H
       have c4b0:decide (x1_1<(l1.length:Int))=true:=decide_eq_true c4
       clear c4
       by_cases c5:(rd l0 x1_1)=(rd l1 x1_1)
       ·rw[if_pos c5]at H
        have c5b0:((rd l0 x1_1)==(rd l1 x1_1))=true:=beq_iff_eq.mpr c5
        have c5b1:((rd l0 x1_1) !=(rd l1 x1_1))=false:=bne_eq_false_iff_eq.mpr c5
        clear c5
        have H':=C H
        clear H
        have p1:0≤(x1_1:Int):=of_decide_eq_true (by first|(with_reducible assumption)|assumption)
        have q1:x1_1<(l0.length:Int):=of_decide_eq_true (by first|(with_reducible assumption)|assumption)
        obtain⟨ad1,e1,hx1_0⟩:=Kd.at_int HR1.out x1_1 p1 q1
        cases e1
        replace p1:=eq_true p1
        replace q1:=eq_true q1
        have p2:0≤(x1_1:Int):=of_decide_eq_true (by first|(with_reducible assumption)|assumption)
        have q2:x1_1<(l1.length:Int):=of_decide_eq_true (by first|(with_reducible assumption)|assumption)
        obtain⟨ad2,e2,hx2_0⟩:=Kd.at_int HR2.out x1_1 p2 q2
        cases e2
        replace p2:=eq_true p2
        replace q2:=eq_true q2
        go_wp2
        repeat(go_quiet (fail);try go_wp2)
        go_roundg k1
        case measure=>have:=HK1.out;omega
        case rel=>exact⟨(wrap64 (x1_1+1)),rS,H',⟨by have:=HK1.out;omega⟩,by repeat(first|exact Drawn0.refl _|apply Drawn0.step)⟩
       ·rw[if_neg c5]at H
        have c5b0:((rd l0 x1_1)==(rd l1 x1_1))=false:=beq_eq_false_iff_ne.mpr c5
        have c5b1:((rd l0 x1_1) !=(rd l1 x1_1))=true:=bne_iff_ne.mpr c5
        obtain rfl:=Option.some.inj H
        have p1:0≤(x1_1:Int):=of_decide_eq_true (by first|(with_reducible assumption)|assumption)
        have q1:x1_1<(l0.length:Int):=of_decide_eq_true (by first|(with_reducible assumption)|assumption)
        obtain⟨ad1,e1,hx1_0⟩:=Kd.at_int HR1.out x1_1 p1 q1
        cases e1
        replace p1:=eq_true p1
        replace q1:=eq_true q1
        have p2:0≤(x1_1:Int):=of_decide_eq_true (by first|(with_reducible assumption)|assumption)
        have q2:x1_1<(l1.length:Int):=of_decide_eq_true (by first|(with_reducible assumption)|assumption)
        obtain⟨ad2,e2,hx2_0⟩:=Kd.at_int HR2.out x1_1 p2 q2
        cases e2
        replace p2:=eq_true p2
        replace q2:=eq_true q2
        exact laws_eqIntS.W1
      ·rw[if_neg c4]at H
       exact absurd H (by simp)
     ·rw[if_neg c3]at H
      exact absurd H (by simp)
    ·rw[if_neg c2]at H
     have c2b0:decide (x1_1<(l0.length:Int))=false:=decide_eq_false c2
     clear c2
     obtain rfl:=Option.some.inj H
     exact laws_eqIntS.W1
 ·rw[if_neg c1]at H
  have c1b0:((l0.length:Int)==(l1.length:Int))=false:=beq_eq_false_iff_ne.mpr c1
  have c1b1:((l0.length:Int) !=(l1.length:Int))=true:=bne_iff_ne.mpr c1
  have c1b2:(l0.length==l1.length)=false:=by first|simpa using c1|(simp at c1 ⊢;omega)
  obtain rfl:=Option.some.inj H
  go_enter Try.func29,Try.ntmps29
  go_wp2
  repeat(go_quiet (fail);try go_wp2)
  go_ret
  exact⟨by first|rfl|(simp;done)|(simp[*];done),by repeat(first|exact Drawn0.refl _|apply Drawn0.step)⟩
def laws_eqLine.f (k:Nat) (a0_0:Int) (a0_1:Int) (l0_2:List Int) (l0_3:List Int) (a0_4:Int) (a0_5:Bool) (a1_0:Int) (a1_1:Int) (l1_2:List Int) (l1_3:List Int) (a1_4:Int) (a1_5:Bool):Option (Bool):=if a0_0=a1_0 then(if a0_1=a1_1 then((laws_eqIntS.f k l0_2 l1_2).bind fun t166=>(if t166=true then((laws_eqIntS.f k l0_3 l1_3).bind fun t167=>(if t167=true then(if a0_4=a1_4 then(if(a0_5 !=a1_5)=true then(some false) else(some true)) else(some false)) else(some false))) else(some false))) else(some false)) else(some false)
theorem laws_eqLine.mono:∀a0 a1 a2 a3 a4 a5 a6 a7 a8 a9 a10 a11 k,LeO (laws_eqLine.f k a0 a1 a2 a3 a4 a5 a6 a7 a8 a9 a10 a11) (laws_eqLine.f (k+1) a0 a1 a2 a3 a4 a5 a6 a7 a8 a9 a10 a11):=by
 intro a0 a1 a2 a3 a4 a5 a6 a7 a8 a9 a10 a11 k
 unfold laws_eqLine.f
 repeat' first|(with_reducible first|apply laws_eqIntS.mono|exact LeO.refl _|exact LeO.none _|refine LeO.ite ?_ ?_|refine LeO.bind ?_ (fun _=> ?_))|exact LeO.none _|refine LeO.ite ?_ ?_|refine LeO.bind ?_ (fun _=> ?_)
theorem laws_eqLine.W1 {p:Prop} (h:p:=by
  go_enter Try.func51,Try.ntmps51
  go_wp2_with (first|((with_reducible refine J (N:=2) rfl ?_);refine Fix.be 2 #[V I a0_0,V I a0_1,L A0_2 l0_2.length c0_2,L A0_3 l0_3.length c0_3,V I a0_4,O a0_5] 34 ?_;intro gb1 hg w1 BK1 hb;have GW1:D (w.heap.size≤gb1):=gE hg;have GE1:=GW1;replace HB:=eB hb;clear hb hg)|((with_reducible refine J (N:=3) rfl ?_);refine Fix.be 3 #[V I a1_0,V I a1_1,L A1_2 l1_2.length c1_2,L A1_3 l1_3.length c1_3,V I a1_4,O a1_5] 34 ?_;intro gb2 hg w2 BK2 hb;have GW2:D (w.heap.size≤gb2):=gE hg;have GE2:=GW2;have NB1_165:=nL hg BK1;have NB2_164:=nG hg BK1;replace BK1:=eK BK1 hb;replace HB:=eB hb;clear hb hg;have hnb1:=NB1_165.out;have hnc1:=NB2_164.out;obtain⟨hcz1_0,hcz1_1,hcz1_2,hcz1_3,hcz1_4,hcz1_5,hfz1_0,hfz1_1,hfz1_2,hfz1_3,hfz1_4,hfz1_5⟩:=d6 BK1.out;obtain⟨hcz2_0,hcz2_1,hcz2_2,hcz2_3,hcz2_4,hcz2_5,hfz2_0,hfz2_1,hfz2_2,hfz2_3,hfz2_4,hfz2_5⟩:=d6 BK2.out)|((with_reducible refine F (f:=29) rfl ?_);refine gl 29 (some 19) Try.func29 #[L A0_2 l0_2.length c0_2,L A1_2 l1_2.length c1_2] ?_;(with_reducible refine(laws_eqIntS.calls k _ _ l0_2 _ _ l1_2 true _ ?side1 ?side2 ?side3 ?side4 A2.out).mono ?_);(case side1=>exact uC (Z HR1_2.out HB.out));(case side2=>exact HC1_2.out);(case side3=>exact uC (Z HR2_2.out HB.out));(case side4=>exact HC2_2.out);rintro e w' ⟨rfl,⟨nd,rfl⟩⟩;refine⟨_,rfl,?_⟩)|((with_reducible refine F (f:=29) rfl ?_);refine gl 29 (some 25) Try.func29 #[L A0_3 l0_3.length c0_3,L A1_3 l1_3.length c1_3] ?_;(with_reducible refine(laws_eqIntS.calls k _ _ l0_3 _ _ l1_3 true _ ?side1 ?side2 ?side3 ?side4 A3.out).mono ?_);(case side1=>exact uC (Z HR1_3.out uB));(case side2=>exact HC1_3.out);(case side3=>exact uC (Z HR2_3.out uB));(case side4=>exact HC2_3.out);rintro e w' ⟨rfl,⟨nd,rfl⟩⟩;refine⟨_,rfl,?_⟩))
  go_ret
  exact⟨rE,uB⟩):p:=h
theorem laws_eqLine.W2 {p:Prop} (h:p:=by
  go_enter Try.func51,Try.ntmps51
  go_wp2_with (first|((with_reducible refine J (N:=2) rfl ?_);refine Fix.be 2 #[V I a0_0,V I a0_1,L A0_2 l0_2.length c0_2,L A0_3 l0_3.length c0_3,V I a0_4,O a0_5] 34 ?_;intro gb1 hg w1 BK1 hb;have GW1:D (w.heap.size≤gb1):=gE hg;have GE1:=GW1;replace HB:=eB hb;clear hb hg)|((with_reducible refine J (N:=3) rfl ?_);refine Fix.be 3 #[V I a1_0,V I a1_1,L A1_2 l1_2.length c1_2,L A1_3 l1_3.length c1_3,V I a1_4,O a1_5] 34 ?_;intro gb2 hg w2 BK2 hb;have GW2:D (w.heap.size≤gb2):=gE hg;have GE2:=GW2;have NB1_165:=nL hg BK1;have NB2_164:=nG hg BK1;replace BK1:=eK BK1 hb;replace HB:=eB hb;clear hb hg;have hnb1:=NB1_165.out;have hnc1:=NB2_164.out;have h_:=d6 BK1.out;(repeat(obtain⟨_,h_⟩:=h_));have h_:=d6 BK2.out;(repeat(obtain⟨_,h_⟩:=h_)))|((with_reducible refine F (f:=29) rfl ?_);refine gl 29 (some 19) Try.func29 #[L A0_2 l0_2.length c0_2,L A1_2 l1_2.length c1_2] ?_;(with_reducible refine(laws_eqIntS.calls k _ _ l0_2 _ _ l1_2 true _ ?side1 ?side2 ?side3 ?side4 A2.out).mono ?_);(case side1=>exact uC (Z HR1_2.out HB.out));(case side2=>exact HC1_2.out);(case side3=>exact uC (Z HR2_2.out HB.out));(case side4=>exact HC2_2.out);rintro e w' ⟨rfl,⟨nd,rfl⟩⟩;refine⟨_,rfl,?_⟩)|((with_reducible refine F (f:=29) rfl ?_);refine gl 29 (some 25) Try.func29 #[L A0_3 l0_3.length c0_3,L A1_3 l1_3.length c1_3] ?_;(with_reducible refine(laws_eqIntS.calls k _ _ l0_3 _ _ l1_3 true _ ?side1 ?side2 ?side3 ?side4 A3.out).mono ?_);(case side1=>exact uC (Z HR1_3.out uB));(case side2=>exact HC1_3.out);(case side3=>exact uC (Z HR2_3.out uB));(case side4=>exact HC2_3.out);rintro e w' ⟨rfl,⟨nd,rfl⟩⟩;refine⟨_,rfl,?_⟩))
  go_ret
  exact⟨rE,uB⟩):p:=h
set_option maxHeartbeats 40000000 in
set_option maxRecDepth 100000 in
theorem laws_eqLine.calls (k:Nat) (a0_0:Int) (a0_1:Int) (A0_2:Option Addr) (c0_2:Nat) (l0_2:List Int) (A0_3:Option Addr) (c0_3:Nat) (l0_3:List Int) (a0_4:Int) (a0_5:Bool) (a1_0:Int) (a1_1:Int) (A1_2:Option Addr) (c1_2:Nat) (l1_2:List Int) (A1_3:Option Addr) (c1_3:Nat) (l1_3:List Int) (a1_4:Int) (a1_5:Bool) (r:Bool) (w:World) (hr0_2:Kd.C (Kd.int .i64) w A0_2 l0_2.length l0_2) (hc0_2:l0_2.length≤c0_2) (hr0_3:Kd.C (Kd.int .i64) w A0_3 l0_3.length l0_3) (hc0_3:l0_3.length≤c0_3) (hr1_2:Kd.C (Kd.int .i64) w A1_2 l1_2.length l1_2) (hc1_2:l1_2.length≤c1_2) (hr1_3:Kd.C (Kd.int .i64) w A1_3 l1_3.length l1_3) (hc1_3:l1_3.length≤c1_3) (h:laws_eqLine.f k a0_0 a0_1 l0_2 l0_3 a0_4 a0_5 a1_0 a1_1 l1_2 l1_3 a1_4 a1_5=some r):
  Calls Try.prog 51 #[G #[V I a0_0,V I a0_1,L A0_2 l0_2.length c0_2,L A0_3 l0_3.length c0_3,V I a0_4,O a0_5],G #[V I a1_0,V I a1_1,L A1_2 l1_2.length c1_2,L A1_3 l1_3.length c1_3,V I a1_4,O a1_5]] w fun e w'=>e=.returned (O r)∧Below w.heap.size w w':=by
 have hu1:=Try.underlying34
 have HR1_2:=C hr0_2
 have HC1_2:=C hc0_2
 (try clear hr0_2);(try clear hc0_2)
 have HR1_3:=C hr0_3
 have HC1_3:=C hc0_3
 (try clear hr0_3);(try clear hc0_3)
 have HR2_2:=C hr1_2
 have HC2_2:=C hc1_2
 (try clear hr1_2);(try clear hc1_2)
 have HR2_3:=C hr1_3
 have HC2_3:=C hc1_3
 (try clear hr1_3);(try clear hc1_3)
 have HB:=C (Below.refl w.heap.size w)
 have H:=h
 unfold laws_eqLine.f at H
 clear h
 by_cases c2:a0_0=a1_0
 ·rw[if_pos c2]at H
  have c2b0:(a0_0==a1_0)=true:=beq_iff_eq.mpr c2
  have c2b1:(a0_0 !=a1_0)=false:=bne_eq_false_iff_eq.mpr c2
  clear c2
  by_cases c3:a0_1=a1_1
  ·rw[if_pos c3]at H
   have c3b0:(a0_1==a1_1)=true:=beq_iff_eq.mpr c3
   have c3b1:(a0_1 !=a1_1)=false:=bne_eq_false_iff_eq.mpr c3
   clear c3
   obtain⟨t1,A2,H⟩:=bnd H
   by_cases c4:t1=true
   ·subst c4
    rw[if_pos rfl]at H
    obtain⟨t2,A3,H⟩:=bnd H
    by_cases c5:t2=true
    ·subst c5
     rw[if_pos rfl]at H
     by_cases c6:a0_4=a1_4
     ·rw[if_pos c6]at H
      have c6b0:(a0_4==a1_4)=true:=beq_iff_eq.mpr c6
      have c6b1:(a0_4 !=a1_4)=false:=bne_eq_false_iff_eq.mpr c6
      clear c6
      by_cases c7:(a0_5 !=a1_5)=true
      ·rw[if_pos c7]at H
       have c7b0:(a0_5 !=a1_5)=true:=c7
       (try(have c7b1:decide (a0_5=a1_5)=false:=by simpa using c7))
       (try(have c7b2:(a0_5==a1_5)=false:=by simpa using c7))
       (try(have c7b3:¬(a0_5=a1_5):=by simpa using c7))
       clear c7
       obtain rfl:=Option.some.inj H
       go_enter Try.func51,Try.ntmps51
       go_wp2_with (first|((with_reducible refine J (N:=2) rfl ?_);refine Fix.be 2 #[V I a0_0,V I a0_1,L A0_2 l0_2.length c0_2,L A0_3 l0_3.length c0_3,V I a0_4,O a0_5] 34 ?_;intro gb1 hg w1 BK1 hb;have GW1:D (w.heap.size≤gb1):=gE hg;have GE1:=GW1;replace HB:=eB hb;clear hb hg)|((with_reducible refine J (N:=3) rfl ?_);refine Fix.be 3 #[V I a1_0,V I a1_1,L A1_2 l1_2.length c1_2,L A1_3 l1_3.length c1_3,V I a1_4,O a1_5] 34 ?_;intro gb2 hg w2 BK2 hb;have GW2:D (w.heap.size≤gb2):=gE hg;have GE2:=GW2;have NB1_165:=nL hg BK1;have NB2_164:=nG hg BK1;replace BK1:=eK BK1 hb;replace HB:=eB hb;clear hb hg;have hnb1:=NB1_165.out;have hnc1:=NB2_164.out;obtain⟨hcz1_0,hcz1_1,hcz1_2,hcz1_3,hcz1_4,hcz1_5,hfz1_0,hfz1_1,hfz1_2,hfz1_3,hfz1_4,hfz1_5⟩:=d6 BK1.out;have h_:=d6 BK2.out;(repeat(obtain⟨_,h_⟩:=h_)))|((with_reducible refine F (f:=29) rfl ?_);refine gl 29 (some 19) Try.func29 #[L A0_2 l0_2.length c0_2,L A1_2 l1_2.length c1_2] ?_;(with_reducible refine(laws_eqIntS.calls k _ _ l0_2 _ _ l1_2 true _ ?side1 ?side2 ?side3 ?side4 A2.out).mono ?_);(case side1=>exact uC (Z HR1_2.out HB.out));(case side2=>exact HC1_2.out);(case side3=>exact uC (Z HR2_2.out HB.out));(case side4=>exact HC2_2.out);rintro e w' ⟨rfl,⟨nd,rfl⟩⟩;refine⟨_,rfl,?_⟩)|((with_reducible refine F (f:=29) rfl ?_);refine gl 29 (some 25) Try.func29 #[L A0_3 l0_3.length c0_3,L A1_3 l1_3.length c1_3] ?_;(with_reducible refine(laws_eqIntS.calls k _ _ l0_3 _ _ l1_3 true _ ?side1 ?side2 ?side3 ?side4 A3.out).mono ?_);(case side1=>exact uC (Z HR1_3.out uB));(case side2=>exact HC1_3.out);(case side3=>exact uC (Z HR2_3.out uB));(case side4=>exact HC2_3.out);rintro e w' ⟨rfl,⟨nd,rfl⟩⟩;refine⟨_,rfl,?_⟩))
       go_ret
       exact⟨rE,uB⟩
      ·rw[if_neg c7]at H
       have c7b0:(a0_5 !=a1_5)=false:=by simpa using c7
       (try(have c7b1:decide (a0_5=a1_5)=true:=by simpa using c7))
       (try(have c7b2:(a0_5==a1_5)=true:=by simpa using c7))
       clear c7
       obtain rfl:=Option.some.inj H
       exact laws_eqLine.W1
     ·rw[if_neg c6]at H
      have c6b0:(a0_4==a1_4)=false:=beq_eq_false_iff_ne.mpr c6
      have c6b1:(a0_4 !=a1_4)=true:=bne_iff_ne.mpr c6
      obtain rfl:=Option.some.inj H
      exact laws_eqLine.W2
    ·replace c5:=Bool.eq_false_iff.mpr c5
     subst c5
     rw[if_neg Bool.false_ne_true]at H
     obtain rfl:=Option.some.inj H
     go_enter Try.func51,Try.ntmps51
     go_wp2_with (first|((with_reducible refine J (N:=2) rfl ?_);refine Fix.be 2 #[V I a0_0,V I a0_1,L A0_2 l0_2.length c0_2,L A0_3 l0_3.length c0_3,V I a0_4,O a0_5] 34 ?_;intro gb1 hg w1 BK1 hb;have GW1:D (w.heap.size≤gb1):=gE hg;have GE1:=GW1;replace HB:=eB hb;clear hb hg)|((with_reducible refine J (N:=3) rfl ?_);refine Fix.be 3 #[V I a1_0,V I a1_1,L A1_2 l1_2.length c1_2,L A1_3 l1_3.length c1_3,V I a1_4,O a1_5] 34 ?_;intro gb2 hg w2 BK2 hb;have GW2:D (w.heap.size≤gb2):=gE hg;have GE2:=GW2;have NB1_165:=nL hg BK1;have NB2_164:=nG hg BK1;replace BK1:=eK BK1 hb;replace HB:=eB hb;clear hb hg;have hnb1:=NB1_165.out;have hnc1:=NB2_164.out;have h_:=d6 BK1.out;(repeat(obtain⟨_,h_⟩:=h_));obtain⟨hcz1_0,hcz1_1,hcz1_2,hcz1_3,hcz1_4,hcz1_5,hfz1_0,hfz1_1,hfz1_2,hfz1_3,hfz1_4,hfz1_5⟩:=d6 BK2.out)|((with_reducible refine F (f:=29) rfl ?_);refine gl 29 (some 19) Try.func29 #[L A0_2 l0_2.length c0_2,L A1_2 l1_2.length c1_2] ?_;(with_reducible refine(laws_eqIntS.calls k _ _ l0_2 _ _ l1_2 true _ ?side1 ?side2 ?side3 ?side4 A2.out).mono ?_);(case side1=>exact uC (Z HR1_2.out HB.out));(case side2=>exact HC1_2.out);(case side3=>exact uC (Z HR2_2.out HB.out));(case side4=>exact HC2_2.out);rintro e w' ⟨rfl,⟨nd,rfl⟩⟩;refine⟨_,rfl,?_⟩)|((with_reducible refine F (f:=29) rfl ?_);refine gl 29 (some 25) Try.func29 #[L A0_3 l0_3.length c0_3,L A1_3 l1_3.length c1_3] ?_;(with_reducible refine(laws_eqIntS.calls k _ _ l0_3 _ _ l1_3 false _ ?side1 ?side2 ?side3 ?side4 A3.out).mono ?_);(case side1=>exact uC (Z HR1_3.out uB));(case side2=>exact HC1_3.out);(case side3=>exact uC (Z HR2_3.out uB));(case side4=>exact HC2_3.out);rintro e w' ⟨rfl,⟨nd,rfl⟩⟩;refine⟨_,rfl,?_⟩))
     go_ret
     exact⟨rE,uB⟩
   ·replace c4:=Bool.eq_false_iff.mpr c4
    subst c4
    rw[if_neg Bool.false_ne_true]at H
    obtain rfl:=Option.some.inj H
    go_enter Try.func51,Try.ntmps51
    go_wp2_with (first|((with_reducible refine J (N:=2) rfl ?_);refine Fix.be 2 #[V I a0_0,V I a0_1,L A0_2 l0_2.length c0_2,L A0_3 l0_3.length c0_3,V I a0_4,O a0_5] 34 ?_;intro gb1 hg w1 BK1 hb;have GW1:D (w.heap.size≤gb1):=gE hg;have GE1:=GW1;replace HB:=eB hb;clear hb hg)|((with_reducible refine J (N:=3) rfl ?_);refine Fix.be 3 #[V I a1_0,V I a1_1,L A1_2 l1_2.length c1_2,L A1_3 l1_3.length c1_3,V I a1_4,O a1_5] 34 ?_;intro gb2 hg w2 BK2 hb;have GW2:D (w.heap.size≤gb2):=gE hg;have GE2:=GW2;have NB1_165:=nL hg BK1;have NB2_164:=nG hg BK1;replace BK1:=eK BK1 hb;replace HB:=eB hb;clear hb hg;have hnb1:=NB1_165.out;have hnc1:=NB2_164.out;obtain⟨hcz1_0,hcz1_1,hcz1_2,hcz1_3,hcz1_4,hcz1_5,hfz1_0,hfz1_1,hfz1_2,hfz1_3,hfz1_4,hfz1_5⟩:=d6 BK1.out;have h_:=d6 BK2.out;(repeat(obtain⟨_,h_⟩:=h_)))|((with_reducible refine F (f:=29) rfl ?_);refine gl 29 (some 19) Try.func29 #[L A0_2 l0_2.length c0_2,L A1_2 l1_2.length c1_2] ?_;(with_reducible refine(laws_eqIntS.calls k _ _ l0_2 _ _ l1_2 false _ ?side1 ?side2 ?side3 ?side4 A2.out).mono ?_);(case side1=>exact uC (Z HR1_2.out HB.out));(case side2=>exact HC1_2.out);(case side3=>exact uC (Z HR2_2.out HB.out));(case side4=>exact HC2_2.out);rintro e w' ⟨rfl,⟨nd,rfl⟩⟩;refine⟨_,rfl,?_⟩))
    go_ret
    exact⟨rE,uB⟩
  ·rw[if_neg c3]at H
   have c3b0:(a0_1==a1_1)=false:=beq_eq_false_iff_ne.mpr c3
   have c3b1:(a0_1 !=a1_1)=true:=bne_iff_ne.mpr c3
   obtain rfl:=Option.some.inj H
   exact laws_eqLine.W2
 ·rw[if_neg c2]at H
  have c2b0:(a0_0==a1_0)=false:=beq_eq_false_iff_ne.mpr c2
  have c2b1:(a0_0 !=a1_0)=true:=bne_iff_ne.mpr c2
  obtain rfl:=Option.some.inj H
  exact laws_eqLine.W1
def laws_eqMachine.f (k:Nat) (l0_0:List (S33)) (a0_1:Int) (a0_2:Int) (a0_3:Int) (a0_4:Bool) (a0_5:Int) (a0_6:Bool) (a0_7:Int) (a0_8:Int) (l0_9:List Int) (l0_10:List Int) (a0_11:Int) (a0_12:Bool) (a0_13:Int) (l1_0:List (S33)) (a1_1:Int) (a1_2:Int) (a1_3:Int) (a1_4:Bool) (a1_5:Int) (a1_6:Bool) (a1_7:Int) (a1_8:Int) (l1_9:List Int) (l1_10:List Int) (a1_11:Int) (a1_12:Bool) (a1_13:Int):Option (Bool):=(laws_eqJobS.f k l0_0 l1_0).bind fun t170=>(if t170=true then((laws_eqJob.f a0_1 a0_2 a0_3 a0_4 a0_5 a0_6 a1_1 a1_2 a1_3 a1_4 a1_5 a1_6).bind fun t171=>(if t171=true then((laws_eqLine.f k a0_7 a0_8 l0_9 l0_10 a0_11 a0_12 a1_7 a1_8 l1_9 l1_10 a1_11 a1_12).bind fun t172=>(if t172=true then(if a0_13=a1_13 then(some true) else(some false)) else(some false))) else(some false))) else(some false))
theorem laws_eqMachine.mono:∀a0 a1 a2 a3 a4 a5 a6 a7 a8 a9 a10 a11 a12 a13 a14 a15 a16 a17 a18 a19 a20 a21 a22 a23 a24 a25 a26 a27 k,LeO (laws_eqMachine.f k a0 a1 a2 a3 a4 a5 a6 a7 a8 a9 a10 a11 a12 a13 a14 a15 a16 a17 a18 a19 a20 a21 a22 a23 a24 a25 a26 a27) (laws_eqMachine.f (k+1) a0 a1 a2 a3 a4 a5 a6 a7 a8 a9 a10 a11 a12 a13 a14 a15 a16 a17 a18 a19 a20 a21 a22 a23 a24 a25 a26 a27):=by
 intro a0 a1 a2 a3 a4 a5 a6 a7 a8 a9 a10 a11 a12 a13 a14 a15 a16 a17 a18 a19 a20 a21 a22 a23 a24 a25 a26 a27 k
 unfold laws_eqMachine.f
 repeat' first|(with_reducible first|apply laws_eqJobS.mono|apply laws_eqLine.mono|exact LeO.refl _|exact LeO.none _|refine LeO.ite ?_ ?_|refine LeO.bind ?_ (fun _=> ?_))|exact LeO.none _|refine LeO.ite ?_ ?_|refine LeO.bind ?_ (fun _=> ?_)
set_option maxHeartbeats 40000000 in
set_option maxRecDepth 100000 in
theorem laws_eqMachine.calls (k:Nat) (A0_0:Option Addr) (c0_0:Nat) (l0_0:List (S33)) (a0_1:Int) (a0_2:Int) (a0_3:Int) (a0_4:Bool) (a0_5:Int) (a0_6:Bool) (a0_7:Int) (a0_8:Int) (A0_9:Option Addr) (c0_9:Nat) (l0_9:List Int) (A0_10:Option Addr) (c0_10:Nat) (l0_10:List Int) (a0_11:Int) (a0_12:Bool) (a0_13:Int) (A1_0:Option Addr) (c1_0:Nat) (l1_0:List (S33)) (a1_1:Int) (a1_2:Int) (a1_3:Int) (a1_4:Bool) (a1_5:Int) (a1_6:Bool) (a1_7:Int) (a1_8:Int) (A1_9:Option Addr) (c1_9:Nat) (l1_9:List Int) (A1_10:Option Addr) (c1_10:Nat) (l1_10:List Int) (a1_11:Int) (a1_12:Bool) (a1_13:Int) (r:Bool) (w:World) (hr0_0:Kd.C k33 w A0_0 l0_0.length l0_0) (hc0_0:l0_0.length≤c0_0) (hr0_9:Kd.C (Kd.int .i64) w A0_9 l0_9.length l0_9) (hc0_9:l0_9.length≤c0_9) (hr0_10:Kd.C (Kd.int .i64) w A0_10 l0_10.length l0_10) (hc0_10:l0_10.length≤c0_10) (hr1_0:Kd.C k33 w A1_0 l1_0.length l1_0) (hc1_0:l1_0.length≤c1_0) (hr1_9:Kd.C (Kd.int .i64) w A1_9 l1_9.length l1_9) (hc1_9:l1_9.length≤c1_9) (hr1_10:Kd.C (Kd.int .i64) w A1_10 l1_10.length l1_10) (hc1_10:l1_10.length≤c1_10) (h:laws_eqMachine.f k l0_0 a0_1 a0_2 a0_3 a0_4 a0_5 a0_6 a0_7 a0_8 l0_9 l0_10 a0_11 a0_12 a0_13 l1_0 a1_1 a1_2 a1_3 a1_4 a1_5 a1_6 a1_7 a1_8 l1_9 l1_10 a1_11 a1_12 a1_13=some r):
  Calls Try.prog 13 #[G #[L A0_0 l0_0.length c0_0,V I a0_1,V I a0_2,V I a0_3,O a0_4,V I a0_5,O a0_6,V I a0_7,V I a0_8,L A0_9 l0_9.length c0_9,L A0_10 l0_10.length c0_10,V I a0_11,O a0_12,V I a0_13],G #[L A1_0 l1_0.length c1_0,V I a1_1,V I a1_2,V I a1_3,O a1_4,V I a1_5,O a1_6,V I a1_7,V I a1_8,L A1_9 l1_9.length c1_9,L A1_10 l1_10.length c1_10,V I a1_11,O a1_12,V I a1_13]] w fun e w'=>e=.returned (O r)∧Below w.heap.size w w':=by
 have hu1:=Try.underlying36
 have hu2:=Try.underlying33
 have hu3:=Try.underlying34
 have HR1_0:=C hr0_0
 have HC1_0:=C hc0_0
 (try clear hr0_0);(try clear hc0_0)
 have HR1_9:=C hr0_9
 have HC1_9:=C hc0_9
 (try clear hr0_9);(try clear hc0_9)
 have HR1_10:=C hr0_10
 have HC1_10:=C hc0_10
 (try clear hr0_10);(try clear hc0_10)
 have HR2_0:=C hr1_0
 have HC2_0:=C hc1_0
 (try clear hr1_0);(try clear hc1_0)
 have HR2_9:=C hr1_9
 have HC2_9:=C hc1_9
 (try clear hr1_9);(try clear hc1_9)
 have HR2_10:=C hr1_10
 have HC2_10:=C hc1_10
 (try clear hr1_10);(try clear hc1_10)
 have HB:=C (Below.refl w.heap.size w)
 have H:=h
 unfold laws_eqMachine.f at H
 clear h
 obtain⟨t1,A2,H⟩:=bnd H
 by_cases c2:t1=true
 ·subst c2
  rw[if_pos rfl]at H
  obtain⟨t2,A3,H⟩:=bnd H
  by_cases c3:t2=true
  ·subst c3
   rw[if_pos rfl]at H
   obtain⟨t3,A4,H⟩:=bnd H
   by_cases c4:t3=true
   ·subst c4
    rw[if_pos rfl]at H
    by_cases c5:a0_13=a1_13
    ·rw[if_pos c5]at H
     have c5b0:(a0_13==a1_13)=true:=beq_iff_eq.mpr c5
     have c5b1:(a0_13 !=a1_13)=false:=bne_eq_false_iff_eq.mpr c5
     clear c5
     obtain rfl:=Option.some.inj H
     go_enter Try.func13,Try.ntmps13
     go_wp2_with (first|((with_reducible refine J (N:=2) rfl ?_);refine Fix.be 2 #[L A0_0 l0_0.length c0_0,V I a0_1,V I a0_2,V I a0_3,O a0_4,V I a0_5,O a0_6,V I a0_7,V I a0_8,L A0_9 l0_9.length c0_9,L A0_10 l0_10.length c0_10,V I a0_11,O a0_12,V I a0_13] 36 ?_;intro gb1 hg w1 BK1 hb;have GW1:D (w.heap.size≤gb1):=gE hg;have GE1:=GW1;replace HB:=eB hb;clear hb hg)|((with_reducible refine J (N:=3) rfl ?_);refine Fix.be 3 #[L A1_0 l1_0.length c1_0,V I a1_1,V I a1_2,V I a1_3,O a1_4,V I a1_5,O a1_6,V I a1_7,V I a1_8,L A1_9 l1_9.length c1_9,L A1_10 l1_10.length c1_10,V I a1_11,O a1_12,V I a1_13] 36 ?_;intro gb2 hg w2 BK2 hb;have GW2:D (w.heap.size≤gb2):=gE hg;have GE2:=GW2;have NB1_169:=nL hg BK1;have NB2_168:=nG hg BK1;replace BK1:=eK BK1 hb;replace HB:=eB hb;clear hb hg;have hnb1:=NB1_169.out;have hnc1:=NB2_168.out;obtain⟨hcz1_0,hcz1_1,hcz1_2,hcz1_3,hcz1_4,hcz1_5,hcz1_6,hcz1_7,hcz1_8,hcz1_9,hcz1_10,hcz1_11,hcz1_12,hcz1_13,hfz1_0,hfz1_1,hfz1_2,hfz1_3,hfz1_4,hfz1_5,hfz1_6,hfz1_7,hfz1_8,hfz1_9,hfz1_10,hfz1_11,hfz1_12,hfz1_13⟩:=d14 BK1.out;obtain⟨hcz2_0,hcz2_1,hcz2_2,hcz2_3,hcz2_4,hcz2_5,hcz2_6,hcz2_7,hcz2_8,hcz2_9,hcz2_10,hcz2_11,hcz2_12,hcz2_13,hfz2_0,hfz2_1,hfz2_2,hfz2_3,hfz2_4,hfz2_5,hfz2_6,hfz2_7,hfz2_8,hfz2_9,hfz2_10,hfz2_11,hfz2_12,hfz2_13⟩:=d14 BK2.out)|((with_reducible refine F (f:=49) rfl ?_);refine gl 49 (some 9) Try.func49 #[L A0_0 l0_0.length c0_0,L A1_0 l1_0.length c1_0] ?_;(with_reducible refine(laws_eqJobS.calls k _ _ l0_0 _ _ l1_0 true _ ?side1 ?side2 ?side3 ?side4 A2.out).mono ?_);(case side1=>exact uC (Z HR1_0.out HB.out));(case side2=>exact HC1_0.out);(case side3=>exact uC (Z HR2_0.out HB.out));(case side4=>exact HC2_0.out);rintro e w3 ⟨rfl,hb⟩;refine⟨_,rfl,?_⟩;replace BK1:=eK BK1 hb;replace BK2:=eK BK2 hb;replace HB:=eB hb;clear hb;obtain⟨hcz3_0,hcz3_1,hcz3_2,hcz3_3,hcz3_4,hcz3_5,hcz3_6,hcz3_7,hcz3_8,hcz3_9,hcz3_10,hcz3_11,hcz3_12,hcz3_13,hfz3_0,hfz3_1,hfz3_2,hfz3_3,hfz3_4,hfz3_5,hfz3_6,hfz3_7,hfz3_8,hfz3_9,hfz3_10,hfz3_11,hfz3_12,hfz3_13⟩:=d14 BK1.out;have h_:=d14 BK2.out;(repeat(obtain⟨_,h_⟩:=h_)))|((with_reducible refine F (f:=50) rfl ?_);refine gl 50 (some 15) Try.func50 #[G #[V I a0_1,V I a0_2,V I a0_3,O a0_4,V I a0_5,O a0_6],G #[V I a1_1,V I a1_2,V I a1_3,O a1_4,V I a1_5,O a1_6]] ?_;(with_reducible refine(laws_eqJob.calls a0_1 a0_2 a0_3 a0_4 a0_5 a0_6 a1_1 a1_2 a1_3 a1_4 a1_5 a1_6 true _ A3.out).mono ?_);rintro e w4 ⟨rfl,hb⟩;refine⟨_,rfl,?_⟩;replace BK1:=eK BK1 hb;replace BK2:=eK BK2 hb;replace HB:=eB hb;clear hb;obtain⟨hcz4_0,hcz4_1,hcz4_2,hcz4_3,hcz4_4,hcz4_5,hcz4_6,hcz4_7,hcz4_8,hcz4_9,hcz4_10,hcz4_11,hcz4_12,hcz4_13,hfz4_0,hfz4_1,hfz4_2,hfz4_3,hfz4_4,hfz4_5,hfz4_6,hfz4_7,hfz4_8,hfz4_9,hfz4_10,hfz4_11,hfz4_12,hfz4_13⟩:=d14 BK1.out;obtain⟨hcz5_0,hcz5_1,hcz5_2,hcz5_3,hcz5_4,hcz5_5,hcz5_6,hcz5_7,hcz5_8,hcz5_9,hcz5_10,hcz5_11,hcz5_12,hcz5_13,hfz5_0,hfz5_1,hfz5_2,hfz5_3,hfz5_4,hfz5_5,hfz5_6,hfz5_7,hfz5_8,hfz5_9,hfz5_10,hfz5_11,hfz5_12,hfz5_13⟩:=d14 BK2.out)|((with_reducible refine F (f:=51) rfl ?_);refine gl 51 (some 21) Try.func51 #[G #[V I a0_7,V I a0_8,L A0_9 l0_9.length c0_9,L A0_10 l0_10.length c0_10,V I a0_11,O a0_12],G #[V I a1_7,V I a1_8,L A1_9 l1_9.length c1_9,L A1_10 l1_10.length c1_10,V I a1_11,O a1_12]] ?_;(with_reducible refine(laws_eqLine.calls k a0_7 a0_8 _ _ l0_9 _ _ l0_10 a0_11 a0_12 a1_7 a1_8 _ _ l1_9 _ _ l1_10 a1_11 a1_12 true _ ?side1 ?side2 ?side3 ?side4 ?side5 ?side6 ?side7 ?side8 A4.out).mono ?_);(case side1=>exact uC (Z HR1_9.out HB.out));(case side2=>exact HC1_9.out);(case side3=>exact uC (Z HR1_10.out HB.out));(case side4=>exact HC1_10.out);(case side5=>exact uC (Z HR2_9.out HB.out));(case side6=>exact HC2_9.out);(case side7=>exact uC (Z HR2_10.out HB.out));(case side8=>exact HC2_10.out);rintro e w5 ⟨rfl,hb⟩;refine⟨_,rfl,?_⟩;replace BK1:=eK BK1 hb;replace BK2:=eK BK2 hb;replace HB:=eB hb;clear hb;have h_:=d14 BK1.out;(repeat(obtain⟨_,h_⟩:=h_));have h_:=d14 BK2.out;(repeat(obtain⟨_,h_⟩:=h_))))
     go_ret
     exact⟨rE,uB⟩
    ·rw[if_neg c5]at H
     have c5b0:(a0_13==a1_13)=false:=beq_eq_false_iff_ne.mpr c5
     have c5b1:(a0_13 !=a1_13)=true:=bne_iff_ne.mpr c5
     obtain rfl:=Option.some.inj H
     go_enter Try.func13,Try.ntmps13
     go_wp2_with (first|((with_reducible refine J (N:=2) rfl ?_);refine Fix.be 2 #[L A0_0 l0_0.length c0_0,V I a0_1,V I a0_2,V I a0_3,O a0_4,V I a0_5,O a0_6,V I a0_7,V I a0_8,L A0_9 l0_9.length c0_9,L A0_10 l0_10.length c0_10,V I a0_11,O a0_12,V I a0_13] 36 ?_;intro gb1 hg w1 BK1 hb;have GW1:D (w.heap.size≤gb1):=gE hg;have GE1:=GW1;replace HB:=eB hb;clear hb hg)|((with_reducible refine J (N:=3) rfl ?_);refine Fix.be 3 #[L A1_0 l1_0.length c1_0,V I a1_1,V I a1_2,V I a1_3,O a1_4,V I a1_5,O a1_6,V I a1_7,V I a1_8,L A1_9 l1_9.length c1_9,L A1_10 l1_10.length c1_10,V I a1_11,O a1_12,V I a1_13] 36 ?_;intro gb2 hg w2 BK2 hb;have GW2:D (w.heap.size≤gb2):=gE hg;have GE2:=GW2;have NB1_169:=nL hg BK1;have NB2_168:=nG hg BK1;replace BK1:=eK BK1 hb;replace HB:=eB hb;clear hb hg;have hnb1:=NB1_169.out;have hnc1:=NB2_168.out;have h_:=d14 BK1.out;(repeat(obtain⟨_,h_⟩:=h_));have h_:=d14 BK2.out;(repeat(obtain⟨_,h_⟩:=h_)))|((with_reducible refine F (f:=49) rfl ?_);refine gl 49 (some 9) Try.func49 #[L A0_0 l0_0.length c0_0,L A1_0 l1_0.length c1_0] ?_;(with_reducible refine(laws_eqJobS.calls k _ _ l0_0 _ _ l1_0 true _ ?side1 ?side2 ?side3 ?side4 A2.out).mono ?_);(case side1=>exact uC (Z HR1_0.out HB.out));(case side2=>exact HC1_0.out);(case side3=>exact uC (Z HR2_0.out HB.out));(case side4=>exact HC2_0.out);rintro e w3 ⟨rfl,hb⟩;refine⟨_,rfl,?_⟩;replace BK1:=eK BK1 hb;replace BK2:=eK BK2 hb;replace HB:=eB hb;clear hb;obtain⟨hcz1_0,hcz1_1,hcz1_2,hcz1_3,hcz1_4,hcz1_5,hcz1_6,hcz1_7,hcz1_8,hcz1_9,hcz1_10,hcz1_11,hcz1_12,hcz1_13,hfz1_0,hfz1_1,hfz1_2,hfz1_3,hfz1_4,hfz1_5,hfz1_6,hfz1_7,hfz1_8,hfz1_9,hfz1_10,hfz1_11,hfz1_12,hfz1_13⟩:=d14 BK1.out;have h_:=d14 BK2.out;(repeat(obtain⟨_,h_⟩:=h_)))|((with_reducible refine F (f:=50) rfl ?_);refine gl 50 (some 15) Try.func50 #[G #[V I a0_1,V I a0_2,V I a0_3,O a0_4,V I a0_5,O a0_6],G #[V I a1_1,V I a1_2,V I a1_3,O a1_4,V I a1_5,O a1_6]] ?_;(with_reducible refine(laws_eqJob.calls a0_1 a0_2 a0_3 a0_4 a0_5 a0_6 a1_1 a1_2 a1_3 a1_4 a1_5 a1_6 true _ A3.out).mono ?_);rintro e w4 ⟨rfl,hb⟩;refine⟨_,rfl,?_⟩;replace BK1:=eK BK1 hb;replace BK2:=eK BK2 hb;replace HB:=eB hb;clear hb;have h_:=d14 BK1.out;(repeat(obtain⟨_,h_⟩:=h_));obtain⟨hcz2_0,hcz2_1,hcz2_2,hcz2_3,hcz2_4,hcz2_5,hcz2_6,hcz2_7,hcz2_8,hcz2_9,hcz2_10,hcz2_11,hcz2_12,hcz2_13,hfz2_0,hfz2_1,hfz2_2,hfz2_3,hfz2_4,hfz2_5,hfz2_6,hfz2_7,hfz2_8,hfz2_9,hfz2_10,hfz2_11,hfz2_12,hfz2_13⟩:=d14 BK2.out)|((with_reducible refine F (f:=51) rfl ?_);refine gl 51 (some 21) Try.func51 #[G #[V I a0_7,V I a0_8,L A0_9 l0_9.length c0_9,L A0_10 l0_10.length c0_10,V I a0_11,O a0_12],G #[V I a1_7,V I a1_8,L A1_9 l1_9.length c1_9,L A1_10 l1_10.length c1_10,V I a1_11,O a1_12]] ?_;(with_reducible refine(laws_eqLine.calls k a0_7 a0_8 _ _ l0_9 _ _ l0_10 a0_11 a0_12 a1_7 a1_8 _ _ l1_9 _ _ l1_10 a1_11 a1_12 true _ ?side1 ?side2 ?side3 ?side4 ?side5 ?side6 ?side7 ?side8 A4.out).mono ?_);(case side1=>exact uC (Z HR1_9.out HB.out));(case side2=>exact HC1_9.out);(case side3=>exact uC (Z HR1_10.out HB.out));(case side4=>exact HC1_10.out);(case side5=>exact uC (Z HR2_9.out HB.out));(case side6=>exact HC2_9.out);(case side7=>exact uC (Z HR2_10.out HB.out));(case side8=>exact HC2_10.out);rintro e w5 ⟨rfl,hb⟩;refine⟨_,rfl,?_⟩;replace BK1:=eK BK1 hb;replace BK2:=eK BK2 hb;replace HB:=eB hb;clear hb;have h_:=d14 BK1.out;(repeat(obtain⟨_,h_⟩:=h_));have h_:=d14 BK2.out;(repeat(obtain⟨_,h_⟩:=h_))))
     go_ret
     exact⟨rE,uB⟩
   ·replace c4:=Bool.eq_false_iff.mpr c4
    subst c4
    rw[if_neg Bool.false_ne_true]at H
    obtain rfl:=Option.some.inj H
    go_enter Try.func13,Try.ntmps13
    go_wp2_with (first|((with_reducible refine J (N:=2) rfl ?_);refine Fix.be 2 #[L A0_0 l0_0.length c0_0,V I a0_1,V I a0_2,V I a0_3,O a0_4,V I a0_5,O a0_6,V I a0_7,V I a0_8,L A0_9 l0_9.length c0_9,L A0_10 l0_10.length c0_10,V I a0_11,O a0_12,V I a0_13] 36 ?_;intro gb1 hg w1 BK1 hb;have GW1:D (w.heap.size≤gb1):=gE hg;have GE1:=GW1;replace HB:=eB hb;clear hb hg)|((with_reducible refine J (N:=3) rfl ?_);refine Fix.be 3 #[L A1_0 l1_0.length c1_0,V I a1_1,V I a1_2,V I a1_3,O a1_4,V I a1_5,O a1_6,V I a1_7,V I a1_8,L A1_9 l1_9.length c1_9,L A1_10 l1_10.length c1_10,V I a1_11,O a1_12,V I a1_13] 36 ?_;intro gb2 hg w2 BK2 hb;have GW2:D (w.heap.size≤gb2):=gE hg;have GE2:=GW2;have NB1_169:=nL hg BK1;have NB2_168:=nG hg BK1;replace BK1:=eK BK1 hb;replace HB:=eB hb;clear hb hg;have hnb1:=NB1_169.out;have hnc1:=NB2_168.out;have h_:=d14 BK1.out;(repeat(obtain⟨_,h_⟩:=h_));have h_:=d14 BK2.out;(repeat(obtain⟨_,h_⟩:=h_)))|((with_reducible refine F (f:=49) rfl ?_);refine gl 49 (some 9) Try.func49 #[L A0_0 l0_0.length c0_0,L A1_0 l1_0.length c1_0] ?_;(with_reducible refine(laws_eqJobS.calls k _ _ l0_0 _ _ l1_0 true _ ?side1 ?side2 ?side3 ?side4 A2.out).mono ?_);(case side1=>exact uC (Z HR1_0.out HB.out));(case side2=>exact HC1_0.out);(case side3=>exact uC (Z HR2_0.out HB.out));(case side4=>exact HC2_0.out);rintro e w3 ⟨rfl,hb⟩;refine⟨_,rfl,?_⟩;replace BK1:=eK BK1 hb;replace BK2:=eK BK2 hb;replace HB:=eB hb;clear hb;obtain⟨hcz1_0,hcz1_1,hcz1_2,hcz1_3,hcz1_4,hcz1_5,hcz1_6,hcz1_7,hcz1_8,hcz1_9,hcz1_10,hcz1_11,hcz1_12,hcz1_13,hfz1_0,hfz1_1,hfz1_2,hfz1_3,hfz1_4,hfz1_5,hfz1_6,hfz1_7,hfz1_8,hfz1_9,hfz1_10,hfz1_11,hfz1_12,hfz1_13⟩:=d14 BK1.out;obtain⟨hcz2_0,hcz2_1,hcz2_2,hcz2_3,hcz2_4,hcz2_5,hcz2_6,hcz2_7,hcz2_8,hcz2_9,hcz2_10,hcz2_11,hcz2_12,hcz2_13,hfz2_0,hfz2_1,hfz2_2,hfz2_3,hfz2_4,hfz2_5,hfz2_6,hfz2_7,hfz2_8,hfz2_9,hfz2_10,hfz2_11,hfz2_12,hfz2_13⟩:=d14 BK2.out)|((with_reducible refine F (f:=50) rfl ?_);refine gl 50 (some 15) Try.func50 #[G #[V I a0_1,V I a0_2,V I a0_3,O a0_4,V I a0_5,O a0_6],G #[V I a1_1,V I a1_2,V I a1_3,O a1_4,V I a1_5,O a1_6]] ?_;(with_reducible refine(laws_eqJob.calls a0_1 a0_2 a0_3 a0_4 a0_5 a0_6 a1_1 a1_2 a1_3 a1_4 a1_5 a1_6 true _ A3.out).mono ?_);rintro e w4 ⟨rfl,hb⟩;refine⟨_,rfl,?_⟩;replace BK1:=eK BK1 hb;replace BK2:=eK BK2 hb;replace HB:=eB hb;clear hb;have h_:=d14 BK1.out;(repeat(obtain⟨_,h_⟩:=h_));have h_:=d14 BK2.out;(repeat(obtain⟨_,h_⟩:=h_)))|((with_reducible refine F (f:=51) rfl ?_);refine gl 51 (some 21) Try.func51 #[G #[V I a0_7,V I a0_8,L A0_9 l0_9.length c0_9,L A0_10 l0_10.length c0_10,V I a0_11,O a0_12],G #[V I a1_7,V I a1_8,L A1_9 l1_9.length c1_9,L A1_10 l1_10.length c1_10,V I a1_11,O a1_12]] ?_;(with_reducible refine(laws_eqLine.calls k a0_7 a0_8 _ _ l0_9 _ _ l0_10 a0_11 a0_12 a1_7 a1_8 _ _ l1_9 _ _ l1_10 a1_11 a1_12 false _ ?side1 ?side2 ?side3 ?side4 ?side5 ?side6 ?side7 ?side8 A4.out).mono ?_);(case side1=>exact uC (Z HR1_9.out HB.out));(case side2=>exact HC1_9.out);(case side3=>exact uC (Z HR1_10.out HB.out));(case side4=>exact HC1_10.out);(case side5=>exact uC (Z HR2_9.out HB.out));(case side6=>exact HC2_9.out);(case side7=>exact uC (Z HR2_10.out HB.out));(case side8=>exact HC2_10.out);rintro e w5 ⟨rfl,hb⟩;refine⟨_,rfl,?_⟩;replace BK1:=eK BK1 hb;replace BK2:=eK BK2 hb;replace HB:=eB hb;clear hb))
    go_ret
    exact⟨rE,uB⟩
  ·replace c3:=Bool.eq_false_iff.mpr c3
   subst c3
   rw[if_neg Bool.false_ne_true]at H
   obtain rfl:=Option.some.inj H
   go_enter Try.func13,Try.ntmps13
   go_wp2_with (first|((with_reducible refine J (N:=2) rfl ?_);refine Fix.be 2 #[L A0_0 l0_0.length c0_0,V I a0_1,V I a0_2,V I a0_3,O a0_4,V I a0_5,O a0_6,V I a0_7,V I a0_8,L A0_9 l0_9.length c0_9,L A0_10 l0_10.length c0_10,V I a0_11,O a0_12,V I a0_13] 36 ?_;intro gb1 hg w1 BK1 hb;have GW1:D (w.heap.size≤gb1):=gE hg;have GE1:=GW1;replace HB:=eB hb;clear hb hg)|((with_reducible refine J (N:=3) rfl ?_);refine Fix.be 3 #[L A1_0 l1_0.length c1_0,V I a1_1,V I a1_2,V I a1_3,O a1_4,V I a1_5,O a1_6,V I a1_7,V I a1_8,L A1_9 l1_9.length c1_9,L A1_10 l1_10.length c1_10,V I a1_11,O a1_12,V I a1_13] 36 ?_;intro gb2 hg w2 BK2 hb;have GW2:D (w.heap.size≤gb2):=gE hg;have GE2:=GW2;have NB1_169:=nL hg BK1;have NB2_168:=nG hg BK1;replace BK1:=eK BK1 hb;replace HB:=eB hb;clear hb hg;have hnb1:=NB1_169.out;have hnc1:=NB2_168.out;have h_:=d14 BK1.out;(repeat(obtain⟨_,h_⟩:=h_));have h_:=d14 BK2.out;(repeat(obtain⟨_,h_⟩:=h_)))|((with_reducible refine F (f:=49) rfl ?_);refine gl 49 (some 9) Try.func49 #[L A0_0 l0_0.length c0_0,L A1_0 l1_0.length c1_0] ?_;(with_reducible refine(laws_eqJobS.calls k _ _ l0_0 _ _ l1_0 true _ ?side1 ?side2 ?side3 ?side4 A2.out).mono ?_);(case side1=>exact uC (Z HR1_0.out HB.out));(case side2=>exact HC1_0.out);(case side3=>exact uC (Z HR2_0.out HB.out));(case side4=>exact HC2_0.out);rintro e w3 ⟨rfl,hb⟩;refine⟨_,rfl,?_⟩;replace BK1:=eK BK1 hb;replace BK2:=eK BK2 hb;replace HB:=eB hb;clear hb;have h_:=d14 BK1.out;(repeat(obtain⟨_,h_⟩:=h_));have h_:=d14 BK2.out;(repeat(obtain⟨_,h_⟩:=h_)))|((with_reducible refine F (f:=50) rfl ?_);refine gl 50 (some 15) Try.func50 #[G #[V I a0_1,V I a0_2,V I a0_3,O a0_4,V I a0_5,O a0_6],G #[V I a1_1,V I a1_2,V I a1_3,O a1_4,V I a1_5,O a1_6]] ?_;(with_reducible refine(laws_eqJob.calls a0_1 a0_2 a0_3 a0_4 a0_5 a0_6 a1_1 a1_2 a1_3 a1_4 a1_5 a1_6 false _ A3.out).mono ?_);rintro e w4 ⟨rfl,hb⟩;refine⟨_,rfl,?_⟩;replace BK1:=eK BK1 hb;replace BK2:=eK BK2 hb;replace HB:=eB hb;clear hb))
   go_ret
   exact⟨rE,uB⟩
 ·replace c2:=Bool.eq_false_iff.mpr c2
  subst c2
  rw[if_neg Bool.false_ne_true]at H
  obtain rfl:=Option.some.inj H
  go_enter Try.func13,Try.ntmps13
  go_wp2_with (first|((with_reducible refine J (N:=2) rfl ?_);refine Fix.be 2 #[L A0_0 l0_0.length c0_0,V I a0_1,V I a0_2,V I a0_3,O a0_4,V I a0_5,O a0_6,V I a0_7,V I a0_8,L A0_9 l0_9.length c0_9,L A0_10 l0_10.length c0_10,V I a0_11,O a0_12,V I a0_13] 36 ?_;intro gb1 hg w1 BK1 hb;have GW1:D (w.heap.size≤gb1):=gE hg;have GE1:=GW1;replace HB:=eB hb;clear hb hg)|((with_reducible refine J (N:=3) rfl ?_);refine Fix.be 3 #[L A1_0 l1_0.length c1_0,V I a1_1,V I a1_2,V I a1_3,O a1_4,V I a1_5,O a1_6,V I a1_7,V I a1_8,L A1_9 l1_9.length c1_9,L A1_10 l1_10.length c1_10,V I a1_11,O a1_12,V I a1_13] 36 ?_;intro gb2 hg w2 BK2 hb;have GW2:D (w.heap.size≤gb2):=gE hg;have GE2:=GW2;have NB1_169:=nL hg BK1;have NB2_168:=nG hg BK1;replace BK1:=eK BK1 hb;replace HB:=eB hb;clear hb hg;have hnb1:=NB1_169.out;have hnc1:=NB2_168.out;have h_:=d14 BK1.out;(repeat(obtain⟨_,h_⟩:=h_));have h_:=d14 BK2.out;(repeat(obtain⟨_,h_⟩:=h_)))|((with_reducible refine F (f:=49) rfl ?_);refine gl 49 (some 9) Try.func49 #[L A0_0 l0_0.length c0_0,L A1_0 l1_0.length c1_0] ?_;(with_reducible refine(laws_eqJobS.calls k _ _ l0_0 _ _ l1_0 false _ ?side1 ?side2 ?side3 ?side4 A2.out).mono ?_);(case side1=>exact uC (Z HR1_0.out HB.out));(case side2=>exact HC1_0.out);(case side3=>exact uC (Z HR2_0.out HB.out));(case side4=>exact HC2_0.out);rintro e w3 ⟨rfl,hb⟩;refine⟨_,rfl,?_⟩;replace BK1:=eK BK1 hb;replace BK2:=eK BK2 hb;replace HB:=eB hb;clear hb))
  go_ret
  exact⟨rE,uB⟩
def impl_within.f (a0:Int) (a1:Int) (a2:Int):Option (Bool):=if a0 ≥ a1 then(some (decide (a0≤a2))) else(some false)
theorem impl_within.W1 {p:Prop} (h:p:=by
  go_enter Try.func46,Try.ntmps46
  go_wp2
  go_ret
  exact⟨by first|rfl|(simp;done)|(simp[*];done),by repeat(first|exact Drawn0.refl _|apply Drawn0.step)⟩):p:=h
set_option maxHeartbeats 40000000 in
set_option maxRecDepth 100000 in
theorem impl_within.calls (a0:Int) (a1:Int) (a2:Int) (r:Bool) (w:World) (h:impl_within.f a0 a1 a2=some r):
  Calls Try.prog 46 #[V I a0,V I a1,V I a2] w fun e w'=>e=.returned (O r)∧Drawn0 w w':=by
 have H:=h
 unfold impl_within.f at H
 clear h
 by_cases c1:a0 ≥ a1
 ·rw[if_pos c1]at H
  have c1b0:decide (a1≤a0)=true:=decide_eq_true c1
  clear c1
  obtain rfl:=Option.some.inj H
  exact impl_within.W1
 ·rw[if_neg c1]at H
  have c1b0:decide (a1≤a0)=false:=decide_eq_false c1
  clear c1
  obtain rfl:=Option.some.inj H
  exact impl_within.W1
def impl_JobOk.f (a0_0:Int) (a0_1:Int) (a0_2:Int) (a0_3:Bool) (a0_4:Int) (a0_5:Bool):Option (Bool):=(impl_within.f a0_0 1 9999).bind fun t174=>(if t174=true then((impl_within.f a0_1 1 64).bind fun t175=>(if t175=true then((impl_within.f a0_2 1 20).bind fun t176=>(if t176=true then((impl_within.f a0_4 0 9).bind fun t177=>(some t177)) else(some false))) else(some false))) else(some false))
theorem impl_JobOk.W1 {p:Prop} (h:p:=by
  go_enter Try.func47,Try.ntmps47
  go_wp2_with (first|((with_reducible refine J (N:=1) rfl ?_);refine Fix.be 1 #[V I a0_0,V I a0_1,V I a0_2,O a0_3,V I a0_4,O a0_5] 33 ?_;intro gb1 hg w1 BK1 hb;have GW1:D (w.heap.size≤gb1):=gE hg;have GE1:=GW1;replace HB:=eB hb;clear hb hg;have h_:=d6 BK1.out;(repeat(obtain⟨_,h_⟩:=h_)))|((with_reducible refine F (f:=46) rfl ?_);refine gl 46 (some 5) Try.func46 #[V I a0_0,V I 1,V I 9999] ?_;(with_reducible refine(impl_within.calls a0_0 1 9999 true _ A1.out).mono ?_);rintro e w' ⟨rfl,⟨nd,rfl⟩⟩;refine⟨_,rfl,?_⟩)|(go_at_call 46;(with_reducible refine(impl_within.calls a0_1 1 64 true _ A2.out).mono ?_);rintro e w' ⟨rfl,⟨nd,rfl⟩⟩)|(go_at_call 46;(with_reducible refine(impl_within.calls a0_2 1 20 true _ A3.out).mono ?_);rintro e w' ⟨rfl,⟨nd,rfl⟩⟩)|(go_at_call 46;(with_reducible refine(impl_within.calls a0_4 0 9 t4 _ A4.out).mono ?_);rintro e w' ⟨rfl,⟨nd,rfl⟩⟩)|(go_at_call 46;(with_reducible refine(impl_within.calls a0_2 1 20 false _ A3.out).mono ?_);rintro e w' ⟨rfl,⟨nd,rfl⟩⟩))
  go_ret
  exact⟨rE,uB⟩):p:=h
set_option maxHeartbeats 40000000 in
set_option maxRecDepth 100000 in
theorem impl_JobOk.calls (a0_0:Int) (a0_1:Int) (a0_2:Int) (a0_3:Bool) (a0_4:Int) (a0_5:Bool) (r:Bool) (w:World) (h:impl_JobOk.f a0_0 a0_1 a0_2 a0_3 a0_4 a0_5=some r):
  Calls Try.prog 47 #[G #[V I a0_0,V I a0_1,V I a0_2,O a0_3,V I a0_4,O a0_5]] w fun e w'=>e=.returned (O r)∧Below w.heap.size w w':=by
 have hu1:=Try.underlying33
 have HB:=C (Below.refl w.heap.size w)
 have H:=h
 unfold impl_JobOk.f at H
 clear h
 obtain⟨t1,A1,H⟩:=bnd H
 by_cases c1:t1=true
 ·subst c1
  rw[if_pos rfl]at H
  obtain⟨t2,A2,H⟩:=bnd H
  by_cases c2:t2=true
  ·subst c2
   rw[if_pos rfl]at H
   obtain⟨t3,A3,H⟩:=bnd H
   by_cases c3:t3=true
   ·subst c3
    rw[if_pos rfl]at H
    obtain⟨t4,A4,H⟩:=bnd H
    obtain rfl:=Option.some.inj H
    exact impl_JobOk.W1
   ·replace c3:=Bool.eq_false_iff.mpr c3
    subst c3
    rw[if_neg Bool.false_ne_true]at H
    obtain rfl:=Option.some.inj H
    exact impl_JobOk.W1
  ·replace c2:=Bool.eq_false_iff.mpr c2
   subst c2
   rw[if_neg Bool.false_ne_true]at H
   obtain rfl:=Option.some.inj H
   go_enter Try.func47,Try.ntmps47
   go_wp2_with (first|((with_reducible refine J (N:=1) rfl ?_);refine Fix.be 1 #[V I a0_0,V I a0_1,V I a0_2,O a0_3,V I a0_4,O a0_5] 33 ?_;intro gb1 hg w1 BK1 hb;have GW1:D (w.heap.size≤gb1):=gE hg;have GE1:=GW1;replace HB:=eB hb;clear hb hg;obtain⟨hcz1_0,hcz1_1,hcz1_2,hcz1_3,hcz1_4,hcz1_5,hfz1_0,hfz1_1,hfz1_2,hfz1_3,hfz1_4,hfz1_5⟩:=d6 BK1.out)|((with_reducible refine F (f:=46) rfl ?_);refine gl 46 (some 5) Try.func46 #[V I a0_0,V I 1,V I 9999] ?_;(with_reducible refine(impl_within.calls a0_0 1 9999 true _ A1.out).mono ?_);rintro e w' ⟨rfl,⟨nd,rfl⟩⟩;refine⟨_,rfl,?_⟩)|(go_at_call 46;(with_reducible refine(impl_within.calls a0_1 1 64 false _ A2.out).mono ?_);rintro e w' ⟨rfl,⟨nd,rfl⟩⟩))
   go_ret
   exact⟨rE,uB⟩
 ·replace c1:=Bool.eq_false_iff.mpr c1
  subst c1
  rw[if_neg Bool.false_ne_true]at H
  obtain rfl:=Option.some.inj H
  go_enter Try.func47,Try.ntmps47
  go_wp2_with (first|((with_reducible refine J (N:=1) rfl ?_);refine Fix.be 1 #[V I a0_0,V I a0_1,V I a0_2,O a0_3,V I a0_4,O a0_5] 33 ?_;intro gb1 hg w1 BK1 hb;have GW1:D (w.heap.size≤gb1):=gE hg;have GE1:=GW1;replace HB:=eB hb;clear hb hg;obtain⟨hcz1_0,hcz1_1,hcz1_2,hcz1_3,hcz1_4,hcz1_5,hfz1_0,hfz1_1,hfz1_2,hfz1_3,hfz1_4,hfz1_5⟩:=d6 BK1.out)|((with_reducible refine F (f:=46) rfl ?_);refine gl 46 (some 5) Try.func46 #[V I a0_0,V I 1,V I 9999] ?_;(with_reducible refine(impl_within.calls a0_0 1 9999 false _ A1.out).mono ?_);rintro e w' ⟨rfl,⟨nd,rfl⟩⟩;refine⟨_,rfl,?_⟩))
  go_ret
  exact⟨rE,uB⟩
set_option maxHeartbeats 40000000 in
set_option maxRecDepth 100000 in
theorem impl_jobAt_1.calls (a0 a1 a2:Int) (a3:Bool) (a4:Int) (a5:Bool) (b:Int) (g:Nat) (w:World) (hg:w.cell? ⟨g,0,none⟩=some (V I b)):
  Calls Try.prog 102 #[G #[V I a0,V I a1,V I a2,O a3,V I a4,O a5],.pointer (some ⟨g,0,none⟩)] w fun e w'=>e=.returned (O (a0==b))∧Below w.heap.size w w':=by
 have hu1:=Try.underlying33
 have HG:=C hg
 clear hg
 have HB:=C (Below.refl w.heap.size w)
 go_enter Try.func102,Try.ntmps102
 go_wp2_with (first|((with_reducible refine J (N:=2) rfl ?_);refine box_event ?hg (N:=2) ?hd (cs:= #[V I a0,V I a1,V I a2,O a3,V I a4,O a5]) (t:=33) ?hr ?_;(case hd=>rfl);(case hg=>rfl);(case hr=>exact Fix.hr);intro gb hg w1 hbox hb;have n0_:=eB hb;have n1_:=C hbox;have n3_:=(hb.cell (World.block_lt_of_cell? w _ HG.out)).trans HG.out;clear HB;have HB:=n0_;have BK:=n1_;clear n0_ n1_;clear hb hbox hg;have h_:=d6 BK.out;(repeat(obtain⟨_,h_⟩:=h_))))
 go_ret
 exact⟨by first|rfl|(simp;done)|(simp[*];done),uB⟩
def jobIdx:List S33→Int→Int→Int
 | [],_,_=> -1
 |y::ys,b,i=>if y.f0=b then i else jobIdx ys b (i+1)
theorem jobIdx_drop (l:List S33) (b i:Int) (h0:0≤i) (h1:i<(l.length:Int)):jobIdx (l.drop i.toNat) b i=if(rd_T33 l i).f0=b then i else jobIdx (l.drop (i+1).toNat) b (i+1):=by
 have hlt:i.toNat<l.length:=by omega
 rw[List.drop_eq_getElem_cons hlt,show(i+1).toNat=i.toNat+1 by omega]
 show(if(l[i.toNat]).f0=b then _ else _)=_
 simp[rd_T33,List.getD,List.getElem?_eq_getElem hlt]
set_option maxHeartbeats 40000000 in
set_option maxRecDepth 100000 in
theorem IndexFunc.calls (A0:Option Addr) (c0:Nat) (l0:List (S33)) (b:Int) (g:Nat) (w:World) (hr0:Kd.C k33 w A0 l0.length l0) (hc0:l0.length≤c0) (hl:l0.length<4611686018427387904) (hg:w.cell? ⟨g,0,none⟩=some (V I b)):
  Calls Try.prog 101 #[L A0 l0.length c0,.func (.func 102) #[] #[.pointer (some ⟨g,0,none⟩)]] w fun e w'=>e=.returned (V I (jobIdx l0 b 0))∧Below w.heap.size w w':=by
 obtain⟨r,hr⟩:∃r,r=jobIdx l0 b 0:=⟨_,rfl⟩
 rw[←hr]
 have hu33:=Try.underlying33
 have HR0:=C hr0
 have HL:=C hl
 have HG:=C hg
 have HX:=C hr
 clear hg hr0 hr hc0 hl
 have HB:=C (Below.refl w.heap.size w)
 go_enter Try.func101,Try.ntmps101
 go_wp2
 go_loopg [8] (l0.length+1) (fun kq v8 w'=>∃(x8_1:Int),v8=V I x8_1∧D (0≤x8_1∧x8_1≤l0.length∧x8_1+kq=l0.length+1)∧D (jobIdx (l0.drop x8_1.toNat) b x8_1=r)∧D (Below w.heap.size w w'))
 case atStart=>exact⟨0,rS,⟨by omega⟩,⟨by simpa using HX.out.symm⟩,⟨uB⟩⟩
 case round=>
  obtain⟨x8_1,rfl,HI,HJ,HB⟩:=hrel
  cases gk with
  |zero=>exact absurd HI.out.2 (by omega)
  |succ k1=>
   by_cases c3:x8_1<(l0.length:Int)
   ·have c4:=HI.out.1
    have H:=HJ.out
    rw[jobIdx_drop l0 b x8_1 c4 c3]at H
    clear HJ
    obtain⟨ad,ead,hx0,hx1,hx2,hx3,hx4,hx5⟩:=at_T33 HR0.out x8_1 c4 c3
    cases ead
    replace hx0:=hx HB hx0
    replace hx1:=hx HB hx1
    replace hx2:=hx HB hx2
    replace hx3:=hx HB hx3
    replace hx4:=hx HB hx4
    replace hx5:=hx HB hx5
    have hgw:=C ((HB.out.cell (World.block_lt_of_cell? w _ HG.out)).trans HG.out)
    have p1:=eq_true c4
    have q1:=eq_true c3
    have c3b0:decide (x8_1<(l0.length:Int))=true:=decide_eq_true c3
    have c4b0:decide (0≤x8_1)=true:=decide_eq_true c4
    have hw1:wrap64 (x8_1+1)=x8_1+1:=by have:=HL.out;unfold wrap64;omega
    have HW:=C hw1
    clear c3 c4 hw1
    by_cases c5:(rd_T33 l0 x8_1).f0=b
    ·rw[if_pos c5]at H
     have c5b:((rd_T33 l0 x8_1).f0==b)=true:=beq_iff_eq.mpr c5
     have HH:=C H
     clear c5 H
     go_wp2_with (first|((with_reducible refine Ext.gate_tmp (t:=11) rfl ?_);refine Ext.goesC_ (t:=11) (f:=102) (some 16) rfl rfl Try.func102 (by kernel_rfl) rfl _ (.tmp 15) rfl rfl rfl ?_;refine(impl_jobAt_1.calls _ _ _ _ _ _ b g _ hgw.out).mono ?_;rintro e w9 ⟨rfl,hb⟩;refine⟨_,rfl,?_⟩;have n0_:=C (below_step HB.out hb);clear HB;have HB:=n0_;clear n0_ hb))
     go_ret
     exact⟨by rw[HH.out];rfl,HB.out⟩
    ·rw[if_neg c5]at H
     have c5b:((rd_T33 l0 x8_1).f0==b)=false:=beq_eq_false_iff_ne.mpr c5
     clear c5
     have HJ:=C H
     clear H
     go_wp2_with (first|((with_reducible refine Ext.gate_tmp (t:=11) rfl ?_);refine Ext.goesC_ (t:=11) (f:=102) (some 16) rfl rfl Try.func102 (by kernel_rfl) rfl _ (.tmp 15) rfl rfl rfl ?_;refine(impl_jobAt_1.calls _ _ _ _ _ _ b g _ hgw.out).mono ?_;rintro e w9 ⟨rfl,hb⟩;refine⟨_,rfl,?_⟩;have n0_:=C (below_step HB.out hb);clear HB;have HB:=n0_;clear n0_ hb))
     go_roundg k1
     case measure=>omega
     case rel=>exact⟨x8_1+1,(by rw[HW.out]),⟨by have:=HI.out;have:=of_eq_true q1;omega⟩,HJ,HB⟩
   ·have H:=HJ.out
    rw[show l0.drop x8_1.toNat= [] from List.drop_eq_nil_of_le (by have:=HI.out;omega)]at H
    have c3b0:decide (x8_1<(l0.length:Int))=false:=decide_eq_false c3
    have HH:=C H
    clear c3 H HJ
    go_wp2
    go_ret
    exact⟨by rw[←HH.out];rfl,HB.out⟩
def impl_jobAt.f (l0:List S33) (a1:Int):Option Int:=if l0.length<4611686018427387904 then some (jobIdx l0 a1 0) else none
set_option maxHeartbeats 40000000 in
set_option maxRecDepth 100000 in
theorem impl_jobAt.calls (A0:Option Addr) (c0:Nat) (l0:List (S33)) (a1:Int) (r:Int) (w:World) (hr0:Kd.C k33 w A0 l0.length l0) (hc0:l0.length≤c0) (h:impl_jobAt.f l0 a1=some r):
  Calls Try.prog 85 #[L A0 l0.length c0,V I a1] w fun e w'=>e=.returned (V I r)∧Below w.heap.size w w':=by
 unfold impl_jobAt.f at h
 by_cases hl:l0.length<4611686018427387904
 ·rw[if_pos hl]at h
  obtain rfl:=Option.some.inj h
  have HR1:=C hr0
  have HC1:=C hc0
  have HL:=C hl
  clear hr0 hc0 hl h
  have HB:=C (Below.refl w.heap.size w)
  go_enter Try.func85,Try.ntmps85
  go_wp2_with (first|((with_reducible refine J (N:=3) rfl ?_);refine box_event ?hg (N:=3) ?hd (cs:= #[V I a1]) (t:=3) ?hr ?_;(case hd=>rfl);(case hg=>rfl);(case hr=>exact Fix.hr);intro gb hg w1 hbox hb;have BK:=C ((blk_cell hbox 0).trans rfl:w1.cell? ⟨gb,0,none⟩=some (V I a1));replace HB:=eB hb;clear hb hbox hg)|(go_at_call 101;refine(IndexFunc.calls _ _ l0 a1 gb _ (Z HR1.out HB.out) HC1.out HL.out BK.out).mono ?_;rintro e w2 ⟨rfl,hb⟩;have n0_:=C (below_step HB.out hb);clear HB;have HB:=n0_;clear n0_ hb))
  go_ret
  exact⟨rfl,HB.out⟩
 ·rw[if_neg hl]at h
  exact absurd h (by simp)
def impl_JobsOk.l0:Nat→List (S33)→List (S33)→Int→Int→Option (Bool)
 |0,_,_,_,_=>none
 |k+1,x0,x8,x9,x10=>if x10<x9 then(if 0≤x10 then(if x10<(x8.length:Int) then((impl_JobOk.f ((rd_T33 x8 x10).f0) ((rd_T33 x8 x10).f1) ((rd_T33 x8 x10).f2) ((rd_T33 x8 x10).f3) ((rd_T33 x8 x10).f4) ((rd_T33 x8 x10).f5)).bind fun t181=>(if t181=true then((impl_jobAt.f x0 ((rd_T33 x8 x10).f0)).bind fun t182=>(if t182=x10 then(impl_JobsOk.l0 k x0 x8 x9 (wrap64 (x10+1))) else(some false))) else(some false))) else(none)) else(none)) else(some true)
def impl_JobsOk.f (k:Nat) (l0:List (S33)):Option (Bool):=if(l0.length:Int) >12 then(some false) else(impl_JobsOk.l0 k l0 l0 (l0.length:Int) 0)
theorem impl_JobsOk.mono_l:∀k,(∀y0 y1 y2 y3,LeO (impl_JobsOk.l0 k y0 y1 y2 y3) (impl_JobsOk.l0 (k+1) y0 y1 y2 y3))
 |0=>fun _ _ _ _ r h=>by simp[impl_JobsOk.l0]at h
 |k+1=>by
  have ih0:=impl_JobsOk.mono_l k
  ·intro y0 y1 y2 y3
   unfold impl_JobsOk.l0
   repeat' first|(with_reducible first|apply ih0|exact LeO.refl _|exact LeO.none _|refine LeO.ite ?_ ?_|refine LeO.bind ?_ (fun _=> ?_))|apply ih0|exact LeO.none _|refine LeO.ite ?_ ?_|refine LeO.bind ?_ (fun _=> ?_)
theorem impl_JobsOk.mono:∀a0 k,LeO (impl_JobsOk.f k a0) (impl_JobsOk.f (k+1) a0):=by
 intro a0 k
 have ih0:=impl_JobsOk.mono_l k
 unfold impl_JobsOk.f
 repeat' first|(with_reducible first|apply ih0|exact LeO.refl _|exact LeO.none _|refine LeO.ite ?_ ?_|refine LeO.bind ?_ (fun _=> ?_))|apply ih0|exact LeO.none _|refine LeO.ite ?_ ?_|refine LeO.bind ?_ (fun _=> ?_)
set_option maxHeartbeats 40000000 in
set_option maxRecDepth 100000 in
theorem impl_JobsOk.calls (k:Nat) (A0:Option Addr) (c0:Nat) (l0:List (S33)) (r:Bool) (w:World) (hr0:Kd.C k33 w A0 l0.length l0) (hc0:l0.length≤c0) (h:impl_JobsOk.f k l0=some r):
  Calls Try.prog 44 #[L A0 l0.length c0] w fun e w'=>e=.returned (O r)∧Below w.heap.size w w':=by
 have hu1:=Try.underlying33
 have HR1:=C hr0
 have HC1:=C hc0
 (try clear hr0);(try clear hc0)
 have HB:=C (Below.refl w.heap.size w)
 have H:=h
 unfold impl_JobsOk.f at H
 clear h
 by_cases c1:(l0.length:Int) >12
 ·rw[if_pos c1]at H
  have c1b0:decide (12<(l0.length:Int))=true:=decide_eq_true c1
  have c1b1:decide (12<l0.length)=true:=decide_eq_true (by omega)
  clear c1
  obtain rfl:=Option.some.inj H
  go_enter Try.func44,Try.ntmps44
  go_wp2
  go_ret
  exact⟨rE,uB⟩
 ·rw[if_neg c1]at H
  have c1b0:decide (12<(l0.length:Int))=false:=decide_eq_false c1
  have c1b1:decide (12<l0.length)=false:=decide_eq_false (by omega)
  clear c1
  have H':=C H
  clear H
  go_enter Try.func44,Try.ntmps44
  go_wp2
  go_loopg [10] k (fun kq v10 w'=>∃(x1_1:Int),v10=V I x1_1∧D (impl_JobsOk.l0 kq l0 l0 (l0.length:Int) x1_1=some r)∧D (kq≤k)∧D (Below w.heap.size w w'))
  case atStart=>exact⟨(0),rS,H',⟨Nat.le_refl _⟩,⟨uB⟩⟩
  case round=>
   clear H'
   obtain⟨x1_1,rfl,HA,HK1,HB⟩:=hrel
   cases gk with
   |zero=>exact absurd HA.out (by simp[impl_JobsOk.l0])
   |succ k1=>
    have H:=HA.out
    clear HA
    simp only[impl_JobsOk.l0]at H
    by_cases c2:x1_1<(l0.length:Int)
    ·rw[if_pos c2]at H
     have c2b0:decide (x1_1<(l0.length:Int))=true:=decide_eq_true c2
     clear c2
     by_cases c3:0≤x1_1
     ·rw[if_pos c3]at H
      have c3b0:decide (0≤x1_1)=true:=decide_eq_true c3
      clear c3
      by_cases c4:x1_1<(l0.length:Int)
      ·rw[if_pos c4]at H
       have c4b0:decide (x1_1<(l0.length:Int))=true:=decide_eq_true c4
       clear c4
       obtain⟨t1,A1,H⟩:=bnd H
       by_cases c5:t1=true
       ·subst c5
        rw[if_pos rfl]at H
        obtain⟨t2,A2,H⟩:=bnd H
        by_cases c6:t2=x1_1
        ·rw[if_pos c6]at H
         have c6b0:(t2==x1_1)=true:=beq_iff_eq.mpr c6
         have c6b1:(t2 !=x1_1)=false:=bne_eq_false_iff_eq.mpr c6
         clear c6
         have H':=C H
         clear H
         have p1:0≤(x1_1:Int):=of_decide_eq_true (by first|(with_reducible assumption)|assumption)
         have q1:x1_1<(l0.length:Int):=of_decide_eq_true (by first|(with_reducible assumption)|assumption)
         obtain⟨ad1,e1,hx1_0,hx1_1,hx1_2,hx1_3,hx1_4,hx1_5⟩:=at_T33 HR1.out x1_1 p1 q1
         cases e1
         replace hx1_0:=hx HB hx1_0
         replace hx1_1:=hx HB hx1_1
         replace hx1_2:=hx HB hx1_2
         replace hx1_3:=hx HB hx1_3
         replace hx1_4:=hx HB hx1_4
         replace hx1_5:=hx HB hx1_5
         replace p1:=eq_true p1
         replace q1:=eq_true q1
         go_wp2_with (first|((with_reducible refine J (N:=4) rfl ?_);refine Fix.be 4 #[V I 0,V I 0,V I 0,O false,V I 0,O false] 33 ?_;intro gb1 hg w1 BK1 hb;have GW1:D (w.heap.size≤gb1):=gE hg;have GE1:=GW1;replace HB:=eB hb;clear hb hg;have h_:=d6 BK1.out;(repeat(obtain⟨_,h_⟩:=h_)))|((with_reducible refine F (f:=47) rfl ?_);refine gl 47 (some 16) Try.func47 #[G #[V I ((rd_T33 l0 x1_1).f0),V I ((rd_T33 l0 x1_1).f1),V I ((rd_T33 l0 x1_1).f2),O ((rd_T33 l0 x1_1).f3),V I ((rd_T33 l0 x1_1).f4),O ((rd_T33 l0 x1_1).f5)]] ?_;(with_reducible refine(impl_JobOk.calls ((rd_T33 l0 x1_1).f0) ((rd_T33 l0 x1_1).f1) ((rd_T33 l0 x1_1).f2) ((rd_T33 l0 x1_1).f3) ((rd_T33 l0 x1_1).f4) ((rd_T33 l0 x1_1).f5) true _ A1.out).mono ?_);rintro e w2 ⟨rfl,hb⟩;refine⟨_,rfl,?_⟩;replace BK1:=C (blk_below (g:=gb1) (o:=.cells #[V I ((rd_T33 l0 x1_1).f0),V I ((rd_T33 l0 x1_1).f1),V I ((rd_T33 l0 x1_1).f2),O ((rd_T33 l0 x1_1).f3),V I ((rd_T33 l0 x1_1).f4),O ((rd_T33 l0 x1_1).f5)] 33 (0,0)) (bK BK1.out) hb);replace HB:=eB hb;clear hb;obtain⟨hcz1_0,hcz1_1,hcz1_2,hcz1_3,hcz1_4,hcz1_5,hfz1_0,hfz1_1,hfz1_2,hfz1_3,hfz1_4,hfz1_5⟩:=d6 BK1.out)|(go_at_call 85;(with_reducible refine(impl_jobAt.calls _ _ l0 ((rd_T33 l0 x1_1).f0) t2 _ ?side1 ?side2 A2.out).mono ?_);(case side1=>exact uC (Z HR1.out HB.out));(case side2=>exact HC1.out);rintro e w3 ⟨rfl,hb⟩;replace BK1:=eK BK1 hb;replace HB:=eB hb;clear hb))
         go_roundg k1
         case measure=>have:=HK1.out;omega
         case rel=>exact⟨(wrap64 (x1_1+1)),rS,H',⟨by have:=HK1.out;omega⟩,⟨uB⟩⟩
        ·rw[if_neg c6]at H
         have c6b0:(t2==x1_1)=false:=beq_eq_false_iff_ne.mpr c6
         have c6b1:(t2 !=x1_1)=true:=bne_iff_ne.mpr c6
         obtain rfl:=Option.some.inj H
         have p1:0≤(x1_1:Int):=of_decide_eq_true (by first|(with_reducible assumption)|assumption)
         have q1:x1_1<(l0.length:Int):=of_decide_eq_true (by first|(with_reducible assumption)|assumption)
         obtain⟨ad1,e1,hx1_0,hx1_1,hx1_2,hx1_3,hx1_4,hx1_5⟩:=at_T33 HR1.out x1_1 p1 q1
         cases e1
         replace hx1_0:=hx HB hx1_0
         replace hx1_1:=hx HB hx1_1
         replace hx1_2:=hx HB hx1_2
         replace hx1_3:=hx HB hx1_3
         replace hx1_4:=hx HB hx1_4
         replace hx1_5:=hx HB hx1_5
         replace p1:=eq_true p1
         replace q1:=eq_true q1
         go_wp2_with (first|((with_reducible refine J (N:=4) rfl ?_);refine Fix.be 4 #[V I 0,V I 0,V I 0,O false,V I 0,O false] 33 ?_;intro gb1 hg w1 BK1 hb;have GW1:D (w.heap.size≤gb1):=gE hg;have GE1:=GW1;replace HB:=eB hb;clear hb hg;obtain⟨hcz1_0,hcz1_1,hcz1_2,hcz1_3,hcz1_4,hcz1_5,hfz1_0,hfz1_1,hfz1_2,hfz1_3,hfz1_4,hfz1_5⟩:=d6 BK1.out)|((with_reducible refine F (f:=47) rfl ?_);refine gl 47 (some 16) Try.func47 #[G #[V I ((rd_T33 l0 x1_1).f0),V I ((rd_T33 l0 x1_1).f1),V I ((rd_T33 l0 x1_1).f2),O ((rd_T33 l0 x1_1).f3),V I ((rd_T33 l0 x1_1).f4),O ((rd_T33 l0 x1_1).f5)]] ?_;(with_reducible refine(impl_JobOk.calls ((rd_T33 l0 x1_1).f0) ((rd_T33 l0 x1_1).f1) ((rd_T33 l0 x1_1).f2) ((rd_T33 l0 x1_1).f3) ((rd_T33 l0 x1_1).f4) ((rd_T33 l0 x1_1).f5) true _ A1.out).mono ?_);rintro e w2 ⟨rfl,hb⟩;refine⟨_,rfl,?_⟩;replace BK1:=C (blk_below (g:=gb1) (o:=.cells #[V I ((rd_T33 l0 x1_1).f0),V I ((rd_T33 l0 x1_1).f1),V I ((rd_T33 l0 x1_1).f2),O ((rd_T33 l0 x1_1).f3),V I ((rd_T33 l0 x1_1).f4),O ((rd_T33 l0 x1_1).f5)] 33 (0,0)) (bK BK1.out) hb);replace HB:=eB hb;clear hb;have h_:=d6 BK1.out;(repeat(obtain⟨_,h_⟩:=h_)))|(go_at_call 85;(with_reducible refine(impl_jobAt.calls _ _ l0 ((rd_T33 l0 x1_1).f0) t2 _ ?side1 ?side2 A2.out).mono ?_);(case side1=>exact uC (Z HR1.out HB.out));(case side2=>exact HC1.out);rintro e w3 ⟨rfl,hb⟩;replace BK1:=eK BK1 hb;replace HB:=eB hb;clear hb))
         go_ret
         exact⟨rE,uB⟩
       ·replace c5:=Bool.eq_false_iff.mpr c5
        subst c5
        rw[if_neg Bool.false_ne_true]at H
        obtain rfl:=Option.some.inj H
        have p1:0≤(x1_1:Int):=of_decide_eq_true (by first|(with_reducible assumption)|assumption)
        have q1:x1_1<(l0.length:Int):=of_decide_eq_true (by first|(with_reducible assumption)|assumption)
        obtain⟨ad1,e1,hx1_0,hx1_1,hx1_2,hx1_3,hx1_4,hx1_5⟩:=at_T33 HR1.out x1_1 p1 q1
        cases e1
        replace hx1_0:=hx HB hx1_0
        replace hx1_1:=hx HB hx1_1
        replace hx1_2:=hx HB hx1_2
        replace hx1_3:=hx HB hx1_3
        replace hx1_4:=hx HB hx1_4
        replace hx1_5:=hx HB hx1_5
        replace p1:=eq_true p1
        replace q1:=eq_true q1
        go_wp2_with (first|((with_reducible refine J (N:=4) rfl ?_);refine Fix.be 4 #[V I 0,V I 0,V I 0,O false,V I 0,O false] 33 ?_;intro gb1 hg w1 BK1 hb;have GW1:D (w.heap.size≤gb1):=gE hg;have GE1:=GW1;replace HB:=eB hb;clear hb hg;have h_:=d6 BK1.out;(repeat(obtain⟨_,h_⟩:=h_)))|((with_reducible refine F (f:=47) rfl ?_);refine gl 47 (some 16) Try.func47 #[G #[V I ((rd_T33 l0 x1_1).f0),V I ((rd_T33 l0 x1_1).f1),V I ((rd_T33 l0 x1_1).f2),O ((rd_T33 l0 x1_1).f3),V I ((rd_T33 l0 x1_1).f4),O ((rd_T33 l0 x1_1).f5)]] ?_;(with_reducible refine(impl_JobOk.calls ((rd_T33 l0 x1_1).f0) ((rd_T33 l0 x1_1).f1) ((rd_T33 l0 x1_1).f2) ((rd_T33 l0 x1_1).f3) ((rd_T33 l0 x1_1).f4) ((rd_T33 l0 x1_1).f5) false _ A1.out).mono ?_);rintro e w2 ⟨rfl,hb⟩;refine⟨_,rfl,?_⟩;replace BK1:=C (blk_below (g:=gb1) (o:=.cells #[V I ((rd_T33 l0 x1_1).f0),V I ((rd_T33 l0 x1_1).f1),V I ((rd_T33 l0 x1_1).f2),O ((rd_T33 l0 x1_1).f3),V I ((rd_T33 l0 x1_1).f4),O ((rd_T33 l0 x1_1).f5)] 33 (0,0)) (bK BK1.out) hb);replace HB:=eB hb;clear hb))
        go_ret
        exact⟨rE,uB⟩
      ·rw[if_neg c4]at H
       exact absurd H (by simp)
     ·rw[if_neg c3]at H
      exact absurd H (by simp)
    ·rw[if_neg c2]at H
     have c2b0:decide (x1_1<(l0.length:Int))=false:=decide_eq_false c2
     clear c2
     obtain rfl:=Option.some.inj H
     go_wp2
     go_ret
     exact⟨rE,uB⟩
set_option maxHeartbeats 40000000 in
set_option maxRecDepth 100000 in
theorem slices_Grow_int_int.ofnil (n:Int) (w:World) (h0:0≤n) (h1:n≤17592186044415):
  Calls Try.prog 103 #[L none 0 0,V I n] w fun e w'=>∃v:Value,e=.returned v∧Kd.R (Kd.int .i64) 3 w' w.heap.size (fun _=>True) v []∧Below w.heap.size w w':=by
 have c1:decide (n<0)=false:=decide_eq_false (by omega)
 by_cases hz:n=0
 ·subst hz
  go_enter Try.func103,Try.ntmps103
  go_wp2
  go_ret
  exact⟨_,rfl,Kd.R_nil _ _ _ _ _,Below.refl _ _⟩
 ·have c2:decide (0<n)=true:=decide_eq_true (by omega)
  have hn:=C h0
  have hn1:=C h1
  go_enter Try.func103,Try.ntmps103
  go_wp2_with ((with_reducible refine gate_builtin (b:=.append) (xs:= #[.tmp 20,.tmp 21]) rfl ?_);at_builtin;refine Kd.R_append_zeros (Kd.int .i64) (w0:=w) w.heap.size rfl (.tmp 20) (.tmp 21) 25 3 3 (V I 0) 8 rfl Try.underlying25 Try.underlying3 info3 rfl (by decide) (by omega) (L none 0 0) [] 0 n (fun _=>True) rfl rfl ?aZ (fun _ _=>trivial) (Kd.R_nil _ _ _ _ _) hn.out (Below.refl _ _) (Nat.le_refl _) ?aL ?_;(case aZ=>rfl);(case aL=>have:=hn1.out;simp;omega);intro v1 w1 hR hb hg hat;clear hg hat;obtain⟨A,c,rfl⟩:=Kd.R_slice hR;have HR:=C hR;have HB:=C hb;clear hR hb)
  go_ret
  exact⟨_,rfl,(Kd.R_take HR.out (m:=0) (Nat.zero_le _)),HB.out⟩
end Go.Proofs.Ytblceimapaenlaa.PFnExactIsReplay
