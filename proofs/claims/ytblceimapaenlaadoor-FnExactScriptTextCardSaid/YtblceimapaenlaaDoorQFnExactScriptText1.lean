/- FnExactScriptText: the functions that the law reaches, each as a plain Lean function, and that a call does what it says. Made by a program of this work (wip/mp.py) out of the kit's print. No condition. -/
import Derived.Test.YtblceimapaenlaaDoorQFnExactScriptText0
namespace Go.Proofs.YtblceimapaenlaaDoor.PFnExactScriptText
open Go.RowKit Go.Proofs.YtblceimapaenlaaDoorW.PrintWords Go.Proofs.YtblceimapaenlaaDoorW.PrintLast Go.Proofs.YtblceimapaenlaaDoorW.PrintMore
open Fix (bK bnd cl4 d4 d6 dB dK dR eB eK eR fR gE gl gs hh hx lR nG nL nu oL ou pu rE rS tu uB uR)
open Go.Value renaming int→V,bool→O,agg→G
open Go.IntKind renaming i64→I
open Go.Proofs.YtblceimapaenlaaDoorW.PrintWords.Aside0 renaming mk→C
open Go.Proofs.YtblceimapaenlaaDoorW.PrintWords renaming Aside0→D,gate_callee→F,gate_dst→J
attribute [local go_sem] max2_int min2_int max_two min_two max_three min_three max_four min_four
attribute [local go_sem] Fix.isSome_setCell
set_option linter.unusedVariables false
set_option linter.unusedSimpArgs false
def laws_szActS.f (l0:List (S23)) (a1:Int):Option (Int):=if(wrap64 (a1 - (l0.length:Int)))<0 then(some (-1)) else(some (wrap64 (a1 - (l0.length:Int))))
theorem laws_szActS.W1 {p:Prop} (h:p:=by
    go_enter Tryd.func11,Tryd.ntmps11
    go_wp2
    go_ret
    exact⟨by first|rfl|(simp;done)|(simp[*];done),by repeat(first|exact Drawn0.refl _|apply Drawn0.step)⟩):p:=h
set_option maxHeartbeats 40000000 in
set_option maxRecDepth 100000 in
theorem laws_szActS.calls (A0:Option Addr) (c0:Nat) (l0:List (S23)) (a1:Int) (r:Int) (w:World) (hr0:Kd.C k23 w A0 l0.length l0) (hc0:l0.length≤c0) (h:laws_szActS.f l0 a1=some r):
    Calls Tryd.prog 11 #[.slice A0 l0.length c0,V I a1] w fun e w'=>e=.returned (V I r)∧Drawn0 w w':=by
  have HR1:=C hr0
  have HC1:=C hc0
  (try clear hr0);(try clear hc0)
  have H:=h
  unfold laws_szActS.f at H
  clear h
  by_cases c1:(wrap64 (a1 - (l0.length:Int)))<0
  · rw[if_pos c1]at H
    have c1b0:decide ((wrap64 (a1 - (l0.length:Int)))<0)=true:=decide_eq_true c1
    clear c1
    obtain rfl:=Option.some.inj H
    exact laws_szActS.W1
  · rw[if_neg c1]at H
    have c1b0:decide ((wrap64 (a1 - (l0.length:Int)))<0)=false:=decide_eq_false c1
    clear c1
    obtain rfl:=Option.some.inj H
    exact laws_szActS.W1
def spec_l01In.f (a0:Int) (a1:Int) (a2:Int):Option (Bool):=if a0 ≥ a1 then(some (decide (a0≤a2))) else(some false)
theorem spec_l01In.W1 {p:Prop} (h:p:=by
    go_enter Tryd.func63,Tryd.ntmps63
    go_wp2
    go_ret
    exact⟨by first|rfl|(simp;done)|(simp[*];done),by repeat(first|exact Drawn0.refl _|apply Drawn0.step)⟩):p:=h
set_option maxHeartbeats 40000000 in
set_option maxRecDepth 100000 in
theorem spec_l01In.calls (a0:Int) (a1:Int) (a2:Int) (r:Bool) (w:World) (h:spec_l01In.f a0 a1 a2=some r):
    Calls Tryd.prog 63 #[V I a0,V I a1,V I a2] w fun e w'=>e=.returned (O r)∧Drawn0 w w':=by
  have H:=h
  unfold spec_l01In.f at H
  clear h
  by_cases c1:a0 ≥ a1
  · rw[if_pos c1]at H
    have c1b0:decide (a1≤a0)=true:=decide_eq_true c1
    clear c1
    obtain rfl:=Option.some.inj H
    exact spec_l01In.W1
  · rw[if_neg c1]at H
    have c1b0:decide (a1≤a0)=false:=decide_eq_false c1
    clear c1
    obtain rfl:=Option.some.inj H
    exact spec_l01In.W1
def spec_JobOk.f (a0_0:Int) (a0_1:Int) (a0_2:Int) (a0_3:Bool) (a0_4:Int) (a0_5:Bool):Option (Bool):=(spec_l01In.f a0_0 1 9999).bind fun t102=>(if t102=true then((spec_l01In.f a0_1 1 64).bind fun t103=>(if t103=true then((spec_l01In.f a0_2 1 20).bind fun t104=>(if t104=true then((spec_l01In.f a0_4 0 9).bind fun t105=>(some t105)) else(some false))) else(some false))) else(some false))
theorem spec_JobOk.W1 {p:Prop} (h:p:=by
    go_enter Tryd.func61,Tryd.ntmps61
    go_wp2_with (first|((with_reducible refine J (N:=1) rfl ?_);refine Fix.be 1 #[V I a0_0,V I a0_1,V I a0_2,O a0_3,V I a0_4,O a0_5] 40 ?_;intro gb1 hg w1 BK1 hb;have GW1:D (w.heap.size≤gb1):=gE hg;have GE1:=GW1;replace HB:=eB hb;clear hb hg;obtain⟨hcz1_0,hcz1_1,hcz1_2,hcz1_3,hcz1_4,hcz1_5,hfz1_0,hfz1_1,hfz1_2,hfz1_3,hfz1_4,hfz1_5⟩:=d6 BK1.out)|((with_reducible refine F (f:=63) rfl ?_);refine gl 63 (some 5) Tryd.func63 #[V I a0_0,V I 1,V I 9999] ?_;(with_reducible refine(spec_l01In.calls a0_0 1 9999 true _ A1.out).mono ?_);rintro e w' ⟨rfl,⟨nd,rfl⟩⟩;refine⟨_,rfl,?_⟩)|(go_at_call 63;(with_reducible refine(spec_l01In.calls a0_1 1 64 true _ A2.out).mono ?_);rintro e w' ⟨rfl,⟨nd,rfl⟩⟩)|(go_at_call 63;(with_reducible refine(spec_l01In.calls a0_2 1 20 true _ A3.out).mono ?_);rintro e w' ⟨rfl,⟨nd,rfl⟩⟩)|(go_at_call 63;(with_reducible refine(spec_l01In.calls a0_4 0 9 t4 _ A4.out).mono ?_);rintro e w' ⟨rfl,⟨nd,rfl⟩⟩)|(go_at_call 63;(with_reducible refine(spec_l01In.calls a0_2 1 20 false _ A3.out).mono ?_);rintro e w' ⟨rfl,⟨nd,rfl⟩⟩)|(go_at_call 63;(with_reducible refine(spec_l01In.calls a0_1 1 64 false _ A2.out).mono ?_);rintro e w' ⟨rfl,⟨nd,rfl⟩⟩))
    go_ret
    exact⟨rE,uB⟩):p:=h
set_option maxHeartbeats 40000000 in
set_option maxRecDepth 100000 in
theorem spec_JobOk.calls (a0_0:Int) (a0_1:Int) (a0_2:Int) (a0_3:Bool) (a0_4:Int) (a0_5:Bool) (r:Bool) (w:World) (h:spec_JobOk.f a0_0 a0_1 a0_2 a0_3 a0_4 a0_5=some r):
    Calls Tryd.prog 61 #[G #[V I a0_0,V I a0_1,V I a0_2,O a0_3,V I a0_4,O a0_5]] w fun e w'=>e=.returned (O r)∧Below w.heap.size w w':=by
  have hu1:=Tryd.underlying40
  have HB:=C (Below.refl w.heap.size w)
  have H:=h
  unfold spec_JobOk.f at H
  clear h
  obtain⟨t1,A1,H⟩:=bnd H
  by_cases c1:t1=true
  · subst c1
    rw[if_pos rfl]at H
    obtain⟨t2,A2,H⟩:=bnd H
    by_cases c2:t2=true
    · subst c2
      rw[if_pos rfl]at H
      obtain⟨t3,A3,H⟩:=bnd H
      by_cases c3:t3=true
      · subst c3
        rw[if_pos rfl]at H
        obtain⟨t4,A4,H⟩:=bnd H
        obtain rfl:=Option.some.inj H
        exact spec_JobOk.W1
      · replace c3:=Bool.eq_false_iff.mpr c3
        subst c3
        rw[if_neg Bool.false_ne_true]at H
        obtain rfl:=Option.some.inj H
        exact spec_JobOk.W1
    · replace c2:=Bool.eq_false_iff.mpr c2
      subst c2
      rw[if_neg Bool.false_ne_true]at H
      obtain rfl:=Option.some.inj H
      exact spec_JobOk.W1
  · replace c1:=Bool.eq_false_iff.mpr c1
    subst c1
    rw[if_neg Bool.false_ne_true]at H
    obtain rfl:=Option.some.inj H
    go_enter Tryd.func61,Tryd.ntmps61
    go_wp2_with (first|((with_reducible refine J (N:=1) rfl ?_);refine Fix.be 1 #[V I a0_0,V I a0_1,V I a0_2,O a0_3,V I a0_4,O a0_5] 40 ?_;intro gb1 hg w1 BK1 hb;have GW1:D (w.heap.size≤gb1):=gE hg;have GE1:=GW1;replace HB:=eB hb;clear hb hg;obtain⟨hcz1_0,hcz1_1,hcz1_2,hcz1_3,hcz1_4,hcz1_5,hfz1_0,hfz1_1,hfz1_2,hfz1_3,hfz1_4,hfz1_5⟩:=d6 BK1.out)|((with_reducible refine F (f:=63) rfl ?_);refine gl 63 (some 5) Tryd.func63 #[V I a0_0,V I 1,V I 9999] ?_;(with_reducible refine(spec_l01In.calls a0_0 1 9999 false _ A1.out).mono ?_);rintro e w' ⟨rfl,⟨nd,rfl⟩⟩;refine⟨_,rfl,?_⟩))
    go_ret
    exact⟨rE,uB⟩
def spec_l39Job.f (a0_0:Int) (a0_1:Int) (a0_2:Int) (a0_3:Int):Option (Int×Int×Int×Bool×Int×Bool):=some (a0_1,a0_2,1,false,a0_3,(a0_3==9))
set_option maxHeartbeats 40000000 in
set_option maxRecDepth 100000 in
theorem spec_l39Job.calls (a0_0:Int) (a0_1:Int) (a0_2:Int) (a0_3:Int) (r1:Int) (r2:Int) (r3:Int) (r4:Bool) (r5:Int) (r6:Bool) (w:World) (h:spec_l39Job.f a0_0 a0_1 a0_2 a0_3=some (r1,r2,r3,r4,r5,r6)):
    Calls Tryd.prog 62 #[G #[V I a0_0,V I a0_1,V I a0_2,V I a0_3]] w fun e w'=>e=.returned (G #[V I r1,V I r2,V I r3,O r4,V I r5,O r6])∧Below w.heap.size w w':=by
  have hu1:=Tryd.underlying26
  have hu2:=Tryd.underlying40
  have HB:=C (Below.refl w.heap.size w)
  have H:=h
  unfold spec_l39Job.f at H
  clear h
  simp only[Option.some.injEq,Prod.mk.injEq]at H
  obtain⟨rfl,rfl,rfl,rfl,rfl,rfl⟩:=H
  go_enter Tryd.func62,Tryd.ntmps62
  go_wp2_with (first|((with_reducible refine J (N:=1) rfl ?_);refine Fix.be 1 #[V I a0_0,V I a0_1,V I a0_2,V I a0_3] 26 ?_;intro gb1 hg w1 BK1 hb;have GW1:D (w.heap.size≤gb1):=gE hg;have GE1:=GW1;replace HB:=eB hb;clear hb hg)|((with_reducible refine J (N:=2) rfl ?_);refine Fix.be 2 #[V I 0,V I 0,V I 0,O false,V I 0,O false] 40 ?_;intro gb2 hg w2 BK2 hb;have GW2:D (w.heap.size≤gb2):=gE hg;have GE2:=GW2;have NB1_107:=nL hg BK1;have NB2_106:=nG hg BK1;replace BK1:=eK BK1 hb;replace HB:=eB hb;clear hb hg;have hnb1:=NB1_107.out;have hnc1:=NB2_106.out;obtain⟨hcz1_0,hcz1_1,hcz1_2,hcz1_3,hfz1_0,hfz1_1,hfz1_2,hfz1_3⟩:=d4 BK1.out;obtain⟨hcz2_0,hcz2_1,hcz2_2,hcz2_3,hcz2_4,hcz2_5,hfz2_0,hfz2_1,hfz2_2,hfz2_3,hfz2_4,hfz2_5⟩:=d6 BK2.out))
  refine bodyPost_ret (results_cell_row rfl _ _ gb2 40 #[V I a0_1,V I a0_2,V I 1,O false,V I a0_3,O (a0_3==9)] (0,0) _ rfl (bK BK2.out) Tryd.underlying40 rfl (by kernel_rfl)) rfl ?_
  exact⟨rE,uB⟩
def spec_ActOk.j0:Nat→Int→Bool→Int→Int→Int→Int→Option (Bool)
  |0,_,_,_,_,_,_=>none
  |k+1,x4,x25,x109000,x109001,x109002,x109003=>if x25=true then(if x109001=0 then(if x109002=0 then(some (x109003==0)) else(some false)) else(some false)) else(if x4=5 then((spec_l01In.f x109001 1 9999).bind fun t117=>(if t117=true then(if x109002=0 then(some (x109003==0)) else(some false)) else(some false))) else(some false))
def spec_ActOk.f (k:Nat) (a0_0:Int) (a0_1:Int) (a0_2:Int) (a0_3:Int):Option (Bool):=if a0_0=1 then((spec_l39Job.f a0_0 a0_1 a0_2 a0_3).bind fun bt109=>((spec_JobOk.f bt109.1 bt109.2.1 bt109.2.2.1 bt109.2.2.2.1 bt109.2.2.2.2.1 bt109.2.2.2.2.2).bind fun t115=>(some t115))) else(if a0_0=3 then((spec_l01In.f a0_1 1 5).bind fun t116=>(if t116=true then(if a0_2=0 then(some (a0_3==0)) else(some false)) else(some false))) else(if a0_0=2 then(spec_ActOk.j0 k a0_0 (a0_0==2) a0_0 a0_1 a0_2 a0_3) else(spec_ActOk.j0 k a0_0 (a0_0==4) a0_0 a0_1 a0_2 a0_3)))
theorem spec_ActOk.mono_l:∀k,(∀y0 y1 y2 y3 y4 y5,LeO (spec_ActOk.j0 k y0 y1 y2 y3 y4 y5) (spec_ActOk.j0 (k+1) y0 y1 y2 y3 y4 y5))
  |0=>fun _ _ _ _ _ _ r h=>by simp[spec_ActOk.j0]at h
  |k+1=>by
    have ih0:=spec_ActOk.mono_l k
    · intro y0 y1 y2 y3 y4 y5
      unfold spec_ActOk.j0
      repeat' first|(with_reducible first|apply ih0|exact LeO.refl _|exact LeO.none _|refine LeO.ite ?_ ?_|refine LeO.bind ?_ (fun _=> ?_))|apply ih0|exact LeO.none _|refine LeO.ite ?_ ?_|refine LeO.bind ?_ (fun _=> ?_)
theorem spec_ActOk.mono:∀a0 a1 a2 a3 k,LeO (spec_ActOk.f k a0 a1 a2 a3) (spec_ActOk.f (k+1) a0 a1 a2 a3):=by
  intro a0 a1 a2 a3 k
  have ih0:=spec_ActOk.mono_l k
  unfold spec_ActOk.f
  repeat' first|(with_reducible first|apply ih0|exact LeO.refl _|exact LeO.none _|refine LeO.ite ?_ ?_|refine LeO.bind ?_ (fun _=> ?_))|apply ih0|exact LeO.none _|refine LeO.ite ?_ ?_|refine LeO.bind ?_ (fun _=> ?_)
theorem spec_ActOk.W1 {p:Prop} (h:p:=by
    go_enter Tryd.func33,Tryd.ntmps33
    go_wp2_with (first|((with_reducible refine J (N:=1) rfl ?_);refine Fix.be 1 #[V I a0_0,V I a0_1,V I a0_2,V I a0_3] 26 ?_;intro gb1 hg w1 BK1 hb;have GW1:D (w.heap.size≤gb1):=gE hg;have GE1:=GW1;replace HB:=eB hb;clear hb hg;obtain⟨hcz1_0,hcz1_1,hcz1_2,hcz1_3,hfz1_0,hfz1_1,hfz1_2,hfz1_3⟩:=d4 BK1.out)|((with_reducible refine F (f:=62) rfl ?_);refine gl 62 (some 8) Tryd.func62 #[G #[V I a0_0,V I a0_1,V I a0_2,V I a0_3]] ?_;(with_reducible refine(spec_l39Job.calls a0_0 a0_1 a0_2 a0_3 t1 t2 t3 t4 t5 t6 _ A1.out).mono ?_);rintro e w2 ⟨rfl,hb⟩;refine⟨_,rfl,?_⟩;replace BK1:=eK BK1 hb;replace HB:=eB hb;clear hb)|((with_reducible refine F (f:=61) rfl ?_);refine gl 61 (some 9) Tryd.func61 #[G #[V I t1,V I t2,V I t3,O t4,V I t5,O t6]] ?_;(with_reducible refine(spec_JobOk.calls t1 t2 t3 t4 t5 t6 t7 _ A2.out).mono ?_);rintro e w3 ⟨rfl,hb⟩;refine⟨_,rfl,?_⟩;replace BK1:=eK BK1 hb;replace HB:=eB hb;clear hb)|((with_reducible refine F (f:=63) rfl ?_);refine gl 63 (some 14) Tryd.func63 #[V I a0_1,V I 1,V I 5] ?_;(with_reducible refine(spec_l01In.calls a0_1 1 5 true _ A1.out).mono ?_);rintro e w' ⟨rfl,⟨nd,rfl⟩⟩;refine⟨_,rfl,?_⟩))
    go_ret
    exact⟨rE,uB⟩):p:=h
theorem spec_ActOk.W2 {p:Prop} (h:p:=by
    go_wp2
    go_meet
    first
      |(case rel=>exact⟨_,((a0_0==2)),rS,H',⟨oL⟩,⟨bK BK1.out⟩,⟨uB⟩⟩)
      |(case rel=>exact⟨_,((a0_0==4)),rS,H',⟨oL⟩,⟨bK BK1.out⟩,⟨uB⟩⟩)):p:=h
theorem spec_ActOk.W3 {p:Prop} (h:p:=by
    go_wp2
    go_ret
    exact⟨rE,uB⟩):p:=h
theorem spec_ActOk.W4 {p:Prop} (h:p:=by
    go_wp2_with (first|((with_reducible refine F (f:=63) rfl ?_);refine gl 63 (some 45) Tryd.func63 #[V I a0_1,V I 1,V I 9999] ?_;(with_reducible refine(spec_l01In.calls a0_1 1 9999 true _ A1.out).mono ?_);rintro e w' ⟨rfl,⟨nd,rfl⟩⟩;refine⟨_,rfl,?_⟩))
    go_ret
    exact⟨rE,uB⟩):p:=h
set_option maxHeartbeats 40000000 in
set_option maxRecDepth 100000 in
theorem spec_ActOk.calls (k:Nat) (a0_0:Int) (a0_1:Int) (a0_2:Int) (a0_3:Int) (r:Bool) (w:World) (h:spec_ActOk.f k a0_0 a0_1 a0_2 a0_3=some r):
    Calls Tryd.prog 33 #[G #[V I a0_0,V I a0_1,V I a0_2,V I a0_3]] w fun e w'=>e=.returned (O r)∧Below w.heap.size w w':=by
  have hu1:=Tryd.underlying26
  have HB:=C (Below.refl w.heap.size w)
  have H:=h
  unfold spec_ActOk.f at H
  clear h
  by_cases c1:a0_0=1
  · rw[if_pos c1]at H
    have c1b0:(a0_0==1)=true:=beq_iff_eq.mpr c1
    have c1b1:(a0_0 !=1)=false:=bne_eq_false_iff_eq.mpr c1
    clear c1
    obtain⟨⟨t1,t2,t3,t4,t5,t6⟩,A1,H⟩:=bnd H
    dsimp only at H
    obtain⟨t7,A2,H⟩:=bnd H
    obtain rfl:=Option.some.inj H
    exact spec_ActOk.W1
  · rw[if_neg c1]at H
    have c1b0:(a0_0==1)=false:=beq_eq_false_iff_ne.mpr c1
    have c1b1:(a0_0 !=1)=true:=bne_iff_ne.mpr c1
    by_cases c2:a0_0=3
    · rw[if_pos c2]at H
      have c2b0:(a0_0==3)=true:=beq_iff_eq.mpr c2
      have c2b1:(a0_0 !=3)=false:=bne_eq_false_iff_eq.mpr c2
      clear c2
      obtain⟨t1,A1,H⟩:=bnd H
      by_cases c3:t1=true
      · subst c3
        rw[if_pos rfl]at H
        by_cases c4:a0_2=0
        · rw[if_pos c4]at H
          have c4b0:(a0_2==0)=true:=beq_iff_eq.mpr c4
          have c4b1:(a0_2 !=0)=false:=bne_eq_false_iff_eq.mpr c4
          clear c4
          obtain rfl:=Option.some.inj H
          exact spec_ActOk.W1
        · rw[if_neg c4]at H
          have c4b0:(a0_2==0)=false:=beq_eq_false_iff_ne.mpr c4
          have c4b1:(a0_2 !=0)=true:=bne_iff_ne.mpr c4
          obtain rfl:=Option.some.inj H
          exact spec_ActOk.W1
      · replace c3:=Bool.eq_false_iff.mpr c3
        subst c3
        rw[if_neg Bool.false_ne_true]at H
        obtain rfl:=Option.some.inj H
        go_enter Tryd.func33,Tryd.ntmps33
        go_wp2_with (first|((with_reducible refine J (N:=1) rfl ?_);refine Fix.be 1 #[V I a0_0,V I a0_1,V I a0_2,V I a0_3] 26 ?_;intro gb1 hg w1 BK1 hb;have GW1:D (w.heap.size≤gb1):=gE hg;have GE1:=GW1;replace HB:=eB hb;clear hb hg;have h_:=d4 BK1.out;(repeat(obtain⟨_,h_⟩:=h_)))|((with_reducible refine F (f:=63) rfl ?_);refine gl 63 (some 14) Tryd.func63 #[V I a0_1,V I 1,V I 5] ?_;(with_reducible refine(spec_l01In.calls a0_1 1 5 false _ A1.out).mono ?_);rintro e w' ⟨rfl,⟨nd,rfl⟩⟩;refine⟨_,rfl,?_⟩))
        go_ret
        exact⟨rE,uB⟩
    · rw[if_neg c2]at H
      have c2b0:(a0_0==3)=false:=beq_eq_false_iff_ne.mpr c2
      have c2b1:(a0_0 !=3)=true:=bne_iff_ne.mpr c2
      have HC1:=C H
      clear H
      go_enter Tryd.func33,Tryd.ntmps33
      go_upto_if 25 with(first|((with_reducible refine J (N:=1) rfl ?_);refine Fix.be 1 #[V I a0_0,V I a0_1,V I a0_2,V I a0_3] 26 ?_;intro gb1 hg w1 BK1 hb;have GW1:D (w.heap.size≤gb1):=gE hg;have GE1:=GW1;replace HB:=eB hb;clear hb hg;obtain⟨hcz1_0,hcz1_1,hcz1_2,hcz1_3,hfz1_0,hfz1_1,hfz1_2,hfz1_3⟩:=d4 BK1.out))
      (try simp only[Act.put,List.setIfInBounds_toArray,List.set_cons_zero,List.set_cons_succ])
      go_cut [25] (fun v25 wc=>∃(kq:Nat) (x1_18:Bool),v25=O x1_18∧D (spec_ActOk.j0 kq a0_0 x1_18 a0_0 a0_1 a0_2 a0_3=some r)∧D (kq≤k)∧D (wc.heap[gb1]? =some (.cells #[V I a0_0,V I a0_1,V I a0_2,V I a0_3] 26 (0,0)))∧D (Below w.heap.size w wc))
      case first=>
        have H:=HC1.out
        clear HC1
        by_cases c3:a0_0=2
        · rw[if_pos c3]at H
          have c3b0:(a0_0==2)=true:=beq_iff_eq.mpr c3
          have c3b1:(a0_0 !=2)=false:=bne_eq_false_iff_eq.mpr c3
          clear c3
          (first|rw[c3b0]|(simp only[i64_w,i32_w];rw[c3b0])|skip)
          have H':=C H
          clear H
          exact spec_ActOk.W2
        · rw[if_neg c3]at H
          have c3b0:(a0_0==2)=false:=beq_eq_false_iff_ne.mpr c3
          have c3b1:(a0_0 !=2)=true:=bne_iff_ne.mpr c3
          (first|rw[c3b0]|(simp only[i64_w,i32_w];rw[c3b0])|skip)
          have H':=C H
          clear H
          exact spec_ActOk.W2
      case rest=>
        clear HC1
        obtain⟨kq,x1_18,rfl,HA,HJ1,BK1,HB⟩:=hcut
        cases kq with
        |zero=>exact absurd HA.out (by simp[spec_ActOk.j0])
        |succ kj18=>
          have H:=HA.out
          clear HA
          simp only[spec_ActOk.j0]at H
          by_cases c3:x1_18=true
          · subst c3
            rw[if_pos rfl]at H
            by_cases c4:a0_1=0
            · rw[if_pos c4]at H
              have c4b0:(a0_1==0)=true:=beq_iff_eq.mpr c4
              have c4b1:(a0_1 !=0)=false:=bne_eq_false_iff_eq.mpr c4
              clear c4
              by_cases c5:a0_2=0
              · rw[if_pos c5]at H
                have c5b0:(a0_2==0)=true:=beq_iff_eq.mpr c5
                have c5b1:(a0_2 !=0)=false:=bne_eq_false_iff_eq.mpr c5
                clear c5
                obtain rfl:=Option.some.inj H
                have h_:=d4 BK1.out;(repeat(obtain⟨_,h_⟩:=h_))
                exact spec_ActOk.W3
              · rw[if_neg c5]at H
                have c5b0:(a0_2==0)=false:=beq_eq_false_iff_ne.mpr c5
                have c5b1:(a0_2 !=0)=true:=bne_iff_ne.mpr c5
                obtain rfl:=Option.some.inj H
                have h_:=d4 BK1.out;(repeat(obtain⟨_,h_⟩:=h_))
                exact spec_ActOk.W3
            · rw[if_neg c4]at H
              have c4b0:(a0_1==0)=false:=beq_eq_false_iff_ne.mpr c4
              have c4b1:(a0_1 !=0)=true:=bne_iff_ne.mpr c4
              obtain rfl:=Option.some.inj H
              have h_:=d4 BK1.out;(repeat(obtain⟨_,h_⟩:=h_))
              exact spec_ActOk.W3
          · replace c3:=Bool.eq_false_iff.mpr c3
            subst c3
            rw[if_neg Bool.false_ne_true]at H
            by_cases c4:a0_0=5
            · rw[if_pos c4]at H
              have c4b0:(a0_0==5)=true:=beq_iff_eq.mpr c4
              have c4b1:(a0_0 !=5)=false:=bne_eq_false_iff_eq.mpr c4
              clear c4
              obtain⟨t1,A1,H⟩:=bnd H
              by_cases c5:t1=true
              · subst c5
                rw[if_pos rfl]at H
                by_cases c6:a0_2=0
                · rw[if_pos c6]at H
                  have c6b0:(a0_2==0)=true:=beq_iff_eq.mpr c6
                  have c6b1:(a0_2 !=0)=false:=bne_eq_false_iff_eq.mpr c6
                  clear c6
                  obtain rfl:=Option.some.inj H
                  have h_:=d4 BK1.out;(repeat(obtain⟨_,h_⟩:=h_))
                  exact spec_ActOk.W4
                · rw[if_neg c6]at H
                  have c6b0:(a0_2==0)=false:=beq_eq_false_iff_ne.mpr c6
                  have c6b1:(a0_2 !=0)=true:=bne_iff_ne.mpr c6
                  obtain rfl:=Option.some.inj H
                  have h_:=d4 BK1.out;(repeat(obtain⟨_,h_⟩:=h_))
                  exact spec_ActOk.W4
              · replace c5:=Bool.eq_false_iff.mpr c5
                subst c5
                rw[if_neg Bool.false_ne_true]at H
                obtain rfl:=Option.some.inj H
                have h_:=d4 BK1.out;(repeat(obtain⟨_,h_⟩:=h_))
                go_wp2_with (first|((with_reducible refine F (f:=63) rfl ?_);refine gl 63 (some 45) Tryd.func63 #[V I a0_1,V I 1,V I 9999] ?_;(with_reducible refine(spec_l01In.calls a0_1 1 9999 false _ A1.out).mono ?_);rintro e w' ⟨rfl,⟨nd,rfl⟩⟩;refine⟨_,rfl,?_⟩))
                go_ret
                exact⟨rE,uB⟩
            · rw[if_neg c4]at H
              have c4b0:(a0_0==5)=false:=beq_eq_false_iff_ne.mpr c4
              have c4b1:(a0_0 !=5)=true:=bne_iff_ne.mpr c4
              obtain rfl:=Option.some.inj H
              exact spec_ActOk.W3
def spec_l01Figure.f (a0:Int):Option (Int):=if a0<10 then(some ((wrap64 (48+a0)) % 256)) else(some ((wrap64 ((wrap64 (97+a0)) - 10)) % 256))
theorem spec_l01Figure.W1 {p:Prop} (h:p:=by
    go_enter Tryd.func64,Tryd.ntmps64
    go_wp2
    go_ret
    exact⟨by first|rfl|(simp;done)|(simp[*];done),by repeat(first|exact Drawn0.refl _|apply Drawn0.step)⟩):p:=h
set_option maxHeartbeats 40000000 in
set_option maxRecDepth 100000 in
theorem spec_l01Figure.calls (a0:Int) (r:Int) (w:World) (h:spec_l01Figure.f a0=some r):
    Calls Tryd.prog 64 #[V I a0] w fun e w'=>e=.returned (.int .u8 r)∧Drawn0 w w':=by
  have H:=h
  unfold spec_l01Figure.f at H
  clear h
  by_cases c1:a0<10
  · rw[if_pos c1]at H
    have c1b0:decide (a0<10)=true:=decide_eq_true c1
    clear c1
    obtain rfl:=Option.some.inj H
    exact spec_l01Figure.W1
  · rw[if_neg c1]at H
    have c1b0:decide (a0<10)=false:=decide_eq_false c1
    clear c1
    obtain rfl:=Option.some.inj H
    exact spec_l01Figure.W1
def spec_FormatInt.l0:Nat→Int→Bool→ByteArray→Option (ByteArray)
  |0,_,_,_=>none
  |k+1,x0,x3,x4=>if x0=0 then(if x3=true then(if 1+x4.size≤9223372036854775807 then(some ((⟨#[45]⟩:ByteArray)++x4)) else(none)) else(some x4)) else(if(Int.tmod x0 10)<0 then((spec_l01Figure.f (wrap64 (-(Int.tmod x0 10)))).bind fun t118=>((some (([t118]:List Int):List Int)).bind fun y119=>(if(strOfNums y119).size+x4.size≤9223372036854775807 then(spec_FormatInt.l0 k (wrap64 (Int.tdiv x0 10)) x3 ((strOfNums y119)++x4)) else(none)))) else((spec_l01Figure.f (Int.tmod x0 10)).bind fun t122=>((some (([t122]:List Int):List Int)).bind fun y123=>(if(strOfNums y123).size+x4.size≤9223372036854775807 then(spec_FormatInt.l0 k (wrap64 (Int.tdiv x0 10)) x3 ((strOfNums y123)++x4)) else(none)))))
def spec_FormatInt.f (k:Nat) (a0:Int):Option (ByteArray):=if a0=0 then(some (⟨#[48]⟩:ByteArray)) else(spec_FormatInt.l0 k a0 (decide (a0<0)) (⟨#[]⟩:ByteArray))
theorem spec_FormatInt.mono_l:∀k,(∀y0 y1 y2,LeO (spec_FormatInt.l0 k y0 y1 y2) (spec_FormatInt.l0 (k+1) y0 y1 y2))
  |0=>fun _ _ _ r h=>by simp[spec_FormatInt.l0]at h
  |k+1=>by
    have ih0:=spec_FormatInt.mono_l k
    · intro y0 y1 y2
      unfold spec_FormatInt.l0
      repeat' first|(with_reducible first|apply ih0|exact LeO.refl _|exact LeO.none _|refine LeO.ite ?_ ?_|refine LeO.bind ?_ (fun _=> ?_))|apply ih0|exact LeO.none _|refine LeO.ite ?_ ?_|refine LeO.bind ?_ (fun _=> ?_)
theorem spec_FormatInt.mono:∀a0 k,LeO (spec_FormatInt.f k a0) (spec_FormatInt.f (k+1) a0):=by
  intro a0 k
  have ih0:=spec_FormatInt.mono_l k
  unfold spec_FormatInt.f
  repeat' first|(with_reducible first|apply ih0|exact LeO.refl _|exact LeO.none _|refine LeO.ite ?_ ?_|refine LeO.bind ?_ (fun _=> ?_))|apply ih0|exact LeO.none _|refine LeO.ite ?_ ?_|refine LeO.bind ?_ (fun _=> ?_)
theorem spec_FormatInt.W1 {p:Prop} (h:p:=by
    go_wp2
    first
      | (try (any_goals (exfalso; have h1_ := of_decide_eq_true c3b0; omega))
         go_ret
         exact⟨rE,uB⟩)
      | (try (any_goals (exfalso; have h1_ := of_decide_eq_false c3b0; omega))
         go_ret
         exact⟨rE,uB⟩)):p:=h
set_option maxHeartbeats 40000000 in
set_option maxRecDepth 100000 in
theorem spec_FormatInt.calls (k:Nat) (a0:Int) (r:ByteArray) (w:World) (h:spec_FormatInt.f k a0=some r):
    Calls Tryd.prog 34 #[V I a0] w fun e w'=>e=.returned (.string r)∧Below w.heap.size w w':=by
  have HB:=C (Below.refl w.heap.size w)
  have H:=h
  unfold spec_FormatInt.f at H
  clear h
  by_cases c1:a0=0
  · rw[if_pos c1]at H
    have c1b0:(a0==0)=true:=beq_iff_eq.mpr c1
    have c1b1:(a0 !=0)=false:=bne_eq_false_iff_eq.mpr c1
    clear c1
    obtain rfl:=Option.some.inj H
    go_enter Tryd.func34,Tryd.ntmps34
    go_wp2
    go_ret
    exact⟨rE,uB⟩
  · rw[if_neg c1]at H
    have c1b0:(a0==0)=false:=beq_eq_false_iff_ne.mpr c1
    have c1b1:(a0 !=0)=true:=bne_iff_ne.mpr c1
    have H':=C H
    clear H
    go_enter Tryd.func34,Tryd.ntmps34
    go_wp2
    go_loopg [0,4] k (fun kq v0 v4 w'=>∃(x1_1:Int) (x2_1:ByteArray),v0=V I x1_1∧v4=.string x2_1∧D (spec_FormatInt.l0 kq x1_1 (decide (a0<0)) x2_1=some r)∧D (kq≤k)∧D (Below w.heap.size w w'))
    case atStart=>exact⟨(a0),((⟨#[]⟩:ByteArray)),rS,rS,H',⟨Nat.le_refl _⟩,⟨uB⟩⟩
    case round=>
      clear H'
      obtain⟨x1_1,x2_1,rfl,rfl,HA,HK1,HB⟩:=hrel
      cases gk with
      |zero=>exact absurd HA.out (by simp[spec_FormatInt.l0])
      |succ k1=>
        have H:=HA.out
        clear HA
        simp only[spec_FormatInt.l0]at H
        by_cases c2:x1_1=0
        · rw[if_pos c2]at H
          have c2b0:(x1_1==0)=true:=beq_iff_eq.mpr c2
          have c2b1:(x1_1 !=0)=false:=bne_eq_false_iff_eq.mpr c2
          clear c2
          by_cases c3:(decide (a0<0))=true
          · rw[if_pos c3]at H
            have c3b0:(decide (a0<0))=true:=c3
            clear c3
            by_cases c4:1+x2_1.size≤9223372036854775807
            · rw[if_pos c4]at H
              have c4b0:=eq_true c4
              have c4b1:decide (1+x2_1.size≤9223372036854775807)=true:=decide_eq_true c4
              try have c4b2:(9223372036854775807<1+x2_1.size)=False:=eq_false (Nat.not_lt.2 c4)
              try(have h1_:=c4;simp only[ByteArray.size_append,Ito.bsz,List.size_toArray,List.length_cons,List.length_nil]at h1_;have c4b3:=eq_false (Nat.not_lt.2 h1_);clear h1_)
              obtain rfl:=Option.some.inj H
              exact spec_FormatInt.W1
            · rw[if_neg c4]at H
              exact absurd H (by simp)
          · rw[if_neg c3]at H
            have c3b0:(decide (a0<0))=false:=by simpa using c3
            clear c3
            obtain rfl:=Option.some.inj H
            exact spec_FormatInt.W1
        · rw[if_neg c2]at H
          have c2b0:(x1_1==0)=false:=beq_eq_false_iff_ne.mpr c2
          have c2b1:(x1_1 !=0)=true:=bne_iff_ne.mpr c2
          by_cases c3:(Int.tmod x1_1 10)<0
          · rw[if_pos c3]at H
            have c3b0:decide ((Int.tmod x1_1 10)<0)=true:=decide_eq_true c3
            clear c3
            obtain⟨t1,A1,H⟩:=bnd H
            obtain⟨y1,hy1⟩:∃y_:List Int,y_=(([t1]:List Int)):=⟨_,rfl⟩
            replace H:(if(strOfNums y1).size+x2_1.size≤9223372036854775807 then(spec_FormatInt.l0 k1 (wrap64 (Int.tdiv x1_1 10)) (decide (a0<0)) ((strOfNums y1)++x2_1)) else(none))=some r:=by first|(rw[hy1];with_reducible exact H)|(have H1_:=(Option.bind_some _ _).symm.trans H;rw[hy1];with_reducible exact H1_)|(have H1_:=(Option.bind_some _ _).symm.trans H;with_reducible exact H1_)|with_reducible exact H|(rw[hy1];exact H)|exact H
            have Ny1:=C hy1
            clear hy1
            by_cases c4:(strOfNums y1).size+x2_1.size≤9223372036854775807
            · rw[if_pos c4]at H
              have c4b0:=eq_true c4
              have c4b1:decide ((strOfNums y1).size+x2_1.size≤9223372036854775807)=true:=decide_eq_true c4
              try have c4b2:(9223372036854775807<(strOfNums y1).size+x2_1.size)=False:=eq_false (Nat.not_lt.2 c4)
              try(have h1_:=c4;simp only[ByteArray.size_append,Ito.bsz,List.size_toArray,List.length_cons,List.length_nil]at h1_;have c4b3:=eq_false (Nat.not_lt.2 h1_);clear h1_)
              have H':=C H
              clear H
              go_wp2_with (first|((with_reducible refine F (f:=64) rfl ?_);refine gl 64 (some 19) Tryd.func64 #[V I (wrap64 (-(Int.tmod x1_1 10)))] ?_;(with_reducible refine(spec_l01Figure.calls (wrap64 (-(Int.tmod x1_1 10))) t1 _ A1.out).mono ?_);rintro e w' ⟨rfl,⟨nd,rfl⟩⟩;refine⟨_,rfl,?_⟩)|((with_reducible refine J (N:=20) rfl ?_);refine Kd.R_lit (Kd.int .u8) _ 5 ?hg (N:=20) ?hd (xs:=([t1]:List Int)) (inner:= [.int .u8 t1]) (ok:=fun _=>True) (okp:=fun _=>True) ?hr ?hp (fun _ hk=>hk) trivial (Below.refl _ _) (Nat.le_refl _) (by simp) ?_;(case hd=>rfl);(case hg=>rfl);(case hr=>exact Fix.hr);(case hp=>exact(Reps.one (show Kd.M (Kd.int .u8) _ _ _ t1 [.int .u8 t1] from rfl) (Reps.none _ _)));intro v1 w1 ho1 hb hg_ hnew_;clear hg_ hnew_;(first|rw[←Ny1.out]at ho1|(simp only[Int.reduceToNat]at ho1;rw[←Ny1.out]at ho1));have HO1:=lR ho1;replace HB:=eB hb;clear hb ho1;have hcv1:=own_string (P:=Tryd.prog) Tryd.underlying36 Tryd.underlying5 Tryd.underlying9 (Kd.own_of_R HO1.out)))
              go_roundg k1
              case measure=>have:=HK1.out;omega
              case rel=>exact⟨(wrap64 (Int.tdiv x1_1 10)),((strOfNums y1)++x2_1),rS,rS,H',⟨by have:=HK1.out;omega⟩,⟨uB⟩⟩
            · rw[if_neg c4]at H
              exact absurd H (by simp)
          · rw[if_neg c3]at H
            have c3b0:decide ((Int.tmod x1_1 10)<0)=false:=decide_eq_false c3
            clear c3
            obtain⟨t1,A1,H⟩:=bnd H
            obtain⟨y1,hy1⟩:∃y_:List Int,y_=(([t1]:List Int)):=⟨_,rfl⟩
            replace H:(if(strOfNums y1).size+x2_1.size≤9223372036854775807 then(spec_FormatInt.l0 k1 (wrap64 (Int.tdiv x1_1 10)) (decide (a0<0)) ((strOfNums y1)++x2_1)) else(none))=some r:=by first|(rw[hy1];with_reducible exact H)|(have H1_:=(Option.bind_some _ _).symm.trans H;rw[hy1];with_reducible exact H1_)|(have H1_:=(Option.bind_some _ _).symm.trans H;with_reducible exact H1_)|with_reducible exact H|(rw[hy1];exact H)|exact H
            have Ny1:=C hy1
            clear hy1
            by_cases c4:(strOfNums y1).size+x2_1.size≤9223372036854775807
            · rw[if_pos c4]at H
              have c4b0:=eq_true c4
              have c4b1:decide ((strOfNums y1).size+x2_1.size≤9223372036854775807)=true:=decide_eq_true c4
              try have c4b2:(9223372036854775807<(strOfNums y1).size+x2_1.size)=False:=eq_false (Nat.not_lt.2 c4)
              try(have h1_:=c4;simp only[ByteArray.size_append,Ito.bsz,List.size_toArray,List.length_cons,List.length_nil]at h1_;have c4b3:=eq_false (Nat.not_lt.2 h1_);clear h1_)
              have H':=C H
              clear H
              go_wp2_with (first|((with_reducible refine F (f:=64) rfl ?_);refine gl 64 (some 19) Tryd.func64 #[V I (Int.tmod x1_1 10)] ?_;(with_reducible refine(spec_l01Figure.calls (Int.tmod x1_1 10) t1 _ A1.out).mono ?_);rintro e w' ⟨rfl,⟨nd,rfl⟩⟩;refine⟨_,rfl,?_⟩)|((with_reducible refine J (N:=20) rfl ?_);refine Kd.R_lit (Kd.int .u8) _ 5 ?hg (N:=20) ?hd (xs:=([t1]:List Int)) (inner:= [.int .u8 t1]) (ok:=fun _=>True) (okp:=fun _=>True) ?hr ?hp (fun _ hk=>hk) trivial (Below.refl _ _) (Nat.le_refl _) (by simp) ?_;(case hd=>rfl);(case hg=>rfl);(case hr=>exact Fix.hr);(case hp=>exact(Reps.one (show Kd.M (Kd.int .u8) _ _ _ t1 [.int .u8 t1] from rfl) (Reps.none _ _)));intro v1 w1 ho1 hb hg_ hnew_;clear hg_ hnew_;(first|rw[←Ny1.out]at ho1|(simp only[Int.reduceToNat]at ho1;rw[←Ny1.out]at ho1));have HO1:=lR ho1;replace HB:=eB hb;clear hb ho1;have hcv1:=own_string (P:=Tryd.prog) Tryd.underlying36 Tryd.underlying5 Tryd.underlying9 (Kd.own_of_R HO1.out)))
              go_roundg k1
              case measure=>have:=HK1.out;omega
              case rel=>exact⟨(wrap64 (Int.tdiv x1_1 10)),((strOfNums y1)++x2_1),rS,rS,H',⟨by have:=HK1.out;omega⟩,⟨uB⟩⟩
            · rw[if_neg c4]at H
              exact absurd H (by simp)
def spec_FormatAct.f (k:Nat) (a0_0:Int) (a0_1:Int) (a0_2:Int) (a0_3:Int):Option (ByteArray×Bool):=(spec_ActOk.f k a0_0 a0_1 a0_2 a0_3).bind fun t127=>(if t127=true then((some (([(⟨#[]⟩:ByteArray),(⟨#[97,100,100]⟩:ByteArray),(⟨#[116,97,107,101]⟩:ByteArray),(⟨#[108,105,110,101]⟩:ByteArray),(⟨#[102,105,110,105,115,104]⟩:ByteArray),(⟨#[114,101,108,101,97,115,101]⟩:ByteArray)]:List ByteArray):List ByteArray)).bind fun y128=>(if 0≤a0_0 then(if a0_0<(y128.length:Int) then(if a0_0=1 then(if(rdOf ByteArray.empty y128 a0_0).size+1≤9223372036854775807 then((spec_FormatInt.f k a0_1).bind fun t132=>(if((rdOf ByteArray.empty y128 a0_0)++(⟨#[32]⟩:ByteArray)).size+t132.size≤9223372036854775807 then(if(((rdOf ByteArray.empty y128 a0_0)++(⟨#[32]⟩:ByteArray))++t132).size+1≤9223372036854775807 then((spec_FormatInt.f k a0_2).bind fun t133=>(if((((rdOf ByteArray.empty y128 a0_0)++(⟨#[32]⟩:ByteArray))++t132)++(⟨#[32]⟩:ByteArray)).size+t133.size≤9223372036854775807 then(if(((((rdOf ByteArray.empty y128 a0_0)++(⟨#[32]⟩:ByteArray))++t132)++(⟨#[32]⟩:ByteArray))++t133).size+1≤9223372036854775807 then((spec_FormatInt.f k a0_3).bind fun t134=>(if((((((rdOf ByteArray.empty y128 a0_0)++(⟨#[32]⟩:ByteArray))++t132)++(⟨#[32]⟩:ByteArray))++t133)++(⟨#[32]⟩:ByteArray)).size+t134.size≤9223372036854775807 then(some (((((((rdOf ByteArray.empty y128 a0_0)++(⟨#[32]⟩:ByteArray))++t132)++(⟨#[32]⟩:ByteArray))++t133)++(⟨#[32]⟩:ByteArray))++t134,true)) else(none))) else(none)) else(none))) else(none)) else(none))) else(none)) else(if a0_0=3 then(if(rdOf ByteArray.empty y128 a0_0).size+1≤9223372036854775807 then((spec_FormatInt.f k a0_1).bind fun t135=>(if((rdOf ByteArray.empty y128 a0_0)++(⟨#[32]⟩:ByteArray)).size+t135.size≤9223372036854775807 then(some (((rdOf ByteArray.empty y128 a0_0)++(⟨#[32]⟩:ByteArray))++t135,true)) else(none))) else(none)) else(if a0_0=5 then(if(rdOf ByteArray.empty y128 a0_0).size+1≤9223372036854775807 then((spec_FormatInt.f k a0_1).bind fun t136=>(if((rdOf ByteArray.empty y128 a0_0)++(⟨#[32]⟩:ByteArray)).size+t136.size≤9223372036854775807 then(some (((rdOf ByteArray.empty y128 a0_0)++(⟨#[32]⟩:ByteArray))++t136,true)) else(none))) else(none)) else(some (rdOf ByteArray.empty y128 a0_0,true))))) else(none)) else(none))) else(some ((⟨#[]⟩:ByteArray),false)))
theorem spec_FormatAct.mono:∀a0 a1 a2 a3 k,LeO (spec_FormatAct.f k a0 a1 a2 a3) (spec_FormatAct.f (k+1) a0 a1 a2 a3):=by
  intro a0 a1 a2 a3 k
  unfold spec_FormatAct.f
  repeat' first|(with_reducible first|apply spec_ActOk.mono|apply spec_FormatInt.mono|exact LeO.refl _|exact LeO.none _|refine LeO.ite ?_ ?_|refine LeO.bind ?_ (fun _=> ?_))|exact LeO.none _|refine LeO.ite ?_ ?_|refine LeO.bind ?_ (fun _=> ?_)
def spec_FormatAct.T5:Bool×List (List Nat×List Nat):=(true,[([],[]),([0],[0]),([],[]),([2],[2]),([3],[3]),([1,4],[1,4]),([5],[5]),([],[]),([7],[7]),([8,4],[8]),([6,9],[6,9]),([10],[10]),([],[]),([12],[12]),([13,9],[13]),([11,14],[11,14]),([15,14,0,1,2,3,4,5,6,7,8,9,10,11,12,13,14,15],[15]),([16,0,1,2,3,4,5,6,7,8,9,10,11,12,13,14,15,16],[])])
def spec_FormatAct.B5:List Nat:= [0,1,0,4,12,31,63,0,128,412,1023,2047,0,4096,13212,32767,65535,131071]
theorem spec_FormatAct.tab5:rtab .any (opsOf Tryd.f8 5)=spec_FormatAct.T5:=by kernel_rfl
theorem spec_FormatAct.bits5:waitsOk spec_FormatAct.T5.2 spec_FormatAct.B5=true:=by kernel_rfl
theorem spec_FormatAct.W1 {p:Prop} (h:p:=by
    go_enter Tryd.func8,Tryd.ntmps8
    go_wp2_with (first|((with_reducible refine J (N:=1) rfl ?_);refine Fix.be 1 #[V I a0_0,V I a0_1,V I a0_2,V I a0_3] 26 ?_;intro gb1 hg w1 BK1 hb;have GW1:D (w.heap.size≤gb1):=gE hg;have GE1:=GW1;replace HB:=eB hb;clear hb hg;have h_:=d4 BK1.out;(repeat(obtain⟨_,h_⟩:=h_)))|((with_reducible refine F (f:=33) rfl ?_);refine gl 33 (some 6) Tryd.func33 #[G #[V I a0_0,V I a0_1,V I a0_2,V I a0_3]] ?_;(with_reducible refine(spec_ActOk.calls k a0_0 a0_1 a0_2 a0_3 true _ A1.out).mono ?_);rintro e w2 ⟨rfl,hb⟩;refine⟨_,rfl,?_⟩;replace BK1:=eK BK1 hb;replace HB:=eB hb;clear hb)|((with_reducible refine J (N:=8) rfl ?_);refine Kd.R_lit Kd.string _ 9 ?hg (N:=8) ?hd (xs:=([(⟨#[]⟩:ByteArray),(⟨#[97,100,100]⟩:ByteArray),(⟨#[116,97,107,101]⟩:ByteArray),(⟨#[108,105,110,101]⟩:ByteArray),(⟨#[102,105,110,105,115,104]⟩:ByteArray),(⟨#[114,101,108,101,97,115,101]⟩:ByteArray)]:List ByteArray)) (inner:= [.string (⟨#[]⟩:ByteArray),.string (⟨#[97,100,100]⟩:ByteArray),.string (⟨#[116,97,107,101]⟩:ByteArray),.string (⟨#[108,105,110,101]⟩:ByteArray),.string (⟨#[102,105,110,105,115,104]⟩:ByteArray),.string (⟨#[114,101,108,101,97,115,101]⟩:ByteArray)]) (ok:=fun _=>True) (okp:=fun _=>True) ?hr ?hp (fun _ hk=>hk) trivial (Below.refl _ _) (Nat.le_refl _) (by simp) ?_;(case hd=>rfl);(case hg=>rfl);(case hr=>exact Fix.hr);(case hp=>exact(Reps.one (show Kd.M Kd.string _ _ _ (⟨#[]⟩:ByteArray) [.string (⟨#[]⟩:ByteArray)] from rfl) (Reps.one (show Kd.M Kd.string _ _ _ (⟨#[97,100,100]⟩:ByteArray) [.string (⟨#[97,100,100]⟩:ByteArray)] from rfl) (Reps.one (show Kd.M Kd.string _ _ _ (⟨#[116,97,107,101]⟩:ByteArray) [.string (⟨#[116,97,107,101]⟩:ByteArray)] from rfl) (Reps.one (show Kd.M Kd.string _ _ _ (⟨#[108,105,110,101]⟩:ByteArray) [.string (⟨#[108,105,110,101]⟩:ByteArray)] from rfl) (Reps.one (show Kd.M Kd.string _ _ _ (⟨#[102,105,110,105,115,104]⟩:ByteArray) [.string (⟨#[102,105,110,105,115,104]⟩:ByteArray)] from rfl) (Reps.one (show Kd.M Kd.string _ _ _ (⟨#[114,101,108,101,97,115,101]⟩:ByteArray) [.string (⟨#[114,101,108,101,97,115,101]⟩:ByteArray)] from rfl) (Reps.none _ _))))))));intro v1 w3 ho1 hb hg_ hnew_;clear hg_ hnew_;(first|rw[←Ny1.out]at ho1|(simp only[Int.reduceToNat]at ho1;rw[←Ny1.out]at ho1));have HO1:=lR ho1;replace BK1:=eK BK1 hb;replace HB:=eB hb;clear hb ho1;have h_:=d4 BK1.out;(repeat(obtain⟨_,h_⟩:=h_));obtain⟨Ao1,co1,eo1⟩:=Kd.R_slice HO1.out;subst eo1;have p1:0≤(a0_0:Int):=of_decide_eq_true (by first|(with_reducible assumption)|assumption);have q1:a0_0<(y1.length:Int):=of_decide_eq_true (by first|(with_reducible assumption)|assumption);obtain⟨ad1,e1,hx1_0⟩:=Kd.at_string (Kd.R_reads' HO1.out).2.2 a0_0 p1 q1;cases e1;replace p1:=eq_true p1;replace q1:=eq_true q1)|((with_reducible refine F (f:=34) rfl ?_);refine gl 34 (some 44) Tryd.func34 #[V I a0_1] ?_;(with_reducible refine(spec_FormatInt.calls k a0_1 t5 _ A2.out).mono ?_);rintro e w4 ⟨rfl,hb⟩;refine⟨_,rfl,?_⟩;replace HO1:=eR HO1 hb;replace BK1:=eK BK1 hb;replace HB:=eB hb;clear hb))
    go_ret2
    exact⟨rE,uB⟩):p:=h
set_option maxHeartbeats 40000000 in
set_option maxRecDepth 100000 in
theorem spec_FormatAct.calls (k:Nat) (a0_0:Int) (a0_1:Int) (a0_2:Int) (a0_3:Int) (r1:ByteArray) (r2:Bool) (w:World) (h:spec_FormatAct.f k a0_0 a0_1 a0_2 a0_3=some (r1,r2)):
    Calls Tryd.prog 8 #[G #[V I a0_0,V I a0_1,V I a0_2,V I a0_3]] w fun e w'=>e=.returned (.tuple #[.string r1,O r2])∧Below w.heap.size w w':=by
  have hu1:=Tryd.underlying26
  have HB:=C (Below.refl w.heap.size w)
  have H:=h
  unfold spec_FormatAct.f at H
  clear h
  obtain⟨t1,A1,H⟩:=bnd H
  by_cases c1:t1=true
  · subst c1
    rw[if_pos rfl]at H
    obtain⟨y1,hy1⟩:∃y_:List ByteArray,y_=(([(⟨#[]⟩:ByteArray),(⟨#[97,100,100]⟩:ByteArray),(⟨#[116,97,107,101]⟩:ByteArray),(⟨#[108,105,110,101]⟩:ByteArray),(⟨#[102,105,110,105,115,104]⟩:ByteArray),(⟨#[114,101,108,101,97,115,101]⟩:ByteArray)]:List ByteArray)):=⟨_,rfl⟩
    replace H:(if 0≤a0_0 then(if a0_0<(y1.length:Int) then(if a0_0=1 then(if(rdOf ByteArray.empty y1 a0_0).size+1≤9223372036854775807 then((spec_FormatInt.f k a0_1).bind fun t2=>(if((rdOf ByteArray.empty y1 a0_0)++(⟨#[32]⟩:ByteArray)).size+t2.size≤9223372036854775807 then(if(((rdOf ByteArray.empty y1 a0_0)++(⟨#[32]⟩:ByteArray))++t2).size+1≤9223372036854775807 then((spec_FormatInt.f k a0_2).bind fun t3=>(if((((rdOf ByteArray.empty y1 a0_0)++(⟨#[32]⟩:ByteArray))++t2)++(⟨#[32]⟩:ByteArray)).size+t3.size≤9223372036854775807 then(if(((((rdOf ByteArray.empty y1 a0_0)++(⟨#[32]⟩:ByteArray))++t2)++(⟨#[32]⟩:ByteArray))++t3).size+1≤9223372036854775807 then((spec_FormatInt.f k a0_3).bind fun t4=>(if((((((rdOf ByteArray.empty y1 a0_0)++(⟨#[32]⟩:ByteArray))++t2)++(⟨#[32]⟩:ByteArray))++t3)++(⟨#[32]⟩:ByteArray)).size+t4.size≤9223372036854775807 then(some (((((((rdOf ByteArray.empty y1 a0_0)++(⟨#[32]⟩:ByteArray))++t2)++(⟨#[32]⟩:ByteArray))++t3)++(⟨#[32]⟩:ByteArray))++t4,true)) else(none))) else(none)) else(none))) else(none)) else(none))) else(none)) else(if a0_0=3 then(if(rdOf ByteArray.empty y1 a0_0).size+1≤9223372036854775807 then((spec_FormatInt.f k a0_1).bind fun t5=>(if((rdOf ByteArray.empty y1 a0_0)++(⟨#[32]⟩:ByteArray)).size+t5.size≤9223372036854775807 then(some (((rdOf ByteArray.empty y1 a0_0)++(⟨#[32]⟩:ByteArray))++t5,true)) else(none))) else(none)) else(if a0_0=5 then(if(rdOf ByteArray.empty y1 a0_0).size+1≤9223372036854775807 then((spec_FormatInt.f k a0_1).bind fun t6=>(if((rdOf ByteArray.empty y1 a0_0)++(⟨#[32]⟩:ByteArray)).size+t6.size≤9223372036854775807 then(some (((rdOf ByteArray.empty y1 a0_0)++(⟨#[32]⟩:ByteArray))++t6,true)) else(none))) else(none)) else(some (rdOf ByteArray.empty y1 a0_0,true))))) else(none)) else(none))=some (r1,r2):=by first|(rw[hy1];with_reducible exact H)|(have H1_:=(Option.bind_some _ _).symm.trans H;rw[hy1];with_reducible exact H1_)|(have H1_:=(Option.bind_some _ _).symm.trans H;with_reducible exact H1_)|with_reducible exact H|(rw[hy1];exact H)|exact H
    have Ny1:=C hy1
    clear hy1
    by_cases c2:0≤a0_0
    · rw[if_pos c2]at H
      have c2b0:decide (0≤a0_0)=true:=decide_eq_true c2
      clear c2
      by_cases c3:a0_0<(y1.length:Int)
      · rw[if_pos c3]at H
        have c3b0:decide (a0_0<(y1.length:Int))=true:=decide_eq_true c3
        clear c3
        by_cases c4:a0_0=1
        · rw[if_pos c4]at H
          have c4b0:(a0_0==1)=true:=beq_iff_eq.mpr c4
          have c4b1:(a0_0 !=1)=false:=bne_eq_false_iff_eq.mpr c4
          clear c4
          by_cases c5:(rdOf ByteArray.empty y1 a0_0).size+1≤9223372036854775807
          · rw[if_pos c5]at H
            have c5b0:=eq_true c5
            have c5b1:decide ((rdOf ByteArray.empty y1 a0_0).size+1≤9223372036854775807)=true:=decide_eq_true c5
            try have c5b2:(9223372036854775807<(rdOf ByteArray.empty y1 a0_0).size+1)=False:=eq_false (Nat.not_lt.2 c5)
            try(have h1_:=c5;simp only[ByteArray.size_append,Ito.bsz,List.size_toArray,List.length_cons,List.length_nil]at h1_;have c5b3:=eq_false (Nat.not_lt.2 h1_);clear h1_)
            obtain⟨t2,A2,H⟩:=bnd H
            by_cases c6:((rdOf ByteArray.empty y1 a0_0)++(⟨#[32]⟩:ByteArray)).size+t2.size≤9223372036854775807
            · rw[if_pos c6]at H
              have c6b0:=eq_true c6
              have c6b1:decide (((rdOf ByteArray.empty y1 a0_0)++(⟨#[32]⟩:ByteArray)).size+t2.size≤9223372036854775807)=true:=decide_eq_true c6
              try have c6b2:(9223372036854775807<((rdOf ByteArray.empty y1 a0_0)++(⟨#[32]⟩:ByteArray)).size+t2.size)=False:=eq_false (Nat.not_lt.2 c6)
              try(have h1_:=c6;simp only[ByteArray.size_append,Ito.bsz,List.size_toArray,List.length_cons,List.length_nil]at h1_;have c6b3:=eq_false (Nat.not_lt.2 h1_);clear h1_)
              by_cases c7:(((rdOf ByteArray.empty y1 a0_0)++(⟨#[32]⟩:ByteArray))++t2).size+1≤9223372036854775807
              · rw[if_pos c7]at H
                have c7b0:=eq_true c7
                have c7b1:decide ((((rdOf ByteArray.empty y1 a0_0)++(⟨#[32]⟩:ByteArray))++t2).size+1≤9223372036854775807)=true:=decide_eq_true c7
                try have c7b2:(9223372036854775807<(((rdOf ByteArray.empty y1 a0_0)++(⟨#[32]⟩:ByteArray))++t2).size+1)=False:=eq_false (Nat.not_lt.2 c7)
                try(have h1_:=c7;simp only[ByteArray.size_append,Ito.bsz,List.size_toArray,List.length_cons,List.length_nil]at h1_;have c7b3:=eq_false (Nat.not_lt.2 h1_);clear h1_)
                obtain⟨t3,A3,H⟩:=bnd H
                by_cases c8:((((rdOf ByteArray.empty y1 a0_0)++(⟨#[32]⟩:ByteArray))++t2)++(⟨#[32]⟩:ByteArray)).size+t3.size≤9223372036854775807
                · rw[if_pos c8]at H
                  have c8b0:=eq_true c8
                  have c8b1:decide (((((rdOf ByteArray.empty y1 a0_0)++(⟨#[32]⟩:ByteArray))++t2)++(⟨#[32]⟩:ByteArray)).size+t3.size≤9223372036854775807)=true:=decide_eq_true c8
                  try have c8b2:(9223372036854775807<((((rdOf ByteArray.empty y1 a0_0)++(⟨#[32]⟩:ByteArray))++t2)++(⟨#[32]⟩:ByteArray)).size+t3.size)=False:=eq_false (Nat.not_lt.2 c8)
                  try(have h1_:=c8;simp only[ByteArray.size_append,Ito.bsz,List.size_toArray,List.length_cons,List.length_nil]at h1_;have c8b3:=eq_false (Nat.not_lt.2 h1_);clear h1_)
                  by_cases c9:(((((rdOf ByteArray.empty y1 a0_0)++(⟨#[32]⟩:ByteArray))++t2)++(⟨#[32]⟩:ByteArray))++t3).size+1≤9223372036854775807
                  · rw[if_pos c9]at H
                    have c9b0:=eq_true c9
                    have c9b1:decide ((((((rdOf ByteArray.empty y1 a0_0)++(⟨#[32]⟩:ByteArray))++t2)++(⟨#[32]⟩:ByteArray))++t3).size+1≤9223372036854775807)=true:=decide_eq_true c9
                    try have c9b2:(9223372036854775807<(((((rdOf ByteArray.empty y1 a0_0)++(⟨#[32]⟩:ByteArray))++t2)++(⟨#[32]⟩:ByteArray))++t3).size+1)=False:=eq_false (Nat.not_lt.2 c9)
                    try(have h1_:=c9;simp only[ByteArray.size_append,Ito.bsz,List.size_toArray,List.length_cons,List.length_nil]at h1_;have c9b3:=eq_false (Nat.not_lt.2 h1_);clear h1_)
                    obtain⟨t4,A4,H⟩:=bnd H
                    by_cases c10:((((((rdOf ByteArray.empty y1 a0_0)++(⟨#[32]⟩:ByteArray))++t2)++(⟨#[32]⟩:ByteArray))++t3)++(⟨#[32]⟩:ByteArray)).size+t4.size≤9223372036854775807
                    · rw[if_pos c10]at H
                      have c10b0:=eq_true c10
                      have c10b1:decide (((((((rdOf ByteArray.empty y1 a0_0)++(⟨#[32]⟩:ByteArray))++t2)++(⟨#[32]⟩:ByteArray))++t3)++(⟨#[32]⟩:ByteArray)).size+t4.size≤9223372036854775807)=true:=decide_eq_true c10
                      try have c10b2:(9223372036854775807<((((((rdOf ByteArray.empty y1 a0_0)++(⟨#[32]⟩:ByteArray))++t2)++(⟨#[32]⟩:ByteArray))++t3)++(⟨#[32]⟩:ByteArray)).size+t4.size)=False:=eq_false (Nat.not_lt.2 c10)
                      try(have h1_:=c10;simp only[ByteArray.size_append,Ito.bsz,List.size_toArray,List.length_cons,List.length_nil]at h1_;have c10b3:=eq_false (Nat.not_lt.2 h1_);clear h1_)
                      simp only[Option.some.injEq,Prod.mk.injEq]at H
                      obtain⟨rfl,rfl⟩:=H
                      go_enter Tryd.func8,Tryd.ntmps8
                      try go_wp2_with (first|((with_reducible refine J (N:=1) rfl ?_);refine Fix.be 1 #[V I a0_0,V I a0_1,V I a0_2,V I a0_3] 26 ?_;intro gb1 hg w1 BK1 hb;have GW1:D (w.heap.size≤gb1):=gE hg;have GE1:=GW1;replace HB:=eB hb;clear hb hg;have h_:=d4 BK1.out;(repeat(obtain⟨_,h_⟩:=h_)))|((with_reducible refine F (f:=33) rfl ?_);refine gl 33 (some 6) Tryd.func33 #[G #[V I a0_0,V I a0_1,V I a0_2,V I a0_3]] ?_;(with_reducible refine(spec_ActOk.calls k a0_0 a0_1 a0_2 a0_3 true _ A1.out).mono ?_);rintro e w2 ⟨rfl,hb⟩;refine⟨_,rfl,?_⟩;replace BK1:=eK BK1 hb;replace HB:=eB hb;clear hb)|((with_reducible refine J (N:=8) rfl ?_);refine Kd.R_lit Kd.string _ 9 ?hg (N:=8) ?hd (xs:=([(⟨#[]⟩:ByteArray),(⟨#[97,100,100]⟩:ByteArray),(⟨#[116,97,107,101]⟩:ByteArray),(⟨#[108,105,110,101]⟩:ByteArray),(⟨#[102,105,110,105,115,104]⟩:ByteArray),(⟨#[114,101,108,101,97,115,101]⟩:ByteArray)]:List ByteArray)) (inner:= [.string (⟨#[]⟩:ByteArray),.string (⟨#[97,100,100]⟩:ByteArray),.string (⟨#[116,97,107,101]⟩:ByteArray),.string (⟨#[108,105,110,101]⟩:ByteArray),.string (⟨#[102,105,110,105,115,104]⟩:ByteArray),.string (⟨#[114,101,108,101,97,115,101]⟩:ByteArray)]) (ok:=fun _=>True) (okp:=fun _=>True) ?hr ?hp (fun _ hk=>hk) trivial (Below.refl _ _) (Nat.le_refl _) (by simp) ?_;(case hd=>rfl);(case hg=>rfl);(case hr=>exact Fix.hr);(case hp=>exact(Reps.one (show Kd.M Kd.string _ _ _ (⟨#[]⟩:ByteArray) [.string (⟨#[]⟩:ByteArray)] from rfl) (Reps.one (show Kd.M Kd.string _ _ _ (⟨#[97,100,100]⟩:ByteArray) [.string (⟨#[97,100,100]⟩:ByteArray)] from rfl) (Reps.one (show Kd.M Kd.string _ _ _ (⟨#[116,97,107,101]⟩:ByteArray) [.string (⟨#[116,97,107,101]⟩:ByteArray)] from rfl) (Reps.one (show Kd.M Kd.string _ _ _ (⟨#[108,105,110,101]⟩:ByteArray) [.string (⟨#[108,105,110,101]⟩:ByteArray)] from rfl) (Reps.one (show Kd.M Kd.string _ _ _ (⟨#[102,105,110,105,115,104]⟩:ByteArray) [.string (⟨#[102,105,110,105,115,104]⟩:ByteArray)] from rfl) (Reps.one (show Kd.M Kd.string _ _ _ (⟨#[114,101,108,101,97,115,101]⟩:ByteArray) [.string (⟨#[114,101,108,101,97,115,101]⟩:ByteArray)] from rfl) (Reps.none _ _))))))));intro v1 w3 ho1 hb hg_ hnew_;clear hg_ hnew_;(first|rw[←Ny1.out]at ho1|(simp only[Int.reduceToNat]at ho1;rw[←Ny1.out]at ho1));have HO1:=lR ho1;replace BK1:=eK BK1 hb;replace HB:=eB hb;clear hb ho1;obtain⟨hcz1_0,hcz1_1,hcz1_2,hcz1_3,hfz1_0,hfz1_1,hfz1_2,hfz1_3⟩:=d4 BK1.out;obtain⟨Ao1,co1,eo1⟩:=Kd.R_slice HO1.out;subst eo1;have p1:0≤(a0_0:Int):=of_decide_eq_true (by first|(with_reducible assumption)|assumption);have q1:a0_0<(y1.length:Int):=of_decide_eq_true (by first|(with_reducible assumption)|assumption);obtain⟨ad1,e1,hx1_0⟩:=Kd.at_string (Kd.R_reads' HO1.out).2.2 a0_0 p1 q1;cases e1;replace p1:=eq_true p1;replace q1:=eq_true q1))
                      replace HO1:=dR HO1
                      replace BK1:=dK BK1
                      replace HB:=dB HB
                      refine start_ (n:=18) (S:=fun w'=>cl4 w' gb1 (V I a0_0) (V I a0_1) (V I a0_2) (V I a0_3)) (ds:= []) #[false,false,false,false,false,false,false,false,false,false,false,false,false,false,false,false,false,false] (by kernel_rfl) rfl rfl hh (fun hHeld=> ?_);refine with_tabW spec_FormatAct.tab5 spec_FormatAct.bits5 (fun HT_ HW_=> ?_)
                      generalize w3.drew=w4 at HO1 BK1 HB hHeld ⊢
                      refine pu 0 (some 16) ?_
                      refine pu 1 (some 17) ?_
                      refine pu 2 (some 18) ?_
                      refine pu 7 (some 23) ?_
                      refine pu 12 (some 28) ?_
                      refine tu 3 (some 19) hHeld ?_
                      refine tu 8 (some 24) hHeld ?_
                      refine tu 13 (some 29) hHeld ?_
                      refine ou 4 (some 20) (fun K hK=> ?_)
                      refine gs Tryd.func34 #[V I a0_1] ?_
                      with_reducible refine(spec_FormatInt.calls k a0_1 t2 _ A2.out).mono ?_
                      rintro e w5 ⟨rfl,hb⟩
                      refine⟨_,rfl,?_⟩
                      replace HO1:=eR HO1 hb
                      replace BK1:=eK BK1 hb
                      replace HB:=eB hb
                      (try clear hb)
                      refine hK.out _ _ hh (fun hHeld=> ?_)
                      clear hK K
                      refine nu (N:=(some 20)) ?_
                      refine pu 5 (some 21) ?_
                      refine pu 6 (some 22) ?_
                      refine ou 9 (some 25) (fun K hK=> ?_)
                      refine gs Tryd.func34 #[V I a0_2] ?_
                      with_reducible refine(spec_FormatInt.calls k a0_2 t3 _ A3.out).mono ?_
                      rintro e w6 ⟨rfl,hb⟩
                      refine⟨_,rfl,?_⟩
                      replace HO1:=eR HO1 hb
                      replace BK1:=eK BK1 hb
                      replace HB:=eB hb
                      (try clear hb)
                      refine hK.out _ _ hh (fun hHeld=> ?_)
                      clear hK K
                      refine nu (N:=(some 25)) ?_
                      refine pu 10 (some 26) ?_
                      refine pu 11 (some 27) ?_
                      refine ou 14 (some 30) (fun K hK=> ?_)
                      refine gs Tryd.func34 #[V I a0_3] ?_
                      with_reducible refine(spec_FormatInt.calls k a0_3 t4 _ A4.out).mono ?_
                      rintro e w7 ⟨rfl,hb⟩
                      refine⟨_,rfl,?_⟩
                      replace HO1:=eR HO1 hb
                      replace BK1:=eK BK1 hb
                      replace HB:=eB hb
                      (try clear hb)
                      refine hK.out _ _ hh (fun hHeld=> ?_)
                      clear hK K
                      refine nu (N:=(some 30)) ?_
                      refine pu 15 (some 31) ?_
                      refine pu 16 (some 2) ?_
                      refine pu 17 (some 3) ?_
                      refine done_ (done_of HT_.out (by kernel_rfl)) ?_
                      try go_wp2
                      go_ret2
                      exact⟨rE,uB⟩
                    · rw[if_neg c10]at H
                      exact absurd H (by simp)
                  · rw[if_neg c9]at H
                    exact absurd H (by simp)
                · rw[if_neg c8]at H
                  exact absurd H (by simp)
              · rw[if_neg c7]at H
                exact absurd H (by simp)
            · rw[if_neg c6]at H
              exact absurd H (by simp)
          · rw[if_neg c5]at H
            exact absurd H (by simp)
        · rw[if_neg c4]at H
          have c4b0:(a0_0==1)=false:=beq_eq_false_iff_ne.mpr c4
          have c4b1:(a0_0 !=1)=true:=bne_iff_ne.mpr c4
          by_cases c5:a0_0=3
          · rw[if_pos c5]at H
            have c5b0:(a0_0==3)=true:=beq_iff_eq.mpr c5
            have c5b1:(a0_0 !=3)=false:=bne_eq_false_iff_eq.mpr c5
            clear c5
            by_cases c6:(rdOf ByteArray.empty y1 a0_0).size+1≤9223372036854775807
            · rw[if_pos c6]at H
              have c6b0:=eq_true c6
              have c6b1:decide ((rdOf ByteArray.empty y1 a0_0).size+1≤9223372036854775807)=true:=decide_eq_true c6
              try have c6b2:(9223372036854775807<(rdOf ByteArray.empty y1 a0_0).size+1)=False:=eq_false (Nat.not_lt.2 c6)
              try(have h1_:=c6;simp only[ByteArray.size_append,Ito.bsz,List.size_toArray,List.length_cons,List.length_nil]at h1_;have c6b3:=eq_false (Nat.not_lt.2 h1_);clear h1_)
              obtain⟨t5,A2,H⟩:=bnd H
              by_cases c7:((rdOf ByteArray.empty y1 a0_0)++(⟨#[32]⟩:ByteArray)).size+t5.size≤9223372036854775807
              · rw[if_pos c7]at H
                have c7b0:=eq_true c7
                have c7b1:decide (((rdOf ByteArray.empty y1 a0_0)++(⟨#[32]⟩:ByteArray)).size+t5.size≤9223372036854775807)=true:=decide_eq_true c7
                try have c7b2:(9223372036854775807<((rdOf ByteArray.empty y1 a0_0)++(⟨#[32]⟩:ByteArray)).size+t5.size)=False:=eq_false (Nat.not_lt.2 c7)
                try(have h1_:=c7;simp only[ByteArray.size_append,Ito.bsz,List.size_toArray,List.length_cons,List.length_nil]at h1_;have c7b3:=eq_false (Nat.not_lt.2 h1_);clear h1_)
                simp only[Option.some.injEq,Prod.mk.injEq]at H
                obtain⟨rfl,rfl⟩:=H
                exact spec_FormatAct.W1
              · rw[if_neg c7]at H
                exact absurd H (by simp)
            · rw[if_neg c6]at H
              exact absurd H (by simp)
          · rw[if_neg c5]at H
            have c5b0:(a0_0==3)=false:=beq_eq_false_iff_ne.mpr c5
            have c5b1:(a0_0 !=3)=true:=bne_iff_ne.mpr c5
            by_cases c6:a0_0=5
            · rw[if_pos c6]at H
              have c6b0:(a0_0==5)=true:=beq_iff_eq.mpr c6
              have c6b1:(a0_0 !=5)=false:=bne_eq_false_iff_eq.mpr c6
              clear c6
              by_cases c7:(rdOf ByteArray.empty y1 a0_0).size+1≤9223372036854775807
              · rw[if_pos c7]at H
                have c7b0:=eq_true c7
                have c7b1:decide ((rdOf ByteArray.empty y1 a0_0).size+1≤9223372036854775807)=true:=decide_eq_true c7
                try have c7b2:(9223372036854775807<(rdOf ByteArray.empty y1 a0_0).size+1)=False:=eq_false (Nat.not_lt.2 c7)
                try(have h1_:=c7;simp only[ByteArray.size_append,Ito.bsz,List.size_toArray,List.length_cons,List.length_nil]at h1_;have c7b3:=eq_false (Nat.not_lt.2 h1_);clear h1_)
                obtain⟨t6,A2,H⟩:=bnd H
                by_cases c8:((rdOf ByteArray.empty y1 a0_0)++(⟨#[32]⟩:ByteArray)).size+t6.size≤9223372036854775807
                · rw[if_pos c8]at H
                  have c8b0:=eq_true c8
                  have c8b1:decide (((rdOf ByteArray.empty y1 a0_0)++(⟨#[32]⟩:ByteArray)).size+t6.size≤9223372036854775807)=true:=decide_eq_true c8
                  try have c8b2:(9223372036854775807<((rdOf ByteArray.empty y1 a0_0)++(⟨#[32]⟩:ByteArray)).size+t6.size)=False:=eq_false (Nat.not_lt.2 c8)
                  try(have h1_:=c8;simp only[ByteArray.size_append,Ito.bsz,List.size_toArray,List.length_cons,List.length_nil]at h1_;have c8b3:=eq_false (Nat.not_lt.2 h1_);clear h1_)
                  simp only[Option.some.injEq,Prod.mk.injEq]at H
                  obtain⟨rfl,rfl⟩:=H
                  go_enter Tryd.func8,Tryd.ntmps8
                  go_wp2_with (first|((with_reducible refine J (N:=1) rfl ?_);refine Fix.be 1 #[V I a0_0,V I a0_1,V I a0_2,V I a0_3] 26 ?_;intro gb1 hg w1 BK1 hb;have GW1:D (w.heap.size≤gb1):=gE hg;have GE1:=GW1;replace HB:=eB hb;clear hb hg;have h_:=d4 BK1.out;(repeat(obtain⟨_,h_⟩:=h_)))|((with_reducible refine F (f:=33) rfl ?_);refine gl 33 (some 6) Tryd.func33 #[G #[V I a0_0,V I a0_1,V I a0_2,V I a0_3]] ?_;(with_reducible refine(spec_ActOk.calls k a0_0 a0_1 a0_2 a0_3 true _ A1.out).mono ?_);rintro e w2 ⟨rfl,hb⟩;refine⟨_,rfl,?_⟩;replace BK1:=eK BK1 hb;replace HB:=eB hb;clear hb)|((with_reducible refine J (N:=8) rfl ?_);refine Kd.R_lit Kd.string _ 9 ?hg (N:=8) ?hd (xs:=([(⟨#[]⟩:ByteArray),(⟨#[97,100,100]⟩:ByteArray),(⟨#[116,97,107,101]⟩:ByteArray),(⟨#[108,105,110,101]⟩:ByteArray),(⟨#[102,105,110,105,115,104]⟩:ByteArray),(⟨#[114,101,108,101,97,115,101]⟩:ByteArray)]:List ByteArray)) (inner:= [.string (⟨#[]⟩:ByteArray),.string (⟨#[97,100,100]⟩:ByteArray),.string (⟨#[116,97,107,101]⟩:ByteArray),.string (⟨#[108,105,110,101]⟩:ByteArray),.string (⟨#[102,105,110,105,115,104]⟩:ByteArray),.string (⟨#[114,101,108,101,97,115,101]⟩:ByteArray)]) (ok:=fun _=>True) (okp:=fun _=>True) ?hr ?hp (fun _ hk=>hk) trivial (Below.refl _ _) (Nat.le_refl _) (by simp) ?_;(case hd=>rfl);(case hg=>rfl);(case hr=>exact Fix.hr);(case hp=>exact(Reps.one (show Kd.M Kd.string _ _ _ (⟨#[]⟩:ByteArray) [.string (⟨#[]⟩:ByteArray)] from rfl) (Reps.one (show Kd.M Kd.string _ _ _ (⟨#[97,100,100]⟩:ByteArray) [.string (⟨#[97,100,100]⟩:ByteArray)] from rfl) (Reps.one (show Kd.M Kd.string _ _ _ (⟨#[116,97,107,101]⟩:ByteArray) [.string (⟨#[116,97,107,101]⟩:ByteArray)] from rfl) (Reps.one (show Kd.M Kd.string _ _ _ (⟨#[108,105,110,101]⟩:ByteArray) [.string (⟨#[108,105,110,101]⟩:ByteArray)] from rfl) (Reps.one (show Kd.M Kd.string _ _ _ (⟨#[102,105,110,105,115,104]⟩:ByteArray) [.string (⟨#[102,105,110,105,115,104]⟩:ByteArray)] from rfl) (Reps.one (show Kd.M Kd.string _ _ _ (⟨#[114,101,108,101,97,115,101]⟩:ByteArray) [.string (⟨#[114,101,108,101,97,115,101]⟩:ByteArray)] from rfl) (Reps.none _ _))))))));intro v1 w3 ho1 hb hg_ hnew_;clear hg_ hnew_;(first|rw[←Ny1.out]at ho1|(simp only[Int.reduceToNat]at ho1;rw[←Ny1.out]at ho1));have HO1:=lR ho1;replace BK1:=eK BK1 hb;replace HB:=eB hb;clear hb ho1;have h_:=d4 BK1.out;(repeat(obtain⟨_,h_⟩:=h_));obtain⟨Ao1,co1,eo1⟩:=Kd.R_slice HO1.out;subst eo1;have p1:0≤(a0_0:Int):=of_decide_eq_true (by first|(with_reducible assumption)|assumption);have q1:a0_0<(y1.length:Int):=of_decide_eq_true (by first|(with_reducible assumption)|assumption);obtain⟨ad1,e1,hx1_0⟩:=Kd.at_string (Kd.R_reads' HO1.out).2.2 a0_0 p1 q1;cases e1;replace p1:=eq_true p1;replace q1:=eq_true q1)|((with_reducible refine F (f:=34) rfl ?_);refine gl 34 (some 44) Tryd.func34 #[V I a0_1] ?_;(with_reducible refine(spec_FormatInt.calls k a0_1 t6 _ A2.out).mono ?_);rintro e w4 ⟨rfl,hb⟩;refine⟨_,rfl,?_⟩;replace HO1:=eR HO1 hb;replace BK1:=eK BK1 hb;replace HB:=eB hb;clear hb))
                  go_ret2
                  exact⟨rE,uB⟩
                · rw[if_neg c8]at H
                  exact absurd H (by simp)
              · rw[if_neg c7]at H
                exact absurd H (by simp)
            · rw[if_neg c6]at H
              have c6b0:(a0_0==5)=false:=beq_eq_false_iff_ne.mpr c6
              have c6b1:(a0_0 !=5)=true:=bne_iff_ne.mpr c6
              simp only[Option.some.injEq,Prod.mk.injEq]at H
              obtain⟨rfl,rfl⟩:=H
              exact spec_FormatAct.W1
      · rw[if_neg c3]at H
        exact absurd H (by simp)
    · rw[if_neg c2]at H
      exact absurd H (by simp)
  · replace c1:=Bool.eq_false_iff.mpr c1
    subst c1
    rw[if_neg Bool.false_ne_true]at H
    simp only[Option.some.injEq,Prod.mk.injEq]at H
    obtain⟨rfl,rfl⟩:=H
    go_enter Tryd.func8,Tryd.ntmps8
    go_wp2_with (first|((with_reducible refine J (N:=1) rfl ?_);refine Fix.be 1 #[V I a0_0,V I a0_1,V I a0_2,V I a0_3] 26 ?_;intro gb1 hg w1 BK1 hb;have GW1:D (w.heap.size≤gb1):=gE hg;have GE1:=GW1;replace HB:=eB hb;clear hb hg;have h_:=d4 BK1.out;(repeat(obtain⟨_,h_⟩:=h_)))|((with_reducible refine F (f:=33) rfl ?_);refine gl 33 (some 6) Tryd.func33 #[G #[V I a0_0,V I a0_1,V I a0_2,V I a0_3]] ?_;(with_reducible refine(spec_ActOk.calls k a0_0 a0_1 a0_2 a0_3 false _ A1.out).mono ?_);rintro e w2 ⟨rfl,hb⟩;refine⟨_,rfl,?_⟩;replace BK1:=eK BK1 hb;replace HB:=eB hb;clear hb))
    go_ret2
    exact⟨rE,uB⟩
def spec_ScriptText.l0:Nat→List (S26)→List Int→Int→Option (ByteArray×Bool)
  |0,_,_,_=>none
  |k+1,x0,x4,x5=>if x5<(x0.length:Int) then(if 0≤x5 then((spec_FormatAct.f k ((rd_T26 x0 x5).f0) ((rd_T26 x0 x5).f1) ((rd_T26 x0 x5).f2) ((rd_T26 x0 x5).f3)).bind fun bt141=>(if bt141.2=true then(if(x0.length:Int) >40 then(some ((⟨#[]⟩:ByteArray),false)) else(if bt141.1.size+1≤9223372036854775807 then(if x4.length+(bt141.1++(⟨#[10]⟩:ByteArray)).size<140737488355328 then(spec_ScriptText.l0 k x0 (x4++bytesOf (bt141.1++(⟨#[10]⟩:ByteArray))) (wrap64 (x5+1))) else(none)) else(none))) else(some ((⟨#[]⟩:ByteArray),false)))) else(none)) else(some (strOfNums x4,true))
def spec_ScriptText.f (k:Nat) (l0:List (S26)):Option (ByteArray×Bool):=spec_ScriptText.l0 k l0 (([]:List Int)) 0
theorem spec_ScriptText.mono_l:∀k,(∀y0 y1 y2,LeO (spec_ScriptText.l0 k y0 y1 y2) (spec_ScriptText.l0 (k+1) y0 y1 y2))
  |0=>fun _ _ _ r h=>by simp[spec_ScriptText.l0]at h
  |k+1=>by
    have ih0:=spec_ScriptText.mono_l k
    · intro y0 y1 y2
      unfold spec_ScriptText.l0
      repeat' first|(with_reducible first|apply ih0|apply spec_FormatAct.mono|exact LeO.refl _|exact LeO.none _|refine LeO.ite ?_ ?_|refine LeO.bind ?_ (fun _=> ?_))|apply ih0|exact LeO.none _|refine LeO.ite ?_ ?_|refine LeO.bind ?_ (fun _=> ?_)
theorem spec_ScriptText.mono:∀a0 k,LeO (spec_ScriptText.f k a0) (spec_ScriptText.f (k+1) a0):=by
  intro a0 k
  have ih0:=spec_ScriptText.mono_l k
  unfold spec_ScriptText.f
  repeat' first|(with_reducible first|apply ih0|apply spec_FormatAct.mono|exact LeO.refl _|exact LeO.none _|refine LeO.ite ?_ ?_|refine LeO.bind ?_ (fun _=> ?_))|apply ih0|exact LeO.none _|refine LeO.ite ?_ ?_|refine LeO.bind ?_ (fun _=> ?_)
set_option maxHeartbeats 40000000 in
set_option maxRecDepth 100000 in
theorem spec_ScriptText.calls (k:Nat) (A0:Option Addr) (c0:Nat) (l0:List (S26)) (r1:ByteArray) (r2:Bool) (w:World) (hr0:Kd.C k26 w A0 l0.length l0) (hc0:l0.length≤c0) (h:spec_ScriptText.f k l0=some (r1,r2)):
    Calls Tryd.prog 12 #[.slice A0 l0.length c0] w fun e w'=>e=.returned (.tuple #[.string r1,O r2])∧Below w.heap.size w w':=by
  have hu1:=Tryd.underlying26
  have HR1:=C hr0
  have HC1:=C hc0
  (try clear hr0);(try clear hc0)
  have HB:=C (Below.refl w.heap.size w)
  have H:=h
  unfold spec_ScriptText.f at H
  clear h
  obtain⟨y1,hy1⟩:∃y_:List Int,y_=(([]:List Int)):=⟨_,rfl⟩
  replace H:(spec_ScriptText.l0 k l0 y1 0)=some (r1,r2):=by first|(rw[hy1];with_reducible exact H)|(have H1_:=(Option.bind_some _ _).symm.trans H;rw[hy1];with_reducible exact H1_)|(have H1_:=(Option.bind_some _ _).symm.trans H;with_reducible exact H1_)|with_reducible exact H|(rw[hy1];exact H)|exact H
  have Ny1:=C hy1
  clear hy1
  have H':=C H
  clear H
  go_enter Tryd.func12,Tryd.ntmps12
  go_wp2_with (first|((with_reducible refine J (N:=8) rfl ?_);(try(refine gate_guard (by rfl) ?_;dsimp only));refine Kd.R_lit (Kd.int .u8) _ 5 ?hg (N:=8) ?hd (xs:=([]:List Int)) (inner:= []) (ok:=fun _=>True) (okp:=fun _=>True) ?hr ?hp (fun _ hk=>hk) trivial (Below.refl _ _) (Nat.le_refl _) (by simp) ?_;(case hd=>rfl);(case hg=>rfl);(case hr=>exact Fix.hr);(case hp=>exact(Reps.none _ _));intro v1 w1 ho1 hb hg_ hnew_;clear hg_ hnew_;(first|rw[←Ny1.out]at ho1|(simp only[Int.reduceToNat]at ho1;rw[←Ny1.out]at ho1));have HO1:=lR ho1;replace HB:=eB hb;clear hb ho1))
  go_loopg [4,5] k (fun kq v4 v5 w'=>∃(x1_1:List Int) (x2_1:Int),v5=V I x2_1∧D (spec_ScriptText.l0 kq l0 x1_1 x2_1=some (r1,r2))∧D (kq≤k)∧D (Kd.R (Kd.int .u8) 5 w' w.heap.size (fun _=>True) v4 x1_1)∧D (Below w.heap.size w w'))
  case atStart=>exact⟨(y1),(0),rS,H',⟨Nat.le_refl _⟩,⟨fR HO1.out⟩,⟨uB⟩⟩
  case round=>
    clear H'
    obtain⟨x1_1,x2_1,rfl,HA,HK1,HO_1,HB⟩:=hrel
    cases gk with
    |zero=>exact absurd HA.out (by simp[spec_ScriptText.l0])
    |succ k1=>
      have H:=HA.out
      clear HA
      simp only[spec_ScriptText.l0]at H
      by_cases c1:x2_1<(l0.length:Int)
      · rw[if_pos c1]at H
        have c1b0:decide (x2_1<(l0.length:Int))=true:=decide_eq_true c1
        clear c1
        by_cases c2:0≤x2_1
        · rw[if_pos c2]at H
          have c2b0:decide (0≤x2_1)=true:=decide_eq_true c2
          clear c2
          obtain⟨⟨t1,t2⟩,A1,H⟩:=bnd H
          dsimp only at H
          by_cases c3:t2=true
          · subst c3
            rw[if_pos rfl]at H
            by_cases c4:(l0.length:Int) >40
            · rw[if_pos c4]at H
              have c4b0:decide (40<(l0.length:Int))=true:=decide_eq_true c4
              have c4b1:decide (40<l0.length)=true:=decide_eq_true (by omega)
              clear c4
              simp only[Option.some.injEq,Prod.mk.injEq]at H
              obtain⟨rfl,rfl⟩:=H
              have p1:0≤(x2_1:Int):=of_decide_eq_true (by first|(with_reducible assumption)|assumption)
              have q1:x2_1<(l0.length:Int):=of_decide_eq_true (by first|(with_reducible assumption)|assumption)
              obtain⟨ad1,e1,hx1_0,hx1_1,hx1_2,hx1_3⟩:=at_T26 HR1.out x2_1 p1 q1
              cases e1
              replace hx1_0:=hx HB hx1_0
              replace hx1_1:=hx HB hx1_1
              replace hx1_2:=hx HB hx1_2
              replace hx1_3:=hx HB hx1_3
              replace p1:=eq_true p1
              replace q1:=eq_true q1
              go_wp2_with (first|((with_reducible refine F (f:=8) rfl ?_);refine gl 8 (some 20) Tryd.func8 #[G #[V I ((rd_T26 l0 x2_1).f0),V I ((rd_T26 l0 x2_1).f1),V I ((rd_T26 l0 x2_1).f2),V I ((rd_T26 l0 x2_1).f3)]] ?_;(with_reducible refine(spec_FormatAct.calls k1 ((rd_T26 l0 x2_1).f0) ((rd_T26 l0 x2_1).f1) ((rd_T26 l0 x2_1).f2) ((rd_T26 l0 x2_1).f3) t1 true _ A1.out).mono ?_);rintro e w2 ⟨rfl,hb⟩;refine⟨_,rfl,?_⟩;replace HO_1:=eR HO_1 hb;replace HB:=eB hb;clear hb))
              go_ret2
              exact⟨rE,uB⟩
            · rw[if_neg c4]at H
              have c4b0:decide (40<(l0.length:Int))=false:=decide_eq_false c4
              have c4b1:decide (40<l0.length)=false:=decide_eq_false (by omega)
              clear c4
              by_cases c5:t1.size+1≤9223372036854775807
              · rw[if_pos c5]at H
                have c5b0:=eq_true c5
                have c5b1:decide (t1.size+1≤9223372036854775807)=true:=decide_eq_true c5
                try have c5b2:(9223372036854775807<t1.size+1)=False:=eq_false (Nat.not_lt.2 c5)
                try(have h2_:=c5;simp only[ByteArray.size_append,Ito.bsz,List.size_toArray,List.length_cons,List.length_nil]at h2_;have c5b3:=eq_false (Nat.not_lt.2 h2_);clear h2_)
                by_cases c6:x1_1.length+(t1++(⟨#[10]⟩:ByteArray)).size<140737488355328
                · rw[if_pos c6]at H
                  have LMc1:=C c6
                  clear c6
                  obtain⟨y2,hy2⟩:∃y_:List Int,y_=(x1_1++bytesOf (t1++(⟨#[10]⟩:ByteArray))):=⟨_,rfl⟩
                  replace H:(spec_ScriptText.l0 k1 l0 y2 (wrap64 (x2_1+1)))=some (r1,r2):=by first|(rw[hy2];with_reducible exact H)|(have H1_:=(Option.bind_some _ _).symm.trans H;rw[hy2];with_reducible exact H1_)|(have H1_:=(Option.bind_some _ _).symm.trans H;with_reducible exact H1_)|with_reducible exact H|(rw[hy2];exact H)|exact H
                  have Ny2:=C hy2
                  clear hy2
                  have H':=C H
                  clear H
                  have p1:0≤(x2_1:Int):=of_decide_eq_true (by first|(with_reducible assumption)|assumption)
                  have q1:x2_1<(l0.length:Int):=of_decide_eq_true (by first|(with_reducible assumption)|assumption)
                  obtain⟨ad1,e1,hx1_0,hx1_1,hx1_2,hx1_3⟩:=at_T26 HR1.out x2_1 p1 q1
                  cases e1
                  replace hx1_0:=hx HB hx1_0
                  replace hx1_1:=hx HB hx1_1
                  replace hx1_2:=hx HB hx1_2
                  replace hx1_3:=hx HB hx1_3
                  replace p1:=eq_true p1
                  replace q1:=eq_true q1
                  go_wp2_with (first|((with_reducible refine F (f:=8) rfl ?_);refine gl 8 (some 20) Tryd.func8 #[G #[V I ((rd_T26 l0 x2_1).f0),V I ((rd_T26 l0 x2_1).f1),V I ((rd_T26 l0 x2_1).f2),V I ((rd_T26 l0 x2_1).f3)]] ?_;(with_reducible refine(spec_FormatAct.calls k1 ((rd_T26 l0 x2_1).f0) ((rd_T26 l0 x2_1).f1) ((rd_T26 l0 x2_1).f2) ((rd_T26 l0 x2_1).f3) t1 true _ A1.out).mono ?_);rintro e w2 ⟨rfl,hb⟩;refine⟨_,rfl,?_⟩;replace HO_1:=eR HO_1 hb;replace HB:=eB hb;clear hb)|(at_builtin;refine print_append_str (w0:=w) w.heap.size rfl (.tmp 30) _ 36 9 5 rfl Tryd.underlying36 Tryd.underlying9 info5 u4 x1_1 (t1++(⟨#[10]⟩:ByteArray)) rfl rfl ?aO ?aB ?aS ?aL ?_;(case aB=>exact uB);(case aO=>exact(Kd.own_of_R (uR HO_1.out)));(case aS=>exact(below_size uB));(case aL=>have:=LMc1.out;omega);intro v2 w3 ho2 hb hg;have ho:=Kd.R_of_own (h1:=fun _=>rfl) (ok:=fun _=>True) ho2 (fun _ _=>trivial);clear ho2;have hat:=True.intro;rw[←Ny2.out]at ho;change Kd.R (Kd.int .u8) 5 w3 w.heap.size (fun _=>True) v2 y2 at ho;have HO2:=C (ho);replace HB:=C (hb);clear HO_1;clear ho hb hg hat))
                  go_roundg k1
                  case measure=>have:=HK1.out;omega
                  case rel=>exact⟨(y2),(wrap64 (x2_1+1)),rS,H',⟨by have:=HK1.out;omega⟩,⟨fR HO2.out⟩,⟨uB⟩⟩
                · rw[if_neg c6]at H
                  exact absurd H (by simp)
              · rw[if_neg c5]at H
                exact absurd H (by simp)
          · replace c3:=Bool.eq_false_iff.mpr c3
            subst c3
            rw[if_neg Bool.false_ne_true]at H
            simp only[Option.some.injEq,Prod.mk.injEq]at H
            obtain⟨rfl,rfl⟩:=H
            have p1:0≤(x2_1:Int):=of_decide_eq_true (by first|(with_reducible assumption)|assumption)
            have q1:x2_1<(l0.length:Int):=of_decide_eq_true (by first|(with_reducible assumption)|assumption)
            obtain⟨ad1,e1,hx1_0,hx1_1,hx1_2,hx1_3⟩:=at_T26 HR1.out x2_1 p1 q1
            cases e1
            replace hx1_0:=hx HB hx1_0
            replace hx1_1:=hx HB hx1_1
            replace hx1_2:=hx HB hx1_2
            replace hx1_3:=hx HB hx1_3
            replace p1:=eq_true p1
            replace q1:=eq_true q1
            go_wp2_with (first|((with_reducible refine F (f:=8) rfl ?_);refine gl 8 (some 20) Tryd.func8 #[G #[V I ((rd_T26 l0 x2_1).f0),V I ((rd_T26 l0 x2_1).f1),V I ((rd_T26 l0 x2_1).f2),V I ((rd_T26 l0 x2_1).f3)]] ?_;(with_reducible refine(spec_FormatAct.calls k1 ((rd_T26 l0 x2_1).f0) ((rd_T26 l0 x2_1).f1) ((rd_T26 l0 x2_1).f2) ((rd_T26 l0 x2_1).f3) t1 false _ A1.out).mono ?_);rintro e w2 ⟨rfl,hb⟩;refine⟨_,rfl,?_⟩;replace HO_1:=eR HO_1 hb;replace HB:=eB hb;clear hb))
            go_ret2
            exact⟨rE,uB⟩
        · rw[if_neg c2]at H
          exact absurd H (by simp)
      · rw[if_neg c1]at H
        have c1b0:decide (x2_1<(l0.length:Int))=false:=decide_eq_false c1
        clear c1
        simp only[Option.some.injEq,Prod.mk.injEq]at H
        obtain⟨rfl,rfl⟩:=H
        have hcv1:=own_string (P:=Tryd.prog) Tryd.underlying36 Tryd.underlying5 Tryd.underlying9 (Kd.own_of_R HO_1.out)
        go_wp2
        go_ret2
        exact⟨rE,uB⟩
def laws_toAct.f (a0_0:Int) (a0_1:Int) (a0_2:Int) (a0_3:Int):Option (Int×Int×Int×Int):=some (a0_0,a0_1,a0_2,a0_3)
set_option maxHeartbeats 40000000 in
set_option maxRecDepth 100000 in
theorem laws_toAct.calls (a0_0:Int) (a0_1:Int) (a0_2:Int) (a0_3:Int) (r1:Int) (r2:Int) (r3:Int) (r4:Int) (w:World) (h:laws_toAct.f a0_0 a0_1 a0_2 a0_3=some (r1,r2,r3,r4)):
    Calls Tryd.prog 9 #[G #[V I a0_0,V I a0_1,V I a0_2,V I a0_3]] w fun e w'=>e=.returned (G #[V I r1,V I r2,V I r3,V I r4])∧Below w.heap.size w w':=by
  have hu1:=Tryd.underlying23
  have hu2:=Tryd.underlying26
  have HB:=C (Below.refl w.heap.size w)
  have H:=h
  unfold laws_toAct.f at H
  clear h
  simp only[Option.some.injEq,Prod.mk.injEq]at H
  obtain⟨rfl,rfl,rfl,rfl⟩:=H
  go_enter Tryd.func9,Tryd.ntmps9
  go_wp2_with (first|((with_reducible refine J (N:=1) rfl ?_);refine Fix.be 1 #[V I a0_0,V I a0_1,V I a0_2,V I a0_3] 23 ?_;intro gb1 hg w1 BK1 hb;have GW1:D (w.heap.size≤gb1):=gE hg;have GE1:=GW1;replace HB:=eB hb;clear hb hg)|((with_reducible refine J (N:=2) rfl ?_);refine Fix.be 2 #[V I 0,V I 0,V I 0,V I 0] 26 ?_;intro gb2 hg w2 BK2 hb;have GW2:D (w.heap.size≤gb2):=gE hg;have GE2:=GW2;have NB1_147:=nL hg BK1;have NB2_146:=nG hg BK1;replace BK1:=eK BK1 hb;replace HB:=eB hb;clear hb hg)|((with_reducible refine J (N:=3) rfl ?_);refine Fix.be 3 #[V I 0,V I 0,V I 0,V I 0] 26 ?_;intro gb3 hg w3 BK3 hb;have GW3:D (w.heap.size≤gb3):=gE hg;have GE3:=GW3;have NB1_148:=nL hg BK1;have NB3_146:=nG hg BK1;have NB2_148:=nL hg BK2;have NB3_147:=nG hg BK2;replace BK1:=eK BK1 hb;replace BK2:=eK BK2 hb;replace HB:=eB hb;clear hb hg;have hnb1:=NB1_147.out;have hnc1:=NB2_146.out;have hnb2:=NB1_148.out;have hnc2:=NB3_146.out;have h_:=d4 BK1.out;(repeat(obtain⟨_,h_⟩:=h_));have hnb3:=NB3_147.out;have hnc3:=NB2_148.out;have h_:=d4 BK3.out;(repeat(obtain⟨_,h_⟩:=h_));obtain⟨hcz1_0,hcz1_1,hcz1_2,hcz1_3,hfz1_0,hfz1_1,hfz1_2,hfz1_3⟩:=d4 BK2.out))
  refine bodyPost_ret (results_cell_row rfl _ _ gb2 26 #[V I a0_0,V I a0_1,V I a0_2,V I a0_3] (0,0) _ rfl (bK BK2.out) Tryd.underlying26 rfl (by kernel_rfl)) rfl ?_
  exact⟨rE,uB⟩
def laws_toActS.l0:Nat→List (S23)→List (S26)→Int→Option ((List (S26)))
  |0,_,_,_=>none
  |k+1,x0,x3,x4=>if x4<(x0.length:Int) then(if 0≤x4 then((laws_toAct.f ((rd_T23 x0 x4).f0) ((rd_T23 x0 x4).f1) ((rd_T23 x0 x4).f2) ((rd_T23 x0 x4).f3)).bind fun bt153=>(if x4<(x3.length:Int) then(laws_toActS.l0 k x0 (x3.set (x4:Int).toNat (⟨bt153.1,bt153.2.1,bt153.2.2.1,bt153.2.2.2⟩:S26)) (wrap64 (x4+1))) else(none))) else(none)) else(some x3)
def laws_toActS.f (k:Nat) (l0:List (S23)):Option ((List (S26))):=if 0≤(l0.length:Int) then(if((l0.length:Int):Int).toNat≤8796093022208 then(laws_toActS.l0 k l0 (List.replicate ((l0.length:Int):Int).toNat z26) 0) else(none)) else(none)
theorem laws_toActS.mono_l:∀k,(∀y0 y1 y2,LeO (laws_toActS.l0 k y0 y1 y2) (laws_toActS.l0 (k+1) y0 y1 y2))
  |0=>fun _ _ _ r h=>by simp[laws_toActS.l0]at h
  |k+1=>by
    have ih0:=laws_toActS.mono_l k
    · intro y0 y1 y2
      unfold laws_toActS.l0
      repeat' first|(with_reducible first|apply ih0|exact LeO.refl _|exact LeO.none _|refine LeO.ite ?_ ?_|refine LeO.bind ?_ (fun _=> ?_))|apply ih0|exact LeO.none _|refine LeO.ite ?_ ?_|refine LeO.bind ?_ (fun _=> ?_)
theorem laws_toActS.mono:∀a0 k,LeO (laws_toActS.f k a0) (laws_toActS.f (k+1) a0):=by
  intro a0 k
  have ih0:=laws_toActS.mono_l k
  unfold laws_toActS.f
  repeat' first|(with_reducible first|apply ih0|exact LeO.refl _|exact LeO.none _|refine LeO.ite ?_ ?_|refine LeO.bind ?_ (fun _=> ?_))|apply ih0|exact LeO.none _|refine LeO.ite ?_ ?_|refine LeO.bind ?_ (fun _=> ?_)
set_option maxHeartbeats 40000000 in
set_option maxRecDepth 100000 in
theorem laws_toActS.calls (k:Nat) (A0:Option Addr) (c0:Nat) (l0:List (S23)) (r:List (S26)) (w:World) (hr0:Kd.C k23 w A0 l0.length l0) (hc0:l0.length≤c0) (h:laws_toActS.f k l0=some r):
    Calls Tryd.prog 13 #[.slice A0 l0.length c0] w fun e w'=>∃v0_:Value,e=.returned (v0_)∧Kd.R k26 26 w' w.heap.size (fun _=>True) v0_ r∧Below w.heap.size w w':=by
  have hu1:=Tryd.underlying23
  have hu2:=Tryd.underlying26
  have HR1:=C hr0
  have HC1:=C hc0
  (try clear hr0);(try clear hc0)
  have HB:=C (Below.refl w.heap.size w)
  have H:=h
  unfold laws_toActS.f at H
  clear h
  by_cases c1:0≤(l0.length:Int)
  · rw[if_pos c1]at H
    have c1b0:=eq_true c1
    have c1b1:decide (0≤(l0.length:Int))=true:=decide_eq_true c1
    clear c1
    by_cases c2:((l0.length:Int):Int).toNat≤8796093022208
    · rw[if_pos c2]at H
      have c2b0:=eq_true c2
      have c2b1:decide (((l0.length:Int):Int).toNat≤8796093022208)=true:=decide_eq_true c2
      clear c2
      obtain⟨y1,hy1⟩:∃y_:List (S26),y_=(List.replicate ((l0.length:Int):Int).toNat z26):=⟨_,rfl⟩
      replace H:(laws_toActS.l0 k l0 y1 0)=some r:=by first|(rw[hy1];with_reducible exact H)|(have H1_:=(Option.bind_some _ _).symm.trans H;rw[hy1];with_reducible exact H1_)|(have H1_:=(Option.bind_some _ _).symm.trans H;with_reducible exact H1_)|with_reducible exact H|(rw[hy1];exact H)|exact H
      have Ny1:=C hy1
      clear hy1
      have H':=C H
      clear H
      go_enter Tryd.func13,Tryd.ntmps13
      go_wp2_with (first|((with_reducible refine J (N:=7) rfl ?_);refine Kd.R_make k26 _ 26 rfl (N:=7) rfl 32 _ _ rfl (l0.length:Int) rfl rfl Tryd.underlying32 (G #[(V I 0),(V I 0),(V I 0),(V I 0)]) 32 info26 rfl (by decide) (by omega) z26 (ok:=fun _=>True) (okp:=fun _=>True) (k26_mkM _ _ _ z26 ) (fun _ hk=>hk) trivial (of_decide_eq_true (by first|(with_reducible assumption)|assumption)) (Nat.le_trans (Nat.mul_le_mul_right _ (of_decide_eq_true (by first|(with_reducible assumption)|assumption):(l0.length:Int).toNat≤8796093022208)) (by omega)) (Below.refl _ _) (Nat.le_refl _) ?_;intro v1 w2 ho1 hb hg_ hnew_;clear hg_ hnew_;(first|rw[←Ny1.out]at ho1|(simp only[Int.reduceToNat]at ho1;rw[←Ny1.out]at ho1));have HO1:=lR ho1;replace HB:=eB hb;clear hb ho1))
      go_loopg [4] k (fun kq v4 w'=>∃(x1_1:List (S26)) (x2_1:Int),v4=V I x2_1∧D (laws_toActS.l0 kq l0 x1_1 x2_1=some r)∧D (kq≤k)∧D (Kd.R k26 26 w' w.heap.size (fun _=>True) v1 x1_1)∧D (Below w.heap.size w w'))
      case atStart=>exact⟨(y1),(0),rS,H',⟨Nat.le_refl _⟩,⟨fR HO1.out⟩,⟨uB⟩⟩
      case round=>
        clear H'
        obtain⟨x1_1,x2_1,rfl,HA,HK1,HO_1,HB⟩:=hrel
        cases gk with
        |zero=>exact absurd HA.out (by simp[laws_toActS.l0])
        |succ k1=>
          have H:=HA.out
          clear HA
          simp only[laws_toActS.l0]at H
          by_cases c3:x2_1<(l0.length:Int)
          · rw[if_pos c3]at H
            have c3b0:decide (x2_1<(l0.length:Int))=true:=decide_eq_true c3
            clear c3
            by_cases c4:0≤x2_1
            · rw[if_pos c4]at H
              have c4b0:decide (0≤x2_1)=true:=decide_eq_true c4
              clear c4
              obtain⟨⟨t1,t2,t3,t4⟩,A1,H⟩:=bnd H
              dsimp only at H
              by_cases c5:x2_1<(x1_1.length:Int)
              · rw[if_pos c5]at H
                have c5b0:decide (x2_1<(x1_1.length:Int))=true:=decide_eq_true c5
                clear c5
                obtain⟨y2,hy2⟩:∃y_:List (S26),y_=(x1_1.set (x2_1:Int).toNat (⟨t1,t2,t3,t4⟩:S26)):=⟨_,rfl⟩
                replace H:(laws_toActS.l0 k1 l0 y2 (wrap64 (x2_1+1)))=some r:=by first|(rw[hy2];with_reducible exact H)|(have H1_:=(Option.bind_some _ _).symm.trans H;rw[hy2];with_reducible exact H1_)|(have H1_:=(Option.bind_some _ _).symm.trans H;with_reducible exact H1_)|with_reducible exact H|(rw[hy2];exact H)|exact H
                have Ny2:=C hy2
                clear hy2
                have H':=C H
                clear H
                have p1:0≤(x2_1:Int):=of_decide_eq_true (by first|(with_reducible assumption)|assumption)
                have q1:x2_1<(l0.length:Int):=of_decide_eq_true (by first|(with_reducible assumption)|assumption)
                obtain⟨ad1,e1,hx1_0,hx1_1,hx1_2,hx1_3⟩:=at_T23 HR1.out x2_1 p1 q1
                cases e1
                replace hx1_0:=hx HB hx1_0
                replace hx1_1:=hx HB hx1_1
                replace hx1_2:=hx HB hx1_2
                replace hx1_3:=hx HB hx1_3
                replace p1:=eq_true p1
                replace q1:=eq_true q1
                go_wp2_with (first|((with_reducible refine F (f:=9) rfl ?_);refine gl 9 (some 20) Tryd.func9 #[G #[V I ((rd_T23 l0 x2_1).f0),V I ((rd_T23 l0 x2_1).f1),V I ((rd_T23 l0 x2_1).f2),V I ((rd_T23 l0 x2_1).f3)]] ?_;(with_reducible refine(laws_toAct.calls ((rd_T23 l0 x2_1).f0) ((rd_T23 l0 x2_1).f1) ((rd_T23 l0 x2_1).f2) ((rd_T23 l0 x2_1).f3) t1 t2 t3 t4 _ A1.out).mono ?_);rintro e w3 ⟨rfl,hb⟩;refine⟨_,rfl,?_⟩;replace HO_1:=eR HO_1 hb;replace HB:=eB hb;clear hb;have p2:0≤(x2_1:Int):=of_decide_eq_true (by first|(with_reducible assumption)|assumption);have q2:(x2_1:Int)<((x1_1.length:Int):Int):=of_decide_eq_true (by first|(with_reducible assumption)|assumption);obtain⟨go1,co1,eo1,gb1,gl1,cl1,HG1⟩:=Kd.R_form HO_1.out (by omega);(first|cases eo1|(injection eo1 with ea_ en_ ec_;(first|subst ea_|(injection ea_ with ea_;subst ea_));subst ec_;clear en_));have GB1:=C gb1;have GG1:=C HG1;clear gb1 gl1 HG1;obtain⟨ce1,hcl1,hM1,hcc1,hfr1⟩:=Kd.R_elem HO_1.out z26 (x2_1:Int) p2 q2;obtain rfl:=k26_openM hM1;have hx2_0:w3.cell? ⟨go1,(x2_1:Int).toNat * 4,none⟩=some (V I ((rd_T26 x1_1 x2_1).f0)):=hcc1 0 _ rfl;have hx2_1:w3.cell? ⟨go1,(x2_1:Int).toNat * 4+1,none⟩=some (V I ((rd_T26 x1_1 x2_1).f1)):=hcc1 1 _ rfl;have hx2_2:w3.cell? ⟨go1,(x2_1:Int).toNat * 4+2,none⟩=some (V I ((rd_T26 x1_1 x2_1).f2)):=hcc1 2 _ rfl;have hx2_3:w3.cell? ⟨go1,(x2_1:Int).toNat * 4+3,none⟩=some (V I ((rd_T26 x1_1 x2_1).f3)):=hcc1 3 _ rfl;have hf1_0:w3.frozen? ⟨go1,(x2_1:Int).toNat * 4,none⟩=false:=hfr1 0;have hf1_1:w3.frozen? ⟨go1,(x2_1:Int).toNat * 4+1,none⟩=false:=hfr1 1;have hf1_2:w3.frozen? ⟨go1,(x2_1:Int).toNat * 4+2,none⟩=false:=hfr1 2;have hf1_3:w3.frozen? ⟨go1,(x2_1:Int).toNat * 4+3,none⟩=false:=hfr1 3;(try clear hcl1);(try clear hcc1);(try clear hfr1);(try clear hM1);replace p2:=eq_true p2;replace q2:=eq_true q2;have HX1:=C (show Kd.R k26 26 w3 w.heap.size (fun _=>True) (.slice (some ⟨go1,0,none⟩) x1_1.length co1) x1_1 from(uR HO_1.out));obtain⟨ce2,hcl2,hM2,hcc2,hfr2⟩:=Kd.R_elem HX1.out z26 (x2_1:Int) (of_decide_eq_true (by first|(with_reducible assumption)|assumption)) (by have h_:(x2_1:Int)<((x1_1.length:Int):Int):=of_decide_eq_true (by first|(with_reducible assumption)|assumption);first|exact h_|(have e_:=(Kd.R_reads' HO_1.out).1;omega)|simpa using h_);obtain rfl:=k26_openM hM2;have HP1:=Kd.R_seg HX1.out (x2_1:Int) (of_decide_eq_true (by first|(with_reducible assumption)|assumption)) (by have h_:(x2_1:Int)<((x1_1.length:Int):Int):=of_decide_eq_true (by first|(with_reducible assumption)|assumption);first|exact h_|(have e_:=(Kd.R_reads' HO_1.out).1;omega)|simpa using h_) (seg:= [V I t1,V I t2,V I t3,V I t4]) (j:=0) hcl2 hcc2 (show 4≤4 from by decide) (x':=(⟨t1,t2,t3,t4⟩:S26)) (k26_mkM _ _ _ (⟨t1,t2,t3,t4⟩:S26)) (fun _ hk=>hk);have hx3_0:=hcc2 0 _ rfl;(try simp only[show(k26).sz=4 from rfl,Nat.mul_one,Nat.add_zero]at hx3_0);have hf2_0:=hfr2 0;(try simp only[show(k26).sz=4 from rfl,Nat.mul_one,Nat.add_zero]at hf2_0);have hx3_1:=hcc2 1 _ rfl;(try simp only[show(k26).sz=4 from rfl,Nat.mul_one,Nat.add_zero]at hx3_1);have hf2_1:=hfr2 1;(try simp only[show(k26).sz=4 from rfl,Nat.mul_one,Nat.add_zero]at hf2_1);have hx3_2:=hcc2 2 _ rfl;(try simp only[show(k26).sz=4 from rfl,Nat.mul_one,Nat.add_zero]at hx3_2);have hf2_2:=hfr2 2;(try simp only[show(k26).sz=4 from rfl,Nat.mul_one,Nat.add_zero]at hf2_2);have hx3_3:=hcc2 3 _ rfl;(try simp only[show(k26).sz=4 from rfl,Nat.mul_one,Nat.add_zero]at hx3_3);have hf2_3:=hfr2 3;(try simp only[show(k26).sz=4 from rfl,Nat.mul_one,Nat.add_zero]at hf2_3);(try clear hcl2);(try clear hcc2);(try clear hfr2);(try clear hM2))|((with_reducible refine gate_store (t:=26) (p:=21) rfl ?_);refine store_event (t:=26) (p:=21) (v:= ?vo_w1) (w1:=((((w3.setCell ⟨go1,(x2_1:Int).toNat * 4,none⟩ (V I t1)).setCell ⟨go1,(x2_1:Int).toNat * 4+1,none⟩ (V I t2)).setCell ⟨go1,(x2_1:Int).toNat * 4+2,none⟩ (V I t3)).setCell ⟨go1,(x2_1:Int).toNat * 4+3,none⟩ (V I t4))) ?hg ?ho ?hn ?hr ?_;(case ho=>rfl);(case hg=>rfl);(case hn=>rfl);(case hr=>exact Fix.hr);intro w4 hw;have hg:w3.grownBy w4 (some go1):=(by rw[hw];exact HP1.2);have hp_:Kd.R k26 26 w4 w.heap.size (fun _=>True) (.slice (some ⟨go1,0,none⟩) x1_1.length co1) y2:=(by rw[hw,Ny2.out];exact HP1.1);clear HP1;replace HO_1:=C (hp_);replace HB:=C ((by rw[hw];exact below_set (below_set (below_set (below_set (HB.out) GB1.out) GB1.out) GB1.out) GB1.out:Below w.heap.size w w4));clear hg hw hp_))
                go_roundg k1
                case measure=>have:=HK1.out;omega
                case rel=>exact⟨(y2),(wrap64 (x2_1+1)),rS,H',⟨by have:=HK1.out;omega⟩,⟨fR HO_1.out⟩,⟨uB⟩⟩
              · rw[if_neg c5]at H
                exact absurd H (by simp)
            · rw[if_neg c4]at H
              exact absurd H (by simp)
          · rw[if_neg c3]at H
            have c3b0:decide (x2_1<(l0.length:Int))=false:=decide_eq_false c3
            clear c3
            obtain rfl:=Option.some.inj H
            go_wp2
            go_ret
            exact⟨_,rE,fR HO_1.out,uB⟩
    · rw[if_neg c2]at H
      exact absurd H (by simp)
  · rw[if_neg c1]at H
    exact absurd H (by simp)
def strconv_Itoa_43.f (a0:Int):Option ByteArray:=if -9223372036854775808≤a0 then(if a0≤9223372036854775807 then some ⟨(Lib.itoa a0).toArray⟩ else none) else none
theorem strconv_Itoa_43.calls (a0:Int) (r:ByteArray) (w:World) (h:strconv_Itoa_43.f a0=some r) (hTab:Ito.Tab w):
    Calls Tryd.prog 43 #[V I a0] w fun e w'=>e=.returned (.string r)∧Below w.heap.size w w':=by
  unfold strconv_Itoa_43.f at h
  by_cases c1: -9223372036854775808≤a0
  · rw[if_pos c1]at h
    by_cases c2:a0≤9223372036854775807
    · rw[if_pos c2]at h
      obtain rfl:=Option.some.inj h
      refine(Any.strconv_Itoa Tryd.laysItoa a0 c1 c2 w hTab).mono ?_
      rintro e w' ⟨rfl,k,os,rfl⟩
      exact⟨rfl,Lib.below_grow _ _ (Nat.le_refl _) _ _⟩
    · rw[if_neg c2]at h;cases h
  · rw[if_neg c1]at h;cases h
def impl_FormatInt.f (a0:Int):Option (ByteArray):=(strconv_Itoa_43.f a0).bind fun t159=>(some t159)
set_option maxHeartbeats 40000000 in
set_option maxRecDepth 100000 in
theorem impl_FormatInt.calls (a0:Int) (r:ByteArray) (w:World) (h:impl_FormatInt.f a0=some r) (hTab:Ito.Tab w):
    Calls Tryd.prog 19 #[V I a0] w fun e w'=>e=.returned (.string r)∧Below w.heap.size w w':=by
  replace hTab:=C hTab
  have HB:=C (Below.refl w.heap.size w)
  have H:=h
  unfold impl_FormatInt.f at H
  clear h
  obtain⟨t1,A1,H⟩:=bnd H
  obtain rfl:=Option.some.inj H
  go_enter Tryd.func19,Tryd.ntmps19
  go_wp2_with (first|((with_reducible refine F (f:=43) rfl ?_);refine gl 43 (some 4) Tryd.func43 #[V I a0] ?_;(with_reducible refine(strconv_Itoa_43.calls a0 t1 _ A1.out (Ito.on hTab.out uB)).mono ?_);rintro e w1 ⟨rfl,hb⟩;refine⟨_,rfl,?_⟩;replace HB:=eB hb;clear hb))
  go_ret
  exact⟨rE,uB⟩
def impl_within.f (a0:Int) (a1:Int) (a2:Int):Option (Bool):=if a0 ≥ a1 then(some (decide (a0≤a2))) else(some false)
theorem impl_within.W1 {p:Prop} (h:p:=by
    go_enter Tryd.func67,Tryd.ntmps67
    go_wp2
    go_ret
    exact⟨by first|rfl|(simp;done)|(simp[*];done),by repeat(first|exact Drawn0.refl _|apply Drawn0.step)⟩):p:=h
set_option maxHeartbeats 40000000 in
set_option maxRecDepth 100000 in
theorem impl_within.calls (a0:Int) (a1:Int) (a2:Int) (r:Bool) (w:World) (h:impl_within.f a0 a1 a2=some r):
    Calls Tryd.prog 67 #[V I a0,V I a1,V I a2] w fun e w'=>e=.returned (O r)∧Drawn0 w w':=by
  have H:=h
  unfold impl_within.f at H
  clear h
  by_cases c1:a0 ≥ a1
  · rw[if_pos c1]at H
    have c1b0:decide (a1≤a0)=true:=decide_eq_true c1
    clear c1
    obtain rfl:=Option.some.inj H
    exact impl_within.W1
  · rw[if_neg c1]at H
    have c1b0:decide (a1≤a0)=false:=decide_eq_false c1
    clear c1
    obtain rfl:=Option.some.inj H
    exact impl_within.W1
def impl_JobOk.f (a0_0:Int) (a0_1:Int) (a0_2:Int) (a0_3:Bool) (a0_4:Int) (a0_5:Bool):Option (Bool):=(impl_within.f a0_0 1 9999).bind fun t161=>(if t161=true then((impl_within.f a0_1 1 64).bind fun t162=>(if t162=true then((impl_within.f a0_2 1 20).bind fun t163=>(if t163=true then((impl_within.f a0_4 0 9).bind fun t164=>(some t164)) else(some false))) else(some false))) else(some false))
theorem impl_JobOk.W1 {p:Prop} (h:p:=by
    go_enter Tryd.func65,Tryd.ntmps65
    go_wp2_with (first|((with_reducible refine J (N:=1) rfl ?_);refine Fix.be 1 #[V I a0_0,V I a0_1,V I a0_2,O a0_3,V I a0_4,O a0_5] 40 ?_;intro gb1 hg w1 BK1 hb;have GW1:D (w.heap.size≤gb1):=gE hg;have GE1:=GW1;replace HB:=eB hb;clear hb hg;obtain⟨hcz1_0,hcz1_1,hcz1_2,hcz1_3,hcz1_4,hcz1_5,hfz1_0,hfz1_1,hfz1_2,hfz1_3,hfz1_4,hfz1_5⟩:=d6 BK1.out)|((with_reducible refine F (f:=67) rfl ?_);refine gl 67 (some 5) Tryd.func67 #[V I a0_0,V I 1,V I 9999] ?_;(with_reducible refine(impl_within.calls a0_0 1 9999 true _ A1.out).mono ?_);rintro e w' ⟨rfl,⟨nd,rfl⟩⟩;refine⟨_,rfl,?_⟩)|(go_at_call 67;(with_reducible refine(impl_within.calls a0_1 1 64 true _ A2.out).mono ?_);rintro e w' ⟨rfl,⟨nd,rfl⟩⟩)|(go_at_call 67;(with_reducible refine(impl_within.calls a0_2 1 20 true _ A3.out).mono ?_);rintro e w' ⟨rfl,⟨nd,rfl⟩⟩)|(go_at_call 67;(with_reducible refine(impl_within.calls a0_4 0 9 t4 _ A4.out).mono ?_);rintro e w' ⟨rfl,⟨nd,rfl⟩⟩)|(go_at_call 67;(with_reducible refine(impl_within.calls a0_2 1 20 false _ A3.out).mono ?_);rintro e w' ⟨rfl,⟨nd,rfl⟩⟩)|(go_at_call 67;(with_reducible refine(impl_within.calls a0_1 1 64 false _ A2.out).mono ?_);rintro e w' ⟨rfl,⟨nd,rfl⟩⟩))
    go_ret
    exact⟨rE,uB⟩):p:=h
set_option maxHeartbeats 40000000 in
set_option maxRecDepth 100000 in
theorem impl_JobOk.calls (a0_0:Int) (a0_1:Int) (a0_2:Int) (a0_3:Bool) (a0_4:Int) (a0_5:Bool) (r:Bool) (w:World) (h:impl_JobOk.f a0_0 a0_1 a0_2 a0_3 a0_4 a0_5=some r):
    Calls Tryd.prog 65 #[G #[V I a0_0,V I a0_1,V I a0_2,O a0_3,V I a0_4,O a0_5]] w fun e w'=>e=.returned (O r)∧Below w.heap.size w w':=by
  have hu1:=Tryd.underlying40
  have HB:=C (Below.refl w.heap.size w)
  have H:=h
  unfold impl_JobOk.f at H
  clear h
  obtain⟨t1,A1,H⟩:=bnd H
  by_cases c1:t1=true
  · subst c1
    rw[if_pos rfl]at H
    obtain⟨t2,A2,H⟩:=bnd H
    by_cases c2:t2=true
    · subst c2
      rw[if_pos rfl]at H
      obtain⟨t3,A3,H⟩:=bnd H
      by_cases c3:t3=true
      · subst c3
        rw[if_pos rfl]at H
        obtain⟨t4,A4,H⟩:=bnd H
        obtain rfl:=Option.some.inj H
        exact impl_JobOk.W1
      · replace c3:=Bool.eq_false_iff.mpr c3
        subst c3
        rw[if_neg Bool.false_ne_true]at H
        obtain rfl:=Option.some.inj H
        exact impl_JobOk.W1
    · replace c2:=Bool.eq_false_iff.mpr c2
      subst c2
      rw[if_neg Bool.false_ne_true]at H
      obtain rfl:=Option.some.inj H
      exact impl_JobOk.W1
  · replace c1:=Bool.eq_false_iff.mpr c1
    subst c1
    rw[if_neg Bool.false_ne_true]at H
    obtain rfl:=Option.some.inj H
    go_enter Tryd.func65,Tryd.ntmps65
    go_wp2_with (first|((with_reducible refine J (N:=1) rfl ?_);refine Fix.be 1 #[V I a0_0,V I a0_1,V I a0_2,O a0_3,V I a0_4,O a0_5] 40 ?_;intro gb1 hg w1 BK1 hb;have GW1:D (w.heap.size≤gb1):=gE hg;have GE1:=GW1;replace HB:=eB hb;clear hb hg;obtain⟨hcz1_0,hcz1_1,hcz1_2,hcz1_3,hcz1_4,hcz1_5,hfz1_0,hfz1_1,hfz1_2,hfz1_3,hfz1_4,hfz1_5⟩:=d6 BK1.out)|((with_reducible refine F (f:=67) rfl ?_);refine gl 67 (some 5) Tryd.func67 #[V I a0_0,V I 1,V I 9999] ?_;(with_reducible refine(impl_within.calls a0_0 1 9999 false _ A1.out).mono ?_);rintro e w' ⟨rfl,⟨nd,rfl⟩⟩;refine⟨_,rfl,?_⟩))
    go_ret
    exact⟨rE,uB⟩
def impl_jobOf.f (a0_0:Int) (a0_1:Int) (a0_2:Int) (a0_3:Int):Option (Int×Int×Int×Bool×Int×Bool):=some (a0_1,a0_2,1,false,a0_3,(a0_3==9))
set_option maxHeartbeats 40000000 in
set_option maxRecDepth 100000 in
theorem impl_jobOf.calls (a0_0:Int) (a0_1:Int) (a0_2:Int) (a0_3:Int) (r1:Int) (r2:Int) (r3:Int) (r4:Bool) (r5:Int) (r6:Bool) (w:World) (h:impl_jobOf.f a0_0 a0_1 a0_2 a0_3=some (r1,r2,r3,r4,r5,r6)):
    Calls Tryd.prog 66 #[G #[V I a0_0,V I a0_1,V I a0_2,V I a0_3]] w fun e w'=>e=.returned (G #[V I r1,V I r2,V I r3,O r4,V I r5,O r6])∧Below w.heap.size w w':=by
  have hu1:=Tryd.underlying26
  have hu2:=Tryd.underlying40
  have HB:=C (Below.refl w.heap.size w)
  have H:=h
  unfold impl_jobOf.f at H
  clear h
  simp only[Option.some.injEq,Prod.mk.injEq]at H
  obtain⟨rfl,rfl,rfl,rfl,rfl,rfl⟩:=H
  go_enter Tryd.func66,Tryd.ntmps66
  go_wp2_with (first|((with_reducible refine J (N:=1) rfl ?_);refine Fix.be 1 #[V I a0_0,V I a0_1,V I a0_2,V I a0_3] 26 ?_;intro gb1 hg w1 BK1 hb;have GW1:D (w.heap.size≤gb1):=gE hg;have GE1:=GW1;replace HB:=eB hb;clear hb hg)|((with_reducible refine J (N:=2) rfl ?_);refine Fix.be 2 #[V I 0,V I 0,V I 0,O false,V I 0,O false] 40 ?_;intro gb2 hg w2 BK2 hb;have GW2:D (w.heap.size≤gb2):=gE hg;have GE2:=GW2;have NB1_166:=nL hg BK1;have NB2_165:=nG hg BK1;replace BK1:=eK BK1 hb;replace HB:=eB hb;clear hb hg;have hnb1:=NB1_166.out;have hnc1:=NB2_165.out;obtain⟨hcz1_0,hcz1_1,hcz1_2,hcz1_3,hfz1_0,hfz1_1,hfz1_2,hfz1_3⟩:=d4 BK1.out;obtain⟨hcz2_0,hcz2_1,hcz2_2,hcz2_3,hcz2_4,hcz2_5,hfz2_0,hfz2_1,hfz2_2,hfz2_3,hfz2_4,hfz2_5⟩:=d6 BK2.out))
  refine bodyPost_ret (results_cell_row rfl _ _ gb2 40 #[V I a0_1,V I a0_2,V I 1,O false,V I a0_3,O (a0_3==9)] (0,0) _ rfl (bK BK2.out) Tryd.underlying40 rfl (by kernel_rfl)) rfl ?_
  exact⟨rE,uB⟩
end Go.Proofs.YtblceimapaenlaaDoor.PFnExactScriptText
