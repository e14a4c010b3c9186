/- Calls do what plain Lean functions say (FnActTexts). No condition. -/
import Derived.Test.YtgdnlmfoghpeoaaDoorQFnActTexts0
namespace Go.Proofs.YtgdnlmfoghpeoaaDoor.PFnActTexts
open Go.RowKit Go.Proofs.YtgdnlmfoghpeoaaDoorW.PrintWords Go.Proofs.YtgdnlmfoghpeoaaDoorW.PrintLast Go.Proofs.YtgdnlmfoghpeoaaDoorW.PrintMore
open Tryd
open Fix (b1 bA bK bN bnd cl4 d4 d6 dB dK dn1 eB eK eR fR gE gl gs gy hh lR nG nL nf nm np nt nu oL oT ou pu qm qn rE rN rS si tu uB uC uH uR)
open Go.Value renaming int→V,slice→L,bool→O,agg→G
open Go.IntKind renaming i64→I
open Go.Proofs.YtgdnlmfoghpeoaaDoorW.PrintWords.Aside0 renaming mk→C
open Go.Proofs.YtgdnlmfoghpeoaaDoorW.PrintWords renaming Aside0→D,gate_callee→F
attribute [local go_sem] max2_int min2_int max_two min_two max_three min_three max_four min_four
attribute [local go_sem] Fix.isSome_setCell
set_option linter.unusedVariables false
set_option maxHeartbeats 40000000
set_option maxRecDepth 100000
set_option linter.unusedSimpArgs false
def impl_within.f (a0:Int) (a1:Int) (a2:Int):Option (Bool):=if a0 ≥ a1 then(some (decide (a0≤a2))) else(some false)
theorem impl_within.W1 {p:Prop} (h:p:=by
 go_enter func34,ntmps34
 go_wp2
 go_ret
 exact⟨by first|rfl|(simp;done)|(simp[*];done),by repeat(first|exact Drawn0.refl _|apply Drawn0.step)⟩):p:=h
theorem impl_within.calls (a0:Int) (a1:Int) (a2:Int) (r:Bool) (w:World) (h:impl_within.f a0 a1 a2=some r):
 Calls prog 34 #[V I a0,V I a1,V I a2] w fun e w'=>e=.returned (O r)∧Drawn0 w w':=by
 have H:=h
 unfold impl_within.f at H
 clear h
 by_cases c1:a0 ≥ a1
 ·rw[if_pos c1]at H
  replace c1:=decide_eq_true c1
  obtain rfl:=si H
  exact impl_within.W1
 rw[if_neg c1]at H
 replace c1:=decide_eq_false c1
 obtain rfl:=si H
 exact impl_within.W1
def impl_JobOk.f (a0_0:Int) (a0_1:Int) (a0_2:Int) (a0_3:Bool) (a0_4:Int) (a0_5:Bool):Option (Bool):=(impl_within.f a0_0 1 9999).bind fun t102=>(if t102=true then((impl_within.f a0_1 1 64).bind fun t103=>(if t103=true then((impl_within.f a0_2 1 20).bind fun t104=>(if t104=true then((impl_within.f a0_4 0 9).bind fun t105=>(some t105)) else(some false))) else(some false))) else(some false))
theorem impl_JobOk.W1 {p:Prop} (h:p:=by
 go_enter func32,ntmps32
 go_wp2_with (first|((with_reducible refine gate_dst (N:=1) rfl ?_);refine Fix.be 1 #[V I a0_0,V I a0_1,V I a0_2,O a0_3,V I a0_4,O a0_5] 32 ?_;intro gb1 hg w1 BK1 hb;have GW1:=gE (w:=w) hg;replace HB:=eB hb;clear hb hg;obtain⟨_,_,_,_,_,_,_,_,_,_,_,_⟩:=d6 BK1.out)|((with_reducible refine F (f:=34) rfl ?_);refine gl 34 (some 5) func34 #[V I a0_0,V I 1,V I 9999] ?_;(with_reducible refine(impl_within.calls a0_0 1 9999 true _ A1.out).mono ?_);rintro e w' ⟨rfl,⟨nd,rfl⟩⟩;refine⟨_,rfl,?_⟩)|(go_at_call 34;(with_reducible refine(impl_within.calls a0_1 1 64 true _ A2.out).mono ?_);rintro e w' ⟨rfl,⟨nd,rfl⟩⟩)|(go_at_call 34;(with_reducible refine(impl_within.calls a0_2 1 20 true _ A3.out).mono ?_);rintro e w' ⟨rfl,⟨nd,rfl⟩⟩)|(go_at_call 34;(with_reducible refine(impl_within.calls a0_4 0 9 t4 _ A4.out).mono ?_);rintro e w' ⟨rfl,⟨nd,rfl⟩⟩)|(go_at_call 34;(with_reducible refine(impl_within.calls a0_2 1 20 false _ A3.out).mono ?_);rintro e w' ⟨rfl,⟨nd,rfl⟩⟩))
 go_ret
 exact⟨rE,uB⟩):p:=h
theorem impl_JobOk.calls (a0_0:Int) (a0_1:Int) (a0_2:Int) (a0_3:Bool) (a0_4:Int) (a0_5:Bool) (r:Bool) (w:World) (h:impl_JobOk.f a0_0 a0_1 a0_2 a0_3 a0_4 a0_5=some r):
 Calls prog 32 #[G #[V I a0_0,V I a0_1,V I a0_2,O a0_3,V I a0_4,O a0_5]] w fun e w'=>e=.returned (O r)∧Below w.heap.size w w':=by
 have hu1:=underlying32
 have HB:=C (Below.refl w.heap.size w)
 have H:=h
 unfold impl_JobOk.f at H
 clear h
 obtain⟨t1,A1,H⟩:=bnd H
 by_cases c1:t1=true
 rotate_left
 ·obtain rfl:=nt c1
  replace H:=nf H
  obtain rfl:=si H
  go_enter func32,ntmps32
  go_wp2_with (first|((with_reducible refine gate_dst (N:=1) rfl ?_);refine Fix.be 1 #[V I a0_0,V I a0_1,V I a0_2,O a0_3,V I a0_4,O a0_5] 32 ?_;intro gb1 hg w1 BK1 hb;have GW1:=gE (w:=w) hg;have GE1:=GW1;replace HB:=eB hb;clear hb hg;obtain⟨_,_,_,_,_,_,_,_,_,_,_,_⟩:=d6 BK1.out)|((with_reducible refine F (f:=34) rfl ?_);refine gl 34 (some 5) func34 #[V I a0_0,V I 1,V I 9999] ?_;(with_reducible refine(impl_within.calls a0_0 1 9999 false _ A1.out).mono ?_);rintro e w' ⟨rfl,⟨nd,rfl⟩⟩;refine⟨_,rfl,?_⟩))
  go_ret
  exact⟨rE,uB⟩
 subst c1
 rw[if_pos rfl]at H
 obtain⟨t2,A2,H⟩:=bnd H
 by_cases c2:t2=true
 ·subst c2
  rw[if_pos rfl]at H
  obtain⟨t3,A3,H⟩:=bnd H
  by_cases c3:t3=true
  rotate_left
  ·obtain rfl:=nt c3
   replace H:=nf H
   obtain rfl:=si H
   exact impl_JobOk.W1
  subst c3
  rw[if_pos rfl]at H
  obtain⟨t4,A4,H⟩:=bnd H
  obtain rfl:=si H
  exact impl_JobOk.W1
 obtain rfl:=nt c2
 replace H:=nf H
 obtain rfl:=si H
 go_enter func32,ntmps32
 go_wp2_with (first|((with_reducible refine gate_dst (N:=1) rfl ?_);refine Fix.be 1 #[V I a0_0,V I a0_1,V I a0_2,O a0_3,V I a0_4,O a0_5] 32 ?_;intro gb1 hg w1 BK1 hb;have GW1:=gE (w:=w) hg;have GE1:=GW1;replace HB:=eB hb;clear hb hg;obtain⟨_,_,_,_,_,_,_,_,_,_,_,_⟩:=d6 BK1.out)|((with_reducible refine F (f:=34) rfl ?_);refine gl 34 (some 5) func34 #[V I a0_0,V I 1,V I 9999] ?_;(with_reducible refine(impl_within.calls a0_0 1 9999 true _ A1.out).mono ?_);rintro e w' ⟨rfl,⟨nd,rfl⟩⟩;refine⟨_,rfl,?_⟩)|(go_at_call 34;(with_reducible refine(impl_within.calls a0_1 1 64 false _ A2.out).mono ?_);rintro e w' ⟨rfl,⟨nd,rfl⟩⟩))
 go_ret
 exact⟨rE,uB⟩
def impl_jobOf.f (a0_0:Int) (a0_1:Int) (a0_2:Int) (a0_3:Int):Option (Int×Int×Int×Bool×Int×Bool):=some (a0_1,a0_2,1,false,a0_3,(a0_3==9))
theorem impl_jobOf.calls (a0_0:Int) (a0_1:Int) (a0_2:Int) (a0_3:Int) (r1:Int) (r2:Int) (r3:Int) (r4:Bool) (r5:Int) (r6:Bool) (w:World) (h:impl_jobOf.f a0_0 a0_1 a0_2 a0_3=some (r1,r2,r3,r4,r5,r6)):
 Calls prog 33 #[G #[V I a0_0,V I a0_1,V I a0_2,V I a0_3]] w fun e w'=>e=.returned (G #[V I r1,V I r2,V I r3,O r4,V I r5,O r6])∧Below w.heap.size w w':=by
 have hu1:=underlying23
 have hu2:=underlying32
 have HB:=C (Below.refl w.heap.size w)
 have H:=h
 unfold impl_jobOf.f at H
 clear h
 simp only[Option.some.injEq,Prod.mk.injEq]at H
 obtain⟨rfl,rfl,rfl,rfl,rfl,rfl⟩:=H
 go_enter func33,ntmps33
 go_wp2_with (first|((with_reducible refine gate_dst (N:=1) rfl ?_);refine Fix.be 1 #[V I a0_0,V I a0_1,V I a0_2,V I a0_3] 23 ?_;intro gb1 hg w1 BK1 hb;have GW1:=gE (w:=w) hg;replace HB:=eB hb;clear hb hg)|((with_reducible refine gate_dst (N:=2) rfl ?_);refine Fix.be 2 #[V I 0,V I 0,V I 0,O false,V I 0,O false] 32 ?_;intro gb2 hg w2 BK2 hb;have GW2:=gE (w:=w) hg;have n0:=nL hg BK1;have n1:=nG hg BK1;replace BK1:=eK BK1 hb;replace HB:=eB hb;clear hb hg;have:=n0.out;have:=n1.out;obtain⟨_,_,_,_,_,_,_,_⟩:=d4 BK1.out;obtain⟨_,_,_,_,_,_,_,_,_,_,_,_⟩:=d6 BK2.out))
 refine bodyPost_ret (results_cell_row rfl _ _ gb2 32 #[V I a0_1,V I a0_2,V I 1,O false,V I a0_3,O (a0_3==9)] (0,0) _ rfl (bK BK2.out) underlying32 rfl (by kernel_rfl)) rfl ?_
 exact⟨rE,uB⟩
def impl_ActOk.j0:Nat→Int→Bool→Int→Int→Int→Int→Option (Bool)
  |0,_,_,_,_,_,_=>none
  |k+1,x4,x10,x109000,x109001,x109002,x109003=>if x10=true then(if x109001=0 then(if x109002=0 then(some (x109003==0)) else(some false)) else(some false)) else(if x4=3 then((impl_within.f x109001 1 5).bind fun t116=>(if t116=true then(if x109002=0 then(some (x109003==0)) else(some false)) else(some false))) else(if x4=5 then((impl_within.f x109001 1 9999).bind fun t117=>(if t117=true then(if x109002=0 then(some (x109003==0)) else(some false)) else(some false))) else(some false)))
def impl_ActOk.f (k:Nat) (a0_0:Int) (a0_1:Int) (a0_2:Int) (a0_3:Int):Option (Bool):=if a0_0=1 then((impl_jobOf.f a0_0 a0_1 a0_2 a0_3).bind fun bt109=>((impl_JobOk.f bt109.1 bt109.2.1 bt109.2.2.1 bt109.2.2.2.1 bt109.2.2.2.2.1 bt109.2.2.2.2.2).bind fun t115=>(some t115))) else(if a0_0=2 then(impl_ActOk.j0 k a0_0 (a0_0==2) a0_0 a0_1 a0_2 a0_3) else(impl_ActOk.j0 k a0_0 (a0_0==4) a0_0 a0_1 a0_2 a0_3))
theorem impl_ActOk.W1 {p:Prop} (h:p:=by
 go_wp2
 go_meet
 first
  |(case rel=>exact⟨_,((a0_0==2)),rS,H',⟨oL⟩,⟨bK BK1.out⟩,⟨uB⟩⟩)
  |(case rel=>exact⟨_,((a0_0==4)),rS,H',⟨oL⟩,⟨bK BK1.out⟩,⟨uB⟩⟩)):p:=h
theorem impl_ActOk.W2 {p:Prop} (h:p:=by
 go_wp2
 go_ret
 exact⟨rE,uB⟩):p:=h
theorem impl_ActOk.W3 {p:Prop} (h:p:=by
 go_wp2_with (first|((with_reducible refine F (f:=34) rfl ?_);refine gl 34 (some 30) func34 #[V I a0_1,V I 1,V I 5] ?_;(with_reducible refine(impl_within.calls a0_1 1 5 true _ A1.out).mono ?_);rintro e w' ⟨rfl,⟨nd,rfl⟩⟩;refine⟨_,rfl,?_⟩))
 go_ret
 exact⟨rE,uB⟩):p:=h
theorem impl_ActOk.W4 {p:Prop} (h:p:=by
 go_wp2_with (first|((with_reducible refine F (f:=34) rfl ?_);refine gl 34 (some 45) func34 #[V I a0_1,V I 1,V I 9999] ?_;(with_reducible refine(impl_within.calls a0_1 1 9999 true _ A1.out).mono ?_);rintro e w' ⟨rfl,⟨nd,rfl⟩⟩;refine⟨_,rfl,?_⟩))
 go_ret
 exact⟨rE,uB⟩):p:=h
theorem impl_ActOk.calls (k:Nat) (a0_0:Int) (a0_1:Int) (a0_2:Int) (a0_3:Int) (r:Bool) (w:World) (h:impl_ActOk.f k a0_0 a0_1 a0_2 a0_3=some r):
 Calls prog 21 #[G #[V I a0_0,V I a0_1,V I a0_2,V I a0_3]] w fun e w'=>e=.returned (O r)∧Below w.heap.size w w':=by
 have hu1:=underlying23
 have HB:=C (Below.refl w.heap.size w)
 have H:=h
 unfold impl_ActOk.f at H
 clear h
 by_cases c1:a0_0=1
 ·rw[if_pos c1]at H
  have c1b0:(a0_0==1)=true:=beq_iff_eq.mpr c1
  have c1b1:(a0_0 !=1)=false:=bne_eq_false_iff_eq.mpr c1
  clear c1
  obtain⟨⟨t1,t2,t3,t4,t5,t6⟩,A1,H⟩:=bnd H
  dsimp only at H
  obtain⟨t7,A2,H⟩:=bnd H
  obtain rfl:=si H
  go_enter func21,ntmps21
  go_wp2_with (first|((with_reducible refine gate_dst (N:=1) rfl ?_);refine Fix.be 1 #[V I a0_0,V I a0_1,V I a0_2,V I a0_3] 23 ?_;intro gb1 hg w1 BK1 hb;have GW1:=gE (w:=w) hg;have GE1:=GW1;replace HB:=eB hb;clear hb hg;obtain⟨_,_,_,_,_,_,_,_⟩:=d4 BK1.out)|((with_reducible refine F (f:=33) rfl ?_);refine gl 33 (some 8) func33 #[G #[V I a0_0,V I a0_1,V I a0_2,V I a0_3]] ?_;(with_reducible refine(impl_jobOf.calls a0_0 a0_1 a0_2 a0_3 t1 t2 t3 t4 t5 t6 _ A1.out).mono ?_);rintro e w2 ⟨rfl,hb⟩;refine⟨_,rfl,?_⟩;replace BK1:=eK BK1 hb;replace HB:=eB hb;clear hb)|((with_reducible refine F (f:=32) rfl ?_);refine gl 32 (some 9) func32 #[G #[V I t1,V I t2,V I t3,O t4,V I t5,O t6]] ?_;(with_reducible refine(impl_JobOk.calls t1 t2 t3 t4 t5 t6 t7 _ A2.out).mono ?_);rintro e w3 ⟨rfl,hb⟩;refine⟨_,rfl,?_⟩;replace BK1:=eK BK1 hb;replace HB:=eB hb;clear hb))
  go_ret
  exact⟨rE,uB⟩
 rw[if_neg c1]at H
 have c1b0:(a0_0==1)=false:=beq_eq_false_iff_ne.mpr c1
 have c1b1:(a0_0 !=1)=true:=bne_iff_ne.mpr c1
 have HC1:=C H
 clear H
 go_enter func21,ntmps21
 go_upto_if 10 with(first|((with_reducible refine gate_dst (N:=1) rfl ?_);refine Fix.be 1 #[V I a0_0,V I a0_1,V I a0_2,V I a0_3] 23 ?_;intro gb1 hg w1 BK1 hb;have GW1:=gE (w:=w) hg;have GE1:=GW1;replace HB:=eB hb;clear hb hg;obtain⟨_,_,_,_,_,_,_,_⟩:=d4 BK1.out))
 (try simp only[Act.put,List.setIfInBounds_toArray,List.set_cons_zero,List.set_cons_succ])
 go_cut [10] (fun v10 wc=>∃(kq:Nat) (x1_8:Bool),v10=O x1_8∧D (impl_ActOk.j0 kq a0_0 x1_8 a0_0 a0_1 a0_2 a0_3=some r)∧D (kq≤k)∧D (wc.heap[gb1]? =some (.cells #[V I a0_0,V I a0_1,V I a0_2,V I a0_3] 23 (0,0)))∧D (Below w.heap.size w wc))
 case first=>
  have H:=HC1.out
  clear HC1
  by_cases c2:a0_0=2
  rotate_left
  ·rw[if_neg c2]at H
   have c2b0:(a0_0==2)=false:=beq_eq_false_iff_ne.mpr c2
   have c2b1:(a0_0 !=2)=true:=bne_iff_ne.mpr c2
   (first|rw[c2b0]|(simp only[i64_w,i32_w];rw[c2b0])|skip)
   have H':=C H
   clear H
   exact impl_ActOk.W1
  rw[if_pos c2]at H
  have c2b0:(a0_0==2)=true:=beq_iff_eq.mpr c2
  have c2b1:(a0_0 !=2)=false:=bne_eq_false_iff_eq.mpr c2
  clear c2
  (first|rw[c2b0]|(simp only[i64_w,i32_w];rw[c2b0])|skip)
  have H':=C H
  clear H
  exact impl_ActOk.W1
 case rest=>
  clear HC1
  obtain⟨kq,x1_8,rfl,HA,HJ1,BK1,HB⟩:=hcut
  cases kq with
  |zero=>exact absurd HA.out (by simp[impl_ActOk.j0])
  |succ kj8=>
   have H:=HA.out
   clear HA
   simp only[impl_ActOk.j0]at H
   by_cases c2:x1_8=true
   ·subst c2
    rw[if_pos rfl]at H
    by_cases c3:a0_1=0
    rotate_left
    ·rw[if_neg c3]at H
     have c3b0:(a0_1==0)=false:=beq_eq_false_iff_ne.mpr c3
     have c3b1:(a0_1 !=0)=true:=bne_iff_ne.mpr c3
     obtain rfl:=si H
     obtain⟨_,_,_,_,_,_,_,_⟩:=d4 BK1.out
     exact impl_ActOk.W2
    rw[if_pos c3]at H
    have c3b0:(a0_1==0)=true:=beq_iff_eq.mpr c3
    have c3b1:(a0_1 !=0)=false:=bne_eq_false_iff_eq.mpr c3
    clear c3
    by_cases c4:a0_2=0
    rotate_left
    ·rw[if_neg c4]at H
     have c4b0:(a0_2==0)=false:=beq_eq_false_iff_ne.mpr c4
     have c4b1:(a0_2 !=0)=true:=bne_iff_ne.mpr c4
     obtain rfl:=si H
     obtain⟨_,_,_,_,_,_,_,_⟩:=d4 BK1.out
     exact impl_ActOk.W2
    rw[if_pos c4]at H
    have c4b0:(a0_2==0)=true:=beq_iff_eq.mpr c4
    have c4b1:(a0_2 !=0)=false:=bne_eq_false_iff_eq.mpr c4
    clear c4
    obtain rfl:=si H
    obtain⟨_,_,_,_,_,_,_,_⟩:=d4 BK1.out
    exact impl_ActOk.W2
   obtain rfl:=nt c2
   replace H:=nf H
   by_cases c3:a0_0=3
   ·rw[if_pos c3]at H
    have c3b0:(a0_0==3)=true:=beq_iff_eq.mpr c3
    have c3b1:(a0_0 !=3)=false:=bne_eq_false_iff_eq.mpr c3
    clear c3
    obtain⟨t1,A1,H⟩:=bnd H
    by_cases c4:t1=true
    rotate_left
    ·obtain rfl:=nt c4
     replace H:=nf H
     obtain rfl:=si H
     obtain⟨_,_,_,_,_,_,_,_⟩:=d4 BK1.out
     go_wp2_with (first|((with_reducible refine F (f:=34) rfl ?_);refine gl 34 (some 30) func34 #[V I a0_1,V I 1,V I 5] ?_;(with_reducible refine(impl_within.calls a0_1 1 5 false _ A1.out).mono ?_);rintro e w' ⟨rfl,⟨nd,rfl⟩⟩;refine⟨_,rfl,?_⟩))
     go_ret
     exact⟨rE,uB⟩
    subst c4
    rw[if_pos rfl]at H
    by_cases c5:a0_2=0
    rotate_left
    ·rw[if_neg c5]at H
     have c5b0:(a0_2==0)=false:=beq_eq_false_iff_ne.mpr c5
     have c5b1:(a0_2 !=0)=true:=bne_iff_ne.mpr c5
     obtain rfl:=si H
     obtain⟨_,_,_,_,_,_,_,_⟩:=d4 BK1.out
     exact impl_ActOk.W3
    rw[if_pos c5]at H
    have c5b0:(a0_2==0)=true:=beq_iff_eq.mpr c5
    have c5b1:(a0_2 !=0)=false:=bne_eq_false_iff_eq.mpr c5
    clear c5
    obtain rfl:=si H
    obtain⟨_,_,_,_,_,_,_,_⟩:=d4 BK1.out
    exact impl_ActOk.W3
   rw[if_neg c3]at H
   have c3b0:(a0_0==3)=false:=beq_eq_false_iff_ne.mpr c3
   have c3b1:(a0_0 !=3)=true:=bne_iff_ne.mpr c3
   by_cases c4:a0_0=5
   rotate_left
   ·rw[if_neg c4]at H
    have c4b0:(a0_0==5)=false:=beq_eq_false_iff_ne.mpr c4
    have c4b1:(a0_0 !=5)=true:=bne_iff_ne.mpr c4
    obtain rfl:=si H
    exact impl_ActOk.W2
   rw[if_pos c4]at H
   have c4b0:(a0_0==5)=true:=beq_iff_eq.mpr c4
   have c4b1:(a0_0 !=5)=false:=bne_eq_false_iff_eq.mpr c4
   clear c4
   obtain⟨t1,A1,H⟩:=bnd H
   by_cases c5:t1=true
   rotate_left
   ·obtain rfl:=nt c5
    replace H:=nf H
    obtain rfl:=si H
    obtain⟨_,_,_,_,_,_,_,_⟩:=d4 BK1.out
    go_wp2_with (first|((with_reducible refine F (f:=34) rfl ?_);refine gl 34 (some 45) func34 #[V I a0_1,V I 1,V I 9999] ?_;(with_reducible refine(impl_within.calls a0_1 1 9999 false _ A1.out).mono ?_);rintro e w' ⟨rfl,⟨nd,rfl⟩⟩;refine⟨_,rfl,?_⟩))
    go_ret
    exact⟨rE,uB⟩
   subst c5
   rw[if_pos rfl]at H
   by_cases c6:a0_2=0
   rotate_left
   ·rw[if_neg c6]at H
    have c6b0:(a0_2==0)=false:=beq_eq_false_iff_ne.mpr c6
    have c6b1:(a0_2 !=0)=true:=bne_iff_ne.mpr c6
    obtain rfl:=si H
    obtain⟨_,_,_,_,_,_,_,_⟩:=d4 BK1.out
    exact impl_ActOk.W4
   rw[if_pos c6]at H
   have c6b0:(a0_2==0)=true:=beq_iff_eq.mpr c6
   have c6b1:(a0_2 !=0)=false:=bne_eq_false_iff_eq.mpr c6
   clear c6
   obtain rfl:=si H
   obtain⟨_,_,_,_,_,_,_,_⟩:=d4 BK1.out
   exact impl_ActOk.W4
def strconv_Itoa_35.f (a0:Int):Option ByteArray:=if -9223372036854775808≤a0 then(if a0≤9223372036854775807 then some ⟨(Lib.itoa a0).toArray⟩ else none) else none
theorem strconv_Itoa_35.calls (a0:Int) (r:ByteArray) (w:World) (h:strconv_Itoa_35.f a0=some r) (hTab:Ito.Tab w):
 Calls prog 35 #[V I a0] w fun e w'=>e=.returned (.string r)∧Below w.heap.size w w':=by
 unfold strconv_Itoa_35.f at h
 by_cases c1: -9223372036854775808≤a0
 rotate_left
 ·rw[if_neg c1]at h;cases h
 rw[if_pos c1]at h
 by_cases c2:a0≤9223372036854775807
 rotate_left
 ·rw[if_neg c2]at h;cases h
 rw[if_pos c2]at h
 obtain rfl:=Option.some.inj h
 refine(Any.strconv_Itoa Tryd.laysItoa a0 c1 c2 w hTab.1).mono ?_
 rintro e w' ⟨rfl,k,os,rfl⟩
 exact⟨rfl,Lib.below_grow _ _ (Nat.le_refl _) _ _⟩
def impl_FormatInt.f (a0:Int):Option (ByteArray):=(strconv_Itoa_35.f a0).bind fun t119=>(some t119)
theorem impl_FormatInt.calls (a0:Int) (r:ByteArray) (w:World) (h:impl_FormatInt.f a0=some r) (hTab:Ito.Tab w):
 Calls prog 22 #[V I a0] w fun e w'=>e=.returned (.string r)∧Below w.heap.size w w':=by
 replace hTab:=C hTab
 have HB:=C (Below.refl w.heap.size w)
 have H:=h
 unfold impl_FormatInt.f at H
 clear h
 obtain⟨t1,A1,H⟩:=bnd H
 obtain rfl:=si H
 go_enter func22,ntmps22
 go_wp2_with (first|((with_reducible refine F (f:=35) rfl ?_);refine gl 35 (some 4) func35 #[V I a0] ?_;(with_reducible refine(strconv_Itoa_35.calls a0 t1 _ A1.out (Ito.on hTab.out uB)).mono ?_);rintro e w1 ⟨rfl,hb⟩;refine⟨_,rfl,?_⟩;replace HB:=eB hb;clear hb))
 go_ret
 exact⟨rE,uB⟩
def impl_FormatAct.f (k:Nat) (a0_0:Int) (a0_1:Int) (a0_2:Int) (a0_3:Int):Option (ByteArray×Bool):=(impl_ActOk.f k a0_0 a0_1 a0_2 a0_3).bind fun t121=>(if t121=true then(if a0_0=1 then((impl_FormatInt.f a0_1).bind fun t122=>(if 4+t122.size≤9223372036854775807 then(if((⟨#[97,100,100,32]⟩:ByteArray)++t122).size+1≤9223372036854775807 then((impl_FormatInt.f a0_2).bind fun t123=>(if(((⟨#[97,100,100,32]⟩:ByteArray)++t122)++(⟨#[32]⟩:ByteArray)).size+t123.size≤9223372036854775807 then(if((((⟨#[97,100,100,32]⟩:ByteArray)++t122)++(⟨#[32]⟩:ByteArray))++t123).size+1≤9223372036854775807 then((impl_FormatInt.f a0_3).bind fun t124=>(if(((((⟨#[97,100,100,32]⟩:ByteArray)++t122)++(⟨#[32]⟩:ByteArray))++t123)++(⟨#[32]⟩:ByteArray)).size+t124.size≤9223372036854775807 then(some ((((((⟨#[97,100,100,32]⟩:ByteArray)++t122)++(⟨#[32]⟩:ByteArray))++t123)++(⟨#[32]⟩:ByteArray))++t124,true)) else(none))) else(none)) else(none))) else(none)) else(none))) else(if a0_0=2 then(some ((⟨#[116,97,107,101]⟩:ByteArray),true)) else(if a0_0=3 then((impl_FormatInt.f a0_1).bind fun t125=>(if 5+t125.size≤9223372036854775807 then(some ((⟨#[108,105,110,101,32]⟩:ByteArray)++t125,true)) else(none))) else(if a0_0=4 then(some ((⟨#[102,105,110,105,115,104]⟩:ByteArray),true)) else((impl_FormatInt.f a0_1).bind fun t126=>(if 8+t126.size≤9223372036854775807 then(some ((⟨#[114,101,108,101,97,115,101,32]⟩:ByteArray)++t126,true)) else(none))))))) else(some ((⟨#[]⟩:ByteArray),false)))
def impl_FormatAct.T5:Bool×List (List Nat×List Nat):=(true,[([],[]),([0],[0]),([1],[1]),([2],[2]),([3],[3]),([],[]),([5],[5]),([6,2],[6]),([4,7],[4,7]),([8],[8]),([],[]),([10],[10]),([11,7],[11]),([9,12],[9,12]),([13,12,0,1,2,3,4,5,6,7,8,9,10,11,12,13],[13]),([14,0,1,2,3,4,5,6,7,8,9,10,11,12,13,14],[])])
def impl_FormatAct.B5:List Nat:= [0,1,3,7,15,0,32,103,255,511,0,1024,3303,8191,16383,32767]
theorem impl_FormatAct.tab5:rtab .any (opsOf Tryd.f10 5)=impl_FormatAct.T5:=by kernel_rfl
theorem impl_FormatAct.bits5:waitsOk impl_FormatAct.T5.2 impl_FormatAct.B5=true:=by kernel_rfl
theorem impl_FormatAct.W1 {p:Prop} (h:p:=by
 go_enter func10,ntmps10
 go_wp2_with (first|((with_reducible refine gate_dst (N:=1) rfl ?_);refine Fix.be 1 #[V I a0_0,V I a0_1,V I a0_2,V I a0_3] 23 ?_;intro gb1 hg w1 BK1 hb;have GW1:=gE (w:=w) hg;replace HB:=eB hb;clear hb hg;obtain⟨_,_,_,_,_,_,_,_⟩:=d4 BK1.out)|((with_reducible refine F (f:=21) rfl ?_);refine gl 21 (some 5) func21 #[G #[V I a0_0,V I a0_1,V I a0_2,V I a0_3]] ?_;(with_reducible refine(impl_ActOk.calls k a0_0 a0_1 a0_2 a0_3 true _ A1.out).mono ?_);rintro e w2 ⟨rfl,hb⟩;refine⟨_,rfl,?_⟩;replace BK1:=eK BK1 hb;replace HB:=eB hb;clear hb;obtain⟨_,_,_,_,_,_,_,_⟩:=d4 BK1.out)|((with_reducible refine F (f:=22) rfl ?_);refine gl 22 (some 31) func22 #[V I a0_1] ?_;(with_reducible refine(impl_FormatInt.calls a0_1 t2 _ A2.out (Ito.on hTab.out uB)).mono ?_);rintro e w3 ⟨rfl,hb⟩;refine⟨_,rfl,?_⟩;replace BK1:=eK BK1 hb;replace HB:=eB hb;clear hb))
 go_ret2
 exact⟨rE,uB⟩):p:=h
theorem impl_FormatAct.W2 {p:Prop} (h:p:=by
 go_enter func10,ntmps10
 go_wp2_with (first|((with_reducible refine gate_dst (N:=1) rfl ?_);refine Fix.be 1 #[V I a0_0,V I a0_1,V I a0_2,V I a0_3] 23 ?_;intro gb1 hg w1 BK1 hb;have GW1:=gE (w:=w) hg;replace HB:=eB hb;clear hb hg;obtain⟨_,_,_,_,_,_,_,_⟩:=d4 BK1.out)|((with_reducible refine F (f:=21) rfl ?_);refine gl 21 (some 5) func21 #[G #[V I a0_0,V I a0_1,V I a0_2,V I a0_3]] ?_;(with_reducible refine(impl_ActOk.calls k a0_0 a0_1 a0_2 a0_3 true _ A1.out).mono ?_);rintro e w2 ⟨rfl,hb⟩;refine⟨_,rfl,?_⟩;replace BK1:=eK BK1 hb;replace HB:=eB hb;clear hb;obtain⟨_,_,_,_,_,_,_,_⟩:=d4 BK1.out)|((with_reducible refine F (f:=22) rfl ?_);refine gl 22 (some 37) func22 #[V I a0_1] ?_;(with_reducible refine(impl_FormatInt.calls a0_1 t2 _ A2.out (Ito.on hTab.out uB)).mono ?_);rintro e w3 ⟨rfl,hb⟩;refine⟨_,rfl,?_⟩;replace BK1:=eK BK1 hb;replace HB:=eB hb;clear hb))
 go_ret2
 exact⟨rE,uB⟩):p:=h
theorem impl_FormatAct.calls (k:Nat) (a0_0:Int) (a0_1:Int) (a0_2:Int) (a0_3:Int) (r1:ByteArray) (r2:Bool) (w:World) (h:impl_FormatAct.f k a0_0 a0_1 a0_2 a0_3=some (r1,r2)) (hTab:Ito.Tab w):
 Calls prog 10 #[G #[V I a0_0,V I a0_1,V I a0_2,V I a0_3]] w fun e w'=>e=.returned (.tuple #[.string r1,O r2])∧Below w.heap.size w w':=by
 replace hTab:=C hTab
 have hu1:=underlying23
 have HB:=C (Below.refl w.heap.size w)
 have H:=h
 unfold impl_FormatAct.f at H
 clear h
 obtain⟨t1,A1,H⟩:=bnd H
 by_cases c1:t1=true
 rotate_left
 ·obtain rfl:=nt c1
  replace H:=nf H
  simp only[Option.some.injEq,Prod.mk.injEq]at H
  obtain⟨rfl,rfl⟩:=H
  go_enter func10,ntmps10
  go_wp2_with (first|((with_reducible refine gate_dst (N:=1) rfl ?_);refine Fix.be 1 #[V I a0_0,V I a0_1,V I a0_2,V I a0_3] 23 ?_;intro gb1 hg w1 BK1 hb;have GW1:=gE (w:=w) hg;have GE1:=GW1;replace HB:=eB hb;clear hb hg;obtain⟨_,_,_,_,_,_,_,_⟩:=d4 BK1.out)|((with_reducible refine F (f:=21) rfl ?_);refine gl 21 (some 5) func21 #[G #[V I a0_0,V I a0_1,V I a0_2,V I a0_3]] ?_;(with_reducible refine(impl_ActOk.calls k a0_0 a0_1 a0_2 a0_3 false _ A1.out).mono ?_);rintro e w2 ⟨rfl,hb⟩;refine⟨_,rfl,?_⟩;replace BK1:=eK BK1 hb;replace HB:=eB hb;clear hb))
  go_ret2
  exact⟨rE,uB⟩
 subst c1
 rw[if_pos rfl]at H
 by_cases c2:a0_0=1
 rotate_left
 ·rw[if_neg c2]at H
  have c2b0:(a0_0==1)=false:=beq_eq_false_iff_ne.mpr c2
  have c2b1:(a0_0 !=1)=true:=bne_iff_ne.mpr c2
  by_cases c3:a0_0=2
  ·rw[if_pos c3]at H
   have c3b0:(a0_0==2)=true:=beq_iff_eq.mpr c3
   have c3b1:(a0_0 !=2)=false:=bne_eq_false_iff_eq.mpr c3
   clear c3
   simp only[Option.some.injEq,Prod.mk.injEq]at H
   obtain⟨rfl,rfl⟩:=H
   exact impl_FormatAct.W1
  rw[if_neg c3]at H
  have c3b0:(a0_0==2)=false:=beq_eq_false_iff_ne.mpr c3
  have c3b1:(a0_0 !=2)=true:=bne_iff_ne.mpr c3
  by_cases c4:a0_0=3
  ·rw[if_pos c4]at H
   have c4b0:(a0_0==3)=true:=beq_iff_eq.mpr c4
   have c4b1:(a0_0 !=3)=false:=bne_eq_false_iff_eq.mpr c4
   clear c4
   obtain⟨t2,A2,H⟩:=bnd H
   obtain⟨c5,H⟩:=np H
   have c5b0:=eq_true c5
   have c5b1:decide (5+t2.size≤9223372036854775807)=true:=decide_eq_true c5
   try have c5b2:(9223372036854775807<5+t2.size)=False:=eq_false (Nat.not_lt.2 c5)
   try(have h1_:=c5;simp only[ByteArray.size_append,Ito.bsz,List.size_toArray,List.length_cons,List.length_nil]at h1_;have c5b3:=eq_false (Nat.not_lt.2 h1_);clear h1_)
   simp only[Option.some.injEq,Prod.mk.injEq]at H
   obtain⟨rfl,rfl⟩:=H
   exact impl_FormatAct.W1
  rw[if_neg c4]at H
  have c4b0:(a0_0==3)=false:=beq_eq_false_iff_ne.mpr c4
  have c4b1:(a0_0 !=3)=true:=bne_iff_ne.mpr c4
  by_cases c5:a0_0=4
  ·rw[if_pos c5]at H
   have c5b0:(a0_0==4)=true:=beq_iff_eq.mpr c5
   have c5b1:(a0_0 !=4)=false:=bne_eq_false_iff_eq.mpr c5
   clear c5
   simp only[Option.some.injEq,Prod.mk.injEq]at H
   obtain⟨rfl,rfl⟩:=H
   exact impl_FormatAct.W2
  rw[if_neg c5]at H
  have c5b0:(a0_0==4)=false:=beq_eq_false_iff_ne.mpr c5
  have c5b1:(a0_0 !=4)=true:=bne_iff_ne.mpr c5
  obtain⟨t2,A2,H⟩:=bnd H
  obtain⟨c6,H⟩:=np H
  have c6b0:=eq_true c6
  have c6b1:decide (8+t2.size≤9223372036854775807)=true:=decide_eq_true c6
  try have c6b2:(9223372036854775807<8+t2.size)=False:=eq_false (Nat.not_lt.2 c6)
  try(have h1_:=c6;simp only[ByteArray.size_append,Ito.bsz,List.size_toArray,List.length_cons,List.length_nil]at h1_;have c6b3:=eq_false (Nat.not_lt.2 h1_);clear h1_)
  simp only[Option.some.injEq,Prod.mk.injEq]at H
  obtain⟨rfl,rfl⟩:=H
  exact impl_FormatAct.W2
 rw[if_pos c2]at H
 have c2b0:(a0_0==1)=true:=beq_iff_eq.mpr c2
 have c2b1:(a0_0 !=1)=false:=bne_eq_false_iff_eq.mpr c2
 clear c2
 obtain⟨t2,A2,H⟩:=bnd H
 obtain⟨c3,H⟩:=np H
 have c3b0:=eq_true c3
 have c3b1:decide (4+t2.size≤9223372036854775807)=true:=decide_eq_true c3
 try have c3b2:(9223372036854775807<4+t2.size)=False:=eq_false (Nat.not_lt.2 c3)
 try(have h1_:=c3;simp only[ByteArray.size_append,Ito.bsz,List.size_toArray,List.length_cons,List.length_nil]at h1_;have c3b3:=eq_false (Nat.not_lt.2 h1_);clear h1_)
 obtain⟨c4,H⟩:=np H
 have c4b0:=eq_true c4
 have c4b1:decide (((⟨#[97,100,100,32]⟩:ByteArray)++t2).size+1≤9223372036854775807)=true:=decide_eq_true c4
 try have c4b2:(9223372036854775807<((⟨#[97,100,100,32]⟩:ByteArray)++t2).size+1)=False:=eq_false (Nat.not_lt.2 c4)
 try(have h1_:=c4;simp only[ByteArray.size_append,Ito.bsz,List.size_toArray,List.length_cons,List.length_nil]at h1_;have c4b3:=eq_false (Nat.not_lt.2 h1_);clear h1_)
 obtain⟨t3,A3,H⟩:=bnd H
 obtain⟨c5,H⟩:=np H
 have c5b0:=eq_true c5
 have c5b1:decide ((((⟨#[97,100,100,32]⟩:ByteArray)++t2)++(⟨#[32]⟩:ByteArray)).size+t3.size≤9223372036854775807)=true:=decide_eq_true c5
 try have c5b2:(9223372036854775807<(((⟨#[97,100,100,32]⟩:ByteArray)++t2)++(⟨#[32]⟩:ByteArray)).size+t3.size)=False:=eq_false (Nat.not_lt.2 c5)
 try(have h1_:=c5;simp only[ByteArray.size_append,Ito.bsz,List.size_toArray,List.length_cons,List.length_nil]at h1_;have c5b3:=eq_false (Nat.not_lt.2 h1_);clear h1_)
 obtain⟨c6,H⟩:=np H
 have c6b0:=eq_true c6
 have c6b1:decide (((((⟨#[97,100,100,32]⟩:ByteArray)++t2)++(⟨#[32]⟩:ByteArray))++t3).size+1≤9223372036854775807)=true:=decide_eq_true c6
 try have c6b2:(9223372036854775807<((((⟨#[97,100,100,32]⟩:ByteArray)++t2)++(⟨#[32]⟩:ByteArray))++t3).size+1)=False:=eq_false (Nat.not_lt.2 c6)
 try(have h1_:=c6;simp only[ByteArray.size_append,Ito.bsz,List.size_toArray,List.length_cons,List.length_nil]at h1_;have c6b3:=eq_false (Nat.not_lt.2 h1_);clear h1_)
 obtain⟨t4,A4,H⟩:=bnd H
 obtain⟨c7,H⟩:=np H
 have c7b0:=eq_true c7
 have c7b1:decide ((((((⟨#[97,100,100,32]⟩:ByteArray)++t2)++(⟨#[32]⟩:ByteArray))++t3)++(⟨#[32]⟩:ByteArray)).size+t4.size≤9223372036854775807)=true:=decide_eq_true c7
 try have c7b2:(9223372036854775807<(((((⟨#[97,100,100,32]⟩:ByteArray)++t2)++(⟨#[32]⟩:ByteArray))++t3)++(⟨#[32]⟩:ByteArray)).size+t4.size)=False:=eq_false (Nat.not_lt.2 c7)
 try(have h1_:=c7;simp only[ByteArray.size_append,Ito.bsz,List.size_toArray,List.length_cons,List.length_nil]at h1_;have c7b3:=eq_false (Nat.not_lt.2 h1_);clear h1_)
 simp only[Option.some.injEq,Prod.mk.injEq]at H
 obtain⟨rfl,rfl⟩:=H
 go_enter func10,ntmps10
 try go_wp2_with (first|((with_reducible refine gate_dst (N:=1) rfl ?_);refine Fix.be 1 #[V I a0_0,V I a0_1,V I a0_2,V I a0_3] 23 ?_;intro gb1 hg w1 BK1 hb;have GW1:=gE (w:=w) hg;have GE1:=GW1;replace HB:=eB hb;clear hb hg;obtain⟨_,_,_,_,_,_,_,_⟩:=d4 BK1.out)|((with_reducible refine F (f:=21) rfl ?_);refine gl 21 (some 5) func21 #[G #[V I a0_0,V I a0_1,V I a0_2,V I a0_3]] ?_;(with_reducible refine(impl_ActOk.calls k a0_0 a0_1 a0_2 a0_3 true _ A1.out).mono ?_);rintro e w2 ⟨rfl,hb⟩;refine⟨_,rfl,?_⟩;replace BK1:=eK BK1 hb;replace HB:=eB hb;clear hb;obtain⟨_,_,_,_,_,_,_,_⟩:=d4 BK1.out))
 replace BK1:=dK BK1
 replace HB:=dB HB
 refine start_ (n:=16) (S:=fun w'=>cl4 w' gb1 (V I a0_0) (V I a0_1) (V I a0_2) (V I a0_3)) (ds:= []) #[false,false,false,false,false,false,false,false,false,false,false,false,false,false,false,false] (by kernel_rfl) rfl rfl hh (fun hHeld=> ?_);refine with_tabW impl_FormatAct.tab5 impl_FormatAct.bits5 (fun HT_ HW_=> ?_)
 generalize w2.drew=w3 at BK1 HB hHeld ⊢
 refine pu 0 (some 11) ?_
 refine pu 5 (some 16) ?_
 refine pu 10 (some 21) ?_
 refine tu 1 (some 12) hHeld ?_
 refine tu 6 (some 17) hHeld ?_
 refine tu 11 (some 22) hHeld ?_
 refine ou 2 (some 13) (fun K hK=> ?_)
 refine gs func22 #[V I a0_1] ?_
 with_reducible refine(impl_FormatInt.calls a0_1 t2 _ A2.out (Ito.on hTab.out uB)).mono ?_
 rintro e w4 ⟨rfl,hb⟩
 refine⟨_,rfl,?_⟩
 replace BK1:=eK BK1 hb
 replace HB:=eB hb
 (try clear hb)
 refine hK.out _ _ hh (fun hHeld=> ?_)
 clear hK K
 refine nu (N:=(some 13)) ?_
 refine pu 3 (some 14) ?_
 refine pu 4 (some 15) ?_
 refine ou 7 (some 18) (fun K hK=> ?_)
 refine gs func22 #[V I a0_2] ?_
 with_reducible refine(impl_FormatInt.calls a0_2 t3 _ A3.out (Ito.on hTab.out uB)).mono ?_
 rintro e w5 ⟨rfl,hb⟩
 refine⟨_,rfl,?_⟩
 replace BK1:=eK BK1 hb
 replace HB:=eB hb
 (try clear hb)
 refine hK.out _ _ hh (fun hHeld=> ?_)
 clear hK K
 refine nu (N:=(some 18)) ?_
 refine pu 8 (some 19) ?_
 refine pu 9 (some 20) ?_
 refine ou 12 (some 23) (fun K hK=> ?_)
 refine gs func22 #[V I a0_3] ?_
 with_reducible refine(impl_FormatInt.calls a0_3 t4 _ A4.out (Ito.on hTab.out uB)).mono ?_
 rintro e w6 ⟨rfl,hb⟩
 refine⟨_,rfl,?_⟩
 replace BK1:=eK BK1 hb
 replace HB:=eB hb
 (try clear hb)
 refine hK.out _ _ hh (fun hHeld=> ?_)
 clear hK K
 refine nu (N:=(some 23)) ?_
 refine pu 13 (some 24) ?_
 refine pu 14 (some 2) ?_
 refine pu 15 (some 3) ?_
 refine done_ (done_of HT_.out (by kernel_rfl)) ?_
 try go_wp2
 go_ret2
 exact⟨rE,uB⟩
def strings_Split.f (a0:ByteArray) (a1:ByteArray):Option (List ByteArray):=if a0.size<4294967281 then(if 1≤a1.size then some (Lib.splitB a1 0 (Lib.countB a0 a1) a0) else none) else none
theorem strings_Split.calls (a0:ByteArray) (a1:ByteArray) (r:List ByteArray) (w:World) (h:strings_Split.f a0 a1=some r) (hTab:Ito.Tab w):
 Calls prog 25 #[.string a0,.string a1] w fun e w'=>∃v0_:Value,e=.returned (v0_)∧Kd.R Kd.string 9 w' w.heap.size (fun _=>True) v0_ r∧Below w.heap.size w w':=by
 unfold strings_Split.f at h
 by_cases c1:a0.size<4294967281
 rotate_left
 ·rw[if_neg c1]at h;cases h
 rw[if_pos c1]at h
 by_cases c2:1≤a1.size
 rotate_left
 ·rw[if_neg c2]at h;cases h
 rw[if_pos c2]at h
 obtain rfl:=Option.some.inj h
 obtain⟨m,hm⟩:=hTab.2
 have hl:=Lib.splitB_all a1 c2 0 _ a0 rfl
 have hle:=Lib.countB_le a1 c2 a0.size a0 (Nat.le_refl _)
 refine(Any.strings_Split { Tryd.laysSplit with } Tryd.laysSplit.i9 a0 a1 m w c1 hm c2).mono ?_
 rintro e w' ⟨rfl,rfl⟩
 refine⟨_,rfl,?_,below_alloc (Below.refl _ _) _⟩
 rw[←hl]
 exact Kd.R_of_own (own_lit_of w w.heap.size 9 _ (Nat.le_refl _) (by rw[hl];omega)) (fun _ _=>trivial)
mutual
def impl_SplitFields.l0:Nat→ByteArray→Int→Option (List ByteArray×Bool)
  |0,_,_=>none
  |k+1,x0,x4=>if x4<(x0.size:Int) then(if 0≤x4 then(if(bt x0 x4)<32 then(some (([]:List ByteArray),false)) else(if(bt x0 x4) >126 then(some (([]:List ByteArray),false)) else(impl_SplitFields.l0 k x0 (wrap64 (x4+1))))) else(none)) else((strings_Split.f x0 (⟨#[32]⟩:ByteArray)).bind fun t130=>(impl_SplitFields.l1 k ([]:List ByteArray) t130 (t130.length:Int) 0))
def impl_SplitFields.l1:Nat→List ByteArray→List ByteArray→Int→Int→Option (List ByteArray×Bool)
  |0,_,_,_,_=>none
  |k+1,x5,x28,x29,x30=>if x30<x29 then(if 0≤x30 then(if x30<(x28.length:Int) then(if(rdOf ByteArray.empty x28 x30).toList=([]:List UInt8) then(impl_SplitFields.l1 k x5 x28 x29 (wrap64 (x30+1))) else(if x5.length<8796093022208 then(impl_SplitFields.l1 k (x5++ [rdOf ByteArray.empty x28 x30]) x28 x29 (wrap64 (x30+1))) else(none))) else(none)) else(none)) else(if(x5.length:Int) >24 then(some (([]:List ByteArray),false)) else(some (x5,true)))
end
def impl_SplitFields.f (k:Nat) (a0:ByteArray):Option (List ByteArray×Bool):=if(a0.size:Int) >600 then(some (([]:List ByteArray),false)) else(impl_SplitFields.l0 k a0 0)
theorem impl_SplitFields.W1 {p:Prop} (h:p:=by
 go_wp2
 go_ret2
 first
  |(exact⟨_,rE,rN,uB⟩)
  |(exact⟨_,rE,Kd.R_mono (fR HO_1.out) (fun _ hk=>trivial),uB⟩)):p:=h
theorem impl_SplitFields.calls (k:Nat) (a0:ByteArray) (r1:List ByteArray) (r2:Bool) (w:World) (h:impl_SplitFields.f k a0=some (r1,r2)) (hTab:Ito.Tab w):
 Calls prog 15 #[.string a0] w fun e w'=>∃v0_:Value,e=.returned (.tuple #[v0_,O r2])∧Kd.R Kd.string 9 w' w.heap.size (fun _=>True) v0_ r1∧Below w.heap.size w w':=by
 replace hTab:=C hTab
 have HB:=C (Below.refl w.heap.size w)
 have H:=h
 unfold impl_SplitFields.f at H
 clear h
 by_cases c1:(a0.size:Int) >600
 ·rw[if_pos c1]at H
  have c1b0:decide (600<(a0.size:Int))=true:=decide_eq_true c1
  have c1b1:decide (600<a0.size)=true:=decide_eq_true (by omega)
  clear c1
  simp only[Option.some.injEq,Prod.mk.injEq]at H
  obtain⟨rfl,rfl⟩:=H
  go_enter func15,ntmps15
  go_wp2
  go_ret2
  exact⟨_,rE,rN,uB⟩
 rw[if_neg c1]at H
 have c1b0:decide (600<(a0.size:Int))=false:=decide_eq_false c1
 have c1b1:decide (600<a0.size)=false:=decide_eq_false (by omega)
 clear c1
 have H':=C H
 clear H
 go_enter func15,ntmps15
 go_wp2
 go_loopg [4] k (fun kq v4 w'=>∃(x1_1:Int),v4=V I x1_1∧D (impl_SplitFields.l0 kq a0 x1_1=some (r1,r2))∧D (kq≤k)∧D (Below w.heap.size w w'))
 case atStart=>exact⟨(0),rS,H',⟨Nat.le_refl _⟩,⟨uB⟩⟩
 case round=>
  clear H'
  obtain⟨x1_1,rfl,HA,HK1,HB⟩:=hrel
  cases gk with
  |zero=>exact absurd HA.out (by simp[impl_SplitFields.l0])
  |succ k1=>
   have H:=HA.out
   clear HA
   simp only[impl_SplitFields.l0]at H
   by_cases c2:x1_1<(a0.size:Int)
   ·rw[if_pos c2]at H
    replace c2:=decide_eq_true c2
    obtain⟨c3,H⟩:=np H
    replace c3:=decide_eq_true c3
    by_cases c4:(bt a0 x1_1)<32
    ·rw[if_pos c4]at H
     replace c4:=decide_eq_true c4
     simp only[Option.some.injEq,Prod.mk.injEq]at H
     obtain⟨rfl,rfl⟩:=H
     have p1:0≤(x1_1:Int):=oT
     have q1:x1_1<(a0.size:Int):=oT
     have hx1:=bt_at a0 x1_1
     replace p1:=eq_true p1
     replace q1:=eq_true q1
     exact impl_SplitFields.W1
    rw[if_neg c4]at H
    replace c4:=decide_eq_false c4
    by_cases c5:(bt a0 x1_1) >126
    ·rw[if_pos c5]at H
     replace c5:=decide_eq_true c5
     simp only[Option.some.injEq,Prod.mk.injEq]at H
     obtain⟨rfl,rfl⟩:=H
     have p1:0≤(x1_1:Int):=oT
     have q1:x1_1<(a0.size:Int):=oT
     have hx1:=bt_at a0 x1_1
     replace p1:=eq_true p1
     replace q1:=eq_true q1
     have p2:0≤(x1_1:Int):=oT
     have q2:x1_1<(a0.size:Int):=oT
     have hx2:=bt_at a0 x1_1
     replace p2:=eq_true p2
     replace q2:=eq_true q2
     exact impl_SplitFields.W1
    rw[if_neg c5]at H
    replace c5:=decide_eq_false c5
    have H':=C H
    clear H
    have p1:0≤(x1_1:Int):=oT
    have q1:x1_1<(a0.size:Int):=oT
    have hx1:=bt_at a0 x1_1
    replace p1:=eq_true p1
    replace q1:=eq_true q1
    have p2:0≤(x1_1:Int):=oT
    have q2:x1_1<(a0.size:Int):=oT
    have hx2:=bt_at a0 x1_1
    replace p2:=eq_true p2
    replace q2:=eq_true q2
    go_wp2
    go_roundg k1
    case measure=>have:=HK1.out;omega
    case rel=>exact⟨(wrap64 (x1_1+1)),rS,H',⟨by have:=HK1.out;omega⟩,⟨uB⟩⟩
   rw[if_neg c2]at H
   replace c2:=decide_eq_false c2
   obtain⟨t1,A1,H⟩:=bnd H
   have H':=C H
   clear H
   go_wp2_with (first|((with_reducible refine F (f:=25) rfl ?_);refine gl 25 (some 28) func25 #[.string a0,.string (⟨#[32]⟩:ByteArray)] ?_;(with_reducible refine(strings_Split.calls a0 (⟨#[32]⟩:ByteArray) t1 _ A1.out (Ito.on hTab.out uB)).mono ?_);rintro e w1 ⟨v1,rfl,ho1,hb⟩;refine⟨_,rfl,?_⟩;have HO1:=lR ho1;replace HB:=eB hb;clear hb ho1;obtain⟨Ao1,co1,rfl⟩:=Kd.R_slice HO1.out))
   go_loopg [5,30] k1 (fun kq v5 v30 w'=>∃(x2_2:List ByteArray) (x3_2:Int),v30=V I x3_2∧D (impl_SplitFields.l1 kq x2_2 t1 (t1.length:Int) x3_2=some (r1,r2))∧D (kq≤k1)∧D (Kd.R Kd.string 9 w' w.heap.size (fun k_=>some k_≠Fix.o Ao1 t1.length co1) v5 x2_2)∧D (Kd.R Kd.string 9 w' w.heap.size (fun k_=>qm k_ v5) (L Ao1 t1.length co1) t1)∧D (Below w.heap.size w w'))
   case atStart=>exact⟨(([]:List ByteArray)),(0),rS,H',⟨Nat.le_refl _⟩,⟨rN⟩,⟨Kd.R_mono (fR HO1.out) (fun _ hk=>(by simp[Value.ownBlock]))⟩,⟨uB⟩⟩
   case round=>
    clear H'
    obtain⟨x2_2,x3_2,rfl,HA,HK2,HO_1,HO_2,HB⟩:=hrel
    cases gk with
    |zero=>exact absurd HA.out (by simp[impl_SplitFields.l1])
    |succ k2=>
     have H:=HA.out
     clear HA
     simp only[impl_SplitFields.l1]at H
     by_cases c3:x3_2<(t1.length:Int)
     rotate_left
     ·rw[if_neg c3]at H
      replace c3:=decide_eq_false c3
      by_cases c4:(x2_2.length:Int) >24
      ·rw[if_pos c4]at H
       have c4b0:decide (24<(x2_2.length:Int))=true:=decide_eq_true c4
       have c4b1:decide (24<x2_2.length)=true:=decide_eq_true (by omega)
       clear c4
       simp only[Option.some.injEq,Prod.mk.injEq]at H
       obtain⟨rfl,rfl⟩:=H
       obtain⟨Ao2,co2,eo2⟩:=Kd.R_slice HO_1.out
       subst eo2
       exact impl_SplitFields.W1
      rw[if_neg c4]at H
      have c4b0:decide (24<(x2_2.length:Int))=false:=decide_eq_false c4
      have c4b1:decide (24<x2_2.length)=false:=decide_eq_false (by omega)
      clear c4
      simp only[Option.some.injEq,Prod.mk.injEq]at H
      obtain⟨rfl,rfl⟩:=H
      obtain⟨Ao2,co2,eo2⟩:=Kd.R_slice HO_1.out
      subst eo2
      exact impl_SplitFields.W1
     rw[if_pos c3]at H
     replace c3:=decide_eq_true c3
     obtain⟨c4,H⟩:=np H
     replace c4:=decide_eq_true c4
     obtain⟨c5,H⟩:=np H
     replace c5:=decide_eq_true c5
     by_cases c6:(rdOf ByteArray.empty t1 x3_2).toList=([]:List UInt8)
     ·rw[if_pos c6]at H
      have c6b0:((rdOf ByteArray.empty t1 x3_2).toList==([]:List UInt8))=true:=beq_iff_eq.mpr c6
      have c6b1:((rdOf ByteArray.empty t1 x3_2).toList !=([]:List UInt8))=false:=bne_eq_false_iff_eq.mpr c6
      clear c6
      have H':=C H
      clear H
      have p1:0≤(x3_2:Int):=oT
      have q1:x3_2<(t1.length:Int):=oT
      obtain⟨ad1,e1,hx1_0⟩:=Kd.at_string (Kd.R_reads' HO_2.out).2.2 x3_2 p1 q1
      cases e1
      replace p1:=eq_true p1
      replace q1:=eq_true q1
      go_wp2
      go_roundg k2
      case measure=>have:=HK1.out;have:=HK2.out;omega
      case rel=>exact⟨(x2_2),(wrap64 (x3_2+1)),rS,H',⟨by have:=HK1.out;have:=HK2.out;omega⟩,⟨fR HO_1.out⟩,⟨fR HO_2.out⟩,⟨uB⟩⟩
     rw[if_neg c6]at H
     have c6b0:((rdOf ByteArray.empty t1 x3_2).toList==([]:List UInt8))=false:=beq_eq_false_iff_ne.mpr c6
     have c6b1:((rdOf ByteArray.empty t1 x3_2).toList !=([]:List UInt8))=true:=bne_iff_ne.mpr c6
     obtain⟨c7,H⟩:=np H
     have LMc1:=C c7
     clear c7
     obtain⟨y1,hy1⟩:∃y_:List ByteArray,y_=(x2_2++ [rdOf ByteArray.empty t1 x3_2]):=⟨_,rfl⟩
     replace H:(impl_SplitFields.l1 k2 y1 t1 (t1.length:Int) (wrap64 (x3_2+1)))=some (r1,r2):=gy hy1 H
     have Ny1:=C hy1
     clear hy1
     have H':=C H
     clear H
     have p1:0≤(x3_2:Int):=oT
     have q1:x3_2<(t1.length:Int):=oT
     obtain⟨ad1,e1,hx1_0⟩:=Kd.at_string (Kd.R_reads' HO_2.out).2.2 x3_2 p1 q1
     cases e1
     replace p1:=eq_true p1
     replace q1:=eq_true q1
     go_wp2_with (first|((with_reducible refine gate_builtin (b:=.append) (xs:= #[.tmp 36,.tmp 38]) rfl ?_);at_builtin;refine Kd.R_append Kd.string (w0:=w) w.heap.size rfl (.tmp 36) (.tmp 38) 43 9 (.string ⟨#[]⟩) 16 rfl underlying43 info9 rfl (by decide) (by omega) u5 x2_2 (rdOf ByteArray.empty t1 x3_2) [.string (rdOf ByteArray.empty t1 x3_2)] (fun k_=>qn k_ (some ad1) t1.length co1) (fun _=>False) rfl rfl ?aP (fun _ hk=>hk.elim) ?aF ?aO ?aB ?aS ?aL ?_;(case aP=>exact rfl);(case aB=>exact uB);(case aF=>exact(fun k_ hk=>Kd.fresh' (Kd.R_lt (uR HO_2.out)) k_ hk));(case aO=>exact(uR HO_1.out));(case aS=>exact(below_size uB));(case aL=>have:=LMc1.out;omega);intro v2 w2 ho hb hg hat;rw[←Ny1.out]at ho;have HO2:=C (ho);replace HO_2:=C (Kd.R_after (ok:=(fun _=>True)) (Kd.R_mono (fR HO_2.out) (fun _ hk=>⟨trivial,hk⟩)) hg hat);replace HB:=C (hb);clear HO_1;clear ho hb hg hat))
     go_roundg k2
     case measure=>have:=HK1.out;have:=HK2.out;omega
     case rel=>exact⟨(y1),(wrap64 (x3_2+1)),rS,H',⟨by have:=HK1.out;have:=HK2.out;omega⟩,⟨fR HO2.out⟩,⟨Kd.R_mono (fR HO_2.out) (fun _ hk=>hk.2)⟩,⟨uB⟩⟩
mutual
def impl_ParseUint.j0:Nat→ByteArray→Bool→Option (Int×Bool)
  |0,_,_=>none
  |k+1,x0,x13=>if x13=true then(some (0,false)) else(impl_ParseUint.l0 k x0 0 0)
def impl_ParseUint.l0:Nat→ByteArray→Int→Int→Option (Int×Bool)
  |0,_,_,_=>none
  |k+1,x0,x4,x5=>if x5<(x0.size:Int) then(if 0≤x5 then(if(bt x0 x5)<48 then(some (0,false)) else(if(bt x0 x5) >57 then(some (0,false)) else(impl_ParseUint.l0 k x0 (wrap64 ((wrap64 (x4 * 10))+(((bt x0 x5) - 48) % 256))) (wrap64 (x5+1))))) else(none)) else(if x4 >1000000000 then(some (0,false)) else((impl_FormatInt.f x4).bind fun t137=>(if t137.toList=x0.toList then(some (x4,true)) else(some (0,false)))))
end
def impl_ParseUint.f (k:Nat) (a0:ByteArray):Option (Int×Bool):=if(a0.size:Int)=0 then(impl_ParseUint.j0 k a0 true) else(impl_ParseUint.j0 k a0 (decide ((a0.size:Int) >10)))
theorem impl_ParseUint.W1 {p:Prop} (h:p:=by
 go_wp2
 go_meet
 first
  |(case rel=>exact⟨_,(true),rS,H',⟨oL⟩,⟨uB⟩⟩)
  |(case rel=>exact⟨_,(decide ((a0.size:Int) >10)),rS,H',⟨oL⟩,⟨uB⟩⟩)):p:=h
theorem impl_ParseUint.W2 {p:Prop} (h:p:=by
 go_wp2
 go_ret2
 exact⟨rE,uB⟩):p:=h
theorem impl_ParseUint.W3 {p:Prop} (h:p:=by
 go_wp2_with (first|(go_at_call 22;(with_reducible refine(impl_FormatInt.calls x2_2 t1 _ A1.out (Ito.on hTab.out uB)).mono ?_);rintro e w1 ⟨rfl,hb⟩;replace HB:=eB hb;clear hb))
 go_ret2
 exact⟨rE,uB⟩):p:=h
theorem impl_ParseUint.calls (k:Nat) (a0:ByteArray) (r1:Int) (r2:Bool) (w:World) (h:impl_ParseUint.f k a0=some (r1,r2)) (hTab:Ito.Tab w):
 Calls prog 16 #[.string a0] w fun e w'=>e=.returned (.tuple #[V I r1,O r2])∧Below w.heap.size w w':=by
 replace hTab:=C hTab
 have HB:=C (Below.refl w.heap.size w)
 have H:=h
 unfold impl_ParseUint.f at H
 clear h
 have HC1:=C H
 clear H
 go_enter func16,ntmps16
 go_upto_region 1 with(fail)
 go_cut [13] (fun v13 wc=>∃(kq:Nat) (x1_1:Bool),v13=O x1_1∧D (impl_ParseUint.j0 kq a0 x1_1=some (r1,r2))∧D (kq≤k)∧D (Below w.heap.size w wc))
 case first=>
  have H:=HC1.out
  clear HC1
  by_cases c1:(a0.size:Int)=0
  rotate_left
  ·rw[if_neg c1]at H
   have c1b0:((a0.size:Int)==0)=false:=beq_eq_false_iff_ne.mpr c1
   have c1b1:((a0.size:Int) !=0)=true:=bne_iff_ne.mpr c1
   (first|rw[c1b0]|(simp only[i64_w,i32_w];rw[c1b0])|skip)
   have H':=C H
   clear H
   exact impl_ParseUint.W1
  rw[if_pos c1]at H
  have c1b0:((a0.size:Int)==0)=true:=beq_iff_eq.mpr c1
  have c1b1:((a0.size:Int) !=0)=false:=bne_eq_false_iff_eq.mpr c1
  clear c1
  (first|rw[c1b0]|(simp only[i64_w,i32_w];rw[c1b0])|skip)
  have H':=C H
  clear H
  exact impl_ParseUint.W1
 case rest=>
  clear HC1
  obtain⟨kq,x1_1,rfl,HA,HJ1,HB⟩:=hcut
  cases kq with
  |zero=>exact absurd HA.out (by simp[impl_ParseUint.j0])
  |succ kj1=>
   have H:=HA.out
   clear HA
   simp only[impl_ParseUint.j0]at H
   by_cases c1:x1_1=true
   ·subst c1
    rw[if_pos rfl]at H
    simp only[Option.some.injEq,Prod.mk.injEq]at H
    obtain⟨rfl,rfl⟩:=H
    exact impl_ParseUint.W2
   obtain rfl:=nt c1
   replace H:=nf H
   have H':=C H
   clear H
   go_wp2
   go_loopg [4,5] kj1 (fun kq v4 v5 w'=>∃(x2_2:Int) (x3_2:Int),v4=V I x2_2∧v5=V I x3_2∧D (impl_ParseUint.l0 kq a0 x2_2 x3_2=some (r1,r2))∧D (kq≤kj1)∧D (Below w.heap.size w w'))
   case atStart=>exact⟨(0),(0),rS,rS,H',⟨Nat.le_refl _⟩,⟨uB⟩⟩
   case round=>
    clear H'
    obtain⟨x2_2,x3_2,rfl,rfl,HA,HK1,HB⟩:=hrel
    cases gk with
    |zero=>exact absurd HA.out (by simp[impl_ParseUint.l0])
    |succ k2=>
     have H:=HA.out
     clear HA
     simp only[impl_ParseUint.l0]at H
     by_cases c2:x3_2<(a0.size:Int)
     rotate_left
     ·rw[if_neg c2]at H
      replace c2:=decide_eq_false c2
      by_cases c3:x2_2 >1000000000
      ·rw[if_pos c3]at H
       replace c3:=decide_eq_true c3
       simp only[Option.some.injEq,Prod.mk.injEq]at H
       obtain⟨rfl,rfl⟩:=H
       exact impl_ParseUint.W2
      rw[if_neg c3]at H
      replace c3:=decide_eq_false c3
      obtain⟨t1,A1,H⟩:=bnd H
      by_cases c4:t1.toList=a0.toList
      rotate_left
      ·rw[if_neg c4]at H
       have c4b0:(t1.toList==a0.toList)=false:=beq_eq_false_iff_ne.mpr c4
       have c4b1:(t1.toList !=a0.toList)=true:=bne_iff_ne.mpr c4
       simp only[Option.some.injEq,Prod.mk.injEq]at H
       obtain⟨rfl,rfl⟩:=H
       exact impl_ParseUint.W3
      rw[if_pos c4]at H
      have c4b0:(t1.toList==a0.toList)=true:=beq_iff_eq.mpr c4
      have c4b1:(t1.toList !=a0.toList)=false:=bne_eq_false_iff_eq.mpr c4
      clear c4
      simp only[Option.some.injEq,Prod.mk.injEq]at H
      obtain⟨rfl,rfl⟩:=H
      exact impl_ParseUint.W3
     rw[if_pos c2]at H
     replace c2:=decide_eq_true c2
     obtain⟨c3,H⟩:=np H
     replace c3:=decide_eq_true c3
     by_cases c4:(bt a0 x3_2)<48
     ·rw[if_pos c4]at H
      replace c4:=decide_eq_true c4
      simp only[Option.some.injEq,Prod.mk.injEq]at H
      obtain⟨rfl,rfl⟩:=H
      have p1:0≤(x3_2:Int):=oT
      have q1:x3_2<(a0.size:Int):=oT
      have hx1:=bt_at a0 x3_2
      replace p1:=eq_true p1
      replace q1:=eq_true q1
      exact impl_ParseUint.W2
     rw[if_neg c4]at H
     replace c4:=decide_eq_false c4
     by_cases c5:(bt a0 x3_2) >57
     ·rw[if_pos c5]at H
      replace c5:=decide_eq_true c5
      simp only[Option.some.injEq,Prod.mk.injEq]at H
      obtain⟨rfl,rfl⟩:=H
      have p1:0≤(x3_2:Int):=oT
      have q1:x3_2<(a0.size:Int):=oT
      have hx1:=bt_at a0 x3_2
      replace p1:=eq_true p1
      replace q1:=eq_true q1
      have p2:0≤(x3_2:Int):=oT
      have q2:x3_2<(a0.size:Int):=oT
      have hx2:=bt_at a0 x3_2
      replace p2:=eq_true p2
      replace q2:=eq_true q2
      exact impl_ParseUint.W2
     rw[if_neg c5]at H
     replace c5:=decide_eq_false c5
     have H':=C H
     clear H
     have p1:0≤(x3_2:Int):=oT
     have q1:x3_2<(a0.size:Int):=oT
     have hx1:=bt_at a0 x3_2
     replace p1:=eq_true p1
     replace q1:=eq_true q1
     have p2:0≤(x3_2:Int):=oT
     have q2:x3_2<(a0.size:Int):=oT
     have hx2:=bt_at a0 x3_2
     replace p2:=eq_true p2
     replace q2:=eq_true q2
     have p3:0≤(x3_2:Int):=oT
     have q3:x3_2<(a0.size:Int):=oT
     have hx3:=bt_at a0 x3_2
     replace p3:=eq_true p3
     replace q3:=eq_true q3
     go_wp2
     go_roundg k2
     case measure=>have:=HJ1.out;have:=HK1.out;omega
     case rel=>exact⟨(wrap64 ((wrap64 (x2_2 * 10))+(((bt a0 x3_2) - 48) % 256))),(wrap64 (x3_2+1)),rS,rS,H',⟨by have:=HJ1.out;have:=HK1.out;omega⟩,⟨uB⟩⟩
theorem Bui_copyCheck (B b:Nat) (bs:List Value) (w:World) (h:Lib.IsBuilderF 62 5 B b bs w):
 Calls prog 40 #[.pointer (some ⟨b,0,none⟩)] w fun e w'=>e=.returned (.tuple #[])∧(Lib.BuilderAtF 62 5 B b (.pointer (some ⟨b,0,none⟩)) bs w'∧Below B w w'):=by
 obtain⟨j,hj,hjs⟩:=Option.map_eq_some_iff.1 (show(prog.info? 62).map (·.size)=some 2 by kernel_rfl)
 have hlies:liesAt prog prog.depth 62 (2 / prog.cellsOf 62) 0 62 1=true:=by kernel_rfl
 rcases h with h|h
 ·have h1:=h.cell0
  have hsh:=h.shape
  have hfz:=h.frozen0
  have hkeep:=h
  have hK:=C h
  clear hkeep h
  go_enter func40,ntmps40
  go_wp2
  rw[Lib.run_to_unsafe w ⟨b,0,none⟩ underlying60 underlying87 hj (by rw[hjs];decide) hsh (Nat.zero_lt_succ 1)]
  simp only[Result.andThen]
  rw[Oper.upon_value]
  go_wp2
  rw[run_callFunc_extern func50 (by kernel_rfl) (by kernel_rfl) (by kernel_rfl) (e:=Extern.AbiNoEscape.same) (by kernel_rfl)]
  rw[Lib.run_noEscape]
  simp only[Result.andThen]
  rw[Oper.upon_value]
  go_wp2
  rw[Lib.run_from_unsafe w ⟨b,0,none⟩ underlying87 underlying60 hj hsh hlies]
  simp only[Result.andThen]
  rw[Oper.upon_value]
  go_wp2
  go_end0
  exact⟨rfl,hK.out.used _,(Below.refl B w).setCell (p:=⟨b,0,none⟩) hK.out.1 _⟩
 ·have h1:=h.cell0
  have hK:=C h
  clear h
  go_enter func40,ntmps40
  go_wp2
  rw[Lib.run_neq_ptr_same w _ underlying60 hj]
  go_wp2
  go_end0
  exact⟨rfl,hK.out,Below.refl B _⟩
theorem Bui_WriteString (B b:Nat) (bs:List Value) (s:ByteArray) (w:World) (h:Lib.IsBuilderF 62 5 B b bs w) (hlen:bs.length+s.size≤140737488355328) (hBw:B≤w.heap.size):
 Calls prog 27 #[.pointer (some ⟨b,0,none⟩),.string s] w fun e w'=>e=.returned (.tuple #[V I s.size,.nilIface])∧(Lib.IsBuilderF 62 5 B b (bs++Lib.strCells s) w'∧Below B w w'):=by
 obtain⟨i0,hi,hz1,hz2,hz3⟩:=info_parts (show(prog.info? 5).map (fun i=>(i.zero,i.size,i.bytes))=some (some (.int .u8 0),1,1) by kernel_rfl)
 have hl:=C hlen
 clear hlen
 go_enter func27,ntmps27
 go_wp2_with (go_at_call 40;refine(Bui_copyCheck B b bs _ h).mono ?_)
 rintro e w2 ⟨rfl,h2,hb1⟩
 obtain⟨hB,v,hbk,hown,hne⟩:=h2
 have c5:w2.cell? ⟨b,0,none⟩=some (.pointer (some ⟨b,0,none⟩)):=by rw[Lib.cell_of_heap hbk];rfl
 have c6:w2.cell? ⟨b,1,none⟩=some v:=by rw[Lib.cell_of_heap hbk];rfl
 go_wp2_with (at_builtin;refine Lib.wpList_append_own_stringF _ rfl _ _ 28 9 rfl B 5 i0 underlying28 underlying9 hi hz1 hz2 hz3 _ _ _ rfl hown s rfl ?c7 ?c1 ?c2 ?_)
 case c7=>have:=hl.out;unfold maxLen;omega
 case c1=>have:=hl.out;omega
 case c2=>have:=hb1.size;omega
 intro v' w3 hown' hgrow _
 have hlt:b<w2.heap.size:=by
  rcases Nat.lt_or_ge b w2.heap.size with h'|h'
  ·exact h'
  ·simp[Array.getElem?_eq_none h']at hbk
 have hb2:w3.heap[b]? =some (.cells #[.pointer (some ⟨b,0,none⟩),v] 62 (0,0)):=by
  rw[hgrow.block b hlt (fun e=>hne e.symm)]
  exact hbk
 have d1:w3.cell? ⟨b,0,none⟩=some (.pointer (some ⟨b,0,none⟩)):=by rw[Lib.cell_of_heap hb2];rfl
 have d2:w3.cell? ⟨b,1,none⟩=some v:=by rw[Lib.cell_of_heap hb2];rfl
 have f1:w3.frozen? ⟨b,1,none⟩=false:=Lib.frozen_of_heap hb2 1
 obtain⟨ao,n',cap,rfl⟩:∃ao n' cap,v'=L ao n' cap:=by
  rcases hown'.2 with⟨hv,_⟩|⟨g,cap,cur,fz,hv,_⟩
  ·exact⟨_,_,_,hv⟩
  ·exact⟨_,_,_,hv⟩
 go_wp2
 go_ret2
 refine⟨rfl,Or.inr ?_,?_⟩
 ·exact Lib.BuilderAtF.put (T:=62) (e:=5) hB hb2 (bs':=bs++Lib.strCells s) (by simpa[Lib.strCells_length]using hown') (by decide)
 ·exact(hb1.grown hgrow (by have:=hb1.size;omega) (fun k hk=>(hown.lt k hk).1)).setCell (p:=⟨b,1,none⟩) hB _
theorem Bui_copyCheck_new (b:Nat) (w:World) (h0:w.cell? ⟨b,0,none⟩=some (.pointer none)) (hsh:w.shape? b=some (62,2)) (hfz:w.frozen? ⟨b,0,none⟩=false):
 Calls prog 40 #[.pointer (some ⟨b,0,none⟩)] w fun e w'=>e=.returned (.tuple #[])∧w'=w.setCell ⟨b,0,none⟩ (.pointer (some ⟨b,0,none⟩)):=by
 obtain⟨j,hj,hjs⟩:=Option.map_eq_some_iff.1 (show(prog.info? 62).map (·.size)=some 2 by kernel_rfl)
 have hlies:liesAt prog prog.depth 62 (2 / prog.cellsOf 62) 0 62 1=true:=by kernel_rfl
 go_enter func40,ntmps40
 go_wp2
 rw[Lib.run_to_unsafe w ⟨b,0,none⟩ underlying60 underlying87 hj (by rw[hjs];decide) hsh (Nat.zero_lt_succ 1)]
 simp only[Result.andThen]
 rw[Oper.upon_value]
 go_wp2
 rw[run_callFunc_extern func50 (by kernel_rfl) (by kernel_rfl) (by kernel_rfl) (e:=Extern.AbiNoEscape.same) (by kernel_rfl)]
 rw[Lib.run_noEscape]
 simp only[Result.andThen]
 rw[Oper.upon_value]
 go_wp2
 rw[Lib.run_from_unsafe w ⟨b,0,none⟩ underlying87 underlying60 hj hsh hlies]
 simp only[Result.andThen]
 rw[Oper.upon_value]
 go_wp2
 go_end0
 exact⟨rfl,rfl⟩
theorem Bui_Grow (B b n:Nat) (w:World) (hB:B≤b) (hbk:w.heap[b]? =some (.cells #[.pointer none,L none 0 0] 62 (0,0))) (hBw:B≤w.heap.size) (hn:n≤281474976710656):
 Calls prog 26 #[.pointer (some ⟨b,0,none⟩),V I n] w fun e w'=>e=.returned (.tuple #[])∧(Lib.BuilderAt 62 5 B b (.pointer (some ⟨b,0,none⟩)) [] w'∧Below B w w'):=by
 have hbk1:(w.setCell ⟨b,0,none⟩ (.pointer (some ⟨b,0,none⟩))).heap[b]? =some (.cells #[.pointer (some ⟨b,0,none⟩),L none 0 0] 62 (0,0)):=by
  simp[World.setCell,Array.getElem?_modify,hbk]
 have c1:(w.setCell ⟨b,0,none⟩ (.pointer (some ⟨b,0,none⟩))).cell? ⟨b,1,none⟩=some (L none 0 0):=by rw[Lib.cell_of_heap hbk1];rfl
 have hb1:Below B w (w.setCell ⟨b,0,none⟩ (.pointer (some ⟨b,0,none⟩))):=(Below.refl B w).setCell (p:=⟨b,0,none⟩) hB _
 have hG:Calls prog 41 #[.pointer (some ⟨b,0,none⟩),V I n] (w.setCell ⟨b,0,none⟩ (.pointer (some ⟨b,0,none⟩))).drew fun e w'=>e=.returned (.tuple #[])∧(Lib.BuilderAt 62 5 B b (.pointer (some ⟨b,0,none⟩)) [] w'∧Below B (w.setCell ⟨b,0,none⟩ (.pointer (some ⟨b,0,none⟩))).drew w'):=
  Any.Builder_grow_fresh Tryd.lays241 Bui.x241 B b n (w.setCell ⟨b,0,none⟩ (.pointer (some ⟨b,0,none⟩))).drew hB hbk1 (by simpa[World.setCell,World.drew,-World.drew_eq]using hBw) hn
 have HG:=C hG
 clear hG
 have hU:Lib.BuilderAt 62 5 B b (.pointer (some ⟨b,0,none⟩)) [] (w.setCell ⟨b,0,none⟩ (.pointer (some ⟨b,0,none⟩))):=⟨hB,L none 0 0,hbk1,World.ownsRow_nil _ _ _ _,by simp[Value.ownBlock]⟩
 have HU:=C hU
 have hcc:=C (Bui_copyCheck_new b w (by rw[Lib.cell_of_heap hbk];rfl) (by simp[World.shape?,hbk]) (Lib.frozen_of_heap hbk 0))
 clear hU hbk hbk1
 go_enter func26,ntmps26
 have c1':(w.setCell ⟨b,0,none⟩ (.pointer (some ⟨b,0,none⟩))).drew.cell? ⟨b,1,none⟩=some (L none 0 0):=c1
 go_wp2_with (go_at_call 40;refine hcc.out.mono ?_;rintro e w' ⟨rfl,rfl⟩)
 go_region
 all_goals go_wp2_with (go_at_call 41;refine HG.out.mono ?_;rintro e w' ⟨rfl,h1,h2⟩)
 all_goals first
  |(go_end0;exact⟨rfl,h1,hb1.drew.trans h2⟩)
  |(go_end0;exact⟨rfl,HU.out.drew,hb1.drew⟩)
theorem join_length_one (c:UInt8) (x:List UInt8) (r:List (List UInt8)):(Lib.join (x::r) [c]).length=r.length+Lib.lens (x::r):=by
 rw[Lib.join_length];simp
def strings_Join.f (l0:List ByteArray) (a1:ByteArray):Option (ByteArray):=if a1=⟨#[32]⟩ then(if l0.length≤1000000 then(if Lib.lens (l0.map (·.data.toList))≤1000000 then some ⟨(Lib.join (l0.map (·.data.toList)) [32]).toArray⟩ else none) else none) else none
theorem strings_Join.many (A0:Option Addr) (c0:Nat) (xs:List ByteArray) (w:World) (hr0:Kd.C Kd.string w A0 xs.length xs) (hc0:xs.length≤c0) (h2:2≤xs.length) (hN:xs.length≤1000000) (hL:Lib.lens (xs.map (·.data.toList))≤1000000):
 Calls prog 17 #[L A0 xs.length c0,.string ⟨#[32]⟩] w fun e w'=>e=.returned (.string ⟨(Lib.join (xs.map (·.data.toList)) [32]).toArray⟩)∧Below w.heap.size w w':=by
 obtain⟨⟨bk,o,ro⟩,rfl,hz⟩:=Kd.at_string hr0 0 (by omega) (by omega)
 obtain rfl:ro=none:=by cases ro with|none=>rfl|some _=>(simp only[World.cell?,Addr.add]at hz;split at hz<;>simp at hz)
 have hbk:bk<w.heap.size:=World.block_lt_of_cell? w _ hz
 have hcells:∀(j:Nat) x,xs[j]? =some x→w.cell? ⟨bk,o+j,none⟩=some (.string x):=by
  intro j x hj
  have hl:j<xs.length:=(List.getElem?_eq_some_iff.1 hj).1
  obtain⟨ad,ead,hx⟩:=Kd.at_string hr0 (j:Int) (by omega) (by omega)
  cases ead
  have e:rdOf ByteArray.empty xs (j:Int)=x:=by simp[rdOf,List.getD,hj]
  rw[e]at hx
  rcases j with _|j<;>simpa[Addr.add]using hx
 have HC:=C hcells
 have HC1:=C hc0
 clear hcells hr0 hz
 obtain⟨x0,r,hxs⟩:∃x0 r,xs=x0::r:=by
  cases xs with
  |nil=>simp at h2
  |cons a t=>exact⟨a,t,rfl⟩
 have hJ:(Lib.join (xs.map (·.data.toList)) [32]).length=(xs.length - 1)+Lib.lens (xs.map (·.data.toList)):=by
  rw[hxs]
  simp only[List.map_cons,join_length_one,List.length_map,List.length_cons,Nat.add_sub_cancel]
 have hrl:r.length=xs.length - 1:=by rw[hxs];simp
 obtain⟨M,hM⟩:∃M,M=xs.length - 1:=⟨_,rfl⟩
 have hcast:((xs.length:Int) - 1)=(M:Int):=by omega
 have hdv:(1:Int)<9223372036854775807 / ((xs.length:Int) - 1):=by
  rw[hcast]
  have:(2:Int)≤9223372036854775807 / (M:Int):=Int.le_ediv_of_mul_le (by omega) (by omega)
  omega
 have hdv':¬(9223372036854775807 / ((xs.length:Int) - 1)≤1):=by omega
 have hdv2:(1:Int)<9223372036854775807 / ((xs.length - 1:Nat):Int):=by
  rw[show((xs.length - 1:Nat):Int)=(xs.length:Int) - 1 by omega];exact hdv
 have hdv2':¬(9223372036854775807 / ((xs.length - 1:Nat):Int)≤1):=by omega
 have hprod:wrap64 ((1:Int) * ((xs.length:Int) - 1))=(M:Int):=by
  rw[hcast,Int.one_mul]
  exact IntWalk.wrap64_in _ ⟨by omega,by omega⟩
 have hne0:((xs.length:Int)==0)=false:=beq_eq_false_iff_ne.2 (by omega)
 have hne1:((xs.length:Int)==1)=false:=beq_eq_false_iff_ne.2 (by omega)
 have Hxs:=C hxs
 have HJ:=C hJ
 clear hxs hJ
 go_enter func17,ntmps17
 go_wp2_with fail
 all_goals (
  go_loop [5,41] (fun n i=>∃k:Nat,k≤xs.length∧i=V I k∧n=V I ((M+Lib.lens ((xs.map (·.data.toList)).take k):Nat):Int)) (fun _ i=>xs.length - (intOf i).toNat)
  case atStart=>exact⟨0,Nat.zero_le _,rfl,by first|(simp[Lib.lens];done)|(simp[Lib.lens];omega)⟩
  case round=>
   obtain⟨k,hk,rfl,rfl⟩:=hrel
   by_cases hkn:k<xs.length
   ·obtain⟨x,hx⟩:∃x,xs[k]? =some x:=⟨xs[k],List.getElem?_eq_getElem hkn⟩
    have hc:=HC.out k x hx
    have hstep:=Lib.lens_take_succ (xs.map (·.data.toList)) k x.data.toList (by simp[hx])
    have hbound:Lib.lens ((xs.map (·.data.toList)).take (k+1))≤Lib.lens (xs.map (·.data.toList)):=Lib.lens_take_le _ _
    rw[←Lib.size_eq]at hstep
    generalize hA1:Lib.lens ((xs.map (·.data.toList)).take (k+1))=A1 at hstep hbound
    generalize Lib.lens ((xs.map (·.data.toList)).take k)=A0 at hstep
    have HA1:=C hA1
    clear hA1
    go_wp2
    exact⟨⟨k+1,by omega,by go_num,by rw[HA1.out];refine congrArg _ ?_;omega⟩,by simp[intOf];omega⟩
   ·have hke:k=xs.length:=by omega
    subst hke
    have hall:(xs.map (·.data.toList)).take xs.length=xs.map (·.data.toList):=List.take_of_length_le (by simp)
    rw[hall]
    have hJ2:(Lib.join (xs.map (·.data.toList)) [32]).length=M+Lib.lens (xs.map (·.data.toList)):=by rw[hM];exact HJ.out
    generalize hT:Lib.lens (xs.map (·.data.toList))=T at hL hJ2
    clear hT hall
    have HJ2:=C hJ2
    clear hJ2
    go_wp2_with fail
    rw[show(((xs.length - 1:Nat):Int)+(T:Int))=((M+T:Nat):Int) by omega]
    refine(Bui_Grow w.heap.size w.heap.size (M+T) _ (Nat.le_refl _) (heap_alloc_new w _) (by simp) (by omega)).mono ?_
    rintro e w1 ⟨rfl,h1,hb1⟩
    have hb1':Below w.heap.size w w1:=((Below.refl w.heap.size w).alloc (Nat.le_refl _) _).trans hb1
    have hc0:w1.cell? ⟨bk,o,none⟩=some (.string x0):=by
     rw[hb1'.cell (p:=⟨bk,o,none⟩) hbk]
     exact HC.out 0 x0 (by rw[Hxs.out];rfl)
    have H1:=C (Or.inr (Lib.BuilderAtF.of h1):Lib.IsBuilderF 62 5 w.heap.size w.heap.size [] w1)
    have Hb1:=C hb1'
    have hBw1:w.heap.size≤w1.heap.size:=hb1'.size
    clear h1 hb1 hb1'
    have Hwhole:=C (show Lib.join (xs.map (·.data.toList)) [32]=x0.data.toList++Lib.joinTail [32] (r.map (·.data.toList)) by rw[Hxs.out,List.map_cons,Lib.join_cons])
    have HCle:=C (show ∀k,(x0.data.toList++Lib.joinTail [32] ((r.map (·.data.toList)).take k)).length≤2000000 from fun k=>by
     have h1:=HJ2.out
     rw[Hwhole.out,List.length_append]at h1
     have h2:=Lib.joinTail_take_le [32] (r.map (·.data.toList)) k
     rw[List.length_append]
     omega)
    go_wp2_with fail
    refine(Bui_WriteString w.heap.size w.heap.size [] x0 w1 H1.out (by have:=HCle.out 0;simp[Lib.joinTail]at this ⊢;omega) hBw1).mono ?_
    rintro e w2 ⟨rfl,h2',hb2⟩
    rw[show([]:List Value)++Lib.strCells x0=Lib.byteCells (x0.data.toList++Lib.joinTail [32] ((r.map (·.data.toList)).take 0)) by simp[Lib.joinTail,Lib.strCells_eq]]at h2'
    have H2:=C h2'
    have Hb2:=C (Hb1.out.trans hb2)
    clear h2' hb2
    go_wp2_with fail
    go_loopw [65] (fun i wr=>∃k:Nat,k≤r.length∧i=V I k∧D (Lib.IsBuilderF 62 5 w.heap.size w.heap.size (Lib.byteCells (x0.data.toList++Lib.joinTail [32] ((r.map (·.data.toList)).take k))) wr)∧D (Below w.heap.size w wr)) (fun i _=>r.length - (intOf i).toNat)
    case atStart=>exact⟨0,Nat.zero_le _,rfl,H2,Hb2⟩
    case round=>
     obtain⟨k,hk',rfl,HB,HW⟩:=hrel
     by_cases hkr:k<r.length
     ·obtain⟨y,hy⟩:∃y,r[k]? =some y:=⟨r[k],List.getElem?_eq_getElem hkr⟩
      have hcy:wr.cell? ⟨bk,o+1+k,none⟩=some (.string y):=by
       rw[HW.out.cell (p:=⟨bk,o+1+k,none⟩) hbk,show o+1+k=o+(k+1) by omega]
       exact HC.out (k+1) y (by rw[Hxs.out];simpa using hy)
      have hBw:w.heap.size≤wr.heap.size:=HW.out.size
      have hsep:(⟨#[32]⟩:ByteArray).data.toList= [32]:=rfl
      have Hn:=C (show Lib.byteCells (x0.data.toList++Lib.joinTail [32] ((r.map (·.data.toList)).take k))++Lib.strCells ⟨#[32]⟩++Lib.strCells y=Lib.byteCells (x0.data.toList++Lib.joinTail [32] ((r.map (·.data.toList)).take (k+1))) by
       rw[Lib.joinTail_take_succ [32] (r.map (·.data.toList)) k y.data.toList (by simp[hy]),Lib.strCells_eq,Lib.strCells_eq,hsep,←Lib.byteCells_append,←Lib.byteCells_append,List.append_assoc,List.append_assoc,List.append_assoc])
      have hl1:=HCle.out (k+1)
      rw[Lib.joinTail_take_succ [32] (r.map (·.data.toList)) k y.data.toList (by simp[hy])]at hl1
      simp only[List.length_append,←Lib.size_eq]at hl1
      have hl0:(Lib.byteCells (x0.data.toList++Lib.joinTail [32] ((r.map (·.data.toList)).take k))).length=x0.size+(Lib.joinTail [32] ((r.map (·.data.toList)).take k)).length:=by
       rw[Lib.byteCells_length,List.length_append,←Lib.size_eq]
      generalize (Lib.joinTail [32] ((r.map (·.data.toList)).take k)).length=J at hl0 hl1
      have hs1:(⟨#[32]⟩:ByteArray).size=1:=rfl
      simp only[List.length_cons,List.length_nil]at hl1
      clear hy
      go_wp2_with fail
      refine(Bui_WriteString w.heap.size w.heap.size _ ⟨#[32]⟩ wr HB.out (by rw[hl0,hs1];omega) hBw).mono ?_
      rintro e w3 ⟨rfl,h3,hb3⟩
      have hBw3:w.heap.size≤w3.heap.size:=Nat.le_trans hBw hb3.size
      have H3:=C h3
      have Hb3:=C hb3
      clear h3 hb3
      go_wp2_with fail
      refine(Bui_WriteString w.heap.size w.heap.size _ y w3 H3.out (by rw[List.length_append,hl0,Lib.strCells_length,hs1];omega) hBw3).mono ?_
      rintro e w4 ⟨rfl,h4,hb4⟩
      rw[Hn.out]at h4
      have H4:=C h4
      have Hb4:=C ((HW.out.trans Hb3.out).trans hb4)
      clear h4 hb4
      go_wp2
      exact⟨⟨k+1,by omega,by go_num,H4,Hb4⟩,by simp[intOf];omega⟩
     ·have hke:k=r.length:=by omega
      subst hke
      have hB':=HB.out
      rw[show(r.map (·.data.toList)).take r.length=r.map (·.data.toList) from List.take_of_length_le (by simp),←Hwhole.out]at hB'
      have hBw:w.heap.size≤wr.heap.size:=HW.out.size
      have HS:=C (show Calls prog 28 #[.pointer (some ⟨w.heap.size,0,none⟩)] wr fun e w'=>e=.returned (.string ⟨(Lib.join (xs.map (·.data.toList)) [32]).toArray⟩)∧(Lib.IsBuilderF 62 5 w.heap.size w.heap.size (Lib.byteCells (Lib.join (xs.map (·.data.toList)) [32])) w'∧Below w.heap.size wr w') from Any.Builder_String_any_f Tryd.lays169 Bui.x169 w.heap.size w.heap.size _ wr hB' hBw)
      clear hB'
      go_wp2_with fail
      refine HS.out.mono ?_
      rintro e w5 ⟨rfl,_,hb5⟩
      have Hb5:=C (HW.out.trans hb5)
      clear hb5
      go_wp2
      go_ret
      exact⟨rfl,Hb5.out⟩)
theorem strings_Join.W1 {p:Prop} (h:p:=by
 go_enter func17,ntmps17
 go_wp2
 go_ret
 first
  |(exact⟨rfl,Below.refl _ _⟩)
  |(exact⟨by simp[Lib.join_one],Below.refl _ _⟩)):p:=h
theorem strings_Join.calls (A0:Option Addr) (c0:Nat) (l0:List ByteArray) (a1:ByteArray) (r:ByteArray) (w:World) (hr0:Kd.C Kd.string w A0 l0.length l0) (hc0:l0.length≤c0) (h:strings_Join.f l0 a1=some r):
 Calls prog 17 #[L A0 l0.length c0,.string a1] w fun e w'=>e=.returned (.string r)∧Below w.heap.size w w':=by
 unfold strings_Join.f at h
 by_cases c1:a1=⟨#[32]⟩
 rotate_left
 ·rw[if_neg c1]at h;cases h
 rw[if_pos c1]at h
 by_cases c2:l0.length≤1000000
 rotate_left
 ·rw[if_neg c2]at h;cases h
 rw[if_pos c2]at h
 by_cases c3:Lib.lens (l0.map (·.data.toList))≤1000000
 rotate_left
 ·rw[if_neg c3]at h;cases h
 rw[if_pos c3]at h
 obtain rfl:=Option.some.inj h
 subst c1
 rcases l0 with _|⟨x,_|⟨y,t⟩⟩
 ·exact strings_Join.W1
 ·obtain⟨ad,rfl,hx⟩:=Kd.at_string hr0 0 (by simp) (by simp)
  have hx1:w.cell? ad=some (.string x):=by
   have e:(ad.add (0:Int).toNat)=ad:=by cases ad;rfl
   rw[e]at hx
   exact hx
  clear hx
  have hc:=C hc0
  clear hc0
  exact strings_Join.W1
 ·exact strings_Join.many A0 c0 _ w hr0 hc0 (by simp) c2 c3
theorem zero3 (w:World):(zeroValue 3).run prog w=.ok (V I 0) w:=by kernel_rfl
abbrev impl_ParseAct.KS:List Km.E:= [([114,101,108,101,97,115,101],5),([102,105,110,105,115,104],4),([108,105,110,101],3),([116,97,107,101],2),([97,100,100],1)]
def impl_ParseAct.l0 (k:Nat):List ByteArray→Nat→Int→Int→Int→Option (Option (Int×Int×Int))
  | [],_,a,b,c=>some (some (a,b,c))
  |f::fs,i,a,b,c=>(impl_ParseUint.f k f).bind fun p=>if p.2=true then impl_ParseAct.l0 k fs (i+1) (if i=0 then p.1 else a) (if i=1 then p.1 else b) (if i=2 then p.1 else c) else some none
def impl_ParseAct.f (k:Nat) (a0:ByteArray):Option (Int×Int×Int×Int×Bool):=
  (impl_SplitFields.f k a0).bind fun p=>if p.2=true then(match p.1 with
    | []=>some (0,0,0,0,false)
    |f0::rs=>if rs.length≤3 then(if f0.size≤9223372036854775807 then(impl_ParseAct.l0 k rs 0 0 0 0).bind fun q=>(match q with
      |none=>some (0,0,0,0,false)
      |some z=>(impl_FormatAct.f k (Km.look impl_ParseAct.KS f0.data.toList) z.1 z.2.1 z.2.2).bind fun t=>if t.2=true then(strings_Join.f (f0::rs) ⟨#[32]⟩).bind fun j=>(if t.1.toList=j.toList then some (Km.look impl_ParseAct.KS f0.data.toList,z.1,z.2.1,z.2.2,true) else some (0,0,0,0,false)) else some (0,0,0,0,false)) else none) else some (0,0,0,0,false))
  else some (0,0,0,0,false)
theorem impl_ParseAct.calls (k:Nat) (a0:ByteArray) (r1:Int) (r2:Int) (r3:Int) (r4:Int) (r5:Bool) (w:World) (h:impl_ParseAct.f k a0=some (r1,r2,r3,r4,r5)) (hTab:Ito.Tab w):
 Calls prog 6 #[.string a0] w fun e w'=>e=.returned (.tuple #[G #[V I r1,V I r2,V I r3,V I r4],O r5])∧Below w.heap.size w w':=by
 replace hTab:=C hTab
 have hu1:=underlying23
 have HB:=C (Below.refl w.heap.size w)
 have H:=h
 unfold impl_ParseAct.f at H
 clear h
 obtain⟨⟨t1,t2⟩,A1,H⟩:=bnd H
 dsimp only at H
 have HC1:=C H
 clear H
 have hmm:= @run_makeMap prog
 go_enter func6,ntmps6
 go_upto_region 2 with(first|((with_reducible refine gate_dst (N:=2) rfl ?_);(try(refine gate_guard (by rfl) ?_;dsimp only));refine Fix.be 2 #[V I 0,V I 0,V I 0,V I 0] 23 ?_;intro gb1 hg w1 BK1 hb;have GW1:=gE (w:=w) hg;replace HB:=eB hb;clear hb hg)|((with_reducible refine F (f:=15) rfl ?_);refine gl 15 (some 16) func15 #[.string a0] ?_;(with_reducible refine(impl_SplitFields.calls k a0 t1 t2 _ A1.out (Ito.on hTab.out (uB))).mono ?_);rintro e w2 ⟨v1,rfl,ho1,hb⟩;refine⟨_,rfl,?_⟩;have HO1:=lR ho1;replace BK1:=eK BK1 hb;replace HB:=eB hb;clear hb ho1))
 (try simp only[Act.put,List.setIfInBounds_toArray,List.set_cons_zero,List.set_cons_succ])
 obtain⟨Ao1,co1,eo1⟩:=Kd.R_slice HO1.out
 subst eo1
 have H:=HC1.out
 clear HC1
 cases t2 with
 |false=>
  rw[if_neg Bool.false_ne_true]at H
  simp only[Option.some.injEq,Prod.mk.injEq]at H
  obtain⟨rfl,rfl,rfl,rfl,rfl⟩:=H
  obtain⟨_,_,_,_,_,_,_,_⟩:=d4 BK1.out
  go_wp2
  refine bodyPost_ret (results_ct rfl _ _ gb1 23 #[V I 0,V I 0,V I 0,V I 0] (0,0) _ rfl (bK BK1.out) underlying23 rfl (by kernel_rfl)) rfl ?_
  exact⟨rE,uB⟩
 |true=>
  rw[if_pos rfl]at H
  rcases(show t1= []∨ ∃f1 rs,t1=f1::rs by cases t1 with|nil=>exact .inl rfl|cons x y=>exact .inr ⟨x,y,rfl⟩) with ht|⟨f1,rs,ht⟩
  ·subst ht
   dsimp only at H
   simp only[Option.some.injEq,Prod.mk.injEq]at H
   obtain⟨rfl,rfl,rfl,rfl,rfl⟩:=H
   obtain⟨_,_,_,_,_,_,_,_⟩:=d4 BK1.out
   go_wp2
   refine bodyPost_ret (results_ct rfl _ _ gb1 23 #[V I 0,V I 0,V I 0,V I 0] (0,0) _ rfl (bK BK1.out) underlying23 rfl (by kernel_rfl)) rfl ?_
   exact⟨rE,uB⟩
  ·rw[ht]at H
   dsimp only at H
   have c1:((t1.length:Int)==0)=false:=beq_eq_false_iff_ne.mpr (by rw[ht];simp only[List.length_cons];omega)
   have c0b:(t1.length==0)=false:=beq_eq_false_iff_ne.mpr (by rw[ht];simp only[List.length_cons];omega)
   have hrl:rs.length+1=t1.length:=by rw[ht];rfl
   have HT1:=C ht
   clear ht
   by_cases c2:rs.length≤3
   rotate_left
   ·rw[if_neg c2]at H
    have c2b0:decide (4<(t1.length:Int))=true:=decide_eq_true (by omega)
    have c2b1:decide (4<t1.length)=true:=decide_eq_true (by omega)
    simp only[Option.some.injEq,Prod.mk.injEq]at H
    obtain⟨rfl,rfl,rfl,rfl,rfl⟩:=H
    obtain⟨_,_,_,_,_,_,_,_⟩:=d4 BK1.out
    go_wp2
    refine bodyPost_ret (results_ct rfl _ _ gb1 23 #[V I 0,V I 0,V I 0,V I 0] (0,0) _ rfl (bK BK1.out) underlying23 rfl (by kernel_rfl)) rfl ?_
    exact⟨rE,uB⟩
   rw[if_pos c2]at H
   have c2b0:decide (4<(t1.length:Int))=false:=decide_eq_false (by omega)
   have c2b1:decide (4<t1.length)=false:=decide_eq_false (by omega)
   by_cases c3:f1.size≤9223372036854775807
   rotate_left
   ·rw[if_neg c3]at H;exact absurd H (by simp)
   rw[if_pos c3]at H
   have HS1:=C c3
   obtain⟨kd,hkd⟩:∃z:Int,Km.look impl_ParseAct.KS f1.data.toList=z:=⟨_,rfl⟩
   rw[hkd]at H
   have HKD:=C hkd
   clear hkd
   obtain⟨q,A2,H⟩:=bnd H
   have HC2:=C H
   clear H
   have q1:0<(t1.length:Int):=by omega
   obtain⟨ad1,e1,hx1_0⟩:=Kd.at_string (Kd.R_reads' HO1.out).2.2 0 (Int.le_refl 0) q1
   cases e1
   have e2:rdOf ByteArray.empty t1 0=f1:=by rw[HT1.out];rfl
   have qi1:(0<t1.length)=True:=eq_true (by omega)
   rw[show((0:Int)).toNat=0 from rfl,Addr.add_zero',e2]at hx1_0
   have HX1:=C hx1_0
   have HRL:=C hrl
   replace c2:=C c2
   replace q1:=eq_true q1
   clear hx1_0
   go_wp2_with (first|((with_reducible refine Km.gate ⟨#[97,100,100]⟩ rfl ?_);refine Km.put rfl rfl underlying49 underlying9 underlying3 (F:= []) rfl (World.ownsMap_made _ _ _ _) (by decide) ⟨#[97,100,100]⟩ 1 rfl rfl (by decide) (by decide) ?_;intro wm ho hg;have n0_:=C ho;have n1_:=C (pw_below_grown (below_alloc (Below.refl _ _) _) _ (below_size (below_alloc (Below.refl _ _) _)) hg (fun k_ hk_=>by cases hk_;exact Nat.le_refl _));clear ho hg;have HM:=n0_;have HN:=n1_;clear n0_ n1_)|((with_reducible refine Km.gate ⟨#[116,97,107,101]⟩ rfl ?_);refine Km.put rfl rfl underlying49 underlying9 underlying3 rfl HM.out (by decide) ⟨#[116,97,107,101]⟩ 2 rfl rfl (by decide) (by decide) ?_;intro wm ho hg;have n0_:=C ho;have n1_:=C (pw_below_grown HN.out _ (below_size HN.out) hg (fun k_ hk_=>by cases hk_;exact Nat.le_refl _));clear ho hg;clear HM HN;have HM:=n0_;have HN:=n1_;clear n0_ n1_)|((with_reducible refine Km.gate ⟨#[108,105,110,101]⟩ rfl ?_);refine Km.put rfl rfl underlying49 underlying9 underlying3 rfl HM.out (by decide) ⟨#[108,105,110,101]⟩ 3 rfl rfl (by decide) (by decide) ?_;intro wm ho hg;have n0_:=C ho;have n1_:=C (pw_below_grown HN.out _ (below_size HN.out) hg (fun k_ hk_=>by cases hk_;exact Nat.le_refl _));clear ho hg;clear HM HN;have HM:=n0_;have HN:=n1_;clear n0_ n1_)|((with_reducible refine Km.gate ⟨#[102,105,110,105,115,104]⟩ rfl ?_);refine Km.put rfl rfl underlying49 underlying9 underlying3 rfl HM.out (by decide) ⟨#[102,105,110,105,115,104]⟩ 4 rfl rfl (by decide) (by decide) ?_;intro wm ho hg;have n0_:=C ho;have n1_:=C (pw_below_grown HN.out _ (below_size HN.out) hg (fun k_ hk_=>by cases hk_;exact Nat.le_refl _));clear ho hg;clear HM HN;have HM:=n0_;have HN:=n1_;clear n0_ n1_)|((with_reducible refine Km.gate ⟨#[114,101,108,101,97,115,101]⟩ rfl ?_);refine Km.put rfl rfl underlying49 underlying9 underlying3 rfl HM.out (by decide) ⟨#[114,101,108,101,97,115,101]⟩ 5 rfl rfl (by decide) (by decide) ?_;intro wm ho hg;have n0_:=C ho;have n1_:=C (pw_below_grown HN.out _ (below_size HN.out) hg (fun k_ hk_=>by cases hk_;exact Nat.le_refl _));clear ho hg;clear HM HN;have HM:=n0_;have HN:=n1_;clear n0_ n1_;have hb:=HN.out;replace HO1:=eR HO1 hb;replace BK1:=eK BK1 hb;replace HB:=eB hb;have hx1_1:=pw_cell_below hb HX1.out;clear HN hb)|(at_lookup;(try(refine gate_guard (by rfl) ?_;dsimp only));refine Km.lookup rfl rfl underlying49 underlying9 underlying3 (zero3 _) rfl HM.out f1 rfl (by have:=HS1.out;unfold maxLen;omega) kd HKD.out ?_;clear HM)|((with_reducible refine gate_dst (N:=7) rfl ?_);refine Fix.be 7 #[V I 0,V I 0,V I 0,V I 0] 23 ?_;intro gb2 hg wb BK2 hb;have GW2:=gE (w:=w) hg;have NB1:=nL hg BK1;have NB2:=nG hg BK1;replace HO1:=eR HO1 hb;replace BK1:=eK BK1 hb;replace HB:=eB hb;clear hb hg;have:=NB1.out;have:=NB2.out;obtain⟨_,_,_,_,_,_,_,_⟩:=d4 BK2.out))
   all_goals (
    go_loopg [43] 4 (fun kq v43 w'=>∃(j:Nat) (x1 x2 x3:Int),v43=V I (j:Int)∧D (j≤rs.length)∧D (kq+j=4)∧D (impl_ParseAct.l0 k (rs.drop j) j x1 x2 x3=some q)∧D (Kd.R Kd.string 9 w' w.heap.size (fun _=>True) (L (some ad1) t1.length co1) t1)∧D (w'.heap[gb1]? =some (.cells #[V I 0,V I 0,V I 0,V I 0] 23 (0,0)))∧D (w'.heap[gb2]? =some (.cells #[V I kd,V I x1,V I x2,V I x3] 23 (0,0)))∧D (Below w.heap.size w w'))
    case atStart=>exact⟨0,0,0,0,rS,⟨Nat.zero_le _⟩,⟨rfl⟩,A2,⟨Kd.R_mono (fR (Kd.R_types HO1.out BK2.out (by decide))) (fun _ h_=>h_.1)⟩,⟨bK BK1.out⟩,⟨bK BK2.out⟩,⟨uB⟩⟩
    case round=>
     obtain⟨j,x1,x2,x3,rfl,HJ1,HJ2,HA,HO1,BK1,BK2,HB⟩:=hrel
     have hc1:=c2.out
     have hrl:=HRL.out
     have hj1:=HJ1.out
     by_cases cj:j<rs.length
     ·have hco:=(Kd.R_reads' HO1.out).2.1
      first
       |(exfalso;omega)
       |(
        have HA':=HA.out
        rw[List.drop_eq_getElem_cons cj]at HA'
        simp only[impl_ParseAct.l0]at HA'
        obtain⟨⟨p1,p2⟩,A3,H⟩:=bnd HA'
        dsimp only at H
        obtain⟨ad2,e3,hx2⟩:=Kd.at_string (Kd.R_reads' HO1.out).2.2 (j+1) (by omega) (by omega)
        cases e3
        rw[show((j:Int)+1).toNat=j+1 by omega,show rdOf ByteArray.empty t1 ((j:Int)+1)=rs[j] by rw[HT1.out];simp[rdOf,List.getD,show((j:Int)+1).toNat=j+1 by omega,List.getElem?_eq_getElem cj]]at hx2
        have hx3:wr.cell? ⟨ad1.block,ad1.off+1+j,none⟩=some (.string rs[j]):=by
         have h1:=hx2
         simp only[Addr.add,Nat.add_eq_zero_iff,Nat.one_ne_zero,and_false,if_false]at h1
         rw[Nat.add_assoc,Nat.add_comm 1 j]
         exact h1
        clear hx2
        have hlt:decide ((j:Int)<((t1.length - 1:Nat):Int))=true:=decide_eq_true (by omega)
        have hlt1:decide (j<t1.length - 1)=true:=decide_eq_true (by omega)
        obtain⟨y,hy⟩:∃y,y=rs[j]:=⟨_,rfl⟩
        rw[←hy]at hx3 A3
        clear hy
        cases p2 with
        |false=>
         rw[if_neg Bool.false_ne_true]at H
         obtain rfl:=si H
         have H:=HC2.out
         dsimp only at H
         simp only[Option.some.injEq,Prod.mk.injEq]at H
         obtain⟨rfl,rfl,rfl,rfl,rfl⟩:=H
         go_wp2_with (first|((with_reducible refine F (f:=16) rfl ?_);refine gl 16 (some 50) func16 #[.string y] ?_;(with_reducible refine(impl_ParseUint.calls k y p1 false _ A3.out (Ito.on hTab.out (uB))).mono ?_);rintro e w2 ⟨rfl,hb⟩;refine⟨_,rfl,?_⟩;replace HO1:=eR HO1 hb;replace BK1:=eK BK1 hb;replace BK2:=eK BK2 hb;replace HB:=eB hb;clear hb;obtain⟨_,_,_,_,_,_,_,_⟩:=d4 BK1.out))
         refine bodyPost_ret (results_ct rfl _ _ gb1 23 #[V I 0,V I 0,V I 0,V I 0] (0,0) _ rfl (bK BK1.out) underlying23 rfl (by kernel_rfl)) rfl ?_
         exact⟨rE,uB⟩
        |true=>
         rw[if_pos rfl]at H
         have HA1:=C H
         clear H HA HA'
         rcases(show j=0∨j=1∨j=2 by omega) with hj|hj|hj
         ·subst hj
          have hx4:wr.cell? ⟨ad1.block,ad1.off+1,none⟩=some (.string y):=hx3
          go_wp2_with (first|((with_reducible refine F (f:=16) rfl ?_);refine gl 16 (some 50) func16 #[.string y] ?_;(with_reducible refine(impl_ParseUint.calls k y p1 true _ A3.out (Ito.on hTab.out (uB))).mono ?_);rintro e w2 ⟨rfl,hb⟩;refine⟨_,rfl,?_⟩;replace HO1:=eR HO1 hb;replace BK1:=eK BK1 hb;replace BK2:=eK BK2 hb;replace HB:=eB hb;clear hb)|((with_reducible refine gate_dst (N:=59) rfl ?_);refine Km.lit (cs:= #[.pointer (some ⟨gb2,1,none⟩),.pointer (some ⟨gb2,2,none⟩),.pointer (some ⟨gb2,3,none⟩)]) (n:=3) (t:=50) rfl ?hr ?_;(case hr=>exact Fix.hr);intro gb3 hg w3 BK3 hb;replace HO1:=eR HO1 hb;replace BK1:=eK BK1 hb;replace BK2:=eK BK2 hb;replace HB:=eB hb;clear hb hg;have hp:=Fix.cellAt (i:=0) ⟨BK3⟩ rfl;obtain⟨_,_,_,_,_,_,_,_⟩:=d4 BK2.out))
          rcases gk with _|gk1
          ·exfalso;have:=HJ2.out;omega
          go_roundg gk1
          case measure=>omega
          case rel=>exact⟨1,p1,x2,x3,rS,⟨by omega⟩,⟨by have:=HJ2.out;omega⟩,HA1,⟨Kd.R_mono (fR (Kd.R_types HO1.out BK2.out (by decide))) (fun _ h_=>h_.1)⟩,⟨bK BK1.out⟩,⟨bK BK2.out⟩,⟨uB⟩⟩
         ·subst hj
          have hx4:wr.cell? ⟨ad1.block,ad1.off+2,none⟩=some (.string y):=hx3
          go_wp2_with (first|((with_reducible refine F (f:=16) rfl ?_);refine gl 16 (some 50) func16 #[.string y] ?_;(with_reducible refine(impl_ParseUint.calls k y p1 true _ A3.out (Ito.on hTab.out (uB))).mono ?_);rintro e w2 ⟨rfl,hb⟩;refine⟨_,rfl,?_⟩;replace HO1:=eR HO1 hb;replace BK1:=eK BK1 hb;replace BK2:=eK BK2 hb;replace HB:=eB hb;clear hb)|((with_reducible refine gate_dst (N:=59) rfl ?_);refine Km.lit (cs:= #[.pointer (some ⟨gb2,1,none⟩),.pointer (some ⟨gb2,2,none⟩),.pointer (some ⟨gb2,3,none⟩)]) (n:=3) (t:=50) rfl ?hr ?_;(case hr=>exact Fix.hr);intro gb3 hg w3 BK3 hb;replace HO1:=eR HO1 hb;replace BK1:=eK BK1 hb;replace BK2:=eK BK2 hb;replace HB:=eB hb;clear hb hg;have hp:=Fix.cellAt (i:=1) ⟨BK3⟩ rfl;obtain⟨_,_,_,_,_,_,_,_⟩:=d4 BK2.out))
          rcases gk with _|gk1
          ·exfalso;have:=HJ2.out;omega
          go_roundg gk1
          case measure=>omega
          case rel=>exact⟨2,x1,p1,x3,rS,⟨by omega⟩,⟨by have:=HJ2.out;omega⟩,HA1,⟨Kd.R_mono (fR (Kd.R_types HO1.out BK2.out (by decide))) (fun _ h_=>h_.1)⟩,⟨bK BK1.out⟩,⟨bK BK2.out⟩,⟨uB⟩⟩
         ·subst hj
          have hx4:wr.cell? ⟨ad1.block,ad1.off+3,none⟩=some (.string y):=hx3
          go_wp2_with (first|((with_reducible refine F (f:=16) rfl ?_);refine gl 16 (some 50) func16 #[.string y] ?_;(with_reducible refine(impl_ParseUint.calls k y p1 true _ A3.out (Ito.on hTab.out (uB))).mono ?_);rintro e w2 ⟨rfl,hb⟩;refine⟨_,rfl,?_⟩;replace HO1:=eR HO1 hb;replace BK1:=eK BK1 hb;replace BK2:=eK BK2 hb;replace HB:=eB hb;clear hb)|((with_reducible refine gate_dst (N:=59) rfl ?_);refine Km.lit (cs:= #[.pointer (some ⟨gb2,1,none⟩),.pointer (some ⟨gb2,2,none⟩),.pointer (some ⟨gb2,3,none⟩)]) (n:=3) (t:=50) rfl ?hr ?_;(case hr=>exact Fix.hr);intro gb3 hg w3 BK3 hb;replace HO1:=eR HO1 hb;replace BK1:=eK BK1 hb;replace BK2:=eK BK2 hb;replace HB:=eB hb;clear hb hg;have hp:=Fix.cellAt (i:=2) ⟨BK3⟩ rfl;obtain⟨_,_,_,_,_,_,_,_⟩:=d4 BK2.out))
          rcases gk with _|gk1
          ·exfalso;have:=HJ2.out;omega
          go_roundg gk1
          case measure=>omega
          case rel=>exact⟨3,x1,x2,p1,rS,⟨by omega⟩,⟨by have:=HJ2.out;omega⟩,HA1,⟨Kd.R_mono (fR (Kd.R_types HO1.out BK2.out (by decide))) (fun _ h_=>h_.1)⟩,⟨bK BK1.out⟩,⟨bK BK2.out⟩,⟨uB⟩⟩
       )
     ·have hjl:j=rs.length:=by omega
      have hA:=HA.out
      rw[hjl,List.drop_length]at hA
      simp only[impl_ParseAct.l0]at hA
      obtain rfl:=Option.some.inj hA
      clear hA HA
      have H:=HC2.out
      dsimp only at H
      obtain⟨⟨u1,u2⟩,A3,H⟩:=bnd H
      dsimp only at H
      have hlt:decide ((j:Int)<((t1.length - 1:Nat):Int))=false:=decide_eq_false (by omega)
      have hlt1:decide (j<t1.length - 1)=false:=decide_eq_false (by omega)
      cases u2 with
      |false=>
       rw[if_neg Bool.false_ne_true]at H
       simp only[Option.some.injEq,Prod.mk.injEq]at H
       obtain⟨rfl,rfl,rfl,rfl,rfl⟩:=H
       obtain⟨_,_,_,_,_,_,_,_⟩:=d4 BK2.out
       go_wp2_with (first|((with_reducible refine F (f:=10) rfl ?_);refine gl 10 (some 68) func10 #[G #[V I kd,V I x1,V I x2,V I x3]] ?_;(with_reducible refine(impl_FormatAct.calls k kd x1 x2 x3 u1 false _ A3.out (Ito.on hTab.out (uB))).mono ?_);rintro e w2 ⟨rfl,hb⟩;refine⟨_,rfl,?_⟩;replace HO1:=eR HO1 hb;replace BK1:=eK BK1 hb;replace BK2:=eK BK2 hb;replace HB:=eB hb;clear hb;obtain⟨_,_,_,_,_,_,_,_⟩:=d4 BK2.out;obtain⟨_,_,_,_,_,_,_,_⟩:=d4 BK1.out))
       refine bodyPost_ret (results_ct rfl _ _ gb1 23 #[V I 0,V I 0,V I 0,V I 0] (0,0) _ rfl (bK BK1.out) underlying23 rfl (by kernel_rfl)) rfl ?_
       exact⟨rE,uB⟩
      |true=>
       rw[if_pos rfl]at H
       obtain⟨u3,A4,H⟩:=bnd H
       rw[←HT1.out]at A4
       by_cases c4:u1.toList=u3.toList
       rotate_left
       ·rw[if_neg c4]at H
        simp only[Option.some.injEq,Prod.mk.injEq]at H
        obtain⟨rfl,rfl,rfl,rfl,rfl⟩:=H
        have c4b0:(u1.toList==u3.toList)=false:=beq_eq_false_iff_ne.mpr c4
        have c4b1:(u1.toList !=u3.toList)=true:=bne_iff_ne.mpr c4
        clear c4
        obtain⟨_,_,_,_,_,_,_,_⟩:=d4 BK2.out
        go_wp2_with (first|((with_reducible refine F (f:=10) rfl ?_);refine gl 10 (some 68) func10 #[G #[V I kd,V I x1,V I x2,V I x3]] ?_;(with_reducible refine(impl_FormatAct.calls k kd x1 x2 x3 u1 true _ A3.out (Ito.on hTab.out (uB))).mono ?_);rintro e w2 ⟨rfl,hb⟩;refine⟨_,rfl,?_⟩;replace HO1:=eR HO1 hb;replace BK1:=eK BK1 hb;replace BK2:=eK BK2 hb;replace HB:=eB hb;clear hb;obtain⟨_,_,_,_,_,_,_,_⟩:=d4 BK2.out;obtain⟨_,_,_,_,_,_,_,_⟩:=d4 BK1.out)|(go_at_call 17;(with_reducible refine(strings_Join.calls (some ad1) _ t1 ⟨#[32]⟩ u3 _ (uC (Kd.R_reads' HO1.out).2.2) (by have:=(Kd.R_reads' HO1.out).2.1;omega) A4.out).mono ?_);rintro e w3 ⟨rfl,hb⟩;replace BK1:=eK BK1 hb;replace BK2:=eK BK2 hb;replace HB:=eB hb;clear hb;obtain⟨_,_,_,_,_,_,_,_⟩:=d4 BK2.out;obtain⟨_,_,_,_,_,_,_,_⟩:=d4 BK1.out))
        refine bodyPost_ret (results_ct rfl _ _ gb1 23 #[V I 0,V I 0,V I 0,V I 0] (0,0) _ rfl (bK BK1.out) underlying23 rfl (by kernel_rfl)) rfl ?_
        exact⟨rE,uB⟩
       rw[if_pos c4]at H
       simp only[Option.some.injEq,Prod.mk.injEq]at H
       obtain⟨rfl,rfl,rfl,rfl,rfl⟩:=H
       have c4b0:(u1.toList==u3.toList)=true:=beq_iff_eq.mpr c4
       have c4b1:(u1.toList !=u3.toList)=false:=bne_eq_false_iff_eq.mpr c4
       clear c4
       obtain⟨_,_,_,_,_,_,_,_⟩:=d4 BK2.out
       go_wp2_with (first|((with_reducible refine F (f:=10) rfl ?_);refine gl 10 (some 68) func10 #[G #[V I kd,V I x1,V I x2,V I x3]] ?_;(with_reducible refine(impl_FormatAct.calls k kd x1 x2 x3 u1 true _ A3.out (Ito.on hTab.out (uB))).mono ?_);rintro e w2 ⟨rfl,hb⟩;refine⟨_,rfl,?_⟩;replace HO1:=eR HO1 hb;replace BK1:=eK BK1 hb;replace BK2:=eK BK2 hb;replace HB:=eB hb;clear hb;obtain⟨_,_,_,_,_,_,_,_⟩:=d4 BK2.out;obtain⟨_,_,_,_,_,_,_,_⟩:=d4 BK1.out)|(go_at_call 17;(with_reducible refine(strings_Join.calls (some ad1) _ t1 ⟨#[32]⟩ u3 _ (uC (Kd.R_reads' HO1.out).2.2) (by have:=(Kd.R_reads' HO1.out).2.1;omega) A4.out).mono ?_);rintro e w3 ⟨rfl,hb⟩;replace BK1:=eK BK1 hb;replace BK2:=eK BK2 hb;replace HB:=eB hb;clear hb;obtain⟨_,_,_,_,_,_,_,_⟩:=d4 BK2.out;obtain⟨_,_,_,_,_,_,_,_⟩:=d4 BK1.out))
       refine bodyPost_ret (results_ct rfl _ _ gb1 23 #[V I kd,V I x1,V I x2,V I x3] (0,0) _ rfl (bK BK1.out) underlying23 rfl (by kernel_rfl)) rfl ?_
       exact⟨rE,uB⟩
    )
def laws_big.f (l0:List Int):Option (Bool):=some (decide ((l0.length:Int) >1048576))
theorem laws_big.calls (A0:Option Addr) (c0:Nat) (l0:List Int) (r:Bool) (w:World) (hr0:Kd.C (Kd.int .u8) w A0 l0.length l0) (hc0:l0.length≤c0) (h:laws_big.f l0=some r):
 Calls prog 8 #[L A0 l0.length c0] w fun e w'=>e=.returned (O r)∧Drawn0 w w':=by
 have HR1:=C hr0
 have HC1:=C hc0
 (try clear hr0);(try clear hc0)
 have H:=h
 unfold laws_big.f at H
 clear h
 obtain rfl:=si H
 go_enter func8,ntmps8
 go_wp2
 go_ret
 exact⟨by first|rfl|(simp;done)|(simp[*];done),by repeat(first|exact Drawn0.refl _|apply Drawn0.step)⟩
def IsS70 (w0 W:World) (g:Nat) (f0:List Int) (f1:Int) (f2:Int):Prop:=∃A0 c0,W.heap[g]? =some (.cells #[L A0 f0.length c0,V I f1,V I f2] 70 (0,0))∧w0.heap.size≤g∧Kd.C (Kd.int .u8) w0 A0 f0.length f0
theorem IsS70.grown {w0 W:World} {g:Nat} {f0:List Int} {f1:Int} {f2:Int} {W1:World} {row:Option Nat} (h:IsS70 w0 W g f0 f1 f2) (hw:W.grownBy W1 row) (hne:some g≠row):IsS70 w0 W1 g f0 f1 f2:=by
 obtain⟨A0,c0,hb,hg,hr0⟩:=h
 exact⟨A0,c0,blk_grown hb hw hne,hg,hr0⟩
theorem IsS70.own_neN {w0 W:World} {g:Nat} {f0:List Int} {f1:Int} {f2:Int} {α:Type} {d:Kd α} {e:Nat} {base:Nat} {ok:Nat→Prop} {v:Value} {xs:List α} (h:IsS70 w0 W g f0 f1 f2) (ho:Kd.N d e W base ok v xs) (ht:e≠70):some g≠v.ownBlock:=by
 obtain⟨A0,c0,hb,hg,hr0⟩:=h
 exact Kd.N_ne ho hb ht
theorem IsS70.fresh {w0 W:World} {g:Nat} {f0:List Int} {f1:Int} {f2:Int} (h:IsS70 w0 W g f0 f1 f2):∀k,W.heap.size≤k→k≠g:=by
 obtain⟨A0,c0,hb,hg,hr0⟩:=h
 exact Kd.freshB hb
theorem IsS70.kept {w0 W:World} {g:Nat} {f0:List Int} {f1:Int} {f2:Int} {W1:World} {S:Nat→Prop} (h:IsS70 w0 W g f0 f1 f2) (hk:Kept W W1 S) (hne:¬S g):IsS70 w0 W1 g f0 f1 f2:=by
 obtain⟨A0,c0,hb,hg,hr0⟩:=h
 exact⟨A0,c0,blk_kept hb hk hne,hg,hr0⟩
theorem IsS70.below {w0 W:World} {g:Nat} {f0:List Int} {f1:Int} {f2:Int} {W1:World} (h:IsS70 w0 W g f0 f1 f2) (hw:Below W.heap.size W W1):IsS70 w0 W1 g f0 f1 f2:=h.grown (grown_of_below hw none) (by simp)
theorem IsS70.alloc {w0 W:World} {g:Nat} {f0:List Int} {f1:Int} {f2:Int} (h:IsS70 w0 W g f0 f1 f2) (o:Obj):IsS70 w0 (W.alloc o) g f0 f1 f2:=h.below (below_alloc (Below.refl _ _) o)
theorem IsS70.drewN {w0 W:World} {g:Nat} {f0:List Int} {f1:Int} {f2:Int} (h:IsS70 w0 W g f0 f1 f2) (m:Nat):IsS70 w0 (W.drewN m) g f0 f1 f2:=h
theorem IsS70.drew {w0 W:World} {g:Nat} {f0:List Int} {f1:Int} {f2:Int} (h:IsS70 w0 W g f0 f1 f2):IsS70 w0 W.drew g f0 f1 f2:=h
theorem IsS70.at_ {w0 W:World} {g:Nat} {f0:List Int} {f1:Int} {f2:Int} {w':World} {m:Nat} (hq:W.drewN m=w') (h:IsS70 w0 W g f0 f1 f2):IsS70 w0 w' g f0 f1 f2:=by subst hq;exact IsS70.drewN h m
theorem IsS70.apart {w0 W:World} {g:Nat} {f0:List Int} {f1:Int} {f2:Int} {α:Type} {d:Kd α} {e:Nat} {base:Nat} {ok:Nat→Prop} {v:Value} {xs:List α} (h:IsS70 w0 W g f0 f1 f2) (ho:d.R e W base ok v xs) (ht:∀q,q ∈ e::d.E→q≠70):d.R e W base (fun k=>ok k∧k≠g) v xs:=by
 obtain⟨A0,c0,hb,hg,hr0⟩:=h
 exact Kd.R_types ho hb ht
theorem IsS70.own_ne {w0 W:World} {g:Nat} {f0:List Int} {f1:Int} {f2:Int} {α:Type} {d:Kd α} {e:Nat} {base:Nat} {ok:Nat→Prop} {v:Value} {xs:List α} (h:IsS70 w0 W g f0 f1 f2) (ho:d.R e W base ok v xs) (ht:e≠70):some g≠v.ownBlock:=by
 obtain⟨A0,c0,hb,hg,hr0⟩:=h
 exact Kd.R_ne ho hb ht
theorem IsS70.apartQ {w0 W:World} {g:Nat} {f0:List Int} {f1:Int} {f2:Int} {α:Type} {d:Kd α} {e:Nat} {base:Nat} {ok:Nat→Prop} {v:Value} {xs:List α} (h:IsS70 w0 W g f0 f1 f2) (ho:d.Q e W base ok v xs) (ht:∀q,q ∈ e::d.E→q≠70):d.Q e W base (fun k=>ok k∧k≠g) v xs:=by
 obtain⟨A0,c0,hb,hg,hr0⟩:=h
 exact Kd.Q_types ho hb ht
theorem IsS70.own_neQ {w0 W:World} {g:Nat} {f0:List Int} {f1:Int} {f2:Int} {α:Type} {d:Kd α} {e:Nat} {base:Nat} {ok:Nat→Prop} {v:Value} {xs:List α} (h:IsS70 w0 W g f0 f1 f2) (ho:d.Q e W base ok v xs) (ht:e≠70):some g≠v.ownBlock:=by
 obtain⟨A0,c0,hb,hg,hr0⟩:=h
 exact Kd.Q_ne ho hb ht
theorem IsS70.apartS {w0 W:World} {g:Nat} {f0:List Int} {f1:Int} {f2:Int} {α:Type} {d:Kd α} {e:Nat} {base:Nat} {ok:Nat→Prop} {v:Value} {xs:List α} (h:IsS70 w0 W g f0 f1 f2) (ho:d.S e W base ok v xs) (ht:∀q,q ∈ e::d.E→q≠70):d.S e W base (fun k=>ok k∧k≠g) v xs:=by
 obtain⟨A0,c0,hb,hg,hr0⟩:=h
 exact Kd.S_types ho hb ht
theorem IsS70.own_neS {w0 W:World} {g:Nat} {f0:List Int} {f1:Int} {f2:Int} {α:Type} {d:Kd α} {e:Nat} {base:Nat} {ok:Nat→Prop} {v:Value} {xs:List α} (h:IsS70 w0 W g f0 f1 f2) (ho:d.S e W base ok v xs) (ht:e≠70):some g≠v.ownBlock:=by
 obtain⟨A0,c0,hb,hg,hr0⟩:=h
 exact Kd.S_ne ho hb ht
theorem IsS70.lt {w0 W:World} {g:Nat} {f0:List Int} {f1:Int} {f2:Int} (h:IsS70 w0 W g f0 f1 f2):g<W.heap.size:=by
 obtain⟨A0,c0,hb,hg,hr0⟩:=h
 exact blk_lt hb
theorem IsS70.ge {w0 W:World} {g:Nat} {f0:List Int} {f1:Int} {f2:Int} (h:IsS70 w0 W g f0 f1 f2):w0.heap.size≤g:=by
 obtain⟨A0,c0,hb,hg,hr0⟩:=h
 exact hg
theorem IsS70.ne_blk {w0 W:World} {g:Nat} {f0:List Int} {f1:Int} {f2:Int} {a:Nat} {cs:Array Value} {t:TypeId} {fr:Nat×Nat} (h:IsS70 w0 W g f0 f1 f2) (hb2:W.heap[a]? =some (.cells cs t fr)) (ht:t≠70):g≠a:=by
 obtain⟨A0,c0,hb,hg,hr0⟩:=h
 rintro rfl
 rw[hb]at hb2
 injection hb2 with hb2
 injection hb2 with _ ht2
 exact ht ht2.symm
theorem IsS70.far {w0 W:World} {g:Nat} {f0:List Int} {f1:Int} {f2:Int} {p:Addr} (h:IsS70 w0 W g f0 f1 f2) (hne:g≠p.block) (u:Value):IsS70 w0 (W.setCell p u) g f0 f1 f2:=by
 obtain⟨A0,c0,hb,hg,hr0⟩:=h
 exact⟨A0,c0,blk_far hb hne u,hg,hr0⟩
theorem cellS70_0 {W:World} {g:Nat} {A0:Option Addr} {c0:Nat} {f0:List Int} {f1:Int} {f2:Int} (h:W.heap[g]? =some (.cells #[L A0 f0.length c0,V I f1,V I f2] 70 (0,0))):W.cell? ⟨g,0,none⟩=some (L A0 f0.length c0):=(blk_cell h 0).trans rfl
theorem cellS70_1 {W:World} {g:Nat} {A0:Option Addr} {c0:Nat} {f0:List Int} {f1:Int} {f2:Int} (h:W.heap[g]? =some (.cells #[L A0 f0.length c0,V I f1,V I f2] 70 (0,0))):W.cell? ⟨g,1,none⟩=some (V I f1):=(blk_cell h 1).trans rfl
theorem IsS70.set_1 {w0 W:World} {g:Nat} {f0:List Int} {f1:Int} {f2:Int} (h:IsS70 w0 W g f0 f1 f2) (x:Int):IsS70 w0 (W.setCell ⟨g,1,none⟩ (V I x)) g f0 x f2:=by
 obtain⟨A0,c0,hb,hg,hr0⟩:=h
 exact⟨A0,c0,by simpa using blk_set hb 1 (V I x),hg,hr0⟩
theorem cellS70_2 {W:World} {g:Nat} {A0:Option Addr} {c0:Nat} {f0:List Int} {f1:Int} {f2:Int} (h:W.heap[g]? =some (.cells #[L A0 f0.length c0,V I f1,V I f2] 70 (0,0))):W.cell? ⟨g,2,none⟩=some (V I f2):=(blk_cell h 2).trans rfl
theorem IsS70.set_2 {w0 W:World} {g:Nat} {f0:List Int} {f1:Int} {f2:Int} (h:IsS70 w0 W g f0 f1 f2) (x:Int):IsS70 w0 (W.setCell ⟨g,2,none⟩ (V I x)) g f0 f1 x:=by
 obtain⟨A0,c0,hb,hg,hr0⟩:=h
 exact⟨A0,c0,by simpa using blk_set hb 2 (V I x),hg,hr0⟩
theorem IsS70.new (w0 W:World) (A0:Option Addr) (c0:Nat) (f0:List Int) (f1:Int) (f2:Int) (hB:Below w0.heap.size w0 W) (hr0:Kd.C (Kd.int .u8) w0 A0 f0.length f0):IsS70 w0 (W.alloc (.cells #[L A0 f0.length c0,V I f1,V I f2] 70)) W.heap.size f0 f1 f2:=⟨A0,c0,by simpa using heap_alloc_new W _,hB.size,hr0⟩
def spec_l01New.l0:Nat→List Int→Int→Int→Option (List Int×Int×Int)
  |0,_,_,_=>none
  |k+1,x0,x3,x4=>if x4<(x0.length:Int) then(if x4<4000 then(if 0≤x4 then(spec_l01New.l0 k x0 (Go.bits .and .i64 (wrap64 ((wrap64 ((wrap64 (x3 * 131))+(wrap64 (rd x0 x4))))+7)) 1073741823) (wrap64 (x4+1))) else(none)) else(some (x0,0,x3))) else(some (x0,0,x3))
def spec_l01New.f (k:Nat) (l0:List Int):Option (List Int×Int×Int):=spec_l01New.l0 k l0 (wrap64 (98729+(l0.length:Int))) 0
theorem spec_l01New.W1 {p:Prop} (h:p:=by
 go_wp2_with (first|((with_reducible refine gate_dst (N:=31) rfl ?_);refine Fix.be 31 #[L A0 l0.length c0,V I 0,V I x1_1] 70 ?_;intro gb1 hg w1 BK1 hb;have GW1:=C ((by rw[hg];exact(below_size (by repeat(first|(with_reducible first|exact HBW.out|apply bA|apply bN|apply b1)|exact HBW.out))):w.heap.size≤gb1));have GE1:=C ((Nat.le_trans HW1.out (by rw[hg];exact(below_size (by repeat(first|(with_reducible first|exact HBW.out|apply bA|apply bN|apply b1)|exact HBW.out))):w.heap.size≤gb1):w0.heap.size≤gb1));replace HBW:=C (below_step HBW.out hb);replace HB:=eB hb;clear hb hg))
 go_ret
 exact⟨_,rfl,(show IsS70 w0 _ gb1 l0 0 x1_1 from⟨_,_,by exact bK BK1.out,GE1.out,HR1.out⟩),uB,by repeat(first|(with_reducible first|exact HBW.out|apply bA|apply bN|apply b1|refine below_set ?_ GW1.out)|exact HBW.out)⟩):p:=h
theorem spec_l01New.calls (k:Nat) (A0:Option Addr) (c0:Nat) (l0:List Int) (r1:List Int) (r2:Int) (r3:Int) (w0 w:World) (hB:Below w0.heap.size w0 w) (hr0:Kd.C (Kd.int .u8) w0 A0 l0.length l0) (hc0:l0.length≤c0) (h:spec_l01New.f k l0=some (r1,r2,r3)):
 Calls prog 18 #[L A0 l0.length c0] w fun e w'=>∃g_:Nat,e=.returned (.pointer (some ⟨g_,0,none⟩))∧IsS70 w0 w' g_ r1 r2 r3∧Below w0.heap.size w0 w'∧Below w.heap.size w w':=by
 have hu1:=underlying70
 have HR1:=C hr0
 have HC1:=C hc0
 (try clear hr0);(try clear hc0)
 have HBW:=C (Below.refl w.heap.size w)
 have HW1:=C hB.size
 have HB:=C hB
 clear hB
 have H:=h
 unfold spec_l01New.f at H
 clear h
 have H':=C H
 clear H
 go_enter func18,ntmps18
 go_wp2
 go_loopg [3,4] k (fun kq v3 v4 w'=>∃(x1_1:Int) (x2_1:Int),v3=V I x1_1∧v4=V I x2_1∧D (spec_l01New.l0 kq l0 x1_1 x2_1=some (r1,r2,r3))∧D (kq≤k)∧D (Below w0.heap.size w0 w')∧D (Below w.heap.size w w'))
 case atStart=>exact⟨(wrap64 (98729+(l0.length:Int))),(0),rS,rS,H',⟨Nat.le_refl _⟩,⟨uB⟩,⟨by repeat(first|(with_reducible first|exact HBW.out|apply bA|apply bN|apply b1)|exact HBW.out)⟩⟩
 case round=>
  clear H'
  obtain⟨x1_1,x2_1,rfl,rfl,HA,HK1,HB,HBW⟩:=hrel
  cases gk with
  |zero=>exact absurd HA.out (by simp[spec_l01New.l0])
  |succ k1=>
   have H:=HA.out
   clear HA
   simp only[spec_l01New.l0]at H
   by_cases c1:x2_1<(l0.length:Int)
   rotate_left
   ·rw[if_neg c1]at H
    replace c1:=decide_eq_false c1
    simp only[Option.some.injEq,Prod.mk.injEq]at H
    obtain⟨rfl,rfl,rfl⟩:=H
    exact spec_l01New.W1
   rw[if_pos c1]at H
   replace c1:=decide_eq_true c1
   by_cases c2:x2_1<4000
   rotate_left
   ·rw[if_neg c2]at H
    replace c2:=decide_eq_false c2
    simp only[Option.some.injEq,Prod.mk.injEq]at H
    obtain⟨rfl,rfl,rfl⟩:=H
    exact spec_l01New.W1
   rw[if_pos c2]at H
   replace c2:=decide_eq_true c2
   obtain⟨c3,H⟩:=np H
   replace c3:=decide_eq_true c3
   have H':=C H
   clear H
   have p1:0≤(x2_1:Int):=oT
   have q1:x2_1<(l0.length:Int):=oT
   obtain⟨ad1,e1,hx1_0⟩:=Kd.at_int HR1.out x2_1 p1 q1
   cases e1
   replace hx1_0:=pw_cell_below HB.out hx1_0
   replace p1:=eq_true p1
   replace q1:=eq_true q1
   go_wp2
   go_roundg k1
   case measure=>have:=HK1.out;omega
   case rel=>exact⟨(Go.bits .and .i64 (wrap64 ((wrap64 ((wrap64 (x1_1 * 131))+(wrap64 (rd l0 x2_1))))+7)) 1073741823),(wrap64 (x2_1+1)),rS,rS,H',⟨by have:=HK1.out;omega⟩,⟨uB⟩,⟨by repeat(first|(with_reducible first|exact HBW.out|apply bA|apply bN|apply b1)|exact HBW.out)⟩⟩
def spec_l01Byte.f (s0_0:List Int) (s0_1:Int) (s0_2:Int):Option (Int×Int×Int):=if s0_1<(s0_0.length:Int) then(if 0≤s0_1 then(some (Go.bits .and .i64 (wrap64 ((Go.bits .and .i64 (Go.bits .xor .i64 ((wrap64 ((wrap64 (s0_2 * 6364136223846793005))+1442695040888963407)) / 8589934592) ((wrap64 ((wrap64 (s0_2 * 6364136223846793005))+1442695040888963407)) / 35184372088832)) 255)+(wrap64 (rd s0_0 s0_1)))) 255,wrap64 (s0_1+1),wrap64 ((wrap64 (s0_2 * 6364136223846793005))+1442695040888963407))) else(none)) else(some (Go.bits .and .i64 (Go.bits .xor .i64 ((wrap64 ((wrap64 (s0_2 * 6364136223846793005))+1442695040888963407)) / 8589934592) ((wrap64 ((wrap64 (s0_2 * 6364136223846793005))+1442695040888963407)) / 35184372088832)) 255,s0_1,wrap64 ((wrap64 (s0_2 * 6364136223846793005))+1442695040888963407)))
theorem spec_l01Byte.W1 {p:Prop} (h:p:=by
 go_enter func45,ntmps45
 go_wp2
 repeat(go_quiet (fail);try go_wp2)
 go_ret
 exact⟨rE,by repeat(first|(with_reducible first|exact HI1.out|apply IsS70.alloc|apply IsS70.drewN|apply IsS70.drew|apply IsS70.set_1|apply IsS70.set_2)|exact HI1.out),by repeat(first|(with_reducible first|exact HB.out|apply bA|apply bN|apply b1|refine below_set ?_ (IsS70.ge HI1.out))|exact HB.out),uH⟩):p:=h
theorem spec_l01Byte.calls (g:Nat) (s0_0:List Int) (s0_1:Int) (s0_2:Int) (r1:Int) (r2:Int) (r3:Int) (w0 w:World) (hI:IsS70 w0 w g s0_0 s0_1 s0_2) (hB:Below w0.heap.size w0 w) (h:spec_l01Byte.f s0_0 s0_1 s0_2=some (r1,r2,r3)):
 Calls prog 45 #[.pointer (some ⟨g,0,none⟩)] w fun e w'=>e=.returned (V I r1)∧IsS70 w0 w' g s0_0 r2 r3∧Below w0.heap.size w0 w'∧KeepBut w w' g none:=by
 have HI1:=C hI
 have HK:=C (KeepBut.refl w g none)
 have HL:=C hB.size
 clear hI
 have HW1:=C hB.size
 have HB:=C hB
 clear hB
 have H:=h
 unfold spec_l01Byte.f at H
 clear h
 by_cases c1:s0_1<(s0_0.length:Int)
 rotate_left
 ·rw[if_neg c1]at H
  replace c1:=decide_eq_false c1
  simp only[Option.some.injEq,Prod.mk.injEq]at H
  obtain⟨rfl,rfl,rfl⟩:=H
  obtain⟨ASz1_0,cSz1_0,HGz1,hgz1,HSz1_0⟩:=HI1.out
  have hcz1_0:=cellS70_0 HGz1
  have hcz1_1:=cellS70_1 HGz1
  have hcz1_2:=cellS70_2 HGz1
  have hfz1_1:=blk_frozen HGz1 1
  have hfz1_2:=blk_frozen HGz1 2
  clear HGz1 hgz1
  exact spec_l01Byte.W1
 rw[if_pos c1]at H
 replace c1:=decide_eq_true c1
 obtain⟨c2,H⟩:=np H
 replace c2:=decide_eq_true c2
 simp only[Option.some.injEq,Prod.mk.injEq]at H
 obtain⟨rfl,rfl,rfl⟩:=H
 obtain⟨ASz1_0,cSz1_0,HGz1,hgz1,HSz1_0⟩:=HI1.out
 have hcz1_0:=cellS70_0 HGz1
 have hcz1_1:=cellS70_1 HGz1
 have hcz1_2:=cellS70_2 HGz1
 have hfz1_1:=blk_frozen HGz1 1
 have hfz1_2:=blk_frozen HGz1 2
 clear HGz1 hgz1
 have p1:0≤(s0_1:Int):=oT
 have q1:s0_1<(s0_0.length:Int):=oT
 obtain⟨ad1,e1,hx1_0⟩:=Kd.at_int HSz1_0 s0_1 p1 q1
 cases e1
 have hn1_0:ad1.block≠g:=Nat.ne_of_lt (Nat.lt_of_lt_of_le (by have:=World.block_lt_of_cell? _ _ hx1_0;first|rwa [add_block]at this|exact this) (IsS70.ge HI1.out))
 replace hx1_0:=pw_cell_below HB.out hx1_0
 replace hx1_0:=(cell_far (p:=⟨g,2,none⟩) (nm hn1_0) (V I (wrap64 ((wrap64 (s0_2 * 6364136223846793005))+1442695040888963407)))).trans hx1_0
 (try have hy1_0:=dn1 hx1_0)
 clear hn1_0
 replace p1:=eq_true p1
 replace q1:=eq_true q1
 exact spec_l01Byte.W1
def spec_l01Below.f (s0_0:List Int) (s0_1:Int) (s0_2:Int) (a1:Int):Option (Int×Int×Int):=if a1≤0 then(some (0,s0_1,s0_2)) else(if a1≤256 then((spec_l01Byte.f s0_0 s0_1 s0_2).bind fun bt148=>(if a1=0 then(none) else(some (Int.tmod bt148.1 a1,bt148.2.1,bt148.2.2)))) else((spec_l01Byte.f s0_0 s0_1 s0_2).bind fun bt151=>((spec_l01Byte.f s0_0 bt151.2.1 bt151.2.2).bind fun bt154=>((spec_l01Byte.f s0_0 bt154.2.1 bt154.2.2).bind fun bt157=>((spec_l01Byte.f s0_0 bt157.2.1 bt157.2.2).bind fun bt160=>(if a1=0 then(none) else(some (Int.tmod (wrap64 ((wrap64 ((wrap64 ((wrap64 (bt151.1 * 16777216))+(wrap64 (bt154.1 * 65536))))+(wrap64 (bt157.1 * 256))))+bt160.1)) a1,bt160.2.1,bt160.2.2))))))))
theorem spec_l01Below.calls (g:Nat) (s0_0:List Int) (s0_1:Int) (s0_2:Int) (a1:Int) (r1:Int) (r2:Int) (r3:Int) (w0 w:World) (hI:IsS70 w0 w g s0_0 s0_1 s0_2) (hB:Below w0.heap.size w0 w) (h:spec_l01Below.f s0_0 s0_1 s0_2 a1=some (r1,r2,r3)):
 Calls prog 30 #[.pointer (some ⟨g,0,none⟩),V I a1] w fun e w'=>e=.returned (V I r1)∧IsS70 w0 w' g s0_0 r2 r3∧Below w0.heap.size w0 w'∧KeepBut w w' g none:=by
 have HI1:=C hI
 have HK:=C (KeepBut.refl w g none)
 have HL:=C hB.size
 clear hI
 have HW1:=C hB.size
 have HB:=C hB
 clear hB
 have H:=h
 unfold spec_l01Below.f at H
 clear h
 by_cases c1:a1≤0
 ·rw[if_pos c1]at H
  replace c1:=decide_eq_true c1
  simp only[Option.some.injEq,Prod.mk.injEq]at H
  obtain⟨rfl,rfl,rfl⟩:=H
  go_enter func30,ntmps30
  go_wp2
  go_ret
  exact⟨rE,by repeat(first|(with_reducible first|exact HI1.out|apply IsS70.alloc|apply IsS70.drewN|apply IsS70.drew|apply IsS70.set_1|apply IsS70.set_2)|exact HI1.out),by repeat(first|(with_reducible first|exact HB.out|apply bA|apply bN|apply b1|refine below_set ?_ (IsS70.ge HI1.out))|exact HB.out),uH⟩
 rw[if_neg c1]at H
 replace c1:=decide_eq_false c1
 by_cases c2:a1≤256
 ·rw[if_pos c2]at H
  replace c2:=decide_eq_true c2
  obtain⟨⟨t1,t2,t3⟩,A1,H⟩:=bnd H
  dsimp only at H
  by_cases c3:a1=0
  ·rw[if_pos c3]at H
   exact absurd H (by simp)
  rw[if_neg c3]at H
  have c3b0:(a1==0)=false:=beq_eq_false_iff_ne.mpr c3
  have c3b1:(a1 !=0)=true:=bne_iff_ne.mpr c3
  simp only[Option.some.injEq,Prod.mk.injEq]at H
  obtain⟨rfl,rfl,rfl⟩:=H
  go_enter func30,ntmps30
  go_wp2_with (first|((with_reducible refine F (f:=45) rfl ?_);refine gl 45 (some 14) func45 #[.pointer (some ⟨g,0,none⟩)] ?_;(with_reducible refine(spec_l01Byte.calls g s0_0 s0_1 s0_2 t1 t2 t3 w0 _ ?side1 ?side2 A1.out).mono ?_);(case side1=>repeat(first|(with_reducible first|exact HI1.out|apply IsS70.alloc|apply IsS70.drewN|apply IsS70.drew|apply IsS70.set_1|apply IsS70.set_2)|exact HI1.out));(case side2=>repeat(first|(with_reducible first|exact HB.out|apply bA|apply bN|apply b1|refine below_set ?_ (IsS70.ge HI1.out))|exact HB.out));rintro e w1 ⟨rfl,hi,hb,hk⟩;refine⟨_,rfl,?_⟩;replace HK:=C (KeepBut.trans (show KeepBut w _ _ _ from uH) hk (.inl rfl));replace HB:=C (hb);replace HI1:=C (hi);clear hb hi hk))
  go_ret
  exact⟨rE,by repeat(first|(with_reducible first|exact HI1.out|apply IsS70.alloc|apply IsS70.drewN|apply IsS70.drew|apply IsS70.set_1|apply IsS70.set_2)|exact HI1.out),by repeat(first|(with_reducible first|exact HB.out|apply bA|apply bN|apply b1|refine below_set ?_ (IsS70.ge HI1.out))|exact HB.out),uH⟩
 rw[if_neg c2]at H
 replace c2:=decide_eq_false c2
 obtain⟨⟨t1,t2,t3⟩,A1,H⟩:=bnd H
 dsimp only at H
 obtain⟨⟨t4,t5,t6⟩,A2,H⟩:=bnd H
 dsimp only at H
 obtain⟨⟨t7,t8,t9⟩,A3,H⟩:=bnd H
 dsimp only at H
 obtain⟨⟨t10,t11,t12⟩,A4,H⟩:=bnd H
 dsimp only at H
 by_cases c3:a1=0
 ·rw[if_pos c3]at H
  exact absurd H (by simp)
 rw[if_neg c3]at H
 have c3b0:(a1==0)=false:=beq_eq_false_iff_ne.mpr c3
 have c3b1:(a1 !=0)=true:=bne_iff_ne.mpr c3
 simp only[Option.some.injEq,Prod.mk.injEq]at H
 obtain⟨rfl,rfl,rfl⟩:=H
 go_enter func30,ntmps30
 go_wp2_with (first|((with_reducible refine F (f:=45) rfl ?_);refine gl 45 (some 18) func45 #[.pointer (some ⟨g,0,none⟩)] ?_;(with_reducible refine(spec_l01Byte.calls g s0_0 s0_1 s0_2 t1 t2 t3 w0 _ ?side1 ?side2 A1.out).mono ?_);(case side1=>repeat(first|(with_reducible first|exact HI1.out|apply IsS70.alloc|apply IsS70.drewN|apply IsS70.drew|apply IsS70.set_1|apply IsS70.set_2)|exact HI1.out));(case side2=>repeat(first|(with_reducible first|exact HB.out|apply bA|apply bN|apply b1|refine below_set ?_ (IsS70.ge HI1.out))|exact HB.out));rintro e w1 ⟨rfl,hi,hb,hk⟩;refine⟨_,rfl,?_⟩;replace HK:=C (KeepBut.trans (show KeepBut w _ _ _ from uH) hk (.inl rfl));replace HB:=C (hb);replace HI1:=C (hi);clear hb hi hk)|((with_reducible refine F (f:=45) rfl ?_);refine gl 45 (some 20) func45 #[.pointer (some ⟨g,0,none⟩)] ?_;(with_reducible refine(spec_l01Byte.calls g s0_0 t2 t3 t4 t5 t6 w0 _ ?side1 ?side2 A2.out).mono ?_);(case side1=>repeat(first|(with_reducible first|exact HI1.out|apply IsS70.alloc|apply IsS70.drewN|apply IsS70.drew|apply IsS70.set_1|apply IsS70.set_2)|exact HI1.out));(case side2=>repeat(first|(with_reducible first|exact HB.out|apply bA|apply bN|apply b1|refine below_set ?_ (IsS70.ge HI1.out))|exact HB.out));rintro e w2 ⟨rfl,hi,hb,hk⟩;refine⟨_,rfl,?_⟩;replace HK:=C (KeepBut.trans (show KeepBut w _ _ _ from uH) hk (.inl rfl));replace HB:=C (hb);replace HI1:=C (hi);clear hb hi hk)|((with_reducible refine F (f:=45) rfl ?_);refine gl 45 (some 22) func45 #[.pointer (some ⟨g,0,none⟩)] ?_;(with_reducible refine(spec_l01Byte.calls g s0_0 t5 t6 t7 t8 t9 w0 _ ?side1 ?side2 A3.out).mono ?_);(case side1=>repeat(first|(with_reducible first|exact HI1.out|apply IsS70.alloc|apply IsS70.drewN|apply IsS70.drew|apply IsS70.set_1|apply IsS70.set_2)|exact HI1.out));(case side2=>repeat(first|(with_reducible first|exact HB.out|apply bA|apply bN|apply b1|refine below_set ?_ (IsS70.ge HI1.out))|exact HB.out));rintro e w3 ⟨rfl,hi,hb,hk⟩;refine⟨_,rfl,?_⟩;replace HK:=C (KeepBut.trans (show KeepBut w _ _ _ from uH) hk (.inl rfl));replace HB:=C (hb);replace HI1:=C (hi);clear hb hi hk)|((with_reducible refine F (f:=45) rfl ?_);refine gl 45 (some 24) func45 #[.pointer (some ⟨g,0,none⟩)] ?_;(with_reducible refine(spec_l01Byte.calls g s0_0 t8 t9 t10 t11 t12 w0 _ ?side1 ?side2 A4.out).mono ?_);(case side1=>repeat(first|(with_reducible first|exact HI1.out|apply IsS70.alloc|apply IsS70.drewN|apply IsS70.drew|apply IsS70.set_1|apply IsS70.set_2)|exact HI1.out));(case side2=>repeat(first|(with_reducible first|exact HB.out|apply bA|apply bN|apply b1|refine below_set ?_ (IsS70.ge HI1.out))|exact HB.out));rintro e w4 ⟨rfl,hi,hb,hk⟩;refine⟨_,rfl,?_⟩;replace HK:=C (KeepBut.trans (show KeepBut w _ _ _ from uH) hk (.inl rfl));replace HB:=C (hb);replace HI1:=C (hi);clear hb hi hk))
 go_ret
 exact⟨rE,by repeat(first|(with_reducible first|exact HI1.out|apply IsS70.alloc|apply IsS70.drewN|apply IsS70.drew|apply IsS70.set_1|apply IsS70.set_2)|exact HI1.out),by repeat(first|(with_reducible first|exact HB.out|apply bA|apply bN|apply b1|refine below_set ?_ (IsS70.ge HI1.out))|exact HB.out),uH⟩
end Go.Proofs.YtgdnlmfoghpeoaaDoor.PFnActTexts
