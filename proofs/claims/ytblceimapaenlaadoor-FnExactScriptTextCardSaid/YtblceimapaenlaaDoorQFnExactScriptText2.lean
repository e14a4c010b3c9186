/- FnExactScriptText: the functions that the law reaches, each as a plain Lean function, and that a call does what it says. Made by a program of this work (wip/mp.py) out of the kit's print. No condition. -/
import Derived.Test.YtblceimapaenlaaDoorQFnExactScriptText0
import Derived.Test.YtblceimapaenlaaDoorQFnExactScriptText1
namespace Go.Proofs.YtblceimapaenlaaDoor.PFnExactScriptText
open Go.RowKit Go.Proofs.YtblceimapaenlaaDoorW.PrintWords Go.Proofs.YtblceimapaenlaaDoorW.PrintLast Go.Proofs.YtblceimapaenlaaDoorW.PrintMore
open Fix (b1 bA bK bN bnd cl4 d4 dB dK eB eK eR fR gE gl gs hh hx lR nG nL nu oL ou pu rE rS tu uB uC uR)
open Go.Value renaming int→V,slice→L,agg→G
open Go.IntKind renaming i64→I
open Go.Proofs.YtblceimapaenlaaDoorW.PrintWords.Aside0 renaming mk→C
open Go.Proofs.YtblceimapaenlaaDoorW.PrintWords renaming Aside0→D,gate_callee→F,gate_dst→J
open Go.World renaming block_lt_of_cell?→E
attribute [local go_sem] max2_int min2_int max_two min_two max_three min_three max_four min_four
attribute [local go_sem] Fix.isSome_setCell
set_option linter.unusedVariables false
set_option linter.unusedSimpArgs false
def impl_ActOk.j0:Nat→Int→Bool→Int→Int→Int→Int→Option (Bool)
 |0,_,_,_,_,_,_=>none
 |k+1,x4,x10,x168000,x168001,x168002,x168003=>if x10=true then(if x168001=0 then(if x168002=0 then(some (x168003==0)) else(some false)) else(some false)) else(if x4=3 then((impl_within.f x168001 1 5).bind fun t175=>(if t175=true then(if x168002=0 then(some (x168003==0)) else(some false)) else(some false))) else(if x4=5 then((impl_within.f x168001 1 9999).bind fun t176=>(if t176=true then(if x168002=0 then(some (x168003==0)) else(some false)) else(some false))) else(some false)))
def impl_ActOk.f (k:Nat) (a0_0:Int) (a0_1:Int) (a0_2:Int) (a0_3:Int):Option (Bool):=if a0_0=1 then((impl_jobOf.f a0_0 a0_1 a0_2 a0_3).bind fun bt168=>((impl_JobOk.f bt168.1 bt168.2.1 bt168.2.2.1 bt168.2.2.2.1 bt168.2.2.2.2.1 bt168.2.2.2.2.2).bind fun t174=>(some t174))) else(if a0_0=2 then(impl_ActOk.j0 k a0_0 (a0_0==2) a0_0 a0_1 a0_2 a0_3) else(impl_ActOk.j0 k a0_0 (a0_0==4) a0_0 a0_1 a0_2 a0_3))
theorem impl_ActOk.mono_l:∀k,(∀y0 y1 y2 y3 y4 y5,LeO (impl_ActOk.j0 k y0 y1 y2 y3 y4 y5) (impl_ActOk.j0 (k+1) y0 y1 y2 y3 y4 y5))
 |0=>fun _ _ _ _ _ _ r h=>by simp[impl_ActOk.j0]at h
 |k+1=>by
  have ih0:=impl_ActOk.mono_l k
  ·intro y0 y1 y2 y3 y4 y5
   unfold impl_ActOk.j0
   repeat' first|(with_reducible first|apply ih0|exact LeO.refl _|exact LeO.none _|refine LeO.ite ?_ ?_|refine LeO.bind ?_ (fun _=> ?_))|apply ih0|exact LeO.none _|refine LeO.ite ?_ ?_|refine LeO.bind ?_ (fun _=> ?_)
theorem impl_ActOk.mono:∀a0 a1 a2 a3 k,LeO (impl_ActOk.f k a0 a1 a2 a3) (impl_ActOk.f (k+1) a0 a1 a2 a3):=by
 intro a0 a1 a2 a3 k
 have ih0:=impl_ActOk.mono_l k
 unfold impl_ActOk.f
 repeat' first|(with_reducible first|apply ih0|exact LeO.refl _|exact LeO.none _|refine LeO.ite ?_ ?_|refine LeO.bind ?_ (fun _=> ?_))|apply ih0|exact LeO.none _|refine LeO.ite ?_ ?_|refine LeO.bind ?_ (fun _=> ?_)
theorem impl_ActOk.W1 {p:Prop} (h:p:=by
  go_wp2
  go_meet
  first
   |(case rel=>exact⟨_,((a0_0==2)),rS,H',⟨oL⟩,⟨bK BK1.out⟩,⟨uB⟩⟩)
   |(case rel=>exact⟨_,((a0_0==4)),rS,H',⟨oL⟩,⟨bK BK1.out⟩,⟨uB⟩⟩)):p:=h
theorem impl_ActOk.W2 {p:Prop} (h:p:=by
  go_wp2
  go_ret
  exact⟨rE,uB⟩):p:=h
theorem impl_ActOk.W3 {p:Prop} (h:p:=by
  go_wp2_with (first|((with_reducible refine F (f:=67) rfl ?_);refine gl 67 (some 30) Tryd.func67 #[V I a0_1,V I 1,V I 5] ?_;(with_reducible refine(impl_within.calls a0_1 1 5 true _ A1.out).mono ?_);rintro e w' ⟨rfl,⟨nd,rfl⟩⟩;refine⟨_,rfl,?_⟩))
  go_ret
  exact⟨rE,uB⟩):p:=h
theorem impl_ActOk.W4 {p:Prop} (h:p:=by
  go_wp2_with (first|((with_reducible refine F (f:=67) rfl ?_);refine gl 67 (some 45) Tryd.func67 #[V I a0_1,V I 1,V I 9999] ?_;(with_reducible refine(impl_within.calls a0_1 1 9999 true _ A1.out).mono ?_);rintro e w' ⟨rfl,⟨nd,rfl⟩⟩;refine⟨_,rfl,?_⟩))
  go_ret
  exact⟨rE,uB⟩):p:=h
set_option maxHeartbeats 40000000 in
set_option maxRecDepth 100000 in
theorem impl_ActOk.calls (k:Nat) (a0_0:Int) (a0_1:Int) (a0_2:Int) (a0_3:Int) (r:Bool) (w:World) (h:impl_ActOk.f k a0_0 a0_1 a0_2 a0_3=some r):
  Calls Tryd.prog 35 #[G #[V I a0_0,V I a0_1,V I a0_2,V I a0_3]] w fun e w'=>e=.returned (.bool r)∧Below w.heap.size w w':=by
 have hu1:=Tryd.underlying26
 have HB:=C (Below.refl w.heap.size w)
 have H:=h
 unfold impl_ActOk.f at H
 clear h
 by_cases c1:a0_0=1
 ·rw[if_pos c1]at H
  have c1b0:(a0_0==1)=true:=beq_iff_eq.mpr c1
  have c1b1:(a0_0 !=1)=false:=bne_eq_false_iff_eq.mpr c1
  clear c1
  obtain⟨⟨t1,t2,t3,t4,t5,t6⟩,A1,H⟩:=bnd H
  dsimp only at H
  obtain⟨t7,A2,H⟩:=bnd H
  obtain rfl:=Option.some.inj H
  go_enter Tryd.func35,Tryd.ntmps35
  go_wp2_with (first|((with_reducible refine J (N:=1) rfl ?_);refine Fix.be 1 #[V I a0_0,V I a0_1,V I a0_2,V I a0_3] 26 ?_;intro gb1 hg w1 BK1 hb;have GW1:D (w.heap.size≤gb1):=gE hg;have GE1:=GW1;replace HB:=eB hb;clear hb hg;have h_:=d4 BK1.out;(repeat(obtain⟨_,h_⟩:=h_)))|((with_reducible refine F (f:=66) rfl ?_);refine gl 66 (some 8) Tryd.func66 #[G #[V I a0_0,V I a0_1,V I a0_2,V I a0_3]] ?_;(with_reducible refine(impl_jobOf.calls a0_0 a0_1 a0_2 a0_3 t1 t2 t3 t4 t5 t6 _ A1.out).mono ?_);rintro e w2 ⟨rfl,hb⟩;refine⟨_,rfl,?_⟩;replace BK1:=eK BK1 hb;replace HB:=eB hb;clear hb)|((with_reducible refine F (f:=65) rfl ?_);refine gl 65 (some 9) Tryd.func65 #[G #[V I t1,V I t2,V I t3,.bool t4,V I t5,.bool t6]] ?_;(with_reducible refine(impl_JobOk.calls t1 t2 t3 t4 t5 t6 t7 _ A2.out).mono ?_);rintro e w3 ⟨rfl,hb⟩;refine⟨_,rfl,?_⟩;replace BK1:=eK BK1 hb;replace HB:=eB hb;clear hb))
  go_ret
  exact⟨rE,uB⟩
 ·rw[if_neg c1]at H
  have c1b0:(a0_0==1)=false:=beq_eq_false_iff_ne.mpr c1
  have c1b1:(a0_0 !=1)=true:=bne_iff_ne.mpr c1
  have HC1:=C H
  clear H
  go_enter Tryd.func35,Tryd.ntmps35
  go_upto_if 10 with(first|((with_reducible refine J (N:=1) rfl ?_);refine Fix.be 1 #[V I a0_0,V I a0_1,V I a0_2,V I a0_3] 26 ?_;intro gb1 hg w1 BK1 hb;have GW1:D (w.heap.size≤gb1):=gE hg;have GE1:=GW1;replace HB:=eB hb;clear hb hg;obtain⟨hcz1_0,hcz1_1,hcz1_2,hcz1_3,hfz1_0,hfz1_1,hfz1_2,hfz1_3⟩:=d4 BK1.out))
  (try simp only[Act.put,List.setIfInBounds_toArray,List.set_cons_zero,List.set_cons_succ])
  go_cut [10] (fun v10 wc=>∃(kq:Nat) (x1_8:Bool),v10=.bool x1_8∧D (impl_ActOk.j0 kq a0_0 x1_8 a0_0 a0_1 a0_2 a0_3=some r)∧D (kq≤k)∧D (wc.heap[gb1]? =some (.cells #[V I a0_0,V I a0_1,V I a0_2,V I a0_3] 26 (0,0)))∧D (Below w.heap.size w wc))
  case first=>
   have H:=HC1.out
   clear HC1
   by_cases c2:a0_0=2
   ·rw[if_pos c2]at H
    have c2b0:(a0_0==2)=true:=beq_iff_eq.mpr c2
    have c2b1:(a0_0 !=2)=false:=bne_eq_false_iff_eq.mpr c2
    clear c2
    (first|rw[c2b0]|(simp only[i64_w,i32_w];rw[c2b0])|skip)
    have H':=C H
    clear H
    exact impl_ActOk.W1
   ·rw[if_neg c2]at H
    have c2b0:(a0_0==2)=false:=beq_eq_false_iff_ne.mpr c2
    have c2b1:(a0_0 !=2)=true:=bne_iff_ne.mpr c2
    (first|rw[c2b0]|(simp only[i64_w,i32_w];rw[c2b0])|skip)
    have H':=C H
    clear H
    exact impl_ActOk.W1
  case rest=>
   clear HC1
   obtain⟨kq,x1_8,rfl,HA,HJ1,BK1,HB⟩:=hcut
   cases kq with
   |zero=>exact absurd HA.out (by simp[impl_ActOk.j0])
   |succ kj8=>
    have H:=HA.out
    clear HA
    simp only[impl_ActOk.j0]at H
    by_cases c2:x1_8=true
    ·subst c2
     rw[if_pos rfl]at H
     by_cases c3:a0_1=0
     ·rw[if_pos c3]at H
      have c3b0:(a0_1==0)=true:=beq_iff_eq.mpr c3
      have c3b1:(a0_1 !=0)=false:=bne_eq_false_iff_eq.mpr c3
      clear c3
      by_cases c4:a0_2=0
      ·rw[if_pos c4]at H
       have c4b0:(a0_2==0)=true:=beq_iff_eq.mpr c4
       have c4b1:(a0_2 !=0)=false:=bne_eq_false_iff_eq.mpr c4
       clear c4
       obtain rfl:=Option.some.inj H
       obtain⟨hcz2_0,hcz2_1,hcz2_2,hcz2_3,hfz2_0,hfz2_1,hfz2_2,hfz2_3⟩:=d4 BK1.out
       exact impl_ActOk.W2
      ·rw[if_neg c4]at H
       have c4b0:(a0_2==0)=false:=beq_eq_false_iff_ne.mpr c4
       have c4b1:(a0_2 !=0)=true:=bne_iff_ne.mpr c4
       obtain rfl:=Option.some.inj H
       obtain⟨hcz2_0,hcz2_1,hcz2_2,hcz2_3,hfz2_0,hfz2_1,hfz2_2,hfz2_3⟩:=d4 BK1.out
       exact impl_ActOk.W2
     ·rw[if_neg c3]at H
      have c3b0:(a0_1==0)=false:=beq_eq_false_iff_ne.mpr c3
      have c3b1:(a0_1 !=0)=true:=bne_iff_ne.mpr c3
      obtain rfl:=Option.some.inj H
      have h_:=d4 BK1.out;(repeat(obtain⟨_,h_⟩:=h_))
      exact impl_ActOk.W2
    ·replace c2:=Bool.eq_false_iff.mpr c2
     subst c2
     rw[if_neg Bool.false_ne_true]at H
     by_cases c3:a0_0=3
     ·rw[if_pos c3]at H
      have c3b0:(a0_0==3)=true:=beq_iff_eq.mpr c3
      have c3b1:(a0_0 !=3)=false:=bne_eq_false_iff_eq.mpr c3
      clear c3
      obtain⟨t1,A1,H⟩:=bnd H
      by_cases c4:t1=true
      ·subst c4
       rw[if_pos rfl]at H
       by_cases c5:a0_2=0
       ·rw[if_pos c5]at H
        have c5b0:(a0_2==0)=true:=beq_iff_eq.mpr c5
        have c5b1:(a0_2 !=0)=false:=bne_eq_false_iff_eq.mpr c5
        clear c5
        obtain rfl:=Option.some.inj H
        obtain⟨hcz2_0,hcz2_1,hcz2_2,hcz2_3,hfz2_0,hfz2_1,hfz2_2,hfz2_3⟩:=d4 BK1.out
        exact impl_ActOk.W3
       ·rw[if_neg c5]at H
        have c5b0:(a0_2==0)=false:=beq_eq_false_iff_ne.mpr c5
        have c5b1:(a0_2 !=0)=true:=bne_iff_ne.mpr c5
        obtain rfl:=Option.some.inj H
        have h_:=d4 BK1.out;(repeat(obtain⟨_,h_⟩:=h_))
        exact impl_ActOk.W3
      ·replace c4:=Bool.eq_false_iff.mpr c4
       subst c4
       rw[if_neg Bool.false_ne_true]at H
       obtain rfl:=Option.some.inj H
       obtain⟨hcz2_0,hcz2_1,hcz2_2,hcz2_3,hfz2_0,hfz2_1,hfz2_2,hfz2_3⟩:=d4 BK1.out
       go_wp2_with (first|((with_reducible refine F (f:=67) rfl ?_);refine gl 67 (some 30) Tryd.func67 #[V I a0_1,V I 1,V I 5] ?_;(with_reducible refine(impl_within.calls a0_1 1 5 false _ A1.out).mono ?_);rintro e w' ⟨rfl,⟨nd,rfl⟩⟩;refine⟨_,rfl,?_⟩))
       go_ret
       exact⟨rE,uB⟩
     ·rw[if_neg c3]at H
      have c3b0:(a0_0==3)=false:=beq_eq_false_iff_ne.mpr c3
      have c3b1:(a0_0 !=3)=true:=bne_iff_ne.mpr c3
      by_cases c4:a0_0=5
      ·rw[if_pos c4]at H
       have c4b0:(a0_0==5)=true:=beq_iff_eq.mpr c4
       have c4b1:(a0_0 !=5)=false:=bne_eq_false_iff_eq.mpr c4
       clear c4
       obtain⟨t1,A1,H⟩:=bnd H
       by_cases c5:t1=true
       ·subst c5
        rw[if_pos rfl]at H
        by_cases c6:a0_2=0
        ·rw[if_pos c6]at H
         have c6b0:(a0_2==0)=true:=beq_iff_eq.mpr c6
         have c6b1:(a0_2 !=0)=false:=bne_eq_false_iff_eq.mpr c6
         clear c6
         obtain rfl:=Option.some.inj H
         obtain⟨hcz2_0,hcz2_1,hcz2_2,hcz2_3,hfz2_0,hfz2_1,hfz2_2,hfz2_3⟩:=d4 BK1.out
         exact impl_ActOk.W4
        ·rw[if_neg c6]at H
         have c6b0:(a0_2==0)=false:=beq_eq_false_iff_ne.mpr c6
         have c6b1:(a0_2 !=0)=true:=bne_iff_ne.mpr c6
         obtain rfl:=Option.some.inj H
         obtain⟨hcz2_0,hcz2_1,hcz2_2,hcz2_3,hfz2_0,hfz2_1,hfz2_2,hfz2_3⟩:=d4 BK1.out
         exact impl_ActOk.W4
       ·replace c5:=Bool.eq_false_iff.mpr c5
        subst c5
        rw[if_neg Bool.false_ne_true]at H
        obtain rfl:=Option.some.inj H
        obtain⟨hcz2_0,hcz2_1,hcz2_2,hcz2_3,hfz2_0,hfz2_1,hfz2_2,hfz2_3⟩:=d4 BK1.out
        go_wp2_with (first|((with_reducible refine F (f:=67) rfl ?_);refine gl 67 (some 45) Tryd.func67 #[V I a0_1,V I 1,V I 9999] ?_;(with_reducible refine(impl_within.calls a0_1 1 9999 false _ A1.out).mono ?_);rintro e w' ⟨rfl,⟨nd,rfl⟩⟩;refine⟨_,rfl,?_⟩))
        go_ret
        exact⟨rE,uB⟩
      ·rw[if_neg c4]at H
       have c4b0:(a0_0==5)=false:=beq_eq_false_iff_ne.mpr c4
       have c4b1:(a0_0 !=5)=true:=bne_iff_ne.mpr c4
       obtain rfl:=Option.some.inj H
       exact impl_ActOk.W2
def impl_FormatAct.f (k:Nat) (a0_0:Int) (a0_1:Int) (a0_2:Int) (a0_3:Int):Option (ByteArray×Bool):=(impl_ActOk.f k a0_0 a0_1 a0_2 a0_3).bind fun t178=>(if t178=true then(if a0_0=1 then((impl_FormatInt.f a0_1).bind fun t179=>(if 4+t179.size≤9223372036854775807 then(if((⟨#[97,100,100,32]⟩:ByteArray)++t179).size+1≤9223372036854775807 then((impl_FormatInt.f a0_2).bind fun t180=>(if(((⟨#[97,100,100,32]⟩:ByteArray)++t179)++(⟨#[32]⟩:ByteArray)).size+t180.size≤9223372036854775807 then(if((((⟨#[97,100,100,32]⟩:ByteArray)++t179)++(⟨#[32]⟩:ByteArray))++t180).size+1≤9223372036854775807 then((impl_FormatInt.f a0_3).bind fun t181=>(if(((((⟨#[97,100,100,32]⟩:ByteArray)++t179)++(⟨#[32]⟩:ByteArray))++t180)++(⟨#[32]⟩:ByteArray)).size+t181.size≤9223372036854775807 then(some ((((((⟨#[97,100,100,32]⟩:ByteArray)++t179)++(⟨#[32]⟩:ByteArray))++t180)++(⟨#[32]⟩:ByteArray))++t181,true)) else(none))) else(none)) else(none))) else(none)) else(none))) else(if a0_0=2 then(some ((⟨#[116,97,107,101]⟩:ByteArray),true)) else(if a0_0=3 then((impl_FormatInt.f a0_1).bind fun t182=>(if 5+t182.size≤9223372036854775807 then(some ((⟨#[108,105,110,101,32]⟩:ByteArray)++t182,true)) else(none))) else(if a0_0=4 then(some ((⟨#[102,105,110,105,115,104]⟩:ByteArray),true)) else((impl_FormatInt.f a0_1).bind fun t183=>(if 8+t183.size≤9223372036854775807 then(some ((⟨#[114,101,108,101,97,115,101,32]⟩:ByteArray)++t183,true)) else(none))))))) else(some ((⟨#[]⟩:ByteArray),false)))
theorem impl_FormatAct.mono:∀a0 a1 a2 a3 k,LeO (impl_FormatAct.f k a0 a1 a2 a3) (impl_FormatAct.f (k+1) a0 a1 a2 a3):=by
 intro a0 a1 a2 a3 k
 unfold impl_FormatAct.f
 repeat' first|(with_reducible first|apply impl_ActOk.mono|exact LeO.refl _|exact LeO.none _|refine LeO.ite ?_ ?_|refine LeO.bind ?_ (fun _=> ?_))|exact LeO.none _|refine LeO.ite ?_ ?_|refine LeO.bind ?_ (fun _=> ?_)
def impl_FormatAct.T5:Bool×List (List Nat×List Nat):=(true,[([],[]),([0],[0]),([1],[1]),([2],[2]),([3],[3]),([],[]),([5],[5]),([6,2],[6]),([4,7],[4,7]),([8],[8]),([],[]),([10],[10]),([11,7],[11]),([9,12],[9,12]),([13,12,0,1,2,3,4,5,6,7,8,9,10,11,12,13],[13]),([14,0,1,2,3,4,5,6,7,8,9,10,11,12,13,14],[])])
def impl_FormatAct.B5:List Nat:= [0,1,3,7,15,0,32,103,255,511,0,1024,3303,8191,16383,32767]
theorem impl_FormatAct.tab5:rtab .any (opsOf Tryd.f10 5)=impl_FormatAct.T5:=by kernel_rfl
theorem impl_FormatAct.bits5:waitsOk impl_FormatAct.T5.2 impl_FormatAct.B5=true:=by kernel_rfl
theorem impl_FormatAct.W1 {p:Prop} (h:p:=by
  go_enter Tryd.func10,Tryd.ntmps10
  go_wp2_with (first|((with_reducible refine J (N:=1) rfl ?_);refine Fix.be 1 #[V I a0_0,V I a0_1,V I a0_2,V I a0_3] 26 ?_;intro gb1 hg w1 BK1 hb;have GW1:D (w.heap.size≤gb1):=gE hg;have GE1:=GW1;replace HB:=eB hb;clear hb hg;obtain⟨hcz1_0,hcz1_1,hcz1_2,hcz1_3,hfz1_0,hfz1_1,hfz1_2,hfz1_3⟩:=d4 BK1.out)|((with_reducible refine F (f:=35) rfl ?_);refine gl 35 (some 5) Tryd.func35 #[G #[V I a0_0,V I a0_1,V I a0_2,V I a0_3]] ?_;(with_reducible refine(impl_ActOk.calls k a0_0 a0_1 a0_2 a0_3 true _ A1.out).mono ?_);rintro e w2 ⟨rfl,hb⟩;refine⟨_,rfl,?_⟩;replace BK1:=eK BK1 hb;replace HB:=eB hb;clear hb;obtain⟨hcz2_0,hcz2_1,hcz2_2,hcz2_3,hfz2_0,hfz2_1,hfz2_2,hfz2_3⟩:=d4 BK1.out)|((with_reducible refine F (f:=19) rfl ?_);refine gl 19 (some 31) Tryd.func19 #[V I a0_1] ?_;(with_reducible refine(impl_FormatInt.calls a0_1 t2 _ A2.out (Ito.on hTab.out uB)).mono ?_);rintro e w3 ⟨rfl,hb⟩;refine⟨_,rfl,?_⟩;replace BK1:=eK BK1 hb;replace HB:=eB hb;clear hb))
  go_ret2
  exact⟨rE,uB⟩):p:=h
theorem impl_FormatAct.W2 {p:Prop} (h:p:=by
  go_enter Tryd.func10,Tryd.ntmps10
  go_wp2_with (first|((with_reducible refine J (N:=1) rfl ?_);refine Fix.be 1 #[V I a0_0,V I a0_1,V I a0_2,V I a0_3] 26 ?_;intro gb1 hg w1 BK1 hb;have GW1:D (w.heap.size≤gb1):=gE hg;have GE1:=GW1;replace HB:=eB hb;clear hb hg;have h_:=d4 BK1.out;(repeat(obtain⟨_,h_⟩:=h_)))|((with_reducible refine F (f:=35) rfl ?_);refine gl 35 (some 5) Tryd.func35 #[G #[V I a0_0,V I a0_1,V I a0_2,V I a0_3]] ?_;(with_reducible refine(impl_ActOk.calls k a0_0 a0_1 a0_2 a0_3 true _ A1.out).mono ?_);rintro e w2 ⟨rfl,hb⟩;refine⟨_,rfl,?_⟩;replace BK1:=eK BK1 hb;replace HB:=eB hb;clear hb;have h_:=d4 BK1.out;(repeat(obtain⟨_,h_⟩:=h_)))|((with_reducible refine F (f:=19) rfl ?_);refine gl 19 (some 37) Tryd.func19 #[V I a0_1] ?_;(with_reducible refine(impl_FormatInt.calls a0_1 t2 _ A2.out (Ito.on hTab.out uB)).mono ?_);rintro e w3 ⟨rfl,hb⟩;refine⟨_,rfl,?_⟩;replace BK1:=eK BK1 hb;replace HB:=eB hb;clear hb))
  go_ret2
  exact⟨rE,uB⟩):p:=h
set_option maxHeartbeats 40000000 in
set_option maxRecDepth 100000 in
theorem impl_FormatAct.calls (k:Nat) (a0_0:Int) (a0_1:Int) (a0_2:Int) (a0_3:Int) (r1:ByteArray) (r2:Bool) (w:World) (h:impl_FormatAct.f k a0_0 a0_1 a0_2 a0_3=some (r1,r2)) (hTab:Ito.Tab w):
  Calls Tryd.prog 10 #[G #[V I a0_0,V I a0_1,V I a0_2,V I a0_3]] w fun e w'=>e=.returned (.tuple #[.string r1,.bool r2])∧Below w.heap.size w w':=by
 replace hTab:=C hTab
 have hu1:=Tryd.underlying26
 have HB:=C (Below.refl w.heap.size w)
 have H:=h
 unfold impl_FormatAct.f at H
 clear h
 obtain⟨t1,A1,H⟩:=bnd H
 by_cases c1:t1=true
 ·subst c1
  rw[if_pos rfl]at H
  by_cases c2:a0_0=1
  ·rw[if_pos c2]at H
   have c2b0:(a0_0==1)=true:=beq_iff_eq.mpr c2
   have c2b1:(a0_0 !=1)=false:=bne_eq_false_iff_eq.mpr c2
   clear c2
   obtain⟨t2,A2,H⟩:=bnd H
   by_cases c3:4+t2.size≤9223372036854775807
   ·rw[if_pos c3]at H
    have c3b0:=eq_true c3
    have c3b1:decide (4+t2.size≤9223372036854775807)=true:=decide_eq_true c3
    try have c3b2:(9223372036854775807<4+t2.size)=False:=eq_false (Nat.not_lt.2 c3)
    try(have h1_:=c3;simp only[ByteArray.size_append,Ito.bsz,List.size_toArray,List.length_cons,List.length_nil]at h1_;have c3b3:=eq_false (Nat.not_lt.2 h1_);clear h1_)
    by_cases c4:((⟨#[97,100,100,32]⟩:ByteArray)++t2).size+1≤9223372036854775807
    ·rw[if_pos c4]at H
     have c4b0:=eq_true c4
     have c4b1:decide (((⟨#[97,100,100,32]⟩:ByteArray)++t2).size+1≤9223372036854775807)=true:=decide_eq_true c4
     try have c4b2:(9223372036854775807<((⟨#[97,100,100,32]⟩:ByteArray)++t2).size+1)=False:=eq_false (Nat.not_lt.2 c4)
     try(have h1_:=c4;simp only[ByteArray.size_append,Ito.bsz,List.size_toArray,List.length_cons,List.length_nil]at h1_;have c4b3:=eq_false (Nat.not_lt.2 h1_);clear h1_)
     obtain⟨t3,A3,H⟩:=bnd H
     by_cases c6:(((⟨#[97,100,100,32]⟩:ByteArray)++t2)++(⟨#[32]⟩:ByteArray)).size+t3.size≤9223372036854775807
     ·rw[if_pos c6]at H
      have c6b0:=eq_true c6
      have c6b1:decide ((((⟨#[97,100,100,32]⟩:ByteArray)++t2)++(⟨#[32]⟩:ByteArray)).size+t3.size≤9223372036854775807)=true:=decide_eq_true c6
      try have c6b2:(9223372036854775807<(((⟨#[97,100,100,32]⟩:ByteArray)++t2)++(⟨#[32]⟩:ByteArray)).size+t3.size)=False:=eq_false (Nat.not_lt.2 c6)
      try(have h1_:=c6;simp only[ByteArray.size_append,Ito.bsz,List.size_toArray,List.length_cons,List.length_nil]at h1_;have c6b3:=eq_false (Nat.not_lt.2 h1_);clear h1_)
      by_cases c7:((((⟨#[97,100,100,32]⟩:ByteArray)++t2)++(⟨#[32]⟩:ByteArray))++t3).size+1≤9223372036854775807
      ·rw[if_pos c7]at H
       have c7b0:=eq_true c7
       have c7b1:decide (((((⟨#[97,100,100,32]⟩:ByteArray)++t2)++(⟨#[32]⟩:ByteArray))++t3).size+1≤9223372036854775807)=true:=decide_eq_true c7
       try have c7b2:(9223372036854775807<((((⟨#[97,100,100,32]⟩:ByteArray)++t2)++(⟨#[32]⟩:ByteArray))++t3).size+1)=False:=eq_false (Nat.not_lt.2 c7)
       try(have h1_:=c7;simp only[ByteArray.size_append,Ito.bsz,List.size_toArray,List.length_cons,List.length_nil]at h1_;have c7b3:=eq_false (Nat.not_lt.2 h1_);clear h1_)
       obtain⟨t4,A4,H⟩:=bnd H
       by_cases c8:(((((⟨#[97,100,100,32]⟩:ByteArray)++t2)++(⟨#[32]⟩:ByteArray))++t3)++(⟨#[32]⟩:ByteArray)).size+t4.size≤9223372036854775807
       ·rw[if_pos c8]at H
        have c8b0:=eq_true c8
        have c8b1:decide ((((((⟨#[97,100,100,32]⟩:ByteArray)++t2)++(⟨#[32]⟩:ByteArray))++t3)++(⟨#[32]⟩:ByteArray)).size+t4.size≤9223372036854775807)=true:=decide_eq_true c8
        try have c8b2:(9223372036854775807<(((((⟨#[97,100,100,32]⟩:ByteArray)++t2)++(⟨#[32]⟩:ByteArray))++t3)++(⟨#[32]⟩:ByteArray)).size+t4.size)=False:=eq_false (Nat.not_lt.2 c8)
        try(have h1_:=c8;simp only[ByteArray.size_append,Ito.bsz,List.size_toArray,List.length_cons,List.length_nil]at h1_;have c8b3:=eq_false (Nat.not_lt.2 h1_);clear h1_)
        simp only[Option.some.injEq,Prod.mk.injEq]at H
        obtain⟨rfl,rfl⟩:=H
        go_enter Tryd.func10,Tryd.ntmps10
        try go_wp2_with (first|((with_reducible refine J (N:=1) rfl ?_);refine Fix.be 1 #[V I a0_0,V I a0_1,V I a0_2,V I a0_3] 26 ?_;intro gb1 hg w1 BK1 hb;have GW1:D (w.heap.size≤gb1):=gE hg;have GE1:=GW1;replace HB:=eB hb;clear hb hg;have h_:=d4 BK1.out;(repeat(obtain⟨_,h_⟩:=h_)))|((with_reducible refine F (f:=35) rfl ?_);refine gl 35 (some 5) Tryd.func35 #[G #[V I a0_0,V I a0_1,V I a0_2,V I a0_3]] ?_;(with_reducible refine(impl_ActOk.calls k a0_0 a0_1 a0_2 a0_3 true _ A1.out).mono ?_);rintro e w2 ⟨rfl,hb⟩;refine⟨_,rfl,?_⟩;replace BK1:=eK BK1 hb;replace HB:=eB hb;clear hb;obtain⟨hcz1_0,hcz1_1,hcz1_2,hcz1_3,hfz1_0,hfz1_1,hfz1_2,hfz1_3⟩:=d4 BK1.out))
        replace BK1:=dK BK1
        replace HB:=dB HB
        refine start_ (n:=16) (S:=fun w'=>cl4 w' gb1 (V I a0_0) (V I a0_1) (V I a0_2) (V I a0_3)) (ds:= []) #[false,false,false,false,false,false,false,false,false,false,false,false,false,false,false,false] (by kernel_rfl) rfl rfl hh (fun hHeld=> ?_);refine with_tabW impl_FormatAct.tab5 impl_FormatAct.bits5 (fun HT_ HW_=> ?_)
        generalize w2.drew=w3 at BK1 HB hHeld ⊢
        refine pu 0 (some 11) ?_
        refine pu 5 (some 16) ?_
        refine pu 10 (some 21) ?_
        refine tu 1 (some 12) hHeld ?_
        refine tu 6 (some 17) hHeld ?_
        refine tu 11 (some 22) hHeld ?_
        refine ou 2 (some 13) (fun K hK=> ?_)
        refine gs Tryd.func19 #[V I a0_1] ?_
        with_reducible refine(impl_FormatInt.calls a0_1 t2 _ A2.out (Ito.on hTab.out uB)).mono ?_
        rintro e w4 ⟨rfl,hb⟩
        refine⟨_,rfl,?_⟩
        replace BK1:=eK BK1 hb
        replace HB:=eB hb
        (try clear hb)
        refine hK.out _ _ hh (fun hHeld=> ?_)
        clear hK K
        refine nu (N:=(some 13)) ?_
        refine pu 3 (some 14) ?_
        refine pu 4 (some 15) ?_
        refine ou 7 (some 18) (fun K hK=> ?_)
        refine gs Tryd.func19 #[V I a0_2] ?_
        with_reducible refine(impl_FormatInt.calls a0_2 t3 _ A3.out (Ito.on hTab.out uB)).mono ?_
        rintro e w5 ⟨rfl,hb⟩
        refine⟨_,rfl,?_⟩
        replace BK1:=eK BK1 hb
        replace HB:=eB hb
        (try clear hb)
        refine hK.out _ _ hh (fun hHeld=> ?_)
        clear hK K
        refine nu (N:=(some 18)) ?_
        refine pu 8 (some 19) ?_
        refine pu 9 (some 20) ?_
        refine ou 12 (some 23) (fun K hK=> ?_)
        refine gs Tryd.func19 #[V I a0_3] ?_
        with_reducible refine(impl_FormatInt.calls a0_3 t4 _ A4.out (Ito.on hTab.out uB)).mono ?_
        rintro e w6 ⟨rfl,hb⟩
        refine⟨_,rfl,?_⟩
        replace BK1:=eK BK1 hb
        replace HB:=eB hb
        (try clear hb)
        refine hK.out _ _ hh (fun hHeld=> ?_)
        clear hK K
        refine nu (N:=(some 23)) ?_
        refine pu 13 (some 24) ?_
        refine pu 14 (some 2) ?_
        refine pu 15 (some 3) ?_
        refine done_ (done_of HT_.out (by kernel_rfl)) ?_
        try go_wp2
        go_ret2
        exact⟨rE,uB⟩
       ·rw[if_neg c8]at H
        exact absurd H (by simp)
      ·rw[if_neg c7]at H
       exact absurd H (by simp)
     ·rw[if_neg c6]at H
      exact absurd H (by simp)
    ·rw[if_neg c4]at H
     exact absurd H (by simp)
   ·rw[if_neg c3]at H
    exact absurd H (by simp)
  ·rw[if_neg c2]at H
   have c2b0:(a0_0==1)=false:=beq_eq_false_iff_ne.mpr c2
   have c2b1:(a0_0 !=1)=true:=bne_iff_ne.mpr c2
   by_cases c3:a0_0=2
   ·rw[if_pos c3]at H
    have c3b0:(a0_0==2)=true:=beq_iff_eq.mpr c3
    have c3b1:(a0_0 !=2)=false:=bne_eq_false_iff_eq.mpr c3
    clear c3
    simp only[Option.some.injEq,Prod.mk.injEq]at H
    obtain⟨rfl,rfl⟩:=H
    exact impl_FormatAct.W1
   ·rw[if_neg c3]at H
    have c3b0:(a0_0==2)=false:=beq_eq_false_iff_ne.mpr c3
    have c3b1:(a0_0 !=2)=true:=bne_iff_ne.mpr c3
    by_cases c4:a0_0=3
    ·rw[if_pos c4]at H
     have c4b0:(a0_0==3)=true:=beq_iff_eq.mpr c4
     have c4b1:(a0_0 !=3)=false:=bne_eq_false_iff_eq.mpr c4
     clear c4
     obtain⟨t2,A2,H⟩:=bnd H
     by_cases c6:5+t2.size≤9223372036854775807
     ·rw[if_pos c6]at H
      have c6b0:=eq_true c6
      have c6b1:decide (5+t2.size≤9223372036854775807)=true:=decide_eq_true c6
      try have c6b2:(9223372036854775807<5+t2.size)=False:=eq_false (Nat.not_lt.2 c6)
      try(have h1_:=c6;simp only[ByteArray.size_append,Ito.bsz,List.size_toArray,List.length_cons,List.length_nil]at h1_;have c6b3:=eq_false (Nat.not_lt.2 h1_);clear h1_)
      simp only[Option.some.injEq,Prod.mk.injEq]at H
      obtain⟨rfl,rfl⟩:=H
      exact impl_FormatAct.W1
     ·rw[if_neg c6]at H
      exact absurd H (by simp)
    ·rw[if_neg c4]at H
     have c4b0:(a0_0==3)=false:=beq_eq_false_iff_ne.mpr c4
     have c4b1:(a0_0 !=3)=true:=bne_iff_ne.mpr c4
     by_cases c6:a0_0=4
     ·rw[if_pos c6]at H
      have c6b0:(a0_0==4)=true:=beq_iff_eq.mpr c6
      have c6b1:(a0_0 !=4)=false:=bne_eq_false_iff_eq.mpr c6
      clear c6
      simp only[Option.some.injEq,Prod.mk.injEq]at H
      obtain⟨rfl,rfl⟩:=H
      exact impl_FormatAct.W2
     ·rw[if_neg c6]at H
      have c6b0:(a0_0==4)=false:=beq_eq_false_iff_ne.mpr c6
      have c6b1:(a0_0 !=4)=true:=bne_iff_ne.mpr c6
      obtain⟨t2,A2,H⟩:=bnd H
      by_cases c7:8+t2.size≤9223372036854775807
      ·rw[if_pos c7]at H
       have c7b0:=eq_true c7
       have c7b1:decide (8+t2.size≤9223372036854775807)=true:=decide_eq_true c7
       try have c7b2:(9223372036854775807<8+t2.size)=False:=eq_false (Nat.not_lt.2 c7)
       try(have h1_:=c7;simp only[ByteArray.size_append,Ito.bsz,List.size_toArray,List.length_cons,List.length_nil]at h1_;have c7b3:=eq_false (Nat.not_lt.2 h1_);clear h1_)
       simp only[Option.some.injEq,Prod.mk.injEq]at H
       obtain⟨rfl,rfl⟩:=H
       exact impl_FormatAct.W2
      ·rw[if_neg c7]at H
       exact absurd H (by simp)
 ·replace c1:=Bool.eq_false_iff.mpr c1
  subst c1
  rw[if_neg Bool.false_ne_true]at H
  simp only[Option.some.injEq,Prod.mk.injEq]at H
  obtain⟨rfl,rfl⟩:=H
  go_enter Tryd.func10,Tryd.ntmps10
  go_wp2_with (first|((with_reducible refine J (N:=1) rfl ?_);refine Fix.be 1 #[V I a0_0,V I a0_1,V I a0_2,V I a0_3] 26 ?_;intro gb1 hg w1 BK1 hb;have GW1:D (w.heap.size≤gb1):=gE hg;have GE1:=GW1;replace HB:=eB hb;clear hb hg;have h_:=d4 BK1.out;(repeat(obtain⟨_,h_⟩:=h_)))|((with_reducible refine F (f:=35) rfl ?_);refine gl 35 (some 5) Tryd.func35 #[G #[V I a0_0,V I a0_1,V I a0_2,V I a0_3]] ?_;(with_reducible refine(impl_ActOk.calls k a0_0 a0_1 a0_2 a0_3 false _ A1.out).mono ?_);rintro e w2 ⟨rfl,hb⟩;refine⟨_,rfl,?_⟩;replace BK1:=eK BK1 hb;replace HB:=eB hb;clear hb))
  go_ret2
  exact⟨rE,uB⟩
set_option maxRecDepth 100000 in
theorem Bui_copyCheck (B b:Nat) (bs:List Value) (w:World) (h:Lib.IsBuilderF 70 5 B b bs w):
  Calls Tryd.prog 68 #[.pointer (some ⟨b,0,none⟩)] w fun e w'=>e=.returned (.tuple #[])∧(Lib.BuilderAtF 70 5 B b (.pointer (some ⟨b,0,none⟩)) bs w'∧Below B w w'):=by
 obtain⟨j,hj,hjs⟩:=Option.map_eq_some_iff.1 (show(Tryd.prog.info? 70).map (·.size)=some 2 by kernel_rfl)
 have hlies:liesAt Tryd.prog Tryd.prog.depth 70 (2 / Tryd.prog.cellsOf 70) 0 70 1=true:=by kernel_rfl
 rcases h with h|h
 ·have h1:=h.cell0
  have hsh:=h.shape
  have hfz:=h.frozen0
  have hkeep:=h
  have hK:=C h
  clear hkeep h
  go_enter Tryd.func68,Tryd.ntmps68
  go_wp2
  rw[Lib.run_to_unsafe w ⟨b,0,none⟩ Tryd.underlying68 Tryd.underlying122 hj (by rw[hjs];decide) hsh (Nat.zero_lt_succ 1)]
  simp only[Result.andThen]
  rw[Oper.upon_value]
  go_wp2
  rw[run_callFunc_extern Tryd.func100 (by kernel_rfl) (by kernel_rfl) (by kernel_rfl) (e:=Extern.AbiNoEscape.same) (by kernel_rfl)]
  rw[Lib.run_noEscape]
  simp only[Result.andThen]
  rw[Oper.upon_value]
  go_wp2
  rw[Lib.run_from_unsafe w ⟨b,0,none⟩ Tryd.underlying122 Tryd.underlying68 hj hsh hlies]
  simp only[Result.andThen]
  rw[Oper.upon_value]
  go_wp2
  go_end0
  exact⟨rfl,hK.out.used _,(Below.refl B w).setCell (p:=⟨b,0,none⟩) hK.out.1 _⟩
 ·have h1:=h.cell0
  have hK:=C h
  clear h
  go_enter Tryd.func68,Tryd.ntmps68
  go_wp2
  rw[Lib.run_neq_ptr_same w _ Tryd.underlying68 hj]
  go_wp2
  go_end0
  exact⟨rfl,hK.out,Below.refl B _⟩
set_option maxHeartbeats 2000000 in
set_option maxRecDepth 100000 in
theorem Bui_WriteString (B b:Nat) (bs:List Value) (s:ByteArray) (w:World) (h:Lib.IsBuilderF 70 5 B b bs w) (hlen:bs.length+s.size≤140737488355328) (hBw:B≤w.heap.size):
  Calls Tryd.prog 36 #[.pointer (some ⟨b,0,none⟩),.string s] w fun e w'=>e=.returned (.tuple #[V I s.size,.nilIface])∧(Lib.IsBuilderF 70 5 B b (bs++Lib.strCells s) w'∧Below B w w'):=by
 obtain⟨i0,hi,hz1,hz2,hz3⟩:=info_parts (show(Tryd.prog.info? 5).map (fun i=>(i.zero,i.size,i.bytes))=some (some (.int .u8 0),1,1) by kernel_rfl)
 have hl:=C hlen
 clear hlen
 go_enter Tryd.func36,Tryd.ntmps36
 go_wp2_with (go_at_call 68;refine(Bui_copyCheck B b bs _ h).mono ?_)
 rintro e w3 ⟨rfl,h2,hb1⟩
 obtain⟨hB,v,hbk,hown,hne⟩:=h2
 have c2:w3.cell? ⟨b,0,none⟩=some (.pointer (some ⟨b,0,none⟩)):=by rw[Lib.cell_of_heap hbk];rfl
 have c3:w3.cell? ⟨b,1,none⟩=some v:=by rw[Lib.cell_of_heap hbk];rfl
 go_wp2_with (at_builtin;refine Lib.wpList_append_own_stringF _ rfl _ _ 36 9 rfl B 5 i0 Tryd.underlying36 Tryd.underlying9 hi hz1 hz2 hz3 _ _ _ rfl hown s rfl ?c1 ?c4 ?c5 ?_)
 case c1=>have:=hl.out;unfold maxLen;omega
 case c4=>have:=hl.out;omega
 case c5=>have:=hb1.size;omega
 intro v' w4 hown' hgrow _
 have hlt:b<w3.heap.size:=by
  rcases Nat.lt_or_ge b w3.heap.size with h'|h'
  ·exact h'
  ·simp[Array.getElem?_eq_none h']at hbk
 have hb2:w4.heap[b]? =some (.cells #[.pointer (some ⟨b,0,none⟩),v] 70 (0,0)):=by
  rw[hgrow.block b hlt (fun e=>hne e.symm)]
  exact hbk
 have d1:w4.cell? ⟨b,0,none⟩=some (.pointer (some ⟨b,0,none⟩)):=by rw[Lib.cell_of_heap hb2];rfl
 have d2:w4.cell? ⟨b,1,none⟩=some v:=by rw[Lib.cell_of_heap hb2];rfl
 have f1:w4.frozen? ⟨b,1,none⟩=false:=Lib.frozen_of_heap hb2 1
 obtain⟨ao,n',cap,rfl⟩:∃ao n' cap,v'=L ao n' cap:=by
  rcases hown'.2 with⟨hv,_⟩|⟨g,cap,cur,fz,hv,_⟩
  ·exact⟨_,_,_,hv⟩
  ·exact⟨_,_,_,hv⟩
 go_wp2
 go_ret2
 refine⟨rfl,Or.inr ?_,?_⟩
 ·exact Lib.BuilderAtF.put (T:=70) (e:=5) hB hb2 (bs':=bs++Lib.strCells s) (by simpa[Lib.strCells_length]using hown') (by decide)
 ·exact(hb1.grown hgrow (by have:=hb1.size;omega) (fun k hk=>(hown.lt k hk).1)).setCell (p:=⟨b,1,none⟩) hB _
def impl_ScriptText.l0:Nat→List Int→List (S26)→Int→Int→Option (ByteArray×Bool)
 |0,_,_,_,_=>none
 |k+1,x4,x12,x13,x14=>if x14<x13 then(if 0≤x14 then(if x14<(x12.length:Int) then((impl_FormatAct.f k ((rd_T26 x12 x14).f0) ((rd_T26 x12 x14).f1) ((rd_T26 x12 x14).f2) ((rd_T26 x12 x14).f3)).bind fun bt189=>(if bt189.2=true then(if bt189.1.size+1≤9223372036854775807 then(if x4.length+(bt189.1++(⟨#[10]⟩:ByteArray)).size<140737488355328 then(impl_ScriptText.l0 k (x4++bytesOf (bt189.1++(⟨#[10]⟩:ByteArray))) x12 x13 (wrap64 (x14+1))) else(none)) else(none)) else(some ((⟨#[]⟩:ByteArray),false)))) else(none)) else(none)) else(some (strOfNums x4,true))
def impl_ScriptText.f (k:Nat) (l0:List (S26)):Option (ByteArray×Bool):=if(l0.length:Int) >40 then(some ((⟨#[]⟩:ByteArray),false)) else(impl_ScriptText.l0 k (([]:List Int)) l0 (l0.length:Int) 0)
theorem impl_ScriptText.mono_l:∀k,(∀y0 y1 y2 y3,LeO (impl_ScriptText.l0 k y0 y1 y2 y3) (impl_ScriptText.l0 (k+1) y0 y1 y2 y3))
 |0=>fun _ _ _ _ r h=>by simp[impl_ScriptText.l0]at h
 |k+1=>by
  have ih0:=impl_ScriptText.mono_l k
  ·intro y0 y1 y2 y3
   unfold impl_ScriptText.l0
   repeat' first|(with_reducible first|apply ih0|apply impl_FormatAct.mono|exact LeO.refl _|exact LeO.none _|refine LeO.ite ?_ ?_|refine LeO.bind ?_ (fun _=> ?_))|apply ih0|exact LeO.none _|refine LeO.ite ?_ ?_|refine LeO.bind ?_ (fun _=> ?_)
theorem impl_ScriptText.mono:∀a0 k,LeO (impl_ScriptText.f k a0) (impl_ScriptText.f (k+1) a0):=by
 intro a0 k
 have ih0:=impl_ScriptText.mono_l k
 unfold impl_ScriptText.f
 repeat' first|(with_reducible first|apply ih0|apply impl_FormatAct.mono|exact LeO.refl _|exact LeO.none _|refine LeO.ite ?_ ?_|refine LeO.bind ?_ (fun _=> ?_))|apply ih0|exact LeO.none _|refine LeO.ite ?_ ?_|refine LeO.bind ?_ (fun _=> ?_)
set_option maxHeartbeats 40000000 in
set_option maxRecDepth 100000 in
theorem Bui_String (B b:Nat) (xs:List Int) (l:List UInt8) (hl:xs=l.map fun u=>(u.toNat:Int)) (w:World) (h:Lib.IsBuilderF 70 5 B b (Lib.byteCells l) w) (hBw:B≤w.heap.size):
  Calls Tryd.prog 37 #[.pointer (some ⟨b,0,none⟩)] w fun e w'=>e=.returned (.string (strOfNums xs))∧Below B w w':=by
 rw[Bui.str hl]
 refine(show Calls Tryd.prog 37 #[.pointer (some ⟨b,0,none⟩)] w fun e w'=>e=.returned (.string ⟨l.toArray⟩)∧(Lib.IsBuilderF 70 5 B b (Lib.byteCells l) w'∧Below B w w') from Any.Builder_String_any_f Tryd.lays169 Bui.x169 B b l w h hBw).mono ?_
 rintro e w' ⟨rfl,_,hb⟩
 exact⟨rfl,hb⟩
theorem impl_ScriptText.W1 {p:Prop} (h:p:=by
  go_wp2_with (first|((with_reducible refine J (N:=6) rfl ?_);refine box_event ?hg (N:=6) ?hd (cs:= #[V I 0,V I 0,V I 0,V I 0]) (t:=26) ?hr ?_;(case hd=>rfl);(case hg=>rfl);(case hr=>exact Fix.hr);intro gb1 hg w1 hbox hb;have n0_:=C (below_step (by repeat(first|(with_reducible first|exact HV.out|apply bA|apply bN|apply b1|refine below_set ?_ GV.out)|exact HV.out)) hb);have n1_:=eB hb;have n2_:=C hbox;have n3_:D (w.heap.size≤gb1):=gE hg;have n4_:D (w.heap.size≤gb1):=gE hg;have GV:=C ((by rw[hg];exact(below_size (by repeat(first|(with_reducible first|exact HV.out|apply bA|apply bN|apply b1|refine below_set ?_ GV.out)|exact HV.out))):wr.heap.size≤gb1));clear HV;clear HB;have HV:=n0_;have HB:=n1_;have BK1:=n2_;have GW1:=n3_;have GE1:=n4_;clear n0_ n1_ n2_ n3_ n4_;clear hb hbox hg;obtain⟨hcz1_0,hcz1_1,hcz1_2,hcz1_3,hfz1_0,hfz1_1,hfz1_2,hfz1_3⟩:=d4 BK1.out)|((with_reducible refine F (f:=10) rfl ?_);refine gl 10 (some 20) Tryd.func10 #[G #[V I ((rd_T26 l0 x2_1).f0),V I ((rd_T26 l0 x2_1).f1),V I ((rd_T26 l0 x2_1).f2),V I ((rd_T26 l0 x2_1).f3)]] ?_;(with_reducible refine(impl_FormatAct.calls k1 ((rd_T26 l0 x2_1).f0) ((rd_T26 l0 x2_1).f1) ((rd_T26 l0 x2_1).f2) ((rd_T26 l0 x2_1).f3) t1 false _ A1.out (Ito.on hTab.out uB)).mono ?_);rintro e w2 ⟨rfl,hb⟩;refine⟨_,rfl,?_⟩;replace HV:=C (below_step (by repeat(first|(with_reducible first|exact HV.out|apply bA|apply bN|apply b1|refine below_set ?_ GV.out)|exact HV.out)) hb);replace BK1:=C (blk_below (g:=gb1) (o:=.cells #[V I ((rd_T26 l0 x2_1).f0),V I ((rd_T26 l0 x2_1).f1),V I ((rd_T26 l0 x2_1).f2),V I ((rd_T26 l0 x2_1).f3)] 26 (0,0)) (bK BK1.out) hb);replace HB:=eB hb;clear hb)|((with_reducible refine F (f:=37) rfl ?_);refine goesL_ (some 29) rfl rfl Tryd.func37 (by kernel_rfl) rfl #[.pointer (some ⟨w.heap.size,0,none⟩)] rfl (by(try simp only[List.map_toArray,List.map_cons,List.map_nil]);first|done|rfl) ?_;(with_reducible refine(Bui_String w.heap.size w.heap.size x1_1 lB LB.out _ BU.out SW.out).mono ?_);rintro e wz ⟨rfl,hb⟩;refine⟨_,rfl,?_⟩;have n1_:=C (Below.trans HB.out hb);clear HB;have HB:=n1_;clear n1_ hb))
  go_ret2
  exact⟨rE,uB⟩):p:=h
set_option maxHeartbeats 40000000 in
set_option maxRecDepth 100000 in
theorem impl_ScriptText.calls (k:Nat) (A0:Option Addr) (c0:Nat) (l0:List (S26)) (r1:ByteArray) (r2:Bool) (w:World) (hr0:Kd.C k26 w A0 l0.length l0) (hc0:l0.length≤c0) (h:impl_ScriptText.f k l0=some (r1,r2)) (hTab:Ito.Tab w):
  Calls Tryd.prog 14 #[L A0 l0.length c0] w fun e w'=>e=.returned (.tuple #[.string r1,.bool r2])∧Below w.heap.size w w':=by
 replace hTab:=C hTab
 have hu1:=Tryd.underlying26
 have HR1:=C hr0
 have HC1:=C hc0
 (try clear hr0);(try clear hc0)
 have HB:=C (Below.refl w.heap.size w)
 have H:=h
 unfold impl_ScriptText.f at H
 clear h
 by_cases c1:(l0.length:Int) >40
 ·rw[if_pos c1]at H
  have c1b0:decide (40<(l0.length:Int))=true:=decide_eq_true c1
  have c1b1:decide (40<l0.length)=true:=decide_eq_true (by omega)
  clear c1
  simp only[Option.some.injEq,Prod.mk.injEq]at H
  obtain⟨rfl,rfl⟩:=H
  go_enter Tryd.func14,Tryd.ntmps14
  go_wp2
  go_ret2
  exact⟨rE,uB⟩
 ·rw[if_neg c1]at H
  have c1b0:decide (40<(l0.length:Int))=false:=decide_eq_false c1
  have c1b1:decide (40<l0.length)=false:=decide_eq_false (by omega)
  clear c1
  obtain⟨y1,hy1⟩:∃y_:List Int,y_=(([]:List Int)):=⟨_,rfl⟩
  replace H:(impl_ScriptText.l0 k y1 l0 (l0.length:Int) 0)=some (r1,r2):=by first|(rw[hy1];with_reducible exact H)|(have H1_:=(Option.bind_some _ _).symm.trans H;rw[hy1];with_reducible exact H1_)|(have H1_:=(Option.bind_some _ _).symm.trans H;with_reducible exact H1_)|with_reducible exact H|(rw[hy1];exact H)|exact H
  have Ny1:=C hy1
  clear hy1
  have H':=C H
  clear H
  go_enter Tryd.func14,Tryd.ntmps14
  go_wp2
  have HO1:=C (Bui.fresh (T:=70) (e:=5) w)
  go_loopg [14] k (fun kq v14 w'=>∃(x1_1:List Int) (x2_1:Int),v14=V I x2_1∧D (impl_ScriptText.l0 kq x1_1 l0 (l0.length:Int) x2_1=some (r1,r2))∧D (kq≤k)∧D (Bui.BuF 70 5 w.heap.size w.heap.size x1_1 w')∧D (Below w.heap.size w w'))
  case atStart=>exact⟨(y1),(0),rS,H',⟨Nat.le_refl _⟩,⟨by rw[Ny1.out];exact HO1.out⟩,⟨uB⟩⟩
  case round=>
   clear H'
   obtain⟨x1_1,x2_1,rfl,HA,HK1,HO_1,HB⟩:=hrel
   obtain⟨lB,hlB,hBU⟩:=HO_1.out
   have BU:=C hBU
   have LB:=C hlB
   have HV:=C (Below.refl wr.heap.size wr)
   have SW:=C (below_size HB.out)
   clear hlB hBU HO_1
   cases gk with
   |zero=>exact absurd HA.out (by simp[impl_ScriptText.l0])
   |succ k1=>
    have H:=HA.out
    clear HA
    simp only[impl_ScriptText.l0]at H
    by_cases c2:x2_1<(l0.length:Int)
    ·rw[if_pos c2]at H
     have c2b0:decide (x2_1<(l0.length:Int))=true:=decide_eq_true c2
     clear c2
     by_cases c3:0≤x2_1
     ·rw[if_pos c3]at H
      have c3b0:decide (0≤x2_1)=true:=decide_eq_true c3
      clear c3
      by_cases c4:x2_1<(l0.length:Int)
      ·rw[if_pos c4]at H
       have c4b0:decide (x2_1<(l0.length:Int))=true:=decide_eq_true c4
       clear c4
       obtain⟨⟨t1,t2⟩,A1,H⟩:=bnd H
       dsimp only at H
       by_cases c5:t2=true
       ·subst c5
        rw[if_pos rfl]at H
        by_cases c6:t1.size+1≤9223372036854775807
        ·rw[if_pos c6]at H
         have c6b0:=eq_true c6
         have c6b1:decide (t1.size+1≤9223372036854775807)=true:=decide_eq_true c6
         try have c6b2:(9223372036854775807<t1.size+1)=False:=eq_false (Nat.not_lt.2 c6)
         try(have h1_:=c6;simp only[ByteArray.size_append,Ito.bsz,List.size_toArray,List.length_cons,List.length_nil]at h1_;have c6b3:=eq_false (Nat.not_lt.2 h1_);clear h1_)
         by_cases c7:x1_1.length+(t1++(⟨#[10]⟩:ByteArray)).size<140737488355328
         ·rw[if_pos c7]at H
          have LMc1:=C c7
          clear c7
          obtain⟨y2,hy2⟩:∃y_:List Int,y_=(x1_1++bytesOf (t1++(⟨#[10]⟩:ByteArray))):=⟨_,rfl⟩
          replace H:(impl_ScriptText.l0 k1 y2 l0 (l0.length:Int) (wrap64 (x2_1+1)))=some (r1,r2):=by first|(rw[hy2];with_reducible exact H)|(have H1_:=(Option.bind_some _ _).symm.trans H;rw[hy2];with_reducible exact H1_)|(have H1_:=(Option.bind_some _ _).symm.trans H;with_reducible exact H1_)|with_reducible exact H|(rw[hy2];exact H)|exact H
          have Ny2:=C hy2
          clear hy2
          have H':=C H
          clear H
          have p1:0≤(x2_1:Int):=of_decide_eq_true (by first|(with_reducible assumption)|assumption)
          have q1:x2_1<(l0.length:Int):=of_decide_eq_true (by first|(with_reducible assumption)|assumption)
          obtain⟨ad1,e1,hx1_0,hx1_1,hx1_2,hx1_3⟩:=at_T26 HR1.out x2_1 p1 q1
          cases e1
          replace hx1_0:=hx HB hx1_0
          replace hx1_1:=hx HB hx1_1
          replace hx1_2:=hx HB hx1_2
          replace hx1_3:=hx HB hx1_3
          replace p1:=eq_true p1
          replace q1:=eq_true q1
          go_wp2_with (first|((with_reducible refine J (N:=6) rfl ?_);refine box_event ?hg (N:=6) ?hd (cs:= #[V I 0,V I 0,V I 0,V I 0]) (t:=26) ?hr ?_;(case hd=>rfl);(case hg=>rfl);(case hr=>exact Fix.hr);intro gb1 hg w1 hbox hb;have n0_:=C (below_step (by repeat(first|(with_reducible first|exact HV.out|apply bA|apply bN|apply b1|refine below_set ?_ GV.out)|exact HV.out)) hb);have n1_:=eB hb;have n2_:=C hbox;have n3_:D (w.heap.size≤gb1):=gE hg;have n4_:D (w.heap.size≤gb1):=gE hg;have GV:=C ((by rw[hg];exact(below_size (by repeat(first|(with_reducible first|exact HV.out|apply bA|apply bN|apply b1|refine below_set ?_ GV.out)|exact HV.out))):wr.heap.size≤gb1));clear HV;clear HB;have HV:=n0_;have HB:=n1_;have BK1:=n2_;have GW1:=n3_;have GE1:=n4_;clear n0_ n1_ n2_ n3_ n4_;clear hb hbox hg;have h_:=d4 BK1.out;(repeat(obtain⟨_,h_⟩:=h_)))|((with_reducible refine F (f:=10) rfl ?_);refine gl 10 (some 20) Tryd.func10 #[G #[V I ((rd_T26 l0 x2_1).f0),V I ((rd_T26 l0 x2_1).f1),V I ((rd_T26 l0 x2_1).f2),V I ((rd_T26 l0 x2_1).f3)]] ?_;(with_reducible refine(impl_FormatAct.calls k1 ((rd_T26 l0 x2_1).f0) ((rd_T26 l0 x2_1).f1) ((rd_T26 l0 x2_1).f2) ((rd_T26 l0 x2_1).f3) t1 true _ A1.out (Ito.on hTab.out uB)).mono ?_);rintro e w2 ⟨rfl,hb⟩;refine⟨_,rfl,?_⟩;replace HV:=C (below_step (by repeat(first|(with_reducible first|exact HV.out|apply bA|apply bN|apply b1|refine below_set ?_ GV.out)|exact HV.out)) hb);replace BK1:=C (blk_below (g:=gb1) (o:=.cells #[V I ((rd_T26 l0 x2_1).f0),V I ((rd_T26 l0 x2_1).f1),V I ((rd_T26 l0 x2_1).f2),V I ((rd_T26 l0 x2_1).f3)] 26 (0,0)) (bK BK1.out) hb);replace HB:=eB hb;clear hb)|((with_reducible refine F (f:=36) rfl ?_);refine goesL_ (some 27) rfl rfl Tryd.func36 (by kernel_rfl) rfl #[.pointer (some ⟨w.heap.size,0,none⟩),.string (t1++(⟨#[10]⟩:ByteArray))] rfl (by(try simp only[List.map_toArray,List.map_cons,List.map_nil]);first|done|rfl) ?_;(with_reducible refine(Bui_WriteString w.heap.size w.heap.size (Lib.byteCells lB) (t1++(⟨#[10]⟩:ByteArray)) _ (Bui.below BU.out (by repeat(first|(with_reducible first|exact HV.out|apply bA|apply bN|apply b1|refine below_set ?_ GV.out)|exact HV.out))) (Bui.len LB.out LMc1.out) (below_size (by repeat(first|(with_reducible first|exact HB.out|apply bA|apply bN|apply b1|refine below_set ?_ (Aside0.out (by assumption)))|exact HB.out)))).mono ?_);rintro e wz ⟨rfl,ho,hb⟩;refine⟨_,rfl,?_⟩;have n1_:=C (Below.trans (by repeat(first|(with_reducible first|exact HB.out|apply bA|apply bN|apply b1|refine below_set ?_ (Aside0.out (by assumption)))|exact HB.out)) hb);have n2_:=C (Bui.put LB.out ho);clear HB;have HB:=n1_;have HO2:=n2_;clear n1_ n2_ hb ho))
          go_roundg k1
          case measure=>have:=HK1.out;omega
          case rel=>exact⟨(y2),(wrap64 (x2_1+1)),rS,H',⟨by have:=HK1.out;omega⟩,⟨by rw[Ny2.out];exact HO2.out⟩,⟨uB⟩⟩
         ·rw[if_neg c7]at H
          exact absurd H (by simp)
        ·rw[if_neg c6]at H
         exact absurd H (by simp)
       ·replace c5:=Bool.eq_false_iff.mpr c5
        subst c5
        rw[if_neg Bool.false_ne_true]at H
        simp only[Option.some.injEq,Prod.mk.injEq]at H
        obtain⟨rfl,rfl⟩:=H
        have p1:0≤(x2_1:Int):=of_decide_eq_true (by first|(with_reducible assumption)|assumption)
        have q1:x2_1<(l0.length:Int):=of_decide_eq_true (by first|(with_reducible assumption)|assumption)
        obtain⟨ad1,e1,hx1_0,hx1_1,hx1_2,hx1_3⟩:=at_T26 HR1.out x2_1 p1 q1
        cases e1
        replace hx1_0:=hx HB hx1_0
        replace hx1_1:=hx HB hx1_1
        replace hx1_2:=hx HB hx1_2
        replace hx1_3:=hx HB hx1_3
        replace p1:=eq_true p1
        replace q1:=eq_true q1
        exact impl_ScriptText.W1
      ·rw[if_neg c4]at H
       exact absurd H (by simp)
     ·rw[if_neg c3]at H
      exact absurd H (by simp)
    ·rw[if_neg c2]at H
     have c2b0:decide (x2_1<(l0.length:Int))=false:=decide_eq_false c2
     clear c2
     simp only[Option.some.injEq,Prod.mk.injEq]at H
     obtain⟨rfl,rfl⟩:=H
     exact impl_ScriptText.W1
def laws_eqAct.f (a0_0:Int) (a0_1:Int) (a0_2:Int) (a0_3:Int) (a1_0:Int) (a1_1:Int) (a1_2:Int) (a1_3:Int):Option (Bool):=if a0_0=a1_0 then(if a0_1=a1_1 then(if a0_2=a1_2 then(if a0_3=a1_3 then(some true) else(some false)) else(some false)) else(some false)) else(some false)
theorem laws_eqAct.W1 {p:Prop} (h:p:=by
  go_enter Tryd.func38,Tryd.ntmps38
  go_wp2_with (first|((with_reducible refine J (N:=2) rfl ?_);refine Fix.be 2 #[V I a0_0,V I a0_1,V I a0_2,V I a0_3] 26 ?_;intro gb1 hg w1 BK1 hb;have GW1:D (w.heap.size≤gb1):=gE hg;have GE1:=GW1;replace HB:=eB hb;clear hb hg)|((with_reducible refine J (N:=3) rfl ?_);refine Fix.be 3 #[V I a1_0,V I a1_1,V I a1_2,V I a1_3] 26 ?_;intro gb2 hg w2 BK2 hb;have GW2:D (w.heap.size≤gb2):=gE hg;have GE2:=GW2;have NB1_195:=nL hg BK1;have NB2_194:=nG hg BK1;replace BK1:=eK BK1 hb;replace HB:=eB hb;clear hb hg;have hnb1:=NB1_195.out;have hnc1:=NB2_194.out;have h_:=d4 BK1.out;(repeat(obtain⟨_,h_⟩:=h_));obtain⟨hcz1_0,hcz1_1,hcz1_2,hcz1_3,hfz1_0,hfz1_1,hfz1_2,hfz1_3⟩:=d4 BK2.out))
  go_ret
  exact⟨rE,uB⟩):p:=h
set_option maxHeartbeats 40000000 in
set_option maxRecDepth 100000 in
theorem laws_eqAct.calls (a0_0:Int) (a0_1:Int) (a0_2:Int) (a0_3:Int) (a1_0:Int) (a1_1:Int) (a1_2:Int) (a1_3:Int) (r:Bool) (w:World) (h:laws_eqAct.f a0_0 a0_1 a0_2 a0_3 a1_0 a1_1 a1_2 a1_3=some r):
  Calls Tryd.prog 38 #[G #[V I a0_0,V I a0_1,V I a0_2,V I a0_3],G #[V I a1_0,V I a1_1,V I a1_2,V I a1_3]] w fun e w'=>e=.returned (.bool r)∧Below w.heap.size w w':=by
 have hu1:=Tryd.underlying26
 have HB:=C (Below.refl w.heap.size w)
 have H:=h
 unfold laws_eqAct.f at H
 clear h
 by_cases c1:a0_0=a1_0
 ·rw[if_pos c1]at H
  have c1b0:(a0_0==a1_0)=true:=beq_iff_eq.mpr c1
  have c1b1:(a0_0 !=a1_0)=false:=bne_eq_false_iff_eq.mpr c1
  clear c1
  by_cases c2:a0_1=a1_1
  ·rw[if_pos c2]at H
   have c2b0:(a0_1==a1_1)=true:=beq_iff_eq.mpr c2
   have c2b1:(a0_1 !=a1_1)=false:=bne_eq_false_iff_eq.mpr c2
   clear c2
   by_cases c3:a0_2=a1_2
   ·rw[if_pos c3]at H
    have c3b0:(a0_2==a1_2)=true:=beq_iff_eq.mpr c3
    have c3b1:(a0_2 !=a1_2)=false:=bne_eq_false_iff_eq.mpr c3
    clear c3
    by_cases c4:a0_3=a1_3
    ·rw[if_pos c4]at H
     have c4b0:(a0_3==a1_3)=true:=beq_iff_eq.mpr c4
     have c4b1:(a0_3 !=a1_3)=false:=bne_eq_false_iff_eq.mpr c4
     clear c4
     obtain rfl:=Option.some.inj H
     exact laws_eqAct.W1
    ·rw[if_neg c4]at H
     have c4b0:(a0_3==a1_3)=false:=beq_eq_false_iff_ne.mpr c4
     have c4b1:(a0_3 !=a1_3)=true:=bne_iff_ne.mpr c4
     obtain rfl:=Option.some.inj H
     exact laws_eqAct.W1
   ·rw[if_neg c3]at H
    have c3b0:(a0_2==a1_2)=false:=beq_eq_false_iff_ne.mpr c3
    have c3b1:(a0_2 !=a1_2)=true:=bne_iff_ne.mpr c3
    obtain rfl:=Option.some.inj H
    go_enter Tryd.func38,Tryd.ntmps38
    go_wp2_with (first|((with_reducible refine J (N:=2) rfl ?_);refine Fix.be 2 #[V I a0_0,V I a0_1,V I a0_2,V I a0_3] 26 ?_;intro gb1 hg w1 BK1 hb;have GW1:D (w.heap.size≤gb1):=gE hg;have GE1:=GW1;replace HB:=eB hb;clear hb hg)|((with_reducible refine J (N:=3) rfl ?_);refine Fix.be 3 #[V I a1_0,V I a1_1,V I a1_2,V I a1_3] 26 ?_;intro gb2 hg w2 BK2 hb;have GW2:D (w.heap.size≤gb2):=gE hg;have GE2:=GW2;have NB1_195:=nL hg BK1;have NB2_194:=nG hg BK1;replace BK1:=eK BK1 hb;replace HB:=eB hb;clear hb hg;have hnb1:=NB1_195.out;have hnc1:=NB2_194.out;have h_:=d4 BK1.out;(repeat(obtain⟨_,h_⟩:=h_));have h_:=d4 BK2.out;(repeat(obtain⟨_,h_⟩:=h_))))
    go_ret
    exact⟨rE,uB⟩
  ·rw[if_neg c2]at H
   have c2b0:(a0_1==a1_1)=false:=beq_eq_false_iff_ne.mpr c2
   have c2b1:(a0_1 !=a1_1)=true:=bne_iff_ne.mpr c2
   obtain rfl:=Option.some.inj H
   go_enter Tryd.func38,Tryd.ntmps38
   go_wp2_with (first|((with_reducible refine J (N:=2) rfl ?_);refine Fix.be 2 #[V I a0_0,V I a0_1,V I a0_2,V I a0_3] 26 ?_;intro gb1 hg w1 BK1 hb;have GW1:D (w.heap.size≤gb1):=gE hg;have GE1:=GW1;replace HB:=eB hb;clear hb hg)|((with_reducible refine J (N:=3) rfl ?_);refine Fix.be 3 #[V I a1_0,V I a1_1,V I a1_2,V I a1_3] 26 ?_;intro gb2 hg w2 BK2 hb;have GW2:D (w.heap.size≤gb2):=gE hg;have GE2:=GW2;have NB1_195:=nL hg BK1;have NB2_194:=nG hg BK1;replace BK1:=eK BK1 hb;replace HB:=eB hb;clear hb hg;have hnb1:=NB1_195.out;have hnc1:=NB2_194.out;obtain⟨hcz1_0,hcz1_1,hcz1_2,hcz1_3,hfz1_0,hfz1_1,hfz1_2,hfz1_3⟩:=d4 BK1.out;have h_:=d4 BK2.out;(repeat(obtain⟨_,h_⟩:=h_))))
   go_ret
   exact⟨rE,uB⟩
 ·rw[if_neg c1]at H
  have c1b0:(a0_0==a1_0)=false:=beq_eq_false_iff_ne.mpr c1
  have c1b1:(a0_0 !=a1_0)=true:=bne_iff_ne.mpr c1
  obtain rfl:=Option.some.inj H
  go_enter Tryd.func38,Tryd.ntmps38
  go_wp2_with (first|((with_reducible refine J (N:=2) rfl ?_);refine Fix.be 2 #[V I a0_0,V I a0_1,V I a0_2,V I a0_3] 26 ?_;intro gb1 hg w1 BK1 hb;have GW1:D (w.heap.size≤gb1):=gE hg;have GE1:=GW1;replace HB:=eB hb;clear hb hg)|((with_reducible refine J (N:=3) rfl ?_);refine Fix.be 3 #[V I a1_0,V I a1_1,V I a1_2,V I a1_3] 26 ?_;intro gb2 hg w2 BK2 hb;have GW2:D (w.heap.size≤gb2):=gE hg;have GE2:=GW2;have NB1_195:=nL hg BK1;have NB2_194:=nG hg BK1;replace BK1:=eK BK1 hb;replace HB:=eB hb;clear hb hg;have hnb1:=NB1_195.out;have hnc1:=NB2_194.out;obtain⟨hcz1_0,hcz1_1,hcz1_2,hcz1_3,hfz1_0,hfz1_1,hfz1_2,hfz1_3⟩:=d4 BK1.out;obtain⟨hcz2_0,hcz2_1,hcz2_2,hcz2_3,hfz2_0,hfz2_1,hfz2_2,hfz2_3⟩:=d4 BK2.out))
  go_ret
  exact⟨rE,uB⟩
def laws_eqActS.l0:Nat→List (S26)→List (S26)→Int→Option (Bool)
 |0,_,_,_=>none
 |k+1,x0,x1,x5=>if x5<(x0.length:Int) then(if 0≤x5 then(if x5<(x1.length:Int) then((laws_eqAct.f ((rd_T26 x0 x5).f0) ((rd_T26 x0 x5).f1) ((rd_T26 x0 x5).f2) ((rd_T26 x0 x5).f3) ((rd_T26 x1 x5).f0) ((rd_T26 x1 x5).f1) ((rd_T26 x1 x5).f2) ((rd_T26 x1 x5).f3)).bind fun t198=>(if t198=true then(laws_eqActS.l0 k x0 x1 (wrap64 (x5+1))) else(some false))) else(none)) else(none)) else(some true)
def laws_eqActS.f (k:Nat) (l0:List (S26)) (l1:List (S26)):Option (Bool):=if(l0.length:Int)=(l1.length:Int) then(laws_eqActS.l0 k l0 l1 0) else(some false)
theorem laws_eqActS.mono_l:∀k,(∀y0 y1 y2,LeO (laws_eqActS.l0 k y0 y1 y2) (laws_eqActS.l0 (k+1) y0 y1 y2))
 |0=>fun _ _ _ r h=>by simp[laws_eqActS.l0]at h
 |k+1=>by
  have ih0:=laws_eqActS.mono_l k
  ·intro y0 y1 y2
   unfold laws_eqActS.l0
   repeat' first|(with_reducible first|apply ih0|exact LeO.refl _|exact LeO.none _|refine LeO.ite ?_ ?_|refine LeO.bind ?_ (fun _=> ?_))|apply ih0|exact LeO.none _|refine LeO.ite ?_ ?_|refine LeO.bind ?_ (fun _=> ?_)
theorem laws_eqActS.mono:∀a0 a1 k,LeO (laws_eqActS.f k a0 a1) (laws_eqActS.f (k+1) a0 a1):=by
 intro a0 a1 k
 have ih0:=laws_eqActS.mono_l k
 unfold laws_eqActS.f
 repeat' first|(with_reducible first|apply ih0|exact LeO.refl _|exact LeO.none _|refine LeO.ite ?_ ?_|refine LeO.bind ?_ (fun _=> ?_))|apply ih0|exact LeO.none _|refine LeO.ite ?_ ?_|refine LeO.bind ?_ (fun _=> ?_)
def laws_eqActS.T6:Bool×List (List Nat×List Nat):=(true,[([],[]),([],[]),([0,1],[0,1]),([2],[2]),([],[]),([],[]),([4,5],[4,5]),([6],[6]),([3,7],[3,7]),([8],[8])])
def laws_eqActS.B6:List Nat:= [0,0,3,7,0,0,48,112,255,511]
theorem laws_eqActS.tab6:rtab .any (opsOf Tryd.f15 6)=laws_eqActS.T6:=by kernel_rfl
theorem laws_eqActS.bits6:waitsOk laws_eqActS.T6.2 laws_eqActS.B6=true:=by kernel_rfl
set_option maxHeartbeats 40000000 in
set_option maxRecDepth 100000 in
theorem laws_eqActS.calls (k:Nat) (A0:Option Addr) (c0:Nat) (l0:List (S26)) (A1:Option Addr) (c1:Nat) (l1:List (S26)) (r:Bool) (w:World) (hr0:Kd.C k26 w A0 l0.length l0) (hc0:l0.length≤c0) (hr1:Kd.C k26 w A1 l1.length l1) (hc1:l1.length≤c1) (h:laws_eqActS.f k l0 l1=some r):
  Calls Tryd.prog 15 #[L A0 l0.length c0,L A1 l1.length c1] w fun e w'=>e=.returned (.bool r)∧Below w.heap.size w w':=by
 have hu1:=Tryd.underlying26
 have HR1:=C hr0
 have HC1:=C hc0
 (try clear hr0);(try clear hc0)
 have HR2:=C hr1
 have HC2:=C hc1
 (try clear hr1);(try clear hc1)
 have HB:=C (Below.refl w.heap.size w)
 have H:=h
 unfold laws_eqActS.f at H
 clear h
 by_cases c1:(l0.length:Int)=(l1.length:Int)
 ·rw[if_pos c1]at H
  have c1b0:((l0.length:Int)==(l1.length:Int))=true:=beq_iff_eq.mpr c1
  have c1b1:((l0.length:Int) !=(l1.length:Int))=false:=bne_eq_false_iff_eq.mpr c1
  have c1b2:(l0.length==l1.length)=true:=by first|simpa using c1|(simp at c1 ⊢;omega)
  clear c1
  have H':=C H
  clear H
  go_enter Tryd.func15,Tryd.ntmps15
  go_wp2
  go_loopg [5] k (fun kq v5 w'=>∃(x1_1:Int),v5=V I x1_1∧D (laws_eqActS.l0 kq l0 l1 x1_1=some r)∧D (kq≤k)∧D (Below w.heap.size w w'))
  case atStart=>exact⟨(0),rS,H',⟨Nat.le_refl _⟩,⟨uB⟩⟩
  case round=>
   clear H'
   obtain⟨x1_1,rfl,HA,HK1,HB⟩:=hrel
   cases gk with
   |zero=>exact absurd HA.out (by simp[laws_eqActS.l0])
   |succ k1=>
    have H:=HA.out
    clear HA
    simp only[laws_eqActS.l0]at H
    by_cases c2:x1_1<(l0.length:Int)
    ·rw[if_pos c2]at H
     have c2b0:decide (x1_1<(l0.length:Int))=true:=decide_eq_true c2
     clear c2
     by_cases c3:0≤x1_1
     ·rw[if_pos c3]at H
      have c3b0:decide (0≤x1_1)=true:=decide_eq_true c3
      clear c3
      by_cases c4:x1_1<(l1.length:Int)
      ·rw[if_pos c4]at H
       have c4b0:decide (x1_1<(l1.length:Int))=true:=decide_eq_true c4
       clear c4
       obtain⟨t1,A1,H⟩:=bnd H
       by_cases c5:t1=true
       ·subst c5
        rw[if_pos rfl]at H
        have H':=C H
        clear H
        try go_wp2
        replace HB:=dB HB
        have p1:0≤(x1_1:Int):=of_decide_eq_true (by first|(with_reducible assumption)|assumption)
        have q1:x1_1<(l0.length:Int):=of_decide_eq_true (by first|(with_reducible assumption)|assumption)
        obtain⟨ad1,e1,hx1_0,hx1_1,hx1_2,hx1_3⟩:=at_T26 HR1.out x1_1 p1 q1
        have hw1_3:=hx1_3
        have hw1_2:=hx1_2
        have hw1_1:=hx1_1
        have hw1_0:=hx1_0
        cases e1
        replace hx1_0:=hx HB hx1_0
        replace hx1_1:=hx HB hx1_1
        replace hx1_2:=hx HB hx1_2
        replace hx1_3:=hx HB hx1_3
        replace p1:=eq_true p1
        replace q1:=eq_true q1
        have p2:0≤(x1_1:Int):=of_decide_eq_true (by first|(with_reducible assumption)|assumption)
        have q2:x1_1<(l1.length:Int):=of_decide_eq_true (by first|(with_reducible assumption)|assumption)
        obtain⟨ad2,e2,hx2_0,hx2_1,hx2_2,hx2_3⟩:=at_T26 HR2.out x1_1 p2 q2
        have hw2_3:=hx2_3
        have hw2_2:=hx2_2
        have hw2_1:=hx2_1
        have hw2_0:=hx2_0
        cases e2
        replace hx2_0:=hx HB hx2_0
        replace hx2_1:=hx HB hx2_1
        replace hx2_2:=hx HB hx2_2
        replace hx2_3:=hx HB hx2_3
        replace p2:=eq_true p2
        replace q2:=eq_true q2
        refine start_ (n:=10) (S:=fun w'=>w'.cell? (ad1.add ((x1_1).toNat * 4))=some (V I ((rd_T26 l0 x1_1).f0))∧w'.cell? ⟨(ad1.add ((x1_1).toNat * 4)).block,(ad1.add ((x1_1).toNat * 4)).off+1,none⟩=some (V I ((rd_T26 l0 x1_1).f1))∧w'.cell? ⟨(ad1.add ((x1_1).toNat * 4)).block,(ad1.add ((x1_1).toNat * 4)).off+2,none⟩=some (V I ((rd_T26 l0 x1_1).f2))∧w'.cell? ⟨(ad1.add ((x1_1).toNat * 4)).block,(ad1.add ((x1_1).toNat * 4)).off+3,none⟩=some (V I ((rd_T26 l0 x1_1).f3))∧w'.cell? (ad2.add ((x1_1).toNat * 4))=some (V I ((rd_T26 l1 x1_1).f0))∧w'.cell? ⟨(ad2.add ((x1_1).toNat * 4)).block,(ad2.add ((x1_1).toNat * 4)).off+1,none⟩=some (V I ((rd_T26 l1 x1_1).f1))∧w'.cell? ⟨(ad2.add ((x1_1).toNat * 4)).block,(ad2.add ((x1_1).toNat * 4)).off+2,none⟩=some (V I ((rd_T26 l1 x1_1).f2))∧w'.cell? ⟨(ad2.add ((x1_1).toNat * 4)).block,(ad2.add ((x1_1).toNat * 4)).off+3,none⟩=some (V I ((rd_T26 l1 x1_1).f3))) (ds:= []) #[false,false,false,false,false,false,false,false,false,false] (by kernel_rfl) rfl rfl Fix.hi (fun hHeld=> ?_);refine with_tabW laws_eqActS.tab6 laws_eqActS.bits6 (fun HT_ HW_=> ?_)
        generalize wr.drew=w1 at HB hx1_0 hx1_1 hx1_2 hx1_3 hx2_0 hx2_1 hx2_2 hx2_3 hHeld ⊢
        refine pu 0 (some 17) ?_
        refine pu 1 (some 18) ?_
        refine pu 2 (some 19) ?_
        refine pu 4 (some 21) ?_
        refine pu 5 (some 22) ?_
        refine pu 6 (some 23) ?_
        refine tu 3 (some 20) hHeld ?_
        refine tu 7 (some 24) hHeld ?_
        refine ou 8 (some 25) (fun K hK=> ?_)
        refine gs Tryd.func38 #[G #[V I ((rd_T26 l0 x1_1).f0),V I ((rd_T26 l0 x1_1).f1),V I ((rd_T26 l0 x1_1).f2),V I ((rd_T26 l0 x1_1).f3)],G #[V I ((rd_T26 l1 x1_1).f0),V I ((rd_T26 l1 x1_1).f1),V I ((rd_T26 l1 x1_1).f2),V I ((rd_T26 l1 x1_1).f3)]] ?_
        with_reducible refine(laws_eqAct.calls ((rd_T26 l0 x1_1).f0) ((rd_T26 l0 x1_1).f1) ((rd_T26 l0 x1_1).f2) ((rd_T26 l0 x1_1).f3) ((rd_T26 l1 x1_1).f0) ((rd_T26 l1 x1_1).f1) ((rd_T26 l1 x1_1).f2) ((rd_T26 l1 x1_1).f3) true _ A1.out).mono ?_
        rintro e w2 ⟨rfl,hb⟩
        refine⟨_,rfl,?_⟩
        replace HB:=eB hb
        (try clear hb)
        refine hK.out _ _ ⟨((HB.out.cell (E w _ hw1_0)).trans hw1_0),((HB.out.cell (E w _ hw1_1)).trans hw1_1),((HB.out.cell (E w _ hw1_2)).trans hw1_2),((HB.out.cell (E w _ hw1_3)).trans hw1_3),((HB.out.cell (E w _ hw2_0)).trans hw2_0),((HB.out.cell (E w _ hw2_1)).trans hw2_1),((HB.out.cell (E w _ hw2_2)).trans hw2_2),((HB.out.cell (E w _ hw2_3)).trans hw2_3)⟩ (fun hHeld=> ?_)
        clear hK K
        refine nu (N:=(some 25)) ?_
        refine pu 9 (some 26) ?_
        refine done_ (done_of HT_.out (by kernel_rfl)) ?_
        try go_wp2
        go_roundg k1
        case measure=>have:=HK1.out;omega
        case rel=>exact⟨(wrap64 (x1_1+1)),rS,H',⟨by have:=HK1.out;omega⟩,⟨uB⟩⟩
       ·replace c5:=Bool.eq_false_iff.mpr c5
        subst c5
        rw[if_neg Bool.false_ne_true]at H
        obtain rfl:=Option.some.inj H
        try go_wp2
        replace HB:=dB HB
        have p1:0≤(x1_1:Int):=of_decide_eq_true (by first|(with_reducible assumption)|assumption)
        have q1:x1_1<(l0.length:Int):=of_decide_eq_true (by first|(with_reducible assumption)|assumption)
        obtain⟨ad1,e1,hx1_0,hx1_1,hx1_2,hx1_3⟩:=at_T26 HR1.out x1_1 p1 q1
        have hw1_3:=hx1_3
        have hw1_2:=hx1_2
        have hw1_1:=hx1_1
        have hw1_0:=hx1_0
        cases e1
        replace hx1_0:=hx HB hx1_0
        replace hx1_1:=hx HB hx1_1
        replace hx1_2:=hx HB hx1_2
        replace hx1_3:=hx HB hx1_3
        replace p1:=eq_true p1
        replace q1:=eq_true q1
        have p2:0≤(x1_1:Int):=of_decide_eq_true (by first|(with_reducible assumption)|assumption)
        have q2:x1_1<(l1.length:Int):=of_decide_eq_true (by first|(with_reducible assumption)|assumption)
        obtain⟨ad2,e2,hx2_0,hx2_1,hx2_2,hx2_3⟩:=at_T26 HR2.out x1_1 p2 q2
        have hw2_3:=hx2_3
        have hw2_2:=hx2_2
        have hw2_1:=hx2_1
        have hw2_0:=hx2_0
        cases e2
        replace hx2_0:=hx HB hx2_0
        replace hx2_1:=hx HB hx2_1
        replace hx2_2:=hx HB hx2_2
        replace hx2_3:=hx HB hx2_3
        replace p2:=eq_true p2
        replace q2:=eq_true q2
        refine start_ (n:=10) (S:=fun w'=>w'.cell? (ad1.add ((x1_1).toNat * 4))=some (V I ((rd_T26 l0 x1_1).f0))∧w'.cell? ⟨(ad1.add ((x1_1).toNat * 4)).block,(ad1.add ((x1_1).toNat * 4)).off+1,none⟩=some (V I ((rd_T26 l0 x1_1).f1))∧w'.cell? ⟨(ad1.add ((x1_1).toNat * 4)).block,(ad1.add ((x1_1).toNat * 4)).off+2,none⟩=some (V I ((rd_T26 l0 x1_1).f2))∧w'.cell? ⟨(ad1.add ((x1_1).toNat * 4)).block,(ad1.add ((x1_1).toNat * 4)).off+3,none⟩=some (V I ((rd_T26 l0 x1_1).f3))∧w'.cell? (ad2.add ((x1_1).toNat * 4))=some (V I ((rd_T26 l1 x1_1).f0))∧w'.cell? ⟨(ad2.add ((x1_1).toNat * 4)).block,(ad2.add ((x1_1).toNat * 4)).off+1,none⟩=some (V I ((rd_T26 l1 x1_1).f1))∧w'.cell? ⟨(ad2.add ((x1_1).toNat * 4)).block,(ad2.add ((x1_1).toNat * 4)).off+2,none⟩=some (V I ((rd_T26 l1 x1_1).f2))∧w'.cell? ⟨(ad2.add ((x1_1).toNat * 4)).block,(ad2.add ((x1_1).toNat * 4)).off+3,none⟩=some (V I ((rd_T26 l1 x1_1).f3))) (ds:= []) #[false,false,false,false,false,false,false,false,false,false] (by kernel_rfl) rfl rfl Fix.hi (fun hHeld=> ?_);refine with_tabW laws_eqActS.tab6 laws_eqActS.bits6 (fun HT_ HW_=> ?_)
        generalize wr.drew=w1 at HB hx1_0 hx1_1 hx1_2 hx1_3 hx2_0 hx2_1 hx2_2 hx2_3 hHeld ⊢
        refine pu 0 (some 17) ?_
        refine pu 1 (some 18) ?_
        refine pu 2 (some 19) ?_
        refine pu 4 (some 21) ?_
        refine pu 5 (some 22) ?_
        refine pu 6 (some 23) ?_
        refine tu 3 (some 20) hHeld ?_
        refine tu 7 (some 24) hHeld ?_
        refine ou 8 (some 25) (fun K hK=> ?_)
        refine gs Tryd.func38 #[G #[V I ((rd_T26 l0 x1_1).f0),V I ((rd_T26 l0 x1_1).f1),V I ((rd_T26 l0 x1_1).f2),V I ((rd_T26 l0 x1_1).f3)],G #[V I ((rd_T26 l1 x1_1).f0),V I ((rd_T26 l1 x1_1).f1),V I ((rd_T26 l1 x1_1).f2),V I ((rd_T26 l1 x1_1).f3)]] ?_
        with_reducible refine(laws_eqAct.calls ((rd_T26 l0 x1_1).f0) ((rd_T26 l0 x1_1).f1) ((rd_T26 l0 x1_1).f2) ((rd_T26 l0 x1_1).f3) ((rd_T26 l1 x1_1).f0) ((rd_T26 l1 x1_1).f1) ((rd_T26 l1 x1_1).f2) ((rd_T26 l1 x1_1).f3) false _ A1.out).mono ?_
        rintro e w2 ⟨rfl,hb⟩
        refine⟨_,rfl,?_⟩
        replace HB:=eB hb
        (try clear hb)
        refine hK.out _ _ ⟨((HB.out.cell (E w _ hw1_0)).trans hw1_0),((HB.out.cell (E w _ hw1_1)).trans hw1_1),((HB.out.cell (E w _ hw1_2)).trans hw1_2),((HB.out.cell (E w _ hw1_3)).trans hw1_3),((HB.out.cell (E w _ hw2_0)).trans hw2_0),((HB.out.cell (E w _ hw2_1)).trans hw2_1),((HB.out.cell (E w _ hw2_2)).trans hw2_2),((HB.out.cell (E w _ hw2_3)).trans hw2_3)⟩ (fun hHeld=> ?_)
        clear hK K
        refine nu (N:=(some 25)) ?_
        refine pu 9 (some 26) ?_
        refine done_ (done_of HT_.out (by kernel_rfl)) ?_
        try go_wp2
        go_ret
        exact⟨rE,uB⟩
      ·rw[if_neg c4]at H
       exact absurd H (by simp)
     ·rw[if_neg c3]at H
      exact absurd H (by simp)
    ·rw[if_neg c2]at H
     have c2b0:decide (x1_1<(l0.length:Int))=false:=decide_eq_false c2
     clear c2
     obtain rfl:=Option.some.inj H
     go_wp2
     go_ret
     exact⟨rE,uB⟩
 ·rw[if_neg c1]at H
  have c1b0:((l0.length:Int)==(l1.length:Int))=false:=beq_eq_false_iff_ne.mpr c1
  have c1b1:((l0.length:Int) !=(l1.length:Int))=true:=bne_iff_ne.mpr c1
  have c1b2:(l0.length==l1.length)=false:=by first|simpa using c1|(simp at c1 ⊢;omega)
  obtain rfl:=Option.some.inj H
  go_enter Tryd.func15,Tryd.ntmps15
  go_wp2
  go_ret
  exact⟨rE,uB⟩
def laws_FnExactScriptText.j0:Nat→List (S23)→List (S26)→Bool→Option (Bool)
 |0,_,_,_=>none
 |k+1,x0,x6,x34=>if x34=true then(some false) else((laws_toActS.f k x0).bind fun t210=>((laws_eqActS.f k x6 t210).bind fun t213=>(if t213=true then(some true) else(some false))))
def laws_FnExactScriptText.f (k:Nat) (l0:List (S23)):Option (Bool):=(laws_szActS.f l0 1048576).bind fun t199=>(if t199<0 then(some true) else((laws_toActS.f k l0).bind fun t200=>((spec_ScriptText.f k t200).bind fun bt203=>((laws_toActS.f k l0).bind fun t205=>((impl_ScriptText.f k t205).bind fun bt208=>(if bt208.1.toList=bt203.1.toList then(laws_FnExactScriptText.j0 k l0 t205 (bt208.2 !=bt203.2)) else(laws_FnExactScriptText.j0 k l0 t205 true)))))))
theorem laws_FnExactScriptText.mono_l:∀k,(∀y0 y1 y2,LeO (laws_FnExactScriptText.j0 k y0 y1 y2) (laws_FnExactScriptText.j0 (k+1) y0 y1 y2))
 |0=>fun _ _ _ r h=>by simp[laws_FnExactScriptText.j0]at h
 |k+1=>by
  have ih0:=laws_FnExactScriptText.mono_l k
  ·intro y0 y1 y2
   unfold laws_FnExactScriptText.j0
   repeat' first|(with_reducible first|apply ih0|apply impl_ScriptText.mono|apply laws_eqActS.mono|apply laws_toActS.mono|apply spec_ScriptText.mono|exact LeO.refl _|exact LeO.none _|refine LeO.ite ?_ ?_|refine LeO.bind ?_ (fun _=> ?_))|apply ih0|exact LeO.none _|refine LeO.ite ?_ ?_|refine LeO.bind ?_ (fun _=> ?_)
theorem laws_FnExactScriptText.mono:∀a0 k,LeO (laws_FnExactScriptText.f k a0) (laws_FnExactScriptText.f (k+1) a0):=by
 intro a0 k
 have ih0:=laws_FnExactScriptText.mono_l k
 unfold laws_FnExactScriptText.f
 repeat' first|(with_reducible first|apply ih0|apply impl_ScriptText.mono|apply laws_eqActS.mono|apply laws_toActS.mono|apply spec_ScriptText.mono|exact LeO.refl _|exact LeO.none _|refine LeO.ite ?_ ?_|refine LeO.bind ?_ (fun _=> ?_))|apply ih0|exact LeO.none _|refine LeO.ite ?_ ?_|refine LeO.bind ?_ (fun _=> ?_)
theorem laws_FnExactScriptText.W1 {p:Prop} (h:p:=by
  go_wp2
  go_meet
  first
   |(case rel=>exact⟨_,((t7 !=t4)),rS,H',⟨oL⟩,⟨Kd.R_mono (fR HO2.out) (fun _ hk=>trivial)⟩,⟨uB⟩⟩)
   |(case rel=>exact⟨_,(true),rS,H',⟨oL⟩,⟨Kd.R_mono (fR HO2.out) (fun _ hk=>trivial)⟩,⟨uB⟩⟩)):p:=h
set_option maxHeartbeats 40000000 in
set_option maxRecDepth 100000 in
theorem laws_FnExactScriptText.calls (k:Nat) (A0:Option Addr) (c0:Nat) (l0:List (S23)) (r:Bool) (w:World) (hr0:Kd.C k23 w A0 l0.length l0) (hc0:l0.length≤c0) (hT:r=true) (h:laws_FnExactScriptText.f k l0=some r) (hTab:Ito.Tab w):
  Calls Tryd.prog 4 #[L A0 l0.length c0] w fun e w'=>e=.returned (.bool r)∧Below w.heap.size w w':=by
 replace hTab:=C hTab
 have HR1:=C hr0
 have HC1:=C hc0
 (try clear hr0);(try clear hc0)
 replace hT:=C hT
 have HB:=C (Below.refl w.heap.size w)
 have H:=h
 unfold laws_FnExactScriptText.f at H
 clear h
 obtain⟨t1,A1,H⟩:=bnd H
 by_cases c1:t1<0
 ·rw[if_pos c1]at H
  have c1b0:decide (t1<0)=true:=decide_eq_true c1
  clear c1
  obtain rfl:=Option.some.inj H
  go_enter Tryd.func4,Tryd.ntmps4
  go_wp2_with (first|((with_reducible refine F (f:=11) rfl ?_);refine gl 11 (some 11) Tryd.func11 #[L A0 l0.length c0,V I 1048576] ?_;(with_reducible refine(laws_szActS.calls _ _ l0 1048576 t1 _ ?side1 ?side2 A1.out).mono ?_);(case side1=>exact uC HR1.out);(case side2=>exact HC1.out);rintro e w' ⟨rfl,⟨nd,rfl⟩⟩;refine⟨_,rfl,?_⟩))
  go_ret
  exact⟨rE,uB⟩
 ·rw[if_neg c1]at H
  have c1b0:decide (t1<0)=false:=decide_eq_false c1
  clear c1
  obtain⟨t2,A2,H⟩:=bnd H
  obtain⟨⟨t3,t4⟩,A3,H⟩:=bnd H
  dsimp only at H
  obtain⟨t5,A4,H⟩:=bnd H
  obtain⟨⟨t6,t7⟩,A5,H⟩:=bnd H
  dsimp only at H
  have HC2:=C H
  clear H
  go_enter Tryd.func4,Tryd.ntmps4
  go_upto_region 8 with(first|((with_reducible refine F (f:=11) rfl ?_);refine gl 11 (some 11) Tryd.func11 #[L A0 l0.length c0,V I 1048576] ?_;(with_reducible refine(laws_szActS.calls _ _ l0 1048576 t1 _ ?side1 ?side2 A1.out).mono ?_);(case side1=>exact uC HR1.out);(case side2=>exact HC1.out);rintro e w' ⟨rfl,⟨nd,rfl⟩⟩;refine⟨_,rfl,?_⟩)|((with_reducible refine F (f:=13) rfl ?_);refine gl 13 (some 16) Tryd.func13 #[L A0 l0.length c0] ?_;(with_reducible refine(laws_toActS.calls k _ _ l0 t2 _ ?side1 ?side2 A2.out).mono ?_);(case side1=>exact uC HR1.out);(case side2=>exact HC1.out);rintro e w1 ⟨v1,rfl,ho1,hb⟩;refine⟨_,rfl,?_⟩;have HO1:=lR ho1;replace HB:=eB hb;clear hb ho1;obtain⟨Ao1,co1,eo1⟩:=Kd.R_slice HO1.out;subst eo1)|((with_reducible refine F (f:=12) rfl ?_);refine gl 12 (some 17) Tryd.func12 #[L Ao1 t2.length co1] ?_;(with_reducible refine(spec_ScriptText.calls k _ _ t2 t3 t4 _ ?side1 ?side2 A3.out).mono ?_);(case side1=>exact uC (Kd.R_reads' HO1.out).2.2);(case side2=>exact(Kd.R_reads' HO1.out).2.1);rintro e w2 ⟨rfl,hb⟩;refine⟨_,rfl,?_⟩;replace HO1:=eR HO1 hb;replace HB:=eB hb;clear hb)|((with_reducible refine F (f:=13) rfl ?_);refine gl 13 (some 21) Tryd.func13 #[L A0 l0.length c0] ?_;(with_reducible refine(laws_toActS.calls k _ _ l0 t5 _ ?side1 ?side2 A4.out).mono ?_);(case side1=>exact uC (Kd.C_below HR1.out HB.out));(case side2=>exact HC1.out);rintro e w3 ⟨v2,rfl,ho1,hb⟩;refine⟨_,rfl,?_⟩;have HO2:=C (Kd.R_lower (Kd.R_new' ho1 (Kd.R_lt (uR HO1.out))) (below_size uB));replace HO1:=C (Kd.R_elder' (uR HO1.out) (Kd.R_base ho1) hb);replace HB:=eB hb;clear hb ho1;obtain⟨Ao2,co2,eo2⟩:=Kd.R_slice HO2.out;subst eo2)|((with_reducible refine F (f:=14) rfl ?_);refine gl 14 (some 24) Tryd.func14 #[L Ao2 t5.length co2] ?_;(with_reducible refine(impl_ScriptText.calls k _ _ t5 t6 t7 _ ?side1 ?side2 A5.out (Ito.on hTab.out uB)).mono ?_);(case side1=>exact uC (Kd.R_reads' HO2.out).2.2);(case side2=>exact(Kd.R_reads' HO2.out).2.1);rintro e w4 ⟨rfl,hb⟩;refine⟨_,rfl,?_⟩;replace HO1:=eR HO1 hb;replace HO2:=eR HO2 hb;replace HB:=eB hb;clear hb))
  (try simp only[Act.put,List.setIfInBounds_toArray,List.set_cons_zero,List.set_cons_succ])
  go_cut [34] (fun v34 wc=>∃(kq:Nat) (x1_7:Bool),v34=.bool x1_7∧D (laws_FnExactScriptText.j0 kq l0 t5 x1_7=some r)∧D (kq≤k)∧D (Kd.R k26 26 wc w.heap.size (fun _=>True) (L Ao2 t5.length co2) t5)∧D (Below w.heap.size w wc))
  case first=>
   have H:=HC2.out
   clear HC2
   by_cases c2:t6.toList=t3.toList
   ·rw[if_pos c2]at H
    have c2b0:(t6.toList==t3.toList)=true:=beq_iff_eq.mpr c2
    have c2b1:(t6.toList !=t3.toList)=false:=bne_eq_false_iff_eq.mpr c2
    clear c2
    (first|rw[c2b0]|(simp only[i64_w,i32_w];rw[c2b0])|skip)
    have H':=C H
    clear H
    exact laws_FnExactScriptText.W1
   ·rw[if_neg c2]at H
    have c2b0:(t6.toList==t3.toList)=false:=beq_eq_false_iff_ne.mpr c2
    have c2b1:(t6.toList !=t3.toList)=true:=bne_iff_ne.mpr c2
    (first|rw[c2b0]|(simp only[i64_w,i32_w];rw[c2b0])|skip)
    have H':=C H
    clear H
    exact laws_FnExactScriptText.W1
  case rest=>
   clear HC2
   obtain⟨kq,x1_7,rfl,HA,HJ1,HO_1,HB⟩:=hcut
   cases kq with
   |zero=>exact absurd HA.out (by simp[laws_FnExactScriptText.j0])
   |succ kj7=>
    have H:=HA.out
    clear HA
    simp only[laws_FnExactScriptText.j0]at H
    by_cases c2:x1_7=true
    ·subst c2
     rw[if_pos rfl]at H
     exact absurd (hT.out ▸ H) (by simp)
    ·replace c2:=Bool.eq_false_iff.mpr c2
     subst c2
     rw[if_neg Bool.false_ne_true]at H
     obtain⟨t8,A6,H⟩:=bnd H
     obtain⟨t9,A7,H⟩:=bnd H
     by_cases c3:t9=true
     ·subst c3
      rw[if_pos rfl]at H
      obtain rfl:=Option.some.inj H
      go_wp2_with (first|((with_reducible refine F (f:=13) rfl ?_);refine gl 13 (some 37) Tryd.func13 #[L A0 l0.length c0] ?_;(with_reducible refine(laws_toActS.calls kj7 _ _ l0 t8 _ ?side1 ?side2 A6.out).mono ?_);(case side1=>exact uC (Kd.C_below HR1.out HB.out));(case side2=>exact HC1.out);rintro e w5 ⟨v3,rfl,ho1,hb⟩;refine⟨_,rfl,?_⟩;have HO3:=C (Kd.R_lower (Kd.R_new' ho1 (Kd.R_lt (uR HO_1.out))) (below_size uB));replace HO_1:=C (Kd.R_elder' (uR HO_1.out) (Kd.R_base ho1) hb);replace HB:=eB hb;clear hb ho1;obtain⟨Ao3,co3,eo3⟩:=Kd.R_slice HO3.out;subst eo3)|((with_reducible refine F (f:=15) rfl ?_);refine gl 15 (some 38) Tryd.func15 #[L Ao2 t5.length co2,L Ao3 t8.length co3] ?_;(with_reducible refine(laws_eqActS.calls kj7 _ _ t5 _ _ t8 true _ ?side1 ?side2 ?side3 ?side4 A7.out).mono ?_);(case side1=>exact uC (Kd.R_reads' HO_1.out).2.2);(case side2=>exact(Kd.R_reads' HO_1.out).2.1);(case side3=>exact uC (Kd.R_reads' HO3.out).2.2);(case side4=>exact(Kd.R_reads' HO3.out).2.1);rintro e w6 ⟨rfl,hb⟩;refine⟨_,rfl,?_⟩;replace HO_1:=eR HO_1 hb;replace HO3:=eR HO3 hb;replace HB:=eB hb;clear hb))
      go_ret
      exact⟨rE,uB⟩
     ·replace c3:=Bool.eq_false_iff.mpr c3
      subst c3
      rw[if_neg Bool.false_ne_true]at H
      exact absurd (hT.out ▸ H) (by simp)
end Go.Proofs.YtblceimapaenlaaDoor.PFnExactScriptText
