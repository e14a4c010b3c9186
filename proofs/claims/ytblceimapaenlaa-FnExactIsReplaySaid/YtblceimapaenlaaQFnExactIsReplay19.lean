/- FnExactIsReplay: the functions that the law reaches, each as a plain Lean function, and that a call does what it says. Made by a program of this work (wip/mp.py) out of the kit's print. No condition. -/
import Derived.Test.YtblceimapaenlaaQFnExactIsReplay0
import Derived.Test.YtblceimapaenlaaQFnExactIsReplay12
import Derived.Test.YtblceimapaenlaaQFnExactIsReplay18
namespace Go.Proofs.Ytblceimapaenlaa.PFnExactIsReplay
open Go.RowKit Go.Proofs.YtblceimapaenlaaW.PrintWords Go.Proofs.YtblceimapaenlaaW.PrintLast Go.Proofs.YtblceimapaenlaaW.PrintMore
open Fix (bK bnd d14 d4 dB eB eK eQ eR fR gE gl gs hi hx lR nG nL nu oL ou pu rE rS tu uB uC uR)
open Go.Value renaming int→V,slice→L,bool→O,agg→G
open Go.IntKind renaming i64→I
open Go.Proofs.YtblceimapaenlaaW.PrintWords.Aside0 renaming mk→C
open Go.Proofs.YtblceimapaenlaaW.PrintWords renaming Aside0→D
open Go.World renaming block_lt_of_cell?→E
attribute [local go_sem] max2_int min2_int max_two min_two max_three min_three max_four min_four
attribute [local go_sem] Fix.isSome_setCell
set_option linter.unusedVariables false
set_option linter.unusedSimpArgs false
def spec_l39Ints.l0:Nat→List Int→List Int→Int→Option (Bool)
 |0,_,_,_=>none
 |k+1,x0,x1,x5=>if x5<(x0.length:Int) then(if 0≤x5 then(if x5<(x1.length:Int) then(if(rd x0 x5)=(rd x1 x5) then(spec_l39Ints.l0 k x0 x1 (wrap64 (x5+1))) else(some false)) else(none)) else(none)) else(some true)
def spec_l39Ints.f (k:Nat) (l0:List Int) (l1:List Int):Option (Bool):=if(l0.length:Int)=(l1.length:Int) then(spec_l39Ints.l0 k l0 l1 0) else(some false)
theorem spec_l39Ints.mono_l:∀k,(∀y0 y1 y2,LeO (spec_l39Ints.l0 k y0 y1 y2) (spec_l39Ints.l0 (k+1) y0 y1 y2))
 |0=>fun _ _ _ r h=>by simp[spec_l39Ints.l0]at h
 |k+1=>by
  have ih0:=spec_l39Ints.mono_l k
  ·intro y0 y1 y2
   unfold spec_l39Ints.l0
   repeat' first|(with_reducible first|apply ih0|exact LeO.refl _|exact LeO.none _|refine LeO.ite ?_ ?_|refine LeO.bind ?_ (fun _=> ?_))|apply ih0|exact LeO.none _|refine LeO.ite ?_ ?_|refine LeO.bind ?_ (fun _=> ?_)
theorem spec_l39Ints.mono:∀a0 a1 k,LeO (spec_l39Ints.f k a0 a1) (spec_l39Ints.f (k+1) a0 a1):=by
 intro a0 a1 k
 have ih0:=spec_l39Ints.mono_l k
 unfold spec_l39Ints.f
 repeat' first|(with_reducible first|apply ih0|exact LeO.refl _|exact LeO.none _|refine LeO.ite ?_ ?_|refine LeO.bind ?_ (fun _=> ?_))|apply ih0|exact LeO.none _|refine LeO.ite ?_ ?_|refine LeO.bind ?_ (fun _=> ?_)
theorem spec_l39Ints.W1 {p:Prop} (h:p:=by
  go_wp2
  repeat(go_quiet (fail);try go_wp2)
  go_ret
  exact⟨by first|rfl|(simp;done)|(simp[*];done),by repeat(first|exact Drawn0.refl _|apply Drawn0.step)⟩):p:=h
set_option maxHeartbeats 40000000 in
set_option maxRecDepth 100000 in
theorem spec_l39Ints.calls (k:Nat) (A0:Option Addr) (c0:Nat) (l0:List Int) (A1:Option Addr) (c1:Nat) (l1:List Int) (r:Bool) (w:World) (hr0:Kd.C (Kd.int .i64) w A0 l0.length l0) (hc0:l0.length≤c0) (hr1:Kd.C (Kd.int .i64) w A1 l1.length l1) (hc1:l1.length≤c1) (h:spec_l39Ints.f k l0 l1=some r):
  Calls Try.prog 81 #[L A0 l0.length c0,L A1 l1.length c1] w fun e w'=>e=.returned (O r)∧Drawn0 w w':=by
 have HR1:=C hr0
 have HC1:=C hc0
 (try clear hr0);(try clear hc0)
 have HR2:=C hr1
 have HC2:=C hc1
 (try clear hr1);(try clear hc1)
 have H:=h
 unfold spec_l39Ints.f at H
 clear h
 by_cases c1:(l0.length:Int)=(l1.length:Int)
 ·rw[if_pos c1]at H
  have c1b0:((l0.length:Int)==(l1.length:Int))=true:=beq_iff_eq.mpr c1
  have c1b1:((l0.length:Int) !=(l1.length:Int))=false:=bne_eq_false_iff_eq.mpr c1
  have c1b2:(l0.length==l1.length)=true:=by first|simpa using c1|(simp at c1 ⊢;omega)
  clear c1
  have H':=C H
  clear H
  go_enter Try.func81,Try.ntmps81
  go_wp2
  repeat(go_quiet (fail);try go_wp2)
  go_loopg [5] k (fun kq v5 w'=>∃(x1_1:Int),v5=V I x1_1∧D (spec_l39Ints.l0 kq l0 l1 x1_1=some r)∧D (kq≤k)∧Drawn0 w w')
  case atStart=>exact⟨(0),rS,H',⟨Nat.le_refl _⟩,by repeat(first|exact Drawn0.refl _|apply Drawn0.step)⟩
  case round=>
   clear H'
   obtain⟨x1_1,rfl,HA,HK1,⟨m1,rfl⟩⟩:=hrel
   cases gk with
   |zero=>exact absurd HA.out (by simp[spec_l39Ints.l0])
   |succ k1=>
    have H:=HA.out
    clear HA
    simp only[spec_l39Ints.l0]at H
    by_cases c2:x1_1<(l0.length:Int)
    ·rw[if_pos c2]at H
     have c2b0:decide (x1_1<(l0.length:Int))=true:=decide_eq_true c2
     clear c2
     by_cases c3:0≤x1_1
     ·rw[if_pos c3]at H
      have c3b0:decide (0≤x1_1)=true:=decide_eq_true c3
      clear c3
      by_cases c4:x1_1<(l1.length:Int)
      ·rw[if_pos c4]at H
       have c4b0:decide (x1_1<(l1.length:Int))=true:=decide_eq_true c4
       clear c4
       by_cases c5:(rd l0 x1_1)=(rd l1 x1_1)
       ·rw[if_pos c5]at H
        have c5b0:((rd l0 x1_1)==(rd l1 x1_1))=true:=beq_iff_eq.mpr c5
        have c5b1:((rd l0 x1_1) !=(rd l1 x1_1))=false:=bne_eq_false_iff_eq.mpr c5
        clear c5
        have H':=C H
        clear H
        have p1:0≤(x1_1:Int):=of_decide_eq_true (by first|(with_reducible assumption)|assumption)
        have q1:x1_1<(l0.length:Int):=of_decide_eq_true (by first|(with_reducible assumption)|assumption)
        obtain⟨ad1,e1,hx1_0⟩:=Kd.at_int HR1.out x1_1 p1 q1
        cases e1
        replace p1:=eq_true p1
        replace q1:=eq_true q1
        have p2:0≤(x1_1:Int):=of_decide_eq_true (by first|(with_reducible assumption)|assumption)
        have q2:x1_1<(l1.length:Int):=of_decide_eq_true (by first|(with_reducible assumption)|assumption)
        obtain⟨ad2,e2,hx2_0⟩:=Kd.at_int HR2.out x1_1 p2 q2
        cases e2
        replace p2:=eq_true p2
        replace q2:=eq_true q2
        go_wp2
        repeat(go_quiet (fail);try go_wp2)
        go_roundg k1
        case measure=>have:=HK1.out;omega
        case rel=>exact⟨(wrap64 (x1_1+1)),rS,H',⟨by have:=HK1.out;omega⟩,by repeat(first|exact Drawn0.refl _|apply Drawn0.step)⟩
       ·rw[if_neg c5]at H
        have c5b0:((rd l0 x1_1)==(rd l1 x1_1))=false:=beq_eq_false_iff_ne.mpr c5
        have c5b1:((rd l0 x1_1) !=(rd l1 x1_1))=true:=bne_iff_ne.mpr c5
        obtain rfl:=Option.some.inj H
        have p1:0≤(x1_1:Int):=of_decide_eq_true (by first|(with_reducible assumption)|assumption)
        have q1:x1_1<(l0.length:Int):=of_decide_eq_true (by first|(with_reducible assumption)|assumption)
        obtain⟨ad1,e1,hx1_0⟩:=Kd.at_int HR1.out x1_1 p1 q1
        cases e1
        replace p1:=eq_true p1
        replace q1:=eq_true q1
        have p2:0≤(x1_1:Int):=of_decide_eq_true (by first|(with_reducible assumption)|assumption)
        have q2:x1_1<(l1.length:Int):=of_decide_eq_true (by first|(with_reducible assumption)|assumption)
        obtain⟨ad2,e2,hx2_0⟩:=Kd.at_int HR2.out x1_1 p2 q2
        cases e2
        replace p2:=eq_true p2
        replace q2:=eq_true q2
        exact spec_l39Ints.W1
      ·rw[if_neg c4]at H
       exact absurd H (by simp)
     ·rw[if_neg c3]at H
      exact absurd H (by simp)
    ·rw[if_neg c2]at H
     have c2b0:decide (x1_1<(l0.length:Int))=false:=decide_eq_false c2
     clear c2
     obtain rfl:=Option.some.inj H
     exact spec_l39Ints.W1
 ·rw[if_neg c1]at H
  have c1b0:((l0.length:Int)==(l1.length:Int))=false:=beq_eq_false_iff_ne.mpr c1
  have c1b1:((l0.length:Int) !=(l1.length:Int))=true:=bne_iff_ne.mpr c1
  have c1b2:(l0.length==l1.length)=false:=by first|simpa using c1|(simp at c1 ⊢;omega)
  obtain rfl:=Option.some.inj H
  go_enter Try.func81,Try.ntmps81
  go_wp2
  repeat(go_quiet (fail);try go_wp2)
  go_ret
  exact⟨by first|rfl|(simp;done)|(simp[*];done),by repeat(first|exact Drawn0.refl _|apply Drawn0.step)⟩
def spec_IsReplay.j0:Nat→List (S53)→List Int→Bool→List (S33)→Int→Int→Int→Bool→Int→Bool→Int→Int→List Int→List Int→Int→Bool→Int→Option (Bool)
 |0,_,_,_,_,_,_,_,_,_,_,_,_,_,_,_,_,_=>none
 |k+1,x1,x2,x16,x933000,x933001,x933002,x933003,x933004,x933005,x933006,x933007,x933008,x933009,x933010,x933011,x933012,x933013=>if x16=true then(some false) else((spec_RunActs.f k x933000 x933001 x933002 x933003 x933004 x933005 x933006 x933007 x933008 x933009 x933010 x933011 x933012 x933013 x1).bind fun bt934=>((spec_l39Ints.f k bt934.2.2.2.2.2.2.2.2.2.2.2.2.2.2 x2).bind fun t958=>(some t958)))
def spec_IsReplay.f (k:Nat) (l0_0:List (S33)) (a0_1:Int) (a0_2:Int) (a0_3:Int) (a0_4:Bool) (a0_5:Int) (a0_6:Bool) (a0_7:Int) (a0_8:Int) (l0_9:List Int) (l0_10:List Int) (a0_11:Int) (a0_12:Bool) (a0_13:Int) (l1:List (S53)) (l2:List Int):Option (Bool):=(spec_MachineOk.f k l0_0 a0_1 a0_2 a0_3 a0_4 a0_5 a0_6 a0_7 a0_8 l0_9 l0_10 a0_11 a0_12 a0_13).bind fun t933=>(if t933=true then(spec_IsReplay.j0 k l1 l2 (decide ((l1.length:Int) >40)) l0_0 a0_1 a0_2 a0_3 a0_4 a0_5 a0_6 a0_7 a0_8 l0_9 l0_10 a0_11 a0_12 a0_13) else(spec_IsReplay.j0 k l1 l2 true l0_0 a0_1 a0_2 a0_3 a0_4 a0_5 a0_6 a0_7 a0_8 l0_9 l0_10 a0_11 a0_12 a0_13))
theorem spec_IsReplay.mono_l:∀k,(∀y0 y1 y2 y3 y4 y5 y6 y7 y8 y9 y10 y11 y12 y13 y14 y15 y16,LeO (spec_IsReplay.j0 k y0 y1 y2 y3 y4 y5 y6 y7 y8 y9 y10 y11 y12 y13 y14 y15 y16) (spec_IsReplay.j0 (k+1) y0 y1 y2 y3 y4 y5 y6 y7 y8 y9 y10 y11 y12 y13 y14 y15 y16))
 |0=>fun _ _ _ _ _ _ _ _ _ _ _ _ _ _ _ _ _ r h=>by simp[spec_IsReplay.j0]at h
 |k+1=>by
  have ih0:=spec_IsReplay.mono_l k
  ·intro y0 y1 y2 y3 y4 y5 y6 y7 y8 y9 y10 y11 y12 y13 y14 y15 y16
   unfold spec_IsReplay.j0
   repeat' first|(with_reducible first|apply ih0|apply spec_MachineOk.mono|apply spec_RunActs.mono|apply spec_l39Ints.mono|exact LeO.refl _|exact LeO.none _|refine LeO.ite ?_ ?_|refine LeO.bind ?_ (fun _=> ?_))|apply ih0|exact LeO.none _|refine LeO.ite ?_ ?_|refine LeO.bind ?_ (fun _=> ?_)
theorem spec_IsReplay.mono:∀a0 a1 a2 a3 a4 a5 a6 a7 a8 a9 a10 a11 a12 a13 a14 a15 k,LeO (spec_IsReplay.f k a0 a1 a2 a3 a4 a5 a6 a7 a8 a9 a10 a11 a12 a13 a14 a15) (spec_IsReplay.f (k+1) a0 a1 a2 a3 a4 a5 a6 a7 a8 a9 a10 a11 a12 a13 a14 a15):=by
 intro a0 a1 a2 a3 a4 a5 a6 a7 a8 a9 a10 a11 a12 a13 a14 a15 k
 have ih0:=spec_IsReplay.mono_l k
 unfold spec_IsReplay.f
 repeat' first|(with_reducible first|apply ih0|apply spec_MachineOk.mono|apply spec_RunActs.mono|apply spec_l39Ints.mono|exact LeO.refl _|exact LeO.none _|refine LeO.ite ?_ ?_|refine LeO.bind ?_ (fun _=> ?_))|apply ih0|exact LeO.none _|refine LeO.ite ?_ ?_|refine LeO.bind ?_ (fun _=> ?_)
set_option maxHeartbeats 40000000 in
set_option maxRecDepth 100000 in
theorem spec_IsReplay.calls (k:Nat) (A0_0:Option Addr) (c0_0:Nat) (l0_0:List (S33)) (a0_1:Int) (a0_2:Int) (a0_3:Int) (a0_4:Bool) (a0_5:Int) (a0_6:Bool) (a0_7:Int) (a0_8:Int) (A0_9:Option Addr) (c0_9:Nat) (l0_9:List Int) (A0_10:Option Addr) (c0_10:Nat) (l0_10:List Int) (a0_11:Int) (a0_12:Bool) (a0_13:Int) (A1:Option Addr) (c1:Nat) (l1:List (S53)) (A2:Option Addr) (c2:Nat) (l2:List Int) (r:Bool) (w:World) (hr0_0:Kd.C k33 w A0_0 l0_0.length l0_0) (hc0_0:l0_0.length≤c0_0) (hr0_9:Kd.C (Kd.int .i64) w A0_9 l0_9.length l0_9) (hc0_9:l0_9.length≤c0_9) (hr0_10:Kd.C (Kd.int .i64) w A0_10 l0_10.length l0_10) (hc0_10:l0_10.length≤c0_10) (hr1:Kd.C k53 w A1 l1.length l1) (hc1:l1.length≤c1) (hr2:Kd.C (Kd.int .i64) w A2 l2.length l2) (hc2:l2.length≤c2) (h:spec_IsReplay.f k l0_0 a0_1 a0_2 a0_3 a0_4 a0_5 a0_6 a0_7 a0_8 l0_9 l0_10 a0_11 a0_12 a0_13 l1 l2=some r):
  Calls Try.prog 25 #[G #[L A0_0 l0_0.length c0_0,V I a0_1,V I a0_2,V I a0_3,O a0_4,V I a0_5,O a0_6,V I a0_7,V I a0_8,L A0_9 l0_9.length c0_9,L A0_10 l0_10.length c0_10,V I a0_11,O a0_12,V I a0_13],L A1 l1.length c1,L A2 l2.length c2] w fun e w'=>e=.returned (O r)∧Below w.heap.size w w':=by
 have hu1:=Try.underlying36
 have HR1_0:=C hr0_0
 have HC1_0:=C hc0_0
 (try clear hr0_0);(try clear hc0_0)
 have HR1_9:=C hr0_9
 have HC1_9:=C hc0_9
 (try clear hr0_9);(try clear hc0_9)
 have HR1_10:=C hr0_10
 have HC1_10:=C hc0_10
 (try clear hr0_10);(try clear hc0_10)
 have HR2:=C hr1
 have HC2:=C hc1
 (try clear hr1);(try clear hc1)
 have HR3:=C hr2
 have HC3:=C hc2
 (try clear hr2);(try clear hc2)
 have HB:=C (Below.refl w.heap.size w)
 have H:=h
 unfold spec_IsReplay.f at H
 clear h
 have HC4:=C H
 clear H
 go_enter Try.func25,Try.ntmps25
 go_upto_region 1 with(first|((with_reducible refine gate_dst (N:=3) rfl ?_);(try(refine gate_guard (by rfl) ?_;dsimp only));refine Fix.be 3 #[L A0_0 l0_0.length c0_0,V I a0_1,V I a0_2,V I a0_3,O a0_4,V I a0_5,O a0_6,V I a0_7,V I a0_8,L A0_9 l0_9.length c0_9,L A0_10 l0_10.length c0_10,V I a0_11,O a0_12,V I a0_13] 36 ?_;intro gb1 hg w1 BK1 hb;have GW1:D (w.heap.size≤gb1):=gE hg;have GE1:=GW1;replace HB:=eB hb;clear hb hg))
 (try simp only[Act.put,List.setIfInBounds_toArray,List.set_cons_zero,List.set_cons_succ])
 go_cut [16] (fun v16 wc=>∃(kq:Nat) (x1_3:Bool),v16=O x1_3∧D (spec_IsReplay.j0 kq l1 l2 x1_3 l0_0 a0_1 a0_2 a0_3 a0_4 a0_5 a0_6 a0_7 a0_8 l0_9 l0_10 a0_11 a0_12 a0_13=some r)∧D (kq≤k)∧D (wc.heap[gb1]? =some (.cells #[(L A0_0 l0_0.length c0_0),V I a0_1,V I a0_2,V I a0_3,O a0_4,V I a0_5,O a0_6,V I a0_7,V I a0_8,(L A0_9 l0_9.length c0_9),(L A0_10 l0_10.length c0_10),V I a0_11,O a0_12,V I a0_13] 36 (0,0)))∧D (Below w.heap.size w wc))
 case first=>
  have H:=HC4.out
  clear HC4
  obtain⟨t1,A3,H⟩:=bnd H
  by_cases c3:t1=true
  ·subst c3
   rw[if_pos rfl]at H
   have H':=C H
   clear H
   have h_:=d14 BK1.out;(repeat(obtain⟨_,h_⟩:=h_))
   go_wp2_with (first|((with_reducible refine gate_callee (f:=10) rfl ?_);refine gl 10 (some 10) Try.func10 #[G #[L A0_0 l0_0.length c0_0,V I a0_1,V I a0_2,V I a0_3,O a0_4,V I a0_5,O a0_6,V I a0_7,V I a0_8,L A0_9 l0_9.length c0_9,L A0_10 l0_10.length c0_10,V I a0_11,O a0_12,V I a0_13]] ?_;(with_reducible refine(spec_MachineOk.calls k _ _ l0_0 a0_1 a0_2 a0_3 a0_4 a0_5 a0_6 a0_7 a0_8 _ _ l0_9 _ _ l0_10 a0_11 a0_12 a0_13 true _ ?side1 ?side2 ?side3 ?side4 ?side5 ?side6 A3.out).mono ?_);(case side1=>exact uC (Kd.C_below HR1_0.out HB.out));(case side2=>exact HC1_0.out);(case side3=>exact uC (Kd.C_below HR1_9.out HB.out));(case side4=>exact HC1_9.out);(case side5=>exact uC (Kd.C_below HR1_10.out HB.out));(case side6=>exact HC1_10.out);rintro e w2 ⟨rfl,hb⟩;refine⟨_,rfl,?_⟩;replace BK1:=eK BK1 hb;replace HB:=eB hb;clear hb))
   go_meet
   case rel=>exact⟨_,(decide ((l1.length:Int) >40)),rS,H',⟨oL⟩,⟨bK BK1.out⟩,⟨uB⟩⟩
  ·replace c3:=Bool.eq_false_iff.mpr c3
   subst c3
   rw[if_neg Bool.false_ne_true]at H
   have H':=C H
   clear H
   obtain⟨hcz1_0,hcz1_1,hcz1_2,hcz1_3,hcz1_4,hcz1_5,hcz1_6,hcz1_7,hcz1_8,hcz1_9,hcz1_10,hcz1_11,hcz1_12,hcz1_13,hfz1_0,hfz1_1,hfz1_2,hfz1_3,hfz1_4,hfz1_5,hfz1_6,hfz1_7,hfz1_8,hfz1_9,hfz1_10,hfz1_11,hfz1_12,hfz1_13⟩:=d14 BK1.out
   go_wp2_with (first|((with_reducible refine gate_callee (f:=10) rfl ?_);refine gl 10 (some 10) Try.func10 #[G #[L A0_0 l0_0.length c0_0,V I a0_1,V I a0_2,V I a0_3,O a0_4,V I a0_5,O a0_6,V I a0_7,V I a0_8,L A0_9 l0_9.length c0_9,L A0_10 l0_10.length c0_10,V I a0_11,O a0_12,V I a0_13]] ?_;(with_reducible refine(spec_MachineOk.calls k _ _ l0_0 a0_1 a0_2 a0_3 a0_4 a0_5 a0_6 a0_7 a0_8 _ _ l0_9 _ _ l0_10 a0_11 a0_12 a0_13 false _ ?side1 ?side2 ?side3 ?side4 ?side5 ?side6 A3.out).mono ?_);(case side1=>exact uC (Kd.C_below HR1_0.out HB.out));(case side2=>exact HC1_0.out);(case side3=>exact uC (Kd.C_below HR1_9.out HB.out));(case side4=>exact HC1_9.out);(case side5=>exact uC (Kd.C_below HR1_10.out HB.out));(case side6=>exact HC1_10.out);rintro e w2 ⟨rfl,hb⟩;refine⟨_,rfl,?_⟩;replace BK1:=eK BK1 hb;replace HB:=eB hb;clear hb))
   go_meet
   case rel=>exact⟨_,(true),rS,H',⟨oL⟩,⟨bK BK1.out⟩,⟨uB⟩⟩
 case rest=>
  clear HC4
  obtain⟨kq,x1_3,rfl,HA,HJ1,BK1,HB⟩:=hcut
  cases kq with
  |zero=>exact absurd HA.out (by simp[spec_IsReplay.j0])
  |succ kj3=>
   have H:=HA.out
   clear HA
   simp only[spec_IsReplay.j0]at H
   by_cases c3:x1_3=true
   ·subst c3
    rw[if_pos rfl]at H
    obtain rfl:=Option.some.inj H
    go_wp2
    go_ret
    exact⟨rE,uB⟩
   ·replace c3:=Bool.eq_false_iff.mpr c3
    subst c3
    rw[if_neg Bool.false_ne_true]at H
    obtain⟨⟨t1,t2,t3,t4,t5,t6,t7,t8,t9,t10,t11,t12,t13,t14,t15⟩,A3,H⟩:=bnd H
    dsimp only at H
    obtain⟨t16,A4,H⟩:=bnd H
    obtain rfl:=Option.some.inj H
    obtain⟨hcz1_0,hcz1_1,hcz1_2,hcz1_3,hcz1_4,hcz1_5,hcz1_6,hcz1_7,hcz1_8,hcz1_9,hcz1_10,hcz1_11,hcz1_12,hcz1_13,hfz1_0,hfz1_1,hfz1_2,hfz1_3,hfz1_4,hfz1_5,hfz1_6,hfz1_7,hfz1_8,hfz1_9,hfz1_10,hfz1_11,hfz1_12,hfz1_13⟩:=d14 BK1.out
    go_wp2_with (first|((with_reducible refine gate_callee (f:=30) rfl ?_);refine gl 30 (some 20) Try.func30 #[G #[L A0_0 l0_0.length c0_0,V I a0_1,V I a0_2,V I a0_3,O a0_4,V I a0_5,O a0_6,V I a0_7,V I a0_8,L A0_9 l0_9.length c0_9,L A0_10 l0_10.length c0_10,V I a0_11,O a0_12,V I a0_13],L A1 l1.length c1] ?_;(with_reducible refine(spec_RunActs.calls kj3 _ _ l0_0 a0_1 a0_2 a0_3 a0_4 a0_5 a0_6 a0_7 a0_8 _ _ l0_9 _ _ l0_10 a0_11 a0_12 a0_13 _ _ l1 t1 t2 t3 t4 t5 t6 t7 t8 t9 t10 t11 t12 t13 t14 t15 _ ?side1 ?side2 ?side3 ?side4 ?side5 ?side6 ?side7 ?side8 A3.out).mono ?_);(case side1=>exact uC (Kd.C_below HR1_0.out HB.out));(case side2=>exact HC1_0.out);(case side3=>exact uC (Kd.C_below HR1_9.out HB.out));(case side4=>exact HC1_9.out);(case side5=>exact uC (Kd.C_below HR1_10.out HB.out));(case side6=>exact HC1_10.out);(case side7=>exact uC (Kd.C_below HR2.out HB.out));(case side8=>exact HC2.out);rintro e w2 ⟨v1,v2,v3,v4,rfl,ho1,ho2,ho3,ho4,hb⟩;refine⟨_,rfl,?_⟩;have HO1:=lR ho1;have HO2:=C (Kd.Q_lower ho2 (below_size uB));have HO3:=lR ho3;have HO4:=lR ho4;replace BK1:=eK BK1 hb;replace HB:=eB hb;clear hb ho1 ho2 ho3 ho4)|((with_reducible refine gate_dst (N:=7) rfl ?_);(try(refine gate_guard (by rfl) ?_;dsimp only));refine Fix.be 7 #[L none 0 0,V I 0,V I 0,V I 0,O false,V I 0,O false,V I 0,V I 0,L none 0 0,L none 0 0,V I 0,O false,V I 0] 36 ?_;intro gb2 hg w3 BK2 hb;have GW2:D (w.heap.size≤gb2):=gE hg;have GE2:=GW2;have NB1_957:=nL hg BK1;have NB2_932:=nG hg BK1;replace HO1:=eR HO1 hb;replace HO2:=eQ HO2 hb;replace HO3:=eR HO3 hb;replace HO4:=eR HO4 hb;replace BK1:=eK BK1 hb;replace HB:=eB hb;clear hb hg;obtain⟨Ao1,co1,eo1⟩:=Kd.R_slice HO1.out;subst eo1;have hnb1:=NB2_932.out;have hnc1:=NB1_957.out;obtain⟨hcz2_0,hcz2_1,hcz2_2,hcz2_3,hcz2_4,hcz2_5,hcz2_6,hcz2_7,hcz2_8,hcz2_9,hcz2_10,hcz2_11,hcz2_12,hcz2_13,hfz2_0,hfz2_1,hfz2_2,hfz2_3,hfz2_4,hfz2_5,hfz2_6,hfz2_7,hfz2_8,hfz2_9,hfz2_10,hfz2_11,hfz2_12,hfz2_13⟩:=d14 BK2.out;obtain⟨Ao2,co2,eo2,_⟩:=Kd.Q_slice HO2.out;subst eo2;obtain⟨Ao3,co3,eo3⟩:=Kd.R_slice HO3.out;subst eo3;obtain⟨Ao4,co4,eo4⟩:=Kd.R_slice HO4.out;subst eo4)|((with_reducible refine gate_callee (f:=81) rfl ?_);refine gl 81 (some 25) Try.func81 #[L Ao4 t15.length co4,L A2 l2.length c2] ?_;(with_reducible refine(spec_l39Ints.calls kj3 _ _ t15 _ _ l2 t16 _ ?side1 ?side2 ?side3 ?side4 A4.out).mono ?_);(case side1=>refine(Kd.R_reads' (e:=3) (base:=w.heap.size) (ok:=fun k_=>(some k_≠(L Ao2 t10.length co2:Value).ownBlock∧some k_≠(L Ao3 t11.length co3:Value).ownBlock)) (n:=t15.length) (c:=co4) ?_).2.2;exact(Kd.R_mono (fR (Kd.R_types HO4.out BK2.out (by decide))) (fun _ h_=>h_.1)));(case side2=>exact(Kd.R_reads' HO4.out).2.1);(case side3=>exact Kd.C_below HR3.out uB);(case side4=>exact HC3.out);rintro e w' ⟨rfl,⟨nd,rfl⟩⟩;refine⟨_,rfl,?_⟩))
    go_ret
    exact⟨rE,uB⟩
def laws_toAct.f (a0_0:Int) (a0_1:Int) (a0_2:Int) (a0_3:Int):Option (Int×Int×Int×Int):=some (a0_0,a0_1,a0_2,a0_3)
set_option maxHeartbeats 40000000 in
set_option maxRecDepth 100000 in
theorem laws_toAct.calls (a0_0:Int) (a0_1:Int) (a0_2:Int) (a0_3:Int) (r1:Int) (r2:Int) (r3:Int) (r4:Int) (w:World) (h:laws_toAct.f a0_0 a0_1 a0_2 a0_3=some (r1,r2,r3,r4)):
  Calls Try.prog 20 #[G #[V I a0_0,V I a0_1,V I a0_2,V I a0_3]] w fun e w'=>e=.returned (G #[V I r1,V I r2,V I r3,V I r4])∧Below w.heap.size w w':=by
 have hu1:=Try.underlying50
 have hu2:=Try.underlying53
 have HB:=C (Below.refl w.heap.size w)
 have H:=h
 unfold laws_toAct.f at H
 clear h
 simp only[Option.some.injEq,Prod.mk.injEq]at H
 obtain⟨rfl,rfl,rfl,rfl⟩:=H
 go_enter Try.func20,Try.ntmps20
 go_wp2_with (first|((with_reducible refine gate_dst (N:=1) rfl ?_);refine Fix.be 1 #[V I a0_0,V I a0_1,V I a0_2,V I a0_3] 50 ?_;intro gb1 hg w1 BK1 hb;have GW1:D (w.heap.size≤gb1):=gE hg;have GE1:=GW1;replace HB:=eB hb;clear hb hg)|((with_reducible refine gate_dst (N:=2) rfl ?_);refine Fix.be 2 #[V I 0,V I 0,V I 0,V I 0] 53 ?_;intro gb2 hg w2 BK2 hb;have GW2:D (w.heap.size≤gb2):=gE hg;have GE2:=GW2;have NB1_960:=nL hg BK1;have NB2_959:=nG hg BK1;replace BK1:=eK BK1 hb;replace HB:=eB hb;clear hb hg)|((with_reducible refine gate_dst (N:=3) rfl ?_);refine Fix.be 3 #[V I 0,V I 0,V I 0,V I 0] 53 ?_;intro gb3 hg w3 BK3 hb;have GW3:D (w.heap.size≤gb3):=gE hg;have GE3:=GW3;have NB1_961:=nL hg BK1;have NB3_959:=nG hg BK1;have NB2_961:=nL hg BK2;have NB3_960:=nG hg BK2;replace BK1:=eK BK1 hb;replace BK2:=eK BK2 hb;replace HB:=eB hb;clear hb hg;have hnb1:=NB1_960.out;have hnc1:=NB2_959.out;have hnb2:=NB1_961.out;have hnc2:=NB3_959.out;have h_:=d4 BK1.out;(repeat(obtain⟨_,h_⟩:=h_));have hnb3:=NB3_960.out;have hnc3:=NB2_961.out;have h_:=d4 BK3.out;(repeat(obtain⟨_,h_⟩:=h_));obtain⟨hcz1_0,hcz1_1,hcz1_2,hcz1_3,hfz1_0,hfz1_1,hfz1_2,hfz1_3⟩:=d4 BK2.out))
 refine bodyPost_ret (results_cell_row rfl _ _ gb2 53 #[V I a0_0,V I a0_1,V I a0_2,V I a0_3] (0,0) _ rfl (bK BK2.out) Try.underlying53 rfl (by kernel_rfl)) rfl ?_
 exact⟨rE,uB⟩
def laws_toActS.l0:Nat→List (S50)→List (S53)→Int→Option ((List (S53)))
 |0,_,_,_=>none
 |k+1,x0,x3,x4=>if x4<(x0.length:Int) then(if 0≤x4 then((laws_toAct.f ((rd_T50 x0 x4).f0) ((rd_T50 x0 x4).f1) ((rd_T50 x0 x4).f2) ((rd_T50 x0 x4).f3)).bind fun bt966=>(if x4<(x3.length:Int) then(laws_toActS.l0 k x0 (x3.set (x4:Int).toNat (⟨bt966.1,bt966.2.1,bt966.2.2.1,bt966.2.2.2⟩:S53)) (wrap64 (x4+1))) else(none))) else(none)) else(some x3)
def laws_toActS.f (k:Nat) (l0:List (S50)):Option ((List (S53))):=if 0≤(l0.length:Int) then(if((l0.length:Int):Int).toNat≤8796093022208 then(laws_toActS.l0 k l0 (List.replicate ((l0.length:Int):Int).toNat z53) 0) else(none)) else(none)
theorem laws_toActS.mono_l:∀k,(∀y0 y1 y2,LeO (laws_toActS.l0 k y0 y1 y2) (laws_toActS.l0 (k+1) y0 y1 y2))
 |0=>fun _ _ _ r h=>by simp[laws_toActS.l0]at h
 |k+1=>by
  have ih0:=laws_toActS.mono_l k
  ·intro y0 y1 y2
   unfold laws_toActS.l0
   repeat' first|(with_reducible first|apply ih0|exact LeO.refl _|exact LeO.none _|refine LeO.ite ?_ ?_|refine LeO.bind ?_ (fun _=> ?_))|apply ih0|exact LeO.none _|refine LeO.ite ?_ ?_|refine LeO.bind ?_ (fun _=> ?_)
theorem laws_toActS.mono:∀a0 k,LeO (laws_toActS.f k a0) (laws_toActS.f (k+1) a0):=by
 intro a0 k
 have ih0:=laws_toActS.mono_l k
 unfold laws_toActS.f
 repeat' first|(with_reducible first|apply ih0|exact LeO.refl _|exact LeO.none _|refine LeO.ite ?_ ?_|refine LeO.bind ?_ (fun _=> ?_))|apply ih0|exact LeO.none _|refine LeO.ite ?_ ?_|refine LeO.bind ?_ (fun _=> ?_)
set_option maxHeartbeats 40000000 in
set_option maxRecDepth 100000 in
theorem laws_toActS.calls (k:Nat) (A0:Option Addr) (c0:Nat) (l0:List (S50)) (r:List (S53)) (w:World) (hr0:Kd.C k50 w A0 l0.length l0) (hc0:l0.length≤c0) (h:laws_toActS.f k l0=some r):
  Calls Try.prog 26 #[L A0 l0.length c0] w fun e w'=>∃v0_:Value,e=.returned (v0_)∧Kd.R k53 53 w' w.heap.size (fun _=>True) v0_ r∧Below w.heap.size w w':=by
 have hu1:=Try.underlying50
 have hu2:=Try.underlying53
 have HR1:=C hr0
 have HC1:=C hc0
 (try clear hr0);(try clear hc0)
 have HB:=C (Below.refl w.heap.size w)
 have H:=h
 unfold laws_toActS.f at H
 clear h
 by_cases c1:0≤(l0.length:Int)
 ·rw[if_pos c1]at H
  have c1b0:=eq_true c1
  have c1b1:decide (0≤(l0.length:Int))=true:=decide_eq_true c1
  clear c1
  by_cases c2:((l0.length:Int):Int).toNat≤8796093022208
  ·rw[if_pos c2]at H
   have c2b0:=eq_true c2
   have c2b1:decide (((l0.length:Int):Int).toNat≤8796093022208)=true:=decide_eq_true c2
   clear c2
   obtain⟨y1,hy1⟩:∃y_:List (S53),y_=(List.replicate ((l0.length:Int):Int).toNat z53):=⟨_,rfl⟩
   replace H:(laws_toActS.l0 k l0 y1 0)=some r:=by first|(rw[hy1];with_reducible exact H)|(have H1_:=(Option.bind_some _ _).symm.trans H;rw[hy1];with_reducible exact H1_)|(have H1_:=(Option.bind_some _ _).symm.trans H;with_reducible exact H1_)|with_reducible exact H|(rw[hy1];exact H)|exact H
   have Ny1:=C hy1
   clear hy1
   have H':=C H
   clear H
   go_enter Try.func26,Try.ntmps26
   go_wp2_with (first|((with_reducible refine gate_dst (N:=7) rfl ?_);refine Kd.R_make k53 _ 53 rfl (N:=7) rfl 42 _ _ rfl (l0.length:Int) rfl rfl Try.underlying42 (G #[(V I 0),(V I 0),(V I 0),(V I 0)]) 32 info53 rfl (by decide) (by omega) z53 (ok:=fun _=>True) (okp:=fun _=>True) (k53_mkM _ _ _ z53 ) (fun _ hk=>hk) trivial (of_decide_eq_true (by first|(with_reducible assumption)|assumption)) (Nat.le_trans (Nat.mul_le_mul_right _ (of_decide_eq_true (by first|(with_reducible assumption)|assumption):(l0.length:Int).toNat≤8796093022208)) (by omega)) (Below.refl _ _) (Nat.le_refl _) ?_;intro v1 w2 ho1 hb hg_ hnew_;clear hg_ hnew_;(first|rw[←Ny1.out]at ho1|(simp only[Int.reduceToNat]at ho1;rw[←Ny1.out]at ho1));have HO1:=lR ho1;replace HB:=eB hb;clear hb ho1))
   go_loopg [4] k (fun kq v4 w'=>∃(x1_1:List (S53)) (x2_1:Int),v4=V I x2_1∧D (laws_toActS.l0 kq l0 x1_1 x2_1=some r)∧D (kq≤k)∧D (Kd.R k53 53 w' w.heap.size (fun _=>True) v1 x1_1)∧D (Below w.heap.size w w'))
   case atStart=>exact⟨(y1),(0),rS,H',⟨Nat.le_refl _⟩,⟨fR HO1.out⟩,⟨uB⟩⟩
   case round=>
    clear H'
    obtain⟨x1_1,x2_1,rfl,HA,HK1,HO_1,HB⟩:=hrel
    cases gk with
    |zero=>exact absurd HA.out (by simp[laws_toActS.l0])
    |succ k1=>
     have H:=HA.out
     clear HA
     simp only[laws_toActS.l0]at H
     by_cases c3:x2_1<(l0.length:Int)
     ·rw[if_pos c3]at H
      have c3b0:decide (x2_1<(l0.length:Int))=true:=decide_eq_true c3
      clear c3
      by_cases c4:0≤x2_1
      ·rw[if_pos c4]at H
       have c4b0:decide (0≤x2_1)=true:=decide_eq_true c4
       clear c4
       obtain⟨⟨t1,t2,t3,t4⟩,A1,H⟩:=bnd H
       dsimp only at H
       by_cases c5:x2_1<(x1_1.length:Int)
       ·rw[if_pos c5]at H
        have c5b0:decide (x2_1<(x1_1.length:Int))=true:=decide_eq_true c5
        clear c5
        obtain⟨y2,hy2⟩:∃y_:List (S53),y_=(x1_1.set (x2_1:Int).toNat (⟨t1,t2,t3,t4⟩:S53)):=⟨_,rfl⟩
        replace H:(laws_toActS.l0 k1 l0 y2 (wrap64 (x2_1+1)))=some r:=by first|(rw[hy2];with_reducible exact H)|(have H1_:=(Option.bind_some _ _).symm.trans H;rw[hy2];with_reducible exact H1_)|(have H1_:=(Option.bind_some _ _).symm.trans H;with_reducible exact H1_)|with_reducible exact H|(rw[hy2];exact H)|exact H
        have Ny2:=C hy2
        clear hy2
        have H':=C H
        clear H
        have p1:0≤(x2_1:Int):=of_decide_eq_true (by first|(with_reducible assumption)|assumption)
        have q1:x2_1<(l0.length:Int):=of_decide_eq_true (by first|(with_reducible assumption)|assumption)
        obtain⟨ad1,e1,hx1_0,hx1_1,hx1_2,hx1_3⟩:=at_T50 HR1.out x2_1 p1 q1
        cases e1
        replace hx1_0:=hx HB hx1_0
        replace hx1_1:=hx HB hx1_1
        replace hx1_2:=hx HB hx1_2
        replace hx1_3:=hx HB hx1_3
        replace p1:=eq_true p1
        replace q1:=eq_true q1
        go_wp2_with (first|((with_reducible refine gate_callee (f:=20) rfl ?_);refine gl 20 (some 20) Try.func20 #[G #[V I ((rd_T50 l0 x2_1).f0),V I ((rd_T50 l0 x2_1).f1),V I ((rd_T50 l0 x2_1).f2),V I ((rd_T50 l0 x2_1).f3)]] ?_;(with_reducible refine(laws_toAct.calls ((rd_T50 l0 x2_1).f0) ((rd_T50 l0 x2_1).f1) ((rd_T50 l0 x2_1).f2) ((rd_T50 l0 x2_1).f3) t1 t2 t3 t4 _ A1.out).mono ?_);rintro e w3 ⟨rfl,hb⟩;refine⟨_,rfl,?_⟩;replace HO_1:=eR HO_1 hb;replace HB:=eB hb;clear hb;have p2:0≤(x2_1:Int):=of_decide_eq_true (by first|(with_reducible assumption)|assumption);have q2:(x2_1:Int)<((x1_1.length:Int):Int):=of_decide_eq_true (by first|(with_reducible assumption)|assumption);obtain⟨go1,co1,eo1,gb1,gl1,cl1,HG1⟩:=Kd.R_form HO_1.out (by omega);(first|cases eo1|(injection eo1 with ea_ en_ ec_;(first|subst ea_|(injection ea_ with ea_;subst ea_));subst ec_;clear en_));have GB1:=C gb1;have GG1:=C HG1;clear gb1 gl1 HG1;obtain⟨ce1,hcl1,hM1,hcc1,hfr1⟩:=Kd.R_elem HO_1.out z53 (x2_1:Int) p2 q2;obtain rfl:=k53_openM hM1;have hx2_0:w3.cell? ⟨go1,(x2_1:Int).toNat * 4,none⟩=some (V I ((rd_T53 x1_1 x2_1).f0)):=hcc1 0 _ rfl;have hx2_1:w3.cell? ⟨go1,(x2_1:Int).toNat * 4+1,none⟩=some (V I ((rd_T53 x1_1 x2_1).f1)):=hcc1 1 _ rfl;have hx2_2:w3.cell? ⟨go1,(x2_1:Int).toNat * 4+2,none⟩=some (V I ((rd_T53 x1_1 x2_1).f2)):=hcc1 2 _ rfl;have hx2_3:w3.cell? ⟨go1,(x2_1:Int).toNat * 4+3,none⟩=some (V I ((rd_T53 x1_1 x2_1).f3)):=hcc1 3 _ rfl;have hf1_0:w3.frozen? ⟨go1,(x2_1:Int).toNat * 4,none⟩=false:=hfr1 0;have hf1_1:w3.frozen? ⟨go1,(x2_1:Int).toNat * 4+1,none⟩=false:=hfr1 1;have hf1_2:w3.frozen? ⟨go1,(x2_1:Int).toNat * 4+2,none⟩=false:=hfr1 2;have hf1_3:w3.frozen? ⟨go1,(x2_1:Int).toNat * 4+3,none⟩=false:=hfr1 3;(try clear hcl1);(try clear hcc1);(try clear hfr1);(try clear hM1);replace p2:=eq_true p2;replace q2:=eq_true q2;have HX1:=C (show Kd.R k53 53 w3 w.heap.size (fun _=>True) (L (some ⟨go1,0,none⟩) x1_1.length co1) x1_1 from(uR HO_1.out));obtain⟨ce2,hcl2,hM2,hcc2,hfr2⟩:=Kd.R_elem HX1.out z53 (x2_1:Int) (of_decide_eq_true (by first|(with_reducible assumption)|assumption)) (by have h_:(x2_1:Int)<((x1_1.length:Int):Int):=of_decide_eq_true (by first|(with_reducible assumption)|assumption);first|exact h_|(have e_:=(Kd.R_reads' HO_1.out).1;omega)|simpa using h_);obtain rfl:=k53_openM hM2;have HP1:=Kd.R_seg HX1.out (x2_1:Int) (of_decide_eq_true (by first|(with_reducible assumption)|assumption)) (by have h_:(x2_1:Int)<((x1_1.length:Int):Int):=of_decide_eq_true (by first|(with_reducible assumption)|assumption);first|exact h_|(have e_:=(Kd.R_reads' HO_1.out).1;omega)|simpa using h_) (seg:= [V I t1,V I t2,V I t3,V I t4]) (j:=0) hcl2 hcc2 (show 4≤4 from by decide) (x':=(⟨t1,t2,t3,t4⟩:S53)) (k53_mkM _ _ _ (⟨t1,t2,t3,t4⟩:S53)) (fun _ hk=>hk);have hx3_0:=hcc2 0 _ rfl;(try simp only[show(k53).sz=4 from rfl,Nat.mul_one,Nat.add_zero]at hx3_0);have hf2_0:=hfr2 0;(try simp only[show(k53).sz=4 from rfl,Nat.mul_one,Nat.add_zero]at hf2_0);have hx3_1:=hcc2 1 _ rfl;(try simp only[show(k53).sz=4 from rfl,Nat.mul_one,Nat.add_zero]at hx3_1);have hf2_1:=hfr2 1;(try simp only[show(k53).sz=4 from rfl,Nat.mul_one,Nat.add_zero]at hf2_1);have hx3_2:=hcc2 2 _ rfl;(try simp only[show(k53).sz=4 from rfl,Nat.mul_one,Nat.add_zero]at hx3_2);have hf2_2:=hfr2 2;(try simp only[show(k53).sz=4 from rfl,Nat.mul_one,Nat.add_zero]at hf2_2);have hx3_3:=hcc2 3 _ rfl;(try simp only[show(k53).sz=4 from rfl,Nat.mul_one,Nat.add_zero]at hx3_3);have hf2_3:=hfr2 3;(try simp only[show(k53).sz=4 from rfl,Nat.mul_one,Nat.add_zero]at hf2_3);(try clear hcl2);(try clear hcc2);(try clear hfr2);(try clear hM2))|((with_reducible refine gate_store (t:=53) (p:=21) rfl ?_);refine store_event (t:=53) (p:=21) (v:= ?vo_w1) (w1:=((((w3.setCell ⟨go1,(x2_1:Int).toNat * 4,none⟩ (V I t1)).setCell ⟨go1,(x2_1:Int).toNat * 4+1,none⟩ (V I t2)).setCell ⟨go1,(x2_1:Int).toNat * 4+2,none⟩ (V I t3)).setCell ⟨go1,(x2_1:Int).toNat * 4+3,none⟩ (V I t4))) ?hg ?ho ?hn ?hr ?_;(case ho=>rfl);(case hg=>rfl);(case hn=>rfl);(case hr=>exact Fix.hr);intro w4 hw;have hg:w3.grownBy w4 (some go1):=(by rw[hw];exact HP1.2);have hp_:Kd.R k53 53 w4 w.heap.size (fun _=>True) (L (some ⟨go1,0,none⟩) x1_1.length co1) y2:=(by rw[hw,Ny2.out];exact HP1.1);clear HP1;replace HO_1:=C (hp_);replace HB:=C ((by rw[hw];exact below_set (below_set (below_set (below_set (HB.out) GB1.out) GB1.out) GB1.out) GB1.out:Below w.heap.size w w4));clear hg hw hp_))
        go_roundg k1
        case measure=>have:=HK1.out;omega
        case rel=>exact⟨(y2),(wrap64 (x2_1+1)),rS,H',⟨by have:=HK1.out;omega⟩,⟨fR HO_1.out⟩,⟨uB⟩⟩
       ·rw[if_neg c5]at H
        exact absurd H (by simp)
      ·rw[if_neg c4]at H
       exact absurd H (by simp)
     ·rw[if_neg c3]at H
      have c3b0:decide (x2_1<(l0.length:Int))=false:=decide_eq_false c3
      clear c3
      obtain rfl:=Option.some.inj H
      go_wp2
      go_ret
      exact⟨_,rE,fR HO_1.out,uB⟩
  ·rw[if_neg c2]at H
   exact absurd H (by simp)
 ·rw[if_neg c1]at H
  exact absurd H (by simp)
def laws_eqAct.f (a0_0:Int) (a0_1:Int) (a0_2:Int) (a0_3:Int) (a1_0:Int) (a1_1:Int) (a1_2:Int) (a1_3:Int):Option (Bool):=if a0_0=a1_0 then(if a0_1=a1_1 then(if a0_2=a1_2 then(if a0_3=a1_3 then(some true) else(some false)) else(some false)) else(some false)) else(some false)
theorem laws_eqAct.W1 {p:Prop} (h:p:=by
  go_enter Try.func82,Try.ntmps82
  go_wp2_with (first|((with_reducible refine gate_dst (N:=2) rfl ?_);refine Fix.be 2 #[V I a0_0,V I a0_1,V I a0_2,V I a0_3] 53 ?_;intro gb1 hg w1 BK1 hb;have GW1:D (w.heap.size≤gb1):=gE hg;have GE1:=GW1;replace HB:=eB hb;clear hb hg)|((with_reducible refine gate_dst (N:=3) rfl ?_);refine Fix.be 3 #[V I a1_0,V I a1_1,V I a1_2,V I a1_3] 53 ?_;intro gb2 hg w2 BK2 hb;have GW2:D (w.heap.size≤gb2):=gE hg;have GE2:=GW2;have NB1_972:=nL hg BK1;have NB2_971:=nG hg BK1;replace BK1:=eK BK1 hb;replace HB:=eB hb;clear hb hg;have hnb1:=NB1_972.out;have hnc1:=NB2_971.out;obtain⟨hcz1_0,hcz1_1,hcz1_2,hcz1_3,hfz1_0,hfz1_1,hfz1_2,hfz1_3⟩:=d4 BK1.out;have h_:=d4 BK2.out;(repeat(obtain⟨_,h_⟩:=h_))))
  go_ret
  exact⟨rE,uB⟩):p:=h
theorem laws_eqAct.W2 {p:Prop} (h:p:=by
  go_enter Try.func82,Try.ntmps82
  go_wp2_with (first|((with_reducible refine gate_dst (N:=2) rfl ?_);refine Fix.be 2 #[V I a0_0,V I a0_1,V I a0_2,V I a0_3] 53 ?_;intro gb1 hg w1 BK1 hb;have GW1:D (w.heap.size≤gb1):=gE hg;have GE1:=GW1;replace HB:=eB hb;clear hb hg)|((with_reducible refine gate_dst (N:=3) rfl ?_);refine Fix.be 3 #[V I a1_0,V I a1_1,V I a1_2,V I a1_3] 53 ?_;intro gb2 hg w2 BK2 hb;have GW2:D (w.heap.size≤gb2):=gE hg;have GE2:=GW2;have NB1_972:=nL hg BK1;have NB2_971:=nG hg BK1;replace BK1:=eK BK1 hb;replace HB:=eB hb;clear hb hg;have hnb1:=NB1_972.out;have hnc1:=NB2_971.out;have h_:=d4 BK1.out;(repeat(obtain⟨_,h_⟩:=h_));have h_:=d4 BK2.out;(repeat(obtain⟨_,h_⟩:=h_))))
  go_ret
  exact⟨rE,uB⟩):p:=h
set_option maxHeartbeats 40000000 in
set_option maxRecDepth 100000 in
theorem laws_eqAct.calls (a0_0:Int) (a0_1:Int) (a0_2:Int) (a0_3:Int) (a1_0:Int) (a1_1:Int) (a1_2:Int) (a1_3:Int) (r:Bool) (w:World) (h:laws_eqAct.f a0_0 a0_1 a0_2 a0_3 a1_0 a1_1 a1_2 a1_3=some r):
  Calls Try.prog 82 #[G #[V I a0_0,V I a0_1,V I a0_2,V I a0_3],G #[V I a1_0,V I a1_1,V I a1_2,V I a1_3]] w fun e w'=>e=.returned (O r)∧Below w.heap.size w w':=by
 have hu1:=Try.underlying53
 have HB:=C (Below.refl w.heap.size w)
 have H:=h
 unfold laws_eqAct.f at H
 clear h
 by_cases c1:a0_0=a1_0
 ·rw[if_pos c1]at H
  have c1b0:(a0_0==a1_0)=true:=beq_iff_eq.mpr c1
  have c1b1:(a0_0 !=a1_0)=false:=bne_eq_false_iff_eq.mpr c1
  clear c1
  by_cases c2:a0_1=a1_1
  ·rw[if_pos c2]at H
   have c2b0:(a0_1==a1_1)=true:=beq_iff_eq.mpr c2
   have c2b1:(a0_1 !=a1_1)=false:=bne_eq_false_iff_eq.mpr c2
   clear c2
   by_cases c3:a0_2=a1_2
   ·rw[if_pos c3]at H
    have c3b0:(a0_2==a1_2)=true:=beq_iff_eq.mpr c3
    have c3b1:(a0_2 !=a1_2)=false:=bne_eq_false_iff_eq.mpr c3
    clear c3
    by_cases c4:a0_3=a1_3
    ·rw[if_pos c4]at H
     have c4b0:(a0_3==a1_3)=true:=beq_iff_eq.mpr c4
     have c4b1:(a0_3 !=a1_3)=false:=bne_eq_false_iff_eq.mpr c4
     clear c4
     obtain rfl:=Option.some.inj H
     exact laws_eqAct.W1
    ·rw[if_neg c4]at H
     have c4b0:(a0_3==a1_3)=false:=beq_eq_false_iff_ne.mpr c4
     have c4b1:(a0_3 !=a1_3)=true:=bne_iff_ne.mpr c4
     obtain rfl:=Option.some.inj H
     exact laws_eqAct.W1
   ·rw[if_neg c3]at H
    have c3b0:(a0_2==a1_2)=false:=beq_eq_false_iff_ne.mpr c3
    have c3b1:(a0_2 !=a1_2)=true:=bne_iff_ne.mpr c3
    obtain rfl:=Option.some.inj H
    exact laws_eqAct.W1
  ·rw[if_neg c2]at H
   have c2b0:(a0_1==a1_1)=false:=beq_eq_false_iff_ne.mpr c2
   have c2b1:(a0_1 !=a1_1)=true:=bne_iff_ne.mpr c2
   obtain rfl:=Option.some.inj H
   exact laws_eqAct.W2
 ·rw[if_neg c1]at H
  have c1b0:(a0_0==a1_0)=false:=beq_eq_false_iff_ne.mpr c1
  have c1b1:(a0_0 !=a1_0)=true:=bne_iff_ne.mpr c1
  obtain rfl:=Option.some.inj H
  exact laws_eqAct.W2
def laws_eqActS.l0:Nat→List (S53)→List (S53)→Int→Option (Bool)
 |0,_,_,_=>none
 |k+1,x0,x1,x5=>if x5<(x0.length:Int) then(if 0≤x5 then(if x5<(x1.length:Int) then((laws_eqAct.f ((rd_T53 x0 x5).f0) ((rd_T53 x0 x5).f1) ((rd_T53 x0 x5).f2) ((rd_T53 x0 x5).f3) ((rd_T53 x1 x5).f0) ((rd_T53 x1 x5).f1) ((rd_T53 x1 x5).f2) ((rd_T53 x1 x5).f3)).bind fun t975=>(if t975=true then(laws_eqActS.l0 k x0 x1 (wrap64 (x5+1))) else(some false))) else(none)) else(none)) else(some true)
def laws_eqActS.f (k:Nat) (l0:List (S53)) (l1:List (S53)):Option (Bool):=if(l0.length:Int)=(l1.length:Int) then(laws_eqActS.l0 k l0 l1 0) else(some false)
theorem laws_eqActS.mono_l:∀k,(∀y0 y1 y2,LeO (laws_eqActS.l0 k y0 y1 y2) (laws_eqActS.l0 (k+1) y0 y1 y2))
 |0=>fun _ _ _ r h=>by simp[laws_eqActS.l0]at h
 |k+1=>by
  have ih0:=laws_eqActS.mono_l k
  ·intro y0 y1 y2
   unfold laws_eqActS.l0
   repeat' first|(with_reducible first|apply ih0|exact LeO.refl _|exact LeO.none _|refine LeO.ite ?_ ?_|refine LeO.bind ?_ (fun _=> ?_))|apply ih0|exact LeO.none _|refine LeO.ite ?_ ?_|refine LeO.bind ?_ (fun _=> ?_)
theorem laws_eqActS.mono:∀a0 a1 k,LeO (laws_eqActS.f k a0 a1) (laws_eqActS.f (k+1) a0 a1):=by
 intro a0 a1 k
 have ih0:=laws_eqActS.mono_l k
 unfold laws_eqActS.f
 repeat' first|(with_reducible first|apply ih0|exact LeO.refl _|exact LeO.none _|refine LeO.ite ?_ ?_|refine LeO.bind ?_ (fun _=> ?_))|apply ih0|exact LeO.none _|refine LeO.ite ?_ ?_|refine LeO.bind ?_ (fun _=> ?_)
def laws_eqActS.T6:Bool×List (List Nat×List Nat):=(true,[([],[]),([],[]),([0,1],[0,1]),([2],[2]),([],[]),([],[]),([4,5],[4,5]),([6],[6]),([3,7],[3,7]),([8],[8])])
def laws_eqActS.B6:List Nat:= [0,0,3,7,0,0,48,112,255,511]
theorem laws_eqActS.tab6:rtab .any (opsOf Try.f28 6)=laws_eqActS.T6:=by kernel_rfl
theorem laws_eqActS.bits6:waitsOk laws_eqActS.T6.2 laws_eqActS.B6=true:=by kernel_rfl
set_option maxHeartbeats 40000000 in
set_option maxRecDepth 100000 in
theorem laws_eqActS.calls (k:Nat) (A0:Option Addr) (c0:Nat) (l0:List (S53)) (A1:Option Addr) (c1:Nat) (l1:List (S53)) (r:Bool) (w:World) (hr0:Kd.C k53 w A0 l0.length l0) (hc0:l0.length≤c0) (hr1:Kd.C k53 w A1 l1.length l1) (hc1:l1.length≤c1) (h:laws_eqActS.f k l0 l1=some r):
  Calls Try.prog 28 #[L A0 l0.length c0,L A1 l1.length c1] w fun e w'=>e=.returned (O r)∧Below w.heap.size w w':=by
 have hu1:=Try.underlying53
 have HR1:=C hr0
 have HC1:=C hc0
 (try clear hr0);(try clear hc0)
 have HR2:=C hr1
 have HC2:=C hc1
 (try clear hr1);(try clear hc1)
 have HB:=C (Below.refl w.heap.size w)
 have H:=h
 unfold laws_eqActS.f at H
 clear h
 by_cases c1:(l0.length:Int)=(l1.length:Int)
 ·rw[if_pos c1]at H
  have c1b0:((l0.length:Int)==(l1.length:Int))=true:=beq_iff_eq.mpr c1
  have c1b1:((l0.length:Int) !=(l1.length:Int))=false:=bne_eq_false_iff_eq.mpr c1
  have c1b2:(l0.length==l1.length)=true:=by first|simpa using c1|(simp at c1 ⊢;omega)
  clear c1
  have H':=C H
  clear H
  go_enter Try.func28,Try.ntmps28
  go_wp2
  go_loopg [5] k (fun kq v5 w'=>∃(x1_1:Int),v5=V I x1_1∧D (laws_eqActS.l0 kq l0 l1 x1_1=some r)∧D (kq≤k)∧D (Below w.heap.size w w'))
  case atStart=>exact⟨(0),rS,H',⟨Nat.le_refl _⟩,⟨uB⟩⟩
  case round=>
   clear H'
   obtain⟨x1_1,rfl,HA,HK1,HB⟩:=hrel
   cases gk with
   |zero=>exact absurd HA.out (by simp[laws_eqActS.l0])
   |succ k1=>
    have H:=HA.out
    clear HA
    simp only[laws_eqActS.l0]at H
    by_cases c2:x1_1<(l0.length:Int)
    ·rw[if_pos c2]at H
     have c2b0:decide (x1_1<(l0.length:Int))=true:=decide_eq_true c2
     clear c2
     by_cases c3:0≤x1_1
     ·rw[if_pos c3]at H
      have c3b0:decide (0≤x1_1)=true:=decide_eq_true c3
      clear c3
      by_cases c4:x1_1<(l1.length:Int)
      ·rw[if_pos c4]at H
       have c4b0:decide (x1_1<(l1.length:Int))=true:=decide_eq_true c4
       clear c4
       obtain⟨t1,A1,H⟩:=bnd H
       by_cases c5:t1=true
       ·subst c5
        rw[if_pos rfl]at H
        have H':=C H
        clear H
        try go_wp2
        replace HB:=dB HB
        have p1:0≤(x1_1:Int):=of_decide_eq_true (by first|(with_reducible assumption)|assumption)
        have q1:x1_1<(l0.length:Int):=of_decide_eq_true (by first|(with_reducible assumption)|assumption)
        obtain⟨ad1,e1,hx1_0,hx1_1,hx1_2,hx1_3⟩:=at_T53 HR1.out x1_1 p1 q1
        have hw1_3:=hx1_3
        have hw1_2:=hx1_2
        have hw1_1:=hx1_1
        have hw1_0:=hx1_0
        cases e1
        replace hx1_0:=hx HB hx1_0
        replace hx1_1:=hx HB hx1_1
        replace hx1_2:=hx HB hx1_2
        replace hx1_3:=hx HB hx1_3
        replace p1:=eq_true p1
        replace q1:=eq_true q1
        have p2:0≤(x1_1:Int):=of_decide_eq_true (by first|(with_reducible assumption)|assumption)
        have q2:x1_1<(l1.length:Int):=of_decide_eq_true (by first|(with_reducible assumption)|assumption)
        obtain⟨ad2,e2,hx2_0,hx2_1,hx2_2,hx2_3⟩:=at_T53 HR2.out x1_1 p2 q2
        have hw2_3:=hx2_3
        have hw2_2:=hx2_2
        have hw2_1:=hx2_1
        have hw2_0:=hx2_0
        cases e2
        replace hx2_0:=hx HB hx2_0
        replace hx2_1:=hx HB hx2_1
        replace hx2_2:=hx HB hx2_2
        replace hx2_3:=hx HB hx2_3
        replace p2:=eq_true p2
        replace q2:=eq_true q2
        refine start_ (n:=10) (S:=fun w'=>w'.cell? (ad1.add ((x1_1).toNat * 4))=some (V I ((rd_T53 l0 x1_1).f0))∧w'.cell? ⟨(ad1.add ((x1_1).toNat * 4)).block,(ad1.add ((x1_1).toNat * 4)).off+1,none⟩=some (V I ((rd_T53 l0 x1_1).f1))∧w'.cell? ⟨(ad1.add ((x1_1).toNat * 4)).block,(ad1.add ((x1_1).toNat * 4)).off+2,none⟩=some (V I ((rd_T53 l0 x1_1).f2))∧w'.cell? ⟨(ad1.add ((x1_1).toNat * 4)).block,(ad1.add ((x1_1).toNat * 4)).off+3,none⟩=some (V I ((rd_T53 l0 x1_1).f3))∧w'.cell? (ad2.add ((x1_1).toNat * 4))=some (V I ((rd_T53 l1 x1_1).f0))∧w'.cell? ⟨(ad2.add ((x1_1).toNat * 4)).block,(ad2.add ((x1_1).toNat * 4)).off+1,none⟩=some (V I ((rd_T53 l1 x1_1).f1))∧w'.cell? ⟨(ad2.add ((x1_1).toNat * 4)).block,(ad2.add ((x1_1).toNat * 4)).off+2,none⟩=some (V I ((rd_T53 l1 x1_1).f2))∧w'.cell? ⟨(ad2.add ((x1_1).toNat * 4)).block,(ad2.add ((x1_1).toNat * 4)).off+3,none⟩=some (V I ((rd_T53 l1 x1_1).f3))) (ds:= []) #[false,false,false,false,false,false,false,false,false,false] (by kernel_rfl) rfl rfl hi (fun hHeld=> ?_);refine with_tabW laws_eqActS.tab6 laws_eqActS.bits6 (fun HT_ HW_=> ?_)
        generalize wr.drew=w1 at HB hx1_0 hx1_1 hx1_2 hx1_3 hx2_0 hx2_1 hx2_2 hx2_3 hHeld ⊢
        refine pu 0 (some 17) ?_
        refine pu 1 (some 18) ?_
        refine pu 2 (some 19) ?_
        refine pu 4 (some 21) ?_
        refine pu 5 (some 22) ?_
        refine pu 6 (some 23) ?_
        refine tu 3 (some 20) hHeld ?_
        refine tu 7 (some 24) hHeld ?_
        refine ou 8 (some 25) (fun K hK=> ?_)
        refine gs Try.func82 #[G #[V I ((rd_T53 l0 x1_1).f0),V I ((rd_T53 l0 x1_1).f1),V I ((rd_T53 l0 x1_1).f2),V I ((rd_T53 l0 x1_1).f3)],G #[V I ((rd_T53 l1 x1_1).f0),V I ((rd_T53 l1 x1_1).f1),V I ((rd_T53 l1 x1_1).f2),V I ((rd_T53 l1 x1_1).f3)]] ?_
        with_reducible refine(laws_eqAct.calls ((rd_T53 l0 x1_1).f0) ((rd_T53 l0 x1_1).f1) ((rd_T53 l0 x1_1).f2) ((rd_T53 l0 x1_1).f3) ((rd_T53 l1 x1_1).f0) ((rd_T53 l1 x1_1).f1) ((rd_T53 l1 x1_1).f2) ((rd_T53 l1 x1_1).f3) true _ A1.out).mono ?_
        rintro e w2 ⟨rfl,hb⟩
        refine⟨_,rfl,?_⟩
        replace HB:=eB hb
        (try clear hb)
        refine hK.out _ _ ⟨((HB.out.cell (E w _ hw1_0)).trans hw1_0),((HB.out.cell (E w _ hw1_1)).trans hw1_1),((HB.out.cell (E w _ hw1_2)).trans hw1_2),((HB.out.cell (E w _ hw1_3)).trans hw1_3),((HB.out.cell (E w _ hw2_0)).trans hw2_0),((HB.out.cell (E w _ hw2_1)).trans hw2_1),((HB.out.cell (E w _ hw2_2)).trans hw2_2),((HB.out.cell (E w _ hw2_3)).trans hw2_3)⟩ (fun hHeld=> ?_)
        clear hK K
        refine nu (N:=(some 25)) ?_
        refine pu 9 (some 26) ?_
        refine done_ (done_of HT_.out (by kernel_rfl)) ?_
        try go_wp2
        go_roundg k1
        case measure=>have:=HK1.out;omega
        case rel=>exact⟨(wrap64 (x1_1+1)),rS,H',⟨by have:=HK1.out;omega⟩,⟨uB⟩⟩
       ·replace c5:=Bool.eq_false_iff.mpr c5
        subst c5
        rw[if_neg Bool.false_ne_true]at H
        obtain rfl:=Option.some.inj H
        try go_wp2
        replace HB:=dB HB
        have p1:0≤(x1_1:Int):=of_decide_eq_true (by first|(with_reducible assumption)|assumption)
        have q1:x1_1<(l0.length:Int):=of_decide_eq_true (by first|(with_reducible assumption)|assumption)
        obtain⟨ad1,e1,hx1_0,hx1_1,hx1_2,hx1_3⟩:=at_T53 HR1.out x1_1 p1 q1
        have hw1_3:=hx1_3
        have hw1_2:=hx1_2
        have hw1_1:=hx1_1
        have hw1_0:=hx1_0
        cases e1
        replace hx1_0:=hx HB hx1_0
        replace hx1_1:=hx HB hx1_1
        replace hx1_2:=hx HB hx1_2
        replace hx1_3:=hx HB hx1_3
        replace p1:=eq_true p1
        replace q1:=eq_true q1
        have p2:0≤(x1_1:Int):=of_decide_eq_true (by first|(with_reducible assumption)|assumption)
        have q2:x1_1<(l1.length:Int):=of_decide_eq_true (by first|(with_reducible assumption)|assumption)
        obtain⟨ad2,e2,hx2_0,hx2_1,hx2_2,hx2_3⟩:=at_T53 HR2.out x1_1 p2 q2
        have hw2_3:=hx2_3
        have hw2_2:=hx2_2
        have hw2_1:=hx2_1
        have hw2_0:=hx2_0
        cases e2
        replace hx2_0:=hx HB hx2_0
        replace hx2_1:=hx HB hx2_1
        replace hx2_2:=hx HB hx2_2
        replace hx2_3:=hx HB hx2_3
        replace p2:=eq_true p2
        replace q2:=eq_true q2
        refine start_ (n:=10) (S:=fun w'=>w'.cell? (ad1.add ((x1_1).toNat * 4))=some (V I ((rd_T53 l0 x1_1).f0))∧w'.cell? ⟨(ad1.add ((x1_1).toNat * 4)).block,(ad1.add ((x1_1).toNat * 4)).off+1,none⟩=some (V I ((rd_T53 l0 x1_1).f1))∧w'.cell? ⟨(ad1.add ((x1_1).toNat * 4)).block,(ad1.add ((x1_1).toNat * 4)).off+2,none⟩=some (V I ((rd_T53 l0 x1_1).f2))∧w'.cell? ⟨(ad1.add ((x1_1).toNat * 4)).block,(ad1.add ((x1_1).toNat * 4)).off+3,none⟩=some (V I ((rd_T53 l0 x1_1).f3))∧w'.cell? (ad2.add ((x1_1).toNat * 4))=some (V I ((rd_T53 l1 x1_1).f0))∧w'.cell? ⟨(ad2.add ((x1_1).toNat * 4)).block,(ad2.add ((x1_1).toNat * 4)).off+1,none⟩=some (V I ((rd_T53 l1 x1_1).f1))∧w'.cell? ⟨(ad2.add ((x1_1).toNat * 4)).block,(ad2.add ((x1_1).toNat * 4)).off+2,none⟩=some (V I ((rd_T53 l1 x1_1).f2))∧w'.cell? ⟨(ad2.add ((x1_1).toNat * 4)).block,(ad2.add ((x1_1).toNat * 4)).off+3,none⟩=some (V I ((rd_T53 l1 x1_1).f3))) (ds:= []) #[false,false,false,false,false,false,false,false,false,false] (by kernel_rfl) rfl rfl hi (fun hHeld=> ?_);refine with_tabW laws_eqActS.tab6 laws_eqActS.bits6 (fun HT_ HW_=> ?_)
        generalize wr.drew=w1 at HB hx1_0 hx1_1 hx1_2 hx1_3 hx2_0 hx2_1 hx2_2 hx2_3 hHeld ⊢
        refine pu 0 (some 17) ?_
        refine pu 1 (some 18) ?_
        refine pu 2 (some 19) ?_
        refine pu 4 (some 21) ?_
        refine pu 5 (some 22) ?_
        refine pu 6 (some 23) ?_
        refine tu 3 (some 20) hHeld ?_
        refine tu 7 (some 24) hHeld ?_
        refine ou 8 (some 25) (fun K hK=> ?_)
        refine gs Try.func82 #[G #[V I ((rd_T53 l0 x1_1).f0),V I ((rd_T53 l0 x1_1).f1),V I ((rd_T53 l0 x1_1).f2),V I ((rd_T53 l0 x1_1).f3)],G #[V I ((rd_T53 l1 x1_1).f0),V I ((rd_T53 l1 x1_1).f1),V I ((rd_T53 l1 x1_1).f2),V I ((rd_T53 l1 x1_1).f3)]] ?_
        with_reducible refine(laws_eqAct.calls ((rd_T53 l0 x1_1).f0) ((rd_T53 l0 x1_1).f1) ((rd_T53 l0 x1_1).f2) ((rd_T53 l0 x1_1).f3) ((rd_T53 l1 x1_1).f0) ((rd_T53 l1 x1_1).f1) ((rd_T53 l1 x1_1).f2) ((rd_T53 l1 x1_1).f3) false _ A1.out).mono ?_
        rintro e w2 ⟨rfl,hb⟩
        refine⟨_,rfl,?_⟩
        replace HB:=eB hb
        (try clear hb)
        refine hK.out _ _ ⟨((HB.out.cell (E w _ hw1_0)).trans hw1_0),((HB.out.cell (E w _ hw1_1)).trans hw1_1),((HB.out.cell (E w _ hw1_2)).trans hw1_2),((HB.out.cell (E w _ hw1_3)).trans hw1_3),((HB.out.cell (E w _ hw2_0)).trans hw2_0),((HB.out.cell (E w _ hw2_1)).trans hw2_1),((HB.out.cell (E w _ hw2_2)).trans hw2_2),((HB.out.cell (E w _ hw2_3)).trans hw2_3)⟩ (fun hHeld=> ?_)
        clear hK K
        refine nu (N:=(some 25)) ?_
        refine pu 9 (some 26) ?_
        refine done_ (done_of HT_.out (by kernel_rfl)) ?_
        try go_wp2
        go_ret
        exact⟨rE,uB⟩
      ·rw[if_neg c4]at H
       exact absurd H (by simp)
     ·rw[if_neg c3]at H
      exact absurd H (by simp)
    ·rw[if_neg c2]at H
     have c2b0:decide (x1_1<(l0.length:Int))=false:=decide_eq_false c2
     clear c2
     obtain rfl:=Option.some.inj H
     go_wp2
     go_ret
     exact⟨rE,uB⟩
 ·rw[if_neg c1]at H
  have c1b0:((l0.length:Int)==(l1.length:Int))=false:=beq_eq_false_iff_ne.mpr c1
  have c1b1:((l0.length:Int) !=(l1.length:Int))=true:=bne_iff_ne.mpr c1
  have c1b2:(l0.length==l1.length)=false:=by first|simpa using c1|(simp at c1 ⊢;omega)
  obtain rfl:=Option.some.inj H
  go_enter Try.func28,Try.ntmps28
  go_wp2
  go_ret
  exact⟨rE,uB⟩
end Go.Proofs.Ytblceimapaenlaa.PFnExactIsReplay
