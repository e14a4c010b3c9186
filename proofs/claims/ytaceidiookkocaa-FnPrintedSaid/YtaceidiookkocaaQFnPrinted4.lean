/- Calls do what plain Lean functions say (FnPrinted). No condition. -/
import Derived.Test.YtaceidiookkocaaQFnPrinted0
import Derived.Test.YtaceidiookkocaaQFnPrinted1
import Derived.Test.YtaceidiookkocaaQFnPrinted2
import Derived.Test.YtaceidiookkocaaQFnPrinted3
namespace Go.Proofs.Ytaceidiookkocaa.PFnPrinted
open Go.RowKit Go.Proofs.YtaceidiookkocaaW.PrintWords Go.Proofs.YtaceidiookkocaaW.PrintLast Go.Proofs.YtaceidiookkocaaW.PrintMore
open Try
open Fix (bK bnd cg2 d4 d6 dB dK dn2 eB eK eR fR gE gK gl gy hi hx nG nL nf nm np nt nu oL oT ou pj pu rE rN rS si tu uB uC uR uZ wB)
open Go.Value renaming int→V,slice→L,agg→G
open Go.IntKind renaming i64→I
open Go.Proofs.YtaceidiookkocaaW.PrintWords.Aside0 renaming mk→C
open Go.Proofs.YtaceidiookkocaaW.PrintWords renaming Aside0→D,gate_callee→F,gate_dst→J
open Go.World renaming block_lt_of_cell?→E
attribute [local go_sem] max2_int min2_int max_two min_two max_three min_three max_four min_four
attribute [local go_sem] Fix.isSome_setCell
set_option linter.unusedVariables false
set_option maxHeartbeats 40000000
set_option maxRecDepth 100000
set_option linter.unusedSimpArgs false
def impl_CountDots.f (a0_0:Int) (a0_1:Int) (a0_2:Int) (a0_3:Int):Option (Int):=(impl_BoxOk.f a0_0 a0_1 a0_2 a0_3).bind fun t408=>(if t408=true then(some (wrap64 ((wrap64 (a0_2 - a0_0)) * (wrap64 (a0_3 - a0_1))))) else(some 0))
theorem impl_CountDots.calls (a0_0:Int) (a0_1:Int) (a0_2:Int) (a0_3:Int) (r:Int) (w:World) (h:impl_CountDots.f a0_0 a0_1 a0_2 a0_3=some r):
 Calls prog 112 #[G #[V I a0_0,V I a0_1,V I a0_2,V I a0_3]] w fun e w'=>e=.returned (V I r)∧Below w.heap.size w w':=by
 have hu1:=underlying75
 have HB:=C (Below.refl w.heap.size w)
 have H:=h
 unfold impl_CountDots.f at H
 clear h
 obtain⟨t1,A1,H⟩:=bnd H
 by_cases c1:t1=true
 rotate_left
 ·obtain rfl:=nt c1
  replace H:=nf H
  obtain rfl:=si H
  go_enter func112,ntmps112
  go_wp2_with (first|((with_reducible refine J (N:=1) rfl ?_);refine Fix.be 1 #[V I a0_0,V I a0_1,V I a0_2,V I a0_3] 75 ?_;intro gb1 hg w1 BK1 hb;have GW1:=gE (w:=w) hg;have GE1:=GW1;replace HB:=eB hb;clear hb hg;obtain⟨_,_,_,_,_,_,_,_⟩:=d4 BK1.out)|((with_reducible refine F (f:=109) rfl ?_);refine gl 109 (some 4) func109 #[G #[V I a0_0,V I a0_1,V I a0_2,V I a0_3]] ?_;(with_reducible refine(impl_BoxOk.calls a0_0 a0_1 a0_2 a0_3 false _ A1.out).mono ?_);rintro e w2 ⟨rfl,hb⟩;refine⟨_,rfl,?_⟩;replace BK1:=eK BK1 hb;replace HB:=eB hb;clear hb))
  go_ret
  exact⟨rE,uB⟩
 subst c1
 rw[if_pos rfl]at H
 obtain rfl:=si H
 go_enter func112,ntmps112
 go_wp2_with (first|((with_reducible refine J (N:=1) rfl ?_);refine Fix.be 1 #[V I a0_0,V I a0_1,V I a0_2,V I a0_3] 75 ?_;intro gb1 hg w1 BK1 hb;have GW1:=gE (w:=w) hg;have GE1:=GW1;replace HB:=eB hb;clear hb hg;obtain⟨_,_,_,_,_,_,_,_⟩:=d4 BK1.out)|((with_reducible refine F (f:=109) rfl ?_);refine gl 109 (some 4) func109 #[G #[V I a0_0,V I a0_1,V I a0_2,V I a0_3]] ?_;(with_reducible refine(impl_BoxOk.calls a0_0 a0_1 a0_2 a0_3 true _ A1.out).mono ?_);rintro e w2 ⟨rfl,hb⟩;refine⟨_,rfl,?_⟩;replace BK1:=eK BK1 hb;replace HB:=eB hb;clear hb;obtain⟨_,_,_,_,_,_,_,_⟩:=d4 BK1.out))
 go_ret
 exact⟨rE,uB⟩
def impl_TouchesBand.j0:Nat→Int→Int→Bool→List (S126)→Int→Int→Int→Int→Int→Option (Bool)
  |0,_,_,_,_,_,_,_,_,_=>none
  |k+1,x1,x2,x18,x410000,x410001,x410002,x410003,x410004,x410005=>if x18=true then(some false) else((impl_ObjectBox.f k x410000 x410001 x410002 x410003 x410004 x410005).bind fun bt413=>((impl_CountDots.f bt413.1 bt413.2.1 bt413.2.2.1 bt413.2.2.2).bind fun t418=>(if t418 >0 then(if bt413.2.1<(wrap64 ((wrap64 (x2 * x1))+x1)) then(some (decide (bt413.2.2.2 >(wrap64 (x2 * x1))))) else(some false)) else(some false))))
def impl_TouchesBand.f (k:Nat) (l0_0:List (S126)) (a0_1:Int) (a0_2:Int) (a0_3:Int) (a0_4:Int) (a0_5:Int) (a1:Int) (a2:Int):Option (Bool):=(impl_IsHeight.f a1).bind fun t410=>(if t410=true then((impl_CountBands.f a1).bind fun t411=>((impl_within.f a2 0 (wrap64 (t411 - 1))).bind fun t412=>(impl_TouchesBand.j0 k a1 a2 (!t412) l0_0 a0_1 a0_2 a0_3 a0_4 a0_5))) else(impl_TouchesBand.j0 k a1 a2 true l0_0 a0_1 a0_2 a0_3 a0_4 a0_5))
theorem impl_TouchesBand.calls (k:Nat) (A0_0:Option Addr) (c0_0:Nat) (l0_0:List (S126)) (a0_1:Int) (a0_2:Int) (a0_3:Int) (a0_4:Int) (a0_5:Int) (a1:Int) (a2:Int) (r:Bool) (w:World) (hr0_0:Kd.C k126 w A0_0 l0_0.length l0_0) (hc0_0:l0_0.length≤c0_0) (h:impl_TouchesBand.f k l0_0 a0_1 a0_2 a0_3 a0_4 a0_5 a1 a2=some r):
 Calls prog 89 #[G #[L A0_0 l0_0.length c0_0,V I a0_1,V I a0_2,V I a0_3,V I a0_4,V I a0_5],V I a1,V I a2] w fun e w'=>e=.returned (.bool r)∧Below w.heap.size w w':=by
 have hu1:=underlying77
 have hu2:=underlying75
 have HR1_0:=C hr0_0
 have HC1_0:=C hc0_0
 (try clear hr0_0);(try clear hc0_0)
 have HB:=C (Below.refl w.heap.size w)
 have H:=h
 unfold impl_TouchesBand.f at H
 clear h
 have HC2:=C H
 clear H
 go_enter func89,ntmps89
 go_upto_region 1 with(first|((with_reducible refine J (N:=3) rfl ?_);refine Fix.be 3 #[L A0_0 l0_0.length c0_0,V I a0_1,V I a0_2,V I a0_3,V I a0_4,V I a0_5] 77 ?_;intro gb1 hg w1 BK1 hb;have GW1:=gE (w:=w) hg;replace HB:=eB hb;clear hb hg))
 (try simp only[Act.put,List.setIfInBounds_toArray,List.set_cons_zero,List.set_cons_succ])
 go_cut [18] (fun v18 wc=>∃(kq:Nat) (x1_3:Bool),v18=.bool x1_3∧D (impl_TouchesBand.j0 kq a1 a2 x1_3 l0_0 a0_1 a0_2 a0_3 a0_4 a0_5=some r)∧D (kq≤k)∧D (wc.heap[gb1]? =some (.cells #[(L A0_0 l0_0.length c0_0),V I a0_1,V I a0_2,V I a0_3,V I a0_4,V I a0_5] 77 (0,0)))∧D (Below w.heap.size w wc))
 case first=>
  have H:=HC2.out
  clear HC2
  obtain⟨t1,A1,H⟩:=bnd H
  by_cases c1:t1=true
  rotate_left
  ·obtain rfl:=nt c1
   replace H:=nf H
   have H':=C H
   clear H
   go_wp2_with (first|((with_reducible refine F (f:=60) rfl ?_);refine gl 60 (some 9) func60 #[V I a1] ?_;(with_reducible refine(impl_IsHeight.calls a1 false _ A1.out).mono ?_);rintro e w' ⟨rfl,⟨nd,rfl⟩⟩;refine⟨_,rfl,?_⟩))
   go_meet
   case rel=>exact⟨_,(true),rS,H',⟨oL⟩,⟨bK BK1.out⟩,⟨uB⟩⟩
  subst c1
  rw[if_pos rfl]at H
  obtain⟨t2,A2,H⟩:=bnd H
  obtain⟨t3,A3,H⟩:=bnd H
  have H':=C H
  clear H
  go_wp2_with (first|((with_reducible refine F (f:=60) rfl ?_);refine gl 60 (some 9) func60 #[V I a1] ?_;(with_reducible refine(impl_IsHeight.calls a1 true _ A1.out).mono ?_);rintro e w' ⟨rfl,⟨nd,rfl⟩⟩;refine⟨_,rfl,?_⟩)|(go_at_call 61;(with_reducible refine(impl_CountBands.calls a1 t2 _ A2.out).mono ?_);rintro e w' ⟨rfl,⟨nd,rfl⟩⟩)|(go_at_call 49;(with_reducible refine(impl_within.calls a2 0 (wrap64 (t2 - 1)) t3 _ A3.out).mono ?_);rintro e w' ⟨rfl,⟨nd,rfl⟩⟩))
  go_meet
  case rel=>exact⟨_,(!t3),rS,H',⟨oL⟩,⟨bK BK1.out⟩,⟨uB⟩⟩
 case rest=>
  clear HC2
  obtain⟨kq,x1_3,rfl,HA,HJ1,BK1,HB⟩:=hcut
  cases kq with
  |zero=>exact absurd HA.out (by simp[impl_TouchesBand.j0])
  |succ kj3=>
   have H:=HA.out
   clear HA
   simp only[impl_TouchesBand.j0]at H
   by_cases c1:x1_3=true
   ·subst c1
    rw[if_pos rfl]at H
    obtain rfl:=si H
    go_wp2
    go_ret
    exact⟨rE,uB⟩
   obtain rfl:=nt c1
   replace H:=nf H
   obtain⟨⟨t1,t2,t3,t4⟩,A1,H⟩:=bnd H
   dsimp only at H
   obtain⟨t5,A2,H⟩:=bnd H
   by_cases c2:t5 >0
   rotate_left
   ·rw[if_neg c2]at H
    replace c2:=decide_eq_false c2
    obtain rfl:=si H
    obtain⟨_,_,_,_,_,_,_,_,_,_,_,_⟩:=d6 BK1.out
    go_wp2_with (first|((with_reducible refine F (f:=111) rfl ?_);refine gl 111 (some 20) func111 #[G #[L A0_0 l0_0.length c0_0,V I a0_1,V I a0_2,V I a0_3,V I a0_4,V I a0_5]] ?_;(with_reducible refine(impl_ObjectBox.calls kj3 _ _ l0_0 a0_1 a0_2 a0_3 a0_4 a0_5 t1 t2 t3 t4 _ ?side1 HC1_0.out A1.out).mono ?_);(case side1=>exact uZ HR1_0);rintro e w2 ⟨rfl,hb⟩;refine⟨_,rfl,?_⟩;replace BK1:=eK BK1 hb;replace HB:=eB hb;clear hb)|((with_reducible refine J (N:=7) rfl ?_);refine Fix.be 7 #[V I 0,V I 0,V I 0,V I 0] 75 ?_;intro gb2 hg w3 BK2 hb;have GW2:=gE (w:=w) hg;have GE2:=GW2;have n0:=nL hg BK1;have n1:=nG hg BK1;replace BK1:=eK BK1 hb;replace HB:=eB hb;clear hb hg;have:=n1.out;have:=n0.out;obtain⟨_,_,_,_,_,_,_,_⟩:=d4 BK2.out)|((with_reducible refine F (f:=112) rfl ?_);refine gl 112 (some 22) func112 #[G #[V I t1,V I t2,V I t3,V I t4]] ?_;(with_reducible refine(impl_CountDots.calls t1 t2 t3 t4 t5 _ A2.out).mono ?_);rintro e w4 ⟨rfl,hb⟩;refine⟨_,rfl,?_⟩;replace BK1:=eK BK1 hb;replace BK2:=C (blk_below (g:=gb2) (o:=.cells #[V I t1,V I t2,V I t3,V I t4] 75 (0,0)) (bK BK2.out) hb);replace HB:=eB hb;clear hb))
    go_ret
    exact⟨rE,uB⟩
   rw[if_pos c2]at H
   replace c2:=decide_eq_true c2
   by_cases c3:t2<(wrap64 ((wrap64 (a2 * a1))+a1))
   ·rw[if_pos c3]at H
    replace c3:=decide_eq_true c3
    obtain rfl:=si H
    obtain⟨_,_,_,_,_,_,_,_,_,_,_,_⟩:=d6 BK1.out
    go_wp2_with (first|((with_reducible refine F (f:=111) rfl ?_);refine gl 111 (some 20) func111 #[G #[L A0_0 l0_0.length c0_0,V I a0_1,V I a0_2,V I a0_3,V I a0_4,V I a0_5]] ?_;(with_reducible refine(impl_ObjectBox.calls kj3 _ _ l0_0 a0_1 a0_2 a0_3 a0_4 a0_5 t1 t2 t3 t4 _ ?side1 HC1_0.out A1.out).mono ?_);(case side1=>exact uZ HR1_0);rintro e w2 ⟨rfl,hb⟩;refine⟨_,rfl,?_⟩;replace BK1:=eK BK1 hb;replace HB:=eB hb;clear hb)|((with_reducible refine J (N:=7) rfl ?_);refine Fix.be 7 #[V I 0,V I 0,V I 0,V I 0] 75 ?_;intro gb2 hg w3 BK2 hb;have GW2:=gE (w:=w) hg;have GE2:=GW2;have n0:=nL hg BK1;have n1:=nG hg BK1;replace BK1:=eK BK1 hb;replace HB:=eB hb;clear hb hg;have:=n1.out;have:=n0.out;obtain⟨_,_,_,_,_,_,_,_⟩:=d4 BK2.out)|((with_reducible refine F (f:=112) rfl ?_);refine gl 112 (some 22) func112 #[G #[V I t1,V I t2,V I t3,V I t4]] ?_;(with_reducible refine(impl_CountDots.calls t1 t2 t3 t4 t5 _ A2.out).mono ?_);rintro e w4 ⟨rfl,hb⟩;refine⟨_,rfl,?_⟩;replace BK1:=eK BK1 hb;replace BK2:=C (blk_below (g:=gb2) (o:=.cells #[V I t1,V I t2,V I t3,V I t4] 75 (0,0)) (bK BK2.out) hb);replace HB:=eB hb;clear hb;obtain⟨_,_,_,_,_,_,_,_⟩:=d4 BK2.out))
    go_ret
    exact⟨rE,uB⟩
   rw[if_neg c3]at H
   replace c3:=decide_eq_false c3
   obtain rfl:=si H
   obtain⟨_,_,_,_,_,_,_,_,_,_,_,_⟩:=d6 BK1.out
   go_wp2_with (first|((with_reducible refine F (f:=111) rfl ?_);refine gl 111 (some 20) func111 #[G #[L A0_0 l0_0.length c0_0,V I a0_1,V I a0_2,V I a0_3,V I a0_4,V I a0_5]] ?_;(with_reducible refine(impl_ObjectBox.calls kj3 _ _ l0_0 a0_1 a0_2 a0_3 a0_4 a0_5 t1 t2 t3 t4 _ ?side1 HC1_0.out A1.out).mono ?_);(case side1=>exact uZ HR1_0);rintro e w2 ⟨rfl,hb⟩;refine⟨_,rfl,?_⟩;replace BK1:=eK BK1 hb;replace HB:=eB hb;clear hb)|((with_reducible refine J (N:=7) rfl ?_);refine Fix.be 7 #[V I 0,V I 0,V I 0,V I 0] 75 ?_;intro gb2 hg w3 BK2 hb;have GW2:=gE (w:=w) hg;have GE2:=GW2;have n0:=nL hg BK1;have n1:=nG hg BK1;replace BK1:=eK BK1 hb;replace HB:=eB hb;clear hb hg;have:=n1.out;have:=n0.out;obtain⟨_,_,_,_,_,_,_,_⟩:=d4 BK2.out)|((with_reducible refine F (f:=112) rfl ?_);refine gl 112 (some 22) func112 #[G #[V I t1,V I t2,V I t3,V I t4]] ?_;(with_reducible refine(impl_CountDots.calls t1 t2 t3 t4 t5 _ A2.out).mono ?_);rintro e w4 ⟨rfl,hb⟩;refine⟨_,rfl,?_⟩;replace BK1:=eK BK1 hb;replace BK2:=C (blk_below (g:=gb2) (o:=.cells #[V I t1,V I t2,V I t3,V I t4] 75 (0,0)) (bK BK2.out) hb);replace HB:=eB hb;clear hb;obtain⟨_,_,_,_,_,_,_,_⟩:=d4 BK2.out))
   go_ret
   exact⟨rE,uB⟩
def impl_SpansOk.l0:Nat→List (S114)→List (S114)→Int→Int→Option (Bool)
  |0,_,_,_,_=>none
  |k+1,x0,x8,x9,x10=>if x10<x9 then(if 0≤x10 then(if x10<(x8.length:Int) then(if((rd_T114 x8 x10).f0) ≥ ((rd_T114 x8 x10).f1) then(some false) else(if x10 >0 then(if 0≤(wrap64 (x10 - 1)) then(if(wrap64 (x10 - 1))<(x0.length:Int) then(if((rd_T114 x0 (wrap64 (x10 - 1))).f1) ≥ ((rd_T114 x8 x10).f0) then(some false) else(impl_SpansOk.l0 k x0 x8 x9 (wrap64 (x10+1)))) else(none)) else(none)) else(impl_SpansOk.l0 k x0 x8 x9 (wrap64 (x10+1))))) else(none)) else(none)) else(some true)
def impl_SpansOk.f (k:Nat) (l0:List (S114)):Option (Bool):=if(l0.length:Int) >8 then(some false) else(impl_SpansOk.l0 k l0 l0 (l0.length:Int) 0)
theorem impl_SpansOk.calls (k:Nat) (A0:Option Addr) (c0:Nat) (l0:List (S114)) (r:Bool) (w:World) (hr0:Kd.C k114 w A0 l0.length l0) (hc0:l0.length≤c0) (h:impl_SpansOk.f k l0=some r):
 Calls prog 127 #[L A0 l0.length c0] w fun e w'=>e=.returned (.bool r)∧Below w.heap.size w w':=by
 have hu1:=underlying114
 have HR1:=C hr0
 have HC1:=C hc0
 (try clear hr0);(try clear hc0)
 have HB:=C (Below.refl w.heap.size w)
 have H:=h
 unfold impl_SpansOk.f at H
 clear h
 by_cases c1:(l0.length:Int) >8
 ·rw[if_pos c1]at H
  have c1b0:decide (8<(l0.length:Int))=true:=decide_eq_true c1
  have c1b1:decide (8<l0.length)=true:=decide_eq_true (by omega)
  clear c1
  obtain rfl:=si H
  go_enter func127,ntmps127
  go_wp2
  repeat(go_quiet (fail);try go_wp2)
  go_ret
  exact⟨rE,uB⟩
 rw[if_neg c1]at H
 have c1b0:decide (8<(l0.length:Int))=false:=decide_eq_false c1
 have c1b1:decide (8<l0.length)=false:=decide_eq_false (by omega)
 clear c1
 have H':=C H
 clear H
 go_enter func127,ntmps127
 go_wp2
 repeat(go_quiet (fail);try go_wp2)
 go_loopg [10] k (fun kq v10 w'=>∃(x1_1:Int),v10=V I x1_1∧D (impl_SpansOk.l0 kq l0 l0 (l0.length:Int) x1_1=some r)∧D (kq≤k)∧D (Below w.heap.size w w'))
 case atStart=>exact⟨(0),rS,H',⟨Nat.le_refl _⟩,⟨uB⟩⟩
 case round=>
  clear H'
  obtain⟨x1_1,rfl,HA,HK1,HB⟩:=hrel
  cases gk with
  |zero=>exact absurd HA.out (by simp[impl_SpansOk.l0])
  |succ k1=>
   have H:=HA.out
   clear HA
   simp only[impl_SpansOk.l0]at H
   by_cases c2:x1_1<(l0.length:Int)
   rotate_left
   ·rw[if_neg c2]at H
    replace c2:=decide_eq_false c2
    obtain rfl:=si H
    go_wp2
    repeat(go_quiet (fail);try go_wp2)
    go_ret
    exact⟨rE,uB⟩
   rw[if_pos c2]at H
   replace c2:=decide_eq_true c2
   obtain⟨c3,H⟩:=np H
   replace c3:=decide_eq_true c3
   obtain⟨c4,H⟩:=np H
   replace c4:=decide_eq_true c4
   by_cases c5:((rd_T114 l0 x1_1).f0) ≥ ((rd_T114 l0 x1_1).f1)
   ·rw[if_pos c5]at H
    replace c5:=decide_eq_true c5
    obtain rfl:=si H
    have p1:0≤(x1_1:Int):=oT
    have q1:x1_1<(l0.length:Int):=oT
    obtain⟨ad1,e1,hx1_0,hx1_1⟩:=at_T114 (Kd.C_below HR1.out HB.out) x1_1 p1 q1
    cases e1
    replace p1:=eq_true p1
    replace q1:=eq_true q1
    go_wp2_with (first|((with_reducible refine J (N:=4) rfl ?_);refine Fix.be 4 #[V I 0,V I 0] 114 ?_;intro gb1 hg w1 BK1 hb;have GW1:=gE (w:=w) hg;have GE1:=GW1;replace HB:=eB hb;clear hb hg;have hcz1_0:w1.cell? ⟨gb1,0,none⟩=some (V I 0):=(blk_cell BK1.out 0).trans rfl;have hcz1_1:w1.cell? ⟨gb1,1,none⟩=some (V I 0):=(blk_cell BK1.out 1).trans rfl;have hfz1_0:=blk_frozen BK1.out 0;have hfz1_1:=blk_frozen BK1.out 1))
    repeat(go_quiet (fail);try go_wp2_with (first|((with_reducible refine J (N:=4) rfl ?_);refine Fix.be 4 #[V I 0,V I 0] 114 ?_;intro gb1 hg w1 BK1 hb;have GW1:=gE (w:=w) hg;have GE1:=GW1;replace HB:=eB hb;clear hb hg;have hcz1_0:w1.cell? ⟨gb1,0,none⟩=some (V I 0):=(blk_cell BK1.out 0).trans rfl;have hcz1_1:w1.cell? ⟨gb1,1,none⟩=some (V I 0):=(blk_cell BK1.out 1).trans rfl;have hfz1_0:=blk_frozen BK1.out 0;have hfz1_1:=blk_frozen BK1.out 1)))
    go_ret
    exact⟨rE,uB⟩
   rw[if_neg c5]at H
   replace c5:=decide_eq_false c5
   by_cases c6:x1_1 >0
   rotate_left
   ·rw[if_neg c6]at H
    replace c6:=decide_eq_false c6
    have H':=C H
    clear H
    have p1:0≤(x1_1:Int):=oT
    have q1:x1_1<(l0.length:Int):=oT
    obtain⟨ad1,e1,hx1_0,hx1_1⟩:=at_T114 (Kd.C_below HR1.out HB.out) x1_1 p1 q1
    cases e1
    replace p1:=eq_true p1
    replace q1:=eq_true q1
    go_wp2_with (first|((with_reducible refine J (N:=4) rfl ?_);refine Fix.be 4 #[V I 0,V I 0] 114 ?_;intro gb1 hg w1 BK1 hb;have GW1:=gE (w:=w) hg;have GE1:=GW1;replace HB:=eB hb;clear hb hg;have hcz1_0:w1.cell? ⟨gb1,0,none⟩=some (V I 0):=(blk_cell BK1.out 0).trans rfl;have hcz1_1:w1.cell? ⟨gb1,1,none⟩=some (V I 0):=(blk_cell BK1.out 1).trans rfl;have hfz1_0:=blk_frozen BK1.out 0;have hfz1_1:=blk_frozen BK1.out 1))
    repeat(go_quiet (fail);try go_wp2_with (first|((with_reducible refine J (N:=4) rfl ?_);refine Fix.be 4 #[V I 0,V I 0] 114 ?_;intro gb1 hg w1 BK1 hb;have GW1:=gE (w:=w) hg;have GE1:=GW1;replace HB:=eB hb;clear hb hg;have hcz1_0:w1.cell? ⟨gb1,0,none⟩=some (V I 0):=(blk_cell BK1.out 0).trans rfl;have hcz1_1:w1.cell? ⟨gb1,1,none⟩=some (V I 0):=(blk_cell BK1.out 1).trans rfl;have hfz1_0:=blk_frozen BK1.out 0;have hfz1_1:=blk_frozen BK1.out 1)))
    go_roundg k1
    case measure=>have:=HK1.out;omega
    case rel=>exact⟨(wrap64 (x1_1+1)),rS,H',⟨by have:=HK1.out;omega⟩,⟨uB⟩⟩
   rw[if_pos c6]at H
   replace c6:=decide_eq_true c6
   obtain⟨ji1,hji1⟩:∃j_:Int,(wrap64 (x1_1 - 1))=j_:=⟨_,rfl⟩
   replace H:(if 0≤(ji1) then(if(ji1)<(l0.length:Int) then(if((rd_T114 l0 (ji1)).f1) ≥ ((rd_T114 l0 x1_1).f0) then(some false) else(impl_SpansOk.l0 k1 l0 l0 (l0.length:Int) (wrap64 (x1_1+1)))) else(none)) else(none))=some r:=by first|(rw[hji1]at H;exact H)|(simp only[hji1]at H ⊢;exact H)
   have hji1w:(IntKind.i64.wrap (x1_1 - 1))=ji1:=(i64_w _).trans hji1
   obtain⟨c7,H⟩:=np H
   replace c7:=decide_eq_true c7
   obtain⟨c8,H⟩:=np H
   replace c8:=decide_eq_true c8
   by_cases c9:((rd_T114 l0 (ji1)).f1) ≥ ((rd_T114 l0 x1_1).f0)
   rotate_left
   ·rw[if_neg c9]at H
    replace c9:=decide_eq_false c9
    have H':=C H
    clear H
    have p1:0≤(x1_1:Int):=oT
    have q1:x1_1<(l0.length:Int):=oT
    obtain⟨ad1,e1,hx1_0,hx1_1⟩:=at_T114 (Kd.C_below HR1.out HB.out) x1_1 p1 q1
    cases e1
    replace p1:=eq_true p1
    replace q1:=eq_true q1
    go_wp2_with (first|((with_reducible refine J (N:=4) rfl ?_);refine Fix.be 4 #[V I 0,V I 0] 114 ?_;intro gb1 hg w1 BK1 hb;have GW1:=gE (w:=w) hg;have GE1:=GW1;replace HB:=eB hb;clear hb hg;have hcz1_0:w1.cell? ⟨gb1,0,none⟩=some (V I 0):=(blk_cell BK1.out 0).trans rfl;have hcz1_1:w1.cell? ⟨gb1,1,none⟩=some (V I 0):=(blk_cell BK1.out 1).trans rfl;have hfz1_0:=blk_frozen BK1.out 0;have hfz1_1:=blk_frozen BK1.out 1;have p2:0≤((ji1):Int):=oT;have q2:(ji1)<(l0.length:Int):=oT;obtain⟨ad2,e2,hx2_0,hx2_1⟩:=at_T114 HR1.out (ji1) p2 q2;obtain rfl:ad1=ad2:=(by injection e2);have hn1_0:ad1.block≠gb1:=Nat.ne_of_lt (Nat.lt_of_lt_of_le (by have:=E _ _ hx2_0;first|rwa [add_block]at this|exact this) GW1.out);have hn1_1:ad1.block≠gb1:=Nat.ne_of_lt (Nat.lt_of_lt_of_le (by have:=E _ _ hx2_0;first|rwa [add_block]at this|exact this) GW1.out);replace hx2_0:=hx HB hx2_0;replace hx2_1:=hx HB hx2_1;replace hx2_0:=cg2 (g:=gb1) (nm hn1_0) (V I ((rd_T114 l0 x1_1).f0)) (V I ((rd_T114 l0 x1_1).f1)) hx2_0;replace hx2_1:=cg2 (g:=gb1) (nm hn1_0) (V I ((rd_T114 l0 x1_1).f0)) (V I ((rd_T114 l0 x1_1).f1)) hx2_1;(try have hy1_0:=dn2 hx2_0);(try have hy1_1:=dn2 hx2_1);clear hn1_0;clear hn1_1;replace p2:=eq_true p2;replace q2:=eq_true q2))
    repeat(go_quiet (fail);try go_wp2_with (first|((with_reducible refine J (N:=4) rfl ?_);refine Fix.be 4 #[V I 0,V I 0] 114 ?_;intro gb1 hg w1 BK1 hb;have GW1:=gE (w:=w) hg;have GE1:=GW1;replace HB:=eB hb;clear hb hg;have hcz1_0:w1.cell? ⟨gb1,0,none⟩=some (V I 0):=(blk_cell BK1.out 0).trans rfl;have hcz1_1:w1.cell? ⟨gb1,1,none⟩=some (V I 0):=(blk_cell BK1.out 1).trans rfl;have hfz1_0:=blk_frozen BK1.out 0;have hfz1_1:=blk_frozen BK1.out 1;have p2:0≤((ji1):Int):=oT;have q2:(ji1)<(l0.length:Int):=oT;obtain⟨ad2,e2,hx2_0,hx2_1⟩:=at_T114 HR1.out (ji1) p2 q2;obtain rfl:ad1=ad2:=(by injection e2);have hn1_0:ad1.block≠gb1:=Nat.ne_of_lt (Nat.lt_of_lt_of_le (by have:=E _ _ hx2_0;first|rwa [add_block]at this|exact this) GW1.out);have hn1_1:ad1.block≠gb1:=Nat.ne_of_lt (Nat.lt_of_lt_of_le (by have:=E _ _ hx2_0;first|rwa [add_block]at this|exact this) GW1.out);replace hx2_0:=hx HB hx2_0;replace hx2_1:=hx HB hx2_1;replace hx2_0:=cg2 (g:=gb1) (nm hn1_0) (V I ((rd_T114 l0 x1_1).f0)) (V I ((rd_T114 l0 x1_1).f1)) hx2_0;replace hx2_1:=cg2 (g:=gb1) (nm hn1_0) (V I ((rd_T114 l0 x1_1).f0)) (V I ((rd_T114 l0 x1_1).f1)) hx2_1;(try have hy1_0:=dn2 hx2_0);(try have hy1_1:=dn2 hx2_1);clear hn1_0;clear hn1_1;replace p2:=eq_true p2;replace q2:=eq_true q2)))
    go_roundg k1
    case measure=>have:=HK1.out;omega
    case rel=>exact⟨(wrap64 (x1_1+1)),rS,H',⟨by have:=HK1.out;omega⟩,⟨uB⟩⟩
   rw[if_pos c9]at H
   replace c9:=decide_eq_true c9
   obtain rfl:=si H
   have p1:0≤(x1_1:Int):=oT
   have q1:x1_1<(l0.length:Int):=oT
   obtain⟨ad1,e1,hx1_0,hx1_1⟩:=at_T114 (Kd.C_below HR1.out HB.out) x1_1 p1 q1
   cases e1
   replace p1:=eq_true p1
   replace q1:=eq_true q1
   go_wp2_with (first|((with_reducible refine J (N:=4) rfl ?_);refine Fix.be 4 #[V I 0,V I 0] 114 ?_;intro gb1 hg w1 BK1 hb;have GW1:=gE (w:=w) hg;have GE1:=GW1;replace HB:=eB hb;clear hb hg;have hcz1_0:w1.cell? ⟨gb1,0,none⟩=some (V I 0):=(blk_cell BK1.out 0).trans rfl;have hcz1_1:w1.cell? ⟨gb1,1,none⟩=some (V I 0):=(blk_cell BK1.out 1).trans rfl;have hfz1_0:=blk_frozen BK1.out 0;have hfz1_1:=blk_frozen BK1.out 1;have p2:0≤((ji1):Int):=oT;have q2:(ji1)<(l0.length:Int):=oT;obtain⟨ad2,e2,hx2_0,hx2_1⟩:=at_T114 HR1.out (ji1) p2 q2;obtain rfl:ad1=ad2:=(by injection e2);have hn1_0:ad1.block≠gb1:=Nat.ne_of_lt (Nat.lt_of_lt_of_le (by have:=E _ _ hx2_0;first|rwa [add_block]at this|exact this) GW1.out);have hn1_1:ad1.block≠gb1:=Nat.ne_of_lt (Nat.lt_of_lt_of_le (by have:=E _ _ hx2_0;first|rwa [add_block]at this|exact this) GW1.out);replace hx2_0:=hx HB hx2_0;replace hx2_1:=hx HB hx2_1;replace hx2_0:=cg2 (g:=gb1) (nm hn1_0) (V I ((rd_T114 l0 x1_1).f0)) (V I ((rd_T114 l0 x1_1).f1)) hx2_0;replace hx2_1:=cg2 (g:=gb1) (nm hn1_0) (V I ((rd_T114 l0 x1_1).f0)) (V I ((rd_T114 l0 x1_1).f1)) hx2_1;(try have hy1_0:=dn2 hx2_0);(try have hy1_1:=dn2 hx2_1);clear hn1_0;clear hn1_1;replace p2:=eq_true p2;replace q2:=eq_true q2))
   repeat(go_quiet (fail);try go_wp2_with (first|((with_reducible refine J (N:=4) rfl ?_);refine Fix.be 4 #[V I 0,V I 0] 114 ?_;intro gb1 hg w1 BK1 hb;have GW1:=gE (w:=w) hg;have GE1:=GW1;replace HB:=eB hb;clear hb hg;have hcz1_0:w1.cell? ⟨gb1,0,none⟩=some (V I 0):=(blk_cell BK1.out 0).trans rfl;have hcz1_1:w1.cell? ⟨gb1,1,none⟩=some (V I 0):=(blk_cell BK1.out 1).trans rfl;have hfz1_0:=blk_frozen BK1.out 0;have hfz1_1:=blk_frozen BK1.out 1;have p2:0≤((ji1):Int):=oT;have q2:(ji1)<(l0.length:Int):=oT;obtain⟨ad2,e2,hx2_0,hx2_1⟩:=at_T114 HR1.out (ji1) p2 q2;obtain rfl:ad1=ad2:=(by injection e2);have hn1_0:ad1.block≠gb1:=Nat.ne_of_lt (Nat.lt_of_lt_of_le (by have:=E _ _ hx2_0;first|rwa [add_block]at this|exact this) GW1.out);have hn1_1:ad1.block≠gb1:=Nat.ne_of_lt (Nat.lt_of_lt_of_le (by have:=E _ _ hx2_0;first|rwa [add_block]at this|exact this) GW1.out);replace hx2_0:=hx HB hx2_0;replace hx2_1:=hx HB hx2_1;replace hx2_0:=cg2 (g:=gb1) (nm hn1_0) (V I ((rd_T114 l0 x1_1).f0)) (V I ((rd_T114 l0 x1_1).f1)) hx2_0;replace hx2_1:=cg2 (g:=gb1) (nm hn1_0) (V I ((rd_T114 l0 x1_1).f0)) (V I ((rd_T114 l0 x1_1).f1)) hx2_1;(try have hy1_0:=dn2 hx2_0);(try have hy1_1:=dn2 hx2_1);clear hn1_0;clear hn1_1;replace p2:=eq_true p2;replace q2:=eq_true q2)))
   go_ret
   exact⟨by first|rfl|(simp[errW_none,errW_some]<;>rfl)|(simp only[←hji1];first|rfl|(simp[errW_none,errW_some]<;>rfl))|(simp[*,errW_none,errW_some]<;>rfl),uB⟩
def impl_MeetSpans.l0:Nat→Int→Int→List (S114)→List (S114)→Int→Int→Option ((List (S114)))
  |0,_,_,_,_,_,_=>none
  |k+1,x1,x2,x7,x14,x15,x16=>if x16<x15 then(if 0≤x16 then(if x16<(x14.length:Int) then(if(mx ((rd_T114 x14 x16).f0) x1)<(mn ((rd_T114 x14 x16).f1) x2) then(if x7.length<8796093022208 then(impl_MeetSpans.l0 k x1 x2 (x7++ [(⟨mx ((rd_T114 x14 x16).f0) x1,mn ((rd_T114 x14 x16).f1) x2⟩:S114)]) x14 x15 (wrap64 (x16+1))) else(none)) else(impl_MeetSpans.l0 k x1 x2 x7 x14 x15 (wrap64 (x16+1)))) else(none)) else(none)) else(some x7)
def impl_MeetSpans.f (k:Nat) (l0:List (S114)) (a1:Int) (a2:Int):Option ((List (S114))):=(impl_SpansOk.f k l0).bind fun t422=>(if t422=true then(impl_MeetSpans.l0 k a1 a2 ([]:List (S114)) l0 (l0.length:Int) 0) else(some ([]:List (S114))))
theorem impl_MeetSpans.W1 {p:Prop} (h:p:=by
 go_wp2_with (first|((with_reducible refine J (N:=9) rfl ?_);refine Fix.be 9 #[V I 0,V I 0] 114 ?_;intro gb1 hg w2 BK1 hb;have GW1:=gE (w:=w) hg;replace HO_1:=C (Kd.R_below (Kd.R_elderB (uR HO_1.out) gb1 (Nat.le_of_eq hg.symm)) hb);replace HB:=eB hb;clear hb hg;have hcz1_0:w2.cell? ⟨gb1,0,none⟩=some (V I 0):=(blk_cell BK1.out 0).trans rfl;have hcz1_1:w2.cell? ⟨gb1,1,none⟩=some (V I 0):=(blk_cell BK1.out 1).trans rfl;have hfz1_0:=blk_frozen BK1.out 0;have hfz1_1:=blk_frozen BK1.out 1)|((with_reducible refine J (N:=10) rfl ?_);refine Fix.be 10 #[V I 0,V I 0] 114 ?_;intro gb2 hg w3 BK2 hb;have GW2:=gE (w:=w) hg;have n0:=C ((by rw[hg];exact Nat.ne_of_lt (blk_lt (g:=gb1) (o:=.cells #[V I ((rd_T114 l0 x2_1).f0),V I ((rd_T114 l0 x2_1).f1)] 114 (0,0)) (bK BK1.out)):gb1≠gb2));have n1:=C ((by rw[hg];exact Nat.ne_of_gt (blk_lt (g:=gb1) (o:=.cells #[V I ((rd_T114 l0 x2_1).f0),V I ((rd_T114 l0 x2_1).f1)] 114 (0,0)) (bK BK1.out)):gb2≠gb1));replace HO_1:=C (Kd.R_below (Kd.R_elderB (Kd.R_mono (fR (Kd.R_mono HO_1.out (fun k_ hk=>(⟨hk,hk.2⟩:_∧k_≠gb1)))) (fun _ h_=>h_.1)) gb2 (Nat.le_of_eq hg.symm)) hb);replace BK1:=C (blk_below (g:=gb1) (o:=.cells #[V I ((rd_T114 l0 x2_1).f0),V I ((rd_T114 l0 x2_1).f1)] 114 (0,0)) (bK BK1.out) hb);replace HB:=eB hb;clear hb hg;have:=n1.out;have:=n0.out;have hcz2_0:w3.cell? ⟨gb2,0,none⟩=some (V I 0):=(blk_cell BK2.out 0).trans rfl;have hcz2_1:w3.cell? ⟨gb2,1,none⟩=some (V I 0):=(blk_cell BK2.out 1).trans rfl;have hfz2_0:=blk_frozen BK2.out 0;have hfz2_1:=blk_frozen BK2.out 1)|((with_reducible refine gate_builtin (b:=.append) (xs:= #[.tmp 34,.tmp 36]) rfl ?_);at_builtin;refine Kd.R_append k114 (w0:=w) w.heap.size rfl (.tmp 34) (.tmp 36) 111 114 (G #[(V I 0),(V I 0)]) 16 rfl underlying111 info114 rfl (by decide) (by omega) u7 x1_1 (⟨ji1,ji2⟩:S114) [V I ji1,V I ji2] (fun k_=>k_≠gb1∧k_≠gb2) (fun _=>False) rfl (by first|(go_simp;done)|(go_simp;rfl)) ?aP (fun _ hk=>hk.elim) ?aF ?aO ?aB ?aS ?aL ?_;(case aP=>exact k114_mkM _ _ _ (⟨ji1,ji2⟩:S114));(case aB=>exact uB);(case aF=>exact(fun k_ hk=>⟨Kd.freshB (g:=gb1) (o:=.cells #[V I ((rd_T114 l0 x2_1).f0),V I ((rd_T114 l0 x2_1).f1)] 114 (0,0)) (bK BK1.out) k_ hk,Kd.freshB (g:=gb2) (o:=.cells #[V I ji1,V I ji2] 114 (0,0)) (bK BK2.out) k_ hk⟩));(case aO=>exact(Kd.R_mono (fR (Kd.R_mono HO_1.out (fun k_ hk=>(⟨hk,hk.2⟩:_∧k_≠gb2)))) pj));(case aS=>exact(below_size uB));(case aL=>have:=LMc1.out;omega);intro v1 w4 ho hb hg hat;rw[←Ny1.out]at ho;have HO1:=C (ho);replace BK1:=gK BK1 hg (Kd.R_away HO_1.out (fun _ hk=>hk.1.2));replace BK2:=C (blk_grown (g:=gb2) (o:=.cells #[V I ji1,V I ji2] 114 (0,0)) (bK BK2.out) hg (Kd.R_away HO_1.out (fun _ hk=>hk.2)));replace HB:=C (hb);clear HO_1;clear ho hb hg hat))
 go_roundg k1
 case measure=>have:=HK1.out;omega
 first
  |(case rel=>exact⟨(y1),(wrap64 (x2_1+1)),rS,H',⟨by have:=HK1.out;omega⟩,⟨Kd.R_mono (fR HO1.out) (fun _ hk=>trivial)⟩,⟨uB⟩⟩)
  |(case rel=>exact⟨(x1_1),(wrap64 (x2_1+1)),rS,H',⟨by have:=HK1.out;omega⟩,⟨Kd.R_mono (fR (Kd.R_mono HO_1.out (fun k_ hk=>(⟨hk,hk.2⟩:_∧k_≠gb2)))) (fun _ hk=>trivial)⟩,⟨uB⟩⟩)):p:=h
theorem impl_MeetSpans.calls (k:Nat) (A0:Option Addr) (c0:Nat) (l0:List (S114)) (a1:Int) (a2:Int) (r:List (S114)) (w:World) (hr0:Kd.C k114 w A0 l0.length l0) (hc0:l0.length≤c0) (h:impl_MeetSpans.f k l0 a1 a2=some r):
 Calls prog 117 #[L A0 l0.length c0,V I a1,V I a2] w fun e w'=>∃v0_:Value,e=.returned (v0_)∧Kd.R k114 114 w' w.heap.size (fun _=>True) v0_ r∧Below w.heap.size w w':=by
 have hu1:=underlying114
 have HR1:=C hr0
 have HC1:=C hc0
 (try clear hr0);(try clear hc0)
 have HB:=C (Below.refl w.heap.size w)
 have H:=h
 unfold impl_MeetSpans.f at H
 clear h
 obtain⟨t1,A1,H⟩:=bnd H
 by_cases c1:t1=true
 rotate_left
 ·obtain rfl:=nt c1
  replace H:=nf H
  obtain rfl:=si H
  go_enter func117,ntmps117
  go_wp2_with (first|((with_reducible refine F (f:=127) rfl ?_);refine gl 127 (some 12) func127 #[L A0 l0.length c0] ?_;(with_reducible refine(impl_SpansOk.calls k _ _ l0 false _ ?side1 HC1.out A1.out).mono ?_);(case side1=>exact uC HR1.out);rintro e w1 ⟨rfl,hb⟩;refine⟨_,rfl,?_⟩;replace HB:=eB hb;clear hb))
  go_ret
  exact⟨_,rE,rN,uB⟩
 subst c1
 rw[if_pos rfl]at H
 have H':=C H
 clear H
 go_enter func117,ntmps117
 go_wp2_with (first|((with_reducible refine F (f:=127) rfl ?_);refine gl 127 (some 12) func127 #[L A0 l0.length c0] ?_;(with_reducible refine(impl_SpansOk.calls k _ _ l0 true _ ?side1 HC1.out A1.out).mono ?_);(case side1=>exact uC HR1.out);rintro e w1 ⟨rfl,hb⟩;refine⟨_,rfl,?_⟩;replace HB:=eB hb;clear hb))
 go_loopg [7,16] k (fun kq v7 v16 w'=>∃(x1_1:List (S114)) (x2_1:Int),v16=V I x2_1∧D (impl_MeetSpans.l0 kq a1 a2 x1_1 l0 (l0.length:Int) x2_1=some r)∧D (kq≤k)∧D (Kd.R k114 114 w' w.heap.size (fun _=>True) v7 x1_1)∧D (Below w.heap.size w w'))
 case atStart=>exact⟨(([]:List (S114))),(0),rS,H',⟨Nat.le_refl _⟩,⟨rN⟩,⟨uB⟩⟩
 case round=>
  clear H'
  obtain⟨x1_1,x2_1,rfl,HA,HK1,HO_1,HB⟩:=hrel
  cases gk with
  |zero=>exact absurd HA.out (by simp[impl_MeetSpans.l0])
  |succ k1=>
   have H:=HA.out
   clear HA
   simp only[impl_MeetSpans.l0]at H
   by_cases c2:x2_1<(l0.length:Int)
   rotate_left
   ·rw[if_neg c2]at H
    replace c2:=decide_eq_false c2
    obtain rfl:=si H
    go_wp2
    go_ret
    exact⟨_,rE,fR HO_1.out,uB⟩
   rw[if_pos c2]at H
   replace c2:=decide_eq_true c2
   obtain⟨c3,H⟩:=np H
   replace c3:=decide_eq_true c3
   obtain⟨c4,H⟩:=np H
   replace c4:=decide_eq_true c4
   obtain⟨ji1,hji1⟩:∃j_:Int,(mx ((rd_T114 l0 x2_1).f0) a1)=j_:=⟨_,rfl⟩
   replace H:(if(ji1)<(mn ((rd_T114 l0 x2_1).f1) a2) then(if x1_1.length<8796093022208 then(impl_MeetSpans.l0 k1 a1 a2 (x1_1++ [(⟨ji1,mn ((rd_T114 l0 x2_1).f1) a2⟩:S114)]) l0 (l0.length:Int) (wrap64 (x2_1+1))) else(none)) else(impl_MeetSpans.l0 k1 a1 a2 x1_1 l0 (l0.length:Int) (wrap64 (x2_1+1))))=some r:=by first|(rw[hji1]at H;exact H)|(simp only[hji1]at H ⊢;exact H)
   have hji1_:(if((rd_T114 l0 x2_1).f0)<a1 then a1 else((rd_T114 l0 x2_1).f0))=ji1:=hji1
   obtain⟨ji2,hji2⟩:∃j_:Int,(mn ((rd_T114 l0 x2_1).f1) a2)=j_:=⟨_,rfl⟩
   replace H:(if(ji1)<(ji2) then(if x1_1.length<8796093022208 then(impl_MeetSpans.l0 k1 a1 a2 (x1_1++ [(⟨ji1,ji2⟩:S114)]) l0 (l0.length:Int) (wrap64 (x2_1+1))) else(none)) else(impl_MeetSpans.l0 k1 a1 a2 x1_1 l0 (l0.length:Int) (wrap64 (x2_1+1))))=some r:=by first|(rw[hji2]at H;exact H)|(simp only[hji2]at H ⊢;exact H)
   have hji2_:(if a2<((rd_T114 l0 x2_1).f1) then a2 else((rd_T114 l0 x2_1).f1))=ji2:=hji2
   by_cases c5:(ji1)<(ji2)
   rotate_left
   ·rw[if_neg c5]at H
    replace c5:=decide_eq_false c5
    have H':=C H
    clear H
    have p1:0≤(x2_1:Int):=oT
    have q1:x2_1<(l0.length:Int):=oT
    obtain⟨ad1,e1,hx1_0,hx1_1⟩:=at_T114 (Kd.C_below HR1.out HB.out) x2_1 p1 q1
    cases e1
    replace p1:=eq_true p1
    replace q1:=eq_true q1
    exact impl_MeetSpans.W1
   rw[if_pos c5]at H
   replace c5:=decide_eq_true c5
   obtain⟨c6,H⟩:=np H
   have LMc1:=C c6
   clear c6
   obtain⟨y1,hy1⟩:∃y_:List (S114),y_=(x1_1++ [(⟨ji1,ji2⟩:S114)]):=⟨_,rfl⟩
   replace H:(impl_MeetSpans.l0 k1 a1 a2 y1 l0 (l0.length:Int) (wrap64 (x2_1+1)))=some r:=gy hy1 H
   have Ny1:=C hy1
   clear hy1
   have H':=C H
   clear H
   have p1:0≤(x2_1:Int):=oT
   have q1:x2_1<(l0.length:Int):=oT
   obtain⟨ad1,e1,hx1_0,hx1_1⟩:=at_T114 (Kd.C_below HR1.out HB.out) x2_1 p1 q1
   cases e1
   replace p1:=eq_true p1
   replace q1:=eq_true q1
   exact impl_MeetSpans.W1
def impl_pathOk.f (k:Nat) (l0:List (S126)):Option (Bool):=if(l0.length:Int)≤8 then((impl_pointsOk.f k l0).bind fun t429=>(some t429)) else(some false)
theorem impl_pathOk.calls (k:Nat) (A0:Option Addr) (c0:Nat) (l0:List (S126)) (r:Bool) (w:World) (hr0:Kd.C k126 w A0 l0.length l0) (hc0:l0.length≤c0) (h:impl_pathOk.f k l0=some r):
 Calls prog 128 #[L A0 l0.length c0] w fun e w'=>e=.returned (.bool r)∧Below w.heap.size w w':=by
 have HR1:=C hr0
 have HC1:=C hc0
 (try clear hr0);(try clear hc0)
 have HB:=C (Below.refl w.heap.size w)
 have H:=h
 unfold impl_pathOk.f at H
 clear h
 by_cases c1:(l0.length:Int)≤8
 rotate_left
 ·rw[if_neg c1]at H
  have c1b0:decide ((l0.length:Int)≤8)=false:=decide_eq_false c1
  have c1b1:decide (l0.length≤8)=false:=decide_eq_false (by omega)
  clear c1
  obtain rfl:=si H
  go_enter func128,ntmps128
  go_wp2
  go_ret
  exact⟨rE,uB⟩
 rw[if_pos c1]at H
 have c1b0:decide ((l0.length:Int)≤8)=true:=decide_eq_true c1
 have c1b1:decide (l0.length≤8)=true:=decide_eq_true (by omega)
 clear c1
 obtain⟨t1,A1,H⟩:=bnd H
 obtain rfl:=si H
 go_enter func128,ntmps128
 go_wp2_with (first|(go_at_call 108;(with_reducible refine(impl_pointsOk.calls k _ _ l0 t1 _ ?side1 HC1.out A1.out).mono ?_);(case side1=>exact uC HR1.out);rintro e w1 ⟨rfl,hb⟩;replace HB:=eB hb;clear hb))
 go_ret
 exact⟨rE,uB⟩
def impl_crosses.f (a0_0:Int) (a0_1:Int) (a1_0:Int) (a1_1:Int) (a2:Int) (a3:Int):Option (Bool):=if((decide (a0_1 >a3))==(decide (a1_1 >a3)))=true then(some false) else(if(wrap64 (a1_1 - a0_1))<0 then(some (decide ((wrap64 ((wrap64 ((wrap64 (2 * a0_0)) * (wrap64 (a1_1 - a0_1))))+(wrap64 ((wrap64 ((wrap64 ((wrap64 (2 * a3))+1)) - (wrap64 (2 * a0_1)))) * (wrap64 (a1_0 - a0_0))))))<(wrap64 ((wrap64 ((wrap64 (2 * a2))+1)) * (wrap64 (a1_1 - a0_1))))))) else(some (decide ((wrap64 ((wrap64 ((wrap64 (2 * a0_0)) * (wrap64 (a1_1 - a0_1))))+(wrap64 ((wrap64 ((wrap64 ((wrap64 (2 * a3))+1)) - (wrap64 (2 * a0_1)))) * (wrap64 (a1_0 - a0_0)))))) >(wrap64 ((wrap64 ((wrap64 (2 * a2))+1)) * (wrap64 (a1_1 - a0_1))))))))
theorem impl_crosses.W1 {p:Prop} (h:p:=by
 go_enter func130,ntmps130
 go_wp2_with (first|((with_reducible refine J (N:=4) rfl ?_);refine Fix.be 4 #[V I a0_0,V I a0_1] 126 ?_;intro gb1 hg w1 BK1 hb;have GW1:=gE (w:=w) hg;replace HB:=eB hb;clear hb hg)|((with_reducible refine J (N:=5) rfl ?_);refine Fix.be 5 #[V I a1_0,V I a1_1] 126 ?_;intro gb2 hg w2 BK2 hb;have GW2:=gE (w:=w) hg;have n0:=nL hg BK1;have n1:=nG hg BK1;replace BK1:=eK BK1 hb;replace HB:=eB hb;clear hb hg;have:=n0.out;have:=n1.out;have hcz1_0:w2.cell? ⟨gb1,0,none⟩=some (V I a0_0):=(blk_cell BK1.out 0).trans rfl;have hcz1_1:w2.cell? ⟨gb1,1,none⟩=some (V I a0_1):=(blk_cell BK1.out 1).trans rfl;have hfz1_0:=blk_frozen BK1.out 0;have hfz1_1:=blk_frozen BK1.out 1;have hcz2_0:w2.cell? ⟨gb2,0,none⟩=some (V I a1_0):=(blk_cell BK2.out 0).trans rfl;have hcz2_1:w2.cell? ⟨gb2,1,none⟩=some (V I a1_1):=(blk_cell BK2.out 1).trans rfl;have hfz2_0:=blk_frozen BK2.out 0;have hfz2_1:=blk_frozen BK2.out 1))
 go_ret
 exact⟨rE,uB⟩):p:=h
theorem impl_crosses.calls (a0_0:Int) (a0_1:Int) (a1_0:Int) (a1_1:Int) (a2:Int) (a3:Int) (r:Bool) (w:World) (h:impl_crosses.f a0_0 a0_1 a1_0 a1_1 a2 a3=some r):
 Calls prog 130 #[G #[V I a0_0,V I a0_1],G #[V I a1_0,V I a1_1],V I a2,V I a3] w fun e w'=>e=.returned (.bool r)∧Below w.heap.size w w':=by
 have hu1:=underlying126
 have HB:=C (Below.refl w.heap.size w)
 have H:=h
 unfold impl_crosses.f at H
 clear h
 by_cases c1:((decide (a0_1 >a3))==(decide (a1_1 >a3)))=true
 ·rw[if_pos c1]at H
  have c1b0:((decide (a0_1 >a3))==(decide (a1_1 >a3)))=true:=c1
  (try(have c1b1:decide ((decide (a0_1 >a3))=(decide (a1_1 >a3)))=true:=by simpa using c1))
  (try(have c1b2:((decide (a0_1 >a3))==(decide (a1_1 >a3)))=true:=by simpa using c1))
  clear c1
  obtain rfl:=si H
  exact impl_crosses.W1
 rw[if_neg c1]at H
 have c1b0:((decide (a0_1 >a3))==(decide (a1_1 >a3)))=false:=by simpa using c1
 (try(have c1b1:decide ((decide (a0_1 >a3))=(decide (a1_1 >a3)))=false:=by simpa using c1))
 (try(have c1b2:((decide (a0_1 >a3))==(decide (a1_1 >a3)))=false:=by simpa using c1))
 (try(have c1b3:¬((decide (a0_1 >a3))=(decide (a1_1 >a3))):=by simpa using c1))
 clear c1
 by_cases c2:(wrap64 (a1_1 - a0_1))<0
 ·rw[if_pos c2]at H
  replace c2:=decide_eq_true c2
  obtain rfl:=si H
  exact impl_crosses.W1
 rw[if_neg c2]at H
 replace c2:=decide_eq_false c2
 obtain rfl:=si H
 exact impl_crosses.W1
mutual
def impl_InsidePath.j0:Nat→List (S126)→Int→Int→Bool→Option (Bool)
  |0,_,_,_,_=>none
  |k+1,x0,x1,x2,x22=>if x22=true then(some false) else(impl_InsidePath.l0 k x0 x1 x2 false x0 (x0.length:Int) 0)
def impl_InsidePath.l0:Nat→List (S126)→Int→Int→Bool→List (S126)→Int→Int→Option (Bool)
  |0,_,_,_,_,_,_,_=>none
  |k+1,x0,x1,x2,x7,x23,x24,x25=>if x25<x24 then(if 0≤x25 then(if x25<(x23.length:Int) then(if(x0.length:Int)=0 then(none) else(if 0≤(Int.tmod (wrap64 (x25+1)) (x0.length:Int)) then(if(Int.tmod (wrap64 (x25+1)) (x0.length:Int))<(x0.length:Int) then((impl_crosses.f ((rd_T126 x23 x25).f0) ((rd_T126 x23 x25).f1) ((rd_T126 x0 (Int.tmod (wrap64 (x25+1)) (x0.length:Int))).f0) ((rd_T126 x0 (Int.tmod (wrap64 (x25+1)) (x0.length:Int))).f1) x1 x2).bind fun t438=>(if t438=true then(impl_InsidePath.l0 k x0 x1 x2 (!x7) x23 x24 (wrap64 (x25+1))) else(impl_InsidePath.l0 k x0 x1 x2 x7 x23 x24 (wrap64 (x25+1))))) else(none)) else(none))) else(none)) else(none)) else(some x7)
end
def impl_InsidePath.f (k:Nat) (l0:List (S126)) (a1:Int) (a2:Int):Option (Bool):=(impl_pathOk.f k l0).bind fun t432=>(if t432=true then((impl_coordOk.f a1).bind fun t433=>(if t433=true then((impl_coordOk.f a2).bind fun t434=>(impl_InsidePath.j0 k l0 a1 a2 (!t434))) else(impl_InsidePath.j0 k l0 a1 a2 true))) else(impl_InsidePath.j0 k l0 a1 a2 true))
def impl_InsidePath.T7:Bool×List (List Nat×List Nat):=(true,[([],[]),([],[]),([],[]),([2],[2]),([],[]),([4],[4]),([3,5],[3,5]),([1,6],[1,6]),([7],[7]),([],[]),([],[]),([0,8,9,10],[0,8,9,10])])
def impl_InsidePath.B7:List Nat:= [0,0,0,4,0,16,60,126,254,0,0,2047]
theorem impl_InsidePath.tab7:rtab .any (opsOf Try.f129 7)=impl_InsidePath.T7:=by kernel_rfl
theorem impl_InsidePath.bits7:waitsOk impl_InsidePath.T7.2 impl_InsidePath.B7=true:=by kernel_rfl
theorem impl_InsidePath.W1 {p:Prop} (h:p:=by
 go_wp2_with (first|((with_reducible refine F (f:=128) rfl ?_);refine gl 128 (some 11) func128 #[L A0 l0.length c0] ?_;(with_reducible refine(impl_pathOk.calls k _ _ l0 true _ ?side1 HC1.out A1.out).mono ?_);(case side1=>exact uZ HR1);rintro e w1 ⟨rfl,hb⟩;refine⟨_,rfl,?_⟩;replace HB:=eB hb;clear hb)|(go_at_call 121;(with_reducible refine(impl_coordOk.calls a1 true _ A2.out).mono ?_);rintro e w' ⟨rfl,⟨nd,rfl⟩⟩)|(go_at_call 121;(with_reducible refine(impl_coordOk.calls a2 t3 _ A3.out).mono ?_);rintro e w' ⟨rfl,⟨nd,rfl⟩⟩)|(go_at_call 121;(with_reducible refine(impl_coordOk.calls a1 false _ A2.out).mono ?_);rintro e w' ⟨rfl,⟨nd,rfl⟩⟩))
 go_meet
 first
  |(case rel=>exact⟨_,(!t3),rS,H',⟨oL⟩,⟨uB⟩⟩)
  |(case rel=>exact⟨_,(true),rS,H',⟨oL⟩,⟨uB⟩⟩)):p:=h
theorem impl_InsidePath.W2 {p:Prop} (h:p:=by
 go_wp2
 go_ret
 exact⟨rE,uB⟩):p:=h
theorem impl_InsidePath.W3 {p:Prop} (h:p:=by
    try go_wp2_with (first|((with_reducible refine J (N:=9) rfl ?_);refine Fix.be 9 #[V I 0,V I 0] 126 ?_;intro gb1 hg w1 BK1 hb;have GW1:=gE (w:=w) hg;replace HB:=eB hb;clear hb hg;have hcz1_0:w1.cell? ⟨gb1,0,none⟩=some (V I 0):=(blk_cell BK1.out 0).trans rfl;have hcz1_1:w1.cell? ⟨gb1,1,none⟩=some (V I 0):=(blk_cell BK1.out 1).trans rfl;have hfz1_0:=blk_frozen BK1.out 0;have hfz1_1:=blk_frozen BK1.out 1))
    obtain⟨w2,hw⟩:∃w_,w_=(w1.setCell ⟨gb1,0,none⟩ (V I ((rd_T126 l0 x3_2).f0))).setCell ⟨gb1,1,none⟩ (V I ((rd_T126 l0 x3_2).f1)):=⟨_,rfl⟩
    (try rw[←hw])
    replace BK1:D (w2.heap[gb1]? =some (.cells #[V I ((rd_T126 l0 x3_2).f0),V I ((rd_T126 l0 x3_2).f1)] 126 (0,0))):=⟨(by rw[hw];exact(bK BK1.out))⟩
    replace HB:=wB hw
    clear hw
    replace BK1:=dK BK1
    replace HB:=dB HB
    have p2:0≤((ji1):Int):=oT
    have q2:(ji1)<(l0.length:Int):=oT
    obtain⟨ad2,e2,hx2_0,hx2_1⟩:=at_T126 HR1.out (ji1) p2 q2
    have hw1_1:=hx2_1
    have hw1_0:=hx2_0
    obtain rfl:ad1=ad2:=(by injection e2)
    replace hx2_0:=hx HB hx2_0
    replace hx2_1:=hx HB hx2_1
    replace p2:=eq_true p2
    replace q2:=eq_true q2
    refine start_ (n:=12) (S:=fun w'=>w'.cell? ⟨gb1,0,none⟩=some (V I ((rd_T126 l0 x3_2).f0))∧w'.cell? ⟨gb1,1,none⟩=some (V I ((rd_T126 l0 x3_2).f1))∧w'.cell? (ad1.add (((ji1)).toNat * 2))=some (V I ((rd_T126 l0 (ji1)).f0))∧w'.cell? ⟨(ad1.add (((ji1)).toNat * 2)).block,(ad1.add (((ji1)).toNat * 2)).off+1,none⟩=some (V I ((rd_T126 l0 (ji1)).f1))) (ds:= []) #[false,false,false,false,false,false,false,false,false,false,false,false] (by kernel_rfl) rfl rfl hi (fun hHeld=> ?_);refine with_tabW impl_InsidePath.tab7 impl_InsidePath.bits7 (fun HT_ HW_=> ?_)
    generalize w2.drew=w3 at BK1 HB hx2_0 hx2_1 hHeld ⊢
    refine pu 1 (some 31) ?_
    refine pu 2 (some 32) ?_
    refine pu 3 (some 33) ?_
    refine pu 4 (some 34) ?_
    refine pu 5 (some 35) ?_
    refine pu 6 (some 36) ?_
    refine pu 7 (some 37) ?_
    refine pu 9 (some 39) ?_
    refine pu 10 (some 40) ?_
    refine tu 0 (some 30) hHeld ?_
    refine tu 8 (some 38) hHeld ?_
    refine ou 11 (some 41) (fun K hK=> ?_)
    refine goes_ func130 (by kernel_rfl) rfl #[G #[V I ((rd_T126 l0 x3_2).f0),V I ((rd_T126 l0 x3_2).f1)],G #[V I ((rd_T126 l0 (ji1)).f0),V I ((rd_T126 l0 (ji1)).f1)],V I a1,V I a2] (by rfl) rfl rfl (by(try simp only[List.map_toArray,List.map_cons,List.map_nil]);first|done|(simp only[hji1];rfl)|rfl|(simp only[List.length_drop,List.length_take];rfl)) ?_
    first
      | (with_reducible refine (impl_crosses.calls ((rd_T126 l0 x3_2).f0) ((rd_T126 l0 x3_2).f1) ((rd_T126 l0 (ji1)).f0) ((rd_T126 l0 (ji1)).f1) a1 a2 true _ A1.out).mono ?_
         rintro e w4 ⟨rfl,hb⟩
         refine⟨_,rfl,?_⟩
         replace BK1:=eK BK1 hb
         replace HB:=eB hb
         (try clear hb)
         refine hK.out _ _ ⟨(blk_cell BK1.out 0).trans rfl,(blk_cell BK1.out 1).trans rfl,((HB.out.cell (E w _ hw1_0)).trans hw1_0),((HB.out.cell (E w _ hw1_1)).trans hw1_1)⟩ (fun hHeld=> ?_)
         clear hK K
         refine nu (N:=(some 41)) ?_
         refine done_ (done_of HT_.out (by kernel_rfl)) ?_
         try go_wp2
         go_roundg k2
         case measure=>have:=HJ1.out;have:=HK1.out;omega
         case rel=>exact⟨(!x2_2),(wrap64 (x3_2+1)),rS,rS,H',⟨by have:=HJ1.out;have:=HK1.out;omega⟩,⟨uB⟩⟩)
      | (with_reducible refine (impl_crosses.calls ((rd_T126 l0 x3_2).f0) ((rd_T126 l0 x3_2).f1) ((rd_T126 l0 (ji1)).f0) ((rd_T126 l0 (ji1)).f1) a1 a2 false _ A1.out).mono ?_
         rintro e w4 ⟨rfl,hb⟩
         refine⟨_,rfl,?_⟩
         replace BK1:=eK BK1 hb
         replace HB:=eB hb
         (try clear hb)
         refine hK.out _ _ ⟨(blk_cell BK1.out 0).trans rfl,(blk_cell BK1.out 1).trans rfl,((HB.out.cell (E w _ hw1_0)).trans hw1_0),((HB.out.cell (E w _ hw1_1)).trans hw1_1)⟩ (fun hHeld=> ?_)
         clear hK K
         refine nu (N:=(some 41)) ?_
         refine done_ (done_of HT_.out (by kernel_rfl)) ?_
         try go_wp2
         go_roundg k2
         case measure=>have:=HJ1.out;have:=HK1.out;omega
         case rel=>exact⟨(x2_2),(wrap64 (x3_2+1)),rS,rS,H',⟨by have:=HJ1.out;have:=HK1.out;omega⟩,⟨uB⟩⟩)):p:=h
theorem impl_InsidePath.calls (k:Nat) (A0:Option Addr) (c0:Nat) (l0:List (S126)) (a1:Int) (a2:Int) (r:Bool) (w:World) (hr0:Kd.C k126 w A0 l0.length l0) (hc0:l0.length≤c0) (h:impl_InsidePath.f k l0 a1 a2=some r):
 Calls prog 129 #[L A0 l0.length c0,V I a1,V I a2] w fun e w'=>e=.returned (.bool r)∧Below w.heap.size w w':=by
 have hu1:=underlying126
 have HR1:=C hr0
 have HC1:=C hc0
 (try clear hr0);(try clear hc0)
 have HB:=C (Below.refl w.heap.size w)
 have H:=h
 unfold impl_InsidePath.f at H
 clear h
 have HC2:=C H
 clear H
 go_enter func129,ntmps129
 go_upto_region 1 with(fail)
 go_cut [22] (fun v22 wc=>∃(kq:Nat) (x1_3:Bool),v22=.bool x1_3∧D (impl_InsidePath.j0 kq l0 a1 a2 x1_3=some r)∧D (kq≤k)∧D (Below w.heap.size w wc))
 case first=>
  have H:=HC2.out
  clear HC2
  obtain⟨t1,A1,H⟩:=bnd H
  by_cases c1:t1=true
  ·subst c1
   rw[if_pos rfl]at H
   obtain⟨t2,A2,H⟩:=bnd H
   by_cases c2:t2=true
   rotate_left
   ·obtain rfl:=nt c2
    replace H:=nf H
    have H':=C H
    clear H
    exact impl_InsidePath.W1
   subst c2
   rw[if_pos rfl]at H
   obtain⟨t3,A3,H⟩:=bnd H
   have H':=C H
   clear H
   exact impl_InsidePath.W1
  obtain rfl:=nt c1
  replace H:=nf H
  have H':=C H
  clear H
  go_wp2_with (first|((with_reducible refine F (f:=128) rfl ?_);refine gl 128 (some 11) func128 #[L A0 l0.length c0] ?_;(with_reducible refine(impl_pathOk.calls k _ _ l0 false _ ?side1 HC1.out A1.out).mono ?_);(case side1=>exact uZ HR1);rintro e w1 ⟨rfl,hb⟩;refine⟨_,rfl,?_⟩;replace HB:=eB hb;clear hb))
  go_meet
  case rel=>exact⟨_,(true),rS,H',⟨oL⟩,⟨uB⟩⟩
 case rest=>
  clear HC2
  obtain⟨kq,x1_3,rfl,HA,HJ1,HB⟩:=hcut
  cases kq with
  |zero=>exact absurd HA.out (by simp[impl_InsidePath.j0])
  |succ kj3=>
   have H:=HA.out
   clear HA
   simp only[impl_InsidePath.j0]at H
   by_cases c1:x1_3=true
   ·subst c1
    rw[if_pos rfl]at H
    obtain rfl:=si H
    exact impl_InsidePath.W2
   obtain rfl:=nt c1
   replace H:=nf H
   have H':=C H
   clear H
   go_wp2
   go_loopg [7,25] kj3 (fun kq v7 v25 w'=>∃(x2_2:Bool) (x3_2:Int),v7=.bool x2_2∧v25=V I x3_2∧D (impl_InsidePath.l0 kq l0 a1 a2 x2_2 l0 (l0.length:Int) x3_2=some r)∧D (kq≤kj3)∧D (Below w.heap.size w w'))
   case atStart=>exact⟨(false),(0),rS,rS,H',⟨Nat.le_refl _⟩,⟨uB⟩⟩
   case round=>
    clear H'
    obtain⟨x2_2,x3_2,rfl,rfl,HA,HK1,HB⟩:=hrel
    cases gk with
    |zero=>exact absurd HA.out (by simp[impl_InsidePath.l0])
    |succ k2=>
     have H:=HA.out
     clear HA
     simp only[impl_InsidePath.l0]at H
     by_cases c2:x3_2<(l0.length:Int)
     rotate_left
     ·rw[if_neg c2]at H
      replace c2:=decide_eq_false c2
      obtain rfl:=si H
      exact impl_InsidePath.W2
     rw[if_pos c2]at H
     replace c2:=decide_eq_true c2
     obtain⟨c3,H⟩:=np H
     replace c3:=decide_eq_true c3
     obtain⟨c4,H⟩:=np H
     replace c4:=decide_eq_true c4
     by_cases c5:(l0.length:Int)=0
     ·rw[if_pos c5]at H
      exact absurd H (by simp)
     rw[if_neg c5]at H
     have c5b0:((l0.length:Int)==0)=false:=beq_eq_false_iff_ne.mpr c5
     have c5b1:((l0.length:Int) !=0)=true:=bne_iff_ne.mpr c5
     have c5b2:¬(l0= []):=fun h_=>c5 (by rw[h_];rfl)
     obtain⟨ji1,hji1⟩:∃j_:Int,(Int.tmod (wrap64 (x3_2+1)) (l0.length:Int))=j_:=⟨_,rfl⟩
     replace H:(if 0≤(ji1) then(if(ji1)<(l0.length:Int) then((impl_crosses.f ((rd_T126 l0 x3_2).f0) ((rd_T126 l0 x3_2).f1) ((rd_T126 l0 (ji1)).f0) ((rd_T126 l0 (ji1)).f1) a1 a2).bind fun t1=>(if t1=true then(impl_InsidePath.l0 k2 l0 a1 a2 (!x2_2) l0 (l0.length:Int) (wrap64 (x3_2+1))) else(impl_InsidePath.l0 k2 l0 a1 a2 x2_2 l0 (l0.length:Int) (wrap64 (x3_2+1))))) else(none)) else(none))=some r:=by first|(rw[hji1]at H;exact H)|(simp only[hji1]at H ⊢;exact H)
     obtain⟨c6,H⟩:=np H
     replace c6:=decide_eq_true c6
     obtain⟨c7,H⟩:=np H
     replace c7:=decide_eq_true c7
     obtain⟨t1,A1,H⟩:=bnd H
     by_cases c8:t1=true
     ·subst c8
      rw[if_pos rfl]at H
      have H':=C H
      clear H
      have p1:0≤(x3_2:Int):=oT
      have q1:x3_2<(l0.length:Int):=oT
      obtain⟨ad1,e1,hx1_0,hx1_1⟩:=at_T126 (Kd.C_below HR1.out HB.out) x3_2 p1 q1
      cases e1
      replace p1:=eq_true p1
      replace q1:=eq_true q1
      exact impl_InsidePath.W3
     obtain rfl:=nt c8
     replace H:=nf H
     have H':=C H
     clear H
     have p1:0≤(x3_2:Int):=oT
     have q1:x3_2<(l0.length:Int):=oT
     obtain⟨ad1,e1,hx1_0,hx1_1⟩:=at_T126 (Kd.C_below HR1.out HB.out) x3_2 p1 q1
     cases e1
     replace p1:=eq_true p1
     replace q1:=eq_true q1
     exact impl_InsidePath.W3
mutual
def impl_SpansAt.j0:Nat→List (S126)→Int→Bool→Option ((List (S114)))
  |0,_,_,_=>none
  |k+1,x0,x1,x14=>if x14=true then(some ([]:List (S114))) else(impl_SpansAt.l0 k x0 x1 ([]:List (S114)) (-200))
def impl_SpansAt.l0:Nat→List (S126)→Int→List (S114)→Int→Option ((List (S114)))
  |0,_,_,_,_=>none
  |k+1,x0,x1,x5,x6=>if x6≤200 then((impl_InsidePath.f k x0 x6 x1).bind fun t441=>(if t441=true then(if(x5.length:Int) >0 then(if 0≤(wrap64 ((x5.length:Int) - 1)) then(if(wrap64 ((x5.length:Int) - 1))<(x5.length:Int) then(if((rd_T114 x5 (wrap64 ((x5.length:Int) - 1))).f1)=x6 then(impl_SpansAt.l0 k x0 x1 (x5.set ((wrap64 ((x5.length:Int) - 1)):Int).toNat (⟨(rd_T114 x5 (wrap64 ((x5.length:Int) - 1))).f0,wrap64 (((rd_T114 x5 (wrap64 ((x5.length:Int) - 1))).f1)+1)⟩:S114)) (wrap64 (x6+1))) else(if x5.length<8796093022208 then(impl_SpansAt.l0 k x0 x1 (x5++ [(⟨x6,wrap64 (x6+1)⟩:S114)]) (wrap64 (x6+1))) else(none))) else(none)) else(none)) else(if x5.length<8796093022208 then(impl_SpansAt.l0 k x0 x1 (x5++ [(⟨x6,wrap64 (x6+1)⟩:S114)]) (wrap64 (x6+1))) else(none))) else(impl_SpansAt.l0 k x0 x1 x5 (wrap64 (x6+1))))) else(some x5)
end
def impl_SpansAt.f (k:Nat) (l0:List (S126)) (a1:Int):Option ((List (S114))):=(impl_pathOk.f k l0).bind fun t439=>(if t439=true then((impl_coordOk.f a1).bind fun t440=>(impl_SpansAt.j0 k l0 a1 (!t440))) else(impl_SpansAt.j0 k l0 a1 true))
theorem impl_SpansAt.W1 {p:Prop} (h:p:=by
 go_wp2
 go_ret
 first
  |(exact⟨_,rE,rN,uB⟩)
  |(exact⟨_,rE,fR HO_1.out,uB⟩)):p:=h
theorem impl_SpansAt.calls (k:Nat) (A0:Option Addr) (c0:Nat) (l0:List (S126)) (a1:Int) (r:List (S114)) (w:World) (hr0:Kd.C k126 w A0 l0.length l0) (hc0:l0.length≤c0) (h:impl_SpansAt.f k l0 a1=some r):
 Calls prog 118 #[L A0 l0.length c0,V I a1] w fun e w'=>∃v0_:Value,e=.returned (v0_)∧Kd.R k114 114 w' w.heap.size (fun _=>True) v0_ r∧Below w.heap.size w w':=by
 have hu1:=underlying114
 have HR1:=C hr0
 have HC1:=C hc0
 (try clear hr0);(try clear hc0)
 have HB:=C (Below.refl w.heap.size w)
 have H:=h
 unfold impl_SpansAt.f at H
 clear h
 have HC2:=C H
 clear H
 go_enter func118,ntmps118
 go_upto_region 1 with(fail)
 go_cut [14] (fun v14 wc=>∃(kq:Nat) (x1_2:Bool),v14=.bool x1_2∧D (impl_SpansAt.j0 kq l0 a1 x1_2=some r)∧D (kq≤k)∧D (Below w.heap.size w wc))
 case first=>
  have H:=HC2.out
  clear HC2
  obtain⟨t1,A1,H⟩:=bnd H
  by_cases c1:t1=true
  rotate_left
  ·obtain rfl:=nt c1
   replace H:=nf H
   have H':=C H
   clear H
   go_wp2_with (first|((with_reducible refine F (f:=128) rfl ?_);refine gl 128 (some 8) func128 #[L A0 l0.length c0] ?_;(with_reducible refine(impl_pathOk.calls k _ _ l0 false _ ?side1 HC1.out A1.out).mono ?_);(case side1=>exact uZ HR1);rintro e w2 ⟨rfl,hb⟩;refine⟨_,rfl,?_⟩;replace HB:=eB hb;clear hb))
   go_meet
   case rel=>exact⟨_,(true),rS,H',⟨oL⟩,⟨uB⟩⟩
  subst c1
  rw[if_pos rfl]at H
  obtain⟨t2,A2,H⟩:=bnd H
  have H':=C H
  clear H
  go_wp2_with (first|((with_reducible refine F (f:=128) rfl ?_);refine gl 128 (some 8) func128 #[L A0 l0.length c0] ?_;(with_reducible refine(impl_pathOk.calls k _ _ l0 true _ ?side1 HC1.out A1.out).mono ?_);(case side1=>exact uZ HR1);rintro e w2 ⟨rfl,hb⟩;refine⟨_,rfl,?_⟩;replace HB:=eB hb;clear hb)|(go_at_call 121;(with_reducible refine(impl_coordOk.calls a1 t2 _ A2.out).mono ?_);rintro e w' ⟨rfl,⟨nd,rfl⟩⟩))
  go_meet
  case rel=>exact⟨_,(!t2),rS,H',⟨oL⟩,⟨uB⟩⟩
 case rest=>
  clear HC2
  obtain⟨kq,x1_2,rfl,HA,HJ1,HB⟩:=hcut
  cases kq with
  |zero=>exact absurd HA.out (by simp[impl_SpansAt.j0])
  |succ kj2=>
   have H:=HA.out
   clear HA
   simp only[impl_SpansAt.j0]at H
   by_cases c1:x1_2=true
   ·subst c1
    rw[if_pos rfl]at H
    obtain rfl:=si H
    exact impl_SpansAt.W1
   obtain rfl:=nt c1
   replace H:=nf H
   have H':=C H
   clear H
   go_wp2
   go_loopg [5,6] kj2 (fun kq v5 v6 w'=>∃(x2_2:List (S114)) (x3_2:Int),v6=V I x3_2∧D (impl_SpansAt.l0 kq l0 a1 x2_2 x3_2=some r)∧D (kq≤kj2)∧D (Kd.R k114 114 w' w.heap.size (fun _=>True) v5 x2_2)∧D (Below w.heap.size w w'))
   case atStart=>exact⟨(([]:List (S114))),((-200)),rS,H',⟨Nat.le_refl _⟩,⟨rN⟩,⟨uB⟩⟩
   case round=>
    clear H'
    obtain⟨x2_2,x3_2,rfl,HA,HK1,HO_1,HB⟩:=hrel
    cases gk with
    |zero=>exact absurd HA.out (by simp[impl_SpansAt.l0])
    |succ k2=>
     have H:=HA.out
     clear HA
     simp only[impl_SpansAt.l0]at H
     by_cases c2:x3_2≤200
     rotate_left
     ·rw[if_neg c2]at H
      replace c2:=decide_eq_false c2
      obtain rfl:=si H
      exact impl_SpansAt.W1
     rw[if_pos c2]at H
     replace c2:=decide_eq_true c2
     obtain⟨t1,A1,H⟩:=bnd H
     by_cases c3:t1=true
     rotate_left
     ·obtain rfl:=nt c3
      replace H:=nf H
      have H':=C H
      clear H
      go_wp2_with (first|((with_reducible refine F (f:=129) rfl ?_);refine gl 129 (some 22) func129 #[L A0 l0.length c0,V I x3_2,V I a1] ?_;(with_reducible refine(impl_InsidePath.calls k2 _ _ l0 x3_2 a1 false _ ?side1 HC1.out A1.out).mono ?_);(case side1=>exact uZ HR1);rintro e w2 ⟨rfl,hb⟩;refine⟨_,rfl,?_⟩;replace HO_1:=eR HO_1 hb;replace HB:=eB hb;clear hb))
      go_roundg k2
      case measure=>have:=HJ1.out;have:=HK1.out;omega
      case rel=>exact⟨(x2_2),(wrap64 (x3_2+1)),rS,H',⟨by have:=HJ1.out;have:=HK1.out;omega⟩,⟨fR HO_1.out⟩,⟨uB⟩⟩
     subst c3
     rw[if_pos rfl]at H
     by_cases c4:(x2_2.length:Int) >0
     rotate_left
     ·rw[if_neg c4]at H
      have c4b0:decide (0<(x2_2.length:Int))=false:=decide_eq_false c4
      have c4b1:decide (0<x2_2.length)=false:=decide_eq_false (by omega)
      clear c4
      obtain⟨c5,H⟩:=np H
      have LMc1:=C c5
      clear c5
      obtain⟨y1,hy1⟩:∃y_:List (S114),y_=(x2_2++ [(⟨x3_2,wrap64 (x3_2+1)⟩:S114)]):=⟨_,rfl⟩
      replace H:(impl_SpansAt.l0 k2 l0 a1 y1 (wrap64 (x3_2+1)))=some r:=gy hy1 H
      have Ny1:=C hy1
      clear hy1
      have H':=C H
      clear H
      go_wp2_with (first|((with_reducible refine F (f:=129) rfl ?_);refine gl 129 (some 22) func129 #[L A0 l0.length c0,V I x3_2,V I a1] ?_;(with_reducible refine(impl_InsidePath.calls k2 _ _ l0 x3_2 a1 true _ ?side1 HC1.out A1.out).mono ?_);(case side1=>exact uZ HR1);rintro e w2 ⟨rfl,hb⟩;refine⟨_,rfl,?_⟩;replace HO_1:=eR HO_1 hb;replace HB:=eB hb;clear hb;obtain⟨Ao1,co1,rfl⟩:=Kd.R_slice HO_1.out)|((with_reducible refine gate_builtin (b:=.append) (xs:= #[.tmp 48,.tmp 53]) rfl ?_);(try(refine gate_guard (by rfl) ?_;dsimp only));at_builtin;refine Kd.R_append k114 (w0:=w) w.heap.size rfl (.tmp 48) (.tmp 53) 111 114 (G #[(V I 0),(V I 0)]) 16 rfl underlying111 info114 rfl (by decide) (by omega) (L Ao1 x2_2.length co1) x2_2 (⟨x3_2,wrap64 (x3_2+1)⟩:S114) [V I x3_2,V I (wrap64 (x3_2+1))] (fun _=>True) (fun _=>False) rfl rfl ?aP (fun _ hk=>hk.elim) ?aF ?aO ?aB ?aS ?aL ?_;(case aP=>exact k114_mkM _ _ _ (⟨x3_2,wrap64 (x3_2+1)⟩:S114));(case aB=>exact uB);(case aF=>exact(fun _ _=>trivial));(case aO=>exact(uR HO_1.out));(case aS=>exact(below_size uB));(case aL=>have:=LMc1.out;omega);intro v1 w3 ho hb hg hat;rw[←Ny1.out]at ho;have HO1:=C (ho);replace HB:=C (hb);clear HO_1;clear ho hb hg hat))
      go_roundg k2
      case measure=>have:=HJ1.out;have:=HK1.out;omega
      case rel=>exact⟨(y1),(wrap64 (x3_2+1)),rS,H',⟨by have:=HJ1.out;have:=HK1.out;omega⟩,⟨fR HO1.out⟩,⟨uB⟩⟩
     rw[if_pos c4]at H
     have c4b0:decide (0<(x2_2.length:Int))=true:=decide_eq_true c4
     have c4b1:decide (0<x2_2.length)=true:=decide_eq_true (by omega)
     clear c4
     obtain⟨ji1,hji1⟩:∃j_:Int,(wrap64 ((x2_2.length:Int) - 1))=j_:=⟨_,rfl⟩
     replace H:(if 0≤(ji1) then(if(ji1)<(x2_2.length:Int) then(if((rd_T114 x2_2 (ji1)).f1)=x3_2 then(impl_SpansAt.l0 k2 l0 a1 (x2_2.set ((ji1):Int).toNat (⟨(rd_T114 x2_2 (ji1)).f0,wrap64 (((rd_T114 x2_2 (ji1)).f1)+1)⟩:S114)) (wrap64 (x3_2+1))) else(if x2_2.length<8796093022208 then(impl_SpansAt.l0 k2 l0 a1 (x2_2++ [(⟨x3_2,wrap64 (x3_2+1)⟩:S114)]) (wrap64 (x3_2+1))) else(none))) else(none)) else(none))=some r:=by first|(rw[hji1]at H;exact H)|(simp only[hji1]at H ⊢;exact H)
     (try rw[hji1]at A1)
     have hji1w:(IntKind.i64.wrap ((x2_2.length:Int) - 1))=ji1:=(i64_w _).trans hji1
     obtain⟨c5,H⟩:=np H
     replace c5:=decide_eq_true c5
     obtain⟨c6,H⟩:=np H
     replace c6:=decide_eq_true c6
     by_cases c7:((rd_T114 x2_2 (ji1)).f1)=x3_2
     rotate_left
     ·rw[if_neg c7]at H
      have c7b0:(((rd_T114 x2_2 (ji1)).f1)==x3_2)=false:=beq_eq_false_iff_ne.mpr c7
      have c7b1:(((rd_T114 x2_2 (ji1)).f1) !=x3_2)=true:=bne_iff_ne.mpr c7
      obtain⟨c8,H⟩:=np H
      have LMc1:=C c8
      clear c8
      obtain⟨y1,hy1⟩:∃y_:List (S114),y_=(x2_2++ [(⟨x3_2,wrap64 (x3_2+1)⟩:S114)]):=⟨_,rfl⟩
      replace H:(impl_SpansAt.l0 k2 l0 a1 y1 (wrap64 (x3_2+1)))=some r:=gy hy1 H
      have Ny1:=C hy1
      clear hy1
      have H':=C H
      clear H
      go_wp2_with (first|((with_reducible refine F (f:=129) rfl ?_);refine gl 129 (some 22) func129 #[L A0 l0.length c0,V I x3_2,V I a1] ?_;(with_reducible refine(impl_InsidePath.calls k2 _ _ l0 x3_2 a1 true _ ?side1 HC1.out A1.out).mono ?_);(case side1=>exact uZ HR1);rintro e w2 ⟨rfl,hb⟩;refine⟨_,rfl,?_⟩;replace HO_1:=eR HO_1 hb;replace HB:=eB hb;clear hb;obtain⟨Ao1,co1,rfl⟩:=Kd.R_slice HO_1.out;have p1:0≤((ji1):Int):=oT;have q1:(ji1)<(x2_2.length:Int):=oT;obtain⟨ad1,e1,hx1_0,hx1_1⟩:=at_T114 (Kd.R_reads' HO_1.out).2.2 (ji1) p1 q1;cases e1;replace p1:=eq_true p1;replace q1:=eq_true q1)|((with_reducible refine gate_builtin (b:=.append) (xs:= #[.tmp 48,.tmp 53]) rfl ?_);(try(refine gate_guard (by rfl) ?_;dsimp only));at_builtin;refine Kd.R_append k114 (w0:=w) w.heap.size rfl (.tmp 48) (.tmp 53) 111 114 (G #[(V I 0),(V I 0)]) 16 rfl underlying111 info114 rfl (by decide) (by omega) (L (some ad1) x2_2.length co1) x2_2 (⟨x3_2,wrap64 (x3_2+1)⟩:S114) [V I x3_2,V I (wrap64 (x3_2+1))] (fun _=>True) (fun _=>False) rfl rfl ?aP (fun _ hk=>hk.elim) ?aF ?aO ?aB ?aS ?aL ?_;(case aP=>exact k114_mkM _ _ _ (⟨x3_2,wrap64 (x3_2+1)⟩:S114));(case aB=>exact uB);(case aF=>exact(fun _ _=>trivial));(case aO=>exact(uR HO_1.out));(case aS=>exact(below_size uB));(case aL=>have:=LMc1.out;omega);intro v1 w3 ho hb hg hat;rw[←Ny1.out]at ho;have HO1:=C (ho);replace HB:=C (hb);clear HO_1;clear ho hb hg hat))
      go_roundg k2
      case measure=>have:=HJ1.out;have:=HK1.out;omega
      case rel=>exact⟨(y1),(wrap64 (x3_2+1)),rS,H',⟨by have:=HJ1.out;have:=HK1.out;omega⟩,⟨fR HO1.out⟩,⟨uB⟩⟩
     rw[if_pos c7]at H
     have c7b0:(((rd_T114 x2_2 (ji1)).f1)==x3_2)=true:=beq_iff_eq.mpr c7
     have c7b1:(((rd_T114 x2_2 (ji1)).f1) !=x3_2)=false:=bne_eq_false_iff_eq.mpr c7
     clear c7
     obtain⟨y1,hy1⟩:∃y_:List (S114),y_=(x2_2.set ((ji1):Int).toNat (⟨(rd_T114 x2_2 (ji1)).f0,wrap64 (((rd_T114 x2_2 (ji1)).f1)+1)⟩:S114)):=⟨_,rfl⟩
     replace H:(impl_SpansAt.l0 k2 l0 a1 y1 (wrap64 (x3_2+1)))=some r:=gy hy1 H
     have Ny1:=C hy1
     clear hy1
     have H':=C H
     clear H
     go_wp2_with (first|((with_reducible refine F (f:=129) rfl ?_);refine gl 129 (some 22) func129 #[L A0 l0.length c0,V I x3_2,V I a1] ?_;(with_reducible refine(impl_InsidePath.calls k2 _ _ l0 x3_2 a1 true _ ?side1 HC1.out A1.out).mono ?_);(case side1=>exact uZ HR1);rintro e w2 ⟨rfl,hb⟩;refine⟨_,rfl,?_⟩;replace HO_1:=eR HO_1 hb;replace HB:=eB hb;clear hb;obtain⟨Ao1,co1,rfl⟩:=Kd.R_slice HO_1.out;have p1:0≤((ji1):Int):=oT;have q1:(ji1)<(x2_2.length:Int):=oT;obtain⟨ad1,e1,hx1_0,hx1_1⟩:=at_T114 (Kd.R_reads' HO_1.out).2.2 (ji1) p1 q1;cases e1;replace p1:=eq_true p1;replace q1:=eq_true q1;have p2:0≤((ji1):Int):=oT;have q2:(ji1)<(x2_2.length:Int):=oT;obtain⟨ad2,e2,hx2_0,hx2_1⟩:=at_T114 (Kd.R_reads' HO_1.out).2.2 (ji1) p2 q2;obtain rfl:ad1=ad2:=(by injection e2);replace p2:=eq_true p2;replace q2:=eq_true q2;have p3:0≤((ji1):Int):=oT;have q3:((ji1):Int)<((x2_2.length:Int):Int):=oT;obtain⟨go1,co2,eo2,gb1,gl1,cl1,HG1⟩:=Kd.R_form HO_1.out (by omega);(first|cases eo2|(injection eo2 with ea_ en_ ec_;(first|subst ea_|(injection ea_ with ea_;subst ea_));subst ec_;clear en_));have GB1:=C gb1;have GG1:=C HG1;clear gb1 gl1 HG1;(first|simp only[add_plain]at hx1_0|skip);(first|simp only[add_plain]at hx1_1|skip);(first|simp only[add_plain]at hx2_0|skip);(first|simp only[add_plain]at hx2_1|skip);obtain⟨ce1,hcl1,hM1,hcc1,hfr1⟩:=Kd.R_elem HO_1.out z114 ((ji1):Int) p3 q3;obtain rfl:=k114_openM hM1;have hx3_0:w2.cell? ⟨go1,((ji1):Int).toNat * 2,none⟩=some (V I ((rd_T114 x2_2 (ji1)).f0)):=hcc1 0 _ rfl;have hx3_1:w2.cell? ⟨go1,((ji1):Int).toNat * 2+1,none⟩=some (V I ((rd_T114 x2_2 (ji1)).f1)):=hcc1 1 _ rfl;have hf1_0:w2.frozen? ⟨go1,((ji1):Int).toNat * 2,none⟩=false:=hfr1 0;have hf1_1:w2.frozen? ⟨go1,((ji1):Int).toNat * 2+1,none⟩=false:=hfr1 1;(try clear hcl1);(try clear hcc1);(try clear hfr1);(try clear hM1);replace p3:=eq_true p3;replace q3:=eq_true q3;have HX1:=C (show Kd.R k114 114 w2 w.heap.size (fun _=>True) (L (some ⟨go1,0,none⟩) x2_2.length co1) x2_2 from(uR HO_1.out));obtain⟨ce2,hcl2,hM2,hcc2,hfr2⟩:=Kd.R_elem HX1.out z114 ((ji1):Int) oT (by have h_:((ji1):Int)<((x2_2.length:Int):Int):=oT;first|exact h_|(have e_:=(Kd.R_reads' HO_1.out).1;omega)|simpa using h_);obtain rfl:=k114_openM hM2;have HP1:=Kd.R_seg HX1.out ((ji1):Int) oT (by have h_:((ji1):Int)<((x2_2.length:Int):Int):=oT;first|exact h_|(have e_:=(Kd.R_reads' HO_1.out).1;omega)|simpa using h_) (seg:= [V I (wrap64 (((rd_T114 x2_2 (ji1)).f1)+1))]) (j:=1) hcl2 hcc2 (show 2≤2 from by decide) (x':=(⟨(rd_T114 x2_2 (ji1)).f0,wrap64 (((rd_T114 x2_2 (ji1)).f1)+1)⟩:S114)) (k114_mkM _ _ _ (⟨(rd_T114 x2_2 (ji1)).f0,wrap64 (((rd_T114 x2_2 (ji1)).f1)+1)⟩:S114)) (fun _ hk=>hk);have hx4_1:=hcc2 1 _ rfl;(try simp only[show(k114).sz=2 from rfl,Nat.mul_one,Nat.add_zero]at hx4_1);have hf2_1:=hfr2 1;(try simp only[show(k114).sz=2 from rfl,Nat.mul_one,Nat.add_zero]at hf2_1);(try clear hcl2);(try clear hcc2);(try clear hfr2);(try clear hM2))|((with_reducible refine gate_store (t:=3) (p:=47) rfl ?_);refine store_event (t:=3) (p:=47) (v:= ?vo_w1) (w1:=(w2.setCell ⟨go1,((ji1):Int).toNat * 2+1,none⟩ (V I (wrap64 (((rd_T114 x2_2 (ji1)).f1)+1))))) ?hg ?ho ?hn ?hr ?_;(case ho=>rfl);(case hg=>rfl);(case hn=>rfl);(case hr=>exact Fix.hr);intro w3 hw;have hg:w2.grownBy w3 (some go1):=(by rw[hw];exact HP1.2);have hp_:Kd.R k114 114 w3 w.heap.size (fun _=>True) (L (some ⟨go1,0,none⟩) x2_2.length co1) y1:=(by rw[hw,Ny1.out];exact HP1.1);clear HP1;replace HO_1:=C (hp_);replace HB:=C ((by rw[hw];exact below_set (HB.out) GB1.out:Below w.heap.size w w3));clear hg hw hp_))
     go_roundg k2
     case measure=>have:=HJ1.out;have:=HK1.out;omega
     case rel=>exact⟨(y1),(wrap64 (x3_2+1)),rS,H',⟨by have:=HJ1.out;have:=HK1.out;omega⟩,⟨fR HO_1.out⟩,⟨uB⟩⟩
end Go.Proofs.Ytaceidiookkocaa.PFnPrinted
