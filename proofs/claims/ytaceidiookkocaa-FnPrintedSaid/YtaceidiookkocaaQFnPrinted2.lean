/- Calls do what plain Lean functions say (FnPrinted). No condition. -/
import Derived.Test.YtaceidiookkocaaQFnPrinted0
import Derived.Test.YtaceidiookkocaaQFnPrinted1
namespace Go.Proofs.Ytaceidiookkocaa.PFnPrinted
open Go.RowKit Go.Proofs.YtaceidiookkocaaW.PrintWords Go.Proofs.YtaceidiookkocaaW.PrintLast Go.Proofs.YtaceidiookkocaaW.PrintMore
open Try
open Fix (b1 bA bK bN bnd d4 d6 dB dR eB eK eS fR fS gE gy lR nG nL nf np nt nu oT ou pu qm qn rE rS si uB uC uK uR uS uZ)
open Go.Value renaming int→V,slice→L
open Go.IntKind renaming i64→I
open Go.Proofs.YtaceidiookkocaaW.PrintWords.Aside0 renaming mk→C
open Go.Proofs.YtaceidiookkocaaW.PrintWords renaming Aside0→D,gate_callee→F,gate_dst→J
open Go.Proofs.YtaceidiookkocaaW.PrintWords.Kd renaming C_below→Z
attribute [local go_sem] max2_int min2_int max_two min_two max_three min_three max_four min_four
attribute [local go_sem] Fix.isSome_setCell
set_option linter.unusedVariables false
set_option maxHeartbeats 40000000
set_option maxRecDepth 100000
set_option linter.unusedSimpArgs false
def impl_PointOk.f (a0_0:Int) (a0_1:Int):Option (Bool):=(impl_coordOk.f a0_0).bind fun t264=>(if t264=true then((impl_coordOk.f a0_1).bind fun t265=>(some t265)) else(some false))
theorem impl_PointOk.calls (a0_0:Int) (a0_1:Int) (r:Bool) (w:World) (h:impl_PointOk.f a0_0 a0_1=some r):
 Calls prog 120 #[.agg #[V I a0_0,V I a0_1]] w fun e w'=>e=.returned (.bool r)∧Below w.heap.size w w':=by
 have hu1:=underlying126
 have HB:=C (Below.refl w.heap.size w)
 have H:=h
 unfold impl_PointOk.f at H
 clear h
 obtain⟨t1,A1,H⟩:=bnd H
 by_cases c1:t1=true
 rotate_left
 ·obtain rfl:=nt c1
  replace H:=nf H
  obtain rfl:=si H
  go_enter func120,ntmps120
  go_wp2_with (first|((with_reducible refine J (N:=1) rfl ?_);refine Fix.be 1 #[V I a0_0,V I a0_1] 126 ?_;intro gb1 hg w1 BK1 hb;have GW1:=gE (w:=w) hg;have GE1:=GW1;replace HB:=eB hb;clear hb hg;have hcz1_0:w1.cell? ⟨gb1,0,none⟩=some (V I a0_0):=(blk_cell BK1.out 0).trans rfl;have hcz1_1:w1.cell? ⟨gb1,1,none⟩=some (V I a0_1):=(blk_cell BK1.out 1).trans rfl;have hfz1_0:=blk_frozen BK1.out 0;have hfz1_1:=blk_frozen BK1.out 1)|((with_reducible refine F (f:=121) rfl ?_);refine Fix.gl 121 (some 5) func121 #[V I a0_0] ?_;(with_reducible refine(impl_coordOk.calls a0_0 false _ A1.out).mono ?_);rintro e w' ⟨rfl,⟨nd,rfl⟩⟩;refine⟨_,rfl,?_⟩))
  go_ret
  exact⟨rE,uB⟩
 subst c1
 rw[if_pos rfl]at H
 obtain⟨t2,A2,H⟩:=bnd H
 obtain rfl:=si H
 go_enter func120,ntmps120
 go_wp2_with (first|((with_reducible refine J (N:=1) rfl ?_);refine Fix.be 1 #[V I a0_0,V I a0_1] 126 ?_;intro gb1 hg w1 BK1 hb;have GW1:=gE (w:=w) hg;have GE1:=GW1;replace HB:=eB hb;clear hb hg;have hcz1_0:w1.cell? ⟨gb1,0,none⟩=some (V I a0_0):=(blk_cell BK1.out 0).trans rfl;have hcz1_1:w1.cell? ⟨gb1,1,none⟩=some (V I a0_1):=(blk_cell BK1.out 1).trans rfl;have hfz1_0:=blk_frozen BK1.out 0;have hfz1_1:=blk_frozen BK1.out 1)|((with_reducible refine F (f:=121) rfl ?_);refine Fix.gl 121 (some 5) func121 #[V I a0_0] ?_;(with_reducible refine(impl_coordOk.calls a0_0 true _ A1.out).mono ?_);rintro e w' ⟨rfl,⟨nd,rfl⟩⟩;refine⟨_,rfl,?_⟩)|(go_at_call 121;(with_reducible refine(impl_coordOk.calls a0_1 t2 _ A2.out).mono ?_);rintro e w' ⟨rfl,⟨nd,rfl⟩⟩))
 go_ret
 exact⟨rE,uB⟩
def impl_pointsOk.l0:Nat→List (S126)→Int→Int→Option (Bool)
 |0,_,_,_=>none
 |k+1,x5,x6,x7=>if x7<x6 then(if 0≤x7 then(if x7<(x5.length:Int) then((impl_PointOk.f ((rd_T126 x5 x7).f0) ((rd_T126 x5 x7).f1)).bind fun t268=>(if t268=true then(impl_pointsOk.l0 k x5 x6 (wrap64 (x7+1))) else(some false))) else(none)) else(none)) else(some true)
def impl_pointsOk.f (k:Nat) (l0:List (S126)):Option (Bool):=impl_pointsOk.l0 k l0 (l0.length:Int) 0
theorem impl_pointsOk.calls (k:Nat) (A0:Option Addr) (c0:Nat) (l0:List (S126)) (r:Bool) (w:World) (hr0:Kd.C k126 w A0 l0.length l0) (hc0:l0.length≤c0) (h:impl_pointsOk.f k l0=some r):
 Calls prog 108 #[L A0 l0.length c0] w fun e w'=>e=.returned (.bool r)∧Below w.heap.size w w':=by
 have hu1:=underlying126
 have HR1:=C hr0
 have HC1:=C hc0
 (try clear hr0);(try clear hc0)
 have HB:=C (Below.refl w.heap.size w)
 have H:=h
 unfold impl_pointsOk.f at H
 clear h
 have H':=C H
 clear H
 go_enter func108,ntmps108
 go_wp2
 go_loopg [7] k (fun kq v7 w'=>∃(x1_1:Int),v7=V I x1_1∧D (impl_pointsOk.l0 kq l0 (l0.length:Int) x1_1=some r)∧D (kq≤k)∧D (Below w.heap.size w w'))
 case atStart=>exact⟨(0),rS,H',⟨Nat.le_refl _⟩,⟨uB⟩⟩
 case round=>
  clear H'
  obtain⟨x1_1,rfl,HA,HK1,HB⟩:=hrel
  cases gk with
  |zero=>exact absurd HA.out (by simp[impl_pointsOk.l0])
  |succ k1=>
   have H:=HA.out
   clear HA
   simp only[impl_pointsOk.l0]at H
   by_cases c1:x1_1<(l0.length:Int)
   rotate_left
   ·rw[if_neg c1]at H
    replace c1:=decide_eq_false c1
    obtain rfl:=si H
    go_wp2
    go_ret
    exact⟨rE,uB⟩
   rw[if_pos c1]at H
   replace c1:=decide_eq_true c1
   obtain⟨c2,H⟩:=np H
   replace c2:=decide_eq_true c2
   obtain⟨c3,H⟩:=np H
   replace c3:=decide_eq_true c3
   obtain⟨t1,A1,H⟩:=bnd H
   by_cases c4:t1=true
   rotate_left
   ·obtain rfl:=nt c4
    replace H:=nf H
    obtain rfl:=si H
    have p1:0≤(x1_1:Int):=oT
    have q1:x1_1<(l0.length:Int):=oT
    obtain⟨ad1,e1,hx1_0,hx1_1⟩:=at_T126 (Z HR1.out HB.out) x1_1 p1 q1
    cases e1
    replace p1:=eq_true p1
    replace q1:=eq_true q1
    go_wp2_with (first|((with_reducible refine J (N:=4) rfl ?_);refine Fix.be 4 #[V I 0,V I 0] 126 ?_;intro gb1 hg w1 BK1 hb;have GW1:=gE (w:=w) hg;have GE1:=GW1;replace HB:=eB hb;clear hb hg;have hcz1_0:w1.cell? ⟨gb1,0,none⟩=some (V I 0):=(blk_cell BK1.out 0).trans rfl;have hcz1_1:w1.cell? ⟨gb1,1,none⟩=some (V I 0):=(blk_cell BK1.out 1).trans rfl;have hfz1_0:=blk_frozen BK1.out 0;have hfz1_1:=blk_frozen BK1.out 1)|((with_reducible refine F (f:=120) rfl ?_);refine Fix.gl 120 (some 12) func120 #[.agg #[V I ((rd_T126 l0 x1_1).f0),V I ((rd_T126 l0 x1_1).f1)]] ?_;(with_reducible refine(impl_PointOk.calls ((rd_T126 l0 x1_1).f0) ((rd_T126 l0 x1_1).f1) false _ A1.out).mono ?_);rintro e w2 ⟨rfl,hb⟩;refine⟨_,rfl,?_⟩;replace BK1:=C (blk_below (g:=gb1) (o:=.cells #[V I ((rd_T126 l0 x1_1).f0),V I ((rd_T126 l0 x1_1).f1)] 126 (0,0)) (bK BK1.out) hb);replace HB:=eB hb;clear hb))
    go_ret
    exact⟨rE,uB⟩
   subst c4
   rw[if_pos rfl]at H
   have H':=C H
   clear H
   have p1:0≤(x1_1:Int):=oT
   have q1:x1_1<(l0.length:Int):=oT
   obtain⟨ad1,e1,hx1_0,hx1_1⟩:=at_T126 (Z HR1.out HB.out) x1_1 p1 q1
   cases e1
   replace p1:=eq_true p1
   replace q1:=eq_true q1
   go_wp2_with (first|((with_reducible refine J (N:=4) rfl ?_);refine Fix.be 4 #[V I 0,V I 0] 126 ?_;intro gb1 hg w1 BK1 hb;have GW1:=gE (w:=w) hg;have GE1:=GW1;replace HB:=eB hb;clear hb hg;have hcz1_0:w1.cell? ⟨gb1,0,none⟩=some (V I 0):=(blk_cell BK1.out 0).trans rfl;have hcz1_1:w1.cell? ⟨gb1,1,none⟩=some (V I 0):=(blk_cell BK1.out 1).trans rfl;have hfz1_0:=blk_frozen BK1.out 0;have hfz1_1:=blk_frozen BK1.out 1)|((with_reducible refine F (f:=120) rfl ?_);refine Fix.gl 120 (some 12) func120 #[.agg #[V I ((rd_T126 l0 x1_1).f0),V I ((rd_T126 l0 x1_1).f1)]] ?_;(with_reducible refine(impl_PointOk.calls ((rd_T126 l0 x1_1).f0) ((rd_T126 l0 x1_1).f1) true _ A1.out).mono ?_);rintro e w2 ⟨rfl,hb⟩;refine⟨_,rfl,?_⟩;replace BK1:=C (blk_below (g:=gb1) (o:=.cells #[V I ((rd_T126 l0 x1_1).f0),V I ((rd_T126 l0 x1_1).f1)] 126 (0,0)) (bK BK1.out) hb);replace HB:=eB hb;clear hb))
   go_roundg k1
   case measure=>have:=HK1.out;omega
   case rel=>exact⟨(wrap64 (x1_1+1)),rS,H',⟨by have:=HK1.out;omega⟩,⟨uB⟩⟩
def impl_BoxOk.f (a0_0:Int) (a0_1:Int) (a0_2:Int) (a0_3:Int):Option (Bool):=(impl_coordOk.f a0_0).bind fun t270=>(if t270=true then((impl_coordOk.f a0_1).bind fun t271=>(if t271=true then((impl_coordOk.f a0_2).bind fun t272=>(if t272=true then((impl_coordOk.f a0_3).bind fun t273=>(if t273=true then(if a0_0≤a0_2 then(some (decide (a0_1≤a0_3))) else(some false)) else(some false))) else(some false))) else(some false))) else(some false))
theorem impl_BoxOk.W1 {p:Prop} (h:p:=by
 go_enter func109,ntmps109
 go_wp2_with (first|((with_reducible refine J (N:=1) rfl ?_);refine Fix.be 1 #[V I a0_0,V I a0_1,V I a0_2,V I a0_3] 75 ?_;intro gb1 hg w1 BK1 hb;have GW1:=gE (w:=w) hg;replace HB:=eB hb;clear hb hg;obtain⟨_,_,_,_,_,_,_,_⟩:=d4 BK1.out)|((with_reducible refine F (f:=121) rfl ?_);refine Fix.gl 121 (some 5) func121 #[V I a0_0] ?_;(with_reducible refine(impl_coordOk.calls a0_0 true _ A1.out).mono ?_);rintro e w' ⟨rfl,⟨nd,rfl⟩⟩;refine⟨_,rfl,?_⟩)|(go_at_call 121;(with_reducible refine(impl_coordOk.calls a0_1 true _ A2.out).mono ?_);rintro e w' ⟨rfl,⟨nd,rfl⟩⟩)|(go_at_call 121;(with_reducible refine(impl_coordOk.calls a0_2 true _ A3.out).mono ?_);rintro e w' ⟨rfl,⟨nd,rfl⟩⟩)|(go_at_call 121;(with_reducible refine(impl_coordOk.calls a0_3 true _ A4.out).mono ?_);rintro e w' ⟨rfl,⟨nd,rfl⟩⟩)|(go_at_call 121;(with_reducible refine(impl_coordOk.calls a0_3 false _ A4.out).mono ?_);rintro e w' ⟨rfl,⟨nd,rfl⟩⟩)|(go_at_call 121;(with_reducible refine(impl_coordOk.calls a0_2 false _ A3.out).mono ?_);rintro e w' ⟨rfl,⟨nd,rfl⟩⟩)|(go_at_call 121;(with_reducible refine(impl_coordOk.calls a0_1 false _ A2.out).mono ?_);rintro e w' ⟨rfl,⟨nd,rfl⟩⟩))
 go_ret
 exact⟨rE,uB⟩):p:=h
theorem impl_BoxOk.calls (a0_0:Int) (a0_1:Int) (a0_2:Int) (a0_3:Int) (r:Bool) (w:World) (h:impl_BoxOk.f a0_0 a0_1 a0_2 a0_3=some r):
 Calls prog 109 #[.agg #[V I a0_0,V I a0_1,V I a0_2,V I a0_3]] w fun e w'=>e=.returned (.bool r)∧Below w.heap.size w w':=by
 have hu1:=underlying75
 have HB:=C (Below.refl w.heap.size w)
 have H:=h
 unfold impl_BoxOk.f at H
 clear h
 obtain⟨t1,A1,H⟩:=bnd H
 by_cases c1:t1=true
 rotate_left
 ·obtain rfl:=nt c1
  replace H:=nf H
  obtain rfl:=si H
  go_enter func109,ntmps109
  go_wp2_with (first|((with_reducible refine J (N:=1) rfl ?_);refine Fix.be 1 #[V I a0_0,V I a0_1,V I a0_2,V I a0_3] 75 ?_;intro gb1 hg w1 BK1 hb;have GW1:=gE (w:=w) hg;replace HB:=eB hb;clear hb hg;obtain⟨_,_,_,_,_,_,_,_⟩:=d4 BK1.out)|((with_reducible refine F (f:=121) rfl ?_);refine Fix.gl 121 (some 5) func121 #[V I a0_0] ?_;(with_reducible refine(impl_coordOk.calls a0_0 false _ A1.out).mono ?_);rintro e w' ⟨rfl,⟨nd,rfl⟩⟩;refine⟨_,rfl,?_⟩))
  go_ret
  exact⟨rE,uB⟩
 subst c1
 rw[if_pos rfl]at H
 obtain⟨t2,A2,H⟩:=bnd H
 by_cases c2:t2=true
 rotate_left
 ·obtain rfl:=nt c2
  replace H:=nf H
  obtain rfl:=si H
  exact impl_BoxOk.W1
 subst c2
 rw[if_pos rfl]at H
 obtain⟨t3,A3,H⟩:=bnd H
 by_cases c3:t3=true
 rotate_left
 ·obtain rfl:=nt c3
  replace H:=nf H
  obtain rfl:=si H
  exact impl_BoxOk.W1
 subst c3
 rw[if_pos rfl]at H
 obtain⟨t4,A4,H⟩:=bnd H
 by_cases c4:t4=true
 rotate_left
 ·obtain rfl:=nt c4
  replace H:=nf H
  obtain rfl:=si H
  exact impl_BoxOk.W1
 subst c4
 rw[if_pos rfl]at H
 by_cases c5:a0_0≤a0_2
 ·rw[if_pos c5]at H
  replace c5:=decide_eq_true c5
  obtain rfl:=si H
  exact impl_BoxOk.W1
 rw[if_neg c5]at H
 replace c5:=decide_eq_false c5
 obtain rfl:=si H
 exact impl_BoxOk.W1
def impl_ObjectOk.f (k:Nat) (l0_0:List (S126)) (a0_1:Int) (a0_2:Int) (a0_3:Int) (a0_4:Int) (a0_5:Int):Option (Bool):=(impl_within.f (l0_0.length:Int) 3 8).bind fun t275=>(if t275=true then((impl_pointsOk.f k l0_0).bind fun t276=>(if t276=true then((impl_within.f a0_1 0 255).bind fun t277=>(if t277=true then((impl_BoxOk.f a0_2 a0_3 a0_4 a0_5).bind fun t278=>(some t278)) else(some false))) else(some false))) else(some false))
theorem impl_ObjectOk.calls (k:Nat) (A0_0:Option Addr) (c0_0:Nat) (l0_0:List (S126)) (a0_1:Int) (a0_2:Int) (a0_3:Int) (a0_4:Int) (a0_5:Int) (r:Bool) (w:World) (hr0_0:Kd.C k126 w A0_0 l0_0.length l0_0) (hc0_0:l0_0.length≤c0_0) (h:impl_ObjectOk.f k l0_0 a0_1 a0_2 a0_3 a0_4 a0_5=some r):
 Calls prog 86 #[.agg #[L A0_0 l0_0.length c0_0,V I a0_1,V I a0_2,V I a0_3,V I a0_4,V I a0_5]] w fun e w'=>e=.returned (.bool r)∧Below w.heap.size w w':=by
 have hu1:=underlying77
 have hu2:=underlying75
 have HR1_0:=C hr0_0
 have HC1_0:=C hc0_0
 (try clear hr0_0);(try clear hc0_0)
 have HB:=C (Below.refl w.heap.size w)
 have H:=h
 unfold impl_ObjectOk.f at H
 clear h
 obtain⟨t1,A1,H⟩:=bnd H
 by_cases c1:t1=true
 rotate_left
 ·obtain rfl:=nt c1
  replace H:=nf H
  obtain rfl:=si H
  go_enter func86,ntmps86
  go_wp2_with (first|((with_reducible refine J (N:=1) rfl ?_);refine Fix.be 1 #[L A0_0 l0_0.length c0_0,V I a0_1,V I a0_2,V I a0_3,V I a0_4,V I a0_5] 77 ?_;intro gb1 hg w1 BK1 hb;have GW1:=gE (w:=w) hg;have GE1:=GW1;replace HB:=eB hb;clear hb hg;obtain⟨_,_,_,_,_,_,_,_,_,_,_,_⟩:=d6 BK1.out)|((with_reducible refine F (f:=49) rfl ?_);refine Fix.gl 49 (some 6) func49 #[V I (l0_0.length:Int),V I 3,V I 8] ?_;(with_reducible refine(impl_within.calls (l0_0.length:Int) 3 8 false _ A1.out).mono ?_);rintro e w' ⟨rfl,⟨nd,rfl⟩⟩;refine⟨_,rfl,?_⟩))
  go_ret
  exact⟨rE,uB⟩
 subst c1
 rw[if_pos rfl]at H
 obtain⟨t2,A2,H⟩:=bnd H
 by_cases c2:t2=true
 rotate_left
 ·obtain rfl:=nt c2
  replace H:=nf H
  obtain rfl:=si H
  go_enter func86,ntmps86
  go_wp2_with (first|((with_reducible refine J (N:=1) rfl ?_);refine Fix.be 1 #[L A0_0 l0_0.length c0_0,V I a0_1,V I a0_2,V I a0_3,V I a0_4,V I a0_5] 77 ?_;intro gb1 hg w1 BK1 hb;have GW1:=gE (w:=w) hg;have GE1:=GW1;replace HB:=eB hb;clear hb hg;obtain⟨_,_,_,_,_,_,_,_,_,_,_,_⟩:=d6 BK1.out)|((with_reducible refine F (f:=49) rfl ?_);refine Fix.gl 49 (some 6) func49 #[V I (l0_0.length:Int),V I 3,V I 8] ?_;(with_reducible refine(impl_within.calls (l0_0.length:Int) 3 8 true _ A1.out).mono ?_);rintro e w' ⟨rfl,⟨nd,rfl⟩⟩;refine⟨_,rfl,?_⟩)|(go_at_call 108;(with_reducible refine(impl_pointsOk.calls k _ _ l0_0 false _ ?side1 HC1_0.out A2.out).mono ?_);(case side1=>exact uC (Z HR1_0.out uB));rintro e w2 ⟨rfl,hb⟩;replace BK1:=eK BK1 hb;replace HB:=eB hb;clear hb))
  go_ret
  exact⟨rE,uB⟩
 subst c2
 rw[if_pos rfl]at H
 obtain⟨t3,A3,H⟩:=bnd H
 by_cases c3:t3=true
 rotate_left
 ·obtain rfl:=nt c3
  replace H:=nf H
  obtain rfl:=si H
  go_enter func86,ntmps86
  go_wp2_with (first|((with_reducible refine J (N:=1) rfl ?_);refine Fix.be 1 #[L A0_0 l0_0.length c0_0,V I a0_1,V I a0_2,V I a0_3,V I a0_4,V I a0_5] 77 ?_;intro gb1 hg w1 BK1 hb;have GW1:=gE (w:=w) hg;have GE1:=GW1;replace HB:=eB hb;clear hb hg;obtain⟨_,_,_,_,_,_,_,_,_,_,_,_⟩:=d6 BK1.out)|((with_reducible refine F (f:=49) rfl ?_);refine Fix.gl 49 (some 6) func49 #[V I (l0_0.length:Int),V I 3,V I 8] ?_;(with_reducible refine(impl_within.calls (l0_0.length:Int) 3 8 true _ A1.out).mono ?_);rintro e w' ⟨rfl,⟨nd,rfl⟩⟩;refine⟨_,rfl,?_⟩)|(go_at_call 108;(with_reducible refine(impl_pointsOk.calls k _ _ l0_0 true _ ?side1 HC1_0.out A2.out).mono ?_);(case side1=>exact uC (Z HR1_0.out uB));rintro e w2 ⟨rfl,hb⟩;replace BK1:=eK BK1 hb;replace HB:=eB hb;clear hb;obtain⟨_,_,_,_,_,_,_,_,_,_,_,_⟩:=d6 BK1.out)|(go_at_call 49;(with_reducible refine(impl_within.calls a0_1 0 255 false _ A3.out).mono ?_);rintro e w' ⟨rfl,⟨nd,rfl⟩⟩))
  go_ret
  exact⟨rE,uB⟩
 subst c3
 rw[if_pos rfl]at H
 obtain⟨t4,A4,H⟩:=bnd H
 obtain rfl:=si H
 go_enter func86,ntmps86
 go_wp2_with (first|((with_reducible refine J (N:=1) rfl ?_);refine Fix.be 1 #[L A0_0 l0_0.length c0_0,V I a0_1,V I a0_2,V I a0_3,V I a0_4,V I a0_5] 77 ?_;intro gb1 hg w1 BK1 hb;have GW1:=gE (w:=w) hg;have GE1:=GW1;replace HB:=eB hb;clear hb hg;obtain⟨_,_,_,_,_,_,_,_,_,_,_,_⟩:=d6 BK1.out)|((with_reducible refine F (f:=49) rfl ?_);refine Fix.gl 49 (some 6) func49 #[V I (l0_0.length:Int),V I 3,V I 8] ?_;(with_reducible refine(impl_within.calls (l0_0.length:Int) 3 8 true _ A1.out).mono ?_);rintro e w' ⟨rfl,⟨nd,rfl⟩⟩;refine⟨_,rfl,?_⟩)|(go_at_call 108;(with_reducible refine(impl_pointsOk.calls k _ _ l0_0 true _ ?side1 HC1_0.out A2.out).mono ?_);(case side1=>exact uC (Z HR1_0.out uB));rintro e w2 ⟨rfl,hb⟩;replace BK1:=eK BK1 hb;replace HB:=eB hb;clear hb;obtain⟨_,_,_,_,_,_,_,_,_,_,_,_⟩:=d6 BK1.out)|(go_at_call 49;(with_reducible refine(impl_within.calls a0_1 0 255 true _ A3.out).mono ?_);rintro e w' ⟨rfl,⟨nd,rfl⟩⟩)|(go_at_call 109;(with_reducible refine(impl_BoxOk.calls a0_2 a0_3 a0_4 a0_5 t4 _ A4.out).mono ?_);rintro e w3 ⟨rfl,hb⟩;replace BK1:=eK BK1 hb;replace HB:=eB hb;clear hb))
 go_ret
 exact⟨rE,uB⟩
def impl_objectsOk.l0:Nat→List (S77)→Int→Int→Option (Bool)
 |0,_,_,_=>none
 |k+1,x5,x6,x7=>if x7<x6 then(if 0≤x7 then(if x7<(x5.length:Int) then((impl_ObjectOk.f k ((rd_T77 x5 x7).f0) ((rd_T77 x5 x7).f1) ((rd_T77 x5 x7).f2.f0) ((rd_T77 x5 x7).f2.f1) ((rd_T77 x5 x7).f2.f2) ((rd_T77 x5 x7).f2.f3)).bind fun t281=>(if t281=true then(impl_objectsOk.l0 k x5 x6 (wrap64 (x7+1))) else(some false))) else(none)) else(none)) else(some true)
def impl_objectsOk.f (k:Nat) (l0:List (S77)):Option (Bool):=impl_objectsOk.l0 k l0 (l0.length:Int) 0
theorem impl_objectsOk.calls (k:Nat) (A0:Option Addr) (c0:Nat) (l0:List (S77)) (r:Bool) (w:World) (hr0:Kd.C k77 w A0 l0.length l0) (hc0:l0.length≤c0) (h:impl_objectsOk.f k l0=some r):
 Calls prog 59 #[L A0 l0.length c0] w fun e w'=>e=.returned (.bool r)∧Below w.heap.size w w':=by
 have hu1:=underlying77
 have HR1:=C hr0
 have HC1:=C hc0
 (try clear hr0);(try clear hc0)
 have HB:=C (Below.refl w.heap.size w)
 have H:=h
 unfold impl_objectsOk.f at H
 clear h
 have H':=C H
 clear H
 go_enter func59,ntmps59
 go_wp2
 go_loopg [7] k (fun kq v7 w'=>∃(x1_1:Int),v7=V I x1_1∧D (impl_objectsOk.l0 kq l0 (l0.length:Int) x1_1=some r)∧D (kq≤k)∧D (Below w.heap.size w w'))
 case atStart=>exact⟨(0),rS,H',⟨Nat.le_refl _⟩,⟨uB⟩⟩
 case round=>
  clear H'
  obtain⟨x1_1,rfl,HA,HK1,HB⟩:=hrel
  cases gk with
  |zero=>exact absurd HA.out (by simp[impl_objectsOk.l0])
  |succ k1=>
   have H:=HA.out
   clear HA
   simp only[impl_objectsOk.l0]at H
   by_cases c1:x1_1<(l0.length:Int)
   rotate_left
   ·rw[if_neg c1]at H
    replace c1:=decide_eq_false c1
    obtain rfl:=si H
    go_wp2
    go_ret
    exact⟨rE,uB⟩
   rw[if_pos c1]at H
   replace c1:=decide_eq_true c1
   obtain⟨c2,H⟩:=np H
   replace c2:=decide_eq_true c2
   obtain⟨c3,H⟩:=np H
   replace c3:=decide_eq_true c3
   obtain⟨t1,A1,H⟩:=bnd H
   by_cases c4:t1=true
   rotate_left
   ·obtain rfl:=nt c4
    replace H:=nf H
    obtain rfl:=si H
    have p1:0≤(x1_1:Int):=oT
    have q1:x1_1<(l0.length:Int):=oT
    obtain⟨ad1,A2_0,c5_0,e1,hx1_0,hx1_1,hx1_2,hx1_3,hx1_4,hx1_5,hl1_0,hi1_0⟩:=at_T77 HR1.out x1_1 p1 q1
    cases e1
    replace hx1_0:=Fix.hx HB hx1_0
    replace hx1_1:=Fix.hx HB hx1_1
    replace hx1_2:=Fix.hx HB hx1_2
    replace hx1_3:=Fix.hx HB hx1_3
    replace hx1_4:=Fix.hx HB hx1_4
    replace hx1_5:=Fix.hx HB hx1_5
    have HR2_0:=C hi1_0
    have HC2_0:=C hl1_0
    clear hi1_0 hl1_0
    replace p1:=eq_true p1
    replace q1:=eq_true q1
    go_wp2_with (first|((with_reducible refine J (N:=4) rfl ?_);refine Fix.be 4 #[L none 0 0,V I 0,V I 0,V I 0,V I 0,V I 0] 77 ?_;intro gb1 hg w1 BK1 hb;have GW1:=gE (w:=w) hg;have GE1:=GW1;replace HB:=eB hb;clear hb hg;obtain⟨_,_,_,_,_,_,_,_,_,_,_,_⟩:=d6 BK1.out)|((with_reducible refine F (f:=86) rfl ?_);refine Fix.gl 86 (some 12) func86 #[.agg #[L A2_0 ((rd_T77 l0 x1_1).f0).length c5_0,V I ((rd_T77 l0 x1_1).f1),V I ((rd_T77 l0 x1_1).f2.f0),V I ((rd_T77 l0 x1_1).f2.f1),V I ((rd_T77 l0 x1_1).f2.f2),V I ((rd_T77 l0 x1_1).f2.f3)]] ?_;(with_reducible refine(impl_ObjectOk.calls k1 _ _ ((rd_T77 l0 x1_1).f0) ((rd_T77 l0 x1_1).f1) ((rd_T77 l0 x1_1).f2.f0) ((rd_T77 l0 x1_1).f2.f1) ((rd_T77 l0 x1_1).f2.f2) ((rd_T77 l0 x1_1).f2.f3) false _ ?side1 HC2_0.out A1.out).mono ?_);(case side1=>exact Z HR2_0.out uB);rintro e w2 ⟨rfl,hb⟩;refine⟨_,rfl,?_⟩;replace BK1:=C (blk_below (g:=gb1) (o:=.cells #[L A2_0 ((rd_T77 l0 x1_1).f0).length c5_0,V I ((rd_T77 l0 x1_1).f1),V I ((rd_T77 l0 x1_1).f2.f0),V I ((rd_T77 l0 x1_1).f2.f1),V I ((rd_T77 l0 x1_1).f2.f2),V I ((rd_T77 l0 x1_1).f2.f3)] 77 (0,0)) (bK BK1.out) hb);replace HB:=eB hb;clear hb))
    go_ret
    exact⟨rE,uB⟩
   subst c4
   rw[if_pos rfl]at H
   have H':=C H
   clear H
   have p1:0≤(x1_1:Int):=oT
   have q1:x1_1<(l0.length:Int):=oT
   obtain⟨ad1,A2_0,c5_0,e1,hx1_0,hx1_1,hx1_2,hx1_3,hx1_4,hx1_5,hl1_0,hi1_0⟩:=at_T77 HR1.out x1_1 p1 q1
   cases e1
   replace hx1_0:=Fix.hx HB hx1_0
   replace hx1_1:=Fix.hx HB hx1_1
   replace hx1_2:=Fix.hx HB hx1_2
   replace hx1_3:=Fix.hx HB hx1_3
   replace hx1_4:=Fix.hx HB hx1_4
   replace hx1_5:=Fix.hx HB hx1_5
   have HR2_0:=C hi1_0
   have HC2_0:=C hl1_0
   clear hi1_0 hl1_0
   replace p1:=eq_true p1
   replace q1:=eq_true q1
   go_wp2_with (first|((with_reducible refine J (N:=4) rfl ?_);refine Fix.be 4 #[L none 0 0,V I 0,V I 0,V I 0,V I 0,V I 0] 77 ?_;intro gb1 hg w1 BK1 hb;have GW1:=gE (w:=w) hg;have GE1:=GW1;replace HB:=eB hb;clear hb hg;obtain⟨_,_,_,_,_,_,_,_,_,_,_,_⟩:=d6 BK1.out)|((with_reducible refine F (f:=86) rfl ?_);refine Fix.gl 86 (some 12) func86 #[.agg #[L A2_0 ((rd_T77 l0 x1_1).f0).length c5_0,V I ((rd_T77 l0 x1_1).f1),V I ((rd_T77 l0 x1_1).f2.f0),V I ((rd_T77 l0 x1_1).f2.f1),V I ((rd_T77 l0 x1_1).f2.f2),V I ((rd_T77 l0 x1_1).f2.f3)]] ?_;(with_reducible refine(impl_ObjectOk.calls k1 _ _ ((rd_T77 l0 x1_1).f0) ((rd_T77 l0 x1_1).f1) ((rd_T77 l0 x1_1).f2.f0) ((rd_T77 l0 x1_1).f2.f1) ((rd_T77 l0 x1_1).f2.f2) ((rd_T77 l0 x1_1).f2.f3) true _ ?side1 HC2_0.out A1.out).mono ?_);(case side1=>exact Z HR2_0.out uB);rintro e w2 ⟨rfl,hb⟩;refine⟨_,rfl,?_⟩;replace BK1:=C (blk_below (g:=gb1) (o:=.cells #[L A2_0 ((rd_T77 l0 x1_1).f0).length c5_0,V I ((rd_T77 l0 x1_1).f1),V I ((rd_T77 l0 x1_1).f2.f0),V I ((rd_T77 l0 x1_1).f2.f1),V I ((rd_T77 l0 x1_1).f2.f2),V I ((rd_T77 l0 x1_1).f2.f3)] 77 (0,0)) (bK BK1.out) hb);replace HB:=eB hb;clear hb))
   go_roundg k1
   case measure=>have:=HK1.out;omega
   case rel=>exact⟨(wrap64 (x1_1+1)),rS,H',⟨by have:=HK1.out;omega⟩,⟨uB⟩⟩
def impl_IsHeight.f (a0:Int):Option (Bool):=if a0=1 then(some true) else(if a0=2 then(some true) else(if a0=4 then(some true) else(if a0=8 then(some true) else(if a0=16 then(some true) else(if a0=32 then(some true) else(some false))))))
theorem impl_IsHeight.W1 {p:Prop} (h:p:=by
 go_enter func60,ntmps60
 go_wp2
 go_ret
 exact⟨by first|rfl|(simp;done)|(simp[*];done),by repeat(first|exact Drawn0.refl _|apply Drawn0.step)⟩):p:=h
theorem impl_IsHeight.calls (a0:Int) (r:Bool) (w:World) (h:impl_IsHeight.f a0=some r):
 Calls prog 60 #[V I a0] w fun e w'=>e=.returned (.bool r)∧Drawn0 w w':=by
 have H:=h
 unfold impl_IsHeight.f at H
 clear h
 by_cases c1:a0=1
 ·rw[if_pos c1]at H
  have c1b0:(a0==1)=true:=beq_iff_eq.mpr c1
  have c1b1:(a0 !=1)=false:=bne_eq_false_iff_eq.mpr c1
  clear c1
  obtain rfl:=si H
  exact impl_IsHeight.W1
 rw[if_neg c1]at H
 have c1b0:(a0==1)=false:=beq_eq_false_iff_ne.mpr c1
 have c1b1:(a0 !=1)=true:=bne_iff_ne.mpr c1
 by_cases c2:a0=2
 ·rw[if_pos c2]at H
  have c2b0:(a0==2)=true:=beq_iff_eq.mpr c2
  have c2b1:(a0 !=2)=false:=bne_eq_false_iff_eq.mpr c2
  clear c2
  obtain rfl:=si H
  exact impl_IsHeight.W1
 rw[if_neg c2]at H
 have c2b0:(a0==2)=false:=beq_eq_false_iff_ne.mpr c2
 have c2b1:(a0 !=2)=true:=bne_iff_ne.mpr c2
 by_cases c3:a0=4
 ·rw[if_pos c3]at H
  have c3b0:(a0==4)=true:=beq_iff_eq.mpr c3
  have c3b1:(a0 !=4)=false:=bne_eq_false_iff_eq.mpr c3
  clear c3
  obtain rfl:=si H
  exact impl_IsHeight.W1
 rw[if_neg c3]at H
 have c3b0:(a0==4)=false:=beq_eq_false_iff_ne.mpr c3
 have c3b1:(a0 !=4)=true:=bne_iff_ne.mpr c3
 by_cases c4:a0=8
 ·rw[if_pos c4]at H
  have c4b0:(a0==8)=true:=beq_iff_eq.mpr c4
  have c4b1:(a0 !=8)=false:=bne_eq_false_iff_eq.mpr c4
  clear c4
  obtain rfl:=si H
  exact impl_IsHeight.W1
 rw[if_neg c4]at H
 have c4b0:(a0==8)=false:=beq_eq_false_iff_ne.mpr c4
 have c4b1:(a0 !=8)=true:=bne_iff_ne.mpr c4
 by_cases c5:a0=16
 ·rw[if_pos c5]at H
  have c5b0:(a0==16)=true:=beq_iff_eq.mpr c5
  have c5b1:(a0 !=16)=false:=bne_eq_false_iff_eq.mpr c5
  clear c5
  obtain rfl:=si H
  exact impl_IsHeight.W1
 rw[if_neg c5]at H
 have c5b0:(a0==16)=false:=beq_eq_false_iff_ne.mpr c5
 have c5b1:(a0 !=16)=true:=bne_iff_ne.mpr c5
 by_cases c6:a0=32
 rotate_left
 ·rw[if_neg c6]at H
  have c6b0:(a0==32)=false:=beq_eq_false_iff_ne.mpr c6
  have c6b1:(a0 !=32)=true:=bne_iff_ne.mpr c6
  obtain rfl:=si H
  exact impl_IsHeight.W1
 rw[if_pos c6]at H
 have c6b0:(a0==32)=true:=beq_iff_eq.mpr c6
 have c6b1:(a0 !=32)=false:=bne_eq_false_iff_eq.mpr c6
 clear c6
 obtain rfl:=si H
 exact impl_IsHeight.W1
def impl_CountBands.f (a0:Int):Option (Int):=(impl_IsHeight.f a0).bind fun t282=>(if t282=true then(if a0=0 then(none) else(some (wrap64 ((32:Int) / a0)))) else(some 0))
theorem impl_CountBands.calls (a0:Int) (r:Int) (w:World) (h:impl_CountBands.f a0=some r):
 Calls prog 61 #[V I a0] w fun e w'=>e=.returned (V I r)∧Drawn0 w w':=by
 have H:=h
 unfold impl_CountBands.f at H
 clear h
 obtain⟨t1,A1,H⟩:=bnd H
 by_cases c1:t1=true
 rotate_left
 ·obtain rfl:=nt c1
  replace H:=nf H
  obtain rfl:=si H
  go_enter func61,ntmps61
  go_wp2_with (first|((with_reducible refine F (f:=60) rfl ?_);refine Fix.gl 60 (some 4) func60 #[V I a0] ?_;(with_reducible refine(impl_IsHeight.calls a0 false _ A1.out).mono ?_);rintro e w' ⟨rfl,⟨nd,rfl⟩⟩;refine⟨_,rfl,?_⟩))
  go_ret
  exact⟨by first|rfl|(simp[Int.tdiv_eq_ediv_of_nonneg];done)|(simp;done)|(simp[*];done),by repeat(first|exact Drawn0.refl _|apply Drawn0.step)⟩
 subst c1
 rw[if_pos rfl]at H
 by_cases c2:a0=0
 ·rw[if_pos c2]at H
  exact absurd H (by simp)
 rw[if_neg c2]at H
 have c2b0:(a0==0)=false:=beq_eq_false_iff_ne.mpr c2
 have c2b1:(a0 !=0)=true:=bne_iff_ne.mpr c2
 obtain rfl:=si H
 go_enter func61,ntmps61
 go_wp2_with (first|((with_reducible refine F (f:=60) rfl ?_);refine Fix.gl 60 (some 4) func60 #[V I a0] ?_;(with_reducible refine(impl_IsHeight.calls a0 true _ A1.out).mono ?_);rintro e w' ⟨rfl,⟨nd,rfl⟩⟩;refine⟨_,rfl,?_⟩))
 go_ret
 exact⟨by first|rfl|(simp[Int.tdiv_eq_ediv_of_nonneg];done)|(simp;done)|(simp[*];done),by repeat(first|exact Drawn0.refl _|apply Drawn0.step)⟩
def bits_Mul32.f (a0:Int) (a1:Int):Option (Int×Int):=some (((IntKind.u64.wrap ((IntKind.u64.wrap (a0)) * (IntKind.u64.wrap (a1)))) / 4294967296) % 4294967296,(IntKind.u64.wrap ((IntKind.u64.wrap (a0)) * (IntKind.u64.wrap (a1)))) % 4294967296)
theorem bits_Mul32.calls (a0:Int) (a1:Int) (r1:Int) (r2:Int) (w:World) (h:bits_Mul32.f a0 a1=some (r1,r2)):
 Calls prog 100 #[.int .u32 a0,.int .u32 a1] w fun e w'=>e=.returned (.tuple #[.int .u32 r1,.int .u32 r2])∧Drawn0 w w':=by
 have H:=h
 unfold bits_Mul32.f at H
 clear h
 simp only[Option.some.injEq,Prod.mk.injEq]at H
 obtain⟨rfl,rfl⟩:=H
 go_enter func100,ntmps100
 go_wp2
 go_ret2
 exact⟨by first|rfl|(simp;done)|(simp[*];done),by repeat(first|exact Drawn0.refl _|apply Drawn0.step)⟩
def bits_Mul64.f (a0:Int) (a1:Int):Option (Int×Int):=some (IntKind.u64.wrap ((IntKind.u64.wrap ((IntKind.u64.wrap ((a0 / 4294967296) * (a1 / 4294967296)))+((IntKind.u64.wrap ((IntKind.u64.wrap ((a0 / 4294967296) * (Go.bits .and .u64 a1 4294967295)))+((IntKind.u64.wrap ((Go.bits .and .u64 a0 4294967295) * (Go.bits .and .u64 a1 4294967295))) / 4294967296))) / 4294967296)))+((IntKind.u64.wrap ((Go.bits .and .u64 (IntKind.u64.wrap ((IntKind.u64.wrap ((a0 / 4294967296) * (Go.bits .and .u64 a1 4294967295)))+((IntKind.u64.wrap ((Go.bits .and .u64 a0 4294967295) * (Go.bits .and .u64 a1 4294967295))) / 4294967296))) 4294967295)+(IntKind.u64.wrap ((Go.bits .and .u64 a0 4294967295) * (a1 / 4294967296))))) / 4294967296)),IntKind.u64.wrap (a0 * a1))
theorem bits_Mul64.calls (a0:Int) (a1:Int) (r1:Int) (r2:Int) (w:World) (h:bits_Mul64.f a0 a1=some (r1,r2)):
 Calls prog 101 #[.int .u64 a0,.int .u64 a1] w fun e w'=>e=.returned (.tuple #[.int .u64 r1,.int .u64 r2])∧Drawn0 w w':=by
 have H:=h
 unfold bits_Mul64.f at H
 clear h
 simp only[Option.some.injEq,Prod.mk.injEq]at H
 obtain⟨rfl,rfl⟩:=H
 go_enter func101,ntmps101
 go_wp2
 go_ret2
 exact⟨by first|rfl|(simp;done)|(simp[*];done),by repeat(first|exact Drawn0.refl _|apply Drawn0.step)⟩
def bits_Mul.f (a0:Int) (a1:Int):Option (Int×Int):=(bits_Mul64.f a0 a1).bind fun bt283=>(some (bt283.1,bt283.2))
theorem bits_Mul.calls (a0:Int) (a1:Int) (r1:Int) (r2:Int) (w:World) (h:bits_Mul.f a0 a1=some (r1,r2)):
 Calls prog 80 #[.int .u64 a0,.int .u64 a1] w fun e w'=>e=.returned (.tuple #[.int .u64 r1,.int .u64 r2])∧Drawn0 w w':=by
 have H:=h
 unfold bits_Mul.f at H
 clear h
 obtain⟨⟨t1,t2⟩,A1,H⟩:=bnd H
 dsimp only at H
 simp only[Option.some.injEq,Prod.mk.injEq]at H
 obtain⟨rfl,rfl⟩:=H
 go_enter func80,ntmps80
 go_wp2_with (first|((with_reducible refine F (f:=101) rfl ?_);refine Fix.gl 101 (some 25) func101 #[.int .u64 a0,.int .u64 a1] ?_;(with_reducible refine(bits_Mul64.calls a0 a1 t1 t2 _ A1.out).mono ?_);rintro e w' ⟨rfl,⟨nd,rfl⟩⟩;refine⟨_,rfl,?_⟩))
 go_ret2
 exact⟨by first|rfl|(simp;done)|(simp[*];done),by repeat(first|exact Drawn0.refl _|apply Drawn0.step)⟩
def slices_Repeat_int_int.f (l0:List Int) (a1:Int):Option (List Int):=if l0.length=1 then(if a1=32 then some (List.replicate 32 (rd l0 0)) else none) else none
def slices_Repeat_int_int.T9:Bool×List (List Nat×List Nat):=(true,[([],[]),([],[]),([],[]),([1,2],[1,2]),([],[]),([],[]),([4,5],[4,5]),([3,6],[3,6]),([0,7],[0,7]),([8,7,0,1,2,3,4,5,6,7,8],[0,2,5,8])])
def slices_Repeat_int_int.B9:List Nat:= [0,0,0,6,0,0,48,126,255,511]
theorem slices_Repeat_int_int.tab9:rtab .any (opsOf Try.f50 9)=slices_Repeat_int_int.T9:=by kernel_rfl
theorem slices_Repeat_int_int.bits9:waitsOk slices_Repeat_int_int.T9.2 slices_Repeat_int_int.B9=true:=by kernel_rfl
theorem slices_Repeat_int_int.calls (A0:Option Addr) (c0:Nat) (l0:List Int) (a1:Int) (r:List Int) (w:World) (hr0:Kd.C (Kd.int .i64) w A0 l0.length l0) (hc0:l0.length≤c0) (h:slices_Repeat_int_int.f l0 a1=some r):
 Calls prog 50 #[L A0 l0.length c0,V I a1] w fun e w'=>∃v0_:Value,e=.returned (v0_)∧Kd.R (Kd.int .i64) 3 w' w.heap.size (fun _=>True) v0_ r∧Below w.heap.size w w':=by
 unfold slices_Repeat_int_int.f at h
 obtain⟨c1,h⟩:=np h
 obtain⟨c2,h⟩:=np h
 subst c2
 obtain rfl:=Option.some.inj h
 clear h
 obtain⟨ad,ea,hx⟩:=Kd.at_int hr0 0 (by omega) (by omega)
 subst ea
 have hx1:w.cell? ad=some (V I (rd l0 0)):=by simpa[Addr.add]using hx
 generalize rd l0 0=v at hx1 ⊢
 rw[c1]at hc0 ⊢
 clear hr0 c1 hx
 have HX:=C hx1
 have HC:=C hc0
 clear hx1 hc0
 have HB:=C (Below.refl w.heap.size w)
 have hmul:bits_Mul.f 1 32=some (0,32):=by kernel_rfl
 go_enter func50,ntmps50
 go_wp2_with (first|(go_at_call 80;refine(bits_Mul.calls 1 32 0 32 _ hmul).mono ?_;rintro e w1 ⟨rfl,hd⟩;obtain⟨nd,rfl⟩:=hd.out)|((with_reducible refine J (N:=30) rfl ?_);refine Kd.R_make (Kd.int .i64) w.heap.size 3 rfl (w0:=w) (N:=30) rfl 39 _ _ rfl 32 rfl rfl underlying39 (V I 0) 8 info3 rfl (by decide) (by omega) 0 (ok:=fun _=>True) (okp:=fun _=>True) rfl (fun _ hk=>hk) trivial (by omega) (by omega) (by repeat(first|exact HB.out|apply bA|apply bN|apply b1)) (by first|exact Nat.le_refl _|exact below_size (by repeat(first|exact HB.out|apply bA|apply bN|apply b1))) ?_;intro v1 w2 ho hb hg_ hnew_;obtain⟨go,co,eo,gb,gl,cl,HG⟩:=Kd.R_form ho (by simp);(first|cases eo|skip);have hroom:=(Kd.R_reads' ho).2.1;replace ho:Kd.R (Kd.int .i64) 3 w2 w.heap.size (fun _=>True) (L (some ⟨go,0,none⟩) 32 co) (List.replicate 0 v++List.replicate (1+31) 0):=ho;replace hroom:32≤co:=hroom;have hxx:=(hb.cell (World.block_lt_of_cell? w _ HX.out)).trans HX.out;have hcp:=Rep.run_copy_in (P:=prog) 39 3 underlying39 (by kernel_rfl) v 0 31 ho ad hxx c0;rw[show goInt 1=Value.int .i64 1 from rfl]at hcp;have HO:=C (Rep.fill v 0 1 0 31 ho);have n1_:=C (Rep.below_sets (List.replicate 1 (V I v)) 0 hb gb);have GB:=C (And.intro gb hroom);clear HB ho hb hg_ hnew_ gb gl HG hxx hroom;have HB:=n1_;clear n1_;generalize w2.setCells go 0 (List.replicate 1 (Value.int .i64 v))=w3 at hcp HO HB))
 go_loopg [8] 33 (fun kq v8 w'=>∃i:Nat,v8=V I (i:Int)∧D (1≤i∧i≤32∧33≤i+kq)∧D (Kd.R (Kd.int .i64) 3 w' w.heap.size (fun _=>True) (L (some ⟨go,0,none⟩) 32 co) (List.replicate i v++List.replicate (32 - i) 0))∧D (Below w.heap.size w w'))
 case atStart=>exact⟨1,rS,⟨by omega⟩,⟨HO.out⟩,⟨HB.out⟩⟩
 case round=>
  clear HO HB
  obtain⟨i,rfl,HI,HO,HB⟩:=hrel
  cases gk with
  |zero=>exact absurd HI.out (by omega)
  |succ k1=>
  by_cases c3:i<32
  rotate_left
  ·have p1:decide ((i:Int)<32)=false:=decide_eq_false (by omega)
   obtain rfl:i=32:=by have:=HI.out;omega
   clear c3
   go_wp2
   go_ret
   have ho:=HO.out
   simp only[Nat.sub_self,List.replicate_zero,List.append_nil]at ho
   exact⟨_,rfl,ho,HB.out⟩
  have hI:=HI.out
  have hG:=GB.out
  obtain⟨i0,hi1,_,hsz,_⟩:=info_parts info3
  have hcutA:=Rep.cut_rest (P:=prog) 39 3 underlying39 hi1 hsz go 32 co i c3 hG.2
  have hcutB:=cut_to (P:=prog) 39 3 .i64 underlying39 hi1 (some ⟨go,0,none⟩) 32 co (i:Int) (by omega) (by omega) hG.2
  rw[Int.toNat_natCast]at hcutB
  obtain⟨m,hm⟩:∃m,m=Nat.min i (32 - i):=⟨_,rfl⟩
  have hm1:1≤m∧m≤i∧i+m≤32:=by rw[hm];show 1≤min i (32 - i)∧min i (32 - i)≤i∧i+min i (32 - i)≤32;omega
  have ho:=HO.out
  rw[show 32 - i=m+(32 - (i+m)) by omega]at ho
  have p1:decide ((i:Int)<32)=true:=decide_eq_true (by omega)
  have hs1:wrap64 ((i:Int)+(m:Int))=((i+m:Nat):Int):=by unfold wrap64;omega
  have HO1:=C ho
  have HM:=C (And.intro hm.symm hm1)
  have HS:=C hs1
  clear ho HO hm hm1 hI hG hs1 c3 hi1 hsz
  try go_wp2
  have n0_:=dR HO1
  have n1_:=dB HB
  clear HO1 HB
  have HO:=n0_
  have HB:=n1_
  clear n0_ n1_
  refine start_ (n:=10) (S:=fun w'=>True) (ds:= []) #[false,false,false,false,false,false,false,false,false,false] (by kernel_rfl) rfl rfl trivial (fun hHeld=> ?_)
  refine with_tabW slices_Repeat_int_int.tab9 slices_Repeat_int_int.bits9 (fun HT_ HW_=> ?_)
  generalize wr.drew=w4 at HO HB hHeld ⊢
  refine pu 0 (some 38) ?_
  refine pu 1 (some 39) ?_
  refine pu 2 (some 40) ?_
  refine pu 3 (some 41) ?_
  refine pu 4 (some 42) ?_
  refine pu 5 (some 43) ?_
  refine pu 6 (some 44) ?_
  refine ou 7 (some 45) (fun K hK=> ?_)
  refine Rep.copy_step (W1:=w4.setCells go i (List.replicate m (V I v))) (by rfl) (.tmp 41) (.tmp 44) 39 rfl (L (some ⟨go,i,none⟩) (32 - i) (co - i)) (L (some ⟨go,0,none⟩) i co) rfl rfl (v:=goInt m) (fun ty=> ?_) ?_
  ·exact Rep.run_copy (P:=prog) 39 3 underlying39 (by kernel_rfl) v 0 (32 - (i+m)) HO.out ⟨go,0,none⟩ rfl i (32 - i) HM.out.1 HM.out.2.2.1 ty
  have n0_:=C (Rep.fill v 0 m i (32 - (i+m)) HO.out)
  have n1_:=C (Rep.below_sets (List.replicate m (V I v)) i HB.out GB.out.1)
  clear HO HB
  have HO:=n0_
  have HB:=n1_
  clear n0_ n1_
  generalize w4.setCells go i (List.replicate m (V I v))=w5 at HO HB ⊢
  refine hK.out _ _ trivial (fun hHeld=> ?_)
  clear hK K
  refine nu (N:=(some 45)) ?_
  refine pu 8 (some 46) ?_
  refine pu 9 (some 8) ?_
  refine done_ (done_of HT_.out (by kernel_rfl)) ?_
  try go_wp2
  go_roundg k1
  case measure=>omega
  case rel=>exact⟨i+m,congrArg (Value.int .i64) HS.out,⟨by have:=HI.out;have:=HM.out;omega⟩,⟨HO.out⟩,⟨HB.out⟩⟩
def impl_WhiteRows.l0:Nat→Int→List (List Int)→Option ((List (List Int)))
 |0,_,_=>none
 |k+1,x0,x3=>if x0 >0 then((slices_Repeat_int_int.f (([255]:List Int)) 32).bind fun t292=>(if x3.length<5864062014805 then(impl_WhiteRows.l0 k (wrap64 (x0 - 1)) (x3++ [t292])) else(none))) else(some x3)
def impl_WhiteRows.f (k:Nat) (a0:Int):Option ((List (List Int))):=(impl_within.f a0 0 32).bind fun t288=>(if t288=true then(impl_WhiteRows.l0 k a0 ([]:List (List Int))) else(some ([]:List (List Int))))
theorem impl_WhiteRows.calls (k:Nat) (a0:Int) (r:List (List Int)) (w:World) (h:impl_WhiteRows.f k a0=some r):
 Calls prog 22 #[V I a0] w fun e w'=>∃v0_:Value,e=.returned (v0_)∧Kd.S (Kd.slice 3 (Kd.int .i64)) 39 w' w.heap.size (fun _=>True) v0_ r∧Below w.heap.size w w':=by
 have HB:=C (Below.refl w.heap.size w)
 have H:=h
 unfold impl_WhiteRows.f at H
 clear h
 obtain⟨t1,A1,H⟩:=bnd H
 by_cases c1:t1=true
 rotate_left
 ·obtain rfl:=nt c1
  replace H:=nf H
  obtain rfl:=si H
  go_enter func22,ntmps22
  go_wp2_with (first|((with_reducible refine F (f:=49) rfl ?_);refine Fix.gl 49 (some 5) func49 #[V I a0,V I 0,V I 32] ?_;(with_reducible refine(impl_within.calls a0 0 32 false _ A1.out).mono ?_);rintro e w' ⟨rfl,⟨nd,rfl⟩⟩;refine⟨_,rfl,?_⟩))
  go_ret
  exact⟨_,rE,by first|exact Kd.S_nil _ _ _ _ _|exact Kd.N_nil _ _ _ _ _|exact Kd.V_nil _ _ _ _ _|exact Kd.Q_nil _ _ _ _ _|exact Kd.R_nil _ _ _ _ _,uB⟩
 subst c1
 rw[if_pos rfl]at H
 have H':=C H
 clear H
 go_enter func22,ntmps22
 go_wp2_with (first|((with_reducible refine F (f:=49) rfl ?_);refine Fix.gl 49 (some 5) func49 #[V I a0,V I 0,V I 32] ?_;(with_reducible refine(impl_within.calls a0 0 32 true _ A1.out).mono ?_);rintro e w' ⟨rfl,⟨nd,rfl⟩⟩;refine⟨_,rfl,?_⟩))
 go_loopg [0,3] k (fun kq v0 v3 w'=>∃(x1_1:Int) (x2_1:List (List Int)),v0=V I x1_1∧D (impl_WhiteRows.l0 kq x1_1 x2_1=some r)∧D (kq≤k)∧D (Kd.S (Kd.slice 3 (Kd.int .i64)) 39 w' w.heap.size (fun _=>True) v3 x2_1)∧D (Below w.heap.size w w'))
 case atStart=>exact⟨(a0),(([]:List (List Int))),rS,H',⟨Nat.le_refl _⟩,⟨by first|exact Kd.S_nil _ _ _ _ _|exact Kd.N_nil _ _ _ _ _|exact Kd.V_nil _ _ _ _ _|exact Kd.Q_nil _ _ _ _ _|exact Kd.R_nil _ _ _ _ _⟩,⟨uB⟩⟩
 case round=>
  clear H'
  obtain⟨x1_1,x2_1,rfl,HA,HK1,HO_1,HB⟩:=hrel
  cases gk with
  |zero=>exact absurd HA.out (by simp[impl_WhiteRows.l0])
  |succ k1=>
   have H:=HA.out
   clear HA
   simp only[impl_WhiteRows.l0]at H
   by_cases c2:x1_1 >0
   rotate_left
   ·rw[if_neg c2]at H
    replace c2:=decide_eq_false c2
    obtain rfl:=si H
    go_wp2
    go_ret
    exact⟨_,rE,fS HO_1.out,uB⟩
   rw[if_pos c2]at H
   replace c2:=decide_eq_true c2
   obtain⟨y1,hy1⟩:∃y_:List Int,y_=(([255]:List Int)):=⟨_,rfl⟩
   replace H:((slices_Repeat_int_int.f y1 32).bind fun t2=>(if x2_1.length<5864062014805 then(impl_WhiteRows.l0 k1 (wrap64 (x1_1 - 1)) (x2_1++ [t2])) else(none)))=some r:=gy hy1 H
   have Ny1:=C hy1
   clear hy1
   obtain⟨t2,A2,H⟩:=bnd H
   obtain⟨c3,H⟩:=np H
   have LMc1:=C c3
   clear c3
   obtain⟨y2,hy2⟩:∃y_:List (List Int),y_=(x2_1++ [t2]):=⟨_,rfl⟩
   replace H:(impl_WhiteRows.l0 k1 (wrap64 (x1_1 - 1)) y2)=some r:=gy hy2 H
   have Ny2:=C hy2
   clear hy2
   have H':=C H
   clear H
   go_wp2_with (first|((with_reducible refine J (N:=12) rfl ?_);refine Kd.R_lit (Kd.int .i64) _ 3 ?hg (N:=12) ?hd (xs:=([255]:List Int)) (inner:= [V I 255]) (ok:=fun _=>True) (okp:=fun _=>True) ?hr ?hp (fun _ hk=>hk) trivial (Below.refl _ _) (Nat.le_refl _) (by simp) ?_;(case hd=>rfl);(case hg=>rfl);(case hr=>exact Fix.hr);(case hp=>exact(Reps.one (show Kd.M (Kd.int .i64) _ _ _ 255 [V I 255] from rfl) (Reps.none _ _)));intro v1 w1 ho1 hb hg_ hnew_;clear hg_ hnew_;(first|rw[←Ny1.out]at ho1|(simp only[Int.reduceToNat]at ho1;rw[←Ny1.out]at ho1));have HO1:=lR ho1;replace HO_1:=C (Kd.S_elder' (uS HO_1.out) (Kd.R_base ho1) hb);replace HB:=eB hb;clear hb ho1;obtain⟨Ao1,co1,rfl⟩:=Kd.R_slice HO1.out)|((with_reducible refine F (f:=50) rfl ?_);refine Fix.gl 50 (some 13) func50 #[L Ao1 y1.length co1,V I 32] ?_;(with_reducible refine(slices_Repeat_int_int.calls _ _ y1 32 t2 _ ?side1 ?side2 A2.out).mono ?_);(case side1=>exact uC (Kd.R_reads' HO1.out).2.2);(case side2=>exact(Kd.R_reads' HO1.out).2.1);rintro e w2 ⟨v2,rfl,ho2,hb⟩;refine⟨_,rfl,?_⟩;have HO2:=C (Kd.R_lower (Kd.R_new' ho2 (Kd.R_lt (uR HO1.out))) (below_size uB));replace HO_1:=C (Kd.S_elder' (uS HO_1.out) (Kd.R_base ho2) hb);replace HO1:=C (Kd.R_elder' (uR HO1.out) (Kd.R_base ho2) hb);replace HB:=eB hb;clear hb ho2;obtain⟨Ao2,co2,rfl⟩:=Kd.R_slice HO2.out)|((with_reducible refine gate_builtin (b:=.append) (xs:= #[.tmp 11,.tmp 14]) rfl ?_);at_builtin;refine Kd.S_append (Kd.slice 3 (Kd.int .i64)) (w0:=w) w.heap.size rfl (.tmp 11) (.tmp 14) 22 39 (L none 0 0) 24 rfl underlying22 info39 rfl (by decide) (by omega) u3 x2_1 t2 [L Ao2 t2.length co2] (fun k_=>qn k_ Ao1 y1.length co1) (fun k_=>some k_=(L Ao2 t2.length co2:Value).ownBlock) rfl rfl ?aP (fun k_ hk_=>((Kd.R_mono (ok':=fun k_=>((fun k_=>qn k_ Ao1 y1.length co1)) k_∧qm k_ u3) (Kd.R_apart' (HO2.out) (Kd.S_typed HO_1.out) (by decide)) (fun k_ hk=>⟨hk.1.2,hk.2⟩))).1 k_ hk_.symm) ?aF ?aO ?aB ?aS ?aL ?_;(case aP=>exact Kd.M_row (Kd.R_mono (Kd.R_tight rfl (Kd.R_mono (ok':=fun k_=>((fun k_=>qn k_ Ao1 y1.length co1)) k_∧qm k_ u3) (Kd.R_apart' (HO2.out) (Kd.S_typed HO_1.out) (by decide)) (fun k_ hk=>⟨hk.1.2,hk.2⟩))) (fun _ h_=>h_)));(case aB=>exact uB);(case aF=>exact(fun k_ hk=>Kd.fresh' (Kd.R_lt (uR HO1.out)) k_ hk));(case aO=>exact(Kd.S_mono (fS HO_1.out) (fun k_ hk=>⟨hk.1.2,fun e_=>hk.2 e_⟩)));(case aS=>exact(below_size uB));(case aL=>have:=LMc1.out;omega);intro v4 w3 ho hb hg hat;rw[←Ny2.out]at ho;have HO3:=C (ho);replace HO1:=C (Kd.R_over' (uR HO1.out) (Kd.S_typed (uS HO_1.out)) (by decide) hg);replace HB:=C (hb);clear HO_1;clear HO2;clear ho hb hg hat))
   go_roundg k1
   case measure=>have:=HK1.out;omega
   case rel=>exact⟨(wrap64 (x1_1 - 1)),(y2),rS,H',⟨by have:=HK1.out;omega⟩,⟨Kd.S_mono (fS HO3.out) (fun _ hk=>trivial)⟩,⟨uB⟩⟩
def impl_NewBand.f (k:Nat) (a0:Int) (a1:Int):Option (Int×Int×(List (List Int))×(List (S77))×Bool):=(impl_IsHeight.f a0).bind fun t299=>(if t299=true then((impl_CountBands.f a0).bind fun t300=>((impl_within.f a1 0 (wrap64 (t300 - 1))).bind fun t301=>(if t301=true then((impl_WhiteRows.f k a0).bind fun t302=>(some (a0,a1,t302,([]:List (S77)),true))) else(some (0,0,([]:List (List Int)),([]:List (S77)),false))))) else(some (0,0,([]:List (List Int)),([]:List (S77)),false)))
theorem impl_NewBand.calls (k:Nat) (a0:Int) (a1:Int) (r1:Int) (r2:Int) (r3:List (List Int)) (r4:List (S77)) (r5:Bool) (w:World) (h:impl_NewBand.f k a0 a1=some (r1,r2,r3,r4,r5)):
 Calls prog 62 #[V I a0,V I a1] w fun e w'=>∃v2_ v3_:Value,e=.returned (.tuple #[.agg #[V I r1,V I r2,v2_,v3_],.bool r5])∧Kd.S (Kd.slice 3 (Kd.int .i64)) 39 w' w.heap.size (fun _=>True) v2_ r3∧Kd.S k77 77 w' w.heap.size (fun _=>True) v3_ r4∧Below w.heap.size w w':=by
 have hu1:=underlying70
 have HB:=C (Below.refl w.heap.size w)
 have H:=h
 unfold impl_NewBand.f at H
 clear h
 obtain⟨t1,A1,H⟩:=bnd H
 by_cases c1:t1=true
 rotate_left
 ·obtain rfl:=nt c1
  replace H:=nf H
  simp only[Option.some.injEq,Prod.mk.injEq]at H
  obtain⟨rfl,rfl,rfl,rfl,rfl⟩:=H
  go_enter func62,ntmps62
  go_wp2_with (first|((with_reducible refine J (N:=4) rfl ?_);refine Fix.be 4 #[V I 0,V I 0,L none 0 0,L none 0 0] 70 ?_;intro gb1 hg w1 BK1 hb;have GW1:=gE (w:=w) hg;have GE1:=GW1;replace HB:=eB hb;clear hb hg)|((with_reducible refine F (f:=60) rfl ?_);refine Fix.gl 60 (some 7) func60 #[V I a0] ?_;(with_reducible refine(impl_IsHeight.calls a0 false _ A1.out).mono ?_);rintro e w' ⟨rfl,⟨nd,rfl⟩⟩;refine⟨_,rfl,?_⟩;(try(rw[drewN_self w1];generalize hq_:World.drewN w1 _=w1;have n0_:D (w1.heap[gb1]? =some (.cells #[V I 0,V I 0,L none 0 0,L none 0 0] 70 (0,0))):=⟨by rw[←hq_];exact(uK BK1.out)⟩;have n1_:D (Below w.heap.size w w1):=⟨by rw[←hq_];exact uB⟩;clear BK1 HB hq_;have BK1:=n0_;have HB:=n1_;clear n0_ n1_));obtain⟨_,_,_,_,_,_,_,_⟩:=d4 BK1.out))
  refine bodyPost_ret (results_ct rfl _ _ gb1 70 #[V I 0,V I 0,L none 0 0,L none 0 0] (0,0) _ rfl (bK BK1.out) underlying70 rfl (by kernel_rfl)) rfl ?_
  exact⟨_,_,rE,by first|exact Kd.S_nil _ _ _ _ _|exact Kd.N_nil _ _ _ _ _|exact Kd.V_nil _ _ _ _ _|exact Kd.Q_nil _ _ _ _ _|exact Kd.R_nil _ _ _ _ _,by first|exact Kd.S_nil _ _ _ _ _|exact Kd.N_nil _ _ _ _ _|exact Kd.V_nil _ _ _ _ _|exact Kd.Q_nil _ _ _ _ _|exact Kd.R_nil _ _ _ _ _,uB⟩
 subst c1
 rw[if_pos rfl]at H
 obtain⟨t2,A2,H⟩:=bnd H
 obtain⟨t3,A3,H⟩:=bnd H
 by_cases c2:t3=true
 rotate_left
 ·obtain rfl:=nt c2
  replace H:=nf H
  simp only[Option.some.injEq,Prod.mk.injEq]at H
  obtain⟨rfl,rfl,rfl,rfl,rfl⟩:=H
  go_enter func62,ntmps62
  go_wp2_with (first|((with_reducible refine J (N:=4) rfl ?_);refine Fix.be 4 #[V I 0,V I 0,L none 0 0,L none 0 0] 70 ?_;intro gb1 hg w1 BK1 hb;have GW1:=gE (w:=w) hg;have GE1:=GW1;replace HB:=eB hb;clear hb hg)|((with_reducible refine F (f:=60) rfl ?_);refine Fix.gl 60 (some 7) func60 #[V I a0] ?_;(with_reducible refine(impl_IsHeight.calls a0 true _ A1.out).mono ?_);rintro e w' ⟨rfl,⟨nd,rfl⟩⟩;refine⟨_,rfl,?_⟩;(try(rw[drewN_self w1];generalize hq_:World.drewN w1 _=w1;have n0_:D (w1.heap[gb1]? =some (.cells #[V I 0,V I 0,L none 0 0,L none 0 0] 70 (0,0))):=⟨by rw[←hq_];exact(uK BK1.out)⟩;have n1_:D (Below w.heap.size w w1):=⟨by rw[←hq_];exact uB⟩;clear BK1 HB hq_;have BK1:=n0_;have HB:=n1_;clear n0_ n1_)))|(go_at_call 61;(with_reducible refine(impl_CountBands.calls a0 t2 _ A2.out).mono ?_);rintro e w' ⟨rfl,⟨nd,rfl⟩⟩;(try(rw[drewN_self w1];generalize hq_:World.drewN w1 _=w1;have n0_:D (w1.heap[gb1]? =some (.cells #[V I 0,V I 0,L none 0 0,L none 0 0] 70 (0,0))):=⟨by rw[←hq_];exact(uK BK1.out)⟩;have n1_:D (Below w.heap.size w w1):=⟨by rw[←hq_];exact uB⟩;clear BK1 HB hq_;have BK1:=n0_;have HB:=n1_;clear n0_ n1_)))|(go_at_call 49;(with_reducible refine(impl_within.calls a1 0 (wrap64 (t2 - 1)) false _ A3.out).mono ?_);rintro e w' ⟨rfl,⟨nd,rfl⟩⟩;(try(rw[drewN_self w1];generalize hq_:World.drewN w1 _=w1;have n0_:D (w1.heap[gb1]? =some (.cells #[V I 0,V I 0,L none 0 0,L none 0 0] 70 (0,0))):=⟨by rw[←hq_];exact(uK BK1.out)⟩;have n1_:D (Below w.heap.size w w1):=⟨by rw[←hq_];exact uB⟩;clear BK1 HB hq_;have BK1:=n0_;have HB:=n1_;clear n0_ n1_));obtain⟨_,_,_,_,_,_,_,_⟩:=d4 BK1.out))
  refine bodyPost_ret (results_ct rfl _ _ gb1 70 #[V I 0,V I 0,L none 0 0,L none 0 0] (0,0) _ rfl (bK BK1.out) underlying70 rfl (by kernel_rfl)) rfl ?_
  exact⟨_,_,rE,by first|exact Kd.S_nil _ _ _ _ _|exact Kd.N_nil _ _ _ _ _|exact Kd.V_nil _ _ _ _ _|exact Kd.Q_nil _ _ _ _ _|exact Kd.R_nil _ _ _ _ _,by first|exact Kd.S_nil _ _ _ _ _|exact Kd.N_nil _ _ _ _ _|exact Kd.V_nil _ _ _ _ _|exact Kd.Q_nil _ _ _ _ _|exact Kd.R_nil _ _ _ _ _,uB⟩
 subst c2
 rw[if_pos rfl]at H
 obtain⟨t4,A4,H⟩:=bnd H
 simp only[Option.some.injEq,Prod.mk.injEq]at H
 obtain⟨rfl,rfl,rfl,rfl,rfl⟩:=H
 go_enter func62,ntmps62
 go_wp2_with (first|((with_reducible refine J (N:=4) rfl ?_);refine Fix.be 4 #[V I 0,V I 0,L none 0 0,L none 0 0] 70 ?_;intro gb1 hg w1 BK1 hb;have GW1:=gE (w:=w) hg;have GE1:=GW1;replace HB:=eB hb;clear hb hg)|((with_reducible refine F (f:=60) rfl ?_);refine Fix.gl 60 (some 7) func60 #[V I a0] ?_;(with_reducible refine(impl_IsHeight.calls a0 true _ A1.out).mono ?_);rintro e w' ⟨rfl,⟨nd,rfl⟩⟩;refine⟨_,rfl,?_⟩;(try(rw[drewN_self w1];generalize hq_:World.drewN w1 _=w1;have n0_:D (w1.heap[gb1]? =some (.cells #[V I 0,V I 0,L none 0 0,L none 0 0] 70 (0,0))):=⟨by rw[←hq_];exact(uK BK1.out)⟩;have n1_:D (Below w.heap.size w w1):=⟨by rw[←hq_];exact uB⟩;clear BK1 HB hq_;have BK1:=n0_;have HB:=n1_;clear n0_ n1_)))|(go_at_call 61;(with_reducible refine(impl_CountBands.calls a0 t2 _ A2.out).mono ?_);rintro e w' ⟨rfl,⟨nd,rfl⟩⟩;(try(rw[drewN_self w1];generalize hq_:World.drewN w1 _=w1;have n0_:D (w1.heap[gb1]? =some (.cells #[V I 0,V I 0,L none 0 0,L none 0 0] 70 (0,0))):=⟨by rw[←hq_];exact(uK BK1.out)⟩;have n1_:D (Below w.heap.size w w1):=⟨by rw[←hq_];exact uB⟩;clear BK1 HB hq_;have BK1:=n0_;have HB:=n1_;clear n0_ n1_)))|(go_at_call 49;(with_reducible refine(impl_within.calls a1 0 (wrap64 (t2 - 1)) true _ A3.out).mono ?_);rintro e w' ⟨rfl,⟨nd,rfl⟩⟩;(try(rw[drewN_self w1];generalize hq_:World.drewN w1 _=w1;have n0_:D (w1.heap[gb1]? =some (.cells #[V I 0,V I 0,L none 0 0,L none 0 0] 70 (0,0))):=⟨by rw[←hq_];exact(uK BK1.out)⟩;have n1_:D (Below w.heap.size w w1):=⟨by rw[←hq_];exact uB⟩;clear BK1 HB hq_;have BK1:=n0_;have HB:=n1_;clear n0_ n1_)))|((with_reducible refine F (f:=22) rfl ?_);refine Fix.gl 22 (some 21) func22 #[V I a0] ?_;(with_reducible refine(impl_WhiteRows.calls k a0 t4 _ A4.out).mono ?_);rintro e w2 ⟨v1,rfl,ho1,hb⟩;refine⟨_,rfl,?_⟩;have HO1:=C (Kd.S_lower ho1 (below_size uB));replace BK1:=eK BK1 hb;replace HB:=eB hb;clear hb ho1;obtain⟨Ao1,co1,eo1⟩:=Kd.S_slice HO1.out;subst eo1;obtain⟨_,_,_,_,_,_,_,_⟩:=d4 BK1.out))
 refine bodyPost_ret (results_ct rfl _ _ gb1 70 #[V I a0,V I a1,L Ao1 t4.length co1,L none 0 0] (0,0) _ rfl (bK BK1.out) underlying70 rfl (by kernel_rfl)) rfl ?_
 exact⟨_,_,rE,Kd.S_mono (fS (Kd.S_types HO1.out BK1.out (by decide))) (fun _ hk=>trivial),by first|exact Kd.S_nil _ _ _ _ _|exact Kd.N_nil _ _ _ _ _|exact Kd.V_nil _ _ _ _ _|exact Kd.Q_nil _ _ _ _ _|exact Kd.R_nil _ _ _ _ _,uB⟩
def impl_rowOk.l0:Nat→List Int→Int→Int→Option (Bool)
 |0,_,_,_=>none
 |k+1,x8,x9,x10=>if x10<x9 then(if 0≤x10 then(if x10<(x8.length:Int) then((impl_within.f (rd x8 x10) 0 255).bind fun t306=>(if t306=true then(impl_rowOk.l0 k x8 x9 (wrap64 (x10+1))) else(some false))) else(none)) else(none)) else(some true)
def impl_rowOk.f (k:Nat) (l0:List Int):Option (Bool):=if(l0.length:Int)=32 then(impl_rowOk.l0 k l0 (l0.length:Int) 0) else(some false)
theorem impl_rowOk.calls (k:Nat) (A0:Option Addr) (c0:Nat) (l0:List Int) (r:Bool) (w:World) (hr0:Kd.C (Kd.int .i64) w A0 l0.length l0) (hc0:l0.length≤c0) (h:impl_rowOk.f k l0=some r):
 Calls prog 76 #[L A0 l0.length c0] w fun e w'=>e=.returned (.bool r)∧Drawn0 w w':=by
 have HR1:=C hr0
 have HC1:=C hc0
 (try clear hr0);(try clear hc0)
 have H:=h
 unfold impl_rowOk.f at H
 clear h
 by_cases c1:(l0.length:Int)=32
 rotate_left
 ·rw[if_neg c1]at H
  have c1b0:((l0.length:Int)==32)=false:=beq_eq_false_iff_ne.mpr c1
  have c1b1:((l0.length:Int) !=32)=true:=bne_iff_ne.mpr c1
  obtain rfl:=si H
  go_enter func76,ntmps76
  go_wp2
  go_ret
  exact⟨by first|rfl|(simp;done)|(simp[*];done),by repeat(first|exact Drawn0.refl _|apply Drawn0.step)⟩
 rw[if_pos c1]at H
 have c1b0:((l0.length:Int)==32)=true:=beq_iff_eq.mpr c1
 have c1b1:((l0.length:Int) !=32)=false:=bne_eq_false_iff_eq.mpr c1
 clear c1
 have H':=C H
 clear H
 go_enter func76,ntmps76
 go_wp2
 go_loopg [10] k (fun kq v10 w'=>∃(x1_1:Int),v10=V I x1_1∧D (impl_rowOk.l0 kq l0 (l0.length:Int) x1_1=some r)∧D (kq≤k)∧Drawn0 w w')
 case atStart=>exact⟨(0),rS,H',⟨Nat.le_refl _⟩,by repeat(first|exact Drawn0.refl _|apply Drawn0.step)⟩
 case round=>
  clear H'
  obtain⟨x1_1,rfl,HA,HK1,⟨m1,rfl⟩⟩:=hrel
  cases gk with
  |zero=>exact absurd HA.out (by simp[impl_rowOk.l0])
  |succ k1=>
   have H:=HA.out
   clear HA
   simp only[impl_rowOk.l0]at H
   by_cases c2:x1_1<(l0.length:Int)
   rotate_left
   ·rw[if_neg c2]at H
    replace c2:=decide_eq_false c2
    obtain rfl:=si H
    go_wp2
    go_ret
    exact⟨by first|rfl|(simp;done)|(simp[*];done),by repeat(first|exact Drawn0.refl _|apply Drawn0.step)⟩
   rw[if_pos c2]at H
   replace c2:=decide_eq_true c2
   obtain⟨c3,H⟩:=np H
   replace c3:=decide_eq_true c3
   obtain⟨c4,H⟩:=np H
   replace c4:=decide_eq_true c4
   obtain⟨t1,A1,H⟩:=bnd H
   by_cases c5:t1=true
   rotate_left
   ·obtain rfl:=nt c5
    replace H:=nf H
    obtain rfl:=si H
    have p1:0≤(x1_1:Int):=oT
    have q1:x1_1<(l0.length:Int):=oT
    obtain⟨ad1,e1,hx1_0⟩:=Kd.at_int HR1.out x1_1 p1 q1
    cases e1
    replace p1:=eq_true p1
    replace q1:=eq_true q1
    go_wp2_with (first|((with_reducible refine F (f:=49) rfl ?_);refine Fix.gl 49 (some 15) func49 #[V I (rd l0 x1_1),V I 0,V I 255] ?_;(with_reducible refine(impl_within.calls (rd l0 x1_1) 0 255 false _ A1.out).mono ?_);rintro e w' ⟨rfl,⟨nd,rfl⟩⟩;refine⟨_,rfl,?_⟩))
    go_ret
    exact⟨by first|rfl|(simp;done)|(simp[*];done),by repeat(first|exact Drawn0.refl _|apply Drawn0.step)⟩
   subst c5
   rw[if_pos rfl]at H
   have H':=C H
   clear H
   have p1:0≤(x1_1:Int):=oT
   have q1:x1_1<(l0.length:Int):=oT
   obtain⟨ad1,e1,hx1_0⟩:=Kd.at_int HR1.out x1_1 p1 q1
   cases e1
   replace p1:=eq_true p1
   replace q1:=eq_true q1
   go_wp2_with (first|((with_reducible refine F (f:=49) rfl ?_);refine Fix.gl 49 (some 15) func49 #[V I (rd l0 x1_1),V I 0,V I 255] ?_;(with_reducible refine(impl_within.calls (rd l0 x1_1) 0 255 true _ A1.out).mono ?_);rintro e w' ⟨rfl,⟨nd,rfl⟩⟩;refine⟨_,rfl,?_⟩))
   go_roundg k1
   case measure=>have:=HK1.out;omega
   case rel=>exact⟨(wrap64 (x1_1+1)),rS,H',⟨by have:=HK1.out;omega⟩,by repeat(first|exact Drawn0.refl _|apply Drawn0.step)⟩
def impl_RowsOk.l0:Nat→List (List Int)→Int→Int→Option (Bool)
 |0,_,_,_=>none
 |k+1,x8,x9,x10=>if x10<x9 then(if 0≤x10 then(if x10<(x8.length:Int) then((impl_rowOk.f k (rd_L6 x8 x10)).bind fun t308=>(if t308=true then(impl_RowsOk.l0 k x8 x9 (wrap64 (x10+1))) else(some false))) else(none)) else(none)) else(some true)
def impl_RowsOk.f (k:Nat) (l0:List (List Int)):Option (Bool):=if(l0.length:Int) >32 then(some false) else(impl_RowsOk.l0 k l0 (l0.length:Int) 0)
theorem impl_RowsOk.calls (k:Nat) (A0:Option Addr) (c0:Nat) (l0:List (List Int)) (r:Bool) (w:World) (hr0:Kd.C (Kd.slice 3 (Kd.int .i64)) w A0 l0.length l0) (hc0:l0.length≤c0) (h:impl_RowsOk.f k l0=some r):
 Calls prog 43 #[L A0 l0.length c0] w fun e w'=>e=.returned (.bool r)∧Drawn0 w w':=by
 have HR1:=C hr0
 have HC1:=C hc0
 (try clear hr0);(try clear hc0)
 have H:=h
 unfold impl_RowsOk.f at H
 clear h
 by_cases c1:(l0.length:Int) >32
 ·rw[if_pos c1]at H
  have c1b0:decide (32<(l0.length:Int))=true:=decide_eq_true c1
  have c1b1:decide (32<l0.length)=true:=decide_eq_true (by omega)
  clear c1
  obtain rfl:=si H
  go_enter func43,ntmps43
  go_wp2
  go_ret
  exact⟨by first|rfl|(simp;done)|(simp[*];done),by repeat(first|exact Drawn0.refl _|apply Drawn0.step)⟩
 rw[if_neg c1]at H
 have c1b0:decide (32<(l0.length:Int))=false:=decide_eq_false c1
 have c1b1:decide (32<l0.length)=false:=decide_eq_false (by omega)
 clear c1
 have H':=C H
 clear H
 go_enter func43,ntmps43
 go_wp2
 go_loopg [10] k (fun kq v10 w'=>∃(x1_1:Int),v10=V I x1_1∧D (impl_RowsOk.l0 kq l0 (l0.length:Int) x1_1=some r)∧D (kq≤k)∧Drawn0 w w')
 case atStart=>exact⟨(0),rS,H',⟨Nat.le_refl _⟩,by repeat(first|exact Drawn0.refl _|apply Drawn0.step)⟩
 case round=>
  clear H'
  obtain⟨x1_1,rfl,HA,HK1,⟨m1,rfl⟩⟩:=hrel
  cases gk with
  |zero=>exact absurd HA.out (by simp[impl_RowsOk.l0])
  |succ k1=>
   have H:=HA.out
   clear HA
   simp only[impl_RowsOk.l0]at H
   by_cases c2:x1_1<(l0.length:Int)
   rotate_left
   ·rw[if_neg c2]at H
    replace c2:=decide_eq_false c2
    obtain rfl:=si H
    go_wp2
    go_ret
    exact⟨by first|rfl|(simp;done)|(simp[*];done),by repeat(first|exact Drawn0.refl _|apply Drawn0.step)⟩
   rw[if_pos c2]at H
   replace c2:=decide_eq_true c2
   obtain⟨c3,H⟩:=np H
   replace c3:=decide_eq_true c3
   obtain⟨c4,H⟩:=np H
   replace c4:=decide_eq_true c4
   obtain⟨t1,A1,H⟩:=bnd H
   by_cases c5:t1=true
   rotate_left
   ·obtain rfl:=nt c5
    replace H:=nf H
    obtain rfl:=si H
    have p1:0≤(x1_1:Int):=oT
    have q1:x1_1<(l0.length:Int):=oT
    obtain⟨ad1,A2_0,c6_0,e1,hx1_0,hl1_0,hi1_0⟩:=at_L6 HR1.out x1_1 p1 q1
    cases e1
    have HR2_0:=C hi1_0
    have HC2_0:=C hl1_0
    clear hi1_0 hl1_0
    replace p1:=eq_true p1
    replace q1:=eq_true q1
    go_wp2_with (first|((with_reducible refine F (f:=76) rfl ?_);refine Fix.gl 76 (some 15) func76 #[L A2_0 (rd_L6 l0 x1_1).length c6_0] ?_;(with_reducible refine(impl_rowOk.calls k1 _ _ (rd_L6 l0 x1_1) false _ ?side1 HC2_0.out A1.out).mono ?_);(case side1=>exact uC HR2_0.out);rintro e w' ⟨rfl,⟨nd,rfl⟩⟩;refine⟨_,rfl,?_⟩))
    go_ret
    exact⟨by first|rfl|(simp;done)|(simp[*];done),by repeat(first|exact Drawn0.refl _|apply Drawn0.step)⟩
   subst c5
   rw[if_pos rfl]at H
   have H':=C H
   clear H
   have p1:0≤(x1_1:Int):=oT
   have q1:x1_1<(l0.length:Int):=oT
   obtain⟨ad1,A2_0,c6_0,e1,hx1_0,hl1_0,hi1_0⟩:=at_L6 HR1.out x1_1 p1 q1
   cases e1
   have HR2_0:=C hi1_0
   have HC2_0:=C hl1_0
   clear hi1_0 hl1_0
   replace p1:=eq_true p1
   replace q1:=eq_true q1
   go_wp2_with (first|((with_reducible refine F (f:=76) rfl ?_);refine Fix.gl 76 (some 15) func76 #[L A2_0 (rd_L6 l0 x1_1).length c6_0] ?_;(with_reducible refine(impl_rowOk.calls k1 _ _ (rd_L6 l0 x1_1) true _ ?side1 HC2_0.out A1.out).mono ?_);(case side1=>exact uC HR2_0.out);rintro e w' ⟨rfl,⟨nd,rfl⟩⟩;refine⟨_,rfl,?_⟩))
   go_roundg k1
   case measure=>have:=HK1.out;omega
   case rel=>exact⟨(wrap64 (x1_1+1)),rS,H',⟨by have:=HK1.out;omega⟩,by repeat(first|exact Drawn0.refl _|apply Drawn0.step)⟩
def impl_objectsCells.l0:Nat→Int→List (S77)→Int→Int→Option (Int)
 |0,_,_,_,_=>none
 |k+1,x3,x6,x7,x8=>if x8<x7 then(if 0≤x8 then(if x8<(x6.length:Int) then(impl_objectsCells.l0 k (wrap64 (x3+(wrap64 (2+(((rd_T77 x6 x8).f0).length:Int))))) x6 x7 (wrap64 (x8+1))) else(none)) else(none)) else(some x3)
def impl_objectsCells.f (k:Nat) (l0:List (S77)):Option (Int):=impl_objectsCells.l0 k 0 l0 (l0.length:Int) 0
theorem impl_objectsCells.calls (k:Nat) (A0:Option Addr) (c0:Nat) (l0:List (S77)) (r:Int) (w:World) (hr0:Kd.C k77 w A0 l0.length l0) (hc0:l0.length≤c0) (h:impl_objectsCells.f k l0=some r):
 Calls prog 113 #[L A0 l0.length c0] w fun e w'=>e=.returned (V I r)∧Below w.heap.size w w':=by
 have hu1:=underlying77
 have HR1:=C hr0
 have HC1:=C hc0
 (try clear hr0);(try clear hc0)
 have HB:=C (Below.refl w.heap.size w)
 have H:=h
 unfold impl_objectsCells.f at H
 clear h
 have H':=C H
 clear H
 go_enter func113,ntmps113
 go_wp2
 go_loopg [3,8] k (fun kq v3 v8 w'=>∃(x1_1:Int) (x2_1:Int),v3=V I x1_1∧v8=V I x2_1∧D (impl_objectsCells.l0 kq x1_1 l0 (l0.length:Int) x2_1=some r)∧D (kq≤k)∧D (Below w.heap.size w w'))
 case atStart=>exact⟨(0),(0),rS,rS,H',⟨Nat.le_refl _⟩,⟨uB⟩⟩
 case round=>
  clear H'
  obtain⟨x1_1,x2_1,rfl,rfl,HA,HK1,HB⟩:=hrel
  cases gk with
  |zero=>exact absurd HA.out (by simp[impl_objectsCells.l0])
  |succ k1=>
   have H:=HA.out
   clear HA
   simp only[impl_objectsCells.l0]at H
   by_cases c1:x2_1<(l0.length:Int)
   rotate_left
   ·rw[if_neg c1]at H
    replace c1:=decide_eq_false c1
    obtain rfl:=si H
    go_wp2
    go_ret
    exact⟨rE,uB⟩
   rw[if_pos c1]at H
   replace c1:=decide_eq_true c1
   obtain⟨c2,H⟩:=np H
   replace c2:=decide_eq_true c2
   obtain⟨c3,H⟩:=np H
   replace c3:=decide_eq_true c3
   have H':=C H
   clear H
   have p1:0≤(x2_1:Int):=oT
   have q1:x2_1<(l0.length:Int):=oT
   obtain⟨ad1,A1_0,c4_0,e1,hx1_0,hx1_1,hx1_2,hx1_3,hx1_4,hx1_5,hl1_0,hi1_0⟩:=at_T77 HR1.out x2_1 p1 q1
   cases e1
   replace hx1_0:=Fix.hx HB hx1_0
   replace hx1_1:=Fix.hx HB hx1_1
   replace hx1_2:=Fix.hx HB hx1_2
   replace hx1_3:=Fix.hx HB hx1_3
   replace hx1_4:=Fix.hx HB hx1_4
   replace hx1_5:=Fix.hx HB hx1_5
   have HR2_0:=C hi1_0
   have HC2_0:=C hl1_0
   clear hi1_0 hl1_0
   replace p1:=eq_true p1
   replace q1:=eq_true q1
   go_wp2_with (first|((with_reducible refine J (N:=5) rfl ?_);refine Fix.be 5 #[L none 0 0,V I 0,V I 0,V I 0,V I 0,V I 0] 77 ?_;intro gb1 hg w1 BK1 hb;have GW1:=gE (w:=w) hg;replace HB:=eB hb;clear hb hg;obtain⟨_,_,_,_,_,_,_,_,_,_,_,_⟩:=d6 BK1.out))
   go_roundg k1
   case measure=>have:=HK1.out;omega
   case rel=>exact⟨(wrap64 (x1_1+(wrap64 (2+(((rd_T77 l0 x2_1).f0).length:Int))))),(wrap64 (x2_1+1)),rS,rS,H',⟨by have:=HK1.out;omega⟩,⟨uB⟩⟩
def impl_BandCells.f (k:Nat) (a0_0:Int) (a0_1:Int) (l0_2:List (List Int)) (l0_3:List (S77)):Option (Int):=(impl_objectsCells.f k l0_3).bind fun t312=>(some t312)
theorem impl_BandCells.calls (k:Nat) (a0_0:Int) (a0_1:Int) (A0_2:Option Addr) (c0_2:Nat) (l0_2:List (List Int)) (A0_3:Option Addr) (c0_3:Nat) (l0_3:List (S77)) (r:Int) (w:World) (hr0_2:Kd.C (Kd.slice 3 (Kd.int .i64)) w A0_2 l0_2.length l0_2) (hc0_2:l0_2.length≤c0_2) (hr0_3:Kd.C k77 w A0_3 l0_3.length l0_3) (hc0_3:l0_3.length≤c0_3) (h:impl_BandCells.f k a0_0 a0_1 l0_2 l0_3=some r):
 Calls prog 90 #[.agg #[V I a0_0,V I a0_1,L A0_2 l0_2.length c0_2,L A0_3 l0_3.length c0_3]] w fun e w'=>e=.returned (V I r)∧Below w.heap.size w w':=by
 have hu1:=underlying70
 have HR1_2:=C hr0_2
 have HC1_2:=C hc0_2
 (try clear hr0_2);(try clear hc0_2)
 have HR1_3:=C hr0_3
 have HC1_3:=C hc0_3
 (try clear hr0_3);(try clear hc0_3)
 have HB:=C (Below.refl w.heap.size w)
 have H:=h
 unfold impl_BandCells.f at H
 clear h
 obtain⟨t1,A1,H⟩:=bnd H
 obtain rfl:=si H
 go_enter func90,ntmps90
 go_wp2_with (first|((with_reducible refine J (N:=1) rfl ?_);refine Fix.be 1 #[V I a0_0,V I a0_1,L A0_2 l0_2.length c0_2,L A0_3 l0_3.length c0_3] 70 ?_;intro gb1 hg w1 BK1 hb;have GW1:=gE (w:=w) hg;replace HB:=eB hb;clear hb hg;obtain⟨_,_,_,_,_,_,_,_⟩:=d4 BK1.out)|((with_reducible refine F (f:=113) rfl ?_);refine Fix.gl 113 (some 5) func113 #[L A0_3 l0_3.length c0_3] ?_;(with_reducible refine(impl_objectsCells.calls k _ _ l0_3 t1 _ ?side1 HC1_3.out A1.out).mono ?_);(case side1=>exact uZ HR1_3);rintro e w2 ⟨rfl,hb⟩;refine⟨_,rfl,?_⟩;replace BK1:=eK BK1 hb;replace HB:=eB hb;clear hb))
 go_ret
 exact⟨rE,uB⟩
def impl_BandOk.f (k:Nat) (a0_0:Int) (a0_1:Int) (l0_2:List (List Int)) (l0_3:List (S77)):Option (Bool):=(impl_NewBand.f k a0_0 a0_1).bind fun bt314=>(if bt314.2.2.2.2=true then(if(l0_2.length:Int)=a0_0 then((impl_RowsOk.f k l0_2).bind fun t324=>(if t324=true then((impl_objectsOk.f k l0_3).bind fun t325=>(if t325=true then((impl_BandCells.f k a0_0 a0_1 l0_2 l0_3).bind fun t326=>(some (decide (t326≤60)))) else(some false))) else(some false))) else(some false)) else(some false))
theorem impl_BandOk.W1 {p:Prop} (h:p:=by
 go_enter func87,ntmps87
 go_wp2_with (first|((with_reducible refine J (N:=1) rfl ?_);(try(refine gate_guard (by rfl) ?_;dsimp only));refine Fix.be 1 #[V I a0_0,V I a0_1,L A0_2 l0_2.length c0_2,L A0_3 l0_3.length c0_3] 70 ?_;intro gb1 hg w1 BK1 hb;have GW1:=gE (w:=w) hg;replace HB:=eB hb;clear hb hg;obtain⟨_,_,_,_,_,_,_,_⟩:=d4 BK1.out)|((with_reducible refine F (f:=62) rfl ?_);refine Fix.gl 62 (some 10) func62 #[V I a0_0,V I a0_1] ?_;(with_reducible refine(impl_NewBand.calls k a0_0 a0_1 t1 t2 t3 t4 true _ A1.out).mono ?_);rintro e w2 ⟨v1,v2,rfl,ho1,ho2,hb⟩;refine⟨_,rfl,?_⟩;have HO1:=C (Kd.S_lower ho1 (below_size uB));have HO2:=C (Kd.S_lower ho2 (below_size uB));replace BK1:=eK BK1 hb;replace HB:=eB hb;clear hb ho1 ho2)|((with_reducible refine J (N:=3) rfl ?_);(try(refine gate_guard (by rfl) ?_;dsimp only));refine Fix.be 3 #[V I 0,V I 0,L none 0 0,L none 0 0] 70 ?_;intro gb2 hg w3 BK2 hb;have GW2:=gE (w:=w) hg;have n0:=nL hg BK1;have n1:=nG hg BK1;replace HO1:=eS HO1 hb;replace HO2:=eS HO2 hb;replace BK1:=eK BK1 hb;replace HB:=eB hb;clear hb hg;have:=n1.out;have:=n0.out;obtain⟨_,_,_,_,_,_,_,_⟩:=d4 BK2.out;obtain⟨Ao1,co1,eo1⟩:=Kd.S_slice HO1.out;subst eo1;obtain⟨Ao2,co2,eo2⟩:=Kd.S_slice HO2.out;subst eo2;obtain⟨_,_,_,_,_,_,_,_⟩:=d4 BK1.out)|(go_at_call 43;(with_reducible refine(impl_RowsOk.calls k _ _ l0_2 true _ ?side1 HC1_2.out A2.out).mono ?_);(case side1=>exact Z HR1_2.out uB);rintro e w' ⟨rfl,⟨nd,rfl⟩⟩)|(go_at_call 59;(with_reducible refine(impl_objectsOk.calls k _ _ l0_3 false _ ?side1 HC1_3.out A3.out).mono ?_);(case side1=>exact Z HR1_3.out uB);rintro e w4 ⟨rfl,hb⟩;replace HO1:=C (Kd.S_below (Kd.S_mono (fS (Kd.S_types HO1.out BK2.out (by decide))) (fun _ h_=>h_.1)) hb);replace HO2:=C (Kd.S_below (Kd.S_mono (fS (Kd.S_types HO2.out BK2.out (by decide))) (fun _ h_=>h_.1)) hb);replace BK1:=eK BK1 hb;replace BK2:=C (blk_below (g:=gb2) (o:=.cells #[V I t1,V I t2,L Ao1 t3.length co1,L Ao2 t4.length co2] 70 (0,0)) (bK BK2.out) hb);replace HB:=eB hb;clear hb)|(go_at_call 43;(with_reducible refine(impl_RowsOk.calls k _ _ l0_2 false _ ?side1 HC1_2.out A2.out).mono ?_);(case side1=>exact Z HR1_2.out uB);rintro e w' ⟨rfl,⟨nd,rfl⟩⟩))
 go_ret
 exact⟨rE,uB⟩):p:=h
theorem impl_BandOk.calls (k:Nat) (a0_0:Int) (a0_1:Int) (A0_2:Option Addr) (c0_2:Nat) (l0_2:List (List Int)) (A0_3:Option Addr) (c0_3:Nat) (l0_3:List (S77)) (r:Bool) (w:World) (hr0_2:Kd.C (Kd.slice 3 (Kd.int .i64)) w A0_2 l0_2.length l0_2) (hc0_2:l0_2.length≤c0_2) (hr0_3:Kd.C k77 w A0_3 l0_3.length l0_3) (hc0_3:l0_3.length≤c0_3) (h:impl_BandOk.f k a0_0 a0_1 l0_2 l0_3=some r):
 Calls prog 87 #[.agg #[V I a0_0,V I a0_1,L A0_2 l0_2.length c0_2,L A0_3 l0_3.length c0_3]] w fun e w'=>e=.returned (.bool r)∧Below w.heap.size w w':=by
 have hu1:=underlying70
 have HR1_2:=C hr0_2
 have HC1_2:=C hc0_2
 (try clear hr0_2);(try clear hc0_2)
 have HR1_3:=C hr0_3
 have HC1_3:=C hc0_3
 (try clear hr0_3);(try clear hc0_3)
 have HB:=C (Below.refl w.heap.size w)
 have H:=h
 unfold impl_BandOk.f at H
 clear h
 obtain⟨⟨t1,t2,t3,t4,t5⟩,A1,H⟩:=bnd H
 dsimp only at H
 by_cases c1:t5=true
 rotate_left
 ·obtain rfl:=nt c1
  replace H:=nf H
  obtain rfl:=si H
  go_enter func87,ntmps87
  go_wp2_with (first|((with_reducible refine J (N:=1) rfl ?_);(try(refine gate_guard (by rfl) ?_;dsimp only));refine Fix.be 1 #[V I a0_0,V I a0_1,L A0_2 l0_2.length c0_2,L A0_3 l0_3.length c0_3] 70 ?_;intro gb1 hg w1 BK1 hb;have GW1:=gE (w:=w) hg;have GE1:=GW1;replace HB:=eB hb;clear hb hg;obtain⟨_,_,_,_,_,_,_,_⟩:=d4 BK1.out)|((with_reducible refine F (f:=62) rfl ?_);refine Fix.gl 62 (some 10) func62 #[V I a0_0,V I a0_1] ?_;(with_reducible refine(impl_NewBand.calls k a0_0 a0_1 t1 t2 t3 t4 false _ A1.out).mono ?_);rintro e w2 ⟨v1,v2,rfl,ho1,ho2,hb⟩;refine⟨_,rfl,?_⟩;have HO1:=C (Kd.S_lower ho1 (below_size uB));have HO2:=C (Kd.S_lower ho2 (below_size uB));replace BK1:=eK BK1 hb;replace HB:=eB hb;clear hb ho1 ho2)|((with_reducible refine J (N:=3) rfl ?_);(try(refine gate_guard (by rfl) ?_;dsimp only));refine Fix.be 3 #[V I 0,V I 0,L none 0 0,L none 0 0] 70 ?_;intro gb2 hg w3 BK2 hb;have GW2:=gE (w:=w) hg;have GE2:=GW2;have n0:=nL hg BK1;have n1:=nG hg BK1;replace HO1:=eS HO1 hb;replace HO2:=eS HO2 hb;replace BK1:=eK BK1 hb;replace HB:=eB hb;clear hb hg;have:=n1.out;have:=n0.out;obtain⟨_,_,_,_,_,_,_,_⟩:=d4 BK2.out;obtain⟨Ao1,co1,eo1⟩:=Kd.S_slice HO1.out;subst eo1;obtain⟨Ao2,co2,eo2⟩:=Kd.S_slice HO2.out;subst eo2))
  go_ret
  exact⟨rE,uB⟩
 subst c1
 rw[if_pos rfl]at H
 by_cases c2:(l0_2.length:Int)=a0_0
 rotate_left
 ·rw[if_neg c2]at H
  have c2b0:((l0_2.length:Int)==a0_0)=false:=beq_eq_false_iff_ne.mpr c2
  have c2b1:((l0_2.length:Int) !=a0_0)=true:=bne_iff_ne.mpr c2
  obtain rfl:=si H
  exact impl_BandOk.W1
 rw[if_pos c2]at H
 have c2b0:((l0_2.length:Int)==a0_0)=true:=beq_iff_eq.mpr c2
 have c2b1:((l0_2.length:Int) !=a0_0)=false:=bne_eq_false_iff_eq.mpr c2
 clear c2
 obtain⟨t6,A2,H⟩:=bnd H
 by_cases c3:t6=true
 rotate_left
 ·obtain rfl:=nt c3
  replace H:=nf H
  obtain rfl:=si H
  exact impl_BandOk.W1
 subst c3
 rw[if_pos rfl]at H
 obtain⟨t7,A3,H⟩:=bnd H
 by_cases c4:t7=true
 rotate_left
 ·obtain rfl:=nt c4
  replace H:=nf H
  obtain rfl:=si H
  exact impl_BandOk.W1
 subst c4
 rw[if_pos rfl]at H
 obtain⟨t8,A4,H⟩:=bnd H
 obtain rfl:=si H
 go_enter func87,ntmps87
 go_wp2_with (first|((with_reducible refine J (N:=1) rfl ?_);(try(refine gate_guard (by rfl) ?_;dsimp only));refine Fix.be 1 #[V I a0_0,V I a0_1,L A0_2 l0_2.length c0_2,L A0_3 l0_3.length c0_3] 70 ?_;intro gb1 hg w1 BK1 hb;have GW1:=gE (w:=w) hg;have GE1:=GW1;replace HB:=eB hb;clear hb hg;obtain⟨_,_,_,_,_,_,_,_⟩:=d4 BK1.out)|((with_reducible refine F (f:=62) rfl ?_);refine Fix.gl 62 (some 10) func62 #[V I a0_0,V I a0_1] ?_;(with_reducible refine(impl_NewBand.calls k a0_0 a0_1 t1 t2 t3 t4 true _ A1.out).mono ?_);rintro e w2 ⟨v1,v2,rfl,ho1,ho2,hb⟩;refine⟨_,rfl,?_⟩;have HO1:=C (Kd.S_lower ho1 (below_size uB));have HO2:=C (Kd.S_lower ho2 (below_size uB));replace BK1:=eK BK1 hb;replace HB:=eB hb;clear hb ho1 ho2)|((with_reducible refine J (N:=3) rfl ?_);(try(refine gate_guard (by rfl) ?_;dsimp only));refine Fix.be 3 #[V I 0,V I 0,L none 0 0,L none 0 0] 70 ?_;intro gb2 hg w3 BK2 hb;have GW2:=gE (w:=w) hg;have GE2:=GW2;have n0:=nL hg BK1;have n1:=nG hg BK1;replace HO1:=eS HO1 hb;replace HO2:=eS HO2 hb;replace BK1:=eK BK1 hb;replace HB:=eB hb;clear hb hg;have:=n1.out;have:=n0.out;obtain⟨_,_,_,_,_,_,_,_⟩:=d4 BK2.out;obtain⟨Ao1,co1,eo1⟩:=Kd.S_slice HO1.out;subst eo1;obtain⟨Ao2,co2,eo2⟩:=Kd.S_slice HO2.out;subst eo2;obtain⟨_,_,_,_,_,_,_,_⟩:=d4 BK1.out)|(go_at_call 43;(with_reducible refine(impl_RowsOk.calls k _ _ l0_2 true _ ?side1 HC1_2.out A2.out).mono ?_);(case side1=>exact Z HR1_2.out uB);rintro e w' ⟨rfl,⟨nd,rfl⟩⟩)|(go_at_call 59;(with_reducible refine(impl_objectsOk.calls k _ _ l0_3 true _ ?side1 HC1_3.out A3.out).mono ?_);(case side1=>exact Z HR1_3.out uB);rintro e w4 ⟨rfl,hb⟩;replace HO1:=C (Kd.S_below (Kd.S_mono (fS (Kd.S_types HO1.out BK2.out (by decide))) (fun _ h_=>h_.1)) hb);replace HO2:=C (Kd.S_below (Kd.S_mono (fS (Kd.S_types HO2.out BK2.out (by decide))) (fun _ h_=>h_.1)) hb);replace BK1:=eK BK1 hb;replace BK2:=C (blk_below (g:=gb2) (o:=.cells #[V I t1,V I t2,L Ao1 t3.length co1,L Ao2 t4.length co2] 70 (0,0)) (bK BK2.out) hb);replace HB:=eB hb;clear hb;obtain⟨_,_,_,_,_,_,_,_⟩:=d4 BK1.out)|(go_at_call 90;(with_reducible refine(impl_BandCells.calls k a0_0 a0_1 _ _ l0_2 _ _ l0_3 t8 _ ?side1 HC1_2.out ?side3 HC1_3.out A4.out).mono ?_);(case side1=>exact uZ HR1_2);(case side3=>exact uZ HR1_3);rintro e w5 ⟨rfl,hb⟩;replace HO1:=eS HO1 hb;replace HO2:=eS HO2 hb;replace BK1:=eK BK1 hb;replace BK2:=eK BK2 hb;replace HB:=eB hb;clear hb))
 go_ret
 exact⟨rE,uB⟩
def slices_Clone_int_int.f (l0:List Int):Option (List Int):=(some (([]:List Int):List Int)).bind fun y327=>(if y327.length+l0.length<17592186044416 then(some (y327++l0)) else(none))
theorem slices_Clone_int_int.calls (A0:Option Addr) (c0:Nat) (l0:List Int) (r:List Int) (w:World) (hr0:Kd.C (Kd.int .i64) w A0 l0.length l0) (hc0:l0.length≤c0) (h:slices_Clone_int_int.f l0=some r):
 Calls prog 77 #[L A0 l0.length c0] w fun e w'=>∃v0_:Value,e=.returned (v0_)∧Kd.R (Kd.int .i64) 3 w' w.heap.size (fun _=>True) v0_ r∧Below w.heap.size w w':=by
 rcases A0 with _|ad1
 ·have hl1:l0= []:=Ext.nil_of_C hr0
  subst hl1
  have hr_:r= []:=by have h1:=h;simp[slices_Clone_int_int.f]at h1;exact h1
  subst hr_
  have hq:=fun (W:World)=>Go.run_eql_slice_nil W 39 3 none 0 c0 underlying39
  simp only[Option.isNone_none]at hq
  go_enter func77,ntmps77
  go_wp2
  go_ret
  exact⟨_,rfl,Kd.R_nil _ _ _ _ _,by repeat(first|exact Below.refl _ _|apply bA|apply bN)⟩
 have hq:=fun (W:World)=>Go.run_eql_slice_nil W 39 3 (some ad1) l0.length c0 underlying39
 simp only[Option.isNone_some]at hq
 have HR1:=C hr0
 have HC1:=C hc0
 (try clear hr0);(try clear hc0)
 have HB:=C (Below.refl w.heap.size w)
 have H:=h
 unfold slices_Clone_int_int.f at H
 clear h
 obtain⟨y1,hy1⟩:∃y_:List Int,y_=(([]:List Int)):=⟨_,rfl⟩
 replace H:(if y1.length+l0.length<17592186044416 then(some (y1++l0)) else(none))=some r:=gy hy1 H
 have Ny1:=C hy1
 clear hy1
 obtain⟨c1,H⟩:=np H
 have LMc1:=C c1
 clear c1
 obtain⟨y2,hy2⟩:∃y_:List Int,y_=(y1++l0):=⟨_,rfl⟩
 replace H:(some y2)=some r:=gy hy2 H
 have Ny2:=C hy2
 clear hy2
 obtain rfl:=si H
 go_enter func77,ntmps77
 go_wp2_with (first|((with_reducible refine J (N:=5) rfl ?_);refine Kd.R_lit (Kd.int .i64) _ 3 ?hg (N:=5) ?hd (xs:=([]:List Int)) (inner:= []) (ok:=fun _=>True) (okp:=fun _=>True) ?hr ?hp (fun _ hk=>hk) trivial (Below.refl _ _) (Nat.le_refl _) (by simp) ?_;(case hd=>rfl);(case hg=>rfl);(case hr=>exact Fix.hr);(case hp=>exact(Reps.none _ _));intro v1 w1 ho1 hb hg_ hnew_;clear hg_ hnew_;(first|rw[←Ny1.out]at ho1|(simp only[Int.reduceToNat]at ho1;rw[←Ny1.out]at ho1));have HO1:=lR ho1;replace HB:=eB hb;clear hb ho1)|((with_reducible refine gate_builtin (b:=.append) (xs:= #[.tmp 5,.tmp 6]) rfl ?_);at_builtin;refine Kd.R_append_rows (Kd.int .i64) (w0:=w) w.heap.size rfl (.tmp 5) (.tmp 6) 39 3 (V I 0) 8 rfl underlying39 info3 rfl (by decide) (by omega) v1 y1 l0 _ _ _ (fun _=>True) (fun _=>False) rfl rfl ?aO ?aR (fun _ _ h=>h) (fun _ h=>h.elim) ?aF ?aB ?aS ?aL ?_;(case aR=>exact uZ HR1);(case aB=>exact uB);(case aF=>exact(fun _ _=>trivial));(case aO=>exact(uR HO1.out));(case aS=>exact(below_size uB));(case aL=>have:=LMc1.out;omega);intro v2 w2 ho hb hg hat;rw[←Ny2.out]at ho;have HO2:=C (ho);replace HB:=C (hb);clear HO1;clear ho hb hg hat))
 go_ret
 exact⟨_,rE,fR HO2.out,uB⟩
def impl_copyRows.l0:Nat→List (List Int)→List (List Int)→Int→Int→Option ((List (List Int)))
 |0,_,_,_,_=>none
 |k+1,x3,x6,x7,x8=>if x8<x7 then(if 0≤x8 then(if x8<(x6.length:Int) then((slices_Clone_int_int.f (rd_L6 x6 x8)).bind fun t334=>(if x3.length<5864062014805 then(impl_copyRows.l0 k (x3++ [t334]) x6 x7 (wrap64 (x8+1))) else(none))) else(none)) else(none)) else(some x3)
def impl_copyRows.f (k:Nat) (l0:List (List Int)):Option ((List (List Int))):=impl_copyRows.l0 k ([]:List (List Int)) l0 (l0.length:Int) 0
theorem impl_copyRows.calls (k:Nat) (A0:Option Addr) (c0:Nat) (l0:List (List Int)) (r:List (List Int)) (w:World) (hr0:Kd.C (Kd.slice 3 (Kd.int .i64)) w A0 l0.length l0) (hc0:l0.length≤c0) (h:impl_copyRows.f k l0=some r):
 Calls prog 44 #[L A0 l0.length c0] w fun e w'=>∃v0_:Value,e=.returned (v0_)∧Kd.S (Kd.slice 3 (Kd.int .i64)) 39 w' w.heap.size (fun _=>True) v0_ r∧Below w.heap.size w w':=by
 have HR1:=C hr0
 have HC1:=C hc0
 (try clear hr0);(try clear hc0)
 have HB:=C (Below.refl w.heap.size w)
 have H:=h
 unfold impl_copyRows.f at H
 clear h
 have H':=C H
 clear H
 go_enter func44,ntmps44
 go_wp2
 go_loopg [3,8] k (fun kq v3 v8 w'=>∃(x1_1:List (List Int)) (x2_1:Int),v8=V I x2_1∧D (impl_copyRows.l0 kq x1_1 l0 (l0.length:Int) x2_1=some r)∧D (kq≤k)∧D (Kd.S (Kd.slice 3 (Kd.int .i64)) 39 w' w.heap.size (fun _=>True) v3 x1_1)∧D (Below w.heap.size w w'))
 case atStart=>exact⟨(([]:List (List Int))),(0),rS,H',⟨Nat.le_refl _⟩,⟨by first|exact Kd.S_nil _ _ _ _ _|exact Kd.N_nil _ _ _ _ _|exact Kd.V_nil _ _ _ _ _|exact Kd.Q_nil _ _ _ _ _|exact Kd.R_nil _ _ _ _ _⟩,⟨uB⟩⟩
 case round=>
  clear H'
  obtain⟨x1_1,x2_1,rfl,HA,HK1,HO_1,HB⟩:=hrel
  cases gk with
  |zero=>exact absurd HA.out (by simp[impl_copyRows.l0])
  |succ k1=>
   have H:=HA.out
   clear HA
   simp only[impl_copyRows.l0]at H
   by_cases c1:x2_1<(l0.length:Int)
   rotate_left
   ·rw[if_neg c1]at H
    replace c1:=decide_eq_false c1
    obtain rfl:=si H
    go_wp2
    go_ret
    exact⟨_,rE,fS HO_1.out,uB⟩
   rw[if_pos c1]at H
   replace c1:=decide_eq_true c1
   obtain⟨c2,H⟩:=np H
   replace c2:=decide_eq_true c2
   obtain⟨c3,H⟩:=np H
   replace c3:=decide_eq_true c3
   obtain⟨t1,A1,H⟩:=bnd H
   obtain⟨c4,H⟩:=np H
   have LMc1:=C c4
   clear c4
   obtain⟨y1,hy1⟩:∃y_:List (List Int),y_=(x1_1++ [t1]):=⟨_,rfl⟩
   replace H:(impl_copyRows.l0 k1 y1 l0 (l0.length:Int) (wrap64 (x2_1+1)))=some r:=gy hy1 H
   have Ny1:=C hy1
   clear hy1
   have H':=C H
   clear H
   have p1:0≤(x2_1:Int):=oT
   have q1:x2_1<(l0.length:Int):=oT
   obtain⟨ad1,A2_0,c5_0,e1,hx1_0,hl1_0,hi1_0⟩:=at_L6 HR1.out x2_1 p1 q1
   cases e1
   replace hx1_0:=Fix.hx HB hx1_0
   have HR2_0:=C hi1_0
   have HC2_0:=C hl1_0
   clear hi1_0 hl1_0
   replace p1:=eq_true p1
   replace q1:=eq_true q1
   go_wp2_with (first|((with_reducible refine F (f:=77) rfl ?_);refine Fix.gl 77 (some 14) func77 #[L A2_0 (rd_L6 l0 x2_1).length c5_0] ?_;(with_reducible refine(slices_Clone_int_int.calls _ _ (rd_L6 l0 x2_1) t1 _ ?side1 HC2_0.out A1.out).mono ?_);(case side1=>exact uZ HR2_0);rintro e w1 ⟨v1,rfl,ho1,hb⟩;refine⟨_,rfl,?_⟩;have HO1:=lR ho1;replace HO_1:=C (Kd.S_elder' (uS HO_1.out) (Kd.R_base ho1) hb);replace HB:=eB hb;clear hb ho1;obtain⟨Ao1,co1,rfl⟩:=Kd.R_slice HO1.out)|((with_reducible refine gate_builtin (b:=.append) (xs:= #[.tmp 12,.tmp 15]) rfl ?_);at_builtin;refine Kd.S_append (Kd.slice 3 (Kd.int .i64)) (w0:=w) w.heap.size rfl (.tmp 12) (.tmp 15) 22 39 (L none 0 0) 24 rfl underlying22 info39 rfl (by decide) (by omega) u3 x1_1 t1 [L Ao1 t1.length co1] (fun _=>True) (fun k_=>some k_=(L Ao1 t1.length co1:Value).ownBlock) rfl rfl ?aP (fun k_ hk_=>((Kd.R_mono (ok':=fun k_=>((fun _=>True)) k_∧qm k_ u3) (Kd.R_apart' (HO1.out) (Kd.S_typed HO_1.out) (by decide)) (fun k_ hk=>⟨trivial,hk.2⟩))).1 k_ hk_.symm) ?aF ?aO ?aB ?aS ?aL ?_;(case aP=>exact Kd.M_row (Kd.R_mono (Kd.R_tight rfl (Kd.R_mono (ok':=fun k_=>((fun _=>True)) k_∧qm k_ u3) (Kd.R_apart' (HO1.out) (Kd.S_typed HO_1.out) (by decide)) (fun k_ hk=>⟨trivial,hk.2⟩))) (fun _ h_=>h_)));(case aB=>exact uB);(case aF=>exact(fun _ _=>trivial));(case aO=>exact(Kd.S_mono (fS HO_1.out) (fun k_ hk=>⟨trivial,fun e_=>hk.2 e_⟩)));(case aS=>exact(below_size uB));(case aL=>have:=LMc1.out;omega);intro v2 w2 ho hb hg hat;rw[←Ny1.out]at ho;have HO2:=C (ho);replace HB:=C (hb);clear HO_1;clear HO1;clear ho hb hg hat))
   go_roundg k1
   case measure=>have:=HK1.out;omega
   case rel=>exact⟨(y1),(wrap64 (x2_1+1)),rS,H',⟨by have:=HK1.out;omega⟩,⟨fS HO2.out⟩,⟨uB⟩⟩
def impl_Point.f (l0:List (S126)):Option ((List (S126))):=(some (([]:List (S126)):List (S126))).bind fun y340=>(if y340.length+l0.length<8796093022208 then(some (y340++l0)) else(none))
theorem impl_Point.calls (A0:Option Addr) (c0:Nat) (l0:List (S126)) (r:List (S126)) (w:World) (hr0:Kd.C k126 w A0 l0.length l0) (hc0:l0.length≤c0) (h:impl_Point.f l0=some r):
 Calls prog 114 #[L A0 l0.length c0] w fun e w'=>∃v0_:Value,e=.returned (v0_)∧Kd.R k126 126 w' w.heap.size (fun _=>True) v0_ r∧Below w.heap.size w w':=by
 rcases A0 with _|ad1
 ·have hl1:l0= []:=Ext.nil_of_C hr0
  subst hl1
  have hr_:r= []:=by have h1:=h;simp[impl_Point.f]at h1;exact h1
  subst hr_
  have hq:=fun (W:World)=>Go.run_eql_slice_nil W 73 126 none 0 c0 underlying73
  simp only[Option.isNone_none]at hq
  go_enter func114,ntmps114
  go_wp2
  go_ret
  exact⟨_,rfl,Kd.R_nil _ _ _ _ _,by repeat(first|exact Below.refl _ _|apply bA|apply bN)⟩
 have hq:=fun (W:World)=>Go.run_eql_slice_nil W 73 126 (some ad1) l0.length c0 underlying73
 simp only[Option.isNone_some]at hq
 have HR1:=C hr0
 have HC1:=C hc0
 (try clear hr0);(try clear hc0)
 have HB:=C (Below.refl w.heap.size w)
 have H:=h
 unfold impl_Point.f at H
 clear h
 obtain⟨y1,hy1⟩:∃y_:List (S126),y_=(([]:List (S126))):=⟨_,rfl⟩
 replace H:(if y1.length+l0.length<8796093022208 then(some (y1++l0)) else(none))=some r:=gy hy1 H
 have Ny1:=C hy1
 clear hy1
 obtain⟨c1,H⟩:=np H
 have LMc1:=C c1
 clear c1
 obtain⟨y2,hy2⟩:∃y_:List (S126),y_=(y1++l0):=⟨_,rfl⟩
 replace H:(some y2)=some r:=gy hy2 H
 have Ny2:=C hy2
 clear hy2
 obtain rfl:=si H
 go_enter func114,ntmps114
 go_wp2_with (first|((with_reducible refine J (N:=5) rfl ?_);refine Kd.R_lit k126 _ 126 ?hg (N:=5) ?hd (xs:=([]:List (S126))) (inner:= []) (ok:=fun _=>True) (okp:=fun _=>True) ?hr ?hp (fun _ hk=>hk) trivial (Below.refl _ _) (Nat.le_refl _) (by simp) ?_;(case hd=>rfl);(case hg=>rfl);(case hr=>exact Fix.hr);(case hp=>exact(Reps.none _ _));intro v1 w1 ho1 hb hg_ hnew_;clear hg_ hnew_;(first|rw[←Ny1.out]at ho1|(simp only[Int.reduceToNat]at ho1;rw[←Ny1.out]at ho1));have HO1:=lR ho1;replace HB:=eB hb;clear hb ho1)|((with_reducible refine gate_builtin (b:=.append) (xs:= #[.tmp 5,.tmp 6]) rfl ?_);at_builtin;refine Kd.R_append_rows k126 (w0:=w) w.heap.size rfl (.tmp 5) (.tmp 6) 73 126 (.agg #[(V I 0),(V I 0)]) 16 rfl underlying73 info126 rfl (by decide) (by omega) v1 y1 l0 _ _ _ (fun _=>True) (fun _=>False) rfl rfl ?aO ?aR (fun _ _ h=>h) (fun _ h=>h.elim) ?aF ?aB ?aS ?aL ?_;(case aR=>exact uZ HR1);(case aB=>exact uB);(case aF=>exact(fun _ _=>trivial));(case aO=>exact(uR HO1.out));(case aS=>exact(below_size uB));(case aL=>have:=LMc1.out;omega);intro v2 w2 ho hb hg hat;rw[←Ny2.out]at ho;have HO2:=C (ho);replace HB:=C (hb);clear HO1;clear ho hb hg hat))
 go_ret
 exact⟨_,rE,fR HO2.out,uB⟩
end Go.Proofs.Ytaceidiookkocaa.PFnPrinted
