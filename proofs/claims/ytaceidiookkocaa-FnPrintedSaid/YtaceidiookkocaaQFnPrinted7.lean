/- Calls do what plain Lean functions say (FnPrinted). No condition. -/
import Derived.Test.YtaceidiookkocaaQFnPrinted0
import Derived.Test.YtaceidiookkocaaQFnPrinted1
import Derived.Test.YtaceidiookkocaaQFnPrinted2
import Derived.Test.YtaceidiookkocaaQFnPrinted5
import Derived.Test.YtaceidiookkocaaQFnPrinted6
namespace Go.Proofs.Ytaceidiookkocaa.PFnPrinted
open Go.RowKit Go.Proofs.YtaceidiookkocaaW.PrintWords Go.Proofs.YtaceidiookkocaaW.PrintLast Go.Proofs.YtaceidiookkocaaW.PrintMore
open Try
open Fix (bK bnd cg2 d4 dB dD dK dR dn2 eB eK eR eS fR fS gE gK gl gy hi hx lR nG nL nf nm np nt nu oL oT ou pu qm qn rE rN rS si tu uB uC uK uR uS uZ)
open Go.Value renaming int→V,slice→L,bool→O
open Go.IntKind renaming i64→I
open Go.Proofs.YtaceidiookkocaaW.PrintWords.Aside0 renaming mk→C
open Go.Proofs.YtaceidiookkocaaW.PrintWords renaming Aside0→D,gate_callee→F,gate_dst→J
open Go.World renaming block_lt_of_cell?→E
attribute [local go_sem] max2_int min2_int max_two min_two max_three min_three max_four min_four
attribute [local go_sem] Fix.isSome_setCell
set_option linter.unusedVariables false
set_option maxHeartbeats 40000000
set_option maxRecDepth 100000
set_option linter.unusedSimpArgs false
def impl_RunsOk.l0:Nat→List (S136)→List (S136)→Int→Int→Option (Bool)
 |0,_,_,_,_=>none
 |k+1,x0,x5,x6,x7=>if x7<x6 then(if 0≤x7 then(if x7<(x5.length:Int) then((impl_within.f ((rd_T136 x5 x7).f0) 0 255).bind fun t584=>(if t584=true then((impl_within.f ((rd_T136 x5 x7).f1) 1 32).bind fun t585=>(if t585=true then(if x7 >0 then(if 0≤(wrap64 (x7 - 1)) then(if(wrap64 (x7 - 1))<(x0.length:Int) then(if((rd_T136 x0 (wrap64 (x7 - 1))).f0)=((rd_T136 x5 x7).f0) then(some false) else(impl_RunsOk.l0 k x0 x5 x6 (wrap64 (x7+1)))) else(none)) else(none)) else(impl_RunsOk.l0 k x0 x5 x6 (wrap64 (x7+1)))) else(some false))) else(some false))) else(none)) else(none)) else(some true)
def impl_RunsOk.f (k:Nat) (l0:List (S136)):Option (Bool):=impl_RunsOk.l0 k l0 l0 (l0.length:Int) 0
theorem impl_RunsOk.calls (k:Nat) (A0:Option Addr) (c0:Nat) (l0:List (S136)) (r:Bool) (w:World) (hr0:Kd.C k136 w A0 l0.length l0) (hc0:l0.length≤c0) (h:impl_RunsOk.f k l0=some r):
 Calls prog 125 #[L A0 l0.length c0] w fun e w'=>e=.returned (O r)∧Below w.heap.size w w':=by
 have hu1:=underlying136
 have HR1:=C hr0
 have HC1:=C hc0
 (try clear hr0);(try clear hc0)
 have HB:=C (Below.refl w.heap.size w)
 have H:=h
 unfold impl_RunsOk.f at H
 clear h
 have H':=C H
 clear H
 go_enter func125,ntmps125
 go_wp2
 repeat(go_quiet (fail);try go_wp2)
 go_loopg [7] k (fun kq v7 w'=>∃(x1_1:Int),v7=V I x1_1∧D (impl_RunsOk.l0 kq l0 l0 (l0.length:Int) x1_1=some r)∧D (kq≤k)∧D (Below w.heap.size w w'))
 case atStart=>exact⟨(0),rS,H',⟨Nat.le_refl _⟩,⟨uB⟩⟩
 case round=>
  clear H'
  obtain⟨x1_1,rfl,HA,HK1,HB⟩:=hrel
  cases gk with
  |zero=>exact absurd HA.out (by simp[impl_RunsOk.l0])
  |succ k1=>
   have H:=HA.out
   clear HA
   simp only[impl_RunsOk.l0]at H
   by_cases c1:x1_1<(l0.length:Int)
   rotate_left
   ·rw[if_neg c1]at H
    replace c1:=decide_eq_false c1
    obtain rfl:=si H
    go_wp2
    repeat(go_quiet (fail);try go_wp2)
    go_ret
    exact⟨rE,uB⟩
   rw[if_pos c1]at H
   replace c1:=decide_eq_true c1
   obtain⟨c2,H⟩:=np H
   replace c2:=decide_eq_true c2
   obtain⟨c3,H⟩:=np H
   replace c3:=decide_eq_true c3
   obtain⟨t1,A1,H⟩:=bnd H
   by_cases c4:t1=true
   rotate_left
   ·obtain rfl:=nt c4
    replace H:=nf H
    obtain rfl:=si H
    have p1:0≤(x1_1:Int):=oT
    have q1:x1_1<(l0.length:Int):=oT
    obtain⟨ad1,e1,hx1_0,hx1_1⟩:=at_T136 (Kd.C_below HR1.out HB.out) x1_1 p1 q1
    cases e1
    replace p1:=eq_true p1
    replace q1:=eq_true q1
    go_wp2_with (first|((with_reducible refine J (N:=4) rfl ?_);refine Fix.be 4 #[V I 0,V I 0] 136 ?_;intro gb1 hg w1 BK1 hb;have GW1:=gE (w:=w) hg;have GE1:=GW1;replace HB:=eB hb;clear hb hg;have hcz1_0:w1.cell? ⟨gb1,0,none⟩=some (V I 0):=(blk_cell BK1.out 0).trans rfl;have hcz1_1:w1.cell? ⟨gb1,1,none⟩=some (V I 0):=(blk_cell BK1.out 1).trans rfl;have hfz1_0:=blk_frozen BK1.out 0;have hfz1_1:=blk_frozen BK1.out 1)|(go_at_call 49;(with_reducible refine(impl_within.calls ((rd_T136 l0 x1_1).f0) 0 255 false _ A1.out).mono ?_);rintro e w' ⟨rfl,⟨nd,rfl⟩⟩;(try exact dD)))
    repeat(go_quiet (first|(go_at_call 49;(with_reducible refine(impl_within.calls ((rd_T136 l0 x1_1).f0) 0 255 false _ A1.out).mono ?_);rintro e w' ⟨rfl,⟨nd,rfl⟩⟩;(try exact dD)));try go_wp2_with (first|((with_reducible refine J (N:=4) rfl ?_);refine Fix.be 4 #[V I 0,V I 0] 136 ?_;intro gb1 hg w1 BK1 hb;have GW1:=gE (w:=w) hg;have GE1:=GW1;replace HB:=eB hb;clear hb hg;have hcz1_0:w1.cell? ⟨gb1,0,none⟩=some (V I 0):=(blk_cell BK1.out 0).trans rfl;have hcz1_1:w1.cell? ⟨gb1,1,none⟩=some (V I 0):=(blk_cell BK1.out 1).trans rfl;have hfz1_0:=blk_frozen BK1.out 0;have hfz1_1:=blk_frozen BK1.out 1)|(go_at_call 49;(with_reducible refine(impl_within.calls ((rd_T136 l0 x1_1).f0) 0 255 false _ A1.out).mono ?_);rintro e w' ⟨rfl,⟨nd,rfl⟩⟩;(try exact dD))))
    go_ret
    exact⟨rE,uB⟩
   subst c4
   rw[if_pos rfl]at H
   obtain⟨t2,A2,H⟩:=bnd H
   by_cases c5:t2=true
   rotate_left
   ·obtain rfl:=nt c5
    replace H:=nf H
    obtain rfl:=si H
    have p1:0≤(x1_1:Int):=oT
    have q1:x1_1<(l0.length:Int):=oT
    obtain⟨ad1,e1,hx1_0,hx1_1⟩:=at_T136 (Kd.C_below HR1.out HB.out) x1_1 p1 q1
    cases e1
    replace p1:=eq_true p1
    replace q1:=eq_true q1
    go_wp2_with (first|((with_reducible refine J (N:=4) rfl ?_);refine Fix.be 4 #[V I 0,V I 0] 136 ?_;intro gb1 hg w1 BK1 hb;have GW1:=gE (w:=w) hg;have GE1:=GW1;replace HB:=eB hb;clear hb hg;have hcz1_0:w1.cell? ⟨gb1,0,none⟩=some (V I 0):=(blk_cell BK1.out 0).trans rfl;have hcz1_1:w1.cell? ⟨gb1,1,none⟩=some (V I 0):=(blk_cell BK1.out 1).trans rfl;have hfz1_0:=blk_frozen BK1.out 0;have hfz1_1:=blk_frozen BK1.out 1)|(go_at_call 49;(with_reducible refine(impl_within.calls ((rd_T136 l0 x1_1).f0) 0 255 true _ A1.out).mono ?_);rintro e w' ⟨rfl,⟨nd,rfl⟩⟩;(try exact dD))|(go_at_call 49;(with_reducible refine(impl_within.calls ((rd_T136 l0 x1_1).f1) 1 32 false _ A2.out).mono ?_);rintro e w' ⟨rfl,⟨nd,rfl⟩⟩;(try exact dD)))
    repeat(go_quiet (first|(go_at_call 49;(with_reducible refine(impl_within.calls ((rd_T136 l0 x1_1).f0) 0 255 true _ A1.out).mono ?_);rintro e w' ⟨rfl,⟨nd,rfl⟩⟩;(try exact dD))|(go_at_call 49;(with_reducible refine(impl_within.calls ((rd_T136 l0 x1_1).f1) 1 32 false _ A2.out).mono ?_);rintro e w' ⟨rfl,⟨nd,rfl⟩⟩;(try exact dD)));try go_wp2_with (first|((with_reducible refine J (N:=4) rfl ?_);refine Fix.be 4 #[V I 0,V I 0] 136 ?_;intro gb1 hg w1 BK1 hb;have GW1:=gE (w:=w) hg;have GE1:=GW1;replace HB:=eB hb;clear hb hg;have hcz1_0:w1.cell? ⟨gb1,0,none⟩=some (V I 0):=(blk_cell BK1.out 0).trans rfl;have hcz1_1:w1.cell? ⟨gb1,1,none⟩=some (V I 0):=(blk_cell BK1.out 1).trans rfl;have hfz1_0:=blk_frozen BK1.out 0;have hfz1_1:=blk_frozen BK1.out 1)|(go_at_call 49;(with_reducible refine(impl_within.calls ((rd_T136 l0 x1_1).f0) 0 255 true _ A1.out).mono ?_);rintro e w' ⟨rfl,⟨nd,rfl⟩⟩;(try exact dD))|(go_at_call 49;(with_reducible refine(impl_within.calls ((rd_T136 l0 x1_1).f1) 1 32 false _ A2.out).mono ?_);rintro e w' ⟨rfl,⟨nd,rfl⟩⟩;(try exact dD))))
    go_ret
    exact⟨rE,uB⟩
   subst c5
   rw[if_pos rfl]at H
   by_cases c6:x1_1 >0
   rotate_left
   ·rw[if_neg c6]at H
    replace c6:=decide_eq_false c6
    have H':=C H
    clear H
    have p1:0≤(x1_1:Int):=oT
    have q1:x1_1<(l0.length:Int):=oT
    obtain⟨ad1,e1,hx1_0,hx1_1⟩:=at_T136 (Kd.C_below HR1.out HB.out) x1_1 p1 q1
    cases e1
    replace p1:=eq_true p1
    replace q1:=eq_true q1
    go_wp2_with (first|((with_reducible refine J (N:=4) rfl ?_);refine Fix.be 4 #[V I 0,V I 0] 136 ?_;intro gb1 hg w1 BK1 hb;have GW1:=gE (w:=w) hg;have GE1:=GW1;replace HB:=eB hb;clear hb hg;have hcz1_0:w1.cell? ⟨gb1,0,none⟩=some (V I 0):=(blk_cell BK1.out 0).trans rfl;have hcz1_1:w1.cell? ⟨gb1,1,none⟩=some (V I 0):=(blk_cell BK1.out 1).trans rfl;have hfz1_0:=blk_frozen BK1.out 0;have hfz1_1:=blk_frozen BK1.out 1)|(go_at_call 49;(with_reducible refine(impl_within.calls ((rd_T136 l0 x1_1).f0) 0 255 true _ A1.out).mono ?_);rintro e w' ⟨rfl,⟨nd,rfl⟩⟩;(try exact dD))|(go_at_call 49;(with_reducible refine(impl_within.calls ((rd_T136 l0 x1_1).f1) 1 32 true _ A2.out).mono ?_);rintro e w' ⟨rfl,⟨nd,rfl⟩⟩;(try exact dD)))
    repeat(go_quiet (first|(go_at_call 49;(with_reducible refine(impl_within.calls ((rd_T136 l0 x1_1).f0) 0 255 true _ A1.out).mono ?_);rintro e w' ⟨rfl,⟨nd,rfl⟩⟩;(try exact dD))|(go_at_call 49;(with_reducible refine(impl_within.calls ((rd_T136 l0 x1_1).f1) 1 32 true _ A2.out).mono ?_);rintro e w' ⟨rfl,⟨nd,rfl⟩⟩;(try exact dD)));try go_wp2_with (first|((with_reducible refine J (N:=4) rfl ?_);refine Fix.be 4 #[V I 0,V I 0] 136 ?_;intro gb1 hg w1 BK1 hb;have GW1:=gE (w:=w) hg;have GE1:=GW1;replace HB:=eB hb;clear hb hg;have hcz1_0:w1.cell? ⟨gb1,0,none⟩=some (V I 0):=(blk_cell BK1.out 0).trans rfl;have hcz1_1:w1.cell? ⟨gb1,1,none⟩=some (V I 0):=(blk_cell BK1.out 1).trans rfl;have hfz1_0:=blk_frozen BK1.out 0;have hfz1_1:=blk_frozen BK1.out 1)|(go_at_call 49;(with_reducible refine(impl_within.calls ((rd_T136 l0 x1_1).f0) 0 255 true _ A1.out).mono ?_);rintro e w' ⟨rfl,⟨nd,rfl⟩⟩;(try exact dD))|(go_at_call 49;(with_reducible refine(impl_within.calls ((rd_T136 l0 x1_1).f1) 1 32 true _ A2.out).mono ?_);rintro e w' ⟨rfl,⟨nd,rfl⟩⟩;(try exact dD))))
    go_roundg k1
    case measure=>have:=HK1.out;omega
    case rel=>exact⟨(wrap64 (x1_1+1)),rS,H',⟨by have:=HK1.out;omega⟩,⟨uB⟩⟩
   rw[if_pos c6]at H
   replace c6:=decide_eq_true c6
   obtain⟨ji1,hji1⟩:∃j_:Int,(wrap64 (x1_1 - 1))=j_:=⟨_,rfl⟩
   replace H:(if 0≤(ji1) then(if(ji1)<(l0.length:Int) then(if((rd_T136 l0 (ji1)).f0)=((rd_T136 l0 x1_1).f0) then(some false) else(impl_RunsOk.l0 k1 l0 l0 (l0.length:Int) (wrap64 (x1_1+1)))) else(none)) else(none))=some r:=by first|(rw[hji1]at H;exact H)|(simp only[hji1]at H ⊢;exact H)
   (try rw[hji1]at A1)
   (try rw[hji1]at A2)
   have hji1w:(IntKind.i64.wrap (x1_1 - 1))=ji1:=(i64_w _).trans hji1
   obtain⟨c7,H⟩:=np H
   replace c7:=decide_eq_true c7
   obtain⟨c8,H⟩:=np H
   replace c8:=decide_eq_true c8
   by_cases c9:((rd_T136 l0 (ji1)).f0)=((rd_T136 l0 x1_1).f0)
   rotate_left
   ·rw[if_neg c9]at H
    have c9b0:(((rd_T136 l0 (ji1)).f0)==((rd_T136 l0 x1_1).f0))=false:=beq_eq_false_iff_ne.mpr c9
    have c9b1:(((rd_T136 l0 (ji1)).f0) !=((rd_T136 l0 x1_1).f0))=true:=bne_iff_ne.mpr c9
    have H':=C H
    clear H
    have p1:0≤(x1_1:Int):=oT
    have q1:x1_1<(l0.length:Int):=oT
    obtain⟨ad1,e1,hx1_0,hx1_1⟩:=at_T136 (Kd.C_below HR1.out HB.out) x1_1 p1 q1
    cases e1
    replace p1:=eq_true p1
    replace q1:=eq_true q1
    go_wp2_with (first|((with_reducible refine J (N:=4) rfl ?_);refine Fix.be 4 #[V I 0,V I 0] 136 ?_;intro gb1 hg w1 BK1 hb;have GW1:=gE (w:=w) hg;have GE1:=GW1;replace HB:=eB hb;clear hb hg;have hcz1_0:w1.cell? ⟨gb1,0,none⟩=some (V I 0):=(blk_cell BK1.out 0).trans rfl;have hcz1_1:w1.cell? ⟨gb1,1,none⟩=some (V I 0):=(blk_cell BK1.out 1).trans rfl;have hfz1_0:=blk_frozen BK1.out 0;have hfz1_1:=blk_frozen BK1.out 1)|(go_at_call 49;(with_reducible refine(impl_within.calls ((rd_T136 l0 x1_1).f0) 0 255 true _ A1.out).mono ?_);rintro e w' ⟨rfl,⟨nd,rfl⟩⟩;(try exact dD))|(go_at_call 49;(with_reducible refine(impl_within.calls ((rd_T136 l0 x1_1).f1) 1 32 true _ A2.out).mono ?_);rintro e w' ⟨rfl,⟨nd,rfl⟩⟩;(try exact dD);have p2:0≤((ji1):Int):=oT;have q2:(ji1)<(l0.length:Int):=oT;obtain⟨ad2,e2,hx2_0,hx2_1⟩:=at_T136 HR1.out (ji1) p2 q2;obtain rfl:ad1=ad2:=(by injection e2);have hn1_0:ad1.block≠gb1:=Nat.ne_of_lt (Nat.lt_of_lt_of_le (by have:=E _ _ hx2_0;first|rwa [add_block]at this|exact this) GW1.out);have hn1_1:ad1.block≠gb1:=Nat.ne_of_lt (Nat.lt_of_lt_of_le (by have:=E _ _ hx2_0;first|rwa [add_block]at this|exact this) GW1.out);replace hx2_0:=hx HB hx2_0;replace hx2_1:=hx HB hx2_1;replace hx2_0:=cg2 (g:=gb1) (nm hn1_0) (V I ((rd_T136 l0 x1_1).f0)) (V I ((rd_T136 l0 x1_1).f1)) hx2_0;replace hx2_1:=cg2 (g:=gb1) (nm hn1_0) (V I ((rd_T136 l0 x1_1).f0)) (V I ((rd_T136 l0 x1_1).f1)) hx2_1;(try have hy1_0:=dn2 hx2_0);(try have hy1_1:=dn2 hx2_1);clear hn1_0;clear hn1_1;replace p2:=eq_true p2;replace q2:=eq_true q2))
    repeat(go_quiet (first|(go_at_call 49;(with_reducible refine(impl_within.calls ((rd_T136 l0 x1_1).f0) 0 255 true _ A1.out).mono ?_);rintro e w' ⟨rfl,⟨nd,rfl⟩⟩;(try exact dD))|(go_at_call 49;(with_reducible refine(impl_within.calls ((rd_T136 l0 x1_1).f1) 1 32 true _ A2.out).mono ?_);rintro e w' ⟨rfl,⟨nd,rfl⟩⟩;(try exact dD);have p2:0≤((ji1):Int):=oT;have q2:(ji1)<(l0.length:Int):=oT;obtain⟨ad2,e2,hx2_0,hx2_1⟩:=at_T136 HR1.out (ji1) p2 q2;obtain rfl:ad1=ad2:=(by injection e2);have hn1_0:ad1.block≠gb1:=Nat.ne_of_lt (Nat.lt_of_lt_of_le (by have:=E _ _ hx2_0;first|rwa [add_block]at this|exact this) GW1.out);have hn1_1:ad1.block≠gb1:=Nat.ne_of_lt (Nat.lt_of_lt_of_le (by have:=E _ _ hx2_0;first|rwa [add_block]at this|exact this) GW1.out);replace hx2_0:=hx HB hx2_0;replace hx2_1:=hx HB hx2_1;replace hx2_0:=cg2 (g:=gb1) (nm hn1_0) (V I ((rd_T136 l0 x1_1).f0)) (V I ((rd_T136 l0 x1_1).f1)) hx2_0;replace hx2_1:=cg2 (g:=gb1) (nm hn1_0) (V I ((rd_T136 l0 x1_1).f0)) (V I ((rd_T136 l0 x1_1).f1)) hx2_1;(try have hy1_0:=dn2 hx2_0);(try have hy1_1:=dn2 hx2_1);clear hn1_0;clear hn1_1;replace p2:=eq_true p2;replace q2:=eq_true q2));try go_wp2_with (first|((with_reducible refine J (N:=4) rfl ?_);refine Fix.be 4 #[V I 0,V I 0] 136 ?_;intro gb1 hg w1 BK1 hb;have GW1:=gE (w:=w) hg;have GE1:=GW1;replace HB:=eB hb;clear hb hg;have hcz1_0:w1.cell? ⟨gb1,0,none⟩=some (V I 0):=(blk_cell BK1.out 0).trans rfl;have hcz1_1:w1.cell? ⟨gb1,1,none⟩=some (V I 0):=(blk_cell BK1.out 1).trans rfl;have hfz1_0:=blk_frozen BK1.out 0;have hfz1_1:=blk_frozen BK1.out 1)|(go_at_call 49;(with_reducible refine(impl_within.calls ((rd_T136 l0 x1_1).f0) 0 255 true _ A1.out).mono ?_);rintro e w' ⟨rfl,⟨nd,rfl⟩⟩;(try exact dD))|(go_at_call 49;(with_reducible refine(impl_within.calls ((rd_T136 l0 x1_1).f1) 1 32 true _ A2.out).mono ?_);rintro e w' ⟨rfl,⟨nd,rfl⟩⟩;(try exact dD);have p2:0≤((ji1):Int):=oT;have q2:(ji1)<(l0.length:Int):=oT;obtain⟨ad2,e2,hx2_0,hx2_1⟩:=at_T136 HR1.out (ji1) p2 q2;obtain rfl:ad1=ad2:=(by injection e2);have hn1_0:ad1.block≠gb1:=Nat.ne_of_lt (Nat.lt_of_lt_of_le (by have:=E _ _ hx2_0;first|rwa [add_block]at this|exact this) GW1.out);have hn1_1:ad1.block≠gb1:=Nat.ne_of_lt (Nat.lt_of_lt_of_le (by have:=E _ _ hx2_0;first|rwa [add_block]at this|exact this) GW1.out);replace hx2_0:=hx HB hx2_0;replace hx2_1:=hx HB hx2_1;replace hx2_0:=cg2 (g:=gb1) (nm hn1_0) (V I ((rd_T136 l0 x1_1).f0)) (V I ((rd_T136 l0 x1_1).f1)) hx2_0;replace hx2_1:=cg2 (g:=gb1) (nm hn1_0) (V I ((rd_T136 l0 x1_1).f0)) (V I ((rd_T136 l0 x1_1).f1)) hx2_1;(try have hy1_0:=dn2 hx2_0);(try have hy1_1:=dn2 hx2_1);clear hn1_0;clear hn1_1;replace p2:=eq_true p2;replace q2:=eq_true q2)))
    go_roundg k1
    case measure=>have:=HK1.out;omega
    case rel=>exact⟨(wrap64 (x1_1+1)),rS,H',⟨by have:=HK1.out;omega⟩,⟨uB⟩⟩
   rw[if_pos c9]at H
   have c9b0:(((rd_T136 l0 (ji1)).f0)==((rd_T136 l0 x1_1).f0))=true:=beq_iff_eq.mpr c9
   have c9b1:(((rd_T136 l0 (ji1)).f0) !=((rd_T136 l0 x1_1).f0))=false:=bne_eq_false_iff_eq.mpr c9
   clear c9
   obtain rfl:=si H
   have p1:0≤(x1_1:Int):=oT
   have q1:x1_1<(l0.length:Int):=oT
   obtain⟨ad1,e1,hx1_0,hx1_1⟩:=at_T136 (Kd.C_below HR1.out HB.out) x1_1 p1 q1
   cases e1
   replace p1:=eq_true p1
   replace q1:=eq_true q1
   go_wp2_with (first|((with_reducible refine J (N:=4) rfl ?_);refine Fix.be 4 #[V I 0,V I 0] 136 ?_;intro gb1 hg w1 BK1 hb;have GW1:=gE (w:=w) hg;have GE1:=GW1;replace HB:=eB hb;clear hb hg;have hcz1_0:w1.cell? ⟨gb1,0,none⟩=some (V I 0):=(blk_cell BK1.out 0).trans rfl;have hcz1_1:w1.cell? ⟨gb1,1,none⟩=some (V I 0):=(blk_cell BK1.out 1).trans rfl;have hfz1_0:=blk_frozen BK1.out 0;have hfz1_1:=blk_frozen BK1.out 1)|(go_at_call 49;(with_reducible refine(impl_within.calls ((rd_T136 l0 x1_1).f0) 0 255 true _ A1.out).mono ?_);rintro e w' ⟨rfl,⟨nd,rfl⟩⟩;(try exact dD))|(go_at_call 49;(with_reducible refine(impl_within.calls ((rd_T136 l0 x1_1).f1) 1 32 true _ A2.out).mono ?_);rintro e w' ⟨rfl,⟨nd,rfl⟩⟩;(try exact dD);have p2:0≤((ji1):Int):=oT;have q2:(ji1)<(l0.length:Int):=oT;obtain⟨ad2,e2,hx2_0,hx2_1⟩:=at_T136 HR1.out (ji1) p2 q2;obtain rfl:ad1=ad2:=(by injection e2);have hn1_0:ad1.block≠gb1:=Nat.ne_of_lt (Nat.lt_of_lt_of_le (by have:=E _ _ hx2_0;first|rwa [add_block]at this|exact this) GW1.out);have hn1_1:ad1.block≠gb1:=Nat.ne_of_lt (Nat.lt_of_lt_of_le (by have:=E _ _ hx2_0;first|rwa [add_block]at this|exact this) GW1.out);replace hx2_0:=hx HB hx2_0;replace hx2_1:=hx HB hx2_1;replace hx2_0:=cg2 (g:=gb1) (nm hn1_0) (V I ((rd_T136 l0 x1_1).f0)) (V I ((rd_T136 l0 x1_1).f1)) hx2_0;replace hx2_1:=cg2 (g:=gb1) (nm hn1_0) (V I ((rd_T136 l0 x1_1).f0)) (V I ((rd_T136 l0 x1_1).f1)) hx2_1;(try have hy1_0:=dn2 hx2_0);(try have hy1_1:=dn2 hx2_1);clear hn1_0;clear hn1_1;replace p2:=eq_true p2;replace q2:=eq_true q2))
   repeat(go_quiet (first|(go_at_call 49;(with_reducible refine(impl_within.calls ((rd_T136 l0 x1_1).f0) 0 255 true _ A1.out).mono ?_);rintro e w' ⟨rfl,⟨nd,rfl⟩⟩;(try exact dD))|(go_at_call 49;(with_reducible refine(impl_within.calls ((rd_T136 l0 x1_1).f1) 1 32 true _ A2.out).mono ?_);rintro e w' ⟨rfl,⟨nd,rfl⟩⟩;(try exact dD);have p2:0≤((ji1):Int):=oT;have q2:(ji1)<(l0.length:Int):=oT;obtain⟨ad2,e2,hx2_0,hx2_1⟩:=at_T136 HR1.out (ji1) p2 q2;obtain rfl:ad1=ad2:=(by injection e2);have hn1_0:ad1.block≠gb1:=Nat.ne_of_lt (Nat.lt_of_lt_of_le (by have:=E _ _ hx2_0;first|rwa [add_block]at this|exact this) GW1.out);have hn1_1:ad1.block≠gb1:=Nat.ne_of_lt (Nat.lt_of_lt_of_le (by have:=E _ _ hx2_0;first|rwa [add_block]at this|exact this) GW1.out);replace hx2_0:=hx HB hx2_0;replace hx2_1:=hx HB hx2_1;replace hx2_0:=cg2 (g:=gb1) (nm hn1_0) (V I ((rd_T136 l0 x1_1).f0)) (V I ((rd_T136 l0 x1_1).f1)) hx2_0;replace hx2_1:=cg2 (g:=gb1) (nm hn1_0) (V I ((rd_T136 l0 x1_1).f0)) (V I ((rd_T136 l0 x1_1).f1)) hx2_1;(try have hy1_0:=dn2 hx2_0);(try have hy1_1:=dn2 hx2_1);clear hn1_0;clear hn1_1;replace p2:=eq_true p2;replace q2:=eq_true q2));try go_wp2_with (first|((with_reducible refine J (N:=4) rfl ?_);refine Fix.be 4 #[V I 0,V I 0] 136 ?_;intro gb1 hg w1 BK1 hb;have GW1:=gE (w:=w) hg;have GE1:=GW1;replace HB:=eB hb;clear hb hg;have hcz1_0:w1.cell? ⟨gb1,0,none⟩=some (V I 0):=(blk_cell BK1.out 0).trans rfl;have hcz1_1:w1.cell? ⟨gb1,1,none⟩=some (V I 0):=(blk_cell BK1.out 1).trans rfl;have hfz1_0:=blk_frozen BK1.out 0;have hfz1_1:=blk_frozen BK1.out 1)|(go_at_call 49;(with_reducible refine(impl_within.calls ((rd_T136 l0 x1_1).f0) 0 255 true _ A1.out).mono ?_);rintro e w' ⟨rfl,⟨nd,rfl⟩⟩;(try exact dD))|(go_at_call 49;(with_reducible refine(impl_within.calls ((rd_T136 l0 x1_1).f1) 1 32 true _ A2.out).mono ?_);rintro e w' ⟨rfl,⟨nd,rfl⟩⟩;(try exact dD);have p2:0≤((ji1):Int):=oT;have q2:(ji1)<(l0.length:Int):=oT;obtain⟨ad2,e2,hx2_0,hx2_1⟩:=at_T136 HR1.out (ji1) p2 q2;obtain rfl:ad1=ad2:=(by injection e2);have hn1_0:ad1.block≠gb1:=Nat.ne_of_lt (Nat.lt_of_lt_of_le (by have:=E _ _ hx2_0;first|rwa [add_block]at this|exact this) GW1.out);have hn1_1:ad1.block≠gb1:=Nat.ne_of_lt (Nat.lt_of_lt_of_le (by have:=E _ _ hx2_0;first|rwa [add_block]at this|exact this) GW1.out);replace hx2_0:=hx HB hx2_0;replace hx2_1:=hx HB hx2_1;replace hx2_0:=cg2 (g:=gb1) (nm hn1_0) (V I ((rd_T136 l0 x1_1).f0)) (V I ((rd_T136 l0 x1_1).f1)) hx2_0;replace hx2_1:=cg2 (g:=gb1) (nm hn1_0) (V I ((rd_T136 l0 x1_1).f0)) (V I ((rd_T136 l0 x1_1).f1)) hx2_1;(try have hy1_0:=dn2 hx2_0);(try have hy1_1:=dn2 hx2_1);clear hn1_0;clear hn1_1;replace p2:=eq_true p2;replace q2:=eq_true q2)))
   go_ret
   exact⟨by first|rfl|(simp[errW_none,errW_some]<;>rfl)|(simp only[←hji1];first|rfl|(simp[errW_none,errW_some]<;>rfl))|(simp[*,errW_none,errW_some]<;>rfl),uB⟩
def impl_RunsLength.l0:Nat→Int→List (S136)→Int→Int→Option (Int)
 |0,_,_,_,_=>none
 |k+1,x3,x6,x7,x8=>if x8<x7 then(if 0≤x8 then(if x8<(x6.length:Int) then(impl_RunsLength.l0 k (wrap64 (x3+((rd_T136 x6 x8).f1))) x6 x7 (wrap64 (x8+1))) else(none)) else(none)) else(some x3)
def impl_RunsLength.f (k:Nat) (l0:List (S136)):Option (Int):=impl_RunsLength.l0 k 0 l0 (l0.length:Int) 0
theorem impl_RunsLength.calls (k:Nat) (A0:Option Addr) (c0:Nat) (l0:List (S136)) (r:Int) (w:World) (hr0:Kd.C k136 w A0 l0.length l0) (hc0:l0.length≤c0) (h:impl_RunsLength.f k l0=some r):
 Calls prog 126 #[L A0 l0.length c0] w fun e w'=>e=.returned (V I r)∧Below w.heap.size w w':=by
 have hu1:=underlying136
 have HR1:=C hr0
 have HC1:=C hc0
 (try clear hr0);(try clear hc0)
 have HB:=C (Below.refl w.heap.size w)
 have H:=h
 unfold impl_RunsLength.f at H
 clear h
 have H':=C H
 clear H
 go_enter func126,ntmps126
 go_wp2
 go_loopg [3,8] k (fun kq v3 v8 w'=>∃(x1_1:Int) (x2_1:Int),v3=V I x1_1∧v8=V I x2_1∧D (impl_RunsLength.l0 kq x1_1 l0 (l0.length:Int) x2_1=some r)∧D (kq≤k)∧D (Below w.heap.size w w'))
 case atStart=>exact⟨(0),(0),rS,rS,H',⟨Nat.le_refl _⟩,⟨uB⟩⟩
 case round=>
  clear H'
  obtain⟨x1_1,x2_1,rfl,rfl,HA,HK1,HB⟩:=hrel
  cases gk with
  |zero=>exact absurd HA.out (by simp[impl_RunsLength.l0])
  |succ k1=>
   have H:=HA.out
   clear HA
   simp only[impl_RunsLength.l0]at H
   by_cases c1:x2_1<(l0.length:Int)
   rotate_left
   ·rw[if_neg c1]at H
    replace c1:=decide_eq_false c1
    obtain rfl:=si H
    go_wp2
    go_ret
    exact⟨rE,uB⟩
   rw[if_pos c1]at H
   replace c1:=decide_eq_true c1
   obtain⟨c2,H⟩:=np H
   replace c2:=decide_eq_true c2
   obtain⟨c3,H⟩:=np H
   replace c3:=decide_eq_true c3
   have H':=C H
   clear H
   have p1:0≤(x2_1:Int):=oT
   have q1:x2_1<(l0.length:Int):=oT
   obtain⟨ad1,e1,hx1_0,hx1_1⟩:=at_T136 (Kd.C_below HR1.out HB.out) x2_1 p1 q1
   cases e1
   replace p1:=eq_true p1
   replace q1:=eq_true q1
   go_wp2_with (first|((with_reducible refine J (N:=5) rfl ?_);refine Fix.be 5 #[V I 0,V I 0] 136 ?_;intro gb1 hg w1 BK1 hb;have GW1:=gE (w:=w) hg;replace HB:=eB hb;clear hb hg;have hcz1_0:w1.cell? ⟨gb1,0,none⟩=some (V I 0):=(blk_cell BK1.out 0).trans rfl;have hcz1_1:w1.cell? ⟨gb1,1,none⟩=some (V I 0):=(blk_cell BK1.out 1).trans rfl;have hfz1_0:=blk_frozen BK1.out 0;have hfz1_1:=blk_frozen BK1.out 1))
   go_roundg k1
   case measure=>have:=HK1.out;omega
   case rel=>exact⟨(wrap64 (x1_1+((rd_T136 l0 x2_1).f1))),(wrap64 (x2_1+1)),rS,rS,H',⟨by have:=HK1.out;omega⟩,⟨uB⟩⟩
mutual
def impl_RowOf.j0:Nat→List (S136)→Bool→Option (List Int)
 |0,_,_=>none
 |k+1,x0,x14=>if x14=true then(some ([]:List Int)) else(impl_RowOf.l0 k ([]:List Int) x0 (x0.length:Int) 0)
def impl_RowOf.l0:Nat→List Int→List (S136)→Int→Int→Option (List Int)
 |0,_,_,_,_=>none
 |k+1,x3,x15,x16,x17=>if x17<x16 then(if 0≤x17 then(if x17<(x15.length:Int) then(impl_RowOf.l1 k x3 0 x15 x16 x17 ((rd_T136 x15 x17).f0) ((rd_T136 x15 x17).f1)) else(none)) else(none)) else(some x3)
def impl_RowOf.l1:Nat→List Int→Int→List (S136)→Int→Int→Int→Int→Option (List Int)
 |0,_,_,_,_,_,_,_=>none
 |k+1,x3,x6,x15,x16,x17,x593000,x593001=>if x6<x593001 then(if x3.length<17592186044416 then(impl_RowOf.l1 k (x3++ [x593000]) (wrap64 (x6+1)) x15 x16 x17 x593000 x593001) else(none)) else(impl_RowOf.l0 k x3 x15 x16 (wrap64 (x17+1)))
end
def impl_RowOf.f (k:Nat) (l0:List (S136)):Option (List Int):=(impl_RunsOk.f k l0).bind fun t589=>(if t589=true then((impl_RunsLength.f k l0).bind fun t590=>(impl_RowOf.j0 k l0 (decide (t590 >32)))) else(impl_RowOf.j0 k l0 true))
theorem impl_RowOf.W1 {p:Prop} (h:p:=by
 go_wp2
 go_ret
 first
  |(exact⟨_,rE,rN,uB⟩)
  |(exact⟨_,rE,fR HO_1.out,uB⟩)):p:=h
theorem impl_RowOf.calls (k:Nat) (A0:Option Addr) (c0:Nat) (l0:List (S136)) (r:List Int) (w:World) (hr0:Kd.C k136 w A0 l0.length l0) (hc0:l0.length≤c0) (h:impl_RowOf.f k l0=some r):
 Calls prog 115 #[L A0 l0.length c0] w fun e w'=>∃v0_:Value,e=.returned (v0_)∧Kd.R (Kd.int .i64) 3 w' w.heap.size (fun _=>True) v0_ r∧Below w.heap.size w w':=by
 have hu1:=underlying136
 have HR1:=C hr0
 have HC1:=C hc0
 (try clear hr0);(try clear hc0)
 have HB:=C (Below.refl w.heap.size w)
 have H:=h
 unfold impl_RowOf.f at H
 clear h
 have HC2:=C H
 clear H
 go_enter func115,ntmps115
 go_upto_region 1 with(fail)
 go_cut [14] (fun v14 wc=>∃(kq:Nat) (x1_1:Bool),v14=O x1_1∧D (impl_RowOf.j0 kq l0 x1_1=some r)∧D (kq≤k)∧D (Below w.heap.size w wc))
 case first=>
  have H:=HC2.out
  clear HC2
  obtain⟨t1,A1,H⟩:=bnd H
  by_cases c1:t1=true
  rotate_left
  ·obtain rfl:=nt c1
   replace H:=nf H
   have H':=C H
   clear H
   go_wp2_with (first|((with_reducible refine F (f:=125) rfl ?_);refine gl 125 (some 8) func125 #[L A0 l0.length c0] ?_;(with_reducible refine(impl_RunsOk.calls k _ _ l0 false _ ?side1 HC1.out A1.out).mono ?_);(case side1=>exact uZ HR1);rintro e w1 ⟨rfl,hb⟩;refine⟨_,rfl,?_⟩;replace HB:=eB hb;clear hb))
   go_meet
   case rel=>exact⟨_,(true),rS,H',⟨oL⟩,⟨uB⟩⟩
  subst c1
  rw[if_pos rfl]at H
  obtain⟨t2,A2,H⟩:=bnd H
  have H':=C H
  clear H
  go_wp2_with (first|((with_reducible refine F (f:=125) rfl ?_);refine gl 125 (some 8) func125 #[L A0 l0.length c0] ?_;(with_reducible refine(impl_RunsOk.calls k _ _ l0 true _ ?side1 HC1.out A1.out).mono ?_);(case side1=>exact uZ HR1);rintro e w1 ⟨rfl,hb⟩;refine⟨_,rfl,?_⟩;replace HB:=eB hb;clear hb)|(go_at_call 126;(with_reducible refine(impl_RunsLength.calls k _ _ l0 t2 _ ?side1 HC1.out A2.out).mono ?_);(case side1=>exact uZ HR1);rintro e w2 ⟨rfl,hb⟩;replace HB:=eB hb;clear hb))
  go_meet
  case rel=>exact⟨_,(decide (t2 >32)),rS,H',⟨oL⟩,⟨uB⟩⟩
 case rest=>
  clear HC2
  obtain⟨kq,x1_1,rfl,HA,HJ1,HB⟩:=hcut
  cases kq with
  |zero=>exact absurd HA.out (by simp[impl_RowOf.j0])
  |succ kj1=>
   have H:=HA.out
   clear HA
   simp only[impl_RowOf.j0]at H
   by_cases c1:x1_1=true
   ·subst c1
    rw[if_pos rfl]at H
    obtain rfl:=si H
    exact impl_RowOf.W1
   obtain rfl:=nt c1
   replace H:=nf H
   have H':=C H
   clear H
   go_wp2
   go_loopg [3,17] kj1 (fun kq v3 v17 w'=>∃(x2_2:List Int) (x3_2:Int),v17=V I x3_2∧D (impl_RowOf.l0 kq x2_2 l0 (l0.length:Int) x3_2=some r)∧D (kq≤kj1)∧D (Kd.R (Kd.int .i64) 3 w' w.heap.size (fun _=>True) v3 x2_2)∧D (Below w.heap.size w w'))
   case atStart=>exact⟨(([]:List Int)),(0),rS,H',⟨Nat.le_refl _⟩,⟨rN⟩,⟨uB⟩⟩
   case round=>
    clear H'
    obtain⟨x2_2,x3_2,rfl,HA,HK1,HO_1,HB⟩:=hrel
    cases gk with
    |zero=>exact absurd HA.out (by simp[impl_RowOf.l0])
    |succ k2=>
     have H:=HA.out
     clear HA
     simp only[impl_RowOf.l0]at H
     by_cases c2:x3_2<(l0.length:Int)
     rotate_left
     ·rw[if_neg c2]at H
      replace c2:=decide_eq_false c2
      obtain rfl:=si H
      exact impl_RowOf.W1
     rw[if_pos c2]at H
     replace c2:=decide_eq_true c2
     obtain⟨c3,H⟩:=np H
     replace c3:=decide_eq_true c3
     obtain⟨c4,H⟩:=np H
     replace c4:=decide_eq_true c4
     have H':=C H
     clear H
     have p1:0≤(x3_2:Int):=oT
     have q1:x3_2<(l0.length:Int):=oT
     obtain⟨ad1,e1,hx1_0,hx1_1⟩:=at_T136 (Kd.C_below HR1.out HB.out) x3_2 p1 q1
     cases e1
     replace p1:=eq_true p1
     replace q1:=eq_true q1
     go_wp2_with (first|((with_reducible refine J (N:=5) rfl ?_);refine Fix.be 5 #[V I 0,V I 0] 136 ?_;intro gb1 hg w1 BK1 hb;have GW1:=gE (w:=w) hg;replace HO_1:=eR HO_1 hb;replace HB:=eB hb;clear hb hg;have hcz1_0:w1.cell? ⟨gb1,0,none⟩=some (V I 0):=(blk_cell BK1.out 0).trans rfl;have hcz1_1:w1.cell? ⟨gb1,1,none⟩=some (V I 0):=(blk_cell BK1.out 1).trans rfl;have hfz1_0:=blk_frozen BK1.out 0;have hfz1_1:=blk_frozen BK1.out 1))
     go_loopg [3,6] k2 (fun kq v3 v6 w'=>∃(x2_3:List Int) (x4_3:Int),v6=V I x4_3∧D (impl_RowOf.l1 kq x2_3 x4_3 l0 (l0.length:Int) x3_2 ((rd_T136 l0 x3_2).f0) ((rd_T136 l0 x3_2).f1)=some r)∧D (kq≤k2)∧D (Kd.R (Kd.int .i64) 3 w' w.heap.size (fun _=>True) v3 x2_3)∧D (w'.heap[gb1]? =some (.cells #[V I ((rd_T136 l0 x3_2).f0),V I ((rd_T136 l0 x3_2).f1)] 136 (0,0)))∧D (Below w.heap.size w w'))
     case atStart=>exact⟨(x2_2),(0),rS,H',⟨Nat.le_refl _⟩,⟨Kd.R_mono (fR (Kd.R_types HO_1.out BK1.out (by decide))) (fun _ hk=>trivial)⟩,⟨bK BK1.out⟩,⟨uB⟩⟩
     case round=>
      clear H'
      obtain⟨x2_3,x4_3,rfl,HA,HK2,HO_1,BK1,HB⟩:=hrel
      cases gk with
      |zero=>exact absurd HA.out (by simp[impl_RowOf.l1])
      |succ k3=>
       have H:=HA.out
       clear HA
       simp only[impl_RowOf.l1]at H
       by_cases c5:x4_3<((rd_T136 l0 x3_2).f1)
       rotate_left
       ·rw[if_neg c5]at H
        replace c5:=decide_eq_false c5
        have H':=C H
        clear H
        have hcz2_0:wr.cell? ⟨gb1,0,none⟩=some (V I ((rd_T136 l0 x3_2).f0)):=(blk_cell BK1.out 0).trans rfl
        have hcz2_1:wr.cell? ⟨gb1,1,none⟩=some (V I ((rd_T136 l0 x3_2).f1)):=(blk_cell BK1.out 1).trans rfl
        have hfz2_0:=blk_frozen BK1.out 0
        have hfz2_1:=blk_frozen BK1.out 1
        go_wp2
        go_roundg k3
        case measure=>have:=HJ1.out;have:=HK1.out;have:=HK2.out;omega
        case rel=>exact⟨(x2_3),(wrap64 (x3_2+1)),rS,H',⟨by have:=HJ1.out;have:=HK1.out;have:=HK2.out;omega⟩,⟨fR HO_1.out⟩,⟨uB⟩⟩
       rw[if_pos c5]at H
       replace c5:=decide_eq_true c5
       obtain⟨c6,H⟩:=np H
       have LMc1:=C c6
       clear c6
       obtain⟨y1,hy1⟩:∃y_:List Int,y_=(x2_3++ [((rd_T136 l0 x3_2).f0)]):=⟨_,rfl⟩
       replace H:(impl_RowOf.l1 k3 y1 (wrap64 (x4_3+1)) l0 (l0.length:Int) x3_2 ((rd_T136 l0 x3_2).f0) ((rd_T136 l0 x3_2).f1))=some r:=gy hy1 H
       have Ny1:=C hy1
       clear hy1
       have H':=C H
       clear H
       have hcz2_0:wr.cell? ⟨gb1,0,none⟩=some (V I ((rd_T136 l0 x3_2).f0)):=(blk_cell BK1.out 0).trans rfl
       have hcz2_1:wr.cell? ⟨gb1,1,none⟩=some (V I ((rd_T136 l0 x3_2).f1)):=(blk_cell BK1.out 1).trans rfl
       have hfz2_0:=blk_frozen BK1.out 0
       have hfz2_1:=blk_frozen BK1.out 1
       go_wp2_with (first|((with_reducible refine gate_builtin (b:=.append) (xs:= #[.tmp 27,.tmp 30]) rfl ?_);at_builtin;refine Kd.R_append (Kd.int .i64) (w0:=w) w.heap.size rfl (.tmp 27) (.tmp 30) 39 3 (V I 0) 8 rfl underlying39 info3 rfl (by decide) (by omega) u3 x2_3 ((rd_T136 l0 x3_2).f0) [V I ((rd_T136 l0 x3_2).f0)] (fun _=>True) (fun _=>False) rfl rfl ?aP (fun _ hk=>hk.elim) ?aF ?aO ?aB ?aS ?aL ?_;(case aP=>exact rfl);(case aB=>exact uB);(case aF=>exact(fun _ _=>trivial));(case aO=>exact(uR HO_1.out));(case aS=>exact(below_size uB));(case aL=>have:=LMc1.out;omega);intro v1 w2 ho hb hg hat;rw[←Ny1.out]at ho;have HO1:=C (ho);replace BK1:=gK BK1 hg (Kd.R_ne HO_1.out BK1.out (by decide));replace HB:=C (hb);clear HO_1;clear ho hb hg hat))
       go_roundg k3
       case measure=>have:=HJ1.out;have:=HK1.out;have:=HK2.out;omega
       case rel=>exact⟨(y1),(wrap64 (x4_3+1)),rS,H',⟨by have:=HJ1.out;have:=HK1.out;have:=HK2.out;omega⟩,⟨fR HO1.out⟩,⟨bK BK1.out⟩,⟨uB⟩⟩
mutual
def impl_UnpackRow.j1:Nat→List Int→Bool→List Int→Option (List Int×Bool)
 |0,_,_,_=>none
 |k+1,x4,x597000,x597001=>(impl_rowOk.f k x4).bind fun t608=>(if t608=true then((impl_PackRow.f k x4).bind fun bt609=>(if(bt609.1 !=x597000)=true then(some (([]:List Int),false)) else((slices_Equal_int_int.f k bt609.2 x597001).bind fun t614=>(if t614=true then(some (x4,true)) else(some (([]:List Int),false)))))) else(some (([]:List Int),false)))
def impl_UnpackRow.l0:Nat→List (S136)→Int→Bool→List Int→Option (List Int×Bool)
 |0,_,_,_,_=>none
 |k+1,x5,x6,x597000,x597001=>if x6<(x597001.length:Int) then(if 0≤x6 then(if 0≤(wrap64 (x6+1)) then(if(wrap64 (x6+1))<(x597001.length:Int) then(if x5.length<8796093022208 then(impl_UnpackRow.l0 k (x5++ [(⟨rd x597001 x6,rd x597001 (wrap64 (x6+1))⟩:S136)]) (wrap64 (x6+2)) x597000 x597001) else(none)) else(none)) else(none)) else(none)) else((impl_RowOf.f k x5).bind fun t605=>(impl_UnpackRow.j1 k t605 x597000 x597001))
end
def impl_UnpackRow.f (k:Nat) (a0_0:Bool) (l0_1:List Int):Option (List Int×Bool):=(slices_Clone_int_int.f l0_1).bind fun t597=>(if a0_0=true then(impl_UnpackRow.j1 k t597 a0_0 l0_1) else(if((l0_1.length:Int) % 2)=0 then(impl_UnpackRow.l0 k ([]:List (S136)) 0 a0_0 l0_1) else(some (([]:List Int),false))))
def impl_UnpackRow.T9:Bool×List (List Nat×List Nat):=(true,[([],[]),([],[]),([1],[1]),([],[]),([2,3],[2,3]),([4],[4]),([],[]),([6],[6]),([],[]),([8],[8]),([7,9],[7,9]),([10],[10]),([5,11],[5,11]),([12],[12]),([0,13],[0,13]),([14,14,0,1,2,3,4,5,6,7,8,9,10,11,12,13,14],[0,14])])
def impl_UnpackRow.B9:List Nat:= [0,0,2,0,14,30,0,64,0,256,960,1984,4094,8190,16383,32767]
theorem impl_UnpackRow.tab9:rtab .any (opsOf Try.f93 9)=impl_UnpackRow.T9:=by kernel_rfl
theorem impl_UnpackRow.bits9:waitsOk impl_UnpackRow.T9.2 impl_UnpackRow.B9=true:=by kernel_rfl
theorem impl_UnpackRow.W1 {p:Prop} (h:p:=by
 go_wp2_with (first|((with_reducible refine F (f:=76) rfl ?_);refine gl 76 (some 44) func76 #[L Ao1 x1_2.length co1] ?_;(with_reducible refine(impl_rowOk.calls kj2 _ _ x1_2 true _ ?side1 ?side2 A2.out).mono ?_);(case side1=>exact uC (Kd.R_reads' HO_1.out).2.2);(case side2=>exact(Kd.R_reads' HO_1.out).2.1);rintro e w' ⟨rfl,⟨nd,rfl⟩⟩;refine⟨_,rfl,?_⟩;(try(rw[drewN_self wc];generalize hq_:World.drewN wc _=wc;have n0_:D (Kd.R (Kd.int .i64) 3 wc w.heap.size (fun _=>True) (L Ao1 x1_2.length co1) x1_2):=⟨by rw[←hq_];exact(uR HO_1.out)⟩;have n1_:D (wc.heap[gb1]? =some (.cells #[O a0_0,L A0_1 l0_1.length c0_1] 107 (0,0))):=⟨by rw[←hq_];exact(uK BK1.out)⟩;have n2_:D (Below w.heap.size w wc):=⟨by rw[←hq_];exact uB⟩;clear HO_1 BK1 HB hq_;have HO_1:=n0_;have BK1:=n1_;have HB:=n2_;clear n0_ n1_ n2_)))|((with_reducible refine F (f:=94) rfl ?_);refine gl 94 (some 47) func94 #[L Ao1 x1_2.length co1] ?_;(with_reducible refine(impl_PackRow.calls kj2 _ _ x1_2 t3 t4 _ ?side1 ?side2 A3.out).mono ?_);(case side1=>exact uC (Kd.R_reads' HO_1.out).2.2);(case side2=>exact(Kd.R_reads' HO_1.out).2.1);rintro e w4 ⟨v2,rfl,ho1,hb⟩;refine⟨_,rfl,?_⟩;have HO2:=C (Kd.R_lower (Kd.R_new' ho1 (Kd.R_lt (uR HO_1.out))) (below_size uB));replace HO_1:=C (Kd.R_elder' (uR HO_1.out) (Kd.R_base ho1) hb);replace BK1:=eK BK1 hb;replace HB:=eB hb;clear hb ho1)|((with_reducible refine J (N:=7) rfl ?_);refine Fix.be 7 #[O false,L none 0 0] 107 ?_;intro gb2 hg w5 BK2 hb;have GW2:=gE (w:=w) hg;have n0:=nL hg BK1;have n1:=nG hg BK1;replace HO_1:=eR HO_1 hb;replace HO2:=eR HO2 hb;replace BK1:=eK BK1 hb;replace HB:=eB hb;clear hb hg;have:=n1.out;have:=n0.out;have hcz3_0:w5.cell? ⟨gb2,0,none⟩=some (O false):=(blk_cell BK2.out 0).trans rfl;have hcz3_1:w5.cell? ⟨gb2,1,none⟩=some (L none 0 0):=(blk_cell BK2.out 1).trans rfl;have hfz3_0:=blk_frozen BK2.out 0;have hfz3_1:=blk_frozen BK2.out 1;obtain⟨Ao2,co2,rfl⟩:=Kd.R_slice HO2.out;have hcz4_0:w5.cell? ⟨gb1,0,none⟩=some (O a0_0):=(blk_cell BK1.out 0).trans rfl;have hcz4_1:w5.cell? ⟨gb1,1,none⟩=some (L A0_1 l0_1.length c0_1):=(blk_cell BK1.out 1).trans rfl;have hfz4_0:=blk_frozen BK1.out 0;have hfz4_1:=blk_frozen BK1.out 1)|(go_at_call 70;(with_reducible refine(slices_Equal_int_int.calls kj2 _ _ t4 _ _ l0_1 true _ ?side1 ?side2 ?side3 ?side4 A4.out).mono ?_);(case side1=>refine(Kd.R_reads' (e:=3) (base:=w.heap.size) (ok:=fun k_=>(True∧qn k_ Ao1 x1_2.length co1)) (n:=t4.length) (c:=co2) ?_).2.2;exact(Kd.R_mono (fR (Kd.R_types HO2.out BK2.out (by decide))) (fun _ h_=>h_.1)));(case side2=>exact(Kd.R_reads' HO2.out).2.1);(case side3=>exact Kd.C_below HR1_1.out uB);(case side4=>exact HC1_1.out);rintro e w' ⟨rfl,⟨nd,rfl⟩⟩))
 go_ret2
 first
  |(exact⟨_,rE,rN,uB⟩)
  |(exact⟨_,rE,Kd.R_mono (fR (Kd.R_types HO_1.out BK2.out (by decide))) (fun _ hk=>trivial),uB⟩)):p:=h
theorem impl_UnpackRow.calls (k:Nat) (a0_0:Bool) (A0_1:Option Addr) (c0_1:Nat) (l0_1:List Int) (r1:List Int) (r2:Bool) (w:World) (hr0_1:Kd.C (Kd.int .i64) w A0_1 l0_1.length l0_1) (hc0_1:l0_1.length≤c0_1) (h:impl_UnpackRow.f k a0_0 l0_1=some (r1,r2)):
 Calls prog 93 #[.agg #[O a0_0,L A0_1 l0_1.length c0_1]] w fun e w'=>∃v0_:Value,e=.returned (.tuple #[v0_,O r2])∧Kd.R (Kd.int .i64) 3 w' w.heap.size (fun _=>True) v0_ r1∧Below w.heap.size w w':=by
 have hu1:=underlying107
 have hu2:=underlying136
 have HR1_1:=C hr0_1
 have HC1_1:=C hc0_1
 (try clear hr0_1);(try clear hc0_1)
 have HB:=C (Below.refl w.heap.size w)
 have H:=h
 unfold impl_UnpackRow.f at H
 clear h
 obtain⟨t1,A1,H⟩:=bnd H
 have HC2:=C H
 clear H
 go_enter func93,ntmps93
 go_upto_if 13 with(first|((with_reducible refine J (N:=1) rfl ?_);refine Fix.be 1 #[O a0_0,L A0_1 l0_1.length c0_1] 107 ?_;intro gb1 hg w2 BK1 hb;have GW1:=gE (w:=w) hg;replace HB:=eB hb;clear hb hg;have hcz1_0:w2.cell? ⟨gb1,0,none⟩=some (O a0_0):=(blk_cell BK1.out 0).trans rfl;have hcz1_1:w2.cell? ⟨gb1,1,none⟩=some (L A0_1 l0_1.length c0_1):=(blk_cell BK1.out 1).trans rfl;have hfz1_0:=blk_frozen BK1.out 0;have hfz1_1:=blk_frozen BK1.out 1)|((with_reducible refine F (f:=77) rfl ?_);refine gl 77 (some 10) func77 #[L A0_1 l0_1.length c0_1] ?_;(with_reducible refine(slices_Clone_int_int.calls _ _ l0_1 t1 _ ?side1 HC1_1.out A1.out).mono ?_);(case side1=>exact uZ HR1_1);rintro e w3 ⟨v1,rfl,ho1,hb⟩;refine⟨_,rfl,?_⟩;have HO1:=lR ho1;replace BK1:=eK BK1 hb;replace HB:=eB hb;clear hb ho1;have hcz2_0:w3.cell? ⟨gb1,0,none⟩=some (O a0_0):=(blk_cell BK1.out 0).trans rfl;have hcz2_1:w3.cell? ⟨gb1,1,none⟩=some (L A0_1 l0_1.length c0_1):=(blk_cell BK1.out 1).trans rfl;have hfz2_0:=blk_frozen BK1.out 0;have hfz2_1:=blk_frozen BK1.out 1))
 (try simp only[Act.put,List.setIfInBounds_toArray,List.set_cons_zero,List.set_cons_succ])
 go_cut [4] (fun v4 wc=>∃(kq:Nat) (x1_2:List Int),D (impl_UnpackRow.j1 kq x1_2 a0_0 l0_1=some (r1,r2))∧D (kq≤k)∧D (Kd.R (Kd.int .i64) 3 wc w.heap.size (fun _=>True) v4 x1_2)∧D (wc.heap[gb1]? =some (.cells #[O a0_0,(L A0_1 l0_1.length c0_1)] 107 (0,0)))∧D (Below w.heap.size w wc))
 case first=>
  have H:=HC2.out
  clear HC2
  by_cases c1:a0_0=true
  ·subst c1
   rw[if_pos rfl]at H
   have H':=C H
   clear H
   go_wp2
   go_meet
   case rel=>exact⟨_,(t1),H',⟨oL⟩,⟨fR HO1.out⟩,⟨bK BK1.out⟩,⟨uB⟩⟩
  obtain rfl:=nt c1
  replace H:=nf H
  by_cases c2:((l0_1.length:Int) % 2)=0
  rotate_left
  ·rw[if_neg c2]at H
   have c2b0:(((l0_1.length:Int) % 2)==0)=false:=beq_eq_false_iff_ne.mpr c2
   have c2b1:(((l0_1.length:Int) % 2) !=0)=true:=bne_iff_ne.mpr c2
   (first|rw[c2b0]|(simp only[i64_w,i32_w];rw[c2b0])|skip)
   simp only[Option.some.injEq,Prod.mk.injEq]at H
   obtain⟨rfl,rfl⟩:=H
   have hcz3_0:w3.cell? ⟨gb1,0,none⟩=some (O false):=(blk_cell BK1.out 0).trans rfl
   have hcz3_1:w3.cell? ⟨gb1,1,none⟩=some (L A0_1 l0_1.length c0_1):=(blk_cell BK1.out 1).trans rfl
   have hfz3_0:=blk_frozen BK1.out 0
   have hfz3_1:=blk_frozen BK1.out 1
   go_wp2
   go_ret2
   exact⟨_,rE,rN,uB⟩
  rw[if_pos c2]at H
  have c2b0:(((l0_1.length:Int) % 2)==0)=true:=beq_iff_eq.mpr c2
  have c2b1:(((l0_1.length:Int) % 2) !=0)=false:=bne_eq_false_iff_eq.mpr c2
  clear c2
  (first|rw[c2b0]|(simp only[i64_w,i32_w];rw[c2b0])|skip)
  have H':=C H
  clear H
  have hcz3_0:w3.cell? ⟨gb1,0,none⟩=some (O false):=(blk_cell BK1.out 0).trans rfl
  have hcz3_1:w3.cell? ⟨gb1,1,none⟩=some (L A0_1 l0_1.length c0_1):=(blk_cell BK1.out 1).trans rfl
  have hfz3_0:=blk_frozen BK1.out 0
  have hfz3_1:=blk_frozen BK1.out 1
  go_wp2
  go_loopg [5,6] k (fun kq v5 v6 w'=>∃(x2_1:List (S136)) (x3_1:Int),v6=V I x3_1∧D (impl_UnpackRow.l0 kq x2_1 x3_1 false l0_1=some (r1,r2))∧D (kq≤k)∧D (Kd.R k136 136 w' w.heap.size (fun _=>True) v5 x2_1)∧D (w'.heap[gb1]? =some (.cells #[O false,(L A0_1 l0_1.length c0_1)] 107 (0,0)))∧D (Below w.heap.size w w'))
  case atStart=>exact⟨(([]:List (S136))),(0),rS,H',⟨Nat.le_refl _⟩,⟨rN⟩,⟨bK BK1.out⟩,⟨uB⟩⟩
  case round=>
   clear H'
   obtain⟨x2_1,x3_1,rfl,HA,HK1,HO_1,BK1,HB⟩:=hrel
   cases gk with
   |zero=>exact absurd HA.out (by simp[impl_UnpackRow.l0])
   |succ k1=>
    have H:=HA.out
    clear HA
    simp only[impl_UnpackRow.l0]at H
    by_cases c3:x3_1<(l0_1.length:Int)
    rotate_left
    ·rw[if_neg c3]at H
     replace c3:=decide_eq_false c3
     obtain⟨t2,A2,H⟩:=bnd H
     have H':=C H
     clear H
     have hcz4_0:wr.cell? ⟨gb1,0,none⟩=some (O false):=(blk_cell BK1.out 0).trans rfl
     have hcz4_1:wr.cell? ⟨gb1,1,none⟩=some (L A0_1 l0_1.length c0_1):=(blk_cell BK1.out 1).trans rfl
     have hfz4_0:=blk_frozen BK1.out 0
     have hfz4_1:=blk_frozen BK1.out 1
     obtain⟨Ao1,co1,eo1⟩:=Kd.R_slice HO_1.out
     subst eo1
     go_wp2_with (first|((with_reducible refine F (f:=115) rfl ?_);refine gl 115 (some 42) func115 #[L Ao1 x2_1.length co1] ?_;(with_reducible refine(impl_RowOf.calls k1 _ _ x2_1 t2 _ ?side1 ?side2 A2.out).mono ?_);(case side1=>exact uC (Kd.R_reads' HO_1.out).2.2);(case side2=>exact(Kd.R_reads' HO_1.out).2.1);rintro e w4 ⟨v2,rfl,ho1,hb⟩;refine⟨_,rfl,?_⟩;have HO2:=lR ho1;replace HO_1:=eR HO_1 hb;replace BK1:=eK BK1 hb;replace HB:=eB hb;clear hb ho1))
     go_meet
     case rel=>exact⟨_,(t2),H',⟨by have:=HK1.out;first|omega|exact Nat.le_refl _⟩,⟨fR HO2.out⟩,⟨bK BK1.out⟩,⟨uB⟩⟩
    rw[if_pos c3]at H
    replace c3:=decide_eq_true c3
    obtain⟨c4,H⟩:=np H
    replace c4:=decide_eq_true c4
    obtain⟨ji1,hji1⟩:∃j_:Int,(wrap64 (x3_1+1))=j_:=⟨_,rfl⟩
    replace H:(if 0≤(ji1) then(if(ji1)<(l0_1.length:Int) then(if x2_1.length<8796093022208 then(impl_UnpackRow.l0 k1 (x2_1++ [(⟨rd l0_1 x3_1,rd l0_1 (ji1)⟩:S136)]) (wrap64 (x3_1+2)) false l0_1) else(none)) else(none)) else(none))=some (r1,r2):=by first|(rw[hji1]at H;exact H)|(simp only[hji1]at H ⊢;exact H)
    have hji1w:(IntKind.i64.wrap (x3_1+1))=ji1:=(i64_w _).trans hji1
    obtain⟨c5,H⟩:=np H
    replace c5:=decide_eq_true c5
    obtain⟨c6,H⟩:=np H
    replace c6:=decide_eq_true c6
    obtain⟨c7,H⟩:=np H
    have LMc1:=C c7
    clear c7
    obtain⟨y1,hy1⟩:∃y_:List (S136),y_=(x2_1++ [(⟨rd l0_1 x3_1,rd l0_1 (ji1)⟩:S136)]):=⟨_,rfl⟩
    replace H:(impl_UnpackRow.l0 k1 y1 (wrap64 (x3_1+2)) false l0_1)=some (r1,r2):=gy hy1 H
    have Ny1:=C hy1
    clear hy1
    have H':=C H
    clear H
    have hcz4_0:wr.cell? ⟨gb1,0,none⟩=some (O false):=(blk_cell BK1.out 0).trans rfl
    have hcz4_1:wr.cell? ⟨gb1,1,none⟩=some (L A0_1 l0_1.length c0_1):=(blk_cell BK1.out 1).trans rfl
    have hfz4_0:=blk_frozen BK1.out 0
    have hfz4_1:=blk_frozen BK1.out 1
    try go_wp2
    replace HO_1:=dR HO_1
    replace BK1:=dK BK1
    replace HB:=dB HB
    have p1:0≤(x3_1:Int):=oT
    have q1:x3_1<(l0_1.length:Int):=oT
    obtain⟨ad1,e1,hx1_0⟩:=Kd.at_int HR1_1.out x3_1 p1 q1
    have hw1_0:=hx1_0
    cases e1
    replace hx1_0:=hx HB hx1_0
    replace p1:=eq_true p1
    replace q1:=eq_true q1
    have p2:0≤((ji1):Int):=oT
    have q2:(ji1)<(l0_1.length:Int):=oT
    obtain⟨ad2,e2,hx2_0⟩:=Kd.at_int HR1_1.out (ji1) p2 q2
    have hw2_0:=hx2_0
    obtain rfl:ad1=ad2:=(by injection e2)
    replace hx2_0:=hx HB hx2_0
    replace p2:=eq_true p2
    replace q2:=eq_true q2
    refine start_ (n:=16) (S:=fun w'=>w'.cell? ⟨gb1,0,none⟩=some (O false)∧w'.cell? ⟨gb1,1,none⟩=some (L (some ad1) l0_1.length c0_1)∧w'.cell? (ad1.add (x3_1).toNat)=some (V I (rd l0_1 x3_1))∧w'.cell? (ad1.add ((ji1)).toNat)=some (V I (rd l0_1 (ji1)))) (ds:= []) #[false,false,false,false,false,false,false,false,false,false,false,false,false,false,false,false] (by kernel_rfl) rfl rfl hi (fun hHeld=> ?_);refine with_tabW impl_UnpackRow.tab9 impl_UnpackRow.bits9 (fun HT_ HW_=> ?_)
    generalize wr.drew=w4 at HO_1 BK1 HB hx1_0 hx2_0 hHeld ⊢
    refine pu 0 (some 26) ?_
    refine pu 1 (some 27) ?_
    refine pu 3 (some 29) ?_
    refine pu 6 (some 32) ?_
    refine pu 8 (some 34) ?_
    refine pu 9 (some 35) ?_
    refine tu 2 (some 28) hHeld ?_
    refine pu 4 (some 30) ?_
    refine tu 5 (some 31) hHeld ?_
    refine tu 7 (some 33) hHeld ?_
    refine pu 10 (some 36) ?_
    refine tu 11 (some 37) hHeld ?_
    refine pu 12 (some 38) ?_
    refine ou 13 (some 39) (fun K hK=> ?_)
    refine value_ (w1:= ?_) (v:= ?_) (by rfl) rfl ?_ ?_
    rotate_left 2
    ·go_simp
     constructor
     ·rfl
     ·rfl
    refine hK.out _ _ ⟨(blk_cell (blk_alloc BK1.out _) 0).trans rfl,(blk_cell (blk_alloc BK1.out _) 1).trans rfl,(World.cell?_alloc_lt _ _ _ (E _ _ (((HB.out.cell (E w _ hw1_0)).trans hw1_0)))).trans (((HB.out.cell (E w _ hw1_0)).trans hw1_0)),(World.cell?_alloc_lt _ _ _ (E _ _ (((HB.out.cell (E w _ hw2_0)).trans hw2_0)))).trans (((HB.out.cell (E w _ hw2_0)).trans hw2_0))⟩ (fun hHeld=> ?_)
    clear hK K
    refine nu (N:=(some 39)) ?_
    refine ou 14 (some 40) (fun K hK=> ?_)
    refine Kd.R_append_step k136 (w0:=w) w.heap.size (by rfl) (.tmp 26) (.tmp 39) 134 136 (.agg #[(V I 0),(V I 0)]) 16 rfl underlying134 info136 rfl (by decide) (by omega) u5 x2_1 (⟨rd l0_1 x3_1,rd l0_1 (ji1)⟩:S136) [V I (rd l0_1 x3_1),V I (rd l0_1 (ji1))] (fun _=>True) (fun _=>False) rfl rfl ?aP (fun _ hk=>hk.elim) ?aF ?aO ?aB ?aS ?aL ?_
    (case aP=>exact k136_mkM _ _ _ (⟨rd l0_1 x3_1,rd l0_1 (ji1)⟩:S136))
    (case aB=>exact uB)
    (case aF=>exact(fun _ _=>trivial))
    (case aO=>exact(uR HO_1.out))
    (case aS=>exact(below_size uB))
    (case aL=>have:=LMc1.out;omega)
    intro v2 w5 ho hb hg hat
    rw[←Ny1.out]at ho
    have HO2:=C (ho)
    replace BK1:=gK BK1 hg (Kd.R_ne HO_1.out BK1.out (by decide))
    replace HB:=C (hb)
    clear HO_1
    clear ho hb hg hat
    refine hK.out _ _ ⟨(blk_cell BK1.out 0).trans rfl,(blk_cell BK1.out 1).trans rfl,((HB.out.cell (E w _ hw1_0)).trans hw1_0),((HB.out.cell (E w _ hw2_0)).trans hw2_0)⟩ (fun hHeld=> ?_)
    clear hK K
    refine nu (N:=(some 40)) ?_
    refine pu 15 (some 5) ?_
    refine done_ (done_of HT_.out (by kernel_rfl)) ?_
    try go_wp2
    go_roundg k1
    case measure=>have:=HK1.out;omega
    case rel=>exact⟨(y1),(wrap64 (x3_1+2)),rS,H',⟨by have:=HK1.out;omega⟩,⟨fR HO2.out⟩,⟨bK BK1.out⟩,⟨uB⟩⟩
 case rest=>
  clear HC2
  obtain⟨kq,x1_2,HA,HJ1,HO_1,BK1,HB⟩:=hcut
  cases kq with
  |zero=>exact absurd HA.out (by simp[impl_UnpackRow.j1])
  |succ kj2=>
   have H:=HA.out
   clear HA
   simp only[impl_UnpackRow.j1]at H
   obtain⟨t2,A2,H⟩:=bnd H
   by_cases c1:t2=true
   rotate_left
   ·obtain rfl:=nt c1
    replace H:=nf H
    simp only[Option.some.injEq,Prod.mk.injEq]at H
    obtain⟨rfl,rfl⟩:=H
    obtain⟨Ao1,co1,eo1⟩:=Kd.R_slice HO_1.out
    subst eo1
    go_wp2_with (first|((with_reducible refine F (f:=76) rfl ?_);refine gl 76 (some 44) func76 #[L Ao1 x1_2.length co1] ?_;(with_reducible refine(impl_rowOk.calls kj2 _ _ x1_2 false _ ?side1 ?side2 A2.out).mono ?_);(case side1=>exact uC (Kd.R_reads' HO_1.out).2.2);(case side2=>exact(Kd.R_reads' HO_1.out).2.1);rintro e w' ⟨rfl,⟨nd,rfl⟩⟩;refine⟨_,rfl,?_⟩))
    go_ret2
    exact⟨_,rE,rN,uB⟩
   subst c1
   rw[if_pos rfl]at H
   obtain⟨⟨t3,t4⟩,A3,H⟩:=bnd H
   dsimp only at H
   by_cases c2:(t3 !=a0_0)=true
   ·rw[if_pos c2]at H
    have c2b0:(t3 !=a0_0)=true:=c2
    (try(have c2b1:decide (t3=a0_0)=false:=by simpa using c2))
    (try(have c2b2:(t3==a0_0)=false:=by simpa using c2))
    (try(have c2b3:¬(t3=a0_0):=by simpa using c2))
    clear c2
    simp only[Option.some.injEq,Prod.mk.injEq]at H
    obtain⟨rfl,rfl⟩:=H
    obtain⟨Ao1,co1,eo1⟩:=Kd.R_slice HO_1.out
    subst eo1
    exact impl_UnpackRow.W1
   rw[if_neg c2]at H
   have c2b0:(t3 !=a0_0)=false:=by simpa using c2
   (try(have c2b1:decide (t3=a0_0)=true:=by simpa using c2))
   (try(have c2b2:(t3==a0_0)=true:=by simpa using c2))
   clear c2
   obtain⟨t5,A4,H⟩:=bnd H
   by_cases c3:t5=true
   ·subst c3
    rw[if_pos rfl]at H
    simp only[Option.some.injEq,Prod.mk.injEq]at H
    obtain⟨rfl,rfl⟩:=H
    obtain⟨Ao1,co1,eo1⟩:=Kd.R_slice HO_1.out
    subst eo1
    exact impl_UnpackRow.W1
   obtain rfl:=nt c3
   replace H:=nf H
   simp only[Option.some.injEq,Prod.mk.injEq]at H
   obtain⟨rfl,rfl⟩:=H
   obtain⟨Ao1,co1,eo1⟩:=Kd.R_slice HO_1.out
   subst eo1
   go_wp2_with (first|((with_reducible refine F (f:=76) rfl ?_);refine gl 76 (some 44) func76 #[L Ao1 x1_2.length co1] ?_;(with_reducible refine(impl_rowOk.calls kj2 _ _ x1_2 true _ ?side1 ?side2 A2.out).mono ?_);(case side1=>exact uC (Kd.R_reads' HO_1.out).2.2);(case side2=>exact(Kd.R_reads' HO_1.out).2.1);rintro e w' ⟨rfl,⟨nd,rfl⟩⟩;refine⟨_,rfl,?_⟩;(try(rw[drewN_self wc];generalize hq_:World.drewN wc _=wc;have n0_:D (Kd.R (Kd.int .i64) 3 wc w.heap.size (fun _=>True) (L Ao1 x1_2.length co1) x1_2):=⟨by rw[←hq_];exact(uR HO_1.out)⟩;have n1_:D (wc.heap[gb1]? =some (.cells #[O a0_0,L A0_1 l0_1.length c0_1] 107 (0,0))):=⟨by rw[←hq_];exact(uK BK1.out)⟩;have n2_:D (Below w.heap.size w wc):=⟨by rw[←hq_];exact uB⟩;clear HO_1 BK1 HB hq_;have HO_1:=n0_;have BK1:=n1_;have HB:=n2_;clear n0_ n1_ n2_)))|((with_reducible refine F (f:=94) rfl ?_);refine gl 94 (some 47) func94 #[L Ao1 x1_2.length co1] ?_;(with_reducible refine(impl_PackRow.calls kj2 _ _ x1_2 t3 t4 _ ?side1 ?side2 A3.out).mono ?_);(case side1=>exact uC (Kd.R_reads' HO_1.out).2.2);(case side2=>exact(Kd.R_reads' HO_1.out).2.1);rintro e w4 ⟨v2,rfl,ho1,hb⟩;refine⟨_,rfl,?_⟩;have HO2:=C (Kd.R_lower (Kd.R_new' ho1 (Kd.R_lt (uR HO_1.out))) (below_size uB));replace HO_1:=C (Kd.R_elder' (uR HO_1.out) (Kd.R_base ho1) hb);replace BK1:=eK BK1 hb;replace HB:=eB hb;clear hb ho1)|((with_reducible refine J (N:=7) rfl ?_);refine Fix.be 7 #[O false,L none 0 0] 107 ?_;intro gb2 hg w5 BK2 hb;have GW2:=gE (w:=w) hg;have n0:=nL hg BK1;have n1:=nG hg BK1;replace HO_1:=eR HO_1 hb;replace HO2:=eR HO2 hb;replace BK1:=eK BK1 hb;replace HB:=eB hb;clear hb hg;have:=n1.out;have:=n0.out;have hcz3_0:w5.cell? ⟨gb2,0,none⟩=some (O false):=(blk_cell BK2.out 0).trans rfl;have hcz3_1:w5.cell? ⟨gb2,1,none⟩=some (L none 0 0):=(blk_cell BK2.out 1).trans rfl;have hfz3_0:=blk_frozen BK2.out 0;have hfz3_1:=blk_frozen BK2.out 1;obtain⟨Ao2,co2,rfl⟩:=Kd.R_slice HO2.out;have hcz4_0:w5.cell? ⟨gb1,0,none⟩=some (O a0_0):=(blk_cell BK1.out 0).trans rfl;have hcz4_1:w5.cell? ⟨gb1,1,none⟩=some (L A0_1 l0_1.length c0_1):=(blk_cell BK1.out 1).trans rfl;have hfz4_0:=blk_frozen BK1.out 0;have hfz4_1:=blk_frozen BK1.out 1)|(go_at_call 70;(with_reducible refine(slices_Equal_int_int.calls kj2 _ _ t4 _ _ l0_1 false _ ?side1 ?side2 ?side3 ?side4 A4.out).mono ?_);(case side1=>refine(Kd.R_reads' (e:=3) (base:=w.heap.size) (ok:=fun k_=>(True∧qn k_ Ao1 x1_2.length co1)) (n:=t4.length) (c:=co2) ?_).2.2;exact(Kd.R_mono (fR (Kd.R_types HO2.out BK2.out (by decide))) (fun _ h_=>h_.1)));(case side2=>exact(Kd.R_reads' HO2.out).2.1);(case side3=>exact Kd.C_below HR1_1.out uB);(case side4=>exact HC1_1.out);rintro e w' ⟨rfl,⟨nd,rfl⟩⟩))
   go_ret2
   exact⟨_,rE,rN,uB⟩
def impl_UnpackRows.l0:Nat→List (List Int)→List (S107)→Int→Int→Option ((List (List Int))×Bool)
 |0,_,_,_,_=>none
 |k+1,x4,x12,x13,x14=>if x14<x13 then(if 0≤x14 then(if x14<(x12.length:Int) then((impl_UnpackRow.f k ((rd_T107 x12 x14).f0) ((rd_T107 x12 x14).f1)).bind fun bt617=>(if bt617.2=true then(if x4.length<5864062014805 then(impl_UnpackRows.l0 k (x4++ [bt617.1]) x12 x13 (wrap64 (x14+1))) else(none)) else(some (([]:List (List Int)),false)))) else(none)) else(none)) else(some (x4,true))
def impl_UnpackRows.f (k:Nat) (l0:List (S107)):Option ((List (List Int))×Bool):=if(l0.length:Int) >32 then(some (([]:List (List Int)),false)) else(impl_UnpackRows.l0 k ([]:List (List Int)) l0 (l0.length:Int) 0)
theorem impl_UnpackRows.calls (k:Nat) (A0:Option Addr) (c0:Nat) (l0:List (S107)) (r1:List (List Int)) (r2:Bool) (w:World) (hr0:Kd.C k107 w A0 l0.length l0) (hc0:l0.length≤c0) (h:impl_UnpackRows.f k l0=some (r1,r2)):
 Calls prog 64 #[L A0 l0.length c0] w fun e w'=>∃v0_:Value,e=.returned (.tuple #[v0_,O r2])∧Kd.S (Kd.slice 3 (Kd.int .i64)) 39 w' w.heap.size (fun _=>True) v0_ r1∧Below w.heap.size w w':=by
 have hu1:=underlying107
 have HR1:=C hr0
 have HC1:=C hc0
 (try clear hr0);(try clear hc0)
 have HB:=C (Below.refl w.heap.size w)
 have H:=h
 unfold impl_UnpackRows.f at H
 clear h
 by_cases c1:(l0.length:Int) >32
 ·rw[if_pos c1]at H
  have c1b0:decide (32<(l0.length:Int))=true:=decide_eq_true c1
  have c1b1:decide (32<l0.length)=true:=decide_eq_true (by omega)
  clear c1
  simp only[Option.some.injEq,Prod.mk.injEq]at H
  obtain⟨rfl,rfl⟩:=H
  go_enter func64,ntmps64
  go_wp2
  go_ret2
  exact⟨_,rE,by first|exact Kd.S_nil _ _ _ _ _|exact Kd.N_nil _ _ _ _ _|exact Kd.V_nil _ _ _ _ _|exact Kd.Q_nil _ _ _ _ _|exact Kd.R_nil _ _ _ _ _,uB⟩
 rw[if_neg c1]at H
 have c1b0:decide (32<(l0.length:Int))=false:=decide_eq_false c1
 have c1b1:decide (32<l0.length)=false:=decide_eq_false (by omega)
 clear c1
 have H':=C H
 clear H
 go_enter func64,ntmps64
 go_wp2
 go_loopg [4,14] k (fun kq v4 v14 w'=>∃(x1_1:List (List Int)) (x2_1:Int),v14=V I x2_1∧D (impl_UnpackRows.l0 kq x1_1 l0 (l0.length:Int) x2_1=some (r1,r2))∧D (kq≤k)∧D (Kd.S (Kd.slice 3 (Kd.int .i64)) 39 w' w.heap.size (fun _=>True) v4 x1_1)∧D (Below w.heap.size w w'))
 case atStart=>exact⟨(([]:List (List Int))),(0),rS,H',⟨Nat.le_refl _⟩,⟨by first|exact Kd.S_nil _ _ _ _ _|exact Kd.N_nil _ _ _ _ _|exact Kd.V_nil _ _ _ _ _|exact Kd.Q_nil _ _ _ _ _|exact Kd.R_nil _ _ _ _ _⟩,⟨uB⟩⟩
 case round=>
  clear H'
  obtain⟨x1_1,x2_1,rfl,HA,HK1,HO_1,HB⟩:=hrel
  cases gk with
  |zero=>exact absurd HA.out (by simp[impl_UnpackRows.l0])
  |succ k1=>
   have H:=HA.out
   clear HA
   simp only[impl_UnpackRows.l0]at H
   by_cases c2:x2_1<(l0.length:Int)
   rotate_left
   ·rw[if_neg c2]at H
    replace c2:=decide_eq_false c2
    simp only[Option.some.injEq,Prod.mk.injEq]at H
    obtain⟨rfl,rfl⟩:=H
    go_wp2
    go_ret2
    exact⟨_,rE,fS HO_1.out,uB⟩
   rw[if_pos c2]at H
   replace c2:=decide_eq_true c2
   obtain⟨c3,H⟩:=np H
   replace c3:=decide_eq_true c3
   obtain⟨c4,H⟩:=np H
   replace c4:=decide_eq_true c4
   obtain⟨⟨t1,t2⟩,A1,H⟩:=bnd H
   dsimp only at H
   by_cases c5:t2=true
   rotate_left
   ·obtain rfl:=nt c5
    replace H:=nf H
    simp only[Option.some.injEq,Prod.mk.injEq]at H
    obtain⟨rfl,rfl⟩:=H
    have p1:0≤(x2_1:Int):=oT
    have q1:x2_1<(l0.length:Int):=oT
    obtain⟨ad1,A2_1,c6_1,e1,hx1_0,hx1_1,hl1_1,hi1_1⟩:=at_T107 HR1.out x2_1 p1 q1
    cases e1
    replace hx1_0:=hx HB hx1_0
    replace hx1_1:=hx HB hx1_1
    have HR2_1:=C hi1_1
    have HC2_1:=C hl1_1
    clear hi1_1 hl1_1
    replace p1:=eq_true p1
    replace q1:=eq_true q1
    go_wp2_with (first|((with_reducible refine J (N:=6) rfl ?_);refine Fix.be 6 #[O false,L none 0 0] 107 ?_;intro gb1 hg w1 BK1 hb;have GW1:=gE (w:=w) hg;have GE1:=GW1;replace HO_1:=eS HO_1 hb;replace HB:=eB hb;clear hb hg;have hcz1_0:w1.cell? ⟨gb1,0,none⟩=some (O false):=(blk_cell BK1.out 0).trans rfl;have hcz1_1:w1.cell? ⟨gb1,1,none⟩=some (L none 0 0):=(blk_cell BK1.out 1).trans rfl;have hfz1_0:=blk_frozen BK1.out 0;have hfz1_1:=blk_frozen BK1.out 1)|((with_reducible refine F (f:=93) rfl ?_);refine gl 93 (some 20) func93 #[.agg #[O ((rd_T107 l0 x2_1).f0),L A2_1 ((rd_T107 l0 x2_1).f1).length c6_1]] ?_;(with_reducible refine(impl_UnpackRow.calls k1 ((rd_T107 l0 x2_1).f0) _ _ ((rd_T107 l0 x2_1).f1) t1 false _ ?side1 HC2_1.out A1.out).mono ?_);(case side1=>exact Kd.C_below HR2_1.out uB);rintro e w2 ⟨v1,rfl,ho1,hb⟩;refine⟨_,rfl,?_⟩;have HO1:=lR ho1;replace HO_1:=C (Kd.S_elder' (Kd.S_mono (fS (Kd.S_types HO_1.out BK1.out (by decide))) (fun _ h_=>h_.1)) (Kd.R_base ho1) hb);replace BK1:=C (blk_below (g:=gb1) (o:=.cells #[O ((rd_T107 l0 x2_1).f0),L A2_1 ((rd_T107 l0 x2_1).f1).length c6_1] 107 (0,0)) (bK BK1.out) hb);replace HB:=eB hb;clear hb ho1))
    go_ret2
    exact⟨_,rE,by first|exact Kd.S_nil _ _ _ _ _|exact Kd.N_nil _ _ _ _ _|exact Kd.V_nil _ _ _ _ _|exact Kd.Q_nil _ _ _ _ _|exact Kd.R_nil _ _ _ _ _,uB⟩
   subst c5
   rw[if_pos rfl]at H
   obtain⟨c6,H⟩:=np H
   have LMc1:=C c6
   clear c6
   obtain⟨y1,hy1⟩:∃y_:List (List Int),y_=(x1_1++ [t1]):=⟨_,rfl⟩
   replace H:(impl_UnpackRows.l0 k1 y1 l0 (l0.length:Int) (wrap64 (x2_1+1)))=some (r1,r2):=gy hy1 H
   have Ny1:=C hy1
   clear hy1
   have H':=C H
   clear H
   have p1:0≤(x2_1:Int):=oT
   have q1:x2_1<(l0.length:Int):=oT
   obtain⟨ad1,A2_1,c7_1,e1,hx1_0,hx1_1,hl1_1,hi1_1⟩:=at_T107 HR1.out x2_1 p1 q1
   cases e1
   replace hx1_0:=hx HB hx1_0
   replace hx1_1:=hx HB hx1_1
   have HR2_1:=C hi1_1
   have HC2_1:=C hl1_1
   clear hi1_1 hl1_1
   replace p1:=eq_true p1
   replace q1:=eq_true q1
   go_wp2_with (first|((with_reducible refine J (N:=6) rfl ?_);refine Fix.be 6 #[O false,L none 0 0] 107 ?_;intro gb1 hg w1 BK1 hb;have GW1:=gE (w:=w) hg;have GE1:=GW1;replace HO_1:=eS HO_1 hb;replace HB:=eB hb;clear hb hg;have hcz1_0:w1.cell? ⟨gb1,0,none⟩=some (O false):=(blk_cell BK1.out 0).trans rfl;have hcz1_1:w1.cell? ⟨gb1,1,none⟩=some (L none 0 0):=(blk_cell BK1.out 1).trans rfl;have hfz1_0:=blk_frozen BK1.out 0;have hfz1_1:=blk_frozen BK1.out 1)|((with_reducible refine F (f:=93) rfl ?_);refine gl 93 (some 20) func93 #[.agg #[O ((rd_T107 l0 x2_1).f0),L A2_1 ((rd_T107 l0 x2_1).f1).length c7_1]] ?_;(with_reducible refine(impl_UnpackRow.calls k1 ((rd_T107 l0 x2_1).f0) _ _ ((rd_T107 l0 x2_1).f1) t1 true _ ?side1 HC2_1.out A1.out).mono ?_);(case side1=>exact Kd.C_below HR2_1.out uB);rintro e w2 ⟨v1,rfl,ho1,hb⟩;refine⟨_,rfl,?_⟩;have HO1:=lR ho1;replace HO_1:=C (Kd.S_elder' (Kd.S_mono (fS (Kd.S_types HO_1.out BK1.out (by decide))) (fun _ h_=>h_.1)) (Kd.R_base ho1) hb);replace BK1:=C (blk_below (g:=gb1) (o:=.cells #[O ((rd_T107 l0 x2_1).f0),L A2_1 ((rd_T107 l0 x2_1).f1).length c7_1] 107 (0,0)) (bK BK1.out) hb);replace HB:=eB hb;clear hb ho1;obtain⟨Ao1,co1,rfl⟩:=Kd.R_slice HO1.out)|((with_reducible refine gate_builtin (b:=.append) (xs:= #[.tmp 25,.tmp 27]) rfl ?_);at_builtin;refine Kd.S_append (Kd.slice 3 (Kd.int .i64)) (w0:=w) w.heap.size rfl (.tmp 25) (.tmp 27) 22 39 (L none 0 0) 24 rfl underlying22 info39 rfl (by decide) (by omega) u4 x1_1 t1 [L Ao1 t1.length co1] (fun _=>True) (fun k_=>some k_=(L Ao1 t1.length co1:Value).ownBlock) rfl rfl ?aP (fun k_ hk_=>((Kd.R_mono (ok':=fun k_=>((fun _=>True)) k_∧qm k_ u4) (Kd.R_apart' (HO1.out) (Kd.S_typed HO_1.out) (by decide)) (fun k_ hk=>⟨trivial,hk.2⟩))).1 k_ hk_.symm) ?aF ?aO ?aB ?aS ?aL ?_;(case aP=>exact Kd.M_row (Kd.R_mono (Kd.R_tight rfl (Kd.R_mono (ok':=fun k_=>((fun _=>True)) k_∧qm k_ u4) (Kd.R_apart' (HO1.out) (Kd.S_typed HO_1.out) (by decide)) (fun k_ hk=>⟨trivial,hk.2⟩))) (fun _ h_=>h_)));(case aB=>exact uB);(case aF=>exact(fun _ _=>trivial));(case aO=>exact(Kd.S_mono (fS HO_1.out) (fun k_ hk=>⟨trivial,fun e_=>hk.2 e_⟩)));(case aS=>exact(below_size uB));(case aL=>have:=LMc1.out;omega);intro v2 w3 ho hb hg hat;rw[←Ny1.out]at ho;have HO2:=C (ho);replace BK1:=gK BK1 hg (Kd.S_ne HO_1.out BK1.out (by decide));replace HB:=C (hb);clear HO_1;clear HO1;clear ho hb hg hat))
   go_roundg k1
   case measure=>have:=HK1.out;omega
   case rel=>exact⟨(y1),(wrap64 (x2_1+1)),rS,H',⟨by have:=HK1.out;omega⟩,⟨fS HO2.out⟩,⟨uB⟩⟩
def impl_PackRows.l0:Nat→List (S107)→List (List Int)→Int→Int→Option ((List (S107)))
 |0,_,_,_,_=>none
 |k+1,x3,x9,x10,x11=>if x11<x10 then(if 0≤x11 then(if x11<(x9.length:Int) then((impl_PackRow.f k (rd_L6 x9 x11)).bind fun bt626=>(if x3.length<4398046511104 then(impl_PackRows.l0 k (x3++ [(⟨bt626.1,bt626.2⟩:S107)]) x9 x10 (wrap64 (x11+1))) else(none))) else(none)) else(none)) else(some x3)
def impl_PackRows.f (k:Nat) (l0:List (List Int)):Option ((List (S107))):=(impl_RowsOk.f k l0).bind fun t624=>(if t624=true then(impl_PackRows.l0 k ([]:List (S107)) l0 (l0.length:Int) 0) else(some ([]:List (S107))))
theorem impl_PackRows.calls (k:Nat) (A0:Option Addr) (c0:Nat) (l0:List (List Int)) (r:List (S107)) (w:World) (hr0:Kd.C (Kd.slice 3 (Kd.int .i64)) w A0 l0.length l0) (hc0:l0.length≤c0) (h:impl_PackRows.f k l0=some r):
 Calls prog 65 #[L A0 l0.length c0] w fun e w'=>∃v0_:Value,e=.returned (v0_)∧Kd.S k107 107 w' w.heap.size (fun _=>True) v0_ r∧Below w.heap.size w w':=by
 have HR1:=C hr0
 have HC1:=C hc0
 (try clear hr0);(try clear hc0)
 have HB:=C (Below.refl w.heap.size w)
 have H:=h
 unfold impl_PackRows.f at H
 clear h
 obtain⟨t1,A1,H⟩:=bnd H
 by_cases c1:t1=true
 rotate_left
 ·obtain rfl:=nt c1
  replace H:=nf H
  obtain rfl:=si H
  go_enter func65,ntmps65
  go_wp2_with (first|((with_reducible refine F (f:=43) rfl ?_);refine gl 43 (some 7) func43 #[L A0 l0.length c0] ?_;(with_reducible refine(impl_RowsOk.calls k _ _ l0 false _ ?side1 HC1.out A1.out).mono ?_);(case side1=>exact uC HR1.out);rintro e w' ⟨rfl,⟨nd,rfl⟩⟩;refine⟨_,rfl,?_⟩))
  go_ret
  exact⟨_,rE,by first|exact Kd.S_nil _ _ _ _ _|exact Kd.N_nil _ _ _ _ _|exact Kd.V_nil _ _ _ _ _|exact Kd.Q_nil _ _ _ _ _|exact Kd.R_nil _ _ _ _ _,uB⟩
 subst c1
 rw[if_pos rfl]at H
 have H':=C H
 clear H
 go_enter func65,ntmps65
 go_wp2_with (first|((with_reducible refine F (f:=43) rfl ?_);refine gl 43 (some 7) func43 #[L A0 l0.length c0] ?_;(with_reducible refine(impl_RowsOk.calls k _ _ l0 true _ ?side1 HC1.out A1.out).mono ?_);(case side1=>exact uC HR1.out);rintro e w' ⟨rfl,⟨nd,rfl⟩⟩;refine⟨_,rfl,?_⟩))
 go_loopg [3,11] k (fun kq v3 v11 w'=>∃(x1_1:List (S107)) (x2_1:Int),v11=V I x2_1∧D (impl_PackRows.l0 kq x1_1 l0 (l0.length:Int) x2_1=some r)∧D (kq≤k)∧D (Kd.S k107 107 w' w.heap.size (fun _=>True) v3 x1_1)∧D (Below w.heap.size w w'))
 case atStart=>exact⟨(([]:List (S107))),(0),rS,H',⟨Nat.le_refl _⟩,⟨by first|exact Kd.S_nil _ _ _ _ _|exact Kd.N_nil _ _ _ _ _|exact Kd.V_nil _ _ _ _ _|exact Kd.Q_nil _ _ _ _ _|exact Kd.R_nil _ _ _ _ _⟩,⟨uB⟩⟩
 case round=>
  clear H'
  obtain⟨x1_1,x2_1,rfl,HA,HK1,HO_1,HB⟩:=hrel
  cases gk with
  |zero=>exact absurd HA.out (by simp[impl_PackRows.l0])
  |succ k1=>
   have H:=HA.out
   clear HA
   simp only[impl_PackRows.l0]at H
   by_cases c2:x2_1<(l0.length:Int)
   rotate_left
   ·rw[if_neg c2]at H
    replace c2:=decide_eq_false c2
    obtain rfl:=si H
    go_wp2
    go_ret
    exact⟨_,rE,fS HO_1.out,uB⟩
   rw[if_pos c2]at H
   replace c2:=decide_eq_true c2
   obtain⟨c3,H⟩:=np H
   replace c3:=decide_eq_true c3
   obtain⟨c4,H⟩:=np H
   replace c4:=decide_eq_true c4
   obtain⟨⟨t2,t3⟩,A2,H⟩:=bnd H
   dsimp only at H
   obtain⟨c5,H⟩:=np H
   have LMc1:=C c5
   clear c5
   obtain⟨y1,hy1⟩:∃y_:List (S107),y_=(x1_1++ [(⟨t2,t3⟩:S107)]):=⟨_,rfl⟩
   replace H:(impl_PackRows.l0 k1 y1 l0 (l0.length:Int) (wrap64 (x2_1+1)))=some r:=gy hy1 H
   have Ny1:=C hy1
   clear hy1
   have H':=C H
   clear H
   have p1:0≤(x2_1:Int):=oT
   have q1:x2_1<(l0.length:Int):=oT
   obtain⟨ad1,A3_0,c6_0,e1,hx1_0,hl1_0,hi1_0⟩:=at_L6 HR1.out x2_1 p1 q1
   cases e1
   replace hx1_0:=hx HB hx1_0
   have HR2_0:=C hi1_0
   have HC2_0:=C hl1_0
   clear hi1_0 hl1_0
   replace p1:=eq_true p1
   replace q1:=eq_true q1
   go_wp2_with (first|((with_reducible refine F (f:=94) rfl ?_);refine gl 94 (some 17) func94 #[L A3_0 (rd_L6 l0 x2_1).length c6_0] ?_;(with_reducible refine(impl_PackRow.calls k1 _ _ (rd_L6 l0 x2_1) t2 t3 _ ?side1 HC2_0.out A2.out).mono ?_);(case side1=>exact uZ HR2_0);rintro e w1 ⟨v1,rfl,ho1,hb⟩;refine⟨_,rfl,?_⟩;have HO1:=lR ho1;replace HO_1:=C (Kd.S_elder' (uS HO_1.out) (Kd.R_base ho1) hb);replace HB:=eB hb;clear hb ho1;obtain⟨Ao1,co1,rfl⟩:=Kd.R_slice HO1.out)|((with_reducible refine gate_builtin (b:=.append) (xs:= #[.tmp 15,.tmp 18]) rfl ?_);at_builtin;refine Kd.S_append k107 (w0:=w) w.heap.size rfl (.tmp 15) (.tmp 18) 80 107 (.agg #[(O false),(L none 0 0)]) 32 rfl underlying80 info107 rfl (by decide) (by omega) u3 x1_1 (⟨t2,t3⟩:S107) [O t2,L Ao1 t3.length co1] (fun _=>True) (fun k_=>some k_=(L Ao1 t3.length co1:Value).ownBlock) rfl rfl ?aP (fun k_ hk_=>((Kd.R_mono (ok':=fun k_=>((fun _=>True)) k_∧qm k_ u3) (Kd.R_apart' (HO1.out) (Kd.S_typed HO_1.out) (by decide)) (fun k_ hk=>⟨trivial,hk.2⟩))).1 k_ hk_.symm) ?aF ?aO ?aB ?aS ?aL ?_;(case aP=>exact k107_mkM _ _ _ (⟨t2,t3⟩:S107) (Kd.R_mono (Kd.R_tight rfl (Kd.R_mono (ok':=fun k_=>((fun _=>True)) k_∧qm k_ u3) (Kd.R_apart' (HO1.out) (Kd.S_typed HO_1.out) (by decide)) (fun k_ hk=>⟨trivial,hk.2⟩))) (fun _ h_=>h_)));(case aB=>exact uB);(case aF=>exact(fun _ _=>trivial));(case aO=>exact(Kd.S_mono (fS HO_1.out) (fun k_ hk=>⟨trivial,fun e_=>hk.2 e_⟩)));(case aS=>exact(below_size uB));(case aL=>have:=LMc1.out;omega);intro v2 w2 ho hb hg hat;rw[←Ny1.out]at ho;have HO2:=C (ho);replace HB:=C (hb);clear HO_1;clear HO1;clear ho hb hg hat))
   go_roundg k1
   case measure=>have:=HK1.out;omega
   case rel=>exact⟨(y1),(wrap64 (x2_1+1)),rS,H',⟨by have:=HK1.out;omega⟩,⟨fS HO2.out⟩,⟨uB⟩⟩
def impl_RowsOfBand.f (k:Nat) (a0_0:Int) (a0_1:Int) (l0_2:List (List Int)) (l0_3:List (S77)):Option ((List (List Int))):=(impl_BandOk.f k a0_0 a0_1 l0_2 l0_3).bind fun t634=>(if t634=true then((impl_MergeBand.f k a0_0 a0_1 l0_2 l0_3).bind fun bt635=>(some bt635.2.2.1)) else(some ([]:List (List Int))))
theorem impl_RowsOfBand.fl (x0 x1 x2 x3:Value) (w:World):Sem.run prog (Go.Instr.field 70 (.agg #[x0,x1,x2,x3]) 2) w=.ok x2 w:=by kernel_rfl
theorem impl_RowsOfBand.calls (k:Nat) (a0_0:Int) (a0_1:Int) (A0_2:Option Addr) (c0_2:Nat) (l0_2:List (List Int)) (A0_3:Option Addr) (c0_3:Nat) (l0_3:List (S77)) (r:List (List Int)) (w:World) (hr0_2:Kd.C (Kd.slice 3 (Kd.int .i64)) w A0_2 l0_2.length l0_2) (hc0_2:l0_2.length≤c0_2) (hr0_3:Kd.C k77 w A0_3 l0_3.length l0_3) (hc0_3:l0_3.length≤c0_3) (h:impl_RowsOfBand.f k a0_0 a0_1 l0_2 l0_3=some r):
 Calls prog 66 #[.agg #[V I a0_0,V I a0_1,L A0_2 l0_2.length c0_2,L A0_3 l0_3.length c0_3]] w fun e w'=>∃v0_:Value,e=.returned (v0_)∧Kd.S (Kd.slice 3 (Kd.int .i64)) 39 w' w.heap.size (fun _=>True) v0_ r∧Below w.heap.size w w':=by
 have hu1:=underlying70
 have HR1_2:=C hr0_2
 have HC1_2:=C hc0_2
 (try clear hr0_2);(try clear hc0_2)
 have HR1_3:=C hr0_3
 have HC1_3:=C hc0_3
 (try clear hr0_3);(try clear hc0_3)
 have HB:=C (Below.refl w.heap.size w)
 have H:=h
 unfold impl_RowsOfBand.f at H
 clear h
 obtain⟨t1,A1,H⟩:=bnd H
 by_cases c1:t1=true
 rotate_left
 ·obtain rfl:=nt c1
  replace H:=nf H
  obtain rfl:=si H
  go_enter func66,ntmps66
  go_wp2_with (first|((with_reducible refine J (N:=1) rfl ?_);refine Fix.be 1 #[V I a0_0,V I a0_1,L A0_2 l0_2.length c0_2,L A0_3 l0_3.length c0_3] 70 ?_;intro gb1 hg w1 BK1 hb;have GW1:=gE (w:=w) hg;have GE1:=GW1;replace HB:=eB hb;clear hb hg;obtain⟨_,_,_,_,_,_,_,_⟩:=d4 BK1.out)|((with_reducible refine F (f:=87) rfl ?_);refine gl 87 (some 4) func87 #[.agg #[V I a0_0,V I a0_1,L A0_2 l0_2.length c0_2,L A0_3 l0_3.length c0_3]] ?_;(with_reducible refine(impl_BandOk.calls k a0_0 a0_1 _ _ l0_2 _ _ l0_3 false _ ?side1 HC1_2.out ?side3 HC1_3.out A1.out).mono ?_);(case side1=>exact uZ HR1_2);(case side3=>exact uZ HR1_3);rintro e w2 ⟨rfl,hb⟩;refine⟨_,rfl,?_⟩;replace BK1:=eK BK1 hb;replace HB:=eB hb;clear hb))
  go_ret
  exact⟨_,rE,by first|exact Kd.S_nil _ _ _ _ _|exact Kd.N_nil _ _ _ _ _|exact Kd.V_nil _ _ _ _ _|exact Kd.Q_nil _ _ _ _ _|exact Kd.R_nil _ _ _ _ _,uB⟩
 subst c1
 rw[if_pos rfl]at H
 obtain⟨⟨t2,t3,t4,t5⟩,A2,H⟩:=bnd H
 dsimp only at H
 obtain rfl:=si H
 go_enter func66,ntmps66
 go_wp2_with (first|((with_reducible refine J (N:=1) rfl ?_);refine Fix.be 1 #[V I a0_0,V I a0_1,L A0_2 l0_2.length c0_2,L A0_3 l0_3.length c0_3] 70 ?_;intro gb1 hg w1 BK1 hb;have GW1:=gE (w:=w) hg;have GE1:=GW1;replace HB:=eB hb;clear hb hg;obtain⟨_,_,_,_,_,_,_,_⟩:=d4 BK1.out)|((with_reducible refine F (f:=87) rfl ?_);refine gl 87 (some 4) func87 #[.agg #[V I a0_0,V I a0_1,L A0_2 l0_2.length c0_2,L A0_3 l0_3.length c0_3]] ?_;(with_reducible refine(impl_BandOk.calls k a0_0 a0_1 _ _ l0_2 _ _ l0_3 true _ ?side1 HC1_2.out ?side3 HC1_3.out A1.out).mono ?_);(case side1=>exact uZ HR1_2);(case side3=>exact uZ HR1_3);rintro e w2 ⟨rfl,hb⟩;refine⟨_,rfl,?_⟩;replace BK1:=eK BK1 hb;replace HB:=eB hb;clear hb;obtain⟨_,_,_,_,_,_,_,_⟩:=d4 BK1.out)|((with_reducible refine F (f:=91) rfl ?_);refine gl 91 (some 7) func91 #[.agg #[V I a0_0,V I a0_1,L A0_2 l0_2.length c0_2,L A0_3 l0_3.length c0_3]] ?_;(with_reducible refine(impl_MergeBand.calls k a0_0 a0_1 _ _ l0_2 _ _ l0_3 t2 t3 t4 t5 _ ?side1 HC1_2.out ?side3 HC1_3.out A2.out).mono ?_);(case side1=>exact uZ HR1_2);(case side3=>exact uZ HR1_3);rintro e w3 ⟨v1,v2,rfl,ho1,ho2,hb⟩;refine⟨_,rfl,?_⟩;have HO1:=C (Kd.S_lower ho1 (below_size uB));have HO2:=C (Kd.S_lower ho2 (below_size uB));replace BK1:=eK BK1 hb;replace HB:=eB hb;clear hb ho1 ho2))
 rw[impl_RowsOfBand.fl]
 go_wp2
 go_ret
 exact⟨_,rE,fS HO1.out,uB⟩
end Go.Proofs.Ytaceidiookkocaa.PFnPrinted
