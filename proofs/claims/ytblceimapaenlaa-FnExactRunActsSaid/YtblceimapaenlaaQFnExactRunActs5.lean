/- Calls do what plain Lean functions say (FnExactRunActs). No condition. -/
import Derived.Test.YtblceimapaenlaaQFnExactRunActs0
import Derived.Test.YtblceimapaenlaaQFnExactRunActs3
namespace Go.Proofs.Ytblceimapaenlaa.PFnExactRunActs
open Go.RowKit Go.Proofs.YtblceimapaenlaaW.PrintWords Go.Proofs.YtblceimapaenlaaW.PrintLast Go.Proofs.YtblceimapaenlaaW.PrintMore
open Fix (bK bnd d6 eB gE gl nf nt qm rE rN uB uK)
open Go.Value renaming int→V,slice→L
open Go.IntKind renaming i64→I
attribute [local go_sem] max2_int min2_int max_two min_two max_three min_three max_four min_four
attribute [local go_sem] Fix.isSome_setCell
set_option linter.unusedVariables false
set_option maxHeartbeats 40000000
set_option maxRecDepth 100000
set_option linter.unusedSimpArgs false
def impl_NewLine.f (a0:Int):Option (Int×Int×List Int×List Int×Int×Bool×Bool):=(impl_within.f a0 0 40).bind fun t312=>(if t312=true then(some (a0,0,([]:List Int),([]:List Int),0,false,true)) else(some (0,0,([]:List Int),([]:List Int),0,false,false)))
theorem impl_NewLine.calls (a0:Int) (r1:Int) (r2:Int) (r3:List Int) (r4:List Int) (r5:Int) (r6:Bool) (r7:Bool) (w:World) (h:impl_NewLine.f a0=some (r1,r2,r3,r4,r5,r6,r7)):
 Calls Try.prog 73 #[V I a0] w fun e w'=>∃v2_ v3_:Value,e=.returned (.tuple #[.agg #[V I r1,V I r2,v2_,v3_,V I r5,.bool r6],.bool r7])∧Kd.R (Kd.int .i64) 3 w' w.heap.size (fun k_=>qm k_ v3_) v2_ r3∧Kd.R (Kd.int .i64) 3 w' w.heap.size (fun k_=>qm k_ v2_) v3_ r4∧Below w.heap.size w w':=by
 have hu1:=Try.underlying34
 have HB:=Aside0.mk (Below.refl w.heap.size w)
 have H:=h
 unfold impl_NewLine.f at H
 clear h
 obtain⟨t1,A1,H⟩:=bnd H
 by_cases c1:t1=true
 ·subst c1
  rw[if_pos rfl]at H
  simp only[Option.some.injEq,Prod.mk.injEq]at H
  obtain⟨rfl,rfl,rfl,rfl,rfl,rfl,rfl⟩:=H
  go_enter Try.func73,Try.ntmps73
  go_wp2_with (first|((with_reducible refine gate_dst (N:=2) rfl ?_);refine Fix.be 2 #[V I 0,V I 0,L none 0 0,L none 0 0,V I 0,.bool false] 34 ?_;intro gb1 hg w1 BK1 hb;have GW1:=gE (w:=w) hg;have GE1:=GW1;replace HB:=eB hb;clear hb hg)|((with_reducible refine gate_callee (f:=46) rfl ?_);refine gl 46 (some 5) Try.func46 #[V I a0,V I 0,V I 40] ?_;(with_reducible refine(impl_within.calls a0 0 40 true _ A1.out).mono ?_);rintro e w' ⟨rfl,⟨nd,rfl⟩⟩;refine⟨_,rfl,?_⟩;(try(rw[drewN_self w1];generalize hq_:World.drewN w1 _=w1;have n0_:Aside0 (w1.heap[gb1]? =some (.cells #[V I 0,V I 0,L none 0 0,L none 0 0,V I 0,.bool false] 34 (0,0))):=⟨by rw[←hq_];exact(uK BK1.out)⟩;have n1_:Aside0 (Below w.heap.size w w1):=⟨by rw[←hq_];exact uB⟩;clear BK1 HB hq_;have BK1:=n0_;have HB:=n1_;clear n0_ n1_));obtain⟨_,_,_,_,_,_,_,_,_,_,_,_⟩:=d6 BK1.out))
  refine bodyPost_ret (results_ct rfl _ _ gb1 34 #[V I a0,V I 0,L none 0 0,L none 0 0,V I 0,.bool false] (0,0) _ rfl (bK BK1.out) Try.underlying34 rfl (by kernel_rfl)) rfl ?_
  exact⟨_,_,rE,rN,rN,uB⟩
 obtain rfl:=nt c1
 replace H:=nf H
 simp only[Option.some.injEq,Prod.mk.injEq]at H
 obtain⟨rfl,rfl,rfl,rfl,rfl,rfl,rfl⟩:=H
 go_enter Try.func73,Try.ntmps73
 go_wp2_with (first|((with_reducible refine gate_dst (N:=2) rfl ?_);refine Fix.be 2 #[V I 0,V I 0,L none 0 0,L none 0 0,V I 0,.bool false] 34 ?_;intro gb1 hg w1 BK1 hb;have GW1:=gE (w:=w) hg;have GE1:=GW1;replace HB:=eB hb;clear hb hg)|((with_reducible refine gate_callee (f:=46) rfl ?_);refine gl 46 (some 5) Try.func46 #[V I a0,V I 0,V I 40] ?_;(with_reducible refine(impl_within.calls a0 0 40 false _ A1.out).mono ?_);rintro e w' ⟨rfl,⟨nd,rfl⟩⟩;refine⟨_,rfl,?_⟩;(try(rw[drewN_self w1];generalize hq_:World.drewN w1 _=w1;have n0_:Aside0 (w1.heap[gb1]? =some (.cells #[V I 0,V I 0,L none 0 0,L none 0 0,V I 0,.bool false] 34 (0,0))):=⟨by rw[←hq_];exact(uK BK1.out)⟩;have n1_:Aside0 (Below w.heap.size w w1):=⟨by rw[←hq_];exact uB⟩;clear BK1 HB hq_;have BK1:=n0_;have HB:=n1_;clear n0_ n1_));obtain⟨_,_,_,_,_,_,_,_,_,_,_,_⟩:=d6 BK1.out))
 refine bodyPost_ret (results_ct rfl _ _ gb1 34 #[V I 0,V I 0,L none 0 0,L none 0 0,V I 0,.bool false] (0,0) _ rfl (bK BK1.out) Try.underlying34 rfl (by kernel_rfl)) rfl ?_
 exact⟨_,_,rE,rN,rN,uB⟩
end Go.Proofs.Ytblceimapaenlaa.PFnExactRunActs
