/- Calls do what plain Lean functions say (FnPrinted). No condition. -/
import Derived.Test.YtaceidiookkocaaQFnPrinted0
import Derived.Test.YtaceidiookkocaaQFnPrinted1
import Derived.Test.YtaceidiookkocaaQFnPrinted2
import Derived.Test.YtaceidiookkocaaQFnPrinted3
import Derived.Test.YtaceidiookkocaaQFnPrinted4
import Derived.Test.YtaceidiookkocaaQFnPrinted5
namespace Go.Proofs.Ytaceidiookkocaa.PFnPrinted
open Go.RowKit Go.Proofs.YtaceidiookkocaaW.PrintWords Go.Proofs.YtaceidiookkocaaW.PrintLast Go.Proofs.YtaceidiookkocaaW.PrintMore
open Try
open Fix (bK bnd cl6 cr4 d4 d6 dB dK eB eK eR eS fR fS gE gK gl gs gy hh lR nG nL nf np nt nu oL oT ou pj pu qn rE rN rS si tu uB uC uK uR uS uZ wB wK)
open Go.Value renaming int→V,slice→L,bool→O,agg→G
open Go.IntKind renaming i64→I
open Go.Proofs.YtaceidiookkocaaW.PrintWords.Aside0 renaming mk→C
open Go.Proofs.YtaceidiookkocaaW.PrintWords renaming Aside0→D,gate_callee→F
open Go.Proofs.YtaceidiookkocaaW.PrintWords.Kd renaming R_mono→X
attribute [local go_sem] max2_int min2_int max_two min_two max_three min_three max_four min_four
attribute [local go_sem] Fix.isSome_setCell
set_option linter.unusedVariables false
set_option maxHeartbeats 40000000
set_option maxRecDepth 100000
set_option linter.unusedSimpArgs false
def impl_AddToBand.j0:Nat→Bool→Int→Int→List (List Int)→List (S77)→List (S126)→Int→Int→Int→Int→Int→Option (Int×Int×(List (List Int))×(List (S77))×Bool)
 |0,_,_,_,_,_,_,_,_,_,_,_=>none
 |k+1,x14,x492000,x492001,x492002,x492003,x493000,x493001,x493002,x493003,x493004,x493005=>if x14=true then((impl_copyBand.f k x492000 x492001 x492002 x492003).bind fun bt496=>(some (bt496.1,bt496.2.1,bt496.2.2.1,bt496.2.2.2,false))) else((impl_TouchesBand.f k x493000 x493001 x493002 x493003 x493004 x493005 x492000 x492001).bind fun t504=>(if t504=true then((impl_copyBand.f k x492000 x492001 x492002 x492003).bind fun bt513=>((impl_BandCells.f k x492000 x492001 x492002 x492003).bind fun t522=>(if(wrap64 ((wrap64 (t522+2))+(x493000.length:Int))) >60 then((impl_MergeBand.f k x492000 x492001 x492002 x492003).bind fun bt523=>((impl_copyObject.f x493000 x493001 x493002 x493003 x493004 x493005).bind fun bt531=>(if bt523.2.2.2.length<2199023255552 then(some (bt523.1,bt523.2.1,bt523.2.2.1,(bt523.2.2.2++ [(⟨bt531.1,bt531.2.1,(⟨bt531.2.2.1,bt531.2.2.2.1,bt531.2.2.2.2.1,bt531.2.2.2.2.2⟩:S75)⟩:S77)]),true)) else(none)))) else((impl_copyObject.f x493000 x493001 x493002 x493003 x493004 x493005).bind fun bt542=>(if bt513.2.2.2.length<2199023255552 then(some (bt513.1,bt513.2.1,bt513.2.2.1,(bt513.2.2.2++ [(⟨bt542.1,bt542.2.1,(⟨bt542.2.2.1,bt542.2.2.2.1,bt542.2.2.2.2.1,bt542.2.2.2.2.2⟩:S75)⟩:S77)]),true)) else(none)))))) else((impl_copyBand.f k x492000 x492001 x492002 x492003).bind fun bt505=>(some (bt505.1,bt505.2.1,bt505.2.2.1,bt505.2.2.2,true)))))
def impl_AddToBand.f (k:Nat) (a0_0:Int) (a0_1:Int) (l0_2:List (List Int)) (l0_3:List (S77)) (l1_0:List (S126)) (a1_1:Int) (a1_2:Int) (a1_3:Int) (a1_4:Int) (a1_5:Int):Option (Int×Int×(List (List Int))×(List (S77))×Bool):=(impl_BandOk.f k a0_0 a0_1 l0_2 l0_3).bind fun t494=>(if t494=true then((impl_ObjectOk.f k l1_0 a1_1 a1_2 a1_3 a1_4 a1_5).bind fun t495=>(impl_AddToBand.j0 k (!t495) a0_0 a0_1 l0_2 l0_3 l1_0 a1_1 a1_2 a1_3 a1_4 a1_5)) else(impl_AddToBand.j0 k true a0_0 a0_1 l0_2 l0_3 l1_0 a1_1 a1_2 a1_3 a1_4 a1_5))
def impl_AddToBand.T6:Bool×List (List Nat×List Nat):=(true,[([],[]),([0],[0]),([1],[1]),([],[]),([3],[3]),([4],[4]),([2,5],[2,5]),([6],[6])])
def impl_AddToBand.B6:List Nat:= [0,1,3,0,8,24,63,127]
theorem impl_AddToBand.tab6:rtab .any (opsOf Try.f63 6)=impl_AddToBand.T6:=by kernel_rfl
theorem impl_AddToBand.bits6:waitsOk impl_AddToBand.T6.2 impl_AddToBand.B6=true:=by kernel_rfl
def impl_AddToBand.T8:Bool×List (List Nat×List Nat):=(true,[([],[]),([0],[0]),([],[]),([2],[2]),([3],[3]),([1,4,3],[1,4]),([0,1,2,3,4,5],[]),([6,5,5,0,1,2,3,4,5],[5,6])])
def impl_AddToBand.B8:List Nat:= [0,1,0,4,12,31,63,127]
theorem impl_AddToBand.tab8:rtab .any (opsOf Try.f63 8)=impl_AddToBand.T8:=by kernel_rfl
theorem impl_AddToBand.bits8:waitsOk impl_AddToBand.T8.2 impl_AddToBand.B8=true:=by kernel_rfl
theorem impl_AddToBand.calls (k:Nat) (a0_0:Int) (a0_1:Int) (A0_2:Option Addr) (c0_2:Nat) (l0_2:List (List Int)) (A0_3:Option Addr) (c0_3:Nat) (l0_3:List (S77)) (A1_0:Option Addr) (c1_0:Nat) (l1_0:List (S126)) (a1_1:Int) (a1_2:Int) (a1_3:Int) (a1_4:Int) (a1_5:Int) (r1:Int) (r2:Int) (r3:List (List Int)) (r4:List (S77)) (r5:Bool) (w:World) (hr0_2:Kd.C (Kd.slice 3 (Kd.int .i64)) w A0_2 l0_2.length l0_2) (hc0_2:l0_2.length≤c0_2) (hr0_3:Kd.C k77 w A0_3 l0_3.length l0_3) (hc0_3:l0_3.length≤c0_3) (hr1_0:Kd.C k126 w A1_0 l1_0.length l1_0) (hc1_0:l1_0.length≤c1_0) (h:impl_AddToBand.f k a0_0 a0_1 l0_2 l0_3 l1_0 a1_1 a1_2 a1_3 a1_4 a1_5=some (r1,r2,r3,r4,r5)):
 Calls prog 63 #[G #[V I a0_0,V I a0_1,L A0_2 l0_2.length c0_2,L A0_3 l0_3.length c0_3],G #[L A1_0 l1_0.length c1_0,V I a1_1,V I a1_2,V I a1_3,V I a1_4,V I a1_5]] w fun e w'=>∃v2_ v3_:Value,e=.returned (.tuple #[G #[V I r1,V I r2,v2_,v3_],O r5])∧Kd.S (Kd.slice 3 (Kd.int .i64)) 39 w' w.heap.size (fun _=>True) v2_ r3∧Kd.S k77 77 w' w.heap.size (fun _=>True) v3_ r4∧Below w.heap.size w w':=by
 have hu1:=underlying70
 have hu2:=underlying77
 have HR1_2:=C hr0_2
 have HC1_2:=C hc0_2
 (try clear hr0_2);(try clear hc0_2)
 have HR1_3:=C hr0_3
 have HC1_3:=C hc0_3
 (try clear hr0_3);(try clear hc0_3)
 have HR2_0:=C hr1_0
 have HC2_0:=C hc1_0
 (try clear hr1_0);(try clear hc1_0)
 have HB:=C (Below.refl w.heap.size w)
 have H:=h
 unfold impl_AddToBand.f at H
 clear h
 have HC3:=C H
 clear H
 go_enter func63,ntmps63
 go_upto_region 1 with(first|((with_reducible refine gate_dst (N:=2) rfl ?_);refine Fix.be 2 #[V I a0_0,V I a0_1,L A0_2 l0_2.length c0_2,L A0_3 l0_3.length c0_3] 70 ?_;intro gb1 hg w2 BK1 hb;have GW1:=gE (w:=w) hg;replace HB:=eB hb;clear hb hg)|((with_reducible refine gate_dst (N:=3) rfl ?_);refine Fix.be 3 #[L A1_0 l1_0.length c1_0,V I a1_1,V I a1_2,V I a1_3,V I a1_4,V I a1_5] 77 ?_;intro gb2 hg w3 BK2 hb;have GW2:=gE (w:=w) hg;have n0:=nL hg BK1;have n1:=nG hg BK1;replace BK1:=eK BK1 hb;replace HB:=eB hb;clear hb hg)|((with_reducible refine gate_dst (N:=4) rfl ?_);refine Fix.be 4 #[V I 0,V I 0,L none 0 0,L none 0 0] 70 ?_;intro gb3 hg w4 BK3 hb;have GW3:=gE (w:=w) hg;have n2:=nL hg BK1;have n3:=nG hg BK1;have n4:=nL hg BK2;have n5:=nG hg BK2;replace BK1:=eK BK1 hb;replace BK2:=eK BK2 hb;replace HB:=eB hb;clear hb hg))
 (try simp only[Act.put,List.setIfInBounds_toArray,List.set_cons_zero,List.set_cons_succ])
 go_cut [14] (fun v14 wc=>∃(kq:Nat) (x1_2:Bool),v14=O x1_2∧D (impl_AddToBand.j0 kq x1_2 a0_0 a0_1 l0_2 l0_3 l1_0 a1_1 a1_2 a1_3 a1_4 a1_5=some (r1,r2,r3,r4,r5))∧D (kq≤k)∧D (wc.heap[gb1]? =some (.cells #[V I a0_0,V I a0_1,(L A0_2 l0_2.length c0_2),(L A0_3 l0_3.length c0_3)] 70 (0,0)))∧D (wc.heap[gb2]? =some (.cells #[(L A1_0 l1_0.length c1_0),V I a1_1,V I a1_2,V I a1_3,V I a1_4,V I a1_5] 77 (0,0)))∧D (wc.heap[gb3]? =some (.cells #[V I 0,V I 0,(L none 0 0),(L none 0 0)] 70 (0,0)))∧D (Below w.heap.size w wc))
 case first=>
  have H:=HC3.out
  clear HC3
  obtain⟨t1,A2,H⟩:=bnd H
  by_cases c2:t1=true
  rotate_left
  ·obtain rfl:=nt c2
   replace H:=nf H
   have H':=C H
   clear H
   have:=n0.out
   have:=n1.out
   have:=n2.out
   have:=n3.out
   obtain⟨_,_,_,_,_,_,_,_⟩:=d4 BK1.out
   go_wp2_with (first|((with_reducible refine F (f:=87) rfl ?_);refine gl 87 (some 8) func87 #[G #[V I a0_0,V I a0_1,L A0_2 l0_2.length c0_2,L A0_3 l0_3.length c0_3]] ?_;(with_reducible refine(impl_BandOk.calls k a0_0 a0_1 _ _ l0_2 _ _ l0_3 false _ ?side1 HC1_2.out ?side3 HC1_3.out A2.out).mono ?_);(case side1=>exact uZ HR1_2);(case side3=>exact uZ HR1_3);rintro e w5 ⟨rfl,hb⟩;refine⟨_,rfl,?_⟩;replace BK1:=eK BK1 hb;replace BK2:=eK BK2 hb;replace BK3:=eK BK3 hb;replace HB:=eB hb;clear hb))
   go_meet
   case rel=>exact⟨_,(true),rS,H',⟨oL⟩,⟨bK BK1.out⟩,⟨bK BK2.out⟩,⟨bK BK3.out⟩,⟨uB⟩⟩
  subst c2
  rw[if_pos rfl]at H
  obtain⟨t2,A3,H⟩:=bnd H
  have H':=C H
  clear H
  have:=n0.out
  have:=n1.out
  have:=n2.out
  have:=n3.out
  obtain⟨_,_,_,_,_,_,_,_⟩:=d4 BK1.out
  go_wp2_with (first|((with_reducible refine F (f:=87) rfl ?_);refine gl 87 (some 8) func87 #[G #[V I a0_0,V I a0_1,L A0_2 l0_2.length c0_2,L A0_3 l0_3.length c0_3]] ?_;(with_reducible refine(impl_BandOk.calls k a0_0 a0_1 _ _ l0_2 _ _ l0_3 true _ ?side1 HC1_2.out ?side3 HC1_3.out A2.out).mono ?_);(case side1=>exact uZ HR1_2);(case side3=>exact uZ HR1_3);rintro e w5 ⟨rfl,hb⟩;refine⟨_,rfl,?_⟩;replace BK1:=eK BK1 hb;replace BK2:=eK BK2 hb;replace BK3:=eK BK3 hb;replace HB:=eB hb;clear hb;have:=n4.out;have:=n5.out;obtain⟨_,_,_,_,_,_,_,_,_,_,_,_⟩:=d6 BK2.out)|(go_at_call 86;(with_reducible refine(impl_ObjectOk.calls k _ _ l1_0 a1_1 a1_2 a1_3 a1_4 a1_5 t2 _ ?side1 HC2_0.out A3.out).mono ?_);(case side1=>exact uZ HR2_0);rintro e w6 ⟨rfl,hb⟩;replace BK1:=eK BK1 hb;replace BK2:=eK BK2 hb;replace BK3:=eK BK3 hb;replace HB:=eB hb;clear hb))
  go_meet
  case rel=>exact⟨_,(!t2),rS,H',⟨oL⟩,⟨bK BK1.out⟩,⟨bK BK2.out⟩,⟨bK BK3.out⟩,⟨uB⟩⟩
 case rest=>
  clear HC3
  obtain⟨kq,x1_2,rfl,HA,HJ1,BK1,BK2,BK3,HB⟩:=hcut
  cases kq with
  |zero=>exact absurd HA.out (by simp[impl_AddToBand.j0])
  |succ kj2=>
   have H:=HA.out
   clear HA
   simp only[impl_AddToBand.j0]at H
   by_cases c2:x1_2=true
   ·subst c2
    rw[if_pos rfl]at H
    obtain⟨⟨t1,t2,t3,t4⟩,A2,H⟩:=bnd H
    dsimp only at H
    simp only[Option.some.injEq,Prod.mk.injEq]at H
    obtain⟨rfl,rfl,rfl,rfl,rfl⟩:=H
    have:=n0.out
    have:=n1.out
    have:=n2.out
    have:=n3.out
    obtain⟨_,_,_,_,_,_,_,_⟩:=d4 BK1.out
    go_wp2_with (first|((with_reducible refine F (f:=88) rfl ?_);refine gl 88 (some 16) func88 #[G #[V I a0_0,V I a0_1,L A0_2 l0_2.length c0_2,L A0_3 l0_3.length c0_3]] ?_;(with_reducible refine(impl_copyBand.calls kj2 a0_0 a0_1 _ _ l0_2 _ _ l0_3 t1 t2 t3 t4 _ ?side1 HC1_2.out ?side3 HC1_3.out A2.out).mono ?_);(case side1=>exact uZ HR1_2);(case side3=>exact uZ HR1_3);rintro e w5 ⟨v1,v2,rfl,ho1,ho2,hb⟩;refine⟨_,rfl,?_⟩;have HO1:=C (Kd.S_lower ho1 (below_size uB));have HO2:=C (Kd.S_lower (Kd.S_newB ho2 (g:=gb2) (o:=.cells #[L A1_0 l1_0.length c1_0,V I a1_1,V I a1_2,V I a1_3,V I a1_4,V I a1_5] 77 (0,0)) (uK BK2.out)) (below_size uB));replace BK1:=eK BK1 hb;replace BK2:=eK BK2 hb;replace BK3:=eK BK3 hb;replace HB:=eB hb;clear hb ho1 ho2;have:=n5.out;have:=n4.out;obtain⟨_,_,_,_,_,_,_,_⟩:=d4 BK3.out;obtain⟨Ao1,co1,eo1⟩:=Kd.S_slice HO1.out;subst eo1;obtain⟨Ao2,co2,eo2⟩:=Kd.S_slice HO2.out;subst eo2))
    refine bodyPost_ret (results_ct rfl _ _ gb3 70 #[V I t1,V I t2,L Ao1 t3.length co1,L Ao2 t4.length co2] (0,0) _ rfl (bK BK3.out) underlying70 rfl (by kernel_rfl)) rfl ?_
    exact⟨_,_,rE,Kd.S_mono (fS (Kd.S_types HO1.out BK3.out (by decide))) (fun _ hk=>trivial),Kd.S_mono (fS (Kd.S_types HO2.out BK3.out (by decide))) (fun _ hk=>trivial),uB⟩
   obtain rfl:=nt c2
   replace H:=nf H
   obtain⟨t1,A2,H⟩:=bnd H
   by_cases c3:t1=true
   rotate_left
   ·obtain rfl:=nt c3
    replace H:=nf H
    obtain⟨⟨t2,t3,t4,t5⟩,A3,H⟩:=bnd H
    dsimp only at H
    simp only[Option.some.injEq,Prod.mk.injEq]at H
    obtain⟨rfl,rfl,rfl,rfl,rfl⟩:=H
    have:=n1.out
    have:=n0.out
    have:=n4.out
    have:=n5.out
    obtain⟨_,_,_,_,_,_,_,_,_,_,_,_⟩:=d6 BK2.out
    have:=n2.out
    have:=n3.out
    obtain⟨_,_,_,_,_,_,_,_⟩:=d4 BK1.out
    go_wp2_with (first|((with_reducible refine F (f:=89) rfl ?_);refine gl 89 (some 22) func89 #[G #[L A1_0 l1_0.length c1_0,V I a1_1,V I a1_2,V I a1_3,V I a1_4,V I a1_5],V I a0_0,V I a0_1] ?_;(with_reducible refine(impl_TouchesBand.calls kj2 _ _ l1_0 a1_1 a1_2 a1_3 a1_4 a1_5 a0_0 a0_1 false _ ?side1 HC2_0.out A2.out).mono ?_);(case side1=>exact uZ HR2_0);rintro e w5 ⟨rfl,hb⟩;refine⟨_,rfl,?_⟩;replace BK1:=eK BK1 hb;replace BK2:=eK BK2 hb;replace BK3:=eK BK3 hb;replace HB:=eB hb;clear hb;obtain⟨_,_,_,_,_,_,_,_⟩:=d4 BK1.out)|((with_reducible refine F (f:=88) rfl ?_);refine gl 88 (some 25) func88 #[G #[V I a0_0,V I a0_1,L A0_2 l0_2.length c0_2,L A0_3 l0_3.length c0_3]] ?_;(with_reducible refine(impl_copyBand.calls kj2 a0_0 a0_1 _ _ l0_2 _ _ l0_3 t2 t3 t4 t5 _ ?side1 HC1_2.out ?side3 HC1_3.out A3.out).mono ?_);(case side1=>exact uZ HR1_2);(case side3=>exact uZ HR1_3);rintro e w6 ⟨v1,v2,rfl,ho1,ho2,hb⟩;refine⟨_,rfl,?_⟩;have HO1:=C (Kd.S_lower ho1 (below_size uB));have HO2:=C (Kd.S_lower (Kd.S_newB ho2 (g:=gb2) (o:=.cells #[L A1_0 l1_0.length c1_0,V I a1_1,V I a1_2,V I a1_3,V I a1_4,V I a1_5] 77 (0,0)) (uK BK2.out)) (below_size uB));replace BK1:=eK BK1 hb;replace BK2:=eK BK2 hb;replace BK3:=eK BK3 hb;replace HB:=eB hb;clear hb ho1 ho2;obtain⟨_,_,_,_,_,_,_,_⟩:=d4 BK3.out;obtain⟨Ao1,co1,eo1⟩:=Kd.S_slice HO1.out;subst eo1;obtain⟨Ao2,co2,eo2⟩:=Kd.S_slice HO2.out;subst eo2))
    refine bodyPost_ret (results_ct rfl _ _ gb3 70 #[V I t2,V I t3,L Ao1 t4.length co1,L Ao2 t5.length co2] (0,0) _ rfl (bK BK3.out) underlying70 rfl (by kernel_rfl)) rfl ?_
    exact⟨_,_,rE,Kd.S_mono (fS (Kd.S_types HO1.out BK3.out (by decide))) (fun _ hk=>trivial),Kd.S_mono (fS (Kd.S_types HO2.out BK3.out (by decide))) (fun _ hk=>trivial),uB⟩
   subst c3
   rw[if_pos rfl]at H
   obtain⟨⟨t2,t3,t4,t5⟩,A3,H⟩:=bnd H
   dsimp only at H
   obtain⟨t6,A4,H⟩:=bnd H
   by_cases c4:(wrap64 ((wrap64 (t6+2))+(l1_0.length:Int))) >60
   rotate_left
   ·rw[if_neg c4]at H
    replace c4:=decide_eq_false c4
    obtain⟨⟨t7,t8,t9,t10,t11,t12⟩,A5,H⟩:=bnd H
    dsimp only at H
    obtain⟨c5,H⟩:=np H
    have LMc1:=C c5
    clear c5
    obtain⟨y1,hy1⟩:∃y_:List (S77),y_=(t5++ [(⟨t7,t8,(⟨t9,t10,t11,t12⟩:S75)⟩:S77)]):=⟨_,rfl⟩
    replace H:(some (t2,t3,t4,y1,true))=some (r1,r2,r3,r4,r5):=gy hy1 H
    have Ny1:=C hy1
    clear hy1
    simp only[Option.some.injEq,Prod.mk.injEq]at H
    obtain⟨rfl,rfl,rfl,rfl,rfl⟩:=H
    have:=n1.out
    have:=n0.out
    have:=n4.out
    have:=n5.out
    obtain⟨_,_,_,_,_,_,_,_,_,_,_,_⟩:=d6 BK2.out
    have:=n2.out
    have:=n3.out
    obtain⟨_,_,_,_,_,_,_,_⟩:=d4 BK1.out
    try go_wp2_with (first|((with_reducible refine F (f:=89) rfl ?_);refine gl 89 (some 22) func89 #[G #[L A1_0 l1_0.length c1_0,V I a1_1,V I a1_2,V I a1_3,V I a1_4,V I a1_5],V I a0_0,V I a0_1] ?_;(with_reducible refine(impl_TouchesBand.calls kj2 _ _ l1_0 a1_1 a1_2 a1_3 a1_4 a1_5 a0_0 a0_1 true _ ?side1 HC2_0.out A2.out).mono ?_);(case side1=>exact uZ HR2_0);rintro e w5 ⟨rfl,hb⟩;refine⟨_,rfl,?_⟩;replace BK1:=eK BK1 hb;replace BK2:=eK BK2 hb;replace BK3:=eK BK3 hb;replace HB:=eB hb;clear hb;obtain⟨_,_,_,_,_,_,_,_⟩:=d4 BK1.out)|((with_reducible refine F (f:=88) rfl ?_);refine gl 88 (some 27) func88 #[G #[V I a0_0,V I a0_1,L A0_2 l0_2.length c0_2,L A0_3 l0_3.length c0_3]] ?_;(with_reducible refine(impl_copyBand.calls kj2 a0_0 a0_1 _ _ l0_2 _ _ l0_3 t2 t3 t4 t5 _ ?side1 HC1_2.out ?side3 HC1_3.out A3.out).mono ?_);(case side1=>exact uZ HR1_2);(case side3=>exact uZ HR1_3);rintro e w6 ⟨v1,v2,rfl,ho1,ho2,hb⟩;refine⟨_,rfl,?_⟩;have HO1:=C (Kd.S_lower ho1 (below_size uB));have HO2:=C (Kd.S_lower (Kd.S_newB ho2 (g:=gb2) (o:=.cells #[L A1_0 l1_0.length c1_0,V I a1_1,V I a1_2,V I a1_3,V I a1_4,V I a1_5] 77 (0,0)) (uK BK2.out)) (below_size uB));replace BK1:=eK BK1 hb;replace BK2:=eK BK2 hb;replace BK3:=eK BK3 hb;replace HB:=eB hb;clear hb ho1 ho2)|((with_reducible refine gate_dst (N:=6) rfl ?_);refine Fix.be 6 #[V I 0,V I 0,L none 0 0,L none 0 0] 70 ?_;intro gb4 hg w7 BK4 hb;have GW4:=gE (w:=w) hg;have GE4:=GW4;have n6:=nL hg BK1;have n7:=nG hg BK1;have n8:=nL hg BK2;have n9:=nG hg BK2;have n10:=nL hg BK3;have n11:=nG hg BK3;replace HO1:=eS HO1 hb;replace HO2:=eS HO2 hb;replace BK1:=eK BK1 hb;replace BK2:=eK BK2 hb;replace BK3:=eK BK3 hb;replace HB:=eB hb;clear hb hg;have:=n7.out;have:=n6.out;have:=n9.out;have:=n8.out;have:=n11.out;have:=n10.out;obtain⟨_,_,_,_,_,_,_,_⟩:=d4 BK4.out;obtain⟨Ao1,co1,eo1⟩:=Kd.S_slice HO1.out;subst eo1;obtain⟨Ao2,co2,eo2⟩:=Kd.S_slice HO2.out;subst eo2))
    obtain⟨w8,hw⟩:∃w_,w_=(((w7.setCell ⟨gb4,0,none⟩ (V I t2)).setCell ⟨gb4,1,none⟩ (V I t3)).setCell ⟨gb4,2,none⟩ (L Ao1 t4.length co1)).setCell ⟨gb4,3,none⟩ (L Ao2 t5.length co2):=⟨_,rfl⟩
    (try rw[←hw])
    replace HO1:D (Kd.S (Kd.slice 3 (Kd.int .i64)) 39 w8 w.heap.size (fun _=>True) (L Ao1 t4.length co1) t4):=⟨(by rw[hw];exact(Kd.S_mono (fS (Kd.S_types HO1.out BK4.out (by decide))) (fun _ hk=>trivial)))⟩
    replace HO2:D (Kd.S k77 77 w8 w.heap.size (fun k_=>k_≠gb2) (L Ao2 t5.length co2) t5):=⟨(by rw[hw];exact(Kd.S_mono (fS (Kd.S_types HO2.out BK4.out (by decide))) (fun _ hk=>hk.1.2)))⟩
    replace BK1:=wK hw BK1
    replace BK2:=wK hw BK2
    replace BK3:=wK hw BK3
    replace BK4:D (w8.heap[gb4]? =some (.cells #[V I t2,V I t3,L Ao1 t4.length co1,L Ao2 t5.length co2] 70 (0,0))):=⟨(by rw[hw];exact(bK BK4.out))⟩
    replace HB:=wB hw
    clear hw
    replace HO1:=C (Kd.S_drew HO1.out)
    replace HO2:=C (Kd.S_drew HO2.out)
    replace BK1:=dK BK1
    replace BK2:=dK BK2
    replace BK3:=dK BK3
    replace BK4:=dK BK4
    replace HB:=dB HB
    refine start_ (n:=8) (S:=fun w'=>cr4 w' gb1 (V I a0_0) (V I a0_1) (L A0_2 l0_2.length c0_2) (L A0_3 l0_3.length c0_3) (cl6 w' gb2 (L A1_0 l1_0.length c1_0) (V I a1_1) (V I a1_2) (V I a1_3) (V I a1_4) (V I a1_5))) (ds:= []) #[false,false,false,false,false,false,false,false] (by kernel_rfl) rfl rfl hh (fun hHeld=> ?_);refine with_tabW impl_AddToBand.tab6 impl_AddToBand.bits6 (fun HT_ HW_=> ?_)
    generalize w8.drew=w9 at HO1 HO2 BK1 BK2 BK3 BK4 HB hHeld ⊢
    refine pu 3 (some 31) ?_
    refine tu 0 (some 28) hHeld ?_
    refine tu 4 (some 32) hHeld ?_
    refine pu 5 (some 33) ?_
    refine ou 1 (some 29) (fun K hK=> ?_)
    refine gs func90 #[G #[V I a0_0,V I a0_1,L A0_2 l0_2.length c0_2,L A0_3 l0_3.length c0_3]] ?_
    with_reducible refine(impl_BandCells.calls kj2 a0_0 a0_1 _ _ l0_2 _ _ l0_3 t6 _ ?side1 HC1_2.out ?side3 HC1_3.out A4.out).mono ?_
    (case side1=>exact uZ HR1_2)
    (case side3=>exact uZ HR1_3)
    rintro e w10 ⟨rfl,hb⟩
    refine⟨_,rfl,?_⟩
    replace HO1:=eS HO1 hb
    replace HO2:=eS HO2 hb
    replace BK1:=eK BK1 hb
    replace BK2:=eK BK2 hb
    replace BK3:=eK BK3 hb
    replace BK4:=eK BK4 hb
    replace HB:=eB hb
    (try clear hb)
    refine hK.out _ _ hh (fun hHeld=> ?_)
    clear hK K
    refine nu (N:=(some 29)) ?_
    refine pu 2 (some 30) ?_
    refine pu 6 (some 34) ?_
    refine pu 7 (some 35) ?_
    refine done_ (done_of HT_.out (by kernel_rfl)) ?_
    try go_wp2
    replace HO1:=C (Kd.S_drew HO1.out)
    replace HO2:=C (Kd.S_drew HO2.out)
    replace BK1:=dK BK1
    replace BK2:=dK BK2
    replace BK3:=dK BK3
    replace BK4:=dK BK4
    replace HB:=dB HB
    refine start_ (n:=8) (S:=fun w'=>cr4 w' gb4 (V I t2) (V I t3) (L Ao1 t4.length co1) (L Ao2 t5.length co2) (cl6 w' gb2 (L A1_0 l1_0.length c1_0) (V I a1_1) (V I a1_2) (V I a1_3) (V I a1_4) (V I a1_5))) (ds:= [7]) #[false,false,false,false,false,false,false,false] (by kernel_rfl) rfl rfl hh (fun hHeld=> ?_);refine with_tabW impl_AddToBand.tab8 impl_AddToBand.bits8 (fun HT_ HW_=> ?_)
    generalize w10.drew=w11 at HO1 HO2 BK1 BK2 BK3 BK4 HB hHeld ⊢
    refine pu 0 (some 38) ?_
    refine tu 1 (some 39) hHeld ?_
    refine tu 2 (some 40) hHeld ?_
    refine ou 3 (some 41) (fun K hK=> ?_)
    refine gs func92 #[G #[L A1_0 l1_0.length c1_0,V I a1_1,V I a1_2,V I a1_3,V I a1_4,V I a1_5]] ?_
    with_reducible refine(impl_copyObject.calls _ _ l1_0 a1_1 a1_2 a1_3 a1_4 a1_5 t7 t8 t9 t10 t11 t12 _ ?side1 HC2_0.out A5.out).mono ?_
    (case side1=>exact uZ HR2_0)
    rintro e w12 ⟨v3,rfl,ho1,hb⟩
    refine⟨_,rfl,?_⟩
    have HO3:=lR ho1
    replace HO1:=eS HO1 hb
    replace HO2:=C (Kd.S_elder' (uS HO2.out) (Kd.R_base ho1) hb)
    replace BK1:=eK BK1 hb
    replace BK2:=eK BK2 hb
    replace BK3:=eK BK3 hb
    replace BK4:=eK BK4 hb
    replace HB:=eB hb
    (try clear hb)
    obtain⟨Ao3,co3,eo3⟩:=Kd.R_slice HO3.out
    (first|subst eo3|(injection eo3 with f1_ f2_ f3_;have f4_:=f1_.symm;have f5_:=f3_.symm;clear f1_ f2_ f3_;subst f4_;subst f5_))
    refine hK.out _ _ hh (fun hHeld=> ?_)
    clear hK K
    refine nu (N:=(some 41)) ?_
    refine ou 4 (some 42) (fun K hK=> ?_)
    refine value_ (w1:= ?_) (v:= ?_) (by rfl) rfl ?_ ?_
    rotate_left 2
    ·go_simp
     constructor
     ·rfl
     ·rfl
    refine hK.out _ _ ⟨(blk_cell (blk_alloc BK4.out _) 0).trans rfl,(blk_cell (blk_alloc BK4.out _) 1).trans rfl,(blk_cell (blk_alloc BK4.out _) 2).trans rfl,(blk_cell (blk_alloc BK4.out _) 3).trans rfl,(blk_cell (blk_alloc BK2.out _) 0).trans rfl,(blk_cell (blk_alloc BK2.out _) 1).trans rfl,(blk_cell (blk_alloc BK2.out _) 2).trans rfl,(blk_cell (blk_alloc BK2.out _) 3).trans rfl,(blk_cell (blk_alloc BK2.out _) 4).trans rfl,(blk_cell (blk_alloc BK2.out _) 5).trans rfl⟩ (fun hHeld=> ?_)
    clear hK K
    refine nu (N:=(some 42)) ?_
    refine ou 5 (some 43) (fun K hK=> ?_)
    refine Kd.S_append_step k77 (w0:=w) w.heap.size (by rfl) (.tmp 39) (.tmp 42) 42 77 (G #[(L none 0 0),(V I 0),(V I 0),(V I 0),(V I 0),(V I 0)]) 64 rfl underlying42 info77 rfl (by decide) (by omega) (L Ao2 t5.length co2) t5 (⟨t7,t8,(⟨t9,t10,t11,t12⟩:S75)⟩:S77) [L Ao3 t7.length co3,V I t8,V I t9,V I t10,V I t11,V I t12] (fun k_=>k_≠gb2) (fun k_=>some k_=(L Ao3 t7.length co3:Value).ownBlock) rfl rfl ?aP (fun k_ hk_=>((X (ok':=fun k_=>((fun k_=>k_≠gb2)) k_∧qn k_ Ao2 t5.length co2) (Kd.R_types (Kd.R_apart' (HO3.out) (Kd.S_typed HO2.out) (by decide)) BK2.out (by decide)) (fun k_ hk=>⟨hk.2,hk.1.2⟩))).1 k_ hk_.symm) ?aF ?aO ?aB ?aS ?aL ?_
    (case aP=>exact k77_mkM _ _ _ (⟨t7,t8,(⟨t9,t10,t11,t12⟩:S75)⟩:S77) (X (Kd.R_tight rfl (X (ok':=fun k_=>((fun k_=>k_≠gb2)) k_∧qn k_ Ao2 t5.length co2) (Kd.R_types (Kd.R_apart' (HO3.out) (Kd.S_typed HO2.out) (by decide)) BK2.out (by decide)) (fun k_ hk=>⟨hk.2,hk.1.2⟩))) (fun _ h_=>h_)))
    (case aB=>exact uB)
    (case aF=>exact(fun k_ hk=>Kd.freshB (g:=gb2) (o:=.cells #[L A1_0 l1_0.length c1_0,V I a1_1,V I a1_2,V I a1_3,V I a1_4,V I a1_5] 77 (0,0)) (uK BK2.out) k_ hk))
    (case aO=>exact(Kd.S_mono (fS HO2.out) (fun k_ hk=>⟨hk.1,fun e_=>hk.2 e_⟩)))
    (case aS=>exact(below_size uB))
    (case aL=>have:=LMc1.out;omega)
    intro v4 w13 ho hb hg hat
    rw[←Ny1.out]at ho
    have HO4:=C (ho)
    replace BK1:=gK BK1 hg (Kd.S_ne HO2.out BK1.out (by decide))
    replace BK2:=gK BK2 hg (Kd.S_away HO2.out (fun _ hk=>hk.1))
    replace BK3:=gK BK3 hg (Kd.S_ne HO2.out BK3.out (by decide))
    replace HO1:=C (Kd.S_over' (uS HO1.out) (Kd.S_typed (uS HO2.out)) (by decide) hg)
    replace BK4:=gK BK4 hg (Kd.S_ne HO2.out BK4.out (by decide))
    replace HB:=C (hb)
    clear HO2
    clear HO3
    clear ho hb hg hat
    obtain⟨Ao4,co4,eo4⟩:=Kd.S_slice HO4.out
    (first|subst eo4|(injection eo4 with f1_ f2_ f3_;have f4_:=f1_.symm;have f5_:=f3_.symm;clear f1_ f2_ f3_;subst f4_;subst f5_))
    refine hK.out _ _ hh (fun hHeld=> ?_)
    clear hK K
    refine nu (N:=(some 43)) ?_
    refine pu 6 (some 44) ?_
    refine last_ (i:=7) (N:=none) #[true,true,true,true,true,true,true,true] rfl rfl (one_of HT_.out (by kernel_rfl)) (by decide) (fun K hK=> ?_)
    have hs1:w13.cell? ⟨gb4,3,none⟩=some (L Ao2 t5.length co2):=(blk_cell BK4.out 3).trans rfl
    have hfs1:=blk_frozen BK4.out 3
    have hns1_0:=n6.out
    have hns1_1:=n8.out
    have hns1_2:=n10.out
    have hms1_0:=n7.out
    have hms1_1:=n9.out
    have hms1_2:=n11.out
    refine skip_ (w1:= ?_) (by rfl) rfl ?_ ?_
    rotate_left
    ·go_simp
     rfl
    refine hK.out _ _ ?_
    clear hK K
    refine done_ (done_of HT_.out (by kernel_rfl)) ?_
    obtain⟨_,_,_,_,_,_,_,_⟩:=d4 BK4.out
    obtain⟨_,_,_,_,_,_,_,_⟩:=d4 BK3.out
    try go_wp2
    refine bodyPost_ret (results_ct rfl _ _ gb3 70 #[V I t2,V I t3,L Ao1 t4.length co1,L Ao4 y1.length co4] (0,0) _ rfl (bK BK3.out) underlying70 rfl (by kernel_rfl)) rfl ?_
    exact⟨_,_,rE,Kd.S_mono (fS (Kd.S_types (Kd.S_types HO1.out BK4.out (by decide)) BK3.out (by decide))) (fun _ hk=>trivial),Kd.S_mono (fS (Kd.S_types (Kd.S_types HO4.out BK4.out (by decide)) BK3.out (by decide))) (fun _ hk=>trivial),uB⟩
   rw[if_pos c4]at H
   replace c4:=decide_eq_true c4
   obtain⟨⟨t7,t8,t9,t10⟩,A5,H⟩:=bnd H
   dsimp only at H
   obtain⟨⟨t11,t12,t13,t14,t15,t16⟩,A6,H⟩:=bnd H
   dsimp only at H
   obtain⟨c5,H⟩:=np H
   have LMc1:=C c5
   clear c5
   obtain⟨y1,hy1⟩:∃y_:List (S77),y_=(t10++ [(⟨t11,t12,(⟨t13,t14,t15,t16⟩:S75)⟩:S77)]):=⟨_,rfl⟩
   replace H:(some (t7,t8,t9,y1,true))=some (r1,r2,r3,r4,r5):=gy hy1 H
   have Ny1:=C hy1
   clear hy1
   simp only[Option.some.injEq,Prod.mk.injEq]at H
   obtain⟨rfl,rfl,rfl,rfl,rfl⟩:=H
   have:=n1.out
   have:=n0.out
   have:=n4.out
   have:=n5.out
   obtain⟨_,_,_,_,_,_,_,_,_,_,_,_⟩:=d6 BK2.out
   have:=n2.out
   have:=n3.out
   obtain⟨_,_,_,_,_,_,_,_⟩:=d4 BK1.out
   try go_wp2_with (first|((with_reducible refine F (f:=89) rfl ?_);refine gl 89 (some 22) func89 #[G #[L A1_0 l1_0.length c1_0,V I a1_1,V I a1_2,V I a1_3,V I a1_4,V I a1_5],V I a0_0,V I a0_1] ?_;(with_reducible refine(impl_TouchesBand.calls kj2 _ _ l1_0 a1_1 a1_2 a1_3 a1_4 a1_5 a0_0 a0_1 true _ ?side1 HC2_0.out A2.out).mono ?_);(case side1=>exact uZ HR2_0);rintro e w5 ⟨rfl,hb⟩;refine⟨_,rfl,?_⟩;replace BK1:=eK BK1 hb;replace BK2:=eK BK2 hb;replace BK3:=eK BK3 hb;replace HB:=eB hb;clear hb;obtain⟨_,_,_,_,_,_,_,_⟩:=d4 BK1.out)|((with_reducible refine F (f:=88) rfl ?_);refine gl 88 (some 27) func88 #[G #[V I a0_0,V I a0_1,L A0_2 l0_2.length c0_2,L A0_3 l0_3.length c0_3]] ?_;(with_reducible refine(impl_copyBand.calls kj2 a0_0 a0_1 _ _ l0_2 _ _ l0_3 t2 t3 t4 t5 _ ?side1 HC1_2.out ?side3 HC1_3.out A3.out).mono ?_);(case side1=>exact uZ HR1_2);(case side3=>exact uZ HR1_3);rintro e w6 ⟨v1,v2,rfl,ho1,ho2,hb⟩;refine⟨_,rfl,?_⟩;have HO1:=C (Kd.S_lower ho1 (below_size uB));have HO2:=C (Kd.S_lower (Kd.S_newB ho2 (g:=gb2) (o:=.cells #[L A1_0 l1_0.length c1_0,V I a1_1,V I a1_2,V I a1_3,V I a1_4,V I a1_5] 77 (0,0)) (uK BK2.out)) (below_size uB));replace BK1:=eK BK1 hb;replace BK2:=eK BK2 hb;replace BK3:=eK BK3 hb;replace HB:=eB hb;clear hb ho1 ho2)|((with_reducible refine gate_dst (N:=6) rfl ?_);refine Fix.be 6 #[V I 0,V I 0,L none 0 0,L none 0 0] 70 ?_;intro gb4 hg w7 BK4 hb;have GW4:=gE (w:=w) hg;have GE4:=GW4;have n6:=nL hg BK1;have n7:=nG hg BK1;have n8:=nL hg BK2;have n9:=nG hg BK2;have n10:=nL hg BK3;have n11:=nG hg BK3;replace HO1:=eS HO1 hb;replace HO2:=eS HO2 hb;replace BK1:=eK BK1 hb;replace BK2:=eK BK2 hb;replace BK3:=eK BK3 hb;replace HB:=eB hb;clear hb hg;have:=n7.out;have:=n6.out;have:=n9.out;have:=n8.out;have:=n11.out;have:=n10.out;obtain⟨_,_,_,_,_,_,_,_⟩:=d4 BK4.out;obtain⟨Ao1,co1,eo1⟩:=Kd.S_slice HO1.out;subst eo1;obtain⟨Ao2,co2,eo2⟩:=Kd.S_slice HO2.out;subst eo2))
   obtain⟨w8,hw⟩:∃w_,w_=(((w7.setCell ⟨gb4,0,none⟩ (V I t2)).setCell ⟨gb4,1,none⟩ (V I t3)).setCell ⟨gb4,2,none⟩ (L Ao1 t4.length co1)).setCell ⟨gb4,3,none⟩ (L Ao2 t5.length co2):=⟨_,rfl⟩
   (try rw[←hw])
   replace HO1:D (Kd.S (Kd.slice 3 (Kd.int .i64)) 39 w8 w.heap.size (fun _=>True) (L Ao1 t4.length co1) t4):=⟨(by rw[hw];exact(Kd.S_mono (fS (Kd.S_types HO1.out BK4.out (by decide))) (fun _ hk=>trivial)))⟩
   replace HO2:D (Kd.S k77 77 w8 w.heap.size (fun k_=>k_≠gb2) (L Ao2 t5.length co2) t5):=⟨(by rw[hw];exact(Kd.S_mono (fS (Kd.S_types HO2.out BK4.out (by decide))) (fun _ hk=>hk.1.2)))⟩
   replace BK1:=wK hw BK1
   replace BK2:=wK hw BK2
   replace BK3:=wK hw BK3
   replace BK4:D (w8.heap[gb4]? =some (.cells #[V I t2,V I t3,L Ao1 t4.length co1,L Ao2 t5.length co2] 70 (0,0))):=⟨(by rw[hw];exact(bK BK4.out))⟩
   replace HB:=wB hw
   clear hw
   replace HO1:=C (Kd.S_drew HO1.out)
   replace HO2:=C (Kd.S_drew HO2.out)
   replace BK1:=dK BK1
   replace BK2:=dK BK2
   replace BK3:=dK BK3
   replace BK4:=dK BK4
   replace HB:=dB HB
   refine start_ (n:=8) (S:=fun w'=>cr4 w' gb1 (V I a0_0) (V I a0_1) (L A0_2 l0_2.length c0_2) (L A0_3 l0_3.length c0_3) (cl6 w' gb2 (L A1_0 l1_0.length c1_0) (V I a1_1) (V I a1_2) (V I a1_3) (V I a1_4) (V I a1_5))) (ds:= []) #[false,false,false,false,false,false,false,false] (by kernel_rfl) rfl rfl hh (fun hHeld=> ?_);refine with_tabW impl_AddToBand.tab6 impl_AddToBand.bits6 (fun HT_ HW_=> ?_)
   generalize w8.drew=w9 at HO1 HO2 BK1 BK2 BK3 BK4 HB hHeld ⊢
   refine pu 3 (some 31) ?_
   refine tu 0 (some 28) hHeld ?_
   refine tu 4 (some 32) hHeld ?_
   refine pu 5 (some 33) ?_
   refine ou 1 (some 29) (fun K hK=> ?_)
   refine gs func90 #[G #[V I a0_0,V I a0_1,L A0_2 l0_2.length c0_2,L A0_3 l0_3.length c0_3]] ?_
   with_reducible refine(impl_BandCells.calls kj2 a0_0 a0_1 _ _ l0_2 _ _ l0_3 t6 _ ?side1 HC1_2.out ?side3 HC1_3.out A4.out).mono ?_
   (case side1=>exact uZ HR1_2)
   (case side3=>exact uZ HR1_3)
   rintro e w10 ⟨rfl,hb⟩
   refine⟨_,rfl,?_⟩
   replace HO1:=eS HO1 hb
   replace HO2:=eS HO2 hb
   replace BK1:=eK BK1 hb
   replace BK2:=eK BK2 hb
   replace BK3:=eK BK3 hb
   replace BK4:=eK BK4 hb
   replace HB:=eB hb
   (try clear hb)
   refine hK.out _ _ hh (fun hHeld=> ?_)
   clear hK K
   refine nu (N:=(some 29)) ?_
   refine pu 2 (some 30) ?_
   refine pu 6 (some 34) ?_
   refine pu 7 (some 35) ?_
   refine done_ (done_of HT_.out (by kernel_rfl)) ?_
   obtain⟨_,_,_,_,_,_,_,_⟩:=d4 BK1.out
   try go_wp2_with (first|((with_reducible refine F (f:=91) rfl ?_);refine gl 91 (some 37) func91 #[G #[V I a0_0,V I a0_1,L A0_2 l0_2.length c0_2,L A0_3 l0_3.length c0_3]] ?_;(with_reducible refine(impl_MergeBand.calls kj2 a0_0 a0_1 _ _ l0_2 _ _ l0_3 t7 t8 t9 t10 _ ?side1 HC1_2.out ?side3 HC1_3.out A5.out).mono ?_);(case side1=>exact uZ HR1_2);(case side3=>exact uZ HR1_3);rintro e w11 ⟨v3,v4,rfl,ho1,ho2,hb⟩;refine⟨_,rfl,?_⟩;have HO3:=C (Kd.S_lower (Kd.S_new' ho1 (Kd.S_lt (uS HO1.out))) (below_size uB));have HO4:=C (Kd.S_lower (Kd.S_newB (Kd.S_new' ho2 (Kd.S_lt (uS HO2.out))) (g:=gb2) (o:=.cells #[L A1_0 l1_0.length c1_0,V I a1_1,V I a1_2,V I a1_3,V I a1_4,V I a1_5] 77 (0,0)) (uK BK2.out)) (below_size uB));replace HO1:=C (Kd.S_elder' (uS HO1.out) (Kd.S_base ho1) hb);replace HO2:=C (Kd.S_elder' (uS HO2.out) (Kd.S_base ho2) hb);replace BK1:=eK BK1 hb;replace BK2:=eK BK2 hb;replace BK3:=eK BK3 hb;replace BK4:=eK BK4 hb;replace HB:=eB hb;clear hb ho1 ho2;obtain⟨_,_,_,_,_,_,_,_⟩:=d4 BK4.out;obtain⟨Ao3,co3,eo3⟩:=Kd.S_slice HO3.out;subst eo3;obtain⟨Ao4,co4,eo4⟩:=Kd.S_slice HO4.out;subst eo4))
   obtain⟨w12,hw⟩:∃w_,w_=(((w11.setCell ⟨gb4,0,none⟩ (V I t7)).setCell ⟨gb4,1,none⟩ (V I t8)).setCell ⟨gb4,2,none⟩ (L Ao3 t9.length co3)).setCell ⟨gb4,3,none⟩ (L Ao4 t10.length co4):=⟨_,rfl⟩
   (try rw[←hw])
   replace HO1:D (Kd.S (Kd.slice 3 (Kd.int .i64)) 39 w12 w.heap.size (fun k_=>qn k_ Ao3 t9.length co3) (L Ao1 t4.length co1) t4):=⟨(by rw[hw];exact(Kd.S_mono (fS (Kd.S_types HO1.out BK4.out (by decide))) (fun _ hk=>hk.1.2)))⟩
   replace HO2:D (Kd.S k77 77 w12 w.heap.size (fun k_=>qn k_ Ao4 t10.length co4∧k_≠gb2) (L Ao2 t5.length co2) t5):=⟨(by rw[hw];exact(Kd.S_mono (fS (Kd.S_types HO2.out BK4.out (by decide))) pj))⟩
   replace HO3:D (Kd.S (Kd.slice 3 (Kd.int .i64)) 39 w12 w.heap.size (fun k_=>qn k_ Ao1 t4.length co1) (L Ao3 t9.length co3) t9):=⟨(by rw[hw];exact(Kd.S_mono (fS (Kd.S_types HO3.out BK4.out (by decide))) (fun _ hk=>hk.1.2)))⟩
   replace HO4:D (Kd.S k77 77 w12 w.heap.size (fun k_=>qn k_ Ao2 t5.length co2∧k_≠gb2) (L Ao4 t10.length co4) t10):=⟨(by rw[hw];exact(Kd.S_mono (fS (Kd.S_types HO4.out BK4.out (by decide))) pj))⟩
   replace BK1:=wK hw BK1
   replace BK2:=wK hw BK2
   replace BK3:=wK hw BK3
   replace BK4:D (w12.heap[gb4]? =some (.cells #[V I t7,V I t8,L Ao3 t9.length co3,L Ao4 t10.length co4] 70 (0,0))):=⟨(by rw[hw];exact(bK BK4.out))⟩
   replace HB:=wB hw
   clear hw
   replace HO1:=C (Kd.S_drew HO1.out)
   replace HO2:=C (Kd.S_drew HO2.out)
   replace HO3:=C (Kd.S_drew HO3.out)
   replace HO4:=C (Kd.S_drew HO4.out)
   replace BK1:=dK BK1
   replace BK2:=dK BK2
   replace BK3:=dK BK3
   replace BK4:=dK BK4
   replace HB:=dB HB
   refine start_ (n:=8) (S:=fun w'=>cr4 w' gb4 (V I t7) (V I t8) (L Ao3 t9.length co3) (L Ao4 t10.length co4) (cl6 w' gb2 (L A1_0 l1_0.length c1_0) (V I a1_1) (V I a1_2) (V I a1_3) (V I a1_4) (V I a1_5))) (ds:= [7]) #[false,false,false,false,false,false,false,false] (by kernel_rfl) rfl rfl hh (fun hHeld=> ?_);refine with_tabW impl_AddToBand.tab8 impl_AddToBand.bits8 (fun HT_ HW_=> ?_)
   generalize w12.drew=w13 at HO1 HO2 HO3 HO4 BK1 BK2 BK3 BK4 HB hHeld ⊢
   refine pu 0 (some 38) ?_
   refine tu 1 (some 39) hHeld ?_
   refine tu 2 (some 40) hHeld ?_
   refine ou 3 (some 41) (fun K hK=> ?_)
   refine gs func92 #[G #[L A1_0 l1_0.length c1_0,V I a1_1,V I a1_2,V I a1_3,V I a1_4,V I a1_5]] ?_
   with_reducible refine(impl_copyObject.calls _ _ l1_0 a1_1 a1_2 a1_3 a1_4 a1_5 t11 t12 t13 t14 t15 t16 _ ?side1 HC2_0.out A6.out).mono ?_
   (case side1=>exact uZ HR2_0)
   rintro e w14 ⟨v5,rfl,ho1,hb⟩
   refine⟨_,rfl,?_⟩
   have HO5:=lR ho1
   replace HO1:=eS HO1 hb
   replace HO2:=C (Kd.S_elder' (uS HO2.out) (Kd.R_base ho1) hb)
   replace HO3:=eS HO3 hb
   replace HO4:=C (Kd.S_elder' (uS HO4.out) (Kd.R_base ho1) hb)
   replace BK1:=eK BK1 hb
   replace BK2:=eK BK2 hb
   replace BK3:=eK BK3 hb
   replace BK4:=eK BK4 hb
   replace HB:=eB hb
   (try clear hb)
   obtain⟨Ao5,co5,eo5⟩:=Kd.R_slice HO5.out
   (first|subst eo5|(injection eo5 with f1_ f2_ f3_;have f4_:=f1_.symm;have f5_:=f3_.symm;clear f1_ f2_ f3_;subst f4_;subst f5_))
   refine hK.out _ _ hh (fun hHeld=> ?_)
   clear hK K
   refine nu (N:=(some 41)) ?_
   refine ou 4 (some 42) (fun K hK=> ?_)
   refine value_ (w1:= ?_) (v:= ?_) (by rfl) rfl ?_ ?_
   rotate_left 2
   ·go_simp
    constructor
    ·rfl
    ·rfl
   refine hK.out _ _ ⟨(blk_cell (blk_alloc BK4.out _) 0).trans rfl,(blk_cell (blk_alloc BK4.out _) 1).trans rfl,(blk_cell (blk_alloc BK4.out _) 2).trans rfl,(blk_cell (blk_alloc BK4.out _) 3).trans rfl,(blk_cell (blk_alloc BK2.out _) 0).trans rfl,(blk_cell (blk_alloc BK2.out _) 1).trans rfl,(blk_cell (blk_alloc BK2.out _) 2).trans rfl,(blk_cell (blk_alloc BK2.out _) 3).trans rfl,(blk_cell (blk_alloc BK2.out _) 4).trans rfl,(blk_cell (blk_alloc BK2.out _) 5).trans rfl⟩ (fun hHeld=> ?_)
   clear hK K
   refine nu (N:=(some 42)) ?_
   refine ou 5 (some 43) (fun K hK=> ?_)
   refine Kd.S_append_step k77 (w0:=w) w.heap.size (by rfl) (.tmp 39) (.tmp 42) 42 77 (G #[(L none 0 0),(V I 0),(V I 0),(V I 0),(V I 0),(V I 0)]) 64 rfl underlying42 info77 rfl (by decide) (by omega) (L Ao4 t10.length co4) t10 (⟨t11,t12,(⟨t13,t14,t15,t16⟩:S75)⟩:S77) [L Ao5 t11.length co5,V I t12,V I t13,V I t14,V I t15,V I t16] (fun k_=>qn k_ Ao2 t5.length co2∧k_≠gb2) (fun k_=>some k_=(L Ao5 t11.length co5:Value).ownBlock) rfl rfl ?aP (fun k_ hk_=>((X (ok':=fun k_=>((fun k_=>qn k_ Ao2 t5.length co2∧k_≠gb2)) k_∧qn k_ Ao4 t10.length co4) (Kd.R_types (Kd.R_apart' (Kd.R_apart' (HO5.out) (Kd.S_typed HO2.out) (by decide)) (Kd.S_typed HO4.out) (by decide)) BK2.out (by decide)) (fun k_ hk=>⟨⟨hk.1.1.2,hk.2⟩,hk.1.2⟩))).1 k_ hk_.symm) ?aF ?aO ?aB ?aS ?aL ?_
   (case aP=>exact k77_mkM _ _ _ (⟨t11,t12,(⟨t13,t14,t15,t16⟩:S75)⟩:S77) (X (Kd.R_tight rfl (X (ok':=fun k_=>((fun k_=>qn k_ Ao2 t5.length co2∧k_≠gb2)) k_∧qn k_ Ao4 t10.length co4) (Kd.R_types (Kd.R_apart' (Kd.R_apart' (HO5.out) (Kd.S_typed HO2.out) (by decide)) (Kd.S_typed HO4.out) (by decide)) BK2.out (by decide)) (fun k_ hk=>⟨⟨hk.1.1.2,hk.2⟩,hk.1.2⟩))) (fun _ h_=>h_)))
   (case aB=>exact uB)
   (case aF=>exact(fun k_ hk=>⟨Kd.fresh' (Kd.S_lt (uS HO2.out)) k_ hk,Kd.freshB (g:=gb2) (o:=.cells #[L A1_0 l1_0.length c1_0,V I a1_1,V I a1_2,V I a1_3,V I a1_4,V I a1_5] 77 (0,0)) (uK BK2.out) k_ hk⟩))
   (case aO=>exact(Kd.S_mono (fS HO4.out) (fun k_ hk=>⟨⟨hk.1.1,hk.1.2⟩,fun e_=>hk.2 e_⟩)))
   (case aS=>exact(below_size uB))
   (case aL=>have:=LMc1.out;omega)
   intro v6 w15 ho hb hg hat
   rw[←Ny1.out]at ho
   have HO6:=C (ho)
   replace BK1:=gK BK1 hg (Kd.S_ne HO4.out BK1.out (by decide))
   replace BK2:=gK BK2 hg (Kd.S_away HO4.out (fun _ hk=>hk.1.2))
   replace BK3:=gK BK3 hg (Kd.S_ne HO4.out BK3.out (by decide))
   replace HO1:=C (Kd.S_over' (uS HO1.out) (Kd.S_typed (uS HO4.out)) (by decide) hg)
   replace HO2:=C (Kd.S_after (ok:=(fun k_=>qn k_ Ao5 t11.length co5∧k_≠gb2)) (Kd.S_mono (fS HO2.out) (fun _ hk=>⟨⟨hk.2,hk.1.2⟩,hk.1.1⟩)) hg hat)
   replace BK4:=gK BK4 hg (Kd.S_ne HO4.out BK4.out (by decide))
   replace HO3:=C (Kd.S_over' (uS HO3.out) (Kd.S_typed (uS HO4.out)) (by decide) hg)
   replace HB:=C (hb)
   clear HO4
   clear HO5
   clear ho hb hg hat
   obtain⟨Ao6,co6,eo6⟩:=Kd.S_slice HO6.out
   (first|subst eo6|(injection eo6 with f1_ f2_ f3_;have f4_:=f1_.symm;have f5_:=f3_.symm;clear f1_ f2_ f3_;subst f4_;subst f5_))
   refine hK.out _ _ hh (fun hHeld=> ?_)
   clear hK K
   refine nu (N:=(some 43)) ?_
   refine pu 6 (some 44) ?_
   refine last_ (i:=7) (N:=none) #[true,true,true,true,true,true,true,true] rfl rfl (one_of HT_.out (by kernel_rfl)) (by decide) (fun K hK=> ?_)
   have hs1:w15.cell? ⟨gb4,3,none⟩=some (L Ao4 t10.length co4):=(blk_cell BK4.out 3).trans rfl
   have hfs1:=blk_frozen BK4.out 3
   have hns1_0:=n6.out
   have hns1_1:=n8.out
   have hns1_2:=n10.out
   have hms1_0:=n7.out
   have hms1_1:=n9.out
   have hms1_2:=n11.out
   refine skip_ (w1:= ?_) (by rfl) rfl ?_ ?_
   rotate_left
   ·go_simp
    rfl
   refine hK.out _ _ ?_
   clear hK K
   refine done_ (done_of HT_.out (by kernel_rfl)) ?_
   obtain⟨_,_,_,_,_,_,_,_⟩:=d4 BK4.out
   obtain⟨_,_,_,_,_,_,_,_⟩:=d4 BK3.out
   try go_wp2
   refine bodyPost_ret (results_ct rfl _ _ gb3 70 #[V I t7,V I t8,L Ao3 t9.length co3,L Ao6 y1.length co6] (0,0) _ rfl (bK BK3.out) underlying70 rfl (by kernel_rfl)) rfl ?_
   exact⟨_,_,rE,Kd.S_mono (fS (Kd.S_types (Kd.S_types HO3.out BK4.out (by decide)) BK3.out (by decide))) (fun _ hk=>trivial),Kd.S_mono (fS (Kd.S_types (Kd.S_types HO6.out BK4.out (by decide)) BK3.out (by decide))) (fun _ hk=>trivial),uB⟩
def slices_Equal_int_int.l0:Nat→List Int→List Int→Int→Int→Option (Bool)
 |0,_,_,_,_=>none
 |k+1,x0,x1,x12,x13=>if x13<x12 then(if 0≤x13 then(if x13<(x0.length:Int) then(if x13<(x1.length:Int) then(if(rd x0 x13)=(rd x1 x13) then(slices_Equal_int_int.l0 k x0 x1 x12 (wrap64 (x13+1))) else(some false)) else(none)) else(none)) else(none)) else(some true)
def slices_Equal_int_int.f (k:Nat) (l0:List Int) (l1:List Int):Option (Bool):=if(l0.length:Int)=(l1.length:Int) then(slices_Equal_int_int.l0 k l0 l1 (l0.length:Int) 0) else(some false)
theorem slices_Equal_int_int.W1 {p:Prop} (h:p:=by
 go_wp2
 repeat(go_quiet (fail);try go_wp2)
 go_ret
 exact⟨by first|rfl|(simp;done)|(simp[*];done),by repeat(first|exact Drawn0.refl _|apply Drawn0.step)⟩):p:=h
theorem slices_Equal_int_int.calls (k:Nat) (A0:Option Addr) (c0:Nat) (l0:List Int) (A1:Option Addr) (c1:Nat) (l1:List Int) (r:Bool) (w:World) (hr0:Kd.C (Kd.int .i64) w A0 l0.length l0) (hc0:l0.length≤c0) (hr1:Kd.C (Kd.int .i64) w A1 l1.length l1) (hc1:l1.length≤c1) (h:slices_Equal_int_int.f k l0 l1=some r):
 Calls prog 70 #[L A0 l0.length c0,L A1 l1.length c1] w fun e w'=>e=.returned (O r)∧Drawn0 w w':=by
 have HR1:=C hr0
 have HC1:=C hc0
 (try clear hr0);(try clear hc0)
 have HR2:=C hr1
 have HC2:=C hc1
 (try clear hr1);(try clear hc1)
 have H:=h
 unfold slices_Equal_int_int.f at H
 clear h
 by_cases c1:(l0.length:Int)=(l1.length:Int)
 rotate_left
 ·rw[if_neg c1]at H
  have c1b0:((l0.length:Int)==(l1.length:Int))=false:=beq_eq_false_iff_ne.mpr c1
  have c1b1:((l0.length:Int) !=(l1.length:Int))=true:=bne_iff_ne.mpr c1
  have c1b2:(l0.length==l1.length)=false:=by first|simpa using c1|(simp at c1 ⊢;omega)
  obtain rfl:=si H
  go_enter func70,ntmps70
  go_wp2
  repeat(go_quiet (fail);try go_wp2)
  go_ret
  exact⟨by first|rfl|(simp;done)|(simp[*];done),by repeat(first|exact Drawn0.refl _|apply Drawn0.step)⟩
 rw[if_pos c1]at H
 have c1b0:((l0.length:Int)==(l1.length:Int))=true:=beq_iff_eq.mpr c1
 have c1b1:((l0.length:Int) !=(l1.length:Int))=false:=bne_eq_false_iff_eq.mpr c1
 have c1b2:(l0.length==l1.length)=true:=by first|simpa using c1|(simp at c1 ⊢;omega)
 clear c1
 have H':=C H
 clear H
 go_enter func70,ntmps70
 go_wp2
 repeat(go_quiet (fail);try go_wp2)
 go_loopg [13] k (fun kq v13 w'=>∃(x1_1:Int),v13=V I x1_1∧D (slices_Equal_int_int.l0 kq l0 l1 (l0.length:Int) x1_1=some r)∧D (kq≤k)∧Drawn0 w w')
 case atStart=>exact⟨(0),rS,H',⟨Nat.le_refl _⟩,by repeat(first|exact Drawn0.refl _|apply Drawn0.step)⟩
 case round=>
  clear H'
  obtain⟨x1_1,rfl,HA,HK1,⟨m1,rfl⟩⟩:=hrel
  cases gk with
  |zero=>exact absurd HA.out (by simp[slices_Equal_int_int.l0])
  |succ k1=>
   have H:=HA.out
   clear HA
   simp only[slices_Equal_int_int.l0]at H
   by_cases c2:x1_1<(l0.length:Int)
   rotate_left
   ·rw[if_neg c2]at H
    replace c2:=decide_eq_false c2
    obtain rfl:=si H
    exact slices_Equal_int_int.W1
   rw[if_pos c2]at H
   replace c2:=decide_eq_true c2
   obtain⟨c3,H⟩:=np H
   replace c3:=decide_eq_true c3
   obtain⟨c4,H⟩:=np H
   replace c4:=decide_eq_true c4
   obtain⟨c5,H⟩:=np H
   replace c5:=decide_eq_true c5
   by_cases c6:(rd l0 x1_1)=(rd l1 x1_1)
   rotate_left
   ·rw[if_neg c6]at H
    have c6b0:((rd l0 x1_1)==(rd l1 x1_1))=false:=beq_eq_false_iff_ne.mpr c6
    have c6b1:((rd l0 x1_1) !=(rd l1 x1_1))=true:=bne_iff_ne.mpr c6
    obtain rfl:=si H
    have p1:0≤(x1_1:Int):=oT
    have q1:x1_1<(l0.length:Int):=oT
    obtain⟨ad1,e1,hx1_0⟩:=Kd.at_int HR1.out x1_1 p1 q1
    cases e1
    replace p1:=eq_true p1
    replace q1:=eq_true q1
    have p2:0≤(x1_1:Int):=oT
    have q2:x1_1<(l1.length:Int):=oT
    obtain⟨ad2,e2,hx2_0⟩:=Kd.at_int HR2.out x1_1 p2 q2
    cases e2
    replace p2:=eq_true p2
    replace q2:=eq_true q2
    exact slices_Equal_int_int.W1
   rw[if_pos c6]at H
   have c6b0:((rd l0 x1_1)==(rd l1 x1_1))=true:=beq_iff_eq.mpr c6
   have c6b1:((rd l0 x1_1) !=(rd l1 x1_1))=false:=bne_eq_false_iff_eq.mpr c6
   clear c6
   have H':=C H
   clear H
   have p1:0≤(x1_1:Int):=oT
   have q1:x1_1<(l0.length:Int):=oT
   obtain⟨ad1,e1,hx1_0⟩:=Kd.at_int HR1.out x1_1 p1 q1
   cases e1
   replace p1:=eq_true p1
   replace q1:=eq_true q1
   have p2:0≤(x1_1:Int):=oT
   have q2:x1_1<(l1.length:Int):=oT
   obtain⟨ad2,e2,hx2_0⟩:=Kd.at_int HR2.out x1_1 p2 q2
   cases e2
   replace p2:=eq_true p2
   replace q2:=eq_true q2
   go_wp2
   repeat(go_quiet (fail);try go_wp2)
   go_roundg k1
   case measure=>have:=HK1.out;omega
   case rel=>exact⟨(wrap64 (x1_1+1)),rS,H',⟨by have:=HK1.out;omega⟩,by repeat(first|exact Drawn0.refl _|apply Drawn0.step)⟩
def impl_RunsOf.l0:Nat→List (S136)→List Int→Int→Int→Option ((List (S136)))
 |0,_,_,_,_=>none
 |k+1,x3,x9,x10,x11=>if x11<x10 then(if 0≤x11 then(if x11<(x9.length:Int) then((impl_within.f (rd x9 x11) 0 255).bind fun t556=>(if t556=true then(if(x3.length:Int) >0 then(if 0≤(wrap64 ((x3.length:Int) - 1)) then(if(wrap64 ((x3.length:Int) - 1))<(x3.length:Int) then(if((rd_T136 x3 (wrap64 ((x3.length:Int) - 1))).f0)=(rd x9 x11) then(impl_RunsOf.l0 k (x3.set ((wrap64 ((x3.length:Int) - 1)):Int).toNat (⟨(rd_T136 x3 (wrap64 ((x3.length:Int) - 1))).f0,wrap64 (((rd_T136 x3 (wrap64 ((x3.length:Int) - 1))).f1)+1)⟩:S136)) x9 x10 (wrap64 (x11+1))) else(if x3.length<8796093022208 then(impl_RunsOf.l0 k (x3++ [(⟨rd x9 x11,1⟩:S136)]) x9 x10 (wrap64 (x11+1))) else(none))) else(none)) else(none)) else(if x3.length<8796093022208 then(impl_RunsOf.l0 k (x3++ [(⟨rd x9 x11,1⟩:S136)]) x9 x10 (wrap64 (x11+1))) else(none))) else(some ([]:List (S136))))) else(none)) else(none)) else(some x3)
def impl_RunsOf.f (k:Nat) (l0:List Int):Option ((List (S136))):=if(l0.length:Int) >32 then(some ([]:List (S136))) else(impl_RunsOf.l0 k ([]:List (S136)) l0 (l0.length:Int) 0)
theorem impl_RunsOf.calls (k:Nat) (A0:Option Addr) (c0:Nat) (l0:List Int) (r:List (S136)) (w:World) (hr0:Kd.C (Kd.int .i64) w A0 l0.length l0) (hc0:l0.length≤c0) (h:impl_RunsOf.f k l0=some r):
 Calls prog 116 #[L A0 l0.length c0] w fun e w'=>∃v0_:Value,e=.returned (v0_)∧Kd.R k136 136 w' w.heap.size (fun _=>True) v0_ r∧Below w.heap.size w w':=by
 have hu1:=underlying136
 have HR1:=C hr0
 have HC1:=C hc0
 (try clear hr0);(try clear hc0)
 have HB:=C (Below.refl w.heap.size w)
 have H:=h
 unfold impl_RunsOf.f at H
 clear h
 by_cases c1:(l0.length:Int) >32
 ·rw[if_pos c1]at H
  have c1b0:decide (32<(l0.length:Int))=true:=decide_eq_true c1
  have c1b1:decide (32<l0.length)=true:=decide_eq_true (by omega)
  clear c1
  obtain rfl:=si H
  go_enter func116,ntmps116
  go_wp2
  go_ret
  exact⟨_,rE,rN,uB⟩
 rw[if_neg c1]at H
 have c1b0:decide (32<(l0.length:Int))=false:=decide_eq_false c1
 have c1b1:decide (32<l0.length)=false:=decide_eq_false (by omega)
 clear c1
 have H':=C H
 clear H
 go_enter func116,ntmps116
 go_wp2
 go_loopg [3,11] k (fun kq v3 v11 w'=>∃(x1_1:List (S136)) (x2_1:Int),v11=V I x2_1∧D (impl_RunsOf.l0 kq x1_1 l0 (l0.length:Int) x2_1=some r)∧D (kq≤k)∧D (Kd.R k136 136 w' w.heap.size (fun _=>True) v3 x1_1)∧D (Below w.heap.size w w'))
 case atStart=>exact⟨(([]:List (S136))),(0),rS,H',⟨Nat.le_refl _⟩,⟨rN⟩,⟨uB⟩⟩
 case round=>
  clear H'
  obtain⟨x1_1,x2_1,rfl,HA,HK1,HO_1,HB⟩:=hrel
  cases gk with
  |zero=>exact absurd HA.out (by simp[impl_RunsOf.l0])
  |succ k1=>
   have H:=HA.out
   clear HA
   simp only[impl_RunsOf.l0]at H
   by_cases c2:x2_1<(l0.length:Int)
   rotate_left
   ·rw[if_neg c2]at H
    replace c2:=decide_eq_false c2
    obtain rfl:=si H
    go_wp2
    go_ret
    exact⟨_,rE,fR HO_1.out,uB⟩
   rw[if_pos c2]at H
   replace c2:=decide_eq_true c2
   obtain⟨c3,H⟩:=np H
   replace c3:=decide_eq_true c3
   obtain⟨c4,H⟩:=np H
   replace c4:=decide_eq_true c4
   obtain⟨t1,A1,H⟩:=bnd H
   by_cases c5:t1=true
   rotate_left
   ·obtain rfl:=nt c5
    replace H:=nf H
    obtain rfl:=si H
    have p1:0≤(x2_1:Int):=oT
    have q1:x2_1<(l0.length:Int):=oT
    obtain⟨ad1,e1,hx1_0⟩:=Kd.at_int (Kd.C_below HR1.out HB.out) x2_1 p1 q1
    cases e1
    replace p1:=eq_true p1
    replace q1:=eq_true q1
    go_wp2_with (first|((with_reducible refine F (f:=49) rfl ?_);refine gl 49 (some 16) func49 #[V I (rd l0 x2_1),V I 0,V I 255] ?_;(with_reducible refine(impl_within.calls (rd l0 x2_1) 0 255 false _ A1.out).mono ?_);rintro e w' ⟨rfl,⟨nd,rfl⟩⟩;refine⟨_,rfl,?_⟩))
    go_ret
    exact⟨_,rE,rN,uB⟩
   subst c5
   rw[if_pos rfl]at H
   by_cases c6:(x1_1.length:Int) >0
   rotate_left
   ·rw[if_neg c6]at H
    have c6b0:decide (0<(x1_1.length:Int))=false:=decide_eq_false c6
    have c6b1:decide (0<x1_1.length)=false:=decide_eq_false (by omega)
    clear c6
    obtain⟨c7,H⟩:=np H
    have LMc1:=C c7
    clear c7
    obtain⟨y1,hy1⟩:∃y_:List (S136),y_=(x1_1++ [(⟨rd l0 x2_1,1⟩:S136)]):=⟨_,rfl⟩
    replace H:(impl_RunsOf.l0 k1 y1 l0 (l0.length:Int) (wrap64 (x2_1+1)))=some r:=gy hy1 H
    have Ny1:=C hy1
    clear hy1
    have H':=C H
    clear H
    have p1:0≤(x2_1:Int):=oT
    have q1:x2_1<(l0.length:Int):=oT
    obtain⟨ad1,e1,hx1_0⟩:=Kd.at_int (Kd.C_below HR1.out HB.out) x2_1 p1 q1
    cases e1
    replace p1:=eq_true p1
    replace q1:=eq_true q1
    go_wp2_with (first|((with_reducible refine F (f:=49) rfl ?_);refine gl 49 (some 16) func49 #[V I (rd l0 x2_1),V I 0,V I 255] ?_;(with_reducible refine(impl_within.calls (rd l0 x2_1) 0 255 true _ A1.out).mono ?_);rintro e w' ⟨rfl,⟨nd,rfl⟩⟩;refine⟨_,rfl,?_⟩;obtain⟨Ao1,co1,rfl⟩:=Kd.R_slice HO_1.out)|((with_reducible refine gate_builtin (b:=.append) (xs:= #[.tmp 42,.tmp 45]) rfl ?_);(try(refine gate_guard (by rfl) ?_;dsimp only));at_builtin;refine Kd.R_append k136 (w0:=w) w.heap.size rfl (.tmp 42) (.tmp 45) 134 136 (G #[(V I 0),(V I 0)]) 16 rfl underlying134 info136 rfl (by decide) (by omega) (L Ao1 x1_1.length co1) x1_1 (⟨rd l0 x2_1,1⟩:S136) [V I (rd l0 x2_1),V I 1] (fun _=>True) (fun _=>False) rfl rfl ?aP (fun _ hk=>hk.elim) ?aF ?aO ?aB ?aS ?aL ?_;(case aP=>exact k136_mkM _ _ _ (⟨rd l0 x2_1,1⟩:S136));(case aB=>exact uB);(case aF=>exact(fun _ _=>trivial));(case aO=>exact(uR HO_1.out));(case aS=>exact(below_size uB));(case aL=>have:=LMc1.out;omega);intro v1 w2 ho hb hg hat;rw[←Ny1.out]at ho;have HO1:=C (ho);replace HB:=C (hb);clear HO_1;clear ho hb hg hat))
    go_roundg k1
    case measure=>have:=HK1.out;omega
    case rel=>exact⟨(y1),(wrap64 (x2_1+1)),rS,H',⟨by have:=HK1.out;omega⟩,⟨fR HO1.out⟩,⟨uB⟩⟩
   rw[if_pos c6]at H
   have c6b0:decide (0<(x1_1.length:Int))=true:=decide_eq_true c6
   have c6b1:decide (0<x1_1.length)=true:=decide_eq_true (by omega)
   clear c6
   obtain⟨ji1,hji1⟩:∃j_:Int,(wrap64 ((x1_1.length:Int) - 1))=j_:=⟨_,rfl⟩
   replace H:(if 0≤(ji1) then(if(ji1)<(x1_1.length:Int) then(if((rd_T136 x1_1 (ji1)).f0)=(rd l0 x2_1) then(impl_RunsOf.l0 k1 (x1_1.set ((ji1):Int).toNat (⟨(rd_T136 x1_1 (ji1)).f0,wrap64 (((rd_T136 x1_1 (ji1)).f1)+1)⟩:S136)) l0 (l0.length:Int) (wrap64 (x2_1+1))) else(if x1_1.length<8796093022208 then(impl_RunsOf.l0 k1 (x1_1++ [(⟨rd l0 x2_1,1⟩:S136)]) l0 (l0.length:Int) (wrap64 (x2_1+1))) else(none))) else(none)) else(none))=some r:=by first|(rw[hji1]at H;exact H)|(simp only[hji1]at H ⊢;exact H)
   (try rw[hji1]at A1)
   have hji1w:(IntKind.i64.wrap ((x1_1.length:Int) - 1))=ji1:=(i64_w _).trans hji1
   obtain⟨c7,H⟩:=np H
   replace c7:=decide_eq_true c7
   obtain⟨c8,H⟩:=np H
   replace c8:=decide_eq_true c8
   by_cases c9:((rd_T136 x1_1 (ji1)).f0)=(rd l0 x2_1)
   rotate_left
   ·rw[if_neg c9]at H
    have c9b0:(((rd_T136 x1_1 (ji1)).f0)==(rd l0 x2_1))=false:=beq_eq_false_iff_ne.mpr c9
    have c9b1:(((rd_T136 x1_1 (ji1)).f0) !=(rd l0 x2_1))=true:=bne_iff_ne.mpr c9
    obtain⟨c10,H⟩:=np H
    have LMc1:=C c10
    clear c10
    obtain⟨y1,hy1⟩:∃y_:List (S136),y_=(x1_1++ [(⟨rd l0 x2_1,1⟩:S136)]):=⟨_,rfl⟩
    replace H:(impl_RunsOf.l0 k1 y1 l0 (l0.length:Int) (wrap64 (x2_1+1)))=some r:=gy hy1 H
    have Ny1:=C hy1
    clear hy1
    have H':=C H
    clear H
    have p1:0≤(x2_1:Int):=oT
    have q1:x2_1<(l0.length:Int):=oT
    obtain⟨ad1,e1,hx1_0⟩:=Kd.at_int (Kd.C_below HR1.out HB.out) x2_1 p1 q1
    cases e1
    replace p1:=eq_true p1
    replace q1:=eq_true q1
    go_wp2_with (first|((with_reducible refine F (f:=49) rfl ?_);refine gl 49 (some 16) func49 #[V I (rd l0 x2_1),V I 0,V I 255] ?_;(with_reducible refine(impl_within.calls (rd l0 x2_1) 0 255 true _ A1.out).mono ?_);rintro e w' ⟨rfl,⟨nd,rfl⟩⟩;refine⟨_,rfl,?_⟩;obtain⟨Ao1,co1,rfl⟩:=Kd.R_slice HO_1.out;have p2:0≤((ji1):Int):=oT;have q2:(ji1)<(x1_1.length:Int):=oT;obtain⟨ad2,e2,hx2_0,hx2_1⟩:=at_T136 (Kd.R_reads' HO_1.out).2.2 (ji1) p2 q2;cases e2;replace p2:=eq_true p2;replace q2:=eq_true q2)|((with_reducible refine gate_builtin (b:=.append) (xs:= #[.tmp 42,.tmp 45]) rfl ?_);(try(refine gate_guard (by rfl) ?_;dsimp only));at_builtin;refine Kd.R_append k136 (w0:=w) w.heap.size rfl (.tmp 42) (.tmp 45) 134 136 (G #[(V I 0),(V I 0)]) 16 rfl underlying134 info136 rfl (by decide) (by omega) (L (some ad2) x1_1.length co1) x1_1 (⟨rd l0 x2_1,1⟩:S136) [V I (rd l0 x2_1),V I 1] (fun _=>True) (fun _=>False) rfl rfl ?aP (fun _ hk=>hk.elim) ?aF ?aO ?aB ?aS ?aL ?_;(case aP=>exact k136_mkM _ _ _ (⟨rd l0 x2_1,1⟩:S136));(case aB=>exact uB);(case aF=>exact(fun _ _=>trivial));(case aO=>exact(uR HO_1.out));(case aS=>exact(below_size uB));(case aL=>have:=LMc1.out;omega);intro v1 w2 ho hb hg hat;rw[←Ny1.out]at ho;have HO1:=C (ho);replace HB:=C (hb);clear HO_1;clear ho hb hg hat))
    go_roundg k1
    case measure=>have:=HK1.out;omega
    case rel=>exact⟨(y1),(wrap64 (x2_1+1)),rS,H',⟨by have:=HK1.out;omega⟩,⟨fR HO1.out⟩,⟨uB⟩⟩
   rw[if_pos c9]at H
   have c9b0:(((rd_T136 x1_1 (ji1)).f0)==(rd l0 x2_1))=true:=beq_iff_eq.mpr c9
   have c9b1:(((rd_T136 x1_1 (ji1)).f0) !=(rd l0 x2_1))=false:=bne_eq_false_iff_eq.mpr c9
   clear c9
   obtain⟨y1,hy1⟩:∃y_:List (S136),y_=(x1_1.set ((ji1):Int).toNat (⟨(rd_T136 x1_1 (ji1)).f0,wrap64 (((rd_T136 x1_1 (ji1)).f1)+1)⟩:S136)):=⟨_,rfl⟩
   replace H:(impl_RunsOf.l0 k1 y1 l0 (l0.length:Int) (wrap64 (x2_1+1)))=some r:=gy hy1 H
   have Ny1:=C hy1
   clear hy1
   have H':=C H
   clear H
   have p1:0≤(x2_1:Int):=oT
   have q1:x2_1<(l0.length:Int):=oT
   obtain⟨ad1,e1,hx1_0⟩:=Kd.at_int (Kd.C_below HR1.out HB.out) x2_1 p1 q1
   cases e1
   replace p1:=eq_true p1
   replace q1:=eq_true q1
   go_wp2_with (first|((with_reducible refine F (f:=49) rfl ?_);refine gl 49 (some 16) func49 #[V I (rd l0 x2_1),V I 0,V I 255] ?_;(with_reducible refine(impl_within.calls (rd l0 x2_1) 0 255 true _ A1.out).mono ?_);rintro e w' ⟨rfl,⟨nd,rfl⟩⟩;refine⟨_,rfl,?_⟩;(try(rw[drewN_self wr];generalize hq_:World.drewN wr _=wr;have n0_:D (Kd.R k136 136 wr w.heap.size (fun _=>True) u3 x1_1):=⟨by rw[←hq_];exact(uR HO_1.out)⟩;have n1_:D (Below w.heap.size w wr):=⟨by rw[←hq_];exact uB⟩;clear HO_1 HB hq_;have HO_1:=n0_;have HB:=n1_;clear n0_ n1_));obtain⟨Ao1,co1,rfl⟩:=Kd.R_slice HO_1.out;have p2:0≤((ji1):Int):=oT;have q2:(ji1)<(x1_1.length:Int):=oT;obtain⟨ad2,e2,hx2_0,hx2_1⟩:=at_T136 (Kd.R_reads' HO_1.out).2.2 (ji1) p2 q2;cases e2;replace p2:=eq_true p2;replace q2:=eq_true q2;have p3:0≤((ji1):Int):=oT;have q3:(ji1)<(x1_1.length:Int):=oT;obtain⟨ad3,e3,hx3_0,hx3_1⟩:=at_T136 (Kd.R_reads' HO_1.out).2.2 (ji1) p3 q3;obtain rfl:ad2=ad3:=(by injection e3);replace p3:=eq_true p3;replace q3:=eq_true q3;have p4:0≤((ji1):Int):=oT;have q4:((ji1):Int)<((x1_1.length:Int):Int):=oT;obtain⟨go1,co2,eo2,gb1,gl1,cl1,HG1⟩:=Kd.R_form HO_1.out (by omega);(first|cases eo2|(injection eo2 with ea_ en_ ec_;(first|subst ea_|(injection ea_ with ea_;subst ea_));subst ec_;clear en_));have GB1:=C gb1;have GG1:=C HG1;clear gb1 gl1 HG1;(first|simp only[add_plain]at hx2_0|skip);(first|simp only[add_plain]at hx2_1|skip);(first|simp only[add_plain]at hx3_0|skip);(first|simp only[add_plain]at hx3_1|skip);obtain⟨ce1,hcl1,hM1,hcc1,hfr1⟩:=Kd.R_elem HO_1.out z136 ((ji1):Int) p4 q4;obtain rfl:=k136_openM hM1;have hx4_0:wr.cell? ⟨go1,((ji1):Int).toNat * 2,none⟩=some (V I ((rd_T136 x1_1 (ji1)).f0)):=hcc1 0 _ rfl;have hx4_1:wr.cell? ⟨go1,((ji1):Int).toNat * 2+1,none⟩=some (V I ((rd_T136 x1_1 (ji1)).f1)):=hcc1 1 _ rfl;have hf1_0:wr.frozen? ⟨go1,((ji1):Int).toNat * 2,none⟩=false:=hfr1 0;have hf1_1:wr.frozen? ⟨go1,((ji1):Int).toNat * 2+1,none⟩=false:=hfr1 1;(try clear hcl1);(try clear hcc1);(try clear hfr1);(try clear hM1);replace p4:=eq_true p4;replace q4:=eq_true q4;have HX1:=C (show Kd.R k136 136 wr w.heap.size (fun _=>True) (L (some ⟨go1,0,none⟩) x1_1.length co1) x1_1 from(uR HO_1.out));obtain⟨ce2,hcl2,hM2,hcc2,hfr2⟩:=Kd.R_elem HX1.out z136 ((ji1):Int) oT (by have h_:((ji1):Int)<((x1_1.length:Int):Int):=oT;first|exact h_|(have e_:=(Kd.R_reads' HO_1.out).1;omega)|simpa using h_);obtain rfl:=k136_openM hM2;have HP1:=Kd.R_seg HX1.out ((ji1):Int) oT (by have h_:((ji1):Int)<((x1_1.length:Int):Int):=oT;first|exact h_|(have e_:=(Kd.R_reads' HO_1.out).1;omega)|simpa using h_) (seg:= [V I (wrap64 (((rd_T136 x1_1 (ji1)).f1)+1))]) (j:=1) hcl2 hcc2 (show 2≤2 from by decide) (x':=(⟨(rd_T136 x1_1 (ji1)).f0,wrap64 (((rd_T136 x1_1 (ji1)).f1)+1)⟩:S136)) (k136_mkM _ _ _ (⟨(rd_T136 x1_1 (ji1)).f0,wrap64 (((rd_T136 x1_1 (ji1)).f1)+1)⟩:S136)) (fun _ hk=>hk);have hx5_1:=hcc2 1 _ rfl;(try simp only[show(k136).sz=2 from rfl,Nat.mul_one,Nat.add_zero]at hx5_1);have hf2_1:=hfr2 1;(try simp only[show(k136).sz=2 from rfl,Nat.mul_one,Nat.add_zero]at hf2_1);(try clear hcl2);(try clear hcc2);(try clear hfr2);(try clear hM2))|((with_reducible refine gate_store (t:=3) (p:=41) rfl ?_);refine store_event (t:=3) (p:=41) (v:= ?vo_w1) (w1:=(wr.setCell ⟨go1,((ji1):Int).toNat * 2+1,none⟩ (V I (wrap64 (((rd_T136 x1_1 (ji1)).f1)+1))))) ?hg ?ho ?hn ?hr ?_;(case ho=>rfl);(case hg=>rfl);(case hn=>rfl);(case hr=>exact Fix.hr);intro w2 hw;have hg:wr.grownBy w2 (some go1):=(by rw[hw];exact HP1.2);have hp_:Kd.R k136 136 w2 w.heap.size (fun _=>True) (L (some ⟨go1,0,none⟩) x1_1.length co1) y1:=(by rw[hw,Ny1.out];exact HP1.1);clear HP1;replace HO_1:=C (hp_);replace HB:=C ((by rw[hw];exact below_set (HB.out) GB1.out:Below w.heap.size w w2));clear hg hw hp_))
   go_roundg k1
   case measure=>have:=HK1.out;omega
   case rel=>exact⟨(y1),(wrap64 (x2_1+1)),rS,H',⟨by have:=HK1.out;omega⟩,⟨fR HO_1.out⟩,⟨uB⟩⟩
def impl_PackRow.l0:Nat→List Int→List Int→List (S136)→Int→Int→Option (Bool×List Int)
 |0,_,_,_,_,_=>none
 |k+1,x0,x3,x11,x12,x13=>if x13<x12 then(if 0≤x13 then(if x13<(x11.length:Int) then((some (([(rd_T136 x11 x13).f0,(rd_T136 x11 x13).f1]:List Int):List Int)).bind fun y573=>(if x3.length+y573.length<17592186044416 then(impl_PackRow.l0 k x0 (x3++y573) x11 x12 (wrap64 (x13+1))) else(none))) else(none)) else(none)) else(if(x3.length:Int)<32 then(some (false,x3)) else((slices_Clone_int_int.f x0).bind fun t579=>(some (true,t579))))
def impl_PackRow.f (k:Nat) (l0:List Int):Option (Bool×List Int):=(impl_rowOk.f k l0).bind fun t567=>(if t567=true then((impl_RunsOf.f k l0).bind fun t568=>(impl_PackRow.l0 k l0 ([]:List Int) t568 (t568.length:Int) 0)) else(some (false,([]:List Int))))
theorem impl_PackRow.calls (k:Nat) (A0:Option Addr) (c0:Nat) (l0:List Int) (r1:Bool) (r2:List Int) (w:World) (hr0:Kd.C (Kd.int .i64) w A0 l0.length l0) (hc0:l0.length≤c0) (h:impl_PackRow.f k l0=some (r1,r2)):
 Calls prog 94 #[L A0 l0.length c0] w fun e w'=>∃v1_:Value,e=.returned (G #[O r1,v1_])∧Kd.R (Kd.int .i64) 3 w' w.heap.size (fun _=>True) v1_ r2∧Below w.heap.size w w':=by
 have hu1:=underlying107
 have hu2:=underlying136
 have HR1:=C hr0
 have HC1:=C hc0
 (try clear hr0);(try clear hc0)
 have HB:=C (Below.refl w.heap.size w)
 have H:=h
 unfold impl_PackRow.f at H
 clear h
 obtain⟨t1,A1,H⟩:=bnd H
 by_cases c1:t1=true
 rotate_left
 ·obtain rfl:=nt c1
  replace H:=nf H
  simp only[Option.some.injEq,Prod.mk.injEq]at H
  obtain⟨rfl,rfl⟩:=H
  go_enter func94,ntmps94
  go_wp2_with (first|((with_reducible refine gate_dst (N:=2) rfl ?_);refine Fix.be 2 #[O false,L none 0 0] 107 ?_;intro gb1 hg w1 BK1 hb;have GW1:=gE (w:=w) hg;have GE1:=GW1;replace HB:=eB hb;clear hb hg)|((with_reducible refine F (f:=76) rfl ?_);refine gl 76 (some 7) func76 #[L A0 l0.length c0] ?_;(with_reducible refine(impl_rowOk.calls k _ _ l0 false _ ?side1 HC1.out A1.out).mono ?_);(case side1=>exact uZ HR1);rintro e w' ⟨rfl,⟨nd,rfl⟩⟩;refine⟨_,rfl,?_⟩;(try(rw[drewN_self w1];generalize hq_:World.drewN w1 _=w1;have n0_:D (w1.heap[gb1]? =some (.cells #[O false,L none 0 0] 107 (0,0))):=⟨by rw[←hq_];exact(uK BK1.out)⟩;have n1_:D (Below w.heap.size w w1):=⟨by rw[←hq_];exact uB⟩;clear BK1 HB hq_;have BK1:=n0_;have HB:=n1_;clear n0_ n1_));have hcz1_0:w1.cell? ⟨gb1,0,none⟩=some (O false):=(blk_cell BK1.out 0).trans rfl;have hcz1_1:w1.cell? ⟨gb1,1,none⟩=some (L none 0 0):=(blk_cell BK1.out 1).trans rfl;have hfz1_0:=blk_frozen BK1.out 0;have hfz1_1:=blk_frozen BK1.out 1))
  refine bodyPost_ret (results_cell_row rfl _ _ gb1 107 #[O false,L none 0 0] (0,0) _ rfl (bK BK1.out) underlying107 rfl (by kernel_rfl)) rfl ?_
  exact⟨_,rE,rN,uB⟩
 subst c1
 rw[if_pos rfl]at H
 obtain⟨t2,A2,H⟩:=bnd H
 have H':=C H
 clear H
 go_enter func94,ntmps94
 go_wp2_with (first|((with_reducible refine gate_dst (N:=2) rfl ?_);refine Fix.be 2 #[O false,L none 0 0] 107 ?_;intro gb1 hg w1 BK1 hb;have GW1:=gE (w:=w) hg;have GE1:=GW1;replace HB:=eB hb;clear hb hg)|((with_reducible refine F (f:=76) rfl ?_);refine gl 76 (some 7) func76 #[L A0 l0.length c0] ?_;(with_reducible refine(impl_rowOk.calls k _ _ l0 true _ ?side1 HC1.out A1.out).mono ?_);(case side1=>exact uZ HR1);rintro e w' ⟨rfl,⟨nd,rfl⟩⟩;refine⟨_,rfl,?_⟩)|((with_reducible refine F (f:=116) rfl ?_);refine gl 116 (some 11) func116 #[L A0 l0.length c0] ?_;(with_reducible refine(impl_RunsOf.calls k _ _ l0 t2 _ ?side1 HC1.out A2.out).mono ?_);(case side1=>exact uC (Kd.C_below HR1.out uB));rintro e w2 ⟨v1,rfl,ho1,hb⟩;refine⟨_,rfl,?_⟩;have HO1:=lR ho1;replace BK1:=eK BK1 hb;replace HB:=eB hb;clear hb ho1;obtain⟨Ao1,co1,rfl⟩:=Kd.R_slice HO1.out))
 go_loopg [3,13] k (fun kq v3 v13 w'=>∃(x1_1:List Int) (x2_1:Int),v13=V I x2_1∧D (impl_PackRow.l0 kq l0 x1_1 t2 (t2.length:Int) x2_1=some (r1,r2))∧D (kq≤k)∧D (Kd.R (Kd.int .i64) 3 w' w.heap.size (fun _=>True) v3 x1_1)∧D (Kd.R k136 136 w' w.heap.size (fun _=>True) (L Ao1 t2.length co1) t2)∧D (w'.heap[gb1]? =some (.cells #[O false,(L none 0 0)] 107 (0,0)))∧D (Below w.heap.size w w'))
 case atStart=>exact⟨(([]:List Int)),(0),rS,H',⟨Nat.le_refl _⟩,⟨rN⟩,⟨fR HO1.out⟩,⟨bK BK1.out⟩,⟨uB⟩⟩
 case round=>
  clear H'
  obtain⟨x1_1,x2_1,rfl,HA,HK1,HO_1,HO_2,BK1,HB⟩:=hrel
  cases gk with
  |zero=>exact absurd HA.out (by simp[impl_PackRow.l0])
  |succ k1=>
   have H:=HA.out
   clear HA
   simp only[impl_PackRow.l0]at H
   by_cases c2:x2_1<(t2.length:Int)
   rotate_left
   ·rw[if_neg c2]at H
    replace c2:=decide_eq_false c2
    by_cases c3:(x1_1.length:Int)<32
    ·rw[if_pos c3]at H
     have c3b0:decide ((x1_1.length:Int)<32)=true:=decide_eq_true c3
     have c3b1:decide (x1_1.length<32)=true:=decide_eq_true (by omega)
     clear c3
     simp only[Option.some.injEq,Prod.mk.injEq]at H
     obtain⟨rfl,rfl⟩:=H
     obtain⟨Ao2,co2,eo2⟩:=Kd.R_slice HO_1.out
     subst eo2
     have hcz1_0:wr.cell? ⟨gb1,0,none⟩=some (O false):=(blk_cell BK1.out 0).trans rfl
     have hcz1_1:wr.cell? ⟨gb1,1,none⟩=some (L none 0 0):=(blk_cell BK1.out 1).trans rfl
     have hfz1_0:=blk_frozen BK1.out 0
     have hfz1_1:=blk_frozen BK1.out 1
     go_wp2
     refine bodyPost_ret (results_cell_row rfl _ _ gb1 107 #[O false,L Ao2 x1_1.length co2] (0,0) _ rfl (bK BK1.out) underlying107 rfl (by kernel_rfl)) rfl ?_
     exact⟨_,rE,X (fR (Kd.R_types HO_1.out BK1.out (by decide))) (fun _ hk=>trivial),uB⟩
    rw[if_neg c3]at H
    have c3b0:decide ((x1_1.length:Int)<32)=false:=decide_eq_false c3
    have c3b1:decide (x1_1.length<32)=false:=decide_eq_false (by omega)
    clear c3
    obtain⟨t3,A3,H⟩:=bnd H
    simp only[Option.some.injEq,Prod.mk.injEq]at H
    obtain⟨rfl,rfl⟩:=H
    obtain⟨Ao2,co2,eo2⟩:=Kd.R_slice HO_1.out
    subst eo2
    go_wp2_with (first|((with_reducible refine F (f:=77) rfl ?_);refine gl 77 (some 31) func77 #[L A0 l0.length c0] ?_;(with_reducible refine(slices_Clone_int_int.calls _ _ l0 t3 _ ?side1 HC1.out A3.out).mono ?_);(case side1=>exact uZ HR1);rintro e w3 ⟨v2,rfl,ho1,hb⟩;refine⟨_,rfl,?_⟩;have HO2:=C (Kd.R_lower (Kd.R_new' ho1 (Kd.R_lt (uR HO_1.out))) (below_size uB));replace HO_1:=C (Kd.R_elder' (uR HO_1.out) (Kd.R_base ho1) hb);replace HO_2:=eR HO_2 hb;replace BK1:=eK BK1 hb;replace HB:=eB hb;clear hb ho1;obtain⟨Ao3,co3,rfl⟩:=Kd.R_slice HO2.out;have hcz1_0:w3.cell? ⟨gb1,0,none⟩=some (O false):=(blk_cell BK1.out 0).trans rfl;have hcz1_1:w3.cell? ⟨gb1,1,none⟩=some (L none 0 0):=(blk_cell BK1.out 1).trans rfl;have hfz1_0:=blk_frozen BK1.out 0;have hfz1_1:=blk_frozen BK1.out 1))
    refine bodyPost_ret (results_cell_row rfl _ _ gb1 107 #[O true,L Ao3 t3.length co3] (0,0) _ rfl (bK BK1.out) underlying107 rfl (by kernel_rfl)) rfl ?_
    exact⟨_,rE,X (fR (Kd.R_types HO2.out BK1.out (by decide))) (fun _ hk=>trivial),uB⟩
   rw[if_pos c2]at H
   replace c2:=decide_eq_true c2
   obtain⟨c3,H⟩:=np H
   replace c3:=decide_eq_true c3
   obtain⟨c4,H⟩:=np H
   replace c4:=decide_eq_true c4
   obtain⟨y1,hy1⟩:∃y_:List Int,y_=(([(rd_T136 t2 x2_1).f0,(rd_T136 t2 x2_1).f1]:List Int)):=⟨_,rfl⟩
   replace H:(if x1_1.length+y1.length<17592186044416 then(impl_PackRow.l0 k1 l0 (x1_1++y1) t2 (t2.length:Int) (wrap64 (x2_1+1))) else(none))=some (r1,r2):=gy hy1 H
   have Ny1:=C hy1
   clear hy1
   obtain⟨c5,H⟩:=np H
   have LMc1:=C c5
   clear c5
   obtain⟨y2,hy2⟩:∃y_:List Int,y_=(x1_1++y1):=⟨_,rfl⟩
   replace H:(impl_PackRow.l0 k1 l0 y2 t2 (t2.length:Int) (wrap64 (x2_1+1)))=some (r1,r2):=gy hy2 H
   have Ny2:=C hy2
   clear hy2
   have H':=C H
   clear H
   have p1:0≤(x2_1:Int):=oT
   have q1:x2_1<(t2.length:Int):=oT
   obtain⟨ad1,e1,hx1_0,hx1_1⟩:=at_T136 (Kd.R_reads' HO_2.out).2.2 x2_1 p1 q1
   cases e1
   replace p1:=eq_true p1
   replace q1:=eq_true q1
   go_wp2_with (first|((with_reducible refine gate_dst (N:=5) rfl ?_);refine Fix.be 5 #[V I 0,V I 0] 136 ?_;intro gb2 hg w3 BK2 hb;have GW2:=gE (w:=w) hg;have n0:=nL hg BK1;have n1:=nG hg BK1;replace HO_1:=eR HO_1 hb;replace HO_2:=C (Kd.R_below (Kd.R_elderB (uR HO_2.out) gb2 (Nat.le_of_eq hg.symm)) hb);replace BK1:=eK BK1 hb;replace HB:=eB hb;clear hb hg;have:=n1.out;have:=n0.out;have hcz1_0:w3.cell? ⟨gb2,0,none⟩=some (V I 0):=(blk_cell BK2.out 0).trans rfl;have hcz1_1:w3.cell? ⟨gb2,1,none⟩=some (V I 0):=(blk_cell BK2.out 1).trans rfl;have hfz1_0:=blk_frozen BK2.out 0;have hfz1_1:=blk_frozen BK2.out 1)|((with_reducible refine gate_dst (N:=22) rfl ?_);refine Kd.R_lit (Kd.int .i64) _ 3 ?hg (N:=22) ?hd (xs:=([(rd_T136 t2 x2_1).f0,(rd_T136 t2 x2_1).f1]:List Int)) (inner:= [V I ((rd_T136 t2 x2_1).f0),V I ((rd_T136 t2 x2_1).f1)]) (ok:=fun _=>True) (okp:=fun _=>True) ?hr ?hp (fun _ hk=>hk) trivial (Below.refl _ _) (Nat.le_refl _) (by simp) ?_;(case hd=>rfl);(case hg=>rfl);(case hr=>exact Fix.hr);(case hp=>exact(Reps.one (show Kd.M (Kd.int .i64) _ _ _ ((rd_T136 t2 x2_1).f0) [V I ((rd_T136 t2 x2_1).f0)] from rfl) (Reps.one (show Kd.M (Kd.int .i64) _ _ _ ((rd_T136 t2 x2_1).f1) [V I ((rd_T136 t2 x2_1).f1)] from rfl) (Reps.none _ _))));intro v2 w4 ho2 hb hg_ hnew_;clear hg_ hnew_;(first|rw[←Ny1.out]at ho2|(simp only[Int.reduceToNat]at ho2;rw[←Ny1.out]at ho2));have HO2:=C (Kd.R_lower (Kd.R_new' ho2 (Kd.R_lt (X (fR (Kd.R_types HO_1.out BK2.out (by decide))) (fun _ h_=>h_.1)))) (below_size uB));replace HO_1:=C (Kd.R_elder' (X (fR (Kd.R_types HO_1.out BK2.out (by decide))) (fun _ h_=>h_.1)) (Kd.R_base ho2) hb);replace HO_2:=C (Kd.R_below (X (fR (X HO_2.out (fun k_ hk=>(⟨hk,hk.2⟩:_∧k_≠gb2)))) (fun _ h_=>h_.1)) hb);replace BK1:=eK BK1 hb;replace BK2:=C (blk_below (g:=gb2) (o:=.cells #[V I ((rd_T136 t2 x2_1).f0),V I ((rd_T136 t2 x2_1).f1)] 136 (0,0)) (bK BK2.out) hb);replace HB:=eB hb;clear hb ho2;obtain⟨Ao2,co2,rfl⟩:=Kd.R_slice HO2.out)|((with_reducible refine gate_builtin (b:=.append) (xs:= #[.tmp 17,.tmp 22]) rfl ?_);at_builtin;refine Kd.R_append_rows (Kd.int .i64) (w0:=w) w.heap.size rfl (.tmp 17) (.tmp 22) 39 3 (V I 0) 8 rfl underlying39 info3 rfl (by decide) (by omega) u3 x1_1 y1 _ _ _ (fun k_=>qn k_ Ao2 y1.length co2) (fun _=>False) rfl rfl ?aO ?aR (fun _ _ h=>h) (fun _ h=>h.elim) ?aF ?aB ?aS ?aL ?_;(case aR=>exact uC (Kd.R_reads' HO2.out).2.2);(case aB=>exact uB);(case aF=>exact(fun k_ hk=>Kd.fresh' (Kd.R_lt (uR HO2.out)) k_ hk));(case aO=>exact(X (fR HO_1.out) (fun _ hk=>hk.2)));(case aS=>exact(below_size uB));(case aL=>have:=LMc1.out;omega);intro v4 w5 ho hb hg hat;rw[←Ny2.out]at ho;have HO3:=C (ho);replace HO_2:=C (Kd.R_over' (uR HO_2.out) (Kd.R_typed (uR HO_1.out)) (by decide) hg);replace BK1:=gK BK1 hg (Kd.R_ne HO_1.out BK1.out (by decide));replace BK2:=gK BK2 hg (Kd.R_ne HO_1.out BK2.out (by decide));replace HO2:=C (Kd.R_after (ok:=(fun _=>True)) (uR HO2.out) hg hat);replace HB:=C (hb);clear HO_1;clear ho hb hg hat))
   go_roundg k1
   case measure=>have:=HK1.out;omega
   case rel=>exact⟨(y2),(wrap64 (x2_1+1)),rS,H',⟨by have:=HK1.out;omega⟩,⟨X (fR HO3.out) (fun _ hk=>trivial)⟩,⟨X (fR HO_2.out) (fun _ hk=>trivial)⟩,⟨bK BK1.out⟩,⟨uB⟩⟩
end Go.Proofs.Ytaceidiookkocaa.PFnPrinted
