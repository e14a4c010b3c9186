/- Calls do what plain Lean functions say (FnPrinted). No condition. -/
import Derived.Test.YtaceidiookkocaaQFnPrinted0
import Derived.Test.YtaceidiookkocaaQFnPrinted2
import Derived.Test.YtaceidiookkocaaQFnPrinted3
import Derived.Test.YtaceidiookkocaaQFnPrinted4
namespace Go.Proofs.Ytaceidiookkocaa.PFnPrinted
open Go.RowKit Go.Proofs.YtaceidiookkocaaW.PrintWords Go.Proofs.YtaceidiookkocaaW.PrintLast Go.Proofs.YtaceidiookkocaaW.PrintMore
open Try
open Fix (bK bnd cl4 cr6 d4 d6 dB dK dR eB eK eR eS fR fS gE gl gs gy hh kA kD kN lR nG nL nf np nt nu oL oT ou pj pu rE rN rS si tu uB uC uP uR uS uZ)
open Go.Value renaming int→V,slice→L,agg→G
open Go.IntKind renaming i64→I
open Go.Proofs.YtaceidiookkocaaW.PrintWords.Aside0 renaming mk→C
open Go.Proofs.YtaceidiookkocaaW.PrintWords renaming Aside0→D,gate_dst→J
attribute [local go_sem] max2_int min2_int max_two min_two max_three min_three max_four min_four
attribute [local go_sem] Fix.isSome_setCell
set_option linter.unusedVariables false
set_option maxHeartbeats 40000000
set_option maxRecDepth 100000
set_option linter.unusedSimpArgs false
def impl_ObjectRow.j0:Nat→Int→Bool→List (S126)→Int→Int→Int→Int→Int→Int→Int→Int→Int→Option ((List (S114)))
 |0,_,_,_,_,_,_,_,_,_,_,_,_=>none
 |k+1,x1,x20,x452000,x452001,x452002,x452003,x452004,x452005,x458000,x458001,x458002,x458003=>if x20=true then(some ([]:List (S114))) else((impl_SpansAt.f k x452000 x1).bind fun t458=>((impl_MeetSpans.f k t458 x458000 x458002).bind fun t461=>(some t461)))
def impl_ObjectRow.f (k:Nat) (l0_0:List (S126)) (a0_1:Int) (a0_2:Int) (a0_3:Int) (a0_4:Int) (a0_5:Int) (a1:Int):Option ((List (S114))):=(impl_ObjectOk.f k l0_0 a0_1 a0_2 a0_3 a0_4 a0_5).bind fun t452=>(if t452=true then((impl_ObjectBox.f k l0_0 a0_1 a0_2 a0_3 a0_4 a0_5).bind fun bt453=>(if a1<bt453.2.1 then(impl_ObjectRow.j0 k a1 true l0_0 a0_1 a0_2 a0_3 a0_4 a0_5 bt453.1 bt453.2.1 bt453.2.2.1 bt453.2.2.2) else(impl_ObjectRow.j0 k a1 (decide (a1 ≥ bt453.2.2.2)) l0_0 a0_1 a0_2 a0_3 a0_4 a0_5 bt453.1 bt453.2.1 bt453.2.2.1 bt453.2.2.2))) else(some ([]:List (S114))))
def impl_ObjectRow.T6:Bool×List (List Nat×List Nat):=(true,[([],[]),([0],[0]),([],[]),([1,2],[1,2]),([],[]),([4],[4]),([],[]),([6],[6]),([3,5,7,3],[3,5,7]),([8,8,0,1,2,3,4,5,6,7,8],[8])])
def impl_ObjectRow.B6:List Nat:= [0,1,0,7,0,16,0,64,255,511]
theorem impl_ObjectRow.tab6:rtab .any (opsOf Try.f95 6)=impl_ObjectRow.T6:=by kernel_rfl
theorem impl_ObjectRow.bits6:waitsOk impl_ObjectRow.T6.2 impl_ObjectRow.B6=true:=by kernel_rfl
theorem impl_ObjectRow.W1 {p:Prop} (h:p:=by
 go_wp2
 go_meet
 first
  |(case rel=>exact⟨_,(true),rS,H',⟨oL⟩,⟨bK BK1.out⟩,⟨bK BK2.out⟩,⟨uB⟩⟩)
  |(case rel=>exact⟨_,(decide (a1 ≥ t5)),rS,H',⟨oL⟩,⟨bK BK1.out⟩,⟨bK BK2.out⟩,⟨uB⟩⟩)):p:=h
theorem impl_ObjectRow.calls (k:Nat) (A0_0:Option Addr) (c0_0:Nat) (l0_0:List (S126)) (a0_1:Int) (a0_2:Int) (a0_3:Int) (a0_4:Int) (a0_5:Int) (a1:Int) (r:List (S114)) (w:World) (hr0_0:Kd.C k126 w A0_0 l0_0.length l0_0) (hc0_0:l0_0.length≤c0_0) (h:impl_ObjectRow.f k l0_0 a0_1 a0_2 a0_3 a0_4 a0_5 a1=some r):
 Calls prog 95 #[G #[L A0_0 l0_0.length c0_0,V I a0_1,V I a0_2,V I a0_3,V I a0_4,V I a0_5],V I a1] w fun e w'=>∃v0_:Value,e=.returned (v0_)∧Kd.R k114 114 w' w.heap.size (fun _=>True) v0_ r∧Below w.heap.size w w':=by
 have hu1:=underlying77
 have hu2:=underlying75
 have HR1_0:=C hr0_0
 have HC1_0:=C hc0_0
 (try clear hr0_0);(try clear hc0_0)
 have HB:=C (Below.refl w.heap.size w)
 have H:=h
 unfold impl_ObjectRow.f at H
 clear h
 obtain⟨t1,A1,H⟩:=bnd H
 by_cases c1:t1=true
 rotate_left
 ·obtain rfl:=nt c1
  replace H:=nf H
  obtain rfl:=si H
  go_enter func95,ntmps95
  go_wp2_with (first|((with_reducible refine J (N:=2) rfl ?_);refine Fix.be 2 #[L A0_0 l0_0.length c0_0,V I a0_1,V I a0_2,V I a0_3,V I a0_4,V I a0_5] 77 ?_;intro gb1 hg w1 BK1 hb;have GW1:=gE (w:=w) hg;have GE1:=GW1;replace HB:=eB hb;clear hb hg;obtain⟨_,_,_,_,_,_,_,_,_,_,_,_⟩:=d6 BK1.out)|((with_reducible refine gate_callee (f:=86) rfl ?_);refine gl 86 (some 7) func86 #[G #[L A0_0 l0_0.length c0_0,V I a0_1,V I a0_2,V I a0_3,V I a0_4,V I a0_5]] ?_;(with_reducible refine(impl_ObjectOk.calls k _ _ l0_0 a0_1 a0_2 a0_3 a0_4 a0_5 false _ ?side1 HC1_0.out A1.out).mono ?_);(case side1=>exact uZ HR1_0);rintro e w2 ⟨rfl,hb⟩;refine⟨_,rfl,?_⟩;replace BK1:=eK BK1 hb;replace HB:=eB hb;clear hb))
  go_ret
  exact⟨_,rE,rN,uB⟩
 subst c1
 rw[if_pos rfl]at H
 obtain⟨⟨t2,t3,t4,t5⟩,A2,H⟩:=bnd H
 dsimp only at H
 have HC2:=C H
 clear H
 go_enter func95,ntmps95
 go_upto_region 4 with(first|((with_reducible refine J (N:=2) rfl ?_);refine Fix.be 2 #[L A0_0 l0_0.length c0_0,V I a0_1,V I a0_2,V I a0_3,V I a0_4,V I a0_5] 77 ?_;intro gb1 hg w1 BK1 hb;have GW1:=gE (w:=w) hg;have GE1:=GW1;replace HB:=eB hb;clear hb hg;obtain⟨_,_,_,_,_,_,_,_,_,_,_,_⟩:=d6 BK1.out)|((with_reducible refine gate_callee (f:=86) rfl ?_);refine gl 86 (some 7) func86 #[G #[L A0_0 l0_0.length c0_0,V I a0_1,V I a0_2,V I a0_3,V I a0_4,V I a0_5]] ?_;(with_reducible refine(impl_ObjectOk.calls k _ _ l0_0 a0_1 a0_2 a0_3 a0_4 a0_5 true _ ?side1 HC1_0.out A1.out).mono ?_);(case side1=>exact uZ HR1_0);rintro e w2 ⟨rfl,hb⟩;refine⟨_,rfl,?_⟩;replace BK1:=eK BK1 hb;replace HB:=eB hb;clear hb;obtain⟨_,_,_,_,_,_,_,_,_,_,_,_⟩:=d6 BK1.out)|((with_reducible refine gate_callee (f:=111) rfl ?_);refine gl 111 (some 10) func111 #[G #[L A0_0 l0_0.length c0_0,V I a0_1,V I a0_2,V I a0_3,V I a0_4,V I a0_5]] ?_;(with_reducible refine(impl_ObjectBox.calls k _ _ l0_0 a0_1 a0_2 a0_3 a0_4 a0_5 t2 t3 t4 t5 _ ?side1 HC1_0.out A2.out).mono ?_);(case side1=>exact uZ HR1_0);rintro e w3 ⟨rfl,hb⟩;refine⟨_,rfl,?_⟩;replace BK1:=eK BK1 hb;replace HB:=eB hb;clear hb)|((with_reducible refine J (N:=5) rfl ?_);refine Fix.be 5 #[V I 0,V I 0,V I 0,V I 0] 75 ?_;intro gb2 hg w4 BK2 hb;have GW2:=gE (w:=w) hg;have n0:=nL hg BK1;have n1:=nG hg BK1;replace BK1:=eK BK1 hb;replace HB:=eB hb;clear hb hg;have:=n1.out;have:=n0.out;obtain⟨_,_,_,_,_,_,_,_⟩:=d4 BK2.out))
 (try simp only[Act.put,List.setIfInBounds_toArray,List.set_cons_zero,List.set_cons_succ])
 go_cut [20] (fun v20 wc=>∃(kq:Nat) (x1_5:Bool),v20=.bool x1_5∧D (impl_ObjectRow.j0 kq a1 x1_5 l0_0 a0_1 a0_2 a0_3 a0_4 a0_5 t2 t3 t4 t5=some r)∧D (kq≤k)∧D (wc.heap[gb1]? =some (.cells #[(L A0_0 l0_0.length c0_0),V I a0_1,V I a0_2,V I a0_3,V I a0_4,V I a0_5] 77 (0,0)))∧D (wc.heap[gb2]? =some (.cells #[V I t2,V I t3,V I t4,V I t5] 75 (0,0)))∧D (Below w.heap.size w wc))
 case first=>
  have H:=HC2.out
  clear HC2
  by_cases c2:a1<t3
  ·rw[if_pos c2]at H
   have c2b0:decide (a1<t3)=true:=decide_eq_true c2
   clear c2
   (first|rw[c2b0]|(simp only[i64_w,i32_w];rw[c2b0])|skip)
   have H':=C H
   clear H
   have:=n1.out
   have:=n0.out
   obtain⟨_,_,_,_,_,_,_,_⟩:=d4 BK2.out
   exact impl_ObjectRow.W1
  rw[if_neg c2]at H
  have c2b0:decide (a1<t3)=false:=decide_eq_false c2
  clear c2
  (first|rw[c2b0]|(simp only[i64_w,i32_w];rw[c2b0])|skip)
  have H':=C H
  clear H
  have:=n1.out
  have:=n0.out
  obtain⟨_,_,_,_,_,_,_,_⟩:=d4 BK2.out
  exact impl_ObjectRow.W1
 case rest=>
  clear HC2
  obtain⟨kq,x1_5,rfl,HA,HJ1,BK1,BK2,HB⟩:=hcut
  cases kq with
  |zero=>exact absurd HA.out (by simp[impl_ObjectRow.j0])
  |succ kj5=>
   have H:=HA.out
   clear HA
   simp only[impl_ObjectRow.j0]at H
   by_cases c2:x1_5=true
   ·subst c2
    rw[if_pos rfl]at H
    obtain rfl:=si H
    go_wp2
    go_ret
    exact⟨_,rE,rN,uB⟩
   obtain rfl:=nt c2
   replace H:=nf H
   obtain⟨t6,A3,H⟩:=bnd H
   obtain⟨t7,A4,H⟩:=bnd H
   obtain rfl:=si H
   try go_wp2
   replace BK1:=dK BK1
   replace BK2:=dK BK2
   replace HB:=dB HB
   refine start_ (n:=10) (S:=fun w'=>cr6 w' gb1 (L A0_0 l0_0.length c0_0) (V I a0_1) (V I a0_2) (V I a0_3) (V I a0_4) (V I a0_5) (cl4 w' gb2 (V I t2) (V I t3) (V I t4) (V I t5))) (ds:= []) #[false,false,false,false,false,false,false,false,false,false] (by kernel_rfl) rfl rfl hh (fun hHeld=> ?_);refine with_tabW impl_ObjectRow.tab6 impl_ObjectRow.bits6 (fun HT_ HW_=> ?_)
   generalize wc.drew=w5 at BK1 BK2 HB hHeld ⊢
   refine pu 0 (some 21) ?_
   refine pu 2 (some 23) ?_
   refine pu 4 (some 25) ?_
   refine pu 6 (some 27) ?_
   refine tu 1 (some 22) hHeld ?_
   refine tu 5 (some 26) hHeld ?_
   refine tu 7 (some 28) hHeld ?_
   refine ou 3 (some 24) (fun K hK=> ?_)
   refine gs func118 #[L A0_0 l0_0.length c0_0,V I a1] ?_
   with_reducible refine(impl_SpansAt.calls kj5 _ _ l0_0 a1 t6 _ ?side1 HC1_0.out A3.out).mono ?_
   (case side1=>exact uZ HR1_0)
   rintro e w6 ⟨v1,rfl,ho1,hb⟩
   refine⟨_,rfl,?_⟩
   have HO1:=lR ho1
   replace BK1:=eK BK1 hb
   replace BK2:=eK BK2 hb
   replace HB:=eB hb
   (try clear hb)
   obtain⟨Ao1,co1,eo1⟩:=Kd.R_slice HO1.out
   (first|subst eo1|(injection eo1 with f1_ f2_ f3_;have f4_:=f1_.symm;have f5_:=f3_.symm;clear f1_ f2_ f3_;subst f4_;subst f5_))
   refine hK.out _ _ hh (fun hHeld=> ?_)
   clear hK K
   refine nu (N:=(some 24)) ?_
   refine ou 8 (some 29) (fun K hK=> ?_)
   refine gs func117 #[L Ao1 t6.length co1,V I t2,V I t4] ?_
   with_reducible refine(impl_MeetSpans.calls kj5 _ _ t6 t2 t4 t7 _ ?side1 ?side2 A4.out).mono ?_
   (case side1=>exact uC (Kd.R_reads' HO1.out).2.2)
   (case side2=>exact(Kd.R_reads' HO1.out).2.1)
   rintro e w7 ⟨v2,rfl,ho1,hb⟩
   refine⟨_,rfl,?_⟩
   have HO2:=C (Kd.R_lower (Kd.R_new' ho1 (Kd.R_lt (uR HO1.out))) (below_size uB))
   replace HO1:=C (Kd.R_elder' (uR HO1.out) (Kd.R_base ho1) hb)
   replace BK1:=eK BK1 hb
   replace BK2:=eK BK2 hb
   replace HB:=eB hb
   (try clear hb)
   refine hK.out _ _ hh (fun hHeld=> ?_)
   clear hK K
   refine nu (N:=(some 29)) ?_
   refine pu 9 (some 4) ?_
   refine done_ (done_of HT_.out (by kernel_rfl)) ?_
   try go_wp2
   go_ret
   exact⟨_,rE,Kd.R_mono (fR HO2.out) (fun _ hk=>trivial),uB⟩
mutual
def impl_paint.l0:Nat→List (List Int)→Int→Int→Int→List (S126)→Int→Int→Int→Int→Int→Option ((List (List Int)))
 |0,_,_,_,_,_,_,_,_,_,_=>none
 |k+1,x0,x1,x11,x12,x465000,x465001,x465002,x465003,x465004,x465005=>if x12<x11 then((impl_ObjectRow.f k x465000 x465001 x465002 x465003 x465004 x465005 (wrap64 (x1+x12))).bind fun t465=>(impl_paint.l1 k x0 x1 x12 x11 x12 t465 (t465.length:Int) 0 x465000 x465001 x465002 x465003 x465004 x465005)) else(some x0)
def impl_paint.l1:Nat→List (List Int)→Int→Int→Int→Int→List (S114)→Int→Int→List (S126)→Int→Int→Int→Int→Int→Option ((List (List Int)))
 |0,_,_,_,_,_,_,_,_,_,_,_,_,_,_=>none
 |k+1,x0,x1,x6,x11,x12,x19,x20,x21,x465000,x465001,x465002,x465003,x465004,x465005=>if x21<x20 then(if 0≤x21 then(if x21<(x19.length:Int) then(impl_paint.l2 k x0 x1 x6 ((rd_T114 x19 x21).f0) x11 x12 x19 x20 x21 x465000 x465001 x465002 x465003 x465004 x465005 ((rd_T114 x19 x21).f0) ((rd_T114 x19 x21).f1)) else(none)) else(none)) else(impl_paint.l0 k x0 x1 x11 (wrap64 (x12+1)) x465000 x465001 x465002 x465003 x465004 x465005)
def impl_paint.l2:Nat→List (List Int)→Int→Int→Int→Int→Int→List (S114)→Int→Int→List (S126)→Int→Int→Int→Int→Int→Int→Int→Option ((List (List Int)))
 |0,_,_,_,_,_,_,_,_,_,_,_,_,_,_,_,_,_=>none
 |k+1,x0,x1,x6,x9,x11,x12,x19,x20,x21,x465000,x465001,x465002,x465003,x465004,x465005,x470000,x470001=>if x9<x470001 then(if 0≤x6 then(if x6<(x0.length:Int) then(if 0≤x9 then(if x9<((rd_L6 x0 x6).length:Int) then(impl_paint.l2 k (x0.set (x6:Int).toNat ((rd_L6 x0 x6).set (x9:Int).toNat x465001)) x1 x6 (wrap64 (x9+1)) x11 x12 x19 x20 x21 x465000 x465001 x465002 x465003 x465004 x465005 x470000 x470001) else(none)) else(none)) else(none)) else(none)) else(impl_paint.l1 k x0 x1 x6 x11 x12 x19 x20 (wrap64 (x21+1)) x465000 x465001 x465002 x465003 x465004 x465005)
end
def impl_paint.f (k:Nat) (l0:List (List Int)) (a1:Int) (l2_0:List (S126)) (a2_1:Int) (a2_2:Int) (a2_3:Int) (a2_4:Int) (a2_5:Int):Option ((List (List Int))):=impl_paint.l0 k l0 a1 (l0.length:Int) 0 l2_0 a2_1 a2_2 a2_3 a2_4 a2_5
def impl_paint.T10:Bool×List (List Nat×List Nat):=(true,[([],[]),([],[]),([0,1],[0,1]),([2],[2]),([],[]),([],[]),([5],[5]),([3,4,0,1,2,3,4,5,6],[3,4]),([7,6,0,1,2,3,4,5,6],[6,7])])
def impl_paint.B10:List Nat:= [0,0,3,7,0,0,32,127,255]
theorem impl_paint.tab10:rtab .any (opsOf Try.f67 10)=impl_paint.T10:=by kernel_rfl
theorem impl_paint.bits10:waitsOk impl_paint.T10.2 impl_paint.B10=true:=by kernel_rfl
theorem impl_paint.calls (k:Nat) (P0_:Nat→Prop) (u9000_:Value) (l0:List (List Int)) (a1:Int) (A2_0:Option Addr) (c2_0:Nat) (l2_0:List (S126)) (a2_1:Int) (a2_2:Int) (a2_3:Int) (a2_4:Int) (a2_5:Int) (r:List (List Int)) (w0 w:World) (hB:Below w0.heap.size w0 w) (ho0:Kd.S (Kd.slice 3 (Kd.int .i64)) 39 w w0.heap.size P0_ u9000_ l0) (hr2_0:∀W_,Kept w W_ (fun k_=>P0_ k_)→Kd.C k126 W_ A2_0 l2_0.length l2_0) (hc2_0:l2_0.length≤c2_0) (h:impl_paint.f k l0 a1 l2_0 a2_1 a2_2 a2_3 a2_4 a2_5=some r):
 Calls prog 67 #[u9000_,V I a1,G #[L A2_0 l2_0.length c2_0,V I a2_1,V I a2_2,V I a2_3,V I a2_4,V I a2_5]] w fun e w'=>e=.returned (.tuple #[])∧Kd.S (Kd.slice 3 (Kd.int .i64)) 39 w' w0.heap.size (fun k_=>(P0_ k_∨w.heap.size≤k_)) u9000_ r∧Below w0.heap.size w0 w'∧Kept w w' (fun k_=>P0_ k_):=by
 have hu1:=underlying77
 have hu2:=underlying114
 have HO1:=C (show Kd.S (Kd.slice 3 (Kd.int .i64)) 39 w w0.heap.size (fun k_=>(P0_ k_∨w.heap.size≤k_)) u9000_ l0 from Kd.S_mono ho0 (fun k_ hk=>(.inl hk)))
 have HR1_0:=C hr2_0
 have HC1_0:=C hc2_0
 (try clear hr2_0);(try clear hc2_0)
 have HK:=C (Kept.refl w (fun k_=>P0_ k_))
 have HW1:=C hB.size
 have HB:=C hB
 clear hB
 have H:=h
 unfold impl_paint.f at H
 clear h
 have H':=C H
 clear H
 go_enter func67,ntmps67
 go_wp2_with (first|((with_reducible refine J (N:=5) rfl ?_);refine Fix.be 5 #[L A2_0 l2_0.length c2_0,V I a2_1,V I a2_2,V I a2_3,V I a2_4,V I a2_5] 77 ?_;intro gb1 hg w2 BK1 hb;have GW1:=C ((by rw[hg];exact(by first|exact HK.out.1|exact(show Kept w _ (fun k_=>P0_ k_) from uP).1):w.heap.size≤gb1));have GE1:D (w0.heap.size≤gb1):=gE hg;replace HO1:=eS HO1 hb;replace HK:=C (Kept.below (S:=(fun k_=>P0_ k_)) (show Kept w _ _ from uP) hb);replace HB:=eB hb;clear hb hg;obtain⟨Ao1,co1,eo1⟩:=Kd.S_slice HO1.out;subst eo1))
 go_loopg [12] k (fun kq v12 w'=>∃(x1_1:List (List Int)) (x2_1:Int),v12=V I x2_1∧D (impl_paint.l0 kq x1_1 a1 (l0.length:Int) x2_1 l2_0 a2_1 a2_2 a2_3 a2_4 a2_5=some r)∧D (kq≤k)∧D (Kd.S (Kd.slice 3 (Kd.int .i64)) 39 w' w0.heap.size (fun k_=>(P0_ k_∨w.heap.size≤k_)) (L Ao1 l0.length co1) x1_1)∧D (w'.heap[gb1]? =some (.cells #[(L A2_0 l2_0.length c2_0),V I a2_1,V I a2_2,V I a2_3,V I a2_4,V I a2_5] 77 (0,0)))∧D (Kept w w' (fun k_=>P0_ k_))∧D (Below w0.heap.size w0 w'))
 case atStart=>exact⟨(l0),(0),rS,H',⟨Nat.le_refl _⟩,⟨fS HO1.out⟩,⟨bK BK1.out⟩,⟨uP⟩,⟨uB⟩⟩
 case round=>
  clear H'
  obtain⟨x1_1,x2_1,rfl,HA,HK1,HO_1,BK1,HK,HB⟩:=hrel
  have hl1_1:=(Kd.S_reads' HO_1.out).1
  rw[hl1_1]at HO_1
  (try simp only[hl1_1])
  (try simp only[hl1_1]at BK1)
  cases gk with
  |zero=>exact absurd HA.out (by simp[impl_paint.l0])
  |succ k1=>
   have H:=HA.out
   clear HA
   simp only[impl_paint.l0]at H
   by_cases c1:x2_1<(l0.length:Int)
   rotate_left
   ·rw[if_neg c1]at H
    have c1b0:decide (x2_1<(l0.length:Int))=false:=decide_eq_false c1
    (try(have c1b9:decide (x2_1<(x1_1.length:Int))=false:=(by rw[←hl1_1];exact c1b0)))
    clear c1
    obtain rfl:=si H
    go_wp2
    first|go_end0|((try simp only[Exit.inBlock,Exit.then]);refine bodyPost_ret (results_none rfl _ _ _) rfl ?_)
    exact⟨rE,(by first|exact(uS HO_1.out)|(simp only[hl1_1];exact(uS HO_1.out))),uB,uP⟩
   rw[if_pos c1]at H
   have c1b0:decide (x2_1<(l0.length:Int))=true:=decide_eq_true c1
   (try(have c1b9:decide (x2_1<(x1_1.length:Int))=true:=(by rw[←hl1_1];exact c1b0)))
   clear c1
   obtain⟨t1,A1,H⟩:=bnd H
   have H':=C H
   clear H
   obtain⟨_,_,_,_,_,_,_,_,_,_,_,_⟩:=d6 BK1.out
   go_wp2_with (first|((with_reducible refine gate_callee (f:=95) rfl ?_);refine gl 95 (some 19) func95 #[G #[L A2_0 l2_0.length c2_0,V I a2_1,V I a2_2,V I a2_3,V I a2_4,V I a2_5],V I (wrap64 (a1+x2_1))] ?_;(with_reducible refine(impl_ObjectRow.calls k1 _ _ l2_0 a2_1 a2_2 a2_3 a2_4 a2_5 (wrap64 (a1+x2_1)) t1 _ ?side1 HC1_0.out A1.out).mono ?_);(case side1=>exact Kd.C_kept_now HR1_0.out (show Kept w _ _ from uP));rintro e w3 ⟨v1,rfl,ho0,hb⟩;refine⟨_,rfl,?_⟩;have HO2:=C (Kd.R_lower (Kd.R_newM (M:=fun k_=>(P0_ k_∨w.heap.size≤k_)) ho0 (by first|exact HK.out.1|exact(show Kept w _ (fun k_=>P0_ k_) from uP).1) (fun k_ h_=>.inr h_)) (below_size uB));replace HO_1:=eS HO_1 hb;replace BK1:=eK BK1 hb;replace HK:=C (Kept.below (S:=(fun k_=>P0_ k_)) (show Kept w _ _ from uP) hb);replace HB:=eB hb;clear hb ho0;obtain⟨Ao2,co2,rfl⟩:=Kd.R_slice HO2.out))
   go_loopg [21] k1 (fun kq v21 w'=>∃(x1_2:List (List Int)) (x3_2:Int),v21=V I x3_2∧D (impl_paint.l1 kq x1_2 a1 x2_1 (l0.length:Int) x2_1 t1 (t1.length:Int) x3_2 l2_0 a2_1 a2_2 a2_3 a2_4 a2_5=some r)∧D (kq≤k1)∧D (Kd.S (Kd.slice 3 (Kd.int .i64)) 39 w' w0.heap.size (fun k_=>(P0_ k_∨w.heap.size≤k_)) (L Ao1 x1_1.length co1) x1_2)∧D (Kd.R k114 114 w' w0.heap.size (fun k_=>(P0_ k_∨w.heap.size≤k_)) (L Ao2 t1.length co2) t1)∧D (w'.heap[gb1]? =some (.cells #[(L A2_0 l2_0.length c2_0),V I a2_1,V I a2_2,V I a2_3,V I a2_4,V I a2_5] 77 (0,0)))∧D (Kept w w' (fun k_=>P0_ k_))∧D (Below w0.heap.size w0 w'))
   case atStart=>exact⟨(x1_1),(0),rS,H',⟨Nat.le_refl _⟩,⟨by(try simp only[hl1_1]);(with_reducible repeat(first|apply Kd.S_alloc|apply Kd.S_drewN|apply Kd.S_drew));exact HO_1.out⟩,⟨by(try simp only[hl1_1]);(with_reducible repeat(first|apply Kd.R_alloc|apply Kd.R_drewN|apply Kd.R_drew));exact Kd.R_mono HO2.out (fun _ hk=>hk.1)⟩,⟨by(try simp only[hl1_1]);exact bK BK1.out⟩,⟨uP⟩,⟨uB⟩⟩
   case round=>
    clear H'
    obtain⟨x1_2,x3_2,rfl,HA,HK2,HO_1,HO_2,BK1,HK,HB⟩:=hrel
    have hl1_2:=(Kd.S_reads' HO_1.out).1
    rw[hl1_2]at HO_1
    (try simp only[hl1_2])
    (try simp only[hl1_2]at BK1)
    (try simp only[hl1_2]at HO_2)
    cases gk with
    |zero=>exact absurd HA.out (by simp[impl_paint.l1])
    |succ k2=>
     have H:=HA.out
     clear HA
     simp only[impl_paint.l1]at H
     by_cases c3:x3_2<(t1.length:Int)
     rotate_left
     ·rw[if_neg c3]at H
      replace c3:=decide_eq_false c3
      have H':=C H
      clear H
      go_wp2
      (try simp only[←hl1_1,←hl1_2])
      go_roundg k2
      case measure=>have:=HK1.out;have:=HK2.out;omega
      case rel=>exact⟨(x1_2),(wrap64 (x2_1+1)),rS,H',⟨by have:=HK1.out;have:=HK2.out;omega⟩,⟨by(try simp only[hl1_1]);(try simp only[hl1_2]);(with_reducible repeat(first|apply Kd.S_alloc|apply Kd.S_drewN|apply Kd.S_drew));exact HO_1.out⟩,⟨by(try simp only[hl1_1]);(try simp only[hl1_2]);exact bK BK1.out⟩,⟨uP⟩,⟨uB⟩⟩
     rw[if_pos c3]at H
     replace c3:=decide_eq_true c3
     obtain⟨c4,H⟩:=np H
     replace c4:=decide_eq_true c4
     obtain⟨c5,H⟩:=np H
     replace c5:=decide_eq_true c5
     have H':=C H
     clear H
     have p1:0≤(x3_2:Int):=oT
     have q1:x3_2<(t1.length:Int):=oT
     obtain⟨ad1,e1,hx1_0,hx1_1⟩:=at_T114 (Kd.R_reads' HO_2.out).2.2 x3_2 p1 q1
     cases e1
     replace p1:=eq_true p1
     replace q1:=eq_true q1
     go_wp2_with (first|((with_reducible refine J (N:=8) rfl ?_);refine Fix.be 8 #[V I 0,V I 0] 114 ?_;intro gb2 hg w4 BK2 hb;have GW2:=C ((by rw[hg];exact(by first|exact HK.out.1|exact(show Kept w _ (fun k_=>P0_ k_) from uP).1):w.heap.size≤gb2));have GE2:D (w0.heap.size≤gb2):=gE hg;have n0:=nL hg BK1;have n1:=nG hg BK1;replace HO_1:=eS HO_1 hb;replace HO_2:=C (Kd.R_below (Kd.R_elderB (uR HO_2.out) gb2 (Nat.le_of_eq hg.symm)) hb);replace BK1:=eK BK1 hb;replace HK:=C (Kept.below (S:=(fun k_=>P0_ k_)) (show Kept w _ _ from uP) hb);replace HB:=eB hb;clear hb hg;have:=n1.out;have:=n0.out;have hcz2_0:w4.cell? ⟨gb2,0,none⟩=some (V I 0):=(blk_cell BK2.out 0).trans rfl;have hcz2_1:w4.cell? ⟨gb2,1,none⟩=some (V I 0):=(blk_cell BK2.out 1).trans rfl;have hfz2_0:=blk_frozen BK2.out 0;have hfz2_1:=blk_frozen BK2.out 1))
     go_loopg [9] k2 (fun kq v9 w'=>∃(x1_3:List (List Int)) (x4_3:Int),v9=V I x4_3∧D (impl_paint.l2 kq x1_3 a1 x2_1 x4_3 (l0.length:Int) x2_1 t1 (t1.length:Int) x3_2 l2_0 a2_1 a2_2 a2_3 a2_4 a2_5 ((rd_T114 t1 x3_2).f0) ((rd_T114 t1 x3_2).f1)=some r)∧D (kq≤k2)∧D (Kd.S (Kd.slice 3 (Kd.int .i64)) 39 w' w0.heap.size (fun k_=>(P0_ k_∨w.heap.size≤k_)) (L Ao1 x1_2.length co1) x1_3)∧D (Kd.R k114 114 w' w0.heap.size (fun k_=>(P0_ k_∨w.heap.size≤k_)∧k_≠gb2) (L (some ad1) t1.length co2) t1)∧D (w'.heap[gb1]? =some (.cells #[(L A2_0 l2_0.length c2_0),V I a2_1,V I a2_2,V I a2_3,V I a2_4,V I a2_5] 77 (0,0)))∧D (w'.heap[gb2]? =some (.cells #[V I ((rd_T114 t1 x3_2).f0),V I ((rd_T114 t1 x3_2).f1)] 114 (0,0)))∧D (Kept w w' (fun k_=>P0_ k_))∧D (Below w0.heap.size w0 w'))
     case atStart=>exact⟨(x1_2),((rd_T114 t1 x3_2).f0),rS,H',⟨Nat.le_refl _⟩,⟨by(try simp only[hl1_1]);(try simp only[hl1_2]);(with_reducible repeat(first|apply Kd.S_alloc|apply Kd.S_drewN|apply Kd.S_drew));exact Kd.S_mono (fS (Kd.S_types HO_1.out BK2.out (by decide))) (fun _ hk=>hk.1)⟩,⟨by(try simp only[hl1_1]);(try simp only[hl1_2]);(with_reducible repeat(first|apply Kd.R_alloc|apply Kd.R_drewN|apply Kd.R_drew));exact Kd.R_mono (fR (Kd.R_mono HO_2.out (fun k_ hk=>(⟨hk,hk.2⟩:_∧k_≠gb2)))) pj⟩,⟨by(try simp only[hl1_1]);(try simp only[hl1_2]);exact bK BK1.out⟩,⟨by(try simp only[hl1_1]);(try simp only[hl1_2]);exact bK BK2.out⟩,⟨uP⟩,⟨uB⟩⟩
     case round=>
      clear H'
      obtain⟨x1_3,x4_3,rfl,HA,HK3,HO_1,HO_2,BK1,BK2,HK,HB⟩:=hrel
      have hl1_3:=(Kd.S_reads' HO_1.out).1
      rw[hl1_3]at HO_1
      (try simp only[hl1_3])
      (try simp only[hl1_3]at BK1)
      (try simp only[hl1_3]at BK2)
      (try simp only[hl1_3]at HO_2)
      cases gk with
      |zero=>exact absurd HA.out (by simp[impl_paint.l2])
      |succ k3=>
       have H:=HA.out
       clear HA
       simp only[impl_paint.l2]at H
       by_cases c6:x4_3<((rd_T114 t1 x3_2).f1)
       rotate_left
       ·rw[if_neg c6]at H
        replace c6:=decide_eq_false c6
        have H':=C H
        clear H
        have:=n1.out
        have:=n0.out
        have hcz3_0:wr.cell? ⟨gb2,0,none⟩=some (V I ((rd_T114 t1 x3_2).f0)):=(blk_cell BK2.out 0).trans rfl
        have hcz3_1:wr.cell? ⟨gb2,1,none⟩=some (V I ((rd_T114 t1 x3_2).f1)):=(blk_cell BK2.out 1).trans rfl
        have hfz3_0:=blk_frozen BK2.out 0
        have hfz3_1:=blk_frozen BK2.out 1
        go_wp2
        (try simp only[←hl1_2,←hl1_3])
        go_roundg k3
        case measure=>have:=HK1.out;have:=HK2.out;have:=HK3.out;omega
        case rel=>exact⟨(x1_3),(wrap64 (x3_2+1)),rS,H',⟨by have:=HK1.out;have:=HK2.out;have:=HK3.out;omega⟩,⟨by(try simp only[hl1_1]);(try simp only[hl1_2]);(try simp only[hl1_3]);(with_reducible repeat(first|apply Kd.S_alloc|apply Kd.S_drewN|apply Kd.S_drew));exact HO_1.out⟩,⟨by(try simp only[hl1_1]);(try simp only[hl1_2]);(try simp only[hl1_3]);(with_reducible repeat(first|apply Kd.R_alloc|apply Kd.R_drewN|apply Kd.R_drew));exact Kd.R_mono HO_2.out (fun _ hk=>hk.1)⟩,⟨by(try simp only[hl1_1]);(try simp only[hl1_2]);(try simp only[hl1_3]);exact bK BK1.out⟩,⟨uP⟩,⟨uB⟩⟩
       rw[if_pos c6]at H
       replace c6:=decide_eq_true c6
       obtain⟨c7,H⟩:=np H
       replace c7:=decide_eq_true c7
       obtain⟨c8,H⟩:=np H
       replace c8:=decide_eq_true c8
       obtain⟨c9,H⟩:=np H
       replace c9:=decide_eq_true c9
       obtain⟨c10,H⟩:=np H
       replace c10:=decide_eq_true c10
       obtain⟨y1,hy1⟩:∃y_:List Int,y_=((rd_L6 x1_3 x2_1).set (x4_3:Int).toNat a2_1):=⟨_,rfl⟩
       replace H:(impl_paint.l2 k3 (x1_3.set (x2_1:Int).toNat y1) a1 x2_1 (wrap64 (x4_3+1)) (l0.length:Int) x2_1 t1 (t1.length:Int) x3_2 l2_0 a2_1 a2_2 a2_3 a2_4 a2_5 ((rd_T114 t1 x3_2).f0) ((rd_T114 t1 x3_2).f1))=some r:=gy hy1 H
       have Ny1:=C hy1
       clear hy1
       obtain⟨y2,hy2⟩:∃y_:List (List Int),y_=(x1_3.set (x2_1:Int).toNat y1):=⟨_,rfl⟩
       replace H:(impl_paint.l2 k3 y2 a1 x2_1 (wrap64 (x4_3+1)) (l0.length:Int) x2_1 t1 (t1.length:Int) x3_2 l2_0 a2_1 a2_2 a2_3 a2_4 a2_5 ((rd_T114 t1 x3_2).f0) ((rd_T114 t1 x3_2).f1))=some r:=gy hy2 H
       have Ny2:=C hy2
       clear hy2
       have H':=C H
       clear H
       have:=n1.out
       have:=n0.out
       have hcz3_0:wr.cell? ⟨gb2,0,none⟩=some (V I ((rd_T114 t1 x3_2).f0)):=(blk_cell BK2.out 0).trans rfl
       have hcz3_1:wr.cell? ⟨gb2,1,none⟩=some (V I ((rd_T114 t1 x3_2).f1)):=(blk_cell BK2.out 1).trans rfl
       have hfz3_0:=blk_frozen BK2.out 0
       have hfz3_1:=blk_frozen BK2.out 1
       try go_wp2
       replace HO_1:=C (Kd.S_drew HO_1.out)
       replace HO_2:=dR HO_2
       replace BK1:=dK BK1
       replace BK2:=dK BK2
       replace HK:=C (Kept.drew HK.out)
       replace HB:=dB HB
       have p2:0≤(x2_1:Int):=oT
       have q2:x2_1<(x1_3.length:Int):=oT
       obtain⟨ad2,A3_0,c11_0,e2,hx2_0,hl2_0,hi1_0⟩:=at_L6 (Kd.S_reads' HO_1.out).2.2 x2_1 p2 q2
       cases e2
       obtain⟨ce1,hce1,hMe1,hcc1⟩:=Kd.S_get HO_1.out [] x2_1 p2 (by first|exact q2|exact oT|(have e_:=(Kd.S_reads' HO_1.out).1;omega))
       obtain⟨ve1_0,rfl,ge1_0⟩:=hMe1
       have hv1_0:=hcc1 0 _ rfl
       rw[Nat.add_zero,show((Kd.slice 3 (Kd.int .i64))).sz=1 from rfl,Nat.mul_one]at hv1_0
       replace hv1_0:=Option.some.inj (hv1_0.symm.trans hx2_0)
       rw[hv1_0]at ge1_0
       have HL1_0:=C (show Kd.R (Kd.int .i64) 3 _ _ _ _ (rd_L6 x1_3 x2_1) from ge1_0)
       clear hv1_0 ge1_0
       have HX1_0:=C hx2_0
       (try clear hcc1);(try clear hce1)
       have HR2_0:=C hi1_0
       have HC2_0:=C hl2_0
       clear hi1_0 hl2_0
       replace p2:=eq_true p2
       replace q2:=eq_true q2
       have p3:0≤(x4_3:Int):=oT
       have q3:(x4_3:Int)<(((rd_L6 x1_3 x2_1).length:Int):Int):=oT
       obtain⟨go1,co3,eo3,gb3,gl1,cl1,HG1⟩:=Kd.R_form HL1_0.out (by omega)
       (first|cases eo3|(injection eo3 with ea_ en_ ec_;(first|subst ea_|(injection ea_ with ea_;subst ea_));subst ec_;clear en_))
       have GB1:=C gb3
       have GG1:=C HG1
       clear gb3 gl1 HG1
       have HMgo1:=C (show(P0_ go1∨w.heap.size≤go1) from(HL1_0.out.1 _ rfl).1)
       obtain⟨hx3_0,hf1_0⟩:=Kd.R_celln 0 HL1_0.out (x4_3:Int) p3 q3
       replace p3:=eq_true p3
       replace q3:=eq_true q3
       have hq26:(x2_1:Int)<(x1_3.length:Int):=(by have h_:(x2_1:Int)<((x1_3.length:Int):Int):=oT;first|exact h_|(have e_:=(Kd.S_reads' HO_1.out).1;omega)|simpa only[List.length_set,List.length_set]using h_)
       obtain⟨oki1,ce2,hcl1,hM1,hcc2,hok1,hbk1⟩:=Kd.S_borrow HO_1.out [] (x2_1:Int) oT hq26
       obtain⟨ve2_0,rfl,ge2_0⟩:=hM1
       have hv2:=hcc2 0 _ rfl
       rw[Nat.add_zero,show((Kd.slice 3 (Kd.int .i64))).sz=1 from rfl,Nat.mul_one]at hv2
       replace hv2:=Option.some.inj (hv2.symm.trans HX1_0.out)
       subst hv2
       (try clear hcc2);(try clear hcl1)
       replace ge2_0:=(show Kd.R (Kd.int .i64) 3 _ _ _ _ (rd_L6 x1_3 x2_1) from ge2_0)
       have HP1:=Kd.R_putg ge2_0 (x4_3:Int) a2_1
       rw[←Ny1.out]at HP1
       have HS1:=hbk1 HP1.2 (fun k_ e_=>by injection e_ with e_;subst e_;exact ge2_0.1 _ rfl) (x':=y1) (Kd.M_row HP1.1)
       rw[←Ny2.out]at HS1
       have HQ1:=C HS1
       clear HP1 HS1 hbk1 hok1
       refine start_ (n:=9) (S:=fun w'=>cr6 w' gb1 (L A2_0 l2_0.length c2_0) (V I a2_1) (V I a2_2) (V I a2_3) (V I a2_4) (V I a2_5) (w'.cell? (ad2.add (x2_1).toNat)=some (L (some ⟨go1,0,none⟩) (rd_L6 x1_3 x2_1).length c11_0))) (ds:= [8]) #[false,false,false,false,false,false,false,false,false] (by kernel_rfl) rfl rfl ⟨(blk_cell BK1.out 0).trans rfl,(blk_cell BK1.out 1).trans rfl,(blk_cell BK1.out 2).trans rfl,(blk_cell BK1.out 3).trans rfl,(blk_cell BK1.out 4).trans rfl,(blk_cell BK1.out 5).trans rfl,hx2_0⟩ (fun hHeld=> ?_);refine with_tabW impl_paint.tab10 impl_paint.bits10 (fun HT_ HW_=> ?_)
       generalize wr.drew=w5 at HO_1 HO_2 BK1 BK2 HK HB GG1 HL1_0 HQ1 HR2_0 HX1_0 hf1_0 hx3_0 hx2_0 hHeld ⊢
       refine pu 0 (some 33) ?_
       refine pu 1 (some 34) ?_
       refine pu 2 (some 35) ?_
       refine pu 4 (some 37) ?_
       refine pu 5 (some 38) ?_
       refine tu 3 (some 36) hHeld ?_
       refine tu 6 (some 39) hHeld ?_
       refine pu 7 (some 40) ?_
       refine last_ (i:=8) (N:=none) #[true,true,true,true,true,true,true,true,true] rfl rfl (one_of HT_.out (by kernel_rfl)) (by decide) (fun K hK=> ?_)
       refine skip_ (w1:= ?_) (by rfl) rfl ?_ ?_
       rotate_left
       ·go_simp
        rfl
       refine hK.out _ _ ?_
       clear hK K
       refine done_ (done_of HT_.out (by kernel_rfl)) ?_
       try go_wp2
       (try simp only[←hl1_3])
       go_roundg k3
       case measure=>have:=HK1.out;have:=HK2.out;have:=HK3.out;omega
       case rel=>exact⟨(y2),(wrap64 (x4_3+1)),rS,H',⟨by have:=HK1.out;have:=HK2.out;have:=HK3.out;omega⟩,⟨by(try simp only[hl1_1]);(try simp only[hl1_2]);(try simp only[hl1_3]);(with_reducible repeat(first|apply Kd.S_alloc|apply Kd.S_drewN|apply Kd.S_drew));exact HQ1.out⟩,⟨by(try simp only[hl1_1]);(try simp only[hl1_2]);(try simp only[hl1_3]);(with_reducible repeat(first|apply Kd.R_alloc|apply Kd.R_drewN|apply Kd.R_drew));exact Kd.R_mono (fR (Kd.R_types HO_2.out GG1.out (by decide))) pj⟩,⟨by(try simp only[hl1_1]);(try simp only[hl1_2]);(try simp only[hl1_3]);(with_reducible repeat(first|refine kN ?_ _|refine kD ?_|refine kA ?_ _));refine blk_far ?_ (by have h_:=Kd.R_ne HL1_0.out BK1.out (by decide);intro e_;exact h_ (by rw[e_];rfl)) _;exact bK BK1.out⟩,⟨by(try simp only[hl1_1]);(try simp only[hl1_2]);(try simp only[hl1_3]);(with_reducible repeat(first|refine kN ?_ _|refine kD ?_|refine kA ?_ _));refine blk_far ?_ (by have h_:=Kd.R_ne HL1_0.out BK2.out (by decide);intro e_;exact h_ (by rw[e_];rfl)) _;exact bK BK2.out⟩,⟨by repeat(first|(with_reducible first|exact HK.out|apply Kept.alloc|apply Kept.drewN|apply Kept.drew|refine Kept.setCell ?_ HMgo1.out _|refine Kept.setCell ?_ (.inr GW1.out) _|refine Kept.setCell ?_ (.inr GW2.out) _)|exact HK.out)⟩,⟨uB⟩⟩
theorem impl_paint.callsT (k:Nat) (u9000_:Value) (l0:List (List Int)) (a1:Int) (A2_0:Option Addr) (c2_0:Nat) (l2_0:List (S126)) (a2_1:Int) (a2_2:Int) (a2_3:Int) (a2_4:Int) (a2_5:Int) (r:List (List Int)) (w0 w:World) (hB:Below w0.heap.size w0 w) (ho0:∃ok,Kd.S (Kd.slice 3 (Kd.int .i64)) 39 w w0.heap.size ok u9000_ l0) (hr2_0:∀W_,Kept w W_ (fun k_=>Pt.Ty w0.heap.size 39 3 w k_)→Kd.C k126 W_ A2_0 l2_0.length l2_0) (hc2_0:l2_0.length≤c2_0) (h:impl_paint.f k l0 a1 l2_0 a2_1 a2_2 a2_3 a2_4 a2_5=some r):
 Calls prog 67 #[u9000_,V I a1,G #[L A2_0 l2_0.length c2_0,V I a2_1,V I a2_2,V I a2_3,V I a2_4,V I a2_5]] w fun e w'=>e=.returned (.tuple #[])∧Kd.S (Kd.slice 3 (Kd.int .i64)) 39 w' w0.heap.size (fun k_=>(Pt.Ty w0.heap.size 39 3 w k_∨w.heap.size≤k_)) u9000_ r∧Below w0.heap.size w0 w'∧Kept w w' (fun k_=>Pt.Ty w0.heap.size 39 3 w k_):=by
 exact impl_paint.calls k (Pt.Ty w0.heap.size 39 3 w) u9000_ l0 a1 A2_0 c2_0 l2_0 a2_1 a2_2 a2_3 a2_4 a2_5 r w0 w hB (by obtain⟨_,h_⟩:=ho0;exact Pt.own h_ (by decide)) hr2_0 hc2_0 h
def impl_MergeBand.l0:Nat→List (S77)→Int→Int→Int→Int→List (List Int)→List (S77)→Option (Int×Int×(List (List Int))×(List (S77)))
 |0,_,_,_,_,_,_,_=>none
 |k+1,x13,x14,x15,x485000,x485001,x485002,x485003=>if x15<x14 then(if 0≤x15 then(if x15<(x13.length:Int) then((impl_paint.f k x485002 (wrap64 (x485000 * x485001)) ((rd_T77 x13 x15).f0) ((rd_T77 x13 x15).f1) ((rd_T77 x13 x15).f2.f0) ((rd_T77 x13 x15).f2.f1) ((rd_T77 x13 x15).f2.f2) ((rd_T77 x13 x15).f2.f3)).bind fun t488=>(impl_MergeBand.l0 k x13 x14 (wrap64 (x15+1)) x485000 x485001 t488 x485003)) else(none)) else(none)) else(some (x485000,x485001,x485002,([]:List (S77))))
def impl_MergeBand.f (k:Nat) (a0_0:Int) (a0_1:Int) (l0_2:List (List Int)) (l0_3:List (S77)):Option (Int×Int×(List (List Int))×(List (S77))):=(impl_copyBand.f k a0_0 a0_1 l0_2 l0_3).bind fun bt476=>((impl_BandOk.f k a0_0 a0_1 l0_2 l0_3).bind fun t485=>(if t485=true then(impl_MergeBand.l0 k bt476.2.2.2 (bt476.2.2.2.length:Int) 0 bt476.1 bt476.2.1 bt476.2.2.1 bt476.2.2.2) else(some (bt476.1,bt476.2.1,bt476.2.2.1,bt476.2.2.2))))
theorem impl_MergeBand.calls (k:Nat) (a0_0:Int) (a0_1:Int) (A0_2:Option Addr) (c0_2:Nat) (l0_2:List (List Int)) (A0_3:Option Addr) (c0_3:Nat) (l0_3:List (S77)) (r1:Int) (r2:Int) (r3:List (List Int)) (r4:List (S77)) (w:World) (hr0_2:Kd.C (Kd.slice 3 (Kd.int .i64)) w A0_2 l0_2.length l0_2) (hc0_2:l0_2.length≤c0_2) (hr0_3:Kd.C k77 w A0_3 l0_3.length l0_3) (hc0_3:l0_3.length≤c0_3) (h:impl_MergeBand.f k a0_0 a0_1 l0_2 l0_3=some (r1,r2,r3,r4)):
 Calls prog 91 #[G #[V I a0_0,V I a0_1,L A0_2 l0_2.length c0_2,L A0_3 l0_3.length c0_3]] w fun e w'=>∃v2_ v3_:Value,e=.returned (G #[V I r1,V I r2,v2_,v3_])∧Kd.S (Kd.slice 3 (Kd.int .i64)) 39 w' w.heap.size (fun _=>True) v2_ r3∧Kd.S k77 77 w' w.heap.size (fun _=>True) v3_ r4∧Below w.heap.size w w':=by
 have hu1:=underlying70
 have hu2:=underlying77
 have HR1_2:=C hr0_2
 have HC1_2:=C hc0_2
 (try clear hr0_2);(try clear hc0_2)
 have HR1_3:=C hr0_3
 have HC1_3:=C hc0_3
 (try clear hr0_3);(try clear hc0_3)
 have HB:=C (Below.refl w.heap.size w)
 have H:=h
 unfold impl_MergeBand.f at H
 clear h
 obtain⟨⟨t1,t2,t3,t4⟩,A1,H⟩:=bnd H
 dsimp only at H
 obtain⟨t5,A2,H⟩:=bnd H
 by_cases c1:t5=true
 rotate_left
 ·obtain rfl:=nt c1
  replace H:=nf H
  simp only[Option.some.injEq,Prod.mk.injEq]at H
  obtain⟨rfl,rfl,rfl,rfl⟩:=H
  go_enter func91,ntmps91
  go_wp2_with (first|((with_reducible refine J (N:=1) rfl ?_);refine Fix.be 1 #[V I a0_0,V I a0_1,L A0_2 l0_2.length c0_2,L A0_3 l0_3.length c0_3] 70 ?_;intro gb1 hg w1 BK1 hb;have GW1:=gE (w:=w) hg;have GE1:=GW1;replace HB:=eB hb;clear hb hg)|((with_reducible refine J (N:=2) rfl ?_);refine Fix.be 2 #[V I 0,V I 0,L none 0 0,L none 0 0] 70 ?_;intro gb2 hg w2 BK2 hb;have GW2:=gE (w:=w) hg;have GE2:=GW2;have n0:=nL hg BK1;have n1:=nG hg BK1;replace BK1:=eK BK1 hb;replace HB:=eB hb;clear hb hg;have:=n0.out;have:=n1.out;obtain⟨_,_,_,_,_,_,_,_⟩:=d4 BK1.out)|((with_reducible refine gate_callee (f:=88) rfl ?_);refine gl 88 (some 7) func88 #[G #[V I a0_0,V I a0_1,L A0_2 l0_2.length c0_2,L A0_3 l0_3.length c0_3]] ?_;(with_reducible refine(impl_copyBand.calls k a0_0 a0_1 _ _ l0_2 _ _ l0_3 t1 t2 t3 t4 _ ?side1 HC1_2.out ?side3 HC1_3.out A1.out).mono ?_);(case side1=>exact uZ HR1_2);(case side3=>exact uZ HR1_3);rintro e w3 ⟨v1,v2,rfl,ho1,ho2,hb⟩;refine⟨_,rfl,?_⟩;have HO1:=C (Kd.S_lower ho1 (below_size uB));have HO2:=C (Kd.S_lower ho2 (below_size uB));replace BK1:=eK BK1 hb;replace BK2:=eK BK2 hb;replace HB:=eB hb;clear hb ho1 ho2)|((with_reducible refine J (N:=3) rfl ?_);refine Fix.be 3 #[V I 0,V I 0,L none 0 0,L none 0 0] 70 ?_;intro gb3 hg w4 BK3 hb;have GW3:=gE (w:=w) hg;have GE3:=GW3;have n2:=nL hg BK1;have n3:=nG hg BK1;have n4:=nL hg BK2;have n5:=nG hg BK2;replace HO1:=eS HO1 hb;replace HO2:=eS HO2 hb;replace BK1:=eK BK1 hb;replace BK2:=eK BK2 hb;replace HB:=eB hb;clear hb hg;have:=n3.out;have:=n2.out;have:=n5.out;have:=n4.out;obtain⟨_,_,_,_,_,_,_,_⟩:=d4 BK3.out;obtain⟨Ao1,co1,eo1⟩:=Kd.S_slice HO1.out;subst eo1;obtain⟨Ao2,co2,eo2⟩:=Kd.S_slice HO2.out;subst eo2;obtain⟨_,_,_,_,_,_,_,_⟩:=d4 BK1.out)|((with_reducible refine gate_callee (f:=87) rfl ?_);refine gl 87 (some 9) func87 #[G #[V I a0_0,V I a0_1,L A0_2 l0_2.length c0_2,L A0_3 l0_3.length c0_3]] ?_;(with_reducible refine(impl_BandOk.calls k a0_0 a0_1 _ _ l0_2 _ _ l0_3 false _ ?side1 HC1_2.out ?side3 HC1_3.out A2.out).mono ?_);(case side1=>exact Kd.C_below HR1_2.out uB);(case side3=>exact Kd.C_below HR1_3.out uB);rintro e w5 ⟨rfl,hb⟩;refine⟨_,rfl,?_⟩;replace HO1:=C (Kd.S_below (Kd.S_mono (fS (Kd.S_types HO1.out BK3.out (by decide))) (fun _ h_=>h_.1)) hb);replace HO2:=C (Kd.S_below (Kd.S_mono (fS (Kd.S_types HO2.out BK3.out (by decide))) (fun _ h_=>h_.1)) hb);replace BK1:=eK BK1 hb;replace BK2:=eK BK2 hb;replace BK3:=C (blk_below (g:=gb3) (o:=.cells #[V I t1,V I t2,L Ao1 t3.length co1,L Ao2 t4.length co2] 70 (0,0)) (bK BK3.out) hb);replace HB:=eB hb;clear hb;obtain⟨_,_,_,_,_,_,_,_⟩:=d4 BK3.out;obtain⟨_,_,_,_,_,_,_,_⟩:=d4 BK2.out))
  refine bodyPost_ret (results_cell_row rfl _ _ gb2 70 #[V I t1,V I t2,L Ao1 t3.length co1,L Ao2 t4.length co2] (0,0) _ rfl (bK BK2.out) underlying70 rfl (by kernel_rfl)) rfl ?_
  exact⟨_,_,rE,Kd.S_mono (fS (Kd.S_types HO1.out BK2.out (by decide))) (fun _ hk=>trivial),Kd.S_mono (fS (Kd.S_types HO2.out BK2.out (by decide))) (fun _ hk=>trivial),uB⟩
 subst c1
 rw[if_pos rfl]at H
 have H':=C H
 clear H
 go_enter func91,ntmps91
 go_wp2_with (first|((with_reducible refine J (N:=1) rfl ?_);refine Fix.be 1 #[V I a0_0,V I a0_1,L A0_2 l0_2.length c0_2,L A0_3 l0_3.length c0_3] 70 ?_;intro gb1 hg w1 BK1 hb;have GW1:=gE (w:=w) hg;have GE1:=GW1;replace HB:=eB hb;clear hb hg)|((with_reducible refine J (N:=2) rfl ?_);refine Fix.be 2 #[V I 0,V I 0,L none 0 0,L none 0 0] 70 ?_;intro gb2 hg w2 BK2 hb;have GW2:=gE (w:=w) hg;have GE2:=GW2;have n0:=nL hg BK1;have n1:=nG hg BK1;replace BK1:=eK BK1 hb;replace HB:=eB hb;clear hb hg;have:=n0.out;have:=n1.out;obtain⟨_,_,_,_,_,_,_,_⟩:=d4 BK1.out)|((with_reducible refine gate_callee (f:=88) rfl ?_);refine gl 88 (some 7) func88 #[G #[V I a0_0,V I a0_1,L A0_2 l0_2.length c0_2,L A0_3 l0_3.length c0_3]] ?_;(with_reducible refine(impl_copyBand.calls k a0_0 a0_1 _ _ l0_2 _ _ l0_3 t1 t2 t3 t4 _ ?side1 HC1_2.out ?side3 HC1_3.out A1.out).mono ?_);(case side1=>exact uZ HR1_2);(case side3=>exact uZ HR1_3);rintro e w3 ⟨v1,v2,rfl,ho1,ho2,hb⟩;refine⟨_,rfl,?_⟩;have HO1:=C (Kd.S_lower ho1 (below_size uB));have HO2:=C (Kd.S_lower ho2 (below_size uB));replace BK1:=eK BK1 hb;replace BK2:=eK BK2 hb;replace HB:=eB hb;clear hb ho1 ho2)|((with_reducible refine J (N:=3) rfl ?_);refine Fix.be 3 #[V I 0,V I 0,L none 0 0,L none 0 0] 70 ?_;intro gb3 hg w4 BK3 hb;have GW3:=gE (w:=w) hg;have GE3:=GW3;have n2:=nL hg BK1;have n3:=nG hg BK1;have n4:=nL hg BK2;have n5:=nG hg BK2;replace HO1:=eS HO1 hb;replace HO2:=eS HO2 hb;replace BK1:=eK BK1 hb;replace BK2:=eK BK2 hb;replace HB:=eB hb;clear hb hg;have:=n3.out;have:=n2.out;have:=n5.out;have:=n4.out;obtain⟨_,_,_,_,_,_,_,_⟩:=d4 BK3.out;obtain⟨Ao1,co1,eo1⟩:=Kd.S_slice HO1.out;subst eo1;obtain⟨Ao2,co2,eo2⟩:=Kd.S_slice HO2.out;subst eo2;obtain⟨_,_,_,_,_,_,_,_⟩:=d4 BK1.out)|((with_reducible refine gate_callee (f:=87) rfl ?_);refine gl 87 (some 9) func87 #[G #[V I a0_0,V I a0_1,L A0_2 l0_2.length c0_2,L A0_3 l0_3.length c0_3]] ?_;(with_reducible refine(impl_BandOk.calls k a0_0 a0_1 _ _ l0_2 _ _ l0_3 true _ ?side1 HC1_2.out ?side3 HC1_3.out A2.out).mono ?_);(case side1=>exact Kd.C_below HR1_2.out uB);(case side3=>exact Kd.C_below HR1_3.out uB);rintro e w5 ⟨rfl,hb⟩;refine⟨_,rfl,?_⟩;replace HO1:=C (Kd.S_below (Kd.S_mono (fS (Kd.S_types HO1.out BK3.out (by decide))) (fun _ h_=>h_.1)) hb);replace HO2:=C (Kd.S_below (Kd.S_mono (fS (Kd.S_types HO2.out BK3.out (by decide))) (fun _ h_=>h_.1)) hb);replace BK1:=eK BK1 hb;replace BK2:=eK BK2 hb;replace BK3:=C (blk_below (g:=gb3) (o:=.cells #[V I t1,V I t2,L Ao1 t3.length co1,L Ao2 t4.length co2] 70 (0,0)) (bK BK3.out) hb);replace HB:=eB hb;clear hb;obtain⟨_,_,_,_,_,_,_,_⟩:=d4 BK3.out))
 go_loopg [15] k (fun kq v15 w'=>∃(x1_1:Int) (x2_1:List (List Int)) (u485002:Value),v15=V I x1_1∧D (impl_MergeBand.l0 kq t4 (t4.length:Int) x1_1 t1 t2 x2_1 t4=some (r1,r2,r3,r4))∧D (kq≤k)∧D (Kd.S k77 77 w' w.heap.size (fun _=>True) (L Ao2 t4.length co2) t4)∧D (Kd.S (Kd.slice 3 (Kd.int .i64)) 39 w' w.heap.size (fun _=>True) u485002 x2_1)∧D (Kd.S k77 77 w' w.heap.size (fun _=>True) (L Ao2 t4.length co2) t4)∧D (w'.heap[gb1]? =some (.cells #[V I a0_0,V I a0_1,(L A0_2 l0_2.length c0_2),(L A0_3 l0_3.length c0_3)] 70 (0,0)))∧D (w'.heap[gb2]? =some (.cells #[V I 0,V I 0,(L none 0 0),(L none 0 0)] 70 (0,0)))∧D (w'.heap[gb3]? =some (.cells #[V I t1,V I t2,u485002,(L Ao2 t4.length co2)] 70 (0,0)))∧D (Below w.heap.size w w'))
 case atStart=>exact⟨(0),(t3),(L Ao1 t3.length co1),rS,H',⟨Nat.le_refl _⟩,⟨fS HO2.out⟩,⟨fS HO1.out⟩,⟨fS HO2.out⟩,⟨bK BK1.out⟩,⟨bK BK2.out⟩,⟨bK BK3.out⟩,⟨uB⟩⟩
 case round=>
  clear H'
  obtain⟨x1_1,x2_1,u485002,rfl,HA,HK1,HO_1,HO_2,HO_3,BK1,BK2,BK3,HB⟩:=hrel
  cases gk with
  |zero=>exact absurd HA.out (by simp[impl_MergeBand.l0])
  |succ k1=>
   have H:=HA.out
   clear HA
   simp only[impl_MergeBand.l0]at H
   by_cases c2:x1_1<(t4.length:Int)
   rotate_left
   ·rw[if_neg c2]at H
    replace c2:=decide_eq_false c2
    simp only[Option.some.injEq,Prod.mk.injEq]at H
    obtain⟨rfl,rfl,rfl,rfl⟩:=H
    have:=n3.out
    have:=n2.out
    have:=n5.out
    have:=n4.out
    obtain⟨_,_,_,_,_,_,_,_⟩:=d4 BK3.out
    have:=n1.out
    have:=n0.out
    obtain⟨_,_,_,_,_,_,_,_⟩:=d4 BK2.out
    obtain⟨Ao3,co3,eo3⟩:=Kd.S_slice HO_2.out
    subst eo3
    go_wp2
    refine bodyPost_ret (results_cell_row rfl _ _ gb2 70 #[V I t1,V I t2,L Ao3 x2_1.length co3,L none 0 0] (0,0) _ rfl (bK BK2.out) underlying70 rfl (by kernel_rfl)) rfl ?_
    exact⟨_,_,rE,Kd.S_mono (fS (Kd.S_types (Kd.S_types HO_2.out BK3.out (by decide)) BK2.out (by decide))) (fun _ hk=>trivial),by first|exact Kd.S_nil _ _ _ _ _|exact Kd.N_nil _ _ _ _ _|exact Kd.V_nil _ _ _ _ _|exact Kd.Q_nil _ _ _ _ _|exact Kd.R_nil _ _ _ _ _,uB⟩
   rw[if_pos c2]at H
   replace c2:=decide_eq_true c2
   obtain⟨c3,H⟩:=np H
   replace c3:=decide_eq_true c3
   obtain⟨c4,H⟩:=np H
   replace c4:=decide_eq_true c4
   obtain⟨t6,A3,H⟩:=bnd H
   have H':=C H
   clear H
   have p1:0≤(x1_1:Int):=oT
   have q1:x1_1<(t4.length:Int):=oT
   obtain⟨ad1,A4_0,c5_0,e1,hx1_0,hx1_1,hx1_2,hx1_3,hx1_4,hx1_5,hl1_0,hi1_0⟩:=at_T77 (Kd.S_reads' HO_1.out).2.2 x1_1 p1 q1
   cases e1
   obtain⟨ce1,hce1,hMe1,hcc1⟩:=Kd.S_get HO_1.out z77 x1_1 p1 (by first|exact q1|exact oT|(have e_:=(Kd.S_reads' HO_1.out).1;omega))
   obtain⟨ve1_0,rfl,ge1_0⟩:=k77_openM hMe1
   have hv1_0:=hcc1 0 _ rfl
   rw[Nat.add_zero]at hv1_0
   replace hv1_0:=Option.some.inj (hv1_0.symm.trans hx1_0)
   rw[hv1_0]at ge1_0
   have HL1_0:=C (show Kd.R k126 126 _ _ _ _ ((rd_T77 t4 x1_1).f0) from ge1_0)
   clear hv1_0 ge1_0
   (try clear hcc1);(try clear hce1)
   have HR2_0:=C hi1_0
   have HC2_0:=C hl1_0
   clear hi1_0 hl1_0
   replace p1:=eq_true p1
   replace q1:=eq_true q1
   go_wp2_with (first|((with_reducible refine J (N:=5) rfl ?_);refine Fix.be 5 #[L none 0 0,V I 0,V I 0,V I 0,V I 0,V I 0] 77 ?_;intro gb4 hg w6 BK4 hb;have GW4:=gE (w:=w) hg;have n6:=nL hg BK1;have n7:=nG hg BK1;have n8:=nL hg BK2;have n9:=nG hg BK2;have n10:=nL hg BK3;have n11:=nG hg BK3;replace HO_1:=C (Kd.S_below (Kd.S_elderB (uS HO_1.out) gb4 (Nat.le_of_eq hg.symm)) hb);replace HO_2:=eS HO_2 hb;replace HO_3:=C (Kd.S_below (Kd.S_elderB (uS HO_3.out) gb4 (Nat.le_of_eq hg.symm)) hb);replace HL1_0:=eR HL1_0 hb;replace BK1:=eK BK1 hb;replace BK2:=eK BK2 hb;replace BK3:=eK BK3 hb;replace HR2_0:=C (Kd.C_below (by repeat(first|(with_reducible exact HR2_0.out)|(with_reducible refine Kd.C_alloc ?_ _)|(with_reducible refine Kd.C_drewN ?_ _)|(with_reducible refine Kd.C_drew ?_)|exact HR2_0.out)) hb);replace HB:=eB hb;clear hb hg;have:=n7.out;have:=n6.out;have:=n9.out;have:=n8.out;have:=n11.out;have:=n10.out;obtain⟨_,_,_,_,_,_,_,_,_,_,_,_⟩:=d6 BK4.out;have:=n3.out;have:=n2.out;have:=n5.out;have:=n4.out;obtain⟨_,_,_,_,_,_,_,_⟩:=d4 BK3.out;obtain⟨Ao3,co3,eo3⟩:=Kd.S_slice HO_2.out;subst eo3)|((with_reducible refine gate_callee (f:=67) rfl ?_);refine goesL_ (some 27) rfl rfl func67 (by kernel_rfl) rfl #[L Ao3 x2_1.length co3,V I (wrap64 (t1 * t2)),G #[L A4_0 ((rd_T77 t4 x1_1).f0).length c5_0,V I ((rd_T77 t4 x1_1).f1),V I ((rd_T77 t4 x1_1).f2.f0),V I ((rd_T77 t4 x1_1).f2.f1),V I ((rd_T77 t4 x1_1).f2.f2),V I ((rd_T77 t4 x1_1).f2.f3)]] rfl (by(try simp only[List.map_toArray,List.map_cons,List.map_nil]);first|done|rfl) ?_;refine(impl_paint.callsT k1 _ x2_1 (wrap64 (t1 * t2)) A4_0 c5_0 ((rd_T77 t4 x1_1).f0) ((rd_T77 t4 x1_1).f1) ((rd_T77 t4 x1_1).f2.f0) ((rd_T77 t4 x1_1).f2.f1) ((rd_T77 t4 x1_1).f2.f2) ((rd_T77 t4 x1_1).f2.f3) t6 w _ ?sB ?sO ?sR HC2_0.out A3.out).mono ?_;(case sB=>exact uB);(case sO=>exact⟨_,(Kd.S_mono (fS (Kd.S_types HO_2.out BK4.out (by decide))) (fun _ h_=>h_.1))⟩);(case sR=>exact Pt.C_own (Kd.R_mono (fR (Kd.R_types HL1_0.out BK4.out (by decide))) (fun _ h_=>h_.1)) (by decide));rintro e w7 ⟨rfl,ho1,hb,hk⟩;refine⟨_,rfl,?_⟩;have n0_:=C (Pt.S_past (Kd.S_mono (fS (Kd.S_mono HO_1.out (fun k_ hk=>(⟨hk,hk.2⟩:_∧k_≠gb4)))) (fun _ h_=>h_.1)) hk (by decide));have n1_:=C (Pt.S_past (Kd.S_mono (fS (Kd.S_mono HO_3.out (fun k_ hk=>(⟨hk,hk.2⟩:_∧k_≠gb4)))) (fun _ h_=>h_.1)) hk (by decide));have n2_:=C (Pt.blk (g:=gb1) (cs:= #[V I a0_0,V I a0_1,L A0_2 l0_2.length c0_2,L A0_3 l0_3.length c0_3]) (t:=70) (bK BK1.out) hk (by decide));have n3_:=C (Pt.blk (g:=gb2) (cs:= #[V I 0,V I 0,L none 0 0,L none 0 0]) (t:=70) (bK BK2.out) hk (by decide));have n4_:=C (Pt.blk (g:=gb3) (cs:= #[V I t1,V I t2,L Ao3 x2_1.length co3,L (some ad1) t4.length co2]) (t:=70) (bK BK3.out) hk (by decide));have n5_:=C (Pt.blk (g:=gb4) (cs:= #[L A4_0 ((rd_T77 t4 x1_1).f0).length c5_0,V I ((rd_T77 t4 x1_1).f1),V I ((rd_T77 t4 x1_1).f2.f0),V I ((rd_T77 t4 x1_1).f2.f1),V I ((rd_T77 t4 x1_1).f2.f2),V I ((rd_T77 t4 x1_1).f2.f3)]) (t:=77) (bK BK4.out) hk (by decide));have m1_:=C (Kd.S_mono (ok':=fun _=>True) ho1 (fun _ _=>trivial));have m2_:=C hb;clear HO_1;clear HO_3;clear BK1;clear BK2;clear BK3;clear BK4;clear HO_2;clear HL1_0;clear HR2_0;clear HB;have HO_1:=n0_;have HO_3:=n1_;have BK1:=n2_;have BK2:=n3_;have BK3:=n4_;have BK4:=n5_;have HO3:=m1_;have HB:=m2_;clear m1_ m2_ ho1 hb hk n0_ n1_ n2_ n3_ n4_ n5_))
   go_roundg k1
   case measure=>have:=HK1.out;omega
   case rel=>exact⟨(wrap64 (x1_1+1)),(t6),(L Ao3 x2_1.length co3),rS,H',⟨by have:=HK1.out;omega⟩,⟨Kd.S_mono HO_1.out (fun _ _=>trivial)⟩,⟨Kd.S_mono HO3.out (fun _ _=>trivial)⟩,⟨Kd.S_mono HO_3.out (fun _ _=>trivial)⟩,⟨BK1.out⟩,⟨BK2.out⟩,⟨BK3.out⟩,⟨HB.out⟩⟩
end Go.Proofs.Ytaceidiookkocaa.PFnPrinted
