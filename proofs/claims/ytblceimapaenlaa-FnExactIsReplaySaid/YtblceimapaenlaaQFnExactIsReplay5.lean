/- FnExactIsReplay: the functions that the law reaches, each as a plain Lean function, and that a call does what it says. Made by a program of this work (wip/mp.py) out of the kit's print. No condition. -/
import Derived.Test.YtblceimapaenlaaQFnExactIsReplay0
import Derived.Test.YtblceimapaenlaaQFnExactIsReplay3
import Derived.Test.YtblceimapaenlaaQFnExactIsReplay4
namespace Go.Proofs.Ytblceimapaenlaa.PFnExactIsReplay
open Go.RowKit Go.Proofs.YtblceimapaenlaaW.PrintWords Go.Proofs.YtblceimapaenlaaW.PrintLast Go.Proofs.YtblceimapaenlaaW.PrintMore
open Fix (bK bnd cl14 cl6 d14 d4 d6 dB dK eB eK eR fR gE gK gl gs hh lR nG nL nu oL ou pu rE rS tu uB uC uK uR)
open Go.Value renaming int→V,slice→L,bool→O,agg→G
open Go.IntKind renaming i64→I
open Go.Proofs.YtblceimapaenlaaW.PrintWords.Aside0 renaming mk→C
open Go.Proofs.YtblceimapaenlaaW.PrintWords renaming Aside0→D
open Go.Proofs.YtblceimapaenlaaW.PrintWords.Kd renaming R_mono→X,C_below→Z
attribute [local go_sem] max2_int min2_int max_two min_two max_three min_three max_four min_four
attribute [local go_sem] Fix.isSome_setCell
set_option linter.unusedVariables false
set_option linter.unusedSimpArgs false
def impl_copyLine.f (a0_0:Int) (a0_1:Int) (l0_2:List Int) (l0_3:List Int) (a0_4:Int) (a0_5:Bool):Option (Int×Int×List Int×List Int×Int×Bool):=(slices_Clone_int_int.f l0_2).bind fun t239=>((slices_Clone_int_int.f l0_3).bind fun t242=>(some (a0_0,a0_1,t239,t242,a0_4,a0_5)))
def impl_copyLine.T1:Bool×List (List Nat×List Nat):=(true,[([],[]),([0],[0]),([1],[1]),([],[]),([3],[3]),([4,2],[4]),([0,1,2,3,4],[]),([6,2,5,0,1,2,3,4],[2,6]),([0,1,2,3,4,5,6,7],[]),([8,5,7,0,1,2,3,4,5,6,7],[5,8])])
def impl_copyLine.B1:List Nat:= [0,1,3,0,8,31,31,127,255,511]
theorem impl_copyLine.tab1:rtab .any (opsOf Try.f90 1)=impl_copyLine.T1:=by kernel_rfl
theorem impl_copyLine.bits1:waitsOk impl_copyLine.T1.2 impl_copyLine.B1=true:=by kernel_rfl
set_option maxHeartbeats 40000000 in
set_option maxRecDepth 100000 in
theorem impl_copyLine.calls (a0_0:Int) (a0_1:Int) (A0_2:Option Addr) (c0_2:Nat) (l0_2:List Int) (A0_3:Option Addr) (c0_3:Nat) (l0_3:List Int) (a0_4:Int) (a0_5:Bool) (r1:Int) (r2:Int) (r3:List Int) (r4:List Int) (r5:Int) (r6:Bool) (w:World) (hr0_2:Kd.C (Kd.int .i64) w A0_2 l0_2.length l0_2) (hc0_2:l0_2.length≤c0_2) (hr0_3:Kd.C (Kd.int .i64) w A0_3 l0_3.length l0_3) (hc0_3:l0_3.length≤c0_3) (h:impl_copyLine.f a0_0 a0_1 l0_2 l0_3 a0_4 a0_5=some (r1,r2,r3,r4,r5,r6)):
    Calls Try.prog 90 #[G #[V I a0_0,V I a0_1,L A0_2 l0_2.length c0_2,L A0_3 l0_3.length c0_3,V I a0_4,O a0_5]] w fun e w'=>∃v2_ v3_:Value,e=.returned (G #[V I r1,V I r2,v2_,v3_,V I r5,O r6])∧Kd.R (Kd.int .i64) 3 w' w.heap.size (fun k_=>some k_≠(v3_:Value).ownBlock) v2_ r3∧Kd.R (Kd.int .i64) 3 w' w.heap.size (fun k_=>some k_≠(v2_:Value).ownBlock) v3_ r4∧Below w.heap.size w w':=by
  have hu1:=Try.underlying34
  have HR1_2:=C hr0_2
  have HC1_2:=C hc0_2
  (try clear hr0_2);(try clear hc0_2)
  have HR1_3:=C hr0_3
  have HC1_3:=C hc0_3
  (try clear hr0_3);(try clear hc0_3)
  have HB:=C (Below.refl w.heap.size w)
  have H:=h
  unfold impl_copyLine.f at H
  clear h
  obtain⟨t1,A1,H⟩:=bnd H
  obtain⟨t2,A2,H⟩:=bnd H
  simp only[Option.some.injEq,Prod.mk.injEq]at H
  obtain⟨rfl,rfl,rfl,rfl,rfl,rfl⟩:=H
  go_enter Try.func90,Try.ntmps90
  try go_wp2_with (first|((with_reducible refine gate_dst (N:=1) rfl ?_);refine Fix.be 1 #[V I a0_0,V I a0_1,L A0_2 l0_2.length c0_2,L A0_3 l0_3.length c0_3,V I a0_4,O a0_5] 34 ?_;intro gb1 hg w2 BK1 hb;have GW1:D (w.heap.size≤gb1):=gE hg;have GE1:=GW1;replace HB:=eB hb;clear hb hg)|((with_reducible refine gate_dst (N:=2) rfl ?_);refine Fix.be 2 #[V I 0,V I 0,L none 0 0,L none 0 0,V I 0,O false] 34 ?_;intro gb2 hg w3 BK2 hb;have GW2:D (w.heap.size≤gb2):=gE hg;have GE2:=GW2;have NB1_238:=nL hg BK1;have NB2_237:=nG hg BK1;replace BK1:=eK BK1 hb;replace HB:=eB hb;clear hb hg))
  replace BK1:=dK BK1
  replace BK2:=dK BK2
  replace HB:=dB HB
  refine start_ (n:=10) (S:=fun w'=>cl6 w' gb1 (V I a0_0) (V I a0_1) (L A0_2 l0_2.length c0_2) (L A0_3 l0_3.length c0_3) (V I a0_4) (O a0_5)) (ds:= [7,9]) #[false,false,false,false,false,false,false,false,false,false] (by kernel_rfl) rfl rfl hh (fun hHeld=> ?_);refine with_tabW impl_copyLine.tab1 impl_copyLine.bits1 (fun HT_ HW_=> ?_)
  generalize w3.drew=w4 at BK1 BK2 HB hHeld ⊢
  refine pu 0 (some 3) ?_
  refine pu 3 (some 6) ?_
  refine tu 1 (some 4) hHeld ?_
  refine tu 4 (some 7) hHeld ?_
  refine ou 2 (some 5) (fun K hK=> ?_)
  refine gs Try.func105 #[L A0_2 l0_2.length c0_2] ?_
  with_reducible refine(slices_Clone_int_int.calls _ _ l0_2 t1 _ ?side1 ?side2 A1.out).mono ?_
  (case side1=>exact uC (Z HR1_2.out HB.out))
  (case side2=>exact HC1_2.out)
  rintro e w5 ⟨v1,rfl,ho1,hb⟩
  refine⟨_,rfl,?_⟩
  have HO1:=lR ho1
  replace BK1:=eK BK1 hb
  replace BK2:=eK BK2 hb
  replace HB:=eB hb
  (try clear hb)
  refine hK.out _ _ hh (fun hHeld=> ?_)
  clear hK K
  refine nu (N:=(some 5)) ?_
  refine pu 6 (some 9) ?_
  refine ou 5 (some 8) (fun K hK=> ?_)
  refine gs Try.func105 #[L A0_3 l0_3.length c0_3] ?_
  with_reducible refine(slices_Clone_int_int.calls _ _ l0_3 t2 _ ?side1 ?side2 A2.out).mono ?_
  (case side1=>exact uC (Z HR1_3.out HB.out))
  (case side2=>exact HC1_3.out)
  rintro e w6 ⟨v2,rfl,ho1,hb⟩
  refine⟨_,rfl,?_⟩
  have HO2:=C (Kd.R_lower (Kd.R_new' ho1 (Kd.R_lt (uR HO1.out))) (below_size uB))
  replace HO1:=C (Kd.R_elder' (uR HO1.out) (Kd.R_base ho1) hb)
  replace BK1:=eK BK1 hb
  replace BK2:=eK BK2 hb
  replace HB:=eB hb
  (try clear hb)
  obtain⟨Ao1,co1,eo1⟩:=Kd.R_slice HO1.out
  (first|subst eo1|(injection eo1 with f1_ f2_ f3_;have f4_:=f1_.symm;have f5_:=f3_.symm;clear f1_ f2_ f3_;subst f4_;subst f5_))
  obtain⟨Ao2,co2,eo2⟩:=Kd.R_slice HO2.out
  (first|subst eo2|(injection eo2 with f1_ f2_ f3_;have f4_:=f1_.symm;have f5_:=f3_.symm;clear f1_ f2_ f3_;subst f4_;subst f5_))
  refine hK.out _ _ hh (fun hHeld=> ?_)
  clear hK K
  refine nu (N:=(some 8)) ?_
  refine last_ (i:=7) (N:=none) #[true,true,true,true,true,true,true,true,false,false] rfl rfl (one_of HT_.out (by kernel_rfl)) (by decide) (fun K hK=> ?_)
  have hs1:w6.cell? ⟨gb1,2,none⟩=some (L A0_2 l0_2.length c0_2):=(blk_cell BK1.out 2).trans rfl
  have hfs1:=blk_frozen BK1.out 2
  have hns1_1:=NB2_237.out
  have hms1_1:=NB1_238.out
  refine skip_ (w1:= ?_) (by rfl) rfl ?_ ?_
  rotate_left
  · go_simp
    rfl
  refine hK.out _ _ ?_
  clear hK K
  refine pu 8 (some 10) ?_
  refine last_ (i:=9) (N:=none) #[true,true,true,true,true,true,true,true,true,true] rfl rfl (one_of HT_.out (by kernel_rfl)) (by decide) (fun K hK=> ?_)
  have hs2:w6.cell? ⟨gb1,3,none⟩=some (L A0_3 l0_3.length c0_3):=(blk_cell BK1.out 3).trans rfl
  have hfs2:=blk_frozen BK1.out 3
  have hns2_1:=NB2_237.out
  have hms2_1:=NB1_238.out
  refine skip_ (w1:= ?_) (by rfl) rfl ?_ ?_
  rotate_left
  · go_simp
    rfl
  refine hK.out _ _ ?_
  clear hK K
  refine done_ (done_of HT_.out (by kernel_rfl)) ?_
  have hnb1:=NB1_238.out
  have hnc1:=NB2_237.out
  have h_:=d6 BK1.out;(repeat(obtain⟨_,h_⟩:=h_))
  have h_:=d6 BK2.out;(repeat(obtain⟨_,h_⟩:=h_))
  try go_wp2
  refine bodyPost_ret (results_cell_row rfl _ _ gb2 34 #[V I a0_0,V I a0_1,L Ao1 t1.length co1,L Ao2 t2.length co2,V I a0_4,O a0_5] (0,0) _ rfl (bK BK2.out) Try.underlying34 rfl (by kernel_rfl)) rfl ?_
  exact⟨_,_,rE,X (fR (Kd.R_types (Kd.R_types HO1.out BK1.out (by decide)) BK2.out (by decide))) (fun _ hk=>hk.1.1.2),X (fR (Kd.R_types (Kd.R_types HO2.out BK1.out (by decide)) BK2.out (by decide))) (fun _ hk=>hk.1.1.2),uB⟩
def impl_copyMachine.f (l0_0:List (S33)) (a0_1:Int) (a0_2:Int) (a0_3:Int) (a0_4:Bool) (a0_5:Int) (a0_6:Bool) (a0_7:Int) (a0_8:Int) (l0_9:List Int) (l0_10:List Int) (a0_11:Int) (a0_12:Bool) (a0_13:Int):Option ((List (S33))×Int×Int×Int×Bool×Int×Bool×Int×Int×List Int×List Int×Int×Bool×Int):=(impl_Job_89.f l0_0).bind fun t247=>((impl_copyLine.f a0_7 a0_8 l0_9 l0_10 a0_11 a0_12).bind fun bt250=>(some (t247,a0_1,a0_2,a0_3,a0_4,a0_5,a0_6,bt250.1,bt250.2.1,bt250.2.2.1,bt250.2.2.2.1,bt250.2.2.2.2.1,bt250.2.2.2.2.2,a0_13)))
def impl_copyMachine.T1:Bool×List (List Nat×List Nat):=(true,[([],[]),([0],[0]),([1],[1]),([],[]),([3],[3]),([4,2],[4]),([0,1,2,3,4],[]),([6,2,5,0,1,2,3,4],[2,6]),([0,1,2,3,4,5,6,7],[]),([8,5,7,0,1,2,3,4,5,6,7],[5,8])])
def impl_copyMachine.B1:List Nat:= [0,1,3,0,8,31,31,127,255,511]
theorem impl_copyMachine.tab1:rtab .any (opsOf Try.f55 1)=impl_copyMachine.T1:=by kernel_rfl
theorem impl_copyMachine.bits1:waitsOk impl_copyMachine.T1.2 impl_copyMachine.B1=true:=by kernel_rfl
set_option maxHeartbeats 40000000 in
set_option maxRecDepth 100000 in
theorem impl_copyMachine.calls (A0_0:Option Addr) (c0_0:Nat) (l0_0:List (S33)) (a0_1:Int) (a0_2:Int) (a0_3:Int) (a0_4:Bool) (a0_5:Int) (a0_6:Bool) (a0_7:Int) (a0_8:Int) (A0_9:Option Addr) (c0_9:Nat) (l0_9:List Int) (A0_10:Option Addr) (c0_10:Nat) (l0_10:List Int) (a0_11:Int) (a0_12:Bool) (a0_13:Int) (r1:List (S33)) (r2:Int) (r3:Int) (r4:Int) (r5:Bool) (r6:Int) (r7:Bool) (r8:Int) (r9:Int) (r10:List Int) (r11:List Int) (r12:Int) (r13:Bool) (r14:Int) (w:World) (hr0_0:Kd.C k33 w A0_0 l0_0.length l0_0) (hc0_0:l0_0.length≤c0_0) (hr0_9:Kd.C (Kd.int .i64) w A0_9 l0_9.length l0_9) (hc0_9:l0_9.length≤c0_9) (hr0_10:Kd.C (Kd.int .i64) w A0_10 l0_10.length l0_10) (hc0_10:l0_10.length≤c0_10) (h:impl_copyMachine.f l0_0 a0_1 a0_2 a0_3 a0_4 a0_5 a0_6 a0_7 a0_8 l0_9 l0_10 a0_11 a0_12 a0_13=some (r1,r2,r3,r4,r5,r6,r7,r8,r9,r10,r11,r12,r13,r14)):
    Calls Try.prog 55 #[G #[L A0_0 l0_0.length c0_0,V I a0_1,V I a0_2,V I a0_3,O a0_4,V I a0_5,O a0_6,V I a0_7,V I a0_8,L A0_9 l0_9.length c0_9,L A0_10 l0_10.length c0_10,V I a0_11,O a0_12,V I a0_13]] w fun e w'=>∃v0_ v9_ v10_:Value,e=.returned (G #[v0_,V I r2,V I r3,V I r4,O r5,V I r6,O r7,V I r8,V I r9,v9_,v10_,V I r12,O r13,V I r14])∧Kd.R k33 33 w' w.heap.size (fun _=>True) v0_ r1∧Kd.R (Kd.int .i64) 3 w' w.heap.size (fun k_=>some k_≠(v10_:Value).ownBlock) v9_ r10∧Kd.R (Kd.int .i64) 3 w' w.heap.size (fun k_=>some k_≠(v9_:Value).ownBlock) v10_ r11∧Below w.heap.size w w':=by
  have hu1:=Try.underlying36
  have hu2:=Try.underlying34
  have HR1_0:=C hr0_0
  have HC1_0:=C hc0_0
  (try clear hr0_0);(try clear hc0_0)
  have HR1_9:=C hr0_9
  have HC1_9:=C hc0_9
  (try clear hr0_9);(try clear hc0_9)
  have HR1_10:=C hr0_10
  have HC1_10:=C hc0_10
  (try clear hr0_10);(try clear hc0_10)
  have HB:=C (Below.refl w.heap.size w)
  have H:=h
  unfold impl_copyMachine.f at H
  clear h
  obtain⟨t1,A1,H⟩:=bnd H
  obtain⟨⟨t2,t3,t4,t5,t6,t7⟩,A2,H⟩:=bnd H
  dsimp only at H
  simp only[Option.some.injEq,Prod.mk.injEq]at H
  obtain⟨rfl,rfl,rfl,rfl,rfl,rfl,rfl,rfl,rfl,rfl,rfl,rfl,rfl,rfl⟩:=H
  go_enter Try.func55,Try.ntmps55
  try go_wp2_with (first|((with_reducible refine gate_dst (N:=1) rfl ?_);refine Fix.be 1 #[L A0_0 l0_0.length c0_0,V I a0_1,V I a0_2,V I a0_3,O a0_4,V I a0_5,O a0_6,V I a0_7,V I a0_8,L A0_9 l0_9.length c0_9,L A0_10 l0_10.length c0_10,V I a0_11,O a0_12,V I a0_13] 36 ?_;intro gb1 hg w2 BK1 hb;have GW1:D (w.heap.size≤gb1):=gE hg;have GE1:=GW1;replace HB:=eB hb;clear hb hg)|((with_reducible refine gate_dst (N:=2) rfl ?_);refine Fix.be 2 #[L none 0 0,V I 0,V I 0,V I 0,O false,V I 0,O false,V I 0,V I 0,L none 0 0,L none 0 0,V I 0,O false,V I 0] 36 ?_;intro gb2 hg w3 BK2 hb;have GW2:D (w.heap.size≤gb2):=gE hg;have GE2:=GW2;have NB1_246:=nL hg BK1;have NB2_245:=nG hg BK1;replace BK1:=eK BK1 hb;replace HB:=eB hb;clear hb hg))
  replace BK1:=dK BK1
  replace BK2:=dK BK2
  replace HB:=dB HB
  refine start_ (n:=10) (S:=fun w'=>cl14 w' gb1 (L A0_0 l0_0.length c0_0) (V I a0_1) (V I a0_2) (V I a0_3) (O a0_4) (V I a0_5) (O a0_6) (V I a0_7) (V I a0_8) (L A0_9 l0_9.length c0_9) (L A0_10 l0_10.length c0_10) (V I a0_11) (O a0_12) (V I a0_13)) (ds:= [7,9]) #[false,false,false,false,false,false,false,false,false,false] (by kernel_rfl) rfl rfl hh (fun hHeld=> ?_);refine with_tabW impl_copyMachine.tab1 impl_copyMachine.bits1 (fun HT_ HW_=> ?_)
  generalize w3.drew=w4 at BK1 BK2 HB hHeld ⊢
  refine pu 0 (some 3) ?_
  refine pu 3 (some 6) ?_
  refine tu 1 (some 4) hHeld ?_
  refine tu 4 (some 7) hHeld ?_
  refine ou 2 (some 5) (fun K hK=> ?_)
  refine gs Try.func89 #[L A0_0 l0_0.length c0_0] ?_
  with_reducible refine(impl_Job_89.calls _ _ l0_0 t1 _ ?side1 ?side2 A1.out).mono ?_
  (case side1=>exact uC (Z HR1_0.out HB.out))
  (case side2=>exact HC1_0.out)
  rintro e w5 ⟨v1,rfl,ho1,hb⟩
  refine⟨_,rfl,?_⟩
  have HO1:=lR ho1
  replace BK1:=eK BK1 hb
  replace BK2:=eK BK2 hb
  replace HB:=eB hb
  (try clear hb)
  refine hK.out _ _ hh (fun hHeld=> ?_)
  clear hK K
  refine nu (N:=(some 5)) ?_
  refine pu 6 (some 9) ?_
  refine ou 5 (some 8) (fun K hK=> ?_)
  refine gs Try.func90 #[G #[V I a0_7,V I a0_8,L A0_9 l0_9.length c0_9,L A0_10 l0_10.length c0_10,V I a0_11,O a0_12]] ?_
  with_reducible refine(impl_copyLine.calls a0_7 a0_8 _ _ l0_9 _ _ l0_10 a0_11 a0_12 t2 t3 t4 t5 t6 t7 _ ?side1 ?side2 ?side3 ?side4 A2.out).mono ?_
  (case side1=>exact uC (Z HR1_9.out HB.out))
  (case side2=>exact HC1_9.out)
  (case side3=>exact uC (Z HR1_10.out HB.out))
  (case side4=>exact HC1_10.out)
  rintro e w6 ⟨v2,v3,rfl,ho1,ho2,hb⟩
  refine⟨_,rfl,?_⟩
  have HO2:=lR ho1
  have HO3:=lR ho2
  replace HO1:=eR HO1 hb
  replace BK1:=eK BK1 hb
  replace BK2:=eK BK2 hb
  replace HB:=eB hb
  (try clear hb)
  obtain⟨Ao1,co1,eo1⟩:=Kd.R_slice HO1.out
  (first|subst eo1|(injection eo1 with f1_ f2_ f3_;have f4_:=f1_.symm;have f5_:=f3_.symm;clear f1_ f2_ f3_;subst f4_;subst f5_))
  obtain⟨Ao2,co2,eo2⟩:=Kd.R_slice HO2.out
  (first|subst eo2|(injection eo2 with f1_ f2_ f3_;have f4_:=f1_.symm;have f5_:=f3_.symm;clear f1_ f2_ f3_;subst f4_;subst f5_))
  obtain⟨Ao3,co3,eo3⟩:=Kd.R_slice HO3.out
  (first|subst eo3|(injection eo3 with f1_ f2_ f3_;have f4_:=f1_.symm;have f5_:=f3_.symm;clear f1_ f2_ f3_;subst f4_;subst f5_))
  refine hK.out _ _ hh (fun hHeld=> ?_)
  clear hK K
  refine nu (N:=(some 8)) ?_
  refine last_ (i:=7) (N:=none) #[true,true,true,true,true,true,true,true,false,false] rfl rfl (one_of HT_.out (by kernel_rfl)) (by decide) (fun K hK=> ?_)
  have hs1:w6.cell? ⟨gb1,0,none⟩=some (L A0_0 l0_0.length c0_0):=(blk_cell BK1.out 0).trans rfl
  have hfs1:=blk_frozen BK1.out 0
  have hns1_1:=NB2_245.out
  have hms1_1:=NB1_246.out
  refine skip_ (w1:= ?_) (by rfl) rfl ?_ ?_
  rotate_left
  · go_simp
    rfl
  refine hK.out _ _ ?_
  clear hK K
  refine pu 8 (some 10) ?_
  refine last_ (i:=9) (N:=none) #[true,true,true,true,true,true,true,true,true,true] rfl rfl (one_of HT_.out (by kernel_rfl)) (by decide) (fun K hK=> ?_)
  have hs2:w6.cell? ⟨gb1,7,none⟩=some (V I a0_7):=(blk_cell BK1.out 7).trans rfl
  have hfs2:=blk_frozen BK1.out 7
  have hns2_1:=NB2_245.out
  have hms2_1:=NB1_246.out
  have hs3:w6.cell? ⟨gb1,8,none⟩=some (V I a0_8):=(blk_cell BK1.out 8).trans rfl
  have hfs3:=blk_frozen BK1.out 8
  have hns3_1:=NB2_245.out
  have hms3_1:=NB1_246.out
  have hs4:w6.cell? ⟨gb1,9,none⟩=some (L A0_9 l0_9.length c0_9):=(blk_cell BK1.out 9).trans rfl
  have hfs4:=blk_frozen BK1.out 9
  have hns4_1:=NB2_245.out
  have hms4_1:=NB1_246.out
  have hs5:w6.cell? ⟨gb1,10,none⟩=some (L A0_10 l0_10.length c0_10):=(blk_cell BK1.out 10).trans rfl
  have hfs5:=blk_frozen BK1.out 10
  have hns5_1:=NB2_245.out
  have hms5_1:=NB1_246.out
  have hs6:w6.cell? ⟨gb1,11,none⟩=some (V I a0_11):=(blk_cell BK1.out 11).trans rfl
  have hfs6:=blk_frozen BK1.out 11
  have hns6_1:=NB2_245.out
  have hms6_1:=NB1_246.out
  have hs7:w6.cell? ⟨gb1,12,none⟩=some (O a0_12):=(blk_cell BK1.out 12).trans rfl
  have hfs7:=blk_frozen BK1.out 12
  have hns7_1:=NB2_245.out
  have hms7_1:=NB1_246.out
  refine skip_ (w1:= ?_) (by rfl) rfl ?_ ?_
  rotate_left
  · go_simp
    rfl
  refine hK.out _ _ ?_
  clear hK K
  refine done_ (done_of HT_.out (by kernel_rfl)) ?_
  have hnb1:=NB1_246.out
  have hnc1:=NB2_245.out
  have h_:=d14 BK1.out;(repeat(obtain⟨_,h_⟩:=h_))
  have h_:=d14 BK2.out;(repeat(obtain⟨_,h_⟩:=h_))
  try go_wp2
  refine bodyPost_ret (results_cell_row rfl _ _ gb2 36 #[L Ao1 t1.length co1,V I a0_1,V I a0_2,V I a0_3,O a0_4,V I a0_5,O a0_6,V I t2,V I t3,L Ao2 t4.length co2,L Ao3 t5.length co3,V I t6,O t7,V I a0_13] (0,0) _ rfl (bK BK2.out) Try.underlying36 rfl (by kernel_rfl)) rfl ?_
  exact⟨_,_,_,rE,X (fR (Kd.R_types (Kd.R_types HO1.out BK1.out (by decide)) BK2.out (by decide))) (fun _ hk=>trivial),X (fR (Kd.R_types (Kd.R_types HO2.out BK1.out (by decide)) BK2.out (by decide))) (fun _ hk=>hk.1.1),X (fR (Kd.R_types (Kd.R_types HO3.out BK1.out (by decide)) BK2.out (by decide))) (fun _ hk=>hk.1.1),uB⟩
def impl_jobOf.f (a0_0:Int) (a0_1:Int) (a0_2:Int) (a0_3:Int):Option (Int×Int×Int×Bool×Int×Bool):=some (a0_1,a0_2,1,false,a0_3,(a0_3==9))
set_option maxHeartbeats 40000000 in
set_option maxRecDepth 100000 in
theorem impl_jobOf.calls (a0_0:Int) (a0_1:Int) (a0_2:Int) (a0_3:Int) (r1:Int) (r2:Int) (r3:Int) (r4:Bool) (r5:Int) (r6:Bool) (w:World) (h:impl_jobOf.f a0_0 a0_1 a0_2 a0_3=some (r1,r2,r3,r4,r5,r6)):
    Calls Try.prog 69 #[G #[V I a0_0,V I a0_1,V I a0_2,V I a0_3]] w fun e w'=>e=.returned (G #[V I r1,V I r2,V I r3,O r4,V I r5,O r6])∧Below w.heap.size w w':=by
  have hu1:=Try.underlying53
  have hu2:=Try.underlying33
  have HB:=C (Below.refl w.heap.size w)
  have H:=h
  unfold impl_jobOf.f at H
  clear h
  simp only[Option.some.injEq,Prod.mk.injEq]at H
  obtain⟨rfl,rfl,rfl,rfl,rfl,rfl⟩:=H
  go_enter Try.func69,Try.ntmps69
  go_wp2_with (first|((with_reducible refine gate_dst (N:=1) rfl ?_);refine Fix.be 1 #[V I a0_0,V I a0_1,V I a0_2,V I a0_3] 53 ?_;intro gb1 hg w1 BK1 hb;have GW1:D (w.heap.size≤gb1):=gE hg;have GE1:=GW1;replace HB:=eB hb;clear hb hg)|((with_reducible refine gate_dst (N:=2) rfl ?_);refine Fix.be 2 #[V I 0,V I 0,V I 0,O false,V I 0,O false] 33 ?_;intro gb2 hg w2 BK2 hb;have GW2:D (w.heap.size≤gb2):=gE hg;have GE2:=GW2;have NB1_261:=nL hg BK1;have NB2_260:=nG hg BK1;replace BK1:=eK BK1 hb;replace HB:=eB hb;clear hb hg;have hnb1:=NB1_261.out;have hnc1:=NB2_260.out;have h_:=d4 BK1.out;(repeat(obtain⟨_,h_⟩:=h_));obtain⟨hcz1_0,hcz1_1,hcz1_2,hcz1_3,hcz1_4,hcz1_5,hfz1_0,hfz1_1,hfz1_2,hfz1_3,hfz1_4,hfz1_5⟩:=d6 BK2.out))
  refine bodyPost_ret (results_cell_row rfl _ _ gb2 33 #[V I a0_1,V I a0_2,V I 1,O false,V I a0_3,O (a0_3==9)] (0,0) _ rfl (bK BK2.out) Try.underlying33 rfl (by kernel_rfl)) rfl ?_
  exact⟨rE,uB⟩
def impl_ActOk.j0:Nat→Int→Bool→Int→Int→Int→Int→Option (Bool)
  |0,_,_,_,_,_,_=>none
  |k+1,x4,x10,x263000,x263001,x263002,x263003=>if x10=true then(if x263001=0 then(if x263002=0 then(some (x263003==0)) else(some false)) else(some false)) else(if x4=3 then((impl_within.f x263001 1 5).bind fun t270=>(if t270=true then(if x263002=0 then(some (x263003==0)) else(some false)) else(some false))) else(if x4=5 then((impl_within.f x263001 1 9999).bind fun t271=>(if t271=true then(if x263002=0 then(some (x263003==0)) else(some false)) else(some false))) else(some false)))
def impl_ActOk.f (k:Nat) (a0_0:Int) (a0_1:Int) (a0_2:Int) (a0_3:Int):Option (Bool):=if a0_0=1 then((impl_jobOf.f a0_0 a0_1 a0_2 a0_3).bind fun bt263=>((impl_JobOk.f bt263.1 bt263.2.1 bt263.2.2.1 bt263.2.2.2.1 bt263.2.2.2.2.1 bt263.2.2.2.2.2).bind fun t269=>(some t269))) else(if a0_0=2 then(impl_ActOk.j0 k a0_0 (a0_0==2) a0_0 a0_1 a0_2 a0_3) else(impl_ActOk.j0 k a0_0 (a0_0==4) a0_0 a0_1 a0_2 a0_3))
theorem impl_ActOk.mono_l:∀k,(∀y0 y1 y2 y3 y4 y5,LeO (impl_ActOk.j0 k y0 y1 y2 y3 y4 y5) (impl_ActOk.j0 (k+1) y0 y1 y2 y3 y4 y5))
  |0=>fun _ _ _ _ _ _ r h=>by simp[impl_ActOk.j0]at h
  |k+1=>by
    have ih0:=impl_ActOk.mono_l k
    · intro y0 y1 y2 y3 y4 y5
      unfold impl_ActOk.j0
      repeat' first|(with_reducible first|apply ih0|exact LeO.refl _|exact LeO.none _|refine LeO.ite ?_ ?_|refine LeO.bind ?_ (fun _=> ?_))|apply ih0|exact LeO.none _|refine LeO.ite ?_ ?_|refine LeO.bind ?_ (fun _=> ?_)
theorem impl_ActOk.mono:∀a0 a1 a2 a3 k,LeO (impl_ActOk.f k a0 a1 a2 a3) (impl_ActOk.f (k+1) a0 a1 a2 a3):=by
  intro a0 a1 a2 a3 k
  have ih0:=impl_ActOk.mono_l k
  unfold impl_ActOk.f
  repeat' first|(with_reducible first|apply ih0|exact LeO.refl _|exact LeO.none _|refine LeO.ite ?_ ?_|refine LeO.bind ?_ (fun _=> ?_))|apply ih0|exact LeO.none _|refine LeO.ite ?_ ?_|refine LeO.bind ?_ (fun _=> ?_)
theorem impl_ActOk.W1 {p:Prop} (h:p:=by
    go_wp2
    go_meet
    first
      |(case rel=>exact⟨_,((a0_0==2)),rS,H',⟨oL⟩,⟨bK BK1.out⟩,⟨uB⟩⟩)
      |(case rel=>exact⟨_,((a0_0==4)),rS,H',⟨oL⟩,⟨bK BK1.out⟩,⟨uB⟩⟩)):p:=h
theorem impl_ActOk.W2 {p:Prop} (h:p:=by
    go_wp2
    go_ret
    exact⟨rE,uB⟩):p:=h
theorem impl_ActOk.W3 {p:Prop} (h:p:=by
    go_wp2_with (first|((with_reducible refine gate_callee (f:=46) rfl ?_);refine gl 46 (some 30) Try.func46 #[V I a0_1,V I 1,V I 5] ?_;(with_reducible refine(impl_within.calls a0_1 1 5 true _ A1.out).mono ?_);rintro e w' ⟨rfl,⟨nd,rfl⟩⟩;refine⟨_,rfl,?_⟩))
    go_ret
    exact⟨rE,uB⟩):p:=h
theorem impl_ActOk.W4 {p:Prop} (h:p:=by
    go_wp2_with (first|((with_reducible refine gate_callee (f:=46) rfl ?_);refine gl 46 (some 45) Try.func46 #[V I a0_1,V I 1,V I 9999] ?_;(with_reducible refine(impl_within.calls a0_1 1 9999 true _ A1.out).mono ?_);rintro e w' ⟨rfl,⟨nd,rfl⟩⟩;refine⟨_,rfl,?_⟩))
    go_ret
    exact⟨rE,uB⟩):p:=h
set_option maxHeartbeats 40000000 in
set_option maxRecDepth 100000 in
theorem impl_ActOk.calls (k:Nat) (a0_0:Int) (a0_1:Int) (a0_2:Int) (a0_3:Int) (r:Bool) (w:World) (h:impl_ActOk.f k a0_0 a0_1 a0_2 a0_3=some r):
    Calls Try.prog 67 #[G #[V I a0_0,V I a0_1,V I a0_2,V I a0_3]] w fun e w'=>e=.returned (O r)∧Below w.heap.size w w':=by
  have hu1:=Try.underlying53
  have HB:=C (Below.refl w.heap.size w)
  have H:=h
  unfold impl_ActOk.f at H
  clear h
  by_cases c1:a0_0=1
  · rw[if_pos c1]at H
    have c1b0:(a0_0==1)=true:=beq_iff_eq.mpr c1
    have c1b1:(a0_0 !=1)=false:=bne_eq_false_iff_eq.mpr c1
    clear c1
    obtain⟨⟨t1,t2,t3,t4,t5,t6⟩,A1,H⟩:=bnd H
    dsimp only at H
    obtain⟨t7,A2,H⟩:=bnd H
    obtain rfl:=Option.some.inj H
    go_enter Try.func67,Try.ntmps67
    go_wp2_with (first|((with_reducible refine gate_dst (N:=1) rfl ?_);refine Fix.be 1 #[V I a0_0,V I a0_1,V I a0_2,V I a0_3] 53 ?_;intro gb1 hg w1 BK1 hb;have GW1:D (w.heap.size≤gb1):=gE hg;have GE1:=GW1;replace HB:=eB hb;clear hb hg;obtain⟨hcz1_0,hcz1_1,hcz1_2,hcz1_3,hfz1_0,hfz1_1,hfz1_2,hfz1_3⟩:=d4 BK1.out)|((with_reducible refine gate_callee (f:=69) rfl ?_);refine gl 69 (some 8) Try.func69 #[G #[V I a0_0,V I a0_1,V I a0_2,V I a0_3]] ?_;(with_reducible refine(impl_jobOf.calls a0_0 a0_1 a0_2 a0_3 t1 t2 t3 t4 t5 t6 _ A1.out).mono ?_);rintro e w2 ⟨rfl,hb⟩;refine⟨_,rfl,?_⟩;replace BK1:=eK BK1 hb;replace HB:=eB hb;clear hb)|((with_reducible refine gate_callee (f:=47) rfl ?_);refine gl 47 (some 9) Try.func47 #[G #[V I t1,V I t2,V I t3,O t4,V I t5,O t6]] ?_;(with_reducible refine(impl_JobOk.calls t1 t2 t3 t4 t5 t6 t7 _ A2.out).mono ?_);rintro e w3 ⟨rfl,hb⟩;refine⟨_,rfl,?_⟩;replace BK1:=eK BK1 hb;replace HB:=eB hb;clear hb))
    go_ret
    exact⟨rE,uB⟩
  · rw[if_neg c1]at H
    have c1b0:(a0_0==1)=false:=beq_eq_false_iff_ne.mpr c1
    have c1b1:(a0_0 !=1)=true:=bne_iff_ne.mpr c1
    have HC1:=C H
    clear H
    go_enter Try.func67,Try.ntmps67
    go_upto_if 10 with(first|((with_reducible refine gate_dst (N:=1) rfl ?_);refine Fix.be 1 #[V I a0_0,V I a0_1,V I a0_2,V I a0_3] 53 ?_;intro gb1 hg w1 BK1 hb;have GW1:D (w.heap.size≤gb1):=gE hg;have GE1:=GW1;replace HB:=eB hb;clear hb hg;have h_:=d4 BK1.out;(repeat(obtain⟨_,h_⟩:=h_))))
    (try simp only[Act.put,List.setIfInBounds_toArray,List.set_cons_zero,List.set_cons_succ])
    go_cut [10] (fun v10 wc=>∃(kq:Nat) (x1_8:Bool),v10=O x1_8∧D (impl_ActOk.j0 kq a0_0 x1_8 a0_0 a0_1 a0_2 a0_3=some r)∧D (kq≤k)∧D (wc.heap[gb1]? =some (.cells #[V I a0_0,V I a0_1,V I a0_2,V I a0_3] 53 (0,0)))∧D (Below w.heap.size w wc))
    case first=>
      have H:=HC1.out
      clear HC1
      by_cases c2:a0_0=2
      · rw[if_pos c2]at H
        have c2b0:(a0_0==2)=true:=beq_iff_eq.mpr c2
        have c2b1:(a0_0 !=2)=false:=bne_eq_false_iff_eq.mpr c2
        clear c2
        (first|rw[c2b0]|(simp only[i64_w,i32_w];rw[c2b0])|skip)
        have H':=C H
        clear H
        exact impl_ActOk.W1
      · rw[if_neg c2]at H
        have c2b0:(a0_0==2)=false:=beq_eq_false_iff_ne.mpr c2
        have c2b1:(a0_0 !=2)=true:=bne_iff_ne.mpr c2
        (first|rw[c2b0]|(simp only[i64_w,i32_w];rw[c2b0])|skip)
        have H':=C H
        clear H
        exact impl_ActOk.W1
    case rest=>
      clear HC1
      obtain⟨kq,x1_8,rfl,HA,HJ1,BK1,HB⟩:=hcut
      cases kq with
      |zero=>exact absurd HA.out (by simp[impl_ActOk.j0])
      |succ kj8=>
        have H:=HA.out
        clear HA
        simp only[impl_ActOk.j0]at H
        by_cases c2:x1_8=true
        · subst c2
          rw[if_pos rfl]at H
          by_cases c3:a0_1=0
          · rw[if_pos c3]at H
            have c3b0:(a0_1==0)=true:=beq_iff_eq.mpr c3
            have c3b1:(a0_1 !=0)=false:=bne_eq_false_iff_eq.mpr c3
            clear c3
            by_cases c4:a0_2=0
            · rw[if_pos c4]at H
              have c4b0:(a0_2==0)=true:=beq_iff_eq.mpr c4
              have c4b1:(a0_2 !=0)=false:=bne_eq_false_iff_eq.mpr c4
              clear c4
              obtain rfl:=Option.some.inj H
              have h_:=d4 BK1.out;(repeat(obtain⟨_,h_⟩:=h_))
              exact impl_ActOk.W2
            · rw[if_neg c4]at H
              have c4b0:(a0_2==0)=false:=beq_eq_false_iff_ne.mpr c4
              have c4b1:(a0_2 !=0)=true:=bne_iff_ne.mpr c4
              obtain rfl:=Option.some.inj H
              have h_:=d4 BK1.out;(repeat(obtain⟨_,h_⟩:=h_))
              exact impl_ActOk.W2
          · rw[if_neg c3]at H
            have c3b0:(a0_1==0)=false:=beq_eq_false_iff_ne.mpr c3
            have c3b1:(a0_1 !=0)=true:=bne_iff_ne.mpr c3
            obtain rfl:=Option.some.inj H
            have h_:=d4 BK1.out;(repeat(obtain⟨_,h_⟩:=h_))
            exact impl_ActOk.W2
        · replace c2:=Bool.eq_false_iff.mpr c2
          subst c2
          rw[if_neg Bool.false_ne_true]at H
          by_cases c3:a0_0=3
          · rw[if_pos c3]at H
            have c3b0:(a0_0==3)=true:=beq_iff_eq.mpr c3
            have c3b1:(a0_0 !=3)=false:=bne_eq_false_iff_eq.mpr c3
            clear c3
            obtain⟨t1,A1,H⟩:=bnd H
            by_cases c4:t1=true
            · subst c4
              rw[if_pos rfl]at H
              by_cases c5:a0_2=0
              · rw[if_pos c5]at H
                have c5b0:(a0_2==0)=true:=beq_iff_eq.mpr c5
                have c5b1:(a0_2 !=0)=false:=bne_eq_false_iff_eq.mpr c5
                clear c5
                obtain rfl:=Option.some.inj H
                have h_:=d4 BK1.out;(repeat(obtain⟨_,h_⟩:=h_))
                exact impl_ActOk.W3
              · rw[if_neg c5]at H
                have c5b0:(a0_2==0)=false:=beq_eq_false_iff_ne.mpr c5
                have c5b1:(a0_2 !=0)=true:=bne_iff_ne.mpr c5
                obtain rfl:=Option.some.inj H
                have h_:=d4 BK1.out;(repeat(obtain⟨_,h_⟩:=h_))
                exact impl_ActOk.W3
            · replace c4:=Bool.eq_false_iff.mpr c4
              subst c4
              rw[if_neg Bool.false_ne_true]at H
              obtain rfl:=Option.some.inj H
              have h_:=d4 BK1.out;(repeat(obtain⟨_,h_⟩:=h_))
              go_wp2_with (first|((with_reducible refine gate_callee (f:=46) rfl ?_);refine gl 46 (some 30) Try.func46 #[V I a0_1,V I 1,V I 5] ?_;(with_reducible refine(impl_within.calls a0_1 1 5 false _ A1.out).mono ?_);rintro e w' ⟨rfl,⟨nd,rfl⟩⟩;refine⟨_,rfl,?_⟩))
              go_ret
              exact⟨rE,uB⟩
          · rw[if_neg c3]at H
            have c3b0:(a0_0==3)=false:=beq_eq_false_iff_ne.mpr c3
            have c3b1:(a0_0 !=3)=true:=bne_iff_ne.mpr c3
            by_cases c4:a0_0=5
            · rw[if_pos c4]at H
              have c4b0:(a0_0==5)=true:=beq_iff_eq.mpr c4
              have c4b1:(a0_0 !=5)=false:=bne_eq_false_iff_eq.mpr c4
              clear c4
              obtain⟨t1,A1,H⟩:=bnd H
              by_cases c5:t1=true
              · subst c5
                rw[if_pos rfl]at H
                by_cases c6:a0_2=0
                · rw[if_pos c6]at H
                  have c6b0:(a0_2==0)=true:=beq_iff_eq.mpr c6
                  have c6b1:(a0_2 !=0)=false:=bne_eq_false_iff_eq.mpr c6
                  clear c6
                  obtain rfl:=Option.some.inj H
                  have h_:=d4 BK1.out;(repeat(obtain⟨_,h_⟩:=h_))
                  exact impl_ActOk.W4
                · rw[if_neg c6]at H
                  have c6b0:(a0_2==0)=false:=beq_eq_false_iff_ne.mpr c6
                  have c6b1:(a0_2 !=0)=true:=bne_iff_ne.mpr c6
                  obtain rfl:=Option.some.inj H
                  have h_:=d4 BK1.out;(repeat(obtain⟨_,h_⟩:=h_))
                  exact impl_ActOk.W4
              · replace c5:=Bool.eq_false_iff.mpr c5
                subst c5
                rw[if_neg Bool.false_ne_true]at H
                obtain rfl:=Option.some.inj H
                have h_:=d4 BK1.out;(repeat(obtain⟨_,h_⟩:=h_))
                go_wp2_with (first|((with_reducible refine gate_callee (f:=46) rfl ?_);refine gl 46 (some 45) Try.func46 #[V I a0_1,V I 1,V I 9999] ?_;(with_reducible refine(impl_within.calls a0_1 1 9999 false _ A1.out).mono ?_);rintro e w' ⟨rfl,⟨nd,rfl⟩⟩;refine⟨_,rfl,?_⟩))
                go_ret
                exact⟨rE,uB⟩
            · rw[if_neg c4]at H
              have c4b0:(a0_0==5)=false:=beq_eq_false_iff_ne.mpr c4
              have c4b1:(a0_0 !=5)=true:=bne_iff_ne.mpr c4
              obtain rfl:=Option.some.inj H
              exact impl_ActOk.W2
def impl_AddJob.f (k:Nat) (l0:List (S33)) (a1_0:Int) (a1_1:Int) (a1_2:Int) (a1_3:Bool) (a1_4:Int) (a1_5:Bool):Option ((List (S33))×Bool):=(impl_Job_89.f l0).bind fun t273=>((some (([(⟨a1_0,a1_1,a1_2,a1_3,a1_4,a1_5⟩:S33)]:List (S33)):List (S33))).bind fun y276=>(if t273.length+y276.length<2932031007402 then((some (t273++y276:List (S33))).bind fun y279=>((impl_JobsOk.f k l0).bind fun t282=>(if t282=true then((impl_JobsOk.f k y279).bind fun t283=>(if t283=true then(some (y279,true)) else((impl_Job_89.f l0).bind fun t284=>(some (t284,false))))) else((impl_Job_89.f l0).bind fun t287=>(some (t287,false)))))) else(none)))
theorem impl_AddJob.mono:∀a0 a1 a2 a3 a4 a5 a6 k,LeO (impl_AddJob.f k a0 a1 a2 a3 a4 a5 a6) (impl_AddJob.f (k+1) a0 a1 a2 a3 a4 a5 a6):=by
  intro a0 a1 a2 a3 a4 a5 a6 k
  unfold impl_AddJob.f
  repeat' first|(with_reducible first|apply impl_JobsOk.mono|exact LeO.refl _|exact LeO.none _|refine LeO.ite ?_ ?_|refine LeO.bind ?_ (fun _=> ?_))|exact LeO.none _|refine LeO.ite ?_ ?_|refine LeO.bind ?_ (fun _=> ?_)
theorem impl_AddJob.W1 {p:Prop} (h:p:=by
    go_enter Try.func68,Try.ntmps68
    try go_wp2_with (first|((with_reducible refine gate_dst (N:=3) rfl ?_);refine Fix.be 3 #[V I a1_0,V I a1_1,V I a1_2,O a1_3,V I a1_4,O a1_5] 33 ?_;intro gb1 hg w1 BK1 hb;have GW1:D (w.heap.size≤gb1):=gE hg;have GE1:=GW1;replace HB:=eB hb;clear hb hg))
    replace BK1:=dK BK1
    replace HB:=dB HB
    refine start_ (n:=6) (S:=fun w'=>cl6 w' gb1 (V I a1_0) (V I a1_1) (V I a1_2) (O a1_3) (V I a1_4) (O a1_5)) (ds:= []) #[false,false,false,false,false,false] (by kernel_rfl) rfl rfl hh (fun hHeld=> ?_)
    generalize w1.drew=w2 at BK1 HB hHeld ⊢
    refine pu 0 (some 7) ?_
    refine tu 2 (some 9) hHeld ?_
    refine join_ (σ:=Value×Value) 2 #[true,true,true,true,false,false] (fun s_=> [(8,s_.1),(10,s_.2)]) (fun s_ w'=>(cl6 w' gb1 (V I a1_0) (V I a1_1) (V I a1_2) (O a1_3) (V I a1_4) (O a1_5))∧(Kd.R k33 33 w' w.heap.size (fun k_=>some k_≠(s_.2:Value).ownBlock∧k_≠gb1) s_.1 t1)∧(Kd.R k33 33 w' w.heap.size (fun k_=>some k_≠(s_.1:Value).ownBlock∧k_≠gb1) s_.2 y1)∧(w'.heap[gb1]? =some (.cells #[V I a1_0,V I a1_1,V I a1_2,O a1_3,V I a1_4,O a1_5] 33 (0,0)))∧(Below w.heap.size w w')) ?_ ?_
    rotate_left
    · intro hCont
      refine two_ (i:=1) (j:=3) (Ni:=some 8) (Nj:=some 10) #[true,true,true,false,false,false] #[true,false,true,true,false,false] rfl rfl rfl rfl (by kernel_rfl) (by decide) (by decide) (fun K hK=> ?_) (fun K hK=> ?_)
      · skip
        refine gs Try.func89 #[L A0 l0.length c0] ?_
        with_reducible refine(impl_Job_89.calls _ _ l0 t1 _ ?side1 ?side2 A1.out).mono ?_
        (case side1=>exact uC (Z HR1.out HB.out))
        (case side2=>exact HC1.out)
        rintro e w3 ⟨v1,rfl,ho1,hb⟩
        refine⟨_,rfl,?_⟩
        have HO1:=C (Kd.R_lower (Kd.R_newB ho1 (g:=gb1) (o:=.cells #[V I a1_0,V I a1_1,V I a1_2,O a1_3,V I a1_4,O a1_5] 33 (0,0)) (uK BK1.out)) (below_size uB))
        replace BK1:=eK BK1 hb
        replace HB:=eB hb
        (try clear hb)
        refine hK.out _ _ hh (fun hHeld=> ?_)
        clear hK K
        refine nu (N:=(some 8)) ?_
        refine ou 3 (some 10) (fun K hK=> ?_)
        refine Kd.R_lit_step k33 _ 33 ?hg (N:=10) ?hd (xs:=([(⟨a1_0,a1_1,a1_2,a1_3,a1_4,a1_5⟩:S33)]:List (S33))) (inner:= [V I a1_0,V I a1_1,V I a1_2,O a1_3,V I a1_4,O a1_5]) (ok:=fun _=>True) (okp:=fun _=>True) ?hr ?hp (fun _ hk=>hk) trivial (Below.refl _ _) (Nat.le_refl _) (by simp) ?_;(case hd=>rfl);(case hg=>rfl);(case hr=>exact Fix.hr);(case hp=>exact(Reps.c6 (show Kd.M k33 _ _ _ (⟨a1_0,a1_1,a1_2,a1_3,a1_4,a1_5⟩:S33) [V I a1_0,V I a1_1,V I a1_2,O a1_3,V I a1_4,O a1_5] from(k33_mkM _ _ _ (⟨a1_0,a1_1,a1_2,a1_3,a1_4,a1_5⟩:S33))) (Reps.none _ _)))
        intro v2 w4 ho2 hb hg_ hnew_
        clear hg_ hnew_
        (first|rw[←Ny1.out]at ho2|(simp only[Int.reduceToNat]at ho2;rw[←Ny1.out]at ho2))
        have HO2:=C (Kd.R_lower (Kd.R_newB (Kd.R_new' ho2 (Kd.R_lt (uR HO1.out))) (g:=gb1) (o:=.cells #[V I a1_0,V I a1_1,V I a1_2,O a1_3,V I a1_4,O a1_5] 33 (0,0)) (uK BK1.out)) (below_size uB))
        replace HO1:=C (Kd.R_elder' (uR HO1.out) (Kd.R_base ho2) hb)
        replace BK1:=eK BK1 hb
        replace HB:=eB hb
        clear hb ho2
        refine hK.out _ _ hh (fun hHeld=> ?_)
        clear hK K
        refine nu (N:=(some 10)) ?_
        exact norm_ (by simp only[putAll,Act.put,List.setIfInBounds_toArray,List.set_cons_zero,List.set_cons_succ]) (hCont (v1,v2) _ ⟨hHeld,(X (fR HO1.out) (fun _ hk=>⟨hk.2,hk.1.2⟩)),(X (fR HO2.out) (fun _ hk=>⟨hk.1.2,hk.2⟩)),(uK BK1.out),uB⟩)
      · skip
        refine Kd.R_lit_step k33 _ 33 ?hg (N:=10) ?hd (xs:=([(⟨a1_0,a1_1,a1_2,a1_3,a1_4,a1_5⟩:S33)]:List (S33))) (inner:= [V I a1_0,V I a1_1,V I a1_2,O a1_3,V I a1_4,O a1_5]) (ok:=fun _=>True) (okp:=fun _=>True) ?hr ?hp (fun _ hk=>hk) trivial (Below.refl _ _) (Nat.le_refl _) (by simp) ?_;(case hd=>rfl);(case hg=>rfl);(case hr=>exact Fix.hr);(case hp=>exact(Reps.c6 (show Kd.M k33 _ _ _ (⟨a1_0,a1_1,a1_2,a1_3,a1_4,a1_5⟩:S33) [V I a1_0,V I a1_1,V I a1_2,O a1_3,V I a1_4,O a1_5] from(k33_mkM _ _ _ (⟨a1_0,a1_1,a1_2,a1_3,a1_4,a1_5⟩:S33))) (Reps.none _ _)))
        intro v1 w3 ho1 hb hg_ hnew_
        clear hg_ hnew_
        (first|rw[←Ny1.out]at ho1|(simp only[Int.reduceToNat]at ho1;rw[←Ny1.out]at ho1))
        have HO1:=C (Kd.R_lower (Kd.R_newB ho1 (g:=gb1) (o:=.cells #[V I a1_0,V I a1_1,V I a1_2,O a1_3,V I a1_4,O a1_5] 33 (0,0)) (uK BK1.out)) (below_size uB))
        replace BK1:=eK BK1 hb
        replace HB:=eB hb
        clear hb ho1
        refine hK.out _ _ hh (fun hHeld=> ?_)
        clear hK K
        refine nu (N:=(some 10)) ?_
        refine ou 1 (some 8) (fun K hK=> ?_)
        refine gs Try.func89 #[L A0 l0.length c0] ?_
        with_reducible refine(impl_Job_89.calls _ _ l0 t1 _ ?side1 ?side2 A1.out).mono ?_
        (case side1=>exact uC (Z HR1.out HB.out))
        (case side2=>exact HC1.out)
        rintro e w4 ⟨v2,rfl,ho2,hb⟩
        refine⟨_,rfl,?_⟩
        have HO2:=C (Kd.R_lower (Kd.R_newB (Kd.R_new' ho2 (Kd.R_lt (uR HO1.out))) (g:=gb1) (o:=.cells #[V I a1_0,V I a1_1,V I a1_2,O a1_3,V I a1_4,O a1_5] 33 (0,0)) (uK BK1.out)) (below_size uB))
        replace HO1:=C (Kd.R_elder' (uR HO1.out) (Kd.R_base ho2) hb)
        replace BK1:=eK BK1 hb
        replace HB:=eB hb
        (try clear hb)
        refine hK.out _ _ hh (fun hHeld=> ?_)
        clear hK K
        refine nu (N:=(some 8)) ?_
        exact norm_ (by simp only[putAll,Act.put,List.setIfInBounds_toArray,List.set_cons_zero,List.set_cons_succ]) (hCont (v2,v1) _ ⟨hHeld,(X (fR HO2.out) (fun _ hk=>⟨hk.1.2,hk.2⟩)),(X (fR HO1.out) (fun _ hk=>⟨hk.2,hk.1.2⟩)),(uK BK1.out),uB⟩)
    rintro⟨v1,v2⟩ w3 ⟨hS_,h1_,h2_,h3_,h4_⟩
    have n0_:D (Kd.R k33 33 w3 w.heap.size (fun k_=>some k_≠(v2:Value).ownBlock∧k_≠gb1) v1 t1):=⟨h1_⟩
    have n1_:D (Kd.R k33 33 w3 w.heap.size (fun k_=>some k_≠(v1:Value).ownBlock∧k_≠gb1) v2 y1):=⟨h2_⟩
    have n2_:D (w3.heap[gb1]? =some (.cells #[V I a1_0,V I a1_1,V I a1_2,O a1_3,V I a1_4,O a1_5] 33 (0,0))):=⟨h3_⟩
    have n3_:D (Below w.heap.size w w3):=⟨h4_⟩
    clear BK1
    clear HB
    clear h1_ h2_ h3_ h4_
    have HO1:=n0_
    have HO2:=n1_
    have BK1:=n2_
    have HB:=n3_
    clear n0_ n1_ n2_ n3_
    have hHeld:w3.cell? ⟨gb1,0,none⟩=some (V I a1_0)∧w3.cell? ⟨gb1,1,none⟩=some (V I a1_1)∧w3.cell? ⟨gb1,2,none⟩=some (V I a1_2)∧w3.cell? ⟨gb1,3,none⟩=some (O a1_3)∧w3.cell? ⟨gb1,4,none⟩=some (V I a1_4)∧w3.cell? ⟨gb1,5,none⟩=some (O a1_5):=hS_
    obtain⟨Ao1,co1,eo1⟩:=Kd.R_slice HO2.out
    (first|subst eo1|(injection eo1 with f1_ f2_ f3_;have f4_:=f1_.symm;have f5_:=f3_.symm;clear f1_ f2_ f3_;subst f4_;subst f5_))
    refine norm_ (a':= ?_) ?_ ?_
    rotate_left
    · simp only[putAll,Act.put,List.setIfInBounds_toArray,List.set_cons_zero,List.set_cons_succ]
      rfl
    refine ou 4 (some 11) (fun K hK=> ?_)
    refine Kd.R_append_rows_step k33 (w0:=w) w.heap.size (by rfl) (.tmp 8) (.tmp 10) 32 33 (G #[(V I 0),(V I 0),(V I 0),(O false),(V I 0),(O false)]) 48 rfl Try.underlying32 info33 rfl (by decide) (by omega) v1 t1 y1 _ _ _ (fun k_=>some k_≠(L Ao1 y1.length co1:Value).ownBlock∧k_≠gb1) (fun _=>False) rfl rfl ?aO ?aR (fun _ _ h=>h) (fun _ h=>h.elim) ?aF ?aB ?aS ?aL ?_
    (case aR=>exact uC (Kd.R_reads' HO2.out).2.2)
    (case aB=>exact uB)
    (case aF=>exact(fun k_ hk=>⟨Kd.fresh' (Kd.R_lt (uR HO2.out)) k_ hk,Kd.freshB (g:=gb1) (o:=.cells #[V I a1_0,V I a1_1,V I a1_2,O a1_3,V I a1_4,O a1_5] 33 (0,0)) (uK BK1.out) k_ hk⟩))
    (case aO=>exact(uR HO1.out))
    (case aS=>exact(below_size uB))
    (case aL=>have:=LMc1.out;omega)
    intro v3 w4 ho hb hg hat
    rw[←Ny2.out]at ho
    have HO3:=C (ho)
    replace BK1:=gK BK1 hg (Kd.R_away HO1.out (fun _ hk=>hk.2))
    replace HO2:=C (Kd.R_after (ok:=(fun k_=>k_≠gb1)) (X (fR HO2.out) (fun _ hk=>⟨hk.2,hk.1⟩)) hg hat)
    replace HB:=C (hb)
    clear HO1
    clear ho hb hg hat
    refine hK.out _ _ hh (fun hHeld=> ?_)
    clear hK K
    refine nu (N:=(some 11)) ?_
    refine pu 5 (some 6) ?_
    refine done_ (by kernel_rfl) ?_
    first
      | (try go_wp2_with (first | ((with_reducible refine gate_callee (f := 44) rfl ?_); refine gl 44 (some 13) Try.func44 #[L A0 l0.length c0] ?_; (with_reducible refine (impl_JobsOk.calls k _ _ l0 true _ ?side1 ?side2 A2.out).mono ?_); (case side1 => exact uC (Z HR1.out HB.out)); (case side2 => exact HC1.out); rintro e w5 ⟨rfl, hb⟩; refine ⟨_, rfl, ?_⟩; replace HO2 := eR HO2 hb; replace HO3 := eR HO3 hb; replace BK1 := eK BK1 hb; replace HB := eB hb; clear hb; obtain ⟨Ao2, co2, eo2⟩ := Kd.R_slice HO3.out; subst eo2) | (go_at_call 44; (with_reducible refine (impl_JobsOk.calls k _ _ y2 true _ ?side1 ?side2 A3.out).mono ?_); (case side1 => exact uC (Kd.R_reads' HO3.out).2.2); (case side2 => exact (Kd.R_reads' HO3.out).2.1); rintro e w6 ⟨rfl, hb⟩; replace HO2 := eR HO2 hb; replace HO3 := eR HO3 hb; replace BK1 := eK BK1 hb; replace HB := eB hb; clear hb))
         go_ret2
         exact⟨_,rE,X (fR HO3.out) (fun _ hk=>trivial),uB⟩)
      | (try go_wp2_with (first | ((with_reducible refine gate_callee (f := 44) rfl ?_); refine gl 44 (some 13) Try.func44 #[L A0 l0.length c0] ?_; (with_reducible refine (impl_JobsOk.calls k _ _ l0 true _ ?side1 ?side2 A2.out).mono ?_); (case side1 => exact uC (Z HR1.out HB.out)); (case side2 => exact HC1.out); rintro e w5 ⟨rfl, hb⟩; refine ⟨_, rfl, ?_⟩; replace HO2 := eR HO2 hb; replace HO3 := eR HO3 hb; replace BK1 := eK BK1 hb; replace HB := eB hb; clear hb; obtain ⟨Ao2, co2, eo2⟩ := Kd.R_slice HO3.out; subst eo2) | (go_at_call 44; (with_reducible refine (impl_JobsOk.calls k _ _ y2 false _ ?side1 ?side2 A3.out).mono ?_); (case side1 => exact uC (Kd.R_reads' HO3.out).2.2); (case side2 => exact (Kd.R_reads' HO3.out).2.1); rintro e w6 ⟨rfl, hb⟩; replace HO2 := eR HO2 hb; replace HO3 := eR HO3 hb; replace BK1 := eK BK1 hb; replace HB := eB hb; clear hb) | ((with_reducible refine gate_callee (f := 89) rfl ?_); refine gl 89 (some 21) Try.func89 #[L A0 l0.length c0] ?_; (with_reducible refine (impl_Job_89.calls _ _ l0 t4 _ ?side1 ?side2 A4.out).mono ?_); (case side1 => exact uC (Z HR1.out HB.out)); (case side2 => exact HC1.out); rintro e w7 ⟨v4, rfl, ho1, hb⟩; refine ⟨_, rfl, ?_⟩; have HO4 := C (Kd.R_lower (Kd.R_newB (Kd.R_new' (Kd.R_new' ho1 (Kd.R_lt (uR HO2.out))) (Kd.R_lt (uR HO3.out))) (g := gb1) (o := .cells #[V I a1_0, V I a1_1, V I a1_2, O a1_3, V I a1_4, O a1_5] 33 (0, 0)) (uK BK1.out)) (below_size uB)); replace HO2 := C (Kd.R_elder' (uR HO2.out) (Kd.R_base ho1) hb); replace HO3 := C (Kd.R_elder' (uR HO3.out) (Kd.R_base ho1) hb); replace BK1 := eK BK1 hb; replace HB := eB hb; clear hb ho1))
         go_ret2
         exact⟨_,rE,X (fR HO4.out) (fun _ hk=>trivial),uB⟩)):p:=h
set_option maxHeartbeats 40000000 in
set_option maxRecDepth 100000 in
theorem impl_AddJob.calls (k:Nat) (A0:Option Addr) (c0:Nat) (l0:List (S33)) (a1_0:Int) (a1_1:Int) (a1_2:Int) (a1_3:Bool) (a1_4:Int) (a1_5:Bool) (r1:List (S33)) (r2:Bool) (w:World) (hr0:Kd.C k33 w A0 l0.length l0) (hc0:l0.length≤c0) (h:impl_AddJob.f k l0 a1_0 a1_1 a1_2 a1_3 a1_4 a1_5=some (r1,r2)):
    Calls Try.prog 68 #[L A0 l0.length c0,G #[V I a1_0,V I a1_1,V I a1_2,O a1_3,V I a1_4,O a1_5]] w fun e w'=>∃v0_:Value,e=.returned (.tuple #[v0_,O r2])∧Kd.R k33 33 w' w.heap.size (fun _=>True) v0_ r1∧Below w.heap.size w w':=by
  have hu1:=Try.underlying33
  have HR1:=C hr0
  have HC1:=C hc0
  (try clear hr0);(try clear hc0)
  have HB:=C (Below.refl w.heap.size w)
  have H:=h
  unfold impl_AddJob.f at H
  clear h
  obtain⟨t1,A1,H⟩:=bnd H
  obtain⟨y1,hy1⟩:∃y_:List (S33),y_=(([(⟨a1_0,a1_1,a1_2,a1_3,a1_4,a1_5⟩:S33)]:List (S33))):=⟨_,rfl⟩
  replace H:(if t1.length+y1.length<2932031007402 then((some (t1++y1:List (S33))).bind fun y2=>((impl_JobsOk.f k l0).bind fun t2=>(if t2=true then((impl_JobsOk.f k y2).bind fun t3=>(if t3=true then(some (y2,true)) else((impl_Job_89.f l0).bind fun t4=>(some (t4,false))))) else((impl_Job_89.f l0).bind fun t5=>(some (t5,false)))))) else(none))=some (r1,r2):=by first|(rw[hy1];with_reducible exact H)|(have H1_:=(Option.bind_some _ _).symm.trans H;rw[hy1];with_reducible exact H1_)|(have H1_:=(Option.bind_some _ _).symm.trans H;with_reducible exact H1_)|with_reducible exact H|(rw[hy1];exact H)|exact H
  have Ny1:=C hy1
  clear hy1
  by_cases c1:t1.length+y1.length<2932031007402
  · rw[if_pos c1]at H
    have LMc1:=C c1
    clear c1
    obtain⟨y2,hy2⟩:∃y_:List (S33),y_=(t1++y1):=⟨_,rfl⟩
    replace H:((impl_JobsOk.f k l0).bind fun t2=>(if t2=true then((impl_JobsOk.f k y2).bind fun t3=>(if t3=true then(some (y2,true)) else((impl_Job_89.f l0).bind fun t4=>(some (t4,false))))) else((impl_Job_89.f l0).bind fun t5=>(some (t5,false)))))=some (r1,r2):=by first|(rw[hy2];with_reducible exact H)|(have H1_:=(Option.bind_some _ _).symm.trans H;rw[hy2];with_reducible exact H1_)|(have H1_:=(Option.bind_some _ _).symm.trans H;with_reducible exact H1_)|with_reducible exact H|(rw[hy2];exact H)|exact H
    have Ny2:=C hy2
    clear hy2
    obtain⟨t2,A2,H⟩:=bnd H
    by_cases c2:t2=true
    · subst c2
      rw[if_pos rfl]at H
      obtain⟨t3,A3,H⟩:=bnd H
      by_cases c3:t3=true
      · subst c3
        rw[if_pos rfl]at H
        simp only[Option.some.injEq,Prod.mk.injEq]at H
        obtain⟨rfl,rfl⟩:=H
        exact impl_AddJob.W1
      · replace c3:=Bool.eq_false_iff.mpr c3
        subst c3
        rw[if_neg Bool.false_ne_true]at H
        obtain⟨t4,A4,H⟩:=bnd H
        simp only[Option.some.injEq,Prod.mk.injEq]at H
        obtain⟨rfl,rfl⟩:=H
        exact impl_AddJob.W1
    · replace c2:=Bool.eq_false_iff.mpr c2
      subst c2
      rw[if_neg Bool.false_ne_true]at H
      obtain⟨t5,A3,H⟩:=bnd H
      simp only[Option.some.injEq,Prod.mk.injEq]at H
      obtain⟨rfl,rfl⟩:=H
      go_enter Try.func68,Try.ntmps68
      try go_wp2_with (first|((with_reducible refine gate_dst (N:=3) rfl ?_);refine Fix.be 3 #[V I a1_0,V I a1_1,V I a1_2,O a1_3,V I a1_4,O a1_5] 33 ?_;intro gb1 hg w1 BK1 hb;have GW1:D (w.heap.size≤gb1):=gE hg;have GE1:=GW1;replace HB:=eB hb;clear hb hg))
      replace BK1:=dK BK1
      replace HB:=dB HB
      refine start_ (n:=6) (S:=fun w'=>cl6 w' gb1 (V I a1_0) (V I a1_1) (V I a1_2) (O a1_3) (V I a1_4) (O a1_5)) (ds:= []) #[false,false,false,false,false,false] (by kernel_rfl) rfl rfl hh (fun hHeld=> ?_)
      generalize w1.drew=w2 at BK1 HB hHeld ⊢
      refine pu 0 (some 7) ?_
      refine tu 2 (some 9) hHeld ?_
      refine join_ (σ:=Value×Value) 2 #[true,true,true,true,false,false] (fun s_=> [(8,s_.1),(10,s_.2)]) (fun s_ w'=>(cl6 w' gb1 (V I a1_0) (V I a1_1) (V I a1_2) (O a1_3) (V I a1_4) (O a1_5))∧(Kd.R k33 33 w' w.heap.size (fun k_=>some k_≠(s_.2:Value).ownBlock∧k_≠gb1) s_.1 t1)∧(Kd.R k33 33 w' w.heap.size (fun k_=>some k_≠(s_.1:Value).ownBlock∧k_≠gb1) s_.2 y1)∧(w'.heap[gb1]? =some (.cells #[V I a1_0,V I a1_1,V I a1_2,O a1_3,V I a1_4,O a1_5] 33 (0,0)))∧(Below w.heap.size w w')) ?_ ?_
      rotate_left
      · intro hCont
        refine two_ (i:=1) (j:=3) (Ni:=some 8) (Nj:=some 10) #[true,true,true,false,false,false] #[true,false,true,true,false,false] rfl rfl rfl rfl (by kernel_rfl) (by decide) (by decide) (fun K hK=> ?_) (fun K hK=> ?_)
        · skip
          refine gs Try.func89 #[L A0 l0.length c0] ?_
          with_reducible refine(impl_Job_89.calls _ _ l0 t1 _ ?side1 ?side2 A1.out).mono ?_
          (case side1=>exact uC (Z HR1.out HB.out))
          (case side2=>exact HC1.out)
          rintro e w3 ⟨v1,rfl,ho1,hb⟩
          refine⟨_,rfl,?_⟩
          have HO1:=C (Kd.R_lower (Kd.R_newB ho1 (g:=gb1) (o:=.cells #[V I a1_0,V I a1_1,V I a1_2,O a1_3,V I a1_4,O a1_5] 33 (0,0)) (uK BK1.out)) (below_size uB))
          replace BK1:=eK BK1 hb
          replace HB:=eB hb
          (try clear hb)
          refine hK.out _ _ hh (fun hHeld=> ?_)
          clear hK K
          refine nu (N:=(some 8)) ?_
          refine ou 3 (some 10) (fun K hK=> ?_)
          refine Kd.R_lit_step k33 _ 33 ?hg (N:=10) ?hd (xs:=([(⟨a1_0,a1_1,a1_2,a1_3,a1_4,a1_5⟩:S33)]:List (S33))) (inner:= [V I a1_0,V I a1_1,V I a1_2,O a1_3,V I a1_4,O a1_5]) (ok:=fun _=>True) (okp:=fun _=>True) ?hr ?hp (fun _ hk=>hk) trivial (Below.refl _ _) (Nat.le_refl _) (by simp) ?_;(case hd=>rfl);(case hg=>rfl);(case hr=>exact Fix.hr);(case hp=>exact(Reps.c6 (show Kd.M k33 _ _ _ (⟨a1_0,a1_1,a1_2,a1_3,a1_4,a1_5⟩:S33) [V I a1_0,V I a1_1,V I a1_2,O a1_3,V I a1_4,O a1_5] from(k33_mkM _ _ _ (⟨a1_0,a1_1,a1_2,a1_3,a1_4,a1_5⟩:S33))) (Reps.none _ _)))
          intro v2 w4 ho2 hb hg_ hnew_
          clear hg_ hnew_
          (first|rw[←Ny1.out]at ho2|(simp only[Int.reduceToNat]at ho2;rw[←Ny1.out]at ho2))
          have HO2:=C (Kd.R_lower (Kd.R_newB (Kd.R_new' ho2 (Kd.R_lt (uR HO1.out))) (g:=gb1) (o:=.cells #[V I a1_0,V I a1_1,V I a1_2,O a1_3,V I a1_4,O a1_5] 33 (0,0)) (uK BK1.out)) (below_size uB))
          replace HO1:=C (Kd.R_elder' (uR HO1.out) (Kd.R_base ho2) hb)
          replace BK1:=eK BK1 hb
          replace HB:=eB hb
          clear hb ho2
          refine hK.out _ _ hh (fun hHeld=> ?_)
          clear hK K
          refine nu (N:=(some 10)) ?_
          exact norm_ (by simp only[putAll,Act.put,List.setIfInBounds_toArray,List.set_cons_zero,List.set_cons_succ]) (hCont (v1,v2) _ ⟨hHeld,(X (fR HO1.out) (fun _ hk=>⟨hk.2,hk.1.2⟩)),(X (fR HO2.out) (fun _ hk=>⟨hk.1.2,hk.2⟩)),(uK BK1.out),uB⟩)
        · skip
          refine Kd.R_lit_step k33 _ 33 ?hg (N:=10) ?hd (xs:=([(⟨a1_0,a1_1,a1_2,a1_3,a1_4,a1_5⟩:S33)]:List (S33))) (inner:= [V I a1_0,V I a1_1,V I a1_2,O a1_3,V I a1_4,O a1_5]) (ok:=fun _=>True) (okp:=fun _=>True) ?hr ?hp (fun _ hk=>hk) trivial (Below.refl _ _) (Nat.le_refl _) (by simp) ?_;(case hd=>rfl);(case hg=>rfl);(case hr=>exact Fix.hr);(case hp=>exact(Reps.c6 (show Kd.M k33 _ _ _ (⟨a1_0,a1_1,a1_2,a1_3,a1_4,a1_5⟩:S33) [V I a1_0,V I a1_1,V I a1_2,O a1_3,V I a1_4,O a1_5] from(k33_mkM _ _ _ (⟨a1_0,a1_1,a1_2,a1_3,a1_4,a1_5⟩:S33))) (Reps.none _ _)))
          intro v1 w3 ho1 hb hg_ hnew_
          clear hg_ hnew_
          (first|rw[←Ny1.out]at ho1|(simp only[Int.reduceToNat]at ho1;rw[←Ny1.out]at ho1))
          have HO1:=C (Kd.R_lower (Kd.R_newB ho1 (g:=gb1) (o:=.cells #[V I a1_0,V I a1_1,V I a1_2,O a1_3,V I a1_4,O a1_5] 33 (0,0)) (uK BK1.out)) (below_size uB))
          replace BK1:=eK BK1 hb
          replace HB:=eB hb
          clear hb ho1
          refine hK.out _ _ hh (fun hHeld=> ?_)
          clear hK K
          refine nu (N:=(some 10)) ?_
          refine ou 1 (some 8) (fun K hK=> ?_)
          refine gs Try.func89 #[L A0 l0.length c0] ?_
          with_reducible refine(impl_Job_89.calls _ _ l0 t1 _ ?side1 ?side2 A1.out).mono ?_
          (case side1=>exact uC (Z HR1.out HB.out))
          (case side2=>exact HC1.out)
          rintro e w4 ⟨v2,rfl,ho2,hb⟩
          refine⟨_,rfl,?_⟩
          have HO2:=C (Kd.R_lower (Kd.R_newB (Kd.R_new' ho2 (Kd.R_lt (uR HO1.out))) (g:=gb1) (o:=.cells #[V I a1_0,V I a1_1,V I a1_2,O a1_3,V I a1_4,O a1_5] 33 (0,0)) (uK BK1.out)) (below_size uB))
          replace HO1:=C (Kd.R_elder' (uR HO1.out) (Kd.R_base ho2) hb)
          replace BK1:=eK BK1 hb
          replace HB:=eB hb
          (try clear hb)
          refine hK.out _ _ hh (fun hHeld=> ?_)
          clear hK K
          refine nu (N:=(some 8)) ?_
          exact norm_ (by simp only[putAll,Act.put,List.setIfInBounds_toArray,List.set_cons_zero,List.set_cons_succ]) (hCont (v2,v1) _ ⟨hHeld,(X (fR HO2.out) (fun _ hk=>⟨hk.1.2,hk.2⟩)),(X (fR HO1.out) (fun _ hk=>⟨hk.2,hk.1.2⟩)),(uK BK1.out),uB⟩)
      rintro⟨v1,v2⟩ w3 ⟨hS_,h1_,h2_,h3_,h4_⟩
      have n0_:D (Kd.R k33 33 w3 w.heap.size (fun k_=>some k_≠(v2:Value).ownBlock∧k_≠gb1) v1 t1):=⟨h1_⟩
      have n1_:D (Kd.R k33 33 w3 w.heap.size (fun k_=>some k_≠(v1:Value).ownBlock∧k_≠gb1) v2 y1):=⟨h2_⟩
      have n2_:D (w3.heap[gb1]? =some (.cells #[V I a1_0,V I a1_1,V I a1_2,O a1_3,V I a1_4,O a1_5] 33 (0,0))):=⟨h3_⟩
      have n3_:D (Below w.heap.size w w3):=⟨h4_⟩
      clear BK1
      clear HB
      clear h1_ h2_ h3_ h4_
      have HO1:=n0_
      have HO2:=n1_
      have BK1:=n2_
      have HB:=n3_
      clear n0_ n1_ n2_ n3_
      have hHeld:w3.cell? ⟨gb1,0,none⟩=some (V I a1_0)∧w3.cell? ⟨gb1,1,none⟩=some (V I a1_1)∧w3.cell? ⟨gb1,2,none⟩=some (V I a1_2)∧w3.cell? ⟨gb1,3,none⟩=some (O a1_3)∧w3.cell? ⟨gb1,4,none⟩=some (V I a1_4)∧w3.cell? ⟨gb1,5,none⟩=some (O a1_5):=hS_
      obtain⟨Ao1,co1,eo1⟩:=Kd.R_slice HO2.out
      (first|subst eo1|(injection eo1 with f1_ f2_ f3_;have f4_:=f1_.symm;have f5_:=f3_.symm;clear f1_ f2_ f3_;subst f4_;subst f5_))
      refine norm_ (a':= ?_) ?_ ?_
      rotate_left
      · simp only[putAll,Act.put,List.setIfInBounds_toArray,List.set_cons_zero,List.set_cons_succ]
        rfl
      refine ou 4 (some 11) (fun K hK=> ?_)
      refine Kd.R_append_rows_step k33 (w0:=w) w.heap.size (by rfl) (.tmp 8) (.tmp 10) 32 33 (G #[(V I 0),(V I 0),(V I 0),(O false),(V I 0),(O false)]) 48 rfl Try.underlying32 info33 rfl (by decide) (by omega) v1 t1 y1 _ _ _ (fun k_=>some k_≠(L Ao1 y1.length co1:Value).ownBlock∧k_≠gb1) (fun _=>False) rfl rfl ?aO ?aR (fun _ _ h=>h) (fun _ h=>h.elim) ?aF ?aB ?aS ?aL ?_
      (case aR=>exact uC (Kd.R_reads' HO2.out).2.2)
      (case aB=>exact uB)
      (case aF=>exact(fun k_ hk=>⟨Kd.fresh' (Kd.R_lt (uR HO2.out)) k_ hk,Kd.freshB (g:=gb1) (o:=.cells #[V I a1_0,V I a1_1,V I a1_2,O a1_3,V I a1_4,O a1_5] 33 (0,0)) (uK BK1.out) k_ hk⟩))
      (case aO=>exact(uR HO1.out))
      (case aS=>exact(below_size uB))
      (case aL=>have:=LMc1.out;omega)
      intro v3 w4 ho hb hg hat
      rw[←Ny2.out]at ho
      have HO3:=C (ho)
      replace BK1:=gK BK1 hg (Kd.R_away HO1.out (fun _ hk=>hk.2))
      replace HO2:=C (Kd.R_after (ok:=(fun k_=>k_≠gb1)) (X (fR HO2.out) (fun _ hk=>⟨hk.2,hk.1⟩)) hg hat)
      replace HB:=C (hb)
      clear HO1
      clear ho hb hg hat
      refine hK.out _ _ hh (fun hHeld=> ?_)
      clear hK K
      refine nu (N:=(some 11)) ?_
      refine pu 5 (some 6) ?_
      refine done_ (by kernel_rfl) ?_
      try go_wp2_with (first|((with_reducible refine gate_callee (f:=44) rfl ?_);refine gl 44 (some 13) Try.func44 #[L A0 l0.length c0] ?_;(with_reducible refine(impl_JobsOk.calls k _ _ l0 false _ ?side1 ?side2 A2.out).mono ?_);(case side1=>exact uC (Z HR1.out HB.out));(case side2=>exact HC1.out);rintro e w5 ⟨rfl,hb⟩;refine⟨_,rfl,?_⟩;replace HO2:=eR HO2 hb;replace HO3:=eR HO3 hb;replace BK1:=eK BK1 hb;replace HB:=eB hb;clear hb)|((with_reducible refine gate_callee (f:=89) rfl ?_);refine gl 89 (some 21) Try.func89 #[L A0 l0.length c0] ?_;(with_reducible refine(impl_Job_89.calls _ _ l0 t5 _ ?side1 ?side2 A3.out).mono ?_);(case side1=>exact uC (Z HR1.out HB.out));(case side2=>exact HC1.out);rintro e w6 ⟨v4,rfl,ho1,hb⟩;refine⟨_,rfl,?_⟩;have HO4:=C (Kd.R_lower (Kd.R_newB (Kd.R_new' (Kd.R_new' ho1 (Kd.R_lt (uR HO2.out))) (Kd.R_lt (uR HO3.out))) (g:=gb1) (o:=.cells #[V I a1_0,V I a1_1,V I a1_2,O a1_3,V I a1_4,O a1_5] 33 (0,0)) (uK BK1.out)) (below_size uB));replace HO2:=C (Kd.R_elder' (uR HO2.out) (Kd.R_base ho1) hb);replace HO3:=C (Kd.R_elder' (uR HO3.out) (Kd.R_base ho1) hb);replace BK1:=eK BK1 hb;replace HB:=eB hb;clear hb ho1))
      go_ret2
      exact⟨_,rE,X (fR HO4.out) (fun _ hk=>trivial),uB⟩
  · rw[if_neg c1]at H
    exact absurd H (by simp)
def impl_bit.f (a0:Bool):Option (Int):=if a0=true then(some 1) else(some 0)
theorem impl_bit.W1 {p:Prop} (h:p:=by
    go_enter Try.func70,Try.ntmps70
    go_wp2
    go_ret
    exact⟨by first|rfl|(simp;done)|(simp[*];done),by repeat(first|exact Drawn0.refl _|apply Drawn0.step)⟩):p:=h
set_option maxHeartbeats 40000000 in
set_option maxRecDepth 100000 in
theorem impl_bit.calls (a0:Bool) (r:Int) (w:World) (h:impl_bit.f a0=some r):
    Calls Try.prog 70 #[O a0] w fun e w'=>e=.returned (V I r)∧Drawn0 w w':=by
  have H:=h
  unfold impl_bit.f at H
  clear h
  by_cases c1:a0=true
  · subst c1
    rw[if_pos rfl]at H
    obtain rfl:=Option.some.inj H
    exact impl_bit.W1
  · replace c1:=Bool.eq_false_iff.mpr c1
    subst c1
    rw[if_neg Bool.false_ne_true]at H
    obtain rfl:=Option.some.inj H
    exact impl_bit.W1
end Go.Proofs.Ytblceimapaenlaa.PFnExactIsReplay
