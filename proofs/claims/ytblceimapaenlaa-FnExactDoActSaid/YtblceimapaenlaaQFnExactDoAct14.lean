/- Calls do what plain Lean functions say (FnExactDoAct). No condition. -/
import Derived.Test.YtblceimapaenlaaQFnExactDoAct0
import Derived.Test.YtblceimapaenlaaQFnExactDoAct11
import Derived.Test.YtblceimapaenlaaQFnExactDoAct12
import Derived.Test.YtblceimapaenlaaQFnExactDoAct13
namespace Go.Proofs.Ytblceimapaenlaa.PFnExactDoAct
open Go.RowKit Go.Proofs.YtblceimapaenlaaW.PrintWords Go.Proofs.YtblceimapaenlaaW.PrintLast Go.Proofs.YtblceimapaenlaaW.PrintMore
open Try
open Fix (bK bnd cf6 d6 dB dK eB eK fR gE gl gs hi hx nf nl np nt nu oT ou pu qm rE rN si tu uB uK uZ)
open Go.Value renaming int→V,slice→L,bool→O
open Go.IntKind renaming i64→I
open Go.Proofs.YtblceimapaenlaaW.PrintWords.Aside0 renaming mk→C
open Go.World renaming block_lt_of_cell?→E
attribute [local go_sem] max2_int min2_int max_two min_two max_three min_three max_four min_four
attribute [local go_sem] Fix.isSome_setCell
set_option linter.unusedVariables false
set_option maxHeartbeats 40000000
set_option maxRecDepth 100000
set_option linter.unusedSimpArgs false
def impl_TakeJob.f (k:Nat) (l0:List (S33)):Option ((List (S33))×Int×Int×Int×Bool×Int×Bool×Bool):=(impl_NextJob.f k l0).bind fun t627=>(if t627<0 then((impl_Job_89.f l0).bind fun t628=>(some (t628,0,0,0,false,0,false,false))) else((impl_Job_89.f l0).bind fun t631=>((impl_Job_99.f t631 t627 (wrap64 (t627+1))).bind fun t634=>(if 0≤t627 then(if t627<(l0.length:Int) then(some (t634,(rd_T33 l0 t627).f0,(rd_T33 l0 t627).f1,(rd_T33 l0 t627).f2,(rd_T33 l0 t627).f3,(rd_T33 l0 t627).f4,(rd_T33 l0 t627).f5,true)) else(none)) else(none)))))
def impl_TakeJob.T4:Bool×List (List Nat×List Nat):=(true,[([],[]),([0],[0]),([],[]),([],[]),([3],[3]),([1,2,4,1],[1,2,4]),([],[]),([],[]),([6,7],[6,7]),([8],[8]),([5,5,0,1,2,3,4,5],[5]),([9,10,0,1,2,3,4,5,6,7,8,9,10],[9]),([11,0,1,2,3,4,5,6,7,8,9,10,11],[])])
def impl_TakeJob.B4:List Nat:= [0,1,0,0,8,31,0,0,192,448,63,2047,4095]
theorem impl_TakeJob.tab4:rtab .any (opsOf Try.f71 4)=impl_TakeJob.T4:=by kernel_rfl
theorem impl_TakeJob.bits4:waitsOk impl_TakeJob.T4.2 impl_TakeJob.B4=true:=by kernel_rfl
theorem impl_TakeJob.calls (k:Nat) (A0:Option Addr) (c0:Nat) (l0:List (S33)) (r1:List (S33)) (r2:Int) (r3:Int) (r4:Int) (r5:Bool) (r6:Int) (r7:Bool) (r8:Bool) (w:World) (hr0:Kd.C k33 w A0 l0.length l0) (hc0:l0.length≤c0) (h:impl_TakeJob.f k l0=some (r1,r2,r3,r4,r5,r6,r7,r8)):
 Calls prog 71 #[L A0 l0.length c0] w fun e w'=>∃v0_:Value,e=.returned (.tuple #[v0_,.agg #[V I r2,V I r3,V I r4,O r5,V I r6,O r7],O r8])∧Kd.R k33 33 w' w.heap.size (fun _=>True) v0_ r1∧Below w.heap.size w w':=by
 have hu1:=underlying33
 have HR1:=C hr0
 have HC1:=C hc0
 (try clear hr0);(try clear hc0)
 have HB:=C (Below.refl w.heap.size w)
 have H:=h
 unfold impl_TakeJob.f at H
 clear h
 obtain⟨t1,A1,H⟩:=bnd H
 by_cases c1:t1<0
 ·rw[if_pos c1]at H
  replace c1:=decide_eq_true c1
  obtain⟨t2,A2,H⟩:=bnd H
  simp only[Option.some.injEq,Prod.mk.injEq]at H
  obtain⟨rfl,rfl,rfl,rfl,rfl,rfl,rfl,rfl⟩:=H
  go_enter func71,ntmps71
  go_wp2_with (first|((with_reducible refine gate_dst (N:=3) rfl ?_);refine Fix.be 3 #[V I 0,V I 0,V I 0,O false,V I 0,O false] 33 ?_;intro gb1 hg w2 BK1 hb;have GW1:=gE (w:=w) hg;have GE1:=GW1;replace HB:=eB hb;clear hb hg)|((with_reducible refine gate_callee (f:=98) rfl ?_);refine gl 98 (some 7) func98 #[L A0 l0.length c0] ?_;(with_reducible refine(impl_NextJob.calls k _ _ l0 t1 _ ?side1 HC1.out A1.out).mono ?_);(case side1=>exact uZ HR1);rintro e w3 ⟨rfl,hb⟩;refine⟨_,rfl,?_⟩;replace BK1:=eK BK1 hb;replace HB:=eB hb;clear hb)|((with_reducible refine gate_callee (f:=89) rfl ?_);refine gl 89 (some 11) func89 #[L A0 l0.length c0] ?_;(with_reducible refine(impl_Job_89.calls _ _ l0 t2 _ ?side1 HC1.out A2.out).mono ?_);(case side1=>exact uZ HR1);rintro e w4 ⟨v1,rfl,ho1,hb⟩;refine⟨_,rfl,?_⟩;have HO1:=C (Kd.R_lower (Kd.R_newB ho1 (g:=gb1) (o:=.cells #[V I 0,V I 0,V I 0,O false,V I 0,O false] 33 (0,0)) (uK BK1.out)) (below_size uB));replace BK1:=eK BK1 hb;replace HB:=eB hb;clear hb ho1;obtain⟨_,_,_,_,_,_,_,_,_,_,_,_⟩:=d6 BK1.out))
  refine bodyPost_ret (results_list (rs:= [.tmp 2,.cell 3 33,.tmp 4]) rfl (by simp) (.tmp (.cell gb1 33 #[V I 0,V I 0,V I 0,O false,V I 0,O false] (0,0) _ rfl (bK BK1.out) underlying33 rfl (by kernel_rfl) (.tmp .nil)))) rfl ?_
  exact⟨_,rE,Kd.R_mono (fR (Kd.R_mono HO1.out (fun k_ hk=>(⟨hk,hk.2⟩:_∧k_≠gb1)))) (fun _ hk=>trivial),uB⟩
 rw[if_neg c1]at H
 replace c1:=decide_eq_false c1
 obtain⟨t2,A2,H⟩:=bnd H
 obtain⟨t3,A3,H⟩:=bnd H
 obtain⟨c2,H⟩:=np H
 replace c2:=decide_eq_true c2
 obtain⟨c3,H⟩:=np H
 replace c3:=decide_eq_true c3
 simp only[Option.some.injEq,Prod.mk.injEq]at H
 obtain⟨rfl,rfl,rfl,rfl,rfl,rfl,rfl,rfl⟩:=H
 go_enter func71,ntmps71
 try go_wp2_with (first|((with_reducible refine gate_dst (N:=3) rfl ?_);refine Fix.be 3 #[V I 0,V I 0,V I 0,O false,V I 0,O false] 33 ?_;intro gb1 hg w2 BK1 hb;have GW1:=gE (w:=w) hg;have GE1:=GW1;replace HB:=eB hb;clear hb hg)|((with_reducible refine gate_callee (f:=98) rfl ?_);refine gl 98 (some 7) func98 #[L A0 l0.length c0] ?_;(with_reducible refine(impl_NextJob.calls k _ _ l0 t1 _ ?side1 HC1.out A1.out).mono ?_);(case side1=>exact uZ HR1);rintro e w3 ⟨rfl,hb⟩;refine⟨_,rfl,?_⟩;replace BK1:=eK BK1 hb;replace HB:=eB hb;clear hb))
 replace BK1:=dK BK1
 replace HB:=dB HB
 have p1:0≤(t1:Int):=oT
 have q1:t1<(l0.length:Int):=oT
 obtain⟨ad1,e1,hx1_0,hx1_1,hx1_2,hx1_3,hx1_4,hx1_5⟩:=at_T33 HR1.out t1 p1 q1
 have hw1_5:=hx1_5
 have hw1_4:=hx1_4
 have hw1_3:=hx1_3
 have hw1_2:=hx1_2
 have hw1_1:=hx1_1
 have hw1_0:=hx1_0
 cases e1
 replace hx1_0:=hx HB hx1_0
 replace hx1_1:=hx HB hx1_1
 replace hx1_2:=hx HB hx1_2
 replace hx1_3:=hx HB hx1_3
 replace hx1_4:=hx HB hx1_4
 replace hx1_5:=hx HB hx1_5
 replace p1:=eq_true p1
 replace q1:=eq_true q1
 refine start_ (n:=13) (S:=fun w'=>w'.cell? (ad1.add ((t1).toNat * 6))=some (V I ((rd_T33 l0 t1).f0))∧w'.cell? ⟨(ad1.add ((t1).toNat * 6)).block,(ad1.add ((t1).toNat * 6)).off+1,none⟩=some (V I ((rd_T33 l0 t1).f1))∧w'.cell? ⟨(ad1.add ((t1).toNat * 6)).block,(ad1.add ((t1).toNat * 6)).off+2,none⟩=some (V I ((rd_T33 l0 t1).f2))∧w'.cell? ⟨(ad1.add ((t1).toNat * 6)).block,(ad1.add ((t1).toNat * 6)).off+3,none⟩=some (O ((rd_T33 l0 t1).f3))∧w'.cell? ⟨(ad1.add ((t1).toNat * 6)).block,(ad1.add ((t1).toNat * 6)).off+4,none⟩=some (V I ((rd_T33 l0 t1).f4))∧w'.cell? ⟨(ad1.add ((t1).toNat * 6)).block,(ad1.add ((t1).toNat * 6)).off+5,none⟩=some (O ((rd_T33 l0 t1).f5))) (ds:= []) #[false,false,false,false,false,false,false,false,false,false,false,false,false] (by kernel_rfl) rfl rfl hi (fun hHeld=> ?_);refine with_tabW impl_TakeJob.tab4 impl_TakeJob.bits4 (fun HT_ HW_=> ?_)
 generalize w3.drew=w4 at BK1 HB hx1_0 hx1_1 hx1_2 hx1_3 hx1_4 hx1_5 hHeld ⊢
 refine pu 0 (some 13) ?_
 refine pu 2 (some 15) ?_
 refine pu 3 (some 16) ?_
 refine pu 4 (some 17) ?_
 refine pu 6 (some 19) ?_
 refine pu 7 (some 20) ?_
 refine pu 8 (some 21) ?_
 refine tu 9 (some 22) hHeld ?_
 refine ou 1 (some 14) (fun K hK=> ?_)
 refine gs func89 #[L (some ad1) l0.length c0] ?_
 with_reducible refine(impl_Job_89.calls _ _ l0 t2 _ ?side1 HC1.out A2.out).mono ?_
 (case side1=>exact uZ HR1)
 rintro e w5 ⟨v1,rfl,ho1,hb⟩
 refine⟨_,rfl,?_⟩
 have HO1:=C (Kd.R_lower (Kd.R_newB ho1 (g:=gb1) (o:=.cells #[V I 0,V I 0,V I 0,O false,V I 0,O false] 33 (0,0)) (uK BK1.out)) (below_size uB))
 replace BK1:=eK BK1 hb
 replace HB:=eB hb
 (try clear hb)
 obtain⟨Ao1,co1,eo1⟩:=Kd.R_slice HO1.out
 (first|subst eo1|(injection eo1 with f1_ f2_ f3_;have f4_:=f1_.symm;have f5_:=f3_.symm;clear f1_ f2_ f3_;subst f4_;subst f5_))
 refine hK.out _ _ ⟨((HB.out.cell (E w _ hw1_0)).trans hw1_0),((HB.out.cell (E w _ hw1_1)).trans hw1_1),((HB.out.cell (E w _ hw1_2)).trans hw1_2),((HB.out.cell (E w _ hw1_3)).trans hw1_3),((HB.out.cell (E w _ hw1_4)).trans hw1_4),((HB.out.cell (E w _ hw1_5)).trans hw1_5)⟩ (fun hHeld=> ?_)
 clear hK K
 refine nu (N:=(some 14)) ?_
 refine ou 5 (some 18) (fun K hK=> ?_)
 refine gs func99 #[L Ao1 t2.length co1,V I t1,V I (wrap64 (t1+1))] ?_
 with_reducible refine(impl_Job_99.own _ _ _ _ t2 t1 (wrap64 (t1+1)) t3 _ HO1.out A3.out).mono ?_
 rintro e w6 ⟨v2,rfl,ho1,hg⟩
 refine⟨_,rfl,?_⟩
 have n1_:=C ho1
 have n2_:=C ((hg.block gb1 (blk_lt BK1.out) (fun he=>(HO1.out.1 gb1 he.symm).2 rfl)).trans BK1.out)
 have n3_:=C (Below.grown HB.out hg (below_size HB.out) (fun k hk=>Kd.R_base HO1.out k hk))
 clear HO1 BK1 HB hg ho1
 have HO2:=n1_
 have BK1:=n2_
 have HB:=n3_
 clear n1_ n2_ n3_
 refine hK.out _ _ ⟨((HB.out.cell (E w _ hw1_0)).trans hw1_0),((HB.out.cell (E w _ hw1_1)).trans hw1_1),((HB.out.cell (E w _ hw1_2)).trans hw1_2),((HB.out.cell (E w _ hw1_3)).trans hw1_3),((HB.out.cell (E w _ hw1_4)).trans hw1_4),((HB.out.cell (E w _ hw1_5)).trans hw1_5)⟩ (fun hHeld=> ?_)
 clear hK K
 refine nu (N:=(some 18)) ?_
 refine pu 10 (some 2) ?_
 refine ou 11 (none) (fun K hK=> ?_)
 obtain⟨hs1,hs2,hs3,hs4,hs5,hs6,hfs1,hfs2,hfs3,hfs4,hfs5,hfs6⟩:=d6 BK1.out
 refine skip_ (w1:= ?_) (by rfl) rfl ?_ ?_
 rotate_left
 ·go_simp
  rfl
 refine hK.out _ _ ⟨(cf6 (nl hw1_0 GW1) (hHeld.1)),(cf6 (nl hw1_1 GW1) (hHeld.2.1)),(cf6 (nl hw1_2 GW1) (hHeld.2.2.1)),(cf6 (nl hw1_3 GW1) (hHeld.2.2.2.1)),(cf6 (nl hw1_4 GW1) (hHeld.2.2.2.2.1)),(cf6 (nl hw1_5 GW1) (hHeld.2.2.2.2.2))⟩ (fun hHeld=> ?_)
 clear hK K
 refine pu 12 (some 4) ?_
 refine done_ (done_of HT_.out (by kernel_rfl)) ?_
 try go_wp2
 refine bodyPost_ret (results_list (rs:= [.tmp 2,.cell 3 33,.tmp 4]) rfl (by simp) (.tmp (.cell gb1 33 #[V I ((rd_T33 l0 t1).f0),V I ((rd_T33 l0 t1).f1),V I ((rd_T33 l0 t1).f2),O ((rd_T33 l0 t1).f3),V I ((rd_T33 l0 t1).f4),O ((rd_T33 l0 t1).f5)] (0,0) _ rfl (bK BK1.out) underlying33 rfl (by kernel_rfl) (.tmp .nil)))) rfl ?_
 exact⟨_,rE,Kd.R_mono (fR (Kd.R_mono HO2.out (fun k_ hk=>(⟨hk,hk.2⟩:_∧k_≠gb1)))) (fun _ hk=>trivial),uB⟩
def impl_IsDone.f (k:Nat) (a0_0:Int) (a0_1:Int) (l0_2:List Int) (l0_3:List Int) (a0_4:Int) (a0_5:Bool):Option (Bool):=(impl_LineOk.f k a0_0 a0_1 l0_2 l0_3 a0_4 a0_5).bind fun t639=>(if t639=true then(some ((l0_3.length:Int)==a0_0)) else(some false))
theorem impl_IsDone.calls (k:Nat) (a0_0:Int) (a0_1:Int) (A0_2:Option Addr) (c0_2:Nat) (l0_2:List Int) (A0_3:Option Addr) (c0_3:Nat) (l0_3:List Int) (a0_4:Int) (a0_5:Bool) (r:Bool) (w:World) (hr0_2:Kd.C (Kd.int .i64) w A0_2 l0_2.length l0_2) (hc0_2:l0_2.length≤c0_2) (hr0_3:Kd.C (Kd.int .i64) w A0_3 l0_3.length l0_3) (hc0_3:l0_3.length≤c0_3) (h:impl_IsDone.f k a0_0 a0_1 l0_2 l0_3 a0_4 a0_5=some r):
 Calls prog 72 #[.agg #[V I a0_0,V I a0_1,L A0_2 l0_2.length c0_2,L A0_3 l0_3.length c0_3,V I a0_4,O a0_5]] w fun e w'=>e=.returned (O r)∧Below w.heap.size w w':=by
 have hu1:=underlying34
 have HR1_2:=C hr0_2
 have HC1_2:=C hc0_2
 (try clear hr0_2);(try clear hc0_2)
 have HR1_3:=C hr0_3
 have HC1_3:=C hc0_3
 (try clear hr0_3);(try clear hc0_3)
 have HB:=C (Below.refl w.heap.size w)
 have H:=h
 unfold impl_IsDone.f at H
 clear h
 obtain⟨t1,A1,H⟩:=bnd H
 by_cases c1:t1=true
 rotate_left
 ·obtain rfl:=nt c1
  replace H:=nf H
  obtain rfl:=si H
  go_enter func72,ntmps72
  go_wp2_with (first|((with_reducible refine gate_dst (N:=1) rfl ?_);(try(refine gate_guard (by rfl) ?_;dsimp only));refine Fix.be 1 #[V I a0_0,V I a0_1,L A0_2 l0_2.length c0_2,L A0_3 l0_3.length c0_3,V I a0_4,O a0_5] 34 ?_;intro gb1 hg w1 BK1 hb;have GW1:=gE (w:=w) hg;have GE1:=GW1;replace HB:=eB hb;clear hb hg;obtain⟨_,_,_,_,_,_,_,_,_,_,_,_⟩:=d6 BK1.out)|((with_reducible refine gate_callee (f:=45) rfl ?_);refine gl 45 (some 4) func45 #[.agg #[V I a0_0,V I a0_1,L A0_2 l0_2.length c0_2,L A0_3 l0_3.length c0_3,V I a0_4,O a0_5]] ?_;(with_reducible refine(impl_LineOk.calls k a0_0 a0_1 (fun k_=>k_<w.heap.size) _ _ l0_2 (fun k_=>k_<w.heap.size) _ _ l0_3 a0_4 a0_5 false _ ?side1 ?side2 A1.out).mono ?_);(case side1=>exact Kd.V_mk HC1_2.out (Kd.F_below (Kd.C_F (Kd.heap_int .i64) HR1_2.out) uB));(case side2=>exact Kd.V_mk HC1_3.out (Kd.F_below (Kd.C_F (Kd.heap_int .i64) HR1_3.out) uB));rintro e w2 ⟨rfl,hb⟩;refine⟨_,rfl,?_⟩;replace BK1:=eK BK1 hb;replace HB:=eB hb;clear hb))
  go_ret
  exact⟨rE,uB⟩
 subst c1
 rw[if_pos rfl]at H
 obtain rfl:=si H
 go_enter func72,ntmps72
 go_wp2_with (first|((with_reducible refine gate_dst (N:=1) rfl ?_);(try(refine gate_guard (by rfl) ?_;dsimp only));refine Fix.be 1 #[V I a0_0,V I a0_1,L A0_2 l0_2.length c0_2,L A0_3 l0_3.length c0_3,V I a0_4,O a0_5] 34 ?_;intro gb1 hg w1 BK1 hb;have GW1:=gE (w:=w) hg;have GE1:=GW1;replace HB:=eB hb;clear hb hg;obtain⟨_,_,_,_,_,_,_,_,_,_,_,_⟩:=d6 BK1.out)|((with_reducible refine gate_callee (f:=45) rfl ?_);refine gl 45 (some 4) func45 #[.agg #[V I a0_0,V I a0_1,L A0_2 l0_2.length c0_2,L A0_3 l0_3.length c0_3,V I a0_4,O a0_5]] ?_;(with_reducible refine(impl_LineOk.calls k a0_0 a0_1 (fun k_=>k_<w.heap.size) _ _ l0_2 (fun k_=>k_<w.heap.size) _ _ l0_3 a0_4 a0_5 true _ ?side1 ?side2 A1.out).mono ?_);(case side1=>exact Kd.V_mk HC1_2.out (Kd.F_below (Kd.C_F (Kd.heap_int .i64) HR1_2.out) uB));(case side2=>exact Kd.V_mk HC1_3.out (Kd.F_below (Kd.C_F (Kd.heap_int .i64) HR1_3.out) uB));rintro e w2 ⟨rfl,hb⟩;refine⟨_,rfl,?_⟩;replace BK1:=eK BK1 hb;replace HB:=eB hb;clear hb;obtain⟨_,_,_,_,_,_,_,_,_,_,_,_⟩:=d6 BK1.out))
 go_ret
 exact⟨rE,uB⟩
def impl_NewLine.f (a0:Int):Option (Int×Int×List Int×List Int×Int×Bool×Bool):=(impl_within.f a0 0 40).bind fun t641=>(if t641=true then(some (a0,0,([]:List Int),([]:List Int),0,false,true)) else(some (0,0,([]:List Int),([]:List Int),0,false,false)))
theorem impl_NewLine.calls (a0:Int) (r1:Int) (r2:Int) (r3:List Int) (r4:List Int) (r5:Int) (r6:Bool) (r7:Bool) (w:World) (h:impl_NewLine.f a0=some (r1,r2,r3,r4,r5,r6,r7)):
 Calls prog 73 #[V I a0] w fun e w'=>∃v2_ v3_:Value,e=.returned (.tuple #[.agg #[V I r1,V I r2,v2_,v3_,V I r5,O r6],O r7])∧Kd.R (Kd.int .i64) 3 w' w.heap.size (fun k_=>qm k_ v3_) v2_ r3∧Kd.R (Kd.int .i64) 3 w' w.heap.size (fun k_=>qm k_ v2_) v3_ r4∧Below w.heap.size w w':=by
 have hu1:=underlying34
 have HB:=C (Below.refl w.heap.size w)
 have H:=h
 unfold impl_NewLine.f at H
 clear h
 obtain⟨t1,A1,H⟩:=bnd H
 by_cases c1:t1=true
 ·subst c1
  rw[if_pos rfl]at H
  simp only[Option.some.injEq,Prod.mk.injEq]at H
  obtain⟨rfl,rfl,rfl,rfl,rfl,rfl,rfl⟩:=H
  go_enter func73,ntmps73
  go_wp2_with (first|((with_reducible refine gate_dst (N:=2) rfl ?_);refine Fix.be 2 #[V I 0,V I 0,L none 0 0,L none 0 0,V I 0,O false] 34 ?_;intro gb1 hg w1 BK1 hb;have GW1:=gE (w:=w) hg;have GE1:=GW1;replace HB:=eB hb;clear hb hg)|((with_reducible refine gate_callee (f:=46) rfl ?_);refine gl 46 (some 5) func46 #[V I a0,V I 0,V I 40] ?_;(with_reducible refine(impl_within.calls a0 0 40 true _ A1.out).mono ?_);rintro e w' ⟨rfl,⟨nd,rfl⟩⟩;refine⟨_,rfl,?_⟩;(try(rw[drewN_self w1];generalize hq_:World.drewN w1 _=w1;have n0_:Aside0 (w1.heap[gb1]? =some (.cells #[V I 0,V I 0,L none 0 0,L none 0 0,V I 0,O false] 34 (0,0))):=⟨by rw[←hq_];exact(uK BK1.out)⟩;have n1_:Aside0 (Below w.heap.size w w1):=⟨by rw[←hq_];exact uB⟩;clear BK1 HB hq_;have BK1:=n0_;have HB:=n1_;clear n0_ n1_));obtain⟨_,_,_,_,_,_,_,_,_,_,_,_⟩:=d6 BK1.out))
  refine bodyPost_ret (results_ct rfl _ _ gb1 34 #[V I a0,V I 0,L none 0 0,L none 0 0,V I 0,O false] (0,0) _ rfl (bK BK1.out) underlying34 rfl (by kernel_rfl)) rfl ?_
  exact⟨_,_,rE,rN,rN,uB⟩
 obtain rfl:=nt c1
 replace H:=nf H
 simp only[Option.some.injEq,Prod.mk.injEq]at H
 obtain⟨rfl,rfl,rfl,rfl,rfl,rfl,rfl⟩:=H
 go_enter func73,ntmps73
 go_wp2_with (first|((with_reducible refine gate_dst (N:=2) rfl ?_);refine Fix.be 2 #[V I 0,V I 0,L none 0 0,L none 0 0,V I 0,O false] 34 ?_;intro gb1 hg w1 BK1 hb;have GW1:=gE (w:=w) hg;have GE1:=GW1;replace HB:=eB hb;clear hb hg)|((with_reducible refine gate_callee (f:=46) rfl ?_);refine gl 46 (some 5) func46 #[V I a0,V I 0,V I 40] ?_;(with_reducible refine(impl_within.calls a0 0 40 false _ A1.out).mono ?_);rintro e w' ⟨rfl,⟨nd,rfl⟩⟩;refine⟨_,rfl,?_⟩;(try(rw[drewN_self w1];generalize hq_:World.drewN w1 _=w1;have n0_:Aside0 (w1.heap[gb1]? =some (.cells #[V I 0,V I 0,L none 0 0,L none 0 0,V I 0,O false] 34 (0,0))):=⟨by rw[←hq_];exact(uK BK1.out)⟩;have n1_:Aside0 (Below w.heap.size w w1):=⟨by rw[←hq_];exact uB⟩;clear BK1 HB hq_;have BK1:=n0_;have HB:=n1_;clear n0_ n1_));obtain⟨_,_,_,_,_,_,_,_,_,_,_,_⟩:=d6 BK1.out))
 refine bodyPost_ret (results_ct rfl _ _ gb1 34 #[V I 0,V I 0,L none 0 0,L none 0 0,V I 0,O false] (0,0) _ rfl (bK BK1.out) underlying34 rfl (by kernel_rfl)) rfl ?_
 exact⟨_,_,rE,rN,rN,uB⟩
end Go.Proofs.Ytblceimapaenlaa.PFnExactDoAct
