/- Calls do what plain Lean functions say (FnExactRunScript). No condition. -/
import Derived.Test.YtgdnlmfoghpeoaaGreatDoorQFnExactRunScript0
namespace Go.Proofs.YtgdnlmfoghpeoaaGreatDoor.PFnExactRunScript
open Go.RowKit Go.Proofs.YtgdnlmfoghpeoaaGreatDoorW.PrintWords Go.Proofs.YtgdnlmfoghpeoaaGreatDoorW.PrintLast Go.Proofs.YtgdnlmfoghpeoaaGreatDoorW.PrintMore
open Tryz
open Fix (bA bK bN bnd cl14 cl6 d14 d4 d6 dB dK eB eK eR fR fS gE gl gs gy hh hx lR mo nG nL nf np nt nu oL oT ou pj pu px qm rE rS si tu uB uC uK uR uZ)
open Go.Value renaming int→V,slice→L,bool→O,agg→G
open Go.IntKind renaming i64→I
open Go.Proofs.YtgdnlmfoghpeoaaGreatDoorW.PrintWords.Aside0 renaming mk→C
open Go.Proofs.YtgdnlmfoghpeoaaGreatDoorW.PrintWords renaming Aside0→D,gate_callee→F,gate_dst→J
attribute [local go_sem] max2_int min2_int max_two min_two max_three min_three max_four min_four
attribute [local go_sem] Fix.isSome_setCell
set_option linter.unusedVariables false
set_option maxHeartbeats 40000000
set_option maxRecDepth 100000
set_option linter.unusedSimpArgs false
attribute [local go_sem high] eqA26
def impl_Job_43.f (l0:List (S26)):Option ((List (S26))):=(some (([]:List (S26)):List (S26))).bind fun y101=>(if y101.length+l0.length<2932031007402 then(some (y101++l0)) else(none))
theorem impl_Job_43.calls (A0:Option Addr) (c0:Nat) (l0:List (S26)) (r:List (S26)) (w:World) (hr0:Kd.C k26 w A0 l0.length l0) (hc0:l0.length≤c0) (h:impl_Job_43.f l0=some r):
 Calls prog 43 #[L A0 l0.length c0] w fun e w'=>∃v0_:Value,e=.returned (v0_)∧Kd.R k26 26 w' w.heap.size (fun _=>True) v0_ r∧Below w.heap.size w w':=by
 rcases A0 with _|ad1
 ·have hl1:l0= []:=Ext.nil_of_C hr0
  subst hl1
  have hr_:r= []:=by have h1:=h;simp[impl_Job_43.f]at h1;exact h1
  subst hr_
  have hq:=fun (W:World)=>Go.run_eql_slice_nil W 24 26 none 0 c0 underlying24
  simp only[Option.isNone_none]at hq
  go_enter func43,ntmps43
  go_wp2
  go_ret
  exact⟨_,rfl,Kd.R_nil _ _ _ _ _,by repeat(first|exact Below.refl _ _|apply bA|apply bN)⟩
 have hq:=fun (W:World)=>Go.run_eql_slice_nil W 24 26 (some ad1) l0.length c0 underlying24
 simp only[Option.isNone_some]at hq
 have HR1:=C hr0
 have HC1:=C hc0
 (try clear hr0);(try clear hc0)
 have HB:=C (Below.refl w.heap.size w)
 have H:=h
 unfold impl_Job_43.f at H
 clear h
 obtain⟨y1,hy1⟩:∃y_:List (S26),y_=(([]:List (S26))):=⟨_,rfl⟩
 replace H:(if y1.length+l0.length<2932031007402 then(some (y1++l0)) else(none))=some r:=gy hy1 H
 have Ny1:=C hy1
 clear hy1
 obtain⟨c1,H⟩:=np H
 have LMc1:=C c1
 clear c1
 obtain⟨y2,hy2⟩:∃y_:List (S26),y_=(y1++l0):=⟨_,rfl⟩
 replace H:(some y2)=some r:=gy hy2 H
 have Ny2:=C hy2
 clear hy2
 obtain rfl:=si H
 go_enter func43,ntmps43
 go_wp2_with (first|((with_reducible refine J (N:=5) rfl ?_);refine Kd.R_lit k26 _ 26 ?hg (N:=5) ?hd (xs:=([]:List (S26))) (inner:= []) (ok:=fun _=>True) (okp:=fun _=>True) ?hr ?hp (fun _ hk=>hk) trivial (Below.refl _ _) (Nat.le_refl _) (by simp) ?_;(case hd=>rfl);(case hg=>rfl);(case hr=>exact Fix.hr);(case hp=>exact(Reps.none _ _));intro v1 w1 ho1 hb hg_ hnew_;clear hg_ hnew_;(first|rw[←Ny1.out]at ho1|(simp only[Int.reduceToNat]at ho1;rw[←Ny1.out]at ho1));have HO1:=lR ho1;replace HB:=eB hb;clear hb ho1)|((with_reducible refine gate_builtin (b:=.append) (xs:= #[.tmp 5,.tmp 6]) rfl ?_);at_builtin;refine Kd.R_append_rows k26 (w0:=w) w.heap.size rfl (.tmp 5) (.tmp 6) 24 26 (G #[(V I 0),(V I 0),(V I 0),(O false),(V I 0),(O false)]) 48 rfl underlying24 info26 rfl (by decide) (by omega) v1 y1 l0 _ _ _ (fun _=>True) (fun _=>False) rfl rfl ?aO ?aR (fun _ _ h=>h) (fun _ h=>h.elim) ?aF ?aB ?aS ?aL ?_;(case aR=>exact uZ HR1);(case aB=>exact uB);(case aF=>exact(fun _ _=>trivial));(case aO=>exact(uR HO1.out));(case aS=>exact(below_size uB));(case aL=>have:=LMc1.out;omega);intro v2 w2 ho hb hg hat;rw[←Ny2.out]at ho;have HO2:=C (ho);replace HB:=C (hb);clear HO1;clear ho hb hg hat))
 go_ret
 exact⟨_,rE,fR HO2.out,uB⟩
def slices_Clone_int_int.f (l0:List Int):Option (List Int):=(some (([]:List Int):List Int)).bind fun y107=>(if y107.length+l0.length<17592186044416 then(some (y107++l0)) else(none))
theorem slices_Clone_int_int.calls (A0:Option Addr) (c0:Nat) (l0:List Int) (r:List Int) (w:World) (hr0:Kd.C (Kd.int .i64) w A0 l0.length l0) (hc0:l0.length≤c0) (h:slices_Clone_int_int.f l0=some r):
 Calls prog 73 #[L A0 l0.length c0] w fun e w'=>∃v0_:Value,e=.returned (v0_)∧Kd.R (Kd.int .i64) 3 w' w.heap.size (fun _=>True) v0_ r∧Below w.heap.size w w':=by
 rcases A0 with _|ad1
 ·have hl1:l0= []:=Ext.nil_of_C hr0
  subst hl1
  have hr_:r= []:=by have h1:=h;simp[slices_Clone_int_int.f]at h1;exact h1
  subst hr_
  have hq:=fun (W:World)=>Go.run_eql_slice_nil W 27 3 none 0 c0 underlying27
  simp only[Option.isNone_none]at hq
  go_enter func73,ntmps73
  go_wp2
  go_ret
  exact⟨_,rfl,Kd.R_nil _ _ _ _ _,by repeat(first|exact Below.refl _ _|apply bA|apply bN)⟩
 have hq:=fun (W:World)=>Go.run_eql_slice_nil W 27 3 (some ad1) l0.length c0 underlying27
 simp only[Option.isNone_some]at hq
 have HR1:=C hr0
 have HC1:=C hc0
 (try clear hr0);(try clear hc0)
 have HB:=C (Below.refl w.heap.size w)
 have H:=h
 unfold slices_Clone_int_int.f at H
 clear h
 obtain⟨y1,hy1⟩:∃y_:List Int,y_=(([]:List Int)):=⟨_,rfl⟩
 replace H:(if y1.length+l0.length<17592186044416 then(some (y1++l0)) else(none))=some r:=gy hy1 H
 have Ny1:=C hy1
 clear hy1
 obtain⟨c1,H⟩:=np H
 have LMc1:=C c1
 clear c1
 obtain⟨y2,hy2⟩:∃y_:List Int,y_=(y1++l0):=⟨_,rfl⟩
 replace H:(some y2)=some r:=gy hy2 H
 have Ny2:=C hy2
 clear hy2
 obtain rfl:=si H
 go_enter func73,ntmps73
 go_wp2_with (first|((with_reducible refine J (N:=5) rfl ?_);refine Kd.R_lit (Kd.int .i64) _ 3 ?hg (N:=5) ?hd (xs:=([]:List Int)) (inner:= []) (ok:=fun _=>True) (okp:=fun _=>True) ?hr ?hp (fun _ hk=>hk) trivial (Below.refl _ _) (Nat.le_refl _) (by simp) ?_;(case hd=>rfl);(case hg=>rfl);(case hr=>exact Fix.hr);(case hp=>exact(Reps.none _ _));intro v1 w1 ho1 hb hg_ hnew_;clear hg_ hnew_;(first|rw[←Ny1.out]at ho1|(simp only[Int.reduceToNat]at ho1;rw[←Ny1.out]at ho1));have HO1:=lR ho1;replace HB:=eB hb;clear hb ho1)|((with_reducible refine gate_builtin (b:=.append) (xs:= #[.tmp 5,.tmp 6]) rfl ?_);at_builtin;refine Kd.R_append_rows (Kd.int .i64) (w0:=w) w.heap.size rfl (.tmp 5) (.tmp 6) 27 3 (V I 0) 8 rfl underlying27 info3 rfl (by decide) (by omega) v1 y1 l0 _ _ _ (fun _=>True) (fun _=>False) rfl rfl ?aO ?aR (fun _ _ h=>h) (fun _ h=>h.elim) ?aF ?aB ?aS ?aL ?_;(case aR=>exact uZ HR1);(case aB=>exact uB);(case aF=>exact(fun _ _=>trivial));(case aO=>exact(uR HO1.out));(case aS=>exact(below_size uB));(case aL=>have:=LMc1.out;omega);intro v2 w2 ho hb hg hat;rw[←Ny2.out]at ho;have HO2:=C (ho);replace HB:=C (hb);clear HO1;clear ho hb hg hat))
 go_ret
 exact⟨_,rE,fR HO2.out,uB⟩
def impl_copyLine.f (a0_0:Int) (a0_1:Int) (l0_2:List Int) (l0_3:List Int) (a0_4:Int) (a0_5:Bool):Option (Int×Int×List Int×List Int×Int×Bool):=(slices_Clone_int_int.f l0_2).bind fun t115=>((slices_Clone_int_int.f l0_3).bind fun t118=>(some (a0_0,a0_1,t115,t118,a0_4,a0_5)))
def impl_copyLine.T1:Bool×List (List Nat×List Nat):=(true,[([],[]),([0],[0]),([1],[1]),([],[]),([3],[3]),([4,2],[4]),([0,1,2,3,4],[]),([6,2,5,0,1,2,3,4],[2,6]),([0,1,2,3,4,5,6,7],[]),([8,5,7,0,1,2,3,4,5,6,7],[5,8])])
def impl_copyLine.B1:List Nat:= [0,1,3,0,8,31,31,127,255,511]
theorem impl_copyLine.tab1:rtab .any (opsOf Tryz.f44 1)=impl_copyLine.T1:=by kernel_rfl
theorem impl_copyLine.bits1:waitsOk impl_copyLine.T1.2 impl_copyLine.B1=true:=by kernel_rfl
theorem impl_copyLine.calls (a0_0:Int) (a0_1:Int) (A0_2:Option Addr) (c0_2:Nat) (l0_2:List Int) (A0_3:Option Addr) (c0_3:Nat) (l0_3:List Int) (a0_4:Int) (a0_5:Bool) (r1:Int) (r2:Int) (r3:List Int) (r4:List Int) (r5:Int) (r6:Bool) (w:World) (hr0_2:Kd.C (Kd.int .i64) w A0_2 l0_2.length l0_2) (hc0_2:l0_2.length≤c0_2) (hr0_3:Kd.C (Kd.int .i64) w A0_3 l0_3.length l0_3) (hc0_3:l0_3.length≤c0_3) (h:impl_copyLine.f a0_0 a0_1 l0_2 l0_3 a0_4 a0_5=some (r1,r2,r3,r4,r5,r6)):
 Calls prog 44 #[G #[V I a0_0,V I a0_1,L A0_2 l0_2.length c0_2,L A0_3 l0_3.length c0_3,V I a0_4,O a0_5]] w fun e w'=>∃v2_ v3_:Value,e=.returned (G #[V I r1,V I r2,v2_,v3_,V I r5,O r6])∧Kd.R (Kd.int .i64) 3 w' w.heap.size (fun k_=>qm k_ v3_) v2_ r3∧Kd.R (Kd.int .i64) 3 w' w.heap.size (fun k_=>qm k_ v2_) v3_ r4∧Below w.heap.size w w':=by
 have hu1:=underlying29
 have HR1_2:=C hr0_2
 have HC1_2:=C hc0_2
 (try clear hr0_2);(try clear hc0_2)
 have HR1_3:=C hr0_3
 have HC1_3:=C hc0_3
 (try clear hr0_3);(try clear hc0_3)
 have HB:=C (Below.refl w.heap.size w)
 have H:=h
 unfold impl_copyLine.f at H
 clear h
 obtain⟨t1,A1,H⟩:=bnd H
 obtain⟨t2,A2,H⟩:=bnd H
 simp only[Option.some.injEq,Prod.mk.injEq]at H
 obtain⟨rfl,rfl,rfl,rfl,rfl,rfl⟩:=H
 go_enter func44,ntmps44
 try go_wp2_with (first|((with_reducible refine J (N:=1) rfl ?_);refine Fix.be 1 #[V I a0_0,V I a0_1,L A0_2 l0_2.length c0_2,L A0_3 l0_3.length c0_3,V I a0_4,O a0_5] 29 ?_;intro gb1 hg w2 BK1 hb;have GW1:=gE (w:=w) hg;replace HB:=eB hb;clear hb hg)|((with_reducible refine J (N:=2) rfl ?_);refine Fix.be 2 #[V I 0,V I 0,L none 0 0,L none 0 0,V I 0,O false] 29 ?_;intro gb2 hg w3 BK2 hb;have GW2:=gE (w:=w) hg;have n0:=nL hg BK1;have n1:=nG hg BK1;replace BK1:=eK BK1 hb;replace HB:=eB hb;clear hb hg))
 replace BK1:=dK BK1
 replace BK2:=dK BK2
 replace HB:=dB HB
 refine start_ (n:=10) (S:=fun w'=>cl6 w' gb1 (V I a0_0) (V I a0_1) (L A0_2 l0_2.length c0_2) (L A0_3 l0_3.length c0_3) (V I a0_4) (O a0_5)) (ds:= [7,9]) #[false,false,false,false,false,false,false,false,false,false] (by kernel_rfl) rfl rfl hh (fun hHeld=> ?_);refine with_tabW impl_copyLine.tab1 impl_copyLine.bits1 (fun HT_ HW_=> ?_)
 generalize w3.drew=w4 at BK1 BK2 HB hHeld ⊢
 refine pu 0 (some 3) ?_
 refine pu 3 (some 6) ?_
 refine tu 1 (some 4) hHeld ?_
 refine tu 4 (some 7) hHeld ?_
 refine ou 2 (some 5) (fun K hK=> ?_)
 refine gs func73 #[L A0_2 l0_2.length c0_2] ?_
 with_reducible refine(slices_Clone_int_int.calls _ _ l0_2 t1 _ ?side1 HC1_2.out A1.out).mono ?_
 (case side1=>exact uZ HR1_2)
 rintro e w5 ⟨v1,rfl,ho1,hb⟩
 refine⟨_,rfl,?_⟩
 have HO1:=lR ho1
 replace BK1:=eK BK1 hb
 replace BK2:=eK BK2 hb
 replace HB:=eB hb
 (try clear hb)
 refine hK.out _ _ hh (fun hHeld=> ?_)
 clear hK K
 refine nu (N:=(some 5)) ?_
 refine pu 6 (some 9) ?_
 refine ou 5 (some 8) (fun K hK=> ?_)
 refine gs func73 #[L A0_3 l0_3.length c0_3] ?_
 with_reducible refine(slices_Clone_int_int.calls _ _ l0_3 t2 _ ?side1 HC1_3.out A2.out).mono ?_
 (case side1=>exact uZ HR1_3)
 rintro e w6 ⟨v2,rfl,ho1,hb⟩
 refine⟨_,rfl,?_⟩
 have HO2:=C (Kd.R_lower (Kd.R_new' ho1 (Kd.R_lt (uR HO1.out))) (below_size uB))
 replace HO1:=C (Kd.R_elder' (uR HO1.out) (Kd.R_base ho1) hb)
 replace BK1:=eK BK1 hb
 replace BK2:=eK BK2 hb
 replace HB:=eB hb
 (try clear hb)
 obtain⟨Ao1,co1,eo1⟩:=Kd.R_slice HO1.out
 (first|subst eo1|(injection eo1 with f1_ f2_ f3_;have f4_:=f1_.symm;have f5_:=f3_.symm;clear f1_ f2_ f3_;subst f4_;subst f5_))
 obtain⟨Ao2,co2,eo2⟩:=Kd.R_slice HO2.out
 (first|subst eo2|(injection eo2 with f1_ f2_ f3_;have f4_:=f1_.symm;have f5_:=f3_.symm;clear f1_ f2_ f3_;subst f4_;subst f5_))
 refine hK.out _ _ hh (fun hHeld=> ?_)
 clear hK K
 refine nu (N:=(some 8)) ?_
 refine last_ (i:=7) (N:=none) #[true,true,true,true,true,true,true,true,false,false] rfl rfl (one_of HT_.out (by kernel_rfl)) (by decide) (fun K hK=> ?_)
 have hs1:w6.cell? ⟨gb1,2,none⟩=some (L A0_2 l0_2.length c0_2):=(blk_cell BK1.out 2).trans rfl
 have hfs1:=blk_frozen BK1.out 2
 have hns1_1:=n1.out
 have hms1_1:=n0.out
 refine skip_ (w1:= ?_) (by rfl) rfl ?_ ?_
 rotate_left
 ·go_simp
  rfl
 refine hK.out _ _ ?_
 clear hK K
 refine pu 8 (some 10) ?_
 refine last_ (i:=9) (N:=none) #[true,true,true,true,true,true,true,true,true,true] rfl rfl (one_of HT_.out (by kernel_rfl)) (by decide) (fun K hK=> ?_)
 have hs2:w6.cell? ⟨gb1,3,none⟩=some (L A0_3 l0_3.length c0_3):=(blk_cell BK1.out 3).trans rfl
 have hfs2:=blk_frozen BK1.out 3
 have hns2_1:=n1.out
 have hms2_1:=n0.out
 refine skip_ (w1:= ?_) (by rfl) rfl ?_ ?_
 rotate_left
 ·go_simp
  rfl
 refine hK.out _ _ ?_
 clear hK K
 refine done_ (done_of HT_.out (by kernel_rfl)) ?_
 have:=n0.out
 have:=n1.out
 obtain⟨_,_,_,_,_,_,_,_,_,_,_,_⟩:=d6 BK1.out
 obtain⟨_,_,_,_,_,_,_,_,_,_,_,_⟩:=d6 BK2.out
 try go_wp2
 refine bodyPost_ret (results_cell_row rfl _ _ gb2 29 #[V I a0_0,V I a0_1,L Ao1 t1.length co1,L Ao2 t2.length co2,V I a0_4,O a0_5] (0,0) _ rfl (bK BK2.out) underlying29 rfl (by kernel_rfl)) rfl ?_
 exact⟨_,_,rE,Kd.R_mono (fR (Kd.R_types (Kd.R_types HO1.out BK1.out (by decide)) BK2.out (by decide))) (fun _ hk=>hk.1.1.2),Kd.R_mono (fR (Kd.R_types (Kd.R_types HO2.out BK1.out (by decide)) BK2.out (by decide))) (fun _ hk=>hk.1.1.2),uB⟩
def impl_copyMachine.f (l0_0:List (S26)) (a0_1:Int) (a0_2:Int) (a0_3:Int) (a0_4:Bool) (a0_5:Int) (a0_6:Bool) (a0_7:Int) (a0_8:Int) (l0_9:List Int) (l0_10:List Int) (a0_11:Int) (a0_12:Bool) (a0_13:Int):Option ((List (S26))×Int×Int×Int×Bool×Int×Bool×Int×Int×List Int×List Int×Int×Bool×Int):=(impl_Job_43.f l0_0).bind fun t123=>((impl_copyLine.f a0_7 a0_8 l0_9 l0_10 a0_11 a0_12).bind fun bt126=>(some (t123,a0_1,a0_2,a0_3,a0_4,a0_5,a0_6,bt126.1,bt126.2.1,bt126.2.2.1,bt126.2.2.2.1,bt126.2.2.2.2.1,bt126.2.2.2.2.2,a0_13)))
def impl_copyMachine.T1:Bool×List (List Nat×List Nat):=(true,[([],[]),([0],[0]),([1],[1]),([],[]),([3],[3]),([4,2],[4]),([0,1,2,3,4],[]),([6,2,5,0,1,2,3,4],[2,6]),([0,1,2,3,4,5,6,7],[]),([8,5,7,0,1,2,3,4,5,6,7],[5,8])])
def impl_copyMachine.B1:List Nat:= [0,1,3,0,8,31,31,127,255,511]
theorem impl_copyMachine.tab1:rtab .any (opsOf Tryz.f26 1)=impl_copyMachine.T1:=by kernel_rfl
theorem impl_copyMachine.bits1:waitsOk impl_copyMachine.T1.2 impl_copyMachine.B1=true:=by kernel_rfl
theorem impl_copyMachine.calls (A0_0:Option Addr) (c0_0:Nat) (l0_0:List (S26)) (a0_1:Int) (a0_2:Int) (a0_3:Int) (a0_4:Bool) (a0_5:Int) (a0_6:Bool) (a0_7:Int) (a0_8:Int) (A0_9:Option Addr) (c0_9:Nat) (l0_9:List Int) (A0_10:Option Addr) (c0_10:Nat) (l0_10:List Int) (a0_11:Int) (a0_12:Bool) (a0_13:Int) (r1:List (S26)) (r2:Int) (r3:Int) (r4:Int) (r5:Bool) (r6:Int) (r7:Bool) (r8:Int) (r9:Int) (r10:List Int) (r11:List Int) (r12:Int) (r13:Bool) (r14:Int) (w:World) (hr0_0:Kd.C k26 w A0_0 l0_0.length l0_0) (hc0_0:l0_0.length≤c0_0) (hr0_9:Kd.C (Kd.int .i64) w A0_9 l0_9.length l0_9) (hc0_9:l0_9.length≤c0_9) (hr0_10:Kd.C (Kd.int .i64) w A0_10 l0_10.length l0_10) (hc0_10:l0_10.length≤c0_10) (h:impl_copyMachine.f l0_0 a0_1 a0_2 a0_3 a0_4 a0_5 a0_6 a0_7 a0_8 l0_9 l0_10 a0_11 a0_12 a0_13=some (r1,r2,r3,r4,r5,r6,r7,r8,r9,r10,r11,r12,r13,r14)):
 Calls prog 26 #[G #[L A0_0 l0_0.length c0_0,V I a0_1,V I a0_2,V I a0_3,O a0_4,V I a0_5,O a0_6,V I a0_7,V I a0_8,L A0_9 l0_9.length c0_9,L A0_10 l0_10.length c0_10,V I a0_11,O a0_12,V I a0_13]] w fun e w'=>∃v0_ v9_ v10_:Value,e=.returned (G #[v0_,V I r2,V I r3,V I r4,O r5,V I r6,O r7,V I r8,V I r9,v9_,v10_,V I r12,O r13,V I r14])∧Kd.R k26 26 w' w.heap.size (fun _=>True) v0_ r1∧Kd.R (Kd.int .i64) 3 w' w.heap.size (fun k_=>qm k_ v10_) v9_ r10∧Kd.R (Kd.int .i64) 3 w' w.heap.size (fun k_=>qm k_ v9_) v10_ r11∧Below w.heap.size w w':=by
 have hu1:=underlying31
 have hu2:=underlying29
 have HR1_0:=C hr0_0
 have HC1_0:=C hc0_0
 (try clear hr0_0);(try clear hc0_0)
 have HR1_9:=C hr0_9
 have HC1_9:=C hc0_9
 (try clear hr0_9);(try clear hc0_9)
 have HR1_10:=C hr0_10
 have HC1_10:=C hc0_10
 (try clear hr0_10);(try clear hc0_10)
 have HB:=C (Below.refl w.heap.size w)
 have H:=h
 unfold impl_copyMachine.f at H
 clear h
 obtain⟨t1,A1,H⟩:=bnd H
 obtain⟨⟨t2,t3,t4,t5,t6,t7⟩,A2,H⟩:=bnd H
 dsimp only at H
 simp only[Option.some.injEq,Prod.mk.injEq]at H
 obtain⟨rfl,rfl,rfl,rfl,rfl,rfl,rfl,rfl,rfl,rfl,rfl,rfl,rfl,rfl⟩:=H
 go_enter func26,ntmps26
 try go_wp2_with (first|((with_reducible refine J (N:=1) rfl ?_);refine Fix.be 1 #[L A0_0 l0_0.length c0_0,V I a0_1,V I a0_2,V I a0_3,O a0_4,V I a0_5,O a0_6,V I a0_7,V I a0_8,L A0_9 l0_9.length c0_9,L A0_10 l0_10.length c0_10,V I a0_11,O a0_12,V I a0_13] 31 ?_;intro gb1 hg w2 BK1 hb;have GW1:=gE (w:=w) hg;replace HB:=eB hb;clear hb hg)|((with_reducible refine J (N:=2) rfl ?_);refine Fix.be 2 #[L none 0 0,V I 0,V I 0,V I 0,O false,V I 0,O false,V I 0,V I 0,L none 0 0,L none 0 0,V I 0,O false,V I 0] 31 ?_;intro gb2 hg w3 BK2 hb;have GW2:=gE (w:=w) hg;have n0:=nL hg BK1;have n1:=nG hg BK1;replace BK1:=eK BK1 hb;replace HB:=eB hb;clear hb hg))
 replace BK1:=dK BK1
 replace BK2:=dK BK2
 replace HB:=dB HB
 refine start_ (n:=10) (S:=fun w'=>cl14 w' gb1 (L A0_0 l0_0.length c0_0) (V I a0_1) (V I a0_2) (V I a0_3) (O a0_4) (V I a0_5) (O a0_6) (V I a0_7) (V I a0_8) (L A0_9 l0_9.length c0_9) (L A0_10 l0_10.length c0_10) (V I a0_11) (O a0_12) (V I a0_13)) (ds:= [7,9]) #[false,false,false,false,false,false,false,false,false,false] (by kernel_rfl) rfl rfl hh (fun hHeld=> ?_);refine with_tabW impl_copyMachine.tab1 impl_copyMachine.bits1 (fun HT_ HW_=> ?_)
 generalize w3.drew=w4 at BK1 BK2 HB hHeld ⊢
 refine pu 0 (some 3) ?_
 refine pu 3 (some 6) ?_
 refine tu 1 (some 4) hHeld ?_
 refine tu 4 (some 7) hHeld ?_
 refine ou 2 (some 5) (fun K hK=> ?_)
 refine gs func43 #[L A0_0 l0_0.length c0_0] ?_
 with_reducible refine(impl_Job_43.calls _ _ l0_0 t1 _ ?side1 HC1_0.out A1.out).mono ?_
 (case side1=>exact uZ HR1_0)
 rintro e w5 ⟨v1,rfl,ho1,hb⟩
 refine⟨_,rfl,?_⟩
 have HO1:=lR ho1
 replace BK1:=eK BK1 hb
 replace BK2:=eK BK2 hb
 replace HB:=eB hb
 (try clear hb)
 refine hK.out _ _ hh (fun hHeld=> ?_)
 clear hK K
 refine nu (N:=(some 5)) ?_
 refine pu 6 (some 9) ?_
 refine ou 5 (some 8) (fun K hK=> ?_)
 refine gs func44 #[G #[V I a0_7,V I a0_8,L A0_9 l0_9.length c0_9,L A0_10 l0_10.length c0_10,V I a0_11,O a0_12]] ?_
 with_reducible refine(impl_copyLine.calls a0_7 a0_8 _ _ l0_9 _ _ l0_10 a0_11 a0_12 t2 t3 t4 t5 t6 t7 _ ?side1 HC1_9.out ?side3 HC1_10.out A2.out).mono ?_
 (case side1=>exact uZ HR1_9)
 (case side3=>exact uZ HR1_10)
 rintro e w6 ⟨v2,v3,rfl,ho1,ho2,hb⟩
 refine⟨_,rfl,?_⟩
 have HO2:=lR ho1
 have HO3:=lR ho2
 replace HO1:=eR HO1 hb
 replace BK1:=eK BK1 hb
 replace BK2:=eK BK2 hb
 replace HB:=eB hb
 (try clear hb)
 obtain⟨Ao1,co1,eo1⟩:=Kd.R_slice HO1.out
 (first|subst eo1|(injection eo1 with f1_ f2_ f3_;have f4_:=f1_.symm;have f5_:=f3_.symm;clear f1_ f2_ f3_;subst f4_;subst f5_))
 obtain⟨Ao2,co2,eo2⟩:=Kd.R_slice HO2.out
 (first|subst eo2|(injection eo2 with f1_ f2_ f3_;have f4_:=f1_.symm;have f5_:=f3_.symm;clear f1_ f2_ f3_;subst f4_;subst f5_))
 obtain⟨Ao3,co3,eo3⟩:=Kd.R_slice HO3.out
 (first|subst eo3|(injection eo3 with f1_ f2_ f3_;have f4_:=f1_.symm;have f5_:=f3_.symm;clear f1_ f2_ f3_;subst f4_;subst f5_))
 refine hK.out _ _ hh (fun hHeld=> ?_)
 clear hK K
 refine nu (N:=(some 8)) ?_
 refine last_ (i:=7) (N:=none) #[true,true,true,true,true,true,true,true,false,false] rfl rfl (one_of HT_.out (by kernel_rfl)) (by decide) (fun K hK=> ?_)
 have hs1:w6.cell? ⟨gb1,0,none⟩=some (L A0_0 l0_0.length c0_0):=(blk_cell BK1.out 0).trans rfl
 have hfs1:=blk_frozen BK1.out 0
 have hns1_1:=n1.out
 have hms1_1:=n0.out
 refine skip_ (w1:= ?_) (by rfl) rfl ?_ ?_
 rotate_left
 ·go_simp
  rfl
 refine hK.out _ _ ?_
 clear hK K
 refine pu 8 (some 10) ?_
 refine last_ (i:=9) (N:=none) #[true,true,true,true,true,true,true,true,true,true] rfl rfl (one_of HT_.out (by kernel_rfl)) (by decide) (fun K hK=> ?_)
 have hs2:w6.cell? ⟨gb1,7,none⟩=some (V I a0_7):=(blk_cell BK1.out 7).trans rfl
 have hfs2:=blk_frozen BK1.out 7
 have hns2_1:=n1.out
 have hms2_1:=n0.out
 have hs3:w6.cell? ⟨gb1,8,none⟩=some (V I a0_8):=(blk_cell BK1.out 8).trans rfl
 have hfs3:=blk_frozen BK1.out 8
 have hns3_1:=n1.out
 have hms3_1:=n0.out
 have hs4:w6.cell? ⟨gb1,9,none⟩=some (L A0_9 l0_9.length c0_9):=(blk_cell BK1.out 9).trans rfl
 have hfs4:=blk_frozen BK1.out 9
 have hns4_1:=n1.out
 have hms4_1:=n0.out
 have hs5:w6.cell? ⟨gb1,10,none⟩=some (L A0_10 l0_10.length c0_10):=(blk_cell BK1.out 10).trans rfl
 have hfs5:=blk_frozen BK1.out 10
 have hns5_1:=n1.out
 have hms5_1:=n0.out
 have hs6:w6.cell? ⟨gb1,11,none⟩=some (V I a0_11):=(blk_cell BK1.out 11).trans rfl
 have hfs6:=blk_frozen BK1.out 11
 have hns6_1:=n1.out
 have hms6_1:=n0.out
 have hs7:w6.cell? ⟨gb1,12,none⟩=some (O a0_12):=(blk_cell BK1.out 12).trans rfl
 have hfs7:=blk_frozen BK1.out 12
 have hns7_1:=n1.out
 have hms7_1:=n0.out
 refine skip_ (w1:= ?_) (by rfl) rfl ?_ ?_
 rotate_left
 ·go_simp
  rfl
 refine hK.out _ _ ?_
 clear hK K
 refine done_ (done_of HT_.out (by kernel_rfl)) ?_
 have:=n0.out
 have:=n1.out
 have h_:=d14 BK1.out;(repeat(obtain⟨_,h_⟩:=h_))
 obtain⟨_,_,_,_,_,_,_,_,_,_,_,_,_,_,_,_,_,_,_,_,_,_,_,_,_,_,_,_⟩:=d14 BK2.out
 try go_wp2
 refine bodyPost_ret (results_cell_row rfl _ _ gb2 31 #[L Ao1 t1.length co1,V I a0_1,V I a0_2,V I a0_3,O a0_4,V I a0_5,O a0_6,V I t2,V I t3,L Ao2 t4.length co2,L Ao3 t5.length co3,V I t6,O t7,V I a0_13] (0,0) _ rfl (bK BK2.out) underlying31 rfl (by kernel_rfl)) rfl ?_
 exact⟨_,_,_,rE,Kd.R_mono (fR (Kd.R_types (Kd.R_types HO1.out BK1.out (by decide)) BK2.out (by decide))) (fun _ hk=>trivial),Kd.R_mono (fR (Kd.R_types (Kd.R_types HO2.out BK1.out (by decide)) BK2.out (by decide))) (fun _ hk=>hk.1.1),Kd.R_mono (fR (Kd.R_types (Kd.R_types HO3.out BK1.out (by decide)) BK2.out (by decide))) (fun _ hk=>hk.1.1),uB⟩
def impl_within.f (a0:Int) (a1:Int) (a2:Int):Option (Bool):=if a0 ≥ a1 then(some (decide (a0≤a2))) else(some false)
theorem impl_within.W1 {p:Prop} (h:p:=by
 go_enter func47,ntmps47
 go_wp2
 go_ret
 exact⟨by first|rfl|(simp;done)|(simp[*];done),by repeat(first|exact Drawn0.refl _|apply Drawn0.step)⟩):p:=h
theorem impl_within.calls (a0:Int) (a1:Int) (a2:Int) (r:Bool) (w:World) (h:impl_within.f a0 a1 a2=some r):
 Calls prog 47 #[V I a0,V I a1,V I a2] w fun e w'=>e=.returned (O r)∧Drawn0 w w':=by
 have H:=h
 unfold impl_within.f at H
 clear h
 by_cases c1:a0 ≥ a1
 ·rw[if_pos c1]at H
  replace c1:=decide_eq_true c1
  obtain rfl:=si H
  exact impl_within.W1
 rw[if_neg c1]at H
 replace c1:=decide_eq_false c1
 obtain rfl:=si H
 exact impl_within.W1
def impl_JobOk.f (a0_0:Int) (a0_1:Int) (a0_2:Int) (a0_3:Bool) (a0_4:Int) (a0_5:Bool):Option (Bool):=(impl_within.f a0_0 1 9999).bind fun t137=>(if t137=true then((impl_within.f a0_1 1 64).bind fun t138=>(if t138=true then((impl_within.f a0_2 1 20).bind fun t139=>(if t139=true then((impl_within.f a0_4 0 9).bind fun t140=>(some t140)) else(some false))) else(some false))) else(some false))
theorem impl_JobOk.W1 {p:Prop} (h:p:=by
 go_enter func48,ntmps48
 go_wp2_with (first|((with_reducible refine J (N:=1) rfl ?_);refine Fix.be 1 #[V I a0_0,V I a0_1,V I a0_2,O a0_3,V I a0_4,O a0_5] 26 ?_;intro gb1 hg w1 BK1 hb;have GW1:=gE (w:=w) hg;replace HB:=eB hb;clear hb hg;obtain⟨_,_,_,_,_,_,_,_,_,_,_,_⟩:=d6 BK1.out)|((with_reducible refine F (f:=47) rfl ?_);refine gl 47 (some 5) func47 #[V I a0_0,V I 1,V I 9999] ?_;(with_reducible refine(impl_within.calls a0_0 1 9999 true _ A1.out).mono ?_);rintro e w' ⟨rfl,⟨nd,rfl⟩⟩;refine⟨_,rfl,?_⟩)|(go_at_call 47;(with_reducible refine(impl_within.calls a0_1 1 64 true _ A2.out).mono ?_);rintro e w' ⟨rfl,⟨nd,rfl⟩⟩)|(go_at_call 47;(with_reducible refine(impl_within.calls a0_2 1 20 false _ A3.out).mono ?_);rintro e w' ⟨rfl,⟨nd,rfl⟩⟩)|(go_at_call 47;(with_reducible refine(impl_within.calls a0_1 1 64 false _ A2.out).mono ?_);rintro e w' ⟨rfl,⟨nd,rfl⟩⟩))
 go_ret
 exact⟨rE,uB⟩):p:=h
theorem impl_JobOk.calls (a0_0:Int) (a0_1:Int) (a0_2:Int) (a0_3:Bool) (a0_4:Int) (a0_5:Bool) (r:Bool) (w:World) (h:impl_JobOk.f a0_0 a0_1 a0_2 a0_3 a0_4 a0_5=some r):
 Calls prog 48 #[G #[V I a0_0,V I a0_1,V I a0_2,O a0_3,V I a0_4,O a0_5]] w fun e w'=>e=.returned (O r)∧Below w.heap.size w w':=by
 have hu1:=underlying26
 have HB:=C (Below.refl w.heap.size w)
 have H:=h
 unfold impl_JobOk.f at H
 clear h
 obtain⟨t1,A1,H⟩:=bnd H
 by_cases c1:t1=true
 rotate_left
 ·obtain rfl:=nt c1
  replace H:=nf H
  obtain rfl:=si H
  go_enter func48,ntmps48
  go_wp2_with (first|((with_reducible refine J (N:=1) rfl ?_);refine Fix.be 1 #[V I a0_0,V I a0_1,V I a0_2,O a0_3,V I a0_4,O a0_5] 26 ?_;intro gb1 hg w1 BK1 hb;have GW1:=gE (w:=w) hg;have GE1:=GW1;replace HB:=eB hb;clear hb hg;obtain⟨_,_,_,_,_,_,_,_,_,_,_,_⟩:=d6 BK1.out)|((with_reducible refine F (f:=47) rfl ?_);refine gl 47 (some 5) func47 #[V I a0_0,V I 1,V I 9999] ?_;(with_reducible refine(impl_within.calls a0_0 1 9999 false _ A1.out).mono ?_);rintro e w' ⟨rfl,⟨nd,rfl⟩⟩;refine⟨_,rfl,?_⟩))
  go_ret
  exact⟨rE,uB⟩
 subst c1
 rw[if_pos rfl]at H
 obtain⟨t2,A2,H⟩:=bnd H
 by_cases c2:t2=true
 rotate_left
 ·obtain rfl:=nt c2
  replace H:=nf H
  obtain rfl:=si H
  exact impl_JobOk.W1
 subst c2
 rw[if_pos rfl]at H
 obtain⟨t3,A3,H⟩:=bnd H
 by_cases c3:t3=true
 rotate_left
 ·obtain rfl:=nt c3
  replace H:=nf H
  obtain rfl:=si H
  exact impl_JobOk.W1
 subst c3
 rw[if_pos rfl]at H
 obtain⟨t4,A4,H⟩:=bnd H
 obtain rfl:=si H
 go_enter func48,ntmps48
 go_wp2_with (first|((with_reducible refine J (N:=1) rfl ?_);refine Fix.be 1 #[V I a0_0,V I a0_1,V I a0_2,O a0_3,V I a0_4,O a0_5] 26 ?_;intro gb1 hg w1 BK1 hb;have GW1:=gE (w:=w) hg;have GE1:=GW1;replace HB:=eB hb;clear hb hg;obtain⟨_,_,_,_,_,_,_,_,_,_,_,_⟩:=d6 BK1.out)|((with_reducible refine F (f:=47) rfl ?_);refine gl 47 (some 5) func47 #[V I a0_0,V I 1,V I 9999] ?_;(with_reducible refine(impl_within.calls a0_0 1 9999 true _ A1.out).mono ?_);rintro e w' ⟨rfl,⟨nd,rfl⟩⟩;refine⟨_,rfl,?_⟩)|(go_at_call 47;(with_reducible refine(impl_within.calls a0_1 1 64 true _ A2.out).mono ?_);rintro e w' ⟨rfl,⟨nd,rfl⟩⟩)|(go_at_call 47;(with_reducible refine(impl_within.calls a0_2 1 20 true _ A3.out).mono ?_);rintro e w' ⟨rfl,⟨nd,rfl⟩⟩)|(go_at_call 47;(with_reducible refine(impl_within.calls a0_4 0 9 t4 _ A4.out).mono ?_);rintro e w' ⟨rfl,⟨nd,rfl⟩⟩))
 go_ret
 exact⟨rE,uB⟩
theorem impl_jobAt_1.calls (a0 a1 a2:Int) (a3:Bool) (a4:Int) (a5:Bool) (b:Int) (g:Nat) (w:World) (hg:w.cell? ⟨g,0,none⟩=some (V I b)):
 Calls prog 100 #[G #[V I a0,V I a1,V I a2,O a3,V I a4,O a5],.pointer (some ⟨g,0,none⟩)] w fun e w'=>e=.returned (O (a0==b))∧Below w.heap.size w w':=by
 have hu1:=underlying26
 have HG:=C hg
 clear hg
 have HB:=C (Below.refl w.heap.size w)
 go_enter func100,ntmps100
 go_wp2_with (first|((with_reducible refine J (N:=2) rfl ?_);refine box_event ?hg (N:=2) ?hd (cs:= #[V I a0,V I a1,V I a2,O a3,V I a4,O a5]) (t:=26) ?hr ?_;(case hd=>rfl);(case hg=>rfl);(case hr=>exact Fix.hr);intro gb hg w1 hbox hb;have n0_:=eB hb;have n1_:=C hbox;have n3_:=(hb.cell (World.block_lt_of_cell? w _ HG.out)).trans HG.out;clear HB;have HB:=n0_;have BK:=n1_;clear n0_ n1_;clear hb hbox hg;obtain⟨_,_,_,_,_,_,_,_,_,_,_,_⟩:=d6 BK.out))
 go_ret
 exact⟨by first|rfl|(simp;done)|(simp[*];done),uB⟩
def jobIdx:List S26→Int→Int→Int
 | [],_,_=> -1
 |y::ys,b,i=>if y.f0=b then i else jobIdx ys b (i+1)
theorem jobIdx_drop (l:List S26) (b i:Int) (h0:0≤i) (h1:i<(l.length:Int)):jobIdx (l.drop i.toNat) b i=if(rd_T26 l i).f0=b then i else jobIdx (l.drop (i+1).toNat) b (i+1):=by
 have hlt:i.toNat<l.length:=by omega
 rw[List.drop_eq_getElem_cons hlt,show(i+1).toNat=i.toNat+1 by omega]
 show(if(l[i.toNat]).f0=b then _ else _)=_
 simp[rd_T26,List.getD,List.getElem?_eq_getElem hlt]
theorem IndexFunc.calls (A0:Option Addr) (c0:Nat) (l0:List (S26)) (b:Int) (g:Nat) (w:World) (hr0:Kd.C k26 w A0 l0.length l0) (hc0:l0.length≤c0) (hl:l0.length<4611686018427387904) (hg:w.cell? ⟨g,0,none⟩=some (V I b)):
 Calls prog 99 #[L A0 l0.length c0,.func (.func 100) #[] #[.pointer (some ⟨g,0,none⟩)]] w fun e w'=>e=.returned (V I (jobIdx l0 b 0))∧Below w.heap.size w w':=by
 obtain⟨r,hr⟩:∃r,r=jobIdx l0 b 0:=⟨_,rfl⟩
 rw[←hr]
 have hu26:=underlying26
 have HR0:=C hr0
 have HL:=C hl
 have HG:=C hg
 have HX:=C hr
 clear hg hr0 hr hc0 hl
 have HB:=C (Below.refl w.heap.size w)
 go_enter func99,ntmps99
 go_wp2
 go_loopg [8] (l0.length+1) (fun kq v8 w'=>∃(x8_1:Int),v8=V I x8_1∧D (0≤x8_1∧x8_1≤l0.length∧x8_1+kq=l0.length+1)∧D (jobIdx (l0.drop x8_1.toNat) b x8_1=r)∧D (Below w.heap.size w w'))
 case atStart=>exact⟨0,rS,⟨by omega⟩,⟨by simpa using HX.out.symm⟩,⟨uB⟩⟩
 case round=>
  obtain⟨x8_1,rfl,HI,HJ,HB⟩:=hrel
  cases gk with
  |zero=>exact absurd HI.out.2 (by omega)
  |succ k1=>
   by_cases c3:x8_1<(l0.length:Int)
   rotate_left
   ·have H:=HJ.out
    rw[show l0.drop x8_1.toNat= [] from List.drop_eq_nil_of_le (by have:=HI.out;omega)]at H
    have c3b0:decide (x8_1<(l0.length:Int))=false:=decide_eq_false c3
    have HH:=C H
    clear c3 H HJ
    go_wp2
    go_ret
    exact⟨by rw[←HH.out];rfl,HB.out⟩
   have c4:=HI.out.1
   have H:=HJ.out
   rw[jobIdx_drop l0 b x8_1 c4 c3]at H
   clear HJ
   obtain⟨ad,ead,hx0,hx1,hx2,hx3,hx4,hx5⟩:=at_T26 HR0.out x8_1 c4 c3
   cases ead
   replace hx0:=hx HB hx0
   replace hx1:=hx HB hx1
   replace hx2:=hx HB hx2
   replace hx3:=hx HB hx3
   replace hx4:=hx HB hx4
   replace hx5:=hx HB hx5
   have hgw:=C ((HB.out.cell (World.block_lt_of_cell? w _ HG.out)).trans HG.out)
   have p1:=eq_true c4
   have q1:=eq_true c3
   have c3b0:decide (x8_1<(l0.length:Int))=true:=decide_eq_true c3
   have c4b0:decide (0≤x8_1)=true:=decide_eq_true c4
   have hw1:wrap64 (x8_1+1)=x8_1+1:=by have:=HL.out;unfold wrap64;omega
   have HW:=C hw1
   clear c3 c4 hw1
   by_cases c5:(rd_T26 l0 x8_1).f0=b
   ·rw[if_pos c5]at H
    have c5b:((rd_T26 l0 x8_1).f0==b)=true:=beq_iff_eq.mpr c5
    have HH:=C H
    clear c5 H
    go_wp2_with (first|((with_reducible refine Ext.gate_tmp (t:=11) rfl ?_);refine Ext.goesC_ (t:=11) (f:=100) (some 16) rfl rfl func100 (by kernel_rfl) rfl _ (.tmp 15) rfl rfl rfl ?_;refine(impl_jobAt_1.calls _ _ _ _ _ _ b g _ hgw.out).mono ?_;rintro e w9 ⟨rfl,hb⟩;refine⟨_,rfl,?_⟩;have n0_:=C (below_step HB.out hb);clear HB;have HB:=n0_;clear n0_ hb))
    go_ret
    exact⟨by rw[HH.out];rfl,HB.out⟩
   rw[if_neg c5]at H
   have c5b:((rd_T26 l0 x8_1).f0==b)=false:=beq_eq_false_iff_ne.mpr c5
   clear c5
   have HJ:=C H
   clear H
   go_wp2_with (first|((with_reducible refine Ext.gate_tmp (t:=11) rfl ?_);refine Ext.goesC_ (t:=11) (f:=100) (some 16) rfl rfl func100 (by kernel_rfl) rfl _ (.tmp 15) rfl rfl rfl ?_;refine(impl_jobAt_1.calls _ _ _ _ _ _ b g _ hgw.out).mono ?_;rintro e w9 ⟨rfl,hb⟩;refine⟨_,rfl,?_⟩;have n0_:=C (below_step HB.out hb);clear HB;have HB:=n0_;clear n0_ hb))
   go_roundg k1
   case measure=>omega
   case rel=>exact⟨x8_1+1,(by rw[HW.out]),⟨by have:=HI.out;have:=of_eq_true q1;omega⟩,HJ,HB⟩
def impl_jobAt.f (l0:List S26) (a1:Int):Option Int:=if l0.length<4611686018427387904 then some (jobIdx l0 a1 0) else none
theorem impl_jobAt.calls (A0:Option Addr) (c0:Nat) (l0:List (S26)) (a1:Int) (r:Int) (w:World) (hr0:Kd.C k26 w A0 l0.length l0) (hc0:l0.length≤c0) (h:impl_jobAt.f l0 a1=some r):
 Calls prog 74 #[L A0 l0.length c0,V I a1] w fun e w'=>e=.returned (V I r)∧Below w.heap.size w w':=by
 unfold impl_jobAt.f at h
 by_cases hl:l0.length<4611686018427387904
 ·rw[if_pos hl]at h
  obtain rfl:=Option.some.inj h
  have HR1:=C hr0
  have HC1:=C hc0
  have HL:=C hl
  clear hr0 hc0 hl h
  have HB:=C (Below.refl w.heap.size w)
  go_enter func74,ntmps74
  go_wp2_with (first|((with_reducible refine J (N:=3) rfl ?_);refine box_event ?hg (N:=3) ?hd (cs:= #[V I a1]) (t:=3) ?hr ?_;(case hd=>rfl);(case hg=>rfl);(case hr=>exact Fix.hr);intro gb hg w1 hbox hb;have BK:=C ((blk_cell hbox 0).trans rfl:w1.cell? ⟨gb,0,none⟩=some (V I a1));replace HB:=eB hb;clear hb hbox hg)|(go_at_call 99;refine(IndexFunc.calls _ _ l0 a1 gb _ (Kd.C_below HR1.out HB.out) HC1.out HL.out BK.out).mono ?_;rintro e w2 ⟨rfl,hb⟩;have n0_:=C (below_step HB.out hb);clear HB;have HB:=n0_;clear n0_ hb))
  go_ret
  exact⟨rfl,HB.out⟩
 ·rw[if_neg hl]at h
  exact absurd h (by simp)
def impl_JobsOk.l0:Nat→List (S26)→List (S26)→Int→Int→Option (Bool)
 |0,_,_,_,_=>none
 |k+1,x0,x8,x9,x10=>if x10<x9 then(if 0≤x10 then(if x10<(x8.length:Int) then((impl_JobOk.f ((rd_T26 x8 x10).f0) ((rd_T26 x8 x10).f1) ((rd_T26 x8 x10).f2) ((rd_T26 x8 x10).f3) ((rd_T26 x8 x10).f4) ((rd_T26 x8 x10).f5)).bind fun t144=>(if t144=true then((impl_jobAt.f x0 ((rd_T26 x8 x10).f0)).bind fun t145=>(if t145=x10 then(impl_JobsOk.l0 k x0 x8 x9 (wrap64 (x10+1))) else(some false))) else(some false))) else(none)) else(none)) else(some true)
def impl_JobsOk.f (k:Nat) (l0:List (S26)):Option (Bool):=if(l0.length:Int) >12 then(some false) else(impl_JobsOk.l0 k l0 l0 (l0.length:Int) 0)
theorem impl_JobsOk.calls (k:Nat) (A0:Option Addr) (c0:Nat) (l0:List (S26)) (r:Bool) (w:World) (hr0:Kd.C k26 w A0 l0.length l0) (hc0:l0.length≤c0) (h:impl_JobsOk.f k l0=some r):
 Calls prog 45 #[L A0 l0.length c0] w fun e w'=>e=.returned (O r)∧Below w.heap.size w w':=by
 have hu1:=underlying26
 have HR1:=C hr0
 have HC1:=C hc0
 (try clear hr0);(try clear hc0)
 have HB:=C (Below.refl w.heap.size w)
 have H:=h
 unfold impl_JobsOk.f at H
 clear h
 by_cases c1:(l0.length:Int) >12
 ·rw[if_pos c1]at H
  have c1b0:decide (12<(l0.length:Int))=true:=decide_eq_true c1
  have c1b1:decide (12<l0.length)=true:=decide_eq_true (by omega)
  clear c1
  obtain rfl:=si H
  go_enter func45,ntmps45
  go_wp2
  go_ret
  exact⟨rE,uB⟩
 rw[if_neg c1]at H
 have c1b0:decide (12<(l0.length:Int))=false:=decide_eq_false c1
 have c1b1:decide (12<l0.length)=false:=decide_eq_false (by omega)
 clear c1
 have H':=C H
 clear H
 go_enter func45,ntmps45
 go_wp2
 go_loopg [10] k (fun kq v10 w'=>∃(x1_1:Int),v10=V I x1_1∧D (impl_JobsOk.l0 kq l0 l0 (l0.length:Int) x1_1=some r)∧D (kq≤k)∧D (Below w.heap.size w w'))
 case atStart=>exact⟨(0),rS,H',⟨Nat.le_refl _⟩,⟨uB⟩⟩
 case round=>
  clear H'
  obtain⟨x1_1,rfl,HA,HK1,HB⟩:=hrel
  cases gk with
  |zero=>exact absurd HA.out (by simp[impl_JobsOk.l0])
  |succ k1=>
   have H:=HA.out
   clear HA
   simp only[impl_JobsOk.l0]at H
   by_cases c2:x1_1<(l0.length:Int)
   rotate_left
   ·rw[if_neg c2]at H
    replace c2:=decide_eq_false c2
    obtain rfl:=si H
    go_wp2
    go_ret
    exact⟨rE,uB⟩
   rw[if_pos c2]at H
   replace c2:=decide_eq_true c2
   obtain⟨c3,H⟩:=np H
   replace c3:=decide_eq_true c3
   obtain⟨c4,H⟩:=np H
   replace c4:=decide_eq_true c4
   obtain⟨t1,A1,H⟩:=bnd H
   by_cases c5:t1=true
   rotate_left
   ·obtain rfl:=nt c5
    replace H:=nf H
    obtain rfl:=si H
    have p1:0≤(x1_1:Int):=oT
    have q1:x1_1<(l0.length:Int):=oT
    obtain⟨ad1,e1,hx1_0,hx1_1,hx1_2,hx1_3,hx1_4,hx1_5⟩:=at_T26 (Kd.C_below HR1.out HB.out) x1_1 p1 q1
    cases e1
    replace p1:=eq_true p1
    replace q1:=eq_true q1
    go_wp2_with (first|((with_reducible refine J (N:=4) rfl ?_);refine Fix.be 4 #[V I 0,V I 0,V I 0,O false,V I 0,O false] 26 ?_;intro gb1 hg w1 BK1 hb;have GW1:=gE (w:=w) hg;have GE1:=GW1;replace HB:=eB hb;clear hb hg;obtain⟨_,_,_,_,_,_,_,_,_,_,_,_⟩:=d6 BK1.out)|((with_reducible refine F (f:=48) rfl ?_);refine gl 48 (some 16) func48 #[G #[V I ((rd_T26 l0 x1_1).f0),V I ((rd_T26 l0 x1_1).f1),V I ((rd_T26 l0 x1_1).f2),O ((rd_T26 l0 x1_1).f3),V I ((rd_T26 l0 x1_1).f4),O ((rd_T26 l0 x1_1).f5)]] ?_;(with_reducible refine(impl_JobOk.calls ((rd_T26 l0 x1_1).f0) ((rd_T26 l0 x1_1).f1) ((rd_T26 l0 x1_1).f2) ((rd_T26 l0 x1_1).f3) ((rd_T26 l0 x1_1).f4) ((rd_T26 l0 x1_1).f5) false _ A1.out).mono ?_);rintro e w2 ⟨rfl,hb⟩;refine⟨_,rfl,?_⟩;replace BK1:=C (blk_below (g:=gb1) (o:=.cells #[V I ((rd_T26 l0 x1_1).f0),V I ((rd_T26 l0 x1_1).f1),V I ((rd_T26 l0 x1_1).f2),O ((rd_T26 l0 x1_1).f3),V I ((rd_T26 l0 x1_1).f4),O ((rd_T26 l0 x1_1).f5)] 26 (0,0)) (bK BK1.out) hb);replace HB:=eB hb;clear hb))
    go_ret
    exact⟨rE,uB⟩
   subst c5
   rw[if_pos rfl]at H
   obtain⟨t2,A2,H⟩:=bnd H
   by_cases c6:t2=x1_1
   rotate_left
   ·rw[if_neg c6]at H
    have c6b0:(t2==x1_1)=false:=beq_eq_false_iff_ne.mpr c6
    have c6b1:(t2 !=x1_1)=true:=bne_iff_ne.mpr c6
    obtain rfl:=si H
    have p1:0≤(x1_1:Int):=oT
    have q1:x1_1<(l0.length:Int):=oT
    obtain⟨ad1,e1,hx1_0,hx1_1,hx1_2,hx1_3,hx1_4,hx1_5⟩:=at_T26 (Kd.C_below HR1.out HB.out) x1_1 p1 q1
    cases e1
    replace p1:=eq_true p1
    replace q1:=eq_true q1
    go_wp2_with (first|((with_reducible refine J (N:=4) rfl ?_);refine Fix.be 4 #[V I 0,V I 0,V I 0,O false,V I 0,O false] 26 ?_;intro gb1 hg w1 BK1 hb;have GW1:=gE (w:=w) hg;have GE1:=GW1;replace HB:=eB hb;clear hb hg;obtain⟨_,_,_,_,_,_,_,_,_,_,_,_⟩:=d6 BK1.out)|((with_reducible refine F (f:=48) rfl ?_);refine gl 48 (some 16) func48 #[G #[V I ((rd_T26 l0 x1_1).f0),V I ((rd_T26 l0 x1_1).f1),V I ((rd_T26 l0 x1_1).f2),O ((rd_T26 l0 x1_1).f3),V I ((rd_T26 l0 x1_1).f4),O ((rd_T26 l0 x1_1).f5)]] ?_;(with_reducible refine(impl_JobOk.calls ((rd_T26 l0 x1_1).f0) ((rd_T26 l0 x1_1).f1) ((rd_T26 l0 x1_1).f2) ((rd_T26 l0 x1_1).f3) ((rd_T26 l0 x1_1).f4) ((rd_T26 l0 x1_1).f5) true _ A1.out).mono ?_);rintro e w2 ⟨rfl,hb⟩;refine⟨_,rfl,?_⟩;replace BK1:=C (blk_below (g:=gb1) (o:=.cells #[V I ((rd_T26 l0 x1_1).f0),V I ((rd_T26 l0 x1_1).f1),V I ((rd_T26 l0 x1_1).f2),O ((rd_T26 l0 x1_1).f3),V I ((rd_T26 l0 x1_1).f4),O ((rd_T26 l0 x1_1).f5)] 26 (0,0)) (bK BK1.out) hb);replace HB:=eB hb;clear hb;obtain⟨_,_,_,_,_,_,_,_,_,_,_,_⟩:=d6 BK1.out)|(go_at_call 74;(with_reducible refine(impl_jobAt.calls _ _ l0 ((rd_T26 l0 x1_1).f0) t2 _ ?side1 HC1.out A2.out).mono ?_);(case side1=>exact uZ HR1);rintro e w3 ⟨rfl,hb⟩;replace BK1:=eK BK1 hb;replace HB:=eB hb;clear hb))
    go_ret
    exact⟨rE,uB⟩
   rw[if_pos c6]at H
   have c6b0:(t2==x1_1)=true:=beq_iff_eq.mpr c6
   have c6b1:(t2 !=x1_1)=false:=bne_eq_false_iff_eq.mpr c6
   clear c6
   have H':=C H
   clear H
   have p1:0≤(x1_1:Int):=oT
   have q1:x1_1<(l0.length:Int):=oT
   obtain⟨ad1,e1,hx1_0,hx1_1,hx1_2,hx1_3,hx1_4,hx1_5⟩:=at_T26 (Kd.C_below HR1.out HB.out) x1_1 p1 q1
   cases e1
   replace p1:=eq_true p1
   replace q1:=eq_true q1
   go_wp2_with (first|((with_reducible refine J (N:=4) rfl ?_);refine Fix.be 4 #[V I 0,V I 0,V I 0,O false,V I 0,O false] 26 ?_;intro gb1 hg w1 BK1 hb;have GW1:=gE (w:=w) hg;have GE1:=GW1;replace HB:=eB hb;clear hb hg;obtain⟨_,_,_,_,_,_,_,_,_,_,_,_⟩:=d6 BK1.out)|((with_reducible refine F (f:=48) rfl ?_);refine gl 48 (some 16) func48 #[G #[V I ((rd_T26 l0 x1_1).f0),V I ((rd_T26 l0 x1_1).f1),V I ((rd_T26 l0 x1_1).f2),O ((rd_T26 l0 x1_1).f3),V I ((rd_T26 l0 x1_1).f4),O ((rd_T26 l0 x1_1).f5)]] ?_;(with_reducible refine(impl_JobOk.calls ((rd_T26 l0 x1_1).f0) ((rd_T26 l0 x1_1).f1) ((rd_T26 l0 x1_1).f2) ((rd_T26 l0 x1_1).f3) ((rd_T26 l0 x1_1).f4) ((rd_T26 l0 x1_1).f5) true _ A1.out).mono ?_);rintro e w2 ⟨rfl,hb⟩;refine⟨_,rfl,?_⟩;replace BK1:=C (blk_below (g:=gb1) (o:=.cells #[V I ((rd_T26 l0 x1_1).f0),V I ((rd_T26 l0 x1_1).f1),V I ((rd_T26 l0 x1_1).f2),O ((rd_T26 l0 x1_1).f3),V I ((rd_T26 l0 x1_1).f4),O ((rd_T26 l0 x1_1).f5)] 26 (0,0)) (bK BK1.out) hb);replace HB:=eB hb;clear hb;obtain⟨_,_,_,_,_,_,_,_,_,_,_,_⟩:=d6 BK1.out)|(go_at_call 74;(with_reducible refine(impl_jobAt.calls _ _ l0 ((rd_T26 l0 x1_1).f0) t2 _ ?side1 HC1.out A2.out).mono ?_);(case side1=>exact uZ HR1);rintro e w3 ⟨rfl,hb⟩;replace BK1:=eK BK1 hb;replace HB:=eB hb;clear hb))
   go_roundg k1
   case measure=>have:=HK1.out;omega
   case rel=>exact⟨(wrap64 (x1_1+1)),rS,H',⟨by have:=HK1.out;omega⟩,⟨uB⟩⟩
theorem slices_Grow_int_int.ofnil (n:Int) (w:World) (h0:0≤n) (h1:n≤17592186044415):
 Calls prog 101 #[L none 0 0,V I n] w fun e w'=>∃v:Value,e=.returned v∧Kd.R (Kd.int .i64) 3 w' w.heap.size (fun _=>True) v []∧Below w.heap.size w w':=by
 have c1:decide (n<0)=false:=decide_eq_false (by omega)
 by_cases hz:n=0
 ·subst hz
  go_enter func101,ntmps101
  go_wp2
  go_ret
  exact⟨_,rfl,Kd.R_nil _ _ _ _ _,Below.refl _ _⟩
 ·have c2:decide (0<n)=true:=decide_eq_true (by omega)
  have hn:=C h0
  have hn1:=C h1
  go_enter func101,ntmps101
  go_wp2_with ((with_reducible refine gate_builtin (b:=.append) (xs:= #[.tmp 20,.tmp 21]) rfl ?_);at_builtin;refine Kd.R_append_zeros (Kd.int .i64) (w0:=w) w.heap.size rfl (.tmp 20) (.tmp 21) 27 3 3 (V I 0) 8 rfl underlying27 underlying3 info3 rfl (by decide) (by omega) (L none 0 0) [] 0 n (fun _=>True) rfl rfl ?aZ (fun _ _=>trivial) (Kd.R_nil _ _ _ _ _) hn.out (Below.refl _ _) (Nat.le_refl _) ?aL ?_;(case aZ=>rfl);(case aL=>have:=hn1.out;simp;omega);intro v1 w1 hR hb hg hat;clear hg hat;obtain⟨A,c,rfl⟩:=Kd.R_slice hR;have HR:=C hR;have HB:=C hb;clear hR hb)
  go_ret
  exact⟨_,rfl,(Kd.R_take HR.out (m:=0) (Nat.zero_le _)),HB.out⟩
mutual
def slices_Concat_int_int.l0:Nat→List (List Int)→Int→List (List Int)→Int→Int→Option (List Int)
 |0,_,_,_,_,_=>none
 |k+1,x0,x3,x9,x10,x11=>if x11<x10 then(if 0≤x11 then(if x11<(x9.length:Int) then(if(wrap64 (x3+((rd_L3 x9 x11).length:Int)))<0 then(none) else(slices_Concat_int_int.l0 k x0 (wrap64 (x3+((rd_L3 x9 x11).length:Int))) x9 x10 (wrap64 (x11+1)))) else(none)) else(none)) else(if x3<0 then(none) else(if x3 >17592186044415 then(none) else(slices_Concat_int_int.l1 k ([]:List Int) x0 (x0.length:Int) 0)))
def slices_Concat_int_int.l1:Nat→List Int→List (List Int)→Int→Int→Option (List Int)
 |0,_,_,_,_=>none
 |k+1,x6,x25,x26,x27=>if x27<x26 then(if 0≤x27 then(if x27<(x25.length:Int) then(if x6.length+(rd_L3 x25 x27).length<17592186044416 then(slices_Concat_int_int.l1 k (x6++(rd_L3 x25 x27)) x25 x26 (wrap64 (x27+1))) else(none)) else(none)) else(none)) else(some x6)
end
def slices_Concat_int_int.f (k:Nat) (l0:List (List Int)):Option (List Int):=slices_Concat_int_int.l0 k l0 0 l0 (l0.length:Int) 0
theorem slices_Concat_int_int.calls (k:Nat) (A0:Option Addr) (c0:Nat) (l0:List (List Int)) (r:List Int) (w:World) (hr0:Kd.C (Kd.slice 3 (Kd.int .i64)) w A0 l0.length l0) (hc0:l0.length≤c0) (h:slices_Concat_int_int.f k l0=some r):
 Calls prog 75 #[L A0 l0.length c0] w fun e w'=>∃v0_:Value,e=.returned (v0_)∧Kd.R (Kd.int .i64) 3 w' w.heap.size (fun _=>True) v0_ r∧Below w.heap.size w w':=by
 have HR1:=C hr0
 have HC1:=C hc0
 (try clear hr0);(try clear hc0)
 have HB:=C (Below.refl w.heap.size w)
 have H:=h
 unfold slices_Concat_int_int.f at H
 clear h
 have H':=C H
 clear H
 go_enter func75,ntmps75
 go_wp2
 go_loopg [3,11] k (fun kq v3 v11 w'=>∃(x1_1:Int) (x2_1:Int),v3=V I x1_1∧v11=V I x2_1∧D (slices_Concat_int_int.l0 kq l0 x1_1 l0 (l0.length:Int) x2_1=some r)∧D (kq≤k)∧D (Below w.heap.size w w'))
 case atStart=>exact⟨(0),(0),rS,rS,H',⟨Nat.le_refl _⟩,⟨uB⟩⟩
 case round=>
  clear H'
  obtain⟨x1_1,x2_1,rfl,rfl,HA,HK1,HB⟩:=hrel
  cases gk with
  |zero=>exact absurd HA.out (by simp[slices_Concat_int_int.l0])
  |succ k1=>
   have H:=HA.out
   clear HA
   simp only[slices_Concat_int_int.l0]at H
   by_cases c1:x2_1<(l0.length:Int)
   ·rw[if_pos c1]at H
    replace c1:=decide_eq_true c1
    obtain⟨c2,H⟩:=np H
    replace c2:=decide_eq_true c2
    obtain⟨c3,H⟩:=np H
    replace c3:=decide_eq_true c3
    by_cases c4:(wrap64 (x1_1+((rd_L3 l0 x2_1).length:Int)))<0
    ·rw[if_pos c4]at H
     exact absurd H (by simp)
    rw[if_neg c4]at H
    replace c4:=decide_eq_false c4
    have H':=C H
    clear H
    have p1:0≤(x2_1:Int):=oT
    have q1:x2_1<(l0.length:Int):=oT
    obtain⟨ad1,A1_0,c5_0,e1,hx1_0,hl1_0,hi1_0⟩:=at_L3 HR1.out x2_1 p1 q1
    cases e1
    replace hx1_0:=hx HB hx1_0
    have HR2_0:=C hi1_0
    have HC2_0:=C hl1_0
    clear hi1_0 hl1_0
    replace p1:=eq_true p1
    replace q1:=eq_true q1
    go_wp2
    go_roundg k1
    case measure=>have:=HK1.out;omega
    case rel=>exact⟨(wrap64 (x1_1+((rd_L3 l0 x2_1).length:Int))),(wrap64 (x2_1+1)),rS,rS,H',⟨by have:=HK1.out;omega⟩,⟨uB⟩⟩
   rw[if_neg c1]at H
   replace c1:=decide_eq_false c1
   by_cases c2:x1_1<0
   ·rw[if_pos c2]at H
    exact absurd H (by simp)
   rw[if_neg c2]at H
   replace c2:=decide_eq_false c2
   by_cases c3:x1_1 >17592186044415
   ·rw[if_pos c3]at H
    exact absurd H (by simp)
   rw[if_neg c3]at H
   replace c3:=decide_eq_false c3
   have H':=C H
   clear H
   have G1:D (0≤x1_1):=⟨by have:=of_decide_eq_false (show decide (x1_1<0)=false by assumption);omega⟩
   have G2:D (x1_1≤17592186044415):=⟨by have:=of_decide_eq_false (show decide (x1_1 >17592186044415)=false by assumption);omega⟩
   go_wp2_with (go_at_call 101;(with_reducible refine(slices_Grow_int_int.ofnil x1_1 _ G1.out G2.out).mono ?_);rintro e w1 ⟨vg,rfl,hvg,hbg⟩;have HG:=C (Kd.R_lower hvg (below_size HB.out));have n1_:=C (below_step HB.out hbg);clear HB;have HB:=n1_;clear n1_ hvg hbg)
   go_loopg [6,27] k1 (fun kq v6 v27 w'=>∃(x3_2:List Int) (x4_2:Int),v27=V I x4_2∧D (slices_Concat_int_int.l1 kq x3_2 l0 (l0.length:Int) x4_2=some r)∧D (kq≤k1)∧D (Kd.R (Kd.int .i64) 3 w' w.heap.size (fun _=>True) v6 x3_2)∧D (Below w.heap.size w w'))
   case atStart=>exact⟨(([]:List Int)),(0),rS,H',⟨Nat.le_refl _⟩,⟨HG.out⟩,⟨uB⟩⟩
   case round=>
    clear H'
    obtain⟨x3_2,x4_2,rfl,HA,HK2,HO_1,HB⟩:=hrel
    cases gk with
    |zero=>exact absurd HA.out (by simp[slices_Concat_int_int.l1])
    |succ k2=>
     have H:=HA.out
     clear HA
     simp only[slices_Concat_int_int.l1]at H
     by_cases c4:x4_2<(l0.length:Int)
     rotate_left
     ·rw[if_neg c4]at H
      replace c4:=decide_eq_false c4
      obtain rfl:=si H
      go_wp2
      go_ret
      exact⟨_,rE,fR HO_1.out,uB⟩
     rw[if_pos c4]at H
     replace c4:=decide_eq_true c4
     obtain⟨c5,H⟩:=np H
     replace c5:=decide_eq_true c5
     obtain⟨c6,H⟩:=np H
     replace c6:=decide_eq_true c6
     obtain⟨c7,H⟩:=np H
     have LMc1:=C c7
     clear c7
     obtain⟨y1,hy1⟩:∃y_:List Int,y_=(x3_2++(rd_L3 l0 x4_2)):=⟨_,rfl⟩
     replace H:(slices_Concat_int_int.l1 k2 y1 l0 (l0.length:Int) (wrap64 (x4_2+1)))=some r:=gy hy1 H
     have Ny1:=C hy1
     clear hy1
     have H':=C H
     clear H
     have p1:0≤(x4_2:Int):=oT
     have q1:x4_2<(l0.length:Int):=oT
     obtain⟨ad1,A1_0,c8_0,e1,hx1_0,hl1_0,hi1_0⟩:=at_L3 HR1.out x4_2 p1 q1
     cases e1
     replace hx1_0:=hx HB hx1_0
     have HR2_0:=C hi1_0
     have HC2_0:=C hl1_0
     clear hi1_0 hl1_0
     replace p1:=eq_true p1
     replace q1:=eq_true q1
     go_wp2_with (first|((with_reducible refine gate_builtin (b:=.append) (xs:= #[.tmp 31,.tmp 32]) rfl ?_);at_builtin;refine Kd.R_append_rows (Kd.int .i64) (w0:=w) w.heap.size rfl (.tmp 31) (.tmp 32) 27 3 (V I 0) 8 rfl underlying27 info3 rfl (by decide) (by omega) u6 x3_2 (rd_L3 l0 x4_2) _ _ _ (fun _=>True) (fun _=>False) rfl rfl ?aO ?aR (fun _ _ h=>h) (fun _ h=>h.elim) ?aF ?aB ?aS ?aL ?_;(case aR=>exact uZ HR2_0);(case aB=>exact uB);(case aF=>exact(fun _ _=>trivial));(case aO=>exact(uR HO_1.out));(case aS=>exact(below_size uB));(case aL=>have:=LMc1.out;omega);intro v1 w2 ho hb hg hat;rw[←Ny1.out]at ho;have HO1:=C (ho);replace HB:=C (hb);clear HO_1;clear ho hb hg hat))
     go_roundg k2
     case measure=>have:=HK1.out;have:=HK2.out;omega
     case rel=>exact⟨(y1),(wrap64 (x4_2+1)),rS,H',⟨by have:=HK1.out;have:=HK2.out;omega⟩,⟨fR HO1.out⟩,⟨uB⟩⟩
mutual
def impl_LineOk.j0:Nat→Bool→Int→Int→List Int→List Int→Int→Bool→Option (Bool)
 |0,_,_,_,_,_,_,_=>none
 |k+1,x39,x152000,x152001,x152002,x152003,x152004,x152005=>if x39=true then(some false) else((slices_Concat_int_int.f k (([x152003,x152002]:List (List Int)))).bind fun t157=>(impl_LineOk.l0 k t157 (t157.length:Int) 0))
def impl_LineOk.l0:Nat→List Int→Int→Int→Option (Bool)
 |0,_,_,_=>none
 |k+1,x45,x46,x47=>if x47<x46 then(if 0≤x47 then(if x47<(x45.length:Int) then(if(rd x45 x47)=x47 then(impl_LineOk.l0 k x45 x46 (wrap64 (x47+1))) else(some false)) else(none)) else(none)) else(some true)
end
def impl_LineOk.f (k:Nat) (a0_0:Int) (a0_1:Int) (l0_2:List Int) (l0_3:List Int) (a0_4:Int) (a0_5:Bool):Option (Bool):=(impl_within.f a0_0 0 40).bind fun t152=>(if t152=true then(if a0_1 >a0_0 then(impl_LineOk.j0 k true a0_0 a0_1 l0_2 l0_3 a0_4 a0_5) else(if(l0_2.length:Int) >5 then(impl_LineOk.j0 k true a0_0 a0_1 l0_2 l0_3 a0_4 a0_5) else((impl_within.f a0_4 0 100000).bind fun t153=>(if t153=true then(impl_LineOk.j0 k ((wrap64 ((l0_3.length:Int)+(l0_2.length:Int))) !=a0_1) a0_0 a0_1 l0_2 l0_3 a0_4 a0_5) else(impl_LineOk.j0 k true a0_0 a0_1 l0_2 l0_3 a0_4 a0_5))))) else(impl_LineOk.j0 k true a0_0 a0_1 l0_2 l0_3 a0_4 a0_5))
theorem impl_LineOk.W1 {p:Prop} (h:p:=by
 go_wp2_with (first|((with_reducible refine F (f:=47) rfl ?_);refine gl 47 (some 7) func47 #[V I a0_0,V I 0,V I 40] ?_;(with_reducible refine(impl_within.calls a0_0 0 40 true _ A1.out).mono ?_);rintro e w' ⟨rfl,⟨nd,rfl⟩⟩;refine⟨_,rfl,?_⟩)|(go_at_call 47;(with_reducible refine(impl_within.calls a0_4 0 100000 true _ A2.out).mono ?_);rintro e w' ⟨rfl,⟨nd,rfl⟩⟩))
 go_meet
 first
  |(case rel=>exact⟨_,(true),rS,H',⟨oL⟩,⟨by(with_reducible repeat(first|apply Kd.V_alloc|apply Kd.V_drewN|apply Kd.V_drew));exact HO1_2.out⟩,⟨by(with_reducible repeat(first|apply Kd.V_alloc|apply Kd.V_drewN|apply Kd.V_drew));exact HO1_3.out⟩,⟨bK BK1.out⟩,⟨uB⟩⟩)
  |(case rel=>exact⟨_,(((wrap64 ((l0_3.length:Int)+(l0_2.length:Int))) !=a0_1)),rS,H',⟨oL⟩,⟨by(with_reducible repeat(first|apply Kd.V_alloc|apply Kd.V_drewN|apply Kd.V_drew));exact HO1_2.out⟩,⟨by(with_reducible repeat(first|apply Kd.V_alloc|apply Kd.V_drewN|apply Kd.V_drew));exact HO1_3.out⟩,⟨bK BK1.out⟩,⟨uB⟩⟩)):p:=h
theorem impl_LineOk.W2 {p:Prop} (h:p:=by
 go_wp2
 go_ret
 exact⟨rE,uB⟩):p:=h
theorem impl_LineOk.calls (k:Nat) (a0_0:Int) (a0_1:Int) (P0_2_:Nat→Prop) (A0_2:Option Addr) (c0_2:Nat) (l0_2:List Int) (P0_3_:Nat→Prop) (A0_3:Option Addr) (c0_3:Nat) (l0_3:List Int) (a0_4:Int) (a0_5:Bool) (r:Bool) (w:World) (hs0_2:Kd.V (Kd.int .i64) 3 w w.heap.size (fun k_=>P0_2_ k_) (L A0_2 l0_2.length c0_2) l0_2) (hs0_3:Kd.V (Kd.int .i64) 3 w w.heap.size (fun k_=>P0_3_ k_) (L A0_3 l0_3.length c0_3) l0_3) (h:impl_LineOk.f k a0_0 a0_1 l0_2 l0_3 a0_4 a0_5=some r):
 Calls prog 46 #[G #[V I a0_0,V I a0_1,L A0_2 l0_2.length c0_2,L A0_3 l0_3.length c0_3,V I a0_4,O a0_5]] w fun e w'=>e=.returned (O r)∧Below w.heap.size w w':=by
 have hu1:=underlying29
 have HO1_2:=C (show Kd.V (Kd.int .i64) 3 w w.heap.size (fun k_=>((P0_2_ k_∨P0_3_ k_)∨w.heap.size≤k_)) (L A0_2 l0_2.length c0_2) l0_2 from Kd.V_mono hs0_2 (fun k_ hk=>.inl (.inl hk)))
 have HO1_3:=C (show Kd.V (Kd.int .i64) 3 w w.heap.size (fun k_=>((P0_2_ k_∨P0_3_ k_)∨w.heap.size≤k_)) (L A0_3 l0_3.length c0_3) l0_3 from Kd.V_mono hs0_3 (fun k_ hk=>.inl (.inr hk)))
 have HB:=C (Below.refl w.heap.size w)
 have H:=h
 unfold impl_LineOk.f at H
 clear h
 have HC1:=C H
 clear H
 go_enter func46,ntmps46
 go_upto_region 1 with(first|((with_reducible refine J (N:=1) rfl ?_);(try(refine gate_guard (by rfl) ?_;dsimp only));refine Fix.be 1 #[V I a0_0,V I a0_1,L A0_2 l0_2.length c0_2,L A0_3 l0_3.length c0_3,V I a0_4,O a0_5] 29 ?_;intro gb1 hg w1 BK1 hb;have GW1:=gE (w:=w) hg;replace HO1_2:=C (Kd.V_below (Kd.V_elderB (by(with_reducible repeat(first|apply Kd.V_alloc|apply Kd.V_drewN|apply Kd.V_drew));exact HO1_2.out) gb1 (Nat.le_of_eq hg.symm)) hb);replace HO1_3:=C (Kd.V_below (Kd.V_elderB (by(with_reducible repeat(first|apply Kd.V_alloc|apply Kd.V_drewN|apply Kd.V_drew));exact HO1_3.out) gb1 (Nat.le_of_eq hg.symm)) hb);replace HB:=eB hb;clear hb hg))
 (try simp only[Act.put,List.setIfInBounds_toArray,List.set_cons_zero,List.set_cons_succ])
 go_cut [39] (fun v39 wc=>∃(kq:Nat) (x1_1:Bool),v39=O x1_1∧D (impl_LineOk.j0 kq x1_1 a0_0 a0_1 l0_2 l0_3 a0_4 a0_5=some r)∧D (kq≤k)∧D (Kd.V (Kd.int .i64) 3 wc w.heap.size (fun k_=>((P0_2_ k_∨P0_3_ k_)∨w.heap.size≤k_)∧k_≠gb1) (L A0_2 l0_2.length c0_2) l0_2)∧D (Kd.V (Kd.int .i64) 3 wc w.heap.size (fun k_=>((P0_2_ k_∨P0_3_ k_)∨w.heap.size≤k_)∧k_≠gb1) (L A0_3 l0_3.length c0_3) l0_3)∧D (wc.heap[gb1]? =some (.cells #[V I a0_0,V I a0_1,(L A0_2 l0_2.length c0_2),(L A0_3 l0_3.length c0_3),V I a0_4,O a0_5] 29 (0,0)))∧D (Below w.heap.size w wc))
 case first=>
  have H:=HC1.out
  clear HC1
  obtain⟨t1,A1,H⟩:=bnd H
  by_cases c1:t1=true
  rotate_left
  ·obtain rfl:=nt c1
   replace H:=nf H
   have H':=C H
   clear H
   obtain⟨_,_,_,_,_,_,_,_,_,_,_,_⟩:=d6 BK1.out
   go_wp2_with (first|((with_reducible refine F (f:=47) rfl ?_);refine gl 47 (some 7) func47 #[V I a0_0,V I 0,V I 40] ?_;(with_reducible refine(impl_within.calls a0_0 0 40 false _ A1.out).mono ?_);rintro e w' ⟨rfl,⟨nd,rfl⟩⟩;refine⟨_,rfl,?_⟩))
   go_meet
   case rel=>exact⟨_,(true),rS,H',⟨oL⟩,⟨by(with_reducible repeat(first|apply Kd.V_alloc|apply Kd.V_drewN|apply Kd.V_drew));exact HO1_2.out⟩,⟨by(with_reducible repeat(first|apply Kd.V_alloc|apply Kd.V_drewN|apply Kd.V_drew));exact HO1_3.out⟩,⟨bK BK1.out⟩,⟨uB⟩⟩
  subst c1
  rw[if_pos rfl]at H
  by_cases c2:a0_1 >a0_0
  ·rw[if_pos c2]at H
   have c2b0:decide (a0_0<a0_1)=true:=decide_eq_true c2
   clear c2
   (first|rw[c2b0]|(simp only[i64_w,i32_w];rw[c2b0])|skip)
   have H':=C H
   clear H
   obtain⟨_,_,_,_,_,_,_,_,_,_,_,_⟩:=d6 BK1.out
   exact impl_LineOk.W1
  rw[if_neg c2]at H
  have c2b0:decide (a0_0<a0_1)=false:=decide_eq_false c2
  clear c2
  (first|rw[c2b0]|(simp only[i64_w,i32_w];rw[c2b0])|skip)
  by_cases c3:(l0_2.length:Int) >5
  ·rw[if_pos c3]at H
   have c3b0:decide (5<(l0_2.length:Int))=true:=decide_eq_true c3
   have c3b1:decide (5<l0_2.length)=true:=decide_eq_true (by omega)
   clear c3
   have H':=C H
   clear H
   obtain⟨_,_,_,_,_,_,_,_,_,_,_,_⟩:=d6 BK1.out
   exact impl_LineOk.W1
  rw[if_neg c3]at H
  have c3b0:decide (5<(l0_2.length:Int))=false:=decide_eq_false c3
  have c3b1:decide (5<l0_2.length)=false:=decide_eq_false (by omega)
  clear c3
  obtain⟨t2,A2,H⟩:=bnd H
  by_cases c4:t2=true
  ·subst c4
   rw[if_pos rfl]at H
   have H':=C H
   clear H
   obtain⟨_,_,_,_,_,_,_,_,_,_,_,_⟩:=d6 BK1.out
   exact impl_LineOk.W1
  obtain rfl:=nt c4
  replace H:=nf H
  have H':=C H
  clear H
  obtain⟨_,_,_,_,_,_,_,_,_,_,_,_⟩:=d6 BK1.out
  go_wp2_with (first|((with_reducible refine F (f:=47) rfl ?_);refine gl 47 (some 7) func47 #[V I a0_0,V I 0,V I 40] ?_;(with_reducible refine(impl_within.calls a0_0 0 40 true _ A1.out).mono ?_);rintro e w' ⟨rfl,⟨nd,rfl⟩⟩;refine⟨_,rfl,?_⟩)|(go_at_call 47;(with_reducible refine(impl_within.calls a0_4 0 100000 false _ A2.out).mono ?_);rintro e w' ⟨rfl,⟨nd,rfl⟩⟩))
  go_meet
  case rel=>exact⟨_,(true),rS,H',⟨oL⟩,⟨by(with_reducible repeat(first|apply Kd.V_alloc|apply Kd.V_drewN|apply Kd.V_drew));exact HO1_2.out⟩,⟨by(with_reducible repeat(first|apply Kd.V_alloc|apply Kd.V_drewN|apply Kd.V_drew));exact HO1_3.out⟩,⟨bK BK1.out⟩,⟨uB⟩⟩
 case rest=>
  clear HC1
  obtain⟨kq,x1_1,rfl,HA,HJ1,HO_1,HO_2,BK1,HB⟩:=hcut
  cases kq with
  |zero=>exact absurd HA.out (by simp[impl_LineOk.j0])
  |succ kj1=>
   have H:=HA.out
   clear HA
   simp only[impl_LineOk.j0]at H
   by_cases c1:x1_1=true
   ·subst c1
    rw[if_pos rfl]at H
    obtain rfl:=si H
    exact impl_LineOk.W2
   obtain rfl:=nt c1
   replace H:=nf H
   obtain⟨y1,hy1⟩:∃y_:List (List Int),y_=(([l0_3,l0_2]:List (List Int))):=⟨_,rfl⟩
   replace H:((slices_Concat_int_int.f kj1 y1).bind fun t1=>(impl_LineOk.l0 kj1 t1 (t1.length:Int) 0))=some r:=gy hy1 H
   have Ny1:=C hy1
   clear hy1
   obtain⟨t1,A1,H⟩:=bnd H
   have H':=C H
   clear H
   obtain⟨_,_,_,_,_,_,_,_,_,_,_,_⟩:=d6 BK1.out
   go_wp2_with (first|((with_reducible refine J (N:=44) rfl ?_);(try(refine gate_guard (by rfl) ?_;dsimp only));refine Kd.N_lit (Kd.slice 3 (Kd.int .i64)) _ 27 ?hg (N':=44) ?hd (xs:=([l0_3,l0_2]:List (List Int))) (inner:= [L A0_3 l0_3.length c0_3,L A0_2 l0_2.length c0_2]) (ok:=(fun k_=>((P0_2_ k_∨P0_3_ k_)∨w.heap.size≤k_)∧k_≠gb1)) (okp:=(fun k_=>((P0_2_ k_∨P0_3_ k_)∨w.heap.size≤k_)∧k_≠gb1)) ?hr ?hp (fun _ hk=>hk) ((show ∀k_,wc.heap.size≤k_→(fun k_=>((P0_2_ k_∨P0_3_ k_)∨w.heap.size≤k_)∧k_≠gb1) k_ from fun k_ hk=>⟨(.inr (Nat.le_trans (below_size uB) hk)),Kd.freshB (g:=gb1) (o:=.cells #[V I a0_0,V I a0_1,L A0_2 l0_2.length c0_2,L A0_3 l0_3.length c0_3,V I a0_4,O a0_5] 29 (0,0)) (uK BK1.out) k_ hk⟩) _ (Nat.le_refl _)) (Below.refl _ _) (Nat.le_refl _) (by simp) ?_;(case hd=>rfl);(case hg=>rfl);(case hr=>exact Fix.hr);(case hp=>exact(Reps.one (show Kd.FK (Kd.slice 3 (Kd.int .i64)) _ _ l0_3 [L A0_3 l0_3.length c0_3] from(Kd.FK_slice_mk (Kd.V_reads' (Kd.V_mono (ok':=(fun k_=>((P0_2_ k_∨P0_3_ k_)∨w.heap.size≤k_)∧k_≠gb1)) (HO_2.out) (fun k_ hk=>⟨hk.1,hk.2⟩))).2.1 (Kd.V_F (Kd.V_mono (ok':=(fun k_=>((P0_2_ k_∨P0_3_ k_)∨w.heap.size≤k_)∧k_≠gb1)) (HO_2.out) (fun k_ hk=>⟨hk.1,hk.2⟩))))) (Reps.one (show Kd.FK (Kd.slice 3 (Kd.int .i64)) _ _ l0_2 [L A0_2 l0_2.length c0_2] from(Kd.FK_slice_mk (Kd.V_reads' (Kd.V_mono (ok':=(fun k_=>((P0_2_ k_∨P0_3_ k_)∨w.heap.size≤k_)∧k_≠gb1)) (HO_1.out) (fun k_ hk=>⟨hk.1,hk.2⟩))).2.1 (Kd.V_F (Kd.V_mono (ok':=(fun k_=>((P0_2_ k_∨P0_3_ k_)∨w.heap.size≤k_)∧k_≠gb1)) (HO_1.out) (fun k_ hk=>⟨hk.1,hk.2⟩))))) (Reps.none _ _))));intro v1 w2 ho1 hb hg_ hnew_;clear hg_ hnew_;(first|rw[←Ny1.out]at ho1|(simp only[Int.reduceToNat]at ho1;rw[←Ny1.out]at ho1));have HO2:=C (Kd.N_lower ho1 (below_size uB));replace HO_1:=C (Kd.V_elder' (by(with_reducible repeat(first|apply Kd.V_alloc|apply Kd.V_drewN|apply Kd.V_drew));exact HO_1.out) (Kd.N_base ho1) hb);replace HO_2:=C (Kd.V_elder' (by(with_reducible repeat(first|apply Kd.V_alloc|apply Kd.V_drewN|apply Kd.V_drew));exact HO_2.out) (Kd.N_base ho1) hb);replace BK1:=eK BK1 hb;replace HB:=eB hb;clear hb ho1;obtain⟨Ao1,co1,eo1⟩:=Kd.N_slice HO2.out;subst eo1)|((with_reducible refine F (f:=75) rfl ?_);refine gl 75 (some 45) func75 #[L Ao1 y1.length co1] ?_;(with_reducible refine(slices_Concat_int_int.calls kj1 _ _ y1 t1 _ ?side1 ?side2 A1.out).mono ?_);(case side1=>exact uC (Kd.N_reads' HO2.out).2.2);(case side2=>exact(Kd.N_reads' HO2.out).2.1);rintro e w3 ⟨v2,rfl,ho2,hb⟩;refine⟨_,rfl,?_⟩;have HO3:=C (Kd.R_lower (Kd.R_newM (M:=fun k_=>(w.heap.size≤k_)) ho2 (below_size uB) (fun k_ h_=>h_)) (below_size uB));replace HO_1:=C (Kd.V_elder' (by(with_reducible repeat(first|apply Kd.V_alloc|apply Kd.V_drewN|apply Kd.V_drew));exact HO_1.out) (Kd.R_base ho2) hb);replace HO_2:=C (Kd.V_elder' (by(with_reducible repeat(first|apply Kd.V_alloc|apply Kd.V_drewN|apply Kd.V_drew));exact HO_2.out) (Kd.R_base ho2) hb);replace HO2:=C (Kd.N_elder' (by(with_reducible repeat(first|apply Kd.N_alloc|apply Kd.N_drewN|apply Kd.N_drew));exact HO2.out) (Kd.R_base ho2) hb);replace BK1:=eK BK1 hb;replace HB:=eB hb;clear hb ho2;obtain⟨Ao2,co2,rfl⟩:=Kd.R_slice HO3.out))
   go_loopg [47] kj1 (fun kq v47 w'=>∃(x2_2:Int),v47=V I x2_2∧D (impl_LineOk.l0 kq t1 (t1.length:Int) x2_2=some r)∧D (kq≤kj1)∧D (Kd.R (Kd.int .i64) 3 w' w.heap.size (fun k_=>(w.heap.size≤k_)) (L Ao2 t1.length co2) t1)∧D (Kd.V (Kd.int .i64) 3 w' w.heap.size (fun k_=>((P0_2_ k_∨P0_3_ k_)∨w.heap.size≤k_)∧some k_≠Fix.o Ao2 t1.length co2∧k_≠gb1) (L A0_2 l0_2.length c0_2) l0_2)∧D (Kd.V (Kd.int .i64) 3 w' w.heap.size (fun k_=>((P0_2_ k_∨P0_3_ k_)∨w.heap.size≤k_)∧some k_≠Fix.o Ao2 t1.length co2∧k_≠gb1) (L A0_3 l0_3.length c0_3) l0_3)∧D (w'.heap[gb1]? =some (.cells #[V I a0_0,V I a0_1,(L A0_2 l0_2.length c0_2),(L A0_3 l0_3.length c0_3),V I a0_4,O a0_5] 29 (0,0)))∧D (Below w.heap.size w w'))
   case atStart=>exact⟨(0),rS,H',⟨Nat.le_refl _⟩,⟨Kd.R_mono (fR HO3.out) (fun _ hk=>hk.1)⟩,⟨by(with_reducible repeat(first|apply Kd.V_alloc|apply Kd.V_drewN|apply Kd.V_drew));exact Kd.V_mono HO_1.out pj⟩,⟨by(with_reducible repeat(first|apply Kd.V_alloc|apply Kd.V_drewN|apply Kd.V_drew));exact Kd.V_mono HO_2.out pj⟩,⟨bK BK1.out⟩,⟨uB⟩⟩
   case round=>
    clear H'
    obtain⟨x2_2,rfl,HA,HK1,HO_3,HO_1,HO_2,BK1,HB⟩:=hrel
    cases gk with
    |zero=>exact absurd HA.out (by simp[impl_LineOk.l0])
    |succ k2=>
     have H:=HA.out
     clear HA
     simp only[impl_LineOk.l0]at H
     by_cases c2:x2_2<(t1.length:Int)
     rotate_left
     ·rw[if_neg c2]at H
      have c2b0:decide (x2_2<(t1.length:Int))=false:=decide_eq_false c2
      clear c2
      obtain rfl:=si H
      exact impl_LineOk.W2
     rw[if_pos c2]at H
     have c2b0:decide (x2_2<(t1.length:Int))=true:=decide_eq_true c2
     clear c2
     obtain⟨c3,H⟩:=np H
     replace c3:=decide_eq_true c3
     obtain⟨c4,H⟩:=np H
     replace c4:=decide_eq_true c4
     by_cases c5:(rd t1 x2_2)=x2_2
     rotate_left
     ·rw[if_neg c5]at H
      have c5b0:((rd t1 x2_2)==x2_2)=false:=beq_eq_false_iff_ne.mpr c5
      have c5b1:((rd t1 x2_2) !=x2_2)=true:=bne_iff_ne.mpr c5
      obtain rfl:=si H
      have p1:0≤(x2_2:Int):=oT
      have q1:x2_2<(t1.length:Int):=oT
      obtain⟨ad1,e1,hx1_0⟩:=Kd.at_int (Kd.R_reads' HO_3.out).2.2 x2_2 p1 q1
      cases e1
      replace p1:=eq_true p1
      replace q1:=eq_true q1
      exact impl_LineOk.W2
     rw[if_pos c5]at H
     have c5b0:((rd t1 x2_2)==x2_2)=true:=beq_iff_eq.mpr c5
     have c5b1:((rd t1 x2_2) !=x2_2)=false:=bne_eq_false_iff_eq.mpr c5
     clear c5
     have H':=C H
     clear H
     have p1:0≤(x2_2:Int):=oT
     have q1:x2_2<(t1.length:Int):=oT
     obtain⟨ad1,e1,hx1_0⟩:=Kd.at_int (Kd.R_reads' HO_3.out).2.2 x2_2 p1 q1
     cases e1
     replace p1:=eq_true p1
     replace q1:=eq_true q1
     go_wp2
     go_roundg k2
     case measure=>have:=HJ1.out;have:=HK1.out;omega
     case rel=>exact⟨(wrap64 (x2_2+1)),rS,H',⟨by have:=HJ1.out;have:=HK1.out;omega⟩,⟨fR HO_3.out⟩,⟨by(with_reducible repeat(first|apply Kd.V_alloc|apply Kd.V_drewN|apply Kd.V_drew));exact HO_1.out⟩,⟨by(with_reducible repeat(first|apply Kd.V_alloc|apply Kd.V_drewN|apply Kd.V_drew));exact HO_2.out⟩,⟨bK BK1.out⟩,⟨uB⟩⟩
mutual
def impl_SidesFor.j0:Nat→Int→Int→Bool→Option ((List (List Int)))
 |0,_,_,_=>none
 |k+1,x0,x1,x29=>if x29=true then(some ([]:List (List Int))) else(impl_SidesFor.l0 k x0 x1 ([]:List (List Int)) 1)
def impl_SidesFor.l0:Nat→Int→Int→List (List Int)→Int→Option ((List (List Int)))
 |0,_,_,_,_=>none
 |k+1,x0,x1,x5,x6=>if x6≤x0 then(if x1=0 then(none) else(if(Int.tmod (wrap64 (x6 - 1)) x1)=0 then(if x5.length<5864062014805 then((some (x5++ [[]]:List (List Int))).bind fun y162=>(if 0≤(wrap64 ((y162.length:Int) - 1)) then(if(wrap64 ((y162.length:Int) - 1))<(y162.length:Int) then(if(rd_L3 y162 (wrap64 ((y162.length:Int) - 1))).length<17592186044416 then(impl_SidesFor.l0 k x0 x1 (y162.set ((wrap64 ((y162.length:Int) - 1)):Int).toNat ((rd_L3 y162 (wrap64 ((y162.length:Int) - 1)))++ [x6])) (wrap64 (x6+1))) else(none)) else(none)) else(none))) else(none)) else(if 0≤(wrap64 ((x5.length:Int) - 1)) then(if(wrap64 ((x5.length:Int) - 1))<(x5.length:Int) then(if(rd_L3 x5 (wrap64 ((x5.length:Int) - 1))).length<17592186044416 then(impl_SidesFor.l0 k x0 x1 (x5.set ((wrap64 ((x5.length:Int) - 1)):Int).toNat ((rd_L3 x5 (wrap64 ((x5.length:Int) - 1)))++ [x6])) (wrap64 (x6+1))) else(none)) else(none)) else(none)))) else(some x5)
end
def impl_SidesFor.f (k:Nat) (a0:Int) (a1:Int):Option ((List (List Int))):=(impl_within.f a0 1 64).bind fun t161=>(if t161=true then(if a1=1 then(impl_SidesFor.j0 k a0 a1 false) else(if a1=2 then(impl_SidesFor.j0 k a0 a1 false) else(if a1=4 then(impl_SidesFor.j0 k a0 a1 false) else(if a1=8 then(impl_SidesFor.j0 k a0 a1 false) else(impl_SidesFor.j0 k a0 a1 (a1 !=16)))))) else(impl_SidesFor.j0 k a0 a1 true))
theorem impl_SidesFor.mono_l:∀k,(∀y0 y1 y2,LeO (impl_SidesFor.j0 k y0 y1 y2) (impl_SidesFor.j0 (k+1) y0 y1 y2))∧(∀y0 y1 y2 y3,LeO (impl_SidesFor.l0 k y0 y1 y2 y3) (impl_SidesFor.l0 (k+1) y0 y1 y2 y3))
 |0=>⟨fun _ _ _ r h=>by simp[impl_SidesFor.j0]at h,fun _ _ _ _ r h=>by simp[impl_SidesFor.l0]at h⟩
 |k+1=>by
  obtain⟨ih0,ih1⟩:=impl_SidesFor.mono_l k
  refine⟨?_,?_⟩
  ·intros
   unfold impl_SidesFor.j0
   exact mo
  ·intros
   unfold impl_SidesFor.l0
   exact mo
theorem impl_SidesFor.mono:∀a0 a1 k,LeO (impl_SidesFor.f k a0 a1) (impl_SidesFor.f (k+1) a0 a1):=by
 intro a0 a1 k
 obtain⟨ih0,ih1⟩:=impl_SidesFor.mono_l k
 unfold impl_SidesFor.f
 exact mo
theorem impl_SidesFor.W1 {p:Prop} (h:p:=by
 go_wp2_with (first|((with_reducible refine F (f:=47) rfl ?_);refine gl 47 (some 8) func47 #[V I a0,V I 1,V I 64] ?_;(with_reducible refine(impl_within.calls a0 1 64 true _ A1.out).mono ?_);rintro e w' ⟨rfl,⟨nd,rfl⟩⟩;refine⟨_,rfl,?_⟩))
 go_meet
 first
  |(case rel=>exact⟨_,(false),rS,H',⟨oL⟩,⟨uB⟩⟩)
  |(case rel=>exact⟨_,((a1 !=16)),rS,H',⟨oL⟩,⟨uB⟩⟩)):p:=h
theorem impl_SidesFor.W2 {p:Prop} (h:p:=by
 go_wp2
 go_ret
 first
  |(exact⟨_,rE,by first|exact Kd.S_nil _ _ _ _ _|exact Kd.N_nil _ _ _ _ _|exact Kd.V_nil _ _ _ _ _|exact Kd.Q_nil _ _ _ _ _|exact Kd.R_nil _ _ _ _ _,uB⟩)
  |(exact⟨_,rE,fS HO_1.out,uB⟩)):p:=h
theorem impl_SidesFor.calls (k:Nat) (a0:Int) (a1:Int) (r:List (List Int)) (w:World) (h:impl_SidesFor.f k a0 a1=some r):
 Calls prog 102 #[V I a0,V I a1] w fun e w'=>∃v0_:Value,e=.returned (v0_)∧Kd.S (Kd.slice 3 (Kd.int .i64)) 27 w' w.heap.size (fun _=>True) v0_ r∧Below w.heap.size w w':=by
 have HB:=C (Below.refl w.heap.size w)
 have H:=h
 unfold impl_SidesFor.f at H
 clear h
 have HC1:=C H
 clear H
 go_enter func102,ntmps102
 go_upto_region 1 with(fail)
 go_cut [29] (fun v29 wc=>∃(kq:Nat) (x1_2:Bool),v29=O x1_2∧D (impl_SidesFor.j0 kq a0 a1 x1_2=some r)∧D (kq≤k)∧D (Below w.heap.size w wc))
 case first=>
  have H:=HC1.out
  clear HC1
  obtain⟨t1,A1,H⟩:=bnd H
  by_cases c1:t1=true
  rotate_left
  ·obtain rfl:=nt c1
   replace H:=nf H
   have H':=C H
   clear H
   go_wp2_with (first|((with_reducible refine F (f:=47) rfl ?_);refine gl 47 (some 8) func47 #[V I a0,V I 1,V I 64] ?_;(with_reducible refine(impl_within.calls a0 1 64 false _ A1.out).mono ?_);rintro e w' ⟨rfl,⟨nd,rfl⟩⟩;refine⟨_,rfl,?_⟩))
   go_meet
   case rel=>exact⟨_,(true),rS,H',⟨oL⟩,⟨uB⟩⟩
  subst c1
  rw[if_pos rfl]at H
  by_cases c2:a1=1
  ·rw[if_pos c2]at H
   have c2b0:(a1==1)=true:=beq_iff_eq.mpr c2
   have c2b1:(a1 !=1)=false:=bne_eq_false_iff_eq.mpr c2
   clear c2
   (first|rw[c2b0]|(simp only[i64_w,i32_w];rw[c2b0])|skip)
   have H':=C H
   clear H
   exact impl_SidesFor.W1
  rw[if_neg c2]at H
  have c2b0:(a1==1)=false:=beq_eq_false_iff_ne.mpr c2
  have c2b1:(a1 !=1)=true:=bne_iff_ne.mpr c2
  (first|rw[c2b0]|(simp only[i64_w,i32_w];rw[c2b0])|skip)
  by_cases c3:a1=2
  ·rw[if_pos c3]at H
   have c3b0:(a1==2)=true:=beq_iff_eq.mpr c3
   have c3b1:(a1 !=2)=false:=bne_eq_false_iff_eq.mpr c3
   clear c3
   have H':=C H
   clear H
   exact impl_SidesFor.W1
  rw[if_neg c3]at H
  have c3b0:(a1==2)=false:=beq_eq_false_iff_ne.mpr c3
  have c3b1:(a1 !=2)=true:=bne_iff_ne.mpr c3
  by_cases c4:a1=4
  ·rw[if_pos c4]at H
   have c4b0:(a1==4)=true:=beq_iff_eq.mpr c4
   have c4b1:(a1 !=4)=false:=bne_eq_false_iff_eq.mpr c4
   clear c4
   have H':=C H
   clear H
   exact impl_SidesFor.W1
  rw[if_neg c4]at H
  have c4b0:(a1==4)=false:=beq_eq_false_iff_ne.mpr c4
  have c4b1:(a1 !=4)=true:=bne_iff_ne.mpr c4
  by_cases c5:a1=8
  rotate_left
  ·rw[if_neg c5]at H
   have c5b0:(a1==8)=false:=beq_eq_false_iff_ne.mpr c5
   have c5b1:(a1 !=8)=true:=bne_iff_ne.mpr c5
   have H':=C H
   clear H
   exact impl_SidesFor.W1
  rw[if_pos c5]at H
  have c5b0:(a1==8)=true:=beq_iff_eq.mpr c5
  have c5b1:(a1 !=8)=false:=bne_eq_false_iff_eq.mpr c5
  clear c5
  have H':=C H
  clear H
  exact impl_SidesFor.W1
 case rest=>
  clear HC1
  obtain⟨kq,x1_2,rfl,HA,HJ1,HB⟩:=hcut
  cases kq with
  |zero=>exact absurd HA.out (by simp[impl_SidesFor.j0])
  |succ kj2=>
   have H:=HA.out
   clear HA
   simp only[impl_SidesFor.j0]at H
   by_cases c1:x1_2=true
   ·subst c1
    rw[if_pos rfl]at H
    obtain rfl:=si H
    exact impl_SidesFor.W2
   obtain rfl:=nt c1
   replace H:=nf H
   have H':=C H
   clear H
   go_wp2
   go_loopg [5,6] kj2 (fun kq v5 v6 w'=>∃(x2_2:List (List Int)) (x3_2:Int),v6=V I x3_2∧D (impl_SidesFor.l0 kq a0 a1 x2_2 x3_2=some r)∧D (kq≤kj2)∧D (Kd.S (Kd.slice 3 (Kd.int .i64)) 27 w' w.heap.size (fun _=>True) v5 x2_2)∧D (Below w.heap.size w w'))
   case atStart=>exact⟨(([]:List (List Int))),(1),rS,H',⟨Nat.le_refl _⟩,⟨by first|exact Kd.S_nil _ _ _ _ _|exact Kd.N_nil _ _ _ _ _|exact Kd.V_nil _ _ _ _ _|exact Kd.Q_nil _ _ _ _ _|exact Kd.R_nil _ _ _ _ _⟩,⟨uB⟩⟩
   case round=>
    clear H'
    obtain⟨x2_2,x3_2,rfl,HA,HK1,HO_1,HB⟩:=hrel
    cases gk with
    |zero=>exact absurd HA.out (by simp[impl_SidesFor.l0])
    |succ k2=>
     have H:=HA.out
     clear HA
     simp only[impl_SidesFor.l0]at H
     by_cases c2:x3_2≤a0
     rotate_left
     ·rw[if_neg c2]at H
      have c2b0:decide (x3_2≤a0)=false:=decide_eq_false c2
      clear c2
      obtain rfl:=si H
      exact impl_SidesFor.W2
     rw[if_pos c2]at H
     have c2b0:decide (x3_2≤a0)=true:=decide_eq_true c2
     clear c2
     by_cases c3:a1=0
     ·rw[if_pos c3]at H
      exact absurd H (by simp)
     rw[if_neg c3]at H
     have c3b0:(a1==0)=false:=beq_eq_false_iff_ne.mpr c3
     have c3b1:(a1 !=0)=true:=bne_iff_ne.mpr c3
     by_cases c4:(Int.tmod (wrap64 (x3_2 - 1)) a1)=0
     rotate_left
     ·rw[if_neg c4]at H
      have c4b0:((Int.tmod (wrap64 (x3_2 - 1)) a1)==0)=false:=beq_eq_false_iff_ne.mpr c4
      have c4b1:((Int.tmod (wrap64 (x3_2 - 1)) a1) !=0)=true:=bne_iff_ne.mpr c4
      obtain⟨ji1,hji1⟩:∃j_:Int,(wrap64 ((x2_2.length:Int) - 1))=j_:=⟨_,rfl⟩
      replace H:(if 0≤(ji1) then(if(ji1)<(x2_2.length:Int) then(if(rd_L3 x2_2 (ji1)).length<17592186044416 then(impl_SidesFor.l0 k2 a0 a1 (x2_2.set ((ji1):Int).toNat ((rd_L3 x2_2 (ji1))++ [x3_2])) (wrap64 (x3_2+1))) else(none)) else(none)) else(none))=some r:=by first|(rw[hji1]at H;exact H)|(simp only[hji1]at H ⊢;exact H)
      have hji1w:(IntKind.i64.wrap ((x2_2.length:Int) - 1))=ji1:=(i64_w _).trans hji1
      obtain⟨c5,H⟩:=np H
      replace c5:=decide_eq_true c5
      obtain⟨c6,H⟩:=np H
      replace c6:=decide_eq_true c6
      obtain⟨c7,H⟩:=np H
      have LMc1:=C c7
      clear c7
      obtain⟨y1,hy1⟩:∃y_:List Int,y_=((rd_L3 x2_2 (ji1))++ [x3_2]):=⟨_,rfl⟩
      replace H:(impl_SidesFor.l0 k2 a0 a1 (x2_2.set ((ji1):Int).toNat y1) (wrap64 (x3_2+1)))=some r:=gy hy1 H
      have Ny1:=C hy1
      clear hy1
      obtain⟨y2,hy2⟩:∃y_:List (List Int),y_=(x2_2.set ((ji1):Int).toNat y1):=⟨_,rfl⟩
      replace H:(impl_SidesFor.l0 k2 a0 a1 y2 (wrap64 (x3_2+1)))=some r:=gy hy2 H
      have Ny2:=C hy2
      clear hy2
      have H':=C H
      clear H
      obtain⟨Ao1,co1,eo1⟩:=Kd.S_slice HO_1.out
      subst eo1
      have p1:0≤((ji1):Int):=oT
      have q1:(ji1)<(x2_2.length:Int):=oT
      obtain⟨ad1,A1_0,c8_0,e1,hx1_0,hl1_0,hi1_0⟩:=at_L3 (Kd.S_reads' HO_1.out).2.2 (ji1) p1 q1
      cases e1
      obtain⟨ce1,hce1,hMe1,hcc1⟩:=Kd.S_get HO_1.out [] (ji1) p1 (by first|exact q1|exact oT|(have e_:=(Kd.S_reads' HO_1.out).1;omega))
      obtain⟨ve1_0,rfl,ge1_0⟩:=hMe1
      have hv1_0:=hcc1 0 _ rfl
      rw[Nat.add_zero,show((Kd.slice 3 (Kd.int .i64))).sz=1 from rfl,Nat.mul_one]at hv1_0
      replace hv1_0:=Option.some.inj (hv1_0.symm.trans hx1_0)
      rw[hv1_0]at ge1_0
      have HL1_0:=C (show Kd.R (Kd.int .i64) 3 _ _ _ _ (rd_L3 x2_2 (ji1)) from ge1_0)
      clear hv1_0 ge1_0
      have HX1_0:=C hx1_0
      (try clear hcc1);(try clear hce1)
      have HR1_0:=C hi1_0
      have HC2_0:=C hl1_0
      clear hi1_0 hl1_0
      replace p1:=eq_true p1
      replace q1:=eq_true q1
      obtain⟨go1,co2,eo2,gb1,gl1,cl1,HG1⟩:=Kd.S_form HO_1.out (by have h_:((ji1):Int)<((x2_2.length:Int):Int):=oT;have h1_:0≤((ji1):Int):=oT;omega)
      (first|cases eo2|(injection eo2 with ea_ en_ ec_;(first|subst ea_|(injection ea_ with ea_;subst ea_));subst ec_;clear en_))
      have GB1:=C gb1
      have GG1:=C HG1
      clear gb1 gl1 HG1
      (first|simp only[add_plain]at hx1_0|skip)
      obtain⟨oki1,ce2,hcl1,hM1,hcc2,_,_,hH1⟩:=Kd.S_elem HO_1.out [] ((ji1):Int) oT (by have h_:((ji1):Int)<((x2_2.length:Int):Int):=oT;first|exact h_|(have e_:=(Kd.S_reads' HO_1.out).1;omega)|simpa using h_)
      obtain⟨ve2_0,rfl,ge2_0⟩:=hM1
      have hv2:=hcc2 0 _ rfl
      have hX1:=HX1_0.out
      (try simp only[add_plain]at hX1)
      (try simp only[Nat.add_zero]at hv2)
      (try rw[show((Kd.slice 3 (Kd.int .i64))).sz=1 from rfl,Nat.mul_one]at hv2)
      replace hv2:=Option.some.inj (hv2.symm.trans hX1)
      subst hv2
      (try clear hX1);(try clear hcc2);(try clear hcl1)
      have UU1:=C (show Kd.R (Kd.int .i64) 3 _ w.heap.size oki1 (L A1_0 (rd_L3 x2_2 (ji1)).length c8_0) (rd_L3 x2_2 (ji1)) from ge2_0)
      have HH1:=C hH1
      have HN1:=C (Kd.S_reads' HO_1.out).1
      clear hH1 ge2_0
      go_wp2_with (first|((with_reducible refine gate_builtin (b:=.append) (xs:= #[.tmp 52,.tmp 54]) rfl ?_);at_builtin;refine Kd.R_append (Kd.int .i64) (w0:=w) w.heap.size rfl (.tmp 52) (.tmp 54) 27 3 (V I 0) 8 rfl underlying27 info3 rfl (by decide) (by omega) (L A1_0 (rd_L3 x2_2 (ji1)).length c8_0) (rd_L3 x2_2 (ji1)) x3_2 [V I x3_2] (fun k_=>oki1 k_∨((fun _=>True)) k_∧wr.heap.size≤k_) (fun _=>False) rfl rfl ?aP (fun _ hk=>hk.elim) ?aF ?aO ?aB ?aS ?aL ?_;(case aP=>exact rfl);(case aB=>exact uB);(case aF=>exact(fun k_ hk=>.inr ⟨trivial,hk⟩));(case aO=>exact(Kd.R_mono (fR UU1.out) (fun _ hk=>.inl hk)));(case aS=>exact(below_size uB));(case aL=>have:=LMc1.out;omega);intro v1 w2 ho hb hg hat;rw[←Ny1.out]at ho;have HO1:=C (ho);replace HB:=C (hb);replace HH1:=C (Kd.H_grown (Kd.H_widen (by repeat(first|exact HH1.out|refine Kd.H_alloc ?_ _|refine Kd.H_drewN ?_ _|refine Kd.H_drew ?_))) hg (fun k_ e_=>.inl (UU1.out.1 k_ e_)));clear HO_1;clear UU1;clear HL1_0;clear ho hb hg hat;have p2:0≤((ji1):Int):=oT;have q2:((ji1):Int)<((x2_2.length:Int):Int):=oT;replace p2:=eq_true p2;replace q2:=eq_true q2;obtain⟨Ao2,co3,rfl⟩:=Kd.R_slice HO1.out;obtain⟨_,_,hraw1,_,_,hcc3,_⟩:=Kd.H_raw HH1.out oT (by have h_:((ji1):Int)<((x2_2.length:Int):Int):=oT;first|exact h_|(have e_:=(HN1.out);omega)|simpa using h_);obtain⟨_,hfr1⟩:=Kd.H_at HH1.out oT (by have h_:((ji1):Int)<((x2_2.length:Int):Int):=oT;first|exact h_|(have e_:=(HN1.out);omega)|simpa using h_);have hx2_0:=hcc3 0 _ rfl;have hf1_0:=hfr1 0;(try simp only[Nat.add_zero]at hx2_0 hf1_0);(try rw[show((Kd.slice 3 (Kd.int .i64))).sz=1 from rfl,Nat.mul_one]at hx2_0);(try rw[show((Kd.slice 3 (Kd.int .i64))).sz=1 from rfl,Nat.mul_one]at hf1_0);have HP1:=Kd.S_seg0 HH1.out oT (by have h_:((ji1):Int)<((x2_2.length:Int):Int):=oT;first|exact h_|(have e_:=(HN1.out);omega)|simpa using h_) (seg:= [L Ao2 y1.length co3]) (j:=0) (show 1≤1 from by decide) (x':=y1) (Kd.M_row HO1.out) (fun _ hk=>hk);(try simp only[show((Kd.slice 3 (Kd.int .i64))).sz=1 from rfl,Nat.mul_one,Nat.add_zero]at HP1);(try clear hcc3);(try clear hfr1))|((with_reducible refine gate_store (t:=27) (p:=56) rfl ?_);refine store_event (t:=27) (p:=56) (v:= ?vo_w1) (w1:=(w2.setCell ⟨go1,((ji1):Int).toNat,none⟩ (L Ao2 y1.length co3))) ?hg ?ho ?hn ?hr ?_;(case ho=>rfl);(case hg=>rfl);(case hn=>rfl);(case hr=>exact Fix.hr);intro w3 hw;have hg:w2.grownBy w3 (some go1):=(by rw[hw];exact HP1.2);have hp_:Kd.S (Kd.slice 3 (Kd.int .i64)) 27 w3 w.heap.size (fun _=>True) (L (some ⟨go1,0,none⟩) x2_2.length co1) y2:=(by rw[hw,Ny2.out];exact HP1.1);clear HP1;have HO_1:=C (hp_);replace HB:=C ((by rw[hw];exact below_set HB.out GB1.out:Below w.heap.size w w3));clear HO1;clear HH1;clear hg hw hp_ hraw1))
      go_roundg k2
      case measure=>have:=HJ1.out;have:=HK1.out;omega
      case rel=>exact⟨(y2),(wrap64 (x3_2+1)),rS,H',⟨by have:=HJ1.out;have:=HK1.out;omega⟩,⟨fS HO_1.out⟩,⟨uB⟩⟩
     rw[if_pos c4]at H
     have c4b0:((Int.tmod (wrap64 (x3_2 - 1)) a1)==0)=true:=beq_iff_eq.mpr c4
     have c4b1:((Int.tmod (wrap64 (x3_2 - 1)) a1) !=0)=false:=bne_eq_false_iff_eq.mpr c4
     clear c4
     obtain⟨c5,H⟩:=np H
     have LMc1:=C c5
     clear c5
     obtain⟨y1,hy1⟩:∃y_:List (List Int),y_=(x2_2++ [[]]):=⟨_,rfl⟩
     replace H:(if 0≤(wrap64 ((y1.length:Int) - 1)) then(if(wrap64 ((y1.length:Int) - 1))<(y1.length:Int) then(if(rd_L3 y1 (wrap64 ((y1.length:Int) - 1))).length<17592186044416 then(impl_SidesFor.l0 k2 a0 a1 (y1.set ((wrap64 ((y1.length:Int) - 1)):Int).toNat ((rd_L3 y1 (wrap64 ((y1.length:Int) - 1)))++ [x3_2])) (wrap64 (x3_2+1))) else(none)) else(none)) else(none))=some r:=gy hy1 H
     have Ny1:=C hy1
     clear hy1
     obtain⟨ji1,hji1⟩:∃j_:Int,(wrap64 ((y1.length:Int) - 1))=j_:=⟨_,rfl⟩
     replace H:(if 0≤(ji1) then(if(ji1)<(y1.length:Int) then(if(rd_L3 y1 (ji1)).length<17592186044416 then(impl_SidesFor.l0 k2 a0 a1 (y1.set ((ji1):Int).toNat ((rd_L3 y1 (ji1))++ [x3_2])) (wrap64 (x3_2+1))) else(none)) else(none)) else(none))=some r:=by first|(rw[hji1]at H;exact H)|(simp only[hji1]at H ⊢;exact H)
     have hji1w:(IntKind.i64.wrap ((y1.length:Int) - 1))=ji1:=(i64_w _).trans hji1
     obtain⟨c6,H⟩:=np H
     replace c6:=decide_eq_true c6
     obtain⟨c7,H⟩:=np H
     replace c7:=decide_eq_true c7
     obtain⟨c8,H⟩:=np H
     have LMc2:=C c8
     clear c8
     obtain⟨y2,hy2⟩:∃y_:List Int,y_=((rd_L3 y1 (ji1))++ [x3_2]):=⟨_,rfl⟩
     replace H:(impl_SidesFor.l0 k2 a0 a1 (y1.set ((ji1):Int).toNat y2) (wrap64 (x3_2+1)))=some r:=gy hy2 H
     have Ny2:=C hy2
     clear hy2
     obtain⟨y3,hy3⟩:∃y_:List (List Int),y_=(y1.set ((ji1):Int).toNat y2):=⟨_,rfl⟩
     replace H:(impl_SidesFor.l0 k2 a0 a1 y3 (wrap64 (x3_2+1)))=some r:=gy hy3 H
     have Ny3:=C hy3
     clear hy3
     have H':=C H
     clear H
     go_wp2_with (first|((with_reducible refine gate_builtin (b:=.append) (xs:= #[.tmp 40,.tmp 41]) rfl ?_);at_builtin;refine Kd.S_append (Kd.slice 3 (Kd.int .i64)) (w0:=w) w.heap.size rfl (.tmp 40) (.tmp 41) 120 27 (L none 0 0) 24 rfl underlying120 info27 rfl (by decide) (by omega) u5 x2_2 [] [L none 0 0] (fun _=>True) (fun _=>False) rfl rfl ?aP (fun _ hk=>hk.elim) ?aF ?aO ?aB ?aS ?aL ?_;(case aP=>first|exact⟨_,rfl,Kd.R_nil _ _ _ _ _⟩|exact⟨rfl,Kd.R_nil _ _ _ _ _⟩);(case aB=>exact uB);(case aF=>exact(fun _ _=>trivial));(case aO=>exact(Kd.S_mono (fS HO_1.out) (fun k_ hk=>⟨trivial,fun e_=>e_⟩)));(case aS=>exact(below_size uB));(case aL=>have:=LMc1.out;omega);intro v1 w2 ho hb hg hat;rw[←Ny1.out]at ho;have HO1:=C (ho);replace HB:=C (hb);clear HO_1;clear ho hb hg hat;obtain⟨Ao1,co1,eo1⟩:=Kd.S_slice HO1.out;subst eo1;have p1:0≤((ji1):Int):=oT;have q1:(ji1)<(y1.length:Int):=oT;obtain⟨ad1,A1_0,c9_0,e1,hx1_0,hl1_0,hi1_0⟩:=at_L3 (Kd.S_reads' HO1.out).2.2 (ji1) p1 q1;cases e1;obtain⟨ce1,hce1,hMe1,hcc1⟩:=Kd.S_get HO1.out [] (ji1) p1 (by first|exact q1|exact oT|(have e_:=(Kd.S_reads' HO1.out).1;omega));obtain⟨ve1_0,rfl,ge1_0⟩:=hMe1;have hv1_0:=hcc1 0 _ rfl;rw[Nat.add_zero,show((Kd.slice 3 (Kd.int .i64))).sz=1 from rfl,Nat.mul_one]at hv1_0;replace hv1_0:=Option.some.inj (hv1_0.symm.trans hx1_0);rw[hv1_0]at ge1_0;have HL1_0:=C (show Kd.R (Kd.int .i64) 3 _ _ _ _ (rd_L3 y1 (ji1)) from ge1_0);clear hv1_0 ge1_0;have HX1_0:=C hx1_0;(try clear hcc1);(try clear hce1);have HR1_0:=C hi1_0;have HC2_0:=C hl1_0;clear hi1_0 hl1_0;replace p1:=eq_true p1;replace q1:=eq_true q1;obtain⟨go1,co2,eo2,gb1,gl1,cl1,HG1⟩:=Kd.S_form HO1.out (by have h_:((ji1):Int)<((y1.length:Int):Int):=oT;have h1_:0≤((ji1):Int):=oT;omega);(first|cases eo2|(injection eo2 with ea_ en_ ec_;(first|subst ea_|(injection ea_ with ea_;subst ea_));subst ec_;clear en_));have GB1:=C gb1;have GG1:=C HG1;clear gb1 gl1 HG1;(first|simp only[add_plain]at hx1_0|skip);obtain⟨oki1,ce2,hcl1,hM1,hcc2,_,_,hH1⟩:=Kd.S_elem HO1.out [] ((ji1):Int) oT (by have h_:((ji1):Int)<((y1.length:Int):Int):=oT;first|exact h_|(have e_:=(Kd.S_reads' HO1.out).1;omega)|simpa using h_);obtain⟨ve2_0,rfl,ge2_0⟩:=hM1;have hv2:=hcc2 0 _ rfl;have hX1:=HX1_0.out;(try simp only[add_plain]at hX1);(try simp only[Nat.add_zero]at hv2);(try rw[show((Kd.slice 3 (Kd.int .i64))).sz=1 from rfl,Nat.mul_one]at hv2);replace hv2:=Option.some.inj (hv2.symm.trans hX1);subst hv2;(try clear hX1);(try clear hcc2);(try clear hcl1);have UU1:=C (show Kd.R (Kd.int .i64) 3 _ w.heap.size oki1 (L A1_0 (rd_L3 y1 (ji1)).length c9_0) (rd_L3 y1 (ji1)) from ge2_0);have HH1:=C hH1;have HN1:=C (Kd.S_reads' HO1.out).1;clear hH1 ge2_0)|((with_reducible refine gate_builtin (b:=.append) (xs:= #[.tmp 52,.tmp 54]) rfl ?_);at_builtin;refine Kd.R_append (Kd.int .i64) (w0:=w) w.heap.size rfl (.tmp 52) (.tmp 54) 27 3 (V I 0) 8 rfl underlying27 info3 rfl (by decide) (by omega) (L A1_0 (rd_L3 y1 (ji1)).length c9_0) (rd_L3 y1 (ji1)) x3_2 [V I x3_2] (fun k_=>oki1 k_∨((fun _=>True)) k_∧w2.heap.size≤k_) (fun _=>False) rfl rfl ?aP (fun _ hk=>hk.elim) ?aF ?aO ?aB ?aS ?aL ?_;(case aP=>exact rfl);(case aB=>exact uB);(case aF=>exact(fun k_ hk=>.inr ⟨trivial,hk⟩));(case aO=>exact(Kd.R_mono (fR UU1.out) (fun _ hk=>.inl hk)));(case aS=>exact(below_size uB));(case aL=>have:=LMc2.out;omega);intro v2 w3 ho hb hg hat;rw[←Ny2.out]at ho;have HO2:=C (ho);replace HB:=C (hb);replace HH1:=C (Kd.H_grown (Kd.H_widen (by repeat(first|exact HH1.out|refine Kd.H_alloc ?_ _|refine Kd.H_drewN ?_ _|refine Kd.H_drew ?_))) hg (fun k_ e_=>.inl (UU1.out.1 k_ e_)));clear HO1;clear UU1;clear HL1_0;clear ho hb hg hat;have p2:0≤((ji1):Int):=oT;have q2:((ji1):Int)<((y1.length:Int):Int):=oT;replace p2:=eq_true p2;replace q2:=eq_true q2;obtain⟨Ao2,co3,rfl⟩:=Kd.R_slice HO2.out;obtain⟨_,_,hraw1,_,_,hcc3,_⟩:=Kd.H_raw HH1.out oT (by have h_:((ji1):Int)<((y1.length:Int):Int):=oT;first|exact h_|(have e_:=(HN1.out);omega)|simpa using h_);obtain⟨_,hfr1⟩:=Kd.H_at HH1.out oT (by have h_:((ji1):Int)<((y1.length:Int):Int):=oT;first|exact h_|(have e_:=(HN1.out);omega)|simpa using h_);have hx2_0:=hcc3 0 _ rfl;have hf1_0:=hfr1 0;(try simp only[Nat.add_zero]at hx2_0 hf1_0);(try rw[show((Kd.slice 3 (Kd.int .i64))).sz=1 from rfl,Nat.mul_one]at hx2_0);(try rw[show((Kd.slice 3 (Kd.int .i64))).sz=1 from rfl,Nat.mul_one]at hf1_0);have HP1:=Kd.S_seg0 HH1.out oT (by have h_:((ji1):Int)<((y1.length:Int):Int):=oT;first|exact h_|(have e_:=(HN1.out);omega)|simpa using h_) (seg:= [L Ao2 y2.length co3]) (j:=0) (show 1≤1 from by decide) (x':=y2) (Kd.M_row HO2.out) (fun _ hk=>hk);(try simp only[show((Kd.slice 3 (Kd.int .i64))).sz=1 from rfl,Nat.mul_one,Nat.add_zero]at HP1);(try clear hcc3);(try clear hfr1))|((with_reducible refine gate_store (t:=27) (p:=56) rfl ?_);refine store_event (t:=27) (p:=56) (v:= ?vo_w1) (w1:=(w3.setCell ⟨go1,((ji1):Int).toNat,none⟩ (L Ao2 y2.length co3))) ?hg ?ho ?hn ?hr ?_;(case ho=>rfl);(case hg=>rfl);(case hn=>rfl);(case hr=>exact Fix.hr);intro w4 hw;have hg:w3.grownBy w4 (some go1):=(by rw[hw];exact HP1.2);have hp_:Kd.S (Kd.slice 3 (Kd.int .i64)) 27 w4 w.heap.size (fun _=>True) (L (some ⟨go1,0,none⟩) y1.length co1) y3:=(by rw[hw,Ny3.out];exact HP1.1);clear HP1;have HO1:=C (hp_);replace HB:=C ((by rw[hw];exact below_set HB.out GB1.out:Below w.heap.size w w4));clear HO2;clear HH1;clear hg hw hp_ hraw1))
     go_roundg k2
     case measure=>have:=HJ1.out;have:=HK1.out;omega
     case rel=>exact⟨(y3),(wrap64 (x3_2+1)),rS,H',⟨by have:=HJ1.out;have:=HK1.out;omega⟩,⟨fS HO1.out⟩,⟨uB⟩⟩
def impl_SheetsFor.f (k:Nat) (a0:Int) (a1:Int) (a2:Bool):Option (Int):=(impl_SidesFor.f k a0 a1).bind fun t175=>(if a2=true then(some (wrap64 (Int.tdiv (wrap64 ((t175.length:Int)+1)) 2))) else(some (t175.length:Int)))
theorem impl_SheetsFor.mono:∀a0 a1 a2 k,LeO (impl_SheetsFor.f k a0 a1 a2) (impl_SheetsFor.f (k+1) a0 a1 a2):=by
 intro a0 a1 a2 k
 unfold impl_SheetsFor.f
 have i1:= @impl_SidesFor.mono;exact mo
theorem impl_SheetsFor.W1 {p:Prop} (h:p:=by
 go_enter func76,ntmps76
 go_wp2_with (first|((with_reducible refine F (f:=102) rfl ?_);refine gl 102 (some 10) func102 #[V I a0,V I a1] ?_;(with_reducible refine(impl_SidesFor.calls k a0 a1 t1 _ A1.out).mono ?_);rintro e w1 ⟨v1,rfl,ho1,hb⟩;refine⟨_,rfl,?_⟩;have HO1:=C (Kd.S_lower ho1 (below_size uB));replace HB:=eB hb;clear hb ho1;obtain⟨Ao1,co1,eo1⟩:=Kd.S_slice HO1.out;subst eo1))
 go_ret
 exact⟨rE,uB⟩):p:=h
theorem impl_SheetsFor.calls (k:Nat) (a0:Int) (a1:Int) (a2:Bool) (r:Int) (w:World) (h:impl_SheetsFor.f k a0 a1 a2=some r):
 Calls prog 76 #[V I a0,V I a1,O a2] w fun e w'=>e=.returned (V I r)∧Below w.heap.size w w':=by
 have HB:=C (Below.refl w.heap.size w)
 have H:=h
 unfold impl_SheetsFor.f at H
 clear h
 obtain⟨t1,A1,H⟩:=bnd H
 by_cases c1:a2=true
 ·subst c1
  rw[if_pos rfl]at H
  obtain rfl:=si H
  exact impl_SheetsFor.W1
 obtain rfl:=nt c1
 replace H:=nf H
 obtain rfl:=si H
 exact impl_SheetsFor.W1
def impl_JobSheets.f (k:Nat) (a0_0:Int) (a0_1:Int) (a0_2:Int) (a0_3:Bool) (a0_4:Int) (a0_5:Bool):Option (Int):=(impl_JobOk.f a0_0 a0_1 a0_2 a0_3 a0_4 a0_5).bind fun t179=>(if t179=true then((impl_SheetsFor.f k a0_1 1 a0_3).bind fun t180=>(some (wrap64 (a0_2 * t180)))) else(some 0))
def impl_JobSheets.T3:Bool×List (List Nat×List Nat):=(true,[([],[]),([0],[0]),([],[]),([2],[2]),([],[]),([4],[4]),([3,5],[3,5]),([1,6],[1,6]),([7,6,0,1,2,3,4,5,6,7],[7])])
def impl_JobSheets.B3:List Nat:= [0,1,0,4,0,16,60,127,255]
theorem impl_JobSheets.tab3:rtab .any (opsOf Tryz.f49 3)=impl_JobSheets.T3:=by kernel_rfl
theorem impl_JobSheets.bits3:waitsOk impl_JobSheets.T3.2 impl_JobSheets.B3=true:=by kernel_rfl
theorem impl_JobSheets.calls (k:Nat) (a0_0:Int) (a0_1:Int) (a0_2:Int) (a0_3:Bool) (a0_4:Int) (a0_5:Bool) (r:Int) (w:World) (h:impl_JobSheets.f k a0_0 a0_1 a0_2 a0_3 a0_4 a0_5=some r):
 Calls prog 49 #[G #[V I a0_0,V I a0_1,V I a0_2,O a0_3,V I a0_4,O a0_5]] w fun e w'=>e=.returned (V I r)∧Below w.heap.size w w':=by
 have hu1:=underlying26
 have HB:=C (Below.refl w.heap.size w)
 have H:=h
 unfold impl_JobSheets.f at H
 clear h
 obtain⟨t1,A1,H⟩:=bnd H
 by_cases c1:t1=true
 rotate_left
 ·obtain rfl:=nt c1
  replace H:=nf H
  obtain rfl:=si H
  go_enter func49,ntmps49
  go_wp2_with (first|((with_reducible refine J (N:=1) rfl ?_);refine Fix.be 1 #[V I a0_0,V I a0_1,V I a0_2,O a0_3,V I a0_4,O a0_5] 26 ?_;intro gb1 hg w1 BK1 hb;have GW1:=gE (w:=w) hg;have GE1:=GW1;replace HB:=eB hb;clear hb hg;obtain⟨_,_,_,_,_,_,_,_,_,_,_,_⟩:=d6 BK1.out)|((with_reducible refine F (f:=48) rfl ?_);refine gl 48 (some 4) func48 #[G #[V I a0_0,V I a0_1,V I a0_2,O a0_3,V I a0_4,O a0_5]] ?_;(with_reducible refine(impl_JobOk.calls a0_0 a0_1 a0_2 a0_3 a0_4 a0_5 false _ A1.out).mono ?_);rintro e w2 ⟨rfl,hb⟩;refine⟨_,rfl,?_⟩;replace BK1:=eK BK1 hb;replace HB:=eB hb;clear hb))
  go_ret
  exact⟨rE,uB⟩
 subst c1
 rw[if_pos rfl]at H
 obtain⟨t2,A2,H⟩:=bnd H
 obtain rfl:=si H
 go_enter func49,ntmps49
 try go_wp2_with (first|((with_reducible refine J (N:=1) rfl ?_);refine Fix.be 1 #[V I a0_0,V I a0_1,V I a0_2,O a0_3,V I a0_4,O a0_5] 26 ?_;intro gb1 hg w1 BK1 hb;have GW1:=gE (w:=w) hg;have GE1:=GW1;replace HB:=eB hb;clear hb hg;obtain⟨_,_,_,_,_,_,_,_,_,_,_,_⟩:=d6 BK1.out)|((with_reducible refine F (f:=48) rfl ?_);refine gl 48 (some 4) func48 #[G #[V I a0_0,V I a0_1,V I a0_2,O a0_3,V I a0_4,O a0_5]] ?_;(with_reducible refine(impl_JobOk.calls a0_0 a0_1 a0_2 a0_3 a0_4 a0_5 true _ A1.out).mono ?_);rintro e w2 ⟨rfl,hb⟩;refine⟨_,rfl,?_⟩;replace BK1:=eK BK1 hb;replace HB:=eB hb;clear hb))
 replace BK1:=dK BK1
 replace HB:=dB HB
 refine start_ (n:=9) (S:=fun w'=>cl6 w' gb1 (V I a0_0) (V I a0_1) (V I a0_2) (O a0_3) (V I a0_4) (O a0_5)) (ds:= []) #[false,false,false,false,false,false,false,false,false] (by kernel_rfl) rfl rfl hh (fun hHeld=> ?_);refine with_tabW impl_JobSheets.tab3 impl_JobSheets.bits3 (fun HT_ HW_=> ?_)
 generalize w2.drew=w3 at BK1 HB hHeld ⊢
 refine pu 0 (some 6) ?_
 refine pu 2 (some 8) ?_
 refine pu 4 (some 10) ?_
 refine tu 1 (some 7) hHeld ?_
 refine tu 3 (some 9) hHeld ?_
 refine tu 5 (some 11) hHeld ?_
 refine ou 6 (some 12) (fun K hK=> ?_)
 refine gs func76 #[V I a0_1,V I 1,O a0_3] ?_
 with_reducible refine(impl_SheetsFor.calls k a0_1 1 a0_3 t2 _ A2.out).mono ?_
 rintro e w4 ⟨rfl,hb⟩
 refine⟨_,rfl,?_⟩
 replace BK1:=eK BK1 hb
 replace HB:=eB hb
 (try clear hb)
 refine hK.out _ _ hh (fun hHeld=> ?_)
 clear hK K
 refine nu (N:=(some 12)) ?_
 refine pu 7 (some 13) ?_
 refine pu 8 (some 2) ?_
 refine done_ (done_of HT_.out (by kernel_rfl)) ?_
 try go_wp2
 go_ret
 exact⟨rE,uB⟩
def impl_MachineOk.j0:Nat→Bool→List (S26)→Int→Int→Int→Bool→Int→Bool→Int→Int→List Int→List Int→Int→Bool→Int→Option (Bool)
 |0,_,_,_,_,_,_,_,_,_,_,_,_,_,_,_=>none
 |k+1,x18,x182000,x182001,x182002,x182003,x182004,x182005,x182006,x182007,x182008,x182009,x182010,x182011,x182012,x182013=>if x18=true then(some false) else(if(x182001==0 && (x182002==0 && (x182003==0 && (!x182004 && (x182005==0 && (!x182006))))))=true then(some (x182007==0)) else((impl_JobOk.f x182001 x182002 x182003 x182004 x182005 x182006).bind fun t185=>(if t185=true then((impl_JobSheets.f k x182001 x182002 x182003 x182004 x182005 x182006).bind fun t186=>(if t186≤40 then((impl_JobSheets.f k x182001 x182002 x182003 x182004 x182005 x182006).bind fun t187=>(some (t187==x182007))) else(some false))) else(some false))))
def impl_MachineOk.f (k:Nat) (l0_0:List (S26)) (a0_1:Int) (a0_2:Int) (a0_3:Int) (a0_4:Bool) (a0_5:Int) (a0_6:Bool) (a0_7:Int) (a0_8:Int) (l0_9:List Int) (l0_10:List Int) (a0_11:Int) (a0_12:Bool) (a0_13:Int):Option (Bool):=(impl_JobsOk.f k l0_0).bind fun t182=>(if t182=true then((impl_LineOk.f k a0_7 a0_8 l0_9 l0_10 a0_11 a0_12).bind fun t183=>(if t183=true then((impl_within.f a0_13 0 100000).bind fun t184=>(impl_MachineOk.j0 k (!t184) l0_0 a0_1 a0_2 a0_3 a0_4 a0_5 a0_6 a0_7 a0_8 l0_9 l0_10 a0_11 a0_12 a0_13)) else(impl_MachineOk.j0 k true l0_0 a0_1 a0_2 a0_3 a0_4 a0_5 a0_6 a0_7 a0_8 l0_9 l0_10 a0_11 a0_12 a0_13))) else(impl_MachineOk.j0 k true l0_0 a0_1 a0_2 a0_3 a0_4 a0_5 a0_6 a0_7 a0_8 l0_9 l0_10 a0_11 a0_12 a0_13))
def impl_MachineOk.T5:Bool×List (List Nat×List Nat):=(true,[([],[]),([0],[0]),([1],[1]),([2,2],[2]),([3],[3]),([4,3],[3,4]),([5,3,3],[3,5]),([6,3],[3,6]),([3,7],[3,7]),([8,6],[8]),([9],[9]),([10,9],[9,10]),([11,9,9],[9,11]),([9],[9]),([13,9],[9,13]),([14,9],[9,14]),([12,15,9],[9,12,15]),([9,16],[9,16]),([17,12,0,1,2,3,4,5,6,7,8,9,10,11,12,13,14,15,16,17],[17])])
def impl_MachineOk.B5:List Nat:= [0,1,3,7,15,31,63,127,255,511,1023,2047,4095,1023,9215,25599,65535,131071,262143]
theorem impl_MachineOk.tab5:rtab .any (opsOf Tryz.f27 5)=impl_MachineOk.T5:=by kernel_rfl
theorem impl_MachineOk.bits5:waitsOk impl_MachineOk.T5.2 impl_MachineOk.B5=true:=by kernel_rfl
theorem impl_MachineOk.W1 {p:Prop} (h:p:=by
 go_wp2
 go_ret
 exact⟨rE,uB⟩):p:=h
theorem impl_MachineOk.calls (k:Nat) (A0_0:Option Addr) (c0_0:Nat) (l0_0:List (S26)) (a0_1:Int) (a0_2:Int) (a0_3:Int) (a0_4:Bool) (a0_5:Int) (a0_6:Bool) (a0_7:Int) (a0_8:Int) (A0_9:Option Addr) (c0_9:Nat) (l0_9:List Int) (A0_10:Option Addr) (c0_10:Nat) (l0_10:List Int) (a0_11:Int) (a0_12:Bool) (a0_13:Int) (r:Bool) (w:World) (hr0_0:Kd.C k26 w A0_0 l0_0.length l0_0) (hc0_0:l0_0.length≤c0_0) (hr0_9:Kd.C (Kd.int .i64) w A0_9 l0_9.length l0_9) (hc0_9:l0_9.length≤c0_9) (hr0_10:Kd.C (Kd.int .i64) w A0_10 l0_10.length l0_10) (hc0_10:l0_10.length≤c0_10) (h:impl_MachineOk.f k l0_0 a0_1 a0_2 a0_3 a0_4 a0_5 a0_6 a0_7 a0_8 l0_9 l0_10 a0_11 a0_12 a0_13=some r):
 Calls prog 27 #[G #[L A0_0 l0_0.length c0_0,V I a0_1,V I a0_2,V I a0_3,O a0_4,V I a0_5,O a0_6,V I a0_7,V I a0_8,L A0_9 l0_9.length c0_9,L A0_10 l0_10.length c0_10,V I a0_11,O a0_12,V I a0_13]] w fun e w'=>e=.returned (O r)∧Below w.heap.size w w':=by
 have hu1:=underlying31
 have hu2:=underlying29
 have hu3:=underlying26
 have HR1_0:=C hr0_0
 have HC1_0:=C hc0_0
 (try clear hr0_0);(try clear hc0_0)
 have HR1_9:=C hr0_9
 have HC1_9:=C hc0_9
 (try clear hr0_9);(try clear hc0_9)
 have HR1_10:=C hr0_10
 have HC1_10:=C hc0_10
 (try clear hr0_10);(try clear hc0_10)
 have HB:=C (Below.refl w.heap.size w)
 have H:=h
 unfold impl_MachineOk.f at H
 clear h
 have HC2:=C H
 clear H
 go_enter func27,ntmps27
 go_upto_region 1 with(first|((with_reducible refine J (N:=1) rfl ?_);refine Fix.be 1 #[L A0_0 l0_0.length c0_0,V I a0_1,V I a0_2,V I a0_3,O a0_4,V I a0_5,O a0_6,V I a0_7,V I a0_8,L A0_9 l0_9.length c0_9,L A0_10 l0_10.length c0_10,V I a0_11,O a0_12,V I a0_13] 31 ?_;intro gb1 hg w1 BK1 hb;have GW1:=gE (w:=w) hg;replace HB:=eB hb;clear hb hg))
 (try simp only[Act.put,List.setIfInBounds_toArray,List.set_cons_zero,List.set_cons_succ])
 go_cut [18] (fun v18 wc=>∃(kq:Nat) (x1_1:Bool),v18=O x1_1∧D (impl_MachineOk.j0 kq x1_1 l0_0 a0_1 a0_2 a0_3 a0_4 a0_5 a0_6 a0_7 a0_8 l0_9 l0_10 a0_11 a0_12 a0_13=some r)∧D (kq≤k)∧D (wc.heap[gb1]? =some (.cells #[(L A0_0 l0_0.length c0_0),V I a0_1,V I a0_2,V I a0_3,O a0_4,V I a0_5,O a0_6,V I a0_7,V I a0_8,(L A0_9 l0_9.length c0_9),(L A0_10 l0_10.length c0_10),V I a0_11,O a0_12,V I a0_13] 31 (0,0)))∧D (Below w.heap.size w wc))
 case first=>
  have H:=HC2.out
  clear HC2
  obtain⟨t1,A1,H⟩:=bnd H
  by_cases c1:t1=true
  rotate_left
  ·obtain rfl:=nt c1
   replace H:=nf H
   have H':=C H
   clear H
   obtain⟨_,_,_,_,_,_,_,_,_,_,_,_,_,_,_,_,_,_,_,_,_,_,_,_,_,_,_,_⟩:=d14 BK1.out
   go_wp2_with (first|((with_reducible refine F (f:=45) rfl ?_);refine gl 45 (some 5) func45 #[L A0_0 l0_0.length c0_0] ?_;(with_reducible refine(impl_JobsOk.calls k _ _ l0_0 false _ ?side1 HC1_0.out A1.out).mono ?_);(case side1=>exact uZ HR1_0);rintro e w2 ⟨rfl,hb⟩;refine⟨_,rfl,?_⟩;replace BK1:=eK BK1 hb;replace HB:=eB hb;clear hb))
   go_meet
   case rel=>exact⟨_,(true),rS,H',⟨oL⟩,⟨bK BK1.out⟩,⟨uB⟩⟩
  subst c1
  rw[if_pos rfl]at H
  obtain⟨t2,A2,H⟩:=bnd H
  by_cases c2:t2=true
  rotate_left
  ·obtain rfl:=nt c2
   replace H:=nf H
   have H':=C H
   clear H
   obtain⟨_,_,_,_,_,_,_,_,_,_,_,_,_,_,_,_,_,_,_,_,_,_,_,_,_,_,_,_⟩:=d14 BK1.out
   go_wp2_with (first|((with_reducible refine F (f:=45) rfl ?_);refine gl 45 (some 5) func45 #[L A0_0 l0_0.length c0_0] ?_;(with_reducible refine(impl_JobsOk.calls k _ _ l0_0 true _ ?side1 HC1_0.out A1.out).mono ?_);(case side1=>exact uZ HR1_0);rintro e w2 ⟨rfl,hb⟩;refine⟨_,rfl,?_⟩;replace BK1:=eK BK1 hb;replace HB:=eB hb;clear hb;obtain⟨_,_,_,_,_,_,_,_,_,_,_,_,_,_,_,_,_,_,_,_,_,_,_,_,_,_,_,_⟩:=d14 BK1.out)|(go_at_call 46;(with_reducible refine(impl_LineOk.calls k a0_7 a0_8 (fun k_=>k_<w.heap.size) _ _ l0_9 (fun k_=>k_<w.heap.size) _ _ l0_10 a0_11 a0_12 false _ ?side1 ?side2 A2.out).mono ?_);(case side1=>exact Kd.V_mk HC1_9.out (Kd.F_below (Kd.C_F (Kd.heap_int .i64) HR1_9.out) uB));(case side2=>exact Kd.V_mk HC1_10.out (Kd.F_below (Kd.C_F (Kd.heap_int .i64) HR1_10.out) uB));rintro e w3 ⟨rfl,hb⟩;replace BK1:=eK BK1 hb;replace HB:=eB hb;clear hb))
   go_meet
   case rel=>exact⟨_,(true),rS,H',⟨oL⟩,⟨bK BK1.out⟩,⟨uB⟩⟩
  subst c2
  rw[if_pos rfl]at H
  obtain⟨t3,A3,H⟩:=bnd H
  have H':=C H
  clear H
  obtain⟨_,_,_,_,_,_,_,_,_,_,_,_,_,_,_,_,_,_,_,_,_,_,_,_,_,_,_,_⟩:=d14 BK1.out
  go_wp2_with (first|((with_reducible refine F (f:=45) rfl ?_);refine gl 45 (some 5) func45 #[L A0_0 l0_0.length c0_0] ?_;(with_reducible refine(impl_JobsOk.calls k _ _ l0_0 true _ ?side1 HC1_0.out A1.out).mono ?_);(case side1=>exact uZ HR1_0);rintro e w2 ⟨rfl,hb⟩;refine⟨_,rfl,?_⟩;replace BK1:=eK BK1 hb;replace HB:=eB hb;clear hb;obtain⟨_,_,_,_,_,_,_,_,_,_,_,_,_,_,_,_,_,_,_,_,_,_,_,_,_,_,_,_⟩:=d14 BK1.out)|(go_at_call 46;(with_reducible refine(impl_LineOk.calls k a0_7 a0_8 (fun k_=>k_<w.heap.size) _ _ l0_9 (fun k_=>k_<w.heap.size) _ _ l0_10 a0_11 a0_12 true _ ?side1 ?side2 A2.out).mono ?_);(case side1=>exact Kd.V_mk HC1_9.out (Kd.F_below (Kd.C_F (Kd.heap_int .i64) HR1_9.out) uB));(case side2=>exact Kd.V_mk HC1_10.out (Kd.F_below (Kd.C_F (Kd.heap_int .i64) HR1_10.out) uB));rintro e w3 ⟨rfl,hb⟩;replace BK1:=eK BK1 hb;replace HB:=eB hb;clear hb;obtain⟨_,_,_,_,_,_,_,_,_,_,_,_,_,_,_,_,_,_,_,_,_,_,_,_,_,_,_,_⟩:=d14 BK1.out)|(go_at_call 47;(with_reducible refine(impl_within.calls a0_13 0 100000 t3 _ A3.out).mono ?_);rintro e w' ⟨rfl,⟨nd,rfl⟩⟩))
  go_meet
  case rel=>exact⟨_,(!t3),rS,H',⟨oL⟩,⟨bK BK1.out⟩,⟨uB⟩⟩
 case rest=>
  clear HC2
  obtain⟨kq,x1_1,rfl,HA,HJ1,BK1,HB⟩:=hcut
  cases kq with
  |zero=>exact absurd HA.out (by simp[impl_MachineOk.j0])
  |succ kj1=>
   have H:=HA.out
   clear HA
   simp only[impl_MachineOk.j0]at H
   by_cases c1:x1_1=true
   ·subst c1
    rw[if_pos rfl]at H
    obtain rfl:=si H
    exact impl_MachineOk.W1
   obtain rfl:=nt c1
   replace H:=nf H
   by_cases c2:(a0_1==0 && (a0_2==0 && (a0_3==0 && (!a0_4 && (a0_5==0 && (!a0_6))))))=true
   ·rw[if_pos c2]at H
    have c2b0:(a0_1==0 && (a0_2==0 && (a0_3==0 && (!a0_4 && (a0_5==0 && (!a0_6))))))=true:=c2
    (try(have c2b1:decide (a0_1=0 && (a0_2==0 && (a0_3==0 && (!a0_4 && (a0_5==0 && (!a0_6))))))=true:=by simpa using c2))
    (try(have c2b2:(a0_1==0 && (a0_2==0 && (a0_3==0 && (!a0_4 && (a0_5==0 && (!a0_6))))))=true:=by simpa using c2))
    clear c2
    obtain rfl:=si H
    have h_:=d14 BK1.out;(repeat(obtain⟨_,h_⟩:=h_))
    exact impl_MachineOk.W1
   rw[if_neg c2]at H
   have c2b0:(a0_1==0 && (a0_2==0 && (a0_3==0 && (!a0_4 && (a0_5==0 && (!a0_6))))))=false:=by simpa using c2
   (try(have c2b1:decide (a0_1=0 && (a0_2==0 && (a0_3==0 && (!a0_4 && (a0_5==0 && (!a0_6))))))=false:=by simpa using c2))
   (try(have c2b2:(a0_1==0 && (a0_2==0 && (a0_3==0 && (!a0_4 && (a0_5==0 && (!a0_6))))))=false:=by simpa using c2))
   (try(have c2b3:¬(a0_1=0 && (a0_2==0 && (a0_3==0 && (!a0_4 && (a0_5==0 && (!a0_6)))))):=by simpa using c2))
   clear c2
   obtain⟨t1,A1,H⟩:=bnd H
   by_cases c3:t1=true
   rotate_left
   ·obtain rfl:=nt c3
    replace H:=nf H
    obtain rfl:=si H
    have h_:=d14 BK1.out;(repeat(obtain⟨_,h_⟩:=h_))
    try go_wp2
    replace BK1:=dK BK1
    replace HB:=dB HB
    refine start_ (n:=19) (S:=fun w'=>cl14 w' gb1 (L A0_0 l0_0.length c0_0) (V I a0_1) (V I a0_2) (V I a0_3) (O a0_4) (V I a0_5) (O a0_6) (V I a0_7) (V I a0_8) (L A0_9 l0_9.length c0_9) (L A0_10 l0_10.length c0_10) (V I a0_11) (O a0_12) (V I a0_13)) (ds:= []) #[false,false,false,false,false,false,false,false,false,false,false,false,false,false,false,false,false,false,false] (by kernel_rfl) rfl rfl hh (fun hHeld=> ?_);refine with_tabW impl_MachineOk.tab5 impl_MachineOk.bits5 (fun HT_ HW_=> ?_)
    generalize wc.drew=w2 at BK1 HB hHeld ⊢
    refine pu 0 (some 27) ?_
    refine tu 1 (some 28) hHeld ?_
    refine ou 2 (some 29) (fun K hK=> ?_)
    refine gs func48 #[G #[V I a0_1,V I a0_2,V I a0_3,O a0_4,V I a0_5,O a0_6]] ?_
    with_reducible refine(impl_JobOk.calls a0_1 a0_2 a0_3 a0_4 a0_5 a0_6 false _ A1.out).mono ?_
    rintro e w3 ⟨rfl,hb⟩
    refine⟨_,rfl,?_⟩
    replace BK1:=eK BK1 hb
    replace HB:=eB hb
    (try clear hb)
    refine hK.out _ _ hh (fun hHeld=> ?_)
    clear hK K
    refine nu (N:=(some 29)) ?_
    refine pu 3 (some 30) ?_
    refine px 4 (some 31) ?_
    refine px 5 (some 32) ?_
    refine px 6 (some 33) ?_
    refine px 7 (some 34) ?_
    refine pu 8 (some 35) ?_
    refine pu 9 (some 36) ?_
    refine px 10 (some 37) ?_
    refine px 11 (some 38) ?_
    refine px 12 (some 39) ?_
    refine px 13 (some 40) ?_
    refine px 14 (some 41) ?_
    refine px 15 (some 42) ?_
    refine px 16 (some 43) ?_
    refine pu 17 (some 44) ?_
    refine pu 18 (some 2) ?_
    refine done_ (done_of HT_.out (by kernel_rfl)) ?_
    try go_wp2
    go_ret
    exact⟨rE,uB⟩
   subst c3
   rw[if_pos rfl]at H
   obtain⟨t2,A2,H⟩:=bnd H
   by_cases c4:t2≤40
   rotate_left
   ·rw[if_neg c4]at H
    replace c4:=decide_eq_false c4
    obtain rfl:=si H
    have h_:=d14 BK1.out;(repeat(obtain⟨_,h_⟩:=h_))
    try go_wp2
    replace BK1:=dK BK1
    replace HB:=dB HB
    refine start_ (n:=19) (S:=fun w'=>cl14 w' gb1 (L A0_0 l0_0.length c0_0) (V I a0_1) (V I a0_2) (V I a0_3) (O a0_4) (V I a0_5) (O a0_6) (V I a0_7) (V I a0_8) (L A0_9 l0_9.length c0_9) (L A0_10 l0_10.length c0_10) (V I a0_11) (O a0_12) (V I a0_13)) (ds:= []) #[false,false,false,false,false,false,false,false,false,false,false,false,false,false,false,false,false,false,false] (by kernel_rfl) rfl rfl hh (fun hHeld=> ?_);refine with_tabW impl_MachineOk.tab5 impl_MachineOk.bits5 (fun HT_ HW_=> ?_)
    generalize wc.drew=w2 at BK1 HB hHeld ⊢
    refine pu 0 (some 27) ?_
    refine tu 1 (some 28) hHeld ?_
    refine ou 2 (some 29) (fun K hK=> ?_)
    refine gs func48 #[G #[V I a0_1,V I a0_2,V I a0_3,O a0_4,V I a0_5,O a0_6]] ?_
    with_reducible refine(impl_JobOk.calls a0_1 a0_2 a0_3 a0_4 a0_5 a0_6 true _ A1.out).mono ?_
    rintro e w3 ⟨rfl,hb⟩
    refine⟨_,rfl,?_⟩
    replace BK1:=eK BK1 hb
    replace HB:=eB hb
    (try clear hb)
    refine hK.out _ _ hh (fun hHeld=> ?_)
    clear hK K
    refine nu (N:=(some 29)) ?_
    refine pu 3 (some 30) ?_
    refine pu 4 (some 31) ?_
    refine tu 5 (some 32) hHeld ?_
    refine ou 6 (some 33) (fun K hK=> ?_)
    refine gs func49 #[G #[V I a0_1,V I a0_2,V I a0_3,O a0_4,V I a0_5,O a0_6]] ?_
    with_reducible refine(impl_JobSheets.calls kj1 a0_1 a0_2 a0_3 a0_4 a0_5 a0_6 t2 _ A2.out).mono ?_
    rintro e w4 ⟨rfl,hb⟩
    refine⟨_,rfl,?_⟩
    replace BK1:=eK BK1 hb
    replace HB:=eB hb
    (try clear hb)
    refine hK.out _ _ hh (fun hHeld=> ?_)
    clear hK K
    refine nu (N:=(some 33)) ?_
    refine pu 7 (some 34) ?_
    refine pu 8 (some 35) ?_
    refine pu 9 (some 36) ?_
    refine px 10 (some 37) ?_
    refine px 11 (some 38) ?_
    refine px 12 (some 39) ?_
    refine px 13 (some 40) ?_
    refine px 14 (some 41) ?_
    refine px 15 (some 42) ?_
    refine px 16 (some 43) ?_
    refine pu 17 (some 44) ?_
    refine pu 18 (some 2) ?_
    refine done_ (done_of HT_.out (by kernel_rfl)) ?_
    try go_wp2
    go_ret
    exact⟨rE,uB⟩
   rw[if_pos c4]at H
   replace c4:=decide_eq_true c4
   obtain⟨t3,A3,H⟩:=bnd H
   obtain rfl:=si H
   have h_:=d14 BK1.out;(repeat(obtain⟨_,h_⟩:=h_))
   try go_wp2
   replace BK1:=dK BK1
   replace HB:=dB HB
   refine start_ (n:=19) (S:=fun w'=>cl14 w' gb1 (L A0_0 l0_0.length c0_0) (V I a0_1) (V I a0_2) (V I a0_3) (O a0_4) (V I a0_5) (O a0_6) (V I a0_7) (V I a0_8) (L A0_9 l0_9.length c0_9) (L A0_10 l0_10.length c0_10) (V I a0_11) (O a0_12) (V I a0_13)) (ds:= []) #[false,false,false,false,false,false,false,false,false,false,false,false,false,false,false,false,false,false,false] (by kernel_rfl) rfl rfl hh (fun hHeld=> ?_);refine with_tabW impl_MachineOk.tab5 impl_MachineOk.bits5 (fun HT_ HW_=> ?_)
   generalize wc.drew=w2 at BK1 HB hHeld ⊢
   refine pu 0 (some 27) ?_
   refine tu 1 (some 28) hHeld ?_
   refine ou 2 (some 29) (fun K hK=> ?_)
   refine gs func48 #[G #[V I a0_1,V I a0_2,V I a0_3,O a0_4,V I a0_5,O a0_6]] ?_
   with_reducible refine(impl_JobOk.calls a0_1 a0_2 a0_3 a0_4 a0_5 a0_6 true _ A1.out).mono ?_
   rintro e w3 ⟨rfl,hb⟩
   refine⟨_,rfl,?_⟩
   replace BK1:=eK BK1 hb
   replace HB:=eB hb
   (try clear hb)
   refine hK.out _ _ hh (fun hHeld=> ?_)
   clear hK K
   refine nu (N:=(some 29)) ?_
   refine pu 3 (some 30) ?_
   refine pu 4 (some 31) ?_
   refine tu 5 (some 32) hHeld ?_
   refine ou 6 (some 33) (fun K hK=> ?_)
   refine gs func49 #[G #[V I a0_1,V I a0_2,V I a0_3,O a0_4,V I a0_5,O a0_6]] ?_
   with_reducible refine(impl_JobSheets.calls kj1 a0_1 a0_2 a0_3 a0_4 a0_5 a0_6 t2 _ A2.out).mono ?_
   rintro e w4 ⟨rfl,hb⟩
   refine⟨_,rfl,?_⟩
   replace BK1:=eK BK1 hb
   replace HB:=eB hb
   (try clear hb)
   refine hK.out _ _ hh (fun hHeld=> ?_)
   clear hK K
   refine nu (N:=(some 33)) ?_
   refine pu 7 (some 34) ?_
   refine pu 8 (some 35) ?_
   refine pu 9 (some 36) ?_
   refine pu 10 (some 37) ?_
   refine pu 13 (some 40) ?_
   refine pu 14 (some 41) ?_
   refine tu 11 (some 38) hHeld ?_
   refine tu 15 (some 42) hHeld ?_
   refine ou 12 (some 39) (fun K hK=> ?_)
   refine gs func49 #[G #[V I a0_1,V I a0_2,V I a0_3,O a0_4,V I a0_5,O a0_6]] ?_
   with_reducible refine(impl_JobSheets.calls kj1 a0_1 a0_2 a0_3 a0_4 a0_5 a0_6 t3 _ A3.out).mono ?_
   rintro e w5 ⟨rfl,hb⟩
   refine⟨_,rfl,?_⟩
   replace BK1:=eK BK1 hb
   replace HB:=eB hb
   (try clear hb)
   refine hK.out _ _ hh (fun hHeld=> ?_)
   clear hK K
   refine nu (N:=(some 39)) ?_
   refine pu 16 (some 43) ?_
   refine pu 17 (some 44) ?_
   refine pu 18 (some 2) ?_
   refine done_ (done_of HT_.out (by kernel_rfl)) ?_
   try go_wp2
   go_ret
   exact⟨rE,uB⟩
def impl_jobOf.f (a0_0:Int) (a0_1:Int) (a0_2:Int) (a0_3:Int):Option (Int×Int×Int×Bool×Int×Bool):=some (a0_1,a0_2,1,false,a0_3,(a0_3==9))
theorem impl_jobOf.calls (a0_0:Int) (a0_1:Int) (a0_2:Int) (a0_3:Int) (r1:Int) (r2:Int) (r3:Int) (r4:Bool) (r5:Int) (r6:Bool) (w:World) (h:impl_jobOf.f a0_0 a0_1 a0_2 a0_3=some (r1,r2,r3,r4,r5,r6)):
 Calls prog 51 #[G #[V I a0_0,V I a0_1,V I a0_2,V I a0_3]] w fun e w'=>e=.returned (G #[V I r1,V I r2,V I r3,O r4,V I r5,O r6])∧Below w.heap.size w w':=by
 have hu1:=underlying55
 have hu2:=underlying26
 have HB:=C (Below.refl w.heap.size w)
 have H:=h
 unfold impl_jobOf.f at H
 clear h
 simp only[Option.some.injEq,Prod.mk.injEq]at H
 obtain⟨rfl,rfl,rfl,rfl,rfl,rfl⟩:=H
 go_enter func51,ntmps51
 go_wp2_with (first|((with_reducible refine J (N:=1) rfl ?_);refine Fix.be 1 #[V I a0_0,V I a0_1,V I a0_2,V I a0_3] 55 ?_;intro gb1 hg w1 BK1 hb;have GW1:=gE (w:=w) hg;replace HB:=eB hb;clear hb hg)|((with_reducible refine J (N:=2) rfl ?_);refine Fix.be 2 #[V I 0,V I 0,V I 0,O false,V I 0,O false] 26 ?_;intro gb2 hg w2 BK2 hb;have GW2:=gE (w:=w) hg;have n0:=nL hg BK1;have n1:=nG hg BK1;replace BK1:=eK BK1 hb;replace HB:=eB hb;clear hb hg;have:=n0.out;have:=n1.out;obtain⟨_,_,_,_,_,_,_,_⟩:=d4 BK1.out;obtain⟨_,_,_,_,_,_,_,_,_,_,_,_⟩:=d6 BK2.out))
 refine bodyPost_ret (results_cell_row rfl _ _ gb2 26 #[V I a0_1,V I a0_2,V I 1,O false,V I a0_3,O (a0_3==9)] (0,0) _ rfl (bK BK2.out) underlying26 rfl (by kernel_rfl)) rfl ?_
 exact⟨rE,uB⟩
def impl_ActOk.j0:Nat→Int→Bool→Int→Int→Int→Int→Option (Bool)
 |0,_,_,_,_,_,_=>none
 |k+1,x4,x10,x191000,x191001,x191002,x191003=>if x10=true then(if x191001=0 then(if x191002=0 then(some (x191003==0)) else(some false)) else(some false)) else(if x4=3 then((impl_within.f x191001 1 5).bind fun t198=>(if t198=true then(if x191002=0 then(some (x191003==0)) else(some false)) else(some false))) else(if x4=5 then((impl_within.f x191001 1 9999).bind fun t199=>(if t199=true then(if x191002=0 then(some (x191003==0)) else(some false)) else(some false))) else(some false)))
def impl_ActOk.f (k:Nat) (a0_0:Int) (a0_1:Int) (a0_2:Int) (a0_3:Int):Option (Bool):=if a0_0=1 then((impl_jobOf.f a0_0 a0_1 a0_2 a0_3).bind fun bt191=>((impl_JobOk.f bt191.1 bt191.2.1 bt191.2.2.1 bt191.2.2.2.1 bt191.2.2.2.2.1 bt191.2.2.2.2.2).bind fun t197=>(some t197))) else(if a0_0=2 then(impl_ActOk.j0 k a0_0 (a0_0==2) a0_0 a0_1 a0_2 a0_3) else(impl_ActOk.j0 k a0_0 (a0_0==4) a0_0 a0_1 a0_2 a0_3))
theorem impl_ActOk.W1 {p:Prop} (h:p:=by
 go_wp2
 go_meet
 first
  |(case rel=>exact⟨_,((a0_0==2)),rS,H',⟨oL⟩,⟨bK BK1.out⟩,⟨uB⟩⟩)
  |(case rel=>exact⟨_,((a0_0==4)),rS,H',⟨oL⟩,⟨bK BK1.out⟩,⟨uB⟩⟩)):p:=h
theorem impl_ActOk.W2 {p:Prop} (h:p:=by
 go_wp2
 go_ret
 exact⟨rE,uB⟩):p:=h
theorem impl_ActOk.W3 {p:Prop} (h:p:=by
 go_wp2_with (first|((with_reducible refine F (f:=47) rfl ?_);refine gl 47 (some 30) func47 #[V I a0_1,V I 1,V I 5] ?_;(with_reducible refine(impl_within.calls a0_1 1 5 true _ A1.out).mono ?_);rintro e w' ⟨rfl,⟨nd,rfl⟩⟩;refine⟨_,rfl,?_⟩))
 go_ret
 exact⟨rE,uB⟩):p:=h
theorem impl_ActOk.W4 {p:Prop} (h:p:=by
 go_wp2_with (first|((with_reducible refine F (f:=47) rfl ?_);refine gl 47 (some 45) func47 #[V I a0_1,V I 1,V I 9999] ?_;(with_reducible refine(impl_within.calls a0_1 1 9999 true _ A1.out).mono ?_);rintro e w' ⟨rfl,⟨nd,rfl⟩⟩;refine⟨_,rfl,?_⟩))
 go_ret
 exact⟨rE,uB⟩):p:=h
theorem impl_ActOk.calls (k:Nat) (a0_0:Int) (a0_1:Int) (a0_2:Int) (a0_3:Int) (r:Bool) (w:World) (h:impl_ActOk.f k a0_0 a0_1 a0_2 a0_3=some r):
 Calls prog 38 #[G #[V I a0_0,V I a0_1,V I a0_2,V I a0_3]] w fun e w'=>e=.returned (O r)∧Below w.heap.size w w':=by
 have hu1:=underlying55
 have HB:=C (Below.refl w.heap.size w)
 have H:=h
 unfold impl_ActOk.f at H
 clear h
 by_cases c1:a0_0=1
 ·rw[if_pos c1]at H
  have c1b0:(a0_0==1)=true:=beq_iff_eq.mpr c1
  have c1b1:(a0_0 !=1)=false:=bne_eq_false_iff_eq.mpr c1
  clear c1
  obtain⟨⟨t1,t2,t3,t4,t5,t6⟩,A1,H⟩:=bnd H
  dsimp only at H
  obtain⟨t7,A2,H⟩:=bnd H
  obtain rfl:=si H
  go_enter func38,ntmps38
  go_wp2_with (first|((with_reducible refine J (N:=1) rfl ?_);refine Fix.be 1 #[V I a0_0,V I a0_1,V I a0_2,V I a0_3] 55 ?_;intro gb1 hg w1 BK1 hb;have GW1:=gE (w:=w) hg;have GE1:=GW1;replace HB:=eB hb;clear hb hg;obtain⟨_,_,_,_,_,_,_,_⟩:=d4 BK1.out)|((with_reducible refine F (f:=51) rfl ?_);refine gl 51 (some 8) func51 #[G #[V I a0_0,V I a0_1,V I a0_2,V I a0_3]] ?_;(with_reducible refine(impl_jobOf.calls a0_0 a0_1 a0_2 a0_3 t1 t2 t3 t4 t5 t6 _ A1.out).mono ?_);rintro e w2 ⟨rfl,hb⟩;refine⟨_,rfl,?_⟩;replace BK1:=eK BK1 hb;replace HB:=eB hb;clear hb)|((with_reducible refine F (f:=48) rfl ?_);refine gl 48 (some 9) func48 #[G #[V I t1,V I t2,V I t3,O t4,V I t5,O t6]] ?_;(with_reducible refine(impl_JobOk.calls t1 t2 t3 t4 t5 t6 t7 _ A2.out).mono ?_);rintro e w3 ⟨rfl,hb⟩;refine⟨_,rfl,?_⟩;replace BK1:=eK BK1 hb;replace HB:=eB hb;clear hb))
  go_ret
  exact⟨rE,uB⟩
 rw[if_neg c1]at H
 have c1b0:(a0_0==1)=false:=beq_eq_false_iff_ne.mpr c1
 have c1b1:(a0_0 !=1)=true:=bne_iff_ne.mpr c1
 have HC1:=C H
 clear H
 go_enter func38,ntmps38
 go_upto_if 10 with(first|((with_reducible refine J (N:=1) rfl ?_);refine Fix.be 1 #[V I a0_0,V I a0_1,V I a0_2,V I a0_3] 55 ?_;intro gb1 hg w1 BK1 hb;have GW1:=gE (w:=w) hg;have GE1:=GW1;replace HB:=eB hb;clear hb hg;obtain⟨_,_,_,_,_,_,_,_⟩:=d4 BK1.out))
 (try simp only[Act.put,List.setIfInBounds_toArray,List.set_cons_zero,List.set_cons_succ])
 go_cut [10] (fun v10 wc=>∃(kq:Nat) (x1_8:Bool),v10=O x1_8∧D (impl_ActOk.j0 kq a0_0 x1_8 a0_0 a0_1 a0_2 a0_3=some r)∧D (kq≤k)∧D (wc.heap[gb1]? =some (.cells #[V I a0_0,V I a0_1,V I a0_2,V I a0_3] 55 (0,0)))∧D (Below w.heap.size w wc))
 case first=>
  have H:=HC1.out
  clear HC1
  by_cases c2:a0_0=2
  rotate_left
  ·rw[if_neg c2]at H
   have c2b0:(a0_0==2)=false:=beq_eq_false_iff_ne.mpr c2
   have c2b1:(a0_0 !=2)=true:=bne_iff_ne.mpr c2
   (first|rw[c2b0]|(simp only[i64_w,i32_w];rw[c2b0])|skip)
   have H':=C H
   clear H
   exact impl_ActOk.W1
  rw[if_pos c2]at H
  have c2b0:(a0_0==2)=true:=beq_iff_eq.mpr c2
  have c2b1:(a0_0 !=2)=false:=bne_eq_false_iff_eq.mpr c2
  clear c2
  (first|rw[c2b0]|(simp only[i64_w,i32_w];rw[c2b0])|skip)
  have H':=C H
  clear H
  exact impl_ActOk.W1
 case rest=>
  clear HC1
  obtain⟨kq,x1_8,rfl,HA,HJ1,BK1,HB⟩:=hcut
  cases kq with
  |zero=>exact absurd HA.out (by simp[impl_ActOk.j0])
  |succ kj8=>
   have H:=HA.out
   clear HA
   simp only[impl_ActOk.j0]at H
   by_cases c2:x1_8=true
   ·subst c2
    rw[if_pos rfl]at H
    by_cases c3:a0_1=0
    rotate_left
    ·rw[if_neg c3]at H
     have c3b0:(a0_1==0)=false:=beq_eq_false_iff_ne.mpr c3
     have c3b1:(a0_1 !=0)=true:=bne_iff_ne.mpr c3
     obtain rfl:=si H
     obtain⟨_,_,_,_,_,_,_,_⟩:=d4 BK1.out
     exact impl_ActOk.W2
    rw[if_pos c3]at H
    have c3b0:(a0_1==0)=true:=beq_iff_eq.mpr c3
    have c3b1:(a0_1 !=0)=false:=bne_eq_false_iff_eq.mpr c3
    clear c3
    by_cases c4:a0_2=0
    rotate_left
    ·rw[if_neg c4]at H
     have c4b0:(a0_2==0)=false:=beq_eq_false_iff_ne.mpr c4
     have c4b1:(a0_2 !=0)=true:=bne_iff_ne.mpr c4
     obtain rfl:=si H
     obtain⟨_,_,_,_,_,_,_,_⟩:=d4 BK1.out
     exact impl_ActOk.W2
    rw[if_pos c4]at H
    have c4b0:(a0_2==0)=true:=beq_iff_eq.mpr c4
    have c4b1:(a0_2 !=0)=false:=bne_eq_false_iff_eq.mpr c4
    clear c4
    obtain rfl:=si H
    obtain⟨_,_,_,_,_,_,_,_⟩:=d4 BK1.out
    exact impl_ActOk.W2
   obtain rfl:=nt c2
   replace H:=nf H
   by_cases c3:a0_0=3
   ·rw[if_pos c3]at H
    have c3b0:(a0_0==3)=true:=beq_iff_eq.mpr c3
    have c3b1:(a0_0 !=3)=false:=bne_eq_false_iff_eq.mpr c3
    clear c3
    obtain⟨t1,A1,H⟩:=bnd H
    by_cases c4:t1=true
    rotate_left
    ·obtain rfl:=nt c4
     replace H:=nf H
     obtain rfl:=si H
     obtain⟨_,_,_,_,_,_,_,_⟩:=d4 BK1.out
     go_wp2_with (first|((with_reducible refine F (f:=47) rfl ?_);refine gl 47 (some 30) func47 #[V I a0_1,V I 1,V I 5] ?_;(with_reducible refine(impl_within.calls a0_1 1 5 false _ A1.out).mono ?_);rintro e w' ⟨rfl,⟨nd,rfl⟩⟩;refine⟨_,rfl,?_⟩))
     go_ret
     exact⟨rE,uB⟩
    subst c4
    rw[if_pos rfl]at H
    by_cases c5:a0_2=0
    rotate_left
    ·rw[if_neg c5]at H
     have c5b0:(a0_2==0)=false:=beq_eq_false_iff_ne.mpr c5
     have c5b1:(a0_2 !=0)=true:=bne_iff_ne.mpr c5
     obtain rfl:=si H
     obtain⟨_,_,_,_,_,_,_,_⟩:=d4 BK1.out
     exact impl_ActOk.W3
    rw[if_pos c5]at H
    have c5b0:(a0_2==0)=true:=beq_iff_eq.mpr c5
    have c5b1:(a0_2 !=0)=false:=bne_eq_false_iff_eq.mpr c5
    clear c5
    obtain rfl:=si H
    obtain⟨_,_,_,_,_,_,_,_⟩:=d4 BK1.out
    exact impl_ActOk.W3
   rw[if_neg c3]at H
   have c3b0:(a0_0==3)=false:=beq_eq_false_iff_ne.mpr c3
   have c3b1:(a0_0 !=3)=true:=bne_iff_ne.mpr c3
   by_cases c4:a0_0=5
   rotate_left
   ·rw[if_neg c4]at H
    have c4b0:(a0_0==5)=false:=beq_eq_false_iff_ne.mpr c4
    have c4b1:(a0_0 !=5)=true:=bne_iff_ne.mpr c4
    obtain rfl:=si H
    exact impl_ActOk.W2
   rw[if_pos c4]at H
   have c4b0:(a0_0==5)=true:=beq_iff_eq.mpr c4
   have c4b1:(a0_0 !=5)=false:=bne_eq_false_iff_eq.mpr c4
   clear c4
   obtain⟨t1,A1,H⟩:=bnd H
   by_cases c5:t1=true
   rotate_left
   ·obtain rfl:=nt c5
    replace H:=nf H
    obtain rfl:=si H
    obtain⟨_,_,_,_,_,_,_,_⟩:=d4 BK1.out
    go_wp2_with (first|((with_reducible refine F (f:=47) rfl ?_);refine gl 47 (some 45) func47 #[V I a0_1,V I 1,V I 9999] ?_;(with_reducible refine(impl_within.calls a0_1 1 9999 false _ A1.out).mono ?_);rintro e w' ⟨rfl,⟨nd,rfl⟩⟩;refine⟨_,rfl,?_⟩))
    go_ret
    exact⟨rE,uB⟩
   subst c5
   rw[if_pos rfl]at H
   by_cases c6:a0_2=0
   rotate_left
   ·rw[if_neg c6]at H
    have c6b0:(a0_2==0)=false:=beq_eq_false_iff_ne.mpr c6
    have c6b1:(a0_2 !=0)=true:=bne_iff_ne.mpr c6
    obtain rfl:=si H
    obtain⟨_,_,_,_,_,_,_,_⟩:=d4 BK1.out
    exact impl_ActOk.W4
   rw[if_pos c6]at H
   have c6b0:(a0_2==0)=true:=beq_iff_eq.mpr c6
   have c6b1:(a0_2 !=0)=false:=bne_eq_false_iff_eq.mpr c6
   clear c6
   obtain rfl:=si H
   obtain⟨_,_,_,_,_,_,_,_⟩:=d4 BK1.out
   exact impl_ActOk.W4
end Go.Proofs.YtgdnlmfoghpeoaaGreatDoor.PFnExactRunScript
