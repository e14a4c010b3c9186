/- Calls do what plain Lean functions say (FnActParts). No condition. -/
import Derived.Test.YtblceimapaenlaaDoorQFnActParts0
import Derived.Test.YtblceimapaenlaaDoorQFnActParts9
import Derived.Test.YtblceimapaenlaaDoorQFnActParts10
import Derived.Test.YtblceimapaenlaaDoorQFnActParts11
import Derived.Test.YtblceimapaenlaaDoorQFnActParts12
import Derived.Test.YtblceimapaenlaaDoorQFnActParts13
namespace Go.Proofs.YtblceimapaenlaaDoor.PFnActParts
open Go.RowKit Go.Proofs.YtblceimapaenlaaDoorW.PrintWords Go.Proofs.YtblceimapaenlaaDoorW.PrintLast Go.Proofs.YtblceimapaenlaaDoorW.PrintMore
open Fix (bK bnd cf1 cf14 cf6 cl14 cl4 cl6 cr14 cs14 cs6 d14 d4 d6 dB dK dQ dR eB eK eR fQ fR gE gl gs hh lR nG nL nu oL ou pu qm qn rE rS tQ tR tu uB uC uR wB wK wR)
open Go.Value renaming int→V,slice→L,bool→O,agg→G
open Go.IntKind renaming i64→I
open Go.Proofs.YtblceimapaenlaaDoorW.PrintWords.Aside0 renaming mk→C
open Go.Proofs.YtblceimapaenlaaDoorW.PrintWords renaming Aside0→D,gate_callee→F
open Go.Proofs.YtblceimapaenlaaDoorW.PrintWords.Kd renaming R_mono→X,R_types→Y,C_below→Z,R_below→T,R_slice→U
attribute [local go_sem] max2_int min2_int max_two min_two max_three min_three max_four min_four
attribute [local go_sem] Fix.isSome_setCell
set_option linter.unusedVariables false
set_option maxHeartbeats 40000000
set_option maxRecDepth 100000
set_option linter.unusedSimpArgs false
mutual
def impl_DoAct.j0:Nat→Bool→List (S40)→Int→Int→Int→Bool→Int→Bool→Int→Int→List Int→List Int→Int→Bool→Int→Int→Int→Int→Int→List (S40)→Int→Int→Int→Bool→Int→Bool→Int→Int→List Int→List Int→Int→Bool→Int→Option ((List (S40))×Int×Int×Int×Bool×Int×Bool×Int×Int×List Int×List Int×Int×Bool×Int×Int)
 |0,_,_,_,_,_,_,_,_,_,_,_,_,_,_,_,_,_,_,_,_,_,_,_,_,_,_,_,_,_,_,_,_,_=>none
 |k+1,x20,x831000,x831001,x831002,x831003,x831004,x831005,x831006,x831007,x831008,x831009,x831010,x831011,x831012,x831013,x832000,x832001,x832002,x832003,x854000,x854001,x854002,x854003,x854004,x854005,x854006,x854007,x854008,x854009,x854010,x854011,x854012,x854013=>if x20=true then(some (x854000,x854001,x854002,x854003,x854004,x854005,x854006,x854007,x854008,x854009,x854010,x854011,x854012,x854013,(-1))) else(if x832000=1 then((impl_jobOf.f x832000 x832001 x832002 x832003).bind fun bt856=>((impl_AddJob.f k x831000 bt856.1 bt856.2.1 bt856.2.2.1 bt856.2.2.2.1 bt856.2.2.2.2.1 bt856.2.2.2.2.2).bind fun bt862=>((impl_bit.f bt862.2).bind fun t866=>(some (bt862.1,x854001,x854002,x854003,x854004,x854005,x854006,x854007,x854008,x854009,x854010,x854011,x854012,x854013,t866))))) else(if x832000=2 then((impl_TakeJob.f k x831000).bind fun bt867=>((impl_IsDone.f k x831007 x831008 x831009 x831010 x831011 x831012).bind fun t878=>(if t878=true then(if bt867.2.2.2.2.2.2.2=true then((impl_JobSheets.f k bt867.2.1 bt867.2.2.1 bt867.2.2.2.1 bt867.2.2.2.2.1 bt867.2.2.2.2.2.1 bt867.2.2.2.2.2.2.1).bind fun t879=>(impl_DoAct.j1 k bt867.1 (decide (t879 >40)) x831000 x831001 x831002 x831003 x831004 x831005 x831006 x831007 x831008 x831009 x831010 x831011 x831012 x831013 x854000 x854001 x854002 x854003 x854004 x854005 x854006 x854007 x854008 x854009 x854010 x854011 x854012 x854013 bt867.2.1 bt867.2.2.1 bt867.2.2.2.1 bt867.2.2.2.2.1 bt867.2.2.2.2.2.1 bt867.2.2.2.2.2.2.1)) else(impl_DoAct.j1 k bt867.1 true x831000 x831001 x831002 x831003 x831004 x831005 x831006 x831007 x831008 x831009 x831010 x831011 x831012 x831013 x854000 x854001 x854002 x854003 x854004 x854005 x854006 x854007 x854008 x854009 x854010 x854011 x854012 x854013 bt867.2.1 bt867.2.2.1 bt867.2.2.2.1 bt867.2.2.2.2.1 bt867.2.2.2.2.2.1 bt867.2.2.2.2.2.2.1)) else(impl_DoAct.j1 k bt867.1 true x831000 x831001 x831002 x831003 x831004 x831005 x831006 x831007 x831008 x831009 x831010 x831011 x831012 x831013 x854000 x854001 x854002 x854003 x854004 x854005 x854006 x854007 x854008 x854009 x854010 x854011 x854012 x854013 bt867.2.1 bt867.2.2.1 bt867.2.2.2.1 bt867.2.2.2.2.1 bt867.2.2.2.2.2.1 bt867.2.2.2.2.2.2.1)))) else(if x832000=3 then((impl_LineStep.f k x831007 x831008 x831009 x831010 x831011 x831012 x832001).bind fun bt892=>((impl_bit.f bt892.2.2.2.2.2.2).bind fun t903=>(some (x854000,x854001,x854002,x854003,x854004,x854005,x854006,bt892.1,bt892.2.1,bt892.2.2.1,bt892.2.2.2.1,bt892.2.2.2.2.1,bt892.2.2.2.2.2.1,x854013,t903)))) else(if x832000=4 then((impl_FinishLine.f k x831007 x831008 x831009 x831010 x831011 x831012).bind fun bt904=>(some (x854000,x854001,x854002,x854003,x854004,x854005,x854006,bt904.1,bt904.2.1,bt904.2.2.1,bt904.2.2.2.1,bt904.2.2.2.2.1,bt904.2.2.2.2.2,x854013,(bt904.2.2.2.1.length:Int)))) else((impl_ReleaseJob.f k x831000 x832001).bind fun bt914=>((impl_bit.f bt914.2).bind fun t918=>(some (bt914.1,x854001,x854002,x854003,x854004,x854005,x854006,x854007,x854008,x854009,x854010,x854011,x854012,x854013,t918))))))))
def impl_DoAct.j1:Nat→List (S40)→Bool→List (S40)→Int→Int→Int→Bool→Int→Bool→Int→Int→List Int→List Int→Int→Bool→Int→List (S40)→Int→Int→Int→Bool→Int→Bool→Int→Int→List Int→List Int→Int→Bool→Int→Int→Int→Int→Bool→Int→Bool→Option ((List (S40))×Int×Int×Int×Bool×Int×Bool×Int×Int×List Int×List Int×Int×Bool×Int×Int)
 |0,_,_,_,_,_,_,_,_,_,_,_,_,_,_,_,_,_,_,_,_,_,_,_,_,_,_,_,_,_,_,_,_,_,_,_,_=>none
 |k+1,x8,x59,x831000,x831001,x831002,x831003,x831004,x831005,x831006,x831007,x831008,x831009,x831010,x831011,x831012,x831013,x854000,x854001,x854002,x854003,x854004,x854005,x854006,x854007,x854008,x854009,x854010,x854011,x854012,x854013,x878000,x878001,x878002,x878003,x878004,x878005=>if x59=true then(some (x854000,x854001,x854002,x854003,x854004,x854005,x854006,x854007,x854008,x854009,x854010,x854011,x854012,x854013,0)) else((impl_JobSheets.f k x878000 x878001 x878002 x878003 x878004 x878005).bind fun t880=>((impl_NewLine.f t880).bind fun bt881=>(some (x8,x878000,x878001,x878002,x878003,x878004,x878005,bt881.1,bt881.2.1,bt881.2.2.1,bt881.2.2.2.1,bt881.2.2.2.2.1,bt881.2.2.2.2.2.1,mn 100000 (wrap64 (x831013+(x831010.length:Int))),x878000))))
end
def impl_DoAct.f (k:Nat) (l0_0:List (S40)) (a0_1:Int) (a0_2:Int) (a0_3:Int) (a0_4:Bool) (a0_5:Int) (a0_6:Bool) (a0_7:Int) (a0_8:Int) (l0_9:List Int) (l0_10:List Int) (a0_11:Int) (a0_12:Bool) (a0_13:Int) (a1_0:Int) (a1_1:Int) (a1_2:Int) (a1_3:Int):Option ((List (S40))×Int×Int×Int×Bool×Int×Bool×Int×Int×List Int×List Int×Int×Bool×Int×Int):=(impl_copyMachine.f l0_0 a0_1 a0_2 a0_3 a0_4 a0_5 a0_6 a0_7 a0_8 l0_9 l0_10 a0_11 a0_12 a0_13).bind fun bt833=>((impl_MachineOk.f k l0_0 a0_1 a0_2 a0_3 a0_4 a0_5 a0_6 a0_7 a0_8 l0_9 l0_10 a0_11 a0_12 a0_13).bind fun t854=>(if t854=true then((impl_ActOk.f k a1_0 a1_1 a1_2 a1_3).bind fun t855=>(impl_DoAct.j0 k (!t855) l0_0 a0_1 a0_2 a0_3 a0_4 a0_5 a0_6 a0_7 a0_8 l0_9 l0_10 a0_11 a0_12 a0_13 a1_0 a1_1 a1_2 a1_3 bt833.1 bt833.2.1 bt833.2.2.1 bt833.2.2.2.1 bt833.2.2.2.2.1 bt833.2.2.2.2.2.1 bt833.2.2.2.2.2.2.1 bt833.2.2.2.2.2.2.2.1 bt833.2.2.2.2.2.2.2.2.1 bt833.2.2.2.2.2.2.2.2.2.1 bt833.2.2.2.2.2.2.2.2.2.2.1 bt833.2.2.2.2.2.2.2.2.2.2.2.1 bt833.2.2.2.2.2.2.2.2.2.2.2.2.1 bt833.2.2.2.2.2.2.2.2.2.2.2.2.2)) else(impl_DoAct.j0 k true l0_0 a0_1 a0_2 a0_3 a0_4 a0_5 a0_6 a0_7 a0_8 l0_9 l0_10 a0_11 a0_12 a0_13 a1_0 a1_1 a1_2 a1_3 bt833.1 bt833.2.1 bt833.2.2.1 bt833.2.2.2.1 bt833.2.2.2.2.1 bt833.2.2.2.2.2.1 bt833.2.2.2.2.2.2.1 bt833.2.2.2.2.2.2.2.1 bt833.2.2.2.2.2.2.2.2.1 bt833.2.2.2.2.2.2.2.2.2.1 bt833.2.2.2.2.2.2.2.2.2.2.1 bt833.2.2.2.2.2.2.2.2.2.2.2.1 bt833.2.2.2.2.2.2.2.2.2.2.2.2.1 bt833.2.2.2.2.2.2.2.2.2.2.2.2.2)))
theorem impl_DoAct.mono_l:∀k,(∀y0 y1 y2 y3 y4 y5 y6 y7 y8 y9 y10 y11 y12 y13 y14 y15 y16 y17 y18 y19 y20 y21 y22 y23 y24 y25 y26 y27 y28 y29 y30 y31 y32,LeO (impl_DoAct.j0 k y0 y1 y2 y3 y4 y5 y6 y7 y8 y9 y10 y11 y12 y13 y14 y15 y16 y17 y18 y19 y20 y21 y22 y23 y24 y25 y26 y27 y28 y29 y30 y31 y32) (impl_DoAct.j0 (k+1) y0 y1 y2 y3 y4 y5 y6 y7 y8 y9 y10 y11 y12 y13 y14 y15 y16 y17 y18 y19 y20 y21 y22 y23 y24 y25 y26 y27 y28 y29 y30 y31 y32))∧(∀y0 y1 y2 y3 y4 y5 y6 y7 y8 y9 y10 y11 y12 y13 y14 y15 y16 y17 y18 y19 y20 y21 y22 y23 y24 y25 y26 y27 y28 y29 y30 y31 y32 y33 y34 y35,LeO (impl_DoAct.j1 k y0 y1 y2 y3 y4 y5 y6 y7 y8 y9 y10 y11 y12 y13 y14 y15 y16 y17 y18 y19 y20 y21 y22 y23 y24 y25 y26 y27 y28 y29 y30 y31 y32 y33 y34 y35) (impl_DoAct.j1 (k+1) y0 y1 y2 y3 y4 y5 y6 y7 y8 y9 y10 y11 y12 y13 y14 y15 y16 y17 y18 y19 y20 y21 y22 y23 y24 y25 y26 y27 y28 y29 y30 y31 y32 y33 y34 y35))
 |0=>⟨fun _ _ _ _ _ _ _ _ _ _ _ _ _ _ _ _ _ _ _ _ _ _ _ _ _ _ _ _ _ _ _ _ _ r h=>by simp[impl_DoAct.j0]at h,fun _ _ _ _ _ _ _ _ _ _ _ _ _ _ _ _ _ _ _ _ _ _ _ _ _ _ _ _ _ _ _ _ _ _ _ _ r h=>by simp[impl_DoAct.j1]at h⟩
 |k+1=>by
  obtain⟨ih0,ih1⟩:=impl_DoAct.mono_l k
  refine⟨?_,?_⟩
  ·intro y0 y1 y2 y3 y4 y5 y6 y7 y8 y9 y10 y11 y12 y13 y14 y15 y16 y17 y18 y19 y20 y21 y22 y23 y24 y25 y26 y27 y28 y29 y30 y31 y32
   unfold impl_DoAct.j0
   repeat' first|(with_reducible first|apply ih0|apply ih1|apply impl_ActOk.mono|apply impl_AddJob.mono|apply impl_FinishLine.mono|apply impl_IsDone.mono|apply impl_JobSheets.mono|apply impl_LineStep.mono|apply impl_MachineOk.mono|apply impl_ReleaseJob.mono|apply impl_TakeJob.mono|exact LeO.refl _|exact LeO.none _|refine LeO.ite ?_ ?_|refine LeO.bind ?_ (fun _=> ?_))|apply ih0|apply ih1|exact LeO.none _|refine LeO.ite ?_ ?_|refine LeO.bind ?_ (fun _=> ?_)
  ·intro y0 y1 y2 y3 y4 y5 y6 y7 y8 y9 y10 y11 y12 y13 y14 y15 y16 y17 y18 y19 y20 y21 y22 y23 y24 y25 y26 y27 y28 y29 y30 y31 y32 y33 y34 y35
   unfold impl_DoAct.j1
   repeat' first|(with_reducible first|apply ih0|apply ih1|apply impl_ActOk.mono|apply impl_AddJob.mono|apply impl_FinishLine.mono|apply impl_IsDone.mono|apply impl_JobSheets.mono|apply impl_LineStep.mono|apply impl_MachineOk.mono|apply impl_ReleaseJob.mono|apply impl_TakeJob.mono|exact LeO.refl _|exact LeO.none _|refine LeO.ite ?_ ?_|refine LeO.bind ?_ (fun _=> ?_))|apply ih0|apply ih1|exact LeO.none _|refine LeO.ite ?_ ?_|refine LeO.bind ?_ (fun _=> ?_)
theorem impl_DoAct.mono:∀a0 a1 a2 a3 a4 a5 a6 a7 a8 a9 a10 a11 a12 a13 a14 a15 a16 a17 k,LeO (impl_DoAct.f k a0 a1 a2 a3 a4 a5 a6 a7 a8 a9 a10 a11 a12 a13 a14 a15 a16 a17) (impl_DoAct.f (k+1) a0 a1 a2 a3 a4 a5 a6 a7 a8 a9 a10 a11 a12 a13 a14 a15 a16 a17):=by
 intro a0 a1 a2 a3 a4 a5 a6 a7 a8 a9 a10 a11 a12 a13 a14 a15 a16 a17 k
 obtain⟨ih0,ih1⟩:=impl_DoAct.mono_l k
 unfold impl_DoAct.f
 repeat' first|(with_reducible first|apply ih0|apply ih1|apply impl_ActOk.mono|apply impl_AddJob.mono|apply impl_FinishLine.mono|apply impl_IsDone.mono|apply impl_JobSheets.mono|apply impl_LineStep.mono|apply impl_MachineOk.mono|apply impl_ReleaseJob.mono|apply impl_TakeJob.mono|exact LeO.refl _|exact LeO.none _|refine LeO.ite ?_ ?_|refine LeO.bind ?_ (fun _=> ?_))|apply ih0|apply ih1|exact LeO.none _|refine LeO.ite ?_ ?_|refine LeO.bind ?_ (fun _=> ?_)
def impl_DoAct.T7:Bool×List (List Nat×List Nat):=(true,[([],[]),([0],[0]),([],[]),([2],[2]),([1,3,3],[1,3]),([4],[4]),([5],[5]),([5],[5]),([0,1,2,3,4,5,6],[]),([8,6,4,0,1,2,3,4,5,6],[6,8]),([7,9,0,1,2,3,4,5,6,7,8,9],[7])])
def impl_DoAct.B7:List Nat:= [0,1,0,4,15,31,63,63,127,383,1023]
theorem impl_DoAct.tab7:rtab .any (opsOf Tryd.f58 7)=impl_DoAct.T7:=by kernel_rfl
theorem impl_DoAct.bits7:waitsOk impl_DoAct.T7.2 impl_DoAct.B7=true:=by kernel_rfl
theorem impl_DoAct.W1 {p:Prop} (h:p:=by
 go_wp2_with (first|((with_reducible refine F (f:=42) rfl ?_);refine gl 42 (some 14) Tryd.func42 #[G #[L A0_0 l0_0.length c0_0,V I a0_1,V I a0_2,V I a0_3,O a0_4,V I a0_5,O a0_6,V I a0_7,V I a0_8,L A0_9 l0_9.length c0_9,L A0_10 l0_10.length c0_10,V I a0_11,O a0_12,V I a0_13]] ?_;(with_reducible refine(impl_MachineOk.calls k _ _ l0_0 a0_1 a0_2 a0_3 a0_4 a0_5 a0_6 a0_7 a0_8 _ _ l0_9 _ _ l0_10 a0_11 a0_12 a0_13 true _ ?side1 ?side2 ?side3 ?side4 ?side5 ?side6 A2.out).mono ?_);(case side1=>exact Z HR1_0.out uB);(case side2=>exact HC1_0.out);(case side3=>exact Z HR1_9.out uB);(case side4=>exact HC1_9.out);(case side5=>exact Z HR1_10.out uB);(case side6=>exact HC1_10.out);rintro e w7 ⟨rfl,hb⟩;refine⟨_,rfl,?_⟩;replace HO1:=C (T (X (fR (Y HO1.out BK4.out (by decide))) (fun _ h_=>h_.1)) hb);replace HO2:=C (T (X (fR (Y HO2.out BK4.out (by decide))) (fun _ h_=>h_.1)) hb);replace HO3:=C (T (X (fR (Y HO3.out BK4.out (by decide))) (fun _ h_=>h_.1)) hb);replace BK1:=eK BK1 hb;replace BK2:=eK BK2 hb;replace BK3:=eK BK3 hb;replace BK4:=C (blk_below (g:=gb4) (o:=.cells #[L Ao1 t1.length co1,V I t2,V I t3,V I t4,O t5,V I t6,O t7,V I t8,V I t9,L Ao2 t10.length co2,L Ao3 t11.length co3,V I t12,O t13,V I t14] 45 (0,0)) (bK BK4.out) hb);replace HB:=eB hb;clear hb;have hnb9:=NB2_832.out;have hnc9:=NB3_831.out;have hnb10:=NB2_853.out;have hnc10:=NB4_831.out;have h_:=d4 BK2.out;(repeat(obtain⟨_,h_⟩:=h_)))|(go_at_call 35;(with_reducible refine(impl_ActOk.calls k a1_0 a1_1 a1_2 a1_3 t16 _ A3.out).mono ?_);rintro e w8 ⟨rfl,hb⟩;replace HO1:=eR HO1 hb;replace HO2:=eR HO2 hb;replace HO3:=eR HO3 hb;replace BK1:=eK BK1 hb;replace BK2:=eK BK2 hb;replace BK3:=eK BK3 hb;replace BK4:=eK BK4 hb;replace HB:=eB hb;clear hb)|((with_reducible refine F (f:=87) rfl ?_);refine gl 87 (some 49) Tryd.func87 #[G #[V I a0_7,V I a0_8,L A0_9 l0_9.length c0_9,L A0_10 l0_10.length c0_10,V I a0_11,O a0_12]] ?_;(with_reducible refine(impl_IsDone.calls kj3 a0_7 a0_8 _ _ l0_9 _ _ l0_10 a0_11 a0_12 true _ ?side1 ?side2 ?side3 ?side4 A3.out).mono ?_);(case side1=>exact Z HR1_9.out uB);(case side2=>exact HC1_9.out);(case side3=>exact Z HR1_10.out uB);(case side4=>exact HC1_10.out);rintro e w9 ⟨rfl,hb⟩;refine⟨_,rfl,?_⟩;replace HO_1:=C (T (X (fR (X HO_1.out (fun k_ hk=>(⟨hk,hk.2⟩:_∧k_≠gb5)))) (fun _ h_=>h_.1)) hb);replace HO_2:=C (T (X (fR (Y HO_2.out BK5.out (by decide))) (fun _ h_=>h_.1)) hb);replace HO_3:=C (T (X (fR (Y HO_3.out BK5.out (by decide))) (fun _ h_=>h_.1)) hb);replace HO4:=C (T (X (fR (X HO4.out (fun k_ hk=>(⟨hk,hk.2⟩:_∧k_≠gb5)))) (fun _ h_=>h_.1)) hb);replace BK1:=eK BK1 hb;replace BK2:=eK BK2 hb;replace BK3:=eK BK3 hb;replace BK4:=eK BK4 hb;replace BK5:=C (blk_below (g:=gb5) (o:=.cells #[V I t16,V I t17,V I t18,O t19,V I t20,O t21] 40 (0,0)) (bK BK5.out) hb);replace HB:=eB hb;clear hb;have hnb19:=NB5_831.out;have hnc19:=NB2_877.out;have hnb20:=NB5_832.out;have hnc20:=NB3_877.out;have hnb21:=NB5_853.out;have hnc21:=NB4_877.out;have h_:=d6 BK5.out;(repeat(obtain⟨_,h_⟩:=h_)))|(go_at_call 72;(with_reducible refine(impl_JobSheets.calls kj3 t16 t17 t18 t19 t20 t21 t24 _ A4.out).mono ?_);rintro e w10 ⟨rfl,hb⟩;replace HO_1:=eR HO_1 hb;replace HO_2:=eR HO_2 hb;replace HO_3:=eR HO_3 hb;replace HO4:=eR HO4 hb;replace BK1:=eK BK1 hb;replace BK2:=eK BK2 hb;replace BK3:=eK BK3 hb;replace BK4:=eK BK4 hb;replace BK5:=eK BK5 hb;replace HB:=eB hb;clear hb))
 go_meet
 first
  |(case rel=>exact⟨_,(!t16),rS,H',⟨oL⟩,⟨fR HO1.out⟩,⟨fR HO2.out⟩,⟨fR HO3.out⟩,⟨bK BK1.out⟩,⟨bK BK2.out⟩,⟨bK BK3.out⟩,⟨bK BK4.out⟩,⟨uB⟩⟩)
  |(case rel=>exact⟨_,(decide (t24 >40)),rS,H',⟨by have:=HJ1.out;first|omega|exact Nat.le_refl _⟩,⟨X (fR HO4.out) (fun _ hk=>⟨hk.1.2,hk.2⟩)⟩,⟨X (fR HO_1.out) (fun _ hk=>⟨hk.1.2,hk.2⟩)⟩,⟨fR HO_2.out⟩,⟨fR HO_3.out⟩,⟨bK BK1.out⟩,⟨bK BK2.out⟩,⟨bK BK3.out⟩,⟨bK BK4.out⟩,⟨bK BK5.out⟩,⟨uB⟩⟩)):p:=h
theorem impl_DoAct.W2 {p:Prop} (h:p:=by
 go_wp2_with (first|((with_reducible refine F (f:=42) rfl ?_);refine gl 42 (some 14) Tryd.func42 #[G #[L A0_0 l0_0.length c0_0,V I a0_1,V I a0_2,V I a0_3,O a0_4,V I a0_5,O a0_6,V I a0_7,V I a0_8,L A0_9 l0_9.length c0_9,L A0_10 l0_10.length c0_10,V I a0_11,O a0_12,V I a0_13]] ?_;(with_reducible refine(impl_MachineOk.calls k _ _ l0_0 a0_1 a0_2 a0_3 a0_4 a0_5 a0_6 a0_7 a0_8 _ _ l0_9 _ _ l0_10 a0_11 a0_12 a0_13 false _ ?side1 ?side2 ?side3 ?side4 ?side5 ?side6 A2.out).mono ?_);(case side1=>exact Z HR1_0.out uB);(case side2=>exact HC1_0.out);(case side3=>exact Z HR1_9.out uB);(case side4=>exact HC1_9.out);(case side5=>exact Z HR1_10.out uB);(case side6=>exact HC1_10.out);rintro e w7 ⟨rfl,hb⟩;refine⟨_,rfl,?_⟩;replace HO1:=C (T (X (fR (Y HO1.out BK4.out (by decide))) (fun _ h_=>h_.1)) hb);replace HO2:=C (T (X (fR (Y HO2.out BK4.out (by decide))) (fun _ h_=>h_.1)) hb);replace HO3:=C (T (X (fR (Y HO3.out BK4.out (by decide))) (fun _ h_=>h_.1)) hb);replace BK1:=eK BK1 hb;replace BK2:=eK BK2 hb;replace BK3:=eK BK3 hb;replace BK4:=C (blk_below (g:=gb4) (o:=.cells #[L Ao1 t1.length co1,V I t2,V I t3,V I t4,O t5,V I t6,O t7,V I t8,V I t9,L Ao2 t10.length co2,L Ao3 t11.length co3,V I t12,O t13,V I t14] 45 (0,0)) (bK BK4.out) hb);replace HB:=eB hb;clear hb)|((with_reducible refine F (f:=87) rfl ?_);refine gl 87 (some 49) Tryd.func87 #[G #[V I a0_7,V I a0_8,L A0_9 l0_9.length c0_9,L A0_10 l0_10.length c0_10,V I a0_11,O a0_12]] ?_;(with_reducible refine(impl_IsDone.calls kj3 a0_7 a0_8 _ _ l0_9 _ _ l0_10 a0_11 a0_12 true _ ?side1 ?side2 ?side3 ?side4 A3.out).mono ?_);(case side1=>exact Z HR1_9.out uB);(case side2=>exact HC1_9.out);(case side3=>exact Z HR1_10.out uB);(case side4=>exact HC1_10.out);rintro e w9 ⟨rfl,hb⟩;refine⟨_,rfl,?_⟩;replace HO_1:=C (T (X (fR (X HO_1.out (fun k_ hk=>(⟨hk,hk.2⟩:_∧k_≠gb5)))) (fun _ h_=>h_.1)) hb);replace HO_2:=C (T (X (fR (Y HO_2.out BK5.out (by decide))) (fun _ h_=>h_.1)) hb);replace HO_3:=C (T (X (fR (Y HO_3.out BK5.out (by decide))) (fun _ h_=>h_.1)) hb);replace HO4:=C (T (X (fR (X HO4.out (fun k_ hk=>(⟨hk,hk.2⟩:_∧k_≠gb5)))) (fun _ h_=>h_.1)) hb);replace BK1:=eK BK1 hb;replace BK2:=eK BK2 hb;replace BK3:=eK BK3 hb;replace BK4:=eK BK4 hb;replace BK5:=C (blk_below (g:=gb5) (o:=.cells #[V I t16,V I t17,V I t18,O t19,V I t20,O t21] 40 (0,0)) (bK BK5.out) hb);replace HB:=eB hb;clear hb))
 go_meet
 first
  |(case rel=>exact⟨_,(true),rS,H',⟨oL⟩,⟨fR HO1.out⟩,⟨fR HO2.out⟩,⟨fR HO3.out⟩,⟨bK BK1.out⟩,⟨bK BK2.out⟩,⟨bK BK3.out⟩,⟨bK BK4.out⟩,⟨uB⟩⟩)
  |(case rel=>exact⟨_,(true),rS,H',⟨by have:=HJ1.out;first|omega|exact Nat.le_refl _⟩,⟨X (fR HO4.out) (fun _ hk=>⟨hk.1.2,hk.2⟩)⟩,⟨X (fR HO_1.out) (fun _ hk=>⟨hk.1.2,hk.2⟩)⟩,⟨fR HO_2.out⟩,⟨fR HO_3.out⟩,⟨bK BK1.out⟩,⟨bK BK2.out⟩,⟨bK BK3.out⟩,⟨bK BK4.out⟩,⟨bK BK5.out⟩,⟨uB⟩⟩)):p:=h
theorem impl_DoAct.W3 {p:Prop} (h:p:=by
 go_wp2
 refine bodyPost_ret (results_ct rfl _ _ gb3 45 #[L Ao1 t1.length co1,V I t2,V I t3,V I t4,O t5,V I t6,O t7,V I t8,V I t9,L Ao2 t10.length co2,L Ao3 t11.length co3,V I t12,O t13,V I t14] (0,0) _ rfl (bK BK3.out) Tryd.underlying45 rfl (by kernel_rfl)) rfl ?_
 exact⟨_,_,_,rE,X (fR (Y HO_1.out BK3.out (by decide))) (fun _ hk=>trivial),Kd.Q_of_R (X (fR (Y HO_2.out BK3.out (by decide))) (fun _ hk=>hk.1)),X (fR (Y HO_3.out BK3.out (by decide))) (fun _ hk=>hk.1),uB⟩):p:=h
theorem impl_DoAct.callsA (k:Nat) (A0_0:Option Addr) (c0_0:Nat) (l0_0:List (S40)) (a0_1:Int) (a0_2:Int) (a0_3:Int) (a0_4:Bool) (a0_5:Int) (a0_6:Bool) (a0_7:Int) (a0_8:Int) (A0_9:Option Addr) (c0_9:Nat) (l0_9:List Int) (A0_10:Option Addr) (c0_10:Nat) (l0_10:List Int) (a0_11:Int) (a0_12:Bool) (a0_13:Int) (a1_0:Int) (a1_1:Int) (a1_2:Int) (a1_3:Int) (r1:List (S40)) (r2:Int) (r3:Int) (r4:Int) (r5:Bool) (r6:Int) (r7:Bool) (r8:Int) (r9:Int) (r10:List Int) (r11:List Int) (r12:Int) (r13:Bool) (r14:Int) (r15:Int) (w:World) (hr0_0:Kd.C k40 w A0_0 l0_0.length l0_0) (hc0_0:l0_0.length≤c0_0) (hr0_9:Kd.C (Kd.int .i64) w A0_9 l0_9.length l0_9) (hc0_9:l0_9.length≤c0_9) (hr0_10:Kd.C (Kd.int .i64) w A0_10 l0_10.length l0_10) (hc0_10:l0_10.length≤c0_10) (h:impl_DoAct.f k l0_0 a0_1 a0_2 a0_3 a0_4 a0_5 a0_6 a0_7 a0_8 l0_9 l0_10 a0_11 a0_12 a0_13 a1_0 a1_1 a1_2 a1_3=some (r1,r2,r3,r4,r5,r6,r7,r8,r9,r10,r11,r12,r13,r14,r15)) (hA:D (a1_0=2)):
 Calls Tryd.prog 58 #[G #[L A0_0 l0_0.length c0_0,V I a0_1,V I a0_2,V I a0_3,O a0_4,V I a0_5,O a0_6,V I a0_7,V I a0_8,L A0_9 l0_9.length c0_9,L A0_10 l0_10.length c0_10,V I a0_11,O a0_12,V I a0_13],G #[V I a1_0,V I a1_1,V I a1_2,V I a1_3]] w fun e w'=>∃v0_ v9_ v10_:Value,e=.returned (.tuple #[G #[v0_,V I r2,V I r3,V I r4,O r5,V I r6,O r7,V I r8,V I r9,v9_,v10_,V I r12,O r13,V I r14],V I r15])∧Kd.R k40 40 w' w.heap.size (fun _=>True) v0_ r1∧Kd.Q (Kd.int .i64) 3 w' w.heap.size (fun k_=>qm k_ v10_) v9_ r10∧Kd.R (Kd.int .i64) 3 w' w.heap.size (fun k_=>qm k_ v9_) v10_ r11∧Below w.heap.size w w':=by
 have hu1:=Tryd.underlying45
 have hu2:=Tryd.underlying26
 have hu3:=Tryd.underlying40
 have hu4:=Tryd.underlying43
 have HR1_0:=C hr0_0
 have HC1_0:=C hc0_0
 (try clear hr0_0);(try clear hc0_0)
 have HR1_9:=C hr0_9
 have HC1_9:=C hc0_9
 (try clear hr0_9);(try clear hc0_9)
 have HR1_10:=C hr0_10
 have HC1_10:=C hc0_10
 (try clear hr0_10);(try clear hc0_10)
 have HB:=C (Below.refl w.heap.size w)
 have H:=h
 unfold impl_DoAct.f at H
 clear h
 obtain⟨⟨t1,t2,t3,t4,t5,t6,t7,t8,t9,t10,t11,t12,t13,t14⟩,A1,H⟩:=bnd H
 dsimp only at H
 have HC2:=C H
 clear H
 go_enter Tryd.func58,Tryd.ntmps58
 go_upto_region 2 with(first|((with_reducible refine gate_dst (N:=2) rfl ?_);refine Fix.be 2 #[L A0_0 l0_0.length c0_0,V I a0_1,V I a0_2,V I a0_3,O a0_4,V I a0_5,O a0_6,V I a0_7,V I a0_8,L A0_9 l0_9.length c0_9,L A0_10 l0_10.length c0_10,V I a0_11,O a0_12,V I a0_13] 45 ?_;intro gb1 hg w2 BK1 hb;have GW1:D (w.heap.size≤gb1):=gE hg;have GE1:=GW1;replace HB:=eB hb;clear hb hg)|((with_reducible refine gate_dst (N:=3) rfl ?_);refine Fix.be 3 #[V I a1_0,V I a1_1,V I a1_2,V I a1_3] 26 ?_;intro gb2 hg w3 BK2 hb;have GW2:D (w.heap.size≤gb2):=gE hg;have GE2:=GW2;have NB1_831:=nL hg BK1;have NB2_830:=nG hg BK1;replace BK1:=eK BK1 hb;replace HB:=eB hb;clear hb hg)|((with_reducible refine gate_dst (N:=4) rfl ?_);refine Fix.be 4 #[L none 0 0,V I 0,V I 0,V I 0,O false,V I 0,O false,V I 0,V I 0,L none 0 0,L none 0 0,V I 0,O false,V I 0] 45 ?_;intro gb3 hg w4 BK3 hb;have GW3:D (w.heap.size≤gb3):=gE hg;have GE3:=GW3;have NB1_832:=nL hg BK1;have NB3_830:=nG hg BK1;have NB2_832:=nL hg BK2;have NB3_831:=nG hg BK2;replace BK1:=eK BK1 hb;replace BK2:=eK BK2 hb;replace HB:=eB hb;clear hb hg;have hnb1:=NB1_831.out;have hnc1:=NB2_830.out;have hnb2:=NB1_832.out;have hnc2:=NB3_830.out;have h_:=d14 BK1.out;(repeat(obtain⟨_,h_⟩:=h_)))|((with_reducible refine F (f:=57) rfl ?_);refine gl 57 (some 12) Tryd.func57 #[G #[L A0_0 l0_0.length c0_0,V I a0_1,V I a0_2,V I a0_3,O a0_4,V I a0_5,O a0_6,V I a0_7,V I a0_8,L A0_9 l0_9.length c0_9,L A0_10 l0_10.length c0_10,V I a0_11,O a0_12,V I a0_13]] ?_;(with_reducible refine(impl_copyMachine.calls _ _ l0_0 a0_1 a0_2 a0_3 a0_4 a0_5 a0_6 a0_7 a0_8 _ _ l0_9 _ _ l0_10 a0_11 a0_12 a0_13 t1 t2 t3 t4 t5 t6 t7 t8 t9 t10 t11 t12 t13 t14 _ ?side1 ?side2 ?side3 ?side4 ?side5 ?side6 A1.out).mono ?_);(case side1=>exact uC (Z HR1_0.out HB.out));(case side2=>exact HC1_0.out);(case side3=>exact uC (Z HR1_9.out HB.out));(case side4=>exact HC1_9.out);(case side5=>exact uC (Z HR1_10.out HB.out));(case side6=>exact HC1_10.out);rintro e w5 ⟨v1,v2,v3,rfl,ho1,ho2,ho3,hb⟩;refine⟨_,rfl,?_⟩;have HO1:=lR ho1;have HO2:=lR ho2;have HO3:=lR ho3;replace BK1:=eK BK1 hb;replace BK2:=eK BK2 hb;replace BK3:=eK BK3 hb;replace HB:=eB hb;clear hb ho1 ho2 ho3)|((with_reducible refine gate_dst (N:=6) rfl ?_);refine Fix.be 6 #[L none 0 0,V I 0,V I 0,V I 0,O false,V I 0,O false,V I 0,V I 0,L none 0 0,L none 0 0,V I 0,O false,V I 0] 45 ?_;intro gb4 hg w6 BK4 hb;have GW4:D (w.heap.size≤gb4):=gE hg;have GE4:=GW4;have NB1_853:=nL hg BK1;have NB4_830:=nG hg BK1;have NB2_853:=nL hg BK2;have NB4_831:=nG hg BK2;have NB3_853:=nL hg BK3;have NB4_832:=nG hg BK3;replace HO1:=eR HO1 hb;replace HO2:=eR HO2 hb;replace HO3:=eR HO3 hb;replace BK1:=eK BK1 hb;replace BK2:=eK BK2 hb;replace BK3:=eK BK3 hb;replace HB:=eB hb;clear hb hg;obtain⟨Ao1,co1,eo1⟩:=U HO1.out;subst eo1;have hnb3:=NB4_830.out;have hnc3:=NB1_853.out;have hnb4:=NB4_831.out;have hnc4:=NB2_853.out;have hnb5:=NB4_832.out;have hnc5:=NB3_853.out;have h_:=d14 BK4.out;(repeat(obtain⟨_,h_⟩:=h_));obtain⟨Ao2,co2,eo2⟩:=U HO2.out;subst eo2;obtain⟨Ao3,co3,eo3⟩:=U HO3.out;subst eo3))
 (try simp only[Act.put,List.setIfInBounds_toArray,List.set_cons_zero,List.set_cons_succ])
 go_cut [20] (fun v20 wc=>∃(kq:Nat) (x1_3:Bool),v20=O x1_3∧D (impl_DoAct.j0 kq x1_3 l0_0 a0_1 a0_2 a0_3 a0_4 a0_5 a0_6 a0_7 a0_8 l0_9 l0_10 a0_11 a0_12 a0_13 a1_0 a1_1 a1_2 a1_3 t1 t2 t3 t4 t5 t6 t7 t8 t9 t10 t11 t12 t13 t14=some (r1,r2,r3,r4,r5,r6,r7,r8,r9,r10,r11,r12,r13,r14,r15))∧D (kq≤k)∧D (Kd.R k40 40 wc w.heap.size (fun _=>True) (L Ao1 t1.length co1) t1)∧D (Kd.R (Kd.int .i64) 3 wc w.heap.size (fun k_=>some k_≠Fix.o Ao3 t11.length co3) (L Ao2 t10.length co2) t10)∧D (Kd.R (Kd.int .i64) 3 wc w.heap.size (fun k_=>some k_≠Fix.o Ao2 t10.length co2) (L Ao3 t11.length co3) t11)∧D (wc.heap[gb1]? =some (.cells #[(L A0_0 l0_0.length c0_0),V I a0_1,V I a0_2,V I a0_3,O a0_4,V I a0_5,O a0_6,V I a0_7,V I a0_8,(L A0_9 l0_9.length c0_9),(L A0_10 l0_10.length c0_10),V I a0_11,O a0_12,V I a0_13] 45 (0,0)))∧D (wc.heap[gb2]? =some (.cells #[V I a1_0,V I a1_1,V I a1_2,V I a1_3] 26 (0,0)))∧D (wc.heap[gb3]? =some (.cells #[(L none 0 0),V I 0,V I 0,V I 0,O false,V I 0,O false,V I 0,V I 0,(L none 0 0),(L none 0 0),V I 0,O false,V I 0] 45 (0,0)))∧D (wc.heap[gb4]? =some (.cells #[(L Ao1 t1.length co1),V I t2,V I t3,V I t4,O t5,V I t6,O t7,V I t8,V I t9,(L Ao2 t10.length co2),(L Ao3 t11.length co3),V I t12,O t13,V I t14] 45 (0,0)))∧D (Below w.heap.size w wc))
 case first=>
  have H:=HC2.out
  clear HC2
  obtain⟨t15,A2,H⟩:=bnd H
  by_cases c1:t15=true
  ·subst c1
   rw[if_pos rfl]at H
   obtain⟨t16,A3,H⟩:=bnd H
   have H':=C H
   clear H
   have hnb6:=NB1_831.out
   have hnc6:=NB2_830.out
   have hnb7:=NB1_832.out
   have hnc7:=NB3_830.out
   have hnb8:=NB1_853.out
   have hnc8:=NB4_830.out
   have h_:=d14 BK1.out;(repeat(obtain⟨_,h_⟩:=h_))
   exact impl_DoAct.W1
  replace c1:=Bool.eq_false_iff.mpr c1
  subst c1
  rw[if_neg Bool.false_ne_true]at H
  have H':=C H
  clear H
  have hnb6:=NB1_831.out
  have hnc6:=NB2_830.out
  have hnb7:=NB1_832.out
  have hnc7:=NB3_830.out
  have hnb8:=NB1_853.out
  have hnc8:=NB4_830.out
  have h_:=d14 BK1.out;(repeat(obtain⟨_,h_⟩:=h_))
  exact impl_DoAct.W2
 case rest=>
  clear HC2
  obtain⟨kq,x1_3,rfl,HA,HJ1,HO_1,HO_2,HO_3,BK1,BK2,BK3,BK4,HB⟩:=hcut
  cases kq with
  |zero=>exact absurd HA.out (by simp[impl_DoAct.j0])
  |succ kj3=>
   have H:=HA.out
   clear HA
   simp only[impl_DoAct.j0]at H
   by_cases c1:x1_3=true
   ·subst c1
    rw[if_pos rfl]at H
    simp only[Option.some.injEq,Prod.mk.injEq]at H
    obtain⟨rfl,rfl,rfl,rfl,rfl,rfl,rfl,rfl,rfl,rfl,rfl,rfl,rfl,rfl,rfl⟩:=H
    have hnb6:=NB4_830.out
    have hnc6:=NB1_853.out
    have hnb7:=NB4_831.out
    have hnc7:=NB2_853.out
    have hnb8:=NB4_832.out
    have hnc8:=NB3_853.out
    have h_:=d14 BK4.out;(repeat(obtain⟨_,h_⟩:=h_))
    have hnb9:=NB3_830.out
    have hnc9:=NB1_832.out
    have hnb10:=NB3_831.out
    have hnc10:=NB2_832.out
    have h_:=d14 BK3.out;(repeat(obtain⟨_,h_⟩:=h_))
    exact impl_DoAct.W3
   replace c1:=Bool.eq_false_iff.mpr c1
   subst c1
   rw[if_neg Bool.false_ne_true]at H
   by_cases c2:a1_0=1
   ·exact absurd (hA.out.symm.trans c2) (by decide)
   rw[if_neg c2]at H
   have c2b0:(a1_0==1)=false:=beq_eq_false_iff_ne.mpr c2
   have c2b1:(a1_0 !=1)=true:=bne_iff_ne.mpr c2
   by_cases c3:a1_0=2
   rotate_left
   ·exact absurd hA.out c3
   rw[if_pos c3]at H
   have c3b0:(a1_0==2)=true:=beq_iff_eq.mpr c3
   have c3b1:(a1_0 !=2)=false:=bne_eq_false_iff_eq.mpr c3
   clear c3
   obtain⟨⟨t15,t16,t17,t18,t19,t20,t21,t22⟩,A2,H⟩:=bnd H
   dsimp only at H
   have HC3:=C H
   clear H
   have hnb6:=NB2_830.out
   have hnc6:=NB1_831.out
   have hnb7:=NB2_832.out
   have hnc7:=NB3_831.out
   have hnb8:=NB2_853.out
   have hnc8:=NB4_831.out
   have h_:=d4 BK2.out;(repeat(obtain⟨_,h_⟩:=h_))
   have hnb9:=NB1_832.out
   have hnc9:=NB3_830.out
   have hnb10:=NB1_853.out
   have hnc10:=NB4_830.out
   have h_:=d14 BK1.out;(repeat(obtain⟨_,h_⟩:=h_))
   go_upto_region 11 with(first|((with_reducible refine F (f:=86) rfl ?_);refine gl 86 (some 43) Tryd.func86 #[L A0_0 l0_0.length c0_0] ?_;(with_reducible refine(impl_TakeJob.calls kj3 _ _ l0_0 t15 t16 t17 t18 t19 t20 t21 t22 _ ?side1 ?side2 A2.out).mono ?_);(case side1=>exact uC (Z HR1_0.out HB.out));(case side2=>exact HC1_0.out);rintro e w7 ⟨v4,rfl,ho1,hb⟩;refine⟨_,rfl,?_⟩;have HO4:=C (Kd.R_lower (Kd.R_new' ho1 (Kd.R_lt (uR HO_1.out))) (below_size uB));replace HO_1:=C (Kd.R_elder' (uR HO_1.out) (Kd.R_base ho1) hb);replace HO_2:=eR HO_2 hb;replace HO_3:=eR HO_3 hb;replace BK1:=eK BK1 hb;replace BK2:=eK BK2 hb;replace BK3:=eK BK3 hb;replace BK4:=eK BK4 hb;replace HB:=eB hb;clear hb ho1)|((with_reducible refine gate_dst (N:=9) rfl ?_);refine Fix.be 9 #[V I 0,V I 0,V I 0,O false,V I 0,O false] 40 ?_;intro gb5 hg w8 BK5 hb;have GW5:D (w.heap.size≤gb5):=gE hg;have GE5:=GW5;have NB1_877:=nL hg BK1;have NB5_830:=nG hg BK1;have NB2_877:=nL hg BK2;have NB5_831:=nG hg BK2;have NB3_877:=nL hg BK3;have NB5_832:=nG hg BK3;have NB4_877:=nL hg BK4;have NB5_853:=nG hg BK4;replace HO_1:=C (T (Kd.R_elderB (uR HO_1.out) gb5 (Nat.le_of_eq hg.symm)) hb);replace HO_2:=eR HO_2 hb;replace HO_3:=eR HO_3 hb;replace HO4:=C (T (Kd.R_elderB (uR HO4.out) gb5 (Nat.le_of_eq hg.symm)) hb);replace BK1:=eK BK1 hb;replace BK2:=eK BK2 hb;replace BK3:=eK BK3 hb;replace BK4:=eK BK4 hb;replace HB:=eB hb;clear hb hg;have hnb11:=NB5_830.out;have hnc11:=NB1_877.out;have hnb12:=NB5_831.out;have hnc12:=NB2_877.out;have hnb13:=NB5_832.out;have hnc13:=NB3_877.out;have hnb14:=NB5_853.out;have hnc14:=NB4_877.out;have h_:=d6 BK5.out;(repeat(obtain⟨_,h_⟩:=h_))))
   (try simp only[Act.put,List.setIfInBounds_toArray,List.set_cons_zero,List.set_cons_succ])
   go_cut [59] (fun v59 wc=>∃(kq:Nat) (x2_75:Bool),v59=O x2_75∧D (impl_DoAct.j1 kq t15 x2_75 l0_0 a0_1 a0_2 a0_3 a0_4 a0_5 a0_6 a0_7 a0_8 l0_9 l0_10 a0_11 a0_12 a0_13 t1 t2 t3 t4 t5 t6 t7 t8 t9 t10 t11 t12 t13 t14 t16 t17 t18 t19 t20 t21=some (r1,r2,r3,r4,r5,r6,r7,r8,r9,r10,r11,r12,r13,r14,r15))∧D (kq≤kj3)∧D (Kd.R k40 40 wc w.heap.size (fun k_=>some k_≠Fix.o Ao1 t1.length co1∧k_≠gb5) v4 t15)∧D (Kd.R k40 40 wc w.heap.size (fun k_=>qm k_ v4∧k_≠gb5) (L Ao1 t1.length co1) t1)∧D (Kd.R (Kd.int .i64) 3 wc w.heap.size (fun k_=>some k_≠Fix.o Ao3 t11.length co3) (L Ao2 t10.length co2) t10)∧D (Kd.R (Kd.int .i64) 3 wc w.heap.size (fun k_=>some k_≠Fix.o Ao2 t10.length co2) (L Ao3 t11.length co3) t11)∧D (wc.heap[gb1]? =some (.cells #[(L A0_0 l0_0.length c0_0),V I a0_1,V I a0_2,V I a0_3,O a0_4,V I a0_5,O a0_6,V I a0_7,V I a0_8,(L A0_9 l0_9.length c0_9),(L A0_10 l0_10.length c0_10),V I a0_11,O a0_12,V I a0_13] 45 (0,0)))∧D (wc.heap[gb2]? =some (.cells #[V I a1_0,V I a1_1,V I a1_2,V I a1_3] 26 (0,0)))∧D (wc.heap[gb3]? =some (.cells #[(L none 0 0),V I 0,V I 0,V I 0,O false,V I 0,O false,V I 0,V I 0,(L none 0 0),(L none 0 0),V I 0,O false,V I 0] 45 (0,0)))∧D (wc.heap[gb4]? =some (.cells #[(L Ao1 t1.length co1),V I t2,V I t3,V I t4,O t5,V I t6,O t7,V I t8,V I t9,(L Ao2 t10.length co2),(L Ao3 t11.length co3),V I t12,O t13,V I t14] 45 (0,0)))∧D (wc.heap[gb5]? =some (.cells #[V I t16,V I t17,V I t18,O t19,V I t20,O t21] 40 (0,0)))∧D (Below w.heap.size w wc))
   case first=>
    have H:=HC3.out
    clear HC3
    obtain⟨t23,A3,H⟩:=bnd H
    by_cases c4:t23=true
    ·subst c4
     rw[if_pos rfl]at H
     by_cases c5:t22=true
     ·subst c5
      rw[if_pos rfl]at H
      obtain⟨t24,A4,H⟩:=bnd H
      have H':=C H
      clear H
      have hnb15:=NB1_831.out
      have hnc15:=NB2_830.out
      have hnb16:=NB1_832.out
      have hnc16:=NB3_830.out
      have hnb17:=NB1_853.out
      have hnc17:=NB4_830.out
      have hnb18:=NB1_877.out
      have hnc18:=NB5_830.out
      have h_:=d14 BK1.out;(repeat(obtain⟨_,h_⟩:=h_))
      exact impl_DoAct.W1
     replace c5:=Bool.eq_false_iff.mpr c5
     subst c5
     rw[if_neg Bool.false_ne_true]at H
     have H':=C H
     clear H
     have hnb15:=NB1_831.out
     have hnc15:=NB2_830.out
     have hnb16:=NB1_832.out
     have hnc16:=NB3_830.out
     have hnb17:=NB1_853.out
     have hnc17:=NB4_830.out
     have hnb18:=NB1_877.out
     have hnc18:=NB5_830.out
     have h_:=d14 BK1.out;(repeat(obtain⟨_,h_⟩:=h_))
     exact impl_DoAct.W2
    replace c4:=Bool.eq_false_iff.mpr c4
    subst c4
    rw[if_neg Bool.false_ne_true]at H
    have H':=C H
    clear H
    have hnb15:=NB1_831.out
    have hnc15:=NB2_830.out
    have hnb16:=NB1_832.out
    have hnc16:=NB3_830.out
    have hnb17:=NB1_853.out
    have hnc17:=NB4_830.out
    have hnb18:=NB1_877.out
    have hnc18:=NB5_830.out
    have h_:=d14 BK1.out;(repeat(obtain⟨_,h_⟩:=h_))
    go_wp2_with (first|((with_reducible refine F (f:=87) rfl ?_);refine gl 87 (some 49) Tryd.func87 #[G #[V I a0_7,V I a0_8,L A0_9 l0_9.length c0_9,L A0_10 l0_10.length c0_10,V I a0_11,O a0_12]] ?_;(with_reducible refine(impl_IsDone.calls kj3 a0_7 a0_8 _ _ l0_9 _ _ l0_10 a0_11 a0_12 false _ ?side1 ?side2 ?side3 ?side4 A3.out).mono ?_);(case side1=>exact Z HR1_9.out uB);(case side2=>exact HC1_9.out);(case side3=>exact Z HR1_10.out uB);(case side4=>exact HC1_10.out);rintro e w9 ⟨rfl,hb⟩;refine⟨_,rfl,?_⟩;replace HO_1:=C (T (X (fR (X HO_1.out (fun k_ hk=>(⟨hk,hk.2⟩:_∧k_≠gb5)))) (fun _ h_=>h_.1)) hb);replace HO_2:=C (T (X (fR (Y HO_2.out BK5.out (by decide))) (fun _ h_=>h_.1)) hb);replace HO_3:=C (T (X (fR (Y HO_3.out BK5.out (by decide))) (fun _ h_=>h_.1)) hb);replace HO4:=C (T (X (fR (X HO4.out (fun k_ hk=>(⟨hk,hk.2⟩:_∧k_≠gb5)))) (fun _ h_=>h_.1)) hb);replace BK1:=eK BK1 hb;replace BK2:=eK BK2 hb;replace BK3:=eK BK3 hb;replace BK4:=eK BK4 hb;replace BK5:=C (blk_below (g:=gb5) (o:=.cells #[V I t16,V I t17,V I t18,O t19,V I t20,O t21] 40 (0,0)) (bK BK5.out) hb);replace HB:=eB hb;clear hb))
    go_meet
    case rel=>exact⟨_,(true),rS,H',⟨by have:=HJ1.out;first|omega|exact Nat.le_refl _⟩,⟨X (fR HO4.out) (fun _ hk=>⟨hk.1.2,hk.2⟩)⟩,⟨X (fR HO_1.out) (fun _ hk=>⟨hk.1.2,hk.2⟩)⟩,⟨fR HO_2.out⟩,⟨fR HO_3.out⟩,⟨bK BK1.out⟩,⟨bK BK2.out⟩,⟨bK BK3.out⟩,⟨bK BK4.out⟩,⟨bK BK5.out⟩,⟨uB⟩⟩
   case rest=>
    clear HC3
    obtain⟨kq,x2_75,rfl,HA,HJ2,HO_4,HO_1,HO_2,HO_3,BK1,BK2,BK3,BK4,BK5,HB⟩:=hcut
    cases kq with
    |zero=>exact absurd HA.out (by simp[impl_DoAct.j1])
    |succ kj75=>
     have H:=HA.out
     clear HA
     simp only[impl_DoAct.j1]at H
     by_cases c4:x2_75=true
     ·subst c4
      rw[if_pos rfl]at H
      simp only[Option.some.injEq,Prod.mk.injEq]at H
      obtain⟨rfl,rfl,rfl,rfl,rfl,rfl,rfl,rfl,rfl,rfl,rfl,rfl,rfl,rfl,rfl⟩:=H
      have hnb15:=NB4_830.out
      have hnc15:=NB1_853.out
      have hnb16:=NB4_831.out
      have hnc16:=NB2_853.out
      have hnb17:=NB4_832.out
      have hnc17:=NB3_853.out
      have hnb18:=NB4_877.out
      have hnc18:=NB5_853.out
      have h_:=d14 BK4.out;(repeat(obtain⟨_,h_⟩:=h_))
      have hnb19:=NB3_830.out
      have hnc19:=NB1_832.out
      have hnb20:=NB3_831.out
      have hnc20:=NB2_832.out
      have hnb21:=NB3_877.out
      have hnc21:=NB5_832.out
      have h_:=d14 BK3.out;(repeat(obtain⟨_,h_⟩:=h_))
      exact impl_DoAct.W3
     replace c4:=Bool.eq_false_iff.mpr c4
     subst c4
     rw[if_neg Bool.false_ne_true]at H
     obtain⟨ji1,hji1⟩:∃j_:Int,(mn 100000 (wrap64 (a0_13+(l0_10.length:Int))))=j_:=⟨_,rfl⟩
     replace H:((impl_JobSheets.f kj75 t16 t17 t18 t19 t20 t21).bind fun t23=>((impl_NewLine.f t23).bind fun bt881=>(some (t15,t16,t17,t18,t19,t20,t21,bt881.1,bt881.2.1,bt881.2.2.1,bt881.2.2.2.1,bt881.2.2.2.2.1,bt881.2.2.2.2.2.1,ji1,t16))))=some (r1,r2,r3,r4,r5,r6,r7,r8,r9,r10,r11,r12,r13,r14,r15):=by first|(rw[hji1]at H;exact H)|(simp only[hji1]at H ⊢;exact H)
     have hji1_:(if(wrap64 (a0_13+(l0_10.length:Int)))<100000 then(wrap64 (a0_13+(l0_10.length:Int))) else 100000)=ji1:=hji1
     obtain⟨t23,A3,H⟩:=bnd H
     obtain⟨⟨t24,t25,t26,t27,t28,t29,t30⟩,A4,H⟩:=bnd H
     dsimp only at H
     simp only[Option.some.injEq,Prod.mk.injEq]at H
     obtain⟨rfl,rfl,rfl,rfl,rfl,rfl,rfl,rfl,rfl,rfl,rfl,rfl,rfl,rfl,rfl⟩:=H
     have hnb15:=NB1_831.out
     have hnc15:=NB2_830.out
     have hnb16:=NB1_832.out
     have hnc16:=NB3_830.out
     have hnb17:=NB1_853.out
     have hnc17:=NB4_830.out
     have hnb18:=NB1_877.out
     have hnc18:=NB5_830.out
     have h_:=d14 BK1.out;(repeat(obtain⟨_,h_⟩:=h_))
     have hnb19:=NB4_831.out
     have hnc19:=NB2_853.out
     have hnb20:=NB4_832.out
     have hnc20:=NB3_853.out
     have hnb21:=NB4_877.out
     have hnc21:=NB5_853.out
     have h_:=d14 BK4.out;(repeat(obtain⟨_,h_⟩:=h_))
     try go_wp2
     obtain⟨w9,hw⟩:∃w_,w_=wc.setCell ⟨gb4,13,none⟩ (V I ji1):=⟨_,rfl⟩
     (try rw[←hw])
     replace HO_4:=wR hw (Y HO_4.out BK4.out (by decide))
     replace HO_1:=wR hw (Y HO_1.out BK4.out (by decide))
     replace HO_2:=wR hw (Y HO_2.out BK4.out (by decide))
     replace HO_3:=wR hw (Y HO_3.out BK4.out (by decide))
     replace BK1:=wK hw BK1
     replace BK2:=wK hw BK2
     replace BK3:=wK hw BK3
     replace BK4:D (w9.heap[gb4]? =some (.cells #[L Ao1 t1.length co1,V I t2,V I t3,V I t4,O t5,V I t6,O t7,V I t8,V I t9,L Ao2 t10.length co2,L Ao3 t11.length co3,V I t12,O t13,V I ji1] 45 (0,0))):=⟨(by rw[hw];exact(bK BK4.out))⟩
     replace BK5:=wK hw BK5
     replace HB:=wB hw
     clear hw
     replace HO_4:=dR HO_4
     replace HO_1:=dR HO_1
     replace HO_2:=dR HO_2
     replace HO_3:=dR HO_3
     replace BK1:=dK BK1
     replace BK2:=dK BK2
     replace BK3:=dK BK3
     replace BK4:=dK BK4
     replace BK5:=dK BK5
     replace HB:=dB HB
     obtain⟨Ao4,co4,eo4⟩:=U HO_4.out
     (first|subst eo4|(injection eo4 with f1_ f2_ f3_;have f4_:=f1_.symm;have f5_:=f3_.symm;clear f1_ f2_ f3_;subst f4_;subst f5_))
     refine start_ (n:=6) (S:=fun w'=>cl6 w' gb5 (V I t16) (V I t17) (V I t18) (O t19) (V I t20) (O t21)) (ds:= []) #[false,false,false,false,false,false] (by kernel_rfl) rfl rfl hh (fun hHeld=> ?_)
     generalize w9.drew=w10 at HO_4 HO_1 HO_2 HO_3 BK1 BK2 BK3 BK4 BK5 HB hHeld ⊢
     refine pu 0 (some 70) ?_
     refine pu 2 (some 72) ?_
     refine tu 1 (some 71) hHeld ?_
     refine ou 3 (none) (fun K hK=> ?_)
     have hs1:w10.cell? ⟨gb4,0,none⟩=some (L Ao1 t1.length co1):=(blk_cell BK4.out 0).trans rfl
     have hfs1:=blk_frozen BK4.out 0
     have hns1_0:=NB1_853.out
     have hns1_1:=NB2_853.out
     have hns1_2:=NB3_853.out
     have hns1_4:=NB5_853.out
     have hms1_0:=NB4_830.out
     have hms1_1:=NB4_831.out
     have hms1_2:=NB4_832.out
     have hms1_4:=NB4_877.out
     refine skip_ (w1:= ?_) (by rfl) rfl ?_ ?_
     rotate_left
     ·go_simp
      rfl
     refine hK.out _ _ (cs6 (fun _ _=>cf1 NB5_853.out) hHeld) (fun hHeld=> ?_)
     clear hK K
     refine pu 4 (some 73) ?_
     refine ou 5 (none) (fun K hK=> ?_)
     have hs2:w10.cell? ⟨gb4,1,none⟩=some (V I t2):=(blk_cell BK4.out 1).trans rfl
     have hfs2:=blk_frozen BK4.out 1
     have hns2_0:=NB1_853.out
     have hns2_1:=NB2_853.out
     have hns2_2:=NB3_853.out
     have hns2_4:=NB5_853.out
     have hms2_0:=NB4_830.out
     have hms2_1:=NB4_831.out
     have hms2_2:=NB4_832.out
     have hms2_4:=NB4_877.out
     have hs3:w10.cell? ⟨gb4,2,none⟩=some (V I t3):=(blk_cell BK4.out 2).trans rfl
     have hfs3:=blk_frozen BK4.out 2
     have hns3_0:=NB1_853.out
     have hns3_1:=NB2_853.out
     have hns3_2:=NB3_853.out
     have hns3_4:=NB5_853.out
     have hms3_0:=NB4_830.out
     have hms3_1:=NB4_831.out
     have hms3_2:=NB4_832.out
     have hms3_4:=NB4_877.out
     have hs4:w10.cell? ⟨gb4,3,none⟩=some (V I t4):=(blk_cell BK4.out 3).trans rfl
     have hfs4:=blk_frozen BK4.out 3
     have hns4_0:=NB1_853.out
     have hns4_1:=NB2_853.out
     have hns4_2:=NB3_853.out
     have hns4_4:=NB5_853.out
     have hms4_0:=NB4_830.out
     have hms4_1:=NB4_831.out
     have hms4_2:=NB4_832.out
     have hms4_4:=NB4_877.out
     have hs5:w10.cell? ⟨gb4,4,none⟩=some (O t5):=(blk_cell BK4.out 4).trans rfl
     have hfs5:=blk_frozen BK4.out 4
     have hns5_0:=NB1_853.out
     have hns5_1:=NB2_853.out
     have hns5_2:=NB3_853.out
     have hns5_4:=NB5_853.out
     have hms5_0:=NB4_830.out
     have hms5_1:=NB4_831.out
     have hms5_2:=NB4_832.out
     have hms5_4:=NB4_877.out
     have hs6:w10.cell? ⟨gb4,5,none⟩=some (V I t6):=(blk_cell BK4.out 5).trans rfl
     have hfs6:=blk_frozen BK4.out 5
     have hns6_0:=NB1_853.out
     have hns6_1:=NB2_853.out
     have hns6_2:=NB3_853.out
     have hns6_4:=NB5_853.out
     have hms6_0:=NB4_830.out
     have hms6_1:=NB4_831.out
     have hms6_2:=NB4_832.out
     have hms6_4:=NB4_877.out
     have hs7:w10.cell? ⟨gb4,6,none⟩=some (O t7):=(blk_cell BK4.out 6).trans rfl
     have hfs7:=blk_frozen BK4.out 6
     have hns7_0:=NB1_853.out
     have hns7_1:=NB2_853.out
     have hns7_2:=NB3_853.out
     have hns7_4:=NB5_853.out
     have hms7_0:=NB4_830.out
     have hms7_1:=NB4_831.out
     have hms7_2:=NB4_832.out
     have hms7_4:=NB4_877.out
     refine skip_ (w1:= ?_) (by rfl) rfl ?_ ?_
     rotate_left
     ·go_simp
      rfl
     refine hK.out _ _ (cs6 (fun _ _=>cf6 NB5_853.out) hHeld) (fun hHeld=> ?_)
     clear hK K
     refine done_ (by kernel_rfl) ?_
     have hnb22:=NB5_831.out
     have hnc22:=NB2_877.out
     have hnb23:=NB5_832.out
     have hnc23:=NB3_877.out
     have h_:=d6 BK5.out;(repeat(obtain⟨_,h_⟩:=h_))
     try go_wp2_with (first|((with_reducible refine F (f:=72) rfl ?_);refine gl 72 (some 76) Tryd.func72 #[G #[V I t16,V I t17,V I t18,O t19,V I t20,O t21]] ?_;(with_reducible refine(impl_JobSheets.calls kj75 t16 t17 t18 t19 t20 t21 t23 _ A3.out).mono ?_);rintro e w11 ⟨rfl,hb⟩;refine⟨_,rfl,?_⟩;replace HO_4:=C (T (X (fR (Y HO_4.out BK4.out (by decide))) (fun _ h_=>h_.1)) hb);replace HO_1:=C (T (X (fR (Y HO_1.out BK4.out (by decide))) (fun _ h_=>h_.1)) hb);replace HO_2:=C (T (X (fR (Y HO_2.out BK4.out (by decide))) (fun _ h_=>h_.1)) hb);replace HO_3:=C (T (X (fR (Y HO_3.out BK4.out (by decide))) (fun _ h_=>h_.1)) hb);replace BK1:=eK BK1 hb;replace BK2:=eK BK2 hb;replace BK3:=eK BK3 hb;replace BK4:=C (blk_below (g:=gb4) (o:=.cells #[L Ao4 t15.length co4,V I t16,V I t17,V I t18,O t19,V I t20,O t21,V I t8,V I t9,L Ao2 t10.length co2,L Ao3 t11.length co3,V I t12,O t13,V I ji1] 45 (0,0)) (bK BK4.out) hb);replace BK5:=eK BK5 hb;replace HB:=eB hb;clear hb)|((with_reducible refine F (f:=88) rfl ?_);refine gl 88 (some 77) Tryd.func88 #[V I t23] ?_;(with_reducible refine(impl_NewLine.calls t23 t24 t25 t26 t27 t28 t29 t30 _ A4.out).mono ?_);rintro e w12 ⟨v5,v6,rfl,ho1,ho2,hb⟩;refine⟨_,rfl,?_⟩;have HO5:=C (Kd.R_lower (Kd.R_new' (Kd.R_new' ho1 (Kd.R_lt (uR HO_2.out))) (Kd.R_lt (uR HO_3.out))) (below_size uB));have HO6:=C (Kd.R_lower (Kd.R_new' (Kd.R_new' ho2 (Kd.R_lt (uR HO_2.out))) (Kd.R_lt (uR HO_3.out))) (below_size uB));replace HO_4:=eR HO_4 hb;replace HO_1:=eR HO_1 hb;replace HO_2:=C (X (Kd.R_told (Kd.R_told (Kd.R_old (uR HO_2.out) hb) (Kd.R_base ho1)) (Kd.R_base ho2)) (fun _ h_=>h_.1));replace HO_3:=C (X (Kd.R_told (Kd.R_told (Kd.R_old (uR HO_3.out) hb) (Kd.R_base ho1)) (Kd.R_base ho2)) (fun _ h_=>h_.1));replace BK1:=eK BK1 hb;replace BK2:=eK BK2 hb;replace BK3:=eK BK3 hb;replace BK4:=eK BK4 hb;replace BK5:=eK BK5 hb;replace HB:=eB hb;clear hb ho1 ho2;have h_:=d14 BK4.out;(repeat(obtain⟨_,h_⟩:=h_));obtain⟨Ao5,co5,eo5⟩:=U HO5.out;subst eo5;obtain⟨Ao6,co6,eo6⟩:=U HO6.out;subst eo6))
     obtain⟨w13,hw⟩:∃w_,w_=(((((w12.setCell ⟨gb4,7,none⟩ (V I t24)).setCell ⟨gb4,8,none⟩ (V I t25)).setCell ⟨gb4,9,none⟩ (L Ao5 t26.length co5)).setCell ⟨gb4,10,none⟩ (L Ao6 t27.length co6)).setCell ⟨gb4,11,none⟩ (V I t28)).setCell ⟨gb4,12,none⟩ (O t29):=⟨_,rfl⟩
     (try rw[←hw])
     replace HO_4:=wR hw (Y HO_4.out BK4.out (by decide))
     replace HO_1:=wR hw (Y HO_1.out BK4.out (by decide))
     replace HO_2:D (Kd.R _ _ _ _ (fun k_=>qn k_ Ao3 t11.length co3∧qn k_ Ao5 t26.length co5∧qn k_ Ao6 t27.length co6) _ _):=tR hw (Y HO_2.out BK4.out (by decide)) (fun _ hk=>⟨hk.1.1.1,⟨hk.1.1.2,hk.1.2⟩⟩)
     replace HO_3:D (Kd.R _ _ _ _ (fun k_=>qn k_ Ao2 t10.length co2∧qn k_ Ao5 t26.length co5∧qn k_ Ao6 t27.length co6) _ _):=tR hw (Y HO_3.out BK4.out (by decide)) (fun _ hk=>⟨hk.1.1.1,⟨hk.1.1.2,hk.1.2⟩⟩)
     replace HO5:D (Kd.R _ _ _ _ (fun k_=>qn k_ Ao2 t10.length co2∧qn k_ Ao3 t11.length co3∧qn k_ Ao6 t27.length co6) _ _):=tR hw (Y HO5.out BK4.out (by decide)) (fun _ hk=>⟨hk.1.1.2,⟨hk.1.2,hk.1.1.1⟩⟩)
     replace HO6:D (Kd.R _ _ _ _ (fun k_=>qn k_ Ao2 t10.length co2∧qn k_ Ao3 t11.length co3∧qn k_ Ao5 t26.length co5) _ _):=tR hw (Y HO6.out BK4.out (by decide)) (fun _ hk=>⟨hk.1.1.2,⟨hk.1.2,hk.1.1.1⟩⟩)
     replace BK1:=wK hw BK1
     replace BK2:=wK hw BK2
     replace BK3:=wK hw BK3
     replace BK4:D (w13.heap[gb4]? =some (.cells #[L Ao4 t15.length co4,V I t16,V I t17,V I t18,O t19,V I t20,O t21,V I t24,V I t25,L Ao5 t26.length co5,L Ao6 t27.length co6,V I t28,O t29,V I ji1] 45 (0,0))):=⟨(by rw[hw];exact(bK BK4.out))⟩
     replace BK5:=wK hw BK5
     replace HB:=wB hw
     clear hw
     replace HO_4:=dR HO_4
     replace HO_1:=dR HO_1
     replace HO_2:=dR HO_2
     replace HO_3:=dR HO_3
     replace HO5:=dR HO5
     replace HO6:=dR HO6
     replace BK1:=dK BK1
     replace BK2:=dK BK2
     replace BK3:=dK BK3
     replace BK4:=dK BK4
     replace BK5:=dK BK5
     replace HB:=dB HB
     refine start_ (n:=5) (S:=fun w'=>cr14 w' gb4 (L Ao4 t15.length co4) (V I t16) (V I t17) (V I t18) (O t19) (V I t20) (O t21) (V I t24) (V I t25) (L Ao5 t26.length co5) (L Ao6 t27.length co6) (V I t28) (O t29) (V I ji1) (cl6 w' gb5 (V I t16) (V I t17) (V I t18) (O t19) (V I t20) (O t21))) (ds:= []) #[false,false,false,false,false] (by kernel_rfl) rfl rfl hh (fun hHeld=> ?_)
     generalize w13.drew=w14 at HO_4 HO_1 HO_2 HO_3 HO5 HO6 BK1 BK2 BK3 BK4 BK5 HB hHeld ⊢
     refine pu 1 (some 82) ?_
     refine tu 0 (some 81) hHeld ?_
     refine tu 2 (some 83) hHeld ?_
     refine ou 3 (none) (fun K hK=> ?_)
     obtain⟨hs8,hs9,hs10,hs11,hs12,hs13,hs14,hs15,hs16,hs17,hs18,hs19,hs20,hs21,hfs8,hfs9,hfs10,hfs11,hfs12,hfs13,hfs14,hfs15,hfs16,hfs17,hfs18,hfs19,hfs20,hfs21⟩:=d14 BK3.out
     have hns8_0:=NB1_832.out
     have hns8_1:=NB2_832.out
     have hns8_3:=NB4_832.out
     have hns8_4:=NB5_832.out
     have hms8_0:=NB3_830.out
     have hms8_1:=NB3_831.out
     have hms8_3:=NB3_853.out
     have hms8_4:=NB3_877.out
     refine skip_ (w1:= ?_) (by rfl) rfl ?_ ?_
     rotate_left
     ·go_simp
      rfl
     refine hK.out _ _ ⟨(cf14 NB4_832.out (hHeld.1)),(cf14 NB4_832.out (hHeld.2.1)),(cf14 NB4_832.out (hHeld.2.2.1)),(cf14 NB4_832.out (hHeld.2.2.2.1)),(cf14 NB4_832.out (hHeld.2.2.2.2.1)),(cf14 NB4_832.out (hHeld.2.2.2.2.2.1)),(cf14 NB4_832.out (hHeld.2.2.2.2.2.2.1)),(cf14 NB4_832.out (hHeld.2.2.2.2.2.2.2.1)),(cf14 NB4_832.out (hHeld.2.2.2.2.2.2.2.2.1)),(cf14 NB4_832.out (hHeld.2.2.2.2.2.2.2.2.2.1)),(cf14 NB4_832.out (hHeld.2.2.2.2.2.2.2.2.2.2.1)),(cf14 NB4_832.out (hHeld.2.2.2.2.2.2.2.2.2.2.2.1)),(cf14 NB4_832.out (hHeld.2.2.2.2.2.2.2.2.2.2.2.2.1)),(cf14 NB4_832.out (hHeld.2.2.2.2.2.2.2.2.2.2.2.2.2.1)),(cf14 NB5_832.out (hHeld.2.2.2.2.2.2.2.2.2.2.2.2.2.2.1)),(cf14 NB5_832.out (hHeld.2.2.2.2.2.2.2.2.2.2.2.2.2.2.2.1)),(cf14 NB5_832.out (hHeld.2.2.2.2.2.2.2.2.2.2.2.2.2.2.2.2.1)),(cf14 NB5_832.out (hHeld.2.2.2.2.2.2.2.2.2.2.2.2.2.2.2.2.2.1)),(cf14 NB5_832.out (hHeld.2.2.2.2.2.2.2.2.2.2.2.2.2.2.2.2.2.2.1)),(cf14 NB5_832.out (hHeld.2.2.2.2.2.2.2.2.2.2.2.2.2.2.2.2.2.2.2))⟩ (fun hHeld=> ?_)
     clear hK K
     refine pu 4 (some 5) ?_
     refine done_ (by kernel_rfl) ?_
     try go_wp2
     refine bodyPost_ret (results_ct rfl _ _ gb3 45 #[L Ao4 t15.length co4,V I t16,V I t17,V I t18,O t19,V I t20,O t21,V I t24,V I t25,L Ao5 t26.length co5,L Ao6 t27.length co6,V I t28,O t29,V I ji1] (0,0) _ rfl (bK BK3.out) Tryd.underlying45 rfl (by kernel_rfl)) rfl ?_
     exact⟨_,_,_,by first|rfl|(simp[errW_none,errW_some]<;>rfl)|(simp only[←hji1];first|rfl|(simp[errW_none,errW_some]<;>rfl))|(simp[*,errW_none,errW_some]<;>rfl),X (fR (Y HO_4.out BK3.out (by decide))) (fun _ hk=>trivial),Kd.Q_of_R (X (fR (Y HO5.out BK3.out (by decide))) (fun _ hk=>hk.1.2.2)),X (fR (Y HO6.out BK3.out (by decide))) (fun _ hk=>hk.1.2.2),uB⟩
theorem impl_DoAct.calls (k:Nat) (A0_0:Option Addr) (c0_0:Nat) (l0_0:List (S40)) (a0_1:Int) (a0_2:Int) (a0_3:Int) (a0_4:Bool) (a0_5:Int) (a0_6:Bool) (a0_7:Int) (a0_8:Int) (A0_9:Option Addr) (c0_9:Nat) (l0_9:List Int) (A0_10:Option Addr) (c0_10:Nat) (l0_10:List Int) (a0_11:Int) (a0_12:Bool) (a0_13:Int) (a1_0:Int) (a1_1:Int) (a1_2:Int) (a1_3:Int) (r1:List (S40)) (r2:Int) (r3:Int) (r4:Int) (r5:Bool) (r6:Int) (r7:Bool) (r8:Int) (r9:Int) (r10:List Int) (r11:List Int) (r12:Int) (r13:Bool) (r14:Int) (r15:Int) (w:World) (hr0_0:Kd.C k40 w A0_0 l0_0.length l0_0) (hc0_0:l0_0.length≤c0_0) (hr0_9:Kd.C (Kd.int .i64) w A0_9 l0_9.length l0_9) (hc0_9:l0_9.length≤c0_9) (hr0_10:Kd.C (Kd.int .i64) w A0_10 l0_10.length l0_10) (hc0_10:l0_10.length≤c0_10) (h:impl_DoAct.f k l0_0 a0_1 a0_2 a0_3 a0_4 a0_5 a0_6 a0_7 a0_8 l0_9 l0_10 a0_11 a0_12 a0_13 a1_0 a1_1 a1_2 a1_3=some (r1,r2,r3,r4,r5,r6,r7,r8,r9,r10,r11,r12,r13,r14,r15)):
 Calls Tryd.prog 58 #[G #[L A0_0 l0_0.length c0_0,V I a0_1,V I a0_2,V I a0_3,O a0_4,V I a0_5,O a0_6,V I a0_7,V I a0_8,L A0_9 l0_9.length c0_9,L A0_10 l0_10.length c0_10,V I a0_11,O a0_12,V I a0_13],G #[V I a1_0,V I a1_1,V I a1_2,V I a1_3]] w fun e w'=>∃v0_ v9_ v10_:Value,e=.returned (.tuple #[G #[v0_,V I r2,V I r3,V I r4,O r5,V I r6,O r7,V I r8,V I r9,v9_,v10_,V I r12,O r13,V I r14],V I r15])∧Kd.R k40 40 w' w.heap.size (fun _=>True) v0_ r1∧Kd.Q (Kd.int .i64) 3 w' w.heap.size (fun k_=>qm k_ v10_) v9_ r10∧Kd.R (Kd.int .i64) 3 w' w.heap.size (fun k_=>qm k_ v9_) v10_ r11∧Below w.heap.size w w':=by
 by_cases hA:a1_0=2
 ·exact impl_DoAct.callsA k A0_0 c0_0 l0_0 a0_1 a0_2 a0_3 a0_4 a0_5 a0_6 a0_7 a0_8 A0_9 c0_9 l0_9 A0_10 c0_10 l0_10 a0_11 a0_12 a0_13 a1_0 a1_1 a1_2 a1_3 r1 r2 r3 r4 r5 r6 r7 r8 r9 r10 r11 r12 r13 r14 r15 w hr0_0 hc0_0 hr0_9 hc0_9 hr0_10 hc0_10 h (C hA)
 replace hA:=C hA
 have hu1:=Tryd.underlying45
 have hu2:=Tryd.underlying26
 have hu3:=Tryd.underlying40
 have hu4:=Tryd.underlying43
 have HR1_0:=C hr0_0
 have HC1_0:=C hc0_0
 (try clear hr0_0);(try clear hc0_0)
 have HR1_9:=C hr0_9
 have HC1_9:=C hc0_9
 (try clear hr0_9);(try clear hc0_9)
 have HR1_10:=C hr0_10
 have HC1_10:=C hc0_10
 (try clear hr0_10);(try clear hc0_10)
 have HB:=C (Below.refl w.heap.size w)
 have H:=h
 unfold impl_DoAct.f at H
 clear h
 obtain⟨⟨t1,t2,t3,t4,t5,t6,t7,t8,t9,t10,t11,t12,t13,t14⟩,A1,H⟩:=bnd H
 dsimp only at H
 have HC2:=C H
 clear H
 go_enter Tryd.func58,Tryd.ntmps58
 go_upto_region 2 with(first|((with_reducible refine gate_dst (N:=2) rfl ?_);refine Fix.be 2 #[L A0_0 l0_0.length c0_0,V I a0_1,V I a0_2,V I a0_3,O a0_4,V I a0_5,O a0_6,V I a0_7,V I a0_8,L A0_9 l0_9.length c0_9,L A0_10 l0_10.length c0_10,V I a0_11,O a0_12,V I a0_13] 45 ?_;intro gb1 hg w2 BK1 hb;have GW1:D (w.heap.size≤gb1):=gE hg;have GE1:=GW1;replace HB:=eB hb;clear hb hg)|((with_reducible refine gate_dst (N:=3) rfl ?_);refine Fix.be 3 #[V I a1_0,V I a1_1,V I a1_2,V I a1_3] 26 ?_;intro gb2 hg w3 BK2 hb;have GW2:D (w.heap.size≤gb2):=gE hg;have GE2:=GW2;have NB1_831:=nL hg BK1;have NB2_830:=nG hg BK1;replace BK1:=eK BK1 hb;replace HB:=eB hb;clear hb hg)|((with_reducible refine gate_dst (N:=4) rfl ?_);refine Fix.be 4 #[L none 0 0,V I 0,V I 0,V I 0,O false,V I 0,O false,V I 0,V I 0,L none 0 0,L none 0 0,V I 0,O false,V I 0] 45 ?_;intro gb3 hg w4 BK3 hb;have GW3:D (w.heap.size≤gb3):=gE hg;have GE3:=GW3;have NB1_832:=nL hg BK1;have NB3_830:=nG hg BK1;have NB2_832:=nL hg BK2;have NB3_831:=nG hg BK2;replace BK1:=eK BK1 hb;replace BK2:=eK BK2 hb;replace HB:=eB hb;clear hb hg;have hnb1:=NB1_831.out;have hnc1:=NB2_830.out;have hnb2:=NB1_832.out;have hnc2:=NB3_830.out;have h_:=d14 BK1.out;(repeat(obtain⟨_,h_⟩:=h_)))|((with_reducible refine F (f:=57) rfl ?_);refine gl 57 (some 12) Tryd.func57 #[G #[L A0_0 l0_0.length c0_0,V I a0_1,V I a0_2,V I a0_3,O a0_4,V I a0_5,O a0_6,V I a0_7,V I a0_8,L A0_9 l0_9.length c0_9,L A0_10 l0_10.length c0_10,V I a0_11,O a0_12,V I a0_13]] ?_;(with_reducible refine(impl_copyMachine.calls _ _ l0_0 a0_1 a0_2 a0_3 a0_4 a0_5 a0_6 a0_7 a0_8 _ _ l0_9 _ _ l0_10 a0_11 a0_12 a0_13 t1 t2 t3 t4 t5 t6 t7 t8 t9 t10 t11 t12 t13 t14 _ ?side1 ?side2 ?side3 ?side4 ?side5 ?side6 A1.out).mono ?_);(case side1=>exact uC (Z HR1_0.out HB.out));(case side2=>exact HC1_0.out);(case side3=>exact uC (Z HR1_9.out HB.out));(case side4=>exact HC1_9.out);(case side5=>exact uC (Z HR1_10.out HB.out));(case side6=>exact HC1_10.out);rintro e w5 ⟨v1,v2,v3,rfl,ho1,ho2,ho3,hb⟩;refine⟨_,rfl,?_⟩;have HO1:=lR ho1;have HO2:=lR ho2;have HO3:=lR ho3;replace BK1:=eK BK1 hb;replace BK2:=eK BK2 hb;replace BK3:=eK BK3 hb;replace HB:=eB hb;clear hb ho1 ho2 ho3)|((with_reducible refine gate_dst (N:=6) rfl ?_);refine Fix.be 6 #[L none 0 0,V I 0,V I 0,V I 0,O false,V I 0,O false,V I 0,V I 0,L none 0 0,L none 0 0,V I 0,O false,V I 0] 45 ?_;intro gb4 hg w6 BK4 hb;have GW4:D (w.heap.size≤gb4):=gE hg;have GE4:=GW4;have NB1_853:=nL hg BK1;have NB4_830:=nG hg BK1;have NB2_853:=nL hg BK2;have NB4_831:=nG hg BK2;have NB3_853:=nL hg BK3;have NB4_832:=nG hg BK3;replace HO1:=eR HO1 hb;replace HO2:=eR HO2 hb;replace HO3:=eR HO3 hb;replace BK1:=eK BK1 hb;replace BK2:=eK BK2 hb;replace BK3:=eK BK3 hb;replace HB:=eB hb;clear hb hg;obtain⟨Ao1,co1,eo1⟩:=U HO1.out;subst eo1;have hnb3:=NB4_830.out;have hnc3:=NB1_853.out;have hnb4:=NB4_831.out;have hnc4:=NB2_853.out;have hnb5:=NB4_832.out;have hnc5:=NB3_853.out;have h_:=d14 BK4.out;(repeat(obtain⟨_,h_⟩:=h_));obtain⟨Ao2,co2,eo2⟩:=U HO2.out;subst eo2;obtain⟨Ao3,co3,eo3⟩:=U HO3.out;subst eo3))
 (try simp only[Act.put,List.setIfInBounds_toArray,List.set_cons_zero,List.set_cons_succ])
 go_cut [20] (fun v20 wc=>∃(kq:Nat) (x1_3:Bool),v20=O x1_3∧D (impl_DoAct.j0 kq x1_3 l0_0 a0_1 a0_2 a0_3 a0_4 a0_5 a0_6 a0_7 a0_8 l0_9 l0_10 a0_11 a0_12 a0_13 a1_0 a1_1 a1_2 a1_3 t1 t2 t3 t4 t5 t6 t7 t8 t9 t10 t11 t12 t13 t14=some (r1,r2,r3,r4,r5,r6,r7,r8,r9,r10,r11,r12,r13,r14,r15))∧D (kq≤k)∧D (Kd.R k40 40 wc w.heap.size (fun _=>True) (L Ao1 t1.length co1) t1)∧D (Kd.R (Kd.int .i64) 3 wc w.heap.size (fun k_=>some k_≠Fix.o Ao3 t11.length co3) (L Ao2 t10.length co2) t10)∧D (Kd.R (Kd.int .i64) 3 wc w.heap.size (fun k_=>some k_≠Fix.o Ao2 t10.length co2) (L Ao3 t11.length co3) t11)∧D (wc.heap[gb1]? =some (.cells #[(L A0_0 l0_0.length c0_0),V I a0_1,V I a0_2,V I a0_3,O a0_4,V I a0_5,O a0_6,V I a0_7,V I a0_8,(L A0_9 l0_9.length c0_9),(L A0_10 l0_10.length c0_10),V I a0_11,O a0_12,V I a0_13] 45 (0,0)))∧D (wc.heap[gb2]? =some (.cells #[V I a1_0,V I a1_1,V I a1_2,V I a1_3] 26 (0,0)))∧D (wc.heap[gb3]? =some (.cells #[(L none 0 0),V I 0,V I 0,V I 0,O false,V I 0,O false,V I 0,V I 0,(L none 0 0),(L none 0 0),V I 0,O false,V I 0] 45 (0,0)))∧D (wc.heap[gb4]? =some (.cells #[(L Ao1 t1.length co1),V I t2,V I t3,V I t4,O t5,V I t6,O t7,V I t8,V I t9,(L Ao2 t10.length co2),(L Ao3 t11.length co3),V I t12,O t13,V I t14] 45 (0,0)))∧D (Below w.heap.size w wc))
 case first=>
  have H:=HC2.out
  clear HC2
  obtain⟨t15,A2,H⟩:=bnd H
  by_cases c1:t15=true
  ·subst c1
   rw[if_pos rfl]at H
   obtain⟨t16,A3,H⟩:=bnd H
   have H':=C H
   clear H
   have hnb6:=NB1_831.out
   have hnc6:=NB2_830.out
   have hnb7:=NB1_832.out
   have hnc7:=NB3_830.out
   have hnb8:=NB1_853.out
   have hnc8:=NB4_830.out
   have h_:=d14 BK1.out;(repeat(obtain⟨_,h_⟩:=h_))
   exact impl_DoAct.W1
  replace c1:=Bool.eq_false_iff.mpr c1
  subst c1
  rw[if_neg Bool.false_ne_true]at H
  have H':=C H
  clear H
  have hnb6:=NB1_831.out
  have hnc6:=NB2_830.out
  have hnb7:=NB1_832.out
  have hnc7:=NB3_830.out
  have hnb8:=NB1_853.out
  have hnc8:=NB4_830.out
  have h_:=d14 BK1.out;(repeat(obtain⟨_,h_⟩:=h_))
  exact impl_DoAct.W2
 case rest=>
  clear HC2
  obtain⟨kq,x1_3,rfl,HA,HJ1,HO_1,HO_2,HO_3,BK1,BK2,BK3,BK4,HB⟩:=hcut
  cases kq with
  |zero=>exact absurd HA.out (by simp[impl_DoAct.j0])
  |succ kj3=>
   have H:=HA.out
   clear HA
   simp only[impl_DoAct.j0]at H
   by_cases c1:x1_3=true
   ·subst c1
    rw[if_pos rfl]at H
    simp only[Option.some.injEq,Prod.mk.injEq]at H
    obtain⟨rfl,rfl,rfl,rfl,rfl,rfl,rfl,rfl,rfl,rfl,rfl,rfl,rfl,rfl,rfl⟩:=H
    have hnb6:=NB4_830.out
    have hnc6:=NB1_853.out
    have hnb7:=NB4_831.out
    have hnc7:=NB2_853.out
    have hnb8:=NB4_832.out
    have hnc8:=NB3_853.out
    have h_:=d14 BK4.out;(repeat(obtain⟨_,h_⟩:=h_))
    have hnb9:=NB3_830.out
    have hnc9:=NB1_832.out
    have hnb10:=NB3_831.out
    have hnc10:=NB2_832.out
    have h_:=d14 BK3.out;(repeat(obtain⟨_,h_⟩:=h_))
    exact impl_DoAct.W3
   replace c1:=Bool.eq_false_iff.mpr c1
   subst c1
   rw[if_neg Bool.false_ne_true]at H
   by_cases c2:a1_0=1
   ·rw[if_pos c2]at H
    have c2b0:(a1_0==1)=true:=beq_iff_eq.mpr c2
    have c2b1:(a1_0 !=1)=false:=bne_eq_false_iff_eq.mpr c2
    clear c2
    obtain⟨⟨t15,t16,t17,t18,t19,t20⟩,A2,H⟩:=bnd H
    dsimp only at H
    obtain⟨⟨t21,t22⟩,A3,H⟩:=bnd H
    dsimp only at H
    obtain⟨t23,A4,H⟩:=bnd H
    simp only[Option.some.injEq,Prod.mk.injEq]at H
    obtain⟨rfl,rfl,rfl,rfl,rfl,rfl,rfl,rfl,rfl,rfl,rfl,rfl,rfl,rfl,rfl⟩:=H
    have hnb6:=NB2_830.out
    have hnc6:=NB1_831.out
    have hnb7:=NB2_832.out
    have hnc7:=NB3_831.out
    have hnb8:=NB2_853.out
    have hnc8:=NB4_831.out
    have h_:=d4 BK2.out;(repeat(obtain⟨_,h_⟩:=h_))
    try go_wp2
    replace HO_1:=dR HO_1
    replace HO_2:=dR HO_2
    replace HO_3:=dR HO_3
    replace BK1:=dK BK1
    replace BK2:=dK BK2
    replace BK3:=dK BK3
    replace BK4:=dK BK4
    replace HB:=dB HB
    refine start_ (n:=11) (S:=fun w'=>cr14 w' gb1 (L A0_0 l0_0.length c0_0) (V I a0_1) (V I a0_2) (V I a0_3) (O a0_4) (V I a0_5) (O a0_6) (V I a0_7) (V I a0_8) (L A0_9 l0_9.length c0_9) (L A0_10 l0_10.length c0_10) (V I a0_11) (O a0_12) (V I a0_13) (cl4 w' gb2 (V I a1_0) (V I a1_1) (V I a1_2) (V I a1_3))) (ds:= []) #[false,false,false,false,false,false,false,false,false,false,false] (by kernel_rfl) rfl rfl hh (fun hHeld=> ?_);refine with_tabW impl_DoAct.tab7 impl_DoAct.bits7 (fun HT_ HW_=> ?_)
    generalize wc.drew=w7 at HO_1 HO_2 HO_3 BK1 BK2 BK3 BK4 HB hHeld ⊢
    refine pu 0 (some 27) ?_
    refine tu 1 (some 28) hHeld ?_
    refine tu 2 (some 29) hHeld ?_
    refine ou 3 (some 30) (fun K hK=> ?_)
    refine gs Tryd.func66 #[G #[V I a1_0,V I a1_1,V I a1_2,V I a1_3]] ?_
    with_reducible refine(impl_jobOf.calls a1_0 a1_1 a1_2 a1_3 t15 t16 t17 t18 t19 t20 _ A2.out).mono ?_
    rintro e w8 ⟨rfl,hb⟩
    refine⟨_,rfl,?_⟩
    replace HO_1:=eR HO_1 hb
    replace HO_2:=eR HO_2 hb
    replace HO_3:=eR HO_3 hb
    replace BK1:=eK BK1 hb
    replace BK2:=eK BK2 hb
    replace BK3:=eK BK3 hb
    replace BK4:=eK BK4 hb
    replace HB:=eB hb
    (try clear hb)
    refine hK.out _ _ hh (fun hHeld=> ?_)
    clear hK K
    refine nu (N:=(some 30)) ?_
    refine ou 4 (some 31) (fun K hK=> ?_)
    refine gs Tryd.func84 #[L A0_0 l0_0.length c0_0,G #[V I t15,V I t16,V I t17,O t18,V I t19,O t20]] ?_
    with_reducible refine(impl_AddJob.calls kj3 _ _ l0_0 t15 t16 t17 t18 t19 t20 t21 t22 _ ?side1 ?side2 A3.out).mono ?_
    (case side1=>exact uC (Z HR1_0.out HB.out))
    (case side2=>exact HC1_0.out)
    rintro e w9 ⟨v4,rfl,ho1,hb⟩
    refine⟨_,rfl,?_⟩
    have HO4:=C (Kd.R_lower (Kd.R_new' ho1 (Kd.R_lt (uR HO_1.out))) (below_size uB))
    replace HO_1:=C (Kd.R_elder' (uR HO_1.out) (Kd.R_base ho1) hb)
    replace HO_2:=eR HO_2 hb
    replace HO_3:=eR HO_3 hb
    replace BK1:=eK BK1 hb
    replace BK2:=eK BK2 hb
    replace BK3:=eK BK3 hb
    replace BK4:=eK BK4 hb
    replace HB:=eB hb
    (try clear hb)
    obtain⟨Ao4,co4,eo4⟩:=U HO4.out
    (first|subst eo4|(injection eo4 with f1_ f2_ f3_;have f4_:=f1_.symm;have f5_:=f3_.symm;clear f1_ f2_ f3_;subst f4_;subst f5_))
    refine hK.out _ _ hh (fun hHeld=> ?_)
    clear hK K
    refine nu (N:=(some 31)) ?_
    refine pu 5 (some 26) ?_
    refine pu 6 (some 32) ?_
    refine pu 7 (some 33) ?_
    refine pu 8 (some 34) ?_
    refine ou 9 (none) (fun K hK=> ?_)
    have hs1:w9.cell? ⟨gb4,0,none⟩=some (L Ao1 t1.length co1):=(blk_cell BK4.out 0).trans rfl
    have hfs1:=blk_frozen BK4.out 0
    have hns1_0:=NB1_853.out
    have hns1_1:=NB2_853.out
    have hns1_2:=NB3_853.out
    have hms1_0:=NB4_830.out
    have hms1_1:=NB4_831.out
    have hms1_2:=NB4_832.out
    refine skip_ (w1:= ?_) (by rfl) rfl ?_ ?_
    rotate_left
    ·go_simp
     rfl
    refine hK.out _ _ ⟨(cf1 NB1_853.out (hHeld.1)),(cf1 NB1_853.out (hHeld.2.1)),(cf1 NB1_853.out (hHeld.2.2.1)),(cf1 NB1_853.out (hHeld.2.2.2.1)),(cf1 NB1_853.out (hHeld.2.2.2.2.1)),(cf1 NB1_853.out (hHeld.2.2.2.2.2.1)),(cf1 NB1_853.out (hHeld.2.2.2.2.2.2.1)),(cf1 NB1_853.out (hHeld.2.2.2.2.2.2.2.1)),(cf1 NB1_853.out (hHeld.2.2.2.2.2.2.2.2.1)),(cf1 NB1_853.out (hHeld.2.2.2.2.2.2.2.2.2.1)),(cf1 NB1_853.out (hHeld.2.2.2.2.2.2.2.2.2.2.1)),(cf1 NB1_853.out (hHeld.2.2.2.2.2.2.2.2.2.2.2.1)),(cf1 NB1_853.out (hHeld.2.2.2.2.2.2.2.2.2.2.2.2.1)),(cf1 NB1_853.out (hHeld.2.2.2.2.2.2.2.2.2.2.2.2.2.1)),(cf1 NB2_853.out (hHeld.2.2.2.2.2.2.2.2.2.2.2.2.2.2.1)),(cf1 NB2_853.out (hHeld.2.2.2.2.2.2.2.2.2.2.2.2.2.2.2.1)),(cf1 NB2_853.out (hHeld.2.2.2.2.2.2.2.2.2.2.2.2.2.2.2.2.1)),(cf1 NB2_853.out (hHeld.2.2.2.2.2.2.2.2.2.2.2.2.2.2.2.2.2))⟩ (fun hHeld=> ?_)
    clear hK K
    refine pu 10 (some 7) ?_
    refine done_ (done_of HT_.out (by kernel_rfl)) ?_
    try go_wp2
    obtain⟨w10,hw⟩:∃w_,w_=w9.setCell ⟨gb4,0,none⟩ (L Ao4 t21.length co4):=⟨_,rfl⟩
    (try rw[←hw])
    replace HO_1:D (Kd.R _ _ _ _ (fun k_=>qn k_ Ao4 t21.length co4) _ _):=tR hw (Y HO_1.out BK4.out (by decide)) (fun _ hk=>hk.1.2)
    replace HO_2:=wR hw (Y HO_2.out BK4.out (by decide))
    replace HO_3:=wR hw (Y HO_3.out BK4.out (by decide))
    replace HO4:D (Kd.R _ _ _ _ (fun k_=>qn k_ Ao1 t1.length co1) _ _):=tR hw (Y HO4.out BK4.out (by decide)) (fun _ hk=>hk.1.2)
    replace BK1:=wK hw BK1
    replace BK2:=wK hw BK2
    replace BK3:=wK hw BK3
    replace BK4:D (w10.heap[gb4]? =some (.cells #[L Ao4 t21.length co4,V I t2,V I t3,V I t4,O t5,V I t6,O t7,V I t8,V I t9,L Ao2 t10.length co2,L Ao3 t11.length co3,V I t12,O t13,V I t14] 45 (0,0))):=⟨(by rw[hw];exact(bK BK4.out))⟩
    replace HB:=wB hw
    clear hw
    replace HO_1:=dR HO_1
    replace HO_2:=dR HO_2
    replace HO_3:=dR HO_3
    replace HO4:=dR HO4
    replace BK1:=dK BK1
    replace BK2:=dK BK2
    replace BK3:=dK BK3
    replace BK4:=dK BK4
    replace HB:=dB HB
    refine start_ (n:=5) (S:=fun w'=>cl14 w' gb4 (L Ao4 t21.length co4) (V I t2) (V I t3) (V I t4) (O t5) (V I t6) (O t7) (V I t8) (V I t9) (L Ao2 t10.length co2) (L Ao3 t11.length co3) (V I t12) (O t13) (V I t14)) (ds:= []) #[false,false,false,false,false] (by kernel_rfl) rfl rfl hh (fun hHeld=> ?_)
    generalize w10.drew=w11 at HO_1 HO_2 HO_3 HO4 BK1 BK2 BK3 BK4 HB hHeld ⊢
    refine pu 1 (some 36) ?_
    refine tu 0 (some 35) hHeld ?_
    refine ou 2 (some 37) (fun K hK=> ?_)
    refine gs Tryd.func85 #[O t22] ?_
    with_reducible refine(impl_bit.calls t22 t23 _ A4.out).mono ?_
    rintro e w' ⟨rfl,⟨nd,rfl⟩⟩
    refine⟨_,rfl,?_⟩
    refine hK.out _ _ hh (fun hHeld=> ?_)
    clear hK K
    refine nu (N:=(some 37)) ?_
    refine ou 3 (none) (fun K hK=> ?_)
    obtain⟨hs2,hs3,hs4,hs5,hs6,hs7,hs8,hs9,hs10,hs11,hs12,hs13,hs14,hs15,hfs2,hfs3,hfs4,hfs5,hfs6,hfs7,hfs8,hfs9,hfs10,hfs11,hfs12,hfs13,hfs14,hfs15⟩:=d14 BK3.out
    have hns2_0:=NB1_832.out
    have hns2_1:=NB2_832.out
    have hns2_3:=NB4_832.out
    have hms2_0:=NB3_830.out
    have hms2_1:=NB3_831.out
    have hms2_3:=NB3_853.out
    refine skip_ (w1:= ?_) (by rfl) rfl ?_ ?_
    rotate_left
    ·go_simp
     rfl
    refine hK.out _ _ (cs14 (fun _ _=>cf14 NB4_832.out) hHeld) (fun hHeld=> ?_)
    clear hK K
    refine pu 4 (some 5) ?_
    refine done_ (by kernel_rfl) ?_
    try go_wp2
    refine bodyPost_ret (results_ct rfl _ _ gb3 45 #[L Ao4 t21.length co4,V I t2,V I t3,V I t4,O t5,V I t6,O t7,V I t8,V I t9,L Ao2 t10.length co2,L Ao3 t11.length co3,V I t12,O t13,V I t14] (0,0) _ rfl (bK BK3.out) Tryd.underlying45 rfl (by kernel_rfl)) rfl ?_
    exact⟨_,_,_,rE,X (fR (Y HO4.out BK3.out (by decide))) (fun _ hk=>trivial),Kd.Q_of_R (X (fR (Y HO_2.out BK3.out (by decide))) (fun _ hk=>hk.1)),X (fR (Y HO_3.out BK3.out (by decide))) (fun _ hk=>hk.1),uB⟩
   rw[if_neg c2]at H
   have c2b0:(a1_0==1)=false:=beq_eq_false_iff_ne.mpr c2
   have c2b1:(a1_0 !=1)=true:=bne_iff_ne.mpr c2
   by_cases c3:a1_0=2
   ·exact absurd c3 hA.out
   rw[if_neg c3]at H
   have c3b0:(a1_0==2)=false:=beq_eq_false_iff_ne.mpr c3
   have c3b1:(a1_0 !=2)=true:=bne_iff_ne.mpr c3
   by_cases c4:a1_0=3
   ·rw[if_pos c4]at H
    have c4b0:(a1_0==3)=true:=beq_iff_eq.mpr c4
    have c4b1:(a1_0 !=3)=false:=bne_eq_false_iff_eq.mpr c4
    clear c4
    obtain⟨⟨t15,t16,t17,t18,t19,t20,t21⟩,A2,H⟩:=bnd H
    dsimp only at H
    obtain⟨t22,A3,H⟩:=bnd H
    simp only[Option.some.injEq,Prod.mk.injEq]at H
    obtain⟨rfl,rfl,rfl,rfl,rfl,rfl,rfl,rfl,rfl,rfl,rfl,rfl,rfl,rfl,rfl⟩:=H
    have hnb6:=NB2_830.out
    have hnc6:=NB1_831.out
    have hnb7:=NB2_832.out
    have hnc7:=NB3_831.out
    have hnb8:=NB2_853.out
    have hnc8:=NB4_831.out
    have h_:=d4 BK2.out;(repeat(obtain⟨_,h_⟩:=h_))
    have hnb9:=NB1_832.out
    have hnc9:=NB3_830.out
    have hnb10:=NB1_853.out
    have hnc10:=NB4_830.out
    have h_:=d14 BK1.out;(repeat(obtain⟨_,h_⟩:=h_))
    try go_wp2_with (first|((with_reducible refine F (f:=89) rfl ?_);refine gl 89 (some 91) Tryd.func89 #[G #[V I a0_7,V I a0_8,L A0_9 l0_9.length c0_9,L A0_10 l0_10.length c0_10,V I a0_11,O a0_12],V I a1_1] ?_;(with_reducible refine(impl_LineStep.calls kj3 a0_7 a0_8 _ _ l0_9 _ _ l0_10 a0_11 a0_12 a1_1 t15 t16 t17 t18 t19 t20 t21 _ ?side1 ?side2 ?side3 ?side4 A2.out).mono ?_);(case side1=>exact uC (Z HR1_9.out HB.out));(case side2=>exact HC1_9.out);(case side3=>exact uC (Z HR1_10.out HB.out));(case side4=>exact HC1_10.out);rintro e w7 ⟨v4,v5,rfl,ho1,ho2,hb⟩;refine⟨_,rfl,?_⟩;have HO4:=C (Kd.Q_lower (Kd.Q_new' (Kd.Q_new' ho1 (Kd.R_lt (uR HO_2.out))) (Kd.R_lt (uR HO_3.out))) (below_size uB));have HO5:=C (Kd.R_lower (Kd.R_new' (Kd.R_new' ho2 (Kd.R_lt (uR HO_2.out))) (Kd.R_lt (uR HO_3.out))) (below_size uB));replace HO_1:=eR HO_1 hb;replace HO_2:=C (X (Kd.R_told (Kd.R_told (Kd.R_old (uR HO_2.out) hb) (Kd.Q_base ho1)) (Kd.R_base ho2)) (fun _ h_=>h_.1));replace HO_3:=C (X (Kd.R_told (Kd.R_told (Kd.R_old (uR HO_3.out) hb) (Kd.Q_base ho1)) (Kd.R_base ho2)) (fun _ h_=>h_.1));replace BK1:=eK BK1 hb;replace BK2:=eK BK2 hb;replace BK3:=eK BK3 hb;replace BK4:=eK BK4 hb;replace HB:=eB hb;clear hb ho1 ho2;have hnb11:=NB4_832.out;have hnc11:=NB3_853.out;have h_:=d14 BK4.out;(repeat(obtain⟨_,h_⟩:=h_));obtain⟨Ao4,co4,eo4,_⟩:=Kd.Q_slice HO4.out;subst eo4;obtain⟨Ao5,co5,eo5⟩:=U HO5.out;subst eo5))
    obtain⟨w8,hw⟩:∃w_,w_=(((((w7.setCell ⟨gb4,7,none⟩ (V I t15)).setCell ⟨gb4,8,none⟩ (V I t16)).setCell ⟨gb4,9,none⟩ (L Ao4 t17.length co4)).setCell ⟨gb4,10,none⟩ (L Ao5 t18.length co5)).setCell ⟨gb4,11,none⟩ (V I t19)).setCell ⟨gb4,12,none⟩ (O t20):=⟨_,rfl⟩
    (try rw[←hw])
    replace HO_1:D (Kd.R _ _ _ _ (fun _=>True) _ _):=tR hw (Y HO_1.out BK4.out (by decide)) (fun _ hk=>trivial)
    replace HO_2:D (Kd.R _ _ _ _ (fun k_=>qn k_ Ao3 t11.length co3∧qn k_ Ao4 t17.length co4∧qn k_ Ao5 t18.length co5) _ _):=tR hw (Y HO_2.out BK4.out (by decide)) (fun _ hk=>⟨hk.1.1.1,⟨hk.1.1.2,hk.1.2⟩⟩)
    replace HO_3:D (Kd.R _ _ _ _ (fun k_=>qn k_ Ao2 t10.length co2∧qn k_ Ao4 t17.length co4∧qn k_ Ao5 t18.length co5) _ _):=tR hw (Y HO_3.out BK4.out (by decide)) (fun _ hk=>⟨hk.1.1.1,⟨hk.1.1.2,hk.1.2⟩⟩)
    replace HO4:D (Kd.Q _ _ _ _ (fun k_=>qn k_ Ao2 t10.length co2∧qn k_ Ao3 t11.length co3∧qn k_ Ao5 t18.length co5) _ _):=tQ hw (Kd.Q_types HO4.out BK4.out (by decide)) (fun _ hk=>⟨hk.1.1.2,⟨hk.1.2,hk.1.1.1⟩⟩)
    replace HO5:D (Kd.R _ _ _ _ (fun k_=>qn k_ Ao2 t10.length co2∧qn k_ Ao3 t11.length co3∧qn k_ Ao4 t17.length co4) _ _):=tR hw (Y HO5.out BK4.out (by decide)) (fun _ hk=>⟨hk.1.1.2,⟨hk.1.2,hk.1.1.1⟩⟩)
    replace BK1:=wK hw BK1
    replace BK2:=wK hw BK2
    replace BK3:=wK hw BK3
    replace BK4:D (w8.heap[gb4]? =some (.cells #[L Ao1 t1.length co1,V I t2,V I t3,V I t4,O t5,V I t6,O t7,V I t15,V I t16,L Ao4 t17.length co4,L Ao5 t18.length co5,V I t19,O t20,V I t14] 45 (0,0))):=⟨(by rw[hw];exact(bK BK4.out))⟩
    replace HB:=wB hw
    clear hw
    replace HO_1:=dR HO_1
    replace HO_2:=dR HO_2
    replace HO_3:=dR HO_3
    replace HO4:=dQ HO4
    replace HO5:=dR HO5
    replace BK1:=dK BK1
    replace BK2:=dK BK2
    replace BK3:=dK BK3
    replace BK4:=dK BK4
    replace HB:=dB HB
    refine start_ (n:=5) (S:=fun w'=>cl14 w' gb4 (L Ao1 t1.length co1) (V I t2) (V I t3) (V I t4) (O t5) (V I t6) (O t7) (V I t15) (V I t16) (L Ao4 t17.length co4) (L Ao5 t18.length co5) (V I t19) (O t20) (V I t14)) (ds:= []) #[false,false,false,false,false] (by kernel_rfl) rfl rfl hh (fun hHeld=> ?_)
    generalize w8.drew=w9 at HO_1 HO_2 HO_3 HO4 HO5 BK1 BK2 BK3 BK4 HB hHeld ⊢
    refine pu 1 (some 96) ?_
    refine tu 0 (some 95) hHeld ?_
    refine ou 2 (some 97) (fun K hK=> ?_)
    refine gs Tryd.func85 #[O t21] ?_
    with_reducible refine(impl_bit.calls t21 t22 _ A3.out).mono ?_
    rintro e w' ⟨rfl,⟨nd,rfl⟩⟩
    refine⟨_,rfl,?_⟩
    refine hK.out _ _ hh (fun hHeld=> ?_)
    clear hK K
    refine nu (N:=(some 97)) ?_
    refine ou 3 (none) (fun K hK=> ?_)
    obtain⟨hs1,hs2,hs3,hs4,hs5,hs6,hs7,hs8,hs9,hs10,hs11,hs12,hs13,hs14,hfs1,hfs2,hfs3,hfs4,hfs5,hfs6,hfs7,hfs8,hfs9,hfs10,hfs11,hfs12,hfs13,hfs14⟩:=d14 BK3.out
    have hns1_0:=NB1_832.out
    have hns1_1:=NB2_832.out
    have hns1_3:=NB4_832.out
    have hms1_0:=NB3_830.out
    have hms1_1:=NB3_831.out
    have hms1_3:=NB3_853.out
    refine skip_ (w1:= ?_) (by rfl) rfl ?_ ?_
    rotate_left
    ·go_simp
     rfl
    refine hK.out _ _ (cs14 (fun _ _=>cf14 NB4_832.out) hHeld) (fun hHeld=> ?_)
    clear hK K
    refine pu 4 (some 5) ?_
    refine done_ (by kernel_rfl) ?_
    try go_wp2
    refine bodyPost_ret (results_ct rfl _ _ gb3 45 #[L Ao1 t1.length co1,V I t2,V I t3,V I t4,O t5,V I t6,O t7,V I t15,V I t16,L Ao4 t17.length co4,L Ao5 t18.length co5,V I t19,O t20,V I t14] (0,0) _ rfl (bK BK3.out) Tryd.underlying45 rfl (by kernel_rfl)) rfl ?_
    exact⟨_,_,_,rE,X (fR (Y HO_1.out BK3.out (by decide))) (fun _ hk=>trivial),Kd.Q_mono (fQ (Kd.Q_types HO4.out BK3.out (by decide))) (fun _ hk=>hk.1.2.2),X (fR (Y HO5.out BK3.out (by decide))) (fun _ hk=>hk.1.2.2),uB⟩
   rw[if_neg c4]at H
   have c4b0:(a1_0==3)=false:=beq_eq_false_iff_ne.mpr c4
   have c4b1:(a1_0 !=3)=true:=bne_iff_ne.mpr c4
   by_cases c5:a1_0=4
   rotate_left
   ·rw[if_neg c5]at H
    have c5b0:(a1_0==4)=false:=beq_eq_false_iff_ne.mpr c5
    have c5b1:(a1_0 !=4)=true:=bne_iff_ne.mpr c5
    obtain⟨⟨t15,t16⟩,A2,H⟩:=bnd H
    dsimp only at H
    obtain⟨t17,A3,H⟩:=bnd H
    simp only[Option.some.injEq,Prod.mk.injEq]at H
    obtain⟨rfl,rfl,rfl,rfl,rfl,rfl,rfl,rfl,rfl,rfl,rfl,rfl,rfl,rfl,rfl⟩:=H
    have hnb6:=NB2_830.out
    have hnc6:=NB1_831.out
    have hnb7:=NB2_832.out
    have hnc7:=NB3_831.out
    have hnb8:=NB2_853.out
    have hnc8:=NB4_831.out
    have h_:=d4 BK2.out;(repeat(obtain⟨_,h_⟩:=h_))
    have hnb9:=NB1_832.out
    have hnc9:=NB3_830.out
    have hnb10:=NB1_853.out
    have hnc10:=NB4_830.out
    have h_:=d14 BK1.out;(repeat(obtain⟨_,h_⟩:=h_))
    try go_wp2_with (first|((with_reducible refine F (f:=91) rfl ?_);refine gl 91 (some 114) Tryd.func91 #[L A0_0 l0_0.length c0_0,V I a1_1] ?_;(with_reducible refine(impl_ReleaseJob.calls kj3 _ _ l0_0 a1_1 t15 t16 _ ?side1 ?side2 A2.out).mono ?_);(case side1=>exact uC (Z HR1_0.out HB.out));(case side2=>exact HC1_0.out);rintro e w7 ⟨v4,rfl,ho1,hb⟩;refine⟨_,rfl,?_⟩;have HO4:=C (Kd.R_lower (Kd.R_new' ho1 (Kd.R_lt (uR HO_1.out))) (below_size uB));replace HO_1:=C (Kd.R_elder' (uR HO_1.out) (Kd.R_base ho1) hb);replace HO_2:=eR HO_2 hb;replace HO_3:=eR HO_3 hb;replace BK1:=eK BK1 hb;replace BK2:=eK BK2 hb;replace BK3:=eK BK3 hb;replace BK4:=eK BK4 hb;replace HB:=eB hb;clear hb ho1;obtain⟨Ao4,co4,eo4⟩:=U HO4.out;subst eo4;have hnb11:=NB4_832.out;have hnc11:=NB3_853.out;have h_:=d14 BK4.out;(repeat(obtain⟨_,h_⟩:=h_))))
    obtain⟨w8,hw⟩:∃w_,w_=w7.setCell ⟨gb4,0,none⟩ (L Ao4 t15.length co4):=⟨_,rfl⟩
    (try rw[←hw])
    replace HO_1:D (Kd.R _ _ _ _ (fun k_=>qn k_ Ao4 t15.length co4) _ _):=tR hw (Y HO_1.out BK4.out (by decide)) (fun _ hk=>hk.1.2)
    replace HO_2:=wR hw (Y HO_2.out BK4.out (by decide))
    replace HO_3:=wR hw (Y HO_3.out BK4.out (by decide))
    replace HO4:D (Kd.R _ _ _ _ (fun k_=>qn k_ Ao1 t1.length co1) _ _):=tR hw (Y HO4.out BK4.out (by decide)) (fun _ hk=>hk.1.2)
    replace BK1:=wK hw BK1
    replace BK2:=wK hw BK2
    replace BK3:=wK hw BK3
    replace BK4:D (w8.heap[gb4]? =some (.cells #[L Ao4 t15.length co4,V I t2,V I t3,V I t4,O t5,V I t6,O t7,V I t8,V I t9,L Ao2 t10.length co2,L Ao3 t11.length co3,V I t12,O t13,V I t14] 45 (0,0))):=⟨(by rw[hw];exact(bK BK4.out))⟩
    replace HB:=wB hw
    clear hw
    replace HO_1:=dR HO_1
    replace HO_2:=dR HO_2
    replace HO_3:=dR HO_3
    replace HO4:=dR HO4
    replace BK1:=dK BK1
    replace BK2:=dK BK2
    replace BK3:=dK BK3
    replace BK4:=dK BK4
    replace HB:=dB HB
    refine start_ (n:=5) (S:=fun w'=>cl14 w' gb4 (L Ao4 t15.length co4) (V I t2) (V I t3) (V I t4) (O t5) (V I t6) (O t7) (V I t8) (V I t9) (L Ao2 t10.length co2) (L Ao3 t11.length co3) (V I t12) (O t13) (V I t14)) (ds:= []) #[false,false,false,false,false] (by kernel_rfl) rfl rfl hh (fun hHeld=> ?_)
    generalize w8.drew=w9 at HO_1 HO_2 HO_3 HO4 BK1 BK2 BK3 BK4 HB hHeld ⊢
    refine pu 1 (some 119) ?_
    refine tu 0 (some 118) hHeld ?_
    refine ou 2 (some 120) (fun K hK=> ?_)
    refine gs Tryd.func85 #[O t16] ?_
    with_reducible refine(impl_bit.calls t16 t17 _ A3.out).mono ?_
    rintro e w' ⟨rfl,⟨nd,rfl⟩⟩
    refine⟨_,rfl,?_⟩
    refine hK.out _ _ hh (fun hHeld=> ?_)
    clear hK K
    refine nu (N:=(some 120)) ?_
    refine ou 3 (none) (fun K hK=> ?_)
    obtain⟨hs1,hs2,hs3,hs4,hs5,hs6,hs7,hs8,hs9,hs10,hs11,hs12,hs13,hs14,hfs1,hfs2,hfs3,hfs4,hfs5,hfs6,hfs7,hfs8,hfs9,hfs10,hfs11,hfs12,hfs13,hfs14⟩:=d14 BK3.out
    have hns1_0:=NB1_832.out
    have hns1_1:=NB2_832.out
    have hns1_3:=NB4_832.out
    have hms1_0:=NB3_830.out
    have hms1_1:=NB3_831.out
    have hms1_3:=NB3_853.out
    refine skip_ (w1:= ?_) (by rfl) rfl ?_ ?_
    rotate_left
    ·go_simp
     rfl
    refine hK.out _ _ (cs14 (fun _ _=>cf14 NB4_832.out) hHeld) (fun hHeld=> ?_)
    clear hK K
    refine pu 4 (some 5) ?_
    refine done_ (by kernel_rfl) ?_
    try go_wp2
    refine bodyPost_ret (results_ct rfl _ _ gb3 45 #[L Ao4 t15.length co4,V I t2,V I t3,V I t4,O t5,V I t6,O t7,V I t8,V I t9,L Ao2 t10.length co2,L Ao3 t11.length co3,V I t12,O t13,V I t14] (0,0) _ rfl (bK BK3.out) Tryd.underlying45 rfl (by kernel_rfl)) rfl ?_
    exact⟨_,_,_,rE,X (fR (Y HO4.out BK3.out (by decide))) (fun _ hk=>trivial),Kd.Q_of_R (X (fR (Y HO_2.out BK3.out (by decide))) (fun _ hk=>hk.1)),X (fR (Y HO_3.out BK3.out (by decide))) (fun _ hk=>hk.1),uB⟩
   rw[if_pos c5]at H
   have c5b0:(a1_0==4)=true:=beq_iff_eq.mpr c5
   have c5b1:(a1_0 !=4)=false:=bne_eq_false_iff_eq.mpr c5
   clear c5
   obtain⟨⟨t15,t16,t17,t18,t19,t20⟩,A2,H⟩:=bnd H
   dsimp only at H
   simp only[Option.some.injEq,Prod.mk.injEq]at H
   obtain⟨rfl,rfl,rfl,rfl,rfl,rfl,rfl,rfl,rfl,rfl,rfl,rfl,rfl,rfl,rfl⟩:=H
   have hnb6:=NB2_830.out
   have hnc6:=NB1_831.out
   have hnb7:=NB2_832.out
   have hnc7:=NB3_831.out
   have hnb8:=NB2_853.out
   have hnc8:=NB4_831.out
   have h_:=d4 BK2.out;(repeat(obtain⟨_,h_⟩:=h_))
   have hnb9:=NB1_832.out
   have hnc9:=NB3_830.out
   have hnb10:=NB1_853.out
   have hnc10:=NB4_830.out
   have h_:=d14 BK1.out;(repeat(obtain⟨_,h_⟩:=h_))
   try go_wp2_with (first|((with_reducible refine F (f:=90) rfl ?_);refine gl 90 (some 102) Tryd.func90 #[G #[V I a0_7,V I a0_8,L A0_9 l0_9.length c0_9,L A0_10 l0_10.length c0_10,V I a0_11,O a0_12]] ?_;(with_reducible refine(impl_FinishLine.calls kj3 a0_7 a0_8 _ _ l0_9 _ _ l0_10 a0_11 a0_12 t15 t16 t17 t18 t19 t20 _ ?side1 ?side2 ?side3 ?side4 A2.out).mono ?_);(case side1=>exact uC (Z HR1_9.out HB.out));(case side2=>exact HC1_9.out);(case side3=>exact uC (Z HR1_10.out HB.out));(case side4=>exact HC1_10.out);rintro e w7 ⟨v4,v5,rfl,ho1,ho2,hb⟩;refine⟨_,rfl,?_⟩;have HO4:=C (Kd.Q_lower (Kd.Q_new' (Kd.Q_new' ho1 (Kd.R_lt (uR HO_2.out))) (Kd.R_lt (uR HO_3.out))) (below_size uB));have HO5:=C (Kd.R_lower (Kd.R_new' (Kd.R_new' ho2 (Kd.R_lt (uR HO_2.out))) (Kd.R_lt (uR HO_3.out))) (below_size uB));replace HO_1:=eR HO_1 hb;replace HO_2:=C (X (Kd.R_told (Kd.R_told (Kd.R_old (uR HO_2.out) hb) (Kd.Q_base ho1)) (Kd.R_base ho2)) (fun _ h_=>h_.1));replace HO_3:=C (X (Kd.R_told (Kd.R_told (Kd.R_old (uR HO_3.out) hb) (Kd.Q_base ho1)) (Kd.R_base ho2)) (fun _ h_=>h_.1));replace BK1:=eK BK1 hb;replace BK2:=eK BK2 hb;replace BK3:=eK BK3 hb;replace BK4:=eK BK4 hb;replace HB:=eB hb;clear hb ho1 ho2;have hnb11:=NB4_832.out;have hnc11:=NB3_853.out;have h_:=d14 BK4.out;(repeat(obtain⟨_,h_⟩:=h_));obtain⟨Ao4,co4,eo4,_⟩:=Kd.Q_slice HO4.out;subst eo4;obtain⟨Ao5,co5,eo5⟩:=U HO5.out;subst eo5))
   obtain⟨w8,hw⟩:∃w_,w_=(((((w7.setCell ⟨gb4,7,none⟩ (V I t15)).setCell ⟨gb4,8,none⟩ (V I t16)).setCell ⟨gb4,9,none⟩ (L Ao4 t17.length co4)).setCell ⟨gb4,10,none⟩ (L Ao5 t18.length co5)).setCell ⟨gb4,11,none⟩ (V I t19)).setCell ⟨gb4,12,none⟩ (O t20):=⟨_,rfl⟩
   (try rw[←hw])
   replace HO_1:D (Kd.R _ _ _ _ (fun _=>True) _ _):=tR hw (Y HO_1.out BK4.out (by decide)) (fun _ hk=>trivial)
   replace HO_2:D (Kd.R _ _ _ _ (fun k_=>qn k_ Ao3 t11.length co3∧qn k_ Ao4 t17.length co4∧qn k_ Ao5 t18.length co5) _ _):=tR hw (Y HO_2.out BK4.out (by decide)) (fun _ hk=>⟨hk.1.1.1,⟨hk.1.1.2,hk.1.2⟩⟩)
   replace HO_3:D (Kd.R _ _ _ _ (fun k_=>qn k_ Ao2 t10.length co2∧qn k_ Ao4 t17.length co4∧qn k_ Ao5 t18.length co5) _ _):=tR hw (Y HO_3.out BK4.out (by decide)) (fun _ hk=>⟨hk.1.1.1,⟨hk.1.1.2,hk.1.2⟩⟩)
   replace HO4:D (Kd.Q _ _ _ _ (fun k_=>qn k_ Ao2 t10.length co2∧qn k_ Ao3 t11.length co3∧qn k_ Ao5 t18.length co5) _ _):=tQ hw (Kd.Q_types HO4.out BK4.out (by decide)) (fun _ hk=>⟨hk.1.1.2,⟨hk.1.2,hk.1.1.1⟩⟩)
   replace HO5:D (Kd.R _ _ _ _ (fun k_=>qn k_ Ao2 t10.length co2∧qn k_ Ao3 t11.length co3∧qn k_ Ao4 t17.length co4) _ _):=tR hw (Y HO5.out BK4.out (by decide)) (fun _ hk=>⟨hk.1.1.2,⟨hk.1.2,hk.1.1.1⟩⟩)
   replace BK1:=wK hw BK1
   replace BK2:=wK hw BK2
   replace BK3:=wK hw BK3
   replace BK4:D (w8.heap[gb4]? =some (.cells #[L Ao1 t1.length co1,V I t2,V I t3,V I t4,O t5,V I t6,O t7,V I t15,V I t16,L Ao4 t17.length co4,L Ao5 t18.length co5,V I t19,O t20,V I t14] 45 (0,0))):=⟨(by rw[hw];exact(bK BK4.out))⟩
   replace HB:=wB hw
   clear hw
   replace HO_1:=dR HO_1
   replace HO_2:=dR HO_2
   replace HO_3:=dR HO_3
   replace HO4:=dQ HO4
   replace HO5:=dR HO5
   replace BK1:=dK BK1
   replace BK2:=dK BK2
   replace BK3:=dK BK3
   replace BK4:=dK BK4
   replace HB:=dB HB
   refine start_ (n:=7) (S:=fun w'=>cl14 w' gb4 (L Ao1 t1.length co1) (V I t2) (V I t3) (V I t4) (O t5) (V I t6) (O t7) (V I t15) (V I t16) (L Ao4 t17.length co4) (L Ao5 t18.length co5) (V I t19) (O t20) (V I t14)) (ds:= []) #[false,false,false,false,false,false,false] (by kernel_rfl) rfl rfl hh (fun hHeld=> ?_)
   generalize w8.drew=w9 at HO_1 HO_2 HO_3 HO4 HO5 BK1 BK2 BK3 BK4 HB hHeld ⊢
   refine pu 1 (some 105) ?_
   refine pu 2 (some 106) ?_
   refine tu 0 (some 104) hHeld ?_
   refine tu 3 (some 107) hHeld ?_
   refine pu 4 (some 108) ?_
   refine ou 5 (none) (fun K hK=> ?_)
   obtain⟨hs1,hs2,hs3,hs4,hs5,hs6,hs7,hs8,hs9,hs10,hs11,hs12,hs13,hs14,hfs1,hfs2,hfs3,hfs4,hfs5,hfs6,hfs7,hfs8,hfs9,hfs10,hfs11,hfs12,hfs13,hfs14⟩:=d14 BK3.out
   have hns1_0:=NB1_832.out
   have hns1_1:=NB2_832.out
   have hns1_3:=NB4_832.out
   have hms1_0:=NB3_830.out
   have hms1_1:=NB3_831.out
   have hms1_3:=NB3_853.out
   refine skip_ (w1:= ?_) (by rfl) rfl ?_ ?_
   rotate_left
   ·go_simp
    rfl
   refine hK.out _ _ (cs14 (fun _ _=>cf14 NB4_832.out) hHeld) (fun hHeld=> ?_)
   clear hK K
   refine pu 6 (some 5) ?_
   refine done_ (by kernel_rfl) ?_
   try go_wp2
   refine bodyPost_ret (results_ct rfl _ _ gb3 45 #[L Ao1 t1.length co1,V I t2,V I t3,V I t4,O t5,V I t6,O t7,V I t15,V I t16,L Ao4 t17.length co4,L Ao5 t18.length co5,V I t19,O t20,V I t14] (0,0) _ rfl (bK BK3.out) Tryd.underlying45 rfl (by kernel_rfl)) rfl ?_
   exact⟨_,_,_,rE,X (fR (Y HO_1.out BK3.out (by decide))) (fun _ hk=>trivial),Kd.Q_mono (fQ (Kd.Q_types HO4.out BK3.out (by decide))) (fun _ hk=>hk.1.2.2),X (fR (Y HO5.out BK3.out (by decide))) (fun _ hk=>hk.1.2.2),uB⟩
end Go.Proofs.YtblceimapaenlaaDoor.PFnActParts
