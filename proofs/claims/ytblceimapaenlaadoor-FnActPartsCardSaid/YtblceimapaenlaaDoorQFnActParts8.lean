/- Calls do what plain Lean functions say (FnActParts). No condition. -/
import Derived.Test.YtblceimapaenlaaDoorQFnActParts0
import Derived.Test.YtblceimapaenlaaDoorQFnActParts2
import Derived.Test.YtblceimapaenlaaDoorQFnActParts3
import Derived.Test.YtblceimapaenlaaDoorQFnActParts7
namespace Go.Proofs.YtblceimapaenlaaDoor.PFnActParts
open Go.RowKit Go.Proofs.YtblceimapaenlaaDoorW.PrintWords Go.Proofs.YtblceimapaenlaaDoorW.PrintLast Go.Proofs.YtblceimapaenlaaDoorW.PrintMore
open Fix (b1 bA bK bN bnd cf14 cr14 d14 d4 dB dK dQ dR dn1 eB eK eQ eR fQ fR gE gK gl gs gy hx lR nG nL nl nm np nu oL ou pu qm qn rE rS tu uB uC uH uK uQ uR)
open Go.Value renaming int→V,slice→L,bool→O,agg→G
open Go.IntKind renaming i64→I
open Go.Proofs.YtblceimapaenlaaDoorW.PrintWords.Aside0 renaming mk→C
open Go.Proofs.YtblceimapaenlaaDoorW.PrintWords renaming Aside0→D,gate_callee→F
open Go.Proofs.YtblceimapaenlaaDoorW.PrintWords.Kd renaming R_mono→X,R_types→Y
open Go.World renaming block_lt_of_cell?→E
attribute [local go_sem] max2_int min2_int max_two min_two max_three min_three max_four min_four
attribute [local go_sem] Fix.isSome_setCell
set_option linter.unusedVariables false
set_option maxHeartbeats 40000000
set_option maxRecDepth 100000
set_option linter.unusedSimpArgs false
mutual
def spec_RunActs.j0:Nat→List (S26)→List Int→Bool→List (S40)→Int→Int→Int→Bool→Int→Bool→Int→Int→List Int→List Int→Int→Bool→Int→Option ((List (S40))×Int×Int×Int×Bool×Int×Bool×Int×Int×List Int×List Int×Int×Bool×Int×List Int)
  |0,_,_,_,_,_,_,_,_,_,_,_,_,_,_,_,_,_=>none
  |k+1,x1,x7,x21,x453000,x453001,x453002,x453003,x453004,x453005,x453006,x453007,x453008,x453009,x453010,x453011,x453012,x453013=>if x21=true then(some (x453000,x453001,x453002,x453003,x453004,x453005,x453006,x453007,x453008,x453009,x453010,x453011,x453012,x453013,x7)) else(spec_RunActs.l0 k x1 x7 0 x453000 x453001 x453002 x453003 x453004 x453005 x453006 x453007 x453008 x453009 x453010 x453011 x453012 x453013)
def spec_RunActs.l0:Nat→List (S26)→List Int→Int→List (S40)→Int→Int→Int→Bool→Int→Bool→Int→Int→List Int→List Int→Int→Bool→Int→Option ((List (S40))×Int×Int×Int×Bool×Int×Bool×Int×Int×List Int×List Int×Int×Bool×Int×List Int)
  |0,_,_,_,_,_,_,_,_,_,_,_,_,_,_,_,_,_=>none
  |k+1,x1,x7,x8,x453000,x453001,x453002,x453003,x453004,x453005,x453006,x453007,x453008,x453009,x453010,x453011,x453012,x453013=>if x8<(x1.length:Int) then(if 0≤x8 then((spec_DoAct.f k x453000 x453001 x453002 x453003 x453004 x453005 x453006 x453007 x453008 x453009 x453010 x453011 x453012 x453013 ((rd_T26 x1 x8).f0) ((rd_T26 x1 x8).f1) ((rd_T26 x1 x8).f2) ((rd_T26 x1 x8).f3)).bind fun bt458=>(if x7.length<17592186044416 then(spec_RunActs.l0 k x1 (x7++ [bt458.2.2.2.2.2.2.2.2.2.2.2.2.2.2]) (wrap64 (x8+1)) bt458.1 bt458.2.1 bt458.2.2.1 bt458.2.2.2.1 bt458.2.2.2.2.1 bt458.2.2.2.2.2.1 bt458.2.2.2.2.2.2.1 bt458.2.2.2.2.2.2.2.1 bt458.2.2.2.2.2.2.2.2.1 bt458.2.2.2.2.2.2.2.2.2.1 bt458.2.2.2.2.2.2.2.2.2.2.1 bt458.2.2.2.2.2.2.2.2.2.2.2.1 bt458.2.2.2.2.2.2.2.2.2.2.2.2.1 bt458.2.2.2.2.2.2.2.2.2.2.2.2.2.1) else(none))) else(none)) else(some (x453000,x453001,x453002,x453003,x453004,x453005,x453006,x453007,x453008,x453009,x453010,x453011,x453012,x453013,x7))
end
def spec_RunActs.f (k:Nat) (l0_0:List (S40)) (a0_1:Int) (a0_2:Int) (a0_3:Int) (a0_4:Bool) (a0_5:Int) (a0_6:Bool) (a0_7:Int) (a0_8:Int) (l0_9:List Int) (l0_10:List Int) (a0_11:Int) (a0_12:Bool) (a0_13:Int) (l1:List (S26)):Option ((List (S40))×Int×Int×Int×Bool×Int×Bool×Int×Int×List Int×List Int×Int×Bool×Int×List Int):=(spec_l39Copy.f l0_0 a0_1 a0_2 a0_3 a0_4 a0_5 a0_6 a0_7 a0_8 l0_9 l0_10 a0_11 a0_12 a0_13).bind fun bt432=>((some (([]:List Int):List Int)).bind fun y453=>((spec_MachineOk.f k l0_0 a0_1 a0_2 a0_3 a0_4 a0_5 a0_6 a0_7 a0_8 l0_9 l0_10 a0_11 a0_12 a0_13).bind fun t456=>(if t456=true then(spec_RunActs.j0 k l1 y453 (decide ((l1.length:Int) >40)) bt432.1 bt432.2.1 bt432.2.2.1 bt432.2.2.2.1 bt432.2.2.2.2.1 bt432.2.2.2.2.2.1 bt432.2.2.2.2.2.2.1 bt432.2.2.2.2.2.2.2.1 bt432.2.2.2.2.2.2.2.2.1 bt432.2.2.2.2.2.2.2.2.2.1 bt432.2.2.2.2.2.2.2.2.2.2.1 bt432.2.2.2.2.2.2.2.2.2.2.2.1 bt432.2.2.2.2.2.2.2.2.2.2.2.2.1 bt432.2.2.2.2.2.2.2.2.2.2.2.2.2) else(spec_RunActs.j0 k l1 y453 true bt432.1 bt432.2.1 bt432.2.2.1 bt432.2.2.2.1 bt432.2.2.2.2.1 bt432.2.2.2.2.2.1 bt432.2.2.2.2.2.2.1 bt432.2.2.2.2.2.2.2.1 bt432.2.2.2.2.2.2.2.2.1 bt432.2.2.2.2.2.2.2.2.2.1 bt432.2.2.2.2.2.2.2.2.2.2.1 bt432.2.2.2.2.2.2.2.2.2.2.2.1 bt432.2.2.2.2.2.2.2.2.2.2.2.2.1 bt432.2.2.2.2.2.2.2.2.2.2.2.2.2))))
theorem spec_RunActs.mono_l:∀k,(∀y0 y1 y2 y3 y4 y5 y6 y7 y8 y9 y10 y11 y12 y13 y14 y15 y16,LeO (spec_RunActs.j0 k y0 y1 y2 y3 y4 y5 y6 y7 y8 y9 y10 y11 y12 y13 y14 y15 y16) (spec_RunActs.j0 (k+1) y0 y1 y2 y3 y4 y5 y6 y7 y8 y9 y10 y11 y12 y13 y14 y15 y16))∧(∀y0 y1 y2 y3 y4 y5 y6 y7 y8 y9 y10 y11 y12 y13 y14 y15 y16,LeO (spec_RunActs.l0 k y0 y1 y2 y3 y4 y5 y6 y7 y8 y9 y10 y11 y12 y13 y14 y15 y16) (spec_RunActs.l0 (k+1) y0 y1 y2 y3 y4 y5 y6 y7 y8 y9 y10 y11 y12 y13 y14 y15 y16))
 |0=>⟨fun _ _ _ _ _ _ _ _ _ _ _ _ _ _ _ _ _ r h=>by simp[spec_RunActs.j0]at h,fun _ _ _ _ _ _ _ _ _ _ _ _ _ _ _ _ _ r h=>by simp[spec_RunActs.l0]at h⟩
 |k+1=>by
  obtain⟨ih0,ih1⟩:=spec_RunActs.mono_l k
  refine⟨?_,?_⟩
  ·intro y0 y1 y2 y3 y4 y5 y6 y7 y8 y9 y10 y11 y12 y13 y14 y15 y16
   unfold spec_RunActs.j0
   repeat' first|(with_reducible first|apply ih0|apply ih1|apply spec_DoAct.mono|apply spec_MachineOk.mono|exact LeO.refl _|exact LeO.none _|refine LeO.ite ?_ ?_|refine LeO.bind ?_ (fun _=> ?_))|apply ih0|apply ih1|exact LeO.none _|refine LeO.ite ?_ ?_|refine LeO.bind ?_ (fun _=> ?_)
  ·intro y0 y1 y2 y3 y4 y5 y6 y7 y8 y9 y10 y11 y12 y13 y14 y15 y16
   unfold spec_RunActs.l0
   repeat' first|(with_reducible first|apply ih0|apply ih1|apply spec_DoAct.mono|apply spec_MachineOk.mono|exact LeO.refl _|exact LeO.none _|refine LeO.ite ?_ ?_|refine LeO.bind ?_ (fun _=> ?_))|apply ih0|apply ih1|exact LeO.none _|refine LeO.ite ?_ ?_|refine LeO.bind ?_ (fun _=> ?_)
theorem spec_RunActs.mono:∀a0 a1 a2 a3 a4 a5 a6 a7 a8 a9 a10 a11 a12 a13 a14 k,LeO (spec_RunActs.f k a0 a1 a2 a3 a4 a5 a6 a7 a8 a9 a10 a11 a12 a13 a14) (spec_RunActs.f (k+1) a0 a1 a2 a3 a4 a5 a6 a7 a8 a9 a10 a11 a12 a13 a14):=by
 intro a0 a1 a2 a3 a4 a5 a6 a7 a8 a9 a10 a11 a12 a13 a14 k
 obtain⟨ih0,ih1⟩:=spec_RunActs.mono_l k
 unfold spec_RunActs.f
 repeat' first|(with_reducible first|apply ih0|apply ih1|apply spec_DoAct.mono|apply spec_MachineOk.mono|exact LeO.refl _|exact LeO.none _|refine LeO.ite ?_ ?_|refine LeO.bind ?_ (fun _=> ?_))|apply ih0|apply ih1|exact LeO.none _|refine LeO.ite ?_ ?_|refine LeO.bind ?_ (fun _=> ?_)
def spec_RunActs.T8:Bool×List (List Nat×List Nat):=(true,[([],[]),([],[]),([],[]),([1,2],[1,2]),([3],[3]),([0,4],[0,4]),([5],[5]),([6],[6]),([6],[6]),([],[]),([9,7,5,0,1,2,3,4,5,6,7,9],[7,9]),([8,10,0,1,2,3,4,5,6,7,8,9,10],[8])])
def spec_RunActs.B8:List Nat:= [0,0,0,6,14,31,63,127,127,0,767,2047]
theorem spec_RunActs.tab8:rtab .any (opsOf Tryd.f30 8)=spec_RunActs.T8:=by kernel_rfl
theorem spec_RunActs.bits8:waitsOk spec_RunActs.T8.2 spec_RunActs.B8=true:=by kernel_rfl
theorem spec_RunActs.W1 {p:Prop} (h:p:=by
    go_wp2
    first
      | (refine bodyPost_ret (results_ct rfl _ _ gb2 45 #[L Ao1 t1.length co1, V I t2, V I t3, V I t4, O t5, V I t6, O t7, V I t8, V I t9, L Ao2 t10.length co2, L Ao3 t11.length co3, V I t12, O t13, V I t14] (0, 0) _ rfl (bK BK2.out) Tryd.underlying45 rfl (by kernel_rfl)) rfl ?_
         exact⟨_,_,_,_,rE,X (fR (Y HO_2.out BK2.out (by decide))) (fun _ hk=>trivial),Kd.Q_mono (fQ (Kd.Q_types HO_3.out BK2.out (by decide))) (fun _ hk=>⟨hk.1.2,hk.1.1⟩),X (fR (Y HO_4.out BK2.out (by decide))) (fun _ hk=>⟨hk.1.2,hk.1.1⟩),X (fR (Y HO_1.out BK2.out (by decide))) (fun _ hk=>⟨hk.1.1,hk.1.2⟩),uB⟩)
      | (refine bodyPost_ret (results_ct rfl _ _ gb2 45 #[L Ao4 x4_2.length co4, V I x5_2, V I x6_2, V I x7_2, O x8_2, V I x9_2, O x10_2, V I x11_2, V I x12_2, L Ao5 x13_2.length co5, L Ao6 x14_2.length co6, V I x15_2, O x16_2, V I x17_2] (0, 0) _ rfl (bK BK2.out) Tryd.underlying45 rfl (by kernel_rfl)) rfl ?_
         exact⟨_,_,_,_,rE,X (fR (Y HO_2.out BK2.out (by decide))) (fun _ hk=>trivial),Kd.Q_mono (fQ (Kd.Q_types HO_3.out BK2.out (by decide))) (fun _ hk=>⟨hk.1.2,hk.1.1⟩),X (fR (Y HO_4.out BK2.out (by decide))) (fun _ hk=>⟨hk.1.2,hk.1.1⟩),X (fR (Y HO_1.out BK2.out (by decide))) (fun _ hk=>⟨hk.1.1,hk.1.2⟩),uB⟩)):p:=h
theorem spec_RunActs.calls (k:Nat) (A0_0:Option Addr) (c0_0:Nat) (l0_0:List (S40)) (a0_1:Int) (a0_2:Int) (a0_3:Int) (a0_4:Bool) (a0_5:Int) (a0_6:Bool) (a0_7:Int) (a0_8:Int) (A0_9:Option Addr) (c0_9:Nat) (l0_9:List Int) (A0_10:Option Addr) (c0_10:Nat) (l0_10:List Int) (a0_11:Int) (a0_12:Bool) (a0_13:Int) (A1:Option Addr) (c1:Nat) (l1:List (S26)) (r1:List (S40)) (r2:Int) (r3:Int) (r4:Int) (r5:Bool) (r6:Int) (r7:Bool) (r8:Int) (r9:Int) (r10:List Int) (r11:List Int) (r12:Int) (r13:Bool) (r14:Int) (r15:List Int) (w:World) (hr0_0:Kd.C k40 w A0_0 l0_0.length l0_0) (hc0_0:l0_0.length≤c0_0) (hr0_9:Kd.C (Kd.int .i64) w A0_9 l0_9.length l0_9) (hc0_9:l0_9.length≤c0_9) (hr0_10:Kd.C (Kd.int .i64) w A0_10 l0_10.length l0_10) (hc0_10:l0_10.length≤c0_10) (hr1:Kd.C k26 w A1 l1.length l1) (hc1:l1.length≤c1) (h:spec_RunActs.f k l0_0 a0_1 a0_2 a0_3 a0_4 a0_5 a0_6 a0_7 a0_8 l0_9 l0_10 a0_11 a0_12 a0_13 l1=some (r1,r2,r3,r4,r5,r6,r7,r8,r9,r10,r11,r12,r13,r14,r15)):
 Calls Tryd.prog 30 #[G #[L A0_0 l0_0.length c0_0,V I a0_1,V I a0_2,V I a0_3,O a0_4,V I a0_5,O a0_6,V I a0_7,V I a0_8,L A0_9 l0_9.length c0_9,L A0_10 l0_10.length c0_10,V I a0_11,O a0_12,V I a0_13],L A1 l1.length c1] w fun e w'=>∃v0_ v9_ v10_ v14_:Value,e=.returned (.tuple #[G #[v0_,V I r2,V I r3,V I r4,O r5,V I r6,O r7,V I r8,V I r9,v9_,v10_,V I r12,O r13,V I r14],v14_])∧Kd.R k40 40 w' w.heap.size (fun _=>True) v0_ r1∧Kd.Q (Kd.int .i64) 3 w' w.heap.size (fun k_=>qm k_ v10_∧qm k_ v14_) v9_ r10∧Kd.R (Kd.int .i64) 3 w' w.heap.size (fun k_=>qm k_ v9_∧qm k_ v14_) v10_ r11∧Kd.R (Kd.int .i64) 3 w' w.heap.size (fun k_=>qm k_ v9_∧qm k_ v10_) v14_ r15∧Below w.heap.size w w':=by
 have hu1:=Tryd.underlying45
 have hu2:=Tryd.underlying26
 have HR1_0:=C hr0_0
 have HC1_0:=C hc0_0
 (try clear hr0_0);(try clear hc0_0)
 have HR1_9:=C hr0_9
 have HC1_9:=C hc0_9
 (try clear hr0_9);(try clear hc0_9)
 have HR1_10:=C hr0_10
 have HC1_10:=C hc0_10
 (try clear hr0_10);(try clear hc0_10)
 have HR2:=C hr1
 have HC2:=C hc1
 (try clear hr1);(try clear hc1)
 have HB:=C (Below.refl w.heap.size w)
 have H:=h
 unfold spec_RunActs.f at H
 clear h
 obtain⟨⟨t1,t2,t3,t4,t5,t6,t7,t8,t9,t10,t11,t12,t13,t14⟩,A1,H⟩:=bnd H
 dsimp only at H
 obtain⟨y1,hy1⟩:∃y_:List Int,y_=(([]:List Int)):=⟨_,rfl⟩
 replace H:((spec_MachineOk.f k l0_0 a0_1 a0_2 a0_3 a0_4 a0_5 a0_6 a0_7 a0_8 l0_9 l0_10 a0_11 a0_12 a0_13).bind fun t15=>(if t15=true then(spec_RunActs.j0 k l1 y1 (decide ((l1.length:Int) >40)) t1 t2 t3 t4 t5 t6 t7 t8 t9 t10 t11 t12 t13 t14) else(spec_RunActs.j0 k l1 y1 true t1 t2 t3 t4 t5 t6 t7 t8 t9 t10 t11 t12 t13 t14)))=some (r1,r2,r3,r4,r5,r6,r7,r8,r9,r10,r11,r12,r13,r14,r15):=gy hy1 H
 have Ny1:=C hy1
 clear hy1
 have HC3:=C H
 clear H
 go_enter Tryd.func30,Tryd.ntmps30
 go_upto_region 3 with(first|((with_reducible refine gate_dst (N:=2) rfl ?_);(try(refine gate_guard (by rfl) ?_;dsimp only));refine Fix.be 2 #[L A0_0 l0_0.length c0_0,V I a0_1,V I a0_2,V I a0_3,O a0_4,V I a0_5,O a0_6,V I a0_7,V I a0_8,L A0_9 l0_9.length c0_9,L A0_10 l0_10.length c0_10,V I a0_11,O a0_12,V I a0_13] 45 ?_;intro gb1 hg w2 BK1 hb;have GW1:D (w.heap.size≤gb1):=gE hg;have GE1:=GW1;replace HB:=eB hb;clear hb hg)|((with_reducible refine gate_dst (N:=4) rfl ?_);(try(refine gate_guard (by rfl) ?_;dsimp only));refine Fix.be 4 #[L none 0 0,V I 0,V I 0,V I 0,O false,V I 0,O false,V I 0,V I 0,L none 0 0,L none 0 0,V I 0,O false,V I 0] 45 ?_;intro gb2 hg w3 BK2 hb;have GW2:D (w.heap.size≤gb2):=gE hg;have GE2:=GW2;have NB1_431:=nL hg BK1;have NB2_430:=nG hg BK1;replace BK1:=eK BK1 hb;replace HB:=eB hb;clear hb hg;have hnb1:=NB1_431.out;have hnc1:=NB2_430.out;have h_:=d14 BK1.out;(repeat(obtain⟨_,h_⟩:=h_)))|((with_reducible refine F (f:=59) rfl ?_);refine gl 59 (some 12) Tryd.func59 #[G #[L A0_0 l0_0.length c0_0,V I a0_1,V I a0_2,V I a0_3,O a0_4,V I a0_5,O a0_6,V I a0_7,V I a0_8,L A0_9 l0_9.length c0_9,L A0_10 l0_10.length c0_10,V I a0_11,O a0_12,V I a0_13]] ?_;(with_reducible refine(spec_l39Copy.calls _ _ l0_0 a0_1 a0_2 a0_3 a0_4 a0_5 a0_6 a0_7 a0_8 _ _ l0_9 _ _ l0_10 a0_11 a0_12 a0_13 t1 t2 t3 t4 t5 t6 t7 t8 t9 t10 t11 t12 t13 t14 _ ?side1 ?side2 ?side3 ?side4 ?side5 ?side6 A1.out).mono ?_);(case side1=>exact uC (Kd.C_below HR1_0.out HB.out));(case side2=>exact HC1_0.out);(case side3=>exact uC (Kd.C_below HR1_9.out HB.out));(case side4=>exact HC1_9.out);(case side5=>exact uC (Kd.C_below HR1_10.out HB.out));(case side6=>exact HC1_10.out);rintro e w4 ⟨v1,v2,v3,rfl,ho1,ho2,ho3,hb⟩;refine⟨_,rfl,?_⟩;have HO1:=lR ho1;have HO2:=lR ho2;have HO3:=lR ho3;replace BK1:=eK BK1 hb;replace BK2:=eK BK2 hb;replace HB:=eB hb;clear hb ho1 ho2 ho3)|((with_reducible refine gate_dst (N:=6) rfl ?_);(try(refine gate_guard (by rfl) ?_;dsimp only));refine Fix.be 6 #[L none 0 0,V I 0,V I 0,V I 0,O false,V I 0,O false,V I 0,V I 0,L none 0 0,L none 0 0,V I 0,O false,V I 0] 45 ?_;intro gb3 hg w5 BK3 hb;have GW3:D (w.heap.size≤gb3):=gE hg;have GE3:=GW3;have NB1_452:=nL hg BK1;have NB3_430:=nG hg BK1;have NB2_452:=nL hg BK2;have NB3_431:=nG hg BK2;replace HO1:=eR HO1 hb;replace HO2:=eR HO2 hb;replace HO3:=eR HO3 hb;replace BK1:=eK BK1 hb;replace BK2:=eK BK2 hb;replace HB:=eB hb;clear hb hg;obtain⟨Ao1,co1,eo1⟩:=Kd.R_slice HO1.out;subst eo1;have hnb2:=NB3_430.out;have hnc2:=NB1_452.out;have hnb3:=NB3_431.out;have hnc3:=NB2_452.out;have h_:=d14 BK3.out;(repeat(obtain⟨_,h_⟩:=h_));obtain⟨Ao2,co2,eo2⟩:=Kd.R_slice HO2.out;subst eo2;obtain⟨Ao3,co3,eo3⟩:=Kd.R_slice HO3.out;subst eo3)|((with_reducible refine gate_dst (N:=13) rfl ?_);(try(refine gate_guard (by rfl) ?_;dsimp only));refine Kd.R_lit (Kd.int .i64) _ 3 ?hg (N:=13) ?hd (xs:=([]:List Int)) (inner:= []) (ok:=fun _=>True) (okp:=fun _=>True) ?hr ?hp (fun _ hk=>hk) trivial (Below.refl _ _) (Nat.le_refl _) (by simp) ?_;(case hd=>rfl);(case hg=>rfl);(case hr=>exact Fix.hr);(case hp=>exact(Reps.none _ _));intro v4 w6 ho4 hb hg_ hnew_;clear hg_ hnew_;(first|rw[←Ny1.out]at ho4|(simp only[Int.reduceToNat]at ho4;rw[←Ny1.out]at ho4));have HO4:=C (Kd.R_lower (Kd.R_new' (Kd.R_new' ho4 (Kd.R_lt (X (fR (Y HO2.out BK3.out (by decide))) (fun _ h_=>h_.1)))) (Kd.R_lt (X (fR (Y HO3.out BK3.out (by decide))) (fun _ h_=>h_.1)))) (below_size uB));replace HO1:=C (Kd.R_below (X (fR (Y HO1.out BK3.out (by decide))) (fun _ h_=>h_.1)) hb);replace HO2:=C (Kd.R_elder' (X (fR (Y HO2.out BK3.out (by decide))) (fun _ h_=>h_.1)) (Kd.R_base ho4) hb);replace HO3:=C (Kd.R_elder' (X (fR (Y HO3.out BK3.out (by decide))) (fun _ h_=>h_.1)) (Kd.R_base ho4) hb);replace BK1:=eK BK1 hb;replace BK2:=eK BK2 hb;replace BK3:=C (blk_below (g:=gb3) (o:=.cells #[L Ao1 t1.length co1,V I t2,V I t3,V I t4,O t5,V I t6,O t7,V I t8,V I t9,L Ao2 t10.length co2,L Ao3 t11.length co3,V I t12,O t13,V I t14] 45 (0,0)) (bK BK3.out) hb);replace HB:=eB hb;clear hb ho4))
 (try simp only[Act.put,List.setIfInBounds_toArray,List.set_cons_zero,List.set_cons_succ])
 go_cut [21] (fun v21 wc=>∃(kq:Nat) (x1_3:Bool),v21=O x1_3∧D (spec_RunActs.j0 kq l1 y1 x1_3 t1 t2 t3 t4 t5 t6 t7 t8 t9 t10 t11 t12 t13 t14=some (r1,r2,r3,r4,r5,r6,r7,r8,r9,r10,r11,r12,r13,r14,r15))∧D (kq≤k)∧D (Kd.R (Kd.int .i64) 3 wc w.heap.size (fun k_=>some k_≠Fix.o Ao2 t10.length co2∧some k_≠Fix.o Ao3 t11.length co3) v4 y1)∧D (Kd.R k40 40 wc w.heap.size (fun _=>True) (L Ao1 t1.length co1) t1)∧D (Kd.Q (Kd.int .i64) 3 wc w.heap.size (fun k_=>qm k_ v4∧some k_≠Fix.o Ao3 t11.length co3) (L Ao2 t10.length co2) t10)∧D (Kd.R (Kd.int .i64) 3 wc w.heap.size (fun k_=>qm k_ v4∧some k_≠Fix.o Ao2 t10.length co2) (L Ao3 t11.length co3) t11)∧D (wc.heap[gb1]? =some (.cells #[(L A0_0 l0_0.length c0_0),V I a0_1,V I a0_2,V I a0_3,O a0_4,V I a0_5,O a0_6,V I a0_7,V I a0_8,(L A0_9 l0_9.length c0_9),(L A0_10 l0_10.length c0_10),V I a0_11,O a0_12,V I a0_13] 45 (0,0)))∧D (wc.heap[gb2]? =some (.cells #[(L none 0 0),V I 0,V I 0,V I 0,O false,V I 0,O false,V I 0,V I 0,(L none 0 0),(L none 0 0),V I 0,O false,V I 0] 45 (0,0)))∧D (wc.heap[gb3]? =some (.cells #[(L Ao1 t1.length co1),V I t2,V I t3,V I t4,O t5,V I t6,O t7,V I t8,V I t9,(L Ao2 t10.length co2),(L Ao3 t11.length co3),V I t12,O t13,V I t14] 45 (0,0)))∧D (Below w.heap.size w wc))
 case first=>
  have H:=HC3.out
  clear HC3
  obtain⟨t15,A2,H⟩:=bnd H
  by_cases c1:t15=true
  rotate_left
  ·replace c1:=Bool.eq_false_iff.mpr c1
   subst c1
   rw[if_neg Bool.false_ne_true]at H
   have H':=C H
   clear H
   have hnb4:=NB1_431.out
   have hnc4:=NB2_430.out
   have hnb5:=NB1_452.out
   have hnc5:=NB3_430.out
   have h_:=d14 BK1.out;(repeat(obtain⟨_,h_⟩:=h_))
   go_wp2_with (first|((with_reducible refine F (f:=46) rfl ?_);refine gl 46 (some 15) Tryd.func46 #[G #[L A0_0 l0_0.length c0_0,V I a0_1,V I a0_2,V I a0_3,O a0_4,V I a0_5,O a0_6,V I a0_7,V I a0_8,L A0_9 l0_9.length c0_9,L A0_10 l0_10.length c0_10,V I a0_11,O a0_12,V I a0_13]] ?_;(with_reducible refine(spec_MachineOk.calls k _ _ l0_0 a0_1 a0_2 a0_3 a0_4 a0_5 a0_6 a0_7 a0_8 _ _ l0_9 _ _ l0_10 a0_11 a0_12 a0_13 false _ ?side1 ?side2 ?side3 ?side4 ?side5 ?side6 A2.out).mono ?_);(case side1=>exact uC (Kd.C_below HR1_0.out HB.out));(case side2=>exact HC1_0.out);(case side3=>exact uC (Kd.C_below HR1_9.out HB.out));(case side4=>exact HC1_9.out);(case side5=>exact uC (Kd.C_below HR1_10.out HB.out));(case side6=>exact HC1_10.out);rintro e w7 ⟨rfl,hb⟩;refine⟨_,rfl,?_⟩;replace HO1:=eR HO1 hb;replace HO2:=eR HO2 hb;replace HO3:=eR HO3 hb;replace HO4:=eR HO4 hb;replace BK1:=eK BK1 hb;replace BK2:=eK BK2 hb;replace BK3:=eK BK3 hb;replace HB:=eB hb;clear hb))
   go_meet
   case rel=>exact⟨_,(true),rS,H',⟨oL⟩,⟨X (fR HO4.out) (fun _ hk=>⟨hk.1.2,hk.2⟩)⟩,⟨fR HO1.out⟩,⟨Kd.Q_of_R (X (fR HO2.out) (fun _ hk=>⟨hk.2,hk.1⟩))⟩,⟨X (fR HO3.out) (fun _ hk=>⟨hk.2,hk.1⟩)⟩,⟨bK BK1.out⟩,⟨bK BK2.out⟩,⟨bK BK3.out⟩,⟨uB⟩⟩
  subst c1
  rw[if_pos rfl]at H
  have H':=C H
  clear H
  have hnb4:=NB1_431.out
  have hnc4:=NB2_430.out
  have hnb5:=NB1_452.out
  have hnc5:=NB3_430.out
  obtain⟨hcz1_0,hcz1_1,hcz1_2,hcz1_3,hcz1_4,hcz1_5,hcz1_6,hcz1_7,hcz1_8,hcz1_9,hcz1_10,hcz1_11,hcz1_12,hcz1_13,hfz1_0,hfz1_1,hfz1_2,hfz1_3,hfz1_4,hfz1_5,hfz1_6,hfz1_7,hfz1_8,hfz1_9,hfz1_10,hfz1_11,hfz1_12,hfz1_13⟩:=d14 BK1.out
  go_wp2_with (first|((with_reducible refine F (f:=46) rfl ?_);refine gl 46 (some 15) Tryd.func46 #[G #[L A0_0 l0_0.length c0_0,V I a0_1,V I a0_2,V I a0_3,O a0_4,V I a0_5,O a0_6,V I a0_7,V I a0_8,L A0_9 l0_9.length c0_9,L A0_10 l0_10.length c0_10,V I a0_11,O a0_12,V I a0_13]] ?_;(with_reducible refine(spec_MachineOk.calls k _ _ l0_0 a0_1 a0_2 a0_3 a0_4 a0_5 a0_6 a0_7 a0_8 _ _ l0_9 _ _ l0_10 a0_11 a0_12 a0_13 true _ ?side1 ?side2 ?side3 ?side4 ?side5 ?side6 A2.out).mono ?_);(case side1=>exact uC (Kd.C_below HR1_0.out HB.out));(case side2=>exact HC1_0.out);(case side3=>exact uC (Kd.C_below HR1_9.out HB.out));(case side4=>exact HC1_9.out);(case side5=>exact uC (Kd.C_below HR1_10.out HB.out));(case side6=>exact HC1_10.out);rintro e w7 ⟨rfl,hb⟩;refine⟨_,rfl,?_⟩;replace HO1:=eR HO1 hb;replace HO2:=eR HO2 hb;replace HO3:=eR HO3 hb;replace HO4:=eR HO4 hb;replace BK1:=eK BK1 hb;replace BK2:=eK BK2 hb;replace BK3:=eK BK3 hb;replace HB:=eB hb;clear hb))
  go_meet
  case rel=>exact⟨_,(decide ((l1.length:Int) >40)),rS,H',⟨oL⟩,⟨X (fR HO4.out) (fun _ hk=>⟨hk.1.2,hk.2⟩)⟩,⟨fR HO1.out⟩,⟨Kd.Q_of_R (X (fR HO2.out) (fun _ hk=>⟨hk.2,hk.1⟩))⟩,⟨X (fR HO3.out) (fun _ hk=>⟨hk.2,hk.1⟩)⟩,⟨bK BK1.out⟩,⟨bK BK2.out⟩,⟨bK BK3.out⟩,⟨uB⟩⟩
 case rest=>
  clear HC3
  obtain⟨kq,x1_3,rfl,HA,HJ1,HO_1,HO_2,HO_3,HO_4,BK1,BK2,BK3,HB⟩:=hcut
  cases kq with
  |zero=>exact absurd HA.out (by simp[spec_RunActs.j0])
  |succ kj3=>
   have H:=HA.out
   clear HA
   simp only[spec_RunActs.j0]at H
   by_cases c1:x1_3=true
   ·subst c1
    rw[if_pos rfl]at H
    simp only[Option.some.injEq,Prod.mk.injEq]at H
    obtain⟨rfl,rfl,rfl,rfl,rfl,rfl,rfl,rfl,rfl,rfl,rfl,rfl,rfl,rfl,rfl⟩:=H
    have hnb4:=NB3_430.out
    have hnc4:=NB1_452.out
    have hnb5:=NB3_431.out
    have hnc5:=NB2_452.out
    obtain⟨hcz1_0,hcz1_1,hcz1_2,hcz1_3,hcz1_4,hcz1_5,hcz1_6,hcz1_7,hcz1_8,hcz1_9,hcz1_10,hcz1_11,hcz1_12,hcz1_13,hfz1_0,hfz1_1,hfz1_2,hfz1_3,hfz1_4,hfz1_5,hfz1_6,hfz1_7,hfz1_8,hfz1_9,hfz1_10,hfz1_11,hfz1_12,hfz1_13⟩:=d14 BK3.out
    have hnb6:=NB2_430.out
    have hnc6:=NB1_431.out
    have h_:=d14 BK2.out;(repeat(obtain⟨_,h_⟩:=h_))
    exact spec_RunActs.W1
   replace c1:=Bool.eq_false_iff.mpr c1
   subst c1
   rw[if_neg Bool.false_ne_true]at H
   have H':=C H
   clear H
   go_wp2
   go_loopg [7,8] kj3 (fun kq v7 v8 w'=>∃(x2_2:List Int) (x3_2:Int) (x4_2:List (S40)) (x5_2:Int) (x6_2:Int) (x7_2:Int) (x8_2:Bool) (x9_2:Int) (x10_2:Bool) (x11_2:Int) (x12_2:Int) (x13_2:List Int) (x14_2:List Int) (x15_2:Int) (x16_2:Bool) (x17_2:Int) (u453000:Value) (u453009:Value) (u453010:Value),v8=V I x3_2∧D (spec_RunActs.l0 kq l1 x2_2 x3_2 x4_2 x5_2 x6_2 x7_2 x8_2 x9_2 x10_2 x11_2 x12_2 x13_2 x14_2 x15_2 x16_2 x17_2=some (r1,r2,r3,r4,r5,r6,r7,r8,r9,r10,r11,r12,r13,r14,r15))∧D (kq≤kj3)∧D (Kd.R (Kd.int .i64) 3 w' w.heap.size (fun k_=>qm k_ u453009∧qm k_ u453010) v7 x2_2)∧D (Kd.R k40 40 w' w.heap.size (fun _=>True) u453000 x4_2)∧D (Kd.Q (Kd.int .i64) 3 w' w.heap.size (fun k_=>qm k_ v7∧qm k_ u453010) u453009 x13_2)∧D (Kd.R (Kd.int .i64) 3 w' w.heap.size (fun k_=>qm k_ v7∧qm k_ u453009) u453010 x14_2)∧D (w'.heap[gb1]? =some (.cells #[(L A0_0 l0_0.length c0_0),V I a0_1,V I a0_2,V I a0_3,O a0_4,V I a0_5,O a0_6,V I a0_7,V I a0_8,(L A0_9 l0_9.length c0_9),(L A0_10 l0_10.length c0_10),V I a0_11,O a0_12,V I a0_13] 45 (0,0)))∧D (w'.heap[gb2]? =some (.cells #[(L none 0 0),V I 0,V I 0,V I 0,O false,V I 0,O false,V I 0,V I 0,(L none 0 0),(L none 0 0),V I 0,O false,V I 0] 45 (0,0)))∧D (w'.heap[gb3]? =some (.cells #[u453000,V I x5_2,V I x6_2,V I x7_2,O x8_2,V I x9_2,O x10_2,V I x11_2,V I x12_2,u453009,u453010,V I x15_2,O x16_2,V I x17_2] 45 (0,0)))∧D (Below w.heap.size w w'))
   case atStart=>exact⟨(y1),(0),(t1),(t2),(t3),(t4),(t5),(t6),(t7),(t8),(t9),(t10),(t11),(t12),(t13),(t14),(L Ao1 t1.length co1),(L Ao2 t10.length co2),(L Ao3 t11.length co3),rS,H',⟨Nat.le_refl _⟩,⟨fR HO_1.out⟩,⟨fR HO_2.out⟩,⟨fQ HO_3.out⟩,⟨fR HO_4.out⟩,⟨bK BK1.out⟩,⟨bK BK2.out⟩,⟨bK BK3.out⟩,⟨uB⟩⟩
   case round=>
    clear H'
    obtain⟨x2_2,x3_2,x4_2,x5_2,x6_2,x7_2,x8_2,x9_2,x10_2,x11_2,x12_2,x13_2,x14_2,x15_2,x16_2,x17_2,u453000,u453009,u453010,rfl,HA,HK1,HO_1,HO_2,HO_3,HO_4,BK1,BK2,BK3,HB⟩:=hrel
    cases gk with
    |zero=>exact absurd HA.out (by simp[spec_RunActs.l0])
    |succ k2=>
     have H:=HA.out
     clear HA
     simp only[spec_RunActs.l0]at H
     by_cases c2:x3_2<(l1.length:Int)
     rotate_left
     ·rw[if_neg c2]at H
      have c2b0:decide (x3_2<(l1.length:Int))=false:=decide_eq_false c2
      clear c2
      simp only[Option.some.injEq,Prod.mk.injEq]at H
      obtain⟨rfl,rfl,rfl,rfl,rfl,rfl,rfl,rfl,rfl,rfl,rfl,rfl,rfl,rfl,rfl⟩:=H
      have hnb4:=NB3_430.out
      have hnc4:=NB1_452.out
      have hnb5:=NB3_431.out
      have hnc5:=NB2_452.out
      have h_:=d14 BK3.out;(repeat(obtain⟨_,h_⟩:=h_))
      obtain⟨Ao4,co4,eo4⟩:=Kd.R_slice HO_2.out
      subst eo4
      have hnb6:=NB2_430.out
      have hnc6:=NB1_431.out
      have h_:=d14 BK2.out;(repeat(obtain⟨_,h_⟩:=h_))
      obtain⟨Ao5,co5,eo5,_⟩:=Kd.Q_slice HO_3.out
      subst eo5
      obtain⟨Ao6,co6,eo6⟩:=Kd.R_slice HO_4.out
      subst eo6
      exact spec_RunActs.W1
     rw[if_pos c2]at H
     have c2b0:decide (x3_2<(l1.length:Int))=true:=decide_eq_true c2
     clear c2
     obtain⟨c3,H⟩:=np H
     have c3b0:decide (0≤x3_2)=true:=decide_eq_true c3
     clear c3
     obtain⟨⟨t16,t17,t18,t19,t20,t21,t22,t23,t24,t25,t26,t27,t28,t29,t30⟩,A2,H⟩:=bnd H
     dsimp only at H
     obtain⟨c4,H⟩:=np H
     have LMc1:=C c4
     clear c4
     obtain⟨y2,hy2⟩:∃y_:List Int,y_=(x2_2++ [t30]):=⟨_,rfl⟩
     replace H:(spec_RunActs.l0 k2 l1 y2 (wrap64 (x3_2+1)) t16 t17 t18 t19 t20 t21 t22 t23 t24 t25 t26 t27 t28 t29)=some (r1,r2,r3,r4,r5,r6,r7,r8,r9,r10,r11,r12,r13,r14,r15):=gy hy2 H
     have Ny2:=C hy2
     clear hy2
     have H':=C H
     clear H
     obtain⟨Ao4,co4,eo4⟩:=Kd.R_slice HO_2.out
     subst eo4
     obtain⟨Ao5,co5,eo5,_⟩:=Kd.Q_slice HO_3.out
     subst eo5
     obtain⟨Ao6,co6,eo6⟩:=Kd.R_slice HO_4.out
     subst eo6
     try go_wp2
     replace HO_1:=dR HO_1
     replace HO_2:=dR HO_2
     replace HO_3:=dQ HO_3
     replace HO_4:=dR HO_4
     replace BK1:=dK BK1
     replace BK2:=dK BK2
     replace BK3:=dK BK3
     replace HB:=dB HB
     have p1:0≤(x3_2:Int):=of_decide_eq_true (by first|(with_reducible assumption)|assumption)
     have q1:x3_2<(l1.length:Int):=of_decide_eq_true (by first|(with_reducible assumption)|assumption)
     obtain⟨ad1,e1,hx1_0,hx1_1,hx1_2,hx1_3⟩:=at_T26 HR2.out x3_2 p1 q1
     have hw1_3:=hx1_3
     have hw1_2:=hx1_2
     have hw1_1:=hx1_1
     have hw1_0:=hx1_0
     cases e1
     replace hx1_0:=hx HB hx1_0
     replace hx1_1:=hx HB hx1_1
     replace hx1_2:=hx HB hx1_2
     replace hx1_3:=hx HB hx1_3
     replace p1:=eq_true p1
     replace q1:=eq_true q1
     refine start_ (n:=12) (S:=fun w'=>cr14 w' gb3 (L Ao4 x4_2.length co4) (V I x5_2) (V I x6_2) (V I x7_2) (O x8_2) (V I x9_2) (O x10_2) (V I x11_2) (V I x12_2) (L Ao5 x13_2.length co5) (L Ao6 x14_2.length co6) (V I x15_2) (O x16_2) (V I x17_2) (w'.cell? (ad1.add ((x3_2).toNat * 4))=some (V I ((rd_T26 l1 x3_2).f0))∧w'.cell? ⟨(ad1.add ((x3_2).toNat * 4)).block,(ad1.add ((x3_2).toNat * 4)).off+1,none⟩=some (V I ((rd_T26 l1 x3_2).f1))∧w'.cell? ⟨(ad1.add ((x3_2).toNat * 4)).block,(ad1.add ((x3_2).toNat * 4)).off+2,none⟩=some (V I ((rd_T26 l1 x3_2).f2))∧w'.cell? ⟨(ad1.add ((x3_2).toNat * 4)).block,(ad1.add ((x3_2).toNat * 4)).off+3,none⟩=some (V I ((rd_T26 l1 x3_2).f3)))) (ds:= []) #[false,false,false,false,false,false,false,false,false,false,false,false] (by kernel_rfl) rfl rfl Fix.hi (fun hHeld=> ?_);refine with_tabW spec_RunActs.tab8 spec_RunActs.bits8 (fun HT_ HW_=> ?_)
     generalize wr.drew=w7 at HO_1 HO_2 HO_3 HO_4 BK1 BK2 BK3 HB hx1_0 hx1_1 hx1_2 hx1_3 hHeld ⊢
     refine pu 1 (some 32) ?_
     refine pu 2 (some 33) ?_
     refine pu 3 (some 34) ?_
     refine tu 0 (some 31) hHeld ?_
     refine tu 4 (some 35) hHeld ?_
     refine join_ (σ:=Value×Value×Value×Nat) 2 #[true,true,true,true,true,true,true,true,true,true,false,false] (fun s_=> [(36,.tuple #[G #[s_.1,V I t17,V I t18,V I t19,O t20,V I t21,O t22,V I t23,V I t24,s_.2.1,s_.2.2.1,V I t27,O t28,V I t29],V I t30]),(9,.pointer (some ⟨s_.2.2.2,0,none⟩)),(30,.tuple #[G #[s_.1,V I t17,V I t18,V I t19,O t20,V I t21,O t22,V I t23,V I t24,s_.2.1,s_.2.2.1,V I t27,O t28,V I t29],V I t30]),(37,G #[s_.1,V I t17,V I t18,V I t19,O t20,V I t21,O t22,V I t23,V I t24,s_.2.1,s_.2.2.1,V I t27,O t28,V I t29]),(38,V I t30)]) (fun s_ w'=>(cr14 w' gb3 (L Ao4 x4_2.length co4) (V I x5_2) (V I x6_2) (V I x7_2) (O x8_2) (V I x9_2) (O x10_2) (V I x11_2) (V I x12_2) (L Ao5 x13_2.length co5) (L Ao6 x14_2.length co6) (V I x15_2) (O x16_2) (V I x17_2) (w'.cell? (ad1.add ((x3_2).toNat * 4))=some (V I ((rd_T26 l1 x3_2).f0))∧w'.cell? ⟨(ad1.add ((x3_2).toNat * 4)).block,(ad1.add ((x3_2).toNat * 4)).off+1,none⟩=some (V I ((rd_T26 l1 x3_2).f1))∧w'.cell? ⟨(ad1.add ((x3_2).toNat * 4)).block,(ad1.add ((x3_2).toNat * 4)).off+2,none⟩=some (V I ((rd_T26 l1 x3_2).f2))∧w'.cell? ⟨(ad1.add ((x3_2).toNat * 4)).block,(ad1.add ((x3_2).toNat * 4)).off+3,none⟩=some (V I ((rd_T26 l1 x3_2).f3))))∧(Kd.R k40 40 w' w.heap.size (fun k_=>qn k_ Ao4 x4_2.length co4) s_.1 t16)∧(Kd.Q (Kd.int .i64) 3 w' w.heap.size (fun k_=>some k_≠(s_.2.2.1:Value).ownBlock∧qn k_ Ao5 x13_2.length co5∧qn k_ Ao6 x14_2.length co6∧qm k_ u7) s_.2.1 t25)∧(Kd.R (Kd.int .i64) 3 w' w.heap.size (fun k_=>some k_≠(s_.2.1:Value).ownBlock∧qn k_ Ao5 x13_2.length co5∧qn k_ Ao6 x14_2.length co6∧qm k_ u7) s_.2.2.1 t26)∧(Kd.R k40 40 w' w.heap.size (fun k_=>some k_≠(s_.1:Value).ownBlock) (L Ao4 x4_2.length co4) x4_2)∧(Kd.Q (Kd.int .i64) 3 w' w.heap.size (fun k_=>some k_≠(s_.2.1:Value).ownBlock∧some k_≠(s_.2.2.1:Value).ownBlock∧qn k_ Ao6 x14_2.length co6∧qm k_ u7) (L Ao5 x13_2.length co5) x13_2)∧(Kd.R (Kd.int .i64) 3 w' w.heap.size (fun k_=>some k_≠(s_.2.1:Value).ownBlock∧some k_≠(s_.2.2.1:Value).ownBlock∧qn k_ Ao5 x13_2.length co5∧qm k_ u7) (L Ao6 x14_2.length co6) x14_2)∧(Kd.R (Kd.int .i64) 3 w' w.heap.size (fun k_=>some k_≠(s_.2.1:Value).ownBlock∧some k_≠(s_.2.2.1:Value).ownBlock∧qn k_ Ao5 x13_2.length co5∧qn k_ Ao6 x14_2.length co6) u7 x2_2)∧(w'.heap[gb1]? =some (.cells #[L A0_0 l0_0.length c0_0,V I a0_1,V I a0_2,V I a0_3,O a0_4,V I a0_5,O a0_6,V I a0_7,V I a0_8,L A0_9 l0_9.length c0_9,L A0_10 l0_10.length c0_10,V I a0_11,O a0_12,V I a0_13] 45 (0,0)))∧(w'.heap[gb2]? =some (.cells #[L none 0 0,V I 0,V I 0,V I 0,O false,V I 0,O false,V I 0,V I 0,L none 0 0,L none 0 0,V I 0,O false,V I 0] 45 (0,0)))∧(w'.heap[gb3]? =some (.cells #[L Ao4 x4_2.length co4,V I x5_2,V I x6_2,V I x7_2,O x8_2,V I x9_2,O x10_2,V I x11_2,V I x12_2,L Ao5 x13_2.length co5,L Ao6 x14_2.length co6,V I x15_2,O x16_2,V I x17_2] 45 (0,0)))∧(w'.heap[s_.2.2.2]? =some (.cells #[L none 0 0,V I 0,V I 0,V I 0,O false,V I 0,O false,V I 0,V I 0,L none 0 0,L none 0 0,V I 0,O false,V I 0] 45 (0,0)))∧(w.heap.size≤s_.2.2.2)∧(w.heap.size≤s_.2.2.2)∧(gb1≠s_.2.2.2)∧(s_.2.2.2≠gb1)∧(gb2≠s_.2.2.2)∧(s_.2.2.2≠gb2)∧(gb3≠s_.2.2.2)∧(s_.2.2.2≠gb3)∧(Below w.heap.size w w')) ?_ ?_
     rotate_left
     ·intro hCont
      refine two_ (i:=5) (j:=9) (Ni:=some 36) (Nj:=some 9) #[true,true,true,true,true,true,false,false,false,false,false,false] #[true,true,true,true,true,false,false,false,false,true,false,false] rfl rfl rfl rfl (two_of HT_.out (by kernel_rfl)) (by decide) (by decide) (fun K hK=> ?_) (fun K hK=> ?_)
      ·skip
       refine gs Tryd.func60 #[G #[L Ao4 x4_2.length co4,V I x5_2,V I x6_2,V I x7_2,O x8_2,V I x9_2,O x10_2,V I x11_2,V I x12_2,L Ao5 x13_2.length co5,L Ao6 x14_2.length co6,V I x15_2,O x16_2,V I x17_2],G #[V I ((rd_T26 l1 x3_2).f0),V I ((rd_T26 l1 x3_2).f1),V I ((rd_T26 l1 x3_2).f2),V I ((rd_T26 l1 x3_2).f3)]] ?_
       with_reducible refine(spec_DoAct.calls k2 _ _ x4_2 x5_2 x6_2 x7_2 x8_2 x9_2 x10_2 x11_2 x12_2 _ _ x13_2 _ _ x14_2 x15_2 x16_2 x17_2 ((rd_T26 l1 x3_2).f0) ((rd_T26 l1 x3_2).f1) ((rd_T26 l1 x3_2).f2) ((rd_T26 l1 x3_2).f3) t16 t17 t18 t19 t20 t21 t22 t23 t24 t25 t26 t27 t28 t29 t30 _ ?side1 ?side2 ?side3 ?side4 ?side5 ?side6 A2.out).mono ?_
       (case side1=>exact uC (Kd.R_reads' HO_2.out).2.2)
       (case side2=>exact(Kd.R_reads' HO_2.out).2.1)
       (case side3=>exact uC (Kd.Q_reads' HO_3.out).2.2)
       (case side4=>exact(Kd.Q_reads' HO_3.out).2.1)
       (case side5=>exact uC (Kd.R_reads' HO_4.out).2.2)
       (case side6=>exact(Kd.R_reads' HO_4.out).2.1)
       rintro e w8 ⟨v5,v6,v9,rfl,ho1,ho2,ho3,hb⟩
       refine⟨_,rfl,?_⟩
       have HO5:=C (Kd.R_lower (Kd.R_new' ho1 (Kd.R_lt (uR HO_2.out))) (below_size uB))
       have HO6:=C (Kd.Q_lower (Kd.Q_new' (Kd.Q_new' (Kd.Q_new' ho2 (Kd.R_lt (uR HO_1.out))) (Kd.Q_lt (uQ HO_3.out))) (Kd.R_lt (uR HO_4.out))) (below_size uB))
       have HO7:=C (Kd.R_lower (Kd.R_new' (Kd.R_new' (Kd.R_new' ho3 (Kd.R_lt (uR HO_1.out))) (Kd.Q_lt (uQ HO_3.out))) (Kd.R_lt (uR HO_4.out))) (below_size uB))
       replace HO_1:=C (X (Kd.R_told (Kd.R_told (Kd.R_old (uR HO_1.out) hb) (Kd.Q_base ho2)) (Kd.R_base ho3)) (fun _ h_=>h_.1))
       replace HO_2:=C (Kd.R_elder' (uR HO_2.out) (Kd.R_base ho1) hb)
       replace HO_3:=C (Kd.Q_mono (Kd.Q_told (Kd.Q_told (Kd.Q_old (uQ HO_3.out) hb) (Kd.Q_base ho2)) (Kd.R_base ho3)) (fun _ h_=>h_.1))
       replace HO_4:=C (X (Kd.R_told (Kd.R_told (Kd.R_old (uR HO_4.out) hb) (Kd.Q_base ho2)) (Kd.R_base ho3)) (fun _ h_=>h_.1))
       replace BK1:=eK BK1 hb
       replace BK2:=eK BK2 hb
       replace BK3:=eK BK3 hb
       replace HB:=eB hb
       (try clear hb)
       refine hK.out _ _ ⟨(blk_cell BK3.out 0).trans rfl,(blk_cell BK3.out 1).trans rfl,(blk_cell BK3.out 2).trans rfl,(blk_cell BK3.out 3).trans rfl,(blk_cell BK3.out 4).trans rfl,(blk_cell BK3.out 5).trans rfl,(blk_cell BK3.out 6).trans rfl,(blk_cell BK3.out 7).trans rfl,(blk_cell BK3.out 8).trans rfl,(blk_cell BK3.out 9).trans rfl,(blk_cell BK3.out 10).trans rfl,(blk_cell BK3.out 11).trans rfl,(blk_cell BK3.out 12).trans rfl,(blk_cell BK3.out 13).trans rfl,((HB.out.cell (E w _ hw1_0)).trans hw1_0),((HB.out.cell (E w _ hw1_1)).trans hw1_1),((HB.out.cell (E w _ hw1_2)).trans hw1_2),((HB.out.cell (E w _ hw1_3)).trans hw1_3)⟩ (fun hHeld=> ?_)
       clear hK K
       refine nu (N:=(some 36)) ?_
       refine pu 6 (some 30) ?_
       refine pu 7 (some 37) ?_
       refine pu 8 (some 38) ?_
       refine ou 9 (some 9) (fun K hK=> ?_)
       refine box_step ?hg (N:=9) ?hd (cs:= #[L none 0 0,V I 0,V I 0,V I 0,O false,V I 0,O false,V I 0,V I 0,L none 0 0,L none 0 0,V I 0,O false,V I 0]) (t:=45) ?hr ?_;(case hd=>rfl);(case hg=>rfl);(case hr=>exact Fix.hr)
       intro gb4 hg w9 hbox hb
       have BK4:=C hbox
       have GW4:D (w.heap.size≤gb4):=gE hg
       have GE4:D (w.heap.size≤gb4):=gE hg
       have NB1_479:=nL hg BK1
       have NB4_430:=nG hg BK1
       have NB2_479:=nL hg BK2
       have NB4_431:=nG hg BK2
       have NB3_479:=nL hg BK3
       have NB4_452:=nG hg BK3
       replace HO_1:=eR HO_1 hb
       replace HO_2:=eR HO_2 hb
       replace HO_3:=eQ HO_3 hb
       replace HO_4:=eR HO_4 hb
       replace HO5:=eR HO5 hb
       replace HO6:=eQ HO6 hb
       replace HO7:=eR HO7 hb
       replace BK1:=eK BK1 hb
       replace BK2:=eK BK2 hb
       replace BK3:=eK BK3 hb
       replace HB:=eB hb
       clear hb hbox hg
       refine hK.out _ _ ⟨(blk_cell BK3.out 0).trans rfl,(blk_cell BK3.out 1).trans rfl,(blk_cell BK3.out 2).trans rfl,(blk_cell BK3.out 3).trans rfl,(blk_cell BK3.out 4).trans rfl,(blk_cell BK3.out 5).trans rfl,(blk_cell BK3.out 6).trans rfl,(blk_cell BK3.out 7).trans rfl,(blk_cell BK3.out 8).trans rfl,(blk_cell BK3.out 9).trans rfl,(blk_cell BK3.out 10).trans rfl,(blk_cell BK3.out 11).trans rfl,(blk_cell BK3.out 12).trans rfl,(blk_cell BK3.out 13).trans rfl,((HB.out.cell (E w _ hw1_0)).trans hw1_0),((HB.out.cell (E w _ hw1_1)).trans hw1_1),((HB.out.cell (E w _ hw1_2)).trans hw1_2),((HB.out.cell (E w _ hw1_3)).trans hw1_3)⟩ (fun hHeld=> ?_)
       clear hK K
       refine nu (N:=(some 9)) ?_
       exact norm_ (by simp only[putAll,Act.put,List.setIfInBounds_toArray,List.set_cons_zero,List.set_cons_succ]) (hCont (v5,v6,v9,gb4) _ ⟨hHeld,(X (fR HO5.out) (fun _ hk=>hk.2)),(Kd.Q_mono (fQ HO6.out) (fun _ hk=>⟨hk.1.1.1,⟨hk.1.2,⟨hk.2,hk.1.1.2⟩⟩⟩)),(X (fR HO7.out) (fun _ hk=>⟨hk.1.1.1,⟨hk.1.2,⟨hk.2,hk.1.1.2⟩⟩⟩)),(X (fR HO_2.out) (fun _ hk=>hk.2)),(Kd.Q_mono (fQ HO_3.out) (fun _ hk=>⟨hk.1.2,⟨hk.2,⟨hk.1.1.2,hk.1.1.1⟩⟩⟩)),(X (fR HO_4.out) (fun _ hk=>⟨hk.1.2,⟨hk.2,⟨hk.1.1.2,hk.1.1.1⟩⟩⟩)),(X (fR HO_1.out) (fun _ hk=>⟨hk.1.2,⟨hk.2,⟨hk.1.1.1,hk.1.1.2⟩⟩⟩)),(uK BK1.out),(uK BK2.out),(uK BK3.out),(uK BK4.out),GW4.out,GE4.out,NB1_479.out,NB4_430.out,NB2_479.out,NB4_431.out,NB3_479.out,NB4_452.out,uB⟩)
      ·skip
       refine box_step ?hg (N:=9) ?hd (cs:= #[L none 0 0,V I 0,V I 0,V I 0,O false,V I 0,O false,V I 0,V I 0,L none 0 0,L none 0 0,V I 0,O false,V I 0]) (t:=45) ?hr ?_;(case hd=>rfl);(case hg=>rfl);(case hr=>exact Fix.hr)
       intro gb4 hg w8 hbox hb
       have BK4:=C hbox
       have GW4:D (w.heap.size≤gb4):=gE hg
       have GE4:D (w.heap.size≤gb4):=gE hg
       have NB1_479:=nL hg BK1
       have NB4_430:=nG hg BK1
       have NB2_479:=nL hg BK2
       have NB4_431:=nG hg BK2
       have NB3_479:=nL hg BK3
       have NB4_452:=nG hg BK3
       replace HO_1:=eR HO_1 hb
       replace HO_2:=eR HO_2 hb
       replace HO_3:=eQ HO_3 hb
       replace HO_4:=eR HO_4 hb
       replace BK1:=eK BK1 hb
       replace BK2:=eK BK2 hb
       replace BK3:=eK BK3 hb
       replace HB:=eB hb
       clear hb hbox hg
       refine hK.out _ _ ⟨(blk_cell BK3.out 0).trans rfl,(blk_cell BK3.out 1).trans rfl,(blk_cell BK3.out 2).trans rfl,(blk_cell BK3.out 3).trans rfl,(blk_cell BK3.out 4).trans rfl,(blk_cell BK3.out 5).trans rfl,(blk_cell BK3.out 6).trans rfl,(blk_cell BK3.out 7).trans rfl,(blk_cell BK3.out 8).trans rfl,(blk_cell BK3.out 9).trans rfl,(blk_cell BK3.out 10).trans rfl,(blk_cell BK3.out 11).trans rfl,(blk_cell BK3.out 12).trans rfl,(blk_cell BK3.out 13).trans rfl,((HB.out.cell (E w _ hw1_0)).trans hw1_0),((HB.out.cell (E w _ hw1_1)).trans hw1_1),((HB.out.cell (E w _ hw1_2)).trans hw1_2),((HB.out.cell (E w _ hw1_3)).trans hw1_3)⟩ (fun hHeld=> ?_)
       clear hK K
       refine nu (N:=(some 9)) ?_
       refine ou 5 (some 36) (fun K hK=> ?_)
       refine gs Tryd.func60 #[G #[L Ao4 x4_2.length co4,V I x5_2,V I x6_2,V I x7_2,O x8_2,V I x9_2,O x10_2,V I x11_2,V I x12_2,L Ao5 x13_2.length co5,L Ao6 x14_2.length co6,V I x15_2,O x16_2,V I x17_2],G #[V I ((rd_T26 l1 x3_2).f0),V I ((rd_T26 l1 x3_2).f1),V I ((rd_T26 l1 x3_2).f2),V I ((rd_T26 l1 x3_2).f3)]] ?_
       with_reducible refine(spec_DoAct.calls k2 _ _ x4_2 x5_2 x6_2 x7_2 x8_2 x9_2 x10_2 x11_2 x12_2 _ _ x13_2 _ _ x14_2 x15_2 x16_2 x17_2 ((rd_T26 l1 x3_2).f0) ((rd_T26 l1 x3_2).f1) ((rd_T26 l1 x3_2).f2) ((rd_T26 l1 x3_2).f3) t16 t17 t18 t19 t20 t21 t22 t23 t24 t25 t26 t27 t28 t29 t30 _ ?side1 ?side2 ?side3 ?side4 ?side5 ?side6 A2.out).mono ?_
       (case side1=>exact uC (Kd.R_reads' HO_2.out).2.2)
       (case side2=>exact(Kd.R_reads' HO_2.out).2.1)
       (case side3=>exact uC (Kd.Q_reads' HO_3.out).2.2)
       (case side4=>exact(Kd.Q_reads' HO_3.out).2.1)
       (case side5=>exact uC (Kd.R_reads' HO_4.out).2.2)
       (case side6=>exact(Kd.R_reads' HO_4.out).2.1)
       rintro e w9 ⟨v5,v6,v9,rfl,ho1,ho2,ho3,hb⟩
       refine⟨_,rfl,?_⟩
       have HO5:=C (Kd.R_lower (Kd.R_new' ho1 (Kd.R_lt (uR HO_2.out))) (below_size uB))
       have HO6:=C (Kd.Q_lower (Kd.Q_new' (Kd.Q_new' (Kd.Q_new' ho2 (Kd.R_lt (uR HO_1.out))) (Kd.Q_lt (uQ HO_3.out))) (Kd.R_lt (uR HO_4.out))) (below_size uB))
       have HO7:=C (Kd.R_lower (Kd.R_new' (Kd.R_new' (Kd.R_new' ho3 (Kd.R_lt (uR HO_1.out))) (Kd.Q_lt (uQ HO_3.out))) (Kd.R_lt (uR HO_4.out))) (below_size uB))
       replace HO_1:=C (X (Kd.R_told (Kd.R_told (Kd.R_old (uR HO_1.out) hb) (Kd.Q_base ho2)) (Kd.R_base ho3)) (fun _ h_=>h_.1))
       replace HO_2:=C (Kd.R_elder' (uR HO_2.out) (Kd.R_base ho1) hb)
       replace HO_3:=C (Kd.Q_mono (Kd.Q_told (Kd.Q_told (Kd.Q_old (uQ HO_3.out) hb) (Kd.Q_base ho2)) (Kd.R_base ho3)) (fun _ h_=>h_.1))
       replace HO_4:=C (X (Kd.R_told (Kd.R_told (Kd.R_old (uR HO_4.out) hb) (Kd.Q_base ho2)) (Kd.R_base ho3)) (fun _ h_=>h_.1))
       replace BK1:=eK BK1 hb
       replace BK2:=eK BK2 hb
       replace BK3:=eK BK3 hb
       replace BK4:=eK BK4 hb
       replace HB:=eB hb
       (try clear hb)
       refine hK.out _ _ ⟨(blk_cell BK3.out 0).trans rfl,(blk_cell BK3.out 1).trans rfl,(blk_cell BK3.out 2).trans rfl,(blk_cell BK3.out 3).trans rfl,(blk_cell BK3.out 4).trans rfl,(blk_cell BK3.out 5).trans rfl,(blk_cell BK3.out 6).trans rfl,(blk_cell BK3.out 7).trans rfl,(blk_cell BK3.out 8).trans rfl,(blk_cell BK3.out 9).trans rfl,(blk_cell BK3.out 10).trans rfl,(blk_cell BK3.out 11).trans rfl,(blk_cell BK3.out 12).trans rfl,(blk_cell BK3.out 13).trans rfl,((HB.out.cell (E w _ hw1_0)).trans hw1_0),((HB.out.cell (E w _ hw1_1)).trans hw1_1),((HB.out.cell (E w _ hw1_2)).trans hw1_2),((HB.out.cell (E w _ hw1_3)).trans hw1_3)⟩ (fun hHeld=> ?_)
       clear hK K
       refine nu (N:=(some 36)) ?_
       refine pu 6 (some 30) ?_
       refine pu 7 (some 37) ?_
       refine pu 8 (some 38) ?_
       exact norm_ (by simp only[putAll,Act.put,List.setIfInBounds_toArray,List.set_cons_zero,List.set_cons_succ]) (hCont (v5,v6,v9,gb4) _ ⟨hHeld,(X (fR HO5.out) (fun _ hk=>hk.2)),(Kd.Q_mono (fQ HO6.out) (fun _ hk=>⟨hk.1.1.1,⟨hk.1.2,⟨hk.2,hk.1.1.2⟩⟩⟩)),(X (fR HO7.out) (fun _ hk=>⟨hk.1.1.1,⟨hk.1.2,⟨hk.2,hk.1.1.2⟩⟩⟩)),(X (fR HO_2.out) (fun _ hk=>hk.2)),(Kd.Q_mono (fQ HO_3.out) (fun _ hk=>⟨hk.1.2,⟨hk.2,⟨hk.1.1.2,hk.1.1.1⟩⟩⟩)),(X (fR HO_4.out) (fun _ hk=>⟨hk.1.2,⟨hk.2,⟨hk.1.1.2,hk.1.1.1⟩⟩⟩)),(X (fR HO_1.out) (fun _ hk=>⟨hk.1.2,⟨hk.2,⟨hk.1.1.1,hk.1.1.2⟩⟩⟩)),(uK BK1.out),(uK BK2.out),(uK BK3.out),(uK BK4.out),GW4.out,GE4.out,NB1_479.out,NB4_430.out,NB2_479.out,NB4_431.out,NB3_479.out,NB4_452.out,uB⟩)
     rintro⟨v5,v6,v9,gb4⟩ w8 ⟨hS_,h1_,h2_,h3_,h4_,h5_,h6_,h7_,h8_,h9_,h10_,h11_,h12_,h13_,h14_,h15_,h16_,h17_,h18_,h19_,h20_⟩
     have n0_:D (Kd.R k40 40 w8 w.heap.size (fun k_=>qn k_ Ao4 x4_2.length co4) v5 t16):=⟨h1_⟩
     have n1_:D (Kd.Q (Kd.int .i64) 3 w8 w.heap.size (fun k_=>qm k_ v9∧qn k_ Ao5 x13_2.length co5∧qn k_ Ao6 x14_2.length co6∧qm k_ u7) v6 t25):=⟨h2_⟩
     have n2_:D (Kd.R (Kd.int .i64) 3 w8 w.heap.size (fun k_=>qm k_ v6∧qn k_ Ao5 x13_2.length co5∧qn k_ Ao6 x14_2.length co6∧qm k_ u7) v9 t26):=⟨h3_⟩
     have n3_:D (Kd.R k40 40 w8 w.heap.size (fun k_=>qm k_ v5) (L Ao4 x4_2.length co4) x4_2):=⟨h4_⟩
     have n4_:D (Kd.Q (Kd.int .i64) 3 w8 w.heap.size (fun k_=>qm k_ v6∧qm k_ v9∧qn k_ Ao6 x14_2.length co6∧qm k_ u7) (L Ao5 x13_2.length co5) x13_2):=⟨h5_⟩
     have n5_:D (Kd.R (Kd.int .i64) 3 w8 w.heap.size (fun k_=>qm k_ v6∧qm k_ v9∧qn k_ Ao5 x13_2.length co5∧qm k_ u7) (L Ao6 x14_2.length co6) x14_2):=⟨h6_⟩
     have n6_:D (Kd.R (Kd.int .i64) 3 w8 w.heap.size (fun k_=>qm k_ v6∧qm k_ v9∧qn k_ Ao5 x13_2.length co5∧qn k_ Ao6 x14_2.length co6) u7 x2_2):=⟨h7_⟩
     have n7_:D (w8.heap[gb1]? =some (.cells #[L A0_0 l0_0.length c0_0,V I a0_1,V I a0_2,V I a0_3,O a0_4,V I a0_5,O a0_6,V I a0_7,V I a0_8,L A0_9 l0_9.length c0_9,L A0_10 l0_10.length c0_10,V I a0_11,O a0_12,V I a0_13] 45 (0,0))):=⟨h8_⟩
     have n8_:D (w8.heap[gb2]? =some (.cells #[L none 0 0,V I 0,V I 0,V I 0,O false,V I 0,O false,V I 0,V I 0,L none 0 0,L none 0 0,V I 0,O false,V I 0] 45 (0,0))):=⟨h9_⟩
     have n9_:D (w8.heap[gb3]? =some (.cells #[L Ao4 x4_2.length co4,V I x5_2,V I x6_2,V I x7_2,O x8_2,V I x9_2,O x10_2,V I x11_2,V I x12_2,L Ao5 x13_2.length co5,L Ao6 x14_2.length co6,V I x15_2,O x16_2,V I x17_2] 45 (0,0))):=⟨h10_⟩
     have n10_:D (w8.heap[gb4]? =some (.cells #[L none 0 0,V I 0,V I 0,V I 0,O false,V I 0,O false,V I 0,V I 0,L none 0 0,L none 0 0,V I 0,O false,V I 0] 45 (0,0))):=⟨h11_⟩
     have n11_:D (w.heap.size≤gb4):=⟨h12_⟩
     have n12_:D (w.heap.size≤gb4):=⟨h13_⟩
     have n13_:D (gb1≠gb4):=⟨h14_⟩
     have n14_:D (gb4≠gb1):=⟨h15_⟩
     have n15_:D (gb2≠gb4):=⟨h16_⟩
     have n16_:D (gb4≠gb2):=⟨h17_⟩
     have n17_:D (gb3≠gb4):=⟨h18_⟩
     have n18_:D (gb4≠gb3):=⟨h19_⟩
     have n19_:D (Below w.heap.size w w8):=⟨h20_⟩
     clear HO_1
     clear HO_2
     clear HO_3
     clear HO_4
     clear BK1
     clear BK2
     clear BK3
     clear HB
     clear h1_ h2_ h3_ h4_ h5_ h6_ h7_ h8_ h9_ h10_ h11_ h12_ h13_ h14_ h15_ h16_ h17_ h18_ h19_ h20_
     have HO5:=n0_
     have HO6:=n1_
     have HO7:=n2_
     have HO_2:=n3_
     have HO_3:=n4_
     have HO_4:=n5_
     have HO_1:=n6_
     have BK1:=n7_
     have BK2:=n8_
     have BK3:=n9_
     have BK4:=n10_
     have GW4:=n11_
     have GE4:=n12_
     have NB1_479:=n13_
     have NB4_430:=n14_
     have NB2_479:=n15_
     have NB4_431:=n16_
     have NB3_479:=n17_
     have NB4_452:=n18_
     have HB:=n19_
     clear n0_ n1_ n2_ n3_ n4_ n5_ n6_ n7_ n8_ n9_ n10_ n11_ n12_ n13_ n14_ n15_ n16_ n17_ n18_ n19_
     have hHeld:w8.cell? ⟨gb3,0,none⟩=some (L Ao4 x4_2.length co4)∧w8.cell? ⟨gb3,1,none⟩=some (V I x5_2)∧w8.cell? ⟨gb3,2,none⟩=some (V I x6_2)∧w8.cell? ⟨gb3,3,none⟩=some (V I x7_2)∧w8.cell? ⟨gb3,4,none⟩=some (O x8_2)∧w8.cell? ⟨gb3,5,none⟩=some (V I x9_2)∧w8.cell? ⟨gb3,6,none⟩=some (O x10_2)∧w8.cell? ⟨gb3,7,none⟩=some (V I x11_2)∧w8.cell? ⟨gb3,8,none⟩=some (V I x12_2)∧w8.cell? ⟨gb3,9,none⟩=some (L Ao5 x13_2.length co5)∧w8.cell? ⟨gb3,10,none⟩=some (L Ao6 x14_2.length co6)∧w8.cell? ⟨gb3,11,none⟩=some (V I x15_2)∧w8.cell? ⟨gb3,12,none⟩=some (O x16_2)∧w8.cell? ⟨gb3,13,none⟩=some (V I x17_2)∧w8.cell? (ad1.add ((x3_2).toNat * 4))=some (V I ((rd_T26 l1 x3_2).f0))∧w8.cell? ⟨(ad1.add ((x3_2).toNat * 4)).block,(ad1.add ((x3_2).toNat * 4)).off+1,none⟩=some (V I ((rd_T26 l1 x3_2).f1))∧w8.cell? ⟨(ad1.add ((x3_2).toNat * 4)).block,(ad1.add ((x3_2).toNat * 4)).off+2,none⟩=some (V I ((rd_T26 l1 x3_2).f2))∧w8.cell? ⟨(ad1.add ((x3_2).toNat * 4)).block,(ad1.add ((x3_2).toNat * 4)).off+3,none⟩=some (V I ((rd_T26 l1 x3_2).f3)):=hS_
     obtain⟨Ao7,co7,eo7⟩:=Kd.R_slice HO5.out
     (first|subst eo7|(injection eo7 with f1_ f2_ f3_;have f4_:=f1_.symm;have f5_:=f3_.symm;clear f1_ f2_ f3_;subst f4_;subst f5_))
     obtain⟨Ao8,co8,eo8,_⟩:=Kd.Q_slice HO6.out
     (first|subst eo8|(injection eo8 with f1_ f2_ f3_;have f4_:=f1_.symm;have f5_:=f3_.symm;clear f1_ f2_ f3_;subst f4_;subst f5_))
     obtain⟨Ao9,co9,eo9⟩:=Kd.R_slice HO7.out
     (first|subst eo9|(injection eo9 with f1_ f2_ f3_;have f4_:=f1_.symm;have f5_:=f3_.symm;clear f1_ f2_ f3_;subst f4_;subst f5_))
     refine norm_ (a':= ?_) ?_ ?_
     rotate_left
     ·simp only[putAll,Act.put,List.setIfInBounds_toArray,List.set_cons_zero,List.set_cons_succ]
      rfl
     refine ou 10 (none) (fun K hK=> ?_)
     obtain⟨hs1,hs2,hs3,hs4,hs5,hs6,hs7,hs8,hs9,hs10,hs11,hs12,hs13,hs14,hfs1,hfs2,hfs3,hfs4,hfs5,hfs6,hfs7,hfs8,hfs9,hfs10,hfs11,hfs12,hfs13,hfs14⟩:=d14 BK4.out
     have hns1_0:=NB1_479.out
     have hns1_1:=NB2_479.out
     have hns1_2:=NB3_479.out
     have hms1_0:=NB4_430.out
     have hms1_1:=NB4_431.out
     have hms1_2:=NB4_452.out
     refine skip_ (w1:= ?_) (by rfl) rfl ?_ ?_
     rotate_left
     ·go_simp
      rfl
     refine hK.out _ _ ⟨(cf14 NB3_479.out (hHeld.1)),(cf14 NB3_479.out (hHeld.2.1)),(cf14 NB3_479.out (hHeld.2.2.1)),(cf14 NB3_479.out (hHeld.2.2.2.1)),(cf14 NB3_479.out (hHeld.2.2.2.2.1)),(cf14 NB3_479.out (hHeld.2.2.2.2.2.1)),(cf14 NB3_479.out (hHeld.2.2.2.2.2.2.1)),(cf14 NB3_479.out (hHeld.2.2.2.2.2.2.2.1)),(cf14 NB3_479.out (hHeld.2.2.2.2.2.2.2.2.1)),(cf14 NB3_479.out (hHeld.2.2.2.2.2.2.2.2.2.1)),(cf14 NB3_479.out (hHeld.2.2.2.2.2.2.2.2.2.2.1)),(cf14 NB3_479.out (hHeld.2.2.2.2.2.2.2.2.2.2.2.1)),(cf14 NB3_479.out (hHeld.2.2.2.2.2.2.2.2.2.2.2.2.1)),(cf14 NB3_479.out (hHeld.2.2.2.2.2.2.2.2.2.2.2.2.2.1)),(cf14 (nl hw1_0 GW4) (hHeld.2.2.2.2.2.2.2.2.2.2.2.2.2.2.1)),(cf14 (nl hw1_1 GW4) (hHeld.2.2.2.2.2.2.2.2.2.2.2.2.2.2.2.1)),(cf14 (nl hw1_2 GW4) (hHeld.2.2.2.2.2.2.2.2.2.2.2.2.2.2.2.2.1)),(cf14 (nl hw1_3 GW4) (hHeld.2.2.2.2.2.2.2.2.2.2.2.2.2.2.2.2.2))⟩ (fun hHeld=> ?_)
     clear hK K
     refine pu 11 (some 10) ?_
     refine done_ (done_of HT_.out (by kernel_rfl)) ?_
     have hnb4:=NB4_430.out
     have hnc4:=NB1_479.out
     have hnb5:=NB4_431.out
     have hnc5:=NB2_479.out
     have hnb6:=NB4_452.out
     have hnc6:=NB3_479.out
     have h_:=d14 BK4.out;(repeat(obtain⟨_,h_⟩:=h_))
     have hnb7:=NB3_430.out
     have hnc7:=NB1_452.out
     have hnb8:=NB3_431.out
     have hnc8:=NB2_452.out
     have h_:=d14 BK3.out;(repeat(obtain⟨_,h_⟩:=h_))
     try go_wp2_with (first|((with_reducible refine gate_builtin (b:=.append) (xs:= #[.tmp 40,.tmp 42]) rfl ?_);(try(refine gate_guard (by rfl) ?_;dsimp only));at_builtin;refine Kd.R_append (Kd.int .i64) (w0:=w) w.heap.size rfl (.tmp 40) (.tmp 42) 41 3 (V I 0) 8 rfl Tryd.underlying41 info3 rfl (by decide) (by omega) u7 x2_2 t30 [V I t30] (fun k_=>qn k_ Ao5 x13_2.length co5∧qn k_ Ao6 x14_2.length co6∧qn k_ Ao8 t25.length co8∧qn k_ Ao9 t26.length co9) (fun _=>False) rfl (by first|(go_simp;done)|(go_simp;rfl)) ?aP (fun _ hk=>hk.elim) ?aF ?aO ?aB ?aS ?aL ?_;(case aP=>exact rfl);(case aB=>exact uB);(case aF=>exact(fun k_ hk=>⟨Kd.fresh' (Kd.Q_lt (Kd.Q_mono (Kd.Q_mono (fQ (Kd.Q_types (Kd.Q_types HO_3.out BK4.out (by decide)) BK3.out (by decide))) (fun _ h_=>h_.1)) (fun _ h_=>h_.1))) k_ hk,Kd.fresh' (Kd.R_lt (X (X (fR (Y (Y HO_4.out BK4.out (by decide)) BK3.out (by decide))) (fun _ h_=>h_.1)) (fun _ h_=>h_.1))) k_ hk,Kd.fresh' (Kd.Q_lt (Kd.Q_mono (Kd.Q_mono (fQ (Kd.Q_types (Kd.Q_types HO6.out BK4.out (by decide)) BK3.out (by decide))) (fun _ h_=>h_.1)) (fun _ h_=>h_.1))) k_ hk,Kd.fresh' (Kd.R_lt (X (X (fR (Y (Y HO7.out BK4.out (by decide)) BK3.out (by decide))) (fun _ h_=>h_.1)) (fun _ h_=>h_.1))) k_ hk⟩));(case aO=>exact(X (fR (Y (Y HO_1.out BK4.out (by decide)) BK3.out (by decide))) (fun _ hk=>⟨hk.1.1.2.2.1,⟨hk.1.1.2.2.2,⟨hk.1.1.1,hk.1.1.2.1⟩⟩⟩)));(case aS=>exact(below_size uB));(case aL=>have:=LMc1.out;omega);intro v10 w9 ho hb hg hat;rw[←Ny2.out]at ho;have HO8:=C (ho);replace HO_2:=C (Kd.R_over' (X (X (fR (Y (Y HO_2.out BK4.out (by decide)) BK3.out (by decide))) (fun _ h_=>h_.1)) (fun _ h_=>h_.1)) (Kd.R_typed (X (X (fR (Y (Y HO_1.out BK4.out (by decide)) BK3.out (by decide))) (fun _ h_=>h_.1)) (fun _ h_=>h_.1))) (by decide) hg);replace HO_3:=C (Kd.Q_after (ok:=(fun k_=>qn k_ Ao6 x14_2.length co6∧qn k_ Ao8 t25.length co8∧qn k_ Ao9 t26.length co9)) (Kd.Q_mono (fQ (Kd.Q_types (Kd.Q_types HO_3.out BK4.out (by decide)) BK3.out (by decide))) (fun _ hk=>⟨⟨hk.1.1.2.2.1,⟨hk.1.1.1,hk.1.1.2.1⟩⟩,hk.1.1.2.2.2⟩)) hg hat);replace HO_4:=C (Kd.R_after (ok:=(fun k_=>qn k_ Ao5 x13_2.length co5∧qn k_ Ao8 t25.length co8∧qn k_ Ao9 t26.length co9)) (X (fR (Y (Y HO_4.out BK4.out (by decide)) BK3.out (by decide))) (fun _ hk=>⟨⟨hk.1.1.2.2.1,⟨hk.1.1.1,hk.1.1.2.1⟩⟩,hk.1.1.2.2.2⟩)) hg hat);replace BK1:=gK BK1 hg (Kd.R_ne HO_1.out BK1.out (by decide));replace BK2:=gK BK2 hg (Kd.R_ne HO_1.out BK2.out (by decide));replace HO5:=C (Kd.R_over' (X (X (fR (Y (Y HO5.out BK4.out (by decide)) BK3.out (by decide))) (fun _ h_=>h_.1)) (fun _ h_=>h_.1)) (Kd.R_typed (X (X (fR (Y (Y HO_1.out BK4.out (by decide)) BK3.out (by decide))) (fun _ h_=>h_.1)) (fun _ h_=>h_.1))) (by decide) hg);replace HO6:=C (Kd.Q_after (ok:=(fun k_=>qn k_ Ao5 x13_2.length co5∧qn k_ Ao6 x14_2.length co6∧qn k_ Ao9 t26.length co9)) (Kd.Q_mono (fQ (Kd.Q_types (Kd.Q_types HO6.out BK4.out (by decide)) BK3.out (by decide))) (fun _ hk=>⟨⟨hk.1.1.2.1,⟨hk.1.1.2.2.1,hk.1.1.1⟩⟩,hk.1.1.2.2.2⟩)) hg hat);replace HO7:=C (Kd.R_after (ok:=(fun k_=>qn k_ Ao5 x13_2.length co5∧qn k_ Ao6 x14_2.length co6∧qn k_ Ao8 t25.length co8)) (X (fR (Y (Y HO7.out BK4.out (by decide)) BK3.out (by decide))) (fun _ hk=>⟨⟨hk.1.1.2.1,⟨hk.1.1.2.2.1,hk.1.1.1⟩⟩,hk.1.1.2.2.2⟩)) hg hat);replace BK3:=C (blk_grown (g:=gb3) (o:=.cells #[L Ao7 t16.length co7,V I t17,V I t18,V I t19,O t20,V I t21,O t22,V I t23,V I t24,L Ao8 t25.length co8,L Ao9 t26.length co9,V I t27,O t28,V I t29] 45 (0,0)) (bK BK3.out) hg (Kd.R_ne HO_1.out BK3.out (by decide)));replace BK4:=C (blk_grown (g:=gb4) (o:=.cells #[L Ao7 t16.length co7,V I t17,V I t18,V I t19,O t20,V I t21,O t22,V I t23,V I t24,L Ao8 t25.length co8,L Ao9 t26.length co9,V I t27,O t28,V I t29] 45 (0,0)) (bK BK4.out) hg (Kd.R_ne HO_1.out BK4.out (by decide)));replace HB:=C (hb);clear HO_1;clear ho hb hg hat))
     go_roundg k2
     case measure=>have:=HJ1.out;have:=HK1.out;omega
     case rel=>exact⟨(y2),(wrap64 (x3_2+1)),(t16),(t17),(t18),(t19),(t20),(t21),(t22),(t23),(t24),(t25),(t26),(t27),(t28),(t29),(L Ao7 t16.length co7),(L Ao8 t25.length co8),(L Ao9 t26.length co9),rS,H',⟨by have:=HJ1.out;have:=HK1.out;omega⟩,⟨X (fR HO8.out) (fun _ hk=>⟨hk.2.2.1,hk.2.2.2⟩)⟩,⟨X (fR HO5.out) (fun _ hk=>trivial)⟩,⟨Kd.Q_mono (fQ HO6.out) (fun _ hk=>⟨hk.2,hk.1.2.2⟩)⟩,⟨X (fR HO7.out) (fun _ hk=>⟨hk.2,hk.1.2.2⟩)⟩,⟨bK BK1.out⟩,⟨bK BK2.out⟩,⟨bK BK3.out⟩,⟨uB⟩⟩
def spec_l01Byte.f (s0_0:List Int) (s0_1:Int) (s0_2:Int):Option (Int×Int×Int):=if s0_1<(s0_0.length:Int) then(if 0≤s0_1 then(some (Go.bits .and .i64 (wrap64 ((Go.bits .and .i64 (Go.bits .xor .i64 ((wrap64 ((wrap64 (s0_2 * 6364136223846793005))+1442695040888963407)) / 8589934592) ((wrap64 ((wrap64 (s0_2 * 6364136223846793005))+1442695040888963407)) / 35184372088832)) 255)+(wrap64 (rd s0_0 s0_1)))) 255,wrap64 (s0_1+1),wrap64 ((wrap64 (s0_2 * 6364136223846793005))+1442695040888963407))) else(none)) else(some (Go.bits .and .i64 (Go.bits .xor .i64 ((wrap64 ((wrap64 (s0_2 * 6364136223846793005))+1442695040888963407)) / 8589934592) ((wrap64 ((wrap64 (s0_2 * 6364136223846793005))+1442695040888963407)) / 35184372088832)) 255,s0_1,wrap64 ((wrap64 (s0_2 * 6364136223846793005))+1442695040888963407)))
theorem spec_l01Byte.W1 {p:Prop} (h:p:=by
 go_enter Tryd.func81,Tryd.ntmps81
 go_wp2
 repeat(go_quiet (fail);try go_wp2)
 go_ret
 exact⟨rE,by repeat(first|(with_reducible first|exact HI1.out|apply IsS102.alloc|apply IsS102.drewN|apply IsS102.drew|apply IsS102.set_1|apply IsS102.set_2)|exact HI1.out),by repeat(first|(with_reducible first|exact HB.out|apply bA|apply bN|apply b1|refine below_set ?_ (IsS102.ge HI1.out))|exact HB.out),uH⟩):p:=h
theorem spec_l01Byte.calls (g:Nat) (s0_0:List Int) (s0_1:Int) (s0_2:Int) (r1:Int) (r2:Int) (r3:Int) (w0 w:World) (hI:IsS102 w0 w g s0_0 s0_1 s0_2) (hB:Below w0.heap.size w0 w) (h:spec_l01Byte.f s0_0 s0_1 s0_2=some (r1,r2,r3)):
 Calls Tryd.prog 81 #[.pointer (some ⟨g,0,none⟩)] w fun e w'=>e=.returned (V I r1)∧IsS102 w0 w' g s0_0 r2 r3∧Below w0.heap.size w0 w'∧KeepBut w w' g none:=by
 have HI1:=C hI
 have HK:=C (KeepBut.refl w g none)
 have HL:=C hB.size
 clear hI
 have HW1:=C hB.size
 have HB:=C hB
 clear hB
 have H:=h
 unfold spec_l01Byte.f at H
 clear h
 by_cases c1:s0_1<(s0_0.length:Int)
 rotate_left
 ·rw[if_neg c1]at H
  have c1b0:decide (s0_1<(s0_0.length:Int))=false:=decide_eq_false c1
  clear c1
  simp only[Option.some.injEq,Prod.mk.injEq]at H
  obtain⟨rfl,rfl,rfl⟩:=H
  obtain⟨ASz1_0,cSz1_0,HGz1,hgz1,HSz1_0⟩:=HI1.out
  have hcz1_0:=cellS102_0 HGz1
  have hcz1_1:=cellS102_1 HGz1
  have hcz1_2:=cellS102_2 HGz1
  have hfz1_1:=blk_frozen HGz1 1
  have hfz1_2:=blk_frozen HGz1 2
  clear HGz1 hgz1
  exact spec_l01Byte.W1
 rw[if_pos c1]at H
 have c1b0:decide (s0_1<(s0_0.length:Int))=true:=decide_eq_true c1
 clear c1
 obtain⟨c2,H⟩:=np H
 have c2b0:decide (0≤s0_1)=true:=decide_eq_true c2
 clear c2
 simp only[Option.some.injEq,Prod.mk.injEq]at H
 obtain⟨rfl,rfl,rfl⟩:=H
 obtain⟨ASz1_0,cSz1_0,HGz1,hgz1,HSz1_0⟩:=HI1.out
 have hcz1_0:=cellS102_0 HGz1
 have hcz1_1:=cellS102_1 HGz1
 have hcz1_2:=cellS102_2 HGz1
 have hfz1_1:=blk_frozen HGz1 1
 have hfz1_2:=blk_frozen HGz1 2
 clear HGz1 hgz1
 have p1:0≤(s0_1:Int):=of_decide_eq_true (by first|(with_reducible assumption)|assumption)
 have q1:s0_1<(s0_0.length:Int):=of_decide_eq_true (by first|(with_reducible assumption)|assumption)
 obtain⟨ad1,e1,hx1_0⟩:=Kd.at_int HSz1_0 s0_1 p1 q1
 cases e1
 have hn1_0:ad1.block≠g:=Nat.ne_of_lt (Nat.lt_of_lt_of_le (by have:=E _ _ hx1_0;first|rwa [add_block]at this|exact this) (IsS102.ge HI1.out))
 replace hx1_0:=pw_cell_below HB.out hx1_0
 replace hx1_0:=(cell_far (p:=⟨g,2,none⟩) (nm hn1_0) (V I (wrap64 ((wrap64 (s0_2 * 6364136223846793005))+1442695040888963407)))).trans hx1_0
 (try have hy1_0:=dn1 hx1_0)
 clear hn1_0
 replace p1:=eq_true p1
 replace q1:=eq_true q1
 exact spec_l01Byte.W1
def spec_l01Below.f (s0_0:List Int) (s0_1:Int) (s0_2:Int) (a1:Int):Option (Int×Int×Int):=if a1≤0 then(some (0,s0_1,s0_2)) else(if a1≤256 then((spec_l01Byte.f s0_0 s0_1 s0_2).bind fun bt484=>(if a1=0 then(none) else(some (Int.tmod bt484.1 a1,bt484.2.1,bt484.2.2)))) else((spec_l01Byte.f s0_0 s0_1 s0_2).bind fun bt487=>((spec_l01Byte.f s0_0 bt487.2.1 bt487.2.2).bind fun bt490=>((spec_l01Byte.f s0_0 bt490.2.1 bt490.2.2).bind fun bt493=>((spec_l01Byte.f s0_0 bt493.2.1 bt493.2.2).bind fun bt496=>(if a1=0 then(none) else(some (Int.tmod (wrap64 ((wrap64 ((wrap64 ((wrap64 (bt487.1 * 16777216))+(wrap64 (bt490.1 * 65536))))+(wrap64 (bt493.1 * 256))))+bt496.1)) a1,bt496.2.1,bt496.2.2))))))))
theorem spec_l01Below.calls (g:Nat) (s0_0:List Int) (s0_1:Int) (s0_2:Int) (a1:Int) (r1:Int) (r2:Int) (r3:Int) (w0 w:World) (hI:IsS102 w0 w g s0_0 s0_1 s0_2) (hB:Below w0.heap.size w0 w) (h:spec_l01Below.f s0_0 s0_1 s0_2 a1=some (r1,r2,r3)):
 Calls Tryd.prog 56 #[.pointer (some ⟨g,0,none⟩),V I a1] w fun e w'=>e=.returned (V I r1)∧IsS102 w0 w' g s0_0 r2 r3∧Below w0.heap.size w0 w'∧KeepBut w w' g none:=by
 have HI1:=C hI
 have HK:=C (KeepBut.refl w g none)
 have HL:=C hB.size
 clear hI
 have HW1:=C hB.size
 have HB:=C hB
 clear hB
 have H:=h
 unfold spec_l01Below.f at H
 clear h
 by_cases c1:a1≤0
 ·rw[if_pos c1]at H
  have c1b0:decide (a1≤0)=true:=decide_eq_true c1
  clear c1
  simp only[Option.some.injEq,Prod.mk.injEq]at H
  obtain⟨rfl,rfl,rfl⟩:=H
  go_enter Tryd.func56,Tryd.ntmps56
  go_wp2
  go_ret
  exact⟨rE,by repeat(first|(with_reducible first|exact HI1.out|apply IsS102.alloc|apply IsS102.drewN|apply IsS102.drew|apply IsS102.set_1|apply IsS102.set_2)|exact HI1.out),by repeat(first|(with_reducible first|exact HB.out|apply bA|apply bN|apply b1|refine below_set ?_ (IsS102.ge HI1.out))|exact HB.out),uH⟩
 rw[if_neg c1]at H
 have c1b0:decide (a1≤0)=false:=decide_eq_false c1
 clear c1
 by_cases c2:a1≤256
 ·rw[if_pos c2]at H
  have c2b0:decide (a1≤256)=true:=decide_eq_true c2
  clear c2
  obtain⟨⟨t1,t2,t3⟩,A1,H⟩:=bnd H
  dsimp only at H
  by_cases c3:a1=0
  ·rw[if_pos c3]at H
   exact absurd H (by simp)
  rw[if_neg c3]at H
  have c3b0:(a1==0)=false:=beq_eq_false_iff_ne.mpr c3
  have c3b1:(a1 !=0)=true:=bne_iff_ne.mpr c3
  simp only[Option.some.injEq,Prod.mk.injEq]at H
  obtain⟨rfl,rfl,rfl⟩:=H
  go_enter Tryd.func56,Tryd.ntmps56
  go_wp2_with (first|((with_reducible refine F (f:=81) rfl ?_);refine gl 81 (some 14) Tryd.func81 #[.pointer (some ⟨g,0,none⟩)] ?_;(with_reducible refine(spec_l01Byte.calls g s0_0 s0_1 s0_2 t1 t2 t3 w0 _ ?side1 ?side2 A1.out).mono ?_);(case side1=>repeat(first|(with_reducible first|exact HI1.out|apply IsS102.alloc|apply IsS102.drewN|apply IsS102.drew|apply IsS102.set_1|apply IsS102.set_2)|exact HI1.out));(case side2=>repeat(first|(with_reducible first|exact HB.out|apply bA|apply bN|apply b1|refine below_set ?_ (IsS102.ge HI1.out))|exact HB.out));rintro e w1 ⟨rfl,hi,hb,hk⟩;refine⟨_,rfl,?_⟩;replace HK:=C (KeepBut.trans (show KeepBut w _ _ _ from uH) hk (.inl rfl));replace HB:=C (hb);replace HI1:=C (hi);clear hb hi hk))
  go_ret
  exact⟨rE,by repeat(first|(with_reducible first|exact HI1.out|apply IsS102.alloc|apply IsS102.drewN|apply IsS102.drew|apply IsS102.set_1|apply IsS102.set_2)|exact HI1.out),by repeat(first|(with_reducible first|exact HB.out|apply bA|apply bN|apply b1|refine below_set ?_ (IsS102.ge HI1.out))|exact HB.out),uH⟩
 rw[if_neg c2]at H
 have c2b0:decide (a1≤256)=false:=decide_eq_false c2
 clear c2
 obtain⟨⟨t1,t2,t3⟩,A1,H⟩:=bnd H
 dsimp only at H
 obtain⟨⟨t4,t5,t6⟩,A2,H⟩:=bnd H
 dsimp only at H
 obtain⟨⟨t7,t8,t9⟩,A3,H⟩:=bnd H
 dsimp only at H
 obtain⟨⟨t10,t11,t12⟩,A4,H⟩:=bnd H
 dsimp only at H
 by_cases c3:a1=0
 ·rw[if_pos c3]at H
  exact absurd H (by simp)
 rw[if_neg c3]at H
 have c3b0:(a1==0)=false:=beq_eq_false_iff_ne.mpr c3
 have c3b1:(a1 !=0)=true:=bne_iff_ne.mpr c3
 simp only[Option.some.injEq,Prod.mk.injEq]at H
 obtain⟨rfl,rfl,rfl⟩:=H
 go_enter Tryd.func56,Tryd.ntmps56
 go_wp2_with (first|((with_reducible refine F (f:=81) rfl ?_);refine gl 81 (some 18) Tryd.func81 #[.pointer (some ⟨g,0,none⟩)] ?_;(with_reducible refine(spec_l01Byte.calls g s0_0 s0_1 s0_2 t1 t2 t3 w0 _ ?side1 ?side2 A1.out).mono ?_);(case side1=>repeat(first|(with_reducible first|exact HI1.out|apply IsS102.alloc|apply IsS102.drewN|apply IsS102.drew|apply IsS102.set_1|apply IsS102.set_2)|exact HI1.out));(case side2=>repeat(first|(with_reducible first|exact HB.out|apply bA|apply bN|apply b1|refine below_set ?_ (IsS102.ge HI1.out))|exact HB.out));rintro e w1 ⟨rfl,hi,hb,hk⟩;refine⟨_,rfl,?_⟩;replace HK:=C (KeepBut.trans (show KeepBut w _ _ _ from uH) hk (.inl rfl));replace HB:=C (hb);replace HI1:=C (hi);clear hb hi hk)|((with_reducible refine F (f:=81) rfl ?_);refine gl 81 (some 20) Tryd.func81 #[.pointer (some ⟨g,0,none⟩)] ?_;(with_reducible refine(spec_l01Byte.calls g s0_0 t2 t3 t4 t5 t6 w0 _ ?side1 ?side2 A2.out).mono ?_);(case side1=>repeat(first|(with_reducible first|exact HI1.out|apply IsS102.alloc|apply IsS102.drewN|apply IsS102.drew|apply IsS102.set_1|apply IsS102.set_2)|exact HI1.out));(case side2=>repeat(first|(with_reducible first|exact HB.out|apply bA|apply bN|apply b1|refine below_set ?_ (IsS102.ge HI1.out))|exact HB.out));rintro e w2 ⟨rfl,hi,hb,hk⟩;refine⟨_,rfl,?_⟩;replace HK:=C (KeepBut.trans (show KeepBut w _ _ _ from uH) hk (.inl rfl));replace HB:=C (hb);replace HI1:=C (hi);clear hb hi hk)|((with_reducible refine F (f:=81) rfl ?_);refine gl 81 (some 22) Tryd.func81 #[.pointer (some ⟨g,0,none⟩)] ?_;(with_reducible refine(spec_l01Byte.calls g s0_0 t5 t6 t7 t8 t9 w0 _ ?side1 ?side2 A3.out).mono ?_);(case side1=>repeat(first|(with_reducible first|exact HI1.out|apply IsS102.alloc|apply IsS102.drewN|apply IsS102.drew|apply IsS102.set_1|apply IsS102.set_2)|exact HI1.out));(case side2=>repeat(first|(with_reducible first|exact HB.out|apply bA|apply bN|apply b1|refine below_set ?_ (IsS102.ge HI1.out))|exact HB.out));rintro e w3 ⟨rfl,hi,hb,hk⟩;refine⟨_,rfl,?_⟩;replace HK:=C (KeepBut.trans (show KeepBut w _ _ _ from uH) hk (.inl rfl));replace HB:=C (hb);replace HI1:=C (hi);clear hb hi hk)|((with_reducible refine F (f:=81) rfl ?_);refine gl 81 (some 24) Tryd.func81 #[.pointer (some ⟨g,0,none⟩)] ?_;(with_reducible refine(spec_l01Byte.calls g s0_0 t8 t9 t10 t11 t12 w0 _ ?side1 ?side2 A4.out).mono ?_);(case side1=>repeat(first|(with_reducible first|exact HI1.out|apply IsS102.alloc|apply IsS102.drewN|apply IsS102.drew|apply IsS102.set_1|apply IsS102.set_2)|exact HI1.out));(case side2=>repeat(first|(with_reducible first|exact HB.out|apply bA|apply bN|apply b1|refine below_set ?_ (IsS102.ge HI1.out))|exact HB.out));rintro e w4 ⟨rfl,hi,hb,hk⟩;refine⟨_,rfl,?_⟩;replace HK:=C (KeepBut.trans (show KeepBut w _ _ _ from uH) hk (.inl rfl));replace HB:=C (hb);replace HI1:=C (hi);clear hb hi hk))
 go_ret
 exact⟨rE,by repeat(first|(with_reducible first|exact HI1.out|apply IsS102.alloc|apply IsS102.drewN|apply IsS102.drew|apply IsS102.set_1|apply IsS102.set_2)|exact HI1.out),by repeat(first|(with_reducible first|exact HB.out|apply bA|apply bN|apply b1|refine below_set ?_ (IsS102.ge HI1.out))|exact HB.out),uH⟩
mutual
def spec_l39Act.j0:Nat→Int→Bool→List Int→Int→Int→Option (Int×Int×Int×Int×Int×Int)
  |0,_,_,_,_,_=>none
  |k+1,x4,x5,x1000,x1001,x1002=>if x5=true then((spec_l01Below.f x1000 x1001 x1002 9).bind fun bt503=>((spec_l01Below.f x1000 bt503.2.1 bt503.2.2 8).bind fun bt506=>((spec_l01Below.f x1000 bt506.2.1 bt506.2.2 10).bind fun bt509=>(some (1,wrap64 (1+bt503.1),wrap64 (1+bt506.1),bt509.1,bt509.2.1,bt509.2.2))))) else(if x4=2 then(spec_l39Act.j1 k x4 (x4==2) x1000 x1001 x1002) else(spec_l39Act.j1 k x4 (x4==3) x1000 x1001 x1002))
def spec_l39Act.j1:Nat→Int→Bool→List Int→Int→Int→Option (Int×Int×Int×Int×Int×Int)
  |0,_,_,_,_,_=>none
  |k+1,x4,x17,x1000,x1001,x1002=>if x17=true then(some (2,0,0,0,x1001,x1002)) else(if x4=4 then(some (4,0,0,0,x1001,x1002)) else(if x4=5 then((spec_l01Below.f x1000 x1001 x1002 9).bind fun bt512=>(some (5,wrap64 (1+bt512.1),0,0,bt512.2.1,bt512.2.2))) else((spec_l01Below.f x1000 x1001 x1002 5).bind fun bt515=>(some (3,wrap64 (1+bt515.1),0,0,bt515.2.1,bt515.2.2)))))
end
def spec_l39Act.f (k:Nat) (s0_0:List Int) (s0_1:Int) (s0_2:Int):Option (Int×Int×Int×Int×Int×Int):=(spec_l01Below.f s0_0 s0_1 s0_2 8).bind fun bt500=>(if bt500.1=0 then(spec_l39Act.j0 k bt500.1 (bt500.1==0) s0_0 bt500.2.1 bt500.2.2) else(spec_l39Act.j0 k bt500.1 (bt500.1==1) s0_0 bt500.2.1 bt500.2.2))
theorem spec_l39Act.mono_l:∀k,(∀y0 y1 y2 y3 y4,LeO (spec_l39Act.j0 k y0 y1 y2 y3 y4) (spec_l39Act.j0 (k+1) y0 y1 y2 y3 y4))∧(∀y0 y1 y2 y3 y4,LeO (spec_l39Act.j1 k y0 y1 y2 y3 y4) (spec_l39Act.j1 (k+1) y0 y1 y2 y3 y4))
 |0=>⟨fun _ _ _ _ _ r h=>by simp[spec_l39Act.j0]at h,fun _ _ _ _ _ r h=>by simp[spec_l39Act.j1]at h⟩
 |k+1=>by
  obtain⟨ih0,ih1⟩:=spec_l39Act.mono_l k
  refine⟨?_,?_⟩
  ·intro y0 y1 y2 y3 y4
   unfold spec_l39Act.j0
   repeat' first|(with_reducible first|apply ih0|apply ih1|exact LeO.refl _|exact LeO.none _|refine LeO.ite ?_ ?_|refine LeO.bind ?_ (fun _=> ?_))|apply ih0|apply ih1|exact LeO.none _|refine LeO.ite ?_ ?_|refine LeO.bind ?_ (fun _=> ?_)
  ·intro y0 y1 y2 y3 y4
   unfold spec_l39Act.j1
   repeat' first|(with_reducible first|apply ih0|apply ih1|exact LeO.refl _|exact LeO.none _|refine LeO.ite ?_ ?_|refine LeO.bind ?_ (fun _=> ?_))|apply ih0|apply ih1|exact LeO.none _|refine LeO.ite ?_ ?_|refine LeO.bind ?_ (fun _=> ?_)
theorem spec_l39Act.mono:∀a0 a1 a2 k,LeO (spec_l39Act.f k a0 a1 a2) (spec_l39Act.f (k+1) a0 a1 a2):=by
 intro a0 a1 a2 k
 obtain⟨ih0,ih1⟩:=spec_l39Act.mono_l k
 unfold spec_l39Act.f
 repeat' first|(with_reducible first|apply ih0|apply ih1|exact LeO.refl _|exact LeO.none _|refine LeO.ite ?_ ?_|refine LeO.bind ?_ (fun _=> ?_))|apply ih0|apply ih1|exact LeO.none _|refine LeO.ite ?_ ?_|refine LeO.bind ?_ (fun _=> ?_)
theorem spec_l39Act.W1 {p:Prop} (h:p:=by
 go_wp2
 go_meet
 first
  |(case rel=>exact⟨_,((t1==0)),rS,H',⟨oL⟩,⟨bK BK1.out⟩,⟨by repeat(first|(with_reducible first|exact HI1.out|apply IsS102.alloc|apply IsS102.drewN|apply IsS102.drew|apply IsS102.set_1|apply IsS102.set_2|refine IsS102.far ?_ NB1_499.out _)|exact HI1.out)⟩,⟨uH⟩,⟨by repeat(first|(with_reducible first|exact HB.out|apply bA|apply bN|apply b1|refine below_set ?_ (IsS102.ge HI1.out)|refine below_set ?_ GE1.out)|exact HB.out)⟩⟩)
  |(case rel=>exact⟨_,((t1==1)),rS,H',⟨oL⟩,⟨bK BK1.out⟩,⟨by repeat(first|(with_reducible first|exact HI1.out|apply IsS102.alloc|apply IsS102.drewN|apply IsS102.drew|apply IsS102.set_1|apply IsS102.set_2|refine IsS102.far ?_ NB1_499.out _)|exact HI1.out)⟩,⟨uH⟩,⟨by repeat(first|(with_reducible first|exact HB.out|apply bA|apply bN|apply b1|refine below_set ?_ (IsS102.ge HI1.out)|refine below_set ?_ GE1.out)|exact HB.out)⟩⟩)
  |(case rel=>exact⟨_,((t1==2)),rS,H',⟨by have:=HJ1.out;first|omega|exact Nat.le_refl _⟩,⟨bK BK1.out⟩,⟨by repeat(first|(with_reducible first|exact HI1.out|apply IsS102.alloc|apply IsS102.drewN|apply IsS102.drew|apply IsS102.set_1|apply IsS102.set_2|refine IsS102.far ?_ NB1_499.out _)|exact HI1.out)⟩,⟨uH⟩,⟨by repeat(first|(with_reducible first|exact HB.out|apply bA|apply bN|apply b1|refine below_set ?_ (IsS102.ge HI1.out)|refine below_set ?_ GE1.out)|exact HB.out)⟩⟩)
  |(case rel=>exact⟨_,((t1==3)),rS,H',⟨by have:=HJ1.out;first|omega|exact Nat.le_refl _⟩,⟨bK BK1.out⟩,⟨by repeat(first|(with_reducible first|exact HI1.out|apply IsS102.alloc|apply IsS102.drewN|apply IsS102.drew|apply IsS102.set_1|apply IsS102.set_2|refine IsS102.far ?_ NB1_499.out _)|exact HI1.out)⟩,⟨uH⟩,⟨by repeat(first|(with_reducible first|exact HB.out|apply bA|apply bN|apply b1|refine below_set ?_ (IsS102.ge HI1.out)|refine below_set ?_ GE1.out)|exact HB.out)⟩⟩)):p:=h
theorem spec_l39Act.W2 {p:Prop} (h:p:=by
    go_wp2
    first
      | (refine bodyPost_ret (results_cell_row rfl _ _ gb1 26 #[V I 2, V I 0, V I 0, V I 0] (0, 0) _ rfl (bK BK1.out) Tryd.underlying26 rfl (by kernel_rfl)) rfl ?_
         exact⟨rE,by repeat(first|(with_reducible first|exact HI1.out|apply IsS102.alloc|apply IsS102.drewN|apply IsS102.drew|apply IsS102.set_1|apply IsS102.set_2|refine IsS102.far ?_ NB1_499.out _)|exact HI1.out),by repeat(first|(with_reducible first|exact HB.out|apply bA|apply bN|apply b1|refine below_set ?_ (IsS102.ge HI1.out)|refine below_set ?_ GE1.out)|exact HB.out),uH⟩)
      | (refine bodyPost_ret (results_cell_row rfl _ _ gb1 26 #[V I 4, V I 0, V I 0, V I 0] (0, 0) _ rfl (bK BK1.out) Tryd.underlying26 rfl (by kernel_rfl)) rfl ?_
         exact⟨rE,by repeat(first|(with_reducible first|exact HI1.out|apply IsS102.alloc|apply IsS102.drewN|apply IsS102.drew|apply IsS102.set_1|apply IsS102.set_2|refine IsS102.far ?_ NB1_499.out _)|exact HI1.out),by repeat(first|(with_reducible first|exact HB.out|apply bA|apply bN|apply b1|refine below_set ?_ (IsS102.ge HI1.out)|refine below_set ?_ GE1.out)|exact HB.out),uH⟩)):p:=h
theorem spec_l39Act.calls (k:Nat) (g:Nat) (s0_0:List Int) (s0_1:Int) (s0_2:Int) (r1:Int) (r2:Int) (r3:Int) (r4:Int) (r5:Int) (r6:Int) (w0 w:World) (hI:IsS102 w0 w g s0_0 s0_1 s0_2) (hB:Below w0.heap.size w0 w) (h:spec_l39Act.f k s0_0 s0_1 s0_2=some (r1,r2,r3,r4,r5,r6)):
 Calls Tryd.prog 69 #[.pointer (some ⟨g,0,none⟩)] w fun e w'=>e=.returned (G #[V I r1,V I r2,V I r3,V I r4])∧IsS102 w0 w' g s0_0 r5 r6∧Below w0.heap.size w0 w'∧KeepBut w w' g none:=by
 have hu1:=Tryd.underlying26
 have HI1:=C hI
 have HK:=C (KeepBut.refl w g none)
 have HL:=C hB.size
 clear hI
 have HW1:=C hB.size
 have HB:=C hB
 clear hB
 have H:=h
 unfold spec_l39Act.f at H
 clear h
 obtain⟨⟨t1,t2,t3⟩,A1,H⟩:=bnd H
 dsimp only at H
 have HC1:=C H
 clear H
 go_enter Tryd.func69,Tryd.ntmps69
 go_upto_if 5 with(first|((with_reducible refine gate_dst (N:=2) rfl ?_);refine Fix.be 2 #[V I 0,V I 0,V I 0,V I 0] 26 ?_;intro gb1 hg w1 BK1 hb;have GW1:=C ((by rw[hg];exact(keep_size (w:=w) (g:=g) (row:=none) (show KeepBut w _ _ _ from uH)):w.heap.size≤gb1));have GE1:=C ((Nat.le_trans HW1.out (by rw[hg];exact(keep_size (w:=w) (g:=g) (row:=none) (show KeepBut w _ _ _ from uH)):w.heap.size≤gb1):w0.heap.size≤gb1));have NB1_499:=C ((by rw[hg];exact Nat.ne_of_lt (IsS102.lt (show IsS102 w0 _ g s0_0 s0_1 s0_2 from by repeat(first|(with_reducible first|exact HI1.out|apply IsS102.alloc|apply IsS102.drewN|apply IsS102.drew|apply IsS102.set_1|apply IsS102.set_2)|exact HI1.out))):g≠gb1));have NB2_0:=C ((by rw[hg];exact Nat.ne_of_gt (IsS102.lt (show IsS102 w0 _ g s0_0 s0_1 s0_2 from by repeat(first|(with_reducible first|exact HI1.out|apply IsS102.alloc|apply IsS102.drewN|apply IsS102.drew|apply IsS102.set_1|apply IsS102.set_2)|exact HI1.out))):gb1≠g));replace HK:=C (KeepBut.trans (show KeepBut w _ _ _ from uH) (KeepBut.of_below hb g none) (.inl rfl));replace HB:=C (below_step (by repeat(first|(with_reducible first|exact HB.out|apply bA|apply bN|apply b1|refine below_set ?_ (IsS102.ge HI1.out))|exact HB.out)) hb);replace HI1:=C (IsS102.below (by repeat(first|(with_reducible first|exact HI1.out|apply IsS102.alloc|apply IsS102.drewN|apply IsS102.drew|apply IsS102.set_1|apply IsS102.set_2)|exact HI1.out)) hb);clear hb hg)|((with_reducible refine F (f:=56) rfl ?_);refine gl 56 (some 4) Tryd.func56 #[.pointer (some ⟨g,0,none⟩),V I 8] ?_;(with_reducible refine(spec_l01Below.calls g s0_0 s0_1 s0_2 8 t1 t2 t3 w0 _ ?side1 ?side2 A1.out).mono ?_);(case side1=>repeat(first|(with_reducible first|exact HI1.out|apply IsS102.alloc|apply IsS102.drewN|apply IsS102.drew|apply IsS102.set_1|apply IsS102.set_2|refine IsS102.far ?_ NB1_499.out _)|exact HI1.out));(case side2=>repeat(first|(with_reducible first|exact HB.out|apply bA|apply bN|apply b1|refine below_set ?_ (IsS102.ge HI1.out)|refine below_set ?_ GE1.out)|exact HB.out));rintro e w2 ⟨rfl,hi,hb,hk⟩;refine⟨_,rfl,?_⟩;replace BK1:=C (KeepBut.blk hk (g':=gb1) (o:=.cells #[V I 0,V I 0,V I 0,V I 0] 26 (0,0)) (uK BK1.out) NB2_0.out (by simp));replace HK:=C (KeepBut.trans (show KeepBut w _ _ _ from uH) hk (.inl rfl));replace HB:=C (hb);replace HI1:=C (hi);clear hb hi hk))
 (try simp only[Act.put,List.setIfInBounds_toArray,List.set_cons_zero,List.set_cons_succ])
 go_cut [5] (fun v5 wc=>∃(kq:Nat) (x1_2:Bool),v5=O x1_2∧D (spec_l39Act.j0 kq t1 x1_2 s0_0 t2 t3=some (r1,r2,r3,r4,r5,r6))∧D (kq≤k)∧D (wc.heap[gb1]? =some (.cells #[V I 0,V I 0,V I 0,V I 0] 26 (0,0)))∧D (IsS102 w0 wc g s0_0 t2 t3)∧D (KeepBut w wc g none)∧D (Below w0.heap.size w0 wc))
 case first=>
  have H:=HC1.out
  clear HC1
  by_cases c1:t1=0
  rotate_left
  ·rw[if_neg c1]at H
   have c1b0:(t1==0)=false:=beq_eq_false_iff_ne.mpr c1
   have c1b1:(t1 !=0)=true:=bne_iff_ne.mpr c1
   (first|rw[c1b0]|(simp only[i64_w,i32_w];rw[c1b0])|skip)
   have H':=C H
   clear H
   exact spec_l39Act.W1
  rw[if_pos c1]at H
  have c1b0:(t1==0)=true:=beq_iff_eq.mpr c1
  have c1b1:(t1 !=0)=false:=bne_eq_false_iff_eq.mpr c1
  clear c1
  (first|rw[c1b0]|(simp only[i64_w,i32_w];rw[c1b0])|skip)
  have H':=C H
  clear H
  exact spec_l39Act.W1
 case rest=>
  clear HC1
  obtain⟨kq,x1_2,rfl,HA,HJ1,BK1,HI1,HK,HB⟩:=hcut
  cases kq with
  |zero=>exact absurd HA.out (by simp[spec_l39Act.j0])
  |succ kj2=>
   have H:=HA.out
   clear HA
   simp only[spec_l39Act.j0]at H
   by_cases c1:x1_2=true
   ·subst c1
    rw[if_pos rfl]at H
    obtain⟨⟨t4,t5,t6⟩,A2,H⟩:=bnd H
    dsimp only at H
    obtain⟨⟨t7,t8,t9⟩,A3,H⟩:=bnd H
    dsimp only at H
    obtain⟨⟨t10,t11,t12⟩,A4,H⟩:=bnd H
    dsimp only at H
    simp only[Option.some.injEq,Prod.mk.injEq]at H
    obtain⟨rfl,rfl,rfl,rfl,rfl,rfl⟩:=H
    go_wp2_with (first|((with_reducible refine F (f:=56) rfl ?_);refine gl 56 (some 9) Tryd.func56 #[.pointer (some ⟨g,0,none⟩),V I 9] ?_;(with_reducible refine(spec_l01Below.calls g s0_0 t2 t3 9 t4 t5 t6 w0 _ ?side1 ?side2 A2.out).mono ?_);(case side1=>repeat(first|(with_reducible first|exact HI1.out|apply IsS102.alloc|apply IsS102.drewN|apply IsS102.drew|apply IsS102.set_1|apply IsS102.set_2|refine IsS102.far ?_ NB1_499.out _)|exact HI1.out));(case side2=>repeat(first|(with_reducible first|exact HB.out|apply bA|apply bN|apply b1|refine below_set ?_ (IsS102.ge HI1.out)|refine below_set ?_ GE1.out)|exact HB.out));rintro e w3 ⟨rfl,hi,hb,hk⟩;refine⟨_,rfl,?_⟩;replace BK1:=C (KeepBut.blk hk (g':=gb1) (o:=.cells #[V I 0,V I 0,V I 0,V I 0] 26 (0,0)) (uK BK1.out) NB2_0.out (by simp));replace HK:=C (KeepBut.trans (show KeepBut w _ _ _ from uH) hk (.inl rfl));replace HB:=C (hb);replace HI1:=C (hi);clear hb hi hk)|((with_reducible refine F (f:=56) rfl ?_);refine gl 56 (some 12) Tryd.func56 #[.pointer (some ⟨g,0,none⟩),V I 8] ?_;(with_reducible refine(spec_l01Below.calls g s0_0 t5 t6 8 t7 t8 t9 w0 _ ?side1 ?side2 A3.out).mono ?_);(case side1=>repeat(first|(with_reducible first|exact HI1.out|apply IsS102.alloc|apply IsS102.drewN|apply IsS102.drew|apply IsS102.set_1|apply IsS102.set_2|refine IsS102.far ?_ NB1_499.out _)|exact HI1.out));(case side2=>repeat(first|(with_reducible first|exact HB.out|apply bA|apply bN|apply b1|refine below_set ?_ (IsS102.ge HI1.out)|refine below_set ?_ GE1.out)|exact HB.out));rintro e w4 ⟨rfl,hi,hb,hk⟩;refine⟨_,rfl,?_⟩;replace BK1:=C (KeepBut.blk hk (g':=gb1) (o:=.cells #[V I 0,V I 0,V I 0,V I 0] 26 (0,0)) (uK BK1.out) NB2_0.out (by simp));replace HK:=C (KeepBut.trans (show KeepBut w _ _ _ from uH) hk (.inl rfl));replace HB:=C (hb);replace HI1:=C (hi);clear hb hi hk)|((with_reducible refine F (f:=56) rfl ?_);refine gl 56 (some 15) Tryd.func56 #[.pointer (some ⟨g,0,none⟩),V I 10] ?_;(with_reducible refine(spec_l01Below.calls g s0_0 t8 t9 10 t10 t11 t12 w0 _ ?side1 ?side2 A4.out).mono ?_);(case side1=>repeat(first|(with_reducible first|exact HI1.out|apply IsS102.alloc|apply IsS102.drewN|apply IsS102.drew|apply IsS102.set_1|apply IsS102.set_2|refine IsS102.far ?_ NB1_499.out _)|exact HI1.out));(case side2=>repeat(first|(with_reducible first|exact HB.out|apply bA|apply bN|apply b1|refine below_set ?_ (IsS102.ge HI1.out)|refine below_set ?_ GE1.out)|exact HB.out));rintro e w5 ⟨rfl,hi,hb,hk⟩;refine⟨_,rfl,?_⟩;replace BK1:=C (KeepBut.blk hk (g':=gb1) (o:=.cells #[V I 0,V I 0,V I 0,V I 0] 26 (0,0)) (uK BK1.out) NB2_0.out (by simp));replace HK:=C (KeepBut.trans (show KeepBut w _ _ _ from uH) hk (.inl rfl));replace HB:=C (hb);replace HI1:=C (hi);clear hb hi hk;have hnb1:=NB2_0.out;have hnc1:=NB1_499.out;have h_:=d4 BK1.out;(repeat(obtain⟨_,h_⟩:=h_))))
    refine bodyPost_ret (results_cell_row rfl _ _ gb1 26 #[V I 1,V I (wrap64 (1+t4)),V I (wrap64 (1+t7)),V I t10] (0,0) _ rfl (bK BK1.out) Tryd.underlying26 rfl (by kernel_rfl)) rfl ?_
    exact⟨rE,by repeat(first|(with_reducible first|exact HI1.out|apply IsS102.alloc|apply IsS102.drewN|apply IsS102.drew|apply IsS102.set_1|apply IsS102.set_2|refine IsS102.far ?_ NB1_499.out _)|exact HI1.out),by repeat(first|(with_reducible first|exact HB.out|apply bA|apply bN|apply b1|refine below_set ?_ (IsS102.ge HI1.out)|refine below_set ?_ GE1.out)|exact HB.out),uH⟩
   replace c1:=Bool.eq_false_iff.mpr c1
   subst c1
   rw[if_neg Bool.false_ne_true]at H
   have HC2:=C H
   clear H
   go_upto_if 17 with(fail)
   go_cut [17] (fun v17 wc=>∃(kq:Nat) (x2_15:Bool),v17=O x2_15∧D (spec_l39Act.j1 kq t1 x2_15 s0_0 t2 t3=some (r1,r2,r3,r4,r5,r6))∧D (kq≤kj2)∧D (wc.heap[gb1]? =some (.cells #[V I 0,V I 0,V I 0,V I 0] 26 (0,0)))∧D (IsS102 w0 wc g s0_0 t2 t3)∧D (KeepBut w wc g none)∧D (Below w0.heap.size w0 wc))
   case first=>
    have H:=HC2.out
    clear HC2
    by_cases c2:t1=2
    rotate_left
    ·rw[if_neg c2]at H
     have c2b0:(t1==2)=false:=beq_eq_false_iff_ne.mpr c2
     have c2b1:(t1 !=2)=true:=bne_iff_ne.mpr c2
     (first|rw[c2b0]|(simp only[i64_w,i32_w];rw[c2b0])|skip)
     have H':=C H
     clear H
     exact spec_l39Act.W1
    rw[if_pos c2]at H
    have c2b0:(t1==2)=true:=beq_iff_eq.mpr c2
    have c2b1:(t1 !=2)=false:=bne_eq_false_iff_eq.mpr c2
    clear c2
    (first|rw[c2b0]|(simp only[i64_w,i32_w];rw[c2b0])|skip)
    have H':=C H
    clear H
    exact spec_l39Act.W1
   case rest=>
    clear HC2
    obtain⟨kq,x2_15,rfl,HA,HJ2,BK1,HI1,HK,HB⟩:=hcut
    cases kq with
    |zero=>exact absurd HA.out (by simp[spec_l39Act.j1])
    |succ kj15=>
     have H:=HA.out
     clear HA
     simp only[spec_l39Act.j1]at H
     by_cases c2:x2_15=true
     ·subst c2
      rw[if_pos rfl]at H
      simp only[Option.some.injEq,Prod.mk.injEq]at H
      obtain⟨rfl,rfl,rfl,rfl,rfl,rfl⟩:=H
      have hnb1:=NB2_0.out
      have hnc1:=NB1_499.out
      have h_:=d4 BK1.out;(repeat(obtain⟨_,h_⟩:=h_))
      exact spec_l39Act.W2
     replace c2:=Bool.eq_false_iff.mpr c2
     subst c2
     rw[if_neg Bool.false_ne_true]at H
     by_cases c3:t1=4
     ·rw[if_pos c3]at H
      have c3b0:(t1==4)=true:=beq_iff_eq.mpr c3
      have c3b1:(t1 !=4)=false:=bne_eq_false_iff_eq.mpr c3
      clear c3
      simp only[Option.some.injEq,Prod.mk.injEq]at H
      obtain⟨rfl,rfl,rfl,rfl,rfl,rfl⟩:=H
      have hnb1:=NB2_0.out
      have hnc1:=NB1_499.out
      obtain⟨hcz1_0,hcz1_1,hcz1_2,hcz1_3,hfz1_0,hfz1_1,hfz1_2,hfz1_3⟩:=d4 BK1.out
      exact spec_l39Act.W2
     rw[if_neg c3]at H
     have c3b0:(t1==4)=false:=beq_eq_false_iff_ne.mpr c3
     have c3b1:(t1 !=4)=true:=bne_iff_ne.mpr c3
     by_cases c4:t1=5
     ·rw[if_pos c4]at H
      have c4b0:(t1==5)=true:=beq_iff_eq.mpr c4
      have c4b1:(t1 !=5)=false:=bne_eq_false_iff_eq.mpr c4
      clear c4
      obtain⟨⟨t4,t5,t6⟩,A2,H⟩:=bnd H
      dsimp only at H
      simp only[Option.some.injEq,Prod.mk.injEq]at H
      obtain⟨rfl,rfl,rfl,rfl,rfl,rfl⟩:=H
      go_wp2_with (first|((with_reducible refine F (f:=56) rfl ?_);refine gl 56 (some 27) Tryd.func56 #[.pointer (some ⟨g,0,none⟩),V I 9] ?_;(with_reducible refine(spec_l01Below.calls g s0_0 t2 t3 9 t4 t5 t6 w0 _ ?side1 ?side2 A2.out).mono ?_);(case side1=>repeat(first|(with_reducible first|exact HI1.out|apply IsS102.alloc|apply IsS102.drewN|apply IsS102.drew|apply IsS102.set_1|apply IsS102.set_2|refine IsS102.far ?_ NB1_499.out _)|exact HI1.out));(case side2=>repeat(first|(with_reducible first|exact HB.out|apply bA|apply bN|apply b1|refine below_set ?_ (IsS102.ge HI1.out)|refine below_set ?_ GE1.out)|exact HB.out));rintro e w3 ⟨rfl,hi,hb,hk⟩;refine⟨_,rfl,?_⟩;replace BK1:=C (KeepBut.blk hk (g':=gb1) (o:=.cells #[V I 0,V I 0,V I 0,V I 0] 26 (0,0)) (uK BK1.out) NB2_0.out (by simp));replace HK:=C (KeepBut.trans (show KeepBut w _ _ _ from uH) hk (.inl rfl));replace HB:=C (hb);replace HI1:=C (hi);clear hb hi hk;have hnb1:=NB2_0.out;have hnc1:=NB1_499.out;have h_:=d4 BK1.out;(repeat(obtain⟨_,h_⟩:=h_))))
      refine bodyPost_ret (results_cell_row rfl _ _ gb1 26 #[V I 5,V I (wrap64 (1+t4)),V I 0,V I 0] (0,0) _ rfl (bK BK1.out) Tryd.underlying26 rfl (by kernel_rfl)) rfl ?_
      exact⟨rE,by repeat(first|(with_reducible first|exact HI1.out|apply IsS102.alloc|apply IsS102.drewN|apply IsS102.drew|apply IsS102.set_1|apply IsS102.set_2|refine IsS102.far ?_ NB1_499.out _)|exact HI1.out),by repeat(first|(with_reducible first|exact HB.out|apply bA|apply bN|apply b1|refine below_set ?_ (IsS102.ge HI1.out)|refine below_set ?_ GE1.out)|exact HB.out),uH⟩
     rw[if_neg c4]at H
     have c4b0:(t1==5)=false:=beq_eq_false_iff_ne.mpr c4
     have c4b1:(t1 !=5)=true:=bne_iff_ne.mpr c4
     obtain⟨⟨t4,t5,t6⟩,A2,H⟩:=bnd H
     dsimp only at H
     simp only[Option.some.injEq,Prod.mk.injEq]at H
     obtain⟨rfl,rfl,rfl,rfl,rfl,rfl⟩:=H
     go_wp2_with (first|((with_reducible refine F (f:=56) rfl ?_);refine gl 56 (some 31) Tryd.func56 #[.pointer (some ⟨g,0,none⟩),V I 5] ?_;(with_reducible refine(spec_l01Below.calls g s0_0 t2 t3 5 t4 t5 t6 w0 _ ?side1 ?side2 A2.out).mono ?_);(case side1=>repeat(first|(with_reducible first|exact HI1.out|apply IsS102.alloc|apply IsS102.drewN|apply IsS102.drew|apply IsS102.set_1|apply IsS102.set_2|refine IsS102.far ?_ NB1_499.out _)|exact HI1.out));(case side2=>repeat(first|(with_reducible first|exact HB.out|apply bA|apply bN|apply b1|refine below_set ?_ (IsS102.ge HI1.out)|refine below_set ?_ GE1.out)|exact HB.out));rintro e w3 ⟨rfl,hi,hb,hk⟩;refine⟨_,rfl,?_⟩;replace BK1:=C (KeepBut.blk hk (g':=gb1) (o:=.cells #[V I 0,V I 0,V I 0,V I 0] 26 (0,0)) (uK BK1.out) NB2_0.out (by simp));replace HK:=C (KeepBut.trans (show KeepBut w _ _ _ from uH) hk (.inl rfl));replace HB:=C (hb);replace HI1:=C (hi);clear hb hi hk;have hnb1:=NB2_0.out;have hnc1:=NB1_499.out;obtain⟨hcz1_0,hcz1_1,hcz1_2,hcz1_3,hfz1_0,hfz1_1,hfz1_2,hfz1_3⟩:=d4 BK1.out))
     refine bodyPost_ret (results_cell_row rfl _ _ gb1 26 #[V I 3,V I (wrap64 (1+t4)),V I 0,V I 0] (0,0) _ rfl (bK BK1.out) Tryd.underlying26 rfl (by kernel_rfl)) rfl ?_
     exact⟨rE,by repeat(first|(with_reducible first|exact HI1.out|apply IsS102.alloc|apply IsS102.drewN|apply IsS102.drew|apply IsS102.set_1|apply IsS102.set_2|refine IsS102.far ?_ NB1_499.out _)|exact HI1.out),by repeat(first|(with_reducible first|exact HB.out|apply bA|apply bN|apply b1|refine below_set ?_ (IsS102.ge HI1.out)|refine below_set ?_ GE1.out)|exact HB.out),uH⟩
def spec_l39List.l0:Nat→List (S26)→Int→Int→List Int→Int→Int→Option ((List (S26))×Int×Int)
  |0,_,_,_,_,_,_=>none
  |k+1,x3,x4,x5,x1000,x1001,x1002=>if x5<x4 then((spec_l39Act.f k x1000 x1001 x1002).bind fun bt524=>(if x3.length<4398046511104 then(spec_l39List.l0 k (x3++ [(⟨bt524.1,bt524.2.1,bt524.2.2.1,bt524.2.2.2.1⟩:S26)]) x4 (wrap64 (x5+1)) x1000 bt524.2.2.2.2.1 bt524.2.2.2.2.2) else(none))) else(some (x3,x1001,x1002))
def spec_l39List.f (k:Nat) (s0_0:List Int) (s0_1:Int) (s0_2:Int):Option ((List (S26))×Int×Int):=(spec_l01Below.f s0_0 s0_1 s0_2 16).bind fun bt521=>(spec_l39List.l0 k (([]:List (S26))) bt521.1 0 s0_0 bt521.2.1 bt521.2.2)
theorem spec_l39List.mono_l:∀k,(∀y0 y1 y2 y3 y4 y5,LeO (spec_l39List.l0 k y0 y1 y2 y3 y4 y5) (spec_l39List.l0 (k+1) y0 y1 y2 y3 y4 y5))
 |0=>fun _ _ _ _ _ _ r h=>by simp[spec_l39List.l0]at h
 |k+1=>by
  have ih0:=spec_l39List.mono_l k
  ·intro y0 y1 y2 y3 y4 y5
   unfold spec_l39List.l0
   repeat' first|(with_reducible first|apply ih0|apply spec_l39Act.mono|exact LeO.refl _|exact LeO.none _|refine LeO.ite ?_ ?_|refine LeO.bind ?_ (fun _=> ?_))|apply ih0|exact LeO.none _|refine LeO.ite ?_ ?_|refine LeO.bind ?_ (fun _=> ?_)
theorem spec_l39List.mono:∀a0 a1 a2 k,LeO (spec_l39List.f k a0 a1 a2) (spec_l39List.f (k+1) a0 a1 a2):=by
 intro a0 a1 a2 k
 have ih0:=spec_l39List.mono_l k
 unfold spec_l39List.f
 repeat' first|(with_reducible first|apply ih0|apply spec_l39Act.mono|exact LeO.refl _|exact LeO.none _|refine LeO.ite ?_ ?_|refine LeO.bind ?_ (fun _=> ?_))|apply ih0|exact LeO.none _|refine LeO.ite ?_ ?_|refine LeO.bind ?_ (fun _=> ?_)
theorem spec_l39List.calls (k:Nat) (g:Nat) (s0_0:List Int) (s0_1:Int) (s0_2:Int) (r1:List (S26)) (r2:Int) (r3:Int) (w0 w:World) (hI:IsS102 w0 w g s0_0 s0_1 s0_2) (hB:Below w0.heap.size w0 w) (h:spec_l39List.f k s0_0 s0_1 s0_2=some (r1,r2,r3)):
 Calls Tryd.prog 41 #[.pointer (some ⟨g,0,none⟩)] w fun e w'=>∃v0_:Value,e=.returned (v0_)∧Kd.R k26 26 w' w.heap.size (fun _=>True) v0_ r1∧IsS102 w0 w' g s0_0 r2 r3∧Below w0.heap.size w0 w'∧KeepBut w w' g none:=by
 have hu1:=Tryd.underlying26
 have HI1:=C hI
 have HK:=C (KeepBut.refl w g none)
 have HL:=C hB.size
 clear hI
 have HW1:=C hB.size
 have HB:=C hB
 clear hB
 have H:=h
 unfold spec_l39List.f at H
 clear h
 obtain⟨y1,hy1⟩:∃y_:List (S26),y_=(([]:List (S26))):=⟨_,rfl⟩
 replace H:((spec_l01Below.f s0_0 s0_1 s0_2 16).bind fun bt521=>(spec_l39List.l0 k y1 bt521.1 0 s0_0 bt521.2.1 bt521.2.2))=some (r1,r2,r3):=gy hy1 H
 have Ny1:=C hy1
 clear hy1
 obtain⟨⟨t1,t2,t3⟩,A1,H⟩:=bnd H
 dsimp only at H
 have H':=C H
 clear H
 go_enter Tryd.func41,Tryd.ntmps41
 go_wp2_with (first|((with_reducible refine gate_dst (N:=7) rfl ?_);refine Kd.R_lit k26 _ 26 ?hg (N:=7) ?hd (xs:=([]:List (S26))) (inner:= []) (ok:=fun _=>True) (okp:=fun _=>True) ?hr ?hp (fun _ hk=>hk) trivial (Below.refl _ _) (Nat.le_refl _) (by simp) ?_;(case hd=>rfl);(case hg=>rfl);(case hr=>exact Fix.hr);(case hp=>exact(Reps.none _ _));intro v1 w1 ho1 hb hg_ hnew_;clear hg_ hnew_;(first|rw[←Ny1.out]at ho1|(simp only[Int.reduceToNat]at ho1;rw[←Ny1.out]at ho1));have HO1:=C (Kd.R_lower ho1 (keep_size (w:=w) (g:=g) (row:=none) (show KeepBut w _ _ _ from uH)));replace HK:=C (KeepBut.trans (show KeepBut w _ _ _ from uH) (KeepBut.of_below hb g none) (.inl rfl));replace HB:=C (below_step (by repeat(first|(with_reducible first|exact HB.out|apply bA|apply bN|apply b1|refine below_set ?_ (IsS102.ge HI1.out))|exact HB.out)) hb);replace HI1:=C (IsS102.below (by repeat(first|(with_reducible first|exact HI1.out|apply IsS102.alloc|apply IsS102.drewN|apply IsS102.drew|apply IsS102.set_1|apply IsS102.set_2)|exact HI1.out)) hb);clear hb ho1)|((with_reducible refine F (f:=56) rfl ?_);refine gl 56 (some 9) Tryd.func56 #[.pointer (some ⟨g,0,none⟩),V I 16] ?_;(with_reducible refine(spec_l01Below.calls g s0_0 s0_1 s0_2 16 t1 t2 t3 w0 _ ?side1 ?side2 A1.out).mono ?_);(case side1=>repeat(first|(with_reducible first|exact HI1.out|apply IsS102.alloc|apply IsS102.drewN|apply IsS102.drew|apply IsS102.set_1|apply IsS102.set_2)|exact HI1.out));(case side2=>repeat(first|(with_reducible first|exact HB.out|apply bA|apply bN|apply b1|refine below_set ?_ (IsS102.ge HI1.out))|exact HB.out));rintro e w2 ⟨rfl,hi,hb,hk⟩;refine⟨_,rfl,?_⟩;replace HO1:=C (X (Kd.R_keep (IsS102.apart (show IsS102 w0 _ g s0_0 s0_1 s0_2 from by repeat(first|(with_reducible first|exact HI1.out|apply IsS102.alloc|apply IsS102.drewN|apply IsS102.drew|apply IsS102.set_1|apply IsS102.set_2)|exact HI1.out)) (uR HO1.out) (by decide)) hk (fun _ h=>h.2)) (fun _ h=>h.1));replace HK:=C (KeepBut.trans (show KeepBut w _ _ _ from uH) hk (.inl rfl));replace HB:=C (hb);replace HI1:=C (hi);clear hb hi hk))
 go_loopg [3,5] k (fun kq v3 v5 w'=>∃(x1_1:List (S26)) (x2_1:Int) (x3_1:Int) (x4_1:Int),v5=V I x2_1∧D (spec_l39List.l0 kq x1_1 t1 x2_1 s0_0 x3_1 x4_1=some (r1,r2,r3))∧D (kq≤k)∧D (Kd.R k26 26 w' w.heap.size (fun _=>True) v3 x1_1)∧D (IsS102 w0 w' g s0_0 x3_1 x4_1)∧D (KeepBut w w' g none)∧D (Below w0.heap.size w0 w'))
 case atStart=>exact⟨(y1),(0),(t2),(t3),rS,H',⟨Nat.le_refl _⟩,⟨fR HO1.out⟩,⟨by repeat(first|(with_reducible first|exact HI1.out|apply IsS102.alloc|apply IsS102.drewN|apply IsS102.drew|apply IsS102.set_1|apply IsS102.set_2)|exact HI1.out)⟩,⟨uH⟩,⟨by repeat(first|(with_reducible first|exact HB.out|apply bA|apply bN|apply b1|refine below_set ?_ (IsS102.ge HI1.out))|exact HB.out)⟩⟩
 case round=>
  clear H'
  obtain⟨x1_1,x2_1,x3_1,x4_1,rfl,HA,HK1,HO_1,HI1,HK,HB⟩:=hrel
  cases gk with
  |zero=>exact absurd HA.out (by simp[spec_l39List.l0])
  |succ k1=>
   have H:=HA.out
   clear HA
   simp only[spec_l39List.l0]at H
   by_cases c1:x2_1<t1
   rotate_left
   ·rw[if_neg c1]at H
    have c1b0:decide (x2_1<t1)=false:=decide_eq_false c1
    clear c1
    simp only[Option.some.injEq,Prod.mk.injEq]at H
    obtain⟨rfl,rfl,rfl⟩:=H
    go_wp2
    go_ret
    exact⟨_,rE,fR HO_1.out,by repeat(first|(with_reducible first|exact HI1.out|apply IsS102.alloc|apply IsS102.drewN|apply IsS102.drew|apply IsS102.set_1|apply IsS102.set_2)|exact HI1.out),by repeat(first|(with_reducible first|exact HB.out|apply bA|apply bN|apply b1|refine below_set ?_ (IsS102.ge HI1.out))|exact HB.out),uH⟩
   rw[if_pos c1]at H
   have c1b0:decide (x2_1<t1)=true:=decide_eq_true c1
   clear c1
   obtain⟨⟨t4,t5,t6,t7,t8,t9⟩,A2,H⟩:=bnd H
   dsimp only at H
   obtain⟨c2,H⟩:=np H
   have LMc1:=C c2
   clear c2
   obtain⟨y2,hy2⟩:∃y_:List (S26),y_=(x1_1++ [(⟨t4,t5,t6,t7⟩:S26)]):=⟨_,rfl⟩
   replace H:(spec_l39List.l0 k1 y2 t1 (wrap64 (x2_1+1)) s0_0 t8 t9)=some (r1,r2,r3):=gy hy2 H
   have Ny2:=C hy2
   clear hy2
   have H':=C H
   clear H
   go_wp2_with (first|((with_reducible refine F (f:=69) rfl ?_);refine gl 69 (some 16) Tryd.func69 #[.pointer (some ⟨g,0,none⟩)] ?_;(with_reducible refine(spec_l39Act.calls k1 g s0_0 x3_1 x4_1 t4 t5 t6 t7 t8 t9 w0 _ ?side1 ?side2 A2.out).mono ?_);(case side1=>repeat(first|(with_reducible first|exact HI1.out|apply IsS102.alloc|apply IsS102.drewN|apply IsS102.drew|apply IsS102.set_1|apply IsS102.set_2)|exact HI1.out));(case side2=>repeat(first|(with_reducible first|exact HB.out|apply bA|apply bN|apply b1|refine below_set ?_ (IsS102.ge HI1.out))|exact HB.out));rintro e w3 ⟨rfl,hi,hb,hk⟩;refine⟨_,rfl,?_⟩;replace HO_1:=C (X (Kd.R_keep (IsS102.apart (show IsS102 w0 _ g s0_0 x3_1 x4_1 from by repeat(first|(with_reducible first|exact HI1.out|apply IsS102.alloc|apply IsS102.drewN|apply IsS102.drew|apply IsS102.set_1|apply IsS102.set_2)|exact HI1.out)) (uR HO_1.out) (by decide)) hk (fun _ h=>h.2)) (fun _ h=>h.1));replace HK:=C (KeepBut.trans (show KeepBut w _ _ _ from uH) hk (.inl rfl));replace HB:=C (hb);replace HI1:=C (hi);clear hb hi hk)|((with_reducible refine gate_dst (N:=6) rfl ?_);refine Fix.be 6 #[V I 0,V I 0,V I 0,V I 0] 26 ?_;intro gb1 hg w4 BK1 hb;have GW1:=C ((by rw[hg];exact(keep_size (w:=w) (g:=g) (row:=none) (show KeepBut w _ _ _ from uH)):w.heap.size≤gb1));have GE1:=C ((Nat.le_trans HW1.out (by rw[hg];exact(keep_size (w:=w) (g:=g) (row:=none) (show KeepBut w _ _ _ from uH)):w.heap.size≤gb1):w0.heap.size≤gb1));have NB1_530:=C ((by rw[hg];exact Nat.ne_of_lt (IsS102.lt (show IsS102 w0 _ g s0_0 t8 t9 from by repeat(first|(with_reducible first|exact HI1.out|apply IsS102.alloc|apply IsS102.drewN|apply IsS102.drew|apply IsS102.set_1|apply IsS102.set_2)|exact HI1.out))):g≠gb1));have NB2_0:=C ((by rw[hg];exact Nat.ne_of_gt (IsS102.lt (show IsS102 w0 _ g s0_0 t8 t9 from by repeat(first|(with_reducible first|exact HI1.out|apply IsS102.alloc|apply IsS102.drewN|apply IsS102.drew|apply IsS102.set_1|apply IsS102.set_2)|exact HI1.out))):gb1≠g));replace HO_1:=C (Kd.R_below (Kd.R_elderB (uR HO_1.out) gb1 (Nat.le_of_eq hg.symm)) hb);replace HK:=C (KeepBut.trans (show KeepBut w _ _ _ from uH) (KeepBut.of_below hb g none) (.inl rfl));replace HB:=C (below_step (by repeat(first|(with_reducible first|exact HB.out|apply bA|apply bN|apply b1|refine below_set ?_ (IsS102.ge HI1.out))|exact HB.out)) hb);replace HI1:=C (IsS102.below (by repeat(first|(with_reducible first|exact HI1.out|apply IsS102.alloc|apply IsS102.drewN|apply IsS102.drew|apply IsS102.set_1|apply IsS102.set_2)|exact HI1.out)) hb);clear hb hg;have hnb1:=NB2_0.out;have hnc1:=NB1_530.out;have h_:=d4 BK1.out;(repeat(obtain⟨_,h_⟩:=h_)))|((with_reducible refine gate_builtin (b:=.append) (xs:= #[.tmp 17,.tmp 19]) rfl ?_);at_builtin;refine Kd.R_append k26 w.heap.size rfl (.tmp 17) (.tmp 19) 32 26 (G #[(V I 0),(V I 0),(V I 0),(V I 0)]) 32 rfl Tryd.underlying32 info26 rfl (by decide) (by omega) u3 x1_1 (⟨t4,t5,t6,t7⟩:S26) [V I t4,V I t5,V I t6,V I t7] (fun k_=>k_≠gb1) (fun _=>False) rfl (by first|(go_simp;done)|(go_simp;rfl)) ?aP (fun _ hk=>hk.elim) ?aF ?aO (Below.refl _ _) ?aS ?aL ?_;(case aP=>exact k26_mkM _ _ _ (⟨t4,t5,t6,t7⟩:S26));(case aF=>exact(fun k_ hk=>Kd.freshB (g:=gb1) (o:=.cells #[V I t4,V I t5,V I t6,V I t7] 26 (0,0)) (bK BK1.out) k_ hk));(case aO=>exact(X (fR (X HO_1.out (fun k_ hk=>(⟨hk,hk.2⟩:_∧k_≠gb1)))) (fun _ hk=>hk.1.2)));(case aS=>exact(keep_size (w:=w) (g:=g) (row:=none) (show KeepBut w _ _ _ from uH)));(case aL=>have:=LMc1.out;omega);intro v2 w5 ho hb hg hat;rw[←Ny2.out]at ho;have HO2:=C (ho);replace BK1:=C (blk_grown (g:=gb1) (o:=.cells #[V I t4,V I t5,V I t6,V I t7] 26 (0,0)) (bK BK1.out) hg (Kd.R_away HO_1.out (fun _ hk=>hk.2)));replace HB:=C (below_weaken (by repeat(first|(with_reducible first|exact HB.out|apply bA|apply bN|apply b1|refine below_set ?_ (IsS102.ge HI1.out)|refine below_set ?_ GE1.out)|exact HB.out)) HL.out hb);replace HI1:=C (IsS102.grown (show IsS102 w0 _ g s0_0 t8 t9 from by repeat(first|(with_reducible first|exact HI1.out|apply IsS102.alloc|apply IsS102.drewN|apply IsS102.drew|apply IsS102.set_1|apply IsS102.set_2|refine IsS102.far ?_ NB1_530.out _)|exact HI1.out)) hg (IsS102.own_ne HI1.out HO_1.out (by decide)));replace HK:=C (KeepBut.trans (show KeepBut w _ _ _ from uH) (KeepBut.of_grown hg g) (Kd.R_base2 HO_1.out));clear HO_1;clear ho hb hg hat))
   go_roundg k1
   case measure=>have:=HK1.out;omega
   case rel=>exact⟨(y2),(wrap64 (x2_1+1)),(t8),(t9),rS,H',⟨by have:=HK1.out;omega⟩,⟨X (fR HO2.out) (fun _ hk=>trivial)⟩,⟨by repeat(first|(with_reducible first|exact HI1.out|apply IsS102.alloc|apply IsS102.drewN|apply IsS102.drew|apply IsS102.set_1|apply IsS102.set_2|refine IsS102.far ?_ NB1_530.out _)|exact HI1.out)⟩,⟨uH⟩,⟨by repeat(first|(with_reducible first|exact HB.out|apply bA|apply bN|apply b1|refine below_set ?_ (IsS102.ge HI1.out)|refine below_set ?_ GE1.out)|exact HB.out)⟩⟩
end Go.Proofs.YtblceimapaenlaaDoor.PFnActParts
