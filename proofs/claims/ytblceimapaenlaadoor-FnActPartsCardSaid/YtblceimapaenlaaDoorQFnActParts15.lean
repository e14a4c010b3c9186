/- Calls do what plain Lean functions say (FnActParts). No condition. -/
import Derived.Test.YtblceimapaenlaaDoorQFnActParts0
import Derived.Test.YtblceimapaenlaaDoorQFnActParts9
import Derived.Test.YtblceimapaenlaaDoorQFnActParts10
import Derived.Test.YtblceimapaenlaaDoorQFnActParts14
namespace Go.Proofs.YtblceimapaenlaaDoor.PFnActParts
open Go.RowKit Go.Proofs.YtblceimapaenlaaDoorW.PrintWords Go.Proofs.YtblceimapaenlaaDoorW.PrintLast Go.Proofs.YtblceimapaenlaaDoorW.PrintMore
open Fix (bK bnd d14 d4 eB eK eQ eR fQ fR gE gK gl gy hx lR nG nL np oL qm qn rE rN rS uB uC uR)
open Go.Value renaming int→V,slice→L,bool→O
open Go.IntKind renaming i64→I
open Go.Proofs.YtblceimapaenlaaDoorW.PrintWords.Aside0 renaming mk→C
open Go.Proofs.YtblceimapaenlaaDoorW.PrintWords renaming Aside0→D
open Go.Proofs.YtblceimapaenlaaDoorW.PrintWords.Kd renaming R_mono→X,R_types→Y
attribute [local go_sem] max2_int min2_int max_two min_two max_three min_three max_four min_four
attribute [local go_sem] Fix.isSome_setCell
set_option linter.unusedVariables false
set_option maxHeartbeats 40000000
set_option maxRecDepth 100000
set_option linter.unusedSimpArgs false
mutual
def impl_RunActs.j0:Nat→List (S26)→Bool→List (S40)→Int→Int→Int→Bool→Int→Bool→Int→Int→List Int→List Int→Int→Bool→Int→Option ((List (S40))×Int×Int×Int×Bool×Int×Bool×Int×Int×List Int×List Int×Int×Bool×Int×List Int)
  |0,_,_,_,_,_,_,_,_,_,_,_,_,_,_,_,_=>none
  |k+1,x1,x21,x942000,x942001,x942002,x942003,x942004,x942005,x942006,x942007,x942008,x942009,x942010,x942011,x942012,x942013=>if x21=true then(some (x942000,x942001,x942002,x942003,x942004,x942005,x942006,x942007,x942008,x942009,x942010,x942011,x942012,x942013,([]:List Int))) else(impl_RunActs.l0 k ([]:List Int) x1 (x1.length:Int) 0 x942000 x942001 x942002 x942003 x942004 x942005 x942006 x942007 x942008 x942009 x942010 x942011 x942012 x942013)
def impl_RunActs.l0:Nat→List Int→List (S26)→Int→Int→List (S40)→Int→Int→Int→Bool→Int→Bool→Int→Int→List Int→List Int→Int→Bool→Int→Option ((List (S40))×Int×Int×Int×Bool×Int×Bool×Int×Int×List Int×List Int×Int×Bool×Int×List Int)
  |0,_,_,_,_,_,_,_,_,_,_,_,_,_,_,_,_,_,_=>none
  |k+1,x7,x23,x24,x25,x942000,x942001,x942002,x942003,x942004,x942005,x942006,x942007,x942008,x942009,x942010,x942011,x942012,x942013=>if x25<x24 then(if 0≤x25 then(if x25<(x23.length:Int) then((impl_DoAct.f k x942000 x942001 x942002 x942003 x942004 x942005 x942006 x942007 x942008 x942009 x942010 x942011 x942012 x942013 ((rd_T26 x23 x25).f0) ((rd_T26 x23 x25).f1) ((rd_T26 x23 x25).f2) ((rd_T26 x23 x25).f3)).bind fun bt945=>(if x7.length<17592186044416 then(impl_RunActs.l0 k (x7++ [bt945.2.2.2.2.2.2.2.2.2.2.2.2.2.2]) x23 x24 (wrap64 (x25+1)) bt945.1 bt945.2.1 bt945.2.2.1 bt945.2.2.2.1 bt945.2.2.2.2.1 bt945.2.2.2.2.2.1 bt945.2.2.2.2.2.2.1 bt945.2.2.2.2.2.2.2.1 bt945.2.2.2.2.2.2.2.2.1 bt945.2.2.2.2.2.2.2.2.2.1 bt945.2.2.2.2.2.2.2.2.2.2.1 bt945.2.2.2.2.2.2.2.2.2.2.2.1 bt945.2.2.2.2.2.2.2.2.2.2.2.2.1 bt945.2.2.2.2.2.2.2.2.2.2.2.2.2.1) else(none))) else(none)) else(none)) else(some (x942000,x942001,x942002,x942003,x942004,x942005,x942006,x942007,x942008,x942009,x942010,x942011,x942012,x942013,x7))
end
def impl_RunActs.f (k:Nat) (l0_0:List (S40)) (a0_1:Int) (a0_2:Int) (a0_3:Int) (a0_4:Bool) (a0_5:Int) (a0_6:Bool) (a0_7:Int) (a0_8:Int) (l0_9:List Int) (l0_10:List Int) (a0_11:Int) (a0_12:Bool) (a0_13:Int) (l1:List (S26)):Option ((List (S40))×Int×Int×Int×Bool×Int×Bool×Int×Int×List Int×List Int×Int×Bool×Int×List Int):=(impl_copyMachine.f l0_0 a0_1 a0_2 a0_3 a0_4 a0_5 a0_6 a0_7 a0_8 l0_9 l0_10 a0_11 a0_12 a0_13).bind fun bt921=>((impl_MachineOk.f k l0_0 a0_1 a0_2 a0_3 a0_4 a0_5 a0_6 a0_7 a0_8 l0_9 l0_10 a0_11 a0_12 a0_13).bind fun t942=>(if t942=true then(impl_RunActs.j0 k l1 (decide ((l1.length:Int) >40)) bt921.1 bt921.2.1 bt921.2.2.1 bt921.2.2.2.1 bt921.2.2.2.2.1 bt921.2.2.2.2.2.1 bt921.2.2.2.2.2.2.1 bt921.2.2.2.2.2.2.2.1 bt921.2.2.2.2.2.2.2.2.1 bt921.2.2.2.2.2.2.2.2.2.1 bt921.2.2.2.2.2.2.2.2.2.2.1 bt921.2.2.2.2.2.2.2.2.2.2.2.1 bt921.2.2.2.2.2.2.2.2.2.2.2.2.1 bt921.2.2.2.2.2.2.2.2.2.2.2.2.2) else(impl_RunActs.j0 k l1 true bt921.1 bt921.2.1 bt921.2.2.1 bt921.2.2.2.1 bt921.2.2.2.2.1 bt921.2.2.2.2.2.1 bt921.2.2.2.2.2.2.1 bt921.2.2.2.2.2.2.2.1 bt921.2.2.2.2.2.2.2.2.1 bt921.2.2.2.2.2.2.2.2.2.1 bt921.2.2.2.2.2.2.2.2.2.2.1 bt921.2.2.2.2.2.2.2.2.2.2.2.1 bt921.2.2.2.2.2.2.2.2.2.2.2.2.1 bt921.2.2.2.2.2.2.2.2.2.2.2.2.2)))
theorem impl_RunActs.mono_l:∀k,(∀y0 y1 y2 y3 y4 y5 y6 y7 y8 y9 y10 y11 y12 y13 y14 y15,LeO (impl_RunActs.j0 k y0 y1 y2 y3 y4 y5 y6 y7 y8 y9 y10 y11 y12 y13 y14 y15) (impl_RunActs.j0 (k+1) y0 y1 y2 y3 y4 y5 y6 y7 y8 y9 y10 y11 y12 y13 y14 y15))∧(∀y0 y1 y2 y3 y4 y5 y6 y7 y8 y9 y10 y11 y12 y13 y14 y15 y16 y17,LeO (impl_RunActs.l0 k y0 y1 y2 y3 y4 y5 y6 y7 y8 y9 y10 y11 y12 y13 y14 y15 y16 y17) (impl_RunActs.l0 (k+1) y0 y1 y2 y3 y4 y5 y6 y7 y8 y9 y10 y11 y12 y13 y14 y15 y16 y17))
 |0=>⟨fun _ _ _ _ _ _ _ _ _ _ _ _ _ _ _ _ r h=>by simp[impl_RunActs.j0]at h,fun _ _ _ _ _ _ _ _ _ _ _ _ _ _ _ _ _ _ r h=>by simp[impl_RunActs.l0]at h⟩
 |k+1=>by
  obtain⟨ih0,ih1⟩:=impl_RunActs.mono_l k
  refine⟨?_,?_⟩
  ·intro y0 y1 y2 y3 y4 y5 y6 y7 y8 y9 y10 y11 y12 y13 y14 y15
   unfold impl_RunActs.j0
   repeat' first|(with_reducible first|apply ih0|apply ih1|apply impl_DoAct.mono|apply impl_MachineOk.mono|exact LeO.refl _|exact LeO.none _|refine LeO.ite ?_ ?_|refine LeO.bind ?_ (fun _=> ?_))|apply ih0|apply ih1|exact LeO.none _|refine LeO.ite ?_ ?_|refine LeO.bind ?_ (fun _=> ?_)
  ·intro y0 y1 y2 y3 y4 y5 y6 y7 y8 y9 y10 y11 y12 y13 y14 y15 y16 y17
   unfold impl_RunActs.l0
   repeat' first|(with_reducible first|apply ih0|apply ih1|apply impl_DoAct.mono|apply impl_MachineOk.mono|exact LeO.refl _|exact LeO.none _|refine LeO.ite ?_ ?_|refine LeO.bind ?_ (fun _=> ?_))|apply ih0|apply ih1|exact LeO.none _|refine LeO.ite ?_ ?_|refine LeO.bind ?_ (fun _=> ?_)
theorem impl_RunActs.mono:∀a0 a1 a2 a3 a4 a5 a6 a7 a8 a9 a10 a11 a12 a13 a14 k,LeO (impl_RunActs.f k a0 a1 a2 a3 a4 a5 a6 a7 a8 a9 a10 a11 a12 a13 a14) (impl_RunActs.f (k+1) a0 a1 a2 a3 a4 a5 a6 a7 a8 a9 a10 a11 a12 a13 a14):=by
 intro a0 a1 a2 a3 a4 a5 a6 a7 a8 a9 a10 a11 a12 a13 a14 k
 obtain⟨ih0,ih1⟩:=impl_RunActs.mono_l k
 unfold impl_RunActs.f
 repeat' first|(with_reducible first|apply ih0|apply ih1|apply impl_DoAct.mono|apply impl_MachineOk.mono|exact LeO.refl _|exact LeO.none _|refine LeO.ite ?_ ?_|refine LeO.bind ?_ (fun _=> ?_))|apply ih0|apply ih1|exact LeO.none _|refine LeO.ite ?_ ?_|refine LeO.bind ?_ (fun _=> ?_)
theorem impl_RunActs.W1 {p:Prop} (h:p:=by
    go_wp2
    first
      | (refine bodyPost_ret (results_ct rfl _ _ gb2 45 #[L Ao1 t1.length co1, V I t2, V I t3, V I t4, O t5, V I t6, O t7, V I t8, V I t9, L Ao2 t10.length co2, L Ao3 t11.length co3, V I t12, O t13, V I t14] (0, 0) _ rfl (bK BK2.out) Tryd.underlying45 rfl (by kernel_rfl)) rfl ?_
         exact⟨_,_,_,_,rE,X (fR (Y HO_1.out BK2.out (by decide))) (fun _ hk=>trivial),Kd.Q_mono (fQ (Kd.Q_types HO_2.out BK2.out (by decide))) (fun _ hk=>⟨hk.1,(by simp[Value.ownBlock])⟩),X (fR (Y HO_3.out BK2.out (by decide))) (fun _ hk=>⟨hk.1,(by simp[Value.ownBlock])⟩),rN,uB⟩)
      | (refine bodyPost_ret (results_ct rfl _ _ gb2 45 #[L Ao4 x4_2.length co4, V I x5_2, V I x6_2, V I x7_2, O x8_2, V I x9_2, O x10_2, V I x11_2, V I x12_2, L Ao5 x13_2.length co5, L Ao6 x14_2.length co6, V I x15_2, O x16_2, V I x17_2] (0, 0) _ rfl (bK BK2.out) Tryd.underlying45 rfl (by kernel_rfl)) rfl ?_
         exact⟨_,_,_,_,rE,X (fR (Y HO_1.out BK2.out (by decide))) (fun _ hk=>trivial),Kd.Q_mono (fQ (Kd.Q_types HO_2.out BK2.out (by decide))) (fun _ hk=>⟨hk.1.2,hk.1.1⟩),X (fR (Y HO_3.out BK2.out (by decide))) (fun _ hk=>⟨hk.1.2,hk.1.1⟩),X (fR (Y HO_4.out BK2.out (by decide))) (fun _ hk=>⟨hk.1.1,hk.1.2⟩),uB⟩)):p:=h
theorem impl_RunActs.calls (k:Nat) (A0_0:Option Addr) (c0_0:Nat) (l0_0:List (S40)) (a0_1:Int) (a0_2:Int) (a0_3:Int) (a0_4:Bool) (a0_5:Int) (a0_6:Bool) (a0_7:Int) (a0_8:Int) (A0_9:Option Addr) (c0_9:Nat) (l0_9:List Int) (A0_10:Option Addr) (c0_10:Nat) (l0_10:List Int) (a0_11:Int) (a0_12:Bool) (a0_13:Int) (A1:Option Addr) (c1:Nat) (l1:List (S26)) (r1:List (S40)) (r2:Int) (r3:Int) (r4:Int) (r5:Bool) (r6:Int) (r7:Bool) (r8:Int) (r9:Int) (r10:List Int) (r11:List Int) (r12:Int) (r13:Bool) (r14:Int) (r15:List Int) (w:World) (hr0_0:Kd.C k40 w A0_0 l0_0.length l0_0) (hc0_0:l0_0.length≤c0_0) (hr0_9:Kd.C (Kd.int .i64) w A0_9 l0_9.length l0_9) (hc0_9:l0_9.length≤c0_9) (hr0_10:Kd.C (Kd.int .i64) w A0_10 l0_10.length l0_10) (hc0_10:l0_10.length≤c0_10) (hr1:Kd.C k26 w A1 l1.length l1) (hc1:l1.length≤c1) (h:impl_RunActs.f k l0_0 a0_1 a0_2 a0_3 a0_4 a0_5 a0_6 a0_7 a0_8 l0_9 l0_10 a0_11 a0_12 a0_13 l1=some (r1,r2,r3,r4,r5,r6,r7,r8,r9,r10,r11,r12,r13,r14,r15)):
 Calls Tryd.prog 29 #[.agg #[L A0_0 l0_0.length c0_0,V I a0_1,V I a0_2,V I a0_3,O a0_4,V I a0_5,O a0_6,V I a0_7,V I a0_8,L A0_9 l0_9.length c0_9,L A0_10 l0_10.length c0_10,V I a0_11,O a0_12,V I a0_13],L A1 l1.length c1] w fun e w'=>∃v0_ v9_ v10_ v14_:Value,e=.returned (.tuple #[.agg #[v0_,V I r2,V I r3,V I r4,O r5,V I r6,O r7,V I r8,V I r9,v9_,v10_,V I r12,O r13,V I r14],v14_])∧Kd.R k40 40 w' w.heap.size (fun _=>True) v0_ r1∧Kd.Q (Kd.int .i64) 3 w' w.heap.size (fun k_=>qm k_ v10_∧qm k_ v14_) v9_ r10∧Kd.R (Kd.int .i64) 3 w' w.heap.size (fun k_=>qm k_ v9_∧qm k_ v14_) v10_ r11∧Kd.R (Kd.int .i64) 3 w' w.heap.size (fun k_=>qm k_ v9_∧qm k_ v10_) v14_ r15∧Below w.heap.size w w':=by
 have hu1:=Tryd.underlying45
 have hu2:=Tryd.underlying26
 have HR1_0:=C hr0_0
 have HC1_0:=C hc0_0
 (try clear hr0_0);(try clear hc0_0)
 have HR1_9:=C hr0_9
 have HC1_9:=C hc0_9
 (try clear hr0_9);(try clear hc0_9)
 have HR1_10:=C hr0_10
 have HC1_10:=C hc0_10
 (try clear hr0_10);(try clear hc0_10)
 have HR2:=C hr1
 have HC2:=C hc1
 (try clear hr1);(try clear hc1)
 have HB:=C (Below.refl w.heap.size w)
 have H:=h
 unfold impl_RunActs.f at H
 clear h
 obtain⟨⟨t1,t2,t3,t4,t5,t6,t7,t8,t9,t10,t11,t12,t13,t14⟩,A1,H⟩:=bnd H
 dsimp only at H
 have HC3:=C H
 clear H
 go_enter Tryd.func29,Tryd.ntmps29
 go_upto_region 2 with(first|((with_reducible refine gate_dst (N:=2) rfl ?_);(try(refine gate_guard (by rfl) ?_;dsimp only));refine Fix.be 2 #[L A0_0 l0_0.length c0_0,V I a0_1,V I a0_2,V I a0_3,O a0_4,V I a0_5,O a0_6,V I a0_7,V I a0_8,L A0_9 l0_9.length c0_9,L A0_10 l0_10.length c0_10,V I a0_11,O a0_12,V I a0_13] 45 ?_;intro gb1 hg w1 BK1 hb;have GW1:D (w.heap.size≤gb1):=gE hg;have GE1:=GW1;replace HB:=eB hb;clear hb hg)|((with_reducible refine gate_dst (N:=4) rfl ?_);(try(refine gate_guard (by rfl) ?_;dsimp only));refine Fix.be 4 #[L none 0 0,V I 0,V I 0,V I 0,O false,V I 0,O false,V I 0,V I 0,L none 0 0,L none 0 0,V I 0,O false,V I 0] 45 ?_;intro gb2 hg w2 BK2 hb;have GW2:D (w.heap.size≤gb2):=gE hg;have GE2:=GW2;have NB1_920:=nL hg BK1;have NB2_919:=nG hg BK1;replace BK1:=eK BK1 hb;replace HB:=eB hb;clear hb hg;have hnb1:=NB1_920.out;have hnc1:=NB2_919.out;have h_:=d14 BK1.out;(repeat(obtain⟨_,h_⟩:=h_)))|((with_reducible refine gate_callee (f:=57) rfl ?_);refine gl 57 (some 13) Tryd.func57 #[.agg #[L A0_0 l0_0.length c0_0,V I a0_1,V I a0_2,V I a0_3,O a0_4,V I a0_5,O a0_6,V I a0_7,V I a0_8,L A0_9 l0_9.length c0_9,L A0_10 l0_10.length c0_10,V I a0_11,O a0_12,V I a0_13]] ?_;(with_reducible refine(impl_copyMachine.calls _ _ l0_0 a0_1 a0_2 a0_3 a0_4 a0_5 a0_6 a0_7 a0_8 _ _ l0_9 _ _ l0_10 a0_11 a0_12 a0_13 t1 t2 t3 t4 t5 t6 t7 t8 t9 t10 t11 t12 t13 t14 _ ?side1 ?side2 ?side3 ?side4 ?side5 ?side6 A1.out).mono ?_);(case side1=>exact uC (Kd.C_below HR1_0.out HB.out));(case side2=>exact HC1_0.out);(case side3=>exact uC (Kd.C_below HR1_9.out HB.out));(case side4=>exact HC1_9.out);(case side5=>exact uC (Kd.C_below HR1_10.out HB.out));(case side6=>exact HC1_10.out);rintro e w3 ⟨v1,v2,v3,rfl,ho1,ho2,ho3,hb⟩;refine⟨_,rfl,?_⟩;have HO1:=lR ho1;have HO2:=lR ho2;have HO3:=lR ho3;replace BK1:=eK BK1 hb;replace BK2:=eK BK2 hb;replace HB:=eB hb;clear hb ho1 ho2 ho3)|((with_reducible refine gate_dst (N:=6) rfl ?_);(try(refine gate_guard (by rfl) ?_;dsimp only));refine Fix.be 6 #[L none 0 0,V I 0,V I 0,V I 0,O false,V I 0,O false,V I 0,V I 0,L none 0 0,L none 0 0,V I 0,O false,V I 0] 45 ?_;intro gb3 hg w4 BK3 hb;have GW3:D (w.heap.size≤gb3):=gE hg;have GE3:=GW3;have NB1_941:=nL hg BK1;have NB3_919:=nG hg BK1;have NB2_941:=nL hg BK2;have NB3_920:=nG hg BK2;replace HO1:=eR HO1 hb;replace HO2:=eR HO2 hb;replace HO3:=eR HO3 hb;replace BK1:=eK BK1 hb;replace BK2:=eK BK2 hb;replace HB:=eB hb;clear hb hg;obtain⟨Ao1,co1,eo1⟩:=Kd.R_slice HO1.out;subst eo1;have hnb2:=NB3_919.out;have hnc2:=NB1_941.out;have hnb3:=NB3_920.out;have hnc3:=NB2_941.out;have h_:=d14 BK3.out;(repeat(obtain⟨_,h_⟩:=h_));obtain⟨Ao2,co2,eo2⟩:=Kd.R_slice HO2.out;subst eo2;obtain⟨Ao3,co3,eo3⟩:=Kd.R_slice HO3.out;subst eo3))
 (try simp only[Act.put,List.setIfInBounds_toArray,List.set_cons_zero,List.set_cons_succ])
 go_cut [21] (fun v21 wc=>∃(kq:Nat) (x1_3:Bool),v21=O x1_3∧D (impl_RunActs.j0 kq l1 x1_3 t1 t2 t3 t4 t5 t6 t7 t8 t9 t10 t11 t12 t13 t14=some (r1,r2,r3,r4,r5,r6,r7,r8,r9,r10,r11,r12,r13,r14,r15))∧D (kq≤k)∧D (Kd.R k40 40 wc w.heap.size (fun _=>True) (L Ao1 t1.length co1) t1)∧D (Kd.Q (Kd.int .i64) 3 wc w.heap.size (fun k_=>some k_≠Fix.o Ao3 t11.length co3) (L Ao2 t10.length co2) t10)∧D (Kd.R (Kd.int .i64) 3 wc w.heap.size (fun k_=>some k_≠Fix.o Ao2 t10.length co2) (L Ao3 t11.length co3) t11)∧D (wc.heap[gb1]? =some (.cells #[(L A0_0 l0_0.length c0_0),V I a0_1,V I a0_2,V I a0_3,O a0_4,V I a0_5,O a0_6,V I a0_7,V I a0_8,(L A0_9 l0_9.length c0_9),(L A0_10 l0_10.length c0_10),V I a0_11,O a0_12,V I a0_13] 45 (0,0)))∧D (wc.heap[gb2]? =some (.cells #[(L none 0 0),V I 0,V I 0,V I 0,O false,V I 0,O false,V I 0,V I 0,(L none 0 0),(L none 0 0),V I 0,O false,V I 0] 45 (0,0)))∧D (wc.heap[gb3]? =some (.cells #[(L Ao1 t1.length co1),V I t2,V I t3,V I t4,O t5,V I t6,O t7,V I t8,V I t9,(L Ao2 t10.length co2),(L Ao3 t11.length co3),V I t12,O t13,V I t14] 45 (0,0)))∧D (Below w.heap.size w wc))
 case first=>
  have H:=HC3.out
  clear HC3
  obtain⟨t15,A2,H⟩:=bnd H
  by_cases c1:t15=true
  ·subst c1
   rw[if_pos rfl]at H
   have H':=C H
   clear H
   have hnb4:=NB1_920.out
   have hnc4:=NB2_919.out
   have hnb5:=NB1_941.out
   have hnc5:=NB3_919.out
   have h_:=d14 BK1.out;(repeat(obtain⟨_,h_⟩:=h_))
   go_wp2_with (first|((with_reducible refine gate_callee (f:=42) rfl ?_);refine gl 42 (some 15) Tryd.func42 #[.agg #[L A0_0 l0_0.length c0_0,V I a0_1,V I a0_2,V I a0_3,O a0_4,V I a0_5,O a0_6,V I a0_7,V I a0_8,L A0_9 l0_9.length c0_9,L A0_10 l0_10.length c0_10,V I a0_11,O a0_12,V I a0_13]] ?_;(with_reducible refine(impl_MachineOk.calls k _ _ l0_0 a0_1 a0_2 a0_3 a0_4 a0_5 a0_6 a0_7 a0_8 _ _ l0_9 _ _ l0_10 a0_11 a0_12 a0_13 true _ ?side1 ?side2 ?side3 ?side4 ?side5 ?side6 A2.out).mono ?_);(case side1=>exact Kd.C_below HR1_0.out uB);(case side2=>exact HC1_0.out);(case side3=>exact Kd.C_below HR1_9.out uB);(case side4=>exact HC1_9.out);(case side5=>exact Kd.C_below HR1_10.out uB);(case side6=>exact HC1_10.out);rintro e w5 ⟨rfl,hb⟩;refine⟨_,rfl,?_⟩;replace HO1:=C (Kd.R_below (X (fR (Y HO1.out BK3.out (by decide))) (fun _ h_=>h_.1)) hb);replace HO2:=C (Kd.R_below (X (fR (Y HO2.out BK3.out (by decide))) (fun _ h_=>h_.1)) hb);replace HO3:=C (Kd.R_below (X (fR (Y HO3.out BK3.out (by decide))) (fun _ h_=>h_.1)) hb);replace BK1:=eK BK1 hb;replace BK2:=eK BK2 hb;replace BK3:=C (blk_below (g:=gb3) (o:=.cells #[L Ao1 t1.length co1,V I t2,V I t3,V I t4,O t5,V I t6,O t7,V I t8,V I t9,L Ao2 t10.length co2,L Ao3 t11.length co3,V I t12,O t13,V I t14] 45 (0,0)) (bK BK3.out) hb);replace HB:=eB hb;clear hb))
   go_meet
   case rel=>exact⟨_,(decide ((l1.length:Int) >40)),rS,H',⟨oL⟩,⟨fR HO1.out⟩,⟨Kd.Q_of_R (uR HO2.out)⟩,⟨fR HO3.out⟩,⟨bK BK1.out⟩,⟨bK BK2.out⟩,⟨bK BK3.out⟩,⟨uB⟩⟩
  replace c1:=Bool.eq_false_iff.mpr c1
  subst c1
  rw[if_neg Bool.false_ne_true]at H
  have H':=C H
  clear H
  have hnb4:=NB1_920.out
  have hnc4:=NB2_919.out
  have hnb5:=NB1_941.out
  have hnc5:=NB3_919.out
  have h_:=d14 BK1.out;(repeat(obtain⟨_,h_⟩:=h_))
  go_wp2_with (first|((with_reducible refine gate_callee (f:=42) rfl ?_);refine gl 42 (some 15) Tryd.func42 #[.agg #[L A0_0 l0_0.length c0_0,V I a0_1,V I a0_2,V I a0_3,O a0_4,V I a0_5,O a0_6,V I a0_7,V I a0_8,L A0_9 l0_9.length c0_9,L A0_10 l0_10.length c0_10,V I a0_11,O a0_12,V I a0_13]] ?_;(with_reducible refine(impl_MachineOk.calls k _ _ l0_0 a0_1 a0_2 a0_3 a0_4 a0_5 a0_6 a0_7 a0_8 _ _ l0_9 _ _ l0_10 a0_11 a0_12 a0_13 false _ ?side1 ?side2 ?side3 ?side4 ?side5 ?side6 A2.out).mono ?_);(case side1=>exact Kd.C_below HR1_0.out uB);(case side2=>exact HC1_0.out);(case side3=>exact Kd.C_below HR1_9.out uB);(case side4=>exact HC1_9.out);(case side5=>exact Kd.C_below HR1_10.out uB);(case side6=>exact HC1_10.out);rintro e w5 ⟨rfl,hb⟩;refine⟨_,rfl,?_⟩;replace HO1:=C (Kd.R_below (X (fR (Y HO1.out BK3.out (by decide))) (fun _ h_=>h_.1)) hb);replace HO2:=C (Kd.R_below (X (fR (Y HO2.out BK3.out (by decide))) (fun _ h_=>h_.1)) hb);replace HO3:=C (Kd.R_below (X (fR (Y HO3.out BK3.out (by decide))) (fun _ h_=>h_.1)) hb);replace BK1:=eK BK1 hb;replace BK2:=eK BK2 hb;replace BK3:=C (blk_below (g:=gb3) (o:=.cells #[L Ao1 t1.length co1,V I t2,V I t3,V I t4,O t5,V I t6,O t7,V I t8,V I t9,L Ao2 t10.length co2,L Ao3 t11.length co3,V I t12,O t13,V I t14] 45 (0,0)) (bK BK3.out) hb);replace HB:=eB hb;clear hb))
  go_meet
  case rel=>exact⟨_,(true),rS,H',⟨oL⟩,⟨fR HO1.out⟩,⟨Kd.Q_of_R (uR HO2.out)⟩,⟨fR HO3.out⟩,⟨bK BK1.out⟩,⟨bK BK2.out⟩,⟨bK BK3.out⟩,⟨uB⟩⟩
 case rest=>
  clear HC3
  obtain⟨kq,x1_3,rfl,HA,HJ1,HO_1,HO_2,HO_3,BK1,BK2,BK3,HB⟩:=hcut
  cases kq with
  |zero=>exact absurd HA.out (by simp[impl_RunActs.j0])
  |succ kj3=>
   have H:=HA.out
   clear HA
   simp only[impl_RunActs.j0]at H
   by_cases c1:x1_3=true
   ·subst c1
    rw[if_pos rfl]at H
    simp only[Option.some.injEq,Prod.mk.injEq]at H
    obtain⟨rfl,rfl,rfl,rfl,rfl,rfl,rfl,rfl,rfl,rfl,rfl,rfl,rfl,rfl,rfl⟩:=H
    have hnb4:=NB3_919.out
    have hnc4:=NB1_941.out
    have hnb5:=NB3_920.out
    have hnc5:=NB2_941.out
    have h_:=d14 BK3.out;(repeat(obtain⟨_,h_⟩:=h_))
    have hnb6:=NB2_919.out
    have hnc6:=NB1_920.out
    have h_:=d14 BK2.out;(repeat(obtain⟨_,h_⟩:=h_))
    exact impl_RunActs.W1
   replace c1:=Bool.eq_false_iff.mpr c1
   subst c1
   rw[if_neg Bool.false_ne_true]at H
   have H':=C H
   clear H
   go_wp2
   go_loopg [7,25] kj3 (fun kq v7 v25 w'=>∃(x2_2:List Int) (x3_2:Int) (x4_2:List (S40)) (x5_2:Int) (x6_2:Int) (x7_2:Int) (x8_2:Bool) (x9_2:Int) (x10_2:Bool) (x11_2:Int) (x12_2:Int) (x13_2:List Int) (x14_2:List Int) (x15_2:Int) (x16_2:Bool) (x17_2:Int) (u942000:Value) (u942009:Value) (u942010:Value),v25=V I x3_2∧D (impl_RunActs.l0 kq x2_2 l1 (l1.length:Int) x3_2 x4_2 x5_2 x6_2 x7_2 x8_2 x9_2 x10_2 x11_2 x12_2 x13_2 x14_2 x15_2 x16_2 x17_2=some (r1,r2,r3,r4,r5,r6,r7,r8,r9,r10,r11,r12,r13,r14,r15))∧D (kq≤kj3)∧D (Kd.R (Kd.int .i64) 3 w' w.heap.size (fun k_=>qm k_ u942009∧qm k_ u942010) v7 x2_2)∧D (Kd.R k40 40 w' w.heap.size (fun _=>True) u942000 x4_2)∧D (Kd.Q (Kd.int .i64) 3 w' w.heap.size (fun k_=>qm k_ v7∧qm k_ u942010) u942009 x13_2)∧D (Kd.R (Kd.int .i64) 3 w' w.heap.size (fun k_=>qm k_ v7∧qm k_ u942009) u942010 x14_2)∧D (w'.heap[gb1]? =some (.cells #[(L A0_0 l0_0.length c0_0),V I a0_1,V I a0_2,V I a0_3,O a0_4,V I a0_5,O a0_6,V I a0_7,V I a0_8,(L A0_9 l0_9.length c0_9),(L A0_10 l0_10.length c0_10),V I a0_11,O a0_12,V I a0_13] 45 (0,0)))∧D (w'.heap[gb2]? =some (.cells #[(L none 0 0),V I 0,V I 0,V I 0,O false,V I 0,O false,V I 0,V I 0,(L none 0 0),(L none 0 0),V I 0,O false,V I 0] 45 (0,0)))∧D (w'.heap[gb3]? =some (.cells #[u942000,V I x5_2,V I x6_2,V I x7_2,O x8_2,V I x9_2,O x10_2,V I x11_2,V I x12_2,u942009,u942010,V I x15_2,O x16_2,V I x17_2] 45 (0,0)))∧D (Below w.heap.size w w'))
   case atStart=>exact⟨(([]:List Int)),(0),(t1),(t2),(t3),(t4),(t5),(t6),(t7),(t8),(t9),(t10),(t11),(t12),(t13),(t14),(L Ao1 t1.length co1),(L Ao2 t10.length co2),(L Ao3 t11.length co3),rS,H',⟨Nat.le_refl _⟩,⟨rN⟩,⟨fR HO_1.out⟩,⟨Kd.Q_mono (fQ HO_2.out) (fun _ hk=>⟨(by simp[Value.ownBlock]),hk⟩)⟩,⟨X (fR HO_3.out) (fun _ hk=>⟨(by simp[Value.ownBlock]),hk⟩)⟩,⟨bK BK1.out⟩,⟨bK BK2.out⟩,⟨bK BK3.out⟩,⟨uB⟩⟩
   case round=>
    clear H'
    obtain⟨x2_2,x3_2,x4_2,x5_2,x6_2,x7_2,x8_2,x9_2,x10_2,x11_2,x12_2,x13_2,x14_2,x15_2,x16_2,x17_2,u942000,u942009,u942010,rfl,HA,HK1,HO_4,HO_1,HO_2,HO_3,BK1,BK2,BK3,HB⟩:=hrel
    cases gk with
    |zero=>exact absurd HA.out (by simp[impl_RunActs.l0])
    |succ k2=>
     have H:=HA.out
     clear HA
     simp only[impl_RunActs.l0]at H
     by_cases c2:x3_2<(l1.length:Int)
     rotate_left
     ·rw[if_neg c2]at H
      have c2b0:decide (x3_2<(l1.length:Int))=false:=decide_eq_false c2
      clear c2
      simp only[Option.some.injEq,Prod.mk.injEq]at H
      obtain⟨rfl,rfl,rfl,rfl,rfl,rfl,rfl,rfl,rfl,rfl,rfl,rfl,rfl,rfl,rfl⟩:=H
      have hnb4:=NB3_919.out
      have hnc4:=NB1_941.out
      have hnb5:=NB3_920.out
      have hnc5:=NB2_941.out
      have h_:=d14 BK3.out;(repeat(obtain⟨_,h_⟩:=h_))
      obtain⟨Ao4,co4,eo4⟩:=Kd.R_slice HO_1.out
      subst eo4
      have hnb6:=NB2_919.out
      have hnc6:=NB1_920.out
      have h_:=d14 BK2.out;(repeat(obtain⟨_,h_⟩:=h_))
      obtain⟨Ao5,co5,eo5,_⟩:=Kd.Q_slice HO_2.out
      subst eo5
      obtain⟨Ao6,co6,eo6⟩:=Kd.R_slice HO_3.out
      subst eo6
      exact impl_RunActs.W1
     rw[if_pos c2]at H
     have c2b0:decide (x3_2<(l1.length:Int))=true:=decide_eq_true c2
     clear c2
     obtain⟨c3,H⟩:=np H
     have c3b0:decide (0≤x3_2)=true:=decide_eq_true c3
     clear c3
     obtain⟨c4,H⟩:=np H
     have c4b0:decide (x3_2<(l1.length:Int))=true:=decide_eq_true c4
     clear c4
     obtain⟨⟨t15,t16,t17,t18,t19,t20,t21,t22,t23,t24,t25,t26,t27,t28,t29⟩,A2,H⟩:=bnd H
     dsimp only at H
     obtain⟨c5,H⟩:=np H
     have LMc1:=C c5
     clear c5
     obtain⟨y1,hy1⟩:∃y_:List Int,y_=(x2_2++ [t29]):=⟨_,rfl⟩
     replace H:(impl_RunActs.l0 k2 y1 l1 (l1.length:Int) (wrap64 (x3_2+1)) t15 t16 t17 t18 t19 t20 t21 t22 t23 t24 t25 t26 t27 t28)=some (r1,r2,r3,r4,r5,r6,r7,r8,r9,r10,r11,r12,r13,r14,r15):=gy hy1 H
     have Ny1:=C hy1
     clear hy1
     have H':=C H
     clear H
     have p1:0≤(x3_2:Int):=of_decide_eq_true (by first|(with_reducible assumption)|assumption)
     have q1:x3_2<(l1.length:Int):=of_decide_eq_true (by first|(with_reducible assumption)|assumption)
     obtain⟨ad1,e1,hx1_0,hx1_1,hx1_2,hx1_3⟩:=at_T26 HR2.out x3_2 p1 q1
     cases e1
     replace hx1_0:=hx HB hx1_0
     replace hx1_1:=hx HB hx1_1
     replace hx1_2:=hx HB hx1_2
     replace hx1_3:=hx HB hx1_3
     replace p1:=eq_true p1
     replace q1:=eq_true q1
     go_wp2_with (first|((with_reducible refine gate_dst (N:=9) rfl ?_);(try(refine gate_guard (by rfl) ?_;dsimp only));refine Fix.be 9 #[V I 0,V I 0,V I 0,V I 0] 26 ?_;intro gb4 hg w5 BK4 hb;have GW4:D (w.heap.size≤gb4):=gE hg;have GE4:=GW4;have NB1_944:=nL hg BK1;have NB4_919:=nG hg BK1;have NB2_944:=nL hg BK2;have NB4_920:=nG hg BK2;have NB3_944:=nL hg BK3;have NB4_941:=nG hg BK3;replace HO_4:=eR HO_4 hb;replace HO_1:=eR HO_1 hb;replace HO_2:=eQ HO_2 hb;replace HO_3:=eR HO_3 hb;replace BK1:=eK BK1 hb;replace BK2:=eK BK2 hb;replace BK3:=eK BK3 hb;replace HB:=eB hb;clear hb hg;have hnb4:=NB4_919.out;have hnc4:=NB1_944.out;have hnb5:=NB4_920.out;have hnc5:=NB2_944.out;have hnb6:=NB4_941.out;have hnc6:=NB3_944.out;have h_:=d4 BK4.out;(repeat(obtain⟨_,h_⟩:=h_));have hnb7:=NB3_919.out;have hnc7:=NB1_941.out;have hnb8:=NB3_920.out;have hnc8:=NB2_941.out;have h_:=d14 BK3.out;(repeat(obtain⟨_,h_⟩:=h_));obtain⟨Ao4,co4,eo4⟩:=Kd.R_slice HO_1.out;subst eo4;obtain⟨Ao5,co5,eo5,_⟩:=Kd.Q_slice HO_2.out;subst eo5;obtain⟨Ao6,co6,eo6⟩:=Kd.R_slice HO_3.out;subst eo6)|((with_reducible refine gate_callee (f:=58) rfl ?_);refine gl 58 (some 32) Tryd.func58 #[.agg #[L Ao4 x4_2.length co4,V I x5_2,V I x6_2,V I x7_2,O x8_2,V I x9_2,O x10_2,V I x11_2,V I x12_2,L Ao5 x13_2.length co5,L Ao6 x14_2.length co6,V I x15_2,O x16_2,V I x17_2],.agg #[V I ((rd_T26 l1 x3_2).f0),V I ((rd_T26 l1 x3_2).f1),V I ((rd_T26 l1 x3_2).f2),V I ((rd_T26 l1 x3_2).f3)]] ?_;(with_reducible refine(impl_DoAct.calls k2 _ _ x4_2 x5_2 x6_2 x7_2 x8_2 x9_2 x10_2 x11_2 x12_2 _ _ x13_2 _ _ x14_2 x15_2 x16_2 x17_2 ((rd_T26 l1 x3_2).f0) ((rd_T26 l1 x3_2).f1) ((rd_T26 l1 x3_2).f2) ((rd_T26 l1 x3_2).f3) t15 t16 t17 t18 t19 t20 t21 t22 t23 t24 t25 t26 t27 t28 t29 _ ?side1 ?side2 ?side3 ?side4 ?side5 ?side6 A2.out).mono ?_);(case side1=>refine(Kd.R_reads' (e:=40) (base:=w.heap.size) (ok:=fun k_=>True) (n:=x4_2.length) (c:=co4) ?_).2.2;exact(X (fR (Y HO_1.out BK4.out (by decide))) (fun _ h_=>h_.1)));(case side2=>exact(Kd.R_reads' HO_1.out).2.1);(case side3=>refine(Kd.Q_reads' (e:=3) (base:=w.heap.size) (ok:=fun k_=>(qm k_ u7∧qn k_ Ao6 x14_2.length co6)) (n:=x13_2.length) (c:=co5) ?_).2.2;exact(Kd.Q_mono (fQ (Kd.Q_types HO_2.out BK4.out (by decide))) (fun _ h_=>h_.1)));(case side4=>exact(Kd.Q_reads' HO_2.out).2.1);(case side5=>refine(Kd.R_reads' (e:=3) (base:=w.heap.size) (ok:=fun k_=>(qm k_ u7∧qn k_ Ao5 x13_2.length co5)) (n:=x14_2.length) (c:=co6) ?_).2.2;exact(X (fR (Y HO_3.out BK4.out (by decide))) (fun _ h_=>h_.1)));(case side6=>exact(Kd.R_reads' HO_3.out).2.1);rintro e w6 ⟨v4,v5,v6,rfl,ho1,ho2,ho3,hb⟩;refine⟨_,rfl,?_⟩;have HO4:=C (Kd.R_lower (Kd.R_new' ho1 (Kd.R_lt (X (fR (Y HO_1.out BK4.out (by decide))) (fun _ h_=>h_.1)))) (below_size uB));have HO5:=C (Kd.Q_lower (Kd.Q_new' (Kd.Q_new' (Kd.Q_new' ho2 (Kd.R_lt (X (fR (Y HO_4.out BK4.out (by decide))) (fun _ h_=>h_.1)))) (Kd.Q_lt (Kd.Q_mono (fQ (Kd.Q_types HO_2.out BK4.out (by decide))) (fun _ h_=>h_.1)))) (Kd.R_lt (X (fR (Y HO_3.out BK4.out (by decide))) (fun _ h_=>h_.1)))) (below_size uB));have HO6:=C (Kd.R_lower (Kd.R_new' (Kd.R_new' (Kd.R_new' ho3 (Kd.R_lt (X (fR (Y HO_4.out BK4.out (by decide))) (fun _ h_=>h_.1)))) (Kd.Q_lt (Kd.Q_mono (fQ (Kd.Q_types HO_2.out BK4.out (by decide))) (fun _ h_=>h_.1)))) (Kd.R_lt (X (fR (Y HO_3.out BK4.out (by decide))) (fun _ h_=>h_.1)))) (below_size uB));replace HO_4:=C (X (Kd.R_told (Kd.R_told (Kd.R_old (X (fR (Y HO_4.out BK4.out (by decide))) (fun _ h_=>h_.1)) hb) (Kd.Q_base ho2)) (Kd.R_base ho3)) (fun _ h_=>h_.1));replace HO_1:=C (Kd.R_elder' (X (fR (Y HO_1.out BK4.out (by decide))) (fun _ h_=>h_.1)) (Kd.R_base ho1) hb);replace HO_2:=C (Kd.Q_mono (Kd.Q_told (Kd.Q_told (Kd.Q_old (Kd.Q_mono (fQ (Kd.Q_types HO_2.out BK4.out (by decide))) (fun _ h_=>h_.1)) hb) (Kd.Q_base ho2)) (Kd.R_base ho3)) (fun _ h_=>h_.1));replace HO_3:=C (X (Kd.R_told (Kd.R_told (Kd.R_old (X (fR (Y HO_3.out BK4.out (by decide))) (fun _ h_=>h_.1)) hb) (Kd.Q_base ho2)) (Kd.R_base ho3)) (fun _ h_=>h_.1));replace BK1:=eK BK1 hb;replace BK2:=eK BK2 hb;replace BK3:=eK BK3 hb;replace BK4:=C (blk_below (g:=gb4) (o:=.cells #[V I ((rd_T26 l1 x3_2).f0),V I ((rd_T26 l1 x3_2).f1),V I ((rd_T26 l1 x3_2).f2),V I ((rd_T26 l1 x3_2).f3)] 26 (0,0)) (bK BK4.out) hb);replace HB:=eB hb;clear hb ho1 ho2 ho3)|((with_reducible refine gate_dst (N:=10) rfl ?_);(try(refine gate_guard (by rfl) ?_;dsimp only));refine Fix.be 10 #[L none 0 0,V I 0,V I 0,V I 0,O false,V I 0,O false,V I 0,V I 0,L none 0 0,L none 0 0,V I 0,O false,V I 0] 45 ?_;intro gb5 hg w7 BK5 hb;have GW5:D (w.heap.size≤gb5):=gE hg;have GE5:=GW5;have NB1_966:=nL hg BK1;have NB5_919:=nG hg BK1;have NB2_966:=nL hg BK2;have NB5_920:=nG hg BK2;have NB3_966:=nL hg BK3;have NB5_941:=nG hg BK3;have NB4_966:=nL hg BK4;have NB5_944:=nG hg BK4;replace HO_4:=eR HO_4 hb;replace HO_1:=eR HO_1 hb;replace HO_2:=eQ HO_2 hb;replace HO_3:=eR HO_3 hb;replace HO4:=eR HO4 hb;replace HO5:=eQ HO5 hb;replace HO6:=eR HO6 hb;replace BK1:=eK BK1 hb;replace BK2:=eK BK2 hb;replace BK3:=eK BK3 hb;replace BK4:=eK BK4 hb;replace HB:=eB hb;clear hb hg;obtain⟨Ao7,co7,eo7⟩:=Kd.R_slice HO4.out;subst eo7;have hnb9:=NB5_919.out;have hnc9:=NB1_966.out;have hnb10:=NB5_920.out;have hnc10:=NB2_966.out;have hnb11:=NB5_941.out;have hnc11:=NB3_966.out;have hnb12:=NB5_944.out;have hnc12:=NB4_966.out;have h_:=d14 BK5.out;(repeat(obtain⟨_,h_⟩:=h_));obtain⟨Ao8,co8,eo8,_⟩:=Kd.Q_slice HO5.out;subst eo8;obtain⟨Ao9,co9,eo9⟩:=Kd.R_slice HO6.out;subst eo9;have h_:=d14 BK3.out;(repeat(obtain⟨_,h_⟩:=h_)))|((with_reducible refine gate_builtin (b:=.append) (xs:= #[.tmp 36,.tmp 38]) rfl ?_);(try(refine gate_guard (by rfl) ?_;dsimp only));at_builtin;refine Kd.R_append (Kd.int .i64) (w0:=w) w.heap.size rfl (.tmp 36) (.tmp 38) 41 3 (V I 0) 8 rfl Tryd.underlying41 info3 rfl (by decide) (by omega) u7 x2_2 t29 [V I t29] (fun k_=>qn k_ Ao5 x13_2.length co5∧qn k_ Ao6 x14_2.length co6∧qn k_ Ao8 t24.length co8∧qn k_ Ao9 t25.length co9) (fun _=>False) rfl (by first|(go_simp;done)|(go_simp;rfl)) ?aP (fun _ hk=>hk.elim) ?aF ?aO ?aB ?aS ?aL ?_;(case aP=>exact rfl);(case aB=>exact uB);(case aF=>exact(fun k_ hk=>⟨Kd.fresh' (Kd.Q_lt (Kd.Q_mono (Kd.Q_mono (fQ (Kd.Q_types (Kd.Q_types HO_2.out BK5.out (by decide)) BK3.out (by decide))) (fun _ h_=>h_.1)) (fun _ h_=>h_.1))) k_ hk,Kd.fresh' (Kd.R_lt (X (X (fR (Y (Y HO_3.out BK5.out (by decide)) BK3.out (by decide))) (fun _ h_=>h_.1)) (fun _ h_=>h_.1))) k_ hk,Kd.fresh' (Kd.Q_lt (Kd.Q_mono (Kd.Q_mono (fQ (Kd.Q_types (Kd.Q_types HO5.out BK5.out (by decide)) BK3.out (by decide))) (fun _ h_=>h_.1)) (fun _ h_=>h_.1))) k_ hk,Kd.fresh' (Kd.R_lt (X (X (fR (Y (Y HO6.out BK5.out (by decide)) BK3.out (by decide))) (fun _ h_=>h_.1)) (fun _ h_=>h_.1))) k_ hk⟩));(case aO=>exact(X (fR (Y (Y HO_4.out BK5.out (by decide)) BK3.out (by decide))) (fun _ hk=>⟨hk.1.1.1.1.1,⟨hk.1.1.1.1.2,⟨hk.1.1.1.2,hk.1.1.2⟩⟩⟩)));(case aS=>exact(below_size uB));(case aL=>have:=LMc1.out;omega);intro v8 w8 ho hb hg hat;rw[←Ny1.out]at ho;have HO7:=C (ho);replace HO_1:=C (Kd.R_over' (X (X (fR (Y (Y HO_1.out BK5.out (by decide)) BK3.out (by decide))) (fun _ h_=>h_.1)) (fun _ h_=>h_.1)) (Kd.R_typed (X (X (fR (Y (Y HO_4.out BK5.out (by decide)) BK3.out (by decide))) (fun _ h_=>h_.1)) (fun _ h_=>h_.1))) (by decide) hg);replace HO_2:=C (Kd.Q_after (ok:=(fun k_=>qn k_ Ao6 x14_2.length co6∧qn k_ Ao8 t24.length co8∧qn k_ Ao9 t25.length co9)) (Kd.Q_mono (fQ (Kd.Q_types (Kd.Q_types HO_2.out BK5.out (by decide)) BK3.out (by decide))) (fun _ hk=>⟨⟨hk.1.1.1.1.2,⟨hk.1.1.1.2,hk.1.1.2⟩⟩,hk.1.1.1.1.1⟩)) hg hat);replace HO_3:=C (Kd.R_after (ok:=(fun k_=>qn k_ Ao5 x13_2.length co5∧qn k_ Ao8 t24.length co8∧qn k_ Ao9 t25.length co9)) (X (fR (Y (Y HO_3.out BK5.out (by decide)) BK3.out (by decide))) (fun _ hk=>⟨⟨hk.1.1.1.1.2,⟨hk.1.1.1.2,hk.1.1.2⟩⟩,hk.1.1.1.1.1⟩)) hg hat);replace BK1:=gK BK1 hg (Kd.R_ne HO_4.out BK1.out (by decide));replace BK2:=gK BK2 hg (Kd.R_ne HO_4.out BK2.out (by decide));replace BK4:=gK BK4 hg (Kd.R_ne HO_4.out BK4.out (by decide));replace HO4:=C (Kd.R_over' (X (X (fR (Y (Y HO4.out BK5.out (by decide)) BK3.out (by decide))) (fun _ h_=>h_.1)) (fun _ h_=>h_.1)) (Kd.R_typed (X (X (fR (Y (Y HO_4.out BK5.out (by decide)) BK3.out (by decide))) (fun _ h_=>h_.1)) (fun _ h_=>h_.1))) (by decide) hg);replace HO5:=C (Kd.Q_after (ok:=(fun k_=>qn k_ Ao5 x13_2.length co5∧qn k_ Ao6 x14_2.length co6∧qn k_ Ao9 t25.length co9)) (Kd.Q_mono (fQ (Kd.Q_types (Kd.Q_types HO5.out BK5.out (by decide)) BK3.out (by decide))) (fun _ hk=>⟨⟨hk.1.1.1.2,⟨hk.1.1.2,hk.1.1.1.1.1⟩⟩,hk.1.1.1.1.2⟩)) hg hat);replace HO6:=C (Kd.R_after (ok:=(fun k_=>qn k_ Ao5 x13_2.length co5∧qn k_ Ao6 x14_2.length co6∧qn k_ Ao8 t24.length co8)) (X (fR (Y (Y HO6.out BK5.out (by decide)) BK3.out (by decide))) (fun _ hk=>⟨⟨hk.1.1.1.2,⟨hk.1.1.2,hk.1.1.1.1.1⟩⟩,hk.1.1.1.1.2⟩)) hg hat);replace BK3:=C (blk_grown (g:=gb3) (o:=.cells #[L Ao7 t15.length co7,V I t16,V I t17,V I t18,O t19,V I t20,O t21,V I t22,V I t23,L Ao8 t24.length co8,L Ao9 t25.length co9,V I t26,O t27,V I t28] 45 (0,0)) (bK BK3.out) hg (Kd.R_ne HO_4.out BK3.out (by decide)));replace BK5:=C (blk_grown (g:=gb5) (o:=.cells #[L Ao7 t15.length co7,V I t16,V I t17,V I t18,O t19,V I t20,O t21,V I t22,V I t23,L Ao8 t24.length co8,L Ao9 t25.length co9,V I t26,O t27,V I t28] 45 (0,0)) (bK BK5.out) hg (Kd.R_ne HO_4.out BK5.out (by decide)));replace HB:=C (hb);clear HO_4;clear ho hb hg hat))
     go_roundg k2
     case measure=>have:=HJ1.out;have:=HK1.out;omega
     case rel=>exact⟨(y1),(wrap64 (x3_2+1)),(t15),(t16),(t17),(t18),(t19),(t20),(t21),(t22),(t23),(t24),(t25),(t26),(t27),(t28),(L Ao7 t15.length co7),(L Ao8 t24.length co8),(L Ao9 t25.length co9),rS,H',⟨by have:=HJ1.out;have:=HK1.out;omega⟩,⟨X (fR HO7.out) (fun _ hk=>⟨hk.2.2.1,hk.2.2.2⟩)⟩,⟨X (fR HO4.out) (fun _ hk=>trivial)⟩,⟨Kd.Q_mono (fQ HO5.out) (fun _ hk=>⟨hk.2,hk.1.2.2⟩)⟩,⟨X (fR HO6.out) (fun _ hk=>⟨hk.2,hk.1.2.2⟩)⟩,⟨bK BK1.out⟩,⟨bK BK2.out⟩,⟨bK BK3.out⟩,⟨uB⟩⟩
def laws_sameTexts.l0:Nat→List ByteArray→List ByteArray→Int→Option (Bool)
  |0,_,_,_=>none
  |k+1,x0,x1,x5=>if x5<(x0.length:Int) then(if 0≤x5 then(if x5<(x1.length:Int) then(if(rdOf ByteArray.empty x0 x5).toList=(rdOf ByteArray.empty x1 x5).toList then(laws_sameTexts.l0 k x0 x1 (wrap64 (x5+1))) else(some false)) else(none)) else(none)) else(some true)
def laws_sameTexts.f (k:Nat) (l0:List ByteArray) (l1:List ByteArray):Option (Bool):=if(l0.length:Int)=(l1.length:Int) then(laws_sameTexts.l0 k l0 l1 0) else(some false)
theorem laws_sameTexts.mono_l:∀k,(∀y0 y1 y2,LeO (laws_sameTexts.l0 k y0 y1 y2) (laws_sameTexts.l0 (k+1) y0 y1 y2))
 |0=>fun _ _ _ r h=>by simp[laws_sameTexts.l0]at h
 |k+1=>by
  have ih0:=laws_sameTexts.mono_l k
  ·intro y0 y1 y2
   unfold laws_sameTexts.l0
   repeat' first|(with_reducible first|apply ih0|exact LeO.refl _|exact LeO.none _|refine LeO.ite ?_ ?_|refine LeO.bind ?_ (fun _=> ?_))|apply ih0|exact LeO.none _|refine LeO.ite ?_ ?_|refine LeO.bind ?_ (fun _=> ?_)
theorem laws_sameTexts.mono:∀a0 a1 k,LeO (laws_sameTexts.f k a0 a1) (laws_sameTexts.f (k+1) a0 a1):=by
 intro a0 a1 k
 have ih0:=laws_sameTexts.mono_l k
 unfold laws_sameTexts.f
 repeat' first|(with_reducible first|apply ih0|exact LeO.refl _|exact LeO.none _|refine LeO.ite ?_ ?_|refine LeO.bind ?_ (fun _=> ?_))|apply ih0|exact LeO.none _|refine LeO.ite ?_ ?_|refine LeO.bind ?_ (fun _=> ?_)
theorem laws_sameTexts.W1 {p:Prop} (h:p:=by
 go_wp2
 repeat(go_quiet (fail);try go_wp2)
 go_ret
 exact⟨by first|rfl|(simp;done)|(simp[*];done),by repeat(first|exact Drawn0.refl _|apply Drawn0.step)⟩):p:=h
theorem laws_sameTexts.calls (k:Nat) (A0:Option Addr) (c0:Nat) (l0:List ByteArray) (A1:Option Addr) (c1:Nat) (l1:List ByteArray) (r:Bool) (w:World) (hr0:Kd.C Kd.string w A0 l0.length l0) (hc0:l0.length≤c0) (hr1:Kd.C Kd.string w A1 l1.length l1) (hc1:l1.length≤c1) (h:laws_sameTexts.f k l0 l1=some r):
 Calls Tryd.prog 31 #[L A0 l0.length c0,L A1 l1.length c1] w fun e w'=>e=.returned (O r)∧Drawn0 w w':=by
 have HR1:=C hr0
 have HC1:=C hc0
 (try clear hr0);(try clear hc0)
 have HR2:=C hr1
 have HC2:=C hc1
 (try clear hr1);(try clear hc1)
 have H:=h
 unfold laws_sameTexts.f at H
 clear h
 by_cases c1:(l0.length:Int)=(l1.length:Int)
 rotate_left
 ·rw[if_neg c1]at H
  have c1b0:((l0.length:Int)==(l1.length:Int))=false:=beq_eq_false_iff_ne.mpr c1
  have c1b1:((l0.length:Int) !=(l1.length:Int))=true:=bne_iff_ne.mpr c1
  have c1b2:(l0.length==l1.length)=false:=by first|simpa using c1|(simp at c1 ⊢;omega)
  obtain rfl:=Option.some.inj H
  go_enter Tryd.func31,Tryd.ntmps31
  go_wp2
  repeat(go_quiet (fail);try go_wp2)
  go_ret
  exact⟨by first|rfl|(simp;done)|(simp[*];done),by repeat(first|exact Drawn0.refl _|apply Drawn0.step)⟩
 rw[if_pos c1]at H
 have c1b0:((l0.length:Int)==(l1.length:Int))=true:=beq_iff_eq.mpr c1
 have c1b1:((l0.length:Int) !=(l1.length:Int))=false:=bne_eq_false_iff_eq.mpr c1
 have c1b2:(l0.length==l1.length)=true:=by first|simpa using c1|(simp at c1 ⊢;omega)
 clear c1
 have H':=C H
 clear H
 go_enter Tryd.func31,Tryd.ntmps31
 go_wp2
 repeat(go_quiet (fail);try go_wp2)
 go_loopg [5] k (fun kq v5 w'=>∃(x1_1:Int),v5=V I x1_1∧D (laws_sameTexts.l0 kq l0 l1 x1_1=some r)∧D (kq≤k)∧Drawn0 w w')
 case atStart=>exact⟨(0),rS,H',⟨Nat.le_refl _⟩,by repeat(first|exact Drawn0.refl _|apply Drawn0.step)⟩
 case round=>
  clear H'
  obtain⟨x1_1,rfl,HA,HK1,⟨m1,rfl⟩⟩:=hrel
  cases gk with
  |zero=>exact absurd HA.out (by simp[laws_sameTexts.l0])
  |succ k1=>
   have H:=HA.out
   clear HA
   simp only[laws_sameTexts.l0]at H
   by_cases c2:x1_1<(l0.length:Int)
   rotate_left
   ·rw[if_neg c2]at H
    have c2b0:decide (x1_1<(l0.length:Int))=false:=decide_eq_false c2
    clear c2
    obtain rfl:=Option.some.inj H
    exact laws_sameTexts.W1
   rw[if_pos c2]at H
   have c2b0:decide (x1_1<(l0.length:Int))=true:=decide_eq_true c2
   clear c2
   obtain⟨c3,H⟩:=np H
   have c3b0:decide (0≤x1_1)=true:=decide_eq_true c3
   clear c3
   obtain⟨c4,H⟩:=np H
   have c4b0:decide (x1_1<(l1.length:Int))=true:=decide_eq_true c4
   clear c4
   by_cases c5:(rdOf ByteArray.empty l0 x1_1).toList=(rdOf ByteArray.empty l1 x1_1).toList
   rotate_left
   ·rw[if_neg c5]at H
    have c5b0:((rdOf ByteArray.empty l0 x1_1).toList==(rdOf ByteArray.empty l1 x1_1).toList)=false:=beq_eq_false_iff_ne.mpr c5
    have c5b1:((rdOf ByteArray.empty l0 x1_1).toList !=(rdOf ByteArray.empty l1 x1_1).toList)=true:=bne_iff_ne.mpr c5
    obtain rfl:=Option.some.inj H
    have p1:0≤(x1_1:Int):=of_decide_eq_true (by first|(with_reducible assumption)|assumption)
    have q1:x1_1<(l0.length:Int):=of_decide_eq_true (by first|(with_reducible assumption)|assumption)
    obtain⟨ad1,e1,hx1_0⟩:=Kd.at_string HR1.out x1_1 p1 q1
    cases e1
    replace p1:=eq_true p1
    replace q1:=eq_true q1
    have p2:0≤(x1_1:Int):=of_decide_eq_true (by first|(with_reducible assumption)|assumption)
    have q2:x1_1<(l1.length:Int):=of_decide_eq_true (by first|(with_reducible assumption)|assumption)
    obtain⟨ad2,e2,hx2_0⟩:=Kd.at_string HR2.out x1_1 p2 q2
    cases e2
    replace p2:=eq_true p2
    replace q2:=eq_true q2
    exact laws_sameTexts.W1
   rw[if_pos c5]at H
   have c5b0:((rdOf ByteArray.empty l0 x1_1).toList==(rdOf ByteArray.empty l1 x1_1).toList)=true:=beq_iff_eq.mpr c5
   have c5b1:((rdOf ByteArray.empty l0 x1_1).toList !=(rdOf ByteArray.empty l1 x1_1).toList)=false:=bne_eq_false_iff_eq.mpr c5
   clear c5
   have H':=C H
   clear H
   have p1:0≤(x1_1:Int):=of_decide_eq_true (by first|(with_reducible assumption)|assumption)
   have q1:x1_1<(l0.length:Int):=of_decide_eq_true (by first|(with_reducible assumption)|assumption)
   obtain⟨ad1,e1,hx1_0⟩:=Kd.at_string HR1.out x1_1 p1 q1
   cases e1
   replace p1:=eq_true p1
   replace q1:=eq_true q1
   have p2:0≤(x1_1:Int):=of_decide_eq_true (by first|(with_reducible assumption)|assumption)
   have q2:x1_1<(l1.length:Int):=of_decide_eq_true (by first|(with_reducible assumption)|assumption)
   obtain⟨ad2,e2,hx2_0⟩:=Kd.at_string HR2.out x1_1 p2 q2
   cases e2
   replace p2:=eq_true p2
   replace q2:=eq_true q2
   go_wp2
   repeat(go_quiet (fail);try go_wp2)
   go_roundg k1
   case measure=>have:=HK1.out;omega
   case rel=>exact⟨(wrap64 (x1_1+1)),rS,H',⟨by have:=HK1.out;omega⟩,by repeat(first|exact Drawn0.refl _|apply Drawn0.step)⟩
def laws_sameInts.l0:Nat→List Int→List Int→Int→Option (Bool)
  |0,_,_,_=>none
  |k+1,x0,x1,x5=>if x5<(x0.length:Int) then(if 0≤x5 then(if x5<(x1.length:Int) then(if(rd x0 x5)=(rd x1 x5) then(laws_sameInts.l0 k x0 x1 (wrap64 (x5+1))) else(some false)) else(none)) else(none)) else(some true)
def laws_sameInts.f (k:Nat) (l0:List Int) (l1:List Int):Option (Bool):=if(l0.length:Int)=(l1.length:Int) then(laws_sameInts.l0 k l0 l1 0) else(some false)
theorem laws_sameInts.mono_l:∀k,(∀y0 y1 y2,LeO (laws_sameInts.l0 k y0 y1 y2) (laws_sameInts.l0 (k+1) y0 y1 y2))
 |0=>fun _ _ _ r h=>by simp[laws_sameInts.l0]at h
 |k+1=>by
  have ih0:=laws_sameInts.mono_l k
  ·intro y0 y1 y2
   unfold laws_sameInts.l0
   repeat' first|(with_reducible first|apply ih0|exact LeO.refl _|exact LeO.none _|refine LeO.ite ?_ ?_|refine LeO.bind ?_ (fun _=> ?_))|apply ih0|exact LeO.none _|refine LeO.ite ?_ ?_|refine LeO.bind ?_ (fun _=> ?_)
theorem laws_sameInts.mono:∀a0 a1 k,LeO (laws_sameInts.f k a0 a1) (laws_sameInts.f (k+1) a0 a1):=by
 intro a0 a1 k
 have ih0:=laws_sameInts.mono_l k
 unfold laws_sameInts.f
 repeat' first|(with_reducible first|apply ih0|exact LeO.refl _|exact LeO.none _|refine LeO.ite ?_ ?_|refine LeO.bind ?_ (fun _=> ?_))|apply ih0|exact LeO.none _|refine LeO.ite ?_ ?_|refine LeO.bind ?_ (fun _=> ?_)
theorem laws_sameInts.W1 {p:Prop} (h:p:=by
 go_wp2
 repeat(go_quiet (fail);try go_wp2)
 go_ret
 exact⟨by first|rfl|(simp;done)|(simp[*];done),by repeat(first|exact Drawn0.refl _|apply Drawn0.step)⟩):p:=h
theorem laws_sameInts.calls (k:Nat) (A0:Option Addr) (c0:Nat) (l0:List Int) (A1:Option Addr) (c1:Nat) (l1:List Int) (r:Bool) (w:World) (hr0:Kd.C (Kd.int .i64) w A0 l0.length l0) (hc0:l0.length≤c0) (hr1:Kd.C (Kd.int .i64) w A1 l1.length l1) (hc1:l1.length≤c1) (h:laws_sameInts.f k l0 l1=some r):
 Calls Tryd.prog 32 #[L A0 l0.length c0,L A1 l1.length c1] w fun e w'=>e=.returned (O r)∧Drawn0 w w':=by
 have HR1:=C hr0
 have HC1:=C hc0
 (try clear hr0);(try clear hc0)
 have HR2:=C hr1
 have HC2:=C hc1
 (try clear hr1);(try clear hc1)
 have H:=h
 unfold laws_sameInts.f at H
 clear h
 by_cases c1:(l0.length:Int)=(l1.length:Int)
 rotate_left
 ·rw[if_neg c1]at H
  have c1b0:((l0.length:Int)==(l1.length:Int))=false:=beq_eq_false_iff_ne.mpr c1
  have c1b1:((l0.length:Int) !=(l1.length:Int))=true:=bne_iff_ne.mpr c1
  have c1b2:(l0.length==l1.length)=false:=by first|simpa using c1|(simp at c1 ⊢;omega)
  obtain rfl:=Option.some.inj H
  go_enter Tryd.func32,Tryd.ntmps32
  go_wp2
  repeat(go_quiet (fail);try go_wp2)
  go_ret
  exact⟨by first|rfl|(simp;done)|(simp[*];done),by repeat(first|exact Drawn0.refl _|apply Drawn0.step)⟩
 rw[if_pos c1]at H
 have c1b0:((l0.length:Int)==(l1.length:Int))=true:=beq_iff_eq.mpr c1
 have c1b1:((l0.length:Int) !=(l1.length:Int))=false:=bne_eq_false_iff_eq.mpr c1
 have c1b2:(l0.length==l1.length)=true:=by first|simpa using c1|(simp at c1 ⊢;omega)
 clear c1
 have H':=C H
 clear H
 go_enter Tryd.func32,Tryd.ntmps32
 go_wp2
 repeat(go_quiet (fail);try go_wp2)
 go_loopg [5] k (fun kq v5 w'=>∃(x1_1:Int),v5=V I x1_1∧D (laws_sameInts.l0 kq l0 l1 x1_1=some r)∧D (kq≤k)∧Drawn0 w w')
 case atStart=>exact⟨(0),rS,H',⟨Nat.le_refl _⟩,by repeat(first|exact Drawn0.refl _|apply Drawn0.step)⟩
 case round=>
  clear H'
  obtain⟨x1_1,rfl,HA,HK1,⟨m1,rfl⟩⟩:=hrel
  cases gk with
  |zero=>exact absurd HA.out (by simp[laws_sameInts.l0])
  |succ k1=>
   have H:=HA.out
   clear HA
   simp only[laws_sameInts.l0]at H
   by_cases c2:x1_1<(l0.length:Int)
   rotate_left
   ·rw[if_neg c2]at H
    have c2b0:decide (x1_1<(l0.length:Int))=false:=decide_eq_false c2
    clear c2
    obtain rfl:=Option.some.inj H
    exact laws_sameInts.W1
   rw[if_pos c2]at H
   have c2b0:decide (x1_1<(l0.length:Int))=true:=decide_eq_true c2
   clear c2
   obtain⟨c3,H⟩:=np H
   have c3b0:decide (0≤x1_1)=true:=decide_eq_true c3
   clear c3
   obtain⟨c4,H⟩:=np H
   have c4b0:decide (x1_1<(l1.length:Int))=true:=decide_eq_true c4
   clear c4
   by_cases c5:(rd l0 x1_1)=(rd l1 x1_1)
   rotate_left
   ·rw[if_neg c5]at H
    have c5b0:((rd l0 x1_1)==(rd l1 x1_1))=false:=beq_eq_false_iff_ne.mpr c5
    have c5b1:((rd l0 x1_1) !=(rd l1 x1_1))=true:=bne_iff_ne.mpr c5
    obtain rfl:=Option.some.inj H
    have p1:0≤(x1_1:Int):=of_decide_eq_true (by first|(with_reducible assumption)|assumption)
    have q1:x1_1<(l0.length:Int):=of_decide_eq_true (by first|(with_reducible assumption)|assumption)
    obtain⟨ad1,e1,hx1_0⟩:=Kd.at_int HR1.out x1_1 p1 q1
    cases e1
    replace p1:=eq_true p1
    replace q1:=eq_true q1
    have p2:0≤(x1_1:Int):=of_decide_eq_true (by first|(with_reducible assumption)|assumption)
    have q2:x1_1<(l1.length:Int):=of_decide_eq_true (by first|(with_reducible assumption)|assumption)
    obtain⟨ad2,e2,hx2_0⟩:=Kd.at_int HR2.out x1_1 p2 q2
    cases e2
    replace p2:=eq_true p2
    replace q2:=eq_true q2
    exact laws_sameInts.W1
   rw[if_pos c5]at H
   have c5b0:((rd l0 x1_1)==(rd l1 x1_1))=true:=beq_iff_eq.mpr c5
   have c5b1:((rd l0 x1_1) !=(rd l1 x1_1))=false:=bne_eq_false_iff_eq.mpr c5
   clear c5
   have H':=C H
   clear H
   have p1:0≤(x1_1:Int):=of_decide_eq_true (by first|(with_reducible assumption)|assumption)
   have q1:x1_1<(l0.length:Int):=of_decide_eq_true (by first|(with_reducible assumption)|assumption)
   obtain⟨ad1,e1,hx1_0⟩:=Kd.at_int HR1.out x1_1 p1 q1
   cases e1
   replace p1:=eq_true p1
   replace q1:=eq_true q1
   have p2:0≤(x1_1:Int):=of_decide_eq_true (by first|(with_reducible assumption)|assumption)
   have q2:x1_1<(l1.length:Int):=of_decide_eq_true (by first|(with_reducible assumption)|assumption)
   obtain⟨ad2,e2,hx2_0⟩:=Kd.at_int HR2.out x1_1 p2 q2
   cases e2
   replace p2:=eq_true p2
   replace q2:=eq_true q2
   go_wp2
   repeat(go_quiet (fail);try go_wp2)
   go_roundg k1
   case measure=>have:=HK1.out;omega
   case rel=>exact⟨(wrap64 (x1_1+1)),rS,H',⟨by have:=HK1.out;omega⟩,by repeat(first|exact Drawn0.refl _|apply Drawn0.step)⟩
end Go.Proofs.YtblceimapaenlaaDoor.PFnActParts
