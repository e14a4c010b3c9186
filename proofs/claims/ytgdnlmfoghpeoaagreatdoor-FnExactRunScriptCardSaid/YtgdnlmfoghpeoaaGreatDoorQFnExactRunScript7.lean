/- Calls do what plain Lean functions say (FnExactRunScript). No condition. -/
import Derived.Test.YtgdnlmfoghpeoaaGreatDoorQFnExactRunScript0
import Derived.Test.YtgdnlmfoghpeoaaGreatDoorQFnExactRunScript2
import Derived.Test.YtgdnlmfoghpeoaaGreatDoorQFnExactRunScript6b
namespace Go.Proofs.YtgdnlmfoghpeoaaGreatDoor.PFnExactRunScript
open Go.RowKit Go.Proofs.YtgdnlmfoghpeoaaGreatDoorW.PrintWords Go.Proofs.YtgdnlmfoghpeoaaGreatDoorW.PrintLast Go.Proofs.YtgdnlmfoghpeoaaGreatDoorW.PrintMore
open Tryz
open Fix (bK bnd cl14 cl4 d14 d4 dB dK eB eK eQ eR fQ fR gE gK gl gs gy hh lR nG nL nf np nt nu oL oT ou pj pu qm qn rE rN rS si tu uB uR uZ)
open Go.Value renaming int→V,slice→L,bool→O,agg→G
open Go.IntKind renaming i64→I
open Go.Proofs.YtgdnlmfoghpeoaaGreatDoorW.PrintWords.Aside0 renaming mk→C
open Go.Proofs.YtgdnlmfoghpeoaaGreatDoorW.PrintWords renaming Aside0→D,gate_callee→F,gate_dst→J
open Go.Proofs.YtgdnlmfoghpeoaaGreatDoorW.PrintWords.Kd renaming R_mono→X,R_types→Y,R_slice→U
attribute [local go_sem] max2_int min2_int max_two min_two max_three min_three max_four min_four
attribute [local go_sem] Fix.isSome_setCell
set_option linter.unusedVariables false
set_option maxHeartbeats 40000000
set_option maxRecDepth 100000
set_option linter.unusedSimpArgs false
mutual
def impl_RunActs.j0:Nat→List (S55)→Bool→List (S26)→Int→Int→Int→Bool→Int→Bool→Int→Int→List Int→List Int→Int→Bool→Int→Option ((List (S26))×Int×Int×Int×Bool×Int×Bool×Int×Int×List Int×List Int×Int×Bool×Int×List Int)
  |0,_,_,_,_,_,_,_,_,_,_,_,_,_,_,_,_=>none
  |k+1,x1,x21,x422000,x422001,x422002,x422003,x422004,x422005,x422006,x422007,x422008,x422009,x422010,x422011,x422012,x422013=>if x21=true then(some (x422000,x422001,x422002,x422003,x422004,x422005,x422006,x422007,x422008,x422009,x422010,x422011,x422012,x422013,([]:List Int))) else(impl_RunActs.l0 k ([]:List Int) x1 (x1.length:Int) 0 x422000 x422001 x422002 x422003 x422004 x422005 x422006 x422007 x422008 x422009 x422010 x422011 x422012 x422013)
def impl_RunActs.l0:Nat→List Int→List (S55)→Int→Int→List (S26)→Int→Int→Int→Bool→Int→Bool→Int→Int→List Int→List Int→Int→Bool→Int→Option ((List (S26))×Int×Int×Int×Bool×Int×Bool×Int×Int×List Int×List Int×Int×Bool×Int×List Int)
  |0,_,_,_,_,_,_,_,_,_,_,_,_,_,_,_,_,_,_=>none
  |k+1,x7,x23,x24,x25,x422000,x422001,x422002,x422003,x422004,x422005,x422006,x422007,x422008,x422009,x422010,x422011,x422012,x422013=>if x25<x24 then(if 0≤x25 then(if x25<(x23.length:Int) then((impl_DoAct.f k x422000 x422001 x422002 x422003 x422004 x422005 x422006 x422007 x422008 x422009 x422010 x422011 x422012 x422013 ((rd_T55 x23 x25).f0) ((rd_T55 x23 x25).f1) ((rd_T55 x23 x25).f2) ((rd_T55 x23 x25).f3)).bind fun bt425=>(if x7.length<17592186044416 then(impl_RunActs.l0 k (x7++ [bt425.2.2.2.2.2.2.2.2.2.2.2.2.2.2]) x23 x24 (wrap64 (x25+1)) bt425.1 bt425.2.1 bt425.2.2.1 bt425.2.2.2.1 bt425.2.2.2.2.1 bt425.2.2.2.2.2.1 bt425.2.2.2.2.2.2.1 bt425.2.2.2.2.2.2.2.1 bt425.2.2.2.2.2.2.2.2.1 bt425.2.2.2.2.2.2.2.2.2.1 bt425.2.2.2.2.2.2.2.2.2.2.1 bt425.2.2.2.2.2.2.2.2.2.2.2.1 bt425.2.2.2.2.2.2.2.2.2.2.2.2.1 bt425.2.2.2.2.2.2.2.2.2.2.2.2.2.1) else(none))) else(none)) else(none)) else(some (x422000,x422001,x422002,x422003,x422004,x422005,x422006,x422007,x422008,x422009,x422010,x422011,x422012,x422013,x7))
end
def impl_RunActs.f (k:Nat) (l0_0:List (S26)) (a0_1:Int) (a0_2:Int) (a0_3:Int) (a0_4:Bool) (a0_5:Int) (a0_6:Bool) (a0_7:Int) (a0_8:Int) (l0_9:List Int) (l0_10:List Int) (a0_11:Int) (a0_12:Bool) (a0_13:Int) (l1:List (S55)):Option ((List (S26))×Int×Int×Int×Bool×Int×Bool×Int×Int×List Int×List Int×Int×Bool×Int×List Int):=(impl_copyMachine.f l0_0 a0_1 a0_2 a0_3 a0_4 a0_5 a0_6 a0_7 a0_8 l0_9 l0_10 a0_11 a0_12 a0_13).bind fun bt401=>((impl_MachineOk.f k l0_0 a0_1 a0_2 a0_3 a0_4 a0_5 a0_6 a0_7 a0_8 l0_9 l0_10 a0_11 a0_12 a0_13).bind fun t422=>(if t422=true then(impl_RunActs.j0 k l1 (decide ((l1.length:Int) >40)) bt401.1 bt401.2.1 bt401.2.2.1 bt401.2.2.2.1 bt401.2.2.2.2.1 bt401.2.2.2.2.2.1 bt401.2.2.2.2.2.2.1 bt401.2.2.2.2.2.2.2.1 bt401.2.2.2.2.2.2.2.2.1 bt401.2.2.2.2.2.2.2.2.2.1 bt401.2.2.2.2.2.2.2.2.2.2.1 bt401.2.2.2.2.2.2.2.2.2.2.2.1 bt401.2.2.2.2.2.2.2.2.2.2.2.2.1 bt401.2.2.2.2.2.2.2.2.2.2.2.2.2) else(impl_RunActs.j0 k l1 true bt401.1 bt401.2.1 bt401.2.2.1 bt401.2.2.2.1 bt401.2.2.2.2.1 bt401.2.2.2.2.2.1 bt401.2.2.2.2.2.2.1 bt401.2.2.2.2.2.2.2.1 bt401.2.2.2.2.2.2.2.2.1 bt401.2.2.2.2.2.2.2.2.2.1 bt401.2.2.2.2.2.2.2.2.2.2.1 bt401.2.2.2.2.2.2.2.2.2.2.2.1 bt401.2.2.2.2.2.2.2.2.2.2.2.2.1 bt401.2.2.2.2.2.2.2.2.2.2.2.2.2)))
theorem impl_RunActs.W1 {p:Prop} (h:p:=by
    go_wp2
    first
      | (refine bodyPost_ret (results_ct rfl _ _ gb2 31 #[L Ao1 t1.length co1, V I t2, V I t3, V I t4, O t5, V I t6, O t7, V I t8, V I t9, L Ao2 t10.length co2, L Ao3 t11.length co3, V I t12, O t13, V I t14] (0, 0) _ rfl (bK BK2.out) underlying31 rfl (by kernel_rfl)) rfl ?_
         exact⟨_,_,_,_,rE,X (fR (Y HO_1.out BK2.out (by decide))) (fun _ hk=>trivial),Kd.Q_mono (fQ (Kd.Q_types HO_2.out BK2.out (by decide))) (fun _ hk=>⟨hk.1,(by simp[Value.ownBlock])⟩),X (fR (Y HO_3.out BK2.out (by decide))) (fun _ hk=>⟨hk.1,(by simp[Value.ownBlock])⟩),rN,uB⟩)
      | (refine bodyPost_ret (results_ct rfl _ _ gb2 31 #[L Ao4 x4_2.length co4, V I x5_2, V I x6_2, V I x7_2, O x8_2, V I x9_2, O x10_2, V I x11_2, V I x12_2, L Ao5 x13_2.length co5, L Ao6 x14_2.length co6, V I x15_2, O x16_2, V I x17_2] (0, 0) _ rfl (bK BK2.out) underlying31 rfl (by kernel_rfl)) rfl ?_
         exact⟨_,_,_,_,rE,X (fR (Y HO_1.out BK2.out (by decide))) (fun _ hk=>trivial),Kd.Q_mono (fQ (Kd.Q_types HO_2.out BK2.out (by decide))) pj,X (fR (Y HO_3.out BK2.out (by decide))) pj,X (fR (Y HO_4.out BK2.out (by decide))) pj,uB⟩)):p:=h
theorem impl_RunActs.calls (k:Nat) (A0_0:Option Addr) (c0_0:Nat) (l0_0:List (S26)) (a0_1:Int) (a0_2:Int) (a0_3:Int) (a0_4:Bool) (a0_5:Int) (a0_6:Bool) (a0_7:Int) (a0_8:Int) (A0_9:Option Addr) (c0_9:Nat) (l0_9:List Int) (A0_10:Option Addr) (c0_10:Nat) (l0_10:List Int) (a0_11:Int) (a0_12:Bool) (a0_13:Int) (A1:Option Addr) (c1:Nat) (l1:List (S55)) (r1:List (S26)) (r2:Int) (r3:Int) (r4:Int) (r5:Bool) (r6:Int) (r7:Bool) (r8:Int) (r9:Int) (r10:List Int) (r11:List Int) (r12:Int) (r13:Bool) (r14:Int) (r15:List Int) (w:World) (hr0_0:Kd.C k26 w A0_0 l0_0.length l0_0) (hc0_0:l0_0.length≤c0_0) (hr0_9:Kd.C (Kd.int .i64) w A0_9 l0_9.length l0_9) (hc0_9:l0_9.length≤c0_9) (hr0_10:Kd.C (Kd.int .i64) w A0_10 l0_10.length l0_10) (hc0_10:l0_10.length≤c0_10) (hr1:Kd.C k55 w A1 l1.length l1) (hc1:l1.length≤c1) (h:impl_RunActs.f k l0_0 a0_1 a0_2 a0_3 a0_4 a0_5 a0_6 a0_7 a0_8 l0_9 l0_10 a0_11 a0_12 a0_13 l1=some (r1,r2,r3,r4,r5,r6,r7,r8,r9,r10,r11,r12,r13,r14,r15)):
 Calls prog 9 #[G #[L A0_0 l0_0.length c0_0,V I a0_1,V I a0_2,V I a0_3,O a0_4,V I a0_5,O a0_6,V I a0_7,V I a0_8,L A0_9 l0_9.length c0_9,L A0_10 l0_10.length c0_10,V I a0_11,O a0_12,V I a0_13],L A1 l1.length c1] w fun e w'=>∃v0_ v9_ v10_ v14_:Value,e=.returned (.tuple #[G #[v0_,V I r2,V I r3,V I r4,O r5,V I r6,O r7,V I r8,V I r9,v9_,v10_,V I r12,O r13,V I r14],v14_])∧Kd.R k26 26 w' w.heap.size (fun _=>True) v0_ r1∧Kd.Q (Kd.int .i64) 3 w' w.heap.size (fun k_=>qm k_ v10_∧qm k_ v14_) v9_ r10∧Kd.R (Kd.int .i64) 3 w' w.heap.size (fun k_=>qm k_ v9_∧qm k_ v14_) v10_ r11∧Kd.R (Kd.int .i64) 3 w' w.heap.size (fun k_=>qm k_ v9_∧qm k_ v10_) v14_ r15∧Below w.heap.size w w':=by
 have hu1:=underlying31
 have hu2:=underlying55
 have HR1_0:=C hr0_0
 have HC1_0:=C hc0_0
 (try clear hr0_0);(try clear hc0_0)
 have HR1_9:=C hr0_9
 have HC1_9:=C hc0_9
 (try clear hr0_9);(try clear hc0_9)
 have HR1_10:=C hr0_10
 have HC1_10:=C hc0_10
 (try clear hr0_10);(try clear hc0_10)
 have HR2:=C hr1
 have HC2:=C hc1
 (try clear hr1);(try clear hc1)
 have HB:=C (Below.refl w.heap.size w)
 have H:=h
 unfold impl_RunActs.f at H
 clear h
 obtain⟨⟨t1,t2,t3,t4,t5,t6,t7,t8,t9,t10,t11,t12,t13,t14⟩,A1,H⟩:=bnd H
 dsimp only at H
 have HC3:=C H
 clear H
 go_enter func9,ntmps9
 go_upto_region 2 with(first|((with_reducible refine J (N:=2) rfl ?_);(try(refine gate_guard (by rfl) ?_;dsimp only));refine Fix.be 2 #[L A0_0 l0_0.length c0_0,V I a0_1,V I a0_2,V I a0_3,O a0_4,V I a0_5,O a0_6,V I a0_7,V I a0_8,L A0_9 l0_9.length c0_9,L A0_10 l0_10.length c0_10,V I a0_11,O a0_12,V I a0_13] 31 ?_;intro gb1 hg w1 BK1 hb;have GW1:=gE (w:=w) hg;replace HB:=eB hb;clear hb hg)|((with_reducible refine J (N:=4) rfl ?_);(try(refine gate_guard (by rfl) ?_;dsimp only));refine Fix.be 4 #[L none 0 0,V I 0,V I 0,V I 0,O false,V I 0,O false,V I 0,V I 0,L none 0 0,L none 0 0,V I 0,O false,V I 0] 31 ?_;intro gb2 hg w2 BK2 hb;have GW2:=gE (w:=w) hg;have n0:=nL hg BK1;have n1:=nG hg BK1;replace BK1:=eK BK1 hb;replace HB:=eB hb;clear hb hg;have:=n0.out;have:=n1.out;have h_:=d14 BK1.out;(repeat(obtain⟨_,h_⟩:=h_)))|((with_reducible refine F (f:=26) rfl ?_);refine gl 26 (some 13) func26 #[G #[L A0_0 l0_0.length c0_0,V I a0_1,V I a0_2,V I a0_3,O a0_4,V I a0_5,O a0_6,V I a0_7,V I a0_8,L A0_9 l0_9.length c0_9,L A0_10 l0_10.length c0_10,V I a0_11,O a0_12,V I a0_13]] ?_;(with_reducible refine(impl_copyMachine.calls _ _ l0_0 a0_1 a0_2 a0_3 a0_4 a0_5 a0_6 a0_7 a0_8 _ _ l0_9 _ _ l0_10 a0_11 a0_12 a0_13 t1 t2 t3 t4 t5 t6 t7 t8 t9 t10 t11 t12 t13 t14 _ ?side1 HC1_0.out ?side3 HC1_9.out ?side5 HC1_10.out A1.out).mono ?_);(case side1=>exact uZ HR1_0);(case side3=>exact uZ HR1_9);(case side5=>exact uZ HR1_10);rintro e w3 ⟨v1,v2,v3,rfl,ho1,ho2,ho3,hb⟩;refine⟨_,rfl,?_⟩;have HO1:=lR ho1;have HO2:=lR ho2;have HO3:=lR ho3;replace BK1:=eK BK1 hb;replace BK2:=eK BK2 hb;replace HB:=eB hb;clear hb ho1 ho2 ho3)|((with_reducible refine J (N:=6) rfl ?_);(try(refine gate_guard (by rfl) ?_;dsimp only));refine Fix.be 6 #[L none 0 0,V I 0,V I 0,V I 0,O false,V I 0,O false,V I 0,V I 0,L none 0 0,L none 0 0,V I 0,O false,V I 0] 31 ?_;intro gb3 hg w4 BK3 hb;have GW3:=gE (w:=w) hg;have n2:=nL hg BK1;have n3:=nG hg BK1;have n4:=nL hg BK2;have n5:=nG hg BK2;replace HO1:=eR HO1 hb;replace HO2:=eR HO2 hb;replace HO3:=eR HO3 hb;replace BK1:=eK BK1 hb;replace BK2:=eK BK2 hb;replace HB:=eB hb;clear hb hg;obtain⟨Ao1,co1,rfl⟩:=U HO1.out;have:=n3.out;have:=n2.out;have:=n5.out;have:=n4.out;obtain⟨_,_,_,_,_,_,_,_,_,_,_,_,_,_,_,_,_,_,_,_,_,_,_,_,_,_,_,_⟩:=d14 BK3.out;obtain⟨Ao2,co2,rfl⟩:=U HO2.out;obtain⟨Ao3,co3,rfl⟩:=U HO3.out))
 (try simp only[Act.put,List.setIfInBounds_toArray,List.set_cons_zero,List.set_cons_succ])
 go_cut [21] (fun v21 wc=>∃(kq:Nat) (x1_3:Bool),v21=O x1_3∧D (impl_RunActs.j0 kq l1 x1_3 t1 t2 t3 t4 t5 t6 t7 t8 t9 t10 t11 t12 t13 t14=some (r1,r2,r3,r4,r5,r6,r7,r8,r9,r10,r11,r12,r13,r14,r15))∧D (kq≤k)∧D (Kd.R k26 26 wc w.heap.size (fun _=>True) (L Ao1 t1.length co1) t1)∧D (Kd.Q (Kd.int .i64) 3 wc w.heap.size (fun k_=>some k_≠Fix.o Ao3 t11.length co3) (L Ao2 t10.length co2) t10)∧D (Kd.R (Kd.int .i64) 3 wc w.heap.size (fun k_=>some k_≠Fix.o Ao2 t10.length co2) (L Ao3 t11.length co3) t11)∧D (wc.heap[gb1]? =some (.cells #[(L A0_0 l0_0.length c0_0),V I a0_1,V I a0_2,V I a0_3,O a0_4,V I a0_5,O a0_6,V I a0_7,V I a0_8,(L A0_9 l0_9.length c0_9),(L A0_10 l0_10.length c0_10),V I a0_11,O a0_12,V I a0_13] 31 (0,0)))∧D (wc.heap[gb2]? =some (.cells #[(L none 0 0),V I 0,V I 0,V I 0,O false,V I 0,O false,V I 0,V I 0,(L none 0 0),(L none 0 0),V I 0,O false,V I 0] 31 (0,0)))∧D (wc.heap[gb3]? =some (.cells #[(L Ao1 t1.length co1),V I t2,V I t3,V I t4,O t5,V I t6,O t7,V I t8,V I t9,(L Ao2 t10.length co2),(L Ao3 t11.length co3),V I t12,O t13,V I t14] 31 (0,0)))∧D (Below w.heap.size w wc))
 case first=>
  have H:=HC3.out
  clear HC3
  obtain⟨t15,A2,H⟩:=bnd H
  by_cases c1:t15=true
  ·subst c1
   rw[if_pos rfl]at H
   have H':=C H
   clear H
   have:=n0.out
   have:=n1.out
   have:=n2.out
   have:=n3.out
   have h_:=d14 BK1.out;(repeat(obtain⟨_,h_⟩:=h_))
   go_wp2_with (first|((with_reducible refine F (f:=27) rfl ?_);refine gl 27 (some 15) func27 #[G #[L A0_0 l0_0.length c0_0,V I a0_1,V I a0_2,V I a0_3,O a0_4,V I a0_5,O a0_6,V I a0_7,V I a0_8,L A0_9 l0_9.length c0_9,L A0_10 l0_10.length c0_10,V I a0_11,O a0_12,V I a0_13]] ?_;(with_reducible refine(impl_MachineOk.calls k _ _ l0_0 a0_1 a0_2 a0_3 a0_4 a0_5 a0_6 a0_7 a0_8 _ _ l0_9 _ _ l0_10 a0_11 a0_12 a0_13 true _ ?side1 HC1_0.out ?side3 HC1_9.out ?side5 HC1_10.out A2.out).mono ?_);(case side1=>exact Kd.C_below HR1_0.out uB);(case side3=>exact Kd.C_below HR1_9.out uB);(case side5=>exact Kd.C_below HR1_10.out uB);rintro e w5 ⟨rfl,hb⟩;refine⟨_,rfl,?_⟩;replace HO1:=C (Kd.R_below (X (fR (Y HO1.out BK3.out (by decide))) (fun _ h_=>h_.1)) hb);replace HO2:=C (Kd.R_below (X (fR (Y HO2.out BK3.out (by decide))) (fun _ h_=>h_.1)) hb);replace HO3:=C (Kd.R_below (X (fR (Y HO3.out BK3.out (by decide))) (fun _ h_=>h_.1)) hb);replace BK1:=eK BK1 hb;replace BK2:=eK BK2 hb;replace BK3:=C (blk_below (g:=gb3) (o:=.cells #[L Ao1 t1.length co1,V I t2,V I t3,V I t4,O t5,V I t6,O t7,V I t8,V I t9,L Ao2 t10.length co2,L Ao3 t11.length co3,V I t12,O t13,V I t14] 31 (0,0)) (bK BK3.out) hb);replace HB:=eB hb;clear hb))
   go_meet
   case rel=>exact⟨_,(decide ((l1.length:Int) >40)),rS,H',⟨oL⟩,⟨fR HO1.out⟩,⟨Kd.Q_of_R (uR HO2.out)⟩,⟨fR HO3.out⟩,⟨bK BK1.out⟩,⟨bK BK2.out⟩,⟨bK BK3.out⟩,⟨uB⟩⟩
  obtain rfl:=nt c1
  replace H:=nf H
  have H':=C H
  clear H
  have:=n0.out
  have:=n1.out
  have:=n2.out
  have:=n3.out
  obtain⟨_,_,_,_,_,_,_,_,_,_,_,_,_,_,_,_,_,_,_,_,_,_,_,_,_,_,_,_⟩:=d14 BK1.out
  go_wp2_with (first|((with_reducible refine F (f:=27) rfl ?_);refine gl 27 (some 15) func27 #[G #[L A0_0 l0_0.length c0_0,V I a0_1,V I a0_2,V I a0_3,O a0_4,V I a0_5,O a0_6,V I a0_7,V I a0_8,L A0_9 l0_9.length c0_9,L A0_10 l0_10.length c0_10,V I a0_11,O a0_12,V I a0_13]] ?_;(with_reducible refine(impl_MachineOk.calls k _ _ l0_0 a0_1 a0_2 a0_3 a0_4 a0_5 a0_6 a0_7 a0_8 _ _ l0_9 _ _ l0_10 a0_11 a0_12 a0_13 false _ ?side1 HC1_0.out ?side3 HC1_9.out ?side5 HC1_10.out A2.out).mono ?_);(case side1=>exact Kd.C_below HR1_0.out uB);(case side3=>exact Kd.C_below HR1_9.out uB);(case side5=>exact Kd.C_below HR1_10.out uB);rintro e w5 ⟨rfl,hb⟩;refine⟨_,rfl,?_⟩;replace HO1:=C (Kd.R_below (X (fR (Y HO1.out BK3.out (by decide))) (fun _ h_=>h_.1)) hb);replace HO2:=C (Kd.R_below (X (fR (Y HO2.out BK3.out (by decide))) (fun _ h_=>h_.1)) hb);replace HO3:=C (Kd.R_below (X (fR (Y HO3.out BK3.out (by decide))) (fun _ h_=>h_.1)) hb);replace BK1:=eK BK1 hb;replace BK2:=eK BK2 hb;replace BK3:=C (blk_below (g:=gb3) (o:=.cells #[L Ao1 t1.length co1,V I t2,V I t3,V I t4,O t5,V I t6,O t7,V I t8,V I t9,L Ao2 t10.length co2,L Ao3 t11.length co3,V I t12,O t13,V I t14] 31 (0,0)) (bK BK3.out) hb);replace HB:=eB hb;clear hb))
  go_meet
  case rel=>exact⟨_,(true),rS,H',⟨oL⟩,⟨fR HO1.out⟩,⟨Kd.Q_of_R (uR HO2.out)⟩,⟨fR HO3.out⟩,⟨bK BK1.out⟩,⟨bK BK2.out⟩,⟨bK BK3.out⟩,⟨uB⟩⟩
 case rest=>
  clear HC3
  obtain⟨kq,x1_3,rfl,HA,HJ1,HO_1,HO_2,HO_3,BK1,BK2,BK3,HB⟩:=hcut
  cases kq with
  |zero=>exact absurd HA.out (by simp[impl_RunActs.j0])
  |succ kj3=>
   have H:=HA.out
   clear HA
   simp only[impl_RunActs.j0]at H
   by_cases c1:x1_3=true
   ·subst c1
    rw[if_pos rfl]at H
    simp only[Option.some.injEq,Prod.mk.injEq]at H
    obtain⟨rfl,rfl,rfl,rfl,rfl,rfl,rfl,rfl,rfl,rfl,rfl,rfl,rfl,rfl,rfl⟩:=H
    have:=n3.out
    have:=n2.out
    have:=n5.out
    have:=n4.out
    obtain⟨_,_,_,_,_,_,_,_,_,_,_,_,_,_,_,_,_,_,_,_,_,_,_,_,_,_,_,_⟩:=d14 BK3.out
    have:=n1.out
    have:=n0.out
    obtain⟨_,_,_,_,_,_,_,_,_,_,_,_,_,_,_,_,_,_,_,_,_,_,_,_,_,_,_,_⟩:=d14 BK2.out
    exact impl_RunActs.W1
   obtain rfl:=nt c1
   replace H:=nf H
   have H':=C H
   clear H
   go_wp2
   go_loopg [7,25] kj3 (fun kq v7 v25 w'=>∃(x2_2:List Int) (x3_2:Int) (x4_2:List (S26)) (x5_2:Int) (x6_2:Int) (x7_2:Int) (x8_2:Bool) (x9_2:Int) (x10_2:Bool) (x11_2:Int) (x12_2:Int) (x13_2:List Int) (x14_2:List Int) (x15_2:Int) (x16_2:Bool) (x17_2:Int) (u422000:Value) (u422009:Value) (u422010:Value),v25=V I x3_2∧D (impl_RunActs.l0 kq x2_2 l1 (l1.length:Int) x3_2 x4_2 x5_2 x6_2 x7_2 x8_2 x9_2 x10_2 x11_2 x12_2 x13_2 x14_2 x15_2 x16_2 x17_2=some (r1,r2,r3,r4,r5,r6,r7,r8,r9,r10,r11,r12,r13,r14,r15))∧D (kq≤kj3)∧D (Kd.R (Kd.int .i64) 3 w' w.heap.size (fun k_=>qm k_ u422009∧qm k_ u422010) v7 x2_2)∧D (Kd.R k26 26 w' w.heap.size (fun _=>True) u422000 x4_2)∧D (Kd.Q (Kd.int .i64) 3 w' w.heap.size (fun k_=>qm k_ v7∧qm k_ u422010) u422009 x13_2)∧D (Kd.R (Kd.int .i64) 3 w' w.heap.size (fun k_=>qm k_ v7∧qm k_ u422009) u422010 x14_2)∧D (w'.heap[gb1]? =some (.cells #[(L A0_0 l0_0.length c0_0),V I a0_1,V I a0_2,V I a0_3,O a0_4,V I a0_5,O a0_6,V I a0_7,V I a0_8,(L A0_9 l0_9.length c0_9),(L A0_10 l0_10.length c0_10),V I a0_11,O a0_12,V I a0_13] 31 (0,0)))∧D (w'.heap[gb2]? =some (.cells #[(L none 0 0),V I 0,V I 0,V I 0,O false,V I 0,O false,V I 0,V I 0,(L none 0 0),(L none 0 0),V I 0,O false,V I 0] 31 (0,0)))∧D (w'.heap[gb3]? =some (.cells #[u422000,V I x5_2,V I x6_2,V I x7_2,O x8_2,V I x9_2,O x10_2,V I x11_2,V I x12_2,u422009,u422010,V I x15_2,O x16_2,V I x17_2] 31 (0,0)))∧D (Below w.heap.size w w'))
   case atStart=>exact⟨(([]:List Int)),(0),(t1),(t2),(t3),(t4),(t5),(t6),(t7),(t8),(t9),(t10),(t11),(t12),(t13),(t14),(L Ao1 t1.length co1),(L Ao2 t10.length co2),(L Ao3 t11.length co3),rS,H',⟨Nat.le_refl _⟩,⟨rN⟩,⟨fR HO_1.out⟩,⟨Kd.Q_mono (fQ HO_2.out) (fun _ hk=>⟨(by simp[Value.ownBlock]),hk⟩)⟩,⟨X (fR HO_3.out) (fun _ hk=>⟨(by simp[Value.ownBlock]),hk⟩)⟩,⟨bK BK1.out⟩,⟨bK BK2.out⟩,⟨bK BK3.out⟩,⟨uB⟩⟩
   case round=>
    clear H'
    obtain⟨x2_2,x3_2,x4_2,x5_2,x6_2,x7_2,x8_2,x9_2,x10_2,x11_2,x12_2,x13_2,x14_2,x15_2,x16_2,x17_2,u422000,u422009,u422010,rfl,HA,HK1,HO_4,HO_1,HO_2,HO_3,BK1,BK2,BK3,HB⟩:=hrel
    cases gk with
    |zero=>exact absurd HA.out (by simp[impl_RunActs.l0])
    |succ k2=>
     have H:=HA.out
     clear HA
     simp only[impl_RunActs.l0]at H
     by_cases c2:x3_2<(l1.length:Int)
     rotate_left
     ·rw[if_neg c2]at H
      replace c2:=decide_eq_false c2
      simp only[Option.some.injEq,Prod.mk.injEq]at H
      obtain⟨rfl,rfl,rfl,rfl,rfl,rfl,rfl,rfl,rfl,rfl,rfl,rfl,rfl,rfl,rfl⟩:=H
      have:=n3.out
      have:=n2.out
      have:=n5.out
      have:=n4.out
      have h_:=d14 BK3.out;(repeat(obtain⟨_,h_⟩:=h_))
      obtain⟨Ao4,co4,eo4⟩:=U HO_1.out
      subst eo4
      have:=n1.out
      have:=n0.out
      have h_:=d14 BK2.out;(repeat(obtain⟨_,h_⟩:=h_))
      obtain⟨Ao5,co5,eo5,_⟩:=Kd.Q_slice HO_2.out
      subst eo5
      obtain⟨Ao6,co6,eo6⟩:=U HO_3.out
      subst eo6
      exact impl_RunActs.W1
     rw[if_pos c2]at H
     replace c2:=decide_eq_true c2
     obtain⟨c3,H⟩:=np H
     replace c3:=decide_eq_true c3
     obtain⟨c4,H⟩:=np H
     replace c4:=decide_eq_true c4
     obtain⟨⟨t15,t16,t17,t18,t19,t20,t21,t22,t23,t24,t25,t26,t27,t28,t29⟩,A2,H⟩:=bnd H
     dsimp only at H
     obtain⟨c5,H⟩:=np H
     have LMc1:=C c5
     clear c5
     obtain⟨y1,hy1⟩:∃y_:List Int,y_=(x2_2++ [t29]):=⟨_,rfl⟩
     replace H:(impl_RunActs.l0 k2 y1 l1 (l1.length:Int) (wrap64 (x3_2+1)) t15 t16 t17 t18 t19 t20 t21 t22 t23 t24 t25 t26 t27 t28)=some (r1,r2,r3,r4,r5,r6,r7,r8,r9,r10,r11,r12,r13,r14,r15):=gy hy1 H
     have Ny1:=C hy1
     clear hy1
     have H':=C H
     clear H
     have p1:0≤(x3_2:Int):=oT
     have q1:x3_2<(l1.length:Int):=oT
     obtain⟨ad1,e1,hx1_0,hx1_1,hx1_2,hx1_3⟩:=at_T55 (Kd.C_below HR2.out HB.out) x3_2 p1 q1
     cases e1
     replace p1:=eq_true p1
     replace q1:=eq_true q1
     go_wp2_with (first|((with_reducible refine J (N:=9) rfl ?_);(try(refine gate_guard (by rfl) ?_;dsimp only));refine Fix.be 9 #[V I 0,V I 0,V I 0,V I 0] 55 ?_;intro gb4 hg w5 BK4 hb;have GW4:=gE (w:=w) hg;have n6:=nL hg BK1;have n7:=nG hg BK1;have n8:=nL hg BK2;have n9:=nG hg BK2;have n10:=nL hg BK3;have n11:=nG hg BK3;replace HO_4:=eR HO_4 hb;replace HO_1:=eR HO_1 hb;replace HO_2:=eQ HO_2 hb;replace HO_3:=eR HO_3 hb;replace BK1:=eK BK1 hb;replace BK2:=eK BK2 hb;replace BK3:=eK BK3 hb;replace HB:=eB hb;clear hb hg;have:=n7.out;have:=n6.out;have:=n9.out;have:=n8.out;have:=n11.out;have:=n10.out;obtain⟨_,_,_,_,_,_,_,_⟩:=d4 BK4.out;have:=n3.out;have:=n2.out;have:=n5.out;have:=n4.out;have h_:=d14 BK3.out;(repeat(obtain⟨_,h_⟩:=h_));obtain⟨Ao4,co4,rfl⟩:=U HO_1.out;obtain⟨Ao5,co5,eo5,_⟩:=Kd.Q_slice HO_2.out;subst eo5;obtain⟨Ao6,co6,rfl⟩:=U HO_3.out)|((with_reducible refine F (f:=28) rfl ?_);refine gl 28 (some 32) func28 #[G #[L Ao4 x4_2.length co4,V I x5_2,V I x6_2,V I x7_2,O x8_2,V I x9_2,O x10_2,V I x11_2,V I x12_2,L Ao5 x13_2.length co5,L Ao6 x14_2.length co6,V I x15_2,O x16_2,V I x17_2],G #[V I ((rd_T55 l1 x3_2).f0),V I ((rd_T55 l1 x3_2).f1),V I ((rd_T55 l1 x3_2).f2),V I ((rd_T55 l1 x3_2).f3)]] ?_;(with_reducible refine(impl_DoAct.calls k2 _ _ x4_2 x5_2 x6_2 x7_2 x8_2 x9_2 x10_2 x11_2 x12_2 _ _ x13_2 _ _ x14_2 x15_2 x16_2 x17_2 ((rd_T55 l1 x3_2).f0) ((rd_T55 l1 x3_2).f1) ((rd_T55 l1 x3_2).f2) ((rd_T55 l1 x3_2).f3) t15 t16 t17 t18 t19 t20 t21 t22 t23 t24 t25 t26 t27 t28 t29 _ ?side1 ?side2 ?side3 ?side4 ?side5 ?side6 A2.out).mono ?_);(case side1=>refine(Kd.R_reads' (e:=26) (base:=w.heap.size) (ok:=fun k_=>True) (n:=x4_2.length) (c:=co4) ?_).2.2;exact(X (fR (Y HO_1.out BK4.out (by decide))) (fun _ h_=>h_.1)));(case side2=>exact(Kd.R_reads' HO_1.out).2.1);(case side3=>refine(Kd.Q_reads' (e:=3) (base:=w.heap.size) (ok:=fun k_=>(qm k_ u7∧qn k_ Ao6 x14_2.length co6)) (n:=x13_2.length) (c:=co5) ?_).2.2;exact(Kd.Q_mono (fQ (Kd.Q_types HO_2.out BK4.out (by decide))) (fun _ h_=>h_.1)));(case side4=>exact(Kd.Q_reads' HO_2.out).2.1);(case side5=>refine(Kd.R_reads' (e:=3) (base:=w.heap.size) (ok:=fun k_=>(qm k_ u7∧qn k_ Ao5 x13_2.length co5)) (n:=x14_2.length) (c:=co6) ?_).2.2;exact(X (fR (Y HO_3.out BK4.out (by decide))) (fun _ h_=>h_.1)));(case side6=>exact(Kd.R_reads' HO_3.out).2.1);rintro e w6 ⟨v4,v5,v6,rfl,ho1,ho2,ho3,hb⟩;refine⟨_,rfl,?_⟩;have HO4:=C (Kd.R_lower (Kd.R_new' ho1 (Kd.R_lt (X (fR (Y HO_1.out BK4.out (by decide))) (fun _ h_=>h_.1)))) (below_size uB));have HO5:=C (Kd.Q_lower (Kd.Q_new' (Kd.Q_new' (Kd.Q_new' ho2 (Kd.R_lt (X (fR (Y HO_4.out BK4.out (by decide))) (fun _ h_=>h_.1)))) (Kd.Q_lt (Kd.Q_mono (fQ (Kd.Q_types HO_2.out BK4.out (by decide))) (fun _ h_=>h_.1)))) (Kd.R_lt (X (fR (Y HO_3.out BK4.out (by decide))) (fun _ h_=>h_.1)))) (below_size uB));have HO6:=C (Kd.R_lower (Kd.R_new' (Kd.R_new' (Kd.R_new' ho3 (Kd.R_lt (X (fR (Y HO_4.out BK4.out (by decide))) (fun _ h_=>h_.1)))) (Kd.Q_lt (Kd.Q_mono (fQ (Kd.Q_types HO_2.out BK4.out (by decide))) (fun _ h_=>h_.1)))) (Kd.R_lt (X (fR (Y HO_3.out BK4.out (by decide))) (fun _ h_=>h_.1)))) (below_size uB));replace HO_4:=C (X (Kd.R_told (Kd.R_told (Kd.R_old (X (fR (Y HO_4.out BK4.out (by decide))) (fun _ h_=>h_.1)) hb) (Kd.Q_base ho2)) (Kd.R_base ho3)) (fun _ h_=>h_.1));replace HO_1:=C (Kd.R_elder' (X (fR (Y HO_1.out BK4.out (by decide))) (fun _ h_=>h_.1)) (Kd.R_base ho1) hb);replace HO_2:=C (Kd.Q_mono (Kd.Q_told (Kd.Q_told (Kd.Q_old (Kd.Q_mono (fQ (Kd.Q_types HO_2.out BK4.out (by decide))) (fun _ h_=>h_.1)) hb) (Kd.Q_base ho2)) (Kd.R_base ho3)) (fun _ h_=>h_.1));replace HO_3:=C (X (Kd.R_told (Kd.R_told (Kd.R_old (X (fR (Y HO_3.out BK4.out (by decide))) (fun _ h_=>h_.1)) hb) (Kd.Q_base ho2)) (Kd.R_base ho3)) (fun _ h_=>h_.1));replace BK1:=eK BK1 hb;replace BK2:=eK BK2 hb;replace BK3:=eK BK3 hb;replace BK4:=C (blk_below (g:=gb4) (o:=.cells #[V I ((rd_T55 l1 x3_2).f0),V I ((rd_T55 l1 x3_2).f1),V I ((rd_T55 l1 x3_2).f2),V I ((rd_T55 l1 x3_2).f3)] 55 (0,0)) (bK BK4.out) hb);replace HB:=eB hb;clear hb ho1 ho2 ho3)|((with_reducible refine J (N:=10) rfl ?_);(try(refine gate_guard (by rfl) ?_;dsimp only));refine Fix.be 10 #[L none 0 0,V I 0,V I 0,V I 0,O false,V I 0,O false,V I 0,V I 0,L none 0 0,L none 0 0,V I 0,O false,V I 0] 31 ?_;intro gb5 hg w7 BK5 hb;have GW5:=gE (w:=w) hg;have n12:=nL hg BK1;have n13:=nG hg BK1;have n14:=nL hg BK2;have n15:=nG hg BK2;have n16:=nL hg BK3;have n17:=nG hg BK3;have n18:=nL hg BK4;have n19:=nG hg BK4;replace HO_4:=eR HO_4 hb;replace HO_1:=eR HO_1 hb;replace HO_2:=eQ HO_2 hb;replace HO_3:=eR HO_3 hb;replace HO4:=eR HO4 hb;replace HO5:=eQ HO5 hb;replace HO6:=eR HO6 hb;replace BK1:=eK BK1 hb;replace BK2:=eK BK2 hb;replace BK3:=eK BK3 hb;replace BK4:=eK BK4 hb;replace HB:=eB hb;clear hb hg;obtain⟨Ao7,co7,rfl⟩:=U HO4.out;have:=n13.out;have:=n12.out;have:=n15.out;have:=n14.out;have:=n17.out;have:=n16.out;have:=n19.out;have:=n18.out;have h_:=d14 BK5.out;(repeat(obtain⟨_,h_⟩:=h_));obtain⟨Ao8,co8,eo8,_⟩:=Kd.Q_slice HO5.out;subst eo8;obtain⟨Ao9,co9,rfl⟩:=U HO6.out;have h_:=d14 BK3.out;(repeat(obtain⟨_,h_⟩:=h_)))|((with_reducible refine gate_builtin (b:=.append) (xs:= #[.tmp 36,.tmp 38]) rfl ?_);(try(refine gate_guard (by rfl) ?_;dsimp only));at_builtin;refine Kd.R_append (Kd.int .i64) (w0:=w) w.heap.size rfl (.tmp 36) (.tmp 38) 27 3 (V I 0) 8 rfl underlying27 info3 rfl (by decide) (by omega) u7 x2_2 t29 [V I t29] (fun k_=>qn k_ Ao5 x13_2.length co5∧qn k_ Ao6 x14_2.length co6∧qn k_ Ao8 t24.length co8∧qn k_ Ao9 t25.length co9) (fun _=>False) rfl (by first|(go_simp;done)|(go_simp;rfl)) ?aP (fun _ hk=>hk.elim) ?aF ?aO ?aB ?aS ?aL ?_;(case aP=>exact rfl);(case aB=>exact uB);(case aF=>exact(fun k_ hk=>⟨Kd.fresh' (Kd.Q_lt (Kd.Q_mono (Kd.Q_mono (fQ (Kd.Q_types (Kd.Q_types HO_2.out BK5.out (by decide)) BK3.out (by decide))) (fun _ h_=>h_.1)) (fun _ h_=>h_.1))) k_ hk,Kd.fresh' (Kd.R_lt (X (X (fR (Y (Y HO_3.out BK5.out (by decide)) BK3.out (by decide))) (fun _ h_=>h_.1)) (fun _ h_=>h_.1))) k_ hk,Kd.fresh' (Kd.Q_lt (Kd.Q_mono (Kd.Q_mono (fQ (Kd.Q_types (Kd.Q_types HO5.out BK5.out (by decide)) BK3.out (by decide))) (fun _ h_=>h_.1)) (fun _ h_=>h_.1))) k_ hk,Kd.fresh' (Kd.R_lt (X (X (fR (Y (Y HO6.out BK5.out (by decide)) BK3.out (by decide))) (fun _ h_=>h_.1)) (fun _ h_=>h_.1))) k_ hk⟩));(case aO=>exact(X (fR (Y (Y HO_4.out BK5.out (by decide)) BK3.out (by decide))) pj));(case aS=>exact(below_size uB));(case aL=>have:=LMc1.out;omega);intro v8 w8 ho hb hg hat;rw[←Ny1.out]at ho;have HO7:=C (ho);replace HO_1:=C (Kd.R_over' (X (X (fR (Y (Y HO_1.out BK5.out (by decide)) BK3.out (by decide))) (fun _ h_=>h_.1)) (fun _ h_=>h_.1)) (Kd.R_typed (X (X (fR (Y (Y HO_4.out BK5.out (by decide)) BK3.out (by decide))) (fun _ h_=>h_.1)) (fun _ h_=>h_.1))) (by decide) hg);replace HO_2:=C (Kd.Q_after (ok:=(fun k_=>qn k_ Ao6 x14_2.length co6∧qn k_ Ao8 t24.length co8∧qn k_ Ao9 t25.length co9)) (Kd.Q_mono (fQ (Kd.Q_types (Kd.Q_types HO_2.out BK5.out (by decide)) BK3.out (by decide))) (fun _ hk=>⟨⟨hk.1.1.1.1.2,⟨hk.1.1.1.2,hk.1.1.2⟩⟩,hk.1.1.1.1.1⟩)) hg hat);replace HO_3:=C (Kd.R_after (ok:=(fun k_=>qn k_ Ao5 x13_2.length co5∧qn k_ Ao8 t24.length co8∧qn k_ Ao9 t25.length co9)) (X (fR (Y (Y HO_3.out BK5.out (by decide)) BK3.out (by decide))) (fun _ hk=>⟨⟨hk.1.1.1.1.2,⟨hk.1.1.1.2,hk.1.1.2⟩⟩,hk.1.1.1.1.1⟩)) hg hat);replace BK1:=gK BK1 hg (Kd.R_ne HO_4.out BK1.out (by decide));replace BK2:=gK BK2 hg (Kd.R_ne HO_4.out BK2.out (by decide));replace BK4:=gK BK4 hg (Kd.R_ne HO_4.out BK4.out (by decide));replace HO4:=C (Kd.R_over' (X (X (fR (Y (Y HO4.out BK5.out (by decide)) BK3.out (by decide))) (fun _ h_=>h_.1)) (fun _ h_=>h_.1)) (Kd.R_typed (X (X (fR (Y (Y HO_4.out BK5.out (by decide)) BK3.out (by decide))) (fun _ h_=>h_.1)) (fun _ h_=>h_.1))) (by decide) hg);replace HO5:=C (Kd.Q_after (ok:=(fun k_=>qn k_ Ao5 x13_2.length co5∧qn k_ Ao6 x14_2.length co6∧qn k_ Ao9 t25.length co9)) (Kd.Q_mono (fQ (Kd.Q_types (Kd.Q_types HO5.out BK5.out (by decide)) BK3.out (by decide))) (fun _ hk=>⟨⟨hk.1.1.1.2,⟨hk.1.1.2,hk.1.1.1.1.1⟩⟩,hk.1.1.1.1.2⟩)) hg hat);replace HO6:=C (Kd.R_after (ok:=(fun k_=>qn k_ Ao5 x13_2.length co5∧qn k_ Ao6 x14_2.length co6∧qn k_ Ao8 t24.length co8)) (X (fR (Y (Y HO6.out BK5.out (by decide)) BK3.out (by decide))) (fun _ hk=>⟨⟨hk.1.1.1.2,⟨hk.1.1.2,hk.1.1.1.1.1⟩⟩,hk.1.1.1.1.2⟩)) hg hat);replace BK3:=C (blk_grown (g:=gb3) (o:=.cells #[L Ao7 t15.length co7,V I t16,V I t17,V I t18,O t19,V I t20,O t21,V I t22,V I t23,L Ao8 t24.length co8,L Ao9 t25.length co9,V I t26,O t27,V I t28] 31 (0,0)) (bK BK3.out) hg (Kd.R_ne HO_4.out BK3.out (by decide)));replace BK5:=C (blk_grown (g:=gb5) (o:=.cells #[L Ao7 t15.length co7,V I t16,V I t17,V I t18,O t19,V I t20,O t21,V I t22,V I t23,L Ao8 t24.length co8,L Ao9 t25.length co9,V I t26,O t27,V I t28] 31 (0,0)) (bK BK5.out) hg (Kd.R_ne HO_4.out BK5.out (by decide)));replace HB:=C (hb);clear HO_4;clear ho hb hg hat))
     go_roundg k2
     case measure=>have:=HJ1.out;have:=HK1.out;omega
     case rel=>exact⟨(y1),(wrap64 (x3_2+1)),(t15),(t16),(t17),(t18),(t19),(t20),(t21),(t22),(t23),(t24),(t25),(t26),(t27),(t28),(L Ao7 t15.length co7),(L Ao8 t24.length co8),(L Ao9 t25.length co9),rS,H',⟨by have:=HJ1.out;have:=HK1.out;omega⟩,⟨X (fR HO7.out) pj⟩,⟨X (fR HO4.out) (fun _ hk=>trivial)⟩,⟨Kd.Q_mono (fQ HO5.out) pj⟩,⟨X (fR HO6.out) pj⟩,⟨bK BK1.out⟩,⟨bK BK2.out⟩,⟨bK BK3.out⟩,⟨uB⟩⟩
def strconv_Itoa_29.f (a0:Int):Option ByteArray:=if -9223372036854775808≤a0 then(if a0≤9223372036854775807 then some ⟨(Lib.itoa a0).toArray⟩ else none) else none
theorem strconv_Itoa_29.calls (a0:Int) (r:ByteArray) (w:World) (h:strconv_Itoa_29.f a0=some r) (hTab:Ito.Tab w):
 Calls prog 29 #[V I a0] w fun e w'=>e=.returned (.string r)∧Below w.heap.size w w':=by
 unfold strconv_Itoa_29.f at h
 by_cases c1: -9223372036854775808≤a0
 rotate_left
 ·rw[if_neg c1]at h;cases h
 rw[if_pos c1]at h
 by_cases c2:a0≤9223372036854775807
 rotate_left
 ·rw[if_neg c2]at h;cases h
 rw[if_pos c2]at h
 obtain rfl:=Option.some.inj h
 refine(Any.strconv_Itoa Tryz.laysItoa a0 c1 c2 w hTab.1).mono ?_
 rintro e w' ⟨rfl,k,os,rfl⟩
 exact⟨rfl,Lib.below_grow _ _ (Nat.le_refl _) _ _⟩
def impl_FormatInt.f (a0:Int):Option (ByteArray):=(strconv_Itoa_29.f a0).bind fun t451=>(some t451)
theorem impl_FormatInt.calls (a0:Int) (r:ByteArray) (w:World) (h:impl_FormatInt.f a0=some r) (hTab:Ito.Tab w):
 Calls prog 10 #[V I a0] w fun e w'=>e=.returned (.string r)∧Below w.heap.size w w':=by
 replace hTab:=C hTab
 have HB:=C (Below.refl w.heap.size w)
 have H:=h
 unfold impl_FormatInt.f at H
 clear h
 obtain⟨t1,A1,H⟩:=bnd H
 obtain rfl:=si H
 go_enter func10,ntmps10
 go_wp2_with (first|((with_reducible refine F (f:=29) rfl ?_);refine gl 29 (some 4) func29 #[V I a0] ?_;(with_reducible refine(strconv_Itoa_29.calls a0 t1 _ A1.out (Ito.on hTab.out uB)).mono ?_);rintro e w1 ⟨rfl,hb⟩;refine⟨_,rfl,?_⟩;replace HB:=eB hb;clear hb))
 go_ret
 exact⟨rE,uB⟩
def impl_FormatMachine.f (k:Nat) (l0_0:List (S26)) (a0_1:Int) (a0_2:Int) (a0_3:Int) (a0_4:Bool) (a0_5:Int) (a0_6:Bool) (a0_7:Int) (a0_8:Int) (l0_9:List Int) (l0_10:List Int) (a0_11:Int) (a0_12:Bool) (a0_13:Int):Option (List ByteArray):=(impl_MachineOk.f k l0_0 a0_1 a0_2 a0_3 a0_4 a0_5 a0_6 a0_7 a0_8 l0_9 l0_10 a0_11 a0_12 a0_13).bind fun t453=>(if t453=true then((impl_FormatInt.f (l0_0.length:Int)).bind fun t454=>(if 5+t454.size≤9223372036854775807 then((impl_FormatInt.f a0_1).bind fun t455=>(if 4+t455.size≤9223372036854775807 then((impl_FormatInt.f (l0_10.length:Int)).bind fun t456=>(if 4+t456.size≤9223372036854775807 then((impl_FormatInt.f a0_11).bind fun t457=>(if 7+t457.size≤9223372036854775807 then((impl_FormatInt.f (wrap64 (a0_13+(l0_10.length:Int)))).bind fun t458=>(if 8+t458.size≤9223372036854775807 then(some (([(⟨#[106,111,98,115,32]⟩:ByteArray)++t454,(⟨#[110,111,119,32]⟩:ByteArray)++t455,(⟨#[111,117,116,32]⟩:ByteArray)++t456,(⟨#[119,97,115,116,101,100,32]⟩:ByteArray)++t457,(⟨#[112,114,105,110,116,101,100,32]⟩:ByteArray)++t458]:List ByteArray))) else(none))) else(none))) else(none))) else(none))) else(none))) else(some ([]:List ByteArray)))
def impl_FormatMachine.T3:Bool×List (List Nat×List Nat):=(true,[([],[]),([0],[0]),([1],[1]),([2],[2]),([3],[3]),([],[]),([5],[5]),([6],[6]),([7,3],[7]),([8],[8]),([],[]),([10],[10]),([11],[11]),([12],[12]),([13,8],[13]),([14],[14]),([],[]),([16],[16]),([17],[17]),([18,14],[18]),([19],[19]),([],[]),([21],[21]),([],[]),([23],[23]),([24],[24]),([25],[25]),([22,26],[22,26]),([27,19],[27]),([28],[28]),([4,9,15,20,29],[4,9,15,20,29]),([30,28,0,1,2,3,4,5,6,7,8,9,10,11,12,13,14,15,16,17,18,19,20,21,22,23,24,25,26,27,28,29,30],[30])])
def impl_FormatMachine.B3:List Nat:= [0,1,3,7,15,0,32,96,239,495,0,1024,3072,7168,15855,32239,0,65536,196608,490991,1015279,0,2097152,0,8388608,25165824,58720256,132120576,267353583,535789039,1073741823,2147483647]
theorem impl_FormatMachine.tab3:rtab .any (opsOf Tryz.f11 3)=impl_FormatMachine.T3:=by kernel_rfl
theorem impl_FormatMachine.bits3:waitsOk impl_FormatMachine.T3.2 impl_FormatMachine.B3=true:=by kernel_rfl
theorem impl_FormatMachine.calls (k:Nat) (A0_0:Option Addr) (c0_0:Nat) (l0_0:List (S26)) (a0_1:Int) (a0_2:Int) (a0_3:Int) (a0_4:Bool) (a0_5:Int) (a0_6:Bool) (a0_7:Int) (a0_8:Int) (A0_9:Option Addr) (c0_9:Nat) (l0_9:List Int) (A0_10:Option Addr) (c0_10:Nat) (l0_10:List Int) (a0_11:Int) (a0_12:Bool) (a0_13:Int) (r:List ByteArray) (w:World) (hr0_0:Kd.C k26 w A0_0 l0_0.length l0_0) (hc0_0:l0_0.length≤c0_0) (hr0_9:Kd.C (Kd.int .i64) w A0_9 l0_9.length l0_9) (hc0_9:l0_9.length≤c0_9) (hr0_10:Kd.C (Kd.int .i64) w A0_10 l0_10.length l0_10) (hc0_10:l0_10.length≤c0_10) (h:impl_FormatMachine.f k l0_0 a0_1 a0_2 a0_3 a0_4 a0_5 a0_6 a0_7 a0_8 l0_9 l0_10 a0_11 a0_12 a0_13=some r) (hTab:Ito.Tab w):
 Calls prog 11 #[G #[L A0_0 l0_0.length c0_0,V I a0_1,V I a0_2,V I a0_3,O a0_4,V I a0_5,O a0_6,V I a0_7,V I a0_8,L A0_9 l0_9.length c0_9,L A0_10 l0_10.length c0_10,V I a0_11,O a0_12,V I a0_13]] w fun e w'=>∃v0_:Value,e=.returned (v0_)∧Kd.R Kd.string 9 w' w.heap.size (fun _=>True) v0_ r∧Below w.heap.size w w':=by
 replace hTab:=C hTab
 have hu1:=underlying31
 have HR1_0:=C hr0_0
 have HC1_0:=C hc0_0
 (try clear hr0_0);(try clear hc0_0)
 have HR1_9:=C hr0_9
 have HC1_9:=C hc0_9
 (try clear hr0_9);(try clear hc0_9)
 have HR1_10:=C hr0_10
 have HC1_10:=C hc0_10
 (try clear hr0_10);(try clear hc0_10)
 have HB:=C (Below.refl w.heap.size w)
 have H:=h
 unfold impl_FormatMachine.f at H
 clear h
 obtain⟨t1,A1,H⟩:=bnd H
 by_cases c1:t1=true
 rotate_left
 ·obtain rfl:=nt c1
  replace H:=nf H
  obtain rfl:=si H
  go_enter func11,ntmps11
  go_wp2_with (first|((with_reducible refine J (N:=1) rfl ?_);refine Fix.be 1 #[L A0_0 l0_0.length c0_0,V I a0_1,V I a0_2,V I a0_3,O a0_4,V I a0_5,O a0_6,V I a0_7,V I a0_8,L A0_9 l0_9.length c0_9,L A0_10 l0_10.length c0_10,V I a0_11,O a0_12,V I a0_13] 31 ?_;intro gb1 hg w1 BK1 hb;have GW1:=gE (w:=w) hg;have GE1:=GW1;replace HB:=eB hb;clear hb hg;have h_:=d14 BK1.out;(repeat(obtain⟨_,h_⟩:=h_)))|((with_reducible refine F (f:=27) rfl ?_);refine gl 27 (some 4) func27 #[G #[L A0_0 l0_0.length c0_0,V I a0_1,V I a0_2,V I a0_3,O a0_4,V I a0_5,O a0_6,V I a0_7,V I a0_8,L A0_9 l0_9.length c0_9,L A0_10 l0_10.length c0_10,V I a0_11,O a0_12,V I a0_13]] ?_;(with_reducible refine(impl_MachineOk.calls k _ _ l0_0 a0_1 a0_2 a0_3 a0_4 a0_5 a0_6 a0_7 a0_8 _ _ l0_9 _ _ l0_10 a0_11 a0_12 a0_13 false _ ?side1 HC1_0.out ?side3 HC1_9.out ?side5 HC1_10.out A1.out).mono ?_);(case side1=>exact uZ HR1_0);(case side3=>exact uZ HR1_9);(case side5=>exact uZ HR1_10);rintro e w2 ⟨rfl,hb⟩;refine⟨_,rfl,?_⟩;replace BK1:=eK BK1 hb;replace HB:=eB hb;clear hb))
  go_ret
  exact⟨_,rE,rN,uB⟩
 subst c1
 rw[if_pos rfl]at H
 obtain⟨t2,A2,H⟩:=bnd H
 obtain⟨c2,H⟩:=np H
 have c2b0:=eq_true c2
 have c2b1:decide (5+t2.size≤9223372036854775807)=true:=decide_eq_true c2
 try have c2b2:(9223372036854775807<5+t2.size)=False:=eq_false (Nat.not_lt.2 c2)
 try(have h1_:=c2;simp only[ByteArray.size_append,Ito.bsz,List.size_toArray,List.length_cons,List.length_nil]at h1_;have c2b3:=eq_false (Nat.not_lt.2 h1_);clear h1_)
 obtain⟨t3,A3,H⟩:=bnd H
 obtain⟨c3,H⟩:=np H
 have c3b0:=eq_true c3
 have c3b1:decide (4+t3.size≤9223372036854775807)=true:=decide_eq_true c3
 try have c3b2:(9223372036854775807<4+t3.size)=False:=eq_false (Nat.not_lt.2 c3)
 try(have h1_:=c3;simp only[ByteArray.size_append,Ito.bsz,List.size_toArray,List.length_cons,List.length_nil]at h1_;have c3b3:=eq_false (Nat.not_lt.2 h1_);clear h1_)
 obtain⟨t4,A4,H⟩:=bnd H
 obtain⟨c4,H⟩:=np H
 have c4b0:=eq_true c4
 have c4b1:decide (4+t4.size≤9223372036854775807)=true:=decide_eq_true c4
 try have c4b2:(9223372036854775807<4+t4.size)=False:=eq_false (Nat.not_lt.2 c4)
 try(have h1_:=c4;simp only[ByteArray.size_append,Ito.bsz,List.size_toArray,List.length_cons,List.length_nil]at h1_;have c4b3:=eq_false (Nat.not_lt.2 h1_);clear h1_)
 obtain⟨t5,A5,H⟩:=bnd H
 obtain⟨c5,H⟩:=np H
 have c5b0:=eq_true c5
 have c5b1:decide (7+t5.size≤9223372036854775807)=true:=decide_eq_true c5
 try have c5b2:(9223372036854775807<7+t5.size)=False:=eq_false (Nat.not_lt.2 c5)
 try(have h1_:=c5;simp only[ByteArray.size_append,Ito.bsz,List.size_toArray,List.length_cons,List.length_nil]at h1_;have c5b3:=eq_false (Nat.not_lt.2 h1_);clear h1_)
 obtain⟨t6,A6,H⟩:=bnd H
 obtain⟨c6,H⟩:=np H
 have c6b0:=eq_true c6
 have c6b1:decide (8+t6.size≤9223372036854775807)=true:=decide_eq_true c6
 try have c6b2:(9223372036854775807<8+t6.size)=False:=eq_false (Nat.not_lt.2 c6)
 try(have h1_:=c6;simp only[ByteArray.size_append,Ito.bsz,List.size_toArray,List.length_cons,List.length_nil]at h1_;have c6b3:=eq_false (Nat.not_lt.2 h1_);clear h1_)
 obtain⟨y1,hy1⟩:∃y_:List ByteArray,y_=(([(⟨#[106,111,98,115,32]⟩:ByteArray)++t2,(⟨#[110,111,119,32]⟩:ByteArray)++t3,(⟨#[111,117,116,32]⟩:ByteArray)++t4,(⟨#[119,97,115,116,101,100,32]⟩:ByteArray)++t5,(⟨#[112,114,105,110,116,101,100,32]⟩:ByteArray)++t6]:List ByteArray)):=⟨_,rfl⟩
 replace H:(some y1)=some r:=gy hy1 H
 have Ny1:=C hy1
 clear hy1
 obtain rfl:=si H
 go_enter func11,ntmps11
 try go_wp2_with (first|((with_reducible refine J (N:=1) rfl ?_);refine Fix.be 1 #[L A0_0 l0_0.length c0_0,V I a0_1,V I a0_2,V I a0_3,O a0_4,V I a0_5,O a0_6,V I a0_7,V I a0_8,L A0_9 l0_9.length c0_9,L A0_10 l0_10.length c0_10,V I a0_11,O a0_12,V I a0_13] 31 ?_;intro gb1 hg w1 BK1 hb;have GW1:=gE (w:=w) hg;have GE1:=GW1;replace HB:=eB hb;clear hb hg;have h_:=d14 BK1.out;(repeat(obtain⟨_,h_⟩:=h_)))|((with_reducible refine F (f:=27) rfl ?_);refine gl 27 (some 4) func27 #[G #[L A0_0 l0_0.length c0_0,V I a0_1,V I a0_2,V I a0_3,O a0_4,V I a0_5,O a0_6,V I a0_7,V I a0_8,L A0_9 l0_9.length c0_9,L A0_10 l0_10.length c0_10,V I a0_11,O a0_12,V I a0_13]] ?_;(with_reducible refine(impl_MachineOk.calls k _ _ l0_0 a0_1 a0_2 a0_3 a0_4 a0_5 a0_6 a0_7 a0_8 _ _ l0_9 _ _ l0_10 a0_11 a0_12 a0_13 true _ ?side1 HC1_0.out ?side3 HC1_9.out ?side5 HC1_10.out A1.out).mono ?_);(case side1=>exact uZ HR1_0);(case side3=>exact uZ HR1_9);(case side5=>exact uZ HR1_10);rintro e w2 ⟨rfl,hb⟩;refine⟨_,rfl,?_⟩;replace BK1:=eK BK1 hb;replace HB:=eB hb;clear hb))
 replace BK1:=dK BK1
 replace HB:=dB HB
 refine start_ (n:=32) (S:=fun w'=>cl14 w' gb1 (L A0_0 l0_0.length c0_0) (V I a0_1) (V I a0_2) (V I a0_3) (O a0_4) (V I a0_5) (O a0_6) (V I a0_7) (V I a0_8) (L A0_9 l0_9.length c0_9) (L A0_10 l0_10.length c0_10) (V I a0_11) (O a0_12) (V I a0_13)) (ds:= []) #[false,false,false,false,false,false,false,false,false,false,false,false,false,false,false,false,false,false,false,false,false,false,false,false,false,false,false,false,false,false,false,false] (by kernel_rfl) rfl rfl hh (fun hHeld=> ?_);refine with_tabW impl_FormatMachine.tab3 impl_FormatMachine.bits3 (fun HT_ HW_=> ?_)
 generalize w2.drew=w3 at BK1 HB hHeld ⊢
 refine pu 0 (some 6) ?_
 refine pu 5 (some 11) ?_
 refine pu 6 (some 12) ?_
 refine pu 10 (some 16) ?_
 refine pu 11 (some 17) ?_
 refine pu 16 (some 22) ?_
 refine pu 17 (some 23) ?_
 refine pu 21 (some 27) ?_
 refine pu 23 (some 29) ?_
 refine pu 24 (some 30) ?_
 refine tu 1 (some 7) hHeld ?_
 refine pu 2 (some 8) ?_
 refine tu 7 (some 13) hHeld ?_
 refine tu 12 (some 18) hHeld ?_
 refine pu 13 (some 19) ?_
 refine tu 18 (some 24) hHeld ?_
 refine tu 22 (some 28) hHeld ?_
 refine tu 25 (some 31) hHeld ?_
 refine pu 26 (some 32) ?_
 refine pu 27 (some 33) ?_
 refine ou 3 (some 9) (fun K hK=> ?_)
 refine gs func10 #[V I (l0_0.length:Int)] ?_
 with_reducible refine(impl_FormatInt.calls (l0_0.length:Int) t2 _ A2.out (Ito.on hTab.out uB)).mono ?_
 rintro e w4 ⟨rfl,hb⟩
 refine⟨_,rfl,?_⟩
 replace BK1:=eK BK1 hb
 replace HB:=eB hb
 (try clear hb)
 refine hK.out _ _ hh (fun hHeld=> ?_)
 clear hK K
 refine nu (N:=(some 9)) ?_
 refine pu 4 (some 10) ?_
 refine ou 8 (some 14) (fun K hK=> ?_)
 refine gs func10 #[V I a0_1] ?_
 with_reducible refine(impl_FormatInt.calls a0_1 t3 _ A3.out (Ito.on hTab.out uB)).mono ?_
 rintro e w5 ⟨rfl,hb⟩
 refine⟨_,rfl,?_⟩
 replace BK1:=eK BK1 hb
 replace HB:=eB hb
 (try clear hb)
 refine hK.out _ _ hh (fun hHeld=> ?_)
 clear hK K
 refine nu (N:=(some 14)) ?_
 refine pu 9 (some 15) ?_
 refine ou 14 (some 20) (fun K hK=> ?_)
 refine gs func10 #[V I (l0_10.length:Int)] ?_
 with_reducible refine(impl_FormatInt.calls (l0_10.length:Int) t4 _ A4.out (Ito.on hTab.out uB)).mono ?_
 rintro e w6 ⟨rfl,hb⟩
 refine⟨_,rfl,?_⟩
 replace BK1:=eK BK1 hb
 replace HB:=eB hb
 (try clear hb)
 refine hK.out _ _ hh (fun hHeld=> ?_)
 clear hK K
 refine nu (N:=(some 20)) ?_
 refine pu 15 (some 21) ?_
 refine ou 19 (some 25) (fun K hK=> ?_)
 refine gs func10 #[V I a0_11] ?_
 with_reducible refine(impl_FormatInt.calls a0_11 t5 _ A5.out (Ito.on hTab.out uB)).mono ?_
 rintro e w7 ⟨rfl,hb⟩
 refine⟨_,rfl,?_⟩
 replace BK1:=eK BK1 hb
 replace HB:=eB hb
 (try clear hb)
 refine hK.out _ _ hh (fun hHeld=> ?_)
 clear hK K
 refine nu (N:=(some 25)) ?_
 refine pu 20 (some 26) ?_
 refine ou 28 (some 34) (fun K hK=> ?_)
 refine gs func10 #[V I (wrap64 (a0_13+(l0_10.length:Int)))] ?_
 with_reducible refine(impl_FormatInt.calls (wrap64 (a0_13+(l0_10.length:Int))) t6 _ A6.out (Ito.on hTab.out uB)).mono ?_
 rintro e w8 ⟨rfl,hb⟩
 refine⟨_,rfl,?_⟩
 replace BK1:=eK BK1 hb
 replace HB:=eB hb
 (try clear hb)
 refine hK.out _ _ hh (fun hHeld=> ?_)
 clear hK K
 refine nu (N:=(some 34)) ?_
 refine pu 29 (some 35) ?_
 refine ou 30 (some 36) (fun K hK=> ?_)
 refine Kd.R_lit_step Kd.string _ 9 ?hg (N:=36) ?hd (xs:=([(⟨#[106,111,98,115,32]⟩:ByteArray)++t2,(⟨#[110,111,119,32]⟩:ByteArray)++t3,(⟨#[111,117,116,32]⟩:ByteArray)++t4,(⟨#[119,97,115,116,101,100,32]⟩:ByteArray)++t5,(⟨#[112,114,105,110,116,101,100,32]⟩:ByteArray)++t6]:List ByteArray)) (inner:= [.string ((⟨#[106,111,98,115,32]⟩:ByteArray)++t2),.string ((⟨#[110,111,119,32]⟩:ByteArray)++t3),.string ((⟨#[111,117,116,32]⟩:ByteArray)++t4),.string ((⟨#[119,97,115,116,101,100,32]⟩:ByteArray)++t5),.string ((⟨#[112,114,105,110,116,101,100,32]⟩:ByteArray)++t6)]) (ok:=fun _=>True) (okp:=fun _=>True) ?hr ?hp (fun _ hk=>hk) trivial (Below.refl _ _) (Nat.le_refl _) (by simp) ?_;(case hd=>rfl);(case hg=>rfl);(case hr=>exact Fix.hr);(case hp=>exact(Reps.one (show Kd.M Kd.string _ _ _ ((⟨#[106,111,98,115,32]⟩:ByteArray)++t2) [.string ((⟨#[106,111,98,115,32]⟩:ByteArray)++t2)] from rfl) (Reps.one (show Kd.M Kd.string _ _ _ ((⟨#[110,111,119,32]⟩:ByteArray)++t3) [.string ((⟨#[110,111,119,32]⟩:ByteArray)++t3)] from rfl) (Reps.one (show Kd.M Kd.string _ _ _ ((⟨#[111,117,116,32]⟩:ByteArray)++t4) [.string ((⟨#[111,117,116,32]⟩:ByteArray)++t4)] from rfl) (Reps.one (show Kd.M Kd.string _ _ _ ((⟨#[119,97,115,116,101,100,32]⟩:ByteArray)++t5) [.string ((⟨#[119,97,115,116,101,100,32]⟩:ByteArray)++t5)] from rfl) (Reps.one (show Kd.M Kd.string _ _ _ ((⟨#[112,114,105,110,116,101,100,32]⟩:ByteArray)++t6) [.string ((⟨#[112,114,105,110,116,101,100,32]⟩:ByteArray)++t6)] from rfl) (Reps.none _ _)))))))
 intro v1 w9 ho1 hb hg_ hnew_
 clear hg_ hnew_
 (first|rw[←Ny1.out]at ho1|(simp only[Int.reduceToNat]at ho1;rw[←Ny1.out]at ho1))
 have HO1:=lR ho1
 replace BK1:=eK BK1 hb
 replace HB:=eB hb
 clear hb ho1
 refine hK.out _ _ hh (fun hHeld=> ?_)
 clear hK K
 refine nu (N:=(some 36)) ?_
 refine pu 31 (some 2) ?_
 refine done_ (done_of HT_.out (by kernel_rfl)) ?_
 try go_wp2
 go_ret
 exact⟨_,rE,fR HO1.out,uB⟩
def strings_Split.f (a0:ByteArray) (a1:ByteArray):Option (List ByteArray):=if a0.size<4294967281 then(if 1≤a1.size then some (Lib.splitB a1 0 (Lib.countB a0 a1) a0) else none) else none
theorem strings_Split.calls (a0:ByteArray) (a1:ByteArray) (r:List ByteArray) (w:World) (h:strings_Split.f a0 a1=some r) (hTab:Ito.Tab w):
 Calls prog 23 #[.string a0,.string a1] w fun e w'=>∃v0_:Value,e=.returned (v0_)∧Kd.R Kd.string 9 w' w.heap.size (fun _=>True) v0_ r∧Below w.heap.size w w':=by
 unfold strings_Split.f at h
 by_cases c1:a0.size<4294967281
 rotate_left
 ·rw[if_neg c1]at h;cases h
 rw[if_pos c1]at h
 by_cases c2:1≤a1.size
 rotate_left
 ·rw[if_neg c2]at h;cases h
 rw[if_pos c2]at h
 obtain rfl:=Option.some.inj h
 obtain⟨m,hm⟩:=hTab.2
 have hl:=Lib.splitB_all a1 c2 0 _ a0 rfl
 have hle:=Lib.countB_le a1 c2 a0.size a0 (Nat.le_refl _)
 refine(Any.strings_Split { Tryz.laysSplit with } Tryz.laysSplit.i9 a0 a1 m w c1 hm c2).mono ?_
 rintro e w' ⟨rfl,rfl⟩
 refine⟨_,rfl,?_,below_alloc (Below.refl _ _) _⟩
 rw[←hl]
 exact Kd.R_of_own (own_lit_of w w.heap.size 9 _ (Nat.le_refl _) (by rw[hl];omega)) (fun _ _=>trivial)
mutual
def impl_SplitFields.l0:Nat→ByteArray→Int→Option (List ByteArray×Bool)
  |0,_,_=>none
  |k+1,x0,x4=>if x4<(x0.size:Int) then(if 0≤x4 then(if(bt x0 x4)<32 then(some (([]:List ByteArray),false)) else(if(bt x0 x4) >126 then(some (([]:List ByteArray),false)) else(impl_SplitFields.l0 k x0 (wrap64 (x4+1))))) else(none)) else((strings_Split.f x0 (⟨#[32]⟩:ByteArray)).bind fun t465=>(impl_SplitFields.l1 k ([]:List ByteArray) t465 (t465.length:Int) 0))
def impl_SplitFields.l1:Nat→List ByteArray→List ByteArray→Int→Int→Option (List ByteArray×Bool)
  |0,_,_,_,_=>none
  |k+1,x5,x28,x29,x30=>if x30<x29 then(if 0≤x30 then(if x30<(x28.length:Int) then(if(rdOf ByteArray.empty x28 x30).toList=([]:List UInt8) then(impl_SplitFields.l1 k x5 x28 x29 (wrap64 (x30+1))) else(if x5.length<8796093022208 then(impl_SplitFields.l1 k (x5++ [rdOf ByteArray.empty x28 x30]) x28 x29 (wrap64 (x30+1))) else(none))) else(none)) else(none)) else(if(x5.length:Int) >24 then(some (([]:List ByteArray),false)) else(some (x5,true)))
end
def impl_SplitFields.f (k:Nat) (a0:ByteArray):Option (List ByteArray×Bool):=if(a0.size:Int) >600 then(some (([]:List ByteArray),false)) else(impl_SplitFields.l0 k a0 0)
theorem impl_SplitFields.W1 {p:Prop} (h:p:=by
 go_wp2
 go_ret2
 first
  |(exact⟨_,rE,rN,uB⟩)
  |(exact⟨_,rE,X (fR HO_1.out) (fun _ hk=>trivial),uB⟩)):p:=h
theorem impl_SplitFields.calls (k:Nat) (a0:ByteArray) (r1:List ByteArray) (r2:Bool) (w:World) (h:impl_SplitFields.f k a0=some (r1,r2)) (hTab:Ito.Tab w):
 Calls prog 24 #[.string a0] w fun e w'=>∃v0_:Value,e=.returned (.tuple #[v0_,O r2])∧Kd.R Kd.string 9 w' w.heap.size (fun _=>True) v0_ r1∧Below w.heap.size w w':=by
 replace hTab:=C hTab
 have HB:=C (Below.refl w.heap.size w)
 have H:=h
 unfold impl_SplitFields.f at H
 clear h
 by_cases c1:(a0.size:Int) >600
 ·rw[if_pos c1]at H
  have c1b0:decide (600<(a0.size:Int))=true:=decide_eq_true c1
  have c1b1:decide (600<a0.size)=true:=decide_eq_true (by omega)
  clear c1
  simp only[Option.some.injEq,Prod.mk.injEq]at H
  obtain⟨rfl,rfl⟩:=H
  go_enter func24,ntmps24
  go_wp2
  go_ret2
  exact⟨_,rE,rN,uB⟩
 rw[if_neg c1]at H
 have c1b0:decide (600<(a0.size:Int))=false:=decide_eq_false c1
 have c1b1:decide (600<a0.size)=false:=decide_eq_false (by omega)
 clear c1
 have H':=C H
 clear H
 go_enter func24,ntmps24
 go_wp2
 go_loopg [4] k (fun kq v4 w'=>∃(x1_1:Int),v4=V I x1_1∧D (impl_SplitFields.l0 kq a0 x1_1=some (r1,r2))∧D (kq≤k)∧D (Below w.heap.size w w'))
 case atStart=>exact⟨(0),rS,H',⟨Nat.le_refl _⟩,⟨uB⟩⟩
 case round=>
  clear H'
  obtain⟨x1_1,rfl,HA,HK1,HB⟩:=hrel
  cases gk with
  |zero=>exact absurd HA.out (by simp[impl_SplitFields.l0])
  |succ k1=>
   have H:=HA.out
   clear HA
   simp only[impl_SplitFields.l0]at H
   by_cases c2:x1_1<(a0.size:Int)
   ·rw[if_pos c2]at H
    replace c2:=decide_eq_true c2
    obtain⟨c3,H⟩:=np H
    replace c3:=decide_eq_true c3
    by_cases c4:(bt a0 x1_1)<32
    ·rw[if_pos c4]at H
     replace c4:=decide_eq_true c4
     simp only[Option.some.injEq,Prod.mk.injEq]at H
     obtain⟨rfl,rfl⟩:=H
     have p1:0≤(x1_1:Int):=oT
     have q1:x1_1<(a0.size:Int):=oT
     have hx1:=bt_at a0 x1_1
     replace p1:=eq_true p1
     replace q1:=eq_true q1
     exact impl_SplitFields.W1
    rw[if_neg c4]at H
    replace c4:=decide_eq_false c4
    by_cases c5:(bt a0 x1_1) >126
    ·rw[if_pos c5]at H
     replace c5:=decide_eq_true c5
     simp only[Option.some.injEq,Prod.mk.injEq]at H
     obtain⟨rfl,rfl⟩:=H
     have p1:0≤(x1_1:Int):=oT
     have q1:x1_1<(a0.size:Int):=oT
     have hx1:=bt_at a0 x1_1
     replace p1:=eq_true p1
     replace q1:=eq_true q1
     have p2:0≤(x1_1:Int):=oT
     have q2:x1_1<(a0.size:Int):=oT
     have hx2:=bt_at a0 x1_1
     replace p2:=eq_true p2
     replace q2:=eq_true q2
     exact impl_SplitFields.W1
    rw[if_neg c5]at H
    replace c5:=decide_eq_false c5
    have H':=C H
    clear H
    have p1:0≤(x1_1:Int):=oT
    have q1:x1_1<(a0.size:Int):=oT
    have hx1:=bt_at a0 x1_1
    replace p1:=eq_true p1
    replace q1:=eq_true q1
    have p2:0≤(x1_1:Int):=oT
    have q2:x1_1<(a0.size:Int):=oT
    have hx2:=bt_at a0 x1_1
    replace p2:=eq_true p2
    replace q2:=eq_true q2
    go_wp2
    go_roundg k1
    case measure=>have:=HK1.out;omega
    case rel=>exact⟨(wrap64 (x1_1+1)),rS,H',⟨by have:=HK1.out;omega⟩,⟨uB⟩⟩
   rw[if_neg c2]at H
   replace c2:=decide_eq_false c2
   obtain⟨t1,A1,H⟩:=bnd H
   have H':=C H
   clear H
   go_wp2_with (first|((with_reducible refine F (f:=23) rfl ?_);refine gl 23 (some 28) func23 #[.string a0,.string (⟨#[32]⟩:ByteArray)] ?_;(with_reducible refine(strings_Split.calls a0 (⟨#[32]⟩:ByteArray) t1 _ A1.out (Ito.on hTab.out uB)).mono ?_);rintro e w1 ⟨v1,rfl,ho1,hb⟩;refine⟨_,rfl,?_⟩;have HO1:=lR ho1;replace HB:=eB hb;clear hb ho1;obtain⟨Ao1,co1,rfl⟩:=U HO1.out))
   go_loopg [5,30] k1 (fun kq v5 v30 w'=>∃(x2_2:List ByteArray) (x3_2:Int),v30=V I x3_2∧D (impl_SplitFields.l1 kq x2_2 t1 (t1.length:Int) x3_2=some (r1,r2))∧D (kq≤k1)∧D (Kd.R Kd.string 9 w' w.heap.size (fun k_=>some k_≠Fix.o Ao1 t1.length co1) v5 x2_2)∧D (Kd.R Kd.string 9 w' w.heap.size (fun k_=>qm k_ v5) (L Ao1 t1.length co1) t1)∧D (Below w.heap.size w w'))
   case atStart=>exact⟨(([]:List ByteArray)),(0),rS,H',⟨Nat.le_refl _⟩,⟨rN⟩,⟨X (fR HO1.out) (fun _ hk=>(by simp[Value.ownBlock]))⟩,⟨uB⟩⟩
   case round=>
    clear H'
    obtain⟨x2_2,x3_2,rfl,HA,HK2,HO_1,HO_2,HB⟩:=hrel
    cases gk with
    |zero=>exact absurd HA.out (by simp[impl_SplitFields.l1])
    |succ k2=>
     have H:=HA.out
     clear HA
     simp only[impl_SplitFields.l1]at H
     by_cases c3:x3_2<(t1.length:Int)
     rotate_left
     ·rw[if_neg c3]at H
      replace c3:=decide_eq_false c3
      by_cases c4:(x2_2.length:Int) >24
      ·rw[if_pos c4]at H
       have c4b0:decide (24<(x2_2.length:Int))=true:=decide_eq_true c4
       have c4b1:decide (24<x2_2.length)=true:=decide_eq_true (by omega)
       clear c4
       simp only[Option.some.injEq,Prod.mk.injEq]at H
       obtain⟨rfl,rfl⟩:=H
       obtain⟨Ao2,co2,eo2⟩:=U HO_1.out
       subst eo2
       exact impl_SplitFields.W1
      rw[if_neg c4]at H
      have c4b0:decide (24<(x2_2.length:Int))=false:=decide_eq_false c4
      have c4b1:decide (24<x2_2.length)=false:=decide_eq_false (by omega)
      clear c4
      simp only[Option.some.injEq,Prod.mk.injEq]at H
      obtain⟨rfl,rfl⟩:=H
      obtain⟨Ao2,co2,eo2⟩:=U HO_1.out
      subst eo2
      exact impl_SplitFields.W1
     rw[if_pos c3]at H
     replace c3:=decide_eq_true c3
     obtain⟨c4,H⟩:=np H
     replace c4:=decide_eq_true c4
     obtain⟨c5,H⟩:=np H
     replace c5:=decide_eq_true c5
     by_cases c6:(rdOf ByteArray.empty t1 x3_2).toList=([]:List UInt8)
     ·rw[if_pos c6]at H
      have c6b0:((rdOf ByteArray.empty t1 x3_2).toList==([]:List UInt8))=true:=beq_iff_eq.mpr c6
      have c6b1:((rdOf ByteArray.empty t1 x3_2).toList !=([]:List UInt8))=false:=bne_eq_false_iff_eq.mpr c6
      clear c6
      have H':=C H
      clear H
      have p1:0≤(x3_2:Int):=oT
      have q1:x3_2<(t1.length:Int):=oT
      obtain⟨ad1,e1,hx1_0⟩:=Kd.at_string (Kd.R_reads' HO_2.out).2.2 x3_2 p1 q1
      cases e1
      replace p1:=eq_true p1
      replace q1:=eq_true q1
      go_wp2
      go_roundg k2
      case measure=>have:=HK1.out;have:=HK2.out;omega
      case rel=>exact⟨(x2_2),(wrap64 (x3_2+1)),rS,H',⟨by have:=HK1.out;have:=HK2.out;omega⟩,⟨fR HO_1.out⟩,⟨fR HO_2.out⟩,⟨uB⟩⟩
     rw[if_neg c6]at H
     have c6b0:((rdOf ByteArray.empty t1 x3_2).toList==([]:List UInt8))=false:=beq_eq_false_iff_ne.mpr c6
     have c6b1:((rdOf ByteArray.empty t1 x3_2).toList !=([]:List UInt8))=true:=bne_iff_ne.mpr c6
     obtain⟨c7,H⟩:=np H
     have LMc1:=C c7
     clear c7
     obtain⟨y1,hy1⟩:∃y_:List ByteArray,y_=(x2_2++ [rdOf ByteArray.empty t1 x3_2]):=⟨_,rfl⟩
     replace H:(impl_SplitFields.l1 k2 y1 t1 (t1.length:Int) (wrap64 (x3_2+1)))=some (r1,r2):=gy hy1 H
     have Ny1:=C hy1
     clear hy1
     have H':=C H
     clear H
     have p1:0≤(x3_2:Int):=oT
     have q1:x3_2<(t1.length:Int):=oT
     obtain⟨ad1,e1,hx1_0⟩:=Kd.at_string (Kd.R_reads' HO_2.out).2.2 x3_2 p1 q1
     cases e1
     replace p1:=eq_true p1
     replace q1:=eq_true q1
     go_wp2_with (first|((with_reducible refine gate_builtin (b:=.append) (xs:= #[.tmp 36,.tmp 38]) rfl ?_);at_builtin;refine Kd.R_append Kd.string (w0:=w) w.heap.size rfl (.tmp 36) (.tmp 38) 37 9 (.string ⟨#[]⟩) 16 rfl underlying37 info9 rfl (by decide) (by omega) u5 x2_2 (rdOf ByteArray.empty t1 x3_2) [.string (rdOf ByteArray.empty t1 x3_2)] (fun k_=>qn k_ (some ad1) t1.length co1) (fun _=>False) rfl rfl ?aP (fun _ hk=>hk.elim) ?aF ?aO ?aB ?aS ?aL ?_;(case aP=>exact rfl);(case aB=>exact uB);(case aF=>exact(fun k_ hk=>Kd.fresh' (Kd.R_lt (uR HO_2.out)) k_ hk));(case aO=>exact(uR HO_1.out));(case aS=>exact(below_size uB));(case aL=>have:=LMc1.out;omega);intro v2 w2 ho hb hg hat;rw[←Ny1.out]at ho;have HO2:=C (ho);replace HO_2:=C (Kd.R_after (ok:=(fun _=>True)) (X (fR HO_2.out) (fun _ hk=>⟨trivial,hk⟩)) hg hat);replace HB:=C (hb);clear HO_1;clear ho hb hg hat))
     go_roundg k2
     case measure=>have:=HK1.out;have:=HK2.out;omega
     case rel=>exact⟨(y1),(wrap64 (x3_2+1)),rS,H',⟨by have:=HK1.out;have:=HK2.out;omega⟩,⟨fR HO2.out⟩,⟨X (fR HO_2.out) (fun _ hk=>hk.2)⟩,⟨uB⟩⟩
def impl_FormatAct.f (k:Nat) (a0_0:Int) (a0_1:Int) (a0_2:Int) (a0_3:Int):Option (ByteArray×Bool):=(impl_ActOk.f k a0_0 a0_1 a0_2 a0_3).bind fun t473=>(if t473=true then(if a0_0=1 then((impl_FormatInt.f a0_1).bind fun t474=>(if 4+t474.size≤9223372036854775807 then(if((⟨#[97,100,100,32]⟩:ByteArray)++t474).size+1≤9223372036854775807 then((impl_FormatInt.f a0_2).bind fun t475=>(if(((⟨#[97,100,100,32]⟩:ByteArray)++t474)++(⟨#[32]⟩:ByteArray)).size+t475.size≤9223372036854775807 then(if((((⟨#[97,100,100,32]⟩:ByteArray)++t474)++(⟨#[32]⟩:ByteArray))++t475).size+1≤9223372036854775807 then((impl_FormatInt.f a0_3).bind fun t476=>(if(((((⟨#[97,100,100,32]⟩:ByteArray)++t474)++(⟨#[32]⟩:ByteArray))++t475)++(⟨#[32]⟩:ByteArray)).size+t476.size≤9223372036854775807 then(some ((((((⟨#[97,100,100,32]⟩:ByteArray)++t474)++(⟨#[32]⟩:ByteArray))++t475)++(⟨#[32]⟩:ByteArray))++t476,true)) else(none))) else(none)) else(none))) else(none)) else(none))) else(if a0_0=2 then(some ((⟨#[116,97,107,101]⟩:ByteArray),true)) else(if a0_0=3 then((impl_FormatInt.f a0_1).bind fun t477=>(if 5+t477.size≤9223372036854775807 then(some ((⟨#[108,105,110,101,32]⟩:ByteArray)++t477,true)) else(none))) else(if a0_0=4 then(some ((⟨#[102,105,110,105,115,104]⟩:ByteArray),true)) else((impl_FormatInt.f a0_1).bind fun t478=>(if 8+t478.size≤9223372036854775807 then(some ((⟨#[114,101,108,101,97,115,101,32]⟩:ByteArray)++t478,true)) else(none))))))) else(some ((⟨#[]⟩:ByteArray),false)))
def impl_FormatAct.T5:Bool×List (List Nat×List Nat):=(true,[([],[]),([0],[0]),([1],[1]),([2],[2]),([3],[3]),([],[]),([5],[5]),([6,2],[6]),([4,7],[4,7]),([8],[8]),([],[]),([10],[10]),([11,7],[11]),([9,12],[9,12]),([13,12,0,1,2,3,4,5,6,7,8,9,10,11,12,13],[13]),([14,0,1,2,3,4,5,6,7,8,9,10,11,12,13,14],[])])
def impl_FormatAct.B5:List Nat:= [0,1,3,7,15,0,32,103,255,511,0,1024,3303,8191,16383,32767]
theorem impl_FormatAct.tab5:rtab .any (opsOf Tryz.f20 5)=impl_FormatAct.T5:=by kernel_rfl
theorem impl_FormatAct.bits5:waitsOk impl_FormatAct.T5.2 impl_FormatAct.B5=true:=by kernel_rfl
theorem impl_FormatAct.calls (k:Nat) (a0_0:Int) (a0_1:Int) (a0_2:Int) (a0_3:Int) (r1:ByteArray) (r2:Bool) (w:World) (h:impl_FormatAct.f k a0_0 a0_1 a0_2 a0_3=some (r1,r2)) (hTab:Ito.Tab w):
 Calls prog 20 #[G #[V I a0_0,V I a0_1,V I a0_2,V I a0_3]] w fun e w'=>e=.returned (.tuple #[.string r1,O r2])∧Below w.heap.size w w':=by
 replace hTab:=C hTab
 have hu1:=underlying55
 have HB:=C (Below.refl w.heap.size w)
 have H:=h
 unfold impl_FormatAct.f at H
 clear h
 obtain⟨t1,A1,H⟩:=bnd H
 by_cases c1:t1=true
 rotate_left
 ·obtain rfl:=nt c1
  replace H:=nf H
  simp only[Option.some.injEq,Prod.mk.injEq]at H
  obtain⟨rfl,rfl⟩:=H
  go_enter func20,ntmps20
  go_wp2_with (first|((with_reducible refine J (N:=1) rfl ?_);refine Fix.be 1 #[V I a0_0,V I a0_1,V I a0_2,V I a0_3] 55 ?_;intro gb1 hg w1 BK1 hb;have GW1:=gE (w:=w) hg;have GE1:=GW1;replace HB:=eB hb;clear hb hg;obtain⟨_,_,_,_,_,_,_,_⟩:=d4 BK1.out)|((with_reducible refine F (f:=38) rfl ?_);refine gl 38 (some 5) func38 #[G #[V I a0_0,V I a0_1,V I a0_2,V I a0_3]] ?_;(with_reducible refine(impl_ActOk.calls k a0_0 a0_1 a0_2 a0_3 false _ A1.out).mono ?_);rintro e w2 ⟨rfl,hb⟩;refine⟨_,rfl,?_⟩;replace BK1:=eK BK1 hb;replace HB:=eB hb;clear hb))
  go_ret2
  exact⟨rE,uB⟩
 subst c1
 rw[if_pos rfl]at H
 by_cases c2:a0_0=1
 rotate_left
 ·rw[if_neg c2]at H
  have c2b0:(a0_0==1)=false:=beq_eq_false_iff_ne.mpr c2
  have c2b1:(a0_0 !=1)=true:=bne_iff_ne.mpr c2
  by_cases c3:a0_0=2
  ·rw[if_pos c3]at H
   have c3b0:(a0_0==2)=true:=beq_iff_eq.mpr c3
   have c3b1:(a0_0 !=2)=false:=bne_eq_false_iff_eq.mpr c3
   clear c3
   simp only[Option.some.injEq,Prod.mk.injEq]at H
   obtain⟨rfl,rfl⟩:=H
   go_enter func20,ntmps20
   go_wp2_with (first|((with_reducible refine J (N:=1) rfl ?_);refine Fix.be 1 #[V I a0_0,V I a0_1,V I a0_2,V I a0_3] 55 ?_;intro gb1 hg w1 BK1 hb;have GW1:=gE (w:=w) hg;have GE1:=GW1;replace HB:=eB hb;clear hb hg;obtain⟨_,_,_,_,_,_,_,_⟩:=d4 BK1.out)|((with_reducible refine F (f:=38) rfl ?_);refine gl 38 (some 5) func38 #[G #[V I a0_0,V I a0_1,V I a0_2,V I a0_3]] ?_;(with_reducible refine(impl_ActOk.calls k a0_0 a0_1 a0_2 a0_3 true _ A1.out).mono ?_);rintro e w2 ⟨rfl,hb⟩;refine⟨_,rfl,?_⟩;replace BK1:=eK BK1 hb;replace HB:=eB hb;clear hb;obtain⟨_,_,_,_,_,_,_,_⟩:=d4 BK1.out))
   go_ret2
   exact⟨rE,uB⟩
  rw[if_neg c3]at H
  have c3b0:(a0_0==2)=false:=beq_eq_false_iff_ne.mpr c3
  have c3b1:(a0_0 !=2)=true:=bne_iff_ne.mpr c3
  by_cases c4:a0_0=3
  ·rw[if_pos c4]at H
   have c4b0:(a0_0==3)=true:=beq_iff_eq.mpr c4
   have c4b1:(a0_0 !=3)=false:=bne_eq_false_iff_eq.mpr c4
   clear c4
   obtain⟨t2,A2,H⟩:=bnd H
   obtain⟨c5,H⟩:=np H
   have c5b0:=eq_true c5
   have c5b1:decide (5+t2.size≤9223372036854775807)=true:=decide_eq_true c5
   try have c5b2:(9223372036854775807<5+t2.size)=False:=eq_false (Nat.not_lt.2 c5)
   try(have h1_:=c5;simp only[ByteArray.size_append,Ito.bsz,List.size_toArray,List.length_cons,List.length_nil]at h1_;have c5b3:=eq_false (Nat.not_lt.2 h1_);clear h1_)
   simp only[Option.some.injEq,Prod.mk.injEq]at H
   obtain⟨rfl,rfl⟩:=H
   go_enter func20,ntmps20
   go_wp2_with (first|((with_reducible refine J (N:=1) rfl ?_);refine Fix.be 1 #[V I a0_0,V I a0_1,V I a0_2,V I a0_3] 55 ?_;intro gb1 hg w1 BK1 hb;have GW1:=gE (w:=w) hg;have GE1:=GW1;replace HB:=eB hb;clear hb hg;obtain⟨_,_,_,_,_,_,_,_⟩:=d4 BK1.out)|((with_reducible refine F (f:=38) rfl ?_);refine gl 38 (some 5) func38 #[G #[V I a0_0,V I a0_1,V I a0_2,V I a0_3]] ?_;(with_reducible refine(impl_ActOk.calls k a0_0 a0_1 a0_2 a0_3 true _ A1.out).mono ?_);rintro e w2 ⟨rfl,hb⟩;refine⟨_,rfl,?_⟩;replace BK1:=eK BK1 hb;replace HB:=eB hb;clear hb;obtain⟨_,_,_,_,_,_,_,_⟩:=d4 BK1.out)|((with_reducible refine F (f:=10) rfl ?_);refine gl 10 (some 31) func10 #[V I a0_1] ?_;(with_reducible refine(impl_FormatInt.calls a0_1 t2 _ A2.out (Ito.on hTab.out uB)).mono ?_);rintro e w3 ⟨rfl,hb⟩;refine⟨_,rfl,?_⟩;replace BK1:=eK BK1 hb;replace HB:=eB hb;clear hb))
   go_ret2
   exact⟨rE,uB⟩
  rw[if_neg c4]at H
  have c4b0:(a0_0==3)=false:=beq_eq_false_iff_ne.mpr c4
  have c4b1:(a0_0 !=3)=true:=bne_iff_ne.mpr c4
  by_cases c5:a0_0=4
  ·rw[if_pos c5]at H
   have c5b0:(a0_0==4)=true:=beq_iff_eq.mpr c5
   have c5b1:(a0_0 !=4)=false:=bne_eq_false_iff_eq.mpr c5
   clear c5
   simp only[Option.some.injEq,Prod.mk.injEq]at H
   obtain⟨rfl,rfl⟩:=H
   go_enter func20,ntmps20
   go_wp2_with (first|((with_reducible refine J (N:=1) rfl ?_);refine Fix.be 1 #[V I a0_0,V I a0_1,V I a0_2,V I a0_3] 55 ?_;intro gb1 hg w1 BK1 hb;have GW1:=gE (w:=w) hg;have GE1:=GW1;replace HB:=eB hb;clear hb hg;obtain⟨_,_,_,_,_,_,_,_⟩:=d4 BK1.out)|((with_reducible refine F (f:=38) rfl ?_);refine gl 38 (some 5) func38 #[G #[V I a0_0,V I a0_1,V I a0_2,V I a0_3]] ?_;(with_reducible refine(impl_ActOk.calls k a0_0 a0_1 a0_2 a0_3 true _ A1.out).mono ?_);rintro e w2 ⟨rfl,hb⟩;refine⟨_,rfl,?_⟩;replace BK1:=eK BK1 hb;replace HB:=eB hb;clear hb;obtain⟨_,_,_,_,_,_,_,_⟩:=d4 BK1.out))
   go_ret2
   exact⟨rE,uB⟩
  rw[if_neg c5]at H
  have c5b0:(a0_0==4)=false:=beq_eq_false_iff_ne.mpr c5
  have c5b1:(a0_0 !=4)=true:=bne_iff_ne.mpr c5
  obtain⟨t2,A2,H⟩:=bnd H
  obtain⟨c6,H⟩:=np H
  have c6b0:=eq_true c6
  have c6b1:decide (8+t2.size≤9223372036854775807)=true:=decide_eq_true c6
  try have c6b2:(9223372036854775807<8+t2.size)=False:=eq_false (Nat.not_lt.2 c6)
  try(have h1_:=c6;simp only[ByteArray.size_append,Ito.bsz,List.size_toArray,List.length_cons,List.length_nil]at h1_;have c6b3:=eq_false (Nat.not_lt.2 h1_);clear h1_)
  simp only[Option.some.injEq,Prod.mk.injEq]at H
  obtain⟨rfl,rfl⟩:=H
  go_enter func20,ntmps20
  go_wp2_with (first|((with_reducible refine J (N:=1) rfl ?_);refine Fix.be 1 #[V I a0_0,V I a0_1,V I a0_2,V I a0_3] 55 ?_;intro gb1 hg w1 BK1 hb;have GW1:=gE (w:=w) hg;have GE1:=GW1;replace HB:=eB hb;clear hb hg;obtain⟨_,_,_,_,_,_,_,_⟩:=d4 BK1.out)|((with_reducible refine F (f:=38) rfl ?_);refine gl 38 (some 5) func38 #[G #[V I a0_0,V I a0_1,V I a0_2,V I a0_3]] ?_;(with_reducible refine(impl_ActOk.calls k a0_0 a0_1 a0_2 a0_3 true _ A1.out).mono ?_);rintro e w2 ⟨rfl,hb⟩;refine⟨_,rfl,?_⟩;replace BK1:=eK BK1 hb;replace HB:=eB hb;clear hb;obtain⟨_,_,_,_,_,_,_,_⟩:=d4 BK1.out)|((with_reducible refine F (f:=10) rfl ?_);refine gl 10 (some 37) func10 #[V I a0_1] ?_;(with_reducible refine(impl_FormatInt.calls a0_1 t2 _ A2.out (Ito.on hTab.out uB)).mono ?_);rintro e w3 ⟨rfl,hb⟩;refine⟨_,rfl,?_⟩;replace BK1:=eK BK1 hb;replace HB:=eB hb;clear hb))
  go_ret2
  exact⟨rE,uB⟩
 rw[if_pos c2]at H
 have c2b0:(a0_0==1)=true:=beq_iff_eq.mpr c2
 have c2b1:(a0_0 !=1)=false:=bne_eq_false_iff_eq.mpr c2
 clear c2
 obtain⟨t2,A2,H⟩:=bnd H
 obtain⟨c3,H⟩:=np H
 have c3b0:=eq_true c3
 have c3b1:decide (4+t2.size≤9223372036854775807)=true:=decide_eq_true c3
 try have c3b2:(9223372036854775807<4+t2.size)=False:=eq_false (Nat.not_lt.2 c3)
 try(have h1_:=c3;simp only[ByteArray.size_append,Ito.bsz,List.size_toArray,List.length_cons,List.length_nil]at h1_;have c3b3:=eq_false (Nat.not_lt.2 h1_);clear h1_)
 obtain⟨c4,H⟩:=np H
 have c4b0:=eq_true c4
 have c4b1:decide (((⟨#[97,100,100,32]⟩:ByteArray)++t2).size+1≤9223372036854775807)=true:=decide_eq_true c4
 try have c4b2:(9223372036854775807<((⟨#[97,100,100,32]⟩:ByteArray)++t2).size+1)=False:=eq_false (Nat.not_lt.2 c4)
 try(have h1_:=c4;simp only[ByteArray.size_append,Ito.bsz,List.size_toArray,List.length_cons,List.length_nil]at h1_;have c4b3:=eq_false (Nat.not_lt.2 h1_);clear h1_)
 obtain⟨t3,A3,H⟩:=bnd H
 obtain⟨c5,H⟩:=np H
 have c5b0:=eq_true c5
 have c5b1:decide ((((⟨#[97,100,100,32]⟩:ByteArray)++t2)++(⟨#[32]⟩:ByteArray)).size+t3.size≤9223372036854775807)=true:=decide_eq_true c5
 try have c5b2:(9223372036854775807<(((⟨#[97,100,100,32]⟩:ByteArray)++t2)++(⟨#[32]⟩:ByteArray)).size+t3.size)=False:=eq_false (Nat.not_lt.2 c5)
 try(have h1_:=c5;simp only[ByteArray.size_append,Ito.bsz,List.size_toArray,List.length_cons,List.length_nil]at h1_;have c5b3:=eq_false (Nat.not_lt.2 h1_);clear h1_)
 obtain⟨c6,H⟩:=np H
 have c6b0:=eq_true c6
 have c6b1:decide (((((⟨#[97,100,100,32]⟩:ByteArray)++t2)++(⟨#[32]⟩:ByteArray))++t3).size+1≤9223372036854775807)=true:=decide_eq_true c6
 try have c6b2:(9223372036854775807<((((⟨#[97,100,100,32]⟩:ByteArray)++t2)++(⟨#[32]⟩:ByteArray))++t3).size+1)=False:=eq_false (Nat.not_lt.2 c6)
 try(have h1_:=c6;simp only[ByteArray.size_append,Ito.bsz,List.size_toArray,List.length_cons,List.length_nil]at h1_;have c6b3:=eq_false (Nat.not_lt.2 h1_);clear h1_)
 obtain⟨t4,A4,H⟩:=bnd H
 obtain⟨c7,H⟩:=np H
 have c7b0:=eq_true c7
 have c7b1:decide ((((((⟨#[97,100,100,32]⟩:ByteArray)++t2)++(⟨#[32]⟩:ByteArray))++t3)++(⟨#[32]⟩:ByteArray)).size+t4.size≤9223372036854775807)=true:=decide_eq_true c7
 try have c7b2:(9223372036854775807<(((((⟨#[97,100,100,32]⟩:ByteArray)++t2)++(⟨#[32]⟩:ByteArray))++t3)++(⟨#[32]⟩:ByteArray)).size+t4.size)=False:=eq_false (Nat.not_lt.2 c7)
 try(have h1_:=c7;simp only[ByteArray.size_append,Ito.bsz,List.size_toArray,List.length_cons,List.length_nil]at h1_;have c7b3:=eq_false (Nat.not_lt.2 h1_);clear h1_)
 simp only[Option.some.injEq,Prod.mk.injEq]at H
 obtain⟨rfl,rfl⟩:=H
 go_enter func20,ntmps20
 try go_wp2_with (first|((with_reducible refine J (N:=1) rfl ?_);refine Fix.be 1 #[V I a0_0,V I a0_1,V I a0_2,V I a0_3] 55 ?_;intro gb1 hg w1 BK1 hb;have GW1:=gE (w:=w) hg;have GE1:=GW1;replace HB:=eB hb;clear hb hg;obtain⟨_,_,_,_,_,_,_,_⟩:=d4 BK1.out)|((with_reducible refine F (f:=38) rfl ?_);refine gl 38 (some 5) func38 #[G #[V I a0_0,V I a0_1,V I a0_2,V I a0_3]] ?_;(with_reducible refine(impl_ActOk.calls k a0_0 a0_1 a0_2 a0_3 true _ A1.out).mono ?_);rintro e w2 ⟨rfl,hb⟩;refine⟨_,rfl,?_⟩;replace BK1:=eK BK1 hb;replace HB:=eB hb;clear hb;obtain⟨_,_,_,_,_,_,_,_⟩:=d4 BK1.out))
 replace BK1:=dK BK1
 replace HB:=dB HB
 refine start_ (n:=16) (S:=fun w'=>cl4 w' gb1 (V I a0_0) (V I a0_1) (V I a0_2) (V I a0_3)) (ds:= []) #[false,false,false,false,false,false,false,false,false,false,false,false,false,false,false,false] (by kernel_rfl) rfl rfl hh (fun hHeld=> ?_);refine with_tabW impl_FormatAct.tab5 impl_FormatAct.bits5 (fun HT_ HW_=> ?_)
 generalize w2.drew=w3 at BK1 HB hHeld ⊢
 refine pu 0 (some 11) ?_
 refine pu 5 (some 16) ?_
 refine pu 10 (some 21) ?_
 refine tu 1 (some 12) hHeld ?_
 refine tu 6 (some 17) hHeld ?_
 refine tu 11 (some 22) hHeld ?_
 refine ou 2 (some 13) (fun K hK=> ?_)
 refine gs func10 #[V I a0_1] ?_
 with_reducible refine(impl_FormatInt.calls a0_1 t2 _ A2.out (Ito.on hTab.out uB)).mono ?_
 rintro e w4 ⟨rfl,hb⟩
 refine⟨_,rfl,?_⟩
 replace BK1:=eK BK1 hb
 replace HB:=eB hb
 (try clear hb)
 refine hK.out _ _ hh (fun hHeld=> ?_)
 clear hK K
 refine nu (N:=(some 13)) ?_
 refine pu 3 (some 14) ?_
 refine pu 4 (some 15) ?_
 refine ou 7 (some 18) (fun K hK=> ?_)
 refine gs func10 #[V I a0_2] ?_
 with_reducible refine(impl_FormatInt.calls a0_2 t3 _ A3.out (Ito.on hTab.out uB)).mono ?_
 rintro e w5 ⟨rfl,hb⟩
 refine⟨_,rfl,?_⟩
 replace BK1:=eK BK1 hb
 replace HB:=eB hb
 (try clear hb)
 refine hK.out _ _ hh (fun hHeld=> ?_)
 clear hK K
 refine nu (N:=(some 18)) ?_
 refine pu 8 (some 19) ?_
 refine pu 9 (some 20) ?_
 refine ou 12 (some 23) (fun K hK=> ?_)
 refine gs func10 #[V I a0_3] ?_
 with_reducible refine(impl_FormatInt.calls a0_3 t4 _ A4.out (Ito.on hTab.out uB)).mono ?_
 rintro e w6 ⟨rfl,hb⟩
 refine⟨_,rfl,?_⟩
 replace BK1:=eK BK1 hb
 replace HB:=eB hb
 (try clear hb)
 refine hK.out _ _ hh (fun hHeld=> ?_)
 clear hK K
 refine nu (N:=(some 23)) ?_
 refine pu 13 (some 24) ?_
 refine pu 14 (some 2) ?_
 refine pu 15 (some 3) ?_
 refine done_ (done_of HT_.out (by kernel_rfl)) ?_
 try go_wp2
 go_ret2
 exact⟨rE,uB⟩
mutual
def impl_ParseUint.j0:Nat→ByteArray→Bool→Option (Int×Bool)
  |0,_,_=>none
  |k+1,x0,x13=>if x13=true then(some (0,false)) else(impl_ParseUint.l0 k x0 0 0)
def impl_ParseUint.l0:Nat→ByteArray→Int→Int→Option (Int×Bool)
  |0,_,_,_=>none
  |k+1,x0,x4,x5=>if x5<(x0.size:Int) then(if 0≤x5 then(if(bt x0 x5)<48 then(some (0,false)) else(if(bt x0 x5) >57 then(some (0,false)) else(impl_ParseUint.l0 k x0 (wrap64 ((wrap64 (x4 * 10))+(((bt x0 x5) - 48) % 256))) (wrap64 (x5+1))))) else(none)) else(if x4 >1000000000 then(some (0,false)) else((impl_FormatInt.f x4).bind fun t479=>(if t479.toList=x0.toList then(some (x4,true)) else(some (0,false)))))
end
def impl_ParseUint.f (k:Nat) (a0:ByteArray):Option (Int×Bool):=if(a0.size:Int)=0 then(impl_ParseUint.j0 k a0 true) else(impl_ParseUint.j0 k a0 (decide ((a0.size:Int) >10)))
theorem impl_ParseUint.W1 {p:Prop} (h:p:=by
 go_wp2
 go_meet
 first
  |(case rel=>exact⟨_,(true),rS,H',⟨oL⟩,⟨uB⟩⟩)
  |(case rel=>exact⟨_,(decide ((a0.size:Int) >10)),rS,H',⟨oL⟩,⟨uB⟩⟩)):p:=h
theorem impl_ParseUint.W2 {p:Prop} (h:p:=by
 go_wp2
 go_ret2
 exact⟨rE,uB⟩):p:=h
theorem impl_ParseUint.W3 {p:Prop} (h:p:=by
 go_wp2_with (first|(go_at_call 10;(with_reducible refine(impl_FormatInt.calls x2_2 t1 _ A1.out (Ito.on hTab.out uB)).mono ?_);rintro e w1 ⟨rfl,hb⟩;replace HB:=eB hb;clear hb))
 go_ret2
 exact⟨rE,uB⟩):p:=h
theorem impl_ParseUint.calls (k:Nat) (a0:ByteArray) (r1:Int) (r2:Bool) (w:World) (h:impl_ParseUint.f k a0=some (r1,r2)) (hTab:Ito.Tab w):
 Calls prog 41 #[.string a0] w fun e w'=>e=.returned (.tuple #[V I r1,O r2])∧Below w.heap.size w w':=by
 replace hTab:=C hTab
 have HB:=C (Below.refl w.heap.size w)
 have H:=h
 unfold impl_ParseUint.f at H
 clear h
 have HC1:=C H
 clear H
 go_enter func41,ntmps41
 go_upto_region 1 with(fail)
 go_cut [13] (fun v13 wc=>∃(kq:Nat) (x1_1:Bool),v13=O x1_1∧D (impl_ParseUint.j0 kq a0 x1_1=some (r1,r2))∧D (kq≤k)∧D (Below w.heap.size w wc))
 case first=>
  have H:=HC1.out
  clear HC1
  by_cases c1:(a0.size:Int)=0
  rotate_left
  ·rw[if_neg c1]at H
   have c1b0:((a0.size:Int)==0)=false:=beq_eq_false_iff_ne.mpr c1
   have c1b1:((a0.size:Int) !=0)=true:=bne_iff_ne.mpr c1
   (first|rw[c1b0]|(simp only[i64_w,i32_w];rw[c1b0])|skip)
   have H':=C H
   clear H
   exact impl_ParseUint.W1
  rw[if_pos c1]at H
  have c1b0:((a0.size:Int)==0)=true:=beq_iff_eq.mpr c1
  have c1b1:((a0.size:Int) !=0)=false:=bne_eq_false_iff_eq.mpr c1
  clear c1
  (first|rw[c1b0]|(simp only[i64_w,i32_w];rw[c1b0])|skip)
  have H':=C H
  clear H
  exact impl_ParseUint.W1
 case rest=>
  clear HC1
  obtain⟨kq,x1_1,rfl,HA,HJ1,HB⟩:=hcut
  cases kq with
  |zero=>exact absurd HA.out (by simp[impl_ParseUint.j0])
  |succ kj1=>
   have H:=HA.out
   clear HA
   simp only[impl_ParseUint.j0]at H
   by_cases c1:x1_1=true
   ·subst c1
    rw[if_pos rfl]at H
    simp only[Option.some.injEq,Prod.mk.injEq]at H
    obtain⟨rfl,rfl⟩:=H
    exact impl_ParseUint.W2
   obtain rfl:=nt c1
   replace H:=nf H
   have H':=C H
   clear H
   go_wp2
   go_loopg [4,5] kj1 (fun kq v4 v5 w'=>∃(x2_2:Int) (x3_2:Int),v4=V I x2_2∧v5=V I x3_2∧D (impl_ParseUint.l0 kq a0 x2_2 x3_2=some (r1,r2))∧D (kq≤kj1)∧D (Below w.heap.size w w'))
   case atStart=>exact⟨(0),(0),rS,rS,H',⟨Nat.le_refl _⟩,⟨uB⟩⟩
   case round=>
    clear H'
    obtain⟨x2_2,x3_2,rfl,rfl,HA,HK1,HB⟩:=hrel
    cases gk with
    |zero=>exact absurd HA.out (by simp[impl_ParseUint.l0])
    |succ k2=>
     have H:=HA.out
     clear HA
     simp only[impl_ParseUint.l0]at H
     by_cases c2:x3_2<(a0.size:Int)
     rotate_left
     ·rw[if_neg c2]at H
      replace c2:=decide_eq_false c2
      by_cases c3:x2_2 >1000000000
      ·rw[if_pos c3]at H
       replace c3:=decide_eq_true c3
       simp only[Option.some.injEq,Prod.mk.injEq]at H
       obtain⟨rfl,rfl⟩:=H
       exact impl_ParseUint.W2
      rw[if_neg c3]at H
      replace c3:=decide_eq_false c3
      obtain⟨t1,A1,H⟩:=bnd H
      by_cases c4:t1.toList=a0.toList
      rotate_left
      ·rw[if_neg c4]at H
       have c4b0:(t1.toList==a0.toList)=false:=beq_eq_false_iff_ne.mpr c4
       have c4b1:(t1.toList !=a0.toList)=true:=bne_iff_ne.mpr c4
       simp only[Option.some.injEq,Prod.mk.injEq]at H
       obtain⟨rfl,rfl⟩:=H
       exact impl_ParseUint.W3
      rw[if_pos c4]at H
      have c4b0:(t1.toList==a0.toList)=true:=beq_iff_eq.mpr c4
      have c4b1:(t1.toList !=a0.toList)=false:=bne_eq_false_iff_eq.mpr c4
      clear c4
      simp only[Option.some.injEq,Prod.mk.injEq]at H
      obtain⟨rfl,rfl⟩:=H
      exact impl_ParseUint.W3
     rw[if_pos c2]at H
     replace c2:=decide_eq_true c2
     obtain⟨c3,H⟩:=np H
     replace c3:=decide_eq_true c3
     by_cases c4:(bt a0 x3_2)<48
     ·rw[if_pos c4]at H
      replace c4:=decide_eq_true c4
      simp only[Option.some.injEq,Prod.mk.injEq]at H
      obtain⟨rfl,rfl⟩:=H
      have p1:0≤(x3_2:Int):=oT
      have q1:x3_2<(a0.size:Int):=oT
      have hx1:=bt_at a0 x3_2
      replace p1:=eq_true p1
      replace q1:=eq_true q1
      exact impl_ParseUint.W2
     rw[if_neg c4]at H
     replace c4:=decide_eq_false c4
     by_cases c5:(bt a0 x3_2) >57
     ·rw[if_pos c5]at H
      replace c5:=decide_eq_true c5
      simp only[Option.some.injEq,Prod.mk.injEq]at H
      obtain⟨rfl,rfl⟩:=H
      have p1:0≤(x3_2:Int):=oT
      have q1:x3_2<(a0.size:Int):=oT
      have hx1:=bt_at a0 x3_2
      replace p1:=eq_true p1
      replace q1:=eq_true q1
      have p2:0≤(x3_2:Int):=oT
      have q2:x3_2<(a0.size:Int):=oT
      have hx2:=bt_at a0 x3_2
      replace p2:=eq_true p2
      replace q2:=eq_true q2
      exact impl_ParseUint.W2
     rw[if_neg c5]at H
     replace c5:=decide_eq_false c5
     have H':=C H
     clear H
     have p1:0≤(x3_2:Int):=oT
     have q1:x3_2<(a0.size:Int):=oT
     have hx1:=bt_at a0 x3_2
     replace p1:=eq_true p1
     replace q1:=eq_true q1
     have p2:0≤(x3_2:Int):=oT
     have q2:x3_2<(a0.size:Int):=oT
     have hx2:=bt_at a0 x3_2
     replace p2:=eq_true p2
     replace q2:=eq_true q2
     have p3:0≤(x3_2:Int):=oT
     have q3:x3_2<(a0.size:Int):=oT
     have hx3:=bt_at a0 x3_2
     replace p3:=eq_true p3
     replace q3:=eq_true q3
     go_wp2
     go_roundg k2
     case measure=>have:=HJ1.out;have:=HK1.out;omega
     case rel=>exact⟨(wrap64 ((wrap64 (x2_2 * 10))+(((bt a0 x3_2) - 48) % 256))),(wrap64 (x3_2+1)),rS,rS,H',⟨by have:=HJ1.out;have:=HK1.out;omega⟩,⟨uB⟩⟩
theorem Bui_copyCheck (B b:Nat) (bs:List Value) (w:World) (h:Lib.IsBuilderF 53 5 B b bs w):
 Calls prog 39 #[.pointer (some ⟨b,0,none⟩)] w fun e w'=>e=.returned (.tuple #[])∧(Lib.BuilderAtF 53 5 B b (.pointer (some ⟨b,0,none⟩)) bs w'∧Below B w w'):=by
 obtain⟨j,hj,hjs⟩:=Option.map_eq_some_iff.1 (show(prog.info? 53).map (·.size)=some 2 by kernel_rfl)
 have hlies:liesAt prog prog.depth 53 (2 / prog.cellsOf 53) 0 53 1=true:=by kernel_rfl
 rcases h with h|h
 ·have h1:=h.cell0
  have hsh:=h.shape
  have hfz:=h.frozen0
  have hkeep:=h
  have hK:=C h
  clear hkeep h
  go_enter func39,ntmps39
  go_wp2
  rw[Lib.run_to_unsafe w ⟨b,0,none⟩ underlying51 underlying101 hj (by rw[hjs];decide) hsh (Nat.zero_lt_succ 1)]
  simp only[Result.andThen]
  rw[Oper.upon_value]
  go_wp2
  rw[run_callFunc_extern func68 (by kernel_rfl) (by kernel_rfl) (by kernel_rfl) (e:=Extern.AbiNoEscape.same) (by kernel_rfl)]
  rw[Lib.run_noEscape]
  simp only[Result.andThen]
  rw[Oper.upon_value]
  go_wp2
  rw[Lib.run_from_unsafe w ⟨b,0,none⟩ underlying101 underlying51 hj hsh hlies]
  simp only[Result.andThen]
  rw[Oper.upon_value]
  go_wp2
  go_end0
  exact⟨rfl,hK.out.used _,(Below.refl B w).setCell (p:=⟨b,0,none⟩) hK.out.1 _⟩
 ·have h1:=h.cell0
  have hK:=C h
  clear h
  go_enter func39,ntmps39
  go_wp2
  rw[Lib.run_neq_ptr_same w _ underlying51 hj]
  go_wp2
  go_end0
  exact⟨rfl,hK.out,Below.refl B _⟩
theorem Bui_WriteString (B b:Nat) (bs:List Value) (s:ByteArray) (w:World) (h:Lib.IsBuilderF 53 5 B b bs w) (hlen:bs.length+s.size≤140737488355328) (hBw:B≤w.heap.size):
 Calls prog 21 #[.pointer (some ⟨b,0,none⟩),.string s] w fun e w'=>e=.returned (.tuple #[V I s.size,.nilIface])∧(Lib.IsBuilderF 53 5 B b (bs++Lib.strCells s) w'∧Below B w w'):=by
 obtain⟨i0,hi,hz1,hz2,hz3⟩:=info_parts (show(prog.info? 5).map (fun i=>(i.zero,i.size,i.bytes))=some (some (.int .u8 0),1,1) by kernel_rfl)
 have hl:=C hlen
 clear hlen
 go_enter func21,ntmps21
 go_wp2_with (go_at_call 39;refine(Bui_copyCheck B b bs _ h).mono ?_)
 rintro e w2 ⟨rfl,h2,hb1⟩
 obtain⟨hB,v,hbk,hown,hne⟩:=h2
 have c5:w2.cell? ⟨b,0,none⟩=some (.pointer (some ⟨b,0,none⟩)):=by rw[Lib.cell_of_heap hbk];rfl
 have c6:w2.cell? ⟨b,1,none⟩=some v:=by rw[Lib.cell_of_heap hbk];rfl
 go_wp2_with (at_builtin;refine Lib.wpList_append_own_stringF _ rfl _ _ 22 9 rfl B 5 i0 underlying22 underlying9 hi hz1 hz2 hz3 _ _ _ rfl hown s rfl ?c7 ?c1 ?c2 ?_)
 case c7=>have:=hl.out;unfold maxLen;omega
 case c1=>have:=hl.out;omega
 case c2=>have:=hb1.size;omega
 intro v' w3 hown' hgrow _
 have hlt:b<w2.heap.size:=by
  rcases Nat.lt_or_ge b w2.heap.size with h'|h'
  ·exact h'
  ·simp[Array.getElem?_eq_none h']at hbk
 have hb2:w3.heap[b]? =some (.cells #[.pointer (some ⟨b,0,none⟩),v] 53 (0,0)):=by
  rw[hgrow.block b hlt (fun e=>hne e.symm)]
  exact hbk
 have d1:w3.cell? ⟨b,0,none⟩=some (.pointer (some ⟨b,0,none⟩)):=by rw[Lib.cell_of_heap hb2];rfl
 have d2:w3.cell? ⟨b,1,none⟩=some v:=by rw[Lib.cell_of_heap hb2];rfl
 have f1:w3.frozen? ⟨b,1,none⟩=false:=Lib.frozen_of_heap hb2 1
 obtain⟨ao,n',cap,rfl⟩:∃ao n' cap,v'=L ao n' cap:=by
  rcases hown'.2 with⟨hv,_⟩|⟨g,cap,cur,fz,hv,_⟩
  ·exact⟨_,_,_,hv⟩
  ·exact⟨_,_,_,hv⟩
 go_wp2
 go_ret2
 refine⟨rfl,Or.inr ?_,?_⟩
 ·exact Lib.BuilderAtF.put (T:=53) (e:=5) hB hb2 (bs':=bs++Lib.strCells s) (by simpa[Lib.strCells_length]using hown') (by decide)
 ·exact(hb1.grown hgrow (by have:=hb1.size;omega) (fun k hk=>(hown.lt k hk).1)).setCell (p:=⟨b,1,none⟩) hB _
end Go.Proofs.YtgdnlmfoghpeoaaGreatDoor.PFnExactRunScript
