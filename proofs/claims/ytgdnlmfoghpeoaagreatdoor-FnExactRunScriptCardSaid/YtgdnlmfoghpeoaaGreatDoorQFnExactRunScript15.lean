/- Calls do what plain Lean functions say (FnExactRunScript). No condition. -/
import Derived.Test.YtgdnlmfoghpeoaaGreatDoorQFnExactRunScript0
import Derived.Test.YtgdnlmfoghpeoaaGreatDoorQFnExactRunScript8
import Derived.Test.YtgdnlmfoghpeoaaGreatDoorQFnExactRunScript9
import Derived.Test.YtgdnlmfoghpeoaaGreatDoorQFnExactRunScript10
import Derived.Test.YtgdnlmfoghpeoaaGreatDoorQFnExactRunScript14
namespace Go.Proofs.YtgdnlmfoghpeoaaGreatDoor.PFnExactRunScript
open Go.RowKit Go.Proofs.YtgdnlmfoghpeoaaGreatDoorW.PrintWords Go.Proofs.YtgdnlmfoghpeoaaGreatDoorW.PrintLast Go.Proofs.YtgdnlmfoghpeoaaGreatDoorW.PrintMore
open Tryz
open Fix (bK bnd cf14 cl14 cr14 d14 dB dK dQ dR eB eK eQ eR fQ fR gE gK gl gs gy hh hi hx lR nG nL nf nl np nt nu oL oT ou pj pu qm qn rE rS si tu uB uC uK uQ uR uZ)
open Go.Value renaming int→V,slice→L,bool→O,agg→G
open Go.IntKind renaming i64→I
open Go.Proofs.YtgdnlmfoghpeoaaGreatDoorW.PrintWords.Aside0 renaming mk→C
open Go.Proofs.YtgdnlmfoghpeoaaGreatDoorW.PrintWords renaming Aside0→D
open Go.Proofs.YtgdnlmfoghpeoaaGreatDoorW.PrintWords.Kd renaming R_mono→X,R_types→Y
open Go.World renaming block_lt_of_cell?→E
attribute [local go_sem] max2_int min2_int max_two min_two max_three min_three max_four min_four
attribute [local go_sem] Fix.isSome_setCell
set_option linter.unusedVariables false
set_option maxHeartbeats 40000000
set_option maxRecDepth 100000
set_option linter.unusedSimpArgs false
mutual
def spec_RunActs.j0:Nat→List (S55)→List Int→Bool→List (S26)→Int→Int→Int→Bool→Int→Bool→Int→Int→List Int→List Int→Int→Bool→Int→Option ((List (S26))×Int×Int×Int×Bool×Int×Bool×Int×Int×List Int×List Int×Int×Bool×Int×List Int)
  |0,_,_,_,_,_,_,_,_,_,_,_,_,_,_,_,_,_=>none
  |k+1,x1,x7,x21,x948000,x948001,x948002,x948003,x948004,x948005,x948006,x948007,x948008,x948009,x948010,x948011,x948012,x948013=>if x21=true then(some (x948000,x948001,x948002,x948003,x948004,x948005,x948006,x948007,x948008,x948009,x948010,x948011,x948012,x948013,x7)) else(spec_RunActs.l0 k x1 x7 0 x948000 x948001 x948002 x948003 x948004 x948005 x948006 x948007 x948008 x948009 x948010 x948011 x948012 x948013)
def spec_RunActs.l0:Nat→List (S55)→List Int→Int→List (S26)→Int→Int→Int→Bool→Int→Bool→Int→Int→List Int→List Int→Int→Bool→Int→Option ((List (S26))×Int×Int×Int×Bool×Int×Bool×Int×Int×List Int×List Int×Int×Bool×Int×List Int)
  |0,_,_,_,_,_,_,_,_,_,_,_,_,_,_,_,_,_=>none
  |k+1,x1,x7,x8,x948000,x948001,x948002,x948003,x948004,x948005,x948006,x948007,x948008,x948009,x948010,x948011,x948012,x948013=>if x8<(x1.length:Int) then(if 0≤x8 then((spec_DoAct.f k x948000 x948001 x948002 x948003 x948004 x948005 x948006 x948007 x948008 x948009 x948010 x948011 x948012 x948013 ((rd_T55 x1 x8).f0) ((rd_T55 x1 x8).f1) ((rd_T55 x1 x8).f2) ((rd_T55 x1 x8).f3)).bind fun bt953=>(if x7.length<17592186044416 then(spec_RunActs.l0 k x1 (x7++ [bt953.2.2.2.2.2.2.2.2.2.2.2.2.2.2]) (wrap64 (x8+1)) bt953.1 bt953.2.1 bt953.2.2.1 bt953.2.2.2.1 bt953.2.2.2.2.1 bt953.2.2.2.2.2.1 bt953.2.2.2.2.2.2.1 bt953.2.2.2.2.2.2.2.1 bt953.2.2.2.2.2.2.2.2.1 bt953.2.2.2.2.2.2.2.2.2.1 bt953.2.2.2.2.2.2.2.2.2.2.1 bt953.2.2.2.2.2.2.2.2.2.2.2.1 bt953.2.2.2.2.2.2.2.2.2.2.2.2.1 bt953.2.2.2.2.2.2.2.2.2.2.2.2.2.1) else(none))) else(none)) else(some (x948000,x948001,x948002,x948003,x948004,x948005,x948006,x948007,x948008,x948009,x948010,x948011,x948012,x948013,x7))
end
def spec_RunActs.f (k:Nat) (l0_0:List (S26)) (a0_1:Int) (a0_2:Int) (a0_3:Int) (a0_4:Bool) (a0_5:Int) (a0_6:Bool) (a0_7:Int) (a0_8:Int) (l0_9:List Int) (l0_10:List Int) (a0_11:Int) (a0_12:Bool) (a0_13:Int) (l1:List (S55)):Option ((List (S26))×Int×Int×Int×Bool×Int×Bool×Int×Int×List Int×List Int×Int×Bool×Int×List Int):=(spec_l39Copy.f l0_0 a0_1 a0_2 a0_3 a0_4 a0_5 a0_6 a0_7 a0_8 l0_9 l0_10 a0_11 a0_12 a0_13).bind fun bt927=>((some (([]:List Int):List Int)).bind fun y948=>((spec_MachineOk.f k l0_0 a0_1 a0_2 a0_3 a0_4 a0_5 a0_6 a0_7 a0_8 l0_9 l0_10 a0_11 a0_12 a0_13).bind fun t951=>(if t951=true then(spec_RunActs.j0 k l1 y948 (decide ((l1.length:Int) >40)) bt927.1 bt927.2.1 bt927.2.2.1 bt927.2.2.2.1 bt927.2.2.2.2.1 bt927.2.2.2.2.2.1 bt927.2.2.2.2.2.2.1 bt927.2.2.2.2.2.2.2.1 bt927.2.2.2.2.2.2.2.2.1 bt927.2.2.2.2.2.2.2.2.2.1 bt927.2.2.2.2.2.2.2.2.2.2.1 bt927.2.2.2.2.2.2.2.2.2.2.2.1 bt927.2.2.2.2.2.2.2.2.2.2.2.2.1 bt927.2.2.2.2.2.2.2.2.2.2.2.2.2) else(spec_RunActs.j0 k l1 y948 true bt927.1 bt927.2.1 bt927.2.2.1 bt927.2.2.2.1 bt927.2.2.2.2.1 bt927.2.2.2.2.2.1 bt927.2.2.2.2.2.2.1 bt927.2.2.2.2.2.2.2.1 bt927.2.2.2.2.2.2.2.2.1 bt927.2.2.2.2.2.2.2.2.2.1 bt927.2.2.2.2.2.2.2.2.2.2.1 bt927.2.2.2.2.2.2.2.2.2.2.2.1 bt927.2.2.2.2.2.2.2.2.2.2.2.2.1 bt927.2.2.2.2.2.2.2.2.2.2.2.2.2))))
def spec_RunActs.T8:Bool×List (List Nat×List Nat):=(true,[([],[]),([],[]),([],[]),([1,2],[1,2]),([3],[3]),([0,4],[0,4]),([5],[5]),([6],[6]),([6],[6]),([],[]),([9,7,5,0,1,2,3,4,5,6,7,9],[7,9]),([8,10,0,1,2,3,4,5,6,7,8,9,10],[8])])
def spec_RunActs.B8:List Nat:= [0,0,0,6,14,31,63,127,127,0,767,2047]
theorem spec_RunActs.tab8:rtab .any (opsOf Tryz.f32 8)=spec_RunActs.T8:=by kernel_rfl
theorem spec_RunActs.bits8:waitsOk spec_RunActs.T8.2 spec_RunActs.B8=true:=by kernel_rfl
theorem spec_RunActs.W1 {p:Prop} (h:p:=by
    go_wp2
    first
      | (refine bodyPost_ret (results_ct rfl _ _ gb2 31 #[L Ao1 t1.length co1, V I t2, V I t3, V I t4, O t5, V I t6, O t7, V I t8, V I t9, L Ao2 t10.length co2, L Ao3 t11.length co3, V I t12, O t13, V I t14] (0, 0) _ rfl (bK BK2.out) underlying31 rfl (by kernel_rfl)) rfl ?_
         exact⟨_,_,_,_,rE,X (fR (Y HO_2.out BK2.out (by decide))) (fun _ hk=>trivial),Kd.Q_mono (fQ (Kd.Q_types HO_3.out BK2.out (by decide))) pj,X (fR (Y HO_4.out BK2.out (by decide))) pj,X (fR (Y HO_1.out BK2.out (by decide))) pj,uB⟩)
      | (refine bodyPost_ret (results_ct rfl _ _ gb2 31 #[L Ao4 x4_2.length co4, V I x5_2, V I x6_2, V I x7_2, O x8_2, V I x9_2, O x10_2, V I x11_2, V I x12_2, L Ao5 x13_2.length co5, L Ao6 x14_2.length co6, V I x15_2, O x16_2, V I x17_2] (0, 0) _ rfl (bK BK2.out) underlying31 rfl (by kernel_rfl)) rfl ?_
         exact⟨_,_,_,_,rE,X (fR (Y HO_2.out BK2.out (by decide))) (fun _ hk=>trivial),Kd.Q_mono (fQ (Kd.Q_types HO_3.out BK2.out (by decide))) pj,X (fR (Y HO_4.out BK2.out (by decide))) pj,X (fR (Y HO_1.out BK2.out (by decide))) pj,uB⟩)):p:=h
theorem spec_RunActs.calls (k:Nat) (A0_0:Option Addr) (c0_0:Nat) (l0_0:List (S26)) (a0_1:Int) (a0_2:Int) (a0_3:Int) (a0_4:Bool) (a0_5:Int) (a0_6:Bool) (a0_7:Int) (a0_8:Int) (A0_9:Option Addr) (c0_9:Nat) (l0_9:List Int) (A0_10:Option Addr) (c0_10:Nat) (l0_10:List Int) (a0_11:Int) (a0_12:Bool) (a0_13:Int) (A1:Option Addr) (c1:Nat) (l1:List (S55)) (r1:List (S26)) (r2:Int) (r3:Int) (r4:Int) (r5:Bool) (r6:Int) (r7:Bool) (r8:Int) (r9:Int) (r10:List Int) (r11:List Int) (r12:Int) (r13:Bool) (r14:Int) (r15:List Int) (w:World) (hr0_0:Kd.C k26 w A0_0 l0_0.length l0_0) (hc0_0:l0_0.length≤c0_0) (hr0_9:Kd.C (Kd.int .i64) w A0_9 l0_9.length l0_9) (hc0_9:l0_9.length≤c0_9) (hr0_10:Kd.C (Kd.int .i64) w A0_10 l0_10.length l0_10) (hc0_10:l0_10.length≤c0_10) (hr1:Kd.C k55 w A1 l1.length l1) (hc1:l1.length≤c1) (h:spec_RunActs.f k l0_0 a0_1 a0_2 a0_3 a0_4 a0_5 a0_6 a0_7 a0_8 l0_9 l0_10 a0_11 a0_12 a0_13 l1=some (r1,r2,r3,r4,r5,r6,r7,r8,r9,r10,r11,r12,r13,r14,r15)):
 Calls prog 32 #[G #[L A0_0 l0_0.length c0_0,V I a0_1,V I a0_2,V I a0_3,O a0_4,V I a0_5,O a0_6,V I a0_7,V I a0_8,L A0_9 l0_9.length c0_9,L A0_10 l0_10.length c0_10,V I a0_11,O a0_12,V I a0_13],L A1 l1.length c1] w fun e w'=>∃v0_ v9_ v10_ v14_:Value,e=.returned (.tuple #[G #[v0_,V I r2,V I r3,V I r4,O r5,V I r6,O r7,V I r8,V I r9,v9_,v10_,V I r12,O r13,V I r14],v14_])∧Kd.R k26 26 w' w.heap.size (fun _=>True) v0_ r1∧Kd.Q (Kd.int .i64) 3 w' w.heap.size (fun k_=>qm k_ v10_∧qm k_ v14_) v9_ r10∧Kd.R (Kd.int .i64) 3 w' w.heap.size (fun k_=>qm k_ v9_∧qm k_ v14_) v10_ r11∧Kd.R (Kd.int .i64) 3 w' w.heap.size (fun k_=>qm k_ v9_∧qm k_ v10_) v14_ r15∧Below w.heap.size w w':=by
 have hu1:=underlying31
 have hu2:=underlying55
 have HR1_0:=C hr0_0
 have HC1_0:=C hc0_0
 (try clear hr0_0);(try clear hc0_0)
 have HR1_9:=C hr0_9
 have HC1_9:=C hc0_9
 (try clear hr0_9);(try clear hc0_9)
 have HR1_10:=C hr0_10
 have HC1_10:=C hc0_10
 (try clear hr0_10);(try clear hc0_10)
 have HR2:=C hr1
 have HC2:=C hc1
 (try clear hr1);(try clear hc1)
 have HB:=C (Below.refl w.heap.size w)
 have H:=h
 unfold spec_RunActs.f at H
 clear h
 obtain⟨⟨t1,t2,t3,t4,t5,t6,t7,t8,t9,t10,t11,t12,t13,t14⟩,A1,H⟩:=bnd H
 dsimp only at H
 obtain⟨y1,hy1⟩:∃y_:List Int,y_=(([]:List Int)):=⟨_,rfl⟩
 replace H:((spec_MachineOk.f k l0_0 a0_1 a0_2 a0_3 a0_4 a0_5 a0_6 a0_7 a0_8 l0_9 l0_10 a0_11 a0_12 a0_13).bind fun t15=>(if t15=true then(spec_RunActs.j0 k l1 y1 (decide ((l1.length:Int) >40)) t1 t2 t3 t4 t5 t6 t7 t8 t9 t10 t11 t12 t13 t14) else(spec_RunActs.j0 k l1 y1 true t1 t2 t3 t4 t5 t6 t7 t8 t9 t10 t11 t12 t13 t14)))=some (r1,r2,r3,r4,r5,r6,r7,r8,r9,r10,r11,r12,r13,r14,r15):=gy hy1 H
 have Ny1:=C hy1
 clear hy1
 have HC3:=C H
 clear H
 go_enter func32,ntmps32
 go_upto_region 3 with(first|((with_reducible refine gate_dst (N:=2) rfl ?_);(try(refine gate_guard (by rfl) ?_;dsimp only));refine Fix.be 2 #[L A0_0 l0_0.length c0_0,V I a0_1,V I a0_2,V I a0_3,O a0_4,V I a0_5,O a0_6,V I a0_7,V I a0_8,L A0_9 l0_9.length c0_9,L A0_10 l0_10.length c0_10,V I a0_11,O a0_12,V I a0_13] 31 ?_;intro gb1 hg w2 BK1 hb;have GW1:=gE (w:=w) hg;replace HB:=eB hb;clear hb hg)|((with_reducible refine gate_dst (N:=4) rfl ?_);(try(refine gate_guard (by rfl) ?_;dsimp only));refine Fix.be 4 #[L none 0 0,V I 0,V I 0,V I 0,O false,V I 0,O false,V I 0,V I 0,L none 0 0,L none 0 0,V I 0,O false,V I 0] 31 ?_;intro gb2 hg w3 BK2 hb;have GW2:=gE (w:=w) hg;have n0:=nL hg BK1;have n1:=nG hg BK1;replace BK1:=eK BK1 hb;replace HB:=eB hb;clear hb hg;have:=n0.out;have:=n1.out;have h_:=d14 BK1.out;(repeat(obtain⟨_,h_⟩:=h_)))|((with_reducible refine gate_callee (f:=63) rfl ?_);refine gl 63 (some 12) func63 #[G #[L A0_0 l0_0.length c0_0,V I a0_1,V I a0_2,V I a0_3,O a0_4,V I a0_5,O a0_6,V I a0_7,V I a0_8,L A0_9 l0_9.length c0_9,L A0_10 l0_10.length c0_10,V I a0_11,O a0_12,V I a0_13]] ?_;(with_reducible refine(spec_l39Copy.calls _ _ l0_0 a0_1 a0_2 a0_3 a0_4 a0_5 a0_6 a0_7 a0_8 _ _ l0_9 _ _ l0_10 a0_11 a0_12 a0_13 t1 t2 t3 t4 t5 t6 t7 t8 t9 t10 t11 t12 t13 t14 _ ?side1 HC1_0.out ?side3 HC1_9.out ?side5 HC1_10.out A1.out).mono ?_);(case side1=>exact uZ HR1_0);(case side3=>exact uZ HR1_9);(case side5=>exact uZ HR1_10);rintro e w4 ⟨v1,v2,v3,rfl,ho1,ho2,ho3,hb⟩;refine⟨_,rfl,?_⟩;have HO1:=lR ho1;have HO2:=lR ho2;have HO3:=lR ho3;replace BK1:=eK BK1 hb;replace BK2:=eK BK2 hb;replace HB:=eB hb;clear hb ho1 ho2 ho3)|((with_reducible refine gate_dst (N:=6) rfl ?_);(try(refine gate_guard (by rfl) ?_;dsimp only));refine Fix.be 6 #[L none 0 0,V I 0,V I 0,V I 0,O false,V I 0,O false,V I 0,V I 0,L none 0 0,L none 0 0,V I 0,O false,V I 0] 31 ?_;intro gb3 hg w5 BK3 hb;have GW3:=gE (w:=w) hg;have n2:=nL hg BK1;have n3:=nG hg BK1;have n4:=nL hg BK2;have n5:=nG hg BK2;replace HO1:=eR HO1 hb;replace HO2:=eR HO2 hb;replace HO3:=eR HO3 hb;replace BK1:=eK BK1 hb;replace BK2:=eK BK2 hb;replace HB:=eB hb;clear hb hg;obtain⟨Ao1,co1,rfl⟩:=Kd.R_slice HO1.out;have:=n3.out;have:=n2.out;have:=n5.out;have:=n4.out;have h_:=d14 BK3.out;(repeat(obtain⟨_,h_⟩:=h_));obtain⟨Ao2,co2,rfl⟩:=Kd.R_slice HO2.out;obtain⟨Ao3,co3,rfl⟩:=Kd.R_slice HO3.out)|((with_reducible refine gate_dst (N:=13) rfl ?_);(try(refine gate_guard (by rfl) ?_;dsimp only));refine Kd.R_lit (Kd.int .i64) _ 3 ?hg (N:=13) ?hd (xs:=([]:List Int)) (inner:= []) (ok:=fun _=>True) (okp:=fun _=>True) ?hr ?hp (fun _ hk=>hk) trivial (Below.refl _ _) (Nat.le_refl _) (by simp) ?_;(case hd=>rfl);(case hg=>rfl);(case hr=>exact Fix.hr);(case hp=>exact(Reps.none _ _));intro v4 w6 ho4 hb hg_ hnew_;clear hg_ hnew_;(first|rw[←Ny1.out]at ho4|(simp only[Int.reduceToNat]at ho4;rw[←Ny1.out]at ho4));have HO4:=C (Kd.R_lower (Kd.R_new' (Kd.R_new' ho4 (Kd.R_lt (X (fR (Y HO2.out BK3.out (by decide))) (fun _ h_=>h_.1)))) (Kd.R_lt (X (fR (Y HO3.out BK3.out (by decide))) (fun _ h_=>h_.1)))) (below_size uB));replace HO1:=C (Kd.R_below (X (fR (Y HO1.out BK3.out (by decide))) (fun _ h_=>h_.1)) hb);replace HO2:=C (Kd.R_elder' (X (fR (Y HO2.out BK3.out (by decide))) (fun _ h_=>h_.1)) (Kd.R_base ho4) hb);replace HO3:=C (Kd.R_elder' (X (fR (Y HO3.out BK3.out (by decide))) (fun _ h_=>h_.1)) (Kd.R_base ho4) hb);replace BK1:=eK BK1 hb;replace BK2:=eK BK2 hb;replace BK3:=C (blk_below (g:=gb3) (o:=.cells #[L Ao1 t1.length co1,V I t2,V I t3,V I t4,O t5,V I t6,O t7,V I t8,V I t9,L Ao2 t10.length co2,L Ao3 t11.length co3,V I t12,O t13,V I t14] 31 (0,0)) (bK BK3.out) hb);replace HB:=eB hb;clear hb ho4))
 (try simp only[Act.put,List.setIfInBounds_toArray,List.set_cons_zero,List.set_cons_succ])
 go_cut [21] (fun v21 wc=>∃(kq:Nat) (x1_3:Bool),v21=O x1_3∧D (spec_RunActs.j0 kq l1 y1 x1_3 t1 t2 t3 t4 t5 t6 t7 t8 t9 t10 t11 t12 t13 t14=some (r1,r2,r3,r4,r5,r6,r7,r8,r9,r10,r11,r12,r13,r14,r15))∧D (kq≤k)∧D (Kd.R (Kd.int .i64) 3 wc w.heap.size (fun k_=>some k_≠Fix.o Ao2 t10.length co2∧some k_≠Fix.o Ao3 t11.length co3) v4 y1)∧D (Kd.R k26 26 wc w.heap.size (fun _=>True) (L Ao1 t1.length co1) t1)∧D (Kd.Q (Kd.int .i64) 3 wc w.heap.size (fun k_=>qm k_ v4∧some k_≠Fix.o Ao3 t11.length co3) (L Ao2 t10.length co2) t10)∧D (Kd.R (Kd.int .i64) 3 wc w.heap.size (fun k_=>qm k_ v4∧some k_≠Fix.o Ao2 t10.length co2) (L Ao3 t11.length co3) t11)∧D (wc.heap[gb1]? =some (.cells #[(L A0_0 l0_0.length c0_0),V I a0_1,V I a0_2,V I a0_3,O a0_4,V I a0_5,O a0_6,V I a0_7,V I a0_8,(L A0_9 l0_9.length c0_9),(L A0_10 l0_10.length c0_10),V I a0_11,O a0_12,V I a0_13] 31 (0,0)))∧D (wc.heap[gb2]? =some (.cells #[(L none 0 0),V I 0,V I 0,V I 0,O false,V I 0,O false,V I 0,V I 0,(L none 0 0),(L none 0 0),V I 0,O false,V I 0] 31 (0,0)))∧D (wc.heap[gb3]? =some (.cells #[(L Ao1 t1.length co1),V I t2,V I t3,V I t4,O t5,V I t6,O t7,V I t8,V I t9,(L Ao2 t10.length co2),(L Ao3 t11.length co3),V I t12,O t13,V I t14] 31 (0,0)))∧D (Below w.heap.size w wc))
 case first=>
  have H:=HC3.out
  clear HC3
  obtain⟨t15,A2,H⟩:=bnd H
  by_cases c1:t15=true
  rotate_left
  ·obtain rfl:=nt c1
   replace H:=nf H
   have H':=C H
   clear H
   have:=n0.out
   have:=n1.out
   have:=n2.out
   have:=n3.out
   have h_:=d14 BK1.out;(repeat(obtain⟨_,h_⟩:=h_))
   go_wp2_with (first|((with_reducible refine gate_callee (f:=64) rfl ?_);refine gl 64 (some 15) func64 #[G #[L A0_0 l0_0.length c0_0,V I a0_1,V I a0_2,V I a0_3,O a0_4,V I a0_5,O a0_6,V I a0_7,V I a0_8,L A0_9 l0_9.length c0_9,L A0_10 l0_10.length c0_10,V I a0_11,O a0_12,V I a0_13]] ?_;(with_reducible refine(spec_MachineOk.calls k _ _ l0_0 a0_1 a0_2 a0_3 a0_4 a0_5 a0_6 a0_7 a0_8 _ _ l0_9 _ _ l0_10 a0_11 a0_12 a0_13 false _ ?side1 HC1_0.out ?side3 HC1_9.out ?side5 HC1_10.out A2.out).mono ?_);(case side1=>exact uZ HR1_0);(case side3=>exact uZ HR1_9);(case side5=>exact uZ HR1_10);rintro e w7 ⟨rfl,hb⟩;refine⟨_,rfl,?_⟩;replace HO1:=eR HO1 hb;replace HO2:=eR HO2 hb;replace HO3:=eR HO3 hb;replace HO4:=eR HO4 hb;replace BK1:=eK BK1 hb;replace BK2:=eK BK2 hb;replace BK3:=eK BK3 hb;replace HB:=eB hb;clear hb))
   go_meet
   case rel=>exact⟨_,(true),rS,H',⟨oL⟩,⟨X (fR HO4.out) (fun _ hk=>⟨hk.1.2,hk.2⟩)⟩,⟨fR HO1.out⟩,⟨Kd.Q_of_R (X (fR HO2.out) (fun _ hk=>⟨hk.2,hk.1⟩))⟩,⟨X (fR HO3.out) (fun _ hk=>⟨hk.2,hk.1⟩)⟩,⟨bK BK1.out⟩,⟨bK BK2.out⟩,⟨bK BK3.out⟩,⟨uB⟩⟩
  subst c1
  rw[if_pos rfl]at H
  have H':=C H
  clear H
  have:=n0.out
  have:=n1.out
  have:=n2.out
  have:=n3.out
  have h_:=d14 BK1.out;(repeat(obtain⟨_,h_⟩:=h_))
  go_wp2_with (first|((with_reducible refine gate_callee (f:=64) rfl ?_);refine gl 64 (some 15) func64 #[G #[L A0_0 l0_0.length c0_0,V I a0_1,V I a0_2,V I a0_3,O a0_4,V I a0_5,O a0_6,V I a0_7,V I a0_8,L A0_9 l0_9.length c0_9,L A0_10 l0_10.length c0_10,V I a0_11,O a0_12,V I a0_13]] ?_;(with_reducible refine(spec_MachineOk.calls k _ _ l0_0 a0_1 a0_2 a0_3 a0_4 a0_5 a0_6 a0_7 a0_8 _ _ l0_9 _ _ l0_10 a0_11 a0_12 a0_13 true _ ?side1 HC1_0.out ?side3 HC1_9.out ?side5 HC1_10.out A2.out).mono ?_);(case side1=>exact uZ HR1_0);(case side3=>exact uZ HR1_9);(case side5=>exact uZ HR1_10);rintro e w7 ⟨rfl,hb⟩;refine⟨_,rfl,?_⟩;replace HO1:=eR HO1 hb;replace HO2:=eR HO2 hb;replace HO3:=eR HO3 hb;replace HO4:=eR HO4 hb;replace BK1:=eK BK1 hb;replace BK2:=eK BK2 hb;replace BK3:=eK BK3 hb;replace HB:=eB hb;clear hb))
  go_meet
  case rel=>exact⟨_,(decide ((l1.length:Int) >40)),rS,H',⟨oL⟩,⟨X (fR HO4.out) (fun _ hk=>⟨hk.1.2,hk.2⟩)⟩,⟨fR HO1.out⟩,⟨Kd.Q_of_R (X (fR HO2.out) (fun _ hk=>⟨hk.2,hk.1⟩))⟩,⟨X (fR HO3.out) (fun _ hk=>⟨hk.2,hk.1⟩)⟩,⟨bK BK1.out⟩,⟨bK BK2.out⟩,⟨bK BK3.out⟩,⟨uB⟩⟩
 case rest=>
  clear HC3
  obtain⟨kq,x1_3,rfl,HA,HJ1,HO_1,HO_2,HO_3,HO_4,BK1,BK2,BK3,HB⟩:=hcut
  cases kq with
  |zero=>exact absurd HA.out (by simp[spec_RunActs.j0])
  |succ kj3=>
   have H:=HA.out
   clear HA
   simp only[spec_RunActs.j0]at H
   by_cases c1:x1_3=true
   ·subst c1
    rw[if_pos rfl]at H
    simp only[Option.some.injEq,Prod.mk.injEq]at H
    obtain⟨rfl,rfl,rfl,rfl,rfl,rfl,rfl,rfl,rfl,rfl,rfl,rfl,rfl,rfl,rfl⟩:=H
    have:=n3.out
    have:=n2.out
    have:=n5.out
    have:=n4.out
    have h_:=d14 BK3.out;(repeat(obtain⟨_,h_⟩:=h_))
    have:=n1.out
    have:=n0.out
    have h_:=d14 BK2.out;(repeat(obtain⟨_,h_⟩:=h_))
    exact spec_RunActs.W1
   obtain rfl:=nt c1
   replace H:=nf H
   have H':=C H
   clear H
   go_wp2
   go_loopg [7,8] kj3 (fun kq v7 v8 w'=>∃(x2_2:List Int) (x3_2:Int) (x4_2:List (S26)) (x5_2:Int) (x6_2:Int) (x7_2:Int) (x8_2:Bool) (x9_2:Int) (x10_2:Bool) (x11_2:Int) (x12_2:Int) (x13_2:List Int) (x14_2:List Int) (x15_2:Int) (x16_2:Bool) (x17_2:Int) (u948000:Value) (u948009:Value) (u948010:Value),v8=V I x3_2∧D (spec_RunActs.l0 kq l1 x2_2 x3_2 x4_2 x5_2 x6_2 x7_2 x8_2 x9_2 x10_2 x11_2 x12_2 x13_2 x14_2 x15_2 x16_2 x17_2=some (r1,r2,r3,r4,r5,r6,r7,r8,r9,r10,r11,r12,r13,r14,r15))∧D (kq≤kj3)∧D (Kd.R (Kd.int .i64) 3 w' w.heap.size (fun k_=>qm k_ u948009∧qm k_ u948010) v7 x2_2)∧D (Kd.R k26 26 w' w.heap.size (fun _=>True) u948000 x4_2)∧D (Kd.Q (Kd.int .i64) 3 w' w.heap.size (fun k_=>qm k_ v7∧qm k_ u948010) u948009 x13_2)∧D (Kd.R (Kd.int .i64) 3 w' w.heap.size (fun k_=>qm k_ v7∧qm k_ u948009) u948010 x14_2)∧D (w'.heap[gb1]? =some (.cells #[(L A0_0 l0_0.length c0_0),V I a0_1,V I a0_2,V I a0_3,O a0_4,V I a0_5,O a0_6,V I a0_7,V I a0_8,(L A0_9 l0_9.length c0_9),(L A0_10 l0_10.length c0_10),V I a0_11,O a0_12,V I a0_13] 31 (0,0)))∧D (w'.heap[gb2]? =some (.cells #[(L none 0 0),V I 0,V I 0,V I 0,O false,V I 0,O false,V I 0,V I 0,(L none 0 0),(L none 0 0),V I 0,O false,V I 0] 31 (0,0)))∧D (w'.heap[gb3]? =some (.cells #[u948000,V I x5_2,V I x6_2,V I x7_2,O x8_2,V I x9_2,O x10_2,V I x11_2,V I x12_2,u948009,u948010,V I x15_2,O x16_2,V I x17_2] 31 (0,0)))∧D (Below w.heap.size w w'))
   case atStart=>exact⟨(y1),(0),(t1),(t2),(t3),(t4),(t5),(t6),(t7),(t8),(t9),(t10),(t11),(t12),(t13),(t14),(L Ao1 t1.length co1),(L Ao2 t10.length co2),(L Ao3 t11.length co3),rS,H',⟨Nat.le_refl _⟩,⟨fR HO_1.out⟩,⟨fR HO_2.out⟩,⟨fQ HO_3.out⟩,⟨fR HO_4.out⟩,⟨bK BK1.out⟩,⟨bK BK2.out⟩,⟨bK BK3.out⟩,⟨uB⟩⟩
   case round=>
    clear H'
    obtain⟨x2_2,x3_2,x4_2,x5_2,x6_2,x7_2,x8_2,x9_2,x10_2,x11_2,x12_2,x13_2,x14_2,x15_2,x16_2,x17_2,u948000,u948009,u948010,rfl,HA,HK1,HO_1,HO_2,HO_3,HO_4,BK1,BK2,BK3,HB⟩:=hrel
    cases gk with
    |zero=>exact absurd HA.out (by simp[spec_RunActs.l0])
    |succ k2=>
     have H:=HA.out
     clear HA
     simp only[spec_RunActs.l0]at H
     by_cases c2:x3_2<(l1.length:Int)
     rotate_left
     ·rw[if_neg c2]at H
      replace c2:=decide_eq_false c2
      simp only[Option.some.injEq,Prod.mk.injEq]at H
      obtain⟨rfl,rfl,rfl,rfl,rfl,rfl,rfl,rfl,rfl,rfl,rfl,rfl,rfl,rfl,rfl⟩:=H
      have:=n3.out
      have:=n2.out
      have:=n5.out
      have:=n4.out
      have h_:=d14 BK3.out;(repeat(obtain⟨_,h_⟩:=h_))
      obtain⟨Ao4,co4,eo4⟩:=Kd.R_slice HO_2.out
      subst eo4
      have:=n1.out
      have:=n0.out
      have h_:=d14 BK2.out;(repeat(obtain⟨_,h_⟩:=h_))
      obtain⟨Ao5,co5,eo5,_⟩:=Kd.Q_slice HO_3.out
      subst eo5
      obtain⟨Ao6,co6,eo6⟩:=Kd.R_slice HO_4.out
      subst eo6
      exact spec_RunActs.W1
     rw[if_pos c2]at H
     replace c2:=decide_eq_true c2
     obtain⟨c3,H⟩:=np H
     replace c3:=decide_eq_true c3
     obtain⟨⟨t16,t17,t18,t19,t20,t21,t22,t23,t24,t25,t26,t27,t28,t29,t30⟩,A2,H⟩:=bnd H
     dsimp only at H
     obtain⟨c4,H⟩:=np H
     have LMc1:=C c4
     clear c4
     obtain⟨y2,hy2⟩:∃y_:List Int,y_=(x2_2++ [t30]):=⟨_,rfl⟩
     replace H:(spec_RunActs.l0 k2 l1 y2 (wrap64 (x3_2+1)) t16 t17 t18 t19 t20 t21 t22 t23 t24 t25 t26 t27 t28 t29)=some (r1,r2,r3,r4,r5,r6,r7,r8,r9,r10,r11,r12,r13,r14,r15):=gy hy2 H
     have Ny2:=C hy2
     clear hy2
     have H':=C H
     clear H
     obtain⟨Ao4,co4,eo4⟩:=Kd.R_slice HO_2.out
     subst eo4
     obtain⟨Ao5,co5,eo5,_⟩:=Kd.Q_slice HO_3.out
     subst eo5
     obtain⟨Ao6,co6,eo6⟩:=Kd.R_slice HO_4.out
     subst eo6
     try go_wp2
     replace HO_1:=dR HO_1
     replace HO_2:=dR HO_2
     replace HO_3:=dQ HO_3
     replace HO_4:=dR HO_4
     replace BK1:=dK BK1
     replace BK2:=dK BK2
     replace BK3:=dK BK3
     replace HB:=dB HB
     have p1:0≤(x3_2:Int):=oT
     have q1:x3_2<(l1.length:Int):=oT
     obtain⟨ad1,e1,hx1_0,hx1_1,hx1_2,hx1_3⟩:=at_T55 HR2.out x3_2 p1 q1
     have hw1_3:=hx1_3
     have hw1_2:=hx1_2
     have hw1_1:=hx1_1
     have hw1_0:=hx1_0
     cases e1
     replace hx1_0:=hx HB hx1_0
     replace hx1_1:=hx HB hx1_1
     replace hx1_2:=hx HB hx1_2
     replace hx1_3:=hx HB hx1_3
     replace p1:=eq_true p1
     replace q1:=eq_true q1
     refine start_ (n:=12) (S:=fun w'=>cr14 w' gb3 (L Ao4 x4_2.length co4) (V I x5_2) (V I x6_2) (V I x7_2) (O x8_2) (V I x9_2) (O x10_2) (V I x11_2) (V I x12_2) (L Ao5 x13_2.length co5) (L Ao6 x14_2.length co6) (V I x15_2) (O x16_2) (V I x17_2) (w'.cell? (ad1.add ((x3_2).toNat * 4))=some (V I ((rd_T55 l1 x3_2).f0))∧w'.cell? ⟨(ad1.add ((x3_2).toNat * 4)).block,(ad1.add ((x3_2).toNat * 4)).off+1,none⟩=some (V I ((rd_T55 l1 x3_2).f1))∧w'.cell? ⟨(ad1.add ((x3_2).toNat * 4)).block,(ad1.add ((x3_2).toNat * 4)).off+2,none⟩=some (V I ((rd_T55 l1 x3_2).f2))∧w'.cell? ⟨(ad1.add ((x3_2).toNat * 4)).block,(ad1.add ((x3_2).toNat * 4)).off+3,none⟩=some (V I ((rd_T55 l1 x3_2).f3)))) (ds:= []) #[false,false,false,false,false,false,false,false,false,false,false,false] (by kernel_rfl) rfl rfl hi (fun hHeld=> ?_);refine with_tabW spec_RunActs.tab8 spec_RunActs.bits8 (fun HT_ HW_=> ?_)
     generalize wr.drew=w7 at HO_1 HO_2 HO_3 HO_4 BK1 BK2 BK3 HB hx1_0 hx1_1 hx1_2 hx1_3 hHeld ⊢
     refine pu 1 (some 32) ?_
     refine pu 2 (some 33) ?_
     refine pu 3 (some 34) ?_
     refine tu 0 (some 31) hHeld ?_
     refine tu 4 (some 35) hHeld ?_
     refine join_ (σ:=Value×Value×Value×Nat) 2 #[true,true,true,true,true,true,true,true,true,true,false,false] (fun s_=> [(36,.tuple #[G #[s_.1,V I t17,V I t18,V I t19,O t20,V I t21,O t22,V I t23,V I t24,s_.2.1,s_.2.2.1,V I t27,O t28,V I t29],V I t30]),(9,.pointer (some ⟨s_.2.2.2,0,none⟩)),(30,.tuple #[G #[s_.1,V I t17,V I t18,V I t19,O t20,V I t21,O t22,V I t23,V I t24,s_.2.1,s_.2.2.1,V I t27,O t28,V I t29],V I t30]),(37,G #[s_.1,V I t17,V I t18,V I t19,O t20,V I t21,O t22,V I t23,V I t24,s_.2.1,s_.2.2.1,V I t27,O t28,V I t29]),(38,V I t30)]) (fun s_ w'=>(cr14 w' gb3 (L Ao4 x4_2.length co4) (V I x5_2) (V I x6_2) (V I x7_2) (O x8_2) (V I x9_2) (O x10_2) (V I x11_2) (V I x12_2) (L Ao5 x13_2.length co5) (L Ao6 x14_2.length co6) (V I x15_2) (O x16_2) (V I x17_2) (w'.cell? (ad1.add ((x3_2).toNat * 4))=some (V I ((rd_T55 l1 x3_2).f0))∧w'.cell? ⟨(ad1.add ((x3_2).toNat * 4)).block,(ad1.add ((x3_2).toNat * 4)).off+1,none⟩=some (V I ((rd_T55 l1 x3_2).f1))∧w'.cell? ⟨(ad1.add ((x3_2).toNat * 4)).block,(ad1.add ((x3_2).toNat * 4)).off+2,none⟩=some (V I ((rd_T55 l1 x3_2).f2))∧w'.cell? ⟨(ad1.add ((x3_2).toNat * 4)).block,(ad1.add ((x3_2).toNat * 4)).off+3,none⟩=some (V I ((rd_T55 l1 x3_2).f3))))∧(Kd.R k26 26 w' w.heap.size (fun k_=>qn k_ Ao4 x4_2.length co4) s_.1 t16)∧(Kd.Q (Kd.int .i64) 3 w' w.heap.size (fun k_=>some k_≠(s_.2.2.1:Value).ownBlock∧qm k_ u7∧qn k_ Ao5 x13_2.length co5∧qn k_ Ao6 x14_2.length co6) s_.2.1 t25)∧(Kd.R (Kd.int .i64) 3 w' w.heap.size (fun k_=>some k_≠(s_.2.1:Value).ownBlock∧qm k_ u7∧qn k_ Ao5 x13_2.length co5∧qn k_ Ao6 x14_2.length co6) s_.2.2.1 t26)∧(Kd.R (Kd.int .i64) 3 w' w.heap.size (fun k_=>some k_≠(s_.2.1:Value).ownBlock∧some k_≠(s_.2.2.1:Value).ownBlock∧qn k_ Ao5 x13_2.length co5∧qn k_ Ao6 x14_2.length co6) u7 x2_2)∧(Kd.R k26 26 w' w.heap.size (fun k_=>some k_≠(s_.1:Value).ownBlock) (L Ao4 x4_2.length co4) x4_2)∧(Kd.Q (Kd.int .i64) 3 w' w.heap.size (fun k_=>some k_≠(s_.2.1:Value).ownBlock∧some k_≠(s_.2.2.1:Value).ownBlock∧qm k_ u7∧qn k_ Ao6 x14_2.length co6) (L Ao5 x13_2.length co5) x13_2)∧(Kd.R (Kd.int .i64) 3 w' w.heap.size (fun k_=>some k_≠(s_.2.1:Value).ownBlock∧some k_≠(s_.2.2.1:Value).ownBlock∧qm k_ u7∧qn k_ Ao5 x13_2.length co5) (L Ao6 x14_2.length co6) x14_2)∧(w'.heap[gb1]? =some (.cells #[L A0_0 l0_0.length c0_0,V I a0_1,V I a0_2,V I a0_3,O a0_4,V I a0_5,O a0_6,V I a0_7,V I a0_8,L A0_9 l0_9.length c0_9,L A0_10 l0_10.length c0_10,V I a0_11,O a0_12,V I a0_13] 31 (0,0)))∧(w'.heap[gb2]? =some (.cells #[L none 0 0,V I 0,V I 0,V I 0,O false,V I 0,O false,V I 0,V I 0,L none 0 0,L none 0 0,V I 0,O false,V I 0] 31 (0,0)))∧(w'.heap[gb3]? =some (.cells #[L Ao4 x4_2.length co4,V I x5_2,V I x6_2,V I x7_2,O x8_2,V I x9_2,O x10_2,V I x11_2,V I x12_2,L Ao5 x13_2.length co5,L Ao6 x14_2.length co6,V I x15_2,O x16_2,V I x17_2] 31 (0,0)))∧(w'.heap[s_.2.2.2]? =some (.cells #[L none 0 0,V I 0,V I 0,V I 0,O false,V I 0,O false,V I 0,V I 0,L none 0 0,L none 0 0,V I 0,O false,V I 0] 31 (0,0)))∧(w.heap.size≤s_.2.2.2)∧(w.heap.size≤s_.2.2.2)∧(gb1≠s_.2.2.2)∧(s_.2.2.2≠gb1)∧(gb2≠s_.2.2.2)∧(s_.2.2.2≠gb2)∧(gb3≠s_.2.2.2)∧(s_.2.2.2≠gb3)∧(Below w.heap.size w w')) ?_ ?_
     rotate_left
     ·intro hCont
      refine two_ (i:=5) (j:=9) (Ni:=some 36) (Nj:=some 9) #[true,true,true,true,true,true,false,false,false,false,false,false] #[true,true,true,true,true,false,false,false,false,true,false,false] rfl rfl rfl rfl (two_of HT_.out (by kernel_rfl)) (by decide) (by decide) (fun K hK=> ?_) (fun K hK=> ?_)
      ·skip
       refine gs func65 #[G #[L Ao4 x4_2.length co4,V I x5_2,V I x6_2,V I x7_2,O x8_2,V I x9_2,O x10_2,V I x11_2,V I x12_2,L Ao5 x13_2.length co5,L Ao6 x14_2.length co6,V I x15_2,O x16_2,V I x17_2],G #[V I ((rd_T55 l1 x3_2).f0),V I ((rd_T55 l1 x3_2).f1),V I ((rd_T55 l1 x3_2).f2),V I ((rd_T55 l1 x3_2).f3)]] ?_
       with_reducible refine(spec_DoAct.calls k2 _ _ x4_2 x5_2 x6_2 x7_2 x8_2 x9_2 x10_2 x11_2 x12_2 _ _ x13_2 _ _ x14_2 x15_2 x16_2 x17_2 ((rd_T55 l1 x3_2).f0) ((rd_T55 l1 x3_2).f1) ((rd_T55 l1 x3_2).f2) ((rd_T55 l1 x3_2).f3) t16 t17 t18 t19 t20 t21 t22 t23 t24 t25 t26 t27 t28 t29 t30 _ ?side1 ?side2 ?side3 ?side4 ?side5 ?side6 A2.out).mono ?_
       (case side1=>exact uC (Kd.R_reads' HO_2.out).2.2)
       (case side2=>exact(Kd.R_reads' HO_2.out).2.1)
       (case side3=>exact uC (Kd.Q_reads' HO_3.out).2.2)
       (case side4=>exact(Kd.Q_reads' HO_3.out).2.1)
       (case side5=>exact uC (Kd.R_reads' HO_4.out).2.2)
       (case side6=>exact(Kd.R_reads' HO_4.out).2.1)
       rintro e w8 ⟨v5,v6,v9,rfl,ho1,ho2,ho3,hb⟩
       refine⟨_,rfl,?_⟩
       have HO5:=C (Kd.R_lower (Kd.R_new' ho1 (Kd.R_lt (uR HO_2.out))) (below_size uB))
       have HO6:=C (Kd.Q_lower (Kd.Q_new' (Kd.Q_new' (Kd.Q_new' ho2 (Kd.R_lt (uR HO_1.out))) (Kd.Q_lt (uQ HO_3.out))) (Kd.R_lt (uR HO_4.out))) (below_size uB))
       have HO7:=C (Kd.R_lower (Kd.R_new' (Kd.R_new' (Kd.R_new' ho3 (Kd.R_lt (uR HO_1.out))) (Kd.Q_lt (uQ HO_3.out))) (Kd.R_lt (uR HO_4.out))) (below_size uB))
       replace HO_1:=C (X (Kd.R_told (Kd.R_told (Kd.R_old (uR HO_1.out) hb) (Kd.Q_base ho2)) (Kd.R_base ho3)) (fun _ h_=>h_.1))
       replace HO_2:=C (Kd.R_elder' (uR HO_2.out) (Kd.R_base ho1) hb)
       replace HO_3:=C (Kd.Q_mono (Kd.Q_told (Kd.Q_told (Kd.Q_old (uQ HO_3.out) hb) (Kd.Q_base ho2)) (Kd.R_base ho3)) (fun _ h_=>h_.1))
       replace HO_4:=C (X (Kd.R_told (Kd.R_told (Kd.R_old (uR HO_4.out) hb) (Kd.Q_base ho2)) (Kd.R_base ho3)) (fun _ h_=>h_.1))
       replace BK1:=eK BK1 hb
       replace BK2:=eK BK2 hb
       replace BK3:=eK BK3 hb
       replace HB:=eB hb
       (try clear hb)
       refine hK.out _ _ ⟨(blk_cell BK3.out 0).trans rfl,(blk_cell BK3.out 1).trans rfl,(blk_cell BK3.out 2).trans rfl,(blk_cell BK3.out 3).trans rfl,(blk_cell BK3.out 4).trans rfl,(blk_cell BK3.out 5).trans rfl,(blk_cell BK3.out 6).trans rfl,(blk_cell BK3.out 7).trans rfl,(blk_cell BK3.out 8).trans rfl,(blk_cell BK3.out 9).trans rfl,(blk_cell BK3.out 10).trans rfl,(blk_cell BK3.out 11).trans rfl,(blk_cell BK3.out 12).trans rfl,(blk_cell BK3.out 13).trans rfl,((HB.out.cell (E w _ hw1_0)).trans hw1_0),((HB.out.cell (E w _ hw1_1)).trans hw1_1),((HB.out.cell (E w _ hw1_2)).trans hw1_2),((HB.out.cell (E w _ hw1_3)).trans hw1_3)⟩ (fun hHeld=> ?_)
       clear hK K
       refine nu (N:=(some 36)) ?_
       refine pu 6 (some 30) ?_
       refine pu 7 (some 37) ?_
       refine pu 8 (some 38) ?_
       refine ou 9 (some 9) (fun K hK=> ?_)
       refine box_step ?hg (N:=9) ?hd (cs:= #[L none 0 0,V I 0,V I 0,V I 0,O false,V I 0,O false,V I 0,V I 0,L none 0 0,L none 0 0,V I 0,O false,V I 0]) (t:=31) ?hr ?_;(case hd=>rfl);(case hg=>rfl);(case hr=>exact Fix.hr)
       intro gb4 hg w9 hbox hb
       have BK4:=C hbox
       have GW4:=gE (w:=w) hg
       have GE4:=gE (w:=w) hg
       have n6:=nL hg BK1
       have n7:=nG hg BK1
       have n8:=nL hg BK2
       have n9:=nG hg BK2
       have n10:=nL hg BK3
       have n11:=nG hg BK3
       replace HO_1:=eR HO_1 hb
       replace HO_2:=eR HO_2 hb
       replace HO_3:=eQ HO_3 hb
       replace HO_4:=eR HO_4 hb
       replace HO5:=eR HO5 hb
       replace HO6:=eQ HO6 hb
       replace HO7:=eR HO7 hb
       replace BK1:=eK BK1 hb
       replace BK2:=eK BK2 hb
       replace BK3:=eK BK3 hb
       replace HB:=eB hb
       clear hb hbox hg
       refine hK.out _ _ ⟨(blk_cell BK3.out 0).trans rfl,(blk_cell BK3.out 1).trans rfl,(blk_cell BK3.out 2).trans rfl,(blk_cell BK3.out 3).trans rfl,(blk_cell BK3.out 4).trans rfl,(blk_cell BK3.out 5).trans rfl,(blk_cell BK3.out 6).trans rfl,(blk_cell BK3.out 7).trans rfl,(blk_cell BK3.out 8).trans rfl,(blk_cell BK3.out 9).trans rfl,(blk_cell BK3.out 10).trans rfl,(blk_cell BK3.out 11).trans rfl,(blk_cell BK3.out 12).trans rfl,(blk_cell BK3.out 13).trans rfl,((HB.out.cell (E w _ hw1_0)).trans hw1_0),((HB.out.cell (E w _ hw1_1)).trans hw1_1),((HB.out.cell (E w _ hw1_2)).trans hw1_2),((HB.out.cell (E w _ hw1_3)).trans hw1_3)⟩ (fun hHeld=> ?_)
       clear hK K
       refine nu (N:=(some 9)) ?_
       exact norm_ (by simp only[putAll,Act.put,List.setIfInBounds_toArray,List.set_cons_zero,List.set_cons_succ]) (hCont (v5,v6,v9,gb4) _ ⟨hHeld,(X (fR HO5.out) (fun _ hk=>hk.2)),(Kd.Q_mono (fQ HO6.out) pj),(X (fR HO7.out) pj),(X (fR HO_1.out) pj),(X (fR HO_2.out) (fun _ hk=>hk.2)),(Kd.Q_mono (fQ HO_3.out) pj),(X (fR HO_4.out) pj),(uK BK1.out),(uK BK2.out),(uK BK3.out),(uK BK4.out),GW4.out,GE4.out,n6.out,n7.out,n8.out,n9.out,n10.out,n11.out,uB⟩)
      ·skip
       refine box_step ?hg (N:=9) ?hd (cs:= #[L none 0 0,V I 0,V I 0,V I 0,O false,V I 0,O false,V I 0,V I 0,L none 0 0,L none 0 0,V I 0,O false,V I 0]) (t:=31) ?hr ?_;(case hd=>rfl);(case hg=>rfl);(case hr=>exact Fix.hr)
       intro gb4 hg w8 hbox hb
       have BK4:=C hbox
       have GW4:=gE (w:=w) hg
       have GE4:=gE (w:=w) hg
       have n6:=nL hg BK1
       have n7:=nG hg BK1
       have n8:=nL hg BK2
       have n9:=nG hg BK2
       have n10:=nL hg BK3
       have n11:=nG hg BK3
       replace HO_1:=eR HO_1 hb
       replace HO_2:=eR HO_2 hb
       replace HO_3:=eQ HO_3 hb
       replace HO_4:=eR HO_4 hb
       replace BK1:=eK BK1 hb
       replace BK2:=eK BK2 hb
       replace BK3:=eK BK3 hb
       replace HB:=eB hb
       clear hb hbox hg
       refine hK.out _ _ ⟨(blk_cell BK3.out 0).trans rfl,(blk_cell BK3.out 1).trans rfl,(blk_cell BK3.out 2).trans rfl,(blk_cell BK3.out 3).trans rfl,(blk_cell BK3.out 4).trans rfl,(blk_cell BK3.out 5).trans rfl,(blk_cell BK3.out 6).trans rfl,(blk_cell BK3.out 7).trans rfl,(blk_cell BK3.out 8).trans rfl,(blk_cell BK3.out 9).trans rfl,(blk_cell BK3.out 10).trans rfl,(blk_cell BK3.out 11).trans rfl,(blk_cell BK3.out 12).trans rfl,(blk_cell BK3.out 13).trans rfl,((HB.out.cell (E w _ hw1_0)).trans hw1_0),((HB.out.cell (E w _ hw1_1)).trans hw1_1),((HB.out.cell (E w _ hw1_2)).trans hw1_2),((HB.out.cell (E w _ hw1_3)).trans hw1_3)⟩ (fun hHeld=> ?_)
       clear hK K
       refine nu (N:=(some 9)) ?_
       refine ou 5 (some 36) (fun K hK=> ?_)
       refine gs func65 #[G #[L Ao4 x4_2.length co4,V I x5_2,V I x6_2,V I x7_2,O x8_2,V I x9_2,O x10_2,V I x11_2,V I x12_2,L Ao5 x13_2.length co5,L Ao6 x14_2.length co6,V I x15_2,O x16_2,V I x17_2],G #[V I ((rd_T55 l1 x3_2).f0),V I ((rd_T55 l1 x3_2).f1),V I ((rd_T55 l1 x3_2).f2),V I ((rd_T55 l1 x3_2).f3)]] ?_
       with_reducible refine(spec_DoAct.calls k2 _ _ x4_2 x5_2 x6_2 x7_2 x8_2 x9_2 x10_2 x11_2 x12_2 _ _ x13_2 _ _ x14_2 x15_2 x16_2 x17_2 ((rd_T55 l1 x3_2).f0) ((rd_T55 l1 x3_2).f1) ((rd_T55 l1 x3_2).f2) ((rd_T55 l1 x3_2).f3) t16 t17 t18 t19 t20 t21 t22 t23 t24 t25 t26 t27 t28 t29 t30 _ ?side1 ?side2 ?side3 ?side4 ?side5 ?side6 A2.out).mono ?_
       (case side1=>exact uC (Kd.R_reads' HO_2.out).2.2)
       (case side2=>exact(Kd.R_reads' HO_2.out).2.1)
       (case side3=>exact uC (Kd.Q_reads' HO_3.out).2.2)
       (case side4=>exact(Kd.Q_reads' HO_3.out).2.1)
       (case side5=>exact uC (Kd.R_reads' HO_4.out).2.2)
       (case side6=>exact(Kd.R_reads' HO_4.out).2.1)
       rintro e w9 ⟨v5,v6,v9,rfl,ho1,ho2,ho3,hb⟩
       refine⟨_,rfl,?_⟩
       have HO5:=C (Kd.R_lower (Kd.R_new' ho1 (Kd.R_lt (uR HO_2.out))) (below_size uB))
       have HO6:=C (Kd.Q_lower (Kd.Q_new' (Kd.Q_new' (Kd.Q_new' ho2 (Kd.R_lt (uR HO_1.out))) (Kd.Q_lt (uQ HO_3.out))) (Kd.R_lt (uR HO_4.out))) (below_size uB))
       have HO7:=C (Kd.R_lower (Kd.R_new' (Kd.R_new' (Kd.R_new' ho3 (Kd.R_lt (uR HO_1.out))) (Kd.Q_lt (uQ HO_3.out))) (Kd.R_lt (uR HO_4.out))) (below_size uB))
       replace HO_1:=C (X (Kd.R_told (Kd.R_told (Kd.R_old (uR HO_1.out) hb) (Kd.Q_base ho2)) (Kd.R_base ho3)) (fun _ h_=>h_.1))
       replace HO_2:=C (Kd.R_elder' (uR HO_2.out) (Kd.R_base ho1) hb)
       replace HO_3:=C (Kd.Q_mono (Kd.Q_told (Kd.Q_told (Kd.Q_old (uQ HO_3.out) hb) (Kd.Q_base ho2)) (Kd.R_base ho3)) (fun _ h_=>h_.1))
       replace HO_4:=C (X (Kd.R_told (Kd.R_told (Kd.R_old (uR HO_4.out) hb) (Kd.Q_base ho2)) (Kd.R_base ho3)) (fun _ h_=>h_.1))
       replace BK1:=eK BK1 hb
       replace BK2:=eK BK2 hb
       replace BK3:=eK BK3 hb
       replace BK4:=eK BK4 hb
       replace HB:=eB hb
       (try clear hb)
       refine hK.out _ _ ⟨(blk_cell BK3.out 0).trans rfl,(blk_cell BK3.out 1).trans rfl,(blk_cell BK3.out 2).trans rfl,(blk_cell BK3.out 3).trans rfl,(blk_cell BK3.out 4).trans rfl,(blk_cell BK3.out 5).trans rfl,(blk_cell BK3.out 6).trans rfl,(blk_cell BK3.out 7).trans rfl,(blk_cell BK3.out 8).trans rfl,(blk_cell BK3.out 9).trans rfl,(blk_cell BK3.out 10).trans rfl,(blk_cell BK3.out 11).trans rfl,(blk_cell BK3.out 12).trans rfl,(blk_cell BK3.out 13).trans rfl,((HB.out.cell (E w _ hw1_0)).trans hw1_0),((HB.out.cell (E w _ hw1_1)).trans hw1_1),((HB.out.cell (E w _ hw1_2)).trans hw1_2),((HB.out.cell (E w _ hw1_3)).trans hw1_3)⟩ (fun hHeld=> ?_)
       clear hK K
       refine nu (N:=(some 36)) ?_
       refine pu 6 (some 30) ?_
       refine pu 7 (some 37) ?_
       refine pu 8 (some 38) ?_
       exact norm_ (by simp only[putAll,Act.put,List.setIfInBounds_toArray,List.set_cons_zero,List.set_cons_succ]) (hCont (v5,v6,v9,gb4) _ ⟨hHeld,(X (fR HO5.out) (fun _ hk=>hk.2)),(Kd.Q_mono (fQ HO6.out) pj),(X (fR HO7.out) pj),(X (fR HO_1.out) pj),(X (fR HO_2.out) (fun _ hk=>hk.2)),(Kd.Q_mono (fQ HO_3.out) pj),(X (fR HO_4.out) pj),(uK BK1.out),(uK BK2.out),(uK BK3.out),(uK BK4.out),GW4.out,GE4.out,n6.out,n7.out,n8.out,n9.out,n10.out,n11.out,uB⟩)
     rintro⟨v5,v6,v9,gb4⟩ w8 ⟨hS_,h1_,h2_,h3_,h4_,h5_,h6_,h7_,h8_,h9_,h10_,h11_,h12_,h13_,h14_,h15_,h16_,h17_,h18_,h19_,h20_⟩
     have n0_:D (Kd.R k26 26 w8 w.heap.size (fun k_=>qn k_ Ao4 x4_2.length co4) v5 t16):=⟨h1_⟩
     have n1_:D (Kd.Q (Kd.int .i64) 3 w8 w.heap.size (fun k_=>qm k_ v9∧qm k_ u7∧qn k_ Ao5 x13_2.length co5∧qn k_ Ao6 x14_2.length co6) v6 t25):=⟨h2_⟩
     have n2_:D (Kd.R (Kd.int .i64) 3 w8 w.heap.size (fun k_=>qm k_ v6∧qm k_ u7∧qn k_ Ao5 x13_2.length co5∧qn k_ Ao6 x14_2.length co6) v9 t26):=⟨h3_⟩
     have n3_:D (Kd.R (Kd.int .i64) 3 w8 w.heap.size (fun k_=>qm k_ v6∧qm k_ v9∧qn k_ Ao5 x13_2.length co5∧qn k_ Ao6 x14_2.length co6) u7 x2_2):=⟨h4_⟩
     have n4_:D (Kd.R k26 26 w8 w.heap.size (fun k_=>qm k_ v5) (L Ao4 x4_2.length co4) x4_2):=⟨h5_⟩
     have n5_:D (Kd.Q (Kd.int .i64) 3 w8 w.heap.size (fun k_=>qm k_ v6∧qm k_ v9∧qm k_ u7∧qn k_ Ao6 x14_2.length co6) (L Ao5 x13_2.length co5) x13_2):=⟨h6_⟩
     have n6_:D (Kd.R (Kd.int .i64) 3 w8 w.heap.size (fun k_=>qm k_ v6∧qm k_ v9∧qm k_ u7∧qn k_ Ao5 x13_2.length co5) (L Ao6 x14_2.length co6) x14_2):=⟨h7_⟩
     have n7_:D (w8.heap[gb1]? =some (.cells #[L A0_0 l0_0.length c0_0,V I a0_1,V I a0_2,V I a0_3,O a0_4,V I a0_5,O a0_6,V I a0_7,V I a0_8,L A0_9 l0_9.length c0_9,L A0_10 l0_10.length c0_10,V I a0_11,O a0_12,V I a0_13] 31 (0,0))):=⟨h8_⟩
     have n8_:D (w8.heap[gb2]? =some (.cells #[L none 0 0,V I 0,V I 0,V I 0,O false,V I 0,O false,V I 0,V I 0,L none 0 0,L none 0 0,V I 0,O false,V I 0] 31 (0,0))):=⟨h9_⟩
     have n9_:D (w8.heap[gb3]? =some (.cells #[L Ao4 x4_2.length co4,V I x5_2,V I x6_2,V I x7_2,O x8_2,V I x9_2,O x10_2,V I x11_2,V I x12_2,L Ao5 x13_2.length co5,L Ao6 x14_2.length co6,V I x15_2,O x16_2,V I x17_2] 31 (0,0))):=⟨h10_⟩
     have n10_:D (w8.heap[gb4]? =some (.cells #[L none 0 0,V I 0,V I 0,V I 0,O false,V I 0,O false,V I 0,V I 0,L none 0 0,L none 0 0,V I 0,O false,V I 0] 31 (0,0))):=⟨h11_⟩
     have n11_:D (w.heap.size≤gb4):=⟨h12_⟩
     have n12_:D (w.heap.size≤gb4):=⟨h13_⟩
     have n13_:D (gb1≠gb4):=⟨h14_⟩
     have n14_:D (gb4≠gb1):=⟨h15_⟩
     have n15_:D (gb2≠gb4):=⟨h16_⟩
     have n16_:D (gb4≠gb2):=⟨h17_⟩
     have n17_:D (gb3≠gb4):=⟨h18_⟩
     have n18_:D (gb4≠gb3):=⟨h19_⟩
     have n19_:D (Below w.heap.size w w8):=⟨h20_⟩
     clear HO_1
     clear HO_2
     clear HO_3
     clear HO_4
     clear BK1
     clear BK2
     clear BK3
     clear HB
     clear h1_ h2_ h3_ h4_ h5_ h6_ h7_ h8_ h9_ h10_ h11_ h12_ h13_ h14_ h15_ h16_ h17_ h18_ h19_ h20_
     have HO5:=n0_
     have HO6:=n1_
     have HO7:=n2_
     have HO_1:=n3_
     have HO_2:=n4_
     have HO_3:=n5_
     have HO_4:=n6_
     have BK1:=n7_
     have BK2:=n8_
     have BK3:=n9_
     have BK4:=n10_
     have GW4:=n11_
     have GE4:=n12_
     have n6:=n13_
     have n7:=n14_
     have n8:=n15_
     have n9:=n16_
     have n10:=n17_
     have n11:=n18_
     have HB:=n19_
     clear n0_ n1_ n2_ n3_ n4_ n5_ n6_ n7_ n8_ n9_ n10_ n11_ n12_ n13_ n14_ n15_ n16_ n17_ n18_ n19_
     have hHeld:w8.cell? ⟨gb3,0,none⟩=some (L Ao4 x4_2.length co4)∧w8.cell? ⟨gb3,1,none⟩=some (V I x5_2)∧w8.cell? ⟨gb3,2,none⟩=some (V I x6_2)∧w8.cell? ⟨gb3,3,none⟩=some (V I x7_2)∧w8.cell? ⟨gb3,4,none⟩=some (O x8_2)∧w8.cell? ⟨gb3,5,none⟩=some (V I x9_2)∧w8.cell? ⟨gb3,6,none⟩=some (O x10_2)∧w8.cell? ⟨gb3,7,none⟩=some (V I x11_2)∧w8.cell? ⟨gb3,8,none⟩=some (V I x12_2)∧w8.cell? ⟨gb3,9,none⟩=some (L Ao5 x13_2.length co5)∧w8.cell? ⟨gb3,10,none⟩=some (L Ao6 x14_2.length co6)∧w8.cell? ⟨gb3,11,none⟩=some (V I x15_2)∧w8.cell? ⟨gb3,12,none⟩=some (O x16_2)∧w8.cell? ⟨gb3,13,none⟩=some (V I x17_2)∧w8.cell? (ad1.add ((x3_2).toNat * 4))=some (V I ((rd_T55 l1 x3_2).f0))∧w8.cell? ⟨(ad1.add ((x3_2).toNat * 4)).block,(ad1.add ((x3_2).toNat * 4)).off+1,none⟩=some (V I ((rd_T55 l1 x3_2).f1))∧w8.cell? ⟨(ad1.add ((x3_2).toNat * 4)).block,(ad1.add ((x3_2).toNat * 4)).off+2,none⟩=some (V I ((rd_T55 l1 x3_2).f2))∧w8.cell? ⟨(ad1.add ((x3_2).toNat * 4)).block,(ad1.add ((x3_2).toNat * 4)).off+3,none⟩=some (V I ((rd_T55 l1 x3_2).f3)):=hS_
     obtain⟨Ao7,co7,eo7⟩:=Kd.R_slice HO5.out
     (first|subst eo7|(injection eo7 with f1_ f2_ f3_;have f4_:=f1_.symm;have f5_:=f3_.symm;clear f1_ f2_ f3_;subst f4_;subst f5_))
     obtain⟨Ao8,co8,eo8,_⟩:=Kd.Q_slice HO6.out
     (first|subst eo8|(injection eo8 with f1_ f2_ f3_;have f4_:=f1_.symm;have f5_:=f3_.symm;clear f1_ f2_ f3_;subst f4_;subst f5_))
     obtain⟨Ao9,co9,eo9⟩:=Kd.R_slice HO7.out
     (first|subst eo9|(injection eo9 with f1_ f2_ f3_;have f4_:=f1_.symm;have f5_:=f3_.symm;clear f1_ f2_ f3_;subst f4_;subst f5_))
     refine norm_ (a':= ?_) ?_ ?_
     rotate_left
     ·simp only[putAll,Act.put,List.setIfInBounds_toArray,List.set_cons_zero,List.set_cons_succ]
      rfl
     refine ou 10 (none) (fun K hK=> ?_)
     obtain⟨hs1,hs2,hs3,hs4,hs5,hs6,hs7,hs8,hs9,hs10,hs11,hs12,hs13,hs14,hfs1,hfs2,hfs3,hfs4,hfs5,hfs6,hfs7,hfs8,hfs9,hfs10,hfs11,hfs12,hfs13,hfs14⟩:=d14 BK4.out
     have hns1_0:=n6.out
     have hns1_1:=n8.out
     have hns1_2:=n10.out
     have hms1_0:=n7.out
     have hms1_1:=n9.out
     have hms1_2:=n11.out
     refine skip_ (w1:= ?_) (by rfl) rfl ?_ ?_
     rotate_left
     ·go_simp
      rfl
     refine hK.out _ _ ⟨(cf14 n10.out (hHeld.1)),(cf14 n10.out (hHeld.2.1)),(cf14 n10.out (hHeld.2.2.1)),(cf14 n10.out (hHeld.2.2.2.1)),(cf14 n10.out (hHeld.2.2.2.2.1)),(cf14 n10.out (hHeld.2.2.2.2.2.1)),(cf14 n10.out (hHeld.2.2.2.2.2.2.1)),(cf14 n10.out (hHeld.2.2.2.2.2.2.2.1)),(cf14 n10.out (hHeld.2.2.2.2.2.2.2.2.1)),(cf14 n10.out (hHeld.2.2.2.2.2.2.2.2.2.1)),(cf14 n10.out (hHeld.2.2.2.2.2.2.2.2.2.2.1)),(cf14 n10.out (hHeld.2.2.2.2.2.2.2.2.2.2.2.1)),(cf14 n10.out (hHeld.2.2.2.2.2.2.2.2.2.2.2.2.1)),(cf14 n10.out (hHeld.2.2.2.2.2.2.2.2.2.2.2.2.2.1)),(cf14 (nl hw1_0 GW4) (hHeld.2.2.2.2.2.2.2.2.2.2.2.2.2.2.1)),(cf14 (nl hw1_1 GW4) (hHeld.2.2.2.2.2.2.2.2.2.2.2.2.2.2.2.1)),(cf14 (nl hw1_2 GW4) (hHeld.2.2.2.2.2.2.2.2.2.2.2.2.2.2.2.2.1)),(cf14 (nl hw1_3 GW4) (hHeld.2.2.2.2.2.2.2.2.2.2.2.2.2.2.2.2.2))⟩ (fun hHeld=> ?_)
     clear hK K
     refine pu 11 (some 10) ?_
     refine done_ (done_of HT_.out (by kernel_rfl)) ?_
     have:=n7.out
     have:=n6.out
     have:=n9.out
     have:=n8.out
     have:=n11.out
     have:=n10.out
     have h_:=d14 BK4.out;(repeat(obtain⟨_,h_⟩:=h_))
     have:=n3.out
     have:=n2.out
     have:=n5.out
     have:=n4.out
     have h_:=d14 BK3.out;(repeat(obtain⟨_,h_⟩:=h_))
     try go_wp2_with (first|((with_reducible refine gate_builtin (b:=.append) (xs:= #[.tmp 40,.tmp 42]) rfl ?_);(try(refine gate_guard (by rfl) ?_;dsimp only));at_builtin;refine Kd.R_append (Kd.int .i64) (w0:=w) w.heap.size rfl (.tmp 40) (.tmp 42) 27 3 (V I 0) 8 rfl underlying27 info3 rfl (by decide) (by omega) u7 x2_2 t30 [V I t30] (fun k_=>qn k_ Ao5 x13_2.length co5∧qn k_ Ao6 x14_2.length co6∧qn k_ Ao8 t25.length co8∧qn k_ Ao9 t26.length co9) (fun _=>False) rfl (by first|(go_simp;done)|(go_simp;rfl)) ?aP (fun _ hk=>hk.elim) ?aF ?aO ?aB ?aS ?aL ?_;(case aP=>exact rfl);(case aB=>exact uB);(case aF=>exact(fun k_ hk=>⟨Kd.fresh' (Kd.Q_lt (Kd.Q_mono (Kd.Q_mono (fQ (Kd.Q_types (Kd.Q_types HO_3.out BK4.out (by decide)) BK3.out (by decide))) (fun _ h_=>h_.1)) (fun _ h_=>h_.1))) k_ hk,Kd.fresh' (Kd.R_lt (X (X (fR (Y (Y HO_4.out BK4.out (by decide)) BK3.out (by decide))) (fun _ h_=>h_.1)) (fun _ h_=>h_.1))) k_ hk,Kd.fresh' (Kd.Q_lt (Kd.Q_mono (Kd.Q_mono (fQ (Kd.Q_types (Kd.Q_types HO6.out BK4.out (by decide)) BK3.out (by decide))) (fun _ h_=>h_.1)) (fun _ h_=>h_.1))) k_ hk,Kd.fresh' (Kd.R_lt (X (X (fR (Y (Y HO7.out BK4.out (by decide)) BK3.out (by decide))) (fun _ h_=>h_.1)) (fun _ h_=>h_.1))) k_ hk⟩));(case aO=>exact(X (fR (Y (Y HO_1.out BK4.out (by decide)) BK3.out (by decide))) pj));(case aS=>exact(below_size uB));(case aL=>have:=LMc1.out;omega);intro v10 w9 ho hb hg hat;rw[←Ny2.out]at ho;have HO8:=C (ho);replace HO_2:=C (Kd.R_over' (X (X (fR (Y (Y HO_2.out BK4.out (by decide)) BK3.out (by decide))) (fun _ h_=>h_.1)) (fun _ h_=>h_.1)) (Kd.R_typed (X (X (fR (Y (Y HO_1.out BK4.out (by decide)) BK3.out (by decide))) (fun _ h_=>h_.1)) (fun _ h_=>h_.1))) (by decide) hg);replace HO_3:=C (Kd.Q_after (ok:=(fun k_=>qn k_ Ao6 x14_2.length co6∧qn k_ Ao8 t25.length co8∧qn k_ Ao9 t26.length co9)) (Kd.Q_mono (fQ (Kd.Q_types (Kd.Q_types HO_3.out BK4.out (by decide)) BK3.out (by decide))) (fun _ hk=>⟨⟨hk.1.1.2.2.2,⟨hk.1.1.1,hk.1.1.2.1⟩⟩,hk.1.1.2.2.1⟩)) hg hat);replace HO_4:=C (Kd.R_after (ok:=(fun k_=>qn k_ Ao5 x13_2.length co5∧qn k_ Ao8 t25.length co8∧qn k_ Ao9 t26.length co9)) (X (fR (Y (Y HO_4.out BK4.out (by decide)) BK3.out (by decide))) (fun _ hk=>⟨⟨hk.1.1.2.2.2,⟨hk.1.1.1,hk.1.1.2.1⟩⟩,hk.1.1.2.2.1⟩)) hg hat);replace BK1:=gK BK1 hg (Kd.R_ne HO_1.out BK1.out (by decide));replace BK2:=gK BK2 hg (Kd.R_ne HO_1.out BK2.out (by decide));replace HO5:=C (Kd.R_over' (X (X (fR (Y (Y HO5.out BK4.out (by decide)) BK3.out (by decide))) (fun _ h_=>h_.1)) (fun _ h_=>h_.1)) (Kd.R_typed (X (X (fR (Y (Y HO_1.out BK4.out (by decide)) BK3.out (by decide))) (fun _ h_=>h_.1)) (fun _ h_=>h_.1))) (by decide) hg);replace HO6:=C (Kd.Q_after (ok:=(fun k_=>qn k_ Ao5 x13_2.length co5∧qn k_ Ao6 x14_2.length co6∧qn k_ Ao9 t26.length co9)) (Kd.Q_mono (fQ (Kd.Q_types (Kd.Q_types HO6.out BK4.out (by decide)) BK3.out (by decide))) (fun _ hk=>⟨⟨hk.1.1.2.2.1,⟨hk.1.1.2.2.2,hk.1.1.1⟩⟩,hk.1.1.2.1⟩)) hg hat);replace HO7:=C (Kd.R_after (ok:=(fun k_=>qn k_ Ao5 x13_2.length co5∧qn k_ Ao6 x14_2.length co6∧qn k_ Ao8 t25.length co8)) (X (fR (Y (Y HO7.out BK4.out (by decide)) BK3.out (by decide))) (fun _ hk=>⟨⟨hk.1.1.2.2.1,⟨hk.1.1.2.2.2,hk.1.1.1⟩⟩,hk.1.1.2.1⟩)) hg hat);replace BK3:=C (blk_grown (g:=gb3) (o:=.cells #[L Ao7 t16.length co7,V I t17,V I t18,V I t19,O t20,V I t21,O t22,V I t23,V I t24,L Ao8 t25.length co8,L Ao9 t26.length co9,V I t27,O t28,V I t29] 31 (0,0)) (bK BK3.out) hg (Kd.R_ne HO_1.out BK3.out (by decide)));replace BK4:=C (blk_grown (g:=gb4) (o:=.cells #[L Ao7 t16.length co7,V I t17,V I t18,V I t19,O t20,V I t21,O t22,V I t23,V I t24,L Ao8 t25.length co8,L Ao9 t26.length co9,V I t27,O t28,V I t29] 31 (0,0)) (bK BK4.out) hg (Kd.R_ne HO_1.out BK4.out (by decide)));replace HB:=C (hb);clear HO_1;clear ho hb hg hat))
     go_roundg k2
     case measure=>have:=HJ1.out;have:=HK1.out;omega
     case rel=>exact⟨(y2),(wrap64 (x3_2+1)),(t16),(t17),(t18),(t19),(t20),(t21),(t22),(t23),(t24),(t25),(t26),(t27),(t28),(t29),(L Ao7 t16.length co7),(L Ao8 t25.length co8),(L Ao9 t26.length co9),rS,H',⟨by have:=HJ1.out;have:=HK1.out;omega⟩,⟨X (fR HO8.out) pj⟩,⟨X (fR HO5.out) (fun _ hk=>trivial)⟩,⟨Kd.Q_mono (fQ HO6.out) pj⟩,⟨X (fR HO7.out) pj⟩,⟨bK BK1.out⟩,⟨bK BK2.out⟩,⟨bK BK3.out⟩,⟨uB⟩⟩
def spec_FormatMachine.f (k:Nat) (l0_0:List (S26)) (a0_1:Int) (a0_2:Int) (a0_3:Int) (a0_4:Bool) (a0_5:Int) (a0_6:Bool) (a0_7:Int) (a0_8:Int) (l0_9:List Int) (l0_10:List Int) (a0_11:Int) (a0_12:Bool) (a0_13:Int):Option (List ByteArray):=(spec_MachineOk.f k l0_0 a0_1 a0_2 a0_3 a0_4 a0_5 a0_6 a0_7 a0_8 l0_9 l0_10 a0_11 a0_12 a0_13).bind fun t979=>(if t979=true then((spec_FormatInt.f k (l0_0.length:Int)).bind fun t983=>(if 5+t983.size≤9223372036854775807 then((spec_FormatInt.f k a0_1).bind fun t984=>(if 4+t984.size≤9223372036854775807 then((spec_FormatInt.f k (l0_10.length:Int)).bind fun t985=>(if 4+t985.size≤9223372036854775807 then((spec_FormatInt.f k a0_11).bind fun t986=>(if 7+t986.size≤9223372036854775807 then((spec_FormatInt.f k (wrap64 (a0_13+(l0_10.length:Int)))).bind fun t987=>(if 8+t987.size≤9223372036854775807 then(some (([(⟨#[106,111,98,115,32]⟩:ByteArray)++t983,(⟨#[110,111,119,32]⟩:ByteArray)++t984,(⟨#[111,117,116,32]⟩:ByteArray)++t985,(⟨#[119,97,115,116,101,100,32]⟩:ByteArray)++t986,(⟨#[112,114,105,110,116,101,100,32]⟩:ByteArray)++t987]:List ByteArray))) else(none))) else(none))) else(none))) else(none))) else(none))) else(some (([]:List ByteArray))))
def spec_FormatMachine.T3:Bool×List (List Nat×List Nat):=(true,[([],[]),([0],[0]),([1],[1]),([2],[2]),([3],[3]),([],[]),([5],[5]),([6],[6]),([7,3],[7]),([8],[8]),([],[]),([10],[10]),([11],[11]),([12],[12]),([13,8],[13]),([14],[14]),([],[]),([16],[16]),([17],[17]),([18,14],[18]),([19],[19]),([],[]),([21],[21]),([],[]),([23],[23]),([24],[24]),([25],[25]),([22,26],[22,26]),([27,19],[27]),([28],[28]),([4,9,15,20,29],[4,9,15,20,29]),([30,28,0,1,2,3,4,5,6,7,8,9,10,11,12,13,14,15,16,17,18,19,20,21,22,23,24,25,26,27,28,29,30],[30])])
def spec_FormatMachine.B3:List Nat:= [0,1,3,7,15,0,32,96,239,495,0,1024,3072,7168,15855,32239,0,65536,196608,490991,1015279,0,2097152,0,8388608,25165824,58720256,132120576,267353583,535789039,1073741823,2147483647]
theorem spec_FormatMachine.tab3:rtab .any (opsOf Tryz.f34 3)=spec_FormatMachine.T3:=by kernel_rfl
theorem spec_FormatMachine.bits3:waitsOk spec_FormatMachine.T3.2 spec_FormatMachine.B3=true:=by kernel_rfl
theorem spec_FormatMachine.calls (k:Nat) (A0_0:Option Addr) (c0_0:Nat) (l0_0:List (S26)) (a0_1:Int) (a0_2:Int) (a0_3:Int) (a0_4:Bool) (a0_5:Int) (a0_6:Bool) (a0_7:Int) (a0_8:Int) (A0_9:Option Addr) (c0_9:Nat) (l0_9:List Int) (A0_10:Option Addr) (c0_10:Nat) (l0_10:List Int) (a0_11:Int) (a0_12:Bool) (a0_13:Int) (r:List ByteArray) (w:World) (hr0_0:Kd.C k26 w A0_0 l0_0.length l0_0) (hc0_0:l0_0.length≤c0_0) (hr0_9:Kd.C (Kd.int .i64) w A0_9 l0_9.length l0_9) (hc0_9:l0_9.length≤c0_9) (hr0_10:Kd.C (Kd.int .i64) w A0_10 l0_10.length l0_10) (hc0_10:l0_10.length≤c0_10) (h:spec_FormatMachine.f k l0_0 a0_1 a0_2 a0_3 a0_4 a0_5 a0_6 a0_7 a0_8 l0_9 l0_10 a0_11 a0_12 a0_13=some r):
 Calls prog 34 #[G #[L A0_0 l0_0.length c0_0,V I a0_1,V I a0_2,V I a0_3,O a0_4,V I a0_5,O a0_6,V I a0_7,V I a0_8,L A0_9 l0_9.length c0_9,L A0_10 l0_10.length c0_10,V I a0_11,O a0_12,V I a0_13]] w fun e w'=>∃v0_:Value,e=.returned (v0_)∧Kd.R Kd.string 9 w' w.heap.size (fun _=>True) v0_ r∧Below w.heap.size w w':=by
 have hu1:=underlying31
 have HR1_0:=C hr0_0
 have HC1_0:=C hc0_0
 (try clear hr0_0);(try clear hc0_0)
 have HR1_9:=C hr0_9
 have HC1_9:=C hc0_9
 (try clear hr0_9);(try clear hc0_9)
 have HR1_10:=C hr0_10
 have HC1_10:=C hc0_10
 (try clear hr0_10);(try clear hc0_10)
 have HB:=C (Below.refl w.heap.size w)
 have H:=h
 unfold spec_FormatMachine.f at H
 clear h
 obtain⟨t1,A1,H⟩:=bnd H
 by_cases c1:t1=true
 rotate_left
 ·obtain rfl:=nt c1
  replace H:=nf H
  obtain⟨y1,hy1⟩:∃y_:List ByteArray,y_=(([]:List ByteArray)):=⟨_,rfl⟩
  replace H:(some y1)=some r:=gy hy1 H
  have Ny1:=C hy1
  clear hy1
  obtain rfl:=si H
  go_enter func34,ntmps34
  go_wp2_with (first|((with_reducible refine gate_dst (N:=1) rfl ?_);refine Fix.be 1 #[L A0_0 l0_0.length c0_0,V I a0_1,V I a0_2,V I a0_3,O a0_4,V I a0_5,O a0_6,V I a0_7,V I a0_8,L A0_9 l0_9.length c0_9,L A0_10 l0_10.length c0_10,V I a0_11,O a0_12,V I a0_13] 31 ?_;intro gb1 hg w1 BK1 hb;have GW1:=gE (w:=w) hg;have GE1:=GW1;replace HB:=eB hb;clear hb hg;have h_:=d14 BK1.out;(repeat(obtain⟨_,h_⟩:=h_)))|((with_reducible refine gate_callee (f:=64) rfl ?_);refine gl 64 (some 4) func64 #[G #[L A0_0 l0_0.length c0_0,V I a0_1,V I a0_2,V I a0_3,O a0_4,V I a0_5,O a0_6,V I a0_7,V I a0_8,L A0_9 l0_9.length c0_9,L A0_10 l0_10.length c0_10,V I a0_11,O a0_12,V I a0_13]] ?_;(with_reducible refine(spec_MachineOk.calls k _ _ l0_0 a0_1 a0_2 a0_3 a0_4 a0_5 a0_6 a0_7 a0_8 _ _ l0_9 _ _ l0_10 a0_11 a0_12 a0_13 false _ ?side1 HC1_0.out ?side3 HC1_9.out ?side5 HC1_10.out A1.out).mono ?_);(case side1=>exact uZ HR1_0);(case side3=>exact uZ HR1_9);(case side5=>exact uZ HR1_10);rintro e w2 ⟨rfl,hb⟩;refine⟨_,rfl,?_⟩;replace BK1:=eK BK1 hb;replace HB:=eB hb;clear hb)|((with_reducible refine gate_dst (N:=6) rfl ?_);refine Kd.R_lit Kd.string _ 9 ?hg (N:=6) ?hd (xs:=([]:List ByteArray)) (inner:= []) (ok:=fun _=>True) (okp:=fun _=>True) ?hr ?hp (fun _ hk=>hk) trivial (Below.refl _ _) (Nat.le_refl _) (by simp) ?_;(case hd=>rfl);(case hg=>rfl);(case hr=>exact Fix.hr);(case hp=>exact(Reps.none _ _));intro v1 w3 ho1 hb hg_ hnew_;clear hg_ hnew_;(first|rw[←Ny1.out]at ho1|(simp only[Int.reduceToNat]at ho1;rw[←Ny1.out]at ho1));have HO1:=lR ho1;replace BK1:=eK BK1 hb;replace HB:=eB hb;clear hb ho1))
  go_ret
  exact⟨_,rE,fR HO1.out,uB⟩
 subst c1
 rw[if_pos rfl]at H
 obtain⟨t2,A2,H⟩:=bnd H
 obtain⟨c2,H⟩:=np H
 have c2b0:=eq_true c2
 have c2b1:decide (5+t2.size≤9223372036854775807)=true:=decide_eq_true c2
 try have c2b2:(9223372036854775807<5+t2.size)=False:=eq_false (Nat.not_lt.2 c2)
 try(have h1_:=c2;simp only[ByteArray.size_append,Ito.bsz,List.size_toArray,List.length_cons,List.length_nil]at h1_;have c2b3:=eq_false (Nat.not_lt.2 h1_);clear h1_)
 obtain⟨t3,A3,H⟩:=bnd H
 obtain⟨c3,H⟩:=np H
 have c3b0:=eq_true c3
 have c3b1:decide (4+t3.size≤9223372036854775807)=true:=decide_eq_true c3
 try have c3b2:(9223372036854775807<4+t3.size)=False:=eq_false (Nat.not_lt.2 c3)
 try(have h1_:=c3;simp only[ByteArray.size_append,Ito.bsz,List.size_toArray,List.length_cons,List.length_nil]at h1_;have c3b3:=eq_false (Nat.not_lt.2 h1_);clear h1_)
 obtain⟨t4,A4,H⟩:=bnd H
 obtain⟨c4,H⟩:=np H
 have c4b0:=eq_true c4
 have c4b1:decide (4+t4.size≤9223372036854775807)=true:=decide_eq_true c4
 try have c4b2:(9223372036854775807<4+t4.size)=False:=eq_false (Nat.not_lt.2 c4)
 try(have h1_:=c4;simp only[ByteArray.size_append,Ito.bsz,List.size_toArray,List.length_cons,List.length_nil]at h1_;have c4b3:=eq_false (Nat.not_lt.2 h1_);clear h1_)
 obtain⟨t5,A5,H⟩:=bnd H
 obtain⟨c5,H⟩:=np H
 have c5b0:=eq_true c5
 have c5b1:decide (7+t5.size≤9223372036854775807)=true:=decide_eq_true c5
 try have c5b2:(9223372036854775807<7+t5.size)=False:=eq_false (Nat.not_lt.2 c5)
 try(have h1_:=c5;simp only[ByteArray.size_append,Ito.bsz,List.size_toArray,List.length_cons,List.length_nil]at h1_;have c5b3:=eq_false (Nat.not_lt.2 h1_);clear h1_)
 obtain⟨t6,A6,H⟩:=bnd H
 obtain⟨c6,H⟩:=np H
 have c6b0:=eq_true c6
 have c6b1:decide (8+t6.size≤9223372036854775807)=true:=decide_eq_true c6
 try have c6b2:(9223372036854775807<8+t6.size)=False:=eq_false (Nat.not_lt.2 c6)
 try(have h1_:=c6;simp only[ByteArray.size_append,Ito.bsz,List.size_toArray,List.length_cons,List.length_nil]at h1_;have c6b3:=eq_false (Nat.not_lt.2 h1_);clear h1_)
 obtain⟨y1,hy1⟩:∃y_:List ByteArray,y_=(([(⟨#[106,111,98,115,32]⟩:ByteArray)++t2,(⟨#[110,111,119,32]⟩:ByteArray)++t3,(⟨#[111,117,116,32]⟩:ByteArray)++t4,(⟨#[119,97,115,116,101,100,32]⟩:ByteArray)++t5,(⟨#[112,114,105,110,116,101,100,32]⟩:ByteArray)++t6]:List ByteArray)):=⟨_,rfl⟩
 replace H:(some y1)=some r:=gy hy1 H
 have Ny1:=C hy1
 clear hy1
 obtain rfl:=si H
 go_enter func34,ntmps34
 try go_wp2_with (first|((with_reducible refine gate_dst (N:=1) rfl ?_);refine Fix.be 1 #[L A0_0 l0_0.length c0_0,V I a0_1,V I a0_2,V I a0_3,O a0_4,V I a0_5,O a0_6,V I a0_7,V I a0_8,L A0_9 l0_9.length c0_9,L A0_10 l0_10.length c0_10,V I a0_11,O a0_12,V I a0_13] 31 ?_;intro gb1 hg w1 BK1 hb;have GW1:=gE (w:=w) hg;have GE1:=GW1;replace HB:=eB hb;clear hb hg;have h_:=d14 BK1.out;(repeat(obtain⟨_,h_⟩:=h_)))|((with_reducible refine gate_callee (f:=64) rfl ?_);refine gl 64 (some 4) func64 #[G #[L A0_0 l0_0.length c0_0,V I a0_1,V I a0_2,V I a0_3,O a0_4,V I a0_5,O a0_6,V I a0_7,V I a0_8,L A0_9 l0_9.length c0_9,L A0_10 l0_10.length c0_10,V I a0_11,O a0_12,V I a0_13]] ?_;(with_reducible refine(spec_MachineOk.calls k _ _ l0_0 a0_1 a0_2 a0_3 a0_4 a0_5 a0_6 a0_7 a0_8 _ _ l0_9 _ _ l0_10 a0_11 a0_12 a0_13 true _ ?side1 HC1_0.out ?side3 HC1_9.out ?side5 HC1_10.out A1.out).mono ?_);(case side1=>exact uZ HR1_0);(case side3=>exact uZ HR1_9);(case side5=>exact uZ HR1_10);rintro e w2 ⟨rfl,hb⟩;refine⟨_,rfl,?_⟩;replace BK1:=eK BK1 hb;replace HB:=eB hb;clear hb))
 replace BK1:=dK BK1
 replace HB:=dB HB
 refine start_ (n:=32) (S:=fun w'=>cl14 w' gb1 (L A0_0 l0_0.length c0_0) (V I a0_1) (V I a0_2) (V I a0_3) (O a0_4) (V I a0_5) (O a0_6) (V I a0_7) (V I a0_8) (L A0_9 l0_9.length c0_9) (L A0_10 l0_10.length c0_10) (V I a0_11) (O a0_12) (V I a0_13)) (ds:= []) #[false,false,false,false,false,false,false,false,false,false,false,false,false,false,false,false,false,false,false,false,false,false,false,false,false,false,false,false,false,false,false,false] (by kernel_rfl) rfl rfl hh (fun hHeld=> ?_);refine with_tabW spec_FormatMachine.tab3 spec_FormatMachine.bits3 (fun HT_ HW_=> ?_)
 generalize w2.drew=w3 at BK1 HB hHeld ⊢
 refine pu 0 (some 7) ?_
 refine pu 5 (some 12) ?_
 refine pu 6 (some 13) ?_
 refine pu 10 (some 17) ?_
 refine pu 11 (some 18) ?_
 refine pu 16 (some 23) ?_
 refine pu 17 (some 24) ?_
 refine pu 21 (some 28) ?_
 refine pu 23 (some 30) ?_
 refine pu 24 (some 31) ?_
 refine tu 1 (some 8) hHeld ?_
 refine pu 2 (some 9) ?_
 refine tu 7 (some 14) hHeld ?_
 refine tu 12 (some 19) hHeld ?_
 refine pu 13 (some 20) ?_
 refine tu 18 (some 25) hHeld ?_
 refine tu 22 (some 29) hHeld ?_
 refine tu 25 (some 32) hHeld ?_
 refine pu 26 (some 33) ?_
 refine pu 27 (some 34) ?_
 refine ou 3 (some 10) (fun K hK=> ?_)
 refine gs func33 #[V I (l0_0.length:Int)] ?_
 with_reducible refine(spec_FormatInt.calls k (l0_0.length:Int) t2 _ A2.out).mono ?_
 rintro e w4 ⟨rfl,hb⟩
 refine⟨_,rfl,?_⟩
 replace BK1:=eK BK1 hb
 replace HB:=eB hb
 (try clear hb)
 refine hK.out _ _ hh (fun hHeld=> ?_)
 clear hK K
 refine nu (N:=(some 10)) ?_
 refine pu 4 (some 11) ?_
 refine ou 8 (some 15) (fun K hK=> ?_)
 refine gs func33 #[V I a0_1] ?_
 with_reducible refine(spec_FormatInt.calls k a0_1 t3 _ A3.out).mono ?_
 rintro e w5 ⟨rfl,hb⟩
 refine⟨_,rfl,?_⟩
 replace BK1:=eK BK1 hb
 replace HB:=eB hb
 (try clear hb)
 refine hK.out _ _ hh (fun hHeld=> ?_)
 clear hK K
 refine nu (N:=(some 15)) ?_
 refine pu 9 (some 16) ?_
 refine ou 14 (some 21) (fun K hK=> ?_)
 refine gs func33 #[V I (l0_10.length:Int)] ?_
 with_reducible refine(spec_FormatInt.calls k (l0_10.length:Int) t4 _ A4.out).mono ?_
 rintro e w6 ⟨rfl,hb⟩
 refine⟨_,rfl,?_⟩
 replace BK1:=eK BK1 hb
 replace HB:=eB hb
 (try clear hb)
 refine hK.out _ _ hh (fun hHeld=> ?_)
 clear hK K
 refine nu (N:=(some 21)) ?_
 refine pu 15 (some 22) ?_
 refine ou 19 (some 26) (fun K hK=> ?_)
 refine gs func33 #[V I a0_11] ?_
 with_reducible refine(spec_FormatInt.calls k a0_11 t5 _ A5.out).mono ?_
 rintro e w7 ⟨rfl,hb⟩
 refine⟨_,rfl,?_⟩
 replace BK1:=eK BK1 hb
 replace HB:=eB hb
 (try clear hb)
 refine hK.out _ _ hh (fun hHeld=> ?_)
 clear hK K
 refine nu (N:=(some 26)) ?_
 refine pu 20 (some 27) ?_
 refine ou 28 (some 35) (fun K hK=> ?_)
 refine gs func33 #[V I (wrap64 (a0_13+(l0_10.length:Int)))] ?_
 with_reducible refine(spec_FormatInt.calls k (wrap64 (a0_13+(l0_10.length:Int))) t6 _ A6.out).mono ?_
 rintro e w8 ⟨rfl,hb⟩
 refine⟨_,rfl,?_⟩
 replace BK1:=eK BK1 hb
 replace HB:=eB hb
 (try clear hb)
 refine hK.out _ _ hh (fun hHeld=> ?_)
 clear hK K
 refine nu (N:=(some 35)) ?_
 refine pu 29 (some 36) ?_
 refine ou 30 (some 37) (fun K hK=> ?_)
 refine Kd.R_lit_step Kd.string _ 9 ?hg (N:=37) ?hd (xs:=([(⟨#[106,111,98,115,32]⟩:ByteArray)++t2,(⟨#[110,111,119,32]⟩:ByteArray)++t3,(⟨#[111,117,116,32]⟩:ByteArray)++t4,(⟨#[119,97,115,116,101,100,32]⟩:ByteArray)++t5,(⟨#[112,114,105,110,116,101,100,32]⟩:ByteArray)++t6]:List ByteArray)) (inner:= [.string ((⟨#[106,111,98,115,32]⟩:ByteArray)++t2),.string ((⟨#[110,111,119,32]⟩:ByteArray)++t3),.string ((⟨#[111,117,116,32]⟩:ByteArray)++t4),.string ((⟨#[119,97,115,116,101,100,32]⟩:ByteArray)++t5),.string ((⟨#[112,114,105,110,116,101,100,32]⟩:ByteArray)++t6)]) (ok:=fun _=>True) (okp:=fun _=>True) ?hr ?hp (fun _ hk=>hk) trivial (Below.refl _ _) (Nat.le_refl _) (by simp) ?_;(case hd=>rfl);(case hg=>rfl);(case hr=>exact Fix.hr);(case hp=>exact(Reps.one (show Kd.M Kd.string _ _ _ ((⟨#[106,111,98,115,32]⟩:ByteArray)++t2) [.string ((⟨#[106,111,98,115,32]⟩:ByteArray)++t2)] from rfl) (Reps.one (show Kd.M Kd.string _ _ _ ((⟨#[110,111,119,32]⟩:ByteArray)++t3) [.string ((⟨#[110,111,119,32]⟩:ByteArray)++t3)] from rfl) (Reps.one (show Kd.M Kd.string _ _ _ ((⟨#[111,117,116,32]⟩:ByteArray)++t4) [.string ((⟨#[111,117,116,32]⟩:ByteArray)++t4)] from rfl) (Reps.one (show Kd.M Kd.string _ _ _ ((⟨#[119,97,115,116,101,100,32]⟩:ByteArray)++t5) [.string ((⟨#[119,97,115,116,101,100,32]⟩:ByteArray)++t5)] from rfl) (Reps.one (show Kd.M Kd.string _ _ _ ((⟨#[112,114,105,110,116,101,100,32]⟩:ByteArray)++t6) [.string ((⟨#[112,114,105,110,116,101,100,32]⟩:ByteArray)++t6)] from rfl) (Reps.none _ _)))))))
 intro v1 w9 ho1 hb hg_ hnew_
 clear hg_ hnew_
 (first|rw[←Ny1.out]at ho1|(simp only[Int.reduceToNat]at ho1;rw[←Ny1.out]at ho1))
 have HO1:=lR ho1
 replace BK1:=eK BK1 hb
 replace HB:=eB hb
 clear hb ho1
 refine hK.out _ _ hh (fun hHeld=> ?_)
 clear hK K
 refine nu (N:=(some 37)) ?_
 refine pu 31 (some 2) ?_
 refine done_ (done_of HT_.out (by kernel_rfl)) ?_
 try go_wp2
 go_ret
 exact⟨_,rE,fR HO1.out,uB⟩
end Go.Proofs.YtgdnlmfoghpeoaaGreatDoor.PFnExactRunScript
