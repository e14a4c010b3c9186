/- Calls do what plain Lean functions say (FnExactRunActs). No condition. -/
import Derived.Test.YtblceimapaenlaaQFnExactRunActs0
import Derived.Test.YtblceimapaenlaaQFnExactRunActs3
import Derived.Test.YtblceimapaenlaaQFnExactRunActs4
import Derived.Test.YtblceimapaenlaaQFnExactRunActs8b
namespace Go.Proofs.Ytblceimapaenlaa.PFnExactRunActs
open Go.RowKit Go.Proofs.YtblceimapaenlaaW.PrintWords Go.Proofs.YtblceimapaenlaaW.PrintLast Go.Proofs.YtblceimapaenlaaW.PrintMore
open Try
open Fix (bK bnd d14 d4 d6 eB eK eQ eR fQ fR gE gK gl gy lR nG nL nf np nt oL oT pj qm qn rE rN rS si uB uC uK uP uQ uR uZ)
open Go.Value renaming int→V,slice→L,bool→O,agg→G
open Go.IntKind renaming i64→I
open Go.Proofs.YtblceimapaenlaaW.PrintWords.Aside0 renaming mk→C
open Go.Proofs.YtblceimapaenlaaW.PrintWords renaming Aside0→D,gate_callee→F,gate_dst→J
open Go.Proofs.YtblceimapaenlaaW.PrintWords.Kd renaming R_mono→X,R_types→Y,C_below→Z
attribute [local go_sem] max2_int min2_int max_two min_two max_three min_three max_four min_four
attribute [local go_sem] Fix.isSome_setCell
set_option linter.unusedVariables false
set_option maxHeartbeats 40000000
set_option maxRecDepth 100000
set_option linter.unusedSimpArgs false
mutual
def impl_RunActs.j0:Nat→List (S53)→Bool→List (S33)→Int→Int→Int→Bool→Int→Bool→Int→Int→List Int→List Int→Int→Bool→Int→Option ((List (S33))×Int×Int×Int×Bool×Int×Bool×Int×Int×List Int×List Int×Int×Bool×Int×List Int)
  |0,_,_,_,_,_,_,_,_,_,_,_,_,_,_,_,_=>none
  |k+1,x1,x21,x494000,x494001,x494002,x494003,x494004,x494005,x494006,x494007,x494008,x494009,x494010,x494011,x494012,x494013=>if x21=true then(some (x494000,x494001,x494002,x494003,x494004,x494005,x494006,x494007,x494008,x494009,x494010,x494011,x494012,x494013,([]:List Int))) else(impl_RunActs.l0 k ([]:List Int) x1 (x1.length:Int) 0 x494000 x494001 x494002 x494003 x494004 x494005 x494006 x494007 x494008 x494009 x494010 x494011 x494012 x494013)
def impl_RunActs.l0:Nat→List Int→List (S53)→Int→Int→List (S33)→Int→Int→Int→Bool→Int→Bool→Int→Int→List Int→List Int→Int→Bool→Int→Option ((List (S33))×Int×Int×Int×Bool×Int×Bool×Int×Int×List Int×List Int×Int×Bool×Int×List Int)
  |0,_,_,_,_,_,_,_,_,_,_,_,_,_,_,_,_,_,_=>none
  |k+1,x7,x23,x24,x25,x494000,x494001,x494002,x494003,x494004,x494005,x494006,x494007,x494008,x494009,x494010,x494011,x494012,x494013=>if x25<x24 then(if 0≤x25 then(if x25<(x23.length:Int) then((impl_DoAct.f k x494000 x494001 x494002 x494003 x494004 x494005 x494006 x494007 x494008 x494009 x494010 x494011 x494012 x494013 ((rd_T53 x23 x25).f0) ((rd_T53 x23 x25).f1) ((rd_T53 x23 x25).f2) ((rd_T53 x23 x25).f3)).bind fun bt497=>(if x7.length<17592186044416 then(impl_RunActs.l0 k (x7++ [bt497.2.2.2.2.2.2.2.2.2.2.2.2.2.2]) x23 x24 (wrap64 (x25+1)) bt497.1 bt497.2.1 bt497.2.2.1 bt497.2.2.2.1 bt497.2.2.2.2.1 bt497.2.2.2.2.2.1 bt497.2.2.2.2.2.2.1 bt497.2.2.2.2.2.2.2.1 bt497.2.2.2.2.2.2.2.2.1 bt497.2.2.2.2.2.2.2.2.2.1 bt497.2.2.2.2.2.2.2.2.2.2.1 bt497.2.2.2.2.2.2.2.2.2.2.2.1 bt497.2.2.2.2.2.2.2.2.2.2.2.2.1 bt497.2.2.2.2.2.2.2.2.2.2.2.2.2.1) else(none))) else(none)) else(none)) else(some (x494000,x494001,x494002,x494003,x494004,x494005,x494006,x494007,x494008,x494009,x494010,x494011,x494012,x494013,x7))
end
def impl_RunActs.f (k:Nat) (l0_0:List (S33)) (a0_1:Int) (a0_2:Int) (a0_3:Int) (a0_4:Bool) (a0_5:Int) (a0_6:Bool) (a0_7:Int) (a0_8:Int) (l0_9:List Int) (l0_10:List Int) (a0_11:Int) (a0_12:Bool) (a0_13:Int) (l1:List (S53)):Option ((List (S33))×Int×Int×Int×Bool×Int×Bool×Int×Int×List Int×List Int×Int×Bool×Int×List Int):=(impl_copyMachine.f l0_0 a0_1 a0_2 a0_3 a0_4 a0_5 a0_6 a0_7 a0_8 l0_9 l0_10 a0_11 a0_12 a0_13).bind fun bt473=>((impl_MachineOk.f k l0_0 a0_1 a0_2 a0_3 a0_4 a0_5 a0_6 a0_7 a0_8 l0_9 l0_10 a0_11 a0_12 a0_13).bind fun t494=>(if t494=true then(impl_RunActs.j0 k l1 (decide ((l1.length:Int) >40)) bt473.1 bt473.2.1 bt473.2.2.1 bt473.2.2.2.1 bt473.2.2.2.2.1 bt473.2.2.2.2.2.1 bt473.2.2.2.2.2.2.1 bt473.2.2.2.2.2.2.2.1 bt473.2.2.2.2.2.2.2.2.1 bt473.2.2.2.2.2.2.2.2.2.1 bt473.2.2.2.2.2.2.2.2.2.2.1 bt473.2.2.2.2.2.2.2.2.2.2.2.1 bt473.2.2.2.2.2.2.2.2.2.2.2.2.1 bt473.2.2.2.2.2.2.2.2.2.2.2.2.2) else(impl_RunActs.j0 k l1 true bt473.1 bt473.2.1 bt473.2.2.1 bt473.2.2.2.1 bt473.2.2.2.2.1 bt473.2.2.2.2.2.1 bt473.2.2.2.2.2.2.1 bt473.2.2.2.2.2.2.2.1 bt473.2.2.2.2.2.2.2.2.1 bt473.2.2.2.2.2.2.2.2.2.1 bt473.2.2.2.2.2.2.2.2.2.2.1 bt473.2.2.2.2.2.2.2.2.2.2.2.1 bt473.2.2.2.2.2.2.2.2.2.2.2.2.1 bt473.2.2.2.2.2.2.2.2.2.2.2.2.2)))
theorem impl_RunActs.W1 {p:Prop} (h:p:=by
    go_wp2
    first
      | (refine bodyPost_ret (results_ct rfl _ _ gb2 36 #[L Ao1 t1.length co1, V I t2, V I t3, V I t4, O t5, V I t6, O t7, V I t8, V I t9, L Ao2 t10.length co2, L Ao3 t11.length co3, V I t12, O t13, V I t14] (0, 0) _ rfl (bK BK2.out) underlying36 rfl (by kernel_rfl)) rfl ?_
         exact⟨_,_,_,_,rE,X (fR (Y HO_1.out BK2.out (by decide))) (fun _ hk=>trivial),Kd.Q_mono (fQ (Kd.Q_types HO_2.out BK2.out (by decide))) (fun _ hk=>⟨hk.1,(by simp[Value.ownBlock])⟩),X (fR (Y HO_3.out BK2.out (by decide))) (fun _ hk=>⟨hk.1,(by simp[Value.ownBlock])⟩),rN,uB⟩)
      | (refine bodyPost_ret (results_ct rfl _ _ gb2 36 #[L Ao4 x4_2.length co4, V I x5_2, V I x6_2, V I x7_2, O x8_2, V I x9_2, O x10_2, V I x11_2, V I x12_2, L Ao5 x13_2.length co5, L Ao6 x14_2.length co6, V I x15_2, O x16_2, V I x17_2] (0, 0) _ rfl (bK BK2.out) underlying36 rfl (by kernel_rfl)) rfl ?_
         exact⟨_,_,_,_,rE,X (fR (Y HO_1.out BK2.out (by decide))) (fun _ hk=>trivial),Kd.Q_mono (fQ (Kd.Q_types HO_2.out BK2.out (by decide))) pj,X (fR (Y HO_3.out BK2.out (by decide))) pj,X (fR (Y HO_4.out BK2.out (by decide))) pj,uB⟩)):p:=h
theorem impl_RunActs.calls (k:Nat) (A0_0:Option Addr) (c0_0:Nat) (l0_0:List (S33)) (a0_1:Int) (a0_2:Int) (a0_3:Int) (a0_4:Bool) (a0_5:Int) (a0_6:Bool) (a0_7:Int) (a0_8:Int) (A0_9:Option Addr) (c0_9:Nat) (l0_9:List Int) (A0_10:Option Addr) (c0_10:Nat) (l0_10:List Int) (a0_11:Int) (a0_12:Bool) (a0_13:Int) (A1:Option Addr) (c1:Nat) (l1:List (S53)) (r1:List (S33)) (r2:Int) (r3:Int) (r4:Int) (r5:Bool) (r6:Int) (r7:Bool) (r8:Int) (r9:Int) (r10:List Int) (r11:List Int) (r12:Int) (r13:Bool) (r14:Int) (r15:List Int) (w:World) (hr0_0:Kd.C k33 w A0_0 l0_0.length l0_0) (hc0_0:l0_0.length≤c0_0) (hr0_9:Kd.C (Kd.int .i64) w A0_9 l0_9.length l0_9) (hc0_9:l0_9.length≤c0_9) (hr0_10:Kd.C (Kd.int .i64) w A0_10 l0_10.length l0_10) (hc0_10:l0_10.length≤c0_10) (hr1:Kd.C k53 w A1 l1.length l1) (hc1:l1.length≤c1) (h:impl_RunActs.f k l0_0 a0_1 a0_2 a0_3 a0_4 a0_5 a0_6 a0_7 a0_8 l0_9 l0_10 a0_11 a0_12 a0_13 l1=some (r1,r2,r3,r4,r5,r6,r7,r8,r9,r10,r11,r12,r13,r14,r15)):
 Calls prog 16 #[G #[L A0_0 l0_0.length c0_0,V I a0_1,V I a0_2,V I a0_3,O a0_4,V I a0_5,O a0_6,V I a0_7,V I a0_8,L A0_9 l0_9.length c0_9,L A0_10 l0_10.length c0_10,V I a0_11,O a0_12,V I a0_13],L A1 l1.length c1] w fun e w'=>∃v0_ v9_ v10_ v14_:Value,e=.returned (.tuple #[G #[v0_,V I r2,V I r3,V I r4,O r5,V I r6,O r7,V I r8,V I r9,v9_,v10_,V I r12,O r13,V I r14],v14_])∧Kd.R k33 33 w' w.heap.size (fun _=>True) v0_ r1∧Kd.Q (Kd.int .i64) 3 w' w.heap.size (fun k_=>qm k_ v10_∧qm k_ v14_) v9_ r10∧Kd.R (Kd.int .i64) 3 w' w.heap.size (fun k_=>qm k_ v9_∧qm k_ v14_) v10_ r11∧Kd.R (Kd.int .i64) 3 w' w.heap.size (fun k_=>qm k_ v9_∧qm k_ v10_) v14_ r15∧Below w.heap.size w w':=by
 have hu1:=underlying36
 have hu2:=underlying53
 have HR1_0:=C hr0_0
 have HC1_0:=C hc0_0
 (try clear hr0_0);(try clear hc0_0)
 have HR1_9:=C hr0_9
 have HC1_9:=C hc0_9
 (try clear hr0_9);(try clear hc0_9)
 have HR1_10:=C hr0_10
 have HC1_10:=C hc0_10
 (try clear hr0_10);(try clear hc0_10)
 have HR2:=C hr1
 have HC2:=C hc1
 (try clear hr1);(try clear hc1)
 have HB:=C (Below.refl w.heap.size w)
 have H:=h
 unfold impl_RunActs.f at H
 clear h
 obtain⟨⟨t1,t2,t3,t4,t5,t6,t7,t8,t9,t10,t11,t12,t13,t14⟩,A1,H⟩:=bnd H
 dsimp only at H
 have HC3:=C H
 clear H
 go_enter func16,ntmps16
 go_upto_region 2 with(first|((with_reducible refine J (N:=2) rfl ?_);(try(refine gate_guard (by rfl) ?_;dsimp only));refine Fix.be 2 #[L A0_0 l0_0.length c0_0,V I a0_1,V I a0_2,V I a0_3,O a0_4,V I a0_5,O a0_6,V I a0_7,V I a0_8,L A0_9 l0_9.length c0_9,L A0_10 l0_10.length c0_10,V I a0_11,O a0_12,V I a0_13] 36 ?_;intro gb1 hg w1 BK1 hb;have GW1:=gE (w:=w) hg;replace HB:=eB hb;clear hb hg)|((with_reducible refine J (N:=4) rfl ?_);(try(refine gate_guard (by rfl) ?_;dsimp only));refine Fix.be 4 #[L none 0 0,V I 0,V I 0,V I 0,O false,V I 0,O false,V I 0,V I 0,L none 0 0,L none 0 0,V I 0,O false,V I 0] 36 ?_;intro gb2 hg w2 BK2 hb;have GW2:=gE (w:=w) hg;have n0:=nL hg BK1;have n1:=nG hg BK1;replace BK1:=eK BK1 hb;replace HB:=eB hb;clear hb hg;have:=n0.out;have:=n1.out;obtain⟨_,_,_,_,_,_,_,_,_,_,_,_,_,_,_,_,_,_,_,_,_,_,_,_,_,_,_,_⟩:=d14 BK1.out)|((with_reducible refine F (f:=55) rfl ?_);refine gl 55 (some 13) func55 #[G #[L A0_0 l0_0.length c0_0,V I a0_1,V I a0_2,V I a0_3,O a0_4,V I a0_5,O a0_6,V I a0_7,V I a0_8,L A0_9 l0_9.length c0_9,L A0_10 l0_10.length c0_10,V I a0_11,O a0_12,V I a0_13]] ?_;(with_reducible refine(impl_copyMachine.calls _ _ l0_0 a0_1 a0_2 a0_3 a0_4 a0_5 a0_6 a0_7 a0_8 _ _ l0_9 _ _ l0_10 a0_11 a0_12 a0_13 t1 t2 t3 t4 t5 t6 t7 t8 t9 t10 t11 t12 t13 t14 _ ?side1 HC1_0.out ?side3 HC1_9.out ?side5 HC1_10.out A1.out).mono ?_);(case side1=>exact uZ HR1_0);(case side3=>exact uZ HR1_9);(case side5=>exact uZ HR1_10);rintro e w3 ⟨v1,v2,v3,rfl,ho1,ho2,ho3,hb⟩;refine⟨_,rfl,?_⟩;have HO1:=lR ho1;have HO2:=lR ho2;have HO3:=lR ho3;replace BK1:=eK BK1 hb;replace BK2:=eK BK2 hb;replace HB:=eB hb;clear hb ho1 ho2 ho3)|((with_reducible refine J (N:=6) rfl ?_);(try(refine gate_guard (by rfl) ?_;dsimp only));refine Fix.be 6 #[L none 0 0,V I 0,V I 0,V I 0,O false,V I 0,O false,V I 0,V I 0,L none 0 0,L none 0 0,V I 0,O false,V I 0] 36 ?_;intro gb3 hg w4 BK3 hb;have GW3:=gE (w:=w) hg;have n2:=nL hg BK1;have n3:=nG hg BK1;have n4:=nL hg BK2;have n5:=nG hg BK2;replace HO1:=eR HO1 hb;replace HO2:=eR HO2 hb;replace HO3:=eR HO3 hb;replace BK1:=eK BK1 hb;replace BK2:=eK BK2 hb;replace HB:=eB hb;clear hb hg;obtain⟨Ao1,co1,rfl⟩:=Kd.R_slice HO1.out;have:=n3.out;have:=n2.out;have:=n5.out;have:=n4.out;have h_:=d14 BK3.out;(repeat(obtain⟨_,h_⟩:=h_));obtain⟨Ao2,co2,rfl⟩:=Kd.R_slice HO2.out;obtain⟨Ao3,co3,rfl⟩:=Kd.R_slice HO3.out))
 (try simp only[Act.put,List.setIfInBounds_toArray,List.set_cons_zero,List.set_cons_succ])
 go_cut [21] (fun v21 wc=>∃(kq:Nat) (x1_3:Bool),v21=O x1_3∧D (impl_RunActs.j0 kq l1 x1_3 t1 t2 t3 t4 t5 t6 t7 t8 t9 t10 t11 t12 t13 t14=some (r1,r2,r3,r4,r5,r6,r7,r8,r9,r10,r11,r12,r13,r14,r15))∧D (kq≤k)∧D (Kd.R k33 33 wc w.heap.size (fun _=>True) (L Ao1 t1.length co1) t1)∧D (Kd.Q (Kd.int .i64) 3 wc w.heap.size (fun k_=>some k_≠Fix.o Ao3 t11.length co3) (L Ao2 t10.length co2) t10)∧D (Kd.R (Kd.int .i64) 3 wc w.heap.size (fun k_=>some k_≠Fix.o Ao2 t10.length co2) (L Ao3 t11.length co3) t11)∧D (wc.heap[gb1]? =some (.cells #[(L A0_0 l0_0.length c0_0),V I a0_1,V I a0_2,V I a0_3,O a0_4,V I a0_5,O a0_6,V I a0_7,V I a0_8,(L A0_9 l0_9.length c0_9),(L A0_10 l0_10.length c0_10),V I a0_11,O a0_12,V I a0_13] 36 (0,0)))∧D (wc.heap[gb2]? =some (.cells #[(L none 0 0),V I 0,V I 0,V I 0,O false,V I 0,O false,V I 0,V I 0,(L none 0 0),(L none 0 0),V I 0,O false,V I 0] 36 (0,0)))∧D (wc.heap[gb3]? =some (.cells #[(L Ao1 t1.length co1),V I t2,V I t3,V I t4,O t5,V I t6,O t7,V I t8,V I t9,(L Ao2 t10.length co2),(L Ao3 t11.length co3),V I t12,O t13,V I t14] 36 (0,0)))∧D (Below w.heap.size w wc))
 case first=>
  have H:=HC3.out
  clear HC3
  obtain⟨t15,A2,H⟩:=bnd H
  by_cases c1:t15=true
  rotate_left
  ·obtain rfl:=nt c1
   replace H:=nf H
   have H':=C H
   clear H
   have:=n0.out
   have:=n1.out
   have:=n2.out
   have:=n3.out
   have h_:=d14 BK1.out;(repeat(obtain⟨_,h_⟩:=h_))
   go_wp2_with (first|((with_reducible refine F (f:=12) rfl ?_);refine gl 12 (some 15) func12 #[G #[L A0_0 l0_0.length c0_0,V I a0_1,V I a0_2,V I a0_3,O a0_4,V I a0_5,O a0_6,V I a0_7,V I a0_8,L A0_9 l0_9.length c0_9,L A0_10 l0_10.length c0_10,V I a0_11,O a0_12,V I a0_13]] ?_;(with_reducible refine(impl_MachineOk.calls k _ _ l0_0 a0_1 a0_2 a0_3 a0_4 a0_5 a0_6 a0_7 a0_8 _ _ l0_9 _ _ l0_10 a0_11 a0_12 a0_13 false _ ?side1 HC1_0.out ?side3 HC1_9.out ?side5 HC1_10.out A2.out).mono ?_);(case side1=>exact Z HR1_0.out uB);(case side3=>exact Z HR1_9.out uB);(case side5=>exact Z HR1_10.out uB);rintro e w5 ⟨rfl,hb⟩;refine⟨_,rfl,?_⟩;replace HO1:=C (Kd.R_below (X (fR (Y HO1.out BK3.out (by decide))) (fun _ h_=>h_.1)) hb);replace HO2:=C (Kd.R_below (X (fR (Y HO2.out BK3.out (by decide))) (fun _ h_=>h_.1)) hb);replace HO3:=C (Kd.R_below (X (fR (Y HO3.out BK3.out (by decide))) (fun _ h_=>h_.1)) hb);replace BK1:=eK BK1 hb;replace BK2:=eK BK2 hb;replace BK3:=C (blk_below (g:=gb3) (o:=.cells #[L Ao1 t1.length co1,V I t2,V I t3,V I t4,O t5,V I t6,O t7,V I t8,V I t9,L Ao2 t10.length co2,L Ao3 t11.length co3,V I t12,O t13,V I t14] 36 (0,0)) (bK BK3.out) hb);replace HB:=eB hb;clear hb))
   go_meet
   case rel=>exact⟨_,(true),rS,H',⟨oL⟩,⟨fR HO1.out⟩,⟨Kd.Q_of_R (uR HO2.out)⟩,⟨fR HO3.out⟩,⟨bK BK1.out⟩,⟨bK BK2.out⟩,⟨bK BK3.out⟩,⟨uB⟩⟩
  subst c1
  rw[if_pos rfl]at H
  have H':=C H
  clear H
  have:=n0.out
  have:=n1.out
  have:=n2.out
  have:=n3.out
  have h_:=d14 BK1.out;(repeat(obtain⟨_,h_⟩:=h_))
  go_wp2_with (first|((with_reducible refine F (f:=12) rfl ?_);refine gl 12 (some 15) func12 #[G #[L A0_0 l0_0.length c0_0,V I a0_1,V I a0_2,V I a0_3,O a0_4,V I a0_5,O a0_6,V I a0_7,V I a0_8,L A0_9 l0_9.length c0_9,L A0_10 l0_10.length c0_10,V I a0_11,O a0_12,V I a0_13]] ?_;(with_reducible refine(impl_MachineOk.calls k _ _ l0_0 a0_1 a0_2 a0_3 a0_4 a0_5 a0_6 a0_7 a0_8 _ _ l0_9 _ _ l0_10 a0_11 a0_12 a0_13 true _ ?side1 HC1_0.out ?side3 HC1_9.out ?side5 HC1_10.out A2.out).mono ?_);(case side1=>exact Z HR1_0.out uB);(case side3=>exact Z HR1_9.out uB);(case side5=>exact Z HR1_10.out uB);rintro e w5 ⟨rfl,hb⟩;refine⟨_,rfl,?_⟩;replace HO1:=C (Kd.R_below (X (fR (Y HO1.out BK3.out (by decide))) (fun _ h_=>h_.1)) hb);replace HO2:=C (Kd.R_below (X (fR (Y HO2.out BK3.out (by decide))) (fun _ h_=>h_.1)) hb);replace HO3:=C (Kd.R_below (X (fR (Y HO3.out BK3.out (by decide))) (fun _ h_=>h_.1)) hb);replace BK1:=eK BK1 hb;replace BK2:=eK BK2 hb;replace BK3:=C (blk_below (g:=gb3) (o:=.cells #[L Ao1 t1.length co1,V I t2,V I t3,V I t4,O t5,V I t6,O t7,V I t8,V I t9,L Ao2 t10.length co2,L Ao3 t11.length co3,V I t12,O t13,V I t14] 36 (0,0)) (bK BK3.out) hb);replace HB:=eB hb;clear hb))
  go_meet
  case rel=>exact⟨_,(decide ((l1.length:Int) >40)),rS,H',⟨oL⟩,⟨fR HO1.out⟩,⟨Kd.Q_of_R (uR HO2.out)⟩,⟨fR HO3.out⟩,⟨bK BK1.out⟩,⟨bK BK2.out⟩,⟨bK BK3.out⟩,⟨uB⟩⟩
 case rest=>
  clear HC3
  obtain⟨kq,x1_3,rfl,HA,HJ1,HO_1,HO_2,HO_3,BK1,BK2,BK3,HB⟩:=hcut
  cases kq with
  |zero=>exact absurd HA.out (by simp[impl_RunActs.j0])
  |succ kj3=>
   have H:=HA.out
   clear HA
   simp only[impl_RunActs.j0]at H
   by_cases c1:x1_3=true
   ·subst c1
    rw[if_pos rfl]at H
    simp only[Option.some.injEq,Prod.mk.injEq]at H
    obtain⟨rfl,rfl,rfl,rfl,rfl,rfl,rfl,rfl,rfl,rfl,rfl,rfl,rfl,rfl,rfl⟩:=H
    have:=n3.out
    have:=n2.out
    have:=n5.out
    have:=n4.out
    have h_:=d14 BK3.out;(repeat(obtain⟨_,h_⟩:=h_))
    have:=n1.out
    have:=n0.out
    have h_:=d14 BK2.out;(repeat(obtain⟨_,h_⟩:=h_))
    exact impl_RunActs.W1
   obtain rfl:=nt c1
   replace H:=nf H
   have H':=C H
   clear H
   go_wp2
   go_loopg [7,25] kj3 (fun kq v7 v25 w'=>∃(x2_2:List Int) (x3_2:Int) (x4_2:List (S33)) (x5_2:Int) (x6_2:Int) (x7_2:Int) (x8_2:Bool) (x9_2:Int) (x10_2:Bool) (x11_2:Int) (x12_2:Int) (x13_2:List Int) (x14_2:List Int) (x15_2:Int) (x16_2:Bool) (x17_2:Int) (u494000:Value) (u494009:Value) (u494010:Value),v25=V I x3_2∧D (impl_RunActs.l0 kq x2_2 l1 (l1.length:Int) x3_2 x4_2 x5_2 x6_2 x7_2 x8_2 x9_2 x10_2 x11_2 x12_2 x13_2 x14_2 x15_2 x16_2 x17_2=some (r1,r2,r3,r4,r5,r6,r7,r8,r9,r10,r11,r12,r13,r14,r15))∧D (kq≤kj3)∧D (Kd.R (Kd.int .i64) 3 w' w.heap.size (fun k_=>qm k_ u494009∧qm k_ u494010) v7 x2_2)∧D (Kd.R k33 33 w' w.heap.size (fun _=>True) u494000 x4_2)∧D (Kd.Q (Kd.int .i64) 3 w' w.heap.size (fun k_=>qm k_ v7∧qm k_ u494010) u494009 x13_2)∧D (Kd.R (Kd.int .i64) 3 w' w.heap.size (fun k_=>qm k_ v7∧qm k_ u494009) u494010 x14_2)∧D (w'.heap[gb1]? =some (.cells #[(L A0_0 l0_0.length c0_0),V I a0_1,V I a0_2,V I a0_3,O a0_4,V I a0_5,O a0_6,V I a0_7,V I a0_8,(L A0_9 l0_9.length c0_9),(L A0_10 l0_10.length c0_10),V I a0_11,O a0_12,V I a0_13] 36 (0,0)))∧D (w'.heap[gb2]? =some (.cells #[(L none 0 0),V I 0,V I 0,V I 0,O false,V I 0,O false,V I 0,V I 0,(L none 0 0),(L none 0 0),V I 0,O false,V I 0] 36 (0,0)))∧D (w'.heap[gb3]? =some (.cells #[u494000,V I x5_2,V I x6_2,V I x7_2,O x8_2,V I x9_2,O x10_2,V I x11_2,V I x12_2,u494009,u494010,V I x15_2,O x16_2,V I x17_2] 36 (0,0)))∧D (Below w.heap.size w w'))
   case atStart=>exact⟨(([]:List Int)),(0),(t1),(t2),(t3),(t4),(t5),(t6),(t7),(t8),(t9),(t10),(t11),(t12),(t13),(t14),(L Ao1 t1.length co1),(L Ao2 t10.length co2),(L Ao3 t11.length co3),rS,H',⟨Nat.le_refl _⟩,⟨rN⟩,⟨fR HO_1.out⟩,⟨Kd.Q_mono (fQ HO_2.out) (fun _ hk=>⟨(by simp[Value.ownBlock]),hk⟩)⟩,⟨X (fR HO_3.out) (fun _ hk=>⟨(by simp[Value.ownBlock]),hk⟩)⟩,⟨bK BK1.out⟩,⟨bK BK2.out⟩,⟨bK BK3.out⟩,⟨uB⟩⟩
   case round=>
    clear H'
    obtain⟨x2_2,x3_2,x4_2,x5_2,x6_2,x7_2,x8_2,x9_2,x10_2,x11_2,x12_2,x13_2,x14_2,x15_2,x16_2,x17_2,u494000,u494009,u494010,rfl,HA,HK1,HO_4,HO_1,HO_2,HO_3,BK1,BK2,BK3,HB⟩:=hrel
    cases gk with
    |zero=>exact absurd HA.out (by simp[impl_RunActs.l0])
    |succ k2=>
     have H:=HA.out
     clear HA
     simp only[impl_RunActs.l0]at H
     by_cases c2:x3_2<(l1.length:Int)
     rotate_left
     ·rw[if_neg c2]at H
      replace c2:=decide_eq_false c2
      simp only[Option.some.injEq,Prod.mk.injEq]at H
      obtain⟨rfl,rfl,rfl,rfl,rfl,rfl,rfl,rfl,rfl,rfl,rfl,rfl,rfl,rfl,rfl⟩:=H
      have:=n3.out
      have:=n2.out
      have:=n5.out
      have:=n4.out
      have h_:=d14 BK3.out;(repeat(obtain⟨_,h_⟩:=h_))
      obtain⟨Ao4,co4,eo4⟩:=Kd.R_slice HO_1.out
      subst eo4
      have:=n1.out
      have:=n0.out
      have h_:=d14 BK2.out;(repeat(obtain⟨_,h_⟩:=h_))
      obtain⟨Ao5,co5,eo5,_⟩:=Kd.Q_slice HO_2.out
      subst eo5
      obtain⟨Ao6,co6,eo6⟩:=Kd.R_slice HO_3.out
      subst eo6
      exact impl_RunActs.W1
     rw[if_pos c2]at H
     replace c2:=decide_eq_true c2
     obtain⟨c3,H⟩:=np H
     replace c3:=decide_eq_true c3
     obtain⟨c4,H⟩:=np H
     replace c4:=decide_eq_true c4
     obtain⟨⟨t15,t16,t17,t18,t19,t20,t21,t22,t23,t24,t25,t26,t27,t28,t29⟩,A2,H⟩:=bnd H
     dsimp only at H
     obtain⟨c5,H⟩:=np H
     have LMc1:=C c5
     clear c5
     obtain⟨y1,hy1⟩:∃y_:List Int,y_=(x2_2++ [t29]):=⟨_,rfl⟩
     replace H:(impl_RunActs.l0 k2 y1 l1 (l1.length:Int) (wrap64 (x3_2+1)) t15 t16 t17 t18 t19 t20 t21 t22 t23 t24 t25 t26 t27 t28)=some (r1,r2,r3,r4,r5,r6,r7,r8,r9,r10,r11,r12,r13,r14,r15):=gy hy1 H
     have Ny1:=C hy1
     clear hy1
     have H':=C H
     clear H
     have p1:0≤(x3_2:Int):=oT
     have q1:x3_2<(l1.length:Int):=oT
     obtain⟨ad1,e1,hx1_0,hx1_1,hx1_2,hx1_3⟩:=at_T53 (Z HR2.out HB.out) x3_2 p1 q1
     cases e1
     replace p1:=eq_true p1
     replace q1:=eq_true q1
     go_wp2_with (first|((with_reducible refine J (N:=9) rfl ?_);(try(refine gate_guard (by rfl) ?_;dsimp only));refine Fix.be 9 #[V I 0,V I 0,V I 0,V I 0] 53 ?_;intro gb4 hg w5 BK4 hb;have GW4:=gE (w:=w) hg;have n6:=nL hg BK1;have n7:=nG hg BK1;have n8:=nL hg BK2;have n9:=nG hg BK2;have n10:=nL hg BK3;have n11:=nG hg BK3;replace HO_4:=eR HO_4 hb;replace HO_1:=eR HO_1 hb;replace HO_2:=eQ HO_2 hb;replace HO_3:=eR HO_3 hb;replace BK1:=eK BK1 hb;replace BK2:=eK BK2 hb;replace BK3:=eK BK3 hb;replace HB:=eB hb;clear hb hg;have:=n7.out;have:=n6.out;have:=n9.out;have:=n8.out;have:=n11.out;have:=n10.out;obtain⟨_,_,_,_,_,_,_,_⟩:=d4 BK4.out;have:=n3.out;have:=n2.out;have:=n5.out;have:=n4.out;have h_:=d14 BK3.out;(repeat(obtain⟨_,h_⟩:=h_));obtain⟨Ao4,co4,rfl⟩:=Kd.R_slice HO_1.out;obtain⟨Ao5,co5,eo5,_⟩:=Kd.Q_slice HO_2.out;subst eo5;obtain⟨Ao6,co6,rfl⟩:=Kd.R_slice HO_3.out)|((with_reducible refine F (f:=21) rfl ?_);refine gl 21 (some 32) func21 #[G #[L Ao4 x4_2.length co4,V I x5_2,V I x6_2,V I x7_2,O x8_2,V I x9_2,O x10_2,V I x11_2,V I x12_2,L Ao5 x13_2.length co5,L Ao6 x14_2.length co6,V I x15_2,O x16_2,V I x17_2],G #[V I ((rd_T53 l1 x3_2).f0),V I ((rd_T53 l1 x3_2).f1),V I ((rd_T53 l1 x3_2).f2),V I ((rd_T53 l1 x3_2).f3)]] ?_;(with_reducible refine(impl_DoAct.calls k2 _ _ x4_2 x5_2 x6_2 x7_2 x8_2 x9_2 x10_2 x11_2 x12_2 _ _ x13_2 _ _ x14_2 x15_2 x16_2 x17_2 ((rd_T53 l1 x3_2).f0) ((rd_T53 l1 x3_2).f1) ((rd_T53 l1 x3_2).f2) ((rd_T53 l1 x3_2).f3) t15 t16 t17 t18 t19 t20 t21 t22 t23 t24 t25 t26 t27 t28 t29 _ ?side1 ?side2 ?side3 ?side4 ?side5 ?side6 A2.out).mono ?_);(case side1=>refine(Kd.R_reads' (e:=33) (base:=w.heap.size) (ok:=fun k_=>True) (n:=x4_2.length) (c:=co4) ?_).2.2;exact(X (fR (Y HO_1.out BK4.out (by decide))) (fun _ h_=>h_.1)));(case side2=>exact(Kd.R_reads' HO_1.out).2.1);(case side3=>refine(Kd.Q_reads' (e:=3) (base:=w.heap.size) (ok:=fun k_=>(qm k_ u7∧qn k_ Ao6 x14_2.length co6)) (n:=x13_2.length) (c:=co5) ?_).2.2;exact(Kd.Q_mono (fQ (Kd.Q_types HO_2.out BK4.out (by decide))) (fun _ h_=>h_.1)));(case side4=>exact(Kd.Q_reads' HO_2.out).2.1);(case side5=>refine(Kd.R_reads' (e:=3) (base:=w.heap.size) (ok:=fun k_=>(qm k_ u7∧qn k_ Ao5 x13_2.length co5)) (n:=x14_2.length) (c:=co6) ?_).2.2;exact(X (fR (Y HO_3.out BK4.out (by decide))) (fun _ h_=>h_.1)));(case side6=>exact(Kd.R_reads' HO_3.out).2.1);rintro e w6 ⟨v4,v5,v6,rfl,ho1,ho2,ho3,hb⟩;refine⟨_,rfl,?_⟩;have HO4:=C (Kd.R_lower (Kd.R_new' ho1 (Kd.R_lt (X (fR (Y HO_1.out BK4.out (by decide))) (fun _ h_=>h_.1)))) (below_size uB));have HO5:=C (Kd.Q_lower (Kd.Q_new' (Kd.Q_new' (Kd.Q_new' ho2 (Kd.R_lt (X (fR (Y HO_4.out BK4.out (by decide))) (fun _ h_=>h_.1)))) (Kd.Q_lt (Kd.Q_mono (fQ (Kd.Q_types HO_2.out BK4.out (by decide))) (fun _ h_=>h_.1)))) (Kd.R_lt (X (fR (Y HO_3.out BK4.out (by decide))) (fun _ h_=>h_.1)))) (below_size uB));have HO6:=C (Kd.R_lower (Kd.R_new' (Kd.R_new' (Kd.R_new' ho3 (Kd.R_lt (X (fR (Y HO_4.out BK4.out (by decide))) (fun _ h_=>h_.1)))) (Kd.Q_lt (Kd.Q_mono (fQ (Kd.Q_types HO_2.out BK4.out (by decide))) (fun _ h_=>h_.1)))) (Kd.R_lt (X (fR (Y HO_3.out BK4.out (by decide))) (fun _ h_=>h_.1)))) (below_size uB));replace HO_4:=C (X (Kd.R_told (Kd.R_told (Kd.R_old (X (fR (Y HO_4.out BK4.out (by decide))) (fun _ h_=>h_.1)) hb) (Kd.Q_base ho2)) (Kd.R_base ho3)) (fun _ h_=>h_.1));replace HO_1:=C (Kd.R_elder' (X (fR (Y HO_1.out BK4.out (by decide))) (fun _ h_=>h_.1)) (Kd.R_base ho1) hb);replace HO_2:=C (Kd.Q_mono (Kd.Q_told (Kd.Q_told (Kd.Q_old (Kd.Q_mono (fQ (Kd.Q_types HO_2.out BK4.out (by decide))) (fun _ h_=>h_.1)) hb) (Kd.Q_base ho2)) (Kd.R_base ho3)) (fun _ h_=>h_.1));replace HO_3:=C (X (Kd.R_told (Kd.R_told (Kd.R_old (X (fR (Y HO_3.out BK4.out (by decide))) (fun _ h_=>h_.1)) hb) (Kd.Q_base ho2)) (Kd.R_base ho3)) (fun _ h_=>h_.1));replace BK1:=eK BK1 hb;replace BK2:=eK BK2 hb;replace BK3:=eK BK3 hb;replace BK4:=C (blk_below (g:=gb4) (o:=.cells #[V I ((rd_T53 l1 x3_2).f0),V I ((rd_T53 l1 x3_2).f1),V I ((rd_T53 l1 x3_2).f2),V I ((rd_T53 l1 x3_2).f3)] 53 (0,0)) (bK BK4.out) hb);replace HB:=eB hb;clear hb ho1 ho2 ho3)|((with_reducible refine J (N:=10) rfl ?_);(try(refine gate_guard (by rfl) ?_;dsimp only));refine Fix.be 10 #[L none 0 0,V I 0,V I 0,V I 0,O false,V I 0,O false,V I 0,V I 0,L none 0 0,L none 0 0,V I 0,O false,V I 0] 36 ?_;intro gb5 hg w7 BK5 hb;have GW5:=gE (w:=w) hg;have n12:=nL hg BK1;have n13:=nG hg BK1;have n14:=nL hg BK2;have n15:=nG hg BK2;have n16:=nL hg BK3;have n17:=nG hg BK3;have n18:=nL hg BK4;have n19:=nG hg BK4;replace HO_4:=eR HO_4 hb;replace HO_1:=eR HO_1 hb;replace HO_2:=eQ HO_2 hb;replace HO_3:=eR HO_3 hb;replace HO4:=eR HO4 hb;replace HO5:=eQ HO5 hb;replace HO6:=eR HO6 hb;replace BK1:=eK BK1 hb;replace BK2:=eK BK2 hb;replace BK3:=eK BK3 hb;replace BK4:=eK BK4 hb;replace HB:=eB hb;clear hb hg;obtain⟨Ao7,co7,rfl⟩:=Kd.R_slice HO4.out;have:=n13.out;have:=n12.out;have:=n15.out;have:=n14.out;have:=n17.out;have:=n16.out;have:=n19.out;have:=n18.out;have h_:=d14 BK5.out;(repeat(obtain⟨_,h_⟩:=h_));obtain⟨Ao8,co8,eo8,_⟩:=Kd.Q_slice HO5.out;subst eo8;obtain⟨Ao9,co9,rfl⟩:=Kd.R_slice HO6.out;have h_:=d14 BK3.out;(repeat(obtain⟨_,h_⟩:=h_)))|((with_reducible refine gate_builtin (b:=.append) (xs:= #[.tmp 36,.tmp 38]) rfl ?_);(try(refine gate_guard (by rfl) ?_;dsimp only));at_builtin;refine Kd.R_append (Kd.int .i64) (w0:=w) w.heap.size rfl (.tmp 36) (.tmp 38) 25 3 (V I 0) 8 rfl underlying25 info3 rfl (by decide) (by omega) u7 x2_2 t29 [V I t29] (fun k_=>qn k_ Ao5 x13_2.length co5∧qn k_ Ao6 x14_2.length co6∧qn k_ Ao8 t24.length co8∧qn k_ Ao9 t25.length co9) (fun _=>False) rfl (by first|(go_simp;done)|(go_simp;rfl)) ?aP (fun _ hk=>hk.elim) ?aF ?aO ?aB ?aS ?aL ?_;(case aP=>exact rfl);(case aB=>exact uB);(case aF=>exact(fun k_ hk=>⟨Kd.fresh' (Kd.Q_lt (Kd.Q_mono (Kd.Q_mono (fQ (Kd.Q_types (Kd.Q_types HO_2.out BK5.out (by decide)) BK3.out (by decide))) (fun _ h_=>h_.1)) (fun _ h_=>h_.1))) k_ hk,Kd.fresh' (Kd.R_lt (X (X (fR (Y (Y HO_3.out BK5.out (by decide)) BK3.out (by decide))) (fun _ h_=>h_.1)) (fun _ h_=>h_.1))) k_ hk,Kd.fresh' (Kd.Q_lt (Kd.Q_mono (Kd.Q_mono (fQ (Kd.Q_types (Kd.Q_types HO5.out BK5.out (by decide)) BK3.out (by decide))) (fun _ h_=>h_.1)) (fun _ h_=>h_.1))) k_ hk,Kd.fresh' (Kd.R_lt (X (X (fR (Y (Y HO6.out BK5.out (by decide)) BK3.out (by decide))) (fun _ h_=>h_.1)) (fun _ h_=>h_.1))) k_ hk⟩));(case aO=>exact(X (fR (Y (Y HO_4.out BK5.out (by decide)) BK3.out (by decide))) pj));(case aS=>exact(below_size uB));(case aL=>have:=LMc1.out;omega);intro v8 w8 ho hb hg hat;rw[←Ny1.out]at ho;have HO7:=C (ho);replace HO_1:=C (Kd.R_over' (X (X (fR (Y (Y HO_1.out BK5.out (by decide)) BK3.out (by decide))) (fun _ h_=>h_.1)) (fun _ h_=>h_.1)) (Kd.R_typed (X (X (fR (Y (Y HO_4.out BK5.out (by decide)) BK3.out (by decide))) (fun _ h_=>h_.1)) (fun _ h_=>h_.1))) (by decide) hg);replace HO_2:=C (Kd.Q_after (ok:=(fun k_=>qn k_ Ao6 x14_2.length co6∧qn k_ Ao8 t24.length co8∧qn k_ Ao9 t25.length co9)) (Kd.Q_mono (fQ (Kd.Q_types (Kd.Q_types HO_2.out BK5.out (by decide)) BK3.out (by decide))) (fun _ hk=>⟨⟨hk.1.1.1.1.2,⟨hk.1.1.1.2,hk.1.1.2⟩⟩,hk.1.1.1.1.1⟩)) hg hat);replace HO_3:=C (Kd.R_after (ok:=(fun k_=>qn k_ Ao5 x13_2.length co5∧qn k_ Ao8 t24.length co8∧qn k_ Ao9 t25.length co9)) (X (fR (Y (Y HO_3.out BK5.out (by decide)) BK3.out (by decide))) (fun _ hk=>⟨⟨hk.1.1.1.1.2,⟨hk.1.1.1.2,hk.1.1.2⟩⟩,hk.1.1.1.1.1⟩)) hg hat);replace BK1:=gK BK1 hg (Kd.R_ne HO_4.out BK1.out (by decide));replace BK2:=gK BK2 hg (Kd.R_ne HO_4.out BK2.out (by decide));replace BK4:=gK BK4 hg (Kd.R_ne HO_4.out BK4.out (by decide));replace HO4:=C (Kd.R_over' (X (X (fR (Y (Y HO4.out BK5.out (by decide)) BK3.out (by decide))) (fun _ h_=>h_.1)) (fun _ h_=>h_.1)) (Kd.R_typed (X (X (fR (Y (Y HO_4.out BK5.out (by decide)) BK3.out (by decide))) (fun _ h_=>h_.1)) (fun _ h_=>h_.1))) (by decide) hg);replace HO5:=C (Kd.Q_after (ok:=(fun k_=>qn k_ Ao5 x13_2.length co5∧qn k_ Ao6 x14_2.length co6∧qn k_ Ao9 t25.length co9)) (Kd.Q_mono (fQ (Kd.Q_types (Kd.Q_types HO5.out BK5.out (by decide)) BK3.out (by decide))) (fun _ hk=>⟨⟨hk.1.1.1.2,⟨hk.1.1.2,hk.1.1.1.1.1⟩⟩,hk.1.1.1.1.2⟩)) hg hat);replace HO6:=C (Kd.R_after (ok:=(fun k_=>qn k_ Ao5 x13_2.length co5∧qn k_ Ao6 x14_2.length co6∧qn k_ Ao8 t24.length co8)) (X (fR (Y (Y HO6.out BK5.out (by decide)) BK3.out (by decide))) (fun _ hk=>⟨⟨hk.1.1.1.2,⟨hk.1.1.2,hk.1.1.1.1.1⟩⟩,hk.1.1.1.1.2⟩)) hg hat);replace BK3:=C (blk_grown (g:=gb3) (o:=.cells #[L Ao7 t15.length co7,V I t16,V I t17,V I t18,O t19,V I t20,O t21,V I t22,V I t23,L Ao8 t24.length co8,L Ao9 t25.length co9,V I t26,O t27,V I t28] 36 (0,0)) (bK BK3.out) hg (Kd.R_ne HO_4.out BK3.out (by decide)));replace BK5:=C (blk_grown (g:=gb5) (o:=.cells #[L Ao7 t15.length co7,V I t16,V I t17,V I t18,O t19,V I t20,O t21,V I t22,V I t23,L Ao8 t24.length co8,L Ao9 t25.length co9,V I t26,O t27,V I t28] 36 (0,0)) (bK BK5.out) hg (Kd.R_ne HO_4.out BK5.out (by decide)));replace HB:=C (hb);clear HO_4;clear ho hb hg hat))
     go_roundg k2
     case measure=>have:=HJ1.out;have:=HK1.out;omega
     case rel=>exact⟨(y1),(wrap64 (x3_2+1)),(t15),(t16),(t17),(t18),(t19),(t20),(t21),(t22),(t23),(t24),(t25),(t26),(t27),(t28),(L Ao7 t15.length co7),(L Ao8 t24.length co8),(L Ao9 t25.length co9),rS,H',⟨by have:=HJ1.out;have:=HK1.out;omega⟩,⟨X (fR HO7.out) pj⟩,⟨X (fR HO4.out) (fun _ hk=>trivial)⟩,⟨Kd.Q_mono (fQ HO5.out) pj⟩,⟨X (fR HO6.out) pj⟩,⟨bK BK1.out⟩,⟨bK BK2.out⟩,⟨bK BK3.out⟩,⟨uB⟩⟩
def laws_markJobS.l0:Nat→List (S33)→Int→Int→Option (Int×(List (S33)))
  |0,_,_,_=>none
  |k+1,x0,x1,x5=>if x5<(x0.length:Int) then(if 0≤x5 then((some (x0.set (x5:Int).toNat (⟨x1,(rd_T33 x0 x5).f1,(rd_T33 x0 x5).f2,(rd_T33 x0 x5).f3,(rd_T33 x0 x5).f4,(rd_T33 x0 x5).f5⟩:S33):List (S33))).bind fun y522=>((some (y522.set (x5:Int).toNat (⟨(rd_T33 y522 x5).f0,wrap64 (x1+1),(rd_T33 y522 x5).f2,(rd_T33 y522 x5).f3,(rd_T33 y522 x5).f4,(rd_T33 y522 x5).f5⟩:S33):List (S33))).bind fun y523=>((some (y523.set (x5:Int).toNat (⟨(rd_T33 y523 x5).f0,(rd_T33 y523 x5).f1,wrap64 ((wrap64 (x1+1))+1),(rd_T33 y523 x5).f3,(rd_T33 y523 x5).f4,(rd_T33 y523 x5).f5⟩:S33):List (S33))).bind fun y524=>((some (y524.set (x5:Int).toNat (⟨(rd_T33 y524 x5).f0,(rd_T33 y524 x5).f1,(rd_T33 y524 x5).f2,((Int.tmod (wrap64 ((wrap64 ((wrap64 (x1+1))+1))+1)) 3)==0),(rd_T33 y524 x5).f4,(rd_T33 y524 x5).f5⟩:S33):List (S33))).bind fun y525=>((some (y525.set (x5:Int).toNat (⟨(rd_T33 y525 x5).f0,(rd_T33 y525 x5).f1,(rd_T33 y525 x5).f2,(rd_T33 y525 x5).f3,wrap64 ((wrap64 ((wrap64 ((wrap64 (x1+1))+1))+1))+1),(rd_T33 y525 x5).f5⟩:S33):List (S33))).bind fun y526=>(laws_markJobS.l0 k (y526.set (x5:Int).toNat (⟨(rd_T33 y526 x5).f0,(rd_T33 y526 x5).f1,(rd_T33 y526 x5).f2,(rd_T33 y526 x5).f3,(rd_T33 y526 x5).f4,((Int.tmod (wrap64 ((wrap64 ((wrap64 ((wrap64 ((wrap64 (x1+1))+1))+1))+1))+1)) 3)==0)⟩:S33)) (wrap64 ((wrap64 ((wrap64 ((wrap64 ((wrap64 ((wrap64 (x1+1))+1))+1))+1))+1))+1)) (wrap64 (x5+1)))))))) else(none)) else(some (x1,x0))
def laws_markJobS.f (k:Nat) (l0:List (S33)) (a1:Int):Option (Int×(List (S33))):=laws_markJobS.l0 k l0 a1 0
theorem laws_markJobS.calls (k:Nat) (P0_:Nat→Prop) (u9000_:Value) (l0:List (S33)) (a1:Int) (r1:Int) (r2:List (S33)) (w0 w:World) (hB:Below w0.heap.size w0 w) (ho0:Kd.Q k33 33 w w0.heap.size P0_ u9000_ l0) (h:laws_markJobS.f k l0 a1=some (r1,r2)):
 Calls prog 77 #[u9000_,V I a1] w fun e w'=>e=.returned (V I r1)∧Kd.Q k33 33 w' w0.heap.size (fun k_=>(P0_ k_∨w.heap.size≤k_)) u9000_ r2∧Below w0.heap.size w0 w'∧Kept w w' (fun k_=>P0_ k_):=by
 have HO1:=C (show Kd.Q k33 33 w w0.heap.size (fun k_=>(P0_ k_∨w.heap.size≤k_)) u9000_ l0 from Kd.Q_mono ho0 (fun k_ hk=>(.inl hk)))
 have HK:=C (Kept.refl w (fun k_=>P0_ k_))
 have HW1:=C hB.size
 have HB:=C hB
 clear hB
 have H:=h
 unfold laws_markJobS.f at H
 clear h
 have H':=C H
 clear H
 go_enter func77,ntmps77
 go_wp2
 go_loopg [1,5] k (fun kq v1 v5 w'=>∃(x1_1:List (S33)) (x2_1:Int) (x3_1:Int),v1=V I x2_1∧v5=V I x3_1∧D (laws_markJobS.l0 kq x1_1 x2_1 x3_1=some (r1,r2))∧D (kq≤k)∧D (Kd.Q k33 33 w' w0.heap.size (fun k_=>(P0_ k_∨w.heap.size≤k_)) u9000_ x1_1)∧D (Kept w w' (fun k_=>P0_ k_))∧D (Below w0.heap.size w0 w'))
 case atStart=>exact⟨(l0),(a1),(0),rS,rS,H',⟨Nat.le_refl _⟩,⟨fQ HO1.out⟩,⟨uP⟩,⟨uB⟩⟩
 case round=>
  clear H'
  obtain⟨x1_1,x2_1,x3_1,rfl,rfl,HA,HK1,HO_1,HK,HB⟩:=hrel
  cases gk with
  |zero=>exact absurd HA.out (by simp[laws_markJobS.l0])
  |succ k1=>
   have H:=HA.out
   clear HA
   simp only[laws_markJobS.l0]at H
   by_cases c1:x3_1<(x1_1.length:Int)
   rotate_left
   ·rw[if_neg c1]at H
    replace c1:=decide_eq_false c1
    simp only[Option.some.injEq,Prod.mk.injEq]at H
    obtain⟨rfl,rfl⟩:=H
    obtain⟨Ao1,co1,eo1,_⟩:=Kd.Q_slice HO_1.out
    subst eo1
    go_wp2
    go_ret
    exact⟨rE,fQ HO_1.out,uB,uP⟩
   rw[if_pos c1]at H
   replace c1:=decide_eq_true c1
   obtain⟨c2,H⟩:=np H
   replace c2:=decide_eq_true c2
   obtain⟨y1,hy1⟩:∃y_:List (S33),y_=(x1_1.set (x3_1:Int).toNat (⟨x2_1,(rd_T33 x1_1 x3_1).f1,(rd_T33 x1_1 x3_1).f2,(rd_T33 x1_1 x3_1).f3,(rd_T33 x1_1 x3_1).f4,(rd_T33 x1_1 x3_1).f5⟩:S33)):=⟨_,rfl⟩
   replace H:((some (y1.set (x3_1:Int).toNat (⟨(rd_T33 y1 x3_1).f0,wrap64 (x2_1+1),(rd_T33 y1 x3_1).f2,(rd_T33 y1 x3_1).f3,(rd_T33 y1 x3_1).f4,(rd_T33 y1 x3_1).f5⟩:S33):List (S33))).bind fun y2=>((some (y2.set (x3_1:Int).toNat (⟨(rd_T33 y2 x3_1).f0,(rd_T33 y2 x3_1).f1,wrap64 ((wrap64 (x2_1+1))+1),(rd_T33 y2 x3_1).f3,(rd_T33 y2 x3_1).f4,(rd_T33 y2 x3_1).f5⟩:S33):List (S33))).bind fun y3=>((some (y3.set (x3_1:Int).toNat (⟨(rd_T33 y3 x3_1).f0,(rd_T33 y3 x3_1).f1,(rd_T33 y3 x3_1).f2,((Int.tmod (wrap64 ((wrap64 ((wrap64 (x2_1+1))+1))+1)) 3)==0),(rd_T33 y3 x3_1).f4,(rd_T33 y3 x3_1).f5⟩:S33):List (S33))).bind fun y4=>((some (y4.set (x3_1:Int).toNat (⟨(rd_T33 y4 x3_1).f0,(rd_T33 y4 x3_1).f1,(rd_T33 y4 x3_1).f2,(rd_T33 y4 x3_1).f3,wrap64 ((wrap64 ((wrap64 ((wrap64 (x2_1+1))+1))+1))+1),(rd_T33 y4 x3_1).f5⟩:S33):List (S33))).bind fun y5=>(laws_markJobS.l0 k1 (y5.set (x3_1:Int).toNat (⟨(rd_T33 y5 x3_1).f0,(rd_T33 y5 x3_1).f1,(rd_T33 y5 x3_1).f2,(rd_T33 y5 x3_1).f3,(rd_T33 y5 x3_1).f4,((Int.tmod (wrap64 ((wrap64 ((wrap64 ((wrap64 ((wrap64 (x2_1+1))+1))+1))+1))+1)) 3)==0)⟩:S33)) (wrap64 ((wrap64 ((wrap64 ((wrap64 ((wrap64 ((wrap64 (x2_1+1))+1))+1))+1))+1))+1)) (wrap64 (x3_1+1)))))))=some (r1,r2):=gy hy1 H
   have Ny1:=C hy1
   clear hy1
   obtain⟨y2,hy2⟩:∃y_:List (S33),y_=(y1.set (x3_1:Int).toNat (⟨(rd_T33 y1 x3_1).f0,wrap64 (x2_1+1),(rd_T33 y1 x3_1).f2,(rd_T33 y1 x3_1).f3,(rd_T33 y1 x3_1).f4,(rd_T33 y1 x3_1).f5⟩:S33)):=⟨_,rfl⟩
   replace H:((some (y2.set (x3_1:Int).toNat (⟨(rd_T33 y2 x3_1).f0,(rd_T33 y2 x3_1).f1,wrap64 ((wrap64 (x2_1+1))+1),(rd_T33 y2 x3_1).f3,(rd_T33 y2 x3_1).f4,(rd_T33 y2 x3_1).f5⟩:S33):List (S33))).bind fun y3=>((some (y3.set (x3_1:Int).toNat (⟨(rd_T33 y3 x3_1).f0,(rd_T33 y3 x3_1).f1,(rd_T33 y3 x3_1).f2,((Int.tmod (wrap64 ((wrap64 ((wrap64 (x2_1+1))+1))+1)) 3)==0),(rd_T33 y3 x3_1).f4,(rd_T33 y3 x3_1).f5⟩:S33):List (S33))).bind fun y4=>((some (y4.set (x3_1:Int).toNat (⟨(rd_T33 y4 x3_1).f0,(rd_T33 y4 x3_1).f1,(rd_T33 y4 x3_1).f2,(rd_T33 y4 x3_1).f3,wrap64 ((wrap64 ((wrap64 ((wrap64 (x2_1+1))+1))+1))+1),(rd_T33 y4 x3_1).f5⟩:S33):List (S33))).bind fun y5=>(laws_markJobS.l0 k1 (y5.set (x3_1:Int).toNat (⟨(rd_T33 y5 x3_1).f0,(rd_T33 y5 x3_1).f1,(rd_T33 y5 x3_1).f2,(rd_T33 y5 x3_1).f3,(rd_T33 y5 x3_1).f4,((Int.tmod (wrap64 ((wrap64 ((wrap64 ((wrap64 ((wrap64 (x2_1+1))+1))+1))+1))+1)) 3)==0)⟩:S33)) (wrap64 ((wrap64 ((wrap64 ((wrap64 ((wrap64 ((wrap64 (x2_1+1))+1))+1))+1))+1))+1)) (wrap64 (x3_1+1))))))=some (r1,r2):=gy hy2 H
   have Ny2:=C hy2
   clear hy2
   obtain⟨y3,hy3⟩:∃y_:List (S33),y_=(y2.set (x3_1:Int).toNat (⟨(rd_T33 y2 x3_1).f0,(rd_T33 y2 x3_1).f1,wrap64 ((wrap64 (x2_1+1))+1),(rd_T33 y2 x3_1).f3,(rd_T33 y2 x3_1).f4,(rd_T33 y2 x3_1).f5⟩:S33)):=⟨_,rfl⟩
   replace H:((some (y3.set (x3_1:Int).toNat (⟨(rd_T33 y3 x3_1).f0,(rd_T33 y3 x3_1).f1,(rd_T33 y3 x3_1).f2,((Int.tmod (wrap64 ((wrap64 ((wrap64 (x2_1+1))+1))+1)) 3)==0),(rd_T33 y3 x3_1).f4,(rd_T33 y3 x3_1).f5⟩:S33):List (S33))).bind fun y4=>((some (y4.set (x3_1:Int).toNat (⟨(rd_T33 y4 x3_1).f0,(rd_T33 y4 x3_1).f1,(rd_T33 y4 x3_1).f2,(rd_T33 y4 x3_1).f3,wrap64 ((wrap64 ((wrap64 ((wrap64 (x2_1+1))+1))+1))+1),(rd_T33 y4 x3_1).f5⟩:S33):List (S33))).bind fun y5=>(laws_markJobS.l0 k1 (y5.set (x3_1:Int).toNat (⟨(rd_T33 y5 x3_1).f0,(rd_T33 y5 x3_1).f1,(rd_T33 y5 x3_1).f2,(rd_T33 y5 x3_1).f3,(rd_T33 y5 x3_1).f4,((Int.tmod (wrap64 ((wrap64 ((wrap64 ((wrap64 ((wrap64 (x2_1+1))+1))+1))+1))+1)) 3)==0)⟩:S33)) (wrap64 ((wrap64 ((wrap64 ((wrap64 ((wrap64 ((wrap64 (x2_1+1))+1))+1))+1))+1))+1)) (wrap64 (x3_1+1)))))=some (r1,r2):=gy hy3 H
   have Ny3:=C hy3
   clear hy3
   obtain⟨y4,hy4⟩:∃y_:List (S33),y_=(y3.set (x3_1:Int).toNat (⟨(rd_T33 y3 x3_1).f0,(rd_T33 y3 x3_1).f1,(rd_T33 y3 x3_1).f2,((Int.tmod (wrap64 ((wrap64 ((wrap64 (x2_1+1))+1))+1)) 3)==0),(rd_T33 y3 x3_1).f4,(rd_T33 y3 x3_1).f5⟩:S33)):=⟨_,rfl⟩
   replace H:((some (y4.set (x3_1:Int).toNat (⟨(rd_T33 y4 x3_1).f0,(rd_T33 y4 x3_1).f1,(rd_T33 y4 x3_1).f2,(rd_T33 y4 x3_1).f3,wrap64 ((wrap64 ((wrap64 ((wrap64 (x2_1+1))+1))+1))+1),(rd_T33 y4 x3_1).f5⟩:S33):List (S33))).bind fun y5=>(laws_markJobS.l0 k1 (y5.set (x3_1:Int).toNat (⟨(rd_T33 y5 x3_1).f0,(rd_T33 y5 x3_1).f1,(rd_T33 y5 x3_1).f2,(rd_T33 y5 x3_1).f3,(rd_T33 y5 x3_1).f4,((Int.tmod (wrap64 ((wrap64 ((wrap64 ((wrap64 ((wrap64 (x2_1+1))+1))+1))+1))+1)) 3)==0)⟩:S33)) (wrap64 ((wrap64 ((wrap64 ((wrap64 ((wrap64 ((wrap64 (x2_1+1))+1))+1))+1))+1))+1)) (wrap64 (x3_1+1))))=some (r1,r2):=gy hy4 H
   have Ny4:=C hy4
   clear hy4
   obtain⟨y5,hy5⟩:∃y_:List (S33),y_=(y4.set (x3_1:Int).toNat (⟨(rd_T33 y4 x3_1).f0,(rd_T33 y4 x3_1).f1,(rd_T33 y4 x3_1).f2,(rd_T33 y4 x3_1).f3,wrap64 ((wrap64 ((wrap64 ((wrap64 (x2_1+1))+1))+1))+1),(rd_T33 y4 x3_1).f5⟩:S33)):=⟨_,rfl⟩
   replace H:(laws_markJobS.l0 k1 (y5.set (x3_1:Int).toNat (⟨(rd_T33 y5 x3_1).f0,(rd_T33 y5 x3_1).f1,(rd_T33 y5 x3_1).f2,(rd_T33 y5 x3_1).f3,(rd_T33 y5 x3_1).f4,((Int.tmod (wrap64 ((wrap64 ((wrap64 ((wrap64 ((wrap64 (x2_1+1))+1))+1))+1))+1)) 3)==0)⟩:S33)) (wrap64 ((wrap64 ((wrap64 ((wrap64 ((wrap64 ((wrap64 (x2_1+1))+1))+1))+1))+1))+1)) (wrap64 (x3_1+1)))=some (r1,r2):=gy hy5 H
   have Ny5:=C hy5
   clear hy5
   obtain⟨y6,hy6⟩:∃y_:List (S33),y_=(y5.set (x3_1:Int).toNat (⟨(rd_T33 y5 x3_1).f0,(rd_T33 y5 x3_1).f1,(rd_T33 y5 x3_1).f2,(rd_T33 y5 x3_1).f3,(rd_T33 y5 x3_1).f4,((Int.tmod (wrap64 ((wrap64 ((wrap64 ((wrap64 ((wrap64 (x2_1+1))+1))+1))+1))+1)) 3)==0)⟩:S33)):=⟨_,rfl⟩
   replace H:(laws_markJobS.l0 k1 y6 (wrap64 ((wrap64 ((wrap64 ((wrap64 ((wrap64 ((wrap64 (x2_1+1))+1))+1))+1))+1))+1)) (wrap64 (x3_1+1)))=some (r1,r2):=gy hy6 H
   have Ny6:=C hy6
   clear hy6
   have H':=C H
   clear H
   obtain⟨Ao1,co1,eo1,_⟩:=Kd.Q_slice HO_1.out
   subst eo1
   have p1:0≤(x3_1:Int):=oT
   have q1:(x3_1:Int)<((x1_1.length:Int):Int):=oT
   obtain⟨go1,oo1,co2,eo2,gb1,gl1,cl1,HG1⟩:=Kd.Q_form HO_1.out (by omega)
   (first|cases eo2|(injection eo2 with ea_ en_ ec_;(first|subst ea_|(injection ea_ with ea_;subst ea_));subst ec_;clear en_))
   have GB1:=C gb1
   have GG1:=C HG1
   clear gb1 gl1 HG1
   have HMgo1:=C (show(P0_ go1∨w.heap.size≤go1) from(HO_1.out.1 _ rfl))
   obtain⟨ce1,hcl1,hM1,hcc1,hfr1⟩:=Kd.Q_elem HO_1.out z33 (x3_1:Int) p1 q1
   obtain rfl:=k33_openM hM1
   have hx1_0:wr.cell? ⟨go1,oo1+(x3_1:Int).toNat * 6,none⟩=some (V I ((rd_T33 x1_1 x3_1).f0)):=hcc1 0 _ rfl
   have hx1_1:wr.cell? ⟨go1,oo1+(x3_1:Int).toNat * 6+1,none⟩=some (V I ((rd_T33 x1_1 x3_1).f1)):=hcc1 1 _ rfl
   have hx1_2:wr.cell? ⟨go1,oo1+(x3_1:Int).toNat * 6+2,none⟩=some (V I ((rd_T33 x1_1 x3_1).f2)):=hcc1 2 _ rfl
   have hx1_3:wr.cell? ⟨go1,oo1+(x3_1:Int).toNat * 6+3,none⟩=some (O ((rd_T33 x1_1 x3_1).f3)):=hcc1 3 _ rfl
   have hx1_4:wr.cell? ⟨go1,oo1+(x3_1:Int).toNat * 6+4,none⟩=some (V I ((rd_T33 x1_1 x3_1).f4)):=hcc1 4 _ rfl
   have hx1_5:wr.cell? ⟨go1,oo1+(x3_1:Int).toNat * 6+5,none⟩=some (O ((rd_T33 x1_1 x3_1).f5)):=hcc1 5 _ rfl
   have hf1_0:wr.frozen? ⟨go1,oo1+(x3_1:Int).toNat * 6,none⟩=false:=hfr1 0
   have hf1_1:wr.frozen? ⟨go1,oo1+(x3_1:Int).toNat * 6+1,none⟩=false:=hfr1 1
   have hf1_2:wr.frozen? ⟨go1,oo1+(x3_1:Int).toNat * 6+2,none⟩=false:=hfr1 2
   have hf1_3:wr.frozen? ⟨go1,oo1+(x3_1:Int).toNat * 6+3,none⟩=false:=hfr1 3
   have hf1_4:wr.frozen? ⟨go1,oo1+(x3_1:Int).toNat * 6+4,none⟩=false:=hfr1 4
   have hf1_5:wr.frozen? ⟨go1,oo1+(x3_1:Int).toNat * 6+5,none⟩=false:=hfr1 5
   (try clear hcl1);(try clear hcc1);(try clear hfr1);(try clear hM1)
   replace p1:=eq_true p1
   replace q1:=eq_true q1
   have HX1:=C (show Kd.Q k33 33 wr w0.heap.size (fun k_=>(P0_ k_∨w.heap.size≤k_)) (L (some ⟨go1,oo1,none⟩) x1_1.length co1) x1_1 from(uQ HO_1.out))
   obtain⟨ce2,hcl2,hM2,hcc2,hfr2⟩:=Kd.Q_elem HX1.out z33 (x3_1:Int) oT (by have h_:(x3_1:Int)<((x1_1.length:Int):Int):=oT;first|exact h_|(have e_:=(Kd.Q_reads' HO_1.out).1;omega)|simpa using h_)
   obtain rfl:=k33_openM hM2
   have HP1:=Kd.Q_seg HX1.out (x3_1:Int) oT (by have h_:(x3_1:Int)<((x1_1.length:Int):Int):=oT;first|exact h_|(have e_:=(Kd.Q_reads' HO_1.out).1;omega)|simpa using h_) (seg:= [V I x2_1]) (j:=0) hcl2 hcc2 (show 1≤6 from by decide) (x':=(⟨x2_1,(rd_T33 x1_1 x3_1).f1,(rd_T33 x1_1 x3_1).f2,(rd_T33 x1_1 x3_1).f3,(rd_T33 x1_1 x3_1).f4,(rd_T33 x1_1 x3_1).f5⟩:S33)) (k33_mkM _ _ _ (⟨x2_1,(rd_T33 x1_1 x3_1).f1,(rd_T33 x1_1 x3_1).f2,(rd_T33 x1_1 x3_1).f3,(rd_T33 x1_1 x3_1).f4,(rd_T33 x1_1 x3_1).f5⟩:S33)) (fun _ hk=>hk)
   have hx2_0:=hcc2 0 _ rfl
   (try simp only[show(k33).sz=6 from rfl,Nat.mul_one,Nat.add_zero]at hx2_0)
   have hf2_0:=hfr2 0
   (try simp only[show(k33).sz=6 from rfl,Nat.mul_one,Nat.add_zero]at hf2_0)
   (try clear hcl2);(try clear hcc2);(try clear hfr2);(try clear hM2)
   go_wp2_with (first|((with_reducible refine gate_store (t:=3) (p:=16) rfl ?_);refine store_event (t:=3) (p:=16) (v:= ?vo_w1) (w1:=(wr.setCell ⟨go1,oo1+(x3_1:Int).toNat * 6,none⟩ (V I x2_1))) ?hg ?ho ?hn ?hr ?_;(case ho=>rfl);(case hg=>rfl);(case hn=>rfl);(case hr=>exact Fix.hr);intro w2 hw;have hg:wr.grownBy w2 (some go1):=(by rw[hw];exact HP1.2);have hp_:Kd.Q k33 33 w2 w0.heap.size (fun k_=>(P0_ k_∨w.heap.size≤k_)) (L (some ⟨go1,oo1,none⟩) x1_1.length co1) y1:=(by rw[hw,Ny1.out];exact HP1.1);clear HP1;replace HB:=C ((by rw[hw];exact below_set (HB.out) GB1.out:Below w0.heap.size w0 w2));replace HK:=C (Kept.of_grown (S:=(fun k_=>P0_ k_)) hg (show Kept w _ _ from uP) (fun k_ e_=>(HO_1.out.1 k_ e_)));replace HO_1:=C (hp_);clear hg hw hp_;have p2:0≤(x3_1:Int):=oT;have q2:(x3_1:Int)<((x1_1.length:Int):Int):=oT;obtain⟨ce3,hcl3,hM3,hcc3,hfr3⟩:=Kd.Q_elem HO_1.out z33 (x3_1:Int) p2 q2;obtain rfl:=k33_openM hM3;have hx3_0:w2.cell? ⟨go1,oo1+(x3_1:Int).toNat * 6,none⟩=some (V I ((rd_T33 y1 x3_1).f0)):=hcc3 0 _ rfl;have hx3_1:w2.cell? ⟨go1,oo1+(x3_1:Int).toNat * 6+1,none⟩=some (V I ((rd_T33 y1 x3_1).f1)):=hcc3 1 _ rfl;have hx3_2:w2.cell? ⟨go1,oo1+(x3_1:Int).toNat * 6+2,none⟩=some (V I ((rd_T33 y1 x3_1).f2)):=hcc3 2 _ rfl;have hx3_3:w2.cell? ⟨go1,oo1+(x3_1:Int).toNat * 6+3,none⟩=some (O ((rd_T33 y1 x3_1).f3)):=hcc3 3 _ rfl;have hx3_4:w2.cell? ⟨go1,oo1+(x3_1:Int).toNat * 6+4,none⟩=some (V I ((rd_T33 y1 x3_1).f4)):=hcc3 4 _ rfl;have hx3_5:w2.cell? ⟨go1,oo1+(x3_1:Int).toNat * 6+5,none⟩=some (O ((rd_T33 y1 x3_1).f5)):=hcc3 5 _ rfl;have hf3_0:w2.frozen? ⟨go1,oo1+(x3_1:Int).toNat * 6,none⟩=false:=hfr3 0;have hf3_1:w2.frozen? ⟨go1,oo1+(x3_1:Int).toNat * 6+1,none⟩=false:=hfr3 1;have hf3_2:w2.frozen? ⟨go1,oo1+(x3_1:Int).toNat * 6+2,none⟩=false:=hfr3 2;have hf3_3:w2.frozen? ⟨go1,oo1+(x3_1:Int).toNat * 6+3,none⟩=false:=hfr3 3;have hf3_4:w2.frozen? ⟨go1,oo1+(x3_1:Int).toNat * 6+4,none⟩=false:=hfr3 4;have hf3_5:w2.frozen? ⟨go1,oo1+(x3_1:Int).toNat * 6+5,none⟩=false:=hfr3 5;(try clear hcl3);(try clear hcc3);(try clear hfr3);(try clear hM3);replace p2:=eq_true p2;replace q2:=eq_true q2;have HX2:=C (show Kd.Q k33 33 w2 w0.heap.size (fun k_=>(P0_ k_∨w.heap.size≤k_)) (L (some ⟨go1,oo1,none⟩) x1_1.length co1) y1 from(uQ HO_1.out));obtain⟨ce4,hcl4,hM4,hcc4,hfr4⟩:=Kd.Q_elem HX2.out z33 (x3_1:Int) oT (by have h_:(x3_1:Int)<((x1_1.length:Int):Int):=oT;first|exact h_|(have e_:=(Kd.Q_reads' HO_1.out).1;omega)|simpa using h_);obtain rfl:=k33_openM hM4;have HP2:=Kd.Q_seg HX2.out (x3_1:Int) oT (by have h_:(x3_1:Int)<((x1_1.length:Int):Int):=oT;first|exact h_|(have e_:=(Kd.Q_reads' HO_1.out).1;omega)|simpa using h_) (seg:= [V I (wrap64 (x2_1+1))]) (j:=1) hcl4 hcc4 (show 2≤6 from by decide) (x':=(⟨(rd_T33 y1 x3_1).f0,wrap64 (x2_1+1),(rd_T33 y1 x3_1).f2,(rd_T33 y1 x3_1).f3,(rd_T33 y1 x3_1).f4,(rd_T33 y1 x3_1).f5⟩:S33)) (k33_mkM _ _ _ (⟨(rd_T33 y1 x3_1).f0,wrap64 (x2_1+1),(rd_T33 y1 x3_1).f2,(rd_T33 y1 x3_1).f3,(rd_T33 y1 x3_1).f4,(rd_T33 y1 x3_1).f5⟩:S33)) (fun _ hk=>hk);have hx4_1:=hcc4 1 _ rfl;(try simp only[show(k33).sz=6 from rfl,Nat.mul_one,Nat.add_zero]at hx4_1);have hf4_1:=hfr4 1;(try simp only[show(k33).sz=6 from rfl,Nat.mul_one,Nat.add_zero]at hf4_1);(try clear hcl4);(try clear hcc4);(try clear hfr4);(try clear hM4))|((with_reducible refine gate_store (t:=3) (p:=23) rfl ?_);refine store_event (t:=3) (p:=23) (v:= ?vo_w2) (w1:=(w2.setCell ⟨go1,oo1+(x3_1:Int).toNat * 6+1,none⟩ (V I (wrap64 (x2_1+1))))) ?hg ?ho ?hn ?hr ?_;(case ho=>rfl);(case hg=>rfl);(case hn=>rfl);(case hr=>exact Fix.hr);intro w3 hw;have hg:w2.grownBy w3 (some go1):=(by rw[hw];exact HP2.2);have hp_:Kd.Q k33 33 w3 w0.heap.size (fun k_=>(P0_ k_∨w.heap.size≤k_)) (L (some ⟨go1,oo1,none⟩) x1_1.length co1) y2:=(by rw[hw,Ny2.out];exact HP2.1);clear HP2;replace HB:=C ((by rw[hw];exact below_set (HB.out) GB1.out:Below w0.heap.size w0 w3));replace HK:=C (Kept.of_grown (S:=(fun k_=>P0_ k_)) hg (show Kept w _ _ from uP) (fun k_ e_=>(HO_1.out.1 k_ e_)));replace HO_1:=C (hp_);clear hg hw hp_;have p3:0≤(x3_1:Int):=oT;have q3:(x3_1:Int)<((x1_1.length:Int):Int):=oT;obtain⟨ce5,hcl5,hM5,hcc5,hfr5⟩:=Kd.Q_elem HO_1.out z33 (x3_1:Int) p3 q3;obtain rfl:=k33_openM hM5;have hx5_0:w3.cell? ⟨go1,oo1+(x3_1:Int).toNat * 6,none⟩=some (V I ((rd_T33 y2 x3_1).f0)):=hcc5 0 _ rfl;have hx5_1:w3.cell? ⟨go1,oo1+(x3_1:Int).toNat * 6+1,none⟩=some (V I ((rd_T33 y2 x3_1).f1)):=hcc5 1 _ rfl;have hx5_2:w3.cell? ⟨go1,oo1+(x3_1:Int).toNat * 6+2,none⟩=some (V I ((rd_T33 y2 x3_1).f2)):=hcc5 2 _ rfl;have hx5_3:w3.cell? ⟨go1,oo1+(x3_1:Int).toNat * 6+3,none⟩=some (O ((rd_T33 y2 x3_1).f3)):=hcc5 3 _ rfl;have hx5_4:w3.cell? ⟨go1,oo1+(x3_1:Int).toNat * 6+4,none⟩=some (V I ((rd_T33 y2 x3_1).f4)):=hcc5 4 _ rfl;have hx5_5:w3.cell? ⟨go1,oo1+(x3_1:Int).toNat * 6+5,none⟩=some (O ((rd_T33 y2 x3_1).f5)):=hcc5 5 _ rfl;have hf5_0:w3.frozen? ⟨go1,oo1+(x3_1:Int).toNat * 6,none⟩=false:=hfr5 0;have hf5_1:w3.frozen? ⟨go1,oo1+(x3_1:Int).toNat * 6+1,none⟩=false:=hfr5 1;have hf5_2:w3.frozen? ⟨go1,oo1+(x3_1:Int).toNat * 6+2,none⟩=false:=hfr5 2;have hf5_3:w3.frozen? ⟨go1,oo1+(x3_1:Int).toNat * 6+3,none⟩=false:=hfr5 3;have hf5_4:w3.frozen? ⟨go1,oo1+(x3_1:Int).toNat * 6+4,none⟩=false:=hfr5 4;have hf5_5:w3.frozen? ⟨go1,oo1+(x3_1:Int).toNat * 6+5,none⟩=false:=hfr5 5;(try clear hcl5);(try clear hcc5);(try clear hfr5);(try clear hM5);replace p3:=eq_true p3;replace q3:=eq_true q3;have HX3:=C (show Kd.Q k33 33 w3 w0.heap.size (fun k_=>(P0_ k_∨w.heap.size≤k_)) (L (some ⟨go1,oo1,none⟩) x1_1.length co1) y2 from(uQ HO_1.out));obtain⟨ce6,hcl6,hM6,hcc6,hfr6⟩:=Kd.Q_elem HX3.out z33 (x3_1:Int) oT (by have h_:(x3_1:Int)<((x1_1.length:Int):Int):=oT;first|exact h_|(have e_:=(Kd.Q_reads' HO_1.out).1;omega)|simpa using h_);obtain rfl:=k33_openM hM6;have HP3:=Kd.Q_seg HX3.out (x3_1:Int) oT (by have h_:(x3_1:Int)<((x1_1.length:Int):Int):=oT;first|exact h_|(have e_:=(Kd.Q_reads' HO_1.out).1;omega)|simpa using h_) (seg:= [V I (wrap64 ((wrap64 (x2_1+1))+1))]) (j:=2) hcl6 hcc6 (show 3≤6 from by decide) (x':=(⟨(rd_T33 y2 x3_1).f0,(rd_T33 y2 x3_1).f1,wrap64 ((wrap64 (x2_1+1))+1),(rd_T33 y2 x3_1).f3,(rd_T33 y2 x3_1).f4,(rd_T33 y2 x3_1).f5⟩:S33)) (k33_mkM _ _ _ (⟨(rd_T33 y2 x3_1).f0,(rd_T33 y2 x3_1).f1,wrap64 ((wrap64 (x2_1+1))+1),(rd_T33 y2 x3_1).f3,(rd_T33 y2 x3_1).f4,(rd_T33 y2 x3_1).f5⟩:S33)) (fun _ hk=>hk);have hx6_2:=hcc6 2 _ rfl;(try simp only[show(k33).sz=6 from rfl,Nat.mul_one,Nat.add_zero]at hx6_2);have hf6_2:=hfr6 2;(try simp only[show(k33).sz=6 from rfl,Nat.mul_one,Nat.add_zero]at hf6_2);(try clear hcl6);(try clear hcc6);(try clear hfr6);(try clear hM6))|((with_reducible refine gate_store (t:=3) (p:=30) rfl ?_);refine store_event (t:=3) (p:=30) (v:= ?vo_w3) (w1:=(w3.setCell ⟨go1,oo1+(x3_1:Int).toNat * 6+2,none⟩ (V I (wrap64 ((wrap64 (x2_1+1))+1))))) ?hg ?ho ?hn ?hr ?_;(case ho=>rfl);(case hg=>rfl);(case hn=>rfl);(case hr=>exact Fix.hr);intro w4 hw;have hg:w3.grownBy w4 (some go1):=(by rw[hw];exact HP3.2);have hp_:Kd.Q k33 33 w4 w0.heap.size (fun k_=>(P0_ k_∨w.heap.size≤k_)) (L (some ⟨go1,oo1,none⟩) x1_1.length co1) y3:=(by rw[hw,Ny3.out];exact HP3.1);clear HP3;replace HB:=C ((by rw[hw];exact below_set (HB.out) GB1.out:Below w0.heap.size w0 w4));replace HK:=C (Kept.of_grown (S:=(fun k_=>P0_ k_)) hg (show Kept w _ _ from uP) (fun k_ e_=>(HO_1.out.1 k_ e_)));replace HO_1:=C (hp_);clear hg hw hp_;have p4:0≤(x3_1:Int):=oT;have q4:(x3_1:Int)<((x1_1.length:Int):Int):=oT;obtain⟨ce7,hcl7,hM7,hcc7,hfr7⟩:=Kd.Q_elem HO_1.out z33 (x3_1:Int) p4 q4;obtain rfl:=k33_openM hM7;have hx7_0:w4.cell? ⟨go1,oo1+(x3_1:Int).toNat * 6,none⟩=some (V I ((rd_T33 y3 x3_1).f0)):=hcc7 0 _ rfl;have hx7_1:w4.cell? ⟨go1,oo1+(x3_1:Int).toNat * 6+1,none⟩=some (V I ((rd_T33 y3 x3_1).f1)):=hcc7 1 _ rfl;have hx7_2:w4.cell? ⟨go1,oo1+(x3_1:Int).toNat * 6+2,none⟩=some (V I ((rd_T33 y3 x3_1).f2)):=hcc7 2 _ rfl;have hx7_3:w4.cell? ⟨go1,oo1+(x3_1:Int).toNat * 6+3,none⟩=some (O ((rd_T33 y3 x3_1).f3)):=hcc7 3 _ rfl;have hx7_4:w4.cell? ⟨go1,oo1+(x3_1:Int).toNat * 6+4,none⟩=some (V I ((rd_T33 y3 x3_1).f4)):=hcc7 4 _ rfl;have hx7_5:w4.cell? ⟨go1,oo1+(x3_1:Int).toNat * 6+5,none⟩=some (O ((rd_T33 y3 x3_1).f5)):=hcc7 5 _ rfl;have hf7_0:w4.frozen? ⟨go1,oo1+(x3_1:Int).toNat * 6,none⟩=false:=hfr7 0;have hf7_1:w4.frozen? ⟨go1,oo1+(x3_1:Int).toNat * 6+1,none⟩=false:=hfr7 1;have hf7_2:w4.frozen? ⟨go1,oo1+(x3_1:Int).toNat * 6+2,none⟩=false:=hfr7 2;have hf7_3:w4.frozen? ⟨go1,oo1+(x3_1:Int).toNat * 6+3,none⟩=false:=hfr7 3;have hf7_4:w4.frozen? ⟨go1,oo1+(x3_1:Int).toNat * 6+4,none⟩=false:=hfr7 4;have hf7_5:w4.frozen? ⟨go1,oo1+(x3_1:Int).toNat * 6+5,none⟩=false:=hfr7 5;(try clear hcl7);(try clear hcc7);(try clear hfr7);(try clear hM7);replace p4:=eq_true p4;replace q4:=eq_true q4;have HX4:=C (show Kd.Q k33 33 w4 w0.heap.size (fun k_=>(P0_ k_∨w.heap.size≤k_)) (L (some ⟨go1,oo1,none⟩) x1_1.length co1) y3 from(uQ HO_1.out));obtain⟨ce8,hcl8,hM8,hcc8,hfr8⟩:=Kd.Q_elem HX4.out z33 (x3_1:Int) oT (by have h_:(x3_1:Int)<((x1_1.length:Int):Int):=oT;first|exact h_|(have e_:=(Kd.Q_reads' HO_1.out).1;omega)|simpa using h_);obtain rfl:=k33_openM hM8;have HP4:=Kd.Q_seg HX4.out (x3_1:Int) oT (by have h_:(x3_1:Int)<((x1_1.length:Int):Int):=oT;first|exact h_|(have e_:=(Kd.Q_reads' HO_1.out).1;omega)|simpa using h_) (seg:= [O ((Int.tmod (wrap64 ((wrap64 ((wrap64 (x2_1+1))+1))+1)) 3)==0)]) (j:=3) hcl8 hcc8 (show 4≤6 from by decide) (x':=(⟨(rd_T33 y3 x3_1).f0,(rd_T33 y3 x3_1).f1,(rd_T33 y3 x3_1).f2,((Int.tmod (wrap64 ((wrap64 ((wrap64 (x2_1+1))+1))+1)) 3)==0),(rd_T33 y3 x3_1).f4,(rd_T33 y3 x3_1).f5⟩:S33)) (k33_mkM _ _ _ (⟨(rd_T33 y3 x3_1).f0,(rd_T33 y3 x3_1).f1,(rd_T33 y3 x3_1).f2,((Int.tmod (wrap64 ((wrap64 ((wrap64 (x2_1+1))+1))+1)) 3)==0),(rd_T33 y3 x3_1).f4,(rd_T33 y3 x3_1).f5⟩:S33)) (fun _ hk=>hk);have hx8_3:=hcc8 3 _ rfl;(try simp only[show(k33).sz=6 from rfl,Nat.mul_one,Nat.add_zero]at hx8_3);have hf8_3:=hfr8 3;(try simp only[show(k33).sz=6 from rfl,Nat.mul_one,Nat.add_zero]at hf8_3);(try clear hcl8);(try clear hcc8);(try clear hfr8);(try clear hM8))|((with_reducible refine gate_store (t:=4) (p:=39) rfl ?_);refine store_event (t:=4) (p:=39) (v:= ?vo_w4) (w1:=(w4.setCell ⟨go1,oo1+(x3_1:Int).toNat * 6+3,none⟩ (O ((Int.tmod (wrap64 ((wrap64 ((wrap64 (x2_1+1))+1))+1)) 3)==0)))) ?hg ?ho ?hn ?hr ?_;(case ho=>rfl);(case hg=>rfl);(case hn=>rfl);(case hr=>exact Fix.hr);intro w5 hw;have hg:w4.grownBy w5 (some go1):=(by rw[hw];exact HP4.2);have hp_:Kd.Q k33 33 w5 w0.heap.size (fun k_=>(P0_ k_∨w.heap.size≤k_)) (L (some ⟨go1,oo1,none⟩) x1_1.length co1) y4:=(by rw[hw,Ny4.out];exact HP4.1);clear HP4;replace HB:=C ((by rw[hw];exact below_set (HB.out) GB1.out:Below w0.heap.size w0 w5));replace HK:=C (Kept.of_grown (S:=(fun k_=>P0_ k_)) hg (show Kept w _ _ from uP) (fun k_ e_=>(HO_1.out.1 k_ e_)));replace HO_1:=C (hp_);clear hg hw hp_;have p5:0≤(x3_1:Int):=oT;have q5:(x3_1:Int)<((x1_1.length:Int):Int):=oT;obtain⟨ce9,hcl9,hM9,hcc9,hfr9⟩:=Kd.Q_elem HO_1.out z33 (x3_1:Int) p5 q5;obtain rfl:=k33_openM hM9;have hx9_0:w5.cell? ⟨go1,oo1+(x3_1:Int).toNat * 6,none⟩=some (V I ((rd_T33 y4 x3_1).f0)):=hcc9 0 _ rfl;have hx9_1:w5.cell? ⟨go1,oo1+(x3_1:Int).toNat * 6+1,none⟩=some (V I ((rd_T33 y4 x3_1).f1)):=hcc9 1 _ rfl;have hx9_2:w5.cell? ⟨go1,oo1+(x3_1:Int).toNat * 6+2,none⟩=some (V I ((rd_T33 y4 x3_1).f2)):=hcc9 2 _ rfl;have hx9_3:w5.cell? ⟨go1,oo1+(x3_1:Int).toNat * 6+3,none⟩=some (O ((rd_T33 y4 x3_1).f3)):=hcc9 3 _ rfl;have hx9_4:w5.cell? ⟨go1,oo1+(x3_1:Int).toNat * 6+4,none⟩=some (V I ((rd_T33 y4 x3_1).f4)):=hcc9 4 _ rfl;have hx9_5:w5.cell? ⟨go1,oo1+(x3_1:Int).toNat * 6+5,none⟩=some (O ((rd_T33 y4 x3_1).f5)):=hcc9 5 _ rfl;have hf9_0:w5.frozen? ⟨go1,oo1+(x3_1:Int).toNat * 6,none⟩=false:=hfr9 0;have hf9_1:w5.frozen? ⟨go1,oo1+(x3_1:Int).toNat * 6+1,none⟩=false:=hfr9 1;have hf9_2:w5.frozen? ⟨go1,oo1+(x3_1:Int).toNat * 6+2,none⟩=false:=hfr9 2;have hf9_3:w5.frozen? ⟨go1,oo1+(x3_1:Int).toNat * 6+3,none⟩=false:=hfr9 3;have hf9_4:w5.frozen? ⟨go1,oo1+(x3_1:Int).toNat * 6+4,none⟩=false:=hfr9 4;have hf9_5:w5.frozen? ⟨go1,oo1+(x3_1:Int).toNat * 6+5,none⟩=false:=hfr9 5;(try clear hcl9);(try clear hcc9);(try clear hfr9);(try clear hM9);replace p5:=eq_true p5;replace q5:=eq_true q5;have HX5:=C (show Kd.Q k33 33 w5 w0.heap.size (fun k_=>(P0_ k_∨w.heap.size≤k_)) (L (some ⟨go1,oo1,none⟩) x1_1.length co1) y4 from(uQ HO_1.out));obtain⟨ce10,hcl10,hM10,hcc10,hfr10⟩:=Kd.Q_elem HX5.out z33 (x3_1:Int) oT (by have h_:(x3_1:Int)<((x1_1.length:Int):Int):=oT;first|exact h_|(have e_:=(Kd.Q_reads' HO_1.out).1;omega)|simpa using h_);obtain rfl:=k33_openM hM10;have HP5:=Kd.Q_seg HX5.out (x3_1:Int) oT (by have h_:(x3_1:Int)<((x1_1.length:Int):Int):=oT;first|exact h_|(have e_:=(Kd.Q_reads' HO_1.out).1;omega)|simpa using h_) (seg:= [V I (wrap64 ((wrap64 ((wrap64 ((wrap64 (x2_1+1))+1))+1))+1))]) (j:=4) hcl10 hcc10 (show 5≤6 from by decide) (x':=(⟨(rd_T33 y4 x3_1).f0,(rd_T33 y4 x3_1).f1,(rd_T33 y4 x3_1).f2,(rd_T33 y4 x3_1).f3,wrap64 ((wrap64 ((wrap64 ((wrap64 (x2_1+1))+1))+1))+1),(rd_T33 y4 x3_1).f5⟩:S33)) (k33_mkM _ _ _ (⟨(rd_T33 y4 x3_1).f0,(rd_T33 y4 x3_1).f1,(rd_T33 y4 x3_1).f2,(rd_T33 y4 x3_1).f3,wrap64 ((wrap64 ((wrap64 ((wrap64 (x2_1+1))+1))+1))+1),(rd_T33 y4 x3_1).f5⟩:S33)) (fun _ hk=>hk);have hx10_4:=hcc10 4 _ rfl;(try simp only[show(k33).sz=6 from rfl,Nat.mul_one,Nat.add_zero]at hx10_4);have hf10_4:=hfr10 4;(try simp only[show(k33).sz=6 from rfl,Nat.mul_one,Nat.add_zero]at hf10_4);(try clear hcl10);(try clear hcc10);(try clear hfr10);(try clear hM10))|((with_reducible refine gate_store (t:=3) (p:=46) rfl ?_);refine store_event (t:=3) (p:=46) (v:= ?vo_w5) (w1:=(w5.setCell ⟨go1,oo1+(x3_1:Int).toNat * 6+4,none⟩ (V I (wrap64 ((wrap64 ((wrap64 ((wrap64 (x2_1+1))+1))+1))+1))))) ?hg ?ho ?hn ?hr ?_;(case ho=>rfl);(case hg=>rfl);(case hn=>rfl);(case hr=>exact Fix.hr);intro w6 hw;have hg:w5.grownBy w6 (some go1):=(by rw[hw];exact HP5.2);have hp_:Kd.Q k33 33 w6 w0.heap.size (fun k_=>(P0_ k_∨w.heap.size≤k_)) (L (some ⟨go1,oo1,none⟩) x1_1.length co1) y5:=(by rw[hw,Ny5.out];exact HP5.1);clear HP5;replace HB:=C ((by rw[hw];exact below_set (HB.out) GB1.out:Below w0.heap.size w0 w6));replace HK:=C (Kept.of_grown (S:=(fun k_=>P0_ k_)) hg (show Kept w _ _ from uP) (fun k_ e_=>(HO_1.out.1 k_ e_)));replace HO_1:=C (hp_);clear hg hw hp_;have p6:0≤(x3_1:Int):=oT;have q6:(x3_1:Int)<((x1_1.length:Int):Int):=oT;obtain⟨ce11,hcl11,hM11,hcc11,hfr11⟩:=Kd.Q_elem HO_1.out z33 (x3_1:Int) p6 q6;obtain rfl:=k33_openM hM11;have hx11_0:w6.cell? ⟨go1,oo1+(x3_1:Int).toNat * 6,none⟩=some (V I ((rd_T33 y5 x3_1).f0)):=hcc11 0 _ rfl;have hx11_1:w6.cell? ⟨go1,oo1+(x3_1:Int).toNat * 6+1,none⟩=some (V I ((rd_T33 y5 x3_1).f1)):=hcc11 1 _ rfl;have hx11_2:w6.cell? ⟨go1,oo1+(x3_1:Int).toNat * 6+2,none⟩=some (V I ((rd_T33 y5 x3_1).f2)):=hcc11 2 _ rfl;have hx11_3:w6.cell? ⟨go1,oo1+(x3_1:Int).toNat * 6+3,none⟩=some (O ((rd_T33 y5 x3_1).f3)):=hcc11 3 _ rfl;have hx11_4:w6.cell? ⟨go1,oo1+(x3_1:Int).toNat * 6+4,none⟩=some (V I ((rd_T33 y5 x3_1).f4)):=hcc11 4 _ rfl;have hx11_5:w6.cell? ⟨go1,oo1+(x3_1:Int).toNat * 6+5,none⟩=some (O ((rd_T33 y5 x3_1).f5)):=hcc11 5 _ rfl;have hf11_0:w6.frozen? ⟨go1,oo1+(x3_1:Int).toNat * 6,none⟩=false:=hfr11 0;have hf11_1:w6.frozen? ⟨go1,oo1+(x3_1:Int).toNat * 6+1,none⟩=false:=hfr11 1;have hf11_2:w6.frozen? ⟨go1,oo1+(x3_1:Int).toNat * 6+2,none⟩=false:=hfr11 2;have hf11_3:w6.frozen? ⟨go1,oo1+(x3_1:Int).toNat * 6+3,none⟩=false:=hfr11 3;have hf11_4:w6.frozen? ⟨go1,oo1+(x3_1:Int).toNat * 6+4,none⟩=false:=hfr11 4;have hf11_5:w6.frozen? ⟨go1,oo1+(x3_1:Int).toNat * 6+5,none⟩=false:=hfr11 5;(try clear hcl11);(try clear hcc11);(try clear hfr11);(try clear hM11);replace p6:=eq_true p6;replace q6:=eq_true q6;have HX6:=C (show Kd.Q k33 33 w6 w0.heap.size (fun k_=>(P0_ k_∨w.heap.size≤k_)) (L (some ⟨go1,oo1,none⟩) x1_1.length co1) y5 from(uQ HO_1.out));obtain⟨ce12,hcl12,hM12,hcc12,hfr12⟩:=Kd.Q_elem HX6.out z33 (x3_1:Int) oT (by have h_:(x3_1:Int)<((x1_1.length:Int):Int):=oT;first|exact h_|(have e_:=(Kd.Q_reads' HO_1.out).1;omega)|simpa using h_);obtain rfl:=k33_openM hM12;have HP6:=Kd.Q_seg HX6.out (x3_1:Int) oT (by have h_:(x3_1:Int)<((x1_1.length:Int):Int):=oT;first|exact h_|(have e_:=(Kd.Q_reads' HO_1.out).1;omega)|simpa using h_) (seg:= [O ((Int.tmod (wrap64 ((wrap64 ((wrap64 ((wrap64 ((wrap64 (x2_1+1))+1))+1))+1))+1)) 3)==0)]) (j:=5) hcl12 hcc12 (show 6≤6 from by decide) (x':=(⟨(rd_T33 y5 x3_1).f0,(rd_T33 y5 x3_1).f1,(rd_T33 y5 x3_1).f2,(rd_T33 y5 x3_1).f3,(rd_T33 y5 x3_1).f4,((Int.tmod (wrap64 ((wrap64 ((wrap64 ((wrap64 ((wrap64 (x2_1+1))+1))+1))+1))+1)) 3)==0)⟩:S33)) (k33_mkM _ _ _ (⟨(rd_T33 y5 x3_1).f0,(rd_T33 y5 x3_1).f1,(rd_T33 y5 x3_1).f2,(rd_T33 y5 x3_1).f3,(rd_T33 y5 x3_1).f4,((Int.tmod (wrap64 ((wrap64 ((wrap64 ((wrap64 ((wrap64 (x2_1+1))+1))+1))+1))+1)) 3)==0)⟩:S33)) (fun _ hk=>hk);have hx12_5:=hcc12 5 _ rfl;(try simp only[show(k33).sz=6 from rfl,Nat.mul_one,Nat.add_zero]at hx12_5);have hf12_5:=hfr12 5;(try simp only[show(k33).sz=6 from rfl,Nat.mul_one,Nat.add_zero]at hf12_5);(try clear hcl12);(try clear hcc12);(try clear hfr12);(try clear hM12))|((with_reducible refine gate_store (t:=4) (p:=55) rfl ?_);refine store_event (t:=4) (p:=55) (v:= ?vo_w6) (w1:=(w6.setCell ⟨go1,oo1+(x3_1:Int).toNat * 6+5,none⟩ (O ((Int.tmod (wrap64 ((wrap64 ((wrap64 ((wrap64 ((wrap64 (x2_1+1))+1))+1))+1))+1)) 3)==0)))) ?hg ?ho ?hn ?hr ?_;(case ho=>rfl);(case hg=>rfl);(case hn=>rfl);(case hr=>exact Fix.hr);intro w7 hw;have hg:w6.grownBy w7 (some go1):=(by rw[hw];exact HP6.2);have hp_:Kd.Q k33 33 w7 w0.heap.size (fun k_=>(P0_ k_∨w.heap.size≤k_)) (L (some ⟨go1,oo1,none⟩) x1_1.length co1) y6:=(by rw[hw,Ny6.out];exact HP6.1);clear HP6;replace HB:=C ((by rw[hw];exact below_set (HB.out) GB1.out:Below w0.heap.size w0 w7));replace HK:=C (Kept.of_grown (S:=(fun k_=>P0_ k_)) hg (show Kept w _ _ from uP) (fun k_ e_=>(HO_1.out.1 k_ e_)));replace HO_1:=C (hp_);clear hg hw hp_))
   go_roundg k1
   case measure=>have:=HK1.out;omega
   case rel=>exact⟨(y6),(wrap64 ((wrap64 ((wrap64 ((wrap64 ((wrap64 ((wrap64 (x2_1+1))+1))+1))+1))+1))+1)),(wrap64 (x3_1+1)),rS,rS,H',⟨by have:=HK1.out;omega⟩,⟨fQ HO_1.out⟩,⟨uP⟩,⟨uB⟩⟩
def laws_markIntS.l0:Nat→List Int→Int→Int→Option (Int×List Int)
  |0,_,_,_=>none
  |k+1,x0,x1,x5=>if x5<(x0.length:Int) then(if 0≤x5 then(laws_markIntS.l0 k (x0.set (x5:Int).toNat x1) (wrap64 (x1+1)) (wrap64 (x5+1))) else(none)) else(some (x1,x0))
def laws_markIntS.f (k:Nat) (l0:List Int) (a1:Int):Option (Int×List Int):=laws_markIntS.l0 k l0 a1 0
theorem laws_markIntS.calls (k:Nat) (P0_:Nat→Prop) (u9000_:Value) (l0:List Int) (a1:Int) (r1:Int) (r2:List Int) (w0 w:World) (hB:Below w0.heap.size w0 w) (ho0:Kd.Q (Kd.int .i64) 3 w w0.heap.size P0_ u9000_ l0) (h:laws_markIntS.f k l0 a1=some (r1,r2)):
 Calls prog 32 #[u9000_,V I a1] w fun e w'=>e=.returned (V I r1)∧Kd.Q (Kd.int .i64) 3 w' w0.heap.size (fun k_=>(P0_ k_∨w.heap.size≤k_)) u9000_ r2∧Below w0.heap.size w0 w'∧Kept w w' (fun k_=>P0_ k_):=by
 have HO1:=C (show Kd.Q (Kd.int .i64) 3 w w0.heap.size (fun k_=>(P0_ k_∨w.heap.size≤k_)) u9000_ l0 from Kd.Q_mono ho0 (fun k_ hk=>(.inl hk)))
 have HK:=C (Kept.refl w (fun k_=>P0_ k_))
 have HW1:=C hB.size
 have HB:=C hB
 clear hB
 have H:=h
 unfold laws_markIntS.f at H
 clear h
 have H':=C H
 clear H
 go_enter func32,ntmps32
 go_wp2
 go_loopg [1,5] k (fun kq v1 v5 w'=>∃(x1_1:List Int) (x2_1:Int) (x3_1:Int),v1=V I x2_1∧v5=V I x3_1∧D (laws_markIntS.l0 kq x1_1 x2_1 x3_1=some (r1,r2))∧D (kq≤k)∧D (Kd.Q (Kd.int .i64) 3 w' w0.heap.size (fun k_=>(P0_ k_∨w.heap.size≤k_)) u9000_ x1_1)∧D (Kept w w' (fun k_=>P0_ k_))∧D (Below w0.heap.size w0 w'))
 case atStart=>exact⟨(l0),(a1),(0),rS,rS,H',⟨Nat.le_refl _⟩,⟨fQ HO1.out⟩,⟨uP⟩,⟨uB⟩⟩
 case round=>
  clear H'
  obtain⟨x1_1,x2_1,x3_1,rfl,rfl,HA,HK1,HO_1,HK,HB⟩:=hrel
  cases gk with
  |zero=>exact absurd HA.out (by simp[laws_markIntS.l0])
  |succ k1=>
   have H:=HA.out
   clear HA
   simp only[laws_markIntS.l0]at H
   by_cases c1:x3_1<(x1_1.length:Int)
   rotate_left
   ·rw[if_neg c1]at H
    replace c1:=decide_eq_false c1
    simp only[Option.some.injEq,Prod.mk.injEq]at H
    obtain⟨rfl,rfl⟩:=H
    obtain⟨Ao1,co1,eo1,_⟩:=Kd.Q_slice HO_1.out
    subst eo1
    go_wp2
    go_ret
    exact⟨rE,fQ HO_1.out,uB,uP⟩
   rw[if_pos c1]at H
   replace c1:=decide_eq_true c1
   obtain⟨c2,H⟩:=np H
   replace c2:=decide_eq_true c2
   obtain⟨y1,hy1⟩:∃y_:List Int,y_=(x1_1.set (x3_1:Int).toNat x2_1):=⟨_,rfl⟩
   replace H:(laws_markIntS.l0 k1 y1 (wrap64 (x2_1+1)) (wrap64 (x3_1+1)))=some (r1,r2):=gy hy1 H
   have Ny1:=C hy1
   clear hy1
   have H':=C H
   clear H
   obtain⟨Ao1,co1,eo1,_⟩:=Kd.Q_slice HO_1.out
   subst eo1
   have p1:0≤(x3_1:Int):=oT
   have q1:(x3_1:Int)<((x1_1.length:Int):Int):=oT
   obtain⟨go1,oo1,co2,eo2,gb1,gl1,cl1,HG1⟩:=Kd.Q_form HO_1.out (by omega)
   (first|cases eo2|(injection eo2 with ea_ en_ ec_;(first|subst ea_|(injection ea_ with ea_;subst ea_));subst ec_;clear en_))
   have GB1:=C gb1
   have GG1:=C HG1
   clear gb1 gl1 HG1
   have HMgo1:=C (show(P0_ go1∨w.heap.size≤go1) from(HO_1.out.1 _ rfl))
   obtain⟨hx1_0,hf1_0⟩:=Kd.Q_cell 0 HO_1.out (x3_1:Int) p1 q1
   replace p1:=eq_true p1
   replace q1:=eq_true q1
   have HP1:=Kd.Q_putg HO_1.out (x3_1:Int) oT (by have h_:(x3_1:Int)<((x1_1.length:Int):Int):=oT;first|exact h_|(have e_:=(Kd.Q_reads' HO_1.out).1;omega)|simpa using h_) x2_1
   go_wp2_with (first|((with_reducible refine gate_store (t:=3) (p:=15) rfl ?_);refine store_event (t:=3) (p:=15) (v:= ?vo_w1) (w1:=(wr.setCell ⟨go1,oo1+(x3_1:Int).toNat,none⟩ (V I x2_1))) ?hg ?ho ?hn ?hr ?_;(case ho=>rfl);(case hg=>rfl);(case hn=>rfl);(case hr=>exact Fix.hr);intro w2 hw;have hg:wr.grownBy w2 (some go1):=(by rw[hw];exact HP1.2);have hp_:Kd.Q (Kd.int .i64) 3 w2 w0.heap.size (fun k_=>(P0_ k_∨w.heap.size≤k_)) (L (some ⟨go1,oo1,none⟩) x1_1.length co1) y1:=(by rw[hw,Ny1.out];exact HP1.1);clear HP1;replace HB:=C ((by rw[hw];exact below_set (HB.out) GB1.out:Below w0.heap.size w0 w2));replace HK:=C (Kept.of_grown (S:=(fun k_=>P0_ k_)) hg (show Kept w _ _ from uP) (fun k_ e_=>(HO_1.out.1 k_ e_)));replace HO_1:=C (hp_);clear hg hw hp_))
   go_roundg k1
   case measure=>have:=HK1.out;omega
   case rel=>exact⟨(y1),(wrap64 (x2_1+1)),(wrap64 (x3_1+1)),rS,rS,H',⟨by have:=HK1.out;omega⟩,⟨fQ HO_1.out⟩,⟨uP⟩,⟨uB⟩⟩
def laws_markLine.f (k:Nat) (a0_0:Int) (a0_1:Int) (l0_2:List Int) (l0_3:List Int) (a0_4:Int) (a0_5:Bool) (a1:Int):Option (Int×List Int×List Int):=(laws_markIntS.f k l0_2 a1).bind fun bt530=>((laws_markIntS.f k l0_3 bt530.1).bind fun bt532=>(some (bt532.1,bt530.2,bt532.2)))
theorem laws_markLine.calls (k:Nat) (a0_0:Int) (a0_1:Int) (P0_2_:Nat→Prop) (u9000_:Value) (l0_2:List Int) (P0_3_:Nat→Prop) (u9001_:Value) (l0_3:List Int) (a0_4:Int) (a0_5:Bool) (a1:Int) (r1:Int) (r2:List Int) (r3:List Int) (w0 w:World) (hB:Below w0.heap.size w0 w) (ho0_2:Kd.Q (Kd.int .i64) 3 w w0.heap.size P0_2_ u9000_ l0_2) (hp0_2_0_3:∀k_,P0_2_ k_→ ¬P0_3_ k_) (ho0_3:Kd.Q (Kd.int .i64) 3 w w0.heap.size P0_3_ u9001_ l0_3) (hp0_3_0_2:∀k_,P0_3_ k_→ ¬P0_2_ k_) (h:laws_markLine.f k a0_0 a0_1 l0_2 l0_3 a0_4 a0_5 a1=some (r1,r2,r3)):
 Calls prog 78 #[G #[V I a0_0,V I a0_1,u9000_,u9001_,V I a0_4,O a0_5],V I a1] w fun e w'=>e=.returned (V I r1)∧Kd.Q (Kd.int .i64) 3 w' w0.heap.size (fun k_=>((P0_2_ k_∨P0_3_ k_)∨w.heap.size≤k_)) u9000_ r2∧Kd.Q (Kd.int .i64) 3 w' w0.heap.size (fun k_=>((P0_2_ k_∨P0_3_ k_)∨w.heap.size≤k_)) u9001_ r3∧Below w0.heap.size w0 w'∧Kept w w' (fun k_=>P0_2_ k_∨P0_3_ k_):=by
 have hu1:=underlying34
 have HO1_2:=C (show Kd.Q (Kd.int .i64) 3 w w0.heap.size (fun k_=>((P0_2_ k_∨P0_3_ k_)∨w.heap.size≤k_)∧qm k_ u9001_) u9000_ l0_2 from Kd.Q_mono ho0_2 (fun k_ hk=>⟨(.inl (.inl hk)),fun e_=>hp0_2_0_3 k_ hk (ho0_3.1 k_ e_.symm)⟩))
 have HO1_3:=C (show Kd.Q (Kd.int .i64) 3 w w0.heap.size (fun k_=>((P0_2_ k_∨P0_3_ k_)∨w.heap.size≤k_)∧qm k_ u9000_) u9001_ l0_3 from Kd.Q_mono ho0_3 (fun k_ hk=>⟨(.inl (.inr hk)),fun e_=>hp0_3_0_2 k_ hk (ho0_2.1 k_ e_.symm)⟩))
 have HK:=C (Kept.refl w (fun k_=>P0_2_ k_∨P0_3_ k_))
 have HW1:=C hB.size
 have HB:=C hB
 clear hB
 have H:=h
 unfold laws_markLine.f at H
 clear h
 obtain⟨⟨t1,t2⟩,A1,H⟩:=bnd H
 dsimp only at H
 obtain⟨⟨t3,t4⟩,A2,H⟩:=bnd H
 dsimp only at H
 simp only[Option.some.injEq,Prod.mk.injEq]at H
 obtain⟨rfl,rfl,rfl⟩:=H
 obtain⟨Ao1,co1,eo1,_⟩:=Kd.Q_slice HO1_2.out
 subst eo1
 obtain⟨Ao2,co2,eo2,_⟩:=Kd.Q_slice HO1_3.out
 subst eo2
 go_enter func78,ntmps78
 go_wp2_with (first|((with_reducible refine J (N:=2) rfl ?_);refine Fix.be 2 #[V I a0_0,V I a0_1,L Ao1 l0_2.length co1,L Ao2 l0_3.length co2,V I a0_4,O a0_5] 34 ?_;intro gb1 hg w1 BK1 hb;have GW1:=C ((by rw[hg];exact(by first|exact HK.out.1|exact(show Kept w _ (fun k_=>P0_2_ k_∨P0_3_ k_) from uP).1):w.heap.size≤gb1));have GE1:D (w0.heap.size≤gb1):=gE hg;replace HO1_2:=eQ HO1_2 hb;replace HO1_3:=eQ HO1_3 hb;replace HK:=C (Kept.below (S:=(fun k_=>P0_2_ k_∨P0_3_ k_)) (show Kept w _ _ from uP) hb);replace HB:=eB hb;clear hb hg;obtain⟨_,_,_,_,_,_,_,_,_,_,_,_⟩:=d6 BK1.out)|((with_reducible refine F (f:=32) rfl ?_);refine gl 32 (some 8) func32 #[L Ao1 l0_2.length co1,V I a1] ?_;(with_reducible refine(laws_markIntS.calls k (fun k_=>some k_=(L Ao1 l0_2.length co1:Value).ownBlock) (L Ao1 l0_2.length co1) l0_2 a1 t1 t2 w0 _ ?side1 ?side2 A1.out).mono ?_);(case side1=>exact uB);(case side2=>exact Kd.Q_tight rfl HO1_2.out);rintro e w2 ⟨rfl,hy1,hb,hkp⟩;refine⟨_,rfl,?_⟩;replace HO1_3:=C (Kd.Q_mono (ok':=fun k_=>((P0_2_ k_∨P0_3_ k_)∨w.heap.size≤k_)∧qn k_ Ao1 l0_2.length co1) (Kd.Q_keptB (HO1_3.out) hkp (fun k_ hk_ hs_=>(hk_.2) hs_)) pj);replace BK1:=C (blk_kept (uK BK1.out) hkp (fun hs_=>(fun e_=>(Kd.Q_ne HO1_2.out BK1.out (by decide)) e_) hs_));replace HK:=C (Kept.then_ (S:=(fun k_=>P0_2_ k_∨P0_3_ k_)) (show Kept w _ _ from uP) hkp (fun k_ hs_=>(fun e_=>(HO1_2.out.1 k_ e_.symm).1) hs_));replace HO1_2:=C (Ext.Q_reok rfl hy1 (fun k_ e_=>HO1_2.out.1 k_ e_));replace HB:=C (hb);clear hb;(try clear hkp);(try clear hy1);obtain⟨_,_,_,_,_,_,_,_,_,_,_,_⟩:=d6 BK1.out)|((with_reducible refine F (f:=32) rfl ?_);refine gl 32 (some 12) func32 #[L Ao2 l0_3.length co2,V I t1] ?_;(with_reducible refine(laws_markIntS.calls k (fun k_=>some k_=(L Ao2 l0_3.length co2:Value).ownBlock) (L Ao2 l0_3.length co2) l0_3 t1 t3 t4 w0 _ ?side1 ?side2 A2.out).mono ?_);(case side1=>exact uB);(case side2=>exact Kd.Q_tight rfl HO1_3.out);rintro e w3 ⟨rfl,hy1,hb,hkp⟩;refine⟨_,rfl,?_⟩;replace HO1_2:=C (Kd.Q_mono (ok':=fun k_=>((P0_2_ k_∨P0_3_ k_)∨w.heap.size≤k_)∧qn k_ Ao2 l0_3.length co2) (Kd.Q_keptB (HO1_2.out) hkp (fun k_ hk_ hs_=>(hk_.2) hs_)) pj);replace BK1:=C (blk_kept (uK BK1.out) hkp (fun hs_=>(fun e_=>(Kd.Q_ne HO1_3.out BK1.out (by decide)) e_) hs_));replace HK:=C (Kept.then_ (S:=(fun k_=>P0_2_ k_∨P0_3_ k_)) (show Kept w _ _ from uP) hkp (fun k_ hs_=>(fun e_=>(HO1_3.out.1 k_ e_.symm).1) hs_));replace HO1_3:=C (Ext.Q_reok rfl hy1 (fun k_ e_=>HO1_3.out.1 k_ e_));replace HB:=C (hb);clear hb;(try clear hkp);(try clear hy1)))
 go_ret
 exact⟨rE,Kd.Q_mono (fQ HO1_2.out) (fun _ hk=>hk.1),Kd.Q_mono (fQ HO1_3.out) (fun _ hk=>hk.1),uB,uP⟩
def laws_markMachine.f (k:Nat) (l0_0:List (S33)) (a0_1:Int) (a0_2:Int) (a0_3:Int) (a0_4:Bool) (a0_5:Int) (a0_6:Bool) (a0_7:Int) (a0_8:Int) (l0_9:List Int) (l0_10:List Int) (a0_11:Int) (a0_12:Bool) (a0_13:Int) (a1:Int):Option (Int×(List (S33))×List Int×List Int):=(laws_markJobS.f k l0_0 a1).bind fun bt535=>((laws_markLine.f k a0_7 a0_8 l0_9 l0_10 a0_11 a0_12 bt535.1).bind fun bt537=>(some (bt537.1,bt535.2,bt537.2.1,bt537.2.2)))
theorem laws_markMachine.calls (k:Nat) (P0_0_:Nat→Prop) (u9000_:Value) (l0_0:List (S33)) (a0_1:Int) (a0_2:Int) (a0_3:Int) (a0_4:Bool) (a0_5:Int) (a0_6:Bool) (a0_7:Int) (a0_8:Int) (P0_9_:Nat→Prop) (u9001_:Value) (l0_9:List Int) (P0_10_:Nat→Prop) (u9002_:Value) (l0_10:List Int) (a0_11:Int) (a0_12:Bool) (a0_13:Int) (a1:Int) (r1:Int) (r2:List (S33)) (r3:List Int) (r4:List Int) (w0 w:World) (hB:Below w0.heap.size w0 w) (ho0_0:Kd.Q k33 33 w w0.heap.size P0_0_ u9000_ l0_0) (ho0_9:Kd.Q (Kd.int .i64) 3 w w0.heap.size P0_9_ u9001_ l0_9) (hp0_9_0_10:∀k_,P0_9_ k_→ ¬P0_10_ k_) (ho0_10:Kd.Q (Kd.int .i64) 3 w w0.heap.size P0_10_ u9002_ l0_10) (hp0_10_0_9:∀k_,P0_10_ k_→ ¬P0_9_ k_) (h:laws_markMachine.f k l0_0 a0_1 a0_2 a0_3 a0_4 a0_5 a0_6 a0_7 a0_8 l0_9 l0_10 a0_11 a0_12 a0_13 a1=some (r1,r2,r3,r4)):
 Calls prog 22 #[G #[u9000_,V I a0_1,V I a0_2,V I a0_3,O a0_4,V I a0_5,O a0_6,V I a0_7,V I a0_8,u9001_,u9002_,V I a0_11,O a0_12,V I a0_13],V I a1] w fun e w'=>e=.returned (V I r1)∧Kd.Q k33 33 w' w0.heap.size (fun k_=>((P0_0_ k_∨P0_9_ k_∨P0_10_ k_)∨w.heap.size≤k_)) u9000_ r2∧Kd.Q (Kd.int .i64) 3 w' w0.heap.size (fun k_=>((P0_0_ k_∨P0_9_ k_∨P0_10_ k_)∨w.heap.size≤k_)) u9001_ r3∧Kd.Q (Kd.int .i64) 3 w' w0.heap.size (fun k_=>((P0_0_ k_∨P0_9_ k_∨P0_10_ k_)∨w.heap.size≤k_)) u9002_ r4∧Below w0.heap.size w0 w'∧Kept w w' (fun k_=>P0_0_ k_∨P0_9_ k_∨P0_10_ k_):=by
 have hu1:=underlying36
 have hu2:=underlying34
 have HO1_0:=C (show Kd.Q k33 33 w w0.heap.size (fun k_=>((P0_0_ k_∨P0_9_ k_∨P0_10_ k_)∨w.heap.size≤k_)) u9000_ l0_0 from Kd.Q_mono ho0_0 (fun k_ hk=>(.inl (.inl hk))))
 have HO1_9:=C (show Kd.Q (Kd.int .i64) 3 w w0.heap.size (fun k_=>((P0_0_ k_∨P0_9_ k_∨P0_10_ k_)∨w.heap.size≤k_)∧qm k_ u9002_) u9001_ l0_9 from Kd.Q_mono ho0_9 (fun k_ hk=>⟨(.inl (.inr (.inl hk))),fun e_=>hp0_9_0_10 k_ hk (ho0_10.1 k_ e_.symm)⟩))
 have HO1_10:=C (show Kd.Q (Kd.int .i64) 3 w w0.heap.size (fun k_=>((P0_0_ k_∨P0_9_ k_∨P0_10_ k_)∨w.heap.size≤k_)∧qm k_ u9001_) u9002_ l0_10 from Kd.Q_mono ho0_10 (fun k_ hk=>⟨(.inl (.inr (.inr hk))),fun e_=>hp0_10_0_9 k_ hk (ho0_9.1 k_ e_.symm)⟩))
 have HK:=C (Kept.refl w (fun k_=>P0_0_ k_∨P0_9_ k_∨P0_10_ k_))
 have HW1:=C hB.size
 have HB:=C hB
 clear hB
 have H:=h
 unfold laws_markMachine.f at H
 clear h
 obtain⟨⟨t1,t2⟩,A1,H⟩:=bnd H
 dsimp only at H
 obtain⟨⟨t3,t4,t5⟩,A2,H⟩:=bnd H
 dsimp only at H
 simp only[Option.some.injEq,Prod.mk.injEq]at H
 obtain⟨rfl,rfl,rfl,rfl⟩:=H
 obtain⟨Ao1,co1,eo1,_⟩:=Kd.Q_slice HO1_0.out
 subst eo1
 obtain⟨Ao2,co2,eo2,_⟩:=Kd.Q_slice HO1_9.out
 subst eo2
 obtain⟨Ao3,co3,eo3,_⟩:=Kd.Q_slice HO1_10.out
 subst eo3
 go_enter func22,ntmps22
 go_wp2_with (first|((with_reducible refine J (N:=2) rfl ?_);refine Fix.be 2 #[L Ao1 l0_0.length co1,V I a0_1,V I a0_2,V I a0_3,O a0_4,V I a0_5,O a0_6,V I a0_7,V I a0_8,L Ao2 l0_9.length co2,L Ao3 l0_10.length co3,V I a0_11,O a0_12,V I a0_13] 36 ?_;intro gb1 hg w1 BK1 hb;have GW1:=C ((by rw[hg];exact(by first|exact HK.out.1|exact(show Kept w _ (fun k_=>P0_0_ k_∨P0_9_ k_∨P0_10_ k_) from uP).1):w.heap.size≤gb1));have GE1:D (w0.heap.size≤gb1):=gE hg;replace HO1_0:=eQ HO1_0 hb;replace HO1_9:=eQ HO1_9 hb;replace HO1_10:=eQ HO1_10 hb;replace HK:=C (Kept.below (S:=(fun k_=>P0_0_ k_∨P0_9_ k_∨P0_10_ k_)) (show Kept w _ _ from uP) hb);replace HB:=eB hb;clear hb hg;obtain⟨_,_,_,_,_,_,_,_,_,_,_,_,_,_,_,_,_,_,_,_,_,_,_,_,_,_,_,_⟩:=d14 BK1.out)|((with_reducible refine F (f:=77) rfl ?_);refine gl 77 (some 8) func77 #[L Ao1 l0_0.length co1,V I a1] ?_;(with_reducible refine(laws_markJobS.calls k (fun k_=>some k_=(L Ao1 l0_0.length co1:Value).ownBlock) (L Ao1 l0_0.length co1) l0_0 a1 t1 t2 w0 _ ?side1 ?side2 A1.out).mono ?_);(case side1=>exact uB);(case side2=>exact Kd.Q_tight rfl HO1_0.out);rintro e w2 ⟨rfl,hy1,hb,hkp⟩;refine⟨_,rfl,?_⟩;replace HO1_9:=C (Kd.Q_mono (ok':=fun k_=>((P0_0_ k_∨P0_9_ k_∨P0_10_ k_)∨w.heap.size≤k_)∧qn k_ Ao3 l0_10.length co3) (Kd.Q_keptB ((Kd.Q_apart' HO1_9.out (Kd.Q_typed HO1_0.out) (by decide))) hkp (fun k_ hk_ hs_=>(hk_.2) hs_)) pj);replace HO1_10:=C (Kd.Q_mono (ok':=fun k_=>((P0_0_ k_∨P0_9_ k_∨P0_10_ k_)∨w.heap.size≤k_)∧qn k_ Ao2 l0_9.length co2) (Kd.Q_keptB ((Kd.Q_apart' HO1_10.out (Kd.Q_typed HO1_0.out) (by decide))) hkp (fun k_ hk_ hs_=>(hk_.2) hs_)) pj);replace BK1:=C (blk_kept (uK BK1.out) hkp (fun hs_=>(fun e_=>(Kd.Q_ne HO1_0.out BK1.out (by decide)) e_) hs_));replace HK:=C (Kept.then_ (S:=(fun k_=>P0_0_ k_∨P0_9_ k_∨P0_10_ k_)) (show Kept w _ _ from uP) hkp (fun k_ hs_=>(fun e_=>(HO1_0.out.1 k_ e_.symm)) hs_));replace HO1_0:=C (Ext.Q_reok rfl hy1 (fun k_ e_=>HO1_0.out.1 k_ e_));replace HB:=C (hb);clear hb;(try clear hkp);(try clear hy1);have h_:=d14 BK1.out;(repeat(obtain⟨_,h_⟩:=h_)))|((with_reducible refine F (f:=78) rfl ?_);refine gl 78 (some 12) func78 #[G #[V I a0_7,V I a0_8,L Ao2 l0_9.length co2,L Ao3 l0_10.length co3,V I a0_11,O a0_12],V I t1] ?_;(with_reducible refine(laws_markLine.calls k a0_7 a0_8 (fun k_=>some k_=(L Ao2 l0_9.length co2:Value).ownBlock) (L Ao2 l0_9.length co2) l0_9 (fun k_=>some k_=(L Ao3 l0_10.length co3:Value).ownBlock) (L Ao3 l0_10.length co3) l0_10 a0_11 a0_12 t1 t3 t4 t5 w0 _ ?side1 ?side2 ?side3 ?side4 ?side5 A2.out).mono ?_);(case side1=>exact uB);(case side2=>exact Kd.Q_tight rfl HO1_9.out);(case side3=>exact fun k_ e_=>(HO1_9.out.1 k_ e_.symm).2);(case side4=>exact Kd.Q_tight rfl HO1_10.out);(case side5=>exact fun k_ e_=>(HO1_10.out.1 k_ e_.symm).2);rintro e w3 ⟨rfl,hy1,hy2,hb,hkp⟩;refine⟨_,rfl,?_⟩;replace HO1_0:=C (Kd.Q_mono (ok':=fun k_=>((P0_0_ k_∨P0_9_ k_∨P0_10_ k_)∨w.heap.size≤k_)) (Kd.Q_keptB ((Kd.Q_apart' (Kd.Q_apart' HO1_0.out (Kd.Q_typed HO1_9.out) (by decide)) (Kd.Q_typed HO1_10.out) (by decide))) hkp (fun k_ hk_ hs_=>Or.elim hs_ (fun e_=>(hk_.1.2) e_) (fun e_=>(hk_.2) e_))) (fun k_ hk_=>hk_.1.1.1));replace BK1:=C (blk_kept (uK BK1.out) hkp (fun hs_=>Or.elim hs_ (fun e_=>(fun e_=>(Kd.Q_ne HO1_9.out BK1.out (by decide)) e_) e_) (fun e_=>(fun e_=>(Kd.Q_ne HO1_10.out BK1.out (by decide)) e_) e_)));replace HK:=C (Kept.then_ (S:=(fun k_=>P0_0_ k_∨P0_9_ k_∨P0_10_ k_)) (show Kept w _ _ from uP) hkp (fun k_ hs_=>Or.elim hs_ (fun e_=>(fun e_=>(HO1_9.out.1 k_ e_.symm).1) e_) (fun e_=>(fun e_=>(HO1_10.out.1 k_ e_.symm).1) e_)));replace HO1_9:=C (Ext.Q_reok rfl hy1 (fun k_ e_=>HO1_9.out.1 k_ e_));replace HO1_10:=C (Ext.Q_reok rfl hy2 (fun k_ e_=>HO1_10.out.1 k_ e_));replace HB:=C (hb);clear hb;(try clear hkp);(try clear hy1);(try clear hy2)))
 go_ret
 exact⟨rE,fQ HO1_0.out,Kd.Q_mono (fQ HO1_9.out) (fun _ hk=>hk.1),Kd.Q_mono (fQ HO1_10.out) (fun _ hk=>hk.1),uB,uP⟩
def laws_heldJobS.l0:Nat→List (S33)→Int→Int→Option (Int)
  |0,_,_,_=>none
  |k+1,x0,x1,x5=>if x5<(x0.length:Int) then(if 0≤x5 then(if((rd_T33 x0 x5).f0)=x1 then(if((rd_T33 x0 x5).f1)=(wrap64 (x1+1)) then(if((rd_T33 x0 x5).f2)=(wrap64 ((wrap64 (x1+1))+1)) then(if(((rd_T33 x0 x5).f3) !=((Int.tmod (wrap64 ((wrap64 ((wrap64 (x1+1))+1))+1)) 3)==0))=true then(some (-1)) else(if((rd_T33 x0 x5).f4)=(wrap64 ((wrap64 ((wrap64 ((wrap64 (x1+1))+1))+1))+1)) then(if(((rd_T33 x0 x5).f5) !=((Int.tmod (wrap64 ((wrap64 ((wrap64 ((wrap64 ((wrap64 (x1+1))+1))+1))+1))+1)) 3)==0))=true then(some (-1)) else(laws_heldJobS.l0 k x0 (wrap64 ((wrap64 ((wrap64 ((wrap64 ((wrap64 ((wrap64 (x1+1))+1))+1))+1))+1))+1)) (wrap64 (x5+1)))) else(some (-1)))) else(some (-1))) else(some (-1))) else(some (-1))) else(none)) else(some x1)
def laws_heldJobS.f (k:Nat) (l0:List (S33)) (a1:Int):Option (Int):=laws_heldJobS.l0 k l0 a1 0
theorem laws_heldJobS.W1 {p:Prop} (h:p:=by
 go_wp2
 go_ret
 exact⟨by first|rfl|(simp;done)|(simp[*];done),by repeat(first|exact Drawn0.refl _|apply Drawn0.step)⟩):p:=h
theorem laws_heldJobS.calls (k:Nat) (A0:Option Addr) (c0:Nat) (l0:List (S33)) (a1:Int) (r:Int) (w:World) (hr0:Kd.C k33 w A0 l0.length l0) (hc0:l0.length≤c0) (h:laws_heldJobS.f k l0 a1=some r):
 Calls prog 79 #[L A0 l0.length c0,V I a1] w fun e w'=>e=.returned (V I r)∧Drawn0 w w':=by
 have HR1:=C hr0
 have HC1:=C hc0
 (try clear hr0);(try clear hc0)
 have H:=h
 unfold laws_heldJobS.f at H
 clear h
 have H':=C H
 clear H
 go_enter func79,ntmps79
 go_wp2
 go_loopg [1,5] k (fun kq v1 v5 w'=>∃(x1_1:Int) (x2_1:Int),v1=V I x1_1∧v5=V I x2_1∧D (laws_heldJobS.l0 kq l0 x1_1 x2_1=some r)∧D (kq≤k)∧Drawn0 w w')
 case atStart=>exact⟨(a1),(0),rS,rS,H',⟨Nat.le_refl _⟩,by repeat(first|exact Drawn0.refl _|apply Drawn0.step)⟩
 case round=>
  clear H'
  obtain⟨x1_1,x2_1,rfl,rfl,HA,HK1,⟨m1,rfl⟩⟩:=hrel
  cases gk with
  |zero=>exact absurd HA.out (by simp[laws_heldJobS.l0])
  |succ k1=>
   have H:=HA.out
   clear HA
   simp only[laws_heldJobS.l0]at H
   by_cases c1:x2_1<(l0.length:Int)
   rotate_left
   ·rw[if_neg c1]at H
    replace c1:=decide_eq_false c1
    obtain rfl:=si H
    exact laws_heldJobS.W1
   rw[if_pos c1]at H
   replace c1:=decide_eq_true c1
   obtain⟨c2,H⟩:=np H
   replace c2:=decide_eq_true c2
   by_cases c3:((rd_T33 l0 x2_1).f0)=x1_1
   rotate_left
   ·rw[if_neg c3]at H
    have c3b0:(((rd_T33 l0 x2_1).f0)==x1_1)=false:=beq_eq_false_iff_ne.mpr c3
    have c3b1:(((rd_T33 l0 x2_1).f0) !=x1_1)=true:=bne_iff_ne.mpr c3
    obtain rfl:=si H
    have p1:0≤(x2_1:Int):=oT
    have q1:x2_1<(l0.length:Int):=oT
    obtain⟨ad1,e1,hx1_0,hx1_1,hx1_2,hx1_3,hx1_4,hx1_5⟩:=at_T33 HR1.out x2_1 p1 q1
    cases e1
    replace p1:=eq_true p1
    replace q1:=eq_true q1
    exact laws_heldJobS.W1
   rw[if_pos c3]at H
   have c3b0:(((rd_T33 l0 x2_1).f0)==x1_1)=true:=beq_iff_eq.mpr c3
   have c3b1:(((rd_T33 l0 x2_1).f0) !=x1_1)=false:=bne_eq_false_iff_eq.mpr c3
   clear c3
   by_cases c4:((rd_T33 l0 x2_1).f1)=(wrap64 (x1_1+1))
   rotate_left
   ·rw[if_neg c4]at H
    have c4b0:(((rd_T33 l0 x2_1).f1)==(wrap64 (x1_1+1)))=false:=beq_eq_false_iff_ne.mpr c4
    have c4b1:(((rd_T33 l0 x2_1).f1) !=(wrap64 (x1_1+1)))=true:=bne_iff_ne.mpr c4
    obtain rfl:=si H
    have p1:0≤(x2_1:Int):=oT
    have q1:x2_1<(l0.length:Int):=oT
    obtain⟨ad1,e1,hx1_0,hx1_1,hx1_2,hx1_3,hx1_4,hx1_5⟩:=at_T33 HR1.out x2_1 p1 q1
    cases e1
    replace p1:=eq_true p1
    replace q1:=eq_true q1
    have p2:0≤(x2_1:Int):=oT
    have q2:x2_1<(l0.length:Int):=oT
    obtain⟨ad2,e2,hx2_0,hx2_1,hx2_2,hx2_3,hx2_4,hx2_5⟩:=at_T33 HR1.out x2_1 p2 q2
    obtain rfl:ad1=ad2:=(by injection e2)
    replace p2:=eq_true p2
    replace q2:=eq_true q2
    exact laws_heldJobS.W1
   rw[if_pos c4]at H
   have c4b0:(((rd_T33 l0 x2_1).f1)==(wrap64 (x1_1+1)))=true:=beq_iff_eq.mpr c4
   have c4b1:(((rd_T33 l0 x2_1).f1) !=(wrap64 (x1_1+1)))=false:=bne_eq_false_iff_eq.mpr c4
   clear c4
   by_cases c5:((rd_T33 l0 x2_1).f2)=(wrap64 ((wrap64 (x1_1+1))+1))
   rotate_left
   ·rw[if_neg c5]at H
    have c5b0:(((rd_T33 l0 x2_1).f2)==(wrap64 ((wrap64 (x1_1+1))+1)))=false:=beq_eq_false_iff_ne.mpr c5
    have c5b1:(((rd_T33 l0 x2_1).f2) !=(wrap64 ((wrap64 (x1_1+1))+1)))=true:=bne_iff_ne.mpr c5
    obtain rfl:=si H
    have p1:0≤(x2_1:Int):=oT
    have q1:x2_1<(l0.length:Int):=oT
    obtain⟨ad1,e1,hx1_0,hx1_1,hx1_2,hx1_3,hx1_4,hx1_5⟩:=at_T33 HR1.out x2_1 p1 q1
    cases e1
    replace p1:=eq_true p1
    replace q1:=eq_true q1
    have p2:0≤(x2_1:Int):=oT
    have q2:x2_1<(l0.length:Int):=oT
    obtain⟨ad2,e2,hx2_0,hx2_1,hx2_2,hx2_3,hx2_4,hx2_5⟩:=at_T33 HR1.out x2_1 p2 q2
    obtain rfl:ad1=ad2:=(by injection e2)
    replace p2:=eq_true p2
    replace q2:=eq_true q2
    have p3:0≤(x2_1:Int):=oT
    have q3:x2_1<(l0.length:Int):=oT
    obtain⟨ad3,e3,hx3_0,hx3_1,hx3_2,hx3_3,hx3_4,hx3_5⟩:=at_T33 HR1.out x2_1 p3 q3
    obtain rfl:ad1=ad3:=(by injection e3)
    replace p3:=eq_true p3
    replace q3:=eq_true q3
    exact laws_heldJobS.W1
   rw[if_pos c5]at H
   have c5b0:(((rd_T33 l0 x2_1).f2)==(wrap64 ((wrap64 (x1_1+1))+1)))=true:=beq_iff_eq.mpr c5
   have c5b1:(((rd_T33 l0 x2_1).f2) !=(wrap64 ((wrap64 (x1_1+1))+1)))=false:=bne_eq_false_iff_eq.mpr c5
   clear c5
   by_cases c6:(((rd_T33 l0 x2_1).f3) !=((Int.tmod (wrap64 ((wrap64 ((wrap64 (x1_1+1))+1))+1)) 3)==0))=true
   ·rw[if_pos c6]at H
    have c6b0:(((rd_T33 l0 x2_1).f3) !=((Int.tmod (wrap64 ((wrap64 ((wrap64 (x1_1+1))+1))+1)) 3)==0))=true:=c6
    (try(have c6b1:decide (((rd_T33 l0 x2_1).f3)=((Int.tmod (wrap64 ((wrap64 ((wrap64 (x1_1+1))+1))+1)) 3)==0))=false:=by simpa using c6))
    (try(have c6b2:(((rd_T33 l0 x2_1).f3)==((Int.tmod (wrap64 ((wrap64 ((wrap64 (x1_1+1))+1))+1)) 3)==0))=false:=by simpa using c6))
    (try(have c6b3:¬(((rd_T33 l0 x2_1).f3)=((Int.tmod (wrap64 ((wrap64 ((wrap64 (x1_1+1))+1))+1)) 3)==0)):=by simpa using c6))
    clear c6
    obtain rfl:=si H
    have p1:0≤(x2_1:Int):=oT
    have q1:x2_1<(l0.length:Int):=oT
    obtain⟨ad1,e1,hx1_0,hx1_1,hx1_2,hx1_3,hx1_4,hx1_5⟩:=at_T33 HR1.out x2_1 p1 q1
    cases e1
    replace p1:=eq_true p1
    replace q1:=eq_true q1
    have p2:0≤(x2_1:Int):=oT
    have q2:x2_1<(l0.length:Int):=oT
    obtain⟨ad2,e2,hx2_0,hx2_1,hx2_2,hx2_3,hx2_4,hx2_5⟩:=at_T33 HR1.out x2_1 p2 q2
    obtain rfl:ad1=ad2:=(by injection e2)
    replace p2:=eq_true p2
    replace q2:=eq_true q2
    have p3:0≤(x2_1:Int):=oT
    have q3:x2_1<(l0.length:Int):=oT
    obtain⟨ad3,e3,hx3_0,hx3_1,hx3_2,hx3_3,hx3_4,hx3_5⟩:=at_T33 HR1.out x2_1 p3 q3
    obtain rfl:ad1=ad3:=(by injection e3)
    replace p3:=eq_true p3
    replace q3:=eq_true q3
    have p4:0≤(x2_1:Int):=oT
    have q4:x2_1<(l0.length:Int):=oT
    obtain⟨ad4,e4,hx4_0,hx4_1,hx4_2,hx4_3,hx4_4,hx4_5⟩:=at_T33 HR1.out x2_1 p4 q4
    obtain rfl:ad1=ad4:=(by injection e4)
    replace p4:=eq_true p4
    replace q4:=eq_true q4
    exact laws_heldJobS.W1
   rw[if_neg c6]at H
   have c6b0:(((rd_T33 l0 x2_1).f3) !=((Int.tmod (wrap64 ((wrap64 ((wrap64 (x1_1+1))+1))+1)) 3)==0))=false:=by simpa using c6
   (try(have c6b1:decide (((rd_T33 l0 x2_1).f3)=((Int.tmod (wrap64 ((wrap64 ((wrap64 (x1_1+1))+1))+1)) 3)==0))=true:=by simpa using c6))
   (try(have c6b2:(((rd_T33 l0 x2_1).f3)==((Int.tmod (wrap64 ((wrap64 ((wrap64 (x1_1+1))+1))+1)) 3)==0))=true:=by simpa using c6))
   clear c6
   by_cases c7:((rd_T33 l0 x2_1).f4)=(wrap64 ((wrap64 ((wrap64 ((wrap64 (x1_1+1))+1))+1))+1))
   rotate_left
   ·rw[if_neg c7]at H
    have c7b0:(((rd_T33 l0 x2_1).f4)==(wrap64 ((wrap64 ((wrap64 ((wrap64 (x1_1+1))+1))+1))+1)))=false:=beq_eq_false_iff_ne.mpr c7
    have c7b1:(((rd_T33 l0 x2_1).f4) !=(wrap64 ((wrap64 ((wrap64 ((wrap64 (x1_1+1))+1))+1))+1)))=true:=bne_iff_ne.mpr c7
    obtain rfl:=si H
    have p1:0≤(x2_1:Int):=oT
    have q1:x2_1<(l0.length:Int):=oT
    obtain⟨ad1,e1,hx1_0,hx1_1,hx1_2,hx1_3,hx1_4,hx1_5⟩:=at_T33 HR1.out x2_1 p1 q1
    cases e1
    replace p1:=eq_true p1
    replace q1:=eq_true q1
    have p2:0≤(x2_1:Int):=oT
    have q2:x2_1<(l0.length:Int):=oT
    obtain⟨ad2,e2,hx2_0,hx2_1,hx2_2,hx2_3,hx2_4,hx2_5⟩:=at_T33 HR1.out x2_1 p2 q2
    obtain rfl:ad1=ad2:=(by injection e2)
    replace p2:=eq_true p2
    replace q2:=eq_true q2
    have p3:0≤(x2_1:Int):=oT
    have q3:x2_1<(l0.length:Int):=oT
    obtain⟨ad3,e3,hx3_0,hx3_1,hx3_2,hx3_3,hx3_4,hx3_5⟩:=at_T33 HR1.out x2_1 p3 q3
    obtain rfl:ad1=ad3:=(by injection e3)
    replace p3:=eq_true p3
    replace q3:=eq_true q3
    have p4:0≤(x2_1:Int):=oT
    have q4:x2_1<(l0.length:Int):=oT
    obtain⟨ad4,e4,hx4_0,hx4_1,hx4_2,hx4_3,hx4_4,hx4_5⟩:=at_T33 HR1.out x2_1 p4 q4
    obtain rfl:ad1=ad4:=(by injection e4)
    replace p4:=eq_true p4
    replace q4:=eq_true q4
    have p5:0≤(x2_1:Int):=oT
    have q5:x2_1<(l0.length:Int):=oT
    obtain⟨ad5,e5,hx5_0,hx5_1,hx5_2,hx5_3,hx5_4,hx5_5⟩:=at_T33 HR1.out x2_1 p5 q5
    obtain rfl:ad1=ad5:=(by injection e5)
    replace p5:=eq_true p5
    replace q5:=eq_true q5
    exact laws_heldJobS.W1
   rw[if_pos c7]at H
   have c7b0:(((rd_T33 l0 x2_1).f4)==(wrap64 ((wrap64 ((wrap64 ((wrap64 (x1_1+1))+1))+1))+1)))=true:=beq_iff_eq.mpr c7
   have c7b1:(((rd_T33 l0 x2_1).f4) !=(wrap64 ((wrap64 ((wrap64 ((wrap64 (x1_1+1))+1))+1))+1)))=false:=bne_eq_false_iff_eq.mpr c7
   clear c7
   by_cases c8:(((rd_T33 l0 x2_1).f5) !=((Int.tmod (wrap64 ((wrap64 ((wrap64 ((wrap64 ((wrap64 (x1_1+1))+1))+1))+1))+1)) 3)==0))=true
   ·rw[if_pos c8]at H
    have c8b0:(((rd_T33 l0 x2_1).f5) !=((Int.tmod (wrap64 ((wrap64 ((wrap64 ((wrap64 ((wrap64 (x1_1+1))+1))+1))+1))+1)) 3)==0))=true:=c8
    (try(have c8b1:decide (((rd_T33 l0 x2_1).f5)=((Int.tmod (wrap64 ((wrap64 ((wrap64 ((wrap64 ((wrap64 (x1_1+1))+1))+1))+1))+1)) 3)==0))=false:=by simpa using c8))
    (try(have c8b2:(((rd_T33 l0 x2_1).f5)==((Int.tmod (wrap64 ((wrap64 ((wrap64 ((wrap64 ((wrap64 (x1_1+1))+1))+1))+1))+1)) 3)==0))=false:=by simpa using c8))
    (try(have c8b3:¬(((rd_T33 l0 x2_1).f5)=((Int.tmod (wrap64 ((wrap64 ((wrap64 ((wrap64 ((wrap64 (x1_1+1))+1))+1))+1))+1)) 3)==0)):=by simpa using c8))
    clear c8
    obtain rfl:=si H
    have p1:0≤(x2_1:Int):=oT
    have q1:x2_1<(l0.length:Int):=oT
    obtain⟨ad1,e1,hx1_0,hx1_1,hx1_2,hx1_3,hx1_4,hx1_5⟩:=at_T33 HR1.out x2_1 p1 q1
    cases e1
    replace p1:=eq_true p1
    replace q1:=eq_true q1
    have p2:0≤(x2_1:Int):=oT
    have q2:x2_1<(l0.length:Int):=oT
    obtain⟨ad2,e2,hx2_0,hx2_1,hx2_2,hx2_3,hx2_4,hx2_5⟩:=at_T33 HR1.out x2_1 p2 q2
    obtain rfl:ad1=ad2:=(by injection e2)
    replace p2:=eq_true p2
    replace q2:=eq_true q2
    have p3:0≤(x2_1:Int):=oT
    have q3:x2_1<(l0.length:Int):=oT
    obtain⟨ad3,e3,hx3_0,hx3_1,hx3_2,hx3_3,hx3_4,hx3_5⟩:=at_T33 HR1.out x2_1 p3 q3
    obtain rfl:ad1=ad3:=(by injection e3)
    replace p3:=eq_true p3
    replace q3:=eq_true q3
    have p4:0≤(x2_1:Int):=oT
    have q4:x2_1<(l0.length:Int):=oT
    obtain⟨ad4,e4,hx4_0,hx4_1,hx4_2,hx4_3,hx4_4,hx4_5⟩:=at_T33 HR1.out x2_1 p4 q4
    obtain rfl:ad1=ad4:=(by injection e4)
    replace p4:=eq_true p4
    replace q4:=eq_true q4
    have p5:0≤(x2_1:Int):=oT
    have q5:x2_1<(l0.length:Int):=oT
    obtain⟨ad5,e5,hx5_0,hx5_1,hx5_2,hx5_3,hx5_4,hx5_5⟩:=at_T33 HR1.out x2_1 p5 q5
    obtain rfl:ad1=ad5:=(by injection e5)
    replace p5:=eq_true p5
    replace q5:=eq_true q5
    have p6:0≤(x2_1:Int):=oT
    have q6:x2_1<(l0.length:Int):=oT
    obtain⟨ad6,e6,hx6_0,hx6_1,hx6_2,hx6_3,hx6_4,hx6_5⟩:=at_T33 HR1.out x2_1 p6 q6
    obtain rfl:ad1=ad6:=(by injection e6)
    replace p6:=eq_true p6
    replace q6:=eq_true q6
    exact laws_heldJobS.W1
   rw[if_neg c8]at H
   have c8b0:(((rd_T33 l0 x2_1).f5) !=((Int.tmod (wrap64 ((wrap64 ((wrap64 ((wrap64 ((wrap64 (x1_1+1))+1))+1))+1))+1)) 3)==0))=false:=by simpa using c8
   (try(have c8b1:decide (((rd_T33 l0 x2_1).f5)=((Int.tmod (wrap64 ((wrap64 ((wrap64 ((wrap64 ((wrap64 (x1_1+1))+1))+1))+1))+1)) 3)==0))=true:=by simpa using c8))
   (try(have c8b2:(((rd_T33 l0 x2_1).f5)==((Int.tmod (wrap64 ((wrap64 ((wrap64 ((wrap64 ((wrap64 (x1_1+1))+1))+1))+1))+1)) 3)==0))=true:=by simpa using c8))
   clear c8
   have H':=C H
   clear H
   have p1:0≤(x2_1:Int):=oT
   have q1:x2_1<(l0.length:Int):=oT
   obtain⟨ad1,e1,hx1_0,hx1_1,hx1_2,hx1_3,hx1_4,hx1_5⟩:=at_T33 HR1.out x2_1 p1 q1
   cases e1
   replace p1:=eq_true p1
   replace q1:=eq_true q1
   have p2:0≤(x2_1:Int):=oT
   have q2:x2_1<(l0.length:Int):=oT
   obtain⟨ad2,e2,hx2_0,hx2_1,hx2_2,hx2_3,hx2_4,hx2_5⟩:=at_T33 HR1.out x2_1 p2 q2
   obtain rfl:ad1=ad2:=(by injection e2)
   replace p2:=eq_true p2
   replace q2:=eq_true q2
   have p3:0≤(x2_1:Int):=oT
   have q3:x2_1<(l0.length:Int):=oT
   obtain⟨ad3,e3,hx3_0,hx3_1,hx3_2,hx3_3,hx3_4,hx3_5⟩:=at_T33 HR1.out x2_1 p3 q3
   obtain rfl:ad1=ad3:=(by injection e3)
   replace p3:=eq_true p3
   replace q3:=eq_true q3
   have p4:0≤(x2_1:Int):=oT
   have q4:x2_1<(l0.length:Int):=oT
   obtain⟨ad4,e4,hx4_0,hx4_1,hx4_2,hx4_3,hx4_4,hx4_5⟩:=at_T33 HR1.out x2_1 p4 q4
   obtain rfl:ad1=ad4:=(by injection e4)
   replace p4:=eq_true p4
   replace q4:=eq_true q4
   have p5:0≤(x2_1:Int):=oT
   have q5:x2_1<(l0.length:Int):=oT
   obtain⟨ad5,e5,hx5_0,hx5_1,hx5_2,hx5_3,hx5_4,hx5_5⟩:=at_T33 HR1.out x2_1 p5 q5
   obtain rfl:ad1=ad5:=(by injection e5)
   replace p5:=eq_true p5
   replace q5:=eq_true q5
   have p6:0≤(x2_1:Int):=oT
   have q6:x2_1<(l0.length:Int):=oT
   obtain⟨ad6,e6,hx6_0,hx6_1,hx6_2,hx6_3,hx6_4,hx6_5⟩:=at_T33 HR1.out x2_1 p6 q6
   obtain rfl:ad1=ad6:=(by injection e6)
   replace p6:=eq_true p6
   replace q6:=eq_true q6
   go_wp2
   go_roundg k1
   case measure=>have:=HK1.out;omega
   case rel=>exact⟨(wrap64 ((wrap64 ((wrap64 ((wrap64 ((wrap64 ((wrap64 (x1_1+1))+1))+1))+1))+1))+1)),(wrap64 (x2_1+1)),rS,rS,H',⟨by have:=HK1.out;omega⟩,by repeat(first|exact Drawn0.refl _|apply Drawn0.step)⟩
def laws_heldIntS.l0:Nat→List Int→Int→Int→Option (Int)
  |0,_,_,_=>none
  |k+1,x0,x1,x5=>if x5<(x0.length:Int) then(if 0≤x5 then(if(rd x0 x5)=x1 then(laws_heldIntS.l0 k x0 (wrap64 (x1+1)) (wrap64 (x5+1))) else(some (-1))) else(none)) else(some x1)
def laws_heldIntS.f (k:Nat) (l0:List Int) (a1:Int):Option (Int):=laws_heldIntS.l0 k l0 a1 0
theorem laws_heldIntS.W1 {p:Prop} (h:p:=by
 go_wp2
 go_ret
 exact⟨by first|rfl|(simp;done)|(simp[*];done),by repeat(first|exact Drawn0.refl _|apply Drawn0.step)⟩):p:=h
theorem laws_heldIntS.calls (k:Nat) (A0:Option Addr) (c0:Nat) (l0:List Int) (a1:Int) (r:Int) (w:World) (hr0:Kd.C (Kd.int .i64) w A0 l0.length l0) (hc0:l0.length≤c0) (h:laws_heldIntS.f k l0 a1=some r):
 Calls prog 33 #[L A0 l0.length c0,V I a1] w fun e w'=>e=.returned (V I r)∧Drawn0 w w':=by
 have HR1:=C hr0
 have HC1:=C hc0
 (try clear hr0);(try clear hc0)
 have H:=h
 unfold laws_heldIntS.f at H
 clear h
 have H':=C H
 clear H
 go_enter func33,ntmps33
 go_wp2
 go_loopg [1,5] k (fun kq v1 v5 w'=>∃(x1_1:Int) (x2_1:Int),v1=V I x1_1∧v5=V I x2_1∧D (laws_heldIntS.l0 kq l0 x1_1 x2_1=some r)∧D (kq≤k)∧Drawn0 w w')
 case atStart=>exact⟨(a1),(0),rS,rS,H',⟨Nat.le_refl _⟩,by repeat(first|exact Drawn0.refl _|apply Drawn0.step)⟩
 case round=>
  clear H'
  obtain⟨x1_1,x2_1,rfl,rfl,HA,HK1,⟨m1,rfl⟩⟩:=hrel
  cases gk with
  |zero=>exact absurd HA.out (by simp[laws_heldIntS.l0])
  |succ k1=>
   have H:=HA.out
   clear HA
   simp only[laws_heldIntS.l0]at H
   by_cases c1:x2_1<(l0.length:Int)
   rotate_left
   ·rw[if_neg c1]at H
    replace c1:=decide_eq_false c1
    obtain rfl:=si H
    exact laws_heldIntS.W1
   rw[if_pos c1]at H
   replace c1:=decide_eq_true c1
   obtain⟨c2,H⟩:=np H
   replace c2:=decide_eq_true c2
   by_cases c3:(rd l0 x2_1)=x1_1
   rotate_left
   ·rw[if_neg c3]at H
    have c3b0:((rd l0 x2_1)==x1_1)=false:=beq_eq_false_iff_ne.mpr c3
    have c3b1:((rd l0 x2_1) !=x1_1)=true:=bne_iff_ne.mpr c3
    obtain rfl:=si H
    have p1:0≤(x2_1:Int):=oT
    have q1:x2_1<(l0.length:Int):=oT
    obtain⟨ad1,e1,hx1_0⟩:=Kd.at_int HR1.out x2_1 p1 q1
    cases e1
    replace p1:=eq_true p1
    replace q1:=eq_true q1
    exact laws_heldIntS.W1
   rw[if_pos c3]at H
   have c3b0:((rd l0 x2_1)==x1_1)=true:=beq_iff_eq.mpr c3
   have c3b1:((rd l0 x2_1) !=x1_1)=false:=bne_eq_false_iff_eq.mpr c3
   clear c3
   have H':=C H
   clear H
   have p1:0≤(x2_1:Int):=oT
   have q1:x2_1<(l0.length:Int):=oT
   obtain⟨ad1,e1,hx1_0⟩:=Kd.at_int HR1.out x2_1 p1 q1
   cases e1
   replace p1:=eq_true p1
   replace q1:=eq_true q1
   go_wp2
   go_roundg k1
   case measure=>have:=HK1.out;omega
   case rel=>exact⟨(wrap64 (x1_1+1)),(wrap64 (x2_1+1)),rS,rS,H',⟨by have:=HK1.out;omega⟩,by repeat(first|exact Drawn0.refl _|apply Drawn0.step)⟩
def laws_heldLine.f (k:Nat) (a0_0:Int) (a0_1:Int) (l0_2:List Int) (l0_3:List Int) (a0_4:Int) (a0_5:Bool) (a1:Int):Option (Int):=(laws_heldIntS.f k l0_2 a1).bind fun t548=>(if t548<0 then(some (-1)) else((laws_heldIntS.f k l0_3 t548).bind fun t549=>(if t549<0 then(some (-1)) else(some t549))))
theorem laws_heldLine.calls (k:Nat) (a0_0:Int) (a0_1:Int) (A0_2:Option Addr) (c0_2:Nat) (l0_2:List Int) (A0_3:Option Addr) (c0_3:Nat) (l0_3:List Int) (a0_4:Int) (a0_5:Bool) (a1:Int) (r:Int) (w:World) (hr0_2:Kd.C (Kd.int .i64) w A0_2 l0_2.length l0_2) (hc0_2:l0_2.length≤c0_2) (hr0_3:Kd.C (Kd.int .i64) w A0_3 l0_3.length l0_3) (hc0_3:l0_3.length≤c0_3) (h:laws_heldLine.f k a0_0 a0_1 l0_2 l0_3 a0_4 a0_5 a1=some r):
 Calls prog 80 #[G #[V I a0_0,V I a0_1,L A0_2 l0_2.length c0_2,L A0_3 l0_3.length c0_3,V I a0_4,O a0_5],V I a1] w fun e w'=>e=.returned (V I r)∧Below w.heap.size w w':=by
 have hu1:=underlying34
 have HR1_2:=C hr0_2
 have HC1_2:=C hc0_2
 (try clear hr0_2);(try clear hc0_2)
 have HR1_3:=C hr0_3
 have HC1_3:=C hc0_3
 (try clear hr0_3);(try clear hc0_3)
 have HB:=C (Below.refl w.heap.size w)
 have H:=h
 unfold laws_heldLine.f at H
 clear h
 obtain⟨t1,A1,H⟩:=bnd H
 by_cases c1:t1<0
 ·rw[if_pos c1]at H
  replace c1:=decide_eq_true c1
  obtain rfl:=si H
  go_enter func80,ntmps80
  go_wp2_with (first|((with_reducible refine J (N:=2) rfl ?_);refine Fix.be 2 #[V I a0_0,V I a0_1,L A0_2 l0_2.length c0_2,L A0_3 l0_3.length c0_3,V I a0_4,O a0_5] 34 ?_;intro gb1 hg w1 BK1 hb;have GW1:=gE (w:=w) hg;have GE1:=GW1;replace HB:=eB hb;clear hb hg;obtain⟨_,_,_,_,_,_,_,_,_,_,_,_⟩:=d6 BK1.out)|((with_reducible refine F (f:=33) rfl ?_);refine gl 33 (some 8) func33 #[L A0_2 l0_2.length c0_2,V I a1] ?_;(with_reducible refine(laws_heldIntS.calls k _ _ l0_2 a1 t1 _ ?side1 HC1_2.out A1.out).mono ?_);(case side1=>exact uZ HR1_2);rintro e w' ⟨rfl,⟨nd,rfl⟩⟩;refine⟨_,rfl,?_⟩))
  go_ret
  exact⟨rE,uB⟩
 rw[if_neg c1]at H
 replace c1:=decide_eq_false c1
 obtain⟨t2,A2,H⟩:=bnd H
 by_cases c2:t2<0
 ·rw[if_pos c2]at H
  replace c2:=decide_eq_true c2
  obtain rfl:=si H
  go_enter func80,ntmps80
  go_wp2_with (first|((with_reducible refine J (N:=2) rfl ?_);refine Fix.be 2 #[V I a0_0,V I a0_1,L A0_2 l0_2.length c0_2,L A0_3 l0_3.length c0_3,V I a0_4,O a0_5] 34 ?_;intro gb1 hg w1 BK1 hb;have GW1:=gE (w:=w) hg;have GE1:=GW1;replace HB:=eB hb;clear hb hg;obtain⟨_,_,_,_,_,_,_,_,_,_,_,_⟩:=d6 BK1.out)|((with_reducible refine F (f:=33) rfl ?_);refine gl 33 (some 8) func33 #[L A0_2 l0_2.length c0_2,V I a1] ?_;(with_reducible refine(laws_heldIntS.calls k _ _ l0_2 a1 t1 _ ?side1 HC1_2.out A1.out).mono ?_);(case side1=>exact uZ HR1_2);rintro e w' ⟨rfl,⟨nd,rfl⟩⟩;refine⟨_,rfl,?_⟩)|((with_reducible refine F (f:=33) rfl ?_);refine gl 33 (some 14) func33 #[L A0_3 l0_3.length c0_3,V I t1] ?_;(with_reducible refine(laws_heldIntS.calls k _ _ l0_3 t1 t2 _ ?side1 HC1_3.out A2.out).mono ?_);(case side1=>exact uC (Z HR1_3.out uB));rintro e w' ⟨rfl,⟨nd,rfl⟩⟩;refine⟨_,rfl,?_⟩))
  go_ret
  exact⟨rE,uB⟩
 rw[if_neg c2]at H
 replace c2:=decide_eq_false c2
 obtain rfl:=si H
 go_enter func80,ntmps80
 go_wp2_with (first|((with_reducible refine J (N:=2) rfl ?_);refine Fix.be 2 #[V I a0_0,V I a0_1,L A0_2 l0_2.length c0_2,L A0_3 l0_3.length c0_3,V I a0_4,O a0_5] 34 ?_;intro gb1 hg w1 BK1 hb;have GW1:=gE (w:=w) hg;have GE1:=GW1;replace HB:=eB hb;clear hb hg;obtain⟨_,_,_,_,_,_,_,_,_,_,_,_⟩:=d6 BK1.out)|((with_reducible refine F (f:=33) rfl ?_);refine gl 33 (some 8) func33 #[L A0_2 l0_2.length c0_2,V I a1] ?_;(with_reducible refine(laws_heldIntS.calls k _ _ l0_2 a1 t1 _ ?side1 HC1_2.out A1.out).mono ?_);(case side1=>exact uZ HR1_2);rintro e w' ⟨rfl,⟨nd,rfl⟩⟩;refine⟨_,rfl,?_⟩)|((with_reducible refine F (f:=33) rfl ?_);refine gl 33 (some 14) func33 #[L A0_3 l0_3.length c0_3,V I t1] ?_;(with_reducible refine(laws_heldIntS.calls k _ _ l0_3 t1 t2 _ ?side1 HC1_3.out A2.out).mono ?_);(case side1=>exact uC (Z HR1_3.out uB));rintro e w' ⟨rfl,⟨nd,rfl⟩⟩;refine⟨_,rfl,?_⟩))
 go_ret
 exact⟨rE,uB⟩
def laws_heldMachine.f (k:Nat) (l0_0:List (S33)) (a0_1:Int) (a0_2:Int) (a0_3:Int) (a0_4:Bool) (a0_5:Int) (a0_6:Bool) (a0_7:Int) (a0_8:Int) (l0_9:List Int) (l0_10:List Int) (a0_11:Int) (a0_12:Bool) (a0_13:Int) (a1:Int):Option (Int):=(laws_heldJobS.f k l0_0 a1).bind fun t551=>(if t551<0 then(some (-1)) else((laws_heldLine.f k a0_7 a0_8 l0_9 l0_10 a0_11 a0_12 t551).bind fun t552=>(if t552<0 then(some (-1)) else(some t552))))
theorem laws_heldMachine.W1 {p:Prop} (h:p:=by
 go_enter func23,ntmps23
 go_wp2_with (first|((with_reducible refine J (N:=2) rfl ?_);refine Fix.be 2 #[L A0_0 l0_0.length c0_0,V I a0_1,V I a0_2,V I a0_3,O a0_4,V I a0_5,O a0_6,V I a0_7,V I a0_8,L A0_9 l0_9.length c0_9,L A0_10 l0_10.length c0_10,V I a0_11,O a0_12,V I a0_13] 36 ?_;intro gb1 hg w1 BK1 hb;have GW1:=gE (w:=w) hg;replace HB:=eB hb;clear hb hg;obtain⟨_,_,_,_,_,_,_,_,_,_,_,_,_,_,_,_,_,_,_,_,_,_,_,_,_,_,_,_⟩:=d14 BK1.out)|((with_reducible refine F (f:=79) rfl ?_);refine gl 79 (some 8) func79 #[L A0_0 l0_0.length c0_0,V I a1] ?_;(with_reducible refine(laws_heldJobS.calls k _ _ l0_0 a1 t1 _ ?side1 HC1_0.out A1.out).mono ?_);(case side1=>exact uZ HR1_0);rintro e w' ⟨rfl,⟨nd,rfl⟩⟩;refine⟨_,rfl,?_⟩)|((with_reducible refine F (f:=80) rfl ?_);refine gl 80 (some 14) func80 #[G #[V I a0_7,V I a0_8,L A0_9 l0_9.length c0_9,L A0_10 l0_10.length c0_10,V I a0_11,O a0_12],V I t1] ?_;(with_reducible refine(laws_heldLine.calls k a0_7 a0_8 _ _ l0_9 _ _ l0_10 a0_11 a0_12 t1 t2 _ ?side1 HC1_9.out ?side3 HC1_10.out A2.out).mono ?_);(case side1=>exact uC (Z HR1_9.out uB));(case side3=>exact uC (Z HR1_10.out uB));rintro e w2 ⟨rfl,hb⟩;refine⟨_,rfl,?_⟩;replace BK1:=eK BK1 hb;replace HB:=eB hb;clear hb))
 go_ret
 exact⟨rE,uB⟩):p:=h
theorem laws_heldMachine.calls (k:Nat) (A0_0:Option Addr) (c0_0:Nat) (l0_0:List (S33)) (a0_1:Int) (a0_2:Int) (a0_3:Int) (a0_4:Bool) (a0_5:Int) (a0_6:Bool) (a0_7:Int) (a0_8:Int) (A0_9:Option Addr) (c0_9:Nat) (l0_9:List Int) (A0_10:Option Addr) (c0_10:Nat) (l0_10:List Int) (a0_11:Int) (a0_12:Bool) (a0_13:Int) (a1:Int) (r:Int) (w:World) (hr0_0:Kd.C k33 w A0_0 l0_0.length l0_0) (hc0_0:l0_0.length≤c0_0) (hr0_9:Kd.C (Kd.int .i64) w A0_9 l0_9.length l0_9) (hc0_9:l0_9.length≤c0_9) (hr0_10:Kd.C (Kd.int .i64) w A0_10 l0_10.length l0_10) (hc0_10:l0_10.length≤c0_10) (h:laws_heldMachine.f k l0_0 a0_1 a0_2 a0_3 a0_4 a0_5 a0_6 a0_7 a0_8 l0_9 l0_10 a0_11 a0_12 a0_13 a1=some r):
 Calls prog 23 #[G #[L A0_0 l0_0.length c0_0,V I a0_1,V I a0_2,V I a0_3,O a0_4,V I a0_5,O a0_6,V I a0_7,V I a0_8,L A0_9 l0_9.length c0_9,L A0_10 l0_10.length c0_10,V I a0_11,O a0_12,V I a0_13],V I a1] w fun e w'=>e=.returned (V I r)∧Below w.heap.size w w':=by
 have hu1:=underlying36
 have hu2:=underlying34
 have HR1_0:=C hr0_0
 have HC1_0:=C hc0_0
 (try clear hr0_0);(try clear hc0_0)
 have HR1_9:=C hr0_9
 have HC1_9:=C hc0_9
 (try clear hr0_9);(try clear hc0_9)
 have HR1_10:=C hr0_10
 have HC1_10:=C hc0_10
 (try clear hr0_10);(try clear hc0_10)
 have HB:=C (Below.refl w.heap.size w)
 have H:=h
 unfold laws_heldMachine.f at H
 clear h
 obtain⟨t1,A1,H⟩:=bnd H
 by_cases c1:t1<0
 ·rw[if_pos c1]at H
  replace c1:=decide_eq_true c1
  obtain rfl:=si H
  exact laws_heldMachine.W1
 rw[if_neg c1]at H
 replace c1:=decide_eq_false c1
 obtain⟨t2,A2,H⟩:=bnd H
 by_cases c2:t2<0
 ·rw[if_pos c2]at H
  replace c2:=decide_eq_true c2
  obtain rfl:=si H
  exact laws_heldMachine.W1
 rw[if_neg c2]at H
 replace c2:=decide_eq_false c2
 obtain rfl:=si H
 go_enter func23,ntmps23
 go_wp2_with (first|((with_reducible refine J (N:=2) rfl ?_);refine Fix.be 2 #[L A0_0 l0_0.length c0_0,V I a0_1,V I a0_2,V I a0_3,O a0_4,V I a0_5,O a0_6,V I a0_7,V I a0_8,L A0_9 l0_9.length c0_9,L A0_10 l0_10.length c0_10,V I a0_11,O a0_12,V I a0_13] 36 ?_;intro gb1 hg w1 BK1 hb;have GW1:=gE (w:=w) hg;replace HB:=eB hb;clear hb hg;have h_:=d14 BK1.out;(repeat(obtain⟨_,h_⟩:=h_)))|((with_reducible refine F (f:=79) rfl ?_);refine gl 79 (some 8) func79 #[L A0_0 l0_0.length c0_0,V I a1] ?_;(with_reducible refine(laws_heldJobS.calls k _ _ l0_0 a1 t1 _ ?side1 HC1_0.out A1.out).mono ?_);(case side1=>exact uZ HR1_0);rintro e w' ⟨rfl,⟨nd,rfl⟩⟩;refine⟨_,rfl,?_⟩)|((with_reducible refine F (f:=80) rfl ?_);refine gl 80 (some 14) func80 #[G #[V I a0_7,V I a0_8,L A0_9 l0_9.length c0_9,L A0_10 l0_10.length c0_10,V I a0_11,O a0_12],V I t1] ?_;(with_reducible refine(laws_heldLine.calls k a0_7 a0_8 _ _ l0_9 _ _ l0_10 a0_11 a0_12 t1 t2 _ ?side1 HC1_9.out ?side3 HC1_10.out A2.out).mono ?_);(case side1=>exact uC (Z HR1_9.out uB));(case side3=>exact uC (Z HR1_10.out uB));rintro e w2 ⟨rfl,hb⟩;refine⟨_,rfl,?_⟩;replace BK1:=eK BK1 hb;replace HB:=eB hb;clear hb))
 go_ret
 exact⟨rE,uB⟩
def laws_szActS.f (l0:List (S50)) (a1:Int):Option (Int):=if(wrap64 (a1 - (l0.length:Int)))<0 then(some (-1)) else(some (wrap64 (a1 - (l0.length:Int))))
theorem laws_szActS.W1 {p:Prop} (h:p:=by
 go_enter func24,ntmps24
 go_wp2
 go_ret
 exact⟨by first|rfl|(simp;done)|(simp[*];done),by repeat(first|exact Drawn0.refl _|apply Drawn0.step)⟩):p:=h
theorem laws_szActS.calls (A0:Option Addr) (c0:Nat) (l0:List (S50)) (a1:Int) (r:Int) (w:World) (hr0:Kd.C k50 w A0 l0.length l0) (hc0:l0.length≤c0) (h:laws_szActS.f l0 a1=some r):
 Calls prog 24 #[L A0 l0.length c0,V I a1] w fun e w'=>e=.returned (V I r)∧Drawn0 w w':=by
 have HR1:=C hr0
 have HC1:=C hc0
 (try clear hr0);(try clear hc0)
 have H:=h
 unfold laws_szActS.f at H
 clear h
 by_cases c1:(wrap64 (a1 - (l0.length:Int)))<0
 ·rw[if_pos c1]at H
  replace c1:=decide_eq_true c1
  obtain rfl:=si H
  exact laws_szActS.W1
 rw[if_neg c1]at H
 replace c1:=decide_eq_false c1
 obtain rfl:=si H
 exact laws_szActS.W1
def laws_toAct.f (a0_0:Int) (a0_1:Int) (a0_2:Int) (a0_3:Int):Option (Int×Int×Int×Int):=some (a0_0,a0_1,a0_2,a0_3)
theorem laws_toAct.calls (a0_0:Int) (a0_1:Int) (a0_2:Int) (a0_3:Int) (r1:Int) (r2:Int) (r3:Int) (r4:Int) (w:World) (h:laws_toAct.f a0_0 a0_1 a0_2 a0_3=some (r1,r2,r3,r4)):
 Calls prog 20 #[G #[V I a0_0,V I a0_1,V I a0_2,V I a0_3]] w fun e w'=>e=.returned (G #[V I r1,V I r2,V I r3,V I r4])∧Below w.heap.size w w':=by
 have hu1:=underlying50
 have hu2:=underlying53
 have HB:=C (Below.refl w.heap.size w)
 have H:=h
 unfold laws_toAct.f at H
 clear h
 simp only[Option.some.injEq,Prod.mk.injEq]at H
 obtain⟨rfl,rfl,rfl,rfl⟩:=H
 go_enter func20,ntmps20
 go_wp2_with (first|((with_reducible refine J (N:=1) rfl ?_);refine Fix.be 1 #[V I a0_0,V I a0_1,V I a0_2,V I a0_3] 50 ?_;intro gb1 hg w1 BK1 hb;have GW1:=gE (w:=w) hg;replace HB:=eB hb;clear hb hg)|((with_reducible refine J (N:=2) rfl ?_);refine Fix.be 2 #[V I 0,V I 0,V I 0,V I 0] 53 ?_;intro gb2 hg w2 BK2 hb;have GW2:=gE (w:=w) hg;have n0:=nL hg BK1;have n1:=nG hg BK1;replace BK1:=eK BK1 hb;replace HB:=eB hb;clear hb hg)|((with_reducible refine J (N:=3) rfl ?_);refine Fix.be 3 #[V I 0,V I 0,V I 0,V I 0] 53 ?_;intro gb3 hg w3 BK3 hb;have GW3:=gE (w:=w) hg;have n2:=nL hg BK1;have n3:=nG hg BK1;have n4:=nL hg BK2;have n5:=nG hg BK2;replace BK1:=eK BK1 hb;replace BK2:=eK BK2 hb;replace HB:=eB hb;clear hb hg;have:=n0.out;have:=n1.out;have:=n2.out;have:=n3.out;obtain⟨_,_,_,_,_,_,_,_⟩:=d4 BK1.out;have:=n5.out;have:=n4.out;obtain⟨_,_,_,_,_,_,_,_⟩:=d4 BK3.out;obtain⟨_,_,_,_,_,_,_,_⟩:=d4 BK2.out))
 refine bodyPost_ret (results_cell_row rfl _ _ gb2 53 #[V I a0_0,V I a0_1,V I a0_2,V I a0_3] (0,0) _ rfl (bK BK2.out) underlying53 rfl (by kernel_rfl)) rfl ?_
 exact⟨rE,uB⟩
def laws_toActS.l0:Nat→List (S50)→List (S53)→Int→Option ((List (S53)))
  |0,_,_,_=>none
  |k+1,x0,x3,x4=>if x4<(x0.length:Int) then(if 0≤x4 then((laws_toAct.f ((rd_T50 x0 x4).f0) ((rd_T50 x0 x4).f1) ((rd_T50 x0 x4).f2) ((rd_T50 x0 x4).f3)).bind fun bt560=>(if x4<(x3.length:Int) then(laws_toActS.l0 k x0 (x3.set (x4:Int).toNat (⟨bt560.1,bt560.2.1,bt560.2.2.1,bt560.2.2.2⟩:S53)) (wrap64 (x4+1))) else(none))) else(none)) else(some x3)
def laws_toActS.f (k:Nat) (l0:List (S50)):Option ((List (S53))):=if 0≤(l0.length:Int) then(if((l0.length:Int):Int).toNat≤8796093022208 then(laws_toActS.l0 k l0 (List.replicate ((l0.length:Int):Int).toNat z53) 0) else(none)) else(none)
theorem laws_toActS.calls (k:Nat) (A0:Option Addr) (c0:Nat) (l0:List (S50)) (r:List (S53)) (w:World) (hr0:Kd.C k50 w A0 l0.length l0) (hc0:l0.length≤c0) (h:laws_toActS.f k l0=some r):
 Calls prog 26 #[L A0 l0.length c0] w fun e w'=>∃v0_:Value,e=.returned (v0_)∧Kd.R k53 53 w' w.heap.size (fun _=>True) v0_ r∧Below w.heap.size w w':=by
 have hu1:=underlying50
 have hu2:=underlying53
 have HR1:=C hr0
 have HC1:=C hc0
 (try clear hr0);(try clear hc0)
 have HB:=C (Below.refl w.heap.size w)
 have H:=h
 unfold laws_toActS.f at H
 clear h
 obtain⟨c1,H⟩:=np H
 have c1b0:=eq_true c1
 have c1b1:decide (0≤(l0.length:Int))=true:=decide_eq_true c1
 clear c1
 obtain⟨c2,H⟩:=np H
 have c2b0:=eq_true c2
 have c2b1:decide (((l0.length:Int):Int).toNat≤8796093022208)=true:=decide_eq_true c2
 clear c2
 obtain⟨y1,hy1⟩:∃y_:List (S53),y_=(List.replicate ((l0.length:Int):Int).toNat z53):=⟨_,rfl⟩
 replace H:(laws_toActS.l0 k l0 y1 0)=some r:=gy hy1 H
 have Ny1:=C hy1
 clear hy1
 have H':=C H
 clear H
 go_enter func26,ntmps26
 go_wp2_with (first|((with_reducible refine J (N:=7) rfl ?_);refine Kd.R_make k53 _ 53 rfl (N:=7) rfl 42 _ _ rfl (l0.length:Int) rfl rfl underlying42 (G #[(V I 0),(V I 0),(V I 0),(V I 0)]) 32 info53 rfl (by decide) (by omega) z53 (ok:=fun _=>True) (okp:=fun _=>True) (k53_mkM _ _ _ z53 ) (fun _ hk=>hk) trivial oT (Nat.le_trans (Nat.mul_le_mul_right _ (oT:(l0.length:Int).toNat≤8796093022208)) (by omega)) (Below.refl _ _) (Nat.le_refl _) ?_;intro v1 w2 ho1 hb hg_ hnew_;clear hg_ hnew_;(first|rw[←Ny1.out]at ho1|(simp only[Int.reduceToNat]at ho1;rw[←Ny1.out]at ho1));have HO1:=lR ho1;replace HB:=eB hb;clear hb ho1))
 go_loopg [4] k (fun kq v4 w'=>∃(x1_1:List (S53)) (x2_1:Int),v4=V I x2_1∧D (laws_toActS.l0 kq l0 x1_1 x2_1=some r)∧D (kq≤k)∧D (Kd.R k53 53 w' w.heap.size (fun _=>True) v1 x1_1)∧D (Below w.heap.size w w'))
 case atStart=>exact⟨(y1),(0),rS,H',⟨Nat.le_refl _⟩,⟨fR HO1.out⟩,⟨uB⟩⟩
 case round=>
  clear H'
  obtain⟨x1_1,x2_1,rfl,HA,HK1,HO_1,HB⟩:=hrel
  cases gk with
  |zero=>exact absurd HA.out (by simp[laws_toActS.l0])
  |succ k1=>
   have H:=HA.out
   clear HA
   simp only[laws_toActS.l0]at H
   by_cases c3:x2_1<(l0.length:Int)
   rotate_left
   ·rw[if_neg c3]at H
    replace c3:=decide_eq_false c3
    obtain rfl:=si H
    go_wp2
    go_ret
    exact⟨_,rE,fR HO_1.out,uB⟩
   rw[if_pos c3]at H
   replace c3:=decide_eq_true c3
   obtain⟨c4,H⟩:=np H
   replace c4:=decide_eq_true c4
   obtain⟨⟨t1,t2,t3,t4⟩,A1,H⟩:=bnd H
   dsimp only at H
   obtain⟨c5,H⟩:=np H
   replace c5:=decide_eq_true c5
   obtain⟨y2,hy2⟩:∃y_:List (S53),y_=(x1_1.set (x2_1:Int).toNat (⟨t1,t2,t3,t4⟩:S53)):=⟨_,rfl⟩
   replace H:(laws_toActS.l0 k1 l0 y2 (wrap64 (x2_1+1)))=some r:=gy hy2 H
   have Ny2:=C hy2
   clear hy2
   have H':=C H
   clear H
   have p1:0≤(x2_1:Int):=oT
   have q1:x2_1<(l0.length:Int):=oT
   obtain⟨ad1,e1,hx1_0,hx1_1,hx1_2,hx1_3⟩:=at_T50 (Z HR1.out HB.out) x2_1 p1 q1
   cases e1
   replace p1:=eq_true p1
   replace q1:=eq_true q1
   go_wp2_with (first|((with_reducible refine F (f:=20) rfl ?_);refine gl 20 (some 20) func20 #[G #[V I ((rd_T50 l0 x2_1).f0),V I ((rd_T50 l0 x2_1).f1),V I ((rd_T50 l0 x2_1).f2),V I ((rd_T50 l0 x2_1).f3)]] ?_;(with_reducible refine(laws_toAct.calls ((rd_T50 l0 x2_1).f0) ((rd_T50 l0 x2_1).f1) ((rd_T50 l0 x2_1).f2) ((rd_T50 l0 x2_1).f3) t1 t2 t3 t4 _ A1.out).mono ?_);rintro e w3 ⟨rfl,hb⟩;refine⟨_,rfl,?_⟩;replace HO_1:=eR HO_1 hb;replace HB:=eB hb;clear hb;have p2:0≤(x2_1:Int):=oT;have q2:(x2_1:Int)<((x1_1.length:Int):Int):=oT;obtain⟨go1,co1,eo1,gb1,gl1,cl1,HG1⟩:=Kd.R_form HO_1.out (by omega);(first|cases eo1|(injection eo1 with ea_ en_ ec_;(first|subst ea_|(injection ea_ with ea_;subst ea_));subst ec_;clear en_));have GB1:=C gb1;have GG1:=C HG1;clear gb1 gl1 HG1;obtain⟨ce1,hcl1,hM1,hcc1,hfr1⟩:=Kd.R_elem HO_1.out z53 (x2_1:Int) p2 q2;obtain rfl:=k53_openM hM1;have hx2_0:w3.cell? ⟨go1,(x2_1:Int).toNat * 4,none⟩=some (V I ((rd_T53 x1_1 x2_1).f0)):=hcc1 0 _ rfl;have hx2_1:w3.cell? ⟨go1,(x2_1:Int).toNat * 4+1,none⟩=some (V I ((rd_T53 x1_1 x2_1).f1)):=hcc1 1 _ rfl;have hx2_2:w3.cell? ⟨go1,(x2_1:Int).toNat * 4+2,none⟩=some (V I ((rd_T53 x1_1 x2_1).f2)):=hcc1 2 _ rfl;have hx2_3:w3.cell? ⟨go1,(x2_1:Int).toNat * 4+3,none⟩=some (V I ((rd_T53 x1_1 x2_1).f3)):=hcc1 3 _ rfl;have hf1_0:w3.frozen? ⟨go1,(x2_1:Int).toNat * 4,none⟩=false:=hfr1 0;have hf1_1:w3.frozen? ⟨go1,(x2_1:Int).toNat * 4+1,none⟩=false:=hfr1 1;have hf1_2:w3.frozen? ⟨go1,(x2_1:Int).toNat * 4+2,none⟩=false:=hfr1 2;have hf1_3:w3.frozen? ⟨go1,(x2_1:Int).toNat * 4+3,none⟩=false:=hfr1 3;(try clear hcl1);(try clear hcc1);(try clear hfr1);(try clear hM1);replace p2:=eq_true p2;replace q2:=eq_true q2;have HX1:=C (show Kd.R k53 53 w3 w.heap.size (fun _=>True) (L (some ⟨go1,0,none⟩) x1_1.length co1) x1_1 from(uR HO_1.out));obtain⟨ce2,hcl2,hM2,hcc2,hfr2⟩:=Kd.R_elem HX1.out z53 (x2_1:Int) oT (by have h_:(x2_1:Int)<((x1_1.length:Int):Int):=oT;first|exact h_|(have e_:=(Kd.R_reads' HO_1.out).1;omega)|simpa using h_);obtain rfl:=k53_openM hM2;have HP1:=Kd.R_seg HX1.out (x2_1:Int) oT (by have h_:(x2_1:Int)<((x1_1.length:Int):Int):=oT;first|exact h_|(have e_:=(Kd.R_reads' HO_1.out).1;omega)|simpa using h_) (seg:= [V I t1,V I t2,V I t3,V I t4]) (j:=0) hcl2 hcc2 (show 4≤4 from by decide) (x':=(⟨t1,t2,t3,t4⟩:S53)) (k53_mkM _ _ _ (⟨t1,t2,t3,t4⟩:S53)) (fun _ hk=>hk);have hx3_0:=hcc2 0 _ rfl;(try simp only[show(k53).sz=4 from rfl,Nat.mul_one,Nat.add_zero]at hx3_0);have hf2_0:=hfr2 0;(try simp only[show(k53).sz=4 from rfl,Nat.mul_one,Nat.add_zero]at hf2_0);have hx3_1:=hcc2 1 _ rfl;(try simp only[show(k53).sz=4 from rfl,Nat.mul_one,Nat.add_zero]at hx3_1);have hf2_1:=hfr2 1;(try simp only[show(k53).sz=4 from rfl,Nat.mul_one,Nat.add_zero]at hf2_1);have hx3_2:=hcc2 2 _ rfl;(try simp only[show(k53).sz=4 from rfl,Nat.mul_one,Nat.add_zero]at hx3_2);have hf2_2:=hfr2 2;(try simp only[show(k53).sz=4 from rfl,Nat.mul_one,Nat.add_zero]at hf2_2);have hx3_3:=hcc2 3 _ rfl;(try simp only[show(k53).sz=4 from rfl,Nat.mul_one,Nat.add_zero]at hx3_3);have hf2_3:=hfr2 3;(try simp only[show(k53).sz=4 from rfl,Nat.mul_one,Nat.add_zero]at hf2_3);(try clear hcl2);(try clear hcc2);(try clear hfr2);(try clear hM2))|((with_reducible refine gate_store (t:=53) (p:=21) rfl ?_);refine store_event (t:=53) (p:=21) (v:= ?vo_w1) (w1:=((((w3.setCell ⟨go1,(x2_1:Int).toNat * 4,none⟩ (V I t1)).setCell ⟨go1,(x2_1:Int).toNat * 4+1,none⟩ (V I t2)).setCell ⟨go1,(x2_1:Int).toNat * 4+2,none⟩ (V I t3)).setCell ⟨go1,(x2_1:Int).toNat * 4+3,none⟩ (V I t4))) ?hg ?ho ?hn ?hr ?_;(case ho=>rfl);(case hg=>rfl);(case hn=>rfl);(case hr=>exact Fix.hr);intro w4 hw;have hg:w3.grownBy w4 (some go1):=(by rw[hw];exact HP1.2);have hp_:Kd.R k53 53 w4 w.heap.size (fun _=>True) (L (some ⟨go1,0,none⟩) x1_1.length co1) y2:=(by rw[hw,Ny2.out];exact HP1.1);clear HP1;replace HO_1:=C (hp_);replace HB:=C ((by rw[hw];exact below_set (below_set (below_set (below_set (HB.out) GB1.out) GB1.out) GB1.out) GB1.out:Below w.heap.size w w4));clear hg hw hp_))
   go_roundg k1
   case measure=>have:=HK1.out;omega
   case rel=>exact⟨(y2),(wrap64 (x2_1+1)),rS,H',⟨by have:=HK1.out;omega⟩,⟨fR HO_1.out⟩,⟨uB⟩⟩
end Go.Proofs.Ytblceimapaenlaa.PFnExactRunActs
