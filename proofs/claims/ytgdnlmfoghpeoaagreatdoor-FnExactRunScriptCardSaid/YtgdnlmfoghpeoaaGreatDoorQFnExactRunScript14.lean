/- Calls do what plain Lean functions say (FnExactRunScript). No condition. -/
import Derived.Test.YtgdnlmfoghpeoaaGreatDoorQFnExactRunScript0
import Derived.Test.YtgdnlmfoghpeoaaGreatDoorQFnExactRunScript8
import Derived.Test.YtgdnlmfoghpeoaaGreatDoorQFnExactRunScript9
import Derived.Test.YtgdnlmfoghpeoaaGreatDoorQFnExactRunScript10
import Derived.Test.YtgdnlmfoghpeoaaGreatDoorQFnExactRunScript11
import Derived.Test.YtgdnlmfoghpeoaaGreatDoorQFnExactRunScript12
import Derived.Test.YtgdnlmfoghpeoaaGreatDoorQFnExactRunScript13
namespace Go.Proofs.YtgdnlmfoghpeoaaGreatDoor.PFnExactRunScript
open Go.RowKit Go.Proofs.YtgdnlmfoghpeoaaGreatDoorW.PrintWords Go.Proofs.YtgdnlmfoghpeoaaGreatDoorW.PrintLast Go.Proofs.YtgdnlmfoghpeoaaGreatDoorW.PrintMore
open Tryz
open Fix (bK bnd cf14 cl14 cl4 cr14 cs14 d14 d4 dB dK dQ dR eB eK eR fQ fR gE gl gs hh lR nG nL nf nt nu oL ou pj pu qm qn rE rS tQ tR tu uB uC uK uR uZ wB wK wR)
open Go.Value renaming int→V,slice→L,bool→O
open Go.IntKind renaming i64→I
open Go.Proofs.YtgdnlmfoghpeoaaGreatDoorW.PrintWords.Aside0 renaming mk→C
open Go.Proofs.YtgdnlmfoghpeoaaGreatDoorW.PrintWords renaming Aside0→D
open Go.Proofs.YtgdnlmfoghpeoaaGreatDoorW.PrintWords.Kd renaming R_mono→X,R_types→Y
attribute [local go_sem] max2_int min2_int max_two min_two max_three min_three max_four min_four
attribute [local go_sem] Fix.isSome_setCell
set_option linter.unusedVariables false
set_option maxHeartbeats 40000000
set_option maxRecDepth 100000
set_option linter.unusedSimpArgs false
def spec_DoAct.j0:Nat→Bool→Int→Int→Int→Int→List (S26)→Int→Int→Int→Bool→Int→Bool→Int→Int→List Int→List Int→Int→Bool→Int→Option ((List (S26))×Int×Int×Int×Bool×Int×Bool×Int×Int×List Int×List Int×Int×Bool×Int×Int)
 |0,_,_,_,_,_,_,_,_,_,_,_,_,_,_,_,_,_,_,_=>none
 |k+1,x17,x841000,x841001,x841002,x841003,x863000,x863001,x863002,x863003,x863004,x863005,x863006,x863007,x863008,x863009,x863010,x863011,x863012,x863013=>if x17=true then(some (x863000,x863001,x863002,x863003,x863004,x863005,x863006,x863007,x863008,x863009,x863010,x863011,x863012,x863013,(-1))) else(if x841000=1 then((spec_l39Job.f x841000 x841001 x841002 x841003).bind fun bt865=>((spec_AddJob.f k x863000 bt865.1 bt865.2.1 bt865.2.2.1 bt865.2.2.2.1 bt865.2.2.2.2.1 bt865.2.2.2.2.2).bind fun bt871=>((spec_l39Bool.f bt871.2).bind fun t875=>(some (bt871.1,x863001,x863002,x863003,x863004,x863005,x863006,x863007,x863008,x863009,x863010,x863011,x863012,x863013,t875))))) else(if x841000=2 then((spec_l39Take.f k x863000 x863001 x863002 x863003 x863004 x863005 x863006 x863007 x863008 x863009 x863010 x863011 x863012 x863013).bind fun bt876=>(some (bt876.1,bt876.2.1,bt876.2.2.1,bt876.2.2.2.1,bt876.2.2.2.2.1,bt876.2.2.2.2.2.1,bt876.2.2.2.2.2.2.1,bt876.2.2.2.2.2.2.2.1,bt876.2.2.2.2.2.2.2.2.1,bt876.2.2.2.2.2.2.2.2.2.1,bt876.2.2.2.2.2.2.2.2.2.2.1,bt876.2.2.2.2.2.2.2.2.2.2.2.1,bt876.2.2.2.2.2.2.2.2.2.2.2.2.1,bt876.2.2.2.2.2.2.2.2.2.2.2.2.2.1,bt876.2.2.2.2.2.2.2.2.2.2.2.2.2.2))) else(if x841000=3 then((spec_LineStep.f k x863007 x863008 x863009 x863010 x863011 x863012 x841001).bind fun bt897=>((spec_l39Bool.f bt897.2.2.2.2.2.2).bind fun t908=>(some (x863000,x863001,x863002,x863003,x863004,x863005,x863006,bt897.1,bt897.2.1,bt897.2.2.1,bt897.2.2.2.1,bt897.2.2.2.2.1,bt897.2.2.2.2.2.1,x863013,t908)))) else(if x841000=4 then((spec_FinishLine.f k x863007 x863008 x863009 x863010 x863011 x863012).bind fun bt909=>(some (x863000,x863001,x863002,x863003,x863004,x863005,x863006,bt909.1,bt909.2.1,bt909.2.2.1,bt909.2.2.2.1,bt909.2.2.2.2.1,bt909.2.2.2.2.2,x863013,(bt909.2.2.2.1.length:Int)))) else(if x841000=5 then((spec_ReleaseJob.f k x863000 x841001).bind fun bt919=>((spec_l39Bool.f bt919.2).bind fun t923=>(some (bt919.1,x863001,x863002,x863003,x863004,x863005,x863006,x863007,x863008,x863009,x863010,x863011,x863012,x863013,t923)))) else((spec_l39Bool.f false).bind fun t924=>(some (x863000,x863001,x863002,x863003,x863004,x863005,x863006,x863007,x863008,x863009,x863010,x863011,x863012,x863013,t924))))))))
def spec_DoAct.f (k:Nat) (l0_0:List (S26)) (a0_1:Int) (a0_2:Int) (a0_3:Int) (a0_4:Bool) (a0_5:Int) (a0_6:Bool) (a0_7:Int) (a0_8:Int) (l0_9:List Int) (l0_10:List Int) (a0_11:Int) (a0_12:Bool) (a0_13:Int) (a1_0:Int) (a1_1:Int) (a1_2:Int) (a1_3:Int):Option ((List (S26))×Int×Int×Int×Bool×Int×Bool×Int×Int×List Int×List Int×Int×Bool×Int×Int):=(spec_l39Copy.f l0_0 a0_1 a0_2 a0_3 a0_4 a0_5 a0_6 a0_7 a0_8 l0_9 l0_10 a0_11 a0_12 a0_13).bind fun bt842=>((spec_MachineOk.f k l0_0 a0_1 a0_2 a0_3 a0_4 a0_5 a0_6 a0_7 a0_8 l0_9 l0_10 a0_11 a0_12 a0_13).bind fun t863=>(if t863=true then((spec_ActOk.f k a1_0 a1_1 a1_2 a1_3).bind fun t864=>(spec_DoAct.j0 k (!t864) a1_0 a1_1 a1_2 a1_3 bt842.1 bt842.2.1 bt842.2.2.1 bt842.2.2.2.1 bt842.2.2.2.2.1 bt842.2.2.2.2.2.1 bt842.2.2.2.2.2.2.1 bt842.2.2.2.2.2.2.2.1 bt842.2.2.2.2.2.2.2.2.1 bt842.2.2.2.2.2.2.2.2.2.1 bt842.2.2.2.2.2.2.2.2.2.2.1 bt842.2.2.2.2.2.2.2.2.2.2.2.1 bt842.2.2.2.2.2.2.2.2.2.2.2.2.1 bt842.2.2.2.2.2.2.2.2.2.2.2.2.2)) else(spec_DoAct.j0 k true a1_0 a1_1 a1_2 a1_3 bt842.1 bt842.2.1 bt842.2.2.1 bt842.2.2.2.1 bt842.2.2.2.2.1 bt842.2.2.2.2.2.1 bt842.2.2.2.2.2.2.1 bt842.2.2.2.2.2.2.2.1 bt842.2.2.2.2.2.2.2.2.1 bt842.2.2.2.2.2.2.2.2.2.1 bt842.2.2.2.2.2.2.2.2.2.2.1 bt842.2.2.2.2.2.2.2.2.2.2.2.1 bt842.2.2.2.2.2.2.2.2.2.2.2.2.1 bt842.2.2.2.2.2.2.2.2.2.2.2.2.2)))
def spec_DoAct.T7:Bool×List (List Nat×List Nat):=(true,[([],[]),([0],[0]),([],[]),([2],[2]),([1,3,3],[1,3]),([4],[4]),([5],[5]),([5],[5]),([0,1,2,3,4,5,6],[]),([8,6,4,0,1,2,3,4,5,6],[6,8]),([7,9,0,1,2,3,4,5,6,7,8,9],[7])])
def spec_DoAct.B7:List Nat:= [0,1,0,4,15,31,63,63,127,383,1023]
theorem spec_DoAct.tab7:rtab .any (opsOf Tryz.f65 7)=spec_DoAct.T7:=by kernel_rfl
theorem spec_DoAct.bits7:waitsOk spec_DoAct.T7.2 spec_DoAct.B7=true:=by kernel_rfl
theorem spec_DoAct.calls (k:Nat) (A0_0:Option Addr) (c0_0:Nat) (l0_0:List (S26)) (a0_1:Int) (a0_2:Int) (a0_3:Int) (a0_4:Bool) (a0_5:Int) (a0_6:Bool) (a0_7:Int) (a0_8:Int) (A0_9:Option Addr) (c0_9:Nat) (l0_9:List Int) (A0_10:Option Addr) (c0_10:Nat) (l0_10:List Int) (a0_11:Int) (a0_12:Bool) (a0_13:Int) (a1_0:Int) (a1_1:Int) (a1_2:Int) (a1_3:Int) (r1:List (S26)) (r2:Int) (r3:Int) (r4:Int) (r5:Bool) (r6:Int) (r7:Bool) (r8:Int) (r9:Int) (r10:List Int) (r11:List Int) (r12:Int) (r13:Bool) (r14:Int) (r15:Int) (w:World) (hr0_0:Kd.C k26 w A0_0 l0_0.length l0_0) (hc0_0:l0_0.length≤c0_0) (hr0_9:Kd.C (Kd.int .i64) w A0_9 l0_9.length l0_9) (hc0_9:l0_9.length≤c0_9) (hr0_10:Kd.C (Kd.int .i64) w A0_10 l0_10.length l0_10) (hc0_10:l0_10.length≤c0_10) (h:spec_DoAct.f k l0_0 a0_1 a0_2 a0_3 a0_4 a0_5 a0_6 a0_7 a0_8 l0_9 l0_10 a0_11 a0_12 a0_13 a1_0 a1_1 a1_2 a1_3=some (r1,r2,r3,r4,r5,r6,r7,r8,r9,r10,r11,r12,r13,r14,r15)):
 Calls prog 65 #[.agg #[L A0_0 l0_0.length c0_0,V I a0_1,V I a0_2,V I a0_3,O a0_4,V I a0_5,O a0_6,V I a0_7,V I a0_8,L A0_9 l0_9.length c0_9,L A0_10 l0_10.length c0_10,V I a0_11,O a0_12,V I a0_13],.agg #[V I a1_0,V I a1_1,V I a1_2,V I a1_3]] w fun e w'=>∃v0_ v9_ v10_:Value,e=.returned (.tuple #[.agg #[v0_,V I r2,V I r3,V I r4,O r5,V I r6,O r7,V I r8,V I r9,v9_,v10_,V I r12,O r13,V I r14],V I r15])∧Kd.R k26 26 w' w.heap.size (fun _=>True) v0_ r1∧Kd.Q (Kd.int .i64) 3 w' w.heap.size (fun k_=>qm k_ v10_) v9_ r10∧Kd.R (Kd.int .i64) 3 w' w.heap.size (fun k_=>qm k_ v9_) v10_ r11∧Below w.heap.size w w':=by
 have hu1:=underlying31
 have hu2:=underlying55
 have hu3:=underlying29
 have HR1_0:=C hr0_0
 have HC1_0:=C hc0_0
 (try clear hr0_0);(try clear hc0_0)
 have HR1_9:=C hr0_9
 have HC1_9:=C hc0_9
 (try clear hr0_9);(try clear hc0_9)
 have HR1_10:=C hr0_10
 have HC1_10:=C hc0_10
 (try clear hr0_10);(try clear hc0_10)
 have HB:=C (Below.refl w.heap.size w)
 have H:=h
 unfold spec_DoAct.f at H
 clear h
 obtain⟨⟨t1,t2,t3,t4,t5,t6,t7,t8,t9,t10,t11,t12,t13,t14⟩,A1,H⟩:=bnd H
 dsimp only at H
 have HC2:=C H
 clear H
 go_enter func65,ntmps65
 go_upto_region 2 with(first|((with_reducible refine gate_dst (N:=2) rfl ?_);refine Fix.be 2 #[L A0_0 l0_0.length c0_0,V I a0_1,V I a0_2,V I a0_3,O a0_4,V I a0_5,O a0_6,V I a0_7,V I a0_8,L A0_9 l0_9.length c0_9,L A0_10 l0_10.length c0_10,V I a0_11,O a0_12,V I a0_13] 31 ?_;intro gb1 hg w2 BK1 hb;have GW1:=gE (w:=w) hg;replace HB:=eB hb;clear hb hg)|((with_reducible refine gate_dst (N:=3) rfl ?_);refine Fix.be 3 #[V I a1_0,V I a1_1,V I a1_2,V I a1_3] 55 ?_;intro gb2 hg w3 BK2 hb;have GW2:=gE (w:=w) hg;have n0:=nL hg BK1;have n1:=nG hg BK1;replace BK1:=eK BK1 hb;replace HB:=eB hb;clear hb hg)|((with_reducible refine gate_dst (N:=4) rfl ?_);refine Fix.be 4 #[L none 0 0,V I 0,V I 0,V I 0,O false,V I 0,O false,V I 0,V I 0,L none 0 0,L none 0 0,V I 0,O false,V I 0] 31 ?_;intro gb3 hg w4 BK3 hb;have GW3:=gE (w:=w) hg;have n2:=nL hg BK1;have n3:=nG hg BK1;have n4:=nL hg BK2;have n5:=nG hg BK2;replace BK1:=eK BK1 hb;replace BK2:=eK BK2 hb;replace HB:=eB hb;clear hb hg;have:=n0.out;have:=n1.out;have:=n2.out;have:=n3.out;have h_:=d14 BK1.out;(repeat(obtain⟨_,h_⟩:=h_)))|((with_reducible refine gate_callee (f:=63) rfl ?_);refine gl 63 (some 9) func63 #[.agg #[L A0_0 l0_0.length c0_0,V I a0_1,V I a0_2,V I a0_3,O a0_4,V I a0_5,O a0_6,V I a0_7,V I a0_8,L A0_9 l0_9.length c0_9,L A0_10 l0_10.length c0_10,V I a0_11,O a0_12,V I a0_13]] ?_;(with_reducible refine(spec_l39Copy.calls _ _ l0_0 a0_1 a0_2 a0_3 a0_4 a0_5 a0_6 a0_7 a0_8 _ _ l0_9 _ _ l0_10 a0_11 a0_12 a0_13 t1 t2 t3 t4 t5 t6 t7 t8 t9 t10 t11 t12 t13 t14 _ ?side1 HC1_0.out ?side3 HC1_9.out ?side5 HC1_10.out A1.out).mono ?_);(case side1=>exact uZ HR1_0);(case side3=>exact uZ HR1_9);(case side5=>exact uZ HR1_10);rintro e w5 ⟨v1,v2,v3,rfl,ho1,ho2,ho3,hb⟩;refine⟨_,rfl,?_⟩;have HO1:=lR ho1;have HO2:=lR ho2;have HO3:=lR ho3;replace BK1:=eK BK1 hb;replace BK2:=eK BK2 hb;replace BK3:=eK BK3 hb;replace HB:=eB hb;clear hb ho1 ho2 ho3)|((with_reducible refine gate_dst (N:=6) rfl ?_);refine Fix.be 6 #[L none 0 0,V I 0,V I 0,V I 0,O false,V I 0,O false,V I 0,V I 0,L none 0 0,L none 0 0,V I 0,O false,V I 0] 31 ?_;intro gb4 hg w6 BK4 hb;have GW4:=gE (w:=w) hg;have n6:=nL hg BK1;have n7:=nG hg BK1;have n8:=nL hg BK2;have n9:=nG hg BK2;have n10:=nL hg BK3;have n11:=nG hg BK3;replace HO1:=eR HO1 hb;replace HO2:=eR HO2 hb;replace HO3:=eR HO3 hb;replace BK1:=eK BK1 hb;replace BK2:=eK BK2 hb;replace BK3:=eK BK3 hb;replace HB:=eB hb;clear hb hg;obtain⟨Ao1,co1,rfl⟩:=Kd.R_slice HO1.out;have:=n7.out;have:=n6.out;have:=n9.out;have:=n8.out;have:=n11.out;have:=n10.out;have h_:=d14 BK4.out;(repeat(obtain⟨_,h_⟩:=h_));obtain⟨Ao2,co2,rfl⟩:=Kd.R_slice HO2.out;obtain⟨Ao3,co3,rfl⟩:=Kd.R_slice HO3.out))
 (try simp only[Act.put,List.setIfInBounds_toArray,List.set_cons_zero,List.set_cons_succ])
 go_cut [17] (fun v17 wc=>∃(kq:Nat) (x1_3:Bool),v17=O x1_3∧D (spec_DoAct.j0 kq x1_3 a1_0 a1_1 a1_2 a1_3 t1 t2 t3 t4 t5 t6 t7 t8 t9 t10 t11 t12 t13 t14=some (r1,r2,r3,r4,r5,r6,r7,r8,r9,r10,r11,r12,r13,r14,r15))∧D (kq≤k)∧D (Kd.R k26 26 wc w.heap.size (fun _=>True) (L Ao1 t1.length co1) t1)∧D (Kd.R (Kd.int .i64) 3 wc w.heap.size (fun k_=>some k_≠Fix.o Ao3 t11.length co3) (L Ao2 t10.length co2) t10)∧D (Kd.R (Kd.int .i64) 3 wc w.heap.size (fun k_=>some k_≠Fix.o Ao2 t10.length co2) (L Ao3 t11.length co3) t11)∧D (wc.heap[gb1]? =some (.cells #[(L A0_0 l0_0.length c0_0),V I a0_1,V I a0_2,V I a0_3,O a0_4,V I a0_5,O a0_6,V I a0_7,V I a0_8,(L A0_9 l0_9.length c0_9),(L A0_10 l0_10.length c0_10),V I a0_11,O a0_12,V I a0_13] 31 (0,0)))∧D (wc.heap[gb2]? =some (.cells #[V I a1_0,V I a1_1,V I a1_2,V I a1_3] 55 (0,0)))∧D (wc.heap[gb3]? =some (.cells #[(L none 0 0),V I 0,V I 0,V I 0,O false,V I 0,O false,V I 0,V I 0,(L none 0 0),(L none 0 0),V I 0,O false,V I 0] 31 (0,0)))∧D (wc.heap[gb4]? =some (.cells #[(L Ao1 t1.length co1),V I t2,V I t3,V I t4,O t5,V I t6,O t7,V I t8,V I t9,(L Ao2 t10.length co2),(L Ao3 t11.length co3),V I t12,O t13,V I t14] 31 (0,0)))∧D (Below w.heap.size w wc))
 case first=>
  have H:=HC2.out
  clear HC2
  obtain⟨t15,A2,H⟩:=bnd H
  by_cases c1:t15=true
  rotate_left
  ·obtain rfl:=nt c1
   replace H:=nf H
   have H':=C H
   clear H
   have:=n0.out
   have:=n1.out
   have:=n2.out
   have:=n3.out
   have:=n6.out
   have:=n7.out
   have h_:=d14 BK1.out;(repeat(obtain⟨_,h_⟩:=h_))
   go_wp2_with (first|((with_reducible refine gate_callee (f:=64) rfl ?_);refine gl 64 (some 11) func64 #[.agg #[L A0_0 l0_0.length c0_0,V I a0_1,V I a0_2,V I a0_3,O a0_4,V I a0_5,O a0_6,V I a0_7,V I a0_8,L A0_9 l0_9.length c0_9,L A0_10 l0_10.length c0_10,V I a0_11,O a0_12,V I a0_13]] ?_;(with_reducible refine(spec_MachineOk.calls k _ _ l0_0 a0_1 a0_2 a0_3 a0_4 a0_5 a0_6 a0_7 a0_8 _ _ l0_9 _ _ l0_10 a0_11 a0_12 a0_13 false _ ?side1 HC1_0.out ?side3 HC1_9.out ?side5 HC1_10.out A2.out).mono ?_);(case side1=>exact Kd.C_below HR1_0.out uB);(case side3=>exact Kd.C_below HR1_9.out uB);(case side5=>exact Kd.C_below HR1_10.out uB);rintro e w7 ⟨rfl,hb⟩;refine⟨_,rfl,?_⟩;replace HO1:=C (Kd.R_below (X (fR (Y HO1.out BK4.out (by decide))) (fun _ h_=>h_.1)) hb);replace HO2:=C (Kd.R_below (X (fR (Y HO2.out BK4.out (by decide))) (fun _ h_=>h_.1)) hb);replace HO3:=C (Kd.R_below (X (fR (Y HO3.out BK4.out (by decide))) (fun _ h_=>h_.1)) hb);replace BK1:=eK BK1 hb;replace BK2:=eK BK2 hb;replace BK3:=eK BK3 hb;replace BK4:=C (blk_below (g:=gb4) (o:=.cells #[L Ao1 t1.length co1,V I t2,V I t3,V I t4,O t5,V I t6,O t7,V I t8,V I t9,L Ao2 t10.length co2,L Ao3 t11.length co3,V I t12,O t13,V I t14] 31 (0,0)) (bK BK4.out) hb);replace HB:=eB hb;clear hb))
   go_meet
   case rel=>exact⟨_,(true),rS,H',⟨oL⟩,⟨fR HO1.out⟩,⟨fR HO2.out⟩,⟨fR HO3.out⟩,⟨bK BK1.out⟩,⟨bK BK2.out⟩,⟨bK BK3.out⟩,⟨bK BK4.out⟩,⟨uB⟩⟩
  subst c1
  rw[if_pos rfl]at H
  obtain⟨t16,A3,H⟩:=bnd H
  have H':=C H
  clear H
  have:=n0.out
  have:=n1.out
  have:=n2.out
  have:=n3.out
  have:=n6.out
  have:=n7.out
  have h_:=d14 BK1.out;(repeat(obtain⟨_,h_⟩:=h_))
  go_wp2_with (first|((with_reducible refine gate_callee (f:=64) rfl ?_);refine gl 64 (some 11) func64 #[.agg #[L A0_0 l0_0.length c0_0,V I a0_1,V I a0_2,V I a0_3,O a0_4,V I a0_5,O a0_6,V I a0_7,V I a0_8,L A0_9 l0_9.length c0_9,L A0_10 l0_10.length c0_10,V I a0_11,O a0_12,V I a0_13]] ?_;(with_reducible refine(spec_MachineOk.calls k _ _ l0_0 a0_1 a0_2 a0_3 a0_4 a0_5 a0_6 a0_7 a0_8 _ _ l0_9 _ _ l0_10 a0_11 a0_12 a0_13 true _ ?side1 HC1_0.out ?side3 HC1_9.out ?side5 HC1_10.out A2.out).mono ?_);(case side1=>exact Kd.C_below HR1_0.out uB);(case side3=>exact Kd.C_below HR1_9.out uB);(case side5=>exact Kd.C_below HR1_10.out uB);rintro e w7 ⟨rfl,hb⟩;refine⟨_,rfl,?_⟩;replace HO1:=C (Kd.R_below (X (fR (Y HO1.out BK4.out (by decide))) (fun _ h_=>h_.1)) hb);replace HO2:=C (Kd.R_below (X (fR (Y HO2.out BK4.out (by decide))) (fun _ h_=>h_.1)) hb);replace HO3:=C (Kd.R_below (X (fR (Y HO3.out BK4.out (by decide))) (fun _ h_=>h_.1)) hb);replace BK1:=eK BK1 hb;replace BK2:=eK BK2 hb;replace BK3:=eK BK3 hb;replace BK4:=C (blk_below (g:=gb4) (o:=.cells #[L Ao1 t1.length co1,V I t2,V I t3,V I t4,O t5,V I t6,O t7,V I t8,V I t9,L Ao2 t10.length co2,L Ao3 t11.length co3,V I t12,O t13,V I t14] 31 (0,0)) (bK BK4.out) hb);replace HB:=eB hb;clear hb;have:=n4.out;have:=n5.out;have:=n8.out;have:=n9.out;obtain⟨_,_,_,_,_,_,_,_⟩:=d4 BK2.out)|(go_at_call 80;(with_reducible refine(spec_ActOk.calls k a1_0 a1_1 a1_2 a1_3 t16 _ A3.out).mono ?_);rintro e w8 ⟨rfl,hb⟩;replace HO1:=eR HO1 hb;replace HO2:=eR HO2 hb;replace HO3:=eR HO3 hb;replace BK1:=eK BK1 hb;replace BK2:=eK BK2 hb;replace BK3:=eK BK3 hb;replace BK4:=eK BK4 hb;replace HB:=eB hb;clear hb))
  go_meet
  case rel=>exact⟨_,(!t16),rS,H',⟨oL⟩,⟨fR HO1.out⟩,⟨fR HO2.out⟩,⟨fR HO3.out⟩,⟨bK BK1.out⟩,⟨bK BK2.out⟩,⟨bK BK3.out⟩,⟨bK BK4.out⟩,⟨uB⟩⟩
 case rest=>
  clear HC2
  obtain⟨kq,x1_3,rfl,HA,HJ1,HO_1,HO_2,HO_3,BK1,BK2,BK3,BK4,HB⟩:=hcut
  cases kq with
  |zero=>exact absurd HA.out (by simp[spec_DoAct.j0])
  |succ kj3=>
   have H:=HA.out
   clear HA
   simp only[spec_DoAct.j0]at H
   by_cases c1:x1_3=true
   ·subst c1
    rw[if_pos rfl]at H
    simp only[Option.some.injEq,Prod.mk.injEq]at H
    obtain⟨rfl,rfl,rfl,rfl,rfl,rfl,rfl,rfl,rfl,rfl,rfl,rfl,rfl,rfl,rfl⟩:=H
    have:=n7.out
    have:=n6.out
    have:=n9.out
    have:=n8.out
    have:=n11.out
    have:=n10.out
    have h_:=d14 BK4.out;(repeat(obtain⟨_,h_⟩:=h_))
    have:=n3.out
    have:=n2.out
    have:=n5.out
    have:=n4.out
    have h_:=d14 BK3.out;(repeat(obtain⟨_,h_⟩:=h_))
    go_wp2
    refine bodyPost_ret (results_ct rfl _ _ gb3 31 #[L Ao1 t1.length co1,V I t2,V I t3,V I t4,O t5,V I t6,O t7,V I t8,V I t9,L Ao2 t10.length co2,L Ao3 t11.length co3,V I t12,O t13,V I t14] (0,0) _ rfl (bK BK3.out) underlying31 rfl (by kernel_rfl)) rfl ?_
    exact⟨_,_,_,rE,X (fR (Y HO_1.out BK3.out (by decide))) (fun _ hk=>trivial),Kd.Q_of_R (X (fR (Y HO_2.out BK3.out (by decide))) (fun _ hk=>hk.1)),X (fR (Y HO_3.out BK3.out (by decide))) (fun _ hk=>hk.1),uB⟩
   obtain rfl:=nt c1
   replace H:=nf H
   by_cases c2:a1_0=1
   ·rw[if_pos c2]at H
    have c2b0:(a1_0==1)=true:=beq_iff_eq.mpr c2
    have c2b1:(a1_0 !=1)=false:=bne_eq_false_iff_eq.mpr c2
    clear c2
    obtain⟨⟨t15,t16,t17,t18,t19,t20⟩,A2,H⟩:=bnd H
    dsimp only at H
    obtain⟨⟨t21,t22⟩,A3,H⟩:=bnd H
    dsimp only at H
    obtain⟨t23,A4,H⟩:=bnd H
    simp only[Option.some.injEq,Prod.mk.injEq]at H
    obtain⟨rfl,rfl,rfl,rfl,rfl,rfl,rfl,rfl,rfl,rfl,rfl,rfl,rfl,rfl,rfl⟩:=H
    have:=n1.out
    have:=n0.out
    have:=n4.out
    have:=n5.out
    have:=n8.out
    have:=n9.out
    obtain⟨_,_,_,_,_,_,_,_⟩:=d4 BK2.out
    try go_wp2
    replace HO_1:=dR HO_1
    replace HO_2:=dR HO_2
    replace HO_3:=dR HO_3
    replace BK1:=dK BK1
    replace BK2:=dK BK2
    replace BK3:=dK BK3
    replace BK4:=dK BK4
    replace HB:=dB HB
    refine start_ (n:=11) (S:=fun w'=>cr14 w' gb4 (L Ao1 t1.length co1) (V I t2) (V I t3) (V I t4) (O t5) (V I t6) (O t7) (V I t8) (V I t9) (L Ao2 t10.length co2) (L Ao3 t11.length co3) (V I t12) (O t13) (V I t14) (cl4 w' gb2 (V I a1_0) (V I a1_1) (V I a1_2) (V I a1_3))) (ds:= [9]) #[false,false,false,false,false,false,false,false,false,false,false] (by kernel_rfl) rfl rfl hh (fun hHeld=> ?_);refine with_tabW spec_DoAct.tab7 spec_DoAct.bits7 (fun HT_ HW_=> ?_)
    generalize wc.drew=w7 at HO_1 HO_2 HO_3 BK1 BK2 BK3 BK4 HB hHeld ⊢
    refine pu 0 (some 24) ?_
    refine tu 1 (some 25) hHeld ?_
    refine tu 2 (some 26) hHeld ?_
    refine ou 3 (some 27) (fun K hK=> ?_)
    refine gs func88 #[.agg #[V I a1_0,V I a1_1,V I a1_2,V I a1_3]] ?_
    with_reducible refine(spec_l39Job.calls a1_0 a1_1 a1_2 a1_3 t15 t16 t17 t18 t19 t20 _ A2.out).mono ?_
    rintro e w8 ⟨rfl,hb⟩
    refine⟨_,rfl,?_⟩
    replace HO_1:=eR HO_1 hb
    replace HO_2:=eR HO_2 hb
    replace HO_3:=eR HO_3 hb
    replace BK1:=eK BK1 hb
    replace BK2:=eK BK2 hb
    replace BK3:=eK BK3 hb
    replace BK4:=eK BK4 hb
    replace HB:=eB hb
    (try clear hb)
    refine hK.out _ _ hh (fun hHeld=> ?_)
    clear hK K
    refine nu (N:=(some 27)) ?_
    refine ou 4 (some 28) (fun K hK=> ?_)
    refine gs func87 #[L Ao1 t1.length co1,.agg #[V I t15,V I t16,V I t17,O t18,V I t19,O t20]] ?_
    with_reducible refine(spec_AddJob.calls kj3 _ _ t1 t15 t16 t17 t18 t19 t20 t21 t22 _ ?side1 ?side2 A3.out).mono ?_
    (case side1=>exact uC (Kd.R_reads' HO_1.out).2.2)
    (case side2=>exact(Kd.R_reads' HO_1.out).2.1)
    rintro e w9 ⟨v4,rfl,ho1,hb⟩
    refine⟨_,rfl,?_⟩
    have HO4:=C (Kd.R_lower (Kd.R_new' ho1 (Kd.R_lt (uR HO_1.out))) (below_size uB))
    replace HO_1:=C (Kd.R_elder' (uR HO_1.out) (Kd.R_base ho1) hb)
    replace HO_2:=eR HO_2 hb
    replace HO_3:=eR HO_3 hb
    replace BK1:=eK BK1 hb
    replace BK2:=eK BK2 hb
    replace BK3:=eK BK3 hb
    replace BK4:=eK BK4 hb
    replace HB:=eB hb
    (try clear hb)
    obtain⟨Ao4,co4,eo4⟩:=Kd.R_slice HO4.out
    (first|subst eo4|(injection eo4 with f1_ f2_ f3_;have f4_:=f1_.symm;have f5_:=f3_.symm;clear f1_ f2_ f3_;subst f4_;subst f5_))
    refine hK.out _ _ hh (fun hHeld=> ?_)
    clear hK K
    refine nu (N:=(some 28)) ?_
    refine pu 5 (some 23) ?_
    refine pu 6 (some 29) ?_
    refine pu 7 (some 30) ?_
    refine pu 8 (some 31) ?_
    refine last_ (i:=9) (N:=none) #[true,true,true,true,true,true,true,true,true,true,false] rfl rfl (one_of HT_.out (by kernel_rfl)) (by decide) (fun K hK=> ?_)
    have hs1:w9.cell? ⟨gb4,0,none⟩=some (L Ao1 t1.length co1):=(blk_cell BK4.out 0).trans rfl
    have hfs1:=blk_frozen BK4.out 0
    have hns1_0:=n6.out
    have hns1_1:=n8.out
    have hns1_2:=n10.out
    have hms1_0:=n7.out
    have hms1_1:=n9.out
    have hms1_2:=n11.out
    refine skip_ (w1:= ?_) (by rfl) rfl ?_ ?_
    rotate_left
    ·go_simp
     rfl
    refine hK.out _ _ ?_
    clear hK K
    refine pu 10 (some 7) ?_
    refine done_ (done_of HT_.out (by kernel_rfl)) ?_
    try go_wp2
    obtain⟨w10,hw⟩:∃w_,w_=w9.setCell ⟨gb4,0,none⟩ (L Ao4 t21.length co4):=⟨_,rfl⟩
    (try rw[←hw])
    replace HO_1:D (Kd.R _ _ _ _ (fun k_=>qn k_ Ao4 t21.length co4) _ _):=tR hw (Y HO_1.out BK4.out (by decide)) (fun _ hk=>hk.1.2)
    replace HO_2:=wR hw (Y HO_2.out BK4.out (by decide))
    replace HO_3:=wR hw (Y HO_3.out BK4.out (by decide))
    replace HO4:D (Kd.R _ _ _ _ (fun k_=>qn k_ Ao1 t1.length co1) _ _):=tR hw (Y HO4.out BK4.out (by decide)) (fun _ hk=>hk.1.2)
    replace BK1:=wK hw BK1
    replace BK2:=wK hw BK2
    replace BK3:=wK hw BK3
    replace BK4:D (w10.heap[gb4]? =some (.cells #[L Ao4 t21.length co4,V I t2,V I t3,V I t4,O t5,V I t6,O t7,V I t8,V I t9,L Ao2 t10.length co2,L Ao3 t11.length co3,V I t12,O t13,V I t14] 31 (0,0))):=⟨(by rw[hw];exact(bK BK4.out))⟩
    replace HB:=wB hw
    clear hw
    replace HO_1:=dR HO_1
    replace HO_2:=dR HO_2
    replace HO_3:=dR HO_3
    replace HO4:=dR HO4
    replace BK1:=dK BK1
    replace BK2:=dK BK2
    replace BK3:=dK BK3
    replace BK4:=dK BK4
    replace HB:=dB HB
    refine start_ (n:=5) (S:=fun w'=>cl14 w' gb4 (L Ao4 t21.length co4) (V I t2) (V I t3) (V I t4) (O t5) (V I t6) (O t7) (V I t8) (V I t9) (L Ao2 t10.length co2) (L Ao3 t11.length co3) (V I t12) (O t13) (V I t14)) (ds:= []) #[false,false,false,false,false] (by kernel_rfl) rfl rfl hh (fun hHeld=> ?_)
    generalize w10.drew=w11 at HO_1 HO_2 HO_3 HO4 BK1 BK2 BK3 BK4 HB hHeld ⊢
    refine pu 1 (some 72) ?_
    refine tu 0 (some 71) hHeld ?_
    refine ou 2 (some 73) (fun K hK=> ?_)
    refine gs func93 #[O t22] ?_
    with_reducible refine(spec_l39Bool.calls t22 t23 _ A4.out).mono ?_
    rintro e w' ⟨rfl,⟨nd,rfl⟩⟩
    refine⟨_,rfl,?_⟩
    refine hK.out _ _ hh (fun hHeld=> ?_)
    clear hK K
    refine nu (N:=(some 73)) ?_
    refine ou 3 (none) (fun K hK=> ?_)
    obtain⟨hs2,hs3,hs4,hs5,hs6,hs7,hs8,hs9,hs10,hs11,hs12,hs13,hs14,hs15,hfs2,hfs3,hfs4,hfs5,hfs6,hfs7,hfs8,hfs9,hfs10,hfs11,hfs12,hfs13,hfs14,hfs15⟩:=d14 BK3.out
    have hns2_0:=n2.out
    have hns2_1:=n4.out
    have hns2_3:=n11.out
    have hms2_0:=n3.out
    have hms2_1:=n5.out
    have hms2_3:=n10.out
    refine skip_ (w1:= ?_) (by rfl) rfl ?_ ?_
    rotate_left
    ·go_simp
     rfl
    refine hK.out _ _ (cs14 (fun _ _=>cf14 n11.out) hHeld) (fun hHeld=> ?_)
    clear hK K
    refine pu 4 (some 5) ?_
    refine done_ (by kernel_rfl) ?_
    try go_wp2
    refine bodyPost_ret (results_ct rfl _ _ gb3 31 #[L Ao4 t21.length co4,V I t2,V I t3,V I t4,O t5,V I t6,O t7,V I t8,V I t9,L Ao2 t10.length co2,L Ao3 t11.length co3,V I t12,O t13,V I t14] (0,0) _ rfl (bK BK3.out) underlying31 rfl (by kernel_rfl)) rfl ?_
    exact⟨_,_,_,rE,X (fR (Y HO4.out BK3.out (by decide))) (fun _ hk=>trivial),Kd.Q_of_R (X (fR (Y HO_2.out BK3.out (by decide))) (fun _ hk=>hk.1)),X (fR (Y HO_3.out BK3.out (by decide))) (fun _ hk=>hk.1),uB⟩
   rw[if_neg c2]at H
   have c2b0:(a1_0==1)=false:=beq_eq_false_iff_ne.mpr c2
   have c2b1:(a1_0 !=1)=true:=bne_iff_ne.mpr c2
   by_cases c3:a1_0=2
   ·rw[if_pos c3]at H
    have c3b0:(a1_0==2)=true:=beq_iff_eq.mpr c3
    have c3b1:(a1_0 !=2)=false:=bne_eq_false_iff_eq.mpr c3
    clear c3
    obtain⟨⟨t15,t16,t17,t18,t19,t20,t21,t22,t23,t24,t25,t26,t27,t28,t29⟩,A2,H⟩:=bnd H
    dsimp only at H
    simp only[Option.some.injEq,Prod.mk.injEq]at H
    obtain⟨rfl,rfl,rfl,rfl,rfl,rfl,rfl,rfl,rfl,rfl,rfl,rfl,rfl,rfl,rfl⟩:=H
    have:=n1.out
    have:=n0.out
    have:=n4.out
    have:=n5.out
    have:=n8.out
    have:=n9.out
    obtain⟨_,_,_,_,_,_,_,_⟩:=d4 BK2.out
    have:=n7.out
    have:=n6.out
    have:=n11.out
    have:=n10.out
    have h_:=d14 BK4.out;(repeat(obtain⟨_,h_⟩:=h_))
    go_wp2_with (first|((with_reducible refine gate_callee (f:=89) rfl ?_);refine gl 89 (some 35) func89 #[.agg #[L Ao1 t1.length co1,V I t2,V I t3,V I t4,O t5,V I t6,O t7,V I t8,V I t9,L Ao2 t10.length co2,L Ao3 t11.length co3,V I t12,O t13,V I t14]] ?_;(with_reducible refine(spec_l39Take.calls kj3 (fun k_=>some k_=(L Ao1 t1.length co1:Value).ownBlock) (L Ao1 t1.length co1) t1 t2 t3 t4 t5 t6 t7 t8 t9 (fun k_=>some k_=(L Ao2 t10.length co2:Value).ownBlock) (L Ao2 t10.length co2) t10 (fun k_=>some k_=(L Ao3 t11.length co3:Value).ownBlock) (L Ao3 t11.length co3) t11 t12 t13 t14 t15 t16 t17 t18 t19 t20 t21 t22 t23 t24 t25 t26 t27 t28 t29 w _ ?side1 ?side2 ?side3 ?side4 ?side5 ?side6 A2.out).mono ?_);(case side1=>exact uB);(case side2=>exact Kd.R_tight rfl HO_1.out);(case side3=>exact Kd.R_tight rfl HO_2.out);(case side4=>exact fun k_ e_=>(HO_2.out.1 k_ e_.symm));(case side5=>exact Kd.R_tight rfl HO_3.out);(case side6=>exact fun k_ e_=>(HO_3.out.1 k_ e_.symm));rintro e w7 ⟨v4,v5,v6,rfl,ho1,ho2,ho3,hb,hkp⟩;refine⟨_,rfl,?_⟩;have HO4:=C (X (ok':=fun k_=>True) ho1 (fun k_ hk_=>trivial));have HO5:=C (X (ok':=fun k_=>qm k_ v6) ho2 (fun k_ hk_=>hk_.2));have HO6:=C (X (ok':=fun k_=>qm k_ v5) ho3 (fun k_ hk_=>hk_.2));replace BK1:=C (blk_kept (uK BK1.out) hkp (fun hs_=>Or.elim hs_ (fun e_=>(fun e_=>(Kd.R_ne HO_1.out BK1.out (by decide)) e_) e_) (fun e_=>Or.elim e_ (fun e_=>(fun e_=>(Kd.R_ne HO_2.out BK1.out (by decide)) e_) e_) (fun e_=>(fun e_=>(Kd.R_ne HO_3.out BK1.out (by decide)) e_) e_))));replace BK2:=C (blk_kept (uK BK2.out) hkp (fun hs_=>Or.elim hs_ (fun e_=>(fun e_=>(Kd.R_ne HO_1.out BK2.out (by decide)) e_) e_) (fun e_=>Or.elim e_ (fun e_=>(fun e_=>(Kd.R_ne HO_2.out BK2.out (by decide)) e_) e_) (fun e_=>(fun e_=>(Kd.R_ne HO_3.out BK2.out (by decide)) e_) e_))));replace BK3:=C (blk_kept (uK BK3.out) hkp (fun hs_=>Or.elim hs_ (fun e_=>(fun e_=>(Kd.R_ne HO_1.out BK3.out (by decide)) e_) e_) (fun e_=>Or.elim e_ (fun e_=>(fun e_=>(Kd.R_ne HO_2.out BK3.out (by decide)) e_) e_) (fun e_=>(fun e_=>(Kd.R_ne HO_3.out BK3.out (by decide)) e_) e_))));replace BK4:=C (blk_kept (uK BK4.out) hkp (fun hs_=>Or.elim hs_ (fun e_=>(fun e_=>(Kd.R_ne HO_1.out BK4.out (by decide)) e_) e_) (fun e_=>Or.elim e_ (fun e_=>(fun e_=>(Kd.R_ne HO_2.out BK4.out (by decide)) e_) e_) (fun e_=>(fun e_=>(Kd.R_ne HO_3.out BK4.out (by decide)) e_) e_))));replace HB:=C (hb);clear HO_1;clear HO_2;clear HO_3;clear hb;(try clear hkp);(try clear ho1);(try clear ho2);(try clear ho3);obtain⟨Ao4,co4,rfl⟩:=Kd.R_slice HO4.out;have:=n3.out;have:=n2.out;have h_:=d14 BK3.out;(repeat(obtain⟨_,h_⟩:=h_));obtain⟨Ao5,co5,rfl⟩:=Kd.R_slice HO5.out;obtain⟨Ao6,co6,rfl⟩:=Kd.R_slice HO6.out))
    refine bodyPost_ret (results_ct rfl _ _ gb3 31 #[L Ao4 t15.length co4,V I t16,V I t17,V I t18,O t19,V I t20,O t21,V I t22,V I t23,L Ao5 t24.length co5,L Ao6 t25.length co6,V I t26,O t27,V I t28] (0,0) _ rfl (bK BK3.out) underlying31 rfl (by kernel_rfl)) rfl ?_
    exact⟨_,_,_,rE,X (fR (Y HO4.out BK3.out (by decide))) (fun _ hk=>trivial),Kd.Q_of_R (X (fR (Y HO5.out BK3.out (by decide))) (fun _ hk=>hk.1)),X (fR (Y HO6.out BK3.out (by decide))) (fun _ hk=>hk.1),uB⟩
   rw[if_neg c3]at H
   have c3b0:(a1_0==2)=false:=beq_eq_false_iff_ne.mpr c3
   have c3b1:(a1_0 !=2)=true:=bne_iff_ne.mpr c3
   by_cases c4:a1_0=3
   ·rw[if_pos c4]at H
    have c4b0:(a1_0==3)=true:=beq_iff_eq.mpr c4
    have c4b1:(a1_0 !=3)=false:=bne_eq_false_iff_eq.mpr c4
    clear c4
    obtain⟨⟨t15,t16,t17,t18,t19,t20,t21⟩,A2,H⟩:=bnd H
    dsimp only at H
    obtain⟨t22,A3,H⟩:=bnd H
    simp only[Option.some.injEq,Prod.mk.injEq]at H
    obtain⟨rfl,rfl,rfl,rfl,rfl,rfl,rfl,rfl,rfl,rfl,rfl,rfl,rfl,rfl,rfl⟩:=H
    have:=n1.out
    have:=n0.out
    have:=n4.out
    have:=n5.out
    have:=n8.out
    have:=n9.out
    obtain⟨_,_,_,_,_,_,_,_⟩:=d4 BK2.out
    have:=n7.out
    have:=n6.out
    have:=n11.out
    have:=n10.out
    have h_:=d14 BK4.out;(repeat(obtain⟨_,h_⟩:=h_))
    try go_wp2_with (first|((with_reducible refine gate_callee (f:=90) rfl ?_);refine gl 90 (some 45) func90 #[.agg #[V I t8,V I t9,L Ao2 t10.length co2,L Ao3 t11.length co3,V I t12,O t13],V I a1_1] ?_;(with_reducible refine(spec_LineStep.calls kj3 t8 t9 _ _ t10 _ _ t11 t12 t13 a1_1 t15 t16 t17 t18 t19 t20 t21 _ ?side1 ?side2 ?side3 ?side4 A2.out).mono ?_);(case side1=>exact uC (Kd.R_reads' HO_2.out).2.2);(case side2=>exact(Kd.R_reads' HO_2.out).2.1);(case side3=>exact uC (Kd.R_reads' HO_3.out).2.2);(case side4=>exact(Kd.R_reads' HO_3.out).2.1);rintro e w7 ⟨v4,v5,rfl,ho1,ho2,hb⟩;refine⟨_,rfl,?_⟩;have HO4:=C (Kd.Q_lower (Kd.Q_new' (Kd.Q_new' ho1 (Kd.R_lt (uR HO_2.out))) (Kd.R_lt (uR HO_3.out))) (below_size uB));have HO5:=C (Kd.R_lower (Kd.R_new' (Kd.R_new' ho2 (Kd.R_lt (uR HO_2.out))) (Kd.R_lt (uR HO_3.out))) (below_size uB));replace HO_1:=eR HO_1 hb;replace HO_2:=C (X (Kd.R_told (Kd.R_told (Kd.R_old (uR HO_2.out) hb) (Kd.Q_base ho1)) (Kd.R_base ho2)) (fun _ h_=>h_.1));replace HO_3:=C (X (Kd.R_told (Kd.R_told (Kd.R_old (uR HO_3.out) hb) (Kd.Q_base ho1)) (Kd.R_base ho2)) (fun _ h_=>h_.1));replace BK1:=eK BK1 hb;replace BK2:=eK BK2 hb;replace BK3:=eK BK3 hb;replace BK4:=eK BK4 hb;replace HB:=eB hb;clear hb ho1 ho2;have h_:=d14 BK4.out;(repeat(obtain⟨_,h_⟩:=h_));obtain⟨Ao4,co4,eo4,_⟩:=Kd.Q_slice HO4.out;subst eo4;obtain⟨Ao5,co5,rfl⟩:=Kd.R_slice HO5.out))
    obtain⟨w8,hw⟩:∃w_,w_=(((((w7.setCell ⟨gb4,7,none⟩ (V I t15)).setCell ⟨gb4,8,none⟩ (V I t16)).setCell ⟨gb4,9,none⟩ (L Ao4 t17.length co4)).setCell ⟨gb4,10,none⟩ (L Ao5 t18.length co5)).setCell ⟨gb4,11,none⟩ (V I t19)).setCell ⟨gb4,12,none⟩ (O t20):=⟨_,rfl⟩
    (try rw[←hw])
    replace HO_1:D (Kd.R _ _ _ _ (fun _=>True) _ _):=tR hw (Y HO_1.out BK4.out (by decide)) (fun _ hk=>trivial)
    replace HO_2:D (Kd.R _ _ _ _ (fun k_=>qn k_ Ao3 t11.length co3∧qn k_ Ao4 t17.length co4∧qn k_ Ao5 t18.length co5) _ _):=tR hw (Y HO_2.out BK4.out (by decide)) pj
    replace HO_3:D (Kd.R _ _ _ _ (fun k_=>qn k_ Ao2 t10.length co2∧qn k_ Ao4 t17.length co4∧qn k_ Ao5 t18.length co5) _ _):=tR hw (Y HO_3.out BK4.out (by decide)) pj
    replace HO4:D (Kd.Q _ _ _ _ (fun k_=>qn k_ Ao2 t10.length co2∧qn k_ Ao3 t11.length co3∧qn k_ Ao5 t18.length co5) _ _):=tQ hw (Kd.Q_types HO4.out BK4.out (by decide)) pj
    replace HO5:D (Kd.R _ _ _ _ (fun k_=>qn k_ Ao2 t10.length co2∧qn k_ Ao3 t11.length co3∧qn k_ Ao4 t17.length co4) _ _):=tR hw (Y HO5.out BK4.out (by decide)) pj
    replace BK1:=wK hw BK1
    replace BK2:=wK hw BK2
    replace BK3:=wK hw BK3
    replace BK4:D (w8.heap[gb4]? =some (.cells #[L Ao1 t1.length co1,V I t2,V I t3,V I t4,O t5,V I t6,O t7,V I t15,V I t16,L Ao4 t17.length co4,L Ao5 t18.length co5,V I t19,O t20,V I t14] 31 (0,0))):=⟨(by rw[hw];exact(bK BK4.out))⟩
    replace HB:=wB hw
    clear hw
    replace HO_1:=dR HO_1
    replace HO_2:=dR HO_2
    replace HO_3:=dR HO_3
    replace HO4:=dQ HO4
    replace HO5:=dR HO5
    replace BK1:=dK BK1
    replace BK2:=dK BK2
    replace BK3:=dK BK3
    replace BK4:=dK BK4
    replace HB:=dB HB
    refine start_ (n:=5) (S:=fun w'=>cl14 w' gb4 (L Ao1 t1.length co1) (V I t2) (V I t3) (V I t4) (O t5) (V I t6) (O t7) (V I t15) (V I t16) (L Ao4 t17.length co4) (L Ao5 t18.length co5) (V I t19) (O t20) (V I t14)) (ds:= []) #[false,false,false,false,false] (by kernel_rfl) rfl rfl hh (fun hHeld=> ?_)
    generalize w8.drew=w9 at HO_1 HO_2 HO_3 HO4 HO5 BK1 BK2 BK3 BK4 HB hHeld ⊢
    refine pu 1 (some 72) ?_
    refine tu 0 (some 71) hHeld ?_
    refine ou 2 (some 73) (fun K hK=> ?_)
    refine gs func93 #[O t21] ?_
    with_reducible refine(spec_l39Bool.calls t21 t22 _ A3.out).mono ?_
    rintro e w' ⟨rfl,⟨nd,rfl⟩⟩
    refine⟨_,rfl,?_⟩
    refine hK.out _ _ hh (fun hHeld=> ?_)
    clear hK K
    refine nu (N:=(some 73)) ?_
    refine ou 3 (none) (fun K hK=> ?_)
    obtain⟨hs1,hs2,hs3,hs4,hs5,hs6,hs7,hs8,hs9,hs10,hs11,hs12,hs13,hs14,hfs1,hfs2,hfs3,hfs4,hfs5,hfs6,hfs7,hfs8,hfs9,hfs10,hfs11,hfs12,hfs13,hfs14⟩:=d14 BK3.out
    have hns1_0:=n2.out
    have hns1_1:=n4.out
    have hns1_3:=n11.out
    have hms1_0:=n3.out
    have hms1_1:=n5.out
    have hms1_3:=n10.out
    refine skip_ (w1:= ?_) (by rfl) rfl ?_ ?_
    rotate_left
    ·go_simp
     rfl
    refine hK.out _ _ (cs14 (fun _ _=>cf14 n11.out) hHeld) (fun hHeld=> ?_)
    clear hK K
    refine pu 4 (some 5) ?_
    refine done_ (by kernel_rfl) ?_
    try go_wp2
    refine bodyPost_ret (results_ct rfl _ _ gb3 31 #[L Ao1 t1.length co1,V I t2,V I t3,V I t4,O t5,V I t6,O t7,V I t15,V I t16,L Ao4 t17.length co4,L Ao5 t18.length co5,V I t19,O t20,V I t14] (0,0) _ rfl (bK BK3.out) underlying31 rfl (by kernel_rfl)) rfl ?_
    exact⟨_,_,_,rE,X (fR (Y HO_1.out BK3.out (by decide))) (fun _ hk=>trivial),Kd.Q_mono (fQ (Kd.Q_types HO4.out BK3.out (by decide))) (fun _ hk=>hk.1.2.2),X (fR (Y HO5.out BK3.out (by decide))) (fun _ hk=>hk.1.2.2),uB⟩
   rw[if_neg c4]at H
   have c4b0:(a1_0==3)=false:=beq_eq_false_iff_ne.mpr c4
   have c4b1:(a1_0 !=3)=true:=bne_iff_ne.mpr c4
   by_cases c5:a1_0=4
   ·rw[if_pos c5]at H
    have c5b0:(a1_0==4)=true:=beq_iff_eq.mpr c5
    have c5b1:(a1_0 !=4)=false:=bne_eq_false_iff_eq.mpr c5
    clear c5
    obtain⟨⟨t15,t16,t17,t18,t19,t20⟩,A2,H⟩:=bnd H
    dsimp only at H
    simp only[Option.some.injEq,Prod.mk.injEq]at H
    obtain⟨rfl,rfl,rfl,rfl,rfl,rfl,rfl,rfl,rfl,rfl,rfl,rfl,rfl,rfl,rfl⟩:=H
    have:=n1.out
    have:=n0.out
    have:=n4.out
    have:=n5.out
    have:=n8.out
    have:=n9.out
    obtain⟨_,_,_,_,_,_,_,_⟩:=d4 BK2.out
    have:=n7.out
    have:=n6.out
    have:=n11.out
    have:=n10.out
    have h_:=d14 BK4.out;(repeat(obtain⟨_,h_⟩:=h_))
    try go_wp2_with (first|((with_reducible refine gate_callee (f:=91) rfl ?_);refine gl 91 (some 53) func91 #[.agg #[V I t8,V I t9,L Ao2 t10.length co2,L Ao3 t11.length co3,V I t12,O t13]] ?_;(with_reducible refine(spec_FinishLine.calls kj3 t8 t9 _ _ t10 _ _ t11 t12 t13 t15 t16 t17 t18 t19 t20 _ ?side1 ?side2 ?side3 ?side4 A2.out).mono ?_);(case side1=>exact uC (Kd.R_reads' HO_2.out).2.2);(case side2=>exact(Kd.R_reads' HO_2.out).2.1);(case side3=>exact uC (Kd.R_reads' HO_3.out).2.2);(case side4=>exact(Kd.R_reads' HO_3.out).2.1);rintro e w7 ⟨v4,v5,rfl,ho1,ho2,hb⟩;refine⟨_,rfl,?_⟩;have HO4:=C (Kd.Q_lower (Kd.Q_new' (Kd.Q_new' ho1 (Kd.R_lt (uR HO_2.out))) (Kd.R_lt (uR HO_3.out))) (below_size uB));have HO5:=C (Kd.R_lower (Kd.R_new' (Kd.R_new' ho2 (Kd.R_lt (uR HO_2.out))) (Kd.R_lt (uR HO_3.out))) (below_size uB));replace HO_1:=eR HO_1 hb;replace HO_2:=C (X (Kd.R_told (Kd.R_told (Kd.R_old (uR HO_2.out) hb) (Kd.Q_base ho1)) (Kd.R_base ho2)) (fun _ h_=>h_.1));replace HO_3:=C (X (Kd.R_told (Kd.R_told (Kd.R_old (uR HO_3.out) hb) (Kd.Q_base ho1)) (Kd.R_base ho2)) (fun _ h_=>h_.1));replace BK1:=eK BK1 hb;replace BK2:=eK BK2 hb;replace BK3:=eK BK3 hb;replace BK4:=eK BK4 hb;replace HB:=eB hb;clear hb ho1 ho2;have h_:=d14 BK4.out;(repeat(obtain⟨_,h_⟩:=h_));obtain⟨Ao4,co4,eo4,_⟩:=Kd.Q_slice HO4.out;subst eo4;obtain⟨Ao5,co5,rfl⟩:=Kd.R_slice HO5.out))
    obtain⟨w8,hw⟩:∃w_,w_=(((((w7.setCell ⟨gb4,7,none⟩ (V I t15)).setCell ⟨gb4,8,none⟩ (V I t16)).setCell ⟨gb4,9,none⟩ (L Ao4 t17.length co4)).setCell ⟨gb4,10,none⟩ (L Ao5 t18.length co5)).setCell ⟨gb4,11,none⟩ (V I t19)).setCell ⟨gb4,12,none⟩ (O t20):=⟨_,rfl⟩
    (try rw[←hw])
    replace HO_1:D (Kd.R _ _ _ _ (fun _=>True) _ _):=tR hw (Y HO_1.out BK4.out (by decide)) (fun _ hk=>trivial)
    replace HO_2:D (Kd.R _ _ _ _ (fun k_=>qn k_ Ao3 t11.length co3∧qn k_ Ao4 t17.length co4∧qn k_ Ao5 t18.length co5) _ _):=tR hw (Y HO_2.out BK4.out (by decide)) pj
    replace HO_3:D (Kd.R _ _ _ _ (fun k_=>qn k_ Ao2 t10.length co2∧qn k_ Ao4 t17.length co4∧qn k_ Ao5 t18.length co5) _ _):=tR hw (Y HO_3.out BK4.out (by decide)) pj
    replace HO4:D (Kd.Q _ _ _ _ (fun k_=>qn k_ Ao2 t10.length co2∧qn k_ Ao3 t11.length co3∧qn k_ Ao5 t18.length co5) _ _):=tQ hw (Kd.Q_types HO4.out BK4.out (by decide)) pj
    replace HO5:D (Kd.R _ _ _ _ (fun k_=>qn k_ Ao2 t10.length co2∧qn k_ Ao3 t11.length co3∧qn k_ Ao4 t17.length co4) _ _):=tR hw (Y HO5.out BK4.out (by decide)) pj
    replace BK1:=wK hw BK1
    replace BK2:=wK hw BK2
    replace BK3:=wK hw BK3
    replace BK4:D (w8.heap[gb4]? =some (.cells #[L Ao1 t1.length co1,V I t2,V I t3,V I t4,O t5,V I t6,O t7,V I t15,V I t16,L Ao4 t17.length co4,L Ao5 t18.length co5,V I t19,O t20,V I t14] 31 (0,0))):=⟨(by rw[hw];exact(bK BK4.out))⟩
    replace HB:=wB hw
    clear hw
    replace HO_1:=dR HO_1
    replace HO_2:=dR HO_2
    replace HO_3:=dR HO_3
    replace HO4:=dQ HO4
    replace HO5:=dR HO5
    replace BK1:=dK BK1
    replace BK2:=dK BK2
    replace BK3:=dK BK3
    replace BK4:=dK BK4
    replace HB:=dB HB
    refine start_ (n:=7) (S:=fun w'=>cl14 w' gb4 (L Ao1 t1.length co1) (V I t2) (V I t3) (V I t4) (O t5) (V I t6) (O t7) (V I t15) (V I t16) (L Ao4 t17.length co4) (L Ao5 t18.length co5) (V I t19) (O t20) (V I t14)) (ds:= []) #[false,false,false,false,false,false,false] (by kernel_rfl) rfl rfl hh (fun hHeld=> ?_)
    generalize w8.drew=w9 at HO_1 HO_2 HO_3 HO4 HO5 BK1 BK2 BK3 BK4 HB hHeld ⊢
    refine pu 1 (some 56) ?_
    refine pu 2 (some 57) ?_
    refine tu 0 (some 55) hHeld ?_
    refine tu 3 (some 58) hHeld ?_
    refine pu 4 (some 59) ?_
    refine ou 5 (none) (fun K hK=> ?_)
    obtain⟨hs1,hs2,hs3,hs4,hs5,hs6,hs7,hs8,hs9,hs10,hs11,hs12,hs13,hs14,hfs1,hfs2,hfs3,hfs4,hfs5,hfs6,hfs7,hfs8,hfs9,hfs10,hfs11,hfs12,hfs13,hfs14⟩:=d14 BK3.out
    have hns1_0:=n2.out
    have hns1_1:=n4.out
    have hns1_3:=n11.out
    have hms1_0:=n3.out
    have hms1_1:=n5.out
    have hms1_3:=n10.out
    refine skip_ (w1:= ?_) (by rfl) rfl ?_ ?_
    rotate_left
    ·go_simp
     rfl
    refine hK.out _ _ (cs14 (fun _ _=>cf14 n11.out) hHeld) (fun hHeld=> ?_)
    clear hK K
    refine pu 6 (some 5) ?_
    refine done_ (by kernel_rfl) ?_
    try go_wp2
    refine bodyPost_ret (results_ct rfl _ _ gb3 31 #[L Ao1 t1.length co1,V I t2,V I t3,V I t4,O t5,V I t6,O t7,V I t15,V I t16,L Ao4 t17.length co4,L Ao5 t18.length co5,V I t19,O t20,V I t14] (0,0) _ rfl (bK BK3.out) underlying31 rfl (by kernel_rfl)) rfl ?_
    exact⟨_,_,_,rE,X (fR (Y HO_1.out BK3.out (by decide))) (fun _ hk=>trivial),Kd.Q_mono (fQ (Kd.Q_types HO4.out BK3.out (by decide))) (fun _ hk=>hk.1.2.2),X (fR (Y HO5.out BK3.out (by decide))) (fun _ hk=>hk.1.2.2),uB⟩
   rw[if_neg c5]at H
   have c5b0:(a1_0==4)=false:=beq_eq_false_iff_ne.mpr c5
   have c5b1:(a1_0 !=4)=true:=bne_iff_ne.mpr c5
   by_cases c6:a1_0=5
   rotate_left
   ·rw[if_neg c6]at H
    have c6b0:(a1_0==5)=false:=beq_eq_false_iff_ne.mpr c6
    have c6b1:(a1_0 !=5)=true:=bne_iff_ne.mpr c6
    obtain⟨t15,A2,H⟩:=bnd H
    simp only[Option.some.injEq,Prod.mk.injEq]at H
    obtain⟨rfl,rfl,rfl,rfl,rfl,rfl,rfl,rfl,rfl,rfl,rfl,rfl,rfl,rfl,rfl⟩:=H
    have:=n1.out
    have:=n0.out
    have:=n4.out
    have:=n5.out
    have:=n8.out
    have:=n9.out
    obtain⟨_,_,_,_,_,_,_,_⟩:=d4 BK2.out
    try go_wp2
    replace HO_1:=dR HO_1
    replace HO_2:=dR HO_2
    replace HO_3:=dR HO_3
    replace BK1:=dK BK1
    replace BK2:=dK BK2
    replace BK3:=dK BK3
    replace BK4:=dK BK4
    replace HB:=dB HB
    refine start_ (n:=5) (S:=fun w'=>cl14 w' gb4 (L Ao1 t1.length co1) (V I t2) (V I t3) (V I t4) (O t5) (V I t6) (O t7) (V I t8) (V I t9) (L Ao2 t10.length co2) (L Ao3 t11.length co3) (V I t12) (O t13) (V I t14)) (ds:= []) #[false,false,false,false,false] (by kernel_rfl) rfl rfl hh (fun hHeld=> ?_)
    generalize wc.drew=w7 at HO_1 HO_2 HO_3 BK1 BK2 BK3 BK4 HB hHeld ⊢
    refine pu 1 (some 72) ?_
    refine tu 0 (some 71) hHeld ?_
    refine ou 2 (some 73) (fun K hK=> ?_)
    refine gs func93 #[O false] ?_
    with_reducible refine(spec_l39Bool.calls false t15 _ A2.out).mono ?_
    rintro e w' ⟨rfl,⟨nd,rfl⟩⟩
    refine⟨_,rfl,?_⟩
    refine hK.out _ _ hh (fun hHeld=> ?_)
    clear hK K
    refine nu (N:=(some 73)) ?_
    refine ou 3 (none) (fun K hK=> ?_)
    obtain⟨hs1,hs2,hs3,hs4,hs5,hs6,hs7,hs8,hs9,hs10,hs11,hs12,hs13,hs14,hfs1,hfs2,hfs3,hfs4,hfs5,hfs6,hfs7,hfs8,hfs9,hfs10,hfs11,hfs12,hfs13,hfs14⟩:=d14 BK3.out
    have hns1_0:=n2.out
    have hns1_1:=n4.out
    have hns1_3:=n11.out
    have hms1_0:=n3.out
    have hms1_1:=n5.out
    have hms1_3:=n10.out
    refine skip_ (w1:= ?_) (by rfl) rfl ?_ ?_
    rotate_left
    ·go_simp
     rfl
    refine hK.out _ _ (cs14 (fun _ _=>cf14 n11.out) hHeld) (fun hHeld=> ?_)
    clear hK K
    refine pu 4 (some 5) ?_
    refine done_ (by kernel_rfl) ?_
    try go_wp2
    refine bodyPost_ret (results_ct rfl _ _ gb3 31 #[L Ao1 t1.length co1,V I t2,V I t3,V I t4,O t5,V I t6,O t7,V I t8,V I t9,L Ao2 t10.length co2,L Ao3 t11.length co3,V I t12,O t13,V I t14] (0,0) _ rfl (bK BK3.out) underlying31 rfl (by kernel_rfl)) rfl ?_
    exact⟨_,_,_,rE,X (fR (Y HO_1.out BK3.out (by decide))) (fun _ hk=>trivial),Kd.Q_of_R (X (fR (Y HO_2.out BK3.out (by decide))) (fun _ hk=>hk.1)),X (fR (Y HO_3.out BK3.out (by decide))) (fun _ hk=>hk.1),uB⟩
   rw[if_pos c6]at H
   have c6b0:(a1_0==5)=true:=beq_iff_eq.mpr c6
   have c6b1:(a1_0 !=5)=false:=bne_eq_false_iff_eq.mpr c6
   clear c6
   obtain⟨⟨t15,t16⟩,A2,H⟩:=bnd H
   dsimp only at H
   obtain⟨t17,A3,H⟩:=bnd H
   simp only[Option.some.injEq,Prod.mk.injEq]at H
   obtain⟨rfl,rfl,rfl,rfl,rfl,rfl,rfl,rfl,rfl,rfl,rfl,rfl,rfl,rfl,rfl⟩:=H
   have:=n1.out
   have:=n0.out
   have:=n4.out
   have:=n5.out
   have:=n8.out
   have:=n9.out
   obtain⟨_,_,_,_,_,_,_,_⟩:=d4 BK2.out
   have:=n7.out
   have:=n6.out
   have:=n11.out
   have:=n10.out
   have h_:=d14 BK4.out;(repeat(obtain⟨_,h_⟩:=h_))
   try go_wp2_with (first|((with_reducible refine gate_callee (f:=92) rfl ?_);refine gl 92 (some 67) func92 #[L Ao1 t1.length co1,V I a1_1] ?_;(with_reducible refine(spec_ReleaseJob.calls kj3 _ _ t1 a1_1 t15 t16 _ ?side1 ?side2 A2.out).mono ?_);(case side1=>exact uC (Kd.R_reads' HO_1.out).2.2);(case side2=>exact(Kd.R_reads' HO_1.out).2.1);rintro e w7 ⟨v4,rfl,ho1,hb⟩;refine⟨_,rfl,?_⟩;have HO4:=C (Kd.R_lower (Kd.R_new' ho1 (Kd.R_lt (uR HO_1.out))) (below_size uB));replace HO_1:=C (Kd.R_elder' (uR HO_1.out) (Kd.R_base ho1) hb);replace HO_2:=eR HO_2 hb;replace HO_3:=eR HO_3 hb;replace BK1:=eK BK1 hb;replace BK2:=eK BK2 hb;replace BK3:=eK BK3 hb;replace BK4:=eK BK4 hb;replace HB:=eB hb;clear hb ho1;obtain⟨Ao4,co4,rfl⟩:=Kd.R_slice HO4.out;have h_:=d14 BK4.out;(repeat(obtain⟨_,h_⟩:=h_))))
   obtain⟨w8,hw⟩:∃w_,w_=w7.setCell ⟨gb4,0,none⟩ (L Ao4 t15.length co4):=⟨_,rfl⟩
   (try rw[←hw])
   replace HO_1:D (Kd.R _ _ _ _ (fun k_=>qn k_ Ao4 t15.length co4) _ _):=tR hw (Y HO_1.out BK4.out (by decide)) (fun _ hk=>hk.1.2)
   replace HO_2:=wR hw (Y HO_2.out BK4.out (by decide))
   replace HO_3:=wR hw (Y HO_3.out BK4.out (by decide))
   replace HO4:D (Kd.R _ _ _ _ (fun k_=>qn k_ Ao1 t1.length co1) _ _):=tR hw (Y HO4.out BK4.out (by decide)) (fun _ hk=>hk.1.2)
   replace BK1:=wK hw BK1
   replace BK2:=wK hw BK2
   replace BK3:=wK hw BK3
   replace BK4:D (w8.heap[gb4]? =some (.cells #[L Ao4 t15.length co4,V I t2,V I t3,V I t4,O t5,V I t6,O t7,V I t8,V I t9,L Ao2 t10.length co2,L Ao3 t11.length co3,V I t12,O t13,V I t14] 31 (0,0))):=⟨(by rw[hw];exact(bK BK4.out))⟩
   replace HB:=wB hw
   clear hw
   replace HO_1:=dR HO_1
   replace HO_2:=dR HO_2
   replace HO_3:=dR HO_3
   replace HO4:=dR HO4
   replace BK1:=dK BK1
   replace BK2:=dK BK2
   replace BK3:=dK BK3
   replace BK4:=dK BK4
   replace HB:=dB HB
   refine start_ (n:=5) (S:=fun w'=>cl14 w' gb4 (L Ao4 t15.length co4) (V I t2) (V I t3) (V I t4) (O t5) (V I t6) (O t7) (V I t8) (V I t9) (L Ao2 t10.length co2) (L Ao3 t11.length co3) (V I t12) (O t13) (V I t14)) (ds:= []) #[false,false,false,false,false] (by kernel_rfl) rfl rfl hh (fun hHeld=> ?_)
   generalize w8.drew=w9 at HO_1 HO_2 HO_3 HO4 BK1 BK2 BK3 BK4 HB hHeld ⊢
   refine pu 1 (some 72) ?_
   refine tu 0 (some 71) hHeld ?_
   refine ou 2 (some 73) (fun K hK=> ?_)
   refine gs func93 #[O t16] ?_
   with_reducible refine(spec_l39Bool.calls t16 t17 _ A3.out).mono ?_
   rintro e w' ⟨rfl,⟨nd,rfl⟩⟩
   refine⟨_,rfl,?_⟩
   refine hK.out _ _ hh (fun hHeld=> ?_)
   clear hK K
   refine nu (N:=(some 73)) ?_
   refine ou 3 (none) (fun K hK=> ?_)
   obtain⟨hs1,hs2,hs3,hs4,hs5,hs6,hs7,hs8,hs9,hs10,hs11,hs12,hs13,hs14,hfs1,hfs2,hfs3,hfs4,hfs5,hfs6,hfs7,hfs8,hfs9,hfs10,hfs11,hfs12,hfs13,hfs14⟩:=d14 BK3.out
   have hns1_0:=n2.out
   have hns1_1:=n4.out
   have hns1_3:=n11.out
   have hms1_0:=n3.out
   have hms1_1:=n5.out
   have hms1_3:=n10.out
   refine skip_ (w1:= ?_) (by rfl) rfl ?_ ?_
   rotate_left
   ·go_simp
    rfl
   refine hK.out _ _ (cs14 (fun _ _=>cf14 n11.out) hHeld) (fun hHeld=> ?_)
   clear hK K
   refine pu 4 (some 5) ?_
   refine done_ (by kernel_rfl) ?_
   try go_wp2
   refine bodyPost_ret (results_ct rfl _ _ gb3 31 #[L Ao4 t15.length co4,V I t2,V I t3,V I t4,O t5,V I t6,O t7,V I t8,V I t9,L Ao2 t10.length co2,L Ao3 t11.length co3,V I t12,O t13,V I t14] (0,0) _ rfl (bK BK3.out) underlying31 rfl (by kernel_rfl)) rfl ?_
   exact⟨_,_,_,rE,X (fR (Y HO4.out BK3.out (by decide))) (fun _ hk=>trivial),Kd.Q_of_R (X (fR (Y HO_2.out BK3.out (by decide))) (fun _ hk=>hk.1)),X (fR (Y HO_3.out BK3.out (by decide))) (fun _ hk=>hk.1),uB⟩
end Go.Proofs.YtgdnlmfoghpeoaaGreatDoor.PFnExactRunScript
