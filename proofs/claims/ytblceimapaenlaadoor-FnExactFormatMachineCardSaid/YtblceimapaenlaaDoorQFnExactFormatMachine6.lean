/- FnExactFormatMachine: the functions that the law reaches, each as a plain Lean function, and that a call does what it says. Made by a program of this work (wip/mp.py) out of the kit's print. No condition. -/
import Derived.Test.YtblceimapaenlaaDoorQFnExactFormatMachine0
import Derived.Test.YtblceimapaenlaaDoorQFnExactFormatMachine5
namespace Go.Proofs.YtblceimapaenlaaDoor.PFnExactFormatMachine
open Go.RowKit Go.Proofs.YtblceimapaenlaaDoorW.PrintWords Go.Proofs.YtblceimapaenlaaDoorW.PrintLast Go.Proofs.YtblceimapaenlaaDoorW.PrintMore
open Fix (bK bnd d14 d6 dB eB eK fR gE gl gs hi hx lR nG nL nu ou pu rE rS tu uB uC)
open Go.Value renaming int→V,slice→L,bool→O,agg→G
open Go.IntKind renaming i64→I
open Go.Proofs.YtblceimapaenlaaDoorW.PrintWords.Aside0 renaming mk→C
open Go.Proofs.YtblceimapaenlaaDoorW.PrintWords renaming Aside0→D,gate_callee→F,gate_dst→J
open Go.Proofs.YtblceimapaenlaaDoorW.PrintWords.Kd renaming C_below→Z
open Go.World renaming block_lt_of_cell?→E
attribute [local go_sem] max2_int min2_int max_two min_two max_three min_three max_four min_four
attribute [local go_sem] Fix.isSome_setCell
set_option linter.unusedVariables false
set_option linter.unusedSimpArgs false
def laws_toMachine.f (k:Nat) (l0_0:List (S52)) (a0_1:Int) (a0_2:Int) (a0_3:Int) (a0_4:Bool) (a0_5:Int) (a0_6:Bool) (a0_7:Int) (a0_8:Int) (l0_9:List Int) (l0_10:List Int) (a0_11:Int) (a0_12:Bool) (a0_13:Int):Option ((List (S40))×Int×Int×Int×Bool×Int×Bool×Int×Int×List Int×List Int×Int×Bool×Int):=(laws_toJobS.f k l0_0).bind fun t271=>((laws_toJob.f a0_1 a0_2 a0_3 a0_4 a0_5 a0_6).bind fun bt274=>((laws_toLine.f k a0_7 a0_8 l0_9 l0_10 a0_11 a0_12).bind fun bt280=>(some (t271,bt274.1,bt274.2.1,bt274.2.2.1,bt274.2.2.2.1,bt274.2.2.2.2.1,bt274.2.2.2.2.2,bt280.1,bt280.2.1,bt280.2.2.1,bt280.2.2.2.1,bt280.2.2.2.2.1,bt280.2.2.2.2.2,a0_13))))
theorem laws_toMachine.mono:∀a0 a1 a2 a3 a4 a5 a6 a7 a8 a9 a10 a11 a12 a13 k,LeO (laws_toMachine.f k a0 a1 a2 a3 a4 a5 a6 a7 a8 a9 a10 a11 a12 a13) (laws_toMachine.f (k+1) a0 a1 a2 a3 a4 a5 a6 a7 a8 a9 a10 a11 a12 a13):=by
 intro a0 a1 a2 a3 a4 a5 a6 a7 a8 a9 a10 a11 a12 a13 k
 unfold laws_toMachine.f
 repeat' first|(with_reducible first|apply laws_toJobS.mono|apply laws_toLine.mono|exact LeO.refl _|exact LeO.none _|refine LeO.ite ?_ ?_|refine LeO.bind ?_ (fun _=> ?_))|exact LeO.none _|refine LeO.ite ?_ ?_|refine LeO.bind ?_ (fun _=> ?_)
set_option maxHeartbeats 40000000 in
set_option maxRecDepth 100000 in
theorem laws_toMachine.calls (k:Nat) (A0_0:Option Addr) (c0_0:Nat) (l0_0:List (S52)) (a0_1:Int) (a0_2:Int) (a0_3:Int) (a0_4:Bool) (a0_5:Int) (a0_6:Bool) (a0_7:Int) (a0_8:Int) (A0_9:Option Addr) (c0_9:Nat) (l0_9:List Int) (A0_10:Option Addr) (c0_10:Nat) (l0_10:List Int) (a0_11:Int) (a0_12:Bool) (a0_13:Int) (r1:List (S40)) (r2:Int) (r3:Int) (r4:Int) (r5:Bool) (r6:Int) (r7:Bool) (r8:Int) (r9:Int) (r10:List Int) (r11:List Int) (r12:Int) (r13:Bool) (r14:Int) (w:World) (hr0_0:Kd.C k52 w A0_0 l0_0.length l0_0) (hc0_0:l0_0.length≤c0_0) (hr0_9:Kd.C (Kd.int .i64) w A0_9 l0_9.length l0_9) (hc0_9:l0_9.length≤c0_9) (hr0_10:Kd.C (Kd.int .i64) w A0_10 l0_10.length l0_10) (hc0_10:l0_10.length≤c0_10) (h:laws_toMachine.f k l0_0 a0_1 a0_2 a0_3 a0_4 a0_5 a0_6 a0_7 a0_8 l0_9 l0_10 a0_11 a0_12 a0_13=some (r1,r2,r3,r4,r5,r6,r7,r8,r9,r10,r11,r12,r13,r14)):
  Calls Tryd.prog 22 #[G #[L A0_0 l0_0.length c0_0,V I a0_1,V I a0_2,V I a0_3,O a0_4,V I a0_5,O a0_6,V I a0_7,V I a0_8,L A0_9 l0_9.length c0_9,L A0_10 l0_10.length c0_10,V I a0_11,O a0_12,V I a0_13]] w fun e w'=>∃v0_ v9_ v10_:Value,e=.returned (G #[v0_,V I r2,V I r3,V I r4,O r5,V I r6,O r7,V I r8,V I r9,v9_,v10_,V I r12,O r13,V I r14])∧Kd.R k40 40 w' w.heap.size (fun _=>True) v0_ r1∧Kd.R (Kd.int .i64) 3 w' w.heap.size (fun k_=>some k_≠(v10_:Value).ownBlock) v9_ r10∧Kd.R (Kd.int .i64) 3 w' w.heap.size (fun k_=>some k_≠(v9_:Value).ownBlock) v10_ r11∧Below w.heap.size w w':=by
 have hu1:=Tryd.underlying55
 have hu2:=Tryd.underlying45
 have hu3:=Tryd.underlying52
 have hu4:=Tryd.underlying40
 have hu5:=Tryd.underlying53
 have hu6:=Tryd.underlying43
 have HR1_0:=C hr0_0
 have HC1_0:=C hc0_0
 (try clear hr0_0);(try clear hc0_0)
 have HR1_9:=C hr0_9
 have HC1_9:=C hc0_9
 (try clear hr0_9);(try clear hc0_9)
 have HR1_10:=C hr0_10
 have HC1_10:=C hc0_10
 (try clear hr0_10);(try clear hc0_10)
 have HB:=C (Below.refl w.heap.size w)
 have H:=h
 unfold laws_toMachine.f at H
 clear h
 obtain⟨t1,A1,H⟩:=bnd H
 obtain⟨⟨t2,t3,t4,t5,t6,t7⟩,A2,H⟩:=bnd H
 dsimp only at H
 obtain⟨⟨t8,t9,t10,t11,t12,t13⟩,A3,H⟩:=bnd H
 dsimp only at H
 simp only[Option.some.injEq,Prod.mk.injEq]at H
 obtain⟨rfl,rfl,rfl,rfl,rfl,rfl,rfl,rfl,rfl,rfl,rfl,rfl,rfl,rfl⟩:=H
 go_enter Tryd.func22,Tryd.ntmps22
 go_wp2_with (first|((with_reducible refine J (N:=1) rfl ?_);refine Fix.be 1 #[L A0_0 l0_0.length c0_0,V I a0_1,V I a0_2,V I a0_3,O a0_4,V I a0_5,O a0_6,V I a0_7,V I a0_8,L A0_9 l0_9.length c0_9,L A0_10 l0_10.length c0_10,V I a0_11,O a0_12,V I a0_13] 55 ?_;intro gb1 hg w1 BK1 hb;have GW1:D (w.heap.size≤gb1):=gE hg;have GE1:=GW1;replace HB:=eB hb;clear hb hg)|((with_reducible refine J (N:=2) rfl ?_);refine Fix.be 2 #[L none 0 0,V I 0,V I 0,V I 0,O false,V I 0,O false,V I 0,V I 0,L none 0 0,L none 0 0,V I 0,O false,V I 0] 45 ?_;intro gb2 hg w2 BK2 hb;have GW2:D (w.heap.size≤gb2):=gE hg;have GE2:=GW2;have NB1_269:=nL hg BK1;have NB2_268:=nG hg BK1;replace BK1:=eK BK1 hb;replace HB:=eB hb;clear hb hg)|((with_reducible refine J (N:=3) rfl ?_);refine Fix.be 3 #[L none 0 0,V I 0,V I 0,V I 0,O false,V I 0,O false,V I 0,V I 0,L none 0 0,L none 0 0,V I 0,O false,V I 0] 45 ?_;intro gb3 hg w3 BK3 hb;have GW3:D (w.heap.size≤gb3):=gE hg;have GE3:=GW3;have NB1_270:=nL hg BK1;have NB3_268:=nG hg BK1;have NB2_270:=nL hg BK2;have NB3_269:=nG hg BK2;replace BK1:=eK BK1 hb;replace BK2:=eK BK2 hb;replace HB:=eB hb;clear hb hg;have hnb1:=NB1_269.out;have hnc1:=NB2_268.out;have hnb2:=NB1_270.out;have hnc2:=NB3_268.out;obtain⟨hcz1_0,hcz1_1,hcz1_2,hcz1_3,hcz1_4,hcz1_5,hcz1_6,hcz1_7,hcz1_8,hcz1_9,hcz1_10,hcz1_11,hcz1_12,hcz1_13,hfz1_0,hfz1_1,hfz1_2,hfz1_3,hfz1_4,hfz1_5,hfz1_6,hfz1_7,hfz1_8,hfz1_9,hfz1_10,hfz1_11,hfz1_12,hfz1_13⟩:=d14 BK1.out)|((with_reducible refine F (f:=47) rfl ?_);refine gl 47 (some 6) Tryd.func47 #[L A0_0 l0_0.length c0_0] ?_;(with_reducible refine(laws_toJobS.calls k _ _ l0_0 t1 _ ?side1 ?side2 A1.out).mono ?_);(case side1=>exact uC (Z HR1_0.out HB.out));(case side2=>exact HC1_0.out);rintro e w4 ⟨v1,rfl,ho1,hb⟩;refine⟨_,rfl,?_⟩;have HO1:=lR ho1;replace BK1:=eK BK1 hb;replace BK2:=eK BK2 hb;replace BK3:=eK BK3 hb;replace HB:=eB hb;clear hb ho1;obtain⟨Ao1,co1,eo1⟩:=Kd.R_slice HO1.out;subst eo1;have hnb3:=NB3_269.out;have hnc3:=NB2_270.out;obtain⟨hcz2_0,hcz2_1,hcz2_2,hcz2_3,hcz2_4,hcz2_5,hcz2_6,hcz2_7,hcz2_8,hcz2_9,hcz2_10,hcz2_11,hcz2_12,hcz2_13,hfz2_0,hfz2_1,hfz2_2,hfz2_3,hfz2_4,hfz2_5,hfz2_6,hfz2_7,hfz2_8,hfz2_9,hfz2_10,hfz2_11,hfz2_12,hfz2_13⟩:=d14 BK3.out;obtain⟨hcz3_0,hcz3_1,hcz3_2,hcz3_3,hcz3_4,hcz3_5,hcz3_6,hcz3_7,hcz3_8,hcz3_9,hcz3_10,hcz3_11,hcz3_12,hcz3_13,hfz3_0,hfz3_1,hfz3_2,hfz3_3,hfz3_4,hfz3_5,hfz3_6,hfz3_7,hfz3_8,hfz3_9,hfz3_10,hfz3_11,hfz3_12,hfz3_13⟩:=d14 BK1.out)|((with_reducible refine F (f:=48) rfl ?_);refine gl 48 (some 10) Tryd.func48 #[G #[V I a0_1,V I a0_2,V I a0_3,O a0_4,V I a0_5,O a0_6]] ?_;(with_reducible refine(laws_toJob.calls a0_1 a0_2 a0_3 a0_4 a0_5 a0_6 t2 t3 t4 t5 t6 t7 _ A2.out).mono ?_);rintro e w5 ⟨rfl,hb⟩;refine⟨_,rfl,?_⟩;replace HO1:=C (Kd.R_below (Kd.R_mono (fR (Kd.R_types HO1.out BK3.out (by decide))) (fun _ h_=>h_.1)) hb);replace BK1:=eK BK1 hb;replace BK2:=eK BK2 hb;replace BK3:=C (blk_below (g:=gb3) (o:=.cells #[L Ao1 t1.length co1,V I 0,V I 0,V I 0,O false,V I 0,O false,V I 0,V I 0,L none 0 0,L none 0 0,V I 0,O false,V I 0] 45 (0,0)) (bK BK3.out) hb);replace HB:=eB hb;clear hb;obtain⟨hcz4_0,hcz4_1,hcz4_2,hcz4_3,hcz4_4,hcz4_5,hcz4_6,hcz4_7,hcz4_8,hcz4_9,hcz4_10,hcz4_11,hcz4_12,hcz4_13,hfz4_0,hfz4_1,hfz4_2,hfz4_3,hfz4_4,hfz4_5,hfz4_6,hfz4_7,hfz4_8,hfz4_9,hfz4_10,hfz4_11,hfz4_12,hfz4_13⟩:=d14 BK3.out;obtain⟨hcz5_0,hcz5_1,hcz5_2,hcz5_3,hcz5_4,hcz5_5,hcz5_6,hcz5_7,hcz5_8,hcz5_9,hcz5_10,hcz5_11,hcz5_12,hcz5_13,hfz5_0,hfz5_1,hfz5_2,hfz5_3,hfz5_4,hfz5_5,hfz5_6,hfz5_7,hfz5_8,hfz5_9,hfz5_10,hfz5_11,hfz5_12,hfz5_13⟩:=d14 BK1.out)|((with_reducible refine F (f:=49) rfl ?_);refine gl 49 (some 14) Tryd.func49 #[G #[V I a0_7,V I a0_8,L A0_9 l0_9.length c0_9,L A0_10 l0_10.length c0_10,V I a0_11,O a0_12]] ?_;(with_reducible refine(laws_toLine.calls k a0_7 a0_8 _ _ l0_9 _ _ l0_10 a0_11 a0_12 t8 t9 t10 t11 t12 t13 _ ?side1 ?side2 ?side3 ?side4 A3.out).mono ?_);(case side1=>exact Z HR1_9.out uB);(case side2=>exact HC1_9.out);(case side3=>exact Z HR1_10.out uB);(case side4=>exact HC1_10.out);rintro e w6 ⟨v2,v3,rfl,ho1,ho2,hb⟩;refine⟨_,rfl,?_⟩;have HO2:=lR ho1;have HO3:=lR ho2;replace HO1:=C (Kd.R_below (Kd.R_mono (fR (Kd.R_types HO1.out BK3.out (by decide))) (fun _ h_=>h_.1)) hb);replace BK1:=eK BK1 hb;replace BK2:=eK BK2 hb;replace BK3:=C (blk_below (g:=gb3) (o:=.cells #[L Ao1 t1.length co1,V I t2,V I t3,V I t4,O t5,V I t6,O t7,V I 0,V I 0,L none 0 0,L none 0 0,V I 0,O false,V I 0] 45 (0,0)) (bK BK3.out) hb);replace HB:=eB hb;clear hb ho1 ho2;obtain⟨hcz6_0,hcz6_1,hcz6_2,hcz6_3,hcz6_4,hcz6_5,hcz6_6,hcz6_7,hcz6_8,hcz6_9,hcz6_10,hcz6_11,hcz6_12,hcz6_13,hfz6_0,hfz6_1,hfz6_2,hfz6_3,hfz6_4,hfz6_5,hfz6_6,hfz6_7,hfz6_8,hfz6_9,hfz6_10,hfz6_11,hfz6_12,hfz6_13⟩:=d14 BK3.out;obtain⟨Ao2,co2,eo2⟩:=Kd.R_slice HO2.out;subst eo2;obtain⟨Ao3,co3,eo3⟩:=Kd.R_slice HO3.out;subst eo3;obtain⟨hcz7_0,hcz7_1,hcz7_2,hcz7_3,hcz7_4,hcz7_5,hcz7_6,hcz7_7,hcz7_8,hcz7_9,hcz7_10,hcz7_11,hcz7_12,hcz7_13,hfz7_0,hfz7_1,hfz7_2,hfz7_3,hfz7_4,hfz7_5,hfz7_6,hfz7_7,hfz7_8,hfz7_9,hfz7_10,hfz7_11,hfz7_12,hfz7_13⟩:=d14 BK1.out;obtain⟨hcz8_0,hcz8_1,hcz8_2,hcz8_3,hcz8_4,hcz8_5,hcz8_6,hcz8_7,hcz8_8,hcz8_9,hcz8_10,hcz8_11,hcz8_12,hcz8_13,hfz8_0,hfz8_1,hfz8_2,hfz8_3,hfz8_4,hfz8_5,hfz8_6,hfz8_7,hfz8_8,hfz8_9,hfz8_10,hfz8_11,hfz8_12,hfz8_13⟩:=d14 BK2.out))
 refine bodyPost_ret (results_cell_row rfl _ _ gb2 45 #[L Ao1 t1.length co1,V I t2,V I t3,V I t4,O t5,V I t6,O t7,V I t8,V I t9,L Ao2 t10.length co2,L Ao3 t11.length co3,V I t12,O t13,V I a0_13] (0,0) _ rfl (bK BK2.out) Tryd.underlying45 rfl (by kernel_rfl)) rfl ?_
 exact⟨_,_,_,rE,Kd.R_mono (fR (Kd.R_types (Kd.R_types HO1.out BK3.out (by decide)) BK2.out (by decide))) (fun _ hk=>trivial),Kd.R_mono (fR (Kd.R_types (Kd.R_types HO2.out BK3.out (by decide)) BK2.out (by decide))) (fun _ hk=>hk.1.1),Kd.R_mono (fR (Kd.R_types (Kd.R_types HO3.out BK3.out (by decide)) BK2.out (by decide))) (fun _ hk=>hk.1.1),uB⟩
def laws_eqStringS.l0:Nat→List ByteArray→List ByteArray→Int→Option (Bool)
 |0,_,_,_=>none
 |k+1,x0,x1,x5=>if x5<(x0.length:Int) then(if 0≤x5 then(if x5<(x1.length:Int) then(if(rdOf ByteArray.empty x0 x5).toList=(rdOf ByteArray.empty x1 x5).toList then(laws_eqStringS.l0 k x0 x1 (wrap64 (x5+1))) else(some false)) else(none)) else(none)) else(some true)
def laws_eqStringS.f (k:Nat) (l0:List ByteArray) (l1:List ByteArray):Option (Bool):=if(l0.length:Int)=(l1.length:Int) then(laws_eqStringS.l0 k l0 l1 0) else(some false)
theorem laws_eqStringS.mono_l:∀k,(∀y0 y1 y2,LeO (laws_eqStringS.l0 k y0 y1 y2) (laws_eqStringS.l0 (k+1) y0 y1 y2))
 |0=>fun _ _ _ r h=>by simp[laws_eqStringS.l0]at h
 |k+1=>by
  have ih0:=laws_eqStringS.mono_l k
  ·intro y0 y1 y2
   unfold laws_eqStringS.l0
   repeat' first|(with_reducible first|apply ih0|exact LeO.refl _|exact LeO.none _|refine LeO.ite ?_ ?_|refine LeO.bind ?_ (fun _=> ?_))|apply ih0|exact LeO.none _|refine LeO.ite ?_ ?_|refine LeO.bind ?_ (fun _=> ?_)
theorem laws_eqStringS.mono:∀a0 a1 k,LeO (laws_eqStringS.f k a0 a1) (laws_eqStringS.f (k+1) a0 a1):=by
 intro a0 a1 k
 have ih0:=laws_eqStringS.mono_l k
 unfold laws_eqStringS.f
 repeat' first|(with_reducible first|apply ih0|exact LeO.refl _|exact LeO.none _|refine LeO.ite ?_ ?_|refine LeO.bind ?_ (fun _=> ?_))|apply ih0|exact LeO.none _|refine LeO.ite ?_ ?_|refine LeO.bind ?_ (fun _=> ?_)
theorem laws_eqStringS.W1 {p:Prop} (h:p:=by
  go_wp2
  repeat(go_quiet (fail);try go_wp2)
  go_ret
  exact⟨by first|rfl|(simp;done)|(simp[*];done),by repeat(first|exact Drawn0.refl _|apply Drawn0.step)⟩):p:=h
set_option maxHeartbeats 40000000 in
set_option maxRecDepth 100000 in
theorem laws_eqStringS.calls (k:Nat) (A0:Option Addr) (c0:Nat) (l0:List ByteArray) (A1:Option Addr) (c1:Nat) (l1:List ByteArray) (r:Bool) (w:World) (hr0:Kd.C Kd.string w A0 l0.length l0) (hc0:l0.length≤c0) (hr1:Kd.C Kd.string w A1 l1.length l1) (hc1:l1.length≤c1) (h:laws_eqStringS.f k l0 l1=some r):
  Calls Tryd.prog 23 #[L A0 l0.length c0,L A1 l1.length c1] w fun e w'=>e=.returned (O r)∧Drawn0 w w':=by
 have HR1:=C hr0
 have HC1:=C hc0
 (try clear hr0);(try clear hc0)
 have HR2:=C hr1
 have HC2:=C hc1
 (try clear hr1);(try clear hc1)
 have H:=h
 unfold laws_eqStringS.f at H
 clear h
 by_cases c1:(l0.length:Int)=(l1.length:Int)
 ·rw[if_pos c1]at H
  have c1b0:((l0.length:Int)==(l1.length:Int))=true:=beq_iff_eq.mpr c1
  have c1b1:((l0.length:Int) !=(l1.length:Int))=false:=bne_eq_false_iff_eq.mpr c1
  have c1b2:(l0.length==l1.length)=true:=by first|simpa using c1|(simp at c1 ⊢;omega)
  clear c1
  have H':=C H
  clear H
  go_enter Tryd.func23,Tryd.ntmps23
  go_wp2
  repeat(go_quiet (fail);try go_wp2)
  go_loopg [5] k (fun kq v5 w'=>∃(x1_1:Int),v5=V I x1_1∧D (laws_eqStringS.l0 kq l0 l1 x1_1=some r)∧D (kq≤k)∧Drawn0 w w')
  case atStart=>exact⟨(0),rS,H',⟨Nat.le_refl _⟩,by repeat(first|exact Drawn0.refl _|apply Drawn0.step)⟩
  case round=>
   clear H'
   obtain⟨x1_1,rfl,HA,HK1,⟨m1,rfl⟩⟩:=hrel
   cases gk with
   |zero=>exact absurd HA.out (by simp[laws_eqStringS.l0])
   |succ k1=>
    have H:=HA.out
    clear HA
    simp only[laws_eqStringS.l0]at H
    by_cases c2:x1_1<(l0.length:Int)
    ·rw[if_pos c2]at H
     have c2b0:decide (x1_1<(l0.length:Int))=true:=decide_eq_true c2
     clear c2
     by_cases c3:0≤x1_1
     ·rw[if_pos c3]at H
      have c3b0:decide (0≤x1_1)=true:=decide_eq_true c3
      clear c3
      by_cases c4:x1_1<(l1.length:Int)
      ·rw[if_pos c4]at H
       have c4b0:decide (x1_1<(l1.length:Int))=true:=decide_eq_true c4
       clear c4
       by_cases c5:(rdOf ByteArray.empty l0 x1_1).toList=(rdOf ByteArray.empty l1 x1_1).toList
       ·rw[if_pos c5]at H
        have c5b0:((rdOf ByteArray.empty l0 x1_1).toList==(rdOf ByteArray.empty l1 x1_1).toList)=true:=beq_iff_eq.mpr c5
        have c5b1:((rdOf ByteArray.empty l0 x1_1).toList !=(rdOf ByteArray.empty l1 x1_1).toList)=false:=bne_eq_false_iff_eq.mpr c5
        clear c5
        have H':=C H
        clear H
        have p1:0≤(x1_1:Int):=of_decide_eq_true (by first|(with_reducible assumption)|assumption)
        have q1:x1_1<(l0.length:Int):=of_decide_eq_true (by first|(with_reducible assumption)|assumption)
        obtain⟨ad1,e1,hx1_0⟩:=Kd.at_string HR1.out x1_1 p1 q1
        cases e1
        replace p1:=eq_true p1
        replace q1:=eq_true q1
        have p2:0≤(x1_1:Int):=of_decide_eq_true (by first|(with_reducible assumption)|assumption)
        have q2:x1_1<(l1.length:Int):=of_decide_eq_true (by first|(with_reducible assumption)|assumption)
        obtain⟨ad2,e2,hx2_0⟩:=Kd.at_string HR2.out x1_1 p2 q2
        cases e2
        replace p2:=eq_true p2
        replace q2:=eq_true q2
        go_wp2
        repeat(go_quiet (fail);try go_wp2)
        go_roundg k1
        case measure=>have:=HK1.out;omega
        case rel=>exact⟨(wrap64 (x1_1+1)),rS,H',⟨by have:=HK1.out;omega⟩,by repeat(first|exact Drawn0.refl _|apply Drawn0.step)⟩
       ·rw[if_neg c5]at H
        have c5b0:((rdOf ByteArray.empty l0 x1_1).toList==(rdOf ByteArray.empty l1 x1_1).toList)=false:=beq_eq_false_iff_ne.mpr c5
        have c5b1:((rdOf ByteArray.empty l0 x1_1).toList !=(rdOf ByteArray.empty l1 x1_1).toList)=true:=bne_iff_ne.mpr c5
        obtain rfl:=Option.some.inj H
        have p1:0≤(x1_1:Int):=of_decide_eq_true (by first|(with_reducible assumption)|assumption)
        have q1:x1_1<(l0.length:Int):=of_decide_eq_true (by first|(with_reducible assumption)|assumption)
        obtain⟨ad1,e1,hx1_0⟩:=Kd.at_string HR1.out x1_1 p1 q1
        cases e1
        replace p1:=eq_true p1
        replace q1:=eq_true q1
        have p2:0≤(x1_1:Int):=of_decide_eq_true (by first|(with_reducible assumption)|assumption)
        have q2:x1_1<(l1.length:Int):=of_decide_eq_true (by first|(with_reducible assumption)|assumption)
        obtain⟨ad2,e2,hx2_0⟩:=Kd.at_string HR2.out x1_1 p2 q2
        cases e2
        replace p2:=eq_true p2
        replace q2:=eq_true q2
        exact laws_eqStringS.W1
      ·rw[if_neg c4]at H
       exact absurd H (by simp)
     ·rw[if_neg c3]at H
      exact absurd H (by simp)
    ·rw[if_neg c2]at H
     have c2b0:decide (x1_1<(l0.length:Int))=false:=decide_eq_false c2
     clear c2
     obtain rfl:=Option.some.inj H
     exact laws_eqStringS.W1
 ·rw[if_neg c1]at H
  have c1b0:((l0.length:Int)==(l1.length:Int))=false:=beq_eq_false_iff_ne.mpr c1
  have c1b1:((l0.length:Int) !=(l1.length:Int))=true:=bne_iff_ne.mpr c1
  have c1b2:(l0.length==l1.length)=false:=by first|simpa using c1|(simp at c1 ⊢;omega)
  obtain rfl:=Option.some.inj H
  go_enter Tryd.func23,Tryd.ntmps23
  go_wp2
  repeat(go_quiet (fail);try go_wp2)
  go_ret
  exact⟨by first|rfl|(simp;done)|(simp[*];done),by repeat(first|exact Drawn0.refl _|apply Drawn0.step)⟩
def laws_eqJob.f (a0_0:Int) (a0_1:Int) (a0_2:Int) (a0_3:Bool) (a0_4:Int) (a0_5:Bool) (a1_0:Int) (a1_1:Int) (a1_2:Int) (a1_3:Bool) (a1_4:Int) (a1_5:Bool):Option (Bool):=if a0_0=a1_0 then(if a0_1=a1_1 then(if a0_2=a1_2 then(if(a0_3 !=a1_3)=true then(some false) else(if a0_4=a1_4 then(if(a0_5 !=a1_5)=true then(some false) else(some true)) else(some false))) else(some false)) else(some false)) else(some false)
theorem laws_eqJob.W1 {p:Prop} (h:p:=by
  go_enter Tryd.func51,Tryd.ntmps51
  go_wp2_with (first|((with_reducible refine J (N:=2) rfl ?_);refine Fix.be 2 #[V I a0_0,V I a0_1,V I a0_2,O a0_3,V I a0_4,O a0_5] 40 ?_;intro gb1 hg w1 BK1 hb;have GW1:D (w.heap.size≤gb1):=gE hg;have GE1:=GW1;replace HB:=eB hb;clear hb hg)|((with_reducible refine J (N:=3) rfl ?_);refine Fix.be 3 #[V I a1_0,V I a1_1,V I a1_2,O a1_3,V I a1_4,O a1_5] 40 ?_;intro gb2 hg w2 BK2 hb;have GW2:D (w.heap.size≤gb2):=gE hg;have GE2:=GW2;have NB1_293:=nL hg BK1;have NB2_292:=nG hg BK1;replace BK1:=eK BK1 hb;replace HB:=eB hb;clear hb hg;have hnb1:=NB1_293.out;have hnc1:=NB2_292.out;have h_:=d6 BK1.out;(repeat(obtain⟨_,h_⟩:=h_));have h_:=d6 BK2.out;(repeat(obtain⟨_,h_⟩:=h_))))
  go_ret
  exact⟨rE,uB⟩):p:=h
set_option maxHeartbeats 40000000 in
set_option maxRecDepth 100000 in
theorem laws_eqJob.calls (a0_0:Int) (a0_1:Int) (a0_2:Int) (a0_3:Bool) (a0_4:Int) (a0_5:Bool) (a1_0:Int) (a1_1:Int) (a1_2:Int) (a1_3:Bool) (a1_4:Int) (a1_5:Bool) (r:Bool) (w:World) (h:laws_eqJob.f a0_0 a0_1 a0_2 a0_3 a0_4 a0_5 a1_0 a1_1 a1_2 a1_3 a1_4 a1_5=some r):
  Calls Tryd.prog 51 #[G #[V I a0_0,V I a0_1,V I a0_2,O a0_3,V I a0_4,O a0_5],G #[V I a1_0,V I a1_1,V I a1_2,O a1_3,V I a1_4,O a1_5]] w fun e w'=>e=.returned (O r)∧Below w.heap.size w w':=by
 have hu1:=Tryd.underlying40
 have HB:=C (Below.refl w.heap.size w)
 have H:=h
 unfold laws_eqJob.f at H
 clear h
 by_cases c1:a0_0=a1_0
 ·rw[if_pos c1]at H
  have c1b0:(a0_0==a1_0)=true:=beq_iff_eq.mpr c1
  have c1b1:(a0_0 !=a1_0)=false:=bne_eq_false_iff_eq.mpr c1
  clear c1
  by_cases c2:a0_1=a1_1
  ·rw[if_pos c2]at H
   have c2b0:(a0_1==a1_1)=true:=beq_iff_eq.mpr c2
   have c2b1:(a0_1 !=a1_1)=false:=bne_eq_false_iff_eq.mpr c2
   clear c2
   by_cases c3:a0_2=a1_2
   ·rw[if_pos c3]at H
    have c3b0:(a0_2==a1_2)=true:=beq_iff_eq.mpr c3
    have c3b1:(a0_2 !=a1_2)=false:=bne_eq_false_iff_eq.mpr c3
    clear c3
    by_cases c4:(a0_3 !=a1_3)=true
    ·rw[if_pos c4]at H
     have c4b0:(a0_3 !=a1_3)=true:=c4
     (try(have c4b1:decide (a0_3=a1_3)=false:=by simpa using c4))
     (try(have c4b2:(a0_3==a1_3)=false:=by simpa using c4))
     (try(have c4b3:¬(a0_3=a1_3):=by simpa using c4))
     clear c4
     obtain rfl:=Option.some.inj H
     go_enter Tryd.func51,Tryd.ntmps51
     go_wp2_with (first|((with_reducible refine J (N:=2) rfl ?_);refine Fix.be 2 #[V I a0_0,V I a0_1,V I a0_2,O a0_3,V I a0_4,O a0_5] 40 ?_;intro gb1 hg w1 BK1 hb;have GW1:D (w.heap.size≤gb1):=gE hg;have GE1:=GW1;replace HB:=eB hb;clear hb hg)|((with_reducible refine J (N:=3) rfl ?_);refine Fix.be 3 #[V I a1_0,V I a1_1,V I a1_2,O a1_3,V I a1_4,O a1_5] 40 ?_;intro gb2 hg w2 BK2 hb;have GW2:D (w.heap.size≤gb2):=gE hg;have GE2:=GW2;have NB1_293:=nL hg BK1;have NB2_292:=nG hg BK1;replace BK1:=eK BK1 hb;replace HB:=eB hb;clear hb hg;have hnb1:=NB1_293.out;have hnc1:=NB2_292.out;obtain⟨hcz1_0,hcz1_1,hcz1_2,hcz1_3,hcz1_4,hcz1_5,hfz1_0,hfz1_1,hfz1_2,hfz1_3,hfz1_4,hfz1_5⟩:=d6 BK1.out;have h_:=d6 BK2.out;(repeat(obtain⟨_,h_⟩:=h_))))
     go_ret
     exact⟨rE,uB⟩
    ·rw[if_neg c4]at H
     have c4b0:(a0_3 !=a1_3)=false:=by simpa using c4
     (try(have c4b1:decide (a0_3=a1_3)=true:=by simpa using c4))
     (try(have c4b2:(a0_3==a1_3)=true:=by simpa using c4))
     clear c4
     by_cases c5:a0_4=a1_4
     ·rw[if_pos c5]at H
      have c5b0:(a0_4==a1_4)=true:=beq_iff_eq.mpr c5
      have c5b1:(a0_4 !=a1_4)=false:=bne_eq_false_iff_eq.mpr c5
      clear c5
      by_cases c6:(a0_5 !=a1_5)=true
      ·rw[if_pos c6]at H
       have c6b0:(a0_5 !=a1_5)=true:=c6
       (try(have c6b1:decide (a0_5=a1_5)=false:=by simpa using c6))
       (try(have c6b2:(a0_5==a1_5)=false:=by simpa using c6))
       (try(have c6b3:¬(a0_5=a1_5):=by simpa using c6))
       clear c6
       obtain rfl:=Option.some.inj H
       go_enter Tryd.func51,Tryd.ntmps51
       go_wp2_with (first|((with_reducible refine J (N:=2) rfl ?_);refine Fix.be 2 #[V I a0_0,V I a0_1,V I a0_2,O a0_3,V I a0_4,O a0_5] 40 ?_;intro gb1 hg w1 BK1 hb;have GW1:D (w.heap.size≤gb1):=gE hg;have GE1:=GW1;replace HB:=eB hb;clear hb hg)|((with_reducible refine J (N:=3) rfl ?_);refine Fix.be 3 #[V I a1_0,V I a1_1,V I a1_2,O a1_3,V I a1_4,O a1_5] 40 ?_;intro gb2 hg w2 BK2 hb;have GW2:D (w.heap.size≤gb2):=gE hg;have GE2:=GW2;have NB1_293:=nL hg BK1;have NB2_292:=nG hg BK1;replace BK1:=eK BK1 hb;replace HB:=eB hb;clear hb hg;have hnb1:=NB1_293.out;have hnc1:=NB2_292.out;obtain⟨hcz1_0,hcz1_1,hcz1_2,hcz1_3,hcz1_4,hcz1_5,hfz1_0,hfz1_1,hfz1_2,hfz1_3,hfz1_4,hfz1_5⟩:=d6 BK1.out;obtain⟨hcz2_0,hcz2_1,hcz2_2,hcz2_3,hcz2_4,hcz2_5,hfz2_0,hfz2_1,hfz2_2,hfz2_3,hfz2_4,hfz2_5⟩:=d6 BK2.out))
       go_ret
       exact⟨rE,uB⟩
      ·rw[if_neg c6]at H
       have c6b0:(a0_5 !=a1_5)=false:=by simpa using c6
       (try(have c6b1:decide (a0_5=a1_5)=true:=by simpa using c6))
       (try(have c6b2:(a0_5==a1_5)=true:=by simpa using c6))
       clear c6
       obtain rfl:=Option.some.inj H
       go_enter Tryd.func51,Tryd.ntmps51
       go_wp2_with (first|((with_reducible refine J (N:=2) rfl ?_);refine Fix.be 2 #[V I a0_0,V I a0_1,V I a0_2,O a0_3,V I a0_4,O a0_5] 40 ?_;intro gb1 hg w1 BK1 hb;have GW1:D (w.heap.size≤gb1):=gE hg;have GE1:=GW1;replace HB:=eB hb;clear hb hg)|((with_reducible refine J (N:=3) rfl ?_);refine Fix.be 3 #[V I a1_0,V I a1_1,V I a1_2,O a1_3,V I a1_4,O a1_5] 40 ?_;intro gb2 hg w2 BK2 hb;have GW2:D (w.heap.size≤gb2):=gE hg;have GE2:=GW2;have NB1_293:=nL hg BK1;have NB2_292:=nG hg BK1;replace BK1:=eK BK1 hb;replace HB:=eB hb;clear hb hg;have hnb1:=NB1_293.out;have hnc1:=NB2_292.out;have h_:=d6 BK1.out;(repeat(obtain⟨_,h_⟩:=h_));obtain⟨hcz1_0,hcz1_1,hcz1_2,hcz1_3,hcz1_4,hcz1_5,hfz1_0,hfz1_1,hfz1_2,hfz1_3,hfz1_4,hfz1_5⟩:=d6 BK2.out))
       go_ret
       exact⟨rE,uB⟩
     ·rw[if_neg c5]at H
      have c5b0:(a0_4==a1_4)=false:=beq_eq_false_iff_ne.mpr c5
      have c5b1:(a0_4 !=a1_4)=true:=bne_iff_ne.mpr c5
      obtain rfl:=Option.some.inj H
      exact laws_eqJob.W1
   ·rw[if_neg c3]at H
    have c3b0:(a0_2==a1_2)=false:=beq_eq_false_iff_ne.mpr c3
    have c3b1:(a0_2 !=a1_2)=true:=bne_iff_ne.mpr c3
    obtain rfl:=Option.some.inj H
    exact laws_eqJob.W1
  ·rw[if_neg c2]at H
   have c2b0:(a0_1==a1_1)=false:=beq_eq_false_iff_ne.mpr c2
   have c2b1:(a0_1 !=a1_1)=true:=bne_iff_ne.mpr c2
   obtain rfl:=Option.some.inj H
   exact laws_eqJob.W1
 ·rw[if_neg c1]at H
  have c1b0:(a0_0==a1_0)=false:=beq_eq_false_iff_ne.mpr c1
  have c1b1:(a0_0 !=a1_0)=true:=bne_iff_ne.mpr c1
  obtain rfl:=Option.some.inj H
  exact laws_eqJob.W1
def laws_eqJobS.l0:Nat→List (S40)→List (S40)→Int→Option (Bool)
 |0,_,_,_=>none
 |k+1,x0,x1,x5=>if x5<(x0.length:Int) then(if 0≤x5 then(if x5<(x1.length:Int) then((laws_eqJob.f ((rd_T40 x0 x5).f0) ((rd_T40 x0 x5).f1) ((rd_T40 x0 x5).f2) ((rd_T40 x0 x5).f3) ((rd_T40 x0 x5).f4) ((rd_T40 x0 x5).f5) ((rd_T40 x1 x5).f0) ((rd_T40 x1 x5).f1) ((rd_T40 x1 x5).f2) ((rd_T40 x1 x5).f3) ((rd_T40 x1 x5).f4) ((rd_T40 x1 x5).f5)).bind fun t296=>(if t296=true then(laws_eqJobS.l0 k x0 x1 (wrap64 (x5+1))) else(some false))) else(none)) else(none)) else(some true)
def laws_eqJobS.f (k:Nat) (l0:List (S40)) (l1:List (S40)):Option (Bool):=if(l0.length:Int)=(l1.length:Int) then(laws_eqJobS.l0 k l0 l1 0) else(some false)
theorem laws_eqJobS.mono_l:∀k,(∀y0 y1 y2,LeO (laws_eqJobS.l0 k y0 y1 y2) (laws_eqJobS.l0 (k+1) y0 y1 y2))
 |0=>fun _ _ _ r h=>by simp[laws_eqJobS.l0]at h
 |k+1=>by
  have ih0:=laws_eqJobS.mono_l k
  ·intro y0 y1 y2
   unfold laws_eqJobS.l0
   repeat' first|(with_reducible first|apply ih0|exact LeO.refl _|exact LeO.none _|refine LeO.ite ?_ ?_|refine LeO.bind ?_ (fun _=> ?_))|apply ih0|exact LeO.none _|refine LeO.ite ?_ ?_|refine LeO.bind ?_ (fun _=> ?_)
theorem laws_eqJobS.mono:∀a0 a1 k,LeO (laws_eqJobS.f k a0 a1) (laws_eqJobS.f (k+1) a0 a1):=by
 intro a0 a1 k
 have ih0:=laws_eqJobS.mono_l k
 unfold laws_eqJobS.f
 repeat' first|(with_reducible first|apply ih0|exact LeO.refl _|exact LeO.none _|refine LeO.ite ?_ ?_|refine LeO.bind ?_ (fun _=> ?_))|apply ih0|exact LeO.none _|refine LeO.ite ?_ ?_|refine LeO.bind ?_ (fun _=> ?_)
def laws_eqJobS.T6:Bool×List (List Nat×List Nat):=(true,[([],[]),([],[]),([0,1],[0,1]),([2],[2]),([],[]),([],[]),([4,5],[4,5]),([6],[6]),([3,7],[3,7]),([8],[8])])
def laws_eqJobS.B6:List Nat:= [0,0,3,7,0,0,48,112,255,511]
theorem laws_eqJobS.tab6:rtab .any (opsOf Tryd.f50 6)=laws_eqJobS.T6:=by kernel_rfl
theorem laws_eqJobS.bits6:waitsOk laws_eqJobS.T6.2 laws_eqJobS.B6=true:=by kernel_rfl
set_option maxHeartbeats 40000000 in
set_option maxRecDepth 100000 in
theorem laws_eqJobS.calls (k:Nat) (A0:Option Addr) (c0:Nat) (l0:List (S40)) (A1:Option Addr) (c1:Nat) (l1:List (S40)) (r:Bool) (w:World) (hr0:Kd.C k40 w A0 l0.length l0) (hc0:l0.length≤c0) (hr1:Kd.C k40 w A1 l1.length l1) (hc1:l1.length≤c1) (h:laws_eqJobS.f k l0 l1=some r):
  Calls Tryd.prog 50 #[L A0 l0.length c0,L A1 l1.length c1] w fun e w'=>e=.returned (O r)∧Below w.heap.size w w':=by
 have hu1:=Tryd.underlying40
 have HR1:=C hr0
 have HC1:=C hc0
 (try clear hr0);(try clear hc0)
 have HR2:=C hr1
 have HC2:=C hc1
 (try clear hr1);(try clear hc1)
 have HB:=C (Below.refl w.heap.size w)
 have H:=h
 unfold laws_eqJobS.f at H
 clear h
 by_cases c1:(l0.length:Int)=(l1.length:Int)
 ·rw[if_pos c1]at H
  have c1b0:((l0.length:Int)==(l1.length:Int))=true:=beq_iff_eq.mpr c1
  have c1b1:((l0.length:Int) !=(l1.length:Int))=false:=bne_eq_false_iff_eq.mpr c1
  have c1b2:(l0.length==l1.length)=true:=by first|simpa using c1|(simp at c1 ⊢;omega)
  clear c1
  have H':=C H
  clear H
  go_enter Tryd.func50,Tryd.ntmps50
  go_wp2
  go_loopg [5] k (fun kq v5 w'=>∃(x1_1:Int),v5=V I x1_1∧D (laws_eqJobS.l0 kq l0 l1 x1_1=some r)∧D (kq≤k)∧D (Below w.heap.size w w'))
  case atStart=>exact⟨(0),rS,H',⟨Nat.le_refl _⟩,⟨uB⟩⟩
  case round=>
   clear H'
   obtain⟨x1_1,rfl,HA,HK1,HB⟩:=hrel
   cases gk with
   |zero=>exact absurd HA.out (by simp[laws_eqJobS.l0])
   |succ k1=>
    have H:=HA.out
    clear HA
    simp only[laws_eqJobS.l0]at H
    by_cases c2:x1_1<(l0.length:Int)
    ·rw[if_pos c2]at H
     have c2b0:decide (x1_1<(l0.length:Int))=true:=decide_eq_true c2
     clear c2
     by_cases c3:0≤x1_1
     ·rw[if_pos c3]at H
      have c3b0:decide (0≤x1_1)=true:=decide_eq_true c3
      clear c3
      by_cases c4:x1_1<(l1.length:Int)
      ·rw[if_pos c4]at H
       have c4b0:decide (x1_1<(l1.length:Int))=true:=decide_eq_true c4
       clear c4
       obtain⟨t1,A1,H⟩:=bnd H
       by_cases c5:t1=true
       ·subst c5
        rw[if_pos rfl]at H
        have H':=C H
        clear H
        try go_wp2
        replace HB:=dB HB
        have p1:0≤(x1_1:Int):=of_decide_eq_true (by first|(with_reducible assumption)|assumption)
        have q1:x1_1<(l0.length:Int):=of_decide_eq_true (by first|(with_reducible assumption)|assumption)
        obtain⟨ad1,e1,hx1_0,hx1_1,hx1_2,hx1_3,hx1_4,hx1_5⟩:=at_T40 HR1.out x1_1 p1 q1
        have hw1_5:=hx1_5
        have hw1_4:=hx1_4
        have hw1_3:=hx1_3
        have hw1_2:=hx1_2
        have hw1_1:=hx1_1
        have hw1_0:=hx1_0
        cases e1
        replace hx1_0:=hx HB hx1_0
        replace hx1_1:=hx HB hx1_1
        replace hx1_2:=hx HB hx1_2
        replace hx1_3:=hx HB hx1_3
        replace hx1_4:=hx HB hx1_4
        replace hx1_5:=hx HB hx1_5
        replace p1:=eq_true p1
        replace q1:=eq_true q1
        have p2:0≤(x1_1:Int):=of_decide_eq_true (by first|(with_reducible assumption)|assumption)
        have q2:x1_1<(l1.length:Int):=of_decide_eq_true (by first|(with_reducible assumption)|assumption)
        obtain⟨ad2,e2,hx2_0,hx2_1,hx2_2,hx2_3,hx2_4,hx2_5⟩:=at_T40 HR2.out x1_1 p2 q2
        have hw2_5:=hx2_5
        have hw2_4:=hx2_4
        have hw2_3:=hx2_3
        have hw2_2:=hx2_2
        have hw2_1:=hx2_1
        have hw2_0:=hx2_0
        cases e2
        replace hx2_0:=hx HB hx2_0
        replace hx2_1:=hx HB hx2_1
        replace hx2_2:=hx HB hx2_2
        replace hx2_3:=hx HB hx2_3
        replace hx2_4:=hx HB hx2_4
        replace hx2_5:=hx HB hx2_5
        replace p2:=eq_true p2
        replace q2:=eq_true q2
        refine start_ (n:=10) (S:=fun w'=>w'.cell? (ad1.add ((x1_1).toNat * 6))=some (V I ((rd_T40 l0 x1_1).f0))∧w'.cell? ⟨(ad1.add ((x1_1).toNat * 6)).block,(ad1.add ((x1_1).toNat * 6)).off+1,none⟩=some (V I ((rd_T40 l0 x1_1).f1))∧w'.cell? ⟨(ad1.add ((x1_1).toNat * 6)).block,(ad1.add ((x1_1).toNat * 6)).off+2,none⟩=some (V I ((rd_T40 l0 x1_1).f2))∧w'.cell? ⟨(ad1.add ((x1_1).toNat * 6)).block,(ad1.add ((x1_1).toNat * 6)).off+3,none⟩=some (O ((rd_T40 l0 x1_1).f3))∧w'.cell? ⟨(ad1.add ((x1_1).toNat * 6)).block,(ad1.add ((x1_1).toNat * 6)).off+4,none⟩=some (V I ((rd_T40 l0 x1_1).f4))∧w'.cell? ⟨(ad1.add ((x1_1).toNat * 6)).block,(ad1.add ((x1_1).toNat * 6)).off+5,none⟩=some (O ((rd_T40 l0 x1_1).f5))∧w'.cell? (ad2.add ((x1_1).toNat * 6))=some (V I ((rd_T40 l1 x1_1).f0))∧w'.cell? ⟨(ad2.add ((x1_1).toNat * 6)).block,(ad2.add ((x1_1).toNat * 6)).off+1,none⟩=some (V I ((rd_T40 l1 x1_1).f1))∧w'.cell? ⟨(ad2.add ((x1_1).toNat * 6)).block,(ad2.add ((x1_1).toNat * 6)).off+2,none⟩=some (V I ((rd_T40 l1 x1_1).f2))∧w'.cell? ⟨(ad2.add ((x1_1).toNat * 6)).block,(ad2.add ((x1_1).toNat * 6)).off+3,none⟩=some (O ((rd_T40 l1 x1_1).f3))∧w'.cell? ⟨(ad2.add ((x1_1).toNat * 6)).block,(ad2.add ((x1_1).toNat * 6)).off+4,none⟩=some (V I ((rd_T40 l1 x1_1).f4))∧w'.cell? ⟨(ad2.add ((x1_1).toNat * 6)).block,(ad2.add ((x1_1).toNat * 6)).off+5,none⟩=some (O ((rd_T40 l1 x1_1).f5))) (ds:= []) #[false,false,false,false,false,false,false,false,false,false] (by kernel_rfl) rfl rfl hi (fun hHeld=> ?_);refine with_tabW laws_eqJobS.tab6 laws_eqJobS.bits6 (fun HT_ HW_=> ?_)
        generalize wr.drew=w1 at HB hx1_0 hx1_1 hx1_2 hx1_3 hx1_4 hx1_5 hx2_0 hx2_1 hx2_2 hx2_3 hx2_4 hx2_5 hHeld ⊢
        refine pu 0 (some 17) ?_
        refine pu 1 (some 18) ?_
        refine pu 2 (some 19) ?_
        refine pu 4 (some 21) ?_
        refine pu 5 (some 22) ?_
        refine pu 6 (some 23) ?_
        refine tu 3 (some 20) hHeld ?_
        refine tu 7 (some 24) hHeld ?_
        refine ou 8 (some 25) (fun K hK=> ?_)
        refine gs Tryd.func51 #[G #[V I ((rd_T40 l0 x1_1).f0),V I ((rd_T40 l0 x1_1).f1),V I ((rd_T40 l0 x1_1).f2),O ((rd_T40 l0 x1_1).f3),V I ((rd_T40 l0 x1_1).f4),O ((rd_T40 l0 x1_1).f5)],G #[V I ((rd_T40 l1 x1_1).f0),V I ((rd_T40 l1 x1_1).f1),V I ((rd_T40 l1 x1_1).f2),O ((rd_T40 l1 x1_1).f3),V I ((rd_T40 l1 x1_1).f4),O ((rd_T40 l1 x1_1).f5)]] ?_
        with_reducible refine(laws_eqJob.calls ((rd_T40 l0 x1_1).f0) ((rd_T40 l0 x1_1).f1) ((rd_T40 l0 x1_1).f2) ((rd_T40 l0 x1_1).f3) ((rd_T40 l0 x1_1).f4) ((rd_T40 l0 x1_1).f5) ((rd_T40 l1 x1_1).f0) ((rd_T40 l1 x1_1).f1) ((rd_T40 l1 x1_1).f2) ((rd_T40 l1 x1_1).f3) ((rd_T40 l1 x1_1).f4) ((rd_T40 l1 x1_1).f5) true _ A1.out).mono ?_
        rintro e w2 ⟨rfl,hb⟩
        refine⟨_,rfl,?_⟩
        replace HB:=eB hb
        (try clear hb)
        refine hK.out _ _ ⟨((HB.out.cell (E w _ hw1_0)).trans hw1_0),((HB.out.cell (E w _ hw1_1)).trans hw1_1),((HB.out.cell (E w _ hw1_2)).trans hw1_2),((HB.out.cell (E w _ hw1_3)).trans hw1_3),((HB.out.cell (E w _ hw1_4)).trans hw1_4),((HB.out.cell (E w _ hw1_5)).trans hw1_5),((HB.out.cell (E w _ hw2_0)).trans hw2_0),((HB.out.cell (E w _ hw2_1)).trans hw2_1),((HB.out.cell (E w _ hw2_2)).trans hw2_2),((HB.out.cell (E w _ hw2_3)).trans hw2_3),((HB.out.cell (E w _ hw2_4)).trans hw2_4),((HB.out.cell (E w _ hw2_5)).trans hw2_5)⟩ (fun hHeld=> ?_)
        clear hK K
        refine nu (N:=(some 25)) ?_
        refine pu 9 (some 26) ?_
        refine done_ (done_of HT_.out (by kernel_rfl)) ?_
        try go_wp2
        go_roundg k1
        case measure=>have:=HK1.out;omega
        case rel=>exact⟨(wrap64 (x1_1+1)),rS,H',⟨by have:=HK1.out;omega⟩,⟨uB⟩⟩
       ·replace c5:=Bool.eq_false_iff.mpr c5
        subst c5
        rw[if_neg Bool.false_ne_true]at H
        obtain rfl:=Option.some.inj H
        try go_wp2
        replace HB:=dB HB
        have p1:0≤(x1_1:Int):=of_decide_eq_true (by first|(with_reducible assumption)|assumption)
        have q1:x1_1<(l0.length:Int):=of_decide_eq_true (by first|(with_reducible assumption)|assumption)
        obtain⟨ad1,e1,hx1_0,hx1_1,hx1_2,hx1_3,hx1_4,hx1_5⟩:=at_T40 HR1.out x1_1 p1 q1
        have hw1_5:=hx1_5
        have hw1_4:=hx1_4
        have hw1_3:=hx1_3
        have hw1_2:=hx1_2
        have hw1_1:=hx1_1
        have hw1_0:=hx1_0
        cases e1
        replace hx1_0:=hx HB hx1_0
        replace hx1_1:=hx HB hx1_1
        replace hx1_2:=hx HB hx1_2
        replace hx1_3:=hx HB hx1_3
        replace hx1_4:=hx HB hx1_4
        replace hx1_5:=hx HB hx1_5
        replace p1:=eq_true p1
        replace q1:=eq_true q1
        have p2:0≤(x1_1:Int):=of_decide_eq_true (by first|(with_reducible assumption)|assumption)
        have q2:x1_1<(l1.length:Int):=of_decide_eq_true (by first|(with_reducible assumption)|assumption)
        obtain⟨ad2,e2,hx2_0,hx2_1,hx2_2,hx2_3,hx2_4,hx2_5⟩:=at_T40 HR2.out x1_1 p2 q2
        have hw2_5:=hx2_5
        have hw2_4:=hx2_4
        have hw2_3:=hx2_3
        have hw2_2:=hx2_2
        have hw2_1:=hx2_1
        have hw2_0:=hx2_0
        cases e2
        replace hx2_0:=hx HB hx2_0
        replace hx2_1:=hx HB hx2_1
        replace hx2_2:=hx HB hx2_2
        replace hx2_3:=hx HB hx2_3
        replace hx2_4:=hx HB hx2_4
        replace hx2_5:=hx HB hx2_5
        replace p2:=eq_true p2
        replace q2:=eq_true q2
        refine start_ (n:=10) (S:=fun w'=>w'.cell? (ad1.add ((x1_1).toNat * 6))=some (V I ((rd_T40 l0 x1_1).f0))∧w'.cell? ⟨(ad1.add ((x1_1).toNat * 6)).block,(ad1.add ((x1_1).toNat * 6)).off+1,none⟩=some (V I ((rd_T40 l0 x1_1).f1))∧w'.cell? ⟨(ad1.add ((x1_1).toNat * 6)).block,(ad1.add ((x1_1).toNat * 6)).off+2,none⟩=some (V I ((rd_T40 l0 x1_1).f2))∧w'.cell? ⟨(ad1.add ((x1_1).toNat * 6)).block,(ad1.add ((x1_1).toNat * 6)).off+3,none⟩=some (O ((rd_T40 l0 x1_1).f3))∧w'.cell? ⟨(ad1.add ((x1_1).toNat * 6)).block,(ad1.add ((x1_1).toNat * 6)).off+4,none⟩=some (V I ((rd_T40 l0 x1_1).f4))∧w'.cell? ⟨(ad1.add ((x1_1).toNat * 6)).block,(ad1.add ((x1_1).toNat * 6)).off+5,none⟩=some (O ((rd_T40 l0 x1_1).f5))∧w'.cell? (ad2.add ((x1_1).toNat * 6))=some (V I ((rd_T40 l1 x1_1).f0))∧w'.cell? ⟨(ad2.add ((x1_1).toNat * 6)).block,(ad2.add ((x1_1).toNat * 6)).off+1,none⟩=some (V I ((rd_T40 l1 x1_1).f1))∧w'.cell? ⟨(ad2.add ((x1_1).toNat * 6)).block,(ad2.add ((x1_1).toNat * 6)).off+2,none⟩=some (V I ((rd_T40 l1 x1_1).f2))∧w'.cell? ⟨(ad2.add ((x1_1).toNat * 6)).block,(ad2.add ((x1_1).toNat * 6)).off+3,none⟩=some (O ((rd_T40 l1 x1_1).f3))∧w'.cell? ⟨(ad2.add ((x1_1).toNat * 6)).block,(ad2.add ((x1_1).toNat * 6)).off+4,none⟩=some (V I ((rd_T40 l1 x1_1).f4))∧w'.cell? ⟨(ad2.add ((x1_1).toNat * 6)).block,(ad2.add ((x1_1).toNat * 6)).off+5,none⟩=some (O ((rd_T40 l1 x1_1).f5))) (ds:= []) #[false,false,false,false,false,false,false,false,false,false] (by kernel_rfl) rfl rfl hi (fun hHeld=> ?_);refine with_tabW laws_eqJobS.tab6 laws_eqJobS.bits6 (fun HT_ HW_=> ?_)
        generalize wr.drew=w1 at HB hx1_0 hx1_1 hx1_2 hx1_3 hx1_4 hx1_5 hx2_0 hx2_1 hx2_2 hx2_3 hx2_4 hx2_5 hHeld ⊢
        refine pu 0 (some 17) ?_
        refine pu 1 (some 18) ?_
        refine pu 2 (some 19) ?_
        refine pu 4 (some 21) ?_
        refine pu 5 (some 22) ?_
        refine pu 6 (some 23) ?_
        refine tu 3 (some 20) hHeld ?_
        refine tu 7 (some 24) hHeld ?_
        refine ou 8 (some 25) (fun K hK=> ?_)
        refine gs Tryd.func51 #[G #[V I ((rd_T40 l0 x1_1).f0),V I ((rd_T40 l0 x1_1).f1),V I ((rd_T40 l0 x1_1).f2),O ((rd_T40 l0 x1_1).f3),V I ((rd_T40 l0 x1_1).f4),O ((rd_T40 l0 x1_1).f5)],G #[V I ((rd_T40 l1 x1_1).f0),V I ((rd_T40 l1 x1_1).f1),V I ((rd_T40 l1 x1_1).f2),O ((rd_T40 l1 x1_1).f3),V I ((rd_T40 l1 x1_1).f4),O ((rd_T40 l1 x1_1).f5)]] ?_
        with_reducible refine(laws_eqJob.calls ((rd_T40 l0 x1_1).f0) ((rd_T40 l0 x1_1).f1) ((rd_T40 l0 x1_1).f2) ((rd_T40 l0 x1_1).f3) ((rd_T40 l0 x1_1).f4) ((rd_T40 l0 x1_1).f5) ((rd_T40 l1 x1_1).f0) ((rd_T40 l1 x1_1).f1) ((rd_T40 l1 x1_1).f2) ((rd_T40 l1 x1_1).f3) ((rd_T40 l1 x1_1).f4) ((rd_T40 l1 x1_1).f5) false _ A1.out).mono ?_
        rintro e w2 ⟨rfl,hb⟩
        refine⟨_,rfl,?_⟩
        replace HB:=eB hb
        (try clear hb)
        refine hK.out _ _ ⟨((HB.out.cell (E w _ hw1_0)).trans hw1_0),((HB.out.cell (E w _ hw1_1)).trans hw1_1),((HB.out.cell (E w _ hw1_2)).trans hw1_2),((HB.out.cell (E w _ hw1_3)).trans hw1_3),((HB.out.cell (E w _ hw1_4)).trans hw1_4),((HB.out.cell (E w _ hw1_5)).trans hw1_5),((HB.out.cell (E w _ hw2_0)).trans hw2_0),((HB.out.cell (E w _ hw2_1)).trans hw2_1),((HB.out.cell (E w _ hw2_2)).trans hw2_2),((HB.out.cell (E w _ hw2_3)).trans hw2_3),((HB.out.cell (E w _ hw2_4)).trans hw2_4),((HB.out.cell (E w _ hw2_5)).trans hw2_5)⟩ (fun hHeld=> ?_)
        clear hK K
        refine nu (N:=(some 25)) ?_
        refine pu 9 (some 26) ?_
        refine done_ (done_of HT_.out (by kernel_rfl)) ?_
        try go_wp2
        go_ret
        exact⟨rE,uB⟩
      ·rw[if_neg c4]at H
       exact absurd H (by simp)
     ·rw[if_neg c3]at H
      exact absurd H (by simp)
    ·rw[if_neg c2]at H
     have c2b0:decide (x1_1<(l0.length:Int))=false:=decide_eq_false c2
     clear c2
     obtain rfl:=Option.some.inj H
     go_wp2
     go_ret
     exact⟨rE,uB⟩
 ·rw[if_neg c1]at H
  have c1b0:((l0.length:Int)==(l1.length:Int))=false:=beq_eq_false_iff_ne.mpr c1
  have c1b1:((l0.length:Int) !=(l1.length:Int))=true:=bne_iff_ne.mpr c1
  have c1b2:(l0.length==l1.length)=false:=by first|simpa using c1|(simp at c1 ⊢;omega)
  obtain rfl:=Option.some.inj H
  go_enter Tryd.func50,Tryd.ntmps50
  go_wp2
  go_ret
  exact⟨rE,uB⟩
def laws_eqIntS.l0:Nat→List Int→List Int→Int→Option (Bool)
 |0,_,_,_=>none
 |k+1,x0,x1,x5=>if x5<(x0.length:Int) then(if 0≤x5 then(if x5<(x1.length:Int) then(if(rd x0 x5)=(rd x1 x5) then(laws_eqIntS.l0 k x0 x1 (wrap64 (x5+1))) else(some false)) else(none)) else(none)) else(some true)
def laws_eqIntS.f (k:Nat) (l0:List Int) (l1:List Int):Option (Bool):=if(l0.length:Int)=(l1.length:Int) then(laws_eqIntS.l0 k l0 l1 0) else(some false)
theorem laws_eqIntS.mono_l:∀k,(∀y0 y1 y2,LeO (laws_eqIntS.l0 k y0 y1 y2) (laws_eqIntS.l0 (k+1) y0 y1 y2))
 |0=>fun _ _ _ r h=>by simp[laws_eqIntS.l0]at h
 |k+1=>by
  have ih0:=laws_eqIntS.mono_l k
  ·intro y0 y1 y2
   unfold laws_eqIntS.l0
   repeat' first|(with_reducible first|apply ih0|exact LeO.refl _|exact LeO.none _|refine LeO.ite ?_ ?_|refine LeO.bind ?_ (fun _=> ?_))|apply ih0|exact LeO.none _|refine LeO.ite ?_ ?_|refine LeO.bind ?_ (fun _=> ?_)
theorem laws_eqIntS.mono:∀a0 a1 k,LeO (laws_eqIntS.f k a0 a1) (laws_eqIntS.f (k+1) a0 a1):=by
 intro a0 a1 k
 have ih0:=laws_eqIntS.mono_l k
 unfold laws_eqIntS.f
 repeat' first|(with_reducible first|apply ih0|exact LeO.refl _|exact LeO.none _|refine LeO.ite ?_ ?_|refine LeO.bind ?_ (fun _=> ?_))|apply ih0|exact LeO.none _|refine LeO.ite ?_ ?_|refine LeO.bind ?_ (fun _=> ?_)
theorem laws_eqIntS.W1 {p:Prop} (h:p:=by
  go_wp2
  repeat(go_quiet (fail);try go_wp2)
  go_ret
  exact⟨by first|rfl|(simp;done)|(simp[*];done),by repeat(first|exact Drawn0.refl _|apply Drawn0.step)⟩):p:=h
set_option maxHeartbeats 40000000 in
set_option maxRecDepth 100000 in
theorem laws_eqIntS.calls (k:Nat) (A0:Option Addr) (c0:Nat) (l0:List Int) (A1:Option Addr) (c1:Nat) (l1:List Int) (r:Bool) (w:World) (hr0:Kd.C (Kd.int .i64) w A0 l0.length l0) (hc0:l0.length≤c0) (hr1:Kd.C (Kd.int .i64) w A1 l1.length l1) (hc1:l1.length≤c1) (h:laws_eqIntS.f k l0 l1=some r):
  Calls Tryd.prog 79 #[L A0 l0.length c0,L A1 l1.length c1] w fun e w'=>e=.returned (O r)∧Drawn0 w w':=by
 have HR1:=C hr0
 have HC1:=C hc0
 (try clear hr0);(try clear hc0)
 have HR2:=C hr1
 have HC2:=C hc1
 (try clear hr1);(try clear hc1)
 have H:=h
 unfold laws_eqIntS.f at H
 clear h
 by_cases c1:(l0.length:Int)=(l1.length:Int)
 ·rw[if_pos c1]at H
  have c1b0:((l0.length:Int)==(l1.length:Int))=true:=beq_iff_eq.mpr c1
  have c1b1:((l0.length:Int) !=(l1.length:Int))=false:=bne_eq_false_iff_eq.mpr c1
  have c1b2:(l0.length==l1.length)=true:=by first|simpa using c1|(simp at c1 ⊢;omega)
  clear c1
  have H':=C H
  clear H
  go_enter Tryd.func79,Tryd.ntmps79
  go_wp2
  repeat(go_quiet (fail);try go_wp2)
  go_loopg [5] k (fun kq v5 w'=>∃(x1_1:Int),v5=V I x1_1∧D (laws_eqIntS.l0 kq l0 l1 x1_1=some r)∧D (kq≤k)∧Drawn0 w w')
  case atStart=>exact⟨(0),rS,H',⟨Nat.le_refl _⟩,by repeat(first|exact Drawn0.refl _|apply Drawn0.step)⟩
  case round=>
   clear H'
   obtain⟨x1_1,rfl,HA,HK1,⟨m1,rfl⟩⟩:=hrel
   cases gk with
   |zero=>exact absurd HA.out (by simp[laws_eqIntS.l0])
   |succ k1=>
    have H:=HA.out
    clear HA
    simp only[laws_eqIntS.l0]at H
    by_cases c2:x1_1<(l0.length:Int)
    ·rw[if_pos c2]at H
     have c2b0:decide (x1_1<(l0.length:Int))=true:=decide_eq_true c2
     clear c2
     by_cases c3:0≤x1_1
     ·rw[if_pos c3]at H
      have c3b0:decide (0≤x1_1)=true:=decide_eq_true c3
      clear c3
      by_cases c4:x1_1<(l1.length:Int)
      ·rw[if_pos c4]at H
       have c4b0:decide (x1_1<(l1.length:Int))=true:=decide_eq_true c4
       clear c4
       by_cases c5:(rd l0 x1_1)=(rd l1 x1_1)
       ·rw[if_pos c5]at H
        have c5b0:((rd l0 x1_1)==(rd l1 x1_1))=true:=beq_iff_eq.mpr c5
        have c5b1:((rd l0 x1_1) !=(rd l1 x1_1))=false:=bne_eq_false_iff_eq.mpr c5
        clear c5
        have H':=C H
        clear H
        have p1:0≤(x1_1:Int):=of_decide_eq_true (by first|(with_reducible assumption)|assumption)
        have q1:x1_1<(l0.length:Int):=of_decide_eq_true (by first|(with_reducible assumption)|assumption)
        obtain⟨ad1,e1,hx1_0⟩:=Kd.at_int HR1.out x1_1 p1 q1
        cases e1
        replace p1:=eq_true p1
        replace q1:=eq_true q1
        have p2:0≤(x1_1:Int):=of_decide_eq_true (by first|(with_reducible assumption)|assumption)
        have q2:x1_1<(l1.length:Int):=of_decide_eq_true (by first|(with_reducible assumption)|assumption)
        obtain⟨ad2,e2,hx2_0⟩:=Kd.at_int HR2.out x1_1 p2 q2
        cases e2
        replace p2:=eq_true p2
        replace q2:=eq_true q2
        go_wp2
        repeat(go_quiet (fail);try go_wp2)
        go_roundg k1
        case measure=>have:=HK1.out;omega
        case rel=>exact⟨(wrap64 (x1_1+1)),rS,H',⟨by have:=HK1.out;omega⟩,by repeat(first|exact Drawn0.refl _|apply Drawn0.step)⟩
       ·rw[if_neg c5]at H
        have c5b0:((rd l0 x1_1)==(rd l1 x1_1))=false:=beq_eq_false_iff_ne.mpr c5
        have c5b1:((rd l0 x1_1) !=(rd l1 x1_1))=true:=bne_iff_ne.mpr c5
        obtain rfl:=Option.some.inj H
        have p1:0≤(x1_1:Int):=of_decide_eq_true (by first|(with_reducible assumption)|assumption)
        have q1:x1_1<(l0.length:Int):=of_decide_eq_true (by first|(with_reducible assumption)|assumption)
        obtain⟨ad1,e1,hx1_0⟩:=Kd.at_int HR1.out x1_1 p1 q1
        cases e1
        replace p1:=eq_true p1
        replace q1:=eq_true q1
        have p2:0≤(x1_1:Int):=of_decide_eq_true (by first|(with_reducible assumption)|assumption)
        have q2:x1_1<(l1.length:Int):=of_decide_eq_true (by first|(with_reducible assumption)|assumption)
        obtain⟨ad2,e2,hx2_0⟩:=Kd.at_int HR2.out x1_1 p2 q2
        cases e2
        replace p2:=eq_true p2
        replace q2:=eq_true q2
        exact laws_eqIntS.W1
      ·rw[if_neg c4]at H
       exact absurd H (by simp)
     ·rw[if_neg c3]at H
      exact absurd H (by simp)
    ·rw[if_neg c2]at H
     have c2b0:decide (x1_1<(l0.length:Int))=false:=decide_eq_false c2
     clear c2
     obtain rfl:=Option.some.inj H
     exact laws_eqIntS.W1
 ·rw[if_neg c1]at H
  have c1b0:((l0.length:Int)==(l1.length:Int))=false:=beq_eq_false_iff_ne.mpr c1
  have c1b1:((l0.length:Int) !=(l1.length:Int))=true:=bne_iff_ne.mpr c1
  have c1b2:(l0.length==l1.length)=false:=by first|simpa using c1|(simp at c1 ⊢;omega)
  obtain rfl:=Option.some.inj H
  go_enter Tryd.func79,Tryd.ntmps79
  go_wp2
  repeat(go_quiet (fail);try go_wp2)
  go_ret
  exact⟨by first|rfl|(simp;done)|(simp[*];done),by repeat(first|exact Drawn0.refl _|apply Drawn0.step)⟩
def laws_eqLine.f (k:Nat) (a0_0:Int) (a0_1:Int) (l0_2:List Int) (l0_3:List Int) (a0_4:Int) (a0_5:Bool) (a1_0:Int) (a1_1:Int) (l1_2:List Int) (l1_3:List Int) (a1_4:Int) (a1_5:Bool):Option (Bool):=if a0_0=a1_0 then(if a0_1=a1_1 then((laws_eqIntS.f k l0_2 l1_2).bind fun t301=>(if t301=true then((laws_eqIntS.f k l0_3 l1_3).bind fun t302=>(if t302=true then(if a0_4=a1_4 then(if(a0_5 !=a1_5)=true then(some false) else(some true)) else(some false)) else(some false))) else(some false))) else(some false)) else(some false)
theorem laws_eqLine.mono:∀a0 a1 a2 a3 a4 a5 a6 a7 a8 a9 a10 a11 k,LeO (laws_eqLine.f k a0 a1 a2 a3 a4 a5 a6 a7 a8 a9 a10 a11) (laws_eqLine.f (k+1) a0 a1 a2 a3 a4 a5 a6 a7 a8 a9 a10 a11):=by
 intro a0 a1 a2 a3 a4 a5 a6 a7 a8 a9 a10 a11 k
 unfold laws_eqLine.f
 repeat' first|(with_reducible first|apply laws_eqIntS.mono|exact LeO.refl _|exact LeO.none _|refine LeO.ite ?_ ?_|refine LeO.bind ?_ (fun _=> ?_))|exact LeO.none _|refine LeO.ite ?_ ?_|refine LeO.bind ?_ (fun _=> ?_)
theorem laws_eqLine.W1 {p:Prop} (h:p:=by
  go_enter Tryd.func52,Tryd.ntmps52
  go_wp2_with (first|((with_reducible refine J (N:=2) rfl ?_);refine Fix.be 2 #[V I a0_0,V I a0_1,L A0_2 l0_2.length c0_2,L A0_3 l0_3.length c0_3,V I a0_4,O a0_5] 43 ?_;intro gb1 hg w1 BK1 hb;have GW1:D (w.heap.size≤gb1):=gE hg;have GE1:=GW1;replace HB:=eB hb;clear hb hg)|((with_reducible refine J (N:=3) rfl ?_);refine Fix.be 3 #[V I a1_0,V I a1_1,L A1_2 l1_2.length c1_2,L A1_3 l1_3.length c1_3,V I a1_4,O a1_5] 43 ?_;intro gb2 hg w2 BK2 hb;have GW2:D (w.heap.size≤gb2):=gE hg;have GE2:=GW2;have NB1_300:=nL hg BK1;have NB2_299:=nG hg BK1;replace BK1:=eK BK1 hb;replace HB:=eB hb;clear hb hg;have hnb1:=NB1_300.out;have hnc1:=NB2_299.out;have h_:=d6 BK1.out;(repeat(obtain⟨_,h_⟩:=h_));have h_:=d6 BK2.out;(repeat(obtain⟨_,h_⟩:=h_)))|((with_reducible refine F (f:=79) rfl ?_);refine gl 79 (some 19) Tryd.func79 #[L A0_2 l0_2.length c0_2,L A1_2 l1_2.length c1_2] ?_;(with_reducible refine(laws_eqIntS.calls k _ _ l0_2 _ _ l1_2 true _ ?side1 ?side2 ?side3 ?side4 A2.out).mono ?_);(case side1=>exact uC (Z HR1_2.out HB.out));(case side2=>exact HC1_2.out);(case side3=>exact uC (Z HR2_2.out HB.out));(case side4=>exact HC2_2.out);rintro e w' ⟨rfl,⟨nd,rfl⟩⟩;refine⟨_,rfl,?_⟩)|((with_reducible refine F (f:=79) rfl ?_);refine gl 79 (some 25) Tryd.func79 #[L A0_3 l0_3.length c0_3,L A1_3 l1_3.length c1_3] ?_;(with_reducible refine(laws_eqIntS.calls k _ _ l0_3 _ _ l1_3 false _ ?side1 ?side2 ?side3 ?side4 A3.out).mono ?_);(case side1=>exact uC (Z HR1_3.out uB));(case side2=>exact HC1_3.out);(case side3=>exact uC (Z HR2_3.out uB));(case side4=>exact HC2_3.out);rintro e w' ⟨rfl,⟨nd,rfl⟩⟩;refine⟨_,rfl,?_⟩))
  go_ret
  exact⟨rE,uB⟩):p:=h
set_option maxHeartbeats 40000000 in
set_option maxRecDepth 100000 in
theorem laws_eqLine.calls (k:Nat) (a0_0:Int) (a0_1:Int) (A0_2:Option Addr) (c0_2:Nat) (l0_2:List Int) (A0_3:Option Addr) (c0_3:Nat) (l0_3:List Int) (a0_4:Int) (a0_5:Bool) (a1_0:Int) (a1_1:Int) (A1_2:Option Addr) (c1_2:Nat) (l1_2:List Int) (A1_3:Option Addr) (c1_3:Nat) (l1_3:List Int) (a1_4:Int) (a1_5:Bool) (r:Bool) (w:World) (hr0_2:Kd.C (Kd.int .i64) w A0_2 l0_2.length l0_2) (hc0_2:l0_2.length≤c0_2) (hr0_3:Kd.C (Kd.int .i64) w A0_3 l0_3.length l0_3) (hc0_3:l0_3.length≤c0_3) (hr1_2:Kd.C (Kd.int .i64) w A1_2 l1_2.length l1_2) (hc1_2:l1_2.length≤c1_2) (hr1_3:Kd.C (Kd.int .i64) w A1_3 l1_3.length l1_3) (hc1_3:l1_3.length≤c1_3) (h:laws_eqLine.f k a0_0 a0_1 l0_2 l0_3 a0_4 a0_5 a1_0 a1_1 l1_2 l1_3 a1_4 a1_5=some r):
  Calls Tryd.prog 52 #[G #[V I a0_0,V I a0_1,L A0_2 l0_2.length c0_2,L A0_3 l0_3.length c0_3,V I a0_4,O a0_5],G #[V I a1_0,V I a1_1,L A1_2 l1_2.length c1_2,L A1_3 l1_3.length c1_3,V I a1_4,O a1_5]] w fun e w'=>e=.returned (O r)∧Below w.heap.size w w':=by
 have hu1:=Tryd.underlying43
 have HR1_2:=C hr0_2
 have HC1_2:=C hc0_2
 (try clear hr0_2);(try clear hc0_2)
 have HR1_3:=C hr0_3
 have HC1_3:=C hc0_3
 (try clear hr0_3);(try clear hc0_3)
 have HR2_2:=C hr1_2
 have HC2_2:=C hc1_2
 (try clear hr1_2);(try clear hc1_2)
 have HR2_3:=C hr1_3
 have HC2_3:=C hc1_3
 (try clear hr1_3);(try clear hc1_3)
 have HB:=C (Below.refl w.heap.size w)
 have H:=h
 unfold laws_eqLine.f at H
 clear h
 by_cases c2:a0_0=a1_0
 ·rw[if_pos c2]at H
  have c2b0:(a0_0==a1_0)=true:=beq_iff_eq.mpr c2
  have c2b1:(a0_0 !=a1_0)=false:=bne_eq_false_iff_eq.mpr c2
  clear c2
  by_cases c3:a0_1=a1_1
  ·rw[if_pos c3]at H
   have c3b0:(a0_1==a1_1)=true:=beq_iff_eq.mpr c3
   have c3b1:(a0_1 !=a1_1)=false:=bne_eq_false_iff_eq.mpr c3
   clear c3
   obtain⟨t1,A2,H⟩:=bnd H
   by_cases c4:t1=true
   ·subst c4
    rw[if_pos rfl]at H
    obtain⟨t2,A3,H⟩:=bnd H
    by_cases c5:t2=true
    ·subst c5
     rw[if_pos rfl]at H
     by_cases c6:a0_4=a1_4
     ·rw[if_pos c6]at H
      have c6b0:(a0_4==a1_4)=true:=beq_iff_eq.mpr c6
      have c6b1:(a0_4 !=a1_4)=false:=bne_eq_false_iff_eq.mpr c6
      clear c6
      by_cases c7:(a0_5 !=a1_5)=true
      ·rw[if_pos c7]at H
       have c7b0:(a0_5 !=a1_5)=true:=c7
       (try(have c7b1:decide (a0_5=a1_5)=false:=by simpa using c7))
       (try(have c7b2:(a0_5==a1_5)=false:=by simpa using c7))
       (try(have c7b3:¬(a0_5=a1_5):=by simpa using c7))
       clear c7
       obtain rfl:=Option.some.inj H
       go_enter Tryd.func52,Tryd.ntmps52
       go_wp2_with (first|((with_reducible refine J (N:=2) rfl ?_);refine Fix.be 2 #[V I a0_0,V I a0_1,L A0_2 l0_2.length c0_2,L A0_3 l0_3.length c0_3,V I a0_4,O a0_5] 43 ?_;intro gb1 hg w1 BK1 hb;have GW1:D (w.heap.size≤gb1):=gE hg;have GE1:=GW1;replace HB:=eB hb;clear hb hg)|((with_reducible refine J (N:=3) rfl ?_);refine Fix.be 3 #[V I a1_0,V I a1_1,L A1_2 l1_2.length c1_2,L A1_3 l1_3.length c1_3,V I a1_4,O a1_5] 43 ?_;intro gb2 hg w2 BK2 hb;have GW2:D (w.heap.size≤gb2):=gE hg;have GE2:=GW2;have NB1_300:=nL hg BK1;have NB2_299:=nG hg BK1;replace BK1:=eK BK1 hb;replace HB:=eB hb;clear hb hg;have hnb1:=NB1_300.out;have hnc1:=NB2_299.out;obtain⟨hcz1_0,hcz1_1,hcz1_2,hcz1_3,hcz1_4,hcz1_5,hfz1_0,hfz1_1,hfz1_2,hfz1_3,hfz1_4,hfz1_5⟩:=d6 BK1.out;obtain⟨hcz2_0,hcz2_1,hcz2_2,hcz2_3,hcz2_4,hcz2_5,hfz2_0,hfz2_1,hfz2_2,hfz2_3,hfz2_4,hfz2_5⟩:=d6 BK2.out)|((with_reducible refine F (f:=79) rfl ?_);refine gl 79 (some 19) Tryd.func79 #[L A0_2 l0_2.length c0_2,L A1_2 l1_2.length c1_2] ?_;(with_reducible refine(laws_eqIntS.calls k _ _ l0_2 _ _ l1_2 true _ ?side1 ?side2 ?side3 ?side4 A2.out).mono ?_);(case side1=>exact uC (Z HR1_2.out HB.out));(case side2=>exact HC1_2.out);(case side3=>exact uC (Z HR2_2.out HB.out));(case side4=>exact HC2_2.out);rintro e w' ⟨rfl,⟨nd,rfl⟩⟩;refine⟨_,rfl,?_⟩)|((with_reducible refine F (f:=79) rfl ?_);refine gl 79 (some 25) Tryd.func79 #[L A0_3 l0_3.length c0_3,L A1_3 l1_3.length c1_3] ?_;(with_reducible refine(laws_eqIntS.calls k _ _ l0_3 _ _ l1_3 true _ ?side1 ?side2 ?side3 ?side4 A3.out).mono ?_);(case side1=>exact uC (Z HR1_3.out uB));(case side2=>exact HC1_3.out);(case side3=>exact uC (Z HR2_3.out uB));(case side4=>exact HC2_3.out);rintro e w' ⟨rfl,⟨nd,rfl⟩⟩;refine⟨_,rfl,?_⟩))
       go_ret
       exact⟨rE,uB⟩
      ·rw[if_neg c7]at H
       have c7b0:(a0_5 !=a1_5)=false:=by simpa using c7
       (try(have c7b1:decide (a0_5=a1_5)=true:=by simpa using c7))
       (try(have c7b2:(a0_5==a1_5)=true:=by simpa using c7))
       clear c7
       obtain rfl:=Option.some.inj H
       go_enter Tryd.func52,Tryd.ntmps52
       go_wp2_with (first|((with_reducible refine J (N:=2) rfl ?_);refine Fix.be 2 #[V I a0_0,V I a0_1,L A0_2 l0_2.length c0_2,L A0_3 l0_3.length c0_3,V I a0_4,O a0_5] 43 ?_;intro gb1 hg w1 BK1 hb;have GW1:D (w.heap.size≤gb1):=gE hg;have GE1:=GW1;replace HB:=eB hb;clear hb hg)|((with_reducible refine J (N:=3) rfl ?_);refine Fix.be 3 #[V I a1_0,V I a1_1,L A1_2 l1_2.length c1_2,L A1_3 l1_3.length c1_3,V I a1_4,O a1_5] 43 ?_;intro gb2 hg w2 BK2 hb;have GW2:D (w.heap.size≤gb2):=gE hg;have GE2:=GW2;have NB1_300:=nL hg BK1;have NB2_299:=nG hg BK1;replace BK1:=eK BK1 hb;replace HB:=eB hb;clear hb hg;have hnb1:=NB1_300.out;have hnc1:=NB2_299.out;have h_:=d6 BK1.out;(repeat(obtain⟨_,h_⟩:=h_));obtain⟨hcz1_0,hcz1_1,hcz1_2,hcz1_3,hcz1_4,hcz1_5,hfz1_0,hfz1_1,hfz1_2,hfz1_3,hfz1_4,hfz1_5⟩:=d6 BK2.out)|((with_reducible refine F (f:=79) rfl ?_);refine gl 79 (some 19) Tryd.func79 #[L A0_2 l0_2.length c0_2,L A1_2 l1_2.length c1_2] ?_;(with_reducible refine(laws_eqIntS.calls k _ _ l0_2 _ _ l1_2 true _ ?side1 ?side2 ?side3 ?side4 A2.out).mono ?_);(case side1=>exact uC (Z HR1_2.out HB.out));(case side2=>exact HC1_2.out);(case side3=>exact uC (Z HR2_2.out HB.out));(case side4=>exact HC2_2.out);rintro e w' ⟨rfl,⟨nd,rfl⟩⟩;refine⟨_,rfl,?_⟩)|((with_reducible refine F (f:=79) rfl ?_);refine gl 79 (some 25) Tryd.func79 #[L A0_3 l0_3.length c0_3,L A1_3 l1_3.length c1_3] ?_;(with_reducible refine(laws_eqIntS.calls k _ _ l0_3 _ _ l1_3 true _ ?side1 ?side2 ?side3 ?side4 A3.out).mono ?_);(case side1=>exact uC (Z HR1_3.out uB));(case side2=>exact HC1_3.out);(case side3=>exact uC (Z HR2_3.out uB));(case side4=>exact HC2_3.out);rintro e w' ⟨rfl,⟨nd,rfl⟩⟩;refine⟨_,rfl,?_⟩))
       go_ret
       exact⟨rE,uB⟩
     ·rw[if_neg c6]at H
      have c6b0:(a0_4==a1_4)=false:=beq_eq_false_iff_ne.mpr c6
      have c6b1:(a0_4 !=a1_4)=true:=bne_iff_ne.mpr c6
      obtain rfl:=Option.some.inj H
      go_enter Tryd.func52,Tryd.ntmps52
      go_wp2_with (first|((with_reducible refine J (N:=2) rfl ?_);refine Fix.be 2 #[V I a0_0,V I a0_1,L A0_2 l0_2.length c0_2,L A0_3 l0_3.length c0_3,V I a0_4,O a0_5] 43 ?_;intro gb1 hg w1 BK1 hb;have GW1:D (w.heap.size≤gb1):=gE hg;have GE1:=GW1;replace HB:=eB hb;clear hb hg)|((with_reducible refine J (N:=3) rfl ?_);refine Fix.be 3 #[V I a1_0,V I a1_1,L A1_2 l1_2.length c1_2,L A1_3 l1_3.length c1_3,V I a1_4,O a1_5] 43 ?_;intro gb2 hg w2 BK2 hb;have GW2:D (w.heap.size≤gb2):=gE hg;have GE2:=GW2;have NB1_300:=nL hg BK1;have NB2_299:=nG hg BK1;replace BK1:=eK BK1 hb;replace HB:=eB hb;clear hb hg;have hnb1:=NB1_300.out;have hnc1:=NB2_299.out;obtain⟨hcz1_0,hcz1_1,hcz1_2,hcz1_3,hcz1_4,hcz1_5,hfz1_0,hfz1_1,hfz1_2,hfz1_3,hfz1_4,hfz1_5⟩:=d6 BK1.out;have h_:=d6 BK2.out;(repeat(obtain⟨_,h_⟩:=h_)))|((with_reducible refine F (f:=79) rfl ?_);refine gl 79 (some 19) Tryd.func79 #[L A0_2 l0_2.length c0_2,L A1_2 l1_2.length c1_2] ?_;(with_reducible refine(laws_eqIntS.calls k _ _ l0_2 _ _ l1_2 true _ ?side1 ?side2 ?side3 ?side4 A2.out).mono ?_);(case side1=>exact uC (Z HR1_2.out HB.out));(case side2=>exact HC1_2.out);(case side3=>exact uC (Z HR2_2.out HB.out));(case side4=>exact HC2_2.out);rintro e w' ⟨rfl,⟨nd,rfl⟩⟩;refine⟨_,rfl,?_⟩)|((with_reducible refine F (f:=79) rfl ?_);refine gl 79 (some 25) Tryd.func79 #[L A0_3 l0_3.length c0_3,L A1_3 l1_3.length c1_3] ?_;(with_reducible refine(laws_eqIntS.calls k _ _ l0_3 _ _ l1_3 true _ ?side1 ?side2 ?side3 ?side4 A3.out).mono ?_);(case side1=>exact uC (Z HR1_3.out uB));(case side2=>exact HC1_3.out);(case side3=>exact uC (Z HR2_3.out uB));(case side4=>exact HC2_3.out);rintro e w' ⟨rfl,⟨nd,rfl⟩⟩;refine⟨_,rfl,?_⟩))
      go_ret
      exact⟨rE,uB⟩
    ·replace c5:=Bool.eq_false_iff.mpr c5
     subst c5
     rw[if_neg Bool.false_ne_true]at H
     obtain rfl:=Option.some.inj H
     exact laws_eqLine.W1
   ·replace c4:=Bool.eq_false_iff.mpr c4
    subst c4
    rw[if_neg Bool.false_ne_true]at H
    obtain rfl:=Option.some.inj H
    go_enter Tryd.func52,Tryd.ntmps52
    go_wp2_with (first|((with_reducible refine J (N:=2) rfl ?_);refine Fix.be 2 #[V I a0_0,V I a0_1,L A0_2 l0_2.length c0_2,L A0_3 l0_3.length c0_3,V I a0_4,O a0_5] 43 ?_;intro gb1 hg w1 BK1 hb;have GW1:D (w.heap.size≤gb1):=gE hg;have GE1:=GW1;replace HB:=eB hb;clear hb hg)|((with_reducible refine J (N:=3) rfl ?_);refine Fix.be 3 #[V I a1_0,V I a1_1,L A1_2 l1_2.length c1_2,L A1_3 l1_3.length c1_3,V I a1_4,O a1_5] 43 ?_;intro gb2 hg w2 BK2 hb;have GW2:D (w.heap.size≤gb2):=gE hg;have GE2:=GW2;have NB1_300:=nL hg BK1;have NB2_299:=nG hg BK1;replace BK1:=eK BK1 hb;replace HB:=eB hb;clear hb hg;have hnb1:=NB1_300.out;have hnc1:=NB2_299.out;have h_:=d6 BK1.out;(repeat(obtain⟨_,h_⟩:=h_));have h_:=d6 BK2.out;(repeat(obtain⟨_,h_⟩:=h_)))|((with_reducible refine F (f:=79) rfl ?_);refine gl 79 (some 19) Tryd.func79 #[L A0_2 l0_2.length c0_2,L A1_2 l1_2.length c1_2] ?_;(with_reducible refine(laws_eqIntS.calls k _ _ l0_2 _ _ l1_2 false _ ?side1 ?side2 ?side3 ?side4 A2.out).mono ?_);(case side1=>exact uC (Z HR1_2.out HB.out));(case side2=>exact HC1_2.out);(case side3=>exact uC (Z HR2_2.out HB.out));(case side4=>exact HC2_2.out);rintro e w' ⟨rfl,⟨nd,rfl⟩⟩;refine⟨_,rfl,?_⟩))
    go_ret
    exact⟨rE,uB⟩
  ·rw[if_neg c3]at H
   have c3b0:(a0_1==a1_1)=false:=beq_eq_false_iff_ne.mpr c3
   have c3b1:(a0_1 !=a1_1)=true:=bne_iff_ne.mpr c3
   obtain rfl:=Option.some.inj H
   exact laws_eqLine.W1
 ·rw[if_neg c2]at H
  have c2b0:(a0_0==a1_0)=false:=beq_eq_false_iff_ne.mpr c2
  have c2b1:(a0_0 !=a1_0)=true:=bne_iff_ne.mpr c2
  obtain rfl:=Option.some.inj H
  exact laws_eqLine.W1
end Go.Proofs.YtblceimapaenlaaDoor.PFnExactFormatMachine
