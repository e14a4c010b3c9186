/- Calls do what plain Lean functions say (FnActParts). No condition. -/
import Derived.Test.YtblceimapaenlaaDoorQFnActParts0
import Derived.Test.YtblceimapaenlaaDoorQFnActParts2
import Derived.Test.YtblceimapaenlaaDoorQFnActParts8
import Derived.Test.YtblceimapaenlaaDoorQFnActParts9
namespace Go.Proofs.YtblceimapaenlaaDoor.PFnActParts
open Go.RowKit Go.Proofs.YtblceimapaenlaaDoorW.PrintWords Go.Proofs.YtblceimapaenlaaDoorW.PrintLast Go.Proofs.YtblceimapaenlaaDoorW.PrintMore
open Fix (b1 bA bK bN bnd cl14 cl6 d14 d4 d6 dB dK eB eK eR fR gE gK gl gs gy hh lR nG nL np nu oL ou pu qm qn rE rN rS tu uB uC uK uR)
open Go.Value renaming int→V,slice→L,bool→O,agg→G
open Go.IntKind renaming i64→I
open Go.Proofs.YtblceimapaenlaaDoorW.PrintWords.Aside0 renaming mk→C
open Go.Proofs.YtblceimapaenlaaDoorW.PrintWords renaming Aside0→D,gate_callee→F,gate_dst→J
open Go.Proofs.YtblceimapaenlaaDoorW.PrintWords.Kd renaming R_mono→X,C_below→Z
attribute [local go_sem] max2_int min2_int max_two min_two max_three min_three max_four min_four
attribute [local go_sem] Fix.isSome_setCell
set_option linter.unusedVariables false
set_option maxHeartbeats 40000000
set_option maxRecDepth 100000
set_option linter.unusedSimpArgs false
def impl_FormatMachine.f (k:Nat) (l0_0:List (S40)) (a0_1:Int) (a0_2:Int) (a0_3:Int) (a0_4:Bool) (a0_5:Int) (a0_6:Bool) (a0_7:Int) (a0_8:Int) (l0_9:List Int) (l0_10:List Int) (a0_11:Int) (a0_12:Bool) (a0_13:Int):Option (List ByteArray):=(impl_MachineOk.f k l0_0 a0_1 a0_2 a0_3 a0_4 a0_5 a0_6 a0_7 a0_8 l0_9 l0_10 a0_11 a0_12 a0_13).bind fun t651=>(if t651=true then((impl_FormatInt.f (l0_0.length:Int)).bind fun t652=>(if 5+t652.size≤9223372036854775807 then((impl_FormatInt.f a0_1).bind fun t653=>(if 4+t653.size≤9223372036854775807 then((impl_FormatInt.f (l0_10.length:Int)).bind fun t654=>(if 4+t654.size≤9223372036854775807 then((impl_FormatInt.f a0_11).bind fun t655=>(if 7+t655.size≤9223372036854775807 then((impl_FormatInt.f (wrap64 (a0_13+(l0_10.length:Int)))).bind fun t656=>(if 8+t656.size≤9223372036854775807 then(some (([(⟨#[106,111,98,115,32]⟩:ByteArray)++t652,(⟨#[110,111,119,32]⟩:ByteArray)++t653,(⟨#[111,117,116,32]⟩:ByteArray)++t654,(⟨#[119,97,115,116,101,100,32]⟩:ByteArray)++t655,(⟨#[112,114,105,110,116,101,100,32]⟩:ByteArray)++t656]:List ByteArray))) else(none))) else(none))) else(none))) else(none))) else(none))) else(some ([]:List ByteArray)))
theorem impl_FormatMachine.mono:∀a0 a1 a2 a3 a4 a5 a6 a7 a8 a9 a10 a11 a12 a13 k,LeO (impl_FormatMachine.f k a0 a1 a2 a3 a4 a5 a6 a7 a8 a9 a10 a11 a12 a13) (impl_FormatMachine.f (k+1) a0 a1 a2 a3 a4 a5 a6 a7 a8 a9 a10 a11 a12 a13):=by
 intro a0 a1 a2 a3 a4 a5 a6 a7 a8 a9 a10 a11 a12 a13 k
 unfold impl_FormatMachine.f
 repeat' first|(with_reducible first|apply impl_MachineOk.mono|exact LeO.refl _|exact LeO.none _|refine LeO.ite ?_ ?_|refine LeO.bind ?_ (fun _=> ?_))|exact LeO.none _|refine LeO.ite ?_ ?_|refine LeO.bind ?_ (fun _=> ?_)
def impl_FormatMachine.T3:Bool×List (List Nat×List Nat):=(true,[([],[]),([0],[0]),([1],[1]),([2],[2]),([3],[3]),([],[]),([5],[5]),([6],[6]),([7,3],[7]),([8],[8]),([],[]),([10],[10]),([11],[11]),([12],[12]),([13,8],[13]),([14],[14]),([],[]),([16],[16]),([17],[17]),([18,14],[18]),([19],[19]),([],[]),([21],[21]),([],[]),([23],[23]),([24],[24]),([25],[25]),([22,26],[22,26]),([27,19],[27]),([28],[28]),([4,9,15,20,29],[4,9,15,20,29]),([30,28,0,1,2,3,4,5,6,7,8,9,10,11,12,13,14,15,16,17,18,19,20,21,22,23,24,25,26,27,28,29,30],[30])])
def impl_FormatMachine.B3:List Nat:= [0,1,3,7,15,0,32,96,239,495,0,1024,3072,7168,15855,32239,0,65536,196608,490991,1015279,0,2097152,0,8388608,25165824,58720256,132120576,267353583,535789039,1073741823,2147483647]
theorem impl_FormatMachine.tab3:rtab .any (opsOf Tryd.f18 3)=impl_FormatMachine.T3:=by kernel_rfl
theorem impl_FormatMachine.bits3:waitsOk impl_FormatMachine.T3.2 impl_FormatMachine.B3=true:=by kernel_rfl
theorem impl_FormatMachine.calls (k:Nat) (A0_0:Option Addr) (c0_0:Nat) (l0_0:List (S40)) (a0_1:Int) (a0_2:Int) (a0_3:Int) (a0_4:Bool) (a0_5:Int) (a0_6:Bool) (a0_7:Int) (a0_8:Int) (A0_9:Option Addr) (c0_9:Nat) (l0_9:List Int) (A0_10:Option Addr) (c0_10:Nat) (l0_10:List Int) (a0_11:Int) (a0_12:Bool) (a0_13:Int) (r:List ByteArray) (w:World) (hr0_0:Kd.C k40 w A0_0 l0_0.length l0_0) (hc0_0:l0_0.length≤c0_0) (hr0_9:Kd.C (Kd.int .i64) w A0_9 l0_9.length l0_9) (hc0_9:l0_9.length≤c0_9) (hr0_10:Kd.C (Kd.int .i64) w A0_10 l0_10.length l0_10) (hc0_10:l0_10.length≤c0_10) (h:impl_FormatMachine.f k l0_0 a0_1 a0_2 a0_3 a0_4 a0_5 a0_6 a0_7 a0_8 l0_9 l0_10 a0_11 a0_12 a0_13=some r) (hTab:Ito.Tab w):
 Calls Tryd.prog 18 #[G #[L A0_0 l0_0.length c0_0,V I a0_1,V I a0_2,V I a0_3,O a0_4,V I a0_5,O a0_6,V I a0_7,V I a0_8,L A0_9 l0_9.length c0_9,L A0_10 l0_10.length c0_10,V I a0_11,O a0_12,V I a0_13]] w fun e w'=>∃v0_:Value,e=.returned (v0_)∧Kd.R Kd.string 9 w' w.heap.size (fun _=>True) v0_ r∧Below w.heap.size w w':=by
 replace hTab:=C hTab
 have hu1:=Tryd.underlying45
 have HR1_0:=C hr0_0
 have HC1_0:=C hc0_0
 (try clear hr0_0);(try clear hc0_0)
 have HR1_9:=C hr0_9
 have HC1_9:=C hc0_9
 (try clear hr0_9);(try clear hc0_9)
 have HR1_10:=C hr0_10
 have HC1_10:=C hc0_10
 (try clear hr0_10);(try clear hc0_10)
 have HB:=C (Below.refl w.heap.size w)
 have H:=h
 unfold impl_FormatMachine.f at H
 clear h
 obtain⟨t1,A1,H⟩:=bnd H
 by_cases c1:t1=true
 rotate_left
 ·replace c1:=Bool.eq_false_iff.mpr c1
  subst c1
  rw[if_neg Bool.false_ne_true]at H
  obtain rfl:=Option.some.inj H
  go_enter Tryd.func18,Tryd.ntmps18
  go_wp2_with (first|((with_reducible refine J (N:=1) rfl ?_);refine Fix.be 1 #[L A0_0 l0_0.length c0_0,V I a0_1,V I a0_2,V I a0_3,O a0_4,V I a0_5,O a0_6,V I a0_7,V I a0_8,L A0_9 l0_9.length c0_9,L A0_10 l0_10.length c0_10,V I a0_11,O a0_12,V I a0_13] 45 ?_;intro gb1 hg w1 BK1 hb;have GW1:D (w.heap.size≤gb1):=gE hg;have GE1:=GW1;replace HB:=eB hb;clear hb hg;have h_:=d14 BK1.out;(repeat(obtain⟨_,h_⟩:=h_)))|((with_reducible refine F (f:=42) rfl ?_);refine gl 42 (some 4) Tryd.func42 #[G #[L A0_0 l0_0.length c0_0,V I a0_1,V I a0_2,V I a0_3,O a0_4,V I a0_5,O a0_6,V I a0_7,V I a0_8,L A0_9 l0_9.length c0_9,L A0_10 l0_10.length c0_10,V I a0_11,O a0_12,V I a0_13]] ?_;(with_reducible refine(impl_MachineOk.calls k _ _ l0_0 a0_1 a0_2 a0_3 a0_4 a0_5 a0_6 a0_7 a0_8 _ _ l0_9 _ _ l0_10 a0_11 a0_12 a0_13 false _ ?side1 ?side2 ?side3 ?side4 ?side5 ?side6 A1.out).mono ?_);(case side1=>exact uC (Z HR1_0.out HB.out));(case side2=>exact HC1_0.out);(case side3=>exact uC (Z HR1_9.out HB.out));(case side4=>exact HC1_9.out);(case side5=>exact uC (Z HR1_10.out HB.out));(case side6=>exact HC1_10.out);rintro e w2 ⟨rfl,hb⟩;refine⟨_,rfl,?_⟩;replace BK1:=eK BK1 hb;replace HB:=eB hb;clear hb))
  go_ret
  exact⟨_,rE,rN,uB⟩
 subst c1
 rw[if_pos rfl]at H
 obtain⟨t2,A2,H⟩:=bnd H
 obtain⟨c2,H⟩:=np H
 have c2b0:=eq_true c2
 have c2b1:decide (5+t2.size≤9223372036854775807)=true:=decide_eq_true c2
 try have c2b2:(9223372036854775807<5+t2.size)=False:=eq_false (Nat.not_lt.2 c2)
 try(have h1_:=c2;simp only[ByteArray.size_append,Ito.bsz,List.size_toArray,List.length_cons,List.length_nil]at h1_;have c2b3:=eq_false (Nat.not_lt.2 h1_);clear h1_)
 obtain⟨t3,A3,H⟩:=bnd H
 obtain⟨c3,H⟩:=np H
 have c3b0:=eq_true c3
 have c3b1:decide (4+t3.size≤9223372036854775807)=true:=decide_eq_true c3
 try have c3b2:(9223372036854775807<4+t3.size)=False:=eq_false (Nat.not_lt.2 c3)
 try(have h1_:=c3;simp only[ByteArray.size_append,Ito.bsz,List.size_toArray,List.length_cons,List.length_nil]at h1_;have c3b3:=eq_false (Nat.not_lt.2 h1_);clear h1_)
 obtain⟨t4,A4,H⟩:=bnd H
 obtain⟨c4,H⟩:=np H
 have c4b0:=eq_true c4
 have c4b1:decide (4+t4.size≤9223372036854775807)=true:=decide_eq_true c4
 try have c4b2:(9223372036854775807<4+t4.size)=False:=eq_false (Nat.not_lt.2 c4)
 try(have h1_:=c4;simp only[ByteArray.size_append,Ito.bsz,List.size_toArray,List.length_cons,List.length_nil]at h1_;have c4b3:=eq_false (Nat.not_lt.2 h1_);clear h1_)
 obtain⟨t5,A5,H⟩:=bnd H
 obtain⟨c5,H⟩:=np H
 have c5b0:=eq_true c5
 have c5b1:decide (7+t5.size≤9223372036854775807)=true:=decide_eq_true c5
 try have c5b2:(9223372036854775807<7+t5.size)=False:=eq_false (Nat.not_lt.2 c5)
 try(have h1_:=c5;simp only[ByteArray.size_append,Ito.bsz,List.size_toArray,List.length_cons,List.length_nil]at h1_;have c5b3:=eq_false (Nat.not_lt.2 h1_);clear h1_)
 obtain⟨t6,A6,H⟩:=bnd H
 obtain⟨c6,H⟩:=np H
 have c6b0:=eq_true c6
 have c6b1:decide (8+t6.size≤9223372036854775807)=true:=decide_eq_true c6
 try have c6b2:(9223372036854775807<8+t6.size)=False:=eq_false (Nat.not_lt.2 c6)
 try(have h1_:=c6;simp only[ByteArray.size_append,Ito.bsz,List.size_toArray,List.length_cons,List.length_nil]at h1_;have c6b3:=eq_false (Nat.not_lt.2 h1_);clear h1_)
 obtain⟨y1,hy1⟩:∃y_:List ByteArray,y_=(([(⟨#[106,111,98,115,32]⟩:ByteArray)++t2,(⟨#[110,111,119,32]⟩:ByteArray)++t3,(⟨#[111,117,116,32]⟩:ByteArray)++t4,(⟨#[119,97,115,116,101,100,32]⟩:ByteArray)++t5,(⟨#[112,114,105,110,116,101,100,32]⟩:ByteArray)++t6]:List ByteArray)):=⟨_,rfl⟩
 replace H:(some y1)=some r:=gy hy1 H
 have Ny1:=C hy1
 clear hy1
 obtain rfl:=Option.some.inj H
 go_enter Tryd.func18,Tryd.ntmps18
 try go_wp2_with (first|((with_reducible refine J (N:=1) rfl ?_);refine Fix.be 1 #[L A0_0 l0_0.length c0_0,V I a0_1,V I a0_2,V I a0_3,O a0_4,V I a0_5,O a0_6,V I a0_7,V I a0_8,L A0_9 l0_9.length c0_9,L A0_10 l0_10.length c0_10,V I a0_11,O a0_12,V I a0_13] 45 ?_;intro gb1 hg w1 BK1 hb;have GW1:D (w.heap.size≤gb1):=gE hg;have GE1:=GW1;replace HB:=eB hb;clear hb hg;obtain⟨hcz1_0,hcz1_1,hcz1_2,hcz1_3,hcz1_4,hcz1_5,hcz1_6,hcz1_7,hcz1_8,hcz1_9,hcz1_10,hcz1_11,hcz1_12,hcz1_13,hfz1_0,hfz1_1,hfz1_2,hfz1_3,hfz1_4,hfz1_5,hfz1_6,hfz1_7,hfz1_8,hfz1_9,hfz1_10,hfz1_11,hfz1_12,hfz1_13⟩:=d14 BK1.out)|((with_reducible refine F (f:=42) rfl ?_);refine gl 42 (some 4) Tryd.func42 #[G #[L A0_0 l0_0.length c0_0,V I a0_1,V I a0_2,V I a0_3,O a0_4,V I a0_5,O a0_6,V I a0_7,V I a0_8,L A0_9 l0_9.length c0_9,L A0_10 l0_10.length c0_10,V I a0_11,O a0_12,V I a0_13]] ?_;(with_reducible refine(impl_MachineOk.calls k _ _ l0_0 a0_1 a0_2 a0_3 a0_4 a0_5 a0_6 a0_7 a0_8 _ _ l0_9 _ _ l0_10 a0_11 a0_12 a0_13 true _ ?side1 ?side2 ?side3 ?side4 ?side5 ?side6 A1.out).mono ?_);(case side1=>exact uC (Z HR1_0.out HB.out));(case side2=>exact HC1_0.out);(case side3=>exact uC (Z HR1_9.out HB.out));(case side4=>exact HC1_9.out);(case side5=>exact uC (Z HR1_10.out HB.out));(case side6=>exact HC1_10.out);rintro e w2 ⟨rfl,hb⟩;refine⟨_,rfl,?_⟩;replace BK1:=eK BK1 hb;replace HB:=eB hb;clear hb))
 replace BK1:=dK BK1
 replace HB:=dB HB
 refine start_ (n:=32) (S:=fun w'=>cl14 w' gb1 (L A0_0 l0_0.length c0_0) (V I a0_1) (V I a0_2) (V I a0_3) (O a0_4) (V I a0_5) (O a0_6) (V I a0_7) (V I a0_8) (L A0_9 l0_9.length c0_9) (L A0_10 l0_10.length c0_10) (V I a0_11) (O a0_12) (V I a0_13)) (ds:= []) #[false,false,false,false,false,false,false,false,false,false,false,false,false,false,false,false,false,false,false,false,false,false,false,false,false,false,false,false,false,false,false,false] (by kernel_rfl) rfl rfl hh (fun hHeld=> ?_);refine with_tabW impl_FormatMachine.tab3 impl_FormatMachine.bits3 (fun HT_ HW_=> ?_)
 generalize w2.drew=w3 at BK1 HB hHeld ⊢
 refine pu 0 (some 6) ?_
 refine pu 5 (some 11) ?_
 refine pu 6 (some 12) ?_
 refine pu 10 (some 16) ?_
 refine pu 11 (some 17) ?_
 refine pu 16 (some 22) ?_
 refine pu 17 (some 23) ?_
 refine pu 21 (some 27) ?_
 refine pu 23 (some 29) ?_
 refine pu 24 (some 30) ?_
 refine tu 1 (some 7) hHeld ?_
 refine pu 2 (some 8) ?_
 refine tu 7 (some 13) hHeld ?_
 refine tu 12 (some 18) hHeld ?_
 refine pu 13 (some 19) ?_
 refine tu 18 (some 24) hHeld ?_
 refine tu 22 (some 28) hHeld ?_
 refine tu 25 (some 31) hHeld ?_
 refine pu 26 (some 32) ?_
 refine pu 27 (some 33) ?_
 refine ou 3 (some 9) (fun K hK=> ?_)
 refine gs Tryd.func19 #[V I (l0_0.length:Int)] ?_
 with_reducible refine(impl_FormatInt.calls (l0_0.length:Int) t2 _ A2.out (Ito.on hTab.out uB)).mono ?_
 rintro e w4 ⟨rfl,hb⟩
 refine⟨_,rfl,?_⟩
 replace BK1:=eK BK1 hb
 replace HB:=eB hb
 (try clear hb)
 refine hK.out _ _ hh (fun hHeld=> ?_)
 clear hK K
 refine nu (N:=(some 9)) ?_
 refine pu 4 (some 10) ?_
 refine ou 8 (some 14) (fun K hK=> ?_)
 refine gs Tryd.func19 #[V I a0_1] ?_
 with_reducible refine(impl_FormatInt.calls a0_1 t3 _ A3.out (Ito.on hTab.out uB)).mono ?_
 rintro e w5 ⟨rfl,hb⟩
 refine⟨_,rfl,?_⟩
 replace BK1:=eK BK1 hb
 replace HB:=eB hb
 (try clear hb)
 refine hK.out _ _ hh (fun hHeld=> ?_)
 clear hK K
 refine nu (N:=(some 14)) ?_
 refine pu 9 (some 15) ?_
 refine ou 14 (some 20) (fun K hK=> ?_)
 refine gs Tryd.func19 #[V I (l0_10.length:Int)] ?_
 with_reducible refine(impl_FormatInt.calls (l0_10.length:Int) t4 _ A4.out (Ito.on hTab.out uB)).mono ?_
 rintro e w6 ⟨rfl,hb⟩
 refine⟨_,rfl,?_⟩
 replace BK1:=eK BK1 hb
 replace HB:=eB hb
 (try clear hb)
 refine hK.out _ _ hh (fun hHeld=> ?_)
 clear hK K
 refine nu (N:=(some 20)) ?_
 refine pu 15 (some 21) ?_
 refine ou 19 (some 25) (fun K hK=> ?_)
 refine gs Tryd.func19 #[V I a0_11] ?_
 with_reducible refine(impl_FormatInt.calls a0_11 t5 _ A5.out (Ito.on hTab.out uB)).mono ?_
 rintro e w7 ⟨rfl,hb⟩
 refine⟨_,rfl,?_⟩
 replace BK1:=eK BK1 hb
 replace HB:=eB hb
 (try clear hb)
 refine hK.out _ _ hh (fun hHeld=> ?_)
 clear hK K
 refine nu (N:=(some 25)) ?_
 refine pu 20 (some 26) ?_
 refine ou 28 (some 34) (fun K hK=> ?_)
 refine gs Tryd.func19 #[V I (wrap64 (a0_13+(l0_10.length:Int)))] ?_
 with_reducible refine(impl_FormatInt.calls (wrap64 (a0_13+(l0_10.length:Int))) t6 _ A6.out (Ito.on hTab.out uB)).mono ?_
 rintro e w8 ⟨rfl,hb⟩
 refine⟨_,rfl,?_⟩
 replace BK1:=eK BK1 hb
 replace HB:=eB hb
 (try clear hb)
 refine hK.out _ _ hh (fun hHeld=> ?_)
 clear hK K
 refine nu (N:=(some 34)) ?_
 refine pu 29 (some 35) ?_
 refine ou 30 (some 36) (fun K hK=> ?_)
 refine Kd.R_lit_step Kd.string _ 9 ?hg (N:=36) ?hd (xs:=([(⟨#[106,111,98,115,32]⟩:ByteArray)++t2,(⟨#[110,111,119,32]⟩:ByteArray)++t3,(⟨#[111,117,116,32]⟩:ByteArray)++t4,(⟨#[119,97,115,116,101,100,32]⟩:ByteArray)++t5,(⟨#[112,114,105,110,116,101,100,32]⟩:ByteArray)++t6]:List ByteArray)) (inner:= [.string ((⟨#[106,111,98,115,32]⟩:ByteArray)++t2),.string ((⟨#[110,111,119,32]⟩:ByteArray)++t3),.string ((⟨#[111,117,116,32]⟩:ByteArray)++t4),.string ((⟨#[119,97,115,116,101,100,32]⟩:ByteArray)++t5),.string ((⟨#[112,114,105,110,116,101,100,32]⟩:ByteArray)++t6)]) (ok:=fun _=>True) (okp:=fun _=>True) ?hr ?hp (fun _ hk=>hk) trivial (Below.refl _ _) (Nat.le_refl _) (by simp) ?_;(case hd=>rfl);(case hg=>rfl);(case hr=>exact Fix.hr);(case hp=>exact(Reps.one (show Kd.M Kd.string _ _ _ ((⟨#[106,111,98,115,32]⟩:ByteArray)++t2) [.string ((⟨#[106,111,98,115,32]⟩:ByteArray)++t2)] from rfl) (Reps.one (show Kd.M Kd.string _ _ _ ((⟨#[110,111,119,32]⟩:ByteArray)++t3) [.string ((⟨#[110,111,119,32]⟩:ByteArray)++t3)] from rfl) (Reps.one (show Kd.M Kd.string _ _ _ ((⟨#[111,117,116,32]⟩:ByteArray)++t4) [.string ((⟨#[111,117,116,32]⟩:ByteArray)++t4)] from rfl) (Reps.one (show Kd.M Kd.string _ _ _ ((⟨#[119,97,115,116,101,100,32]⟩:ByteArray)++t5) [.string ((⟨#[119,97,115,116,101,100,32]⟩:ByteArray)++t5)] from rfl) (Reps.one (show Kd.M Kd.string _ _ _ ((⟨#[112,114,105,110,116,101,100,32]⟩:ByteArray)++t6) [.string ((⟨#[112,114,105,110,116,101,100,32]⟩:ByteArray)++t6)] from rfl) (Reps.none _ _)))))))
 intro v1 w9 ho1 hb hg_ hnew_
 clear hg_ hnew_
 (first|rw[←Ny1.out]at ho1|(simp only[Int.reduceToNat]at ho1;rw[←Ny1.out]at ho1))
 have HO1:=lR ho1
 replace BK1:=eK BK1 hb
 replace HB:=eB hb
 clear hb ho1
 refine hK.out _ _ hh (fun hHeld=> ?_)
 clear hK K
 refine nu (N:=(some 36)) ?_
 refine pu 31 (some 2) ?_
 refine done_ (done_of HT_.out (by kernel_rfl)) ?_
 try go_wp2
 go_ret
 exact⟨_,rE,fR HO1.out,uB⟩
def spec_DrawPlaces.l0:Nat→List Int→Int→List Int→Int→Int→Option (List Int)
  |0,_,_,_,_,_=>none
  |k+1,x4,x5,x664000,x664001,x664002=>if x5<12 then((spec_l01Below.f x664000 x664001 x664002 10000).bind fun bt667=>(if x4.length<17592186044416 then(spec_DrawPlaces.l0 k (x4++ [bt667.1]) (wrap64 (x5+1)) x664000 bt667.2.1 bt667.2.2) else(none))) else(some x4)
def spec_DrawPlaces.f (k:Nat) (l0:List Int):Option (List Int):=(spec_l01New.f k l0).bind fun bt660=>(spec_DrawPlaces.l0 k (([]:List Int)) 0 bt660.1 bt660.2.1 bt660.2.2)
theorem spec_DrawPlaces.mono_l:∀k,(∀y0 y1 y2 y3 y4,LeO (spec_DrawPlaces.l0 k y0 y1 y2 y3 y4) (spec_DrawPlaces.l0 (k+1) y0 y1 y2 y3 y4))
 |0=>fun _ _ _ _ _ r h=>by simp[spec_DrawPlaces.l0]at h
 |k+1=>by
  have ih0:=spec_DrawPlaces.mono_l k
  ·intro y0 y1 y2 y3 y4
   unfold spec_DrawPlaces.l0
   repeat' first|(with_reducible first|apply ih0|apply spec_l01New.mono|exact LeO.refl _|exact LeO.none _|refine LeO.ite ?_ ?_|refine LeO.bind ?_ (fun _=> ?_))|apply ih0|exact LeO.none _|refine LeO.ite ?_ ?_|refine LeO.bind ?_ (fun _=> ?_)
theorem spec_DrawPlaces.mono:∀a0 k,LeO (spec_DrawPlaces.f k a0) (spec_DrawPlaces.f (k+1) a0):=by
 intro a0 k
 have ih0:=spec_DrawPlaces.mono_l k
 unfold spec_DrawPlaces.f
 repeat' first|(with_reducible first|apply ih0|apply spec_l01New.mono|exact LeO.refl _|exact LeO.none _|refine LeO.ite ?_ ?_|refine LeO.bind ?_ (fun _=> ?_))|apply ih0|exact LeO.none _|refine LeO.ite ?_ ?_|refine LeO.bind ?_ (fun _=> ?_)
theorem spec_DrawPlaces.calls (k:Nat) (A0:Option Addr) (c0:Nat) (l0:List Int) (r:List Int) (w:World) (hr0:Kd.C (Kd.int .u8) w A0 l0.length l0) (hc0:l0.length≤c0) (h:spec_DrawPlaces.f k l0=some r):
 Calls Tryd.prog 28 #[L A0 l0.length c0] w fun e w'=>∃v0_:Value,e=.returned (v0_)∧Kd.R (Kd.int .i64) 3 w' w.heap.size (fun _=>True) v0_ r∧Below w.heap.size w w':=by
 have HR1:=C hr0
 have HC1:=C hc0
 (try clear hr0);(try clear hc0)
 have HB:=C (Below.refl w.heap.size w)
 have H:=h
 unfold spec_DrawPlaces.f at H
 clear h
 obtain⟨⟨t1,t2,t3⟩,A1,H⟩:=bnd H
 dsimp only at H
 obtain⟨y1,hy1⟩:∃y_:List Int,y_=(([]:List Int)):=⟨_,rfl⟩
 replace H:(spec_DrawPlaces.l0 k y1 0 t1 t2 t3)=some r:=gy hy1 H
 have Ny1:=C hy1
 clear hy1
 have H':=C H
 clear H
 go_enter Tryd.func28,Tryd.ntmps28
 go_wp2_with (first|((with_reducible refine F (f:=39) rfl ?_);refine gl 39 (some 7) Tryd.func39 #[L A0 l0.length c0] ?_;(with_reducible refine(spec_l01New.calls k _ _ l0 t1 t2 t3 w _ ?side1 ?side2 ?side3 A1.out).mono ?_);(case side1=>exact uB);(case side2=>exact HR1.out);(case side3=>exact HC1.out);rintro e w1 ⟨g1,rfl,hi,hb,hb1⟩;refine⟨_,rfl,?_⟩;have HI1:=C (hi);replace HB:=C (hb);clear hb hb1 hi)|((with_reducible refine J (N:=8) rfl ?_);refine Kd.R_lit (Kd.int .i64) _ 3 ?hg (N:=8) ?hd (xs:=([]:List Int)) (inner:= []) (ok:=fun _=>True) (okp:=fun _=>True) ?hr ?hp (fun _ hk=>hk) trivial (Below.refl _ _) (Nat.le_refl _) (by simp) ?_;(case hd=>rfl);(case hg=>rfl);(case hr=>exact Fix.hr);(case hp=>exact(Reps.none _ _));intro v1 w2 ho1 hb hg_ hnew_;clear hg_ hnew_;(first|rw[←Ny1.out]at ho1|(simp only[Int.reduceToNat]at ho1;rw[←Ny1.out]at ho1));have HO1:=C (Kd.R_lower ho1 (below_size (by repeat(first|(with_reducible first|exact HB.out|apply bA|apply bN|apply b1|refine below_set ?_ (IsS102.ge HI1.out))|exact HB.out))));replace HB:=C (below_step (by repeat(first|(with_reducible first|exact HB.out|apply bA|apply bN|apply b1|refine below_set ?_ (IsS102.ge HI1.out))|exact HB.out)) hb);replace HI1:=C (IsS102.below (by repeat(first|(with_reducible first|exact HI1.out|apply IsS102.alloc|apply IsS102.drewN|apply IsS102.drew|apply IsS102.set_1|apply IsS102.set_2)|exact HI1.out)) hb);clear hb ho1))
 go_loopg [4,5] k (fun kq v4 v5 w'=>∃(x1_1:List Int) (x2_1:Int) (x3_1:Int) (x4_1:Int),v5=V I x2_1∧D (spec_DrawPlaces.l0 kq x1_1 x2_1 t1 x3_1 x4_1=some r)∧D (kq≤k)∧D (Kd.R (Kd.int .i64) 3 w' w.heap.size (fun _=>True) v4 x1_1)∧D (IsS102 w w' g1 t1 x3_1 x4_1)∧D (Below w.heap.size w w'))
 case atStart=>exact⟨(y1),(0),(t2),(t3),rS,H',⟨Nat.le_refl _⟩,⟨fR HO1.out⟩,⟨by repeat(first|(with_reducible first|exact HI1.out|apply IsS102.alloc|apply IsS102.drewN|apply IsS102.drew|apply IsS102.set_1|apply IsS102.set_2)|exact HI1.out)⟩,⟨by repeat(first|(with_reducible first|exact HB.out|apply bA|apply bN|apply b1|refine below_set ?_ (IsS102.ge HI1.out))|exact HB.out)⟩⟩
 case round=>
  clear H'
  obtain⟨x1_1,x2_1,x3_1,x4_1,rfl,HA,HK1,HO_1,HI1,HB⟩:=hrel
  cases gk with
  |zero=>exact absurd HA.out (by simp[spec_DrawPlaces.l0])
  |succ k1=>
   have H:=HA.out
   clear HA
   simp only[spec_DrawPlaces.l0]at H
   by_cases c1:x2_1<12
   rotate_left
   ·rw[if_neg c1]at H
    have c1b0:decide (x2_1<12)=false:=decide_eq_false c1
    clear c1
    obtain rfl:=Option.some.inj H
    go_wp2
    go_ret
    exact⟨_,rE,fR HO_1.out,by repeat(first|(with_reducible first|exact HB.out|apply bA|apply bN|apply b1|refine below_set ?_ (IsS102.ge HI1.out))|exact HB.out)⟩
   rw[if_pos c1]at H
   have c1b0:decide (x2_1<12)=true:=decide_eq_true c1
   clear c1
   obtain⟨⟨t4,t5,t6⟩,A2,H⟩:=bnd H
   dsimp only at H
   obtain⟨c2,H⟩:=np H
   have LMc1:=C c2
   clear c2
   obtain⟨y2,hy2⟩:∃y_:List Int,y_=(x1_1++ [t4]):=⟨_,rfl⟩
   replace H:(spec_DrawPlaces.l0 k1 y2 (wrap64 (x2_1+1)) t1 t5 t6)=some r:=gy hy2 H
   have Ny2:=C hy2
   clear hy2
   have H':=C H
   clear H
   go_wp2_with (first|((with_reducible refine F (f:=56) rfl ?_);refine gl 56 (some 15) Tryd.func56 #[.pointer (some ⟨g1,0,none⟩),V I 10000] ?_;(with_reducible refine(spec_l01Below.calls g1 t1 x3_1 x4_1 10000 t4 t5 t6 w _ ?side1 ?side2 A2.out).mono ?_);(case side1=>repeat(first|(with_reducible first|exact HI1.out|apply IsS102.alloc|apply IsS102.drewN|apply IsS102.drew|apply IsS102.set_1|apply IsS102.set_2)|exact HI1.out));(case side2=>repeat(first|(with_reducible first|exact HB.out|apply bA|apply bN|apply b1|refine below_set ?_ (IsS102.ge HI1.out))|exact HB.out));rintro e w3 ⟨rfl,hi,hb,hk⟩;refine⟨_,rfl,?_⟩;replace HO_1:=C (X (Kd.R_keep (IsS102.apart (show IsS102 w _ g1 t1 x3_1 x4_1 from by repeat(first|(with_reducible first|exact HI1.out|apply IsS102.alloc|apply IsS102.drewN|apply IsS102.drew|apply IsS102.set_1|apply IsS102.set_2)|exact HI1.out)) (uR HO_1.out) (by decide)) hk (fun _ h=>h.2)) (fun _ h=>h.1));replace HB:=C (hb);replace HI1:=C (hi);clear hb hi hk)|((with_reducible refine gate_builtin (b:=.append) (xs:= #[.tmp 13,.tmp 16]) rfl ?_);at_builtin;refine Kd.R_append (Kd.int .i64) (w0:=w) w.heap.size rfl (.tmp 13) (.tmp 16) 41 3 (V I 0) 8 rfl Tryd.underlying41 info3 rfl (by decide) (by omega) u4 x1_1 t4 [V I t4] (fun _=>True) (fun _=>False) rfl rfl ?aP (fun _ hk=>hk.elim) ?aF ?aO ?aB ?aS ?aL ?_;(case aP=>exact rfl);(case aB=>exact(by repeat(first|(with_reducible first|exact HB.out|apply bA|apply bN|apply b1|refine below_set ?_ (IsS102.ge HI1.out))|exact HB.out)));(case aF=>exact(fun _ _=>trivial));(case aO=>exact(uR HO_1.out));(case aS=>exact(below_size (by repeat(first|(with_reducible first|exact HB.out|apply bA|apply bN|apply b1|refine below_set ?_ (IsS102.ge HI1.out))|exact HB.out))));(case aL=>have:=LMc1.out;omega);intro v2 w4 ho hb hg hat;rw[←Ny2.out]at ho;have HO2:=C (ho);replace HI1:=C (IsS102.grown (by repeat(first|(with_reducible first|exact HI1.out|apply IsS102.alloc|apply IsS102.drewN|apply IsS102.drew|apply IsS102.set_1|apply IsS102.set_2)|exact HI1.out)) hg (IsS102.own_ne HI1.out HO_1.out (by decide)));replace HB:=C (hb);clear HO_1;clear ho hb hg hat))
   go_roundg k1
   case measure=>have:=HK1.out;omega
   case rel=>exact⟨(y2),(wrap64 (x2_1+1)),(t5),(t6),rS,H',⟨by have:=HK1.out;omega⟩,⟨fR HO2.out⟩,⟨by repeat(first|(with_reducible first|exact HI1.out|apply IsS102.alloc|apply IsS102.drewN|apply IsS102.drew|apply IsS102.set_1|apply IsS102.set_2)|exact HI1.out)⟩,⟨by repeat(first|(with_reducible first|exact HB.out|apply bA|apply bN|apply b1|refine below_set ?_ (IsS102.ge HI1.out))|exact HB.out)⟩⟩
def impl_Job_82.f (l0:List (S40)):Option ((List (S40))):=(some (([]:List (S40)):List (S40))).bind fun y673=>(if y673.length+l0.length<2932031007402 then(some (y673++l0)) else(none))
theorem impl_Job_82.calls (A0:Option Addr) (c0:Nat) (l0:List (S40)) (r:List (S40)) (w:World) (hr0:Kd.C k40 w A0 l0.length l0) (hc0:l0.length≤c0) (h:impl_Job_82.f l0=some r):
 Calls Tryd.prog 82 #[L A0 l0.length c0] w fun e w'=>∃v0_:Value,e=.returned (v0_)∧Kd.R k40 40 w' w.heap.size (fun _=>True) v0_ r∧Below w.heap.size w w':=by
 rcases A0 with _|ad1
 ·have hl1:l0= []:=Ext.nil_of_C hr0
  subst hl1
  have hr_:r= []:=by have h1:=h;simp[impl_Job_82.f]at h1;exact h1
  subst hr_
  have hq:=fun (W:World)=>Go.run_eql_slice_nil W 38 40 none 0 c0 Tryd.underlying38
  simp only[Option.isNone_none]at hq
  go_enter Tryd.func82,Tryd.ntmps82
  go_wp2
  go_ret
  exact⟨_,rfl,Kd.R_nil _ _ _ _ _,by repeat(first|exact Below.refl _ _|apply bA|apply bN)⟩
 have hq:=fun (W:World)=>Go.run_eql_slice_nil W 38 40 (some ad1) l0.length c0 Tryd.underlying38
 simp only[Option.isNone_some]at hq
 have HR1:=C hr0
 have HC1:=C hc0
 (try clear hr0);(try clear hc0)
 have HB:=C (Below.refl w.heap.size w)
 have H:=h
 unfold impl_Job_82.f at H
 clear h
 obtain⟨y1,hy1⟩:∃y_:List (S40),y_=(([]:List (S40))):=⟨_,rfl⟩
 replace H:(if y1.length+l0.length<2932031007402 then(some (y1++l0)) else(none))=some r:=gy hy1 H
 have Ny1:=C hy1
 clear hy1
 obtain⟨c1,H⟩:=np H
 have LMc1:=C c1
 clear c1
 obtain⟨y2,hy2⟩:∃y_:List (S40),y_=(y1++l0):=⟨_,rfl⟩
 replace H:(some y2)=some r:=gy hy2 H
 have Ny2:=C hy2
 clear hy2
 obtain rfl:=Option.some.inj H
 go_enter Tryd.func82,Tryd.ntmps82
 go_wp2_with (first|((with_reducible refine J (N:=5) rfl ?_);refine Kd.R_lit k40 _ 40 ?hg (N:=5) ?hd (xs:=([]:List (S40))) (inner:= []) (ok:=fun _=>True) (okp:=fun _=>True) ?hr ?hp (fun _ hk=>hk) trivial (Below.refl _ _) (Nat.le_refl _) (by simp) ?_;(case hd=>rfl);(case hg=>rfl);(case hr=>exact Fix.hr);(case hp=>exact(Reps.none _ _));intro v1 w1 ho1 hb hg_ hnew_;clear hg_ hnew_;(first|rw[←Ny1.out]at ho1|(simp only[Int.reduceToNat]at ho1;rw[←Ny1.out]at ho1));have HO1:=lR ho1;replace HB:=eB hb;clear hb ho1)|((with_reducible refine gate_builtin (b:=.append) (xs:= #[.tmp 5,.tmp 6]) rfl ?_);at_builtin;refine Kd.R_append_rows k40 (w0:=w) w.heap.size rfl (.tmp 5) (.tmp 6) 38 40 (G #[(V I 0),(V I 0),(V I 0),(O false),(V I 0),(O false)]) 48 rfl Tryd.underlying38 info40 rfl (by decide) (by omega) v1 y1 l0 _ _ _ (fun _=>True) (fun _=>False) rfl rfl ?aO ?aR (fun _ _ h=>h) (fun _ h=>h.elim) ?aF ?aB ?aS ?aL ?_;(case aR=>exact uC (Z HR1.out HB.out));(case aB=>exact uB);(case aF=>exact(fun _ _=>trivial));(case aO=>exact(uR HO1.out));(case aS=>exact(below_size uB));(case aL=>have:=LMc1.out;omega);intro v2 w2 ho hb hg hat;rw[←Ny2.out]at ho;have HO2:=C (ho);replace HB:=C (hb);clear HO1;clear ho hb hg hat))
 go_ret
 exact⟨_,rE,fR HO2.out,uB⟩
def slices_Clone_int_int.f (l0:List Int):Option (List Int):=(some (([]:List Int):List Int)).bind fun y679=>(if y679.length+l0.length<17592186044416 then(some (y679++l0)) else(none))
theorem slices_Clone_int_int.calls (A0:Option Addr) (c0:Nat) (l0:List Int) (r:List Int) (w:World) (hr0:Kd.C (Kd.int .i64) w A0 l0.length l0) (hc0:l0.length≤c0) (h:slices_Clone_int_int.f l0=some r):
 Calls Tryd.prog 106 #[L A0 l0.length c0] w fun e w'=>∃v0_:Value,e=.returned (v0_)∧Kd.R (Kd.int .i64) 3 w' w.heap.size (fun _=>True) v0_ r∧Below w.heap.size w w':=by
 rcases A0 with _|ad1
 ·have hl1:l0= []:=Ext.nil_of_C hr0
  subst hl1
  have hr_:r= []:=by have h1:=h;simp[slices_Clone_int_int.f]at h1;exact h1
  subst hr_
  have hq:=fun (W:World)=>Go.run_eql_slice_nil W 41 3 none 0 c0 Tryd.underlying41
  simp only[Option.isNone_none]at hq
  go_enter Tryd.func106,Tryd.ntmps106
  go_wp2
  go_ret
  exact⟨_,rfl,Kd.R_nil _ _ _ _ _,by repeat(first|exact Below.refl _ _|apply bA|apply bN)⟩
 have hq:=fun (W:World)=>Go.run_eql_slice_nil W 41 3 (some ad1) l0.length c0 Tryd.underlying41
 simp only[Option.isNone_some]at hq
 have HR1:=C hr0
 have HC1:=C hc0
 (try clear hr0);(try clear hc0)
 have HB:=C (Below.refl w.heap.size w)
 have H:=h
 unfold slices_Clone_int_int.f at H
 clear h
 obtain⟨y1,hy1⟩:∃y_:List Int,y_=(([]:List Int)):=⟨_,rfl⟩
 replace H:(if y1.length+l0.length<17592186044416 then(some (y1++l0)) else(none))=some r:=gy hy1 H
 have Ny1:=C hy1
 clear hy1
 obtain⟨c1,H⟩:=np H
 have LMc1:=C c1
 clear c1
 obtain⟨y2,hy2⟩:∃y_:List Int,y_=(y1++l0):=⟨_,rfl⟩
 replace H:(some y2)=some r:=gy hy2 H
 have Ny2:=C hy2
 clear hy2
 obtain rfl:=Option.some.inj H
 go_enter Tryd.func106,Tryd.ntmps106
 go_wp2_with (first|((with_reducible refine J (N:=5) rfl ?_);refine Kd.R_lit (Kd.int .i64) _ 3 ?hg (N:=5) ?hd (xs:=([]:List Int)) (inner:= []) (ok:=fun _=>True) (okp:=fun _=>True) ?hr ?hp (fun _ hk=>hk) trivial (Below.refl _ _) (Nat.le_refl _) (by simp) ?_;(case hd=>rfl);(case hg=>rfl);(case hr=>exact Fix.hr);(case hp=>exact(Reps.none _ _));intro v1 w1 ho1 hb hg_ hnew_;clear hg_ hnew_;(first|rw[←Ny1.out]at ho1|(simp only[Int.reduceToNat]at ho1;rw[←Ny1.out]at ho1));have HO1:=lR ho1;replace HB:=eB hb;clear hb ho1)|((with_reducible refine gate_builtin (b:=.append) (xs:= #[.tmp 5,.tmp 6]) rfl ?_);at_builtin;refine Kd.R_append_rows (Kd.int .i64) (w0:=w) w.heap.size rfl (.tmp 5) (.tmp 6) 41 3 (V I 0) 8 rfl Tryd.underlying41 info3 rfl (by decide) (by omega) v1 y1 l0 _ _ _ (fun _=>True) (fun _=>False) rfl rfl ?aO ?aR (fun _ _ h=>h) (fun _ h=>h.elim) ?aF ?aB ?aS ?aL ?_;(case aR=>exact uC (Z HR1.out HB.out));(case aB=>exact uB);(case aF=>exact(fun _ _=>trivial));(case aO=>exact(uR HO1.out));(case aS=>exact(below_size uB));(case aL=>have:=LMc1.out;omega);intro v2 w2 ho hb hg hat;rw[←Ny2.out]at ho;have HO2:=C (ho);replace HB:=C (hb);clear HO1;clear ho hb hg hat))
 go_ret
 exact⟨_,rE,fR HO2.out,uB⟩
def impl_copyLine.f (a0_0:Int) (a0_1:Int) (l0_2:List Int) (l0_3:List Int) (a0_4:Int) (a0_5:Bool):Option (Int×Int×List Int×List Int×Int×Bool):=(slices_Clone_int_int.f l0_2).bind fun t687=>((slices_Clone_int_int.f l0_3).bind fun t690=>(some (a0_0,a0_1,t687,t690,a0_4,a0_5)))
def impl_copyLine.T1:Bool×List (List Nat×List Nat):=(true,[([],[]),([0],[0]),([1],[1]),([],[]),([3],[3]),([4,2],[4]),([0,1,2,3,4],[]),([6,2,5,0,1,2,3,4],[2,6]),([0,1,2,3,4,5,6,7],[]),([8,5,7,0,1,2,3,4,5,6,7],[5,8])])
def impl_copyLine.B1:List Nat:= [0,1,3,0,8,31,31,127,255,511]
theorem impl_copyLine.tab1:rtab .any (opsOf Tryd.f83 1)=impl_copyLine.T1:=by kernel_rfl
theorem impl_copyLine.bits1:waitsOk impl_copyLine.T1.2 impl_copyLine.B1=true:=by kernel_rfl
theorem impl_copyLine.calls (a0_0:Int) (a0_1:Int) (A0_2:Option Addr) (c0_2:Nat) (l0_2:List Int) (A0_3:Option Addr) (c0_3:Nat) (l0_3:List Int) (a0_4:Int) (a0_5:Bool) (r1:Int) (r2:Int) (r3:List Int) (r4:List Int) (r5:Int) (r6:Bool) (w:World) (hr0_2:Kd.C (Kd.int .i64) w A0_2 l0_2.length l0_2) (hc0_2:l0_2.length≤c0_2) (hr0_3:Kd.C (Kd.int .i64) w A0_3 l0_3.length l0_3) (hc0_3:l0_3.length≤c0_3) (h:impl_copyLine.f a0_0 a0_1 l0_2 l0_3 a0_4 a0_5=some (r1,r2,r3,r4,r5,r6)):
 Calls Tryd.prog 83 #[G #[V I a0_0,V I a0_1,L A0_2 l0_2.length c0_2,L A0_3 l0_3.length c0_3,V I a0_4,O a0_5]] w fun e w'=>∃v2_ v3_:Value,e=.returned (G #[V I r1,V I r2,v2_,v3_,V I r5,O r6])∧Kd.R (Kd.int .i64) 3 w' w.heap.size (fun k_=>qm k_ v3_) v2_ r3∧Kd.R (Kd.int .i64) 3 w' w.heap.size (fun k_=>qm k_ v2_) v3_ r4∧Below w.heap.size w w':=by
 have hu1:=Tryd.underlying43
 have HR1_2:=C hr0_2
 have HC1_2:=C hc0_2
 (try clear hr0_2);(try clear hc0_2)
 have HR1_3:=C hr0_3
 have HC1_3:=C hc0_3
 (try clear hr0_3);(try clear hc0_3)
 have HB:=C (Below.refl w.heap.size w)
 have H:=h
 unfold impl_copyLine.f at H
 clear h
 obtain⟨t1,A1,H⟩:=bnd H
 obtain⟨t2,A2,H⟩:=bnd H
 simp only[Option.some.injEq,Prod.mk.injEq]at H
 obtain⟨rfl,rfl,rfl,rfl,rfl,rfl⟩:=H
 go_enter Tryd.func83,Tryd.ntmps83
 try go_wp2_with (first|((with_reducible refine J (N:=1) rfl ?_);refine Fix.be 1 #[V I a0_0,V I a0_1,L A0_2 l0_2.length c0_2,L A0_3 l0_3.length c0_3,V I a0_4,O a0_5] 43 ?_;intro gb1 hg w2 BK1 hb;have GW1:D (w.heap.size≤gb1):=gE hg;have GE1:=GW1;replace HB:=eB hb;clear hb hg)|((with_reducible refine J (N:=2) rfl ?_);refine Fix.be 2 #[V I 0,V I 0,L none 0 0,L none 0 0,V I 0,O false] 43 ?_;intro gb2 hg w3 BK2 hb;have GW2:D (w.heap.size≤gb2):=gE hg;have GE2:=GW2;have NB1_686:=nL hg BK1;have NB2_685:=nG hg BK1;replace BK1:=eK BK1 hb;replace HB:=eB hb;clear hb hg))
 replace BK1:=dK BK1
 replace BK2:=dK BK2
 replace HB:=dB HB
 refine start_ (n:=10) (S:=fun w'=>cl6 w' gb1 (V I a0_0) (V I a0_1) (L A0_2 l0_2.length c0_2) (L A0_3 l0_3.length c0_3) (V I a0_4) (O a0_5)) (ds:= [7,9]) #[false,false,false,false,false,false,false,false,false,false] (by kernel_rfl) rfl rfl hh (fun hHeld=> ?_);refine with_tabW impl_copyLine.tab1 impl_copyLine.bits1 (fun HT_ HW_=> ?_)
 generalize w3.drew=w4 at BK1 BK2 HB hHeld ⊢
 refine pu 0 (some 3) ?_
 refine pu 3 (some 6) ?_
 refine tu 1 (some 4) hHeld ?_
 refine tu 4 (some 7) hHeld ?_
 refine ou 2 (some 5) (fun K hK=> ?_)
 refine gs Tryd.func106 #[L A0_2 l0_2.length c0_2] ?_
 with_reducible refine(slices_Clone_int_int.calls _ _ l0_2 t1 _ ?side1 ?side2 A1.out).mono ?_
 (case side1=>exact uC (Z HR1_2.out HB.out))
 (case side2=>exact HC1_2.out)
 rintro e w5 ⟨v1,rfl,ho1,hb⟩
 refine⟨_,rfl,?_⟩
 have HO1:=lR ho1
 replace BK1:=eK BK1 hb
 replace BK2:=eK BK2 hb
 replace HB:=eB hb
 (try clear hb)
 refine hK.out _ _ hh (fun hHeld=> ?_)
 clear hK K
 refine nu (N:=(some 5)) ?_
 refine pu 6 (some 9) ?_
 refine ou 5 (some 8) (fun K hK=> ?_)
 refine gs Tryd.func106 #[L A0_3 l0_3.length c0_3] ?_
 with_reducible refine(slices_Clone_int_int.calls _ _ l0_3 t2 _ ?side1 ?side2 A2.out).mono ?_
 (case side1=>exact uC (Z HR1_3.out HB.out))
 (case side2=>exact HC1_3.out)
 rintro e w6 ⟨v2,rfl,ho1,hb⟩
 refine⟨_,rfl,?_⟩
 have HO2:=C (Kd.R_lower (Kd.R_new' ho1 (Kd.R_lt (uR HO1.out))) (below_size uB))
 replace HO1:=C (Kd.R_elder' (uR HO1.out) (Kd.R_base ho1) hb)
 replace BK1:=eK BK1 hb
 replace BK2:=eK BK2 hb
 replace HB:=eB hb
 (try clear hb)
 obtain⟨Ao1,co1,eo1⟩:=Kd.R_slice HO1.out
 (first|subst eo1|(injection eo1 with f1_ f2_ f3_;have f4_:=f1_.symm;have f5_:=f3_.symm;clear f1_ f2_ f3_;subst f4_;subst f5_))
 obtain⟨Ao2,co2,eo2⟩:=Kd.R_slice HO2.out
 (first|subst eo2|(injection eo2 with f1_ f2_ f3_;have f4_:=f1_.symm;have f5_:=f3_.symm;clear f1_ f2_ f3_;subst f4_;subst f5_))
 refine hK.out _ _ hh (fun hHeld=> ?_)
 clear hK K
 refine nu (N:=(some 8)) ?_
 refine last_ (i:=7) (N:=none) #[true,true,true,true,true,true,true,true,false,false] rfl rfl (one_of HT_.out (by kernel_rfl)) (by decide) (fun K hK=> ?_)
 have hs1:w6.cell? ⟨gb1,2,none⟩=some (L A0_2 l0_2.length c0_2):=(blk_cell BK1.out 2).trans rfl
 have hfs1:=blk_frozen BK1.out 2
 have hns1_1:=NB2_685.out
 have hms1_1:=NB1_686.out
 refine skip_ (w1:= ?_) (by rfl) rfl ?_ ?_
 rotate_left
 ·go_simp
  rfl
 refine hK.out _ _ ?_
 clear hK K
 refine pu 8 (some 10) ?_
 refine last_ (i:=9) (N:=none) #[true,true,true,true,true,true,true,true,true,true] rfl rfl (one_of HT_.out (by kernel_rfl)) (by decide) (fun K hK=> ?_)
 have hs2:w6.cell? ⟨gb1,3,none⟩=some (L A0_3 l0_3.length c0_3):=(blk_cell BK1.out 3).trans rfl
 have hfs2:=blk_frozen BK1.out 3
 have hns2_1:=NB2_685.out
 have hms2_1:=NB1_686.out
 refine skip_ (w1:= ?_) (by rfl) rfl ?_ ?_
 rotate_left
 ·go_simp
  rfl
 refine hK.out _ _ ?_
 clear hK K
 refine done_ (done_of HT_.out (by kernel_rfl)) ?_
 have hnb1:=NB1_686.out
 have hnc1:=NB2_685.out
 have h_:=d6 BK1.out;(repeat(obtain⟨_,h_⟩:=h_))
 obtain⟨hcz1_0,hcz1_1,hcz1_2,hcz1_3,hcz1_4,hcz1_5,hfz1_0,hfz1_1,hfz1_2,hfz1_3,hfz1_4,hfz1_5⟩:=d6 BK2.out
 try go_wp2
 refine bodyPost_ret (results_cell_row rfl _ _ gb2 43 #[V I a0_0,V I a0_1,L Ao1 t1.length co1,L Ao2 t2.length co2,V I a0_4,O a0_5] (0,0) _ rfl (bK BK2.out) Tryd.underlying43 rfl (by kernel_rfl)) rfl ?_
 exact⟨_,_,rE,X (fR (Kd.R_types (Kd.R_types HO1.out BK1.out (by decide)) BK2.out (by decide))) (fun _ hk=>hk.1.1.2),X (fR (Kd.R_types (Kd.R_types HO2.out BK1.out (by decide)) BK2.out (by decide))) (fun _ hk=>hk.1.1.2),uB⟩
def impl_copyMachine.f (l0_0:List (S40)) (a0_1:Int) (a0_2:Int) (a0_3:Int) (a0_4:Bool) (a0_5:Int) (a0_6:Bool) (a0_7:Int) (a0_8:Int) (l0_9:List Int) (l0_10:List Int) (a0_11:Int) (a0_12:Bool) (a0_13:Int):Option ((List (S40))×Int×Int×Int×Bool×Int×Bool×Int×Int×List Int×List Int×Int×Bool×Int):=(impl_Job_82.f l0_0).bind fun t695=>((impl_copyLine.f a0_7 a0_8 l0_9 l0_10 a0_11 a0_12).bind fun bt698=>(some (t695,a0_1,a0_2,a0_3,a0_4,a0_5,a0_6,bt698.1,bt698.2.1,bt698.2.2.1,bt698.2.2.2.1,bt698.2.2.2.2.1,bt698.2.2.2.2.2,a0_13)))
def impl_copyMachine.T1:Bool×List (List Nat×List Nat):=(true,[([],[]),([0],[0]),([1],[1]),([],[]),([3],[3]),([4,2],[4]),([0,1,2,3,4],[]),([6,2,5,0,1,2,3,4],[2,6]),([0,1,2,3,4,5,6,7],[]),([8,5,7,0,1,2,3,4,5,6,7],[5,8])])
def impl_copyMachine.B1:List Nat:= [0,1,3,0,8,31,31,127,255,511]
theorem impl_copyMachine.tab1:rtab .any (opsOf Tryd.f57 1)=impl_copyMachine.T1:=by kernel_rfl
theorem impl_copyMachine.bits1:waitsOk impl_copyMachine.T1.2 impl_copyMachine.B1=true:=by kernel_rfl
theorem impl_copyMachine.calls (A0_0:Option Addr) (c0_0:Nat) (l0_0:List (S40)) (a0_1:Int) (a0_2:Int) (a0_3:Int) (a0_4:Bool) (a0_5:Int) (a0_6:Bool) (a0_7:Int) (a0_8:Int) (A0_9:Option Addr) (c0_9:Nat) (l0_9:List Int) (A0_10:Option Addr) (c0_10:Nat) (l0_10:List Int) (a0_11:Int) (a0_12:Bool) (a0_13:Int) (r1:List (S40)) (r2:Int) (r3:Int) (r4:Int) (r5:Bool) (r6:Int) (r7:Bool) (r8:Int) (r9:Int) (r10:List Int) (r11:List Int) (r12:Int) (r13:Bool) (r14:Int) (w:World) (hr0_0:Kd.C k40 w A0_0 l0_0.length l0_0) (hc0_0:l0_0.length≤c0_0) (hr0_9:Kd.C (Kd.int .i64) w A0_9 l0_9.length l0_9) (hc0_9:l0_9.length≤c0_9) (hr0_10:Kd.C (Kd.int .i64) w A0_10 l0_10.length l0_10) (hc0_10:l0_10.length≤c0_10) (h:impl_copyMachine.f l0_0 a0_1 a0_2 a0_3 a0_4 a0_5 a0_6 a0_7 a0_8 l0_9 l0_10 a0_11 a0_12 a0_13=some (r1,r2,r3,r4,r5,r6,r7,r8,r9,r10,r11,r12,r13,r14)):
 Calls Tryd.prog 57 #[G #[L A0_0 l0_0.length c0_0,V I a0_1,V I a0_2,V I a0_3,O a0_4,V I a0_5,O a0_6,V I a0_7,V I a0_8,L A0_9 l0_9.length c0_9,L A0_10 l0_10.length c0_10,V I a0_11,O a0_12,V I a0_13]] w fun e w'=>∃v0_ v9_ v10_:Value,e=.returned (G #[v0_,V I r2,V I r3,V I r4,O r5,V I r6,O r7,V I r8,V I r9,v9_,v10_,V I r12,O r13,V I r14])∧Kd.R k40 40 w' w.heap.size (fun _=>True) v0_ r1∧Kd.R (Kd.int .i64) 3 w' w.heap.size (fun k_=>qm k_ v10_) v9_ r10∧Kd.R (Kd.int .i64) 3 w' w.heap.size (fun k_=>qm k_ v9_) v10_ r11∧Below w.heap.size w w':=by
 have hu1:=Tryd.underlying45
 have hu2:=Tryd.underlying43
 have HR1_0:=C hr0_0
 have HC1_0:=C hc0_0
 (try clear hr0_0);(try clear hc0_0)
 have HR1_9:=C hr0_9
 have HC1_9:=C hc0_9
 (try clear hr0_9);(try clear hc0_9)
 have HR1_10:=C hr0_10
 have HC1_10:=C hc0_10
 (try clear hr0_10);(try clear hc0_10)
 have HB:=C (Below.refl w.heap.size w)
 have H:=h
 unfold impl_copyMachine.f at H
 clear h
 obtain⟨t1,A1,H⟩:=bnd H
 obtain⟨⟨t2,t3,t4,t5,t6,t7⟩,A2,H⟩:=bnd H
 dsimp only at H
 simp only[Option.some.injEq,Prod.mk.injEq]at H
 obtain⟨rfl,rfl,rfl,rfl,rfl,rfl,rfl,rfl,rfl,rfl,rfl,rfl,rfl,rfl⟩:=H
 go_enter Tryd.func57,Tryd.ntmps57
 try go_wp2_with (first|((with_reducible refine J (N:=1) rfl ?_);refine Fix.be 1 #[L A0_0 l0_0.length c0_0,V I a0_1,V I a0_2,V I a0_3,O a0_4,V I a0_5,O a0_6,V I a0_7,V I a0_8,L A0_9 l0_9.length c0_9,L A0_10 l0_10.length c0_10,V I a0_11,O a0_12,V I a0_13] 45 ?_;intro gb1 hg w2 BK1 hb;have GW1:D (w.heap.size≤gb1):=gE hg;have GE1:=GW1;replace HB:=eB hb;clear hb hg)|((with_reducible refine J (N:=2) rfl ?_);refine Fix.be 2 #[L none 0 0,V I 0,V I 0,V I 0,O false,V I 0,O false,V I 0,V I 0,L none 0 0,L none 0 0,V I 0,O false,V I 0] 45 ?_;intro gb2 hg w3 BK2 hb;have GW2:D (w.heap.size≤gb2):=gE hg;have GE2:=GW2;have NB1_694:=nL hg BK1;have NB2_693:=nG hg BK1;replace BK1:=eK BK1 hb;replace HB:=eB hb;clear hb hg))
 replace BK1:=dK BK1
 replace BK2:=dK BK2
 replace HB:=dB HB
 refine start_ (n:=10) (S:=fun w'=>cl14 w' gb1 (L A0_0 l0_0.length c0_0) (V I a0_1) (V I a0_2) (V I a0_3) (O a0_4) (V I a0_5) (O a0_6) (V I a0_7) (V I a0_8) (L A0_9 l0_9.length c0_9) (L A0_10 l0_10.length c0_10) (V I a0_11) (O a0_12) (V I a0_13)) (ds:= [7,9]) #[false,false,false,false,false,false,false,false,false,false] (by kernel_rfl) rfl rfl hh (fun hHeld=> ?_);refine with_tabW impl_copyMachine.tab1 impl_copyMachine.bits1 (fun HT_ HW_=> ?_)
 generalize w3.drew=w4 at BK1 BK2 HB hHeld ⊢
 refine pu 0 (some 3) ?_
 refine pu 3 (some 6) ?_
 refine tu 1 (some 4) hHeld ?_
 refine tu 4 (some 7) hHeld ?_
 refine ou 2 (some 5) (fun K hK=> ?_)
 refine gs Tryd.func82 #[L A0_0 l0_0.length c0_0] ?_
 with_reducible refine(impl_Job_82.calls _ _ l0_0 t1 _ ?side1 ?side2 A1.out).mono ?_
 (case side1=>exact uC (Z HR1_0.out HB.out))
 (case side2=>exact HC1_0.out)
 rintro e w5 ⟨v1,rfl,ho1,hb⟩
 refine⟨_,rfl,?_⟩
 have HO1:=lR ho1
 replace BK1:=eK BK1 hb
 replace BK2:=eK BK2 hb
 replace HB:=eB hb
 (try clear hb)
 refine hK.out _ _ hh (fun hHeld=> ?_)
 clear hK K
 refine nu (N:=(some 5)) ?_
 refine pu 6 (some 9) ?_
 refine ou 5 (some 8) (fun K hK=> ?_)
 refine gs Tryd.func83 #[G #[V I a0_7,V I a0_8,L A0_9 l0_9.length c0_9,L A0_10 l0_10.length c0_10,V I a0_11,O a0_12]] ?_
 with_reducible refine(impl_copyLine.calls a0_7 a0_8 _ _ l0_9 _ _ l0_10 a0_11 a0_12 t2 t3 t4 t5 t6 t7 _ ?side1 ?side2 ?side3 ?side4 A2.out).mono ?_
 (case side1=>exact uC (Z HR1_9.out HB.out))
 (case side2=>exact HC1_9.out)
 (case side3=>exact uC (Z HR1_10.out HB.out))
 (case side4=>exact HC1_10.out)
 rintro e w6 ⟨v2,v3,rfl,ho1,ho2,hb⟩
 refine⟨_,rfl,?_⟩
 have HO2:=lR ho1
 have HO3:=lR ho2
 replace HO1:=eR HO1 hb
 replace BK1:=eK BK1 hb
 replace BK2:=eK BK2 hb
 replace HB:=eB hb
 (try clear hb)
 obtain⟨Ao1,co1,eo1⟩:=Kd.R_slice HO1.out
 (first|subst eo1|(injection eo1 with f1_ f2_ f3_;have f4_:=f1_.symm;have f5_:=f3_.symm;clear f1_ f2_ f3_;subst f4_;subst f5_))
 obtain⟨Ao2,co2,eo2⟩:=Kd.R_slice HO2.out
 (first|subst eo2|(injection eo2 with f1_ f2_ f3_;have f4_:=f1_.symm;have f5_:=f3_.symm;clear f1_ f2_ f3_;subst f4_;subst f5_))
 obtain⟨Ao3,co3,eo3⟩:=Kd.R_slice HO3.out
 (first|subst eo3|(injection eo3 with f1_ f2_ f3_;have f4_:=f1_.symm;have f5_:=f3_.symm;clear f1_ f2_ f3_;subst f4_;subst f5_))
 refine hK.out _ _ hh (fun hHeld=> ?_)
 clear hK K
 refine nu (N:=(some 8)) ?_
 refine last_ (i:=7) (N:=none) #[true,true,true,true,true,true,true,true,false,false] rfl rfl (one_of HT_.out (by kernel_rfl)) (by decide) (fun K hK=> ?_)
 have hs1:w6.cell? ⟨gb1,0,none⟩=some (L A0_0 l0_0.length c0_0):=(blk_cell BK1.out 0).trans rfl
 have hfs1:=blk_frozen BK1.out 0
 have hns1_1:=NB2_693.out
 have hms1_1:=NB1_694.out
 refine skip_ (w1:= ?_) (by rfl) rfl ?_ ?_
 rotate_left
 ·go_simp
  rfl
 refine hK.out _ _ ?_
 clear hK K
 refine pu 8 (some 10) ?_
 refine last_ (i:=9) (N:=none) #[true,true,true,true,true,true,true,true,true,true] rfl rfl (one_of HT_.out (by kernel_rfl)) (by decide) (fun K hK=> ?_)
 have hs2:w6.cell? ⟨gb1,7,none⟩=some (V I a0_7):=(blk_cell BK1.out 7).trans rfl
 have hfs2:=blk_frozen BK1.out 7
 have hns2_1:=NB2_693.out
 have hms2_1:=NB1_694.out
 have hs3:w6.cell? ⟨gb1,8,none⟩=some (V I a0_8):=(blk_cell BK1.out 8).trans rfl
 have hfs3:=blk_frozen BK1.out 8
 have hns3_1:=NB2_693.out
 have hms3_1:=NB1_694.out
 have hs4:w6.cell? ⟨gb1,9,none⟩=some (L A0_9 l0_9.length c0_9):=(blk_cell BK1.out 9).trans rfl
 have hfs4:=blk_frozen BK1.out 9
 have hns4_1:=NB2_693.out
 have hms4_1:=NB1_694.out
 have hs5:w6.cell? ⟨gb1,10,none⟩=some (L A0_10 l0_10.length c0_10):=(blk_cell BK1.out 10).trans rfl
 have hfs5:=blk_frozen BK1.out 10
 have hns5_1:=NB2_693.out
 have hms5_1:=NB1_694.out
 have hs6:w6.cell? ⟨gb1,11,none⟩=some (V I a0_11):=(blk_cell BK1.out 11).trans rfl
 have hfs6:=blk_frozen BK1.out 11
 have hns6_1:=NB2_693.out
 have hms6_1:=NB1_694.out
 have hs7:w6.cell? ⟨gb1,12,none⟩=some (O a0_12):=(blk_cell BK1.out 12).trans rfl
 have hfs7:=blk_frozen BK1.out 12
 have hns7_1:=NB2_693.out
 have hms7_1:=NB1_694.out
 refine skip_ (w1:= ?_) (by rfl) rfl ?_ ?_
 rotate_left
 ·go_simp
  rfl
 refine hK.out _ _ ?_
 clear hK K
 refine done_ (done_of HT_.out (by kernel_rfl)) ?_
 have hnb1:=NB1_694.out
 have hnc1:=NB2_693.out
 have h_:=d14 BK1.out;(repeat(obtain⟨_,h_⟩:=h_))
 have h_:=d14 BK2.out;(repeat(obtain⟨_,h_⟩:=h_))
 try go_wp2
 refine bodyPost_ret (results_cell_row rfl _ _ gb2 45 #[L Ao1 t1.length co1,V I a0_1,V I a0_2,V I a0_3,O a0_4,V I a0_5,O a0_6,V I t2,V I t3,L Ao2 t4.length co2,L Ao3 t5.length co3,V I t6,O t7,V I a0_13] (0,0) _ rfl (bK BK2.out) Tryd.underlying45 rfl (by kernel_rfl)) rfl ?_
 exact⟨_,_,_,rE,X (fR (Kd.R_types (Kd.R_types HO1.out BK1.out (by decide)) BK2.out (by decide))) (fun _ hk=>trivial),X (fR (Kd.R_types (Kd.R_types HO2.out BK1.out (by decide)) BK2.out (by decide))) (fun _ hk=>hk.1.1),X (fR (Kd.R_types (Kd.R_types HO3.out BK1.out (by decide)) BK2.out (by decide))) (fun _ hk=>hk.1.1),uB⟩
def impl_jobOf.f (a0_0:Int) (a0_1:Int) (a0_2:Int) (a0_3:Int):Option (Int×Int×Int×Bool×Int×Bool):=some (a0_1,a0_2,1,false,a0_3,(a0_3==9))
theorem impl_jobOf.calls (a0_0:Int) (a0_1:Int) (a0_2:Int) (a0_3:Int) (r1:Int) (r2:Int) (r3:Int) (r4:Bool) (r5:Int) (r6:Bool) (w:World) (h:impl_jobOf.f a0_0 a0_1 a0_2 a0_3=some (r1,r2,r3,r4,r5,r6)):
 Calls Tryd.prog 66 #[G #[V I a0_0,V I a0_1,V I a0_2,V I a0_3]] w fun e w'=>e=.returned (G #[V I r1,V I r2,V I r3,O r4,V I r5,O r6])∧Below w.heap.size w w':=by
 have hu1:=Tryd.underlying26
 have hu2:=Tryd.underlying40
 have HB:=C (Below.refl w.heap.size w)
 have H:=h
 unfold impl_jobOf.f at H
 clear h
 simp only[Option.some.injEq,Prod.mk.injEq]at H
 obtain⟨rfl,rfl,rfl,rfl,rfl,rfl⟩:=H
 go_enter Tryd.func66,Tryd.ntmps66
 go_wp2_with (first|((with_reducible refine J (N:=1) rfl ?_);refine Fix.be 1 #[V I a0_0,V I a0_1,V I a0_2,V I a0_3] 26 ?_;intro gb1 hg w1 BK1 hb;have GW1:D (w.heap.size≤gb1):=gE hg;have GE1:=GW1;replace HB:=eB hb;clear hb hg)|((with_reducible refine J (N:=2) rfl ?_);refine Fix.be 2 #[V I 0,V I 0,V I 0,O false,V I 0,O false] 40 ?_;intro gb2 hg w2 BK2 hb;have GW2:D (w.heap.size≤gb2):=gE hg;have GE2:=GW2;have NB1_709:=nL hg BK1;have NB2_708:=nG hg BK1;replace BK1:=eK BK1 hb;replace HB:=eB hb;clear hb hg;have hnb1:=NB1_709.out;have hnc1:=NB2_708.out;have h_:=d4 BK1.out;(repeat(obtain⟨_,h_⟩:=h_));obtain⟨hcz1_0,hcz1_1,hcz1_2,hcz1_3,hcz1_4,hcz1_5,hfz1_0,hfz1_1,hfz1_2,hfz1_3,hfz1_4,hfz1_5⟩:=d6 BK2.out))
 refine bodyPost_ret (results_cell_row rfl _ _ gb2 40 #[V I a0_1,V I a0_2,V I 1,O false,V I a0_3,O (a0_3==9)] (0,0) _ rfl (bK BK2.out) Tryd.underlying40 rfl (by kernel_rfl)) rfl ?_
 exact⟨rE,uB⟩
def impl_ActOk.j0:Nat→Int→Bool→Int→Int→Int→Int→Option (Bool)
  |0,_,_,_,_,_,_=>none
  |k+1,x4,x10,x711000,x711001,x711002,x711003=>if x10=true then(if x711001=0 then(if x711002=0 then(some (x711003==0)) else(some false)) else(some false)) else(if x4=3 then((impl_within.f x711001 1 5).bind fun t718=>(if t718=true then(if x711002=0 then(some (x711003==0)) else(some false)) else(some false))) else(if x4=5 then((impl_within.f x711001 1 9999).bind fun t719=>(if t719=true then(if x711002=0 then(some (x711003==0)) else(some false)) else(some false))) else(some false)))
def impl_ActOk.f (k:Nat) (a0_0:Int) (a0_1:Int) (a0_2:Int) (a0_3:Int):Option (Bool):=if a0_0=1 then((impl_jobOf.f a0_0 a0_1 a0_2 a0_3).bind fun bt711=>((impl_JobOk.f bt711.1 bt711.2.1 bt711.2.2.1 bt711.2.2.2.1 bt711.2.2.2.2.1 bt711.2.2.2.2.2).bind fun t717=>(some t717))) else(if a0_0=2 then(impl_ActOk.j0 k a0_0 (a0_0==2) a0_0 a0_1 a0_2 a0_3) else(impl_ActOk.j0 k a0_0 (a0_0==4) a0_0 a0_1 a0_2 a0_3))
theorem impl_ActOk.mono_l:∀k,(∀y0 y1 y2 y3 y4 y5,LeO (impl_ActOk.j0 k y0 y1 y2 y3 y4 y5) (impl_ActOk.j0 (k+1) y0 y1 y2 y3 y4 y5))
 |0=>fun _ _ _ _ _ _ r h=>by simp[impl_ActOk.j0]at h
 |k+1=>by
  have ih0:=impl_ActOk.mono_l k
  ·intro y0 y1 y2 y3 y4 y5
   unfold impl_ActOk.j0
   repeat' first|(with_reducible first|apply ih0|exact LeO.refl _|exact LeO.none _|refine LeO.ite ?_ ?_|refine LeO.bind ?_ (fun _=> ?_))|apply ih0|exact LeO.none _|refine LeO.ite ?_ ?_|refine LeO.bind ?_ (fun _=> ?_)
theorem impl_ActOk.mono:∀a0 a1 a2 a3 k,LeO (impl_ActOk.f k a0 a1 a2 a3) (impl_ActOk.f (k+1) a0 a1 a2 a3):=by
 intro a0 a1 a2 a3 k
 have ih0:=impl_ActOk.mono_l k
 unfold impl_ActOk.f
 repeat' first|(with_reducible first|apply ih0|exact LeO.refl _|exact LeO.none _|refine LeO.ite ?_ ?_|refine LeO.bind ?_ (fun _=> ?_))|apply ih0|exact LeO.none _|refine LeO.ite ?_ ?_|refine LeO.bind ?_ (fun _=> ?_)
theorem impl_ActOk.W1 {p:Prop} (h:p:=by
 go_wp2
 go_meet
 first
  |(case rel=>exact⟨_,((a0_0==2)),rS,H',⟨oL⟩,⟨bK BK1.out⟩,⟨uB⟩⟩)
  |(case rel=>exact⟨_,((a0_0==4)),rS,H',⟨oL⟩,⟨bK BK1.out⟩,⟨uB⟩⟩)):p:=h
theorem impl_ActOk.W2 {p:Prop} (h:p:=by
 go_wp2
 go_ret
 exact⟨rE,uB⟩):p:=h
theorem impl_ActOk.W3 {p:Prop} (h:p:=by
 go_wp2_with (first|((with_reducible refine F (f:=67) rfl ?_);refine gl 67 (some 30) Tryd.func67 #[V I a0_1,V I 1,V I 5] ?_;(with_reducible refine(impl_within.calls a0_1 1 5 true _ A1.out).mono ?_);rintro e w' ⟨rfl,⟨nd,rfl⟩⟩;refine⟨_,rfl,?_⟩))
 go_ret
 exact⟨rE,uB⟩):p:=h
theorem impl_ActOk.W4 {p:Prop} (h:p:=by
 go_wp2_with (first|((with_reducible refine F (f:=67) rfl ?_);refine gl 67 (some 45) Tryd.func67 #[V I a0_1,V I 1,V I 9999] ?_;(with_reducible refine(impl_within.calls a0_1 1 9999 true _ A1.out).mono ?_);rintro e w' ⟨rfl,⟨nd,rfl⟩⟩;refine⟨_,rfl,?_⟩))
 go_ret
 exact⟨rE,uB⟩):p:=h
theorem impl_ActOk.calls (k:Nat) (a0_0:Int) (a0_1:Int) (a0_2:Int) (a0_3:Int) (r:Bool) (w:World) (h:impl_ActOk.f k a0_0 a0_1 a0_2 a0_3=some r):
 Calls Tryd.prog 35 #[G #[V I a0_0,V I a0_1,V I a0_2,V I a0_3]] w fun e w'=>e=.returned (O r)∧Below w.heap.size w w':=by
 have hu1:=Tryd.underlying26
 have HB:=C (Below.refl w.heap.size w)
 have H:=h
 unfold impl_ActOk.f at H
 clear h
 by_cases c1:a0_0=1
 ·rw[if_pos c1]at H
  have c1b0:(a0_0==1)=true:=beq_iff_eq.mpr c1
  have c1b1:(a0_0 !=1)=false:=bne_eq_false_iff_eq.mpr c1
  clear c1
  obtain⟨⟨t1,t2,t3,t4,t5,t6⟩,A1,H⟩:=bnd H
  dsimp only at H
  obtain⟨t7,A2,H⟩:=bnd H
  obtain rfl:=Option.some.inj H
  go_enter Tryd.func35,Tryd.ntmps35
  go_wp2_with (first|((with_reducible refine J (N:=1) rfl ?_);refine Fix.be 1 #[V I a0_0,V I a0_1,V I a0_2,V I a0_3] 26 ?_;intro gb1 hg w1 BK1 hb;have GW1:D (w.heap.size≤gb1):=gE hg;have GE1:=GW1;replace HB:=eB hb;clear hb hg;obtain⟨hcz1_0,hcz1_1,hcz1_2,hcz1_3,hfz1_0,hfz1_1,hfz1_2,hfz1_3⟩:=d4 BK1.out)|((with_reducible refine F (f:=66) rfl ?_);refine gl 66 (some 8) Tryd.func66 #[G #[V I a0_0,V I a0_1,V I a0_2,V I a0_3]] ?_;(with_reducible refine(impl_jobOf.calls a0_0 a0_1 a0_2 a0_3 t1 t2 t3 t4 t5 t6 _ A1.out).mono ?_);rintro e w2 ⟨rfl,hb⟩;refine⟨_,rfl,?_⟩;replace BK1:=eK BK1 hb;replace HB:=eB hb;clear hb)|((with_reducible refine F (f:=65) rfl ?_);refine gl 65 (some 9) Tryd.func65 #[G #[V I t1,V I t2,V I t3,O t4,V I t5,O t6]] ?_;(with_reducible refine(impl_JobOk.calls t1 t2 t3 t4 t5 t6 t7 _ A2.out).mono ?_);rintro e w3 ⟨rfl,hb⟩;refine⟨_,rfl,?_⟩;replace BK1:=eK BK1 hb;replace HB:=eB hb;clear hb))
  go_ret
  exact⟨rE,uB⟩
 rw[if_neg c1]at H
 have c1b0:(a0_0==1)=false:=beq_eq_false_iff_ne.mpr c1
 have c1b1:(a0_0 !=1)=true:=bne_iff_ne.mpr c1
 have HC1:=C H
 clear H
 go_enter Tryd.func35,Tryd.ntmps35
 go_upto_if 10 with(first|((with_reducible refine J (N:=1) rfl ?_);refine Fix.be 1 #[V I a0_0,V I a0_1,V I a0_2,V I a0_3] 26 ?_;intro gb1 hg w1 BK1 hb;have GW1:D (w.heap.size≤gb1):=gE hg;have GE1:=GW1;replace HB:=eB hb;clear hb hg;have h_:=d4 BK1.out;(repeat(obtain⟨_,h_⟩:=h_))))
 (try simp only[Act.put,List.setIfInBounds_toArray,List.set_cons_zero,List.set_cons_succ])
 go_cut [10] (fun v10 wc=>∃(kq:Nat) (x1_8:Bool),v10=O x1_8∧D (impl_ActOk.j0 kq a0_0 x1_8 a0_0 a0_1 a0_2 a0_3=some r)∧D (kq≤k)∧D (wc.heap[gb1]? =some (.cells #[V I a0_0,V I a0_1,V I a0_2,V I a0_3] 26 (0,0)))∧D (Below w.heap.size w wc))
 case first=>
  have H:=HC1.out
  clear HC1
  by_cases c2:a0_0=2
  rotate_left
  ·rw[if_neg c2]at H
   have c2b0:(a0_0==2)=false:=beq_eq_false_iff_ne.mpr c2
   have c2b1:(a0_0 !=2)=true:=bne_iff_ne.mpr c2
   (first|rw[c2b0]|(simp only[i64_w,i32_w];rw[c2b0])|skip)
   have H':=C H
   clear H
   exact impl_ActOk.W1
  rw[if_pos c2]at H
  have c2b0:(a0_0==2)=true:=beq_iff_eq.mpr c2
  have c2b1:(a0_0 !=2)=false:=bne_eq_false_iff_eq.mpr c2
  clear c2
  (first|rw[c2b0]|(simp only[i64_w,i32_w];rw[c2b0])|skip)
  have H':=C H
  clear H
  exact impl_ActOk.W1
 case rest=>
  clear HC1
  obtain⟨kq,x1_8,rfl,HA,HJ1,BK1,HB⟩:=hcut
  cases kq with
  |zero=>exact absurd HA.out (by simp[impl_ActOk.j0])
  |succ kj8=>
   have H:=HA.out
   clear HA
   simp only[impl_ActOk.j0]at H
   by_cases c2:x1_8=true
   ·subst c2
    rw[if_pos rfl]at H
    by_cases c3:a0_1=0
    rotate_left
    ·rw[if_neg c3]at H
     have c3b0:(a0_1==0)=false:=beq_eq_false_iff_ne.mpr c3
     have c3b1:(a0_1 !=0)=true:=bne_iff_ne.mpr c3
     obtain rfl:=Option.some.inj H
     have h_:=d4 BK1.out;(repeat(obtain⟨_,h_⟩:=h_))
     exact impl_ActOk.W2
    rw[if_pos c3]at H
    have c3b0:(a0_1==0)=true:=beq_iff_eq.mpr c3
    have c3b1:(a0_1 !=0)=false:=bne_eq_false_iff_eq.mpr c3
    clear c3
    by_cases c4:a0_2=0
    rotate_left
    ·rw[if_neg c4]at H
     have c4b0:(a0_2==0)=false:=beq_eq_false_iff_ne.mpr c4
     have c4b1:(a0_2 !=0)=true:=bne_iff_ne.mpr c4
     obtain rfl:=Option.some.inj H
     have h_:=d4 BK1.out;(repeat(obtain⟨_,h_⟩:=h_))
     exact impl_ActOk.W2
    rw[if_pos c4]at H
    have c4b0:(a0_2==0)=true:=beq_iff_eq.mpr c4
    have c4b1:(a0_2 !=0)=false:=bne_eq_false_iff_eq.mpr c4
    clear c4
    obtain rfl:=Option.some.inj H
    have h_:=d4 BK1.out;(repeat(obtain⟨_,h_⟩:=h_))
    exact impl_ActOk.W2
   replace c2:=Bool.eq_false_iff.mpr c2
   subst c2
   rw[if_neg Bool.false_ne_true]at H
   by_cases c3:a0_0=3
   ·rw[if_pos c3]at H
    have c3b0:(a0_0==3)=true:=beq_iff_eq.mpr c3
    have c3b1:(a0_0 !=3)=false:=bne_eq_false_iff_eq.mpr c3
    clear c3
    obtain⟨t1,A1,H⟩:=bnd H
    by_cases c4:t1=true
    rotate_left
    ·replace c4:=Bool.eq_false_iff.mpr c4
     subst c4
     rw[if_neg Bool.false_ne_true]at H
     obtain rfl:=Option.some.inj H
     have h_:=d4 BK1.out;(repeat(obtain⟨_,h_⟩:=h_))
     go_wp2_with (first|((with_reducible refine F (f:=67) rfl ?_);refine gl 67 (some 30) Tryd.func67 #[V I a0_1,V I 1,V I 5] ?_;(with_reducible refine(impl_within.calls a0_1 1 5 false _ A1.out).mono ?_);rintro e w' ⟨rfl,⟨nd,rfl⟩⟩;refine⟨_,rfl,?_⟩))
     go_ret
     exact⟨rE,uB⟩
    subst c4
    rw[if_pos rfl]at H
    by_cases c5:a0_2=0
    rotate_left
    ·rw[if_neg c5]at H
     have c5b0:(a0_2==0)=false:=beq_eq_false_iff_ne.mpr c5
     have c5b1:(a0_2 !=0)=true:=bne_iff_ne.mpr c5
     obtain rfl:=Option.some.inj H
     have h_:=d4 BK1.out;(repeat(obtain⟨_,h_⟩:=h_))
     exact impl_ActOk.W3
    rw[if_pos c5]at H
    have c5b0:(a0_2==0)=true:=beq_iff_eq.mpr c5
    have c5b1:(a0_2 !=0)=false:=bne_eq_false_iff_eq.mpr c5
    clear c5
    obtain rfl:=Option.some.inj H
    have h_:=d4 BK1.out;(repeat(obtain⟨_,h_⟩:=h_))
    exact impl_ActOk.W3
   rw[if_neg c3]at H
   have c3b0:(a0_0==3)=false:=beq_eq_false_iff_ne.mpr c3
   have c3b1:(a0_0 !=3)=true:=bne_iff_ne.mpr c3
   by_cases c4:a0_0=5
   rotate_left
   ·rw[if_neg c4]at H
    have c4b0:(a0_0==5)=false:=beq_eq_false_iff_ne.mpr c4
    have c4b1:(a0_0 !=5)=true:=bne_iff_ne.mpr c4
    obtain rfl:=Option.some.inj H
    exact impl_ActOk.W2
   rw[if_pos c4]at H
   have c4b0:(a0_0==5)=true:=beq_iff_eq.mpr c4
   have c4b1:(a0_0 !=5)=false:=bne_eq_false_iff_eq.mpr c4
   clear c4
   obtain⟨t1,A1,H⟩:=bnd H
   by_cases c5:t1=true
   rotate_left
   ·replace c5:=Bool.eq_false_iff.mpr c5
    subst c5
    rw[if_neg Bool.false_ne_true]at H
    obtain rfl:=Option.some.inj H
    have h_:=d4 BK1.out;(repeat(obtain⟨_,h_⟩:=h_))
    go_wp2_with (first|((with_reducible refine F (f:=67) rfl ?_);refine gl 67 (some 45) Tryd.func67 #[V I a0_1,V I 1,V I 9999] ?_;(with_reducible refine(impl_within.calls a0_1 1 9999 false _ A1.out).mono ?_);rintro e w' ⟨rfl,⟨nd,rfl⟩⟩;refine⟨_,rfl,?_⟩))
    go_ret
    exact⟨rE,uB⟩
   subst c5
   rw[if_pos rfl]at H
   by_cases c6:a0_2=0
   rotate_left
   ·rw[if_neg c6]at H
    have c6b0:(a0_2==0)=false:=beq_eq_false_iff_ne.mpr c6
    have c6b1:(a0_2 !=0)=true:=bne_iff_ne.mpr c6
    obtain rfl:=Option.some.inj H
    have h_:=d4 BK1.out;(repeat(obtain⟨_,h_⟩:=h_))
    exact impl_ActOk.W4
   rw[if_pos c6]at H
   have c6b0:(a0_2==0)=true:=beq_iff_eq.mpr c6
   have c6b1:(a0_2 !=0)=false:=bne_eq_false_iff_eq.mpr c6
   clear c6
   obtain rfl:=Option.some.inj H
   have h_:=d4 BK1.out;(repeat(obtain⟨_,h_⟩:=h_))
   exact impl_ActOk.W4
def impl_AddJob.f (k:Nat) (l0:List (S40)) (a1_0:Int) (a1_1:Int) (a1_2:Int) (a1_3:Bool) (a1_4:Int) (a1_5:Bool):Option ((List (S40))×Bool):=(impl_Job_82.f l0).bind fun t721=>((some (([(⟨a1_0,a1_1,a1_2,a1_3,a1_4,a1_5⟩:S40)]:List (S40)):List (S40))).bind fun y724=>(if t721.length+y724.length<2932031007402 then((some (t721++y724:List (S40))).bind fun y727=>((impl_JobsOk.f k l0).bind fun t730=>(if t730=true then((impl_JobsOk.f k y727).bind fun t731=>(if t731=true then(some (y727,true)) else((impl_Job_82.f l0).bind fun t732=>(some (t732,false))))) else((impl_Job_82.f l0).bind fun t735=>(some (t735,false)))))) else(none)))
theorem impl_AddJob.mono:∀a0 a1 a2 a3 a4 a5 a6 k,LeO (impl_AddJob.f k a0 a1 a2 a3 a4 a5 a6) (impl_AddJob.f (k+1) a0 a1 a2 a3 a4 a5 a6):=by
 intro a0 a1 a2 a3 a4 a5 a6 k
 unfold impl_AddJob.f
 repeat' first|(with_reducible first|apply impl_JobsOk.mono|exact LeO.refl _|exact LeO.none _|refine LeO.ite ?_ ?_|refine LeO.bind ?_ (fun _=> ?_))|exact LeO.none _|refine LeO.ite ?_ ?_|refine LeO.bind ?_ (fun _=> ?_)
theorem impl_AddJob.W1 {p:Prop} (h:p:=by
    go_enter Tryd.func84,Tryd.ntmps84
    try go_wp2_with (first|((with_reducible refine J (N:=3) rfl ?_);refine Fix.be 3 #[V I a1_0,V I a1_1,V I a1_2,O a1_3,V I a1_4,O a1_5] 40 ?_;intro gb1 hg w1 BK1 hb;have GW1:D (w.heap.size≤gb1):=gE hg;have GE1:=GW1;replace HB:=eB hb;clear hb hg))
    replace BK1:=dK BK1
    replace HB:=dB HB
    refine start_ (n:=6) (S:=fun w'=>cl6 w' gb1 (V I a1_0) (V I a1_1) (V I a1_2) (O a1_3) (V I a1_4) (O a1_5)) (ds:= []) #[false,false,false,false,false,false] (by kernel_rfl) rfl rfl hh (fun hHeld=> ?_)
    generalize w1.drew=w2 at BK1 HB hHeld ⊢
    refine pu 0 (some 7) ?_
    refine tu 2 (some 9) hHeld ?_
    refine join_ (σ:=Value×Value) 2 #[true,true,true,true,false,false] (fun s_=> [(8,s_.1),(10,s_.2)]) (fun s_ w'=>(cl6 w' gb1 (V I a1_0) (V I a1_1) (V I a1_2) (O a1_3) (V I a1_4) (O a1_5))∧(Kd.R k40 40 w' w.heap.size (fun k_=>some k_≠(s_.2:Value).ownBlock∧k_≠gb1) s_.1 t1)∧(Kd.R k40 40 w' w.heap.size (fun k_=>some k_≠(s_.1:Value).ownBlock∧k_≠gb1) s_.2 y1)∧(w'.heap[gb1]? =some (.cells #[V I a1_0,V I a1_1,V I a1_2,O a1_3,V I a1_4,O a1_5] 40 (0,0)))∧(Below w.heap.size w w')) ?_ ?_
    rotate_left
    · intro hCont
      refine two_ (i:=1) (j:=3) (Ni:=some 8) (Nj:=some 10) #[true,true,true,false,false,false] #[true,false,true,true,false,false] rfl rfl rfl rfl (by kernel_rfl) (by decide) (by decide) (fun K hK=> ?_) (fun K hK=> ?_)
      · skip
        refine gs Tryd.func82 #[L A0 l0.length c0] ?_
        with_reducible refine(impl_Job_82.calls _ _ l0 t1 _ ?side1 ?side2 A1.out).mono ?_
        (case side1=>exact uC (Z HR1.out HB.out))
        (case side2=>exact HC1.out)
        rintro e w3 ⟨v1,rfl,ho1,hb⟩
        refine⟨_,rfl,?_⟩
        have HO1:=C (Kd.R_lower (Kd.R_newB ho1 (g:=gb1) (o:=.cells #[V I a1_0,V I a1_1,V I a1_2,O a1_3,V I a1_4,O a1_5] 40 (0,0)) (uK BK1.out)) (below_size uB))
        replace BK1:=eK BK1 hb
        replace HB:=eB hb
        (try clear hb)
        refine hK.out _ _ hh (fun hHeld=> ?_)
        clear hK K
        refine nu (N:=(some 8)) ?_
        refine ou 3 (some 10) (fun K hK=> ?_)
        refine Kd.R_lit_step k40 _ 40 ?hg (N:=10) ?hd (xs:=([(⟨a1_0,a1_1,a1_2,a1_3,a1_4,a1_5⟩:S40)]:List (S40))) (inner:= [V I a1_0,V I a1_1,V I a1_2,O a1_3,V I a1_4,O a1_5]) (ok:=fun _=>True) (okp:=fun _=>True) ?hr ?hp (fun _ hk=>hk) trivial (Below.refl _ _) (Nat.le_refl _) (by simp) ?_;(case hd=>rfl);(case hg=>rfl);(case hr=>exact Fix.hr);(case hp=>exact(Reps.c6 (show Kd.M k40 _ _ _ (⟨a1_0,a1_1,a1_2,a1_3,a1_4,a1_5⟩:S40) [V I a1_0,V I a1_1,V I a1_2,O a1_3,V I a1_4,O a1_5] from(k40_mkM _ _ _ (⟨a1_0,a1_1,a1_2,a1_3,a1_4,a1_5⟩:S40))) (Reps.none _ _)))
        intro v2 w4 ho2 hb hg_ hnew_
        clear hg_ hnew_
        (first|rw[←Ny1.out]at ho2|(simp only[Int.reduceToNat]at ho2;rw[←Ny1.out]at ho2))
        have HO2:=C (Kd.R_lower (Kd.R_newB (Kd.R_new' ho2 (Kd.R_lt (uR HO1.out))) (g:=gb1) (o:=.cells #[V I a1_0,V I a1_1,V I a1_2,O a1_3,V I a1_4,O a1_5] 40 (0,0)) (uK BK1.out)) (below_size uB))
        replace HO1:=C (Kd.R_elder' (uR HO1.out) (Kd.R_base ho2) hb)
        replace BK1:=eK BK1 hb
        replace HB:=eB hb
        clear hb ho2
        refine hK.out _ _ hh (fun hHeld=> ?_)
        clear hK K
        refine nu (N:=(some 10)) ?_
        exact norm_ (by simp only[putAll,Act.put,List.setIfInBounds_toArray,List.set_cons_zero,List.set_cons_succ]) (hCont (v1,v2) _ ⟨hHeld,(X (fR HO1.out) (fun _ hk=>⟨hk.2,hk.1.2⟩)),(X (fR HO2.out) (fun _ hk=>⟨hk.1.2,hk.2⟩)),(uK BK1.out),uB⟩)
      · skip
        refine Kd.R_lit_step k40 _ 40 ?hg (N:=10) ?hd (xs:=([(⟨a1_0,a1_1,a1_2,a1_3,a1_4,a1_5⟩:S40)]:List (S40))) (inner:= [V I a1_0,V I a1_1,V I a1_2,O a1_3,V I a1_4,O a1_5]) (ok:=fun _=>True) (okp:=fun _=>True) ?hr ?hp (fun _ hk=>hk) trivial (Below.refl _ _) (Nat.le_refl _) (by simp) ?_;(case hd=>rfl);(case hg=>rfl);(case hr=>exact Fix.hr);(case hp=>exact(Reps.c6 (show Kd.M k40 _ _ _ (⟨a1_0,a1_1,a1_2,a1_3,a1_4,a1_5⟩:S40) [V I a1_0,V I a1_1,V I a1_2,O a1_3,V I a1_4,O a1_5] from(k40_mkM _ _ _ (⟨a1_0,a1_1,a1_2,a1_3,a1_4,a1_5⟩:S40))) (Reps.none _ _)))
        intro v1 w3 ho1 hb hg_ hnew_
        clear hg_ hnew_
        (first|rw[←Ny1.out]at ho1|(simp only[Int.reduceToNat]at ho1;rw[←Ny1.out]at ho1))
        have HO1:=C (Kd.R_lower (Kd.R_newB ho1 (g:=gb1) (o:=.cells #[V I a1_0,V I a1_1,V I a1_2,O a1_3,V I a1_4,O a1_5] 40 (0,0)) (uK BK1.out)) (below_size uB))
        replace BK1:=eK BK1 hb
        replace HB:=eB hb
        clear hb ho1
        refine hK.out _ _ hh (fun hHeld=> ?_)
        clear hK K
        refine nu (N:=(some 10)) ?_
        refine ou 1 (some 8) (fun K hK=> ?_)
        refine gs Tryd.func82 #[L A0 l0.length c0] ?_
        with_reducible refine(impl_Job_82.calls _ _ l0 t1 _ ?side1 ?side2 A1.out).mono ?_
        (case side1=>exact uC (Z HR1.out HB.out))
        (case side2=>exact HC1.out)
        rintro e w4 ⟨v2,rfl,ho2,hb⟩
        refine⟨_,rfl,?_⟩
        have HO2:=C (Kd.R_lower (Kd.R_newB (Kd.R_new' ho2 (Kd.R_lt (uR HO1.out))) (g:=gb1) (o:=.cells #[V I a1_0,V I a1_1,V I a1_2,O a1_3,V I a1_4,O a1_5] 40 (0,0)) (uK BK1.out)) (below_size uB))
        replace HO1:=C (Kd.R_elder' (uR HO1.out) (Kd.R_base ho2) hb)
        replace BK1:=eK BK1 hb
        replace HB:=eB hb
        (try clear hb)
        refine hK.out _ _ hh (fun hHeld=> ?_)
        clear hK K
        refine nu (N:=(some 8)) ?_
        exact norm_ (by simp only[putAll,Act.put,List.setIfInBounds_toArray,List.set_cons_zero,List.set_cons_succ]) (hCont (v2,v1) _ ⟨hHeld,(X (fR HO2.out) (fun _ hk=>⟨hk.1.2,hk.2⟩)),(X (fR HO1.out) (fun _ hk=>⟨hk.2,hk.1.2⟩)),(uK BK1.out),uB⟩)
    rintro⟨v1,v2⟩ w3 ⟨hS_,h1_,h2_,h3_,h4_⟩
    have n0_:D (Kd.R k40 40 w3 w.heap.size (fun k_=>qm k_ v2∧k_≠gb1) v1 t1):=⟨h1_⟩
    have n1_:D (Kd.R k40 40 w3 w.heap.size (fun k_=>qm k_ v1∧k_≠gb1) v2 y1):=⟨h2_⟩
    have n2_:D (w3.heap[gb1]? =some (.cells #[V I a1_0,V I a1_1,V I a1_2,O a1_3,V I a1_4,O a1_5] 40 (0,0))):=⟨h3_⟩
    have n3_:D (Below w.heap.size w w3):=⟨h4_⟩
    clear BK1
    clear HB
    clear h1_ h2_ h3_ h4_
    have HO1:=n0_
    have HO2:=n1_
    have BK1:=n2_
    have HB:=n3_
    clear n0_ n1_ n2_ n3_
    have hHeld:w3.cell? ⟨gb1,0,none⟩=some (V I a1_0)∧w3.cell? ⟨gb1,1,none⟩=some (V I a1_1)∧w3.cell? ⟨gb1,2,none⟩=some (V I a1_2)∧w3.cell? ⟨gb1,3,none⟩=some (O a1_3)∧w3.cell? ⟨gb1,4,none⟩=some (V I a1_4)∧w3.cell? ⟨gb1,5,none⟩=some (O a1_5):=hS_
    obtain⟨Ao1,co1,eo1⟩:=Kd.R_slice HO2.out
    (first|subst eo1|(injection eo1 with f1_ f2_ f3_;have f4_:=f1_.symm;have f5_:=f3_.symm;clear f1_ f2_ f3_;subst f4_;subst f5_))
    refine norm_ (a':= ?_) ?_ ?_
    rotate_left
    · simp only[putAll,Act.put,List.setIfInBounds_toArray,List.set_cons_zero,List.set_cons_succ]
      rfl
    refine ou 4 (some 11) (fun K hK=> ?_)
    refine Kd.R_append_rows_step k40 (w0:=w) w.heap.size (by rfl) (.tmp 8) (.tmp 10) 38 40 (G #[(V I 0),(V I 0),(V I 0),(O false),(V I 0),(O false)]) 48 rfl Tryd.underlying38 info40 rfl (by decide) (by omega) v1 t1 y1 _ _ _ (fun k_=>qn k_ Ao1 y1.length co1∧k_≠gb1) (fun _=>False) rfl rfl ?aO ?aR (fun _ _ h=>h) (fun _ h=>h.elim) ?aF ?aB ?aS ?aL ?_
    (case aR=>exact uC (Kd.R_reads' HO2.out).2.2)
    (case aB=>exact uB)
    (case aF=>exact(fun k_ hk=>⟨Kd.fresh' (Kd.R_lt (uR HO2.out)) k_ hk,Kd.freshB (g:=gb1) (o:=.cells #[V I a1_0,V I a1_1,V I a1_2,O a1_3,V I a1_4,O a1_5] 40 (0,0)) (uK BK1.out) k_ hk⟩))
    (case aO=>exact(uR HO1.out))
    (case aS=>exact(below_size uB))
    (case aL=>have:=LMc1.out;omega)
    intro v3 w4 ho hb hg hat
    rw[←Ny2.out]at ho
    have HO3:=C (ho)
    replace BK1:=gK BK1 hg (Kd.R_away HO1.out (fun _ hk=>hk.2))
    replace HO2:=C (Kd.R_after (ok:=(fun k_=>k_≠gb1)) (X (fR HO2.out) (fun _ hk=>⟨hk.2,hk.1⟩)) hg hat)
    replace HB:=C (hb)
    clear HO1
    clear ho hb hg hat
    refine hK.out _ _ hh (fun hHeld=> ?_)
    clear hK K
    refine nu (N:=(some 11)) ?_
    refine pu 5 (some 6) ?_
    refine done_ (by kernel_rfl) ?_
    first
      | (try go_wp2_with (first | ((with_reducible refine F (f := 70) rfl ?_); refine gl 70 (some 13) Tryd.func70 #[L A0 l0.length c0] ?_; (with_reducible refine (impl_JobsOk.calls k _ _ l0 true _ ?side1 ?side2 A2.out).mono ?_); (case side1 => exact uC (Z HR1.out HB.out)); (case side2 => exact HC1.out); rintro e w5 ⟨rfl, hb⟩; refine ⟨_, rfl, ?_⟩; replace HO2 := eR HO2 hb; replace HO3 := eR HO3 hb; replace BK1 := eK BK1 hb; replace HB := eB hb; clear hb; obtain ⟨Ao2, co2, eo2⟩ := Kd.R_slice HO3.out; subst eo2) | (go_at_call 70; (with_reducible refine (impl_JobsOk.calls k _ _ y2 true _ ?side1 ?side2 A3.out).mono ?_); (case side1 => exact uC (Kd.R_reads' HO3.out).2.2); (case side2 => exact (Kd.R_reads' HO3.out).2.1); rintro e w6 ⟨rfl, hb⟩; replace HO2 := eR HO2 hb; replace HO3 := eR HO3 hb; replace BK1 := eK BK1 hb; replace HB := eB hb; clear hb))
         go_ret2
         exact⟨_,rE,X (fR HO3.out) (fun _ hk=>trivial),uB⟩)
      | (try go_wp2_with (first | ((with_reducible refine F (f := 70) rfl ?_); refine gl 70 (some 13) Tryd.func70 #[L A0 l0.length c0] ?_; (with_reducible refine (impl_JobsOk.calls k _ _ l0 true _ ?side1 ?side2 A2.out).mono ?_); (case side1 => exact uC (Z HR1.out HB.out)); (case side2 => exact HC1.out); rintro e w5 ⟨rfl, hb⟩; refine ⟨_, rfl, ?_⟩; replace HO2 := eR HO2 hb; replace HO3 := eR HO3 hb; replace BK1 := eK BK1 hb; replace HB := eB hb; clear hb; obtain ⟨Ao2, co2, eo2⟩ := Kd.R_slice HO3.out; subst eo2) | (go_at_call 70; (with_reducible refine (impl_JobsOk.calls k _ _ y2 false _ ?side1 ?side2 A3.out).mono ?_); (case side1 => exact uC (Kd.R_reads' HO3.out).2.2); (case side2 => exact (Kd.R_reads' HO3.out).2.1); rintro e w6 ⟨rfl, hb⟩; replace HO2 := eR HO2 hb; replace HO3 := eR HO3 hb; replace BK1 := eK BK1 hb; replace HB := eB hb; clear hb) | ((with_reducible refine F (f := 82) rfl ?_); refine gl 82 (some 21) Tryd.func82 #[L A0 l0.length c0] ?_; (with_reducible refine (impl_Job_82.calls _ _ l0 t4 _ ?side1 ?side2 A4.out).mono ?_); (case side1 => exact uC (Z HR1.out HB.out)); (case side2 => exact HC1.out); rintro e w7 ⟨v4, rfl, ho1, hb⟩; refine ⟨_, rfl, ?_⟩; have HO4 := C (Kd.R_lower (Kd.R_newB (Kd.R_new' (Kd.R_new' ho1 (Kd.R_lt (uR HO2.out))) (Kd.R_lt (uR HO3.out))) (g := gb1) (o := .cells #[V I a1_0, V I a1_1, V I a1_2, O a1_3, V I a1_4, O a1_5] 40 (0, 0)) (uK BK1.out)) (below_size uB)); replace HO2 := C (Kd.R_elder' (uR HO2.out) (Kd.R_base ho1) hb); replace HO3 := C (Kd.R_elder' (uR HO3.out) (Kd.R_base ho1) hb); replace BK1 := eK BK1 hb; replace HB := eB hb; clear hb ho1))
         go_ret2
         exact⟨_,rE,X (fR HO4.out) (fun _ hk=>trivial),uB⟩)):p:=h
theorem impl_AddJob.calls (k:Nat) (A0:Option Addr) (c0:Nat) (l0:List (S40)) (a1_0:Int) (a1_1:Int) (a1_2:Int) (a1_3:Bool) (a1_4:Int) (a1_5:Bool) (r1:List (S40)) (r2:Bool) (w:World) (hr0:Kd.C k40 w A0 l0.length l0) (hc0:l0.length≤c0) (h:impl_AddJob.f k l0 a1_0 a1_1 a1_2 a1_3 a1_4 a1_5=some (r1,r2)):
 Calls Tryd.prog 84 #[L A0 l0.length c0,G #[V I a1_0,V I a1_1,V I a1_2,O a1_3,V I a1_4,O a1_5]] w fun e w'=>∃v0_:Value,e=.returned (.tuple #[v0_,O r2])∧Kd.R k40 40 w' w.heap.size (fun _=>True) v0_ r1∧Below w.heap.size w w':=by
 have hu1:=Tryd.underlying40
 have HR1:=C hr0
 have HC1:=C hc0
 (try clear hr0);(try clear hc0)
 have HB:=C (Below.refl w.heap.size w)
 have H:=h
 unfold impl_AddJob.f at H
 clear h
 obtain⟨t1,A1,H⟩:=bnd H
 obtain⟨y1,hy1⟩:∃y_:List (S40),y_=(([(⟨a1_0,a1_1,a1_2,a1_3,a1_4,a1_5⟩:S40)]:List (S40))):=⟨_,rfl⟩
 replace H:(if t1.length+y1.length<2932031007402 then((some (t1++y1:List (S40))).bind fun y2=>((impl_JobsOk.f k l0).bind fun t2=>(if t2=true then((impl_JobsOk.f k y2).bind fun t3=>(if t3=true then(some (y2,true)) else((impl_Job_82.f l0).bind fun t4=>(some (t4,false))))) else((impl_Job_82.f l0).bind fun t5=>(some (t5,false)))))) else(none))=some (r1,r2):=gy hy1 H
 have Ny1:=C hy1
 clear hy1
 obtain⟨c1,H⟩:=np H
 have LMc1:=C c1
 clear c1
 obtain⟨y2,hy2⟩:∃y_:List (S40),y_=(t1++y1):=⟨_,rfl⟩
 replace H:((impl_JobsOk.f k l0).bind fun t2=>(if t2=true then((impl_JobsOk.f k y2).bind fun t3=>(if t3=true then(some (y2,true)) else((impl_Job_82.f l0).bind fun t4=>(some (t4,false))))) else((impl_Job_82.f l0).bind fun t5=>(some (t5,false)))))=some (r1,r2):=gy hy2 H
 have Ny2:=C hy2
 clear hy2
 obtain⟨t2,A2,H⟩:=bnd H
 by_cases c2:t2=true
 ·subst c2
  rw[if_pos rfl]at H
  obtain⟨t3,A3,H⟩:=bnd H
  by_cases c3:t3=true
  ·subst c3
   rw[if_pos rfl]at H
   simp only[Option.some.injEq,Prod.mk.injEq]at H
   obtain⟨rfl,rfl⟩:=H
   exact impl_AddJob.W1
  replace c3:=Bool.eq_false_iff.mpr c3
  subst c3
  rw[if_neg Bool.false_ne_true]at H
  obtain⟨t4,A4,H⟩:=bnd H
  simp only[Option.some.injEq,Prod.mk.injEq]at H
  obtain⟨rfl,rfl⟩:=H
  exact impl_AddJob.W1
 replace c2:=Bool.eq_false_iff.mpr c2
 subst c2
 rw[if_neg Bool.false_ne_true]at H
 obtain⟨t5,A3,H⟩:=bnd H
 simp only[Option.some.injEq,Prod.mk.injEq]at H
 obtain⟨rfl,rfl⟩:=H
 go_enter Tryd.func84,Tryd.ntmps84
 try go_wp2_with (first|((with_reducible refine J (N:=3) rfl ?_);refine Fix.be 3 #[V I a1_0,V I a1_1,V I a1_2,O a1_3,V I a1_4,O a1_5] 40 ?_;intro gb1 hg w1 BK1 hb;have GW1:D (w.heap.size≤gb1):=gE hg;have GE1:=GW1;replace HB:=eB hb;clear hb hg))
 replace BK1:=dK BK1
 replace HB:=dB HB
 refine start_ (n:=6) (S:=fun w'=>cl6 w' gb1 (V I a1_0) (V I a1_1) (V I a1_2) (O a1_3) (V I a1_4) (O a1_5)) (ds:= []) #[false,false,false,false,false,false] (by kernel_rfl) rfl rfl hh (fun hHeld=> ?_)
 generalize w1.drew=w2 at BK1 HB hHeld ⊢
 refine pu 0 (some 7) ?_
 refine tu 2 (some 9) hHeld ?_
 refine join_ (σ:=Value×Value) 2 #[true,true,true,true,false,false] (fun s_=> [(8,s_.1),(10,s_.2)]) (fun s_ w'=>(cl6 w' gb1 (V I a1_0) (V I a1_1) (V I a1_2) (O a1_3) (V I a1_4) (O a1_5))∧(Kd.R k40 40 w' w.heap.size (fun k_=>some k_≠(s_.2:Value).ownBlock∧k_≠gb1) s_.1 t1)∧(Kd.R k40 40 w' w.heap.size (fun k_=>some k_≠(s_.1:Value).ownBlock∧k_≠gb1) s_.2 y1)∧(w'.heap[gb1]? =some (.cells #[V I a1_0,V I a1_1,V I a1_2,O a1_3,V I a1_4,O a1_5] 40 (0,0)))∧(Below w.heap.size w w')) ?_ ?_
 rotate_left
 ·intro hCont
  refine two_ (i:=1) (j:=3) (Ni:=some 8) (Nj:=some 10) #[true,true,true,false,false,false] #[true,false,true,true,false,false] rfl rfl rfl rfl (by kernel_rfl) (by decide) (by decide) (fun K hK=> ?_) (fun K hK=> ?_)
  ·skip
   refine gs Tryd.func82 #[L A0 l0.length c0] ?_
   with_reducible refine(impl_Job_82.calls _ _ l0 t1 _ ?side1 ?side2 A1.out).mono ?_
   (case side1=>exact uC (Z HR1.out HB.out))
   (case side2=>exact HC1.out)
   rintro e w3 ⟨v1,rfl,ho1,hb⟩
   refine⟨_,rfl,?_⟩
   have HO1:=C (Kd.R_lower (Kd.R_newB ho1 (g:=gb1) (o:=.cells #[V I a1_0,V I a1_1,V I a1_2,O a1_3,V I a1_4,O a1_5] 40 (0,0)) (uK BK1.out)) (below_size uB))
   replace BK1:=eK BK1 hb
   replace HB:=eB hb
   (try clear hb)
   refine hK.out _ _ hh (fun hHeld=> ?_)
   clear hK K
   refine nu (N:=(some 8)) ?_
   refine ou 3 (some 10) (fun K hK=> ?_)
   refine Kd.R_lit_step k40 _ 40 ?hg (N:=10) ?hd (xs:=([(⟨a1_0,a1_1,a1_2,a1_3,a1_4,a1_5⟩:S40)]:List (S40))) (inner:= [V I a1_0,V I a1_1,V I a1_2,O a1_3,V I a1_4,O a1_5]) (ok:=fun _=>True) (okp:=fun _=>True) ?hr ?hp (fun _ hk=>hk) trivial (Below.refl _ _) (Nat.le_refl _) (by simp) ?_;(case hd=>rfl);(case hg=>rfl);(case hr=>exact Fix.hr);(case hp=>exact(Reps.c6 (show Kd.M k40 _ _ _ (⟨a1_0,a1_1,a1_2,a1_3,a1_4,a1_5⟩:S40) [V I a1_0,V I a1_1,V I a1_2,O a1_3,V I a1_4,O a1_5] from(k40_mkM _ _ _ (⟨a1_0,a1_1,a1_2,a1_3,a1_4,a1_5⟩:S40))) (Reps.none _ _)))
   intro v2 w4 ho2 hb hg_ hnew_
   clear hg_ hnew_
   (first|rw[←Ny1.out]at ho2|(simp only[Int.reduceToNat]at ho2;rw[←Ny1.out]at ho2))
   have HO2:=C (Kd.R_lower (Kd.R_newB (Kd.R_new' ho2 (Kd.R_lt (uR HO1.out))) (g:=gb1) (o:=.cells #[V I a1_0,V I a1_1,V I a1_2,O a1_3,V I a1_4,O a1_5] 40 (0,0)) (uK BK1.out)) (below_size uB))
   replace HO1:=C (Kd.R_elder' (uR HO1.out) (Kd.R_base ho2) hb)
   replace BK1:=eK BK1 hb
   replace HB:=eB hb
   clear hb ho2
   refine hK.out _ _ hh (fun hHeld=> ?_)
   clear hK K
   refine nu (N:=(some 10)) ?_
   exact norm_ (by simp only[putAll,Act.put,List.setIfInBounds_toArray,List.set_cons_zero,List.set_cons_succ]) (hCont (v1,v2) _ ⟨hHeld,(X (fR HO1.out) (fun _ hk=>⟨hk.2,hk.1.2⟩)),(X (fR HO2.out) (fun _ hk=>⟨hk.1.2,hk.2⟩)),(uK BK1.out),uB⟩)
  ·skip
   refine Kd.R_lit_step k40 _ 40 ?hg (N:=10) ?hd (xs:=([(⟨a1_0,a1_1,a1_2,a1_3,a1_4,a1_5⟩:S40)]:List (S40))) (inner:= [V I a1_0,V I a1_1,V I a1_2,O a1_3,V I a1_4,O a1_5]) (ok:=fun _=>True) (okp:=fun _=>True) ?hr ?hp (fun _ hk=>hk) trivial (Below.refl _ _) (Nat.le_refl _) (by simp) ?_;(case hd=>rfl);(case hg=>rfl);(case hr=>exact Fix.hr);(case hp=>exact(Reps.c6 (show Kd.M k40 _ _ _ (⟨a1_0,a1_1,a1_2,a1_3,a1_4,a1_5⟩:S40) [V I a1_0,V I a1_1,V I a1_2,O a1_3,V I a1_4,O a1_5] from(k40_mkM _ _ _ (⟨a1_0,a1_1,a1_2,a1_3,a1_4,a1_5⟩:S40))) (Reps.none _ _)))
   intro v1 w3 ho1 hb hg_ hnew_
   clear hg_ hnew_
   (first|rw[←Ny1.out]at ho1|(simp only[Int.reduceToNat]at ho1;rw[←Ny1.out]at ho1))
   have HO1:=C (Kd.R_lower (Kd.R_newB ho1 (g:=gb1) (o:=.cells #[V I a1_0,V I a1_1,V I a1_2,O a1_3,V I a1_4,O a1_5] 40 (0,0)) (uK BK1.out)) (below_size uB))
   replace BK1:=eK BK1 hb
   replace HB:=eB hb
   clear hb ho1
   refine hK.out _ _ hh (fun hHeld=> ?_)
   clear hK K
   refine nu (N:=(some 10)) ?_
   refine ou 1 (some 8) (fun K hK=> ?_)
   refine gs Tryd.func82 #[L A0 l0.length c0] ?_
   with_reducible refine(impl_Job_82.calls _ _ l0 t1 _ ?side1 ?side2 A1.out).mono ?_
   (case side1=>exact uC (Z HR1.out HB.out))
   (case side2=>exact HC1.out)
   rintro e w4 ⟨v2,rfl,ho2,hb⟩
   refine⟨_,rfl,?_⟩
   have HO2:=C (Kd.R_lower (Kd.R_newB (Kd.R_new' ho2 (Kd.R_lt (uR HO1.out))) (g:=gb1) (o:=.cells #[V I a1_0,V I a1_1,V I a1_2,O a1_3,V I a1_4,O a1_5] 40 (0,0)) (uK BK1.out)) (below_size uB))
   replace HO1:=C (Kd.R_elder' (uR HO1.out) (Kd.R_base ho2) hb)
   replace BK1:=eK BK1 hb
   replace HB:=eB hb
   (try clear hb)
   refine hK.out _ _ hh (fun hHeld=> ?_)
   clear hK K
   refine nu (N:=(some 8)) ?_
   exact norm_ (by simp only[putAll,Act.put,List.setIfInBounds_toArray,List.set_cons_zero,List.set_cons_succ]) (hCont (v2,v1) _ ⟨hHeld,(X (fR HO2.out) (fun _ hk=>⟨hk.1.2,hk.2⟩)),(X (fR HO1.out) (fun _ hk=>⟨hk.2,hk.1.2⟩)),(uK BK1.out),uB⟩)
 rintro⟨v1,v2⟩ w3 ⟨hS_,h1_,h2_,h3_,h4_⟩
 have n0_:D (Kd.R k40 40 w3 w.heap.size (fun k_=>qm k_ v2∧k_≠gb1) v1 t1):=⟨h1_⟩
 have n1_:D (Kd.R k40 40 w3 w.heap.size (fun k_=>qm k_ v1∧k_≠gb1) v2 y1):=⟨h2_⟩
 have n2_:D (w3.heap[gb1]? =some (.cells #[V I a1_0,V I a1_1,V I a1_2,O a1_3,V I a1_4,O a1_5] 40 (0,0))):=⟨h3_⟩
 have n3_:D (Below w.heap.size w w3):=⟨h4_⟩
 clear BK1
 clear HB
 clear h1_ h2_ h3_ h4_
 have HO1:=n0_
 have HO2:=n1_
 have BK1:=n2_
 have HB:=n3_
 clear n0_ n1_ n2_ n3_
 have hHeld:w3.cell? ⟨gb1,0,none⟩=some (V I a1_0)∧w3.cell? ⟨gb1,1,none⟩=some (V I a1_1)∧w3.cell? ⟨gb1,2,none⟩=some (V I a1_2)∧w3.cell? ⟨gb1,3,none⟩=some (O a1_3)∧w3.cell? ⟨gb1,4,none⟩=some (V I a1_4)∧w3.cell? ⟨gb1,5,none⟩=some (O a1_5):=hS_
 obtain⟨Ao1,co1,eo1⟩:=Kd.R_slice HO2.out
 (first|subst eo1|(injection eo1 with f1_ f2_ f3_;have f4_:=f1_.symm;have f5_:=f3_.symm;clear f1_ f2_ f3_;subst f4_;subst f5_))
 refine norm_ (a':= ?_) ?_ ?_
 rotate_left
 ·simp only[putAll,Act.put,List.setIfInBounds_toArray,List.set_cons_zero,List.set_cons_succ]
  rfl
 refine ou 4 (some 11) (fun K hK=> ?_)
 refine Kd.R_append_rows_step k40 (w0:=w) w.heap.size (by rfl) (.tmp 8) (.tmp 10) 38 40 (G #[(V I 0),(V I 0),(V I 0),(O false),(V I 0),(O false)]) 48 rfl Tryd.underlying38 info40 rfl (by decide) (by omega) v1 t1 y1 _ _ _ (fun k_=>qn k_ Ao1 y1.length co1∧k_≠gb1) (fun _=>False) rfl rfl ?aO ?aR (fun _ _ h=>h) (fun _ h=>h.elim) ?aF ?aB ?aS ?aL ?_
 (case aR=>exact uC (Kd.R_reads' HO2.out).2.2)
 (case aB=>exact uB)
 (case aF=>exact(fun k_ hk=>⟨Kd.fresh' (Kd.R_lt (uR HO2.out)) k_ hk,Kd.freshB (g:=gb1) (o:=.cells #[V I a1_0,V I a1_1,V I a1_2,O a1_3,V I a1_4,O a1_5] 40 (0,0)) (uK BK1.out) k_ hk⟩))
 (case aO=>exact(uR HO1.out))
 (case aS=>exact(below_size uB))
 (case aL=>have:=LMc1.out;omega)
 intro v3 w4 ho hb hg hat
 rw[←Ny2.out]at ho
 have HO3:=C (ho)
 replace BK1:=gK BK1 hg (Kd.R_away HO1.out (fun _ hk=>hk.2))
 replace HO2:=C (Kd.R_after (ok:=(fun k_=>k_≠gb1)) (X (fR HO2.out) (fun _ hk=>⟨hk.2,hk.1⟩)) hg hat)
 replace HB:=C (hb)
 clear HO1
 clear ho hb hg hat
 refine hK.out _ _ hh (fun hHeld=> ?_)
 clear hK K
 refine nu (N:=(some 11)) ?_
 refine pu 5 (some 6) ?_
 refine done_ (by kernel_rfl) ?_
 try go_wp2_with (first|((with_reducible refine F (f:=70) rfl ?_);refine gl 70 (some 13) Tryd.func70 #[L A0 l0.length c0] ?_;(with_reducible refine(impl_JobsOk.calls k _ _ l0 false _ ?side1 ?side2 A2.out).mono ?_);(case side1=>exact uC (Z HR1.out HB.out));(case side2=>exact HC1.out);rintro e w5 ⟨rfl,hb⟩;refine⟨_,rfl,?_⟩;replace HO2:=eR HO2 hb;replace HO3:=eR HO3 hb;replace BK1:=eK BK1 hb;replace HB:=eB hb;clear hb)|((with_reducible refine F (f:=82) rfl ?_);refine gl 82 (some 21) Tryd.func82 #[L A0 l0.length c0] ?_;(with_reducible refine(impl_Job_82.calls _ _ l0 t5 _ ?side1 ?side2 A3.out).mono ?_);(case side1=>exact uC (Z HR1.out HB.out));(case side2=>exact HC1.out);rintro e w6 ⟨v4,rfl,ho1,hb⟩;refine⟨_,rfl,?_⟩;have HO4:=C (Kd.R_lower (Kd.R_newB (Kd.R_new' (Kd.R_new' ho1 (Kd.R_lt (uR HO2.out))) (Kd.R_lt (uR HO3.out))) (g:=gb1) (o:=.cells #[V I a1_0,V I a1_1,V I a1_2,O a1_3,V I a1_4,O a1_5] 40 (0,0)) (uK BK1.out)) (below_size uB));replace HO2:=C (Kd.R_elder' (uR HO2.out) (Kd.R_base ho1) hb);replace HO3:=C (Kd.R_elder' (uR HO3.out) (Kd.R_base ho1) hb);replace BK1:=eK BK1 hb;replace HB:=eB hb;clear hb ho1))
 go_ret2
 exact⟨_,rE,X (fR HO4.out) (fun _ hk=>trivial),uB⟩
def impl_bit.f (a0:Bool):Option (Int):=if a0=true then(some 1) else(some 0)
theorem impl_bit.W1 {p:Prop} (h:p:=by
 go_enter Tryd.func85,Tryd.ntmps85
 go_wp2
 go_ret
 exact⟨by first|rfl|(simp;done)|(simp[*];done),by repeat(first|exact Drawn0.refl _|apply Drawn0.step)⟩):p:=h
theorem impl_bit.calls (a0:Bool) (r:Int) (w:World) (h:impl_bit.f a0=some r):
 Calls Tryd.prog 85 #[O a0] w fun e w'=>e=.returned (V I r)∧Drawn0 w w':=by
 have H:=h
 unfold impl_bit.f at H
 clear h
 by_cases c1:a0=true
 ·subst c1
  rw[if_pos rfl]at H
  obtain rfl:=Option.some.inj H
  exact impl_bit.W1
 replace c1:=Bool.eq_false_iff.mpr c1
 subst c1
 rw[if_neg Bool.false_ne_true]at H
 obtain rfl:=Option.some.inj H
 exact impl_bit.W1
end Go.Proofs.YtblceimapaenlaaDoor.PFnActParts
