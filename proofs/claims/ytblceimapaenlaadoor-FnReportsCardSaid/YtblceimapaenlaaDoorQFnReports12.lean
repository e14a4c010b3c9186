/- FnReports: the functions that the law reaches, each as a plain Lean function, and that a call does what it says. Made by a program of this work (wip/mp.py) out of the kit's print. No condition. -/
import Derived.Test.YtblceimapaenlaaDoorQFnReports0
import Derived.Test.YtblceimapaenlaaDoorQFnReports2
import Derived.Test.YtblceimapaenlaaDoorQFnReports10
import Derived.Test.YtblceimapaenlaaDoorQFnReports11
namespace Go.Proofs.YtblceimapaenlaaDoor.PFnReports
open Go.RowKit Go.Proofs.YtblceimapaenlaaDoorW.PrintWords Go.Proofs.YtblceimapaenlaaDoorW.PrintLast Go.Proofs.YtblceimapaenlaaDoorW.PrintMore
open Fix (bK bnd cl14 cr14 d14 dB dK dQ dR eB eK eQ eR fR gE gl gs hh lR nu ou pu rE rN tQ tR tu uB uC wB wR)
open Go.Value renaming int→V,slice→L,bool→O
open Go.IntKind renaming i64→I
open Go.Proofs.YtblceimapaenlaaDoorW.PrintWords.Aside0 renaming mk→C
attribute [local go_sem] max2_int min2_int max_two min_two max_three min_three max_four min_four
attribute [local go_sem] Fix.isSome_setCell
set_option linter.unusedVariables false
set_option linter.unusedSimpArgs false
def impl_FormatMachine.f (k:Nat) (l0_0:List (S40)) (a0_1:Int) (a0_2:Int) (a0_3:Int) (a0_4:Bool) (a0_5:Int) (a0_6:Bool) (a0_7:Int) (a0_8:Int) (l0_9:List Int) (l0_10:List Int) (a0_11:Int) (a0_12:Bool) (a0_13:Int):Option (List ByteArray):=(impl_MachineOk.f k l0_0 a0_1 a0_2 a0_3 a0_4 a0_5 a0_6 a0_7 a0_8 l0_9 l0_10 a0_11 a0_12 a0_13).bind fun t651=>(if t651=true then((impl_FormatInt.f (l0_0.length:Int)).bind fun t652=>(if 5+t652.size≤9223372036854775807 then((impl_FormatInt.f a0_1).bind fun t653=>(if 4+t653.size≤9223372036854775807 then((impl_FormatInt.f (l0_10.length:Int)).bind fun t654=>(if 4+t654.size≤9223372036854775807 then((impl_FormatInt.f a0_11).bind fun t655=>(if 7+t655.size≤9223372036854775807 then((impl_FormatInt.f (wrap64 (a0_13+(l0_10.length:Int)))).bind fun t656=>(if 8+t656.size≤9223372036854775807 then(some (([(⟨#[106,111,98,115,32]⟩:ByteArray)++t652,(⟨#[110,111,119,32]⟩:ByteArray)++t653,(⟨#[111,117,116,32]⟩:ByteArray)++t654,(⟨#[119,97,115,116,101,100,32]⟩:ByteArray)++t655,(⟨#[112,114,105,110,116,101,100,32]⟩:ByteArray)++t656]:List ByteArray))) else(none))) else(none))) else(none))) else(none))) else(none))) else(some ([]:List ByteArray)))
theorem impl_FormatMachine.mono:∀a0 a1 a2 a3 a4 a5 a6 a7 a8 a9 a10 a11 a12 a13 k,LeO (impl_FormatMachine.f k a0 a1 a2 a3 a4 a5 a6 a7 a8 a9 a10 a11 a12 a13) (impl_FormatMachine.f (k+1) a0 a1 a2 a3 a4 a5 a6 a7 a8 a9 a10 a11 a12 a13):=by
 intro a0 a1 a2 a3 a4 a5 a6 a7 a8 a9 a10 a11 a12 a13 k
 unfold impl_FormatMachine.f
 repeat' first|(with_reducible first|apply impl_MachineOk.mono|exact LeO.refl _|exact LeO.none _|refine LeO.ite ?_ ?_|refine LeO.bind ?_ (fun _=> ?_))|exact LeO.none _|refine LeO.ite ?_ ?_|refine LeO.bind ?_ (fun _=> ?_)
def impl_FormatMachine.T3:Bool×List (List Nat×List Nat):=(true,[([],[]),([0],[0]),([1],[1]),([2],[2]),([3],[3]),([],[]),([5],[5]),([6],[6]),([7,3],[7]),([8],[8]),([],[]),([10],[10]),([11],[11]),([12],[12]),([13,8],[13]),([14],[14]),([],[]),([16],[16]),([17],[17]),([18,14],[18]),([19],[19]),([],[]),([21],[21]),([],[]),([23],[23]),([24],[24]),([25],[25]),([22,26],[22,26]),([27,19],[27]),([28],[28]),([4,9,15,20,29],[4,9,15,20,29]),([30,28,0,1,2,3,4,5,6,7,8,9,10,11,12,13,14,15,16,17,18,19,20,21,22,23,24,25,26,27,28,29,30],[30])])
def impl_FormatMachine.B3:List Nat:= [0,1,3,7,15,0,32,96,239,495,0,1024,3072,7168,15855,32239,0,65536,196608,490991,1015279,0,2097152,0,8388608,25165824,58720256,132120576,267353583,535789039,1073741823,2147483647]
theorem impl_FormatMachine.tab3:rtab .any (opsOf Tryd.f18 3)=impl_FormatMachine.T3:=by kernel_rfl
theorem impl_FormatMachine.bits3:waitsOk impl_FormatMachine.T3.2 impl_FormatMachine.B3=true:=by kernel_rfl
set_option maxHeartbeats 40000000 in
set_option maxRecDepth 100000 in
theorem impl_FormatMachine.calls (k:Nat) (A0_0:Option Addr) (c0_0:Nat) (l0_0:List (S40)) (a0_1:Int) (a0_2:Int) (a0_3:Int) (a0_4:Bool) (a0_5:Int) (a0_6:Bool) (a0_7:Int) (a0_8:Int) (A0_9:Option Addr) (c0_9:Nat) (l0_9:List Int) (A0_10:Option Addr) (c0_10:Nat) (l0_10:List Int) (a0_11:Int) (a0_12:Bool) (a0_13:Int) (r:List ByteArray) (w:World) (hr0_0:Kd.C k40 w A0_0 l0_0.length l0_0) (hc0_0:l0_0.length≤c0_0) (hr0_9:Kd.C (Kd.int .i64) w A0_9 l0_9.length l0_9) (hc0_9:l0_9.length≤c0_9) (hr0_10:Kd.C (Kd.int .i64) w A0_10 l0_10.length l0_10) (hc0_10:l0_10.length≤c0_10) (h:impl_FormatMachine.f k l0_0 a0_1 a0_2 a0_3 a0_4 a0_5 a0_6 a0_7 a0_8 l0_9 l0_10 a0_11 a0_12 a0_13=some r) (hTab:Ito.Tab w):
  Calls Tryd.prog 18 #[.agg #[L A0_0 l0_0.length c0_0,V I a0_1,V I a0_2,V I a0_3,O a0_4,V I a0_5,O a0_6,V I a0_7,V I a0_8,L A0_9 l0_9.length c0_9,L A0_10 l0_10.length c0_10,V I a0_11,O a0_12,V I a0_13]] w fun e w'=>∃v0_:Value,e=.returned (v0_)∧Kd.R Kd.string 9 w' w.heap.size (fun _=>True) v0_ r∧Below w.heap.size w w':=by
 replace hTab:=C hTab
 have hu1:=Tryd.underlying45
 have HR1_0:=C hr0_0
 have HC1_0:=C hc0_0
 (try clear hr0_0);(try clear hc0_0)
 have HR1_9:=C hr0_9
 have HC1_9:=C hc0_9
 (try clear hr0_9);(try clear hc0_9)
 have HR1_10:=C hr0_10
 have HC1_10:=C hc0_10
 (try clear hr0_10);(try clear hc0_10)
 have HB:=C (Below.refl w.heap.size w)
 have H:=h
 unfold impl_FormatMachine.f at H
 clear h
 obtain⟨t1,A1,H⟩:=bnd H
 by_cases c1:t1=true
 ·subst c1
  rw[if_pos rfl]at H
  obtain⟨t2,A2,H⟩:=bnd H
  by_cases c2:5+t2.size≤9223372036854775807
  ·rw[if_pos c2]at H
   have c2b0:=eq_true c2
   have c2b1:decide (5+t2.size≤9223372036854775807)=true:=decide_eq_true c2
   try have c2b2:(9223372036854775807<5+t2.size)=False:=eq_false (Nat.not_lt.2 c2)
   try(have h1_:=c2;simp only[ByteArray.size_append,Ito.bsz,List.size_toArray,List.length_cons,List.length_nil]at h1_;have c2b3:=eq_false (Nat.not_lt.2 h1_);clear h1_)
   obtain⟨t3,A3,H⟩:=bnd H
   by_cases c3:4+t3.size≤9223372036854775807
   ·rw[if_pos c3]at H
    have c3b0:=eq_true c3
    have c3b1:decide (4+t3.size≤9223372036854775807)=true:=decide_eq_true c3
    try have c3b2:(9223372036854775807<4+t3.size)=False:=eq_false (Nat.not_lt.2 c3)
    try(have h1_:=c3;simp only[ByteArray.size_append,Ito.bsz,List.size_toArray,List.length_cons,List.length_nil]at h1_;have c3b3:=eq_false (Nat.not_lt.2 h1_);clear h1_)
    obtain⟨t4,A4,H⟩:=bnd H
    by_cases c4:4+t4.size≤9223372036854775807
    ·rw[if_pos c4]at H
     have c4b0:=eq_true c4
     have c4b1:decide (4+t4.size≤9223372036854775807)=true:=decide_eq_true c4
     try have c4b2:(9223372036854775807<4+t4.size)=False:=eq_false (Nat.not_lt.2 c4)
     try(have h1_:=c4;simp only[ByteArray.size_append,Ito.bsz,List.size_toArray,List.length_cons,List.length_nil]at h1_;have c4b3:=eq_false (Nat.not_lt.2 h1_);clear h1_)
     obtain⟨t5,A5,H⟩:=bnd H
     by_cases c5:7+t5.size≤9223372036854775807
     ·rw[if_pos c5]at H
      have c5b0:=eq_true c5
      have c5b1:decide (7+t5.size≤9223372036854775807)=true:=decide_eq_true c5
      try have c5b2:(9223372036854775807<7+t5.size)=False:=eq_false (Nat.not_lt.2 c5)
      try(have h1_:=c5;simp only[ByteArray.size_append,Ito.bsz,List.size_toArray,List.length_cons,List.length_nil]at h1_;have c5b3:=eq_false (Nat.not_lt.2 h1_);clear h1_)
      obtain⟨t6,A6,H⟩:=bnd H
      by_cases c6:8+t6.size≤9223372036854775807
      ·rw[if_pos c6]at H
       have c6b0:=eq_true c6
       have c6b1:decide (8+t6.size≤9223372036854775807)=true:=decide_eq_true c6
       try have c6b2:(9223372036854775807<8+t6.size)=False:=eq_false (Nat.not_lt.2 c6)
       try(have h1_:=c6;simp only[ByteArray.size_append,Ito.bsz,List.size_toArray,List.length_cons,List.length_nil]at h1_;have c6b3:=eq_false (Nat.not_lt.2 h1_);clear h1_)
       obtain⟨y1,hy1⟩:∃y_:List ByteArray,y_=(([(⟨#[106,111,98,115,32]⟩:ByteArray)++t2,(⟨#[110,111,119,32]⟩:ByteArray)++t3,(⟨#[111,117,116,32]⟩:ByteArray)++t4,(⟨#[119,97,115,116,101,100,32]⟩:ByteArray)++t5,(⟨#[112,114,105,110,116,101,100,32]⟩:ByteArray)++t6]:List ByteArray)):=⟨_,rfl⟩
       replace H:(some y1)=some r:=by first|(rw[hy1];with_reducible exact H)|(have H1_:=(Option.bind_some _ _).symm.trans H;rw[hy1];with_reducible exact H1_)|(have H1_:=(Option.bind_some _ _).symm.trans H;with_reducible exact H1_)|with_reducible exact H|(rw[hy1];exact H)|exact H
       have Ny1:=C hy1
       clear hy1
       obtain rfl:=Option.some.inj H
       go_enter Tryd.func18,Tryd.ntmps18
       try go_wp2_with (first|((with_reducible refine gate_dst (N:=1) rfl ?_);refine Fix.be 1 #[L A0_0 l0_0.length c0_0,V I a0_1,V I a0_2,V I a0_3,O a0_4,V I a0_5,O a0_6,V I a0_7,V I a0_8,L A0_9 l0_9.length c0_9,L A0_10 l0_10.length c0_10,V I a0_11,O a0_12,V I a0_13] 45 ?_;intro gb1 hg w1 BK1 hb;have GW1:Aside0 (w.heap.size≤gb1):=gE hg;have GE1:=GW1;replace HB:=eB hb;clear hb hg;have h_:=d14 BK1.out;(repeat(obtain⟨_,h_⟩:=h_)))|((with_reducible refine gate_callee (f:=42) rfl ?_);refine gl 42 (some 4) Tryd.func42 #[.agg #[L A0_0 l0_0.length c0_0,V I a0_1,V I a0_2,V I a0_3,O a0_4,V I a0_5,O a0_6,V I a0_7,V I a0_8,L A0_9 l0_9.length c0_9,L A0_10 l0_10.length c0_10,V I a0_11,O a0_12,V I a0_13]] ?_;(with_reducible refine(impl_MachineOk.calls k _ _ l0_0 a0_1 a0_2 a0_3 a0_4 a0_5 a0_6 a0_7 a0_8 _ _ l0_9 _ _ l0_10 a0_11 a0_12 a0_13 true _ ?side1 ?side2 ?side3 ?side4 ?side5 ?side6 A1.out).mono ?_);(case side1=>exact uC (Kd.C_below HR1_0.out HB.out));(case side2=>exact HC1_0.out);(case side3=>exact uC (Kd.C_below HR1_9.out HB.out));(case side4=>exact HC1_9.out);(case side5=>exact uC (Kd.C_below HR1_10.out HB.out));(case side6=>exact HC1_10.out);rintro e w2 ⟨rfl,hb⟩;refine⟨_,rfl,?_⟩;replace BK1:=eK BK1 hb;replace HB:=eB hb;clear hb))
       replace BK1:=dK BK1
       replace HB:=dB HB
       refine start_ (n:=32) (S:=fun w'=>cl14 w' gb1 (L A0_0 l0_0.length c0_0) (V I a0_1) (V I a0_2) (V I a0_3) (O a0_4) (V I a0_5) (O a0_6) (V I a0_7) (V I a0_8) (L A0_9 l0_9.length c0_9) (L A0_10 l0_10.length c0_10) (V I a0_11) (O a0_12) (V I a0_13)) (ds:= []) #[false,false,false,false,false,false,false,false,false,false,false,false,false,false,false,false,false,false,false,false,false,false,false,false,false,false,false,false,false,false,false,false] (by kernel_rfl) rfl rfl hh (fun hHeld=> ?_);refine with_tabW impl_FormatMachine.tab3 impl_FormatMachine.bits3 (fun HT_ HW_=> ?_)
       generalize w2.drew=w3 at BK1 HB hHeld ⊢
       refine pu 0 (some 6) ?_
       refine pu 5 (some 11) ?_
       refine pu 6 (some 12) ?_
       refine pu 10 (some 16) ?_
       refine pu 11 (some 17) ?_
       refine pu 16 (some 22) ?_
       refine pu 17 (some 23) ?_
       refine pu 21 (some 27) ?_
       refine pu 23 (some 29) ?_
       refine pu 24 (some 30) ?_
       refine tu 1 (some 7) hHeld ?_
       refine pu 2 (some 8) ?_
       refine tu 7 (some 13) hHeld ?_
       refine tu 12 (some 18) hHeld ?_
       refine pu 13 (some 19) ?_
       refine tu 18 (some 24) hHeld ?_
       refine tu 22 (some 28) hHeld ?_
       refine tu 25 (some 31) hHeld ?_
       refine pu 26 (some 32) ?_
       refine pu 27 (some 33) ?_
       refine ou 3 (some 9) (fun K hK=> ?_)
       refine gs Tryd.func19 #[V I (l0_0.length:Int)] ?_
       with_reducible refine(impl_FormatInt.calls (l0_0.length:Int) t2 _ A2.out (Ito.on hTab.out uB)).mono ?_
       rintro e w4 ⟨rfl,hb⟩
       refine⟨_,rfl,?_⟩
       replace BK1:=eK BK1 hb
       replace HB:=eB hb
       (try clear hb)
       refine hK.out _ _ hh (fun hHeld=> ?_)
       clear hK K
       refine nu (N:=(some 9)) ?_
       refine pu 4 (some 10) ?_
       refine ou 8 (some 14) (fun K hK=> ?_)
       refine gs Tryd.func19 #[V I a0_1] ?_
       with_reducible refine(impl_FormatInt.calls a0_1 t3 _ A3.out (Ito.on hTab.out uB)).mono ?_
       rintro e w5 ⟨rfl,hb⟩
       refine⟨_,rfl,?_⟩
       replace BK1:=eK BK1 hb
       replace HB:=eB hb
       (try clear hb)
       refine hK.out _ _ hh (fun hHeld=> ?_)
       clear hK K
       refine nu (N:=(some 14)) ?_
       refine pu 9 (some 15) ?_
       refine ou 14 (some 20) (fun K hK=> ?_)
       refine gs Tryd.func19 #[V I (l0_10.length:Int)] ?_
       with_reducible refine(impl_FormatInt.calls (l0_10.length:Int) t4 _ A4.out (Ito.on hTab.out uB)).mono ?_
       rintro e w6 ⟨rfl,hb⟩
       refine⟨_,rfl,?_⟩
       replace BK1:=eK BK1 hb
       replace HB:=eB hb
       (try clear hb)
       refine hK.out _ _ hh (fun hHeld=> ?_)
       clear hK K
       refine nu (N:=(some 20)) ?_
       refine pu 15 (some 21) ?_
       refine ou 19 (some 25) (fun K hK=> ?_)
       refine gs Tryd.func19 #[V I a0_11] ?_
       with_reducible refine(impl_FormatInt.calls a0_11 t5 _ A5.out (Ito.on hTab.out uB)).mono ?_
       rintro e w7 ⟨rfl,hb⟩
       refine⟨_,rfl,?_⟩
       replace BK1:=eK BK1 hb
       replace HB:=eB hb
       (try clear hb)
       refine hK.out _ _ hh (fun hHeld=> ?_)
       clear hK K
       refine nu (N:=(some 25)) ?_
       refine pu 20 (some 26) ?_
       refine ou 28 (some 34) (fun K hK=> ?_)
       refine gs Tryd.func19 #[V I (wrap64 (a0_13+(l0_10.length:Int)))] ?_
       with_reducible refine(impl_FormatInt.calls (wrap64 (a0_13+(l0_10.length:Int))) t6 _ A6.out (Ito.on hTab.out uB)).mono ?_
       rintro e w8 ⟨rfl,hb⟩
       refine⟨_,rfl,?_⟩
       replace BK1:=eK BK1 hb
       replace HB:=eB hb
       (try clear hb)
       refine hK.out _ _ hh (fun hHeld=> ?_)
       clear hK K
       refine nu (N:=(some 34)) ?_
       refine pu 29 (some 35) ?_
       refine ou 30 (some 36) (fun K hK=> ?_)
       refine Kd.R_lit_step Kd.string _ 9 ?hg (N:=36) ?hd (xs:=([(⟨#[106,111,98,115,32]⟩:ByteArray)++t2,(⟨#[110,111,119,32]⟩:ByteArray)++t3,(⟨#[111,117,116,32]⟩:ByteArray)++t4,(⟨#[119,97,115,116,101,100,32]⟩:ByteArray)++t5,(⟨#[112,114,105,110,116,101,100,32]⟩:ByteArray)++t6]:List ByteArray)) (inner:= [.string ((⟨#[106,111,98,115,32]⟩:ByteArray)++t2),.string ((⟨#[110,111,119,32]⟩:ByteArray)++t3),.string ((⟨#[111,117,116,32]⟩:ByteArray)++t4),.string ((⟨#[119,97,115,116,101,100,32]⟩:ByteArray)++t5),.string ((⟨#[112,114,105,110,116,101,100,32]⟩:ByteArray)++t6)]) (ok:=fun _=>True) (okp:=fun _=>True) ?hr ?hp (fun _ hk=>hk) trivial (Below.refl _ _) (Nat.le_refl _) (by simp) ?_;(case hd=>rfl);(case hg=>rfl);(case hr=>exact Fix.hr);(case hp=>exact(Reps.one (show Kd.M Kd.string _ _ _ ((⟨#[106,111,98,115,32]⟩:ByteArray)++t2) [.string ((⟨#[106,111,98,115,32]⟩:ByteArray)++t2)] from rfl) (Reps.one (show Kd.M Kd.string _ _ _ ((⟨#[110,111,119,32]⟩:ByteArray)++t3) [.string ((⟨#[110,111,119,32]⟩:ByteArray)++t3)] from rfl) (Reps.one (show Kd.M Kd.string _ _ _ ((⟨#[111,117,116,32]⟩:ByteArray)++t4) [.string ((⟨#[111,117,116,32]⟩:ByteArray)++t4)] from rfl) (Reps.one (show Kd.M Kd.string _ _ _ ((⟨#[119,97,115,116,101,100,32]⟩:ByteArray)++t5) [.string ((⟨#[119,97,115,116,101,100,32]⟩:ByteArray)++t5)] from rfl) (Reps.one (show Kd.M Kd.string _ _ _ ((⟨#[112,114,105,110,116,101,100,32]⟩:ByteArray)++t6) [.string ((⟨#[112,114,105,110,116,101,100,32]⟩:ByteArray)++t6)] from rfl) (Reps.none _ _)))))))
       intro v1 w9 ho1 hb hg_ hnew_
       clear hg_ hnew_
       (first|rw[←Ny1.out]at ho1|(simp only[Int.reduceToNat]at ho1;rw[←Ny1.out]at ho1))
       have HO1:=lR ho1
       replace BK1:=eK BK1 hb
       replace HB:=eB hb
       clear hb ho1
       refine hK.out _ _ hh (fun hHeld=> ?_)
       clear hK K
       refine nu (N:=(some 36)) ?_
       refine pu 31 (some 2) ?_
       refine done_ (done_of HT_.out (by kernel_rfl)) ?_
       try go_wp2
       go_ret
       exact⟨_,rE,fR HO1.out,uB⟩
      ·rw[if_neg c6]at H
       exact absurd H (by simp)
     ·rw[if_neg c5]at H
      exact absurd H (by simp)
    ·rw[if_neg c4]at H
     exact absurd H (by simp)
   ·rw[if_neg c3]at H
    exact absurd H (by simp)
  ·rw[if_neg c2]at H
   exact absurd H (by simp)
 ·replace c1:=Bool.eq_false_iff.mpr c1
  subst c1
  rw[if_neg Bool.false_ne_true]at H
  obtain rfl:=Option.some.inj H
  go_enter Tryd.func18,Tryd.ntmps18
  go_wp2_with (first|((with_reducible refine gate_dst (N:=1) rfl ?_);refine Fix.be 1 #[L A0_0 l0_0.length c0_0,V I a0_1,V I a0_2,V I a0_3,O a0_4,V I a0_5,O a0_6,V I a0_7,V I a0_8,L A0_9 l0_9.length c0_9,L A0_10 l0_10.length c0_10,V I a0_11,O a0_12,V I a0_13] 45 ?_;intro gb1 hg w1 BK1 hb;have GW1:Aside0 (w.heap.size≤gb1):=gE hg;have GE1:=GW1;replace HB:=eB hb;clear hb hg;have h_:=d14 BK1.out;(repeat(obtain⟨_,h_⟩:=h_)))|((with_reducible refine gate_callee (f:=42) rfl ?_);refine gl 42 (some 4) Tryd.func42 #[.agg #[L A0_0 l0_0.length c0_0,V I a0_1,V I a0_2,V I a0_3,O a0_4,V I a0_5,O a0_6,V I a0_7,V I a0_8,L A0_9 l0_9.length c0_9,L A0_10 l0_10.length c0_10,V I a0_11,O a0_12,V I a0_13]] ?_;(with_reducible refine(impl_MachineOk.calls k _ _ l0_0 a0_1 a0_2 a0_3 a0_4 a0_5 a0_6 a0_7 a0_8 _ _ l0_9 _ _ l0_10 a0_11 a0_12 a0_13 false _ ?side1 ?side2 ?side3 ?side4 ?side5 ?side6 A1.out).mono ?_);(case side1=>exact uC (Kd.C_below HR1_0.out HB.out));(case side2=>exact HC1_0.out);(case side3=>exact uC (Kd.C_below HR1_9.out HB.out));(case side4=>exact HC1_9.out);(case side5=>exact uC (Kd.C_below HR1_10.out HB.out));(case side6=>exact HC1_10.out);rintro e w2 ⟨rfl,hb⟩;refine⟨_,rfl,?_⟩;replace BK1:=eK BK1 hb;replace HB:=eB hb;clear hb))
  go_ret
  exact⟨_,rE,rN,uB⟩
def laws_FnReports.f (k:Nat) (l0:List Int):Option (Bool):=(laws_big.f l0).bind fun t660=>(if t660=true then(some true) else((spec_DrawActs.f k l0).bind fun bt661=>((impl_FormatMachine.f k bt661.1 bt661.2.1 bt661.2.2.1 bt661.2.2.2.1 bt661.2.2.2.2.1 bt661.2.2.2.2.2.1 bt661.2.2.2.2.2.2.1 bt661.2.2.2.2.2.2.2.1 bt661.2.2.2.2.2.2.2.2.1 bt661.2.2.2.2.2.2.2.2.2.1 bt661.2.2.2.2.2.2.2.2.2.2.1 bt661.2.2.2.2.2.2.2.2.2.2.2.1 bt661.2.2.2.2.2.2.2.2.2.2.2.2.1 bt661.2.2.2.2.2.2.2.2.2.2.2.2.2.1).bind fun t685=>(if(t685.length:Int)=5 then(if 0<(t685.length:Int) then((impl_FormatInt.f (bt661.1.length:Int)).bind fun t689=>(if 5+t689.size≤9223372036854775807 then(if(rdOf ByteArray.empty t685 0).toList=((⟨#[106,111,98,115,32]⟩:ByteArray)++t689).toList then(if 2<(t685.length:Int) then((impl_FormatInt.f (bt661.2.2.2.2.2.2.2.2.2.2.1.length:Int)).bind fun t691=>(if 4+t691.size≤9223372036854775807 then(if(rdOf ByteArray.empty t685 2).toList=((⟨#[111,117,116,32]⟩:ByteArray)++t691).toList then(if 4<(t685.length:Int) then((impl_FormatInt.f (wrap64 (bt661.2.2.2.2.2.2.2.2.2.2.2.2.2.1+(bt661.2.2.2.2.2.2.2.2.2.2.1.length:Int)))).bind fun t693=>(if 8+t693.size≤9223372036854775807 then(some ((rdOf ByteArray.empty t685 4).toList==((⟨#[112,114,105,110,116,101,100,32]⟩:ByteArray)++t693).toList)) else(none))) else(none)) else(some false)) else(none))) else(none)) else(some false)) else(none))) else(none)) else(some false)))))
theorem laws_FnReports.mono:∀a0 k,LeO (laws_FnReports.f k a0) (laws_FnReports.f (k+1) a0):=by
 intro a0 k
 unfold laws_FnReports.f
 repeat' first|(with_reducible first|apply impl_FormatMachine.mono|apply spec_DrawActs.mono|exact LeO.refl _|exact LeO.none _|refine LeO.ite ?_ ?_|refine LeO.bind ?_ (fun _=> ?_))|exact LeO.none _|refine LeO.ite ?_ ?_|refine LeO.bind ?_ (fun _=> ?_)
def laws_FnReports.T5:Bool×List (List Nat×List Nat):=(true,[([],[]),([0],[0]),([1],[1]),([2],[2]),([3],[3]),([4,3],[3,4]),([5,3],[3,5]),([3],[3]),([7,3],[3,7]),([8,3],[3,8]),([9,3,3],[3,9]),([10,3],[3,10]),([6,11,3],[3,6,11]),([3,12],[3,12]),([13,10],[13]),([14],[14]),([15,14],[14,15]),([16,14],[14,16]),([14],[14]),([18,14],[14,18]),([19,14],[14,19]),([20,14],[14,20]),([21,14,14],[14,21]),([22,14],[14,22]),([17,23,14],[14,17,23]),([14,24],[14,24]),([25,22],[25]),([26],[26]),([27,26],[26,27]),([28,26],[26,28]),([26],[26]),([30,26],[26,30]),([26],[26]),([32,26],[26,32]),([33,26],[26,33]),([34,26],[26,34]),([31,35,26],[26,31,35]),([36,26,26],[26,36]),([37,26],[26,37]),([29,38,26],[26,29,38]),([26,39],[26,39]),([40,37,0,1,2,3,4,5,6,7,8,9,10,11,12,13,14,15,16,17,18,19,20,21,22,23,24,25,26,27,28,29,30,31,32,33,34,35,36,37,38,39,40],[40])])
def laws_FnReports.B5:List Nat:= [0,1,3,7,15,31,63,15,143,399,911,1935,4095,8191,16383,32767,65535,131071,32767,294911,819199,1867775,3964927,8159231,16777215,33554431,67108863,134217727,268435455,536870911,134217727,1207959551,134217727,4429185023,13019119615,30198988799,67779952639,136499429375,273938382847,549755813887,1099511627775,2199023255551]
theorem laws_FnReports.tab5:rtab .any (opsOf Tryd.f5 5)=laws_FnReports.T5:=by kernel_rfl
theorem laws_FnReports.bits5:waitsOk laws_FnReports.T5.2 laws_FnReports.B5=true:=by kernel_rfl
set_option maxHeartbeats 40000000 in
set_option maxRecDepth 100000 in
theorem laws_FnReports.calls (k:Nat) (A0:Option Addr) (c0:Nat) (l0:List Int) (r:Bool) (w:World) (hr0:Kd.C (Kd.int .u8) w A0 l0.length l0) (hc0:l0.length≤c0) (hT:r=true) (h:laws_FnReports.f k l0=some r) (hTab:Ito.Tab w):
  Calls Tryd.prog 5 #[L A0 l0.length c0] w fun e w'=>e=.returned (O r)∧Below w.heap.size w w':=by
 replace hTab:=C hTab
 have hu1:=Tryd.underlying45
 have HR1:=C hr0
 have HC1:=C hc0
 (try clear hr0);(try clear hc0)
 replace hT:=C hT
 have HB:=C (Below.refl w.heap.size w)
 have H:=h
 unfold laws_FnReports.f at H
 clear h
 obtain⟨t1,A1,H⟩:=bnd H
 by_cases c1:t1=true
 ·subst c1
  rw[if_pos rfl]at H
  obtain rfl:=Option.some.inj H
  go_enter Tryd.func5,Tryd.ntmps5
  go_wp2_with (first|((with_reducible refine gate_callee (f:=16) rfl ?_);refine gl 16 (some 7) Tryd.func16 #[L A0 l0.length c0] ?_;(with_reducible refine(laws_big.calls _ _ l0 true _ ?side1 ?side2 A1.out).mono ?_);(case side1=>exact uC HR1.out);(case side2=>exact HC1.out);rintro e w' ⟨rfl,⟨nd,rfl⟩⟩;refine⟨_,rfl,?_⟩))
  go_ret
  exact⟨rE,uB⟩
 ·replace c1:=Bool.eq_false_iff.mpr c1
  subst c1
  rw[if_neg Bool.false_ne_true]at H
  obtain⟨⟨t2,t3,t4,t5,t6,t7,t8,t9,t10,t11,t12,t13,t14,t15,t16⟩,A2,H⟩:=bnd H
  dsimp only at H
  obtain⟨t17,A3,H⟩:=bnd H
  by_cases c2:(t17.length:Int)=5
  ·rw[if_pos c2]at H
   have c2b0:((t17.length:Int)==5)=true:=beq_iff_eq.mpr c2
   have c2b1:((t17.length:Int) !=5)=false:=bne_eq_false_iff_eq.mpr c2
   clear c2
   by_cases c3:0<(t17.length:Int)
   ·rw[if_pos c3]at H
    have c3b0:decide (0<(t17.length:Int))=true:=decide_eq_true c3
    have c3b1:decide (0<t17.length)=true:=decide_eq_true (by omega)
    clear c3
    obtain⟨t18,A4,H⟩:=bnd H
    by_cases c4:5+t18.size≤9223372036854775807
    ·rw[if_pos c4]at H
     have c4b0:=eq_true c4
     have c4b1:decide (5+t18.size≤9223372036854775807)=true:=decide_eq_true c4
     try have c4b2:(9223372036854775807<5+t18.size)=False:=eq_false (Nat.not_lt.2 c4)
     try(have h1_:=c4;simp only[ByteArray.size_append,Ito.bsz,List.size_toArray,List.length_cons,List.length_nil]at h1_;have c4b3:=eq_false (Nat.not_lt.2 h1_);clear h1_)
     by_cases c5:(rdOf ByteArray.empty t17 0).toList=((⟨#[106,111,98,115,32]⟩:ByteArray)++t18).toList
     ·rw[if_pos c5]at H
      have c5b0:((rdOf ByteArray.empty t17 0).toList==((⟨#[106,111,98,115,32]⟩:ByteArray)++t18).toList)=true:=beq_iff_eq.mpr c5
      have c5b1:((rdOf ByteArray.empty t17 0).toList !=((⟨#[106,111,98,115,32]⟩:ByteArray)++t18).toList)=false:=bne_eq_false_iff_eq.mpr c5
      clear c5
      by_cases c6:2<(t17.length:Int)
      ·rw[if_pos c6]at H
       have c6b0:decide (2<(t17.length:Int))=true:=decide_eq_true c6
       have c6b1:decide (2<t17.length)=true:=decide_eq_true (by omega)
       clear c6
       obtain⟨t19,A5,H⟩:=bnd H
       by_cases c7:4+t19.size≤9223372036854775807
       ·rw[if_pos c7]at H
        have c7b0:=eq_true c7
        have c7b1:decide (4+t19.size≤9223372036854775807)=true:=decide_eq_true c7
        try have c7b2:(9223372036854775807<4+t19.size)=False:=eq_false (Nat.not_lt.2 c7)
        try(have h1_:=c7;simp only[ByteArray.size_append,Ito.bsz,List.size_toArray,List.length_cons,List.length_nil]at h1_;have c7b3:=eq_false (Nat.not_lt.2 h1_);clear h1_)
        by_cases c8:(rdOf ByteArray.empty t17 2).toList=((⟨#[111,117,116,32]⟩:ByteArray)++t19).toList
        ·rw[if_pos c8]at H
         have c8b0:((rdOf ByteArray.empty t17 2).toList==((⟨#[111,117,116,32]⟩:ByteArray)++t19).toList)=true:=beq_iff_eq.mpr c8
         have c8b1:((rdOf ByteArray.empty t17 2).toList !=((⟨#[111,117,116,32]⟩:ByteArray)++t19).toList)=false:=bne_eq_false_iff_eq.mpr c8
         clear c8
         by_cases c9:4<(t17.length:Int)
         ·rw[if_pos c9]at H
          have c9b0:decide (4<(t17.length:Int))=true:=decide_eq_true c9
          have c9b1:decide (4<t17.length)=true:=decide_eq_true (by omega)
          clear c9
          obtain⟨t20,A6,H⟩:=bnd H
          by_cases c10:8+t20.size≤9223372036854775807
          ·rw[if_pos c10]at H
           have c10b0:=eq_true c10
           have c10b1:decide (8+t20.size≤9223372036854775807)=true:=decide_eq_true c10
           try have c10b2:(9223372036854775807<8+t20.size)=False:=eq_false (Nat.not_lt.2 c10)
           try(have h1_:=c10;simp only[ByteArray.size_append,Ito.bsz,List.size_toArray,List.length_cons,List.length_nil]at h1_;have c10b3:=eq_false (Nat.not_lt.2 h1_);clear h1_)
           obtain rfl:=Option.some.inj H
           go_enter Tryd.func5,Tryd.ntmps5
           try go_wp2_with (first|((with_reducible refine gate_callee (f:=16) rfl ?_);refine gl 16 (some 7) Tryd.func16 #[L A0 l0.length c0] ?_;(with_reducible refine(laws_big.calls _ _ l0 false _ ?side1 ?side2 A1.out).mono ?_);(case side1=>exact uC HR1.out);(case side2=>exact HC1.out);rintro e w' ⟨rfl,⟨nd,rfl⟩⟩;refine⟨_,rfl,?_⟩)|((with_reducible refine gate_callee (f:=17) rfl ?_);refine gl 17 (some 10) Tryd.func17 #[L A0 l0.length c0] ?_;(with_reducible refine(spec_DrawActs.calls k _ _ l0 t2 t3 t4 t5 t6 t7 t8 t9 t10 t11 t12 t13 t14 t15 t16 _ ?side1 ?side2 A2.out).mono ?_);(case side1=>exact uC HR1.out);(case side2=>exact HC1.out);rintro e w2 ⟨v1,v2,v3,v4,rfl,ho1,ho2,ho3,ho4,hb⟩;refine⟨_,rfl,?_⟩;have HO1:=lR ho1;have HO2:=C (Kd.Q_lower ho2 (below_size uB));have HO3:=lR ho3;have HO4:=lR ho4;replace HB:=eB hb;clear hb ho1 ho2 ho3 ho4)|((with_reducible refine gate_dst (N:=3) rfl ?_);(try(refine gate_guard (by rfl) ?_;dsimp only));refine Fix.be 3 #[L none 0 0,V I 0,V I 0,V I 0,O false,V I 0,O false,V I 0,V I 0,L none 0 0,L none 0 0,V I 0,O false,V I 0] 45 ?_;intro gb1 hg w3 BK1 hb;have GW1:Aside0 (w.heap.size≤gb1):=gE hg;have GE1:=GW1;replace HO1:=eR HO1 hb;replace HO2:=eQ HO2 hb;replace HO3:=eR HO3 hb;replace HO4:=eR HO4 hb;replace HB:=eB hb;clear hb hg;obtain⟨Ao1,co1,eo1⟩:=Kd.R_slice HO1.out;subst eo1;have h_:=d14 BK1.out;(repeat(obtain⟨_,h_⟩:=h_));obtain⟨Ao2,co2,eo2,_⟩:=Kd.Q_slice HO2.out;subst eo2;obtain⟨Ao3,co3,eo3⟩:=Kd.R_slice HO3.out;subst eo3)|((with_reducible refine gate_store (t:=45) (p:=3) rfl ?_);refine store_event (t:=45) (p:=3) (v:= ?vo_w1) (w1:=((((((((((((((w3.setCell ⟨gb1,0,none⟩ (L Ao1 t2.length co1)).setCell ⟨gb1,1,none⟩ (V I t3)).setCell ⟨gb1,2,none⟩ (V I t4)).setCell ⟨gb1,3,none⟩ (V I t5)).setCell ⟨gb1,4,none⟩ (O t6)).setCell ⟨gb1,5,none⟩ (V I t7)).setCell ⟨gb1,6,none⟩ (O t8)).setCell ⟨gb1,7,none⟩ (V I t9)).setCell ⟨gb1,8,none⟩ (V I t10)).setCell ⟨gb1,9,none⟩ (L Ao2 t11.length co2)).setCell ⟨gb1,10,none⟩ (L Ao3 t12.length co3)).setCell ⟨gb1,11,none⟩ (V I t13)).setCell ⟨gb1,12,none⟩ (O t14)).setCell ⟨gb1,13,none⟩ (V I t15))) ?hg ?ho ?hn ?hr ?_;(case ho=>rfl);(case hg=>rfl);(case hn=>rfl);(case hr=>exact Fix.hr);intro w4 hw;replace HO1:Aside0 (Kd.R _ _ _ _ (fun _=>True) _ _):=tR hw (Kd.R_types HO1.out BK1.out (by decide)) (fun _ hk=>trivial);replace HO2:Aside0 (Kd.Q _ _ _ _ (fun k_=>some k_≠(L Ao3 t12.length co3:Value).ownBlock) _ _):=tQ hw (Kd.Q_types HO2.out BK1.out (by decide)) (fun _ hk=>hk.1);replace HO3:=wR hw (Kd.R_types HO3.out BK1.out (by decide));replace HO4:Aside0 (Kd.R _ _ _ _ (fun _=>True) _ _):=tR hw (Kd.R_types HO4.out BK1.out (by decide)) (fun _ hk=>trivial);replace BK1:Aside0 (w4.heap[gb1]? =some (.cells #[L Ao1 t2.length co1,V I t3,V I t4,V I t5,O t6,V I t7,O t8,V I t9,V I t10,L Ao2 t11.length co2,L Ao3 t12.length co3,V I t13,O t14,V I t15] 45 (0,0))):=⟨(by rw[hw];exact(bK BK1.out))⟩;replace HB:=wB hw;clear hw;have h_:=d14 BK1.out;(repeat(obtain⟨_,h_⟩:=h_)))|((with_reducible refine gate_callee (f:=18) rfl ?_);refine gl 18 (some 14) Tryd.func18 #[.agg #[L Ao1 t2.length co1,V I t3,V I t4,V I t5,O t6,V I t7,O t8,V I t9,V I t10,L Ao2 t11.length co2,L Ao3 t12.length co3,V I t13,O t14,V I t15]] ?_;(with_reducible refine(impl_FormatMachine.calls k _ _ t2 t3 t4 t5 t6 t7 t8 t9 t10 _ _ t11 _ _ t12 t13 t14 t15 t17 _ ?side1 ?side2 ?side3 ?side4 ?side5 ?side6 A3.out (Ito.on hTab.out uB)).mono ?_);(case side1=>exact uC (Kd.R_reads' HO1.out).2.2);(case side2=>exact(Kd.R_reads' HO1.out).2.1);(case side3=>exact uC (Kd.Q_reads' HO2.out).2.2);(case side4=>exact(Kd.Q_reads' HO2.out).2.1);(case side5=>exact uC (Kd.R_reads' HO3.out).2.2);(case side6=>exact(Kd.R_reads' HO3.out).2.1);rintro e w5 ⟨v5,rfl,ho1,hb⟩;refine⟨_,rfl,?_⟩;have HO5:=lR ho1;replace HO1:=eR HO1 hb;replace HO2:=eQ HO2 hb;replace HO3:=eR HO3 hb;replace HO4:=eR HO4 hb;replace BK1:=eK BK1 hb;replace HB:=eB hb;clear hb ho1))
           replace HO1:=dR HO1
           replace HO2:=dQ HO2
           replace HO3:=dR HO3
           replace HO4:=dR HO4
           replace HO5:=dR HO5
           replace BK1:=dK BK1
           replace HB:=dB HB
           obtain⟨Ao4,co4,eo4⟩:=Kd.R_slice HO5.out
           (first|subst eo4|(injection eo4 with f1_ f2_ f3_;have f4_:=f1_.symm;have f5_:=f3_.symm;clear f1_ f2_ f3_;subst f4_;subst f5_))
           have p1:0≤(0:Int):=(by omega)
           have q1:0<(t17.length:Int):=of_decide_eq_true (by first|(with_reducible assumption)|assumption)
           obtain⟨ad1,e1,hx1_0⟩:=Kd.at_string (Kd.R_reads' HO5.out).2.2 0 p1 q1
           cases e1
           have qi1:(0<t17.length)=True:=eq_true (by omega)
           (try rw[show((0:Int)).toNat=0 from rfl]at hx1_0)
           (try rw[Addr.add_zero']at hx1_0)
           replace p1:=eq_true p1
           replace q1:=eq_true q1
           have p2:0≤(2:Int):=(by omega)
           have q2:2<(t17.length:Int):=of_decide_eq_true (by first|(with_reducible assumption)|assumption)
           obtain⟨ad2,e2,hx2_0⟩:=Kd.at_string (Kd.R_reads' HO5.out).2.2 2 p2 q2
           obtain rfl:ad1=ad2:=(by injection e2)
           (try simp only[show(2:Int).toNat=2 from rfl,Nat.reduceMul,Nat.reduceEqDiff,Go.Addr.add,↓reduceIte]at hx2_0)
           have qi2:(2<t17.length)=True:=eq_true (by omega)
           (try rw[show((2:Int)).toNat=2 from rfl]at hx2_0)
           replace p2:=eq_true p2
           replace q2:=eq_true q2
           have p3:0≤(4:Int):=(by omega)
           have q3:4<(t17.length:Int):=of_decide_eq_true (by first|(with_reducible assumption)|assumption)
           obtain⟨ad3,e3,hx3_0⟩:=Kd.at_string (Kd.R_reads' HO5.out).2.2 4 p3 q3
           obtain rfl:ad1=ad3:=(by injection e3)
           (try simp only[show(4:Int).toNat=4 from rfl,Nat.reduceMul,Nat.reduceEqDiff,Go.Addr.add,↓reduceIte]at hx3_0)
           have qi3:(4<t17.length)=True:=eq_true (by omega)
           (try rw[show((4:Int)).toNat=4 from rfl]at hx3_0)
           replace p3:=eq_true p3
           replace q3:=eq_true q3
           refine start_ (n:=42) (S:=fun w'=>cr14 w' gb1 (L Ao1 t2.length co1) (V I t3) (V I t4) (V I t5) (O t6) (V I t7) (O t8) (V I t9) (V I t10) (L Ao2 t11.length co2) (L Ao3 t12.length co3) (V I t13) (O t14) (V I t15) (w'.cell? ad1=some (.string (rdOf ByteArray.empty t17 0))∧w'.cell? ⟨ad1.block,ad1.off+2,none⟩=some (.string (rdOf ByteArray.empty t17 2))∧w'.cell? ⟨ad1.block,ad1.off+4,none⟩=some (.string (rdOf ByteArray.empty t17 4)))) (ds:= []) #[false,false,false,false,false,false,false,false,false,false,false,false,false,false,false,false,false,false,false,false,false,false,false,false,false,false,false,false,false,false,false,false,false,false,false,false,false,false,false,false,false,false] (by kernel_rfl) rfl rfl ⟨(blk_cell BK1.out 0).trans rfl,(blk_cell BK1.out 1).trans rfl,(blk_cell BK1.out 2).trans rfl,(blk_cell BK1.out 3).trans rfl,(blk_cell BK1.out 4).trans rfl,(blk_cell BK1.out 5).trans rfl,(blk_cell BK1.out 6).trans rfl,(blk_cell BK1.out 7).trans rfl,(blk_cell BK1.out 8).trans rfl,(blk_cell BK1.out 9).trans rfl,(blk_cell BK1.out 10).trans rfl,(blk_cell BK1.out 11).trans rfl,(blk_cell BK1.out 12).trans rfl,(blk_cell BK1.out 13).trans rfl,hx1_0,hx2_0,hx3_0⟩ (fun hHeld=> ?_);refine with_tabW laws_FnReports.tab5 laws_FnReports.bits5 (fun HT_ HW_=> ?_)
           generalize w5.drew=w6 at HO1 HO2 HO3 HO4 HO5 BK1 HB hx1_0 hx2_0 hx3_0 hHeld ⊢
           refine pu 0 (some 15) ?_
           refine pu 1 (some 16) ?_
           refine pu 2 (some 17) ?_
           refine pu 3 (some 18) ?_
           refine pu 4 (some 19) ?_
           refine pu 5 (some 20) ?_
           refine pu 7 (some 22) ?_
           refine tu 6 (some 21) hHeld ?_
           refine tu 8 (some 23) hHeld ?_
           refine pu 9 (some 24) ?_
           refine ou 10 (some 25) (fun K hK=> ?_)
           refine gs Tryd.func19 #[V I (t2.length:Int)] ?_
           with_reducible refine(impl_FormatInt.calls (t2.length:Int) t18 _ A4.out (Ito.on hTab.out uB)).mono ?_
           rintro e w7 ⟨rfl,hb⟩
           have HS1_:=(hb.cell (World.block_lt_of_cell? _ _ (hHeld.2.2.2.2.2.2.2.2.2.2.2.2.2.2.1))).trans (hHeld.2.2.2.2.2.2.2.2.2.2.2.2.2.2.1)
           have HS2_:=(hb.cell (World.block_lt_of_cell? _ _ (hHeld.2.2.2.2.2.2.2.2.2.2.2.2.2.2.2.1))).trans (hHeld.2.2.2.2.2.2.2.2.2.2.2.2.2.2.2.1)
           have HS3_:=(hb.cell (World.block_lt_of_cell? _ _ (hHeld.2.2.2.2.2.2.2.2.2.2.2.2.2.2.2.2))).trans (hHeld.2.2.2.2.2.2.2.2.2.2.2.2.2.2.2.2)
           refine⟨_,rfl,?_⟩
           replace HO1:=eR HO1 hb
           replace HO2:=eQ HO2 hb
           replace HO3:=eR HO3 hb
           replace HO4:=eR HO4 hb
           replace HO5:=eR HO5 hb
           replace BK1:=eK BK1 hb
           replace HB:=eB hb
           (try clear hb)
           refine hK.out _ _ ⟨(blk_cell BK1.out 0).trans rfl,(blk_cell BK1.out 1).trans rfl,(blk_cell BK1.out 2).trans rfl,(blk_cell BK1.out 3).trans rfl,(blk_cell BK1.out 4).trans rfl,(blk_cell BK1.out 5).trans rfl,(blk_cell BK1.out 6).trans rfl,(blk_cell BK1.out 7).trans rfl,(blk_cell BK1.out 8).trans rfl,(blk_cell BK1.out 9).trans rfl,(blk_cell BK1.out 10).trans rfl,(blk_cell BK1.out 11).trans rfl,(blk_cell BK1.out 12).trans rfl,(blk_cell BK1.out 13).trans rfl,HS1_,HS2_,HS3_⟩ (fun hHeld=> ?_)
           clear hK K
           refine nu (N:=(some 25)) ?_
           refine pu 11 (some 26) ?_
           refine pu 12 (some 27) ?_
           refine pu 13 (some 28) ?_
           refine pu 14 (some 29) ?_
           refine pu 15 (some 30) ?_
           refine pu 16 (some 31) ?_
           refine pu 18 (some 33) ?_
           refine pu 19 (some 34) ?_
           refine tu 17 (some 32) hHeld ?_
           refine tu 20 (some 35) hHeld ?_
           refine pu 21 (some 36) ?_
           refine ou 22 (some 37) (fun K hK=> ?_)
           refine gs Tryd.func19 #[V I (t12.length:Int)] ?_
           with_reducible refine(impl_FormatInt.calls (t12.length:Int) t19 _ A5.out (Ito.on hTab.out uB)).mono ?_
           rintro e w8 ⟨rfl,hb⟩
           have HS1_:=(hb.cell (World.block_lt_of_cell? _ _ (hHeld.2.2.2.2.2.2.2.2.2.2.2.2.2.2.1))).trans (hHeld.2.2.2.2.2.2.2.2.2.2.2.2.2.2.1)
           have HS2_:=(hb.cell (World.block_lt_of_cell? _ _ (hHeld.2.2.2.2.2.2.2.2.2.2.2.2.2.2.2.1))).trans (hHeld.2.2.2.2.2.2.2.2.2.2.2.2.2.2.2.1)
           have HS3_:=(hb.cell (World.block_lt_of_cell? _ _ (hHeld.2.2.2.2.2.2.2.2.2.2.2.2.2.2.2.2))).trans (hHeld.2.2.2.2.2.2.2.2.2.2.2.2.2.2.2.2)
           refine⟨_,rfl,?_⟩
           replace HO1:=eR HO1 hb
           replace HO2:=eQ HO2 hb
           replace HO3:=eR HO3 hb
           replace HO4:=eR HO4 hb
           replace HO5:=eR HO5 hb
           replace BK1:=eK BK1 hb
           replace HB:=eB hb
           (try clear hb)
           refine hK.out _ _ ⟨(blk_cell BK1.out 0).trans rfl,(blk_cell BK1.out 1).trans rfl,(blk_cell BK1.out 2).trans rfl,(blk_cell BK1.out 3).trans rfl,(blk_cell BK1.out 4).trans rfl,(blk_cell BK1.out 5).trans rfl,(blk_cell BK1.out 6).trans rfl,(blk_cell BK1.out 7).trans rfl,(blk_cell BK1.out 8).trans rfl,(blk_cell BK1.out 9).trans rfl,(blk_cell BK1.out 10).trans rfl,(blk_cell BK1.out 11).trans rfl,(blk_cell BK1.out 12).trans rfl,(blk_cell BK1.out 13).trans rfl,HS1_,HS2_,HS3_⟩ (fun hHeld=> ?_)
           clear hK K
           refine nu (N:=(some 37)) ?_
           refine pu 23 (some 38) ?_
           refine pu 24 (some 39) ?_
           refine pu 25 (some 40) ?_
           refine pu 26 (some 41) ?_
           refine pu 27 (some 42) ?_
           refine pu 28 (some 43) ?_
           refine pu 30 (some 45) ?_
           refine pu 32 (some 47) ?_
           refine pu 33 (some 48) ?_
           refine tu 29 (some 44) hHeld ?_
           refine tu 31 (some 46) hHeld ?_
           refine tu 34 (some 49) hHeld ?_
           refine pu 35 (some 50) ?_
           refine pu 36 (some 51) ?_
           refine ou 37 (some 52) (fun K hK=> ?_)
           refine gs Tryd.func19 #[V I (wrap64 (t15+(t12.length:Int)))] ?_
           with_reducible refine(impl_FormatInt.calls (wrap64 (t15+(t12.length:Int))) t20 _ A6.out (Ito.on hTab.out uB)).mono ?_
           rintro e w9 ⟨rfl,hb⟩
           have HS1_:=(hb.cell (World.block_lt_of_cell? _ _ (hHeld.2.2.2.2.2.2.2.2.2.2.2.2.2.2.1))).trans (hHeld.2.2.2.2.2.2.2.2.2.2.2.2.2.2.1)
           have HS2_:=(hb.cell (World.block_lt_of_cell? _ _ (hHeld.2.2.2.2.2.2.2.2.2.2.2.2.2.2.2.1))).trans (hHeld.2.2.2.2.2.2.2.2.2.2.2.2.2.2.2.1)
           have HS3_:=(hb.cell (World.block_lt_of_cell? _ _ (hHeld.2.2.2.2.2.2.2.2.2.2.2.2.2.2.2.2))).trans (hHeld.2.2.2.2.2.2.2.2.2.2.2.2.2.2.2.2)
           refine⟨_,rfl,?_⟩
           replace HO1:=eR HO1 hb
           replace HO2:=eQ HO2 hb
           replace HO3:=eR HO3 hb
           replace HO4:=eR HO4 hb
           replace HO5:=eR HO5 hb
           replace BK1:=eK BK1 hb
           replace HB:=eB hb
           (try clear hb)
           refine hK.out _ _ ⟨(blk_cell BK1.out 0).trans rfl,(blk_cell BK1.out 1).trans rfl,(blk_cell BK1.out 2).trans rfl,(blk_cell BK1.out 3).trans rfl,(blk_cell BK1.out 4).trans rfl,(blk_cell BK1.out 5).trans rfl,(blk_cell BK1.out 6).trans rfl,(blk_cell BK1.out 7).trans rfl,(blk_cell BK1.out 8).trans rfl,(blk_cell BK1.out 9).trans rfl,(blk_cell BK1.out 10).trans rfl,(blk_cell BK1.out 11).trans rfl,(blk_cell BK1.out 12).trans rfl,(blk_cell BK1.out 13).trans rfl,HS1_,HS2_,HS3_⟩ (fun hHeld=> ?_)
           clear hK K
           refine nu (N:=(some 52)) ?_
           refine pu 38 (some 53) ?_
           refine pu 39 (some 54) ?_
           refine pu 40 (some 55) ?_
           refine pu 41 (some 2) ?_
           refine done_ (done_of HT_.out (by kernel_rfl)) ?_
           try go_wp2
           go_ret
           exact⟨rE,uB⟩
          ·rw[if_neg c10]at H
           exact absurd H (by simp)
         ·rw[if_neg c9]at H
          exact absurd H (by simp)
        ·rw[if_neg c8]at H
         have c8b0:((rdOf ByteArray.empty t17 2).toList==((⟨#[111,117,116,32]⟩:ByteArray)++t19).toList)=false:=beq_eq_false_iff_ne.mpr c8
         have c8b1:((rdOf ByteArray.empty t17 2).toList !=((⟨#[111,117,116,32]⟩:ByteArray)++t19).toList)=true:=bne_iff_ne.mpr c8
         exact absurd (hT.out ▸ H) (by simp)
       ·rw[if_neg c7]at H
        exact absurd H (by simp)
      ·rw[if_neg c6]at H
       exact absurd H (by simp)
     ·rw[if_neg c5]at H
      have c5b0:((rdOf ByteArray.empty t17 0).toList==((⟨#[106,111,98,115,32]⟩:ByteArray)++t18).toList)=false:=beq_eq_false_iff_ne.mpr c5
      have c5b1:((rdOf ByteArray.empty t17 0).toList !=((⟨#[106,111,98,115,32]⟩:ByteArray)++t18).toList)=true:=bne_iff_ne.mpr c5
      exact absurd (hT.out ▸ H) (by simp)
    ·rw[if_neg c4]at H
     exact absurd H (by simp)
   ·rw[if_neg c3]at H
    exact absurd H (by simp)
  ·rw[if_neg c2]at H
   have c2b0:((t17.length:Int)==5)=false:=beq_eq_false_iff_ne.mpr c2
   have c2b1:((t17.length:Int) !=5)=true:=bne_iff_ne.mpr c2
   exact absurd (hT.out ▸ H) (by simp)
end Go.Proofs.YtblceimapaenlaaDoor.PFnReports
