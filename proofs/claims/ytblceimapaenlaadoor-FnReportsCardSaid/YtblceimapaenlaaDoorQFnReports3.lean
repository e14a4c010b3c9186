/- FnReports: the functions that the law reaches, each as a plain Lean function, and that a call does what it says. Made by a program of this work (wip/mp.py) out of the kit's print. No condition. -/
import Derived.Test.YtblceimapaenlaaDoorQFnReports0
import Derived.Test.YtblceimapaenlaaDoorQFnReports1
import Derived.Test.YtblceimapaenlaaDoorQFnReports2
namespace Go.Proofs.YtblceimapaenlaaDoor.PFnReports
open Go.RowKit Go.Proofs.YtblceimapaenlaaDoorW.PrintWords Go.Proofs.YtblceimapaenlaaDoorW.PrintLast Go.Proofs.YtblceimapaenlaaDoorW.PrintMore
open Fix (bK bnd cf14 cl14 cs14 d14 d4 d6 dB dK eB eK eR fR gE gl gs hh lR nG nL nu oL ou pu px rE rS tu uB uC uR)
open Go.Value renaming int→V,slice→L,bool→O,agg→G
open Go.IntKind renaming i64→I
open Go.Proofs.YtblceimapaenlaaDoorW.PrintWords.Aside0 renaming mk→C
open Go.Proofs.YtblceimapaenlaaDoorW.PrintWords renaming Aside0→D,gate_dst→J
open Go.Proofs.YtblceimapaenlaaDoorW.PrintWords.Kd renaming C_below→Z
attribute [local go_sem] max2_int min2_int max_two min_two max_three min_three max_four min_four
attribute [local go_sem] Fix.isSome_setCell
set_option linter.unusedVariables false
set_option linter.unusedSimpArgs false
attribute [local go_sem high] eqA40
def spec_MachineOk.j0:Nat→Bool→List (S40)→Int→Int→Int→Bool→Int→Bool→Int→Int→List Int→List Int→Int→Bool→Int→Option (Bool)
 |0,_,_,_,_,_,_,_,_,_,_,_,_,_,_,_=>none
 |k+1,x18,x146000,x146001,x146002,x146003,x146004,x146005,x146006,x146007,x146008,x146009,x146010,x146011,x146012,x146013=>if x18=true then(some false) else(if(x146001==0 && (x146002==0 && (x146003==0 && (!x146004 && (x146005==0 && (!x146006))))))=true then(some (x146007==0)) else((spec_JobOk.f x146001 x146002 x146003 x146004 x146005 x146006).bind fun t149=>(if t149=true then((spec_JobSheets.f k x146001 x146002 x146003 x146004 x146005 x146006).bind fun t150=>(if t150≤40 then((spec_JobSheets.f k x146001 x146002 x146003 x146004 x146005 x146006).bind fun t151=>(some (t151==x146007))) else(some false))) else(some false))))
def spec_MachineOk.f (k:Nat) (l0_0:List (S40)) (a0_1:Int) (a0_2:Int) (a0_3:Int) (a0_4:Bool) (a0_5:Int) (a0_6:Bool) (a0_7:Int) (a0_8:Int) (l0_9:List Int) (l0_10:List Int) (a0_11:Int) (a0_12:Bool) (a0_13:Int):Option (Bool):=(spec_JobsOk.f k l0_0).bind fun t146=>(if t146=true then((spec_LineOk.f k a0_7 a0_8 l0_9 l0_10 a0_11 a0_12).bind fun t147=>(if t147=true then((spec_l01In.f a0_13 0 100000).bind fun t148=>(spec_MachineOk.j0 k (!t148) l0_0 a0_1 a0_2 a0_3 a0_4 a0_5 a0_6 a0_7 a0_8 l0_9 l0_10 a0_11 a0_12 a0_13)) else(spec_MachineOk.j0 k true l0_0 a0_1 a0_2 a0_3 a0_4 a0_5 a0_6 a0_7 a0_8 l0_9 l0_10 a0_11 a0_12 a0_13))) else(spec_MachineOk.j0 k true l0_0 a0_1 a0_2 a0_3 a0_4 a0_5 a0_6 a0_7 a0_8 l0_9 l0_10 a0_11 a0_12 a0_13))
theorem spec_MachineOk.mono_l:∀k,(∀y0 y1 y2 y3 y4 y5 y6 y7 y8 y9 y10 y11 y12 y13 y14,LeO (spec_MachineOk.j0 k y0 y1 y2 y3 y4 y5 y6 y7 y8 y9 y10 y11 y12 y13 y14) (spec_MachineOk.j0 (k+1) y0 y1 y2 y3 y4 y5 y6 y7 y8 y9 y10 y11 y12 y13 y14))
 |0=>fun _ _ _ _ _ _ _ _ _ _ _ _ _ _ _ r h=>by simp[spec_MachineOk.j0]at h
 |k+1=>by
  have ih0:=spec_MachineOk.mono_l k
  ·intro y0 y1 y2 y3 y4 y5 y6 y7 y8 y9 y10 y11 y12 y13 y14
   unfold spec_MachineOk.j0
   repeat' first|(with_reducible first|apply ih0|apply spec_JobSheets.mono|apply spec_JobsOk.mono|apply spec_LineOk.mono|exact LeO.refl _|exact LeO.none _|refine LeO.ite ?_ ?_|refine LeO.bind ?_ (fun _=> ?_))|apply ih0|exact LeO.none _|refine LeO.ite ?_ ?_|refine LeO.bind ?_ (fun _=> ?_)
theorem spec_MachineOk.mono:∀a0 a1 a2 a3 a4 a5 a6 a7 a8 a9 a10 a11 a12 a13 k,LeO (spec_MachineOk.f k a0 a1 a2 a3 a4 a5 a6 a7 a8 a9 a10 a11 a12 a13) (spec_MachineOk.f (k+1) a0 a1 a2 a3 a4 a5 a6 a7 a8 a9 a10 a11 a12 a13):=by
 intro a0 a1 a2 a3 a4 a5 a6 a7 a8 a9 a10 a11 a12 a13 k
 have ih0:=spec_MachineOk.mono_l k
 unfold spec_MachineOk.f
 repeat' first|(with_reducible first|apply ih0|apply spec_JobSheets.mono|apply spec_JobsOk.mono|apply spec_LineOk.mono|exact LeO.refl _|exact LeO.none _|refine LeO.ite ?_ ?_|refine LeO.bind ?_ (fun _=> ?_))|apply ih0|exact LeO.none _|refine LeO.ite ?_ ?_|refine LeO.bind ?_ (fun _=> ?_)
def spec_MachineOk.T5:Bool×List (List Nat×List Nat):=(true,[([],[]),([0],[0]),([1],[1]),([2,2],[2]),([3],[3]),([4,3],[3,4]),([5,3,3],[3,5]),([6,3],[3,6]),([3,7],[3,7]),([8,6],[8]),([9],[9]),([10,9],[9,10]),([11,9,9],[9,11]),([9],[9]),([13,9],[9,13]),([14,9],[9,14]),([12,15,9],[9,12,15]),([9,16],[9,16]),([17,12,0,1,2,3,4,5,6,7,8,9,10,11,12,13,14,15,16,17],[17])])
def spec_MachineOk.B5:List Nat:= [0,1,3,7,15,31,63,127,255,511,1023,2047,4095,1023,9215,25599,65535,131071,262143]
theorem spec_MachineOk.tab5:rtab .any (opsOf Tryd.f46 5)=spec_MachineOk.T5:=by kernel_rfl
theorem spec_MachineOk.bits5:waitsOk spec_MachineOk.T5.2 spec_MachineOk.B5=true:=by kernel_rfl
theorem spec_MachineOk.W1 {p:Prop} (h:p:=by
  go_wp2
  go_ret
  exact⟨rE,uB⟩):p:=h
set_option maxHeartbeats 40000000 in
set_option maxRecDepth 100000 in
theorem spec_MachineOk.calls (k:Nat) (A0_0:Option Addr) (c0_0:Nat) (l0_0:List (S40)) (a0_1:Int) (a0_2:Int) (a0_3:Int) (a0_4:Bool) (a0_5:Int) (a0_6:Bool) (a0_7:Int) (a0_8:Int) (A0_9:Option Addr) (c0_9:Nat) (l0_9:List Int) (A0_10:Option Addr) (c0_10:Nat) (l0_10:List Int) (a0_11:Int) (a0_12:Bool) (a0_13:Int) (r:Bool) (w:World) (hr0_0:Kd.C k40 w A0_0 l0_0.length l0_0) (hc0_0:l0_0.length≤c0_0) (hr0_9:Kd.C (Kd.int .i64) w A0_9 l0_9.length l0_9) (hc0_9:l0_9.length≤c0_9) (hr0_10:Kd.C (Kd.int .i64) w A0_10 l0_10.length l0_10) (hc0_10:l0_10.length≤c0_10) (h:spec_MachineOk.f k l0_0 a0_1 a0_2 a0_3 a0_4 a0_5 a0_6 a0_7 a0_8 l0_9 l0_10 a0_11 a0_12 a0_13=some r):
  Calls Tryd.prog 46 #[G #[L A0_0 l0_0.length c0_0,V I a0_1,V I a0_2,V I a0_3,O a0_4,V I a0_5,O a0_6,V I a0_7,V I a0_8,L A0_9 l0_9.length c0_9,L A0_10 l0_10.length c0_10,V I a0_11,O a0_12,V I a0_13]] w fun e w'=>e=.returned (O r)∧Below w.heap.size w w':=by
 have hu1:=Tryd.underlying45
 have hu2:=Tryd.underlying43
 have hu3:=Tryd.underlying40
 have HR1_0:=C hr0_0
 have HC1_0:=C hc0_0
 (try clear hr0_0);(try clear hc0_0)
 have HR1_9:=C hr0_9
 have HC1_9:=C hc0_9
 (try clear hr0_9);(try clear hc0_9)
 have HR1_10:=C hr0_10
 have HC1_10:=C hc0_10
 (try clear hr0_10);(try clear hc0_10)
 have HB:=C (Below.refl w.heap.size w)
 have H:=h
 unfold spec_MachineOk.f at H
 clear h
 have HC2:=C H
 clear H
 go_enter Tryd.func46,Tryd.ntmps46
 go_upto_region 1 with(first|((with_reducible refine J (N:=1) rfl ?_);refine Fix.be 1 #[L A0_0 l0_0.length c0_0,V I a0_1,V I a0_2,V I a0_3,O a0_4,V I a0_5,O a0_6,V I a0_7,V I a0_8,L A0_9 l0_9.length c0_9,L A0_10 l0_10.length c0_10,V I a0_11,O a0_12,V I a0_13] 45 ?_;intro gb1 hg w1 BK1 hb;have GW1:D (w.heap.size≤gb1):=gE hg;have GE1:=GW1;replace HB:=eB hb;clear hb hg))
 (try simp only[Act.put,List.setIfInBounds_toArray,List.set_cons_zero,List.set_cons_succ])
 go_cut [18] (fun v18 wc=>∃(kq:Nat) (x1_1:Bool),v18=O x1_1∧D (spec_MachineOk.j0 kq x1_1 l0_0 a0_1 a0_2 a0_3 a0_4 a0_5 a0_6 a0_7 a0_8 l0_9 l0_10 a0_11 a0_12 a0_13=some r)∧D (kq≤k)∧D (wc.heap[gb1]? =some (.cells #[(L A0_0 l0_0.length c0_0),V I a0_1,V I a0_2,V I a0_3,O a0_4,V I a0_5,O a0_6,V I a0_7,V I a0_8,(L A0_9 l0_9.length c0_9),(L A0_10 l0_10.length c0_10),V I a0_11,O a0_12,V I a0_13] 45 (0,0)))∧D (Below w.heap.size w wc))
 case first=>
  have H:=HC2.out
  clear HC2
  obtain⟨t1,A1,H⟩:=bnd H
  by_cases c1:t1=true
  ·subst c1
   rw[if_pos rfl]at H
   obtain⟨t2,A2,H⟩:=bnd H
   by_cases c2:t2=true
   ·subst c2
    rw[if_pos rfl]at H
    obtain⟨t3,A3,H⟩:=bnd H
    have H':=C H
    clear H
    have h_:=d14 BK1.out;(repeat(obtain⟨_,h_⟩:=h_))
    go_wp2_with (first|((with_reducible refine gate_callee (f:=75) rfl ?_);refine gl 75 (some 5) Tryd.func75 #[L A0_0 l0_0.length c0_0] ?_;(with_reducible refine(spec_JobsOk.calls k _ _ l0_0 true _ ?side1 ?side2 A1.out).mono ?_);(case side1=>exact uC (Z HR1_0.out HB.out));(case side2=>exact HC1_0.out);rintro e w2 ⟨rfl,hb⟩;refine⟨_,rfl,?_⟩;replace BK1:=eK BK1 hb;replace HB:=eB hb;clear hb;obtain⟨hcz1_0,hcz1_1,hcz1_2,hcz1_3,hcz1_4,hcz1_5,hcz1_6,hcz1_7,hcz1_8,hcz1_9,hcz1_10,hcz1_11,hcz1_12,hcz1_13,hfz1_0,hfz1_1,hfz1_2,hfz1_3,hfz1_4,hfz1_5,hfz1_6,hfz1_7,hfz1_8,hfz1_9,hfz1_10,hfz1_11,hfz1_12,hfz1_13⟩:=d14 BK1.out)|(go_at_call 76;(with_reducible refine(spec_LineOk.calls k a0_7 a0_8 _ _ l0_9 _ _ l0_10 a0_11 a0_12 true _ ?side1 ?side2 ?side3 ?side4 A2.out).mono ?_);(case side1=>exact uC (Z HR1_9.out HB.out));(case side2=>exact HC1_9.out);(case side3=>exact uC (Z HR1_10.out HB.out));(case side4=>exact HC1_10.out);rintro e w3 ⟨rfl,hb⟩;replace BK1:=eK BK1 hb;replace HB:=eB hb;clear hb;have h_:=d14 BK1.out;(repeat(obtain⟨_,h_⟩:=h_)))|(go_at_call 63;(with_reducible refine(spec_l01In.calls a0_13 0 100000 t3 _ A3.out).mono ?_);rintro e w' ⟨rfl,⟨nd,rfl⟩⟩))
    go_meet
    case rel=>exact⟨_,(!t3),rS,H',⟨oL⟩,⟨bK BK1.out⟩,⟨uB⟩⟩
   ·replace c2:=Bool.eq_false_iff.mpr c2
    subst c2
    rw[if_neg Bool.false_ne_true]at H
    have H':=C H
    clear H
    obtain⟨hcz1_0,hcz1_1,hcz1_2,hcz1_3,hcz1_4,hcz1_5,hcz1_6,hcz1_7,hcz1_8,hcz1_9,hcz1_10,hcz1_11,hcz1_12,hcz1_13,hfz1_0,hfz1_1,hfz1_2,hfz1_3,hfz1_4,hfz1_5,hfz1_6,hfz1_7,hfz1_8,hfz1_9,hfz1_10,hfz1_11,hfz1_12,hfz1_13⟩:=d14 BK1.out
    go_wp2_with (first|((with_reducible refine gate_callee (f:=75) rfl ?_);refine gl 75 (some 5) Tryd.func75 #[L A0_0 l0_0.length c0_0] ?_;(with_reducible refine(spec_JobsOk.calls k _ _ l0_0 true _ ?side1 ?side2 A1.out).mono ?_);(case side1=>exact uC (Z HR1_0.out HB.out));(case side2=>exact HC1_0.out);rintro e w2 ⟨rfl,hb⟩;refine⟨_,rfl,?_⟩;replace BK1:=eK BK1 hb;replace HB:=eB hb;clear hb;obtain⟨hcz2_0,hcz2_1,hcz2_2,hcz2_3,hcz2_4,hcz2_5,hcz2_6,hcz2_7,hcz2_8,hcz2_9,hcz2_10,hcz2_11,hcz2_12,hcz2_13,hfz2_0,hfz2_1,hfz2_2,hfz2_3,hfz2_4,hfz2_5,hfz2_6,hfz2_7,hfz2_8,hfz2_9,hfz2_10,hfz2_11,hfz2_12,hfz2_13⟩:=d14 BK1.out)|(go_at_call 76;(with_reducible refine(spec_LineOk.calls k a0_7 a0_8 _ _ l0_9 _ _ l0_10 a0_11 a0_12 false _ ?side1 ?side2 ?side3 ?side4 A2.out).mono ?_);(case side1=>exact uC (Z HR1_9.out HB.out));(case side2=>exact HC1_9.out);(case side3=>exact uC (Z HR1_10.out HB.out));(case side4=>exact HC1_10.out);rintro e w3 ⟨rfl,hb⟩;replace BK1:=eK BK1 hb;replace HB:=eB hb;clear hb))
    go_meet
    case rel=>exact⟨_,(true),rS,H',⟨oL⟩,⟨bK BK1.out⟩,⟨uB⟩⟩
  ·replace c1:=Bool.eq_false_iff.mpr c1
   subst c1
   rw[if_neg Bool.false_ne_true]at H
   have H':=C H
   clear H
   obtain⟨hcz1_0,hcz1_1,hcz1_2,hcz1_3,hcz1_4,hcz1_5,hcz1_6,hcz1_7,hcz1_8,hcz1_9,hcz1_10,hcz1_11,hcz1_12,hcz1_13,hfz1_0,hfz1_1,hfz1_2,hfz1_3,hfz1_4,hfz1_5,hfz1_6,hfz1_7,hfz1_8,hfz1_9,hfz1_10,hfz1_11,hfz1_12,hfz1_13⟩:=d14 BK1.out
   go_wp2_with (first|((with_reducible refine gate_callee (f:=75) rfl ?_);refine gl 75 (some 5) Tryd.func75 #[L A0_0 l0_0.length c0_0] ?_;(with_reducible refine(spec_JobsOk.calls k _ _ l0_0 false _ ?side1 ?side2 A1.out).mono ?_);(case side1=>exact uC (Z HR1_0.out HB.out));(case side2=>exact HC1_0.out);rintro e w2 ⟨rfl,hb⟩;refine⟨_,rfl,?_⟩;replace BK1:=eK BK1 hb;replace HB:=eB hb;clear hb))
   go_meet
   case rel=>exact⟨_,(true),rS,H',⟨oL⟩,⟨bK BK1.out⟩,⟨uB⟩⟩
 case rest=>
  clear HC2
  obtain⟨kq,x1_1,rfl,HA,HJ1,BK1,HB⟩:=hcut
  cases kq with
  |zero=>exact absurd HA.out (by simp[spec_MachineOk.j0])
  |succ kj1=>
   have H:=HA.out
   clear HA
   simp only[spec_MachineOk.j0]at H
   by_cases c1:x1_1=true
   ·subst c1
    rw[if_pos rfl]at H
    obtain rfl:=Option.some.inj H
    exact spec_MachineOk.W1
   ·replace c1:=Bool.eq_false_iff.mpr c1
    subst c1
    rw[if_neg Bool.false_ne_true]at H
    by_cases c2:(a0_1==0 && (a0_2==0 && (a0_3==0 && (!a0_4 && (a0_5==0 && (!a0_6))))))=true
    ·rw[if_pos c2]at H
     have c2b0:(a0_1==0 && (a0_2==0 && (a0_3==0 && (!a0_4 && (a0_5==0 && (!a0_6))))))=true:=c2
     (try(have c2b1:decide (a0_1=0 && (a0_2==0 && (a0_3==0 && (!a0_4 && (a0_5==0 && (!a0_6))))))=true:=by simpa using c2))
     (try(have c2b2:(a0_1==0 && (a0_2==0 && (a0_3==0 && (!a0_4 && (a0_5==0 && (!a0_6))))))=true:=by simpa using c2))
     clear c2
     obtain rfl:=Option.some.inj H
     have h_:=d14 BK1.out;(repeat(obtain⟨_,h_⟩:=h_))
     exact spec_MachineOk.W1
    ·rw[if_neg c2]at H
     have c2b0:(a0_1==0 && (a0_2==0 && (a0_3==0 && (!a0_4 && (a0_5==0 && (!a0_6))))))=false:=by simpa using c2
     (try(have c2b1:decide (a0_1=0 && (a0_2==0 && (a0_3==0 && (!a0_4 && (a0_5==0 && (!a0_6))))))=false:=by simpa using c2))
     (try(have c2b2:(a0_1==0 && (a0_2==0 && (a0_3==0 && (!a0_4 && (a0_5==0 && (!a0_6))))))=false:=by simpa using c2))
     (try(have c2b3:¬(a0_1=0 && (a0_2==0 && (a0_3==0 && (!a0_4 && (a0_5==0 && (!a0_6)))))):=by simpa using c2))
     clear c2
     obtain⟨t1,A1,H⟩:=bnd H
     by_cases c3:t1=true
     ·subst c3
      rw[if_pos rfl]at H
      obtain⟨t2,A2,H⟩:=bnd H
      by_cases c4:t2≤40
      ·rw[if_pos c4]at H
       have c4b0:decide (t2≤40)=true:=decide_eq_true c4
       clear c4
       obtain⟨t3,A3,H⟩:=bnd H
       obtain rfl:=Option.some.inj H
       obtain⟨hcz1_0,hcz1_1,hcz1_2,hcz1_3,hcz1_4,hcz1_5,hcz1_6,hcz1_7,hcz1_8,hcz1_9,hcz1_10,hcz1_11,hcz1_12,hcz1_13,hfz1_0,hfz1_1,hfz1_2,hfz1_3,hfz1_4,hfz1_5,hfz1_6,hfz1_7,hfz1_8,hfz1_9,hfz1_10,hfz1_11,hfz1_12,hfz1_13⟩:=d14 BK1.out
       try go_wp2
       replace BK1:=dK BK1
       replace HB:=dB HB
       refine start_ (n:=19) (S:=fun w'=>cl14 w' gb1 (L A0_0 l0_0.length c0_0) (V I a0_1) (V I a0_2) (V I a0_3) (O a0_4) (V I a0_5) (O a0_6) (V I a0_7) (V I a0_8) (L A0_9 l0_9.length c0_9) (L A0_10 l0_10.length c0_10) (V I a0_11) (O a0_12) (V I a0_13)) (ds:= []) #[false,false,false,false,false,false,false,false,false,false,false,false,false,false,false,false,false,false,false] (by kernel_rfl) rfl rfl hh (fun hHeld=> ?_);refine with_tabW spec_MachineOk.tab5 spec_MachineOk.bits5 (fun HT_ HW_=> ?_)
       generalize wc.drew=w2 at BK1 HB hHeld ⊢
       refine pu 0 (some 27) ?_
       refine tu 1 (some 28) hHeld ?_
       refine ou 2 (some 29) (fun K hK=> ?_)
       refine gs Tryd.func61 #[G #[V I a0_1,V I a0_2,V I a0_3,O a0_4,V I a0_5,O a0_6]] ?_
       with_reducible refine(spec_JobOk.calls a0_1 a0_2 a0_3 a0_4 a0_5 a0_6 true _ A1.out).mono ?_
       rintro e w3 ⟨rfl,hb⟩
       refine⟨_,rfl,?_⟩
       replace BK1:=eK BK1 hb
       replace HB:=eB hb
       (try clear hb)
       refine hK.out _ _ hh (fun hHeld=> ?_)
       clear hK K
       refine nu (N:=(some 29)) ?_
       refine pu 3 (some 30) ?_
       refine pu 4 (some 31) ?_
       refine tu 5 (some 32) hHeld ?_
       refine ou 6 (some 33) (fun K hK=> ?_)
       refine gs Tryd.func77 #[G #[V I a0_1,V I a0_2,V I a0_3,O a0_4,V I a0_5,O a0_6]] ?_
       with_reducible refine(spec_JobSheets.calls kj1 a0_1 a0_2 a0_3 a0_4 a0_5 a0_6 t2 _ A2.out).mono ?_
       rintro e w4 ⟨rfl,hb⟩
       refine⟨_,rfl,?_⟩
       replace BK1:=eK BK1 hb
       replace HB:=eB hb
       (try clear hb)
       refine hK.out _ _ hh (fun hHeld=> ?_)
       clear hK K
       refine nu (N:=(some 33)) ?_
       refine pu 7 (some 34) ?_
       refine pu 8 (some 35) ?_
       refine pu 9 (some 36) ?_
       refine pu 10 (some 37) ?_
       refine pu 13 (some 40) ?_
       refine pu 14 (some 41) ?_
       refine tu 11 (some 38) hHeld ?_
       refine tu 15 (some 42) hHeld ?_
       refine ou 12 (some 39) (fun K hK=> ?_)
       refine gs Tryd.func77 #[G #[V I a0_1,V I a0_2,V I a0_3,O a0_4,V I a0_5,O a0_6]] ?_
       with_reducible refine(spec_JobSheets.calls kj1 a0_1 a0_2 a0_3 a0_4 a0_5 a0_6 t3 _ A3.out).mono ?_
       rintro e w5 ⟨rfl,hb⟩
       refine⟨_,rfl,?_⟩
       replace BK1:=eK BK1 hb
       replace HB:=eB hb
       (try clear hb)
       refine hK.out _ _ hh (fun hHeld=> ?_)
       clear hK K
       refine nu (N:=(some 39)) ?_
       refine pu 16 (some 43) ?_
       refine pu 17 (some 44) ?_
       refine pu 18 (some 2) ?_
       refine done_ (done_of HT_.out (by kernel_rfl)) ?_
       try go_wp2
       go_ret
       exact⟨rE,uB⟩
      ·rw[if_neg c4]at H
       have c4b0:decide (t2≤40)=false:=decide_eq_false c4
       clear c4
       obtain rfl:=Option.some.inj H
       obtain⟨hcz1_0,hcz1_1,hcz1_2,hcz1_3,hcz1_4,hcz1_5,hcz1_6,hcz1_7,hcz1_8,hcz1_9,hcz1_10,hcz1_11,hcz1_12,hcz1_13,hfz1_0,hfz1_1,hfz1_2,hfz1_3,hfz1_4,hfz1_5,hfz1_6,hfz1_7,hfz1_8,hfz1_9,hfz1_10,hfz1_11,hfz1_12,hfz1_13⟩:=d14 BK1.out
       try go_wp2
       replace BK1:=dK BK1
       replace HB:=dB HB
       refine start_ (n:=19) (S:=fun w'=>cl14 w' gb1 (L A0_0 l0_0.length c0_0) (V I a0_1) (V I a0_2) (V I a0_3) (O a0_4) (V I a0_5) (O a0_6) (V I a0_7) (V I a0_8) (L A0_9 l0_9.length c0_9) (L A0_10 l0_10.length c0_10) (V I a0_11) (O a0_12) (V I a0_13)) (ds:= []) #[false,false,false,false,false,false,false,false,false,false,false,false,false,false,false,false,false,false,false] (by kernel_rfl) rfl rfl hh (fun hHeld=> ?_);refine with_tabW spec_MachineOk.tab5 spec_MachineOk.bits5 (fun HT_ HW_=> ?_)
       generalize wc.drew=w2 at BK1 HB hHeld ⊢
       refine pu 0 (some 27) ?_
       refine tu 1 (some 28) hHeld ?_
       refine ou 2 (some 29) (fun K hK=> ?_)
       refine gs Tryd.func61 #[G #[V I a0_1,V I a0_2,V I a0_3,O a0_4,V I a0_5,O a0_6]] ?_
       with_reducible refine(spec_JobOk.calls a0_1 a0_2 a0_3 a0_4 a0_5 a0_6 true _ A1.out).mono ?_
       rintro e w3 ⟨rfl,hb⟩
       refine⟨_,rfl,?_⟩
       replace BK1:=eK BK1 hb
       replace HB:=eB hb
       (try clear hb)
       refine hK.out _ _ hh (fun hHeld=> ?_)
       clear hK K
       refine nu (N:=(some 29)) ?_
       refine pu 3 (some 30) ?_
       refine pu 4 (some 31) ?_
       refine tu 5 (some 32) hHeld ?_
       refine ou 6 (some 33) (fun K hK=> ?_)
       refine gs Tryd.func77 #[G #[V I a0_1,V I a0_2,V I a0_3,O a0_4,V I a0_5,O a0_6]] ?_
       with_reducible refine(spec_JobSheets.calls kj1 a0_1 a0_2 a0_3 a0_4 a0_5 a0_6 t2 _ A2.out).mono ?_
       rintro e w4 ⟨rfl,hb⟩
       refine⟨_,rfl,?_⟩
       replace BK1:=eK BK1 hb
       replace HB:=eB hb
       (try clear hb)
       refine hK.out _ _ hh (fun hHeld=> ?_)
       clear hK K
       refine nu (N:=(some 33)) ?_
       refine pu 7 (some 34) ?_
       refine pu 8 (some 35) ?_
       refine pu 9 (some 36) ?_
       refine px 10 (some 37) ?_
       refine px 11 (some 38) ?_
       refine px 12 (some 39) ?_
       refine px 13 (some 40) ?_
       refine px 14 (some 41) ?_
       refine px 15 (some 42) ?_
       refine px 16 (some 43) ?_
       refine pu 17 (some 44) ?_
       refine pu 18 (some 2) ?_
       refine done_ (done_of HT_.out (by kernel_rfl)) ?_
       try go_wp2
       go_ret
       exact⟨rE,uB⟩
     ·replace c3:=Bool.eq_false_iff.mpr c3
      subst c3
      rw[if_neg Bool.false_ne_true]at H
      obtain rfl:=Option.some.inj H
      have h_:=d14 BK1.out;(repeat(obtain⟨_,h_⟩:=h_))
      try go_wp2
      replace BK1:=dK BK1
      replace HB:=dB HB
      refine start_ (n:=19) (S:=fun w'=>cl14 w' gb1 (L A0_0 l0_0.length c0_0) (V I a0_1) (V I a0_2) (V I a0_3) (O a0_4) (V I a0_5) (O a0_6) (V I a0_7) (V I a0_8) (L A0_9 l0_9.length c0_9) (L A0_10 l0_10.length c0_10) (V I a0_11) (O a0_12) (V I a0_13)) (ds:= []) #[false,false,false,false,false,false,false,false,false,false,false,false,false,false,false,false,false,false,false] (by kernel_rfl) rfl rfl hh (fun hHeld=> ?_);refine with_tabW spec_MachineOk.tab5 spec_MachineOk.bits5 (fun HT_ HW_=> ?_)
      generalize wc.drew=w2 at BK1 HB hHeld ⊢
      refine pu 0 (some 27) ?_
      refine tu 1 (some 28) hHeld ?_
      refine ou 2 (some 29) (fun K hK=> ?_)
      refine gs Tryd.func61 #[G #[V I a0_1,V I a0_2,V I a0_3,O a0_4,V I a0_5,O a0_6]] ?_
      with_reducible refine(spec_JobOk.calls a0_1 a0_2 a0_3 a0_4 a0_5 a0_6 false _ A1.out).mono ?_
      rintro e w3 ⟨rfl,hb⟩
      refine⟨_,rfl,?_⟩
      replace BK1:=eK BK1 hb
      replace HB:=eB hb
      (try clear hb)
      refine hK.out _ _ hh (fun hHeld=> ?_)
      clear hK K
      refine nu (N:=(some 29)) ?_
      refine pu 3 (some 30) ?_
      refine px 4 (some 31) ?_
      refine px 5 (some 32) ?_
      refine px 6 (some 33) ?_
      refine px 7 (some 34) ?_
      refine pu 8 (some 35) ?_
      refine pu 9 (some 36) ?_
      refine px 10 (some 37) ?_
      refine px 11 (some 38) ?_
      refine px 12 (some 39) ?_
      refine px 13 (some 40) ?_
      refine px 14 (some 41) ?_
      refine px 15 (some 42) ?_
      refine px 16 (some 43) ?_
      refine pu 17 (some 44) ?_
      refine pu 18 (some 2) ?_
      refine done_ (done_of HT_.out (by kernel_rfl)) ?_
      try go_wp2
      go_ret
      exact⟨rE,uB⟩
def spec_l29Copy.f (l0:List (S40)):Option ((List (S40))):=(some (([]:List (S40)):List (S40))).bind fun y152=>(if y152.length+l0.length<2932031007402 then(some (y152++l0)) else(none))
set_option maxHeartbeats 40000000 in
set_option maxRecDepth 100000 in
theorem spec_l29Copy.calls (A0:Option Addr) (c0:Nat) (l0:List (S40)) (r:List (S40)) (w:World) (hr0:Kd.C k40 w A0 l0.length l0) (hc0:l0.length≤c0) (h:spec_l29Copy.f l0=some r):
  Calls Tryd.prog 92 #[L A0 l0.length c0] w fun e w'=>∃v0_:Value,e=.returned (v0_)∧Kd.R k40 40 w' w.heap.size (fun _=>True) v0_ r∧Below w.heap.size w w':=by
 have HR1:=C hr0
 have HC1:=C hc0
 (try clear hr0);(try clear hc0)
 have HB:=C (Below.refl w.heap.size w)
 have H:=h
 unfold spec_l29Copy.f at H
 clear h
 obtain⟨y1,hy1⟩:∃y_:List (S40),y_=(([]:List (S40))):=⟨_,rfl⟩
 replace H:(if y1.length+l0.length<2932031007402 then(some (y1++l0)) else(none))=some r:=by first|(rw[hy1];with_reducible exact H)|(have H1_:=(Option.bind_some _ _).symm.trans H;rw[hy1];with_reducible exact H1_)|(have H1_:=(Option.bind_some _ _).symm.trans H;with_reducible exact H1_)|with_reducible exact H|(rw[hy1];exact H)|exact H
 have Ny1:=C hy1
 clear hy1
 by_cases c1:y1.length+l0.length<2932031007402
 ·rw[if_pos c1]at H
  have LMc1:=C c1
  clear c1
  obtain⟨y2,hy2⟩:∃y_:List (S40),y_=(y1++l0):=⟨_,rfl⟩
  replace H:(some y2)=some r:=by first|(rw[hy2];with_reducible exact H)|(have H1_:=(Option.bind_some _ _).symm.trans H;rw[hy2];with_reducible exact H1_)|(have H1_:=(Option.bind_some _ _).symm.trans H;with_reducible exact H1_)|with_reducible exact H|(rw[hy2];exact H)|exact H
  have Ny2:=C hy2
  clear hy2
  obtain rfl:=Option.some.inj H
  go_enter Tryd.func92,Tryd.ntmps92
  go_wp2_with (first|((with_reducible refine J (N:=3) rfl ?_);refine Kd.R_lit k40 _ 40 ?hg (N:=3) ?hd (xs:=([]:List (S40))) (inner:= []) (ok:=fun _=>True) (okp:=fun _=>True) ?hr ?hp (fun _ hk=>hk) trivial (Below.refl _ _) (Nat.le_refl _) (by simp) ?_;(case hd=>rfl);(case hg=>rfl);(case hr=>exact Fix.hr);(case hp=>exact(Reps.none _ _));intro v1 w1 ho1 hb hg_ hnew_;clear hg_ hnew_;(first|rw[←Ny1.out]at ho1|(simp only[Int.reduceToNat]at ho1;rw[←Ny1.out]at ho1));have HO1:=lR ho1;replace HB:=eB hb;clear hb ho1)|((with_reducible refine gate_builtin (b:=.append) (xs:= #[.tmp 3,.tmp 4]) rfl ?_);at_builtin;refine Kd.R_append_rows k40 (w0:=w) w.heap.size rfl (.tmp 3) (.tmp 4) 38 40 (G #[(V I 0),(V I 0),(V I 0),(O false),(V I 0),(O false)]) 48 rfl Tryd.underlying38 info40 rfl (by decide) (by omega) v1 y1 l0 _ _ _ (fun _=>True) (fun _=>False) rfl rfl ?aO ?aR (fun _ _ h=>h) (fun _ h=>h.elim) ?aF ?aB ?aS ?aL ?_;(case aR=>exact uC (Z HR1.out HB.out));(case aB=>exact uB);(case aF=>exact(fun _ _=>trivial));(case aO=>exact(uR HO1.out));(case aS=>exact(below_size uB));(case aL=>have:=LMc1.out;omega);intro v2 w2 ho hb hg hat;rw[←Ny2.out]at ho;have HO2:=C (ho);replace HB:=C (hb);clear HO1;clear ho hb hg hat))
  go_ret
  exact⟨_,rE,fR HO2.out,uB⟩
 ·rw[if_neg c1]at H
  exact absurd H (by simp)
def spec_l05Copy.f (l0:List Int):Option (List Int):=(some (([]:List Int):List Int)).bind fun y158=>(if y158.length+l0.length<17592186044416 then(some (y158++l0)) else(none))
set_option maxHeartbeats 40000000 in
set_option maxRecDepth 100000 in
theorem spec_l05Copy.calls (A0:Option Addr) (c0:Nat) (l0:List Int) (r:List Int) (w:World) (hr0:Kd.C (Kd.int .i64) w A0 l0.length l0) (hc0:l0.length≤c0) (h:spec_l05Copy.f l0=some r):
  Calls Tryd.prog 109 #[L A0 l0.length c0] w fun e w'=>∃v0_:Value,e=.returned (v0_)∧Kd.R (Kd.int .i64) 3 w' w.heap.size (fun _=>True) v0_ r∧Below w.heap.size w w':=by
 have HR1:=C hr0
 have HC1:=C hc0
 (try clear hr0);(try clear hc0)
 have HB:=C (Below.refl w.heap.size w)
 have H:=h
 unfold spec_l05Copy.f at H
 clear h
 obtain⟨y1,hy1⟩:∃y_:List Int,y_=(([]:List Int)):=⟨_,rfl⟩
 replace H:(if y1.length+l0.length<17592186044416 then(some (y1++l0)) else(none))=some r:=by first|(rw[hy1];with_reducible exact H)|(have H1_:=(Option.bind_some _ _).symm.trans H;rw[hy1];with_reducible exact H1_)|(have H1_:=(Option.bind_some _ _).symm.trans H;with_reducible exact H1_)|with_reducible exact H|(rw[hy1];exact H)|exact H
 have Ny1:=C hy1
 clear hy1
 by_cases c1:y1.length+l0.length<17592186044416
 ·rw[if_pos c1]at H
  have LMc1:=C c1
  clear c1
  obtain⟨y2,hy2⟩:∃y_:List Int,y_=(y1++l0):=⟨_,rfl⟩
  replace H:(some y2)=some r:=by first|(rw[hy2];with_reducible exact H)|(have H1_:=(Option.bind_some _ _).symm.trans H;rw[hy2];with_reducible exact H1_)|(have H1_:=(Option.bind_some _ _).symm.trans H;with_reducible exact H1_)|with_reducible exact H|(rw[hy2];exact H)|exact H
  have Ny2:=C hy2
  clear hy2
  obtain rfl:=Option.some.inj H
  go_enter Tryd.func109,Tryd.ntmps109
  go_wp2_with (first|((with_reducible refine J (N:=3) rfl ?_);refine Kd.R_lit (Kd.int .i64) _ 3 ?hg (N:=3) ?hd (xs:=([]:List Int)) (inner:= []) (ok:=fun _=>True) (okp:=fun _=>True) ?hr ?hp (fun _ hk=>hk) trivial (Below.refl _ _) (Nat.le_refl _) (by simp) ?_;(case hd=>rfl);(case hg=>rfl);(case hr=>exact Fix.hr);(case hp=>exact(Reps.none _ _));intro v1 w1 ho1 hb hg_ hnew_;clear hg_ hnew_;(first|rw[←Ny1.out]at ho1|(simp only[Int.reduceToNat]at ho1;rw[←Ny1.out]at ho1));have HO1:=lR ho1;replace HB:=eB hb;clear hb ho1)|((with_reducible refine gate_builtin (b:=.append) (xs:= #[.tmp 3,.tmp 4]) rfl ?_);at_builtin;refine Kd.R_append_rows (Kd.int .i64) (w0:=w) w.heap.size rfl (.tmp 3) (.tmp 4) 41 3 (V I 0) 8 rfl Tryd.underlying41 info3 rfl (by decide) (by omega) v1 y1 l0 _ _ _ (fun _=>True) (fun _=>False) rfl rfl ?aO ?aR (fun _ _ h=>h) (fun _ h=>h.elim) ?aF ?aB ?aS ?aL ?_;(case aR=>exact uC (Z HR1.out HB.out));(case aB=>exact uB);(case aF=>exact(fun _ _=>trivial));(case aO=>exact(uR HO1.out));(case aS=>exact(below_size uB));(case aL=>have:=LMc1.out;omega);intro v2 w2 ho hb hg hat;rw[←Ny2.out]at ho;have HO2:=C (ho);replace HB:=C (hb);clear HO1;clear ho hb hg hat))
  go_ret
  exact⟨_,rE,fR HO2.out,uB⟩
 ·rw[if_neg c1]at H
  exact absurd H (by simp)
def spec_l37Copy.f (a0_0:Int) (a0_1:Int) (l0_2:List Int) (l0_3:List Int) (a0_4:Int) (a0_5:Bool):Option (Int×Int×List Int×List Int×Int×Bool):=(spec_l05Copy.f l0_2).bind fun t167=>((spec_l05Copy.f l0_3).bind fun t170=>(some (a0_0,a0_1,t167,t170,a0_4,a0_5)))
set_option maxHeartbeats 40000000 in
set_option maxRecDepth 100000 in
theorem spec_l37Copy.calls (a0_0:Int) (a0_1:Int) (A0_2:Option Addr) (c0_2:Nat) (l0_2:List Int) (A0_3:Option Addr) (c0_3:Nat) (l0_3:List Int) (a0_4:Int) (a0_5:Bool) (r1:Int) (r2:Int) (r3:List Int) (r4:List Int) (r5:Int) (r6:Bool) (w:World) (hr0_2:Kd.C (Kd.int .i64) w A0_2 l0_2.length l0_2) (hc0_2:l0_2.length≤c0_2) (hr0_3:Kd.C (Kd.int .i64) w A0_3 l0_3.length l0_3) (hc0_3:l0_3.length≤c0_3) (h:spec_l37Copy.f a0_0 a0_1 l0_2 l0_3 a0_4 a0_5=some (r1,r2,r3,r4,r5,r6)):
  Calls Tryd.prog 93 #[G #[V I a0_0,V I a0_1,L A0_2 l0_2.length c0_2,L A0_3 l0_3.length c0_3,V I a0_4,O a0_5]] w fun e w'=>∃v2_ v3_:Value,e=.returned (G #[V I r1,V I r2,v2_,v3_,V I r5,O r6])∧Kd.R (Kd.int .i64) 3 w' w.heap.size (fun k_=>some k_≠(v3_:Value).ownBlock) v2_ r3∧Kd.R (Kd.int .i64) 3 w' w.heap.size (fun k_=>some k_≠(v2_:Value).ownBlock) v3_ r4∧Below w.heap.size w w':=by
 have hu1:=Tryd.underlying43
 have HR1_2:=C hr0_2
 have HC1_2:=C hc0_2
 (try clear hr0_2);(try clear hc0_2)
 have HR1_3:=C hr0_3
 have HC1_3:=C hc0_3
 (try clear hr0_3);(try clear hc0_3)
 have HB:=C (Below.refl w.heap.size w)
 have H:=h
 unfold spec_l37Copy.f at H
 clear h
 obtain⟨t1,A1,H⟩:=bnd H
 obtain⟨t2,A2,H⟩:=bnd H
 simp only[Option.some.injEq,Prod.mk.injEq]at H
 obtain⟨rfl,rfl,rfl,rfl,rfl,rfl⟩:=H
 go_enter Tryd.func93,Tryd.ntmps93
 go_wp2_with (first|((with_reducible refine J (N:=1) rfl ?_);refine Fix.be 1 #[V I a0_0,V I a0_1,L A0_2 l0_2.length c0_2,L A0_3 l0_3.length c0_3,V I a0_4,O a0_5] 43 ?_;intro gb1 hg w1 BK1 hb;have GW1:D (w.heap.size≤gb1):=gE hg;have GE1:=GW1;replace HB:=eB hb;clear hb hg)|((with_reducible refine J (N:=2) rfl ?_);refine Fix.be 2 #[V I 0,V I 0,L none 0 0,L none 0 0,V I 0,O false] 43 ?_;intro gb2 hg w2 BK2 hb;have GW2:D (w.heap.size≤gb2):=gE hg;have GE2:=GW2;have NB1_165:=nL hg BK1;have NB2_164:=nG hg BK1;replace BK1:=eK BK1 hb;replace HB:=eB hb;clear hb hg;have hnb1:=NB1_165.out;have hnc1:=NB2_164.out;have h_:=d6 BK1.out;(repeat(obtain⟨_,h_⟩:=h_)))|((with_reducible refine J (N:=3) rfl ?_);refine Fix.be 3 #[V I 0,V I 0,L none 0 0,L none 0 0,V I 0,O false] 43 ?_;intro gb3 hg w3 BK3 hb;have GW3:D (w.heap.size≤gb3):=gE hg;have GE3:=GW3;have NB1_166:=nL hg BK1;have NB3_164:=nG hg BK1;have NB2_166:=nL hg BK2;have NB3_165:=nG hg BK2;replace BK1:=eK BK1 hb;replace BK2:=eK BK2 hb;replace HB:=eB hb;clear hb hg;have hnb2:=NB3_164.out;have hnc2:=NB1_166.out;have hnb3:=NB3_165.out;have hnc3:=NB2_166.out;obtain⟨hcz1_0,hcz1_1,hcz1_2,hcz1_3,hcz1_4,hcz1_5,hfz1_0,hfz1_1,hfz1_2,hfz1_3,hfz1_4,hfz1_5⟩:=d6 BK3.out;have h_:=d6 BK1.out;(repeat(obtain⟨_,h_⟩:=h_)))|((with_reducible refine gate_callee (f:=109) rfl ?_);refine gl 109 (some 7) Tryd.func109 #[L A0_2 l0_2.length c0_2] ?_;(with_reducible refine(spec_l05Copy.calls _ _ l0_2 t1 _ ?side1 ?side2 A1.out).mono ?_);(case side1=>exact Z HR1_2.out uB);(case side2=>exact HC1_2.out);rintro e w4 ⟨v1,rfl,ho1,hb⟩;refine⟨_,rfl,?_⟩;have HO1:=lR ho1;replace BK1:=eK BK1 hb;replace BK2:=eK BK2 hb;replace BK3:=C (blk_below (g:=gb3) (o:=.cells #[V I a0_0,V I a0_1,L A0_2 l0_2.length c0_2,L A0_3 l0_3.length c0_3,V I a0_4,O a0_5] 43 (0,0)) (bK BK3.out) hb);replace HB:=eB hb;clear hb ho1;obtain⟨Ao1,co1,eo1⟩:=Kd.R_slice HO1.out;subst eo1;have h_:=d6 BK3.out;(repeat(obtain⟨_,h_⟩:=h_));obtain⟨hcz2_0,hcz2_1,hcz2_2,hcz2_3,hcz2_4,hcz2_5,hfz2_0,hfz2_1,hfz2_2,hfz2_3,hfz2_4,hfz2_5⟩:=d6 BK1.out)|((with_reducible refine gate_callee (f:=109) rfl ?_);refine gl 109 (some 11) Tryd.func109 #[L A0_3 l0_3.length c0_3] ?_;(with_reducible refine(spec_l05Copy.calls _ _ l0_3 t2 _ ?side1 ?side2 A2.out).mono ?_);(case side1=>exact Z HR1_3.out uB);(case side2=>exact HC1_3.out);rintro e w5 ⟨v2,rfl,ho1,hb⟩;refine⟨_,rfl,?_⟩;have HO2:=C (Kd.R_lower (Kd.R_new' ho1 (Kd.R_lt (Kd.R_mono (fR (Kd.R_types HO1.out BK3.out (by decide))) (fun _ h_=>h_.1)))) (below_size uB));replace HO1:=C (Kd.R_elder' (Kd.R_mono (fR (Kd.R_types HO1.out BK3.out (by decide))) (fun _ h_=>h_.1)) (Kd.R_base ho1) hb);replace BK1:=eK BK1 hb;replace BK2:=eK BK2 hb;replace BK3:=C (blk_below (g:=gb3) (o:=.cells #[V I a0_0,V I a0_1,L Ao1 t1.length co1,L A0_3 l0_3.length c0_3,V I a0_4,O a0_5] 43 (0,0)) (bK BK3.out) hb);replace HB:=eB hb;clear hb ho1;obtain⟨Ao2,co2,eo2⟩:=Kd.R_slice HO2.out;subst eo2;have h_:=d6 BK3.out;(repeat(obtain⟨_,h_⟩:=h_));have h_:=d6 BK2.out;(repeat(obtain⟨_,h_⟩:=h_))))
 refine bodyPost_ret (results_cell_row rfl _ _ gb2 43 #[V I a0_0,V I a0_1,L Ao1 t1.length co1,L Ao2 t2.length co2,V I a0_4,O a0_5] (0,0) _ rfl (bK BK2.out) Tryd.underlying43 rfl (by kernel_rfl)) rfl ?_
 exact⟨_,_,rE,Kd.R_mono (fR (Kd.R_types (Kd.R_types HO1.out BK3.out (by decide)) BK2.out (by decide))) (fun _ hk=>hk.1.1.2),Kd.R_mono (fR (Kd.R_types (Kd.R_types HO2.out BK3.out (by decide)) BK2.out (by decide))) (fun _ hk=>hk.1.1.2),uB⟩
def spec_l39Copy.f (l0_0:List (S40)) (a0_1:Int) (a0_2:Int) (a0_3:Int) (a0_4:Bool) (a0_5:Int) (a0_6:Bool) (a0_7:Int) (a0_8:Int) (l0_9:List Int) (l0_10:List Int) (a0_11:Int) (a0_12:Bool) (a0_13:Int):Option ((List (S40))×Int×Int×Int×Bool×Int×Bool×Int×Int×List Int×List Int×Int×Bool×Int):=(spec_l29Copy.f l0_0).bind fun t175=>((spec_l37Copy.f a0_7 a0_8 l0_9 l0_10 a0_11 a0_12).bind fun bt178=>(some (t175,a0_1,a0_2,a0_3,a0_4,a0_5,a0_6,bt178.1,bt178.2.1,bt178.2.2.1,bt178.2.2.2.1,bt178.2.2.2.2.1,bt178.2.2.2.2.2,a0_13)))
def spec_l39Copy.T1:Bool×List (List Nat×List Nat):=(true,[([],[]),([0],[0]),([1],[1]),([],[]),([3],[3]),([],[]),([5],[5]),([6,2],[6]),([],[]),([8],[8]),([2,4,7,9],[2,4,7,9]),([10,7,0,1,2,3,4,5,6,7,8,9,10],[10])])
def spec_l39Copy.B1:List Nat:= [0,1,3,0,8,0,32,103,0,256,1023,2047]
theorem spec_l39Copy.tab1:rtab .any (opsOf Tryd.f59 1)=spec_l39Copy.T1:=by kernel_rfl
theorem spec_l39Copy.bits1:waitsOk spec_l39Copy.T1.2 spec_l39Copy.B1=true:=by kernel_rfl
set_option maxHeartbeats 40000000 in
set_option maxRecDepth 100000 in
theorem spec_l39Copy.calls (A0_0:Option Addr) (c0_0:Nat) (l0_0:List (S40)) (a0_1:Int) (a0_2:Int) (a0_3:Int) (a0_4:Bool) (a0_5:Int) (a0_6:Bool) (a0_7:Int) (a0_8:Int) (A0_9:Option Addr) (c0_9:Nat) (l0_9:List Int) (A0_10:Option Addr) (c0_10:Nat) (l0_10:List Int) (a0_11:Int) (a0_12:Bool) (a0_13:Int) (r1:List (S40)) (r2:Int) (r3:Int) (r4:Int) (r5:Bool) (r6:Int) (r7:Bool) (r8:Int) (r9:Int) (r10:List Int) (r11:List Int) (r12:Int) (r13:Bool) (r14:Int) (w:World) (hr0_0:Kd.C k40 w A0_0 l0_0.length l0_0) (hc0_0:l0_0.length≤c0_0) (hr0_9:Kd.C (Kd.int .i64) w A0_9 l0_9.length l0_9) (hc0_9:l0_9.length≤c0_9) (hr0_10:Kd.C (Kd.int .i64) w A0_10 l0_10.length l0_10) (hc0_10:l0_10.length≤c0_10) (h:spec_l39Copy.f l0_0 a0_1 a0_2 a0_3 a0_4 a0_5 a0_6 a0_7 a0_8 l0_9 l0_10 a0_11 a0_12 a0_13=some (r1,r2,r3,r4,r5,r6,r7,r8,r9,r10,r11,r12,r13,r14)):
  Calls Tryd.prog 59 #[G #[L A0_0 l0_0.length c0_0,V I a0_1,V I a0_2,V I a0_3,O a0_4,V I a0_5,O a0_6,V I a0_7,V I a0_8,L A0_9 l0_9.length c0_9,L A0_10 l0_10.length c0_10,V I a0_11,O a0_12,V I a0_13]] w fun e w'=>∃v0_ v9_ v10_:Value,e=.returned (G #[v0_,V I r2,V I r3,V I r4,O r5,V I r6,O r7,V I r8,V I r9,v9_,v10_,V I r12,O r13,V I r14])∧Kd.R k40 40 w' w.heap.size (fun _=>True) v0_ r1∧Kd.R (Kd.int .i64) 3 w' w.heap.size (fun k_=>some k_≠(v10_:Value).ownBlock) v9_ r10∧Kd.R (Kd.int .i64) 3 w' w.heap.size (fun k_=>some k_≠(v9_:Value).ownBlock) v10_ r11∧Below w.heap.size w w':=by
 have hu1:=Tryd.underlying45
 have hu2:=Tryd.underlying40
 have hu3:=Tryd.underlying43
 have HR1_0:=C hr0_0
 have HC1_0:=C hc0_0
 (try clear hr0_0);(try clear hc0_0)
 have HR1_9:=C hr0_9
 have HC1_9:=C hc0_9
 (try clear hr0_9);(try clear hc0_9)
 have HR1_10:=C hr0_10
 have HC1_10:=C hc0_10
 (try clear hr0_10);(try clear hc0_10)
 have HB:=C (Below.refl w.heap.size w)
 have H:=h
 unfold spec_l39Copy.f at H
 clear h
 obtain⟨t1,A1,H⟩:=bnd H
 obtain⟨⟨t2,t3,t4,t5,t6,t7⟩,A2,H⟩:=bnd H
 dsimp only at H
 simp only[Option.some.injEq,Prod.mk.injEq]at H
 obtain⟨rfl,rfl,rfl,rfl,rfl,rfl,rfl,rfl,rfl,rfl,rfl,rfl,rfl,rfl⟩:=H
 go_enter Tryd.func59,Tryd.ntmps59
 try go_wp2_with (first|((with_reducible refine J (N:=1) rfl ?_);refine Fix.be 1 #[L A0_0 l0_0.length c0_0,V I a0_1,V I a0_2,V I a0_3,O a0_4,V I a0_5,O a0_6,V I a0_7,V I a0_8,L A0_9 l0_9.length c0_9,L A0_10 l0_10.length c0_10,V I a0_11,O a0_12,V I a0_13] 45 ?_;intro gb1 hg w2 BK1 hb;have GW1:D (w.heap.size≤gb1):=gE hg;have GE1:=GW1;replace HB:=eB hb;clear hb hg)|((with_reducible refine J (N:=2) rfl ?_);refine Fix.be 2 #[L none 0 0,V I 0,V I 0,V I 0,O false,V I 0,O false,V I 0,V I 0,L none 0 0,L none 0 0,V I 0,O false,V I 0] 45 ?_;intro gb2 hg w3 BK2 hb;have GW2:D (w.heap.size≤gb2):=gE hg;have GE2:=GW2;have NB1_174:=nL hg BK1;have NB2_173:=nG hg BK1;replace BK1:=eK BK1 hb;replace HB:=eB hb;clear hb hg))
 replace BK1:=dK BK1
 replace BK2:=dK BK2
 replace HB:=dB HB
 refine start_ (n:=12) (S:=fun w'=>cl14 w' gb1 (L A0_0 l0_0.length c0_0) (V I a0_1) (V I a0_2) (V I a0_3) (O a0_4) (V I a0_5) (O a0_6) (V I a0_7) (V I a0_8) (L A0_9 l0_9.length c0_9) (L A0_10 l0_10.length c0_10) (V I a0_11) (O a0_12) (V I a0_13)) (ds:= []) #[false,false,false,false,false,false,false,false,false,false,false,false] (by kernel_rfl) rfl rfl hh (fun hHeld=> ?_);refine with_tabW spec_l39Copy.tab1 spec_l39Copy.bits1 (fun HT_ HW_=> ?_)
 generalize w3.drew=w4 at BK1 BK2 HB hHeld ⊢
 refine pu 0 (some 3) ?_
 refine pu 3 (some 6) ?_
 refine pu 5 (some 8) ?_
 refine pu 8 (some 11) ?_
 refine tu 1 (some 4) hHeld ?_
 refine tu 4 (some 7) hHeld ?_
 refine tu 6 (some 9) hHeld ?_
 refine tu 9 (some 12) hHeld ?_
 refine ou 2 (some 5) (fun K hK=> ?_)
 refine gs Tryd.func92 #[L A0_0 l0_0.length c0_0] ?_
 with_reducible refine(spec_l29Copy.calls _ _ l0_0 t1 _ ?side1 ?side2 A1.out).mono ?_
 (case side1=>exact uC (Z HR1_0.out HB.out))
 (case side2=>exact HC1_0.out)
 rintro e w5 ⟨v1,rfl,ho1,hb⟩
 refine⟨_,rfl,?_⟩
 have HO1:=lR ho1
 replace BK1:=eK BK1 hb
 replace BK2:=eK BK2 hb
 replace HB:=eB hb
 (try clear hb)
 refine hK.out _ _ hh (fun hHeld=> ?_)
 clear hK K
 refine nu (N:=(some 5)) ?_
 refine ou 7 (some 10) (fun K hK=> ?_)
 refine gs Tryd.func93 #[G #[V I a0_7,V I a0_8,L A0_9 l0_9.length c0_9,L A0_10 l0_10.length c0_10,V I a0_11,O a0_12]] ?_
 with_reducible refine(spec_l37Copy.calls a0_7 a0_8 _ _ l0_9 _ _ l0_10 a0_11 a0_12 t2 t3 t4 t5 t6 t7 _ ?side1 ?side2 ?side3 ?side4 A2.out).mono ?_
 (case side1=>exact uC (Z HR1_9.out HB.out))
 (case side2=>exact HC1_9.out)
 (case side3=>exact uC (Z HR1_10.out HB.out))
 (case side4=>exact HC1_10.out)
 rintro e w6 ⟨v2,v3,rfl,ho1,ho2,hb⟩
 refine⟨_,rfl,?_⟩
 have HO2:=lR ho1
 have HO3:=lR ho2
 replace HO1:=eR HO1 hb
 replace BK1:=eK BK1 hb
 replace BK2:=eK BK2 hb
 replace HB:=eB hb
 (try clear hb)
 obtain⟨Ao1,co1,eo1⟩:=Kd.R_slice HO3.out
 (first|subst eo1|(injection eo1 with f1_ f2_ f3_;have f4_:=f1_.symm;have f5_:=f3_.symm;clear f1_ f2_ f3_;subst f4_;subst f5_))
 obtain⟨Ao2,co2,eo2⟩:=Kd.R_slice HO2.out
 (first|subst eo2|(injection eo2 with f1_ f2_ f3_;have f4_:=f1_.symm;have f5_:=f3_.symm;clear f1_ f2_ f3_;subst f4_;subst f5_))
 obtain⟨Ao3,co3,eo3⟩:=Kd.R_slice HO1.out
 (first|subst eo3|(injection eo3 with f1_ f2_ f3_;have f4_:=f1_.symm;have f5_:=f3_.symm;clear f1_ f2_ f3_;subst f4_;subst f5_))
 refine hK.out _ _ hh (fun hHeld=> ?_)
 clear hK K
 refine nu (N:=(some 10)) ?_
 refine pu 10 (some 13) ?_
 refine ou 11 (none) (fun K hK=> ?_)
 obtain⟨hs1,hs2,hs3,hs4,hs5,hs6,hs7,hs8,hs9,hs10,hs11,hs12,hs13,hs14,hfs1,hfs2,hfs3,hfs4,hfs5,hfs6,hfs7,hfs8,hfs9,hfs10,hfs11,hfs12,hfs13,hfs14⟩:=d14 BK2.out
 have hns1_0:=NB1_174.out
 have hms1_0:=NB2_173.out
 refine skip_ (w1:= ?_) (by rfl) rfl ?_ ?_
 rotate_left
 ·go_simp
  rfl
 refine hK.out _ _ (cs14 (fun _ _=>cf14 NB1_174.out) hHeld) (fun hHeld=> ?_)
 clear hK K
 refine done_ (done_of HT_.out (by kernel_rfl)) ?_
 try go_wp2
 refine bodyPost_ret (results_cell_row rfl _ _ gb2 45 #[L Ao3 t1.length co3,V I a0_1,V I a0_2,V I a0_3,O a0_4,V I a0_5,O a0_6,V I t2,V I t3,L Ao2 t4.length co2,L Ao1 t5.length co1,V I t6,O t7,V I a0_13] (0,0) _ rfl (bK BK2.out) Tryd.underlying45 rfl (by kernel_rfl)) rfl ?_
 exact⟨_,_,_,rE,Kd.R_mono (fR (Kd.R_types HO1.out BK2.out (by decide))) (fun _ hk=>trivial),Kd.R_mono (fR (Kd.R_types HO2.out BK2.out (by decide))) (fun _ hk=>hk.1),Kd.R_mono (fR (Kd.R_types HO3.out BK2.out (by decide))) (fun _ hk=>hk.1),uB⟩
def spec_l39Job.f (a0_0:Int) (a0_1:Int) (a0_2:Int) (a0_3:Int):Option (Int×Int×Int×Bool×Int×Bool):=some (a0_1,a0_2,1,false,a0_3,(a0_3==9))
set_option maxHeartbeats 40000000 in
set_option maxRecDepth 100000 in
theorem spec_l39Job.calls (a0_0:Int) (a0_1:Int) (a0_2:Int) (a0_3:Int) (r1:Int) (r2:Int) (r3:Int) (r4:Bool) (r5:Int) (r6:Bool) (w:World) (h:spec_l39Job.f a0_0 a0_1 a0_2 a0_3=some (r1,r2,r3,r4,r5,r6)):
  Calls Tryd.prog 62 #[G #[V I a0_0,V I a0_1,V I a0_2,V I a0_3]] w fun e w'=>e=.returned (G #[V I r1,V I r2,V I r3,O r4,V I r5,O r6])∧Below w.heap.size w w':=by
 have hu1:=Tryd.underlying26
 have hu2:=Tryd.underlying40
 have HB:=C (Below.refl w.heap.size w)
 have H:=h
 unfold spec_l39Job.f at H
 clear h
 simp only[Option.some.injEq,Prod.mk.injEq]at H
 obtain⟨rfl,rfl,rfl,rfl,rfl,rfl⟩:=H
 go_enter Tryd.func62,Tryd.ntmps62
 go_wp2_with (first|((with_reducible refine J (N:=1) rfl ?_);refine Fix.be 1 #[V I a0_0,V I a0_1,V I a0_2,V I a0_3] 26 ?_;intro gb1 hg w1 BK1 hb;have GW1:D (w.heap.size≤gb1):=gE hg;have GE1:=GW1;replace HB:=eB hb;clear hb hg)|((with_reducible refine J (N:=2) rfl ?_);refine Fix.be 2 #[V I 0,V I 0,V I 0,O false,V I 0,O false] 40 ?_;intro gb2 hg w2 BK2 hb;have GW2:D (w.heap.size≤gb2):=gE hg;have GE2:=GW2;have NB1_189:=nL hg BK1;have NB2_188:=nG hg BK1;replace BK1:=eK BK1 hb;replace HB:=eB hb;clear hb hg;have hnb1:=NB1_189.out;have hnc1:=NB2_188.out;have h_:=d4 BK1.out;(repeat(obtain⟨_,h_⟩:=h_));obtain⟨hcz1_0,hcz1_1,hcz1_2,hcz1_3,hcz1_4,hcz1_5,hfz1_0,hfz1_1,hfz1_2,hfz1_3,hfz1_4,hfz1_5⟩:=d6 BK2.out))
 refine bodyPost_ret (results_cell_row rfl _ _ gb2 40 #[V I a0_1,V I a0_2,V I 1,O false,V I a0_3,O (a0_3==9)] (0,0) _ rfl (bK BK2.out) Tryd.underlying40 rfl (by kernel_rfl)) rfl ?_
 exact⟨rE,uB⟩
def spec_ActOk.j0:Nat→Int→Bool→Int→Int→Int→Int→Option (Bool)
 |0,_,_,_,_,_,_=>none
 |k+1,x4,x25,x191000,x191001,x191002,x191003=>if x25=true then(if x191001=0 then(if x191002=0 then(some (x191003==0)) else(some false)) else(some false)) else(if x4=5 then((spec_l01In.f x191001 1 9999).bind fun t199=>(if t199=true then(if x191002=0 then(some (x191003==0)) else(some false)) else(some false))) else(some false))
def spec_ActOk.f (k:Nat) (a0_0:Int) (a0_1:Int) (a0_2:Int) (a0_3:Int):Option (Bool):=if a0_0=1 then((spec_l39Job.f a0_0 a0_1 a0_2 a0_3).bind fun bt191=>((spec_JobOk.f bt191.1 bt191.2.1 bt191.2.2.1 bt191.2.2.2.1 bt191.2.2.2.2.1 bt191.2.2.2.2.2).bind fun t197=>(some t197))) else(if a0_0=3 then((spec_l01In.f a0_1 1 5).bind fun t198=>(if t198=true then(if a0_2=0 then(some (a0_3==0)) else(some false)) else(some false))) else(if a0_0=2 then(spec_ActOk.j0 k a0_0 (a0_0==2) a0_0 a0_1 a0_2 a0_3) else(spec_ActOk.j0 k a0_0 (a0_0==4) a0_0 a0_1 a0_2 a0_3)))
theorem spec_ActOk.mono_l:∀k,(∀y0 y1 y2 y3 y4 y5,LeO (spec_ActOk.j0 k y0 y1 y2 y3 y4 y5) (spec_ActOk.j0 (k+1) y0 y1 y2 y3 y4 y5))
 |0=>fun _ _ _ _ _ _ r h=>by simp[spec_ActOk.j0]at h
 |k+1=>by
  have ih0:=spec_ActOk.mono_l k
  ·intro y0 y1 y2 y3 y4 y5
   unfold spec_ActOk.j0
   repeat' first|(with_reducible first|apply ih0|exact LeO.refl _|exact LeO.none _|refine LeO.ite ?_ ?_|refine LeO.bind ?_ (fun _=> ?_))|apply ih0|exact LeO.none _|refine LeO.ite ?_ ?_|refine LeO.bind ?_ (fun _=> ?_)
theorem spec_ActOk.mono:∀a0 a1 a2 a3 k,LeO (spec_ActOk.f k a0 a1 a2 a3) (spec_ActOk.f (k+1) a0 a1 a2 a3):=by
 intro a0 a1 a2 a3 k
 have ih0:=spec_ActOk.mono_l k
 unfold spec_ActOk.f
 repeat' first|(with_reducible first|apply ih0|exact LeO.refl _|exact LeO.none _|refine LeO.ite ?_ ?_|refine LeO.bind ?_ (fun _=> ?_))|apply ih0|exact LeO.none _|refine LeO.ite ?_ ?_|refine LeO.bind ?_ (fun _=> ?_)
theorem spec_ActOk.W1 {p:Prop} (h:p:=by
  go_enter Tryd.func33,Tryd.ntmps33
  go_wp2_with (first|((with_reducible refine J (N:=1) rfl ?_);refine Fix.be 1 #[V I a0_0,V I a0_1,V I a0_2,V I a0_3] 26 ?_;intro gb1 hg w1 BK1 hb;have GW1:D (w.heap.size≤gb1):=gE hg;have GE1:=GW1;replace HB:=eB hb;clear hb hg;obtain⟨hcz1_0,hcz1_1,hcz1_2,hcz1_3,hfz1_0,hfz1_1,hfz1_2,hfz1_3⟩:=d4 BK1.out)|((with_reducible refine gate_callee (f:=62) rfl ?_);refine gl 62 (some 8) Tryd.func62 #[G #[V I a0_0,V I a0_1,V I a0_2,V I a0_3]] ?_;(with_reducible refine(spec_l39Job.calls a0_0 a0_1 a0_2 a0_3 t1 t2 t3 t4 t5 t6 _ A1.out).mono ?_);rintro e w2 ⟨rfl,hb⟩;refine⟨_,rfl,?_⟩;replace BK1:=eK BK1 hb;replace HB:=eB hb;clear hb)|((with_reducible refine gate_callee (f:=61) rfl ?_);refine gl 61 (some 9) Tryd.func61 #[G #[V I t1,V I t2,V I t3,O t4,V I t5,O t6]] ?_;(with_reducible refine(spec_JobOk.calls t1 t2 t3 t4 t5 t6 t7 _ A2.out).mono ?_);rintro e w3 ⟨rfl,hb⟩;refine⟨_,rfl,?_⟩;replace BK1:=eK BK1 hb;replace HB:=eB hb;clear hb)|((with_reducible refine gate_callee (f:=63) rfl ?_);refine gl 63 (some 14) Tryd.func63 #[V I a0_1,V I 1,V I 5] ?_;(with_reducible refine(spec_l01In.calls a0_1 1 5 true _ A1.out).mono ?_);rintro e w' ⟨rfl,⟨nd,rfl⟩⟩;refine⟨_,rfl,?_⟩))
  go_ret
  exact⟨rE,uB⟩):p:=h
theorem spec_ActOk.W2 {p:Prop} (h:p:=by
  go_wp2
  go_meet
  first
   |(case rel=>exact⟨_,((a0_0==2)),rS,H',⟨oL⟩,⟨bK BK1.out⟩,⟨uB⟩⟩)
   |(case rel=>exact⟨_,((a0_0==4)),rS,H',⟨oL⟩,⟨bK BK1.out⟩,⟨uB⟩⟩)):p:=h
theorem spec_ActOk.W3 {p:Prop} (h:p:=by
  go_wp2
  go_ret
  exact⟨rE,uB⟩):p:=h
theorem spec_ActOk.W4 {p:Prop} (h:p:=by
  go_wp2_with (first|((with_reducible refine gate_callee (f:=63) rfl ?_);refine gl 63 (some 45) Tryd.func63 #[V I a0_1,V I 1,V I 9999] ?_;(with_reducible refine(spec_l01In.calls a0_1 1 9999 true _ A1.out).mono ?_);rintro e w' ⟨rfl,⟨nd,rfl⟩⟩;refine⟨_,rfl,?_⟩))
  go_ret
  exact⟨rE,uB⟩):p:=h
set_option maxHeartbeats 40000000 in
set_option maxRecDepth 100000 in
theorem spec_ActOk.calls (k:Nat) (a0_0:Int) (a0_1:Int) (a0_2:Int) (a0_3:Int) (r:Bool) (w:World) (h:spec_ActOk.f k a0_0 a0_1 a0_2 a0_3=some r):
  Calls Tryd.prog 33 #[G #[V I a0_0,V I a0_1,V I a0_2,V I a0_3]] w fun e w'=>e=.returned (O r)∧Below w.heap.size w w':=by
 have hu1:=Tryd.underlying26
 have HB:=C (Below.refl w.heap.size w)
 have H:=h
 unfold spec_ActOk.f at H
 clear h
 by_cases c1:a0_0=1
 ·rw[if_pos c1]at H
  have c1b0:(a0_0==1)=true:=beq_iff_eq.mpr c1
  have c1b1:(a0_0 !=1)=false:=bne_eq_false_iff_eq.mpr c1
  clear c1
  obtain⟨⟨t1,t2,t3,t4,t5,t6⟩,A1,H⟩:=bnd H
  dsimp only at H
  obtain⟨t7,A2,H⟩:=bnd H
  obtain rfl:=Option.some.inj H
  exact spec_ActOk.W1
 ·rw[if_neg c1]at H
  have c1b0:(a0_0==1)=false:=beq_eq_false_iff_ne.mpr c1
  have c1b1:(a0_0 !=1)=true:=bne_iff_ne.mpr c1
  by_cases c2:a0_0=3
  ·rw[if_pos c2]at H
   have c2b0:(a0_0==3)=true:=beq_iff_eq.mpr c2
   have c2b1:(a0_0 !=3)=false:=bne_eq_false_iff_eq.mpr c2
   clear c2
   obtain⟨t1,A1,H⟩:=bnd H
   by_cases c3:t1=true
   ·subst c3
    rw[if_pos rfl]at H
    by_cases c4:a0_2=0
    ·rw[if_pos c4]at H
     have c4b0:(a0_2==0)=true:=beq_iff_eq.mpr c4
     have c4b1:(a0_2 !=0)=false:=bne_eq_false_iff_eq.mpr c4
     clear c4
     obtain rfl:=Option.some.inj H
     exact spec_ActOk.W1
    ·rw[if_neg c4]at H
     have c4b0:(a0_2==0)=false:=beq_eq_false_iff_ne.mpr c4
     have c4b1:(a0_2 !=0)=true:=bne_iff_ne.mpr c4
     obtain rfl:=Option.some.inj H
     exact spec_ActOk.W1
   ·replace c3:=Bool.eq_false_iff.mpr c3
    subst c3
    rw[if_neg Bool.false_ne_true]at H
    obtain rfl:=Option.some.inj H
    go_enter Tryd.func33,Tryd.ntmps33
    go_wp2_with (first|((with_reducible refine J (N:=1) rfl ?_);refine Fix.be 1 #[V I a0_0,V I a0_1,V I a0_2,V I a0_3] 26 ?_;intro gb1 hg w1 BK1 hb;have GW1:D (w.heap.size≤gb1):=gE hg;have GE1:=GW1;replace HB:=eB hb;clear hb hg;obtain⟨hcz1_0,hcz1_1,hcz1_2,hcz1_3,hfz1_0,hfz1_1,hfz1_2,hfz1_3⟩:=d4 BK1.out)|((with_reducible refine gate_callee (f:=63) rfl ?_);refine gl 63 (some 14) Tryd.func63 #[V I a0_1,V I 1,V I 5] ?_;(with_reducible refine(spec_l01In.calls a0_1 1 5 false _ A1.out).mono ?_);rintro e w' ⟨rfl,⟨nd,rfl⟩⟩;refine⟨_,rfl,?_⟩))
    go_ret
    exact⟨rE,uB⟩
  ·rw[if_neg c2]at H
   have c2b0:(a0_0==3)=false:=beq_eq_false_iff_ne.mpr c2
   have c2b1:(a0_0 !=3)=true:=bne_iff_ne.mpr c2
   have HC1:=C H
   clear H
   go_enter Tryd.func33,Tryd.ntmps33
   go_upto_if 25 with(first|((with_reducible refine J (N:=1) rfl ?_);refine Fix.be 1 #[V I a0_0,V I a0_1,V I a0_2,V I a0_3] 26 ?_;intro gb1 hg w1 BK1 hb;have GW1:D (w.heap.size≤gb1):=gE hg;have GE1:=GW1;replace HB:=eB hb;clear hb hg;have h_:=d4 BK1.out;(repeat(obtain⟨_,h_⟩:=h_))))
   (try simp only[Act.put,List.setIfInBounds_toArray,List.set_cons_zero,List.set_cons_succ])
   go_cut [25] (fun v25 wc=>∃(kq:Nat) (x1_18:Bool),v25=O x1_18∧D (spec_ActOk.j0 kq a0_0 x1_18 a0_0 a0_1 a0_2 a0_3=some r)∧D (kq≤k)∧D (wc.heap[gb1]? =some (.cells #[V I a0_0,V I a0_1,V I a0_2,V I a0_3] 26 (0,0)))∧D (Below w.heap.size w wc))
   case first=>
    have H:=HC1.out
    clear HC1
    by_cases c3:a0_0=2
    ·rw[if_pos c3]at H
     have c3b0:(a0_0==2)=true:=beq_iff_eq.mpr c3
     have c3b1:(a0_0 !=2)=false:=bne_eq_false_iff_eq.mpr c3
     clear c3
     (first|rw[c3b0]|(simp only[i64_w,i32_w];rw[c3b0])|skip)
     have H':=C H
     clear H
     exact spec_ActOk.W2
    ·rw[if_neg c3]at H
     have c3b0:(a0_0==2)=false:=beq_eq_false_iff_ne.mpr c3
     have c3b1:(a0_0 !=2)=true:=bne_iff_ne.mpr c3
     (first|rw[c3b0]|(simp only[i64_w,i32_w];rw[c3b0])|skip)
     have H':=C H
     clear H
     exact spec_ActOk.W2
   case rest=>
    clear HC1
    obtain⟨kq,x1_18,rfl,HA,HJ1,BK1,HB⟩:=hcut
    cases kq with
    |zero=>exact absurd HA.out (by simp[spec_ActOk.j0])
    |succ kj18=>
     have H:=HA.out
     clear HA
     simp only[spec_ActOk.j0]at H
     by_cases c3:x1_18=true
     ·subst c3
      rw[if_pos rfl]at H
      by_cases c4:a0_1=0
      ·rw[if_pos c4]at H
       have c4b0:(a0_1==0)=true:=beq_iff_eq.mpr c4
       have c4b1:(a0_1 !=0)=false:=bne_eq_false_iff_eq.mpr c4
       clear c4
       by_cases c5:a0_2=0
       ·rw[if_pos c5]at H
        have c5b0:(a0_2==0)=true:=beq_iff_eq.mpr c5
        have c5b1:(a0_2 !=0)=false:=bne_eq_false_iff_eq.mpr c5
        clear c5
        obtain rfl:=Option.some.inj H
        have h_:=d4 BK1.out;(repeat(obtain⟨_,h_⟩:=h_))
        exact spec_ActOk.W3
       ·rw[if_neg c5]at H
        have c5b0:(a0_2==0)=false:=beq_eq_false_iff_ne.mpr c5
        have c5b1:(a0_2 !=0)=true:=bne_iff_ne.mpr c5
        obtain rfl:=Option.some.inj H
        have h_:=d4 BK1.out;(repeat(obtain⟨_,h_⟩:=h_))
        exact spec_ActOk.W3
      ·rw[if_neg c4]at H
       have c4b0:(a0_1==0)=false:=beq_eq_false_iff_ne.mpr c4
       have c4b1:(a0_1 !=0)=true:=bne_iff_ne.mpr c4
       obtain rfl:=Option.some.inj H
       obtain⟨hcz1_0,hcz1_1,hcz1_2,hcz1_3,hfz1_0,hfz1_1,hfz1_2,hfz1_3⟩:=d4 BK1.out
       exact spec_ActOk.W3
     ·replace c3:=Bool.eq_false_iff.mpr c3
      subst c3
      rw[if_neg Bool.false_ne_true]at H
      by_cases c4:a0_0=5
      ·rw[if_pos c4]at H
       have c4b0:(a0_0==5)=true:=beq_iff_eq.mpr c4
       have c4b1:(a0_0 !=5)=false:=bne_eq_false_iff_eq.mpr c4
       clear c4
       obtain⟨t1,A1,H⟩:=bnd H
       by_cases c5:t1=true
       ·subst c5
        rw[if_pos rfl]at H
        by_cases c6:a0_2=0
        ·rw[if_pos c6]at H
         have c6b0:(a0_2==0)=true:=beq_iff_eq.mpr c6
         have c6b1:(a0_2 !=0)=false:=bne_eq_false_iff_eq.mpr c6
         clear c6
         obtain rfl:=Option.some.inj H
         obtain⟨hcz1_0,hcz1_1,hcz1_2,hcz1_3,hfz1_0,hfz1_1,hfz1_2,hfz1_3⟩:=d4 BK1.out
         exact spec_ActOk.W4
        ·rw[if_neg c6]at H
         have c6b0:(a0_2==0)=false:=beq_eq_false_iff_ne.mpr c6
         have c6b1:(a0_2 !=0)=true:=bne_iff_ne.mpr c6
         obtain rfl:=Option.some.inj H
         have h_:=d4 BK1.out;(repeat(obtain⟨_,h_⟩:=h_))
         exact spec_ActOk.W4
       ·replace c5:=Bool.eq_false_iff.mpr c5
        subst c5
        rw[if_neg Bool.false_ne_true]at H
        obtain rfl:=Option.some.inj H
        have h_:=d4 BK1.out;(repeat(obtain⟨_,h_⟩:=h_))
        go_wp2_with (first|((with_reducible refine gate_callee (f:=63) rfl ?_);refine gl 63 (some 45) Tryd.func63 #[V I a0_1,V I 1,V I 9999] ?_;(with_reducible refine(spec_l01In.calls a0_1 1 9999 false _ A1.out).mono ?_);rintro e w' ⟨rfl,⟨nd,rfl⟩⟩;refine⟨_,rfl,?_⟩))
        go_ret
        exact⟨rE,uB⟩
      ·rw[if_neg c4]at H
       have c4b0:(a0_0==5)=false:=beq_eq_false_iff_ne.mpr c4
       have c4b1:(a0_0 !=5)=true:=bne_iff_ne.mpr c4
       obtain rfl:=Option.some.inj H
       exact spec_ActOk.W3
end Go.Proofs.YtblceimapaenlaaDoor.PFnReports
