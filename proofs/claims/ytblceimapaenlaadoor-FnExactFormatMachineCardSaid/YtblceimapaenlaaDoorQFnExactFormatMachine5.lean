/- FnExactFormatMachine: the functions that the law reaches, each as a plain Lean function, and that a call does what it says. Made by a program of this work (wip/mp.py) out of the kit's print. No condition. -/
import Derived.Test.YtblceimapaenlaaDoorQFnExactFormatMachine0
import Derived.Test.YtblceimapaenlaaDoorQFnExactFormatMachine1
import Derived.Test.YtblceimapaenlaaDoorQFnExactFormatMachine3
import Derived.Test.YtblceimapaenlaaDoorQFnExactFormatMachine4
namespace Go.Proofs.YtblceimapaenlaaDoor.PFnExactFormatMachine
open Go.RowKit Go.Proofs.YtblceimapaenlaaDoorW.PrintWords Go.Proofs.YtblceimapaenlaaDoorW.PrintLast Go.Proofs.YtblceimapaenlaaDoorW.PrintMore
open Fix (bK bnd cl14 d14 d6 dB dK eB eK eR fR gE gl gs hh hx lR nG nL nu oL ou pu px rE rS tu uB uC uR)
open Go.Value renaming int→V,slice→L,bool→O,agg→G
open Go.IntKind renaming i64→I
open Go.Proofs.YtblceimapaenlaaDoorW.PrintWords.Aside0 renaming mk→C
open Go.Proofs.YtblceimapaenlaaDoorW.PrintWords renaming Aside0→D,gate_dst→J
open Go.Proofs.YtblceimapaenlaaDoorW.PrintWords.Kd renaming C_below→Z
attribute [local go_sem] max2_int min2_int max_two min_two max_three min_three max_four min_four
attribute [local go_sem] Fix.isSome_setCell
set_option linter.unusedVariables false
set_option linter.unusedSimpArgs false
attribute [local go_sem high] eqA40
def spec_MachineOk.j0:Nat→Bool→List (S40)→Int→Int→Int→Bool→Int→Bool→Int→Int→List Int→List Int→Int→Bool→Int→Option (Bool)
 |0,_,_,_,_,_,_,_,_,_,_,_,_,_,_,_=>none
 |k+1,x18,x221000,x221001,x221002,x221003,x221004,x221005,x221006,x221007,x221008,x221009,x221010,x221011,x221012,x221013=>if x18=true then(some false) else(if(x221001==0 && (x221002==0 && (x221003==0 && (!x221004 && (x221005==0 && (!x221006))))))=true then(some (x221007==0)) else((spec_JobOk.f x221001 x221002 x221003 x221004 x221005 x221006).bind fun t224=>(if t224=true then((spec_JobSheets.f k x221001 x221002 x221003 x221004 x221005 x221006).bind fun t225=>(if t225≤40 then((spec_JobSheets.f k x221001 x221002 x221003 x221004 x221005 x221006).bind fun t226=>(some (t226==x221007))) else(some false))) else(some false))))
def spec_MachineOk.f (k:Nat) (l0_0:List (S40)) (a0_1:Int) (a0_2:Int) (a0_3:Int) (a0_4:Bool) (a0_5:Int) (a0_6:Bool) (a0_7:Int) (a0_8:Int) (l0_9:List Int) (l0_10:List Int) (a0_11:Int) (a0_12:Bool) (a0_13:Int):Option (Bool):=(spec_JobsOk.f k l0_0).bind fun t221=>(if t221=true then((spec_LineOk.f k a0_7 a0_8 l0_9 l0_10 a0_11 a0_12).bind fun t222=>(if t222=true then((spec_l01In.f a0_13 0 100000).bind fun t223=>(spec_MachineOk.j0 k (!t223) l0_0 a0_1 a0_2 a0_3 a0_4 a0_5 a0_6 a0_7 a0_8 l0_9 l0_10 a0_11 a0_12 a0_13)) else(spec_MachineOk.j0 k true l0_0 a0_1 a0_2 a0_3 a0_4 a0_5 a0_6 a0_7 a0_8 l0_9 l0_10 a0_11 a0_12 a0_13))) else(spec_MachineOk.j0 k true l0_0 a0_1 a0_2 a0_3 a0_4 a0_5 a0_6 a0_7 a0_8 l0_9 l0_10 a0_11 a0_12 a0_13))
theorem spec_MachineOk.mono_l:∀k,(∀y0 y1 y2 y3 y4 y5 y6 y7 y8 y9 y10 y11 y12 y13 y14,LeO (spec_MachineOk.j0 k y0 y1 y2 y3 y4 y5 y6 y7 y8 y9 y10 y11 y12 y13 y14) (spec_MachineOk.j0 (k+1) y0 y1 y2 y3 y4 y5 y6 y7 y8 y9 y10 y11 y12 y13 y14))
 |0=>fun _ _ _ _ _ _ _ _ _ _ _ _ _ _ _ r h=>by simp[spec_MachineOk.j0]at h
 |k+1=>by
  have ih0:=spec_MachineOk.mono_l k
  ·intro y0 y1 y2 y3 y4 y5 y6 y7 y8 y9 y10 y11 y12 y13 y14
   unfold spec_MachineOk.j0
   repeat' first|(with_reducible first|apply ih0|apply spec_JobSheets.mono|apply spec_JobsOk.mono|apply spec_LineOk.mono|exact LeO.refl _|exact LeO.none _|refine LeO.ite ?_ ?_|refine LeO.bind ?_ (fun _=> ?_))|apply ih0|exact LeO.none _|refine LeO.ite ?_ ?_|refine LeO.bind ?_ (fun _=> ?_)
theorem spec_MachineOk.mono:∀a0 a1 a2 a3 a4 a5 a6 a7 a8 a9 a10 a11 a12 a13 k,LeO (spec_MachineOk.f k a0 a1 a2 a3 a4 a5 a6 a7 a8 a9 a10 a11 a12 a13) (spec_MachineOk.f (k+1) a0 a1 a2 a3 a4 a5 a6 a7 a8 a9 a10 a11 a12 a13):=by
 intro a0 a1 a2 a3 a4 a5 a6 a7 a8 a9 a10 a11 a12 a13 k
 have ih0:=spec_MachineOk.mono_l k
 unfold spec_MachineOk.f
 repeat' first|(with_reducible first|apply ih0|apply spec_JobSheets.mono|apply spec_JobsOk.mono|apply spec_LineOk.mono|exact LeO.refl _|exact LeO.none _|refine LeO.ite ?_ ?_|refine LeO.bind ?_ (fun _=> ?_))|apply ih0|exact LeO.none _|refine LeO.ite ?_ ?_|refine LeO.bind ?_ (fun _=> ?_)
def spec_MachineOk.T5:Bool×List (List Nat×List Nat):=(true,[([],[]),([0],[0]),([1],[1]),([2,2],[2]),([3],[3]),([4,3],[3,4]),([5,3,3],[3,5]),([6,3],[3,6]),([3,7],[3,7]),([8,6],[8]),([9],[9]),([10,9],[9,10]),([11,9,9],[9,11]),([9],[9]),([13,9],[9,13]),([14,9],[9,14]),([12,15,9],[9,12,15]),([9,16],[9,16]),([17,12,0,1,2,3,4,5,6,7,8,9,10,11,12,13,14,15,16,17],[17])])
def spec_MachineOk.B5:List Nat:= [0,1,3,7,15,31,63,127,255,511,1023,2047,4095,1023,9215,25599,65535,131071,262143]
theorem spec_MachineOk.tab5:rtab .any (opsOf Tryd.f46 5)=spec_MachineOk.T5:=by kernel_rfl
theorem spec_MachineOk.bits5:waitsOk spec_MachineOk.T5.2 spec_MachineOk.B5=true:=by kernel_rfl
theorem spec_MachineOk.W1 {p:Prop} (h:p:=by
  go_wp2
  go_ret
  exact⟨rE,uB⟩):p:=h
set_option maxHeartbeats 40000000 in
set_option maxRecDepth 100000 in
theorem spec_MachineOk.calls (k:Nat) (A0_0:Option Addr) (c0_0:Nat) (l0_0:List (S40)) (a0_1:Int) (a0_2:Int) (a0_3:Int) (a0_4:Bool) (a0_5:Int) (a0_6:Bool) (a0_7:Int) (a0_8:Int) (A0_9:Option Addr) (c0_9:Nat) (l0_9:List Int) (A0_10:Option Addr) (c0_10:Nat) (l0_10:List Int) (a0_11:Int) (a0_12:Bool) (a0_13:Int) (r:Bool) (w:World) (hr0_0:Kd.C k40 w A0_0 l0_0.length l0_0) (hc0_0:l0_0.length≤c0_0) (hr0_9:Kd.C (Kd.int .i64) w A0_9 l0_9.length l0_9) (hc0_9:l0_9.length≤c0_9) (hr0_10:Kd.C (Kd.int .i64) w A0_10 l0_10.length l0_10) (hc0_10:l0_10.length≤c0_10) (h:spec_MachineOk.f k l0_0 a0_1 a0_2 a0_3 a0_4 a0_5 a0_6 a0_7 a0_8 l0_9 l0_10 a0_11 a0_12 a0_13=some r):
  Calls Tryd.prog 46 #[G #[L A0_0 l0_0.length c0_0,V I a0_1,V I a0_2,V I a0_3,O a0_4,V I a0_5,O a0_6,V I a0_7,V I a0_8,L A0_9 l0_9.length c0_9,L A0_10 l0_10.length c0_10,V I a0_11,O a0_12,V I a0_13]] w fun e w'=>e=.returned (O r)∧Below w.heap.size w w':=by
 have hu1:=Tryd.underlying45
 have hu2:=Tryd.underlying43
 have hu3:=Tryd.underlying40
 have HR1_0:=C hr0_0
 have HC1_0:=C hc0_0
 (try clear hr0_0);(try clear hc0_0)
 have HR1_9:=C hr0_9
 have HC1_9:=C hc0_9
 (try clear hr0_9);(try clear hc0_9)
 have HR1_10:=C hr0_10
 have HC1_10:=C hc0_10
 (try clear hr0_10);(try clear hc0_10)
 have HB:=C (Below.refl w.heap.size w)
 have H:=h
 unfold spec_MachineOk.f at H
 clear h
 have HC2:=C H
 clear H
 go_enter Tryd.func46,Tryd.ntmps46
 go_upto_region 1 with(first|((with_reducible refine J (N:=1) rfl ?_);refine Fix.be 1 #[L A0_0 l0_0.length c0_0,V I a0_1,V I a0_2,V I a0_3,O a0_4,V I a0_5,O a0_6,V I a0_7,V I a0_8,L A0_9 l0_9.length c0_9,L A0_10 l0_10.length c0_10,V I a0_11,O a0_12,V I a0_13] 45 ?_;intro gb1 hg w1 BK1 hb;have GW1:D (w.heap.size≤gb1):=gE hg;have GE1:=GW1;replace HB:=eB hb;clear hb hg))
 (try simp only[Act.put,List.setIfInBounds_toArray,List.set_cons_zero,List.set_cons_succ])
 go_cut [18] (fun v18 wc=>∃(kq:Nat) (x1_1:Bool),v18=O x1_1∧D (spec_MachineOk.j0 kq x1_1 l0_0 a0_1 a0_2 a0_3 a0_4 a0_5 a0_6 a0_7 a0_8 l0_9 l0_10 a0_11 a0_12 a0_13=some r)∧D (kq≤k)∧D (wc.heap[gb1]? =some (.cells #[(L A0_0 l0_0.length c0_0),V I a0_1,V I a0_2,V I a0_3,O a0_4,V I a0_5,O a0_6,V I a0_7,V I a0_8,(L A0_9 l0_9.length c0_9),(L A0_10 l0_10.length c0_10),V I a0_11,O a0_12,V I a0_13] 45 (0,0)))∧D (Below w.heap.size w wc))
 case first=>
  have H:=HC2.out
  clear HC2
  obtain⟨t1,A1,H⟩:=bnd H
  by_cases c1:t1=true
  ·subst c1
   rw[if_pos rfl]at H
   obtain⟨t2,A2,H⟩:=bnd H
   by_cases c2:t2=true
   ·subst c2
    rw[if_pos rfl]at H
    obtain⟨t3,A3,H⟩:=bnd H
    have H':=C H
    clear H
    obtain⟨hcz1_0,hcz1_1,hcz1_2,hcz1_3,hcz1_4,hcz1_5,hcz1_6,hcz1_7,hcz1_8,hcz1_9,hcz1_10,hcz1_11,hcz1_12,hcz1_13,hfz1_0,hfz1_1,hfz1_2,hfz1_3,hfz1_4,hfz1_5,hfz1_6,hfz1_7,hfz1_8,hfz1_9,hfz1_10,hfz1_11,hfz1_12,hfz1_13⟩:=d14 BK1.out
    go_wp2_with (first|((with_reducible refine gate_callee (f:=75) rfl ?_);refine gl 75 (some 5) Tryd.func75 #[L A0_0 l0_0.length c0_0] ?_;(with_reducible refine(spec_JobsOk.calls k _ _ l0_0 true _ ?side1 ?side2 A1.out).mono ?_);(case side1=>exact uC (Z HR1_0.out HB.out));(case side2=>exact HC1_0.out);rintro e w2 ⟨rfl,hb⟩;refine⟨_,rfl,?_⟩;replace BK1:=eK BK1 hb;replace HB:=eB hb;clear hb;obtain⟨hcz2_0,hcz2_1,hcz2_2,hcz2_3,hcz2_4,hcz2_5,hcz2_6,hcz2_7,hcz2_8,hcz2_9,hcz2_10,hcz2_11,hcz2_12,hcz2_13,hfz2_0,hfz2_1,hfz2_2,hfz2_3,hfz2_4,hfz2_5,hfz2_6,hfz2_7,hfz2_8,hfz2_9,hfz2_10,hfz2_11,hfz2_12,hfz2_13⟩:=d14 BK1.out)|(go_at_call 76;(with_reducible refine(spec_LineOk.calls k a0_7 a0_8 _ _ l0_9 _ _ l0_10 a0_11 a0_12 true _ ?side1 ?side2 ?side3 ?side4 A2.out).mono ?_);(case side1=>exact uC (Z HR1_9.out HB.out));(case side2=>exact HC1_9.out);(case side3=>exact uC (Z HR1_10.out HB.out));(case side4=>exact HC1_10.out);rintro e w3 ⟨rfl,hb⟩;replace BK1:=eK BK1 hb;replace HB:=eB hb;clear hb;have h_:=d14 BK1.out;(repeat(obtain⟨_,h_⟩:=h_)))|(go_at_call 63;(with_reducible refine(spec_l01In.calls a0_13 0 100000 t3 _ A3.out).mono ?_);rintro e w' ⟨rfl,⟨nd,rfl⟩⟩))
    go_meet
    case rel=>exact⟨_,(!t3),rS,H',⟨oL⟩,⟨bK BK1.out⟩,⟨uB⟩⟩
   ·replace c2:=Bool.eq_false_iff.mpr c2
    subst c2
    rw[if_neg Bool.false_ne_true]at H
    have H':=C H
    clear H
    obtain⟨hcz1_0,hcz1_1,hcz1_2,hcz1_3,hcz1_4,hcz1_5,hcz1_6,hcz1_7,hcz1_8,hcz1_9,hcz1_10,hcz1_11,hcz1_12,hcz1_13,hfz1_0,hfz1_1,hfz1_2,hfz1_3,hfz1_4,hfz1_5,hfz1_6,hfz1_7,hfz1_8,hfz1_9,hfz1_10,hfz1_11,hfz1_12,hfz1_13⟩:=d14 BK1.out
    go_wp2_with (first|((with_reducible refine gate_callee (f:=75) rfl ?_);refine gl 75 (some 5) Tryd.func75 #[L A0_0 l0_0.length c0_0] ?_;(with_reducible refine(spec_JobsOk.calls k _ _ l0_0 true _ ?side1 ?side2 A1.out).mono ?_);(case side1=>exact uC (Z HR1_0.out HB.out));(case side2=>exact HC1_0.out);rintro e w2 ⟨rfl,hb⟩;refine⟨_,rfl,?_⟩;replace BK1:=eK BK1 hb;replace HB:=eB hb;clear hb;have h_:=d14 BK1.out;(repeat(obtain⟨_,h_⟩:=h_)))|(go_at_call 76;(with_reducible refine(spec_LineOk.calls k a0_7 a0_8 _ _ l0_9 _ _ l0_10 a0_11 a0_12 false _ ?side1 ?side2 ?side3 ?side4 A2.out).mono ?_);(case side1=>exact uC (Z HR1_9.out HB.out));(case side2=>exact HC1_9.out);(case side3=>exact uC (Z HR1_10.out HB.out));(case side4=>exact HC1_10.out);rintro e w3 ⟨rfl,hb⟩;replace BK1:=eK BK1 hb;replace HB:=eB hb;clear hb))
    go_meet
    case rel=>exact⟨_,(true),rS,H',⟨oL⟩,⟨bK BK1.out⟩,⟨uB⟩⟩
  ·replace c1:=Bool.eq_false_iff.mpr c1
   subst c1
   rw[if_neg Bool.false_ne_true]at H
   have H':=C H
   clear H
   obtain⟨hcz1_0,hcz1_1,hcz1_2,hcz1_3,hcz1_4,hcz1_5,hcz1_6,hcz1_7,hcz1_8,hcz1_9,hcz1_10,hcz1_11,hcz1_12,hcz1_13,hfz1_0,hfz1_1,hfz1_2,hfz1_3,hfz1_4,hfz1_5,hfz1_6,hfz1_7,hfz1_8,hfz1_9,hfz1_10,hfz1_11,hfz1_12,hfz1_13⟩:=d14 BK1.out
   go_wp2_with (first|((with_reducible refine gate_callee (f:=75) rfl ?_);refine gl 75 (some 5) Tryd.func75 #[L A0_0 l0_0.length c0_0] ?_;(with_reducible refine(spec_JobsOk.calls k _ _ l0_0 false _ ?side1 ?side2 A1.out).mono ?_);(case side1=>exact uC (Z HR1_0.out HB.out));(case side2=>exact HC1_0.out);rintro e w2 ⟨rfl,hb⟩;refine⟨_,rfl,?_⟩;replace BK1:=eK BK1 hb;replace HB:=eB hb;clear hb))
   go_meet
   case rel=>exact⟨_,(true),rS,H',⟨oL⟩,⟨bK BK1.out⟩,⟨uB⟩⟩
 case rest=>
  clear HC2
  obtain⟨kq,x1_1,rfl,HA,HJ1,BK1,HB⟩:=hcut
  cases kq with
  |zero=>exact absurd HA.out (by simp[spec_MachineOk.j0])
  |succ kj1=>
   have H:=HA.out
   clear HA
   simp only[spec_MachineOk.j0]at H
   by_cases c1:x1_1=true
   ·subst c1
    rw[if_pos rfl]at H
    obtain rfl:=Option.some.inj H
    exact spec_MachineOk.W1
   ·replace c1:=Bool.eq_false_iff.mpr c1
    subst c1
    rw[if_neg Bool.false_ne_true]at H
    by_cases c2:(a0_1==0 && (a0_2==0 && (a0_3==0 && (!a0_4 && (a0_5==0 && (!a0_6))))))=true
    ·rw[if_pos c2]at H
     have c2b0:(a0_1==0 && (a0_2==0 && (a0_3==0 && (!a0_4 && (a0_5==0 && (!a0_6))))))=true:=c2
     (try(have c2b1:decide (a0_1=0 && (a0_2==0 && (a0_3==0 && (!a0_4 && (a0_5==0 && (!a0_6))))))=true:=by simpa using c2))
     (try(have c2b2:(a0_1==0 && (a0_2==0 && (a0_3==0 && (!a0_4 && (a0_5==0 && (!a0_6))))))=true:=by simpa using c2))
     clear c2
     obtain rfl:=Option.some.inj H
     have h_:=d14 BK1.out;(repeat(obtain⟨_,h_⟩:=h_))
     exact spec_MachineOk.W1
    ·rw[if_neg c2]at H
     have c2b0:(a0_1==0 && (a0_2==0 && (a0_3==0 && (!a0_4 && (a0_5==0 && (!a0_6))))))=false:=by simpa using c2
     (try(have c2b1:decide (a0_1=0 && (a0_2==0 && (a0_3==0 && (!a0_4 && (a0_5==0 && (!a0_6))))))=false:=by simpa using c2))
     (try(have c2b2:(a0_1==0 && (a0_2==0 && (a0_3==0 && (!a0_4 && (a0_5==0 && (!a0_6))))))=false:=by simpa using c2))
     (try(have c2b3:¬(a0_1=0 && (a0_2==0 && (a0_3==0 && (!a0_4 && (a0_5==0 && (!a0_6)))))):=by simpa using c2))
     clear c2
     obtain⟨t1,A1,H⟩:=bnd H
     by_cases c3:t1=true
     ·subst c3
      rw[if_pos rfl]at H
      obtain⟨t2,A2,H⟩:=bnd H
      by_cases c4:t2≤40
      ·rw[if_pos c4]at H
       have c4b0:decide (t2≤40)=true:=decide_eq_true c4
       clear c4
       obtain⟨t3,A3,H⟩:=bnd H
       obtain rfl:=Option.some.inj H
       have h_:=d14 BK1.out;(repeat(obtain⟨_,h_⟩:=h_))
       try go_wp2
       replace BK1:=dK BK1
       replace HB:=dB HB
       refine start_ (n:=19) (S:=fun w'=>cl14 w' gb1 (L A0_0 l0_0.length c0_0) (V I a0_1) (V I a0_2) (V I a0_3) (O a0_4) (V I a0_5) (O a0_6) (V I a0_7) (V I a0_8) (L A0_9 l0_9.length c0_9) (L A0_10 l0_10.length c0_10) (V I a0_11) (O a0_12) (V I a0_13)) (ds:= []) #[false,false,false,false,false,false,false,false,false,false,false,false,false,false,false,false,false,false,false] (by kernel_rfl) rfl rfl hh (fun hHeld=> ?_);refine with_tabW spec_MachineOk.tab5 spec_MachineOk.bits5 (fun HT_ HW_=> ?_)
       generalize wc.drew=w2 at BK1 HB hHeld ⊢
       refine pu 0 (some 27) ?_
       refine tu 1 (some 28) hHeld ?_
       refine ou 2 (some 29) (fun K hK=> ?_)
       refine gs Tryd.func61 #[G #[V I a0_1,V I a0_2,V I a0_3,O a0_4,V I a0_5,O a0_6]] ?_
       with_reducible refine(spec_JobOk.calls a0_1 a0_2 a0_3 a0_4 a0_5 a0_6 true _ A1.out).mono ?_
       rintro e w3 ⟨rfl,hb⟩
       refine⟨_,rfl,?_⟩
       replace BK1:=eK BK1 hb
       replace HB:=eB hb
       (try clear hb)
       refine hK.out _ _ hh (fun hHeld=> ?_)
       clear hK K
       refine nu (N:=(some 29)) ?_
       refine pu 3 (some 30) ?_
       refine pu 4 (some 31) ?_
       refine tu 5 (some 32) hHeld ?_
       refine ou 6 (some 33) (fun K hK=> ?_)
       refine gs Tryd.func77 #[G #[V I a0_1,V I a0_2,V I a0_3,O a0_4,V I a0_5,O a0_6]] ?_
       with_reducible refine(spec_JobSheets.calls kj1 a0_1 a0_2 a0_3 a0_4 a0_5 a0_6 t2 _ A2.out).mono ?_
       rintro e w4 ⟨rfl,hb⟩
       refine⟨_,rfl,?_⟩
       replace BK1:=eK BK1 hb
       replace HB:=eB hb
       (try clear hb)
       refine hK.out _ _ hh (fun hHeld=> ?_)
       clear hK K
       refine nu (N:=(some 33)) ?_
       refine pu 7 (some 34) ?_
       refine pu 8 (some 35) ?_
       refine pu 9 (some 36) ?_
       refine pu 10 (some 37) ?_
       refine pu 13 (some 40) ?_
       refine pu 14 (some 41) ?_
       refine tu 11 (some 38) hHeld ?_
       refine tu 15 (some 42) hHeld ?_
       refine ou 12 (some 39) (fun K hK=> ?_)
       refine gs Tryd.func77 #[G #[V I a0_1,V I a0_2,V I a0_3,O a0_4,V I a0_5,O a0_6]] ?_
       with_reducible refine(spec_JobSheets.calls kj1 a0_1 a0_2 a0_3 a0_4 a0_5 a0_6 t3 _ A3.out).mono ?_
       rintro e w5 ⟨rfl,hb⟩
       refine⟨_,rfl,?_⟩
       replace BK1:=eK BK1 hb
       replace HB:=eB hb
       (try clear hb)
       refine hK.out _ _ hh (fun hHeld=> ?_)
       clear hK K
       refine nu (N:=(some 39)) ?_
       refine pu 16 (some 43) ?_
       refine pu 17 (some 44) ?_
       refine pu 18 (some 2) ?_
       refine done_ (done_of HT_.out (by kernel_rfl)) ?_
       try go_wp2
       go_ret
       exact⟨rE,uB⟩
      ·rw[if_neg c4]at H
       have c4b0:decide (t2≤40)=false:=decide_eq_false c4
       clear c4
       obtain rfl:=Option.some.inj H
       have h_:=d14 BK1.out;(repeat(obtain⟨_,h_⟩:=h_))
       try go_wp2
       replace BK1:=dK BK1
       replace HB:=dB HB
       refine start_ (n:=19) (S:=fun w'=>cl14 w' gb1 (L A0_0 l0_0.length c0_0) (V I a0_1) (V I a0_2) (V I a0_3) (O a0_4) (V I a0_5) (O a0_6) (V I a0_7) (V I a0_8) (L A0_9 l0_9.length c0_9) (L A0_10 l0_10.length c0_10) (V I a0_11) (O a0_12) (V I a0_13)) (ds:= []) #[false,false,false,false,false,false,false,false,false,false,false,false,false,false,false,false,false,false,false] (by kernel_rfl) rfl rfl hh (fun hHeld=> ?_);refine with_tabW spec_MachineOk.tab5 spec_MachineOk.bits5 (fun HT_ HW_=> ?_)
       generalize wc.drew=w2 at BK1 HB hHeld ⊢
       refine pu 0 (some 27) ?_
       refine tu 1 (some 28) hHeld ?_
       refine ou 2 (some 29) (fun K hK=> ?_)
       refine gs Tryd.func61 #[G #[V I a0_1,V I a0_2,V I a0_3,O a0_4,V I a0_5,O a0_6]] ?_
       with_reducible refine(spec_JobOk.calls a0_1 a0_2 a0_3 a0_4 a0_5 a0_6 true _ A1.out).mono ?_
       rintro e w3 ⟨rfl,hb⟩
       refine⟨_,rfl,?_⟩
       replace BK1:=eK BK1 hb
       replace HB:=eB hb
       (try clear hb)
       refine hK.out _ _ hh (fun hHeld=> ?_)
       clear hK K
       refine nu (N:=(some 29)) ?_
       refine pu 3 (some 30) ?_
       refine pu 4 (some 31) ?_
       refine tu 5 (some 32) hHeld ?_
       refine ou 6 (some 33) (fun K hK=> ?_)
       refine gs Tryd.func77 #[G #[V I a0_1,V I a0_2,V I a0_3,O a0_4,V I a0_5,O a0_6]] ?_
       with_reducible refine(spec_JobSheets.calls kj1 a0_1 a0_2 a0_3 a0_4 a0_5 a0_6 t2 _ A2.out).mono ?_
       rintro e w4 ⟨rfl,hb⟩
       refine⟨_,rfl,?_⟩
       replace BK1:=eK BK1 hb
       replace HB:=eB hb
       (try clear hb)
       refine hK.out _ _ hh (fun hHeld=> ?_)
       clear hK K
       refine nu (N:=(some 33)) ?_
       refine pu 7 (some 34) ?_
       refine pu 8 (some 35) ?_
       refine pu 9 (some 36) ?_
       refine px 10 (some 37) ?_
       refine px 11 (some 38) ?_
       refine px 12 (some 39) ?_
       refine px 13 (some 40) ?_
       refine px 14 (some 41) ?_
       refine px 15 (some 42) ?_
       refine px 16 (some 43) ?_
       refine pu 17 (some 44) ?_
       refine pu 18 (some 2) ?_
       refine done_ (done_of HT_.out (by kernel_rfl)) ?_
       try go_wp2
       go_ret
       exact⟨rE,uB⟩
     ·replace c3:=Bool.eq_false_iff.mpr c3
      subst c3
      rw[if_neg Bool.false_ne_true]at H
      obtain rfl:=Option.some.inj H
      have h_:=d14 BK1.out;(repeat(obtain⟨_,h_⟩:=h_))
      try go_wp2
      replace BK1:=dK BK1
      replace HB:=dB HB
      refine start_ (n:=19) (S:=fun w'=>cl14 w' gb1 (L A0_0 l0_0.length c0_0) (V I a0_1) (V I a0_2) (V I a0_3) (O a0_4) (V I a0_5) (O a0_6) (V I a0_7) (V I a0_8) (L A0_9 l0_9.length c0_9) (L A0_10 l0_10.length c0_10) (V I a0_11) (O a0_12) (V I a0_13)) (ds:= []) #[false,false,false,false,false,false,false,false,false,false,false,false,false,false,false,false,false,false,false] (by kernel_rfl) rfl rfl hh (fun hHeld=> ?_);refine with_tabW spec_MachineOk.tab5 spec_MachineOk.bits5 (fun HT_ HW_=> ?_)
      generalize wc.drew=w2 at BK1 HB hHeld ⊢
      refine pu 0 (some 27) ?_
      refine tu 1 (some 28) hHeld ?_
      refine ou 2 (some 29) (fun K hK=> ?_)
      refine gs Tryd.func61 #[G #[V I a0_1,V I a0_2,V I a0_3,O a0_4,V I a0_5,O a0_6]] ?_
      with_reducible refine(spec_JobOk.calls a0_1 a0_2 a0_3 a0_4 a0_5 a0_6 false _ A1.out).mono ?_
      rintro e w3 ⟨rfl,hb⟩
      refine⟨_,rfl,?_⟩
      replace BK1:=eK BK1 hb
      replace HB:=eB hb
      (try clear hb)
      refine hK.out _ _ hh (fun hHeld=> ?_)
      clear hK K
      refine nu (N:=(some 29)) ?_
      refine pu 3 (some 30) ?_
      refine px 4 (some 31) ?_
      refine px 5 (some 32) ?_
      refine px 6 (some 33) ?_
      refine px 7 (some 34) ?_
      refine pu 8 (some 35) ?_
      refine pu 9 (some 36) ?_
      refine px 10 (some 37) ?_
      refine px 11 (some 38) ?_
      refine px 12 (some 39) ?_
      refine px 13 (some 40) ?_
      refine px 14 (some 41) ?_
      refine px 15 (some 42) ?_
      refine px 16 (some 43) ?_
      refine pu 17 (some 44) ?_
      refine pu 18 (some 2) ?_
      refine done_ (done_of HT_.out (by kernel_rfl)) ?_
      try go_wp2
      go_ret
      exact⟨rE,uB⟩
def spec_FormatMachine.f (k:Nat) (l0_0:List (S40)) (a0_1:Int) (a0_2:Int) (a0_3:Int) (a0_4:Bool) (a0_5:Int) (a0_6:Bool) (a0_7:Int) (a0_8:Int) (l0_9:List Int) (l0_10:List Int) (a0_11:Int) (a0_12:Bool) (a0_13:Int):Option (List ByteArray):=(spec_MachineOk.f k l0_0 a0_1 a0_2 a0_3 a0_4 a0_5 a0_6 a0_7 a0_8 l0_9 l0_10 a0_11 a0_12 a0_13).bind fun t228=>(if t228=true then((spec_FormatInt.f k (l0_0.length:Int)).bind fun t232=>(if 5+t232.size≤9223372036854775807 then((spec_FormatInt.f k a0_1).bind fun t233=>(if 4+t233.size≤9223372036854775807 then((spec_FormatInt.f k (l0_10.length:Int)).bind fun t234=>(if 4+t234.size≤9223372036854775807 then((spec_FormatInt.f k a0_11).bind fun t235=>(if 7+t235.size≤9223372036854775807 then((spec_FormatInt.f k (wrap64 (a0_13+(l0_10.length:Int)))).bind fun t236=>(if 8+t236.size≤9223372036854775807 then(some (([(⟨#[106,111,98,115,32]⟩:ByteArray)++t232,(⟨#[110,111,119,32]⟩:ByteArray)++t233,(⟨#[111,117,116,32]⟩:ByteArray)++t234,(⟨#[119,97,115,116,101,100,32]⟩:ByteArray)++t235,(⟨#[112,114,105,110,116,101,100,32]⟩:ByteArray)++t236]:List ByteArray))) else(none))) else(none))) else(none))) else(none))) else(none))) else(some (([]:List ByteArray))))
theorem spec_FormatMachine.mono:∀a0 a1 a2 a3 a4 a5 a6 a7 a8 a9 a10 a11 a12 a13 k,LeO (spec_FormatMachine.f k a0 a1 a2 a3 a4 a5 a6 a7 a8 a9 a10 a11 a12 a13) (spec_FormatMachine.f (k+1) a0 a1 a2 a3 a4 a5 a6 a7 a8 a9 a10 a11 a12 a13):=by
 intro a0 a1 a2 a3 a4 a5 a6 a7 a8 a9 a10 a11 a12 a13 k
 unfold spec_FormatMachine.f
 repeat' first|(with_reducible first|apply spec_FormatInt.mono|apply spec_MachineOk.mono|exact LeO.refl _|exact LeO.none _|refine LeO.ite ?_ ?_|refine LeO.bind ?_ (fun _=> ?_))|exact LeO.none _|refine LeO.ite ?_ ?_|refine LeO.bind ?_ (fun _=> ?_)
def spec_FormatMachine.T3:Bool×List (List Nat×List Nat):=(true,[([],[]),([0],[0]),([1],[1]),([2],[2]),([3],[3]),([],[]),([5],[5]),([6],[6]),([7,3],[7]),([8],[8]),([],[]),([10],[10]),([11],[11]),([12],[12]),([13,8],[13]),([14],[14]),([],[]),([16],[16]),([17],[17]),([18,14],[18]),([19],[19]),([],[]),([21],[21]),([],[]),([23],[23]),([24],[24]),([25],[25]),([22,26],[22,26]),([27,19],[27]),([28],[28]),([4,9,15,20,29],[4,9,15,20,29]),([30,28,0,1,2,3,4,5,6,7,8,9,10,11,12,13,14,15,16,17,18,19,20,21,22,23,24,25,26,27,28,29,30],[30])])
def spec_FormatMachine.B3:List Nat:= [0,1,3,7,15,0,32,96,239,495,0,1024,3072,7168,15855,32239,0,65536,196608,490991,1015279,0,2097152,0,8388608,25165824,58720256,132120576,267353583,535789039,1073741823,2147483647]
theorem spec_FormatMachine.tab3:rtab .any (opsOf Tryd.f21 3)=spec_FormatMachine.T3:=by kernel_rfl
theorem spec_FormatMachine.bits3:waitsOk spec_FormatMachine.T3.2 spec_FormatMachine.B3=true:=by kernel_rfl
set_option maxHeartbeats 40000000 in
set_option maxRecDepth 100000 in
theorem spec_FormatMachine.calls (k:Nat) (A0_0:Option Addr) (c0_0:Nat) (l0_0:List (S40)) (a0_1:Int) (a0_2:Int) (a0_3:Int) (a0_4:Bool) (a0_5:Int) (a0_6:Bool) (a0_7:Int) (a0_8:Int) (A0_9:Option Addr) (c0_9:Nat) (l0_9:List Int) (A0_10:Option Addr) (c0_10:Nat) (l0_10:List Int) (a0_11:Int) (a0_12:Bool) (a0_13:Int) (r:List ByteArray) (w:World) (hr0_0:Kd.C k40 w A0_0 l0_0.length l0_0) (hc0_0:l0_0.length≤c0_0) (hr0_9:Kd.C (Kd.int .i64) w A0_9 l0_9.length l0_9) (hc0_9:l0_9.length≤c0_9) (hr0_10:Kd.C (Kd.int .i64) w A0_10 l0_10.length l0_10) (hc0_10:l0_10.length≤c0_10) (h:spec_FormatMachine.f k l0_0 a0_1 a0_2 a0_3 a0_4 a0_5 a0_6 a0_7 a0_8 l0_9 l0_10 a0_11 a0_12 a0_13=some r):
  Calls Tryd.prog 21 #[G #[L A0_0 l0_0.length c0_0,V I a0_1,V I a0_2,V I a0_3,O a0_4,V I a0_5,O a0_6,V I a0_7,V I a0_8,L A0_9 l0_9.length c0_9,L A0_10 l0_10.length c0_10,V I a0_11,O a0_12,V I a0_13]] w fun e w'=>∃v0_:Value,e=.returned (v0_)∧Kd.R Kd.string 9 w' w.heap.size (fun _=>True) v0_ r∧Below w.heap.size w w':=by
 have hu1:=Tryd.underlying45
 have HR1_0:=C hr0_0
 have HC1_0:=C hc0_0
 (try clear hr0_0);(try clear hc0_0)
 have HR1_9:=C hr0_9
 have HC1_9:=C hc0_9
 (try clear hr0_9);(try clear hc0_9)
 have HR1_10:=C hr0_10
 have HC1_10:=C hc0_10
 (try clear hr0_10);(try clear hc0_10)
 have HB:=C (Below.refl w.heap.size w)
 have H:=h
 unfold spec_FormatMachine.f at H
 clear h
 obtain⟨t1,A1,H⟩:=bnd H
 by_cases c1:t1=true
 ·subst c1
  rw[if_pos rfl]at H
  obtain⟨t2,A2,H⟩:=bnd H
  by_cases c2:5+t2.size≤9223372036854775807
  ·rw[if_pos c2]at H
   have c2b0:=eq_true c2
   have c2b1:decide (5+t2.size≤9223372036854775807)=true:=decide_eq_true c2
   try have c2b2:(9223372036854775807<5+t2.size)=False:=eq_false (Nat.not_lt.2 c2)
   try(have h1_:=c2;simp only[ByteArray.size_append,Ito.bsz,List.size_toArray,List.length_cons,List.length_nil]at h1_;have c2b3:=eq_false (Nat.not_lt.2 h1_);clear h1_)
   obtain⟨t3,A3,H⟩:=bnd H
   by_cases c3:4+t3.size≤9223372036854775807
   ·rw[if_pos c3]at H
    have c3b0:=eq_true c3
    have c3b1:decide (4+t3.size≤9223372036854775807)=true:=decide_eq_true c3
    try have c3b2:(9223372036854775807<4+t3.size)=False:=eq_false (Nat.not_lt.2 c3)
    try(have h1_:=c3;simp only[ByteArray.size_append,Ito.bsz,List.size_toArray,List.length_cons,List.length_nil]at h1_;have c3b3:=eq_false (Nat.not_lt.2 h1_);clear h1_)
    obtain⟨t4,A4,H⟩:=bnd H
    by_cases c4:4+t4.size≤9223372036854775807
    ·rw[if_pos c4]at H
     have c4b0:=eq_true c4
     have c4b1:decide (4+t4.size≤9223372036854775807)=true:=decide_eq_true c4
     try have c4b2:(9223372036854775807<4+t4.size)=False:=eq_false (Nat.not_lt.2 c4)
     try(have h1_:=c4;simp only[ByteArray.size_append,Ito.bsz,List.size_toArray,List.length_cons,List.length_nil]at h1_;have c4b3:=eq_false (Nat.not_lt.2 h1_);clear h1_)
     obtain⟨t5,A5,H⟩:=bnd H
     by_cases c5:7+t5.size≤9223372036854775807
     ·rw[if_pos c5]at H
      have c5b0:=eq_true c5
      have c5b1:decide (7+t5.size≤9223372036854775807)=true:=decide_eq_true c5
      try have c5b2:(9223372036854775807<7+t5.size)=False:=eq_false (Nat.not_lt.2 c5)
      try(have h1_:=c5;simp only[ByteArray.size_append,Ito.bsz,List.size_toArray,List.length_cons,List.length_nil]at h1_;have c5b3:=eq_false (Nat.not_lt.2 h1_);clear h1_)
      obtain⟨t6,A6,H⟩:=bnd H
      by_cases c6:8+t6.size≤9223372036854775807
      ·rw[if_pos c6]at H
       have c6b0:=eq_true c6
       have c6b1:decide (8+t6.size≤9223372036854775807)=true:=decide_eq_true c6
       try have c6b2:(9223372036854775807<8+t6.size)=False:=eq_false (Nat.not_lt.2 c6)
       try(have h1_:=c6;simp only[ByteArray.size_append,Ito.bsz,List.size_toArray,List.length_cons,List.length_nil]at h1_;have c6b3:=eq_false (Nat.not_lt.2 h1_);clear h1_)
       obtain⟨y1,hy1⟩:∃y_:List ByteArray,y_=(([(⟨#[106,111,98,115,32]⟩:ByteArray)++t2,(⟨#[110,111,119,32]⟩:ByteArray)++t3,(⟨#[111,117,116,32]⟩:ByteArray)++t4,(⟨#[119,97,115,116,101,100,32]⟩:ByteArray)++t5,(⟨#[112,114,105,110,116,101,100,32]⟩:ByteArray)++t6]:List ByteArray)):=⟨_,rfl⟩
       replace H:(some y1)=some r:=by first|(rw[hy1];with_reducible exact H)|(have H1_:=(Option.bind_some _ _).symm.trans H;rw[hy1];with_reducible exact H1_)|(have H1_:=(Option.bind_some _ _).symm.trans H;with_reducible exact H1_)|with_reducible exact H|(rw[hy1];exact H)|exact H
       have Ny1:=C hy1
       clear hy1
       obtain rfl:=Option.some.inj H
       go_enter Tryd.func21,Tryd.ntmps21
       try go_wp2_with (first|((with_reducible refine J (N:=1) rfl ?_);refine Fix.be 1 #[L A0_0 l0_0.length c0_0,V I a0_1,V I a0_2,V I a0_3,O a0_4,V I a0_5,O a0_6,V I a0_7,V I a0_8,L A0_9 l0_9.length c0_9,L A0_10 l0_10.length c0_10,V I a0_11,O a0_12,V I a0_13] 45 ?_;intro gb1 hg w1 BK1 hb;have GW1:D (w.heap.size≤gb1):=gE hg;have GE1:=GW1;replace HB:=eB hb;clear hb hg;obtain⟨hcz1_0,hcz1_1,hcz1_2,hcz1_3,hcz1_4,hcz1_5,hcz1_6,hcz1_7,hcz1_8,hcz1_9,hcz1_10,hcz1_11,hcz1_12,hcz1_13,hfz1_0,hfz1_1,hfz1_2,hfz1_3,hfz1_4,hfz1_5,hfz1_6,hfz1_7,hfz1_8,hfz1_9,hfz1_10,hfz1_11,hfz1_12,hfz1_13⟩:=d14 BK1.out)|((with_reducible refine gate_callee (f:=46) rfl ?_);refine gl 46 (some 4) Tryd.func46 #[G #[L A0_0 l0_0.length c0_0,V I a0_1,V I a0_2,V I a0_3,O a0_4,V I a0_5,O a0_6,V I a0_7,V I a0_8,L A0_9 l0_9.length c0_9,L A0_10 l0_10.length c0_10,V I a0_11,O a0_12,V I a0_13]] ?_;(with_reducible refine(spec_MachineOk.calls k _ _ l0_0 a0_1 a0_2 a0_3 a0_4 a0_5 a0_6 a0_7 a0_8 _ _ l0_9 _ _ l0_10 a0_11 a0_12 a0_13 true _ ?side1 ?side2 ?side3 ?side4 ?side5 ?side6 A1.out).mono ?_);(case side1=>exact uC (Z HR1_0.out HB.out));(case side2=>exact HC1_0.out);(case side3=>exact uC (Z HR1_9.out HB.out));(case side4=>exact HC1_9.out);(case side5=>exact uC (Z HR1_10.out HB.out));(case side6=>exact HC1_10.out);rintro e w2 ⟨rfl,hb⟩;refine⟨_,rfl,?_⟩;replace BK1:=eK BK1 hb;replace HB:=eB hb;clear hb))
       replace BK1:=dK BK1
       replace HB:=dB HB
       refine start_ (n:=32) (S:=fun w'=>cl14 w' gb1 (L A0_0 l0_0.length c0_0) (V I a0_1) (V I a0_2) (V I a0_3) (O a0_4) (V I a0_5) (O a0_6) (V I a0_7) (V I a0_8) (L A0_9 l0_9.length c0_9) (L A0_10 l0_10.length c0_10) (V I a0_11) (O a0_12) (V I a0_13)) (ds:= []) #[false,false,false,false,false,false,false,false,false,false,false,false,false,false,false,false,false,false,false,false,false,false,false,false,false,false,false,false,false,false,false,false] (by kernel_rfl) rfl rfl hh (fun hHeld=> ?_);refine with_tabW spec_FormatMachine.tab3 spec_FormatMachine.bits3 (fun HT_ HW_=> ?_)
       generalize w2.drew=w3 at BK1 HB hHeld ⊢
       refine pu 0 (some 7) ?_
       refine pu 5 (some 12) ?_
       refine pu 6 (some 13) ?_
       refine pu 10 (some 17) ?_
       refine pu 11 (some 18) ?_
       refine pu 16 (some 23) ?_
       refine pu 17 (some 24) ?_
       refine pu 21 (some 28) ?_
       refine pu 23 (some 30) ?_
       refine pu 24 (some 31) ?_
       refine tu 1 (some 8) hHeld ?_
       refine pu 2 (some 9) ?_
       refine tu 7 (some 14) hHeld ?_
       refine tu 12 (some 19) hHeld ?_
       refine pu 13 (some 20) ?_
       refine tu 18 (some 25) hHeld ?_
       refine tu 22 (some 29) hHeld ?_
       refine tu 25 (some 32) hHeld ?_
       refine pu 26 (some 33) ?_
       refine pu 27 (some 34) ?_
       refine ou 3 (some 10) (fun K hK=> ?_)
       refine gs Tryd.func34 #[V I (l0_0.length:Int)] ?_
       with_reducible refine(spec_FormatInt.calls k (l0_0.length:Int) t2 _ A2.out).mono ?_
       rintro e w4 ⟨rfl,hb⟩
       refine⟨_,rfl,?_⟩
       replace BK1:=eK BK1 hb
       replace HB:=eB hb
       (try clear hb)
       refine hK.out _ _ hh (fun hHeld=> ?_)
       clear hK K
       refine nu (N:=(some 10)) ?_
       refine pu 4 (some 11) ?_
       refine ou 8 (some 15) (fun K hK=> ?_)
       refine gs Tryd.func34 #[V I a0_1] ?_
       with_reducible refine(spec_FormatInt.calls k a0_1 t3 _ A3.out).mono ?_
       rintro e w5 ⟨rfl,hb⟩
       refine⟨_,rfl,?_⟩
       replace BK1:=eK BK1 hb
       replace HB:=eB hb
       (try clear hb)
       refine hK.out _ _ hh (fun hHeld=> ?_)
       clear hK K
       refine nu (N:=(some 15)) ?_
       refine pu 9 (some 16) ?_
       refine ou 14 (some 21) (fun K hK=> ?_)
       refine gs Tryd.func34 #[V I (l0_10.length:Int)] ?_
       with_reducible refine(spec_FormatInt.calls k (l0_10.length:Int) t4 _ A4.out).mono ?_
       rintro e w6 ⟨rfl,hb⟩
       refine⟨_,rfl,?_⟩
       replace BK1:=eK BK1 hb
       replace HB:=eB hb
       (try clear hb)
       refine hK.out _ _ hh (fun hHeld=> ?_)
       clear hK K
       refine nu (N:=(some 21)) ?_
       refine pu 15 (some 22) ?_
       refine ou 19 (some 26) (fun K hK=> ?_)
       refine gs Tryd.func34 #[V I a0_11] ?_
       with_reducible refine(spec_FormatInt.calls k a0_11 t5 _ A5.out).mono ?_
       rintro e w7 ⟨rfl,hb⟩
       refine⟨_,rfl,?_⟩
       replace BK1:=eK BK1 hb
       replace HB:=eB hb
       (try clear hb)
       refine hK.out _ _ hh (fun hHeld=> ?_)
       clear hK K
       refine nu (N:=(some 26)) ?_
       refine pu 20 (some 27) ?_
       refine ou 28 (some 35) (fun K hK=> ?_)
       refine gs Tryd.func34 #[V I (wrap64 (a0_13+(l0_10.length:Int)))] ?_
       with_reducible refine(spec_FormatInt.calls k (wrap64 (a0_13+(l0_10.length:Int))) t6 _ A6.out).mono ?_
       rintro e w8 ⟨rfl,hb⟩
       refine⟨_,rfl,?_⟩
       replace BK1:=eK BK1 hb
       replace HB:=eB hb
       (try clear hb)
       refine hK.out _ _ hh (fun hHeld=> ?_)
       clear hK K
       refine nu (N:=(some 35)) ?_
       refine pu 29 (some 36) ?_
       refine ou 30 (some 37) (fun K hK=> ?_)
       refine Kd.R_lit_step Kd.string _ 9 ?hg (N:=37) ?hd (xs:=([(⟨#[106,111,98,115,32]⟩:ByteArray)++t2,(⟨#[110,111,119,32]⟩:ByteArray)++t3,(⟨#[111,117,116,32]⟩:ByteArray)++t4,(⟨#[119,97,115,116,101,100,32]⟩:ByteArray)++t5,(⟨#[112,114,105,110,116,101,100,32]⟩:ByteArray)++t6]:List ByteArray)) (inner:= [.string ((⟨#[106,111,98,115,32]⟩:ByteArray)++t2),.string ((⟨#[110,111,119,32]⟩:ByteArray)++t3),.string ((⟨#[111,117,116,32]⟩:ByteArray)++t4),.string ((⟨#[119,97,115,116,101,100,32]⟩:ByteArray)++t5),.string ((⟨#[112,114,105,110,116,101,100,32]⟩:ByteArray)++t6)]) (ok:=fun _=>True) (okp:=fun _=>True) ?hr ?hp (fun _ hk=>hk) trivial (Below.refl _ _) (Nat.le_refl _) (by simp) ?_;(case hd=>rfl);(case hg=>rfl);(case hr=>exact Fix.hr);(case hp=>exact(Reps.one (show Kd.M Kd.string _ _ _ ((⟨#[106,111,98,115,32]⟩:ByteArray)++t2) [.string ((⟨#[106,111,98,115,32]⟩:ByteArray)++t2)] from rfl) (Reps.one (show Kd.M Kd.string _ _ _ ((⟨#[110,111,119,32]⟩:ByteArray)++t3) [.string ((⟨#[110,111,119,32]⟩:ByteArray)++t3)] from rfl) (Reps.one (show Kd.M Kd.string _ _ _ ((⟨#[111,117,116,32]⟩:ByteArray)++t4) [.string ((⟨#[111,117,116,32]⟩:ByteArray)++t4)] from rfl) (Reps.one (show Kd.M Kd.string _ _ _ ((⟨#[119,97,115,116,101,100,32]⟩:ByteArray)++t5) [.string ((⟨#[119,97,115,116,101,100,32]⟩:ByteArray)++t5)] from rfl) (Reps.one (show Kd.M Kd.string _ _ _ ((⟨#[112,114,105,110,116,101,100,32]⟩:ByteArray)++t6) [.string ((⟨#[112,114,105,110,116,101,100,32]⟩:ByteArray)++t6)] from rfl) (Reps.none _ _)))))))
       intro v1 w9 ho1 hb hg_ hnew_
       clear hg_ hnew_
       (first|rw[←Ny1.out]at ho1|(simp only[Int.reduceToNat]at ho1;rw[←Ny1.out]at ho1))
       have HO1:=lR ho1
       replace BK1:=eK BK1 hb
       replace HB:=eB hb
       clear hb ho1
       refine hK.out _ _ hh (fun hHeld=> ?_)
       clear hK K
       refine nu (N:=(some 37)) ?_
       refine pu 31 (some 2) ?_
       refine done_ (done_of HT_.out (by kernel_rfl)) ?_
       try go_wp2
       go_ret
       exact⟨_,rE,fR HO1.out,uB⟩
      ·rw[if_neg c6]at H
       exact absurd H (by simp)
     ·rw[if_neg c5]at H
      exact absurd H (by simp)
    ·rw[if_neg c4]at H
     exact absurd H (by simp)
   ·rw[if_neg c3]at H
    exact absurd H (by simp)
  ·rw[if_neg c2]at H
   exact absurd H (by simp)
 ·replace c1:=Bool.eq_false_iff.mpr c1
  subst c1
  rw[if_neg Bool.false_ne_true]at H
  obtain⟨y1,hy1⟩:∃y_:List ByteArray,y_=(([]:List ByteArray)):=⟨_,rfl⟩
  replace H:(some y1)=some r:=by first|(rw[hy1];with_reducible exact H)|(have H1_:=(Option.bind_some _ _).symm.trans H;rw[hy1];with_reducible exact H1_)|(have H1_:=(Option.bind_some _ _).symm.trans H;with_reducible exact H1_)|with_reducible exact H|(rw[hy1];exact H)|exact H
  have Ny1:=C hy1
  clear hy1
  obtain rfl:=Option.some.inj H
  go_enter Tryd.func21,Tryd.ntmps21
  go_wp2_with (first|((with_reducible refine J (N:=1) rfl ?_);refine Fix.be 1 #[L A0_0 l0_0.length c0_0,V I a0_1,V I a0_2,V I a0_3,O a0_4,V I a0_5,O a0_6,V I a0_7,V I a0_8,L A0_9 l0_9.length c0_9,L A0_10 l0_10.length c0_10,V I a0_11,O a0_12,V I a0_13] 45 ?_;intro gb1 hg w1 BK1 hb;have GW1:D (w.heap.size≤gb1):=gE hg;have GE1:=GW1;replace HB:=eB hb;clear hb hg;have h_:=d14 BK1.out;(repeat(obtain⟨_,h_⟩:=h_)))|((with_reducible refine gate_callee (f:=46) rfl ?_);refine gl 46 (some 4) Tryd.func46 #[G #[L A0_0 l0_0.length c0_0,V I a0_1,V I a0_2,V I a0_3,O a0_4,V I a0_5,O a0_6,V I a0_7,V I a0_8,L A0_9 l0_9.length c0_9,L A0_10 l0_10.length c0_10,V I a0_11,O a0_12,V I a0_13]] ?_;(with_reducible refine(spec_MachineOk.calls k _ _ l0_0 a0_1 a0_2 a0_3 a0_4 a0_5 a0_6 a0_7 a0_8 _ _ l0_9 _ _ l0_10 a0_11 a0_12 a0_13 false _ ?side1 ?side2 ?side3 ?side4 ?side5 ?side6 A1.out).mono ?_);(case side1=>exact uC (Z HR1_0.out HB.out));(case side2=>exact HC1_0.out);(case side3=>exact uC (Z HR1_9.out HB.out));(case side4=>exact HC1_9.out);(case side5=>exact uC (Z HR1_10.out HB.out));(case side6=>exact HC1_10.out);rintro e w2 ⟨rfl,hb⟩;refine⟨_,rfl,?_⟩;replace BK1:=eK BK1 hb;replace HB:=eB hb;clear hb)|((with_reducible refine J (N:=6) rfl ?_);refine Kd.R_lit Kd.string _ 9 ?hg (N:=6) ?hd (xs:=([]:List ByteArray)) (inner:= []) (ok:=fun _=>True) (okp:=fun _=>True) ?hr ?hp (fun _ hk=>hk) trivial (Below.refl _ _) (Nat.le_refl _) (by simp) ?_;(case hd=>rfl);(case hg=>rfl);(case hr=>exact Fix.hr);(case hp=>exact(Reps.none _ _));intro v1 w3 ho1 hb hg_ hnew_;clear hg_ hnew_;(first|rw[←Ny1.out]at ho1|(simp only[Int.reduceToNat]at ho1;rw[←Ny1.out]at ho1));have HO1:=lR ho1;replace BK1:=eK BK1 hb;replace HB:=eB hb;clear hb ho1))
  go_ret
  exact⟨_,rE,fR HO1.out,uB⟩
def laws_toJob.f (a0_0:Int) (a0_1:Int) (a0_2:Int) (a0_3:Bool) (a0_4:Int) (a0_5:Bool):Option (Int×Int×Int×Bool×Int×Bool):=some (a0_0,a0_1,a0_2,a0_3,a0_4,a0_5)
set_option maxHeartbeats 40000000 in
set_option maxRecDepth 100000 in
theorem laws_toJob.calls (a0_0:Int) (a0_1:Int) (a0_2:Int) (a0_3:Bool) (a0_4:Int) (a0_5:Bool) (r1:Int) (r2:Int) (r3:Int) (r4:Bool) (r5:Int) (r6:Bool) (w:World) (h:laws_toJob.f a0_0 a0_1 a0_2 a0_3 a0_4 a0_5=some (r1,r2,r3,r4,r5,r6)):
  Calls Tryd.prog 48 #[G #[V I a0_0,V I a0_1,V I a0_2,O a0_3,V I a0_4,O a0_5]] w fun e w'=>e=.returned (G #[V I r1,V I r2,V I r3,O r4,V I r5,O r6])∧Below w.heap.size w w':=by
 have hu1:=Tryd.underlying52
 have hu2:=Tryd.underlying40
 have HB:=C (Below.refl w.heap.size w)
 have H:=h
 unfold laws_toJob.f at H
 clear h
 simp only[Option.some.injEq,Prod.mk.injEq]at H
 obtain⟨rfl,rfl,rfl,rfl,rfl,rfl⟩:=H
 go_enter Tryd.func48,Tryd.ntmps48
 go_wp2_with (first|((with_reducible refine J (N:=1) rfl ?_);refine Fix.be 1 #[V I a0_0,V I a0_1,V I a0_2,O a0_3,V I a0_4,O a0_5] 52 ?_;intro gb1 hg w1 BK1 hb;have GW1:D (w.heap.size≤gb1):=gE hg;have GE1:=GW1;replace HB:=eB hb;clear hb hg)|((with_reducible refine J (N:=2) rfl ?_);refine Fix.be 2 #[V I 0,V I 0,V I 0,O false,V I 0,O false] 40 ?_;intro gb2 hg w2 BK2 hb;have GW2:D (w.heap.size≤gb2):=gE hg;have GE2:=GW2;have NB1_241:=nL hg BK1;have NB2_240:=nG hg BK1;replace BK1:=eK BK1 hb;replace HB:=eB hb;clear hb hg)|((with_reducible refine J (N:=3) rfl ?_);refine Fix.be 3 #[V I 0,V I 0,V I 0,O false,V I 0,O false] 40 ?_;intro gb3 hg w3 BK3 hb;have GW3:D (w.heap.size≤gb3):=gE hg;have GE3:=GW3;have NB1_242:=nL hg BK1;have NB3_240:=nG hg BK1;have NB2_242:=nL hg BK2;have NB3_241:=nG hg BK2;replace BK1:=eK BK1 hb;replace BK2:=eK BK2 hb;replace HB:=eB hb;clear hb hg;have hnb1:=NB1_241.out;have hnc1:=NB2_240.out;have hnb2:=NB1_242.out;have hnc2:=NB3_240.out;have h_:=d6 BK1.out;(repeat(obtain⟨_,h_⟩:=h_));have hnb3:=NB3_241.out;have hnc3:=NB2_242.out;obtain⟨hcz1_0,hcz1_1,hcz1_2,hcz1_3,hcz1_4,hcz1_5,hfz1_0,hfz1_1,hfz1_2,hfz1_3,hfz1_4,hfz1_5⟩:=d6 BK3.out;have h_:=d6 BK2.out;(repeat(obtain⟨_,h_⟩:=h_))))
 refine bodyPost_ret (results_cell_row rfl _ _ gb2 40 #[V I a0_0,V I a0_1,V I a0_2,O a0_3,V I a0_4,O a0_5] (0,0) _ rfl (bK BK2.out) Tryd.underlying40 rfl (by kernel_rfl)) rfl ?_
 exact⟨rE,uB⟩
def laws_toJobS.l0:Nat→List (S52)→List (S40)→Int→Option ((List (S40)))
 |0,_,_,_=>none
 |k+1,x0,x3,x4=>if x4<(x0.length:Int) then(if 0≤x4 then((laws_toJob.f ((rd_T52 x0 x4).f0) ((rd_T52 x0 x4).f1) ((rd_T52 x0 x4).f2) ((rd_T52 x0 x4).f3) ((rd_T52 x0 x4).f4) ((rd_T52 x0 x4).f5)).bind fun bt247=>(if x4<(x3.length:Int) then(laws_toJobS.l0 k x0 (x3.set (x4:Int).toNat (⟨bt247.1,bt247.2.1,bt247.2.2.1,bt247.2.2.2.1,bt247.2.2.2.2.1,bt247.2.2.2.2.2⟩:S40)) (wrap64 (x4+1))) else(none))) else(none)) else(some x3)
def laws_toJobS.f (k:Nat) (l0:List (S52)):Option ((List (S40))):=if 0≤(l0.length:Int) then(if((l0.length:Int):Int).toNat≤5864062014805 then(laws_toJobS.l0 k l0 (List.replicate ((l0.length:Int):Int).toNat z40) 0) else(none)) else(none)
theorem laws_toJobS.mono_l:∀k,(∀y0 y1 y2,LeO (laws_toJobS.l0 k y0 y1 y2) (laws_toJobS.l0 (k+1) y0 y1 y2))
 |0=>fun _ _ _ r h=>by simp[laws_toJobS.l0]at h
 |k+1=>by
  have ih0:=laws_toJobS.mono_l k
  ·intro y0 y1 y2
   unfold laws_toJobS.l0
   repeat' first|(with_reducible first|apply ih0|exact LeO.refl _|exact LeO.none _|refine LeO.ite ?_ ?_|refine LeO.bind ?_ (fun _=> ?_))|apply ih0|exact LeO.none _|refine LeO.ite ?_ ?_|refine LeO.bind ?_ (fun _=> ?_)
theorem laws_toJobS.mono:∀a0 k,LeO (laws_toJobS.f k a0) (laws_toJobS.f (k+1) a0):=by
 intro a0 k
 have ih0:=laws_toJobS.mono_l k
 unfold laws_toJobS.f
 repeat' first|(with_reducible first|apply ih0|exact LeO.refl _|exact LeO.none _|refine LeO.ite ?_ ?_|refine LeO.bind ?_ (fun _=> ?_))|apply ih0|exact LeO.none _|refine LeO.ite ?_ ?_|refine LeO.bind ?_ (fun _=> ?_)
set_option maxHeartbeats 40000000 in
set_option maxRecDepth 100000 in
theorem laws_toJobS.calls (k:Nat) (A0:Option Addr) (c0:Nat) (l0:List (S52)) (r:List (S40)) (w:World) (hr0:Kd.C k52 w A0 l0.length l0) (hc0:l0.length≤c0) (h:laws_toJobS.f k l0=some r):
  Calls Tryd.prog 47 #[L A0 l0.length c0] w fun e w'=>∃v0_:Value,e=.returned (v0_)∧Kd.R k40 40 w' w.heap.size (fun _=>True) v0_ r∧Below w.heap.size w w':=by
 have hu1:=Tryd.underlying52
 have hu2:=Tryd.underlying40
 have HR1:=C hr0
 have HC1:=C hc0
 (try clear hr0);(try clear hc0)
 have HB:=C (Below.refl w.heap.size w)
 have H:=h
 unfold laws_toJobS.f at H
 clear h
 by_cases c1:0≤(l0.length:Int)
 ·rw[if_pos c1]at H
  have c1b0:=eq_true c1
  have c1b1:decide (0≤(l0.length:Int))=true:=decide_eq_true c1
  clear c1
  by_cases c2:((l0.length:Int):Int).toNat≤5864062014805
  ·rw[if_pos c2]at H
   have c2b0:=eq_true c2
   have c2b1:decide (((l0.length:Int):Int).toNat≤5864062014805)=true:=decide_eq_true c2
   clear c2
   obtain⟨y1,hy1⟩:∃y_:List (S40),y_=(List.replicate ((l0.length:Int):Int).toNat z40):=⟨_,rfl⟩
   replace H:(laws_toJobS.l0 k l0 y1 0)=some r:=by first|(rw[hy1];with_reducible exact H)|(have H1_:=(Option.bind_some _ _).symm.trans H;rw[hy1];with_reducible exact H1_)|(have H1_:=(Option.bind_some _ _).symm.trans H;with_reducible exact H1_)|with_reducible exact H|(rw[hy1];exact H)|exact H
   have Ny1:=C hy1
   clear hy1
   have H':=C H
   clear H
   go_enter Tryd.func47,Tryd.ntmps47
   go_wp2_with (first|((with_reducible refine J (N:=7) rfl ?_);refine Kd.R_make k40 _ 40 rfl (N:=7) rfl 38 _ _ rfl (l0.length:Int) rfl rfl Tryd.underlying38 (G #[(V I 0),(V I 0),(V I 0),(O false),(V I 0),(O false)]) 48 info40 rfl (by decide) (by omega) z40 (ok:=fun _=>True) (okp:=fun _=>True) (k40_mkM _ _ _ z40 ) (fun _ hk=>hk) trivial (of_decide_eq_true (by first|(with_reducible assumption)|assumption)) (Nat.le_trans (Nat.mul_le_mul_right _ (of_decide_eq_true (by first|(with_reducible assumption)|assumption):(l0.length:Int).toNat≤5864062014805)) (by omega)) (Below.refl _ _) (Nat.le_refl _) ?_;intro v1 w2 ho1 hb hg_ hnew_;clear hg_ hnew_;(first|rw[←Ny1.out]at ho1|(simp only[Int.reduceToNat]at ho1;rw[←Ny1.out]at ho1));have HO1:=lR ho1;replace HB:=eB hb;clear hb ho1))
   go_loopg [4] k (fun kq v4 w'=>∃(x1_1:List (S40)) (x2_1:Int),v4=V I x2_1∧D (laws_toJobS.l0 kq l0 x1_1 x2_1=some r)∧D (kq≤k)∧D (Kd.R k40 40 w' w.heap.size (fun _=>True) v1 x1_1)∧D (Below w.heap.size w w'))
   case atStart=>exact⟨(y1),(0),rS,H',⟨Nat.le_refl _⟩,⟨fR HO1.out⟩,⟨uB⟩⟩
   case round=>
    clear H'
    obtain⟨x1_1,x2_1,rfl,HA,HK1,HO_1,HB⟩:=hrel
    cases gk with
    |zero=>exact absurd HA.out (by simp[laws_toJobS.l0])
    |succ k1=>
     have H:=HA.out
     clear HA
     simp only[laws_toJobS.l0]at H
     by_cases c3:x2_1<(l0.length:Int)
     ·rw[if_pos c3]at H
      have c3b0:decide (x2_1<(l0.length:Int))=true:=decide_eq_true c3
      clear c3
      by_cases c4:0≤x2_1
      ·rw[if_pos c4]at H
       have c4b0:decide (0≤x2_1)=true:=decide_eq_true c4
       clear c4
       obtain⟨⟨t1,t2,t3,t4,t5,t6⟩,A1,H⟩:=bnd H
       dsimp only at H
       by_cases c5:x2_1<(x1_1.length:Int)
       ·rw[if_pos c5]at H
        have c5b0:decide (x2_1<(x1_1.length:Int))=true:=decide_eq_true c5
        clear c5
        obtain⟨y2,hy2⟩:∃y_:List (S40),y_=(x1_1.set (x2_1:Int).toNat (⟨t1,t2,t3,t4,t5,t6⟩:S40)):=⟨_,rfl⟩
        replace H:(laws_toJobS.l0 k1 l0 y2 (wrap64 (x2_1+1)))=some r:=by first|(rw[hy2];with_reducible exact H)|(have H1_:=(Option.bind_some _ _).symm.trans H;rw[hy2];with_reducible exact H1_)|(have H1_:=(Option.bind_some _ _).symm.trans H;with_reducible exact H1_)|with_reducible exact H|(rw[hy2];exact H)|exact H
        have Ny2:=C hy2
        clear hy2
        have H':=C H
        clear H
        have p1:0≤(x2_1:Int):=of_decide_eq_true (by first|(with_reducible assumption)|assumption)
        have q1:x2_1<(l0.length:Int):=of_decide_eq_true (by first|(with_reducible assumption)|assumption)
        obtain⟨ad1,e1,hx1_0,hx1_1,hx1_2,hx1_3,hx1_4,hx1_5⟩:=at_T52 HR1.out x2_1 p1 q1
        cases e1
        replace hx1_0:=hx HB hx1_0
        replace hx1_1:=hx HB hx1_1
        replace hx1_2:=hx HB hx1_2
        replace hx1_3:=hx HB hx1_3
        replace hx1_4:=hx HB hx1_4
        replace hx1_5:=hx HB hx1_5
        replace p1:=eq_true p1
        replace q1:=eq_true q1
        go_wp2_with (first|((with_reducible refine gate_callee (f:=48) rfl ?_);refine gl 48 (some 20) Tryd.func48 #[G #[V I ((rd_T52 l0 x2_1).f0),V I ((rd_T52 l0 x2_1).f1),V I ((rd_T52 l0 x2_1).f2),O ((rd_T52 l0 x2_1).f3),V I ((rd_T52 l0 x2_1).f4),O ((rd_T52 l0 x2_1).f5)]] ?_;(with_reducible refine(laws_toJob.calls ((rd_T52 l0 x2_1).f0) ((rd_T52 l0 x2_1).f1) ((rd_T52 l0 x2_1).f2) ((rd_T52 l0 x2_1).f3) ((rd_T52 l0 x2_1).f4) ((rd_T52 l0 x2_1).f5) t1 t2 t3 t4 t5 t6 _ A1.out).mono ?_);rintro e w3 ⟨rfl,hb⟩;refine⟨_,rfl,?_⟩;replace HO_1:=eR HO_1 hb;replace HB:=eB hb;clear hb;have p2:0≤(x2_1:Int):=of_decide_eq_true (by first|(with_reducible assumption)|assumption);have q2:(x2_1:Int)<((x1_1.length:Int):Int):=of_decide_eq_true (by first|(with_reducible assumption)|assumption);obtain⟨go1,co1,eo1,gb1,gl1,cl1,HG1⟩:=Kd.R_form HO_1.out (by omega);(first|cases eo1|(injection eo1 with ea_ en_ ec_;(first|subst ea_|(injection ea_ with ea_;subst ea_));subst ec_;clear en_));have GB1:=C gb1;have GG1:=C HG1;clear gb1 gl1 HG1;obtain⟨ce1,hcl1,hM1,hcc1,hfr1⟩:=Kd.R_elem HO_1.out z40 (x2_1:Int) p2 q2;obtain rfl:=k40_openM hM1;have hx2_0:w3.cell? ⟨go1,(x2_1:Int).toNat * 6,none⟩=some (V I ((rd_T40 x1_1 x2_1).f0)):=hcc1 0 _ rfl;have hx2_1:w3.cell? ⟨go1,(x2_1:Int).toNat * 6+1,none⟩=some (V I ((rd_T40 x1_1 x2_1).f1)):=hcc1 1 _ rfl;have hx2_2:w3.cell? ⟨go1,(x2_1:Int).toNat * 6+2,none⟩=some (V I ((rd_T40 x1_1 x2_1).f2)):=hcc1 2 _ rfl;have hx2_3:w3.cell? ⟨go1,(x2_1:Int).toNat * 6+3,none⟩=some (O ((rd_T40 x1_1 x2_1).f3)):=hcc1 3 _ rfl;have hx2_4:w3.cell? ⟨go1,(x2_1:Int).toNat * 6+4,none⟩=some (V I ((rd_T40 x1_1 x2_1).f4)):=hcc1 4 _ rfl;have hx2_5:w3.cell? ⟨go1,(x2_1:Int).toNat * 6+5,none⟩=some (O ((rd_T40 x1_1 x2_1).f5)):=hcc1 5 _ rfl;have hf1_0:w3.frozen? ⟨go1,(x2_1:Int).toNat * 6,none⟩=false:=hfr1 0;have hf1_1:w3.frozen? ⟨go1,(x2_1:Int).toNat * 6+1,none⟩=false:=hfr1 1;have hf1_2:w3.frozen? ⟨go1,(x2_1:Int).toNat * 6+2,none⟩=false:=hfr1 2;have hf1_3:w3.frozen? ⟨go1,(x2_1:Int).toNat * 6+3,none⟩=false:=hfr1 3;have hf1_4:w3.frozen? ⟨go1,(x2_1:Int).toNat * 6+4,none⟩=false:=hfr1 4;have hf1_5:w3.frozen? ⟨go1,(x2_1:Int).toNat * 6+5,none⟩=false:=hfr1 5;(try clear hcl1);(try clear hcc1);(try clear hfr1);(try clear hM1);replace p2:=eq_true p2;replace q2:=eq_true q2;have HX1:=C (show Kd.R k40 40 w3 w.heap.size (fun _=>True) (L (some ⟨go1,0,none⟩) x1_1.length co1) x1_1 from(uR HO_1.out));obtain⟨ce2,hcl2,hM2,hcc2,hfr2⟩:=Kd.R_elem HX1.out z40 (x2_1:Int) (of_decide_eq_true (by first|(with_reducible assumption)|assumption)) (by have h_:(x2_1:Int)<((x1_1.length:Int):Int):=of_decide_eq_true (by first|(with_reducible assumption)|assumption);first|exact h_|(have e_:=(Kd.R_reads' HO_1.out).1;omega)|simpa using h_);obtain rfl:=k40_openM hM2;have HP1:=Kd.R_seg HX1.out (x2_1:Int) (of_decide_eq_true (by first|(with_reducible assumption)|assumption)) (by have h_:(x2_1:Int)<((x1_1.length:Int):Int):=of_decide_eq_true (by first|(with_reducible assumption)|assumption);first|exact h_|(have e_:=(Kd.R_reads' HO_1.out).1;omega)|simpa using h_) (seg:= [V I t1,V I t2,V I t3,O t4,V I t5,O t6]) (j:=0) hcl2 hcc2 (show 6≤6 from by decide) (x':=(⟨t1,t2,t3,t4,t5,t6⟩:S40)) (k40_mkM _ _ _ (⟨t1,t2,t3,t4,t5,t6⟩:S40)) (fun _ hk=>hk);have hx3_0:=hcc2 0 _ rfl;(try simp only[show(k40).sz=6 from rfl,Nat.mul_one,Nat.add_zero]at hx3_0);have hf2_0:=hfr2 0;(try simp only[show(k40).sz=6 from rfl,Nat.mul_one,Nat.add_zero]at hf2_0);have hx3_1:=hcc2 1 _ rfl;(try simp only[show(k40).sz=6 from rfl,Nat.mul_one,Nat.add_zero]at hx3_1);have hf2_1:=hfr2 1;(try simp only[show(k40).sz=6 from rfl,Nat.mul_one,Nat.add_zero]at hf2_1);have hx3_2:=hcc2 2 _ rfl;(try simp only[show(k40).sz=6 from rfl,Nat.mul_one,Nat.add_zero]at hx3_2);have hf2_2:=hfr2 2;(try simp only[show(k40).sz=6 from rfl,Nat.mul_one,Nat.add_zero]at hf2_2);have hx3_3:=hcc2 3 _ rfl;(try simp only[show(k40).sz=6 from rfl,Nat.mul_one,Nat.add_zero]at hx3_3);have hf2_3:=hfr2 3;(try simp only[show(k40).sz=6 from rfl,Nat.mul_one,Nat.add_zero]at hf2_3);have hx3_4:=hcc2 4 _ rfl;(try simp only[show(k40).sz=6 from rfl,Nat.mul_one,Nat.add_zero]at hx3_4);have hf2_4:=hfr2 4;(try simp only[show(k40).sz=6 from rfl,Nat.mul_one,Nat.add_zero]at hf2_4);have hx3_5:=hcc2 5 _ rfl;(try simp only[show(k40).sz=6 from rfl,Nat.mul_one,Nat.add_zero]at hx3_5);have hf2_5:=hfr2 5;(try simp only[show(k40).sz=6 from rfl,Nat.mul_one,Nat.add_zero]at hf2_5);(try clear hcl2);(try clear hcc2);(try clear hfr2);(try clear hM2))|((with_reducible refine gate_store (t:=40) (p:=21) rfl ?_);refine store_event (t:=40) (p:=21) (v:= ?vo_w1) (w1:=((((((w3.setCell ⟨go1,(x2_1:Int).toNat * 6,none⟩ (V I t1)).setCell ⟨go1,(x2_1:Int).toNat * 6+1,none⟩ (V I t2)).setCell ⟨go1,(x2_1:Int).toNat * 6+2,none⟩ (V I t3)).setCell ⟨go1,(x2_1:Int).toNat * 6+3,none⟩ (O t4)).setCell ⟨go1,(x2_1:Int).toNat * 6+4,none⟩ (V I t5)).setCell ⟨go1,(x2_1:Int).toNat * 6+5,none⟩ (O t6))) ?hg ?ho ?hn ?hr ?_;(case ho=>rfl);(case hg=>rfl);(case hn=>rfl);(case hr=>exact Fix.hr);intro w4 hw;have hg:w3.grownBy w4 (some go1):=(by rw[hw];exact HP1.2);have hp_:Kd.R k40 40 w4 w.heap.size (fun _=>True) (L (some ⟨go1,0,none⟩) x1_1.length co1) y2:=(by rw[hw,Ny2.out];exact HP1.1);clear HP1;replace HO_1:=C (hp_);replace HB:=C ((by rw[hw];exact below_set (below_set (below_set (below_set (below_set (below_set (HB.out) GB1.out) GB1.out) GB1.out) GB1.out) GB1.out) GB1.out:Below w.heap.size w w4));clear hg hw hp_))
        go_roundg k1
        case measure=>have:=HK1.out;omega
        case rel=>exact⟨(y2),(wrap64 (x2_1+1)),rS,H',⟨by have:=HK1.out;omega⟩,⟨fR HO_1.out⟩,⟨uB⟩⟩
       ·rw[if_neg c5]at H
        exact absurd H (by simp)
      ·rw[if_neg c4]at H
       exact absurd H (by simp)
     ·rw[if_neg c3]at H
      have c3b0:decide (x2_1<(l0.length:Int))=false:=decide_eq_false c3
      clear c3
      obtain rfl:=Option.some.inj H
      go_wp2
      go_ret
      exact⟨_,rE,fR HO_1.out,uB⟩
  ·rw[if_neg c2]at H
   exact absurd H (by simp)
 ·rw[if_neg c1]at H
  exact absurd H (by simp)
def laws_toIntS.l0:Nat→List Int→List Int→Int→Option (List Int)
 |0,_,_,_=>none
 |k+1,x0,x3,x4=>if x4<(x0.length:Int) then(if 0≤x4 then(if x4<(x3.length:Int) then(laws_toIntS.l0 k x0 (x3.set (x4:Int).toNat (rd x0 x4)) (wrap64 (x4+1))) else(none)) else(none)) else(some x3)
def laws_toIntS.f (k:Nat) (l0:List Int):Option (List Int):=if 0≤(l0.length:Int) then(if((l0.length:Int):Int).toNat≤35184372088832 then(laws_toIntS.l0 k l0 (List.replicate ((l0.length:Int):Int).toNat 0) 0) else(none)) else(none)
theorem laws_toIntS.mono_l:∀k,(∀y0 y1 y2,LeO (laws_toIntS.l0 k y0 y1 y2) (laws_toIntS.l0 (k+1) y0 y1 y2))
 |0=>fun _ _ _ r h=>by simp[laws_toIntS.l0]at h
 |k+1=>by
  have ih0:=laws_toIntS.mono_l k
  ·intro y0 y1 y2
   unfold laws_toIntS.l0
   repeat' first|(with_reducible first|apply ih0|exact LeO.refl _|exact LeO.none _|refine LeO.ite ?_ ?_|refine LeO.bind ?_ (fun _=> ?_))|apply ih0|exact LeO.none _|refine LeO.ite ?_ ?_|refine LeO.bind ?_ (fun _=> ?_)
theorem laws_toIntS.mono:∀a0 k,LeO (laws_toIntS.f k a0) (laws_toIntS.f (k+1) a0):=by
 intro a0 k
 have ih0:=laws_toIntS.mono_l k
 unfold laws_toIntS.f
 repeat' first|(with_reducible first|apply ih0|exact LeO.refl _|exact LeO.none _|refine LeO.ite ?_ ?_|refine LeO.bind ?_ (fun _=> ?_))|apply ih0|exact LeO.none _|refine LeO.ite ?_ ?_|refine LeO.bind ?_ (fun _=> ?_)
set_option maxHeartbeats 40000000 in
set_option maxRecDepth 100000 in
theorem laws_toIntS.calls (k:Nat) (A0:Option Addr) (c0:Nat) (l0:List Int) (r:List Int) (w:World) (hr0:Kd.C (Kd.int .i64) w A0 l0.length l0) (hc0:l0.length≤c0) (h:laws_toIntS.f k l0=some r):
  Calls Tryd.prog 78 #[L A0 l0.length c0] w fun e w'=>∃v0_:Value,e=.returned (v0_)∧Kd.R (Kd.int .i64) 3 w' w.heap.size (fun _=>True) v0_ r∧Below w.heap.size w w':=by
 have HR1:=C hr0
 have HC1:=C hc0
 (try clear hr0);(try clear hc0)
 have HB:=C (Below.refl w.heap.size w)
 have H:=h
 unfold laws_toIntS.f at H
 clear h
 by_cases c1:0≤(l0.length:Int)
 ·rw[if_pos c1]at H
  have c1b0:=eq_true c1
  have c1b1:decide (0≤(l0.length:Int))=true:=decide_eq_true c1
  clear c1
  by_cases c2:((l0.length:Int):Int).toNat≤35184372088832
  ·rw[if_pos c2]at H
   have c2b0:=eq_true c2
   have c2b1:decide (((l0.length:Int):Int).toNat≤35184372088832)=true:=decide_eq_true c2
   clear c2
   obtain⟨y1,hy1⟩:∃y_:List Int,y_=(List.replicate ((l0.length:Int):Int).toNat 0):=⟨_,rfl⟩
   replace H:(laws_toIntS.l0 k l0 y1 0)=some r:=by first|(rw[hy1];with_reducible exact H)|(have H1_:=(Option.bind_some _ _).symm.trans H;rw[hy1];with_reducible exact H1_)|(have H1_:=(Option.bind_some _ _).symm.trans H;with_reducible exact H1_)|with_reducible exact H|(rw[hy1];exact H)|exact H
   have Ny1:=C hy1
   clear hy1
   have H':=C H
   clear H
   go_enter Tryd.func78,Tryd.ntmps78
   go_wp2_with (first|((with_reducible refine J (N:=7) rfl ?_);refine Kd.R_make (Kd.int .i64) _ 3 rfl (N:=7) rfl 41 _ _ rfl (l0.length:Int) rfl rfl Tryd.underlying41 (V I 0) 8 info3 rfl (by decide) (by omega) 0 (ok:=fun _=>True) (okp:=fun _=>True) rfl (fun _ hk=>hk) trivial (of_decide_eq_true (by first|(with_reducible assumption)|assumption)) (Nat.le_trans (Nat.mul_le_mul_right _ (of_decide_eq_true (by first|(with_reducible assumption)|assumption):(l0.length:Int).toNat≤35184372088832)) (by omega)) (Below.refl _ _) (Nat.le_refl _) ?_;intro v1 w2 ho1 hb hg_ hnew_;clear hg_ hnew_;(first|rw[←Ny1.out]at ho1|(simp only[Int.reduceToNat]at ho1;rw[←Ny1.out]at ho1));have HO1:=lR ho1;replace HB:=eB hb;clear hb ho1))
   go_loopg [4] k (fun kq v4 w'=>∃(x1_1:List Int) (x2_1:Int),v4=V I x2_1∧D (laws_toIntS.l0 kq l0 x1_1 x2_1=some r)∧D (kq≤k)∧D (Kd.R (Kd.int .i64) 3 w' w.heap.size (fun _=>True) v1 x1_1)∧D (Below w.heap.size w w'))
   case atStart=>exact⟨(y1),(0),rS,H',⟨Nat.le_refl _⟩,⟨fR HO1.out⟩,⟨uB⟩⟩
   case round=>
    clear H'
    obtain⟨x1_1,x2_1,rfl,HA,HK1,HO_1,HB⟩:=hrel
    cases gk with
    |zero=>exact absurd HA.out (by simp[laws_toIntS.l0])
    |succ k1=>
     have H:=HA.out
     clear HA
     simp only[laws_toIntS.l0]at H
     by_cases c3:x2_1<(l0.length:Int)
     ·rw[if_pos c3]at H
      have c3b0:decide (x2_1<(l0.length:Int))=true:=decide_eq_true c3
      clear c3
      by_cases c4:0≤x2_1
      ·rw[if_pos c4]at H
       have c4b0:decide (0≤x2_1)=true:=decide_eq_true c4
       clear c4
       by_cases c5:x2_1<(x1_1.length:Int)
       ·rw[if_pos c5]at H
        have c5b0:decide (x2_1<(x1_1.length:Int))=true:=decide_eq_true c5
        clear c5
        obtain⟨y2,hy2⟩:∃y_:List Int,y_=(x1_1.set (x2_1:Int).toNat (rd l0 x2_1)):=⟨_,rfl⟩
        replace H:(laws_toIntS.l0 k1 l0 y2 (wrap64 (x2_1+1)))=some r:=by first|(rw[hy2];with_reducible exact H)|(have H1_:=(Option.bind_some _ _).symm.trans H;rw[hy2];with_reducible exact H1_)|(have H1_:=(Option.bind_some _ _).symm.trans H;with_reducible exact H1_)|with_reducible exact H|(rw[hy2];exact H)|exact H
        have Ny2:=C hy2
        clear hy2
        have H':=C H
        clear H
        have p1:0≤(x2_1:Int):=of_decide_eq_true (by first|(with_reducible assumption)|assumption)
        have q1:x2_1<(l0.length:Int):=of_decide_eq_true (by first|(with_reducible assumption)|assumption)
        obtain⟨ad1,e1,hx1_0⟩:=Kd.at_int HR1.out x2_1 p1 q1
        cases e1
        replace hx1_0:=hx HB hx1_0
        replace p1:=eq_true p1
        replace q1:=eq_true q1
        have p2:0≤(x2_1:Int):=of_decide_eq_true (by first|(with_reducible assumption)|assumption)
        have q2:(x2_1:Int)<((x1_1.length:Int):Int):=of_decide_eq_true (by first|(with_reducible assumption)|assumption)
        obtain⟨go1,co1,eo1,gb1,gl1,cl1,HG1⟩:=Kd.R_form HO_1.out (by omega)
        (first|cases eo1|(injection eo1 with ea_ en_ ec_;(first|subst ea_|(injection ea_ with ea_;subst ea_));subst ec_;clear en_))
        have GB1:=C gb1
        have GG1:=C HG1
        clear gb1 gl1 HG1
        obtain⟨hx2_0,hf1_0⟩:=Kd.R_celln 0 HO_1.out (x2_1:Int) p2 q2
        replace p2:=eq_true p2
        replace q2:=eq_true q2
        have HP1:=Kd.R_putg HO_1.out (x2_1:Int) (rd l0 x2_1)
        go_wp2_with (first|((with_reducible refine gate_store (t:=3) (p:=20) rfl ?_);refine store_event (t:=3) (p:=20) (v:= ?vo_w1) (w1:=(wr.setCell ⟨go1,(x2_1:Int).toNat,none⟩ (V I (rd l0 x2_1)))) ?hg ?ho ?hn ?hr ?_;(case ho=>rfl);(case hg=>rfl);(case hn=>rfl);(case hr=>exact Fix.hr);intro w3 hw;have hg:wr.grownBy w3 (some go1):=(by rw[hw];exact HP1.2);have hp_:Kd.R (Kd.int .i64) 3 w3 w.heap.size (fun _=>True) (L (some ⟨go1,0,none⟩) x1_1.length co1) y2:=(by rw[hw,Ny2.out];exact HP1.1);clear HP1;replace HO_1:=C (hp_);replace HB:=C ((by rw[hw];exact below_set (HB.out) GB1.out:Below w.heap.size w w3));clear hg hw hp_))
        go_roundg k1
        case measure=>have:=HK1.out;omega
        case rel=>exact⟨(y2),(wrap64 (x2_1+1)),rS,H',⟨by have:=HK1.out;omega⟩,⟨fR HO_1.out⟩,⟨uB⟩⟩
       ·rw[if_neg c5]at H
        exact absurd H (by simp)
      ·rw[if_neg c4]at H
       exact absurd H (by simp)
     ·rw[if_neg c3]at H
      have c3b0:decide (x2_1<(l0.length:Int))=false:=decide_eq_false c3
      clear c3
      obtain rfl:=Option.some.inj H
      go_wp2
      go_ret
      exact⟨_,rE,fR HO_1.out,uB⟩
  ·rw[if_neg c2]at H
   exact absurd H (by simp)
 ·rw[if_neg c1]at H
  exact absurd H (by simp)
def laws_toLine.f (k:Nat) (a0_0:Int) (a0_1:Int) (l0_2:List Int) (l0_3:List Int) (a0_4:Int) (a0_5:Bool):Option (Int×Int×List Int×List Int×Int×Bool):=(laws_toIntS.f k l0_2).bind fun t262=>((laws_toIntS.f k l0_3).bind fun t265=>(some (a0_0,a0_1,t262,t265,a0_4,a0_5)))
theorem laws_toLine.mono:∀a0 a1 a2 a3 a4 a5 k,LeO (laws_toLine.f k a0 a1 a2 a3 a4 a5) (laws_toLine.f (k+1) a0 a1 a2 a3 a4 a5):=by
 intro a0 a1 a2 a3 a4 a5 k
 unfold laws_toLine.f
 repeat' first|(with_reducible first|apply laws_toIntS.mono|exact LeO.refl _|exact LeO.none _|refine LeO.ite ?_ ?_|refine LeO.bind ?_ (fun _=> ?_))|exact LeO.none _|refine LeO.ite ?_ ?_|refine LeO.bind ?_ (fun _=> ?_)
set_option maxHeartbeats 40000000 in
set_option maxRecDepth 100000 in
theorem laws_toLine.calls (k:Nat) (a0_0:Int) (a0_1:Int) (A0_2:Option Addr) (c0_2:Nat) (l0_2:List Int) (A0_3:Option Addr) (c0_3:Nat) (l0_3:List Int) (a0_4:Int) (a0_5:Bool) (r1:Int) (r2:Int) (r3:List Int) (r4:List Int) (r5:Int) (r6:Bool) (w:World) (hr0_2:Kd.C (Kd.int .i64) w A0_2 l0_2.length l0_2) (hc0_2:l0_2.length≤c0_2) (hr0_3:Kd.C (Kd.int .i64) w A0_3 l0_3.length l0_3) (hc0_3:l0_3.length≤c0_3) (h:laws_toLine.f k a0_0 a0_1 l0_2 l0_3 a0_4 a0_5=some (r1,r2,r3,r4,r5,r6)):
  Calls Tryd.prog 49 #[G #[V I a0_0,V I a0_1,L A0_2 l0_2.length c0_2,L A0_3 l0_3.length c0_3,V I a0_4,O a0_5]] w fun e w'=>∃v2_ v3_:Value,e=.returned (G #[V I r1,V I r2,v2_,v3_,V I r5,O r6])∧Kd.R (Kd.int .i64) 3 w' w.heap.size (fun k_=>some k_≠(v3_:Value).ownBlock) v2_ r3∧Kd.R (Kd.int .i64) 3 w' w.heap.size (fun k_=>some k_≠(v2_:Value).ownBlock) v3_ r4∧Below w.heap.size w w':=by
 have hu1:=Tryd.underlying53
 have hu2:=Tryd.underlying43
 have HR1_2:=C hr0_2
 have HC1_2:=C hc0_2
 (try clear hr0_2);(try clear hc0_2)
 have HR1_3:=C hr0_3
 have HC1_3:=C hc0_3
 (try clear hr0_3);(try clear hc0_3)
 have HB:=C (Below.refl w.heap.size w)
 have H:=h
 unfold laws_toLine.f at H
 clear h
 obtain⟨t1,A1,H⟩:=bnd H
 obtain⟨t2,A2,H⟩:=bnd H
 simp only[Option.some.injEq,Prod.mk.injEq]at H
 obtain⟨rfl,rfl,rfl,rfl,rfl,rfl⟩:=H
 go_enter Tryd.func49,Tryd.ntmps49
 go_wp2_with (first|((with_reducible refine J (N:=1) rfl ?_);refine Fix.be 1 #[V I a0_0,V I a0_1,L A0_2 l0_2.length c0_2,L A0_3 l0_3.length c0_3,V I a0_4,O a0_5] 53 ?_;intro gb1 hg w1 BK1 hb;have GW1:D (w.heap.size≤gb1):=gE hg;have GE1:=GW1;replace HB:=eB hb;clear hb hg)|((with_reducible refine J (N:=2) rfl ?_);refine Fix.be 2 #[V I 0,V I 0,L none 0 0,L none 0 0,V I 0,O false] 43 ?_;intro gb2 hg w2 BK2 hb;have GW2:D (w.heap.size≤gb2):=gE hg;have GE2:=GW2;have NB1_260:=nL hg BK1;have NB2_259:=nG hg BK1;replace BK1:=eK BK1 hb;replace HB:=eB hb;clear hb hg)|((with_reducible refine J (N:=3) rfl ?_);refine Fix.be 3 #[V I 0,V I 0,L none 0 0,L none 0 0,V I 0,O false] 43 ?_;intro gb3 hg w3 BK3 hb;have GW3:D (w.heap.size≤gb3):=gE hg;have GE3:=GW3;have NB1_261:=nL hg BK1;have NB3_259:=nG hg BK1;have NB2_261:=nL hg BK2;have NB3_260:=nG hg BK2;replace BK1:=eK BK1 hb;replace BK2:=eK BK2 hb;replace HB:=eB hb;clear hb hg;have hnb1:=NB1_260.out;have hnc1:=NB2_259.out;have hnb2:=NB1_261.out;have hnc2:=NB3_259.out;obtain⟨hcz1_0,hcz1_1,hcz1_2,hcz1_3,hcz1_4,hcz1_5,hfz1_0,hfz1_1,hfz1_2,hfz1_3,hfz1_4,hfz1_5⟩:=d6 BK1.out;have hnb3:=NB3_260.out;have hnc3:=NB2_261.out;obtain⟨hcz2_0,hcz2_1,hcz2_2,hcz2_3,hcz2_4,hcz2_5,hfz2_0,hfz2_1,hfz2_2,hfz2_3,hfz2_4,hfz2_5⟩:=d6 BK3.out)|((with_reducible refine gate_callee (f:=78) rfl ?_);refine gl 78 (some 12) Tryd.func78 #[L A0_2 l0_2.length c0_2] ?_;(with_reducible refine(laws_toIntS.calls k _ _ l0_2 t1 _ ?side1 ?side2 A1.out).mono ?_);(case side1=>exact Z HR1_2.out uB);(case side2=>exact HC1_2.out);rintro e w4 ⟨v1,rfl,ho1,hb⟩;refine⟨_,rfl,?_⟩;have HO1:=lR ho1;replace BK1:=eK BK1 hb;replace BK2:=eK BK2 hb;replace BK3:=C (blk_below (g:=gb3) (o:=.cells #[V I a0_0,V I a0_1,L none 0 0,L none 0 0,V I 0,O false] 43 (0,0)) (bK BK3.out) hb);replace HB:=eB hb;clear hb ho1;obtain⟨Ao1,co1,eo1⟩:=Kd.R_slice HO1.out;subst eo1;obtain⟨hcz3_0,hcz3_1,hcz3_2,hcz3_3,hcz3_4,hcz3_5,hfz3_0,hfz3_1,hfz3_2,hfz3_3,hfz3_4,hfz3_5⟩:=d6 BK3.out;obtain⟨hcz4_0,hcz4_1,hcz4_2,hcz4_3,hcz4_4,hcz4_5,hfz4_0,hfz4_1,hfz4_2,hfz4_3,hfz4_4,hfz4_5⟩:=d6 BK1.out)|((with_reducible refine gate_callee (f:=78) rfl ?_);refine gl 78 (some 16) Tryd.func78 #[L A0_3 l0_3.length c0_3] ?_;(with_reducible refine(laws_toIntS.calls k _ _ l0_3 t2 _ ?side1 ?side2 A2.out).mono ?_);(case side1=>exact Z HR1_3.out uB);(case side2=>exact HC1_3.out);rintro e w5 ⟨v2,rfl,ho1,hb⟩;refine⟨_,rfl,?_⟩;have HO2:=C (Kd.R_lower (Kd.R_new' ho1 (Kd.R_lt (Kd.R_mono (fR (Kd.R_types HO1.out BK3.out (by decide))) (fun _ h_=>h_.1)))) (below_size uB));replace HO1:=C (Kd.R_elder' (Kd.R_mono (fR (Kd.R_types HO1.out BK3.out (by decide))) (fun _ h_=>h_.1)) (Kd.R_base ho1) hb);replace BK1:=eK BK1 hb;replace BK2:=eK BK2 hb;replace BK3:=C (blk_below (g:=gb3) (o:=.cells #[V I a0_0,V I a0_1,L Ao1 t1.length co1,L none 0 0,V I 0,O false] 43 (0,0)) (bK BK3.out) hb);replace HB:=eB hb;clear hb ho1;obtain⟨Ao2,co2,eo2⟩:=Kd.R_slice HO2.out;subst eo2;obtain⟨hcz5_0,hcz5_1,hcz5_2,hcz5_3,hcz5_4,hcz5_5,hfz5_0,hfz5_1,hfz5_2,hfz5_3,hfz5_4,hfz5_5⟩:=d6 BK3.out;have h_:=d6 BK1.out;(repeat(obtain⟨_,h_⟩:=h_));have h_:=d6 BK2.out;(repeat(obtain⟨_,h_⟩:=h_))))
 refine bodyPost_ret (results_cell_row rfl _ _ gb2 43 #[V I a0_0,V I a0_1,L Ao1 t1.length co1,L Ao2 t2.length co2,V I a0_4,O a0_5] (0,0) _ rfl (bK BK2.out) Tryd.underlying43 rfl (by kernel_rfl)) rfl ?_
 exact⟨_,_,rE,Kd.R_mono (fR (Kd.R_types (Kd.R_types HO1.out BK3.out (by decide)) BK2.out (by decide))) (fun _ hk=>hk.1.1.2),Kd.R_mono (fR (Kd.R_types (Kd.R_types HO2.out BK3.out (by decide)) BK2.out (by decide))) (fun _ hk=>hk.1.1.2),uB⟩
end Go.Proofs.YtblceimapaenlaaDoor.PFnExactFormatMachine
