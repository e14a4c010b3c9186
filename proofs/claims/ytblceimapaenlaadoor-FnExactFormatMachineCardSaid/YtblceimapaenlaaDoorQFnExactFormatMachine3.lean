/- FnExactFormatMachine: the functions that the law reaches, each as a plain Lean function, and that a call does what it says. Made by a program of this work (wip/mp.py) out of the kit's print. No condition. -/
import Derived.Test.YtblceimapaenlaaDoorQFnExactFormatMachine0
import Derived.Test.YtblceimapaenlaaDoorQFnExactFormatMachine1
import Derived.Test.YtblceimapaenlaaDoorQFnExactFormatMachine2
namespace Go.Proofs.YtblceimapaenlaaDoor.PFnExactFormatMachine
open Go.RowKit Go.Proofs.YtblceimapaenlaaDoorW.PrintWords Go.Proofs.YtblceimapaenlaaDoorW.PrintLast Go.Proofs.YtblceimapaenlaaDoorW.PrintMore
open Fix (bK bnd cl14 d14 d6 dB dK eB eK fR gE gl gs hh lR nu oL ou pu px rE rN rS tu uB uC)
open Go.Value renaming int→V,slice→L,bool→O,agg→G
open Go.IntKind renaming i64→I
open Go.Proofs.YtblceimapaenlaaDoorW.PrintWords.Aside0 renaming mk→C
open Go.Proofs.YtblceimapaenlaaDoorW.PrintWords renaming Aside0→D,gate_callee→F
open Go.Proofs.YtblceimapaenlaaDoorW.PrintWords.Kd renaming C_below→Z
attribute [local go_sem] max2_int min2_int max_two min_two max_three min_three max_four min_four
attribute [local go_sem] Fix.isSome_setCell
set_option linter.unusedVariables false
set_option linter.unusedSimpArgs false
attribute [local go_sem high] eqA40
def impl_MachineOk.j0:Nat→Bool→List (S40)→Int→Int→Int→Bool→Int→Bool→Int→Int→List Int→List Int→Int→Bool→Int→Option (Bool)
  |0,_,_,_,_,_,_,_,_,_,_,_,_,_,_,_=>none
  |k+1,x18,x149000,x149001,x149002,x149003,x149004,x149005,x149006,x149007,x149008,x149009,x149010,x149011,x149012,x149013=>if x18=true then(some false) else(if(x149001==0 && (x149002==0 && (x149003==0 && (!x149004 && (x149005==0 && (!x149006))))))=true then(some (x149007==0)) else((impl_JobOk.f x149001 x149002 x149003 x149004 x149005 x149006).bind fun t152=>(if t152=true then((impl_JobSheets.f k x149001 x149002 x149003 x149004 x149005 x149006).bind fun t153=>(if t153≤40 then((impl_JobSheets.f k x149001 x149002 x149003 x149004 x149005 x149006).bind fun t154=>(some (t154==x149007))) else(some false))) else(some false))))
def impl_MachineOk.f (k:Nat) (l0_0:List (S40)) (a0_1:Int) (a0_2:Int) (a0_3:Int) (a0_4:Bool) (a0_5:Int) (a0_6:Bool) (a0_7:Int) (a0_8:Int) (l0_9:List Int) (l0_10:List Int) (a0_11:Int) (a0_12:Bool) (a0_13:Int):Option (Bool):=(impl_JobsOk.f k l0_0).bind fun t149=>(if t149=true then((impl_LineOk.f k a0_7 a0_8 l0_9 l0_10 a0_11 a0_12).bind fun t150=>(if t150=true then((impl_within.f a0_13 0 100000).bind fun t151=>(impl_MachineOk.j0 k (!t151) l0_0 a0_1 a0_2 a0_3 a0_4 a0_5 a0_6 a0_7 a0_8 l0_9 l0_10 a0_11 a0_12 a0_13)) else(impl_MachineOk.j0 k true l0_0 a0_1 a0_2 a0_3 a0_4 a0_5 a0_6 a0_7 a0_8 l0_9 l0_10 a0_11 a0_12 a0_13))) else(impl_MachineOk.j0 k true l0_0 a0_1 a0_2 a0_3 a0_4 a0_5 a0_6 a0_7 a0_8 l0_9 l0_10 a0_11 a0_12 a0_13))
theorem impl_MachineOk.mono_l:∀k,(∀y0 y1 y2 y3 y4 y5 y6 y7 y8 y9 y10 y11 y12 y13 y14,LeO (impl_MachineOk.j0 k y0 y1 y2 y3 y4 y5 y6 y7 y8 y9 y10 y11 y12 y13 y14) (impl_MachineOk.j0 (k+1) y0 y1 y2 y3 y4 y5 y6 y7 y8 y9 y10 y11 y12 y13 y14))
  |0=>fun _ _ _ _ _ _ _ _ _ _ _ _ _ _ _ r h=>by simp[impl_MachineOk.j0]at h
  |k+1=>by
    have ih0:=impl_MachineOk.mono_l k
    · intro y0 y1 y2 y3 y4 y5 y6 y7 y8 y9 y10 y11 y12 y13 y14
      unfold impl_MachineOk.j0
      repeat' first|(with_reducible first|apply ih0|apply impl_JobSheets.mono|apply impl_JobsOk.mono|apply impl_LineOk.mono|exact LeO.refl _|exact LeO.none _|refine LeO.ite ?_ ?_|refine LeO.bind ?_ (fun _=> ?_))|apply ih0|exact LeO.none _|refine LeO.ite ?_ ?_|refine LeO.bind ?_ (fun _=> ?_)
theorem impl_MachineOk.mono:∀a0 a1 a2 a3 a4 a5 a6 a7 a8 a9 a10 a11 a12 a13 k,LeO (impl_MachineOk.f k a0 a1 a2 a3 a4 a5 a6 a7 a8 a9 a10 a11 a12 a13) (impl_MachineOk.f (k+1) a0 a1 a2 a3 a4 a5 a6 a7 a8 a9 a10 a11 a12 a13):=by
  intro a0 a1 a2 a3 a4 a5 a6 a7 a8 a9 a10 a11 a12 a13 k
  have ih0:=impl_MachineOk.mono_l k
  unfold impl_MachineOk.f
  repeat' first|(with_reducible first|apply ih0|apply impl_JobSheets.mono|apply impl_JobsOk.mono|apply impl_LineOk.mono|exact LeO.refl _|exact LeO.none _|refine LeO.ite ?_ ?_|refine LeO.bind ?_ (fun _=> ?_))|apply ih0|exact LeO.none _|refine LeO.ite ?_ ?_|refine LeO.bind ?_ (fun _=> ?_)
def impl_MachineOk.T5:Bool×List (List Nat×List Nat):=(true,[([],[]),([0],[0]),([1],[1]),([2,2],[2]),([3],[3]),([4,3],[3,4]),([5,3,3],[3,5]),([6,3],[3,6]),([3,7],[3,7]),([8,6],[8]),([9],[9]),([10,9],[9,10]),([11,9,9],[9,11]),([9],[9]),([13,9],[9,13]),([14,9],[9,14]),([12,15,9],[9,12,15]),([9,16],[9,16]),([17,12,0,1,2,3,4,5,6,7,8,9,10,11,12,13,14,15,16,17],[17])])
def impl_MachineOk.B5:List Nat:= [0,1,3,7,15,31,63,127,255,511,1023,2047,4095,1023,9215,25599,65535,131071,262143]
theorem impl_MachineOk.tab5:rtab .any (opsOf Tryd.f42 5)=impl_MachineOk.T5:=by kernel_rfl
theorem impl_MachineOk.bits5:waitsOk impl_MachineOk.T5.2 impl_MachineOk.B5=true:=by kernel_rfl
theorem impl_MachineOk.W1 {p:Prop} (h:p:=by
    go_wp2
    go_ret
    exact⟨rE,uB⟩):p:=h
set_option maxHeartbeats 40000000 in
set_option maxRecDepth 100000 in
theorem impl_MachineOk.calls (k:Nat) (A0_0:Option Addr) (c0_0:Nat) (l0_0:List (S40)) (a0_1:Int) (a0_2:Int) (a0_3:Int) (a0_4:Bool) (a0_5:Int) (a0_6:Bool) (a0_7:Int) (a0_8:Int) (A0_9:Option Addr) (c0_9:Nat) (l0_9:List Int) (A0_10:Option Addr) (c0_10:Nat) (l0_10:List Int) (a0_11:Int) (a0_12:Bool) (a0_13:Int) (r:Bool) (w:World) (hr0_0:Kd.C k40 w A0_0 l0_0.length l0_0) (hc0_0:l0_0.length≤c0_0) (hr0_9:Kd.C (Kd.int .i64) w A0_9 l0_9.length l0_9) (hc0_9:l0_9.length≤c0_9) (hr0_10:Kd.C (Kd.int .i64) w A0_10 l0_10.length l0_10) (hc0_10:l0_10.length≤c0_10) (h:impl_MachineOk.f k l0_0 a0_1 a0_2 a0_3 a0_4 a0_5 a0_6 a0_7 a0_8 l0_9 l0_10 a0_11 a0_12 a0_13=some r):
    Calls Tryd.prog 42 #[G #[L A0_0 l0_0.length c0_0,V I a0_1,V I a0_2,V I a0_3,O a0_4,V I a0_5,O a0_6,V I a0_7,V I a0_8,L A0_9 l0_9.length c0_9,L A0_10 l0_10.length c0_10,V I a0_11,O a0_12,V I a0_13]] w fun e w'=>e=.returned (O r)∧Below w.heap.size w w':=by
  have hu1:=Tryd.underlying45
  have hu2:=Tryd.underlying43
  have hu3:=Tryd.underlying40
  have HR1_0:=C hr0_0
  have HC1_0:=C hc0_0
  (try clear hr0_0);(try clear hc0_0)
  have HR1_9:=C hr0_9
  have HC1_9:=C hc0_9
  (try clear hr0_9);(try clear hc0_9)
  have HR1_10:=C hr0_10
  have HC1_10:=C hc0_10
  (try clear hr0_10);(try clear hc0_10)
  have HB:=C (Below.refl w.heap.size w)
  have H:=h
  unfold impl_MachineOk.f at H
  clear h
  have HC2:=C H
  clear H
  go_enter Tryd.func42,Tryd.ntmps42
  go_upto_region 1 with(first|((with_reducible refine gate_dst (N:=1) rfl ?_);refine Fix.be 1 #[L A0_0 l0_0.length c0_0,V I a0_1,V I a0_2,V I a0_3,O a0_4,V I a0_5,O a0_6,V I a0_7,V I a0_8,L A0_9 l0_9.length c0_9,L A0_10 l0_10.length c0_10,V I a0_11,O a0_12,V I a0_13] 45 ?_;intro gb1 hg w1 BK1 hb;have GW1:D (w.heap.size≤gb1):=gE hg;have GE1:=GW1;replace HB:=eB hb;clear hb hg))
  (try simp only[Act.put,List.setIfInBounds_toArray,List.set_cons_zero,List.set_cons_succ])
  go_cut [18] (fun v18 wc=>∃(kq:Nat) (x1_1:Bool),v18=O x1_1∧D (impl_MachineOk.j0 kq x1_1 l0_0 a0_1 a0_2 a0_3 a0_4 a0_5 a0_6 a0_7 a0_8 l0_9 l0_10 a0_11 a0_12 a0_13=some r)∧D (kq≤k)∧D (wc.heap[gb1]? =some (.cells #[(L A0_0 l0_0.length c0_0),V I a0_1,V I a0_2,V I a0_3,O a0_4,V I a0_5,O a0_6,V I a0_7,V I a0_8,(L A0_9 l0_9.length c0_9),(L A0_10 l0_10.length c0_10),V I a0_11,O a0_12,V I a0_13] 45 (0,0)))∧D (Below w.heap.size w wc))
  case first=>
    have H:=HC2.out
    clear HC2
    obtain⟨t1,A1,H⟩:=bnd H
    by_cases c1:t1=true
    · subst c1
      rw[if_pos rfl]at H
      obtain⟨t2,A2,H⟩:=bnd H
      by_cases c2:t2=true
      · subst c2
        rw[if_pos rfl]at H
        obtain⟨t3,A3,H⟩:=bnd H
        have H':=C H
        clear H
        have h_:=d14 BK1.out;(repeat(obtain⟨_,h_⟩:=h_))
        go_wp2_with (first|((with_reducible refine F (f:=70) rfl ?_);refine gl 70 (some 5) Tryd.func70 #[L A0_0 l0_0.length c0_0] ?_;(with_reducible refine(impl_JobsOk.calls k _ _ l0_0 true _ ?side1 ?side2 A1.out).mono ?_);(case side1=>exact uC (Z HR1_0.out HB.out));(case side2=>exact HC1_0.out);rintro e w2 ⟨rfl,hb⟩;refine⟨_,rfl,?_⟩;replace BK1:=eK BK1 hb;replace HB:=eB hb;clear hb;have h_:=d14 BK1.out;(repeat(obtain⟨_,h_⟩:=h_)))|(go_at_call 71;(with_reducible refine(impl_LineOk.calls k a0_7 a0_8 (fun k_=>k_<w.heap.size) _ _ l0_9 (fun k_=>k_<w.heap.size) _ _ l0_10 a0_11 a0_12 true _ ?side1 ?side2 A2.out).mono ?_);(case side1=>exact Kd.V_mk HC1_9.out (Kd.F_below (Kd.C_F (Kd.heap_int .i64) HR1_9.out) uB));(case side2=>exact Kd.V_mk HC1_10.out (Kd.F_below (Kd.C_F (Kd.heap_int .i64) HR1_10.out) uB));rintro e w3 ⟨rfl,hb⟩;replace BK1:=eK BK1 hb;replace HB:=eB hb;clear hb;obtain⟨hcz1_0,hcz1_1,hcz1_2,hcz1_3,hcz1_4,hcz1_5,hcz1_6,hcz1_7,hcz1_8,hcz1_9,hcz1_10,hcz1_11,hcz1_12,hcz1_13,hfz1_0,hfz1_1,hfz1_2,hfz1_3,hfz1_4,hfz1_5,hfz1_6,hfz1_7,hfz1_8,hfz1_9,hfz1_10,hfz1_11,hfz1_12,hfz1_13⟩:=d14 BK1.out)|(go_at_call 67;(with_reducible refine(impl_within.calls a0_13 0 100000 t3 _ A3.out).mono ?_);rintro e w' ⟨rfl,⟨nd,rfl⟩⟩))
        go_meet
        case rel=>exact⟨_,(!t3),rS,H',⟨oL⟩,⟨bK BK1.out⟩,⟨uB⟩⟩
      · replace c2:=Bool.eq_false_iff.mpr c2
        subst c2
        rw[if_neg Bool.false_ne_true]at H
        have H':=C H
        clear H
        obtain⟨hcz1_0,hcz1_1,hcz1_2,hcz1_3,hcz1_4,hcz1_5,hcz1_6,hcz1_7,hcz1_8,hcz1_9,hcz1_10,hcz1_11,hcz1_12,hcz1_13,hfz1_0,hfz1_1,hfz1_2,hfz1_3,hfz1_4,hfz1_5,hfz1_6,hfz1_7,hfz1_8,hfz1_9,hfz1_10,hfz1_11,hfz1_12,hfz1_13⟩:=d14 BK1.out
        go_wp2_with (first|((with_reducible refine F (f:=70) rfl ?_);refine gl 70 (some 5) Tryd.func70 #[L A0_0 l0_0.length c0_0] ?_;(with_reducible refine(impl_JobsOk.calls k _ _ l0_0 true _ ?side1 ?side2 A1.out).mono ?_);(case side1=>exact uC (Z HR1_0.out HB.out));(case side2=>exact HC1_0.out);rintro e w2 ⟨rfl,hb⟩;refine⟨_,rfl,?_⟩;replace BK1:=eK BK1 hb;replace HB:=eB hb;clear hb;obtain⟨hcz2_0,hcz2_1,hcz2_2,hcz2_3,hcz2_4,hcz2_5,hcz2_6,hcz2_7,hcz2_8,hcz2_9,hcz2_10,hcz2_11,hcz2_12,hcz2_13,hfz2_0,hfz2_1,hfz2_2,hfz2_3,hfz2_4,hfz2_5,hfz2_6,hfz2_7,hfz2_8,hfz2_9,hfz2_10,hfz2_11,hfz2_12,hfz2_13⟩:=d14 BK1.out)|(go_at_call 71;(with_reducible refine(impl_LineOk.calls k a0_7 a0_8 (fun k_=>k_<w.heap.size) _ _ l0_9 (fun k_=>k_<w.heap.size) _ _ l0_10 a0_11 a0_12 false _ ?side1 ?side2 A2.out).mono ?_);(case side1=>exact Kd.V_mk HC1_9.out (Kd.F_below (Kd.C_F (Kd.heap_int .i64) HR1_9.out) uB));(case side2=>exact Kd.V_mk HC1_10.out (Kd.F_below (Kd.C_F (Kd.heap_int .i64) HR1_10.out) uB));rintro e w3 ⟨rfl,hb⟩;replace BK1:=eK BK1 hb;replace HB:=eB hb;clear hb))
        go_meet
        case rel=>exact⟨_,(true),rS,H',⟨oL⟩,⟨bK BK1.out⟩,⟨uB⟩⟩
    · replace c1:=Bool.eq_false_iff.mpr c1
      subst c1
      rw[if_neg Bool.false_ne_true]at H
      have H':=C H
      clear H
      have h_:=d14 BK1.out;(repeat(obtain⟨_,h_⟩:=h_))
      go_wp2_with (first|((with_reducible refine F (f:=70) rfl ?_);refine gl 70 (some 5) Tryd.func70 #[L A0_0 l0_0.length c0_0] ?_;(with_reducible refine(impl_JobsOk.calls k _ _ l0_0 false _ ?side1 ?side2 A1.out).mono ?_);(case side1=>exact uC (Z HR1_0.out HB.out));(case side2=>exact HC1_0.out);rintro e w2 ⟨rfl,hb⟩;refine⟨_,rfl,?_⟩;replace BK1:=eK BK1 hb;replace HB:=eB hb;clear hb))
      go_meet
      case rel=>exact⟨_,(true),rS,H',⟨oL⟩,⟨bK BK1.out⟩,⟨uB⟩⟩
  case rest=>
    clear HC2
    obtain⟨kq,x1_1,rfl,HA,HJ1,BK1,HB⟩:=hcut
    cases kq with
    |zero=>exact absurd HA.out (by simp[impl_MachineOk.j0])
    |succ kj1=>
      have H:=HA.out
      clear HA
      simp only[impl_MachineOk.j0]at H
      by_cases c1:x1_1=true
      · subst c1
        rw[if_pos rfl]at H
        obtain rfl:=Option.some.inj H
        exact impl_MachineOk.W1
      · replace c1:=Bool.eq_false_iff.mpr c1
        subst c1
        rw[if_neg Bool.false_ne_true]at H
        by_cases c2:(a0_1==0 && (a0_2==0 && (a0_3==0 && (!a0_4 && (a0_5==0 && (!a0_6))))))=true
        · rw[if_pos c2]at H
          have c2b0:(a0_1==0 && (a0_2==0 && (a0_3==0 && (!a0_4 && (a0_5==0 && (!a0_6))))))=true:=c2
          (try(have c2b1:decide (a0_1=0 && (a0_2==0 && (a0_3==0 && (!a0_4 && (a0_5==0 && (!a0_6))))))=true:=by simpa using c2))
          (try(have c2b2:(a0_1==0 && (a0_2==0 && (a0_3==0 && (!a0_4 && (a0_5==0 && (!a0_6))))))=true:=by simpa using c2))
          clear c2
          obtain rfl:=Option.some.inj H
          have h_:=d14 BK1.out;(repeat(obtain⟨_,h_⟩:=h_))
          exact impl_MachineOk.W1
        · rw[if_neg c2]at H
          have c2b0:(a0_1==0 && (a0_2==0 && (a0_3==0 && (!a0_4 && (a0_5==0 && (!a0_6))))))=false:=by simpa using c2
          (try(have c2b1:decide (a0_1=0 && (a0_2==0 && (a0_3==0 && (!a0_4 && (a0_5==0 && (!a0_6))))))=false:=by simpa using c2))
          (try(have c2b2:(a0_1==0 && (a0_2==0 && (a0_3==0 && (!a0_4 && (a0_5==0 && (!a0_6))))))=false:=by simpa using c2))
          (try(have c2b3:¬(a0_1=0 && (a0_2==0 && (a0_3==0 && (!a0_4 && (a0_5==0 && (!a0_6)))))):=by simpa using c2))
          clear c2
          obtain⟨t1,A1,H⟩:=bnd H
          by_cases c3:t1=true
          · subst c3
            rw[if_pos rfl]at H
            obtain⟨t2,A2,H⟩:=bnd H
            by_cases c4:t2≤40
            · rw[if_pos c4]at H
              have c4b0:decide (t2≤40)=true:=decide_eq_true c4
              clear c4
              obtain⟨t3,A3,H⟩:=bnd H
              obtain rfl:=Option.some.inj H
              have h_:=d14 BK1.out;(repeat(obtain⟨_,h_⟩:=h_))
              try go_wp2
              replace BK1:=dK BK1
              replace HB:=dB HB
              refine start_ (n:=19) (S:=fun w'=>cl14 w' gb1 (L A0_0 l0_0.length c0_0) (V I a0_1) (V I a0_2) (V I a0_3) (O a0_4) (V I a0_5) (O a0_6) (V I a0_7) (V I a0_8) (L A0_9 l0_9.length c0_9) (L A0_10 l0_10.length c0_10) (V I a0_11) (O a0_12) (V I a0_13)) (ds:= []) #[false,false,false,false,false,false,false,false,false,false,false,false,false,false,false,false,false,false,false] (by kernel_rfl) rfl rfl hh (fun hHeld=> ?_);refine with_tabW impl_MachineOk.tab5 impl_MachineOk.bits5 (fun HT_ HW_=> ?_)
              generalize wc.drew=w2 at BK1 HB hHeld ⊢
              refine pu 0 (some 27) ?_
              refine tu 1 (some 28) hHeld ?_
              refine ou 2 (some 29) (fun K hK=> ?_)
              refine gs Tryd.func65 #[G #[V I a0_1,V I a0_2,V I a0_3,O a0_4,V I a0_5,O a0_6]] ?_
              with_reducible refine(impl_JobOk.calls a0_1 a0_2 a0_3 a0_4 a0_5 a0_6 true _ A1.out).mono ?_
              rintro e w3 ⟨rfl,hb⟩
              refine⟨_,rfl,?_⟩
              replace BK1:=eK BK1 hb
              replace HB:=eB hb
              (try clear hb)
              refine hK.out _ _ hh (fun hHeld=> ?_)
              clear hK K
              refine nu (N:=(some 29)) ?_
              refine pu 3 (some 30) ?_
              refine pu 4 (some 31) ?_
              refine tu 5 (some 32) hHeld ?_
              refine ou 6 (some 33) (fun K hK=> ?_)
              refine gs Tryd.func72 #[G #[V I a0_1,V I a0_2,V I a0_3,O a0_4,V I a0_5,O a0_6]] ?_
              with_reducible refine(impl_JobSheets.calls kj1 a0_1 a0_2 a0_3 a0_4 a0_5 a0_6 t2 _ A2.out).mono ?_
              rintro e w4 ⟨rfl,hb⟩
              refine⟨_,rfl,?_⟩
              replace BK1:=eK BK1 hb
              replace HB:=eB hb
              (try clear hb)
              refine hK.out _ _ hh (fun hHeld=> ?_)
              clear hK K
              refine nu (N:=(some 33)) ?_
              refine pu 7 (some 34) ?_
              refine pu 8 (some 35) ?_
              refine pu 9 (some 36) ?_
              refine pu 10 (some 37) ?_
              refine pu 13 (some 40) ?_
              refine pu 14 (some 41) ?_
              refine tu 11 (some 38) hHeld ?_
              refine tu 15 (some 42) hHeld ?_
              refine ou 12 (some 39) (fun K hK=> ?_)
              refine gs Tryd.func72 #[G #[V I a0_1,V I a0_2,V I a0_3,O a0_4,V I a0_5,O a0_6]] ?_
              with_reducible refine(impl_JobSheets.calls kj1 a0_1 a0_2 a0_3 a0_4 a0_5 a0_6 t3 _ A3.out).mono ?_
              rintro e w5 ⟨rfl,hb⟩
              refine⟨_,rfl,?_⟩
              replace BK1:=eK BK1 hb
              replace HB:=eB hb
              (try clear hb)
              refine hK.out _ _ hh (fun hHeld=> ?_)
              clear hK K
              refine nu (N:=(some 39)) ?_
              refine pu 16 (some 43) ?_
              refine pu 17 (some 44) ?_
              refine pu 18 (some 2) ?_
              refine done_ (done_of HT_.out (by kernel_rfl)) ?_
              try go_wp2
              go_ret
              exact⟨rE,uB⟩
            · rw[if_neg c4]at H
              have c4b0:decide (t2≤40)=false:=decide_eq_false c4
              clear c4
              obtain rfl:=Option.some.inj H
              have h_:=d14 BK1.out;(repeat(obtain⟨_,h_⟩:=h_))
              try go_wp2
              replace BK1:=dK BK1
              replace HB:=dB HB
              refine start_ (n:=19) (S:=fun w'=>cl14 w' gb1 (L A0_0 l0_0.length c0_0) (V I a0_1) (V I a0_2) (V I a0_3) (O a0_4) (V I a0_5) (O a0_6) (V I a0_7) (V I a0_8) (L A0_9 l0_9.length c0_9) (L A0_10 l0_10.length c0_10) (V I a0_11) (O a0_12) (V I a0_13)) (ds:= []) #[false,false,false,false,false,false,false,false,false,false,false,false,false,false,false,false,false,false,false] (by kernel_rfl) rfl rfl hh (fun hHeld=> ?_);refine with_tabW impl_MachineOk.tab5 impl_MachineOk.bits5 (fun HT_ HW_=> ?_)
              generalize wc.drew=w2 at BK1 HB hHeld ⊢
              refine pu 0 (some 27) ?_
              refine tu 1 (some 28) hHeld ?_
              refine ou 2 (some 29) (fun K hK=> ?_)
              refine gs Tryd.func65 #[G #[V I a0_1,V I a0_2,V I a0_3,O a0_4,V I a0_5,O a0_6]] ?_
              with_reducible refine(impl_JobOk.calls a0_1 a0_2 a0_3 a0_4 a0_5 a0_6 true _ A1.out).mono ?_
              rintro e w3 ⟨rfl,hb⟩
              refine⟨_,rfl,?_⟩
              replace BK1:=eK BK1 hb
              replace HB:=eB hb
              (try clear hb)
              refine hK.out _ _ hh (fun hHeld=> ?_)
              clear hK K
              refine nu (N:=(some 29)) ?_
              refine pu 3 (some 30) ?_
              refine pu 4 (some 31) ?_
              refine tu 5 (some 32) hHeld ?_
              refine ou 6 (some 33) (fun K hK=> ?_)
              refine gs Tryd.func72 #[G #[V I a0_1,V I a0_2,V I a0_3,O a0_4,V I a0_5,O a0_6]] ?_
              with_reducible refine(impl_JobSheets.calls kj1 a0_1 a0_2 a0_3 a0_4 a0_5 a0_6 t2 _ A2.out).mono ?_
              rintro e w4 ⟨rfl,hb⟩
              refine⟨_,rfl,?_⟩
              replace BK1:=eK BK1 hb
              replace HB:=eB hb
              (try clear hb)
              refine hK.out _ _ hh (fun hHeld=> ?_)
              clear hK K
              refine nu (N:=(some 33)) ?_
              refine pu 7 (some 34) ?_
              refine pu 8 (some 35) ?_
              refine pu 9 (some 36) ?_
              refine px 10 (some 37) ?_
              refine px 11 (some 38) ?_
              refine px 12 (some 39) ?_
              refine px 13 (some 40) ?_
              refine px 14 (some 41) ?_
              refine px 15 (some 42) ?_
              refine px 16 (some 43) ?_
              refine pu 17 (some 44) ?_
              refine pu 18 (some 2) ?_
              refine done_ (done_of HT_.out (by kernel_rfl)) ?_
              try go_wp2
              go_ret
              exact⟨rE,uB⟩
          · replace c3:=Bool.eq_false_iff.mpr c3
            subst c3
            rw[if_neg Bool.false_ne_true]at H
            obtain rfl:=Option.some.inj H
            have h_:=d14 BK1.out;(repeat(obtain⟨_,h_⟩:=h_))
            try go_wp2
            replace BK1:=dK BK1
            replace HB:=dB HB
            refine start_ (n:=19) (S:=fun w'=>cl14 w' gb1 (L A0_0 l0_0.length c0_0) (V I a0_1) (V I a0_2) (V I a0_3) (O a0_4) (V I a0_5) (O a0_6) (V I a0_7) (V I a0_8) (L A0_9 l0_9.length c0_9) (L A0_10 l0_10.length c0_10) (V I a0_11) (O a0_12) (V I a0_13)) (ds:= []) #[false,false,false,false,false,false,false,false,false,false,false,false,false,false,false,false,false,false,false] (by kernel_rfl) rfl rfl hh (fun hHeld=> ?_);refine with_tabW impl_MachineOk.tab5 impl_MachineOk.bits5 (fun HT_ HW_=> ?_)
            generalize wc.drew=w2 at BK1 HB hHeld ⊢
            refine pu 0 (some 27) ?_
            refine tu 1 (some 28) hHeld ?_
            refine ou 2 (some 29) (fun K hK=> ?_)
            refine gs Tryd.func65 #[G #[V I a0_1,V I a0_2,V I a0_3,O a0_4,V I a0_5,O a0_6]] ?_
            with_reducible refine(impl_JobOk.calls a0_1 a0_2 a0_3 a0_4 a0_5 a0_6 false _ A1.out).mono ?_
            rintro e w3 ⟨rfl,hb⟩
            refine⟨_,rfl,?_⟩
            replace BK1:=eK BK1 hb
            replace HB:=eB hb
            (try clear hb)
            refine hK.out _ _ hh (fun hHeld=> ?_)
            clear hK K
            refine nu (N:=(some 29)) ?_
            refine pu 3 (some 30) ?_
            refine px 4 (some 31) ?_
            refine px 5 (some 32) ?_
            refine px 6 (some 33) ?_
            refine px 7 (some 34) ?_
            refine pu 8 (some 35) ?_
            refine pu 9 (some 36) ?_
            refine px 10 (some 37) ?_
            refine px 11 (some 38) ?_
            refine px 12 (some 39) ?_
            refine px 13 (some 40) ?_
            refine px 14 (some 41) ?_
            refine px 15 (some 42) ?_
            refine px 16 (some 43) ?_
            refine pu 17 (some 44) ?_
            refine pu 18 (some 2) ?_
            refine done_ (done_of HT_.out (by kernel_rfl)) ?_
            try go_wp2
            go_ret
            exact⟨rE,uB⟩
def impl_FormatMachine.f (k:Nat) (l0_0:List (S40)) (a0_1:Int) (a0_2:Int) (a0_3:Int) (a0_4:Bool) (a0_5:Int) (a0_6:Bool) (a0_7:Int) (a0_8:Int) (l0_9:List Int) (l0_10:List Int) (a0_11:Int) (a0_12:Bool) (a0_13:Int):Option (List ByteArray):=(impl_MachineOk.f k l0_0 a0_1 a0_2 a0_3 a0_4 a0_5 a0_6 a0_7 a0_8 l0_9 l0_10 a0_11 a0_12 a0_13).bind fun t156=>(if t156=true then((impl_FormatInt.f (l0_0.length:Int)).bind fun t157=>(if 5+t157.size≤9223372036854775807 then((impl_FormatInt.f a0_1).bind fun t158=>(if 4+t158.size≤9223372036854775807 then((impl_FormatInt.f (l0_10.length:Int)).bind fun t159=>(if 4+t159.size≤9223372036854775807 then((impl_FormatInt.f a0_11).bind fun t160=>(if 7+t160.size≤9223372036854775807 then((impl_FormatInt.f (wrap64 (a0_13+(l0_10.length:Int)))).bind fun t161=>(if 8+t161.size≤9223372036854775807 then(some (([(⟨#[106,111,98,115,32]⟩:ByteArray)++t157,(⟨#[110,111,119,32]⟩:ByteArray)++t158,(⟨#[111,117,116,32]⟩:ByteArray)++t159,(⟨#[119,97,115,116,101,100,32]⟩:ByteArray)++t160,(⟨#[112,114,105,110,116,101,100,32]⟩:ByteArray)++t161]:List ByteArray))) else(none))) else(none))) else(none))) else(none))) else(none))) else(some ([]:List ByteArray)))
theorem impl_FormatMachine.mono:∀a0 a1 a2 a3 a4 a5 a6 a7 a8 a9 a10 a11 a12 a13 k,LeO (impl_FormatMachine.f k a0 a1 a2 a3 a4 a5 a6 a7 a8 a9 a10 a11 a12 a13) (impl_FormatMachine.f (k+1) a0 a1 a2 a3 a4 a5 a6 a7 a8 a9 a10 a11 a12 a13):=by
  intro a0 a1 a2 a3 a4 a5 a6 a7 a8 a9 a10 a11 a12 a13 k
  unfold impl_FormatMachine.f
  repeat' first|(with_reducible first|apply impl_MachineOk.mono|exact LeO.refl _|exact LeO.none _|refine LeO.ite ?_ ?_|refine LeO.bind ?_ (fun _=> ?_))|exact LeO.none _|refine LeO.ite ?_ ?_|refine LeO.bind ?_ (fun _=> ?_)
def impl_FormatMachine.T3:Bool×List (List Nat×List Nat):=(true,[([],[]),([0],[0]),([1],[1]),([2],[2]),([3],[3]),([],[]),([5],[5]),([6],[6]),([7,3],[7]),([8],[8]),([],[]),([10],[10]),([11],[11]),([12],[12]),([13,8],[13]),([14],[14]),([],[]),([16],[16]),([17],[17]),([18,14],[18]),([19],[19]),([],[]),([21],[21]),([],[]),([23],[23]),([24],[24]),([25],[25]),([22,26],[22,26]),([27,19],[27]),([28],[28]),([4,9,15,20,29],[4,9,15,20,29]),([30,28,0,1,2,3,4,5,6,7,8,9,10,11,12,13,14,15,16,17,18,19,20,21,22,23,24,25,26,27,28,29,30],[30])])
def impl_FormatMachine.B3:List Nat:= [0,1,3,7,15,0,32,96,239,495,0,1024,3072,7168,15855,32239,0,65536,196608,490991,1015279,0,2097152,0,8388608,25165824,58720256,132120576,267353583,535789039,1073741823,2147483647]
theorem impl_FormatMachine.tab3:rtab .any (opsOf Tryd.f18 3)=impl_FormatMachine.T3:=by kernel_rfl
theorem impl_FormatMachine.bits3:waitsOk impl_FormatMachine.T3.2 impl_FormatMachine.B3=true:=by kernel_rfl
set_option maxHeartbeats 40000000 in
set_option maxRecDepth 100000 in
theorem impl_FormatMachine.calls (k:Nat) (A0_0:Option Addr) (c0_0:Nat) (l0_0:List (S40)) (a0_1:Int) (a0_2:Int) (a0_3:Int) (a0_4:Bool) (a0_5:Int) (a0_6:Bool) (a0_7:Int) (a0_8:Int) (A0_9:Option Addr) (c0_9:Nat) (l0_9:List Int) (A0_10:Option Addr) (c0_10:Nat) (l0_10:List Int) (a0_11:Int) (a0_12:Bool) (a0_13:Int) (r:List ByteArray) (w:World) (hr0_0:Kd.C k40 w A0_0 l0_0.length l0_0) (hc0_0:l0_0.length≤c0_0) (hr0_9:Kd.C (Kd.int .i64) w A0_9 l0_9.length l0_9) (hc0_9:l0_9.length≤c0_9) (hr0_10:Kd.C (Kd.int .i64) w A0_10 l0_10.length l0_10) (hc0_10:l0_10.length≤c0_10) (h:impl_FormatMachine.f k l0_0 a0_1 a0_2 a0_3 a0_4 a0_5 a0_6 a0_7 a0_8 l0_9 l0_10 a0_11 a0_12 a0_13=some r) (hTab:Ito.Tab w):
    Calls Tryd.prog 18 #[G #[L A0_0 l0_0.length c0_0,V I a0_1,V I a0_2,V I a0_3,O a0_4,V I a0_5,O a0_6,V I a0_7,V I a0_8,L A0_9 l0_9.length c0_9,L A0_10 l0_10.length c0_10,V I a0_11,O a0_12,V I a0_13]] w fun e w'=>∃v0_:Value,e=.returned (v0_)∧Kd.R Kd.string 9 w' w.heap.size (fun _=>True) v0_ r∧Below w.heap.size w w':=by
  replace hTab:=C hTab
  have hu1:=Tryd.underlying45
  have HR1_0:=C hr0_0
  have HC1_0:=C hc0_0
  (try clear hr0_0);(try clear hc0_0)
  have HR1_9:=C hr0_9
  have HC1_9:=C hc0_9
  (try clear hr0_9);(try clear hc0_9)
  have HR1_10:=C hr0_10
  have HC1_10:=C hc0_10
  (try clear hr0_10);(try clear hc0_10)
  have HB:=C (Below.refl w.heap.size w)
  have H:=h
  unfold impl_FormatMachine.f at H
  clear h
  obtain⟨t1,A1,H⟩:=bnd H
  by_cases c1:t1=true
  · subst c1
    rw[if_pos rfl]at H
    obtain⟨t2,A2,H⟩:=bnd H
    by_cases c2:5+t2.size≤9223372036854775807
    · rw[if_pos c2]at H
      have c2b0:=eq_true c2
      have c2b1:decide (5+t2.size≤9223372036854775807)=true:=decide_eq_true c2
      try have c2b2:(9223372036854775807<5+t2.size)=False:=eq_false (Nat.not_lt.2 c2)
      try(have h1_:=c2;simp only[ByteArray.size_append,Ito.bsz,List.size_toArray,List.length_cons,List.length_nil]at h1_;have c2b3:=eq_false (Nat.not_lt.2 h1_);clear h1_)
      obtain⟨t3,A3,H⟩:=bnd H
      by_cases c3:4+t3.size≤9223372036854775807
      · rw[if_pos c3]at H
        have c3b0:=eq_true c3
        have c3b1:decide (4+t3.size≤9223372036854775807)=true:=decide_eq_true c3
        try have c3b2:(9223372036854775807<4+t3.size)=False:=eq_false (Nat.not_lt.2 c3)
        try(have h1_:=c3;simp only[ByteArray.size_append,Ito.bsz,List.size_toArray,List.length_cons,List.length_nil]at h1_;have c3b3:=eq_false (Nat.not_lt.2 h1_);clear h1_)
        obtain⟨t4,A4,H⟩:=bnd H
        by_cases c4:4+t4.size≤9223372036854775807
        · rw[if_pos c4]at H
          have c4b0:=eq_true c4
          have c4b1:decide (4+t4.size≤9223372036854775807)=true:=decide_eq_true c4
          try have c4b2:(9223372036854775807<4+t4.size)=False:=eq_false (Nat.not_lt.2 c4)
          try(have h1_:=c4;simp only[ByteArray.size_append,Ito.bsz,List.size_toArray,List.length_cons,List.length_nil]at h1_;have c4b3:=eq_false (Nat.not_lt.2 h1_);clear h1_)
          obtain⟨t5,A5,H⟩:=bnd H
          by_cases c5:7+t5.size≤9223372036854775807
          · rw[if_pos c5]at H
            have c5b0:=eq_true c5
            have c5b1:decide (7+t5.size≤9223372036854775807)=true:=decide_eq_true c5
            try have c5b2:(9223372036854775807<7+t5.size)=False:=eq_false (Nat.not_lt.2 c5)
            try(have h1_:=c5;simp only[ByteArray.size_append,Ito.bsz,List.size_toArray,List.length_cons,List.length_nil]at h1_;have c5b3:=eq_false (Nat.not_lt.2 h1_);clear h1_)
            obtain⟨t6,A6,H⟩:=bnd H
            by_cases c6:8+t6.size≤9223372036854775807
            · rw[if_pos c6]at H
              have c6b0:=eq_true c6
              have c6b1:decide (8+t6.size≤9223372036854775807)=true:=decide_eq_true c6
              try have c6b2:(9223372036854775807<8+t6.size)=False:=eq_false (Nat.not_lt.2 c6)
              try(have h1_:=c6;simp only[ByteArray.size_append,Ito.bsz,List.size_toArray,List.length_cons,List.length_nil]at h1_;have c6b3:=eq_false (Nat.not_lt.2 h1_);clear h1_)
              obtain⟨y1,hy1⟩:∃y_:List ByteArray,y_=(([(⟨#[106,111,98,115,32]⟩:ByteArray)++t2,(⟨#[110,111,119,32]⟩:ByteArray)++t3,(⟨#[111,117,116,32]⟩:ByteArray)++t4,(⟨#[119,97,115,116,101,100,32]⟩:ByteArray)++t5,(⟨#[112,114,105,110,116,101,100,32]⟩:ByteArray)++t6]:List ByteArray)):=⟨_,rfl⟩
              replace H:(some y1)=some r:=by first|(rw[hy1];with_reducible exact H)|(have H1_:=(Option.bind_some _ _).symm.trans H;rw[hy1];with_reducible exact H1_)|(have H1_:=(Option.bind_some _ _).symm.trans H;with_reducible exact H1_)|with_reducible exact H|(rw[hy1];exact H)|exact H
              have Ny1:=C hy1
              clear hy1
              obtain rfl:=Option.some.inj H
              go_enter Tryd.func18,Tryd.ntmps18
              try go_wp2_with (first|((with_reducible refine gate_dst (N:=1) rfl ?_);refine Fix.be 1 #[L A0_0 l0_0.length c0_0,V I a0_1,V I a0_2,V I a0_3,O a0_4,V I a0_5,O a0_6,V I a0_7,V I a0_8,L A0_9 l0_9.length c0_9,L A0_10 l0_10.length c0_10,V I a0_11,O a0_12,V I a0_13] 45 ?_;intro gb1 hg w1 BK1 hb;have GW1:D (w.heap.size≤gb1):=gE hg;have GE1:=GW1;replace HB:=eB hb;clear hb hg;have h_:=d14 BK1.out;(repeat(obtain⟨_,h_⟩:=h_)))|((with_reducible refine F (f:=42) rfl ?_);refine gl 42 (some 4) Tryd.func42 #[G #[L A0_0 l0_0.length c0_0,V I a0_1,V I a0_2,V I a0_3,O a0_4,V I a0_5,O a0_6,V I a0_7,V I a0_8,L A0_9 l0_9.length c0_9,L A0_10 l0_10.length c0_10,V I a0_11,O a0_12,V I a0_13]] ?_;(with_reducible refine(impl_MachineOk.calls k _ _ l0_0 a0_1 a0_2 a0_3 a0_4 a0_5 a0_6 a0_7 a0_8 _ _ l0_9 _ _ l0_10 a0_11 a0_12 a0_13 true _ ?side1 ?side2 ?side3 ?side4 ?side5 ?side6 A1.out).mono ?_);(case side1=>exact uC (Z HR1_0.out HB.out));(case side2=>exact HC1_0.out);(case side3=>exact uC (Z HR1_9.out HB.out));(case side4=>exact HC1_9.out);(case side5=>exact uC (Z HR1_10.out HB.out));(case side6=>exact HC1_10.out);rintro e w2 ⟨rfl,hb⟩;refine⟨_,rfl,?_⟩;replace BK1:=eK BK1 hb;replace HB:=eB hb;clear hb))
              replace BK1:=dK BK1
              replace HB:=dB HB
              refine start_ (n:=32) (S:=fun w'=>cl14 w' gb1 (L A0_0 l0_0.length c0_0) (V I a0_1) (V I a0_2) (V I a0_3) (O a0_4) (V I a0_5) (O a0_6) (V I a0_7) (V I a0_8) (L A0_9 l0_9.length c0_9) (L A0_10 l0_10.length c0_10) (V I a0_11) (O a0_12) (V I a0_13)) (ds:= []) #[false,false,false,false,false,false,false,false,false,false,false,false,false,false,false,false,false,false,false,false,false,false,false,false,false,false,false,false,false,false,false,false] (by kernel_rfl) rfl rfl hh (fun hHeld=> ?_);refine with_tabW impl_FormatMachine.tab3 impl_FormatMachine.bits3 (fun HT_ HW_=> ?_)
              generalize w2.drew=w3 at BK1 HB hHeld ⊢
              refine pu 0 (some 6) ?_
              refine pu 5 (some 11) ?_
              refine pu 6 (some 12) ?_
              refine pu 10 (some 16) ?_
              refine pu 11 (some 17) ?_
              refine pu 16 (some 22) ?_
              refine pu 17 (some 23) ?_
              refine pu 21 (some 27) ?_
              refine pu 23 (some 29) ?_
              refine pu 24 (some 30) ?_
              refine tu 1 (some 7) hHeld ?_
              refine pu 2 (some 8) ?_
              refine tu 7 (some 13) hHeld ?_
              refine tu 12 (some 18) hHeld ?_
              refine pu 13 (some 19) ?_
              refine tu 18 (some 24) hHeld ?_
              refine tu 22 (some 28) hHeld ?_
              refine tu 25 (some 31) hHeld ?_
              refine pu 26 (some 32) ?_
              refine pu 27 (some 33) ?_
              refine ou 3 (some 9) (fun K hK=> ?_)
              refine gs Tryd.func19 #[V I (l0_0.length:Int)] ?_
              with_reducible refine(impl_FormatInt.calls (l0_0.length:Int) t2 _ A2.out (Ito.on hTab.out uB)).mono ?_
              rintro e w4 ⟨rfl,hb⟩
              refine⟨_,rfl,?_⟩
              replace BK1:=eK BK1 hb
              replace HB:=eB hb
              (try clear hb)
              refine hK.out _ _ hh (fun hHeld=> ?_)
              clear hK K
              refine nu (N:=(some 9)) ?_
              refine pu 4 (some 10) ?_
              refine ou 8 (some 14) (fun K hK=> ?_)
              refine gs Tryd.func19 #[V I a0_1] ?_
              with_reducible refine(impl_FormatInt.calls a0_1 t3 _ A3.out (Ito.on hTab.out uB)).mono ?_
              rintro e w5 ⟨rfl,hb⟩
              refine⟨_,rfl,?_⟩
              replace BK1:=eK BK1 hb
              replace HB:=eB hb
              (try clear hb)
              refine hK.out _ _ hh (fun hHeld=> ?_)
              clear hK K
              refine nu (N:=(some 14)) ?_
              refine pu 9 (some 15) ?_
              refine ou 14 (some 20) (fun K hK=> ?_)
              refine gs Tryd.func19 #[V I (l0_10.length:Int)] ?_
              with_reducible refine(impl_FormatInt.calls (l0_10.length:Int) t4 _ A4.out (Ito.on hTab.out uB)).mono ?_
              rintro e w6 ⟨rfl,hb⟩
              refine⟨_,rfl,?_⟩
              replace BK1:=eK BK1 hb
              replace HB:=eB hb
              (try clear hb)
              refine hK.out _ _ hh (fun hHeld=> ?_)
              clear hK K
              refine nu (N:=(some 20)) ?_
              refine pu 15 (some 21) ?_
              refine ou 19 (some 25) (fun K hK=> ?_)
              refine gs Tryd.func19 #[V I a0_11] ?_
              with_reducible refine(impl_FormatInt.calls a0_11 t5 _ A5.out (Ito.on hTab.out uB)).mono ?_
              rintro e w7 ⟨rfl,hb⟩
              refine⟨_,rfl,?_⟩
              replace BK1:=eK BK1 hb
              replace HB:=eB hb
              (try clear hb)
              refine hK.out _ _ hh (fun hHeld=> ?_)
              clear hK K
              refine nu (N:=(some 25)) ?_
              refine pu 20 (some 26) ?_
              refine ou 28 (some 34) (fun K hK=> ?_)
              refine gs Tryd.func19 #[V I (wrap64 (a0_13+(l0_10.length:Int)))] ?_
              with_reducible refine(impl_FormatInt.calls (wrap64 (a0_13+(l0_10.length:Int))) t6 _ A6.out (Ito.on hTab.out uB)).mono ?_
              rintro e w8 ⟨rfl,hb⟩
              refine⟨_,rfl,?_⟩
              replace BK1:=eK BK1 hb
              replace HB:=eB hb
              (try clear hb)
              refine hK.out _ _ hh (fun hHeld=> ?_)
              clear hK K
              refine nu (N:=(some 34)) ?_
              refine pu 29 (some 35) ?_
              refine ou 30 (some 36) (fun K hK=> ?_)
              refine Kd.R_lit_step Kd.string _ 9 ?hg (N:=36) ?hd (xs:=([(⟨#[106,111,98,115,32]⟩:ByteArray)++t2,(⟨#[110,111,119,32]⟩:ByteArray)++t3,(⟨#[111,117,116,32]⟩:ByteArray)++t4,(⟨#[119,97,115,116,101,100,32]⟩:ByteArray)++t5,(⟨#[112,114,105,110,116,101,100,32]⟩:ByteArray)++t6]:List ByteArray)) (inner:= [.string ((⟨#[106,111,98,115,32]⟩:ByteArray)++t2),.string ((⟨#[110,111,119,32]⟩:ByteArray)++t3),.string ((⟨#[111,117,116,32]⟩:ByteArray)++t4),.string ((⟨#[119,97,115,116,101,100,32]⟩:ByteArray)++t5),.string ((⟨#[112,114,105,110,116,101,100,32]⟩:ByteArray)++t6)]) (ok:=fun _=>True) (okp:=fun _=>True) ?hr ?hp (fun _ hk=>hk) trivial (Below.refl _ _) (Nat.le_refl _) (by simp) ?_;(case hd=>rfl);(case hg=>rfl);(case hr=>exact Fix.hr);(case hp=>exact(Reps.one (show Kd.M Kd.string _ _ _ ((⟨#[106,111,98,115,32]⟩:ByteArray)++t2) [.string ((⟨#[106,111,98,115,32]⟩:ByteArray)++t2)] from rfl) (Reps.one (show Kd.M Kd.string _ _ _ ((⟨#[110,111,119,32]⟩:ByteArray)++t3) [.string ((⟨#[110,111,119,32]⟩:ByteArray)++t3)] from rfl) (Reps.one (show Kd.M Kd.string _ _ _ ((⟨#[111,117,116,32]⟩:ByteArray)++t4) [.string ((⟨#[111,117,116,32]⟩:ByteArray)++t4)] from rfl) (Reps.one (show Kd.M Kd.string _ _ _ ((⟨#[119,97,115,116,101,100,32]⟩:ByteArray)++t5) [.string ((⟨#[119,97,115,116,101,100,32]⟩:ByteArray)++t5)] from rfl) (Reps.one (show Kd.M Kd.string _ _ _ ((⟨#[112,114,105,110,116,101,100,32]⟩:ByteArray)++t6) [.string ((⟨#[112,114,105,110,116,101,100,32]⟩:ByteArray)++t6)] from rfl) (Reps.none _ _)))))))
              intro v1 w9 ho1 hb hg_ hnew_
              clear hg_ hnew_
              (first|rw[←Ny1.out]at ho1|(simp only[Int.reduceToNat]at ho1;rw[←Ny1.out]at ho1))
              have HO1:=lR ho1
              replace BK1:=eK BK1 hb
              replace HB:=eB hb
              clear hb ho1
              refine hK.out _ _ hh (fun hHeld=> ?_)
              clear hK K
              refine nu (N:=(some 36)) ?_
              refine pu 31 (some 2) ?_
              refine done_ (done_of HT_.out (by kernel_rfl)) ?_
              try go_wp2
              go_ret
              exact⟨_,rE,fR HO1.out,uB⟩
            · rw[if_neg c6]at H
              exact absurd H (by simp)
          · rw[if_neg c5]at H
            exact absurd H (by simp)
        · rw[if_neg c4]at H
          exact absurd H (by simp)
      · rw[if_neg c3]at H
        exact absurd H (by simp)
    · rw[if_neg c2]at H
      exact absurd H (by simp)
  · replace c1:=Bool.eq_false_iff.mpr c1
    subst c1
    rw[if_neg Bool.false_ne_true]at H
    obtain rfl:=Option.some.inj H
    go_enter Tryd.func18,Tryd.ntmps18
    go_wp2_with (first|((with_reducible refine gate_dst (N:=1) rfl ?_);refine Fix.be 1 #[L A0_0 l0_0.length c0_0,V I a0_1,V I a0_2,V I a0_3,O a0_4,V I a0_5,O a0_6,V I a0_7,V I a0_8,L A0_9 l0_9.length c0_9,L A0_10 l0_10.length c0_10,V I a0_11,O a0_12,V I a0_13] 45 ?_;intro gb1 hg w1 BK1 hb;have GW1:D (w.heap.size≤gb1):=gE hg;have GE1:=GW1;replace HB:=eB hb;clear hb hg;have h_:=d14 BK1.out;(repeat(obtain⟨_,h_⟩:=h_)))|((with_reducible refine F (f:=42) rfl ?_);refine gl 42 (some 4) Tryd.func42 #[G #[L A0_0 l0_0.length c0_0,V I a0_1,V I a0_2,V I a0_3,O a0_4,V I a0_5,O a0_6,V I a0_7,V I a0_8,L A0_9 l0_9.length c0_9,L A0_10 l0_10.length c0_10,V I a0_11,O a0_12,V I a0_13]] ?_;(with_reducible refine(impl_MachineOk.calls k _ _ l0_0 a0_1 a0_2 a0_3 a0_4 a0_5 a0_6 a0_7 a0_8 _ _ l0_9 _ _ l0_10 a0_11 a0_12 a0_13 false _ ?side1 ?side2 ?side3 ?side4 ?side5 ?side6 A1.out).mono ?_);(case side1=>exact uC (Z HR1_0.out HB.out));(case side2=>exact HC1_0.out);(case side3=>exact uC (Z HR1_9.out HB.out));(case side4=>exact HC1_9.out);(case side5=>exact uC (Z HR1_10.out HB.out));(case side6=>exact HC1_10.out);rintro e w2 ⟨rfl,hb⟩;refine⟨_,rfl,?_⟩;replace BK1:=eK BK1 hb;replace HB:=eB hb;clear hb))
    go_ret
    exact⟨_,rE,rN,uB⟩
def laws_szJobS.f (l0:List (S52)) (a1:Int):Option (Int):=if(wrap64 (a1 - (l0.length:Int)))<0 then(some (-1)) else(some (wrap64 (a1 - (l0.length:Int))))
theorem laws_szJobS.W1 {p:Prop} (h:p:=by
    go_enter Tryd.func44,Tryd.ntmps44
    go_wp2
    go_ret
    exact⟨by first|rfl|(simp;done)|(simp[*];done),by repeat(first|exact Drawn0.refl _|apply Drawn0.step)⟩):p:=h
set_option maxHeartbeats 40000000 in
set_option maxRecDepth 100000 in
theorem laws_szJobS.calls (A0:Option Addr) (c0:Nat) (l0:List (S52)) (a1:Int) (r:Int) (w:World) (hr0:Kd.C k52 w A0 l0.length l0) (hc0:l0.length≤c0) (h:laws_szJobS.f l0 a1=some r):
    Calls Tryd.prog 44 #[L A0 l0.length c0,V I a1] w fun e w'=>e=.returned (V I r)∧Drawn0 w w':=by
  have HR1:=C hr0
  have HC1:=C hc0
  (try clear hr0);(try clear hc0)
  have H:=h
  unfold laws_szJobS.f at H
  clear h
  by_cases c1:(wrap64 (a1 - (l0.length:Int)))<0
  · rw[if_pos c1]at H
    have c1b0:decide ((wrap64 (a1 - (l0.length:Int)))<0)=true:=decide_eq_true c1
    clear c1
    obtain rfl:=Option.some.inj H
    exact laws_szJobS.W1
  · rw[if_neg c1]at H
    have c1b0:decide ((wrap64 (a1 - (l0.length:Int)))<0)=false:=decide_eq_false c1
    clear c1
    obtain rfl:=Option.some.inj H
    exact laws_szJobS.W1
def laws_szIntS.f (l0:List Int) (a1:Int):Option (Int):=if(wrap64 (a1 - (l0.length:Int)))<0 then(some (-1)) else(some (wrap64 (a1 - (l0.length:Int))))
theorem laws_szIntS.W1 {p:Prop} (h:p:=by
    go_enter Tryd.func74,Tryd.ntmps74
    go_wp2
    go_ret
    exact⟨by first|rfl|(simp;done)|(simp[*];done),by repeat(first|exact Drawn0.refl _|apply Drawn0.step)⟩):p:=h
set_option maxHeartbeats 40000000 in
set_option maxRecDepth 100000 in
theorem laws_szIntS.calls (A0:Option Addr) (c0:Nat) (l0:List Int) (a1:Int) (r:Int) (w:World) (hr0:Kd.C (Kd.int .i64) w A0 l0.length l0) (hc0:l0.length≤c0) (h:laws_szIntS.f l0 a1=some r):
    Calls Tryd.prog 74 #[L A0 l0.length c0,V I a1] w fun e w'=>e=.returned (V I r)∧Drawn0 w w':=by
  have HR1:=C hr0
  have HC1:=C hc0
  (try clear hr0);(try clear hc0)
  have H:=h
  unfold laws_szIntS.f at H
  clear h
  by_cases c1:(wrap64 (a1 - (l0.length:Int)))<0
  · rw[if_pos c1]at H
    have c1b0:decide ((wrap64 (a1 - (l0.length:Int)))<0)=true:=decide_eq_true c1
    clear c1
    obtain rfl:=Option.some.inj H
    exact laws_szIntS.W1
  · rw[if_neg c1]at H
    have c1b0:decide ((wrap64 (a1 - (l0.length:Int)))<0)=false:=decide_eq_false c1
    clear c1
    obtain rfl:=Option.some.inj H
    exact laws_szIntS.W1
def laws_szLine.f (a0_0:Int) (a0_1:Int) (l0_2:List Int) (l0_3:List Int) (a0_4:Int) (a0_5:Bool) (a1:Int):Option (Int):=(laws_szIntS.f l0_2 a1).bind fun t166=>(if t166<0 then(some (-1)) else((laws_szIntS.f l0_3 t166).bind fun t167=>(if t167<0 then(some (-1)) else(some t167))))
theorem laws_szLine.W1 {p:Prop} (h:p:=by
    go_enter Tryd.func45,Tryd.ntmps45
    go_wp2_with (first|((with_reducible refine gate_dst (N:=2) rfl ?_);refine Fix.be 2 #[V I a0_0,V I a0_1,L A0_2 l0_2.length c0_2,L A0_3 l0_3.length c0_3,V I a0_4,O a0_5] 53 ?_;intro gb1 hg w1 BK1 hb;have GW1:D (w.heap.size≤gb1):=gE hg;have GE1:=GW1;replace HB:=eB hb;clear hb hg;obtain⟨hcz1_0,hcz1_1,hcz1_2,hcz1_3,hcz1_4,hcz1_5,hfz1_0,hfz1_1,hfz1_2,hfz1_3,hfz1_4,hfz1_5⟩:=d6 BK1.out)|((with_reducible refine F (f:=74) rfl ?_);refine gl 74 (some 8) Tryd.func74 #[L A0_2 l0_2.length c0_2,V I a1] ?_;(with_reducible refine(laws_szIntS.calls _ _ l0_2 a1 t1 _ ?side1 ?side2 A1.out).mono ?_);(case side1=>exact uC (Z HR1_2.out HB.out));(case side2=>exact HC1_2.out);rintro e w' ⟨rfl,⟨nd,rfl⟩⟩;refine⟨_,rfl,?_⟩)|((with_reducible refine F (f:=74) rfl ?_);refine gl 74 (some 14) Tryd.func74 #[L A0_3 l0_3.length c0_3,V I t1] ?_;(with_reducible refine(laws_szIntS.calls _ _ l0_3 t1 t2 _ ?side1 ?side2 A2.out).mono ?_);(case side1=>exact uC (Z HR1_3.out uB));(case side2=>exact HC1_3.out);rintro e w' ⟨rfl,⟨nd,rfl⟩⟩;refine⟨_,rfl,?_⟩))
    go_ret
    exact⟨rE,uB⟩):p:=h
set_option maxHeartbeats 40000000 in
set_option maxRecDepth 100000 in
theorem laws_szLine.calls (a0_0:Int) (a0_1:Int) (A0_2:Option Addr) (c0_2:Nat) (l0_2:List Int) (A0_3:Option Addr) (c0_3:Nat) (l0_3:List Int) (a0_4:Int) (a0_5:Bool) (a1:Int) (r:Int) (w:World) (hr0_2:Kd.C (Kd.int .i64) w A0_2 l0_2.length l0_2) (hc0_2:l0_2.length≤c0_2) (hr0_3:Kd.C (Kd.int .i64) w A0_3 l0_3.length l0_3) (hc0_3:l0_3.length≤c0_3) (h:laws_szLine.f a0_0 a0_1 l0_2 l0_3 a0_4 a0_5 a1=some r):
    Calls Tryd.prog 45 #[G #[V I a0_0,V I a0_1,L A0_2 l0_2.length c0_2,L A0_3 l0_3.length c0_3,V I a0_4,O a0_5],V I a1] w fun e w'=>e=.returned (V I r)∧Below w.heap.size w w':=by
  have hu1:=Tryd.underlying53
  have HR1_2:=C hr0_2
  have HC1_2:=C hc0_2
  (try clear hr0_2);(try clear hc0_2)
  have HR1_3:=C hr0_3
  have HC1_3:=C hc0_3
  (try clear hr0_3);(try clear hc0_3)
  have HB:=C (Below.refl w.heap.size w)
  have H:=h
  unfold laws_szLine.f at H
  clear h
  obtain⟨t1,A1,H⟩:=bnd H
  by_cases c1:t1<0
  · rw[if_pos c1]at H
    have c1b0:decide (t1<0)=true:=decide_eq_true c1
    clear c1
    obtain rfl:=Option.some.inj H
    go_enter Tryd.func45,Tryd.ntmps45
    go_wp2_with (first|((with_reducible refine gate_dst (N:=2) rfl ?_);refine Fix.be 2 #[V I a0_0,V I a0_1,L A0_2 l0_2.length c0_2,L A0_3 l0_3.length c0_3,V I a0_4,O a0_5] 53 ?_;intro gb1 hg w1 BK1 hb;have GW1:D (w.heap.size≤gb1):=gE hg;have GE1:=GW1;replace HB:=eB hb;clear hb hg;obtain⟨hcz1_0,hcz1_1,hcz1_2,hcz1_3,hcz1_4,hcz1_5,hfz1_0,hfz1_1,hfz1_2,hfz1_3,hfz1_4,hfz1_5⟩:=d6 BK1.out)|((with_reducible refine F (f:=74) rfl ?_);refine gl 74 (some 8) Tryd.func74 #[L A0_2 l0_2.length c0_2,V I a1] ?_;(with_reducible refine(laws_szIntS.calls _ _ l0_2 a1 t1 _ ?side1 ?side2 A1.out).mono ?_);(case side1=>exact uC (Z HR1_2.out HB.out));(case side2=>exact HC1_2.out);rintro e w' ⟨rfl,⟨nd,rfl⟩⟩;refine⟨_,rfl,?_⟩))
    go_ret
    exact⟨rE,uB⟩
  · rw[if_neg c1]at H
    have c1b0:decide (t1<0)=false:=decide_eq_false c1
    clear c1
    obtain⟨t2,A2,H⟩:=bnd H
    by_cases c2:t2<0
    · rw[if_pos c2]at H
      have c2b0:decide (t2<0)=true:=decide_eq_true c2
      clear c2
      obtain rfl:=Option.some.inj H
      exact laws_szLine.W1
    · rw[if_neg c2]at H
      have c2b0:decide (t2<0)=false:=decide_eq_false c2
      clear c2
      obtain rfl:=Option.some.inj H
      exact laws_szLine.W1
def laws_szMachine.f (l0_0:List (S52)) (a0_1:Int) (a0_2:Int) (a0_3:Int) (a0_4:Bool) (a0_5:Int) (a0_6:Bool) (a0_7:Int) (a0_8:Int) (l0_9:List Int) (l0_10:List Int) (a0_11:Int) (a0_12:Bool) (a0_13:Int) (a1:Int):Option (Int):=(laws_szJobS.f l0_0 a1).bind fun t169=>(if t169<0 then(some (-1)) else((laws_szLine.f a0_7 a0_8 l0_9 l0_10 a0_11 a0_12 t169).bind fun t170=>(if t170<0 then(some (-1)) else(some t170))))
theorem laws_szMachine.W1 {p:Prop} (h:p:=by
    go_enter Tryd.func20,Tryd.ntmps20
    go_wp2_with (first|((with_reducible refine gate_dst (N:=2) rfl ?_);refine Fix.be 2 #[L A0_0 l0_0.length c0_0,V I a0_1,V I a0_2,V I a0_3,O a0_4,V I a0_5,O a0_6,V I a0_7,V I a0_8,L A0_9 l0_9.length c0_9,L A0_10 l0_10.length c0_10,V I a0_11,O a0_12,V I a0_13] 55 ?_;intro gb1 hg w1 BK1 hb;have GW1:D (w.heap.size≤gb1):=gE hg;have GE1:=GW1;replace HB:=eB hb;clear hb hg;obtain⟨hcz1_0,hcz1_1,hcz1_2,hcz1_3,hcz1_4,hcz1_5,hcz1_6,hcz1_7,hcz1_8,hcz1_9,hcz1_10,hcz1_11,hcz1_12,hcz1_13,hfz1_0,hfz1_1,hfz1_2,hfz1_3,hfz1_4,hfz1_5,hfz1_6,hfz1_7,hfz1_8,hfz1_9,hfz1_10,hfz1_11,hfz1_12,hfz1_13⟩:=d14 BK1.out)|((with_reducible refine F (f:=44) rfl ?_);refine gl 44 (some 8) Tryd.func44 #[L A0_0 l0_0.length c0_0,V I a1] ?_;(with_reducible refine(laws_szJobS.calls _ _ l0_0 a1 t1 _ ?side1 ?side2 A1.out).mono ?_);(case side1=>exact uC (Z HR1_0.out HB.out));(case side2=>exact HC1_0.out);rintro e w' ⟨rfl,⟨nd,rfl⟩⟩;refine⟨_,rfl,?_⟩)|((with_reducible refine F (f:=45) rfl ?_);refine gl 45 (some 14) Tryd.func45 #[G #[V I a0_7,V I a0_8,L A0_9 l0_9.length c0_9,L A0_10 l0_10.length c0_10,V I a0_11,O a0_12],V I t1] ?_;(with_reducible refine(laws_szLine.calls a0_7 a0_8 _ _ l0_9 _ _ l0_10 a0_11 a0_12 t1 t2 _ ?side1 ?side2 ?side3 ?side4 A2.out).mono ?_);(case side1=>exact uC (Z HR1_9.out uB));(case side2=>exact HC1_9.out);(case side3=>exact uC (Z HR1_10.out uB));(case side4=>exact HC1_10.out);rintro e w2 ⟨rfl,hb⟩;refine⟨_,rfl,?_⟩;replace BK1:=eK BK1 hb;replace HB:=eB hb;clear hb))
    go_ret
    exact⟨rE,uB⟩):p:=h
set_option maxHeartbeats 40000000 in
set_option maxRecDepth 100000 in
theorem laws_szMachine.calls (A0_0:Option Addr) (c0_0:Nat) (l0_0:List (S52)) (a0_1:Int) (a0_2:Int) (a0_3:Int) (a0_4:Bool) (a0_5:Int) (a0_6:Bool) (a0_7:Int) (a0_8:Int) (A0_9:Option Addr) (c0_9:Nat) (l0_9:List Int) (A0_10:Option Addr) (c0_10:Nat) (l0_10:List Int) (a0_11:Int) (a0_12:Bool) (a0_13:Int) (a1:Int) (r:Int) (w:World) (hr0_0:Kd.C k52 w A0_0 l0_0.length l0_0) (hc0_0:l0_0.length≤c0_0) (hr0_9:Kd.C (Kd.int .i64) w A0_9 l0_9.length l0_9) (hc0_9:l0_9.length≤c0_9) (hr0_10:Kd.C (Kd.int .i64) w A0_10 l0_10.length l0_10) (hc0_10:l0_10.length≤c0_10) (h:laws_szMachine.f l0_0 a0_1 a0_2 a0_3 a0_4 a0_5 a0_6 a0_7 a0_8 l0_9 l0_10 a0_11 a0_12 a0_13 a1=some r):
    Calls Tryd.prog 20 #[G #[L A0_0 l0_0.length c0_0,V I a0_1,V I a0_2,V I a0_3,O a0_4,V I a0_5,O a0_6,V I a0_7,V I a0_8,L A0_9 l0_9.length c0_9,L A0_10 l0_10.length c0_10,V I a0_11,O a0_12,V I a0_13],V I a1] w fun e w'=>e=.returned (V I r)∧Below w.heap.size w w':=by
  have hu1:=Tryd.underlying55
  have hu2:=Tryd.underlying53
  have HR1_0:=C hr0_0
  have HC1_0:=C hc0_0
  (try clear hr0_0);(try clear hc0_0)
  have HR1_9:=C hr0_9
  have HC1_9:=C hc0_9
  (try clear hr0_9);(try clear hc0_9)
  have HR1_10:=C hr0_10
  have HC1_10:=C hc0_10
  (try clear hr0_10);(try clear hc0_10)
  have HB:=C (Below.refl w.heap.size w)
  have H:=h
  unfold laws_szMachine.f at H
  clear h
  obtain⟨t1,A1,H⟩:=bnd H
  by_cases c1:t1<0
  · rw[if_pos c1]at H
    have c1b0:decide (t1<0)=true:=decide_eq_true c1
    clear c1
    obtain rfl:=Option.some.inj H
    exact laws_szMachine.W1
  · rw[if_neg c1]at H
    have c1b0:decide (t1<0)=false:=decide_eq_false c1
    clear c1
    obtain⟨t2,A2,H⟩:=bnd H
    by_cases c2:t2<0
    · rw[if_pos c2]at H
      have c2b0:decide (t2<0)=true:=decide_eq_true c2
      clear c2
      obtain rfl:=Option.some.inj H
      exact laws_szMachine.W1
    · rw[if_neg c2]at H
      have c2b0:decide (t2<0)=false:=decide_eq_false c2
      clear c2
      obtain rfl:=Option.some.inj H
      exact laws_szMachine.W1
def spec_l01Figure.f (a0:Int):Option (Int):=if a0<10 then(some ((wrap64 (48+a0)) % 256)) else(some ((wrap64 ((wrap64 (97+a0)) - 10)) % 256))
theorem spec_l01Figure.W1 {p:Prop} (h:p:=by
    go_enter Tryd.func64,Tryd.ntmps64
    go_wp2
    go_ret
    exact⟨by first|rfl|(simp;done)|(simp[*];done),by repeat(first|exact Drawn0.refl _|apply Drawn0.step)⟩):p:=h
set_option maxHeartbeats 40000000 in
set_option maxRecDepth 100000 in
theorem spec_l01Figure.calls (a0:Int) (r:Int) (w:World) (h:spec_l01Figure.f a0=some r):
    Calls Tryd.prog 64 #[V I a0] w fun e w'=>e=.returned (.int .u8 r)∧Drawn0 w w':=by
  have H:=h
  unfold spec_l01Figure.f at H
  clear h
  by_cases c1:a0<10
  · rw[if_pos c1]at H
    have c1b0:decide (a0<10)=true:=decide_eq_true c1
    clear c1
    obtain rfl:=Option.some.inj H
    exact spec_l01Figure.W1
  · rw[if_neg c1]at H
    have c1b0:decide (a0<10)=false:=decide_eq_false c1
    clear c1
    obtain rfl:=Option.some.inj H
    exact spec_l01Figure.W1
def spec_FormatInt.l0:Nat→Int→Bool→ByteArray→Option (ByteArray)
  |0,_,_,_=>none
  |k+1,x0,x3,x4=>if x0=0 then(if x3=true then(if 1+x4.size≤9223372036854775807 then(some ((⟨#[45]⟩:ByteArray)++x4)) else(none)) else(some x4)) else(if(Int.tmod x0 10)<0 then((spec_l01Figure.f (wrap64 (-(Int.tmod x0 10)))).bind fun t171=>((some (([t171]:List Int):List Int)).bind fun y172=>(if(strOfNums y172).size+x4.size≤9223372036854775807 then(spec_FormatInt.l0 k (wrap64 (Int.tdiv x0 10)) x3 ((strOfNums y172)++x4)) else(none)))) else((spec_l01Figure.f (Int.tmod x0 10)).bind fun t175=>((some (([t175]:List Int):List Int)).bind fun y176=>(if(strOfNums y176).size+x4.size≤9223372036854775807 then(spec_FormatInt.l0 k (wrap64 (Int.tdiv x0 10)) x3 ((strOfNums y176)++x4)) else(none)))))
def spec_FormatInt.f (k:Nat) (a0:Int):Option (ByteArray):=if a0=0 then(some (⟨#[48]⟩:ByteArray)) else(spec_FormatInt.l0 k a0 (decide (a0<0)) (⟨#[]⟩:ByteArray))
theorem spec_FormatInt.mono_l:∀k,(∀y0 y1 y2,LeO (spec_FormatInt.l0 k y0 y1 y2) (spec_FormatInt.l0 (k+1) y0 y1 y2))
  |0=>fun _ _ _ r h=>by simp[spec_FormatInt.l0]at h
  |k+1=>by
    have ih0:=spec_FormatInt.mono_l k
    · intro y0 y1 y2
      unfold spec_FormatInt.l0
      repeat' first|(with_reducible first|apply ih0|exact LeO.refl _|exact LeO.none _|refine LeO.ite ?_ ?_|refine LeO.bind ?_ (fun _=> ?_))|apply ih0|exact LeO.none _|refine LeO.ite ?_ ?_|refine LeO.bind ?_ (fun _=> ?_)
theorem spec_FormatInt.mono:∀a0 k,LeO (spec_FormatInt.f k a0) (spec_FormatInt.f (k+1) a0):=by
  intro a0 k
  have ih0:=spec_FormatInt.mono_l k
  unfold spec_FormatInt.f
  repeat' first|(with_reducible first|apply ih0|exact LeO.refl _|exact LeO.none _|refine LeO.ite ?_ ?_|refine LeO.bind ?_ (fun _=> ?_))|apply ih0|exact LeO.none _|refine LeO.ite ?_ ?_|refine LeO.bind ?_ (fun _=> ?_)
theorem spec_FormatInt.W1 {p:Prop} (h:p:=by
    go_wp2
    first
      | (try (any_goals (exfalso; have h1_ := of_decide_eq_true c3b0; omega))
         go_ret
         exact⟨rE,uB⟩)
      | (try (any_goals (exfalso; have h1_ := of_decide_eq_false c3b0; omega))
         go_ret
         exact⟨rE,uB⟩)):p:=h
set_option maxHeartbeats 40000000 in
set_option maxRecDepth 100000 in
theorem spec_FormatInt.calls (k:Nat) (a0:Int) (r:ByteArray) (w:World) (h:spec_FormatInt.f k a0=some r):
    Calls Tryd.prog 34 #[V I a0] w fun e w'=>e=.returned (.string r)∧Below w.heap.size w w':=by
  have HB:=C (Below.refl w.heap.size w)
  have H:=h
  unfold spec_FormatInt.f at H
  clear h
  by_cases c1:a0=0
  · rw[if_pos c1]at H
    have c1b0:(a0==0)=true:=beq_iff_eq.mpr c1
    have c1b1:(a0 !=0)=false:=bne_eq_false_iff_eq.mpr c1
    clear c1
    obtain rfl:=Option.some.inj H
    go_enter Tryd.func34,Tryd.ntmps34
    go_wp2
    go_ret
    exact⟨rE,uB⟩
  · rw[if_neg c1]at H
    have c1b0:(a0==0)=false:=beq_eq_false_iff_ne.mpr c1
    have c1b1:(a0 !=0)=true:=bne_iff_ne.mpr c1
    have H':=C H
    clear H
    go_enter Tryd.func34,Tryd.ntmps34
    go_wp2
    go_loopg [0,4] k (fun kq v0 v4 w'=>∃(x1_1:Int) (x2_1:ByteArray),v0=V I x1_1∧v4=.string x2_1∧D (spec_FormatInt.l0 kq x1_1 (decide (a0<0)) x2_1=some r)∧D (kq≤k)∧D (Below w.heap.size w w'))
    case atStart=>exact⟨(a0),((⟨#[]⟩:ByteArray)),rS,rS,H',⟨Nat.le_refl _⟩,⟨uB⟩⟩
    case round=>
      clear H'
      obtain⟨x1_1,x2_1,rfl,rfl,HA,HK1,HB⟩:=hrel
      cases gk with
      |zero=>exact absurd HA.out (by simp[spec_FormatInt.l0])
      |succ k1=>
        have H:=HA.out
        clear HA
        simp only[spec_FormatInt.l0]at H
        by_cases c2:x1_1=0
        · rw[if_pos c2]at H
          have c2b0:(x1_1==0)=true:=beq_iff_eq.mpr c2
          have c2b1:(x1_1 !=0)=false:=bne_eq_false_iff_eq.mpr c2
          clear c2
          by_cases c3:(decide (a0<0))=true
          · rw[if_pos c3]at H
            have c3b0:(decide (a0<0))=true:=c3
            clear c3
            by_cases c4:1+x2_1.size≤9223372036854775807
            · rw[if_pos c4]at H
              have c4b0:=eq_true c4
              have c4b1:decide (1+x2_1.size≤9223372036854775807)=true:=decide_eq_true c4
              try have c4b2:(9223372036854775807<1+x2_1.size)=False:=eq_false (Nat.not_lt.2 c4)
              try(have h1_:=c4;simp only[ByteArray.size_append,Ito.bsz,List.size_toArray,List.length_cons,List.length_nil]at h1_;have c4b3:=eq_false (Nat.not_lt.2 h1_);clear h1_)
              obtain rfl:=Option.some.inj H
              exact spec_FormatInt.W1
            · rw[if_neg c4]at H
              exact absurd H (by simp)
          · rw[if_neg c3]at H
            have c3b0:(decide (a0<0))=false:=by simpa using c3
            clear c3
            obtain rfl:=Option.some.inj H
            exact spec_FormatInt.W1
        · rw[if_neg c2]at H
          have c2b0:(x1_1==0)=false:=beq_eq_false_iff_ne.mpr c2
          have c2b1:(x1_1 !=0)=true:=bne_iff_ne.mpr c2
          by_cases c3:(Int.tmod x1_1 10)<0
          · rw[if_pos c3]at H
            have c3b0:decide ((Int.tmod x1_1 10)<0)=true:=decide_eq_true c3
            clear c3
            obtain⟨t1,A1,H⟩:=bnd H
            obtain⟨y1,hy1⟩:∃y_:List Int,y_=(([t1]:List Int)):=⟨_,rfl⟩
            replace H:(if(strOfNums y1).size+x2_1.size≤9223372036854775807 then(spec_FormatInt.l0 k1 (wrap64 (Int.tdiv x1_1 10)) (decide (a0<0)) ((strOfNums y1)++x2_1)) else(none))=some r:=by first|(rw[hy1];with_reducible exact H)|(have H1_:=(Option.bind_some _ _).symm.trans H;rw[hy1];with_reducible exact H1_)|(have H1_:=(Option.bind_some _ _).symm.trans H;with_reducible exact H1_)|with_reducible exact H|(rw[hy1];exact H)|exact H
            have Ny1:=C hy1
            clear hy1
            by_cases c4:(strOfNums y1).size+x2_1.size≤9223372036854775807
            · rw[if_pos c4]at H
              have c4b0:=eq_true c4
              have c4b1:decide ((strOfNums y1).size+x2_1.size≤9223372036854775807)=true:=decide_eq_true c4
              try have c4b2:(9223372036854775807<(strOfNums y1).size+x2_1.size)=False:=eq_false (Nat.not_lt.2 c4)
              try(have h1_:=c4;simp only[ByteArray.size_append,Ito.bsz,List.size_toArray,List.length_cons,List.length_nil]at h1_;have c4b3:=eq_false (Nat.not_lt.2 h1_);clear h1_)
              have H':=C H
              clear H
              go_wp2_with (first|((with_reducible refine F (f:=64) rfl ?_);refine gl 64 (some 19) Tryd.func64 #[V I (wrap64 (-(Int.tmod x1_1 10)))] ?_;(with_reducible refine(spec_l01Figure.calls (wrap64 (-(Int.tmod x1_1 10))) t1 _ A1.out).mono ?_);rintro e w' ⟨rfl,⟨nd,rfl⟩⟩;refine⟨_,rfl,?_⟩)|((with_reducible refine gate_dst (N:=20) rfl ?_);refine Kd.R_lit (Kd.int .u8) _ 5 ?hg (N:=20) ?hd (xs:=([t1]:List Int)) (inner:= [.int .u8 t1]) (ok:=fun _=>True) (okp:=fun _=>True) ?hr ?hp (fun _ hk=>hk) trivial (Below.refl _ _) (Nat.le_refl _) (by simp) ?_;(case hd=>rfl);(case hg=>rfl);(case hr=>exact Fix.hr);(case hp=>exact(Reps.one (show Kd.M (Kd.int .u8) _ _ _ t1 [.int .u8 t1] from rfl) (Reps.none _ _)));intro v1 w1 ho1 hb hg_ hnew_;clear hg_ hnew_;(first|rw[←Ny1.out]at ho1|(simp only[Int.reduceToNat]at ho1;rw[←Ny1.out]at ho1));have HO1:=lR ho1;replace HB:=eB hb;clear hb ho1;have hcv1:=own_string (P:=Tryd.prog) Tryd.underlying36 Tryd.underlying5 Tryd.underlying9 (Kd.own_of_R HO1.out)))
              go_roundg k1
              case measure=>have:=HK1.out;omega
              case rel=>exact⟨(wrap64 (Int.tdiv x1_1 10)),((strOfNums y1)++x2_1),rS,rS,H',⟨by have:=HK1.out;omega⟩,⟨uB⟩⟩
            · rw[if_neg c4]at H
              exact absurd H (by simp)
          · rw[if_neg c3]at H
            have c3b0:decide ((Int.tmod x1_1 10)<0)=false:=decide_eq_false c3
            clear c3
            obtain⟨t1,A1,H⟩:=bnd H
            obtain⟨y1,hy1⟩:∃y_:List Int,y_=(([t1]:List Int)):=⟨_,rfl⟩
            replace H:(if(strOfNums y1).size+x2_1.size≤9223372036854775807 then(spec_FormatInt.l0 k1 (wrap64 (Int.tdiv x1_1 10)) (decide (a0<0)) ((strOfNums y1)++x2_1)) else(none))=some r:=by first|(rw[hy1];with_reducible exact H)|(have H1_:=(Option.bind_some _ _).symm.trans H;rw[hy1];with_reducible exact H1_)|(have H1_:=(Option.bind_some _ _).symm.trans H;with_reducible exact H1_)|with_reducible exact H|(rw[hy1];exact H)|exact H
            have Ny1:=C hy1
            clear hy1
            by_cases c4:(strOfNums y1).size+x2_1.size≤9223372036854775807
            · rw[if_pos c4]at H
              have c4b0:=eq_true c4
              have c4b1:decide ((strOfNums y1).size+x2_1.size≤9223372036854775807)=true:=decide_eq_true c4
              try have c4b2:(9223372036854775807<(strOfNums y1).size+x2_1.size)=False:=eq_false (Nat.not_lt.2 c4)
              try(have h1_:=c4;simp only[ByteArray.size_append,Ito.bsz,List.size_toArray,List.length_cons,List.length_nil]at h1_;have c4b3:=eq_false (Nat.not_lt.2 h1_);clear h1_)
              have H':=C H
              clear H
              go_wp2_with (first|((with_reducible refine F (f:=64) rfl ?_);refine gl 64 (some 19) Tryd.func64 #[V I (Int.tmod x1_1 10)] ?_;(with_reducible refine(spec_l01Figure.calls (Int.tmod x1_1 10) t1 _ A1.out).mono ?_);rintro e w' ⟨rfl,⟨nd,rfl⟩⟩;refine⟨_,rfl,?_⟩)|((with_reducible refine gate_dst (N:=20) rfl ?_);refine Kd.R_lit (Kd.int .u8) _ 5 ?hg (N:=20) ?hd (xs:=([t1]:List Int)) (inner:= [.int .u8 t1]) (ok:=fun _=>True) (okp:=fun _=>True) ?hr ?hp (fun _ hk=>hk) trivial (Below.refl _ _) (Nat.le_refl _) (by simp) ?_;(case hd=>rfl);(case hg=>rfl);(case hr=>exact Fix.hr);(case hp=>exact(Reps.one (show Kd.M (Kd.int .u8) _ _ _ t1 [.int .u8 t1] from rfl) (Reps.none _ _)));intro v1 w1 ho1 hb hg_ hnew_;clear hg_ hnew_;(first|rw[←Ny1.out]at ho1|(simp only[Int.reduceToNat]at ho1;rw[←Ny1.out]at ho1));have HO1:=lR ho1;replace HB:=eB hb;clear hb ho1;have hcv1:=own_string (P:=Tryd.prog) Tryd.underlying36 Tryd.underlying5 Tryd.underlying9 (Kd.own_of_R HO1.out)))
              go_roundg k1
              case measure=>have:=HK1.out;omega
              case rel=>exact⟨(wrap64 (Int.tdiv x1_1 10)),((strOfNums y1)++x2_1),rS,rS,H',⟨by have:=HK1.out;omega⟩,⟨uB⟩⟩
            · rw[if_neg c4]at H
              exact absurd H (by simp)
def spec_l01In.f (a0:Int) (a1:Int) (a2:Int):Option (Bool):=if a0 ≥ a1 then(some (decide (a0≤a2))) else(some false)
theorem spec_l01In.W1 {p:Prop} (h:p:=by
    go_enter Tryd.func63,Tryd.ntmps63
    go_wp2
    go_ret
    exact⟨by first|rfl|(simp;done)|(simp[*];done),by repeat(first|exact Drawn0.refl _|apply Drawn0.step)⟩):p:=h
set_option maxHeartbeats 40000000 in
set_option maxRecDepth 100000 in
theorem spec_l01In.calls (a0:Int) (a1:Int) (a2:Int) (r:Bool) (w:World) (h:spec_l01In.f a0 a1 a2=some r):
    Calls Tryd.prog 63 #[V I a0,V I a1,V I a2] w fun e w'=>e=.returned (O r)∧Drawn0 w w':=by
  have H:=h
  unfold spec_l01In.f at H
  clear h
  by_cases c1:a0 ≥ a1
  · rw[if_pos c1]at H
    have c1b0:decide (a1≤a0)=true:=decide_eq_true c1
    clear c1
    obtain rfl:=Option.some.inj H
    exact spec_l01In.W1
  · rw[if_neg c1]at H
    have c1b0:decide (a1≤a0)=false:=decide_eq_false c1
    clear c1
    obtain rfl:=Option.some.inj H
    exact spec_l01In.W1
def spec_JobOk.f (a0_0:Int) (a0_1:Int) (a0_2:Int) (a0_3:Bool) (a0_4:Int) (a0_5:Bool):Option (Bool):=(spec_l01In.f a0_0 1 9999).bind fun t180=>(if t180=true then((spec_l01In.f a0_1 1 64).bind fun t181=>(if t181=true then((spec_l01In.f a0_2 1 20).bind fun t182=>(if t182=true then((spec_l01In.f a0_4 0 9).bind fun t183=>(some t183)) else(some false))) else(some false))) else(some false))
theorem spec_JobOk.W1 {p:Prop} (h:p:=by
    go_enter Tryd.func61,Tryd.ntmps61
    go_wp2_with (first|((with_reducible refine gate_dst (N:=1) rfl ?_);refine Fix.be 1 #[V I a0_0,V I a0_1,V I a0_2,O a0_3,V I a0_4,O a0_5] 40 ?_;intro gb1 hg w1 BK1 hb;have GW1:D (w.heap.size≤gb1):=gE hg;have GE1:=GW1;replace HB:=eB hb;clear hb hg;obtain⟨hcz1_0,hcz1_1,hcz1_2,hcz1_3,hcz1_4,hcz1_5,hfz1_0,hfz1_1,hfz1_2,hfz1_3,hfz1_4,hfz1_5⟩:=d6 BK1.out)|((with_reducible refine F (f:=63) rfl ?_);refine gl 63 (some 5) Tryd.func63 #[V I a0_0,V I 1,V I 9999] ?_;(with_reducible refine(spec_l01In.calls a0_0 1 9999 true _ A1.out).mono ?_);rintro e w' ⟨rfl,⟨nd,rfl⟩⟩;refine⟨_,rfl,?_⟩)|(go_at_call 63;(with_reducible refine(spec_l01In.calls a0_1 1 64 true _ A2.out).mono ?_);rintro e w' ⟨rfl,⟨nd,rfl⟩⟩)|(go_at_call 63;(with_reducible refine(spec_l01In.calls a0_2 1 20 true _ A3.out).mono ?_);rintro e w' ⟨rfl,⟨nd,rfl⟩⟩)|(go_at_call 63;(with_reducible refine(spec_l01In.calls a0_4 0 9 t4 _ A4.out).mono ?_);rintro e w' ⟨rfl,⟨nd,rfl⟩⟩)|(go_at_call 63;(with_reducible refine(spec_l01In.calls a0_2 1 20 false _ A3.out).mono ?_);rintro e w' ⟨rfl,⟨nd,rfl⟩⟩)|(go_at_call 63;(with_reducible refine(spec_l01In.calls a0_1 1 64 false _ A2.out).mono ?_);rintro e w' ⟨rfl,⟨nd,rfl⟩⟩))
    go_ret
    exact⟨rE,uB⟩):p:=h
set_option maxHeartbeats 40000000 in
set_option maxRecDepth 100000 in
theorem spec_JobOk.calls (a0_0:Int) (a0_1:Int) (a0_2:Int) (a0_3:Bool) (a0_4:Int) (a0_5:Bool) (r:Bool) (w:World) (h:spec_JobOk.f a0_0 a0_1 a0_2 a0_3 a0_4 a0_5=some r):
    Calls Tryd.prog 61 #[G #[V I a0_0,V I a0_1,V I a0_2,O a0_3,V I a0_4,O a0_5]] w fun e w'=>e=.returned (O r)∧Below w.heap.size w w':=by
  have hu1:=Tryd.underlying40
  have HB:=C (Below.refl w.heap.size w)
  have H:=h
  unfold spec_JobOk.f at H
  clear h
  obtain⟨t1,A1,H⟩:=bnd H
  by_cases c1:t1=true
  · subst c1
    rw[if_pos rfl]at H
    obtain⟨t2,A2,H⟩:=bnd H
    by_cases c2:t2=true
    · subst c2
      rw[if_pos rfl]at H
      obtain⟨t3,A3,H⟩:=bnd H
      by_cases c3:t3=true
      · subst c3
        rw[if_pos rfl]at H
        obtain⟨t4,A4,H⟩:=bnd H
        obtain rfl:=Option.some.inj H
        exact spec_JobOk.W1
      · replace c3:=Bool.eq_false_iff.mpr c3
        subst c3
        rw[if_neg Bool.false_ne_true]at H
        obtain rfl:=Option.some.inj H
        exact spec_JobOk.W1
    · replace c2:=Bool.eq_false_iff.mpr c2
      subst c2
      rw[if_neg Bool.false_ne_true]at H
      obtain rfl:=Option.some.inj H
      exact spec_JobOk.W1
  · replace c1:=Bool.eq_false_iff.mpr c1
    subst c1
    rw[if_neg Bool.false_ne_true]at H
    obtain rfl:=Option.some.inj H
    go_enter Tryd.func61,Tryd.ntmps61
    go_wp2_with (first|((with_reducible refine gate_dst (N:=1) rfl ?_);refine Fix.be 1 #[V I a0_0,V I a0_1,V I a0_2,O a0_3,V I a0_4,O a0_5] 40 ?_;intro gb1 hg w1 BK1 hb;have GW1:D (w.heap.size≤gb1):=gE hg;have GE1:=GW1;replace HB:=eB hb;clear hb hg;obtain⟨hcz1_0,hcz1_1,hcz1_2,hcz1_3,hcz1_4,hcz1_5,hfz1_0,hfz1_1,hfz1_2,hfz1_3,hfz1_4,hfz1_5⟩:=d6 BK1.out)|((with_reducible refine F (f:=63) rfl ?_);refine gl 63 (some 5) Tryd.func63 #[V I a0_0,V I 1,V I 9999] ?_;(with_reducible refine(spec_l01In.calls a0_0 1 9999 false _ A1.out).mono ?_);rintro e w' ⟨rfl,⟨nd,rfl⟩⟩;refine⟨_,rfl,?_⟩))
    go_ret
    exact⟨rE,uB⟩
end Go.Proofs.YtblceimapaenlaaDoor.PFnExactFormatMachine
