/- FnScenarios: the functions that the law reaches, each as a plain Lean function, and that a call does what it says. Made by a program of this work (wip/mp.py) out of the kit's print. No condition. -/
import Derived.Test.YtblceimapaenlaaQFnScenarios0
import Derived.Test.YtblceimapaenlaaQFnScenarios1
import Derived.Test.YtblceimapaenlaaQFnScenarios2
namespace Go.Proofs.Ytblceimapaenlaa.PFnScenarios
open Go.RowKit Go.Proofs.YtblceimapaenlaaW.PrintWords Go.Proofs.YtblceimapaenlaaW.PrintLast Go.Proofs.YtblceimapaenlaaW.PrintMore
open Fix (b1 bA bK bN bnd cl14 d14 d6 dB dD dK eB eK gE gl gs hh hx nu oL ou pu px rE rS tu uB uC)
open Go.Value renaming int→V,slice→L,bool→O
open Go.IntKind renaming i64→I
open Go.Proofs.YtblceimapaenlaaW.PrintWords.Aside0 renaming mk→C
open Go.Proofs.YtblceimapaenlaaW.PrintWords renaming Aside0→D
attribute [local go_sem] max2_int min2_int max_two min_two max_three min_three max_four min_four
attribute [local go_sem] Fix.isSome_setCell
set_option linter.unusedVariables false
set_option linter.unusedSimpArgs false
attribute [local go_sem high] eqA33
def impl_MachineOk.j0:Nat→Bool→List (S33)→Int→Int→Int→Bool→Int→Bool→Int→Int→List Int→List Int→Int→Bool→Int→Option (Bool)
  |0,_,_,_,_,_,_,_,_,_,_,_,_,_,_,_=>none
  |k+1,x18,x147000,x147001,x147002,x147003,x147004,x147005,x147006,x147007,x147008,x147009,x147010,x147011,x147012,x147013=>if x18=true then(some false) else(if(x147001==0 && (x147002==0 && (x147003==0 && (!x147004 && (x147005==0 && (!x147006))))))=true then(some (x147007==0)) else((impl_JobOk.f x147001 x147002 x147003 x147004 x147005 x147006).bind fun t150=>(if t150=true then((impl_JobSheets.f k x147001 x147002 x147003 x147004 x147005 x147006).bind fun t151=>(if t151≤40 then((impl_JobSheets.f k x147001 x147002 x147003 x147004 x147005 x147006).bind fun t152=>(some (t152==x147007))) else(some false))) else(some false))))
def impl_MachineOk.f (k:Nat) (l0_0:List (S33)) (a0_1:Int) (a0_2:Int) (a0_3:Int) (a0_4:Bool) (a0_5:Int) (a0_6:Bool) (a0_7:Int) (a0_8:Int) (l0_9:List Int) (l0_10:List Int) (a0_11:Int) (a0_12:Bool) (a0_13:Int):Option (Bool):=(impl_JobsOk.f k l0_0).bind fun t147=>(if t147=true then((impl_LineOk.f k a0_7 a0_8 l0_9 l0_10 a0_11 a0_12).bind fun t148=>(if t148=true then((impl_within.f a0_13 0 100000).bind fun t149=>(impl_MachineOk.j0 k (!t149) l0_0 a0_1 a0_2 a0_3 a0_4 a0_5 a0_6 a0_7 a0_8 l0_9 l0_10 a0_11 a0_12 a0_13)) else(impl_MachineOk.j0 k true l0_0 a0_1 a0_2 a0_3 a0_4 a0_5 a0_6 a0_7 a0_8 l0_9 l0_10 a0_11 a0_12 a0_13))) else(impl_MachineOk.j0 k true l0_0 a0_1 a0_2 a0_3 a0_4 a0_5 a0_6 a0_7 a0_8 l0_9 l0_10 a0_11 a0_12 a0_13))
theorem impl_MachineOk.mono_l:∀k,(∀y0 y1 y2 y3 y4 y5 y6 y7 y8 y9 y10 y11 y12 y13 y14,LeO (impl_MachineOk.j0 k y0 y1 y2 y3 y4 y5 y6 y7 y8 y9 y10 y11 y12 y13 y14) (impl_MachineOk.j0 (k+1) y0 y1 y2 y3 y4 y5 y6 y7 y8 y9 y10 y11 y12 y13 y14))
  |0=>fun _ _ _ _ _ _ _ _ _ _ _ _ _ _ _ r h=>by simp[impl_MachineOk.j0]at h
  |k+1=>by
    have ih0:=impl_MachineOk.mono_l k
    · intro y0 y1 y2 y3 y4 y5 y6 y7 y8 y9 y10 y11 y12 y13 y14
      unfold impl_MachineOk.j0
      repeat' first|(with_reducible first|apply ih0|apply impl_JobSheets.mono|apply impl_JobsOk.mono|apply impl_LineOk.mono|exact LeO.refl _|exact LeO.none _|refine LeO.ite ?_ ?_|refine LeO.bind ?_ (fun _=> ?_))|apply ih0|exact LeO.none _|refine LeO.ite ?_ ?_|refine LeO.bind ?_ (fun _=> ?_)
theorem impl_MachineOk.mono:∀a0 a1 a2 a3 a4 a5 a6 a7 a8 a9 a10 a11 a12 a13 k,LeO (impl_MachineOk.f k a0 a1 a2 a3 a4 a5 a6 a7 a8 a9 a10 a11 a12 a13) (impl_MachineOk.f (k+1) a0 a1 a2 a3 a4 a5 a6 a7 a8 a9 a10 a11 a12 a13):=by
  intro a0 a1 a2 a3 a4 a5 a6 a7 a8 a9 a10 a11 a12 a13 k
  have ih0:=impl_MachineOk.mono_l k
  unfold impl_MachineOk.f
  repeat' first|(with_reducible first|apply ih0|apply impl_JobSheets.mono|apply impl_JobsOk.mono|apply impl_LineOk.mono|exact LeO.refl _|exact LeO.none _|refine LeO.ite ?_ ?_|refine LeO.bind ?_ (fun _=> ?_))|apply ih0|exact LeO.none _|refine LeO.ite ?_ ?_|refine LeO.bind ?_ (fun _=> ?_)
def impl_MachineOk.T5:Bool×List (List Nat×List Nat):=(true,[([],[]),([0],[0]),([1],[1]),([2,2],[2]),([3],[3]),([4,3],[3,4]),([5,3,3],[3,5]),([6,3],[3,6]),([3,7],[3,7]),([8,6],[8]),([9],[9]),([10,9],[9,10]),([11,9,9],[9,11]),([9],[9]),([13,9],[9,13]),([14,9],[9,14]),([12,15,9],[9,12,15]),([9,16],[9,16]),([17,12,0,1,2,3,4,5,6,7,8,9,10,11,12,13,14,15,16,17],[17])])
def impl_MachineOk.B5:List Nat:= [0,1,3,7,15,31,63,127,255,511,1023,2047,4095,1023,9215,25599,65535,131071,262143]
theorem impl_MachineOk.tab5:rtab .any (opsOf Try.f12 5)=impl_MachineOk.T5:=by kernel_rfl
theorem impl_MachineOk.bits5:waitsOk impl_MachineOk.T5.2 impl_MachineOk.B5=true:=by kernel_rfl
theorem impl_MachineOk.W1 {p:Prop} (h:p:=by
    go_wp2
    go_ret
    exact⟨rE,uB⟩):p:=h
set_option maxHeartbeats 40000000 in
set_option maxRecDepth 100000 in
theorem impl_MachineOk.calls (k:Nat) (A0_0:Option Addr) (c0_0:Nat) (l0_0:List (S33)) (a0_1:Int) (a0_2:Int) (a0_3:Int) (a0_4:Bool) (a0_5:Int) (a0_6:Bool) (a0_7:Int) (a0_8:Int) (A0_9:Option Addr) (c0_9:Nat) (l0_9:List Int) (A0_10:Option Addr) (c0_10:Nat) (l0_10:List Int) (a0_11:Int) (a0_12:Bool) (a0_13:Int) (r:Bool) (w:World) (hr0_0:Kd.C k33 w A0_0 l0_0.length l0_0) (hc0_0:l0_0.length≤c0_0) (hr0_9:Kd.C (Kd.int .i64) w A0_9 l0_9.length l0_9) (hc0_9:l0_9.length≤c0_9) (hr0_10:Kd.C (Kd.int .i64) w A0_10 l0_10.length l0_10) (hc0_10:l0_10.length≤c0_10) (h:impl_MachineOk.f k l0_0 a0_1 a0_2 a0_3 a0_4 a0_5 a0_6 a0_7 a0_8 l0_9 l0_10 a0_11 a0_12 a0_13=some r):
    Calls Try.prog 12 #[.agg #[L A0_0 l0_0.length c0_0,V I a0_1,V I a0_2,V I a0_3,O a0_4,V I a0_5,O a0_6,V I a0_7,V I a0_8,L A0_9 l0_9.length c0_9,L A0_10 l0_10.length c0_10,V I a0_11,O a0_12,V I a0_13]] w fun e w'=>e=.returned (O r)∧Below w.heap.size w w':=by
  have hu1:=Try.underlying36
  have hu2:=Try.underlying34
  have hu3:=Try.underlying33
  have HR1_0:=C hr0_0
  have HC1_0:=C hc0_0
  (try clear hr0_0);(try clear hc0_0)
  have HR1_9:=C hr0_9
  have HC1_9:=C hc0_9
  (try clear hr0_9);(try clear hc0_9)
  have HR1_10:=C hr0_10
  have HC1_10:=C hc0_10
  (try clear hr0_10);(try clear hc0_10)
  have HB:=C (Below.refl w.heap.size w)
  have H:=h
  unfold impl_MachineOk.f at H
  clear h
  have HC2:=C H
  clear H
  go_enter Try.func12,Try.ntmps12
  go_upto_region 1 with(first|((with_reducible refine gate_dst (N:=1) rfl ?_);refine Fix.be 1 #[L A0_0 l0_0.length c0_0,V I a0_1,V I a0_2,V I a0_3,O a0_4,V I a0_5,O a0_6,V I a0_7,V I a0_8,L A0_9 l0_9.length c0_9,L A0_10 l0_10.length c0_10,V I a0_11,O a0_12,V I a0_13] 36 ?_;intro gb1 hg w1 BK1 hb;have GW1:D (w.heap.size≤gb1):=gE hg;have GE1:=GW1;replace HB:=eB hb;clear hb hg))
  (try simp only[Act.put,List.setIfInBounds_toArray,List.set_cons_zero,List.set_cons_succ])
  go_cut [18] (fun v18 wc=>∃(kq:Nat) (x1_1:Bool),v18=O x1_1∧D (impl_MachineOk.j0 kq x1_1 l0_0 a0_1 a0_2 a0_3 a0_4 a0_5 a0_6 a0_7 a0_8 l0_9 l0_10 a0_11 a0_12 a0_13=some r)∧D (kq≤k)∧D (wc.heap[gb1]? =some (.cells #[(L A0_0 l0_0.length c0_0),V I a0_1,V I a0_2,V I a0_3,O a0_4,V I a0_5,O a0_6,V I a0_7,V I a0_8,(L A0_9 l0_9.length c0_9),(L A0_10 l0_10.length c0_10),V I a0_11,O a0_12,V I a0_13] 36 (0,0)))∧D (Below w.heap.size w wc))
  case first=>
    have H:=HC2.out
    clear HC2
    obtain⟨t1,A1,H⟩:=bnd H
    by_cases c1:t1=true
    · subst c1
      rw[if_pos rfl]at H
      obtain⟨t2,A2,H⟩:=bnd H
      by_cases c2:t2=true
      · subst c2
        rw[if_pos rfl]at H
        obtain⟨t3,A3,H⟩:=bnd H
        have H':=C H
        clear H
        obtain⟨hcz1_0,hcz1_1,hcz1_2,hcz1_3,hcz1_4,hcz1_5,hcz1_6,hcz1_7,hcz1_8,hcz1_9,hcz1_10,hcz1_11,hcz1_12,hcz1_13,hfz1_0,hfz1_1,hfz1_2,hfz1_3,hfz1_4,hfz1_5,hfz1_6,hfz1_7,hfz1_8,hfz1_9,hfz1_10,hfz1_11,hfz1_12,hfz1_13⟩:=d14 BK1.out
        go_wp2_with (first|((with_reducible refine gate_callee (f:=44) rfl ?_);refine gl 44 (some 5) Try.func44 #[L A0_0 l0_0.length c0_0] ?_;(with_reducible refine(impl_JobsOk.calls k _ _ l0_0 true _ ?side1 ?side2 A1.out).mono ?_);(case side1=>exact uC (Kd.C_below HR1_0.out HB.out));(case side2=>exact HC1_0.out);rintro e w2 ⟨rfl,hb⟩;refine⟨_,rfl,?_⟩;replace BK1:=eK BK1 hb;replace HB:=eB hb;clear hb;have h_:=d14 BK1.out;repeat(obtain⟨_,h_⟩:=h_))|(go_at_call 45;(with_reducible refine(impl_LineOk.calls k a0_7 a0_8 (fun k_=>k_<w.heap.size) _ _ l0_9 (fun k_=>k_<w.heap.size) _ _ l0_10 a0_11 a0_12 true _ ?side1 ?side2 A2.out).mono ?_);(case side1=>exact Kd.V_mk HC1_9.out (Kd.F_below (Kd.C_F (Kd.heap_int .i64) HR1_9.out) uB));(case side2=>exact Kd.V_mk HC1_10.out (Kd.F_below (Kd.C_F (Kd.heap_int .i64) HR1_10.out) uB));rintro e w3 ⟨rfl,hb⟩;replace BK1:=eK BK1 hb;replace HB:=eB hb;clear hb;obtain⟨hcz2_0,hcz2_1,hcz2_2,hcz2_3,hcz2_4,hcz2_5,hcz2_6,hcz2_7,hcz2_8,hcz2_9,hcz2_10,hcz2_11,hcz2_12,hcz2_13,hfz2_0,hfz2_1,hfz2_2,hfz2_3,hfz2_4,hfz2_5,hfz2_6,hfz2_7,hfz2_8,hfz2_9,hfz2_10,hfz2_11,hfz2_12,hfz2_13⟩:=d14 BK1.out)|(go_at_call 46;(with_reducible refine(impl_within.calls a0_13 0 100000 t3 _ A3.out).mono ?_);rintro e w' ⟨rfl,⟨nd,rfl⟩⟩))
        go_meet
        case rel=>exact⟨_,(!t3),rS,H',⟨oL⟩,⟨bK BK1.out⟩,⟨uB⟩⟩
      · replace c2:=Bool.eq_false_iff.mpr c2
        subst c2
        rw[if_neg Bool.false_ne_true]at H
        have H':=C H
        clear H
        obtain⟨hcz1_0,hcz1_1,hcz1_2,hcz1_3,hcz1_4,hcz1_5,hcz1_6,hcz1_7,hcz1_8,hcz1_9,hcz1_10,hcz1_11,hcz1_12,hcz1_13,hfz1_0,hfz1_1,hfz1_2,hfz1_3,hfz1_4,hfz1_5,hfz1_6,hfz1_7,hfz1_8,hfz1_9,hfz1_10,hfz1_11,hfz1_12,hfz1_13⟩:=d14 BK1.out
        go_wp2_with (first|((with_reducible refine gate_callee (f:=44) rfl ?_);refine gl 44 (some 5) Try.func44 #[L A0_0 l0_0.length c0_0] ?_;(with_reducible refine(impl_JobsOk.calls k _ _ l0_0 true _ ?side1 ?side2 A1.out).mono ?_);(case side1=>exact uC (Kd.C_below HR1_0.out HB.out));(case side2=>exact HC1_0.out);rintro e w2 ⟨rfl,hb⟩;refine⟨_,rfl,?_⟩;replace BK1:=eK BK1 hb;replace HB:=eB hb;clear hb;obtain⟨hcz2_0,hcz2_1,hcz2_2,hcz2_3,hcz2_4,hcz2_5,hcz2_6,hcz2_7,hcz2_8,hcz2_9,hcz2_10,hcz2_11,hcz2_12,hcz2_13,hfz2_0,hfz2_1,hfz2_2,hfz2_3,hfz2_4,hfz2_5,hfz2_6,hfz2_7,hfz2_8,hfz2_9,hfz2_10,hfz2_11,hfz2_12,hfz2_13⟩:=d14 BK1.out)|(go_at_call 45;(with_reducible refine(impl_LineOk.calls k a0_7 a0_8 (fun k_=>k_<w.heap.size) _ _ l0_9 (fun k_=>k_<w.heap.size) _ _ l0_10 a0_11 a0_12 false _ ?side1 ?side2 A2.out).mono ?_);(case side1=>exact Kd.V_mk HC1_9.out (Kd.F_below (Kd.C_F (Kd.heap_int .i64) HR1_9.out) uB));(case side2=>exact Kd.V_mk HC1_10.out (Kd.F_below (Kd.C_F (Kd.heap_int .i64) HR1_10.out) uB));rintro e w3 ⟨rfl,hb⟩;replace BK1:=eK BK1 hb;replace HB:=eB hb;clear hb))
        go_meet
        case rel=>exact⟨_,(true),rS,H',⟨oL⟩,⟨bK BK1.out⟩,⟨uB⟩⟩
    · replace c1:=Bool.eq_false_iff.mpr c1
      subst c1
      rw[if_neg Bool.false_ne_true]at H
      have H':=C H
      clear H
      have h_:=d14 BK1.out;repeat(obtain⟨_,h_⟩:=h_)
      go_wp2_with (first|((with_reducible refine gate_callee (f:=44) rfl ?_);refine gl 44 (some 5) Try.func44 #[L A0_0 l0_0.length c0_0] ?_;(with_reducible refine(impl_JobsOk.calls k _ _ l0_0 false _ ?side1 ?side2 A1.out).mono ?_);(case side1=>exact uC (Kd.C_below HR1_0.out HB.out));(case side2=>exact HC1_0.out);rintro e w2 ⟨rfl,hb⟩;refine⟨_,rfl,?_⟩;replace BK1:=eK BK1 hb;replace HB:=eB hb;clear hb))
      go_meet
      case rel=>exact⟨_,(true),rS,H',⟨oL⟩,⟨bK BK1.out⟩,⟨uB⟩⟩
  case rest=>
    clear HC2
    obtain⟨kq,x1_1,rfl,HA,HJ1,BK1,HB⟩:=hcut
    cases kq with
    |zero=>exact absurd HA.out (by simp[impl_MachineOk.j0])
    |succ kj1=>
      have H:=HA.out
      clear HA
      simp only[impl_MachineOk.j0]at H
      by_cases c1:x1_1=true
      · subst c1
        rw[if_pos rfl]at H
        obtain rfl:=Option.some.inj H
        exact impl_MachineOk.W1
      · replace c1:=Bool.eq_false_iff.mpr c1
        subst c1
        rw[if_neg Bool.false_ne_true]at H
        by_cases c2:(a0_1==0 && (a0_2==0 && (a0_3==0 && (!a0_4 && (a0_5==0 && (!a0_6))))))=true
        · rw[if_pos c2]at H
          have c2b0:(a0_1==0 && (a0_2==0 && (a0_3==0 && (!a0_4 && (a0_5==0 && (!a0_6))))))=true:=c2
          (try(have c2b1:decide (a0_1=0 && (a0_2==0 && (a0_3==0 && (!a0_4 && (a0_5==0 && (!a0_6))))))=true:=by simpa using c2))
          (try(have c2b2:(a0_1==0 && (a0_2==0 && (a0_3==0 && (!a0_4 && (a0_5==0 && (!a0_6))))))=true:=by simpa using c2))
          clear c2
          obtain rfl:=Option.some.inj H
          obtain⟨hcz1_0,hcz1_1,hcz1_2,hcz1_3,hcz1_4,hcz1_5,hcz1_6,hcz1_7,hcz1_8,hcz1_9,hcz1_10,hcz1_11,hcz1_12,hcz1_13,hfz1_0,hfz1_1,hfz1_2,hfz1_3,hfz1_4,hfz1_5,hfz1_6,hfz1_7,hfz1_8,hfz1_9,hfz1_10,hfz1_11,hfz1_12,hfz1_13⟩:=d14 BK1.out
          exact impl_MachineOk.W1
        · rw[if_neg c2]at H
          have c2b0:(a0_1==0 && (a0_2==0 && (a0_3==0 && (!a0_4 && (a0_5==0 && (!a0_6))))))=false:=by simpa using c2
          (try(have c2b1:decide (a0_1=0 && (a0_2==0 && (a0_3==0 && (!a0_4 && (a0_5==0 && (!a0_6))))))=false:=by simpa using c2))
          (try(have c2b2:(a0_1==0 && (a0_2==0 && (a0_3==0 && (!a0_4 && (a0_5==0 && (!a0_6))))))=false:=by simpa using c2))
          (try(have c2b3:¬(a0_1=0 && (a0_2==0 && (a0_3==0 && (!a0_4 && (a0_5==0 && (!a0_6)))))):=by simpa using c2))
          clear c2
          obtain⟨t1,A1,H⟩:=bnd H
          by_cases c3:t1=true
          · subst c3
            rw[if_pos rfl]at H
            obtain⟨t2,A2,H⟩:=bnd H
            by_cases c4:t2≤40
            · rw[if_pos c4]at H
              have c4b0:decide (t2≤40)=true:=decide_eq_true c4
              clear c4
              obtain⟨t3,A3,H⟩:=bnd H
              obtain rfl:=Option.some.inj H
              obtain⟨hcz1_0,hcz1_1,hcz1_2,hcz1_3,hcz1_4,hcz1_5,hcz1_6,hcz1_7,hcz1_8,hcz1_9,hcz1_10,hcz1_11,hcz1_12,hcz1_13,hfz1_0,hfz1_1,hfz1_2,hfz1_3,hfz1_4,hfz1_5,hfz1_6,hfz1_7,hfz1_8,hfz1_9,hfz1_10,hfz1_11,hfz1_12,hfz1_13⟩:=d14 BK1.out
              try go_wp2
              replace BK1:=dK BK1
              replace HB:=dB HB
              refine start_ (n:=19) (S:=fun w'=>cl14 w' gb1 (L A0_0 l0_0.length c0_0) (V I a0_1) (V I a0_2) (V I a0_3) (O a0_4) (V I a0_5) (O a0_6) (V I a0_7) (V I a0_8) (L A0_9 l0_9.length c0_9) (L A0_10 l0_10.length c0_10) (V I a0_11) (O a0_12) (V I a0_13)) (ds:= []) #[false,false,false,false,false,false,false,false,false,false,false,false,false,false,false,false,false,false,false] (by kernel_rfl) rfl rfl hh (fun hHeld=> ?_);refine with_tabW impl_MachineOk.tab5 impl_MachineOk.bits5 (fun HT_ HW_=> ?_)
              generalize wc.drew=w2 at BK1 HB hHeld ⊢
              refine pu 0 (some 27) ?_
              refine tu 1 (some 28) hHeld ?_
              refine ou 2 (some 29) (fun K hK=> ?_)
              refine gs Try.func47 #[.agg #[V I a0_1,V I a0_2,V I a0_3,O a0_4,V I a0_5,O a0_6]] ?_
              with_reducible refine(impl_JobOk.calls a0_1 a0_2 a0_3 a0_4 a0_5 a0_6 true _ A1.out).mono ?_
              rintro e w3 ⟨rfl,hb⟩
              refine⟨_,rfl,?_⟩
              replace BK1:=eK BK1 hb
              replace HB:=eB hb
              (try clear hb)
              refine hK.out _ _ hh (fun hHeld=> ?_)
              clear hK K
              refine nu (N:=(some 29)) ?_
              refine pu 3 (some 30) ?_
              refine pu 4 (some 31) ?_
              refine tu 5 (some 32) hHeld ?_
              refine ou 6 (some 33) (fun K hK=> ?_)
              refine gs Try.func48 #[.agg #[V I a0_1,V I a0_2,V I a0_3,O a0_4,V I a0_5,O a0_6]] ?_
              with_reducible refine(impl_JobSheets.calls kj1 a0_1 a0_2 a0_3 a0_4 a0_5 a0_6 t2 _ A2.out).mono ?_
              rintro e w4 ⟨rfl,hb⟩
              refine⟨_,rfl,?_⟩
              replace BK1:=eK BK1 hb
              replace HB:=eB hb
              (try clear hb)
              refine hK.out _ _ hh (fun hHeld=> ?_)
              clear hK K
              refine nu (N:=(some 33)) ?_
              refine pu 7 (some 34) ?_
              refine pu 8 (some 35) ?_
              refine pu 9 (some 36) ?_
              refine pu 10 (some 37) ?_
              refine pu 13 (some 40) ?_
              refine pu 14 (some 41) ?_
              refine tu 11 (some 38) hHeld ?_
              refine tu 15 (some 42) hHeld ?_
              refine ou 12 (some 39) (fun K hK=> ?_)
              refine gs Try.func48 #[.agg #[V I a0_1,V I a0_2,V I a0_3,O a0_4,V I a0_5,O a0_6]] ?_
              with_reducible refine(impl_JobSheets.calls kj1 a0_1 a0_2 a0_3 a0_4 a0_5 a0_6 t3 _ A3.out).mono ?_
              rintro e w5 ⟨rfl,hb⟩
              refine⟨_,rfl,?_⟩
              replace BK1:=eK BK1 hb
              replace HB:=eB hb
              (try clear hb)
              refine hK.out _ _ hh (fun hHeld=> ?_)
              clear hK K
              refine nu (N:=(some 39)) ?_
              refine pu 16 (some 43) ?_
              refine pu 17 (some 44) ?_
              refine pu 18 (some 2) ?_
              refine done_ (done_of HT_.out (by kernel_rfl)) ?_
              try go_wp2
              go_ret
              exact⟨rE,uB⟩
            · rw[if_neg c4]at H
              have c4b0:decide (t2≤40)=false:=decide_eq_false c4
              clear c4
              obtain rfl:=Option.some.inj H
              have h_:=d14 BK1.out;repeat(obtain⟨_,h_⟩:=h_)
              try go_wp2
              replace BK1:=dK BK1
              replace HB:=dB HB
              refine start_ (n:=19) (S:=fun w'=>cl14 w' gb1 (L A0_0 l0_0.length c0_0) (V I a0_1) (V I a0_2) (V I a0_3) (O a0_4) (V I a0_5) (O a0_6) (V I a0_7) (V I a0_8) (L A0_9 l0_9.length c0_9) (L A0_10 l0_10.length c0_10) (V I a0_11) (O a0_12) (V I a0_13)) (ds:= []) #[false,false,false,false,false,false,false,false,false,false,false,false,false,false,false,false,false,false,false] (by kernel_rfl) rfl rfl hh (fun hHeld=> ?_);refine with_tabW impl_MachineOk.tab5 impl_MachineOk.bits5 (fun HT_ HW_=> ?_)
              generalize wc.drew=w2 at BK1 HB hHeld ⊢
              refine pu 0 (some 27) ?_
              refine tu 1 (some 28) hHeld ?_
              refine ou 2 (some 29) (fun K hK=> ?_)
              refine gs Try.func47 #[.agg #[V I a0_1,V I a0_2,V I a0_3,O a0_4,V I a0_5,O a0_6]] ?_
              with_reducible refine(impl_JobOk.calls a0_1 a0_2 a0_3 a0_4 a0_5 a0_6 true _ A1.out).mono ?_
              rintro e w3 ⟨rfl,hb⟩
              refine⟨_,rfl,?_⟩
              replace BK1:=eK BK1 hb
              replace HB:=eB hb
              (try clear hb)
              refine hK.out _ _ hh (fun hHeld=> ?_)
              clear hK K
              refine nu (N:=(some 29)) ?_
              refine pu 3 (some 30) ?_
              refine pu 4 (some 31) ?_
              refine tu 5 (some 32) hHeld ?_
              refine ou 6 (some 33) (fun K hK=> ?_)
              refine gs Try.func48 #[.agg #[V I a0_1,V I a0_2,V I a0_3,O a0_4,V I a0_5,O a0_6]] ?_
              with_reducible refine(impl_JobSheets.calls kj1 a0_1 a0_2 a0_3 a0_4 a0_5 a0_6 t2 _ A2.out).mono ?_
              rintro e w4 ⟨rfl,hb⟩
              refine⟨_,rfl,?_⟩
              replace BK1:=eK BK1 hb
              replace HB:=eB hb
              (try clear hb)
              refine hK.out _ _ hh (fun hHeld=> ?_)
              clear hK K
              refine nu (N:=(some 33)) ?_
              refine pu 7 (some 34) ?_
              refine pu 8 (some 35) ?_
              refine pu 9 (some 36) ?_
              refine px 10 (some 37) ?_
              refine px 11 (some 38) ?_
              refine px 12 (some 39) ?_
              refine px 13 (some 40) ?_
              refine px 14 (some 41) ?_
              refine px 15 (some 42) ?_
              refine px 16 (some 43) ?_
              refine pu 17 (some 44) ?_
              refine pu 18 (some 2) ?_
              refine done_ (done_of HT_.out (by kernel_rfl)) ?_
              try go_wp2
              go_ret
              exact⟨rE,uB⟩
          · replace c3:=Bool.eq_false_iff.mpr c3
            subst c3
            rw[if_neg Bool.false_ne_true]at H
            obtain rfl:=Option.some.inj H
            have h_:=d14 BK1.out;repeat(obtain⟨_,h_⟩:=h_)
            try go_wp2
            replace BK1:=dK BK1
            replace HB:=dB HB
            refine start_ (n:=19) (S:=fun w'=>cl14 w' gb1 (L A0_0 l0_0.length c0_0) (V I a0_1) (V I a0_2) (V I a0_3) (O a0_4) (V I a0_5) (O a0_6) (V I a0_7) (V I a0_8) (L A0_9 l0_9.length c0_9) (L A0_10 l0_10.length c0_10) (V I a0_11) (O a0_12) (V I a0_13)) (ds:= []) #[false,false,false,false,false,false,false,false,false,false,false,false,false,false,false,false,false,false,false] (by kernel_rfl) rfl rfl hh (fun hHeld=> ?_);refine with_tabW impl_MachineOk.tab5 impl_MachineOk.bits5 (fun HT_ HW_=> ?_)
            generalize wc.drew=w2 at BK1 HB hHeld ⊢
            refine pu 0 (some 27) ?_
            refine tu 1 (some 28) hHeld ?_
            refine ou 2 (some 29) (fun K hK=> ?_)
            refine gs Try.func47 #[.agg #[V I a0_1,V I a0_2,V I a0_3,O a0_4,V I a0_5,O a0_6]] ?_
            with_reducible refine(impl_JobOk.calls a0_1 a0_2 a0_3 a0_4 a0_5 a0_6 false _ A1.out).mono ?_
            rintro e w3 ⟨rfl,hb⟩
            refine⟨_,rfl,?_⟩
            replace BK1:=eK BK1 hb
            replace HB:=eB hb
            (try clear hb)
            refine hK.out _ _ hh (fun hHeld=> ?_)
            clear hK K
            refine nu (N:=(some 29)) ?_
            refine pu 3 (some 30) ?_
            refine px 4 (some 31) ?_
            refine px 5 (some 32) ?_
            refine px 6 (some 33) ?_
            refine px 7 (some 34) ?_
            refine pu 8 (some 35) ?_
            refine pu 9 (some 36) ?_
            refine px 10 (some 37) ?_
            refine px 11 (some 38) ?_
            refine px 12 (some 39) ?_
            refine px 13 (some 40) ?_
            refine px 14 (some 41) ?_
            refine px 15 (some 42) ?_
            refine px 16 (some 43) ?_
            refine pu 17 (some 44) ?_
            refine pu 18 (some 2) ?_
            refine done_ (done_of HT_.out (by kernel_rfl)) ?_
            try go_wp2
            go_ret
            exact⟨rE,uB⟩
def laws_big.f (l0:List Int):Option (Bool):=some (decide ((l0.length:Int) >1048576))
set_option maxHeartbeats 40000000 in
set_option maxRecDepth 100000 in
theorem laws_big.calls (A0:Option Addr) (c0:Nat) (l0:List Int) (r:Bool) (w:World) (hr0:Kd.C (Kd.int .u8) w A0 l0.length l0) (hc0:l0.length≤c0) (h:laws_big.f l0=some r):
    Calls Try.prog 14 #[L A0 l0.length c0] w fun e w'=>e=.returned (O r)∧Drawn0 w w':=by
  have HR1:=C hr0
  have HC1:=C hc0
  (try clear hr0);(try clear hc0)
  have H:=h
  unfold laws_big.f at H
  clear h
  obtain rfl:=Option.some.inj H
  go_enter Try.func14,Try.ntmps14
  go_wp2
  go_ret
  exact⟨by first|rfl|(simp;done)|(simp[*];done),by repeat(first|exact Drawn0.refl _|apply Drawn0.step)⟩
def IsS105 (w0 W:World) (g:Nat) (f0:List Int) (f1:Int) (f2:Int):Prop:=∃A0 c0,W.heap[g]? =some (.cells #[L A0 f0.length c0,V I f1,V I f2] 105 (0,0))∧w0.heap.size≤g∧Kd.C (Kd.int .u8) w0 A0 f0.length f0
theorem IsS105.grown {w0 W:World} {g:Nat} {f0:List Int} {f1:Int} {f2:Int} {W1:World} {row:Option Nat} (h:IsS105 w0 W g f0 f1 f2) (hw:W.grownBy W1 row) (hne:some g≠row):IsS105 w0 W1 g f0 f1 f2:=by
  obtain⟨A0,c0,hb,hg,hr0⟩:=h
  exact⟨A0,c0,blk_grown hb hw hne,hg,hr0⟩
theorem IsS105.own_neN {w0 W:World} {g:Nat} {f0:List Int} {f1:Int} {f2:Int} {α:Type} {d:Kd α} {e:Nat} {base:Nat} {ok:Nat→Prop} {v:Value} {xs:List α} (h:IsS105 w0 W g f0 f1 f2) (ho:Kd.N d e W base ok v xs) (ht:e≠105):some g≠v.ownBlock:=by
  obtain⟨A0,c0,hb,hg,hr0⟩:=h
  exact Kd.N_ne ho hb ht
theorem IsS105.fresh {w0 W:World} {g:Nat} {f0:List Int} {f1:Int} {f2:Int} (h:IsS105 w0 W g f0 f1 f2):∀k,W.heap.size≤k→k≠g:=by
  obtain⟨A0,c0,hb,hg,hr0⟩:=h
  exact Kd.freshB hb
theorem IsS105.kept {w0 W:World} {g:Nat} {f0:List Int} {f1:Int} {f2:Int} {W1:World} {S:Nat→Prop} (h:IsS105 w0 W g f0 f1 f2) (hk:Kept W W1 S) (hne:¬S g):IsS105 w0 W1 g f0 f1 f2:=by
  obtain⟨A0,c0,hb,hg,hr0⟩:=h
  exact⟨A0,c0,blk_kept hb hk hne,hg,hr0⟩
theorem IsS105.below {w0 W:World} {g:Nat} {f0:List Int} {f1:Int} {f2:Int} {W1:World} (h:IsS105 w0 W g f0 f1 f2) (hw:Below W.heap.size W W1):IsS105 w0 W1 g f0 f1 f2:=h.grown (grown_of_below hw none) (by simp)
theorem IsS105.alloc {w0 W:World} {g:Nat} {f0:List Int} {f1:Int} {f2:Int} (h:IsS105 w0 W g f0 f1 f2) (o:Obj):IsS105 w0 (W.alloc o) g f0 f1 f2:=h.below (below_alloc (Below.refl _ _) o)
theorem IsS105.drewN {w0 W:World} {g:Nat} {f0:List Int} {f1:Int} {f2:Int} (h:IsS105 w0 W g f0 f1 f2) (m:Nat):IsS105 w0 (W.drewN m) g f0 f1 f2:=h
theorem IsS105.drew {w0 W:World} {g:Nat} {f0:List Int} {f1:Int} {f2:Int} (h:IsS105 w0 W g f0 f1 f2):IsS105 w0 W.drew g f0 f1 f2:=h
theorem IsS105.at_ {w0 W:World} {g:Nat} {f0:List Int} {f1:Int} {f2:Int} {w':World} {m:Nat} (hq:W.drewN m=w') (h:IsS105 w0 W g f0 f1 f2):IsS105 w0 w' g f0 f1 f2:=by subst hq;exact IsS105.drewN h m
theorem IsS105.apart {w0 W:World} {g:Nat} {f0:List Int} {f1:Int} {f2:Int} {α:Type} {d:Kd α} {e:Nat} {base:Nat} {ok:Nat→Prop} {v:Value} {xs:List α} (h:IsS105 w0 W g f0 f1 f2) (ho:d.R e W base ok v xs) (ht:∀q,q ∈ e::d.E→q≠105):d.R e W base (fun k=>ok k∧k≠g) v xs:=by
  obtain⟨A0,c0,hb,hg,hr0⟩:=h
  exact Kd.R_types ho hb ht
theorem IsS105.own_ne {w0 W:World} {g:Nat} {f0:List Int} {f1:Int} {f2:Int} {α:Type} {d:Kd α} {e:Nat} {base:Nat} {ok:Nat→Prop} {v:Value} {xs:List α} (h:IsS105 w0 W g f0 f1 f2) (ho:d.R e W base ok v xs) (ht:e≠105):some g≠v.ownBlock:=by
  obtain⟨A0,c0,hb,hg,hr0⟩:=h
  exact Kd.R_ne ho hb ht
theorem IsS105.apartQ {w0 W:World} {g:Nat} {f0:List Int} {f1:Int} {f2:Int} {α:Type} {d:Kd α} {e:Nat} {base:Nat} {ok:Nat→Prop} {v:Value} {xs:List α} (h:IsS105 w0 W g f0 f1 f2) (ho:d.Q e W base ok v xs) (ht:∀q,q ∈ e::d.E→q≠105):d.Q e W base (fun k=>ok k∧k≠g) v xs:=by
  obtain⟨A0,c0,hb,hg,hr0⟩:=h
  exact Kd.Q_types ho hb ht
theorem IsS105.own_neQ {w0 W:World} {g:Nat} {f0:List Int} {f1:Int} {f2:Int} {α:Type} {d:Kd α} {e:Nat} {base:Nat} {ok:Nat→Prop} {v:Value} {xs:List α} (h:IsS105 w0 W g f0 f1 f2) (ho:d.Q e W base ok v xs) (ht:e≠105):some g≠v.ownBlock:=by
  obtain⟨A0,c0,hb,hg,hr0⟩:=h
  exact Kd.Q_ne ho hb ht
theorem IsS105.apartS {w0 W:World} {g:Nat} {f0:List Int} {f1:Int} {f2:Int} {α:Type} {d:Kd α} {e:Nat} {base:Nat} {ok:Nat→Prop} {v:Value} {xs:List α} (h:IsS105 w0 W g f0 f1 f2) (ho:d.S e W base ok v xs) (ht:∀q,q ∈ e::d.E→q≠105):d.S e W base (fun k=>ok k∧k≠g) v xs:=by
  obtain⟨A0,c0,hb,hg,hr0⟩:=h
  exact Kd.S_types ho hb ht
theorem IsS105.own_neS {w0 W:World} {g:Nat} {f0:List Int} {f1:Int} {f2:Int} {α:Type} {d:Kd α} {e:Nat} {base:Nat} {ok:Nat→Prop} {v:Value} {xs:List α} (h:IsS105 w0 W g f0 f1 f2) (ho:d.S e W base ok v xs) (ht:e≠105):some g≠v.ownBlock:=by
  obtain⟨A0,c0,hb,hg,hr0⟩:=h
  exact Kd.S_ne ho hb ht
theorem IsS105.lt {w0 W:World} {g:Nat} {f0:List Int} {f1:Int} {f2:Int} (h:IsS105 w0 W g f0 f1 f2):g<W.heap.size:=by
  obtain⟨A0,c0,hb,hg,hr0⟩:=h
  exact blk_lt hb
theorem IsS105.ge {w0 W:World} {g:Nat} {f0:List Int} {f1:Int} {f2:Int} (h:IsS105 w0 W g f0 f1 f2):w0.heap.size≤g:=by
  obtain⟨A0,c0,hb,hg,hr0⟩:=h
  exact hg
theorem IsS105.ne_blk {w0 W:World} {g:Nat} {f0:List Int} {f1:Int} {f2:Int} {a:Nat} {cs:Array Value} {t:TypeId} {fr:Nat×Nat} (h:IsS105 w0 W g f0 f1 f2) (hb2:W.heap[a]? =some (.cells cs t fr)) (ht:t≠105):g≠a:=by
  obtain⟨A0,c0,hb,hg,hr0⟩:=h
  rintro rfl
  rw[hb]at hb2
  injection hb2 with hb2
  injection hb2 with _ ht2
  exact ht ht2.symm
theorem IsS105.far {w0 W:World} {g:Nat} {f0:List Int} {f1:Int} {f2:Int} {p:Addr} (h:IsS105 w0 W g f0 f1 f2) (hne:g≠p.block) (u:Value):IsS105 w0 (W.setCell p u) g f0 f1 f2:=by
  obtain⟨A0,c0,hb,hg,hr0⟩:=h
  exact⟨A0,c0,blk_far hb hne u,hg,hr0⟩
theorem cellS105_0 {W:World} {g:Nat} {A0:Option Addr} {c0:Nat} {f0:List Int} {f1:Int} {f2:Int} (h:W.heap[g]? =some (.cells #[L A0 f0.length c0,V I f1,V I f2] 105 (0,0))):W.cell? ⟨g,0,none⟩=some (L A0 f0.length c0):=(blk_cell h 0).trans rfl
theorem cellS105_1 {W:World} {g:Nat} {A0:Option Addr} {c0:Nat} {f0:List Int} {f1:Int} {f2:Int} (h:W.heap[g]? =some (.cells #[L A0 f0.length c0,V I f1,V I f2] 105 (0,0))):W.cell? ⟨g,1,none⟩=some (V I f1):=(blk_cell h 1).trans rfl
theorem IsS105.set_1 {w0 W:World} {g:Nat} {f0:List Int} {f1:Int} {f2:Int} (h:IsS105 w0 W g f0 f1 f2) (x:Int):IsS105 w0 (W.setCell ⟨g,1,none⟩ (V I x)) g f0 x f2:=by
  obtain⟨A0,c0,hb,hg,hr0⟩:=h
  exact⟨A0,c0,by simpa using blk_set hb 1 (V I x),hg,hr0⟩
theorem cellS105_2 {W:World} {g:Nat} {A0:Option Addr} {c0:Nat} {f0:List Int} {f1:Int} {f2:Int} (h:W.heap[g]? =some (.cells #[L A0 f0.length c0,V I f1,V I f2] 105 (0,0))):W.cell? ⟨g,2,none⟩=some (V I f2):=(blk_cell h 2).trans rfl
theorem IsS105.set_2 {w0 W:World} {g:Nat} {f0:List Int} {f1:Int} {f2:Int} (h:IsS105 w0 W g f0 f1 f2) (x:Int):IsS105 w0 (W.setCell ⟨g,2,none⟩ (V I x)) g f0 f1 x:=by
  obtain⟨A0,c0,hb,hg,hr0⟩:=h
  exact⟨A0,c0,by simpa using blk_set hb 2 (V I x),hg,hr0⟩
theorem IsS105.new (w0 W:World) (A0:Option Addr) (c0:Nat) (f0:List Int) (f1:Int) (f2:Int) (hB:Below w0.heap.size w0 W) (hr0:Kd.C (Kd.int .u8) w0 A0 f0.length f0):IsS105 w0 (W.alloc (.cells #[L A0 f0.length c0,V I f1,V I f2] 105)) W.heap.size f0 f1 f2:=⟨A0,c0,by simpa using heap_alloc_new W _,hB.size,hr0⟩
def spec_l01New.l0:Nat→List Int→Int→Int→Option (List Int×Int×Int)
  |0,_,_,_=>none
  |k+1,x0,x3,x4=>if x4<(x0.length:Int) then(if x4<4000 then(if 0≤x4 then(spec_l01New.l0 k x0 (Go.bits .and .i64 (wrap64 ((wrap64 ((wrap64 (x3 * 131))+(wrap64 (rd x0 x4))))+7)) 1073741823) (wrap64 (x4+1))) else(none)) else(some (x0,0,x3))) else(some (x0,0,x3))
def spec_l01New.f (k:Nat) (l0:List Int):Option (List Int×Int×Int):=spec_l01New.l0 k l0 (wrap64 (98729+(l0.length:Int))) 0
theorem spec_l01New.mono_l:∀k,(∀y0 y1 y2,LeO (spec_l01New.l0 k y0 y1 y2) (spec_l01New.l0 (k+1) y0 y1 y2))
  |0=>fun _ _ _ r h=>by simp[spec_l01New.l0]at h
  |k+1=>by
    have ih0:=spec_l01New.mono_l k
    · intro y0 y1 y2
      unfold spec_l01New.l0
      repeat' first|(with_reducible first|apply ih0|exact LeO.refl _|exact LeO.none _|refine LeO.ite ?_ ?_|refine LeO.bind ?_ (fun _=> ?_))|apply ih0|exact LeO.none _|refine LeO.ite ?_ ?_|refine LeO.bind ?_ (fun _=> ?_)
theorem spec_l01New.mono:∀a0 k,LeO (spec_l01New.f k a0) (spec_l01New.f (k+1) a0):=by
  intro a0 k
  have ih0:=spec_l01New.mono_l k
  unfold spec_l01New.f
  repeat' first|(with_reducible first|apply ih0|exact LeO.refl _|exact LeO.none _|refine LeO.ite ?_ ?_|refine LeO.bind ?_ (fun _=> ?_))|apply ih0|exact LeO.none _|refine LeO.ite ?_ ?_|refine LeO.bind ?_ (fun _=> ?_)
theorem spec_l01New.W1 {p:Prop} (h:p:=by
    go_wp2_with (first|((with_reducible refine gate_dst (N:=31) rfl ?_);refine Fix.be 31 #[L A0 l0.length c0,V I 0,V I x1_1] 105 ?_;intro gb1 hg w1 BK1 hb;have GW1:=C ((by rw[hg];exact(below_size (by repeat(first|(with_reducible first|exact HBW.out|apply bA|apply bN|apply b1)|exact HBW.out))):w.heap.size≤gb1));have GE1:=C ((Nat.le_trans HW1.out (by rw[hg];exact(below_size (by repeat(first|(with_reducible first|exact HBW.out|apply bA|apply bN|apply b1)|exact HBW.out))):w.heap.size≤gb1):w0.heap.size≤gb1));replace HBW:=C (below_step HBW.out hb);replace HB:=eB hb;clear hb hg))
    go_ret
    exact⟨_,rfl,(show IsS105 w0 _ gb1 l0 0 x1_1 from⟨_,_,by exact bK BK1.out,GE1.out,HR1.out⟩),uB,by repeat(first|(with_reducible first|exact HBW.out|apply bA|apply bN|apply b1|refine below_set ?_ GW1.out)|exact HBW.out)⟩):p:=h
set_option maxHeartbeats 40000000 in
set_option maxRecDepth 100000 in
theorem spec_l01New.calls (k:Nat) (A0:Option Addr) (c0:Nat) (l0:List Int) (r1:List Int) (r2:Int) (r3:Int) (w0 w:World) (hB:Below w0.heap.size w0 w) (hr0:Kd.C (Kd.int .u8) w0 A0 l0.length l0) (hc0:l0.length≤c0) (h:spec_l01New.f k l0=some (r1,r2,r3)):
    Calls Try.prog 52 #[L A0 l0.length c0] w fun e w'=>∃g_:Nat,e=.returned (.pointer (some ⟨g_,0,none⟩))∧IsS105 w0 w' g_ r1 r2 r3∧Below w0.heap.size w0 w'∧Below w.heap.size w w':=by
  have hu1:=Try.underlying105
  have HR1:=C hr0
  have HC1:=C hc0
  (try clear hr0);(try clear hc0)
  have HBW:=C (Below.refl w.heap.size w)
  have HW1:=C hB.size
  have HB:=C hB
  clear hB
  have H:=h
  unfold spec_l01New.f at H
  clear h
  have H':=C H
  clear H
  go_enter Try.func52,Try.ntmps52
  go_wp2
  go_loopg [3,4] k (fun kq v3 v4 w'=>∃(x1_1:Int) (x2_1:Int),v3=V I x1_1∧v4=V I x2_1∧D (spec_l01New.l0 kq l0 x1_1 x2_1=some (r1,r2,r3))∧D (kq≤k)∧D (Below w0.heap.size w0 w')∧D (Below w.heap.size w w'))
  case atStart=>exact⟨(wrap64 (98729+(l0.length:Int))),(0),rS,rS,H',⟨Nat.le_refl _⟩,⟨uB⟩,⟨by repeat(first|(with_reducible first|exact HBW.out|apply bA|apply bN|apply b1)|exact HBW.out)⟩⟩
  case round=>
    clear H'
    obtain⟨x1_1,x2_1,rfl,rfl,HA,HK1,HB,HBW⟩:=hrel
    cases gk with
    |zero=>exact absurd HA.out (by simp[spec_l01New.l0])
    |succ k1=>
      have H:=HA.out
      clear HA
      simp only[spec_l01New.l0]at H
      by_cases c1:x2_1<(l0.length:Int)
      · rw[if_pos c1]at H
        have c1b0:decide (x2_1<(l0.length:Int))=true:=decide_eq_true c1
        clear c1
        by_cases c2:x2_1<4000
        · rw[if_pos c2]at H
          have c2b0:decide (x2_1<4000)=true:=decide_eq_true c2
          clear c2
          by_cases c3:0≤x2_1
          · rw[if_pos c3]at H
            have c3b0:decide (0≤x2_1)=true:=decide_eq_true c3
            clear c3
            have H':=C H
            clear H
            have p1:0≤(x2_1:Int):=of_decide_eq_true (by first|(with_reducible assumption)|assumption)
            have q1:x2_1<(l0.length:Int):=of_decide_eq_true (by first|(with_reducible assumption)|assumption)
            obtain⟨ad1,e1,hx1_0⟩:=Kd.at_int HR1.out x2_1 p1 q1
            cases e1
            replace hx1_0:=pw_cell_below HB.out hx1_0
            replace p1:=eq_true p1
            replace q1:=eq_true q1
            go_wp2
            go_roundg k1
            case measure=>have:=HK1.out;omega
            case rel=>exact⟨(Go.bits .and .i64 (wrap64 ((wrap64 ((wrap64 (x1_1 * 131))+(wrap64 (rd l0 x2_1))))+7)) 1073741823),(wrap64 (x2_1+1)),rS,rS,H',⟨by have:=HK1.out;omega⟩,⟨uB⟩,⟨by repeat(first|(with_reducible first|exact HBW.out|apply bA|apply bN|apply b1)|exact HBW.out)⟩⟩
          · rw[if_neg c3]at H
            exact absurd H (by simp)
        · rw[if_neg c2]at H
          have c2b0:decide (x2_1<4000)=false:=decide_eq_false c2
          clear c2
          simp only[Option.some.injEq,Prod.mk.injEq]at H
          obtain⟨rfl,rfl,rfl⟩:=H
          exact spec_l01New.W1
      · rw[if_neg c1]at H
        have c1b0:decide (x2_1<(l0.length:Int))=false:=decide_eq_false c1
        clear c1
        simp only[Option.some.injEq,Prod.mk.injEq]at H
        obtain⟨rfl,rfl,rfl⟩:=H
        exact spec_l01New.W1
def spec_l01In.f (a0:Int) (a1:Int) (a2:Int):Option (Bool):=if a0 ≥ a1 then(some (decide (a0≤a2))) else(some false)
theorem spec_l01In.W1 {p:Prop} (h:p:=by
    go_enter Try.func38,Try.ntmps38
    go_wp2
    go_ret
    exact⟨by first|rfl|(simp;done)|(simp[*];done),by repeat(first|exact Drawn0.refl _|apply Drawn0.step)⟩):p:=h
set_option maxHeartbeats 40000000 in
set_option maxRecDepth 100000 in
theorem spec_l01In.calls (a0:Int) (a1:Int) (a2:Int) (r:Bool) (w:World) (h:spec_l01In.f a0 a1 a2=some r):
    Calls Try.prog 38 #[V I a0,V I a1,V I a2] w fun e w'=>e=.returned (O r)∧Drawn0 w w':=by
  have H:=h
  unfold spec_l01In.f at H
  clear h
  by_cases c1:a0 ≥ a1
  · rw[if_pos c1]at H
    have c1b0:decide (a1≤a0)=true:=decide_eq_true c1
    clear c1
    obtain rfl:=Option.some.inj H
    exact spec_l01In.W1
  · rw[if_neg c1]at H
    have c1b0:decide (a1≤a0)=false:=decide_eq_false c1
    clear c1
    obtain rfl:=Option.some.inj H
    exact spec_l01In.W1
def spec_JobOk.f (a0_0:Int) (a0_1:Int) (a0_2:Int) (a0_3:Bool) (a0_4:Int) (a0_5:Bool):Option (Bool):=(spec_l01In.f a0_0 1 9999).bind fun t157=>(if t157=true then((spec_l01In.f a0_1 1 64).bind fun t158=>(if t158=true then((spec_l01In.f a0_2 1 20).bind fun t159=>(if t159=true then((spec_l01In.f a0_4 0 9).bind fun t160=>(some t160)) else(some false))) else(some false))) else(some false))
theorem spec_JobOk.W1 {p:Prop} (h:p:=by
    go_enter Try.func39,Try.ntmps39
    go_wp2_with (first|((with_reducible refine gate_dst (N:=1) rfl ?_);refine Fix.be 1 #[V I a0_0,V I a0_1,V I a0_2,O a0_3,V I a0_4,O a0_5] 33 ?_;intro gb1 hg w1 BK1 hb;have GW1:D (w.heap.size≤gb1):=gE hg;have GE1:=GW1;replace HB:=eB hb;clear hb hg;obtain⟨hcz1_0,hcz1_1,hcz1_2,hcz1_3,hcz1_4,hcz1_5,hfz1_0,hfz1_1,hfz1_2,hfz1_3,hfz1_4,hfz1_5⟩:=d6 BK1.out)|((with_reducible refine gate_callee (f:=38) rfl ?_);refine gl 38 (some 5) Try.func38 #[V I a0_0,V I 1,V I 9999] ?_;(with_reducible refine(spec_l01In.calls a0_0 1 9999 true _ A1.out).mono ?_);rintro e w' ⟨rfl,⟨nd,rfl⟩⟩;refine⟨_,rfl,?_⟩)|(go_at_call 38;(with_reducible refine(spec_l01In.calls a0_1 1 64 true _ A2.out).mono ?_);rintro e w' ⟨rfl,⟨nd,rfl⟩⟩)|(go_at_call 38;(with_reducible refine(spec_l01In.calls a0_2 1 20 false _ A3.out).mono ?_);rintro e w' ⟨rfl,⟨nd,rfl⟩⟩)|(go_at_call 38;(with_reducible refine(spec_l01In.calls a0_1 1 64 false _ A2.out).mono ?_);rintro e w' ⟨rfl,⟨nd,rfl⟩⟩))
    go_ret
    exact⟨rE,uB⟩):p:=h
set_option maxHeartbeats 40000000 in
set_option maxRecDepth 100000 in
theorem spec_JobOk.calls (a0_0:Int) (a0_1:Int) (a0_2:Int) (a0_3:Bool) (a0_4:Int) (a0_5:Bool) (r:Bool) (w:World) (h:spec_JobOk.f a0_0 a0_1 a0_2 a0_3 a0_4 a0_5=some r):
    Calls Try.prog 39 #[.agg #[V I a0_0,V I a0_1,V I a0_2,O a0_3,V I a0_4,O a0_5]] w fun e w'=>e=.returned (O r)∧Below w.heap.size w w':=by
  have hu1:=Try.underlying33
  have HB:=C (Below.refl w.heap.size w)
  have H:=h
  unfold spec_JobOk.f at H
  clear h
  obtain⟨t1,A1,H⟩:=bnd H
  by_cases c1:t1=true
  · subst c1
    rw[if_pos rfl]at H
    obtain⟨t2,A2,H⟩:=bnd H
    by_cases c2:t2=true
    · subst c2
      rw[if_pos rfl]at H
      obtain⟨t3,A3,H⟩:=bnd H
      by_cases c3:t3=true
      · subst c3
        rw[if_pos rfl]at H
        obtain⟨t4,A4,H⟩:=bnd H
        obtain rfl:=Option.some.inj H
        go_enter Try.func39,Try.ntmps39
        go_wp2_with (first|((with_reducible refine gate_dst (N:=1) rfl ?_);refine Fix.be 1 #[V I a0_0,V I a0_1,V I a0_2,O a0_3,V I a0_4,O a0_5] 33 ?_;intro gb1 hg w1 BK1 hb;have GW1:D (w.heap.size≤gb1):=gE hg;have GE1:=GW1;replace HB:=eB hb;clear hb hg;have h_:=d6 BK1.out;repeat(obtain⟨_,h_⟩:=h_))|((with_reducible refine gate_callee (f:=38) rfl ?_);refine gl 38 (some 5) Try.func38 #[V I a0_0,V I 1,V I 9999] ?_;(with_reducible refine(spec_l01In.calls a0_0 1 9999 true _ A1.out).mono ?_);rintro e w' ⟨rfl,⟨nd,rfl⟩⟩;refine⟨_,rfl,?_⟩)|(go_at_call 38;(with_reducible refine(spec_l01In.calls a0_1 1 64 true _ A2.out).mono ?_);rintro e w' ⟨rfl,⟨nd,rfl⟩⟩)|(go_at_call 38;(with_reducible refine(spec_l01In.calls a0_2 1 20 true _ A3.out).mono ?_);rintro e w' ⟨rfl,⟨nd,rfl⟩⟩)|(go_at_call 38;(with_reducible refine(spec_l01In.calls a0_4 0 9 t4 _ A4.out).mono ?_);rintro e w' ⟨rfl,⟨nd,rfl⟩⟩))
        go_ret
        exact⟨rE,uB⟩
      · replace c3:=Bool.eq_false_iff.mpr c3
        subst c3
        rw[if_neg Bool.false_ne_true]at H
        obtain rfl:=Option.some.inj H
        exact spec_JobOk.W1
    · replace c2:=Bool.eq_false_iff.mpr c2
      subst c2
      rw[if_neg Bool.false_ne_true]at H
      obtain rfl:=Option.some.inj H
      exact spec_JobOk.W1
  · replace c1:=Bool.eq_false_iff.mpr c1
    subst c1
    rw[if_neg Bool.false_ne_true]at H
    obtain rfl:=Option.some.inj H
    go_enter Try.func39,Try.ntmps39
    go_wp2_with (first|((with_reducible refine gate_dst (N:=1) rfl ?_);refine Fix.be 1 #[V I a0_0,V I a0_1,V I a0_2,O a0_3,V I a0_4,O a0_5] 33 ?_;intro gb1 hg w1 BK1 hb;have GW1:D (w.heap.size≤gb1):=gE hg;have GE1:=GW1;replace HB:=eB hb;clear hb hg;obtain⟨hcz1_0,hcz1_1,hcz1_2,hcz1_3,hcz1_4,hcz1_5,hfz1_0,hfz1_1,hfz1_2,hfz1_3,hfz1_4,hfz1_5⟩:=d6 BK1.out)|((with_reducible refine gate_callee (f:=38) rfl ?_);refine gl 38 (some 5) Try.func38 #[V I a0_0,V I 1,V I 9999] ?_;(with_reducible refine(spec_l01In.calls a0_0 1 9999 false _ A1.out).mono ?_);rintro e w' ⟨rfl,⟨nd,rfl⟩⟩;refine⟨_,rfl,?_⟩))
    go_ret
    exact⟨rE,uB⟩
mutual
def spec_JobsOk.l0:Nat→List (S33)→Int→Option (Bool)
  |0,_,_=>none
  |k+1,x0,x3=>if x3<(x0.length:Int) then(if 0≤x3 then((spec_JobOk.f ((rd_T33 x0 x3).f0) ((rd_T33 x0 x3).f1) ((rd_T33 x0 x3).f2) ((rd_T33 x0 x3).f3) ((rd_T33 x0 x3).f4) ((rd_T33 x0 x3).f5)).bind fun t162=>(if t162=true then(spec_JobsOk.l1 k x0 x3 0) else(some false))) else(none)) else(some (decide ((x0.length:Int)≤12)))
def spec_JobsOk.l1:Nat→List (S33)→Int→Int→Option (Bool)
  |0,_,_,_=>none
  |k+1,x0,x3,x4=>if x4<x3 then(if 0≤x4 then(if x4<(x0.length:Int) then(if 0≤x3 then(if x3<(x0.length:Int) then(if((rd_T33 x0 x4).f0)=((rd_T33 x0 x3).f0) then(some false) else(spec_JobsOk.l1 k x0 x3 (wrap64 (x4+1)))) else(none)) else(none)) else(none)) else(none)) else(spec_JobsOk.l0 k x0 (wrap64 (x3+1)))
end
def spec_JobsOk.f (k:Nat) (l0:List (S33)):Option (Bool):=spec_JobsOk.l0 k l0 0
theorem spec_JobsOk.mono_l:∀k,(∀y0 y1,LeO (spec_JobsOk.l0 k y0 y1) (spec_JobsOk.l0 (k+1) y0 y1))∧(∀y0 y1 y2,LeO (spec_JobsOk.l1 k y0 y1 y2) (spec_JobsOk.l1 (k+1) y0 y1 y2))
  |0=>⟨fun _ _ r h=>by simp[spec_JobsOk.l0]at h,fun _ _ _ r h=>by simp[spec_JobsOk.l1]at h⟩
  |k+1=>by
    obtain⟨ih0,ih1⟩:=spec_JobsOk.mono_l k
    refine⟨?_,?_⟩
    · intro y0 y1
      unfold spec_JobsOk.l0
      repeat' first|(with_reducible first|apply ih0|apply ih1|exact LeO.refl _|exact LeO.none _|refine LeO.ite ?_ ?_|refine LeO.bind ?_ (fun _=> ?_))|apply ih0|apply ih1|exact LeO.none _|refine LeO.ite ?_ ?_|refine LeO.bind ?_ (fun _=> ?_)
    · intro y0 y1 y2
      unfold spec_JobsOk.l1
      repeat' first|(with_reducible first|apply ih0|apply ih1|exact LeO.refl _|exact LeO.none _|refine LeO.ite ?_ ?_|refine LeO.bind ?_ (fun _=> ?_))|apply ih0|apply ih1|exact LeO.none _|refine LeO.ite ?_ ?_|refine LeO.bind ?_ (fun _=> ?_)
theorem spec_JobsOk.mono:∀a0 k,LeO (spec_JobsOk.f k a0) (spec_JobsOk.f (k+1) a0):=by
  intro a0 k
  obtain⟨ih0,ih1⟩:=spec_JobsOk.mono_l k
  unfold spec_JobsOk.f
  repeat' first|(with_reducible first|apply ih0|apply ih1|exact LeO.refl _|exact LeO.none _|refine LeO.ite ?_ ?_|refine LeO.bind ?_ (fun _=> ?_))|apply ih0|apply ih1|exact LeO.none _|refine LeO.ite ?_ ?_|refine LeO.bind ?_ (fun _=> ?_)
theorem spec_JobsOk.W1 {p:Prop} (h:p:=by
    go_wp2
    repeat(go_quiet (fail);try go_wp2)
    go_ret
    exact⟨rE,uB⟩):p:=h
theorem spec_JobsOk.W2 {p:Prop} (h:p:=by
    go_wp2
    repeat(go_quiet (fail);try go_wp2)
    go_roundg k2
    case measure=>have:=HK1.out;have:=HK2.out;omega
    first
      |(case rel=>exact⟨(wrap64 (x2_2+1)),rS,H',⟨by have:=HK1.out;have:=HK2.out;omega⟩,⟨uB⟩⟩)
      |(case rel=>exact⟨(wrap64 (x1_1+1)),rS,H',⟨by have:=HK1.out;have:=HK2.out;omega⟩,⟨uB⟩⟩)):p:=h
set_option maxHeartbeats 40000000 in
set_option maxRecDepth 100000 in
theorem spec_JobsOk.calls (k:Nat) (A0:Option Addr) (c0:Nat) (l0:List (S33)) (r:Bool) (w:World) (hr0:Kd.C k33 w A0 l0.length l0) (hc0:l0.length≤c0) (h:spec_JobsOk.f k l0=some r):
    Calls Try.prog 36 #[L A0 l0.length c0] w fun e w'=>e=.returned (O r)∧Below w.heap.size w w':=by
  have hu1:=Try.underlying33
  have HR1:=C hr0
  have HC1:=C hc0
  (try clear hr0);(try clear hc0)
  have HB:=C (Below.refl w.heap.size w)
  have H:=h
  unfold spec_JobsOk.f at H
  clear h
  have H':=C H
  clear H
  go_enter Try.func36,Try.ntmps36
  go_wp2
  repeat(go_quiet (fail);try go_wp2)
  go_loopg [3] k (fun kq v3 w'=>∃(x1_1:Int),v3=V I x1_1∧D (spec_JobsOk.l0 kq l0 x1_1=some r)∧D (kq≤k)∧D (Below w.heap.size w w'))
  case atStart=>exact⟨(0),rS,H',⟨Nat.le_refl _⟩,⟨uB⟩⟩
  case round=>
    clear H'
    obtain⟨x1_1,rfl,HA,HK1,HB⟩:=hrel
    cases gk with
    |zero=>exact absurd HA.out (by simp[spec_JobsOk.l0])
    |succ k1=>
      have H:=HA.out
      clear HA
      simp only[spec_JobsOk.l0]at H
      by_cases c1:x1_1<(l0.length:Int)
      · rw[if_pos c1]at H
        have c1b0:decide (x1_1<(l0.length:Int))=true:=decide_eq_true c1
        clear c1
        by_cases c2:0≤x1_1
        · rw[if_pos c2]at H
          have c2b0:decide (0≤x1_1)=true:=decide_eq_true c2
          clear c2
          obtain⟨t1,A1,H⟩:=bnd H
          by_cases c3:t1=true
          · subst c3
            rw[if_pos rfl]at H
            have H':=C H
            clear H
            have p1:0≤(x1_1:Int):=of_decide_eq_true (by first|(with_reducible assumption)|assumption)
            have q1:x1_1<(l0.length:Int):=of_decide_eq_true (by first|(with_reducible assumption)|assumption)
            obtain⟨ad1,e1,hx1_0,hx1_1,hx1_2,hx1_3,hx1_4,hx1_5⟩:=at_T33 HR1.out x1_1 p1 q1
            cases e1
            replace hx1_0:=hx HB hx1_0
            replace hx1_1:=hx HB hx1_1
            replace hx1_2:=hx HB hx1_2
            replace hx1_3:=hx HB hx1_3
            replace hx1_4:=hx HB hx1_4
            replace hx1_5:=hx HB hx1_5
            replace p1:=eq_true p1
            replace q1:=eq_true q1
            go_wp2_with (first|(go_at_call 39;(with_reducible refine(spec_JobOk.calls ((rd_T33 l0 x1_1).f0) ((rd_T33 l0 x1_1).f1) ((rd_T33 l0 x1_1).f2) ((rd_T33 l0 x1_1).f3) ((rd_T33 l0 x1_1).f4) ((rd_T33 l0 x1_1).f5) true _ A1.out).mono ?_);rintro e w1 ⟨rfl,hb⟩;replace HB:=eB hb;clear hb))
            repeat(go_quiet (fail);try go_wp2_with (first|(go_at_call 39;(with_reducible refine(spec_JobOk.calls ((rd_T33 l0 x1_1).f0) ((rd_T33 l0 x1_1).f1) ((rd_T33 l0 x1_1).f2) ((rd_T33 l0 x1_1).f3) ((rd_T33 l0 x1_1).f4) ((rd_T33 l0 x1_1).f5) true _ A1.out).mono ?_);rintro e w1 ⟨rfl,hb⟩;replace HB:=eB hb;clear hb)))
            go_loopg [4] k1 (fun kq v4 w'=>∃(x2_2:Int),v4=V I x2_2∧D (spec_JobsOk.l1 kq l0 x1_1 x2_2=some r)∧D (kq≤k1)∧D (Below w.heap.size w w'))
            case atStart=>exact⟨(0),rS,H',⟨Nat.le_refl _⟩,⟨uB⟩⟩
            case round=>
              clear H'
              obtain⟨x2_2,rfl,HA,HK2,HB⟩:=hrel
              cases gk with
              |zero=>exact absurd HA.out (by simp[spec_JobsOk.l1])
              |succ k2=>
                have H:=HA.out
                clear HA
                simp only[spec_JobsOk.l1]at H
                by_cases c4:x2_2<x1_1
                · rw[if_pos c4]at H
                  have c4b0:decide (x2_2<x1_1)=true:=decide_eq_true c4
                  clear c4
                  by_cases c5:0≤x2_2
                  · rw[if_pos c5]at H
                    have c5b0:decide (0≤x2_2)=true:=decide_eq_true c5
                    clear c5
                    by_cases c6:x2_2<(l0.length:Int)
                    · rw[if_pos c6]at H
                      have c6b0:decide (x2_2<(l0.length:Int))=true:=decide_eq_true c6
                      clear c6
                      by_cases c7:0≤x1_1
                      · rw[if_pos c7]at H
                        have c7b0:decide (0≤x1_1)=true:=decide_eq_true c7
                        clear c7
                        by_cases c8:x1_1<(l0.length:Int)
                        · rw[if_pos c8]at H
                          have c8b0:decide (x1_1<(l0.length:Int))=true:=decide_eq_true c8
                          clear c8
                          by_cases c9:((rd_T33 l0 x2_2).f0)=((rd_T33 l0 x1_1).f0)
                          · rw[if_pos c9]at H
                            have c9b0:(((rd_T33 l0 x2_2).f0)==((rd_T33 l0 x1_1).f0))=true:=beq_iff_eq.mpr c9
                            have c9b1:(((rd_T33 l0 x2_2).f0) !=((rd_T33 l0 x1_1).f0))=false:=bne_eq_false_iff_eq.mpr c9
                            clear c9
                            obtain rfl:=Option.some.inj H
                            have p2:0≤(x2_2:Int):=of_decide_eq_true (by first|(with_reducible assumption)|assumption)
                            have q2:x2_2<(l0.length:Int):=of_decide_eq_true (by first|(with_reducible assumption)|assumption)
                            obtain⟨ad2,e2,hx2_0,hx2_1,hx2_2,hx2_3,hx2_4,hx2_5⟩:=at_T33 HR1.out x2_2 p2 q2
                            obtain rfl:ad1=ad2:=(by injection e2)
                            replace hx2_0:=hx HB hx2_0
                            replace hx2_1:=hx HB hx2_1
                            replace hx2_2:=hx HB hx2_2
                            replace hx2_3:=hx HB hx2_3
                            replace hx2_4:=hx HB hx2_4
                            replace hx2_5:=hx HB hx2_5
                            replace p2:=eq_true p2
                            replace q2:=eq_true q2
                            have p3:0≤(x1_1:Int):=of_decide_eq_true (by first|(with_reducible assumption)|assumption)
                            have q3:x1_1<(l0.length:Int):=of_decide_eq_true (by first|(with_reducible assumption)|assumption)
                            obtain⟨ad3,e3,hx3_0,hx3_1,hx3_2,hx3_3,hx3_4,hx3_5⟩:=at_T33 HR1.out x1_1 p3 q3
                            obtain rfl:ad1=ad3:=(by injection e3)
                            replace hx3_0:=hx HB hx3_0
                            replace hx3_1:=hx HB hx3_1
                            replace hx3_2:=hx HB hx3_2
                            replace hx3_3:=hx HB hx3_3
                            replace hx3_4:=hx HB hx3_4
                            replace hx3_5:=hx HB hx3_5
                            replace p3:=eq_true p3
                            replace q3:=eq_true q3
                            exact spec_JobsOk.W1
                          · rw[if_neg c9]at H
                            have c9b0:(((rd_T33 l0 x2_2).f0)==((rd_T33 l0 x1_1).f0))=false:=beq_eq_false_iff_ne.mpr c9
                            have c9b1:(((rd_T33 l0 x2_2).f0) !=((rd_T33 l0 x1_1).f0))=true:=bne_iff_ne.mpr c9
                            have H':=C H
                            clear H
                            have p2:0≤(x2_2:Int):=of_decide_eq_true (by first|(with_reducible assumption)|assumption)
                            have q2:x2_2<(l0.length:Int):=of_decide_eq_true (by first|(with_reducible assumption)|assumption)
                            obtain⟨ad2,e2,hx2_0,hx2_1,hx2_2,hx2_3,hx2_4,hx2_5⟩:=at_T33 HR1.out x2_2 p2 q2
                            obtain rfl:ad1=ad2:=(by injection e2)
                            replace hx2_0:=hx HB hx2_0
                            replace hx2_1:=hx HB hx2_1
                            replace hx2_2:=hx HB hx2_2
                            replace hx2_3:=hx HB hx2_3
                            replace hx2_4:=hx HB hx2_4
                            replace hx2_5:=hx HB hx2_5
                            replace p2:=eq_true p2
                            replace q2:=eq_true q2
                            have p3:0≤(x1_1:Int):=of_decide_eq_true (by first|(with_reducible assumption)|assumption)
                            have q3:x1_1<(l0.length:Int):=of_decide_eq_true (by first|(with_reducible assumption)|assumption)
                            obtain⟨ad3,e3,hx3_0,hx3_1,hx3_2,hx3_3,hx3_4,hx3_5⟩:=at_T33 HR1.out x1_1 p3 q3
                            obtain rfl:ad1=ad3:=(by injection e3)
                            replace hx3_0:=hx HB hx3_0
                            replace hx3_1:=hx HB hx3_1
                            replace hx3_2:=hx HB hx3_2
                            replace hx3_3:=hx HB hx3_3
                            replace hx3_4:=hx HB hx3_4
                            replace hx3_5:=hx HB hx3_5
                            replace p3:=eq_true p3
                            replace q3:=eq_true q3
                            exact spec_JobsOk.W2
                        · rw[if_neg c8]at H
                          exact absurd H (by simp)
                      · rw[if_neg c7]at H
                        exact absurd H (by simp)
                    · rw[if_neg c6]at H
                      exact absurd H (by simp)
                  · rw[if_neg c5]at H
                    exact absurd H (by simp)
                · rw[if_neg c4]at H
                  have c4b0:decide (x2_2<x1_1)=false:=decide_eq_false c4
                  clear c4
                  have H':=C H
                  clear H
                  exact spec_JobsOk.W2
          · replace c3:=Bool.eq_false_iff.mpr c3
            subst c3
            rw[if_neg Bool.false_ne_true]at H
            obtain rfl:=Option.some.inj H
            have p1:0≤(x1_1:Int):=of_decide_eq_true (by first|(with_reducible assumption)|assumption)
            have q1:x1_1<(l0.length:Int):=of_decide_eq_true (by first|(with_reducible assumption)|assumption)
            obtain⟨ad1,e1,hx1_0,hx1_1,hx1_2,hx1_3,hx1_4,hx1_5⟩:=at_T33 HR1.out x1_1 p1 q1
            cases e1
            replace hx1_0:=hx HB hx1_0
            replace hx1_1:=hx HB hx1_1
            replace hx1_2:=hx HB hx1_2
            replace hx1_3:=hx HB hx1_3
            replace hx1_4:=hx HB hx1_4
            replace hx1_5:=hx HB hx1_5
            replace p1:=eq_true p1
            replace q1:=eq_true q1
            go_wp2_with (first|(go_at_call 39;(with_reducible refine(spec_JobOk.calls ((rd_T33 l0 x1_1).f0) ((rd_T33 l0 x1_1).f1) ((rd_T33 l0 x1_1).f2) ((rd_T33 l0 x1_1).f3) ((rd_T33 l0 x1_1).f4) ((rd_T33 l0 x1_1).f5) false _ A1.out).mono ?_);rintro e w1 ⟨rfl,hb⟩;replace HB:=eB hb;clear hb))
            repeat(go_quiet (fail);try go_wp2_with (first|(go_at_call 39;(with_reducible refine(spec_JobOk.calls ((rd_T33 l0 x1_1).f0) ((rd_T33 l0 x1_1).f1) ((rd_T33 l0 x1_1).f2) ((rd_T33 l0 x1_1).f3) ((rd_T33 l0 x1_1).f4) ((rd_T33 l0 x1_1).f5) false _ A1.out).mono ?_);rintro e w1 ⟨rfl,hb⟩;replace HB:=eB hb;clear hb)))
            go_ret
            exact⟨rE,uB⟩
        · rw[if_neg c2]at H
          exact absurd H (by simp)
      · rw[if_neg c1]at H
        have c1b0:decide (x1_1<(l0.length:Int))=false:=decide_eq_false c1
        clear c1
        obtain rfl:=Option.some.inj H
        exact spec_JobsOk.W1
mutual
def spec_LineOk.j0:Nat→Bool→Int→Int→List Int→List Int→Int→Bool→Option (Bool)
  |0,_,_,_,_,_,_,_=>none
  |k+1,x40,x166000,x166001,x166002,x166003,x166004,x166005=>if x40=true then(some false) else(spec_LineOk.l0 k 0 x166000 x166001 x166002 x166003 x166004 x166005)
def spec_LineOk.l0:Nat→Int→Int→Int→List Int→List Int→Int→Bool→Option (Bool)
  |0,_,_,_,_,_,_,_=>none
  |k+1,x3,x166000,x166001,x166002,x166003,x166004,x166005=>if x3<(x166003.length:Int) then(if 0≤x3 then(if(rd x166003 x3)=x3 then(spec_LineOk.l0 k (wrap64 (x3+1)) x166000 x166001 x166002 x166003 x166004 x166005) else(some false)) else(none)) else(spec_LineOk.l1 k 0 x166000 x166001 x166002 x166003 x166004 x166005)
def spec_LineOk.l1:Nat→Int→Int→Int→List Int→List Int→Int→Bool→Option (Bool)
  |0,_,_,_,_,_,_,_=>none
  |k+1,x4,x166000,x166001,x166002,x166003,x166004,x166005=>if x4<(x166002.length:Int) then(if 0≤x4 then(if(rd x166002 x4)=(wrap64 ((x166003.length:Int)+x4)) then(spec_LineOk.l1 k (wrap64 (x4+1)) x166000 x166001 x166002 x166003 x166004 x166005) else(some false)) else(none)) else(some true)
end
def spec_LineOk.f (k:Nat) (a0_0:Int) (a0_1:Int) (l0_2:List Int) (l0_3:List Int) (a0_4:Int) (a0_5:Bool):Option (Bool):=(spec_l01In.f a0_0 0 40).bind fun t166=>(if t166=true then((spec_l01In.f a0_1 0 a0_0).bind fun t167=>(if t167=true then(if(l0_2.length:Int) >5 then(spec_LineOk.j0 k true a0_0 a0_1 l0_2 l0_3 a0_4 a0_5) else((spec_l01In.f a0_4 0 100000).bind fun t168=>(if t168=true then(spec_LineOk.j0 k ((wrap64 ((l0_3.length:Int)+(l0_2.length:Int))) !=a0_1) a0_0 a0_1 l0_2 l0_3 a0_4 a0_5) else(spec_LineOk.j0 k true a0_0 a0_1 l0_2 l0_3 a0_4 a0_5)))) else(spec_LineOk.j0 k true a0_0 a0_1 l0_2 l0_3 a0_4 a0_5))) else(spec_LineOk.j0 k true a0_0 a0_1 l0_2 l0_3 a0_4 a0_5))
theorem spec_LineOk.mono_l:∀k,(∀y0 y1 y2 y3 y4 y5 y6,LeO (spec_LineOk.j0 k y0 y1 y2 y3 y4 y5 y6) (spec_LineOk.j0 (k+1) y0 y1 y2 y3 y4 y5 y6))∧(∀y0 y1 y2 y3 y4 y5 y6,LeO (spec_LineOk.l0 k y0 y1 y2 y3 y4 y5 y6) (spec_LineOk.l0 (k+1) y0 y1 y2 y3 y4 y5 y6))∧(∀y0 y1 y2 y3 y4 y5 y6,LeO (spec_LineOk.l1 k y0 y1 y2 y3 y4 y5 y6) (spec_LineOk.l1 (k+1) y0 y1 y2 y3 y4 y5 y6))
  |0=>⟨fun _ _ _ _ _ _ _ r h=>by simp[spec_LineOk.j0]at h,fun _ _ _ _ _ _ _ r h=>by simp[spec_LineOk.l0]at h,fun _ _ _ _ _ _ _ r h=>by simp[spec_LineOk.l1]at h⟩
  |k+1=>by
    obtain⟨ih0,ih1,ih2⟩:=spec_LineOk.mono_l k
    refine⟨?_,?_,?_⟩
    · intro y0 y1 y2 y3 y4 y5 y6
      unfold spec_LineOk.j0
      repeat' first|(with_reducible first|apply ih0|apply ih1|apply ih2|exact LeO.refl _|exact LeO.none _|refine LeO.ite ?_ ?_|refine LeO.bind ?_ (fun _=> ?_))|apply ih0|apply ih1|apply ih2|exact LeO.none _|refine LeO.ite ?_ ?_|refine LeO.bind ?_ (fun _=> ?_)
    · intro y0 y1 y2 y3 y4 y5 y6
      unfold spec_LineOk.l0
      repeat' first|(with_reducible first|apply ih0|apply ih1|apply ih2|exact LeO.refl _|exact LeO.none _|refine LeO.ite ?_ ?_|refine LeO.bind ?_ (fun _=> ?_))|apply ih0|apply ih1|apply ih2|exact LeO.none _|refine LeO.ite ?_ ?_|refine LeO.bind ?_ (fun _=> ?_)
    · intro y0 y1 y2 y3 y4 y5 y6
      unfold spec_LineOk.l1
      repeat' first|(with_reducible first|apply ih0|apply ih1|apply ih2|exact LeO.refl _|exact LeO.none _|refine LeO.ite ?_ ?_|refine LeO.bind ?_ (fun _=> ?_))|apply ih0|apply ih1|apply ih2|exact LeO.none _|refine LeO.ite ?_ ?_|refine LeO.bind ?_ (fun _=> ?_)
theorem spec_LineOk.mono:∀a0 a1 a2 a3 a4 a5 k,LeO (spec_LineOk.f k a0 a1 a2 a3 a4 a5) (spec_LineOk.f (k+1) a0 a1 a2 a3 a4 a5):=by
  intro a0 a1 a2 a3 a4 a5 k
  obtain⟨ih0,ih1,ih2⟩:=spec_LineOk.mono_l k
  unfold spec_LineOk.f
  repeat' first|(with_reducible first|apply ih0|apply ih1|apply ih2|exact LeO.refl _|exact LeO.none _|refine LeO.ite ?_ ?_|refine LeO.bind ?_ (fun _=> ?_))|apply ih0|apply ih1|apply ih2|exact LeO.none _|refine LeO.ite ?_ ?_|refine LeO.bind ?_ (fun _=> ?_)
theorem spec_LineOk.W1 {p:Prop} (h:p:=by
    go_wp2_with (first|(go_at_call 38;(with_reducible refine(spec_l01In.calls a0_0 0 40 true _ A1.out).mono ?_);rintro e w' ⟨rfl,⟨nd,rfl⟩⟩;(try exact dD))|(go_at_call 38;(with_reducible refine(spec_l01In.calls a0_1 0 a0_0 true _ A2.out).mono ?_);rintro e w' ⟨rfl,⟨nd,rfl⟩⟩;(try exact dD))|(go_at_call 38;(with_reducible refine(spec_l01In.calls a0_4 0 100000 true _ A3.out).mono ?_);rintro e w' ⟨rfl,⟨nd,rfl⟩⟩;(try exact dD))|(go_at_call 38;(with_reducible refine(spec_l01In.calls a0_1 0 a0_0 false _ A2.out).mono ?_);rintro e w' ⟨rfl,⟨nd,rfl⟩⟩;(try exact dD))|(go_at_call 38;(with_reducible refine(spec_l01In.calls a0_0 0 40 false _ A1.out).mono ?_);rintro e w' ⟨rfl,⟨nd,rfl⟩⟩;(try exact dD)))
    first
      | (repeat (go_quiet (first | (go_at_call 38; (with_reducible refine (spec_l01In.calls a0_0 0 40 true _ A1.out).mono ?_); rintro e w' ⟨rfl, ⟨nd, rfl⟩⟩; (try exact dD)) | (go_at_call 38; (with_reducible refine (spec_l01In.calls a0_1 0 a0_0 true _ A2.out).mono ?_); rintro e w' ⟨rfl, ⟨nd, rfl⟩⟩; (try exact dD))); try go_wp2_with (first | (go_at_call 38; (with_reducible refine (spec_l01In.calls a0_0 0 40 true _ A1.out).mono ?_); rintro e w' ⟨rfl, ⟨nd, rfl⟩⟩; (try exact dD)) | (go_at_call 38; (with_reducible refine (spec_l01In.calls a0_1 0 a0_0 true _ A2.out).mono ?_); rintro e w' ⟨rfl, ⟨nd, rfl⟩⟩; (try exact dD))))
         go_meet
         case rel=>exact⟨_,(true),rS,H',⟨oL⟩,⟨bK BK1.out⟩,⟨uB⟩⟩)
      | (repeat (go_quiet (first | (go_at_call 38; (with_reducible refine (spec_l01In.calls a0_0 0 40 true _ A1.out).mono ?_); rintro e w' ⟨rfl, ⟨nd, rfl⟩⟩; (try exact dD)) | (go_at_call 38; (with_reducible refine (spec_l01In.calls a0_1 0 a0_0 true _ A2.out).mono ?_); rintro e w' ⟨rfl, ⟨nd, rfl⟩⟩; (try exact dD)) | (go_at_call 38; (with_reducible refine (spec_l01In.calls a0_4 0 100000 true _ A3.out).mono ?_); rintro e w' ⟨rfl, ⟨nd, rfl⟩⟩; (try exact dD))); try go_wp2_with (first | (go_at_call 38; (with_reducible refine (spec_l01In.calls a0_0 0 40 true _ A1.out).mono ?_); rintro e w' ⟨rfl, ⟨nd, rfl⟩⟩; (try exact dD)) | (go_at_call 38; (with_reducible refine (spec_l01In.calls a0_1 0 a0_0 true _ A2.out).mono ?_); rintro e w' ⟨rfl, ⟨nd, rfl⟩⟩; (try exact dD)) | (go_at_call 38; (with_reducible refine (spec_l01In.calls a0_4 0 100000 true _ A3.out).mono ?_); rintro e w' ⟨rfl, ⟨nd, rfl⟩⟩; (try exact dD))))
         go_meet
         case rel=>exact⟨_,(((wrap64 ((l0_3.length:Int)+(l0_2.length:Int))) !=a0_1)),rS,H',⟨oL⟩,⟨bK BK1.out⟩,⟨uB⟩⟩)
      | (repeat (go_quiet (first | (go_at_call 38; (with_reducible refine (spec_l01In.calls a0_0 0 40 true _ A1.out).mono ?_); rintro e w' ⟨rfl, ⟨nd, rfl⟩⟩; (try exact dD)) | (go_at_call 38; (with_reducible refine (spec_l01In.calls a0_1 0 a0_0 false _ A2.out).mono ?_); rintro e w' ⟨rfl, ⟨nd, rfl⟩⟩; (try exact dD))); try go_wp2_with (first | (go_at_call 38; (with_reducible refine (spec_l01In.calls a0_0 0 40 true _ A1.out).mono ?_); rintro e w' ⟨rfl, ⟨nd, rfl⟩⟩; (try exact dD)) | (go_at_call 38; (with_reducible refine (spec_l01In.calls a0_1 0 a0_0 false _ A2.out).mono ?_); rintro e w' ⟨rfl, ⟨nd, rfl⟩⟩; (try exact dD))))
         go_meet
         case rel=>exact⟨_,(true),rS,H',⟨oL⟩,⟨bK BK1.out⟩,⟨uB⟩⟩)
      | (repeat (go_quiet (first | (go_at_call 38; (with_reducible refine (spec_l01In.calls a0_0 0 40 false _ A1.out).mono ?_); rintro e w' ⟨rfl, ⟨nd, rfl⟩⟩; (try exact dD))); try go_wp2_with (first | (go_at_call 38; (with_reducible refine (spec_l01In.calls a0_0 0 40 false _ A1.out).mono ?_); rintro e w' ⟨rfl, ⟨nd, rfl⟩⟩; (try exact dD))))
         go_meet
         case rel=>exact⟨_,(true),rS,H',⟨oL⟩,⟨bK BK1.out⟩,⟨uB⟩⟩)):p:=h
theorem spec_LineOk.W2 {p:Prop} (h:p:=by
    go_wp2
    repeat(go_quiet (fail);try go_wp2)
    go_ret
    exact⟨rE,uB⟩):p:=h
set_option maxHeartbeats 40000000 in
set_option maxRecDepth 100000 in
theorem spec_LineOk.calls (k:Nat) (a0_0:Int) (a0_1:Int) (A0_2:Option Addr) (c0_2:Nat) (l0_2:List Int) (A0_3:Option Addr) (c0_3:Nat) (l0_3:List Int) (a0_4:Int) (a0_5:Bool) (r:Bool) (w:World) (hr0_2:Kd.C (Kd.int .i64) w A0_2 l0_2.length l0_2) (hc0_2:l0_2.length≤c0_2) (hr0_3:Kd.C (Kd.int .i64) w A0_3 l0_3.length l0_3) (hc0_3:l0_3.length≤c0_3) (h:spec_LineOk.f k a0_0 a0_1 l0_2 l0_3 a0_4 a0_5=some r):
    Calls Try.prog 37 #[.agg #[V I a0_0,V I a0_1,L A0_2 l0_2.length c0_2,L A0_3 l0_3.length c0_3,V I a0_4,O a0_5]] w fun e w'=>e=.returned (O r)∧Below w.heap.size w w':=by
  have hu1:=Try.underlying34
  have HR1_2:=C hr0_2
  have HC1_2:=C hc0_2
  (try clear hr0_2);(try clear hc0_2)
  have HR1_3:=C hr0_3
  have HC1_3:=C hc0_3
  (try clear hr0_3);(try clear hc0_3)
  have HB:=C (Below.refl w.heap.size w)
  have H:=h
  unfold spec_LineOk.f at H
  clear h
  have HC2:=C H
  clear H
  go_enter Try.func37,Try.ntmps37
  go_upto_region 1 with(first|((with_reducible refine gate_dst (N:=1) rfl ?_);(try(refine gate_guard (by rfl) ?_;dsimp only));refine Fix.be 1 #[V I a0_0,V I a0_1,L A0_2 l0_2.length c0_2,L A0_3 l0_3.length c0_3,V I a0_4,O a0_5] 34 ?_;intro gb1 hg w1 BK1 hb;have GW1:D (w.heap.size≤gb1):=gE hg;have GE1:=GW1;replace HB:=eB hb;clear hb hg))
  repeat(go_quiet (fail);go_upto_region 1 with(first|((with_reducible refine gate_dst (N:=1) rfl ?_);(try(refine gate_guard (by rfl) ?_;dsimp only));refine Fix.be 1 #[V I a0_0,V I a0_1,L A0_2 l0_2.length c0_2,L A0_3 l0_3.length c0_3,V I a0_4,O a0_5] 34 ?_;intro gb1 hg w1 BK1 hb;have GW1:D (w.heap.size≤gb1):=gE hg;have GE1:=GW1;replace HB:=eB hb;clear hb hg)))
  (try simp only[Act.put,List.setIfInBounds_toArray,List.set_cons_zero,List.set_cons_succ])
  go_cut [40] (fun v40 wc=>∃(kq:Nat) (x1_1:Bool),v40=O x1_1∧D (spec_LineOk.j0 kq x1_1 a0_0 a0_1 l0_2 l0_3 a0_4 a0_5=some r)∧D (kq≤k)∧D (wc.heap[gb1]? =some (.cells #[V I a0_0,V I a0_1,(L A0_2 l0_2.length c0_2),(L A0_3 l0_3.length c0_3),V I a0_4,O a0_5] 34 (0,0)))∧D (Below w.heap.size w wc))
  case first=>
    have H:=HC2.out
    clear HC2
    obtain⟨t1,A1,H⟩:=bnd H
    by_cases c1:t1=true
    · subst c1
      rw[if_pos rfl]at H
      obtain⟨t2,A2,H⟩:=bnd H
      by_cases c2:t2=true
      · subst c2
        rw[if_pos rfl]at H
        by_cases c3:(l0_2.length:Int) >5
        · rw[if_pos c3]at H
          have c3b0:decide (5<(l0_2.length:Int))=true:=decide_eq_true c3
          have c3b1:decide (5<l0_2.length)=true:=decide_eq_true (by omega)
          clear c3
          (first|rw[c3b0]|(simp only[i64_w,i32_w];rw[c3b0])|skip)
          have H':=C H
          clear H
          obtain⟨hcz1_0,hcz1_1,hcz1_2,hcz1_3,hcz1_4,hcz1_5,hfz1_0,hfz1_1,hfz1_2,hfz1_3,hfz1_4,hfz1_5⟩:=d6 BK1.out
          exact spec_LineOk.W1
        · rw[if_neg c3]at H
          have c3b0:decide (5<(l0_2.length:Int))=false:=decide_eq_false c3
          have c3b1:decide (5<l0_2.length)=false:=decide_eq_false (by omega)
          clear c3
          (first|rw[c3b0]|(simp only[i64_w,i32_w];rw[c3b0])|skip)
          obtain⟨t3,A3,H⟩:=bnd H
          by_cases c4:t3=true
          · subst c4
            rw[if_pos rfl]at H
            have H':=C H
            clear H
            obtain⟨hcz1_0,hcz1_1,hcz1_2,hcz1_3,hcz1_4,hcz1_5,hfz1_0,hfz1_1,hfz1_2,hfz1_3,hfz1_4,hfz1_5⟩:=d6 BK1.out
            exact spec_LineOk.W1
          · replace c4:=Bool.eq_false_iff.mpr c4
            subst c4
            rw[if_neg Bool.false_ne_true]at H
            have H':=C H
            clear H
            obtain⟨hcz1_0,hcz1_1,hcz1_2,hcz1_3,hcz1_4,hcz1_5,hfz1_0,hfz1_1,hfz1_2,hfz1_3,hfz1_4,hfz1_5⟩:=d6 BK1.out
            go_wp2_with (first|(go_at_call 38;(with_reducible refine(spec_l01In.calls a0_0 0 40 true _ A1.out).mono ?_);rintro e w' ⟨rfl,⟨nd,rfl⟩⟩;(try exact dD))|(go_at_call 38;(with_reducible refine(spec_l01In.calls a0_1 0 a0_0 true _ A2.out).mono ?_);rintro e w' ⟨rfl,⟨nd,rfl⟩⟩;(try exact dD))|(go_at_call 38;(with_reducible refine(spec_l01In.calls a0_4 0 100000 false _ A3.out).mono ?_);rintro e w' ⟨rfl,⟨nd,rfl⟩⟩;(try exact dD)))
            repeat(go_quiet (first|(go_at_call 38;(with_reducible refine(spec_l01In.calls a0_0 0 40 true _ A1.out).mono ?_);rintro e w' ⟨rfl,⟨nd,rfl⟩⟩;(try exact dD))|(go_at_call 38;(with_reducible refine(spec_l01In.calls a0_1 0 a0_0 true _ A2.out).mono ?_);rintro e w' ⟨rfl,⟨nd,rfl⟩⟩;(try exact dD))|(go_at_call 38;(with_reducible refine(spec_l01In.calls a0_4 0 100000 false _ A3.out).mono ?_);rintro e w' ⟨rfl,⟨nd,rfl⟩⟩;(try exact dD)));try go_wp2_with (first|(go_at_call 38;(with_reducible refine(spec_l01In.calls a0_0 0 40 true _ A1.out).mono ?_);rintro e w' ⟨rfl,⟨nd,rfl⟩⟩;(try exact dD))|(go_at_call 38;(with_reducible refine(spec_l01In.calls a0_1 0 a0_0 true _ A2.out).mono ?_);rintro e w' ⟨rfl,⟨nd,rfl⟩⟩;(try exact dD))|(go_at_call 38;(with_reducible refine(spec_l01In.calls a0_4 0 100000 false _ A3.out).mono ?_);rintro e w' ⟨rfl,⟨nd,rfl⟩⟩;(try exact dD))))
            go_meet
            case rel=>exact⟨_,(true),rS,H',⟨oL⟩,⟨bK BK1.out⟩,⟨uB⟩⟩
      · replace c2:=Bool.eq_false_iff.mpr c2
        subst c2
        rw[if_neg Bool.false_ne_true]at H
        have H':=C H
        clear H
        obtain⟨hcz1_0,hcz1_1,hcz1_2,hcz1_3,hcz1_4,hcz1_5,hfz1_0,hfz1_1,hfz1_2,hfz1_3,hfz1_4,hfz1_5⟩:=d6 BK1.out
        exact spec_LineOk.W1
    · replace c1:=Bool.eq_false_iff.mpr c1
      subst c1
      rw[if_neg Bool.false_ne_true]at H
      have H':=C H
      clear H
      have h_:=d6 BK1.out;repeat(obtain⟨_,h_⟩:=h_)
      exact spec_LineOk.W1
  case rest=>
    clear HC2
    obtain⟨kq,x1_1,rfl,HA,HJ1,BK1,HB⟩:=hcut
    cases kq with
    |zero=>exact absurd HA.out (by simp[spec_LineOk.j0])
    |succ kj1=>
      have H:=HA.out
      clear HA
      simp only[spec_LineOk.j0]at H
      by_cases c1:x1_1=true
      · subst c1
        rw[if_pos rfl]at H
        obtain rfl:=Option.some.inj H
        exact spec_LineOk.W2
      · replace c1:=Bool.eq_false_iff.mpr c1
        subst c1
        rw[if_neg Bool.false_ne_true]at H
        have H':=C H
        clear H
        go_wp2
        repeat(go_quiet (fail);try go_wp2)
        go_loopg [3] kj1 (fun kq v3 w'=>∃(x2_2:Int),v3=V I x2_2∧D (spec_LineOk.l0 kq x2_2 a0_0 a0_1 l0_2 l0_3 a0_4 a0_5=some r)∧D (kq≤kj1)∧D (w'.heap[gb1]? =some (.cells #[V I a0_0,V I a0_1,(L A0_2 l0_2.length c0_2),(L A0_3 l0_3.length c0_3),V I a0_4,O a0_5] 34 (0,0)))∧D (Below w.heap.size w w'))
        case atStart=>exact⟨(0),rS,H',⟨Nat.le_refl _⟩,⟨bK BK1.out⟩,⟨uB⟩⟩
        case round=>
          clear H'
          obtain⟨x2_2,rfl,HA,HK1,BK1,HB⟩:=hrel
          cases gk with
          |zero=>exact absurd HA.out (by simp[spec_LineOk.l0])
          |succ k2=>
            have H:=HA.out
            clear HA
            simp only[spec_LineOk.l0]at H
            by_cases c2:x2_2<(l0_3.length:Int)
            · rw[if_pos c2]at H
              have c2b0:decide (x2_2<(l0_3.length:Int))=true:=decide_eq_true c2
              clear c2
              by_cases c3:0≤x2_2
              · rw[if_pos c3]at H
                have c3b0:decide (0≤x2_2)=true:=decide_eq_true c3
                clear c3
                by_cases c4:(rd l0_3 x2_2)=x2_2
                · rw[if_pos c4]at H
                  have c4b0:((rd l0_3 x2_2)==x2_2)=true:=beq_iff_eq.mpr c4
                  have c4b1:((rd l0_3 x2_2) !=x2_2)=false:=bne_eq_false_iff_eq.mpr c4
                  clear c4
                  have H':=C H
                  clear H
                  have h_:=d6 BK1.out;repeat(obtain⟨_,h_⟩:=h_)
                  have p1:0≤(x2_2:Int):=of_decide_eq_true (by first|(with_reducible assumption)|assumption)
                  have q1:x2_2<(l0_3.length:Int):=of_decide_eq_true (by first|(with_reducible assumption)|assumption)
                  obtain⟨ad1,e1,hx1_0⟩:=Kd.at_int HR1_3.out x2_2 p1 q1
                  cases e1
                  replace hx1_0:=hx HB hx1_0
                  replace p1:=eq_true p1
                  replace q1:=eq_true q1
                  go_wp2
                  repeat(go_quiet (fail);try go_wp2)
                  go_roundg k2
                  case measure=>have:=HJ1.out;have:=HK1.out;omega
                  case rel=>exact⟨(wrap64 (x2_2+1)),rS,H',⟨by have:=HJ1.out;have:=HK1.out;omega⟩,⟨bK BK1.out⟩,⟨uB⟩⟩
                · rw[if_neg c4]at H
                  have c4b0:((rd l0_3 x2_2)==x2_2)=false:=beq_eq_false_iff_ne.mpr c4
                  have c4b1:((rd l0_3 x2_2) !=x2_2)=true:=bne_iff_ne.mpr c4
                  obtain rfl:=Option.some.inj H
                  have h_:=d6 BK1.out;repeat(obtain⟨_,h_⟩:=h_)
                  have p1:0≤(x2_2:Int):=of_decide_eq_true (by first|(with_reducible assumption)|assumption)
                  have q1:x2_2<(l0_3.length:Int):=of_decide_eq_true (by first|(with_reducible assumption)|assumption)
                  obtain⟨ad1,e1,hx1_0⟩:=Kd.at_int HR1_3.out x2_2 p1 q1
                  cases e1
                  replace hx1_0:=hx HB hx1_0
                  replace p1:=eq_true p1
                  replace q1:=eq_true q1
                  exact spec_LineOk.W2
              · rw[if_neg c3]at H
                exact absurd H (by simp)
            · rw[if_neg c2]at H
              have c2b0:decide (x2_2<(l0_3.length:Int))=false:=decide_eq_false c2
              clear c2
              have H':=C H
              clear H
              obtain⟨hcz1_0,hcz1_1,hcz1_2,hcz1_3,hcz1_4,hcz1_5,hfz1_0,hfz1_1,hfz1_2,hfz1_3,hfz1_4,hfz1_5⟩:=d6 BK1.out
              go_wp2
              repeat(go_quiet (fail);try go_wp2)
              go_loopg [4] k2 (fun kq v4 w'=>∃(x3_3:Int),v4=V I x3_3∧D (spec_LineOk.l1 kq x3_3 a0_0 a0_1 l0_2 l0_3 a0_4 a0_5=some r)∧D (kq≤k2)∧D (w'.heap[gb1]? =some (.cells #[V I a0_0,V I a0_1,(L A0_2 l0_2.length c0_2),(L A0_3 l0_3.length c0_3),V I a0_4,O a0_5] 34 (0,0)))∧D (Below w.heap.size w w'))
              case atStart=>exact⟨(0),rS,H',⟨Nat.le_refl _⟩,⟨bK BK1.out⟩,⟨uB⟩⟩
              case round=>
                clear H'
                obtain⟨x3_3,rfl,HA,HK2,BK1,HB⟩:=hrel
                cases gk with
                |zero=>exact absurd HA.out (by simp[spec_LineOk.l1])
                |succ k3=>
                  have H:=HA.out
                  clear HA
                  simp only[spec_LineOk.l1]at H
                  by_cases c3:x3_3<(l0_2.length:Int)
                  · rw[if_pos c3]at H
                    have c3b0:decide (x3_3<(l0_2.length:Int))=true:=decide_eq_true c3
                    clear c3
                    by_cases c4:0≤x3_3
                    · rw[if_pos c4]at H
                      have c4b0:decide (0≤x3_3)=true:=decide_eq_true c4
                      clear c4
                      by_cases c5:(rd l0_2 x3_3)=(wrap64 ((l0_3.length:Int)+x3_3))
                      · rw[if_pos c5]at H
                        have c5b0:((rd l0_2 x3_3)==(wrap64 ((l0_3.length:Int)+x3_3)))=true:=beq_iff_eq.mpr c5
                        have c5b1:((rd l0_2 x3_3) !=(wrap64 ((l0_3.length:Int)+x3_3)))=false:=bne_eq_false_iff_eq.mpr c5
                        clear c5
                        have H':=C H
                        clear H
                        have h_:=d6 BK1.out;repeat(obtain⟨_,h_⟩:=h_)
                        have p1:0≤(x3_3:Int):=of_decide_eq_true (by first|(with_reducible assumption)|assumption)
                        have q1:x3_3<(l0_2.length:Int):=of_decide_eq_true (by first|(with_reducible assumption)|assumption)
                        obtain⟨ad1,e1,hx1_0⟩:=Kd.at_int HR1_2.out x3_3 p1 q1
                        cases e1
                        replace hx1_0:=hx HB hx1_0
                        replace p1:=eq_true p1
                        replace q1:=eq_true q1
                        go_wp2
                        repeat(go_quiet (fail);try go_wp2)
                        go_roundg k3
                        case measure=>have:=HJ1.out;have:=HK1.out;have:=HK2.out;omega
                        case rel=>exact⟨(wrap64 (x3_3+1)),rS,H',⟨by have:=HJ1.out;have:=HK1.out;have:=HK2.out;omega⟩,⟨bK BK1.out⟩,⟨uB⟩⟩
                      · rw[if_neg c5]at H
                        have c5b0:((rd l0_2 x3_3)==(wrap64 ((l0_3.length:Int)+x3_3)))=false:=beq_eq_false_iff_ne.mpr c5
                        have c5b1:((rd l0_2 x3_3) !=(wrap64 ((l0_3.length:Int)+x3_3)))=true:=bne_iff_ne.mpr c5
                        obtain rfl:=Option.some.inj H
                        have h_:=d6 BK1.out;repeat(obtain⟨_,h_⟩:=h_)
                        have p1:0≤(x3_3:Int):=of_decide_eq_true (by first|(with_reducible assumption)|assumption)
                        have q1:x3_3<(l0_2.length:Int):=of_decide_eq_true (by first|(with_reducible assumption)|assumption)
                        obtain⟨ad1,e1,hx1_0⟩:=Kd.at_int HR1_2.out x3_3 p1 q1
                        cases e1
                        replace hx1_0:=hx HB hx1_0
                        replace p1:=eq_true p1
                        replace q1:=eq_true q1
                        exact spec_LineOk.W2
                    · rw[if_neg c4]at H
                      exact absurd H (by simp)
                  · rw[if_neg c3]at H
                    have c3b0:decide (x3_3<(l0_2.length:Int))=false:=decide_eq_false c3
                    clear c3
                    obtain rfl:=Option.some.inj H
                    obtain⟨hcz2_0,hcz2_1,hcz2_2,hcz2_3,hcz2_4,hcz2_5,hfz2_0,hfz2_1,hfz2_2,hfz2_3,hfz2_4,hfz2_5⟩:=d6 BK1.out
                    exact spec_LineOk.W2
end Go.Proofs.Ytblceimapaenlaa.PFnScenarios
