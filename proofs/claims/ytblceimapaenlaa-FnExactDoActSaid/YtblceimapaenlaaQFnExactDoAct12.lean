/- Calls do what plain Lean functions say (FnExactDoAct). No condition. -/
import Derived.Test.YtblceimapaenlaaQFnExactDoAct0
import Derived.Test.YtblceimapaenlaaQFnExactDoAct1
import Derived.Test.YtblceimapaenlaaQFnExactDoAct11
namespace Go.Proofs.Ytblceimapaenlaa.PFnExactDoAct
open Go.RowKit Go.Proofs.YtblceimapaenlaaW.PrintWords Go.Proofs.YtblceimapaenlaaW.PrintLast Go.Proofs.YtblceimapaenlaaW.PrintMore
open Try
open Fix (bA bK bN bnd cl14 cl6 d14 d4 d6 dB dK eB eK eR fR gE gl gs gy hh lR nG nL nf np nt nu oL ou pu px qm rE rS si tu uB uR uZ)
open Go.Value renaming int→V,slice→L,bool→O,agg→G
open Go.IntKind renaming i64→I
open Go.Proofs.YtblceimapaenlaaW.PrintWords.Aside0 renaming mk→C
attribute [local go_sem] max2_int min2_int max_two min_two max_three min_three max_four min_four
attribute [local go_sem] Fix.isSome_setCell
set_option linter.unusedVariables false
set_option maxHeartbeats 40000000
set_option maxRecDepth 100000
set_option linter.unusedSimpArgs false
attribute [local go_sem high] eqA33
def impl_MachineOk.j0:Nat→Bool→List (S33)→Int→Int→Int→Bool→Int→Bool→Int→Int→List Int→List Int→Int→Bool→Int→Option (Bool)
 |0,_,_,_,_,_,_,_,_,_,_,_,_,_,_,_=>none
 |k+1,x18,x548000,x548001,x548002,x548003,x548004,x548005,x548006,x548007,x548008,x548009,x548010,x548011,x548012,x548013=>if x18=true then(some false) else(if(x548001==0 && (x548002==0 && (x548003==0 && (!x548004 && (x548005==0 && (!x548006))))))=true then(some (x548007==0)) else((impl_JobOk.f x548001 x548002 x548003 x548004 x548005 x548006).bind fun t551=>(if t551=true then((impl_JobSheets.f k x548001 x548002 x548003 x548004 x548005 x548006).bind fun t552=>(if t552≤40 then((impl_JobSheets.f k x548001 x548002 x548003 x548004 x548005 x548006).bind fun t553=>(some (t553==x548007))) else(some false))) else(some false))))
def impl_MachineOk.f (k:Nat) (l0_0:List (S33)) (a0_1:Int) (a0_2:Int) (a0_3:Int) (a0_4:Bool) (a0_5:Int) (a0_6:Bool) (a0_7:Int) (a0_8:Int) (l0_9:List Int) (l0_10:List Int) (a0_11:Int) (a0_12:Bool) (a0_13:Int):Option (Bool):=(impl_JobsOk.f k l0_0).bind fun t548=>(if t548=true then((impl_LineOk.f k a0_7 a0_8 l0_9 l0_10 a0_11 a0_12).bind fun t549=>(if t549=true then((impl_within.f a0_13 0 100000).bind fun t550=>(impl_MachineOk.j0 k (!t550) l0_0 a0_1 a0_2 a0_3 a0_4 a0_5 a0_6 a0_7 a0_8 l0_9 l0_10 a0_11 a0_12 a0_13)) else(impl_MachineOk.j0 k true l0_0 a0_1 a0_2 a0_3 a0_4 a0_5 a0_6 a0_7 a0_8 l0_9 l0_10 a0_11 a0_12 a0_13))) else(impl_MachineOk.j0 k true l0_0 a0_1 a0_2 a0_3 a0_4 a0_5 a0_6 a0_7 a0_8 l0_9 l0_10 a0_11 a0_12 a0_13))
def impl_MachineOk.T5:Bool×List (List Nat×List Nat):=(true,[([],[]),([0],[0]),([1],[1]),([2,2],[2]),([3],[3]),([4,3],[3,4]),([5,3,3],[3,5]),([6,3],[3,6]),([3,7],[3,7]),([8,6],[8]),([9],[9]),([10,9],[9,10]),([11,9,9],[9,11]),([9],[9]),([13,9],[9,13]),([14,9],[9,14]),([12,15,9],[9,12,15]),([9,16],[9,16]),([17,12,0,1,2,3,4,5,6,7,8,9,10,11,12,13,14,15,16,17],[17])])
def impl_MachineOk.B5:List Nat:= [0,1,3,7,15,31,63,127,255,511,1023,2047,4095,1023,9215,25599,65535,131071,262143]
theorem impl_MachineOk.tab5:rtab .any (opsOf Try.f12 5)=impl_MachineOk.T5:=by kernel_rfl
theorem impl_MachineOk.bits5:waitsOk impl_MachineOk.T5.2 impl_MachineOk.B5=true:=by kernel_rfl
theorem impl_MachineOk.W1 {p:Prop} (h:p:=by
 go_wp2
 go_ret
 exact⟨rE,uB⟩):p:=h
theorem impl_MachineOk.calls (k:Nat) (A0_0:Option Addr) (c0_0:Nat) (l0_0:List (S33)) (a0_1:Int) (a0_2:Int) (a0_3:Int) (a0_4:Bool) (a0_5:Int) (a0_6:Bool) (a0_7:Int) (a0_8:Int) (A0_9:Option Addr) (c0_9:Nat) (l0_9:List Int) (A0_10:Option Addr) (c0_10:Nat) (l0_10:List Int) (a0_11:Int) (a0_12:Bool) (a0_13:Int) (r:Bool) (w:World) (hr0_0:Kd.C k33 w A0_0 l0_0.length l0_0) (hc0_0:l0_0.length≤c0_0) (hr0_9:Kd.C (Kd.int .i64) w A0_9 l0_9.length l0_9) (hc0_9:l0_9.length≤c0_9) (hr0_10:Kd.C (Kd.int .i64) w A0_10 l0_10.length l0_10) (hc0_10:l0_10.length≤c0_10) (h:impl_MachineOk.f k l0_0 a0_1 a0_2 a0_3 a0_4 a0_5 a0_6 a0_7 a0_8 l0_9 l0_10 a0_11 a0_12 a0_13=some r):
 Calls prog 12 #[G #[L A0_0 l0_0.length c0_0,V I a0_1,V I a0_2,V I a0_3,O a0_4,V I a0_5,O a0_6,V I a0_7,V I a0_8,L A0_9 l0_9.length c0_9,L A0_10 l0_10.length c0_10,V I a0_11,O a0_12,V I a0_13]] w fun e w'=>e=.returned (O r)∧Below w.heap.size w w':=by
 have hu1:=underlying36
 have hu2:=underlying34
 have hu3:=underlying33
 have HR1_0:=C hr0_0
 have HC1_0:=C hc0_0
 (try clear hr0_0);(try clear hc0_0)
 have HR1_9:=C hr0_9
 have HC1_9:=C hc0_9
 (try clear hr0_9);(try clear hc0_9)
 have HR1_10:=C hr0_10
 have HC1_10:=C hc0_10
 (try clear hr0_10);(try clear hc0_10)
 have HB:=C (Below.refl w.heap.size w)
 have H:=h
 unfold impl_MachineOk.f at H
 clear h
 have HC2:=C H
 clear H
 go_enter func12,ntmps12
 go_upto_region 1 with(first|((with_reducible refine gate_dst (N:=1) rfl ?_);refine Fix.be 1 #[L A0_0 l0_0.length c0_0,V I a0_1,V I a0_2,V I a0_3,O a0_4,V I a0_5,O a0_6,V I a0_7,V I a0_8,L A0_9 l0_9.length c0_9,L A0_10 l0_10.length c0_10,V I a0_11,O a0_12,V I a0_13] 36 ?_;intro gb1 hg w1 BK1 hb;have GW1:=gE (w:=w) hg;replace HB:=eB hb;clear hb hg))
 (try simp only[Act.put,List.setIfInBounds_toArray,List.set_cons_zero,List.set_cons_succ])
 go_cut [18] (fun v18 wc=>∃(kq:Nat) (x1_1:Bool),v18=O x1_1∧Aside0 (impl_MachineOk.j0 kq x1_1 l0_0 a0_1 a0_2 a0_3 a0_4 a0_5 a0_6 a0_7 a0_8 l0_9 l0_10 a0_11 a0_12 a0_13=some r)∧Aside0 (kq≤k)∧Aside0 (wc.heap[gb1]? =some (.cells #[(L A0_0 l0_0.length c0_0),V I a0_1,V I a0_2,V I a0_3,O a0_4,V I a0_5,O a0_6,V I a0_7,V I a0_8,(L A0_9 l0_9.length c0_9),(L A0_10 l0_10.length c0_10),V I a0_11,O a0_12,V I a0_13] 36 (0,0)))∧Aside0 (Below w.heap.size w wc))
 case first=>
  have H:=HC2.out
  clear HC2
  obtain⟨t1,A1,H⟩:=bnd H
  by_cases c1:t1=true
  rotate_left
  ·obtain rfl:=nt c1
   replace H:=nf H
   have H':=C H
   clear H
   obtain⟨_,_,_,_,_,_,_,_,_,_,_,_,_,_,_,_,_,_,_,_,_,_,_,_,_,_,_,_⟩:=d14 BK1.out
   go_wp2_with (first|((with_reducible refine gate_callee (f:=44) rfl ?_);refine gl 44 (some 5) func44 #[L A0_0 l0_0.length c0_0] ?_;(with_reducible refine(impl_JobsOk.calls k _ _ l0_0 false _ ?side1 HC1_0.out A1.out).mono ?_);(case side1=>exact uZ HR1_0);rintro e w2 ⟨rfl,hb⟩;refine⟨_,rfl,?_⟩;replace BK1:=eK BK1 hb;replace HB:=eB hb;clear hb))
   go_meet
   case rel=>exact⟨_,(true),rS,H',⟨oL⟩,⟨bK BK1.out⟩,⟨uB⟩⟩
  subst c1
  rw[if_pos rfl]at H
  obtain⟨t2,A2,H⟩:=bnd H
  by_cases c2:t2=true
  rotate_left
  ·obtain rfl:=nt c2
   replace H:=nf H
   have H':=C H
   clear H
   obtain⟨_,_,_,_,_,_,_,_,_,_,_,_,_,_,_,_,_,_,_,_,_,_,_,_,_,_,_,_⟩:=d14 BK1.out
   go_wp2_with (first|((with_reducible refine gate_callee (f:=44) rfl ?_);refine gl 44 (some 5) func44 #[L A0_0 l0_0.length c0_0] ?_;(with_reducible refine(impl_JobsOk.calls k _ _ l0_0 true _ ?side1 HC1_0.out A1.out).mono ?_);(case side1=>exact uZ HR1_0);rintro e w2 ⟨rfl,hb⟩;refine⟨_,rfl,?_⟩;replace BK1:=eK BK1 hb;replace HB:=eB hb;clear hb;obtain⟨_,_,_,_,_,_,_,_,_,_,_,_,_,_,_,_,_,_,_,_,_,_,_,_,_,_,_,_⟩:=d14 BK1.out)|(go_at_call 45;(with_reducible refine(impl_LineOk.calls k a0_7 a0_8 (fun k_=>k_<w.heap.size) _ _ l0_9 (fun k_=>k_<w.heap.size) _ _ l0_10 a0_11 a0_12 false _ ?side1 ?side2 A2.out).mono ?_);(case side1=>exact Kd.V_mk HC1_9.out (Kd.F_below (Kd.C_F (Kd.heap_int .i64) HR1_9.out) uB));(case side2=>exact Kd.V_mk HC1_10.out (Kd.F_below (Kd.C_F (Kd.heap_int .i64) HR1_10.out) uB));rintro e w3 ⟨rfl,hb⟩;replace BK1:=eK BK1 hb;replace HB:=eB hb;clear hb))
   go_meet
   case rel=>exact⟨_,(true),rS,H',⟨oL⟩,⟨bK BK1.out⟩,⟨uB⟩⟩
  subst c2
  rw[if_pos rfl]at H
  obtain⟨t3,A3,H⟩:=bnd H
  have H':=C H
  clear H
  have h_:=d14 BK1.out;(repeat(obtain⟨_,h_⟩:=h_))
  go_wp2_with (first|((with_reducible refine gate_callee (f:=44) rfl ?_);refine gl 44 (some 5) func44 #[L A0_0 l0_0.length c0_0] ?_;(with_reducible refine(impl_JobsOk.calls k _ _ l0_0 true _ ?side1 HC1_0.out A1.out).mono ?_);(case side1=>exact uZ HR1_0);rintro e w2 ⟨rfl,hb⟩;refine⟨_,rfl,?_⟩;replace BK1:=eK BK1 hb;replace HB:=eB hb;clear hb;obtain⟨_,_,_,_,_,_,_,_,_,_,_,_,_,_,_,_,_,_,_,_,_,_,_,_,_,_,_,_⟩:=d14 BK1.out)|(go_at_call 45;(with_reducible refine(impl_LineOk.calls k a0_7 a0_8 (fun k_=>k_<w.heap.size) _ _ l0_9 (fun k_=>k_<w.heap.size) _ _ l0_10 a0_11 a0_12 true _ ?side1 ?side2 A2.out).mono ?_);(case side1=>exact Kd.V_mk HC1_9.out (Kd.F_below (Kd.C_F (Kd.heap_int .i64) HR1_9.out) uB));(case side2=>exact Kd.V_mk HC1_10.out (Kd.F_below (Kd.C_F (Kd.heap_int .i64) HR1_10.out) uB));rintro e w3 ⟨rfl,hb⟩;replace BK1:=eK BK1 hb;replace HB:=eB hb;clear hb;have h_:=d14 BK1.out;(repeat(obtain⟨_,h_⟩:=h_)))|(go_at_call 46;(with_reducible refine(impl_within.calls a0_13 0 100000 t3 _ A3.out).mono ?_);rintro e w' ⟨rfl,⟨nd,rfl⟩⟩))
  go_meet
  case rel=>exact⟨_,(!t3),rS,H',⟨oL⟩,⟨bK BK1.out⟩,⟨uB⟩⟩
 case rest=>
  clear HC2
  obtain⟨kq,x1_1,rfl,HA,HJ1,BK1,HB⟩:=hcut
  cases kq with
  |zero=>exact absurd HA.out (by simp[impl_MachineOk.j0])
  |succ kj1=>
   have H:=HA.out
   clear HA
   simp only[impl_MachineOk.j0]at H
   by_cases c1:x1_1=true
   ·subst c1
    rw[if_pos rfl]at H
    obtain rfl:=si H
    exact impl_MachineOk.W1
   obtain rfl:=nt c1
   replace H:=nf H
   by_cases c2:(a0_1==0 && (a0_2==0 && (a0_3==0 && (!a0_4 && (a0_5==0 && (!a0_6))))))=true
   ·rw[if_pos c2]at H
    have c2b0:(a0_1==0 && (a0_2==0 && (a0_3==0 && (!a0_4 && (a0_5==0 && (!a0_6))))))=true:=c2
    (try(have c2b1:decide (a0_1=0 && (a0_2==0 && (a0_3==0 && (!a0_4 && (a0_5==0 && (!a0_6))))))=true:=by simpa using c2))
    (try(have c2b2:(a0_1==0 && (a0_2==0 && (a0_3==0 && (!a0_4 && (a0_5==0 && (!a0_6))))))=true:=by simpa using c2))
    clear c2
    obtain rfl:=si H
    have h_:=d14 BK1.out;(repeat(obtain⟨_,h_⟩:=h_))
    exact impl_MachineOk.W1
   rw[if_neg c2]at H
   have c2b0:(a0_1==0 && (a0_2==0 && (a0_3==0 && (!a0_4 && (a0_5==0 && (!a0_6))))))=false:=by simpa using c2
   (try(have c2b1:decide (a0_1=0 && (a0_2==0 && (a0_3==0 && (!a0_4 && (a0_5==0 && (!a0_6))))))=false:=by simpa using c2))
   (try(have c2b2:(a0_1==0 && (a0_2==0 && (a0_3==0 && (!a0_4 && (a0_5==0 && (!a0_6))))))=false:=by simpa using c2))
   (try(have c2b3:¬(a0_1=0 && (a0_2==0 && (a0_3==0 && (!a0_4 && (a0_5==0 && (!a0_6)))))):=by simpa using c2))
   clear c2
   obtain⟨t1,A1,H⟩:=bnd H
   by_cases c3:t1=true
   rotate_left
   ·obtain rfl:=nt c3
    replace H:=nf H
    obtain rfl:=si H
    have h_:=d14 BK1.out;(repeat(obtain⟨_,h_⟩:=h_))
    try go_wp2
    replace BK1:=dK BK1
    replace HB:=dB HB
    refine start_ (n:=19) (S:=fun w'=>cl14 w' gb1 (L A0_0 l0_0.length c0_0) (V I a0_1) (V I a0_2) (V I a0_3) (O a0_4) (V I a0_5) (O a0_6) (V I a0_7) (V I a0_8) (L A0_9 l0_9.length c0_9) (L A0_10 l0_10.length c0_10) (V I a0_11) (O a0_12) (V I a0_13)) (ds:= []) #[false,false,false,false,false,false,false,false,false,false,false,false,false,false,false,false,false,false,false] (by kernel_rfl) rfl rfl hh (fun hHeld=> ?_);refine with_tabW impl_MachineOk.tab5 impl_MachineOk.bits5 (fun HT_ HW_=> ?_)
    generalize wc.drew=w2 at BK1 HB hHeld ⊢
    refine pu 0 (some 27) ?_
    refine tu 1 (some 28) hHeld ?_
    refine ou 2 (some 29) (fun K hK=> ?_)
    refine gs func47 #[G #[V I a0_1,V I a0_2,V I a0_3,O a0_4,V I a0_5,O a0_6]] ?_
    with_reducible refine(impl_JobOk.calls a0_1 a0_2 a0_3 a0_4 a0_5 a0_6 false _ A1.out).mono ?_
    rintro e w3 ⟨rfl,hb⟩
    refine⟨_,rfl,?_⟩
    replace BK1:=eK BK1 hb
    replace HB:=eB hb
    (try clear hb)
    refine hK.out _ _ hh (fun hHeld=> ?_)
    clear hK K
    refine nu (N:=(some 29)) ?_
    refine pu 3 (some 30) ?_
    refine px 4 (some 31) ?_
    refine px 5 (some 32) ?_
    refine px 6 (some 33) ?_
    refine px 7 (some 34) ?_
    refine pu 8 (some 35) ?_
    refine pu 9 (some 36) ?_
    refine px 10 (some 37) ?_
    refine px 11 (some 38) ?_
    refine px 12 (some 39) ?_
    refine px 13 (some 40) ?_
    refine px 14 (some 41) ?_
    refine px 15 (some 42) ?_
    refine px 16 (some 43) ?_
    refine pu 17 (some 44) ?_
    refine pu 18 (some 2) ?_
    refine done_ (done_of HT_.out (by kernel_rfl)) ?_
    try go_wp2
    go_ret
    exact⟨rE,uB⟩
   subst c3
   rw[if_pos rfl]at H
   obtain⟨t2,A2,H⟩:=bnd H
   by_cases c4:t2≤40
   rotate_left
   ·rw[if_neg c4]at H
    replace c4:=decide_eq_false c4
    obtain rfl:=si H
    have h_:=d14 BK1.out;(repeat(obtain⟨_,h_⟩:=h_))
    try go_wp2
    replace BK1:=dK BK1
    replace HB:=dB HB
    refine start_ (n:=19) (S:=fun w'=>cl14 w' gb1 (L A0_0 l0_0.length c0_0) (V I a0_1) (V I a0_2) (V I a0_3) (O a0_4) (V I a0_5) (O a0_6) (V I a0_7) (V I a0_8) (L A0_9 l0_9.length c0_9) (L A0_10 l0_10.length c0_10) (V I a0_11) (O a0_12) (V I a0_13)) (ds:= []) #[false,false,false,false,false,false,false,false,false,false,false,false,false,false,false,false,false,false,false] (by kernel_rfl) rfl rfl hh (fun hHeld=> ?_);refine with_tabW impl_MachineOk.tab5 impl_MachineOk.bits5 (fun HT_ HW_=> ?_)
    generalize wc.drew=w2 at BK1 HB hHeld ⊢
    refine pu 0 (some 27) ?_
    refine tu 1 (some 28) hHeld ?_
    refine ou 2 (some 29) (fun K hK=> ?_)
    refine gs func47 #[G #[V I a0_1,V I a0_2,V I a0_3,O a0_4,V I a0_5,O a0_6]] ?_
    with_reducible refine(impl_JobOk.calls a0_1 a0_2 a0_3 a0_4 a0_5 a0_6 true _ A1.out).mono ?_
    rintro e w3 ⟨rfl,hb⟩
    refine⟨_,rfl,?_⟩
    replace BK1:=eK BK1 hb
    replace HB:=eB hb
    (try clear hb)
    refine hK.out _ _ hh (fun hHeld=> ?_)
    clear hK K
    refine nu (N:=(some 29)) ?_
    refine pu 3 (some 30) ?_
    refine pu 4 (some 31) ?_
    refine tu 5 (some 32) hHeld ?_
    refine ou 6 (some 33) (fun K hK=> ?_)
    refine gs func48 #[G #[V I a0_1,V I a0_2,V I a0_3,O a0_4,V I a0_5,O a0_6]] ?_
    with_reducible refine(impl_JobSheets.calls kj1 a0_1 a0_2 a0_3 a0_4 a0_5 a0_6 t2 _ A2.out).mono ?_
    rintro e w4 ⟨rfl,hb⟩
    refine⟨_,rfl,?_⟩
    replace BK1:=eK BK1 hb
    replace HB:=eB hb
    (try clear hb)
    refine hK.out _ _ hh (fun hHeld=> ?_)
    clear hK K
    refine nu (N:=(some 33)) ?_
    refine pu 7 (some 34) ?_
    refine pu 8 (some 35) ?_
    refine pu 9 (some 36) ?_
    refine px 10 (some 37) ?_
    refine px 11 (some 38) ?_
    refine px 12 (some 39) ?_
    refine px 13 (some 40) ?_
    refine px 14 (some 41) ?_
    refine px 15 (some 42) ?_
    refine px 16 (some 43) ?_
    refine pu 17 (some 44) ?_
    refine pu 18 (some 2) ?_
    refine done_ (done_of HT_.out (by kernel_rfl)) ?_
    try go_wp2
    go_ret
    exact⟨rE,uB⟩
   rw[if_pos c4]at H
   replace c4:=decide_eq_true c4
   obtain⟨t3,A3,H⟩:=bnd H
   obtain rfl:=si H
   have h_:=d14 BK1.out;(repeat(obtain⟨_,h_⟩:=h_))
   try go_wp2
   replace BK1:=dK BK1
   replace HB:=dB HB
   refine start_ (n:=19) (S:=fun w'=>cl14 w' gb1 (L A0_0 l0_0.length c0_0) (V I a0_1) (V I a0_2) (V I a0_3) (O a0_4) (V I a0_5) (O a0_6) (V I a0_7) (V I a0_8) (L A0_9 l0_9.length c0_9) (L A0_10 l0_10.length c0_10) (V I a0_11) (O a0_12) (V I a0_13)) (ds:= []) #[false,false,false,false,false,false,false,false,false,false,false,false,false,false,false,false,false,false,false] (by kernel_rfl) rfl rfl hh (fun hHeld=> ?_);refine with_tabW impl_MachineOk.tab5 impl_MachineOk.bits5 (fun HT_ HW_=> ?_)
   generalize wc.drew=w2 at BK1 HB hHeld ⊢
   refine pu 0 (some 27) ?_
   refine tu 1 (some 28) hHeld ?_
   refine ou 2 (some 29) (fun K hK=> ?_)
   refine gs func47 #[G #[V I a0_1,V I a0_2,V I a0_3,O a0_4,V I a0_5,O a0_6]] ?_
   with_reducible refine(impl_JobOk.calls a0_1 a0_2 a0_3 a0_4 a0_5 a0_6 true _ A1.out).mono ?_
   rintro e w3 ⟨rfl,hb⟩
   refine⟨_,rfl,?_⟩
   replace BK1:=eK BK1 hb
   replace HB:=eB hb
   (try clear hb)
   refine hK.out _ _ hh (fun hHeld=> ?_)
   clear hK K
   refine nu (N:=(some 29)) ?_
   refine pu 3 (some 30) ?_
   refine pu 4 (some 31) ?_
   refine tu 5 (some 32) hHeld ?_
   refine ou 6 (some 33) (fun K hK=> ?_)
   refine gs func48 #[G #[V I a0_1,V I a0_2,V I a0_3,O a0_4,V I a0_5,O a0_6]] ?_
   with_reducible refine(impl_JobSheets.calls kj1 a0_1 a0_2 a0_3 a0_4 a0_5 a0_6 t2 _ A2.out).mono ?_
   rintro e w4 ⟨rfl,hb⟩
   refine⟨_,rfl,?_⟩
   replace BK1:=eK BK1 hb
   replace HB:=eB hb
   (try clear hb)
   refine hK.out _ _ hh (fun hHeld=> ?_)
   clear hK K
   refine nu (N:=(some 33)) ?_
   refine pu 7 (some 34) ?_
   refine pu 8 (some 35) ?_
   refine pu 9 (some 36) ?_
   refine pu 10 (some 37) ?_
   refine pu 13 (some 40) ?_
   refine pu 14 (some 41) ?_
   refine tu 11 (some 38) hHeld ?_
   refine tu 15 (some 42) hHeld ?_
   refine ou 12 (some 39) (fun K hK=> ?_)
   refine gs func48 #[G #[V I a0_1,V I a0_2,V I a0_3,O a0_4,V I a0_5,O a0_6]] ?_
   with_reducible refine(impl_JobSheets.calls kj1 a0_1 a0_2 a0_3 a0_4 a0_5 a0_6 t3 _ A3.out).mono ?_
   rintro e w5 ⟨rfl,hb⟩
   refine⟨_,rfl,?_⟩
   replace BK1:=eK BK1 hb
   replace HB:=eB hb
   (try clear hb)
   refine hK.out _ _ hh (fun hHeld=> ?_)
   clear hK K
   refine nu (N:=(some 39)) ?_
   refine pu 16 (some 43) ?_
   refine pu 17 (some 44) ?_
   refine pu 18 (some 2) ?_
   refine done_ (done_of HT_.out (by kernel_rfl)) ?_
   try go_wp2
   go_ret
   exact⟨rE,uB⟩
def impl_Job_89.f (l0:List (S33)):Option ((List (S33))):=(some (([]:List (S33)):List (S33))).bind fun y554=>(if y554.length+l0.length<2932031007402 then(some (y554++l0)) else(none))
theorem impl_Job_89.calls (A0:Option Addr) (c0:Nat) (l0:List (S33)) (r:List (S33)) (w:World) (hr0:Kd.C k33 w A0 l0.length l0) (hc0:l0.length≤c0) (h:impl_Job_89.f l0=some r):
 Calls prog 89 #[L A0 l0.length c0] w fun e w'=>∃v0_:Value,e=.returned (v0_)∧Kd.R k33 33 w' w.heap.size (fun _=>True) v0_ r∧Below w.heap.size w w':=by
 rcases A0 with _|ad1
 ·have hl1:l0= []:=Ext.nil_of_C hr0
  subst hl1
  have hr_:r= []:=by have h1:=h;simp[impl_Job_89.f]at h1;exact h1
  subst hr_
  have hq:=fun (W:World)=>Go.run_eql_slice_nil W 32 33 none 0 c0 underlying32
  simp only[Option.isNone_none]at hq
  go_enter func89,ntmps89
  go_wp2
  go_ret
  exact⟨_,rfl,Kd.R_nil _ _ _ _ _,by repeat(first|exact Below.refl _ _|apply bA|apply bN)⟩
 have hq:=fun (W:World)=>Go.run_eql_slice_nil W 32 33 (some ad1) l0.length c0 underlying32
 simp only[Option.isNone_some]at hq
 have HR1:=C hr0
 have HC1:=C hc0
 (try clear hr0);(try clear hc0)
 have HB:=C (Below.refl w.heap.size w)
 have H:=h
 unfold impl_Job_89.f at H
 clear h
 obtain⟨y1,hy1⟩:∃y_:List (S33),y_=(([]:List (S33))):=⟨_,rfl⟩
 replace H:(if y1.length+l0.length<2932031007402 then(some (y1++l0)) else(none))=some r:=gy hy1 H
 have Ny1:=C hy1
 clear hy1
 obtain⟨c1,H⟩:=np H
 have LMc1:=C c1
 clear c1
 obtain⟨y2,hy2⟩:∃y_:List (S33),y_=(y1++l0):=⟨_,rfl⟩
 replace H:(some y2)=some r:=gy hy2 H
 have Ny2:=C hy2
 clear hy2
 obtain rfl:=si H
 go_enter func89,ntmps89
 go_wp2_with (first|((with_reducible refine gate_dst (N:=5) rfl ?_);refine Kd.R_lit k33 _ 33 ?hg (N:=5) ?hd (xs:=([]:List (S33))) (inner:= []) (ok:=fun _=>True) (okp:=fun _=>True) ?hr ?hp (fun _ hk=>hk) trivial (Below.refl _ _) (Nat.le_refl _) (by simp) ?_;(case hd=>rfl);(case hg=>rfl);(case hr=>exact Fix.hr);(case hp=>exact(Reps.none _ _));intro v1 w1 ho1 hb hg_ hnew_;clear hg_ hnew_;(first|rw[←Ny1.out]at ho1|(simp only[Int.reduceToNat]at ho1;rw[←Ny1.out]at ho1));have HO1:=lR ho1;replace HB:=eB hb;clear hb ho1)|((with_reducible refine gate_builtin (b:=.append) (xs:= #[.tmp 5,.tmp 6]) rfl ?_);at_builtin;refine Kd.R_append_rows k33 (w0:=w) w.heap.size rfl (.tmp 5) (.tmp 6) 32 33 (G #[(V I 0),(V I 0),(V I 0),(O false),(V I 0),(O false)]) 48 rfl underlying32 info33 rfl (by decide) (by omega) v1 y1 l0 _ _ _ (fun _=>True) (fun _=>False) rfl rfl ?aO ?aR (fun _ _ h=>h) (fun _ h=>h.elim) ?aF ?aB ?aS ?aL ?_;(case aR=>exact uZ HR1);(case aB=>exact uB);(case aF=>exact(fun _ _=>trivial));(case aO=>exact(uR HO1.out));(case aS=>exact(below_size uB));(case aL=>have:=LMc1.out;omega);intro v2 w2 ho hb hg hat;rw[←Ny2.out]at ho;have HO2:=C (ho);replace HB:=C (hb);clear HO1;clear ho hb hg hat))
 go_ret
 exact⟨_,rE,fR HO2.out,uB⟩
def slices_Clone_int_int.f (l0:List Int):Option (List Int):=(some (([]:List Int):List Int)).bind fun y560=>(if y560.length+l0.length<17592186044416 then(some (y560++l0)) else(none))
theorem slices_Clone_int_int.calls (A0:Option Addr) (c0:Nat) (l0:List Int) (r:List Int) (w:World) (hr0:Kd.C (Kd.int .i64) w A0 l0.length l0) (hc0:l0.length≤c0) (h:slices_Clone_int_int.f l0=some r):
 Calls prog 105 #[L A0 l0.length c0] w fun e w'=>∃v0_:Value,e=.returned (v0_)∧Kd.R (Kd.int .i64) 3 w' w.heap.size (fun _=>True) v0_ r∧Below w.heap.size w w':=by
 rcases A0 with _|ad1
 ·have hl1:l0= []:=Ext.nil_of_C hr0
  subst hl1
  have hr_:r= []:=by have h1:=h;simp[slices_Clone_int_int.f]at h1;exact h1
  subst hr_
  have hq:=fun (W:World)=>Go.run_eql_slice_nil W 25 3 none 0 c0 underlying25
  simp only[Option.isNone_none]at hq
  go_enter func105,ntmps105
  go_wp2
  go_ret
  exact⟨_,rfl,Kd.R_nil _ _ _ _ _,by repeat(first|exact Below.refl _ _|apply bA|apply bN)⟩
 have hq:=fun (W:World)=>Go.run_eql_slice_nil W 25 3 (some ad1) l0.length c0 underlying25
 simp only[Option.isNone_some]at hq
 have HR1:=C hr0
 have HC1:=C hc0
 (try clear hr0);(try clear hc0)
 have HB:=C (Below.refl w.heap.size w)
 have H:=h
 unfold slices_Clone_int_int.f at H
 clear h
 obtain⟨y1,hy1⟩:∃y_:List Int,y_=(([]:List Int)):=⟨_,rfl⟩
 replace H:(if y1.length+l0.length<17592186044416 then(some (y1++l0)) else(none))=some r:=gy hy1 H
 have Ny1:=C hy1
 clear hy1
 obtain⟨c1,H⟩:=np H
 have LMc1:=C c1
 clear c1
 obtain⟨y2,hy2⟩:∃y_:List Int,y_=(y1++l0):=⟨_,rfl⟩
 replace H:(some y2)=some r:=gy hy2 H
 have Ny2:=C hy2
 clear hy2
 obtain rfl:=si H
 go_enter func105,ntmps105
 go_wp2_with (first|((with_reducible refine gate_dst (N:=5) rfl ?_);refine Kd.R_lit (Kd.int .i64) _ 3 ?hg (N:=5) ?hd (xs:=([]:List Int)) (inner:= []) (ok:=fun _=>True) (okp:=fun _=>True) ?hr ?hp (fun _ hk=>hk) trivial (Below.refl _ _) (Nat.le_refl _) (by simp) ?_;(case hd=>rfl);(case hg=>rfl);(case hr=>exact Fix.hr);(case hp=>exact(Reps.none _ _));intro v1 w1 ho1 hb hg_ hnew_;clear hg_ hnew_;(first|rw[←Ny1.out]at ho1|(simp only[Int.reduceToNat]at ho1;rw[←Ny1.out]at ho1));have HO1:=lR ho1;replace HB:=eB hb;clear hb ho1)|((with_reducible refine gate_builtin (b:=.append) (xs:= #[.tmp 5,.tmp 6]) rfl ?_);at_builtin;refine Kd.R_append_rows (Kd.int .i64) (w0:=w) w.heap.size rfl (.tmp 5) (.tmp 6) 25 3 (V I 0) 8 rfl underlying25 info3 rfl (by decide) (by omega) v1 y1 l0 _ _ _ (fun _=>True) (fun _=>False) rfl rfl ?aO ?aR (fun _ _ h=>h) (fun _ h=>h.elim) ?aF ?aB ?aS ?aL ?_;(case aR=>exact uZ HR1);(case aB=>exact uB);(case aF=>exact(fun _ _=>trivial));(case aO=>exact(uR HO1.out));(case aS=>exact(below_size uB));(case aL=>have:=LMc1.out;omega);intro v2 w2 ho hb hg hat;rw[←Ny2.out]at ho;have HO2:=C (ho);replace HB:=C (hb);clear HO1;clear ho hb hg hat))
 go_ret
 exact⟨_,rE,fR HO2.out,uB⟩
def impl_copyLine.f (a0_0:Int) (a0_1:Int) (l0_2:List Int) (l0_3:List Int) (a0_4:Int) (a0_5:Bool):Option (Int×Int×List Int×List Int×Int×Bool):=(slices_Clone_int_int.f l0_2).bind fun t568=>((slices_Clone_int_int.f l0_3).bind fun t571=>(some (a0_0,a0_1,t568,t571,a0_4,a0_5)))
def impl_copyLine.T1:Bool×List (List Nat×List Nat):=(true,[([],[]),([0],[0]),([1],[1]),([],[]),([3],[3]),([4,2],[4]),([0,1,2,3,4],[]),([6,2,5,0,1,2,3,4],[2,6]),([0,1,2,3,4,5,6,7],[]),([8,5,7,0,1,2,3,4,5,6,7],[5,8])])
def impl_copyLine.B1:List Nat:= [0,1,3,0,8,31,31,127,255,511]
theorem impl_copyLine.tab1:rtab .any (opsOf Try.f90 1)=impl_copyLine.T1:=by kernel_rfl
theorem impl_copyLine.bits1:waitsOk impl_copyLine.T1.2 impl_copyLine.B1=true:=by kernel_rfl
theorem impl_copyLine.calls (a0_0:Int) (a0_1:Int) (A0_2:Option Addr) (c0_2:Nat) (l0_2:List Int) (A0_3:Option Addr) (c0_3:Nat) (l0_3:List Int) (a0_4:Int) (a0_5:Bool) (r1:Int) (r2:Int) (r3:List Int) (r4:List Int) (r5:Int) (r6:Bool) (w:World) (hr0_2:Kd.C (Kd.int .i64) w A0_2 l0_2.length l0_2) (hc0_2:l0_2.length≤c0_2) (hr0_3:Kd.C (Kd.int .i64) w A0_3 l0_3.length l0_3) (hc0_3:l0_3.length≤c0_3) (h:impl_copyLine.f a0_0 a0_1 l0_2 l0_3 a0_4 a0_5=some (r1,r2,r3,r4,r5,r6)):
 Calls prog 90 #[G #[V I a0_0,V I a0_1,L A0_2 l0_2.length c0_2,L A0_3 l0_3.length c0_3,V I a0_4,O a0_5]] w fun e w'=>∃v2_ v3_:Value,e=.returned (G #[V I r1,V I r2,v2_,v3_,V I r5,O r6])∧Kd.R (Kd.int .i64) 3 w' w.heap.size (fun k_=>qm k_ v3_) v2_ r3∧Kd.R (Kd.int .i64) 3 w' w.heap.size (fun k_=>qm k_ v2_) v3_ r4∧Below w.heap.size w w':=by
 have hu1:=underlying34
 have HR1_2:=C hr0_2
 have HC1_2:=C hc0_2
 (try clear hr0_2);(try clear hc0_2)
 have HR1_3:=C hr0_3
 have HC1_3:=C hc0_3
 (try clear hr0_3);(try clear hc0_3)
 have HB:=C (Below.refl w.heap.size w)
 have H:=h
 unfold impl_copyLine.f at H
 clear h
 obtain⟨t1,A1,H⟩:=bnd H
 obtain⟨t2,A2,H⟩:=bnd H
 simp only[Option.some.injEq,Prod.mk.injEq]at H
 obtain⟨rfl,rfl,rfl,rfl,rfl,rfl⟩:=H
 go_enter func90,ntmps90
 try go_wp2_with (first|((with_reducible refine gate_dst (N:=1) rfl ?_);refine Fix.be 1 #[V I a0_0,V I a0_1,L A0_2 l0_2.length c0_2,L A0_3 l0_3.length c0_3,V I a0_4,O a0_5] 34 ?_;intro gb1 hg w2 BK1 hb;have GW1:=gE (w:=w) hg;replace HB:=eB hb;clear hb hg)|((with_reducible refine gate_dst (N:=2) rfl ?_);refine Fix.be 2 #[V I 0,V I 0,L none 0 0,L none 0 0,V I 0,O false] 34 ?_;intro gb2 hg w3 BK2 hb;have GW2:=gE (w:=w) hg;have n0:=nL hg BK1;have n1:=nG hg BK1;replace BK1:=eK BK1 hb;replace HB:=eB hb;clear hb hg))
 replace BK1:=dK BK1
 replace BK2:=dK BK2
 replace HB:=dB HB
 refine start_ (n:=10) (S:=fun w'=>cl6 w' gb1 (V I a0_0) (V I a0_1) (L A0_2 l0_2.length c0_2) (L A0_3 l0_3.length c0_3) (V I a0_4) (O a0_5)) (ds:= [7,9]) #[false,false,false,false,false,false,false,false,false,false] (by kernel_rfl) rfl rfl hh (fun hHeld=> ?_);refine with_tabW impl_copyLine.tab1 impl_copyLine.bits1 (fun HT_ HW_=> ?_)
 generalize w3.drew=w4 at BK1 BK2 HB hHeld ⊢
 refine pu 0 (some 3) ?_
 refine pu 3 (some 6) ?_
 refine tu 1 (some 4) hHeld ?_
 refine tu 4 (some 7) hHeld ?_
 refine ou 2 (some 5) (fun K hK=> ?_)
 refine gs func105 #[L A0_2 l0_2.length c0_2] ?_
 with_reducible refine(slices_Clone_int_int.calls _ _ l0_2 t1 _ ?side1 HC1_2.out A1.out).mono ?_
 (case side1=>exact uZ HR1_2)
 rintro e w5 ⟨v1,rfl,ho1,hb⟩
 refine⟨_,rfl,?_⟩
 have HO1:=lR ho1
 replace BK1:=eK BK1 hb
 replace BK2:=eK BK2 hb
 replace HB:=eB hb
 (try clear hb)
 refine hK.out _ _ hh (fun hHeld=> ?_)
 clear hK K
 refine nu (N:=(some 5)) ?_
 refine pu 6 (some 9) ?_
 refine ou 5 (some 8) (fun K hK=> ?_)
 refine gs func105 #[L A0_3 l0_3.length c0_3] ?_
 with_reducible refine(slices_Clone_int_int.calls _ _ l0_3 t2 _ ?side1 HC1_3.out A2.out).mono ?_
 (case side1=>exact uZ HR1_3)
 rintro e w6 ⟨v2,rfl,ho1,hb⟩
 refine⟨_,rfl,?_⟩
 have HO2:=C (Kd.R_lower (Kd.R_new' ho1 (Kd.R_lt (uR HO1.out))) (below_size uB))
 replace HO1:=C (Kd.R_elder' (uR HO1.out) (Kd.R_base ho1) hb)
 replace BK1:=eK BK1 hb
 replace BK2:=eK BK2 hb
 replace HB:=eB hb
 (try clear hb)
 obtain⟨Ao1,co1,eo1⟩:=Kd.R_slice HO1.out
 (first|subst eo1|(injection eo1 with f1_ f2_ f3_;have f4_:=f1_.symm;have f5_:=f3_.symm;clear f1_ f2_ f3_;subst f4_;subst f5_))
 obtain⟨Ao2,co2,eo2⟩:=Kd.R_slice HO2.out
 (first|subst eo2|(injection eo2 with f1_ f2_ f3_;have f4_:=f1_.symm;have f5_:=f3_.symm;clear f1_ f2_ f3_;subst f4_;subst f5_))
 refine hK.out _ _ hh (fun hHeld=> ?_)
 clear hK K
 refine nu (N:=(some 8)) ?_
 refine last_ (i:=7) (N:=none) #[true,true,true,true,true,true,true,true,false,false] rfl rfl (one_of HT_.out (by kernel_rfl)) (by decide) (fun K hK=> ?_)
 have hs1:w6.cell? ⟨gb1,2,none⟩=some (L A0_2 l0_2.length c0_2):=(blk_cell BK1.out 2).trans rfl
 have hfs1:=blk_frozen BK1.out 2
 have hns1_1:=n1.out
 have hms1_1:=n0.out
 refine skip_ (w1:= ?_) (by rfl) rfl ?_ ?_
 rotate_left
 ·go_simp
  rfl
 refine hK.out _ _ ?_
 clear hK K
 refine pu 8 (some 10) ?_
 refine last_ (i:=9) (N:=none) #[true,true,true,true,true,true,true,true,true,true] rfl rfl (one_of HT_.out (by kernel_rfl)) (by decide) (fun K hK=> ?_)
 have hs2:w6.cell? ⟨gb1,3,none⟩=some (L A0_3 l0_3.length c0_3):=(blk_cell BK1.out 3).trans rfl
 have hfs2:=blk_frozen BK1.out 3
 have hns2_1:=n1.out
 have hms2_1:=n0.out
 refine skip_ (w1:= ?_) (by rfl) rfl ?_ ?_
 rotate_left
 ·go_simp
  rfl
 refine hK.out _ _ ?_
 clear hK K
 refine done_ (done_of HT_.out (by kernel_rfl)) ?_
 have:=n0.out
 have:=n1.out
 obtain⟨_,_,_,_,_,_,_,_,_,_,_,_⟩:=d6 BK1.out
 obtain⟨_,_,_,_,_,_,_,_,_,_,_,_⟩:=d6 BK2.out
 try go_wp2
 refine bodyPost_ret (results_cell_row rfl _ _ gb2 34 #[V I a0_0,V I a0_1,L Ao1 t1.length co1,L Ao2 t2.length co2,V I a0_4,O a0_5] (0,0) _ rfl (bK BK2.out) underlying34 rfl (by kernel_rfl)) rfl ?_
 exact⟨_,_,rE,Kd.R_mono (fR (Kd.R_types (Kd.R_types HO1.out BK1.out (by decide)) BK2.out (by decide))) (fun _ hk=>hk.1.1.2),Kd.R_mono (fR (Kd.R_types (Kd.R_types HO2.out BK1.out (by decide)) BK2.out (by decide))) (fun _ hk=>hk.1.1.2),uB⟩
def impl_copyMachine.f (l0_0:List (S33)) (a0_1:Int) (a0_2:Int) (a0_3:Int) (a0_4:Bool) (a0_5:Int) (a0_6:Bool) (a0_7:Int) (a0_8:Int) (l0_9:List Int) (l0_10:List Int) (a0_11:Int) (a0_12:Bool) (a0_13:Int):Option ((List (S33))×Int×Int×Int×Bool×Int×Bool×Int×Int×List Int×List Int×Int×Bool×Int):=(impl_Job_89.f l0_0).bind fun t576=>((impl_copyLine.f a0_7 a0_8 l0_9 l0_10 a0_11 a0_12).bind fun bt579=>(some (t576,a0_1,a0_2,a0_3,a0_4,a0_5,a0_6,bt579.1,bt579.2.1,bt579.2.2.1,bt579.2.2.2.1,bt579.2.2.2.2.1,bt579.2.2.2.2.2,a0_13)))
def impl_copyMachine.T1:Bool×List (List Nat×List Nat):=(true,[([],[]),([0],[0]),([1],[1]),([],[]),([3],[3]),([4,2],[4]),([0,1,2,3,4],[]),([6,2,5,0,1,2,3,4],[2,6]),([0,1,2,3,4,5,6,7],[]),([8,5,7,0,1,2,3,4,5,6,7],[5,8])])
def impl_copyMachine.B1:List Nat:= [0,1,3,0,8,31,31,127,255,511]
theorem impl_copyMachine.tab1:rtab .any (opsOf Try.f55 1)=impl_copyMachine.T1:=by kernel_rfl
theorem impl_copyMachine.bits1:waitsOk impl_copyMachine.T1.2 impl_copyMachine.B1=true:=by kernel_rfl
theorem impl_copyMachine.calls (A0_0:Option Addr) (c0_0:Nat) (l0_0:List (S33)) (a0_1:Int) (a0_2:Int) (a0_3:Int) (a0_4:Bool) (a0_5:Int) (a0_6:Bool) (a0_7:Int) (a0_8:Int) (A0_9:Option Addr) (c0_9:Nat) (l0_9:List Int) (A0_10:Option Addr) (c0_10:Nat) (l0_10:List Int) (a0_11:Int) (a0_12:Bool) (a0_13:Int) (r1:List (S33)) (r2:Int) (r3:Int) (r4:Int) (r5:Bool) (r6:Int) (r7:Bool) (r8:Int) (r9:Int) (r10:List Int) (r11:List Int) (r12:Int) (r13:Bool) (r14:Int) (w:World) (hr0_0:Kd.C k33 w A0_0 l0_0.length l0_0) (hc0_0:l0_0.length≤c0_0) (hr0_9:Kd.C (Kd.int .i64) w A0_9 l0_9.length l0_9) (hc0_9:l0_9.length≤c0_9) (hr0_10:Kd.C (Kd.int .i64) w A0_10 l0_10.length l0_10) (hc0_10:l0_10.length≤c0_10) (h:impl_copyMachine.f l0_0 a0_1 a0_2 a0_3 a0_4 a0_5 a0_6 a0_7 a0_8 l0_9 l0_10 a0_11 a0_12 a0_13=some (r1,r2,r3,r4,r5,r6,r7,r8,r9,r10,r11,r12,r13,r14)):
 Calls prog 55 #[G #[L A0_0 l0_0.length c0_0,V I a0_1,V I a0_2,V I a0_3,O a0_4,V I a0_5,O a0_6,V I a0_7,V I a0_8,L A0_9 l0_9.length c0_9,L A0_10 l0_10.length c0_10,V I a0_11,O a0_12,V I a0_13]] w fun e w'=>∃v0_ v9_ v10_:Value,e=.returned (G #[v0_,V I r2,V I r3,V I r4,O r5,V I r6,O r7,V I r8,V I r9,v9_,v10_,V I r12,O r13,V I r14])∧Kd.R k33 33 w' w.heap.size (fun _=>True) v0_ r1∧Kd.R (Kd.int .i64) 3 w' w.heap.size (fun k_=>qm k_ v10_) v9_ r10∧Kd.R (Kd.int .i64) 3 w' w.heap.size (fun k_=>qm k_ v9_) v10_ r11∧Below w.heap.size w w':=by
 have hu1:=underlying36
 have hu2:=underlying34
 have HR1_0:=C hr0_0
 have HC1_0:=C hc0_0
 (try clear hr0_0);(try clear hc0_0)
 have HR1_9:=C hr0_9
 have HC1_9:=C hc0_9
 (try clear hr0_9);(try clear hc0_9)
 have HR1_10:=C hr0_10
 have HC1_10:=C hc0_10
 (try clear hr0_10);(try clear hc0_10)
 have HB:=C (Below.refl w.heap.size w)
 have H:=h
 unfold impl_copyMachine.f at H
 clear h
 obtain⟨t1,A1,H⟩:=bnd H
 obtain⟨⟨t2,t3,t4,t5,t6,t7⟩,A2,H⟩:=bnd H
 dsimp only at H
 simp only[Option.some.injEq,Prod.mk.injEq]at H
 obtain⟨rfl,rfl,rfl,rfl,rfl,rfl,rfl,rfl,rfl,rfl,rfl,rfl,rfl,rfl⟩:=H
 go_enter func55,ntmps55
 try go_wp2_with (first|((with_reducible refine gate_dst (N:=1) rfl ?_);refine Fix.be 1 #[L A0_0 l0_0.length c0_0,V I a0_1,V I a0_2,V I a0_3,O a0_4,V I a0_5,O a0_6,V I a0_7,V I a0_8,L A0_9 l0_9.length c0_9,L A0_10 l0_10.length c0_10,V I a0_11,O a0_12,V I a0_13] 36 ?_;intro gb1 hg w2 BK1 hb;have GW1:=gE (w:=w) hg;replace HB:=eB hb;clear hb hg)|((with_reducible refine gate_dst (N:=2) rfl ?_);refine Fix.be 2 #[L none 0 0,V I 0,V I 0,V I 0,O false,V I 0,O false,V I 0,V I 0,L none 0 0,L none 0 0,V I 0,O false,V I 0] 36 ?_;intro gb2 hg w3 BK2 hb;have GW2:=gE (w:=w) hg;have n0:=nL hg BK1;have n1:=nG hg BK1;replace BK1:=eK BK1 hb;replace HB:=eB hb;clear hb hg))
 replace BK1:=dK BK1
 replace BK2:=dK BK2
 replace HB:=dB HB
 refine start_ (n:=10) (S:=fun w'=>cl14 w' gb1 (L A0_0 l0_0.length c0_0) (V I a0_1) (V I a0_2) (V I a0_3) (O a0_4) (V I a0_5) (O a0_6) (V I a0_7) (V I a0_8) (L A0_9 l0_9.length c0_9) (L A0_10 l0_10.length c0_10) (V I a0_11) (O a0_12) (V I a0_13)) (ds:= [7,9]) #[false,false,false,false,false,false,false,false,false,false] (by kernel_rfl) rfl rfl hh (fun hHeld=> ?_);refine with_tabW impl_copyMachine.tab1 impl_copyMachine.bits1 (fun HT_ HW_=> ?_)
 generalize w3.drew=w4 at BK1 BK2 HB hHeld ⊢
 refine pu 0 (some 3) ?_
 refine pu 3 (some 6) ?_
 refine tu 1 (some 4) hHeld ?_
 refine tu 4 (some 7) hHeld ?_
 refine ou 2 (some 5) (fun K hK=> ?_)
 refine gs func89 #[L A0_0 l0_0.length c0_0] ?_
 with_reducible refine(impl_Job_89.calls _ _ l0_0 t1 _ ?side1 HC1_0.out A1.out).mono ?_
 (case side1=>exact uZ HR1_0)
 rintro e w5 ⟨v1,rfl,ho1,hb⟩
 refine⟨_,rfl,?_⟩
 have HO1:=lR ho1
 replace BK1:=eK BK1 hb
 replace BK2:=eK BK2 hb
 replace HB:=eB hb
 (try clear hb)
 refine hK.out _ _ hh (fun hHeld=> ?_)
 clear hK K
 refine nu (N:=(some 5)) ?_
 refine pu 6 (some 9) ?_
 refine ou 5 (some 8) (fun K hK=> ?_)
 refine gs func90 #[G #[V I a0_7,V I a0_8,L A0_9 l0_9.length c0_9,L A0_10 l0_10.length c0_10,V I a0_11,O a0_12]] ?_
 with_reducible refine(impl_copyLine.calls a0_7 a0_8 _ _ l0_9 _ _ l0_10 a0_11 a0_12 t2 t3 t4 t5 t6 t7 _ ?side1 HC1_9.out ?side3 HC1_10.out A2.out).mono ?_
 (case side1=>exact uZ HR1_9)
 (case side3=>exact uZ HR1_10)
 rintro e w6 ⟨v2,v3,rfl,ho1,ho2,hb⟩
 refine⟨_,rfl,?_⟩
 have HO2:=lR ho1
 have HO3:=lR ho2
 replace HO1:=eR HO1 hb
 replace BK1:=eK BK1 hb
 replace BK2:=eK BK2 hb
 replace HB:=eB hb
 (try clear hb)
 obtain⟨Ao1,co1,eo1⟩:=Kd.R_slice HO1.out
 (first|subst eo1|(injection eo1 with f1_ f2_ f3_;have f4_:=f1_.symm;have f5_:=f3_.symm;clear f1_ f2_ f3_;subst f4_;subst f5_))
 obtain⟨Ao2,co2,eo2⟩:=Kd.R_slice HO2.out
 (first|subst eo2|(injection eo2 with f1_ f2_ f3_;have f4_:=f1_.symm;have f5_:=f3_.symm;clear f1_ f2_ f3_;subst f4_;subst f5_))
 obtain⟨Ao3,co3,eo3⟩:=Kd.R_slice HO3.out
 (first|subst eo3|(injection eo3 with f1_ f2_ f3_;have f4_:=f1_.symm;have f5_:=f3_.symm;clear f1_ f2_ f3_;subst f4_;subst f5_))
 refine hK.out _ _ hh (fun hHeld=> ?_)
 clear hK K
 refine nu (N:=(some 8)) ?_
 refine last_ (i:=7) (N:=none) #[true,true,true,true,true,true,true,true,false,false] rfl rfl (one_of HT_.out (by kernel_rfl)) (by decide) (fun K hK=> ?_)
 have hs1:w6.cell? ⟨gb1,0,none⟩=some (L A0_0 l0_0.length c0_0):=(blk_cell BK1.out 0).trans rfl
 have hfs1:=blk_frozen BK1.out 0
 have hns1_1:=n1.out
 have hms1_1:=n0.out
 refine skip_ (w1:= ?_) (by rfl) rfl ?_ ?_
 rotate_left
 ·go_simp
  rfl
 refine hK.out _ _ ?_
 clear hK K
 refine pu 8 (some 10) ?_
 refine last_ (i:=9) (N:=none) #[true,true,true,true,true,true,true,true,true,true] rfl rfl (one_of HT_.out (by kernel_rfl)) (by decide) (fun K hK=> ?_)
 have hs2:w6.cell? ⟨gb1,7,none⟩=some (V I a0_7):=(blk_cell BK1.out 7).trans rfl
 have hfs2:=blk_frozen BK1.out 7
 have hns2_1:=n1.out
 have hms2_1:=n0.out
 have hs3:w6.cell? ⟨gb1,8,none⟩=some (V I a0_8):=(blk_cell BK1.out 8).trans rfl
 have hfs3:=blk_frozen BK1.out 8
 have hns3_1:=n1.out
 have hms3_1:=n0.out
 have hs4:w6.cell? ⟨gb1,9,none⟩=some (L A0_9 l0_9.length c0_9):=(blk_cell BK1.out 9).trans rfl
 have hfs4:=blk_frozen BK1.out 9
 have hns4_1:=n1.out
 have hms4_1:=n0.out
 have hs5:w6.cell? ⟨gb1,10,none⟩=some (L A0_10 l0_10.length c0_10):=(blk_cell BK1.out 10).trans rfl
 have hfs5:=blk_frozen BK1.out 10
 have hns5_1:=n1.out
 have hms5_1:=n0.out
 have hs6:w6.cell? ⟨gb1,11,none⟩=some (V I a0_11):=(blk_cell BK1.out 11).trans rfl
 have hfs6:=blk_frozen BK1.out 11
 have hns6_1:=n1.out
 have hms6_1:=n0.out
 have hs7:w6.cell? ⟨gb1,12,none⟩=some (O a0_12):=(blk_cell BK1.out 12).trans rfl
 have hfs7:=blk_frozen BK1.out 12
 have hns7_1:=n1.out
 have hms7_1:=n0.out
 refine skip_ (w1:= ?_) (by rfl) rfl ?_ ?_
 rotate_left
 ·go_simp
  rfl
 refine hK.out _ _ ?_
 clear hK K
 refine done_ (done_of HT_.out (by kernel_rfl)) ?_
 have:=n0.out
 have:=n1.out
 have h_:=d14 BK1.out;(repeat(obtain⟨_,h_⟩:=h_))
 have h_:=d14 BK2.out;(repeat(obtain⟨_,h_⟩:=h_))
 try go_wp2
 refine bodyPost_ret (results_cell_row rfl _ _ gb2 36 #[L Ao1 t1.length co1,V I a0_1,V I a0_2,V I a0_3,O a0_4,V I a0_5,O a0_6,V I t2,V I t3,L Ao2 t4.length co2,L Ao3 t5.length co3,V I t6,O t7,V I a0_13] (0,0) _ rfl (bK BK2.out) underlying36 rfl (by kernel_rfl)) rfl ?_
 exact⟨_,_,_,rE,Kd.R_mono (fR (Kd.R_types (Kd.R_types HO1.out BK1.out (by decide)) BK2.out (by decide))) (fun _ hk=>trivial),Kd.R_mono (fR (Kd.R_types (Kd.R_types HO2.out BK1.out (by decide)) BK2.out (by decide))) (fun _ hk=>hk.1.1),Kd.R_mono (fR (Kd.R_types (Kd.R_types HO3.out BK1.out (by decide)) BK2.out (by decide))) (fun _ hk=>hk.1.1),uB⟩
def impl_jobOf.f (a0_0:Int) (a0_1:Int) (a0_2:Int) (a0_3:Int):Option (Int×Int×Int×Bool×Int×Bool):=some (a0_1,a0_2,1,false,a0_3,(a0_3==9))
theorem impl_jobOf.calls (a0_0:Int) (a0_1:Int) (a0_2:Int) (a0_3:Int) (r1:Int) (r2:Int) (r3:Int) (r4:Bool) (r5:Int) (r6:Bool) (w:World) (h:impl_jobOf.f a0_0 a0_1 a0_2 a0_3=some (r1,r2,r3,r4,r5,r6)):
 Calls prog 69 #[G #[V I a0_0,V I a0_1,V I a0_2,V I a0_3]] w fun e w'=>e=.returned (G #[V I r1,V I r2,V I r3,O r4,V I r5,O r6])∧Below w.heap.size w w':=by
 have hu1:=underlying53
 have hu2:=underlying33
 have HB:=C (Below.refl w.heap.size w)
 have H:=h
 unfold impl_jobOf.f at H
 clear h
 simp only[Option.some.injEq,Prod.mk.injEq]at H
 obtain⟨rfl,rfl,rfl,rfl,rfl,rfl⟩:=H
 go_enter func69,ntmps69
 go_wp2_with (first|((with_reducible refine gate_dst (N:=1) rfl ?_);refine Fix.be 1 #[V I a0_0,V I a0_1,V I a0_2,V I a0_3] 53 ?_;intro gb1 hg w1 BK1 hb;have GW1:=gE (w:=w) hg;replace HB:=eB hb;clear hb hg)|((with_reducible refine gate_dst (N:=2) rfl ?_);refine Fix.be 2 #[V I 0,V I 0,V I 0,O false,V I 0,O false] 33 ?_;intro gb2 hg w2 BK2 hb;have GW2:=gE (w:=w) hg;have n0:=nL hg BK1;have n1:=nG hg BK1;replace BK1:=eK BK1 hb;replace HB:=eB hb;clear hb hg;have:=n0.out;have:=n1.out;obtain⟨_,_,_,_,_,_,_,_⟩:=d4 BK1.out;obtain⟨_,_,_,_,_,_,_,_,_,_,_,_⟩:=d6 BK2.out))
 refine bodyPost_ret (results_cell_row rfl _ _ gb2 33 #[V I a0_1,V I a0_2,V I 1,O false,V I a0_3,O (a0_3==9)] (0,0) _ rfl (bK BK2.out) underlying33 rfl (by kernel_rfl)) rfl ?_
 exact⟨rE,uB⟩
def impl_ActOk.j0:Nat→Int→Bool→Int→Int→Int→Int→Option (Bool)
 |0,_,_,_,_,_,_=>none
 |k+1,x4,x10,x592000,x592001,x592002,x592003=>if x10=true then(if x592001=0 then(if x592002=0 then(some (x592003==0)) else(some false)) else(some false)) else(if x4=3 then((impl_within.f x592001 1 5).bind fun t599=>(if t599=true then(if x592002=0 then(some (x592003==0)) else(some false)) else(some false))) else(if x4=5 then((impl_within.f x592001 1 9999).bind fun t600=>(if t600=true then(if x592002=0 then(some (x592003==0)) else(some false)) else(some false))) else(some false)))
def impl_ActOk.f (k:Nat) (a0_0:Int) (a0_1:Int) (a0_2:Int) (a0_3:Int):Option (Bool):=if a0_0=1 then((impl_jobOf.f a0_0 a0_1 a0_2 a0_3).bind fun bt592=>((impl_JobOk.f bt592.1 bt592.2.1 bt592.2.2.1 bt592.2.2.2.1 bt592.2.2.2.2.1 bt592.2.2.2.2.2).bind fun t598=>(some t598))) else(if a0_0=2 then(impl_ActOk.j0 k a0_0 (a0_0==2) a0_0 a0_1 a0_2 a0_3) else(impl_ActOk.j0 k a0_0 (a0_0==4) a0_0 a0_1 a0_2 a0_3))
theorem impl_ActOk.W1 {p:Prop} (h:p:=by
 go_wp2
 go_meet
 first
  |(case rel=>exact⟨_,((a0_0==2)),rS,H',⟨oL⟩,⟨bK BK1.out⟩,⟨uB⟩⟩)
  |(case rel=>exact⟨_,((a0_0==4)),rS,H',⟨oL⟩,⟨bK BK1.out⟩,⟨uB⟩⟩)):p:=h
theorem impl_ActOk.W2 {p:Prop} (h:p:=by
 go_wp2
 go_ret
 exact⟨rE,uB⟩):p:=h
theorem impl_ActOk.W3 {p:Prop} (h:p:=by
 go_wp2_with (first|((with_reducible refine gate_callee (f:=46) rfl ?_);refine gl 46 (some 30) func46 #[V I a0_1,V I 1,V I 5] ?_;(with_reducible refine(impl_within.calls a0_1 1 5 true _ A1.out).mono ?_);rintro e w' ⟨rfl,⟨nd,rfl⟩⟩;refine⟨_,rfl,?_⟩))
 go_ret
 exact⟨rE,uB⟩):p:=h
theorem impl_ActOk.W4 {p:Prop} (h:p:=by
 go_wp2_with (first|((with_reducible refine gate_callee (f:=46) rfl ?_);refine gl 46 (some 45) func46 #[V I a0_1,V I 1,V I 9999] ?_;(with_reducible refine(impl_within.calls a0_1 1 9999 true _ A1.out).mono ?_);rintro e w' ⟨rfl,⟨nd,rfl⟩⟩;refine⟨_,rfl,?_⟩))
 go_ret
 exact⟨rE,uB⟩):p:=h
theorem impl_ActOk.calls (k:Nat) (a0_0:Int) (a0_1:Int) (a0_2:Int) (a0_3:Int) (r:Bool) (w:World) (h:impl_ActOk.f k a0_0 a0_1 a0_2 a0_3=some r):
 Calls prog 67 #[G #[V I a0_0,V I a0_1,V I a0_2,V I a0_3]] w fun e w'=>e=.returned (O r)∧Below w.heap.size w w':=by
 have hu1:=underlying53
 have HB:=C (Below.refl w.heap.size w)
 have H:=h
 unfold impl_ActOk.f at H
 clear h
 by_cases c1:a0_0=1
 ·rw[if_pos c1]at H
  have c1b0:(a0_0==1)=true:=beq_iff_eq.mpr c1
  have c1b1:(a0_0 !=1)=false:=bne_eq_false_iff_eq.mpr c1
  clear c1
  obtain⟨⟨t1,t2,t3,t4,t5,t6⟩,A1,H⟩:=bnd H
  dsimp only at H
  obtain⟨t7,A2,H⟩:=bnd H
  obtain rfl:=si H
  go_enter func67,ntmps67
  go_wp2_with (first|((with_reducible refine gate_dst (N:=1) rfl ?_);refine Fix.be 1 #[V I a0_0,V I a0_1,V I a0_2,V I a0_3] 53 ?_;intro gb1 hg w1 BK1 hb;have GW1:=gE (w:=w) hg;have GE1:=GW1;replace HB:=eB hb;clear hb hg;obtain⟨_,_,_,_,_,_,_,_⟩:=d4 BK1.out)|((with_reducible refine gate_callee (f:=69) rfl ?_);refine gl 69 (some 8) func69 #[G #[V I a0_0,V I a0_1,V I a0_2,V I a0_3]] ?_;(with_reducible refine(impl_jobOf.calls a0_0 a0_1 a0_2 a0_3 t1 t2 t3 t4 t5 t6 _ A1.out).mono ?_);rintro e w2 ⟨rfl,hb⟩;refine⟨_,rfl,?_⟩;replace BK1:=eK BK1 hb;replace HB:=eB hb;clear hb)|((with_reducible refine gate_callee (f:=47) rfl ?_);refine gl 47 (some 9) func47 #[G #[V I t1,V I t2,V I t3,O t4,V I t5,O t6]] ?_;(with_reducible refine(impl_JobOk.calls t1 t2 t3 t4 t5 t6 t7 _ A2.out).mono ?_);rintro e w3 ⟨rfl,hb⟩;refine⟨_,rfl,?_⟩;replace BK1:=eK BK1 hb;replace HB:=eB hb;clear hb))
  go_ret
  exact⟨rE,uB⟩
 rw[if_neg c1]at H
 have c1b0:(a0_0==1)=false:=beq_eq_false_iff_ne.mpr c1
 have c1b1:(a0_0 !=1)=true:=bne_iff_ne.mpr c1
 have HC1:=C H
 clear H
 go_enter func67,ntmps67
 go_upto_if 10 with(first|((with_reducible refine gate_dst (N:=1) rfl ?_);refine Fix.be 1 #[V I a0_0,V I a0_1,V I a0_2,V I a0_3] 53 ?_;intro gb1 hg w1 BK1 hb;have GW1:=gE (w:=w) hg;have GE1:=GW1;replace HB:=eB hb;clear hb hg;obtain⟨_,_,_,_,_,_,_,_⟩:=d4 BK1.out))
 (try simp only[Act.put,List.setIfInBounds_toArray,List.set_cons_zero,List.set_cons_succ])
 go_cut [10] (fun v10 wc=>∃(kq:Nat) (x1_8:Bool),v10=O x1_8∧Aside0 (impl_ActOk.j0 kq a0_0 x1_8 a0_0 a0_1 a0_2 a0_3=some r)∧Aside0 (kq≤k)∧Aside0 (wc.heap[gb1]? =some (.cells #[V I a0_0,V I a0_1,V I a0_2,V I a0_3] 53 (0,0)))∧Aside0 (Below w.heap.size w wc))
 case first=>
  have H:=HC1.out
  clear HC1
  by_cases c2:a0_0=2
  rotate_left
  ·rw[if_neg c2]at H
   have c2b0:(a0_0==2)=false:=beq_eq_false_iff_ne.mpr c2
   have c2b1:(a0_0 !=2)=true:=bne_iff_ne.mpr c2
   (first|rw[c2b0]|(simp only[i64_w,i32_w];rw[c2b0])|skip)
   have H':=C H
   clear H
   exact impl_ActOk.W1
  rw[if_pos c2]at H
  have c2b0:(a0_0==2)=true:=beq_iff_eq.mpr c2
  have c2b1:(a0_0 !=2)=false:=bne_eq_false_iff_eq.mpr c2
  clear c2
  (first|rw[c2b0]|(simp only[i64_w,i32_w];rw[c2b0])|skip)
  have H':=C H
  clear H
  exact impl_ActOk.W1
 case rest=>
  clear HC1
  obtain⟨kq,x1_8,rfl,HA,HJ1,BK1,HB⟩:=hcut
  cases kq with
  |zero=>exact absurd HA.out (by simp[impl_ActOk.j0])
  |succ kj8=>
   have H:=HA.out
   clear HA
   simp only[impl_ActOk.j0]at H
   by_cases c2:x1_8=true
   ·subst c2
    rw[if_pos rfl]at H
    by_cases c3:a0_1=0
    rotate_left
    ·rw[if_neg c3]at H
     have c3b0:(a0_1==0)=false:=beq_eq_false_iff_ne.mpr c3
     have c3b1:(a0_1 !=0)=true:=bne_iff_ne.mpr c3
     obtain rfl:=si H
     obtain⟨_,_,_,_,_,_,_,_⟩:=d4 BK1.out
     exact impl_ActOk.W2
    rw[if_pos c3]at H
    have c3b0:(a0_1==0)=true:=beq_iff_eq.mpr c3
    have c3b1:(a0_1 !=0)=false:=bne_eq_false_iff_eq.mpr c3
    clear c3
    by_cases c4:a0_2=0
    rotate_left
    ·rw[if_neg c4]at H
     have c4b0:(a0_2==0)=false:=beq_eq_false_iff_ne.mpr c4
     have c4b1:(a0_2 !=0)=true:=bne_iff_ne.mpr c4
     obtain rfl:=si H
     obtain⟨_,_,_,_,_,_,_,_⟩:=d4 BK1.out
     exact impl_ActOk.W2
    rw[if_pos c4]at H
    have c4b0:(a0_2==0)=true:=beq_iff_eq.mpr c4
    have c4b1:(a0_2 !=0)=false:=bne_eq_false_iff_eq.mpr c4
    clear c4
    obtain rfl:=si H
    obtain⟨_,_,_,_,_,_,_,_⟩:=d4 BK1.out
    exact impl_ActOk.W2
   obtain rfl:=nt c2
   replace H:=nf H
   by_cases c3:a0_0=3
   ·rw[if_pos c3]at H
    have c3b0:(a0_0==3)=true:=beq_iff_eq.mpr c3
    have c3b1:(a0_0 !=3)=false:=bne_eq_false_iff_eq.mpr c3
    clear c3
    obtain⟨t1,A1,H⟩:=bnd H
    by_cases c4:t1=true
    rotate_left
    ·obtain rfl:=nt c4
     replace H:=nf H
     obtain rfl:=si H
     obtain⟨_,_,_,_,_,_,_,_⟩:=d4 BK1.out
     go_wp2_with (first|((with_reducible refine gate_callee (f:=46) rfl ?_);refine gl 46 (some 30) func46 #[V I a0_1,V I 1,V I 5] ?_;(with_reducible refine(impl_within.calls a0_1 1 5 false _ A1.out).mono ?_);rintro e w' ⟨rfl,⟨nd,rfl⟩⟩;refine⟨_,rfl,?_⟩))
     go_ret
     exact⟨rE,uB⟩
    subst c4
    rw[if_pos rfl]at H
    by_cases c5:a0_2=0
    rotate_left
    ·rw[if_neg c5]at H
     have c5b0:(a0_2==0)=false:=beq_eq_false_iff_ne.mpr c5
     have c5b1:(a0_2 !=0)=true:=bne_iff_ne.mpr c5
     obtain rfl:=si H
     obtain⟨_,_,_,_,_,_,_,_⟩:=d4 BK1.out
     exact impl_ActOk.W3
    rw[if_pos c5]at H
    have c5b0:(a0_2==0)=true:=beq_iff_eq.mpr c5
    have c5b1:(a0_2 !=0)=false:=bne_eq_false_iff_eq.mpr c5
    clear c5
    obtain rfl:=si H
    obtain⟨_,_,_,_,_,_,_,_⟩:=d4 BK1.out
    exact impl_ActOk.W3
   rw[if_neg c3]at H
   have c3b0:(a0_0==3)=false:=beq_eq_false_iff_ne.mpr c3
   have c3b1:(a0_0 !=3)=true:=bne_iff_ne.mpr c3
   by_cases c4:a0_0=5
   rotate_left
   ·rw[if_neg c4]at H
    have c4b0:(a0_0==5)=false:=beq_eq_false_iff_ne.mpr c4
    have c4b1:(a0_0 !=5)=true:=bne_iff_ne.mpr c4
    obtain rfl:=si H
    exact impl_ActOk.W2
   rw[if_pos c4]at H
   have c4b0:(a0_0==5)=true:=beq_iff_eq.mpr c4
   have c4b1:(a0_0 !=5)=false:=bne_eq_false_iff_eq.mpr c4
   clear c4
   obtain⟨t1,A1,H⟩:=bnd H
   by_cases c5:t1=true
   rotate_left
   ·obtain rfl:=nt c5
    replace H:=nf H
    obtain rfl:=si H
    obtain⟨_,_,_,_,_,_,_,_⟩:=d4 BK1.out
    go_wp2_with (first|((with_reducible refine gate_callee (f:=46) rfl ?_);refine gl 46 (some 45) func46 #[V I a0_1,V I 1,V I 9999] ?_;(with_reducible refine(impl_within.calls a0_1 1 9999 false _ A1.out).mono ?_);rintro e w' ⟨rfl,⟨nd,rfl⟩⟩;refine⟨_,rfl,?_⟩))
    go_ret
    exact⟨rE,uB⟩
   subst c5
   rw[if_pos rfl]at H
   by_cases c6:a0_2=0
   rotate_left
   ·rw[if_neg c6]at H
    have c6b0:(a0_2==0)=false:=beq_eq_false_iff_ne.mpr c6
    have c6b1:(a0_2 !=0)=true:=bne_iff_ne.mpr c6
    obtain rfl:=si H
    obtain⟨_,_,_,_,_,_,_,_⟩:=d4 BK1.out
    exact impl_ActOk.W4
   rw[if_pos c6]at H
   have c6b0:(a0_2==0)=true:=beq_iff_eq.mpr c6
   have c6b1:(a0_2 !=0)=false:=bne_eq_false_iff_eq.mpr c6
   clear c6
   obtain rfl:=si H
   obtain⟨_,_,_,_,_,_,_,_⟩:=d4 BK1.out
   exact impl_ActOk.W4
end Go.Proofs.Ytblceimapaenlaa.PFnExactDoAct
