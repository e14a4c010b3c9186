/- Calls do what plain Lean functions say (FnExactRunScript). No condition. -/
import Derived.Test.YtgdnlmfoghpeoaaGreatDoorQFnExactRunScript0
import Derived.Test.YtgdnlmfoghpeoaaGreatDoorQFnExactRunScript8
import Derived.Test.YtgdnlmfoghpeoaaGreatDoorQFnExactRunScript9
namespace Go.Proofs.YtgdnlmfoghpeoaaGreatDoor.PFnExactRunScript
open Go.RowKit Go.Proofs.YtgdnlmfoghpeoaaGreatDoorW.PrintWords Go.Proofs.YtgdnlmfoghpeoaaGreatDoorW.PrintLast Go.Proofs.YtgdnlmfoghpeoaaGreatDoorW.PrintMore
open Tryz
open Fix (bK bnd cf6 cl14 cl6 d14 d6 dB dK eB eK eR fR gE gK gl gs gy hh hi hx nf nl np nt nu oL oT ou pu px qm qn rE rN rS si tu uB uC uK uR uZ)
open Go.Value renaming int→V,slice→L,bool→O,agg→G
open Go.IntKind renaming i64→I
open Go.Proofs.YtgdnlmfoghpeoaaGreatDoorW.PrintWords.Aside0 renaming mk→C
open Go.Proofs.YtgdnlmfoghpeoaaGreatDoorW.PrintWords renaming Aside0→D,gate_callee→F
open Go.Proofs.YtgdnlmfoghpeoaaGreatDoorW.PrintWords.Kd renaming R_mono→X
open Go.World renaming block_lt_of_cell?→E
attribute [local go_sem] max2_int min2_int max_two min_two max_three min_three max_four min_four
attribute [local go_sem] Fix.isSome_setCell
set_option linter.unusedVariables false
set_option maxHeartbeats 40000000
set_option maxRecDepth 100000
set_option linter.unusedSimpArgs false
attribute [local go_sem high] eqA26
def spec_MachineOk.j0:Nat→Bool→List (S26)→Int→Int→Int→Bool→Int→Bool→Int→Int→List Int→List Int→Int→Bool→Int→Option (Bool)
  |0,_,_,_,_,_,_,_,_,_,_,_,_,_,_,_=>none
  |k+1,x18,x689000,x689001,x689002,x689003,x689004,x689005,x689006,x689007,x689008,x689009,x689010,x689011,x689012,x689013=>if x18=true then(some false) else(if(x689001==0 && (x689002==0 && (x689003==0 && (!x689004 && (x689005==0 && (!x689006))))))=true then(some (x689007==0)) else((spec_JobOk.f x689001 x689002 x689003 x689004 x689005 x689006).bind fun t692=>(if t692=true then((spec_JobSheets.f k x689001 x689002 x689003 x689004 x689005 x689006).bind fun t693=>(if t693≤40 then((spec_JobSheets.f k x689001 x689002 x689003 x689004 x689005 x689006).bind fun t694=>(some (t694==x689007))) else(some false))) else(some false))))
def spec_MachineOk.f (k:Nat) (l0_0:List (S26)) (a0_1:Int) (a0_2:Int) (a0_3:Int) (a0_4:Bool) (a0_5:Int) (a0_6:Bool) (a0_7:Int) (a0_8:Int) (l0_9:List Int) (l0_10:List Int) (a0_11:Int) (a0_12:Bool) (a0_13:Int):Option (Bool):=(spec_JobsOk.f k l0_0).bind fun t689=>(if t689=true then((spec_LineOk.f k a0_7 a0_8 l0_9 l0_10 a0_11 a0_12).bind fun t690=>(if t690=true then((spec_l01In.f a0_13 0 100000).bind fun t691=>(spec_MachineOk.j0 k (!t691) l0_0 a0_1 a0_2 a0_3 a0_4 a0_5 a0_6 a0_7 a0_8 l0_9 l0_10 a0_11 a0_12 a0_13)) else(spec_MachineOk.j0 k true l0_0 a0_1 a0_2 a0_3 a0_4 a0_5 a0_6 a0_7 a0_8 l0_9 l0_10 a0_11 a0_12 a0_13))) else(spec_MachineOk.j0 k true l0_0 a0_1 a0_2 a0_3 a0_4 a0_5 a0_6 a0_7 a0_8 l0_9 l0_10 a0_11 a0_12 a0_13))
def spec_MachineOk.T5:Bool×List (List Nat×List Nat):=(true,[([],[]),([0],[0]),([1],[1]),([2,2],[2]),([3],[3]),([4,3],[3,4]),([5,3,3],[3,5]),([6,3],[3,6]),([3,7],[3,7]),([8,6],[8]),([9],[9]),([10,9],[9,10]),([11,9,9],[9,11]),([9],[9]),([13,9],[9,13]),([14,9],[9,14]),([12,15,9],[9,12,15]),([9,16],[9,16]),([17,12,0,1,2,3,4,5,6,7,8,9,10,11,12,13,14,15,16,17],[17])])
def spec_MachineOk.B5:List Nat:= [0,1,3,7,15,31,63,127,255,511,1023,2047,4095,1023,9215,25599,65535,131071,262143]
theorem spec_MachineOk.tab5:rtab .any (opsOf Tryz.f64 5)=spec_MachineOk.T5:=by kernel_rfl
theorem spec_MachineOk.bits5:waitsOk spec_MachineOk.T5.2 spec_MachineOk.B5=true:=by kernel_rfl
theorem spec_MachineOk.W1 {p:Prop} (h:p:=by
 go_wp2
 go_ret
 exact⟨rE,uB⟩):p:=h
theorem spec_MachineOk.calls (k:Nat) (A0_0:Option Addr) (c0_0:Nat) (l0_0:List (S26)) (a0_1:Int) (a0_2:Int) (a0_3:Int) (a0_4:Bool) (a0_5:Int) (a0_6:Bool) (a0_7:Int) (a0_8:Int) (A0_9:Option Addr) (c0_9:Nat) (l0_9:List Int) (A0_10:Option Addr) (c0_10:Nat) (l0_10:List Int) (a0_11:Int) (a0_12:Bool) (a0_13:Int) (r:Bool) (w:World) (hr0_0:Kd.C k26 w A0_0 l0_0.length l0_0) (hc0_0:l0_0.length≤c0_0) (hr0_9:Kd.C (Kd.int .i64) w A0_9 l0_9.length l0_9) (hc0_9:l0_9.length≤c0_9) (hr0_10:Kd.C (Kd.int .i64) w A0_10 l0_10.length l0_10) (hc0_10:l0_10.length≤c0_10) (h:spec_MachineOk.f k l0_0 a0_1 a0_2 a0_3 a0_4 a0_5 a0_6 a0_7 a0_8 l0_9 l0_10 a0_11 a0_12 a0_13=some r):
 Calls prog 64 #[G #[L A0_0 l0_0.length c0_0,V I a0_1,V I a0_2,V I a0_3,O a0_4,V I a0_5,O a0_6,V I a0_7,V I a0_8,L A0_9 l0_9.length c0_9,L A0_10 l0_10.length c0_10,V I a0_11,O a0_12,V I a0_13]] w fun e w'=>e=.returned (O r)∧Below w.heap.size w w':=by
 have hu1:=underlying31
 have hu2:=underlying29
 have hu3:=underlying26
 have HR1_0:=C hr0_0
 have HC1_0:=C hc0_0
 (try clear hr0_0);(try clear hc0_0)
 have HR1_9:=C hr0_9
 have HC1_9:=C hc0_9
 (try clear hr0_9);(try clear hc0_9)
 have HR1_10:=C hr0_10
 have HC1_10:=C hc0_10
 (try clear hr0_10);(try clear hc0_10)
 have HB:=C (Below.refl w.heap.size w)
 have H:=h
 unfold spec_MachineOk.f at H
 clear h
 have HC2:=C H
 clear H
 go_enter func64,ntmps64
 go_upto_region 1 with(first|((with_reducible refine gate_dst (N:=1) rfl ?_);refine Fix.be 1 #[L A0_0 l0_0.length c0_0,V I a0_1,V I a0_2,V I a0_3,O a0_4,V I a0_5,O a0_6,V I a0_7,V I a0_8,L A0_9 l0_9.length c0_9,L A0_10 l0_10.length c0_10,V I a0_11,O a0_12,V I a0_13] 31 ?_;intro gb1 hg w1 BK1 hb;have GW1:=gE (w:=w) hg;replace HB:=eB hb;clear hb hg))
 (try simp only[Act.put,List.setIfInBounds_toArray,List.set_cons_zero,List.set_cons_succ])
 go_cut [18] (fun v18 wc=>∃(kq:Nat) (x1_1:Bool),v18=O x1_1∧D (spec_MachineOk.j0 kq x1_1 l0_0 a0_1 a0_2 a0_3 a0_4 a0_5 a0_6 a0_7 a0_8 l0_9 l0_10 a0_11 a0_12 a0_13=some r)∧D (kq≤k)∧D (wc.heap[gb1]? =some (.cells #[(L A0_0 l0_0.length c0_0),V I a0_1,V I a0_2,V I a0_3,O a0_4,V I a0_5,O a0_6,V I a0_7,V I a0_8,(L A0_9 l0_9.length c0_9),(L A0_10 l0_10.length c0_10),V I a0_11,O a0_12,V I a0_13] 31 (0,0)))∧D (Below w.heap.size w wc))
 case first=>
  have H:=HC2.out
  clear HC2
  obtain⟨t1,A1,H⟩:=bnd H
  by_cases c1:t1=true
  rotate_left
  ·obtain rfl:=nt c1
   replace H:=nf H
   have H':=C H
   clear H
   have h_:=d14 BK1.out;(repeat(obtain⟨_,h_⟩:=h_))
   go_wp2_with (first|((with_reducible refine F (f:=83) rfl ?_);refine gl 83 (some 5) func83 #[L A0_0 l0_0.length c0_0] ?_;(with_reducible refine(spec_JobsOk.calls k _ _ l0_0 false _ ?side1 HC1_0.out A1.out).mono ?_);(case side1=>exact uZ HR1_0);rintro e w2 ⟨rfl,hb⟩;refine⟨_,rfl,?_⟩;replace BK1:=eK BK1 hb;replace HB:=eB hb;clear hb))
   go_meet
   case rel=>exact⟨_,(true),rS,H',⟨oL⟩,⟨bK BK1.out⟩,⟨uB⟩⟩
  subst c1
  rw[if_pos rfl]at H
  obtain⟨t2,A2,H⟩:=bnd H
  by_cases c2:t2=true
  rotate_left
  ·obtain rfl:=nt c2
   replace H:=nf H
   have H':=C H
   clear H
   have h_:=d14 BK1.out;(repeat(obtain⟨_,h_⟩:=h_))
   go_wp2_with (first|((with_reducible refine F (f:=83) rfl ?_);refine gl 83 (some 5) func83 #[L A0_0 l0_0.length c0_0] ?_;(with_reducible refine(spec_JobsOk.calls k _ _ l0_0 true _ ?side1 HC1_0.out A1.out).mono ?_);(case side1=>exact uZ HR1_0);rintro e w2 ⟨rfl,hb⟩;refine⟨_,rfl,?_⟩;replace BK1:=eK BK1 hb;replace HB:=eB hb;clear hb;have h_:=d14 BK1.out;(repeat(obtain⟨_,h_⟩:=h_)))|(go_at_call 84;(with_reducible refine(spec_LineOk.calls k a0_7 a0_8 _ _ l0_9 _ _ l0_10 a0_11 a0_12 false _ ?side1 HC1_9.out ?side3 HC1_10.out A2.out).mono ?_);(case side1=>exact uZ HR1_9);(case side3=>exact uZ HR1_10);rintro e w3 ⟨rfl,hb⟩;replace BK1:=eK BK1 hb;replace HB:=eB hb;clear hb))
   go_meet
   case rel=>exact⟨_,(true),rS,H',⟨oL⟩,⟨bK BK1.out⟩,⟨uB⟩⟩
  subst c2
  rw[if_pos rfl]at H
  obtain⟨t3,A3,H⟩:=bnd H
  have H':=C H
  clear H
  obtain⟨_,_,_,_,_,_,_,_,_,_,_,_,_,_,_,_,_,_,_,_,_,_,_,_,_,_,_,_⟩:=d14 BK1.out
  go_wp2_with (first|((with_reducible refine F (f:=83) rfl ?_);refine gl 83 (some 5) func83 #[L A0_0 l0_0.length c0_0] ?_;(with_reducible refine(spec_JobsOk.calls k _ _ l0_0 true _ ?side1 HC1_0.out A1.out).mono ?_);(case side1=>exact uZ HR1_0);rintro e w2 ⟨rfl,hb⟩;refine⟨_,rfl,?_⟩;replace BK1:=eK BK1 hb;replace HB:=eB hb;clear hb;have h_:=d14 BK1.out;(repeat(obtain⟨_,h_⟩:=h_)))|(go_at_call 84;(with_reducible refine(spec_LineOk.calls k a0_7 a0_8 _ _ l0_9 _ _ l0_10 a0_11 a0_12 true _ ?side1 HC1_9.out ?side3 HC1_10.out A2.out).mono ?_);(case side1=>exact uZ HR1_9);(case side3=>exact uZ HR1_10);rintro e w3 ⟨rfl,hb⟩;replace BK1:=eK BK1 hb;replace HB:=eB hb;clear hb;have h_:=d14 BK1.out;(repeat(obtain⟨_,h_⟩:=h_)))|(go_at_call 60;(with_reducible refine(spec_l01In.calls a0_13 0 100000 t3 _ A3.out).mono ?_);rintro e w' ⟨rfl,⟨nd,rfl⟩⟩))
  go_meet
  case rel=>exact⟨_,(!t3),rS,H',⟨oL⟩,⟨bK BK1.out⟩,⟨uB⟩⟩
 case rest=>
  clear HC2
  obtain⟨kq,x1_1,rfl,HA,HJ1,BK1,HB⟩:=hcut
  cases kq with
  |zero=>exact absurd HA.out (by simp[spec_MachineOk.j0])
  |succ kj1=>
   have H:=HA.out
   clear HA
   simp only[spec_MachineOk.j0]at H
   by_cases c1:x1_1=true
   ·subst c1
    rw[if_pos rfl]at H
    obtain rfl:=si H
    exact spec_MachineOk.W1
   obtain rfl:=nt c1
   replace H:=nf H
   by_cases c2:(a0_1==0 && (a0_2==0 && (a0_3==0 && (!a0_4 && (a0_5==0 && (!a0_6))))))=true
   ·rw[if_pos c2]at H
    have c2b0:(a0_1==0 && (a0_2==0 && (a0_3==0 && (!a0_4 && (a0_5==0 && (!a0_6))))))=true:=c2
    (try(have c2b1:decide (a0_1=0 && (a0_2==0 && (a0_3==0 && (!a0_4 && (a0_5==0 && (!a0_6))))))=true:=by simpa using c2))
    (try(have c2b2:(a0_1==0 && (a0_2==0 && (a0_3==0 && (!a0_4 && (a0_5==0 && (!a0_6))))))=true:=by simpa using c2))
    clear c2
    obtain rfl:=si H
    have h_:=d14 BK1.out;(repeat(obtain⟨_,h_⟩:=h_))
    exact spec_MachineOk.W1
   rw[if_neg c2]at H
   have c2b0:(a0_1==0 && (a0_2==0 && (a0_3==0 && (!a0_4 && (a0_5==0 && (!a0_6))))))=false:=by simpa using c2
   (try(have c2b1:decide (a0_1=0 && (a0_2==0 && (a0_3==0 && (!a0_4 && (a0_5==0 && (!a0_6))))))=false:=by simpa using c2))
   (try(have c2b2:(a0_1==0 && (a0_2==0 && (a0_3==0 && (!a0_4 && (a0_5==0 && (!a0_6))))))=false:=by simpa using c2))
   (try(have c2b3:¬(a0_1=0 && (a0_2==0 && (a0_3==0 && (!a0_4 && (a0_5==0 && (!a0_6)))))):=by simpa using c2))
   clear c2
   obtain⟨t1,A1,H⟩:=bnd H
   by_cases c3:t1=true
   rotate_left
   ·obtain rfl:=nt c3
    replace H:=nf H
    obtain rfl:=si H
    have h_:=d14 BK1.out;(repeat(obtain⟨_,h_⟩:=h_))
    try go_wp2
    replace BK1:=dK BK1
    replace HB:=dB HB
    refine start_ (n:=19) (S:=fun w'=>cl14 w' gb1 (L A0_0 l0_0.length c0_0) (V I a0_1) (V I a0_2) (V I a0_3) (O a0_4) (V I a0_5) (O a0_6) (V I a0_7) (V I a0_8) (L A0_9 l0_9.length c0_9) (L A0_10 l0_10.length c0_10) (V I a0_11) (O a0_12) (V I a0_13)) (ds:= []) #[false,false,false,false,false,false,false,false,false,false,false,false,false,false,false,false,false,false,false] (by kernel_rfl) rfl rfl hh (fun hHeld=> ?_);refine with_tabW spec_MachineOk.tab5 spec_MachineOk.bits5 (fun HT_ HW_=> ?_)
    generalize wc.drew=w2 at BK1 HB hHeld ⊢
    refine pu 0 (some 27) ?_
    refine tu 1 (some 28) hHeld ?_
    refine ou 2 (some 29) (fun K hK=> ?_)
    refine gs func85 #[G #[V I a0_1,V I a0_2,V I a0_3,O a0_4,V I a0_5,O a0_6]] ?_
    with_reducible refine(spec_JobOk.calls a0_1 a0_2 a0_3 a0_4 a0_5 a0_6 false _ A1.out).mono ?_
    rintro e w3 ⟨rfl,hb⟩
    refine⟨_,rfl,?_⟩
    replace BK1:=eK BK1 hb
    replace HB:=eB hb
    (try clear hb)
    refine hK.out _ _ hh (fun hHeld=> ?_)
    clear hK K
    refine nu (N:=(some 29)) ?_
    refine pu 3 (some 30) ?_
    refine px 4 (some 31) ?_
    refine px 5 (some 32) ?_
    refine px 6 (some 33) ?_
    refine px 7 (some 34) ?_
    refine pu 8 (some 35) ?_
    refine pu 9 (some 36) ?_
    refine px 10 (some 37) ?_
    refine px 11 (some 38) ?_
    refine px 12 (some 39) ?_
    refine px 13 (some 40) ?_
    refine px 14 (some 41) ?_
    refine px 15 (some 42) ?_
    refine px 16 (some 43) ?_
    refine pu 17 (some 44) ?_
    refine pu 18 (some 2) ?_
    refine done_ (done_of HT_.out (by kernel_rfl)) ?_
    try go_wp2
    go_ret
    exact⟨rE,uB⟩
   subst c3
   rw[if_pos rfl]at H
   obtain⟨t2,A2,H⟩:=bnd H
   by_cases c4:t2≤40
   rotate_left
   ·rw[if_neg c4]at H
    replace c4:=decide_eq_false c4
    obtain rfl:=si H
    have h_:=d14 BK1.out;(repeat(obtain⟨_,h_⟩:=h_))
    try go_wp2
    replace BK1:=dK BK1
    replace HB:=dB HB
    refine start_ (n:=19) (S:=fun w'=>cl14 w' gb1 (L A0_0 l0_0.length c0_0) (V I a0_1) (V I a0_2) (V I a0_3) (O a0_4) (V I a0_5) (O a0_6) (V I a0_7) (V I a0_8) (L A0_9 l0_9.length c0_9) (L A0_10 l0_10.length c0_10) (V I a0_11) (O a0_12) (V I a0_13)) (ds:= []) #[false,false,false,false,false,false,false,false,false,false,false,false,false,false,false,false,false,false,false] (by kernel_rfl) rfl rfl hh (fun hHeld=> ?_);refine with_tabW spec_MachineOk.tab5 spec_MachineOk.bits5 (fun HT_ HW_=> ?_)
    generalize wc.drew=w2 at BK1 HB hHeld ⊢
    refine pu 0 (some 27) ?_
    refine tu 1 (some 28) hHeld ?_
    refine ou 2 (some 29) (fun K hK=> ?_)
    refine gs func85 #[G #[V I a0_1,V I a0_2,V I a0_3,O a0_4,V I a0_5,O a0_6]] ?_
    with_reducible refine(spec_JobOk.calls a0_1 a0_2 a0_3 a0_4 a0_5 a0_6 true _ A1.out).mono ?_
    rintro e w3 ⟨rfl,hb⟩
    refine⟨_,rfl,?_⟩
    replace BK1:=eK BK1 hb
    replace HB:=eB hb
    (try clear hb)
    refine hK.out _ _ hh (fun hHeld=> ?_)
    clear hK K
    refine nu (N:=(some 29)) ?_
    refine pu 3 (some 30) ?_
    refine pu 4 (some 31) ?_
    refine tu 5 (some 32) hHeld ?_
    refine ou 6 (some 33) (fun K hK=> ?_)
    refine gs func86 #[G #[V I a0_1,V I a0_2,V I a0_3,O a0_4,V I a0_5,O a0_6]] ?_
    with_reducible refine(spec_JobSheets.calls kj1 a0_1 a0_2 a0_3 a0_4 a0_5 a0_6 t2 _ A2.out).mono ?_
    rintro e w4 ⟨rfl,hb⟩
    refine⟨_,rfl,?_⟩
    replace BK1:=eK BK1 hb
    replace HB:=eB hb
    (try clear hb)
    refine hK.out _ _ hh (fun hHeld=> ?_)
    clear hK K
    refine nu (N:=(some 33)) ?_
    refine pu 7 (some 34) ?_
    refine pu 8 (some 35) ?_
    refine pu 9 (some 36) ?_
    refine px 10 (some 37) ?_
    refine px 11 (some 38) ?_
    refine px 12 (some 39) ?_
    refine px 13 (some 40) ?_
    refine px 14 (some 41) ?_
    refine px 15 (some 42) ?_
    refine px 16 (some 43) ?_
    refine pu 17 (some 44) ?_
    refine pu 18 (some 2) ?_
    refine done_ (done_of HT_.out (by kernel_rfl)) ?_
    try go_wp2
    go_ret
    exact⟨rE,uB⟩
   rw[if_pos c4]at H
   replace c4:=decide_eq_true c4
   obtain⟨t3,A3,H⟩:=bnd H
   obtain rfl:=si H
   have h_:=d14 BK1.out;(repeat(obtain⟨_,h_⟩:=h_))
   try go_wp2
   replace BK1:=dK BK1
   replace HB:=dB HB
   refine start_ (n:=19) (S:=fun w'=>cl14 w' gb1 (L A0_0 l0_0.length c0_0) (V I a0_1) (V I a0_2) (V I a0_3) (O a0_4) (V I a0_5) (O a0_6) (V I a0_7) (V I a0_8) (L A0_9 l0_9.length c0_9) (L A0_10 l0_10.length c0_10) (V I a0_11) (O a0_12) (V I a0_13)) (ds:= []) #[false,false,false,false,false,false,false,false,false,false,false,false,false,false,false,false,false,false,false] (by kernel_rfl) rfl rfl hh (fun hHeld=> ?_);refine with_tabW spec_MachineOk.tab5 spec_MachineOk.bits5 (fun HT_ HW_=> ?_)
   generalize wc.drew=w2 at BK1 HB hHeld ⊢
   refine pu 0 (some 27) ?_
   refine tu 1 (some 28) hHeld ?_
   refine ou 2 (some 29) (fun K hK=> ?_)
   refine gs func85 #[G #[V I a0_1,V I a0_2,V I a0_3,O a0_4,V I a0_5,O a0_6]] ?_
   with_reducible refine(spec_JobOk.calls a0_1 a0_2 a0_3 a0_4 a0_5 a0_6 true _ A1.out).mono ?_
   rintro e w3 ⟨rfl,hb⟩
   refine⟨_,rfl,?_⟩
   replace BK1:=eK BK1 hb
   replace HB:=eB hb
   (try clear hb)
   refine hK.out _ _ hh (fun hHeld=> ?_)
   clear hK K
   refine nu (N:=(some 29)) ?_
   refine pu 3 (some 30) ?_
   refine pu 4 (some 31) ?_
   refine tu 5 (some 32) hHeld ?_
   refine ou 6 (some 33) (fun K hK=> ?_)
   refine gs func86 #[G #[V I a0_1,V I a0_2,V I a0_3,O a0_4,V I a0_5,O a0_6]] ?_
   with_reducible refine(spec_JobSheets.calls kj1 a0_1 a0_2 a0_3 a0_4 a0_5 a0_6 t2 _ A2.out).mono ?_
   rintro e w4 ⟨rfl,hb⟩
   refine⟨_,rfl,?_⟩
   replace BK1:=eK BK1 hb
   replace HB:=eB hb
   (try clear hb)
   refine hK.out _ _ hh (fun hHeld=> ?_)
   clear hK K
   refine nu (N:=(some 33)) ?_
   refine pu 7 (some 34) ?_
   refine pu 8 (some 35) ?_
   refine pu 9 (some 36) ?_
   refine pu 10 (some 37) ?_
   refine pu 13 (some 40) ?_
   refine pu 14 (some 41) ?_
   refine tu 11 (some 38) hHeld ?_
   refine tu 15 (some 42) hHeld ?_
   refine ou 12 (some 39) (fun K hK=> ?_)
   refine gs func86 #[G #[V I a0_1,V I a0_2,V I a0_3,O a0_4,V I a0_5,O a0_6]] ?_
   with_reducible refine(spec_JobSheets.calls kj1 a0_1 a0_2 a0_3 a0_4 a0_5 a0_6 t3 _ A3.out).mono ?_
   rintro e w5 ⟨rfl,hb⟩
   refine⟨_,rfl,?_⟩
   replace BK1:=eK BK1 hb
   replace HB:=eB hb
   (try clear hb)
   refine hK.out _ _ hh (fun hHeld=> ?_)
   clear hK K
   refine nu (N:=(some 39)) ?_
   refine pu 16 (some 43) ?_
   refine pu 17 (some 44) ?_
   refine pu 18 (some 2) ?_
   refine done_ (done_of HT_.out (by kernel_rfl)) ?_
   try go_wp2
   go_ret
   exact⟨rE,uB⟩
def spec_AddJob.f (k:Nat) (l0:List (S26)) (a1_0:Int) (a1_1:Int) (a1_2:Int) (a1_3:Bool) (a1_4:Int) (a1_5:Bool):Option ((List (S26))×Bool):=(spec_l29Copy.f l0).bind fun t696=>((some (([(⟨a1_0,a1_1,a1_2,a1_3,a1_4,a1_5⟩:S26)]:List (S26)):List (S26))).bind fun y699=>(if t696.length+y699.length<2932031007402 then((some (t696++y699:List (S26))).bind fun y702=>((spec_JobsOk.f k l0).bind fun t705=>(if t705=true then((spec_JobsOk.f k y702).bind fun t706=>(if t706=true then(some (y702,true)) else((spec_l29Copy.f l0).bind fun t707=>(some (t707,false))))) else((spec_l29Copy.f l0).bind fun t710=>(some (t710,false)))))) else(none)))
theorem spec_AddJob.W1 {p:Prop} (h:p:=by
    go_enter func87,ntmps87
    try go_wp2_with (first|((with_reducible refine gate_dst (N:=3) rfl ?_);refine Fix.be 3 #[V I a1_0,V I a1_1,V I a1_2,O a1_3,V I a1_4,O a1_5] 26 ?_;intro gb1 hg w1 BK1 hb;have GW1:=gE (w:=w) hg;replace HB:=eB hb;clear hb hg))
    replace BK1:=dK BK1
    replace HB:=dB HB
    refine start_ (n:=6) (S:=fun w'=>cl6 w' gb1 (V I a1_0) (V I a1_1) (V I a1_2) (O a1_3) (V I a1_4) (O a1_5)) (ds:= []) #[false,false,false,false,false,false] (by kernel_rfl) rfl rfl hh (fun hHeld=> ?_)
    generalize w1.drew=w2 at BK1 HB hHeld ⊢
    refine pu 0 (some 7) ?_
    refine tu 2 (some 9) hHeld ?_
    refine join_ (σ:=Value×Value) 2 #[true,true,true,true,false,false] (fun s_=> [(8,s_.1),(10,s_.2)]) (fun s_ w'=>(cl6 w' gb1 (V I a1_0) (V I a1_1) (V I a1_2) (O a1_3) (V I a1_4) (O a1_5))∧(Kd.R k26 26 w' w.heap.size (fun k_=>some k_≠(s_.2:Value).ownBlock∧k_≠gb1) s_.1 t1)∧(Kd.R k26 26 w' w.heap.size (fun k_=>some k_≠(s_.1:Value).ownBlock∧k_≠gb1) s_.2 y1)∧(w'.heap[gb1]? =some (.cells #[V I a1_0,V I a1_1,V I a1_2,O a1_3,V I a1_4,O a1_5] 26 (0,0)))∧(Below w.heap.size w w')) ?_ ?_
    rotate_left
    · intro hCont
      refine two_ (i:=1) (j:=3) (Ni:=some 8) (Nj:=some 10) #[true,true,true,false,false,false] #[true,false,true,true,false,false] rfl rfl rfl rfl (by kernel_rfl) (by decide) (by decide) (fun K hK=> ?_) (fun K hK=> ?_)
      · skip
        refine gs func81 #[L A0 l0.length c0] ?_
        with_reducible refine(spec_l29Copy.calls _ _ l0 t1 _ ?side1 HC1.out A1.out).mono ?_
        (case side1=>exact uZ HR1)
        rintro e w3 ⟨v1,rfl,ho1,hb⟩
        refine⟨_,rfl,?_⟩
        have HO1:=C (Kd.R_lower (Kd.R_newB ho1 (g:=gb1) (o:=.cells #[V I a1_0,V I a1_1,V I a1_2,O a1_3,V I a1_4,O a1_5] 26 (0,0)) (uK BK1.out)) (below_size uB))
        replace BK1:=eK BK1 hb
        replace HB:=eB hb
        (try clear hb)
        refine hK.out _ _ hh (fun hHeld=> ?_)
        clear hK K
        refine nu (N:=(some 8)) ?_
        refine ou 3 (some 10) (fun K hK=> ?_)
        refine Kd.R_lit_step k26 _ 26 ?hg (N:=10) ?hd (xs:=([(⟨a1_0,a1_1,a1_2,a1_3,a1_4,a1_5⟩:S26)]:List (S26))) (inner:= [V I a1_0,V I a1_1,V I a1_2,O a1_3,V I a1_4,O a1_5]) (ok:=fun _=>True) (okp:=fun _=>True) ?hr ?hp (fun _ hk=>hk) trivial (Below.refl _ _) (Nat.le_refl _) (by simp) ?_;(case hd=>rfl);(case hg=>rfl);(case hr=>exact Fix.hr);(case hp=>exact(Reps.c6 (show Kd.M k26 _ _ _ (⟨a1_0,a1_1,a1_2,a1_3,a1_4,a1_5⟩:S26) [V I a1_0,V I a1_1,V I a1_2,O a1_3,V I a1_4,O a1_5] from(k26_mkM _ _ _ (⟨a1_0,a1_1,a1_2,a1_3,a1_4,a1_5⟩:S26))) (Reps.none _ _)))
        intro v2 w4 ho2 hb hg_ hnew_
        clear hg_ hnew_
        (first|rw[←Ny1.out]at ho2|(simp only[Int.reduceToNat]at ho2;rw[←Ny1.out]at ho2))
        have HO2:=C (Kd.R_lower (Kd.R_newB (Kd.R_new' ho2 (Kd.R_lt (uR HO1.out))) (g:=gb1) (o:=.cells #[V I a1_0,V I a1_1,V I a1_2,O a1_3,V I a1_4,O a1_5] 26 (0,0)) (uK BK1.out)) (below_size uB))
        replace HO1:=C (Kd.R_elder' (uR HO1.out) (Kd.R_base ho2) hb)
        replace BK1:=eK BK1 hb
        replace HB:=eB hb
        clear hb ho2
        refine hK.out _ _ hh (fun hHeld=> ?_)
        clear hK K
        refine nu (N:=(some 10)) ?_
        exact norm_ (by simp only[putAll,Act.put,List.setIfInBounds_toArray,List.set_cons_zero,List.set_cons_succ]) (hCont (v1,v2) _ ⟨hHeld,(X (fR HO1.out) (fun _ hk=>⟨hk.2,hk.1.2⟩)),(X (fR HO2.out) (fun _ hk=>⟨hk.1.2,hk.2⟩)),(uK BK1.out),uB⟩)
      · skip
        refine Kd.R_lit_step k26 _ 26 ?hg (N:=10) ?hd (xs:=([(⟨a1_0,a1_1,a1_2,a1_3,a1_4,a1_5⟩:S26)]:List (S26))) (inner:= [V I a1_0,V I a1_1,V I a1_2,O a1_3,V I a1_4,O a1_5]) (ok:=fun _=>True) (okp:=fun _=>True) ?hr ?hp (fun _ hk=>hk) trivial (Below.refl _ _) (Nat.le_refl _) (by simp) ?_;(case hd=>rfl);(case hg=>rfl);(case hr=>exact Fix.hr);(case hp=>exact(Reps.c6 (show Kd.M k26 _ _ _ (⟨a1_0,a1_1,a1_2,a1_3,a1_4,a1_5⟩:S26) [V I a1_0,V I a1_1,V I a1_2,O a1_3,V I a1_4,O a1_5] from(k26_mkM _ _ _ (⟨a1_0,a1_1,a1_2,a1_3,a1_4,a1_5⟩:S26))) (Reps.none _ _)))
        intro v1 w3 ho1 hb hg_ hnew_
        clear hg_ hnew_
        (first|rw[←Ny1.out]at ho1|(simp only[Int.reduceToNat]at ho1;rw[←Ny1.out]at ho1))
        have HO1:=C (Kd.R_lower (Kd.R_newB ho1 (g:=gb1) (o:=.cells #[V I a1_0,V I a1_1,V I a1_2,O a1_3,V I a1_4,O a1_5] 26 (0,0)) (uK BK1.out)) (below_size uB))
        replace BK1:=eK BK1 hb
        replace HB:=eB hb
        clear hb ho1
        refine hK.out _ _ hh (fun hHeld=> ?_)
        clear hK K
        refine nu (N:=(some 10)) ?_
        refine ou 1 (some 8) (fun K hK=> ?_)
        refine gs func81 #[L A0 l0.length c0] ?_
        with_reducible refine(spec_l29Copy.calls _ _ l0 t1 _ ?side1 HC1.out A1.out).mono ?_
        (case side1=>exact uZ HR1)
        rintro e w4 ⟨v2,rfl,ho2,hb⟩
        refine⟨_,rfl,?_⟩
        have HO2:=C (Kd.R_lower (Kd.R_newB (Kd.R_new' ho2 (Kd.R_lt (uR HO1.out))) (g:=gb1) (o:=.cells #[V I a1_0,V I a1_1,V I a1_2,O a1_3,V I a1_4,O a1_5] 26 (0,0)) (uK BK1.out)) (below_size uB))
        replace HO1:=C (Kd.R_elder' (uR HO1.out) (Kd.R_base ho2) hb)
        replace BK1:=eK BK1 hb
        replace HB:=eB hb
        (try clear hb)
        refine hK.out _ _ hh (fun hHeld=> ?_)
        clear hK K
        refine nu (N:=(some 8)) ?_
        exact norm_ (by simp only[putAll,Act.put,List.setIfInBounds_toArray,List.set_cons_zero,List.set_cons_succ]) (hCont (v2,v1) _ ⟨hHeld,(X (fR HO2.out) (fun _ hk=>⟨hk.1.2,hk.2⟩)),(X (fR HO1.out) (fun _ hk=>⟨hk.2,hk.1.2⟩)),(uK BK1.out),uB⟩)
    rintro⟨v1,v2⟩ w3 ⟨hS_,h1_,h2_,h3_,h4_⟩
    have n0_:D (Kd.R k26 26 w3 w.heap.size (fun k_=>qm k_ v2∧k_≠gb1) v1 t1):=⟨h1_⟩
    have n1_:D (Kd.R k26 26 w3 w.heap.size (fun k_=>qm k_ v1∧k_≠gb1) v2 y1):=⟨h2_⟩
    have n2_:D (w3.heap[gb1]? =some (.cells #[V I a1_0,V I a1_1,V I a1_2,O a1_3,V I a1_4,O a1_5] 26 (0,0))):=⟨h3_⟩
    have n3_:D (Below w.heap.size w w3):=⟨h4_⟩
    clear BK1
    clear HB
    clear h1_ h2_ h3_ h4_
    have HO1:=n0_
    have HO2:=n1_
    have BK1:=n2_
    have HB:=n3_
    clear n0_ n1_ n2_ n3_
    have hHeld:w3.cell? ⟨gb1,0,none⟩=some (V I a1_0)∧w3.cell? ⟨gb1,1,none⟩=some (V I a1_1)∧w3.cell? ⟨gb1,2,none⟩=some (V I a1_2)∧w3.cell? ⟨gb1,3,none⟩=some (O a1_3)∧w3.cell? ⟨gb1,4,none⟩=some (V I a1_4)∧w3.cell? ⟨gb1,5,none⟩=some (O a1_5):=hS_
    obtain⟨Ao1,co1,eo1⟩:=Kd.R_slice HO2.out
    (first|subst eo1|(injection eo1 with f1_ f2_ f3_;have f4_:=f1_.symm;have f5_:=f3_.symm;clear f1_ f2_ f3_;subst f4_;subst f5_))
    refine norm_ (a':= ?_) ?_ ?_
    rotate_left
    · simp only[putAll,Act.put,List.setIfInBounds_toArray,List.set_cons_zero,List.set_cons_succ]
      rfl
    refine ou 4 (some 11) (fun K hK=> ?_)
    refine Kd.R_append_rows_step k26 (w0:=w) w.heap.size (by rfl) (.tmp 8) (.tmp 10) 24 26 (G #[(V I 0),(V I 0),(V I 0),(O false),(V I 0),(O false)]) 48 rfl underlying24 info26 rfl (by decide) (by omega) v1 t1 y1 _ _ _ (fun k_=>qn k_ Ao1 y1.length co1∧k_≠gb1) (fun _=>False) rfl rfl ?aO ?aR (fun _ _ h=>h) (fun _ h=>h.elim) ?aF ?aB ?aS ?aL ?_
    (case aR=>exact uC (Kd.R_reads' HO2.out).2.2)
    (case aB=>exact uB)
    (case aF=>exact(fun k_ hk=>⟨Kd.fresh' (Kd.R_lt (uR HO2.out)) k_ hk,Kd.freshB (g:=gb1) (o:=.cells #[V I a1_0,V I a1_1,V I a1_2,O a1_3,V I a1_4,O a1_5] 26 (0,0)) (uK BK1.out) k_ hk⟩))
    (case aO=>exact(uR HO1.out))
    (case aS=>exact(below_size uB))
    (case aL=>have:=LMc1.out;omega)
    intro v3 w4 ho hb hg hat
    rw[←Ny2.out]at ho
    have HO3:=C (ho)
    replace BK1:=gK BK1 hg (Kd.R_away HO1.out (fun _ hk=>hk.2))
    replace HO2:=C (Kd.R_after (ok:=(fun k_=>k_≠gb1)) (X (fR HO2.out) (fun _ hk=>⟨hk.2,hk.1⟩)) hg hat)
    replace HB:=C (hb)
    clear HO1
    clear ho hb hg hat
    refine hK.out _ _ hh (fun hHeld=> ?_)
    clear hK K
    refine nu (N:=(some 11)) ?_
    refine pu 5 (some 6) ?_
    refine done_ (by kernel_rfl) ?_
    first
      | (try go_wp2_with (first | ((with_reducible refine F (f := 83) rfl ?_); refine gl 83 (some 13) func83 #[L A0 l0.length c0] ?_; (with_reducible refine (spec_JobsOk.calls k _ _ l0 true _ ?side1 HC1.out A2.out).mono ?_); (case side1 => exact uZ HR1); rintro e w5 ⟨rfl, hb⟩; refine ⟨_, rfl, ?_⟩; replace HO2 := eR HO2 hb; replace HO3 := eR HO3 hb; replace BK1 := eK BK1 hb; replace HB := eB hb; clear hb; obtain ⟨Ao2, co2, rfl⟩ := Kd.R_slice HO3.out) | (go_at_call 83; (with_reducible refine (spec_JobsOk.calls k _ _ y2 true _ ?side1 ?side2 A3.out).mono ?_); (case side1 => exact uC (Kd.R_reads' HO3.out).2.2); (case side2 => exact (Kd.R_reads' HO3.out).2.1); rintro e w6 ⟨rfl, hb⟩; replace HO2 := eR HO2 hb; replace HO3 := eR HO3 hb; replace BK1 := eK BK1 hb; replace HB := eB hb; clear hb))
         go_ret2
         exact⟨_,rE,X (fR HO3.out) (fun _ hk=>trivial),uB⟩)
      | (try go_wp2_with (first | ((with_reducible refine F (f := 83) rfl ?_); refine gl 83 (some 13) func83 #[L A0 l0.length c0] ?_; (with_reducible refine (spec_JobsOk.calls k _ _ l0 true _ ?side1 HC1.out A2.out).mono ?_); (case side1 => exact uZ HR1); rintro e w5 ⟨rfl, hb⟩; refine ⟨_, rfl, ?_⟩; replace HO2 := eR HO2 hb; replace HO3 := eR HO3 hb; replace BK1 := eK BK1 hb; replace HB := eB hb; clear hb; obtain ⟨Ao2, co2, rfl⟩ := Kd.R_slice HO3.out) | (go_at_call 83; (with_reducible refine (spec_JobsOk.calls k _ _ y2 false _ ?side1 ?side2 A3.out).mono ?_); (case side1 => exact uC (Kd.R_reads' HO3.out).2.2); (case side2 => exact (Kd.R_reads' HO3.out).2.1); rintro e w6 ⟨rfl, hb⟩; replace HO2 := eR HO2 hb; replace HO3 := eR HO3 hb; replace BK1 := eK BK1 hb; replace HB := eB hb; clear hb) | ((with_reducible refine F (f := 81) rfl ?_); refine gl 81 (some 21) func81 #[L A0 l0.length c0] ?_; (with_reducible refine (spec_l29Copy.calls _ _ l0 t4 _ ?side1 HC1.out A4.out).mono ?_); (case side1 => exact uZ HR1); rintro e w7 ⟨v4, rfl, ho1, hb⟩; refine ⟨_, rfl, ?_⟩; have HO4 := C (Kd.R_lower (Kd.R_newB (Kd.R_new' (Kd.R_new' ho1 (Kd.R_lt (uR HO2.out))) (Kd.R_lt (uR HO3.out))) (g := gb1) (o := .cells #[V I a1_0, V I a1_1, V I a1_2, O a1_3, V I a1_4, O a1_5] 26 (0, 0)) (uK BK1.out)) (below_size uB)); replace HO2 := C (Kd.R_elder' (uR HO2.out) (Kd.R_base ho1) hb); replace HO3 := C (Kd.R_elder' (uR HO3.out) (Kd.R_base ho1) hb); replace BK1 := eK BK1 hb; replace HB := eB hb; clear hb ho1))
         go_ret2
         exact⟨_,rE,X (fR HO4.out) (fun _ hk=>trivial),uB⟩)):p:=h
theorem spec_AddJob.calls (k:Nat) (A0:Option Addr) (c0:Nat) (l0:List (S26)) (a1_0:Int) (a1_1:Int) (a1_2:Int) (a1_3:Bool) (a1_4:Int) (a1_5:Bool) (r1:List (S26)) (r2:Bool) (w:World) (hr0:Kd.C k26 w A0 l0.length l0) (hc0:l0.length≤c0) (h:spec_AddJob.f k l0 a1_0 a1_1 a1_2 a1_3 a1_4 a1_5=some (r1,r2)):
 Calls prog 87 #[L A0 l0.length c0,G #[V I a1_0,V I a1_1,V I a1_2,O a1_3,V I a1_4,O a1_5]] w fun e w'=>∃v0_:Value,e=.returned (.tuple #[v0_,O r2])∧Kd.R k26 26 w' w.heap.size (fun _=>True) v0_ r1∧Below w.heap.size w w':=by
 have hu1:=underlying26
 have HR1:=C hr0
 have HC1:=C hc0
 (try clear hr0);(try clear hc0)
 have HB:=C (Below.refl w.heap.size w)
 have H:=h
 unfold spec_AddJob.f at H
 clear h
 obtain⟨t1,A1,H⟩:=bnd H
 obtain⟨y1,hy1⟩:∃y_:List (S26),y_=(([(⟨a1_0,a1_1,a1_2,a1_3,a1_4,a1_5⟩:S26)]:List (S26))):=⟨_,rfl⟩
 replace H:(if t1.length+y1.length<2932031007402 then((some (t1++y1:List (S26))).bind fun y2=>((spec_JobsOk.f k l0).bind fun t2=>(if t2=true then((spec_JobsOk.f k y2).bind fun t3=>(if t3=true then(some (y2,true)) else((spec_l29Copy.f l0).bind fun t4=>(some (t4,false))))) else((spec_l29Copy.f l0).bind fun t5=>(some (t5,false)))))) else(none))=some (r1,r2):=gy hy1 H
 have Ny1:=C hy1
 clear hy1
 obtain⟨c1,H⟩:=np H
 have LMc1:=C c1
 clear c1
 obtain⟨y2,hy2⟩:∃y_:List (S26),y_=(t1++y1):=⟨_,rfl⟩
 replace H:((spec_JobsOk.f k l0).bind fun t2=>(if t2=true then((spec_JobsOk.f k y2).bind fun t3=>(if t3=true then(some (y2,true)) else((spec_l29Copy.f l0).bind fun t4=>(some (t4,false))))) else((spec_l29Copy.f l0).bind fun t5=>(some (t5,false)))))=some (r1,r2):=gy hy2 H
 have Ny2:=C hy2
 clear hy2
 obtain⟨t2,A2,H⟩:=bnd H
 by_cases c2:t2=true
 ·subst c2
  rw[if_pos rfl]at H
  obtain⟨t3,A3,H⟩:=bnd H
  by_cases c3:t3=true
  ·subst c3
   rw[if_pos rfl]at H
   simp only[Option.some.injEq,Prod.mk.injEq]at H
   obtain⟨rfl,rfl⟩:=H
   exact spec_AddJob.W1
  obtain rfl:=nt c3
  replace H:=nf H
  obtain⟨t4,A4,H⟩:=bnd H
  simp only[Option.some.injEq,Prod.mk.injEq]at H
  obtain⟨rfl,rfl⟩:=H
  exact spec_AddJob.W1
 obtain rfl:=nt c2
 replace H:=nf H
 obtain⟨t5,A3,H⟩:=bnd H
 simp only[Option.some.injEq,Prod.mk.injEq]at H
 obtain⟨rfl,rfl⟩:=H
 go_enter func87,ntmps87
 try go_wp2_with (first|((with_reducible refine gate_dst (N:=3) rfl ?_);refine Fix.be 3 #[V I a1_0,V I a1_1,V I a1_2,O a1_3,V I a1_4,O a1_5] 26 ?_;intro gb1 hg w1 BK1 hb;have GW1:=gE (w:=w) hg;replace HB:=eB hb;clear hb hg))
 replace BK1:=dK BK1
 replace HB:=dB HB
 refine start_ (n:=6) (S:=fun w'=>cl6 w' gb1 (V I a1_0) (V I a1_1) (V I a1_2) (O a1_3) (V I a1_4) (O a1_5)) (ds:= []) #[false,false,false,false,false,false] (by kernel_rfl) rfl rfl hh (fun hHeld=> ?_)
 generalize w1.drew=w2 at BK1 HB hHeld ⊢
 refine pu 0 (some 7) ?_
 refine tu 2 (some 9) hHeld ?_
 refine join_ (σ:=Value×Value) 2 #[true,true,true,true,false,false] (fun s_=> [(8,s_.1),(10,s_.2)]) (fun s_ w'=>(cl6 w' gb1 (V I a1_0) (V I a1_1) (V I a1_2) (O a1_3) (V I a1_4) (O a1_5))∧(Kd.R k26 26 w' w.heap.size (fun k_=>some k_≠(s_.2:Value).ownBlock∧k_≠gb1) s_.1 t1)∧(Kd.R k26 26 w' w.heap.size (fun k_=>some k_≠(s_.1:Value).ownBlock∧k_≠gb1) s_.2 y1)∧(w'.heap[gb1]? =some (.cells #[V I a1_0,V I a1_1,V I a1_2,O a1_3,V I a1_4,O a1_5] 26 (0,0)))∧(Below w.heap.size w w')) ?_ ?_
 rotate_left
 ·intro hCont
  refine two_ (i:=1) (j:=3) (Ni:=some 8) (Nj:=some 10) #[true,true,true,false,false,false] #[true,false,true,true,false,false] rfl rfl rfl rfl (by kernel_rfl) (by decide) (by decide) (fun K hK=> ?_) (fun K hK=> ?_)
  ·skip
   refine gs func81 #[L A0 l0.length c0] ?_
   with_reducible refine(spec_l29Copy.calls _ _ l0 t1 _ ?side1 HC1.out A1.out).mono ?_
   (case side1=>exact uZ HR1)
   rintro e w3 ⟨v1,rfl,ho1,hb⟩
   refine⟨_,rfl,?_⟩
   have HO1:=C (Kd.R_lower (Kd.R_newB ho1 (g:=gb1) (o:=.cells #[V I a1_0,V I a1_1,V I a1_2,O a1_3,V I a1_4,O a1_5] 26 (0,0)) (uK BK1.out)) (below_size uB))
   replace BK1:=eK BK1 hb
   replace HB:=eB hb
   (try clear hb)
   refine hK.out _ _ hh (fun hHeld=> ?_)
   clear hK K
   refine nu (N:=(some 8)) ?_
   refine ou 3 (some 10) (fun K hK=> ?_)
   refine Kd.R_lit_step k26 _ 26 ?hg (N:=10) ?hd (xs:=([(⟨a1_0,a1_1,a1_2,a1_3,a1_4,a1_5⟩:S26)]:List (S26))) (inner:= [V I a1_0,V I a1_1,V I a1_2,O a1_3,V I a1_4,O a1_5]) (ok:=fun _=>True) (okp:=fun _=>True) ?hr ?hp (fun _ hk=>hk) trivial (Below.refl _ _) (Nat.le_refl _) (by simp) ?_;(case hd=>rfl);(case hg=>rfl);(case hr=>exact Fix.hr);(case hp=>exact(Reps.c6 (show Kd.M k26 _ _ _ (⟨a1_0,a1_1,a1_2,a1_3,a1_4,a1_5⟩:S26) [V I a1_0,V I a1_1,V I a1_2,O a1_3,V I a1_4,O a1_5] from(k26_mkM _ _ _ (⟨a1_0,a1_1,a1_2,a1_3,a1_4,a1_5⟩:S26))) (Reps.none _ _)))
   intro v2 w4 ho2 hb hg_ hnew_
   clear hg_ hnew_
   (first|rw[←Ny1.out]at ho2|(simp only[Int.reduceToNat]at ho2;rw[←Ny1.out]at ho2))
   have HO2:=C (Kd.R_lower (Kd.R_newB (Kd.R_new' ho2 (Kd.R_lt (uR HO1.out))) (g:=gb1) (o:=.cells #[V I a1_0,V I a1_1,V I a1_2,O a1_3,V I a1_4,O a1_5] 26 (0,0)) (uK BK1.out)) (below_size uB))
   replace HO1:=C (Kd.R_elder' (uR HO1.out) (Kd.R_base ho2) hb)
   replace BK1:=eK BK1 hb
   replace HB:=eB hb
   clear hb ho2
   refine hK.out _ _ hh (fun hHeld=> ?_)
   clear hK K
   refine nu (N:=(some 10)) ?_
   exact norm_ (by simp only[putAll,Act.put,List.setIfInBounds_toArray,List.set_cons_zero,List.set_cons_succ]) (hCont (v1,v2) _ ⟨hHeld,(X (fR HO1.out) (fun _ hk=>⟨hk.2,hk.1.2⟩)),(X (fR HO2.out) (fun _ hk=>⟨hk.1.2,hk.2⟩)),(uK BK1.out),uB⟩)
  ·skip
   refine Kd.R_lit_step k26 _ 26 ?hg (N:=10) ?hd (xs:=([(⟨a1_0,a1_1,a1_2,a1_3,a1_4,a1_5⟩:S26)]:List (S26))) (inner:= [V I a1_0,V I a1_1,V I a1_2,O a1_3,V I a1_4,O a1_5]) (ok:=fun _=>True) (okp:=fun _=>True) ?hr ?hp (fun _ hk=>hk) trivial (Below.refl _ _) (Nat.le_refl _) (by simp) ?_;(case hd=>rfl);(case hg=>rfl);(case hr=>exact Fix.hr);(case hp=>exact(Reps.c6 (show Kd.M k26 _ _ _ (⟨a1_0,a1_1,a1_2,a1_3,a1_4,a1_5⟩:S26) [V I a1_0,V I a1_1,V I a1_2,O a1_3,V I a1_4,O a1_5] from(k26_mkM _ _ _ (⟨a1_0,a1_1,a1_2,a1_3,a1_4,a1_5⟩:S26))) (Reps.none _ _)))
   intro v1 w3 ho1 hb hg_ hnew_
   clear hg_ hnew_
   (first|rw[←Ny1.out]at ho1|(simp only[Int.reduceToNat]at ho1;rw[←Ny1.out]at ho1))
   have HO1:=C (Kd.R_lower (Kd.R_newB ho1 (g:=gb1) (o:=.cells #[V I a1_0,V I a1_1,V I a1_2,O a1_3,V I a1_4,O a1_5] 26 (0,0)) (uK BK1.out)) (below_size uB))
   replace BK1:=eK BK1 hb
   replace HB:=eB hb
   clear hb ho1
   refine hK.out _ _ hh (fun hHeld=> ?_)
   clear hK K
   refine nu (N:=(some 10)) ?_
   refine ou 1 (some 8) (fun K hK=> ?_)
   refine gs func81 #[L A0 l0.length c0] ?_
   with_reducible refine(spec_l29Copy.calls _ _ l0 t1 _ ?side1 HC1.out A1.out).mono ?_
   (case side1=>exact uZ HR1)
   rintro e w4 ⟨v2,rfl,ho2,hb⟩
   refine⟨_,rfl,?_⟩
   have HO2:=C (Kd.R_lower (Kd.R_newB (Kd.R_new' ho2 (Kd.R_lt (uR HO1.out))) (g:=gb1) (o:=.cells #[V I a1_0,V I a1_1,V I a1_2,O a1_3,V I a1_4,O a1_5] 26 (0,0)) (uK BK1.out)) (below_size uB))
   replace HO1:=C (Kd.R_elder' (uR HO1.out) (Kd.R_base ho2) hb)
   replace BK1:=eK BK1 hb
   replace HB:=eB hb
   (try clear hb)
   refine hK.out _ _ hh (fun hHeld=> ?_)
   clear hK K
   refine nu (N:=(some 8)) ?_
   exact norm_ (by simp only[putAll,Act.put,List.setIfInBounds_toArray,List.set_cons_zero,List.set_cons_succ]) (hCont (v2,v1) _ ⟨hHeld,(X (fR HO2.out) (fun _ hk=>⟨hk.1.2,hk.2⟩)),(X (fR HO1.out) (fun _ hk=>⟨hk.2,hk.1.2⟩)),(uK BK1.out),uB⟩)
 rintro⟨v1,v2⟩ w3 ⟨hS_,h1_,h2_,h3_,h4_⟩
 have n0_:D (Kd.R k26 26 w3 w.heap.size (fun k_=>qm k_ v2∧k_≠gb1) v1 t1):=⟨h1_⟩
 have n1_:D (Kd.R k26 26 w3 w.heap.size (fun k_=>qm k_ v1∧k_≠gb1) v2 y1):=⟨h2_⟩
 have n2_:D (w3.heap[gb1]? =some (.cells #[V I a1_0,V I a1_1,V I a1_2,O a1_3,V I a1_4,O a1_5] 26 (0,0))):=⟨h3_⟩
 have n3_:D (Below w.heap.size w w3):=⟨h4_⟩
 clear BK1
 clear HB
 clear h1_ h2_ h3_ h4_
 have HO1:=n0_
 have HO2:=n1_
 have BK1:=n2_
 have HB:=n3_
 clear n0_ n1_ n2_ n3_
 have hHeld:w3.cell? ⟨gb1,0,none⟩=some (V I a1_0)∧w3.cell? ⟨gb1,1,none⟩=some (V I a1_1)∧w3.cell? ⟨gb1,2,none⟩=some (V I a1_2)∧w3.cell? ⟨gb1,3,none⟩=some (O a1_3)∧w3.cell? ⟨gb1,4,none⟩=some (V I a1_4)∧w3.cell? ⟨gb1,5,none⟩=some (O a1_5):=hS_
 obtain⟨Ao1,co1,eo1⟩:=Kd.R_slice HO2.out
 (first|subst eo1|(injection eo1 with f1_ f2_ f3_;have f4_:=f1_.symm;have f5_:=f3_.symm;clear f1_ f2_ f3_;subst f4_;subst f5_))
 refine norm_ (a':= ?_) ?_ ?_
 rotate_left
 ·simp only[putAll,Act.put,List.setIfInBounds_toArray,List.set_cons_zero,List.set_cons_succ]
  rfl
 refine ou 4 (some 11) (fun K hK=> ?_)
 refine Kd.R_append_rows_step k26 (w0:=w) w.heap.size (by rfl) (.tmp 8) (.tmp 10) 24 26 (G #[(V I 0),(V I 0),(V I 0),(O false),(V I 0),(O false)]) 48 rfl underlying24 info26 rfl (by decide) (by omega) v1 t1 y1 _ _ _ (fun k_=>qn k_ Ao1 y1.length co1∧k_≠gb1) (fun _=>False) rfl rfl ?aO ?aR (fun _ _ h=>h) (fun _ h=>h.elim) ?aF ?aB ?aS ?aL ?_
 (case aR=>exact uC (Kd.R_reads' HO2.out).2.2)
 (case aB=>exact uB)
 (case aF=>exact(fun k_ hk=>⟨Kd.fresh' (Kd.R_lt (uR HO2.out)) k_ hk,Kd.freshB (g:=gb1) (o:=.cells #[V I a1_0,V I a1_1,V I a1_2,O a1_3,V I a1_4,O a1_5] 26 (0,0)) (uK BK1.out) k_ hk⟩))
 (case aO=>exact(uR HO1.out))
 (case aS=>exact(below_size uB))
 (case aL=>have:=LMc1.out;omega)
 intro v3 w4 ho hb hg hat
 rw[←Ny2.out]at ho
 have HO3:=C (ho)
 replace BK1:=gK BK1 hg (Kd.R_away HO1.out (fun _ hk=>hk.2))
 replace HO2:=C (Kd.R_after (ok:=(fun k_=>k_≠gb1)) (X (fR HO2.out) (fun _ hk=>⟨hk.2,hk.1⟩)) hg hat)
 replace HB:=C (hb)
 clear HO1
 clear ho hb hg hat
 refine hK.out _ _ hh (fun hHeld=> ?_)
 clear hK K
 refine nu (N:=(some 11)) ?_
 refine pu 5 (some 6) ?_
 refine done_ (by kernel_rfl) ?_
 try go_wp2_with (first|((with_reducible refine F (f:=83) rfl ?_);refine gl 83 (some 13) func83 #[L A0 l0.length c0] ?_;(with_reducible refine(spec_JobsOk.calls k _ _ l0 false _ ?side1 HC1.out A2.out).mono ?_);(case side1=>exact uZ HR1);rintro e w5 ⟨rfl,hb⟩;refine⟨_,rfl,?_⟩;replace HO2:=eR HO2 hb;replace HO3:=eR HO3 hb;replace BK1:=eK BK1 hb;replace HB:=eB hb;clear hb)|((with_reducible refine F (f:=81) rfl ?_);refine gl 81 (some 21) func81 #[L A0 l0.length c0] ?_;(with_reducible refine(spec_l29Copy.calls _ _ l0 t5 _ ?side1 HC1.out A3.out).mono ?_);(case side1=>exact uZ HR1);rintro e w6 ⟨v4,rfl,ho1,hb⟩;refine⟨_,rfl,?_⟩;have HO4:=C (Kd.R_lower (Kd.R_newB (Kd.R_new' (Kd.R_new' ho1 (Kd.R_lt (uR HO2.out))) (Kd.R_lt (uR HO3.out))) (g:=gb1) (o:=.cells #[V I a1_0,V I a1_1,V I a1_2,O a1_3,V I a1_4,O a1_5] 26 (0,0)) (uK BK1.out)) (below_size uB));replace HO2:=C (Kd.R_elder' (uR HO2.out) (Kd.R_base ho1) hb);replace HO3:=C (Kd.R_elder' (uR HO3.out) (Kd.R_base ho1) hb);replace BK1:=eK BK1 hb;replace HB:=eB hb;clear hb ho1))
 go_ret2
 exact⟨_,rE,X (fR HO4.out) (fun _ hk=>trivial),uB⟩
mutual
def spec_NextJob.l0:Nat→List (S26)→Int→Int→Option (Int)
  |0,_,_,_=>none
  |k+1,x0,x3,x4=>if x4<(x0.length:Int) then((spec_JobsOk.f k x0).bind fun t713=>(spec_NextJob.j1 k x0 x3 x4 t713)) else(spec_NextJob.j1 k x0 x3 x4 false)
def spec_NextJob.j1:Nat→List (S26)→Int→Int→Bool→Option (Int)
  |0,_,_,_,_=>none
  |k+1,x0,x3,x4,x12=>if x12=true then(if 0≤x4 then(if x4<(x0.length:Int) then(if((rd_T26 x0 x4).f5=true) then(spec_NextJob.l0 k x0 x3 (wrap64 (x4+1))) else(if x3<0 then(spec_NextJob.l0 k x0 x4 (wrap64 (x4+1))) else(if 0≤x3 then(if x3<(x0.length:Int) then(if((rd_T26 x0 x4).f4) >((rd_T26 x0 x3).f4) then(spec_NextJob.l0 k x0 x4 (wrap64 (x4+1))) else(spec_NextJob.l0 k x0 x3 (wrap64 (x4+1)))) else(none)) else(none)))) else(none)) else(none)) else(some x3)
end
def spec_NextJob.f (k:Nat) (l0:List (S26)):Option (Int):=spec_NextJob.l0 k l0 (-1) 0
theorem spec_NextJob.W1 {p:Prop} (h:p:=by
 go_wp2
 repeat(go_quiet (fail);try go_wp2)
 go_roundg kj1
 case measure=>have:=HK1.out;have:=HJ1.out;omega
 first
  |(case rel=>exact⟨(x1_1),(wrap64 (x2_1+1)),rS,rS,H',⟨by have:=HK1.out;have:=HJ1.out;omega⟩,⟨uB⟩⟩)
  |(case rel=>exact⟨(x2_1),(wrap64 (x2_1+1)),rS,rS,H',⟨by have:=HK1.out;have:=HJ1.out;omega⟩,⟨uB⟩⟩)):p:=h
theorem spec_NextJob.calls (k:Nat) (A0:Option Addr) (c0:Nat) (l0:List (S26)) (r:Int) (w:World) (hr0:Kd.C k26 w A0 l0.length l0) (hc0:l0.length≤c0) (h:spec_NextJob.f k l0=some r):
 Calls prog 125 #[L A0 l0.length c0] w fun e w'=>e=.returned (V I r)∧Below w.heap.size w w':=by
 have HR1:=C hr0
 have HC1:=C hc0
 (try clear hr0);(try clear hc0)
 have HB:=C (Below.refl w.heap.size w)
 have H:=h
 unfold spec_NextJob.f at H
 clear h
 have H':=C H
 clear H
 go_enter func125,ntmps125
 go_wp2
 repeat(go_quiet (fail);try go_wp2)
 go_loopg [3,4] k (fun kq v3 v4 w'=>∃(x1_1:Int) (x2_1:Int),v3=V I x1_1∧v4=V I x2_1∧D (spec_NextJob.l0 kq l0 x1_1 x2_1=some r)∧D (kq≤k)∧D (Below w.heap.size w w'))
 case atStart=>exact⟨((-1)),(0),rS,rS,H',⟨Nat.le_refl _⟩,⟨uB⟩⟩
 case round=>
  clear H'
  obtain⟨x1_1,x2_1,rfl,rfl,HA,HK1,HB⟩:=hrel
  cases gk with
  |zero=>exact absurd HA.out (by simp[spec_NextJob.l0])
  |succ k1=>
   have H:=HA.out
   clear HA
   simp only[spec_NextJob.l0]at H
   have HC2:=C H
   clear H
   go_upto_region 3 with(fail)
   repeat(go_quiet (fail);go_upto_region 3 with(fail))
   go_cut [12] (fun v12 wc=>∃(kq:Nat) (x3_1:Bool),v12=O x3_1∧D (spec_NextJob.j1 kq l0 x1_1 x2_1 x3_1=some r)∧D (kq≤k1)∧D (Below w.heap.size w wc))
   case first=>
    have H:=HC2.out
    clear HC2
    by_cases c1:x2_1<(l0.length:Int)
    rotate_left
    ·rw[if_neg c1]at H
     have c1b0:decide (x2_1<(l0.length:Int))=false:=decide_eq_false c1
     clear c1
     (first|rw[c1b0]|(simp only[i64_w,i32_w];rw[c1b0])|skip)
     have H':=C H
     clear H
     go_wp2
     repeat(go_quiet (fail);try go_wp2)
     go_meet
     case rel=>exact⟨_,(false),rS,H',⟨by have:=HK1.out;first|omega|exact Nat.le_refl _⟩,⟨uB⟩⟩
    rw[if_pos c1]at H
    have c1b0:decide (x2_1<(l0.length:Int))=true:=decide_eq_true c1
    clear c1
    (first|rw[c1b0]|(simp only[i64_w,i32_w];rw[c1b0])|skip)
    obtain⟨t1,A1,H⟩:=bnd H
    have H':=C H
    clear H
    go_wp2_with (first|(go_at_call 83;(with_reducible refine(spec_JobsOk.calls k1 _ _ l0 t1 _ ?side1 HC1.out A1.out).mono ?_);(case side1=>exact uZ HR1);rintro e w1 ⟨rfl,hb⟩;replace HB:=eB hb;clear hb))
    repeat(go_quiet (fail);try go_wp2_with (first|(go_at_call 83;(with_reducible refine(spec_JobsOk.calls k1 _ _ l0 t1 _ ?side1 HC1.out A1.out).mono ?_);(case side1=>exact uZ HR1);rintro e w1 ⟨rfl,hb⟩;replace HB:=eB hb;clear hb)))
    go_meet
    case rel=>exact⟨_,(t1),rS,H',⟨by have:=HK1.out;first|omega|exact Nat.le_refl _⟩,⟨uB⟩⟩
   case rest=>
    clear HC2
    obtain⟨kq,x3_1,rfl,HA,HJ1,HB⟩:=hcut
    cases kq with
    |zero=>exact absurd HA.out (by simp[spec_NextJob.j1])
    |succ kj1=>
     have H:=HA.out
     clear HA
     simp only[spec_NextJob.j1]at H
     by_cases c1:x3_1=true
     rotate_left
     ·obtain rfl:=nt c1
      replace H:=nf H
      obtain rfl:=si H
      go_wp2
      repeat(go_quiet (fail);try go_wp2)
      go_ret
      exact⟨rE,uB⟩
     subst c1
     rw[if_pos rfl]at H
     obtain⟨c2,H⟩:=np H
     replace c2:=decide_eq_true c2
     obtain⟨c3,H⟩:=np H
     replace c3:=decide_eq_true c3
     obtain⟨bq1,hbq1⟩:∃b_:Bool,b_=((rd_T26 l0 x2_1).f5):=⟨_,rfl⟩
     replace H:(if(bq1=true) then(spec_NextJob.l0 kj1 l0 x1_1 (wrap64 (x2_1+1))) else(if x1_1<0 then(spec_NextJob.l0 kj1 l0 x2_1 (wrap64 (x2_1+1))) else(if 0≤x1_1 then(if x1_1<(l0.length:Int) then(if((rd_T26 l0 x2_1).f4) >((rd_T26 l0 x1_1).f4) then(spec_NextJob.l0 kj1 l0 x2_1 (wrap64 (x2_1+1))) else(spec_NextJob.l0 kj1 l0 x1_1 (wrap64 (x2_1+1)))) else(none)) else(none))))=some r:=by rw[←hbq1]at H;exact H
     have Nbq1:=C hbq1
     clear hbq1
     by_cases c4:(bq1=true)
     ·subst c4
      rw[if_pos rfl]at H
      have H':=C H
      clear H
      have p1:0≤(x2_1:Int):=oT
      have q1:x2_1<(l0.length:Int):=oT
      obtain⟨ad1,e1,hx1_0,hx1_1,hx1_2,hx1_3,hx1_4,hx1_5⟩:=at_T26 HR1.out x2_1 p1 q1
      (try rw[←Nbq1.out]at hx1_3)
      (try rw[←Nbq1.out]at hx1_5)
      cases e1
      replace hx1_0:=hx HB hx1_0
      replace hx1_1:=hx HB hx1_1
      replace hx1_2:=hx HB hx1_2
      replace hx1_3:=hx HB hx1_3
      replace hx1_4:=hx HB hx1_4
      replace hx1_5:=hx HB hx1_5
      replace p1:=eq_true p1
      replace q1:=eq_true q1
      exact spec_NextJob.W1
     obtain rfl:=nt c4
     replace H:=nf H
     by_cases c5:x1_1<0
     ·rw[if_pos c5]at H
      replace c5:=decide_eq_true c5
      have H':=C H
      clear H
      have p1:0≤(x2_1:Int):=oT
      have q1:x2_1<(l0.length:Int):=oT
      obtain⟨ad1,e1,hx1_0,hx1_1,hx1_2,hx1_3,hx1_4,hx1_5⟩:=at_T26 HR1.out x2_1 p1 q1
      (try rw[←Nbq1.out]at hx1_3)
      (try rw[←Nbq1.out]at hx1_5)
      cases e1
      replace hx1_0:=hx HB hx1_0
      replace hx1_1:=hx HB hx1_1
      replace hx1_2:=hx HB hx1_2
      replace hx1_3:=hx HB hx1_3
      replace hx1_4:=hx HB hx1_4
      replace hx1_5:=hx HB hx1_5
      replace p1:=eq_true p1
      replace q1:=eq_true q1
      exact spec_NextJob.W1
     rw[if_neg c5]at H
     replace c5:=decide_eq_false c5
     obtain⟨c6,H⟩:=np H
     replace c6:=decide_eq_true c6
     obtain⟨c7,H⟩:=np H
     replace c7:=decide_eq_true c7
     by_cases c8:((rd_T26 l0 x2_1).f4) >((rd_T26 l0 x1_1).f4)
     ·rw[if_pos c8]at H
      replace c8:=decide_eq_true c8
      have H':=C H
      clear H
      have p1:0≤(x2_1:Int):=oT
      have q1:x2_1<(l0.length:Int):=oT
      obtain⟨ad1,e1,hx1_0,hx1_1,hx1_2,hx1_3,hx1_4,hx1_5⟩:=at_T26 HR1.out x2_1 p1 q1
      (try rw[←Nbq1.out]at hx1_3)
      (try rw[←Nbq1.out]at hx1_5)
      cases e1
      replace hx1_0:=hx HB hx1_0
      replace hx1_1:=hx HB hx1_1
      replace hx1_2:=hx HB hx1_2
      replace hx1_3:=hx HB hx1_3
      replace hx1_4:=hx HB hx1_4
      replace hx1_5:=hx HB hx1_5
      replace p1:=eq_true p1
      replace q1:=eq_true q1
      have p2:0≤(x2_1:Int):=oT
      have q2:x2_1<(l0.length:Int):=oT
      obtain⟨ad2,e2,hx2_0,hx2_1,hx2_2,hx2_3,hx2_4,hx2_5⟩:=at_T26 HR1.out x2_1 p2 q2
      (try rw[←Nbq1.out]at hx2_3)
      (try rw[←Nbq1.out]at hx2_5)
      obtain rfl:ad1=ad2:=(by injection e2)
      replace hx2_0:=hx HB hx2_0
      replace hx2_1:=hx HB hx2_1
      replace hx2_2:=hx HB hx2_2
      replace hx2_3:=hx HB hx2_3
      replace hx2_4:=hx HB hx2_4
      replace hx2_5:=hx HB hx2_5
      replace p2:=eq_true p2
      replace q2:=eq_true q2
      have p3:0≤(x1_1:Int):=oT
      have q3:x1_1<(l0.length:Int):=oT
      obtain⟨ad3,e3,hx3_0,hx3_1,hx3_2,hx3_3,hx3_4,hx3_5⟩:=at_T26 HR1.out x1_1 p3 q3
      (try rw[←Nbq1.out]at hx3_3)
      (try rw[←Nbq1.out]at hx3_5)
      obtain rfl:ad1=ad3:=(by injection e3)
      replace hx3_0:=hx HB hx3_0
      replace hx3_1:=hx HB hx3_1
      replace hx3_2:=hx HB hx3_2
      replace hx3_3:=hx HB hx3_3
      replace hx3_4:=hx HB hx3_4
      replace hx3_5:=hx HB hx3_5
      replace p3:=eq_true p3
      replace q3:=eq_true q3
      exact spec_NextJob.W1
     rw[if_neg c8]at H
     replace c8:=decide_eq_false c8
     have H':=C H
     clear H
     have p1:0≤(x2_1:Int):=oT
     have q1:x2_1<(l0.length:Int):=oT
     obtain⟨ad1,e1,hx1_0,hx1_1,hx1_2,hx1_3,hx1_4,hx1_5⟩:=at_T26 HR1.out x2_1 p1 q1
     (try rw[←Nbq1.out]at hx1_3)
     (try rw[←Nbq1.out]at hx1_5)
     cases e1
     replace hx1_0:=hx HB hx1_0
     replace hx1_1:=hx HB hx1_1
     replace hx1_2:=hx HB hx1_2
     replace hx1_3:=hx HB hx1_3
     replace hx1_4:=hx HB hx1_4
     replace hx1_5:=hx HB hx1_5
     replace p1:=eq_true p1
     replace q1:=eq_true q1
     have p2:0≤(x2_1:Int):=oT
     have q2:x2_1<(l0.length:Int):=oT
     obtain⟨ad2,e2,hx2_0,hx2_1,hx2_2,hx2_3,hx2_4,hx2_5⟩:=at_T26 HR1.out x2_1 p2 q2
     (try rw[←Nbq1.out]at hx2_3)
     (try rw[←Nbq1.out]at hx2_5)
     obtain rfl:ad1=ad2:=(by injection e2)
     replace hx2_0:=hx HB hx2_0
     replace hx2_1:=hx HB hx2_1
     replace hx2_2:=hx HB hx2_2
     replace hx2_3:=hx HB hx2_3
     replace hx2_4:=hx HB hx2_4
     replace hx2_5:=hx HB hx2_5
     replace p2:=eq_true p2
     replace q2:=eq_true q2
     have p3:0≤(x1_1:Int):=oT
     have q3:x1_1<(l0.length:Int):=oT
     obtain⟨ad3,e3,hx3_0,hx3_1,hx3_2,hx3_3,hx3_4,hx3_5⟩:=at_T26 HR1.out x1_1 p3 q3
     (try rw[←Nbq1.out]at hx3_3)
     (try rw[←Nbq1.out]at hx3_5)
     obtain rfl:ad1=ad3:=(by injection e3)
     replace hx3_0:=hx HB hx3_0
     replace hx3_1:=hx HB hx3_1
     replace hx3_2:=hx HB hx3_2
     replace hx3_3:=hx HB hx3_3
     replace hx3_4:=hx HB hx3_4
     replace hx3_5:=hx HB hx3_5
     replace p3:=eq_true p3
     replace q3:=eq_true q3
     exact spec_NextJob.W1
def spec_TakeJob.f (k:Nat) (l0:List (S26)):Option ((List (S26))×Int×Int×Int×Bool×Int×Bool×Bool):=(spec_NextJob.f k l0).bind fun t718=>(if t718<0 then((spec_l29Copy.f l0).bind fun t719=>(some (t719,0,0,0,false,0,false,false))) else(if 0≤t718 then(if t718≤(l0.length:Int) then((spec_l29Copy.f (l0.take (t718:Int).toNat)).bind fun t726=>(if 0≤(wrap64 (t718+1)) then(if(wrap64 (t718+1))≤(l0.length:Int) then((some (l0.drop ((wrap64 (t718+1)):Int).toNat:List (S26))).bind fun y729=>(if t726.length+y729.length<2932031007402 then(if t718<(l0.length:Int) then(some ((t726++y729),(rd_T26 l0 t718).f0,(rd_T26 l0 t718).f1,(rd_T26 l0 t718).f2,(rd_T26 l0 t718).f3,(rd_T26 l0 t718).f4,(rd_T26 l0 t718).f5,true)) else(none)) else(none))) else(none)) else(none))) else(none)) else(none)))
def spec_TakeJob.T4:Bool×List (List Nat×List Nat):=(true,[([],[]),([],[]),([0,1],[0,1]),([2],[2]),([],[]),([],[]),([5],[5]),([4,6],[4,6]),([3,7,3],[3,7]),([],[]),([],[]),([9,10],[9,10]),([11],[11]),([8,8,0,1,2,3,4,5,6,7,8],[8]),([12,13,0,1,2,3,4,5,6,7,8,9,10,11,12,13],[12]),([14,0,1,2,3,4,5,6,7,8,9,10,11,12,13,14],[])])
def spec_TakeJob.B4:List Nat:= [0,0,3,7,0,0,32,112,255,0,0,1536,3584,511,16383,32767]
theorem spec_TakeJob.tab4:rtab .any (opsOf Tryz.f109 4)=spec_TakeJob.T4:=by kernel_rfl
theorem spec_TakeJob.bits4:waitsOk spec_TakeJob.T4.2 spec_TakeJob.B4=true:=by kernel_rfl
theorem spec_TakeJob.calls (k:Nat) (A0:Option Addr) (c0:Nat) (l0:List (S26)) (r1:List (S26)) (r2:Int) (r3:Int) (r4:Int) (r5:Bool) (r6:Int) (r7:Bool) (r8:Bool) (w:World) (hr0:Kd.C k26 w A0 l0.length l0) (hc0:l0.length≤c0) (h:spec_TakeJob.f k l0=some (r1,r2,r3,r4,r5,r6,r7,r8)):
 Calls prog 109 #[L A0 l0.length c0] w fun e w'=>∃v0_:Value,e=.returned (.tuple #[v0_,G #[V I r2,V I r3,V I r4,O r5,V I r6,O r7],O r8])∧Kd.R k26 26 w' w.heap.size (fun _=>True) v0_ r1∧Below w.heap.size w w':=by
 have hu1:=underlying26
 have HR1:=C hr0
 have HC1:=C hc0
 (try clear hr0);(try clear hc0)
 have HB:=C (Below.refl w.heap.size w)
 have H:=h
 unfold spec_TakeJob.f at H
 clear h
 obtain⟨t1,A2,H⟩:=bnd H
 by_cases c2:t1<0
 ·rw[if_pos c2]at H
  replace c2:=decide_eq_true c2
  obtain⟨t2,A3,H⟩:=bnd H
  simp only[Option.some.injEq,Prod.mk.injEq]at H
  obtain⟨rfl,rfl,rfl,rfl,rfl,rfl,rfl,rfl⟩:=H
  go_enter func109,ntmps109
  go_wp2_with (first|((with_reducible refine gate_dst (N:=3) rfl ?_);refine Fix.be 3 #[V I 0,V I 0,V I 0,O false,V I 0,O false] 26 ?_;intro gb1 hg w2 BK1 hb;have GW1:=gE (w:=w) hg;have GE1:=GW1;replace HB:=eB hb;clear hb hg)|((with_reducible refine F (f:=125) rfl ?_);refine gl 125 (some 7) func125 #[L A0 l0.length c0] ?_;(with_reducible refine(spec_NextJob.calls k _ _ l0 t1 _ ?side1 HC1.out A2.out).mono ?_);(case side1=>exact uZ HR1);rintro e w3 ⟨rfl,hb⟩;refine⟨_,rfl,?_⟩;replace BK1:=eK BK1 hb;replace HB:=eB hb;clear hb)|((with_reducible refine F (f:=81) rfl ?_);refine gl 81 (some 11) func81 #[L A0 l0.length c0] ?_;(with_reducible refine(spec_l29Copy.calls _ _ l0 t2 _ ?side1 HC1.out A3.out).mono ?_);(case side1=>exact uZ HR1);rintro e w4 ⟨v1,rfl,ho1,hb⟩;refine⟨_,rfl,?_⟩;have HO1:=C (Kd.R_lower (Kd.R_newB ho1 (g:=gb1) (o:=.cells #[V I 0,V I 0,V I 0,O false,V I 0,O false] 26 (0,0)) (uK BK1.out)) (below_size uB));replace BK1:=eK BK1 hb;replace HB:=eB hb;clear hb ho1;obtain⟨_,_,_,_,_,_,_,_,_,_,_,_⟩:=d6 BK1.out))
  refine bodyPost_ret (results_list (rs:= [.tmp 2,.cell 3 26,.tmp 4]) rfl (by simp) (.tmp (.cell gb1 26 #[V I 0,V I 0,V I 0,O false,V I 0,O false] (0,0) _ rfl (bK BK1.out) underlying26 rfl (by kernel_rfl) (.tmp .nil)))) rfl ?_
  exact⟨_,rE,X (fR (X HO1.out (fun k_ hk=>(⟨hk,hk.2⟩:_∧k_≠gb1)))) (fun _ hk=>trivial),uB⟩
 rw[if_neg c2]at H
 replace c2:=decide_eq_false c2
 obtain⟨c3,H⟩:=np H
 have c3b0:=eq_true c3
 have c3b1:decide (0≤t1)=true:=decide_eq_true c3
 clear c3
 obtain⟨c4,H⟩:=np H
 have c4b0:=eq_true c4
 have c4b1:decide (t1≤(l0.length:Int))=true:=decide_eq_true c4
 clear c4
 obtain⟨y1,hy1⟩:∃y_:List (S26),y_=(l0.take (t1:Int).toNat):=⟨_,rfl⟩
 replace H:((spec_l29Copy.f y1).bind fun t2=>(if 0≤(wrap64 (t1+1)) then(if(wrap64 (t1+1))≤(l0.length:Int) then((some (l0.drop ((wrap64 (t1+1)):Int).toNat:List (S26))).bind fun y2=>(if t2.length+y2.length<2932031007402 then(if t1<(l0.length:Int) then(some ((t2++y2),(rd_T26 l0 t1).f0,(rd_T26 l0 t1).f1,(rd_T26 l0 t1).f2,(rd_T26 l0 t1).f3,(rd_T26 l0 t1).f4,(rd_T26 l0 t1).f5,true)) else(none)) else(none))) else(none)) else(none)))=some (r1,r2,r3,r4,r5,r6,r7,r8):=gy hy1 H
 have Ny1:=C hy1
 clear hy1
 obtain⟨t2,A3,H⟩:=bnd H
 obtain⟨ji1,hji1⟩:∃j_:Int,(wrap64 (t1+1))=j_:=⟨_,rfl⟩
 replace H:(if 0≤(ji1) then(if(ji1)≤(l0.length:Int) then((some (l0.drop ((ji1):Int).toNat:List (S26))).bind fun y2=>(if t2.length+y2.length<2932031007402 then(if t1<(l0.length:Int) then(some ((t2++y2),(rd_T26 l0 t1).f0,(rd_T26 l0 t1).f1,(rd_T26 l0 t1).f2,(rd_T26 l0 t1).f3,(rd_T26 l0 t1).f4,(rd_T26 l0 t1).f5,true)) else(none)) else(none))) else(none)) else(none))=some (r1,r2,r3,r4,r5,r6,r7,r8):=by first|(rw[hji1]at H;exact H)|(simp only[hji1]at H ⊢;exact H)
 (try rw[hji1]at A2)
 (try rw[hji1]at A3)
 have hji1w:(IntKind.i64.wrap (t1+1))=ji1:=(i64_w _).trans hji1
 obtain⟨c5,H⟩:=np H
 have c5b0:=eq_true c5
 have c5b1:decide (0≤(ji1))=true:=decide_eq_true c5
 clear c5
 obtain⟨c6,H⟩:=np H
 have c6b0:=eq_true c6
 have c6b1:decide ((ji1)≤(l0.length:Int))=true:=decide_eq_true c6
 clear c6
 obtain⟨y2,hy2⟩:∃y_:List (S26),y_=(l0.drop ((ji1):Int).toNat):=⟨_,rfl⟩
 replace H:(if t2.length+y2.length<2932031007402 then(if t1<(l0.length:Int) then(some ((t2++y2),(rd_T26 l0 t1).f0,(rd_T26 l0 t1).f1,(rd_T26 l0 t1).f2,(rd_T26 l0 t1).f3,(rd_T26 l0 t1).f4,(rd_T26 l0 t1).f5,true)) else(none)) else(none))=some (r1,r2,r3,r4,r5,r6,r7,r8):=gy hy2 H
 have Ny2:=C hy2
 clear hy2
 obtain⟨c7,H⟩:=np H
 have LMc1:=C c7
 clear c7
 obtain⟨y3,hy3⟩:∃y_:List (S26),y_=(t2++y2):=⟨_,rfl⟩
 replace H:(if t1<(l0.length:Int) then(some (y3,(rd_T26 l0 t1).f0,(rd_T26 l0 t1).f1,(rd_T26 l0 t1).f2,(rd_T26 l0 t1).f3,(rd_T26 l0 t1).f4,(rd_T26 l0 t1).f5,true)) else(none))=some (r1,r2,r3,r4,r5,r6,r7,r8):=gy hy3 H
 have Ny3:=C hy3
 clear hy3
 obtain⟨c8,H⟩:=np H
 replace c8:=decide_eq_true c8
 simp only[Option.some.injEq,Prod.mk.injEq]at H
 obtain⟨rfl,rfl,rfl,rfl,rfl,rfl,rfl,rfl⟩:=H
 go_enter func109,ntmps109
 try go_wp2_with (first|((with_reducible refine gate_dst (N:=3) rfl ?_);refine Fix.be 3 #[V I 0,V I 0,V I 0,O false,V I 0,O false] 26 ?_;intro gb1 hg w2 BK1 hb;have GW1:=gE (w:=w) hg;have GE1:=GW1;replace HB:=eB hb;clear hb hg)|((with_reducible refine F (f:=125) rfl ?_);refine gl 125 (some 7) func125 #[L A0 l0.length c0] ?_;(with_reducible refine(spec_NextJob.calls k _ _ l0 t1 _ ?side1 HC1.out A2.out).mono ?_);(case side1=>exact uZ HR1);rintro e w3 ⟨rfl,hb⟩;refine⟨_,rfl,?_⟩;replace BK1:=eK BK1 hb;replace HB:=eB hb;clear hb))
 replace BK1:=dK BK1
 replace HB:=dB HB
 have q1:(t1:Int)≤((l0.length:Int):Int):=oT
 obtain⟨i020,hi1,_,hsz1,_⟩:=info_parts info26
 have hroom1:l0.length≤c0:=HC1.out
 have hC1:Kd.C k26 _ A0 l0.length l0:=HR1.out
 have hcut1:=cut_to (P:=prog) 24 26 .i64 underlying24 hi1 A0 l0.length c0 t1 oT q1 hroom1
 have hr1:=Kd.C_take (m:=(t1:Int).toNat) hC1 (by omega)
 have hy4:y1.length=(t1:Int).toNat:=(by rw[Ny1.out,List.length_take];omega)
 rw[←Ny1.out]at hr1
 rw[←hy4]at hcut1
 have HR2:=C hr1
 have HC2:=C (show y1.length≤c0 from by omega)
 clear hr1 hC1 hroom1 hi1 hsz1
 have KY1:=C hy4
 (try clear hy4)
 replace q1:=eq_true q1
 have q2:((ji1):Int)≤((l0.length:Int):Int):=oT
 obtain⟨i021,hi2,_,hsz2,_⟩:=info_parts info26
 have hroom2:l0.length≤c0:=HC1.out
 have hC2:Kd.C k26 _ A0 l0.length l0:=HR1.out
 have q3:(0:Int)≤((ji1):Int):=oT
 have hcut2:=cut_from (P:=prog) 24 26 .i64 underlying24 hi2 6 hsz2 A0 l0.length c0 (ji1) q3 q2
 have hr2:=Kd.C_drop (m:=((ji1):Int).toNat) (c:=c0) hC2 (by omega) hroom2
 obtain⟨A4,hA1⟩:∃A1,A1=(if c0=((ji1):Int).toNat then A0 else(A0:Option Addr).map (·.add (((ji1):Int).toNat * 6))):=⟨_,rfl⟩
 obtain⟨c9,hc1⟩:∃c1,c1=c0 - ((ji1):Int).toNat:=⟨_,rfl⟩
 have hy5:y2.length=l0.length - ((ji1):Int).toNat:=(by rw[Ny2.out,List.length_drop]<;>omega)
 rw[show(l0).drop ((ji1):Int).toNat=y2 from Ny2.out.symm]at hr2
 replace hr2:Kd.C k26 _ A4 y2.length y2:=(by rw[hA1];exact hr2)
 rw[←hy5,←hA1,←hc1]at hcut2
 have HR3:=C hr2
 have HC3:=C (show y2.length≤c9 from by rw[hy5,hc1];exact Nat.sub_le_sub_right hroom2 _)
 clear hr2 hC2 hroom2 hi2 hsz2 hc1
 have KY2:=C hy5
 have KA1:=C hA1
 (try clear hy5);(try clear hA1)
 replace q2:=eq_true q2
 have p1:0≤(t1:Int):=oT
 have q4:t1<(l0.length:Int):=oT
 obtain⟨ad1,e1,hx1_0,hx1_1,hx1_2,hx1_3,hx1_4,hx1_5⟩:=at_T26 HR1.out t1 p1 q4
 have hw1_5:=hx1_5
 have hw1_4:=hx1_4
 have hw1_3:=hx1_3
 have hw1_2:=hx1_2
 have hw1_1:=hx1_1
 have hw1_0:=hx1_0
 cases e1
 replace hx1_0:=hx HB hx1_0
 replace hx1_1:=hx HB hx1_1
 replace hx1_2:=hx HB hx1_2
 replace hx1_3:=hx HB hx1_3
 replace hx1_4:=hx HB hx1_4
 replace hx1_5:=hx HB hx1_5
 replace p1:=eq_true p1
 replace q4:=eq_true q4
 refine start_ (n:=16) (S:=fun w'=>w'.cell? (ad1.add ((t1).toNat * 6))=some (V I ((rd_T26 l0 t1).f0))∧w'.cell? ⟨(ad1.add ((t1).toNat * 6)).block,(ad1.add ((t1).toNat * 6)).off+1,none⟩=some (V I ((rd_T26 l0 t1).f1))∧w'.cell? ⟨(ad1.add ((t1).toNat * 6)).block,(ad1.add ((t1).toNat * 6)).off+2,none⟩=some (V I ((rd_T26 l0 t1).f2))∧w'.cell? ⟨(ad1.add ((t1).toNat * 6)).block,(ad1.add ((t1).toNat * 6)).off+3,none⟩=some (O ((rd_T26 l0 t1).f3))∧w'.cell? ⟨(ad1.add ((t1).toNat * 6)).block,(ad1.add ((t1).toNat * 6)).off+4,none⟩=some (V I ((rd_T26 l0 t1).f4))∧w'.cell? ⟨(ad1.add ((t1).toNat * 6)).block,(ad1.add ((t1).toNat * 6)).off+5,none⟩=some (O ((rd_T26 l0 t1).f5))) (ds:= []) #[false,false,false,false,false,false,false,false,false,false,false,false,false,false,false,false] (by kernel_rfl) rfl rfl hi (fun hHeld=> ?_);refine with_tabW spec_TakeJob.tab4 spec_TakeJob.bits4 (fun HT_ HW_=> ?_)
 generalize w3.drew=w4 at BK1 HB HR2 HR3 hx1_0 hx1_1 hx1_2 hx1_3 hx1_4 hx1_5 hHeld ⊢
 refine pu 0 (some 13) ?_
 refine pu 1 (some 14) ?_
 refine pu 2 (some 15) ?_
 refine pu 4 (some 17) ?_
 refine pu 5 (some 18) ?_
 refine pu 6 (some 19) ?_
 refine pu 7 (some 20) ?_
 refine pu 9 (some 22) ?_
 refine pu 10 (some 23) ?_
 refine pu 11 (some 24) ?_
 refine tu 12 (some 25) hHeld ?_
 refine ou 3 (some 16) (fun K hK=> ?_)
 refine gs func81 #[L (some ad1) y1.length c0] ?_
 with_reducible refine(spec_l29Copy.calls _ _ y1 t2 _ ?side1 HC2.out A3.out).mono ?_
 (case side1=>exact uZ HR2)
 rintro e w5 ⟨v1,rfl,ho1,hb⟩
 refine⟨_,rfl,?_⟩
 have HO1:=C (Kd.R_lower (Kd.R_newB ho1 (g:=gb1) (o:=.cells #[V I 0,V I 0,V I 0,O false,V I 0,O false] 26 (0,0)) (uK BK1.out)) (below_size uB))
 replace BK1:=eK BK1 hb
 replace HB:=eB hb
 (try clear hb)
 refine hK.out _ _ ⟨((HB.out.cell (E w _ hw1_0)).trans hw1_0),((HB.out.cell (E w _ hw1_1)).trans hw1_1),((HB.out.cell (E w _ hw1_2)).trans hw1_2),((HB.out.cell (E w _ hw1_3)).trans hw1_3),((HB.out.cell (E w _ hw1_4)).trans hw1_4),((HB.out.cell (E w _ hw1_5)).trans hw1_5)⟩ (fun hHeld=> ?_)
 clear hK K
 refine nu (N:=(some 16)) ?_
 refine ou 8 (some 21) (fun K hK=> ?_)
 refine Kd.R_append_rows_step k26 (w0:=w) w.heap.size (by rfl) (.tmp 16) (.tmp 20) 24 26 (G #[(V I 0),(V I 0),(V I 0),(O false),(V I 0),(O false)]) 48 rfl underlying24 info26 rfl (by decide) (by omega) v1 t2 y2 _ _ _ (fun k_=>k_≠gb1) (fun _=>False) rfl rfl ?aO ?aR (fun _ _ h=>h) (fun _ h=>h.elim) ?aF ?aB ?aS ?aL ?_
 (case aR=>exact uZ HR3)
 (case aB=>exact uB)
 (case aF=>exact(fun k_ hk=>Kd.freshB (g:=gb1) (o:=.cells #[V I 0,V I 0,V I 0,O false,V I 0,O false] 26 (0,0)) (uK BK1.out) k_ hk))
 (case aO=>exact(X (fR HO1.out) (fun _ hk=>hk.2)))
 (case aS=>exact(below_size uB))
 (case aL=>have:=LMc1.out;omega)
 intro v2 w6 ho hb hg hat
 rw[←Ny3.out]at ho
 have HO2:=C (ho)
 replace BK1:=gK BK1 hg (Kd.R_away HO1.out (fun _ hk=>hk.2))
 replace HB:=C (hb)
 clear HO1
 clear ho hb hg hat
 refine hK.out _ _ ⟨((HB.out.cell (E w _ hw1_0)).trans hw1_0),((HB.out.cell (E w _ hw1_1)).trans hw1_1),((HB.out.cell (E w _ hw1_2)).trans hw1_2),((HB.out.cell (E w _ hw1_3)).trans hw1_3),((HB.out.cell (E w _ hw1_4)).trans hw1_4),((HB.out.cell (E w _ hw1_5)).trans hw1_5)⟩ (fun hHeld=> ?_)
 clear hK K
 refine nu (N:=(some 21)) ?_
 refine pu 13 (some 2) ?_
 refine ou 14 (none) (fun K hK=> ?_)
 obtain⟨hs1,hs2,hs3,hs4,hs5,hs6,hfs1,hfs2,hfs3,hfs4,hfs5,hfs6⟩:=d6 BK1.out
 refine skip_ (w1:= ?_) (by rfl) rfl ?_ ?_
 rotate_left
 ·go_simp
  rfl
 refine hK.out _ _ ⟨(cf6 (nl hw1_0 GW1) (hHeld.1)),(cf6 (nl hw1_1 GW1) (hHeld.2.1)),(cf6 (nl hw1_2 GW1) (hHeld.2.2.1)),(cf6 (nl hw1_3 GW1) (hHeld.2.2.2.1)),(cf6 (nl hw1_4 GW1) (hHeld.2.2.2.2.1)),(cf6 (nl hw1_5 GW1) (hHeld.2.2.2.2.2))⟩ (fun hHeld=> ?_)
 clear hK K
 refine pu 15 (some 4) ?_
 refine done_ (done_of HT_.out (by kernel_rfl)) ?_
 try go_wp2
 refine bodyPost_ret (results_list (rs:= [.tmp 2,.cell 3 26,.tmp 4]) rfl (by simp) (.tmp (.cell gb1 26 #[V I ((rd_T26 l0 t1).f0),V I ((rd_T26 l0 t1).f1),V I ((rd_T26 l0 t1).f2),O ((rd_T26 l0 t1).f3),V I ((rd_T26 l0 t1).f4),O ((rd_T26 l0 t1).f5)] (0,0) _ rfl (bK BK1.out) underlying26 rfl (by kernel_rfl) (.tmp .nil)))) rfl ?_
 exact⟨_,by first|rfl|(simp[errW_none,errW_some]<;>rfl)|(simp only[←hji1];first|rfl|(simp[errW_none,errW_some]<;>rfl))|(simp[*,errW_none,errW_some]<;>rfl),X (fR (X HO2.out (fun k_ hk=>(⟨hk,hk⟩:_∧k_≠gb1)))) (fun _ hk=>trivial),uB⟩
def spec_IsDone.f (k:Nat) (a0_0:Int) (a0_1:Int) (l0_2:List Int) (l0_3:List Int) (a0_4:Int) (a0_5:Bool):Option (Bool):=(spec_LineOk.f k a0_0 a0_1 l0_2 l0_3 a0_4 a0_5).bind fun t738=>(if t738=true then(some ((l0_3.length:Int)==a0_0)) else(some false))
theorem spec_IsDone.calls (k:Nat) (a0_0:Int) (a0_1:Int) (A0_2:Option Addr) (c0_2:Nat) (l0_2:List Int) (A0_3:Option Addr) (c0_3:Nat) (l0_3:List Int) (a0_4:Int) (a0_5:Bool) (r:Bool) (w:World) (hr0_2:Kd.C (Kd.int .i64) w A0_2 l0_2.length l0_2) (hc0_2:l0_2.length≤c0_2) (hr0_3:Kd.C (Kd.int .i64) w A0_3 l0_3.length l0_3) (hc0_3:l0_3.length≤c0_3) (h:spec_IsDone.f k a0_0 a0_1 l0_2 l0_3 a0_4 a0_5=some r):
 Calls prog 110 #[G #[V I a0_0,V I a0_1,L A0_2 l0_2.length c0_2,L A0_3 l0_3.length c0_3,V I a0_4,O a0_5]] w fun e w'=>e=.returned (O r)∧Below w.heap.size w w':=by
 have hu1:=underlying29
 have HR1_2:=C hr0_2
 have HC1_2:=C hc0_2
 (try clear hr0_2);(try clear hc0_2)
 have HR1_3:=C hr0_3
 have HC1_3:=C hc0_3
 (try clear hr0_3);(try clear hc0_3)
 have HB:=C (Below.refl w.heap.size w)
 have H:=h
 unfold spec_IsDone.f at H
 clear h
 obtain⟨t1,A1,H⟩:=bnd H
 by_cases c1:t1=true
 rotate_left
 ·obtain rfl:=nt c1
  replace H:=nf H
  obtain rfl:=si H
  go_enter func110,ntmps110
  go_wp2_with (first|((with_reducible refine gate_dst (N:=1) rfl ?_);(try(refine gate_guard (by rfl) ?_;dsimp only));refine Fix.be 1 #[V I a0_0,V I a0_1,L A0_2 l0_2.length c0_2,L A0_3 l0_3.length c0_3,V I a0_4,O a0_5] 29 ?_;intro gb1 hg w1 BK1 hb;have GW1:=gE (w:=w) hg;have GE1:=GW1;replace HB:=eB hb;clear hb hg;obtain⟨_,_,_,_,_,_,_,_,_,_,_,_⟩:=d6 BK1.out)|((with_reducible refine F (f:=84) rfl ?_);refine gl 84 (some 4) func84 #[G #[V I a0_0,V I a0_1,L A0_2 l0_2.length c0_2,L A0_3 l0_3.length c0_3,V I a0_4,O a0_5]] ?_;(with_reducible refine(spec_LineOk.calls k a0_0 a0_1 _ _ l0_2 _ _ l0_3 a0_4 a0_5 false _ ?side1 HC1_2.out ?side3 HC1_3.out A1.out).mono ?_);(case side1=>exact uZ HR1_2);(case side3=>exact uZ HR1_3);rintro e w2 ⟨rfl,hb⟩;refine⟨_,rfl,?_⟩;replace BK1:=eK BK1 hb;replace HB:=eB hb;clear hb))
  go_ret
  exact⟨rE,uB⟩
 subst c1
 rw[if_pos rfl]at H
 obtain rfl:=si H
 go_enter func110,ntmps110
 go_wp2_with (first|((with_reducible refine gate_dst (N:=1) rfl ?_);(try(refine gate_guard (by rfl) ?_;dsimp only));refine Fix.be 1 #[V I a0_0,V I a0_1,L A0_2 l0_2.length c0_2,L A0_3 l0_3.length c0_3,V I a0_4,O a0_5] 29 ?_;intro gb1 hg w1 BK1 hb;have GW1:=gE (w:=w) hg;have GE1:=GW1;replace HB:=eB hb;clear hb hg;obtain⟨_,_,_,_,_,_,_,_,_,_,_,_⟩:=d6 BK1.out)|((with_reducible refine F (f:=84) rfl ?_);refine gl 84 (some 4) func84 #[G #[V I a0_0,V I a0_1,L A0_2 l0_2.length c0_2,L A0_3 l0_3.length c0_3,V I a0_4,O a0_5]] ?_;(with_reducible refine(spec_LineOk.calls k a0_0 a0_1 _ _ l0_2 _ _ l0_3 a0_4 a0_5 true _ ?side1 HC1_2.out ?side3 HC1_3.out A1.out).mono ?_);(case side1=>exact uZ HR1_2);(case side3=>exact uZ HR1_3);rintro e w2 ⟨rfl,hb⟩;refine⟨_,rfl,?_⟩;replace BK1:=eK BK1 hb;replace HB:=eB hb;clear hb;obtain⟨_,_,_,_,_,_,_,_,_,_,_,_⟩:=d6 BK1.out))
 go_ret
 exact⟨rE,uB⟩
def spec_NewLine.f (a0:Int):Option (Int×Int×List Int×List Int×Int×Bool×Bool):=(spec_l01In.f a0 0 40).bind fun t740=>(if t740=true then(some (a0,0,([]:List Int),([]:List Int),0,false,true)) else(some (0,0,([]:List Int),([]:List Int),0,false,false)))
theorem spec_NewLine.calls (a0:Int) (r1:Int) (r2:Int) (r3:List Int) (r4:List Int) (r5:Int) (r6:Bool) (r7:Bool) (w:World) (h:spec_NewLine.f a0=some (r1,r2,r3,r4,r5,r6,r7)):
 Calls prog 111 #[V I a0] w fun e w'=>∃v2_ v3_:Value,e=.returned (.tuple #[G #[V I r1,V I r2,v2_,v3_,V I r5,O r6],O r7])∧Kd.R (Kd.int .i64) 3 w' w.heap.size (fun k_=>qm k_ v3_) v2_ r3∧Kd.R (Kd.int .i64) 3 w' w.heap.size (fun k_=>qm k_ v2_) v3_ r4∧Below w.heap.size w w':=by
 have hu1:=underlying29
 have HB:=C (Below.refl w.heap.size w)
 have H:=h
 unfold spec_NewLine.f at H
 clear h
 obtain⟨t1,A1,H⟩:=bnd H
 by_cases c1:t1=true
 ·subst c1
  rw[if_pos rfl]at H
  simp only[Option.some.injEq,Prod.mk.injEq]at H
  obtain⟨rfl,rfl,rfl,rfl,rfl,rfl,rfl⟩:=H
  go_enter func111,ntmps111
  go_wp2_with (first|((with_reducible refine gate_dst (N:=2) rfl ?_);refine Fix.be 2 #[V I 0,V I 0,L none 0 0,L none 0 0,V I 0,O false] 29 ?_;intro gb1 hg w1 BK1 hb;have GW1:=gE (w:=w) hg;have GE1:=GW1;replace HB:=eB hb;clear hb hg)|((with_reducible refine F (f:=60) rfl ?_);refine gl 60 (some 5) func60 #[V I a0,V I 0,V I 40] ?_;(with_reducible refine(spec_l01In.calls a0 0 40 true _ A1.out).mono ?_);rintro e w' ⟨rfl,⟨nd,rfl⟩⟩;refine⟨_,rfl,?_⟩;(try(rw[drewN_self w1];generalize hq_:World.drewN w1 _=w1;have n0_:D (w1.heap[gb1]? =some (.cells #[V I 0,V I 0,L none 0 0,L none 0 0,V I 0,O false] 29 (0,0))):=⟨by rw[←hq_];exact(uK BK1.out)⟩;have n1_:D (Below w.heap.size w w1):=⟨by rw[←hq_];exact uB⟩;clear BK1 HB hq_;have BK1:=n0_;have HB:=n1_;clear n0_ n1_));obtain⟨_,_,_,_,_,_,_,_,_,_,_,_⟩:=d6 BK1.out))
  refine bodyPost_ret (results_ct rfl _ _ gb1 29 #[V I a0,V I 0,L none 0 0,L none 0 0,V I 0,O false] (0,0) _ rfl (bK BK1.out) underlying29 rfl (by kernel_rfl)) rfl ?_
  exact⟨_,_,rE,rN,rN,uB⟩
 obtain rfl:=nt c1
 replace H:=nf H
 simp only[Option.some.injEq,Prod.mk.injEq]at H
 obtain⟨rfl,rfl,rfl,rfl,rfl,rfl,rfl⟩:=H
 go_enter func111,ntmps111
 go_wp2_with (first|((with_reducible refine gate_dst (N:=2) rfl ?_);refine Fix.be 2 #[V I 0,V I 0,L none 0 0,L none 0 0,V I 0,O false] 29 ?_;intro gb1 hg w1 BK1 hb;have GW1:=gE (w:=w) hg;have GE1:=GW1;replace HB:=eB hb;clear hb hg)|((with_reducible refine F (f:=60) rfl ?_);refine gl 60 (some 5) func60 #[V I a0,V I 0,V I 40] ?_;(with_reducible refine(spec_l01In.calls a0 0 40 false _ A1.out).mono ?_);rintro e w' ⟨rfl,⟨nd,rfl⟩⟩;refine⟨_,rfl,?_⟩;(try(rw[drewN_self w1];generalize hq_:World.drewN w1 _=w1;have n0_:D (w1.heap[gb1]? =some (.cells #[V I 0,V I 0,L none 0 0,L none 0 0,V I 0,O false] 29 (0,0))):=⟨by rw[←hq_];exact(uK BK1.out)⟩;have n1_:D (Below w.heap.size w w1):=⟨by rw[←hq_];exact uB⟩;clear BK1 HB hq_;have BK1:=n0_;have HB:=n1_;clear n0_ n1_));obtain⟨_,_,_,_,_,_,_,_,_,_,_,_⟩:=d6 BK1.out))
 refine bodyPost_ret (results_ct rfl _ _ gb1 29 #[V I 0,V I 0,L none 0 0,L none 0 0,V I 0,O false] (0,0) _ rfl (bK BK1.out) underlying29 rfl (by kernel_rfl)) rfl ?_
 exact⟨_,_,rE,rN,rN,uB⟩
end Go.Proofs.YtgdnlmfoghpeoaaGreatDoor.PFnExactRunScript
