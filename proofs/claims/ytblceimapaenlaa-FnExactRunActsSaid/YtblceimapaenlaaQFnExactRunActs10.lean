/- Calls do what plain Lean functions say (FnExactRunActs). No condition. -/
import Derived.Test.YtblceimapaenlaaQFnExactRunActs0
import Derived.Test.YtblceimapaenlaaQFnExactRunActs1
namespace Go.Proofs.Ytblceimapaenlaa.PFnExactRunActs
open Go.RowKit Go.Proofs.YtblceimapaenlaaW.PrintWords Go.Proofs.YtblceimapaenlaaW.PrintLast Go.Proofs.YtblceimapaenlaaW.PrintMore
open Try
open Fix (bK bnd cl14 cl6 d14 d4 d6 dB dD dK eB eK fR fS gE gl gs gy hh hi hx lR mo nG nL nf np nt nu oL oT ou pu px qm rE rS si tu uB uR uS uZ)
open Go.Value renaming int→V,slice→L,bool→O,agg→G
open Go.IntKind renaming i64→I
open Go.Proofs.YtblceimapaenlaaW.PrintWords.Aside0 renaming mk→C
open Go.Proofs.YtblceimapaenlaaW.PrintWords renaming Aside0→D,gate_dst→J
open Go.World renaming block_lt_of_cell?→E
attribute [local go_sem] max2_int min2_int max_two min_two max_three min_three max_four min_four
attribute [local go_sem] Fix.isSome_setCell
set_option linter.unusedVariables false
set_option maxHeartbeats 40000000
set_option maxRecDepth 100000
set_option linter.unusedSimpArgs false
attribute [local go_sem high] eqA33
def laws_eqAct.f (a0_0:Int) (a0_1:Int) (a0_2:Int) (a0_3:Int) (a1_0:Int) (a1_1:Int) (a1_2:Int) (a1_3:Int):Option (Bool):=if a0_0=a1_0 then(if a0_1=a1_1 then(if a0_2=a1_2 then(if a0_3=a1_3 then(some true) else(some false)) else(some false)) else(some false)) else(some false)
theorem laws_eqAct.W1 {p:Prop} (h:p:=by
 go_enter func82,ntmps82
 go_wp2_with (first|((with_reducible refine J (N:=2) rfl ?_);refine Fix.be 2 #[V I a0_0,V I a0_1,V I a0_2,V I a0_3] 53 ?_;intro gb1 hg w1 BK1 hb;have GW1:=gE (w:=w) hg;replace HB:=eB hb;clear hb hg)|((with_reducible refine J (N:=3) rfl ?_);refine Fix.be 3 #[V I a1_0,V I a1_1,V I a1_2,V I a1_3] 53 ?_;intro gb2 hg w2 BK2 hb;have GW2:=gE (w:=w) hg;have n0:=nL hg BK1;have n1:=nG hg BK1;replace BK1:=eK BK1 hb;replace HB:=eB hb;clear hb hg;have:=n0.out;have:=n1.out;obtain⟨_,_,_,_,_,_,_,_⟩:=d4 BK1.out;obtain⟨_,_,_,_,_,_,_,_⟩:=d4 BK2.out))
 go_ret
 exact⟨rE,uB⟩):p:=h
theorem laws_eqAct.calls (a0_0:Int) (a0_1:Int) (a0_2:Int) (a0_3:Int) (a1_0:Int) (a1_1:Int) (a1_2:Int) (a1_3:Int) (r:Bool) (w:World) (h:laws_eqAct.f a0_0 a0_1 a0_2 a0_3 a1_0 a1_1 a1_2 a1_3=some r):
 Calls prog 82 #[G #[V I a0_0,V I a0_1,V I a0_2,V I a0_3],G #[V I a1_0,V I a1_1,V I a1_2,V I a1_3]] w fun e w'=>e=.returned (O r)∧Below w.heap.size w w':=by
 have hu1:=underlying53
 have HB:=C (Below.refl w.heap.size w)
 have H:=h
 unfold laws_eqAct.f at H
 clear h
 by_cases c1:a0_0=a1_0
 rotate_left
 ·rw[if_neg c1]at H
  have c1b0:(a0_0==a1_0)=false:=beq_eq_false_iff_ne.mpr c1
  have c1b1:(a0_0 !=a1_0)=true:=bne_iff_ne.mpr c1
  obtain rfl:=si H
  go_enter func82,ntmps82
  go_wp2_with (first|((with_reducible refine J (N:=2) rfl ?_);refine Fix.be 2 #[V I a0_0,V I a0_1,V I a0_2,V I a0_3] 53 ?_;intro gb1 hg w1 BK1 hb;have GW1:=gE (w:=w) hg;have GE1:=GW1;replace HB:=eB hb;clear hb hg)|((with_reducible refine J (N:=3) rfl ?_);refine Fix.be 3 #[V I a1_0,V I a1_1,V I a1_2,V I a1_3] 53 ?_;intro gb2 hg w2 BK2 hb;have GW2:=gE (w:=w) hg;have GE2:=GW2;have n0:=nL hg BK1;have n1:=nG hg BK1;replace BK1:=eK BK1 hb;replace HB:=eB hb;clear hb hg;have:=n0.out;have:=n1.out;obtain⟨_,_,_,_,_,_,_,_⟩:=d4 BK1.out;obtain⟨_,_,_,_,_,_,_,_⟩:=d4 BK2.out))
  go_ret
  exact⟨rE,uB⟩
 rw[if_pos c1]at H
 have c1b0:(a0_0==a1_0)=true:=beq_iff_eq.mpr c1
 have c1b1:(a0_0 !=a1_0)=false:=bne_eq_false_iff_eq.mpr c1
 clear c1
 by_cases c2:a0_1=a1_1
 rotate_left
 ·rw[if_neg c2]at H
  have c2b0:(a0_1==a1_1)=false:=beq_eq_false_iff_ne.mpr c2
  have c2b1:(a0_1 !=a1_1)=true:=bne_iff_ne.mpr c2
  obtain rfl:=si H
  go_enter func82,ntmps82
  go_wp2_with (first|((with_reducible refine J (N:=2) rfl ?_);refine Fix.be 2 #[V I a0_0,V I a0_1,V I a0_2,V I a0_3] 53 ?_;intro gb1 hg w1 BK1 hb;have GW1:=gE (w:=w) hg;have GE1:=GW1;replace HB:=eB hb;clear hb hg)|((with_reducible refine J (N:=3) rfl ?_);refine Fix.be 3 #[V I a1_0,V I a1_1,V I a1_2,V I a1_3] 53 ?_;intro gb2 hg w2 BK2 hb;have GW2:=gE (w:=w) hg;have GE2:=GW2;have n0:=nL hg BK1;have n1:=nG hg BK1;replace BK1:=eK BK1 hb;replace HB:=eB hb;clear hb hg;have:=n0.out;have:=n1.out;obtain⟨_,_,_,_,_,_,_,_⟩:=d4 BK1.out;obtain⟨_,_,_,_,_,_,_,_⟩:=d4 BK2.out))
  go_ret
  exact⟨rE,uB⟩
 rw[if_pos c2]at H
 have c2b0:(a0_1==a1_1)=true:=beq_iff_eq.mpr c2
 have c2b1:(a0_1 !=a1_1)=false:=bne_eq_false_iff_eq.mpr c2
 clear c2
 by_cases c3:a0_2=a1_2
 rotate_left
 ·rw[if_neg c3]at H
  have c3b0:(a0_2==a1_2)=false:=beq_eq_false_iff_ne.mpr c3
  have c3b1:(a0_2 !=a1_2)=true:=bne_iff_ne.mpr c3
  obtain rfl:=si H
  exact laws_eqAct.W1
 rw[if_pos c3]at H
 have c3b0:(a0_2==a1_2)=true:=beq_iff_eq.mpr c3
 have c3b1:(a0_2 !=a1_2)=false:=bne_eq_false_iff_eq.mpr c3
 clear c3
 by_cases c4:a0_3=a1_3
 rotate_left
 ·rw[if_neg c4]at H
  have c4b0:(a0_3==a1_3)=false:=beq_eq_false_iff_ne.mpr c4
  have c4b1:(a0_3 !=a1_3)=true:=bne_iff_ne.mpr c4
  obtain rfl:=si H
  exact laws_eqAct.W1
 rw[if_pos c4]at H
 have c4b0:(a0_3==a1_3)=true:=beq_iff_eq.mpr c4
 have c4b1:(a0_3 !=a1_3)=false:=bne_eq_false_iff_eq.mpr c4
 clear c4
 obtain rfl:=si H
 exact laws_eqAct.W1
def laws_eqActS.l0:Nat→List (S53)→List (S53)→Int→Option (Bool)
  |0,_,_,_=>none
  |k+1,x0,x1,x5=>if x5<(x0.length:Int) then(if 0≤x5 then(if x5<(x1.length:Int) then((laws_eqAct.f ((rd_T53 x0 x5).f0) ((rd_T53 x0 x5).f1) ((rd_T53 x0 x5).f2) ((rd_T53 x0 x5).f3) ((rd_T53 x1 x5).f0) ((rd_T53 x1 x5).f1) ((rd_T53 x1 x5).f2) ((rd_T53 x1 x5).f3)).bind fun t569=>(if t569=true then(laws_eqActS.l0 k x0 x1 (wrap64 (x5+1))) else(some false))) else(none)) else(none)) else(some true)
def laws_eqActS.f (k:Nat) (l0:List (S53)) (l1:List (S53)):Option (Bool):=if(l0.length:Int)=(l1.length:Int) then(laws_eqActS.l0 k l0 l1 0) else(some false)
def laws_eqActS.T6:Bool×List (List Nat×List Nat):=(true,[([],[]),([],[]),([0,1],[0,1]),([2],[2]),([],[]),([],[]),([4,5],[4,5]),([6],[6]),([3,7],[3,7]),([8],[8])])
def laws_eqActS.B6:List Nat:= [0,0,3,7,0,0,48,112,255,511]
theorem laws_eqActS.tab6:rtab .any (opsOf Try.f28 6)=laws_eqActS.T6:=by kernel_rfl
theorem laws_eqActS.bits6:waitsOk laws_eqActS.T6.2 laws_eqActS.B6=true:=by kernel_rfl
theorem laws_eqActS.calls (k:Nat) (A0:Option Addr) (c0:Nat) (l0:List (S53)) (A1:Option Addr) (c1:Nat) (l1:List (S53)) (r:Bool) (w:World) (hr0:Kd.C k53 w A0 l0.length l0) (hc0:l0.length≤c0) (hr1:Kd.C k53 w A1 l1.length l1) (hc1:l1.length≤c1) (h:laws_eqActS.f k l0 l1=some r):
 Calls prog 28 #[L A0 l0.length c0,L A1 l1.length c1] w fun e w'=>e=.returned (O r)∧Below w.heap.size w w':=by
 have hu1:=underlying53
 have HR1:=C hr0
 have HC1:=C hc0
 (try clear hr0);(try clear hc0)
 have HR2:=C hr1
 have HC2:=C hc1
 (try clear hr1);(try clear hc1)
 have HB:=C (Below.refl w.heap.size w)
 have H:=h
 unfold laws_eqActS.f at H
 clear h
 by_cases c1:(l0.length:Int)=(l1.length:Int)
 rotate_left
 ·rw[if_neg c1]at H
  have c1b0:((l0.length:Int)==(l1.length:Int))=false:=beq_eq_false_iff_ne.mpr c1
  have c1b1:((l0.length:Int) !=(l1.length:Int))=true:=bne_iff_ne.mpr c1
  have c1b2:(l0.length==l1.length)=false:=by first|simpa using c1|(simp at c1 ⊢;omega)
  obtain rfl:=si H
  go_enter func28,ntmps28
  go_wp2
  go_ret
  exact⟨rE,uB⟩
 rw[if_pos c1]at H
 have c1b0:((l0.length:Int)==(l1.length:Int))=true:=beq_iff_eq.mpr c1
 have c1b1:((l0.length:Int) !=(l1.length:Int))=false:=bne_eq_false_iff_eq.mpr c1
 have c1b2:(l0.length==l1.length)=true:=by first|simpa using c1|(simp at c1 ⊢;omega)
 clear c1
 have H':=C H
 clear H
 go_enter func28,ntmps28
 go_wp2
 go_loopg [5] k (fun kq v5 w'=>∃(x1_1:Int),v5=V I x1_1∧D (laws_eqActS.l0 kq l0 l1 x1_1=some r)∧D (kq≤k)∧D (Below w.heap.size w w'))
 case atStart=>exact⟨(0),rS,H',⟨Nat.le_refl _⟩,⟨uB⟩⟩
 case round=>
  clear H'
  obtain⟨x1_1,rfl,HA,HK1,HB⟩:=hrel
  cases gk with
  |zero=>exact absurd HA.out (by simp[laws_eqActS.l0])
  |succ k1=>
   have H:=HA.out
   clear HA
   simp only[laws_eqActS.l0]at H
   by_cases c2:x1_1<(l0.length:Int)
   rotate_left
   ·rw[if_neg c2]at H
    replace c2:=decide_eq_false c2
    obtain rfl:=si H
    go_wp2
    go_ret
    exact⟨rE,uB⟩
   rw[if_pos c2]at H
   replace c2:=decide_eq_true c2
   obtain⟨c3,H⟩:=np H
   replace c3:=decide_eq_true c3
   obtain⟨c4,H⟩:=np H
   replace c4:=decide_eq_true c4
   obtain⟨t1,A1,H⟩:=bnd H
   by_cases c5:t1=true
   rotate_left
   ·obtain rfl:=nt c5
    replace H:=nf H
    obtain rfl:=si H
    try go_wp2
    replace HB:=dB HB
    have p1:0≤(x1_1:Int):=oT
    have q1:x1_1<(l0.length:Int):=oT
    obtain⟨ad1,e1,hx1_0,hx1_1,hx1_2,hx1_3⟩:=at_T53 HR1.out x1_1 p1 q1
    have hw1_3:=hx1_3
    have hw1_2:=hx1_2
    have hw1_1:=hx1_1
    have hw1_0:=hx1_0
    cases e1
    replace hx1_0:=hx HB hx1_0
    replace hx1_1:=hx HB hx1_1
    replace hx1_2:=hx HB hx1_2
    replace hx1_3:=hx HB hx1_3
    replace p1:=eq_true p1
    replace q1:=eq_true q1
    have p2:0≤(x1_1:Int):=oT
    have q2:x1_1<(l1.length:Int):=oT
    obtain⟨ad2,e2,hx2_0,hx2_1,hx2_2,hx2_3⟩:=at_T53 HR2.out x1_1 p2 q2
    have hw2_3:=hx2_3
    have hw2_2:=hx2_2
    have hw2_1:=hx2_1
    have hw2_0:=hx2_0
    cases e2
    replace hx2_0:=hx HB hx2_0
    replace hx2_1:=hx HB hx2_1
    replace hx2_2:=hx HB hx2_2
    replace hx2_3:=hx HB hx2_3
    replace p2:=eq_true p2
    replace q2:=eq_true q2
    refine start_ (n:=10) (S:=fun w'=>w'.cell? (ad1.add ((x1_1).toNat * 4))=some (V I ((rd_T53 l0 x1_1).f0))∧w'.cell? ⟨(ad1.add ((x1_1).toNat * 4)).block,(ad1.add ((x1_1).toNat * 4)).off+1,none⟩=some (V I ((rd_T53 l0 x1_1).f1))∧w'.cell? ⟨(ad1.add ((x1_1).toNat * 4)).block,(ad1.add ((x1_1).toNat * 4)).off+2,none⟩=some (V I ((rd_T53 l0 x1_1).f2))∧w'.cell? ⟨(ad1.add ((x1_1).toNat * 4)).block,(ad1.add ((x1_1).toNat * 4)).off+3,none⟩=some (V I ((rd_T53 l0 x1_1).f3))∧w'.cell? (ad2.add ((x1_1).toNat * 4))=some (V I ((rd_T53 l1 x1_1).f0))∧w'.cell? ⟨(ad2.add ((x1_1).toNat * 4)).block,(ad2.add ((x1_1).toNat * 4)).off+1,none⟩=some (V I ((rd_T53 l1 x1_1).f1))∧w'.cell? ⟨(ad2.add ((x1_1).toNat * 4)).block,(ad2.add ((x1_1).toNat * 4)).off+2,none⟩=some (V I ((rd_T53 l1 x1_1).f2))∧w'.cell? ⟨(ad2.add ((x1_1).toNat * 4)).block,(ad2.add ((x1_1).toNat * 4)).off+3,none⟩=some (V I ((rd_T53 l1 x1_1).f3))) (ds:= []) #[false,false,false,false,false,false,false,false,false,false] (by kernel_rfl) rfl rfl hi (fun hHeld=> ?_);refine with_tabW laws_eqActS.tab6 laws_eqActS.bits6 (fun HT_ HW_=> ?_)
    generalize wr.drew=w1 at HB hx1_0 hx1_1 hx1_2 hx1_3 hx2_0 hx2_1 hx2_2 hx2_3 hHeld ⊢
    refine pu 0 (some 17) ?_
    refine pu 1 (some 18) ?_
    refine pu 2 (some 19) ?_
    refine pu 4 (some 21) ?_
    refine pu 5 (some 22) ?_
    refine pu 6 (some 23) ?_
    refine tu 3 (some 20) hHeld ?_
    refine tu 7 (some 24) hHeld ?_
    refine ou 8 (some 25) (fun K hK=> ?_)
    refine gs func82 #[G #[V I ((rd_T53 l0 x1_1).f0),V I ((rd_T53 l0 x1_1).f1),V I ((rd_T53 l0 x1_1).f2),V I ((rd_T53 l0 x1_1).f3)],G #[V I ((rd_T53 l1 x1_1).f0),V I ((rd_T53 l1 x1_1).f1),V I ((rd_T53 l1 x1_1).f2),V I ((rd_T53 l1 x1_1).f3)]] ?_
    with_reducible refine(laws_eqAct.calls ((rd_T53 l0 x1_1).f0) ((rd_T53 l0 x1_1).f1) ((rd_T53 l0 x1_1).f2) ((rd_T53 l0 x1_1).f3) ((rd_T53 l1 x1_1).f0) ((rd_T53 l1 x1_1).f1) ((rd_T53 l1 x1_1).f2) ((rd_T53 l1 x1_1).f3) false _ A1.out).mono ?_
    rintro e w2 ⟨rfl,hb⟩
    refine⟨_,rfl,?_⟩
    replace HB:=eB hb
    (try clear hb)
    refine hK.out _ _ ⟨((HB.out.cell (E w _ hw1_0)).trans hw1_0),((HB.out.cell (E w _ hw1_1)).trans hw1_1),((HB.out.cell (E w _ hw1_2)).trans hw1_2),((HB.out.cell (E w _ hw1_3)).trans hw1_3),((HB.out.cell (E w _ hw2_0)).trans hw2_0),((HB.out.cell (E w _ hw2_1)).trans hw2_1),((HB.out.cell (E w _ hw2_2)).trans hw2_2),((HB.out.cell (E w _ hw2_3)).trans hw2_3)⟩ (fun hHeld=> ?_)
    clear hK K
    refine nu (N:=(some 25)) ?_
    refine pu 9 (some 26) ?_
    refine done_ (done_of HT_.out (by kernel_rfl)) ?_
    try go_wp2
    go_ret
    exact⟨rE,uB⟩
   subst c5
   rw[if_pos rfl]at H
   have H':=C H
   clear H
   try go_wp2
   replace HB:=dB HB
   have p1:0≤(x1_1:Int):=oT
   have q1:x1_1<(l0.length:Int):=oT
   obtain⟨ad1,e1,hx1_0,hx1_1,hx1_2,hx1_3⟩:=at_T53 HR1.out x1_1 p1 q1
   have hw1_3:=hx1_3
   have hw1_2:=hx1_2
   have hw1_1:=hx1_1
   have hw1_0:=hx1_0
   cases e1
   replace hx1_0:=hx HB hx1_0
   replace hx1_1:=hx HB hx1_1
   replace hx1_2:=hx HB hx1_2
   replace hx1_3:=hx HB hx1_3
   replace p1:=eq_true p1
   replace q1:=eq_true q1
   have p2:0≤(x1_1:Int):=oT
   have q2:x1_1<(l1.length:Int):=oT
   obtain⟨ad2,e2,hx2_0,hx2_1,hx2_2,hx2_3⟩:=at_T53 HR2.out x1_1 p2 q2
   have hw2_3:=hx2_3
   have hw2_2:=hx2_2
   have hw2_1:=hx2_1
   have hw2_0:=hx2_0
   cases e2
   replace hx2_0:=hx HB hx2_0
   replace hx2_1:=hx HB hx2_1
   replace hx2_2:=hx HB hx2_2
   replace hx2_3:=hx HB hx2_3
   replace p2:=eq_true p2
   replace q2:=eq_true q2
   refine start_ (n:=10) (S:=fun w'=>w'.cell? (ad1.add ((x1_1).toNat * 4))=some (V I ((rd_T53 l0 x1_1).f0))∧w'.cell? ⟨(ad1.add ((x1_1).toNat * 4)).block,(ad1.add ((x1_1).toNat * 4)).off+1,none⟩=some (V I ((rd_T53 l0 x1_1).f1))∧w'.cell? ⟨(ad1.add ((x1_1).toNat * 4)).block,(ad1.add ((x1_1).toNat * 4)).off+2,none⟩=some (V I ((rd_T53 l0 x1_1).f2))∧w'.cell? ⟨(ad1.add ((x1_1).toNat * 4)).block,(ad1.add ((x1_1).toNat * 4)).off+3,none⟩=some (V I ((rd_T53 l0 x1_1).f3))∧w'.cell? (ad2.add ((x1_1).toNat * 4))=some (V I ((rd_T53 l1 x1_1).f0))∧w'.cell? ⟨(ad2.add ((x1_1).toNat * 4)).block,(ad2.add ((x1_1).toNat * 4)).off+1,none⟩=some (V I ((rd_T53 l1 x1_1).f1))∧w'.cell? ⟨(ad2.add ((x1_1).toNat * 4)).block,(ad2.add ((x1_1).toNat * 4)).off+2,none⟩=some (V I ((rd_T53 l1 x1_1).f2))∧w'.cell? ⟨(ad2.add ((x1_1).toNat * 4)).block,(ad2.add ((x1_1).toNat * 4)).off+3,none⟩=some (V I ((rd_T53 l1 x1_1).f3))) (ds:= []) #[false,false,false,false,false,false,false,false,false,false] (by kernel_rfl) rfl rfl hi (fun hHeld=> ?_);refine with_tabW laws_eqActS.tab6 laws_eqActS.bits6 (fun HT_ HW_=> ?_)
   generalize wr.drew=w1 at HB hx1_0 hx1_1 hx1_2 hx1_3 hx2_0 hx2_1 hx2_2 hx2_3 hHeld ⊢
   refine pu 0 (some 17) ?_
   refine pu 1 (some 18) ?_
   refine pu 2 (some 19) ?_
   refine pu 4 (some 21) ?_
   refine pu 5 (some 22) ?_
   refine pu 6 (some 23) ?_
   refine tu 3 (some 20) hHeld ?_
   refine tu 7 (some 24) hHeld ?_
   refine ou 8 (some 25) (fun K hK=> ?_)
   refine gs func82 #[G #[V I ((rd_T53 l0 x1_1).f0),V I ((rd_T53 l0 x1_1).f1),V I ((rd_T53 l0 x1_1).f2),V I ((rd_T53 l0 x1_1).f3)],G #[V I ((rd_T53 l1 x1_1).f0),V I ((rd_T53 l1 x1_1).f1),V I ((rd_T53 l1 x1_1).f2),V I ((rd_T53 l1 x1_1).f3)]] ?_
   with_reducible refine(laws_eqAct.calls ((rd_T53 l0 x1_1).f0) ((rd_T53 l0 x1_1).f1) ((rd_T53 l0 x1_1).f2) ((rd_T53 l0 x1_1).f3) ((rd_T53 l1 x1_1).f0) ((rd_T53 l1 x1_1).f1) ((rd_T53 l1 x1_1).f2) ((rd_T53 l1 x1_1).f3) true _ A1.out).mono ?_
   rintro e w2 ⟨rfl,hb⟩
   refine⟨_,rfl,?_⟩
   replace HB:=eB hb
   (try clear hb)
   refine hK.out _ _ ⟨((HB.out.cell (E w _ hw1_0)).trans hw1_0),((HB.out.cell (E w _ hw1_1)).trans hw1_1),((HB.out.cell (E w _ hw1_2)).trans hw1_2),((HB.out.cell (E w _ hw1_3)).trans hw1_3),((HB.out.cell (E w _ hw2_0)).trans hw2_0),((HB.out.cell (E w _ hw2_1)).trans hw2_1),((HB.out.cell (E w _ hw2_2)).trans hw2_2),((HB.out.cell (E w _ hw2_3)).trans hw2_3)⟩ (fun hHeld=> ?_)
   clear hK K
   refine nu (N:=(some 25)) ?_
   refine pu 9 (some 26) ?_
   refine done_ (done_of HT_.out (by kernel_rfl)) ?_
   try go_wp2
   go_roundg k1
   case measure=>have:=HK1.out;omega
   case rel=>exact⟨(wrap64 (x1_1+1)),rS,H',⟨by have:=HK1.out;omega⟩,⟨uB⟩⟩
def spec_l01In.f (a0:Int) (a1:Int) (a2:Int):Option (Bool):=if a0 ≥ a1 then(some (decide (a0≤a2))) else(some false)
theorem spec_l01In.W1 {p:Prop} (h:p:=by
 go_enter func38,ntmps38
 go_wp2
 go_ret
 exact⟨by first|rfl|(simp;done)|(simp[*];done),by repeat(first|exact Drawn0.refl _|apply Drawn0.step)⟩):p:=h
theorem spec_l01In.calls (a0:Int) (a1:Int) (a2:Int) (r:Bool) (w:World) (h:spec_l01In.f a0 a1 a2=some r):
 Calls prog 38 #[V I a0,V I a1,V I a2] w fun e w'=>e=.returned (O r)∧Drawn0 w w':=by
 have H:=h
 unfold spec_l01In.f at H
 clear h
 by_cases c1:a0 ≥ a1
 ·rw[if_pos c1]at H
  replace c1:=decide_eq_true c1
  obtain rfl:=si H
  exact spec_l01In.W1
 rw[if_neg c1]at H
 replace c1:=decide_eq_false c1
 obtain rfl:=si H
 exact spec_l01In.W1
def spec_JobOk.f (a0_0:Int) (a0_1:Int) (a0_2:Int) (a0_3:Bool) (a0_4:Int) (a0_5:Bool):Option (Bool):=(spec_l01In.f a0_0 1 9999).bind fun t571=>(if t571=true then((spec_l01In.f a0_1 1 64).bind fun t572=>(if t572=true then((spec_l01In.f a0_2 1 20).bind fun t573=>(if t573=true then((spec_l01In.f a0_4 0 9).bind fun t574=>(some t574)) else(some false))) else(some false))) else(some false))
theorem spec_JobOk.W1 {p:Prop} (h:p:=by
 go_enter func39,ntmps39
 go_wp2_with (first|((with_reducible refine J (N:=1) rfl ?_);refine Fix.be 1 #[V I a0_0,V I a0_1,V I a0_2,O a0_3,V I a0_4,O a0_5] 33 ?_;intro gb1 hg w1 BK1 hb;have GW1:=gE (w:=w) hg;replace HB:=eB hb;clear hb hg;obtain⟨_,_,_,_,_,_,_,_,_,_,_,_⟩:=d6 BK1.out)|((with_reducible refine gate_callee (f:=38) rfl ?_);refine gl 38 (some 5) func38 #[V I a0_0,V I 1,V I 9999] ?_;(with_reducible refine(spec_l01In.calls a0_0 1 9999 true _ A1.out).mono ?_);rintro e w' ⟨rfl,⟨nd,rfl⟩⟩;refine⟨_,rfl,?_⟩)|(go_at_call 38;(with_reducible refine(spec_l01In.calls a0_1 1 64 true _ A2.out).mono ?_);rintro e w' ⟨rfl,⟨nd,rfl⟩⟩)|(go_at_call 38;(with_reducible refine(spec_l01In.calls a0_2 1 20 true _ A3.out).mono ?_);rintro e w' ⟨rfl,⟨nd,rfl⟩⟩)|(go_at_call 38;(with_reducible refine(spec_l01In.calls a0_4 0 9 t4 _ A4.out).mono ?_);rintro e w' ⟨rfl,⟨nd,rfl⟩⟩)|(go_at_call 38;(with_reducible refine(spec_l01In.calls a0_2 1 20 false _ A3.out).mono ?_);rintro e w' ⟨rfl,⟨nd,rfl⟩⟩)|(go_at_call 38;(with_reducible refine(spec_l01In.calls a0_1 1 64 false _ A2.out).mono ?_);rintro e w' ⟨rfl,⟨nd,rfl⟩⟩))
 go_ret
 exact⟨rE,uB⟩):p:=h
theorem spec_JobOk.calls (a0_0:Int) (a0_1:Int) (a0_2:Int) (a0_3:Bool) (a0_4:Int) (a0_5:Bool) (r:Bool) (w:World) (h:spec_JobOk.f a0_0 a0_1 a0_2 a0_3 a0_4 a0_5=some r):
 Calls prog 39 #[G #[V I a0_0,V I a0_1,V I a0_2,O a0_3,V I a0_4,O a0_5]] w fun e w'=>e=.returned (O r)∧Below w.heap.size w w':=by
 have hu1:=underlying33
 have HB:=C (Below.refl w.heap.size w)
 have H:=h
 unfold spec_JobOk.f at H
 clear h
 obtain⟨t1,A1,H⟩:=bnd H
 by_cases c1:t1=true
 ·subst c1
  rw[if_pos rfl]at H
  obtain⟨t2,A2,H⟩:=bnd H
  by_cases c2:t2=true
  rotate_left
  ·obtain rfl:=nt c2
   replace H:=nf H
   obtain rfl:=si H
   exact spec_JobOk.W1
  subst c2
  rw[if_pos rfl]at H
  obtain⟨t3,A3,H⟩:=bnd H
  by_cases c3:t3=true
  rotate_left
  ·obtain rfl:=nt c3
   replace H:=nf H
   obtain rfl:=si H
   exact spec_JobOk.W1
  subst c3
  rw[if_pos rfl]at H
  obtain⟨t4,A4,H⟩:=bnd H
  obtain rfl:=si H
  exact spec_JobOk.W1
 obtain rfl:=nt c1
 replace H:=nf H
 obtain rfl:=si H
 go_enter func39,ntmps39
 go_wp2_with (first|((with_reducible refine J (N:=1) rfl ?_);refine Fix.be 1 #[V I a0_0,V I a0_1,V I a0_2,O a0_3,V I a0_4,O a0_5] 33 ?_;intro gb1 hg w1 BK1 hb;have GW1:=gE (w:=w) hg;replace HB:=eB hb;clear hb hg;obtain⟨_,_,_,_,_,_,_,_,_,_,_,_⟩:=d6 BK1.out)|((with_reducible refine gate_callee (f:=38) rfl ?_);refine gl 38 (some 5) func38 #[V I a0_0,V I 1,V I 9999] ?_;(with_reducible refine(spec_l01In.calls a0_0 1 9999 false _ A1.out).mono ?_);rintro e w' ⟨rfl,⟨nd,rfl⟩⟩;refine⟨_,rfl,?_⟩))
 go_ret
 exact⟨rE,uB⟩
mutual
def spec_JobsOk.l0:Nat→List (S33)→Int→Option (Bool)
  |0,_,_=>none
  |k+1,x0,x3=>if x3<(x0.length:Int) then(if 0≤x3 then((spec_JobOk.f ((rd_T33 x0 x3).f0) ((rd_T33 x0 x3).f1) ((rd_T33 x0 x3).f2) ((rd_T33 x0 x3).f3) ((rd_T33 x0 x3).f4) ((rd_T33 x0 x3).f5)).bind fun t576=>(if t576=true then(spec_JobsOk.l1 k x0 x3 0) else(some false))) else(none)) else(some (decide ((x0.length:Int)≤12)))
def spec_JobsOk.l1:Nat→List (S33)→Int→Int→Option (Bool)
  |0,_,_,_=>none
  |k+1,x0,x3,x4=>if x4<x3 then(if 0≤x4 then(if x4<(x0.length:Int) then(if 0≤x3 then(if x3<(x0.length:Int) then(if((rd_T33 x0 x4).f0)=((rd_T33 x0 x3).f0) then(some false) else(spec_JobsOk.l1 k x0 x3 (wrap64 (x4+1)))) else(none)) else(none)) else(none)) else(none)) else(spec_JobsOk.l0 k x0 (wrap64 (x3+1)))
end
def spec_JobsOk.f (k:Nat) (l0:List (S33)):Option (Bool):=spec_JobsOk.l0 k l0 0
theorem spec_JobsOk.W1 {p:Prop} (h:p:=by
 go_wp2
 repeat(go_quiet (fail);try go_wp2)
 go_ret
 exact⟨rE,uB⟩):p:=h
theorem spec_JobsOk.W2 {p:Prop} (h:p:=by
 go_wp2
 repeat(go_quiet (fail);try go_wp2)
 go_roundg k2
 case measure=>have:=HK1.out;have:=HK2.out;omega
 first
  |(case rel=>exact⟨(wrap64 (x2_2+1)),rS,H',⟨by have:=HK1.out;have:=HK2.out;omega⟩,⟨uB⟩⟩)
  |(case rel=>exact⟨(wrap64 (x1_1+1)),rS,H',⟨by have:=HK1.out;have:=HK2.out;omega⟩,⟨uB⟩⟩)):p:=h
theorem spec_JobsOk.calls (k:Nat) (A0:Option Addr) (c0:Nat) (l0:List (S33)) (r:Bool) (w:World) (hr0:Kd.C k33 w A0 l0.length l0) (hc0:l0.length≤c0) (h:spec_JobsOk.f k l0=some r):
 Calls prog 36 #[L A0 l0.length c0] w fun e w'=>e=.returned (O r)∧Below w.heap.size w w':=by
 have hu1:=underlying33
 have HR1:=C hr0
 have HC1:=C hc0
 (try clear hr0);(try clear hc0)
 have HB:=C (Below.refl w.heap.size w)
 have H:=h
 unfold spec_JobsOk.f at H
 clear h
 have H':=C H
 clear H
 go_enter func36,ntmps36
 go_wp2
 repeat(go_quiet (fail);try go_wp2)
 go_loopg [3] k (fun kq v3 w'=>∃(x1_1:Int),v3=V I x1_1∧D (spec_JobsOk.l0 kq l0 x1_1=some r)∧D (kq≤k)∧D (Below w.heap.size w w'))
 case atStart=>exact⟨(0),rS,H',⟨Nat.le_refl _⟩,⟨uB⟩⟩
 case round=>
  clear H'
  obtain⟨x1_1,rfl,HA,HK1,HB⟩:=hrel
  cases gk with
  |zero=>exact absurd HA.out (by simp[spec_JobsOk.l0])
  |succ k1=>
   have H:=HA.out
   clear HA
   simp only[spec_JobsOk.l0]at H
   by_cases c1:x1_1<(l0.length:Int)
   rotate_left
   ·rw[if_neg c1]at H
    replace c1:=decide_eq_false c1
    obtain rfl:=si H
    exact spec_JobsOk.W1
   rw[if_pos c1]at H
   replace c1:=decide_eq_true c1
   obtain⟨c2,H⟩:=np H
   replace c2:=decide_eq_true c2
   obtain⟨t1,A1,H⟩:=bnd H
   by_cases c3:t1=true
   rotate_left
   ·obtain rfl:=nt c3
    replace H:=nf H
    obtain rfl:=si H
    have p1:0≤(x1_1:Int):=oT
    have q1:x1_1<(l0.length:Int):=oT
    obtain⟨ad1,e1,hx1_0,hx1_1,hx1_2,hx1_3,hx1_4,hx1_5⟩:=at_T33 (Kd.C_below HR1.out HB.out) x1_1 p1 q1
    cases e1
    replace p1:=eq_true p1
    replace q1:=eq_true q1
    go_wp2_with (first|(go_at_call 39;(with_reducible refine(spec_JobOk.calls ((rd_T33 l0 x1_1).f0) ((rd_T33 l0 x1_1).f1) ((rd_T33 l0 x1_1).f2) ((rd_T33 l0 x1_1).f3) ((rd_T33 l0 x1_1).f4) ((rd_T33 l0 x1_1).f5) false _ A1.out).mono ?_);rintro e w1 ⟨rfl,hb⟩;replace HB:=eB hb;clear hb))
    repeat(go_quiet (fail);try go_wp2_with (first|(go_at_call 39;(with_reducible refine(spec_JobOk.calls ((rd_T33 l0 x1_1).f0) ((rd_T33 l0 x1_1).f1) ((rd_T33 l0 x1_1).f2) ((rd_T33 l0 x1_1).f3) ((rd_T33 l0 x1_1).f4) ((rd_T33 l0 x1_1).f5) false _ A1.out).mono ?_);rintro e w1 ⟨rfl,hb⟩;replace HB:=eB hb;clear hb)))
    go_ret
    exact⟨rE,uB⟩
   subst c3
   rw[if_pos rfl]at H
   have H':=C H
   clear H
   have p1:0≤(x1_1:Int):=oT
   have q1:x1_1<(l0.length:Int):=oT
   obtain⟨ad1,e1,hx1_0,hx1_1,hx1_2,hx1_3,hx1_4,hx1_5⟩:=at_T33 (Kd.C_below HR1.out HB.out) x1_1 p1 q1
   cases e1
   replace p1:=eq_true p1
   replace q1:=eq_true q1
   go_wp2_with (first|(go_at_call 39;(with_reducible refine(spec_JobOk.calls ((rd_T33 l0 x1_1).f0) ((rd_T33 l0 x1_1).f1) ((rd_T33 l0 x1_1).f2) ((rd_T33 l0 x1_1).f3) ((rd_T33 l0 x1_1).f4) ((rd_T33 l0 x1_1).f5) true _ A1.out).mono ?_);rintro e w1 ⟨rfl,hb⟩;replace HB:=eB hb;clear hb))
   repeat(go_quiet (fail);try go_wp2_with (first|(go_at_call 39;(with_reducible refine(spec_JobOk.calls ((rd_T33 l0 x1_1).f0) ((rd_T33 l0 x1_1).f1) ((rd_T33 l0 x1_1).f2) ((rd_T33 l0 x1_1).f3) ((rd_T33 l0 x1_1).f4) ((rd_T33 l0 x1_1).f5) true _ A1.out).mono ?_);rintro e w1 ⟨rfl,hb⟩;replace HB:=eB hb;clear hb)))
   go_loopg [4] k1 (fun kq v4 w'=>∃(x2_2:Int),v4=V I x2_2∧D (spec_JobsOk.l1 kq l0 x1_1 x2_2=some r)∧D (kq≤k1)∧D (Below w.heap.size w w'))
   case atStart=>exact⟨(0),rS,H',⟨Nat.le_refl _⟩,⟨uB⟩⟩
   case round=>
    clear H'
    obtain⟨x2_2,rfl,HA,HK2,HB⟩:=hrel
    cases gk with
    |zero=>exact absurd HA.out (by simp[spec_JobsOk.l1])
    |succ k2=>
     have H:=HA.out
     clear HA
     simp only[spec_JobsOk.l1]at H
     by_cases c4:x2_2<x1_1
     rotate_left
     ·rw[if_neg c4]at H
      replace c4:=decide_eq_false c4
      have H':=C H
      clear H
      exact spec_JobsOk.W2
     rw[if_pos c4]at H
     replace c4:=decide_eq_true c4
     obtain⟨c5,H⟩:=np H
     replace c5:=decide_eq_true c5
     obtain⟨c6,H⟩:=np H
     replace c6:=decide_eq_true c6
     obtain⟨c7,H⟩:=np H
     replace c7:=decide_eq_true c7
     obtain⟨c8,H⟩:=np H
     replace c8:=decide_eq_true c8
     by_cases c9:((rd_T33 l0 x2_2).f0)=((rd_T33 l0 x1_1).f0)
     rotate_left
     ·rw[if_neg c9]at H
      have c9b0:(((rd_T33 l0 x2_2).f0)==((rd_T33 l0 x1_1).f0))=false:=beq_eq_false_iff_ne.mpr c9
      have c9b1:(((rd_T33 l0 x2_2).f0) !=((rd_T33 l0 x1_1).f0))=true:=bne_iff_ne.mpr c9
      have H':=C H
      clear H
      have p2:0≤(x2_2:Int):=oT
      have q2:x2_2<(l0.length:Int):=oT
      obtain⟨ad2,e2,hx2_0,hx2_1,hx2_2,hx2_3,hx2_4,hx2_5⟩:=at_T33 HR1.out x2_2 p2 q2
      obtain rfl:ad1=ad2:=(by injection e2)
      replace hx2_0:=hx HB hx2_0
      replace hx2_1:=hx HB hx2_1
      replace hx2_2:=hx HB hx2_2
      replace hx2_3:=hx HB hx2_3
      replace hx2_4:=hx HB hx2_4
      replace hx2_5:=hx HB hx2_5
      replace p2:=eq_true p2
      replace q2:=eq_true q2
      have p3:0≤(x1_1:Int):=oT
      have q3:x1_1<(l0.length:Int):=oT
      obtain⟨ad3,e3,hx3_0,hx3_1,hx3_2,hx3_3,hx3_4,hx3_5⟩:=at_T33 HR1.out x1_1 p3 q3
      obtain rfl:ad1=ad3:=(by injection e3)
      replace hx3_0:=hx HB hx3_0
      replace hx3_1:=hx HB hx3_1
      replace hx3_2:=hx HB hx3_2
      replace hx3_3:=hx HB hx3_3
      replace hx3_4:=hx HB hx3_4
      replace hx3_5:=hx HB hx3_5
      replace p3:=eq_true p3
      replace q3:=eq_true q3
      exact spec_JobsOk.W2
     rw[if_pos c9]at H
     have c9b0:(((rd_T33 l0 x2_2).f0)==((rd_T33 l0 x1_1).f0))=true:=beq_iff_eq.mpr c9
     have c9b1:(((rd_T33 l0 x2_2).f0) !=((rd_T33 l0 x1_1).f0))=false:=bne_eq_false_iff_eq.mpr c9
     clear c9
     obtain rfl:=si H
     have p2:0≤(x2_2:Int):=oT
     have q2:x2_2<(l0.length:Int):=oT
     obtain⟨ad2,e2,hx2_0,hx2_1,hx2_2,hx2_3,hx2_4,hx2_5⟩:=at_T33 HR1.out x2_2 p2 q2
     obtain rfl:ad1=ad2:=(by injection e2)
     replace hx2_0:=hx HB hx2_0
     replace hx2_1:=hx HB hx2_1
     replace hx2_2:=hx HB hx2_2
     replace hx2_3:=hx HB hx2_3
     replace hx2_4:=hx HB hx2_4
     replace hx2_5:=hx HB hx2_5
     replace p2:=eq_true p2
     replace q2:=eq_true q2
     have p3:0≤(x1_1:Int):=oT
     have q3:x1_1<(l0.length:Int):=oT
     obtain⟨ad3,e3,hx3_0,hx3_1,hx3_2,hx3_3,hx3_4,hx3_5⟩:=at_T33 HR1.out x1_1 p3 q3
     obtain rfl:ad1=ad3:=(by injection e3)
     replace hx3_0:=hx HB hx3_0
     replace hx3_1:=hx HB hx3_1
     replace hx3_2:=hx HB hx3_2
     replace hx3_3:=hx HB hx3_3
     replace hx3_4:=hx HB hx3_4
     replace hx3_5:=hx HB hx3_5
     replace p3:=eq_true p3
     replace q3:=eq_true q3
     exact spec_JobsOk.W1
mutual
def spec_LineOk.j0:Nat→Bool→Int→Int→List Int→List Int→Int→Bool→Option (Bool)
  |0,_,_,_,_,_,_,_=>none
  |k+1,x40,x580000,x580001,x580002,x580003,x580004,x580005=>if x40=true then(some false) else(spec_LineOk.l0 k 0 x580000 x580001 x580002 x580003 x580004 x580005)
def spec_LineOk.l0:Nat→Int→Int→Int→List Int→List Int→Int→Bool→Option (Bool)
  |0,_,_,_,_,_,_,_=>none
  |k+1,x3,x580000,x580001,x580002,x580003,x580004,x580005=>if x3<(x580003.length:Int) then(if 0≤x3 then(if(rd x580003 x3)=x3 then(spec_LineOk.l0 k (wrap64 (x3+1)) x580000 x580001 x580002 x580003 x580004 x580005) else(some false)) else(none)) else(spec_LineOk.l1 k 0 x580000 x580001 x580002 x580003 x580004 x580005)
def spec_LineOk.l1:Nat→Int→Int→Int→List Int→List Int→Int→Bool→Option (Bool)
  |0,_,_,_,_,_,_,_=>none
  |k+1,x4,x580000,x580001,x580002,x580003,x580004,x580005=>if x4<(x580002.length:Int) then(if 0≤x4 then(if(rd x580002 x4)=(wrap64 ((x580003.length:Int)+x4)) then(spec_LineOk.l1 k (wrap64 (x4+1)) x580000 x580001 x580002 x580003 x580004 x580005) else(some false)) else(none)) else(some true)
end
def spec_LineOk.f (k:Nat) (a0_0:Int) (a0_1:Int) (l0_2:List Int) (l0_3:List Int) (a0_4:Int) (a0_5:Bool):Option (Bool):=(spec_l01In.f a0_0 0 40).bind fun t580=>(if t580=true then((spec_l01In.f a0_1 0 a0_0).bind fun t581=>(if t581=true then(if(l0_2.length:Int) >5 then(spec_LineOk.j0 k true a0_0 a0_1 l0_2 l0_3 a0_4 a0_5) else((spec_l01In.f a0_4 0 100000).bind fun t582=>(if t582=true then(spec_LineOk.j0 k ((wrap64 ((l0_3.length:Int)+(l0_2.length:Int))) !=a0_1) a0_0 a0_1 l0_2 l0_3 a0_4 a0_5) else(spec_LineOk.j0 k true a0_0 a0_1 l0_2 l0_3 a0_4 a0_5)))) else(spec_LineOk.j0 k true a0_0 a0_1 l0_2 l0_3 a0_4 a0_5))) else(spec_LineOk.j0 k true a0_0 a0_1 l0_2 l0_3 a0_4 a0_5))
theorem spec_LineOk.W1 {p:Prop} (h:p:=by
    go_wp2_with (first|(go_at_call 38;(with_reducible refine(spec_l01In.calls a0_0 0 40 true _ A1.out).mono ?_);rintro e w' ⟨rfl,⟨nd,rfl⟩⟩;(try exact dD))|(go_at_call 38;(with_reducible refine(spec_l01In.calls a0_1 0 a0_0 true _ A2.out).mono ?_);rintro e w' ⟨rfl,⟨nd,rfl⟩⟩;(try exact dD))|(go_at_call 38;(with_reducible refine(spec_l01In.calls a0_4 0 100000 true _ A3.out).mono ?_);rintro e w' ⟨rfl,⟨nd,rfl⟩⟩;(try exact dD))|(go_at_call 38;(with_reducible refine(spec_l01In.calls a0_1 0 a0_0 false _ A2.out).mono ?_);rintro e w' ⟨rfl,⟨nd,rfl⟩⟩;(try exact dD))|(go_at_call 38;(with_reducible refine(spec_l01In.calls a0_0 0 40 false _ A1.out).mono ?_);rintro e w' ⟨rfl,⟨nd,rfl⟩⟩;(try exact dD)))
    first
      | (repeat (go_quiet (first | (go_at_call 38; (with_reducible refine (spec_l01In.calls a0_0 0 40 true _ A1.out).mono ?_); rintro e w' ⟨rfl, ⟨nd, rfl⟩⟩; (try exact dD)) | (go_at_call 38; (with_reducible refine (spec_l01In.calls a0_1 0 a0_0 true _ A2.out).mono ?_); rintro e w' ⟨rfl, ⟨nd, rfl⟩⟩; (try exact dD))); try go_wp2_with (first | (go_at_call 38; (with_reducible refine (spec_l01In.calls a0_0 0 40 true _ A1.out).mono ?_); rintro e w' ⟨rfl, ⟨nd, rfl⟩⟩; (try exact dD)) | (go_at_call 38; (with_reducible refine (spec_l01In.calls a0_1 0 a0_0 true _ A2.out).mono ?_); rintro e w' ⟨rfl, ⟨nd, rfl⟩⟩; (try exact dD))))
         go_meet
         case rel=>exact⟨_,(true),rS,H',⟨oL⟩,⟨bK BK1.out⟩,⟨uB⟩⟩)
      | (repeat (go_quiet (first | (go_at_call 38; (with_reducible refine (spec_l01In.calls a0_0 0 40 true _ A1.out).mono ?_); rintro e w' ⟨rfl, ⟨nd, rfl⟩⟩; (try exact dD)) | (go_at_call 38; (with_reducible refine (spec_l01In.calls a0_1 0 a0_0 true _ A2.out).mono ?_); rintro e w' ⟨rfl, ⟨nd, rfl⟩⟩; (try exact dD)) | (go_at_call 38; (with_reducible refine (spec_l01In.calls a0_4 0 100000 true _ A3.out).mono ?_); rintro e w' ⟨rfl, ⟨nd, rfl⟩⟩; (try exact dD))); try go_wp2_with (first | (go_at_call 38; (with_reducible refine (spec_l01In.calls a0_0 0 40 true _ A1.out).mono ?_); rintro e w' ⟨rfl, ⟨nd, rfl⟩⟩; (try exact dD)) | (go_at_call 38; (with_reducible refine (spec_l01In.calls a0_1 0 a0_0 true _ A2.out).mono ?_); rintro e w' ⟨rfl, ⟨nd, rfl⟩⟩; (try exact dD)) | (go_at_call 38; (with_reducible refine (spec_l01In.calls a0_4 0 100000 true _ A3.out).mono ?_); rintro e w' ⟨rfl, ⟨nd, rfl⟩⟩; (try exact dD))))
         go_meet
         case rel=>exact⟨_,(((wrap64 ((l0_3.length:Int)+(l0_2.length:Int))) !=a0_1)),rS,H',⟨oL⟩,⟨bK BK1.out⟩,⟨uB⟩⟩)
      | (repeat (go_quiet (first | (go_at_call 38; (with_reducible refine (spec_l01In.calls a0_0 0 40 true _ A1.out).mono ?_); rintro e w' ⟨rfl, ⟨nd, rfl⟩⟩; (try exact dD)) | (go_at_call 38; (with_reducible refine (spec_l01In.calls a0_1 0 a0_0 false _ A2.out).mono ?_); rintro e w' ⟨rfl, ⟨nd, rfl⟩⟩; (try exact dD))); try go_wp2_with (first | (go_at_call 38; (with_reducible refine (spec_l01In.calls a0_0 0 40 true _ A1.out).mono ?_); rintro e w' ⟨rfl, ⟨nd, rfl⟩⟩; (try exact dD)) | (go_at_call 38; (with_reducible refine (spec_l01In.calls a0_1 0 a0_0 false _ A2.out).mono ?_); rintro e w' ⟨rfl, ⟨nd, rfl⟩⟩; (try exact dD))))
         go_meet
         case rel=>exact⟨_,(true),rS,H',⟨oL⟩,⟨bK BK1.out⟩,⟨uB⟩⟩)
      | (repeat (go_quiet (first | (go_at_call 38; (with_reducible refine (spec_l01In.calls a0_0 0 40 false _ A1.out).mono ?_); rintro e w' ⟨rfl, ⟨nd, rfl⟩⟩; (try exact dD))); try go_wp2_with (first | (go_at_call 38; (with_reducible refine (spec_l01In.calls a0_0 0 40 false _ A1.out).mono ?_); rintro e w' ⟨rfl, ⟨nd, rfl⟩⟩; (try exact dD))))
         go_meet
         case rel=>exact⟨_,(true),rS,H',⟨oL⟩,⟨bK BK1.out⟩,⟨uB⟩⟩)):p:=h
theorem spec_LineOk.W2 {p:Prop} (h:p:=by
 go_wp2
 repeat(go_quiet (fail);try go_wp2)
 go_ret
 exact⟨rE,uB⟩):p:=h
theorem spec_LineOk.calls (k:Nat) (a0_0:Int) (a0_1:Int) (A0_2:Option Addr) (c0_2:Nat) (l0_2:List Int) (A0_3:Option Addr) (c0_3:Nat) (l0_3:List Int) (a0_4:Int) (a0_5:Bool) (r:Bool) (w:World) (hr0_2:Kd.C (Kd.int .i64) w A0_2 l0_2.length l0_2) (hc0_2:l0_2.length≤c0_2) (hr0_3:Kd.C (Kd.int .i64) w A0_3 l0_3.length l0_3) (hc0_3:l0_3.length≤c0_3) (h:spec_LineOk.f k a0_0 a0_1 l0_2 l0_3 a0_4 a0_5=some r):
 Calls prog 37 #[G #[V I a0_0,V I a0_1,L A0_2 l0_2.length c0_2,L A0_3 l0_3.length c0_3,V I a0_4,O a0_5]] w fun e w'=>e=.returned (O r)∧Below w.heap.size w w':=by
 have hu1:=underlying34
 have HR1_2:=C hr0_2
 have HC1_2:=C hc0_2
 (try clear hr0_2);(try clear hc0_2)
 have HR1_3:=C hr0_3
 have HC1_3:=C hc0_3
 (try clear hr0_3);(try clear hc0_3)
 have HB:=C (Below.refl w.heap.size w)
 have H:=h
 unfold spec_LineOk.f at H
 clear h
 have HC2:=C H
 clear H
 go_enter func37,ntmps37
 go_upto_region 1 with(first|((with_reducible refine J (N:=1) rfl ?_);(try(refine gate_guard (by rfl) ?_;dsimp only));refine Fix.be 1 #[V I a0_0,V I a0_1,L A0_2 l0_2.length c0_2,L A0_3 l0_3.length c0_3,V I a0_4,O a0_5] 34 ?_;intro gb1 hg w1 BK1 hb;have GW1:=gE (w:=w) hg;have GE1:=GW1;replace HB:=eB hb;clear hb hg))
 repeat(go_quiet (fail);go_upto_region 1 with(first|((with_reducible refine J (N:=1) rfl ?_);(try(refine gate_guard (by rfl) ?_;dsimp only));refine Fix.be 1 #[V I a0_0,V I a0_1,L A0_2 l0_2.length c0_2,L A0_3 l0_3.length c0_3,V I a0_4,O a0_5] 34 ?_;intro gb1 hg w1 BK1 hb;have GW1:=gE (w:=w) hg;have GE1:=GW1;replace HB:=eB hb;clear hb hg)))
 (try simp only[Act.put,List.setIfInBounds_toArray,List.set_cons_zero,List.set_cons_succ])
 go_cut [40] (fun v40 wc=>∃(kq:Nat) (x1_1:Bool),v40=O x1_1∧D (spec_LineOk.j0 kq x1_1 a0_0 a0_1 l0_2 l0_3 a0_4 a0_5=some r)∧D (kq≤k)∧D (wc.heap[gb1]? =some (.cells #[V I a0_0,V I a0_1,(L A0_2 l0_2.length c0_2),(L A0_3 l0_3.length c0_3),V I a0_4,O a0_5] 34 (0,0)))∧D (Below w.heap.size w wc))
 case first=>
  have H:=HC2.out
  clear HC2
  obtain⟨t1,A1,H⟩:=bnd H
  by_cases c1:t1=true
  rotate_left
  ·obtain rfl:=nt c1
   replace H:=nf H
   have H':=C H
   clear H
   obtain⟨_,_,_,_,_,_,_,_,_,_,_,_⟩:=d6 BK1.out
   exact spec_LineOk.W1
  subst c1
  rw[if_pos rfl]at H
  obtain⟨t2,A2,H⟩:=bnd H
  by_cases c2:t2=true
  rotate_left
  ·obtain rfl:=nt c2
   replace H:=nf H
   have H':=C H
   clear H
   obtain⟨_,_,_,_,_,_,_,_,_,_,_,_⟩:=d6 BK1.out
   exact spec_LineOk.W1
  subst c2
  rw[if_pos rfl]at H
  by_cases c3:(l0_2.length:Int) >5
  ·rw[if_pos c3]at H
   have c3b0:decide (5<(l0_2.length:Int))=true:=decide_eq_true c3
   have c3b1:decide (5<l0_2.length)=true:=decide_eq_true (by omega)
   clear c3
   (first|rw[c3b0]|(simp only[i64_w,i32_w];rw[c3b0])|skip)
   have H':=C H
   clear H
   obtain⟨_,_,_,_,_,_,_,_,_,_,_,_⟩:=d6 BK1.out
   exact spec_LineOk.W1
  rw[if_neg c3]at H
  have c3b0:decide (5<(l0_2.length:Int))=false:=decide_eq_false c3
  have c3b1:decide (5<l0_2.length)=false:=decide_eq_false (by omega)
  clear c3
  (first|rw[c3b0]|(simp only[i64_w,i32_w];rw[c3b0])|skip)
  obtain⟨t3,A3,H⟩:=bnd H
  by_cases c4:t3=true
  ·subst c4
   rw[if_pos rfl]at H
   have H':=C H
   clear H
   obtain⟨_,_,_,_,_,_,_,_,_,_,_,_⟩:=d6 BK1.out
   exact spec_LineOk.W1
  obtain rfl:=nt c4
  replace H:=nf H
  have H':=C H
  clear H
  obtain⟨_,_,_,_,_,_,_,_,_,_,_,_⟩:=d6 BK1.out
  go_wp2_with (first|(go_at_call 38;(with_reducible refine(spec_l01In.calls a0_0 0 40 true _ A1.out).mono ?_);rintro e w' ⟨rfl,⟨nd,rfl⟩⟩;(try exact dD))|(go_at_call 38;(with_reducible refine(spec_l01In.calls a0_1 0 a0_0 true _ A2.out).mono ?_);rintro e w' ⟨rfl,⟨nd,rfl⟩⟩;(try exact dD))|(go_at_call 38;(with_reducible refine(spec_l01In.calls a0_4 0 100000 false _ A3.out).mono ?_);rintro e w' ⟨rfl,⟨nd,rfl⟩⟩;(try exact dD)))
  repeat(go_quiet (first|(go_at_call 38;(with_reducible refine(spec_l01In.calls a0_0 0 40 true _ A1.out).mono ?_);rintro e w' ⟨rfl,⟨nd,rfl⟩⟩;(try exact dD))|(go_at_call 38;(with_reducible refine(spec_l01In.calls a0_1 0 a0_0 true _ A2.out).mono ?_);rintro e w' ⟨rfl,⟨nd,rfl⟩⟩;(try exact dD))|(go_at_call 38;(with_reducible refine(spec_l01In.calls a0_4 0 100000 false _ A3.out).mono ?_);rintro e w' ⟨rfl,⟨nd,rfl⟩⟩;(try exact dD)));try go_wp2_with (first|(go_at_call 38;(with_reducible refine(spec_l01In.calls a0_0 0 40 true _ A1.out).mono ?_);rintro e w' ⟨rfl,⟨nd,rfl⟩⟩;(try exact dD))|(go_at_call 38;(with_reducible refine(spec_l01In.calls a0_1 0 a0_0 true _ A2.out).mono ?_);rintro e w' ⟨rfl,⟨nd,rfl⟩⟩;(try exact dD))|(go_at_call 38;(with_reducible refine(spec_l01In.calls a0_4 0 100000 false _ A3.out).mono ?_);rintro e w' ⟨rfl,⟨nd,rfl⟩⟩;(try exact dD))))
  go_meet
  case rel=>exact⟨_,(true),rS,H',⟨oL⟩,⟨bK BK1.out⟩,⟨uB⟩⟩
 case rest=>
  clear HC2
  obtain⟨kq,x1_1,rfl,HA,HJ1,BK1,HB⟩:=hcut
  cases kq with
  |zero=>exact absurd HA.out (by simp[spec_LineOk.j0])
  |succ kj1=>
   have H:=HA.out
   clear HA
   simp only[spec_LineOk.j0]at H
   by_cases c1:x1_1=true
   ·subst c1
    rw[if_pos rfl]at H
    obtain rfl:=si H
    exact spec_LineOk.W2
   obtain rfl:=nt c1
   replace H:=nf H
   have H':=C H
   clear H
   go_wp2
   repeat(go_quiet (fail);try go_wp2)
   go_loopg [3] kj1 (fun kq v3 w'=>∃(x2_2:Int),v3=V I x2_2∧D (spec_LineOk.l0 kq x2_2 a0_0 a0_1 l0_2 l0_3 a0_4 a0_5=some r)∧D (kq≤kj1)∧D (w'.heap[gb1]? =some (.cells #[V I a0_0,V I a0_1,(L A0_2 l0_2.length c0_2),(L A0_3 l0_3.length c0_3),V I a0_4,O a0_5] 34 (0,0)))∧D (Below w.heap.size w w'))
   case atStart=>exact⟨(0),rS,H',⟨Nat.le_refl _⟩,⟨bK BK1.out⟩,⟨uB⟩⟩
   case round=>
    clear H'
    obtain⟨x2_2,rfl,HA,HK1,BK1,HB⟩:=hrel
    cases gk with
    |zero=>exact absurd HA.out (by simp[spec_LineOk.l0])
    |succ k2=>
     have H:=HA.out
     clear HA
     simp only[spec_LineOk.l0]at H
     by_cases c2:x2_2<(l0_3.length:Int)
     ·rw[if_pos c2]at H
      replace c2:=decide_eq_true c2
      obtain⟨c3,H⟩:=np H
      have c3b0:decide (0≤x2_2)=true:=decide_eq_true c3
      clear c3
      by_cases c4:(rd l0_3 x2_2)=x2_2
      rotate_left
      ·rw[if_neg c4]at H
       have c4b0:((rd l0_3 x2_2)==x2_2)=false:=beq_eq_false_iff_ne.mpr c4
       have c4b1:((rd l0_3 x2_2) !=x2_2)=true:=bne_iff_ne.mpr c4
       obtain rfl:=si H
       obtain⟨_,_,_,_,_,_,_,_,_,_,_,_⟩:=d6 BK1.out
       have p1:0≤(x2_2:Int):=oT
       have q1:x2_2<(l0_3.length:Int):=oT
       obtain⟨ad1,e1,hx1_0⟩:=Kd.at_int (Kd.C_below HR1_3.out HB.out) x2_2 p1 q1
       cases e1
       replace p1:=eq_true p1
       replace q1:=eq_true q1
       exact spec_LineOk.W2
      rw[if_pos c4]at H
      have c4b0:((rd l0_3 x2_2)==x2_2)=true:=beq_iff_eq.mpr c4
      have c4b1:((rd l0_3 x2_2) !=x2_2)=false:=bne_eq_false_iff_eq.mpr c4
      clear c4
      have H':=C H
      clear H
      obtain⟨_,_,_,_,_,_,_,_,_,_,_,_⟩:=d6 BK1.out
      have p1:0≤(x2_2:Int):=oT
      have q1:x2_2<(l0_3.length:Int):=oT
      obtain⟨ad1,e1,hx1_0⟩:=Kd.at_int (Kd.C_below HR1_3.out HB.out) x2_2 p1 q1
      cases e1
      replace p1:=eq_true p1
      replace q1:=eq_true q1
      go_wp2
      repeat(go_quiet (fail);try go_wp2)
      go_roundg k2
      case measure=>have:=HJ1.out;have:=HK1.out;omega
      case rel=>exact⟨(wrap64 (x2_2+1)),rS,H',⟨by have:=HJ1.out;have:=HK1.out;omega⟩,⟨bK BK1.out⟩,⟨uB⟩⟩
     rw[if_neg c2]at H
     replace c2:=decide_eq_false c2
     have H':=C H
     clear H
     obtain⟨_,_,_,_,_,_,_,_,_,_,_,_⟩:=d6 BK1.out
     go_wp2
     repeat(go_quiet (fail);try go_wp2)
     go_loopg [4] k2 (fun kq v4 w'=>∃(x3_3:Int),v4=V I x3_3∧D (spec_LineOk.l1 kq x3_3 a0_0 a0_1 l0_2 l0_3 a0_4 a0_5=some r)∧D (kq≤k2)∧D (w'.heap[gb1]? =some (.cells #[V I a0_0,V I a0_1,(L A0_2 l0_2.length c0_2),(L A0_3 l0_3.length c0_3),V I a0_4,O a0_5] 34 (0,0)))∧D (Below w.heap.size w w'))
     case atStart=>exact⟨(0),rS,H',⟨Nat.le_refl _⟩,⟨bK BK1.out⟩,⟨uB⟩⟩
     case round=>
      clear H'
      obtain⟨x3_3,rfl,HA,HK2,BK1,HB⟩:=hrel
      cases gk with
      |zero=>exact absurd HA.out (by simp[spec_LineOk.l1])
      |succ k3=>
       have H:=HA.out
       clear HA
       simp only[spec_LineOk.l1]at H
       by_cases c3:x3_3<(l0_2.length:Int)
       rotate_left
       ·rw[if_neg c3]at H
        have c3b0:decide (x3_3<(l0_2.length:Int))=false:=decide_eq_false c3
        clear c3
        obtain rfl:=si H
        obtain⟨_,_,_,_,_,_,_,_,_,_,_,_⟩:=d6 BK1.out
        exact spec_LineOk.W2
       rw[if_pos c3]at H
       have c3b0:decide (x3_3<(l0_2.length:Int))=true:=decide_eq_true c3
       clear c3
       obtain⟨c4,H⟩:=np H
       replace c4:=decide_eq_true c4
       by_cases c5:(rd l0_2 x3_3)=(wrap64 ((l0_3.length:Int)+x3_3))
       rotate_left
       ·rw[if_neg c5]at H
        have c5b0:((rd l0_2 x3_3)==(wrap64 ((l0_3.length:Int)+x3_3)))=false:=beq_eq_false_iff_ne.mpr c5
        have c5b1:((rd l0_2 x3_3) !=(wrap64 ((l0_3.length:Int)+x3_3)))=true:=bne_iff_ne.mpr c5
        obtain rfl:=si H
        obtain⟨_,_,_,_,_,_,_,_,_,_,_,_⟩:=d6 BK1.out
        have p1:0≤(x3_3:Int):=oT
        have q1:x3_3<(l0_2.length:Int):=oT
        obtain⟨ad1,e1,hx1_0⟩:=Kd.at_int (Kd.C_below HR1_2.out HB.out) x3_3 p1 q1
        cases e1
        replace p1:=eq_true p1
        replace q1:=eq_true q1
        exact spec_LineOk.W2
       rw[if_pos c5]at H
       have c5b0:((rd l0_2 x3_3)==(wrap64 ((l0_3.length:Int)+x3_3)))=true:=beq_iff_eq.mpr c5
       have c5b1:((rd l0_2 x3_3) !=(wrap64 ((l0_3.length:Int)+x3_3)))=false:=bne_eq_false_iff_eq.mpr c5
       clear c5
       have H':=C H
       clear H
       obtain⟨_,_,_,_,_,_,_,_,_,_,_,_⟩:=d6 BK1.out
       have p1:0≤(x3_3:Int):=oT
       have q1:x3_3<(l0_2.length:Int):=oT
       obtain⟨ad1,e1,hx1_0⟩:=Kd.at_int (Kd.C_below HR1_2.out HB.out) x3_3 p1 q1
       cases e1
       replace p1:=eq_true p1
       replace q1:=eq_true q1
       go_wp2
       repeat(go_quiet (fail);try go_wp2)
       go_roundg k3
       case measure=>have:=HJ1.out;have:=HK1.out;have:=HK2.out;omega
       case rel=>exact⟨(wrap64 (x3_3+1)),rS,H',⟨by have:=HJ1.out;have:=HK1.out;have:=HK2.out;omega⟩,⟨bK BK1.out⟩,⟨uB⟩⟩
mutual
def spec_SidesFor.j0:Nat→Int→Int→List (List Int)→Bool→Option ((List (List Int)))
  |0,_,_,_,_=>none
  |k+1,x0,x1,x5,x31=>if x31=true then(some x5) else(spec_SidesFor.l0 k x0 x1 x5 1)
def spec_SidesFor.l0:Nat→Int→Int→List (List Int)→Int→Option ((List (List Int)))
  |0,_,_,_,_=>none
  |k+1,x0,x1,x5,x6=>if x6≤x0 then(if x1=0 then(none) else(if(Int.tmod x6 x1)=((1:Int) % x1) then(if x5.length<5864062014805 then((some (x5++ [(([]:List Int))]:List (List Int))).bind fun y592=>(if 0≤(wrap64 ((y592.length:Int) - 1)) then(if(wrap64 ((y592.length:Int) - 1))<(y592.length:Int) then(if(rd_L4 y592 (wrap64 ((y592.length:Int) - 1))).length<17592186044416 then(spec_SidesFor.l0 k x0 x1 (y592.set ((wrap64 ((y592.length:Int) - 1)):Int).toNat ((rd_L4 y592 (wrap64 ((y592.length:Int) - 1)))++ [x6])) (wrap64 (x6+1))) else(none)) else(none)) else(none))) else(none)) else(if 0≤(wrap64 ((x5.length:Int) - 1)) then(if(wrap64 ((x5.length:Int) - 1))<(x5.length:Int) then(if(rd_L4 x5 (wrap64 ((x5.length:Int) - 1))).length<17592186044416 then(spec_SidesFor.l0 k x0 x1 (x5.set ((wrap64 ((x5.length:Int) - 1)):Int).toNat ((rd_L4 x5 (wrap64 ((x5.length:Int) - 1)))++ [x6])) (wrap64 (x6+1))) else(none)) else(none)) else(none)))) else(some x5)
end
def spec_SidesFor.f (k:Nat) (a0:Int) (a1:Int):Option ((List (List Int))):=(some (([]:List (List Int)):List (List Int))).bind fun y585=>((spec_l01In.f a0 1 64).bind fun t588=>(if t588=true then(if a1=1 then(spec_SidesFor.j0 k a0 a1 y585 false) else(if a1=2 then(spec_SidesFor.j0 k a0 a1 y585 false) else(if a1=4 then(spec_SidesFor.j0 k a0 a1 y585 false) else(if a1=8 then(spec_SidesFor.j0 k a0 a1 y585 false) else(spec_SidesFor.j0 k a0 a1 y585 (a1 !=16)))))) else(spec_SidesFor.j0 k a0 a1 y585 true)))
theorem spec_SidesFor.mono_l:∀k,(∀y0 y1 y2 y3,LeO (spec_SidesFor.j0 k y0 y1 y2 y3) (spec_SidesFor.j0 (k+1) y0 y1 y2 y3))∧(∀y0 y1 y2 y3,LeO (spec_SidesFor.l0 k y0 y1 y2 y3) (spec_SidesFor.l0 (k+1) y0 y1 y2 y3))
 |0=>⟨fun _ _ _ _ r h=>by simp[spec_SidesFor.j0]at h,fun _ _ _ _ r h=>by simp[spec_SidesFor.l0]at h⟩
 |k+1=>by
  obtain⟨ih0,ih1⟩:=spec_SidesFor.mono_l k
  refine⟨?_,?_⟩
  ·intros
   unfold spec_SidesFor.j0
   exact mo
  ·intros
   unfold spec_SidesFor.l0
   exact mo
theorem spec_SidesFor.mono:∀a0 a1 k,LeO (spec_SidesFor.f k a0 a1) (spec_SidesFor.f (k+1) a0 a1):=by
 intro a0 a1 k
 obtain⟨ih0,ih1⟩:=spec_SidesFor.mono_l k
 unfold spec_SidesFor.f
 exact mo
theorem spec_SidesFor.W1 {p:Prop} (h:p:=by
    go_wp2_with (first|(go_at_call 38;(with_reducible refine(spec_l01In.calls a0 1 64 true _ A1.out).mono ?_);rintro e w' ⟨rfl,⟨nd,rfl⟩⟩;(try exact dD))|(go_at_call 38;(with_reducible refine(spec_l01In.calls a0 1 64 false _ A1.out).mono ?_);rintro e w' ⟨rfl,⟨nd,rfl⟩⟩;(try exact dD)))
    first
      | (repeat (go_quiet (first | (go_at_call 38; (with_reducible refine (spec_l01In.calls a0 1 64 true _ A1.out).mono ?_); rintro e w' ⟨rfl, ⟨nd, rfl⟩⟩; (try exact dD))); try go_wp2_with (first | (go_at_call 38; (with_reducible refine (spec_l01In.calls a0 1 64 true _ A1.out).mono ?_); rintro e w' ⟨rfl, ⟨nd, rfl⟩⟩; (try exact dD))))
         go_meet
         case rel=>exact⟨_,(false),rS,H',⟨oL⟩,⟨fS HO1.out⟩,⟨uB⟩⟩)
      | (repeat (go_quiet (first | (go_at_call 38; (with_reducible refine (spec_l01In.calls a0 1 64 true _ A1.out).mono ?_); rintro e w' ⟨rfl, ⟨nd, rfl⟩⟩; (try exact dD))); try go_wp2_with (first | (go_at_call 38; (with_reducible refine (spec_l01In.calls a0 1 64 true _ A1.out).mono ?_); rintro e w' ⟨rfl, ⟨nd, rfl⟩⟩; (try exact dD))))
         go_meet
         case rel=>exact⟨_,((a1 !=16)),rS,H',⟨oL⟩,⟨fS HO1.out⟩,⟨uB⟩⟩)
      | (repeat (go_quiet (first | (go_at_call 38; (with_reducible refine (spec_l01In.calls a0 1 64 false _ A1.out).mono ?_); rintro e w' ⟨rfl, ⟨nd, rfl⟩⟩; (try exact dD))); try go_wp2_with (first | (go_at_call 38; (with_reducible refine (spec_l01In.calls a0 1 64 false _ A1.out).mono ?_); rintro e w' ⟨rfl, ⟨nd, rfl⟩⟩; (try exact dD))))
         go_meet
         case rel=>exact⟨_,(true),rS,H',⟨oL⟩,⟨fS HO1.out⟩,⟨uB⟩⟩)):p:=h
theorem spec_SidesFor.W2 {p:Prop} (h:p:=by
 go_wp2
 repeat(go_quiet (fail);try go_wp2)
 go_ret
 exact⟨_,rE,fS HO_1.out,uB⟩):p:=h
theorem spec_SidesFor.calls (k:Nat) (a0:Int) (a1:Int) (r:List (List Int)) (w:World) (h:spec_SidesFor.f k a0 a1=some r):
 Calls prog 100 #[V I a0,V I a1] w fun e w'=>∃v0_:Value,e=.returned (v0_)∧Kd.S (Kd.slice 3 (Kd.int .i64)) 25 w' w.heap.size (fun _=>True) v0_ r∧Below w.heap.size w w':=by
 have HB:=C (Below.refl w.heap.size w)
 have H:=h
 unfold spec_SidesFor.f at H
 clear h
 obtain⟨y1,hy1⟩:∃y_:List (List Int),y_=(([]:List (List Int))):=⟨_,rfl⟩
 replace H:((spec_l01In.f a0 1 64).bind fun t1=>(if t1=true then(if a1=1 then(spec_SidesFor.j0 k a0 a1 y1 false) else(if a1=2 then(spec_SidesFor.j0 k a0 a1 y1 false) else(if a1=4 then(spec_SidesFor.j0 k a0 a1 y1 false) else(if a1=8 then(spec_SidesFor.j0 k a0 a1 y1 false) else(spec_SidesFor.j0 k a0 a1 y1 (a1 !=16)))))) else(spec_SidesFor.j0 k a0 a1 y1 true)))=some r:=gy hy1 H
 have Ny1:=C hy1
 clear hy1
 have HC1:=C H
 clear H
 go_enter func100,ntmps100
 go_upto_region 2 with(first|((with_reducible refine J (N:=8) rfl ?_);refine Kd.S_lit (Kd.slice 3 (Kd.int .i64)) _ 25 ?hg (N:=8) ?hd (xs:=([]:List (List Int))) (inner:= []) (ok:=fun _=>True) (okp:=fun _=>True) ?hr ?hp (fun _ hk=>hk) trivial (Below.refl _ _) (Nat.le_refl _) (by simp) ?_;(case hd=>rfl);(case hg=>rfl);(case hr=>exact Fix.hr);(case hp=>exact(Reps.none _ _));intro v1 w2 ho1 hb hg_ hnew_;clear hg_ hnew_;(first|rw[←Ny1.out]at ho1|(simp only[Int.reduceToNat]at ho1;rw[←Ny1.out]at ho1));have HO1:=C (Kd.S_lower ho1 (below_size uB));replace HB:=eB hb;clear hb ho1))
 repeat(go_quiet (fail);go_upto_region 2 with(first|((with_reducible refine J (N:=8) rfl ?_);refine Kd.S_lit (Kd.slice 3 (Kd.int .i64)) _ 25 ?hg (N:=8) ?hd (xs:=([]:List (List Int))) (inner:= []) (ok:=fun _=>True) (okp:=fun _=>True) ?hr ?hp (fun _ hk=>hk) trivial (Below.refl _ _) (Nat.le_refl _) (by simp) ?_;(case hd=>rfl);(case hg=>rfl);(case hr=>exact Fix.hr);(case hp=>exact(Reps.none _ _));intro v1 w2 ho1 hb hg_ hnew_;clear hg_ hnew_;(first|rw[←Ny1.out]at ho1|(simp only[Int.reduceToNat]at ho1;rw[←Ny1.out]at ho1));have HO1:=C (Kd.S_lower ho1 (below_size uB));replace HB:=eB hb;clear hb ho1)))
 (try simp only[Act.put,List.setIfInBounds_toArray,List.set_cons_zero,List.set_cons_succ])
 go_cut [31] (fun v31 wc=>∃(kq:Nat) (x1_2:Bool),v31=O x1_2∧D (spec_SidesFor.j0 kq a0 a1 y1 x1_2=some r)∧D (kq≤k)∧D (Kd.S (Kd.slice 3 (Kd.int .i64)) 25 wc w.heap.size (fun _=>True) v1 y1)∧D (Below w.heap.size w wc))
 case first=>
  have H:=HC1.out
  clear HC1
  obtain⟨t1,A1,H⟩:=bnd H
  by_cases c1:t1=true
  rotate_left
  ·obtain rfl:=nt c1
   replace H:=nf H
   have H':=C H
   clear H
   exact spec_SidesFor.W1
  subst c1
  rw[if_pos rfl]at H
  by_cases c2:a1=1
  ·rw[if_pos c2]at H
   have c2b0:(a1==1)=true:=beq_iff_eq.mpr c2
   have c2b1:(a1 !=1)=false:=bne_eq_false_iff_eq.mpr c2
   clear c2
   (first|rw[c2b0]|(simp only[i64_w,i32_w];rw[c2b0])|skip)
   have H':=C H
   clear H
   exact spec_SidesFor.W1
  rw[if_neg c2]at H
  have c2b0:(a1==1)=false:=beq_eq_false_iff_ne.mpr c2
  have c2b1:(a1 !=1)=true:=bne_iff_ne.mpr c2
  (first|rw[c2b0]|(simp only[i64_w,i32_w];rw[c2b0])|skip)
  by_cases c3:a1=2
  ·rw[if_pos c3]at H
   have c3b0:(a1==2)=true:=beq_iff_eq.mpr c3
   have c3b1:(a1 !=2)=false:=bne_eq_false_iff_eq.mpr c3
   clear c3
   have H':=C H
   clear H
   exact spec_SidesFor.W1
  rw[if_neg c3]at H
  have c3b0:(a1==2)=false:=beq_eq_false_iff_ne.mpr c3
  have c3b1:(a1 !=2)=true:=bne_iff_ne.mpr c3
  by_cases c4:a1=4
  ·rw[if_pos c4]at H
   have c4b0:(a1==4)=true:=beq_iff_eq.mpr c4
   have c4b1:(a1 !=4)=false:=bne_eq_false_iff_eq.mpr c4
   clear c4
   have H':=C H
   clear H
   exact spec_SidesFor.W1
  rw[if_neg c4]at H
  have c4b0:(a1==4)=false:=beq_eq_false_iff_ne.mpr c4
  have c4b1:(a1 !=4)=true:=bne_iff_ne.mpr c4
  by_cases c5:a1=8
  rotate_left
  ·rw[if_neg c5]at H
   have c5b0:(a1==8)=false:=beq_eq_false_iff_ne.mpr c5
   have c5b1:(a1 !=8)=true:=bne_iff_ne.mpr c5
   have H':=C H
   clear H
   exact spec_SidesFor.W1
  rw[if_pos c5]at H
  have c5b0:(a1==8)=true:=beq_iff_eq.mpr c5
  have c5b1:(a1 !=8)=false:=bne_eq_false_iff_eq.mpr c5
  clear c5
  have H':=C H
  clear H
  exact spec_SidesFor.W1
 case rest=>
  clear HC1
  obtain⟨kq,x1_2,rfl,HA,HJ1,HO_1,HB⟩:=hcut
  cases kq with
  |zero=>exact absurd HA.out (by simp[spec_SidesFor.j0])
  |succ kj2=>
   have H:=HA.out
   clear HA
   simp only[spec_SidesFor.j0]at H
   by_cases c1:x1_2=true
   ·subst c1
    rw[if_pos rfl]at H
    obtain rfl:=si H
    exact spec_SidesFor.W2
   obtain rfl:=nt c1
   replace H:=nf H
   have H':=C H
   clear H
   go_wp2
   repeat(go_quiet (fail);try go_wp2)
   go_loopg [5,6] kj2 (fun kq v5 v6 w'=>∃(x2_2:List (List Int)) (x3_2:Int),v6=V I x3_2∧D (spec_SidesFor.l0 kq a0 a1 x2_2 x3_2=some r)∧D (kq≤kj2)∧D (Kd.S (Kd.slice 3 (Kd.int .i64)) 25 w' w.heap.size (fun _=>True) v5 x2_2)∧D (Below w.heap.size w w'))
   case atStart=>exact⟨(y1),(1),rS,H',⟨Nat.le_refl _⟩,⟨fS HO_1.out⟩,⟨uB⟩⟩
   case round=>
    clear H'
    obtain⟨x2_2,x3_2,rfl,HA,HK1,HO_1,HB⟩:=hrel
    cases gk with
    |zero=>exact absurd HA.out (by simp[spec_SidesFor.l0])
    |succ k2=>
     have H:=HA.out
     clear HA
     simp only[spec_SidesFor.l0]at H
     by_cases c2:x3_2≤a0
     rotate_left
     ·rw[if_neg c2]at H
      have c2b0:decide (x3_2≤a0)=false:=decide_eq_false c2
      clear c2
      obtain rfl:=si H
      exact spec_SidesFor.W2
     rw[if_pos c2]at H
     have c2b0:decide (x3_2≤a0)=true:=decide_eq_true c2
     clear c2
     by_cases c3:a1=0
     ·rw[if_pos c3]at H
      exact absurd H (by simp)
     rw[if_neg c3]at H
     have c3b0:(a1==0)=false:=beq_eq_false_iff_ne.mpr c3
     have c3b1:(a1 !=0)=true:=bne_iff_ne.mpr c3
     by_cases c4:(Int.tmod x3_2 a1)=((1:Int) % a1)
     rotate_left
     ·rw[if_neg c4]at H
      have c4b0:((Int.tmod x3_2 a1)==((1:Int) % a1))=false:=beq_eq_false_iff_ne.mpr c4
      have c4b1:((Int.tmod x3_2 a1) !=((1:Int) % a1))=true:=bne_iff_ne.mpr c4
      obtain⟨ji1,hji1⟩:∃j_:Int,(wrap64 ((x2_2.length:Int) - 1))=j_:=⟨_,rfl⟩
      replace H:(if 0≤(ji1) then(if(ji1)<(x2_2.length:Int) then(if(rd_L4 x2_2 (ji1)).length<17592186044416 then(spec_SidesFor.l0 k2 a0 a1 (x2_2.set ((ji1):Int).toNat ((rd_L4 x2_2 (ji1))++ [x3_2])) (wrap64 (x3_2+1))) else(none)) else(none)) else(none))=some r:=by first|(rw[hji1]at H;exact H)|(simp only[hji1]at H ⊢;exact H)
      have hji1w:(IntKind.i64.wrap ((x2_2.length:Int) - 1))=ji1:=(i64_w _).trans hji1
      obtain⟨c5,H⟩:=np H
      replace c5:=decide_eq_true c5
      obtain⟨c6,H⟩:=np H
      replace c6:=decide_eq_true c6
      obtain⟨c7,H⟩:=np H
      have LMc1:=C c7
      clear c7
      obtain⟨y2,hy2⟩:∃y_:List Int,y_=((rd_L4 x2_2 (ji1))++ [x3_2]):=⟨_,rfl⟩
      replace H:(spec_SidesFor.l0 k2 a0 a1 (x2_2.set ((ji1):Int).toNat y2) (wrap64 (x3_2+1)))=some r:=gy hy2 H
      have Ny2:=C hy2
      clear hy2
      obtain⟨y3,hy3⟩:∃y_:List (List Int),y_=(x2_2.set ((ji1):Int).toNat y2):=⟨_,rfl⟩
      replace H:(spec_SidesFor.l0 k2 a0 a1 y3 (wrap64 (x3_2+1)))=some r:=gy hy3 H
      have Ny3:=C hy3
      clear hy3
      have H':=C H
      clear H
      obtain⟨Ao1,co1,eo1⟩:=Kd.S_slice HO_1.out
      subst eo1
      have p1:0≤((ji1):Int):=oT
      have q1:(ji1)<(x2_2.length:Int):=oT
      obtain⟨ad1,A1_0,c8_0,e1,hx1_0,hl1_0,hi1_0⟩:=at_L4 (Kd.S_reads' HO_1.out).2.2 (ji1) p1 q1
      cases e1
      obtain⟨ce1,hce1,hMe1,hcc1⟩:=Kd.S_get HO_1.out [] (ji1) p1 (by first|exact q1|exact oT|(have e_:=(Kd.S_reads' HO_1.out).1;omega))
      obtain⟨ve1_0,rfl,ge1_0⟩:=hMe1
      have hv1_0:=hcc1 0 _ rfl
      rw[Nat.add_zero,show((Kd.slice 3 (Kd.int .i64))).sz=1 from rfl,Nat.mul_one]at hv1_0
      replace hv1_0:=Option.some.inj (hv1_0.symm.trans hx1_0)
      rw[hv1_0]at ge1_0
      have HL1_0:=C (show Kd.R (Kd.int .i64) 3 _ _ _ _ (rd_L4 x2_2 (ji1)) from ge1_0)
      clear hv1_0 ge1_0
      have HX1_0:=C hx1_0
      (try clear hcc1);(try clear hce1)
      have HR1_0:=C hi1_0
      have HC2_0:=C hl1_0
      clear hi1_0 hl1_0
      replace p1:=eq_true p1
      replace q1:=eq_true q1
      obtain⟨go1,co2,eo2,gb1,gl1,cl1,HG1⟩:=Kd.S_form HO_1.out (by have h_:((ji1):Int)<((x2_2.length:Int):Int):=oT;have h1_:0≤((ji1):Int):=oT;omega)
      (first|cases eo2|(injection eo2 with ea_ en_ ec_;(first|subst ea_|(injection ea_ with ea_;subst ea_));subst ec_;clear en_))
      have GB1:=C gb1
      have GG1:=C HG1
      clear gb1 gl1 HG1
      (first|simp only[add_plain]at hx1_0|skip)
      obtain⟨oki1,ce2,hcl1,hM1,hcc2,_,_,hH1⟩:=Kd.S_elem HO_1.out [] ((ji1):Int) oT (by have h_:((ji1):Int)<((x2_2.length:Int):Int):=oT;first|exact h_|(have e_:=(Kd.S_reads' HO_1.out).1;omega)|simpa using h_)
      obtain⟨ve2_0,rfl,ge2_0⟩:=hM1
      have hv2:=hcc2 0 _ rfl
      have hX1:=HX1_0.out
      (try simp only[add_plain]at hX1)
      (try simp only[Nat.add_zero]at hv2)
      (try rw[show((Kd.slice 3 (Kd.int .i64))).sz=1 from rfl,Nat.mul_one]at hv2)
      replace hv2:=Option.some.inj (hv2.symm.trans hX1)
      subst hv2
      (try clear hX1);(try clear hcc2);(try clear hcl1)
      have UU1:=C (show Kd.R (Kd.int .i64) 3 _ w.heap.size oki1 (L A1_0 (rd_L4 x2_2 (ji1)).length c8_0) (rd_L4 x2_2 (ji1)) from ge2_0)
      have HH1:=C hH1
      have HN1:=C (Kd.S_reads' HO_1.out).1
      clear hH1 ge2_0
      go_wp2_with (first|((with_reducible refine gate_builtin (b:=.append) (xs:= #[.tmp 56,.tmp 58]) rfl ?_);at_builtin;refine Kd.R_append (Kd.int .i64) (w0:=w) w.heap.size rfl (.tmp 56) (.tmp 58) 25 3 (V I 0) 8 rfl underlying25 info3 rfl (by decide) (by omega) (L A1_0 (rd_L4 x2_2 (ji1)).length c8_0) (rd_L4 x2_2 (ji1)) x3_2 [V I x3_2] (fun k_=>oki1 k_∨((fun _=>True)) k_∧wr.heap.size≤k_) (fun _=>False) rfl rfl ?aP (fun _ hk=>hk.elim) ?aF ?aO ?aB ?aS ?aL ?_;(case aP=>exact rfl);(case aB=>exact uB);(case aF=>exact(fun k_ hk=>.inr ⟨trivial,hk⟩));(case aO=>exact(Kd.R_mono (fR UU1.out) (fun _ hk=>.inl hk)));(case aS=>exact(below_size uB));(case aL=>have:=LMc1.out;omega);intro v2 w3 ho hb hg hat;rw[←Ny2.out]at ho;have HO2:=C (ho);replace HB:=C (hb);replace HH1:=C (Kd.H_grown (Kd.H_widen (by repeat(first|exact HH1.out|refine Kd.H_alloc ?_ _|refine Kd.H_drewN ?_ _|refine Kd.H_drew ?_))) hg (fun k_ e_=>.inl (UU1.out.1 k_ e_)));clear HO_1;clear UU1;clear HL1_0;clear ho hb hg hat;have p2:0≤((ji1):Int):=oT;have q2:((ji1):Int)<((x2_2.length:Int):Int):=oT;replace p2:=eq_true p2;replace q2:=eq_true q2;obtain⟨Ao2,co3,rfl⟩:=Kd.R_slice HO2.out;obtain⟨_,_,hraw1,_,_,hcc3,_⟩:=Kd.H_raw HH1.out oT (by have h_:((ji1):Int)<((x2_2.length:Int):Int):=oT;first|exact h_|(have e_:=(HN1.out);omega)|simpa using h_);obtain⟨_,hfr1⟩:=Kd.H_at HH1.out oT (by have h_:((ji1):Int)<((x2_2.length:Int):Int):=oT;first|exact h_|(have e_:=(HN1.out);omega)|simpa using h_);have hx2_0:=hcc3 0 _ rfl;have hf1_0:=hfr1 0;(try simp only[Nat.add_zero]at hx2_0 hf1_0);(try rw[show((Kd.slice 3 (Kd.int .i64))).sz=1 from rfl,Nat.mul_one]at hx2_0);(try rw[show((Kd.slice 3 (Kd.int .i64))).sz=1 from rfl,Nat.mul_one]at hf1_0);have HP1:=Kd.S_seg0 HH1.out oT (by have h_:((ji1):Int)<((x2_2.length:Int):Int):=oT;first|exact h_|(have e_:=(HN1.out);omega)|simpa using h_) (seg:= [L Ao2 y2.length co3]) (j:=0) (show 1≤1 from by decide) (x':=y2) (Kd.M_row HO2.out) (fun _ hk=>hk);(try simp only[show((Kd.slice 3 (Kd.int .i64))).sz=1 from rfl,Nat.mul_one,Nat.add_zero]at HP1);(try clear hcc3);(try clear hfr1))|((with_reducible refine gate_store (t:=25) (p:=60) rfl ?_);(try(rw[drewN_self w3];generalize hq_:World.drewN w3 _=w3;have n0_:=C (Kd.S_at hq_ HO_1.out);have n1_:=C (below_at hq_ HB.out);clear hq_ HO_1 HB;have HO_1:=n0_;have HB:=n1_;clear n0_ n1_;(try(obtain⟨Ao2,co3,eo3⟩:=Kd.R_slice HO2.out));(try(subst eo3));(try(obtain⟨_,_,hraw1,_,_,hcc3,_⟩:=Kd.H_raw HH1.out oT (by have h_:((ji1):Int)<((x2_2.length:Int):Int):=oT;first|exact h_|(have e_:=(HN1.out);omega)|simpa using h_)));(try(obtain⟨_,hfr1⟩:=Kd.H_at HH1.out oT (by have h_:((ji1):Int)<((x2_2.length:Int):Int):=oT;first|exact h_|(have e_:=(HN1.out);omega)|simpa using h_)));(try(have hx2_0:=hcc3 0 _ rfl));(try(have hf1_0:=hfr1 0));(try(try simp only[Nat.add_zero]at hx2_0 hf1_0));(try(try rw[show((Kd.slice 3 (Kd.int .i64))).sz=1 from rfl,Nat.mul_one]at hx2_0));(try(try rw[show((Kd.slice 3 (Kd.int .i64))).sz=1 from rfl,Nat.mul_one]at hf1_0));(try(have HP1:=Kd.S_seg0 HH1.out oT (by have h_:((ji1):Int)<((x2_2.length:Int):Int):=oT;first|exact h_|(have e_:=(HN1.out);omega)|simpa using h_) (seg:= [L Ao2 y2.length co3]) (j:=0) (show 1≤1 from by decide) (x':=y2) (Kd.M_row HO2.out) (fun _ hk=>hk)));(try(try simp only[show((Kd.slice 3 (Kd.int .i64))).sz=1 from rfl,Nat.mul_one,Nat.add_zero]at HP1));(try(try clear hcc3);(try clear hfr1))));refine store_event (t:=25) (p:=60) (v:= ?vo_w1) (w1:=(w3.setCell ⟨go1,((ji1):Int).toNat,none⟩ (L Ao2 y2.length co3))) ?hg ?ho ?hn ?hr ?_;(case ho=>rfl);(case hg=>rfl);(case hn=>rfl);(case hr=>exact Fix.hr);intro w4 hw;have hg:w3.grownBy w4 (some go1):=(by rw[hw];exact HP1.2);have hp_:Kd.S (Kd.slice 3 (Kd.int .i64)) 25 w4 w.heap.size (fun _=>True) (L (some ⟨go1,0,none⟩) x2_2.length co1) y3:=(by rw[hw,Ny3.out];exact HP1.1);clear HP1;have HO_1:=C (hp_);replace HB:=C ((by rw[hw];exact below_set HB.out GB1.out:Below w.heap.size w w4));clear HO2;clear HH1;clear hg hw hp_ hraw1))
      repeat(go_quiet (fail);try go_wp2_with (first|((with_reducible refine gate_builtin (b:=.append) (xs:= #[.tmp 56,.tmp 58]) rfl ?_);at_builtin;refine Kd.R_append (Kd.int .i64) (w0:=w) w.heap.size rfl (.tmp 56) (.tmp 58) 25 3 (V I 0) 8 rfl underlying25 info3 rfl (by decide) (by omega) (L A1_0 (rd_L4 x2_2 (ji1)).length c8_0) (rd_L4 x2_2 (ji1)) x3_2 [V I x3_2] (fun k_=>oki1 k_∨((fun _=>True)) k_∧wr.heap.size≤k_) (fun _=>False) rfl rfl ?aP (fun _ hk=>hk.elim) ?aF ?aO ?aB ?aS ?aL ?_;(case aP=>exact rfl);(case aB=>exact uB);(case aF=>exact(fun k_ hk=>.inr ⟨trivial,hk⟩));(case aO=>exact(Kd.R_mono (fR UU1.out) (fun _ hk=>.inl hk)));(case aS=>exact(below_size uB));(case aL=>have:=LMc1.out;omega);intro v2 w3 ho hb hg hat;rw[←Ny2.out]at ho;have HO2:=C (ho);replace HB:=C (hb);replace HH1:=C (Kd.H_grown (Kd.H_widen (by repeat(first|exact HH1.out|refine Kd.H_alloc ?_ _|refine Kd.H_drewN ?_ _|refine Kd.H_drew ?_))) hg (fun k_ e_=>.inl (UU1.out.1 k_ e_)));clear HO_1;clear UU1;clear HL1_0;clear ho hb hg hat;have p2:0≤((ji1):Int):=oT;have q2:((ji1):Int)<((x2_2.length:Int):Int):=oT;replace p2:=eq_true p2;replace q2:=eq_true q2;obtain⟨Ao2,co3,rfl⟩:=Kd.R_slice HO2.out;obtain⟨_,_,hraw1,_,_,hcc3,_⟩:=Kd.H_raw HH1.out oT (by have h_:((ji1):Int)<((x2_2.length:Int):Int):=oT;first|exact h_|(have e_:=(HN1.out);omega)|simpa using h_);obtain⟨_,hfr1⟩:=Kd.H_at HH1.out oT (by have h_:((ji1):Int)<((x2_2.length:Int):Int):=oT;first|exact h_|(have e_:=(HN1.out);omega)|simpa using h_);have hx2_0:=hcc3 0 _ rfl;have hf1_0:=hfr1 0;(try simp only[Nat.add_zero]at hx2_0 hf1_0);(try rw[show((Kd.slice 3 (Kd.int .i64))).sz=1 from rfl,Nat.mul_one]at hx2_0);(try rw[show((Kd.slice 3 (Kd.int .i64))).sz=1 from rfl,Nat.mul_one]at hf1_0);have HP1:=Kd.S_seg0 HH1.out oT (by have h_:((ji1):Int)<((x2_2.length:Int):Int):=oT;first|exact h_|(have e_:=(HN1.out);omega)|simpa using h_) (seg:= [L Ao2 y2.length co3]) (j:=0) (show 1≤1 from by decide) (x':=y2) (Kd.M_row HO2.out) (fun _ hk=>hk);(try simp only[show((Kd.slice 3 (Kd.int .i64))).sz=1 from rfl,Nat.mul_one,Nat.add_zero]at HP1);(try clear hcc3);(try clear hfr1))|((with_reducible refine gate_store (t:=25) (p:=60) rfl ?_);(try(rw[drewN_self w3];generalize hq_:World.drewN w3 _=w3;have n0_:=C (Kd.S_at hq_ HO_1.out);have n1_:=C (below_at hq_ HB.out);clear hq_ HO_1 HB;have HO_1:=n0_;have HB:=n1_;clear n0_ n1_;(try(obtain⟨Ao2,co3,eo3⟩:=Kd.R_slice HO2.out));(try(subst eo3));(try(obtain⟨_,_,hraw1,_,_,hcc3,_⟩:=Kd.H_raw HH1.out oT (by have h_:((ji1):Int)<((x2_2.length:Int):Int):=oT;first|exact h_|(have e_:=(HN1.out);omega)|simpa using h_)));(try(obtain⟨_,hfr1⟩:=Kd.H_at HH1.out oT (by have h_:((ji1):Int)<((x2_2.length:Int):Int):=oT;first|exact h_|(have e_:=(HN1.out);omega)|simpa using h_)));(try(have hx2_0:=hcc3 0 _ rfl));(try(have hf1_0:=hfr1 0));(try(try simp only[Nat.add_zero]at hx2_0 hf1_0));(try(try rw[show((Kd.slice 3 (Kd.int .i64))).sz=1 from rfl,Nat.mul_one]at hx2_0));(try(try rw[show((Kd.slice 3 (Kd.int .i64))).sz=1 from rfl,Nat.mul_one]at hf1_0));(try(have HP1:=Kd.S_seg0 HH1.out oT (by have h_:((ji1):Int)<((x2_2.length:Int):Int):=oT;first|exact h_|(have e_:=(HN1.out);omega)|simpa using h_) (seg:= [L Ao2 y2.length co3]) (j:=0) (show 1≤1 from by decide) (x':=y2) (Kd.M_row HO2.out) (fun _ hk=>hk)));(try(try simp only[show((Kd.slice 3 (Kd.int .i64))).sz=1 from rfl,Nat.mul_one,Nat.add_zero]at HP1));(try(try clear hcc3);(try clear hfr1))));refine store_event (t:=25) (p:=60) (v:= ?vo_w1) (w1:=(w3.setCell ⟨go1,((ji1):Int).toNat,none⟩ (L Ao2 y2.length co3))) ?hg ?ho ?hn ?hr ?_;(case ho=>rfl);(case hg=>rfl);(case hn=>rfl);(case hr=>exact Fix.hr);intro w4 hw;have hg:w3.grownBy w4 (some go1):=(by rw[hw];exact HP1.2);have hp_:Kd.S (Kd.slice 3 (Kd.int .i64)) 25 w4 w.heap.size (fun _=>True) (L (some ⟨go1,0,none⟩) x2_2.length co1) y3:=(by rw[hw,Ny3.out];exact HP1.1);clear HP1;have HO_1:=C (hp_);replace HB:=C ((by rw[hw];exact below_set HB.out GB1.out:Below w.heap.size w w4));clear HO2;clear HH1;clear hg hw hp_ hraw1)))
      go_roundg k2
      case measure=>have:=HJ1.out;have:=HK1.out;omega
      case rel=>exact⟨(y3),(wrap64 (x3_2+1)),rS,H',⟨by have:=HJ1.out;have:=HK1.out;omega⟩,⟨fS HO_1.out⟩,⟨uB⟩⟩
     rw[if_pos c4]at H
     have c4b0:((Int.tmod x3_2 a1)==((1:Int) % a1))=true:=beq_iff_eq.mpr c4
     have c4b1:((Int.tmod x3_2 a1) !=((1:Int) % a1))=false:=bne_eq_false_iff_eq.mpr c4
     clear c4
     obtain⟨y2,hy2⟩:∃y_:List Int,y_=(([]:List Int)):=⟨_,rfl⟩
     replace H:(if x2_2.length<5864062014805 then((some (x2_2++ [y2]:List (List Int))).bind fun y3=>(if 0≤(wrap64 ((y3.length:Int) - 1)) then(if(wrap64 ((y3.length:Int) - 1))<(y3.length:Int) then(if(rd_L4 y3 (wrap64 ((y3.length:Int) - 1))).length<17592186044416 then(spec_SidesFor.l0 k2 a0 a1 (y3.set ((wrap64 ((y3.length:Int) - 1)):Int).toNat ((rd_L4 y3 (wrap64 ((y3.length:Int) - 1)))++ [x3_2])) (wrap64 (x3_2+1))) else(none)) else(none)) else(none))) else(none))=some r:=gy hy2 H
     have Ny2:=C hy2
     clear hy2
     obtain⟨c5,H⟩:=np H
     have LMc1:=C c5
     clear c5
     obtain⟨y3,hy3⟩:∃y_:List (List Int),y_=(x2_2++ [y2]):=⟨_,rfl⟩
     replace H:(if 0≤(wrap64 ((y3.length:Int) - 1)) then(if(wrap64 ((y3.length:Int) - 1))<(y3.length:Int) then(if(rd_L4 y3 (wrap64 ((y3.length:Int) - 1))).length<17592186044416 then(spec_SidesFor.l0 k2 a0 a1 (y3.set ((wrap64 ((y3.length:Int) - 1)):Int).toNat ((rd_L4 y3 (wrap64 ((y3.length:Int) - 1)))++ [x3_2])) (wrap64 (x3_2+1))) else(none)) else(none)) else(none))=some r:=gy hy3 H
     have Ny3:=C hy3
     clear hy3
     obtain⟨ji1,hji1⟩:∃j_:Int,(wrap64 ((y3.length:Int) - 1))=j_:=⟨_,rfl⟩
     replace H:(if 0≤(ji1) then(if(ji1)<(y3.length:Int) then(if(rd_L4 y3 (ji1)).length<17592186044416 then(spec_SidesFor.l0 k2 a0 a1 (y3.set ((ji1):Int).toNat ((rd_L4 y3 (ji1))++ [x3_2])) (wrap64 (x3_2+1))) else(none)) else(none)) else(none))=some r:=by first|(rw[hji1]at H;exact H)|(simp only[hji1]at H ⊢;exact H)
     have hji1w:(IntKind.i64.wrap ((y3.length:Int) - 1))=ji1:=(i64_w _).trans hji1
     obtain⟨c6,H⟩:=np H
     replace c6:=decide_eq_true c6
     obtain⟨c7,H⟩:=np H
     replace c7:=decide_eq_true c7
     obtain⟨c8,H⟩:=np H
     have LMc2:=C c8
     clear c8
     obtain⟨y4,hy4⟩:∃y_:List Int,y_=((rd_L4 y3 (ji1))++ [x3_2]):=⟨_,rfl⟩
     replace H:(spec_SidesFor.l0 k2 a0 a1 (y3.set ((ji1):Int).toNat y4) (wrap64 (x3_2+1)))=some r:=gy hy4 H
     have Ny4:=C hy4
     clear hy4
     obtain⟨y5,hy5⟩:∃y_:List (List Int),y_=(y3.set ((ji1):Int).toNat y4):=⟨_,rfl⟩
     replace H:(spec_SidesFor.l0 k2 a0 a1 y5 (wrap64 (x3_2+1)))=some r:=gy hy5 H
     have Ny5:=C hy5
     clear hy5
     have H':=C H
     clear H
     go_wp2_with (first|((with_reducible refine J (N:=45) rfl ?_);refine Kd.R_lit (Kd.int .i64) _ 3 ?hg (N:=45) ?hd (xs:=([]:List Int)) (inner:= []) (ok:=fun _=>True) (okp:=fun _=>True) ?hr ?hp (fun _ hk=>hk) trivial (Below.refl _ _) (Nat.le_refl _) (by simp) ?_;(case hd=>rfl);(case hg=>rfl);(case hr=>exact Fix.hr);(case hp=>exact(Reps.none _ _));intro v2 w3 ho2 hb hg_ hnew_;clear hg_ hnew_;(first|rw[←Ny2.out]at ho2|(simp only[Int.reduceToNat]at ho2;rw[←Ny2.out]at ho2));have HO2:=lR ho2;replace HO_1:=C (Kd.S_elder' (uS HO_1.out) (Kd.R_base ho2) hb);replace HB:=eB hb;clear hb ho2;obtain⟨Ao1,co1,rfl⟩:=Kd.R_slice HO2.out)|((with_reducible refine gate_builtin (b:=.append) (xs:= #[.tmp 44,.tmp 46]) rfl ?_);at_builtin;refine Kd.S_append (Kd.slice 3 (Kd.int .i64)) (w0:=w) w.heap.size rfl (.tmp 44) (.tmp 46) 111 25 (L none 0 0) 24 rfl underlying111 info25 rfl (by decide) (by omega) u5 x2_2 y2 [L Ao1 y2.length co1] (fun _=>True) (fun k_=>some k_=(L Ao1 y2.length co1:Value).ownBlock) rfl rfl ?aP (fun k_ hk_=>((Kd.R_mono (ok':=fun k_=>((fun _=>True)) k_∧qm k_ u5) (Kd.R_apart' (HO2.out) (Kd.S_typed HO_1.out) (by decide)) (fun k_ hk=>⟨trivial,hk.2⟩))).1 k_ hk_.symm) ?aF ?aO ?aB ?aS ?aL ?_;(case aP=>exact Kd.M_row (Kd.R_mono (Kd.R_tight rfl (Kd.R_mono (ok':=fun k_=>((fun _=>True)) k_∧qm k_ u5) (Kd.R_apart' (HO2.out) (Kd.S_typed HO_1.out) (by decide)) (fun k_ hk=>⟨trivial,hk.2⟩))) (fun _ h_=>h_)));(case aB=>exact uB);(case aF=>exact(fun _ _=>trivial));(case aO=>exact(Kd.S_mono (fS HO_1.out) (fun k_ hk=>⟨trivial,fun e_=>hk.2 e_⟩)));(case aS=>exact(below_size uB));(case aL=>have:=LMc1.out;omega);intro v3 w4 ho hb hg hat;rw[←Ny3.out]at ho;have HO3:=C (ho);replace HB:=C (hb);clear HO_1;clear HO2;clear ho hb hg hat;obtain⟨Ao2,co2,eo2⟩:=Kd.S_slice HO3.out;subst eo2;have p1:0≤((ji1):Int):=oT;have q1:(ji1)<(y3.length:Int):=oT;obtain⟨ad1,A1_0,c9_0,e1,hx1_0,hl1_0,hi1_0⟩:=at_L4 (Kd.S_reads' HO3.out).2.2 (ji1) p1 q1;cases e1;obtain⟨ce1,hce1,hMe1,hcc1⟩:=Kd.S_get HO3.out [] (ji1) p1 (by first|exact q1|exact oT|(have e_:=(Kd.S_reads' HO3.out).1;omega));obtain⟨ve1_0,rfl,ge1_0⟩:=hMe1;have hv1_0:=hcc1 0 _ rfl;rw[Nat.add_zero,show((Kd.slice 3 (Kd.int .i64))).sz=1 from rfl,Nat.mul_one]at hv1_0;replace hv1_0:=Option.some.inj (hv1_0.symm.trans hx1_0);rw[hv1_0]at ge1_0;have HL1_0:=C (show Kd.R (Kd.int .i64) 3 _ _ _ _ (rd_L4 y3 (ji1)) from ge1_0);clear hv1_0 ge1_0;have HX1_0:=C hx1_0;(try clear hcc1);(try clear hce1);have HR1_0:=C hi1_0;have HC2_0:=C hl1_0;clear hi1_0 hl1_0;replace p1:=eq_true p1;replace q1:=eq_true q1;obtain⟨go1,co3,eo3,gb1,gl1,cl1,HG1⟩:=Kd.S_form HO3.out (by have h_:((ji1):Int)<((y3.length:Int):Int):=oT;have h1_:0≤((ji1):Int):=oT;omega);(first|cases eo3|(injection eo3 with ea_ en_ ec_;(first|subst ea_|(injection ea_ with ea_;subst ea_));subst ec_;clear en_));have GB1:=C gb1;have GG1:=C HG1;clear gb1 gl1 HG1;(first|simp only[add_plain]at hx1_0|skip);obtain⟨oki1,ce2,hcl1,hM1,hcc2,_,_,hH1⟩:=Kd.S_elem HO3.out [] ((ji1):Int) oT (by have h_:((ji1):Int)<((y3.length:Int):Int):=oT;first|exact h_|(have e_:=(Kd.S_reads' HO3.out).1;omega)|simpa using h_);obtain⟨ve2_0,rfl,ge2_0⟩:=hM1;have hv2:=hcc2 0 _ rfl;have hX1:=HX1_0.out;(try simp only[add_plain]at hX1);(try simp only[Nat.add_zero]at hv2);(try rw[show((Kd.slice 3 (Kd.int .i64))).sz=1 from rfl,Nat.mul_one]at hv2);replace hv2:=Option.some.inj (hv2.symm.trans hX1);subst hv2;(try clear hX1);(try clear hcc2);(try clear hcl1);have UU1:=C (show Kd.R (Kd.int .i64) 3 _ w.heap.size oki1 (L A1_0 (rd_L4 y3 (ji1)).length c9_0) (rd_L4 y3 (ji1)) from ge2_0);have HH1:=C hH1;have HN1:=C (Kd.S_reads' HO3.out).1;clear hH1 ge2_0)|((with_reducible refine gate_builtin (b:=.append) (xs:= #[.tmp 56,.tmp 58]) rfl ?_);at_builtin;refine Kd.R_append (Kd.int .i64) (w0:=w) w.heap.size rfl (.tmp 56) (.tmp 58) 25 3 (V I 0) 8 rfl underlying25 info3 rfl (by decide) (by omega) (L A1_0 (rd_L4 y3 (ji1)).length c9_0) (rd_L4 y3 (ji1)) x3_2 [V I x3_2] (fun k_=>oki1 k_∨((fun _=>True)) k_∧w4.heap.size≤k_) (fun _=>False) rfl rfl ?aP (fun _ hk=>hk.elim) ?aF ?aO ?aB ?aS ?aL ?_;(case aP=>exact rfl);(case aB=>exact uB);(case aF=>exact(fun k_ hk=>.inr ⟨trivial,hk⟩));(case aO=>exact(Kd.R_mono (fR UU1.out) (fun _ hk=>.inl hk)));(case aS=>exact(below_size uB));(case aL=>have:=LMc2.out;omega);intro v4 w5 ho hb hg hat;rw[←Ny4.out]at ho;have HO4:=C (ho);replace HB:=C (hb);replace HH1:=C (Kd.H_grown (Kd.H_widen (by repeat(first|exact HH1.out|refine Kd.H_alloc ?_ _|refine Kd.H_drewN ?_ _|refine Kd.H_drew ?_))) hg (fun k_ e_=>.inl (UU1.out.1 k_ e_)));clear HO3;clear UU1;clear HL1_0;clear ho hb hg hat;have p2:0≤((ji1):Int):=oT;have q2:((ji1):Int)<((y3.length:Int):Int):=oT;replace p2:=eq_true p2;replace q2:=eq_true q2;obtain⟨Ao3,co4,rfl⟩:=Kd.R_slice HO4.out;obtain⟨_,_,hraw1,_,_,hcc3,_⟩:=Kd.H_raw HH1.out oT (by have h_:((ji1):Int)<((y3.length:Int):Int):=oT;first|exact h_|(have e_:=(HN1.out);omega)|simpa using h_);obtain⟨_,hfr1⟩:=Kd.H_at HH1.out oT (by have h_:((ji1):Int)<((y3.length:Int):Int):=oT;first|exact h_|(have e_:=(HN1.out);omega)|simpa using h_);have hx2_0:=hcc3 0 _ rfl;have hf1_0:=hfr1 0;(try simp only[Nat.add_zero]at hx2_0 hf1_0);(try rw[show((Kd.slice 3 (Kd.int .i64))).sz=1 from rfl,Nat.mul_one]at hx2_0);(try rw[show((Kd.slice 3 (Kd.int .i64))).sz=1 from rfl,Nat.mul_one]at hf1_0);have HP1:=Kd.S_seg0 HH1.out oT (by have h_:((ji1):Int)<((y3.length:Int):Int):=oT;first|exact h_|(have e_:=(HN1.out);omega)|simpa using h_) (seg:= [L Ao3 y4.length co4]) (j:=0) (show 1≤1 from by decide) (x':=y4) (Kd.M_row HO4.out) (fun _ hk=>hk);(try simp only[show((Kd.slice 3 (Kd.int .i64))).sz=1 from rfl,Nat.mul_one,Nat.add_zero]at HP1);(try clear hcc3);(try clear hfr1))|((with_reducible refine gate_store (t:=25) (p:=60) rfl ?_);(try(rw[drewN_self w5];generalize hq_:World.drewN w5 _=w5;have n0_:=C (Kd.S_at hq_ HO3.out);have n1_:=C (below_at hq_ HB.out);clear hq_ HO3 HB;have HO3:=n0_;have HB:=n1_;clear n0_ n1_;(try(obtain⟨Ao3,co4,eo4⟩:=Kd.R_slice HO4.out));(try(subst eo4));(try(obtain⟨_,_,hraw1,_,_,hcc3,_⟩:=Kd.H_raw HH1.out oT (by have h_:((ji1):Int)<((y3.length:Int):Int):=oT;first|exact h_|(have e_:=(HN1.out);omega)|simpa using h_)));(try(obtain⟨_,hfr1⟩:=Kd.H_at HH1.out oT (by have h_:((ji1):Int)<((y3.length:Int):Int):=oT;first|exact h_|(have e_:=(HN1.out);omega)|simpa using h_)));(try(have hx2_0:=hcc3 0 _ rfl));(try(have hf1_0:=hfr1 0));(try(try simp only[Nat.add_zero]at hx2_0 hf1_0));(try(try rw[show((Kd.slice 3 (Kd.int .i64))).sz=1 from rfl,Nat.mul_one]at hx2_0));(try(try rw[show((Kd.slice 3 (Kd.int .i64))).sz=1 from rfl,Nat.mul_one]at hf1_0));(try(have HP1:=Kd.S_seg0 HH1.out oT (by have h_:((ji1):Int)<((y3.length:Int):Int):=oT;first|exact h_|(have e_:=(HN1.out);omega)|simpa using h_) (seg:= [L Ao3 y4.length co4]) (j:=0) (show 1≤1 from by decide) (x':=y4) (Kd.M_row HO4.out) (fun _ hk=>hk)));(try(try simp only[show((Kd.slice 3 (Kd.int .i64))).sz=1 from rfl,Nat.mul_one,Nat.add_zero]at HP1));(try(try clear hcc3);(try clear hfr1))));refine store_event (t:=25) (p:=60) (v:= ?vo_w1) (w1:=(w5.setCell ⟨go1,((ji1):Int).toNat,none⟩ (L Ao3 y4.length co4))) ?hg ?ho ?hn ?hr ?_;(case ho=>rfl);(case hg=>rfl);(case hn=>rfl);(case hr=>exact Fix.hr);intro w6 hw;have hg:w5.grownBy w6 (some go1):=(by rw[hw];exact HP1.2);have hp_:Kd.S (Kd.slice 3 (Kd.int .i64)) 25 w6 w.heap.size (fun _=>True) (L (some ⟨go1,0,none⟩) y3.length co2) y5:=(by rw[hw,Ny5.out];exact HP1.1);clear HP1;have HO3:=C (hp_);replace HB:=C ((by rw[hw];exact below_set HB.out GB1.out:Below w.heap.size w w6));clear HO4;clear HH1;clear hg hw hp_ hraw1))
     repeat(go_quiet (fail);try go_wp2_with (first|((with_reducible refine J (N:=45) rfl ?_);refine Kd.R_lit (Kd.int .i64) _ 3 ?hg (N:=45) ?hd (xs:=([]:List Int)) (inner:= []) (ok:=fun _=>True) (okp:=fun _=>True) ?hr ?hp (fun _ hk=>hk) trivial (Below.refl _ _) (Nat.le_refl _) (by simp) ?_;(case hd=>rfl);(case hg=>rfl);(case hr=>exact Fix.hr);(case hp=>exact(Reps.none _ _));intro v2 w3 ho2 hb hg_ hnew_;clear hg_ hnew_;(first|rw[←Ny2.out]at ho2|(simp only[Int.reduceToNat]at ho2;rw[←Ny2.out]at ho2));have HO2:=lR ho2;replace HO_1:=C (Kd.S_elder' (uS HO_1.out) (Kd.R_base ho2) hb);replace HB:=eB hb;clear hb ho2;obtain⟨Ao1,co1,rfl⟩:=Kd.R_slice HO2.out)|((with_reducible refine gate_builtin (b:=.append) (xs:= #[.tmp 44,.tmp 46]) rfl ?_);at_builtin;refine Kd.S_append (Kd.slice 3 (Kd.int .i64)) (w0:=w) w.heap.size rfl (.tmp 44) (.tmp 46) 111 25 (L none 0 0) 24 rfl underlying111 info25 rfl (by decide) (by omega) u5 x2_2 y2 [L Ao1 y2.length co1] (fun _=>True) (fun k_=>some k_=(L Ao1 y2.length co1:Value).ownBlock) rfl rfl ?aP (fun k_ hk_=>((Kd.R_mono (ok':=fun k_=>((fun _=>True)) k_∧qm k_ u5) (Kd.R_apart' (HO2.out) (Kd.S_typed HO_1.out) (by decide)) (fun k_ hk=>⟨trivial,hk.2⟩))).1 k_ hk_.symm) ?aF ?aO ?aB ?aS ?aL ?_;(case aP=>exact Kd.M_row (Kd.R_mono (Kd.R_tight rfl (Kd.R_mono (ok':=fun k_=>((fun _=>True)) k_∧qm k_ u5) (Kd.R_apart' (HO2.out) (Kd.S_typed HO_1.out) (by decide)) (fun k_ hk=>⟨trivial,hk.2⟩))) (fun _ h_=>h_)));(case aB=>exact uB);(case aF=>exact(fun _ _=>trivial));(case aO=>exact(Kd.S_mono (fS HO_1.out) (fun k_ hk=>⟨trivial,fun e_=>hk.2 e_⟩)));(case aS=>exact(below_size uB));(case aL=>have:=LMc1.out;omega);intro v3 w4 ho hb hg hat;rw[←Ny3.out]at ho;have HO3:=C (ho);replace HB:=C (hb);clear HO_1;clear HO2;clear ho hb hg hat;obtain⟨Ao2,co2,eo2⟩:=Kd.S_slice HO3.out;subst eo2;have p1:0≤((ji1):Int):=oT;have q1:(ji1)<(y3.length:Int):=oT;obtain⟨ad1,A1_0,c9_0,e1,hx1_0,hl1_0,hi1_0⟩:=at_L4 (Kd.S_reads' HO3.out).2.2 (ji1) p1 q1;cases e1;obtain⟨ce1,hce1,hMe1,hcc1⟩:=Kd.S_get HO3.out [] (ji1) p1 (by first|exact q1|exact oT|(have e_:=(Kd.S_reads' HO3.out).1;omega));obtain⟨ve1_0,rfl,ge1_0⟩:=hMe1;have hv1_0:=hcc1 0 _ rfl;rw[Nat.add_zero,show((Kd.slice 3 (Kd.int .i64))).sz=1 from rfl,Nat.mul_one]at hv1_0;replace hv1_0:=Option.some.inj (hv1_0.symm.trans hx1_0);rw[hv1_0]at ge1_0;have HL1_0:=C (show Kd.R (Kd.int .i64) 3 _ _ _ _ (rd_L4 y3 (ji1)) from ge1_0);clear hv1_0 ge1_0;have HX1_0:=C hx1_0;(try clear hcc1);(try clear hce1);have HR1_0:=C hi1_0;have HC2_0:=C hl1_0;clear hi1_0 hl1_0;replace p1:=eq_true p1;replace q1:=eq_true q1;obtain⟨go1,co3,eo3,gb1,gl1,cl1,HG1⟩:=Kd.S_form HO3.out (by have h_:((ji1):Int)<((y3.length:Int):Int):=oT;have h1_:0≤((ji1):Int):=oT;omega);(first|cases eo3|(injection eo3 with ea_ en_ ec_;(first|subst ea_|(injection ea_ with ea_;subst ea_));subst ec_;clear en_));have GB1:=C gb1;have GG1:=C HG1;clear gb1 gl1 HG1;(first|simp only[add_plain]at hx1_0|skip);obtain⟨oki1,ce2,hcl1,hM1,hcc2,_,_,hH1⟩:=Kd.S_elem HO3.out [] ((ji1):Int) oT (by have h_:((ji1):Int)<((y3.length:Int):Int):=oT;first|exact h_|(have e_:=(Kd.S_reads' HO3.out).1;omega)|simpa using h_);obtain⟨ve2_0,rfl,ge2_0⟩:=hM1;have hv2:=hcc2 0 _ rfl;have hX1:=HX1_0.out;(try simp only[add_plain]at hX1);(try simp only[Nat.add_zero]at hv2);(try rw[show((Kd.slice 3 (Kd.int .i64))).sz=1 from rfl,Nat.mul_one]at hv2);replace hv2:=Option.some.inj (hv2.symm.trans hX1);subst hv2;(try clear hX1);(try clear hcc2);(try clear hcl1);have UU1:=C (show Kd.R (Kd.int .i64) 3 _ w.heap.size oki1 (L A1_0 (rd_L4 y3 (ji1)).length c9_0) (rd_L4 y3 (ji1)) from ge2_0);have HH1:=C hH1;have HN1:=C (Kd.S_reads' HO3.out).1;clear hH1 ge2_0)|((with_reducible refine gate_builtin (b:=.append) (xs:= #[.tmp 56,.tmp 58]) rfl ?_);at_builtin;refine Kd.R_append (Kd.int .i64) (w0:=w) w.heap.size rfl (.tmp 56) (.tmp 58) 25 3 (V I 0) 8 rfl underlying25 info3 rfl (by decide) (by omega) (L A1_0 (rd_L4 y3 (ji1)).length c9_0) (rd_L4 y3 (ji1)) x3_2 [V I x3_2] (fun k_=>oki1 k_∨((fun _=>True)) k_∧w4.heap.size≤k_) (fun _=>False) rfl rfl ?aP (fun _ hk=>hk.elim) ?aF ?aO ?aB ?aS ?aL ?_;(case aP=>exact rfl);(case aB=>exact uB);(case aF=>exact(fun k_ hk=>.inr ⟨trivial,hk⟩));(case aO=>exact(Kd.R_mono (fR UU1.out) (fun _ hk=>.inl hk)));(case aS=>exact(below_size uB));(case aL=>have:=LMc2.out;omega);intro v4 w5 ho hb hg hat;rw[←Ny4.out]at ho;have HO4:=C (ho);replace HB:=C (hb);replace HH1:=C (Kd.H_grown (Kd.H_widen (by repeat(first|exact HH1.out|refine Kd.H_alloc ?_ _|refine Kd.H_drewN ?_ _|refine Kd.H_drew ?_))) hg (fun k_ e_=>.inl (UU1.out.1 k_ e_)));clear HO3;clear UU1;clear HL1_0;clear ho hb hg hat;have p2:0≤((ji1):Int):=oT;have q2:((ji1):Int)<((y3.length:Int):Int):=oT;replace p2:=eq_true p2;replace q2:=eq_true q2;obtain⟨Ao3,co4,rfl⟩:=Kd.R_slice HO4.out;obtain⟨_,_,hraw1,_,_,hcc3,_⟩:=Kd.H_raw HH1.out oT (by have h_:((ji1):Int)<((y3.length:Int):Int):=oT;first|exact h_|(have e_:=(HN1.out);omega)|simpa using h_);obtain⟨_,hfr1⟩:=Kd.H_at HH1.out oT (by have h_:((ji1):Int)<((y3.length:Int):Int):=oT;first|exact h_|(have e_:=(HN1.out);omega)|simpa using h_);have hx2_0:=hcc3 0 _ rfl;have hf1_0:=hfr1 0;(try simp only[Nat.add_zero]at hx2_0 hf1_0);(try rw[show((Kd.slice 3 (Kd.int .i64))).sz=1 from rfl,Nat.mul_one]at hx2_0);(try rw[show((Kd.slice 3 (Kd.int .i64))).sz=1 from rfl,Nat.mul_one]at hf1_0);have HP1:=Kd.S_seg0 HH1.out oT (by have h_:((ji1):Int)<((y3.length:Int):Int):=oT;first|exact h_|(have e_:=(HN1.out);omega)|simpa using h_) (seg:= [L Ao3 y4.length co4]) (j:=0) (show 1≤1 from by decide) (x':=y4) (Kd.M_row HO4.out) (fun _ hk=>hk);(try simp only[show((Kd.slice 3 (Kd.int .i64))).sz=1 from rfl,Nat.mul_one,Nat.add_zero]at HP1);(try clear hcc3);(try clear hfr1))|((with_reducible refine gate_store (t:=25) (p:=60) rfl ?_);(try(rw[drewN_self w5];generalize hq_:World.drewN w5 _=w5;have n0_:=C (Kd.S_at hq_ HO3.out);have n1_:=C (below_at hq_ HB.out);clear hq_ HO3 HB;have HO3:=n0_;have HB:=n1_;clear n0_ n1_;(try(obtain⟨Ao3,co4,eo4⟩:=Kd.R_slice HO4.out));(try(subst eo4));(try(obtain⟨_,_,hraw1,_,_,hcc3,_⟩:=Kd.H_raw HH1.out oT (by have h_:((ji1):Int)<((y3.length:Int):Int):=oT;first|exact h_|(have e_:=(HN1.out);omega)|simpa using h_)));(try(obtain⟨_,hfr1⟩:=Kd.H_at HH1.out oT (by have h_:((ji1):Int)<((y3.length:Int):Int):=oT;first|exact h_|(have e_:=(HN1.out);omega)|simpa using h_)));(try(have hx2_0:=hcc3 0 _ rfl));(try(have hf1_0:=hfr1 0));(try(try simp only[Nat.add_zero]at hx2_0 hf1_0));(try(try rw[show((Kd.slice 3 (Kd.int .i64))).sz=1 from rfl,Nat.mul_one]at hx2_0));(try(try rw[show((Kd.slice 3 (Kd.int .i64))).sz=1 from rfl,Nat.mul_one]at hf1_0));(try(have HP1:=Kd.S_seg0 HH1.out oT (by have h_:((ji1):Int)<((y3.length:Int):Int):=oT;first|exact h_|(have e_:=(HN1.out);omega)|simpa using h_) (seg:= [L Ao3 y4.length co4]) (j:=0) (show 1≤1 from by decide) (x':=y4) (Kd.M_row HO4.out) (fun _ hk=>hk)));(try(try simp only[show((Kd.slice 3 (Kd.int .i64))).sz=1 from rfl,Nat.mul_one,Nat.add_zero]at HP1));(try(try clear hcc3);(try clear hfr1))));refine store_event (t:=25) (p:=60) (v:= ?vo_w1) (w1:=(w5.setCell ⟨go1,((ji1):Int).toNat,none⟩ (L Ao3 y4.length co4))) ?hg ?ho ?hn ?hr ?_;(case ho=>rfl);(case hg=>rfl);(case hn=>rfl);(case hr=>exact Fix.hr);intro w6 hw;have hg:w5.grownBy w6 (some go1):=(by rw[hw];exact HP1.2);have hp_:Kd.S (Kd.slice 3 (Kd.int .i64)) 25 w6 w.heap.size (fun _=>True) (L (some ⟨go1,0,none⟩) y3.length co2) y5:=(by rw[hw,Ny5.out];exact HP1.1);clear HP1;have HO3:=C (hp_);replace HB:=C ((by rw[hw];exact below_set HB.out GB1.out:Below w.heap.size w w6));clear HO4;clear HH1;clear hg hw hp_ hraw1)))
     go_roundg k2
     case measure=>have:=HJ1.out;have:=HK1.out;omega
     case rel=>exact⟨(y5),(wrap64 (x3_2+1)),rS,H',⟨by have:=HJ1.out;have:=HK1.out;omega⟩,⟨fS HO3.out⟩,⟨uB⟩⟩
def spec_SheetsFor.f (k:Nat) (a0:Int) (a1:Int) (a2:Bool):Option (Int):=(spec_SidesFor.f k a0 a1).bind fun t605=>(if a2=true then(some (wrap64 (Int.tdiv (wrap64 ((t605.length:Int)+1)) 2))) else(some (t605.length:Int)))
theorem spec_SheetsFor.mono:∀a0 a1 a2 k,LeO (spec_SheetsFor.f k a0 a1 a2) (spec_SheetsFor.f (k+1) a0 a1 a2):=by
 intro a0 a1 a2 k
 unfold spec_SheetsFor.f
 have i1:= @spec_SidesFor.mono;exact mo
theorem spec_SheetsFor.W1 {p:Prop} (h:p:=by
 go_enter func84,ntmps84
 go_wp2_with (first|((with_reducible refine gate_callee (f:=100) rfl ?_);refine gl 100 (some 10) func100 #[V I a0,V I a1] ?_;(with_reducible refine(spec_SidesFor.calls k a0 a1 t1 _ A1.out).mono ?_);rintro e w1 ⟨v1,rfl,ho1,hb⟩;refine⟨_,rfl,?_⟩;have HO1:=C (Kd.S_lower ho1 (below_size uB));replace HB:=eB hb;clear hb ho1;obtain⟨Ao1,co1,eo1⟩:=Kd.S_slice HO1.out;subst eo1))
 go_ret
 exact⟨rE,uB⟩):p:=h
theorem spec_SheetsFor.calls (k:Nat) (a0:Int) (a1:Int) (a2:Bool) (r:Int) (w:World) (h:spec_SheetsFor.f k a0 a1 a2=some r):
 Calls prog 84 #[V I a0,V I a1,O a2] w fun e w'=>e=.returned (V I r)∧Below w.heap.size w w':=by
 have HB:=C (Below.refl w.heap.size w)
 have H:=h
 unfold spec_SheetsFor.f at H
 clear h
 obtain⟨t1,A1,H⟩:=bnd H
 by_cases c1:a2=true
 ·subst c1
  rw[if_pos rfl]at H
  obtain rfl:=si H
  exact spec_SheetsFor.W1
 obtain rfl:=nt c1
 replace H:=nf H
 obtain rfl:=si H
 exact spec_SheetsFor.W1
def spec_JobSheets.f (k:Nat) (a0_0:Int) (a0_1:Int) (a0_2:Int) (a0_3:Bool) (a0_4:Int) (a0_5:Bool):Option (Int):=(spec_JobOk.f a0_0 a0_1 a0_2 a0_3 a0_4 a0_5).bind fun t609=>(if t609=true then((spec_SheetsFor.f k a0_1 1 a0_3).bind fun t610=>(some (wrap64 (a0_2 * t610)))) else(some 0))
def spec_JobSheets.T3:Bool×List (List Nat×List Nat):=(true,[([],[]),([0],[0]),([],[]),([2],[2]),([],[]),([4],[4]),([3,5],[3,5]),([1,6],[1,6]),([7,6,0,1,2,3,4,5,6,7],[7])])
def spec_JobSheets.B3:List Nat:= [0,1,0,4,0,16,60,127,255]
theorem spec_JobSheets.tab3:rtab .any (opsOf Try.f40 3)=spec_JobSheets.T3:=by kernel_rfl
theorem spec_JobSheets.bits3:waitsOk spec_JobSheets.T3.2 spec_JobSheets.B3=true:=by kernel_rfl
theorem spec_JobSheets.calls (k:Nat) (a0_0:Int) (a0_1:Int) (a0_2:Int) (a0_3:Bool) (a0_4:Int) (a0_5:Bool) (r:Int) (w:World) (h:spec_JobSheets.f k a0_0 a0_1 a0_2 a0_3 a0_4 a0_5=some r):
 Calls prog 40 #[G #[V I a0_0,V I a0_1,V I a0_2,O a0_3,V I a0_4,O a0_5]] w fun e w'=>e=.returned (V I r)∧Below w.heap.size w w':=by
 have hu1:=underlying33
 have HB:=C (Below.refl w.heap.size w)
 have H:=h
 unfold spec_JobSheets.f at H
 clear h
 obtain⟨t1,A1,H⟩:=bnd H
 by_cases c1:t1=true
 rotate_left
 ·obtain rfl:=nt c1
  replace H:=nf H
  obtain rfl:=si H
  go_enter func40,ntmps40
  go_wp2_with (first|((with_reducible refine J (N:=1) rfl ?_);refine Fix.be 1 #[V I a0_0,V I a0_1,V I a0_2,O a0_3,V I a0_4,O a0_5] 33 ?_;intro gb1 hg w1 BK1 hb;have GW1:=gE (w:=w) hg;have GE1:=GW1;replace HB:=eB hb;clear hb hg;obtain⟨_,_,_,_,_,_,_,_,_,_,_,_⟩:=d6 BK1.out)|((with_reducible refine gate_callee (f:=39) rfl ?_);refine gl 39 (some 4) func39 #[G #[V I a0_0,V I a0_1,V I a0_2,O a0_3,V I a0_4,O a0_5]] ?_;(with_reducible refine(spec_JobOk.calls a0_0 a0_1 a0_2 a0_3 a0_4 a0_5 false _ A1.out).mono ?_);rintro e w2 ⟨rfl,hb⟩;refine⟨_,rfl,?_⟩;replace BK1:=eK BK1 hb;replace HB:=eB hb;clear hb))
  go_ret
  exact⟨rE,uB⟩
 subst c1
 rw[if_pos rfl]at H
 obtain⟨t2,A2,H⟩:=bnd H
 obtain rfl:=si H
 go_enter func40,ntmps40
 try go_wp2_with (first|((with_reducible refine J (N:=1) rfl ?_);refine Fix.be 1 #[V I a0_0,V I a0_1,V I a0_2,O a0_3,V I a0_4,O a0_5] 33 ?_;intro gb1 hg w1 BK1 hb;have GW1:=gE (w:=w) hg;have GE1:=GW1;replace HB:=eB hb;clear hb hg;obtain⟨_,_,_,_,_,_,_,_,_,_,_,_⟩:=d6 BK1.out)|((with_reducible refine gate_callee (f:=39) rfl ?_);refine gl 39 (some 4) func39 #[G #[V I a0_0,V I a0_1,V I a0_2,O a0_3,V I a0_4,O a0_5]] ?_;(with_reducible refine(spec_JobOk.calls a0_0 a0_1 a0_2 a0_3 a0_4 a0_5 true _ A1.out).mono ?_);rintro e w2 ⟨rfl,hb⟩;refine⟨_,rfl,?_⟩;replace BK1:=eK BK1 hb;replace HB:=eB hb;clear hb))
 replace BK1:=dK BK1
 replace HB:=dB HB
 refine start_ (n:=9) (S:=fun w'=>cl6 w' gb1 (V I a0_0) (V I a0_1) (V I a0_2) (O a0_3) (V I a0_4) (O a0_5)) (ds:= []) #[false,false,false,false,false,false,false,false,false] (by kernel_rfl) rfl rfl hh (fun hHeld=> ?_);refine with_tabW spec_JobSheets.tab3 spec_JobSheets.bits3 (fun HT_ HW_=> ?_)
 generalize w2.drew=w3 at BK1 HB hHeld ⊢
 refine pu 0 (some 6) ?_
 refine pu 2 (some 8) ?_
 refine pu 4 (some 10) ?_
 refine tu 1 (some 7) hHeld ?_
 refine tu 3 (some 9) hHeld ?_
 refine tu 5 (some 11) hHeld ?_
 refine ou 6 (some 12) (fun K hK=> ?_)
 refine gs func84 #[V I a0_1,V I 1,O a0_3] ?_
 with_reducible refine(spec_SheetsFor.calls k a0_1 1 a0_3 t2 _ A2.out).mono ?_
 rintro e w4 ⟨rfl,hb⟩
 refine⟨_,rfl,?_⟩
 replace BK1:=eK BK1 hb
 replace HB:=eB hb
 (try clear hb)
 refine hK.out _ _ hh (fun hHeld=> ?_)
 clear hK K
 refine nu (N:=(some 12)) ?_
 refine pu 7 (some 13) ?_
 refine pu 8 (some 2) ?_
 refine done_ (done_of HT_.out (by kernel_rfl)) ?_
 try go_wp2
 go_ret
 exact⟨rE,uB⟩
def spec_MachineOk.j0:Nat→Bool→List (S33)→Int→Int→Int→Bool→Int→Bool→Int→Int→List Int→List Int→Int→Bool→Int→Option (Bool)
  |0,_,_,_,_,_,_,_,_,_,_,_,_,_,_,_=>none
  |k+1,x18,x612000,x612001,x612002,x612003,x612004,x612005,x612006,x612007,x612008,x612009,x612010,x612011,x612012,x612013=>if x18=true then(some false) else(if(x612001==0 && (x612002==0 && (x612003==0 && (!x612004 && (x612005==0 && (!x612006))))))=true then(some (x612007==0)) else((spec_JobOk.f x612001 x612002 x612003 x612004 x612005 x612006).bind fun t615=>(if t615=true then((spec_JobSheets.f k x612001 x612002 x612003 x612004 x612005 x612006).bind fun t616=>(if t616≤40 then((spec_JobSheets.f k x612001 x612002 x612003 x612004 x612005 x612006).bind fun t617=>(some (t617==x612007))) else(some false))) else(some false))))
def spec_MachineOk.f (k:Nat) (l0_0:List (S33)) (a0_1:Int) (a0_2:Int) (a0_3:Int) (a0_4:Bool) (a0_5:Int) (a0_6:Bool) (a0_7:Int) (a0_8:Int) (l0_9:List Int) (l0_10:List Int) (a0_11:Int) (a0_12:Bool) (a0_13:Int):Option (Bool):=(spec_JobsOk.f k l0_0).bind fun t612=>(if t612=true then((spec_LineOk.f k a0_7 a0_8 l0_9 l0_10 a0_11 a0_12).bind fun t613=>(if t613=true then((spec_l01In.f a0_13 0 100000).bind fun t614=>(spec_MachineOk.j0 k (!t614) l0_0 a0_1 a0_2 a0_3 a0_4 a0_5 a0_6 a0_7 a0_8 l0_9 l0_10 a0_11 a0_12 a0_13)) else(spec_MachineOk.j0 k true l0_0 a0_1 a0_2 a0_3 a0_4 a0_5 a0_6 a0_7 a0_8 l0_9 l0_10 a0_11 a0_12 a0_13))) else(spec_MachineOk.j0 k true l0_0 a0_1 a0_2 a0_3 a0_4 a0_5 a0_6 a0_7 a0_8 l0_9 l0_10 a0_11 a0_12 a0_13))
def spec_MachineOk.T5:Bool×List (List Nat×List Nat):=(true,[([],[]),([0],[0]),([1],[1]),([2,2],[2]),([3],[3]),([4,3],[3,4]),([5,3,3],[3,5]),([6,3],[3,6]),([3,7],[3,7]),([8,6],[8]),([9],[9]),([10,9],[9,10]),([11,9,9],[9,11]),([9],[9]),([13,9],[9,13]),([14,9],[9,14]),([12,15,9],[9,12,15]),([9,16],[9,16]),([17,12,0,1,2,3,4,5,6,7,8,9,10,11,12,13,14,15,16,17],[17])])
def spec_MachineOk.B5:List Nat:= [0,1,3,7,15,31,63,127,255,511,1023,2047,4095,1023,9215,25599,65535,131071,262143]
theorem spec_MachineOk.tab5:rtab .any (opsOf Try.f10 5)=spec_MachineOk.T5:=by kernel_rfl
theorem spec_MachineOk.bits5:waitsOk spec_MachineOk.T5.2 spec_MachineOk.B5=true:=by kernel_rfl
theorem spec_MachineOk.W1 {p:Prop} (h:p:=by
 go_wp2
 go_ret
 exact⟨rE,uB⟩):p:=h
theorem spec_MachineOk.calls (k:Nat) (A0_0:Option Addr) (c0_0:Nat) (l0_0:List (S33)) (a0_1:Int) (a0_2:Int) (a0_3:Int) (a0_4:Bool) (a0_5:Int) (a0_6:Bool) (a0_7:Int) (a0_8:Int) (A0_9:Option Addr) (c0_9:Nat) (l0_9:List Int) (A0_10:Option Addr) (c0_10:Nat) (l0_10:List Int) (a0_11:Int) (a0_12:Bool) (a0_13:Int) (r:Bool) (w:World) (hr0_0:Kd.C k33 w A0_0 l0_0.length l0_0) (hc0_0:l0_0.length≤c0_0) (hr0_9:Kd.C (Kd.int .i64) w A0_9 l0_9.length l0_9) (hc0_9:l0_9.length≤c0_9) (hr0_10:Kd.C (Kd.int .i64) w A0_10 l0_10.length l0_10) (hc0_10:l0_10.length≤c0_10) (h:spec_MachineOk.f k l0_0 a0_1 a0_2 a0_3 a0_4 a0_5 a0_6 a0_7 a0_8 l0_9 l0_10 a0_11 a0_12 a0_13=some r):
 Calls prog 10 #[G #[L A0_0 l0_0.length c0_0,V I a0_1,V I a0_2,V I a0_3,O a0_4,V I a0_5,O a0_6,V I a0_7,V I a0_8,L A0_9 l0_9.length c0_9,L A0_10 l0_10.length c0_10,V I a0_11,O a0_12,V I a0_13]] w fun e w'=>e=.returned (O r)∧Below w.heap.size w w':=by
 have hu1:=underlying36
 have hu2:=underlying34
 have hu3:=underlying33
 have HR1_0:=C hr0_0
 have HC1_0:=C hc0_0
 (try clear hr0_0);(try clear hc0_0)
 have HR1_9:=C hr0_9
 have HC1_9:=C hc0_9
 (try clear hr0_9);(try clear hc0_9)
 have HR1_10:=C hr0_10
 have HC1_10:=C hc0_10
 (try clear hr0_10);(try clear hc0_10)
 have HB:=C (Below.refl w.heap.size w)
 have H:=h
 unfold spec_MachineOk.f at H
 clear h
 have HC2:=C H
 clear H
 go_enter func10,ntmps10
 go_upto_region 1 with(first|((with_reducible refine J (N:=1) rfl ?_);refine Fix.be 1 #[L A0_0 l0_0.length c0_0,V I a0_1,V I a0_2,V I a0_3,O a0_4,V I a0_5,O a0_6,V I a0_7,V I a0_8,L A0_9 l0_9.length c0_9,L A0_10 l0_10.length c0_10,V I a0_11,O a0_12,V I a0_13] 36 ?_;intro gb1 hg w1 BK1 hb;have GW1:=gE (w:=w) hg;replace HB:=eB hb;clear hb hg))
 (try simp only[Act.put,List.setIfInBounds_toArray,List.set_cons_zero,List.set_cons_succ])
 go_cut [18] (fun v18 wc=>∃(kq:Nat) (x1_1:Bool),v18=O x1_1∧D (spec_MachineOk.j0 kq x1_1 l0_0 a0_1 a0_2 a0_3 a0_4 a0_5 a0_6 a0_7 a0_8 l0_9 l0_10 a0_11 a0_12 a0_13=some r)∧D (kq≤k)∧D (wc.heap[gb1]? =some (.cells #[(L A0_0 l0_0.length c0_0),V I a0_1,V I a0_2,V I a0_3,O a0_4,V I a0_5,O a0_6,V I a0_7,V I a0_8,(L A0_9 l0_9.length c0_9),(L A0_10 l0_10.length c0_10),V I a0_11,O a0_12,V I a0_13] 36 (0,0)))∧D (Below w.heap.size w wc))
 case first=>
  have H:=HC2.out
  clear HC2
  obtain⟨t1,A1,H⟩:=bnd H
  by_cases c1:t1=true
  rotate_left
  ·obtain rfl:=nt c1
   replace H:=nf H
   have H':=C H
   clear H
   have h_:=d14 BK1.out;(repeat(obtain⟨_,h_⟩:=h_))
   go_wp2_with (first|((with_reducible refine gate_callee (f:=36) rfl ?_);refine gl 36 (some 5) func36 #[L A0_0 l0_0.length c0_0] ?_;(with_reducible refine(spec_JobsOk.calls k _ _ l0_0 false _ ?side1 HC1_0.out A1.out).mono ?_);(case side1=>exact uZ HR1_0);rintro e w2 ⟨rfl,hb⟩;refine⟨_,rfl,?_⟩;replace BK1:=eK BK1 hb;replace HB:=eB hb;clear hb))
   go_meet
   case rel=>exact⟨_,(true),rS,H',⟨oL⟩,⟨bK BK1.out⟩,⟨uB⟩⟩
  subst c1
  rw[if_pos rfl]at H
  obtain⟨t2,A2,H⟩:=bnd H
  by_cases c2:t2=true
  rotate_left
  ·obtain rfl:=nt c2
   replace H:=nf H
   have H':=C H
   clear H
   obtain⟨_,_,_,_,_,_,_,_,_,_,_,_,_,_,_,_,_,_,_,_,_,_,_,_,_,_,_,_⟩:=d14 BK1.out
   go_wp2_with (first|((with_reducible refine gate_callee (f:=36) rfl ?_);refine gl 36 (some 5) func36 #[L A0_0 l0_0.length c0_0] ?_;(with_reducible refine(spec_JobsOk.calls k _ _ l0_0 true _ ?side1 HC1_0.out A1.out).mono ?_);(case side1=>exact uZ HR1_0);rintro e w2 ⟨rfl,hb⟩;refine⟨_,rfl,?_⟩;replace BK1:=eK BK1 hb;replace HB:=eB hb;clear hb;obtain⟨_,_,_,_,_,_,_,_,_,_,_,_,_,_,_,_,_,_,_,_,_,_,_,_,_,_,_,_⟩:=d14 BK1.out)|(go_at_call 37;(with_reducible refine(spec_LineOk.calls k a0_7 a0_8 _ _ l0_9 _ _ l0_10 a0_11 a0_12 false _ ?side1 HC1_9.out ?side3 HC1_10.out A2.out).mono ?_);(case side1=>exact uZ HR1_9);(case side3=>exact uZ HR1_10);rintro e w3 ⟨rfl,hb⟩;replace BK1:=eK BK1 hb;replace HB:=eB hb;clear hb))
   go_meet
   case rel=>exact⟨_,(true),rS,H',⟨oL⟩,⟨bK BK1.out⟩,⟨uB⟩⟩
  subst c2
  rw[if_pos rfl]at H
  obtain⟨t3,A3,H⟩:=bnd H
  have H':=C H
  clear H
  obtain⟨_,_,_,_,_,_,_,_,_,_,_,_,_,_,_,_,_,_,_,_,_,_,_,_,_,_,_,_⟩:=d14 BK1.out
  go_wp2_with (first|((with_reducible refine gate_callee (f:=36) rfl ?_);refine gl 36 (some 5) func36 #[L A0_0 l0_0.length c0_0] ?_;(with_reducible refine(spec_JobsOk.calls k _ _ l0_0 true _ ?side1 HC1_0.out A1.out).mono ?_);(case side1=>exact uZ HR1_0);rintro e w2 ⟨rfl,hb⟩;refine⟨_,rfl,?_⟩;replace BK1:=eK BK1 hb;replace HB:=eB hb;clear hb;obtain⟨_,_,_,_,_,_,_,_,_,_,_,_,_,_,_,_,_,_,_,_,_,_,_,_,_,_,_,_⟩:=d14 BK1.out)|(go_at_call 37;(with_reducible refine(spec_LineOk.calls k a0_7 a0_8 _ _ l0_9 _ _ l0_10 a0_11 a0_12 true _ ?side1 HC1_9.out ?side3 HC1_10.out A2.out).mono ?_);(case side1=>exact uZ HR1_9);(case side3=>exact uZ HR1_10);rintro e w3 ⟨rfl,hb⟩;replace BK1:=eK BK1 hb;replace HB:=eB hb;clear hb;obtain⟨_,_,_,_,_,_,_,_,_,_,_,_,_,_,_,_,_,_,_,_,_,_,_,_,_,_,_,_⟩:=d14 BK1.out)|(go_at_call 38;(with_reducible refine(spec_l01In.calls a0_13 0 100000 t3 _ A3.out).mono ?_);rintro e w' ⟨rfl,⟨nd,rfl⟩⟩))
  go_meet
  case rel=>exact⟨_,(!t3),rS,H',⟨oL⟩,⟨bK BK1.out⟩,⟨uB⟩⟩
 case rest=>
  clear HC2
  obtain⟨kq,x1_1,rfl,HA,HJ1,BK1,HB⟩:=hcut
  cases kq with
  |zero=>exact absurd HA.out (by simp[spec_MachineOk.j0])
  |succ kj1=>
   have H:=HA.out
   clear HA
   simp only[spec_MachineOk.j0]at H
   by_cases c1:x1_1=true
   ·subst c1
    rw[if_pos rfl]at H
    obtain rfl:=si H
    exact spec_MachineOk.W1
   obtain rfl:=nt c1
   replace H:=nf H
   by_cases c2:(a0_1==0 && (a0_2==0 && (a0_3==0 && (!a0_4 && (a0_5==0 && (!a0_6))))))=true
   ·rw[if_pos c2]at H
    have c2b0:(a0_1==0 && (a0_2==0 && (a0_3==0 && (!a0_4 && (a0_5==0 && (!a0_6))))))=true:=c2
    (try(have c2b1:decide (a0_1=0 && (a0_2==0 && (a0_3==0 && (!a0_4 && (a0_5==0 && (!a0_6))))))=true:=by simpa using c2))
    (try(have c2b2:(a0_1==0 && (a0_2==0 && (a0_3==0 && (!a0_4 && (a0_5==0 && (!a0_6))))))=true:=by simpa using c2))
    clear c2
    obtain rfl:=si H
    obtain⟨_,_,_,_,_,_,_,_,_,_,_,_,_,_,_,_,_,_,_,_,_,_,_,_,_,_,_,_⟩:=d14 BK1.out
    exact spec_MachineOk.W1
   rw[if_neg c2]at H
   have c2b0:(a0_1==0 && (a0_2==0 && (a0_3==0 && (!a0_4 && (a0_5==0 && (!a0_6))))))=false:=by simpa using c2
   (try(have c2b1:decide (a0_1=0 && (a0_2==0 && (a0_3==0 && (!a0_4 && (a0_5==0 && (!a0_6))))))=false:=by simpa using c2))
   (try(have c2b2:(a0_1==0 && (a0_2==0 && (a0_3==0 && (!a0_4 && (a0_5==0 && (!a0_6))))))=false:=by simpa using c2))
   (try(have c2b3:¬(a0_1=0 && (a0_2==0 && (a0_3==0 && (!a0_4 && (a0_5==0 && (!a0_6)))))):=by simpa using c2))
   clear c2
   obtain⟨t1,A1,H⟩:=bnd H
   by_cases c3:t1=true
   rotate_left
   ·obtain rfl:=nt c3
    replace H:=nf H
    obtain rfl:=si H
    have h_:=d14 BK1.out;(repeat(obtain⟨_,h_⟩:=h_))
    try go_wp2
    replace BK1:=dK BK1
    replace HB:=dB HB
    refine start_ (n:=19) (S:=fun w'=>cl14 w' gb1 (L A0_0 l0_0.length c0_0) (V I a0_1) (V I a0_2) (V I a0_3) (O a0_4) (V I a0_5) (O a0_6) (V I a0_7) (V I a0_8) (L A0_9 l0_9.length c0_9) (L A0_10 l0_10.length c0_10) (V I a0_11) (O a0_12) (V I a0_13)) (ds:= []) #[false,false,false,false,false,false,false,false,false,false,false,false,false,false,false,false,false,false,false] (by kernel_rfl) rfl rfl hh (fun hHeld=> ?_);refine with_tabW spec_MachineOk.tab5 spec_MachineOk.bits5 (fun HT_ HW_=> ?_)
    generalize wc.drew=w2 at BK1 HB hHeld ⊢
    refine pu 0 (some 27) ?_
    refine tu 1 (some 28) hHeld ?_
    refine ou 2 (some 29) (fun K hK=> ?_)
    refine gs func39 #[G #[V I a0_1,V I a0_2,V I a0_3,O a0_4,V I a0_5,O a0_6]] ?_
    with_reducible refine(spec_JobOk.calls a0_1 a0_2 a0_3 a0_4 a0_5 a0_6 false _ A1.out).mono ?_
    rintro e w3 ⟨rfl,hb⟩
    refine⟨_,rfl,?_⟩
    replace BK1:=eK BK1 hb
    replace HB:=eB hb
    (try clear hb)
    refine hK.out _ _ hh (fun hHeld=> ?_)
    clear hK K
    refine nu (N:=(some 29)) ?_
    refine pu 3 (some 30) ?_
    refine px 4 (some 31) ?_
    refine px 5 (some 32) ?_
    refine px 6 (some 33) ?_
    refine px 7 (some 34) ?_
    refine pu 8 (some 35) ?_
    refine pu 9 (some 36) ?_
    refine px 10 (some 37) ?_
    refine px 11 (some 38) ?_
    refine px 12 (some 39) ?_
    refine px 13 (some 40) ?_
    refine px 14 (some 41) ?_
    refine px 15 (some 42) ?_
    refine px 16 (some 43) ?_
    refine pu 17 (some 44) ?_
    refine pu 18 (some 2) ?_
    refine done_ (done_of HT_.out (by kernel_rfl)) ?_
    try go_wp2
    go_ret
    exact⟨rE,uB⟩
   subst c3
   rw[if_pos rfl]at H
   obtain⟨t2,A2,H⟩:=bnd H
   by_cases c4:t2≤40
   rotate_left
   ·rw[if_neg c4]at H
    replace c4:=decide_eq_false c4
    obtain rfl:=si H
    have h_:=d14 BK1.out;(repeat(obtain⟨_,h_⟩:=h_))
    try go_wp2
    replace BK1:=dK BK1
    replace HB:=dB HB
    refine start_ (n:=19) (S:=fun w'=>cl14 w' gb1 (L A0_0 l0_0.length c0_0) (V I a0_1) (V I a0_2) (V I a0_3) (O a0_4) (V I a0_5) (O a0_6) (V I a0_7) (V I a0_8) (L A0_9 l0_9.length c0_9) (L A0_10 l0_10.length c0_10) (V I a0_11) (O a0_12) (V I a0_13)) (ds:= []) #[false,false,false,false,false,false,false,false,false,false,false,false,false,false,false,false,false,false,false] (by kernel_rfl) rfl rfl hh (fun hHeld=> ?_);refine with_tabW spec_MachineOk.tab5 spec_MachineOk.bits5 (fun HT_ HW_=> ?_)
    generalize wc.drew=w2 at BK1 HB hHeld ⊢
    refine pu 0 (some 27) ?_
    refine tu 1 (some 28) hHeld ?_
    refine ou 2 (some 29) (fun K hK=> ?_)
    refine gs func39 #[G #[V I a0_1,V I a0_2,V I a0_3,O a0_4,V I a0_5,O a0_6]] ?_
    with_reducible refine(spec_JobOk.calls a0_1 a0_2 a0_3 a0_4 a0_5 a0_6 true _ A1.out).mono ?_
    rintro e w3 ⟨rfl,hb⟩
    refine⟨_,rfl,?_⟩
    replace BK1:=eK BK1 hb
    replace HB:=eB hb
    (try clear hb)
    refine hK.out _ _ hh (fun hHeld=> ?_)
    clear hK K
    refine nu (N:=(some 29)) ?_
    refine pu 3 (some 30) ?_
    refine pu 4 (some 31) ?_
    refine tu 5 (some 32) hHeld ?_
    refine ou 6 (some 33) (fun K hK=> ?_)
    refine gs func40 #[G #[V I a0_1,V I a0_2,V I a0_3,O a0_4,V I a0_5,O a0_6]] ?_
    with_reducible refine(spec_JobSheets.calls kj1 a0_1 a0_2 a0_3 a0_4 a0_5 a0_6 t2 _ A2.out).mono ?_
    rintro e w4 ⟨rfl,hb⟩
    refine⟨_,rfl,?_⟩
    replace BK1:=eK BK1 hb
    replace HB:=eB hb
    (try clear hb)
    refine hK.out _ _ hh (fun hHeld=> ?_)
    clear hK K
    refine nu (N:=(some 33)) ?_
    refine pu 7 (some 34) ?_
    refine pu 8 (some 35) ?_
    refine pu 9 (some 36) ?_
    refine px 10 (some 37) ?_
    refine px 11 (some 38) ?_
    refine px 12 (some 39) ?_
    refine px 13 (some 40) ?_
    refine px 14 (some 41) ?_
    refine px 15 (some 42) ?_
    refine px 16 (some 43) ?_
    refine pu 17 (some 44) ?_
    refine pu 18 (some 2) ?_
    refine done_ (done_of HT_.out (by kernel_rfl)) ?_
    try go_wp2
    go_ret
    exact⟨rE,uB⟩
   rw[if_pos c4]at H
   replace c4:=decide_eq_true c4
   obtain⟨t3,A3,H⟩:=bnd H
   obtain rfl:=si H
   obtain⟨_,_,_,_,_,_,_,_,_,_,_,_,_,_,_,_,_,_,_,_,_,_,_,_,_,_,_,_⟩:=d14 BK1.out
   try go_wp2
   replace BK1:=dK BK1
   replace HB:=dB HB
   refine start_ (n:=19) (S:=fun w'=>cl14 w' gb1 (L A0_0 l0_0.length c0_0) (V I a0_1) (V I a0_2) (V I a0_3) (O a0_4) (V I a0_5) (O a0_6) (V I a0_7) (V I a0_8) (L A0_9 l0_9.length c0_9) (L A0_10 l0_10.length c0_10) (V I a0_11) (O a0_12) (V I a0_13)) (ds:= []) #[false,false,false,false,false,false,false,false,false,false,false,false,false,false,false,false,false,false,false] (by kernel_rfl) rfl rfl hh (fun hHeld=> ?_);refine with_tabW spec_MachineOk.tab5 spec_MachineOk.bits5 (fun HT_ HW_=> ?_)
   generalize wc.drew=w2 at BK1 HB hHeld ⊢
   refine pu 0 (some 27) ?_
   refine tu 1 (some 28) hHeld ?_
   refine ou 2 (some 29) (fun K hK=> ?_)
   refine gs func39 #[G #[V I a0_1,V I a0_2,V I a0_3,O a0_4,V I a0_5,O a0_6]] ?_
   with_reducible refine(spec_JobOk.calls a0_1 a0_2 a0_3 a0_4 a0_5 a0_6 true _ A1.out).mono ?_
   rintro e w3 ⟨rfl,hb⟩
   refine⟨_,rfl,?_⟩
   replace BK1:=eK BK1 hb
   replace HB:=eB hb
   (try clear hb)
   refine hK.out _ _ hh (fun hHeld=> ?_)
   clear hK K
   refine nu (N:=(some 29)) ?_
   refine pu 3 (some 30) ?_
   refine pu 4 (some 31) ?_
   refine tu 5 (some 32) hHeld ?_
   refine ou 6 (some 33) (fun K hK=> ?_)
   refine gs func40 #[G #[V I a0_1,V I a0_2,V I a0_3,O a0_4,V I a0_5,O a0_6]] ?_
   with_reducible refine(spec_JobSheets.calls kj1 a0_1 a0_2 a0_3 a0_4 a0_5 a0_6 t2 _ A2.out).mono ?_
   rintro e w4 ⟨rfl,hb⟩
   refine⟨_,rfl,?_⟩
   replace BK1:=eK BK1 hb
   replace HB:=eB hb
   (try clear hb)
   refine hK.out _ _ hh (fun hHeld=> ?_)
   clear hK K
   refine nu (N:=(some 33)) ?_
   refine pu 7 (some 34) ?_
   refine pu 8 (some 35) ?_
   refine pu 9 (some 36) ?_
   refine pu 10 (some 37) ?_
   refine pu 13 (some 40) ?_
   refine pu 14 (some 41) ?_
   refine tu 11 (some 38) hHeld ?_
   refine tu 15 (some 42) hHeld ?_
   refine ou 12 (some 39) (fun K hK=> ?_)
   refine gs func40 #[G #[V I a0_1,V I a0_2,V I a0_3,O a0_4,V I a0_5,O a0_6]] ?_
   with_reducible refine(spec_JobSheets.calls kj1 a0_1 a0_2 a0_3 a0_4 a0_5 a0_6 t3 _ A3.out).mono ?_
   rintro e w5 ⟨rfl,hb⟩
   refine⟨_,rfl,?_⟩
   replace BK1:=eK BK1 hb
   replace HB:=eB hb
   (try clear hb)
   refine hK.out _ _ hh (fun hHeld=> ?_)
   clear hK K
   refine nu (N:=(some 39)) ?_
   refine pu 16 (some 43) ?_
   refine pu 17 (some 44) ?_
   refine pu 18 (some 2) ?_
   refine done_ (done_of HT_.out (by kernel_rfl)) ?_
   try go_wp2
   go_ret
   exact⟨rE,uB⟩
def spec_l29Copy.f (l0:List (S33)):Option ((List (S33))):=(some (([]:List (S33)):List (S33))).bind fun y618=>(if y618.length+l0.length<2932031007402 then(some (y618++l0)) else(none))
theorem spec_l29Copy.calls (A0:Option Addr) (c0:Nat) (l0:List (S33)) (r:List (S33)) (w:World) (hr0:Kd.C k33 w A0 l0.length l0) (hc0:l0.length≤c0) (h:spec_l29Copy.f l0=some r):
 Calls prog 92 #[L A0 l0.length c0] w fun e w'=>∃v0_:Value,e=.returned (v0_)∧Kd.R k33 33 w' w.heap.size (fun _=>True) v0_ r∧Below w.heap.size w w':=by
 have HR1:=C hr0
 have HC1:=C hc0
 (try clear hr0);(try clear hc0)
 have HB:=C (Below.refl w.heap.size w)
 have H:=h
 unfold spec_l29Copy.f at H
 clear h
 obtain⟨y1,hy1⟩:∃y_:List (S33),y_=(([]:List (S33))):=⟨_,rfl⟩
 replace H:(if y1.length+l0.length<2932031007402 then(some (y1++l0)) else(none))=some r:=gy hy1 H
 have Ny1:=C hy1
 clear hy1
 obtain⟨c1,H⟩:=np H
 have LMc1:=C c1
 clear c1
 obtain⟨y2,hy2⟩:∃y_:List (S33),y_=(y1++l0):=⟨_,rfl⟩
 replace H:(some y2)=some r:=gy hy2 H
 have Ny2:=C hy2
 clear hy2
 obtain rfl:=si H
 go_enter func92,ntmps92
 go_wp2_with (first|((with_reducible refine J (N:=3) rfl ?_);refine Kd.R_lit k33 _ 33 ?hg (N:=3) ?hd (xs:=([]:List (S33))) (inner:= []) (ok:=fun _=>True) (okp:=fun _=>True) ?hr ?hp (fun _ hk=>hk) trivial (Below.refl _ _) (Nat.le_refl _) (by simp) ?_;(case hd=>rfl);(case hg=>rfl);(case hr=>exact Fix.hr);(case hp=>exact(Reps.none _ _));intro v1 w1 ho1 hb hg_ hnew_;clear hg_ hnew_;(first|rw[←Ny1.out]at ho1|(simp only[Int.reduceToNat]at ho1;rw[←Ny1.out]at ho1));have HO1:=lR ho1;replace HB:=eB hb;clear hb ho1)|((with_reducible refine gate_builtin (b:=.append) (xs:= #[.tmp 3,.tmp 4]) rfl ?_);at_builtin;refine Kd.R_append_rows k33 (w0:=w) w.heap.size rfl (.tmp 3) (.tmp 4) 32 33 (G #[(V I 0),(V I 0),(V I 0),(O false),(V I 0),(O false)]) 48 rfl underlying32 info33 rfl (by decide) (by omega) v1 y1 l0 _ _ _ (fun _=>True) (fun _=>False) rfl rfl ?aO ?aR (fun _ _ h=>h) (fun _ h=>h.elim) ?aF ?aB ?aS ?aL ?_;(case aR=>exact uZ HR1);(case aB=>exact uB);(case aF=>exact(fun _ _=>trivial));(case aO=>exact(uR HO1.out));(case aS=>exact(below_size uB));(case aL=>have:=LMc1.out;omega);intro v2 w2 ho hb hg hat;rw[←Ny2.out]at ho;have HO2:=C (ho);replace HB:=C (hb);clear HO1;clear ho hb hg hat))
 go_ret
 exact⟨_,rE,fR HO2.out,uB⟩
def spec_l05Copy.f (l0:List Int):Option (List Int):=(some (([]:List Int):List Int)).bind fun y624=>(if y624.length+l0.length<17592186044416 then(some (y624++l0)) else(none))
theorem spec_l05Copy.calls (A0:Option Addr) (c0:Nat) (l0:List Int) (r:List Int) (w:World) (hr0:Kd.C (Kd.int .i64) w A0 l0.length l0) (hc0:l0.length≤c0) (h:spec_l05Copy.f l0=some r):
 Calls prog 106 #[L A0 l0.length c0] w fun e w'=>∃v0_:Value,e=.returned (v0_)∧Kd.R (Kd.int .i64) 3 w' w.heap.size (fun _=>True) v0_ r∧Below w.heap.size w w':=by
 have HR1:=C hr0
 have HC1:=C hc0
 (try clear hr0);(try clear hc0)
 have HB:=C (Below.refl w.heap.size w)
 have H:=h
 unfold spec_l05Copy.f at H
 clear h
 obtain⟨y1,hy1⟩:∃y_:List Int,y_=(([]:List Int)):=⟨_,rfl⟩
 replace H:(if y1.length+l0.length<17592186044416 then(some (y1++l0)) else(none))=some r:=gy hy1 H
 have Ny1:=C hy1
 clear hy1
 obtain⟨c1,H⟩:=np H
 have LMc1:=C c1
 clear c1
 obtain⟨y2,hy2⟩:∃y_:List Int,y_=(y1++l0):=⟨_,rfl⟩
 replace H:(some y2)=some r:=gy hy2 H
 have Ny2:=C hy2
 clear hy2
 obtain rfl:=si H
 go_enter func106,ntmps106
 go_wp2_with (first|((with_reducible refine J (N:=3) rfl ?_);refine Kd.R_lit (Kd.int .i64) _ 3 ?hg (N:=3) ?hd (xs:=([]:List Int)) (inner:= []) (ok:=fun _=>True) (okp:=fun _=>True) ?hr ?hp (fun _ hk=>hk) trivial (Below.refl _ _) (Nat.le_refl _) (by simp) ?_;(case hd=>rfl);(case hg=>rfl);(case hr=>exact Fix.hr);(case hp=>exact(Reps.none _ _));intro v1 w1 ho1 hb hg_ hnew_;clear hg_ hnew_;(first|rw[←Ny1.out]at ho1|(simp only[Int.reduceToNat]at ho1;rw[←Ny1.out]at ho1));have HO1:=lR ho1;replace HB:=eB hb;clear hb ho1)|((with_reducible refine gate_builtin (b:=.append) (xs:= #[.tmp 3,.tmp 4]) rfl ?_);at_builtin;refine Kd.R_append_rows (Kd.int .i64) (w0:=w) w.heap.size rfl (.tmp 3) (.tmp 4) 25 3 (V I 0) 8 rfl underlying25 info3 rfl (by decide) (by omega) v1 y1 l0 _ _ _ (fun _=>True) (fun _=>False) rfl rfl ?aO ?aR (fun _ _ h=>h) (fun _ h=>h.elim) ?aF ?aB ?aS ?aL ?_;(case aR=>exact uZ HR1);(case aB=>exact uB);(case aF=>exact(fun _ _=>trivial));(case aO=>exact(uR HO1.out));(case aS=>exact(below_size uB));(case aL=>have:=LMc1.out;omega);intro v2 w2 ho hb hg hat;rw[←Ny2.out]at ho;have HO2:=C (ho);replace HB:=C (hb);clear HO1;clear ho hb hg hat))
 go_ret
 exact⟨_,rE,fR HO2.out,uB⟩
end Go.Proofs.Ytblceimapaenlaa.PFnExactRunActs
