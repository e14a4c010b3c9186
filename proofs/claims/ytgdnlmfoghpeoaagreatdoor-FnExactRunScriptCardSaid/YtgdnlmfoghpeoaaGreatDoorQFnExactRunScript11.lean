/- Calls do what plain Lean functions say (FnExactRunScript). No condition. -/
import Derived.Test.YtgdnlmfoghpeoaaGreatDoorQFnExactRunScript0
import Derived.Test.YtgdnlmfoghpeoaaGreatDoorQFnExactRunScript9
import Derived.Test.YtgdnlmfoghpeoaaGreatDoorQFnExactRunScript10
namespace Go.Proofs.YtgdnlmfoghpeoaaGreatDoor.PFnExactRunScript
open Go.RowKit Go.Proofs.YtgdnlmfoghpeoaaGreatDoorW.PrintWords Go.Proofs.YtgdnlmfoghpeoaaGreatDoorW.PrintLast Go.Proofs.YtgdnlmfoghpeoaaGreatDoorW.PrintMore
open Tryz
open Fix (bK bnd cf14 cl6 cr14 d14 d6 dB dK dR eB eK eR fR gE gl hh nG nL nf nt oL ou pj pu qm qn rE rS tR tu uB uC uP uR wB wK wR)
open Go.Value renaming int→V,slice→L,bool→O
open Go.IntKind renaming i64→I
open Go.Proofs.YtgdnlmfoghpeoaaGreatDoorW.PrintWords.Aside0 renaming mk→C
open Go.Proofs.YtgdnlmfoghpeoaaGreatDoorW.PrintWords renaming Aside0→D
open Go.Proofs.YtgdnlmfoghpeoaaGreatDoorW.PrintWords.Kd renaming R_mono→X,R_types→Y,R_below→T
attribute [local go_sem] max2_int min2_int max_two min_two max_three min_three max_four min_four
attribute [local go_sem] Fix.isSome_setCell
set_option linter.unusedVariables false
set_option maxHeartbeats 40000000
set_option maxRecDepth 100000
set_option linter.unusedSimpArgs false
def spec_l39Take.j0:Nat→List (S26)→Bool→List (S26)→Int→Int→Int→Bool→Int→Bool→Int→Int→List Int→List Int→Int→Bool→Int→Int→Int→Int→Bool→Int→Bool→Option ((List (S26))×Int×Int×Int×Bool×Int×Bool×Int×Int×List Int×List Int×Int×Bool×Int×Int)
 |0,_,_,_,_,_,_,_,_,_,_,_,_,_,_,_,_,_,_,_,_,_,_=>none
 |k+1,x4,x26,x742000,x742001,x742002,x742003,x742004,x742005,x742006,x742007,x742008,x742009,x742010,x742011,x742012,x742013,x754000,x754001,x754002,x754003,x754004,x754005=>if x26=true then(some (x742000,x742001,x742002,x742003,x742004,x742005,x742006,x742007,x742008,x742009,x742010,x742011,x742012,x742013,0)) else((spec_JobSheets.f k x754000 x754001 x754002 x754003 x754004 x754005).bind fun t756=>((spec_NewLine.f t756).bind fun bt757=>(some (x4,x754000,x754001,x754002,x754003,x754004,x754005,bt757.1,bt757.2.1,bt757.2.2.1,bt757.2.2.2.1,bt757.2.2.2.2.1,bt757.2.2.2.2.2.1,mn 100000 (wrap64 (x742013+(x742010.length:Int))),x754000))))
def spec_l39Take.f (k:Nat) (l0_0:List (S26)) (a0_1:Int) (a0_2:Int) (a0_3:Int) (a0_4:Bool) (a0_5:Int) (a0_6:Bool) (a0_7:Int) (a0_8:Int) (l0_9:List Int) (l0_10:List Int) (a0_11:Int) (a0_12:Bool) (a0_13:Int):Option ((List (S26))×Int×Int×Int×Bool×Int×Bool×Int×Int×List Int×List Int×Int×Bool×Int×Int):=(spec_TakeJob.f k l0_0).bind fun bt743=>(if bt743.2.2.2.2.2.2.2=true then((spec_IsDone.f k a0_7 a0_8 l0_9 l0_10 a0_11 a0_12).bind fun t754=>(if t754=true then((spec_JobSheets.f k bt743.2.1 bt743.2.2.1 bt743.2.2.2.1 bt743.2.2.2.2.1 bt743.2.2.2.2.2.1 bt743.2.2.2.2.2.2.1).bind fun t755=>(spec_l39Take.j0 k bt743.1 (decide (t755 >40)) l0_0 a0_1 a0_2 a0_3 a0_4 a0_5 a0_6 a0_7 a0_8 l0_9 l0_10 a0_11 a0_12 a0_13 bt743.2.1 bt743.2.2.1 bt743.2.2.2.1 bt743.2.2.2.2.1 bt743.2.2.2.2.2.1 bt743.2.2.2.2.2.2.1)) else(spec_l39Take.j0 k bt743.1 true l0_0 a0_1 a0_2 a0_3 a0_4 a0_5 a0_6 a0_7 a0_8 l0_9 l0_10 a0_11 a0_12 a0_13 bt743.2.1 bt743.2.2.1 bt743.2.2.2.1 bt743.2.2.2.2.1 bt743.2.2.2.2.2.1 bt743.2.2.2.2.2.2.1))) else(spec_l39Take.j0 k bt743.1 true l0_0 a0_1 a0_2 a0_3 a0_4 a0_5 a0_6 a0_7 a0_8 l0_9 l0_10 a0_11 a0_12 a0_13 bt743.2.1 bt743.2.2.1 bt743.2.2.2.1 bt743.2.2.2.2.1 bt743.2.2.2.2.2.1 bt743.2.2.2.2.2.2.1))
theorem spec_l39Take.calls (k:Nat) (P0_0_:Nat→Prop) (u9000_:Value) (l0_0:List (S26)) (a0_1:Int) (a0_2:Int) (a0_3:Int) (a0_4:Bool) (a0_5:Int) (a0_6:Bool) (a0_7:Int) (a0_8:Int) (P0_9_:Nat→Prop) (u9001_:Value) (l0_9:List Int) (P0_10_:Nat→Prop) (u9002_:Value) (l0_10:List Int) (a0_11:Int) (a0_12:Bool) (a0_13:Int) (r1:List (S26)) (r2:Int) (r3:Int) (r4:Int) (r5:Bool) (r6:Int) (r7:Bool) (r8:Int) (r9:Int) (r10:List Int) (r11:List Int) (r12:Int) (r13:Bool) (r14:Int) (r15:Int) (w0 w:World) (hB:Below w0.heap.size w0 w) (ho0_0:Kd.R k26 26 w w0.heap.size P0_0_ u9000_ l0_0) (ho0_9:Kd.R (Kd.int .i64) 3 w w0.heap.size P0_9_ u9001_ l0_9) (hp0_9_0_10:∀k_,P0_9_ k_→ ¬P0_10_ k_) (ho0_10:Kd.R (Kd.int .i64) 3 w w0.heap.size P0_10_ u9002_ l0_10) (hp0_10_0_9:∀k_,P0_10_ k_→ ¬P0_9_ k_) (h:spec_l39Take.f k l0_0 a0_1 a0_2 a0_3 a0_4 a0_5 a0_6 a0_7 a0_8 l0_9 l0_10 a0_11 a0_12 a0_13=some (r1,r2,r3,r4,r5,r6,r7,r8,r9,r10,r11,r12,r13,r14,r15)):
 Calls prog 89 #[.agg #[u9000_,V I a0_1,V I a0_2,V I a0_3,O a0_4,V I a0_5,O a0_6,V I a0_7,V I a0_8,u9001_,u9002_,V I a0_11,O a0_12,V I a0_13]] w fun e w'=>∃v0_ v9_ v10_:Value,e=.returned (.tuple #[.agg #[v0_,V I r2,V I r3,V I r4,O r5,V I r6,O r7,V I r8,V I r9,v9_,v10_,V I r12,O r13,V I r14],V I r15])∧Kd.R k26 26 w' w0.heap.size (fun k_=>((P0_0_ k_∨P0_9_ k_∨P0_10_ k_)∨w.heap.size≤k_)) v0_ r1∧Kd.R (Kd.int .i64) 3 w' w0.heap.size (fun k_=>((P0_0_ k_∨P0_9_ k_∨P0_10_ k_)∨w.heap.size≤k_)∧qm k_ v10_) v9_ r10∧Kd.R (Kd.int .i64) 3 w' w0.heap.size (fun k_=>((P0_0_ k_∨P0_9_ k_∨P0_10_ k_)∨w.heap.size≤k_)∧qm k_ v9_) v10_ r11∧Below w0.heap.size w0 w'∧Kept w w' (fun k_=>P0_0_ k_∨P0_9_ k_∨P0_10_ k_):=by
 have hu1:=underlying31
 have hu2:=underlying26
 have hu3:=underlying29
 have HO1_0:=C (show Kd.R k26 26 w w0.heap.size (fun k_=>((P0_0_ k_∨P0_9_ k_∨P0_10_ k_)∨w.heap.size≤k_)) u9000_ l0_0 from X ho0_0 (fun k_ hk=>(.inl (.inl hk))))
 have HO1_9:=C (show Kd.R (Kd.int .i64) 3 w w0.heap.size (fun k_=>((P0_0_ k_∨P0_9_ k_∨P0_10_ k_)∨w.heap.size≤k_)∧qm k_ u9002_) u9001_ l0_9 from X ho0_9 (fun k_ hk=>⟨(.inl (.inr (.inl hk))),fun e_=>hp0_9_0_10 k_ hk (ho0_10.1 k_ e_.symm)⟩))
 have HO1_10:=C (show Kd.R (Kd.int .i64) 3 w w0.heap.size (fun k_=>((P0_0_ k_∨P0_9_ k_∨P0_10_ k_)∨w.heap.size≤k_)∧qm k_ u9001_) u9002_ l0_10 from X ho0_10 (fun k_ hk=>⟨(.inl (.inr (.inr hk))),fun e_=>hp0_10_0_9 k_ hk (ho0_9.1 k_ e_.symm)⟩))
 have HK:=C (Kept.refl w (fun k_=>P0_0_ k_∨P0_9_ k_∨P0_10_ k_))
 have HW1:=C hB.size
 have HB:=C hB
 clear hB
 have H:=h
 unfold spec_l39Take.f at H
 clear h
 obtain⟨⟨t1,t2,t3,t4,t5,t6,t7,t8⟩,A1,H⟩:=bnd H
 dsimp only at H
 have HC1:=C H
 clear H
 obtain⟨Ao1,co1,eo1⟩:=Kd.R_slice HO1_0.out
 subst eo1
 obtain⟨Ao2,co2,eo2⟩:=Kd.R_slice HO1_9.out
 subst eo2
 obtain⟨Ao3,co3,eo3⟩:=Kd.R_slice HO1_10.out
 subst eo3
 go_enter func89,ntmps89
 go_upto_region 2 with(first|((with_reducible refine gate_dst (N:=1) rfl ?_);refine Fix.be 1 #[L Ao1 l0_0.length co1,V I a0_1,V I a0_2,V I a0_3,O a0_4,V I a0_5,O a0_6,V I a0_7,V I a0_8,L Ao2 l0_9.length co2,L Ao3 l0_10.length co3,V I a0_11,O a0_12,V I a0_13] 31 ?_;intro gb1 hg w2 BK1 hb;have GW1:=C ((by rw[hg];exact(by first|exact HK.out.1|exact(show Kept w _ (fun k_=>P0_0_ k_∨P0_9_ k_∨P0_10_ k_) from uP).1):w.heap.size≤gb1));have GE1:D (w0.heap.size≤gb1):=gE hg;replace HO1_0:=eR HO1_0 hb;replace HO1_9:=eR HO1_9 hb;replace HO1_10:=eR HO1_10 hb;replace HK:=C (Kept.below (S:=(fun k_=>P0_0_ k_∨P0_9_ k_∨P0_10_ k_)) (show Kept w _ _ from uP) hb);replace HB:=eB hb;clear hb hg)|((with_reducible refine gate_dst (N:=2) rfl ?_);refine Fix.be 2 #[L none 0 0,V I 0,V I 0,V I 0,O false,V I 0,O false,V I 0,V I 0,L none 0 0,L none 0 0,V I 0,O false,V I 0] 31 ?_;intro gb2 hg w3 BK2 hb;have GW2:=C ((by rw[hg];exact(by first|exact HK.out.1|exact(show Kept w _ (fun k_=>P0_0_ k_∨P0_9_ k_∨P0_10_ k_) from uP).1):w.heap.size≤gb2));have GE2:D (w0.heap.size≤gb2):=gE hg;have n0:=nL hg BK1;have n1:=nG hg BK1;replace HO1_0:=eR HO1_0 hb;replace HO1_9:=eR HO1_9 hb;replace HO1_10:=eR HO1_10 hb;replace BK1:=eK BK1 hb;replace HK:=C (Kept.below (S:=(fun k_=>P0_0_ k_∨P0_9_ k_∨P0_10_ k_)) (show Kept w _ _ from uP) hb);replace HB:=eB hb;clear hb hg;have:=n0.out;have:=n1.out;have h_:=d14 BK1.out;(repeat(obtain⟨_,h_⟩:=h_)))|((with_reducible refine gate_callee (f:=109) rfl ?_);refine gl 109 (some 10) func109 #[L Ao1 l0_0.length co1] ?_;(with_reducible refine(spec_TakeJob.calls k _ _ l0_0 t1 t2 t3 t4 t5 t6 t7 t8 _ ?side1 ?side2 A1.out).mono ?_);(case side1=>exact uC (Kd.R_reads' HO1_0.out).2.2);(case side2=>exact(Kd.R_reads' HO1_0.out).2.1);rintro e w4 ⟨v1,rfl,ho1,hb⟩;refine⟨_,rfl,?_⟩;have HO2:=C (Kd.R_lower (Kd.R_new' (Kd.R_newM (M:=fun k_=>((P0_0_ k_∨P0_9_ k_∨P0_10_ k_)∨w.heap.size≤k_)) ho1 (by first|exact HK.out.1|exact(show Kept w _ (fun k_=>P0_0_ k_∨P0_9_ k_∨P0_10_ k_) from uP).1) (fun k_ h_=>.inr h_)) (Kd.R_lt (uR HO1_0.out))) (below_size uB));replace HO1_0:=C (Kd.R_elder' (uR HO1_0.out) (Kd.R_base ho1) hb);replace HO1_9:=eR HO1_9 hb;replace HO1_10:=eR HO1_10 hb;replace BK1:=eK BK1 hb;replace BK2:=eK BK2 hb;replace HK:=C (Kept.below (S:=(fun k_=>P0_0_ k_∨P0_9_ k_∨P0_10_ k_)) (show Kept w _ _ from uP) hb);replace HB:=eB hb;clear hb ho1)|((with_reducible refine gate_dst (N:=5) rfl ?_);refine Fix.be 5 #[V I 0,V I 0,V I 0,O false,V I 0,O false] 26 ?_;intro gb3 hg w5 BK3 hb;have GW3:=C ((by rw[hg];exact(by first|exact HK.out.1|exact(show Kept w _ (fun k_=>P0_0_ k_∨P0_9_ k_∨P0_10_ k_) from uP).1):w.heap.size≤gb3));have GE3:D (w0.heap.size≤gb3):=gE hg;have n2:=nL hg BK1;have n3:=nG hg BK1;have n4:=nL hg BK2;have n5:=nG hg BK2;replace HO1_0:=C (T (Kd.R_elderB (uR HO1_0.out) gb3 (Nat.le_of_eq hg.symm)) hb);replace HO1_9:=eR HO1_9 hb;replace HO1_10:=eR HO1_10 hb;replace HO2:=C (T (Kd.R_elderB (uR HO2.out) gb3 (Nat.le_of_eq hg.symm)) hb);replace BK1:=eK BK1 hb;replace BK2:=eK BK2 hb;replace HK:=C (Kept.below (S:=(fun k_=>P0_0_ k_∨P0_9_ k_∨P0_10_ k_)) (show Kept w _ _ from uP) hb);replace HB:=eB hb;clear hb hg;have:=n3.out;have:=n2.out;have:=n5.out;have:=n4.out;obtain⟨_,_,_,_,_,_,_,_,_,_,_,_⟩:=d6 BK3.out))
 (try simp only[Act.put,List.setIfInBounds_toArray,List.set_cons_zero,List.set_cons_succ])
 go_cut [26] (fun v26 wc=>∃(kq:Nat) (x1_2:Bool),v26=O x1_2∧D (spec_l39Take.j0 kq t1 x1_2 l0_0 a0_1 a0_2 a0_3 a0_4 a0_5 a0_6 a0_7 a0_8 l0_9 l0_10 a0_11 a0_12 a0_13 t2 t3 t4 t5 t6 t7=some (r1,r2,r3,r4,r5,r6,r7,r8,r9,r10,r11,r12,r13,r14,r15))∧D (kq≤k)∧D (Kd.R k26 26 wc w0.heap.size (fun k_=>((P0_0_ k_∨P0_9_ k_∨P0_10_ k_)∨w.heap.size≤k_)∧some k_≠Fix.o Ao1 l0_0.length co1∧k_≠gb3) v1 t1)∧D (Kd.R k26 26 wc w0.heap.size (fun k_=>((P0_0_ k_∨P0_9_ k_∨P0_10_ k_)∨w.heap.size≤k_)∧qm k_ v1∧k_≠gb3) (L Ao1 l0_0.length co1) l0_0)∧D (Kd.R (Kd.int .i64) 3 wc w0.heap.size (fun k_=>((P0_0_ k_∨P0_9_ k_∨P0_10_ k_)∨w.heap.size≤k_)∧some k_≠Fix.o Ao3 l0_10.length co3) (L Ao2 l0_9.length co2) l0_9)∧D (Kd.R (Kd.int .i64) 3 wc w0.heap.size (fun k_=>((P0_0_ k_∨P0_9_ k_∨P0_10_ k_)∨w.heap.size≤k_)∧some k_≠Fix.o Ao2 l0_9.length co2) (L Ao3 l0_10.length co3) l0_10)∧D (wc.heap[gb1]? =some (.cells #[(L Ao1 l0_0.length co1),V I a0_1,V I a0_2,V I a0_3,O a0_4,V I a0_5,O a0_6,V I a0_7,V I a0_8,(L Ao2 l0_9.length co2),(L Ao3 l0_10.length co3),V I a0_11,O a0_12,V I a0_13] 31 (0,0)))∧D (wc.heap[gb2]? =some (.cells #[(L none 0 0),V I 0,V I 0,V I 0,O false,V I 0,O false,V I 0,V I 0,(L none 0 0),(L none 0 0),V I 0,O false,V I 0] 31 (0,0)))∧D (wc.heap[gb3]? =some (.cells #[V I t2,V I t3,V I t4,O t5,V I t6,O t7] 26 (0,0)))∧D (Kept w wc (fun k_=>P0_0_ k_∨P0_9_ k_∨P0_10_ k_))∧D (Below w0.heap.size w0 wc))
 case first=>
  have H:=HC1.out
  clear HC1
  by_cases c1:t8=true
  rotate_left
  ·obtain rfl:=nt c1
   replace H:=nf H
   have H':=C H
   clear H
   go_wp2
   go_meet
   case rel=>exact⟨_,(true),rS,H',⟨oL⟩,⟨X (fR (X HO2.out (fun k_ hk=>(⟨hk,hk.2⟩:_∧k_≠gb3)))) pj⟩,⟨X (fR (X HO1_0.out (fun k_ hk=>(⟨hk,hk.2⟩:_∧k_≠gb3)))) pj⟩,⟨X (fR (Y HO1_9.out BK3.out (by decide))) pj⟩,⟨X (fR (Y HO1_10.out BK3.out (by decide))) pj⟩,⟨bK BK1.out⟩,⟨bK BK2.out⟩,⟨bK BK3.out⟩,⟨uP⟩,⟨uB⟩⟩
  subst c1
  rw[if_pos rfl]at H
  obtain⟨t9,A2,H⟩:=bnd H
  by_cases c2:t9=true
  rotate_left
  ·obtain rfl:=nt c2
   replace H:=nf H
   have H':=C H
   clear H
   have:=n0.out
   have:=n1.out
   have:=n2.out
   have:=n3.out
   have h_:=d14 BK1.out;(repeat(obtain⟨_,h_⟩:=h_))
   go_wp2_with (first|(go_at_call 110;(with_reducible refine(spec_IsDone.calls k a0_7 a0_8 _ _ l0_9 _ _ l0_10 a0_11 a0_12 false _ ?side1 ?side2 ?side3 ?side4 A2.out).mono ?_);(case side1=>refine(Kd.R_reads' (e:=3) (base:=w0.heap.size) (ok:=fun k_=>(((P0_0_ k_∨P0_9_ k_∨P0_10_ k_)∨w.heap.size≤k_)∧qn k_ Ao3 l0_10.length co3)) (n:=l0_9.length) (c:=co2) ?_).2.2;exact(X (fR (Y HO1_9.out BK3.out (by decide))) (fun _ h_=>h_.1)));(case side2=>exact(Kd.R_reads' HO1_9.out).2.1);(case side3=>refine(Kd.R_reads' (e:=3) (base:=w0.heap.size) (ok:=fun k_=>(((P0_0_ k_∨P0_9_ k_∨P0_10_ k_)∨w.heap.size≤k_)∧qn k_ Ao2 l0_9.length co2)) (n:=l0_10.length) (c:=co3) ?_).2.2;exact(X (fR (Y HO1_10.out BK3.out (by decide))) (fun _ h_=>h_.1)));(case side4=>exact(Kd.R_reads' HO1_10.out).2.1);rintro e w6 ⟨rfl,hb⟩;replace HO1_0:=C (T (X (fR (X HO1_0.out (fun k_ hk=>(⟨hk,hk.2⟩:_∧k_≠gb3)))) (fun _ h_=>h_.1)) hb);replace HO1_9:=C (T (X (fR (Y HO1_9.out BK3.out (by decide))) (fun _ h_=>h_.1)) hb);replace HO1_10:=C (T (X (fR (Y HO1_10.out BK3.out (by decide))) (fun _ h_=>h_.1)) hb);replace HO2:=C (T (X (fR (X HO2.out (fun k_ hk=>(⟨hk,hk.2⟩:_∧k_≠gb3)))) (fun _ h_=>h_.1)) hb);replace BK1:=eK BK1 hb;replace BK2:=eK BK2 hb;replace BK3:=C (blk_below (g:=gb3) (o:=.cells #[V I t2,V I t3,V I t4,O t5,V I t6,O t7] 26 (0,0)) (bK BK3.out) hb);replace HK:=C (Kept.below (S:=(fun k_=>P0_0_ k_∨P0_9_ k_∨P0_10_ k_)) (show Kept w _ _ from uP) hb);replace HB:=eB hb;clear hb))
   go_meet
   case rel=>exact⟨_,(true),rS,H',⟨oL⟩,⟨X (fR HO2.out) pj⟩,⟨X (fR HO1_0.out) pj⟩,⟨fR HO1_9.out⟩,⟨fR HO1_10.out⟩,⟨bK BK1.out⟩,⟨bK BK2.out⟩,⟨bK BK3.out⟩,⟨uP⟩,⟨uB⟩⟩
  subst c2
  rw[if_pos rfl]at H
  obtain⟨t10,A3,H⟩:=bnd H
  have H':=C H
  clear H
  have:=n0.out
  have:=n1.out
  have:=n2.out
  have:=n3.out
  have h_:=d14 BK1.out;(repeat(obtain⟨_,h_⟩:=h_))
  go_wp2_with (first|(go_at_call 110;(with_reducible refine(spec_IsDone.calls k a0_7 a0_8 _ _ l0_9 _ _ l0_10 a0_11 a0_12 true _ ?side1 ?side2 ?side3 ?side4 A2.out).mono ?_);(case side1=>refine(Kd.R_reads' (e:=3) (base:=w0.heap.size) (ok:=fun k_=>(((P0_0_ k_∨P0_9_ k_∨P0_10_ k_)∨w.heap.size≤k_)∧qn k_ Ao3 l0_10.length co3)) (n:=l0_9.length) (c:=co2) ?_).2.2;exact(X (fR (Y HO1_9.out BK3.out (by decide))) (fun _ h_=>h_.1)));(case side2=>exact(Kd.R_reads' HO1_9.out).2.1);(case side3=>refine(Kd.R_reads' (e:=3) (base:=w0.heap.size) (ok:=fun k_=>(((P0_0_ k_∨P0_9_ k_∨P0_10_ k_)∨w.heap.size≤k_)∧qn k_ Ao2 l0_9.length co2)) (n:=l0_10.length) (c:=co3) ?_).2.2;exact(X (fR (Y HO1_10.out BK3.out (by decide))) (fun _ h_=>h_.1)));(case side4=>exact(Kd.R_reads' HO1_10.out).2.1);rintro e w6 ⟨rfl,hb⟩;replace HO1_0:=C (T (X (fR (X HO1_0.out (fun k_ hk=>(⟨hk,hk.2⟩:_∧k_≠gb3)))) (fun _ h_=>h_.1)) hb);replace HO1_9:=C (T (X (fR (Y HO1_9.out BK3.out (by decide))) (fun _ h_=>h_.1)) hb);replace HO1_10:=C (T (X (fR (Y HO1_10.out BK3.out (by decide))) (fun _ h_=>h_.1)) hb);replace HO2:=C (T (X (fR (X HO2.out (fun k_ hk=>(⟨hk,hk.2⟩:_∧k_≠gb3)))) (fun _ h_=>h_.1)) hb);replace BK1:=eK BK1 hb;replace BK2:=eK BK2 hb;replace BK3:=C (blk_below (g:=gb3) (o:=.cells #[V I t2,V I t3,V I t4,O t5,V I t6,O t7] 26 (0,0)) (bK BK3.out) hb);replace HK:=C (Kept.below (S:=(fun k_=>P0_0_ k_∨P0_9_ k_∨P0_10_ k_)) (show Kept w _ _ from uP) hb);replace HB:=eB hb;clear hb;have:=n5.out;have:=n4.out;obtain⟨_,_,_,_,_,_,_,_,_,_,_,_⟩:=d6 BK3.out)|(go_at_call 86;(with_reducible refine(spec_JobSheets.calls k t2 t3 t4 t5 t6 t7 t10 _ A3.out).mono ?_);rintro e w7 ⟨rfl,hb⟩;replace HO1_0:=eR HO1_0 hb;replace HO1_9:=eR HO1_9 hb;replace HO1_10:=eR HO1_10 hb;replace HO2:=eR HO2 hb;replace BK1:=eK BK1 hb;replace BK2:=eK BK2 hb;replace BK3:=eK BK3 hb;replace HK:=C (Kept.below (S:=(fun k_=>P0_0_ k_∨P0_9_ k_∨P0_10_ k_)) (show Kept w _ _ from uP) hb);replace HB:=eB hb;clear hb))
  go_meet
  case rel=>exact⟨_,(decide (t10 >40)),rS,H',⟨oL⟩,⟨X (fR HO2.out) pj⟩,⟨X (fR HO1_0.out) pj⟩,⟨fR HO1_9.out⟩,⟨fR HO1_10.out⟩,⟨bK BK1.out⟩,⟨bK BK2.out⟩,⟨bK BK3.out⟩,⟨uP⟩,⟨uB⟩⟩
 case rest=>
  clear HC1
  obtain⟨kq,x1_2,rfl,HA,HJ1,HO_1,HO_2,HO_3,HO_4,BK1,BK2,BK3,HK,HB⟩:=hcut
  cases kq with
  |zero=>exact absurd HA.out (by simp[spec_l39Take.j0])
  |succ kj2=>
   have H:=HA.out
   clear HA
   simp only[spec_l39Take.j0]at H
   by_cases c1:x1_2=true
   ·subst c1
    rw[if_pos rfl]at H
    simp only[Option.some.injEq,Prod.mk.injEq]at H
    obtain⟨rfl,rfl,rfl,rfl,rfl,rfl,rfl,rfl,rfl,rfl,rfl,rfl,rfl,rfl,rfl⟩:=H
    have:=n0.out
    have:=n1.out
    have:=n2.out
    have:=n3.out
    have h_:=d14 BK1.out;(repeat(obtain⟨_,h_⟩:=h_))
    have:=n4.out
    have:=n5.out
    have h_:=d14 BK2.out;(repeat(obtain⟨_,h_⟩:=h_))
    go_wp2
    refine bodyPost_ret (results_ct rfl _ _ gb2 31 #[L Ao1 l0_0.length co1,V I a0_1,V I a0_2,V I a0_3,O a0_4,V I a0_5,O a0_6,V I a0_7,V I a0_8,L Ao2 l0_9.length co2,L Ao3 l0_10.length co3,V I a0_11,O a0_12,V I a0_13] (0,0) _ rfl (bK BK2.out) underlying31 rfl (by kernel_rfl)) rfl ?_
    exact⟨_,_,_,rE,X (fR (Y HO_2.out BK2.out (by decide))) (fun _ hk=>hk.1.1),X (fR (Y HO_3.out BK2.out (by decide))) pj,X (fR (Y HO_4.out BK2.out (by decide))) pj,uB,uP⟩
   obtain rfl:=nt c1
   replace H:=nf H
   obtain⟨ji1,hji1⟩:∃j_:Int,(mn 100000 (wrap64 (a0_13+(l0_10.length:Int))))=j_:=⟨_,rfl⟩
   replace H:((spec_JobSheets.f kj2 t2 t3 t4 t5 t6 t7).bind fun t9=>((spec_NewLine.f t9).bind fun bt757=>(some (t1,t2,t3,t4,t5,t6,t7,bt757.1,bt757.2.1,bt757.2.2.1,bt757.2.2.2.1,bt757.2.2.2.2.1,bt757.2.2.2.2.2.1,ji1,t2))))=some (r1,r2,r3,r4,r5,r6,r7,r8,r9,r10,r11,r12,r13,r14,r15):=by first|(rw[hji1]at H;exact H)|(simp only[hji1]at H ⊢;exact H)
   have hji1_:(if(wrap64 (a0_13+(l0_10.length:Int)))<100000 then(wrap64 (a0_13+(l0_10.length:Int))) else 100000)=ji1:=hji1
   obtain⟨t9,A2,H⟩:=bnd H
   obtain⟨⟨t10,t11,t12,t13,t14,t15,t16⟩,A3,H⟩:=bnd H
   dsimp only at H
   simp only[Option.some.injEq,Prod.mk.injEq]at H
   obtain⟨rfl,rfl,rfl,rfl,rfl,rfl,rfl,rfl,rfl,rfl,rfl,rfl,rfl,rfl,rfl⟩:=H
   have:=n0.out
   have:=n1.out
   have:=n2.out
   have:=n3.out
   have h_:=d14 BK1.out;(repeat(obtain⟨_,h_⟩:=h_))
   obtain⟨Ao4,co4,eo4⟩:=Kd.R_slice HO_1.out
   subst eo4
   have:=n5.out
   have:=n4.out
   obtain⟨_,_,_,_,_,_,_,_,_,_,_,_⟩:=d6 BK3.out
   try go_wp2_with (first|((with_reducible refine gate_callee (f:=86) rfl ?_);refine gl 86 (some 43) func86 #[.agg #[V I t2,V I t3,V I t4,O t5,V I t6,O t7]] ?_;(with_reducible refine(spec_JobSheets.calls kj2 t2 t3 t4 t5 t6 t7 t9 _ A2.out).mono ?_);rintro e w6 ⟨rfl,hb⟩;refine⟨_,rfl,?_⟩;replace HO_1:=C (T (X (fR (Y HO_1.out BK1.out (by decide))) (fun _ h_=>h_.1)) hb);replace HO_2:=C (T (X (fR (Y HO_2.out BK1.out (by decide))) (fun _ h_=>h_.1)) hb);replace HO_3:=C (T (X (fR (Y HO_3.out BK1.out (by decide))) (fun _ h_=>h_.1)) hb);replace HO_4:=C (T (X (fR (Y HO_4.out BK1.out (by decide))) (fun _ h_=>h_.1)) hb);replace BK1:=C (blk_below (g:=gb1) (o:=.cells #[L Ao4 t1.length co4,V I t2,V I t3,V I t4,O t5,V I t6,O t7,V I a0_7,V I a0_8,L Ao2 l0_9.length co2,L Ao3 l0_10.length co3,V I a0_11,O a0_12,V I ji1] 31 (0,0)) (bK BK1.out) hb);replace BK2:=eK BK2 hb;replace BK3:=eK BK3 hb;replace HK:=C (Kept.below (S:=(fun k_=>P0_0_ k_∨P0_9_ k_∨P0_10_ k_)) (show Kept w _ _ from uP) hb);replace HB:=eB hb;clear hb)|((with_reducible refine gate_callee (f:=111) rfl ?_);refine gl 111 (some 44) func111 #[V I t9] ?_;(with_reducible refine(spec_NewLine.calls t9 t10 t11 t12 t13 t14 t15 t16 _ A3.out).mono ?_);rintro e w7 ⟨v2,v3,rfl,ho1,ho2,hb⟩;refine⟨_,rfl,?_⟩;have HO3:=C (Kd.R_lower (Kd.R_new' (Kd.R_new' (Kd.R_newM (M:=fun k_=>((P0_0_ k_∨P0_9_ k_∨P0_10_ k_)∨w.heap.size≤k_)) ho1 (by first|exact HK.out.1|exact(show Kept w _ (fun k_=>P0_0_ k_∨P0_9_ k_∨P0_10_ k_) from uP).1) (fun k_ h_=>.inr h_)) (Kd.R_lt (uR HO_3.out))) (Kd.R_lt (uR HO_4.out))) (below_size uB));have HO4:=C (Kd.R_lower (Kd.R_new' (Kd.R_new' (Kd.R_newM (M:=fun k_=>((P0_0_ k_∨P0_9_ k_∨P0_10_ k_)∨w.heap.size≤k_)) ho2 (by first|exact HK.out.1|exact(show Kept w _ (fun k_=>P0_0_ k_∨P0_9_ k_∨P0_10_ k_) from uP).1) (fun k_ h_=>.inr h_)) (Kd.R_lt (uR HO_3.out))) (Kd.R_lt (uR HO_4.out))) (below_size uB));replace HO_1:=eR HO_1 hb;replace HO_2:=eR HO_2 hb;replace HO_3:=C (X (Kd.R_told (Kd.R_told (Kd.R_old (uR HO_3.out) hb) (Kd.R_base ho1)) (Kd.R_base ho2)) (fun _ h_=>h_.1));replace HO_4:=C (X (Kd.R_told (Kd.R_told (Kd.R_old (uR HO_4.out) hb) (Kd.R_base ho1)) (Kd.R_base ho2)) (fun _ h_=>h_.1));replace BK1:=eK BK1 hb;replace BK2:=eK BK2 hb;replace BK3:=eK BK3 hb;replace HK:=C (Kept.below (S:=(fun k_=>P0_0_ k_∨P0_9_ k_∨P0_10_ k_)) (show Kept w _ _ from uP) hb);replace HB:=eB hb;clear hb ho1 ho2;have h_:=d14 BK1.out;(repeat(obtain⟨_,h_⟩:=h_));obtain⟨Ao5,co5,rfl⟩:=Kd.R_slice HO3.out;obtain⟨Ao6,co6,rfl⟩:=Kd.R_slice HO4.out))
   obtain⟨w8,hw⟩:∃w_,w_=(((((w7.setCell ⟨gb1,7,none⟩ (V I t10)).setCell ⟨gb1,8,none⟩ (V I t11)).setCell ⟨gb1,9,none⟩ (L Ao5 t12.length co5)).setCell ⟨gb1,10,none⟩ (L Ao6 t13.length co6)).setCell ⟨gb1,11,none⟩ (V I t14)).setCell ⟨gb1,12,none⟩ (O t15):=⟨_,rfl⟩
   (try rw[←hw])
   replace HO_1:=wR hw (Y HO_1.out BK1.out (by decide))
   replace HO_2:=wR hw (Y HO_2.out BK1.out (by decide))
   replace HO_3:D (Kd.R _ _ _ _ (fun k_=>((P0_0_ k_∨P0_9_ k_∨P0_10_ k_)∨w.heap.size≤k_)∧qn k_ Ao3 l0_10.length co3∧qn k_ Ao5 t12.length co5∧qn k_ Ao6 t13.length co6) _ _):=tR hw (Y HO_3.out BK1.out (by decide)) pj
   replace HO_4:D (Kd.R _ _ _ _ (fun k_=>((P0_0_ k_∨P0_9_ k_∨P0_10_ k_)∨w.heap.size≤k_)∧qn k_ Ao2 l0_9.length co2∧qn k_ Ao5 t12.length co5∧qn k_ Ao6 t13.length co6) _ _):=tR hw (Y HO_4.out BK1.out (by decide)) pj
   replace HO3:D (Kd.R _ _ _ _ (fun k_=>((P0_0_ k_∨P0_9_ k_∨P0_10_ k_)∨w.heap.size≤k_)∧qn k_ Ao2 l0_9.length co2∧qn k_ Ao3 l0_10.length co3∧qn k_ Ao6 t13.length co6) _ _):=tR hw (Y HO3.out BK1.out (by decide)) pj
   replace HO4:D (Kd.R _ _ _ _ (fun k_=>((P0_0_ k_∨P0_9_ k_∨P0_10_ k_)∨w.heap.size≤k_)∧qn k_ Ao2 l0_9.length co2∧qn k_ Ao3 l0_10.length co3∧qn k_ Ao5 t12.length co5) _ _):=tR hw (Y HO4.out BK1.out (by decide)) pj
   replace BK1:D (w8.heap[gb1]? =some (.cells #[L Ao4 t1.length co4,V I t2,V I t3,V I t4,O t5,V I t6,O t7,V I t10,V I t11,L Ao5 t12.length co5,L Ao6 t13.length co6,V I t14,O t15,V I ji1] 31 (0,0))):=⟨(by rw[hw];exact(bK BK1.out))⟩
   replace BK2:=wK hw BK2
   replace BK3:=wK hw BK3
   replace HK:D (Kept w w8 (fun k_=>P0_0_ k_∨P0_9_ k_∨P0_10_ k_)):=⟨(by rw[hw];exact(uP))⟩
   replace HB:=wB hw
   clear hw
   replace HO_1:=dR HO_1
   replace HO_2:=dR HO_2
   replace HO_3:=dR HO_3
   replace HO_4:=dR HO_4
   replace HO3:=dR HO3
   replace HO4:=dR HO4
   replace BK1:=dK BK1
   replace BK2:=dK BK2
   replace BK3:=dK BK3
   replace HK:=C (Kept.drew HK.out)
   replace HB:=dB HB
   refine start_ (n:=5) (S:=fun w'=>cr14 w' gb1 (L Ao4 t1.length co4) (V I t2) (V I t3) (V I t4) (O t5) (V I t6) (O t7) (V I t10) (V I t11) (L Ao5 t12.length co5) (L Ao6 t13.length co6) (V I t14) (O t15) (V I ji1) (cl6 w' gb3 (V I t2) (V I t3) (V I t4) (O t5) (V I t6) (O t7))) (ds:= []) #[false,false,false,false,false] (by kernel_rfl) rfl rfl hh (fun hHeld=> ?_)
   generalize w8.drew=w9 at HO_1 HO_2 HO_3 HO_4 HO3 HO4 BK1 BK2 BK3 HK HB hHeld ⊢
   refine pu 1 (some 49) ?_
   refine tu 0 (some 48) hHeld ?_
   refine tu 2 (some 50) hHeld ?_
   refine ou 3 (none) (fun K hK=> ?_)
   obtain⟨hs1,hs2,hs3,hs4,hs5,hs6,hs7,hs8,hs9,hs10,hs11,hs12,hs13,hs14,hfs1,hfs2,hfs3,hfs4,hfs5,hfs6,hfs7,hfs8,hfs9,hfs10,hfs11,hfs12,hfs13,hfs14⟩:=d14 BK2.out
   have hns1_0:=n0.out
   have hns1_2:=n5.out
   have hms1_0:=n1.out
   have hms1_2:=n4.out
   refine skip_ (w1:= ?_) (by rfl) rfl ?_ ?_
   rotate_left
   ·go_simp
    rfl
   refine hK.out _ _ ⟨(cf14 n0.out (hHeld.1)),(cf14 n0.out (hHeld.2.1)),(cf14 n0.out (hHeld.2.2.1)),(cf14 n0.out (hHeld.2.2.2.1)),(cf14 n0.out (hHeld.2.2.2.2.1)),(cf14 n0.out (hHeld.2.2.2.2.2.1)),(cf14 n0.out (hHeld.2.2.2.2.2.2.1)),(cf14 n0.out (hHeld.2.2.2.2.2.2.2.1)),(cf14 n0.out (hHeld.2.2.2.2.2.2.2.2.1)),(cf14 n0.out (hHeld.2.2.2.2.2.2.2.2.2.1)),(cf14 n0.out (hHeld.2.2.2.2.2.2.2.2.2.2.1)),(cf14 n0.out (hHeld.2.2.2.2.2.2.2.2.2.2.2.1)),(cf14 n0.out (hHeld.2.2.2.2.2.2.2.2.2.2.2.2.1)),(cf14 n0.out (hHeld.2.2.2.2.2.2.2.2.2.2.2.2.2.1)),(cf14 n5.out (hHeld.2.2.2.2.2.2.2.2.2.2.2.2.2.2.1)),(cf14 n5.out (hHeld.2.2.2.2.2.2.2.2.2.2.2.2.2.2.2.1)),(cf14 n5.out (hHeld.2.2.2.2.2.2.2.2.2.2.2.2.2.2.2.2.1)),(cf14 n5.out (hHeld.2.2.2.2.2.2.2.2.2.2.2.2.2.2.2.2.2.1)),(cf14 n5.out (hHeld.2.2.2.2.2.2.2.2.2.2.2.2.2.2.2.2.2.2.1)),(cf14 n5.out (hHeld.2.2.2.2.2.2.2.2.2.2.2.2.2.2.2.2.2.2.2))⟩ (fun hHeld=> ?_)
   clear hK K
   refine pu 4 (some 3) ?_
   refine done_ (by kernel_rfl) ?_
   try go_wp2
   refine bodyPost_ret (results_ct rfl _ _ gb2 31 #[L Ao4 t1.length co4,V I t2,V I t3,V I t4,O t5,V I t6,O t7,V I t10,V I t11,L Ao5 t12.length co5,L Ao6 t13.length co6,V I t14,O t15,V I ji1] (0,0) _ rfl (bK BK2.out) underlying31 rfl (by kernel_rfl)) rfl ?_
   exact⟨_,_,_,by first|rfl|(simp[errW_none,errW_some]<;>rfl)|(simp only[←hji1];first|rfl|(simp[errW_none,errW_some]<;>rfl))|(simp[*,errW_none,errW_some]<;>rfl),X (fR (Y HO_1.out BK2.out (by decide))) (fun _ hk=>hk.1.1),X (fR (Y HO3.out BK2.out (by decide))) pj,X (fR (Y HO4.out BK2.out (by decide))) pj,uB,uP⟩
end Go.Proofs.YtgdnlmfoghpeoaaGreatDoor.PFnExactRunScript
