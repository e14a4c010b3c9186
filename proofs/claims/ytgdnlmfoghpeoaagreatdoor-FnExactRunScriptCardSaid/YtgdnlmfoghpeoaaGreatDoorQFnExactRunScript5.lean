/- Calls do what plain Lean functions say (FnExactRunScript). No condition. -/
import Derived.Test.YtgdnlmfoghpeoaaGreatDoorQFnExactRunScript0
import Derived.Test.YtgdnlmfoghpeoaaGreatDoorQFnExactRunScript2
import Derived.Test.YtgdnlmfoghpeoaaGreatDoorQFnExactRunScript4
namespace Go.Proofs.YtgdnlmfoghpeoaaGreatDoor.PFnExactRunScript
open Go.RowKit Go.Proofs.YtgdnlmfoghpeoaaGreatDoorW.PrintWords Go.Proofs.YtgdnlmfoghpeoaaGreatDoorW.PrintLast Go.Proofs.YtgdnlmfoghpeoaaGreatDoorW.PrintMore
open Tryz
open Fix (bK bnd d6 eB eK eQ eR fQ fR gE gl gy hx lR nG nL nf np nt oT qm qn rE rS uB uC uQ uR uZ)
open Go.Value renaming int→V,slice→L,bool→O
open Go.IntKind renaming i64→I
open Go.Proofs.YtgdnlmfoghpeoaaGreatDoorW.PrintWords.Aside0 renaming mk→C
open Go.Proofs.YtgdnlmfoghpeoaaGreatDoorW.PrintWords renaming Aside0→D,gate_callee→F
open Go.Proofs.YtgdnlmfoghpeoaaGreatDoorW.PrintWords.Kd renaming R_mono→X,R_types→Y
attribute [local go_sem] max2_int min2_int max_two min_two max_three min_three max_four min_four
attribute [local go_sem] Fix.isSome_setCell
set_option linter.unusedVariables false
set_option maxHeartbeats 40000000
set_option maxRecDepth 100000
set_option linter.unusedSimpArgs false
mutual
def impl_FinishLine.l0:Nat→Bool→Int→Int→List Int→List Int→Int→Bool→Option (Int×Int×List Int×List Int×Int×Bool)
 |0,_,_,_,_,_,_,_=>none
 |k+1,x4,x279000,x279001,x279002,x279003,x279004,x279005=>if x4=true then(impl_FinishLine.l1 k false x279000 x279001 x279002 x279003 x279004 x279005) else(some (x279000,x279001,x279002,x279003,x279004,x279005))
def impl_FinishLine.l1:Nat→Bool→Int→Int→List Int→List Int→Int→Bool→Option (Int×Int×List Int×List Int×Int×Bool)
 |0,_,_,_,_,_,_,_=>none
 |k+1,x4,x279000,x279001,x279002,x279003,x279004,x279005=>(impl_LineStep.f k x279000 x279001 x279002 x279003 x279004 x279005 1).bind fun bt279=>(if bt279.2.2.2.2.2.2=true then(impl_FinishLine.l1 k true bt279.1 bt279.2.1 bt279.2.2.1 bt279.2.2.2.1 bt279.2.2.2.2.1 bt279.2.2.2.2.2.1) else((impl_LineStep.f k x279000 x279001 x279002 x279003 x279004 x279005 2).bind fun bt291=>(if bt291.2.2.2.2.2.2=true then(impl_FinishLine.l0 k true bt291.1 bt291.2.1 bt291.2.2.1 bt291.2.2.2.1 bt291.2.2.2.2.1 bt291.2.2.2.2.2.1) else(impl_FinishLine.l0 k x4 x279000 x279001 x279002 x279003 x279004 x279005))))
end
def impl_FinishLine.f (k:Nat) (a0_0:Int) (a0_1:Int) (l0_2:List Int) (l0_3:List Int) (a0_4:Int) (a0_5:Bool):Option (Int×Int×List Int×List Int×Int×Bool):=(impl_LineStep.f k a0_0 a0_1 l0_2 l0_3 a0_4 a0_5 5).bind fun bt267=>(impl_FinishLine.l0 k bt267.2.2.2.2.2.2 bt267.1 bt267.2.1 bt267.2.2.1 bt267.2.2.2.1 bt267.2.2.2.2.1 bt267.2.2.2.2.2.1)
theorem impl_FinishLine.calls (k:Nat) (a0_0:Int) (a0_1:Int) (A0_2:Option Addr) (c0_2:Nat) (l0_2:List Int) (A0_3:Option Addr) (c0_3:Nat) (l0_3:List Int) (a0_4:Int) (a0_5:Bool) (r1:Int) (r2:Int) (r3:List Int) (r4:List Int) (r5:Int) (r6:Bool) (w:World) (hr0_2:Kd.C (Kd.int .i64) w A0_2 l0_2.length l0_2) (hc0_2:l0_2.length≤c0_2) (hr0_3:Kd.C (Kd.int .i64) w A0_3 l0_3.length l0_3) (hc0_3:l0_3.length≤c0_3) (h:impl_FinishLine.f k a0_0 a0_1 l0_2 l0_3 a0_4 a0_5=some (r1,r2,r3,r4,r5,r6)):
 Calls prog 57 #[.agg #[V I a0_0,V I a0_1,L A0_2 l0_2.length c0_2,L A0_3 l0_3.length c0_3,V I a0_4,O a0_5]] w fun e w'=>∃v2_ v3_:Value,e=.returned (.agg #[V I r1,V I r2,v2_,v3_,V I r5,O r6])∧Kd.Q (Kd.int .i64) 3 w' w.heap.size (fun k_=>qm k_ v3_) v2_ r3∧Kd.R (Kd.int .i64) 3 w' w.heap.size (fun k_=>qm k_ v2_) v3_ r4∧Below w.heap.size w w':=by
 have hu1:=underlying29
 have HR1_2:=C hr0_2
 have HC1_2:=C hc0_2
 (try clear hr0_2);(try clear hc0_2)
 have HR1_3:=C hr0_3
 have HC1_3:=C hc0_3
 (try clear hr0_3);(try clear hc0_3)
 have HB:=C (Below.refl w.heap.size w)
 have H:=h
 unfold impl_FinishLine.f at H
 clear h
 obtain⟨⟨t1,t2,t3,t4,t5,t6,t7⟩,A1,H⟩:=bnd H
 dsimp only at H
 have H':=C H
 clear H
 go_enter func57,ntmps57
 go_wp2_with (first|((with_reducible refine gate_dst (N:=1) rfl ?_);refine Fix.be 1 #[V I a0_0,V I a0_1,L A0_2 l0_2.length c0_2,L A0_3 l0_3.length c0_3,V I a0_4,O a0_5] 29 ?_;intro gb1 hg w1 BK1 hb;have GW1:=gE (w:=w) hg;replace HB:=eB hb;clear hb hg)|((with_reducible refine gate_dst (N:=2) rfl ?_);refine Fix.be 2 #[V I 0,V I 0,L none 0 0,L none 0 0,V I 0,O false] 29 ?_;intro gb2 hg w2 BK2 hb;have GW2:=gE (w:=w) hg;have n0:=nL hg BK1;have n1:=nG hg BK1;replace BK1:=eK BK1 hb;replace HB:=eB hb;clear hb hg;have:=n0.out;have:=n1.out;obtain⟨_,_,_,_,_,_,_,_,_,_,_,_⟩:=d6 BK1.out)|((with_reducible refine F (f:=56) rfl ?_);refine gl 56 (some 11) func56 #[.agg #[V I a0_0,V I a0_1,L A0_2 l0_2.length c0_2,L A0_3 l0_3.length c0_3,V I a0_4,O a0_5],V I 5] ?_;(with_reducible refine(impl_LineStep.calls k a0_0 a0_1 _ _ l0_2 _ _ l0_3 a0_4 a0_5 5 t1 t2 t3 t4 t5 t6 t7 _ ?side1 HC1_2.out ?side3 HC1_3.out A1.out).mono ?_);(case side1=>exact uZ HR1_2);(case side3=>exact uZ HR1_3);rintro e w3 ⟨v1,v2,rfl,ho1,ho2,hb⟩;refine⟨_,rfl,?_⟩;have HO1:=C (Kd.Q_lower ho1 (below_size uB));have HO2:=lR ho2;replace BK1:=eK BK1 hb;replace BK2:=eK BK2 hb;replace HB:=eB hb;clear hb ho1 ho2)|((with_reducible refine gate_dst (N:=3) rfl ?_);refine Fix.be 3 #[V I 0,V I 0,L none 0 0,L none 0 0,V I 0,O false] 29 ?_;intro gb3 hg w4 BK3 hb;have GW3:=gE (w:=w) hg;have n2:=nL hg BK1;have n3:=nG hg BK1;have n4:=nL hg BK2;have n5:=nG hg BK2;replace HO1:=eQ HO1 hb;replace HO2:=eR HO2 hb;replace BK1:=eK BK1 hb;replace BK2:=eK BK2 hb;replace HB:=eB hb;clear hb hg;have:=n3.out;have:=n2.out;have:=n5.out;have:=n4.out;obtain⟨_,_,_,_,_,_,_,_,_,_,_,_⟩:=d6 BK3.out;obtain⟨Ao1,co1,eo1,_⟩:=Kd.Q_slice HO1.out;subst eo1;obtain⟨Ao2,co2,rfl⟩:=Kd.R_slice HO2.out))
 go_loopg [4] k (fun kq v4 w'=>∃(x1_1:Bool) (x2_1:Int) (x3_1:Int) (x4_1:List Int) (x5_1:List Int) (x6_1:Int) (x7_1:Bool) (u279002:Value) (u279003:Value),v4=O x1_1∧D (impl_FinishLine.l0 kq x1_1 x2_1 x3_1 x4_1 x5_1 x6_1 x7_1=some (r1,r2,r3,r4,r5,r6))∧D (kq≤k)∧D (Kd.Q (Kd.int .i64) 3 w' w.heap.size (fun k_=>qm k_ u279003) u279002 x4_1)∧D (Kd.R (Kd.int .i64) 3 w' w.heap.size (fun k_=>qm k_ u279002) u279003 x5_1)∧D (w'.heap[gb1]? =some (.cells #[V I a0_0,V I a0_1,(L A0_2 l0_2.length c0_2),(L A0_3 l0_3.length c0_3),V I a0_4,O a0_5] 29 (0,0)))∧D (w'.heap[gb2]? =some (.cells #[V I 0,V I 0,(L none 0 0),(L none 0 0),V I 0,O false] 29 (0,0)))∧D (w'.heap[gb3]? =some (.cells #[V I x2_1,V I x3_1,u279002,u279003,V I x6_1,O x7_1] 29 (0,0)))∧D (Below w.heap.size w w'))
 case atStart=>exact⟨(t7),(t1),(t2),(t3),(t4),(t5),(t6),(L Ao1 t3.length co1),(L Ao2 t4.length co2),rS,H',⟨Nat.le_refl _⟩,⟨Kd.Q_mono (fQ (Kd.Q_types HO1.out BK3.out (by decide))) (fun _ hk=>hk.1)⟩,⟨X (fR (Y HO2.out BK3.out (by decide))) (fun _ hk=>hk.1)⟩,⟨bK BK1.out⟩,⟨bK BK2.out⟩,⟨bK BK3.out⟩,⟨uB⟩⟩
 case round=>
  clear H'
  obtain⟨x1_1,x2_1,x3_1,x4_1,x5_1,x6_1,x7_1,u279002,u279003,rfl,HA,HK1,HO_1,HO_2,BK1,BK2,BK3,HB⟩:=hrel
  cases gk with
  |zero=>exact absurd HA.out (by simp[impl_FinishLine.l0])
  |succ k1=>
   have H:=HA.out
   clear HA
   simp only[impl_FinishLine.l0]at H
   by_cases c1:x1_1=true
   rotate_left
   ·obtain rfl:=nt c1
    replace H:=nf H
    simp only[Option.some.injEq,Prod.mk.injEq]at H
    obtain⟨rfl,rfl,rfl,rfl,rfl,rfl⟩:=H
    have:=n3.out
    have:=n2.out
    have:=n5.out
    have:=n4.out
    obtain⟨_,_,_,_,_,_,_,_,_,_,_,_⟩:=d6 BK3.out
    have:=n1.out
    have:=n0.out
    obtain⟨_,_,_,_,_,_,_,_,_,_,_,_⟩:=d6 BK2.out
    obtain⟨Ao3,co3,eo3,_⟩:=Kd.Q_slice HO_1.out
    subst eo3
    obtain⟨Ao4,co4,eo4⟩:=Kd.R_slice HO_2.out
    subst eo4
    go_wp2
    refine bodyPost_ret (results_cell_row rfl _ _ gb2 29 #[V I x2_1,V I x3_1,L Ao3 x4_1.length co3,L Ao4 x5_1.length co4,V I x6_1,O x7_1] (0,0) _ rfl (bK BK2.out) underlying29 rfl (by kernel_rfl)) rfl ?_
    exact⟨_,_,rE,Kd.Q_mono (fQ (Kd.Q_types HO_1.out BK2.out (by decide))) (fun _ hk=>hk.1),X (fR (Y HO_2.out BK2.out (by decide))) (fun _ hk=>hk.1),uB⟩
   subst c1
   rw[if_pos rfl]at H
   have H':=C H
   clear H
   go_wp2
   go_loopg [4] k1 (fun kq v4 w'=>∃(x1_2:Bool) (x2_2:Int) (x3_2:Int) (x4_2:List Int) (x5_2:List Int) (x6_2:Int) (x7_2:Bool) (u279002:Value) (u279003:Value),v4=O x1_2∧D (impl_FinishLine.l1 kq x1_2 x2_2 x3_2 x4_2 x5_2 x6_2 x7_2=some (r1,r2,r3,r4,r5,r6))∧D (kq≤k1)∧D (Kd.Q (Kd.int .i64) 3 w' w.heap.size (fun k_=>qm k_ u279003) u279002 x4_2)∧D (Kd.R (Kd.int .i64) 3 w' w.heap.size (fun k_=>qm k_ u279002) u279003 x5_2)∧D (w'.heap[gb1]? =some (.cells #[V I a0_0,V I a0_1,(L A0_2 l0_2.length c0_2),(L A0_3 l0_3.length c0_3),V I a0_4,O a0_5] 29 (0,0)))∧D (w'.heap[gb2]? =some (.cells #[V I 0,V I 0,(L none 0 0),(L none 0 0),V I 0,O false] 29 (0,0)))∧D (w'.heap[gb3]? =some (.cells #[V I x2_2,V I x3_2,u279002,u279003,V I x6_2,O x7_2] 29 (0,0)))∧D (Below w.heap.size w w'))
   case atStart=>exact⟨(false),(x2_1),(x3_1),(x4_1),(x5_1),(x6_1),(x7_1),(u279002),(u279003),rS,H',⟨Nat.le_refl _⟩,⟨fQ HO_1.out⟩,⟨fR HO_2.out⟩,⟨bK BK1.out⟩,⟨bK BK2.out⟩,⟨bK BK3.out⟩,⟨uB⟩⟩
   case round=>
    clear H'
    obtain⟨x1_2,x2_2,x3_2,x4_2,x5_2,x6_2,x7_2,u279002,u279003,rfl,HA,HK2,HO_1,HO_2,BK1,BK2,BK3,HB⟩:=hrel
    cases gk with
    |zero=>exact absurd HA.out (by simp[impl_FinishLine.l1])
    |succ k2=>
     have H:=HA.out
     clear HA
     simp only[impl_FinishLine.l1]at H
     obtain⟨⟨t8,t9,t10,t11,t12,t13,t14⟩,A2,H⟩:=bnd H
     dsimp only at H
     by_cases c2:t14=true
     ·subst c2
      rw[if_pos rfl]at H
      have H':=C H
      clear H
      have:=n3.out
      have:=n2.out
      have:=n5.out
      have:=n4.out
      obtain⟨_,_,_,_,_,_,_,_,_,_,_,_⟩:=d6 BK3.out
      obtain⟨Ao3,co3,eo3,_⟩:=Kd.Q_slice HO_1.out
      subst eo3
      obtain⟨Ao4,co4,eo4⟩:=Kd.R_slice HO_2.out
      subst eo4
      go_wp2_with (first|((with_reducible refine F (f:=56) rfl ?_);refine gl 56 (some 17) func56 #[.agg #[V I x2_2,V I x3_2,L Ao3 x4_2.length co3,L Ao4 x5_2.length co4,V I x6_2,O x7_2],V I 1] ?_;(with_reducible refine(impl_LineStep.calls k2 x2_2 x3_2 _ _ x4_2 _ _ x5_2 x6_2 x7_2 1 t8 t9 t10 t11 t12 t13 true _ ?side1 ?side2 ?side3 ?side4 A2.out).mono ?_);(case side1=>exact uC (Kd.Q_reads' HO_1.out).2.2);(case side2=>exact(Kd.Q_reads' HO_1.out).2.1);(case side3=>exact uC (Kd.R_reads' HO_2.out).2.2);(case side4=>exact(Kd.R_reads' HO_2.out).2.1);rintro e w5 ⟨v3,v5,rfl,ho1,ho2,hb⟩;refine⟨_,rfl,?_⟩;have HO3:=C (Kd.Q_lower (Kd.Q_new' (Kd.Q_new' ho1 (Kd.Q_lt (uQ HO_1.out))) (Kd.R_lt (uR HO_2.out))) (below_size uB));have HO4:=C (Kd.R_lower (Kd.R_new' (Kd.R_new' ho2 (Kd.Q_lt (uQ HO_1.out))) (Kd.R_lt (uR HO_2.out))) (below_size uB));replace HO_1:=C (Kd.Q_mono (Kd.Q_told (Kd.Q_told (Kd.Q_old (uQ HO_1.out) hb) (Kd.Q_base ho1)) (Kd.R_base ho2)) (fun _ h_=>h_.1));replace HO_2:=C (X (Kd.R_told (Kd.R_told (Kd.R_old (uR HO_2.out) hb) (Kd.Q_base ho1)) (Kd.R_base ho2)) (fun _ h_=>h_.1));replace BK1:=eK BK1 hb;replace BK2:=eK BK2 hb;replace BK3:=eK BK3 hb;replace HB:=eB hb;clear hb ho1 ho2)|((with_reducible refine gate_dst (N:=5) rfl ?_);refine Fix.be 5 #[V I 0,V I 0,L none 0 0,L none 0 0,V I 0,O false] 29 ?_;intro gb4 hg w6 BK4 hb;have GW4:=gE (w:=w) hg;have GE4:=GW4;have n6:=nL hg BK1;have n7:=nG hg BK1;have n8:=nL hg BK2;have n9:=nG hg BK2;have n10:=nL hg BK3;have n11:=nG hg BK3;replace HO_1:=eQ HO_1 hb;replace HO_2:=eR HO_2 hb;replace HO3:=eQ HO3 hb;replace HO4:=eR HO4 hb;replace BK1:=eK BK1 hb;replace BK2:=eK BK2 hb;replace BK3:=eK BK3 hb;replace HB:=eB hb;clear hb hg;have:=n7.out;have:=n6.out;have:=n9.out;have:=n8.out;have:=n11.out;have:=n10.out;obtain⟨_,_,_,_,_,_,_,_,_,_,_,_⟩:=d6 BK4.out;obtain⟨Ao5,co5,eo5,_⟩:=Kd.Q_slice HO3.out;subst eo5;obtain⟨Ao6,co6,rfl⟩:=Kd.R_slice HO4.out;obtain⟨_,_,_,_,_,_,_,_,_,_,_,_⟩:=d6 BK3.out))
      go_roundg k2
      case measure=>have:=HK1.out;have:=HK2.out;omega
      case rel=>exact⟨(true),(t8),(t9),(t10),(t11),(t12),(t13),(L Ao5 t10.length co5),(L Ao6 t11.length co6),rS,H',⟨by have:=HK1.out;have:=HK2.out;omega⟩,⟨Kd.Q_mono (fQ (Kd.Q_types (Kd.Q_types HO3.out BK4.out (by decide)) BK3.out (by decide))) (fun _ hk=>hk.1.1.1.1)⟩,⟨X (fR (Y (Y HO4.out BK4.out (by decide)) BK3.out (by decide))) (fun _ hk=>hk.1.1.1.1)⟩,⟨bK BK1.out⟩,⟨bK BK2.out⟩,⟨bK BK3.out⟩,⟨uB⟩⟩
     obtain rfl:=nt c2
     replace H:=nf H
     obtain⟨⟨t15,t16,t17,t18,t19,t20,t21⟩,A3,H⟩:=bnd H
     dsimp only at H
     by_cases c3:t21=true
     rotate_left
     ·obtain rfl:=nt c3
      replace H:=nf H
      have H':=C H
      clear H
      have:=n3.out
      have:=n2.out
      have:=n5.out
      have:=n4.out
      obtain⟨_,_,_,_,_,_,_,_,_,_,_,_⟩:=d6 BK3.out
      obtain⟨Ao3,co3,eo3,_⟩:=Kd.Q_slice HO_1.out
      subst eo3
      obtain⟨Ao4,co4,eo4⟩:=Kd.R_slice HO_2.out
      subst eo4
      go_wp2_with (first|((with_reducible refine F (f:=56) rfl ?_);refine gl 56 (some 17) func56 #[.agg #[V I x2_2,V I x3_2,L Ao3 x4_2.length co3,L Ao4 x5_2.length co4,V I x6_2,O x7_2],V I 1] ?_;(with_reducible refine(impl_LineStep.calls k2 x2_2 x3_2 _ _ x4_2 _ _ x5_2 x6_2 x7_2 1 t8 t9 t10 t11 t12 t13 false _ ?side1 ?side2 ?side3 ?side4 A2.out).mono ?_);(case side1=>exact uC (Kd.Q_reads' HO_1.out).2.2);(case side2=>exact(Kd.Q_reads' HO_1.out).2.1);(case side3=>exact uC (Kd.R_reads' HO_2.out).2.2);(case side4=>exact(Kd.R_reads' HO_2.out).2.1);rintro e w5 ⟨v3,v5,rfl,ho1,ho2,hb⟩;refine⟨_,rfl,?_⟩;have HO3:=C (Kd.Q_lower (Kd.Q_new' (Kd.Q_new' ho1 (Kd.Q_lt (uQ HO_1.out))) (Kd.R_lt (uR HO_2.out))) (below_size uB));have HO4:=C (Kd.R_lower (Kd.R_new' (Kd.R_new' ho2 (Kd.Q_lt (uQ HO_1.out))) (Kd.R_lt (uR HO_2.out))) (below_size uB));replace HO_1:=C (Kd.Q_mono (Kd.Q_told (Kd.Q_told (Kd.Q_old (uQ HO_1.out) hb) (Kd.Q_base ho1)) (Kd.R_base ho2)) (fun _ h_=>h_.1));replace HO_2:=C (X (Kd.R_told (Kd.R_told (Kd.R_old (uR HO_2.out) hb) (Kd.Q_base ho1)) (Kd.R_base ho2)) (fun _ h_=>h_.1));replace BK1:=eK BK1 hb;replace BK2:=eK BK2 hb;replace BK3:=eK BK3 hb;replace HB:=eB hb;clear hb ho1 ho2)|((with_reducible refine gate_dst (N:=5) rfl ?_);refine Fix.be 5 #[V I 0,V I 0,L none 0 0,L none 0 0,V I 0,O false] 29 ?_;intro gb4 hg w6 BK4 hb;have GW4:=gE (w:=w) hg;have GE4:=GW4;have n6:=nL hg BK1;have n7:=nG hg BK1;have n8:=nL hg BK2;have n9:=nG hg BK2;have n10:=nL hg BK3;have n11:=nG hg BK3;replace HO_1:=eQ HO_1 hb;replace HO_2:=eR HO_2 hb;replace HO3:=eQ HO3 hb;replace HO4:=eR HO4 hb;replace BK1:=eK BK1 hb;replace BK2:=eK BK2 hb;replace BK3:=eK BK3 hb;replace HB:=eB hb;clear hb hg;have:=n7.out;have:=n6.out;have:=n9.out;have:=n8.out;have:=n11.out;have:=n10.out;obtain⟨_,_,_,_,_,_,_,_,_,_,_,_⟩:=d6 BK4.out;obtain⟨Ao5,co5,eo5,_⟩:=Kd.Q_slice HO3.out;subst eo5;obtain⟨Ao6,co6,rfl⟩:=Kd.R_slice HO4.out;obtain⟨_,_,_,_,_,_,_,_,_,_,_,_⟩:=d6 BK3.out)|((with_reducible refine F (f:=56) rfl ?_);refine gl 56 (some 25) func56 #[.agg #[V I x2_2,V I x3_2,L Ao3 x4_2.length co3,L Ao4 x5_2.length co4,V I x6_2,O x7_2],V I 2] ?_;(with_reducible refine(impl_LineStep.calls k2 x2_2 x3_2 _ _ x4_2 _ _ x5_2 x6_2 x7_2 2 t15 t16 t17 t18 t19 t20 false _ ?side1 ?side2 ?side3 ?side4 A3.out).mono ?_);(case side1=>refine(Kd.Q_reads' (e:=3) (base:=w.heap.size) (ok:=fun k_=>((qn k_ Ao4 x5_2.length co4∧qn k_ Ao5 t10.length co5)∧qn k_ Ao6 t11.length co6)) (n:=x4_2.length) (c:=co3) ?_).2.2;exact(Kd.Q_mono (fQ (Kd.Q_types HO_1.out BK4.out (by decide))) (fun _ h_=>h_.1)));(case side2=>exact(Kd.Q_reads' HO_1.out).2.1);(case side3=>refine(Kd.R_reads' (e:=3) (base:=w.heap.size) (ok:=fun k_=>((qn k_ Ao3 x4_2.length co3∧qn k_ Ao5 t10.length co5)∧qn k_ Ao6 t11.length co6)) (n:=x5_2.length) (c:=co4) ?_).2.2;exact(X (fR (Y HO_2.out BK4.out (by decide))) (fun _ h_=>h_.1)));(case side4=>exact(Kd.R_reads' HO_2.out).2.1);rintro e w7 ⟨v6,v7,rfl,ho1,ho2,hb⟩;refine⟨_,rfl,?_⟩;have HO5:=C (Kd.Q_lower (Kd.Q_new' (Kd.Q_new' (Kd.Q_new' (Kd.Q_new' ho1 (Kd.Q_lt (Kd.Q_mono (fQ (Kd.Q_types HO_1.out BK4.out (by decide))) (fun _ h_=>h_.1)))) (Kd.R_lt (X (fR (Y HO_2.out BK4.out (by decide))) (fun _ h_=>h_.1)))) (Kd.Q_lt (Kd.Q_mono (fQ (Kd.Q_types HO3.out BK4.out (by decide))) (fun _ h_=>h_.1)))) (Kd.R_lt (X (fR (Y HO4.out BK4.out (by decide))) (fun _ h_=>h_.1)))) (below_size uB));have HO6:=C (Kd.R_lower (Kd.R_new' (Kd.R_new' (Kd.R_new' (Kd.R_new' ho2 (Kd.Q_lt (Kd.Q_mono (fQ (Kd.Q_types HO_1.out BK4.out (by decide))) (fun _ h_=>h_.1)))) (Kd.R_lt (X (fR (Y HO_2.out BK4.out (by decide))) (fun _ h_=>h_.1)))) (Kd.Q_lt (Kd.Q_mono (fQ (Kd.Q_types HO3.out BK4.out (by decide))) (fun _ h_=>h_.1)))) (Kd.R_lt (X (fR (Y HO4.out BK4.out (by decide))) (fun _ h_=>h_.1)))) (below_size uB));replace HO_1:=C (Kd.Q_mono (Kd.Q_told (Kd.Q_told (Kd.Q_old (Kd.Q_mono (fQ (Kd.Q_types HO_1.out BK4.out (by decide))) (fun _ h_=>h_.1)) hb) (Kd.Q_base ho1)) (Kd.R_base ho2)) (fun _ h_=>h_.1));replace HO_2:=C (X (Kd.R_told (Kd.R_told (Kd.R_old (X (fR (Y HO_2.out BK4.out (by decide))) (fun _ h_=>h_.1)) hb) (Kd.Q_base ho1)) (Kd.R_base ho2)) (fun _ h_=>h_.1));replace HO3:=C (Kd.Q_mono (Kd.Q_told (Kd.Q_told (Kd.Q_old (Kd.Q_mono (fQ (Kd.Q_types HO3.out BK4.out (by decide))) (fun _ h_=>h_.1)) hb) (Kd.Q_base ho1)) (Kd.R_base ho2)) (fun _ h_=>h_.1));replace HO4:=C (X (Kd.R_told (Kd.R_told (Kd.R_old (X (fR (Y HO4.out BK4.out (by decide))) (fun _ h_=>h_.1)) hb) (Kd.Q_base ho1)) (Kd.R_base ho2)) (fun _ h_=>h_.1));replace BK1:=eK BK1 hb;replace BK2:=eK BK2 hb;replace BK3:=eK BK3 hb;replace BK4:=C (blk_below (g:=gb4) (o:=.cells #[V I t8,V I t9,L Ao5 t10.length co5,L Ao6 t11.length co6,V I t12,O t13] 29 (0,0)) (bK BK4.out) hb);replace HB:=eB hb;clear hb ho1 ho2)|((with_reducible refine gate_dst (N:=7) rfl ?_);refine Fix.be 7 #[V I 0,V I 0,L none 0 0,L none 0 0,V I 0,O false] 29 ?_;intro gb5 hg w8 BK5 hb;have GW5:=gE (w:=w) hg;have GE5:=GW5;have n12:=nL hg BK1;have n13:=nG hg BK1;have n14:=nL hg BK2;have n15:=nG hg BK2;have n16:=nL hg BK3;have n17:=nG hg BK3;have n18:=nL hg BK4;have n19:=nG hg BK4;replace HO_1:=eQ HO_1 hb;replace HO_2:=eR HO_2 hb;replace HO3:=eQ HO3 hb;replace HO4:=eR HO4 hb;replace HO5:=eQ HO5 hb;replace HO6:=eR HO6 hb;replace BK1:=eK BK1 hb;replace BK2:=eK BK2 hb;replace BK3:=eK BK3 hb;replace BK4:=eK BK4 hb;replace HB:=eB hb;clear hb hg;have:=n13.out;have:=n12.out;have:=n15.out;have:=n14.out;have:=n17.out;have:=n16.out;have:=n19.out;have:=n18.out;obtain⟨_,_,_,_,_,_,_,_,_,_,_,_⟩:=d6 BK5.out;obtain⟨Ao7,co7,eo7,_⟩:=Kd.Q_slice HO5.out;subst eo7;obtain⟨Ao8,co8,rfl⟩:=Kd.R_slice HO6.out))
      go_roundg k2
      case measure=>have:=HK1.out;have:=HK2.out;omega
      case rel=>exact⟨(x1_2),(x2_2),(x3_2),(x4_2),(x5_2),(x6_2),(x7_2),(L Ao3 x4_2.length co3),(L Ao4 x5_2.length co4),rS,H',⟨by have:=HK1.out;have:=HK2.out;omega⟩,⟨Kd.Q_mono (fQ (Kd.Q_types HO_1.out BK5.out (by decide))) (fun _ hk=>hk.1.1.1.1.1)⟩,⟨X (fR (Y HO_2.out BK5.out (by decide))) (fun _ hk=>hk.1.1.1.1.1)⟩,⟨bK BK1.out⟩,⟨bK BK2.out⟩,⟨bK BK3.out⟩,⟨uB⟩⟩
     subst c3
     rw[if_pos rfl]at H
     have H':=C H
     clear H
     have:=n3.out
     have:=n2.out
     have:=n5.out
     have:=n4.out
     obtain⟨_,_,_,_,_,_,_,_,_,_,_,_⟩:=d6 BK3.out
     obtain⟨Ao3,co3,eo3,_⟩:=Kd.Q_slice HO_1.out
     subst eo3
     obtain⟨Ao4,co4,eo4⟩:=Kd.R_slice HO_2.out
     subst eo4
     go_wp2_with (first|((with_reducible refine F (f:=56) rfl ?_);refine gl 56 (some 17) func56 #[.agg #[V I x2_2,V I x3_2,L Ao3 x4_2.length co3,L Ao4 x5_2.length co4,V I x6_2,O x7_2],V I 1] ?_;(with_reducible refine(impl_LineStep.calls k2 x2_2 x3_2 _ _ x4_2 _ _ x5_2 x6_2 x7_2 1 t8 t9 t10 t11 t12 t13 false _ ?side1 ?side2 ?side3 ?side4 A2.out).mono ?_);(case side1=>exact uC (Kd.Q_reads' HO_1.out).2.2);(case side2=>exact(Kd.Q_reads' HO_1.out).2.1);(case side3=>exact uC (Kd.R_reads' HO_2.out).2.2);(case side4=>exact(Kd.R_reads' HO_2.out).2.1);rintro e w5 ⟨v3,v5,rfl,ho1,ho2,hb⟩;refine⟨_,rfl,?_⟩;have HO3:=C (Kd.Q_lower (Kd.Q_new' (Kd.Q_new' ho1 (Kd.Q_lt (uQ HO_1.out))) (Kd.R_lt (uR HO_2.out))) (below_size uB));have HO4:=C (Kd.R_lower (Kd.R_new' (Kd.R_new' ho2 (Kd.Q_lt (uQ HO_1.out))) (Kd.R_lt (uR HO_2.out))) (below_size uB));replace HO_1:=C (Kd.Q_mono (Kd.Q_told (Kd.Q_told (Kd.Q_old (uQ HO_1.out) hb) (Kd.Q_base ho1)) (Kd.R_base ho2)) (fun _ h_=>h_.1));replace HO_2:=C (X (Kd.R_told (Kd.R_told (Kd.R_old (uR HO_2.out) hb) (Kd.Q_base ho1)) (Kd.R_base ho2)) (fun _ h_=>h_.1));replace BK1:=eK BK1 hb;replace BK2:=eK BK2 hb;replace BK3:=eK BK3 hb;replace HB:=eB hb;clear hb ho1 ho2)|((with_reducible refine gate_dst (N:=5) rfl ?_);refine Fix.be 5 #[V I 0,V I 0,L none 0 0,L none 0 0,V I 0,O false] 29 ?_;intro gb4 hg w6 BK4 hb;have GW4:=gE (w:=w) hg;have GE4:=GW4;have n6:=nL hg BK1;have n7:=nG hg BK1;have n8:=nL hg BK2;have n9:=nG hg BK2;have n10:=nL hg BK3;have n11:=nG hg BK3;replace HO_1:=eQ HO_1 hb;replace HO_2:=eR HO_2 hb;replace HO3:=eQ HO3 hb;replace HO4:=eR HO4 hb;replace BK1:=eK BK1 hb;replace BK2:=eK BK2 hb;replace BK3:=eK BK3 hb;replace HB:=eB hb;clear hb hg;have:=n7.out;have:=n6.out;have:=n9.out;have:=n8.out;have:=n11.out;have:=n10.out;obtain⟨_,_,_,_,_,_,_,_,_,_,_,_⟩:=d6 BK4.out;obtain⟨Ao5,co5,eo5,_⟩:=Kd.Q_slice HO3.out;subst eo5;obtain⟨Ao6,co6,rfl⟩:=Kd.R_slice HO4.out;obtain⟨_,_,_,_,_,_,_,_,_,_,_,_⟩:=d6 BK3.out)|((with_reducible refine F (f:=56) rfl ?_);refine gl 56 (some 25) func56 #[.agg #[V I x2_2,V I x3_2,L Ao3 x4_2.length co3,L Ao4 x5_2.length co4,V I x6_2,O x7_2],V I 2] ?_;(with_reducible refine(impl_LineStep.calls k2 x2_2 x3_2 _ _ x4_2 _ _ x5_2 x6_2 x7_2 2 t15 t16 t17 t18 t19 t20 true _ ?side1 ?side2 ?side3 ?side4 A3.out).mono ?_);(case side1=>refine(Kd.Q_reads' (e:=3) (base:=w.heap.size) (ok:=fun k_=>((qn k_ Ao4 x5_2.length co4∧qn k_ Ao5 t10.length co5)∧qn k_ Ao6 t11.length co6)) (n:=x4_2.length) (c:=co3) ?_).2.2;exact(Kd.Q_mono (fQ (Kd.Q_types HO_1.out BK4.out (by decide))) (fun _ h_=>h_.1)));(case side2=>exact(Kd.Q_reads' HO_1.out).2.1);(case side3=>refine(Kd.R_reads' (e:=3) (base:=w.heap.size) (ok:=fun k_=>((qn k_ Ao3 x4_2.length co3∧qn k_ Ao5 t10.length co5)∧qn k_ Ao6 t11.length co6)) (n:=x5_2.length) (c:=co4) ?_).2.2;exact(X (fR (Y HO_2.out BK4.out (by decide))) (fun _ h_=>h_.1)));(case side4=>exact(Kd.R_reads' HO_2.out).2.1);rintro e w7 ⟨v6,v7,rfl,ho1,ho2,hb⟩;refine⟨_,rfl,?_⟩;have HO5:=C (Kd.Q_lower (Kd.Q_new' (Kd.Q_new' (Kd.Q_new' (Kd.Q_new' ho1 (Kd.Q_lt (Kd.Q_mono (fQ (Kd.Q_types HO_1.out BK4.out (by decide))) (fun _ h_=>h_.1)))) (Kd.R_lt (X (fR (Y HO_2.out BK4.out (by decide))) (fun _ h_=>h_.1)))) (Kd.Q_lt (Kd.Q_mono (fQ (Kd.Q_types HO3.out BK4.out (by decide))) (fun _ h_=>h_.1)))) (Kd.R_lt (X (fR (Y HO4.out BK4.out (by decide))) (fun _ h_=>h_.1)))) (below_size uB));have HO6:=C (Kd.R_lower (Kd.R_new' (Kd.R_new' (Kd.R_new' (Kd.R_new' ho2 (Kd.Q_lt (Kd.Q_mono (fQ (Kd.Q_types HO_1.out BK4.out (by decide))) (fun _ h_=>h_.1)))) (Kd.R_lt (X (fR (Y HO_2.out BK4.out (by decide))) (fun _ h_=>h_.1)))) (Kd.Q_lt (Kd.Q_mono (fQ (Kd.Q_types HO3.out BK4.out (by decide))) (fun _ h_=>h_.1)))) (Kd.R_lt (X (fR (Y HO4.out BK4.out (by decide))) (fun _ h_=>h_.1)))) (below_size uB));replace HO_1:=C (Kd.Q_mono (Kd.Q_told (Kd.Q_told (Kd.Q_old (Kd.Q_mono (fQ (Kd.Q_types HO_1.out BK4.out (by decide))) (fun _ h_=>h_.1)) hb) (Kd.Q_base ho1)) (Kd.R_base ho2)) (fun _ h_=>h_.1));replace HO_2:=C (X (Kd.R_told (Kd.R_told (Kd.R_old (X (fR (Y HO_2.out BK4.out (by decide))) (fun _ h_=>h_.1)) hb) (Kd.Q_base ho1)) (Kd.R_base ho2)) (fun _ h_=>h_.1));replace HO3:=C (Kd.Q_mono (Kd.Q_told (Kd.Q_told (Kd.Q_old (Kd.Q_mono (fQ (Kd.Q_types HO3.out BK4.out (by decide))) (fun _ h_=>h_.1)) hb) (Kd.Q_base ho1)) (Kd.R_base ho2)) (fun _ h_=>h_.1));replace HO4:=C (X (Kd.R_told (Kd.R_told (Kd.R_old (X (fR (Y HO4.out BK4.out (by decide))) (fun _ h_=>h_.1)) hb) (Kd.Q_base ho1)) (Kd.R_base ho2)) (fun _ h_=>h_.1));replace BK1:=eK BK1 hb;replace BK2:=eK BK2 hb;replace BK3:=eK BK3 hb;replace BK4:=C (blk_below (g:=gb4) (o:=.cells #[V I t8,V I t9,L Ao5 t10.length co5,L Ao6 t11.length co6,V I t12,O t13] 29 (0,0)) (bK BK4.out) hb);replace HB:=eB hb;clear hb ho1 ho2)|((with_reducible refine gate_dst (N:=7) rfl ?_);refine Fix.be 7 #[V I 0,V I 0,L none 0 0,L none 0 0,V I 0,O false] 29 ?_;intro gb5 hg w8 BK5 hb;have GW5:=gE (w:=w) hg;have GE5:=GW5;have n12:=nL hg BK1;have n13:=nG hg BK1;have n14:=nL hg BK2;have n15:=nG hg BK2;have n16:=nL hg BK3;have n17:=nG hg BK3;have n18:=nL hg BK4;have n19:=nG hg BK4;replace HO_1:=eQ HO_1 hb;replace HO_2:=eR HO_2 hb;replace HO3:=eQ HO3 hb;replace HO4:=eR HO4 hb;replace HO5:=eQ HO5 hb;replace HO6:=eR HO6 hb;replace BK1:=eK BK1 hb;replace BK2:=eK BK2 hb;replace BK3:=eK BK3 hb;replace BK4:=eK BK4 hb;replace HB:=eB hb;clear hb hg;have:=n13.out;have:=n12.out;have:=n15.out;have:=n14.out;have:=n17.out;have:=n16.out;have:=n19.out;have:=n18.out;obtain⟨_,_,_,_,_,_,_,_,_,_,_,_⟩:=d6 BK5.out;obtain⟨Ao7,co7,eo7,_⟩:=Kd.Q_slice HO5.out;subst eo7;obtain⟨Ao8,co8,rfl⟩:=Kd.R_slice HO6.out;obtain⟨_,_,_,_,_,_,_,_,_,_,_,_⟩:=d6 BK3.out))
     go_roundg k2
     case measure=>have:=HK1.out;have:=HK2.out;omega
     case rel=>exact⟨(true),(t15),(t16),(t17),(t18),(t19),(t20),(L Ao7 t17.length co7),(L Ao8 t18.length co8),rS,H',⟨by have:=HK1.out;have:=HK2.out;omega⟩,⟨Kd.Q_mono (fQ (Kd.Q_types (Kd.Q_types HO5.out BK5.out (by decide)) BK3.out (by decide))) (fun _ hk=>hk.1.1.1.1.1.1)⟩,⟨X (fR (Y (Y HO6.out BK5.out (by decide)) BK3.out (by decide))) (fun _ hk=>hk.1.1.1.1.1.1)⟩,⟨bK BK1.out⟩,⟨bK BK2.out⟩,⟨bK BK3.out⟩,⟨uB⟩⟩
def impl_ReleaseJob.f (k:Nat) (l0:List (S26)) (a1:Int):Option ((List (S26))×Bool):=(impl_Job_43.f l0).bind fun t303=>((impl_jobAt.f l0 a1).bind fun t306=>((impl_JobsOk.f k l0).bind fun t307=>(if t307=true then(if t306<0 then(some (t303,false)) else(if 0≤t306 then(if t306<(l0.length:Int) then(if((rd_T26 l0 t306).f5=true) then(if t306<(t303.length:Int) then(some ((t303.set (t306:Int).toNat (⟨(rd_T26 t303 t306).f0,(rd_T26 t303 t306).f1,(rd_T26 t303 t306).f2,(rd_T26 t303 t306).f3,(rd_T26 t303 t306).f4,false⟩:S26)),true)) else(none)) else(some (t303,false))) else(none)) else(none))) else(some (t303,false)))))
theorem impl_ReleaseJob.calls (k:Nat) (A0:Option Addr) (c0:Nat) (l0:List (S26)) (a1:Int) (r1:List (S26)) (r2:Bool) (w:World) (hr0:Kd.C k26 w A0 l0.length l0) (hc0:l0.length≤c0) (h:impl_ReleaseJob.f k l0 a1=some (r1,r2)):
 Calls prog 58 #[L A0 l0.length c0,V I a1] w fun e w'=>∃v0_:Value,e=.returned (.tuple #[v0_,O r2])∧Kd.R k26 26 w' w.heap.size (fun _=>True) v0_ r1∧Below w.heap.size w w':=by
 have HR1:=C hr0
 have HC1:=C hc0
 (try clear hr0);(try clear hc0)
 have HB:=C (Below.refl w.heap.size w)
 have H:=h
 unfold impl_ReleaseJob.f at H
 clear h
 obtain⟨t1,A1,H⟩:=bnd H
 obtain⟨t2,A2,H⟩:=bnd H
 obtain⟨t3,A3,H⟩:=bnd H
 by_cases c1:t3=true
 rotate_left
 ·obtain rfl:=nt c1
  replace H:=nf H
  simp only[Option.some.injEq,Prod.mk.injEq]at H
  obtain⟨rfl,rfl⟩:=H
  go_enter func58,ntmps58
  go_wp2_with (first|((with_reducible refine F (f:=43) rfl ?_);refine gl 43 (some 9) func43 #[L A0 l0.length c0] ?_;(with_reducible refine(impl_Job_43.calls _ _ l0 t1 _ ?side1 HC1.out A1.out).mono ?_);(case side1=>exact uC HR1.out);rintro e w2 ⟨v1,rfl,ho1,hb⟩;refine⟨_,rfl,?_⟩;have HO1:=lR ho1;replace HB:=eB hb;clear hb ho1)|((with_reducible refine F (f:=74) rfl ?_);refine gl 74 (some 12) func74 #[L A0 l0.length c0,V I a1] ?_;(with_reducible refine(impl_jobAt.calls _ _ l0 a1 t2 _ ?side1 HC1.out A2.out).mono ?_);(case side1=>exact uZ HR1);rintro e w3 ⟨rfl,hb⟩;refine⟨_,rfl,?_⟩;replace HO1:=eR HO1 hb;replace HB:=eB hb;clear hb)|((with_reducible refine F (f:=45) rfl ?_);refine gl 45 (some 14) func45 #[L A0 l0.length c0] ?_;(with_reducible refine(impl_JobsOk.calls k _ _ l0 false _ ?side1 HC1.out A3.out).mono ?_);(case side1=>exact uZ HR1);rintro e w4 ⟨rfl,hb⟩;refine⟨_,rfl,?_⟩;replace HO1:=eR HO1 hb;replace HB:=eB hb;clear hb))
  go_ret2
  exact⟨_,rE,fR HO1.out,uB⟩
 subst c1
 rw[if_pos rfl]at H
 by_cases c2:t2<0
 ·rw[if_pos c2]at H
  replace c2:=decide_eq_true c2
  simp only[Option.some.injEq,Prod.mk.injEq]at H
  obtain⟨rfl,rfl⟩:=H
  go_enter func58,ntmps58
  go_wp2_with (first|((with_reducible refine F (f:=43) rfl ?_);refine gl 43 (some 9) func43 #[L A0 l0.length c0] ?_;(with_reducible refine(impl_Job_43.calls _ _ l0 t1 _ ?side1 HC1.out A1.out).mono ?_);(case side1=>exact uC HR1.out);rintro e w2 ⟨v1,rfl,ho1,hb⟩;refine⟨_,rfl,?_⟩;have HO1:=lR ho1;replace HB:=eB hb;clear hb ho1)|((with_reducible refine F (f:=74) rfl ?_);refine gl 74 (some 12) func74 #[L A0 l0.length c0,V I a1] ?_;(with_reducible refine(impl_jobAt.calls _ _ l0 a1 t2 _ ?side1 HC1.out A2.out).mono ?_);(case side1=>exact uZ HR1);rintro e w3 ⟨rfl,hb⟩;refine⟨_,rfl,?_⟩;replace HO1:=eR HO1 hb;replace HB:=eB hb;clear hb)|((with_reducible refine F (f:=45) rfl ?_);refine gl 45 (some 14) func45 #[L A0 l0.length c0] ?_;(with_reducible refine(impl_JobsOk.calls k _ _ l0 true _ ?side1 HC1.out A3.out).mono ?_);(case side1=>exact uZ HR1);rintro e w4 ⟨rfl,hb⟩;refine⟨_,rfl,?_⟩;replace HO1:=eR HO1 hb;replace HB:=eB hb;clear hb))
  go_ret2
  exact⟨_,rE,fR HO1.out,uB⟩
 rw[if_neg c2]at H
 replace c2:=decide_eq_false c2
 obtain⟨c3,H⟩:=np H
 replace c3:=decide_eq_true c3
 obtain⟨c4,H⟩:=np H
 replace c4:=decide_eq_true c4
 obtain⟨bq1,hbq1⟩:∃b_:Bool,b_=((rd_T26 l0 t2).f5):=⟨_,rfl⟩
 replace H:(if(bq1=true) then(if t2<(t1.length:Int) then(some ((t1.set (t2:Int).toNat (⟨(rd_T26 t1 t2).f0,(rd_T26 t1 t2).f1,(rd_T26 t1 t2).f2,(rd_T26 t1 t2).f3,(rd_T26 t1 t2).f4,false⟩:S26)),true)) else(none)) else(some (t1,false)))=some (r1,r2):=by rw[←hbq1]at H;exact H
 have Nbq1:=C hbq1
 clear hbq1
 by_cases c5:(bq1=true)
 rotate_left
 ·obtain rfl:=nt c5
  replace H:=nf H
  simp only[Option.some.injEq,Prod.mk.injEq]at H
  obtain⟨rfl,rfl⟩:=H
  go_enter func58,ntmps58
  go_wp2_with (first|((with_reducible refine F (f:=43) rfl ?_);refine gl 43 (some 9) func43 #[L A0 l0.length c0] ?_;(with_reducible refine(impl_Job_43.calls _ _ l0 t1 _ ?side1 HC1.out A1.out).mono ?_);(case side1=>exact uC HR1.out);rintro e w2 ⟨v1,rfl,ho1,hb⟩;refine⟨_,rfl,?_⟩;have HO1:=lR ho1;replace HB:=eB hb;clear hb ho1)|((with_reducible refine F (f:=74) rfl ?_);refine gl 74 (some 12) func74 #[L A0 l0.length c0,V I a1] ?_;(with_reducible refine(impl_jobAt.calls _ _ l0 a1 t2 _ ?side1 HC1.out A2.out).mono ?_);(case side1=>exact uZ HR1);rintro e w3 ⟨rfl,hb⟩;refine⟨_,rfl,?_⟩;replace HO1:=eR HO1 hb;replace HB:=eB hb;clear hb)|((with_reducible refine F (f:=45) rfl ?_);refine gl 45 (some 14) func45 #[L A0 l0.length c0] ?_;(with_reducible refine(impl_JobsOk.calls k _ _ l0 true _ ?side1 HC1.out A3.out).mono ?_);(case side1=>exact uZ HR1);rintro e w4 ⟨rfl,hb⟩;refine⟨_,rfl,?_⟩;replace HO1:=eR HO1 hb;replace HB:=eB hb;clear hb;have p1:0≤(t2:Int):=oT;have q1:t2<(l0.length:Int):=oT;obtain⟨ad1,e1,hx1_0,hx1_1,hx1_2,hx1_3,hx1_4,hx1_5⟩:=at_T26 HR1.out t2 p1 q1;(try rw[←Nbq1.out]at hx1_3);(try rw[←Nbq1.out]at hx1_5);cases e1;replace hx1_0:=hx HB hx1_0;replace hx1_1:=hx HB hx1_1;replace hx1_2:=hx HB hx1_2;replace hx1_3:=hx HB hx1_3;replace hx1_4:=hx HB hx1_4;replace hx1_5:=hx HB hx1_5;replace p1:=eq_true p1;replace q1:=eq_true q1))
  go_ret2
  exact⟨_,rE,fR HO1.out,uB⟩
 subst c5
 rw[if_pos rfl]at H
 obtain⟨c6,H⟩:=np H
 replace c6:=decide_eq_true c6
 obtain⟨y1,hy1⟩:∃y_:List (S26),y_=(t1.set (t2:Int).toNat (⟨(rd_T26 t1 t2).f0,(rd_T26 t1 t2).f1,(rd_T26 t1 t2).f2,(rd_T26 t1 t2).f3,(rd_T26 t1 t2).f4,false⟩:S26)):=⟨_,rfl⟩
 replace H:(some (y1,true))=some (r1,r2):=gy hy1 H
 have Ny1:=C hy1
 clear hy1
 simp only[Option.some.injEq,Prod.mk.injEq]at H
 obtain⟨rfl,rfl⟩:=H
 go_enter func58,ntmps58
 go_wp2_with (first|((with_reducible refine F (f:=43) rfl ?_);refine gl 43 (some 9) func43 #[L A0 l0.length c0] ?_;(with_reducible refine(impl_Job_43.calls _ _ l0 t1 _ ?side1 HC1.out A1.out).mono ?_);(case side1=>exact uC HR1.out);rintro e w2 ⟨v1,rfl,ho1,hb⟩;refine⟨_,rfl,?_⟩;have HO1:=lR ho1;replace HB:=eB hb;clear hb ho1)|((with_reducible refine F (f:=74) rfl ?_);refine gl 74 (some 12) func74 #[L A0 l0.length c0,V I a1] ?_;(with_reducible refine(impl_jobAt.calls _ _ l0 a1 t2 _ ?side1 HC1.out A2.out).mono ?_);(case side1=>exact uZ HR1);rintro e w3 ⟨rfl,hb⟩;refine⟨_,rfl,?_⟩;replace HO1:=eR HO1 hb;replace HB:=eB hb;clear hb)|((with_reducible refine F (f:=45) rfl ?_);refine gl 45 (some 14) func45 #[L A0 l0.length c0] ?_;(with_reducible refine(impl_JobsOk.calls k _ _ l0 true _ ?side1 HC1.out A3.out).mono ?_);(case side1=>exact uZ HR1);rintro e w4 ⟨rfl,hb⟩;refine⟨_,rfl,?_⟩;replace HO1:=eR HO1 hb;replace HB:=eB hb;clear hb;have p1:0≤(t2:Int):=oT;have q1:t2<(l0.length:Int):=oT;obtain⟨ad1,e1,hx1_0,hx1_1,hx1_2,hx1_3,hx1_4,hx1_5⟩:=at_T26 HR1.out t2 p1 q1;(try rw[←Nbq1.out]at hx1_3);(try rw[←Nbq1.out]at hx1_5);cases e1;replace hx1_0:=hx HB hx1_0;replace hx1_1:=hx HB hx1_1;replace hx1_2:=hx HB hx1_2;replace hx1_3:=hx HB hx1_3;replace hx1_4:=hx HB hx1_4;replace hx1_5:=hx HB hx1_5;replace p1:=eq_true p1;replace q1:=eq_true q1;have p2:0≤(t2:Int):=oT;have q2:(t2:Int)<((t1.length:Int):Int):=oT;obtain⟨go1,co1,eo1,gb1,gl1,cl1,HG1⟩:=Kd.R_form HO1.out (by omega);(first|cases eo1|(injection eo1 with ea_ en_ ec_;(first|subst ea_|(injection ea_ with ea_;subst ea_));subst ec_;clear en_));have GB1:=C gb1;have GG1:=C HG1;clear gb1 gl1 HG1;obtain⟨ce1,hcl1,hM1,hcc1,hfr1⟩:=Kd.R_elem HO1.out z26 (t2:Int) p2 q2;obtain rfl:=k26_openM hM1;have hx2_0:w4.cell? ⟨go1,(t2:Int).toNat * 6,none⟩=some (V I ((rd_T26 t1 t2).f0)):=hcc1 0 _ rfl;have hx2_1:w4.cell? ⟨go1,(t2:Int).toNat * 6+1,none⟩=some (V I ((rd_T26 t1 t2).f1)):=hcc1 1 _ rfl;have hx2_2:w4.cell? ⟨go1,(t2:Int).toNat * 6+2,none⟩=some (V I ((rd_T26 t1 t2).f2)):=hcc1 2 _ rfl;have hx2_3:w4.cell? ⟨go1,(t2:Int).toNat * 6+3,none⟩=some (O ((rd_T26 t1 t2).f3)):=hcc1 3 _ rfl;have hx2_4:w4.cell? ⟨go1,(t2:Int).toNat * 6+4,none⟩=some (V I ((rd_T26 t1 t2).f4)):=hcc1 4 _ rfl;have hx2_5:w4.cell? ⟨go1,(t2:Int).toNat * 6+5,none⟩=some (O ((rd_T26 t1 t2).f5)):=hcc1 5 _ rfl;have hf1_0:w4.frozen? ⟨go1,(t2:Int).toNat * 6,none⟩=false:=hfr1 0;have hf1_1:w4.frozen? ⟨go1,(t2:Int).toNat * 6+1,none⟩=false:=hfr1 1;have hf1_2:w4.frozen? ⟨go1,(t2:Int).toNat * 6+2,none⟩=false:=hfr1 2;have hf1_3:w4.frozen? ⟨go1,(t2:Int).toNat * 6+3,none⟩=false:=hfr1 3;have hf1_4:w4.frozen? ⟨go1,(t2:Int).toNat * 6+4,none⟩=false:=hfr1 4;have hf1_5:w4.frozen? ⟨go1,(t2:Int).toNat * 6+5,none⟩=false:=hfr1 5;(try clear hcl1);(try clear hcc1);(try clear hfr1);(try clear hM1);replace p2:=eq_true p2;replace q2:=eq_true q2;have HX1:=C (show Kd.R k26 26 w4 w.heap.size (fun _=>True) (L (some ⟨go1,0,none⟩) t1.length co1) t1 from(uR HO1.out));obtain⟨ce2,hcl2,hM2,hcc2,hfr2⟩:=Kd.R_elem HX1.out z26 (t2:Int) oT (by have h_:(t2:Int)<((t1.length:Int):Int):=oT;first|exact h_|(have e_:=(Kd.R_reads' HO1.out).1;omega)|simpa using h_);obtain rfl:=k26_openM hM2;have HP1:=Kd.R_seg HX1.out (t2:Int) oT (by have h_:(t2:Int)<((t1.length:Int):Int):=oT;first|exact h_|(have e_:=(Kd.R_reads' HO1.out).1;omega)|simpa using h_) (seg:= [O false]) (j:=5) hcl2 hcc2 (show 6≤6 from by decide) (x':=(⟨(rd_T26 t1 t2).f0,(rd_T26 t1 t2).f1,(rd_T26 t1 t2).f2,(rd_T26 t1 t2).f3,(rd_T26 t1 t2).f4,false⟩:S26)) (k26_mkM _ _ _ (⟨(rd_T26 t1 t2).f0,(rd_T26 t1 t2).f1,(rd_T26 t1 t2).f2,(rd_T26 t1 t2).f3,(rd_T26 t1 t2).f4,false⟩:S26)) (fun _ hk=>hk);have hx3_5:=hcc2 5 _ rfl;(try simp only[show(k26).sz=6 from rfl,Nat.mul_one,Nat.add_zero]at hx3_5);have hf2_5:=hfr2 5;(try simp only[show(k26).sz=6 from rfl,Nat.mul_one,Nat.add_zero]at hf2_5);(try clear hcl2);(try clear hcc2);(try clear hfr2);(try clear hM2))|((with_reducible refine gate_store (t:=4) (p:=32) rfl ?_);refine store_event (t:=4) (p:=32) (v:= ?vo_w1) (w1:=(w4.setCell ⟨go1,(t2:Int).toNat * 6+5,none⟩ (O false))) ?hg ?ho ?hn ?hr ?_;(case ho=>rfl);(case hg=>rfl);(case hn=>rfl);(case hr=>exact Fix.hr);intro w5 hw;have hg:w4.grownBy w5 (some go1):=(by rw[hw];exact HP1.2);have hp_:Kd.R k26 26 w5 w.heap.size (fun _=>True) (L (some ⟨go1,0,none⟩) t1.length co1) y1:=(by rw[hw,Ny1.out];exact HP1.1);clear HP1;replace HO1:=C (hp_);replace HB:=C ((by rw[hw];exact below_set (HB.out) GB1.out:Below w.heap.size w w5));clear hg hw hp_))
 go_ret2
 exact⟨_,rE,fR HO1.out,uB⟩
end Go.Proofs.YtgdnlmfoghpeoaaGreatDoor.PFnExactRunScript
