/- Calls do what plain Lean functions say (FnExactRunScript). No condition. -/
import Derived.Test.YtgdnlmfoghpeoaaGreatDoorQFnExactRunScript0
import Derived.Test.YtgdnlmfoghpeoaaGreatDoorQFnExactRunScript9
import Derived.Test.YtgdnlmfoghpeoaaGreatDoorQFnExactRunScript12
namespace Go.Proofs.YtgdnlmfoghpeoaaGreatDoor.PFnExactRunScript
open Go.RowKit Go.Proofs.YtgdnlmfoghpeoaaGreatDoorW.PrintWords Go.Proofs.YtgdnlmfoghpeoaaGreatDoorW.PrintLast Go.Proofs.YtgdnlmfoghpeoaaGreatDoorW.PrintMore
open Tryz
open Fix (bK bnd d6 eB eK eQ eR fQ fR gE gl gy hx lR nG nL nf np nt oT qm rE rS si uB uC uQ uR uZ)
open Go.Value renaming int→V,slice→L,bool→O
open Go.IntKind renaming i64→I
open Go.Proofs.YtgdnlmfoghpeoaaGreatDoorW.PrintWords.Aside0 renaming mk→C
open Go.Proofs.YtgdnlmfoghpeoaaGreatDoorW.PrintWords renaming Aside0→D
attribute [local go_sem] max2_int min2_int max_two min_two max_three min_three max_four min_four
attribute [local go_sem] Fix.isSome_setCell
set_option linter.unusedVariables false
set_option maxHeartbeats 40000000
set_option maxRecDepth 100000
set_option linter.unusedSimpArgs false
mutual
def spec_FinishLine.l0:Nat→Bool→Int→Int→List Int→List Int→Int→Bool→Option (Int×Int×List Int×List Int×Int×Bool)
 |0,_,_,_,_,_,_,_=>none
 |k+1,x4,x809000,x809001,x809002,x809003,x809004,x809005=>if x4=true then(spec_FinishLine.l1 k true x809000 x809001 x809002 x809003 x809004 x809005) else(some (x809000,x809001,x809002,x809003,x809004,x809005))
def spec_FinishLine.l1:Nat→Bool→Int→Int→List Int→List Int→Int→Bool→Option (Int×Int×List Int×List Int×Int×Bool)
 |0,_,_,_,_,_,_,_=>none
 |k+1,x5,x809000,x809001,x809002,x809003,x809004,x809005=>if x5=true then((spec_LineStep.f k x809000 x809001 x809002 x809003 x809004 x809005 1).bind fun bt809=>(spec_FinishLine.l1 k bt809.2.2.2.2.2.2 bt809.1 bt809.2.1 bt809.2.2.1 bt809.2.2.2.1 bt809.2.2.2.2.1 bt809.2.2.2.2.2.1)) else((spec_LineStep.f k x809000 x809001 x809002 x809003 x809004 x809005 2).bind fun bt820=>(spec_FinishLine.l0 k bt820.2.2.2.2.2.2 bt820.1 bt820.2.1 bt820.2.2.1 bt820.2.2.2.1 bt820.2.2.2.2.1 bt820.2.2.2.2.2.1))
end
def spec_FinishLine.f (k:Nat) (a0_0:Int) (a0_1:Int) (l0_2:List Int) (l0_3:List Int) (a0_4:Int) (a0_5:Bool):Option (Int×Int×List Int×List Int×Int×Bool):=(spec_LineStep.f k a0_0 a0_1 l0_2 l0_3 a0_4 a0_5 5).bind fun bt797=>(spec_FinishLine.l0 k bt797.2.2.2.2.2.2 bt797.1 bt797.2.1 bt797.2.2.1 bt797.2.2.2.1 bt797.2.2.2.2.1 bt797.2.2.2.2.2.1)
theorem spec_FinishLine.calls (k:Nat) (a0_0:Int) (a0_1:Int) (A0_2:Option Addr) (c0_2:Nat) (l0_2:List Int) (A0_3:Option Addr) (c0_3:Nat) (l0_3:List Int) (a0_4:Int) (a0_5:Bool) (r1:Int) (r2:Int) (r3:List Int) (r4:List Int) (r5:Int) (r6:Bool) (w:World) (hr0_2:Kd.C (Kd.int .i64) w A0_2 l0_2.length l0_2) (hc0_2:l0_2.length≤c0_2) (hr0_3:Kd.C (Kd.int .i64) w A0_3 l0_3.length l0_3) (hc0_3:l0_3.length≤c0_3) (h:spec_FinishLine.f k a0_0 a0_1 l0_2 l0_3 a0_4 a0_5=some (r1,r2,r3,r4,r5,r6)):
 Calls prog 91 #[.agg #[V I a0_0,V I a0_1,L A0_2 l0_2.length c0_2,L A0_3 l0_3.length c0_3,V I a0_4,O a0_5]] w fun e w'=>∃v2_ v3_:Value,e=.returned (.agg #[V I r1,V I r2,v2_,v3_,V I r5,O r6])∧Kd.Q (Kd.int .i64) 3 w' w.heap.size (fun k_=>qm k_ v3_) v2_ r3∧Kd.R (Kd.int .i64) 3 w' w.heap.size (fun k_=>qm k_ v2_) v3_ r4∧Below w.heap.size w w':=by
 have hu1:=underlying29
 have HR1_2:=C hr0_2
 have HC1_2:=C hc0_2
 (try clear hr0_2);(try clear hc0_2)
 have HR1_3:=C hr0_3
 have HC1_3:=C hc0_3
 (try clear hr0_3);(try clear hc0_3)
 have HB:=C (Below.refl w.heap.size w)
 have H:=h
 unfold spec_FinishLine.f at H
 clear h
 obtain⟨⟨t1,t2,t3,t4,t5,t6,t7⟩,A1,H⟩:=bnd H
 dsimp only at H
 have H':=C H
 clear H
 go_enter func91,ntmps91
 go_wp2_with (first|((with_reducible refine gate_dst (N:=1) rfl ?_);refine Fix.be 1 #[V I a0_0,V I a0_1,L A0_2 l0_2.length c0_2,L A0_3 l0_3.length c0_3,V I a0_4,O a0_5] 29 ?_;intro gb1 hg w1 BK1 hb;have GW1:=gE (w:=w) hg;replace HB:=eB hb;clear hb hg)|((with_reducible refine gate_dst (N:=2) rfl ?_);refine Fix.be 2 #[V I 0,V I 0,L none 0 0,L none 0 0,V I 0,O false] 29 ?_;intro gb2 hg w2 BK2 hb;have GW2:=gE (w:=w) hg;have n0:=nL hg BK1;have n1:=nG hg BK1;replace BK1:=eK BK1 hb;replace HB:=eB hb;clear hb hg;have:=n0.out;have:=n1.out;obtain⟨_,_,_,_,_,_,_,_,_,_,_,_⟩:=d6 BK1.out)|((with_reducible refine gate_callee (f:=90) rfl ?_);refine gl 90 (some 8) func90 #[.agg #[V I a0_0,V I a0_1,L A0_2 l0_2.length c0_2,L A0_3 l0_3.length c0_3,V I a0_4,O a0_5],V I 5] ?_;(with_reducible refine(spec_LineStep.calls k a0_0 a0_1 _ _ l0_2 _ _ l0_3 a0_4 a0_5 5 t1 t2 t3 t4 t5 t6 t7 _ ?side1 HC1_2.out ?side3 HC1_3.out A1.out).mono ?_);(case side1=>exact uZ HR1_2);(case side3=>exact uZ HR1_3);rintro e w3 ⟨v1,v2,rfl,ho1,ho2,hb⟩;refine⟨_,rfl,?_⟩;have HO1:=C (Kd.Q_lower ho1 (below_size uB));have HO2:=lR ho2;replace BK1:=eK BK1 hb;replace BK2:=eK BK2 hb;replace HB:=eB hb;clear hb ho1 ho2)|((with_reducible refine gate_dst (N:=3) rfl ?_);refine Fix.be 3 #[V I 0,V I 0,L none 0 0,L none 0 0,V I 0,O false] 29 ?_;intro gb3 hg w4 BK3 hb;have GW3:=gE (w:=w) hg;have n2:=nL hg BK1;have n3:=nG hg BK1;have n4:=nL hg BK2;have n5:=nG hg BK2;replace HO1:=eQ HO1 hb;replace HO2:=eR HO2 hb;replace BK1:=eK BK1 hb;replace BK2:=eK BK2 hb;replace HB:=eB hb;clear hb hg;have:=n3.out;have:=n2.out;have:=n5.out;have:=n4.out;obtain⟨_,_,_,_,_,_,_,_,_,_,_,_⟩:=d6 BK3.out;obtain⟨Ao1,co1,eo1,_⟩:=Kd.Q_slice HO1.out;subst eo1;obtain⟨Ao2,co2,rfl⟩:=Kd.R_slice HO2.out))
 go_loopg [4] k (fun kq v4 w'=>∃(x1_1:Bool) (x2_1:Int) (x3_1:Int) (x4_1:List Int) (x5_1:List Int) (x6_1:Int) (x7_1:Bool) (u809002:Value) (u809003:Value),v4=O x1_1∧D (spec_FinishLine.l0 kq x1_1 x2_1 x3_1 x4_1 x5_1 x6_1 x7_1=some (r1,r2,r3,r4,r5,r6))∧D (kq≤k)∧D (Kd.Q (Kd.int .i64) 3 w' w.heap.size (fun k_=>qm k_ u809003) u809002 x4_1)∧D (Kd.R (Kd.int .i64) 3 w' w.heap.size (fun k_=>qm k_ u809002) u809003 x5_1)∧D (w'.heap[gb1]? =some (.cells #[V I a0_0,V I a0_1,(L A0_2 l0_2.length c0_2),(L A0_3 l0_3.length c0_3),V I a0_4,O a0_5] 29 (0,0)))∧D (w'.heap[gb2]? =some (.cells #[V I 0,V I 0,(L none 0 0),(L none 0 0),V I 0,O false] 29 (0,0)))∧D (w'.heap[gb3]? =some (.cells #[V I x2_1,V I x3_1,u809002,u809003,V I x6_1,O x7_1] 29 (0,0)))∧D (Below w.heap.size w w'))
 case atStart=>exact⟨(t7),(t1),(t2),(t3),(t4),(t5),(t6),(L Ao1 t3.length co1),(L Ao2 t4.length co2),rS,H',⟨Nat.le_refl _⟩,⟨Kd.Q_mono (fQ (Kd.Q_types HO1.out BK3.out (by decide))) (fun _ hk=>hk.1)⟩,⟨Kd.R_mono (fR (Kd.R_types HO2.out BK3.out (by decide))) (fun _ hk=>hk.1)⟩,⟨bK BK1.out⟩,⟨bK BK2.out⟩,⟨bK BK3.out⟩,⟨uB⟩⟩
 case round=>
  clear H'
  obtain⟨x1_1,x2_1,x3_1,x4_1,x5_1,x6_1,x7_1,u809002,u809003,rfl,HA,HK1,HO_1,HO_2,BK1,BK2,BK3,HB⟩:=hrel
  cases gk with
  |zero=>exact absurd HA.out (by simp[spec_FinishLine.l0])
  |succ k1=>
   have H:=HA.out
   clear HA
   simp only[spec_FinishLine.l0]at H
   by_cases c1:x1_1=true
   rotate_left
   ·obtain rfl:=nt c1
    replace H:=nf H
    simp only[Option.some.injEq,Prod.mk.injEq]at H
    obtain⟨rfl,rfl,rfl,rfl,rfl,rfl⟩:=H
    have:=n3.out
    have:=n2.out
    have:=n5.out
    have:=n4.out
    obtain⟨_,_,_,_,_,_,_,_,_,_,_,_⟩:=d6 BK3.out
    have:=n1.out
    have:=n0.out
    obtain⟨_,_,_,_,_,_,_,_,_,_,_,_⟩:=d6 BK2.out
    obtain⟨Ao3,co3,eo3,_⟩:=Kd.Q_slice HO_1.out
    subst eo3
    obtain⟨Ao4,co4,eo4⟩:=Kd.R_slice HO_2.out
    subst eo4
    go_wp2
    refine bodyPost_ret (results_cell_row rfl _ _ gb2 29 #[V I x2_1,V I x3_1,L Ao3 x4_1.length co3,L Ao4 x5_1.length co4,V I x6_1,O x7_1] (0,0) _ rfl (bK BK2.out) underlying29 rfl (by kernel_rfl)) rfl ?_
    exact⟨_,_,rE,Kd.Q_mono (fQ (Kd.Q_types HO_1.out BK2.out (by decide))) (fun _ hk=>hk.1),Kd.R_mono (fR (Kd.R_types HO_2.out BK2.out (by decide))) (fun _ hk=>hk.1),uB⟩
   subst c1
   rw[if_pos rfl]at H
   have H':=C H
   clear H
   go_wp2
   go_loopg [5] k1 (fun kq v5 w'=>∃(x8_2:Bool) (x2_2:Int) (x3_2:Int) (x4_2:List Int) (x5_2:List Int) (x6_2:Int) (x7_2:Bool) (u809002:Value) (u809003:Value),v5=O x8_2∧D (spec_FinishLine.l1 kq x8_2 x2_2 x3_2 x4_2 x5_2 x6_2 x7_2=some (r1,r2,r3,r4,r5,r6))∧D (kq≤k1)∧D (Kd.Q (Kd.int .i64) 3 w' w.heap.size (fun k_=>qm k_ u809003) u809002 x4_2)∧D (Kd.R (Kd.int .i64) 3 w' w.heap.size (fun k_=>qm k_ u809002) u809003 x5_2)∧D (w'.heap[gb1]? =some (.cells #[V I a0_0,V I a0_1,(L A0_2 l0_2.length c0_2),(L A0_3 l0_3.length c0_3),V I a0_4,O a0_5] 29 (0,0)))∧D (w'.heap[gb2]? =some (.cells #[V I 0,V I 0,(L none 0 0),(L none 0 0),V I 0,O false] 29 (0,0)))∧D (w'.heap[gb3]? =some (.cells #[V I x2_2,V I x3_2,u809002,u809003,V I x6_2,O x7_2] 29 (0,0)))∧D (Below w.heap.size w w'))
   case atStart=>exact⟨(true),(x2_1),(x3_1),(x4_1),(x5_1),(x6_1),(x7_1),(u809002),(u809003),rS,H',⟨Nat.le_refl _⟩,⟨fQ HO_1.out⟩,⟨fR HO_2.out⟩,⟨bK BK1.out⟩,⟨bK BK2.out⟩,⟨bK BK3.out⟩,⟨uB⟩⟩
   case round=>
    clear H'
    obtain⟨x8_2,x2_2,x3_2,x4_2,x5_2,x6_2,x7_2,u809002,u809003,rfl,HA,HK2,HO_1,HO_2,BK1,BK2,BK3,HB⟩:=hrel
    cases gk with
    |zero=>exact absurd HA.out (by simp[spec_FinishLine.l1])
    |succ k2=>
     have H:=HA.out
     clear HA
     simp only[spec_FinishLine.l1]at H
     by_cases c2:x8_2=true
     ·subst c2
      rw[if_pos rfl]at H
      obtain⟨⟨t8,t9,t10,t11,t12,t13,t14⟩,A2,H⟩:=bnd H
      dsimp only at H
      have H':=C H
      clear H
      have:=n3.out
      have:=n2.out
      have:=n5.out
      have:=n4.out
      obtain⟨_,_,_,_,_,_,_,_,_,_,_,_⟩:=d6 BK3.out
      obtain⟨Ao3,co3,eo3,_⟩:=Kd.Q_slice HO_1.out
      subst eo3
      obtain⟨Ao4,co4,eo4⟩:=Kd.R_slice HO_2.out
      subst eo4
      go_wp2_with (first|((with_reducible refine gate_callee (f:=90) rfl ?_);refine gl 90 (some 15) func90 #[.agg #[V I x2_2,V I x3_2,L Ao3 x4_2.length co3,L Ao4 x5_2.length co4,V I x6_2,O x7_2],V I 1] ?_;(with_reducible refine(spec_LineStep.calls k2 x2_2 x3_2 _ _ x4_2 _ _ x5_2 x6_2 x7_2 1 t8 t9 t10 t11 t12 t13 t14 _ ?side1 ?side2 ?side3 ?side4 A2.out).mono ?_);(case side1=>exact uC (Kd.Q_reads' HO_1.out).2.2);(case side2=>exact(Kd.Q_reads' HO_1.out).2.1);(case side3=>exact uC (Kd.R_reads' HO_2.out).2.2);(case side4=>exact(Kd.R_reads' HO_2.out).2.1);rintro e w5 ⟨v3,v6,rfl,ho1,ho2,hb⟩;refine⟨_,rfl,?_⟩;have HO3:=C (Kd.Q_lower (Kd.Q_new' (Kd.Q_new' ho1 (Kd.Q_lt (uQ HO_1.out))) (Kd.R_lt (uR HO_2.out))) (below_size uB));have HO4:=C (Kd.R_lower (Kd.R_new' (Kd.R_new' ho2 (Kd.Q_lt (uQ HO_1.out))) (Kd.R_lt (uR HO_2.out))) (below_size uB));replace HO_1:=C (Kd.Q_mono (Kd.Q_told (Kd.Q_told (Kd.Q_old (uQ HO_1.out) hb) (Kd.Q_base ho1)) (Kd.R_base ho2)) (fun _ h_=>h_.1));replace HO_2:=C (Kd.R_mono (Kd.R_told (Kd.R_told (Kd.R_old (uR HO_2.out) hb) (Kd.Q_base ho1)) (Kd.R_base ho2)) (fun _ h_=>h_.1));replace BK1:=eK BK1 hb;replace BK2:=eK BK2 hb;replace BK3:=eK BK3 hb;replace HB:=eB hb;clear hb ho1 ho2;obtain⟨_,_,_,_,_,_,_,_,_,_,_,_⟩:=d6 BK3.out;obtain⟨Ao5,co5,eo5,_⟩:=Kd.Q_slice HO3.out;subst eo5;obtain⟨Ao6,co6,rfl⟩:=Kd.R_slice HO4.out))
      go_roundg k2
      case measure=>have:=HK1.out;have:=HK2.out;omega
      case rel=>exact⟨(t14),(t8),(t9),(t10),(t11),(t12),(t13),(L Ao5 t10.length co5),(L Ao6 t11.length co6),rS,H',⟨by have:=HK1.out;have:=HK2.out;omega⟩,⟨Kd.Q_mono (fQ (Kd.Q_types HO3.out BK3.out (by decide))) (fun _ hk=>hk.1.1.1)⟩,⟨Kd.R_mono (fR (Kd.R_types HO4.out BK3.out (by decide))) (fun _ hk=>hk.1.1.1)⟩,⟨bK BK1.out⟩,⟨bK BK2.out⟩,⟨bK BK3.out⟩,⟨uB⟩⟩
     obtain rfl:=nt c2
     replace H:=nf H
     obtain⟨⟨t8,t9,t10,t11,t12,t13,t14⟩,A2,H⟩:=bnd H
     dsimp only at H
     have H':=C H
     clear H
     have:=n3.out
     have:=n2.out
     have:=n5.out
     have:=n4.out
     obtain⟨_,_,_,_,_,_,_,_,_,_,_,_⟩:=d6 BK3.out
     obtain⟨Ao3,co3,eo3,_⟩:=Kd.Q_slice HO_1.out
     subst eo3
     obtain⟨Ao4,co4,eo4⟩:=Kd.R_slice HO_2.out
     subst eo4
     go_wp2_with (first|((with_reducible refine gate_callee (f:=90) rfl ?_);refine gl 90 (some 20) func90 #[.agg #[V I x2_2,V I x3_2,L Ao3 x4_2.length co3,L Ao4 x5_2.length co4,V I x6_2,O x7_2],V I 2] ?_;(with_reducible refine(spec_LineStep.calls k2 x2_2 x3_2 _ _ x4_2 _ _ x5_2 x6_2 x7_2 2 t8 t9 t10 t11 t12 t13 t14 _ ?side1 ?side2 ?side3 ?side4 A2.out).mono ?_);(case side1=>exact uC (Kd.Q_reads' HO_1.out).2.2);(case side2=>exact(Kd.Q_reads' HO_1.out).2.1);(case side3=>exact uC (Kd.R_reads' HO_2.out).2.2);(case side4=>exact(Kd.R_reads' HO_2.out).2.1);rintro e w5 ⟨v3,v6,rfl,ho1,ho2,hb⟩;refine⟨_,rfl,?_⟩;have HO3:=C (Kd.Q_lower (Kd.Q_new' (Kd.Q_new' ho1 (Kd.Q_lt (uQ HO_1.out))) (Kd.R_lt (uR HO_2.out))) (below_size uB));have HO4:=C (Kd.R_lower (Kd.R_new' (Kd.R_new' ho2 (Kd.Q_lt (uQ HO_1.out))) (Kd.R_lt (uR HO_2.out))) (below_size uB));replace HO_1:=C (Kd.Q_mono (Kd.Q_told (Kd.Q_told (Kd.Q_old (uQ HO_1.out) hb) (Kd.Q_base ho1)) (Kd.R_base ho2)) (fun _ h_=>h_.1));replace HO_2:=C (Kd.R_mono (Kd.R_told (Kd.R_told (Kd.R_old (uR HO_2.out) hb) (Kd.Q_base ho1)) (Kd.R_base ho2)) (fun _ h_=>h_.1));replace BK1:=eK BK1 hb;replace BK2:=eK BK2 hb;replace BK3:=eK BK3 hb;replace HB:=eB hb;clear hb ho1 ho2;obtain⟨_,_,_,_,_,_,_,_,_,_,_,_⟩:=d6 BK3.out;obtain⟨Ao5,co5,eo5,_⟩:=Kd.Q_slice HO3.out;subst eo5;obtain⟨Ao6,co6,rfl⟩:=Kd.R_slice HO4.out))
     go_roundg k2
     case measure=>have:=HK1.out;have:=HK2.out;omega
     case rel=>exact⟨(t14),(t8),(t9),(t10),(t11),(t12),(t13),(L Ao5 t10.length co5),(L Ao6 t11.length co6),rS,H',⟨by have:=HK1.out;have:=HK2.out;omega⟩,⟨Kd.Q_mono (fQ (Kd.Q_types HO3.out BK3.out (by decide))) (fun _ hk=>hk.1.1.1)⟩,⟨Kd.R_mono (fR (Kd.R_types HO4.out BK3.out (by decide))) (fun _ hk=>hk.1.1.1)⟩,⟨bK BK1.out⟩,⟨bK BK2.out⟩,⟨bK BK3.out⟩,⟨uB⟩⟩
mutual
def spec_l29Find.l0:Nat→List (S26)→Int→Int→Option (Int)
 |0,_,_,_=>none
 |k+1,x0,x1,x5=>if x5<(x0.length:Int) then((spec_JobsOk.f k x0).bind fun t831=>(spec_l29Find.j1 k x0 x1 x5 t831)) else(spec_l29Find.j1 k x0 x1 x5 false)
def spec_l29Find.j1:Nat→List (S26)→Int→Int→Bool→Option (Int)
 |0,_,_,_,_=>none
 |k+1,x0,x1,x5,x13=>if x13=true then(if 0≤x5 then(if x5<(x0.length:Int) then(if((rd_T26 x0 x5).f0)=x1 then(some x5) else(spec_l29Find.l0 k x0 x1 (wrap64 (x5+1)))) else(none)) else(none)) else(some (-1))
end
def spec_l29Find.f (k:Nat) (l0:List (S26)) (a1:Int):Option (Int):=spec_l29Find.l0 k l0 a1 0
theorem spec_l29Find.W1 {p:Prop} (h:p:=by
 go_wp2
 go_ret
 exact⟨rE,uB⟩):p:=h
theorem spec_l29Find.calls (k:Nat) (A0:Option Addr) (c0:Nat) (l0:List (S26)) (a1:Int) (r:Int) (w:World) (hr0:Kd.C k26 w A0 l0.length l0) (hc0:l0.length≤c0) (h:spec_l29Find.f k l0 a1=some r):
 Calls prog 112 #[L A0 l0.length c0,V I a1] w fun e w'=>e=.returned (V I r)∧Below w.heap.size w w':=by
 have HR1:=C hr0
 have HC1:=C hc0
 (try clear hr0);(try clear hc0)
 have HB:=C (Below.refl w.heap.size w)
 have H:=h
 unfold spec_l29Find.f at H
 clear h
 have H':=C H
 clear H
 go_enter func112,ntmps112
 go_wp2
 go_loopg [5] k (fun kq v5 w'=>∃(x1_1:Int),v5=V I x1_1∧D (spec_l29Find.l0 kq l0 a1 x1_1=some r)∧D (kq≤k)∧D (Below w.heap.size w w'))
 case atStart=>exact⟨(0),rS,H',⟨Nat.le_refl _⟩,⟨uB⟩⟩
 case round=>
  clear H'
  obtain⟨x1_1,rfl,HA,HK1,HB⟩:=hrel
  cases gk with
  |zero=>exact absurd HA.out (by simp[spec_l29Find.l0])
  |succ k1=>
   have H:=HA.out
   clear HA
   simp only[spec_l29Find.l0]at H
   have HC2:=C H
   clear H
   go_upto_region 2 with(fail)
   go_cut [13] (fun v13 wc=>∃(kq:Nat) (x2_2:Bool),v13=O x2_2∧D (spec_l29Find.j1 kq l0 a1 x1_1 x2_2=some r)∧D (kq≤k1)∧D (Below w.heap.size w wc))
   case first=>
    have H:=HC2.out
    clear HC2
    by_cases c1:x1_1<(l0.length:Int)
    rotate_left
    ·rw[if_neg c1]at H
     have c1b0:decide (x1_1<(l0.length:Int))=false:=decide_eq_false c1
     clear c1
     (first|rw[c1b0]|(simp only[i64_w,i32_w];rw[c1b0])|skip)
     have H':=C H
     clear H
     go_wp2
     go_meet
     case rel=>exact⟨_,(false),rS,H',⟨by have:=HK1.out;first|omega|exact Nat.le_refl _⟩,⟨uB⟩⟩
    rw[if_pos c1]at H
    have c1b0:decide (x1_1<(l0.length:Int))=true:=decide_eq_true c1
    clear c1
    (first|rw[c1b0]|(simp only[i64_w,i32_w];rw[c1b0])|skip)
    obtain⟨t1,A1,H⟩:=bnd H
    have H':=C H
    clear H
    go_wp2_with (first|(go_at_call 83;(with_reducible refine(spec_JobsOk.calls k1 _ _ l0 t1 _ ?side1 HC1.out A1.out).mono ?_);(case side1=>exact uZ HR1);rintro e w1 ⟨rfl,hb⟩;replace HB:=eB hb;clear hb))
    go_meet
    case rel=>exact⟨_,(t1),rS,H',⟨by have:=HK1.out;first|omega|exact Nat.le_refl _⟩,⟨uB⟩⟩
   case rest=>
    clear HC2
    obtain⟨kq,x2_2,rfl,HA,HJ1,HB⟩:=hcut
    cases kq with
    |zero=>exact absurd HA.out (by simp[spec_l29Find.j1])
    |succ kj2=>
     have H:=HA.out
     clear HA
     simp only[spec_l29Find.j1]at H
     by_cases c1:x2_2=true
     rotate_left
     ·obtain rfl:=nt c1
      replace H:=nf H
      obtain rfl:=si H
      exact spec_l29Find.W1
     subst c1
     rw[if_pos rfl]at H
     obtain⟨c2,H⟩:=np H
     replace c2:=decide_eq_true c2
     obtain⟨c3,H⟩:=np H
     replace c3:=decide_eq_true c3
     by_cases c4:((rd_T26 l0 x1_1).f0)=a1
     ·rw[if_pos c4]at H
      have c4b0:(((rd_T26 l0 x1_1).f0)==a1)=true:=beq_iff_eq.mpr c4
      have c4b1:(((rd_T26 l0 x1_1).f0) !=a1)=false:=bne_eq_false_iff_eq.mpr c4
      clear c4
      obtain rfl:=si H
      have p1:0≤(x1_1:Int):=oT
      have q1:x1_1<(l0.length:Int):=oT
      obtain⟨ad1,e1,hx1_0,hx1_1,hx1_2,hx1_3,hx1_4,hx1_5⟩:=at_T26 (Kd.C_below HR1.out HB.out) x1_1 p1 q1
      cases e1
      replace p1:=eq_true p1
      replace q1:=eq_true q1
      exact spec_l29Find.W1
     rw[if_neg c4]at H
     have c4b0:(((rd_T26 l0 x1_1).f0)==a1)=false:=beq_eq_false_iff_ne.mpr c4
     have c4b1:(((rd_T26 l0 x1_1).f0) !=a1)=true:=bne_iff_ne.mpr c4
     have H':=C H
     clear H
     have p1:0≤(x1_1:Int):=oT
     have q1:x1_1<(l0.length:Int):=oT
     obtain⟨ad1,e1,hx1_0,hx1_1,hx1_2,hx1_3,hx1_4,hx1_5⟩:=at_T26 (Kd.C_below HR1.out HB.out) x1_1 p1 q1
     cases e1
     replace p1:=eq_true p1
     replace q1:=eq_true q1
     go_wp2
     go_roundg kj2
     case measure=>have:=HK1.out;have:=HJ1.out;omega
     case rel=>exact⟨(wrap64 (x1_1+1)),rS,H',⟨by have:=HK1.out;have:=HJ1.out;omega⟩,⟨uB⟩⟩
def spec_ReleaseJob.f (k:Nat) (l0:List (S26)) (a1:Int):Option ((List (S26))×Bool):=(spec_l29Copy.f l0).bind fun t833=>((spec_l29Find.f k l0 a1).bind fun t836=>(if t836<0 then(some (t833,false)) else(if 0≤t836 then(if t836<(l0.length:Int) then(if((rd_T26 l0 t836).f5=true) then(if t836<(t833.length:Int) then(some ((t833.set (t836:Int).toNat (⟨(rd_T26 t833 t836).f0,(rd_T26 t833 t836).f1,(rd_T26 t833 t836).f2,(rd_T26 t833 t836).f3,(rd_T26 t833 t836).f4,false⟩:S26)),true)) else(none)) else(some (t833,false))) else(none)) else(none))))
theorem spec_ReleaseJob.calls (k:Nat) (A0:Option Addr) (c0:Nat) (l0:List (S26)) (a1:Int) (r1:List (S26)) (r2:Bool) (w:World) (hr0:Kd.C k26 w A0 l0.length l0) (hc0:l0.length≤c0) (h:spec_ReleaseJob.f k l0 a1=some (r1,r2)):
 Calls prog 92 #[L A0 l0.length c0,V I a1] w fun e w'=>∃v0_:Value,e=.returned (.tuple #[v0_,O r2])∧Kd.R k26 26 w' w.heap.size (fun _=>True) v0_ r1∧Below w.heap.size w w':=by
 have HR1:=C hr0
 have HC1:=C hc0
 (try clear hr0);(try clear hc0)
 have HB:=C (Below.refl w.heap.size w)
 have H:=h
 unfold spec_ReleaseJob.f at H
 clear h
 obtain⟨t1,A1,H⟩:=bnd H
 obtain⟨t2,A2,H⟩:=bnd H
 by_cases c1:t2<0
 ·rw[if_pos c1]at H
  replace c1:=decide_eq_true c1
  simp only[Option.some.injEq,Prod.mk.injEq]at H
  obtain⟨rfl,rfl⟩:=H
  go_enter func92,ntmps92
  go_wp2_with (first|((with_reducible refine gate_callee (f:=81) rfl ?_);refine gl 81 (some 9) func81 #[L A0 l0.length c0] ?_;(with_reducible refine(spec_l29Copy.calls _ _ l0 t1 _ ?side1 HC1.out A1.out).mono ?_);(case side1=>exact uC HR1.out);rintro e w2 ⟨v1,rfl,ho1,hb⟩;refine⟨_,rfl,?_⟩;have HO1:=lR ho1;replace HB:=eB hb;clear hb ho1)|((with_reducible refine gate_callee (f:=112) rfl ?_);refine gl 112 (some 12) func112 #[L A0 l0.length c0,V I a1] ?_;(with_reducible refine(spec_l29Find.calls k _ _ l0 a1 t2 _ ?side1 HC1.out A2.out).mono ?_);(case side1=>exact uZ HR1);rintro e w3 ⟨rfl,hb⟩;refine⟨_,rfl,?_⟩;replace HO1:=eR HO1 hb;replace HB:=eB hb;clear hb))
  go_ret2
  exact⟨_,rE,fR HO1.out,uB⟩
 rw[if_neg c1]at H
 replace c1:=decide_eq_false c1
 obtain⟨c2,H⟩:=np H
 replace c2:=decide_eq_true c2
 obtain⟨c3,H⟩:=np H
 replace c3:=decide_eq_true c3
 obtain⟨bq1,hbq1⟩:∃b_:Bool,b_=((rd_T26 l0 t2).f5):=⟨_,rfl⟩
 replace H:(if(bq1=true) then(if t2<(t1.length:Int) then(some ((t1.set (t2:Int).toNat (⟨(rd_T26 t1 t2).f0,(rd_T26 t1 t2).f1,(rd_T26 t1 t2).f2,(rd_T26 t1 t2).f3,(rd_T26 t1 t2).f4,false⟩:S26)),true)) else(none)) else(some (t1,false)))=some (r1,r2):=by rw[←hbq1]at H;exact H
 have Nbq1:=C hbq1
 clear hbq1
 by_cases c4:(bq1=true)
 rotate_left
 ·obtain rfl:=nt c4
  replace H:=nf H
  simp only[Option.some.injEq,Prod.mk.injEq]at H
  obtain⟨rfl,rfl⟩:=H
  go_enter func92,ntmps92
  go_wp2_with (first|((with_reducible refine gate_callee (f:=81) rfl ?_);refine gl 81 (some 9) func81 #[L A0 l0.length c0] ?_;(with_reducible refine(spec_l29Copy.calls _ _ l0 t1 _ ?side1 HC1.out A1.out).mono ?_);(case side1=>exact uC HR1.out);rintro e w2 ⟨v1,rfl,ho1,hb⟩;refine⟨_,rfl,?_⟩;have HO1:=lR ho1;replace HB:=eB hb;clear hb ho1)|((with_reducible refine gate_callee (f:=112) rfl ?_);refine gl 112 (some 12) func112 #[L A0 l0.length c0,V I a1] ?_;(with_reducible refine(spec_l29Find.calls k _ _ l0 a1 t2 _ ?side1 HC1.out A2.out).mono ?_);(case side1=>exact uZ HR1);rintro e w3 ⟨rfl,hb⟩;refine⟨_,rfl,?_⟩;replace HO1:=eR HO1 hb;replace HB:=eB hb;clear hb;have p1:0≤(t2:Int):=oT;have q1:t2<(l0.length:Int):=oT;obtain⟨ad1,e1,hx1_0,hx1_1,hx1_2,hx1_3,hx1_4,hx1_5⟩:=at_T26 HR1.out t2 p1 q1;(try rw[←Nbq1.out]at hx1_3);(try rw[←Nbq1.out]at hx1_5);cases e1;replace hx1_0:=hx HB hx1_0;replace hx1_1:=hx HB hx1_1;replace hx1_2:=hx HB hx1_2;replace hx1_3:=hx HB hx1_3;replace hx1_4:=hx HB hx1_4;replace hx1_5:=hx HB hx1_5;replace p1:=eq_true p1;replace q1:=eq_true q1))
  go_ret2
  exact⟨_,rE,fR HO1.out,uB⟩
 subst c4
 rw[if_pos rfl]at H
 obtain⟨c5,H⟩:=np H
 replace c5:=decide_eq_true c5
 obtain⟨y1,hy1⟩:∃y_:List (S26),y_=(t1.set (t2:Int).toNat (⟨(rd_T26 t1 t2).f0,(rd_T26 t1 t2).f1,(rd_T26 t1 t2).f2,(rd_T26 t1 t2).f3,(rd_T26 t1 t2).f4,false⟩:S26)):=⟨_,rfl⟩
 replace H:(some (y1,true))=some (r1,r2):=gy hy1 H
 have Ny1:=C hy1
 clear hy1
 simp only[Option.some.injEq,Prod.mk.injEq]at H
 obtain⟨rfl,rfl⟩:=H
 go_enter func92,ntmps92
 go_wp2_with (first|((with_reducible refine gate_callee (f:=81) rfl ?_);refine gl 81 (some 9) func81 #[L A0 l0.length c0] ?_;(with_reducible refine(spec_l29Copy.calls _ _ l0 t1 _ ?side1 HC1.out A1.out).mono ?_);(case side1=>exact uC HR1.out);rintro e w2 ⟨v1,rfl,ho1,hb⟩;refine⟨_,rfl,?_⟩;have HO1:=lR ho1;replace HB:=eB hb;clear hb ho1)|((with_reducible refine gate_callee (f:=112) rfl ?_);refine gl 112 (some 12) func112 #[L A0 l0.length c0,V I a1] ?_;(with_reducible refine(spec_l29Find.calls k _ _ l0 a1 t2 _ ?side1 HC1.out A2.out).mono ?_);(case side1=>exact uZ HR1);rintro e w3 ⟨rfl,hb⟩;refine⟨_,rfl,?_⟩;replace HO1:=eR HO1 hb;replace HB:=eB hb;clear hb;have p1:0≤(t2:Int):=oT;have q1:t2<(l0.length:Int):=oT;obtain⟨ad1,e1,hx1_0,hx1_1,hx1_2,hx1_3,hx1_4,hx1_5⟩:=at_T26 HR1.out t2 p1 q1;(try rw[←Nbq1.out]at hx1_3);(try rw[←Nbq1.out]at hx1_5);cases e1;replace hx1_0:=hx HB hx1_0;replace hx1_1:=hx HB hx1_1;replace hx1_2:=hx HB hx1_2;replace hx1_3:=hx HB hx1_3;replace hx1_4:=hx HB hx1_4;replace hx1_5:=hx HB hx1_5;replace p1:=eq_true p1;replace q1:=eq_true q1;have p2:0≤(t2:Int):=oT;have q2:(t2:Int)<((t1.length:Int):Int):=oT;obtain⟨go1,co1,eo1,gb1,gl1,cl1,HG1⟩:=Kd.R_form HO1.out (by omega);(first|cases eo1|(injection eo1 with ea_ en_ ec_;(first|subst ea_|(injection ea_ with ea_;subst ea_));subst ec_;clear en_));have GB1:=C gb1;have GG1:=C HG1;clear gb1 gl1 HG1;obtain⟨ce1,hcl1,hM1,hcc1,hfr1⟩:=Kd.R_elem HO1.out z26 (t2:Int) p2 q2;obtain rfl:=k26_openM hM1;have hx2_0:w3.cell? ⟨go1,(t2:Int).toNat * 6,none⟩=some (V I ((rd_T26 t1 t2).f0)):=hcc1 0 _ rfl;have hx2_1:w3.cell? ⟨go1,(t2:Int).toNat * 6+1,none⟩=some (V I ((rd_T26 t1 t2).f1)):=hcc1 1 _ rfl;have hx2_2:w3.cell? ⟨go1,(t2:Int).toNat * 6+2,none⟩=some (V I ((rd_T26 t1 t2).f2)):=hcc1 2 _ rfl;have hx2_3:w3.cell? ⟨go1,(t2:Int).toNat * 6+3,none⟩=some (O ((rd_T26 t1 t2).f3)):=hcc1 3 _ rfl;have hx2_4:w3.cell? ⟨go1,(t2:Int).toNat * 6+4,none⟩=some (V I ((rd_T26 t1 t2).f4)):=hcc1 4 _ rfl;have hx2_5:w3.cell? ⟨go1,(t2:Int).toNat * 6+5,none⟩=some (O ((rd_T26 t1 t2).f5)):=hcc1 5 _ rfl;have hf1_0:w3.frozen? ⟨go1,(t2:Int).toNat * 6,none⟩=false:=hfr1 0;have hf1_1:w3.frozen? ⟨go1,(t2:Int).toNat * 6+1,none⟩=false:=hfr1 1;have hf1_2:w3.frozen? ⟨go1,(t2:Int).toNat * 6+2,none⟩=false:=hfr1 2;have hf1_3:w3.frozen? ⟨go1,(t2:Int).toNat * 6+3,none⟩=false:=hfr1 3;have hf1_4:w3.frozen? ⟨go1,(t2:Int).toNat * 6+4,none⟩=false:=hfr1 4;have hf1_5:w3.frozen? ⟨go1,(t2:Int).toNat * 6+5,none⟩=false:=hfr1 5;(try clear hcl1);(try clear hcc1);(try clear hfr1);(try clear hM1);replace p2:=eq_true p2;replace q2:=eq_true q2;have HX1:=C (show Kd.R k26 26 w3 w.heap.size (fun _=>True) (L (some ⟨go1,0,none⟩) t1.length co1) t1 from(uR HO1.out));obtain⟨ce2,hcl2,hM2,hcc2,hfr2⟩:=Kd.R_elem HX1.out z26 (t2:Int) oT (by have h_:(t2:Int)<((t1.length:Int):Int):=oT;first|exact h_|(have e_:=(Kd.R_reads' HO1.out).1;omega)|simpa using h_);obtain rfl:=k26_openM hM2;have HP1:=Kd.R_seg HX1.out (t2:Int) oT (by have h_:(t2:Int)<((t1.length:Int):Int):=oT;first|exact h_|(have e_:=(Kd.R_reads' HO1.out).1;omega)|simpa using h_) (seg:= [O false]) (j:=5) hcl2 hcc2 (show 6≤6 from by decide) (x':=(⟨(rd_T26 t1 t2).f0,(rd_T26 t1 t2).f1,(rd_T26 t1 t2).f2,(rd_T26 t1 t2).f3,(rd_T26 t1 t2).f4,false⟩:S26)) (k26_mkM _ _ _ (⟨(rd_T26 t1 t2).f0,(rd_T26 t1 t2).f1,(rd_T26 t1 t2).f2,(rd_T26 t1 t2).f3,(rd_T26 t1 t2).f4,false⟩:S26)) (fun _ hk=>hk);have hx3_5:=hcc2 5 _ rfl;(try simp only[show(k26).sz=6 from rfl,Nat.mul_one,Nat.add_zero]at hx3_5);have hf2_5:=hfr2 5;(try simp only[show(k26).sz=6 from rfl,Nat.mul_one,Nat.add_zero]at hf2_5);(try clear hcl2);(try clear hcc2);(try clear hfr2);(try clear hM2))|((with_reducible refine gate_store (t:=4) (p:=27) rfl ?_);refine store_event (t:=4) (p:=27) (v:= ?vo_w1) (w1:=(w3.setCell ⟨go1,(t2:Int).toNat * 6+5,none⟩ (O false))) ?hg ?ho ?hn ?hr ?_;(case ho=>rfl);(case hg=>rfl);(case hn=>rfl);(case hr=>exact Fix.hr);intro w4 hw;have hg:w3.grownBy w4 (some go1):=(by rw[hw];exact HP1.2);have hp_:Kd.R k26 26 w4 w.heap.size (fun _=>True) (L (some ⟨go1,0,none⟩) t1.length co1) y1:=(by rw[hw,Ny1.out];exact HP1.1);clear HP1;replace HO1:=C (hp_);replace HB:=C ((by rw[hw];exact below_set (HB.out) GB1.out:Below w.heap.size w w4));clear hg hw hp_))
 go_ret2
 exact⟨_,rE,fR HO1.out,uB⟩
def spec_l39Bool.f (a0:Bool):Option (Int):=if a0=true then(some 1) else(some 0)
theorem spec_l39Bool.W1 {p:Prop} (h:p:=by
 go_enter func93,ntmps93
 go_wp2
 go_ret
 exact⟨by first|rfl|(simp;done)|(simp[*];done),by repeat(first|exact Drawn0.refl _|apply Drawn0.step)⟩):p:=h
theorem spec_l39Bool.calls (a0:Bool) (r:Int) (w:World) (h:spec_l39Bool.f a0=some r):
 Calls prog 93 #[O a0] w fun e w'=>e=.returned (V I r)∧Drawn0 w w':=by
 have H:=h
 unfold spec_l39Bool.f at H
 clear h
 by_cases c1:a0=true
 ·subst c1
  rw[if_pos rfl]at H
  obtain rfl:=si H
  exact spec_l39Bool.W1
 obtain rfl:=nt c1
 replace H:=nf H
 obtain rfl:=si H
 exact spec_l39Bool.W1
end Go.Proofs.YtgdnlmfoghpeoaaGreatDoor.PFnExactRunScript
