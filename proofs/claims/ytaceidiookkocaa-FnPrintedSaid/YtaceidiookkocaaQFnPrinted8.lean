/- Calls do what plain Lean functions say (FnPrinted). No condition. -/
import Derived.Test.YtaceidiookkocaaQFnPrinted0
import Derived.Test.YtaceidiookkocaaQFnPrinted1
import Derived.Test.YtaceidiookkocaaQFnPrinted2
import Derived.Test.YtaceidiookkocaaQFnPrinted5
import Derived.Test.YtaceidiookkocaaQFnPrinted6
import Derived.Test.YtaceidiookkocaaQFnPrinted7
namespace Go.Proofs.Ytaceidiookkocaa.PFnPrinted
open Go.RowKit Go.Proofs.YtaceidiookkocaaW.PrintWords Go.Proofs.YtaceidiookkocaaW.PrintLast Go.Proofs.YtaceidiookkocaaW.PrintMore
open Try
open Fix (bK bnd d4 d6 eB eK eS fS gE gK gl gy hx nG nL nf np nt oL oT pj qm qn rE rS si uA uB uC uK uZ)
open Go.Value renaming int→V,slice→L
open Go.IntKind renaming i64→I
open Go.Proofs.YtaceidiookkocaaW.PrintWords.Aside0 renaming mk→C
open Go.Proofs.YtaceidiookkocaaW.PrintWords renaming Aside0→D,gate_callee→F
attribute [local go_sem] max2_int min2_int max_two min_two max_three min_three max_four min_four
attribute [local go_sem] Fix.isSome_setCell
set_option linter.unusedVariables false
set_option maxHeartbeats 40000000
set_option maxRecDepth 100000
set_option linter.unusedSimpArgs false
mutual
def impl_PrintPage.j0:Nat→List (S77)→Int→Bool→Option ((List (List Int))×Bool)
 |0,_,_,_=>none
 |k+1,x0,x1,x26=>if x26=true then(some (([]:List (List Int)),false)) else(impl_PrintPage.l0 k x0 x1 ([]:List (List Int)) 0)
def impl_PrintPage.l0:Nat→List (S77)→Int→List (List Int)→Int→Option ((List (List Int))×Bool)
 |0,_,_,_,_=>none
 |k+1,x0,x1,x6,x7=>(impl_CountBands.f x1).bind fun t645=>(if x7<t645 then((impl_NewBand.f k x1 x7).bind fun bt646=>(impl_PrintPage.l1 k x0 x1 x6 x7 x0 (x0.length:Int) 0 bt646.1 bt646.2.1 bt646.2.2.1 bt646.2.2.2.1)) else(some (x6,true)))
def impl_PrintPage.l1:Nat→List (S77)→Int→List (List Int)→Int→List (S77)→Int→Int→Int→Int→List (List Int)→List (S77)→Option ((List (List Int))×Bool)
 |0,_,_,_,_,_,_,_,_,_,_,_=>none
 |k+1,x0,x1,x6,x7,x39,x40,x41,x656000,x656001,x656002,x656003=>if x41<x40 then(if 0≤x41 then(if x41<(x39.length:Int) then((impl_AddToBand.f k x656000 x656001 x656002 x656003 ((rd_T77 x39 x41).f0) ((rd_T77 x39 x41).f1) ((rd_T77 x39 x41).f2.f0) ((rd_T77 x39 x41).f2.f1) ((rd_T77 x39 x41).f2.f2) ((rd_T77 x39 x41).f2.f3)).bind fun bt658=>(impl_PrintPage.l1 k x0 x1 x6 x7 x39 x40 (wrap64 (x41+1)) bt658.1 bt658.2.1 bt658.2.2.1 bt658.2.2.2.1)) else(none)) else(none)) else((impl_RowsOfBand.f k x656000 x656001 x656002 x656003).bind fun t667=>((impl_PackRows.f k t667).bind fun t670=>((impl_UnpackRows.f k t670).bind fun bt673=>(if x6.length+bt673.1.length<5864062014805 then(impl_PrintPage.l0 k x0 x1 (x6++bt673.1) (wrap64 (x7+1))) else(none)))))
end
def impl_PrintPage.f (k:Nat) (l0:List (S77)) (a1:Int):Option ((List (List Int))×Bool):=if(l0.length:Int) >12 then(impl_PrintPage.j0 k l0 a1 true) else((impl_objectsOk.f k l0).bind fun t643=>(if t643=true then((impl_IsHeight.f a1).bind fun t644=>(impl_PrintPage.j0 k l0 a1 (!t644))) else(impl_PrintPage.j0 k l0 a1 true)))
theorem impl_PrintPage.W1 {p:Prop} (h:p:=by
 go_wp2_with (first|(go_at_call 59;(with_reducible refine(impl_objectsOk.calls k _ _ l0 true _ ?side1 HC1.out A1.out).mono ?_);(case side1=>exact uZ HR1);rintro e w1 ⟨rfl,hb⟩;replace HB:=eB hb;clear hb)|(go_at_call 60;(with_reducible refine(impl_IsHeight.calls a1 t2 _ A2.out).mono ?_);rintro e w' ⟨rfl,⟨nd,rfl⟩⟩)|(go_at_call 59;(with_reducible refine(impl_objectsOk.calls k _ _ l0 false _ ?side1 HC1.out A1.out).mono ?_);(case side1=>exact uZ HR1);rintro e w1 ⟨rfl,hb⟩;replace HB:=eB hb;clear hb))
 go_meet
 first
  |(case rel=>exact⟨_,(!t2),rS,H',⟨oL⟩,⟨uB⟩⟩)
  |(case rel=>exact⟨_,(true),rS,H',⟨oL⟩,⟨uB⟩⟩)):p:=h
theorem impl_PrintPage.W2 {p:Prop} (h:p:=by
 go_wp2_with (first|((with_reducible refine gate_dst (N:=11) rfl ?_);refine Fix.be 11 #[L none 0 0,V I 0,V I 0,V I 0,V I 0,V I 0] 77 ?_;intro gb2 hg w3 BK2 hb;have GW2:=gE (w:=w) hg;have n0:=nL hg BK1;have n1:=nG hg BK1;replace HO_1:=C (Kd.N_below (Kd.N_elderB (by(with_reducible repeat(first|apply Kd.N_alloc|apply Kd.N_drewN|apply Kd.N_drew));exact HO_1.out) gb2 (Nat.le_of_eq hg.symm)) hb);replace HO_2:=C (Kd.N_below (Kd.N_elderB (by(with_reducible repeat(first|apply Kd.N_alloc|apply Kd.N_drewN|apply Kd.N_drew));exact HO_2.out) gb2 (Nat.le_of_eq hg.symm)) hb);replace HO_3:=C (Kd.N_below (Kd.N_elderB (by(with_reducible repeat(first|apply Kd.N_alloc|apply Kd.N_drewN|apply Kd.N_drew));exact HO_3.out) gb2 (Nat.le_of_eq hg.symm)) hb);replace BK1:=eK BK1 hb;replace HB:=eB hb;clear hb hg;have:=n1.out;have:=n0.out;obtain⟨_,_,_,_,_,_,_,_,_,_,_,_⟩:=d6 BK2.out;obtain⟨_,_,_,_,_,_,_,_⟩:=d4 BK1.out;obtain⟨Ao3,co3,eo3⟩:=Kd.N_slice HO_2.out;subst eo3;obtain⟨Ao4,co4,eo4⟩:=Kd.N_slice HO_3.out;subst eo4)|((with_reducible refine F (f:=63) rfl ?_);refine gl 63 (some 48) func63 #[.agg #[V I x5_3,V I x6_3,L Ao3 x7_3.length co3,L Ao4 x8_3.length co4],.agg #[L A4_0 ((rd_T77 l0 x4_3).f0).length c6_0,V I ((rd_T77 l0 x4_3).f1),V I ((rd_T77 l0 x4_3).f2.f0),V I ((rd_T77 l0 x4_3).f2.f1),V I ((rd_T77 l0 x4_3).f2.f2),V I ((rd_T77 l0 x4_3).f2.f3)]] ?_;(with_reducible refine(impl_AddToBand.calls k3 x5_3 x6_3 _ _ x7_3 _ _ x8_3 _ _ ((rd_T77 l0 x4_3).f0) ((rd_T77 l0 x4_3).f1) ((rd_T77 l0 x4_3).f2.f0) ((rd_T77 l0 x4_3).f2.f1) ((rd_T77 l0 x4_3).f2.f2) ((rd_T77 l0 x4_3).f2.f3) t7 t8 t9 t10 t11 _ ?side1 ?side2 ?side3 ?side4 ?side5 ?side6 A3.out).mono ?_);(case side1=>refine(Kd.N_reads' (e:=39) (base:=w.heap.size) (ok:=fun k_=>(((w.heap.size≤k_)∧(qm k_ u6∧(qn k_ Ao4 x8_3.length co4∧k_≠gb1)))∧k_≠gb2)) (n:=x7_3.length) (c:=co3) ?_).2.2;exact(by(with_reducible repeat(first|apply Kd.N_alloc|apply Kd.N_drewN|apply Kd.N_drew));exact(Kd.N_mono (Kd.N_far (p:=⟨gb2,5,none⟩) (Kd.N_far (p:=⟨gb2,4,none⟩) (Kd.N_far (p:=⟨gb2,3,none⟩) (Kd.N_far (p:=⟨gb2,2,none⟩) (Kd.N_far (p:=⟨gb2,1,none⟩) (Kd.N_far (p:=⟨gb2,0,none⟩) (Kd.N_mono HO_2.out (fun k_ hk=>(⟨hk,hk.2⟩:_∧k_≠gb2))) (fun _ hk=>hk.2) (L A4_0 ((rd_T77 l0 x4_3).f0).length c6_0)) (fun _ hk=>hk.2) (V I ((rd_T77 l0 x4_3).f1))) (fun _ hk=>hk.2) (V I ((rd_T77 l0 x4_3).f2.f0))) (fun _ hk=>hk.2) (V I ((rd_T77 l0 x4_3).f2.f1))) (fun _ hk=>hk.2) (V I ((rd_T77 l0 x4_3).f2.f2))) (fun _ hk=>hk.2) (V I ((rd_T77 l0 x4_3).f2.f3))) (fun _ h_=>h_.1))));(case side2=>exact(Kd.N_reads' HO_2.out).2.1);(case side3=>refine(Kd.N_reads' (e:=77) (base:=w.heap.size) (ok:=fun k_=>(((w.heap.size≤k_)∧(qm k_ u6∧(qn k_ Ao3 x7_3.length co3∧k_≠gb1)))∧k_≠gb2)) (n:=x8_3.length) (c:=co4) ?_).2.2;exact(by(with_reducible repeat(first|apply Kd.N_alloc|apply Kd.N_drewN|apply Kd.N_drew));exact(Kd.N_mono (Kd.N_far (p:=⟨gb2,5,none⟩) (Kd.N_far (p:=⟨gb2,4,none⟩) (Kd.N_far (p:=⟨gb2,3,none⟩) (Kd.N_far (p:=⟨gb2,2,none⟩) (Kd.N_far (p:=⟨gb2,1,none⟩) (Kd.N_far (p:=⟨gb2,0,none⟩) (Kd.N_mono HO_3.out (fun k_ hk=>(⟨hk,hk.2⟩:_∧k_≠gb2))) (fun _ hk=>hk.2) (L A4_0 ((rd_T77 l0 x4_3).f0).length c6_0)) (fun _ hk=>hk.2) (V I ((rd_T77 l0 x4_3).f1))) (fun _ hk=>hk.2) (V I ((rd_T77 l0 x4_3).f2.f0))) (fun _ hk=>hk.2) (V I ((rd_T77 l0 x4_3).f2.f1))) (fun _ hk=>hk.2) (V I ((rd_T77 l0 x4_3).f2.f2))) (fun _ hk=>hk.2) (V I ((rd_T77 l0 x4_3).f2.f3))) (fun _ h_=>h_.1))));(case side4=>exact(Kd.N_reads' HO_3.out).2.1);(case side5=>exact Kd.C_below HR2_0.out uB);(case side6=>exact HC3_0.out);rintro e w4 ⟨v3,v4,rfl,ho1,ho2,hb⟩;refine⟨_,rfl,?_⟩;have HO3:=C (Kd.N_lower (Kd.N_mono (ok':=fun k_=>(w.heap.size≤k_)∧qm k_ v4∧qm k_ u6∧qn k_ Ao3 x7_3.length co3∧qn k_ Ao4 x8_3.length co4∧k_≠gb1∧k_≠gb2) (Kd.S_N (Kd.S_bound (Kd.S_apart' ho1 (Kd.S_typed ho2) (by decide)))) (fun k_ hk_=>⟨(Nat.le_trans (below_size uB) hk_.2.1),hk_.1.2,(Kd.fresh' (Kd.N_lt (by(with_reducible repeat(first|apply Kd.N_alloc|apply Kd.N_drewN|apply Kd.N_drew));exact(Kd.N_mono (Kd.N_far (p:=⟨gb2,5,none⟩) (Kd.N_far (p:=⟨gb2,4,none⟩) (Kd.N_far (p:=⟨gb2,3,none⟩) (Kd.N_far (p:=⟨gb2,2,none⟩) (Kd.N_far (p:=⟨gb2,1,none⟩) (Kd.N_far (p:=⟨gb2,0,none⟩) (Kd.N_mono HO_1.out (fun k_ hk=>(⟨hk,hk.2⟩:_∧k_≠gb2))) (fun _ hk=>hk.2) (L A4_0 ((rd_T77 l0 x4_3).f0).length c6_0)) (fun _ hk=>hk.2) (V I ((rd_T77 l0 x4_3).f1))) (fun _ hk=>hk.2) (V I ((rd_T77 l0 x4_3).f2.f0))) (fun _ hk=>hk.2) (V I ((rd_T77 l0 x4_3).f2.f1))) (fun _ hk=>hk.2) (V I ((rd_T77 l0 x4_3).f2.f2))) (fun _ hk=>hk.2) (V I ((rd_T77 l0 x4_3).f2.f3))) (fun _ h_=>h_.1)))) k_ hk_.2.1),(Kd.fresh' (Kd.N_lt (by(with_reducible repeat(first|apply Kd.N_alloc|apply Kd.N_drewN|apply Kd.N_drew));exact(Kd.N_mono (Kd.N_far (p:=⟨gb2,5,none⟩) (Kd.N_far (p:=⟨gb2,4,none⟩) (Kd.N_far (p:=⟨gb2,3,none⟩) (Kd.N_far (p:=⟨gb2,2,none⟩) (Kd.N_far (p:=⟨gb2,1,none⟩) (Kd.N_far (p:=⟨gb2,0,none⟩) (Kd.N_mono HO_2.out (fun k_ hk=>(⟨hk,hk.2⟩:_∧k_≠gb2))) (fun _ hk=>hk.2) (L A4_0 ((rd_T77 l0 x4_3).f0).length c6_0)) (fun _ hk=>hk.2) (V I ((rd_T77 l0 x4_3).f1))) (fun _ hk=>hk.2) (V I ((rd_T77 l0 x4_3).f2.f0))) (fun _ hk=>hk.2) (V I ((rd_T77 l0 x4_3).f2.f1))) (fun _ hk=>hk.2) (V I ((rd_T77 l0 x4_3).f2.f2))) (fun _ hk=>hk.2) (V I ((rd_T77 l0 x4_3).f2.f3))) (fun _ h_=>h_.1)))) k_ hk_.2.1),(Kd.fresh' (Kd.N_lt (by(with_reducible repeat(first|apply Kd.N_alloc|apply Kd.N_drewN|apply Kd.N_drew));exact(Kd.N_mono (Kd.N_far (p:=⟨gb2,5,none⟩) (Kd.N_far (p:=⟨gb2,4,none⟩) (Kd.N_far (p:=⟨gb2,3,none⟩) (Kd.N_far (p:=⟨gb2,2,none⟩) (Kd.N_far (p:=⟨gb2,1,none⟩) (Kd.N_far (p:=⟨gb2,0,none⟩) (Kd.N_mono HO_3.out (fun k_ hk=>(⟨hk,hk.2⟩:_∧k_≠gb2))) (fun _ hk=>hk.2) (L A4_0 ((rd_T77 l0 x4_3).f0).length c6_0)) (fun _ hk=>hk.2) (V I ((rd_T77 l0 x4_3).f1))) (fun _ hk=>hk.2) (V I ((rd_T77 l0 x4_3).f2.f0))) (fun _ hk=>hk.2) (V I ((rd_T77 l0 x4_3).f2.f1))) (fun _ hk=>hk.2) (V I ((rd_T77 l0 x4_3).f2.f2))) (fun _ hk=>hk.2) (V I ((rd_T77 l0 x4_3).f2.f3))) (fun _ h_=>h_.1)))) k_ hk_.2.1),(Kd.freshB (g:=gb1) (o:=.cells #[V I x5_3,V I x6_3,L Ao3 x7_3.length co3,L Ao4 x8_3.length co4] 70 (0,0)) (bK BK1.out) k_ hk_.2.1),(Kd.freshB (g:=gb2) (o:=.cells #[L A4_0 ((rd_T77 l0 x4_3).f0).length c6_0,V I ((rd_T77 l0 x4_3).f1),V I ((rd_T77 l0 x4_3).f2.f0),V I ((rd_T77 l0 x4_3).f2.f1),V I ((rd_T77 l0 x4_3).f2.f2),V I ((rd_T77 l0 x4_3).f2.f3)] 77 (0,0)) (bK BK2.out) k_ hk_.2.1)⟩)) (below_size uB));have HO4:=C (Kd.N_lower (Kd.N_mono (ok':=fun k_=>(w.heap.size≤k_)∧qm k_ v3∧qm k_ u6∧qn k_ Ao3 x7_3.length co3∧qn k_ Ao4 x8_3.length co4∧k_≠gb1∧k_≠gb2) (Kd.S_N (Kd.S_bound (Kd.S_apart' ho2 (Kd.S_typed ho1) (by decide)))) (fun k_ hk_=>⟨(Nat.le_trans (below_size uB) hk_.2.1),hk_.1.2,(Kd.fresh' (Kd.N_lt (by(with_reducible repeat(first|apply Kd.N_alloc|apply Kd.N_drewN|apply Kd.N_drew));exact(Kd.N_mono (Kd.N_far (p:=⟨gb2,5,none⟩) (Kd.N_far (p:=⟨gb2,4,none⟩) (Kd.N_far (p:=⟨gb2,3,none⟩) (Kd.N_far (p:=⟨gb2,2,none⟩) (Kd.N_far (p:=⟨gb2,1,none⟩) (Kd.N_far (p:=⟨gb2,0,none⟩) (Kd.N_mono HO_1.out (fun k_ hk=>(⟨hk,hk.2⟩:_∧k_≠gb2))) (fun _ hk=>hk.2) (L A4_0 ((rd_T77 l0 x4_3).f0).length c6_0)) (fun _ hk=>hk.2) (V I ((rd_T77 l0 x4_3).f1))) (fun _ hk=>hk.2) (V I ((rd_T77 l0 x4_3).f2.f0))) (fun _ hk=>hk.2) (V I ((rd_T77 l0 x4_3).f2.f1))) (fun _ hk=>hk.2) (V I ((rd_T77 l0 x4_3).f2.f2))) (fun _ hk=>hk.2) (V I ((rd_T77 l0 x4_3).f2.f3))) (fun _ h_=>h_.1)))) k_ hk_.2.1),(Kd.fresh' (Kd.N_lt (by(with_reducible repeat(first|apply Kd.N_alloc|apply Kd.N_drewN|apply Kd.N_drew));exact(Kd.N_mono (Kd.N_far (p:=⟨gb2,5,none⟩) (Kd.N_far (p:=⟨gb2,4,none⟩) (Kd.N_far (p:=⟨gb2,3,none⟩) (Kd.N_far (p:=⟨gb2,2,none⟩) (Kd.N_far (p:=⟨gb2,1,none⟩) (Kd.N_far (p:=⟨gb2,0,none⟩) (Kd.N_mono HO_2.out (fun k_ hk=>(⟨hk,hk.2⟩:_∧k_≠gb2))) (fun _ hk=>hk.2) (L A4_0 ((rd_T77 l0 x4_3).f0).length c6_0)) (fun _ hk=>hk.2) (V I ((rd_T77 l0 x4_3).f1))) (fun _ hk=>hk.2) (V I ((rd_T77 l0 x4_3).f2.f0))) (fun _ hk=>hk.2) (V I ((rd_T77 l0 x4_3).f2.f1))) (fun _ hk=>hk.2) (V I ((rd_T77 l0 x4_3).f2.f2))) (fun _ hk=>hk.2) (V I ((rd_T77 l0 x4_3).f2.f3))) (fun _ h_=>h_.1)))) k_ hk_.2.1),(Kd.fresh' (Kd.N_lt (by(with_reducible repeat(first|apply Kd.N_alloc|apply Kd.N_drewN|apply Kd.N_drew));exact(Kd.N_mono (Kd.N_far (p:=⟨gb2,5,none⟩) (Kd.N_far (p:=⟨gb2,4,none⟩) (Kd.N_far (p:=⟨gb2,3,none⟩) (Kd.N_far (p:=⟨gb2,2,none⟩) (Kd.N_far (p:=⟨gb2,1,none⟩) (Kd.N_far (p:=⟨gb2,0,none⟩) (Kd.N_mono HO_3.out (fun k_ hk=>(⟨hk,hk.2⟩:_∧k_≠gb2))) (fun _ hk=>hk.2) (L A4_0 ((rd_T77 l0 x4_3).f0).length c6_0)) (fun _ hk=>hk.2) (V I ((rd_T77 l0 x4_3).f1))) (fun _ hk=>hk.2) (V I ((rd_T77 l0 x4_3).f2.f0))) (fun _ hk=>hk.2) (V I ((rd_T77 l0 x4_3).f2.f1))) (fun _ hk=>hk.2) (V I ((rd_T77 l0 x4_3).f2.f2))) (fun _ hk=>hk.2) (V I ((rd_T77 l0 x4_3).f2.f3))) (fun _ h_=>h_.1)))) k_ hk_.2.1),(Kd.freshB (g:=gb1) (o:=.cells #[V I x5_3,V I x6_3,L Ao3 x7_3.length co3,L Ao4 x8_3.length co4] 70 (0,0)) (bK BK1.out) k_ hk_.2.1),(Kd.freshB (g:=gb2) (o:=.cells #[L A4_0 ((rd_T77 l0 x4_3).f0).length c6_0,V I ((rd_T77 l0 x4_3).f1),V I ((rd_T77 l0 x4_3).f2.f0),V I ((rd_T77 l0 x4_3).f2.f1),V I ((rd_T77 l0 x4_3).f2.f2),V I ((rd_T77 l0 x4_3).f2.f3)] 77 (0,0)) (bK BK2.out) k_ hk_.2.1)⟩)) (below_size uB));replace HO_1:=C (Kd.N_mono (Kd.N_told (Kd.N_told (Kd.N_old (by(with_reducible repeat(first|apply Kd.N_alloc|apply Kd.N_drewN|apply Kd.N_drew));exact(Kd.N_mono (Kd.N_far (p:=⟨gb2,5,none⟩) (Kd.N_far (p:=⟨gb2,4,none⟩) (Kd.N_far (p:=⟨gb2,3,none⟩) (Kd.N_far (p:=⟨gb2,2,none⟩) (Kd.N_far (p:=⟨gb2,1,none⟩) (Kd.N_far (p:=⟨gb2,0,none⟩) (Kd.N_mono HO_1.out (fun k_ hk=>(⟨hk,hk.2⟩:_∧k_≠gb2))) (fun _ hk=>hk.2) (L A4_0 ((rd_T77 l0 x4_3).f0).length c6_0)) (fun _ hk=>hk.2) (V I ((rd_T77 l0 x4_3).f1))) (fun _ hk=>hk.2) (V I ((rd_T77 l0 x4_3).f2.f0))) (fun _ hk=>hk.2) (V I ((rd_T77 l0 x4_3).f2.f1))) (fun _ hk=>hk.2) (V I ((rd_T77 l0 x4_3).f2.f2))) (fun _ hk=>hk.2) (V I ((rd_T77 l0 x4_3).f2.f3))) (fun _ h_=>h_.1))) hb) (Kd.S_base ho1)) (Kd.S_base ho2)) (fun _ h_=>h_.1));replace HO_2:=C (Kd.N_mono (Kd.N_told (Kd.N_told (Kd.N_old (by(with_reducible repeat(first|apply Kd.N_alloc|apply Kd.N_drewN|apply Kd.N_drew));exact(Kd.N_mono (Kd.N_far (p:=⟨gb2,5,none⟩) (Kd.N_far (p:=⟨gb2,4,none⟩) (Kd.N_far (p:=⟨gb2,3,none⟩) (Kd.N_far (p:=⟨gb2,2,none⟩) (Kd.N_far (p:=⟨gb2,1,none⟩) (Kd.N_far (p:=⟨gb2,0,none⟩) (Kd.N_mono HO_2.out (fun k_ hk=>(⟨hk,hk.2⟩:_∧k_≠gb2))) (fun _ hk=>hk.2) (L A4_0 ((rd_T77 l0 x4_3).f0).length c6_0)) (fun _ hk=>hk.2) (V I ((rd_T77 l0 x4_3).f1))) (fun _ hk=>hk.2) (V I ((rd_T77 l0 x4_3).f2.f0))) (fun _ hk=>hk.2) (V I ((rd_T77 l0 x4_3).f2.f1))) (fun _ hk=>hk.2) (V I ((rd_T77 l0 x4_3).f2.f2))) (fun _ hk=>hk.2) (V I ((rd_T77 l0 x4_3).f2.f3))) (fun _ h_=>h_.1))) hb) (Kd.S_base ho1)) (Kd.S_base ho2)) (fun _ h_=>h_.1));replace HO_3:=C (Kd.N_mono (Kd.N_told (Kd.N_told (Kd.N_old (by(with_reducible repeat(first|apply Kd.N_alloc|apply Kd.N_drewN|apply Kd.N_drew));exact(Kd.N_mono (Kd.N_far (p:=⟨gb2,5,none⟩) (Kd.N_far (p:=⟨gb2,4,none⟩) (Kd.N_far (p:=⟨gb2,3,none⟩) (Kd.N_far (p:=⟨gb2,2,none⟩) (Kd.N_far (p:=⟨gb2,1,none⟩) (Kd.N_far (p:=⟨gb2,0,none⟩) (Kd.N_mono HO_3.out (fun k_ hk=>(⟨hk,hk.2⟩:_∧k_≠gb2))) (fun _ hk=>hk.2) (L A4_0 ((rd_T77 l0 x4_3).f0).length c6_0)) (fun _ hk=>hk.2) (V I ((rd_T77 l0 x4_3).f1))) (fun _ hk=>hk.2) (V I ((rd_T77 l0 x4_3).f2.f0))) (fun _ hk=>hk.2) (V I ((rd_T77 l0 x4_3).f2.f1))) (fun _ hk=>hk.2) (V I ((rd_T77 l0 x4_3).f2.f2))) (fun _ hk=>hk.2) (V I ((rd_T77 l0 x4_3).f2.f3))) (fun _ h_=>h_.1))) hb) (Kd.S_base ho1)) (Kd.S_base ho2)) (fun _ h_=>h_.1));replace BK1:=eK BK1 hb;replace BK2:=C (blk_below (g:=gb2) (o:=.cells #[L A4_0 ((rd_T77 l0 x4_3).f0).length c6_0,V I ((rd_T77 l0 x4_3).f1),V I ((rd_T77 l0 x4_3).f2.f0),V I ((rd_T77 l0 x4_3).f2.f1),V I ((rd_T77 l0 x4_3).f2.f2),V I ((rd_T77 l0 x4_3).f2.f3)] 77 (0,0)) (bK BK2.out) hb);replace HB:=eB hb;clear hb ho1 ho2;obtain⟨_,_,_,_,_,_,_,_⟩:=d4 BK1.out;obtain⟨Ao5,co5,eo5⟩:=Kd.N_slice HO3.out;subst eo5;obtain⟨Ao6,co6,eo6⟩:=Kd.N_slice HO4.out;subst eo6)|((with_reducible refine F (f:=66) rfl ?_);refine gl 66 (some 54) func66 #[.agg #[V I x5_3,V I x6_3,L Ao3 x7_3.length co3,L Ao4 x8_3.length co4]] ?_;(with_reducible refine(impl_RowsOfBand.calls k3 x5_3 x6_3 _ _ x7_3 _ _ x8_3 t7 _ ?side1 ?side2 ?side3 ?side4 A3.out).mono ?_);(case side1=>exact uC (Kd.N_reads' HO_2.out).2.2);(case side2=>exact(Kd.N_reads' HO_2.out).2.1);(case side3=>exact uC (Kd.N_reads' HO_3.out).2.2);(case side4=>exact(Kd.N_reads' HO_3.out).2.1);rintro e w3 ⟨v3,rfl,ho1,hb⟩;refine⟨_,rfl,?_⟩;have HO3:=C (Kd.N_lower (Kd.N_mono (ok':=fun k_=>(w.heap.size≤k_)∧qm k_ u6∧qn k_ Ao3 x7_3.length co3∧qn k_ Ao4 x8_3.length co4∧k_≠gb1) (Kd.S_N (Kd.S_bound ho1)) (fun k_ hk_=>⟨(Nat.le_trans (below_size uB) hk_.2.1),(Kd.fresh' (Kd.N_lt (by(with_reducible repeat(first|apply Kd.N_alloc|apply Kd.N_drewN|apply Kd.N_drew));exact HO_1.out)) k_ hk_.2.1),(Kd.fresh' (Kd.N_lt (by(with_reducible repeat(first|apply Kd.N_alloc|apply Kd.N_drewN|apply Kd.N_drew));exact HO_2.out)) k_ hk_.2.1),(Kd.fresh' (Kd.N_lt (by(with_reducible repeat(first|apply Kd.N_alloc|apply Kd.N_drewN|apply Kd.N_drew));exact HO_3.out)) k_ hk_.2.1),(Kd.freshB (g:=gb1) (o:=.cells #[V I x5_3,V I x6_3,L Ao3 x7_3.length co3,L Ao4 x8_3.length co4] 70 (0,0)) (uK BK1.out) k_ hk_.2.1)⟩)) (below_size uB));replace HO_1:=C (Kd.N_elder' (by(with_reducible repeat(first|apply Kd.N_alloc|apply Kd.N_drewN|apply Kd.N_drew));exact HO_1.out) (Kd.S_base ho1) hb);replace HO_2:=C (Kd.N_elder' (by(with_reducible repeat(first|apply Kd.N_alloc|apply Kd.N_drewN|apply Kd.N_drew));exact HO_2.out) (Kd.S_base ho1) hb);replace HO_3:=C (Kd.N_elder' (by(with_reducible repeat(first|apply Kd.N_alloc|apply Kd.N_drewN|apply Kd.N_drew));exact HO_3.out) (Kd.S_base ho1) hb);replace BK1:=eK BK1 hb;replace HB:=eB hb;clear hb ho1;obtain⟨Ao5,co5,eo5⟩:=Kd.N_slice HO3.out;subst eo5)|((with_reducible refine F (f:=65) rfl ?_);refine gl 65 (some 55) func65 #[L Ao5 t7.length co5] ?_;(with_reducible refine(impl_PackRows.calls k3 _ _ t7 t8 _ ?side1 ?side2 A4.out).mono ?_);(case side1=>exact uC (Kd.N_reads' HO3.out).2.2);(case side2=>exact(Kd.N_reads' HO3.out).2.1);rintro e w4 ⟨v4,rfl,ho1,hb⟩;refine⟨_,rfl,?_⟩;have HO4:=C (Kd.N_lower (Kd.N_mono (ok':=fun k_=>(w.heap.size≤k_)∧qm k_ u6∧qn k_ Ao3 x7_3.length co3∧qn k_ Ao4 x8_3.length co4∧qn k_ Ao5 t7.length co5∧k_≠gb1) (Kd.S_N (Kd.S_bound ho1)) (fun k_ hk_=>⟨(Nat.le_trans (below_size uB) hk_.2.1),(Kd.fresh' (Kd.N_lt (by(with_reducible repeat(first|apply Kd.N_alloc|apply Kd.N_drewN|apply Kd.N_drew));exact HO_1.out)) k_ hk_.2.1),(Kd.fresh' (Kd.N_lt (by(with_reducible repeat(first|apply Kd.N_alloc|apply Kd.N_drewN|apply Kd.N_drew));exact HO_2.out)) k_ hk_.2.1),(Kd.fresh' (Kd.N_lt (by(with_reducible repeat(first|apply Kd.N_alloc|apply Kd.N_drewN|apply Kd.N_drew));exact HO_3.out)) k_ hk_.2.1),(Kd.fresh' (Kd.N_lt (by(with_reducible repeat(first|apply Kd.N_alloc|apply Kd.N_drewN|apply Kd.N_drew));exact HO3.out)) k_ hk_.2.1),(Kd.freshB (g:=gb1) (o:=.cells #[V I x5_3,V I x6_3,L Ao3 x7_3.length co3,L Ao4 x8_3.length co4] 70 (0,0)) (uK BK1.out) k_ hk_.2.1)⟩)) (below_size uB));replace HO_1:=C (Kd.N_elder' (by(with_reducible repeat(first|apply Kd.N_alloc|apply Kd.N_drewN|apply Kd.N_drew));exact HO_1.out) (Kd.S_base ho1) hb);replace HO_2:=C (Kd.N_elder' (by(with_reducible repeat(first|apply Kd.N_alloc|apply Kd.N_drewN|apply Kd.N_drew));exact HO_2.out) (Kd.S_base ho1) hb);replace HO_3:=C (Kd.N_elder' (by(with_reducible repeat(first|apply Kd.N_alloc|apply Kd.N_drewN|apply Kd.N_drew));exact HO_3.out) (Kd.S_base ho1) hb);replace HO3:=C (Kd.N_elder' (by(with_reducible repeat(first|apply Kd.N_alloc|apply Kd.N_drewN|apply Kd.N_drew));exact HO3.out) (Kd.S_base ho1) hb);replace BK1:=eK BK1 hb;replace HB:=eB hb;clear hb ho1;obtain⟨Ao6,co6,eo6⟩:=Kd.N_slice HO4.out;subst eo6)|((with_reducible refine F (f:=64) rfl ?_);refine gl 64 (some 56) func64 #[L Ao6 t8.length co6] ?_;(with_reducible refine(impl_UnpackRows.calls k3 _ _ t8 t9 t10 _ ?side1 ?side2 A5.out).mono ?_);(case side1=>exact uC (Kd.N_reads' HO4.out).2.2);(case side2=>exact(Kd.N_reads' HO4.out).2.1);rintro e w5 ⟨v5,rfl,ho1,hb⟩;refine⟨_,rfl,?_⟩;have HO5:=C (Kd.N_lower (Kd.N_mono (ok':=fun k_=>(w.heap.size≤k_)∧qm k_ u6∧qn k_ Ao3 x7_3.length co3∧qn k_ Ao4 x8_3.length co4∧qn k_ Ao5 t7.length co5∧qn k_ Ao6 t8.length co6∧k_≠gb1) (Kd.S_N (Kd.S_bound ho1)) (fun k_ hk_=>⟨(Nat.le_trans (below_size uB) hk_.2.1),(Kd.fresh' (Kd.N_lt (by(with_reducible repeat(first|apply Kd.N_alloc|apply Kd.N_drewN|apply Kd.N_drew));exact HO_1.out)) k_ hk_.2.1),(Kd.fresh' (Kd.N_lt (by(with_reducible repeat(first|apply Kd.N_alloc|apply Kd.N_drewN|apply Kd.N_drew));exact HO_2.out)) k_ hk_.2.1),(Kd.fresh' (Kd.N_lt (by(with_reducible repeat(first|apply Kd.N_alloc|apply Kd.N_drewN|apply Kd.N_drew));exact HO_3.out)) k_ hk_.2.1),(Kd.fresh' (Kd.N_lt (by(with_reducible repeat(first|apply Kd.N_alloc|apply Kd.N_drewN|apply Kd.N_drew));exact HO3.out)) k_ hk_.2.1),(Kd.fresh' (Kd.N_lt (by(with_reducible repeat(first|apply Kd.N_alloc|apply Kd.N_drewN|apply Kd.N_drew));exact HO4.out)) k_ hk_.2.1),(Kd.freshB (g:=gb1) (o:=.cells #[V I x5_3,V I x6_3,L Ao3 x7_3.length co3,L Ao4 x8_3.length co4] 70 (0,0)) (uK BK1.out) k_ hk_.2.1)⟩)) (below_size uB));replace HO_1:=C (Kd.N_elder' (by(with_reducible repeat(first|apply Kd.N_alloc|apply Kd.N_drewN|apply Kd.N_drew));exact HO_1.out) (Kd.S_base ho1) hb);replace HO_2:=C (Kd.N_elder' (by(with_reducible repeat(first|apply Kd.N_alloc|apply Kd.N_drewN|apply Kd.N_drew));exact HO_2.out) (Kd.S_base ho1) hb);replace HO_3:=C (Kd.N_elder' (by(with_reducible repeat(first|apply Kd.N_alloc|apply Kd.N_drewN|apply Kd.N_drew));exact HO_3.out) (Kd.S_base ho1) hb);replace HO3:=C (Kd.N_elder' (by(with_reducible repeat(first|apply Kd.N_alloc|apply Kd.N_drewN|apply Kd.N_drew));exact HO3.out) (Kd.S_base ho1) hb);replace HO4:=C (Kd.N_elder' (by(with_reducible repeat(first|apply Kd.N_alloc|apply Kd.N_drewN|apply Kd.N_drew));exact HO4.out) (Kd.S_base ho1) hb);replace BK1:=eK BK1 hb;replace HB:=eB hb;clear hb ho1;obtain⟨Ao7,co7,eo7⟩:=Kd.N_slice HO5.out;subst eo7)|((with_reducible refine gate_builtin (b:=.append) (xs:= #[.tmp 59,.tmp 60]) rfl ?_);at_builtin;refine Kd.N_append_rows (Kd.slice 3 (Kd.int .i64)) (w0:=w) w.heap.size rfl (.tmp 59) (.tmp 60) 22 39 (L none 0 0) 24 rfl underlying22 info39 rfl (by decide) (by omega) u6 x2_2 t9 _ _ _ (fun k_=>(w.heap.size≤k_)∧qn k_ Ao3 x7_3.length co3∧qn k_ Ao4 x8_3.length co4∧qn k_ Ao5 t7.length co5∧qn k_ Ao6 t8.length co6∧k_≠gb1) (fun k_=>((fun k_=>(w.heap.size≤k_)∧qn k_ Ao3 x7_3.length co3∧qn k_ Ao4 x8_3.length co4∧qn k_ Ao5 t7.length co5∧qn k_ Ao6 t8.length co6∧k_≠gb1)) k_∧qm k_ u6) rfl rfl ?aO ?aR (fun _ hk=>hk) ?aF ?aB ?aS ?aL ?_;(case aR=>exact(by skip;exact Kd.N_F (Kd.N_mono (ok':=(fun k_=>((fun k_=>(w.heap.size≤k_)∧qn k_ Ao3 x7_3.length co3∧qn k_ Ao4 x8_3.length co4∧qn k_ Ao5 t7.length co5∧qn k_ Ao6 t8.length co6∧k_≠gb1)) k_∧qm k_ u6)) (HO5.out) (fun k_ hk=>⟨⟨hk.1,⟨hk.2.2.1,⟨hk.2.2.2.1,⟨hk.2.2.2.2.1,⟨hk.2.2.2.2.2.1,hk.2.2.2.2.2.2⟩⟩⟩⟩⟩,hk.2.1⟩))));(case aB=>exact uB);(case aF=>exact(fun k_ hk=>⟨(Nat.le_trans (below_size uB) hk),Kd.fresh' (Kd.N_lt (by(with_reducible repeat(first|apply Kd.N_alloc|apply Kd.N_drewN|apply Kd.N_drew));exact HO_2.out)) k_ hk,Kd.fresh' (Kd.N_lt (by(with_reducible repeat(first|apply Kd.N_alloc|apply Kd.N_drewN|apply Kd.N_drew));exact HO_3.out)) k_ hk,Kd.fresh' (Kd.N_lt (by(with_reducible repeat(first|apply Kd.N_alloc|apply Kd.N_drewN|apply Kd.N_drew));exact HO3.out)) k_ hk,Kd.fresh' (Kd.N_lt (by(with_reducible repeat(first|apply Kd.N_alloc|apply Kd.N_drewN|apply Kd.N_drew));exact HO4.out)) k_ hk,Kd.freshB (g:=gb1) (o:=.cells #[V I x5_3,V I x6_3,L Ao3 x7_3.length co3,L Ao4 x8_3.length co4] 70 (0,0)) (uK BK1.out) k_ hk⟩));(case aO=>exact(by(with_reducible repeat(first|apply Kd.N_alloc|apply Kd.N_drewN|apply Kd.N_drew));exact Kd.N_mono HO_1.out pj));(case aS=>exact(below_size uB));(case aL=>have:=LMc1.out;omega);intro v8 w6 ho hb hg hat;rw[←Ny1.out]at ho;have HO6:=C (ho);replace HO_2:=C (Kd.N_afterv (ok:=(fun k_=>(w.heap.size≤k_)∧qn k_ Ao4 x8_3.length co4∧qn k_ Ao5 t7.length co5∧qn k_ Ao6 t8.length co6∧qn k_ Ao7 t9.length co7∧k_≠gb1)) (by(with_reducible repeat(first|apply Kd.N_alloc|apply Kd.N_drewN|apply Kd.N_drew));exact Kd.N_mono HO_2.out (fun _ hk=>⟨⟨hk.1.1.1.1,⟨hk.1.1.1.2.2.1,⟨hk.1.1.2,⟨hk.1.2,⟨hk.2,hk.1.1.1.2.2.2⟩⟩⟩⟩⟩,hk.1.1.1.2.1⟩)) hg hat);replace HO_3:=C (Kd.N_afterv (ok:=(fun k_=>(w.heap.size≤k_)∧qn k_ Ao3 x7_3.length co3∧qn k_ Ao5 t7.length co5∧qn k_ Ao6 t8.length co6∧qn k_ Ao7 t9.length co7∧k_≠gb1)) (by(with_reducible repeat(first|apply Kd.N_alloc|apply Kd.N_drewN|apply Kd.N_drew));exact Kd.N_mono HO_3.out (fun _ hk=>⟨⟨hk.1.1.1.1,⟨hk.1.1.1.2.2.1,⟨hk.1.1.2,⟨hk.1.2,⟨hk.2,hk.1.1.1.2.2.2⟩⟩⟩⟩⟩,hk.1.1.1.2.1⟩)) hg hat);replace BK1:=gK BK1 hg (Kd.N_ne HO_1.out BK1.out (by decide));replace HO3:=C (Kd.N_afterv (ok:=(fun k_=>(w.heap.size≤k_)∧qn k_ Ao3 x7_3.length co3∧qn k_ Ao4 x8_3.length co4∧qn k_ Ao6 t8.length co6∧qn k_ Ao7 t9.length co7∧k_≠gb1)) (by(with_reducible repeat(first|apply Kd.N_alloc|apply Kd.N_drewN|apply Kd.N_drew));exact Kd.N_mono HO3.out (fun _ hk=>⟨⟨hk.1.1.1,⟨hk.1.1.2.2.1,⟨hk.1.1.2.2.2.1,⟨hk.1.2,⟨hk.2,hk.1.1.2.2.2.2⟩⟩⟩⟩⟩,hk.1.1.2.1⟩)) hg hat);replace HO4:=C (Kd.N_afterv (ok:=(fun k_=>(w.heap.size≤k_)∧qn k_ Ao3 x7_3.length co3∧qn k_ Ao4 x8_3.length co4∧qn k_ Ao5 t7.length co5∧qn k_ Ao7 t9.length co7∧k_≠gb1)) (by(with_reducible repeat(first|apply Kd.N_alloc|apply Kd.N_drewN|apply Kd.N_drew));exact Kd.N_mono HO4.out (fun _ hk=>⟨⟨hk.1.1,⟨hk.1.2.2.1,⟨hk.1.2.2.2.1,⟨hk.1.2.2.2.2.1,⟨hk.2,hk.1.2.2.2.2.2⟩⟩⟩⟩⟩,hk.1.2.1⟩)) hg hat);replace HO5:=C (Kd.N_afterv (ok:=(fun k_=>(w.heap.size≤k_)∧qn k_ Ao3 x7_3.length co3∧qn k_ Ao4 x8_3.length co4∧qn k_ Ao5 t7.length co5∧qn k_ Ao6 t8.length co6∧k_≠gb1)) (by(with_reducible repeat(first|apply Kd.N_alloc|apply Kd.N_drewN|apply Kd.N_drew));exact Kd.N_mono HO5.out (fun _ hk=>⟨⟨hk.1,⟨hk.2.2.1,⟨hk.2.2.2.1,⟨hk.2.2.2.2.1,⟨hk.2.2.2.2.2.1,hk.2.2.2.2.2.2⟩⟩⟩⟩⟩,hk.2.1⟩)) hg hat);replace HB:=C (hb);clear HO_1;clear ho hb hg hat))
 go_roundg k3
 case measure=>have:=HJ1.out;have:=HK1.out;have:=HK2.out;omega
 first
  |(case rel=>exact⟨(wrap64 (x4_3+1)),(t7),(t8),(t9),(t10),(L Ao5 t9.length co5),(L Ao6 t10.length co6),rS,H',⟨by have:=HJ1.out;have:=HK1.out;have:=HK2.out;omega⟩,⟨by(with_reducible repeat(first|apply Kd.N_alloc|apply Kd.N_drewN|apply Kd.N_drew));exact Kd.N_mono (Kd.N_far (p:=⟨gb1,3,none⟩) (Kd.N_far (p:=⟨gb1,2,none⟩) (Kd.N_far (p:=⟨gb1,1,none⟩) (Kd.N_far (p:=⟨gb1,0,none⟩) (Kd.N_mono HO_1.out (fun k_ hk=>(⟨hk,hk.1.1.1.2.2.2⟩:_∧k_≠gb1))) (fun _ hk=>hk.2) (V I t7)) (fun _ hk=>hk.2) (V I t8)) (fun _ hk=>hk.2) (L Ao5 t9.length co5)) (fun _ hk=>hk.2) (L Ao6 t10.length co6)) pj⟩,⟨by(with_reducible repeat(first|apply Kd.N_alloc|apply Kd.N_drewN|apply Kd.N_drew));exact Kd.N_mono (Kd.N_far (p:=⟨gb1,3,none⟩) (Kd.N_far (p:=⟨gb1,2,none⟩) (Kd.N_far (p:=⟨gb1,1,none⟩) (Kd.N_far (p:=⟨gb1,0,none⟩) (Kd.N_mono HO3.out (fun k_ hk=>(⟨hk,hk.2.2.2.2.2.1⟩:_∧k_≠gb1))) (fun _ hk=>hk.2) (V I t7)) (fun _ hk=>hk.2) (V I t8)) (fun _ hk=>hk.2) (L Ao5 t9.length co5)) (fun _ hk=>hk.2) (L Ao6 t10.length co6)) pj⟩,⟨by(with_reducible repeat(first|apply Kd.N_alloc|apply Kd.N_drewN|apply Kd.N_drew));exact Kd.N_mono (Kd.N_far (p:=⟨gb1,3,none⟩) (Kd.N_far (p:=⟨gb1,2,none⟩) (Kd.N_far (p:=⟨gb1,1,none⟩) (Kd.N_far (p:=⟨gb1,0,none⟩) (Kd.N_mono HO4.out (fun k_ hk=>(⟨hk,hk.2.2.2.2.2.1⟩:_∧k_≠gb1))) (fun _ hk=>hk.2) (V I t7)) (fun _ hk=>hk.2) (V I t8)) (fun _ hk=>hk.2) (L Ao5 t9.length co5)) (fun _ hk=>hk.2) (L Ao6 t10.length co6)) pj⟩,⟨bK BK1.out⟩,⟨uB⟩⟩)
  |(case rel=>exact⟨(y1),(wrap64 (x3_2+1)),rS,H',⟨by have:=HJ1.out;have:=HK1.out;have:=HK2.out;omega⟩,⟨by(with_reducible repeat(first|apply Kd.N_alloc|apply Kd.N_drewN|apply Kd.N_drew));exact Kd.N_mono HO6.out (fun _ hk=>hk.1)⟩,⟨uB⟩⟩)):p:=h
theorem impl_PrintPage.calls (k:Nat) (A0:Option Addr) (c0:Nat) (l0:List (S77)) (a1:Int) (r1:List (List Int)) (r2:Bool) (w:World) (hr0:Kd.C k77 w A0 l0.length l0) (hc0:l0.length≤c0) (h:impl_PrintPage.f k l0 a1=some (r1,r2)):
 Calls prog 29 #[L A0 l0.length c0,V I a1] w fun e w'=>∃v0_:Value,e=.returned (.tuple #[v0_,.bool r2])∧Kd.N (Kd.slice 3 (Kd.int .i64)) 39 w' w.heap.size (fun k_=>(w.heap.size≤k_)) v0_ r1∧Below w.heap.size w w':=by
 have hu1:=underlying70
 have hu2:=underlying77
 have HR1:=C hr0
 have HC1:=C hc0
 (try clear hr0);(try clear hc0)
 have HB:=C (Below.refl w.heap.size w)
 have H:=h
 unfold impl_PrintPage.f at H
 clear h
 have HC2:=C H
 clear H
 go_enter func29,ntmps29
 go_upto_region 1 with(fail)
 go_cut [26] (fun v26 wc=>∃(kq:Nat) (x1_2:Bool),v26=.bool x1_2∧D (impl_PrintPage.j0 kq l0 a1 x1_2=some (r1,r2))∧D (kq≤k)∧D (Below w.heap.size w wc))
 case first=>
  have H:=HC2.out
  clear HC2
  by_cases c1:(l0.length:Int) >12
  ·rw[if_pos c1]at H
   have c1b0:decide (12<(l0.length:Int))=true:=decide_eq_true c1
   have c1b1:decide (12<l0.length)=true:=decide_eq_true (by omega)
   clear c1
   (first|rw[c1b0]|(simp only[i64_w,i32_w];rw[c1b0])|skip)
   have H':=C H
   clear H
   go_wp2
   go_meet
   case rel=>exact⟨_,(true),rS,H',⟨oL⟩,⟨uB⟩⟩
  rw[if_neg c1]at H
  have c1b0:decide (12<(l0.length:Int))=false:=decide_eq_false c1
  have c1b1:decide (12<l0.length)=false:=decide_eq_false (by omega)
  clear c1
  (first|rw[c1b0]|(simp only[i64_w,i32_w];rw[c1b0])|skip)
  obtain⟨t1,A1,H⟩:=bnd H
  by_cases c2:t1=true
  rotate_left
  ·obtain rfl:=nt c2
   replace H:=nf H
   have H':=C H
   clear H
   exact impl_PrintPage.W1
  subst c2
  rw[if_pos rfl]at H
  obtain⟨t2,A2,H⟩:=bnd H
  have H':=C H
  clear H
  exact impl_PrintPage.W1
 case rest=>
  clear HC2
  obtain⟨kq,x1_2,rfl,HA,HJ1,HB⟩:=hcut
  cases kq with
  |zero=>exact absurd HA.out (by simp[impl_PrintPage.j0])
  |succ kj2=>
   have H:=HA.out
   clear HA
   simp only[impl_PrintPage.j0]at H
   by_cases c1:x1_2=true
   ·subst c1
    rw[if_pos rfl]at H
    simp only[Option.some.injEq,Prod.mk.injEq]at H
    obtain⟨rfl,rfl⟩:=H
    go_wp2
    go_ret2
    exact⟨_,rE,by first|exact Kd.S_nil _ _ _ _ _|exact Kd.N_nil _ _ _ _ _|exact Kd.V_nil _ _ _ _ _|exact Kd.Q_nil _ _ _ _ _|exact Kd.R_nil _ _ _ _ _,uB⟩
   obtain rfl:=nt c1
   replace H:=nf H
   have H':=C H
   clear H
   go_wp2
   go_loopg [6,7] kj2 (fun kq v6 v7 w'=>∃(x2_2:List (List Int)) (x3_2:Int),v7=V I x3_2∧D (impl_PrintPage.l0 kq l0 a1 x2_2 x3_2=some (r1,r2))∧D (kq≤kj2)∧D (Kd.N (Kd.slice 3 (Kd.int .i64)) 39 w' w.heap.size (fun k_=>(w.heap.size≤k_)) v6 x2_2)∧D (Below w.heap.size w w'))
   case atStart=>exact⟨(([]:List (List Int))),(0),rS,H',⟨Nat.le_refl _⟩,⟨by first|exact Kd.S_nil _ _ _ _ _|exact Kd.N_nil _ _ _ _ _|exact Kd.V_nil _ _ _ _ _|exact Kd.Q_nil _ _ _ _ _|exact Kd.R_nil _ _ _ _ _⟩,⟨uB⟩⟩
   case round=>
    clear H'
    obtain⟨x2_2,x3_2,rfl,HA,HK1,HO_1,HB⟩:=hrel
    cases gk with
    |zero=>exact absurd HA.out (by simp[impl_PrintPage.l0])
    |succ k2=>
     have H:=HA.out
     clear HA
     simp only[impl_PrintPage.l0]at H
     obtain⟨t1,A1,H⟩:=bnd H
     by_cases c2:x3_2<t1
     rotate_left
     ·rw[if_neg c2]at H
      replace c2:=decide_eq_false c2
      simp only[Option.some.injEq,Prod.mk.injEq]at H
      obtain⟨rfl,rfl⟩:=H
      go_wp2_with (first|((with_reducible refine F (f:=61) rfl ?_);refine gl 61 (some 29) func61 #[V I a1] ?_;(with_reducible refine(impl_CountBands.calls a1 t1 _ A1.out).mono ?_);rintro e w' ⟨rfl,⟨nd,rfl⟩⟩;refine⟨_,rfl,?_⟩))
      go_ret2
      exact⟨_,rE,by(with_reducible repeat(first|apply Kd.N_alloc|apply Kd.N_drewN|apply Kd.N_drew));exact HO_1.out,uB⟩
     rw[if_pos c2]at H
     replace c2:=decide_eq_true c2
     obtain⟨⟨t2,t3,t4,t5,t6⟩,A2,H⟩:=bnd H
     dsimp only at H
     have H':=C H
     clear H
     go_wp2_with (first|((with_reducible refine F (f:=61) rfl ?_);refine gl 61 (some 29) func61 #[V I a1] ?_;(with_reducible refine(impl_CountBands.calls a1 t1 _ A1.out).mono ?_);rintro e w' ⟨rfl,⟨nd,rfl⟩⟩;refine⟨_,rfl,?_⟩;(try(rw[drewN_self wr];generalize hq_:World.drewN wr _=wr;have n0_:D (Kd.N (Kd.slice 3 (Kd.int .i64)) 39 wr w.heap.size (fun k_=>(w.heap.size≤k_)) u6 x2_2):=⟨by rw[←hq_];exact(by(with_reducible repeat(first|apply Kd.N_alloc|apply Kd.N_drewN|apply Kd.N_drew));exact HO_1.out)⟩;have n1_:D (Below w.heap.size w wr):=⟨by rw[←hq_];exact uB⟩;clear HO_1 HB hq_;have HO_1:=n0_;have HB:=n1_;clear n0_ n1_)))|((with_reducible refine F (f:=62) rfl ?_);refine gl 62 (some 36) func62 #[V I a1,V I x3_2] ?_;(with_reducible refine(impl_NewBand.calls k2 a1 x3_2 t2 t3 t4 t5 t6 _ A2.out).mono ?_);rintro e w1 ⟨v1,v2,rfl,ho1,ho2,hb⟩;refine⟨_,rfl,?_⟩;have HO1:=C (Kd.N_lower (Kd.N_mono (ok':=fun k_=>(w.heap.size≤k_)∧qm k_ v2∧qm k_ u6) (Kd.S_N (Kd.S_bound (Kd.S_apart' ho1 (Kd.S_typed ho2) (by decide)))) (fun k_ hk_=>⟨(Nat.le_trans (below_size uB) hk_.2.1),hk_.1.2,(Kd.fresh' (Kd.N_lt (by(with_reducible repeat(first|apply Kd.N_alloc|apply Kd.N_drewN|apply Kd.N_drew));exact HO_1.out)) k_ hk_.2.1)⟩)) (below_size uB));have HO2:=C (Kd.N_lower (Kd.N_mono (ok':=fun k_=>(w.heap.size≤k_)∧qm k_ v1∧qm k_ u6) (Kd.S_N (Kd.S_bound (Kd.S_apart' ho2 (Kd.S_typed ho1) (by decide)))) (fun k_ hk_=>⟨(Nat.le_trans (below_size uB) hk_.2.1),hk_.1.2,(Kd.fresh' (Kd.N_lt (by(with_reducible repeat(first|apply Kd.N_alloc|apply Kd.N_drewN|apply Kd.N_drew));exact HO_1.out)) k_ hk_.2.1)⟩)) (below_size uB));replace HO_1:=C (Kd.N_mono (Kd.N_told (Kd.N_told (Kd.N_old (by(with_reducible repeat(first|apply Kd.N_alloc|apply Kd.N_drewN|apply Kd.N_drew));exact HO_1.out) hb) (Kd.S_base ho1)) (Kd.S_base ho2)) (fun _ h_=>h_.1));replace HB:=eB hb;clear hb ho1 ho2)|((with_reducible refine gate_dst (N:=8) rfl ?_);refine Fix.be 8 #[V I 0,V I 0,L none 0 0,L none 0 0] 70 ?_;intro gb1 hg w2 BK1 hb;have GW1:=gE (w:=w) hg;replace HO_1:=C (Kd.N_below (Kd.N_elderB (by(with_reducible repeat(first|apply Kd.N_alloc|apply Kd.N_drewN|apply Kd.N_drew));exact HO_1.out) gb1 (Nat.le_of_eq hg.symm)) hb);replace HO1:=C (Kd.N_below (Kd.N_elderB (by(with_reducible repeat(first|apply Kd.N_alloc|apply Kd.N_drewN|apply Kd.N_drew));exact HO1.out) gb1 (Nat.le_of_eq hg.symm)) hb);replace HO2:=C (Kd.N_below (Kd.N_elderB (by(with_reducible repeat(first|apply Kd.N_alloc|apply Kd.N_drewN|apply Kd.N_drew));exact HO2.out) gb1 (Nat.le_of_eq hg.symm)) hb);replace HB:=eB hb;clear hb hg;obtain⟨_,_,_,_,_,_,_,_⟩:=d4 BK1.out;obtain⟨Ao1,co1,eo1⟩:=Kd.N_slice HO1.out;subst eo1;obtain⟨Ao2,co2,eo2⟩:=Kd.N_slice HO2.out;subst eo2))
     go_loopg [41] k2 (fun kq v41 w'=>∃(x4_3:Int) (x5_3:Int) (x6_3:Int) (x7_3:List (List Int)) (x8_3:List (S77)) (u656002:Value) (u656003:Value),v41=V I x4_3∧D (impl_PrintPage.l1 kq l0 a1 x2_2 x3_2 l0 (l0.length:Int) x4_3 x5_3 x6_3 x7_3 x8_3=some (r1,r2))∧D (kq≤k2)∧D (Kd.N (Kd.slice 3 (Kd.int .i64)) 39 w' w.heap.size (fun k_=>(w.heap.size≤k_)∧qm k_ u656002∧qm k_ u656003∧k_≠gb1) u6 x2_2)∧D (Kd.N (Kd.slice 3 (Kd.int .i64)) 39 w' w.heap.size (fun k_=>(w.heap.size≤k_)∧qm k_ u6∧qm k_ u656003∧k_≠gb1) u656002 x7_3)∧D (Kd.N k77 77 w' w.heap.size (fun k_=>(w.heap.size≤k_)∧qm k_ u6∧qm k_ u656002∧k_≠gb1) u656003 x8_3)∧D (w'.heap[gb1]? =some (.cells #[V I x5_3,V I x6_3,u656002,u656003] 70 (0,0)))∧D (Below w.heap.size w w'))
     case atStart=>exact⟨(0),(t2),(t3),(t4),(t5),(L Ao1 t4.length co1),(L Ao2 t5.length co2),rS,H',⟨Nat.le_refl _⟩,⟨by(with_reducible repeat(first|apply Kd.N_alloc|apply Kd.N_drewN|apply Kd.N_drew));exact Kd.N_mono (Kd.N_far (p:=⟨gb1,3,none⟩) (Kd.N_far (p:=⟨gb1,2,none⟩) (Kd.N_far (p:=⟨gb1,1,none⟩) (Kd.N_far (p:=⟨gb1,0,none⟩) (Kd.N_mono HO_1.out (fun k_ hk=>(⟨hk,hk.2⟩:_∧k_≠gb1))) (fun _ hk=>hk.2) (V I t2)) (fun _ hk=>hk.2) (V I t3)) (fun _ hk=>hk.2) (L Ao1 t4.length co1)) (fun _ hk=>hk.2) (L Ao2 t5.length co2)) pj⟩,⟨by(with_reducible repeat(first|apply Kd.N_alloc|apply Kd.N_drewN|apply Kd.N_drew));exact Kd.N_mono (Kd.N_far (p:=⟨gb1,3,none⟩) (Kd.N_far (p:=⟨gb1,2,none⟩) (Kd.N_far (p:=⟨gb1,1,none⟩) (Kd.N_far (p:=⟨gb1,0,none⟩) (Kd.N_mono HO1.out (fun k_ hk=>(⟨hk,hk.2⟩:_∧k_≠gb1))) (fun _ hk=>hk.2) (V I t2)) (fun _ hk=>hk.2) (V I t3)) (fun _ hk=>hk.2) (L Ao1 t4.length co1)) (fun _ hk=>hk.2) (L Ao2 t5.length co2)) pj⟩,⟨by(with_reducible repeat(first|apply Kd.N_alloc|apply Kd.N_drewN|apply Kd.N_drew));exact Kd.N_mono (Kd.N_far (p:=⟨gb1,3,none⟩) (Kd.N_far (p:=⟨gb1,2,none⟩) (Kd.N_far (p:=⟨gb1,1,none⟩) (Kd.N_far (p:=⟨gb1,0,none⟩) (Kd.N_mono HO2.out (fun k_ hk=>(⟨hk,hk.2⟩:_∧k_≠gb1))) (fun _ hk=>hk.2) (V I t2)) (fun _ hk=>hk.2) (V I t3)) (fun _ hk=>hk.2) (L Ao1 t4.length co1)) (fun _ hk=>hk.2) (L Ao2 t5.length co2)) pj⟩,⟨bK BK1.out⟩,⟨uB⟩⟩
     case round=>
      clear H'
      obtain⟨x4_3,x5_3,x6_3,x7_3,x8_3,u656002,u656003,rfl,HA,HK2,HO_1,HO_2,HO_3,BK1,HB⟩:=hrel
      cases gk with
      |zero=>exact absurd HA.out (by simp[impl_PrintPage.l1])
      |succ k3=>
       have H:=HA.out
       clear HA
       simp only[impl_PrintPage.l1]at H
       by_cases c3:x4_3<(l0.length:Int)
       rotate_left
       ·rw[if_neg c3]at H
        replace c3:=decide_eq_false c3
        obtain⟨t7,A3,H⟩:=bnd H
        obtain⟨t8,A4,H⟩:=bnd H
        obtain⟨⟨t9,t10⟩,A5,H⟩:=bnd H
        dsimp only at H
        obtain⟨c4,H⟩:=np H
        have LMc1:=C c4
        clear c4
        obtain⟨y1,hy1⟩:∃y_:List (List Int),y_=(x2_2++t9):=⟨_,rfl⟩
        replace H:(impl_PrintPage.l0 k3 l0 a1 y1 (wrap64 (x3_2+1)))=some (r1,r2):=gy hy1 H
        have Ny1:=C hy1
        clear hy1
        have H':=C H
        clear H
        obtain⟨_,_,_,_,_,_,_,_⟩:=d4 BK1.out
        obtain⟨Ao3,co3,eo3⟩:=Kd.N_slice HO_2.out
        subst eo3
        obtain⟨Ao4,co4,eo4⟩:=Kd.N_slice HO_3.out
        subst eo4
        exact impl_PrintPage.W2
       rw[if_pos c3]at H
       replace c3:=decide_eq_true c3
       obtain⟨c4,H⟩:=np H
       replace c4:=decide_eq_true c4
       obtain⟨c5,H⟩:=np H
       replace c5:=decide_eq_true c5
       obtain⟨⟨t7,t8,t9,t10,t11⟩,A3,H⟩:=bnd H
       dsimp only at H
       have H':=C H
       clear H
       have p1:0≤(x4_3:Int):=oT
       have q1:x4_3<(l0.length:Int):=oT
       obtain⟨ad1,A4_0,c6_0,e1,hx1_0,hx1_1,hx1_2,hx1_3,hx1_4,hx1_5,hl1_0,hi1_0⟩:=at_T77 HR1.out x4_3 p1 q1
       cases e1
       replace hx1_0:=hx HB hx1_0
       replace hx1_1:=hx HB hx1_1
       replace hx1_2:=hx HB hx1_2
       replace hx1_3:=hx HB hx1_3
       replace hx1_4:=hx HB hx1_4
       replace hx1_5:=hx HB hx1_5
       have HR2_0:=C hi1_0
       have HC3_0:=C hl1_0
       clear hi1_0 hl1_0
       replace p1:=eq_true p1
       replace q1:=eq_true q1
       exact impl_PrintPage.W2
mutual
def impl_PaintAll.j0:Nat→List (S77)→Bool→Option ((List (List Int))×Bool)
 |0,_,_=>none
 |k+1,x0,x14=>if x14=true then(some (([]:List (List Int)),false)) else((impl_WhiteRows.f k 32).bind fun t681=>(impl_PaintAll.l0 k t681 x0 (x0.length:Int) 0))
def impl_PaintAll.l0:Nat→List (List Int)→List (S77)→Int→Int→Option ((List (List Int))×Bool)
 |0,_,_,_,_=>none
 |k+1,x4,x16,x17,x18=>if x18<x17 then(if 0≤x18 then(if x18<(x16.length:Int) then((impl_paint.f k x4 0 ((rd_T77 x16 x18).f0) ((rd_T77 x16 x18).f1) ((rd_T77 x16 x18).f2.f0) ((rd_T77 x16 x18).f2.f1) ((rd_T77 x16 x18).f2.f2) ((rd_T77 x16 x18).f2.f3)).bind fun t686=>(impl_PaintAll.l0 k t686 x16 x17 (wrap64 (x18+1)))) else(none)) else(none)) else(some (x4,true))
end
def impl_PaintAll.f (k:Nat) (l0:List (S77)):Option ((List (List Int))×Bool):=if(l0.length:Int) >12 then(impl_PaintAll.j0 k l0 true) else((impl_objectsOk.f k l0).bind fun t680=>(impl_PaintAll.j0 k l0 (!t680)))
theorem impl_PaintAll.W1 {p:Prop} (h:p:=by
 go_wp2
 go_ret2
 first
  |(exact⟨_,rE,by first|exact Kd.S_nil _ _ _ _ _|exact Kd.N_nil _ _ _ _ _|exact Kd.V_nil _ _ _ _ _|exact Kd.Q_nil _ _ _ _ _|exact Kd.R_nil _ _ _ _ _,uB⟩)
  |(exact⟨_,rE,fS HO_1.out,uB⟩)):p:=h
theorem impl_PaintAll.calls (k:Nat) (A0:Option Addr) (c0:Nat) (l0:List (S77)) (r1:List (List Int)) (r2:Bool) (w:World) (hr0:Kd.C k77 w A0 l0.length l0) (hc0:l0.length≤c0) (h:impl_PaintAll.f k l0=some (r1,r2)):
 Calls prog 30 #[L A0 l0.length c0] w fun e w'=>∃v0_:Value,e=.returned (.tuple #[v0_,.bool r2])∧Kd.S (Kd.slice 3 (Kd.int .i64)) 39 w' w.heap.size (fun _=>True) v0_ r1∧Below w.heap.size w w':=by
 have hu1:=underlying77
 have HR1:=C hr0
 have HC1:=C hc0
 (try clear hr0);(try clear hc0)
 have HB:=C (Below.refl w.heap.size w)
 have H:=h
 unfold impl_PaintAll.f at H
 clear h
 have HC2:=C H
 clear H
 go_enter func30,ntmps30
 go_upto_region 1 with(fail)
 go_cut [14] (fun v14 wc=>∃(kq:Nat) (x1_1:Bool),v14=.bool x1_1∧D (impl_PaintAll.j0 kq l0 x1_1=some (r1,r2))∧D (kq≤k)∧D (Below w.heap.size w wc))
 case first=>
  have H:=HC2.out
  clear HC2
  by_cases c1:(l0.length:Int) >12
  ·rw[if_pos c1]at H
   have c1b0:decide (12<(l0.length:Int))=true:=decide_eq_true c1
   have c1b1:decide (12<l0.length)=true:=decide_eq_true (by omega)
   clear c1
   (first|rw[c1b0]|(simp only[i64_w,i32_w];rw[c1b0])|skip)
   have H':=C H
   clear H
   go_wp2
   go_meet
   case rel=>exact⟨_,(true),rS,H',⟨oL⟩,⟨uB⟩⟩
  rw[if_neg c1]at H
  have c1b0:decide (12<(l0.length:Int))=false:=decide_eq_false c1
  have c1b1:decide (12<l0.length)=false:=decide_eq_false (by omega)
  clear c1
  (first|rw[c1b0]|(simp only[i64_w,i32_w];rw[c1b0])|skip)
  obtain⟨t1,A1,H⟩:=bnd H
  have H':=C H
  clear H
  go_wp2_with (first|(go_at_call 59;(with_reducible refine(impl_objectsOk.calls k _ _ l0 t1 _ ?side1 HC1.out A1.out).mono ?_);(case side1=>exact uZ HR1);rintro e w1 ⟨rfl,hb⟩;replace HB:=eB hb;clear hb))
  go_meet
  case rel=>exact⟨_,(!t1),rS,H',⟨oL⟩,⟨uB⟩⟩
 case rest=>
  clear HC2
  obtain⟨kq,x1_1,rfl,HA,HJ1,HB⟩:=hcut
  cases kq with
  |zero=>exact absurd HA.out (by simp[impl_PaintAll.j0])
  |succ kj1=>
   have H:=HA.out
   clear HA
   simp only[impl_PaintAll.j0]at H
   by_cases c1:x1_1=true
   ·subst c1
    rw[if_pos rfl]at H
    simp only[Option.some.injEq,Prod.mk.injEq]at H
    obtain⟨rfl,rfl⟩:=H
    exact impl_PaintAll.W1
   obtain rfl:=nt c1
   replace H:=nf H
   obtain⟨t1,A1,H⟩:=bnd H
   have H':=C H
   clear H
   go_wp2_with (first|((with_reducible refine F (f:=22) rfl ?_);refine gl 22 (some 15) func22 #[V I 32] ?_;(with_reducible refine(impl_WhiteRows.calls kj1 32 t1 _ A1.out).mono ?_);rintro e w1 ⟨v1,rfl,ho1,hb⟩;refine⟨_,rfl,?_⟩;have HO1:=C (Kd.S_lower ho1 (below_size uB));replace HB:=eB hb;clear hb ho1))
   go_loopg [18] kj1 (fun kq v18 w'=>∃(x2_2:List (List Int)) (x3_2:Int),v18=V I x3_2∧D (impl_PaintAll.l0 kq x2_2 l0 (l0.length:Int) x3_2=some (r1,r2))∧D (kq≤kj1)∧D (Kd.S (Kd.slice 3 (Kd.int .i64)) 39 w' w.heap.size (fun _=>True) v1 x2_2)∧D (Below w.heap.size w w'))
   case atStart=>exact⟨(t1),(0),rS,H',⟨Nat.le_refl _⟩,⟨fS HO1.out⟩,⟨uB⟩⟩
   case round=>
    clear H'
    obtain⟨x2_2,x3_2,rfl,HA,HK1,HO_1,HB⟩:=hrel
    cases gk with
    |zero=>exact absurd HA.out (by simp[impl_PaintAll.l0])
    |succ k2=>
     have H:=HA.out
     clear HA
     simp only[impl_PaintAll.l0]at H
     by_cases c2:x3_2<(l0.length:Int)
     rotate_left
     ·rw[if_neg c2]at H
      replace c2:=decide_eq_false c2
      simp only[Option.some.injEq,Prod.mk.injEq]at H
      obtain⟨rfl,rfl⟩:=H
      exact impl_PaintAll.W1
     rw[if_pos c2]at H
     replace c2:=decide_eq_true c2
     obtain⟨c3,H⟩:=np H
     replace c3:=decide_eq_true c3
     obtain⟨c4,H⟩:=np H
     replace c4:=decide_eq_true c4
     obtain⟨t2,A2,H⟩:=bnd H
     have H':=C H
     clear H
     have p1:0≤(x3_2:Int):=oT
     have q1:x3_2<(l0.length:Int):=oT
     obtain⟨ad1,A3_0,c5_0,e1,hx1_0,hx1_1,hx1_2,hx1_3,hx1_4,hx1_5,hl1_0,hi1_0⟩:=at_T77 HR1.out x3_2 p1 q1
     cases e1
     replace hx1_0:=hx HB hx1_0
     replace hx1_1:=hx HB hx1_1
     replace hx1_2:=hx HB hx1_2
     replace hx1_3:=hx HB hx1_3
     replace hx1_4:=hx HB hx1_4
     replace hx1_5:=hx HB hx1_5
     have HR2_0:=C hi1_0
     have HC3_0:=C hl1_0
     clear hi1_0 hl1_0
     replace p1:=eq_true p1
     replace q1:=eq_true q1
     go_wp2_with (first|((with_reducible refine gate_dst (N:=6) rfl ?_);refine Fix.be 6 #[L none 0 0,V I 0,V I 0,V I 0,V I 0,V I 0] 77 ?_;intro gb1 hg w2 BK1 hb;have GW1:=gE (w:=w) hg;replace HO_1:=eS HO_1 hb;replace HB:=eB hb;clear hb hg;obtain⟨_,_,_,_,_,_,_,_,_,_,_,_⟩:=d6 BK1.out;obtain⟨Ao1,co1,eo1⟩:=Kd.S_slice HO_1.out;subst eo1)|((with_reducible refine F (f:=67) rfl ?_);refine goesL_ (some 24) rfl rfl func67 (by kernel_rfl) rfl #[L Ao1 x2_2.length co1,V I 0,.agg #[L A3_0 ((rd_T77 l0 x3_2).f0).length c5_0,V I ((rd_T77 l0 x3_2).f1),V I ((rd_T77 l0 x3_2).f2.f0),V I ((rd_T77 l0 x3_2).f2.f1),V I ((rd_T77 l0 x3_2).f2.f2),V I ((rd_T77 l0 x3_2).f2.f3)]] rfl (by(try simp only[List.map_toArray,List.map_cons,List.map_nil]);first|done|rfl) ?_;refine(impl_paint.callsT k2 _ x2_2 0 A3_0 c5_0 ((rd_T77 l0 x3_2).f0) ((rd_T77 l0 x3_2).f1) ((rd_T77 l0 x3_2).f2.f0) ((rd_T77 l0 x3_2).f2.f1) ((rd_T77 l0 x3_2).f2.f2) ((rd_T77 l0 x3_2).f2.f3) t2 w _ ?sB ?sO ?sR HC3_0.out A2.out).mono ?_;(case sB=>exact uB);(case sO=>exact⟨_,(Kd.S_mono (fS (Kd.S_types HO_1.out BK1.out (by decide))) (fun _ h_=>h_.1))⟩);(case sR=>exact Kd.C_kept_came (Kd.heap_iso _ (Kd.heap_pair (Kd.heap_int _) (Kd.heap_int _))) HR2_0.out uB (fun k_ hs_=>hs_.1));rintro e w3 ⟨rfl,ho1,hb,hk⟩;refine⟨_,rfl,?_⟩;have n0_:=C (Pt.blk (g:=gb1) (cs:= #[L A3_0 ((rd_T77 l0 x3_2).f0).length c5_0,V I ((rd_T77 l0 x3_2).f1),V I ((rd_T77 l0 x3_2).f2.f0),V I ((rd_T77 l0 x3_2).f2.f1),V I ((rd_T77 l0 x3_2).f2.f2),V I ((rd_T77 l0 x3_2).f2.f3)]) (t:=77) (bK BK1.out) hk (by decide));have m1_:=C (Kd.S_mono (ok':=fun _=>True) ho1 (fun _ _=>trivial));have m2_:=C hb;clear BK1;clear HO_1;clear HB;have BK1:=n0_;have HO2:=m1_;have HB:=m2_;clear m1_ m2_ ho1 hb hk n0_))
     go_roundg k2
     case measure=>have:=HJ1.out;have:=HK1.out;omega
     case rel=>exact⟨(t2),(wrap64 (x3_2+1)),rS,H',⟨by have:=HJ1.out;have:=HK1.out;omega⟩,⟨Kd.S_mono (fS HO2.out) (fun _ hk=>trivial)⟩,⟨uB⟩⟩
def impl_SameRows_1.f (k:Nat) (l0:List Int) (l1:List Int):Option (Bool):=(slices_Equal_int_int.f k l0 l1).bind fun t689=>(some t689)
theorem impl_SameRows_1.calls (k:Nat) (A0:Option Addr) (c0:Nat) (l0:List Int) (A1:Option Addr) (c1:Nat) (l1:List Int) (r:Bool) (w:World) (hr0:Kd.C (Kd.int .i64) w A0 l0.length l0) (hc0:l0.length≤c0) (hr1:Kd.C (Kd.int .i64) w A1 l1.length l1) (hc1:l1.length≤c1) (h:impl_SameRows_1.f k l0 l1=some r):
 Calls prog 69 #[L A0 l0.length c0,L A1 l1.length c1] w fun e w'=>e=.returned (.bool r)∧Drawn0 w w':=by
 have HR1:=C hr0
 have HC1:=C hc0
 (try clear hr0);(try clear hc0)
 have HR2:=C hr1
 have HC2:=C hc1
 (try clear hr1);(try clear hc1)
 have H:=h
 unfold impl_SameRows_1.f at H
 clear h
 obtain⟨t1,A2,H⟩:=bnd H
 obtain rfl:=si H
 go_enter func69,ntmps69
 go_wp2_with (first|((with_reducible refine F (f:=70) rfl ?_);refine gl 70 (some 7) func70 #[L A0 l0.length c0,L A1 l1.length c1] ?_;(with_reducible refine(slices_Equal_int_int.calls k _ _ l0 _ _ l1 t1 _ ?side1 HC1.out ?side3 HC2.out A2.out).mono ?_);(case side1=>exact uC HR1.out);(case side3=>exact uC HR2.out);rintro e w' ⟨rfl,⟨nd,rfl⟩⟩;refine⟨_,rfl,?_⟩))
 go_ret
 exact⟨by first|rfl|(simp;done)|(simp[*];done),by repeat(first|exact Drawn0.refl _|apply Drawn0.step)⟩
def slices_EqualFunc_int_int_int_int.l0:Nat→List (List Int)→List (List Int)→Int→Int→Option (Bool)
 |0,_,_,_,_=>none
 |k+1,x1,x15,x16,x17=>if x17<x16 then(if 0≤x17 then(if x17<(x15.length:Int) then(if x17<(x1.length:Int) then((impl_SameRows_1.f k (rd_L6 x15 x17) (rd_L6 x1 x17)).bind fun t692=>(if t692=true then(slices_EqualFunc_int_int_int_int.l0 k x1 x15 x16 (wrap64 (x17+1))) else(some false))) else(none)) else(none)) else(none)) else(some true)
def slices_EqualFunc_int_int_int_int.f (k:Nat) (l0:List (List Int)) (l1:List (List Int)):Option (Bool):=if(l0.length:Int)=(l1.length:Int) then(slices_EqualFunc_int_int_int_int.l0 k l1 l0 (l0.length:Int) 0) else(some false)
theorem slices_EqualFunc_int_int_int_int.calls (k:Nat) (A0:Option Addr) (c0:Nat) (l0:List (List Int)) (A1:Option Addr) (c1:Nat) (l1:List (List Int)) (r:Bool) (w:World) (hr0:Kd.C (Kd.slice 3 (Kd.int .i64)) w A0 l0.length l0) (hc0:l0.length≤c0) (hr1:Kd.C (Kd.slice 3 (Kd.int .i64)) w A1 l1.length l1) (hc1:l1.length≤c1) (h:slices_EqualFunc_int_int_int_int.f k l0 l1=some r):
 Calls prog 68 #[L A0 l0.length c0,L A1 l1.length c1,.func (.func 69) #[] #[]] w fun e w'=>e=.returned (.bool r)∧Drawn0 w w':=by
 have HR1:=C hr0
 have HC1:=C hc0
 (try clear hr0);(try clear hc0)
 have HR2:=C hr1
 have HC2:=C hc1
 (try clear hr1);(try clear hc1)
 have H:=h
 unfold slices_EqualFunc_int_int_int_int.f at H
 clear h
 by_cases c1:(l0.length:Int)=(l1.length:Int)
 rotate_left
 ·rw[if_neg c1]at H
  have c1b0:((l0.length:Int)==(l1.length:Int))=false:=beq_eq_false_iff_ne.mpr c1
  have c1b1:((l0.length:Int) !=(l1.length:Int))=true:=bne_iff_ne.mpr c1
  have c1b2:(l0.length==l1.length)=false:=by first|simpa using c1|(simp at c1 ⊢;omega)
  obtain rfl:=si H
  go_enter func68,ntmps68
  go_wp2
  go_ret
  exact⟨by first|rfl|(simp;done)|(simp[*];done),by repeat(first|exact Drawn0.refl _|apply Drawn0.step)⟩
 rw[if_pos c1]at H
 have c1b0:((l0.length:Int)==(l1.length:Int))=true:=beq_iff_eq.mpr c1
 have c1b1:((l0.length:Int) !=(l1.length:Int))=false:=bne_eq_false_iff_eq.mpr c1
 have c1b2:(l0.length==l1.length)=true:=by first|simpa using c1|(simp at c1 ⊢;omega)
 clear c1
 have H':=C H
 clear H
 go_enter func68,ntmps68
 go_wp2
 go_loopg [17] k (fun kq v17 w'=>∃(x1_1:Int),v17=V I x1_1∧D (slices_EqualFunc_int_int_int_int.l0 kq l1 l0 (l0.length:Int) x1_1=some r)∧D (kq≤k)∧Drawn0 w w')
 case atStart=>exact⟨(0),rS,H',⟨Nat.le_refl _⟩,by repeat(first|exact Drawn0.refl _|apply Drawn0.step)⟩
 case round=>
  clear H'
  obtain⟨x1_1,rfl,HA,HK1,⟨m1,rfl⟩⟩:=hrel
  cases gk with
  |zero=>exact absurd HA.out (by simp[slices_EqualFunc_int_int_int_int.l0])
  |succ k1=>
   have H:=HA.out
   clear HA
   simp only[slices_EqualFunc_int_int_int_int.l0]at H
   by_cases c2:x1_1<(l0.length:Int)
   rotate_left
   ·rw[if_neg c2]at H
    replace c2:=decide_eq_false c2
    obtain rfl:=si H
    go_wp2
    go_ret
    exact⟨by first|rfl|(simp;done)|(simp[*];done),by repeat(first|exact Drawn0.refl _|apply Drawn0.step)⟩
   rw[if_pos c2]at H
   replace c2:=decide_eq_true c2
   obtain⟨c3,H⟩:=np H
   replace c3:=decide_eq_true c3
   obtain⟨c4,H⟩:=np H
   replace c4:=decide_eq_true c4
   obtain⟨c5,H⟩:=np H
   replace c5:=decide_eq_true c5
   obtain⟨t1,A1,H⟩:=bnd H
   by_cases c6:t1=true
   rotate_left
   ·obtain rfl:=nt c6
    replace H:=nf H
    obtain rfl:=si H
    have p1:0≤(x1_1:Int):=oT
    have q1:x1_1<(l0.length:Int):=oT
    obtain⟨ad1,A2_0,c7_0,e1,hx1_0,hl1_0,hi1_0⟩:=at_L6 HR1.out x1_1 p1 q1
    cases e1
    have HR3_0:=C hi1_0
    have HC3_0:=C hl1_0
    clear hi1_0 hl1_0
    replace p1:=eq_true p1
    replace q1:=eq_true q1
    have p2:0≤(x1_1:Int):=oT
    have q2:x1_1<(l1.length:Int):=oT
    obtain⟨ad2,A3_0,c8_0,e2,hx2_0,hl2_0,hi2_0⟩:=at_L6 HR2.out x1_1 p2 q2
    cases e2
    have HR4_0:=C hi2_0
    have HC4_0:=C hl2_0
    clear hi2_0 hl2_0
    replace p2:=eq_true p2
    replace q2:=eq_true q2
    go_wp2_with (first|((with_reducible refine Ext.gate_tmp (t:=26) rfl ?_);refine Ext.goesT_ (t:=26) (f:=69) (some 29) rfl rfl func69 (by kernel_rfl) rfl #[L A2_0 (rd_L6 l0 x1_1).length c7_0,L A3_0 (rd_L6 l1 x1_1).length c8_0] rfl rfl uA ?_;(with_reducible refine(impl_SameRows_1.calls k1 _ _ (rd_L6 l0 x1_1) _ _ (rd_L6 l1 x1_1) false _ ?side1 HC3_0.out ?side3 HC4_0.out A1.out).mono ?_);(case side1=>exact uC HR3_0.out);(case side3=>exact uC HR4_0.out);rintro e w' ⟨rfl,⟨nd,rfl⟩⟩;refine⟨_,rfl,?_⟩))
    go_ret
    exact⟨by first|rfl|(simp;done)|(simp[*];done),by repeat(first|exact Drawn0.refl _|apply Drawn0.step)⟩
   subst c6
   rw[if_pos rfl]at H
   have H':=C H
   clear H
   have p1:0≤(x1_1:Int):=oT
   have q1:x1_1<(l0.length:Int):=oT
   obtain⟨ad1,A2_0,c7_0,e1,hx1_0,hl1_0,hi1_0⟩:=at_L6 HR1.out x1_1 p1 q1
   cases e1
   have HR3_0:=C hi1_0
   have HC3_0:=C hl1_0
   clear hi1_0 hl1_0
   replace p1:=eq_true p1
   replace q1:=eq_true q1
   have p2:0≤(x1_1:Int):=oT
   have q2:x1_1<(l1.length:Int):=oT
   obtain⟨ad2,A3_0,c8_0,e2,hx2_0,hl2_0,hi2_0⟩:=at_L6 HR2.out x1_1 p2 q2
   cases e2
   have HR4_0:=C hi2_0
   have HC4_0:=C hl2_0
   clear hi2_0 hl2_0
   replace p2:=eq_true p2
   replace q2:=eq_true q2
   go_wp2_with (first|((with_reducible refine Ext.gate_tmp (t:=26) rfl ?_);refine Ext.goesT_ (t:=26) (f:=69) (some 29) rfl rfl func69 (by kernel_rfl) rfl #[L A2_0 (rd_L6 l0 x1_1).length c7_0,L A3_0 (rd_L6 l1 x1_1).length c8_0] rfl rfl uA ?_;(with_reducible refine(impl_SameRows_1.calls k1 _ _ (rd_L6 l0 x1_1) _ _ (rd_L6 l1 x1_1) true _ ?side1 HC3_0.out ?side3 HC4_0.out A1.out).mono ?_);(case side1=>exact uC HR3_0.out);(case side3=>exact uC HR4_0.out);rintro e w' ⟨rfl,⟨nd,rfl⟩⟩;refine⟨_,rfl,?_⟩))
   go_roundg k1
   case measure=>have:=HK1.out;omega
   case rel=>exact⟨(wrap64 (x1_1+1)),rS,H',⟨by have:=HK1.out;omega⟩,by repeat(first|exact Drawn0.refl _|apply Drawn0.step)⟩
def impl_SameRows.f (k:Nat) (l0:List (List Int)) (l1:List (List Int)):Option (Bool):=(slices_EqualFunc_int_int_int_int.f k l0 l1).bind fun t693=>(some t693)
theorem impl_SameRows.calls (k:Nat) (A0:Option Addr) (c0:Nat) (l0:List (List Int)) (A1:Option Addr) (c1:Nat) (l1:List (List Int)) (r:Bool) (w:World) (hr0:Kd.C (Kd.slice 3 (Kd.int .i64)) w A0 l0.length l0) (hc0:l0.length≤c0) (hr1:Kd.C (Kd.slice 3 (Kd.int .i64)) w A1 l1.length l1) (hc1:l1.length≤c1) (h:impl_SameRows.f k l0 l1=some r):
 Calls prog 31 #[L A0 l0.length c0,L A1 l1.length c1] w fun e w'=>e=.returned (.bool r)∧Drawn0 w w':=by
 have HR1:=C hr0
 have HC1:=C hc0
 (try clear hr0);(try clear hc0)
 have HR2:=C hr1
 have HC2:=C hc1
 (try clear hr1);(try clear hc1)
 have H:=h
 unfold impl_SameRows.f at H
 clear h
 obtain⟨t1,A2,H⟩:=bnd H
 obtain rfl:=si H
 go_enter func31,ntmps31
 go_wp2_with (first|((with_reducible refine F (f:=68) rfl ?_);refine gl 68 (some 7) func68 #[L A0 l0.length c0,L A1 l1.length c1,.func (.func 69) #[] #[]] ?_;(with_reducible refine(slices_EqualFunc_int_int_int_int.calls k _ _ l0 _ _ l1 t1 _ ?side1 HC1.out ?side3 HC2.out A2.out).mono ?_);(case side1=>exact uC HR1.out);(case side3=>exact uC HR2.out);rintro e w' ⟨rfl,⟨nd,rfl⟩⟩;refine⟨_,rfl,?_⟩))
 go_ret
 exact⟨by first|rfl|(simp;done)|(simp[*];done),by repeat(first|exact Drawn0.refl _|apply Drawn0.step)⟩
def laws_FnPrinted.f (k:Nat) (l0:List Int):Option (Bool):=(laws_big.f l0).bind fun t694=>(if t694=true then(some true) else((spec_DrawList.f k l0).bind fun t695=>((spec_DrawHeight.f k l0).bind fun t698=>((impl_PrintPage.f k t695 t698).bind fun bt699=>((impl_PaintAll.f k t695).bind fun bt703=>(if bt699.2=true then(if bt703.2=true then((impl_SameRows.f k bt699.1 bt703.1).bind fun t707=>(some t707)) else(some false)) else(some false)))))))
theorem laws_FnPrinted.calls (k:Nat) (A0:Option Addr) (c0:Nat) (l0:List Int) (r:Bool) (w:World) (hr0:Kd.C (Kd.int .u8) w A0 l0.length l0) (hc0:l0.length≤c0) (hT:r=true) (h:laws_FnPrinted.f k l0=some r):
 Calls prog 7 #[L A0 l0.length c0] w fun e w'=>e=.returned (.bool r)∧Below w.heap.size w w':=by
 have HR1:=C hr0
 have HC1:=C hc0
 (try clear hr0);(try clear hc0)
 replace hT:=C hT
 have HB:=C (Below.refl w.heap.size w)
 have H:=h
 unfold laws_FnPrinted.f at H
 clear h
 obtain⟨t1,A1,H⟩:=bnd H
 by_cases c1:t1=true
 ·subst c1
  rw[if_pos rfl]at H
  obtain rfl:=si H
  go_enter func7,ntmps7
  go_wp2_with (first|((with_reducible refine F (f:=18) rfl ?_);refine gl 18 (some 10) func18 #[L A0 l0.length c0] ?_;(with_reducible refine(laws_big.calls _ _ l0 true _ ?side1 HC1.out A1.out).mono ?_);(case side1=>exact uC HR1.out);rintro e w' ⟨rfl,⟨nd,rfl⟩⟩;refine⟨_,rfl,?_⟩))
  go_ret
  exact⟨rE,uB⟩
 obtain rfl:=nt c1
 replace H:=nf H
 obtain⟨t2,A2,H⟩:=bnd H
 obtain⟨t3,A3,H⟩:=bnd H
 obtain⟨⟨t4,t5⟩,A4,H⟩:=bnd H
 dsimp only at H
 obtain⟨⟨t6,t7⟩,A5,H⟩:=bnd H
 dsimp only at H
 by_cases c2:t5=true
 rotate_left
 ·obtain rfl:=nt c2
  replace H:=nf H
  exact absurd (hT.out ▸ H) (by simp)
 subst c2
 rw[if_pos rfl]at H
 by_cases c3:t7=true
 rotate_left
 ·obtain rfl:=nt c3
  replace H:=nf H
  exact absurd (hT.out ▸ H) (by simp)
 subst c3
 rw[if_pos rfl]at H
 obtain⟨t8,A6,H⟩:=bnd H
 obtain rfl:=si H
 go_enter func7,ntmps7
 go_wp2_with (first|((with_reducible refine F (f:=18) rfl ?_);refine gl 18 (some 10) func18 #[L A0 l0.length c0] ?_;(with_reducible refine(laws_big.calls _ _ l0 false _ ?side1 HC1.out A1.out).mono ?_);(case side1=>exact uC HR1.out);rintro e w' ⟨rfl,⟨nd,rfl⟩⟩;refine⟨_,rfl,?_⟩)|((with_reducible refine F (f:=27) rfl ?_);refine gl 27 (some 12) func27 #[L A0 l0.length c0] ?_;(with_reducible refine(spec_DrawList.calls k _ _ l0 t2 _ ?side1 HC1.out A2.out).mono ?_);(case side1=>exact uC HR1.out);rintro e w1 ⟨v1,rfl,ho1,hb⟩;refine⟨_,rfl,?_⟩;have HO1:=C (Kd.N_lower (Kd.N_mono (ok':=fun k_=>True) (Kd.S_N (Kd.S_bound ho1)) (fun k_ hk_=>trivial)) (below_size uB));replace HB:=eB hb;clear hb ho1)|((with_reducible refine F (f:=28) rfl ?_);refine gl 28 (some 14) func28 #[L A0 l0.length c0] ?_;(with_reducible refine(spec_DrawHeight.calls k _ _ l0 t3 _ ?side1 HC1.out A3.out).mono ?_);(case side1=>exact uZ HR1);rintro e w2 ⟨rfl,hb⟩;refine⟨_,rfl,?_⟩;replace HO1:=C (Kd.N_below (by(with_reducible repeat(first|apply Kd.N_alloc|apply Kd.N_drewN|apply Kd.N_drew));exact HO1.out) hb);replace HB:=eB hb;clear hb;obtain⟨Ao1,co1,eo1⟩:=Kd.N_slice HO1.out;subst eo1)|((with_reducible refine F (f:=29) rfl ?_);refine gl 29 (some 18) func29 #[L Ao1 t2.length co1,V I t3] ?_;(with_reducible refine(impl_PrintPage.calls k _ _ t2 t3 t4 true _ ?side1 ?side2 A4.out).mono ?_);(case side1=>exact uC (Kd.N_reads' HO1.out).2.2);(case side2=>exact(Kd.N_reads' HO1.out).2.1);rintro e w3 ⟨v2,rfl,ho1,hb⟩;refine⟨_,rfl,?_⟩;have HO2:=C (Kd.N_lower (Kd.N_mono (ok':=fun k_=>qn k_ Ao1 t2.length co1) ho1 (fun k_ hk_=>(Kd.fresh' (Kd.N_lt (by(with_reducible repeat(first|apply Kd.N_alloc|apply Kd.N_drewN|apply Kd.N_drew));exact HO1.out)) k_ hk_))) (below_size uB));replace HO1:=C (Kd.N_elder' (by(with_reducible repeat(first|apply Kd.N_alloc|apply Kd.N_drewN|apply Kd.N_drew));exact HO1.out) (Kd.N_base ho1) hb);replace HB:=eB hb;clear hb ho1)|((with_reducible refine F (f:=30) rfl ?_);refine gl 30 (some 23) func30 #[L Ao1 t2.length co1] ?_;(with_reducible refine(impl_PaintAll.calls k _ _ t2 t6 true _ ?side1 ?side2 A5.out).mono ?_);(case side1=>exact uC (Kd.N_reads' HO1.out).2.2);(case side2=>exact(Kd.N_reads' HO1.out).2.1);rintro e w4 ⟨v3,rfl,ho1,hb⟩;refine⟨_,rfl,?_⟩;have HO3:=C (Kd.N_lower (Kd.N_mono (ok':=fun k_=>qn k_ Ao1 t2.length co1∧qm k_ v2) (Kd.S_N (Kd.S_bound ho1)) (fun k_ hk_=>⟨(Kd.fresh' (Kd.N_lt (by(with_reducible repeat(first|apply Kd.N_alloc|apply Kd.N_drewN|apply Kd.N_drew));exact HO1.out)) k_ hk_.2.1),(Kd.fresh' (Kd.N_lt (by(with_reducible repeat(first|apply Kd.N_alloc|apply Kd.N_drewN|apply Kd.N_drew));exact HO2.out)) k_ hk_.2.1)⟩)) (below_size uB));replace HO1:=C (Kd.N_elder' (by(with_reducible repeat(first|apply Kd.N_alloc|apply Kd.N_drewN|apply Kd.N_drew));exact HO1.out) (Kd.S_base ho1) hb);replace HO2:=C (Kd.N_elder' (by(with_reducible repeat(first|apply Kd.N_alloc|apply Kd.N_drewN|apply Kd.N_drew));exact HO2.out) (Kd.S_base ho1) hb);replace HB:=eB hb;clear hb ho1;obtain⟨Ao2,co2,eo2⟩:=Kd.N_slice HO2.out;subst eo2;obtain⟨Ao3,co3,eo3⟩:=Kd.N_slice HO3.out;subst eo3)|(go_at_call 31;(with_reducible refine(impl_SameRows.calls k _ _ t4 _ _ t6 t8 _ ?side1 ?side2 ?side3 ?side4 A6.out).mono ?_);(case side1=>exact uC (Kd.N_reads' HO2.out).2.2);(case side2=>exact(Kd.N_reads' HO2.out).2.1);(case side3=>exact uC (Kd.N_reads' HO3.out).2.2);(case side4=>exact(Kd.N_reads' HO3.out).2.1);rintro e w' ⟨rfl,⟨nd,rfl⟩⟩))
 go_ret
 exact⟨rE,uB⟩
end Go.Proofs.Ytaceidiookkocaa.PFnPrinted
