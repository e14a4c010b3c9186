/- Calls do what plain Lean functions say (FnExactRunScript). No condition. -/
import Derived.Test.YtgdnlmfoghpeoaaGreatDoorQFnExactRunScript0
import Derived.Test.YtgdnlmfoghpeoaaGreatDoorQFnExactRunScript2
namespace Go.Proofs.YtgdnlmfoghpeoaaGreatDoor.PFnExactRunScript
open Go.RowKit Go.Proofs.YtgdnlmfoghpeoaaGreatDoorW.PrintWords Go.Proofs.YtgdnlmfoghpeoaaGreatDoorW.PrintLast Go.Proofs.YtgdnlmfoghpeoaaGreatDoorW.PrintMore
open Tryz
open Fix (bK bnd cr6 d6 dB dK dR eB eK eR fQ fR gE gK gl gy hi hx lR nG nL nf np nt nu oT ou pu qm qn rE rN tR tu uB uR uZ wB wK wR)
open Go.Value renaming int→V,slice→L,bool→O,agg→G
open Go.IntKind renaming i64→I
open Go.Proofs.YtgdnlmfoghpeoaaGreatDoorW.PrintWords.Aside0 renaming mk→C
open Go.Proofs.YtgdnlmfoghpeoaaGreatDoorW.PrintWords.Kd renaming R_mono→X,R_types→Y,R_slice→U
open Go.Proofs.YtgdnlmfoghpeoaaGreatDoorW.PrintWords renaming gate_callee→F,gate_dst→J
attribute [local go_sem] max2_int min2_int max_two min_two max_three min_three max_four min_four
attribute [local go_sem] Fix.isSome_setCell
set_option linter.unusedVariables false
set_option maxHeartbeats 40000000
set_option maxRecDepth 100000
set_option linter.unusedSimpArgs false
def impl_LineStep.f (k:Nat) (a0_0:Int) (a0_1:Int) (l0_2:List Int) (l0_3:List Int) (a0_4:Int) (a0_5:Bool) (a1:Int):Option (Int×Int×List Int×List Int×Int×Bool×Bool):=(impl_copyLine.f a0_0 a0_1 l0_2 l0_3 a0_4 a0_5).bind fun bt243=>((impl_LineOk.f k a0_0 a0_1 l0_2 l0_3 a0_4 a0_5).bind fun t254=>(if t254=true then(if a1=1 then(if(l0_2.length:Int) ≥ 5 then(some (bt243.1,bt243.2.1,bt243.2.2.1,bt243.2.2.2.1,bt243.2.2.2.2.1,bt243.2.2.2.2.2,false)) else(if a0_1 ≥ a0_0 then(some (bt243.1,bt243.2.1,bt243.2.2.1,bt243.2.2.2.1,bt243.2.2.2.2.1,bt243.2.2.2.2.2,false)) else(if a0_5=true then(some (bt243.1,bt243.2.1,bt243.2.2.1,bt243.2.2.2.1,bt243.2.2.2.2.1,bt243.2.2.2.2.2,false)) else(if bt243.2.2.1.length<17592186044416 then(some (bt243.1,wrap64 (bt243.2.1+1),(bt243.2.2.1++ [a0_1]),bt243.2.2.2.1,bt243.2.2.2.2.1,bt243.2.2.2.2.2,true)) else(none))))) else(if a1=2 then(if(l0_2.length:Int)=0 then(some (bt243.1,bt243.2.1,bt243.2.2.1,bt243.2.2.2.1,bt243.2.2.2.2.1,bt243.2.2.2.2.2,false)) else(if a0_5=true then(some (bt243.1,bt243.2.1,bt243.2.2.1,bt243.2.2.2.1,bt243.2.2.2.2.1,bt243.2.2.2.2.2,false)) else(if 0<(l0_2.length:Int) then(if bt243.2.2.2.1.length<17592186044416 then(if 1≤(bt243.2.2.1.length:Int) then(some (bt243.1,bt243.2.1,(bt243.2.2.1.drop (1:Int).toNat),(bt243.2.2.2.1++ [rd l0_2 0]),bt243.2.2.2.2.1,bt243.2.2.2.2.2,true)) else(none)) else(none)) else(none)))) else(if a1=3 then(some (bt243.1,(bt243.2.2.2.1.length:Int),([]:List Int),bt243.2.2.2.1,mn 100000 (wrap64 (bt243.2.2.2.2.1+(bt243.2.2.1.length:Int))),true,true)) else(if a1=4 then(some (bt243.1,bt243.2.1,bt243.2.2.1,bt243.2.2.2.1,bt243.2.2.2.2.1,true,true)) else(if a1=5 then(some (bt243.1,bt243.2.1,bt243.2.2.1,bt243.2.2.2.1,bt243.2.2.2.2.1,false,true)) else(some (bt243.1,bt243.2.1,bt243.2.2.1,bt243.2.2.2.1,bt243.2.2.2.2.1,bt243.2.2.2.2.2,false))))))) else(some (bt243.1,bt243.2.1,bt243.2.2.1,bt243.2.2.2.1,bt243.2.2.2.2.1,bt243.2.2.2.2.2,false))))
def impl_LineStep.T14:Bool×List (List Nat×List Nat):=(true,[([],[]),([0],[0]),([],[]),([2],[2]),([3],[3]),([4],[4]),([5],[5]),([1,6],[1,6]),([0,1,2,3,4,5,6,7],[]),([8,7,7,0,1,2,3,4,5,6,7],[7,8])])
def impl_LineStep.B14:List Nat:= [0,1,0,4,12,28,60,127,255,511]
theorem impl_LineStep.tab14:rtab .any (opsOf Tryz.f56 14)=impl_LineStep.T14:=by kernel_rfl
theorem impl_LineStep.bits14:waitsOk impl_LineStep.T14.2 impl_LineStep.B14=true:=by kernel_rfl
theorem impl_LineStep.W1 {p:Prop} (h:p:=by
 go_enter func56,ntmps56
 go_wp2_with (first|((with_reducible refine J (N:=2) rfl ?_);refine Fix.be 2 #[V I a0_0,V I a0_1,L A0_2 l0_2.length c0_2,L A0_3 l0_3.length c0_3,V I a0_4,O a0_5] 29 ?_;intro gb1 hg w2 BK1 hb;have GW1:=gE (w:=w) hg;replace HB:=eB hb;clear hb hg)|((with_reducible refine J (N:=4) rfl ?_);refine Fix.be 4 #[V I 0,V I 0,L none 0 0,L none 0 0,V I 0,O false] 29 ?_;intro gb2 hg w3 BK2 hb;have GW2:=gE (w:=w) hg;have n0:=nL hg BK1;have n1:=nG hg BK1;replace BK1:=eK BK1 hb;replace HB:=eB hb;clear hb hg;have:=n0.out;have:=n1.out;obtain⟨_,_,_,_,_,_,_,_,_,_,_,_⟩:=d6 BK1.out)|((with_reducible refine F (f:=44) rfl ?_);refine gl 44 (some 8) func44 #[G #[V I a0_0,V I a0_1,L A0_2 l0_2.length c0_2,L A0_3 l0_3.length c0_3,V I a0_4,O a0_5]] ?_;(with_reducible refine(impl_copyLine.calls a0_0 a0_1 _ _ l0_2 _ _ l0_3 a0_4 a0_5 t1 t2 t3 t4 t5 t6 _ ?side1 HC1_2.out ?side3 HC1_3.out A2.out).mono ?_);(case side1=>exact uZ HR1_2);(case side3=>exact uZ HR1_3);rintro e w4 ⟨v1,v2,rfl,ho1,ho2,hb⟩;refine⟨_,rfl,?_⟩;have HO1:=lR ho1;have HO2:=lR ho2;replace BK1:=eK BK1 hb;replace BK2:=eK BK2 hb;replace HB:=eB hb;clear hb ho1 ho2)|((with_reducible refine J (N:=6) rfl ?_);refine Fix.be 6 #[V I 0,V I 0,L none 0 0,L none 0 0,V I 0,O false] 29 ?_;intro gb3 hg w5 BK3 hb;have GW3:=gE (w:=w) hg;have n2:=nL hg BK1;have n3:=nG hg BK1;have n4:=nL hg BK2;have n5:=nG hg BK2;replace HO1:=eR HO1 hb;replace HO2:=eR HO2 hb;replace BK1:=eK BK1 hb;replace BK2:=eK BK2 hb;replace HB:=eB hb;clear hb hg;have:=n3.out;have:=n2.out;have:=n5.out;have:=n4.out;obtain⟨_,_,_,_,_,_,_,_,_,_,_,_⟩:=d6 BK3.out;obtain⟨Ao1,co1,rfl⟩:=U HO1.out;obtain⟨Ao2,co2,rfl⟩:=U HO2.out)|((with_reducible refine gate_store (t:=29) (p:=6) rfl ?_);refine store_event (t:=29) (p:=6) (v:= ?vo_w1) (w1:=((((((w5.setCell ⟨gb3,0,none⟩ (V I t1)).setCell ⟨gb3,1,none⟩ (V I t2)).setCell ⟨gb3,2,none⟩ (L Ao1 t3.length co1)).setCell ⟨gb3,3,none⟩ (L Ao2 t4.length co2)).setCell ⟨gb3,4,none⟩ (V I t5)).setCell ⟨gb3,5,none⟩ (O t6))) ?hg ?ho ?hn ?hr ?_;(case ho=>rfl);(case hg=>rfl);(case hn=>rfl);(case hr=>exact Fix.hr);intro w6 hw;replace HO1:=wR hw (Y HO1.out BK3.out (by decide));replace HO2:=wR hw (Y HO2.out BK3.out (by decide));replace BK1:=wK hw BK1;replace BK2:=wK hw BK2;replace BK3:Aside0 (w6.heap[gb3]? =some (.cells #[V I t1,V I t2,L Ao1 t3.length co1,L Ao2 t4.length co2,V I t5,O t6] 29 (0,0))):=⟨(by rw[hw];exact(bK BK3.out))⟩;replace HB:=wB hw;clear hw;obtain⟨_,_,_,_,_,_,_,_,_,_,_,_⟩:=d6 BK1.out)|((with_reducible refine F (f:=46) rfl ?_);refine gl 46 (some 10) func46 #[G #[V I a0_0,V I a0_1,L A0_2 l0_2.length c0_2,L A0_3 l0_3.length c0_3,V I a0_4,O a0_5]] ?_;(with_reducible refine(impl_LineOk.calls k a0_0 a0_1 (fun k_=>k_<w.heap.size) _ _ l0_2 (fun k_=>k_<w.heap.size) _ _ l0_3 a0_4 a0_5 true _ ?side1 ?side2 A3.out).mono ?_);(case side1=>exact Kd.V_mk HC1_2.out (Kd.F_below (Kd.C_F (Kd.heap_int .i64) HR1_2.out) uB));(case side2=>exact Kd.V_mk HC1_3.out (Kd.F_below (Kd.C_F (Kd.heap_int .i64) HR1_3.out) uB));rintro e w7 ⟨rfl,hb⟩;refine⟨_,rfl,?_⟩;replace HO1:=eR HO1 hb;replace HO2:=eR HO2 hb;replace BK1:=eK BK1 hb;replace BK2:=eK BK2 hb;replace BK3:=eK BK3 hb;replace HB:=eB hb;clear hb;obtain⟨_,_,_,_,_,_,_,_,_,_,_,_⟩:=d6 BK1.out;obtain⟨_,_,_,_,_,_,_,_,_,_,_,_⟩:=d6 BK3.out;obtain⟨_,_,_,_,_,_,_,_,_,_,_,_⟩:=d6 BK2.out))
 refine bodyPost_ret (results_ct rfl _ _ gb2 29 #[V I t1,V I t2,L Ao1 t3.length co1,L Ao2 t4.length co2,V I t5,O t6] (0,0) _ rfl (bK BK2.out) underlying29 rfl (by kernel_rfl)) rfl ?_
 exact⟨_,_,rE,Kd.Q_of_R (X (fR (Y HO1.out BK2.out (by decide))) (fun _ hk=>hk.1)),X (fR (Y HO2.out BK2.out (by decide))) (fun _ hk=>hk.1),uB⟩):p:=h
theorem impl_LineStep.W2 {p:Prop} (h:p:=by
 go_enter func56,ntmps56
 go_wp2_with (first|((with_reducible refine J (N:=2) rfl ?_);refine Fix.be 2 #[V I a0_0,V I a0_1,L A0_2 l0_2.length c0_2,L A0_3 l0_3.length c0_3,V I a0_4,O true] 29 ?_;intro gb1 hg w2 BK1 hb;have GW1:=gE (w:=w) hg;replace HB:=eB hb;clear hb hg)|((with_reducible refine J (N:=4) rfl ?_);refine Fix.be 4 #[V I 0,V I 0,L none 0 0,L none 0 0,V I 0,O false] 29 ?_;intro gb2 hg w3 BK2 hb;have GW2:=gE (w:=w) hg;have n0:=nL hg BK1;have n1:=nG hg BK1;replace BK1:=eK BK1 hb;replace HB:=eB hb;clear hb hg;have:=n0.out;have:=n1.out;obtain⟨_,_,_,_,_,_,_,_,_,_,_,_⟩:=d6 BK1.out)|((with_reducible refine F (f:=44) rfl ?_);refine gl 44 (some 8) func44 #[G #[V I a0_0,V I a0_1,L A0_2 l0_2.length c0_2,L A0_3 l0_3.length c0_3,V I a0_4,O true]] ?_;(with_reducible refine(impl_copyLine.calls a0_0 a0_1 _ _ l0_2 _ _ l0_3 a0_4 true t1 t2 t3 t4 t5 t6 _ ?side1 HC1_2.out ?side3 HC1_3.out A2.out).mono ?_);(case side1=>exact uZ HR1_2);(case side3=>exact uZ HR1_3);rintro e w4 ⟨v1,v2,rfl,ho1,ho2,hb⟩;refine⟨_,rfl,?_⟩;have HO1:=lR ho1;have HO2:=lR ho2;replace BK1:=eK BK1 hb;replace BK2:=eK BK2 hb;replace HB:=eB hb;clear hb ho1 ho2)|((with_reducible refine J (N:=6) rfl ?_);refine Fix.be 6 #[V I 0,V I 0,L none 0 0,L none 0 0,V I 0,O false] 29 ?_;intro gb3 hg w5 BK3 hb;have GW3:=gE (w:=w) hg;have n2:=nL hg BK1;have n3:=nG hg BK1;have n4:=nL hg BK2;have n5:=nG hg BK2;replace HO1:=eR HO1 hb;replace HO2:=eR HO2 hb;replace BK1:=eK BK1 hb;replace BK2:=eK BK2 hb;replace HB:=eB hb;clear hb hg;have:=n3.out;have:=n2.out;have:=n5.out;have:=n4.out;obtain⟨_,_,_,_,_,_,_,_,_,_,_,_⟩:=d6 BK3.out;obtain⟨Ao1,co1,rfl⟩:=U HO1.out;obtain⟨Ao2,co2,rfl⟩:=U HO2.out)|((with_reducible refine gate_store (t:=29) (p:=6) rfl ?_);refine store_event (t:=29) (p:=6) (v:= ?vo_w1) (w1:=((((((w5.setCell ⟨gb3,0,none⟩ (V I t1)).setCell ⟨gb3,1,none⟩ (V I t2)).setCell ⟨gb3,2,none⟩ (L Ao1 t3.length co1)).setCell ⟨gb3,3,none⟩ (L Ao2 t4.length co2)).setCell ⟨gb3,4,none⟩ (V I t5)).setCell ⟨gb3,5,none⟩ (O t6))) ?hg ?ho ?hn ?hr ?_;(case ho=>rfl);(case hg=>rfl);(case hn=>rfl);(case hr=>exact Fix.hr);intro w6 hw;replace HO1:=wR hw (Y HO1.out BK3.out (by decide));replace HO2:=wR hw (Y HO2.out BK3.out (by decide));replace BK1:=wK hw BK1;replace BK2:=wK hw BK2;replace BK3:Aside0 (w6.heap[gb3]? =some (.cells #[V I t1,V I t2,L Ao1 t3.length co1,L Ao2 t4.length co2,V I t5,O t6] 29 (0,0))):=⟨(by rw[hw];exact(bK BK3.out))⟩;replace HB:=wB hw;clear hw;obtain⟨_,_,_,_,_,_,_,_,_,_,_,_⟩:=d6 BK1.out)|((with_reducible refine F (f:=46) rfl ?_);refine gl 46 (some 10) func46 #[G #[V I a0_0,V I a0_1,L A0_2 l0_2.length c0_2,L A0_3 l0_3.length c0_3,V I a0_4,O true]] ?_;(with_reducible refine(impl_LineOk.calls k a0_0 a0_1 (fun k_=>k_<w.heap.size) _ _ l0_2 (fun k_=>k_<w.heap.size) _ _ l0_3 a0_4 true true _ ?side1 ?side2 A3.out).mono ?_);(case side1=>exact Kd.V_mk HC1_2.out (Kd.F_below (Kd.C_F (Kd.heap_int .i64) HR1_2.out) uB));(case side2=>exact Kd.V_mk HC1_3.out (Kd.F_below (Kd.C_F (Kd.heap_int .i64) HR1_3.out) uB));rintro e w7 ⟨rfl,hb⟩;refine⟨_,rfl,?_⟩;replace HO1:=eR HO1 hb;replace HO2:=eR HO2 hb;replace BK1:=eK BK1 hb;replace BK2:=eK BK2 hb;replace BK3:=eK BK3 hb;replace HB:=eB hb;clear hb;obtain⟨_,_,_,_,_,_,_,_,_,_,_,_⟩:=d6 BK1.out;obtain⟨_,_,_,_,_,_,_,_,_,_,_,_⟩:=d6 BK3.out;obtain⟨_,_,_,_,_,_,_,_,_,_,_,_⟩:=d6 BK2.out))
 refine bodyPost_ret (results_ct rfl _ _ gb2 29 #[V I t1,V I t2,L Ao1 t3.length co1,L Ao2 t4.length co2,V I t5,O t6] (0,0) _ rfl (bK BK2.out) underlying29 rfl (by kernel_rfl)) rfl ?_
 exact⟨_,_,rE,Kd.Q_of_R (X (fR (Y HO1.out BK2.out (by decide))) (fun _ hk=>hk.1)),X (fR (Y HO2.out BK2.out (by decide))) (fun _ hk=>hk.1),uB⟩):p:=h
theorem impl_LineStep.W3 {p:Prop} (h:p:=by
    go_enter func56,ntmps56
    go_wp2_with (first|((with_reducible refine J (N:=2) rfl ?_);refine Fix.be 2 #[V I a0_0,V I a0_1,L A0_2 l0_2.length c0_2,L A0_3 l0_3.length c0_3,V I a0_4,O a0_5] 29 ?_;intro gb1 hg w2 BK1 hb;have GW1:=gE (w:=w) hg;replace HB:=eB hb;clear hb hg)|((with_reducible refine J (N:=4) rfl ?_);refine Fix.be 4 #[V I 0,V I 0,L none 0 0,L none 0 0,V I 0,O false] 29 ?_;intro gb2 hg w3 BK2 hb;have GW2:=gE (w:=w) hg;have n0:=nL hg BK1;have n1:=nG hg BK1;replace BK1:=eK BK1 hb;replace HB:=eB hb;clear hb hg;have:=n0.out;have:=n1.out;obtain⟨_,_,_,_,_,_,_,_,_,_,_,_⟩:=d6 BK1.out)|((with_reducible refine F (f:=44) rfl ?_);refine gl 44 (some 8) func44 #[G #[V I a0_0,V I a0_1,L A0_2 l0_2.length c0_2,L A0_3 l0_3.length c0_3,V I a0_4,O a0_5]] ?_;(with_reducible refine(impl_copyLine.calls a0_0 a0_1 _ _ l0_2 _ _ l0_3 a0_4 a0_5 t1 t2 t3 t4 t5 t6 _ ?side1 HC1_2.out ?side3 HC1_3.out A2.out).mono ?_);(case side1=>exact uZ HR1_2);(case side3=>exact uZ HR1_3);rintro e w4 ⟨v1,v2,rfl,ho1,ho2,hb⟩;refine⟨_,rfl,?_⟩;have HO1:=lR ho1;have HO2:=lR ho2;replace BK1:=eK BK1 hb;replace BK2:=eK BK2 hb;replace HB:=eB hb;clear hb ho1 ho2)|((with_reducible refine J (N:=6) rfl ?_);refine Fix.be 6 #[V I 0,V I 0,L none 0 0,L none 0 0,V I 0,O false] 29 ?_;intro gb3 hg w5 BK3 hb;have GW3:=gE (w:=w) hg;have n2:=nL hg BK1;have n3:=nG hg BK1;have n4:=nL hg BK2;have n5:=nG hg BK2;replace HO1:=eR HO1 hb;replace HO2:=eR HO2 hb;replace BK1:=eK BK1 hb;replace BK2:=eK BK2 hb;replace HB:=eB hb;clear hb hg;have:=n3.out;have:=n2.out;have:=n5.out;have:=n4.out;obtain⟨_,_,_,_,_,_,_,_,_,_,_,_⟩:=d6 BK3.out;obtain⟨Ao1,co1,rfl⟩:=U HO1.out;obtain⟨Ao2,co2,rfl⟩:=U HO2.out)|((with_reducible refine gate_store (t:=29) (p:=6) rfl ?_);refine store_event (t:=29) (p:=6) (v:= ?vo_w1) (w1:=((((((w5.setCell ⟨gb3,0,none⟩ (V I t1)).setCell ⟨gb3,1,none⟩ (V I t2)).setCell ⟨gb3,2,none⟩ (L Ao1 t3.length co1)).setCell ⟨gb3,3,none⟩ (L Ao2 t4.length co2)).setCell ⟨gb3,4,none⟩ (V I t5)).setCell ⟨gb3,5,none⟩ (O t6))) ?hg ?ho ?hn ?hr ?_;(case ho=>rfl);(case hg=>rfl);(case hn=>rfl);(case hr=>exact Fix.hr);intro w6 hw;replace HO1:=wR hw (Y HO1.out BK3.out (by decide));replace HO2:=wR hw (Y HO2.out BK3.out (by decide));replace BK1:=wK hw BK1;replace BK2:=wK hw BK2;replace BK3:Aside0 (w6.heap[gb3]? =some (.cells #[V I t1,V I t2,L Ao1 t3.length co1,L Ao2 t4.length co2,V I t5,O t6] 29 (0,0))):=⟨(by rw[hw];exact(bK BK3.out))⟩;replace HB:=wB hw;clear hw;obtain⟨_,_,_,_,_,_,_,_,_,_,_,_⟩:=d6 BK1.out)|((with_reducible refine F (f:=46) rfl ?_);refine gl 46 (some 10) func46 #[G #[V I a0_0,V I a0_1,L A0_2 l0_2.length c0_2,L A0_3 l0_3.length c0_3,V I a0_4,O a0_5]] ?_;(with_reducible refine(impl_LineOk.calls k a0_0 a0_1 (fun k_=>k_<w.heap.size) _ _ l0_2 (fun k_=>k_<w.heap.size) _ _ l0_3 a0_4 a0_5 true _ ?side1 ?side2 A3.out).mono ?_);(case side1=>exact Kd.V_mk HC1_2.out (Kd.F_below (Kd.C_F (Kd.heap_int .i64) HR1_2.out) uB));(case side2=>exact Kd.V_mk HC1_3.out (Kd.F_below (Kd.C_F (Kd.heap_int .i64) HR1_3.out) uB));rintro e w7 ⟨rfl,hb⟩;refine⟨_,rfl,?_⟩;replace HO1:=eR HO1 hb;replace HO2:=eR HO2 hb;replace BK1:=eK BK1 hb;replace BK2:=eK BK2 hb;replace BK3:=eK BK3 hb;replace HB:=eB hb;clear hb;obtain⟨_,_,_,_,_,_,_,_,_,_,_,_⟩:=d6 BK3.out;obtain⟨_,_,_,_,_,_,_,_,_,_,_,_⟩:=d6 BK2.out))
    first
      | (refine bodyPost_ret (results_ct rfl _ _ gb2 29 #[V I t1, V I (t4.length : Int), L none 0 0, L Ao2 t4.length co2, V I ji1, O true] (0, 0) _ rfl (bK BK2.out) underlying29 rfl (by kernel_rfl)) rfl ?_
         exact⟨_,_,by first|rfl|(simp[errW_none,errW_some]<;>rfl)|(simp only[←hji1];first|rfl|(simp[errW_none,errW_some]<;>rfl))|(simp[*,errW_none,errW_some]<;>rfl),Kd.Q_of_R (rN),X (fR (Y (Y HO2.out BK3.out (by decide)) BK2.out (by decide))) (fun _ hk=>(by simp[Value.ownBlock])),uB⟩)
      | (refine bodyPost_ret (results_ct rfl _ _ gb2 29 #[V I t1, V I t2, L Ao1 t3.length co1, L Ao2 t4.length co2, V I t5, O true] (0, 0) _ rfl (bK BK2.out) underlying29 rfl (by kernel_rfl)) rfl ?_
         exact⟨_,_,rE,Kd.Q_of_R (X (fR (Y (Y HO1.out BK3.out (by decide)) BK2.out (by decide))) (fun _ hk=>hk.1.1)),X (fR (Y (Y HO2.out BK3.out (by decide)) BK2.out (by decide))) (fun _ hk=>hk.1.1),uB⟩)
      | (refine bodyPost_ret (results_ct rfl _ _ gb2 29 #[V I t1, V I t2, L Ao1 t3.length co1, L Ao2 t4.length co2, V I t5, O false] (0, 0) _ rfl (bK BK2.out) underlying29 rfl (by kernel_rfl)) rfl ?_
         exact⟨_,_,rE,Kd.Q_of_R (X (fR (Y (Y HO1.out BK3.out (by decide)) BK2.out (by decide))) (fun _ hk=>hk.1.1)),X (fR (Y (Y HO2.out BK3.out (by decide)) BK2.out (by decide))) (fun _ hk=>hk.1.1),uB⟩)
      | (refine bodyPost_ret (results_ct rfl _ _ gb2 29 #[V I t1, V I t2, L Ao1 t3.length co1, L Ao2 t4.length co2, V I t5, O t6] (0, 0) _ rfl (bK BK2.out) underlying29 rfl (by kernel_rfl)) rfl ?_
         exact⟨_,_,rE,Kd.Q_of_R (X (fR (Y HO1.out BK2.out (by decide))) (fun _ hk=>hk.1)),X (fR (Y HO2.out BK2.out (by decide))) (fun _ hk=>hk.1),uB⟩)):p:=h
theorem impl_LineStep.calls (k:Nat) (a0_0:Int) (a0_1:Int) (A0_2:Option Addr) (c0_2:Nat) (l0_2:List Int) (A0_3:Option Addr) (c0_3:Nat) (l0_3:List Int) (a0_4:Int) (a0_5:Bool) (a1:Int) (r1:Int) (r2:Int) (r3:List Int) (r4:List Int) (r5:Int) (r6:Bool) (r7:Bool) (w:World) (hr0_2:Kd.C (Kd.int .i64) w A0_2 l0_2.length l0_2) (hc0_2:l0_2.length≤c0_2) (hr0_3:Kd.C (Kd.int .i64) w A0_3 l0_3.length l0_3) (hc0_3:l0_3.length≤c0_3) (h:impl_LineStep.f k a0_0 a0_1 l0_2 l0_3 a0_4 a0_5 a1=some (r1,r2,r3,r4,r5,r6,r7)):
 Calls prog 56 #[G #[V I a0_0,V I a0_1,L A0_2 l0_2.length c0_2,L A0_3 l0_3.length c0_3,V I a0_4,O a0_5],V I a1] w fun e w'=>∃v2_ v3_:Value,e=.returned (.tuple #[G #[V I r1,V I r2,v2_,v3_,V I r5,O r6],O r7])∧Kd.Q (Kd.int .i64) 3 w' w.heap.size (fun k_=>qm k_ v3_) v2_ r3∧Kd.R (Kd.int .i64) 3 w' w.heap.size (fun k_=>qm k_ v2_) v3_ r4∧Below w.heap.size w w':=by
 have hu1:=underlying29
 have HR1_2:=C hr0_2
 have HC1_2:=C hc0_2
 (try clear hr0_2);(try clear hc0_2)
 have HR1_3:=C hr0_3
 have HC1_3:=C hc0_3
 (try clear hr0_3);(try clear hc0_3)
 have HB:=C (Below.refl w.heap.size w)
 have H:=h
 unfold impl_LineStep.f at H
 clear h
 obtain⟨⟨t1,t2,t3,t4,t5,t6⟩,A2,H⟩:=bnd H
 dsimp only at H
 obtain⟨t7,A3,H⟩:=bnd H
 by_cases c2:t7=true
 rotate_left
 ·obtain rfl:=nt c2
  replace H:=nf H
  simp only[Option.some.injEq,Prod.mk.injEq]at H
  obtain⟨rfl,rfl,rfl,rfl,rfl,rfl,rfl⟩:=H
  go_enter func56,ntmps56
  go_wp2_with (first|((with_reducible refine J (N:=2) rfl ?_);refine Fix.be 2 #[V I a0_0,V I a0_1,L A0_2 l0_2.length c0_2,L A0_3 l0_3.length c0_3,V I a0_4,O a0_5] 29 ?_;intro gb1 hg w2 BK1 hb;have GW1:=gE (w:=w) hg;have GE1:=GW1;replace HB:=eB hb;clear hb hg)|((with_reducible refine J (N:=4) rfl ?_);refine Fix.be 4 #[V I 0,V I 0,L none 0 0,L none 0 0,V I 0,O false] 29 ?_;intro gb2 hg w3 BK2 hb;have GW2:=gE (w:=w) hg;have GE2:=GW2;have n0:=nL hg BK1;have n1:=nG hg BK1;replace BK1:=eK BK1 hb;replace HB:=eB hb;clear hb hg;have:=n0.out;have:=n1.out;obtain⟨_,_,_,_,_,_,_,_,_,_,_,_⟩:=d6 BK1.out)|((with_reducible refine F (f:=44) rfl ?_);refine gl 44 (some 8) func44 #[G #[V I a0_0,V I a0_1,L A0_2 l0_2.length c0_2,L A0_3 l0_3.length c0_3,V I a0_4,O a0_5]] ?_;(with_reducible refine(impl_copyLine.calls a0_0 a0_1 _ _ l0_2 _ _ l0_3 a0_4 a0_5 t1 t2 t3 t4 t5 t6 _ ?side1 HC1_2.out ?side3 HC1_3.out A2.out).mono ?_);(case side1=>exact uZ HR1_2);(case side3=>exact uZ HR1_3);rintro e w4 ⟨v1,v2,rfl,ho1,ho2,hb⟩;refine⟨_,rfl,?_⟩;have HO1:=lR ho1;have HO2:=lR ho2;replace BK1:=eK BK1 hb;replace BK2:=eK BK2 hb;replace HB:=eB hb;clear hb ho1 ho2)|((with_reducible refine J (N:=6) rfl ?_);refine Fix.be 6 #[V I 0,V I 0,L none 0 0,L none 0 0,V I 0,O false] 29 ?_;intro gb3 hg w5 BK3 hb;have GW3:=gE (w:=w) hg;have GE3:=GW3;have n2:=nL hg BK1;have n3:=nG hg BK1;have n4:=nL hg BK2;have n5:=nG hg BK2;replace HO1:=eR HO1 hb;replace HO2:=eR HO2 hb;replace BK1:=eK BK1 hb;replace BK2:=eK BK2 hb;replace HB:=eB hb;clear hb hg;have:=n3.out;have:=n2.out;have:=n5.out;have:=n4.out;obtain⟨_,_,_,_,_,_,_,_,_,_,_,_⟩:=d6 BK3.out;obtain⟨Ao1,co1,rfl⟩:=U HO1.out;obtain⟨Ao2,co2,rfl⟩:=U HO2.out)|((with_reducible refine gate_store (t:=29) (p:=6) rfl ?_);refine store_event (t:=29) (p:=6) (v:= ?vo_w1) (w1:=((((((w5.setCell ⟨gb3,0,none⟩ (V I t1)).setCell ⟨gb3,1,none⟩ (V I t2)).setCell ⟨gb3,2,none⟩ (L Ao1 t3.length co1)).setCell ⟨gb3,3,none⟩ (L Ao2 t4.length co2)).setCell ⟨gb3,4,none⟩ (V I t5)).setCell ⟨gb3,5,none⟩ (O t6))) ?hg ?ho ?hn ?hr ?_;(case ho=>rfl);(case hg=>rfl);(case hn=>rfl);(case hr=>exact Fix.hr);intro w6 hw;replace HO1:=wR hw (Y HO1.out BK3.out (by decide));replace HO2:=wR hw (Y HO2.out BK3.out (by decide));replace BK1:=wK hw BK1;replace BK2:=wK hw BK2;replace BK3:Aside0 (w6.heap[gb3]? =some (.cells #[V I t1,V I t2,L Ao1 t3.length co1,L Ao2 t4.length co2,V I t5,O t6] 29 (0,0))):=⟨(by rw[hw];exact(bK BK3.out))⟩;replace HB:=wB hw;clear hw;obtain⟨_,_,_,_,_,_,_,_,_,_,_,_⟩:=d6 BK1.out)|((with_reducible refine F (f:=46) rfl ?_);refine gl 46 (some 10) func46 #[G #[V I a0_0,V I a0_1,L A0_2 l0_2.length c0_2,L A0_3 l0_3.length c0_3,V I a0_4,O a0_5]] ?_;(with_reducible refine(impl_LineOk.calls k a0_0 a0_1 (fun k_=>k_<w.heap.size) _ _ l0_2 (fun k_=>k_<w.heap.size) _ _ l0_3 a0_4 a0_5 false _ ?side1 ?side2 A3.out).mono ?_);(case side1=>exact Kd.V_mk HC1_2.out (Kd.F_below (Kd.C_F (Kd.heap_int .i64) HR1_2.out) uB));(case side2=>exact Kd.V_mk HC1_3.out (Kd.F_below (Kd.C_F (Kd.heap_int .i64) HR1_3.out) uB));rintro e w7 ⟨rfl,hb⟩;refine⟨_,rfl,?_⟩;replace HO1:=eR HO1 hb;replace HO2:=eR HO2 hb;replace BK1:=eK BK1 hb;replace BK2:=eK BK2 hb;replace BK3:=eK BK3 hb;replace HB:=eB hb;clear hb;obtain⟨_,_,_,_,_,_,_,_,_,_,_,_⟩:=d6 BK3.out;obtain⟨_,_,_,_,_,_,_,_,_,_,_,_⟩:=d6 BK2.out))
  refine bodyPost_ret (results_ct rfl _ _ gb2 29 #[V I t1,V I t2,L Ao1 t3.length co1,L Ao2 t4.length co2,V I t5,O t6] (0,0) _ rfl (bK BK2.out) underlying29 rfl (by kernel_rfl)) rfl ?_
  exact⟨_,_,rE,Kd.Q_of_R (X (fR (Y HO1.out BK2.out (by decide))) (fun _ hk=>hk.1)),X (fR (Y HO2.out BK2.out (by decide))) (fun _ hk=>hk.1),uB⟩
 subst c2
 rw[if_pos rfl]at H
 by_cases c3:a1=1
 ·rw[if_pos c3]at H
  have c3b0:(a1==1)=true:=beq_iff_eq.mpr c3
  have c3b1:(a1 !=1)=false:=bne_eq_false_iff_eq.mpr c3
  clear c3
  by_cases c4:(l0_2.length:Int) ≥ 5
  ·rw[if_pos c4]at H
   have c4b0:decide (5≤(l0_2.length:Int))=true:=decide_eq_true c4
   have c4b1:decide (5≤l0_2.length)=true:=decide_eq_true (by omega)
   clear c4
   simp only[Option.some.injEq,Prod.mk.injEq]at H
   obtain⟨rfl,rfl,rfl,rfl,rfl,rfl,rfl⟩:=H
   exact impl_LineStep.W1
  rw[if_neg c4]at H
  have c4b0:decide (5≤(l0_2.length:Int))=false:=decide_eq_false c4
  have c4b1:decide (5≤l0_2.length)=false:=decide_eq_false (by omega)
  clear c4
  by_cases c5:a0_1 ≥ a0_0
  ·rw[if_pos c5]at H
   replace c5:=decide_eq_true c5
   simp only[Option.some.injEq,Prod.mk.injEq]at H
   obtain⟨rfl,rfl,rfl,rfl,rfl,rfl,rfl⟩:=H
   exact impl_LineStep.W1
  rw[if_neg c5]at H
  replace c5:=decide_eq_false c5
  by_cases c6:a0_5=true
  ·subst c6
   rw[if_pos rfl]at H
   simp only[Option.some.injEq,Prod.mk.injEq]at H
   obtain⟨rfl,rfl,rfl,rfl,rfl,rfl,rfl⟩:=H
   exact impl_LineStep.W2
  obtain rfl:=nt c6
  replace H:=nf H
  obtain⟨c7,H⟩:=np H
  have LMc1:=C c7
  clear c7
  obtain⟨y1,hy1⟩:∃y_:List Int,y_=(t3++ [a0_1]):=⟨_,rfl⟩
  replace H:(some (t1,wrap64 (t2+1),y1,t4,t5,t6,true))=some (r1,r2,r3,r4,r5,r6,r7):=gy hy1 H
  have Ny1:=C hy1
  clear hy1
  simp only[Option.some.injEq,Prod.mk.injEq]at H
  obtain⟨rfl,rfl,rfl,rfl,rfl,rfl,rfl⟩:=H
  go_enter func56,ntmps56
  go_wp2_with (first|((with_reducible refine J (N:=2) rfl ?_);refine Fix.be 2 #[V I a0_0,V I a0_1,L A0_2 l0_2.length c0_2,L A0_3 l0_3.length c0_3,V I a0_4,O false] 29 ?_;intro gb1 hg w2 BK1 hb;have GW1:=gE (w:=w) hg;have GE1:=GW1;replace HB:=eB hb;clear hb hg)|((with_reducible refine J (N:=4) rfl ?_);refine Fix.be 4 #[V I 0,V I 0,L none 0 0,L none 0 0,V I 0,O false] 29 ?_;intro gb2 hg w3 BK2 hb;have GW2:=gE (w:=w) hg;have GE2:=GW2;have n0:=nL hg BK1;have n1:=nG hg BK1;replace BK1:=eK BK1 hb;replace HB:=eB hb;clear hb hg;have:=n0.out;have:=n1.out;obtain⟨_,_,_,_,_,_,_,_,_,_,_,_⟩:=d6 BK1.out)|((with_reducible refine F (f:=44) rfl ?_);refine gl 44 (some 8) func44 #[G #[V I a0_0,V I a0_1,L A0_2 l0_2.length c0_2,L A0_3 l0_3.length c0_3,V I a0_4,O false]] ?_;(with_reducible refine(impl_copyLine.calls a0_0 a0_1 _ _ l0_2 _ _ l0_3 a0_4 false t1 t2 t3 t4 t5 t6 _ ?side1 HC1_2.out ?side3 HC1_3.out A2.out).mono ?_);(case side1=>exact uZ HR1_2);(case side3=>exact uZ HR1_3);rintro e w4 ⟨v1,v2,rfl,ho1,ho2,hb⟩;refine⟨_,rfl,?_⟩;have HO1:=lR ho1;have HO2:=lR ho2;replace BK1:=eK BK1 hb;replace BK2:=eK BK2 hb;replace HB:=eB hb;clear hb ho1 ho2)|((with_reducible refine J (N:=6) rfl ?_);refine Fix.be 6 #[V I 0,V I 0,L none 0 0,L none 0 0,V I 0,O false] 29 ?_;intro gb3 hg w5 BK3 hb;have GW3:=gE (w:=w) hg;have GE3:=GW3;have n2:=nL hg BK1;have n3:=nG hg BK1;have n4:=nL hg BK2;have n5:=nG hg BK2;replace HO1:=eR HO1 hb;replace HO2:=eR HO2 hb;replace BK1:=eK BK1 hb;replace BK2:=eK BK2 hb;replace HB:=eB hb;clear hb hg;have:=n3.out;have:=n2.out;have:=n5.out;have:=n4.out;obtain⟨_,_,_,_,_,_,_,_,_,_,_,_⟩:=d6 BK3.out;obtain⟨Ao1,co1,rfl⟩:=U HO1.out;obtain⟨Ao2,co2,rfl⟩:=U HO2.out)|((with_reducible refine gate_store (t:=29) (p:=6) rfl ?_);refine store_event (t:=29) (p:=6) (v:= ?vo_w1) (w1:=((((((w5.setCell ⟨gb3,0,none⟩ (V I t1)).setCell ⟨gb3,1,none⟩ (V I t2)).setCell ⟨gb3,2,none⟩ (L Ao1 t3.length co1)).setCell ⟨gb3,3,none⟩ (L Ao2 t4.length co2)).setCell ⟨gb3,4,none⟩ (V I t5)).setCell ⟨gb3,5,none⟩ (O t6))) ?hg ?ho ?hn ?hr ?_;(case ho=>rfl);(case hg=>rfl);(case hn=>rfl);(case hr=>exact Fix.hr);intro w6 hw;replace HO1:=wR hw (Y HO1.out BK3.out (by decide));replace HO2:=wR hw (Y HO2.out BK3.out (by decide));replace BK1:=wK hw BK1;replace BK2:=wK hw BK2;replace BK3:Aside0 (w6.heap[gb3]? =some (.cells #[V I t1,V I t2,L Ao1 t3.length co1,L Ao2 t4.length co2,V I t5,O t6] 29 (0,0))):=⟨(by rw[hw];exact(bK BK3.out))⟩;replace HB:=wB hw;clear hw;obtain⟨_,_,_,_,_,_,_,_,_,_,_,_⟩:=d6 BK1.out)|((with_reducible refine F (f:=46) rfl ?_);refine gl 46 (some 10) func46 #[G #[V I a0_0,V I a0_1,L A0_2 l0_2.length c0_2,L A0_3 l0_3.length c0_3,V I a0_4,O false]] ?_;(with_reducible refine(impl_LineOk.calls k a0_0 a0_1 (fun k_=>k_<w.heap.size) _ _ l0_2 (fun k_=>k_<w.heap.size) _ _ l0_3 a0_4 false true _ ?side1 ?side2 A3.out).mono ?_);(case side1=>exact Kd.V_mk HC1_2.out (Kd.F_below (Kd.C_F (Kd.heap_int .i64) HR1_2.out) uB));(case side2=>exact Kd.V_mk HC1_3.out (Kd.F_below (Kd.C_F (Kd.heap_int .i64) HR1_3.out) uB));rintro e w7 ⟨rfl,hb⟩;refine⟨_,rfl,?_⟩;replace HO1:=eR HO1 hb;replace HO2:=eR HO2 hb;replace BK1:=eK BK1 hb;replace BK2:=eK BK2 hb;replace BK3:=eK BK3 hb;replace HB:=eB hb;clear hb;obtain⟨_,_,_,_,_,_,_,_,_,_,_,_⟩:=d6 BK1.out;obtain⟨_,_,_,_,_,_,_,_,_,_,_,_⟩:=d6 BK3.out)|((with_reducible refine gate_builtin (b:=.append) (xs:= #[.tmp 34,.tmp 37]) rfl ?_);at_builtin;refine Kd.R_append (Kd.int .i64) (w0:=w) w.heap.size rfl (.tmp 34) (.tmp 37) 27 3 (V I 0) 8 rfl underlying27 info3 rfl (by decide) (by omega) (L Ao1 t3.length co1) t3 a0_1 [V I a0_1] (fun k_=>qn k_ Ao2 t4.length co2) (fun _=>False) rfl rfl ?aP (fun _ hk=>hk.elim) ?aF ?aO ?aB ?aS ?aL ?_;(case aP=>exact rfl);(case aB=>exact uB);(case aF=>exact(fun k_ hk=>Kd.fresh' (Kd.R_lt (uR HO2.out)) k_ hk));(case aO=>exact(uR HO1.out));(case aS=>exact(below_size uB));(case aL=>have:=LMc1.out;omega);intro v3 w8 ho hb hg hat;rw[←Ny1.out]at ho;have HO3:=C (ho);replace BK1:=gK BK1 hg (Kd.R_ne HO1.out BK1.out (by decide));replace BK2:=gK BK2 hg (Kd.R_ne HO1.out BK2.out (by decide));replace HO2:=C (Kd.R_after (ok:=(fun _=>True)) (X (fR HO2.out) (fun _ hk=>⟨trivial,hk⟩)) hg hat);replace BK3:=gK BK3 hg (Kd.R_ne HO1.out BK3.out (by decide));replace HB:=C (hb);clear HO1;clear ho hb hg hat;obtain⟨Ao3,co3,rfl⟩:=U HO3.out;obtain⟨_,_,_,_,_,_,_,_,_,_,_,_⟩:=d6 BK3.out;obtain⟨_,_,_,_,_,_,_,_,_,_,_,_⟩:=d6 BK2.out))
  refine bodyPost_ret (results_ct rfl _ _ gb2 29 #[V I t1,V I (wrap64 (t2+1)),L Ao3 y1.length co3,L Ao2 t4.length co2,V I t5,O t6] (0,0) _ rfl (bK BK2.out) underlying29 rfl (by kernel_rfl)) rfl ?_
  exact⟨_,_,rE,Kd.Q_of_R (X (fR (Y (Y HO3.out BK3.out (by decide)) BK2.out (by decide))) (fun _ hk=>hk.1.1)),X (fR (Y (Y HO2.out BK3.out (by decide)) BK2.out (by decide))) (fun _ hk=>hk.1.1.2),uB⟩
 rw[if_neg c3]at H
 have c3b0:(a1==1)=false:=beq_eq_false_iff_ne.mpr c3
 have c3b1:(a1 !=1)=true:=bne_iff_ne.mpr c3
 by_cases c4:a1=2
 rotate_left
 ·rw[if_neg c4]at H
  have c4b0:(a1==2)=false:=beq_eq_false_iff_ne.mpr c4
  have c4b1:(a1 !=2)=true:=bne_iff_ne.mpr c4
  by_cases c5:a1=3
  ·rw[if_pos c5]at H
   have c5b0:(a1==3)=true:=beq_iff_eq.mpr c5
   have c5b1:(a1 !=3)=false:=bne_eq_false_iff_eq.mpr c5
   clear c5
   obtain⟨ji1,hji1⟩:∃j_:Int,(mn 100000 (wrap64 (t5+(t3.length:Int))))=j_:=⟨_,rfl⟩
   replace H:(some (t1,(t4.length:Int),([]:List Int),t4,ji1,true,true))=some (r1,r2,r3,r4,r5,r6,r7):=by first|(rw[hji1]at H;exact H)|(simp only[hji1]at H ⊢;exact H)
   (try rw[hji1]at A2)
   (try rw[hji1]at A3)
   (try(have hji146h:ji1≤100000:=by(rw[←hji1];unfold mn;(repeat' split)<;>omega)))
   (try(have hji146g:ji1≤64:=by omega))
   have hji1_:(if(wrap64 (t5+(t3.length:Int)))<100000 then(wrap64 (t5+(t3.length:Int))) else 100000)=ji1:=hji1
   simp only[Option.some.injEq,Prod.mk.injEq]at H
   obtain⟨rfl,rfl,rfl,rfl,rfl,rfl,rfl⟩:=H
   exact impl_LineStep.W3
  rw[if_neg c5]at H
  have c5b0:(a1==3)=false:=beq_eq_false_iff_ne.mpr c5
  have c5b1:(a1 !=3)=true:=bne_iff_ne.mpr c5
  by_cases c6:a1=4
  ·rw[if_pos c6]at H
   have c6b0:(a1==4)=true:=beq_iff_eq.mpr c6
   have c6b1:(a1 !=4)=false:=bne_eq_false_iff_eq.mpr c6
   clear c6
   simp only[Option.some.injEq,Prod.mk.injEq]at H
   obtain⟨rfl,rfl,rfl,rfl,rfl,rfl,rfl⟩:=H
   exact impl_LineStep.W3
  rw[if_neg c6]at H
  have c6b0:(a1==4)=false:=beq_eq_false_iff_ne.mpr c6
  have c6b1:(a1 !=4)=true:=bne_iff_ne.mpr c6
  by_cases c7:a1=5
  rotate_left
  ·rw[if_neg c7]at H
   have c7b0:(a1==5)=false:=beq_eq_false_iff_ne.mpr c7
   have c7b1:(a1 !=5)=true:=bne_iff_ne.mpr c7
   simp only[Option.some.injEq,Prod.mk.injEq]at H
   obtain⟨rfl,rfl,rfl,rfl,rfl,rfl,rfl⟩:=H
   exact impl_LineStep.W3
  rw[if_pos c7]at H
  have c7b0:(a1==5)=true:=beq_iff_eq.mpr c7
  have c7b1:(a1 !=5)=false:=bne_eq_false_iff_eq.mpr c7
  clear c7
  simp only[Option.some.injEq,Prod.mk.injEq]at H
  obtain⟨rfl,rfl,rfl,rfl,rfl,rfl,rfl⟩:=H
  exact impl_LineStep.W3
 rw[if_pos c4]at H
 have c4b0:(a1==2)=true:=beq_iff_eq.mpr c4
 have c4b1:(a1 !=2)=false:=bne_eq_false_iff_eq.mpr c4
 clear c4
 by_cases c5:(l0_2.length:Int)=0
 ·rw[if_pos c5]at H
  have c5b0:((l0_2.length:Int)==0)=true:=beq_iff_eq.mpr c5
  have c5b1:((l0_2.length:Int) !=0)=false:=bne_eq_false_iff_eq.mpr c5
  clear c5
  simp only[Option.some.injEq,Prod.mk.injEq]at H
  obtain⟨rfl,rfl,rfl,rfl,rfl,rfl,rfl⟩:=H
  exact impl_LineStep.W1
 rw[if_neg c5]at H
 have c5b0:((l0_2.length:Int)==0)=false:=beq_eq_false_iff_ne.mpr c5
 have c5b1:((l0_2.length:Int) !=0)=true:=bne_iff_ne.mpr c5
 have c5b2:¬(l0_2= []):=fun h_=>c5 (by rw[h_];rfl)
 by_cases c6:a0_5=true
 ·subst c6
  rw[if_pos rfl]at H
  simp only[Option.some.injEq,Prod.mk.injEq]at H
  obtain⟨rfl,rfl,rfl,rfl,rfl,rfl,rfl⟩:=H
  exact impl_LineStep.W2
 obtain rfl:=nt c6
 replace H:=nf H
 obtain⟨c7,H⟩:=np H
 have c7b0:decide (0<(l0_2.length:Int))=true:=decide_eq_true c7
 have c7b1:decide (0<l0_2.length)=true:=decide_eq_true (by omega)
 clear c7
 obtain⟨c8,H⟩:=np H
 have LMc1:=C c8
 clear c8
 obtain⟨y1,hy1⟩:∃y_:List Int,y_=(t4++ [rd l0_2 0]):=⟨_,rfl⟩
 replace H:(if 1≤(t3.length:Int) then(some (t1,t2,(t3.drop (1:Int).toNat),y1,t5,t6,true)) else(none))=some (r1,r2,r3,r4,r5,r6,r7):=gy hy1 H
 have Ny1:=C hy1
 clear hy1
 obtain⟨c9,H⟩:=np H
 have c9b0:=eq_true c9
 have c9b1:decide (1≤(t3.length:Int))=true:=decide_eq_true c9
 clear c9
 obtain⟨y2,hy2⟩:∃y_:List Int,y_=(t3.drop (1:Int).toNat):=⟨_,rfl⟩
 replace H:(some (t1,t2,y2,y1,t5,t6,true))=some (r1,r2,r3,r4,r5,r6,r7):=gy hy2 H
 have Ny2:=C hy2
 clear hy2
 simp only[Option.some.injEq,Prod.mk.injEq]at H
 obtain⟨rfl,rfl,rfl,rfl,rfl,rfl,rfl⟩:=H
 go_enter func56,ntmps56
 try go_wp2_with (first|((with_reducible refine J (N:=2) rfl ?_);refine Fix.be 2 #[V I a0_0,V I a0_1,L A0_2 l0_2.length c0_2,L A0_3 l0_3.length c0_3,V I a0_4,O false] 29 ?_;intro gb1 hg w2 BK1 hb;have GW1:=gE (w:=w) hg;have GE1:=GW1;replace HB:=eB hb;clear hb hg)|((with_reducible refine J (N:=4) rfl ?_);refine Fix.be 4 #[V I 0,V I 0,L none 0 0,L none 0 0,V I 0,O false] 29 ?_;intro gb2 hg w3 BK2 hb;have GW2:=gE (w:=w) hg;have GE2:=GW2;have n0:=nL hg BK1;have n1:=nG hg BK1;replace BK1:=eK BK1 hb;replace HB:=eB hb;clear hb hg;have:=n0.out;have:=n1.out;obtain⟨_,_,_,_,_,_,_,_,_,_,_,_⟩:=d6 BK1.out)|((with_reducible refine F (f:=44) rfl ?_);refine gl 44 (some 8) func44 #[G #[V I a0_0,V I a0_1,L A0_2 l0_2.length c0_2,L A0_3 l0_3.length c0_3,V I a0_4,O false]] ?_;(with_reducible refine(impl_copyLine.calls a0_0 a0_1 _ _ l0_2 _ _ l0_3 a0_4 false t1 t2 t3 t4 t5 t6 _ ?side1 HC1_2.out ?side3 HC1_3.out A2.out).mono ?_);(case side1=>exact uZ HR1_2);(case side3=>exact uZ HR1_3);rintro e w4 ⟨v1,v2,rfl,ho1,ho2,hb⟩;refine⟨_,rfl,?_⟩;have HO1:=lR ho1;have HO2:=lR ho2;replace BK1:=eK BK1 hb;replace BK2:=eK BK2 hb;replace HB:=eB hb;clear hb ho1 ho2)|((with_reducible refine J (N:=6) rfl ?_);refine Fix.be 6 #[V I 0,V I 0,L none 0 0,L none 0 0,V I 0,O false] 29 ?_;intro gb3 hg w5 BK3 hb;have GW3:=gE (w:=w) hg;have GE3:=GW3;have n2:=nL hg BK1;have n3:=nG hg BK1;have n4:=nL hg BK2;have n5:=nG hg BK2;replace HO1:=eR HO1 hb;replace HO2:=eR HO2 hb;replace BK1:=eK BK1 hb;replace BK2:=eK BK2 hb;replace HB:=eB hb;clear hb hg;have:=n3.out;have:=n2.out;have:=n5.out;have:=n4.out;obtain⟨_,_,_,_,_,_,_,_,_,_,_,_⟩:=d6 BK3.out;obtain⟨Ao1,co1,rfl⟩:=U HO1.out;obtain⟨Ao2,co2,rfl⟩:=U HO2.out)|((with_reducible refine gate_store (t:=29) (p:=6) rfl ?_);refine store_event (t:=29) (p:=6) (v:= ?vo_w1) (w1:=((((((w5.setCell ⟨gb3,0,none⟩ (V I t1)).setCell ⟨gb3,1,none⟩ (V I t2)).setCell ⟨gb3,2,none⟩ (L Ao1 t3.length co1)).setCell ⟨gb3,3,none⟩ (L Ao2 t4.length co2)).setCell ⟨gb3,4,none⟩ (V I t5)).setCell ⟨gb3,5,none⟩ (O t6))) ?hg ?ho ?hn ?hr ?_;(case ho=>rfl);(case hg=>rfl);(case hn=>rfl);(case hr=>exact Fix.hr);intro w6 hw;replace HO1:=wR hw (Y HO1.out BK3.out (by decide));replace HO2:=wR hw (Y HO2.out BK3.out (by decide));replace BK1:=wK hw BK1;replace BK2:=wK hw BK2;replace BK3:Aside0 (w6.heap[gb3]? =some (.cells #[V I t1,V I t2,L Ao1 t3.length co1,L Ao2 t4.length co2,V I t5,O t6] 29 (0,0))):=⟨(by rw[hw];exact(bK BK3.out))⟩;replace HB:=wB hw;clear hw;obtain⟨_,_,_,_,_,_,_,_,_,_,_,_⟩:=d6 BK1.out)|((with_reducible refine F (f:=46) rfl ?_);refine gl 46 (some 10) func46 #[G #[V I a0_0,V I a0_1,L A0_2 l0_2.length c0_2,L A0_3 l0_3.length c0_3,V I a0_4,O false]] ?_;(with_reducible refine(impl_LineOk.calls k a0_0 a0_1 (fun k_=>k_<w.heap.size) _ _ l0_2 (fun k_=>k_<w.heap.size) _ _ l0_3 a0_4 false true _ ?side1 ?side2 A3.out).mono ?_);(case side1=>exact Kd.V_mk HC1_2.out (Kd.F_below (Kd.C_F (Kd.heap_int .i64) HR1_2.out) uB));(case side2=>exact Kd.V_mk HC1_3.out (Kd.F_below (Kd.C_F (Kd.heap_int .i64) HR1_3.out) uB));rintro e w7 ⟨rfl,hb⟩;refine⟨_,rfl,?_⟩;replace HO1:=eR HO1 hb;replace HO2:=eR HO2 hb;replace BK1:=eK BK1 hb;replace BK2:=eK BK2 hb;replace BK3:=eK BK3 hb;replace HB:=eB hb;clear hb;obtain⟨_,_,_,_,_,_,_,_,_,_,_,_⟩:=d6 BK1.out))
 replace HO1:=dR HO1
 replace HO2:=dR HO2
 replace BK1:=dK BK1
 replace BK2:=dK BK2
 replace BK3:=dK BK3
 replace HB:=dB HB
 have p1:0≤(0:Int):=(by omega)
 have q1:0<(l0_2.length:Int):=oT
 obtain⟨ad1,e1,hx1_0⟩:=Kd.at_int HR1_2.out 0 p1 q1
 have hw1_0:=hx1_0
 (try rw[show((0:Int)).toNat=0 from rfl]at hw1_0)
 (try rw[show 0 * 1=0 from rfl]at hw1_0)
 (try rw[Addr.add_zero']at hw1_0)
 cases e1
 have qi1:(0<l0_2.length)=True:=eq_true (by omega)
 (try rw[show((0:Int)).toNat=0 from rfl]at hx1_0)
 (try rw[Addr.add_zero']at hx1_0)
 replace hx1_0:=hx HB hx1_0
 replace p1:=eq_true p1
 replace q1:=eq_true q1
 refine start_ (n:=10) (S:=fun w'=>cr6 w' gb3 (V I t1) (V I t2) (L Ao1 t3.length co1) (L Ao2 t4.length co2) (V I t5) (O t6) (cr6 w' gb1 (V I a0_0) (V I a0_1) (L (some ad1) l0_2.length c0_2) (L A0_3 l0_3.length c0_3) (V I a0_4) (O false) (w'.cell? ad1=some (V I (rd l0_2 0))))) (ds:= [9]) #[false,false,false,false,false,false,false,false,false,false] (by kernel_rfl) rfl rfl hi (fun hHeld=> ?_);refine with_tabW impl_LineStep.tab14 impl_LineStep.bits14 (fun HT_ HW_=> ?_)
 generalize w7.drew=w8 at HO1 HO2 BK1 BK2 BK3 HB hx1_0 hHeld ⊢
 refine pu 0 (some 55) ?_
 refine pu 2 (some 57) ?_
 refine tu 1 (some 56) hHeld ?_
 refine tu 3 (some 58) hHeld ?_
 refine pu 4 (some 59) ?_
 refine tu 5 (some 60) hHeld ?_
 refine ou 6 (some 61) (fun K hK=> ?_)
 refine value_ (w1:= ?_) (v:= ?_) (by rfl) rfl ?_ ?_
 rotate_left 2
 ·go_simp
  constructor
  ·rfl
  ·rfl
 refine hK.out _ _ ⟨(blk_cell (blk_alloc BK3.out _) 0).trans rfl,(blk_cell (blk_alloc BK3.out _) 1).trans rfl,(blk_cell (blk_alloc BK3.out _) 2).trans rfl,(blk_cell (blk_alloc BK3.out _) 3).trans rfl,(blk_cell (blk_alloc BK3.out _) 4).trans rfl,(blk_cell (blk_alloc BK3.out _) 5).trans rfl,(blk_cell (blk_alloc BK1.out _) 0).trans rfl,(blk_cell (blk_alloc BK1.out _) 1).trans rfl,(blk_cell (blk_alloc BK1.out _) 2).trans rfl,(blk_cell (blk_alloc BK1.out _) 3).trans rfl,(blk_cell (blk_alloc BK1.out _) 4).trans rfl,(blk_cell (blk_alloc BK1.out _) 5).trans rfl,(World.cell?_alloc_lt _ _ _ (World.block_lt_of_cell? _ _ (((HB.out.cell (World.block_lt_of_cell? w _ hw1_0)).trans hw1_0)))).trans (((HB.out.cell (World.block_lt_of_cell? w _ hw1_0)).trans hw1_0))⟩ (fun hHeld=> ?_)
 clear hK K
 refine nu (N:=(some 61)) ?_
 refine ou 7 (some 62) (fun K hK=> ?_)
 refine Kd.R_append_step (Kd.int .i64) (w0:=w) w.heap.size (by rfl) (.tmp 56) (.tmp 61) 27 3 (V I 0) 8 rfl underlying27 info3 rfl (by decide) (by omega) (L Ao2 t4.length co2) t4 (rd l0_2 0) [V I (rd l0_2 0)] (fun k_=>qn k_ Ao1 t3.length co1) (fun _=>False) rfl rfl ?aP (fun _ hk=>hk.elim) ?aF ?aO ?aB ?aS ?aL ?_
 (case aP=>exact rfl)
 (case aB=>exact uB)
 (case aF=>exact(fun k_ hk=>Kd.fresh' (Kd.R_lt (uR HO1.out)) k_ hk))
 (case aO=>exact(uR HO2.out))
 (case aS=>exact(below_size uB))
 (case aL=>have:=LMc1.out;omega)
 intro v3 w9 ho hb hg hat
 rw[←Ny1.out]at ho
 have HO3:=C (ho)
 replace BK1:=gK BK1 hg (Kd.R_ne HO2.out BK1.out (by decide))
 replace BK2:=gK BK2 hg (Kd.R_ne HO2.out BK2.out (by decide))
 replace HO1:=C (Kd.R_after (ok:=(fun _=>True)) (X (fR HO1.out) (fun _ hk=>⟨trivial,hk⟩)) hg hat)
 replace BK3:=gK BK3 hg (Kd.R_ne HO2.out BK3.out (by decide))
 replace HB:=C (hb)
 clear HO2
 clear ho hb hg hat
 obtain⟨Ao3,co3,eo3⟩:=U HO3.out
 (first|subst eo3|(injection eo3 with f1_ f2_ f3_;have f4_:=f1_.symm;have f5_:=f3_.symm;clear f1_ f2_ f3_;subst f4_;subst f5_))
 refine hK.out _ _ ⟨(blk_cell BK3.out 0).trans rfl,(blk_cell BK3.out 1).trans rfl,(blk_cell BK3.out 2).trans rfl,(blk_cell BK3.out 3).trans rfl,(blk_cell BK3.out 4).trans rfl,(blk_cell BK3.out 5).trans rfl,(blk_cell BK1.out 0).trans rfl,(blk_cell BK1.out 1).trans rfl,(blk_cell BK1.out 2).trans rfl,(blk_cell BK1.out 3).trans rfl,(blk_cell BK1.out 4).trans rfl,(blk_cell BK1.out 5).trans rfl,((HB.out.cell (World.block_lt_of_cell? w _ hw1_0)).trans hw1_0)⟩ (fun hHeld=> ?_)
 clear hK K
 refine nu (N:=(some 62)) ?_
 refine pu 8 (some 63) ?_
 refine last_ (i:=9) (N:=none) #[true,true,true,true,true,true,true,true,true,true] rfl rfl (one_of HT_.out (by kernel_rfl)) (by decide) (fun K hK=> ?_)
 have hs1:w9.cell? ⟨gb3,3,none⟩=some (L Ao2 t4.length co2):=(blk_cell BK3.out 3).trans rfl
 have hfs1:=blk_frozen BK3.out 3
 have hns1_0:=n2.out
 have hns1_1:=n4.out
 have hms1_0:=n3.out
 have hms1_1:=n5.out
 refine skip_ (w1:= ?_) (by rfl) rfl ?_ ?_
 rotate_left
 ·go_simp
  rfl
 refine hK.out _ _ ?_
 clear hK K
 refine done_ (done_of HT_.out (by kernel_rfl)) ?_
 obtain⟨w10,hw⟩:∃w_,w_=w9.setCell ⟨gb3,3,none⟩ (L Ao3 y1.length co3):=⟨_,rfl⟩
 (try rw[←hw])
 replace HO1:Aside0 (Kd.R _ _ _ _ (fun k_=>qn k_ Ao3 y1.length co3) _ _):=tR hw (Y HO1.out BK3.out (by decide)) (fun _ hk=>hk.1.2)
 replace HO3:=wR hw (Y HO3.out BK3.out (by decide))
 replace BK1:=wK hw BK1
 replace BK2:=wK hw BK2
 replace BK3:Aside0 (w10.heap[gb3]? =some (.cells #[V I t1,V I t2,L Ao1 t3.length co1,L Ao3 y1.length co3,V I t5,O t6] 29 (0,0))):=⟨(by rw[hw];exact(bK BK3.out))⟩
 replace HB:=wB hw
 clear hw
 obtain⟨_,_,_,_,_,_,_,_,_,_,_,_⟩:=d6 BK3.out
 have q2:(1:Int)≤((t3.length:Int):Int):=oT
 obtain⟨i0143,hi1,_,hsz1,_⟩:=info_parts info3
 have hcut1:=cut_from (P:=prog) 27 3 .i64 underlying27 hi1 1 hsz1 Ao1 t3.length co1 1 (by omega) q2
 have hr1:=Kd.Q_drop (k:=(1:Int).toNat) (Kd.Q_of_R HO1.out) (by omega)
 obtain⟨A4,hA1⟩:∃A1,A1=(if co1=(1:Int).toNat then Ao1 else(Ao1:Option Addr).map (·.add ((1:Int).toNat * 1))):=⟨_,rfl⟩
 obtain⟨c10,hc1⟩:∃c1,c1=co1 - (1:Int).toNat:=⟨_,rfl⟩
 have hy3:y2.length=t3.length - (1:Int).toNat:=(by rw[Ny2.out,List.length_drop])
 rw[←Ny2.out]at hr1
 rw[←hy3,←hA1,←hc1]at hcut1
 replace hr1:Kd.Q (Kd.int .i64) 3 w10 w.heap.size (fun k_=>qn k_ Ao3 y1.length co3) (L A4 y2.length c10) y2:=(by rw[hA1,hc1,hy3];exact hr1)
 have HE1:Aside0 ((Value.slice A4 y2.length c10).ownBlock=(L Ao1 t3.length co1:Value).ownBlock):=⟨by rw[hA1];split<;>(cases(Ao1:Option Addr)<;>rfl)⟩
 clear hy3 hi1 hsz1 HO1 hA1 hc1
 have HO4:=C hr1
 (try clear hr1)
 replace q2:=eq_true q2
 have n_:=C (X (ok':=fun k_=>some k_≠(L A4 y2.length c10:Value).ownBlock) HO3.out (fun k_ hk=>(by rw[HE1.out];exact hk)))
 clear HO3
 have HO3:=n_
 clear n_
 obtain⟨_,_,_,_,_,_,_,_,_,_,_,_⟩:=d6 BK2.out
 try go_wp2
 refine bodyPost_ret (results_ct rfl _ _ gb2 29 #[V I t1,V I t2,L A4 y2.length c10,L Ao3 y1.length co3,V I t5,O t6] (0,0) _ rfl (bK BK2.out) underlying29 rfl (by kernel_rfl)) rfl ?_
 exact⟨_,_,rE,Kd.Q_mono (fQ (Kd.Q_types (Kd.Q_types HO4.out BK3.out (by decide)) BK2.out (by decide))) (fun _ hk=>hk.1.1),X (fR (Y (Y HO3.out BK3.out (by decide)) BK2.out (by decide))) (fun _ hk=>hk.1.1),uB⟩
end Go.Proofs.YtgdnlmfoghpeoaaGreatDoor.PFnExactRunScript
