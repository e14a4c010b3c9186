/- Calls do what plain Lean functions say (FnPrinted). No condition. -/
import Derived.Test.YtaceidiookkocaaQFnPrinted0
import Derived.Test.YtaceidiookkocaaQFnPrinted2
namespace Go.Proofs.Ytaceidiookkocaa.PFnPrinted
open Go.RowKit Go.Proofs.YtaceidiookkocaaW.PrintWords Go.Proofs.YtaceidiookkocaaW.PrintLast Go.Proofs.YtaceidiookkocaaW.PrintMore
open Try
open Fix (bK bnd cf1 cf4 cl4 cl6 cs6 d4 d6 dB dK eB eK eS fR fS gE gK gl gs gy hh hi hx lR nG nL nf nl np nt nu oL oT ou pu qm rE rS si tu uB uK uS uZ wB wK)
open Go.Value renaming int→V,slice→L,agg→G
open Go.IntKind renaming i64→I
open Go.Proofs.YtaceidiookkocaaW.PrintWords.Aside0 renaming mk→C
open Go.Proofs.YtaceidiookkocaaW.PrintWords renaming Aside0→D,gate_dst→J
attribute [local go_sem] max2_int min2_int max_two min_two max_three min_three max_four min_four
attribute [local go_sem] Fix.isSome_setCell
set_option linter.unusedVariables false
set_option maxHeartbeats 40000000
set_option maxRecDepth 100000
set_option linter.unusedSimpArgs false
def impl_copyObject.f (l0_0:List (S126)) (a0_1:Int) (a0_2:Int) (a0_3:Int) (a0_4:Int) (a0_5:Int):Option ((List (S126))×Int×Int×Int×Int×Int):=(impl_Point.f l0_0).bind fun t348=>(some (t348,a0_1,a0_2,a0_3,a0_4,a0_5))
theorem impl_copyObject.calls (A0_0:Option Addr) (c0_0:Nat) (l0_0:List (S126)) (a0_1:Int) (a0_2:Int) (a0_3:Int) (a0_4:Int) (a0_5:Int) (r1:List (S126)) (r2:Int) (r3:Int) (r4:Int) (r5:Int) (r6:Int) (w:World) (hr0_0:Kd.C k126 w A0_0 l0_0.length l0_0) (hc0_0:l0_0.length≤c0_0) (h:impl_copyObject.f l0_0 a0_1 a0_2 a0_3 a0_4 a0_5=some (r1,r2,r3,r4,r5,r6)):
 Calls prog 92 #[G #[L A0_0 l0_0.length c0_0,V I a0_1,V I a0_2,V I a0_3,V I a0_4,V I a0_5]] w fun e w'=>∃v0_:Value,e=.returned (G #[v0_,V I r2,V I r3,V I r4,V I r5,V I r6])∧Kd.R k126 126 w' w.heap.size (fun _=>True) v0_ r1∧Below w.heap.size w w':=by
 have hu1:=underlying77
 have HR1_0:=C hr0_0
 have HC1_0:=C hc0_0
 (try clear hr0_0);(try clear hc0_0)
 have HB:=C (Below.refl w.heap.size w)
 have H:=h
 unfold impl_copyObject.f at H
 clear h
 obtain⟨t1,A1,H⟩:=bnd H
 simp only[Option.some.injEq,Prod.mk.injEq]at H
 obtain⟨rfl,rfl,rfl,rfl,rfl,rfl⟩:=H
 go_enter func92,ntmps92
 go_wp2_with (first|((with_reducible refine J (N:=1) rfl ?_);refine Fix.be 1 #[L A0_0 l0_0.length c0_0,V I a0_1,V I a0_2,V I a0_3,V I a0_4,V I a0_5] 77 ?_;intro gb1 hg w1 BK1 hb;have GW1:=gE (w:=w) hg;replace HB:=eB hb;clear hb hg)|((with_reducible refine J (N:=2) rfl ?_);refine Fix.be 2 #[L none 0 0,V I 0,V I 0,V I 0,V I 0,V I 0] 77 ?_;intro gb2 hg w2 BK2 hb;have GW2:=gE (w:=w) hg;have n0:=nL hg BK1;have n1:=nG hg BK1;replace BK1:=eK BK1 hb;replace HB:=eB hb;clear hb hg;have:=n0.out;have:=n1.out;obtain⟨_,_,_,_,_,_,_,_,_,_,_,_⟩:=d6 BK1.out)|((with_reducible refine gate_callee (f:=114) rfl ?_);refine gl 114 (some 5) func114 #[L A0_0 l0_0.length c0_0] ?_;(with_reducible refine(impl_Point.calls _ _ l0_0 t1 _ ?side1 HC1_0.out A1.out).mono ?_);(case side1=>exact uZ HR1_0);rintro e w3 ⟨v1,rfl,ho1,hb⟩;refine⟨_,rfl,?_⟩;have HO1:=lR ho1;replace BK1:=eK BK1 hb;replace BK2:=eK BK2 hb;replace HB:=eB hb;clear hb ho1;obtain⟨Ao1,co1,rfl⟩:=Kd.R_slice HO1.out;obtain⟨_,_,_,_,_,_,_,_,_,_,_,_⟩:=d6 BK1.out;obtain⟨_,_,_,_,_,_,_,_,_,_,_,_⟩:=d6 BK2.out))
 refine bodyPost_ret (results_cell_row rfl _ _ gb2 77 #[L Ao1 t1.length co1,V I a0_1,V I a0_2,V I a0_3,V I a0_4,V I a0_5] (0,0) _ rfl (bK BK2.out) underlying77 rfl (by kernel_rfl)) rfl ?_
 exact⟨_,rE,Kd.R_mono (fR (Kd.R_types (Kd.R_types HO1.out BK1.out (by decide)) BK2.out (by decide))) (fun _ hk=>trivial),uB⟩
def impl_copyObjects.l0:Nat→List (S77)→List (S77)→Int→Int→Option ((List (S77)))
  |0,_,_,_,_=>none
  |k+1,x3,x6,x7,x8=>if x8<x7 then(if 0≤x8 then(if x8<(x6.length:Int) then((impl_copyObject.f ((rd_T77 x6 x8).f0) ((rd_T77 x6 x8).f1) ((rd_T77 x6 x8).f2.f0) ((rd_T77 x6 x8).f2.f1) ((rd_T77 x6 x8).f2.f2) ((rd_T77 x6 x8).f2.f3)).bind fun bt353=>(if x3.length<2199023255552 then(impl_copyObjects.l0 k (x3++ [(⟨bt353.1,bt353.2.1,(⟨bt353.2.2.1,bt353.2.2.2.1,bt353.2.2.2.2.1,bt353.2.2.2.2.2⟩:S75)⟩:S77)]) x6 x7 (wrap64 (x8+1))) else(none))) else(none)) else(none)) else(some x3)
def impl_copyObjects.f (k:Nat) (l0:List (S77)):Option ((List (S77))):=impl_copyObjects.l0 k ([]:List (S77)) l0 (l0.length:Int) 0
theorem impl_copyObjects.calls (k:Nat) (A0:Option Addr) (c0:Nat) (l0:List (S77)) (r:List (S77)) (w:World) (hr0:Kd.C k77 w A0 l0.length l0) (hc0:l0.length≤c0) (h:impl_copyObjects.f k l0=some r):
 Calls prog 110 #[L A0 l0.length c0] w fun e w'=>∃v0_:Value,e=.returned (v0_)∧Kd.S k77 77 w' w.heap.size (fun _=>True) v0_ r∧Below w.heap.size w w':=by
 have hu1:=underlying77
 have HR1:=C hr0
 have HC1:=C hc0
 (try clear hr0);(try clear hc0)
 have HB:=C (Below.refl w.heap.size w)
 have H:=h
 unfold impl_copyObjects.f at H
 clear h
 have H':=C H
 clear H
 go_enter func110,ntmps110
 go_wp2
 go_loopg [3,8] k (fun kq v3 v8 w'=>∃(x1_1:List (S77)) (x2_1:Int),v8=V I x2_1∧D (impl_copyObjects.l0 kq x1_1 l0 (l0.length:Int) x2_1=some r)∧D (kq≤k)∧D (Kd.S k77 77 w' w.heap.size (fun _=>True) v3 x1_1)∧D (Below w.heap.size w w'))
 case atStart=>exact⟨(([]:List (S77))),(0),rS,H',⟨Nat.le_refl _⟩,⟨by first|exact Kd.S_nil _ _ _ _ _|exact Kd.N_nil _ _ _ _ _|exact Kd.V_nil _ _ _ _ _|exact Kd.Q_nil _ _ _ _ _|exact Kd.R_nil _ _ _ _ _⟩,⟨uB⟩⟩
 case round=>
  clear H'
  obtain⟨x1_1,x2_1,rfl,HA,HK1,HO_1,HB⟩:=hrel
  cases gk with
  |zero=>exact absurd HA.out (by simp[impl_copyObjects.l0])
  |succ k1=>
   have H:=HA.out
   clear HA
   simp only[impl_copyObjects.l0]at H
   by_cases c1:x2_1<(l0.length:Int)
   rotate_left
   ·rw[if_neg c1]at H
    replace c1:=decide_eq_false c1
    obtain rfl:=si H
    go_wp2
    go_ret
    exact⟨_,rE,fS HO_1.out,uB⟩
   rw[if_pos c1]at H
   replace c1:=decide_eq_true c1
   obtain⟨c2,H⟩:=np H
   replace c2:=decide_eq_true c2
   obtain⟨c3,H⟩:=np H
   replace c3:=decide_eq_true c3
   obtain⟨⟨t1,t2,t3,t4,t5,t6⟩,A1,H⟩:=bnd H
   dsimp only at H
   obtain⟨c4,H⟩:=np H
   have LMc1:=C c4
   clear c4
   obtain⟨y1,hy1⟩:∃y_:List (S77),y_=(x1_1++ [(⟨t1,t2,(⟨t3,t4,t5,t6⟩:S75)⟩:S77)]):=⟨_,rfl⟩
   replace H:(impl_copyObjects.l0 k1 y1 l0 (l0.length:Int) (wrap64 (x2_1+1)))=some r:=gy hy1 H
   have Ny1:=C hy1
   clear hy1
   have H':=C H
   clear H
   have p1:0≤(x2_1:Int):=oT
   have q1:x2_1<(l0.length:Int):=oT
   obtain⟨ad1,A2_0,c5_0,e1,hx1_0,hx1_1,hx1_2,hx1_3,hx1_4,hx1_5,hl1_0,hi1_0⟩:=at_T77 HR1.out x2_1 p1 q1
   cases e1
   replace hx1_0:=hx HB hx1_0
   replace hx1_1:=hx HB hx1_1
   replace hx1_2:=hx HB hx1_2
   replace hx1_3:=hx HB hx1_3
   replace hx1_4:=hx HB hx1_4
   replace hx1_5:=hx HB hx1_5
   have HR2_0:=C hi1_0
   have HC2_0:=C hl1_0
   clear hi1_0 hl1_0
   replace p1:=eq_true p1
   replace q1:=eq_true q1
   go_wp2_with (first|((with_reducible refine J (N:=5) rfl ?_);refine Fix.be 5 #[L none 0 0,V I 0,V I 0,V I 0,V I 0,V I 0] 77 ?_;intro gb1 hg w1 BK1 hb;have GW1:=gE (w:=w) hg;replace HO_1:=C (Kd.S_below (Kd.S_elderB (uS HO_1.out) gb1 (Nat.le_of_eq hg.symm)) hb);replace HB:=eB hb;clear hb hg;obtain⟨_,_,_,_,_,_,_,_,_,_,_,_⟩:=d6 BK1.out)|((with_reducible refine gate_callee (f:=92) rfl ?_);refine gl 92 (some 14) func92 #[G #[L A2_0 ((rd_T77 l0 x2_1).f0).length c5_0,V I ((rd_T77 l0 x2_1).f1),V I ((rd_T77 l0 x2_1).f2.f0),V I ((rd_T77 l0 x2_1).f2.f1),V I ((rd_T77 l0 x2_1).f2.f2),V I ((rd_T77 l0 x2_1).f2.f3)]] ?_;(with_reducible refine(impl_copyObject.calls _ _ ((rd_T77 l0 x2_1).f0) ((rd_T77 l0 x2_1).f1) ((rd_T77 l0 x2_1).f2.f0) ((rd_T77 l0 x2_1).f2.f1) ((rd_T77 l0 x2_1).f2.f2) ((rd_T77 l0 x2_1).f2.f3) t1 t2 t3 t4 t5 t6 _ ?side1 HC2_0.out A1.out).mono ?_);(case side1=>exact Kd.C_below HR2_0.out uB);rintro e w2 ⟨v1,rfl,ho1,hb⟩;refine⟨_,rfl,?_⟩;have HO1:=lR ho1;replace HO_1:=C (Kd.S_elder' (Kd.S_mono (fS (Kd.S_mono HO_1.out (fun k_ hk=>(⟨hk,hk.2⟩:_∧k_≠gb1)))) (fun _ h_=>h_.1)) (Kd.R_base ho1) hb);replace BK1:=C (blk_below (g:=gb1) (o:=.cells #[L A2_0 ((rd_T77 l0 x2_1).f0).length c5_0,V I ((rd_T77 l0 x2_1).f1),V I ((rd_T77 l0 x2_1).f2.f0),V I ((rd_T77 l0 x2_1).f2.f1),V I ((rd_T77 l0 x2_1).f2.f2),V I ((rd_T77 l0 x2_1).f2.f3)] 77 (0,0)) (bK BK1.out) hb);replace HB:=eB hb;clear hb ho1;obtain⟨Ao1,co1,rfl⟩:=Kd.R_slice HO1.out)|((with_reducible refine gate_builtin (b:=.append) (xs:= #[.tmp 12,.tmp 15]) rfl ?_);at_builtin;refine Kd.S_append k77 (w0:=w) w.heap.size rfl (.tmp 12) (.tmp 15) 42 77 (G #[(L none 0 0),(V I 0),(V I 0),(V I 0),(V I 0),(V I 0)]) 64 rfl underlying42 info77 rfl (by decide) (by omega) u3 x1_1 (⟨t1,t2,(⟨t3,t4,t5,t6⟩:S75)⟩:S77) [L Ao1 t1.length co1,V I t2,V I t3,V I t4,V I t5,V I t6] (fun k_=>k_≠gb1) (fun k_=>some k_=(L Ao1 t1.length co1:Value).ownBlock) rfl rfl ?aP (fun k_ hk_=>((Kd.R_mono (ok':=fun k_=>((fun k_=>k_≠gb1)) k_∧qm k_ u3) (Kd.R_types (Kd.R_apart' (HO1.out) (Kd.S_typed HO_1.out) (by decide)) BK1.out (by decide)) (fun k_ hk=>⟨hk.2,hk.1.2⟩))).1 k_ hk_.symm) ?aF ?aO ?aB ?aS ?aL ?_;(case aP=>exact k77_mkM _ _ _ (⟨t1,t2,(⟨t3,t4,t5,t6⟩:S75)⟩:S77) (Kd.R_mono (Kd.R_tight rfl (Kd.R_mono (ok':=fun k_=>((fun k_=>k_≠gb1)) k_∧qm k_ u3) (Kd.R_types (Kd.R_apart' (HO1.out) (Kd.S_typed HO_1.out) (by decide)) BK1.out (by decide)) (fun k_ hk=>⟨hk.2,hk.1.2⟩))) (fun _ h_=>h_)));(case aB=>exact uB);(case aF=>exact(fun k_ hk=>Kd.freshB (g:=gb1) (o:=.cells #[L A2_0 ((rd_T77 l0 x2_1).f0).length c5_0,V I ((rd_T77 l0 x2_1).f1),V I ((rd_T77 l0 x2_1).f2.f0),V I ((rd_T77 l0 x2_1).f2.f1),V I ((rd_T77 l0 x2_1).f2.f2),V I ((rd_T77 l0 x2_1).f2.f3)] 77 (0,0)) (uK BK1.out) k_ hk));(case aO=>exact(Kd.S_mono (fS HO_1.out) (fun k_ hk=>⟨hk.1.2,fun e_=>hk.2 e_⟩)));(case aS=>exact(below_size uB));(case aL=>have:=LMc1.out;omega);intro v2 w3 ho hb hg hat;rw[←Ny1.out]at ho;have HO2:=C (ho);replace BK1:=gK BK1 hg (Kd.S_away HO_1.out (fun _ hk=>hk.1.2));replace HB:=C (hb);clear HO_1;clear HO1;clear ho hb hg hat))
   go_roundg k1
   case measure=>have:=HK1.out;omega
   case rel=>exact⟨(y1),(wrap64 (x2_1+1)),rS,H',⟨by have:=HK1.out;omega⟩,⟨Kd.S_mono (fS HO2.out) (fun _ hk=>trivial)⟩,⟨uB⟩⟩
def impl_copyBand.f (k:Nat) (a0_0:Int) (a0_1:Int) (l0_2:List (List Int)) (l0_3:List (S77)):Option (Int×Int×(List (List Int))×(List (S77))):=(impl_copyRows.f k l0_2).bind fun t366=>((impl_copyObjects.f k l0_3).bind fun t369=>(some (a0_0,a0_1,t366,t369)))
def impl_copyBand.T1:Bool×List (List Nat×List Nat):=(true,[([],[]),([0],[0]),([1],[1]),([],[]),([3],[3]),([4,2],[4]),([0,1,2,3,4],[]),([6,2,5,0,1,2,3,4],[2,6]),([0,1,2,3,4,5,6,7],[]),([8,5,7,0,1,2,3,4,5,6,7],[5,8])])
def impl_copyBand.B1:List Nat:= [0,1,3,0,8,31,31,127,255,511]
theorem impl_copyBand.tab1:rtab .any (opsOf Try.f88 1)=impl_copyBand.T1:=by kernel_rfl
theorem impl_copyBand.bits1:waitsOk impl_copyBand.T1.2 impl_copyBand.B1=true:=by kernel_rfl
theorem impl_copyBand.calls (k:Nat) (a0_0:Int) (a0_1:Int) (A0_2:Option Addr) (c0_2:Nat) (l0_2:List (List Int)) (A0_3:Option Addr) (c0_3:Nat) (l0_3:List (S77)) (r1:Int) (r2:Int) (r3:List (List Int)) (r4:List (S77)) (w:World) (hr0_2:Kd.C (Kd.slice 3 (Kd.int .i64)) w A0_2 l0_2.length l0_2) (hc0_2:l0_2.length≤c0_2) (hr0_3:Kd.C k77 w A0_3 l0_3.length l0_3) (hc0_3:l0_3.length≤c0_3) (h:impl_copyBand.f k a0_0 a0_1 l0_2 l0_3=some (r1,r2,r3,r4)):
 Calls prog 88 #[G #[V I a0_0,V I a0_1,L A0_2 l0_2.length c0_2,L A0_3 l0_3.length c0_3]] w fun e w'=>∃v2_ v3_:Value,e=.returned (G #[V I r1,V I r2,v2_,v3_])∧Kd.S (Kd.slice 3 (Kd.int .i64)) 39 w' w.heap.size (fun _=>True) v2_ r3∧Kd.S k77 77 w' w.heap.size (fun _=>True) v3_ r4∧Below w.heap.size w w':=by
 have hu1:=underlying70
 have HR1_2:=C hr0_2
 have HC1_2:=C hc0_2
 (try clear hr0_2);(try clear hc0_2)
 have HR1_3:=C hr0_3
 have HC1_3:=C hc0_3
 (try clear hr0_3);(try clear hc0_3)
 have HB:=C (Below.refl w.heap.size w)
 have H:=h
 unfold impl_copyBand.f at H
 clear h
 obtain⟨t1,A1,H⟩:=bnd H
 obtain⟨t2,A2,H⟩:=bnd H
 simp only[Option.some.injEq,Prod.mk.injEq]at H
 obtain⟨rfl,rfl,rfl,rfl⟩:=H
 go_enter func88,ntmps88
 try go_wp2_with (first|((with_reducible refine J (N:=1) rfl ?_);refine Fix.be 1 #[V I a0_0,V I a0_1,L A0_2 l0_2.length c0_2,L A0_3 l0_3.length c0_3] 70 ?_;intro gb1 hg w2 BK1 hb;have GW1:=gE (w:=w) hg;replace HB:=eB hb;clear hb hg)|((with_reducible refine J (N:=2) rfl ?_);refine Fix.be 2 #[V I 0,V I 0,L none 0 0,L none 0 0] 70 ?_;intro gb2 hg w3 BK2 hb;have GW2:=gE (w:=w) hg;have n0:=nL hg BK1;have n1:=nG hg BK1;replace BK1:=eK BK1 hb;replace HB:=eB hb;clear hb hg))
 replace BK1:=dK BK1
 replace BK2:=dK BK2
 replace HB:=dB HB
 refine start_ (n:=10) (S:=fun w'=>cl4 w' gb1 (V I a0_0) (V I a0_1) (L A0_2 l0_2.length c0_2) (L A0_3 l0_3.length c0_3)) (ds:= [7,9]) #[false,false,false,false,false,false,false,false,false,false] (by kernel_rfl) rfl rfl hh (fun hHeld=> ?_);refine with_tabW impl_copyBand.tab1 impl_copyBand.bits1 (fun HT_ HW_=> ?_)
 generalize w3.drew=w4 at BK1 BK2 HB hHeld ⊢
 refine pu 0 (some 3) ?_
 refine pu 3 (some 6) ?_
 refine tu 1 (some 4) hHeld ?_
 refine tu 4 (some 7) hHeld ?_
 refine ou 2 (some 5) (fun K hK=> ?_)
 refine gs func44 #[L A0_2 l0_2.length c0_2] ?_
 with_reducible refine(impl_copyRows.calls k _ _ l0_2 t1 _ ?side1 HC1_2.out A1.out).mono ?_
 (case side1=>exact uZ HR1_2)
 rintro e w5 ⟨v1,rfl,ho1,hb⟩
 refine⟨_,rfl,?_⟩
 have HO1:=C (Kd.S_lower ho1 (below_size uB))
 replace BK1:=eK BK1 hb
 replace BK2:=eK BK2 hb
 replace HB:=eB hb
 (try clear hb)
 refine hK.out _ _ hh (fun hHeld=> ?_)
 clear hK K
 refine nu (N:=(some 5)) ?_
 refine pu 6 (some 9) ?_
 refine ou 5 (some 8) (fun K hK=> ?_)
 refine gs func110 #[L A0_3 l0_3.length c0_3] ?_
 with_reducible refine(impl_copyObjects.calls k _ _ l0_3 t2 _ ?side1 HC1_3.out A2.out).mono ?_
 (case side1=>exact uZ HR1_3)
 rintro e w6 ⟨v2,rfl,ho1,hb⟩
 refine⟨_,rfl,?_⟩
 have HO2:=C (Kd.S_lower ho1 (below_size uB))
 replace HO1:=eS HO1 hb
 replace BK1:=eK BK1 hb
 replace BK2:=eK BK2 hb
 replace HB:=eB hb
 (try clear hb)
 obtain⟨Ao1,co1,eo1⟩:=Kd.S_slice HO1.out
 (first|subst eo1|(injection eo1 with f1_ f2_ f3_;have f4_:=f1_.symm;have f5_:=f3_.symm;clear f1_ f2_ f3_;subst f4_;subst f5_))
 obtain⟨Ao2,co2,eo2⟩:=Kd.S_slice HO2.out
 (first|subst eo2|(injection eo2 with f1_ f2_ f3_;have f4_:=f1_.symm;have f5_:=f3_.symm;clear f1_ f2_ f3_;subst f4_;subst f5_))
 refine hK.out _ _ hh (fun hHeld=> ?_)
 clear hK K
 refine nu (N:=(some 8)) ?_
 refine last_ (i:=7) (N:=none) #[true,true,true,true,true,true,true,true,false,false] rfl rfl (one_of HT_.out (by kernel_rfl)) (by decide) (fun K hK=> ?_)
 have hs1:w6.cell? ⟨gb1,2,none⟩=some (L A0_2 l0_2.length c0_2):=(blk_cell BK1.out 2).trans rfl
 have hfs1:=blk_frozen BK1.out 2
 have hns1_1:=n1.out
 have hms1_1:=n0.out
 refine skip_ (w1:= ?_) (by rfl) rfl ?_ ?_
 rotate_left
 ·go_simp
  rfl
 refine hK.out _ _ ?_
 clear hK K
 refine pu 8 (some 10) ?_
 refine last_ (i:=9) (N:=none) #[true,true,true,true,true,true,true,true,true,true] rfl rfl (one_of HT_.out (by kernel_rfl)) (by decide) (fun K hK=> ?_)
 have hs2:w6.cell? ⟨gb1,3,none⟩=some (L A0_3 l0_3.length c0_3):=(blk_cell BK1.out 3).trans rfl
 have hfs2:=blk_frozen BK1.out 3
 have hns2_1:=n1.out
 have hms2_1:=n0.out
 refine skip_ (w1:= ?_) (by rfl) rfl ?_ ?_
 rotate_left
 ·go_simp
  rfl
 refine hK.out _ _ ?_
 clear hK K
 refine done_ (done_of HT_.out (by kernel_rfl)) ?_
 have:=n0.out
 have:=n1.out
 obtain⟨_,_,_,_,_,_,_,_⟩:=d4 BK1.out
 obtain⟨_,_,_,_,_,_,_,_⟩:=d4 BK2.out
 try go_wp2
 refine bodyPost_ret (results_cell_row rfl _ _ gb2 70 #[V I a0_0,V I a0_1,L Ao1 t1.length co1,L Ao2 t2.length co2] (0,0) _ rfl (bK BK2.out) underlying70 rfl (by kernel_rfl)) rfl ?_
 exact⟨_,_,rE,Kd.S_mono (fS (Kd.S_types (Kd.S_types HO1.out BK1.out (by decide)) BK2.out (by decide))) (fun _ hk=>trivial),Kd.S_mono (fS (Kd.S_types (Kd.S_types HO2.out BK1.out (by decide)) BK2.out (by decide))) (fun _ hk=>trivial),uB⟩
def impl_MeetBox.j0:Nat→Bool→Int→Int→Int→Int→Int→Int→Int→Int→Option (Int×Int×Int×Int)
  |0,_,_,_,_,_,_,_,_,_=>none
  |k+1,x13,x373000,x373001,x373002,x373003,x374000,x374001,x374002,x374003=>if x13=true then(some (0,0,0,0)) else(if(mx x373000 x374000) ≥ (mn x373002 x374002) then(some (0,0,0,0)) else(if(mx x373001 x374001) ≥ (mn x373003 x374003) then(some (0,0,0,0)) else(some (mx x373000 x374000,mx x373001 x374001,mn x373002 x374002,mn x373003 x374003))))
def impl_MeetBox.f (k:Nat) (a0_0:Int) (a0_1:Int) (a0_2:Int) (a0_3:Int) (a1_0:Int) (a1_1:Int) (a1_2:Int) (a1_3:Int):Option (Int×Int×Int×Int):=(impl_BoxOk.f a0_0 a0_1 a0_2 a0_3).bind fun t375=>(if t375=true then((impl_BoxOk.f a1_0 a1_1 a1_2 a1_3).bind fun t376=>(impl_MeetBox.j0 k (!t376) a0_0 a0_1 a0_2 a0_3 a1_0 a1_1 a1_2 a1_3)) else(impl_MeetBox.j0 k true a0_0 a0_1 a0_2 a0_3 a1_0 a1_1 a1_2 a1_3))
theorem impl_MeetBox.W1 {p:Prop} (h:p:=by
 go_wp2_with (first|((with_reducible refine J (N:=5) rfl ?_);refine Fix.be 5 #[V I 0,V I 0,V I 0,V I 0] 75 ?_;intro gb4 hg w4 BK4 hb;have GW4:=gE (w:=w) hg;have n0:=nL hg BK1;have n1:=nG hg BK1;have n2:=nL hg BK2;have n3:=nG hg BK2;have n4:=nL hg BK3;have n5:=nG hg BK3;replace BK1:=eK BK1 hb;replace BK2:=eK BK2 hb;replace BK3:=eK BK3 hb;replace HB:=eB hb;clear hb hg;have:=n1.out;have:=n0.out;have:=n3.out;have:=n2.out;have:=n5.out;have:=n4.out;obtain⟨_,_,_,_,_,_,_,_⟩:=d4 BK4.out;obtain⟨_,_,_,_,_,_,_,_⟩:=d4 BK3.out))
 refine bodyPost_ret (results_cell_row rfl _ _ gb3 75 #[V I 0,V I 0,V I 0,V I 0] (0,0) _ rfl (bK BK3.out) underlying75 rfl (by kernel_rfl)) rfl ?_
 exact⟨by first|rfl|(simp[errW_none,errW_some]<;>rfl)|(simp only[←hji1,←hji2,←hji3,←hji4];first|rfl|(simp[errW_none,errW_some]<;>rfl))|(simp[*,errW_none,errW_some]<;>rfl),uB⟩):p:=h
theorem impl_MeetBox.calls (k:Nat) (a0_0:Int) (a0_1:Int) (a0_2:Int) (a0_3:Int) (a1_0:Int) (a1_1:Int) (a1_2:Int) (a1_3:Int) (r1:Int) (r2:Int) (r3:Int) (r4:Int) (w:World) (h:impl_MeetBox.f k a0_0 a0_1 a0_2 a0_3 a1_0 a1_1 a1_2 a1_3=some (r1,r2,r3,r4)):
 Calls prog 122 #[G #[V I a0_0,V I a0_1,V I a0_2,V I a0_3],G #[V I a1_0,V I a1_1,V I a1_2,V I a1_3]] w fun e w'=>e=.returned (G #[V I r1,V I r2,V I r3,V I r4])∧Below w.heap.size w w':=by
 have hu1:=underlying75
 have HB:=C (Below.refl w.heap.size w)
 have H:=h
 unfold impl_MeetBox.f at H
 clear h
 have HC1:=C H
 clear H
 go_enter func122,ntmps122
 go_upto_region 1 with(first|((with_reducible refine J (N:=2) rfl ?_);refine Fix.be 2 #[V I a0_0,V I a0_1,V I a0_2,V I a0_3] 75 ?_;intro gb1 hg w1 BK1 hb;have GW1:=gE (w:=w) hg;replace HB:=eB hb;clear hb hg)|((with_reducible refine J (N:=3) rfl ?_);refine Fix.be 3 #[V I a1_0,V I a1_1,V I a1_2,V I a1_3] 75 ?_;intro gb2 hg w2 BK2 hb;have GW2:=gE (w:=w) hg;have n0:=nL hg BK1;have n1:=nG hg BK1;replace BK1:=eK BK1 hb;replace HB:=eB hb;clear hb hg)|((with_reducible refine J (N:=4) rfl ?_);refine Fix.be 4 #[V I 0,V I 0,V I 0,V I 0] 75 ?_;intro gb3 hg w3 BK3 hb;have GW3:=gE (w:=w) hg;have n2:=nL hg BK1;have n3:=nG hg BK1;have n4:=nL hg BK2;have n5:=nG hg BK2;replace BK1:=eK BK1 hb;replace BK2:=eK BK2 hb;replace HB:=eB hb;clear hb hg))
 (try simp only[Act.put,List.setIfInBounds_toArray,List.set_cons_zero,List.set_cons_succ])
 go_cut [13] (fun v13 wc=>∃(kq:Nat) (x1_2:Bool),v13=.bool x1_2∧D (impl_MeetBox.j0 kq x1_2 a0_0 a0_1 a0_2 a0_3 a1_0 a1_1 a1_2 a1_3=some (r1,r2,r3,r4))∧D (kq≤k)∧D (wc.heap[gb1]? =some (.cells #[V I a0_0,V I a0_1,V I a0_2,V I a0_3] 75 (0,0)))∧D (wc.heap[gb2]? =some (.cells #[V I a1_0,V I a1_1,V I a1_2,V I a1_3] 75 (0,0)))∧D (wc.heap[gb3]? =some (.cells #[V I 0,V I 0,V I 0,V I 0] 75 (0,0)))∧D (Below w.heap.size w wc))
 case first=>
  have H:=HC1.out
  clear HC1
  obtain⟨t1,A1,H⟩:=bnd H
  by_cases c1:t1=true
  rotate_left
  ·obtain rfl:=nt c1
   replace H:=nf H
   have H':=C H
   clear H
   have:=n0.out
   have:=n1.out
   have:=n2.out
   have:=n3.out
   obtain⟨_,_,_,_,_,_,_,_⟩:=d4 BK1.out
   go_wp2_with (first|((with_reducible refine gate_callee (f:=109) rfl ?_);refine gl 109 (some 7) func109 #[G #[V I a0_0,V I a0_1,V I a0_2,V I a0_3]] ?_;(with_reducible refine(impl_BoxOk.calls a0_0 a0_1 a0_2 a0_3 false _ A1.out).mono ?_);rintro e w4 ⟨rfl,hb⟩;refine⟨_,rfl,?_⟩;replace BK1:=eK BK1 hb;replace BK2:=eK BK2 hb;replace BK3:=eK BK3 hb;replace HB:=eB hb;clear hb))
   go_meet
   case rel=>exact⟨_,(true),rS,H',⟨oL⟩,⟨bK BK1.out⟩,⟨bK BK2.out⟩,⟨bK BK3.out⟩,⟨uB⟩⟩
  subst c1
  rw[if_pos rfl]at H
  obtain⟨t2,A2,H⟩:=bnd H
  have H':=C H
  clear H
  have:=n0.out
  have:=n1.out
  have:=n2.out
  have:=n3.out
  obtain⟨_,_,_,_,_,_,_,_⟩:=d4 BK1.out
  go_wp2_with (first|((with_reducible refine gate_callee (f:=109) rfl ?_);refine gl 109 (some 7) func109 #[G #[V I a0_0,V I a0_1,V I a0_2,V I a0_3]] ?_;(with_reducible refine(impl_BoxOk.calls a0_0 a0_1 a0_2 a0_3 true _ A1.out).mono ?_);rintro e w4 ⟨rfl,hb⟩;refine⟨_,rfl,?_⟩;replace BK1:=eK BK1 hb;replace BK2:=eK BK2 hb;replace BK3:=eK BK3 hb;replace HB:=eB hb;clear hb;have:=n4.out;have:=n5.out;obtain⟨_,_,_,_,_,_,_,_⟩:=d4 BK2.out)|(go_at_call 109;(with_reducible refine(impl_BoxOk.calls a1_0 a1_1 a1_2 a1_3 t2 _ A2.out).mono ?_);rintro e w5 ⟨rfl,hb⟩;replace BK1:=eK BK1 hb;replace BK2:=eK BK2 hb;replace BK3:=eK BK3 hb;replace HB:=eB hb;clear hb))
  go_meet
  case rel=>exact⟨_,(!t2),rS,H',⟨oL⟩,⟨bK BK1.out⟩,⟨bK BK2.out⟩,⟨bK BK3.out⟩,⟨uB⟩⟩
 case rest=>
  clear HC1
  obtain⟨kq,x1_2,rfl,HA,HJ1,BK1,BK2,BK3,HB⟩:=hcut
  cases kq with
  |zero=>exact absurd HA.out (by simp[impl_MeetBox.j0])
  |succ kj2=>
   have H:=HA.out
   clear HA
   simp only[impl_MeetBox.j0]at H
   by_cases c1:x1_2=true
   ·subst c1
    rw[if_pos rfl]at H
    simp only[Option.some.injEq,Prod.mk.injEq]at H
    obtain⟨rfl,rfl,rfl,rfl⟩:=H
    have:=n3.out
    have:=n2.out
    have:=n5.out
    have:=n4.out
    obtain⟨_,_,_,_,_,_,_,_⟩:=d4 BK3.out
    go_wp2
    refine bodyPost_ret (results_cell_row rfl _ _ gb3 75 #[V I 0,V I 0,V I 0,V I 0] (0,0) _ rfl (bK BK3.out) underlying75 rfl (by kernel_rfl)) rfl ?_
    exact⟨rE,uB⟩
   obtain rfl:=nt c1
   replace H:=nf H
   obtain⟨ji1,hji1⟩:∃j_:Int,(mx a0_0 a1_0)=j_:=⟨_,rfl⟩
   replace H:(if(ji1) ≥ (mn a0_2 a1_2) then(some (0,0,0,0)) else(if(mx a0_1 a1_1) ≥ (mn a0_3 a1_3) then(some (0,0,0,0)) else(some (ji1,mx a0_1 a1_1,mn a0_2 a1_2,mn a0_3 a1_3))))=some (r1,r2,r3,r4):=by first|(rw[hji1]at H;exact H)|(simp only[hji1]at H ⊢;exact H)
   have hji1_:(if a0_0<a1_0 then a1_0 else a0_0)=ji1:=hji1
   obtain⟨ji2,hji2⟩:∃j_:Int,(mx a0_1 a1_1)=j_:=⟨_,rfl⟩
   replace H:(if(ji1) ≥ (mn a0_2 a1_2) then(some (0,0,0,0)) else(if(ji2) ≥ (mn a0_3 a1_3) then(some (0,0,0,0)) else(some (ji1,ji2,mn a0_2 a1_2,mn a0_3 a1_3))))=some (r1,r2,r3,r4):=by first|(rw[hji2]at H;exact H)|(simp only[hji2]at H ⊢;exact H)
   have hji2_:(if a0_1<a1_1 then a1_1 else a0_1)=ji2:=hji2
   obtain⟨ji3,hji3⟩:∃j_:Int,(mn a0_2 a1_2)=j_:=⟨_,rfl⟩
   replace H:(if(ji1) ≥ (ji3) then(some (0,0,0,0)) else(if(ji2) ≥ (mn a0_3 a1_3) then(some (0,0,0,0)) else(some (ji1,ji2,ji3,mn a0_3 a1_3))))=some (r1,r2,r3,r4):=by first|(rw[hji3]at H;exact H)|(simp only[hji3]at H ⊢;exact H)
   have hji3_:(if a1_2<a0_2 then a1_2 else a0_2)=ji3:=hji3
   obtain⟨ji4,hji4⟩:∃j_:Int,(mn a0_3 a1_3)=j_:=⟨_,rfl⟩
   replace H:(if(ji1) ≥ (ji3) then(some (0,0,0,0)) else(if(ji2) ≥ (ji4) then(some (0,0,0,0)) else(some (ji1,ji2,ji3,ji4))))=some (r1,r2,r3,r4):=by first|(rw[hji4]at H;exact H)|(simp only[hji4]at H ⊢;exact H)
   have hji4_:(if a1_3<a0_3 then a1_3 else a0_3)=ji4:=hji4
   by_cases c2:(ji1) ≥ (ji3)
   ·rw[if_pos c2]at H
    replace c2:=decide_eq_true c2
    simp only[Option.some.injEq,Prod.mk.injEq]at H
    obtain⟨rfl,rfl,rfl,rfl⟩:=H
    have:=n0.out
    have:=n1.out
    have:=n2.out
    have:=n3.out
    obtain⟨_,_,_,_,_,_,_,_⟩:=d4 BK1.out
    have:=n4.out
    have:=n5.out
    obtain⟨_,_,_,_,_,_,_,_⟩:=d4 BK2.out
    exact impl_MeetBox.W1
   rw[if_neg c2]at H
   replace c2:=decide_eq_false c2
   by_cases c3:(ji2) ≥ (ji4)
   ·rw[if_pos c3]at H
    replace c3:=decide_eq_true c3
    simp only[Option.some.injEq,Prod.mk.injEq]at H
    obtain⟨rfl,rfl,rfl,rfl⟩:=H
    have:=n0.out
    have:=n1.out
    have:=n2.out
    have:=n3.out
    obtain⟨_,_,_,_,_,_,_,_⟩:=d4 BK1.out
    have:=n4.out
    have:=n5.out
    obtain⟨_,_,_,_,_,_,_,_⟩:=d4 BK2.out
    exact impl_MeetBox.W1
   rw[if_neg c3]at H
   replace c3:=decide_eq_false c3
   simp only[Option.some.injEq,Prod.mk.injEq]at H
   obtain⟨rfl,rfl,rfl,rfl⟩:=H
   have:=n0.out
   have:=n1.out
   have:=n2.out
   have:=n3.out
   obtain⟨_,_,_,_,_,_,_,_⟩:=d4 BK1.out
   have:=n4.out
   have:=n5.out
   obtain⟨_,_,_,_,_,_,_,_⟩:=d4 BK2.out
   go_wp2_with (first|((with_reducible refine J (N:=5) rfl ?_);refine Fix.be 5 #[V I 0,V I 0,V I 0,V I 0] 75 ?_;intro gb4 hg w4 BK4 hb;have GW4:=gE (w:=w) hg;have n6:=nL hg BK1;have n7:=nG hg BK1;have n8:=nL hg BK2;have n9:=nG hg BK2;have n10:=nL hg BK3;have n11:=nG hg BK3;replace BK1:=eK BK1 hb;replace BK2:=eK BK2 hb;replace BK3:=eK BK3 hb;replace HB:=eB hb;clear hb hg;have:=n7.out;have:=n6.out;have:=n9.out;have:=n8.out;have:=n11.out;have:=n10.out;obtain⟨_,_,_,_,_,_,_,_⟩:=d4 BK4.out;obtain⟨_,_,_,_,_,_,_,_⟩:=d4 BK3.out))
   refine bodyPost_ret (results_cell_row rfl _ _ gb3 75 #[V I ji1,V I ji2,V I ji3,V I ji4] (0,0) _ rfl (bK BK3.out) underlying75 rfl (by kernel_rfl)) rfl ?_
   exact⟨by first|rfl|(simp[errW_none,errW_some]<;>rfl)|(simp only[←hji1,←hji2,←hji3,←hji4];first|rfl|(simp[errW_none,errW_some]<;>rfl))|(simp[*,errW_none,errW_some]<;>rfl),uB⟩
mutual
def impl_BoxOf.j0:Nat→List (S126)→Bool→Option (Int×Int×Int×Int)
  |0,_,_=>none
  |k+1,x0,x13=>if x13=true then(some (0,0,0,0)) else(if 0<(x0.length:Int) then(impl_BoxOf.l0 k x0 (x0.length:Int) 0 ((rd_T126 x0 0).f0) ((rd_T126 x0 0).f1) ((rd_T126 x0 0).f0) ((rd_T126 x0 0).f1)) else(none))
def impl_BoxOf.l0:Nat→List (S126)→Int→Int→Int→Int→Int→Int→Option (Int×Int×Int×Int)
  |0,_,_,_,_,_,_,_=>none
  |k+1,x32,x33,x34,x385000,x385001,x385002,x385003=>if x34<x33 then(if 0≤x34 then(if x34<(x32.length:Int) then(impl_BoxOf.l0 k x32 x33 (wrap64 (x34+1)) (mn x385000 ((rd_T126 x32 x34).f0)) (mn x385001 ((rd_T126 x32 x34).f1)) (mx x385002 ((rd_T126 x32 x34).f0)) (mx x385003 ((rd_T126 x32 x34).f1))) else(none)) else(none)) else(some (x385000,x385001,x385002,x385003))
end
def impl_BoxOf.f (k:Nat) (l0:List (S126)):Option (Int×Int×Int×Int):=if(l0.length:Int)=0 then(impl_BoxOf.j0 k l0 true) else((impl_pointsOk.f k l0).bind fun t379=>(impl_BoxOf.j0 k l0 (!t379)))
def impl_BoxOf.T3:Bool×List (List Nat×List Nat):=(true,[([],[]),([0],[0]),([1],[1]),([2],[2]),([],[]),([4],[4]),([5],[5]),([6],[6]),([],[]),([8],[8]),([9],[9]),([10],[10]),([],[]),([12],[12]),([13],[13]),([14],[14]),([3,7,11,15],[3,7,11,15]),([],[]),([17,16,0,1,2,3,4,5,6,7,8,9,10,11,12,13,14,15,16,17],[16,17])])
def impl_BoxOf.B3:List Nat:= [0,1,3,7,0,16,48,112,0,256,768,1792,0,4096,12288,28672,65535,0,262143]
theorem impl_BoxOf.tab3:rtab .any (opsOf Try.f123 3)=impl_BoxOf.T3:=by kernel_rfl
theorem impl_BoxOf.bits3:waitsOk impl_BoxOf.T3.2 impl_BoxOf.B3=true:=by kernel_rfl
def impl_BoxOf.T7:Bool×List (List Nat×List Nat):=(true,[([],[]),([0],[0]),([],[]),([2],[2]),([1,3],[1,3]),([],[]),([5],[5]),([],[]),([7],[7]),([6,8],[6,8]),([0,1,2,3,4,5,6],[]),([10,4,0,1,2,3,4,5,6],[4,10]),([0,1,2,3,4,5,6,7,8,9,10,11],[]),([12,9,11,0,1,2,3,4,5,6,7,8,9,10,11],[9,12])])
def impl_BoxOf.B7:List Nat:= [0,1,0,4,15,0,32,0,128,480,127,1151,4095,8191]
theorem impl_BoxOf.tab7:rtab .any (opsOf Try.f123 7)=impl_BoxOf.T7:=by kernel_rfl
theorem impl_BoxOf.bits7:waitsOk impl_BoxOf.T7.2 impl_BoxOf.B7=true:=by kernel_rfl
def impl_BoxOf.T8:Bool×List (List Nat×List Nat):=(true,[([],[]),([0],[0]),([],[]),([2],[2]),([1,3],[1,3]),([],[]),([5],[5]),([],[]),([7],[7]),([6,8],[6,8]),([0,1,2,3,4,5,6],[]),([10,4,0,1,2,3,4,5,6],[4,10]),([0,1,2,3,4,5,6,7,8,9,10,11],[]),([12,9,11,0,1,2,3,4,5,6,7,8,9,10,11],[9,12])])
def impl_BoxOf.B8:List Nat:= [0,1,0,4,15,0,32,0,128,480,127,1151,4095,8191]
theorem impl_BoxOf.tab8:rtab .any (opsOf Try.f123 8)=impl_BoxOf.T8:=by kernel_rfl
theorem impl_BoxOf.bits8:waitsOk impl_BoxOf.T8.2 impl_BoxOf.B8=true:=by kernel_rfl
theorem impl_BoxOf.W1 {p:Prop} (h:p:=by
    go_wp2
    first
      | (refine bodyPost_ret (results_cell_row rfl _ _ gb1 75 #[V I 0, V I 0, V I 0, V I 0] (0, 0) _ rfl (bK BK1.out) underlying75 rfl (by kernel_rfl)) rfl ?_
         exact⟨rE,uB⟩)
      | (refine bodyPost_ret (results_cell_row rfl _ _ gb1 75 #[V I x3_2, V I x4_2, V I x5_2, V I x6_2] (0, 0) _ rfl (bK BK1.out) underlying75 rfl (by kernel_rfl)) rfl ?_
         exact⟨rE,uB⟩)):p:=h
theorem impl_BoxOf.calls (k:Nat) (A0:Option Addr) (c0:Nat) (l0:List (S126)) (r1:Int) (r2:Int) (r3:Int) (r4:Int) (w:World) (hr0:Kd.C k126 w A0 l0.length l0) (hc0:l0.length≤c0) (h:impl_BoxOf.f k l0=some (r1,r2,r3,r4)):
 Calls prog 123 #[L A0 l0.length c0] w fun e w'=>e=.returned (G #[V I r1,V I r2,V I r3,V I r4])∧Below w.heap.size w w':=by
 have hu1:=underlying75
 have hu2:=underlying126
 have HR1:=C hr0
 have HC1:=C hc0
 (try clear hr0);(try clear hc0)
 have HB:=C (Below.refl w.heap.size w)
 have H:=h
 unfold impl_BoxOf.f at H
 clear h
 have HC2:=C H
 clear H
 go_enter func123,ntmps123
 go_upto_region 1 with(first|((with_reducible refine J (N:=2) rfl ?_);refine Fix.be 2 #[V I 0,V I 0,V I 0,V I 0] 75 ?_;intro gb1 hg w2 BK1 hb;have GW1:=gE (w:=w) hg;replace HB:=eB hb;clear hb hg))
 (try simp only[Act.put,List.setIfInBounds_toArray,List.set_cons_zero,List.set_cons_succ])
 go_cut [13] (fun v13 wc=>∃(kq:Nat) (x1_1:Bool),v13=.bool x1_1∧D (impl_BoxOf.j0 kq l0 x1_1=some (r1,r2,r3,r4))∧D (kq≤k)∧D (wc.heap[gb1]? =some (.cells #[V I 0,V I 0,V I 0,V I 0] 75 (0,0)))∧D (Below w.heap.size w wc))
 case first=>
  have H:=HC2.out
  clear HC2
  by_cases c1:(l0.length:Int)=0
  ·rw[if_pos c1]at H
   have c1b0:((l0.length:Int)==0)=true:=beq_iff_eq.mpr c1
   have c1b1:((l0.length:Int) !=0)=false:=bne_eq_false_iff_eq.mpr c1
   clear c1
   (first|rw[c1b0]|(simp only[i64_w,i32_w];rw[c1b0])|skip)
   have H':=C H
   clear H
   go_wp2
   go_meet
   case rel=>exact⟨_,(true),rS,H',⟨oL⟩,⟨bK BK1.out⟩,⟨uB⟩⟩
  rw[if_neg c1]at H
  have c1b0:((l0.length:Int)==0)=false:=beq_eq_false_iff_ne.mpr c1
  have c1b1:((l0.length:Int) !=0)=true:=bne_iff_ne.mpr c1
  have c1b2:¬(l0= []):=fun h_=>c1 (by rw[h_];rfl)
  (first|rw[c1b0]|(simp only[i64_w,i32_w];rw[c1b0])|skip)
  obtain⟨t1,A1,H⟩:=bnd H
  have H':=C H
  clear H
  go_wp2_with (first|(go_at_call 108;(with_reducible refine(impl_pointsOk.calls k _ _ l0 t1 _ ?side1 HC1.out A1.out).mono ?_);(case side1=>exact uZ HR1);rintro e w3 ⟨rfl,hb⟩;replace BK1:=eK BK1 hb;replace HB:=eB hb;clear hb))
  go_meet
  case rel=>exact⟨_,(!t1),rS,H',⟨oL⟩,⟨bK BK1.out⟩,⟨uB⟩⟩
 case rest=>
  clear HC2
  obtain⟨kq,x1_1,rfl,HA,HJ1,BK1,HB⟩:=hcut
  cases kq with
  |zero=>exact absurd HA.out (by simp[impl_BoxOf.j0])
  |succ kj1=>
   have H:=HA.out
   clear HA
   simp only[impl_BoxOf.j0]at H
   by_cases c1:x1_1=true
   ·subst c1
    rw[if_pos rfl]at H
    simp only[Option.some.injEq,Prod.mk.injEq]at H
    obtain⟨rfl,rfl,rfl,rfl⟩:=H
    obtain⟨hcz1_0,hcz1_1,_,_,hfz1_0,hfz1_1,_,_⟩:=d4 BK1.out
    exact impl_BoxOf.W1
   obtain rfl:=nt c1
   replace H:=nf H
   obtain⟨c2,H⟩:=np H
   have c2b0:decide (0<(l0.length:Int))=true:=decide_eq_true c2
   have c2b1:decide (0<l0.length)=true:=decide_eq_true (by omega)
   clear c2
   have H':=C H
   clear H
   try go_wp2
   replace BK1:=dK BK1
   replace HB:=dB HB
   have p1:0≤(0:Int):=(by omega)
   have q1:0<(l0.length:Int):=oT
   obtain⟨ad1,e1,hx1_0,hx1_1⟩:=at_T126 HR1.out 0 p1 q1
   have hw1_1:=hx1_1
   (try rw[show((0:Int)).toNat=0 from rfl]at hw1_1)
   (try rw[show 0 * 2=0 from rfl]at hw1_1)
   (try rw[Addr.add_zero']at hw1_1)
   have hw1_0:=hx1_0
   (try rw[show((0:Int)).toNat=0 from rfl]at hw1_0)
   (try rw[show 0 * 2=0 from rfl]at hw1_0)
   (try rw[Addr.add_zero']at hw1_0)
   cases e1
   have qi1:(0<l0.length)=True:=eq_true (by omega)
   (try rw[show((0:Int)).toNat=0 from rfl]at hx1_0)
   (try rw[show 0 * 2=0 from rfl]at hx1_0)
   (try rw[Addr.add_zero']at hx1_0)
   (try rw[show((0:Int)).toNat=0 from rfl]at hx1_1)
   (try rw[show 0 * 2=0 from rfl]at hx1_1)
   (try rw[Addr.add_zero']at hx1_1)
   replace hx1_0:=hx HB hx1_0
   replace hx1_1:=hx HB hx1_1
   replace p1:=eq_true p1
   replace q1:=eq_true q1
   have p2:0≤(0:Int):=(by omega)
   have q2:0<(l0.length:Int):=oT
   obtain⟨ad2,e2,hx2_0,hx2_1⟩:=at_T126 HR1.out 0 p2 q2
   have hw2_1:=hx2_1
   (try rw[show((0:Int)).toNat=0 from rfl]at hw2_1)
   (try rw[show 0 * 2=0 from rfl]at hw2_1)
   (try rw[Addr.add_zero']at hw2_1)
   have hw2_0:=hx2_0
   (try rw[show((0:Int)).toNat=0 from rfl]at hw2_0)
   (try rw[show 0 * 2=0 from rfl]at hw2_0)
   (try rw[Addr.add_zero']at hw2_0)
   obtain rfl:ad1=ad2:=(by injection e2)
   have qi2:(0<l0.length)=True:=eq_true (by omega)
   (try rw[show((0:Int)).toNat=0 from rfl]at hx2_0)
   (try rw[show 0 * 2=0 from rfl]at hx2_0)
   (try rw[Addr.add_zero']at hx2_0)
   (try rw[show((0:Int)).toNat=0 from rfl]at hx2_1)
   (try rw[show 0 * 2=0 from rfl]at hx2_1)
   (try rw[Addr.add_zero']at hx2_1)
   replace hx2_0:=hx HB hx2_0
   replace hx2_1:=hx HB hx2_1
   replace p2:=eq_true p2
   replace q2:=eq_true q2
   have p3:0≤(0:Int):=(by omega)
   have q3:0<(l0.length:Int):=oT
   obtain⟨ad3,e3,hx3_0,hx3_1⟩:=at_T126 HR1.out 0 p3 q3
   have hw3_1:=hx3_1
   (try rw[show((0:Int)).toNat=0 from rfl]at hw3_1)
   (try rw[show 0 * 2=0 from rfl]at hw3_1)
   (try rw[Addr.add_zero']at hw3_1)
   have hw3_0:=hx3_0
   (try rw[show((0:Int)).toNat=0 from rfl]at hw3_0)
   (try rw[show 0 * 2=0 from rfl]at hw3_0)
   (try rw[Addr.add_zero']at hw3_0)
   obtain rfl:ad1=ad3:=(by injection e3)
   have qi3:(0<l0.length)=True:=eq_true (by omega)
   (try rw[show((0:Int)).toNat=0 from rfl]at hx3_0)
   (try rw[show 0 * 2=0 from rfl]at hx3_0)
   (try rw[Addr.add_zero']at hx3_0)
   (try rw[show((0:Int)).toNat=0 from rfl]at hx3_1)
   (try rw[show 0 * 2=0 from rfl]at hx3_1)
   (try rw[Addr.add_zero']at hx3_1)
   replace hx3_0:=hx HB hx3_0
   replace hx3_1:=hx HB hx3_1
   replace p3:=eq_true p3
   replace q3:=eq_true q3
   have p4:0≤(0:Int):=(by omega)
   have q4:0<(l0.length:Int):=oT
   obtain⟨ad4,e4,hx4_0,hx4_1⟩:=at_T126 HR1.out 0 p4 q4
   have hw4_1:=hx4_1
   (try rw[show((0:Int)).toNat=0 from rfl]at hw4_1)
   (try rw[show 0 * 2=0 from rfl]at hw4_1)
   (try rw[Addr.add_zero']at hw4_1)
   have hw4_0:=hx4_0
   (try rw[show((0:Int)).toNat=0 from rfl]at hw4_0)
   (try rw[show 0 * 2=0 from rfl]at hw4_0)
   (try rw[Addr.add_zero']at hw4_0)
   obtain rfl:ad1=ad4:=(by injection e4)
   have qi4:(0<l0.length)=True:=eq_true (by omega)
   (try rw[show((0:Int)).toNat=0 from rfl]at hx4_0)
   (try rw[show 0 * 2=0 from rfl]at hx4_0)
   (try rw[Addr.add_zero']at hx4_0)
   (try rw[show((0:Int)).toNat=0 from rfl]at hx4_1)
   (try rw[show 0 * 2=0 from rfl]at hx4_1)
   (try rw[Addr.add_zero']at hx4_1)
   replace hx4_0:=hx HB hx4_0
   replace hx4_1:=hx HB hx4_1
   replace p4:=eq_true p4
   replace q4:=eq_true q4
   refine start_ (n:=19) (S:=fun w'=>w'.cell? ad1=some (V I ((rd_T126 l0 0).f0))∧w'.cell? ⟨ad1.block,ad1.off+1,none⟩=some (V I ((rd_T126 l0 0).f1))∧w'.cell? ad1=some (V I ((rd_T126 l0 0).f0))∧w'.cell? ⟨ad1.block,ad1.off+1,none⟩=some (V I ((rd_T126 l0 0).f1))∧w'.cell? ad1=some (V I ((rd_T126 l0 0).f0))∧w'.cell? ⟨ad1.block,ad1.off+1,none⟩=some (V I ((rd_T126 l0 0).f1))∧w'.cell? ad1=some (V I ((rd_T126 l0 0).f0))∧w'.cell? ⟨ad1.block,ad1.off+1,none⟩=some (V I ((rd_T126 l0 0).f1))) (ds:= []) #[false,false,false,false,false,false,false,false,false,false,false,false,false,false,false,false,false,false,false] (by kernel_rfl) rfl rfl hi (fun hHeld=> ?_);refine with_tabW impl_BoxOf.tab3 impl_BoxOf.bits3 (fun HT_ HW_=> ?_)
   generalize wc.drew=w3 at BK1 HB hx1_0 hx1_1 hx2_0 hx2_1 hx3_0 hx3_1 hx4_0 hx4_1 hHeld ⊢
   refine pu 0 (some 15) ?_
   refine pu 1 (some 16) ?_
   refine pu 2 (some 17) ?_
   refine pu 4 (some 19) ?_
   refine pu 5 (some 20) ?_
   refine pu 6 (some 21) ?_
   refine pu 8 (some 23) ?_
   refine pu 9 (some 24) ?_
   refine pu 10 (some 25) ?_
   refine pu 12 (some 27) ?_
   refine pu 13 (some 28) ?_
   refine pu 14 (some 29) ?_
   refine tu 3 (some 18) hHeld ?_
   refine tu 7 (some 22) hHeld ?_
   refine tu 11 (some 26) hHeld ?_
   refine tu 15 (some 30) hHeld ?_
   refine pu 16 (some 31) ?_
   refine ou 17 (some 3) (fun K hK=> ?_)
   refine box_step ?hg (N:=3) ?hd (cs:= #[V I 0,V I 0,V I 0,V I 0]) (t:=75) ?hr ?_;(case hd=>rfl);(case hg=>rfl);(case hr=>exact Fix.hr)
   intro gb2 hg w4 hbox hb
   have BK2:=C hbox
   have GW2:=gE (w:=w) hg
   have GE2:=gE (w:=w) hg
   have n0:=nL hg BK1
   have n1:=nG hg BK1
   replace BK1:=eK BK1 hb
   replace HB:=eB hb
   clear hb hbox hg
   refine hK.out _ _ ⟨((HB.out.cell (World.block_lt_of_cell? w _ hw1_0)).trans hw1_0),((HB.out.cell (World.block_lt_of_cell? w _ hw1_1)).trans hw1_1),((HB.out.cell (World.block_lt_of_cell? w _ hw2_0)).trans hw2_0),((HB.out.cell (World.block_lt_of_cell? w _ hw2_1)).trans hw2_1),((HB.out.cell (World.block_lt_of_cell? w _ hw3_0)).trans hw3_0),((HB.out.cell (World.block_lt_of_cell? w _ hw3_1)).trans hw3_1),((HB.out.cell (World.block_lt_of_cell? w _ hw4_0)).trans hw4_0),((HB.out.cell (World.block_lt_of_cell? w _ hw4_1)).trans hw4_1)⟩ (fun hHeld=> ?_)
   clear hK K
   refine nu (N:=(some 3)) ?_
   refine ou 18 (none) (fun K hK=> ?_)
   obtain⟨hs1,hs2,hs3,hs4,hfs1,hfs2,hfs3,hfs4⟩:=d4 BK2.out
   have hns1_0:=n0.out
   have hms1_0:=n1.out
   refine skip_ (w1:= ?_) (by rfl) rfl ?_ ?_
   rotate_left
   ·go_simp
    rfl
   refine hK.out _ _ ⟨(cf4 (nl hw1_0 GW2) (hHeld.1)),(cf4 (nl hw1_1 GW2) (hHeld.2.1)),(cf4 (nl hw2_0 GW2) (hHeld.2.2.1)),(cf4 (nl hw2_1 GW2) (hHeld.2.2.2.1)),(cf4 (nl hw3_0 GW2) (hHeld.2.2.2.2.1)),(cf4 (nl hw3_1 GW2) (hHeld.2.2.2.2.2.1)),(cf4 (nl hw4_0 GW2) (hHeld.2.2.2.2.2.2.1)),(cf4 (nl hw4_1 GW2) (hHeld.2.2.2.2.2.2.2))⟩ (fun hHeld=> ?_)
   clear hK K
   refine done_ (done_of HT_.out (by kernel_rfl)) ?_
   try go_wp2
   go_loopg [34] kj1 (fun kq v34 w'=>∃(x2_2:Int) (x3_2:Int) (x4_2:Int) (x5_2:Int) (x6_2:Int),v34=V I x2_2∧D (impl_BoxOf.l0 kq l0 (l0.length:Int) x2_2 x3_2 x4_2 x5_2 x6_2=some (r1,r2,r3,r4))∧D (kq≤kj1)∧D (w'.heap[gb1]? =some (.cells #[V I 0,V I 0,V I 0,V I 0] 75 (0,0)))∧D (w'.heap[gb2]? =some (.cells #[V I x3_2,V I x4_2,V I x5_2,V I x6_2] 75 (0,0)))∧D (Below w.heap.size w w'))
   case atStart=>exact⟨(0),((rd_T126 l0 0).f0),((rd_T126 l0 0).f1),((rd_T126 l0 0).f0),((rd_T126 l0 0).f1),rS,H',⟨Nat.le_refl _⟩,⟨bK BK1.out⟩,⟨bK BK2.out⟩,⟨uB⟩⟩
   case round=>
    clear H'
    obtain⟨x2_2,x3_2,x4_2,x5_2,x6_2,rfl,HA,HK1,BK1,BK2,HB⟩:=hrel
    cases gk with
    |zero=>exact absurd HA.out (by simp[impl_BoxOf.l0])
    |succ k2=>
     have H:=HA.out
     clear HA
     simp only[impl_BoxOf.l0]at H
     by_cases c3:x2_2<(l0.length:Int)
     rotate_left
     ·rw[if_neg c3]at H
      replace c3:=decide_eq_false c3
      simp only[Option.some.injEq,Prod.mk.injEq]at H
      obtain⟨rfl,rfl,rfl,rfl⟩:=H
      have:=n1.out
      have:=n0.out
      obtain⟨_,_,_,_,_,_,_,_⟩:=d4 BK2.out
      obtain⟨_,_,_,_,_,_,_,_⟩:=d4 BK1.out
      exact impl_BoxOf.W1
     rw[if_pos c3]at H
     replace c3:=decide_eq_true c3
     obtain⟨c4,H⟩:=np H
     replace c4:=decide_eq_true c4
     obtain⟨c5,H⟩:=np H
     replace c5:=decide_eq_true c5
     obtain⟨ji1,hji1⟩:∃j_:Int,(mn x3_2 ((rd_T126 l0 x2_2).f0))=j_:=⟨_,rfl⟩
     replace H:(impl_BoxOf.l0 k2 l0 (l0.length:Int) (wrap64 (x2_2+1)) ji1 (mn x4_2 ((rd_T126 l0 x2_2).f1)) (mx x5_2 ((rd_T126 l0 x2_2).f0)) (mx x6_2 ((rd_T126 l0 x2_2).f1)))=some (r1,r2,r3,r4):=by first|(rw[hji1]at H;exact H)|(simp only[hji1]at H ⊢;exact H)
     have hji1_:(if((rd_T126 l0 x2_2).f0)<x3_2 then((rd_T126 l0 x2_2).f0) else x3_2)=ji1:=hji1
     obtain⟨ji2,hji2⟩:∃j_:Int,(mn x4_2 ((rd_T126 l0 x2_2).f1))=j_:=⟨_,rfl⟩
     replace H:(impl_BoxOf.l0 k2 l0 (l0.length:Int) (wrap64 (x2_2+1)) ji1 ji2 (mx x5_2 ((rd_T126 l0 x2_2).f0)) (mx x6_2 ((rd_T126 l0 x2_2).f1)))=some (r1,r2,r3,r4):=by first|(rw[hji2]at H;exact H)|(simp only[hji2]at H ⊢;exact H)
     have hji2_:(if((rd_T126 l0 x2_2).f1)<x4_2 then((rd_T126 l0 x2_2).f1) else x4_2)=ji2:=hji2
     obtain⟨ji3,hji3⟩:∃j_:Int,(mx x5_2 ((rd_T126 l0 x2_2).f0))=j_:=⟨_,rfl⟩
     replace H:(impl_BoxOf.l0 k2 l0 (l0.length:Int) (wrap64 (x2_2+1)) ji1 ji2 ji3 (mx x6_2 ((rd_T126 l0 x2_2).f1)))=some (r1,r2,r3,r4):=by first|(rw[hji3]at H;exact H)|(simp only[hji3]at H ⊢;exact H)
     have hji3_:(if x5_2<((rd_T126 l0 x2_2).f0) then((rd_T126 l0 x2_2).f0) else x5_2)=ji3:=hji3
     obtain⟨ji4,hji4⟩:∃j_:Int,(mx x6_2 ((rd_T126 l0 x2_2).f1))=j_:=⟨_,rfl⟩
     replace H:(impl_BoxOf.l0 k2 l0 (l0.length:Int) (wrap64 (x2_2+1)) ji1 ji2 ji3 ji4)=some (r1,r2,r3,r4):=by first|(rw[hji4]at H;exact H)|(simp only[hji4]at H ⊢;exact H)
     have hji4_:(if x6_2<((rd_T126 l0 x2_2).f1) then((rd_T126 l0 x2_2).f1) else x6_2)=ji4:=hji4
     have H':=C H
     clear H
     have p5:0≤(x2_2:Int):=oT
     have q5:x2_2<(l0.length:Int):=oT
     obtain⟨ad5,e5,hx5_0,hx5_1⟩:=at_T126 HR1.out x2_2 p5 q5
     obtain rfl:ad1=ad5:=(by injection e5)
     replace hx5_0:=hx HB hx5_0
     replace hx5_1:=hx HB hx5_1
     replace p5:=eq_true p5
     replace q5:=eq_true q5
     try go_wp2_with (first|((with_reducible refine J (N:=5) rfl ?_);refine Fix.be 5 #[V I 0,V I 0] 126 ?_;intro gb3 hg w5 BK3 hb;have GW3:=gE (w:=w) hg;have n2:=nL hg BK1;have n3:=nG hg BK1;have n4:=nL hg BK2;have n5:=nG hg BK2;replace BK1:=eK BK1 hb;replace BK2:=eK BK2 hb;replace HB:=eB hb;clear hb hg;have:=n3.out;have:=n2.out;have:=n5.out;have:=n4.out;have hcz1_0:w5.cell? ⟨gb3,0,none⟩=some (V I 0):=(blk_cell BK3.out 0).trans rfl;have hcz1_1:w5.cell? ⟨gb3,1,none⟩=some (V I 0):=(blk_cell BK3.out 1).trans rfl;have hfz1_0:=blk_frozen BK3.out 0;have hfz1_1:=blk_frozen BK3.out 1))
     obtain⟨w6,hw⟩:∃w_,w_=(w5.setCell ⟨gb3,0,none⟩ (V I ((rd_T126 l0 x2_2).f0))).setCell ⟨gb3,1,none⟩ (V I ((rd_T126 l0 x2_2).f1)):=⟨_,rfl⟩
     (try rw[←hw])
     replace BK1:=wK hw BK1
     replace BK2:=wK hw BK2
     replace BK3:D (w6.heap[gb3]? =some (.cells #[V I ((rd_T126 l0 x2_2).f0),V I ((rd_T126 l0 x2_2).f1)] 126 (0,0))):=⟨(by rw[hw];exact(bK BK3.out))⟩
     replace HB:=wB hw
     clear hw
     replace BK1:=dK BK1
     replace BK2:=dK BK2
     replace BK3:=dK BK3
     replace HB:=dB HB
     refine start_ (n:=14) (S:=fun w'=>w'.cell? ⟨gb2,1,none⟩=some (V I x4_2)∧w'.cell? ⟨gb2,2,none⟩=some (V I x5_2)∧w'.cell? ⟨gb2,3,none⟩=some (V I x6_2)∧w'.cell? ⟨gb3,0,none⟩=some (V I ((rd_T126 l0 x2_2).f0))∧w'.cell? ⟨gb3,1,none⟩=some (V I ((rd_T126 l0 x2_2).f1))) (ds:= [13]) #[false,false,false,false,false,false,false,false,false,false,false,false,false,false] (by kernel_rfl) rfl rfl hh (fun hHeld=> ?_);refine with_tabW impl_BoxOf.tab7 impl_BoxOf.bits7 (fun HT_ HW_=> ?_)
     generalize w6.drew=w7 at BK1 BK2 BK3 HB hHeld ⊢
     refine pu 0 (some 38) ?_
     refine pu 2 (some 40) ?_
     refine pu 5 (some 43) ?_
     refine pu 7 (some 45) ?_
     refine tu 3 (some 41) hHeld ?_
     refine tu 6 (some 44) hHeld ?_
     refine tu 8 (some 46) hHeld ?_
     refine pu 9 (some 47) ?_
     refine ou 1 (some 39) (fun K hK=> ?_)
     have hs5_:w7.cell? ⟨gb2,0,none⟩=some (V I x3_2):=(blk_cell BK2.out 0).trans rfl
     have hfs5_:=blk_frozen BK2.out 0
     refine value_ (w1:= ?_) (v:= ?_) (by rfl) rfl ?_ ?_
     rotate_left 2
     ·go_simp
      constructor
      ·rfl
      ·rfl
     refine hK.out _ _ ⟨hHeld.1,hHeld.2.1,hHeld.2.2.1,hHeld.2.2.2.1,hHeld.2.2.2.2⟩ (fun hHeld=> ?_)
     clear hK K
     refine nu (N:=(some 39)) ?_
     refine pu 4 (some 42) ?_
     refine pu 10 (some 48) ?_
     refine ou 11 (none) (fun K hK=> ?_)
     have hs5_:w7.cell? ⟨gb2,0,none⟩=some (V I x3_2):=(blk_cell BK2.out 0).trans rfl
     have hfs5_:=blk_frozen BK2.out 0
     refine skip_ (w1:= ?_) (by rfl) rfl ?_ ?_
     rotate_left
     ·go_simp
      rfl
     refine hK.out _ _ ⟨(blk_cell (blk_set BK2.out 0 _) 1).trans rfl,(blk_cell (blk_set BK2.out 0 _) 2).trans rfl,(blk_cell (blk_set BK2.out 0 _) 3).trans rfl,(cf1 n5.out (hHeld.2.2.2.1)),(cf1 n5.out (hHeld.2.2.2.2))⟩ (fun hHeld=> ?_)
     clear hK K
     refine pu 12 (some 49) ?_
     refine last_ (i:=13) (N:=none) #[true,true,true,true,true,true,true,true,true,true,true,true,true,true] rfl rfl (one_of HT_.out (by kernel_rfl)) (by decide) (fun K hK=> ?_)
     have hs5_:w7.cell? ⟨gb2,0,none⟩=some (V I x3_2):=(blk_cell BK2.out 0).trans rfl
     have hfs5_:=blk_frozen BK2.out 0
     have hs6_:w7.cell? ⟨gb2,1,none⟩=some (V I x4_2):=(blk_cell BK2.out 1).trans rfl
     have hfs6_:=blk_frozen BK2.out 1
     refine skip_ (w1:= ?_) (by rfl) rfl ?_ ?_
     rotate_left
     ·go_simp
      rfl
     refine hK.out _ _ ?_
     clear hK K
     refine done_ (done_of HT_.out (by kernel_rfl)) ?_
     try go_wp2
     obtain⟨w8,hw⟩:∃w_,w_=(w7.setCell ⟨gb2,0,none⟩ (V I ji1)).setCell ⟨gb2,1,none⟩ (V I ji2):=⟨_,rfl⟩
     (try rw[←hw])
     replace BK1:=wK hw BK1
     replace BK2:D (w8.heap[gb2]? =some (.cells #[V I ji1,V I ji2,V I x5_2,V I x6_2] 75 (0,0))):=⟨(by rw[hw];exact(bK BK2.out))⟩
     replace BK3:=wK hw BK3
     replace HB:=wB hw
     clear hw
     replace BK1:=dK BK1
     replace BK2:=dK BK2
     replace BK3:=dK BK3
     replace HB:=dB HB
     refine start_ (n:=14) (S:=fun w'=>w'.cell? ⟨gb2,0,none⟩=some (V I ji1)∧w'.cell? ⟨gb2,1,none⟩=some (V I ji2)∧w'.cell? ⟨gb2,3,none⟩=some (V I x6_2)∧w'.cell? ⟨gb3,0,none⟩=some (V I ((rd_T126 l0 x2_2).f0))∧w'.cell? ⟨gb3,1,none⟩=some (V I ((rd_T126 l0 x2_2).f1))) (ds:= [13]) #[false,false,false,false,false,false,false,false,false,false,false,false,false,false] (by kernel_rfl) rfl rfl hh (fun hHeld=> ?_);refine with_tabW impl_BoxOf.tab8 impl_BoxOf.bits8 (fun HT_ HW_=> ?_)
     generalize w8.drew=w9 at BK1 BK2 BK3 HB hHeld ⊢
     refine pu 0 (some 50) ?_
     refine pu 2 (some 52) ?_
     refine pu 5 (some 55) ?_
     refine pu 7 (some 57) ?_
     refine tu 3 (some 53) hHeld ?_
     refine tu 6 (some 56) hHeld ?_
     refine tu 8 (some 58) hHeld ?_
     refine pu 9 (some 59) ?_
     refine ou 1 (some 51) (fun K hK=> ?_)
     have hs7_:w9.cell? ⟨gb2,2,none⟩=some (V I x5_2):=(blk_cell BK2.out 2).trans rfl
     have hfs7_:=blk_frozen BK2.out 2
     refine value_ (w1:= ?_) (v:= ?_) (by rfl) rfl ?_ ?_
     rotate_left 2
     ·go_simp
      constructor
      ·rfl
      ·rfl
     refine hK.out _ _ ⟨hHeld.1,hHeld.2.1,hHeld.2.2.1,hHeld.2.2.2.1,hHeld.2.2.2.2⟩ (fun hHeld=> ?_)
     clear hK K
     refine nu (N:=(some 51)) ?_
     refine pu 4 (some 54) ?_
     refine pu 10 (some 60) ?_
     refine ou 11 (none) (fun K hK=> ?_)
     have hs7_:w9.cell? ⟨gb2,2,none⟩=some (V I x5_2):=(blk_cell BK2.out 2).trans rfl
     have hfs7_:=blk_frozen BK2.out 2
     refine skip_ (w1:= ?_) (by rfl) rfl ?_ ?_
     rotate_left
     ·go_simp
      rfl
     refine hK.out _ _ ⟨(blk_cell (blk_set BK2.out 2 _) 0).trans rfl,(blk_cell (blk_set BK2.out 2 _) 1).trans rfl,(blk_cell (blk_set BK2.out 2 _) 3).trans rfl,(cf1 n5.out (hHeld.2.2.2.1)),(cf1 n5.out (hHeld.2.2.2.2))⟩ (fun hHeld=> ?_)
     clear hK K
     refine pu 12 (some 61) ?_
     refine last_ (i:=13) (N:=none) #[true,true,true,true,true,true,true,true,true,true,true,true,true,true] rfl rfl (one_of HT_.out (by kernel_rfl)) (by decide) (fun K hK=> ?_)
     have hs7_:w9.cell? ⟨gb2,2,none⟩=some (V I x5_2):=(blk_cell BK2.out 2).trans rfl
     have hfs7_:=blk_frozen BK2.out 2
     have hs8_:w9.cell? ⟨gb2,3,none⟩=some (V I x6_2):=(blk_cell BK2.out 3).trans rfl
     have hfs8_:=blk_frozen BK2.out 3
     refine skip_ (w1:= ?_) (by rfl) rfl ?_ ?_
     rotate_left
     ·go_simp
      rfl
     refine hK.out _ _ ?_
     clear hK K
     refine done_ (done_of HT_.out (by kernel_rfl)) ?_
     try go_wp2
     go_roundg k2
     case measure=>have:=HJ1.out;have:=HK1.out;omega
     case rel=>exact⟨(wrap64 (x2_2+1)),(ji1),(ji2),(ji3),(ji4),rS,H',⟨by have:=HJ1.out;have:=HK1.out;omega⟩,⟨bK BK1.out⟩,⟨bK BK2.out⟩,⟨uB⟩⟩
def impl_pageBox.f:Option (Int×Int×Int×Int):=some (0,0,32,32)
theorem impl_pageBox.calls (r1:Int) (r2:Int) (r3:Int) (r4:Int) (w:World) (h:impl_pageBox.f=some (r1,r2,r3,r4)):
 Calls prog 124 #[] w fun e w'=>e=.returned (G #[V I r1,V I r2,V I r3,V I r4])∧Below w.heap.size w w':=by
 have hu1:=underlying75
 have HB:=C (Below.refl w.heap.size w)
 have H:=h
 unfold impl_pageBox.f at H
 clear h
 simp only[Option.some.injEq,Prod.mk.injEq]at H
 obtain⟨rfl,rfl,rfl,rfl⟩:=H
 go_enter func124,ntmps124
 go_wp2_with (first|((with_reducible refine J (N:=0) rfl ?_);refine Fix.be 0 #[V I 0,V I 0,V I 0,V I 0] 75 ?_;intro gb1 hg w1 BK1 hb;have GW1:=gE (w:=w) hg;replace HB:=eB hb;clear hb hg;obtain⟨_,_,_,_,_,_,_,_⟩:=d4 BK1.out))
 refine bodyPost_ret (results_cell_row rfl _ _ gb1 75 #[V I 0,V I 0,V I 32,V I 32] (0,0) _ rfl (bK BK1.out) underlying75 rfl (by kernel_rfl)) rfl ?_
 exact⟨rE,uB⟩
def impl_ObjectBox.f (k:Nat) (l0_0:List (S126)) (a0_1:Int) (a0_2:Int) (a0_3:Int) (a0_4:Int) (a0_5:Int):Option (Int×Int×Int×Int):=(impl_ObjectOk.f k l0_0 a0_1 a0_2 a0_3 a0_4 a0_5).bind fun t390=>(if t390=true then((impl_BoxOf.f k l0_0).bind fun bt391=>((impl_MeetBox.f k bt391.1 bt391.2.1 bt391.2.2.1 bt391.2.2.2 a0_2 a0_3 a0_4 a0_5).bind fun bt395=>((impl_pageBox.f).bind fun bt399=>((impl_MeetBox.f k bt395.1 bt395.2.1 bt395.2.2.1 bt395.2.2.2 bt399.1 bt399.2.1 bt399.2.2.1 bt399.2.2.2).bind fun bt403=>(some (bt403.1,bt403.2.1,bt403.2.2.1,bt403.2.2.2)))))) else(some (0,0,0,0)))
def impl_ObjectBox.T3:Bool×List (List Nat×List Nat):=(true,[([],[]),([0],[0]),([1],[1]),([],[]),([3],[3]),([2,4,2],[2,4]),([5],[]),([5,6,6],[5,6]),([7,7,0,1,2,3,4,5,6,7],[7])])
def impl_ObjectBox.B3:List Nat:= [0,1,3,0,8,31,63,127,255]
theorem impl_ObjectBox.tab3:rtab .any (opsOf Try.f111 3)=impl_ObjectBox.T3:=by kernel_rfl
theorem impl_ObjectBox.bits3:waitsOk impl_ObjectBox.T3.2 impl_ObjectBox.B3=true:=by kernel_rfl
theorem impl_ObjectBox.calls (k:Nat) (A0_0:Option Addr) (c0_0:Nat) (l0_0:List (S126)) (a0_1:Int) (a0_2:Int) (a0_3:Int) (a0_4:Int) (a0_5:Int) (r1:Int) (r2:Int) (r3:Int) (r4:Int) (w:World) (hr0_0:Kd.C k126 w A0_0 l0_0.length l0_0) (hc0_0:l0_0.length≤c0_0) (h:impl_ObjectBox.f k l0_0 a0_1 a0_2 a0_3 a0_4 a0_5=some (r1,r2,r3,r4)):
 Calls prog 111 #[G #[L A0_0 l0_0.length c0_0,V I a0_1,V I a0_2,V I a0_3,V I a0_4,V I a0_5]] w fun e w'=>e=.returned (G #[V I r1,V I r2,V I r3,V I r4])∧Below w.heap.size w w':=by
 have hu1:=underlying77
 have hu2:=underlying75
 have HR1_0:=C hr0_0
 have HC1_0:=C hc0_0
 (try clear hr0_0);(try clear hc0_0)
 have HB:=C (Below.refl w.heap.size w)
 have H:=h
 unfold impl_ObjectBox.f at H
 clear h
 obtain⟨t1,A1,H⟩:=bnd H
 by_cases c1:t1=true
 rotate_left
 ·obtain rfl:=nt c1
  replace H:=nf H
  simp only[Option.some.injEq,Prod.mk.injEq]at H
  obtain⟨rfl,rfl,rfl,rfl⟩:=H
  go_enter func111,ntmps111
  go_wp2_with (first|((with_reducible refine J (N:=1) rfl ?_);refine Fix.be 1 #[L A0_0 l0_0.length c0_0,V I a0_1,V I a0_2,V I a0_3,V I a0_4,V I a0_5] 77 ?_;intro gb1 hg w2 BK1 hb;have GW1:=gE (w:=w) hg;have GE1:=GW1;replace HB:=eB hb;clear hb hg)|((with_reducible refine J (N:=2) rfl ?_);refine Fix.be 2 #[V I 0,V I 0,V I 0,V I 0] 75 ?_;intro gb2 hg w3 BK2 hb;have GW2:=gE (w:=w) hg;have GE2:=GW2;have n0:=nL hg BK1;have n1:=nG hg BK1;replace BK1:=eK BK1 hb;replace HB:=eB hb;clear hb hg;have:=n0.out;have:=n1.out;obtain⟨_,_,_,_,_,_,_,_,_,_,_,_⟩:=d6 BK1.out)|((with_reducible refine gate_callee (f:=86) rfl ?_);refine gl 86 (some 4) func86 #[G #[L A0_0 l0_0.length c0_0,V I a0_1,V I a0_2,V I a0_3,V I a0_4,V I a0_5]] ?_;(with_reducible refine(impl_ObjectOk.calls k _ _ l0_0 a0_1 a0_2 a0_3 a0_4 a0_5 false _ ?side1 HC1_0.out A1.out).mono ?_);(case side1=>exact uZ HR1_0);rintro e w4 ⟨rfl,hb⟩;refine⟨_,rfl,?_⟩;replace BK1:=eK BK1 hb;replace BK2:=eK BK2 hb;replace HB:=eB hb;clear hb;obtain⟨_,_,_,_,_,_,_,_⟩:=d4 BK2.out))
  refine bodyPost_ret (results_cell_row rfl _ _ gb2 75 #[V I 0,V I 0,V I 0,V I 0] (0,0) _ rfl (bK BK2.out) underlying75 rfl (by kernel_rfl)) rfl ?_
  exact⟨rE,uB⟩
 subst c1
 rw[if_pos rfl]at H
 obtain⟨⟨t2,t3,t4,t5⟩,A2,H⟩:=bnd H
 dsimp only at H
 obtain⟨⟨t6,t7,t8,t9⟩,A3,H⟩:=bnd H
 dsimp only at H
 obtain⟨⟨t10,t11,t12,t13⟩,A4,H⟩:=bnd H
 dsimp only at H
 obtain⟨⟨t14,t15,t16,t17⟩,A5,H⟩:=bnd H
 dsimp only at H
 simp only[Option.some.injEq,Prod.mk.injEq]at H
 obtain⟨rfl,rfl,rfl,rfl⟩:=H
 go_enter func111,ntmps111
 try go_wp2_with (first|((with_reducible refine J (N:=1) rfl ?_);refine Fix.be 1 #[L A0_0 l0_0.length c0_0,V I a0_1,V I a0_2,V I a0_3,V I a0_4,V I a0_5] 77 ?_;intro gb1 hg w2 BK1 hb;have GW1:=gE (w:=w) hg;have GE1:=GW1;replace HB:=eB hb;clear hb hg)|((with_reducible refine J (N:=2) rfl ?_);refine Fix.be 2 #[V I 0,V I 0,V I 0,V I 0] 75 ?_;intro gb2 hg w3 BK2 hb;have GW2:=gE (w:=w) hg;have GE2:=GW2;have n0:=nL hg BK1;have n1:=nG hg BK1;replace BK1:=eK BK1 hb;replace HB:=eB hb;clear hb hg;have:=n0.out;have:=n1.out;obtain⟨_,_,_,_,_,_,_,_,_,_,_,_⟩:=d6 BK1.out)|((with_reducible refine gate_callee (f:=86) rfl ?_);refine gl 86 (some 4) func86 #[G #[L A0_0 l0_0.length c0_0,V I a0_1,V I a0_2,V I a0_3,V I a0_4,V I a0_5]] ?_;(with_reducible refine(impl_ObjectOk.calls k _ _ l0_0 a0_1 a0_2 a0_3 a0_4 a0_5 true _ ?side1 HC1_0.out A1.out).mono ?_);(case side1=>exact uZ HR1_0);rintro e w4 ⟨rfl,hb⟩;refine⟨_,rfl,?_⟩;replace BK1:=eK BK1 hb;replace BK2:=eK BK2 hb;replace HB:=eB hb;clear hb))
 replace BK1:=dK BK1
 replace BK2:=dK BK2
 replace HB:=dB HB
 refine start_ (n:=9) (S:=fun w'=>cl6 w' gb1 (L A0_0 l0_0.length c0_0) (V I a0_1) (V I a0_2) (V I a0_3) (V I a0_4) (V I a0_5)) (ds:= []) #[false,false,false,false,false,false,false,false,false] (by kernel_rfl) rfl rfl hh (fun hHeld=> ?_);refine with_tabW impl_ObjectBox.tab3 impl_ObjectBox.bits3 (fun HT_ HW_=> ?_)
 generalize w4.drew=w5 at BK1 BK2 HB hHeld ⊢
 refine pu 0 (some 7) ?_
 refine pu 3 (some 10) ?_
 refine tu 1 (some 8) hHeld ?_
 refine tu 4 (some 11) hHeld ?_
 refine ou 2 (some 9) (fun K hK=> ?_)
 refine gs func123 #[L A0_0 l0_0.length c0_0] ?_
 with_reducible refine(impl_BoxOf.calls k _ _ l0_0 t2 t3 t4 t5 _ ?side1 HC1_0.out A2.out).mono ?_
 (case side1=>exact uZ HR1_0)
 rintro e w6 ⟨rfl,hb⟩
 refine⟨_,rfl,?_⟩
 replace BK1:=eK BK1 hb
 replace BK2:=eK BK2 hb
 replace HB:=eB hb
 (try clear hb)
 refine hK.out _ _ hh (fun hHeld=> ?_)
 clear hK K
 refine nu (N:=(some 9)) ?_
 refine ou 5 (some 12) (fun K hK=> ?_)
 refine gs func122 #[G #[V I t2,V I t3,V I t4,V I t5],G #[V I a0_2,V I a0_3,V I a0_4,V I a0_5]] ?_
 with_reducible refine(impl_MeetBox.calls k t2 t3 t4 t5 a0_2 a0_3 a0_4 a0_5 t6 t7 t8 t9 _ A3.out).mono ?_
 rintro e w7 ⟨rfl,hb⟩
 refine⟨_,rfl,?_⟩
 replace BK1:=eK BK1 hb
 replace BK2:=eK BK2 hb
 replace HB:=eB hb
 (try clear hb)
 refine hK.out _ _ hh (fun hHeld=> ?_)
 clear hK K
 refine nu (N:=(some 12)) ?_
 refine ou 6 (some 13) (fun K hK=> ?_)
 refine gs func124 #[] ?_
 with_reducible refine(impl_pageBox.calls t10 t11 t12 t13 _ A4.out).mono ?_
 rintro e w8 ⟨rfl,hb⟩
 refine⟨_,rfl,?_⟩
 replace BK1:=eK BK1 hb
 replace BK2:=eK BK2 hb
 replace HB:=eB hb
 (try clear hb)
 refine hK.out _ _ hh (fun hHeld=> ?_)
 clear hK K
 refine nu (N:=(some 13)) ?_
 refine ou 7 (some 14) (fun K hK=> ?_)
 refine gs func122 #[G #[V I t6,V I t7,V I t8,V I t9],G #[V I t10,V I t11,V I t12,V I t13]] ?_
 with_reducible refine(impl_MeetBox.calls k t6 t7 t8 t9 t10 t11 t12 t13 t14 t15 t16 t17 _ A5.out).mono ?_
 rintro e w9 ⟨rfl,hb⟩
 refine⟨_,rfl,?_⟩
 replace BK1:=eK BK1 hb
 replace BK2:=eK BK2 hb
 replace HB:=eB hb
 (try clear hb)
 refine hK.out _ _ hh (fun hHeld=> ?_)
 clear hK K
 refine nu (N:=(some 14)) ?_
 refine ou 8 (none) (fun K hK=> ?_)
 obtain⟨hs1,hs2,hs3,hs4,hfs1,hfs2,hfs3,hfs4⟩:=d4 BK2.out
 have hns1_0:=n0.out
 have hms1_0:=n1.out
 refine skip_ (w1:= ?_) (by rfl) rfl ?_ ?_
 rotate_left
 ·go_simp
  rfl
 refine hK.out _ _ (cs6 (fun _ _=>cf4 n0.out) hHeld) (fun hHeld=> ?_)
 clear hK K
 refine done_ (done_of HT_.out (by kernel_rfl)) ?_
 try go_wp2
 refine bodyPost_ret (results_cell_row rfl _ _ gb2 75 #[V I t14,V I t15,V I t16,V I t17] (0,0) _ rfl (bK BK2.out) underlying75 rfl (by kernel_rfl)) rfl ?_
 exact⟨rE,uB⟩
end Go.Proofs.Ytaceidiookkocaa.PFnPrinted
