/- FnScenarios: the functions that the law reaches, each as a plain Lean function, and that a call does what it says. Made by a program of this work (wip/mp.py) out of the kit's print. No condition. -/
import Derived.Test.YtblceimapaenlaaQFnScenarios0
import Derived.Test.YtblceimapaenlaaQFnScenarios3
import Derived.Test.YtblceimapaenlaaQFnScenarios4
import Derived.Test.YtblceimapaenlaaQFnScenarios5
namespace Go.Proofs.Ytblceimapaenlaa.PFnScenarios
open Go.RowKit Go.Proofs.YtblceimapaenlaaW.PrintWords Go.Proofs.YtblceimapaenlaaW.PrintLast Go.Proofs.YtblceimapaenlaaW.PrintMore
open Fix (bK bnd cf6 d6 dB dK eB eK fR gE gK gl gs hi hx nl nu ou pu rE rN tu uB uC uK)
open Go.Value renaming int→V,slice→L,bool→O
open Go.IntKind renaming i64→I
open Go.Proofs.YtblceimapaenlaaW.PrintWords.Aside0 renaming mk→C
open Go.World renaming block_lt_of_cell?→E
attribute [local go_sem] max2_int min2_int max_two min_two max_three min_three max_four min_four
attribute [local go_sem] Fix.isSome_setCell
set_option linter.unusedVariables false
set_option linter.unusedSimpArgs false
def spec_TakeJob.f (k:Nat) (l0:List (S33)):Option ((List (S33))×Int×Int×Int×Bool×Int×Bool×Bool):=(spec_NextJob.f k l0).bind fun t275=>(if t275<0 then((spec_l29Copy.f l0).bind fun t276=>(some (t276,0,0,0,false,0,false,false))) else(if 0≤t275 then(if t275≤(l0.length:Int) then((spec_l29Copy.f (l0.take (t275:Int).toNat)).bind fun t283=>(if 0≤(wrap64 (t275+1)) then(if(wrap64 (t275+1))≤(l0.length:Int) then((some (l0.drop ((wrap64 (t275+1)):Int).toNat:List (S33))).bind fun y286=>(if t283.length+y286.length<2932031007402 then(if t275<(l0.length:Int) then(some ((t283++y286),(rd_T33 l0 t275).f0,(rd_T33 l0 t275).f1,(rd_T33 l0 t275).f2,(rd_T33 l0 t275).f3,(rd_T33 l0 t275).f4,(rd_T33 l0 t275).f5,true)) else(none)) else(none))) else(none)) else(none))) else(none)) else(none)))
theorem spec_TakeJob.mono:∀a0 k,LeO (spec_TakeJob.f k a0) (spec_TakeJob.f (k+1) a0):=by
 intro a0 k
 unfold spec_TakeJob.f
 repeat' first|(with_reducible first|apply spec_NextJob.mono|exact LeO.refl _|exact LeO.none _|refine LeO.ite ?_ ?_|refine LeO.bind ?_ (fun _=> ?_))|exact LeO.none _|refine LeO.ite ?_ ?_|refine LeO.bind ?_ (fun _=> ?_)
def spec_TakeJob.T4:Bool×List (List Nat×List Nat):=(true,[([],[]),([],[]),([0,1],[0,1]),([2],[2]),([],[]),([],[]),([5],[5]),([4,6],[4,6]),([3,7,3],[3,7]),([],[]),([],[]),([9,10],[9,10]),([11],[11]),([8,8,0,1,2,3,4,5,6,7,8],[8]),([12,13,0,1,2,3,4,5,6,7,8,9,10,11,12,13],[12]),([14,0,1,2,3,4,5,6,7,8,9,10,11,12,13,14],[])])
def spec_TakeJob.B4:List Nat:= [0,0,3,7,0,0,32,112,255,0,0,1536,3584,511,16383,32767]
theorem spec_TakeJob.tab4:rtab .any (opsOf Try.f94 4)=spec_TakeJob.T4:=by kernel_rfl
theorem spec_TakeJob.bits4:waitsOk spec_TakeJob.T4.2 spec_TakeJob.B4=true:=by kernel_rfl
set_option maxHeartbeats 40000000 in
set_option maxRecDepth 100000 in
theorem spec_TakeJob.calls (k:Nat) (A0:Option Addr) (c0:Nat) (l0:List (S33)) (r1:List (S33)) (r2:Int) (r3:Int) (r4:Int) (r5:Bool) (r6:Int) (r7:Bool) (r8:Bool) (w:World) (hr0:Kd.C k33 w A0 l0.length l0) (hc0:l0.length≤c0) (h:spec_TakeJob.f k l0=some (r1,r2,r3,r4,r5,r6,r7,r8)):
  Calls Try.prog 94 #[L A0 l0.length c0] w fun e w'=>∃v0_:Value,e=.returned (.tuple #[v0_,.agg #[V I r2,V I r3,V I r4,O r5,V I r6,O r7],O r8])∧Kd.R k33 33 w' w.heap.size (fun _=>True) v0_ r1∧Below w.heap.size w w':=by
 have hu1:=Try.underlying33
 have HR1:=C hr0
 have HC1:=C hc0
 (try clear hr0);(try clear hc0)
 have HB:=C (Below.refl w.heap.size w)
 have H:=h
 unfold spec_TakeJob.f at H
 clear h
 obtain⟨t1,A2,H⟩:=bnd H
 by_cases c2:t1<0
 ·rw[if_pos c2]at H
  have c2b0:decide (t1<0)=true:=decide_eq_true c2
  clear c2
  obtain⟨t2,A3,H⟩:=bnd H
  simp only[Option.some.injEq,Prod.mk.injEq]at H
  obtain⟨rfl,rfl,rfl,rfl,rfl,rfl,rfl,rfl⟩:=H
  go_enter Try.func94,Try.ntmps94
  go_wp2_with (first|((with_reducible refine gate_dst (N:=3) rfl ?_);refine Fix.be 3 #[V I 0,V I 0,V I 0,O false,V I 0,O false] 33 ?_;intro gb1 hg w2 BK1 hb;have GW1:Aside0 (w.heap.size≤gb1):=gE hg;have GE1:=GW1;replace HB:=eB hb;clear hb hg)|((with_reducible refine gate_callee (f:=107) rfl ?_);refine gl 107 (some 7) Try.func107 #[L A0 l0.length c0] ?_;(with_reducible refine(spec_NextJob.calls k _ _ l0 t1 _ ?side1 ?side2 A2.out).mono ?_);(case side1=>exact uC (Kd.C_below HR1.out HB.out));(case side2=>exact HC1.out);rintro e w3 ⟨rfl,hb⟩;refine⟨_,rfl,?_⟩;replace BK1:=eK BK1 hb;replace HB:=eB hb;clear hb)|((with_reducible refine gate_callee (f:=92) rfl ?_);refine gl 92 (some 11) Try.func92 #[L A0 l0.length c0] ?_;(with_reducible refine(spec_l29Copy.calls _ _ l0 t2 _ ?side1 ?side2 A3.out).mono ?_);(case side1=>exact uC (Kd.C_below HR1.out HB.out));(case side2=>exact HC1.out);rintro e w4 ⟨v1,rfl,ho1,hb⟩;refine⟨_,rfl,?_⟩;have HO1:=C (Kd.R_lower (Kd.R_newB ho1 (g:=gb1) (o:=.cells #[V I 0,V I 0,V I 0,O false,V I 0,O false] 33 (0,0)) (uK BK1.out)) (below_size uB));replace BK1:=eK BK1 hb;replace HB:=eB hb;clear hb ho1;have h_:=d6 BK1.out;repeat(obtain⟨_,h_⟩:=h_)))
  refine bodyPost_ret (results_list (rs:= [.tmp 2,.cell 3 33,.tmp 4]) rfl (by simp) (.tmp (.cell gb1 33 #[V I 0,V I 0,V I 0,O false,V I 0,O false] (0,0) _ rfl (bK BK1.out) Try.underlying33 rfl (by kernel_rfl) (.tmp .nil)))) rfl ?_
  exact⟨_,rE,Kd.R_mono (fR (Kd.R_mono HO1.out (fun k_ hk=>(⟨hk,hk.2⟩:_∧k_≠gb1)))) (fun _ hk=>trivial),uB⟩
 ·rw[if_neg c2]at H
  have c2b0:decide (t1<0)=false:=decide_eq_false c2
  clear c2
  by_cases c3:0≤t1
  ·rw[if_pos c3]at H
   have c3b0:=eq_true c3
   have c3b1:decide (0≤t1)=true:=decide_eq_true c3
   clear c3
   by_cases c4:t1≤(l0.length:Int)
   ·rw[if_pos c4]at H
    have c4b0:=eq_true c4
    have c4b1:decide (t1≤(l0.length:Int))=true:=decide_eq_true c4
    clear c4
    obtain⟨y1,hy1⟩:∃y_:List (S33),y_=(l0.take (t1:Int).toNat):=⟨_,rfl⟩
    replace H:((spec_l29Copy.f y1).bind fun t2=>(if 0≤(wrap64 (t1+1)) then(if(wrap64 (t1+1))≤(l0.length:Int) then((some (l0.drop ((wrap64 (t1+1)):Int).toNat:List (S33))).bind fun y2=>(if t2.length+y2.length<2932031007402 then(if t1<(l0.length:Int) then(some ((t2++y2),(rd_T33 l0 t1).f0,(rd_T33 l0 t1).f1,(rd_T33 l0 t1).f2,(rd_T33 l0 t1).f3,(rd_T33 l0 t1).f4,(rd_T33 l0 t1).f5,true)) else(none)) else(none))) else(none)) else(none)))=some (r1,r2,r3,r4,r5,r6,r7,r8):=by first|(rw[hy1];with_reducible exact H)|(have H1_:=(Option.bind_some _ _).symm.trans H;rw[hy1];with_reducible exact H1_)|(have H1_:=(Option.bind_some _ _).symm.trans H;with_reducible exact H1_)|with_reducible exact H|(rw[hy1];exact H)|exact H
    have Ny1:=C hy1
    clear hy1
    obtain⟨t2,A3,H⟩:=bnd H
    obtain⟨ji1,hji1⟩:∃j_:Int,(wrap64 (t1+1))=j_:=⟨_,rfl⟩
    replace H:(if 0≤(ji1) then(if(ji1)≤(l0.length:Int) then((some (l0.drop ((ji1):Int).toNat:List (S33))).bind fun y2=>(if t2.length+y2.length<2932031007402 then(if t1<(l0.length:Int) then(some ((t2++y2),(rd_T33 l0 t1).f0,(rd_T33 l0 t1).f1,(rd_T33 l0 t1).f2,(rd_T33 l0 t1).f3,(rd_T33 l0 t1).f4,(rd_T33 l0 t1).f5,true)) else(none)) else(none))) else(none)) else(none))=some (r1,r2,r3,r4,r5,r6,r7,r8):=by first|(rw[hji1]at H;exact H)|(simp only[hji1]at H ⊢;exact H)
    (try rw[hji1]at A2)
    (try rw[hji1]at A3)
    have hji1w:(IntKind.i64.wrap (t1+1))=ji1:=(i64_w _).trans hji1
    by_cases c5:0≤(ji1)
    ·rw[if_pos c5]at H
     have c5b0:=eq_true c5
     have c5b1:decide (0≤(ji1))=true:=decide_eq_true c5
     clear c5
     by_cases c6:(ji1)≤(l0.length:Int)
     ·rw[if_pos c6]at H
      have c6b0:=eq_true c6
      have c6b1:decide ((ji1)≤(l0.length:Int))=true:=decide_eq_true c6
      clear c6
      obtain⟨y2,hy2⟩:∃y_:List (S33),y_=(l0.drop ((ji1):Int).toNat):=⟨_,rfl⟩
      replace H:(if t2.length+y2.length<2932031007402 then(if t1<(l0.length:Int) then(some ((t2++y2),(rd_T33 l0 t1).f0,(rd_T33 l0 t1).f1,(rd_T33 l0 t1).f2,(rd_T33 l0 t1).f3,(rd_T33 l0 t1).f4,(rd_T33 l0 t1).f5,true)) else(none)) else(none))=some (r1,r2,r3,r4,r5,r6,r7,r8):=by first|(rw[hy2];with_reducible exact H)|(have H1_:=(Option.bind_some _ _).symm.trans H;rw[hy2];with_reducible exact H1_)|(have H1_:=(Option.bind_some _ _).symm.trans H;with_reducible exact H1_)|with_reducible exact H|(rw[hy2];exact H)|exact H
      have Ny2:=C hy2
      clear hy2
      by_cases c7:t2.length+y2.length<2932031007402
      ·rw[if_pos c7]at H
       have LMc1:=C c7
       clear c7
       obtain⟨y3,hy3⟩:∃y_:List (S33),y_=(t2++y2):=⟨_,rfl⟩
       replace H:(if t1<(l0.length:Int) then(some (y3,(rd_T33 l0 t1).f0,(rd_T33 l0 t1).f1,(rd_T33 l0 t1).f2,(rd_T33 l0 t1).f3,(rd_T33 l0 t1).f4,(rd_T33 l0 t1).f5,true)) else(none))=some (r1,r2,r3,r4,r5,r6,r7,r8):=by first|(rw[hy3];with_reducible exact H)|(have H1_:=(Option.bind_some _ _).symm.trans H;rw[hy3];with_reducible exact H1_)|(have H1_:=(Option.bind_some _ _).symm.trans H;with_reducible exact H1_)|with_reducible exact H|(rw[hy3];exact H)|exact H
       have Ny3:=C hy3
       clear hy3
       by_cases c8:t1<(l0.length:Int)
       ·rw[if_pos c8]at H
        have c8b0:decide (t1<(l0.length:Int))=true:=decide_eq_true c8
        clear c8
        simp only[Option.some.injEq,Prod.mk.injEq]at H
        obtain⟨rfl,rfl,rfl,rfl,rfl,rfl,rfl,rfl⟩:=H
        go_enter Try.func94,Try.ntmps94
        try go_wp2_with (first|((with_reducible refine gate_dst (N:=3) rfl ?_);refine Fix.be 3 #[V I 0,V I 0,V I 0,O false,V I 0,O false] 33 ?_;intro gb1 hg w2 BK1 hb;have GW1:Aside0 (w.heap.size≤gb1):=gE hg;have GE1:=GW1;replace HB:=eB hb;clear hb hg)|((with_reducible refine gate_callee (f:=107) rfl ?_);refine gl 107 (some 7) Try.func107 #[L A0 l0.length c0] ?_;(with_reducible refine(spec_NextJob.calls k _ _ l0 t1 _ ?side1 ?side2 A2.out).mono ?_);(case side1=>exact uC (Kd.C_below HR1.out HB.out));(case side2=>exact HC1.out);rintro e w3 ⟨rfl,hb⟩;refine⟨_,rfl,?_⟩;replace BK1:=eK BK1 hb;replace HB:=eB hb;clear hb))
        replace BK1:=dK BK1
        replace HB:=dB HB
        have q1:(t1:Int)≤((l0.length:Int):Int):=of_decide_eq_true (by first|(with_reducible assumption)|assumption)
        obtain⟨i020,hi1,_,hsz1,_⟩:=info_parts info33
        have hroom1:l0.length≤c0:=HC1.out
        have hC1:Kd.C k33 _ A0 l0.length l0:=HR1.out
        have hcut1:=cut_to (P:=Try.prog) 32 33 .i64 Try.underlying32 hi1 A0 l0.length c0 t1 (of_decide_eq_true (by first|(with_reducible assumption)|assumption)) q1 hroom1
        have hr1:=Kd.C_take (m:=(t1:Int).toNat) hC1 (by omega)
        have hy4:y1.length=(t1:Int).toNat:=(by rw[Ny1.out,List.length_take];omega)
        rw[←Ny1.out]at hr1
        rw[←hy4]at hcut1
        have HR2:=C hr1
        have HC2:=C (show y1.length≤c0 from by omega)
        clear hr1 hC1 hroom1 hi1 hsz1
        have KY1:=C hy4
        (try clear hy4)
        replace q1:=eq_true q1
        have q2:((ji1):Int)≤((l0.length:Int):Int):=of_decide_eq_true (by first|(with_reducible assumption)|assumption)
        obtain⟨i021,hi2,_,hsz2,_⟩:=info_parts info33
        have hroom2:l0.length≤c0:=HC1.out
        have hC2:Kd.C k33 _ A0 l0.length l0:=HR1.out
        have q3:(0:Int)≤((ji1):Int):=of_decide_eq_true (by first|(with_reducible assumption)|assumption)
        have hcut2:=cut_from (P:=Try.prog) 32 33 .i64 Try.underlying32 hi2 6 hsz2 A0 l0.length c0 (ji1) q3 q2
        have hr2:=Kd.C_drop (m:=((ji1):Int).toNat) (c:=c0) hC2 (by omega) hroom2
        obtain⟨A4,hA1⟩:∃A1,A1=(if c0=((ji1):Int).toNat then A0 else(A0:Option Addr).map (·.add (((ji1):Int).toNat * 6))):=⟨_,rfl⟩
        obtain⟨c9,hc1⟩:∃c1,c1=c0 - ((ji1):Int).toNat:=⟨_,rfl⟩
        have hy5:y2.length=l0.length - ((ji1):Int).toNat:=(by rw[Ny2.out,List.length_drop]<;>omega)
        rw[show(l0).drop ((ji1):Int).toNat=y2 from Ny2.out.symm]at hr2
        replace hr2:Kd.C k33 _ A4 y2.length y2:=(by rw[hA1];exact hr2)
        rw[←hy5,←hA1,←hc1]at hcut2
        have HR3:=C hr2
        have HC3:=C (show y2.length≤c9 from by rw[hy5,hc1];exact Nat.sub_le_sub_right hroom2 _)
        clear hr2 hC2 hroom2 hi2 hsz2 hc1
        have KY2:=C hy5
        have KA1:=C hA1
        (try clear hy5);(try clear hA1)
        replace q2:=eq_true q2
        have p1:0≤(t1:Int):=of_decide_eq_true (by first|(with_reducible assumption)|assumption)
        have q4:t1<(l0.length:Int):=of_decide_eq_true (by first|(with_reducible assumption)|assumption)
        obtain⟨ad1,e1,hx1_0,hx1_1,hx1_2,hx1_3,hx1_4,hx1_5⟩:=at_T33 HR1.out t1 p1 q4
        have hw1_5:=hx1_5
        have hw1_4:=hx1_4
        have hw1_3:=hx1_3
        have hw1_2:=hx1_2
        have hw1_1:=hx1_1
        have hw1_0:=hx1_0
        cases e1
        replace hx1_0:=hx HB hx1_0
        replace hx1_1:=hx HB hx1_1
        replace hx1_2:=hx HB hx1_2
        replace hx1_3:=hx HB hx1_3
        replace hx1_4:=hx HB hx1_4
        replace hx1_5:=hx HB hx1_5
        replace p1:=eq_true p1
        replace q4:=eq_true q4
        refine start_ (n:=16) (S:=fun w'=>w'.cell? (ad1.add ((t1).toNat * 6))=some (V I ((rd_T33 l0 t1).f0))∧w'.cell? ⟨(ad1.add ((t1).toNat * 6)).block,(ad1.add ((t1).toNat * 6)).off+1,none⟩=some (V I ((rd_T33 l0 t1).f1))∧w'.cell? ⟨(ad1.add ((t1).toNat * 6)).block,(ad1.add ((t1).toNat * 6)).off+2,none⟩=some (V I ((rd_T33 l0 t1).f2))∧w'.cell? ⟨(ad1.add ((t1).toNat * 6)).block,(ad1.add ((t1).toNat * 6)).off+3,none⟩=some (O ((rd_T33 l0 t1).f3))∧w'.cell? ⟨(ad1.add ((t1).toNat * 6)).block,(ad1.add ((t1).toNat * 6)).off+4,none⟩=some (V I ((rd_T33 l0 t1).f4))∧w'.cell? ⟨(ad1.add ((t1).toNat * 6)).block,(ad1.add ((t1).toNat * 6)).off+5,none⟩=some (O ((rd_T33 l0 t1).f5))) (ds:= []) #[false,false,false,false,false,false,false,false,false,false,false,false,false,false,false,false] (by kernel_rfl) rfl rfl hi (fun hHeld=> ?_);refine with_tabW spec_TakeJob.tab4 spec_TakeJob.bits4 (fun HT_ HW_=> ?_)
        generalize w3.drew=w4 at BK1 HB HR2 HR3 hx1_0 hx1_1 hx1_2 hx1_3 hx1_4 hx1_5 hHeld ⊢
        refine pu 0 (some 13) ?_
        refine pu 1 (some 14) ?_
        refine pu 2 (some 15) ?_
        refine pu 4 (some 17) ?_
        refine pu 5 (some 18) ?_
        refine pu 6 (some 19) ?_
        refine pu 7 (some 20) ?_
        refine pu 9 (some 22) ?_
        refine pu 10 (some 23) ?_
        refine pu 11 (some 24) ?_
        refine tu 12 (some 25) hHeld ?_
        refine ou 3 (some 16) (fun K hK=> ?_)
        refine gs Try.func92 #[L (some ad1) y1.length c0] ?_
        with_reducible refine(spec_l29Copy.calls _ _ y1 t2 _ ?side1 ?side2 A3.out).mono ?_
        (case side1=>exact uC (Kd.C_below HR2.out HB.out))
        (case side2=>exact HC2.out)
        rintro e w5 ⟨v1,rfl,ho1,hb⟩
        refine⟨_,rfl,?_⟩
        have HO1:=C (Kd.R_lower (Kd.R_newB ho1 (g:=gb1) (o:=.cells #[V I 0,V I 0,V I 0,O false,V I 0,O false] 33 (0,0)) (uK BK1.out)) (below_size uB))
        replace BK1:=eK BK1 hb
        replace HB:=eB hb
        (try clear hb)
        refine hK.out _ _ ⟨((HB.out.cell (E w _ hw1_0)).trans hw1_0),((HB.out.cell (E w _ hw1_1)).trans hw1_1),((HB.out.cell (E w _ hw1_2)).trans hw1_2),((HB.out.cell (E w _ hw1_3)).trans hw1_3),((HB.out.cell (E w _ hw1_4)).trans hw1_4),((HB.out.cell (E w _ hw1_5)).trans hw1_5)⟩ (fun hHeld=> ?_)
        clear hK K
        refine nu (N:=(some 16)) ?_
        refine ou 8 (some 21) (fun K hK=> ?_)
        refine Kd.R_append_rows_step k33 (w0:=w) w.heap.size (by rfl) (.tmp 16) (.tmp 20) 32 33 (.agg #[(V I 0),(V I 0),(V I 0),(O false),(V I 0),(O false)]) 48 rfl Try.underlying32 info33 rfl (by decide) (by omega) v1 t2 y2 _ _ _ (fun k_=>k_≠gb1) (fun _=>False) rfl rfl ?aO ?aR (fun _ _ h=>h) (fun _ h=>h.elim) ?aF ?aB ?aS ?aL ?_
        (case aR=>exact uC (Kd.C_below HR3.out HB.out))
        (case aB=>exact uB)
        (case aF=>exact(fun k_ hk=>Kd.freshB (g:=gb1) (o:=.cells #[V I 0,V I 0,V I 0,O false,V I 0,O false] 33 (0,0)) (uK BK1.out) k_ hk))
        (case aO=>exact(Kd.R_mono (fR HO1.out) (fun _ hk=>hk.2)))
        (case aS=>exact(below_size uB))
        (case aL=>have:=LMc1.out;omega)
        intro v2 w6 ho hb hg hat
        rw[←Ny3.out]at ho
        have HO2:=C (ho)
        replace BK1:=gK BK1 hg (Kd.R_away HO1.out (fun _ hk=>hk.2))
        replace HB:=C (hb)
        clear HO1
        clear ho hb hg hat
        refine hK.out _ _ ⟨((HB.out.cell (E w _ hw1_0)).trans hw1_0),((HB.out.cell (E w _ hw1_1)).trans hw1_1),((HB.out.cell (E w _ hw1_2)).trans hw1_2),((HB.out.cell (E w _ hw1_3)).trans hw1_3),((HB.out.cell (E w _ hw1_4)).trans hw1_4),((HB.out.cell (E w _ hw1_5)).trans hw1_5)⟩ (fun hHeld=> ?_)
        clear hK K
        refine nu (N:=(some 21)) ?_
        refine pu 13 (some 2) ?_
        refine ou 14 (none) (fun K hK=> ?_)
        obtain⟨hs1,hs2,hs3,hs4,hs5,hs6,hfs1,hfs2,hfs3,hfs4,hfs5,hfs6⟩:=d6 BK1.out
        refine skip_ (w1:= ?_) (by rfl) rfl ?_ ?_
        rotate_left
        ·go_simp
         rfl
        refine hK.out _ _ ⟨(cf6 (nl hw1_0 GW1) (hHeld.1)),(cf6 (nl hw1_1 GW1) (hHeld.2.1)),(cf6 (nl hw1_2 GW1) (hHeld.2.2.1)),(cf6 (nl hw1_3 GW1) (hHeld.2.2.2.1)),(cf6 (nl hw1_4 GW1) (hHeld.2.2.2.2.1)),(cf6 (nl hw1_5 GW1) (hHeld.2.2.2.2.2))⟩ (fun hHeld=> ?_)
        clear hK K
        refine pu 15 (some 4) ?_
        refine done_ (done_of HT_.out (by kernel_rfl)) ?_
        try go_wp2
        refine bodyPost_ret (results_list (rs:= [.tmp 2,.cell 3 33,.tmp 4]) rfl (by simp) (.tmp (.cell gb1 33 #[V I ((rd_T33 l0 t1).f0),V I ((rd_T33 l0 t1).f1),V I ((rd_T33 l0 t1).f2),O ((rd_T33 l0 t1).f3),V I ((rd_T33 l0 t1).f4),O ((rd_T33 l0 t1).f5)] (0,0) _ rfl (bK BK1.out) Try.underlying33 rfl (by kernel_rfl) (.tmp .nil)))) rfl ?_
        exact⟨_,by first|rfl|(simp[errW_none,errW_some]<;>rfl)|(simp only[←hji1];first|rfl|(simp[errW_none,errW_some]<;>rfl))|(simp[*,errW_none,errW_some]<;>rfl),Kd.R_mono (fR (Kd.R_mono HO2.out (fun k_ hk=>(⟨hk,hk⟩:_∧k_≠gb1)))) (fun _ hk=>trivial),uB⟩
       ·rw[if_neg c8]at H
        exact absurd H (by simp)
      ·rw[if_neg c7]at H
       exact absurd H (by simp)
     ·rw[if_neg c6]at H
      exact absurd H (by simp)
    ·rw[if_neg c5]at H
     exact absurd H (by simp)
   ·rw[if_neg c4]at H
    exact absurd H (by simp)
  ·rw[if_neg c3]at H
   exact absurd H (by simp)
def spec_IsDone.f (k:Nat) (a0_0:Int) (a0_1:Int) (l0_2:List Int) (l0_3:List Int) (a0_4:Int) (a0_5:Bool):Option (Bool):=(spec_LineOk.f k a0_0 a0_1 l0_2 l0_3 a0_4 a0_5).bind fun t295=>(if t295=true then(some ((l0_3.length:Int)==a0_0)) else(some false))
theorem spec_IsDone.mono:∀a0 a1 a2 a3 a4 a5 k,LeO (spec_IsDone.f k a0 a1 a2 a3 a4 a5) (spec_IsDone.f (k+1) a0 a1 a2 a3 a4 a5):=by
 intro a0 a1 a2 a3 a4 a5 k
 unfold spec_IsDone.f
 repeat' first|(with_reducible first|apply spec_LineOk.mono|exact LeO.refl _|exact LeO.none _|refine LeO.ite ?_ ?_|refine LeO.bind ?_ (fun _=> ?_))|exact LeO.none _|refine LeO.ite ?_ ?_|refine LeO.bind ?_ (fun _=> ?_)
set_option maxHeartbeats 40000000 in
set_option maxRecDepth 100000 in
theorem spec_IsDone.calls (k:Nat) (a0_0:Int) (a0_1:Int) (A0_2:Option Addr) (c0_2:Nat) (l0_2:List Int) (A0_3:Option Addr) (c0_3:Nat) (l0_3:List Int) (a0_4:Int) (a0_5:Bool) (r:Bool) (w:World) (hr0_2:Kd.C (Kd.int .i64) w A0_2 l0_2.length l0_2) (hc0_2:l0_2.length≤c0_2) (hr0_3:Kd.C (Kd.int .i64) w A0_3 l0_3.length l0_3) (hc0_3:l0_3.length≤c0_3) (h:spec_IsDone.f k a0_0 a0_1 l0_2 l0_3 a0_4 a0_5=some r):
  Calls Try.prog 95 #[.agg #[V I a0_0,V I a0_1,L A0_2 l0_2.length c0_2,L A0_3 l0_3.length c0_3,V I a0_4,O a0_5]] w fun e w'=>e=.returned (O r)∧Below w.heap.size w w':=by
 have hu1:=Try.underlying34
 have HR1_2:=C hr0_2
 have HC1_2:=C hc0_2
 (try clear hr0_2);(try clear hc0_2)
 have HR1_3:=C hr0_3
 have HC1_3:=C hc0_3
 (try clear hr0_3);(try clear hc0_3)
 have HB:=C (Below.refl w.heap.size w)
 have H:=h
 unfold spec_IsDone.f at H
 clear h
 obtain⟨t1,A1,H⟩:=bnd H
 by_cases c1:t1=true
 ·subst c1
  rw[if_pos rfl]at H
  obtain rfl:=Option.some.inj H
  go_enter Try.func95,Try.ntmps95
  go_wp2_with (first|((with_reducible refine gate_dst (N:=1) rfl ?_);(try(refine gate_guard (by rfl) ?_;dsimp only));refine Fix.be 1 #[V I a0_0,V I a0_1,L A0_2 l0_2.length c0_2,L A0_3 l0_3.length c0_3,V I a0_4,O a0_5] 34 ?_;intro gb1 hg w1 BK1 hb;have GW1:Aside0 (w.heap.size≤gb1):=gE hg;have GE1:=GW1;replace HB:=eB hb;clear hb hg;obtain⟨hcz1_0,hcz1_1,hcz1_2,hcz1_3,hcz1_4,hcz1_5,hfz1_0,hfz1_1,hfz1_2,hfz1_3,hfz1_4,hfz1_5⟩:=d6 BK1.out)|((with_reducible refine gate_callee (f:=37) rfl ?_);refine gl 37 (some 4) Try.func37 #[.agg #[V I a0_0,V I a0_1,L A0_2 l0_2.length c0_2,L A0_3 l0_3.length c0_3,V I a0_4,O a0_5]] ?_;(with_reducible refine(spec_LineOk.calls k a0_0 a0_1 _ _ l0_2 _ _ l0_3 a0_4 a0_5 true _ ?side1 ?side2 ?side3 ?side4 A1.out).mono ?_);(case side1=>exact uC (Kd.C_below HR1_2.out HB.out));(case side2=>exact HC1_2.out);(case side3=>exact uC (Kd.C_below HR1_3.out HB.out));(case side4=>exact HC1_3.out);rintro e w2 ⟨rfl,hb⟩;refine⟨_,rfl,?_⟩;replace BK1:=eK BK1 hb;replace HB:=eB hb;clear hb;obtain⟨hcz2_0,hcz2_1,hcz2_2,hcz2_3,hcz2_4,hcz2_5,hfz2_0,hfz2_1,hfz2_2,hfz2_3,hfz2_4,hfz2_5⟩:=d6 BK1.out))
  go_ret
  exact⟨rE,uB⟩
 ·replace c1:=Bool.eq_false_iff.mpr c1
  subst c1
  rw[if_neg Bool.false_ne_true]at H
  obtain rfl:=Option.some.inj H
  go_enter Try.func95,Try.ntmps95
  go_wp2_with (first|((with_reducible refine gate_dst (N:=1) rfl ?_);(try(refine gate_guard (by rfl) ?_;dsimp only));refine Fix.be 1 #[V I a0_0,V I a0_1,L A0_2 l0_2.length c0_2,L A0_3 l0_3.length c0_3,V I a0_4,O a0_5] 34 ?_;intro gb1 hg w1 BK1 hb;have GW1:Aside0 (w.heap.size≤gb1):=gE hg;have GE1:=GW1;replace HB:=eB hb;clear hb hg;have h_:=d6 BK1.out;repeat(obtain⟨_,h_⟩:=h_))|((with_reducible refine gate_callee (f:=37) rfl ?_);refine gl 37 (some 4) Try.func37 #[.agg #[V I a0_0,V I a0_1,L A0_2 l0_2.length c0_2,L A0_3 l0_3.length c0_3,V I a0_4,O a0_5]] ?_;(with_reducible refine(spec_LineOk.calls k a0_0 a0_1 _ _ l0_2 _ _ l0_3 a0_4 a0_5 false _ ?side1 ?side2 ?side3 ?side4 A1.out).mono ?_);(case side1=>exact uC (Kd.C_below HR1_2.out HB.out));(case side2=>exact HC1_2.out);(case side3=>exact uC (Kd.C_below HR1_3.out HB.out));(case side4=>exact HC1_3.out);rintro e w2 ⟨rfl,hb⟩;refine⟨_,rfl,?_⟩;replace BK1:=eK BK1 hb;replace HB:=eB hb;clear hb))
  go_ret
  exact⟨rE,uB⟩
def spec_NewLine.f (a0:Int):Option (Int×Int×List Int×List Int×Int×Bool×Bool):=(spec_l01In.f a0 0 40).bind fun t297=>(if t297=true then(some (a0,0,([]:List Int),([]:List Int),0,false,true)) else(some (0,0,([]:List Int),([]:List Int),0,false,false)))
set_option maxHeartbeats 40000000 in
set_option maxRecDepth 100000 in
theorem spec_NewLine.calls (a0:Int) (r1:Int) (r2:Int) (r3:List Int) (r4:List Int) (r5:Int) (r6:Bool) (r7:Bool) (w:World) (h:spec_NewLine.f a0=some (r1,r2,r3,r4,r5,r6,r7)):
  Calls Try.prog 96 #[V I a0] w fun e w'=>∃v2_ v3_:Value,e=.returned (.tuple #[.agg #[V I r1,V I r2,v2_,v3_,V I r5,O r6],O r7])∧Kd.R (Kd.int .i64) 3 w' w.heap.size (fun k_=>some k_≠(v3_:Value).ownBlock) v2_ r3∧Kd.R (Kd.int .i64) 3 w' w.heap.size (fun k_=>some k_≠(v2_:Value).ownBlock) v3_ r4∧Below w.heap.size w w':=by
 have hu1:=Try.underlying34
 have HB:=C (Below.refl w.heap.size w)
 have H:=h
 unfold spec_NewLine.f at H
 clear h
 obtain⟨t1,A1,H⟩:=bnd H
 by_cases c1:t1=true
 ·subst c1
  rw[if_pos rfl]at H
  simp only[Option.some.injEq,Prod.mk.injEq]at H
  obtain⟨rfl,rfl,rfl,rfl,rfl,rfl,rfl⟩:=H
  go_enter Try.func96,Try.ntmps96
  go_wp2_with (first|((with_reducible refine gate_dst (N:=2) rfl ?_);refine Fix.be 2 #[V I 0,V I 0,L none 0 0,L none 0 0,V I 0,O false] 34 ?_;intro gb1 hg w1 BK1 hb;have GW1:Aside0 (w.heap.size≤gb1):=gE hg;have GE1:=GW1;replace HB:=eB hb;clear hb hg)|((with_reducible refine gate_callee (f:=38) rfl ?_);refine gl 38 (some 5) Try.func38 #[V I a0,V I 0,V I 40] ?_;(with_reducible refine(spec_l01In.calls a0 0 40 true _ A1.out).mono ?_);rintro e w' ⟨rfl,⟨nd,rfl⟩⟩;refine⟨_,rfl,?_⟩;(try(rw[drewN_self w1];generalize hq_:World.drewN w1 _=w1;have n0_:Aside0 (w1.heap[gb1]? =some (.cells #[V I 0,V I 0,L none 0 0,L none 0 0,V I 0,O false] 34 (0,0))):=⟨by rw[←hq_];exact(uK BK1.out)⟩;have n1_:Aside0 (Below w.heap.size w w1):=⟨by rw[←hq_];exact uB⟩;clear BK1 HB hq_;have BK1:=n0_;have HB:=n1_;clear n0_ n1_));obtain⟨hcz1_0,hcz1_1,hcz1_2,hcz1_3,hcz1_4,hcz1_5,hfz1_0,hfz1_1,hfz1_2,hfz1_3,hfz1_4,hfz1_5⟩:=d6 BK1.out))
  refine bodyPost_ret (results_ct rfl _ _ gb1 34 #[V I a0,V I 0,L none 0 0,L none 0 0,V I 0,O false] (0,0) _ rfl (bK BK1.out) Try.underlying34 rfl (by kernel_rfl)) rfl ?_
  exact⟨_,_,rE,rN,rN,uB⟩
 ·replace c1:=Bool.eq_false_iff.mpr c1
  subst c1
  rw[if_neg Bool.false_ne_true]at H
  simp only[Option.some.injEq,Prod.mk.injEq]at H
  obtain⟨rfl,rfl,rfl,rfl,rfl,rfl,rfl⟩:=H
  go_enter Try.func96,Try.ntmps96
  go_wp2_with (first|((with_reducible refine gate_dst (N:=2) rfl ?_);refine Fix.be 2 #[V I 0,V I 0,L none 0 0,L none 0 0,V I 0,O false] 34 ?_;intro gb1 hg w1 BK1 hb;have GW1:Aside0 (w.heap.size≤gb1):=gE hg;have GE1:=GW1;replace HB:=eB hb;clear hb hg)|((with_reducible refine gate_callee (f:=38) rfl ?_);refine gl 38 (some 5) Try.func38 #[V I a0,V I 0,V I 40] ?_;(with_reducible refine(spec_l01In.calls a0 0 40 false _ A1.out).mono ?_);rintro e w' ⟨rfl,⟨nd,rfl⟩⟩;refine⟨_,rfl,?_⟩;(try(rw[drewN_self w1];generalize hq_:World.drewN w1 _=w1;have n0_:Aside0 (w1.heap[gb1]? =some (.cells #[V I 0,V I 0,L none 0 0,L none 0 0,V I 0,O false] 34 (0,0))):=⟨by rw[←hq_];exact(uK BK1.out)⟩;have n1_:Aside0 (Below w.heap.size w w1):=⟨by rw[←hq_];exact uB⟩;clear BK1 HB hq_;have BK1:=n0_;have HB:=n1_;clear n0_ n1_));obtain⟨hcz1_0,hcz1_1,hcz1_2,hcz1_3,hcz1_4,hcz1_5,hfz1_0,hfz1_1,hfz1_2,hfz1_3,hfz1_4,hfz1_5⟩:=d6 BK1.out))
  refine bodyPost_ret (results_ct rfl _ _ gb1 34 #[V I 0,V I 0,L none 0 0,L none 0 0,V I 0,O false] (0,0) _ rfl (bK BK1.out) Try.underlying34 rfl (by kernel_rfl)) rfl ?_
  exact⟨_,_,rE,rN,rN,uB⟩
end Go.Proofs.Ytblceimapaenlaa.PFnScenarios
