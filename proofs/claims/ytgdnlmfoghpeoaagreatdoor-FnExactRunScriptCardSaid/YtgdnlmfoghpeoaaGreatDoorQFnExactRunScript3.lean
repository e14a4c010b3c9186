/- Calls do what plain Lean functions say (FnExactRunScript). No condition. -/
import Derived.Test.YtgdnlmfoghpeoaaGreatDoorQFnExactRunScript0
import Derived.Test.YtgdnlmfoghpeoaaGreatDoorQFnExactRunScript2
namespace Go.Proofs.YtgdnlmfoghpeoaaGreatDoor.PFnExactRunScript
open Go.RowKit Go.Proofs.YtgdnlmfoghpeoaaGreatDoorW.PrintWords Go.Proofs.YtgdnlmfoghpeoaaGreatDoorW.PrintLast Go.Proofs.YtgdnlmfoghpeoaaGreatDoorW.PrintMore
open Tryz
open Fix (bK bnd cf6 cg6 cl6 d6 dB dK dR dn6 eB eK eR fR gE gK gs gy hh hi hx nf nm np nt nu oT ou pu qm qn rE rN rS si tu uB uC uK uR uZ)
open Go.Value renaming int→V,slice→L,bool→O
open Go.IntKind renaming i64→I
open Go.Proofs.YtgdnlmfoghpeoaaGreatDoorW.PrintWords.Aside0 renaming mk→C
open Go.Proofs.YtgdnlmfoghpeoaaGreatDoorW.PrintWords renaming Aside0→D,gate_callee→F,gate_dst→J
open Go.Proofs.YtgdnlmfoghpeoaaGreatDoorW.PrintWords.Kd renaming R_mono→X
open Go.World renaming block_lt_of_cell?→E
attribute [local go_sem] max2_int min2_int max_two min_two max_three min_three max_four min_four
attribute [local go_sem] Fix.isSome_setCell
set_option linter.unusedVariables false
set_option maxHeartbeats 40000000
set_option maxRecDepth 100000
set_option linter.unusedSimpArgs false
def impl_AddJob.f (k:Nat) (l0:List (S26)) (a1_0:Int) (a1_1:Int) (a1_2:Int) (a1_3:Bool) (a1_4:Int) (a1_5:Bool):Option ((List (S26))×Bool):=(impl_Job_43.f l0).bind fun t201=>((some (([(⟨a1_0,a1_1,a1_2,a1_3,a1_4,a1_5⟩:S26)]:List (S26)):List (S26))).bind fun y204=>(if t201.length+y204.length<2932031007402 then((some (t201++y204:List (S26))).bind fun y207=>((impl_JobsOk.f k l0).bind fun t210=>(if t210=true then((impl_JobsOk.f k y207).bind fun t211=>(if t211=true then(some (y207,true)) else((impl_Job_43.f l0).bind fun t212=>(some (t212,false))))) else((impl_Job_43.f l0).bind fun t215=>(some (t215,false)))))) else(none)))
theorem impl_AddJob.W1 {p:Prop} (h:p:=by
    go_enter func50,ntmps50
    try go_wp2_with (first|((with_reducible refine J (N:=3) rfl ?_);refine Fix.be 3 #[V I a1_0,V I a1_1,V I a1_2,O a1_3,V I a1_4,O a1_5] 26 ?_;intro gb1 hg w1 BK1 hb;have GW1:=gE (w:=w) hg;replace HB:=eB hb;clear hb hg))
    replace BK1:=dK BK1
    replace HB:=dB HB
    refine start_ (n:=6) (S:=fun w'=>cl6 w' gb1 (V I a1_0) (V I a1_1) (V I a1_2) (O a1_3) (V I a1_4) (O a1_5)) (ds:= []) #[false,false,false,false,false,false] (by kernel_rfl) rfl rfl hh (fun hHeld=> ?_)
    generalize w1.drew=w2 at BK1 HB hHeld ⊢
    refine pu 0 (some 7) ?_
    refine tu 2 (some 9) hHeld ?_
    refine join_ (σ:=Value×Value) 2 #[true,true,true,true,false,false] (fun s_=> [(8,s_.1),(10,s_.2)]) (fun s_ w'=>(cl6 w' gb1 (V I a1_0) (V I a1_1) (V I a1_2) (O a1_3) (V I a1_4) (O a1_5))∧(Kd.R k26 26 w' w.heap.size (fun k_=>some k_≠(s_.2:Value).ownBlock∧k_≠gb1) s_.1 t1)∧(Kd.R k26 26 w' w.heap.size (fun k_=>some k_≠(s_.1:Value).ownBlock∧k_≠gb1) s_.2 y1)∧(w'.heap[gb1]? =some (.cells #[V I a1_0,V I a1_1,V I a1_2,O a1_3,V I a1_4,O a1_5] 26 (0,0)))∧(Below w.heap.size w w')) ?_ ?_
    rotate_left
    · intro hCont
      refine two_ (i:=1) (j:=3) (Ni:=some 8) (Nj:=some 10) #[true,true,true,false,false,false] #[true,false,true,true,false,false] rfl rfl rfl rfl (by kernel_rfl) (by decide) (by decide) (fun K hK=> ?_) (fun K hK=> ?_)
      · skip
        refine gs func43 #[L A0 l0.length c0] ?_
        with_reducible refine(impl_Job_43.calls _ _ l0 t1 _ ?side1 HC1.out A1.out).mono ?_
        (case side1=>exact uZ HR1)
        rintro e w3 ⟨v1,rfl,ho1,hb⟩
        refine⟨_,rfl,?_⟩
        have HO1:=C (Kd.R_lower (Kd.R_newB ho1 (g:=gb1) (o:=.cells #[V I a1_0,V I a1_1,V I a1_2,O a1_3,V I a1_4,O a1_5] 26 (0,0)) (uK BK1.out)) (below_size uB))
        replace BK1:=eK BK1 hb
        replace HB:=eB hb
        (try clear hb)
        refine hK.out _ _ hh (fun hHeld=> ?_)
        clear hK K
        refine nu (N:=(some 8)) ?_
        refine ou 3 (some 10) (fun K hK=> ?_)
        refine Kd.R_lit_step k26 _ 26 ?hg (N:=10) ?hd (xs:=([(⟨a1_0,a1_1,a1_2,a1_3,a1_4,a1_5⟩:S26)]:List (S26))) (inner:= [V I a1_0,V I a1_1,V I a1_2,O a1_3,V I a1_4,O a1_5]) (ok:=fun _=>True) (okp:=fun _=>True) ?hr ?hp (fun _ hk=>hk) trivial (Below.refl _ _) (Nat.le_refl _) (by simp) ?_;(case hd=>rfl);(case hg=>rfl);(case hr=>exact Fix.hr);(case hp=>exact(Reps.c6 (show Kd.M k26 _ _ _ (⟨a1_0,a1_1,a1_2,a1_3,a1_4,a1_5⟩:S26) [V I a1_0,V I a1_1,V I a1_2,O a1_3,V I a1_4,O a1_5] from(k26_mkM _ _ _ (⟨a1_0,a1_1,a1_2,a1_3,a1_4,a1_5⟩:S26))) (Reps.none _ _)))
        intro v2 w4 ho2 hb hg_ hnew_
        clear hg_ hnew_
        (first|rw[←Ny1.out]at ho2|(simp only[Int.reduceToNat]at ho2;rw[←Ny1.out]at ho2))
        have HO2:=C (Kd.R_lower (Kd.R_newB (Kd.R_new' ho2 (Kd.R_lt (uR HO1.out))) (g:=gb1) (o:=.cells #[V I a1_0,V I a1_1,V I a1_2,O a1_3,V I a1_4,O a1_5] 26 (0,0)) (uK BK1.out)) (below_size uB))
        replace HO1:=C (Kd.R_elder' (uR HO1.out) (Kd.R_base ho2) hb)
        replace BK1:=eK BK1 hb
        replace HB:=eB hb
        clear hb ho2
        refine hK.out _ _ hh (fun hHeld=> ?_)
        clear hK K
        refine nu (N:=(some 10)) ?_
        exact norm_ (by simp only[putAll,Act.put,List.setIfInBounds_toArray,List.set_cons_zero,List.set_cons_succ]) (hCont (v1,v2) _ ⟨hHeld,(X (fR HO1.out) (fun _ hk=>⟨hk.2,hk.1.2⟩)),(X (fR HO2.out) (fun _ hk=>⟨hk.1.2,hk.2⟩)),(uK BK1.out),uB⟩)
      · skip
        refine Kd.R_lit_step k26 _ 26 ?hg (N:=10) ?hd (xs:=([(⟨a1_0,a1_1,a1_2,a1_3,a1_4,a1_5⟩:S26)]:List (S26))) (inner:= [V I a1_0,V I a1_1,V I a1_2,O a1_3,V I a1_4,O a1_5]) (ok:=fun _=>True) (okp:=fun _=>True) ?hr ?hp (fun _ hk=>hk) trivial (Below.refl _ _) (Nat.le_refl _) (by simp) ?_;(case hd=>rfl);(case hg=>rfl);(case hr=>exact Fix.hr);(case hp=>exact(Reps.c6 (show Kd.M k26 _ _ _ (⟨a1_0,a1_1,a1_2,a1_3,a1_4,a1_5⟩:S26) [V I a1_0,V I a1_1,V I a1_2,O a1_3,V I a1_4,O a1_5] from(k26_mkM _ _ _ (⟨a1_0,a1_1,a1_2,a1_3,a1_4,a1_5⟩:S26))) (Reps.none _ _)))
        intro v1 w3 ho1 hb hg_ hnew_
        clear hg_ hnew_
        (first|rw[←Ny1.out]at ho1|(simp only[Int.reduceToNat]at ho1;rw[←Ny1.out]at ho1))
        have HO1:=C (Kd.R_lower (Kd.R_newB ho1 (g:=gb1) (o:=.cells #[V I a1_0,V I a1_1,V I a1_2,O a1_3,V I a1_4,O a1_5] 26 (0,0)) (uK BK1.out)) (below_size uB))
        replace BK1:=eK BK1 hb
        replace HB:=eB hb
        clear hb ho1
        refine hK.out _ _ hh (fun hHeld=> ?_)
        clear hK K
        refine nu (N:=(some 10)) ?_
        refine ou 1 (some 8) (fun K hK=> ?_)
        refine gs func43 #[L A0 l0.length c0] ?_
        with_reducible refine(impl_Job_43.calls _ _ l0 t1 _ ?side1 HC1.out A1.out).mono ?_
        (case side1=>exact uZ HR1)
        rintro e w4 ⟨v2,rfl,ho2,hb⟩
        refine⟨_,rfl,?_⟩
        have HO2:=C (Kd.R_lower (Kd.R_newB (Kd.R_new' ho2 (Kd.R_lt (uR HO1.out))) (g:=gb1) (o:=.cells #[V I a1_0,V I a1_1,V I a1_2,O a1_3,V I a1_4,O a1_5] 26 (0,0)) (uK BK1.out)) (below_size uB))
        replace HO1:=C (Kd.R_elder' (uR HO1.out) (Kd.R_base ho2) hb)
        replace BK1:=eK BK1 hb
        replace HB:=eB hb
        (try clear hb)
        refine hK.out _ _ hh (fun hHeld=> ?_)
        clear hK K
        refine nu (N:=(some 8)) ?_
        exact norm_ (by simp only[putAll,Act.put,List.setIfInBounds_toArray,List.set_cons_zero,List.set_cons_succ]) (hCont (v2,v1) _ ⟨hHeld,(X (fR HO2.out) (fun _ hk=>⟨hk.1.2,hk.2⟩)),(X (fR HO1.out) (fun _ hk=>⟨hk.2,hk.1.2⟩)),(uK BK1.out),uB⟩)
    rintro⟨v1,v2⟩ w3 ⟨hS_,h1_,h2_,h3_,h4_⟩
    have n0_:D (Kd.R k26 26 w3 w.heap.size (fun k_=>qm k_ v2∧k_≠gb1) v1 t1):=⟨h1_⟩
    have n1_:D (Kd.R k26 26 w3 w.heap.size (fun k_=>qm k_ v1∧k_≠gb1) v2 y1):=⟨h2_⟩
    have n2_:D (w3.heap[gb1]? =some (.cells #[V I a1_0,V I a1_1,V I a1_2,O a1_3,V I a1_4,O a1_5] 26 (0,0))):=⟨h3_⟩
    have n3_:D (Below w.heap.size w w3):=⟨h4_⟩
    clear BK1
    clear HB
    clear h1_ h2_ h3_ h4_
    have HO1:=n0_
    have HO2:=n1_
    have BK1:=n2_
    have HB:=n3_
    clear n0_ n1_ n2_ n3_
    have hHeld:w3.cell? ⟨gb1,0,none⟩=some (V I a1_0)∧w3.cell? ⟨gb1,1,none⟩=some (V I a1_1)∧w3.cell? ⟨gb1,2,none⟩=some (V I a1_2)∧w3.cell? ⟨gb1,3,none⟩=some (O a1_3)∧w3.cell? ⟨gb1,4,none⟩=some (V I a1_4)∧w3.cell? ⟨gb1,5,none⟩=some (O a1_5):=hS_
    obtain⟨Ao1,co1,eo1⟩:=Kd.R_slice HO2.out
    (first|subst eo1|(injection eo1 with f1_ f2_ f3_;have f4_:=f1_.symm;have f5_:=f3_.symm;clear f1_ f2_ f3_;subst f4_;subst f5_))
    refine norm_ (a':= ?_) ?_ ?_
    rotate_left
    · simp only[putAll,Act.put,List.setIfInBounds_toArray,List.set_cons_zero,List.set_cons_succ]
      rfl
    refine ou 4 (some 11) (fun K hK=> ?_)
    refine Kd.R_append_rows_step k26 (w0:=w) w.heap.size (by rfl) (.tmp 8) (.tmp 10) 24 26 (.agg #[(V I 0),(V I 0),(V I 0),(O false),(V I 0),(O false)]) 48 rfl underlying24 info26 rfl (by decide) (by omega) v1 t1 y1 _ _ _ (fun k_=>qn k_ Ao1 y1.length co1∧k_≠gb1) (fun _=>False) rfl rfl ?aO ?aR (fun _ _ h=>h) (fun _ h=>h.elim) ?aF ?aB ?aS ?aL ?_
    (case aR=>exact uC (Kd.R_reads' HO2.out).2.2)
    (case aB=>exact uB)
    (case aF=>exact(fun k_ hk=>⟨Kd.fresh' (Kd.R_lt (uR HO2.out)) k_ hk,Kd.freshB (g:=gb1) (o:=.cells #[V I a1_0,V I a1_1,V I a1_2,O a1_3,V I a1_4,O a1_5] 26 (0,0)) (uK BK1.out) k_ hk⟩))
    (case aO=>exact(uR HO1.out))
    (case aS=>exact(below_size uB))
    (case aL=>have:=LMc1.out;omega)
    intro v3 w4 ho hb hg hat
    rw[←Ny2.out]at ho
    have HO3:=C (ho)
    replace BK1:=gK BK1 hg (Kd.R_away HO1.out (fun _ hk=>hk.2))
    replace HO2:=C (Kd.R_after (ok:=(fun k_=>k_≠gb1)) (X (fR HO2.out) (fun _ hk=>⟨hk.2,hk.1⟩)) hg hat)
    replace HB:=C (hb)
    clear HO1
    clear ho hb hg hat
    refine hK.out _ _ hh (fun hHeld=> ?_)
    clear hK K
    refine nu (N:=(some 11)) ?_
    refine pu 5 (some 6) ?_
    refine done_ (by kernel_rfl) ?_
    first
      | (try go_wp2_with (first | ((with_reducible refine F (f := 45) rfl ?_); refine Fix.gl 45 (some 13) func45 #[L A0 l0.length c0] ?_; (with_reducible refine (impl_JobsOk.calls k _ _ l0 true _ ?side1 HC1.out A2.out).mono ?_); (case side1 => exact uZ HR1); rintro e w5 ⟨rfl, hb⟩; refine ⟨_, rfl, ?_⟩; replace HO2 := eR HO2 hb; replace HO3 := eR HO3 hb; replace BK1 := eK BK1 hb; replace HB := eB hb; clear hb; obtain ⟨Ao2, co2, rfl⟩ := Kd.R_slice HO3.out) | (go_at_call 45; (with_reducible refine (impl_JobsOk.calls k _ _ y2 true _ ?side1 ?side2 A3.out).mono ?_); (case side1 => exact uC (Kd.R_reads' HO3.out).2.2); (case side2 => exact (Kd.R_reads' HO3.out).2.1); rintro e w6 ⟨rfl, hb⟩; replace HO2 := eR HO2 hb; replace HO3 := eR HO3 hb; replace BK1 := eK BK1 hb; replace HB := eB hb; clear hb))
         go_ret2
         exact⟨_,rE,X (fR HO3.out) (fun _ hk=>trivial),uB⟩)
      | (try go_wp2_with (first | ((with_reducible refine F (f := 45) rfl ?_); refine Fix.gl 45 (some 13) func45 #[L A0 l0.length c0] ?_; (with_reducible refine (impl_JobsOk.calls k _ _ l0 true _ ?side1 HC1.out A2.out).mono ?_); (case side1 => exact uZ HR1); rintro e w5 ⟨rfl, hb⟩; refine ⟨_, rfl, ?_⟩; replace HO2 := eR HO2 hb; replace HO3 := eR HO3 hb; replace BK1 := eK BK1 hb; replace HB := eB hb; clear hb; obtain ⟨Ao2, co2, rfl⟩ := Kd.R_slice HO3.out) | (go_at_call 45; (with_reducible refine (impl_JobsOk.calls k _ _ y2 false _ ?side1 ?side2 A3.out).mono ?_); (case side1 => exact uC (Kd.R_reads' HO3.out).2.2); (case side2 => exact (Kd.R_reads' HO3.out).2.1); rintro e w6 ⟨rfl, hb⟩; replace HO2 := eR HO2 hb; replace HO3 := eR HO3 hb; replace BK1 := eK BK1 hb; replace HB := eB hb; clear hb) | ((with_reducible refine F (f := 43) rfl ?_); refine Fix.gl 43 (some 21) func43 #[L A0 l0.length c0] ?_; (with_reducible refine (impl_Job_43.calls _ _ l0 t4 _ ?side1 HC1.out A4.out).mono ?_); (case side1 => exact uZ HR1); rintro e w7 ⟨v4, rfl, ho1, hb⟩; refine ⟨_, rfl, ?_⟩; have HO4 := C (Kd.R_lower (Kd.R_newB (Kd.R_new' (Kd.R_new' ho1 (Kd.R_lt (uR HO2.out))) (Kd.R_lt (uR HO3.out))) (g := gb1) (o := .cells #[V I a1_0, V I a1_1, V I a1_2, O a1_3, V I a1_4, O a1_5] 26 (0, 0)) (uK BK1.out)) (below_size uB)); replace HO2 := C (Kd.R_elder' (uR HO2.out) (Kd.R_base ho1) hb); replace HO3 := C (Kd.R_elder' (uR HO3.out) (Kd.R_base ho1) hb); replace BK1 := eK BK1 hb; replace HB := eB hb; clear hb ho1))
         go_ret2
         exact⟨_,rE,X (fR HO4.out) (fun _ hk=>trivial),uB⟩)):p:=h
theorem impl_AddJob.calls (k:Nat) (A0:Option Addr) (c0:Nat) (l0:List (S26)) (a1_0:Int) (a1_1:Int) (a1_2:Int) (a1_3:Bool) (a1_4:Int) (a1_5:Bool) (r1:List (S26)) (r2:Bool) (w:World) (hr0:Kd.C k26 w A0 l0.length l0) (hc0:l0.length≤c0) (h:impl_AddJob.f k l0 a1_0 a1_1 a1_2 a1_3 a1_4 a1_5=some (r1,r2)):
 Calls prog 50 #[L A0 l0.length c0,.agg #[V I a1_0,V I a1_1,V I a1_2,O a1_3,V I a1_4,O a1_5]] w fun e w'=>∃v0_:Value,e=.returned (.tuple #[v0_,O r2])∧Kd.R k26 26 w' w.heap.size (fun _=>True) v0_ r1∧Below w.heap.size w w':=by
 have hu1:=underlying26
 have HR1:=C hr0
 have HC1:=C hc0
 (try clear hr0);(try clear hc0)
 have HB:=C (Below.refl w.heap.size w)
 have H:=h
 unfold impl_AddJob.f at H
 clear h
 obtain⟨t1,A1,H⟩:=bnd H
 obtain⟨y1,hy1⟩:∃y_:List (S26),y_=(([(⟨a1_0,a1_1,a1_2,a1_3,a1_4,a1_5⟩:S26)]:List (S26))):=⟨_,rfl⟩
 replace H:(if t1.length+y1.length<2932031007402 then((some (t1++y1:List (S26))).bind fun y2=>((impl_JobsOk.f k l0).bind fun t2=>(if t2=true then((impl_JobsOk.f k y2).bind fun t3=>(if t3=true then(some (y2,true)) else((impl_Job_43.f l0).bind fun t4=>(some (t4,false))))) else((impl_Job_43.f l0).bind fun t5=>(some (t5,false)))))) else(none))=some (r1,r2):=gy hy1 H
 have Ny1:=C hy1
 clear hy1
 obtain⟨c1,H⟩:=np H
 have LMc1:=C c1
 clear c1
 obtain⟨y2,hy2⟩:∃y_:List (S26),y_=(t1++y1):=⟨_,rfl⟩
 replace H:((impl_JobsOk.f k l0).bind fun t2=>(if t2=true then((impl_JobsOk.f k y2).bind fun t3=>(if t3=true then(some (y2,true)) else((impl_Job_43.f l0).bind fun t4=>(some (t4,false))))) else((impl_Job_43.f l0).bind fun t5=>(some (t5,false)))))=some (r1,r2):=gy hy2 H
 have Ny2:=C hy2
 clear hy2
 obtain⟨t2,A2,H⟩:=bnd H
 by_cases c2:t2=true
 ·subst c2
  rw[if_pos rfl]at H
  obtain⟨t3,A3,H⟩:=bnd H
  by_cases c3:t3=true
  ·subst c3
   rw[if_pos rfl]at H
   simp only[Option.some.injEq,Prod.mk.injEq]at H
   obtain⟨rfl,rfl⟩:=H
   exact impl_AddJob.W1
  obtain rfl:=nt c3
  replace H:=nf H
  obtain⟨t4,A4,H⟩:=bnd H
  simp only[Option.some.injEq,Prod.mk.injEq]at H
  obtain⟨rfl,rfl⟩:=H
  exact impl_AddJob.W1
 obtain rfl:=nt c2
 replace H:=nf H
 obtain⟨t5,A3,H⟩:=bnd H
 simp only[Option.some.injEq,Prod.mk.injEq]at H
 obtain⟨rfl,rfl⟩:=H
 go_enter func50,ntmps50
 try go_wp2_with (first|((with_reducible refine J (N:=3) rfl ?_);refine Fix.be 3 #[V I a1_0,V I a1_1,V I a1_2,O a1_3,V I a1_4,O a1_5] 26 ?_;intro gb1 hg w1 BK1 hb;have GW1:=gE (w:=w) hg;replace HB:=eB hb;clear hb hg))
 replace BK1:=dK BK1
 replace HB:=dB HB
 refine start_ (n:=6) (S:=fun w'=>cl6 w' gb1 (V I a1_0) (V I a1_1) (V I a1_2) (O a1_3) (V I a1_4) (O a1_5)) (ds:= []) #[false,false,false,false,false,false] (by kernel_rfl) rfl rfl hh (fun hHeld=> ?_)
 generalize w1.drew=w2 at BK1 HB hHeld ⊢
 refine pu 0 (some 7) ?_
 refine tu 2 (some 9) hHeld ?_
 refine join_ (σ:=Value×Value) 2 #[true,true,true,true,false,false] (fun s_=> [(8,s_.1),(10,s_.2)]) (fun s_ w'=>(cl6 w' gb1 (V I a1_0) (V I a1_1) (V I a1_2) (O a1_3) (V I a1_4) (O a1_5))∧(Kd.R k26 26 w' w.heap.size (fun k_=>some k_≠(s_.2:Value).ownBlock∧k_≠gb1) s_.1 t1)∧(Kd.R k26 26 w' w.heap.size (fun k_=>some k_≠(s_.1:Value).ownBlock∧k_≠gb1) s_.2 y1)∧(w'.heap[gb1]? =some (.cells #[V I a1_0,V I a1_1,V I a1_2,O a1_3,V I a1_4,O a1_5] 26 (0,0)))∧(Below w.heap.size w w')) ?_ ?_
 rotate_left
 ·intro hCont
  refine two_ (i:=1) (j:=3) (Ni:=some 8) (Nj:=some 10) #[true,true,true,false,false,false] #[true,false,true,true,false,false] rfl rfl rfl rfl (by kernel_rfl) (by decide) (by decide) (fun K hK=> ?_) (fun K hK=> ?_)
  ·skip
   refine gs func43 #[L A0 l0.length c0] ?_
   with_reducible refine(impl_Job_43.calls _ _ l0 t1 _ ?side1 HC1.out A1.out).mono ?_
   (case side1=>exact uZ HR1)
   rintro e w3 ⟨v1,rfl,ho1,hb⟩
   refine⟨_,rfl,?_⟩
   have HO1:=C (Kd.R_lower (Kd.R_newB ho1 (g:=gb1) (o:=.cells #[V I a1_0,V I a1_1,V I a1_2,O a1_3,V I a1_4,O a1_5] 26 (0,0)) (uK BK1.out)) (below_size uB))
   replace BK1:=eK BK1 hb
   replace HB:=eB hb
   (try clear hb)
   refine hK.out _ _ hh (fun hHeld=> ?_)
   clear hK K
   refine nu (N:=(some 8)) ?_
   refine ou 3 (some 10) (fun K hK=> ?_)
   refine Kd.R_lit_step k26 _ 26 ?hg (N:=10) ?hd (xs:=([(⟨a1_0,a1_1,a1_2,a1_3,a1_4,a1_5⟩:S26)]:List (S26))) (inner:= [V I a1_0,V I a1_1,V I a1_2,O a1_3,V I a1_4,O a1_5]) (ok:=fun _=>True) (okp:=fun _=>True) ?hr ?hp (fun _ hk=>hk) trivial (Below.refl _ _) (Nat.le_refl _) (by simp) ?_;(case hd=>rfl);(case hg=>rfl);(case hr=>exact Fix.hr);(case hp=>exact(Reps.c6 (show Kd.M k26 _ _ _ (⟨a1_0,a1_1,a1_2,a1_3,a1_4,a1_5⟩:S26) [V I a1_0,V I a1_1,V I a1_2,O a1_3,V I a1_4,O a1_5] from(k26_mkM _ _ _ (⟨a1_0,a1_1,a1_2,a1_3,a1_4,a1_5⟩:S26))) (Reps.none _ _)))
   intro v2 w4 ho2 hb hg_ hnew_
   clear hg_ hnew_
   (first|rw[←Ny1.out]at ho2|(simp only[Int.reduceToNat]at ho2;rw[←Ny1.out]at ho2))
   have HO2:=C (Kd.R_lower (Kd.R_newB (Kd.R_new' ho2 (Kd.R_lt (uR HO1.out))) (g:=gb1) (o:=.cells #[V I a1_0,V I a1_1,V I a1_2,O a1_3,V I a1_4,O a1_5] 26 (0,0)) (uK BK1.out)) (below_size uB))
   replace HO1:=C (Kd.R_elder' (uR HO1.out) (Kd.R_base ho2) hb)
   replace BK1:=eK BK1 hb
   replace HB:=eB hb
   clear hb ho2
   refine hK.out _ _ hh (fun hHeld=> ?_)
   clear hK K
   refine nu (N:=(some 10)) ?_
   exact norm_ (by simp only[putAll,Act.put,List.setIfInBounds_toArray,List.set_cons_zero,List.set_cons_succ]) (hCont (v1,v2) _ ⟨hHeld,(X (fR HO1.out) (fun _ hk=>⟨hk.2,hk.1.2⟩)),(X (fR HO2.out) (fun _ hk=>⟨hk.1.2,hk.2⟩)),(uK BK1.out),uB⟩)
  ·skip
   refine Kd.R_lit_step k26 _ 26 ?hg (N:=10) ?hd (xs:=([(⟨a1_0,a1_1,a1_2,a1_3,a1_4,a1_5⟩:S26)]:List (S26))) (inner:= [V I a1_0,V I a1_1,V I a1_2,O a1_3,V I a1_4,O a1_5]) (ok:=fun _=>True) (okp:=fun _=>True) ?hr ?hp (fun _ hk=>hk) trivial (Below.refl _ _) (Nat.le_refl _) (by simp) ?_;(case hd=>rfl);(case hg=>rfl);(case hr=>exact Fix.hr);(case hp=>exact(Reps.c6 (show Kd.M k26 _ _ _ (⟨a1_0,a1_1,a1_2,a1_3,a1_4,a1_5⟩:S26) [V I a1_0,V I a1_1,V I a1_2,O a1_3,V I a1_4,O a1_5] from(k26_mkM _ _ _ (⟨a1_0,a1_1,a1_2,a1_3,a1_4,a1_5⟩:S26))) (Reps.none _ _)))
   intro v1 w3 ho1 hb hg_ hnew_
   clear hg_ hnew_
   (first|rw[←Ny1.out]at ho1|(simp only[Int.reduceToNat]at ho1;rw[←Ny1.out]at ho1))
   have HO1:=C (Kd.R_lower (Kd.R_newB ho1 (g:=gb1) (o:=.cells #[V I a1_0,V I a1_1,V I a1_2,O a1_3,V I a1_4,O a1_5] 26 (0,0)) (uK BK1.out)) (below_size uB))
   replace BK1:=eK BK1 hb
   replace HB:=eB hb
   clear hb ho1
   refine hK.out _ _ hh (fun hHeld=> ?_)
   clear hK K
   refine nu (N:=(some 10)) ?_
   refine ou 1 (some 8) (fun K hK=> ?_)
   refine gs func43 #[L A0 l0.length c0] ?_
   with_reducible refine(impl_Job_43.calls _ _ l0 t1 _ ?side1 HC1.out A1.out).mono ?_
   (case side1=>exact uZ HR1)
   rintro e w4 ⟨v2,rfl,ho2,hb⟩
   refine⟨_,rfl,?_⟩
   have HO2:=C (Kd.R_lower (Kd.R_newB (Kd.R_new' ho2 (Kd.R_lt (uR HO1.out))) (g:=gb1) (o:=.cells #[V I a1_0,V I a1_1,V I a1_2,O a1_3,V I a1_4,O a1_5] 26 (0,0)) (uK BK1.out)) (below_size uB))
   replace HO1:=C (Kd.R_elder' (uR HO1.out) (Kd.R_base ho2) hb)
   replace BK1:=eK BK1 hb
   replace HB:=eB hb
   (try clear hb)
   refine hK.out _ _ hh (fun hHeld=> ?_)
   clear hK K
   refine nu (N:=(some 8)) ?_
   exact norm_ (by simp only[putAll,Act.put,List.setIfInBounds_toArray,List.set_cons_zero,List.set_cons_succ]) (hCont (v2,v1) _ ⟨hHeld,(X (fR HO2.out) (fun _ hk=>⟨hk.1.2,hk.2⟩)),(X (fR HO1.out) (fun _ hk=>⟨hk.2,hk.1.2⟩)),(uK BK1.out),uB⟩)
 rintro⟨v1,v2⟩ w3 ⟨hS_,h1_,h2_,h3_,h4_⟩
 have n0_:D (Kd.R k26 26 w3 w.heap.size (fun k_=>qm k_ v2∧k_≠gb1) v1 t1):=⟨h1_⟩
 have n1_:D (Kd.R k26 26 w3 w.heap.size (fun k_=>qm k_ v1∧k_≠gb1) v2 y1):=⟨h2_⟩
 have n2_:D (w3.heap[gb1]? =some (.cells #[V I a1_0,V I a1_1,V I a1_2,O a1_3,V I a1_4,O a1_5] 26 (0,0))):=⟨h3_⟩
 have n3_:D (Below w.heap.size w w3):=⟨h4_⟩
 clear BK1
 clear HB
 clear h1_ h2_ h3_ h4_
 have HO1:=n0_
 have HO2:=n1_
 have BK1:=n2_
 have HB:=n3_
 clear n0_ n1_ n2_ n3_
 have hHeld:w3.cell? ⟨gb1,0,none⟩=some (V I a1_0)∧w3.cell? ⟨gb1,1,none⟩=some (V I a1_1)∧w3.cell? ⟨gb1,2,none⟩=some (V I a1_2)∧w3.cell? ⟨gb1,3,none⟩=some (O a1_3)∧w3.cell? ⟨gb1,4,none⟩=some (V I a1_4)∧w3.cell? ⟨gb1,5,none⟩=some (O a1_5):=hS_
 obtain⟨Ao1,co1,eo1⟩:=Kd.R_slice HO2.out
 (first|subst eo1|(injection eo1 with f1_ f2_ f3_;have f4_:=f1_.symm;have f5_:=f3_.symm;clear f1_ f2_ f3_;subst f4_;subst f5_))
 refine norm_ (a':= ?_) ?_ ?_
 rotate_left
 ·simp only[putAll,Act.put,List.setIfInBounds_toArray,List.set_cons_zero,List.set_cons_succ]
  rfl
 refine ou 4 (some 11) (fun K hK=> ?_)
 refine Kd.R_append_rows_step k26 (w0:=w) w.heap.size (by rfl) (.tmp 8) (.tmp 10) 24 26 (.agg #[(V I 0),(V I 0),(V I 0),(O false),(V I 0),(O false)]) 48 rfl underlying24 info26 rfl (by decide) (by omega) v1 t1 y1 _ _ _ (fun k_=>qn k_ Ao1 y1.length co1∧k_≠gb1) (fun _=>False) rfl rfl ?aO ?aR (fun _ _ h=>h) (fun _ h=>h.elim) ?aF ?aB ?aS ?aL ?_
 (case aR=>exact uC (Kd.R_reads' HO2.out).2.2)
 (case aB=>exact uB)
 (case aF=>exact(fun k_ hk=>⟨Kd.fresh' (Kd.R_lt (uR HO2.out)) k_ hk,Kd.freshB (g:=gb1) (o:=.cells #[V I a1_0,V I a1_1,V I a1_2,O a1_3,V I a1_4,O a1_5] 26 (0,0)) (uK BK1.out) k_ hk⟩))
 (case aO=>exact(uR HO1.out))
 (case aS=>exact(below_size uB))
 (case aL=>have:=LMc1.out;omega)
 intro v3 w4 ho hb hg hat
 rw[←Ny2.out]at ho
 have HO3:=C (ho)
 replace BK1:=gK BK1 hg (Kd.R_away HO1.out (fun _ hk=>hk.2))
 replace HO2:=C (Kd.R_after (ok:=(fun k_=>k_≠gb1)) (X (fR HO2.out) (fun _ hk=>⟨hk.2,hk.1⟩)) hg hat)
 replace HB:=C (hb)
 clear HO1
 clear ho hb hg hat
 refine hK.out _ _ hh (fun hHeld=> ?_)
 clear hK K
 refine nu (N:=(some 11)) ?_
 refine pu 5 (some 6) ?_
 refine done_ (by kernel_rfl) ?_
 try go_wp2_with (first|((with_reducible refine F (f:=45) rfl ?_);refine Fix.gl 45 (some 13) func45 #[L A0 l0.length c0] ?_;(with_reducible refine(impl_JobsOk.calls k _ _ l0 false _ ?side1 HC1.out A2.out).mono ?_);(case side1=>exact uZ HR1);rintro e w5 ⟨rfl,hb⟩;refine⟨_,rfl,?_⟩;replace HO2:=eR HO2 hb;replace HO3:=eR HO3 hb;replace BK1:=eK BK1 hb;replace HB:=eB hb;clear hb)|((with_reducible refine F (f:=43) rfl ?_);refine Fix.gl 43 (some 21) func43 #[L A0 l0.length c0] ?_;(with_reducible refine(impl_Job_43.calls _ _ l0 t5 _ ?side1 HC1.out A3.out).mono ?_);(case side1=>exact uZ HR1);rintro e w6 ⟨v4,rfl,ho1,hb⟩;refine⟨_,rfl,?_⟩;have HO4:=C (Kd.R_lower (Kd.R_newB (Kd.R_new' (Kd.R_new' ho1 (Kd.R_lt (uR HO2.out))) (Kd.R_lt (uR HO3.out))) (g:=gb1) (o:=.cells #[V I a1_0,V I a1_1,V I a1_2,O a1_3,V I a1_4,O a1_5] 26 (0,0)) (uK BK1.out)) (below_size uB));replace HO2:=C (Kd.R_elder' (uR HO2.out) (Kd.R_base ho1) hb);replace HO3:=C (Kd.R_elder' (uR HO3.out) (Kd.R_base ho1) hb);replace BK1:=eK BK1 hb;replace HB:=eB hb;clear hb ho1))
 go_ret2
 exact⟨_,rE,X (fR HO4.out) (fun _ hk=>trivial),uB⟩
def impl_bit.f (a0:Bool):Option (Int):=if a0=true then(some 1) else(some 0)
theorem impl_bit.W1 {p:Prop} (h:p:=by
 go_enter func52,ntmps52
 go_wp2
 go_ret
 exact⟨by first|rfl|(simp;done)|(simp[*];done),by repeat(first|exact Drawn0.refl _|apply Drawn0.step)⟩):p:=h
theorem impl_bit.calls (a0:Bool) (r:Int) (w:World) (h:impl_bit.f a0=some r):
 Calls prog 52 #[O a0] w fun e w'=>e=.returned (V I r)∧Drawn0 w w':=by
 have H:=h
 unfold impl_bit.f at H
 clear h
 by_cases c1:a0=true
 ·subst c1
  rw[if_pos rfl]at H
  obtain rfl:=si H
  exact impl_bit.W1
 obtain rfl:=nt c1
 replace H:=nf H
 obtain rfl:=si H
 exact impl_bit.W1
def impl_NextJob.l0:Nat→List (S26)→Int→List (S26)→Int→Int→Option (Int)
  |0,_,_,_,_,_=>none
  |k+1,x0,x3,x9,x10,x11=>if x11<x10 then(if 0≤x11 then(if x11<(x9.length:Int) then(if((rd_T26 x9 x11).f5=true) then(impl_NextJob.l0 k x0 x3 x9 x10 (wrap64 (x11+1))) else(if x3<0 then(impl_NextJob.l0 k x0 x11 x9 x10 (wrap64 (x11+1))) else(if 0≤x3 then(if x3<(x0.length:Int) then(if((rd_T26 x9 x11).f4) >((rd_T26 x0 x3).f4) then(impl_NextJob.l0 k x0 x11 x9 x10 (wrap64 (x11+1))) else(impl_NextJob.l0 k x0 x3 x9 x10 (wrap64 (x11+1)))) else(none)) else(none)))) else(none)) else(none)) else(some x3)
def impl_NextJob.f (k:Nat) (l0:List (S26)):Option (Int):=(impl_JobsOk.f k l0).bind fun t218=>(if t218=true then(impl_NextJob.l0 k l0 (-1) l0 (l0.length:Int) 0) else(some (-1)))
theorem impl_NextJob.W1 {p:Prop} (h:p:=by
 go_wp2_with (first|((with_reducible refine J (N:=5) rfl ?_);refine Fix.be 5 #[V I 0,V I 0,V I 0,O false,V I 0,O false] 26 ?_;intro gb1 hg w2 BK1 hb;have GW1:=gE (w:=w) hg;have GE1:=GW1;replace HB:=eB hb;clear hb hg;obtain⟨_,_,_,_,_,_,_,_,_,_,_,_⟩:=d6 BK1.out))
 repeat(go_quiet (fail);try go_wp2_with (first|((with_reducible refine J (N:=5) rfl ?_);refine Fix.be 5 #[V I 0,V I 0,V I 0,O false,V I 0,O false] 26 ?_;intro gb1 hg w2 BK1 hb;have GW1:=gE (w:=w) hg;have GE1:=GW1;replace HB:=eB hb;clear hb hg;obtain⟨_,_,_,_,_,_,_,_,_,_,_,_⟩:=d6 BK1.out)))
 go_roundg k1
 case measure=>have:=HK1.out;omega
 first
  |(case rel=>exact⟨(x1_1),(wrap64 (x2_1+1)),rS,rS,H',⟨by have:=HK1.out;omega⟩,⟨uB⟩⟩)
  |(case rel=>exact⟨(x2_1),(wrap64 (x2_1+1)),rS,rS,H',⟨by have:=HK1.out;omega⟩,⟨uB⟩⟩)):p:=h
theorem impl_NextJob.W2 {p:Prop} (h:p:=by
 go_wp2_with (first|((with_reducible refine J (N:=5) rfl ?_);refine Fix.be 5 #[V I 0,V I 0,V I 0,O false,V I 0,O false] 26 ?_;intro gb1 hg w2 BK1 hb;have GW1:=gE (w:=w) hg;have GE1:=GW1;replace HB:=eB hb;clear hb hg;obtain⟨_,_,_,_,_,_,_,_,_,_,_,_⟩:=d6 BK1.out;have p2:0≤(x1_1:Int):=oT;have q2:x1_1<(l0.length:Int):=oT;obtain⟨ad2,e2,hx2_0,hx2_1,hx2_2,hx2_3,hx2_4,hx2_5⟩:=at_T26 HR1.out x1_1 p2 q2;(try rw[←Nbq1.out]at hx2_3);(try rw[←Nbq1.out]at hx2_5);obtain rfl:ad1=ad2:=(by injection e2);have hn1_0:ad1.block≠gb1:=Nat.ne_of_lt (Nat.lt_of_lt_of_le (by have:=E _ _ hx2_0;first|rwa [add_block]at this|exact this) GW1.out);have hn1_1:ad1.block≠gb1:=Nat.ne_of_lt (Nat.lt_of_lt_of_le (by have:=E _ _ hx2_0;first|rwa [add_block]at this|exact this) GW1.out);have hn1_2:ad1.block≠gb1:=Nat.ne_of_lt (Nat.lt_of_lt_of_le (by have:=E _ _ hx2_0;first|rwa [add_block]at this|exact this) GW1.out);have hn1_3:ad1.block≠gb1:=Nat.ne_of_lt (Nat.lt_of_lt_of_le (by have:=E _ _ hx2_0;first|rwa [add_block]at this|exact this) GW1.out);have hn1_4:ad1.block≠gb1:=Nat.ne_of_lt (Nat.lt_of_lt_of_le (by have:=E _ _ hx2_0;first|rwa [add_block]at this|exact this) GW1.out);have hn1_5:ad1.block≠gb1:=Nat.ne_of_lt (Nat.lt_of_lt_of_le (by have:=E _ _ hx2_0;first|rwa [add_block]at this|exact this) GW1.out);replace hx2_0:=hx HB hx2_0;replace hx2_1:=hx HB hx2_1;replace hx2_2:=hx HB hx2_2;replace hx2_3:=hx HB hx2_3;replace hx2_4:=hx HB hx2_4;replace hx2_5:=hx HB hx2_5;replace hx2_0:=cg6 (g:=gb1) (nm hn1_0) (V I ((rd_T26 l0 x2_1).f0)) (V I ((rd_T26 l0 x2_1).f1)) (V I ((rd_T26 l0 x2_1).f2)) (O ((rd_T26 l0 x2_1).f3)) (V I ((rd_T26 l0 x2_1).f4)) (O false) hx2_0;replace hx2_1:=cg6 (g:=gb1) (nm hn1_0) (V I ((rd_T26 l0 x2_1).f0)) (V I ((rd_T26 l0 x2_1).f1)) (V I ((rd_T26 l0 x2_1).f2)) (O ((rd_T26 l0 x2_1).f3)) (V I ((rd_T26 l0 x2_1).f4)) (O false) hx2_1;replace hx2_2:=cg6 (g:=gb1) (nm hn1_0) (V I ((rd_T26 l0 x2_1).f0)) (V I ((rd_T26 l0 x2_1).f1)) (V I ((rd_T26 l0 x2_1).f2)) (O ((rd_T26 l0 x2_1).f3)) (V I ((rd_T26 l0 x2_1).f4)) (O false) hx2_2;replace hx2_3:=cg6 (g:=gb1) (nm hn1_0) (V I ((rd_T26 l0 x2_1).f0)) (V I ((rd_T26 l0 x2_1).f1)) (V I ((rd_T26 l0 x2_1).f2)) (O ((rd_T26 l0 x2_1).f3)) (V I ((rd_T26 l0 x2_1).f4)) (O false) hx2_3;replace hx2_4:=cg6 (g:=gb1) (nm hn1_0) (V I ((rd_T26 l0 x2_1).f0)) (V I ((rd_T26 l0 x2_1).f1)) (V I ((rd_T26 l0 x2_1).f2)) (O ((rd_T26 l0 x2_1).f3)) (V I ((rd_T26 l0 x2_1).f4)) (O false) hx2_4;replace hx2_5:=cg6 (g:=gb1) (nm hn1_0) (V I ((rd_T26 l0 x2_1).f0)) (V I ((rd_T26 l0 x2_1).f1)) (V I ((rd_T26 l0 x2_1).f2)) (O ((rd_T26 l0 x2_1).f3)) (V I ((rd_T26 l0 x2_1).f4)) (O false) hx2_5;(try have hy1_0:=dn6 hx2_0);(try have hy1_1:=dn6 hx2_1);(try have hy1_2:=dn6 hx2_2);(try have hy1_3:=dn6 hx2_3);(try have hy1_4:=dn6 hx2_4);(try have hy1_5:=dn6 hx2_5);clear hn1_0;clear hn1_1;clear hn1_2;clear hn1_3;clear hn1_4;clear hn1_5;replace p2:=eq_true p2;replace q2:=eq_true q2))
 repeat(go_quiet (fail);try go_wp2_with (first|((with_reducible refine J (N:=5) rfl ?_);refine Fix.be 5 #[V I 0,V I 0,V I 0,O false,V I 0,O false] 26 ?_;intro gb1 hg w2 BK1 hb;have GW1:=gE (w:=w) hg;have GE1:=GW1;replace HB:=eB hb;clear hb hg;obtain⟨_,_,_,_,_,_,_,_,_,_,_,_⟩:=d6 BK1.out;have p2:0≤(x1_1:Int):=oT;have q2:x1_1<(l0.length:Int):=oT;obtain⟨ad2,e2,hx2_0,hx2_1,hx2_2,hx2_3,hx2_4,hx2_5⟩:=at_T26 HR1.out x1_1 p2 q2;(try rw[←Nbq1.out]at hx2_3);(try rw[←Nbq1.out]at hx2_5);obtain rfl:ad1=ad2:=(by injection e2);have hn1_0:ad1.block≠gb1:=Nat.ne_of_lt (Nat.lt_of_lt_of_le (by have:=E _ _ hx2_0;first|rwa [add_block]at this|exact this) GW1.out);have hn1_1:ad1.block≠gb1:=Nat.ne_of_lt (Nat.lt_of_lt_of_le (by have:=E _ _ hx2_0;first|rwa [add_block]at this|exact this) GW1.out);have hn1_2:ad1.block≠gb1:=Nat.ne_of_lt (Nat.lt_of_lt_of_le (by have:=E _ _ hx2_0;first|rwa [add_block]at this|exact this) GW1.out);have hn1_3:ad1.block≠gb1:=Nat.ne_of_lt (Nat.lt_of_lt_of_le (by have:=E _ _ hx2_0;first|rwa [add_block]at this|exact this) GW1.out);have hn1_4:ad1.block≠gb1:=Nat.ne_of_lt (Nat.lt_of_lt_of_le (by have:=E _ _ hx2_0;first|rwa [add_block]at this|exact this) GW1.out);have hn1_5:ad1.block≠gb1:=Nat.ne_of_lt (Nat.lt_of_lt_of_le (by have:=E _ _ hx2_0;first|rwa [add_block]at this|exact this) GW1.out);replace hx2_0:=hx HB hx2_0;replace hx2_1:=hx HB hx2_1;replace hx2_2:=hx HB hx2_2;replace hx2_3:=hx HB hx2_3;replace hx2_4:=hx HB hx2_4;replace hx2_5:=hx HB hx2_5;replace hx2_0:=cg6 (g:=gb1) (nm hn1_0) (V I ((rd_T26 l0 x2_1).f0)) (V I ((rd_T26 l0 x2_1).f1)) (V I ((rd_T26 l0 x2_1).f2)) (O ((rd_T26 l0 x2_1).f3)) (V I ((rd_T26 l0 x2_1).f4)) (O false) hx2_0;replace hx2_1:=cg6 (g:=gb1) (nm hn1_0) (V I ((rd_T26 l0 x2_1).f0)) (V I ((rd_T26 l0 x2_1).f1)) (V I ((rd_T26 l0 x2_1).f2)) (O ((rd_T26 l0 x2_1).f3)) (V I ((rd_T26 l0 x2_1).f4)) (O false) hx2_1;replace hx2_2:=cg6 (g:=gb1) (nm hn1_0) (V I ((rd_T26 l0 x2_1).f0)) (V I ((rd_T26 l0 x2_1).f1)) (V I ((rd_T26 l0 x2_1).f2)) (O ((rd_T26 l0 x2_1).f3)) (V I ((rd_T26 l0 x2_1).f4)) (O false) hx2_2;replace hx2_3:=cg6 (g:=gb1) (nm hn1_0) (V I ((rd_T26 l0 x2_1).f0)) (V I ((rd_T26 l0 x2_1).f1)) (V I ((rd_T26 l0 x2_1).f2)) (O ((rd_T26 l0 x2_1).f3)) (V I ((rd_T26 l0 x2_1).f4)) (O false) hx2_3;replace hx2_4:=cg6 (g:=gb1) (nm hn1_0) (V I ((rd_T26 l0 x2_1).f0)) (V I ((rd_T26 l0 x2_1).f1)) (V I ((rd_T26 l0 x2_1).f2)) (O ((rd_T26 l0 x2_1).f3)) (V I ((rd_T26 l0 x2_1).f4)) (O false) hx2_4;replace hx2_5:=cg6 (g:=gb1) (nm hn1_0) (V I ((rd_T26 l0 x2_1).f0)) (V I ((rd_T26 l0 x2_1).f1)) (V I ((rd_T26 l0 x2_1).f2)) (O ((rd_T26 l0 x2_1).f3)) (V I ((rd_T26 l0 x2_1).f4)) (O false) hx2_5;(try have hy1_0:=dn6 hx2_0);(try have hy1_1:=dn6 hx2_1);(try have hy1_2:=dn6 hx2_2);(try have hy1_3:=dn6 hx2_3);(try have hy1_4:=dn6 hx2_4);(try have hy1_5:=dn6 hx2_5);clear hn1_0;clear hn1_1;clear hn1_2;clear hn1_3;clear hn1_4;clear hn1_5;replace p2:=eq_true p2;replace q2:=eq_true q2)))
 go_roundg k1
 case measure=>have:=HK1.out;omega
 first
  |(case rel=>exact⟨(x2_1),(wrap64 (x2_1+1)),rS,rS,H',⟨by have:=HK1.out;omega⟩,⟨uB⟩⟩)
  |(case rel=>exact⟨(x1_1),(wrap64 (x2_1+1)),rS,rS,H',⟨by have:=HK1.out;omega⟩,⟨uB⟩⟩)):p:=h
theorem impl_NextJob.calls (k:Nat) (A0:Option Addr) (c0:Nat) (l0:List (S26)) (r:Int) (w:World) (hr0:Kd.C k26 w A0 l0.length l0) (hc0:l0.length≤c0) (h:impl_NextJob.f k l0=some r):
 Calls prog 77 #[L A0 l0.length c0] w fun e w'=>e=.returned (V I r)∧Below w.heap.size w w':=by
 have hu1:=underlying26
 have HR1:=C hr0
 have HC1:=C hc0
 (try clear hr0);(try clear hc0)
 have HB:=C (Below.refl w.heap.size w)
 have H:=h
 unfold impl_NextJob.f at H
 clear h
 obtain⟨t1,A1,H⟩:=bnd H
 by_cases c1:t1=true
 rotate_left
 ·obtain rfl:=nt c1
  replace H:=nf H
  obtain rfl:=si H
  go_enter func77,ntmps77
  go_wp2_with (first|(go_at_call 45;(with_reducible refine(impl_JobsOk.calls k _ _ l0 false _ ?side1 HC1.out A1.out).mono ?_);(case side1=>exact uC HR1.out);rintro e w1 ⟨rfl,hb⟩;replace HB:=eB hb;clear hb))
  repeat(go_quiet (fail);try go_wp2_with (first|(go_at_call 45;(with_reducible refine(impl_JobsOk.calls k _ _ l0 false _ ?side1 HC1.out A1.out).mono ?_);(case side1=>exact uC HR1.out);rintro e w1 ⟨rfl,hb⟩;replace HB:=eB hb;clear hb)))
  go_ret
  exact⟨rE,uB⟩
 subst c1
 rw[if_pos rfl]at H
 have H':=C H
 clear H
 go_enter func77,ntmps77
 go_wp2_with (first|(go_at_call 45;(with_reducible refine(impl_JobsOk.calls k _ _ l0 true _ ?side1 HC1.out A1.out).mono ?_);(case side1=>exact uC HR1.out);rintro e w1 ⟨rfl,hb⟩;replace HB:=eB hb;clear hb))
 repeat(go_quiet (fail);try go_wp2_with (first|(go_at_call 45;(with_reducible refine(impl_JobsOk.calls k _ _ l0 true _ ?side1 HC1.out A1.out).mono ?_);(case side1=>exact uC HR1.out);rintro e w1 ⟨rfl,hb⟩;replace HB:=eB hb;clear hb)))
 go_loopg [3,11] k (fun kq v3 v11 w'=>∃(x1_1:Int) (x2_1:Int),v3=V I x1_1∧v11=V I x2_1∧D (impl_NextJob.l0 kq l0 x1_1 l0 (l0.length:Int) x2_1=some r)∧D (kq≤k)∧D (Below w.heap.size w w'))
 case atStart=>exact⟨((-1)),(0),rS,rS,H',⟨Nat.le_refl _⟩,⟨uB⟩⟩
 case round=>
  clear H'
  obtain⟨x1_1,x2_1,rfl,rfl,HA,HK1,HB⟩:=hrel
  cases gk with
  |zero=>exact absurd HA.out (by simp[impl_NextJob.l0])
  |succ k1=>
   have H:=HA.out
   clear HA
   simp only[impl_NextJob.l0]at H
   by_cases c2:x2_1<(l0.length:Int)
   rotate_left
   ·rw[if_neg c2]at H
    replace c2:=decide_eq_false c2
    obtain rfl:=si H
    go_wp2
    repeat(go_quiet (fail);try go_wp2)
    go_ret
    exact⟨rE,uB⟩
   rw[if_pos c2]at H
   replace c2:=decide_eq_true c2
   obtain⟨c3,H⟩:=np H
   replace c3:=decide_eq_true c3
   obtain⟨c4,H⟩:=np H
   replace c4:=decide_eq_true c4
   obtain⟨bq1,hbq1⟩:∃b_:Bool,b_=((rd_T26 l0 x2_1).f5):=⟨_,rfl⟩
   replace H:(if(bq1=true) then(impl_NextJob.l0 k1 l0 x1_1 l0 (l0.length:Int) (wrap64 (x2_1+1))) else(if x1_1<0 then(impl_NextJob.l0 k1 l0 x2_1 l0 (l0.length:Int) (wrap64 (x2_1+1))) else(if 0≤x1_1 then(if x1_1<(l0.length:Int) then(if((rd_T26 l0 x2_1).f4) >((rd_T26 l0 x1_1).f4) then(impl_NextJob.l0 k1 l0 x2_1 l0 (l0.length:Int) (wrap64 (x2_1+1))) else(impl_NextJob.l0 k1 l0 x1_1 l0 (l0.length:Int) (wrap64 (x2_1+1)))) else(none)) else(none))))=some r:=by rw[←hbq1]at H;exact H
   have Nbq1:=C hbq1
   clear hbq1
   by_cases c5:(bq1=true)
   ·subst c5
    rw[if_pos rfl]at H
    have H':=C H
    clear H
    have p1:0≤(x2_1:Int):=oT
    have q1:x2_1<(l0.length:Int):=oT
    obtain⟨ad1,e1,hx1_0,hx1_1,hx1_2,hx1_3,hx1_4,hx1_5⟩:=at_T26 HR1.out x2_1 p1 q1
    (try rw[←Nbq1.out]at hx1_3)
    (try rw[←Nbq1.out]at hx1_5)
    cases e1
    replace hx1_0:=hx HB hx1_0
    replace hx1_1:=hx HB hx1_1
    replace hx1_2:=hx HB hx1_2
    replace hx1_3:=hx HB hx1_3
    replace hx1_4:=hx HB hx1_4
    replace hx1_5:=hx HB hx1_5
    replace p1:=eq_true p1
    replace q1:=eq_true q1
    exact impl_NextJob.W1
   obtain rfl:=nt c5
   replace H:=nf H
   by_cases c6:x1_1<0
   ·rw[if_pos c6]at H
    replace c6:=decide_eq_true c6
    have H':=C H
    clear H
    have p1:0≤(x2_1:Int):=oT
    have q1:x2_1<(l0.length:Int):=oT
    obtain⟨ad1,e1,hx1_0,hx1_1,hx1_2,hx1_3,hx1_4,hx1_5⟩:=at_T26 HR1.out x2_1 p1 q1
    (try rw[←Nbq1.out]at hx1_3)
    (try rw[←Nbq1.out]at hx1_5)
    cases e1
    replace hx1_0:=hx HB hx1_0
    replace hx1_1:=hx HB hx1_1
    replace hx1_2:=hx HB hx1_2
    replace hx1_3:=hx HB hx1_3
    replace hx1_4:=hx HB hx1_4
    replace hx1_5:=hx HB hx1_5
    replace p1:=eq_true p1
    replace q1:=eq_true q1
    exact impl_NextJob.W1
   rw[if_neg c6]at H
   replace c6:=decide_eq_false c6
   obtain⟨c7,H⟩:=np H
   replace c7:=decide_eq_true c7
   obtain⟨c8,H⟩:=np H
   replace c8:=decide_eq_true c8
   by_cases c9:((rd_T26 l0 x2_1).f4) >((rd_T26 l0 x1_1).f4)
   ·rw[if_pos c9]at H
    replace c9:=decide_eq_true c9
    have H':=C H
    clear H
    have p1:0≤(x2_1:Int):=oT
    have q1:x2_1<(l0.length:Int):=oT
    obtain⟨ad1,e1,hx1_0,hx1_1,hx1_2,hx1_3,hx1_4,hx1_5⟩:=at_T26 HR1.out x2_1 p1 q1
    (try rw[←Nbq1.out]at hx1_3)
    (try rw[←Nbq1.out]at hx1_5)
    cases e1
    replace hx1_0:=hx HB hx1_0
    replace hx1_1:=hx HB hx1_1
    replace hx1_2:=hx HB hx1_2
    replace hx1_3:=hx HB hx1_3
    replace hx1_4:=hx HB hx1_4
    replace hx1_5:=hx HB hx1_5
    replace p1:=eq_true p1
    replace q1:=eq_true q1
    exact impl_NextJob.W2
   rw[if_neg c9]at H
   replace c9:=decide_eq_false c9
   have H':=C H
   clear H
   have p1:0≤(x2_1:Int):=oT
   have q1:x2_1<(l0.length:Int):=oT
   obtain⟨ad1,e1,hx1_0,hx1_1,hx1_2,hx1_3,hx1_4,hx1_5⟩:=at_T26 HR1.out x2_1 p1 q1
   (try rw[←Nbq1.out]at hx1_3)
   (try rw[←Nbq1.out]at hx1_5)
   cases e1
   replace hx1_0:=hx HB hx1_0
   replace hx1_1:=hx HB hx1_1
   replace hx1_2:=hx HB hx1_2
   replace hx1_3:=hx HB hx1_3
   replace hx1_4:=hx HB hx1_4
   replace hx1_5:=hx HB hx1_5
   replace p1:=eq_true p1
   replace q1:=eq_true q1
   exact impl_NextJob.W2
def impl_Job_78.f (l0:List S26) (a1 a2:Int):Option (List S26):=if 0≤a1 then(if a2=a1+1 then(if a2≤(l0.length:Int) then some (l0.eraseIdx a1.toNat) else none) else none) else none
def impl_Job_78.T5:Bool×List (List Nat×List Nat):=(true,[([],[]),([],[]),([0,1],[0,1]),([],[]),([],[]),([3,4],[3,4]),([2,5],[2,5]),([6,6,0,1,2,3,4,5,6],[0,3,6])])
def impl_Job_78.B5:List Nat:= [0,0,3,0,0,24,63,127]
theorem impl_Job_78.tab5:rtab .any (opsOf Tryz.f78 5)=impl_Job_78.T5:=by kernel_rfl
theorem impl_Job_78.bits5:waitsOk impl_Job_78.T5.2 impl_Job_78.B5=true:=by kernel_rfl
theorem impl_Job_78.own (B:Nat) (ok:Nat→Prop) (A0:Option Addr) (c0:Nat) (l0:List S26) (a1 a2:Int) (r:List S26) (w:World) (ho:Kd.R k26 26 w B ok (L A0 l0.length c0) l0) (h:impl_Job_78.f l0 a1 a2=some r):
 Calls prog 78 #[L A0 l0.length c0,V I a1,V I a2] w fun e w'=>∃v0_:Value,e=.returned v0_∧Kd.R k26 26 w' B ok v0_ r∧w.grownBy w' (Value.slice A0 l0.length c0).ownBlock:=by
 unfold impl_Job_78.f at h
 obtain⟨c1,h⟩:=np h
 obtain⟨c2,h⟩:=np h
 obtain⟨c3,h⟩:=np h
 obtain rfl:=Option.some.inj h
 clear h
 obtain⟨go,co,eo,gb,gl,cl,HG⟩:=Kd.R_form ho (by omega)
 (first|cases eo|(injection eo with ea_ en_ ec_;(first|subst ea_|(injection ea_ with ea_;subst ea_));subst ec_;clear en_))
 have hroom:l0.length≤c0:=(Kd.R_reads' ho).2.1
 have hbig:=(Kd.R_reads' ho).2.2.2.1
 obtain⟨i0,hi0,_,hsz,_⟩:=info_parts info26
 obtain⟨m,hm⟩:∃m:Nat,(m:Int)=a1:=⟨a1.toNat,by omega⟩
 have hm1:a1.toNat=m:=by omega
 have hm2:a2.toNat=m+1:=by omega
 have hml:m+1≤l0.length:=by omega
 have hcutT:=Del.cut_top (P:=prog) 24 26 underlying24 hi0 (some ⟨go,0,none⟩) l0.length c0 a1 a2 c1 (by omega) c3 hroom
 have hcutA:=cut_to (P:=prog) 24 26 .i64 underlying24 hi0 (some ⟨go,0,none⟩) l0.length c0 a1 c1 (by omega) hroom
 have hcutB:=cut_from (P:=prog) 24 26 .i64 underlying24 hi0 6 hsz (some ⟨go,0,none⟩) l0.length c0 a2 (by omega) c3
 obtain⟨nl,hnl⟩:∃nl:Nat,nl=l0.length - 1:=⟨_,rfl⟩
 have hcutC:=Del.cut_tail (P:=prog) 24 26 underlying24 hi0 6 hsz go nl l0.length c0 (by omega) hroom (by omega)
 rw[show l0.length - nl=1 by omega]at hcutC
 obtain⟨vT,hvT⟩:∃v:Value,v=(L (if l0.length=a1.toNat then(some (⟨go,0,none⟩:Addr)) else(some (⟨go,0,none⟩:Addr)).map (·.add (a1.toNat * i0.size))) (a2.toNat - a1.toNat) (l0.length - a1.toNat)):=⟨_,rfl⟩
 rw[←hvT]at hcutT
 obtain⟨A14,hA14⟩:∃A1,A1=(if c0=a2.toNat then(some (⟨go,0,none⟩:Addr)) else(some (⟨go,0,none⟩:Addr)).map (·.add (a2.toNat * 6))):=⟨_,rfl⟩
 obtain⟨n14,hn14⟩:∃n1,n1=l0.length - a2.toNat:=⟨_,rfl⟩
 obtain⟨c14,hc14⟩:∃c1,c1=c0 - a2.toNat:=⟨_,rfl⟩
 rw[←hA14,←hn14,←hc14]at hcutB
 rw[hm1]at hcutA
 have cE:(a1==a2)=false:=beq_eq_false_iff_ne.mpr (by omega)
 have cF:decide (a1=a2)=false:=decide_eq_false (by omega)
 have HO:=C ho
 have HX:=C (And.intro hm2 (And.intro hml (And.intro hm1 hnl)))
 have KA:=C hA14
 have KN:=C hn14
 have HR:=C (And.intro hroom (And.intro gb gl))
 clear ho hm2 hml hm1 hnl hA14 hn14 hc14 hvT hroom gb gl HG hm hsz hi0 hbig c1 c2 c3
 go_enter func78,ntmps78
 try go_wp2
 have n0_:=dR HO
 have GR:=C (show w.grownBy w.drew (some go) from⟨rfl,rfl,rfl,Nat.le_refl _,fun _ _ _=>rfl⟩)
 clear HO
 have HO:=n0_
 clear n0_
 refine start_ (n:=8) (S:=fun w'=>True) (ds:= []) #[false,false,false,false,false,false,false,false] (by kernel_rfl) rfl rfl trivial (fun hHeld=> ?_)
 refine with_tabW impl_Job_78.tab5 impl_Job_78.bits5 (fun HT_ HW_=> ?_)
 generalize w.drew=w11 at HO GR hHeld ⊢
 refine pu 0 (some 20) ?_
 refine pu 1 (some 21) ?_
 refine pu 2 (some 22) ?_
 refine pu 3 (some 23) ?_
 refine pu 4 (some 24) ?_
 refine pu 5 (some 25) ?_
 refine ou 6 (some 26) (fun K hK=> ?_)
 have hx_:=HX.out
 have ka_:=KA.out
 have kn_:=KN.out
 rw[hx_.1]at ka_ kn_
 have hr_:=HR.out
 have gs_:=GR.out.size
 refine Kd.R_delete_step k26 (w0:=w11) B (by rfl) (.tmp 22) (.tmp 25) 24 26 rfl underlying24 (by kernel_rfl) (g:=go) (n:=l0.length) (c:=c0) (k:=m) rfl rfl ka_ kn_ HO.out (by omega) (Below.refl _ _) (by omega) ?_
 intro w15 ho hb hg
 rw[←hx_.2.2.2]at ho ⊢
 rw[←hx_.2.2.1]at ho
 have HO2:=C ho
 have GR2:=C (Go.Lib.grownBy_trans GR.out hg)
 clear ho hb hg hx_ ka_ kn_ hr_ gs_ HO GR
 refine hK.out _ _ trivial (fun hHeld=> ?_)
 clear hK K
 refine nu (N:=(some 26)) ?_
 refine pu 7 (some 0) ?_
 refine done_ (done_of HT_.out (by kernel_rfl)) ?_
 have hcl:∀ty,(Builtin.clear_ #[24] ty #[L (some ⟨go,nl * 6,none⟩) 1 (c0 - nl)]).run prog w15=.ok (.tuple #[]) (w15.setCells go (nl * 6) [V I 0,V I 0,V I 0,O false,V I 0,O false]):=fun ty=>by
  have hx_:=HX.out
  have hr_:=HR.out
  refine Del.run_clear_one w15 24 26 ty _ underlying24 Tryz.zeroValue26 go (nl * 6) (c0 - nl) _ (by kernel_rfl) (fun j hj=>(Del.room HO2.out _ ?_).1) (fun j hj=>(Del.room HO2.out _ ?_).2) (by decide)
  ·show nl * 6+j<c0 * 6
   simp only[List.length_cons,List.length_nil]at hj
   omega
  ·show nl * 6+j<c0 * 6
   simp only[List.length_cons,List.length_nil]at hj
   omega
 have HO3:=C (Del.tail_sets HO2.out [V I 0,V I 0,V I 0,O false,V I 0,O false] (nl * 6) (Nat.le_refl _))
 have GR3:=C (Del.grown_sets GR2.out [V I 0,V I 0,V I 0,O false,V I 0,O false] (nl * 6))
 clear HO2 GR2
 generalize w15.setCells go (nl * 6) [V I 0,V I 0,V I 0,O false,V I 0,O false]=w16 at hcl HO3 GR3
 try go_wp2
 go_ret
 exact⟨_,rfl,HO3.out,GR3.out⟩
def impl_TakeJob.f (k:Nat) (l0:List (S26)):Option ((List (S26))×Int×Int×Int×Bool×Int×Bool×Bool):=(impl_NextJob.f k l0).bind fun t226=>(if t226<0 then((impl_Job_43.f l0).bind fun t227=>(some (t227,0,0,0,false,0,false,false))) else((impl_Job_43.f l0).bind fun t230=>((impl_Job_78.f t230 t226 (wrap64 (t226+1))).bind fun t233=>(if 0≤t226 then(if t226<(l0.length:Int) then(some (t233,(rd_T26 l0 t226).f0,(rd_T26 l0 t226).f1,(rd_T26 l0 t226).f2,(rd_T26 l0 t226).f3,(rd_T26 l0 t226).f4,(rd_T26 l0 t226).f5,true)) else(none)) else(none)))))
def impl_TakeJob.T4:Bool×List (List Nat×List Nat):=(true,[([],[]),([0],[0]),([],[]),([],[]),([3],[3]),([1,2,4,1],[1,2,4]),([],[]),([],[]),([6,7],[6,7]),([8],[8]),([5,5,0,1,2,3,4,5],[5]),([9,10,0,1,2,3,4,5,6,7,8,9,10],[9]),([11,0,1,2,3,4,5,6,7,8,9,10,11],[])])
def impl_TakeJob.B4:List Nat:= [0,1,0,0,8,31,0,0,192,448,63,2047,4095]
theorem impl_TakeJob.tab4:rtab .any (opsOf Tryz.f53 4)=impl_TakeJob.T4:=by kernel_rfl
theorem impl_TakeJob.bits4:waitsOk impl_TakeJob.T4.2 impl_TakeJob.B4=true:=by kernel_rfl
theorem impl_TakeJob.calls (k:Nat) (A0:Option Addr) (c0:Nat) (l0:List (S26)) (r1:List (S26)) (r2:Int) (r3:Int) (r4:Int) (r5:Bool) (r6:Int) (r7:Bool) (r8:Bool) (w:World) (hr0:Kd.C k26 w A0 l0.length l0) (hc0:l0.length≤c0) (h:impl_TakeJob.f k l0=some (r1,r2,r3,r4,r5,r6,r7,r8)):
 Calls prog 53 #[L A0 l0.length c0] w fun e w'=>∃v0_:Value,e=.returned (.tuple #[v0_,.agg #[V I r2,V I r3,V I r4,O r5,V I r6,O r7],O r8])∧Kd.R k26 26 w' w.heap.size (fun _=>True) v0_ r1∧Below w.heap.size w w':=by
 have hu1:=underlying26
 have HR1:=C hr0
 have HC1:=C hc0
 (try clear hr0);(try clear hc0)
 have HB:=C (Below.refl w.heap.size w)
 have H:=h
 unfold impl_TakeJob.f at H
 clear h
 obtain⟨t1,A1,H⟩:=bnd H
 by_cases c1:t1<0
 ·rw[if_pos c1]at H
  replace c1:=decide_eq_true c1
  obtain⟨t2,A2,H⟩:=bnd H
  simp only[Option.some.injEq,Prod.mk.injEq]at H
  obtain⟨rfl,rfl,rfl,rfl,rfl,rfl,rfl,rfl⟩:=H
  go_enter func53,ntmps53
  go_wp2_with (first|((with_reducible refine J (N:=3) rfl ?_);refine Fix.be 3 #[V I 0,V I 0,V I 0,O false,V I 0,O false] 26 ?_;intro gb1 hg w2 BK1 hb;have GW1:=gE (w:=w) hg;have GE1:=GW1;replace HB:=eB hb;clear hb hg)|((with_reducible refine F (f:=77) rfl ?_);refine Fix.gl 77 (some 7) func77 #[L A0 l0.length c0] ?_;(with_reducible refine(impl_NextJob.calls k _ _ l0 t1 _ ?side1 HC1.out A1.out).mono ?_);(case side1=>exact uZ HR1);rintro e w3 ⟨rfl,hb⟩;refine⟨_,rfl,?_⟩;replace BK1:=eK BK1 hb;replace HB:=eB hb;clear hb)|((with_reducible refine F (f:=43) rfl ?_);refine Fix.gl 43 (some 11) func43 #[L A0 l0.length c0] ?_;(with_reducible refine(impl_Job_43.calls _ _ l0 t2 _ ?side1 HC1.out A2.out).mono ?_);(case side1=>exact uZ HR1);rintro e w4 ⟨v1,rfl,ho1,hb⟩;refine⟨_,rfl,?_⟩;have HO1:=C (Kd.R_lower (Kd.R_newB ho1 (g:=gb1) (o:=.cells #[V I 0,V I 0,V I 0,O false,V I 0,O false] 26 (0,0)) (uK BK1.out)) (below_size uB));replace BK1:=eK BK1 hb;replace HB:=eB hb;clear hb ho1;obtain⟨_,_,_,_,_,_,_,_,_,_,_,_⟩:=d6 BK1.out))
  refine bodyPost_ret (results_list (rs:= [.tmp 2,.cell 3 26,.tmp 4]) rfl (by simp) (.tmp (.cell gb1 26 #[V I 0,V I 0,V I 0,O false,V I 0,O false] (0,0) _ rfl (bK BK1.out) underlying26 rfl (by kernel_rfl) (.tmp .nil)))) rfl ?_
  exact⟨_,rE,X (fR (X HO1.out (fun k_ hk=>(⟨hk,hk.2⟩:_∧k_≠gb1)))) (fun _ hk=>trivial),uB⟩
 rw[if_neg c1]at H
 replace c1:=decide_eq_false c1
 obtain⟨t2,A2,H⟩:=bnd H
 obtain⟨t3,A3,H⟩:=bnd H
 obtain⟨c2,H⟩:=np H
 replace c2:=decide_eq_true c2
 obtain⟨c3,H⟩:=np H
 replace c3:=decide_eq_true c3
 simp only[Option.some.injEq,Prod.mk.injEq]at H
 obtain⟨rfl,rfl,rfl,rfl,rfl,rfl,rfl,rfl⟩:=H
 go_enter func53,ntmps53
 try go_wp2_with (first|((with_reducible refine J (N:=3) rfl ?_);refine Fix.be 3 #[V I 0,V I 0,V I 0,O false,V I 0,O false] 26 ?_;intro gb1 hg w2 BK1 hb;have GW1:=gE (w:=w) hg;have GE1:=GW1;replace HB:=eB hb;clear hb hg)|((with_reducible refine F (f:=77) rfl ?_);refine Fix.gl 77 (some 7) func77 #[L A0 l0.length c0] ?_;(with_reducible refine(impl_NextJob.calls k _ _ l0 t1 _ ?side1 HC1.out A1.out).mono ?_);(case side1=>exact uZ HR1);rintro e w3 ⟨rfl,hb⟩;refine⟨_,rfl,?_⟩;replace BK1:=eK BK1 hb;replace HB:=eB hb;clear hb))
 replace BK1:=dK BK1
 replace HB:=dB HB
 have p1:0≤(t1:Int):=oT
 have q1:t1<(l0.length:Int):=oT
 obtain⟨ad1,e1,hx1_0,hx1_1,hx1_2,hx1_3,hx1_4,hx1_5⟩:=at_T26 HR1.out t1 p1 q1
 have hw1_5:=hx1_5
 have hw1_4:=hx1_4
 have hw1_3:=hx1_3
 have hw1_2:=hx1_2
 have hw1_1:=hx1_1
 have hw1_0:=hx1_0
 cases e1
 replace hx1_0:=hx HB hx1_0
 replace hx1_1:=hx HB hx1_1
 replace hx1_2:=hx HB hx1_2
 replace hx1_3:=hx HB hx1_3
 replace hx1_4:=hx HB hx1_4
 replace hx1_5:=hx HB hx1_5
 replace p1:=eq_true p1
 replace q1:=eq_true q1
 refine start_ (n:=13) (S:=fun w'=>w'.cell? (ad1.add ((t1).toNat * 6))=some (V I ((rd_T26 l0 t1).f0))∧w'.cell? ⟨(ad1.add ((t1).toNat * 6)).block,(ad1.add ((t1).toNat * 6)).off+1,none⟩=some (V I ((rd_T26 l0 t1).f1))∧w'.cell? ⟨(ad1.add ((t1).toNat * 6)).block,(ad1.add ((t1).toNat * 6)).off+2,none⟩=some (V I ((rd_T26 l0 t1).f2))∧w'.cell? ⟨(ad1.add ((t1).toNat * 6)).block,(ad1.add ((t1).toNat * 6)).off+3,none⟩=some (O ((rd_T26 l0 t1).f3))∧w'.cell? ⟨(ad1.add ((t1).toNat * 6)).block,(ad1.add ((t1).toNat * 6)).off+4,none⟩=some (V I ((rd_T26 l0 t1).f4))∧w'.cell? ⟨(ad1.add ((t1).toNat * 6)).block,(ad1.add ((t1).toNat * 6)).off+5,none⟩=some (O ((rd_T26 l0 t1).f5))) (ds:= []) #[false,false,false,false,false,false,false,false,false,false,false,false,false] (by kernel_rfl) rfl rfl hi (fun hHeld=> ?_);refine with_tabW impl_TakeJob.tab4 impl_TakeJob.bits4 (fun HT_ HW_=> ?_)
 generalize w3.drew=w4 at BK1 HB hx1_0 hx1_1 hx1_2 hx1_3 hx1_4 hx1_5 hHeld ⊢
 refine pu 0 (some 13) ?_
 refine pu 2 (some 15) ?_
 refine pu 3 (some 16) ?_
 refine pu 4 (some 17) ?_
 refine pu 6 (some 19) ?_
 refine pu 7 (some 20) ?_
 refine pu 8 (some 21) ?_
 refine tu 9 (some 22) hHeld ?_
 refine ou 1 (some 14) (fun K hK=> ?_)
 refine gs func43 #[L (some ad1) l0.length c0] ?_
 with_reducible refine(impl_Job_43.calls _ _ l0 t2 _ ?side1 HC1.out A2.out).mono ?_
 (case side1=>exact uZ HR1)
 rintro e w5 ⟨v1,rfl,ho1,hb⟩
 refine⟨_,rfl,?_⟩
 have HO1:=C (Kd.R_lower (Kd.R_newB ho1 (g:=gb1) (o:=.cells #[V I 0,V I 0,V I 0,O false,V I 0,O false] 26 (0,0)) (uK BK1.out)) (below_size uB))
 replace BK1:=eK BK1 hb
 replace HB:=eB hb
 (try clear hb)
 obtain⟨Ao1,co1,eo1⟩:=Kd.R_slice HO1.out
 (first|subst eo1|(injection eo1 with f1_ f2_ f3_;have f4_:=f1_.symm;have f5_:=f3_.symm;clear f1_ f2_ f3_;subst f4_;subst f5_))
 refine hK.out _ _ ⟨((HB.out.cell (E w _ hw1_0)).trans hw1_0),((HB.out.cell (E w _ hw1_1)).trans hw1_1),((HB.out.cell (E w _ hw1_2)).trans hw1_2),((HB.out.cell (E w _ hw1_3)).trans hw1_3),((HB.out.cell (E w _ hw1_4)).trans hw1_4),((HB.out.cell (E w _ hw1_5)).trans hw1_5)⟩ (fun hHeld=> ?_)
 clear hK K
 refine nu (N:=(some 14)) ?_
 refine ou 5 (some 18) (fun K hK=> ?_)
 refine gs func78 #[L Ao1 t2.length co1,V I t1,V I (wrap64 (t1+1))] ?_
 with_reducible refine(impl_Job_78.own _ _ _ _ t2 t1 (wrap64 (t1+1)) t3 _ HO1.out A3.out).mono ?_
 rintro e w6 ⟨v2,rfl,ho1,hg⟩
 refine⟨_,rfl,?_⟩
 have n1_:=C ho1
 have n2_:=C ((hg.block gb1 (blk_lt BK1.out) (fun he=>(HO1.out.1 gb1 he.symm).2 rfl)).trans BK1.out)
 have n3_:=C (Below.grown HB.out hg (below_size HB.out) (fun k hk=>Kd.R_base HO1.out k hk))
 clear HO1 BK1 HB hg ho1
 have HO2:=n1_
 have BK1:=n2_
 have HB:=n3_
 clear n1_ n2_ n3_
 refine hK.out _ _ ⟨((HB.out.cell (E w _ hw1_0)).trans hw1_0),((HB.out.cell (E w _ hw1_1)).trans hw1_1),((HB.out.cell (E w _ hw1_2)).trans hw1_2),((HB.out.cell (E w _ hw1_3)).trans hw1_3),((HB.out.cell (E w _ hw1_4)).trans hw1_4),((HB.out.cell (E w _ hw1_5)).trans hw1_5)⟩ (fun hHeld=> ?_)
 clear hK K
 refine nu (N:=(some 18)) ?_
 refine pu 10 (some 2) ?_
 refine ou 11 (none) (fun K hK=> ?_)
 obtain⟨hs1,hs2,hs3,hs4,hs5,hs6,hfs1,hfs2,hfs3,hfs4,hfs5,hfs6⟩:=d6 BK1.out
 refine skip_ (w1:= ?_) (by rfl) rfl ?_ ?_
 rotate_left
 ·go_simp
  rfl
 refine hK.out _ _ ⟨(cf6 (Fix.nl hw1_0 GW1) (hHeld.1)),(cf6 (Fix.nl hw1_1 GW1) (hHeld.2.1)),(cf6 (Fix.nl hw1_2 GW1) (hHeld.2.2.1)),(cf6 (Fix.nl hw1_3 GW1) (hHeld.2.2.2.1)),(cf6 (Fix.nl hw1_4 GW1) (hHeld.2.2.2.2.1)),(cf6 (Fix.nl hw1_5 GW1) (hHeld.2.2.2.2.2))⟩ (fun hHeld=> ?_)
 clear hK K
 refine pu 12 (some 4) ?_
 refine done_ (done_of HT_.out (by kernel_rfl)) ?_
 try go_wp2
 refine bodyPost_ret (results_list (rs:= [.tmp 2,.cell 3 26,.tmp 4]) rfl (by simp) (.tmp (.cell gb1 26 #[V I ((rd_T26 l0 t1).f0),V I ((rd_T26 l0 t1).f1),V I ((rd_T26 l0 t1).f2),O ((rd_T26 l0 t1).f3),V I ((rd_T26 l0 t1).f4),O ((rd_T26 l0 t1).f5)] (0,0) _ rfl (bK BK1.out) underlying26 rfl (by kernel_rfl) (.tmp .nil)))) rfl ?_
 exact⟨_,rE,X (fR (X HO2.out (fun k_ hk=>(⟨hk,hk.2⟩:_∧k_≠gb1)))) (fun _ hk=>trivial),uB⟩
def impl_IsDone.f (k:Nat) (a0_0:Int) (a0_1:Int) (l0_2:List Int) (l0_3:List Int) (a0_4:Int) (a0_5:Bool):Option (Bool):=(impl_LineOk.f k a0_0 a0_1 l0_2 l0_3 a0_4 a0_5).bind fun t238=>(if t238=true then(some ((l0_3.length:Int)==a0_0)) else(some false))
theorem impl_IsDone.calls (k:Nat) (a0_0:Int) (a0_1:Int) (A0_2:Option Addr) (c0_2:Nat) (l0_2:List Int) (A0_3:Option Addr) (c0_3:Nat) (l0_3:List Int) (a0_4:Int) (a0_5:Bool) (r:Bool) (w:World) (hr0_2:Kd.C (Kd.int .i64) w A0_2 l0_2.length l0_2) (hc0_2:l0_2.length≤c0_2) (hr0_3:Kd.C (Kd.int .i64) w A0_3 l0_3.length l0_3) (hc0_3:l0_3.length≤c0_3) (h:impl_IsDone.f k a0_0 a0_1 l0_2 l0_3 a0_4 a0_5=some r):
 Calls prog 54 #[.agg #[V I a0_0,V I a0_1,L A0_2 l0_2.length c0_2,L A0_3 l0_3.length c0_3,V I a0_4,O a0_5]] w fun e w'=>e=.returned (O r)∧Below w.heap.size w w':=by
 have hu1:=underlying29
 have HR1_2:=C hr0_2
 have HC1_2:=C hc0_2
 (try clear hr0_2);(try clear hc0_2)
 have HR1_3:=C hr0_3
 have HC1_3:=C hc0_3
 (try clear hr0_3);(try clear hc0_3)
 have HB:=C (Below.refl w.heap.size w)
 have H:=h
 unfold impl_IsDone.f at H
 clear h
 obtain⟨t1,A1,H⟩:=bnd H
 by_cases c1:t1=true
 rotate_left
 ·obtain rfl:=nt c1
  replace H:=nf H
  obtain rfl:=si H
  go_enter func54,ntmps54
  go_wp2_with (first|((with_reducible refine J (N:=1) rfl ?_);(try(refine gate_guard (by rfl) ?_;dsimp only));refine Fix.be 1 #[V I a0_0,V I a0_1,L A0_2 l0_2.length c0_2,L A0_3 l0_3.length c0_3,V I a0_4,O a0_5] 29 ?_;intro gb1 hg w1 BK1 hb;have GW1:=gE (w:=w) hg;have GE1:=GW1;replace HB:=eB hb;clear hb hg;obtain⟨_,_,_,_,_,_,_,_,_,_,_,_⟩:=d6 BK1.out)|((with_reducible refine F (f:=46) rfl ?_);refine Fix.gl 46 (some 4) func46 #[.agg #[V I a0_0,V I a0_1,L A0_2 l0_2.length c0_2,L A0_3 l0_3.length c0_3,V I a0_4,O a0_5]] ?_;(with_reducible refine(impl_LineOk.calls k a0_0 a0_1 (fun k_=>k_<w.heap.size) _ _ l0_2 (fun k_=>k_<w.heap.size) _ _ l0_3 a0_4 a0_5 false _ ?side1 ?side2 A1.out).mono ?_);(case side1=>exact Kd.V_mk HC1_2.out (Kd.F_below (Kd.C_F (Kd.heap_int .i64) HR1_2.out) uB));(case side2=>exact Kd.V_mk HC1_3.out (Kd.F_below (Kd.C_F (Kd.heap_int .i64) HR1_3.out) uB));rintro e w2 ⟨rfl,hb⟩;refine⟨_,rfl,?_⟩;replace BK1:=eK BK1 hb;replace HB:=eB hb;clear hb))
  go_ret
  exact⟨rE,uB⟩
 subst c1
 rw[if_pos rfl]at H
 obtain rfl:=si H
 go_enter func54,ntmps54
 go_wp2_with (first|((with_reducible refine J (N:=1) rfl ?_);(try(refine gate_guard (by rfl) ?_;dsimp only));refine Fix.be 1 #[V I a0_0,V I a0_1,L A0_2 l0_2.length c0_2,L A0_3 l0_3.length c0_3,V I a0_4,O a0_5] 29 ?_;intro gb1 hg w1 BK1 hb;have GW1:=gE (w:=w) hg;have GE1:=GW1;replace HB:=eB hb;clear hb hg;obtain⟨_,_,_,_,_,_,_,_,_,_,_,_⟩:=d6 BK1.out)|((with_reducible refine F (f:=46) rfl ?_);refine Fix.gl 46 (some 4) func46 #[.agg #[V I a0_0,V I a0_1,L A0_2 l0_2.length c0_2,L A0_3 l0_3.length c0_3,V I a0_4,O a0_5]] ?_;(with_reducible refine(impl_LineOk.calls k a0_0 a0_1 (fun k_=>k_<w.heap.size) _ _ l0_2 (fun k_=>k_<w.heap.size) _ _ l0_3 a0_4 a0_5 true _ ?side1 ?side2 A1.out).mono ?_);(case side1=>exact Kd.V_mk HC1_2.out (Kd.F_below (Kd.C_F (Kd.heap_int .i64) HR1_2.out) uB));(case side2=>exact Kd.V_mk HC1_3.out (Kd.F_below (Kd.C_F (Kd.heap_int .i64) HR1_3.out) uB));rintro e w2 ⟨rfl,hb⟩;refine⟨_,rfl,?_⟩;replace BK1:=eK BK1 hb;replace HB:=eB hb;clear hb;obtain⟨_,_,_,_,_,_,_,_,_,_,_,_⟩:=d6 BK1.out))
 go_ret
 exact⟨rE,uB⟩
def impl_NewLine.f (a0:Int):Option (Int×Int×List Int×List Int×Int×Bool×Bool):=(impl_within.f a0 0 40).bind fun t240=>(if t240=true then(some (a0,0,([]:List Int),([]:List Int),0,false,true)) else(some (0,0,([]:List Int),([]:List Int),0,false,false)))
theorem impl_NewLine.calls (a0:Int) (r1:Int) (r2:Int) (r3:List Int) (r4:List Int) (r5:Int) (r6:Bool) (r7:Bool) (w:World) (h:impl_NewLine.f a0=some (r1,r2,r3,r4,r5,r6,r7)):
 Calls prog 55 #[V I a0] w fun e w'=>∃v2_ v3_:Value,e=.returned (.tuple #[.agg #[V I r1,V I r2,v2_,v3_,V I r5,O r6],O r7])∧Kd.R (Kd.int .i64) 3 w' w.heap.size (fun k_=>qm k_ v3_) v2_ r3∧Kd.R (Kd.int .i64) 3 w' w.heap.size (fun k_=>qm k_ v2_) v3_ r4∧Below w.heap.size w w':=by
 have hu1:=underlying29
 have HB:=C (Below.refl w.heap.size w)
 have H:=h
 unfold impl_NewLine.f at H
 clear h
 obtain⟨t1,A1,H⟩:=bnd H
 by_cases c1:t1=true
 ·subst c1
  rw[if_pos rfl]at H
  simp only[Option.some.injEq,Prod.mk.injEq]at H
  obtain⟨rfl,rfl,rfl,rfl,rfl,rfl,rfl⟩:=H
  go_enter func55,ntmps55
  go_wp2_with (first|((with_reducible refine J (N:=2) rfl ?_);refine Fix.be 2 #[V I 0,V I 0,L none 0 0,L none 0 0,V I 0,O false] 29 ?_;intro gb1 hg w1 BK1 hb;have GW1:=gE (w:=w) hg;have GE1:=GW1;replace HB:=eB hb;clear hb hg)|((with_reducible refine F (f:=47) rfl ?_);refine Fix.gl 47 (some 5) func47 #[V I a0,V I 0,V I 40] ?_;(with_reducible refine(impl_within.calls a0 0 40 true _ A1.out).mono ?_);rintro e w' ⟨rfl,⟨nd,rfl⟩⟩;refine⟨_,rfl,?_⟩;(try(rw[drewN_self w1];generalize hq_:World.drewN w1 _=w1;have n0_:D (w1.heap[gb1]? =some (.cells #[V I 0,V I 0,L none 0 0,L none 0 0,V I 0,O false] 29 (0,0))):=⟨by rw[←hq_];exact(uK BK1.out)⟩;have n1_:D (Below w.heap.size w w1):=⟨by rw[←hq_];exact uB⟩;clear BK1 HB hq_;have BK1:=n0_;have HB:=n1_;clear n0_ n1_));obtain⟨_,_,_,_,_,_,_,_,_,_,_,_⟩:=d6 BK1.out))
  refine bodyPost_ret (results_ct rfl _ _ gb1 29 #[V I a0,V I 0,L none 0 0,L none 0 0,V I 0,O false] (0,0) _ rfl (bK BK1.out) underlying29 rfl (by kernel_rfl)) rfl ?_
  exact⟨_,_,rE,rN,rN,uB⟩
 obtain rfl:=nt c1
 replace H:=nf H
 simp only[Option.some.injEq,Prod.mk.injEq]at H
 obtain⟨rfl,rfl,rfl,rfl,rfl,rfl,rfl⟩:=H
 go_enter func55,ntmps55
 go_wp2_with (first|((with_reducible refine J (N:=2) rfl ?_);refine Fix.be 2 #[V I 0,V I 0,L none 0 0,L none 0 0,V I 0,O false] 29 ?_;intro gb1 hg w1 BK1 hb;have GW1:=gE (w:=w) hg;have GE1:=GW1;replace HB:=eB hb;clear hb hg)|((with_reducible refine F (f:=47) rfl ?_);refine Fix.gl 47 (some 5) func47 #[V I a0,V I 0,V I 40] ?_;(with_reducible refine(impl_within.calls a0 0 40 false _ A1.out).mono ?_);rintro e w' ⟨rfl,⟨nd,rfl⟩⟩;refine⟨_,rfl,?_⟩;(try(rw[drewN_self w1];generalize hq_:World.drewN w1 _=w1;have n0_:D (w1.heap[gb1]? =some (.cells #[V I 0,V I 0,L none 0 0,L none 0 0,V I 0,O false] 29 (0,0))):=⟨by rw[←hq_];exact(uK BK1.out)⟩;have n1_:D (Below w.heap.size w w1):=⟨by rw[←hq_];exact uB⟩;clear BK1 HB hq_;have BK1:=n0_;have HB:=n1_;clear n0_ n1_));obtain⟨_,_,_,_,_,_,_,_,_,_,_,_⟩:=d6 BK1.out))
 refine bodyPost_ret (results_ct rfl _ _ gb1 29 #[V I 0,V I 0,L none 0 0,L none 0 0,V I 0,O false] (0,0) _ rfl (bK BK1.out) underlying29 rfl (by kernel_rfl)) rfl ?_
 exact⟨_,_,rE,rN,rN,uB⟩
end Go.Proofs.YtgdnlmfoghpeoaaGreatDoor.PFnExactRunScript
