/- FnScenarios: the functions that the law reaches, each as a plain Lean function, and that a call does what it says. Made by a program of this work (wip/mp.py) out of the kit's print. No condition. -/
import Derived.Test.YtblceimapaenlaaQFnScenarios0
import Derived.Test.YtblceimapaenlaaQFnScenarios2
import Derived.Test.YtblceimapaenlaaQFnScenarios12
namespace Go.Proofs.Ytblceimapaenlaa.PFnScenarios
open Go.RowKit Go.Proofs.YtblceimapaenlaaW.PrintWords Go.Proofs.YtblceimapaenlaaW.PrintLast Go.Proofs.YtblceimapaenlaaW.PrintMore
open Fix (bK bnd cg6 cl6 d4 d6 dB dK dn6 eB eK eR fR gE gK gl gs hh hx nm nu oL ou pu rE rS tu uB uC uK uR)
open Go.Value renaming int→V,slice→L,bool→O
open Go.IntKind renaming i64→I
open Go.Proofs.YtblceimapaenlaaW.PrintWords.Aside0 renaming mk→C
open Go.Proofs.YtblceimapaenlaaW.PrintWords renaming Aside0→D
open Go.Proofs.YtblceimapaenlaaW.PrintWords.Kd renaming R_mono→X
open Go.World renaming block_lt_of_cell?→E
attribute [local go_sem] max2_int min2_int max_two min_two max_three min_three max_four min_four
attribute [local go_sem] Fix.isSome_setCell
set_option linter.unusedVariables false
set_option linter.unusedSimpArgs false
def impl_ActOk.j0:Nat→Int→Bool→Int→Int→Int→Int→Option (Bool)
  |0,_,_,_,_,_,_=>none
  |k+1,x4,x10,x686000,x686001,x686002,x686003=>if x10=true then(if x686001=0 then(if x686002=0 then(some (x686003==0)) else(some false)) else(some false)) else(if x4=3 then((impl_within.f x686001 1 5).bind fun t693=>(if t693=true then(if x686002=0 then(some (x686003==0)) else(some false)) else(some false))) else(if x4=5 then((impl_within.f x686001 1 9999).bind fun t694=>(if t694=true then(if x686002=0 then(some (x686003==0)) else(some false)) else(some false))) else(some false)))
def impl_ActOk.f (k:Nat) (a0_0:Int) (a0_1:Int) (a0_2:Int) (a0_3:Int):Option (Bool):=if a0_0=1 then((impl_jobOf.f a0_0 a0_1 a0_2 a0_3).bind fun bt686=>((impl_JobOk.f bt686.1 bt686.2.1 bt686.2.2.1 bt686.2.2.2.1 bt686.2.2.2.2.1 bt686.2.2.2.2.2).bind fun t692=>(some t692))) else(if a0_0=2 then(impl_ActOk.j0 k a0_0 (a0_0==2) a0_0 a0_1 a0_2 a0_3) else(impl_ActOk.j0 k a0_0 (a0_0==4) a0_0 a0_1 a0_2 a0_3))
theorem impl_ActOk.mono_l:∀k,(∀y0 y1 y2 y3 y4 y5,LeO (impl_ActOk.j0 k y0 y1 y2 y3 y4 y5) (impl_ActOk.j0 (k+1) y0 y1 y2 y3 y4 y5))
  |0=>fun _ _ _ _ _ _ r h=>by simp[impl_ActOk.j0]at h
  |k+1=>by
    have ih0:=impl_ActOk.mono_l k
    · intro y0 y1 y2 y3 y4 y5
      unfold impl_ActOk.j0
      repeat' first|(with_reducible first|apply ih0|exact LeO.refl _|exact LeO.none _|refine LeO.ite ?_ ?_|refine LeO.bind ?_ (fun _=> ?_))|apply ih0|exact LeO.none _|refine LeO.ite ?_ ?_|refine LeO.bind ?_ (fun _=> ?_)
theorem impl_ActOk.mono:∀a0 a1 a2 a3 k,LeO (impl_ActOk.f k a0 a1 a2 a3) (impl_ActOk.f (k+1) a0 a1 a2 a3):=by
  intro a0 a1 a2 a3 k
  have ih0:=impl_ActOk.mono_l k
  unfold impl_ActOk.f
  repeat' first|(with_reducible first|apply ih0|exact LeO.refl _|exact LeO.none _|refine LeO.ite ?_ ?_|refine LeO.bind ?_ (fun _=> ?_))|apply ih0|exact LeO.none _|refine LeO.ite ?_ ?_|refine LeO.bind ?_ (fun _=> ?_)
theorem impl_ActOk.W1 {p:Prop} (h:p:=by
    go_wp2
    go_meet
    first
      |(case rel=>exact⟨_,((a0_0==2)),rS,H',⟨oL⟩,⟨bK BK1.out⟩,⟨uB⟩⟩)
      |(case rel=>exact⟨_,((a0_0==4)),rS,H',⟨oL⟩,⟨bK BK1.out⟩,⟨uB⟩⟩)):p:=h
theorem impl_ActOk.W2 {p:Prop} (h:p:=by
    go_wp2
    go_ret
    exact⟨rE,uB⟩):p:=h
theorem impl_ActOk.W3 {p:Prop} (h:p:=by
    go_wp2_with (first|((with_reducible refine gate_callee (f:=46) rfl ?_);refine gl 46 (some 30) Try.func46 #[V I a0_1,V I 1,V I 5] ?_;(with_reducible refine(impl_within.calls a0_1 1 5 true _ A1.out).mono ?_);rintro e w' ⟨rfl,⟨nd,rfl⟩⟩;refine⟨_,rfl,?_⟩))
    go_ret
    exact⟨rE,uB⟩):p:=h
theorem impl_ActOk.W4 {p:Prop} (h:p:=by
    go_wp2_with (first|((with_reducible refine gate_callee (f:=46) rfl ?_);refine gl 46 (some 45) Try.func46 #[V I a0_1,V I 1,V I 9999] ?_;(with_reducible refine(impl_within.calls a0_1 1 9999 true _ A1.out).mono ?_);rintro e w' ⟨rfl,⟨nd,rfl⟩⟩;refine⟨_,rfl,?_⟩))
    go_ret
    exact⟨rE,uB⟩):p:=h
set_option maxHeartbeats 40000000 in
set_option maxRecDepth 100000 in
theorem impl_ActOk.calls (k:Nat) (a0_0:Int) (a0_1:Int) (a0_2:Int) (a0_3:Int) (r:Bool) (w:World) (h:impl_ActOk.f k a0_0 a0_1 a0_2 a0_3=some r):
    Calls Try.prog 67 #[.agg #[V I a0_0,V I a0_1,V I a0_2,V I a0_3]] w fun e w'=>e=.returned (O r)∧Below w.heap.size w w':=by
  have hu1:=Try.underlying53
  have HB:=C (Below.refl w.heap.size w)
  have H:=h
  unfold impl_ActOk.f at H
  clear h
  by_cases c1:a0_0=1
  · rw[if_pos c1]at H
    have c1b0:(a0_0==1)=true:=beq_iff_eq.mpr c1
    have c1b1:(a0_0 !=1)=false:=bne_eq_false_iff_eq.mpr c1
    clear c1
    obtain⟨⟨t1,t2,t3,t4,t5,t6⟩,A1,H⟩:=bnd H
    dsimp only at H
    obtain⟨t7,A2,H⟩:=bnd H
    obtain rfl:=Option.some.inj H
    go_enter Try.func67,Try.ntmps67
    go_wp2_with (first|((with_reducible refine gate_dst (N:=1) rfl ?_);refine Fix.be 1 #[V I a0_0,V I a0_1,V I a0_2,V I a0_3] 53 ?_;intro gb1 hg w1 BK1 hb;have GW1:D (w.heap.size≤gb1):=gE hg;have GE1:=GW1;replace HB:=eB hb;clear hb hg;have h_:=d4 BK1.out;repeat(obtain⟨_,h_⟩:=h_))|((with_reducible refine gate_callee (f:=69) rfl ?_);refine gl 69 (some 8) Try.func69 #[.agg #[V I a0_0,V I a0_1,V I a0_2,V I a0_3]] ?_;(with_reducible refine(impl_jobOf.calls a0_0 a0_1 a0_2 a0_3 t1 t2 t3 t4 t5 t6 _ A1.out).mono ?_);rintro e w2 ⟨rfl,hb⟩;refine⟨_,rfl,?_⟩;replace BK1:=eK BK1 hb;replace HB:=eB hb;clear hb)|((with_reducible refine gate_callee (f:=47) rfl ?_);refine gl 47 (some 9) Try.func47 #[.agg #[V I t1,V I t2,V I t3,O t4,V I t5,O t6]] ?_;(with_reducible refine(impl_JobOk.calls t1 t2 t3 t4 t5 t6 t7 _ A2.out).mono ?_);rintro e w3 ⟨rfl,hb⟩;refine⟨_,rfl,?_⟩;replace BK1:=eK BK1 hb;replace HB:=eB hb;clear hb))
    go_ret
    exact⟨rE,uB⟩
  · rw[if_neg c1]at H
    have c1b0:(a0_0==1)=false:=beq_eq_false_iff_ne.mpr c1
    have c1b1:(a0_0 !=1)=true:=bne_iff_ne.mpr c1
    have HC1:=C H
    clear H
    go_enter Try.func67,Try.ntmps67
    go_upto_if 10 with(first|((with_reducible refine gate_dst (N:=1) rfl ?_);refine Fix.be 1 #[V I a0_0,V I a0_1,V I a0_2,V I a0_3] 53 ?_;intro gb1 hg w1 BK1 hb;have GW1:D (w.heap.size≤gb1):=gE hg;have GE1:=GW1;replace HB:=eB hb;clear hb hg;obtain⟨hcz1_0,hcz1_1,hcz1_2,hcz1_3,hfz1_0,hfz1_1,hfz1_2,hfz1_3⟩:=d4 BK1.out))
    (try simp only[Act.put,List.setIfInBounds_toArray,List.set_cons_zero,List.set_cons_succ])
    go_cut [10] (fun v10 wc=>∃(kq:Nat) (x1_8:Bool),v10=O x1_8∧D (impl_ActOk.j0 kq a0_0 x1_8 a0_0 a0_1 a0_2 a0_3=some r)∧D (kq≤k)∧D (wc.heap[gb1]? =some (.cells #[V I a0_0,V I a0_1,V I a0_2,V I a0_3] 53 (0,0)))∧D (Below w.heap.size w wc))
    case first=>
      have H:=HC1.out
      clear HC1
      by_cases c2:a0_0=2
      · rw[if_pos c2]at H
        have c2b0:(a0_0==2)=true:=beq_iff_eq.mpr c2
        have c2b1:(a0_0 !=2)=false:=bne_eq_false_iff_eq.mpr c2
        clear c2
        (first|rw[c2b0]|(simp only[i64_w,i32_w];rw[c2b0])|skip)
        have H':=C H
        clear H
        exact impl_ActOk.W1
      · rw[if_neg c2]at H
        have c2b0:(a0_0==2)=false:=beq_eq_false_iff_ne.mpr c2
        have c2b1:(a0_0 !=2)=true:=bne_iff_ne.mpr c2
        (first|rw[c2b0]|(simp only[i64_w,i32_w];rw[c2b0])|skip)
        have H':=C H
        clear H
        exact impl_ActOk.W1
    case rest=>
      clear HC1
      obtain⟨kq,x1_8,rfl,HA,HJ1,BK1,HB⟩:=hcut
      cases kq with
      |zero=>exact absurd HA.out (by simp[impl_ActOk.j0])
      |succ kj8=>
        have H:=HA.out
        clear HA
        simp only[impl_ActOk.j0]at H
        by_cases c2:x1_8=true
        · subst c2
          rw[if_pos rfl]at H
          by_cases c3:a0_1=0
          · rw[if_pos c3]at H
            have c3b0:(a0_1==0)=true:=beq_iff_eq.mpr c3
            have c3b1:(a0_1 !=0)=false:=bne_eq_false_iff_eq.mpr c3
            clear c3
            by_cases c4:a0_2=0
            · rw[if_pos c4]at H
              have c4b0:(a0_2==0)=true:=beq_iff_eq.mpr c4
              have c4b1:(a0_2 !=0)=false:=bne_eq_false_iff_eq.mpr c4
              clear c4
              obtain rfl:=Option.some.inj H
              have h_:=d4 BK1.out;repeat(obtain⟨_,h_⟩:=h_)
              exact impl_ActOk.W2
            · rw[if_neg c4]at H
              have c4b0:(a0_2==0)=false:=beq_eq_false_iff_ne.mpr c4
              have c4b1:(a0_2 !=0)=true:=bne_iff_ne.mpr c4
              obtain rfl:=Option.some.inj H
              have h_:=d4 BK1.out;repeat(obtain⟨_,h_⟩:=h_)
              exact impl_ActOk.W2
          · rw[if_neg c3]at H
            have c3b0:(a0_1==0)=false:=beq_eq_false_iff_ne.mpr c3
            have c3b1:(a0_1 !=0)=true:=bne_iff_ne.mpr c3
            obtain rfl:=Option.some.inj H
            have h_:=d4 BK1.out;repeat(obtain⟨_,h_⟩:=h_)
            exact impl_ActOk.W2
        · replace c2:=Bool.eq_false_iff.mpr c2
          subst c2
          rw[if_neg Bool.false_ne_true]at H
          by_cases c3:a0_0=3
          · rw[if_pos c3]at H
            have c3b0:(a0_0==3)=true:=beq_iff_eq.mpr c3
            have c3b1:(a0_0 !=3)=false:=bne_eq_false_iff_eq.mpr c3
            clear c3
            obtain⟨t1,A1,H⟩:=bnd H
            by_cases c4:t1=true
            · subst c4
              rw[if_pos rfl]at H
              by_cases c5:a0_2=0
              · rw[if_pos c5]at H
                have c5b0:(a0_2==0)=true:=beq_iff_eq.mpr c5
                have c5b1:(a0_2 !=0)=false:=bne_eq_false_iff_eq.mpr c5
                clear c5
                obtain rfl:=Option.some.inj H
                have h_:=d4 BK1.out;repeat(obtain⟨_,h_⟩:=h_)
                exact impl_ActOk.W3
              · rw[if_neg c5]at H
                have c5b0:(a0_2==0)=false:=beq_eq_false_iff_ne.mpr c5
                have c5b1:(a0_2 !=0)=true:=bne_iff_ne.mpr c5
                obtain rfl:=Option.some.inj H
                have h_:=d4 BK1.out;repeat(obtain⟨_,h_⟩:=h_)
                exact impl_ActOk.W3
            · replace c4:=Bool.eq_false_iff.mpr c4
              subst c4
              rw[if_neg Bool.false_ne_true]at H
              obtain rfl:=Option.some.inj H
              have h_:=d4 BK1.out;repeat(obtain⟨_,h_⟩:=h_)
              go_wp2_with (first|((with_reducible refine gate_callee (f:=46) rfl ?_);refine gl 46 (some 30) Try.func46 #[V I a0_1,V I 1,V I 5] ?_;(with_reducible refine(impl_within.calls a0_1 1 5 false _ A1.out).mono ?_);rintro e w' ⟨rfl,⟨nd,rfl⟩⟩;refine⟨_,rfl,?_⟩))
              go_ret
              exact⟨rE,uB⟩
          · rw[if_neg c3]at H
            have c3b0:(a0_0==3)=false:=beq_eq_false_iff_ne.mpr c3
            have c3b1:(a0_0 !=3)=true:=bne_iff_ne.mpr c3
            by_cases c4:a0_0=5
            · rw[if_pos c4]at H
              have c4b0:(a0_0==5)=true:=beq_iff_eq.mpr c4
              have c4b1:(a0_0 !=5)=false:=bne_eq_false_iff_eq.mpr c4
              clear c4
              obtain⟨t1,A1,H⟩:=bnd H
              by_cases c5:t1=true
              · subst c5
                rw[if_pos rfl]at H
                by_cases c6:a0_2=0
                · rw[if_pos c6]at H
                  have c6b0:(a0_2==0)=true:=beq_iff_eq.mpr c6
                  have c6b1:(a0_2 !=0)=false:=bne_eq_false_iff_eq.mpr c6
                  clear c6
                  obtain rfl:=Option.some.inj H
                  have h_:=d4 BK1.out;repeat(obtain⟨_,h_⟩:=h_)
                  exact impl_ActOk.W4
                · rw[if_neg c6]at H
                  have c6b0:(a0_2==0)=false:=beq_eq_false_iff_ne.mpr c6
                  have c6b1:(a0_2 !=0)=true:=bne_iff_ne.mpr c6
                  obtain rfl:=Option.some.inj H
                  have h_:=d4 BK1.out;repeat(obtain⟨_,h_⟩:=h_)
                  exact impl_ActOk.W4
              · replace c5:=Bool.eq_false_iff.mpr c5
                subst c5
                rw[if_neg Bool.false_ne_true]at H
                obtain rfl:=Option.some.inj H
                have h_:=d4 BK1.out;repeat(obtain⟨_,h_⟩:=h_)
                go_wp2_with (first|((with_reducible refine gate_callee (f:=46) rfl ?_);refine gl 46 (some 45) Try.func46 #[V I a0_1,V I 1,V I 9999] ?_;(with_reducible refine(impl_within.calls a0_1 1 9999 false _ A1.out).mono ?_);rintro e w' ⟨rfl,⟨nd,rfl⟩⟩;refine⟨_,rfl,?_⟩))
                go_ret
                exact⟨rE,uB⟩
            · rw[if_neg c4]at H
              have c4b0:(a0_0==5)=false:=beq_eq_false_iff_ne.mpr c4
              have c4b1:(a0_0 !=5)=true:=bne_iff_ne.mpr c4
              obtain rfl:=Option.some.inj H
              exact impl_ActOk.W2
def impl_AddJob.f (k:Nat) (l0:List (S33)) (a1_0:Int) (a1_1:Int) (a1_2:Int) (a1_3:Bool) (a1_4:Int) (a1_5:Bool):Option ((List (S33))×Bool):=(impl_Job_89.f l0).bind fun t696=>((some (([(⟨a1_0,a1_1,a1_2,a1_3,a1_4,a1_5⟩:S33)]:List (S33)):List (S33))).bind fun y699=>(if t696.length+y699.length<2932031007402 then((some (t696++y699:List (S33))).bind fun y702=>((impl_JobsOk.f k l0).bind fun t705=>(if t705=true then((impl_JobsOk.f k y702).bind fun t706=>(if t706=true then(some (y702,true)) else((impl_Job_89.f l0).bind fun t707=>(some (t707,false))))) else((impl_Job_89.f l0).bind fun t710=>(some (t710,false)))))) else(none)))
theorem impl_AddJob.mono:∀a0 a1 a2 a3 a4 a5 a6 k,LeO (impl_AddJob.f k a0 a1 a2 a3 a4 a5 a6) (impl_AddJob.f (k+1) a0 a1 a2 a3 a4 a5 a6):=by
  intro a0 a1 a2 a3 a4 a5 a6 k
  unfold impl_AddJob.f
  repeat' first|(with_reducible first|apply impl_JobsOk.mono|exact LeO.refl _|exact LeO.none _|refine LeO.ite ?_ ?_|refine LeO.bind ?_ (fun _=> ?_))|exact LeO.none _|refine LeO.ite ?_ ?_|refine LeO.bind ?_ (fun _=> ?_)
theorem impl_AddJob.W1 {p:Prop} (h:p:=by
    go_enter Try.func68,Try.ntmps68
    try go_wp2_with (first|((with_reducible refine gate_dst (N:=3) rfl ?_);refine Fix.be 3 #[V I a1_0,V I a1_1,V I a1_2,O a1_3,V I a1_4,O a1_5] 33 ?_;intro gb1 hg w1 BK1 hb;have GW1:D (w.heap.size≤gb1):=gE hg;have GE1:=GW1;replace HB:=eB hb;clear hb hg))
    replace BK1:=dK BK1
    replace HB:=dB HB
    refine start_ (n:=6) (S:=fun w'=>cl6 w' gb1 (V I a1_0) (V I a1_1) (V I a1_2) (O a1_3) (V I a1_4) (O a1_5)) (ds:= []) #[false,false,false,false,false,false] (by kernel_rfl) rfl rfl hh (fun hHeld=> ?_)
    generalize w1.drew=w2 at BK1 HB hHeld ⊢
    refine pu 0 (some 7) ?_
    refine tu 2 (some 9) hHeld ?_
    refine join_ (σ:=Value×Value) 2 #[true,true,true,true,false,false] (fun s_=> [(8,s_.1),(10,s_.2)]) (fun s_ w'=>(cl6 w' gb1 (V I a1_0) (V I a1_1) (V I a1_2) (O a1_3) (V I a1_4) (O a1_5))∧(Kd.R k33 33 w' w.heap.size (fun k_=>some k_≠(s_.2:Value).ownBlock∧k_≠gb1) s_.1 t1)∧(Kd.R k33 33 w' w.heap.size (fun k_=>some k_≠(s_.1:Value).ownBlock∧k_≠gb1) s_.2 y1)∧(w'.heap[gb1]? =some (.cells #[V I a1_0,V I a1_1,V I a1_2,O a1_3,V I a1_4,O a1_5] 33 (0,0)))∧(Below w.heap.size w w')) ?_ ?_
    rotate_left
    · intro hCont
      refine two_ (i:=1) (j:=3) (Ni:=some 8) (Nj:=some 10) #[true,true,true,false,false,false] #[true,false,true,true,false,false] rfl rfl rfl rfl (by kernel_rfl) (by decide) (by decide) (fun K hK=> ?_) (fun K hK=> ?_)
      · skip
        refine gs Try.func89 #[L A0 l0.length c0] ?_
        with_reducible refine(impl_Job_89.calls _ _ l0 t1 _ ?side1 ?side2 A1.out).mono ?_
        (case side1=>exact uC (Kd.C_below HR1.out HB.out))
        (case side2=>exact HC1.out)
        rintro e w3 ⟨v1,rfl,ho1,hb⟩
        refine⟨_,rfl,?_⟩
        have HO1:=C (Kd.R_lower (Kd.R_newB ho1 (g:=gb1) (o:=.cells #[V I a1_0,V I a1_1,V I a1_2,O a1_3,V I a1_4,O a1_5] 33 (0,0)) (uK BK1.out)) (below_size uB))
        replace BK1:=eK BK1 hb
        replace HB:=eB hb
        (try clear hb)
        refine hK.out _ _ hh (fun hHeld=> ?_)
        clear hK K
        refine nu (N:=(some 8)) ?_
        refine ou 3 (some 10) (fun K hK=> ?_)
        refine Kd.R_lit_step k33 _ 33 ?hg (N:=10) ?hd (xs:=([(⟨a1_0,a1_1,a1_2,a1_3,a1_4,a1_5⟩:S33)]:List (S33))) (inner:= [V I a1_0,V I a1_1,V I a1_2,O a1_3,V I a1_4,O a1_5]) (ok:=fun _=>True) (okp:=fun _=>True) ?hr ?hp (fun _ hk=>hk) trivial (Below.refl _ _) (Nat.le_refl _) (by simp) ?_;(case hd=>rfl);(case hg=>rfl);(case hr=>exact Fix.hr);(case hp=>exact(Reps.c6 (show Kd.M k33 _ _ _ (⟨a1_0,a1_1,a1_2,a1_3,a1_4,a1_5⟩:S33) [V I a1_0,V I a1_1,V I a1_2,O a1_3,V I a1_4,O a1_5] from(k33_mkM _ _ _ (⟨a1_0,a1_1,a1_2,a1_3,a1_4,a1_5⟩:S33))) (Reps.none _ _)))
        intro v2 w4 ho2 hb hg_ hnew_
        clear hg_ hnew_
        (first|rw[←Ny1.out]at ho2|(simp only[Int.reduceToNat]at ho2;rw[←Ny1.out]at ho2))
        have HO2:=C (Kd.R_lower (Kd.R_newB (Kd.R_new' ho2 (Kd.R_lt (uR HO1.out))) (g:=gb1) (o:=.cells #[V I a1_0,V I a1_1,V I a1_2,O a1_3,V I a1_4,O a1_5] 33 (0,0)) (uK BK1.out)) (below_size uB))
        replace HO1:=C (Kd.R_elder' (uR HO1.out) (Kd.R_base ho2) hb)
        replace BK1:=eK BK1 hb
        replace HB:=eB hb
        clear hb ho2
        refine hK.out _ _ hh (fun hHeld=> ?_)
        clear hK K
        refine nu (N:=(some 10)) ?_
        exact norm_ (by simp only[putAll,Act.put,List.setIfInBounds_toArray,List.set_cons_zero,List.set_cons_succ]) (hCont (v1,v2) _ ⟨hHeld,(X (fR HO1.out) (fun _ hk=>⟨hk.2,hk.1.2⟩)),(X (fR HO2.out) (fun _ hk=>⟨hk.1.2,hk.2⟩)),(uK BK1.out),uB⟩)
      · skip
        refine Kd.R_lit_step k33 _ 33 ?hg (N:=10) ?hd (xs:=([(⟨a1_0,a1_1,a1_2,a1_3,a1_4,a1_5⟩:S33)]:List (S33))) (inner:= [V I a1_0,V I a1_1,V I a1_2,O a1_3,V I a1_4,O a1_5]) (ok:=fun _=>True) (okp:=fun _=>True) ?hr ?hp (fun _ hk=>hk) trivial (Below.refl _ _) (Nat.le_refl _) (by simp) ?_;(case hd=>rfl);(case hg=>rfl);(case hr=>exact Fix.hr);(case hp=>exact(Reps.c6 (show Kd.M k33 _ _ _ (⟨a1_0,a1_1,a1_2,a1_3,a1_4,a1_5⟩:S33) [V I a1_0,V I a1_1,V I a1_2,O a1_3,V I a1_4,O a1_5] from(k33_mkM _ _ _ (⟨a1_0,a1_1,a1_2,a1_3,a1_4,a1_5⟩:S33))) (Reps.none _ _)))
        intro v1 w3 ho1 hb hg_ hnew_
        clear hg_ hnew_
        (first|rw[←Ny1.out]at ho1|(simp only[Int.reduceToNat]at ho1;rw[←Ny1.out]at ho1))
        have HO1:=C (Kd.R_lower (Kd.R_newB ho1 (g:=gb1) (o:=.cells #[V I a1_0,V I a1_1,V I a1_2,O a1_3,V I a1_4,O a1_5] 33 (0,0)) (uK BK1.out)) (below_size uB))
        replace BK1:=eK BK1 hb
        replace HB:=eB hb
        clear hb ho1
        refine hK.out _ _ hh (fun hHeld=> ?_)
        clear hK K
        refine nu (N:=(some 10)) ?_
        refine ou 1 (some 8) (fun K hK=> ?_)
        refine gs Try.func89 #[L A0 l0.length c0] ?_
        with_reducible refine(impl_Job_89.calls _ _ l0 t1 _ ?side1 ?side2 A1.out).mono ?_
        (case side1=>exact uC (Kd.C_below HR1.out HB.out))
        (case side2=>exact HC1.out)
        rintro e w4 ⟨v2,rfl,ho2,hb⟩
        refine⟨_,rfl,?_⟩
        have HO2:=C (Kd.R_lower (Kd.R_newB (Kd.R_new' ho2 (Kd.R_lt (uR HO1.out))) (g:=gb1) (o:=.cells #[V I a1_0,V I a1_1,V I a1_2,O a1_3,V I a1_4,O a1_5] 33 (0,0)) (uK BK1.out)) (below_size uB))
        replace HO1:=C (Kd.R_elder' (uR HO1.out) (Kd.R_base ho2) hb)
        replace BK1:=eK BK1 hb
        replace HB:=eB hb
        (try clear hb)
        refine hK.out _ _ hh (fun hHeld=> ?_)
        clear hK K
        refine nu (N:=(some 8)) ?_
        exact norm_ (by simp only[putAll,Act.put,List.setIfInBounds_toArray,List.set_cons_zero,List.set_cons_succ]) (hCont (v2,v1) _ ⟨hHeld,(X (fR HO2.out) (fun _ hk=>⟨hk.1.2,hk.2⟩)),(X (fR HO1.out) (fun _ hk=>⟨hk.2,hk.1.2⟩)),(uK BK1.out),uB⟩)
    rintro⟨v1,v2⟩ w3 ⟨hS_,h1_,h2_,h3_,h4_⟩
    have n0_:D (Kd.R k33 33 w3 w.heap.size (fun k_=>some k_≠(v2:Value).ownBlock∧k_≠gb1) v1 t1):=⟨h1_⟩
    have n1_:D (Kd.R k33 33 w3 w.heap.size (fun k_=>some k_≠(v1:Value).ownBlock∧k_≠gb1) v2 y1):=⟨h2_⟩
    have n2_:D (w3.heap[gb1]? =some (.cells #[V I a1_0,V I a1_1,V I a1_2,O a1_3,V I a1_4,O a1_5] 33 (0,0))):=⟨h3_⟩
    have n3_:D (Below w.heap.size w w3):=⟨h4_⟩
    clear BK1
    clear HB
    clear h1_ h2_ h3_ h4_
    have HO1:=n0_
    have HO2:=n1_
    have BK1:=n2_
    have HB:=n3_
    clear n0_ n1_ n2_ n3_
    have hHeld:w3.cell? ⟨gb1,0,none⟩=some (V I a1_0)∧w3.cell? ⟨gb1,1,none⟩=some (V I a1_1)∧w3.cell? ⟨gb1,2,none⟩=some (V I a1_2)∧w3.cell? ⟨gb1,3,none⟩=some (O a1_3)∧w3.cell? ⟨gb1,4,none⟩=some (V I a1_4)∧w3.cell? ⟨gb1,5,none⟩=some (O a1_5):=hS_
    obtain⟨Ao1,co1,eo1⟩:=Kd.R_slice HO2.out
    (first|subst eo1|(injection eo1 with f1_ f2_ f3_;have f4_:=f1_.symm;have f5_:=f3_.symm;clear f1_ f2_ f3_;subst f4_;subst f5_))
    refine norm_ (a':= ?_) ?_ ?_
    rotate_left
    · simp only[putAll,Act.put,List.setIfInBounds_toArray,List.set_cons_zero,List.set_cons_succ]
      rfl
    refine ou 4 (some 11) (fun K hK=> ?_)
    refine Kd.R_append_rows_step k33 (w0:=w) w.heap.size (by rfl) (.tmp 8) (.tmp 10) 32 33 (.agg #[(V I 0),(V I 0),(V I 0),(O false),(V I 0),(O false)]) 48 rfl Try.underlying32 info33 rfl (by decide) (by omega) v1 t1 y1 _ _ _ (fun k_=>some k_≠(L Ao1 y1.length co1:Value).ownBlock∧k_≠gb1) (fun _=>False) rfl rfl ?aO ?aR (fun _ _ h=>h) (fun _ h=>h.elim) ?aF ?aB ?aS ?aL ?_
    (case aR=>exact uC (Kd.R_reads' HO2.out).2.2)
    (case aB=>exact uB)
    (case aF=>exact(fun k_ hk=>⟨Kd.fresh' (Kd.R_lt (uR HO2.out)) k_ hk,Kd.freshB (g:=gb1) (o:=.cells #[V I a1_0,V I a1_1,V I a1_2,O a1_3,V I a1_4,O a1_5] 33 (0,0)) (uK BK1.out) k_ hk⟩))
    (case aO=>exact(uR HO1.out))
    (case aS=>exact(below_size uB))
    (case aL=>have:=LMc1.out;omega)
    intro v3 w4 ho hb hg hat
    rw[←Ny2.out]at ho
    have HO3:=C (ho)
    replace BK1:=gK BK1 hg (Kd.R_away HO1.out (fun _ hk=>hk.2))
    replace HO2:=C (Kd.R_after (ok:=(fun k_=>k_≠gb1)) (X (fR HO2.out) (fun _ hk=>⟨hk.2,hk.1⟩)) hg hat)
    replace HB:=C (hb)
    clear HO1
    clear ho hb hg hat
    refine hK.out _ _ hh (fun hHeld=> ?_)
    clear hK K
    refine nu (N:=(some 11)) ?_
    refine pu 5 (some 6) ?_
    refine done_ (by kernel_rfl) ?_
    first
      | (try go_wp2_with (first | ((with_reducible refine gate_callee (f := 44) rfl ?_); refine gl 44 (some 13) Try.func44 #[L A0 l0.length c0] ?_; (with_reducible refine (impl_JobsOk.calls k _ _ l0 true _ ?side1 ?side2 A2.out).mono ?_); (case side1 => exact uC (Kd.C_below HR1.out HB.out)); (case side2 => exact HC1.out); rintro e w5 ⟨rfl, hb⟩; refine ⟨_, rfl, ?_⟩; replace HO2 := eR HO2 hb; replace HO3 := eR HO3 hb; replace BK1 := eK BK1 hb; replace HB := eB hb; clear hb; obtain ⟨Ao2, co2, eo2⟩ := Kd.R_slice HO3.out; subst eo2) | (go_at_call 44; (with_reducible refine (impl_JobsOk.calls k _ _ y2 true _ ?side1 ?side2 A3.out).mono ?_); (case side1 => exact uC (Kd.R_reads' HO3.out).2.2); (case side2 => exact (Kd.R_reads' HO3.out).2.1); rintro e w6 ⟨rfl, hb⟩; replace HO2 := eR HO2 hb; replace HO3 := eR HO3 hb; replace BK1 := eK BK1 hb; replace HB := eB hb; clear hb))
         go_ret2
         exact⟨_,rE,X (fR HO3.out) (fun _ hk=>trivial),uB⟩)
      | (try go_wp2_with (first | ((with_reducible refine gate_callee (f := 44) rfl ?_); refine gl 44 (some 13) Try.func44 #[L A0 l0.length c0] ?_; (with_reducible refine (impl_JobsOk.calls k _ _ l0 true _ ?side1 ?side2 A2.out).mono ?_); (case side1 => exact uC (Kd.C_below HR1.out HB.out)); (case side2 => exact HC1.out); rintro e w5 ⟨rfl, hb⟩; refine ⟨_, rfl, ?_⟩; replace HO2 := eR HO2 hb; replace HO3 := eR HO3 hb; replace BK1 := eK BK1 hb; replace HB := eB hb; clear hb; obtain ⟨Ao2, co2, eo2⟩ := Kd.R_slice HO3.out; subst eo2) | (go_at_call 44; (with_reducible refine (impl_JobsOk.calls k _ _ y2 false _ ?side1 ?side2 A3.out).mono ?_); (case side1 => exact uC (Kd.R_reads' HO3.out).2.2); (case side2 => exact (Kd.R_reads' HO3.out).2.1); rintro e w6 ⟨rfl, hb⟩; replace HO2 := eR HO2 hb; replace HO3 := eR HO3 hb; replace BK1 := eK BK1 hb; replace HB := eB hb; clear hb) | ((with_reducible refine gate_callee (f := 89) rfl ?_); refine gl 89 (some 21) Try.func89 #[L A0 l0.length c0] ?_; (with_reducible refine (impl_Job_89.calls _ _ l0 t4 _ ?side1 ?side2 A4.out).mono ?_); (case side1 => exact uC (Kd.C_below HR1.out HB.out)); (case side2 => exact HC1.out); rintro e w7 ⟨v4, rfl, ho1, hb⟩; refine ⟨_, rfl, ?_⟩; have HO4 := C (Kd.R_lower (Kd.R_newB (Kd.R_new' (Kd.R_new' ho1 (Kd.R_lt (uR HO2.out))) (Kd.R_lt (uR HO3.out))) (g := gb1) (o := .cells #[V I a1_0, V I a1_1, V I a1_2, O a1_3, V I a1_4, O a1_5] 33 (0, 0)) (uK BK1.out)) (below_size uB)); replace HO2 := C (Kd.R_elder' (uR HO2.out) (Kd.R_base ho1) hb); replace HO3 := C (Kd.R_elder' (uR HO3.out) (Kd.R_base ho1) hb); replace BK1 := eK BK1 hb; replace HB := eB hb; clear hb ho1))
         go_ret2
         exact⟨_,rE,X (fR HO4.out) (fun _ hk=>trivial),uB⟩)):p:=h
set_option maxHeartbeats 40000000 in
set_option maxRecDepth 100000 in
theorem impl_AddJob.calls (k:Nat) (A0:Option Addr) (c0:Nat) (l0:List (S33)) (a1_0:Int) (a1_1:Int) (a1_2:Int) (a1_3:Bool) (a1_4:Int) (a1_5:Bool) (r1:List (S33)) (r2:Bool) (w:World) (hr0:Kd.C k33 w A0 l0.length l0) (hc0:l0.length≤c0) (h:impl_AddJob.f k l0 a1_0 a1_1 a1_2 a1_3 a1_4 a1_5=some (r1,r2)):
    Calls Try.prog 68 #[L A0 l0.length c0,.agg #[V I a1_0,V I a1_1,V I a1_2,O a1_3,V I a1_4,O a1_5]] w fun e w'=>∃v0_:Value,e=.returned (.tuple #[v0_,O r2])∧Kd.R k33 33 w' w.heap.size (fun _=>True) v0_ r1∧Below w.heap.size w w':=by
  have hu1:=Try.underlying33
  have HR1:=C hr0
  have HC1:=C hc0
  (try clear hr0);(try clear hc0)
  have HB:=C (Below.refl w.heap.size w)
  have H:=h
  unfold impl_AddJob.f at H
  clear h
  obtain⟨t1,A1,H⟩:=bnd H
  obtain⟨y1,hy1⟩:∃y_:List (S33),y_=(([(⟨a1_0,a1_1,a1_2,a1_3,a1_4,a1_5⟩:S33)]:List (S33))):=⟨_,rfl⟩
  replace H:(if t1.length+y1.length<2932031007402 then((some (t1++y1:List (S33))).bind fun y2=>((impl_JobsOk.f k l0).bind fun t2=>(if t2=true then((impl_JobsOk.f k y2).bind fun t3=>(if t3=true then(some (y2,true)) else((impl_Job_89.f l0).bind fun t4=>(some (t4,false))))) else((impl_Job_89.f l0).bind fun t5=>(some (t5,false)))))) else(none))=some (r1,r2):=by first|(rw[hy1];with_reducible exact H)|(have H1_:=(Option.bind_some _ _).symm.trans H;rw[hy1];with_reducible exact H1_)|(have H1_:=(Option.bind_some _ _).symm.trans H;with_reducible exact H1_)|with_reducible exact H|(rw[hy1];exact H)|exact H
  have Ny1:=C hy1
  clear hy1
  by_cases c1:t1.length+y1.length<2932031007402
  · rw[if_pos c1]at H
    have LMc1:=C c1
    clear c1
    obtain⟨y2,hy2⟩:∃y_:List (S33),y_=(t1++y1):=⟨_,rfl⟩
    replace H:((impl_JobsOk.f k l0).bind fun t2=>(if t2=true then((impl_JobsOk.f k y2).bind fun t3=>(if t3=true then(some (y2,true)) else((impl_Job_89.f l0).bind fun t4=>(some (t4,false))))) else((impl_Job_89.f l0).bind fun t5=>(some (t5,false)))))=some (r1,r2):=by first|(rw[hy2];with_reducible exact H)|(have H1_:=(Option.bind_some _ _).symm.trans H;rw[hy2];with_reducible exact H1_)|(have H1_:=(Option.bind_some _ _).symm.trans H;with_reducible exact H1_)|with_reducible exact H|(rw[hy2];exact H)|exact H
    have Ny2:=C hy2
    clear hy2
    obtain⟨t2,A2,H⟩:=bnd H
    by_cases c2:t2=true
    · subst c2
      rw[if_pos rfl]at H
      obtain⟨t3,A3,H⟩:=bnd H
      by_cases c3:t3=true
      · subst c3
        rw[if_pos rfl]at H
        simp only[Option.some.injEq,Prod.mk.injEq]at H
        obtain⟨rfl,rfl⟩:=H
        exact impl_AddJob.W1
      · replace c3:=Bool.eq_false_iff.mpr c3
        subst c3
        rw[if_neg Bool.false_ne_true]at H
        obtain⟨t4,A4,H⟩:=bnd H
        simp only[Option.some.injEq,Prod.mk.injEq]at H
        obtain⟨rfl,rfl⟩:=H
        exact impl_AddJob.W1
    · replace c2:=Bool.eq_false_iff.mpr c2
      subst c2
      rw[if_neg Bool.false_ne_true]at H
      obtain⟨t5,A3,H⟩:=bnd H
      simp only[Option.some.injEq,Prod.mk.injEq]at H
      obtain⟨rfl,rfl⟩:=H
      go_enter Try.func68,Try.ntmps68
      try go_wp2_with (first|((with_reducible refine gate_dst (N:=3) rfl ?_);refine Fix.be 3 #[V I a1_0,V I a1_1,V I a1_2,O a1_3,V I a1_4,O a1_5] 33 ?_;intro gb1 hg w1 BK1 hb;have GW1:D (w.heap.size≤gb1):=gE hg;have GE1:=GW1;replace HB:=eB hb;clear hb hg))
      replace BK1:=dK BK1
      replace HB:=dB HB
      refine start_ (n:=6) (S:=fun w'=>cl6 w' gb1 (V I a1_0) (V I a1_1) (V I a1_2) (O a1_3) (V I a1_4) (O a1_5)) (ds:= []) #[false,false,false,false,false,false] (by kernel_rfl) rfl rfl hh (fun hHeld=> ?_)
      generalize w1.drew=w2 at BK1 HB hHeld ⊢
      refine pu 0 (some 7) ?_
      refine tu 2 (some 9) hHeld ?_
      refine join_ (σ:=Value×Value) 2 #[true,true,true,true,false,false] (fun s_=> [(8,s_.1),(10,s_.2)]) (fun s_ w'=>(cl6 w' gb1 (V I a1_0) (V I a1_1) (V I a1_2) (O a1_3) (V I a1_4) (O a1_5))∧(Kd.R k33 33 w' w.heap.size (fun k_=>some k_≠(s_.2:Value).ownBlock∧k_≠gb1) s_.1 t1)∧(Kd.R k33 33 w' w.heap.size (fun k_=>some k_≠(s_.1:Value).ownBlock∧k_≠gb1) s_.2 y1)∧(w'.heap[gb1]? =some (.cells #[V I a1_0,V I a1_1,V I a1_2,O a1_3,V I a1_4,O a1_5] 33 (0,0)))∧(Below w.heap.size w w')) ?_ ?_
      rotate_left
      · intro hCont
        refine two_ (i:=1) (j:=3) (Ni:=some 8) (Nj:=some 10) #[true,true,true,false,false,false] #[true,false,true,true,false,false] rfl rfl rfl rfl (by kernel_rfl) (by decide) (by decide) (fun K hK=> ?_) (fun K hK=> ?_)
        · skip
          refine gs Try.func89 #[L A0 l0.length c0] ?_
          with_reducible refine(impl_Job_89.calls _ _ l0 t1 _ ?side1 ?side2 A1.out).mono ?_
          (case side1=>exact uC (Kd.C_below HR1.out HB.out))
          (case side2=>exact HC1.out)
          rintro e w3 ⟨v1,rfl,ho1,hb⟩
          refine⟨_,rfl,?_⟩
          have HO1:=C (Kd.R_lower (Kd.R_newB ho1 (g:=gb1) (o:=.cells #[V I a1_0,V I a1_1,V I a1_2,O a1_3,V I a1_4,O a1_5] 33 (0,0)) (uK BK1.out)) (below_size uB))
          replace BK1:=eK BK1 hb
          replace HB:=eB hb
          (try clear hb)
          refine hK.out _ _ hh (fun hHeld=> ?_)
          clear hK K
          refine nu (N:=(some 8)) ?_
          refine ou 3 (some 10) (fun K hK=> ?_)
          refine Kd.R_lit_step k33 _ 33 ?hg (N:=10) ?hd (xs:=([(⟨a1_0,a1_1,a1_2,a1_3,a1_4,a1_5⟩:S33)]:List (S33))) (inner:= [V I a1_0,V I a1_1,V I a1_2,O a1_3,V I a1_4,O a1_5]) (ok:=fun _=>True) (okp:=fun _=>True) ?hr ?hp (fun _ hk=>hk) trivial (Below.refl _ _) (Nat.le_refl _) (by simp) ?_;(case hd=>rfl);(case hg=>rfl);(case hr=>exact Fix.hr);(case hp=>exact(Reps.c6 (show Kd.M k33 _ _ _ (⟨a1_0,a1_1,a1_2,a1_3,a1_4,a1_5⟩:S33) [V I a1_0,V I a1_1,V I a1_2,O a1_3,V I a1_4,O a1_5] from(k33_mkM _ _ _ (⟨a1_0,a1_1,a1_2,a1_3,a1_4,a1_5⟩:S33))) (Reps.none _ _)))
          intro v2 w4 ho2 hb hg_ hnew_
          clear hg_ hnew_
          (first|rw[←Ny1.out]at ho2|(simp only[Int.reduceToNat]at ho2;rw[←Ny1.out]at ho2))
          have HO2:=C (Kd.R_lower (Kd.R_newB (Kd.R_new' ho2 (Kd.R_lt (uR HO1.out))) (g:=gb1) (o:=.cells #[V I a1_0,V I a1_1,V I a1_2,O a1_3,V I a1_4,O a1_5] 33 (0,0)) (uK BK1.out)) (below_size uB))
          replace HO1:=C (Kd.R_elder' (uR HO1.out) (Kd.R_base ho2) hb)
          replace BK1:=eK BK1 hb
          replace HB:=eB hb
          clear hb ho2
          refine hK.out _ _ hh (fun hHeld=> ?_)
          clear hK K
          refine nu (N:=(some 10)) ?_
          exact norm_ (by simp only[putAll,Act.put,List.setIfInBounds_toArray,List.set_cons_zero,List.set_cons_succ]) (hCont (v1,v2) _ ⟨hHeld,(X (fR HO1.out) (fun _ hk=>⟨hk.2,hk.1.2⟩)),(X (fR HO2.out) (fun _ hk=>⟨hk.1.2,hk.2⟩)),(uK BK1.out),uB⟩)
        · skip
          refine Kd.R_lit_step k33 _ 33 ?hg (N:=10) ?hd (xs:=([(⟨a1_0,a1_1,a1_2,a1_3,a1_4,a1_5⟩:S33)]:List (S33))) (inner:= [V I a1_0,V I a1_1,V I a1_2,O a1_3,V I a1_4,O a1_5]) (ok:=fun _=>True) (okp:=fun _=>True) ?hr ?hp (fun _ hk=>hk) trivial (Below.refl _ _) (Nat.le_refl _) (by simp) ?_;(case hd=>rfl);(case hg=>rfl);(case hr=>exact Fix.hr);(case hp=>exact(Reps.c6 (show Kd.M k33 _ _ _ (⟨a1_0,a1_1,a1_2,a1_3,a1_4,a1_5⟩:S33) [V I a1_0,V I a1_1,V I a1_2,O a1_3,V I a1_4,O a1_5] from(k33_mkM _ _ _ (⟨a1_0,a1_1,a1_2,a1_3,a1_4,a1_5⟩:S33))) (Reps.none _ _)))
          intro v1 w3 ho1 hb hg_ hnew_
          clear hg_ hnew_
          (first|rw[←Ny1.out]at ho1|(simp only[Int.reduceToNat]at ho1;rw[←Ny1.out]at ho1))
          have HO1:=C (Kd.R_lower (Kd.R_newB ho1 (g:=gb1) (o:=.cells #[V I a1_0,V I a1_1,V I a1_2,O a1_3,V I a1_4,O a1_5] 33 (0,0)) (uK BK1.out)) (below_size uB))
          replace BK1:=eK BK1 hb
          replace HB:=eB hb
          clear hb ho1
          refine hK.out _ _ hh (fun hHeld=> ?_)
          clear hK K
          refine nu (N:=(some 10)) ?_
          refine ou 1 (some 8) (fun K hK=> ?_)
          refine gs Try.func89 #[L A0 l0.length c0] ?_
          with_reducible refine(impl_Job_89.calls _ _ l0 t1 _ ?side1 ?side2 A1.out).mono ?_
          (case side1=>exact uC (Kd.C_below HR1.out HB.out))
          (case side2=>exact HC1.out)
          rintro e w4 ⟨v2,rfl,ho2,hb⟩
          refine⟨_,rfl,?_⟩
          have HO2:=C (Kd.R_lower (Kd.R_newB (Kd.R_new' ho2 (Kd.R_lt (uR HO1.out))) (g:=gb1) (o:=.cells #[V I a1_0,V I a1_1,V I a1_2,O a1_3,V I a1_4,O a1_5] 33 (0,0)) (uK BK1.out)) (below_size uB))
          replace HO1:=C (Kd.R_elder' (uR HO1.out) (Kd.R_base ho2) hb)
          replace BK1:=eK BK1 hb
          replace HB:=eB hb
          (try clear hb)
          refine hK.out _ _ hh (fun hHeld=> ?_)
          clear hK K
          refine nu (N:=(some 8)) ?_
          exact norm_ (by simp only[putAll,Act.put,List.setIfInBounds_toArray,List.set_cons_zero,List.set_cons_succ]) (hCont (v2,v1) _ ⟨hHeld,(X (fR HO2.out) (fun _ hk=>⟨hk.1.2,hk.2⟩)),(X (fR HO1.out) (fun _ hk=>⟨hk.2,hk.1.2⟩)),(uK BK1.out),uB⟩)
      rintro⟨v1,v2⟩ w3 ⟨hS_,h1_,h2_,h3_,h4_⟩
      have n0_:D (Kd.R k33 33 w3 w.heap.size (fun k_=>some k_≠(v2:Value).ownBlock∧k_≠gb1) v1 t1):=⟨h1_⟩
      have n1_:D (Kd.R k33 33 w3 w.heap.size (fun k_=>some k_≠(v1:Value).ownBlock∧k_≠gb1) v2 y1):=⟨h2_⟩
      have n2_:D (w3.heap[gb1]? =some (.cells #[V I a1_0,V I a1_1,V I a1_2,O a1_3,V I a1_4,O a1_5] 33 (0,0))):=⟨h3_⟩
      have n3_:D (Below w.heap.size w w3):=⟨h4_⟩
      clear BK1
      clear HB
      clear h1_ h2_ h3_ h4_
      have HO1:=n0_
      have HO2:=n1_
      have BK1:=n2_
      have HB:=n3_
      clear n0_ n1_ n2_ n3_
      have hHeld:w3.cell? ⟨gb1,0,none⟩=some (V I a1_0)∧w3.cell? ⟨gb1,1,none⟩=some (V I a1_1)∧w3.cell? ⟨gb1,2,none⟩=some (V I a1_2)∧w3.cell? ⟨gb1,3,none⟩=some (O a1_3)∧w3.cell? ⟨gb1,4,none⟩=some (V I a1_4)∧w3.cell? ⟨gb1,5,none⟩=some (O a1_5):=hS_
      obtain⟨Ao1,co1,eo1⟩:=Kd.R_slice HO2.out
      (first|subst eo1|(injection eo1 with f1_ f2_ f3_;have f4_:=f1_.symm;have f5_:=f3_.symm;clear f1_ f2_ f3_;subst f4_;subst f5_))
      refine norm_ (a':= ?_) ?_ ?_
      rotate_left
      · simp only[putAll,Act.put,List.setIfInBounds_toArray,List.set_cons_zero,List.set_cons_succ]
        rfl
      refine ou 4 (some 11) (fun K hK=> ?_)
      refine Kd.R_append_rows_step k33 (w0:=w) w.heap.size (by rfl) (.tmp 8) (.tmp 10) 32 33 (.agg #[(V I 0),(V I 0),(V I 0),(O false),(V I 0),(O false)]) 48 rfl Try.underlying32 info33 rfl (by decide) (by omega) v1 t1 y1 _ _ _ (fun k_=>some k_≠(L Ao1 y1.length co1:Value).ownBlock∧k_≠gb1) (fun _=>False) rfl rfl ?aO ?aR (fun _ _ h=>h) (fun _ h=>h.elim) ?aF ?aB ?aS ?aL ?_
      (case aR=>exact uC (Kd.R_reads' HO2.out).2.2)
      (case aB=>exact uB)
      (case aF=>exact(fun k_ hk=>⟨Kd.fresh' (Kd.R_lt (uR HO2.out)) k_ hk,Kd.freshB (g:=gb1) (o:=.cells #[V I a1_0,V I a1_1,V I a1_2,O a1_3,V I a1_4,O a1_5] 33 (0,0)) (uK BK1.out) k_ hk⟩))
      (case aO=>exact(uR HO1.out))
      (case aS=>exact(below_size uB))
      (case aL=>have:=LMc1.out;omega)
      intro v3 w4 ho hb hg hat
      rw[←Ny2.out]at ho
      have HO3:=C (ho)
      replace BK1:=gK BK1 hg (Kd.R_away HO1.out (fun _ hk=>hk.2))
      replace HO2:=C (Kd.R_after (ok:=(fun k_=>k_≠gb1)) (X (fR HO2.out) (fun _ hk=>⟨hk.2,hk.1⟩)) hg hat)
      replace HB:=C (hb)
      clear HO1
      clear ho hb hg hat
      refine hK.out _ _ hh (fun hHeld=> ?_)
      clear hK K
      refine nu (N:=(some 11)) ?_
      refine pu 5 (some 6) ?_
      refine done_ (by kernel_rfl) ?_
      try go_wp2_with (first|((with_reducible refine gate_callee (f:=44) rfl ?_);refine gl 44 (some 13) Try.func44 #[L A0 l0.length c0] ?_;(with_reducible refine(impl_JobsOk.calls k _ _ l0 false _ ?side1 ?side2 A2.out).mono ?_);(case side1=>exact uC (Kd.C_below HR1.out HB.out));(case side2=>exact HC1.out);rintro e w5 ⟨rfl,hb⟩;refine⟨_,rfl,?_⟩;replace HO2:=eR HO2 hb;replace HO3:=eR HO3 hb;replace BK1:=eK BK1 hb;replace HB:=eB hb;clear hb)|((with_reducible refine gate_callee (f:=89) rfl ?_);refine gl 89 (some 21) Try.func89 #[L A0 l0.length c0] ?_;(with_reducible refine(impl_Job_89.calls _ _ l0 t5 _ ?side1 ?side2 A3.out).mono ?_);(case side1=>exact uC (Kd.C_below HR1.out HB.out));(case side2=>exact HC1.out);rintro e w6 ⟨v4,rfl,ho1,hb⟩;refine⟨_,rfl,?_⟩;have HO4:=C (Kd.R_lower (Kd.R_newB (Kd.R_new' (Kd.R_new' ho1 (Kd.R_lt (uR HO2.out))) (Kd.R_lt (uR HO3.out))) (g:=gb1) (o:=.cells #[V I a1_0,V I a1_1,V I a1_2,O a1_3,V I a1_4,O a1_5] 33 (0,0)) (uK BK1.out)) (below_size uB));replace HO2:=C (Kd.R_elder' (uR HO2.out) (Kd.R_base ho1) hb);replace HO3:=C (Kd.R_elder' (uR HO3.out) (Kd.R_base ho1) hb);replace BK1:=eK BK1 hb;replace HB:=eB hb;clear hb ho1))
      go_ret2
      exact⟨_,rE,X (fR HO4.out) (fun _ hk=>trivial),uB⟩
  · rw[if_neg c1]at H
    exact absurd H (by simp)
def impl_bit.f (a0:Bool):Option (Int):=if a0=true then(some 1) else(some 0)
theorem impl_bit.W1 {p:Prop} (h:p:=by
    go_enter Try.func70,Try.ntmps70
    go_wp2
    go_ret
    exact⟨by first|rfl|(simp;done)|(simp[*];done),by repeat(first|exact Drawn0.refl _|apply Drawn0.step)⟩):p:=h
set_option maxHeartbeats 40000000 in
set_option maxRecDepth 100000 in
theorem impl_bit.calls (a0:Bool) (r:Int) (w:World) (h:impl_bit.f a0=some r):
    Calls Try.prog 70 #[O a0] w fun e w'=>e=.returned (V I r)∧Drawn0 w w':=by
  have H:=h
  unfold impl_bit.f at H
  clear h
  by_cases c1:a0=true
  · subst c1
    rw[if_pos rfl]at H
    obtain rfl:=Option.some.inj H
    exact impl_bit.W1
  · replace c1:=Bool.eq_false_iff.mpr c1
    subst c1
    rw[if_neg Bool.false_ne_true]at H
    obtain rfl:=Option.some.inj H
    exact impl_bit.W1
def impl_NextJob.l0:Nat→List (S33)→Int→List (S33)→Int→Int→Option (Int)
  |0,_,_,_,_,_=>none
  |k+1,x0,x3,x9,x10,x11=>if x11<x10 then(if 0≤x11 then(if x11<(x9.length:Int) then(if((rd_T33 x9 x11).f5=true) then(impl_NextJob.l0 k x0 x3 x9 x10 (wrap64 (x11+1))) else(if x3<0 then(impl_NextJob.l0 k x0 x11 x9 x10 (wrap64 (x11+1))) else(if 0≤x3 then(if x3<(x0.length:Int) then(if((rd_T33 x9 x11).f4) >((rd_T33 x0 x3).f4) then(impl_NextJob.l0 k x0 x11 x9 x10 (wrap64 (x11+1))) else(impl_NextJob.l0 k x0 x3 x9 x10 (wrap64 (x11+1)))) else(none)) else(none)))) else(none)) else(none)) else(some x3)
def impl_NextJob.f (k:Nat) (l0:List (S33)):Option (Int):=(impl_JobsOk.f k l0).bind fun t713=>(if t713=true then(impl_NextJob.l0 k l0 (-1) l0 (l0.length:Int) 0) else(some (-1)))
theorem impl_NextJob.mono_l:∀k,(∀y0 y1 y2 y3 y4,LeO (impl_NextJob.l0 k y0 y1 y2 y3 y4) (impl_NextJob.l0 (k+1) y0 y1 y2 y3 y4))
  |0=>fun _ _ _ _ _ r h=>by simp[impl_NextJob.l0]at h
  |k+1=>by
    have ih0:=impl_NextJob.mono_l k
    · intro y0 y1 y2 y3 y4
      unfold impl_NextJob.l0
      repeat' first|(with_reducible first|apply ih0|apply impl_JobsOk.mono|exact LeO.refl _|exact LeO.none _|refine LeO.ite ?_ ?_|refine LeO.bind ?_ (fun _=> ?_))|apply ih0|exact LeO.none _|refine LeO.ite ?_ ?_|refine LeO.bind ?_ (fun _=> ?_)
theorem impl_NextJob.mono:∀a0 k,LeO (impl_NextJob.f k a0) (impl_NextJob.f (k+1) a0):=by
  intro a0 k
  have ih0:=impl_NextJob.mono_l k
  unfold impl_NextJob.f
  repeat' first|(with_reducible first|apply ih0|apply impl_JobsOk.mono|exact LeO.refl _|exact LeO.none _|refine LeO.ite ?_ ?_|refine LeO.bind ?_ (fun _=> ?_))|apply ih0|exact LeO.none _|refine LeO.ite ?_ ?_|refine LeO.bind ?_ (fun _=> ?_)
theorem impl_NextJob.W1 {p:Prop} (h:p:=by
    go_wp2_with (first|((with_reducible refine gate_dst (N:=5) rfl ?_);refine Fix.be 5 #[V I 0,V I 0,V I 0,O false,V I 0,O false] 33 ?_;intro gb1 hg w2 BK1 hb;have GW1:D (w.heap.size≤gb1):=gE hg;have GE1:=GW1;replace HB:=eB hb;clear hb hg;obtain⟨hcz1_0,hcz1_1,hcz1_2,hcz1_3,hcz1_4,hcz1_5,hfz1_0,hfz1_1,hfz1_2,hfz1_3,hfz1_4,hfz1_5⟩:=d6 BK1.out))
    repeat(go_quiet (fail);try go_wp2_with (first|((with_reducible refine gate_dst (N:=5) rfl ?_);refine Fix.be 5 #[V I 0,V I 0,V I 0,O false,V I 0,O false] 33 ?_;intro gb1 hg w2 BK1 hb;have GW1:D (w.heap.size≤gb1):=gE hg;have GE1:=GW1;replace HB:=eB hb;clear hb hg;obtain⟨hcz1_0,hcz1_1,hcz1_2,hcz1_3,hcz1_4,hcz1_5,hfz1_0,hfz1_1,hfz1_2,hfz1_3,hfz1_4,hfz1_5⟩:=d6 BK1.out)))
    go_roundg k1
    case measure=>have:=HK1.out;omega
    first
      |(case rel=>exact⟨(x1_1),(wrap64 (x2_1+1)),rS,rS,H',⟨by have:=HK1.out;omega⟩,⟨uB⟩⟩)
      |(case rel=>exact⟨(x2_1),(wrap64 (x2_1+1)),rS,rS,H',⟨by have:=HK1.out;omega⟩,⟨uB⟩⟩)):p:=h
theorem impl_NextJob.W2 {p:Prop} (h:p:=by
    go_wp2_with (first|((with_reducible refine gate_dst (N:=5) rfl ?_);refine Fix.be 5 #[V I 0,V I 0,V I 0,O false,V I 0,O false] 33 ?_;intro gb1 hg w2 BK1 hb;have GW1:D (w.heap.size≤gb1):=gE hg;have GE1:=GW1;replace HB:=eB hb;clear hb hg;obtain⟨hcz1_0,hcz1_1,hcz1_2,hcz1_3,hcz1_4,hcz1_5,hfz1_0,hfz1_1,hfz1_2,hfz1_3,hfz1_4,hfz1_5⟩:=d6 BK1.out;have p2:0≤(x1_1:Int):=of_decide_eq_true (by first|(with_reducible assumption)|assumption);have q2:x1_1<(l0.length:Int):=of_decide_eq_true (by first|(with_reducible assumption)|assumption);obtain⟨ad2,e2,hx2_0,hx2_1,hx2_2,hx2_3,hx2_4,hx2_5⟩:=at_T33 HR1.out x1_1 p2 q2;(try rw[←Nbq1.out]at hx2_3);(try rw[←Nbq1.out]at hx2_5);obtain rfl:ad1=ad2:=(by injection e2);have hn1_0:ad1.block≠gb1:=Nat.ne_of_lt (Nat.lt_of_lt_of_le (by have:=E _ _ hx2_0;first|rwa [add_block]at this|exact this) GW1.out);have hn1_1:ad1.block≠gb1:=Nat.ne_of_lt (Nat.lt_of_lt_of_le (by have:=E _ _ hx2_0;first|rwa [add_block]at this|exact this) GW1.out);have hn1_2:ad1.block≠gb1:=Nat.ne_of_lt (Nat.lt_of_lt_of_le (by have:=E _ _ hx2_0;first|rwa [add_block]at this|exact this) GW1.out);have hn1_3:ad1.block≠gb1:=Nat.ne_of_lt (Nat.lt_of_lt_of_le (by have:=E _ _ hx2_0;first|rwa [add_block]at this|exact this) GW1.out);have hn1_4:ad1.block≠gb1:=Nat.ne_of_lt (Nat.lt_of_lt_of_le (by have:=E _ _ hx2_0;first|rwa [add_block]at this|exact this) GW1.out);have hn1_5:ad1.block≠gb1:=Nat.ne_of_lt (Nat.lt_of_lt_of_le (by have:=E _ _ hx2_0;first|rwa [add_block]at this|exact this) GW1.out);replace hx2_0:=hx HB hx2_0;replace hx2_1:=hx HB hx2_1;replace hx2_2:=hx HB hx2_2;replace hx2_3:=hx HB hx2_3;replace hx2_4:=hx HB hx2_4;replace hx2_5:=hx HB hx2_5;replace hx2_0:=cg6 (g:=gb1) (nm hn1_0) (V I ((rd_T33 l0 x2_1).f0)) (V I ((rd_T33 l0 x2_1).f1)) (V I ((rd_T33 l0 x2_1).f2)) (O ((rd_T33 l0 x2_1).f3)) (V I ((rd_T33 l0 x2_1).f4)) (O false) hx2_0;replace hx2_1:=cg6 (g:=gb1) (nm hn1_0) (V I ((rd_T33 l0 x2_1).f0)) (V I ((rd_T33 l0 x2_1).f1)) (V I ((rd_T33 l0 x2_1).f2)) (O ((rd_T33 l0 x2_1).f3)) (V I ((rd_T33 l0 x2_1).f4)) (O false) hx2_1;replace hx2_2:=cg6 (g:=gb1) (nm hn1_0) (V I ((rd_T33 l0 x2_1).f0)) (V I ((rd_T33 l0 x2_1).f1)) (V I ((rd_T33 l0 x2_1).f2)) (O ((rd_T33 l0 x2_1).f3)) (V I ((rd_T33 l0 x2_1).f4)) (O false) hx2_2;replace hx2_3:=cg6 (g:=gb1) (nm hn1_0) (V I ((rd_T33 l0 x2_1).f0)) (V I ((rd_T33 l0 x2_1).f1)) (V I ((rd_T33 l0 x2_1).f2)) (O ((rd_T33 l0 x2_1).f3)) (V I ((rd_T33 l0 x2_1).f4)) (O false) hx2_3;replace hx2_4:=cg6 (g:=gb1) (nm hn1_0) (V I ((rd_T33 l0 x2_1).f0)) (V I ((rd_T33 l0 x2_1).f1)) (V I ((rd_T33 l0 x2_1).f2)) (O ((rd_T33 l0 x2_1).f3)) (V I ((rd_T33 l0 x2_1).f4)) (O false) hx2_4;replace hx2_5:=cg6 (g:=gb1) (nm hn1_0) (V I ((rd_T33 l0 x2_1).f0)) (V I ((rd_T33 l0 x2_1).f1)) (V I ((rd_T33 l0 x2_1).f2)) (O ((rd_T33 l0 x2_1).f3)) (V I ((rd_T33 l0 x2_1).f4)) (O false) hx2_5;(try have hy1_0:=dn6 hx2_0);(try have hy1_1:=dn6 hx2_1);(try have hy1_2:=dn6 hx2_2);(try have hy1_3:=dn6 hx2_3);(try have hy1_4:=dn6 hx2_4);(try have hy1_5:=dn6 hx2_5);clear hn1_0;clear hn1_1;clear hn1_2;clear hn1_3;clear hn1_4;clear hn1_5;replace p2:=eq_true p2;replace q2:=eq_true q2))
    repeat(go_quiet (fail);try go_wp2_with (first|((with_reducible refine gate_dst (N:=5) rfl ?_);refine Fix.be 5 #[V I 0,V I 0,V I 0,O false,V I 0,O false] 33 ?_;intro gb1 hg w2 BK1 hb;have GW1:D (w.heap.size≤gb1):=gE hg;have GE1:=GW1;replace HB:=eB hb;clear hb hg;obtain⟨hcz1_0,hcz1_1,hcz1_2,hcz1_3,hcz1_4,hcz1_5,hfz1_0,hfz1_1,hfz1_2,hfz1_3,hfz1_4,hfz1_5⟩:=d6 BK1.out;have p2:0≤(x1_1:Int):=of_decide_eq_true (by first|(with_reducible assumption)|assumption);have q2:x1_1<(l0.length:Int):=of_decide_eq_true (by first|(with_reducible assumption)|assumption);obtain⟨ad2,e2,hx2_0,hx2_1,hx2_2,hx2_3,hx2_4,hx2_5⟩:=at_T33 HR1.out x1_1 p2 q2;(try rw[←Nbq1.out]at hx2_3);(try rw[←Nbq1.out]at hx2_5);obtain rfl:ad1=ad2:=(by injection e2);have hn1_0:ad1.block≠gb1:=Nat.ne_of_lt (Nat.lt_of_lt_of_le (by have:=E _ _ hx2_0;first|rwa [add_block]at this|exact this) GW1.out);have hn1_1:ad1.block≠gb1:=Nat.ne_of_lt (Nat.lt_of_lt_of_le (by have:=E _ _ hx2_0;first|rwa [add_block]at this|exact this) GW1.out);have hn1_2:ad1.block≠gb1:=Nat.ne_of_lt (Nat.lt_of_lt_of_le (by have:=E _ _ hx2_0;first|rwa [add_block]at this|exact this) GW1.out);have hn1_3:ad1.block≠gb1:=Nat.ne_of_lt (Nat.lt_of_lt_of_le (by have:=E _ _ hx2_0;first|rwa [add_block]at this|exact this) GW1.out);have hn1_4:ad1.block≠gb1:=Nat.ne_of_lt (Nat.lt_of_lt_of_le (by have:=E _ _ hx2_0;first|rwa [add_block]at this|exact this) GW1.out);have hn1_5:ad1.block≠gb1:=Nat.ne_of_lt (Nat.lt_of_lt_of_le (by have:=E _ _ hx2_0;first|rwa [add_block]at this|exact this) GW1.out);replace hx2_0:=hx HB hx2_0;replace hx2_1:=hx HB hx2_1;replace hx2_2:=hx HB hx2_2;replace hx2_3:=hx HB hx2_3;replace hx2_4:=hx HB hx2_4;replace hx2_5:=hx HB hx2_5;replace hx2_0:=cg6 (g:=gb1) (nm hn1_0) (V I ((rd_T33 l0 x2_1).f0)) (V I ((rd_T33 l0 x2_1).f1)) (V I ((rd_T33 l0 x2_1).f2)) (O ((rd_T33 l0 x2_1).f3)) (V I ((rd_T33 l0 x2_1).f4)) (O false) hx2_0;replace hx2_1:=cg6 (g:=gb1) (nm hn1_0) (V I ((rd_T33 l0 x2_1).f0)) (V I ((rd_T33 l0 x2_1).f1)) (V I ((rd_T33 l0 x2_1).f2)) (O ((rd_T33 l0 x2_1).f3)) (V I ((rd_T33 l0 x2_1).f4)) (O false) hx2_1;replace hx2_2:=cg6 (g:=gb1) (nm hn1_0) (V I ((rd_T33 l0 x2_1).f0)) (V I ((rd_T33 l0 x2_1).f1)) (V I ((rd_T33 l0 x2_1).f2)) (O ((rd_T33 l0 x2_1).f3)) (V I ((rd_T33 l0 x2_1).f4)) (O false) hx2_2;replace hx2_3:=cg6 (g:=gb1) (nm hn1_0) (V I ((rd_T33 l0 x2_1).f0)) (V I ((rd_T33 l0 x2_1).f1)) (V I ((rd_T33 l0 x2_1).f2)) (O ((rd_T33 l0 x2_1).f3)) (V I ((rd_T33 l0 x2_1).f4)) (O false) hx2_3;replace hx2_4:=cg6 (g:=gb1) (nm hn1_0) (V I ((rd_T33 l0 x2_1).f0)) (V I ((rd_T33 l0 x2_1).f1)) (V I ((rd_T33 l0 x2_1).f2)) (O ((rd_T33 l0 x2_1).f3)) (V I ((rd_T33 l0 x2_1).f4)) (O false) hx2_4;replace hx2_5:=cg6 (g:=gb1) (nm hn1_0) (V I ((rd_T33 l0 x2_1).f0)) (V I ((rd_T33 l0 x2_1).f1)) (V I ((rd_T33 l0 x2_1).f2)) (O ((rd_T33 l0 x2_1).f3)) (V I ((rd_T33 l0 x2_1).f4)) (O false) hx2_5;(try have hy1_0:=dn6 hx2_0);(try have hy1_1:=dn6 hx2_1);(try have hy1_2:=dn6 hx2_2);(try have hy1_3:=dn6 hx2_3);(try have hy1_4:=dn6 hx2_4);(try have hy1_5:=dn6 hx2_5);clear hn1_0;clear hn1_1;clear hn1_2;clear hn1_3;clear hn1_4;clear hn1_5;replace p2:=eq_true p2;replace q2:=eq_true q2)))
    go_roundg k1
    case measure=>have:=HK1.out;omega
    first
      |(case rel=>exact⟨(x2_1),(wrap64 (x2_1+1)),rS,rS,H',⟨by have:=HK1.out;omega⟩,⟨uB⟩⟩)
      |(case rel=>exact⟨(x1_1),(wrap64 (x2_1+1)),rS,rS,H',⟨by have:=HK1.out;omega⟩,⟨uB⟩⟩)):p:=h
set_option maxHeartbeats 40000000 in
set_option maxRecDepth 100000 in
theorem impl_NextJob.calls (k:Nat) (A0:Option Addr) (c0:Nat) (l0:List (S33)) (r:Int) (w:World) (hr0:Kd.C k33 w A0 l0.length l0) (hc0:l0.length≤c0) (h:impl_NextJob.f k l0=some r):
    Calls Try.prog 98 #[L A0 l0.length c0] w fun e w'=>e=.returned (V I r)∧Below w.heap.size w w':=by
  have hu1:=Try.underlying33
  have HR1:=C hr0
  have HC1:=C hc0
  (try clear hr0);(try clear hc0)
  have HB:=C (Below.refl w.heap.size w)
  have H:=h
  unfold impl_NextJob.f at H
  clear h
  obtain⟨t1,A1,H⟩:=bnd H
  by_cases c1:t1=true
  · subst c1
    rw[if_pos rfl]at H
    have H':=C H
    clear H
    go_enter Try.func98,Try.ntmps98
    go_wp2_with (first|(go_at_call 44;(with_reducible refine(impl_JobsOk.calls k _ _ l0 true _ ?side1 ?side2 A1.out).mono ?_);(case side1=>exact uC HR1.out);(case side2=>exact HC1.out);rintro e w1 ⟨rfl,hb⟩;replace HB:=eB hb;clear hb))
    repeat(go_quiet (fail);try go_wp2_with (first|(go_at_call 44;(with_reducible refine(impl_JobsOk.calls k _ _ l0 true _ ?side1 ?side2 A1.out).mono ?_);(case side1=>exact uC HR1.out);(case side2=>exact HC1.out);rintro e w1 ⟨rfl,hb⟩;replace HB:=eB hb;clear hb)))
    go_loopg [3,11] k (fun kq v3 v11 w'=>∃(x1_1:Int) (x2_1:Int),v3=V I x1_1∧v11=V I x2_1∧D (impl_NextJob.l0 kq l0 x1_1 l0 (l0.length:Int) x2_1=some r)∧D (kq≤k)∧D (Below w.heap.size w w'))
    case atStart=>exact⟨((-1)),(0),rS,rS,H',⟨Nat.le_refl _⟩,⟨uB⟩⟩
    case round=>
      clear H'
      obtain⟨x1_1,x2_1,rfl,rfl,HA,HK1,HB⟩:=hrel
      cases gk with
      |zero=>exact absurd HA.out (by simp[impl_NextJob.l0])
      |succ k1=>
        have H:=HA.out
        clear HA
        simp only[impl_NextJob.l0]at H
        by_cases c2:x2_1<(l0.length:Int)
        · rw[if_pos c2]at H
          have c2b0:decide (x2_1<(l0.length:Int))=true:=decide_eq_true c2
          clear c2
          by_cases c3:0≤x2_1
          · rw[if_pos c3]at H
            have c3b0:decide (0≤x2_1)=true:=decide_eq_true c3
            clear c3
            by_cases c4:x2_1<(l0.length:Int)
            · rw[if_pos c4]at H
              have c4b0:decide (x2_1<(l0.length:Int))=true:=decide_eq_true c4
              clear c4
              obtain⟨bq1,hbq1⟩:∃b_:Bool,b_=((rd_T33 l0 x2_1).f5):=⟨_,rfl⟩
              replace H:(if(bq1=true) then(impl_NextJob.l0 k1 l0 x1_1 l0 (l0.length:Int) (wrap64 (x2_1+1))) else(if x1_1<0 then(impl_NextJob.l0 k1 l0 x2_1 l0 (l0.length:Int) (wrap64 (x2_1+1))) else(if 0≤x1_1 then(if x1_1<(l0.length:Int) then(if((rd_T33 l0 x2_1).f4) >((rd_T33 l0 x1_1).f4) then(impl_NextJob.l0 k1 l0 x2_1 l0 (l0.length:Int) (wrap64 (x2_1+1))) else(impl_NextJob.l0 k1 l0 x1_1 l0 (l0.length:Int) (wrap64 (x2_1+1)))) else(none)) else(none))))=some r:=by rw[←hbq1]at H;exact H
              have Nbq1:=C hbq1
              clear hbq1
              by_cases c5:(bq1=true)
              · subst c5
                rw[if_pos rfl]at H
                have H':=C H
                clear H
                have p1:0≤(x2_1:Int):=of_decide_eq_true (by first|(with_reducible assumption)|assumption)
                have q1:x2_1<(l0.length:Int):=of_decide_eq_true (by first|(with_reducible assumption)|assumption)
                obtain⟨ad1,e1,hx1_0,hx1_1,hx1_2,hx1_3,hx1_4,hx1_5⟩:=at_T33 HR1.out x2_1 p1 q1
                (try rw[←Nbq1.out]at hx1_3)
                (try rw[←Nbq1.out]at hx1_5)
                cases e1
                replace hx1_0:=hx HB hx1_0
                replace hx1_1:=hx HB hx1_1
                replace hx1_2:=hx HB hx1_2
                replace hx1_3:=hx HB hx1_3
                replace hx1_4:=hx HB hx1_4
                replace hx1_5:=hx HB hx1_5
                replace p1:=eq_true p1
                replace q1:=eq_true q1
                exact impl_NextJob.W1
              · replace c5:=Bool.eq_false_iff.mpr c5
                subst c5
                rw[if_neg Bool.false_ne_true]at H
                by_cases c6:x1_1<0
                · rw[if_pos c6]at H
                  have c6b0:decide (x1_1<0)=true:=decide_eq_true c6
                  clear c6
                  have H':=C H
                  clear H
                  have p1:0≤(x2_1:Int):=of_decide_eq_true (by first|(with_reducible assumption)|assumption)
                  have q1:x2_1<(l0.length:Int):=of_decide_eq_true (by first|(with_reducible assumption)|assumption)
                  obtain⟨ad1,e1,hx1_0,hx1_1,hx1_2,hx1_3,hx1_4,hx1_5⟩:=at_T33 HR1.out x2_1 p1 q1
                  (try rw[←Nbq1.out]at hx1_3)
                  (try rw[←Nbq1.out]at hx1_5)
                  cases e1
                  replace hx1_0:=hx HB hx1_0
                  replace hx1_1:=hx HB hx1_1
                  replace hx1_2:=hx HB hx1_2
                  replace hx1_3:=hx HB hx1_3
                  replace hx1_4:=hx HB hx1_4
                  replace hx1_5:=hx HB hx1_5
                  replace p1:=eq_true p1
                  replace q1:=eq_true q1
                  exact impl_NextJob.W1
                · rw[if_neg c6]at H
                  have c6b0:decide (x1_1<0)=false:=decide_eq_false c6
                  clear c6
                  by_cases c7:0≤x1_1
                  · rw[if_pos c7]at H
                    have c7b0:decide (0≤x1_1)=true:=decide_eq_true c7
                    clear c7
                    by_cases c8:x1_1<(l0.length:Int)
                    · rw[if_pos c8]at H
                      have c8b0:decide (x1_1<(l0.length:Int))=true:=decide_eq_true c8
                      clear c8
                      by_cases c9:((rd_T33 l0 x2_1).f4) >((rd_T33 l0 x1_1).f4)
                      · rw[if_pos c9]at H
                        have c9b0:decide (((rd_T33 l0 x1_1).f4)<((rd_T33 l0 x2_1).f4))=true:=decide_eq_true c9
                        clear c9
                        have H':=C H
                        clear H
                        have p1:0≤(x2_1:Int):=of_decide_eq_true (by first|(with_reducible assumption)|assumption)
                        have q1:x2_1<(l0.length:Int):=of_decide_eq_true (by first|(with_reducible assumption)|assumption)
                        obtain⟨ad1,e1,hx1_0,hx1_1,hx1_2,hx1_3,hx1_4,hx1_5⟩:=at_T33 HR1.out x2_1 p1 q1
                        (try rw[←Nbq1.out]at hx1_3)
                        (try rw[←Nbq1.out]at hx1_5)
                        cases e1
                        replace hx1_0:=hx HB hx1_0
                        replace hx1_1:=hx HB hx1_1
                        replace hx1_2:=hx HB hx1_2
                        replace hx1_3:=hx HB hx1_3
                        replace hx1_4:=hx HB hx1_4
                        replace hx1_5:=hx HB hx1_5
                        replace p1:=eq_true p1
                        replace q1:=eq_true q1
                        exact impl_NextJob.W2
                      · rw[if_neg c9]at H
                        have c9b0:decide (((rd_T33 l0 x1_1).f4)<((rd_T33 l0 x2_1).f4))=false:=decide_eq_false c9
                        clear c9
                        have H':=C H
                        clear H
                        have p1:0≤(x2_1:Int):=of_decide_eq_true (by first|(with_reducible assumption)|assumption)
                        have q1:x2_1<(l0.length:Int):=of_decide_eq_true (by first|(with_reducible assumption)|assumption)
                        obtain⟨ad1,e1,hx1_0,hx1_1,hx1_2,hx1_3,hx1_4,hx1_5⟩:=at_T33 HR1.out x2_1 p1 q1
                        (try rw[←Nbq1.out]at hx1_3)
                        (try rw[←Nbq1.out]at hx1_5)
                        cases e1
                        replace hx1_0:=hx HB hx1_0
                        replace hx1_1:=hx HB hx1_1
                        replace hx1_2:=hx HB hx1_2
                        replace hx1_3:=hx HB hx1_3
                        replace hx1_4:=hx HB hx1_4
                        replace hx1_5:=hx HB hx1_5
                        replace p1:=eq_true p1
                        replace q1:=eq_true q1
                        exact impl_NextJob.W2
                    · rw[if_neg c8]at H
                      exact absurd H (by simp)
                  · rw[if_neg c7]at H
                    exact absurd H (by simp)
            · rw[if_neg c4]at H
              exact absurd H (by simp)
          · rw[if_neg c3]at H
            exact absurd H (by simp)
        · rw[if_neg c2]at H
          have c2b0:decide (x2_1<(l0.length:Int))=false:=decide_eq_false c2
          clear c2
          obtain rfl:=Option.some.inj H
          go_wp2
          repeat(go_quiet (fail);try go_wp2)
          go_ret
          exact⟨rE,uB⟩
  · replace c1:=Bool.eq_false_iff.mpr c1
    subst c1
    rw[if_neg Bool.false_ne_true]at H
    obtain rfl:=Option.some.inj H
    go_enter Try.func98,Try.ntmps98
    go_wp2_with (first|(go_at_call 44;(with_reducible refine(impl_JobsOk.calls k _ _ l0 false _ ?side1 ?side2 A1.out).mono ?_);(case side1=>exact uC HR1.out);(case side2=>exact HC1.out);rintro e w1 ⟨rfl,hb⟩;replace HB:=eB hb;clear hb))
    repeat(go_quiet (fail);try go_wp2_with (first|(go_at_call 44;(with_reducible refine(impl_JobsOk.calls k _ _ l0 false _ ?side1 ?side2 A1.out).mono ?_);(case side1=>exact uC HR1.out);(case side2=>exact HC1.out);rintro e w1 ⟨rfl,hb⟩;replace HB:=eB hb;clear hb)))
    go_ret
    exact⟨rE,uB⟩
end Go.Proofs.Ytblceimapaenlaa.PFnScenarios
