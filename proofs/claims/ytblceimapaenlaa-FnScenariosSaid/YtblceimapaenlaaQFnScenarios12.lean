/- FnScenarios: the functions that the law reaches, each as a plain Lean function, and that a call does what it says. Made by a program of this work (wip/mp.py) out of the kit's print. No condition. -/
import Derived.Test.YtblceimapaenlaaQFnScenarios0
import Derived.Test.YtblceimapaenlaaQFnScenarios3
import Derived.Test.YtblceimapaenlaaQFnScenarios11
namespace Go.Proofs.Ytblceimapaenlaa.PFnScenarios
open Go.RowKit Go.Proofs.YtblceimapaenlaaW.PrintWords Go.Proofs.YtblceimapaenlaaW.PrintLast Go.Proofs.YtblceimapaenlaaW.PrintMore
open Fix (b1 bA bK bN bnd cl14 cl6 d14 d4 d6 dB dK dn1 eB eK eQ eR fQ fR gE gl gs hh lR nG nL nm nu oL ou pu rE rS tu uB uC uH uK uQ uR)
open Go.Value renaming int→V,slice→L,bool→O,agg→G
open Go.IntKind renaming i64→I
open Go.Proofs.YtblceimapaenlaaW.PrintWords.Aside0 renaming mk→C
open Go.Proofs.YtblceimapaenlaaW.PrintWords renaming Aside0→D,gate_callee→F,gate_dst→J
open Go.Proofs.YtblceimapaenlaaW.PrintWords.Kd renaming R_mono→X,R_types→Y
attribute [local go_sem] max2_int min2_int max_two min_two max_three min_three max_four min_four
attribute [local go_sem] Fix.isSome_setCell
set_option linter.unusedVariables false
set_option linter.unusedSimpArgs false
def spec_l01Byte.f (s0_0:List Int) (s0_1:Int) (s0_2:Int):Option (Int×Int×Int):=if s0_1<(s0_0.length:Int) then(if 0≤s0_1 then(some (Go.bits .and .i64 (wrap64 ((Go.bits .and .i64 (Go.bits .xor .i64 ((wrap64 ((wrap64 (s0_2 * 6364136223846793005))+1442695040888963407)) / 8589934592) ((wrap64 ((wrap64 (s0_2 * 6364136223846793005))+1442695040888963407)) / 35184372088832)) 255)+(wrap64 (rd s0_0 s0_1)))) 255,wrap64 (s0_1+1),wrap64 ((wrap64 (s0_2 * 6364136223846793005))+1442695040888963407))) else(none)) else(some (Go.bits .and .i64 (Go.bits .xor .i64 ((wrap64 ((wrap64 (s0_2 * 6364136223846793005))+1442695040888963407)) / 8589934592) ((wrap64 ((wrap64 (s0_2 * 6364136223846793005))+1442695040888963407)) / 35184372088832)) 255,s0_1,wrap64 ((wrap64 (s0_2 * 6364136223846793005))+1442695040888963407)))
theorem spec_l01Byte.W1 {p:Prop} (h:p:=by
    go_enter Try.func91,Try.ntmps91
    go_wp2
    repeat(go_quiet (fail);try go_wp2)
    go_ret
    exact⟨rE,by repeat(first|(with_reducible first|exact HI1.out|apply IsS105.alloc|apply IsS105.drewN|apply IsS105.drew|apply IsS105.set_1|apply IsS105.set_2)|exact HI1.out),by repeat(first|(with_reducible first|exact HB.out|apply bA|apply bN|apply b1|refine below_set ?_ (IsS105.ge HI1.out))|exact HB.out),uH⟩):p:=h
set_option maxHeartbeats 40000000 in
set_option maxRecDepth 100000 in
theorem spec_l01Byte.calls (g:Nat) (s0_0:List Int) (s0_1:Int) (s0_2:Int) (r1:Int) (r2:Int) (r3:Int) (w0 w:World) (hI:IsS105 w0 w g s0_0 s0_1 s0_2) (hB:Below w0.heap.size w0 w) (h:spec_l01Byte.f s0_0 s0_1 s0_2=some (r1,r2,r3)):
    Calls Try.prog 91 #[.pointer (some ⟨g,0,none⟩)] w fun e w'=>e=.returned (V I r1)∧IsS105 w0 w' g s0_0 r2 r3∧Below w0.heap.size w0 w'∧KeepBut w w' g none:=by
  have HI1:=C hI
  have HK:=C (KeepBut.refl w g none)
  have HL:=C hB.size
  clear hI
  have HW1:=C hB.size
  have HB:=C hB
  clear hB
  have H:=h
  unfold spec_l01Byte.f at H
  clear h
  by_cases c1:s0_1<(s0_0.length:Int)
  · rw[if_pos c1]at H
    have c1b0:decide (s0_1<(s0_0.length:Int))=true:=decide_eq_true c1
    clear c1
    by_cases c2:0≤s0_1
    · rw[if_pos c2]at H
      have c2b0:decide (0≤s0_1)=true:=decide_eq_true c2
      clear c2
      simp only[Option.some.injEq,Prod.mk.injEq]at H
      obtain⟨rfl,rfl,rfl⟩:=H
      obtain⟨ASz1_0,cSz1_0,HGz1,hgz1,HSz1_0⟩:=HI1.out
      have hcz1_0:=cellS105_0 HGz1
      have hcz1_1:=cellS105_1 HGz1
      have hcz1_2:=cellS105_2 HGz1
      have hfz1_1:=blk_frozen HGz1 1
      have hfz1_2:=blk_frozen HGz1 2
      clear HGz1 hgz1
      have p1:0≤(s0_1:Int):=of_decide_eq_true (by first|(with_reducible assumption)|assumption)
      have q1:s0_1<(s0_0.length:Int):=of_decide_eq_true (by first|(with_reducible assumption)|assumption)
      obtain⟨ad1,e1,hx1_0⟩:=Kd.at_int HSz1_0 s0_1 p1 q1
      cases e1
      have hn1_0:ad1.block≠g:=Nat.ne_of_lt (Nat.lt_of_lt_of_le (by have:=World.block_lt_of_cell? _ _ hx1_0;first|rwa [add_block]at this|exact this) (IsS105.ge HI1.out))
      replace hx1_0:=pw_cell_below HB.out hx1_0
      replace hx1_0:=(cell_far (p:=⟨g,2,none⟩) (nm hn1_0) (V I (wrap64 ((wrap64 (s0_2 * 6364136223846793005))+1442695040888963407)))).trans hx1_0
      (try have hy1_0:=dn1 hx1_0)
      clear hn1_0
      replace p1:=eq_true p1
      replace q1:=eq_true q1
      exact spec_l01Byte.W1
    · rw[if_neg c2]at H
      exact absurd H (by simp)
  · rw[if_neg c1]at H
    have c1b0:decide (s0_1<(s0_0.length:Int))=false:=decide_eq_false c1
    clear c1
    simp only[Option.some.injEq,Prod.mk.injEq]at H
    obtain⟨rfl,rfl,rfl⟩:=H
    obtain⟨ASz1_0,cSz1_0,HGz1,hgz1,HSz1_0⟩:=HI1.out
    have hcz1_0:=cellS105_0 HGz1
    have hcz1_1:=cellS105_1 HGz1
    have hcz1_2:=cellS105_2 HGz1
    have hfz1_1:=blk_frozen HGz1 1
    have hfz1_2:=blk_frozen HGz1 2
    clear HGz1 hgz1
    exact spec_l01Byte.W1
def spec_l01Below.f (s0_0:List Int) (s0_1:Int) (s0_2:Int) (a1:Int):Option (Int×Int×Int):=if a1≤0 then(some (0,s0_1,s0_2)) else(if a1≤256 then((spec_l01Byte.f s0_0 s0_1 s0_2).bind fun bt536=>(if a1=0 then(none) else(some (Int.tmod bt536.1 a1,bt536.2.1,bt536.2.2)))) else((spec_l01Byte.f s0_0 s0_1 s0_2).bind fun bt539=>((spec_l01Byte.f s0_0 bt539.2.1 bt539.2.2).bind fun bt542=>((spec_l01Byte.f s0_0 bt542.2.1 bt542.2.2).bind fun bt545=>((spec_l01Byte.f s0_0 bt545.2.1 bt545.2.2).bind fun bt548=>(if a1=0 then(none) else(some (Int.tmod (wrap64 ((wrap64 ((wrap64 ((wrap64 (bt539.1 * 16777216))+(wrap64 (bt542.1 * 65536))))+(wrap64 (bt545.1 * 256))))+bt548.1)) a1,bt548.2.1,bt548.2.2))))))))
set_option maxHeartbeats 40000000 in
set_option maxRecDepth 100000 in
theorem spec_l01Below.calls (g:Nat) (s0_0:List Int) (s0_1:Int) (s0_2:Int) (a1:Int) (r1:Int) (r2:Int) (r3:Int) (w0 w:World) (hI:IsS105 w0 w g s0_0 s0_1 s0_2) (hB:Below w0.heap.size w0 w) (h:spec_l01Below.f s0_0 s0_1 s0_2 a1=some (r1,r2,r3)):
    Calls Try.prog 57 #[.pointer (some ⟨g,0,none⟩),V I a1] w fun e w'=>e=.returned (V I r1)∧IsS105 w0 w' g s0_0 r2 r3∧Below w0.heap.size w0 w'∧KeepBut w w' g none:=by
  have HI1:=C hI
  have HK:=C (KeepBut.refl w g none)
  have HL:=C hB.size
  clear hI
  have HW1:=C hB.size
  have HB:=C hB
  clear hB
  have H:=h
  unfold spec_l01Below.f at H
  clear h
  by_cases c1:a1≤0
  · rw[if_pos c1]at H
    have c1b0:decide (a1≤0)=true:=decide_eq_true c1
    clear c1
    simp only[Option.some.injEq,Prod.mk.injEq]at H
    obtain⟨rfl,rfl,rfl⟩:=H
    go_enter Try.func57,Try.ntmps57
    go_wp2
    go_ret
    exact⟨rE,by repeat(first|(with_reducible first|exact HI1.out|apply IsS105.alloc|apply IsS105.drewN|apply IsS105.drew|apply IsS105.set_1|apply IsS105.set_2)|exact HI1.out),by repeat(first|(with_reducible first|exact HB.out|apply bA|apply bN|apply b1|refine below_set ?_ (IsS105.ge HI1.out))|exact HB.out),uH⟩
  · rw[if_neg c1]at H
    have c1b0:decide (a1≤0)=false:=decide_eq_false c1
    clear c1
    by_cases c2:a1≤256
    · rw[if_pos c2]at H
      have c2b0:decide (a1≤256)=true:=decide_eq_true c2
      clear c2
      obtain⟨⟨t1,t2,t3⟩,A1,H⟩:=bnd H
      dsimp only at H
      by_cases c3:a1=0
      · rw[if_pos c3]at H
        exact absurd H (by simp)
      · rw[if_neg c3]at H
        have c3b0:(a1==0)=false:=beq_eq_false_iff_ne.mpr c3
        have c3b1:(a1 !=0)=true:=bne_iff_ne.mpr c3
        simp only[Option.some.injEq,Prod.mk.injEq]at H
        obtain⟨rfl,rfl,rfl⟩:=H
        go_enter Try.func57,Try.ntmps57
        go_wp2_with (first|((with_reducible refine F (f:=91) rfl ?_);refine gl 91 (some 14) Try.func91 #[.pointer (some ⟨g,0,none⟩)] ?_;(with_reducible refine(spec_l01Byte.calls g s0_0 s0_1 s0_2 t1 t2 t3 w0 _ ?side1 ?side2 A1.out).mono ?_);(case side1=>repeat(first|(with_reducible first|exact HI1.out|apply IsS105.alloc|apply IsS105.drewN|apply IsS105.drew|apply IsS105.set_1|apply IsS105.set_2)|exact HI1.out));(case side2=>repeat(first|(with_reducible first|exact HB.out|apply bA|apply bN|apply b1|refine below_set ?_ (IsS105.ge HI1.out))|exact HB.out));rintro e w1 ⟨rfl,hi,hb,hk⟩;refine⟨_,rfl,?_⟩;replace HK:=C (KeepBut.trans (show KeepBut w _ _ _ from uH) hk (.inl rfl));replace HB:=C (hb);replace HI1:=C (hi);clear hb hi hk))
        go_ret
        exact⟨rE,by repeat(first|(with_reducible first|exact HI1.out|apply IsS105.alloc|apply IsS105.drewN|apply IsS105.drew|apply IsS105.set_1|apply IsS105.set_2)|exact HI1.out),by repeat(first|(with_reducible first|exact HB.out|apply bA|apply bN|apply b1|refine below_set ?_ (IsS105.ge HI1.out))|exact HB.out),uH⟩
    · rw[if_neg c2]at H
      have c2b0:decide (a1≤256)=false:=decide_eq_false c2
      clear c2
      obtain⟨⟨t1,t2,t3⟩,A1,H⟩:=bnd H
      dsimp only at H
      obtain⟨⟨t4,t5,t6⟩,A2,H⟩:=bnd H
      dsimp only at H
      obtain⟨⟨t7,t8,t9⟩,A3,H⟩:=bnd H
      dsimp only at H
      obtain⟨⟨t10,t11,t12⟩,A4,H⟩:=bnd H
      dsimp only at H
      by_cases c3:a1=0
      · rw[if_pos c3]at H
        exact absurd H (by simp)
      · rw[if_neg c3]at H
        have c3b0:(a1==0)=false:=beq_eq_false_iff_ne.mpr c3
        have c3b1:(a1 !=0)=true:=bne_iff_ne.mpr c3
        simp only[Option.some.injEq,Prod.mk.injEq]at H
        obtain⟨rfl,rfl,rfl⟩:=H
        go_enter Try.func57,Try.ntmps57
        go_wp2_with (first|((with_reducible refine F (f:=91) rfl ?_);refine gl 91 (some 18) Try.func91 #[.pointer (some ⟨g,0,none⟩)] ?_;(with_reducible refine(spec_l01Byte.calls g s0_0 s0_1 s0_2 t1 t2 t3 w0 _ ?side1 ?side2 A1.out).mono ?_);(case side1=>repeat(first|(with_reducible first|exact HI1.out|apply IsS105.alloc|apply IsS105.drewN|apply IsS105.drew|apply IsS105.set_1|apply IsS105.set_2)|exact HI1.out));(case side2=>repeat(first|(with_reducible first|exact HB.out|apply bA|apply bN|apply b1|refine below_set ?_ (IsS105.ge HI1.out))|exact HB.out));rintro e w1 ⟨rfl,hi,hb,hk⟩;refine⟨_,rfl,?_⟩;replace HK:=C (KeepBut.trans (show KeepBut w _ _ _ from uH) hk (.inl rfl));replace HB:=C (hb);replace HI1:=C (hi);clear hb hi hk)|((with_reducible refine F (f:=91) rfl ?_);refine gl 91 (some 20) Try.func91 #[.pointer (some ⟨g,0,none⟩)] ?_;(with_reducible refine(spec_l01Byte.calls g s0_0 t2 t3 t4 t5 t6 w0 _ ?side1 ?side2 A2.out).mono ?_);(case side1=>repeat(first|(with_reducible first|exact HI1.out|apply IsS105.alloc|apply IsS105.drewN|apply IsS105.drew|apply IsS105.set_1|apply IsS105.set_2)|exact HI1.out));(case side2=>repeat(first|(with_reducible first|exact HB.out|apply bA|apply bN|apply b1|refine below_set ?_ (IsS105.ge HI1.out))|exact HB.out));rintro e w2 ⟨rfl,hi,hb,hk⟩;refine⟨_,rfl,?_⟩;replace HK:=C (KeepBut.trans (show KeepBut w _ _ _ from uH) hk (.inl rfl));replace HB:=C (hb);replace HI1:=C (hi);clear hb hi hk)|((with_reducible refine F (f:=91) rfl ?_);refine gl 91 (some 22) Try.func91 #[.pointer (some ⟨g,0,none⟩)] ?_;(with_reducible refine(spec_l01Byte.calls g s0_0 t5 t6 t7 t8 t9 w0 _ ?side1 ?side2 A3.out).mono ?_);(case side1=>repeat(first|(with_reducible first|exact HI1.out|apply IsS105.alloc|apply IsS105.drewN|apply IsS105.drew|apply IsS105.set_1|apply IsS105.set_2)|exact HI1.out));(case side2=>repeat(first|(with_reducible first|exact HB.out|apply bA|apply bN|apply b1|refine below_set ?_ (IsS105.ge HI1.out))|exact HB.out));rintro e w3 ⟨rfl,hi,hb,hk⟩;refine⟨_,rfl,?_⟩;replace HK:=C (KeepBut.trans (show KeepBut w _ _ _ from uH) hk (.inl rfl));replace HB:=C (hb);replace HI1:=C (hi);clear hb hi hk)|((with_reducible refine F (f:=91) rfl ?_);refine gl 91 (some 24) Try.func91 #[.pointer (some ⟨g,0,none⟩)] ?_;(with_reducible refine(spec_l01Byte.calls g s0_0 t8 t9 t10 t11 t12 w0 _ ?side1 ?side2 A4.out).mono ?_);(case side1=>repeat(first|(with_reducible first|exact HI1.out|apply IsS105.alloc|apply IsS105.drewN|apply IsS105.drew|apply IsS105.set_1|apply IsS105.set_2)|exact HI1.out));(case side2=>repeat(first|(with_reducible first|exact HB.out|apply bA|apply bN|apply b1|refine below_set ?_ (IsS105.ge HI1.out))|exact HB.out));rintro e w4 ⟨rfl,hi,hb,hk⟩;refine⟨_,rfl,?_⟩;replace HK:=C (KeepBut.trans (show KeepBut w _ _ _ from uH) hk (.inl rfl));replace HB:=C (hb);replace HI1:=C (hi);clear hb hi hk))
        go_ret
        exact⟨rE,by repeat(first|(with_reducible first|exact HI1.out|apply IsS105.alloc|apply IsS105.drewN|apply IsS105.drew|apply IsS105.set_1|apply IsS105.set_2)|exact HI1.out),by repeat(first|(with_reducible first|exact HB.out|apply bA|apply bN|apply b1|refine below_set ?_ (IsS105.ge HI1.out))|exact HB.out),uH⟩
mutual
def spec_l39Act.j0:Nat→Int→Bool→List Int→Int→Int→Option (Int×Int×Int×Int×Int×Int)
  |0,_,_,_,_,_=>none
  |k+1,x4,x5,x1000,x1001,x1002=>if x5=true then((spec_l01Below.f x1000 x1001 x1002 9).bind fun bt555=>((spec_l01Below.f x1000 bt555.2.1 bt555.2.2 8).bind fun bt558=>((spec_l01Below.f x1000 bt558.2.1 bt558.2.2 10).bind fun bt561=>(some (1,wrap64 (1+bt555.1),wrap64 (1+bt558.1),bt561.1,bt561.2.1,bt561.2.2))))) else(if x4=2 then(spec_l39Act.j1 k x4 (x4==2) x1000 x1001 x1002) else(spec_l39Act.j1 k x4 (x4==3) x1000 x1001 x1002))
def spec_l39Act.j1:Nat→Int→Bool→List Int→Int→Int→Option (Int×Int×Int×Int×Int×Int)
  |0,_,_,_,_,_=>none
  |k+1,x4,x17,x1000,x1001,x1002=>if x17=true then(some (2,0,0,0,x1001,x1002)) else(if x4=4 then(some (4,0,0,0,x1001,x1002)) else(if x4=5 then((spec_l01Below.f x1000 x1001 x1002 9).bind fun bt564=>(some (5,wrap64 (1+bt564.1),0,0,bt564.2.1,bt564.2.2))) else((spec_l01Below.f x1000 x1001 x1002 5).bind fun bt567=>(some (3,wrap64 (1+bt567.1),0,0,bt567.2.1,bt567.2.2)))))
end
def spec_l39Act.f (k:Nat) (s0_0:List Int) (s0_1:Int) (s0_2:Int):Option (Int×Int×Int×Int×Int×Int):=(spec_l01Below.f s0_0 s0_1 s0_2 8).bind fun bt552=>(if bt552.1=0 then(spec_l39Act.j0 k bt552.1 (bt552.1==0) s0_0 bt552.2.1 bt552.2.2) else(spec_l39Act.j0 k bt552.1 (bt552.1==1) s0_0 bt552.2.1 bt552.2.2))
theorem spec_l39Act.mono_l:∀k,(∀y0 y1 y2 y3 y4,LeO (spec_l39Act.j0 k y0 y1 y2 y3 y4) (spec_l39Act.j0 (k+1) y0 y1 y2 y3 y4))∧(∀y0 y1 y2 y3 y4,LeO (spec_l39Act.j1 k y0 y1 y2 y3 y4) (spec_l39Act.j1 (k+1) y0 y1 y2 y3 y4))
  |0=>⟨fun _ _ _ _ _ r h=>by simp[spec_l39Act.j0]at h,fun _ _ _ _ _ r h=>by simp[spec_l39Act.j1]at h⟩
  |k+1=>by
    obtain⟨ih0,ih1⟩:=spec_l39Act.mono_l k
    refine⟨?_,?_⟩
    · intro y0 y1 y2 y3 y4
      unfold spec_l39Act.j0
      repeat' first|(with_reducible first|apply ih0|apply ih1|exact LeO.refl _|exact LeO.none _|refine LeO.ite ?_ ?_|refine LeO.bind ?_ (fun _=> ?_))|apply ih0|apply ih1|exact LeO.none _|refine LeO.ite ?_ ?_|refine LeO.bind ?_ (fun _=> ?_)
    · intro y0 y1 y2 y3 y4
      unfold spec_l39Act.j1
      repeat' first|(with_reducible first|apply ih0|apply ih1|exact LeO.refl _|exact LeO.none _|refine LeO.ite ?_ ?_|refine LeO.bind ?_ (fun _=> ?_))|apply ih0|apply ih1|exact LeO.none _|refine LeO.ite ?_ ?_|refine LeO.bind ?_ (fun _=> ?_)
theorem spec_l39Act.mono:∀a0 a1 a2 k,LeO (spec_l39Act.f k a0 a1 a2) (spec_l39Act.f (k+1) a0 a1 a2):=by
  intro a0 a1 a2 k
  obtain⟨ih0,ih1⟩:=spec_l39Act.mono_l k
  unfold spec_l39Act.f
  repeat' first|(with_reducible first|apply ih0|apply ih1|exact LeO.refl _|exact LeO.none _|refine LeO.ite ?_ ?_|refine LeO.bind ?_ (fun _=> ?_))|apply ih0|apply ih1|exact LeO.none _|refine LeO.ite ?_ ?_|refine LeO.bind ?_ (fun _=> ?_)
theorem spec_l39Act.W1 {p:Prop} (h:p:=by
    go_wp2
    go_meet
    first
      |(case rel=>exact⟨_,((t1==0)),rS,H',⟨oL⟩,⟨bK BK1.out⟩,⟨by repeat(first|(with_reducible first|exact HI1.out|apply IsS105.alloc|apply IsS105.drewN|apply IsS105.drew|apply IsS105.set_1|apply IsS105.set_2|refine IsS105.far ?_ NB1_551.out _)|exact HI1.out)⟩,⟨uH⟩,⟨by repeat(first|(with_reducible first|exact HB.out|apply bA|apply bN|apply b1|refine below_set ?_ (IsS105.ge HI1.out)|refine below_set ?_ GE1.out)|exact HB.out)⟩⟩)
      |(case rel=>exact⟨_,((t1==1)),rS,H',⟨oL⟩,⟨bK BK1.out⟩,⟨by repeat(first|(with_reducible first|exact HI1.out|apply IsS105.alloc|apply IsS105.drewN|apply IsS105.drew|apply IsS105.set_1|apply IsS105.set_2|refine IsS105.far ?_ NB1_551.out _)|exact HI1.out)⟩,⟨uH⟩,⟨by repeat(first|(with_reducible first|exact HB.out|apply bA|apply bN|apply b1|refine below_set ?_ (IsS105.ge HI1.out)|refine below_set ?_ GE1.out)|exact HB.out)⟩⟩)
      |(case rel=>exact⟨_,((t1==2)),rS,H',⟨by have:=HJ1.out;first|omega|exact Nat.le_refl _⟩,⟨bK BK1.out⟩,⟨by repeat(first|(with_reducible first|exact HI1.out|apply IsS105.alloc|apply IsS105.drewN|apply IsS105.drew|apply IsS105.set_1|apply IsS105.set_2|refine IsS105.far ?_ NB1_551.out _)|exact HI1.out)⟩,⟨uH⟩,⟨by repeat(first|(with_reducible first|exact HB.out|apply bA|apply bN|apply b1|refine below_set ?_ (IsS105.ge HI1.out)|refine below_set ?_ GE1.out)|exact HB.out)⟩⟩)
      |(case rel=>exact⟨_,((t1==3)),rS,H',⟨by have:=HJ1.out;first|omega|exact Nat.le_refl _⟩,⟨bK BK1.out⟩,⟨by repeat(first|(with_reducible first|exact HI1.out|apply IsS105.alloc|apply IsS105.drewN|apply IsS105.drew|apply IsS105.set_1|apply IsS105.set_2|refine IsS105.far ?_ NB1_551.out _)|exact HI1.out)⟩,⟨uH⟩,⟨by repeat(first|(with_reducible first|exact HB.out|apply bA|apply bN|apply b1|refine below_set ?_ (IsS105.ge HI1.out)|refine below_set ?_ GE1.out)|exact HB.out)⟩⟩)):p:=h
theorem spec_l39Act.W2 {p:Prop} (h:p:=by
    go_wp2
    first
      | (refine bodyPost_ret (results_cell_row rfl _ _ gb1 53 #[V I 2, V I 0, V I 0, V I 0] (0, 0) _ rfl (bK BK1.out) Try.underlying53 rfl (by kernel_rfl)) rfl ?_
         exact⟨rE,by repeat(first|(with_reducible first|exact HI1.out|apply IsS105.alloc|apply IsS105.drewN|apply IsS105.drew|apply IsS105.set_1|apply IsS105.set_2|refine IsS105.far ?_ NB1_551.out _)|exact HI1.out),by repeat(first|(with_reducible first|exact HB.out|apply bA|apply bN|apply b1|refine below_set ?_ (IsS105.ge HI1.out)|refine below_set ?_ GE1.out)|exact HB.out),uH⟩)
      | (refine bodyPost_ret (results_cell_row rfl _ _ gb1 53 #[V I 4, V I 0, V I 0, V I 0] (0, 0) _ rfl (bK BK1.out) Try.underlying53 rfl (by kernel_rfl)) rfl ?_
         exact⟨rE,by repeat(first|(with_reducible first|exact HI1.out|apply IsS105.alloc|apply IsS105.drewN|apply IsS105.drew|apply IsS105.set_1|apply IsS105.set_2|refine IsS105.far ?_ NB1_551.out _)|exact HI1.out),by repeat(first|(with_reducible first|exact HB.out|apply bA|apply bN|apply b1|refine below_set ?_ (IsS105.ge HI1.out)|refine below_set ?_ GE1.out)|exact HB.out),uH⟩)):p:=h
set_option maxHeartbeats 40000000 in
set_option maxRecDepth 100000 in
theorem spec_l39Act.calls (k:Nat) (g:Nat) (s0_0:List Int) (s0_1:Int) (s0_2:Int) (r1:Int) (r2:Int) (r3:Int) (r4:Int) (r5:Int) (r6:Int) (w0 w:World) (hI:IsS105 w0 w g s0_0 s0_1 s0_2) (hB:Below w0.heap.size w0 w) (h:spec_l39Act.f k s0_0 s0_1 s0_2=some (r1,r2,r3,r4,r5,r6)):
    Calls Try.prog 88 #[.pointer (some ⟨g,0,none⟩)] w fun e w'=>e=.returned (G #[V I r1,V I r2,V I r3,V I r4])∧IsS105 w0 w' g s0_0 r5 r6∧Below w0.heap.size w0 w'∧KeepBut w w' g none:=by
  have hu1:=Try.underlying53
  have HI1:=C hI
  have HK:=C (KeepBut.refl w g none)
  have HL:=C hB.size
  clear hI
  have HW1:=C hB.size
  have HB:=C hB
  clear hB
  have H:=h
  unfold spec_l39Act.f at H
  clear h
  obtain⟨⟨t1,t2,t3⟩,A1,H⟩:=bnd H
  dsimp only at H
  have HC1:=C H
  clear H
  go_enter Try.func88,Try.ntmps88
  go_upto_if 5 with(first|((with_reducible refine J (N:=2) rfl ?_);refine Fix.be 2 #[V I 0,V I 0,V I 0,V I 0] 53 ?_;intro gb1 hg w1 BK1 hb;have GW1:=C ((by rw[hg];exact(keep_size (w:=w) (g:=g) (row:=none) (show KeepBut w _ _ _ from uH)):w.heap.size≤gb1));have GE1:=C ((Nat.le_trans HW1.out (by rw[hg];exact(keep_size (w:=w) (g:=g) (row:=none) (show KeepBut w _ _ _ from uH)):w.heap.size≤gb1):w0.heap.size≤gb1));have NB1_551:=C ((by rw[hg];exact Nat.ne_of_lt (IsS105.lt (show IsS105 w0 _ g s0_0 s0_1 s0_2 from by repeat(first|(with_reducible first|exact HI1.out|apply IsS105.alloc|apply IsS105.drewN|apply IsS105.drew|apply IsS105.set_1|apply IsS105.set_2)|exact HI1.out))):g≠gb1));have NB2_0:=C ((by rw[hg];exact Nat.ne_of_gt (IsS105.lt (show IsS105 w0 _ g s0_0 s0_1 s0_2 from by repeat(first|(with_reducible first|exact HI1.out|apply IsS105.alloc|apply IsS105.drewN|apply IsS105.drew|apply IsS105.set_1|apply IsS105.set_2)|exact HI1.out))):gb1≠g));replace HK:=C (KeepBut.trans (show KeepBut w _ _ _ from uH) (KeepBut.of_below hb g none) (.inl rfl));replace HB:=C (below_step (by repeat(first|(with_reducible first|exact HB.out|apply bA|apply bN|apply b1|refine below_set ?_ (IsS105.ge HI1.out))|exact HB.out)) hb);replace HI1:=C (IsS105.below (by repeat(first|(with_reducible first|exact HI1.out|apply IsS105.alloc|apply IsS105.drewN|apply IsS105.drew|apply IsS105.set_1|apply IsS105.set_2)|exact HI1.out)) hb);clear hb hg)|((with_reducible refine F (f:=57) rfl ?_);refine gl 57 (some 4) Try.func57 #[.pointer (some ⟨g,0,none⟩),V I 8] ?_;(with_reducible refine(spec_l01Below.calls g s0_0 s0_1 s0_2 8 t1 t2 t3 w0 _ ?side1 ?side2 A1.out).mono ?_);(case side1=>repeat(first|(with_reducible first|exact HI1.out|apply IsS105.alloc|apply IsS105.drewN|apply IsS105.drew|apply IsS105.set_1|apply IsS105.set_2|refine IsS105.far ?_ NB1_551.out _)|exact HI1.out));(case side2=>repeat(first|(with_reducible first|exact HB.out|apply bA|apply bN|apply b1|refine below_set ?_ (IsS105.ge HI1.out)|refine below_set ?_ GE1.out)|exact HB.out));rintro e w2 ⟨rfl,hi,hb,hk⟩;refine⟨_,rfl,?_⟩;replace BK1:=C (KeepBut.blk hk (g':=gb1) (o:=.cells #[V I 0,V I 0,V I 0,V I 0] 53 (0,0)) (uK BK1.out) NB2_0.out (by simp));replace HK:=C (KeepBut.trans (show KeepBut w _ _ _ from uH) hk (.inl rfl));replace HB:=C (hb);replace HI1:=C (hi);clear hb hi hk))
  (try simp only[Act.put,List.setIfInBounds_toArray,List.set_cons_zero,List.set_cons_succ])
  go_cut [5] (fun v5 wc=>∃(kq:Nat) (x1_2:Bool),v5=O x1_2∧D (spec_l39Act.j0 kq t1 x1_2 s0_0 t2 t3=some (r1,r2,r3,r4,r5,r6))∧D (kq≤k)∧D (wc.heap[gb1]? =some (.cells #[V I 0,V I 0,V I 0,V I 0] 53 (0,0)))∧D (IsS105 w0 wc g s0_0 t2 t3)∧D (KeepBut w wc g none)∧D (Below w0.heap.size w0 wc))
  case first=>
    have H:=HC1.out
    clear HC1
    by_cases c1:t1=0
    · rw[if_pos c1]at H
      have c1b0:(t1==0)=true:=beq_iff_eq.mpr c1
      have c1b1:(t1 !=0)=false:=bne_eq_false_iff_eq.mpr c1
      clear c1
      (first|rw[c1b0]|(simp only[i64_w,i32_w];rw[c1b0])|skip)
      have H':=C H
      clear H
      exact spec_l39Act.W1
    · rw[if_neg c1]at H
      have c1b0:(t1==0)=false:=beq_eq_false_iff_ne.mpr c1
      have c1b1:(t1 !=0)=true:=bne_iff_ne.mpr c1
      (first|rw[c1b0]|(simp only[i64_w,i32_w];rw[c1b0])|skip)
      have H':=C H
      clear H
      exact spec_l39Act.W1
  case rest=>
    clear HC1
    obtain⟨kq,x1_2,rfl,HA,HJ1,BK1,HI1,HK,HB⟩:=hcut
    cases kq with
    |zero=>exact absurd HA.out (by simp[spec_l39Act.j0])
    |succ kj2=>
      have H:=HA.out
      clear HA
      simp only[spec_l39Act.j0]at H
      by_cases c1:x1_2=true
      · subst c1
        rw[if_pos rfl]at H
        obtain⟨⟨t4,t5,t6⟩,A2,H⟩:=bnd H
        dsimp only at H
        obtain⟨⟨t7,t8,t9⟩,A3,H⟩:=bnd H
        dsimp only at H
        obtain⟨⟨t10,t11,t12⟩,A4,H⟩:=bnd H
        dsimp only at H
        simp only[Option.some.injEq,Prod.mk.injEq]at H
        obtain⟨rfl,rfl,rfl,rfl,rfl,rfl⟩:=H
        go_wp2_with (first|((with_reducible refine F (f:=57) rfl ?_);refine gl 57 (some 9) Try.func57 #[.pointer (some ⟨g,0,none⟩),V I 9] ?_;(with_reducible refine(spec_l01Below.calls g s0_0 t2 t3 9 t4 t5 t6 w0 _ ?side1 ?side2 A2.out).mono ?_);(case side1=>repeat(first|(with_reducible first|exact HI1.out|apply IsS105.alloc|apply IsS105.drewN|apply IsS105.drew|apply IsS105.set_1|apply IsS105.set_2|refine IsS105.far ?_ NB1_551.out _)|exact HI1.out));(case side2=>repeat(first|(with_reducible first|exact HB.out|apply bA|apply bN|apply b1|refine below_set ?_ (IsS105.ge HI1.out)|refine below_set ?_ GE1.out)|exact HB.out));rintro e w3 ⟨rfl,hi,hb,hk⟩;refine⟨_,rfl,?_⟩;replace BK1:=C (KeepBut.blk hk (g':=gb1) (o:=.cells #[V I 0,V I 0,V I 0,V I 0] 53 (0,0)) (uK BK1.out) NB2_0.out (by simp));replace HK:=C (KeepBut.trans (show KeepBut w _ _ _ from uH) hk (.inl rfl));replace HB:=C (hb);replace HI1:=C (hi);clear hb hi hk)|((with_reducible refine F (f:=57) rfl ?_);refine gl 57 (some 12) Try.func57 #[.pointer (some ⟨g,0,none⟩),V I 8] ?_;(with_reducible refine(spec_l01Below.calls g s0_0 t5 t6 8 t7 t8 t9 w0 _ ?side1 ?side2 A3.out).mono ?_);(case side1=>repeat(first|(with_reducible first|exact HI1.out|apply IsS105.alloc|apply IsS105.drewN|apply IsS105.drew|apply IsS105.set_1|apply IsS105.set_2|refine IsS105.far ?_ NB1_551.out _)|exact HI1.out));(case side2=>repeat(first|(with_reducible first|exact HB.out|apply bA|apply bN|apply b1|refine below_set ?_ (IsS105.ge HI1.out)|refine below_set ?_ GE1.out)|exact HB.out));rintro e w4 ⟨rfl,hi,hb,hk⟩;refine⟨_,rfl,?_⟩;replace BK1:=C (KeepBut.blk hk (g':=gb1) (o:=.cells #[V I 0,V I 0,V I 0,V I 0] 53 (0,0)) (uK BK1.out) NB2_0.out (by simp));replace HK:=C (KeepBut.trans (show KeepBut w _ _ _ from uH) hk (.inl rfl));replace HB:=C (hb);replace HI1:=C (hi);clear hb hi hk)|((with_reducible refine F (f:=57) rfl ?_);refine gl 57 (some 15) Try.func57 #[.pointer (some ⟨g,0,none⟩),V I 10] ?_;(with_reducible refine(spec_l01Below.calls g s0_0 t8 t9 10 t10 t11 t12 w0 _ ?side1 ?side2 A4.out).mono ?_);(case side1=>repeat(first|(with_reducible first|exact HI1.out|apply IsS105.alloc|apply IsS105.drewN|apply IsS105.drew|apply IsS105.set_1|apply IsS105.set_2|refine IsS105.far ?_ NB1_551.out _)|exact HI1.out));(case side2=>repeat(first|(with_reducible first|exact HB.out|apply bA|apply bN|apply b1|refine below_set ?_ (IsS105.ge HI1.out)|refine below_set ?_ GE1.out)|exact HB.out));rintro e w5 ⟨rfl,hi,hb,hk⟩;refine⟨_,rfl,?_⟩;replace BK1:=C (KeepBut.blk hk (g':=gb1) (o:=.cells #[V I 0,V I 0,V I 0,V I 0] 53 (0,0)) (uK BK1.out) NB2_0.out (by simp));replace HK:=C (KeepBut.trans (show KeepBut w _ _ _ from uH) hk (.inl rfl));replace HB:=C (hb);replace HI1:=C (hi);clear hb hi hk;have hnb1:=NB2_0.out;have hnc1:=NB1_551.out;obtain⟨hcz1_0,hcz1_1,hcz1_2,hcz1_3,hfz1_0,hfz1_1,hfz1_2,hfz1_3⟩:=d4 BK1.out))
        refine bodyPost_ret (results_cell_row rfl _ _ gb1 53 #[V I 1,V I (wrap64 (1+t4)),V I (wrap64 (1+t7)),V I t10] (0,0) _ rfl (bK BK1.out) Try.underlying53 rfl (by kernel_rfl)) rfl ?_
        exact⟨rE,by repeat(first|(with_reducible first|exact HI1.out|apply IsS105.alloc|apply IsS105.drewN|apply IsS105.drew|apply IsS105.set_1|apply IsS105.set_2|refine IsS105.far ?_ NB1_551.out _)|exact HI1.out),by repeat(first|(with_reducible first|exact HB.out|apply bA|apply bN|apply b1|refine below_set ?_ (IsS105.ge HI1.out)|refine below_set ?_ GE1.out)|exact HB.out),uH⟩
      · replace c1:=Bool.eq_false_iff.mpr c1
        subst c1
        rw[if_neg Bool.false_ne_true]at H
        have HC2:=C H
        clear H
        go_upto_if 17 with(fail)
        go_cut [17] (fun v17 wc=>∃(kq:Nat) (x2_15:Bool),v17=O x2_15∧D (spec_l39Act.j1 kq t1 x2_15 s0_0 t2 t3=some (r1,r2,r3,r4,r5,r6))∧D (kq≤kj2)∧D (wc.heap[gb1]? =some (.cells #[V I 0,V I 0,V I 0,V I 0] 53 (0,0)))∧D (IsS105 w0 wc g s0_0 t2 t3)∧D (KeepBut w wc g none)∧D (Below w0.heap.size w0 wc))
        case first=>
          have H:=HC2.out
          clear HC2
          by_cases c2:t1=2
          · rw[if_pos c2]at H
            have c2b0:(t1==2)=true:=beq_iff_eq.mpr c2
            have c2b1:(t1 !=2)=false:=bne_eq_false_iff_eq.mpr c2
            clear c2
            (first|rw[c2b0]|(simp only[i64_w,i32_w];rw[c2b0])|skip)
            have H':=C H
            clear H
            exact spec_l39Act.W1
          · rw[if_neg c2]at H
            have c2b0:(t1==2)=false:=beq_eq_false_iff_ne.mpr c2
            have c2b1:(t1 !=2)=true:=bne_iff_ne.mpr c2
            (first|rw[c2b0]|(simp only[i64_w,i32_w];rw[c2b0])|skip)
            have H':=C H
            clear H
            exact spec_l39Act.W1
        case rest=>
          clear HC2
          obtain⟨kq,x2_15,rfl,HA,HJ2,BK1,HI1,HK,HB⟩:=hcut
          cases kq with
          |zero=>exact absurd HA.out (by simp[spec_l39Act.j1])
          |succ kj15=>
            have H:=HA.out
            clear HA
            simp only[spec_l39Act.j1]at H
            by_cases c2:x2_15=true
            · subst c2
              rw[if_pos rfl]at H
              simp only[Option.some.injEq,Prod.mk.injEq]at H
              obtain⟨rfl,rfl,rfl,rfl,rfl,rfl⟩:=H
              have hnb1:=NB2_0.out
              have hnc1:=NB1_551.out
              obtain⟨hcz1_0,hcz1_1,hcz1_2,hcz1_3,hfz1_0,hfz1_1,hfz1_2,hfz1_3⟩:=d4 BK1.out
              exact spec_l39Act.W2
            · replace c2:=Bool.eq_false_iff.mpr c2
              subst c2
              rw[if_neg Bool.false_ne_true]at H
              by_cases c3:t1=4
              · rw[if_pos c3]at H
                have c3b0:(t1==4)=true:=beq_iff_eq.mpr c3
                have c3b1:(t1 !=4)=false:=bne_eq_false_iff_eq.mpr c3
                clear c3
                simp only[Option.some.injEq,Prod.mk.injEq]at H
                obtain⟨rfl,rfl,rfl,rfl,rfl,rfl⟩:=H
                have hnb1:=NB2_0.out
                have hnc1:=NB1_551.out
                have h_:=d4 BK1.out;repeat(obtain⟨_,h_⟩:=h_)
                exact spec_l39Act.W2
              · rw[if_neg c3]at H
                have c3b0:(t1==4)=false:=beq_eq_false_iff_ne.mpr c3
                have c3b1:(t1 !=4)=true:=bne_iff_ne.mpr c3
                by_cases c4:t1=5
                · rw[if_pos c4]at H
                  have c4b0:(t1==5)=true:=beq_iff_eq.mpr c4
                  have c4b1:(t1 !=5)=false:=bne_eq_false_iff_eq.mpr c4
                  clear c4
                  obtain⟨⟨t4,t5,t6⟩,A2,H⟩:=bnd H
                  dsimp only at H
                  simp only[Option.some.injEq,Prod.mk.injEq]at H
                  obtain⟨rfl,rfl,rfl,rfl,rfl,rfl⟩:=H
                  go_wp2_with (first|((with_reducible refine F (f:=57) rfl ?_);refine gl 57 (some 27) Try.func57 #[.pointer (some ⟨g,0,none⟩),V I 9] ?_;(with_reducible refine(spec_l01Below.calls g s0_0 t2 t3 9 t4 t5 t6 w0 _ ?side1 ?side2 A2.out).mono ?_);(case side1=>repeat(first|(with_reducible first|exact HI1.out|apply IsS105.alloc|apply IsS105.drewN|apply IsS105.drew|apply IsS105.set_1|apply IsS105.set_2|refine IsS105.far ?_ NB1_551.out _)|exact HI1.out));(case side2=>repeat(first|(with_reducible first|exact HB.out|apply bA|apply bN|apply b1|refine below_set ?_ (IsS105.ge HI1.out)|refine below_set ?_ GE1.out)|exact HB.out));rintro e w3 ⟨rfl,hi,hb,hk⟩;refine⟨_,rfl,?_⟩;replace BK1:=C (KeepBut.blk hk (g':=gb1) (o:=.cells #[V I 0,V I 0,V I 0,V I 0] 53 (0,0)) (uK BK1.out) NB2_0.out (by simp));replace HK:=C (KeepBut.trans (show KeepBut w _ _ _ from uH) hk (.inl rfl));replace HB:=C (hb);replace HI1:=C (hi);clear hb hi hk;have hnb1:=NB2_0.out;have hnc1:=NB1_551.out;have h_:=d4 BK1.out;repeat(obtain⟨_,h_⟩:=h_)))
                  refine bodyPost_ret (results_cell_row rfl _ _ gb1 53 #[V I 5,V I (wrap64 (1+t4)),V I 0,V I 0] (0,0) _ rfl (bK BK1.out) Try.underlying53 rfl (by kernel_rfl)) rfl ?_
                  exact⟨rE,by repeat(first|(with_reducible first|exact HI1.out|apply IsS105.alloc|apply IsS105.drewN|apply IsS105.drew|apply IsS105.set_1|apply IsS105.set_2|refine IsS105.far ?_ NB1_551.out _)|exact HI1.out),by repeat(first|(with_reducible first|exact HB.out|apply bA|apply bN|apply b1|refine below_set ?_ (IsS105.ge HI1.out)|refine below_set ?_ GE1.out)|exact HB.out),uH⟩
                · rw[if_neg c4]at H
                  have c4b0:(t1==5)=false:=beq_eq_false_iff_ne.mpr c4
                  have c4b1:(t1 !=5)=true:=bne_iff_ne.mpr c4
                  obtain⟨⟨t4,t5,t6⟩,A2,H⟩:=bnd H
                  dsimp only at H
                  simp only[Option.some.injEq,Prod.mk.injEq]at H
                  obtain⟨rfl,rfl,rfl,rfl,rfl,rfl⟩:=H
                  go_wp2_with (first|((with_reducible refine F (f:=57) rfl ?_);refine gl 57 (some 31) Try.func57 #[.pointer (some ⟨g,0,none⟩),V I 5] ?_;(with_reducible refine(spec_l01Below.calls g s0_0 t2 t3 5 t4 t5 t6 w0 _ ?side1 ?side2 A2.out).mono ?_);(case side1=>repeat(first|(with_reducible first|exact HI1.out|apply IsS105.alloc|apply IsS105.drewN|apply IsS105.drew|apply IsS105.set_1|apply IsS105.set_2|refine IsS105.far ?_ NB1_551.out _)|exact HI1.out));(case side2=>repeat(first|(with_reducible first|exact HB.out|apply bA|apply bN|apply b1|refine below_set ?_ (IsS105.ge HI1.out)|refine below_set ?_ GE1.out)|exact HB.out));rintro e w3 ⟨rfl,hi,hb,hk⟩;refine⟨_,rfl,?_⟩;replace BK1:=C (KeepBut.blk hk (g':=gb1) (o:=.cells #[V I 0,V I 0,V I 0,V I 0] 53 (0,0)) (uK BK1.out) NB2_0.out (by simp));replace HK:=C (KeepBut.trans (show KeepBut w _ _ _ from uH) hk (.inl rfl));replace HB:=C (hb);replace HI1:=C (hi);clear hb hi hk;have hnb1:=NB2_0.out;have hnc1:=NB1_551.out;have h_:=d4 BK1.out;repeat(obtain⟨_,h_⟩:=h_)))
                  refine bodyPost_ret (results_cell_row rfl _ _ gb1 53 #[V I 3,V I (wrap64 (1+t4)),V I 0,V I 0] (0,0) _ rfl (bK BK1.out) Try.underlying53 rfl (by kernel_rfl)) rfl ?_
                  exact⟨rE,by repeat(first|(with_reducible first|exact HI1.out|apply IsS105.alloc|apply IsS105.drewN|apply IsS105.drew|apply IsS105.set_1|apply IsS105.set_2|refine IsS105.far ?_ NB1_551.out _)|exact HI1.out),by repeat(first|(with_reducible first|exact HB.out|apply bA|apply bN|apply b1|refine below_set ?_ (IsS105.ge HI1.out)|refine below_set ?_ GE1.out)|exact HB.out),uH⟩
def spec_l39List.l0:Nat→List (S53)→Int→Int→List Int→Int→Int→Option ((List (S53))×Int×Int)
  |0,_,_,_,_,_,_=>none
  |k+1,x3,x4,x5,x1000,x1001,x1002=>if x5<x4 then((spec_l39Act.f k x1000 x1001 x1002).bind fun bt576=>(if x3.length<4398046511104 then(spec_l39List.l0 k (x3++ [(⟨bt576.1,bt576.2.1,bt576.2.2.1,bt576.2.2.2.1⟩:S53)]) x4 (wrap64 (x5+1)) x1000 bt576.2.2.2.2.1 bt576.2.2.2.2.2) else(none))) else(some (x3,x1001,x1002))
def spec_l39List.f (k:Nat) (s0_0:List Int) (s0_1:Int) (s0_2:Int):Option ((List (S53))×Int×Int):=(spec_l01Below.f s0_0 s0_1 s0_2 16).bind fun bt573=>(spec_l39List.l0 k (([]:List (S53))) bt573.1 0 s0_0 bt573.2.1 bt573.2.2)
theorem spec_l39List.mono_l:∀k,(∀y0 y1 y2 y3 y4 y5,LeO (spec_l39List.l0 k y0 y1 y2 y3 y4 y5) (spec_l39List.l0 (k+1) y0 y1 y2 y3 y4 y5))
  |0=>fun _ _ _ _ _ _ r h=>by simp[spec_l39List.l0]at h
  |k+1=>by
    have ih0:=spec_l39List.mono_l k
    · intro y0 y1 y2 y3 y4 y5
      unfold spec_l39List.l0
      repeat' first|(with_reducible first|apply ih0|apply spec_l39Act.mono|exact LeO.refl _|exact LeO.none _|refine LeO.ite ?_ ?_|refine LeO.bind ?_ (fun _=> ?_))|apply ih0|exact LeO.none _|refine LeO.ite ?_ ?_|refine LeO.bind ?_ (fun _=> ?_)
theorem spec_l39List.mono:∀a0 a1 a2 k,LeO (spec_l39List.f k a0 a1 a2) (spec_l39List.f (k+1) a0 a1 a2):=by
  intro a0 a1 a2 k
  have ih0:=spec_l39List.mono_l k
  unfold spec_l39List.f
  repeat' first|(with_reducible first|apply ih0|apply spec_l39Act.mono|exact LeO.refl _|exact LeO.none _|refine LeO.ite ?_ ?_|refine LeO.bind ?_ (fun _=> ?_))|apply ih0|exact LeO.none _|refine LeO.ite ?_ ?_|refine LeO.bind ?_ (fun _=> ?_)
set_option maxHeartbeats 40000000 in
set_option maxRecDepth 100000 in
theorem spec_l39List.calls (k:Nat) (g:Nat) (s0_0:List Int) (s0_1:Int) (s0_2:Int) (r1:List (S53)) (r2:Int) (r3:Int) (w0 w:World) (hI:IsS105 w0 w g s0_0 s0_1 s0_2) (hB:Below w0.heap.size w0 w) (h:spec_l39List.f k s0_0 s0_1 s0_2=some (r1,r2,r3)):
    Calls Try.prog 54 #[.pointer (some ⟨g,0,none⟩)] w fun e w'=>∃v0_:Value,e=.returned (v0_)∧Kd.R k53 53 w' w.heap.size (fun _=>True) v0_ r1∧IsS105 w0 w' g s0_0 r2 r3∧Below w0.heap.size w0 w'∧KeepBut w w' g none:=by
  have hu1:=Try.underlying53
  have HI1:=C hI
  have HK:=C (KeepBut.refl w g none)
  have HL:=C hB.size
  clear hI
  have HW1:=C hB.size
  have HB:=C hB
  clear hB
  have H:=h
  unfold spec_l39List.f at H
  clear h
  obtain⟨y1,hy1⟩:∃y_:List (S53),y_=(([]:List (S53))):=⟨_,rfl⟩
  replace H:((spec_l01Below.f s0_0 s0_1 s0_2 16).bind fun bt573=>(spec_l39List.l0 k y1 bt573.1 0 s0_0 bt573.2.1 bt573.2.2))=some (r1,r2,r3):=by first|(rw[hy1];with_reducible exact H)|(have H1_:=(Option.bind_some _ _).symm.trans H;rw[hy1];with_reducible exact H1_)|(have H1_:=(Option.bind_some _ _).symm.trans H;with_reducible exact H1_)|with_reducible exact H|(rw[hy1];exact H)|exact H
  have Ny1:=C hy1
  clear hy1
  obtain⟨⟨t1,t2,t3⟩,A1,H⟩:=bnd H
  dsimp only at H
  have H':=C H
  clear H
  go_enter Try.func54,Try.ntmps54
  go_wp2_with (first|((with_reducible refine J (N:=7) rfl ?_);refine Kd.R_lit k53 _ 53 ?hg (N:=7) ?hd (xs:=([]:List (S53))) (inner:= []) (ok:=fun _=>True) (okp:=fun _=>True) ?hr ?hp (fun _ hk=>hk) trivial (Below.refl _ _) (Nat.le_refl _) (by simp) ?_;(case hd=>rfl);(case hg=>rfl);(case hr=>exact Fix.hr);(case hp=>exact(Reps.none _ _));intro v1 w1 ho1 hb hg_ hnew_;clear hg_ hnew_;(first|rw[←Ny1.out]at ho1|(simp only[Int.reduceToNat]at ho1;rw[←Ny1.out]at ho1));have HO1:=C (Kd.R_lower ho1 (keep_size (w:=w) (g:=g) (row:=none) (show KeepBut w _ _ _ from uH)));replace HK:=C (KeepBut.trans (show KeepBut w _ _ _ from uH) (KeepBut.of_below hb g none) (.inl rfl));replace HB:=C (below_step (by repeat(first|(with_reducible first|exact HB.out|apply bA|apply bN|apply b1|refine below_set ?_ (IsS105.ge HI1.out))|exact HB.out)) hb);replace HI1:=C (IsS105.below (by repeat(first|(with_reducible first|exact HI1.out|apply IsS105.alloc|apply IsS105.drewN|apply IsS105.drew|apply IsS105.set_1|apply IsS105.set_2)|exact HI1.out)) hb);clear hb ho1)|((with_reducible refine F (f:=57) rfl ?_);refine gl 57 (some 9) Try.func57 #[.pointer (some ⟨g,0,none⟩),V I 16] ?_;(with_reducible refine(spec_l01Below.calls g s0_0 s0_1 s0_2 16 t1 t2 t3 w0 _ ?side1 ?side2 A1.out).mono ?_);(case side1=>repeat(first|(with_reducible first|exact HI1.out|apply IsS105.alloc|apply IsS105.drewN|apply IsS105.drew|apply IsS105.set_1|apply IsS105.set_2)|exact HI1.out));(case side2=>repeat(first|(with_reducible first|exact HB.out|apply bA|apply bN|apply b1|refine below_set ?_ (IsS105.ge HI1.out))|exact HB.out));rintro e w2 ⟨rfl,hi,hb,hk⟩;refine⟨_,rfl,?_⟩;replace HO1:=C (X (Kd.R_keep (IsS105.apart (show IsS105 w0 _ g s0_0 s0_1 s0_2 from by repeat(first|(with_reducible first|exact HI1.out|apply IsS105.alloc|apply IsS105.drewN|apply IsS105.drew|apply IsS105.set_1|apply IsS105.set_2)|exact HI1.out)) (uR HO1.out) (by decide)) hk (fun _ h=>h.2)) (fun _ h=>h.1));replace HK:=C (KeepBut.trans (show KeepBut w _ _ _ from uH) hk (.inl rfl));replace HB:=C (hb);replace HI1:=C (hi);clear hb hi hk))
  go_loopg [3,5] k (fun kq v3 v5 w'=>∃(x1_1:List (S53)) (x2_1:Int) (x3_1:Int) (x4_1:Int),v5=V I x2_1∧D (spec_l39List.l0 kq x1_1 t1 x2_1 s0_0 x3_1 x4_1=some (r1,r2,r3))∧D (kq≤k)∧D (Kd.R k53 53 w' w.heap.size (fun _=>True) v3 x1_1)∧D (IsS105 w0 w' g s0_0 x3_1 x4_1)∧D (KeepBut w w' g none)∧D (Below w0.heap.size w0 w'))
  case atStart=>exact⟨(y1),(0),(t2),(t3),rS,H',⟨Nat.le_refl _⟩,⟨fR HO1.out⟩,⟨by repeat(first|(with_reducible first|exact HI1.out|apply IsS105.alloc|apply IsS105.drewN|apply IsS105.drew|apply IsS105.set_1|apply IsS105.set_2)|exact HI1.out)⟩,⟨uH⟩,⟨by repeat(first|(with_reducible first|exact HB.out|apply bA|apply bN|apply b1|refine below_set ?_ (IsS105.ge HI1.out))|exact HB.out)⟩⟩
  case round=>
    clear H'
    obtain⟨x1_1,x2_1,x3_1,x4_1,rfl,HA,HK1,HO_1,HI1,HK,HB⟩:=hrel
    cases gk with
    |zero=>exact absurd HA.out (by simp[spec_l39List.l0])
    |succ k1=>
      have H:=HA.out
      clear HA
      simp only[spec_l39List.l0]at H
      by_cases c1:x2_1<t1
      · rw[if_pos c1]at H
        have c1b0:decide (x2_1<t1)=true:=decide_eq_true c1
        clear c1
        obtain⟨⟨t4,t5,t6,t7,t8,t9⟩,A2,H⟩:=bnd H
        dsimp only at H
        by_cases c2:x1_1.length<4398046511104
        · rw[if_pos c2]at H
          have LMc1:=C c2
          clear c2
          obtain⟨y2,hy2⟩:∃y_:List (S53),y_=(x1_1++ [(⟨t4,t5,t6,t7⟩:S53)]):=⟨_,rfl⟩
          replace H:(spec_l39List.l0 k1 y2 t1 (wrap64 (x2_1+1)) s0_0 t8 t9)=some (r1,r2,r3):=by first|(rw[hy2];with_reducible exact H)|(have H1_:=(Option.bind_some _ _).symm.trans H;rw[hy2];with_reducible exact H1_)|(have H1_:=(Option.bind_some _ _).symm.trans H;with_reducible exact H1_)|with_reducible exact H|(rw[hy2];exact H)|exact H
          have Ny2:=C hy2
          clear hy2
          have H':=C H
          clear H
          go_wp2_with (first|((with_reducible refine F (f:=88) rfl ?_);refine gl 88 (some 16) Try.func88 #[.pointer (some ⟨g,0,none⟩)] ?_;(with_reducible refine(spec_l39Act.calls k1 g s0_0 x3_1 x4_1 t4 t5 t6 t7 t8 t9 w0 _ ?side1 ?side2 A2.out).mono ?_);(case side1=>repeat(first|(with_reducible first|exact HI1.out|apply IsS105.alloc|apply IsS105.drewN|apply IsS105.drew|apply IsS105.set_1|apply IsS105.set_2)|exact HI1.out));(case side2=>repeat(first|(with_reducible first|exact HB.out|apply bA|apply bN|apply b1|refine below_set ?_ (IsS105.ge HI1.out))|exact HB.out));rintro e w3 ⟨rfl,hi,hb,hk⟩;refine⟨_,rfl,?_⟩;replace HO_1:=C (X (Kd.R_keep (IsS105.apart (show IsS105 w0 _ g s0_0 x3_1 x4_1 from by repeat(first|(with_reducible first|exact HI1.out|apply IsS105.alloc|apply IsS105.drewN|apply IsS105.drew|apply IsS105.set_1|apply IsS105.set_2)|exact HI1.out)) (uR HO_1.out) (by decide)) hk (fun _ h=>h.2)) (fun _ h=>h.1));replace HK:=C (KeepBut.trans (show KeepBut w _ _ _ from uH) hk (.inl rfl));replace HB:=C (hb);replace HI1:=C (hi);clear hb hi hk)|((with_reducible refine J (N:=6) rfl ?_);refine Fix.be 6 #[V I 0,V I 0,V I 0,V I 0] 53 ?_;intro gb1 hg w4 BK1 hb;have GW1:=C ((by rw[hg];exact(keep_size (w:=w) (g:=g) (row:=none) (show KeepBut w _ _ _ from uH)):w.heap.size≤gb1));have GE1:=C ((Nat.le_trans HW1.out (by rw[hg];exact(keep_size (w:=w) (g:=g) (row:=none) (show KeepBut w _ _ _ from uH)):w.heap.size≤gb1):w0.heap.size≤gb1));have NB1_582:=C ((by rw[hg];exact Nat.ne_of_lt (IsS105.lt (show IsS105 w0 _ g s0_0 t8 t9 from by repeat(first|(with_reducible first|exact HI1.out|apply IsS105.alloc|apply IsS105.drewN|apply IsS105.drew|apply IsS105.set_1|apply IsS105.set_2)|exact HI1.out))):g≠gb1));have NB2_0:=C ((by rw[hg];exact Nat.ne_of_gt (IsS105.lt (show IsS105 w0 _ g s0_0 t8 t9 from by repeat(first|(with_reducible first|exact HI1.out|apply IsS105.alloc|apply IsS105.drewN|apply IsS105.drew|apply IsS105.set_1|apply IsS105.set_2)|exact HI1.out))):gb1≠g));replace HO_1:=C (Kd.R_below (Kd.R_elderB (uR HO_1.out) gb1 (Nat.le_of_eq hg.symm)) hb);replace HK:=C (KeepBut.trans (show KeepBut w _ _ _ from uH) (KeepBut.of_below hb g none) (.inl rfl));replace HB:=C (below_step (by repeat(first|(with_reducible first|exact HB.out|apply bA|apply bN|apply b1|refine below_set ?_ (IsS105.ge HI1.out))|exact HB.out)) hb);replace HI1:=C (IsS105.below (by repeat(first|(with_reducible first|exact HI1.out|apply IsS105.alloc|apply IsS105.drewN|apply IsS105.drew|apply IsS105.set_1|apply IsS105.set_2)|exact HI1.out)) hb);clear hb hg;have hnb1:=NB2_0.out;have hnc1:=NB1_582.out;obtain⟨hcz1_0,hcz1_1,hcz1_2,hcz1_3,hfz1_0,hfz1_1,hfz1_2,hfz1_3⟩:=d4 BK1.out)|((with_reducible refine gate_builtin (b:=.append) (xs:= #[.tmp 17,.tmp 19]) rfl ?_);at_builtin;refine Kd.R_append k53 w.heap.size rfl (.tmp 17) (.tmp 19) 42 53 (G #[(V I 0),(V I 0),(V I 0),(V I 0)]) 32 rfl Try.underlying42 info53 rfl (by decide) (by omega) u3 x1_1 (⟨t4,t5,t6,t7⟩:S53) [V I t4,V I t5,V I t6,V I t7] (fun k_=>k_≠gb1) (fun _=>False) rfl (by first|(go_simp;done)|(go_simp;rfl)) ?aP (fun _ hk=>hk.elim) ?aF ?aO (Below.refl _ _) ?aS ?aL ?_;(case aP=>exact k53_mkM _ _ _ (⟨t4,t5,t6,t7⟩:S53));(case aF=>exact(fun k_ hk=>Kd.freshB (g:=gb1) (o:=.cells #[V I t4,V I t5,V I t6,V I t7] 53 (0,0)) (bK BK1.out) k_ hk));(case aO=>exact(X (fR (X HO_1.out (fun k_ hk=>(⟨hk,hk.2⟩:_∧k_≠gb1)))) (fun _ hk=>hk.1.2)));(case aS=>exact(keep_size (w:=w) (g:=g) (row:=none) (show KeepBut w _ _ _ from uH)));(case aL=>have:=LMc1.out;omega);intro v2 w5 ho hb hg hat;rw[←Ny2.out]at ho;have HO2:=C (ho);replace BK1:=C (blk_grown (g:=gb1) (o:=.cells #[V I t4,V I t5,V I t6,V I t7] 53 (0,0)) (bK BK1.out) hg (Kd.R_away HO_1.out (fun _ hk=>hk.2)));replace HB:=C (below_weaken (by repeat(first|(with_reducible first|exact HB.out|apply bA|apply bN|apply b1|refine below_set ?_ (IsS105.ge HI1.out)|refine below_set ?_ GE1.out)|exact HB.out)) HL.out hb);replace HI1:=C (IsS105.grown (show IsS105 w0 _ g s0_0 t8 t9 from by repeat(first|(with_reducible first|exact HI1.out|apply IsS105.alloc|apply IsS105.drewN|apply IsS105.drew|apply IsS105.set_1|apply IsS105.set_2|refine IsS105.far ?_ NB1_582.out _)|exact HI1.out)) hg (IsS105.own_ne HI1.out HO_1.out (by decide)));replace HK:=C (KeepBut.trans (show KeepBut w _ _ _ from uH) (KeepBut.of_grown hg g) (Kd.R_base2 HO_1.out));clear HO_1;clear ho hb hg hat))
          go_roundg k1
          case measure=>have:=HK1.out;omega
          case rel=>exact⟨(y2),(wrap64 (x2_1+1)),(t8),(t9),rS,H',⟨by have:=HK1.out;omega⟩,⟨X (fR HO2.out) (fun _ hk=>trivial)⟩,⟨by repeat(first|(with_reducible first|exact HI1.out|apply IsS105.alloc|apply IsS105.drewN|apply IsS105.drew|apply IsS105.set_1|apply IsS105.set_2|refine IsS105.far ?_ NB1_582.out _)|exact HI1.out)⟩,⟨uH⟩,⟨by repeat(first|(with_reducible first|exact HB.out|apply bA|apply bN|apply b1|refine below_set ?_ (IsS105.ge HI1.out)|refine below_set ?_ GE1.out)|exact HB.out)⟩⟩
        · rw[if_neg c2]at H
          exact absurd H (by simp)
      · rw[if_neg c1]at H
        have c1b0:decide (x2_1<t1)=false:=decide_eq_false c1
        clear c1
        simp only[Option.some.injEq,Prod.mk.injEq]at H
        obtain⟨rfl,rfl,rfl⟩:=H
        go_wp2
        go_ret
        exact⟨_,rE,fR HO_1.out,by repeat(first|(with_reducible first|exact HI1.out|apply IsS105.alloc|apply IsS105.drewN|apply IsS105.drew|apply IsS105.set_1|apply IsS105.set_2)|exact HI1.out),by repeat(first|(with_reducible first|exact HB.out|apply bA|apply bN|apply b1|refine below_set ?_ (IsS105.ge HI1.out))|exact HB.out),uH⟩
def spec_l39Machine.f (k:Nat) (s0_0:List Int) (s0_1:Int) (s0_2:Int):Option ((List (S33))×Int×Int×Int×Bool×Int×Bool×Int×Int×List Int×List Int×Int×Bool×Int×Int×Int):=(spec_l39List.f k s0_0 s0_1 s0_2).bind fun bt587=>((spec_RunActs.f k ([]:List (S33)) 0 0 0 false 0 false 0 0 ([]:List Int) ([]:List Int) 0 false 0 bt587.1).bind fun bt592=>(some (bt592.1,bt592.2.1,bt592.2.2.1,bt592.2.2.2.1,bt592.2.2.2.2.1,bt592.2.2.2.2.2.1,bt592.2.2.2.2.2.2.1,bt592.2.2.2.2.2.2.2.1,bt592.2.2.2.2.2.2.2.2.1,bt592.2.2.2.2.2.2.2.2.2.1,bt592.2.2.2.2.2.2.2.2.2.2.1,bt592.2.2.2.2.2.2.2.2.2.2.2.1,bt592.2.2.2.2.2.2.2.2.2.2.2.2.1,bt592.2.2.2.2.2.2.2.2.2.2.2.2.2.1,bt587.2.1,bt587.2.2)))
theorem spec_l39Machine.mono:∀a0 a1 a2 k,LeO (spec_l39Machine.f k a0 a1 a2) (spec_l39Machine.f (k+1) a0 a1 a2):=by
  intro a0 a1 a2 k
  unfold spec_l39Machine.f
  repeat' first|(with_reducible first|apply spec_RunActs.mono|apply spec_l39List.mono|exact LeO.refl _|exact LeO.none _|refine LeO.ite ?_ ?_|refine LeO.bind ?_ (fun _=> ?_))|exact LeO.none _|refine LeO.ite ?_ ?_|refine LeO.bind ?_ (fun _=> ?_)
set_option maxHeartbeats 40000000 in
set_option maxRecDepth 100000 in
theorem spec_l39Machine.calls (k:Nat) (g:Nat) (s0_0:List Int) (s0_1:Int) (s0_2:Int) (r1:List (S33)) (r2:Int) (r3:Int) (r4:Int) (r5:Bool) (r6:Int) (r7:Bool) (r8:Int) (r9:Int) (r10:List Int) (r11:List Int) (r12:Int) (r13:Bool) (r14:Int) (r15:Int) (r16:Int) (w0 w:World) (hI:IsS105 w0 w g s0_0 s0_1 s0_2) (hB:Below w0.heap.size w0 w) (h:spec_l39Machine.f k s0_0 s0_1 s0_2=some (r1,r2,r3,r4,r5,r6,r7,r8,r9,r10,r11,r12,r13,r14,r15,r16)):
    Calls Try.prog 53 #[.pointer (some ⟨g,0,none⟩)] w fun e w'=>∃v0_ v9_ v10_:Value,e=.returned (G #[v0_,V I r2,V I r3,V I r4,O r5,V I r6,O r7,V I r8,V I r9,v9_,v10_,V I r12,O r13,V I r14])∧Kd.R k33 33 w' w.heap.size (fun _=>True) v0_ r1∧Kd.Q (Kd.int .i64) 3 w' w.heap.size (fun k_=>some k_≠(v10_:Value).ownBlock) v9_ r10∧Kd.R (Kd.int .i64) 3 w' w.heap.size (fun k_=>some k_≠(v9_:Value).ownBlock) v10_ r11∧IsS105 w0 w' g s0_0 r15 r16∧Below w0.heap.size w0 w'∧KeepBut w w' g none:=by
  have hu1:=Try.underlying36
  have HI1:=C hI
  have HK:=C (KeepBut.refl w g none)
  have HL:=C hB.size
  clear hI
  have HW1:=C hB.size
  have HB:=C hB
  clear hB
  have H:=h
  unfold spec_l39Machine.f at H
  clear h
  obtain⟨⟨t1,t2,t3⟩,A1,H⟩:=bnd H
  dsimp only at H
  obtain⟨⟨t4,t5,t6,t7,t8,t9,t10,t11,t12,t13,t14,t15,t16,t17,t18⟩,A2,H⟩:=bnd H
  dsimp only at H
  simp only[Option.some.injEq,Prod.mk.injEq]at H
  obtain⟨rfl,rfl,rfl,rfl,rfl,rfl,rfl,rfl,rfl,rfl,rfl,rfl,rfl,rfl,rfl,rfl⟩:=H
  go_enter Try.func53,Try.ntmps53
  go_wp2_with (first|((with_reducible refine J (N:=2) rfl ?_);refine Fix.be 2 #[L none 0 0,V I 0,V I 0,V I 0,O false,V I 0,O false,V I 0,V I 0,L none 0 0,L none 0 0,V I 0,O false,V I 0] 36 ?_;intro gb1 hg w1 BK1 hb;have GW1:=C ((by rw[hg];exact(keep_size (w:=w) (g:=g) (row:=none) (show KeepBut w _ _ _ from uH)):w.heap.size≤gb1));have GE1:=C ((Nat.le_trans HW1.out (by rw[hg];exact(keep_size (w:=w) (g:=g) (row:=none) (show KeepBut w _ _ _ from uH)):w.heap.size≤gb1):w0.heap.size≤gb1));have NB1_586:=C ((by rw[hg];exact Nat.ne_of_lt (IsS105.lt (show IsS105 w0 _ g s0_0 s0_1 s0_2 from by repeat(first|(with_reducible first|exact HI1.out|apply IsS105.alloc|apply IsS105.drewN|apply IsS105.drew|apply IsS105.set_1|apply IsS105.set_2)|exact HI1.out))):g≠gb1));have NB2_0:=C ((by rw[hg];exact Nat.ne_of_gt (IsS105.lt (show IsS105 w0 _ g s0_0 s0_1 s0_2 from by repeat(first|(with_reducible first|exact HI1.out|apply IsS105.alloc|apply IsS105.drewN|apply IsS105.drew|apply IsS105.set_1|apply IsS105.set_2)|exact HI1.out))):gb1≠g));replace HK:=C (KeepBut.trans (show KeepBut w _ _ _ from uH) (KeepBut.of_below hb g none) (.inl rfl));replace HB:=C (below_step (by repeat(first|(with_reducible first|exact HB.out|apply bA|apply bN|apply b1|refine below_set ?_ (IsS105.ge HI1.out))|exact HB.out)) hb);replace HI1:=C (IsS105.below (by repeat(first|(with_reducible first|exact HI1.out|apply IsS105.alloc|apply IsS105.drewN|apply IsS105.drew|apply IsS105.set_1|apply IsS105.set_2)|exact HI1.out)) hb);clear hb hg)|((with_reducible refine F (f:=54) rfl ?_);refine gl 54 (some 8) Try.func54 #[.pointer (some ⟨g,0,none⟩)] ?_;(with_reducible refine(spec_l39List.calls k g s0_0 s0_1 s0_2 t1 t2 t3 w0 _ ?side1 ?side2 A1.out).mono ?_);(case side1=>repeat(first|(with_reducible first|exact HI1.out|apply IsS105.alloc|apply IsS105.drewN|apply IsS105.drew|apply IsS105.set_1|apply IsS105.set_2|refine IsS105.far ?_ NB1_586.out _)|exact HI1.out));(case side2=>repeat(first|(with_reducible first|exact HB.out|apply bA|apply bN|apply b1|refine below_set ?_ (IsS105.ge HI1.out)|refine below_set ?_ GE1.out)|exact HB.out));rintro e w2 ⟨v1,rfl,ho1,hi,hb,hk⟩;refine⟨_,rfl,?_⟩;have HO1:=C (Kd.R_lower ho1 (keep_size (w:=w) (g:=g) (row:=none) (show KeepBut w _ _ _ from uH)));replace BK1:=C (KeepBut.blk hk (g':=gb1) (o:=.cells #[L none 0 0,V I 0,V I 0,V I 0,O false,V I 0,O false,V I 0,V I 0,L none 0 0,L none 0 0,V I 0,O false,V I 0] 36 (0,0)) (uK BK1.out) NB2_0.out (by simp));replace HK:=C (KeepBut.trans (show KeepBut w _ _ _ from uH) hk (.inl rfl));replace HB:=C (hb);replace HI1:=C (hi);clear hb hi hk ho1;obtain⟨Ao1,co1,eo1⟩:=Kd.R_slice HO1.out;subst eo1)|((with_reducible refine F (f:=30) rfl ?_);refine gl 30 (some 9) Try.func30 #[G #[L none 0 0,V I 0,V I 0,V I 0,O false,V I 0,O false,V I 0,V I 0,L none 0 0,L none 0 0,V I 0,O false,V I 0],L Ao1 t1.length co1] ?_;(refine(spec_RunActs.calls k _ _ ([]:List (S33)) 0 0 0 false 0 false 0 0 _ _ ([]:List Int) _ _ ([]:List Int) 0 false 0 _ _ t1 t4 t5 t6 t7 t8 t9 t10 t11 t12 t13 t14 t15 t16 t17 t18 _ ?side1 ?side2 ?side3 ?side4 ?side5 ?side6 ?side7 ?side8 A2.out).mono ?_);(case side1=>exact Kd.C_nil _ _);(case side2=>exact Nat.le_refl _);(case side3=>exact Kd.C_nil _ _);(case side4=>exact Nat.le_refl _);(case side5=>exact Kd.C_nil _ _);(case side6=>exact Nat.le_refl _);(case side7=>exact uC (Kd.R_reads' HO1.out).2.2);(case side8=>exact(Kd.R_reads' HO1.out).2.1);rintro e w3 ⟨v2,v3,v4,v5,rfl,ho1,ho2,ho3,ho4,hb⟩;refine⟨_,rfl,?_⟩;have HO2:=C (Kd.R_lower ho1 (keep_size (w:=w) (g:=g) (row:=none) (show KeepBut w _ _ _ from uH)));have HO3:=C (Kd.Q_lower ho2 (keep_size (w:=w) (g:=g) (row:=none) (show KeepBut w _ _ _ from uH)));have HO4:=C (Kd.R_lower ho3 (keep_size (w:=w) (g:=g) (row:=none) (show KeepBut w _ _ _ from uH)));have HO5:=C (Kd.R_lower ho4 (keep_size (w:=w) (g:=g) (row:=none) (show KeepBut w _ _ _ from uH)));replace HO1:=eR HO1 hb;replace BK1:=eK BK1 hb;replace HK:=C (KeepBut.trans (show KeepBut w _ _ _ from uH) (KeepBut.of_below hb g none) (.inl rfl));replace HB:=C (below_step (by repeat(first|(with_reducible first|exact HB.out|apply bA|apply bN|apply b1|refine below_set ?_ (IsS105.ge HI1.out)|refine below_set ?_ GE1.out)|exact HB.out)) hb);replace HI1:=C (IsS105.below (by repeat(first|(with_reducible first|exact HI1.out|apply IsS105.alloc|apply IsS105.drewN|apply IsS105.drew|apply IsS105.set_1|apply IsS105.set_2|refine IsS105.far ?_ NB1_586.out _)|exact HI1.out)) hb);clear hb ho1 ho2 ho3 ho4)|((with_reducible refine J (N:=3) rfl ?_);refine Fix.be 3 #[L none 0 0,V I 0,V I 0,V I 0,O false,V I 0,O false,V I 0,V I 0,L none 0 0,L none 0 0,V I 0,O false,V I 0] 36 ?_;intro gb2 hg w4 BK2 hb;have GW2:=C ((by rw[hg];exact(keep_size (w:=w) (g:=g) (row:=none) (show KeepBut w _ _ _ from uH)):w.heap.size≤gb2));have GE2:=C ((Nat.le_trans HW1.out (by rw[hg];exact(keep_size (w:=w) (g:=g) (row:=none) (show KeepBut w _ _ _ from uH)):w.heap.size≤gb2):w0.heap.size≤gb2));have NB2_615:=nL hg BK1;have NB3_586:=nG hg BK1;have NB1_615:=C ((by rw[hg];exact Nat.ne_of_lt (IsS105.lt (show IsS105 w0 _ g s0_0 t2 t3 from by repeat(first|(with_reducible first|exact HI1.out|apply IsS105.alloc|apply IsS105.drewN|apply IsS105.drew|apply IsS105.set_1|apply IsS105.set_2|refine IsS105.far ?_ NB1_586.out _)|exact HI1.out))):g≠gb2));have NB3_0:=C ((by rw[hg];exact Nat.ne_of_gt (IsS105.lt (show IsS105 w0 _ g s0_0 t2 t3 from by repeat(first|(with_reducible first|exact HI1.out|apply IsS105.alloc|apply IsS105.drewN|apply IsS105.drew|apply IsS105.set_1|apply IsS105.set_2|refine IsS105.far ?_ NB1_586.out _)|exact HI1.out))):gb2≠g));replace HO1:=eR HO1 hb;replace HO2:=eR HO2 hb;replace HO3:=eQ HO3 hb;replace HO4:=eR HO4 hb;replace HO5:=eR HO5 hb;replace BK1:=eK BK1 hb;replace HK:=C (KeepBut.trans (show KeepBut w _ _ _ from uH) (KeepBut.of_below hb g none) (.inl rfl));replace HB:=C (below_step (by repeat(first|(with_reducible first|exact HB.out|apply bA|apply bN|apply b1|refine below_set ?_ (IsS105.ge HI1.out)|refine below_set ?_ GE1.out)|exact HB.out)) hb);replace HI1:=C (IsS105.below (by repeat(first|(with_reducible first|exact HI1.out|apply IsS105.alloc|apply IsS105.drewN|apply IsS105.drew|apply IsS105.set_1|apply IsS105.set_2|refine IsS105.far ?_ NB1_586.out _)|exact HI1.out)) hb);clear hb hg;obtain⟨Ao2,co2,eo2⟩:=Kd.R_slice HO2.out;subst eo2;have hnb1:=NB3_586.out;have hnc1:=NB2_615.out;have hnb2:=NB3_0.out;have hnc2:=NB1_615.out;obtain⟨hcz1_0,hcz1_1,hcz1_2,hcz1_3,hcz1_4,hcz1_5,hcz1_6,hcz1_7,hcz1_8,hcz1_9,hcz1_10,hcz1_11,hcz1_12,hcz1_13,hfz1_0,hfz1_1,hfz1_2,hfz1_3,hfz1_4,hfz1_5,hfz1_6,hfz1_7,hfz1_8,hfz1_9,hfz1_10,hfz1_11,hfz1_12,hfz1_13⟩:=d14 BK2.out;obtain⟨Ao3,co3,eo3,_⟩:=Kd.Q_slice HO3.out;subst eo3;obtain⟨Ao4,co4,eo4⟩:=Kd.R_slice HO4.out;subst eo4;have hnb3:=NB2_0.out;have hnc3:=NB1_586.out;have h_:=d14 BK1.out;repeat(obtain⟨_,h_⟩:=h_)))
  refine bodyPost_ret (results_cell_row rfl _ _ gb1 36 #[L Ao2 t4.length co2,V I t5,V I t6,V I t7,O t8,V I t9,O t10,V I t11,V I t12,L Ao3 t13.length co3,L Ao4 t14.length co4,V I t15,O t16,V I t17] (0,0) _ rfl (bK BK1.out) Try.underlying36 rfl (by kernel_rfl)) rfl ?_
  exact⟨_,_,_,rE,X (fR (Y (Y HO2.out BK2.out (by decide)) BK1.out (by decide))) (fun _ hk=>trivial),Kd.Q_mono (fQ (Kd.Q_types (Kd.Q_types HO3.out BK2.out (by decide)) BK1.out (by decide))) (fun _ hk=>hk.1.1.1),X (fR (Y (Y HO4.out BK2.out (by decide)) BK1.out (by decide))) (fun _ hk=>hk.1.1.1),by repeat(first|(with_reducible first|exact HI1.out|apply IsS105.alloc|apply IsS105.drewN|apply IsS105.drew|apply IsS105.set_1|apply IsS105.set_2|refine IsS105.far ?_ NB1_586.out _|refine IsS105.far ?_ NB1_615.out _)|exact HI1.out),by repeat(first|(with_reducible first|exact HB.out|apply bA|apply bN|apply b1|refine below_set ?_ (IsS105.ge HI1.out)|refine below_set ?_ GE1.out|refine below_set ?_ GE2.out)|exact HB.out),uH⟩
def spec_DrawActs.f (k:Nat) (l0:List Int):Option ((List (S33))×Int×Int×Int×Bool×Int×Bool×Int×Int×List Int×List Int×Int×Bool×Int×(List (S53))):=(spec_l01New.f k l0).bind fun bt617=>((spec_l39Machine.f k bt617.1 bt617.2.1 bt617.2.2).bind fun bt621=>((spec_l39List.f k bt617.1 bt621.2.2.2.2.2.2.2.2.2.2.2.2.2.2.1 bt621.2.2.2.2.2.2.2.2.2.2.2.2.2.2.2).bind fun bt643=>(some (bt621.1,bt621.2.1,bt621.2.2.1,bt621.2.2.2.1,bt621.2.2.2.2.1,bt621.2.2.2.2.2.1,bt621.2.2.2.2.2.2.1,bt621.2.2.2.2.2.2.2.1,bt621.2.2.2.2.2.2.2.2.1,bt621.2.2.2.2.2.2.2.2.2.1,bt621.2.2.2.2.2.2.2.2.2.2.1,bt621.2.2.2.2.2.2.2.2.2.2.2.1,bt621.2.2.2.2.2.2.2.2.2.2.2.2.1,bt621.2.2.2.2.2.2.2.2.2.2.2.2.2.1,bt643.1))))
theorem spec_DrawActs.mono:∀a0 k,LeO (spec_DrawActs.f k a0) (spec_DrawActs.f (k+1) a0):=by
  intro a0 k
  unfold spec_DrawActs.f
  repeat' first|(with_reducible first|apply spec_l01New.mono|apply spec_l39List.mono|apply spec_l39Machine.mono|exact LeO.refl _|exact LeO.none _|refine LeO.ite ?_ ?_|refine LeO.bind ?_ (fun _=> ?_))|exact LeO.none _|refine LeO.ite ?_ ?_|refine LeO.bind ?_ (fun _=> ?_)
set_option maxHeartbeats 40000000 in
set_option maxRecDepth 100000 in
theorem spec_DrawActs.calls (k:Nat) (A0:Option Addr) (c0:Nat) (l0:List Int) (r1:List (S33)) (r2:Int) (r3:Int) (r4:Int) (r5:Bool) (r6:Int) (r7:Bool) (r8:Int) (r9:Int) (r10:List Int) (r11:List Int) (r12:Int) (r13:Bool) (r14:Int) (r15:List (S53)) (w:World) (hr0:Kd.C (Kd.int .u8) w A0 l0.length l0) (hc0:l0.length≤c0) (h:spec_DrawActs.f k l0=some (r1,r2,r3,r4,r5,r6,r7,r8,r9,r10,r11,r12,r13,r14,r15)):
    Calls Try.prog 15 #[L A0 l0.length c0] w fun e w'=>∃v0_ v9_ v10_ v14_:Value,e=.returned (.tuple #[G #[v0_,V I r2,V I r3,V I r4,O r5,V I r6,O r7,V I r8,V I r9,v9_,v10_,V I r12,O r13,V I r14],v14_])∧Kd.R k33 33 w' w.heap.size (fun _=>True) v0_ r1∧Kd.Q (Kd.int .i64) 3 w' w.heap.size (fun k_=>some k_≠(v10_:Value).ownBlock) v9_ r10∧Kd.R (Kd.int .i64) 3 w' w.heap.size (fun k_=>some k_≠(v9_:Value).ownBlock) v10_ r11∧Kd.R k53 53 w' w.heap.size (fun _=>True) v14_ r15∧Below w.heap.size w w':=by
  have hu1:=Try.underlying36
  have HR1:=C hr0
  have HC1:=C hc0
  (try clear hr0);(try clear hc0)
  have HB:=C (Below.refl w.heap.size w)
  have H:=h
  unfold spec_DrawActs.f at H
  clear h
  obtain⟨⟨t1,t2,t3⟩,A1,H⟩:=bnd H
  dsimp only at H
  obtain⟨⟨t4,t5,t6,t7,t8,t9,t10,t11,t12,t13,t14,t15,t16,t17,t18,t19⟩,A2,H⟩:=bnd H
  dsimp only at H
  obtain⟨⟨t20,t21,t22⟩,A3,H⟩:=bnd H
  dsimp only at H
  simp only[Option.some.injEq,Prod.mk.injEq]at H
  obtain⟨rfl,rfl,rfl,rfl,rfl,rfl,rfl,rfl,rfl,rfl,rfl,rfl,rfl,rfl,rfl⟩:=H
  go_enter Try.func15,Try.ntmps15
  go_wp2_with (first|((with_reducible refine J (N:=2) rfl ?_);refine Fix.be 2 #[L none 0 0,V I 0,V I 0,V I 0,O false,V I 0,O false,V I 0,V I 0,L none 0 0,L none 0 0,V I 0,O false,V I 0] 36 ?_;intro gb1 hg w1 BK1 hb;have GW1:D (w.heap.size≤gb1):=gE hg;have GE1:=GW1;replace HB:=eB hb;clear hb hg)|((with_reducible refine F (f:=52) rfl ?_);refine gl 52 (some 6) Try.func52 #[L A0 l0.length c0] ?_;(with_reducible refine(spec_l01New.calls k _ _ l0 t1 t2 t3 w _ ?side1 ?side2 ?side3 A1.out).mono ?_);(case side1=>exact uB);(case side2=>exact HR1.out);(case side3=>exact HC1.out);rintro e w2 ⟨g1,rfl,hi,hb,hb1⟩;refine⟨_,rfl,?_⟩;have HI1:=C (hi);have NB1_616:=C (IsS105.ne_blk hi (blk_below (g:=gb1) (o:=.cells #[L none 0 0,V I 0,V I 0,V I 0,O false,V I 0,O false,V I 0,V I 0,L none 0 0,L none 0 0,V I 0,O false,V I 0] 36 (0,0)) (uK BK1.out) hb1) (by decide));have NB2_620:=C (Ne.symm (IsS105.ne_blk hi (blk_below (g:=gb1) (o:=.cells #[L none 0 0,V I 0,V I 0,V I 0,O false,V I 0,O false,V I 0,V I 0,L none 0 0,L none 0 0,V I 0,O false,V I 0] 36 (0,0)) (uK BK1.out) hb1) (by decide)));replace BK1:=eK BK1 hb1;replace HB:=C (hb);clear hb hb1 hi)|((with_reducible refine F (f:=53) rfl ?_);refine gl 53 (some 8) Try.func53 #[.pointer (some ⟨g1,0,none⟩)] ?_;(with_reducible refine(spec_l39Machine.calls k g1 t1 t2 t3 t4 t5 t6 t7 t8 t9 t10 t11 t12 t13 t14 t15 t16 t17 t18 t19 w _ ?side1 ?side2 A2.out).mono ?_);(case side1=>repeat(first|(with_reducible first|exact HI1.out|apply IsS105.alloc|apply IsS105.drewN|apply IsS105.drew|apply IsS105.set_1|apply IsS105.set_2|refine IsS105.far ?_ NB1_616.out _)|exact HI1.out));(case side2=>repeat(first|(with_reducible first|exact HB.out|apply bA|apply bN|apply b1|refine below_set ?_ (IsS105.ge HI1.out)|refine below_set ?_ GE1.out)|exact HB.out));rintro e w3 ⟨v1,v2,v3,rfl,ho1,ho2,ho3,hi,hb,hk⟩;refine⟨_,rfl,?_⟩;have HO1:=C (Kd.R_lower ho1 (below_size (by repeat(first|(with_reducible first|exact HB.out|apply bA|apply bN|apply b1|refine below_set ?_ (IsS105.ge HI1.out)|refine below_set ?_ GE1.out)|exact HB.out))));have HO2:=C (Kd.Q_lower ho2 (below_size (by repeat(first|(with_reducible first|exact HB.out|apply bA|apply bN|apply b1|refine below_set ?_ (IsS105.ge HI1.out)|refine below_set ?_ GE1.out)|exact HB.out))));have HO3:=C (Kd.R_lower ho3 (below_size (by repeat(first|(with_reducible first|exact HB.out|apply bA|apply bN|apply b1|refine below_set ?_ (IsS105.ge HI1.out)|refine below_set ?_ GE1.out)|exact HB.out))));replace BK1:=C (KeepBut.blk hk (g':=gb1) (o:=.cells #[L none 0 0,V I 0,V I 0,V I 0,O false,V I 0,O false,V I 0,V I 0,L none 0 0,L none 0 0,V I 0,O false,V I 0] 36 (0,0)) (uK BK1.out) NB2_620.out (by simp));replace HB:=C (hb);replace HI1:=C (hi);clear hb hi hk ho1 ho2 ho3)|((with_reducible refine F (f:=54) rfl ?_);refine gl 54 (some 10) Try.func54 #[.pointer (some ⟨g1,0,none⟩)] ?_;(with_reducible refine(spec_l39List.calls k g1 t1 t18 t19 t20 t21 t22 w _ ?side1 ?side2 A3.out).mono ?_);(case side1=>repeat(first|(with_reducible first|exact HI1.out|apply IsS105.alloc|apply IsS105.drewN|apply IsS105.drew|apply IsS105.set_1|apply IsS105.set_2|refine IsS105.far ?_ NB1_616.out _)|exact HI1.out));(case side2=>repeat(first|(with_reducible first|exact HB.out|apply bA|apply bN|apply b1|refine below_set ?_ (IsS105.ge HI1.out)|refine below_set ?_ GE1.out)|exact HB.out));rintro e w4 ⟨v4,rfl,ho1,hi,hb,hk⟩;refine⟨_,rfl,?_⟩;have HO4:=C (Kd.R_lower ho1 (below_size (by repeat(first|(with_reducible first|exact HB.out|apply bA|apply bN|apply b1|refine below_set ?_ (IsS105.ge HI1.out)|refine below_set ?_ GE1.out)|exact HB.out))));replace BK1:=C (KeepBut.blk hk (g':=gb1) (o:=.cells #[L none 0 0,V I 0,V I 0,V I 0,O false,V I 0,O false,V I 0,V I 0,L none 0 0,L none 0 0,V I 0,O false,V I 0] 36 (0,0)) (uK BK1.out) NB2_620.out (by simp));replace HO1:=C (X (Kd.R_keep (IsS105.apart (show IsS105 w _ g1 t1 t18 t19 from by repeat(first|(with_reducible first|exact HI1.out|apply IsS105.alloc|apply IsS105.drewN|apply IsS105.drew|apply IsS105.set_1|apply IsS105.set_2|refine IsS105.far ?_ NB1_616.out _)|exact HI1.out)) (uR HO1.out) (by decide)) hk (fun _ h=>h.2)) (fun _ h=>h.1));replace HO2:=C (Kd.Q_mono (Kd.Q_keep (IsS105.apartQ (show IsS105 w _ g1 t1 t18 t19 from by repeat(first|(with_reducible first|exact HI1.out|apply IsS105.alloc|apply IsS105.drewN|apply IsS105.drew|apply IsS105.set_1|apply IsS105.set_2|refine IsS105.far ?_ NB1_616.out _)|exact HI1.out)) (uQ HO2.out) (by decide)) hk (fun _ h=>h.2)) (fun _ h=>h.1));replace HO3:=C (X (Kd.R_keep (IsS105.apart (show IsS105 w _ g1 t1 t18 t19 from by repeat(first|(with_reducible first|exact HI1.out|apply IsS105.alloc|apply IsS105.drewN|apply IsS105.drew|apply IsS105.set_1|apply IsS105.set_2|refine IsS105.far ?_ NB1_616.out _)|exact HI1.out)) (uR HO3.out) (by decide)) hk (fun _ h=>h.2)) (fun _ h=>h.1));replace HB:=C (hb);replace HI1:=C (hi);clear hb hi hk ho1;obtain⟨Ao1,co1,eo1⟩:=Kd.R_slice HO1.out;subst eo1;have hnb1:=NB2_620.out;have hnc1:=NB1_616.out;have h_:=d14 BK1.out;repeat(obtain⟨_,h_⟩:=h_);obtain⟨Ao2,co2,eo2,_⟩:=Kd.Q_slice HO2.out;subst eo2;obtain⟨Ao3,co3,eo3⟩:=Kd.R_slice HO3.out;subst eo3))
  refine bodyPost_ret (results_ct rfl _ _ gb1 36 #[L Ao1 t4.length co1,V I t5,V I t6,V I t7,O t8,V I t9,O t10,V I t11,V I t12,L Ao2 t13.length co2,L Ao3 t14.length co3,V I t15,O t16,V I t17] (0,0) _ rfl (bK BK1.out) Try.underlying36 rfl (by kernel_rfl)) rfl ?_
  exact⟨_,_,_,_,rE,X (fR (Y HO1.out BK1.out (by decide))) (fun _ hk=>trivial),Kd.Q_mono (fQ (Kd.Q_types HO2.out BK1.out (by decide))) (fun _ hk=>hk.1),X (fR (Y HO3.out BK1.out (by decide))) (fun _ hk=>hk.1),X (fR (Y HO4.out BK1.out (by decide))) (fun _ hk=>trivial),by repeat(first|(with_reducible first|exact HB.out|apply bA|apply bN|apply b1|refine below_set ?_ (IsS105.ge HI1.out)|refine below_set ?_ GE1.out)|exact HB.out)⟩
def impl_Job_89.f (l0:List (S33)):Option ((List (S33))):=(some (([]:List (S33)):List (S33))).bind fun y648=>(if y648.length+l0.length<2932031007402 then(some (y648++l0)) else(none))
set_option maxHeartbeats 40000000 in
set_option maxRecDepth 100000 in
theorem impl_Job_89.calls (A0:Option Addr) (c0:Nat) (l0:List (S33)) (r:List (S33)) (w:World) (hr0:Kd.C k33 w A0 l0.length l0) (hc0:l0.length≤c0) (h:impl_Job_89.f l0=some r):
    Calls Try.prog 89 #[L A0 l0.length c0] w fun e w'=>∃v0_:Value,e=.returned (v0_)∧Kd.R k33 33 w' w.heap.size (fun _=>True) v0_ r∧Below w.heap.size w w':=by
  rcases A0 with _|ad1
  · have hl1:l0= []:=Ext.nil_of_C hr0
    subst hl1
    have hr_:r= []:=by have h1:=h;simp[impl_Job_89.f]at h1;exact h1
    subst hr_
    have hq:=fun (W:World)=>Go.run_eql_slice_nil W 32 33 none 0 c0 Try.underlying32
    simp only[Option.isNone_none]at hq
    go_enter Try.func89,Try.ntmps89
    go_wp2
    go_ret
    exact⟨_,rfl,Kd.R_nil _ _ _ _ _,by repeat(first|exact Below.refl _ _|apply bA|apply bN)⟩
  have hq:=fun (W:World)=>Go.run_eql_slice_nil W 32 33 (some ad1) l0.length c0 Try.underlying32
  simp only[Option.isNone_some]at hq
  have HR1:=C hr0
  have HC1:=C hc0
  (try clear hr0);(try clear hc0)
  have HB:=C (Below.refl w.heap.size w)
  have H:=h
  unfold impl_Job_89.f at H
  clear h
  obtain⟨y1,hy1⟩:∃y_:List (S33),y_=(([]:List (S33))):=⟨_,rfl⟩
  replace H:(if y1.length+l0.length<2932031007402 then(some (y1++l0)) else(none))=some r:=by first|(rw[hy1];with_reducible exact H)|(have H1_:=(Option.bind_some _ _).symm.trans H;rw[hy1];with_reducible exact H1_)|(have H1_:=(Option.bind_some _ _).symm.trans H;with_reducible exact H1_)|with_reducible exact H|(rw[hy1];exact H)|exact H
  have Ny1:=C hy1
  clear hy1
  by_cases c1:y1.length+l0.length<2932031007402
  · rw[if_pos c1]at H
    have LMc1:=C c1
    clear c1
    obtain⟨y2,hy2⟩:∃y_:List (S33),y_=(y1++l0):=⟨_,rfl⟩
    replace H:(some y2)=some r:=by first|(rw[hy2];with_reducible exact H)|(have H1_:=(Option.bind_some _ _).symm.trans H;rw[hy2];with_reducible exact H1_)|(have H1_:=(Option.bind_some _ _).symm.trans H;with_reducible exact H1_)|with_reducible exact H|(rw[hy2];exact H)|exact H
    have Ny2:=C hy2
    clear hy2
    obtain rfl:=Option.some.inj H
    go_enter Try.func89,Try.ntmps89
    go_wp2_with (first|((with_reducible refine J (N:=5) rfl ?_);refine Kd.R_lit k33 _ 33 ?hg (N:=5) ?hd (xs:=([]:List (S33))) (inner:= []) (ok:=fun _=>True) (okp:=fun _=>True) ?hr ?hp (fun _ hk=>hk) trivial (Below.refl _ _) (Nat.le_refl _) (by simp) ?_;(case hd=>rfl);(case hg=>rfl);(case hr=>exact Fix.hr);(case hp=>exact(Reps.none _ _));intro v1 w1 ho1 hb hg_ hnew_;clear hg_ hnew_;(first|rw[←Ny1.out]at ho1|(simp only[Int.reduceToNat]at ho1;rw[←Ny1.out]at ho1));have HO1:=lR ho1;replace HB:=eB hb;clear hb ho1)|((with_reducible refine gate_builtin (b:=.append) (xs:= #[.tmp 5,.tmp 6]) rfl ?_);at_builtin;refine Kd.R_append_rows k33 (w0:=w) w.heap.size rfl (.tmp 5) (.tmp 6) 32 33 (G #[(V I 0),(V I 0),(V I 0),(O false),(V I 0),(O false)]) 48 rfl Try.underlying32 info33 rfl (by decide) (by omega) v1 y1 l0 _ _ _ (fun _=>True) (fun _=>False) rfl rfl ?aO ?aR (fun _ _ h=>h) (fun _ h=>h.elim) ?aF ?aB ?aS ?aL ?_;(case aR=>exact uC (Kd.C_below HR1.out HB.out));(case aB=>exact uB);(case aF=>exact(fun _ _=>trivial));(case aO=>exact(uR HO1.out));(case aS=>exact(below_size uB));(case aL=>have:=LMc1.out;omega);intro v2 w2 ho hb hg hat;rw[←Ny2.out]at ho;have HO2:=C (ho);replace HB:=C (hb);clear HO1;clear ho hb hg hat))
    go_ret
    exact⟨_,rE,fR HO2.out,uB⟩
  · rw[if_neg c1]at H
    exact absurd H (by simp)
def slices_Clone_int_int.f (l0:List Int):Option (List Int):=(some (([]:List Int):List Int)).bind fun y654=>(if y654.length+l0.length<17592186044416 then(some (y654++l0)) else(none))
set_option maxHeartbeats 40000000 in
set_option maxRecDepth 100000 in
theorem slices_Clone_int_int.calls (A0:Option Addr) (c0:Nat) (l0:List Int) (r:List Int) (w:World) (hr0:Kd.C (Kd.int .i64) w A0 l0.length l0) (hc0:l0.length≤c0) (h:slices_Clone_int_int.f l0=some r):
    Calls Try.prog 105 #[L A0 l0.length c0] w fun e w'=>∃v0_:Value,e=.returned (v0_)∧Kd.R (Kd.int .i64) 3 w' w.heap.size (fun _=>True) v0_ r∧Below w.heap.size w w':=by
  rcases A0 with _|ad1
  · have hl1:l0= []:=Ext.nil_of_C hr0
    subst hl1
    have hr_:r= []:=by have h1:=h;simp[slices_Clone_int_int.f]at h1;exact h1
    subst hr_
    have hq:=fun (W:World)=>Go.run_eql_slice_nil W 25 3 none 0 c0 Try.underlying25
    simp only[Option.isNone_none]at hq
    go_enter Try.func105,Try.ntmps105
    go_wp2
    go_ret
    exact⟨_,rfl,Kd.R_nil _ _ _ _ _,by repeat(first|exact Below.refl _ _|apply bA|apply bN)⟩
  have hq:=fun (W:World)=>Go.run_eql_slice_nil W 25 3 (some ad1) l0.length c0 Try.underlying25
  simp only[Option.isNone_some]at hq
  have HR1:=C hr0
  have HC1:=C hc0
  (try clear hr0);(try clear hc0)
  have HB:=C (Below.refl w.heap.size w)
  have H:=h
  unfold slices_Clone_int_int.f at H
  clear h
  obtain⟨y1,hy1⟩:∃y_:List Int,y_=(([]:List Int)):=⟨_,rfl⟩
  replace H:(if y1.length+l0.length<17592186044416 then(some (y1++l0)) else(none))=some r:=by first|(rw[hy1];with_reducible exact H)|(have H1_:=(Option.bind_some _ _).symm.trans H;rw[hy1];with_reducible exact H1_)|(have H1_:=(Option.bind_some _ _).symm.trans H;with_reducible exact H1_)|with_reducible exact H|(rw[hy1];exact H)|exact H
  have Ny1:=C hy1
  clear hy1
  by_cases c1:y1.length+l0.length<17592186044416
  · rw[if_pos c1]at H
    have LMc1:=C c1
    clear c1
    obtain⟨y2,hy2⟩:∃y_:List Int,y_=(y1++l0):=⟨_,rfl⟩
    replace H:(some y2)=some r:=by first|(rw[hy2];with_reducible exact H)|(have H1_:=(Option.bind_some _ _).symm.trans H;rw[hy2];with_reducible exact H1_)|(have H1_:=(Option.bind_some _ _).symm.trans H;with_reducible exact H1_)|with_reducible exact H|(rw[hy2];exact H)|exact H
    have Ny2:=C hy2
    clear hy2
    obtain rfl:=Option.some.inj H
    go_enter Try.func105,Try.ntmps105
    go_wp2_with (first|((with_reducible refine J (N:=5) rfl ?_);refine Kd.R_lit (Kd.int .i64) _ 3 ?hg (N:=5) ?hd (xs:=([]:List Int)) (inner:= []) (ok:=fun _=>True) (okp:=fun _=>True) ?hr ?hp (fun _ hk=>hk) trivial (Below.refl _ _) (Nat.le_refl _) (by simp) ?_;(case hd=>rfl);(case hg=>rfl);(case hr=>exact Fix.hr);(case hp=>exact(Reps.none _ _));intro v1 w1 ho1 hb hg_ hnew_;clear hg_ hnew_;(first|rw[←Ny1.out]at ho1|(simp only[Int.reduceToNat]at ho1;rw[←Ny1.out]at ho1));have HO1:=lR ho1;replace HB:=eB hb;clear hb ho1)|((with_reducible refine gate_builtin (b:=.append) (xs:= #[.tmp 5,.tmp 6]) rfl ?_);at_builtin;refine Kd.R_append_rows (Kd.int .i64) (w0:=w) w.heap.size rfl (.tmp 5) (.tmp 6) 25 3 (V I 0) 8 rfl Try.underlying25 info3 rfl (by decide) (by omega) v1 y1 l0 _ _ _ (fun _=>True) (fun _=>False) rfl rfl ?aO ?aR (fun _ _ h=>h) (fun _ h=>h.elim) ?aF ?aB ?aS ?aL ?_;(case aR=>exact uC (Kd.C_below HR1.out HB.out));(case aB=>exact uB);(case aF=>exact(fun _ _=>trivial));(case aO=>exact(uR HO1.out));(case aS=>exact(below_size uB));(case aL=>have:=LMc1.out;omega);intro v2 w2 ho hb hg hat;rw[←Ny2.out]at ho;have HO2:=C (ho);replace HB:=C (hb);clear HO1;clear ho hb hg hat))
    go_ret
    exact⟨_,rE,fR HO2.out,uB⟩
  · rw[if_neg c1]at H
    exact absurd H (by simp)
def impl_copyLine.f (a0_0:Int) (a0_1:Int) (l0_2:List Int) (l0_3:List Int) (a0_4:Int) (a0_5:Bool):Option (Int×Int×List Int×List Int×Int×Bool):=(slices_Clone_int_int.f l0_2).bind fun t662=>((slices_Clone_int_int.f l0_3).bind fun t665=>(some (a0_0,a0_1,t662,t665,a0_4,a0_5)))
def impl_copyLine.T1:Bool×List (List Nat×List Nat):=(true,[([],[]),([0],[0]),([1],[1]),([],[]),([3],[3]),([4,2],[4]),([0,1,2,3,4],[]),([6,2,5,0,1,2,3,4],[2,6]),([0,1,2,3,4,5,6,7],[]),([8,5,7,0,1,2,3,4,5,6,7],[5,8])])
def impl_copyLine.B1:List Nat:= [0,1,3,0,8,31,31,127,255,511]
theorem impl_copyLine.tab1:rtab .any (opsOf Try.f90 1)=impl_copyLine.T1:=by kernel_rfl
theorem impl_copyLine.bits1:waitsOk impl_copyLine.T1.2 impl_copyLine.B1=true:=by kernel_rfl
set_option maxHeartbeats 40000000 in
set_option maxRecDepth 100000 in
theorem impl_copyLine.calls (a0_0:Int) (a0_1:Int) (A0_2:Option Addr) (c0_2:Nat) (l0_2:List Int) (A0_3:Option Addr) (c0_3:Nat) (l0_3:List Int) (a0_4:Int) (a0_5:Bool) (r1:Int) (r2:Int) (r3:List Int) (r4:List Int) (r5:Int) (r6:Bool) (w:World) (hr0_2:Kd.C (Kd.int .i64) w A0_2 l0_2.length l0_2) (hc0_2:l0_2.length≤c0_2) (hr0_3:Kd.C (Kd.int .i64) w A0_3 l0_3.length l0_3) (hc0_3:l0_3.length≤c0_3) (h:impl_copyLine.f a0_0 a0_1 l0_2 l0_3 a0_4 a0_5=some (r1,r2,r3,r4,r5,r6)):
    Calls Try.prog 90 #[G #[V I a0_0,V I a0_1,L A0_2 l0_2.length c0_2,L A0_3 l0_3.length c0_3,V I a0_4,O a0_5]] w fun e w'=>∃v2_ v3_:Value,e=.returned (G #[V I r1,V I r2,v2_,v3_,V I r5,O r6])∧Kd.R (Kd.int .i64) 3 w' w.heap.size (fun k_=>some k_≠(v3_:Value).ownBlock) v2_ r3∧Kd.R (Kd.int .i64) 3 w' w.heap.size (fun k_=>some k_≠(v2_:Value).ownBlock) v3_ r4∧Below w.heap.size w w':=by
  have hu1:=Try.underlying34
  have HR1_2:=C hr0_2
  have HC1_2:=C hc0_2
  (try clear hr0_2);(try clear hc0_2)
  have HR1_3:=C hr0_3
  have HC1_3:=C hc0_3
  (try clear hr0_3);(try clear hc0_3)
  have HB:=C (Below.refl w.heap.size w)
  have H:=h
  unfold impl_copyLine.f at H
  clear h
  obtain⟨t1,A1,H⟩:=bnd H
  obtain⟨t2,A2,H⟩:=bnd H
  simp only[Option.some.injEq,Prod.mk.injEq]at H
  obtain⟨rfl,rfl,rfl,rfl,rfl,rfl⟩:=H
  go_enter Try.func90,Try.ntmps90
  try go_wp2_with (first|((with_reducible refine J (N:=1) rfl ?_);refine Fix.be 1 #[V I a0_0,V I a0_1,L A0_2 l0_2.length c0_2,L A0_3 l0_3.length c0_3,V I a0_4,O a0_5] 34 ?_;intro gb1 hg w2 BK1 hb;have GW1:D (w.heap.size≤gb1):=gE hg;have GE1:=GW1;replace HB:=eB hb;clear hb hg)|((with_reducible refine J (N:=2) rfl ?_);refine Fix.be 2 #[V I 0,V I 0,L none 0 0,L none 0 0,V I 0,O false] 34 ?_;intro gb2 hg w3 BK2 hb;have GW2:D (w.heap.size≤gb2):=gE hg;have GE2:=GW2;have NB1_661:=nL hg BK1;have NB2_660:=nG hg BK1;replace BK1:=eK BK1 hb;replace HB:=eB hb;clear hb hg))
  replace BK1:=dK BK1
  replace BK2:=dK BK2
  replace HB:=dB HB
  refine start_ (n:=10) (S:=fun w'=>cl6 w' gb1 (V I a0_0) (V I a0_1) (L A0_2 l0_2.length c0_2) (L A0_3 l0_3.length c0_3) (V I a0_4) (O a0_5)) (ds:= [7,9]) #[false,false,false,false,false,false,false,false,false,false] (by kernel_rfl) rfl rfl hh (fun hHeld=> ?_);refine with_tabW impl_copyLine.tab1 impl_copyLine.bits1 (fun HT_ HW_=> ?_)
  generalize w3.drew=w4 at BK1 BK2 HB hHeld ⊢
  refine pu 0 (some 3) ?_
  refine pu 3 (some 6) ?_
  refine tu 1 (some 4) hHeld ?_
  refine tu 4 (some 7) hHeld ?_
  refine ou 2 (some 5) (fun K hK=> ?_)
  refine gs Try.func105 #[L A0_2 l0_2.length c0_2] ?_
  with_reducible refine(slices_Clone_int_int.calls _ _ l0_2 t1 _ ?side1 ?side2 A1.out).mono ?_
  (case side1=>exact uC (Kd.C_below HR1_2.out HB.out))
  (case side2=>exact HC1_2.out)
  rintro e w5 ⟨v1,rfl,ho1,hb⟩
  refine⟨_,rfl,?_⟩
  have HO1:=lR ho1
  replace BK1:=eK BK1 hb
  replace BK2:=eK BK2 hb
  replace HB:=eB hb
  (try clear hb)
  refine hK.out _ _ hh (fun hHeld=> ?_)
  clear hK K
  refine nu (N:=(some 5)) ?_
  refine pu 6 (some 9) ?_
  refine ou 5 (some 8) (fun K hK=> ?_)
  refine gs Try.func105 #[L A0_3 l0_3.length c0_3] ?_
  with_reducible refine(slices_Clone_int_int.calls _ _ l0_3 t2 _ ?side1 ?side2 A2.out).mono ?_
  (case side1=>exact uC (Kd.C_below HR1_3.out HB.out))
  (case side2=>exact HC1_3.out)
  rintro e w6 ⟨v2,rfl,ho1,hb⟩
  refine⟨_,rfl,?_⟩
  have HO2:=C (Kd.R_lower (Kd.R_new' ho1 (Kd.R_lt (uR HO1.out))) (below_size uB))
  replace HO1:=C (Kd.R_elder' (uR HO1.out) (Kd.R_base ho1) hb)
  replace BK1:=eK BK1 hb
  replace BK2:=eK BK2 hb
  replace HB:=eB hb
  (try clear hb)
  obtain⟨Ao1,co1,eo1⟩:=Kd.R_slice HO1.out
  (first|subst eo1|(injection eo1 with f1_ f2_ f3_;have f4_:=f1_.symm;have f5_:=f3_.symm;clear f1_ f2_ f3_;subst f4_;subst f5_))
  obtain⟨Ao2,co2,eo2⟩:=Kd.R_slice HO2.out
  (first|subst eo2|(injection eo2 with f1_ f2_ f3_;have f4_:=f1_.symm;have f5_:=f3_.symm;clear f1_ f2_ f3_;subst f4_;subst f5_))
  refine hK.out _ _ hh (fun hHeld=> ?_)
  clear hK K
  refine nu (N:=(some 8)) ?_
  refine last_ (i:=7) (N:=none) #[true,true,true,true,true,true,true,true,false,false] rfl rfl (one_of HT_.out (by kernel_rfl)) (by decide) (fun K hK=> ?_)
  have hs1:w6.cell? ⟨gb1,2,none⟩=some (L A0_2 l0_2.length c0_2):=(blk_cell BK1.out 2).trans rfl
  have hfs1:=blk_frozen BK1.out 2
  have hns1_1:=NB2_660.out
  have hms1_1:=NB1_661.out
  refine skip_ (w1:= ?_) (by rfl) rfl ?_ ?_
  rotate_left
  · go_simp
    rfl
  refine hK.out _ _ ?_
  clear hK K
  refine pu 8 (some 10) ?_
  refine last_ (i:=9) (N:=none) #[true,true,true,true,true,true,true,true,true,true] rfl rfl (one_of HT_.out (by kernel_rfl)) (by decide) (fun K hK=> ?_)
  have hs2:w6.cell? ⟨gb1,3,none⟩=some (L A0_3 l0_3.length c0_3):=(blk_cell BK1.out 3).trans rfl
  have hfs2:=blk_frozen BK1.out 3
  have hns2_1:=NB2_660.out
  have hms2_1:=NB1_661.out
  refine skip_ (w1:= ?_) (by rfl) rfl ?_ ?_
  rotate_left
  · go_simp
    rfl
  refine hK.out _ _ ?_
  clear hK K
  refine done_ (done_of HT_.out (by kernel_rfl)) ?_
  have hnb1:=NB1_661.out
  have hnc1:=NB2_660.out
  have h_:=d6 BK1.out;repeat(obtain⟨_,h_⟩:=h_)
  obtain⟨hcz1_0,hcz1_1,hcz1_2,hcz1_3,hcz1_4,hcz1_5,hfz1_0,hfz1_1,hfz1_2,hfz1_3,hfz1_4,hfz1_5⟩:=d6 BK2.out
  try go_wp2
  refine bodyPost_ret (results_cell_row rfl _ _ gb2 34 #[V I a0_0,V I a0_1,L Ao1 t1.length co1,L Ao2 t2.length co2,V I a0_4,O a0_5] (0,0) _ rfl (bK BK2.out) Try.underlying34 rfl (by kernel_rfl)) rfl ?_
  exact⟨_,_,rE,X (fR (Y (Y HO1.out BK1.out (by decide)) BK2.out (by decide))) (fun _ hk=>hk.1.1.2),X (fR (Y (Y HO2.out BK1.out (by decide)) BK2.out (by decide))) (fun _ hk=>hk.1.1.2),uB⟩
def impl_copyMachine.f (l0_0:List (S33)) (a0_1:Int) (a0_2:Int) (a0_3:Int) (a0_4:Bool) (a0_5:Int) (a0_6:Bool) (a0_7:Int) (a0_8:Int) (l0_9:List Int) (l0_10:List Int) (a0_11:Int) (a0_12:Bool) (a0_13:Int):Option ((List (S33))×Int×Int×Int×Bool×Int×Bool×Int×Int×List Int×List Int×Int×Bool×Int):=(impl_Job_89.f l0_0).bind fun t670=>((impl_copyLine.f a0_7 a0_8 l0_9 l0_10 a0_11 a0_12).bind fun bt673=>(some (t670,a0_1,a0_2,a0_3,a0_4,a0_5,a0_6,bt673.1,bt673.2.1,bt673.2.2.1,bt673.2.2.2.1,bt673.2.2.2.2.1,bt673.2.2.2.2.2,a0_13)))
def impl_copyMachine.T1:Bool×List (List Nat×List Nat):=(true,[([],[]),([0],[0]),([1],[1]),([],[]),([3],[3]),([4,2],[4]),([0,1,2,3,4],[]),([6,2,5,0,1,2,3,4],[2,6]),([0,1,2,3,4,5,6,7],[]),([8,5,7,0,1,2,3,4,5,6,7],[5,8])])
def impl_copyMachine.B1:List Nat:= [0,1,3,0,8,31,31,127,255,511]
theorem impl_copyMachine.tab1:rtab .any (opsOf Try.f55 1)=impl_copyMachine.T1:=by kernel_rfl
theorem impl_copyMachine.bits1:waitsOk impl_copyMachine.T1.2 impl_copyMachine.B1=true:=by kernel_rfl
set_option maxHeartbeats 40000000 in
set_option maxRecDepth 100000 in
theorem impl_copyMachine.calls (A0_0:Option Addr) (c0_0:Nat) (l0_0:List (S33)) (a0_1:Int) (a0_2:Int) (a0_3:Int) (a0_4:Bool) (a0_5:Int) (a0_6:Bool) (a0_7:Int) (a0_8:Int) (A0_9:Option Addr) (c0_9:Nat) (l0_9:List Int) (A0_10:Option Addr) (c0_10:Nat) (l0_10:List Int) (a0_11:Int) (a0_12:Bool) (a0_13:Int) (r1:List (S33)) (r2:Int) (r3:Int) (r4:Int) (r5:Bool) (r6:Int) (r7:Bool) (r8:Int) (r9:Int) (r10:List Int) (r11:List Int) (r12:Int) (r13:Bool) (r14:Int) (w:World) (hr0_0:Kd.C k33 w A0_0 l0_0.length l0_0) (hc0_0:l0_0.length≤c0_0) (hr0_9:Kd.C (Kd.int .i64) w A0_9 l0_9.length l0_9) (hc0_9:l0_9.length≤c0_9) (hr0_10:Kd.C (Kd.int .i64) w A0_10 l0_10.length l0_10) (hc0_10:l0_10.length≤c0_10) (h:impl_copyMachine.f l0_0 a0_1 a0_2 a0_3 a0_4 a0_5 a0_6 a0_7 a0_8 l0_9 l0_10 a0_11 a0_12 a0_13=some (r1,r2,r3,r4,r5,r6,r7,r8,r9,r10,r11,r12,r13,r14)):
    Calls Try.prog 55 #[G #[L A0_0 l0_0.length c0_0,V I a0_1,V I a0_2,V I a0_3,O a0_4,V I a0_5,O a0_6,V I a0_7,V I a0_8,L A0_9 l0_9.length c0_9,L A0_10 l0_10.length c0_10,V I a0_11,O a0_12,V I a0_13]] w fun e w'=>∃v0_ v9_ v10_:Value,e=.returned (G #[v0_,V I r2,V I r3,V I r4,O r5,V I r6,O r7,V I r8,V I r9,v9_,v10_,V I r12,O r13,V I r14])∧Kd.R k33 33 w' w.heap.size (fun _=>True) v0_ r1∧Kd.R (Kd.int .i64) 3 w' w.heap.size (fun k_=>some k_≠(v10_:Value).ownBlock) v9_ r10∧Kd.R (Kd.int .i64) 3 w' w.heap.size (fun k_=>some k_≠(v9_:Value).ownBlock) v10_ r11∧Below w.heap.size w w':=by
  have hu1:=Try.underlying36
  have hu2:=Try.underlying34
  have HR1_0:=C hr0_0
  have HC1_0:=C hc0_0
  (try clear hr0_0);(try clear hc0_0)
  have HR1_9:=C hr0_9
  have HC1_9:=C hc0_9
  (try clear hr0_9);(try clear hc0_9)
  have HR1_10:=C hr0_10
  have HC1_10:=C hc0_10
  (try clear hr0_10);(try clear hc0_10)
  have HB:=C (Below.refl w.heap.size w)
  have H:=h
  unfold impl_copyMachine.f at H
  clear h
  obtain⟨t1,A1,H⟩:=bnd H
  obtain⟨⟨t2,t3,t4,t5,t6,t7⟩,A2,H⟩:=bnd H
  dsimp only at H
  simp only[Option.some.injEq,Prod.mk.injEq]at H
  obtain⟨rfl,rfl,rfl,rfl,rfl,rfl,rfl,rfl,rfl,rfl,rfl,rfl,rfl,rfl⟩:=H
  go_enter Try.func55,Try.ntmps55
  try go_wp2_with (first|((with_reducible refine J (N:=1) rfl ?_);refine Fix.be 1 #[L A0_0 l0_0.length c0_0,V I a0_1,V I a0_2,V I a0_3,O a0_4,V I a0_5,O a0_6,V I a0_7,V I a0_8,L A0_9 l0_9.length c0_9,L A0_10 l0_10.length c0_10,V I a0_11,O a0_12,V I a0_13] 36 ?_;intro gb1 hg w2 BK1 hb;have GW1:D (w.heap.size≤gb1):=gE hg;have GE1:=GW1;replace HB:=eB hb;clear hb hg)|((with_reducible refine J (N:=2) rfl ?_);refine Fix.be 2 #[L none 0 0,V I 0,V I 0,V I 0,O false,V I 0,O false,V I 0,V I 0,L none 0 0,L none 0 0,V I 0,O false,V I 0] 36 ?_;intro gb2 hg w3 BK2 hb;have GW2:D (w.heap.size≤gb2):=gE hg;have GE2:=GW2;have NB1_669:=nL hg BK1;have NB2_668:=nG hg BK1;replace BK1:=eK BK1 hb;replace HB:=eB hb;clear hb hg))
  replace BK1:=dK BK1
  replace BK2:=dK BK2
  replace HB:=dB HB
  refine start_ (n:=10) (S:=fun w'=>cl14 w' gb1 (L A0_0 l0_0.length c0_0) (V I a0_1) (V I a0_2) (V I a0_3) (O a0_4) (V I a0_5) (O a0_6) (V I a0_7) (V I a0_8) (L A0_9 l0_9.length c0_9) (L A0_10 l0_10.length c0_10) (V I a0_11) (O a0_12) (V I a0_13)) (ds:= [7,9]) #[false,false,false,false,false,false,false,false,false,false] (by kernel_rfl) rfl rfl hh (fun hHeld=> ?_);refine with_tabW impl_copyMachine.tab1 impl_copyMachine.bits1 (fun HT_ HW_=> ?_)
  generalize w3.drew=w4 at BK1 BK2 HB hHeld ⊢
  refine pu 0 (some 3) ?_
  refine pu 3 (some 6) ?_
  refine tu 1 (some 4) hHeld ?_
  refine tu 4 (some 7) hHeld ?_
  refine ou 2 (some 5) (fun K hK=> ?_)
  refine gs Try.func89 #[L A0_0 l0_0.length c0_0] ?_
  with_reducible refine(impl_Job_89.calls _ _ l0_0 t1 _ ?side1 ?side2 A1.out).mono ?_
  (case side1=>exact uC (Kd.C_below HR1_0.out HB.out))
  (case side2=>exact HC1_0.out)
  rintro e w5 ⟨v1,rfl,ho1,hb⟩
  refine⟨_,rfl,?_⟩
  have HO1:=lR ho1
  replace BK1:=eK BK1 hb
  replace BK2:=eK BK2 hb
  replace HB:=eB hb
  (try clear hb)
  refine hK.out _ _ hh (fun hHeld=> ?_)
  clear hK K
  refine nu (N:=(some 5)) ?_
  refine pu 6 (some 9) ?_
  refine ou 5 (some 8) (fun K hK=> ?_)
  refine gs Try.func90 #[G #[V I a0_7,V I a0_8,L A0_9 l0_9.length c0_9,L A0_10 l0_10.length c0_10,V I a0_11,O a0_12]] ?_
  with_reducible refine(impl_copyLine.calls a0_7 a0_8 _ _ l0_9 _ _ l0_10 a0_11 a0_12 t2 t3 t4 t5 t6 t7 _ ?side1 ?side2 ?side3 ?side4 A2.out).mono ?_
  (case side1=>exact uC (Kd.C_below HR1_9.out HB.out))
  (case side2=>exact HC1_9.out)
  (case side3=>exact uC (Kd.C_below HR1_10.out HB.out))
  (case side4=>exact HC1_10.out)
  rintro e w6 ⟨v2,v3,rfl,ho1,ho2,hb⟩
  refine⟨_,rfl,?_⟩
  have HO2:=lR ho1
  have HO3:=lR ho2
  replace HO1:=eR HO1 hb
  replace BK1:=eK BK1 hb
  replace BK2:=eK BK2 hb
  replace HB:=eB hb
  (try clear hb)
  obtain⟨Ao1,co1,eo1⟩:=Kd.R_slice HO1.out
  (first|subst eo1|(injection eo1 with f1_ f2_ f3_;have f4_:=f1_.symm;have f5_:=f3_.symm;clear f1_ f2_ f3_;subst f4_;subst f5_))
  obtain⟨Ao2,co2,eo2⟩:=Kd.R_slice HO2.out
  (first|subst eo2|(injection eo2 with f1_ f2_ f3_;have f4_:=f1_.symm;have f5_:=f3_.symm;clear f1_ f2_ f3_;subst f4_;subst f5_))
  obtain⟨Ao3,co3,eo3⟩:=Kd.R_slice HO3.out
  (first|subst eo3|(injection eo3 with f1_ f2_ f3_;have f4_:=f1_.symm;have f5_:=f3_.symm;clear f1_ f2_ f3_;subst f4_;subst f5_))
  refine hK.out _ _ hh (fun hHeld=> ?_)
  clear hK K
  refine nu (N:=(some 8)) ?_
  refine last_ (i:=7) (N:=none) #[true,true,true,true,true,true,true,true,false,false] rfl rfl (one_of HT_.out (by kernel_rfl)) (by decide) (fun K hK=> ?_)
  have hs1:w6.cell? ⟨gb1,0,none⟩=some (L A0_0 l0_0.length c0_0):=(blk_cell BK1.out 0).trans rfl
  have hfs1:=blk_frozen BK1.out 0
  have hns1_1:=NB2_668.out
  have hms1_1:=NB1_669.out
  refine skip_ (w1:= ?_) (by rfl) rfl ?_ ?_
  rotate_left
  · go_simp
    rfl
  refine hK.out _ _ ?_
  clear hK K
  refine pu 8 (some 10) ?_
  refine last_ (i:=9) (N:=none) #[true,true,true,true,true,true,true,true,true,true] rfl rfl (one_of HT_.out (by kernel_rfl)) (by decide) (fun K hK=> ?_)
  have hs2:w6.cell? ⟨gb1,7,none⟩=some (V I a0_7):=(blk_cell BK1.out 7).trans rfl
  have hfs2:=blk_frozen BK1.out 7
  have hns2_1:=NB2_668.out
  have hms2_1:=NB1_669.out
  have hs3:w6.cell? ⟨gb1,8,none⟩=some (V I a0_8):=(blk_cell BK1.out 8).trans rfl
  have hfs3:=blk_frozen BK1.out 8
  have hns3_1:=NB2_668.out
  have hms3_1:=NB1_669.out
  have hs4:w6.cell? ⟨gb1,9,none⟩=some (L A0_9 l0_9.length c0_9):=(blk_cell BK1.out 9).trans rfl
  have hfs4:=blk_frozen BK1.out 9
  have hns4_1:=NB2_668.out
  have hms4_1:=NB1_669.out
  have hs5:w6.cell? ⟨gb1,10,none⟩=some (L A0_10 l0_10.length c0_10):=(blk_cell BK1.out 10).trans rfl
  have hfs5:=blk_frozen BK1.out 10
  have hns5_1:=NB2_668.out
  have hms5_1:=NB1_669.out
  have hs6:w6.cell? ⟨gb1,11,none⟩=some (V I a0_11):=(blk_cell BK1.out 11).trans rfl
  have hfs6:=blk_frozen BK1.out 11
  have hns6_1:=NB2_668.out
  have hms6_1:=NB1_669.out
  have hs7:w6.cell? ⟨gb1,12,none⟩=some (O a0_12):=(blk_cell BK1.out 12).trans rfl
  have hfs7:=blk_frozen BK1.out 12
  have hns7_1:=NB2_668.out
  have hms7_1:=NB1_669.out
  refine skip_ (w1:= ?_) (by rfl) rfl ?_ ?_
  rotate_left
  · go_simp
    rfl
  refine hK.out _ _ ?_
  clear hK K
  refine done_ (done_of HT_.out (by kernel_rfl)) ?_
  have hnb1:=NB1_669.out
  have hnc1:=NB2_668.out
  obtain⟨hcz1_0,hcz1_1,hcz1_2,hcz1_3,hcz1_4,hcz1_5,hcz1_6,hcz1_7,hcz1_8,hcz1_9,hcz1_10,hcz1_11,hcz1_12,hcz1_13,hfz1_0,hfz1_1,hfz1_2,hfz1_3,hfz1_4,hfz1_5,hfz1_6,hfz1_7,hfz1_8,hfz1_9,hfz1_10,hfz1_11,hfz1_12,hfz1_13⟩:=d14 BK1.out
  have h_:=d14 BK2.out;repeat(obtain⟨_,h_⟩:=h_)
  try go_wp2
  refine bodyPost_ret (results_cell_row rfl _ _ gb2 36 #[L Ao1 t1.length co1,V I a0_1,V I a0_2,V I a0_3,O a0_4,V I a0_5,O a0_6,V I t2,V I t3,L Ao2 t4.length co2,L Ao3 t5.length co3,V I t6,O t7,V I a0_13] (0,0) _ rfl (bK BK2.out) Try.underlying36 rfl (by kernel_rfl)) rfl ?_
  exact⟨_,_,_,rE,X (fR (Y (Y HO1.out BK1.out (by decide)) BK2.out (by decide))) (fun _ hk=>trivial),X (fR (Y (Y HO2.out BK1.out (by decide)) BK2.out (by decide))) (fun _ hk=>hk.1.1),X (fR (Y (Y HO3.out BK1.out (by decide)) BK2.out (by decide))) (fun _ hk=>hk.1.1),uB⟩
def impl_jobOf.f (a0_0:Int) (a0_1:Int) (a0_2:Int) (a0_3:Int):Option (Int×Int×Int×Bool×Int×Bool):=some (a0_1,a0_2,1,false,a0_3,(a0_3==9))
set_option maxHeartbeats 40000000 in
set_option maxRecDepth 100000 in
theorem impl_jobOf.calls (a0_0:Int) (a0_1:Int) (a0_2:Int) (a0_3:Int) (r1:Int) (r2:Int) (r3:Int) (r4:Bool) (r5:Int) (r6:Bool) (w:World) (h:impl_jobOf.f a0_0 a0_1 a0_2 a0_3=some (r1,r2,r3,r4,r5,r6)):
    Calls Try.prog 69 #[G #[V I a0_0,V I a0_1,V I a0_2,V I a0_3]] w fun e w'=>e=.returned (G #[V I r1,V I r2,V I r3,O r4,V I r5,O r6])∧Below w.heap.size w w':=by
  have hu1:=Try.underlying53
  have hu2:=Try.underlying33
  have HB:=C (Below.refl w.heap.size w)
  have H:=h
  unfold impl_jobOf.f at H
  clear h
  simp only[Option.some.injEq,Prod.mk.injEq]at H
  obtain⟨rfl,rfl,rfl,rfl,rfl,rfl⟩:=H
  go_enter Try.func69,Try.ntmps69
  go_wp2_with (first|((with_reducible refine J (N:=1) rfl ?_);refine Fix.be 1 #[V I a0_0,V I a0_1,V I a0_2,V I a0_3] 53 ?_;intro gb1 hg w1 BK1 hb;have GW1:D (w.heap.size≤gb1):=gE hg;have GE1:=GW1;replace HB:=eB hb;clear hb hg)|((with_reducible refine J (N:=2) rfl ?_);refine Fix.be 2 #[V I 0,V I 0,V I 0,O false,V I 0,O false] 33 ?_;intro gb2 hg w2 BK2 hb;have GW2:D (w.heap.size≤gb2):=gE hg;have GE2:=GW2;have NB1_684:=nL hg BK1;have NB2_683:=nG hg BK1;replace BK1:=eK BK1 hb;replace HB:=eB hb;clear hb hg;have hnb1:=NB1_684.out;have hnc1:=NB2_683.out;obtain⟨hcz1_0,hcz1_1,hcz1_2,hcz1_3,hfz1_0,hfz1_1,hfz1_2,hfz1_3⟩:=d4 BK1.out;have h_:=d6 BK2.out;repeat(obtain⟨_,h_⟩:=h_)))
  refine bodyPost_ret (results_cell_row rfl _ _ gb2 33 #[V I a0_1,V I a0_2,V I 1,O false,V I a0_3,O (a0_3==9)] (0,0) _ rfl (bK BK2.out) Try.underlying33 rfl (by kernel_rfl)) rfl ?_
  exact⟨rE,uB⟩
end Go.Proofs.Ytblceimapaenlaa.PFnScenarios
