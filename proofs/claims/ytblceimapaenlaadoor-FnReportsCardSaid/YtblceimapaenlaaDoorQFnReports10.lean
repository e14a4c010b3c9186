/- FnReports: the functions that the law reaches, each as a plain Lean function, and that a call does what it says. Made by a program of this work (wip/mp.py) out of the kit's print. No condition. -/
import Derived.Test.YtblceimapaenlaaDoorQFnReports0
import Derived.Test.YtblceimapaenlaaDoorQFnReports2
import Derived.Test.YtblceimapaenlaaDoorQFnReports9
namespace Go.Proofs.YtblceimapaenlaaDoor.PFnReports
open Go.RowKit Go.Proofs.YtblceimapaenlaaDoorW.PrintWords Go.Proofs.YtblceimapaenlaaDoorW.PrintLast Go.Proofs.YtblceimapaenlaaDoorW.PrintMore
open Fix (b1 bA bK bN bnd d14 d4 d6 dn1 eB eK eQ eR fQ fR gE gl hx nG nL nm oL rE rS uB uC uH uK uQ uR)
open Go.Value renaming int→V,slice→L,bool→O
open Go.IntKind renaming i64→I
open Go.Proofs.YtblceimapaenlaaDoorW.PrintWords.Aside0 renaming mk→C
open Go.Proofs.YtblceimapaenlaaDoorW.PrintWords renaming Aside0→D,gate_callee→F,gate_dst→J
open Go.Proofs.YtblceimapaenlaaDoorW.PrintWords.Kd renaming R_mono→X
attribute [local go_sem] max2_int min2_int max_two min_two max_three min_three max_four min_four
attribute [local go_sem] Fix.isSome_setCell
set_option linter.unusedVariables false
set_option linter.unusedSimpArgs false
def spec_l01Byte.f (s0_0:List Int) (s0_1:Int) (s0_2:Int):Option (Int×Int×Int):=if s0_1<(s0_0.length:Int) then(if 0≤s0_1 then(some (Go.bits .and .i64 (wrap64 ((Go.bits .and .i64 (Go.bits .xor .i64 ((wrap64 ((wrap64 (s0_2 * 6364136223846793005))+1442695040888963407)) / 8589934592) ((wrap64 ((wrap64 (s0_2 * 6364136223846793005))+1442695040888963407)) / 35184372088832)) 255)+(wrap64 (rd s0_0 s0_1)))) 255,wrap64 (s0_1+1),wrap64 ((wrap64 (s0_2 * 6364136223846793005))+1442695040888963407))) else(none)) else(some (Go.bits .and .i64 (Go.bits .xor .i64 ((wrap64 ((wrap64 (s0_2 * 6364136223846793005))+1442695040888963407)) / 8589934592) ((wrap64 ((wrap64 (s0_2 * 6364136223846793005))+1442695040888963407)) / 35184372088832)) 255,s0_1,wrap64 ((wrap64 (s0_2 * 6364136223846793005))+1442695040888963407)))
theorem spec_l01Byte.W1 {p:Prop} (h:p:=by
    go_enter Tryd.func81,Tryd.ntmps81
    go_wp2
    repeat(go_quiet (fail);try go_wp2)
    go_ret
    exact⟨rE,by repeat(first|(with_reducible first|exact HI1.out|apply IsS102.alloc|apply IsS102.drewN|apply IsS102.drew|apply IsS102.set_1|apply IsS102.set_2)|exact HI1.out),by repeat(first|(with_reducible first|exact HB.out|apply bA|apply bN|apply b1|refine below_set ?_ (IsS102.ge HI1.out))|exact HB.out),uH⟩):p:=h
set_option maxHeartbeats 40000000 in
set_option maxRecDepth 100000 in
theorem spec_l01Byte.calls (g:Nat) (s0_0:List Int) (s0_1:Int) (s0_2:Int) (r1:Int) (r2:Int) (r3:Int) (w0 w:World) (hI:IsS102 w0 w g s0_0 s0_1 s0_2) (hB:Below w0.heap.size w0 w) (h:spec_l01Byte.f s0_0 s0_1 s0_2=some (r1,r2,r3)):
    Calls Tryd.prog 81 #[.pointer (some ⟨g,0,none⟩)] w fun e w'=>e=.returned (V I r1)∧IsS102 w0 w' g s0_0 r2 r3∧Below w0.heap.size w0 w'∧KeepBut w w' g none:=by
  have HI1:=C hI
  have HK:=C (KeepBut.refl w g none)
  have HL:=C hB.size
  clear hI
  have HW1:=C hB.size
  have HB:=C hB
  clear hB
  have H:=h
  unfold spec_l01Byte.f at H
  clear h
  by_cases c1:s0_1<(s0_0.length:Int)
  · rw[if_pos c1]at H
    have c1b0:decide (s0_1<(s0_0.length:Int))=true:=decide_eq_true c1
    clear c1
    by_cases c2:0≤s0_1
    · rw[if_pos c2]at H
      have c2b0:decide (0≤s0_1)=true:=decide_eq_true c2
      clear c2
      simp only[Option.some.injEq,Prod.mk.injEq]at H
      obtain⟨rfl,rfl,rfl⟩:=H
      obtain⟨ASz1_0,cSz1_0,HGz1,hgz1,HSz1_0⟩:=HI1.out
      have hcz1_0:=cellS102_0 HGz1
      have hcz1_1:=cellS102_1 HGz1
      have hcz1_2:=cellS102_2 HGz1
      have hfz1_1:=blk_frozen HGz1 1
      have hfz1_2:=blk_frozen HGz1 2
      clear HGz1 hgz1
      have p1:0≤(s0_1:Int):=of_decide_eq_true (by first|(with_reducible assumption)|assumption)
      have q1:s0_1<(s0_0.length:Int):=of_decide_eq_true (by first|(with_reducible assumption)|assumption)
      obtain⟨ad1,e1,hx1_0⟩:=Kd.at_int HSz1_0 s0_1 p1 q1
      cases e1
      have hn1_0:ad1.block≠g:=Nat.ne_of_lt (Nat.lt_of_lt_of_le (by have:=World.block_lt_of_cell? _ _ hx1_0;first|rwa [add_block]at this|exact this) (IsS102.ge HI1.out))
      replace hx1_0:=pw_cell_below HB.out hx1_0
      replace hx1_0:=(cell_far (p:=⟨g,2,none⟩) (nm hn1_0) (V I (wrap64 ((wrap64 (s0_2 * 6364136223846793005))+1442695040888963407)))).trans hx1_0
      (try have hy1_0:=dn1 hx1_0)
      clear hn1_0
      replace p1:=eq_true p1
      replace q1:=eq_true q1
      exact spec_l01Byte.W1
    · rw[if_neg c2]at H
      exact absurd H (by simp)
  · rw[if_neg c1]at H
    have c1b0:decide (s0_1<(s0_0.length:Int))=false:=decide_eq_false c1
    clear c1
    simp only[Option.some.injEq,Prod.mk.injEq]at H
    obtain⟨rfl,rfl,rfl⟩:=H
    obtain⟨ASz1_0,cSz1_0,HGz1,hgz1,HSz1_0⟩:=HI1.out
    have hcz1_0:=cellS102_0 HGz1
    have hcz1_1:=cellS102_1 HGz1
    have hcz1_2:=cellS102_2 HGz1
    have hfz1_1:=blk_frozen HGz1 1
    have hfz1_2:=blk_frozen HGz1 2
    clear HGz1 hgz1
    exact spec_l01Byte.W1
def spec_l01Below.f (s0_0:List Int) (s0_1:Int) (s0_2:Int) (a1:Int):Option (Int×Int×Int):=if a1≤0 then(some (0,s0_1,s0_2)) else(if a1≤256 then((spec_l01Byte.f s0_0 s0_1 s0_2).bind fun bt484=>(if a1=0 then(none) else(some (Int.tmod bt484.1 a1,bt484.2.1,bt484.2.2)))) else((spec_l01Byte.f s0_0 s0_1 s0_2).bind fun bt487=>((spec_l01Byte.f s0_0 bt487.2.1 bt487.2.2).bind fun bt490=>((spec_l01Byte.f s0_0 bt490.2.1 bt490.2.2).bind fun bt493=>((spec_l01Byte.f s0_0 bt493.2.1 bt493.2.2).bind fun bt496=>(if a1=0 then(none) else(some (Int.tmod (wrap64 ((wrap64 ((wrap64 ((wrap64 (bt487.1 * 16777216))+(wrap64 (bt490.1 * 65536))))+(wrap64 (bt493.1 * 256))))+bt496.1)) a1,bt496.2.1,bt496.2.2))))))))
set_option maxHeartbeats 40000000 in
set_option maxRecDepth 100000 in
theorem spec_l01Below.calls (g:Nat) (s0_0:List Int) (s0_1:Int) (s0_2:Int) (a1:Int) (r1:Int) (r2:Int) (r3:Int) (w0 w:World) (hI:IsS102 w0 w g s0_0 s0_1 s0_2) (hB:Below w0.heap.size w0 w) (h:spec_l01Below.f s0_0 s0_1 s0_2 a1=some (r1,r2,r3)):
    Calls Tryd.prog 56 #[.pointer (some ⟨g,0,none⟩),V I a1] w fun e w'=>e=.returned (V I r1)∧IsS102 w0 w' g s0_0 r2 r3∧Below w0.heap.size w0 w'∧KeepBut w w' g none:=by
  have HI1:=C hI
  have HK:=C (KeepBut.refl w g none)
  have HL:=C hB.size
  clear hI
  have HW1:=C hB.size
  have HB:=C hB
  clear hB
  have H:=h
  unfold spec_l01Below.f at H
  clear h
  by_cases c1:a1≤0
  · rw[if_pos c1]at H
    have c1b0:decide (a1≤0)=true:=decide_eq_true c1
    clear c1
    simp only[Option.some.injEq,Prod.mk.injEq]at H
    obtain⟨rfl,rfl,rfl⟩:=H
    go_enter Tryd.func56,Tryd.ntmps56
    go_wp2
    go_ret
    exact⟨rE,by repeat(first|(with_reducible first|exact HI1.out|apply IsS102.alloc|apply IsS102.drewN|apply IsS102.drew|apply IsS102.set_1|apply IsS102.set_2)|exact HI1.out),by repeat(first|(with_reducible first|exact HB.out|apply bA|apply bN|apply b1|refine below_set ?_ (IsS102.ge HI1.out))|exact HB.out),uH⟩
  · rw[if_neg c1]at H
    have c1b0:decide (a1≤0)=false:=decide_eq_false c1
    clear c1
    by_cases c2:a1≤256
    · rw[if_pos c2]at H
      have c2b0:decide (a1≤256)=true:=decide_eq_true c2
      clear c2
      obtain⟨⟨t1,t2,t3⟩,A1,H⟩:=bnd H
      dsimp only at H
      by_cases c3:a1=0
      · rw[if_pos c3]at H
        exact absurd H (by simp)
      · rw[if_neg c3]at H
        have c3b0:(a1==0)=false:=beq_eq_false_iff_ne.mpr c3
        have c3b1:(a1 !=0)=true:=bne_iff_ne.mpr c3
        simp only[Option.some.injEq,Prod.mk.injEq]at H
        obtain⟨rfl,rfl,rfl⟩:=H
        go_enter Tryd.func56,Tryd.ntmps56
        go_wp2_with (first|((with_reducible refine F (f:=81) rfl ?_);refine gl 81 (some 14) Tryd.func81 #[.pointer (some ⟨g,0,none⟩)] ?_;(with_reducible refine(spec_l01Byte.calls g s0_0 s0_1 s0_2 t1 t2 t3 w0 _ ?side1 ?side2 A1.out).mono ?_);(case side1=>repeat(first|(with_reducible first|exact HI1.out|apply IsS102.alloc|apply IsS102.drewN|apply IsS102.drew|apply IsS102.set_1|apply IsS102.set_2)|exact HI1.out));(case side2=>repeat(first|(with_reducible first|exact HB.out|apply bA|apply bN|apply b1|refine below_set ?_ (IsS102.ge HI1.out))|exact HB.out));rintro e w1 ⟨rfl,hi,hb,hk⟩;refine⟨_,rfl,?_⟩;replace HK:=C (KeepBut.trans (show KeepBut w _ _ _ from uH) hk (.inl rfl));replace HB:=C (hb);replace HI1:=C (hi);clear hb hi hk))
        go_ret
        exact⟨rE,by repeat(first|(with_reducible first|exact HI1.out|apply IsS102.alloc|apply IsS102.drewN|apply IsS102.drew|apply IsS102.set_1|apply IsS102.set_2)|exact HI1.out),by repeat(first|(with_reducible first|exact HB.out|apply bA|apply bN|apply b1|refine below_set ?_ (IsS102.ge HI1.out))|exact HB.out),uH⟩
    · rw[if_neg c2]at H
      have c2b0:decide (a1≤256)=false:=decide_eq_false c2
      clear c2
      obtain⟨⟨t1,t2,t3⟩,A1,H⟩:=bnd H
      dsimp only at H
      obtain⟨⟨t4,t5,t6⟩,A2,H⟩:=bnd H
      dsimp only at H
      obtain⟨⟨t7,t8,t9⟩,A3,H⟩:=bnd H
      dsimp only at H
      obtain⟨⟨t10,t11,t12⟩,A4,H⟩:=bnd H
      dsimp only at H
      by_cases c3:a1=0
      · rw[if_pos c3]at H
        exact absurd H (by simp)
      · rw[if_neg c3]at H
        have c3b0:(a1==0)=false:=beq_eq_false_iff_ne.mpr c3
        have c3b1:(a1 !=0)=true:=bne_iff_ne.mpr c3
        simp only[Option.some.injEq,Prod.mk.injEq]at H
        obtain⟨rfl,rfl,rfl⟩:=H
        go_enter Tryd.func56,Tryd.ntmps56
        go_wp2_with (first|((with_reducible refine F (f:=81) rfl ?_);refine gl 81 (some 18) Tryd.func81 #[.pointer (some ⟨g,0,none⟩)] ?_;(with_reducible refine(spec_l01Byte.calls g s0_0 s0_1 s0_2 t1 t2 t3 w0 _ ?side1 ?side2 A1.out).mono ?_);(case side1=>repeat(first|(with_reducible first|exact HI1.out|apply IsS102.alloc|apply IsS102.drewN|apply IsS102.drew|apply IsS102.set_1|apply IsS102.set_2)|exact HI1.out));(case side2=>repeat(first|(with_reducible first|exact HB.out|apply bA|apply bN|apply b1|refine below_set ?_ (IsS102.ge HI1.out))|exact HB.out));rintro e w1 ⟨rfl,hi,hb,hk⟩;refine⟨_,rfl,?_⟩;replace HK:=C (KeepBut.trans (show KeepBut w _ _ _ from uH) hk (.inl rfl));replace HB:=C (hb);replace HI1:=C (hi);clear hb hi hk)|((with_reducible refine F (f:=81) rfl ?_);refine gl 81 (some 20) Tryd.func81 #[.pointer (some ⟨g,0,none⟩)] ?_;(with_reducible refine(spec_l01Byte.calls g s0_0 t2 t3 t4 t5 t6 w0 _ ?side1 ?side2 A2.out).mono ?_);(case side1=>repeat(first|(with_reducible first|exact HI1.out|apply IsS102.alloc|apply IsS102.drewN|apply IsS102.drew|apply IsS102.set_1|apply IsS102.set_2)|exact HI1.out));(case side2=>repeat(first|(with_reducible first|exact HB.out|apply bA|apply bN|apply b1|refine below_set ?_ (IsS102.ge HI1.out))|exact HB.out));rintro e w2 ⟨rfl,hi,hb,hk⟩;refine⟨_,rfl,?_⟩;replace HK:=C (KeepBut.trans (show KeepBut w _ _ _ from uH) hk (.inl rfl));replace HB:=C (hb);replace HI1:=C (hi);clear hb hi hk)|((with_reducible refine F (f:=81) rfl ?_);refine gl 81 (some 22) Tryd.func81 #[.pointer (some ⟨g,0,none⟩)] ?_;(with_reducible refine(spec_l01Byte.calls g s0_0 t5 t6 t7 t8 t9 w0 _ ?side1 ?side2 A3.out).mono ?_);(case side1=>repeat(first|(with_reducible first|exact HI1.out|apply IsS102.alloc|apply IsS102.drewN|apply IsS102.drew|apply IsS102.set_1|apply IsS102.set_2)|exact HI1.out));(case side2=>repeat(first|(with_reducible first|exact HB.out|apply bA|apply bN|apply b1|refine below_set ?_ (IsS102.ge HI1.out))|exact HB.out));rintro e w3 ⟨rfl,hi,hb,hk⟩;refine⟨_,rfl,?_⟩;replace HK:=C (KeepBut.trans (show KeepBut w _ _ _ from uH) hk (.inl rfl));replace HB:=C (hb);replace HI1:=C (hi);clear hb hi hk)|((with_reducible refine F (f:=81) rfl ?_);refine gl 81 (some 24) Tryd.func81 #[.pointer (some ⟨g,0,none⟩)] ?_;(with_reducible refine(spec_l01Byte.calls g s0_0 t8 t9 t10 t11 t12 w0 _ ?side1 ?side2 A4.out).mono ?_);(case side1=>repeat(first|(with_reducible first|exact HI1.out|apply IsS102.alloc|apply IsS102.drewN|apply IsS102.drew|apply IsS102.set_1|apply IsS102.set_2)|exact HI1.out));(case side2=>repeat(first|(with_reducible first|exact HB.out|apply bA|apply bN|apply b1|refine below_set ?_ (IsS102.ge HI1.out))|exact HB.out));rintro e w4 ⟨rfl,hi,hb,hk⟩;refine⟨_,rfl,?_⟩;replace HK:=C (KeepBut.trans (show KeepBut w _ _ _ from uH) hk (.inl rfl));replace HB:=C (hb);replace HI1:=C (hi);clear hb hi hk))
        go_ret
        exact⟨rE,by repeat(first|(with_reducible first|exact HI1.out|apply IsS102.alloc|apply IsS102.drewN|apply IsS102.drew|apply IsS102.set_1|apply IsS102.set_2)|exact HI1.out),by repeat(first|(with_reducible first|exact HB.out|apply bA|apply bN|apply b1|refine below_set ?_ (IsS102.ge HI1.out))|exact HB.out),uH⟩
mutual
def spec_l39Act.j0:Nat→Int→Bool→List Int→Int→Int→Option (Int×Int×Int×Int×Int×Int)
  |0,_,_,_,_,_=>none
  |k+1,x4,x5,x1000,x1001,x1002=>if x5=true then((spec_l01Below.f x1000 x1001 x1002 9).bind fun bt503=>((spec_l01Below.f x1000 bt503.2.1 bt503.2.2 8).bind fun bt506=>((spec_l01Below.f x1000 bt506.2.1 bt506.2.2 10).bind fun bt509=>(some (1,wrap64 (1+bt503.1),wrap64 (1+bt506.1),bt509.1,bt509.2.1,bt509.2.2))))) else(if x4=2 then(spec_l39Act.j1 k x4 (x4==2) x1000 x1001 x1002) else(spec_l39Act.j1 k x4 (x4==3) x1000 x1001 x1002))
def spec_l39Act.j1:Nat→Int→Bool→List Int→Int→Int→Option (Int×Int×Int×Int×Int×Int)
  |0,_,_,_,_,_=>none
  |k+1,x4,x17,x1000,x1001,x1002=>if x17=true then(some (2,0,0,0,x1001,x1002)) else(if x4=4 then(some (4,0,0,0,x1001,x1002)) else(if x4=5 then((spec_l01Below.f x1000 x1001 x1002 9).bind fun bt512=>(some (5,wrap64 (1+bt512.1),0,0,bt512.2.1,bt512.2.2))) else((spec_l01Below.f x1000 x1001 x1002 5).bind fun bt515=>(some (3,wrap64 (1+bt515.1),0,0,bt515.2.1,bt515.2.2)))))
end
def spec_l39Act.f (k:Nat) (s0_0:List Int) (s0_1:Int) (s0_2:Int):Option (Int×Int×Int×Int×Int×Int):=(spec_l01Below.f s0_0 s0_1 s0_2 8).bind fun bt500=>(if bt500.1=0 then(spec_l39Act.j0 k bt500.1 (bt500.1==0) s0_0 bt500.2.1 bt500.2.2) else(spec_l39Act.j0 k bt500.1 (bt500.1==1) s0_0 bt500.2.1 bt500.2.2))
theorem spec_l39Act.mono_l:∀k,(∀y0 y1 y2 y3 y4,LeO (spec_l39Act.j0 k y0 y1 y2 y3 y4) (spec_l39Act.j0 (k+1) y0 y1 y2 y3 y4))∧(∀y0 y1 y2 y3 y4,LeO (spec_l39Act.j1 k y0 y1 y2 y3 y4) (spec_l39Act.j1 (k+1) y0 y1 y2 y3 y4))
  |0=>⟨fun _ _ _ _ _ r h=>by simp[spec_l39Act.j0]at h,fun _ _ _ _ _ r h=>by simp[spec_l39Act.j1]at h⟩
  |k+1=>by
    obtain⟨ih0,ih1⟩:=spec_l39Act.mono_l k
    refine⟨?_,?_⟩
    · intro y0 y1 y2 y3 y4
      unfold spec_l39Act.j0
      repeat' first|(with_reducible first|apply ih0|apply ih1|exact LeO.refl _|exact LeO.none _|refine LeO.ite ?_ ?_|refine LeO.bind ?_ (fun _=> ?_))|apply ih0|apply ih1|exact LeO.none _|refine LeO.ite ?_ ?_|refine LeO.bind ?_ (fun _=> ?_)
    · intro y0 y1 y2 y3 y4
      unfold spec_l39Act.j1
      repeat' first|(with_reducible first|apply ih0|apply ih1|exact LeO.refl _|exact LeO.none _|refine LeO.ite ?_ ?_|refine LeO.bind ?_ (fun _=> ?_))|apply ih0|apply ih1|exact LeO.none _|refine LeO.ite ?_ ?_|refine LeO.bind ?_ (fun _=> ?_)
theorem spec_l39Act.mono:∀a0 a1 a2 k,LeO (spec_l39Act.f k a0 a1 a2) (spec_l39Act.f (k+1) a0 a1 a2):=by
  intro a0 a1 a2 k
  obtain⟨ih0,ih1⟩:=spec_l39Act.mono_l k
  unfold spec_l39Act.f
  repeat' first|(with_reducible first|apply ih0|apply ih1|exact LeO.refl _|exact LeO.none _|refine LeO.ite ?_ ?_|refine LeO.bind ?_ (fun _=> ?_))|apply ih0|apply ih1|exact LeO.none _|refine LeO.ite ?_ ?_|refine LeO.bind ?_ (fun _=> ?_)
theorem spec_l39Act.W1 {p:Prop} (h:p:=by
    go_wp2
    go_meet
    first
      |(case rel=>exact⟨_,((t1==0)),rS,H',⟨oL⟩,⟨bK BK1.out⟩,⟨by repeat(first|(with_reducible first|exact HI1.out|apply IsS102.alloc|apply IsS102.drewN|apply IsS102.drew|apply IsS102.set_1|apply IsS102.set_2|refine IsS102.far ?_ NB1_499.out _)|exact HI1.out)⟩,⟨uH⟩,⟨by repeat(first|(with_reducible first|exact HB.out|apply bA|apply bN|apply b1|refine below_set ?_ (IsS102.ge HI1.out)|refine below_set ?_ GE1.out)|exact HB.out)⟩⟩)
      |(case rel=>exact⟨_,((t1==1)),rS,H',⟨oL⟩,⟨bK BK1.out⟩,⟨by repeat(first|(with_reducible first|exact HI1.out|apply IsS102.alloc|apply IsS102.drewN|apply IsS102.drew|apply IsS102.set_1|apply IsS102.set_2|refine IsS102.far ?_ NB1_499.out _)|exact HI1.out)⟩,⟨uH⟩,⟨by repeat(first|(with_reducible first|exact HB.out|apply bA|apply bN|apply b1|refine below_set ?_ (IsS102.ge HI1.out)|refine below_set ?_ GE1.out)|exact HB.out)⟩⟩)
      |(case rel=>exact⟨_,((t1==2)),rS,H',⟨by have:=HJ1.out;first|omega|exact Nat.le_refl _⟩,⟨bK BK1.out⟩,⟨by repeat(first|(with_reducible first|exact HI1.out|apply IsS102.alloc|apply IsS102.drewN|apply IsS102.drew|apply IsS102.set_1|apply IsS102.set_2|refine IsS102.far ?_ NB1_499.out _)|exact HI1.out)⟩,⟨uH⟩,⟨by repeat(first|(with_reducible first|exact HB.out|apply bA|apply bN|apply b1|refine below_set ?_ (IsS102.ge HI1.out)|refine below_set ?_ GE1.out)|exact HB.out)⟩⟩)
      |(case rel=>exact⟨_,((t1==3)),rS,H',⟨by have:=HJ1.out;first|omega|exact Nat.le_refl _⟩,⟨bK BK1.out⟩,⟨by repeat(first|(with_reducible first|exact HI1.out|apply IsS102.alloc|apply IsS102.drewN|apply IsS102.drew|apply IsS102.set_1|apply IsS102.set_2|refine IsS102.far ?_ NB1_499.out _)|exact HI1.out)⟩,⟨uH⟩,⟨by repeat(first|(with_reducible first|exact HB.out|apply bA|apply bN|apply b1|refine below_set ?_ (IsS102.ge HI1.out)|refine below_set ?_ GE1.out)|exact HB.out)⟩⟩)):p:=h
theorem spec_l39Act.W2 {p:Prop} (h:p:=by
    go_wp2
    first
      | (refine bodyPost_ret (results_cell_row rfl _ _ gb1 26 #[V I 2, V I 0, V I 0, V I 0] (0, 0) _ rfl (bK BK1.out) Tryd.underlying26 rfl (by kernel_rfl)) rfl ?_
         exact⟨rE,by repeat(first|(with_reducible first|exact HI1.out|apply IsS102.alloc|apply IsS102.drewN|apply IsS102.drew|apply IsS102.set_1|apply IsS102.set_2|refine IsS102.far ?_ NB1_499.out _)|exact HI1.out),by repeat(first|(with_reducible first|exact HB.out|apply bA|apply bN|apply b1|refine below_set ?_ (IsS102.ge HI1.out)|refine below_set ?_ GE1.out)|exact HB.out),uH⟩)
      | (refine bodyPost_ret (results_cell_row rfl _ _ gb1 26 #[V I 4, V I 0, V I 0, V I 0] (0, 0) _ rfl (bK BK1.out) Tryd.underlying26 rfl (by kernel_rfl)) rfl ?_
         exact⟨rE,by repeat(first|(with_reducible first|exact HI1.out|apply IsS102.alloc|apply IsS102.drewN|apply IsS102.drew|apply IsS102.set_1|apply IsS102.set_2|refine IsS102.far ?_ NB1_499.out _)|exact HI1.out),by repeat(first|(with_reducible first|exact HB.out|apply bA|apply bN|apply b1|refine below_set ?_ (IsS102.ge HI1.out)|refine below_set ?_ GE1.out)|exact HB.out),uH⟩)):p:=h
set_option maxHeartbeats 40000000 in
set_option maxRecDepth 100000 in
theorem spec_l39Act.calls (k:Nat) (g:Nat) (s0_0:List Int) (s0_1:Int) (s0_2:Int) (r1:Int) (r2:Int) (r3:Int) (r4:Int) (r5:Int) (r6:Int) (w0 w:World) (hI:IsS102 w0 w g s0_0 s0_1 s0_2) (hB:Below w0.heap.size w0 w) (h:spec_l39Act.f k s0_0 s0_1 s0_2=some (r1,r2,r3,r4,r5,r6)):
    Calls Tryd.prog 69 #[.pointer (some ⟨g,0,none⟩)] w fun e w'=>e=.returned (.agg #[V I r1,V I r2,V I r3,V I r4])∧IsS102 w0 w' g s0_0 r5 r6∧Below w0.heap.size w0 w'∧KeepBut w w' g none:=by
  have hu1:=Tryd.underlying26
  have HI1:=C hI
  have HK:=C (KeepBut.refl w g none)
  have HL:=C hB.size
  clear hI
  have HW1:=C hB.size
  have HB:=C hB
  clear hB
  have H:=h
  unfold spec_l39Act.f at H
  clear h
  obtain⟨⟨t1,t2,t3⟩,A1,H⟩:=bnd H
  dsimp only at H
  have HC1:=C H
  clear H
  go_enter Tryd.func69,Tryd.ntmps69
  go_upto_if 5 with(first|((with_reducible refine J (N:=2) rfl ?_);refine Fix.be 2 #[V I 0,V I 0,V I 0,V I 0] 26 ?_;intro gb1 hg w1 BK1 hb;have GW1:=C ((by rw[hg];exact(keep_size (w:=w) (g:=g) (row:=none) (show KeepBut w _ _ _ from uH)):w.heap.size≤gb1));have GE1:=C ((Nat.le_trans HW1.out (by rw[hg];exact(keep_size (w:=w) (g:=g) (row:=none) (show KeepBut w _ _ _ from uH)):w.heap.size≤gb1):w0.heap.size≤gb1));have NB1_499:=C ((by rw[hg];exact Nat.ne_of_lt (IsS102.lt (show IsS102 w0 _ g s0_0 s0_1 s0_2 from by repeat(first|(with_reducible first|exact HI1.out|apply IsS102.alloc|apply IsS102.drewN|apply IsS102.drew|apply IsS102.set_1|apply IsS102.set_2)|exact HI1.out))):g≠gb1));have NB2_0:=C ((by rw[hg];exact Nat.ne_of_gt (IsS102.lt (show IsS102 w0 _ g s0_0 s0_1 s0_2 from by repeat(first|(with_reducible first|exact HI1.out|apply IsS102.alloc|apply IsS102.drewN|apply IsS102.drew|apply IsS102.set_1|apply IsS102.set_2)|exact HI1.out))):gb1≠g));replace HK:=C (KeepBut.trans (show KeepBut w _ _ _ from uH) (KeepBut.of_below hb g none) (.inl rfl));replace HB:=C (below_step (by repeat(first|(with_reducible first|exact HB.out|apply bA|apply bN|apply b1|refine below_set ?_ (IsS102.ge HI1.out))|exact HB.out)) hb);replace HI1:=C (IsS102.below (by repeat(first|(with_reducible first|exact HI1.out|apply IsS102.alloc|apply IsS102.drewN|apply IsS102.drew|apply IsS102.set_1|apply IsS102.set_2)|exact HI1.out)) hb);clear hb hg)|((with_reducible refine F (f:=56) rfl ?_);refine gl 56 (some 4) Tryd.func56 #[.pointer (some ⟨g,0,none⟩),V I 8] ?_;(with_reducible refine(spec_l01Below.calls g s0_0 s0_1 s0_2 8 t1 t2 t3 w0 _ ?side1 ?side2 A1.out).mono ?_);(case side1=>repeat(first|(with_reducible first|exact HI1.out|apply IsS102.alloc|apply IsS102.drewN|apply IsS102.drew|apply IsS102.set_1|apply IsS102.set_2|refine IsS102.far ?_ NB1_499.out _)|exact HI1.out));(case side2=>repeat(first|(with_reducible first|exact HB.out|apply bA|apply bN|apply b1|refine below_set ?_ (IsS102.ge HI1.out)|refine below_set ?_ GE1.out)|exact HB.out));rintro e w2 ⟨rfl,hi,hb,hk⟩;refine⟨_,rfl,?_⟩;replace BK1:=C (KeepBut.blk hk (g':=gb1) (o:=.cells #[V I 0,V I 0,V I 0,V I 0] 26 (0,0)) (uK BK1.out) NB2_0.out (by simp));replace HK:=C (KeepBut.trans (show KeepBut w _ _ _ from uH) hk (.inl rfl));replace HB:=C (hb);replace HI1:=C (hi);clear hb hi hk))
  (try simp only[Act.put,List.setIfInBounds_toArray,List.set_cons_zero,List.set_cons_succ])
  go_cut [5] (fun v5 wc=>∃(kq:Nat) (x1_2:Bool),v5=O x1_2∧D (spec_l39Act.j0 kq t1 x1_2 s0_0 t2 t3=some (r1,r2,r3,r4,r5,r6))∧D (kq≤k)∧D (wc.heap[gb1]? =some (.cells #[V I 0,V I 0,V I 0,V I 0] 26 (0,0)))∧D (IsS102 w0 wc g s0_0 t2 t3)∧D (KeepBut w wc g none)∧D (Below w0.heap.size w0 wc))
  case first=>
    have H:=HC1.out
    clear HC1
    by_cases c1:t1=0
    · rw[if_pos c1]at H
      have c1b0:(t1==0)=true:=beq_iff_eq.mpr c1
      have c1b1:(t1 !=0)=false:=bne_eq_false_iff_eq.mpr c1
      clear c1
      (first|rw[c1b0]|(simp only[i64_w,i32_w];rw[c1b0])|skip)
      have H':=C H
      clear H
      exact spec_l39Act.W1
    · rw[if_neg c1]at H
      have c1b0:(t1==0)=false:=beq_eq_false_iff_ne.mpr c1
      have c1b1:(t1 !=0)=true:=bne_iff_ne.mpr c1
      (first|rw[c1b0]|(simp only[i64_w,i32_w];rw[c1b0])|skip)
      have H':=C H
      clear H
      exact spec_l39Act.W1
  case rest=>
    clear HC1
    obtain⟨kq,x1_2,rfl,HA,HJ1,BK1,HI1,HK,HB⟩:=hcut
    cases kq with
    |zero=>exact absurd HA.out (by simp[spec_l39Act.j0])
    |succ kj2=>
      have H:=HA.out
      clear HA
      simp only[spec_l39Act.j0]at H
      by_cases c1:x1_2=true
      · subst c1
        rw[if_pos rfl]at H
        obtain⟨⟨t4,t5,t6⟩,A2,H⟩:=bnd H
        dsimp only at H
        obtain⟨⟨t7,t8,t9⟩,A3,H⟩:=bnd H
        dsimp only at H
        obtain⟨⟨t10,t11,t12⟩,A4,H⟩:=bnd H
        dsimp only at H
        simp only[Option.some.injEq,Prod.mk.injEq]at H
        obtain⟨rfl,rfl,rfl,rfl,rfl,rfl⟩:=H
        go_wp2_with (first|((with_reducible refine F (f:=56) rfl ?_);refine gl 56 (some 9) Tryd.func56 #[.pointer (some ⟨g,0,none⟩),V I 9] ?_;(with_reducible refine(spec_l01Below.calls g s0_0 t2 t3 9 t4 t5 t6 w0 _ ?side1 ?side2 A2.out).mono ?_);(case side1=>repeat(first|(with_reducible first|exact HI1.out|apply IsS102.alloc|apply IsS102.drewN|apply IsS102.drew|apply IsS102.set_1|apply IsS102.set_2|refine IsS102.far ?_ NB1_499.out _)|exact HI1.out));(case side2=>repeat(first|(with_reducible first|exact HB.out|apply bA|apply bN|apply b1|refine below_set ?_ (IsS102.ge HI1.out)|refine below_set ?_ GE1.out)|exact HB.out));rintro e w3 ⟨rfl,hi,hb,hk⟩;refine⟨_,rfl,?_⟩;replace BK1:=C (KeepBut.blk hk (g':=gb1) (o:=.cells #[V I 0,V I 0,V I 0,V I 0] 26 (0,0)) (uK BK1.out) NB2_0.out (by simp));replace HK:=C (KeepBut.trans (show KeepBut w _ _ _ from uH) hk (.inl rfl));replace HB:=C (hb);replace HI1:=C (hi);clear hb hi hk)|((with_reducible refine F (f:=56) rfl ?_);refine gl 56 (some 12) Tryd.func56 #[.pointer (some ⟨g,0,none⟩),V I 8] ?_;(with_reducible refine(spec_l01Below.calls g s0_0 t5 t6 8 t7 t8 t9 w0 _ ?side1 ?side2 A3.out).mono ?_);(case side1=>repeat(first|(with_reducible first|exact HI1.out|apply IsS102.alloc|apply IsS102.drewN|apply IsS102.drew|apply IsS102.set_1|apply IsS102.set_2|refine IsS102.far ?_ NB1_499.out _)|exact HI1.out));(case side2=>repeat(first|(with_reducible first|exact HB.out|apply bA|apply bN|apply b1|refine below_set ?_ (IsS102.ge HI1.out)|refine below_set ?_ GE1.out)|exact HB.out));rintro e w4 ⟨rfl,hi,hb,hk⟩;refine⟨_,rfl,?_⟩;replace BK1:=C (KeepBut.blk hk (g':=gb1) (o:=.cells #[V I 0,V I 0,V I 0,V I 0] 26 (0,0)) (uK BK1.out) NB2_0.out (by simp));replace HK:=C (KeepBut.trans (show KeepBut w _ _ _ from uH) hk (.inl rfl));replace HB:=C (hb);replace HI1:=C (hi);clear hb hi hk)|((with_reducible refine F (f:=56) rfl ?_);refine gl 56 (some 15) Tryd.func56 #[.pointer (some ⟨g,0,none⟩),V I 10] ?_;(with_reducible refine(spec_l01Below.calls g s0_0 t8 t9 10 t10 t11 t12 w0 _ ?side1 ?side2 A4.out).mono ?_);(case side1=>repeat(first|(with_reducible first|exact HI1.out|apply IsS102.alloc|apply IsS102.drewN|apply IsS102.drew|apply IsS102.set_1|apply IsS102.set_2|refine IsS102.far ?_ NB1_499.out _)|exact HI1.out));(case side2=>repeat(first|(with_reducible first|exact HB.out|apply bA|apply bN|apply b1|refine below_set ?_ (IsS102.ge HI1.out)|refine below_set ?_ GE1.out)|exact HB.out));rintro e w5 ⟨rfl,hi,hb,hk⟩;refine⟨_,rfl,?_⟩;replace BK1:=C (KeepBut.blk hk (g':=gb1) (o:=.cells #[V I 0,V I 0,V I 0,V I 0] 26 (0,0)) (uK BK1.out) NB2_0.out (by simp));replace HK:=C (KeepBut.trans (show KeepBut w _ _ _ from uH) hk (.inl rfl));replace HB:=C (hb);replace HI1:=C (hi);clear hb hi hk;have hnb1:=NB2_0.out;have hnc1:=NB1_499.out;have h_:=d4 BK1.out;(repeat(obtain⟨_,h_⟩:=h_))))
        refine bodyPost_ret (results_cell_row rfl _ _ gb1 26 #[V I 1,V I (wrap64 (1+t4)),V I (wrap64 (1+t7)),V I t10] (0,0) _ rfl (bK BK1.out) Tryd.underlying26 rfl (by kernel_rfl)) rfl ?_
        exact⟨rE,by repeat(first|(with_reducible first|exact HI1.out|apply IsS102.alloc|apply IsS102.drewN|apply IsS102.drew|apply IsS102.set_1|apply IsS102.set_2|refine IsS102.far ?_ NB1_499.out _)|exact HI1.out),by repeat(first|(with_reducible first|exact HB.out|apply bA|apply bN|apply b1|refine below_set ?_ (IsS102.ge HI1.out)|refine below_set ?_ GE1.out)|exact HB.out),uH⟩
      · replace c1:=Bool.eq_false_iff.mpr c1
        subst c1
        rw[if_neg Bool.false_ne_true]at H
        have HC2:=C H
        clear H
        go_upto_if 17 with(fail)
        go_cut [17] (fun v17 wc=>∃(kq:Nat) (x2_15:Bool),v17=O x2_15∧D (spec_l39Act.j1 kq t1 x2_15 s0_0 t2 t3=some (r1,r2,r3,r4,r5,r6))∧D (kq≤kj2)∧D (wc.heap[gb1]? =some (.cells #[V I 0,V I 0,V I 0,V I 0] 26 (0,0)))∧D (IsS102 w0 wc g s0_0 t2 t3)∧D (KeepBut w wc g none)∧D (Below w0.heap.size w0 wc))
        case first=>
          have H:=HC2.out
          clear HC2
          by_cases c2:t1=2
          · rw[if_pos c2]at H
            have c2b0:(t1==2)=true:=beq_iff_eq.mpr c2
            have c2b1:(t1 !=2)=false:=bne_eq_false_iff_eq.mpr c2
            clear c2
            (first|rw[c2b0]|(simp only[i64_w,i32_w];rw[c2b0])|skip)
            have H':=C H
            clear H
            exact spec_l39Act.W1
          · rw[if_neg c2]at H
            have c2b0:(t1==2)=false:=beq_eq_false_iff_ne.mpr c2
            have c2b1:(t1 !=2)=true:=bne_iff_ne.mpr c2
            (first|rw[c2b0]|(simp only[i64_w,i32_w];rw[c2b0])|skip)
            have H':=C H
            clear H
            exact spec_l39Act.W1
        case rest=>
          clear HC2
          obtain⟨kq,x2_15,rfl,HA,HJ2,BK1,HI1,HK,HB⟩:=hcut
          cases kq with
          |zero=>exact absurd HA.out (by simp[spec_l39Act.j1])
          |succ kj15=>
            have H:=HA.out
            clear HA
            simp only[spec_l39Act.j1]at H
            by_cases c2:x2_15=true
            · subst c2
              rw[if_pos rfl]at H
              simp only[Option.some.injEq,Prod.mk.injEq]at H
              obtain⟨rfl,rfl,rfl,rfl,rfl,rfl⟩:=H
              have hnb1:=NB2_0.out
              have hnc1:=NB1_499.out
              have h_:=d4 BK1.out;(repeat(obtain⟨_,h_⟩:=h_))
              exact spec_l39Act.W2
            · replace c2:=Bool.eq_false_iff.mpr c2
              subst c2
              rw[if_neg Bool.false_ne_true]at H
              by_cases c3:t1=4
              · rw[if_pos c3]at H
                have c3b0:(t1==4)=true:=beq_iff_eq.mpr c3
                have c3b1:(t1 !=4)=false:=bne_eq_false_iff_eq.mpr c3
                clear c3
                simp only[Option.some.injEq,Prod.mk.injEq]at H
                obtain⟨rfl,rfl,rfl,rfl,rfl,rfl⟩:=H
                have hnb1:=NB2_0.out
                have hnc1:=NB1_499.out
                have h_:=d4 BK1.out;(repeat(obtain⟨_,h_⟩:=h_))
                exact spec_l39Act.W2
              · rw[if_neg c3]at H
                have c3b0:(t1==4)=false:=beq_eq_false_iff_ne.mpr c3
                have c3b1:(t1 !=4)=true:=bne_iff_ne.mpr c3
                by_cases c4:t1=5
                · rw[if_pos c4]at H
                  have c4b0:(t1==5)=true:=beq_iff_eq.mpr c4
                  have c4b1:(t1 !=5)=false:=bne_eq_false_iff_eq.mpr c4
                  clear c4
                  obtain⟨⟨t4,t5,t6⟩,A2,H⟩:=bnd H
                  dsimp only at H
                  simp only[Option.some.injEq,Prod.mk.injEq]at H
                  obtain⟨rfl,rfl,rfl,rfl,rfl,rfl⟩:=H
                  go_wp2_with (first|((with_reducible refine F (f:=56) rfl ?_);refine gl 56 (some 27) Tryd.func56 #[.pointer (some ⟨g,0,none⟩),V I 9] ?_;(with_reducible refine(spec_l01Below.calls g s0_0 t2 t3 9 t4 t5 t6 w0 _ ?side1 ?side2 A2.out).mono ?_);(case side1=>repeat(first|(with_reducible first|exact HI1.out|apply IsS102.alloc|apply IsS102.drewN|apply IsS102.drew|apply IsS102.set_1|apply IsS102.set_2|refine IsS102.far ?_ NB1_499.out _)|exact HI1.out));(case side2=>repeat(first|(with_reducible first|exact HB.out|apply bA|apply bN|apply b1|refine below_set ?_ (IsS102.ge HI1.out)|refine below_set ?_ GE1.out)|exact HB.out));rintro e w3 ⟨rfl,hi,hb,hk⟩;refine⟨_,rfl,?_⟩;replace BK1:=C (KeepBut.blk hk (g':=gb1) (o:=.cells #[V I 0,V I 0,V I 0,V I 0] 26 (0,0)) (uK BK1.out) NB2_0.out (by simp));replace HK:=C (KeepBut.trans (show KeepBut w _ _ _ from uH) hk (.inl rfl));replace HB:=C (hb);replace HI1:=C (hi);clear hb hi hk;have hnb1:=NB2_0.out;have hnc1:=NB1_499.out;have h_:=d4 BK1.out;(repeat(obtain⟨_,h_⟩:=h_))))
                  refine bodyPost_ret (results_cell_row rfl _ _ gb1 26 #[V I 5,V I (wrap64 (1+t4)),V I 0,V I 0] (0,0) _ rfl (bK BK1.out) Tryd.underlying26 rfl (by kernel_rfl)) rfl ?_
                  exact⟨rE,by repeat(first|(with_reducible first|exact HI1.out|apply IsS102.alloc|apply IsS102.drewN|apply IsS102.drew|apply IsS102.set_1|apply IsS102.set_2|refine IsS102.far ?_ NB1_499.out _)|exact HI1.out),by repeat(first|(with_reducible first|exact HB.out|apply bA|apply bN|apply b1|refine below_set ?_ (IsS102.ge HI1.out)|refine below_set ?_ GE1.out)|exact HB.out),uH⟩
                · rw[if_neg c4]at H
                  have c4b0:(t1==5)=false:=beq_eq_false_iff_ne.mpr c4
                  have c4b1:(t1 !=5)=true:=bne_iff_ne.mpr c4
                  obtain⟨⟨t4,t5,t6⟩,A2,H⟩:=bnd H
                  dsimp only at H
                  simp only[Option.some.injEq,Prod.mk.injEq]at H
                  obtain⟨rfl,rfl,rfl,rfl,rfl,rfl⟩:=H
                  go_wp2_with (first|((with_reducible refine F (f:=56) rfl ?_);refine gl 56 (some 31) Tryd.func56 #[.pointer (some ⟨g,0,none⟩),V I 5] ?_;(with_reducible refine(spec_l01Below.calls g s0_0 t2 t3 5 t4 t5 t6 w0 _ ?side1 ?side2 A2.out).mono ?_);(case side1=>repeat(first|(with_reducible first|exact HI1.out|apply IsS102.alloc|apply IsS102.drewN|apply IsS102.drew|apply IsS102.set_1|apply IsS102.set_2|refine IsS102.far ?_ NB1_499.out _)|exact HI1.out));(case side2=>repeat(first|(with_reducible first|exact HB.out|apply bA|apply bN|apply b1|refine below_set ?_ (IsS102.ge HI1.out)|refine below_set ?_ GE1.out)|exact HB.out));rintro e w3 ⟨rfl,hi,hb,hk⟩;refine⟨_,rfl,?_⟩;replace BK1:=C (KeepBut.blk hk (g':=gb1) (o:=.cells #[V I 0,V I 0,V I 0,V I 0] 26 (0,0)) (uK BK1.out) NB2_0.out (by simp));replace HK:=C (KeepBut.trans (show KeepBut w _ _ _ from uH) hk (.inl rfl));replace HB:=C (hb);replace HI1:=C (hi);clear hb hi hk;have hnb1:=NB2_0.out;have hnc1:=NB1_499.out;have h_:=d4 BK1.out;(repeat(obtain⟨_,h_⟩:=h_))))
                  refine bodyPost_ret (results_cell_row rfl _ _ gb1 26 #[V I 3,V I (wrap64 (1+t4)),V I 0,V I 0] (0,0) _ rfl (bK BK1.out) Tryd.underlying26 rfl (by kernel_rfl)) rfl ?_
                  exact⟨rE,by repeat(first|(with_reducible first|exact HI1.out|apply IsS102.alloc|apply IsS102.drewN|apply IsS102.drew|apply IsS102.set_1|apply IsS102.set_2|refine IsS102.far ?_ NB1_499.out _)|exact HI1.out),by repeat(first|(with_reducible first|exact HB.out|apply bA|apply bN|apply b1|refine below_set ?_ (IsS102.ge HI1.out)|refine below_set ?_ GE1.out)|exact HB.out),uH⟩
def spec_l39List.l0:Nat→List (S26)→Int→Int→List Int→Int→Int→Option ((List (S26))×Int×Int)
  |0,_,_,_,_,_,_=>none
  |k+1,x3,x4,x5,x1000,x1001,x1002=>if x5<x4 then((spec_l39Act.f k x1000 x1001 x1002).bind fun bt524=>(if x3.length<4398046511104 then(spec_l39List.l0 k (x3++ [(⟨bt524.1,bt524.2.1,bt524.2.2.1,bt524.2.2.2.1⟩:S26)]) x4 (wrap64 (x5+1)) x1000 bt524.2.2.2.2.1 bt524.2.2.2.2.2) else(none))) else(some (x3,x1001,x1002))
def spec_l39List.f (k:Nat) (s0_0:List Int) (s0_1:Int) (s0_2:Int):Option ((List (S26))×Int×Int):=(spec_l01Below.f s0_0 s0_1 s0_2 16).bind fun bt521=>(spec_l39List.l0 k (([]:List (S26))) bt521.1 0 s0_0 bt521.2.1 bt521.2.2)
theorem spec_l39List.mono_l:∀k,(∀y0 y1 y2 y3 y4 y5,LeO (spec_l39List.l0 k y0 y1 y2 y3 y4 y5) (spec_l39List.l0 (k+1) y0 y1 y2 y3 y4 y5))
  |0=>fun _ _ _ _ _ _ r h=>by simp[spec_l39List.l0]at h
  |k+1=>by
    have ih0:=spec_l39List.mono_l k
    · intro y0 y1 y2 y3 y4 y5
      unfold spec_l39List.l0
      repeat' first|(with_reducible first|apply ih0|apply spec_l39Act.mono|exact LeO.refl _|exact LeO.none _|refine LeO.ite ?_ ?_|refine LeO.bind ?_ (fun _=> ?_))|apply ih0|exact LeO.none _|refine LeO.ite ?_ ?_|refine LeO.bind ?_ (fun _=> ?_)
theorem spec_l39List.mono:∀a0 a1 a2 k,LeO (spec_l39List.f k a0 a1 a2) (spec_l39List.f (k+1) a0 a1 a2):=by
  intro a0 a1 a2 k
  have ih0:=spec_l39List.mono_l k
  unfold spec_l39List.f
  repeat' first|(with_reducible first|apply ih0|apply spec_l39Act.mono|exact LeO.refl _|exact LeO.none _|refine LeO.ite ?_ ?_|refine LeO.bind ?_ (fun _=> ?_))|apply ih0|exact LeO.none _|refine LeO.ite ?_ ?_|refine LeO.bind ?_ (fun _=> ?_)
set_option maxHeartbeats 40000000 in
set_option maxRecDepth 100000 in
theorem spec_l39List.calls (k:Nat) (g:Nat) (s0_0:List Int) (s0_1:Int) (s0_2:Int) (r1:List (S26)) (r2:Int) (r3:Int) (w0 w:World) (hI:IsS102 w0 w g s0_0 s0_1 s0_2) (hB:Below w0.heap.size w0 w) (h:spec_l39List.f k s0_0 s0_1 s0_2=some (r1,r2,r3)):
    Calls Tryd.prog 41 #[.pointer (some ⟨g,0,none⟩)] w fun e w'=>∃v0_:Value,e=.returned (v0_)∧Kd.R k26 26 w' w.heap.size (fun _=>True) v0_ r1∧IsS102 w0 w' g s0_0 r2 r3∧Below w0.heap.size w0 w'∧KeepBut w w' g none:=by
  have hu1:=Tryd.underlying26
  have HI1:=C hI
  have HK:=C (KeepBut.refl w g none)
  have HL:=C hB.size
  clear hI
  have HW1:=C hB.size
  have HB:=C hB
  clear hB
  have H:=h
  unfold spec_l39List.f at H
  clear h
  obtain⟨y1,hy1⟩:∃y_:List (S26),y_=(([]:List (S26))):=⟨_,rfl⟩
  replace H:((spec_l01Below.f s0_0 s0_1 s0_2 16).bind fun bt521=>(spec_l39List.l0 k y1 bt521.1 0 s0_0 bt521.2.1 bt521.2.2))=some (r1,r2,r3):=by first|(rw[hy1];with_reducible exact H)|(have H1_:=(Option.bind_some _ _).symm.trans H;rw[hy1];with_reducible exact H1_)|(have H1_:=(Option.bind_some _ _).symm.trans H;with_reducible exact H1_)|with_reducible exact H|(rw[hy1];exact H)|exact H
  have Ny1:=C hy1
  clear hy1
  obtain⟨⟨t1,t2,t3⟩,A1,H⟩:=bnd H
  dsimp only at H
  have H':=C H
  clear H
  go_enter Tryd.func41,Tryd.ntmps41
  go_wp2_with (first|((with_reducible refine J (N:=7) rfl ?_);refine Kd.R_lit k26 _ 26 ?hg (N:=7) ?hd (xs:=([]:List (S26))) (inner:= []) (ok:=fun _=>True) (okp:=fun _=>True) ?hr ?hp (fun _ hk=>hk) trivial (Below.refl _ _) (Nat.le_refl _) (by simp) ?_;(case hd=>rfl);(case hg=>rfl);(case hr=>exact Fix.hr);(case hp=>exact(Reps.none _ _));intro v1 w1 ho1 hb hg_ hnew_;clear hg_ hnew_;(first|rw[←Ny1.out]at ho1|(simp only[Int.reduceToNat]at ho1;rw[←Ny1.out]at ho1));have HO1:=C (Kd.R_lower ho1 (keep_size (w:=w) (g:=g) (row:=none) (show KeepBut w _ _ _ from uH)));replace HK:=C (KeepBut.trans (show KeepBut w _ _ _ from uH) (KeepBut.of_below hb g none) (.inl rfl));replace HB:=C (below_step (by repeat(first|(with_reducible first|exact HB.out|apply bA|apply bN|apply b1|refine below_set ?_ (IsS102.ge HI1.out))|exact HB.out)) hb);replace HI1:=C (IsS102.below (by repeat(first|(with_reducible first|exact HI1.out|apply IsS102.alloc|apply IsS102.drewN|apply IsS102.drew|apply IsS102.set_1|apply IsS102.set_2)|exact HI1.out)) hb);clear hb ho1)|((with_reducible refine F (f:=56) rfl ?_);refine gl 56 (some 9) Tryd.func56 #[.pointer (some ⟨g,0,none⟩),V I 16] ?_;(with_reducible refine(spec_l01Below.calls g s0_0 s0_1 s0_2 16 t1 t2 t3 w0 _ ?side1 ?side2 A1.out).mono ?_);(case side1=>repeat(first|(with_reducible first|exact HI1.out|apply IsS102.alloc|apply IsS102.drewN|apply IsS102.drew|apply IsS102.set_1|apply IsS102.set_2)|exact HI1.out));(case side2=>repeat(first|(with_reducible first|exact HB.out|apply bA|apply bN|apply b1|refine below_set ?_ (IsS102.ge HI1.out))|exact HB.out));rintro e w2 ⟨rfl,hi,hb,hk⟩;refine⟨_,rfl,?_⟩;replace HO1:=C (X (Kd.R_keep (IsS102.apart (show IsS102 w0 _ g s0_0 s0_1 s0_2 from by repeat(first|(with_reducible first|exact HI1.out|apply IsS102.alloc|apply IsS102.drewN|apply IsS102.drew|apply IsS102.set_1|apply IsS102.set_2)|exact HI1.out)) (uR HO1.out) (by decide)) hk (fun _ h=>h.2)) (fun _ h=>h.1));replace HK:=C (KeepBut.trans (show KeepBut w _ _ _ from uH) hk (.inl rfl));replace HB:=C (hb);replace HI1:=C (hi);clear hb hi hk))
  go_loopg [3,5] k (fun kq v3 v5 w'=>∃(x1_1:List (S26)) (x2_1:Int) (x3_1:Int) (x4_1:Int),v5=V I x2_1∧D (spec_l39List.l0 kq x1_1 t1 x2_1 s0_0 x3_1 x4_1=some (r1,r2,r3))∧D (kq≤k)∧D (Kd.R k26 26 w' w.heap.size (fun _=>True) v3 x1_1)∧D (IsS102 w0 w' g s0_0 x3_1 x4_1)∧D (KeepBut w w' g none)∧D (Below w0.heap.size w0 w'))
  case atStart=>exact⟨(y1),(0),(t2),(t3),rS,H',⟨Nat.le_refl _⟩,⟨fR HO1.out⟩,⟨by repeat(first|(with_reducible first|exact HI1.out|apply IsS102.alloc|apply IsS102.drewN|apply IsS102.drew|apply IsS102.set_1|apply IsS102.set_2)|exact HI1.out)⟩,⟨uH⟩,⟨by repeat(first|(with_reducible first|exact HB.out|apply bA|apply bN|apply b1|refine below_set ?_ (IsS102.ge HI1.out))|exact HB.out)⟩⟩
  case round=>
    clear H'
    obtain⟨x1_1,x2_1,x3_1,x4_1,rfl,HA,HK1,HO_1,HI1,HK,HB⟩:=hrel
    cases gk with
    |zero=>exact absurd HA.out (by simp[spec_l39List.l0])
    |succ k1=>
      have H:=HA.out
      clear HA
      simp only[spec_l39List.l0]at H
      by_cases c1:x2_1<t1
      · rw[if_pos c1]at H
        have c1b0:decide (x2_1<t1)=true:=decide_eq_true c1
        clear c1
        obtain⟨⟨t4,t5,t6,t7,t8,t9⟩,A2,H⟩:=bnd H
        dsimp only at H
        by_cases c2:x1_1.length<4398046511104
        · rw[if_pos c2]at H
          have LMc1:=C c2
          clear c2
          obtain⟨y2,hy2⟩:∃y_:List (S26),y_=(x1_1++ [(⟨t4,t5,t6,t7⟩:S26)]):=⟨_,rfl⟩
          replace H:(spec_l39List.l0 k1 y2 t1 (wrap64 (x2_1+1)) s0_0 t8 t9)=some (r1,r2,r3):=by first|(rw[hy2];with_reducible exact H)|(have H1_:=(Option.bind_some _ _).symm.trans H;rw[hy2];with_reducible exact H1_)|(have H1_:=(Option.bind_some _ _).symm.trans H;with_reducible exact H1_)|with_reducible exact H|(rw[hy2];exact H)|exact H
          have Ny2:=C hy2
          clear hy2
          have H':=C H
          clear H
          go_wp2_with (first|((with_reducible refine F (f:=69) rfl ?_);refine gl 69 (some 16) Tryd.func69 #[.pointer (some ⟨g,0,none⟩)] ?_;(with_reducible refine(spec_l39Act.calls k1 g s0_0 x3_1 x4_1 t4 t5 t6 t7 t8 t9 w0 _ ?side1 ?side2 A2.out).mono ?_);(case side1=>repeat(first|(with_reducible first|exact HI1.out|apply IsS102.alloc|apply IsS102.drewN|apply IsS102.drew|apply IsS102.set_1|apply IsS102.set_2)|exact HI1.out));(case side2=>repeat(first|(with_reducible first|exact HB.out|apply bA|apply bN|apply b1|refine below_set ?_ (IsS102.ge HI1.out))|exact HB.out));rintro e w3 ⟨rfl,hi,hb,hk⟩;refine⟨_,rfl,?_⟩;replace HO_1:=C (X (Kd.R_keep (IsS102.apart (show IsS102 w0 _ g s0_0 x3_1 x4_1 from by repeat(first|(with_reducible first|exact HI1.out|apply IsS102.alloc|apply IsS102.drewN|apply IsS102.drew|apply IsS102.set_1|apply IsS102.set_2)|exact HI1.out)) (uR HO_1.out) (by decide)) hk (fun _ h=>h.2)) (fun _ h=>h.1));replace HK:=C (KeepBut.trans (show KeepBut w _ _ _ from uH) hk (.inl rfl));replace HB:=C (hb);replace HI1:=C (hi);clear hb hi hk)|((with_reducible refine J (N:=6) rfl ?_);refine Fix.be 6 #[V I 0,V I 0,V I 0,V I 0] 26 ?_;intro gb1 hg w4 BK1 hb;have GW1:=C ((by rw[hg];exact(keep_size (w:=w) (g:=g) (row:=none) (show KeepBut w _ _ _ from uH)):w.heap.size≤gb1));have GE1:=C ((Nat.le_trans HW1.out (by rw[hg];exact(keep_size (w:=w) (g:=g) (row:=none) (show KeepBut w _ _ _ from uH)):w.heap.size≤gb1):w0.heap.size≤gb1));have NB1_530:=C ((by rw[hg];exact Nat.ne_of_lt (IsS102.lt (show IsS102 w0 _ g s0_0 t8 t9 from by repeat(first|(with_reducible first|exact HI1.out|apply IsS102.alloc|apply IsS102.drewN|apply IsS102.drew|apply IsS102.set_1|apply IsS102.set_2)|exact HI1.out))):g≠gb1));have NB2_0:=C ((by rw[hg];exact Nat.ne_of_gt (IsS102.lt (show IsS102 w0 _ g s0_0 t8 t9 from by repeat(first|(with_reducible first|exact HI1.out|apply IsS102.alloc|apply IsS102.drewN|apply IsS102.drew|apply IsS102.set_1|apply IsS102.set_2)|exact HI1.out))):gb1≠g));replace HO_1:=C (Kd.R_below (Kd.R_elderB (uR HO_1.out) gb1 (Nat.le_of_eq hg.symm)) hb);replace HK:=C (KeepBut.trans (show KeepBut w _ _ _ from uH) (KeepBut.of_below hb g none) (.inl rfl));replace HB:=C (below_step (by repeat(first|(with_reducible first|exact HB.out|apply bA|apply bN|apply b1|refine below_set ?_ (IsS102.ge HI1.out))|exact HB.out)) hb);replace HI1:=C (IsS102.below (by repeat(first|(with_reducible first|exact HI1.out|apply IsS102.alloc|apply IsS102.drewN|apply IsS102.drew|apply IsS102.set_1|apply IsS102.set_2)|exact HI1.out)) hb);clear hb hg;have hnb1:=NB2_0.out;have hnc1:=NB1_530.out;obtain⟨hcz1_0,hcz1_1,hcz1_2,hcz1_3,hfz1_0,hfz1_1,hfz1_2,hfz1_3⟩:=d4 BK1.out)|((with_reducible refine gate_builtin (b:=.append) (xs:= #[.tmp 17,.tmp 19]) rfl ?_);at_builtin;refine Kd.R_append k26 w.heap.size rfl (.tmp 17) (.tmp 19) 32 26 (.agg #[(V I 0),(V I 0),(V I 0),(V I 0)]) 32 rfl Tryd.underlying32 info26 rfl (by decide) (by omega) u3 x1_1 (⟨t4,t5,t6,t7⟩:S26) [V I t4,V I t5,V I t6,V I t7] (fun k_=>k_≠gb1) (fun _=>False) rfl (by first|(go_simp;done)|(go_simp;rfl)) ?aP (fun _ hk=>hk.elim) ?aF ?aO (Below.refl _ _) ?aS ?aL ?_;(case aP=>exact k26_mkM _ _ _ (⟨t4,t5,t6,t7⟩:S26));(case aF=>exact(fun k_ hk=>Kd.freshB (g:=gb1) (o:=.cells #[V I t4,V I t5,V I t6,V I t7] 26 (0,0)) (bK BK1.out) k_ hk));(case aO=>exact(X (fR (X HO_1.out (fun k_ hk=>(⟨hk,hk.2⟩:_∧k_≠gb1)))) (fun _ hk=>hk.1.2)));(case aS=>exact(keep_size (w:=w) (g:=g) (row:=none) (show KeepBut w _ _ _ from uH)));(case aL=>have:=LMc1.out;omega);intro v2 w5 ho hb hg hat;rw[←Ny2.out]at ho;have HO2:=C (ho);replace BK1:=C (blk_grown (g:=gb1) (o:=.cells #[V I t4,V I t5,V I t6,V I t7] 26 (0,0)) (bK BK1.out) hg (Kd.R_away HO_1.out (fun _ hk=>hk.2)));replace HB:=C (below_weaken (by repeat(first|(with_reducible first|exact HB.out|apply bA|apply bN|apply b1|refine below_set ?_ (IsS102.ge HI1.out)|refine below_set ?_ GE1.out)|exact HB.out)) HL.out hb);replace HI1:=C (IsS102.grown (show IsS102 w0 _ g s0_0 t8 t9 from by repeat(first|(with_reducible first|exact HI1.out|apply IsS102.alloc|apply IsS102.drewN|apply IsS102.drew|apply IsS102.set_1|apply IsS102.set_2|refine IsS102.far ?_ NB1_530.out _)|exact HI1.out)) hg (IsS102.own_ne HI1.out HO_1.out (by decide)));replace HK:=C (KeepBut.trans (show KeepBut w _ _ _ from uH) (KeepBut.of_grown hg g) (Kd.R_base2 HO_1.out));clear HO_1;clear ho hb hg hat))
          go_roundg k1
          case measure=>have:=HK1.out;omega
          case rel=>exact⟨(y2),(wrap64 (x2_1+1)),(t8),(t9),rS,H',⟨by have:=HK1.out;omega⟩,⟨X (fR HO2.out) (fun _ hk=>trivial)⟩,⟨by repeat(first|(with_reducible first|exact HI1.out|apply IsS102.alloc|apply IsS102.drewN|apply IsS102.drew|apply IsS102.set_1|apply IsS102.set_2|refine IsS102.far ?_ NB1_530.out _)|exact HI1.out)⟩,⟨uH⟩,⟨by repeat(first|(with_reducible first|exact HB.out|apply bA|apply bN|apply b1|refine below_set ?_ (IsS102.ge HI1.out)|refine below_set ?_ GE1.out)|exact HB.out)⟩⟩
        · rw[if_neg c2]at H
          exact absurd H (by simp)
      · rw[if_neg c1]at H
        have c1b0:decide (x2_1<t1)=false:=decide_eq_false c1
        clear c1
        simp only[Option.some.injEq,Prod.mk.injEq]at H
        obtain⟨rfl,rfl,rfl⟩:=H
        go_wp2
        go_ret
        exact⟨_,rE,fR HO_1.out,by repeat(first|(with_reducible first|exact HI1.out|apply IsS102.alloc|apply IsS102.drewN|apply IsS102.drew|apply IsS102.set_1|apply IsS102.set_2)|exact HI1.out),by repeat(first|(with_reducible first|exact HB.out|apply bA|apply bN|apply b1|refine below_set ?_ (IsS102.ge HI1.out))|exact HB.out),uH⟩
def spec_l39Machine.f (k:Nat) (s0_0:List Int) (s0_1:Int) (s0_2:Int):Option ((List (S40))×Int×Int×Int×Bool×Int×Bool×Int×Int×List Int×List Int×Int×Bool×Int×Int×Int):=(spec_l39List.f k s0_0 s0_1 s0_2).bind fun bt535=>((spec_RunActs.f k ([]:List (S40)) 0 0 0 false 0 false 0 0 ([]:List Int) ([]:List Int) 0 false 0 bt535.1).bind fun bt540=>(some (bt540.1,bt540.2.1,bt540.2.2.1,bt540.2.2.2.1,bt540.2.2.2.2.1,bt540.2.2.2.2.2.1,bt540.2.2.2.2.2.2.1,bt540.2.2.2.2.2.2.2.1,bt540.2.2.2.2.2.2.2.2.1,bt540.2.2.2.2.2.2.2.2.2.1,bt540.2.2.2.2.2.2.2.2.2.2.1,bt540.2.2.2.2.2.2.2.2.2.2.2.1,bt540.2.2.2.2.2.2.2.2.2.2.2.2.1,bt540.2.2.2.2.2.2.2.2.2.2.2.2.2.1,bt535.2.1,bt535.2.2)))
theorem spec_l39Machine.mono:∀a0 a1 a2 k,LeO (spec_l39Machine.f k a0 a1 a2) (spec_l39Machine.f (k+1) a0 a1 a2):=by
  intro a0 a1 a2 k
  unfold spec_l39Machine.f
  repeat' first|(with_reducible first|apply spec_RunActs.mono|apply spec_l39List.mono|exact LeO.refl _|exact LeO.none _|refine LeO.ite ?_ ?_|refine LeO.bind ?_ (fun _=> ?_))|exact LeO.none _|refine LeO.ite ?_ ?_|refine LeO.bind ?_ (fun _=> ?_)
set_option maxHeartbeats 40000000 in
set_option maxRecDepth 100000 in
theorem spec_l39Machine.calls (k:Nat) (g:Nat) (s0_0:List Int) (s0_1:Int) (s0_2:Int) (r1:List (S40)) (r2:Int) (r3:Int) (r4:Int) (r5:Bool) (r6:Int) (r7:Bool) (r8:Int) (r9:Int) (r10:List Int) (r11:List Int) (r12:Int) (r13:Bool) (r14:Int) (r15:Int) (r16:Int) (w0 w:World) (hI:IsS102 w0 w g s0_0 s0_1 s0_2) (hB:Below w0.heap.size w0 w) (h:spec_l39Machine.f k s0_0 s0_1 s0_2=some (r1,r2,r3,r4,r5,r6,r7,r8,r9,r10,r11,r12,r13,r14,r15,r16)):
    Calls Tryd.prog 40 #[.pointer (some ⟨g,0,none⟩)] w fun e w'=>∃v0_ v9_ v10_:Value,e=.returned (.agg #[v0_,V I r2,V I r3,V I r4,O r5,V I r6,O r7,V I r8,V I r9,v9_,v10_,V I r12,O r13,V I r14])∧Kd.R k40 40 w' w.heap.size (fun _=>True) v0_ r1∧Kd.Q (Kd.int .i64) 3 w' w.heap.size (fun k_=>some k_≠(v10_:Value).ownBlock) v9_ r10∧Kd.R (Kd.int .i64) 3 w' w.heap.size (fun k_=>some k_≠(v9_:Value).ownBlock) v10_ r11∧IsS102 w0 w' g s0_0 r15 r16∧Below w0.heap.size w0 w'∧KeepBut w w' g none:=by
  have hu1:=Tryd.underlying45
  have HI1:=C hI
  have HK:=C (KeepBut.refl w g none)
  have HL:=C hB.size
  clear hI
  have HW1:=C hB.size
  have HB:=C hB
  clear hB
  have H:=h
  unfold spec_l39Machine.f at H
  clear h
  obtain⟨⟨t1,t2,t3⟩,A1,H⟩:=bnd H
  dsimp only at H
  obtain⟨⟨t4,t5,t6,t7,t8,t9,t10,t11,t12,t13,t14,t15,t16,t17,t18⟩,A2,H⟩:=bnd H
  dsimp only at H
  simp only[Option.some.injEq,Prod.mk.injEq]at H
  obtain⟨rfl,rfl,rfl,rfl,rfl,rfl,rfl,rfl,rfl,rfl,rfl,rfl,rfl,rfl,rfl,rfl⟩:=H
  go_enter Tryd.func40,Tryd.ntmps40
  go_wp2_with (first|((with_reducible refine J (N:=2) rfl ?_);refine Fix.be 2 #[L none 0 0,V I 0,V I 0,V I 0,O false,V I 0,O false,V I 0,V I 0,L none 0 0,L none 0 0,V I 0,O false,V I 0] 45 ?_;intro gb1 hg w1 BK1 hb;have GW1:=C ((by rw[hg];exact(keep_size (w:=w) (g:=g) (row:=none) (show KeepBut w _ _ _ from uH)):w.heap.size≤gb1));have GE1:=C ((Nat.le_trans HW1.out (by rw[hg];exact(keep_size (w:=w) (g:=g) (row:=none) (show KeepBut w _ _ _ from uH)):w.heap.size≤gb1):w0.heap.size≤gb1));have NB1_534:=C ((by rw[hg];exact Nat.ne_of_lt (IsS102.lt (show IsS102 w0 _ g s0_0 s0_1 s0_2 from by repeat(first|(with_reducible first|exact HI1.out|apply IsS102.alloc|apply IsS102.drewN|apply IsS102.drew|apply IsS102.set_1|apply IsS102.set_2)|exact HI1.out))):g≠gb1));have NB2_0:=C ((by rw[hg];exact Nat.ne_of_gt (IsS102.lt (show IsS102 w0 _ g s0_0 s0_1 s0_2 from by repeat(first|(with_reducible first|exact HI1.out|apply IsS102.alloc|apply IsS102.drewN|apply IsS102.drew|apply IsS102.set_1|apply IsS102.set_2)|exact HI1.out))):gb1≠g));replace HK:=C (KeepBut.trans (show KeepBut w _ _ _ from uH) (KeepBut.of_below hb g none) (.inl rfl));replace HB:=C (below_step (by repeat(first|(with_reducible first|exact HB.out|apply bA|apply bN|apply b1|refine below_set ?_ (IsS102.ge HI1.out))|exact HB.out)) hb);replace HI1:=C (IsS102.below (by repeat(first|(with_reducible first|exact HI1.out|apply IsS102.alloc|apply IsS102.drewN|apply IsS102.drew|apply IsS102.set_1|apply IsS102.set_2)|exact HI1.out)) hb);clear hb hg)|((with_reducible refine F (f:=41) rfl ?_);refine gl 41 (some 8) Tryd.func41 #[.pointer (some ⟨g,0,none⟩)] ?_;(with_reducible refine(spec_l39List.calls k g s0_0 s0_1 s0_2 t1 t2 t3 w0 _ ?side1 ?side2 A1.out).mono ?_);(case side1=>repeat(first|(with_reducible first|exact HI1.out|apply IsS102.alloc|apply IsS102.drewN|apply IsS102.drew|apply IsS102.set_1|apply IsS102.set_2|refine IsS102.far ?_ NB1_534.out _)|exact HI1.out));(case side2=>repeat(first|(with_reducible first|exact HB.out|apply bA|apply bN|apply b1|refine below_set ?_ (IsS102.ge HI1.out)|refine below_set ?_ GE1.out)|exact HB.out));rintro e w2 ⟨v1,rfl,ho1,hi,hb,hk⟩;refine⟨_,rfl,?_⟩;have HO1:=C (Kd.R_lower ho1 (keep_size (w:=w) (g:=g) (row:=none) (show KeepBut w _ _ _ from uH)));replace BK1:=C (KeepBut.blk hk (g':=gb1) (o:=.cells #[L none 0 0,V I 0,V I 0,V I 0,O false,V I 0,O false,V I 0,V I 0,L none 0 0,L none 0 0,V I 0,O false,V I 0] 45 (0,0)) (uK BK1.out) NB2_0.out (by simp));replace HK:=C (KeepBut.trans (show KeepBut w _ _ _ from uH) hk (.inl rfl));replace HB:=C (hb);replace HI1:=C (hi);clear hb hi hk ho1;obtain⟨Ao1,co1,eo1⟩:=Kd.R_slice HO1.out;subst eo1)|((with_reducible refine F (f:=30) rfl ?_);refine gl 30 (some 9) Tryd.func30 #[.agg #[L none 0 0,V I 0,V I 0,V I 0,O false,V I 0,O false,V I 0,V I 0,L none 0 0,L none 0 0,V I 0,O false,V I 0],L Ao1 t1.length co1] ?_;(refine(spec_RunActs.calls k _ _ ([]:List (S40)) 0 0 0 false 0 false 0 0 _ _ ([]:List Int) _ _ ([]:List Int) 0 false 0 _ _ t1 t4 t5 t6 t7 t8 t9 t10 t11 t12 t13 t14 t15 t16 t17 t18 _ ?side1 ?side2 ?side3 ?side4 ?side5 ?side6 ?side7 ?side8 A2.out).mono ?_);(case side1=>exact Kd.C_nil _ _);(case side2=>exact Nat.le_refl _);(case side3=>exact Kd.C_nil _ _);(case side4=>exact Nat.le_refl _);(case side5=>exact Kd.C_nil _ _);(case side6=>exact Nat.le_refl _);(case side7=>exact uC (Kd.R_reads' HO1.out).2.2);(case side8=>exact(Kd.R_reads' HO1.out).2.1);rintro e w3 ⟨v2,v3,v4,v5,rfl,ho1,ho2,ho3,ho4,hb⟩;refine⟨_,rfl,?_⟩;have HO2:=C (Kd.R_lower ho1 (keep_size (w:=w) (g:=g) (row:=none) (show KeepBut w _ _ _ from uH)));have HO3:=C (Kd.Q_lower ho2 (keep_size (w:=w) (g:=g) (row:=none) (show KeepBut w _ _ _ from uH)));have HO4:=C (Kd.R_lower ho3 (keep_size (w:=w) (g:=g) (row:=none) (show KeepBut w _ _ _ from uH)));have HO5:=C (Kd.R_lower ho4 (keep_size (w:=w) (g:=g) (row:=none) (show KeepBut w _ _ _ from uH)));replace HO1:=eR HO1 hb;replace BK1:=eK BK1 hb;replace HK:=C (KeepBut.trans (show KeepBut w _ _ _ from uH) (KeepBut.of_below hb g none) (.inl rfl));replace HB:=C (below_step (by repeat(first|(with_reducible first|exact HB.out|apply bA|apply bN|apply b1|refine below_set ?_ (IsS102.ge HI1.out)|refine below_set ?_ GE1.out)|exact HB.out)) hb);replace HI1:=C (IsS102.below (by repeat(first|(with_reducible first|exact HI1.out|apply IsS102.alloc|apply IsS102.drewN|apply IsS102.drew|apply IsS102.set_1|apply IsS102.set_2|refine IsS102.far ?_ NB1_534.out _)|exact HI1.out)) hb);clear hb ho1 ho2 ho3 ho4)|((with_reducible refine J (N:=3) rfl ?_);refine Fix.be 3 #[L none 0 0,V I 0,V I 0,V I 0,O false,V I 0,O false,V I 0,V I 0,L none 0 0,L none 0 0,V I 0,O false,V I 0] 45 ?_;intro gb2 hg w4 BK2 hb;have GW2:=C ((by rw[hg];exact(keep_size (w:=w) (g:=g) (row:=none) (show KeepBut w _ _ _ from uH)):w.heap.size≤gb2));have GE2:=C ((Nat.le_trans HW1.out (by rw[hg];exact(keep_size (w:=w) (g:=g) (row:=none) (show KeepBut w _ _ _ from uH)):w.heap.size≤gb2):w0.heap.size≤gb2));have NB2_563:=nL hg BK1;have NB3_534:=nG hg BK1;have NB1_563:=C ((by rw[hg];exact Nat.ne_of_lt (IsS102.lt (show IsS102 w0 _ g s0_0 t2 t3 from by repeat(first|(with_reducible first|exact HI1.out|apply IsS102.alloc|apply IsS102.drewN|apply IsS102.drew|apply IsS102.set_1|apply IsS102.set_2|refine IsS102.far ?_ NB1_534.out _)|exact HI1.out))):g≠gb2));have NB3_0:=C ((by rw[hg];exact Nat.ne_of_gt (IsS102.lt (show IsS102 w0 _ g s0_0 t2 t3 from by repeat(first|(with_reducible first|exact HI1.out|apply IsS102.alloc|apply IsS102.drewN|apply IsS102.drew|apply IsS102.set_1|apply IsS102.set_2|refine IsS102.far ?_ NB1_534.out _)|exact HI1.out))):gb2≠g));replace HO1:=eR HO1 hb;replace HO2:=eR HO2 hb;replace HO3:=eQ HO3 hb;replace HO4:=eR HO4 hb;replace HO5:=eR HO5 hb;replace BK1:=eK BK1 hb;replace HK:=C (KeepBut.trans (show KeepBut w _ _ _ from uH) (KeepBut.of_below hb g none) (.inl rfl));replace HB:=C (below_step (by repeat(first|(with_reducible first|exact HB.out|apply bA|apply bN|apply b1|refine below_set ?_ (IsS102.ge HI1.out)|refine below_set ?_ GE1.out)|exact HB.out)) hb);replace HI1:=C (IsS102.below (by repeat(first|(with_reducible first|exact HI1.out|apply IsS102.alloc|apply IsS102.drewN|apply IsS102.drew|apply IsS102.set_1|apply IsS102.set_2|refine IsS102.far ?_ NB1_534.out _)|exact HI1.out)) hb);clear hb hg;obtain⟨Ao2,co2,eo2⟩:=Kd.R_slice HO2.out;subst eo2;have hnb1:=NB3_534.out;have hnc1:=NB2_563.out;have hnb2:=NB3_0.out;have hnc2:=NB1_563.out;obtain⟨hcz1_0,hcz1_1,hcz1_2,hcz1_3,hcz1_4,hcz1_5,hcz1_6,hcz1_7,hcz1_8,hcz1_9,hcz1_10,hcz1_11,hcz1_12,hcz1_13,hfz1_0,hfz1_1,hfz1_2,hfz1_3,hfz1_4,hfz1_5,hfz1_6,hfz1_7,hfz1_8,hfz1_9,hfz1_10,hfz1_11,hfz1_12,hfz1_13⟩:=d14 BK2.out;obtain⟨Ao3,co3,eo3,_⟩:=Kd.Q_slice HO3.out;subst eo3;obtain⟨Ao4,co4,eo4⟩:=Kd.R_slice HO4.out;subst eo4;have hnb3:=NB2_0.out;have hnc3:=NB1_534.out;obtain⟨hcz2_0,hcz2_1,hcz2_2,hcz2_3,hcz2_4,hcz2_5,hcz2_6,hcz2_7,hcz2_8,hcz2_9,hcz2_10,hcz2_11,hcz2_12,hcz2_13,hfz2_0,hfz2_1,hfz2_2,hfz2_3,hfz2_4,hfz2_5,hfz2_6,hfz2_7,hfz2_8,hfz2_9,hfz2_10,hfz2_11,hfz2_12,hfz2_13⟩:=d14 BK1.out))
  refine bodyPost_ret (results_cell_row rfl _ _ gb1 45 #[L Ao2 t4.length co2,V I t5,V I t6,V I t7,O t8,V I t9,O t10,V I t11,V I t12,L Ao3 t13.length co3,L Ao4 t14.length co4,V I t15,O t16,V I t17] (0,0) _ rfl (bK BK1.out) Tryd.underlying45 rfl (by kernel_rfl)) rfl ?_
  exact⟨_,_,_,rE,X (fR (Kd.R_types (Kd.R_types HO2.out BK2.out (by decide)) BK1.out (by decide))) (fun _ hk=>trivial),Kd.Q_mono (fQ (Kd.Q_types (Kd.Q_types HO3.out BK2.out (by decide)) BK1.out (by decide))) (fun _ hk=>hk.1.1.1),X (fR (Kd.R_types (Kd.R_types HO4.out BK2.out (by decide)) BK1.out (by decide))) (fun _ hk=>hk.1.1.1),by repeat(first|(with_reducible first|exact HI1.out|apply IsS102.alloc|apply IsS102.drewN|apply IsS102.drew|apply IsS102.set_1|apply IsS102.set_2|refine IsS102.far ?_ NB1_534.out _|refine IsS102.far ?_ NB1_563.out _)|exact HI1.out),by repeat(first|(with_reducible first|exact HB.out|apply bA|apply bN|apply b1|refine below_set ?_ (IsS102.ge HI1.out)|refine below_set ?_ GE1.out|refine below_set ?_ GE2.out)|exact HB.out),uH⟩
def spec_DrawActs.f (k:Nat) (l0:List Int):Option ((List (S40))×Int×Int×Int×Bool×Int×Bool×Int×Int×List Int×List Int×Int×Bool×Int×(List (S26))):=(spec_l01New.f k l0).bind fun bt565=>((spec_l39Machine.f k bt565.1 bt565.2.1 bt565.2.2).bind fun bt569=>((spec_l39List.f k bt565.1 bt569.2.2.2.2.2.2.2.2.2.2.2.2.2.2.1 bt569.2.2.2.2.2.2.2.2.2.2.2.2.2.2.2).bind fun bt591=>(some (bt569.1,bt569.2.1,bt569.2.2.1,bt569.2.2.2.1,bt569.2.2.2.2.1,bt569.2.2.2.2.2.1,bt569.2.2.2.2.2.2.1,bt569.2.2.2.2.2.2.2.1,bt569.2.2.2.2.2.2.2.2.1,bt569.2.2.2.2.2.2.2.2.2.1,bt569.2.2.2.2.2.2.2.2.2.2.1,bt569.2.2.2.2.2.2.2.2.2.2.2.1,bt569.2.2.2.2.2.2.2.2.2.2.2.2.1,bt569.2.2.2.2.2.2.2.2.2.2.2.2.2.1,bt591.1))))
theorem spec_DrawActs.mono:∀a0 k,LeO (spec_DrawActs.f k a0) (spec_DrawActs.f (k+1) a0):=by
  intro a0 k
  unfold spec_DrawActs.f
  repeat' first|(with_reducible first|apply spec_l01New.mono|apply spec_l39List.mono|apply spec_l39Machine.mono|exact LeO.refl _|exact LeO.none _|refine LeO.ite ?_ ?_|refine LeO.bind ?_ (fun _=> ?_))|exact LeO.none _|refine LeO.ite ?_ ?_|refine LeO.bind ?_ (fun _=> ?_)
set_option maxHeartbeats 40000000 in
set_option maxRecDepth 100000 in
theorem spec_DrawActs.calls (k:Nat) (A0:Option Addr) (c0:Nat) (l0:List Int) (r1:List (S40)) (r2:Int) (r3:Int) (r4:Int) (r5:Bool) (r6:Int) (r7:Bool) (r8:Int) (r9:Int) (r10:List Int) (r11:List Int) (r12:Int) (r13:Bool) (r14:Int) (r15:List (S26)) (w:World) (hr0:Kd.C (Kd.int .u8) w A0 l0.length l0) (hc0:l0.length≤c0) (h:spec_DrawActs.f k l0=some (r1,r2,r3,r4,r5,r6,r7,r8,r9,r10,r11,r12,r13,r14,r15)):
    Calls Tryd.prog 17 #[L A0 l0.length c0] w fun e w'=>∃v0_ v9_ v10_ v14_:Value,e=.returned (.tuple #[.agg #[v0_,V I r2,V I r3,V I r4,O r5,V I r6,O r7,V I r8,V I r9,v9_,v10_,V I r12,O r13,V I r14],v14_])∧Kd.R k40 40 w' w.heap.size (fun _=>True) v0_ r1∧Kd.Q (Kd.int .i64) 3 w' w.heap.size (fun k_=>some k_≠(v10_:Value).ownBlock) v9_ r10∧Kd.R (Kd.int .i64) 3 w' w.heap.size (fun k_=>some k_≠(v9_:Value).ownBlock) v10_ r11∧Kd.R k26 26 w' w.heap.size (fun _=>True) v14_ r15∧Below w.heap.size w w':=by
  have hu1:=Tryd.underlying45
  have HR1:=C hr0
  have HC1:=C hc0
  (try clear hr0);(try clear hc0)
  have HB:=C (Below.refl w.heap.size w)
  have H:=h
  unfold spec_DrawActs.f at H
  clear h
  obtain⟨⟨t1,t2,t3⟩,A1,H⟩:=bnd H
  dsimp only at H
  obtain⟨⟨t4,t5,t6,t7,t8,t9,t10,t11,t12,t13,t14,t15,t16,t17,t18,t19⟩,A2,H⟩:=bnd H
  dsimp only at H
  obtain⟨⟨t20,t21,t22⟩,A3,H⟩:=bnd H
  dsimp only at H
  simp only[Option.some.injEq,Prod.mk.injEq]at H
  obtain⟨rfl,rfl,rfl,rfl,rfl,rfl,rfl,rfl,rfl,rfl,rfl,rfl,rfl,rfl,rfl⟩:=H
  go_enter Tryd.func17,Tryd.ntmps17
  go_wp2_with (first|((with_reducible refine J (N:=2) rfl ?_);refine Fix.be 2 #[L none 0 0,V I 0,V I 0,V I 0,O false,V I 0,O false,V I 0,V I 0,L none 0 0,L none 0 0,V I 0,O false,V I 0] 45 ?_;intro gb1 hg w1 BK1 hb;have GW1:D (w.heap.size≤gb1):=gE hg;have GE1:=GW1;replace HB:=eB hb;clear hb hg)|((with_reducible refine F (f:=39) rfl ?_);refine gl 39 (some 6) Tryd.func39 #[L A0 l0.length c0] ?_;(with_reducible refine(spec_l01New.calls k _ _ l0 t1 t2 t3 w _ ?side1 ?side2 ?side3 A1.out).mono ?_);(case side1=>exact uB);(case side2=>exact HR1.out);(case side3=>exact HC1.out);rintro e w2 ⟨g1,rfl,hi,hb,hb1⟩;refine⟨_,rfl,?_⟩;have HI1:=C (hi);have NB1_564:=C (IsS102.ne_blk hi (blk_below (g:=gb1) (o:=.cells #[L none 0 0,V I 0,V I 0,V I 0,O false,V I 0,O false,V I 0,V I 0,L none 0 0,L none 0 0,V I 0,O false,V I 0] 45 (0,0)) (uK BK1.out) hb1) (by decide));have NB2_568:=C (Ne.symm (IsS102.ne_blk hi (blk_below (g:=gb1) (o:=.cells #[L none 0 0,V I 0,V I 0,V I 0,O false,V I 0,O false,V I 0,V I 0,L none 0 0,L none 0 0,V I 0,O false,V I 0] 45 (0,0)) (uK BK1.out) hb1) (by decide)));replace BK1:=eK BK1 hb1;replace HB:=C (hb);clear hb hb1 hi)|((with_reducible refine F (f:=40) rfl ?_);refine gl 40 (some 8) Tryd.func40 #[.pointer (some ⟨g1,0,none⟩)] ?_;(with_reducible refine(spec_l39Machine.calls k g1 t1 t2 t3 t4 t5 t6 t7 t8 t9 t10 t11 t12 t13 t14 t15 t16 t17 t18 t19 w _ ?side1 ?side2 A2.out).mono ?_);(case side1=>repeat(first|(with_reducible first|exact HI1.out|apply IsS102.alloc|apply IsS102.drewN|apply IsS102.drew|apply IsS102.set_1|apply IsS102.set_2|refine IsS102.far ?_ NB1_564.out _)|exact HI1.out));(case side2=>repeat(first|(with_reducible first|exact HB.out|apply bA|apply bN|apply b1|refine below_set ?_ (IsS102.ge HI1.out)|refine below_set ?_ GE1.out)|exact HB.out));rintro e w3 ⟨v1,v2,v3,rfl,ho1,ho2,ho3,hi,hb,hk⟩;refine⟨_,rfl,?_⟩;have HO1:=C (Kd.R_lower ho1 (below_size (by repeat(first|(with_reducible first|exact HB.out|apply bA|apply bN|apply b1|refine below_set ?_ (IsS102.ge HI1.out)|refine below_set ?_ GE1.out)|exact HB.out))));have HO2:=C (Kd.Q_lower ho2 (below_size (by repeat(first|(with_reducible first|exact HB.out|apply bA|apply bN|apply b1|refine below_set ?_ (IsS102.ge HI1.out)|refine below_set ?_ GE1.out)|exact HB.out))));have HO3:=C (Kd.R_lower ho3 (below_size (by repeat(first|(with_reducible first|exact HB.out|apply bA|apply bN|apply b1|refine below_set ?_ (IsS102.ge HI1.out)|refine below_set ?_ GE1.out)|exact HB.out))));replace BK1:=C (KeepBut.blk hk (g':=gb1) (o:=.cells #[L none 0 0,V I 0,V I 0,V I 0,O false,V I 0,O false,V I 0,V I 0,L none 0 0,L none 0 0,V I 0,O false,V I 0] 45 (0,0)) (uK BK1.out) NB2_568.out (by simp));replace HB:=C (hb);replace HI1:=C (hi);clear hb hi hk ho1 ho2 ho3)|((with_reducible refine F (f:=41) rfl ?_);refine gl 41 (some 10) Tryd.func41 #[.pointer (some ⟨g1,0,none⟩)] ?_;(with_reducible refine(spec_l39List.calls k g1 t1 t18 t19 t20 t21 t22 w _ ?side1 ?side2 A3.out).mono ?_);(case side1=>repeat(first|(with_reducible first|exact HI1.out|apply IsS102.alloc|apply IsS102.drewN|apply IsS102.drew|apply IsS102.set_1|apply IsS102.set_2|refine IsS102.far ?_ NB1_564.out _)|exact HI1.out));(case side2=>repeat(first|(with_reducible first|exact HB.out|apply bA|apply bN|apply b1|refine below_set ?_ (IsS102.ge HI1.out)|refine below_set ?_ GE1.out)|exact HB.out));rintro e w4 ⟨v4,rfl,ho1,hi,hb,hk⟩;refine⟨_,rfl,?_⟩;have HO4:=C (Kd.R_lower ho1 (below_size (by repeat(first|(with_reducible first|exact HB.out|apply bA|apply bN|apply b1|refine below_set ?_ (IsS102.ge HI1.out)|refine below_set ?_ GE1.out)|exact HB.out))));replace BK1:=C (KeepBut.blk hk (g':=gb1) (o:=.cells #[L none 0 0,V I 0,V I 0,V I 0,O false,V I 0,O false,V I 0,V I 0,L none 0 0,L none 0 0,V I 0,O false,V I 0] 45 (0,0)) (uK BK1.out) NB2_568.out (by simp));replace HO1:=C (X (Kd.R_keep (IsS102.apart (show IsS102 w _ g1 t1 t18 t19 from by repeat(first|(with_reducible first|exact HI1.out|apply IsS102.alloc|apply IsS102.drewN|apply IsS102.drew|apply IsS102.set_1|apply IsS102.set_2|refine IsS102.far ?_ NB1_564.out _)|exact HI1.out)) (uR HO1.out) (by decide)) hk (fun _ h=>h.2)) (fun _ h=>h.1));replace HO2:=C (Kd.Q_mono (Kd.Q_keep (IsS102.apartQ (show IsS102 w _ g1 t1 t18 t19 from by repeat(first|(with_reducible first|exact HI1.out|apply IsS102.alloc|apply IsS102.drewN|apply IsS102.drew|apply IsS102.set_1|apply IsS102.set_2|refine IsS102.far ?_ NB1_564.out _)|exact HI1.out)) (uQ HO2.out) (by decide)) hk (fun _ h=>h.2)) (fun _ h=>h.1));replace HO3:=C (X (Kd.R_keep (IsS102.apart (show IsS102 w _ g1 t1 t18 t19 from by repeat(first|(with_reducible first|exact HI1.out|apply IsS102.alloc|apply IsS102.drewN|apply IsS102.drew|apply IsS102.set_1|apply IsS102.set_2|refine IsS102.far ?_ NB1_564.out _)|exact HI1.out)) (uR HO3.out) (by decide)) hk (fun _ h=>h.2)) (fun _ h=>h.1));replace HB:=C (hb);replace HI1:=C (hi);clear hb hi hk ho1;obtain⟨Ao1,co1,eo1⟩:=Kd.R_slice HO1.out;subst eo1;have hnb1:=NB2_568.out;have hnc1:=NB1_564.out;obtain⟨hcz1_0,hcz1_1,hcz1_2,hcz1_3,hcz1_4,hcz1_5,hcz1_6,hcz1_7,hcz1_8,hcz1_9,hcz1_10,hcz1_11,hcz1_12,hcz1_13,hfz1_0,hfz1_1,hfz1_2,hfz1_3,hfz1_4,hfz1_5,hfz1_6,hfz1_7,hfz1_8,hfz1_9,hfz1_10,hfz1_11,hfz1_12,hfz1_13⟩:=d14 BK1.out;obtain⟨Ao2,co2,eo2,_⟩:=Kd.Q_slice HO2.out;subst eo2;obtain⟨Ao3,co3,eo3⟩:=Kd.R_slice HO3.out;subst eo3))
  refine bodyPost_ret (results_ct rfl _ _ gb1 45 #[L Ao1 t4.length co1,V I t5,V I t6,V I t7,O t8,V I t9,O t10,V I t11,V I t12,L Ao2 t13.length co2,L Ao3 t14.length co3,V I t15,O t16,V I t17] (0,0) _ rfl (bK BK1.out) Tryd.underlying45 rfl (by kernel_rfl)) rfl ?_
  exact⟨_,_,_,_,rE,X (fR (Kd.R_types HO1.out BK1.out (by decide))) (fun _ hk=>trivial),Kd.Q_mono (fQ (Kd.Q_types HO2.out BK1.out (by decide))) (fun _ hk=>hk.1),X (fR (Kd.R_types HO3.out BK1.out (by decide))) (fun _ hk=>hk.1),X (fR (Kd.R_types HO4.out BK1.out (by decide))) (fun _ hk=>trivial),by repeat(first|(with_reducible first|exact HB.out|apply bA|apply bN|apply b1|refine below_set ?_ (IsS102.ge HI1.out)|refine below_set ?_ GE1.out)|exact HB.out)⟩
def strconv_Itoa_43.f (a0:Int):Option ByteArray:=if -9223372036854775808≤a0 then(if a0≤9223372036854775807 then some ⟨(Lib.itoa a0).toArray⟩ else none) else none
theorem strconv_Itoa_43.calls (a0:Int) (r:ByteArray) (w:World) (h:strconv_Itoa_43.f a0=some r) (hTab:Ito.Tab w):
    Calls Tryd.prog 43 #[V I a0] w fun e w'=>e=.returned (.string r)∧Below w.heap.size w w':=by
  unfold strconv_Itoa_43.f at h
  by_cases c1: -9223372036854775808≤a0
  · rw[if_pos c1]at h
    by_cases c2:a0≤9223372036854775807
    · rw[if_pos c2]at h
      obtain rfl:=Option.some.inj h
      refine(Any.strconv_Itoa Tryd.laysItoa a0 c1 c2 w hTab).mono ?_
      rintro e w' ⟨rfl,k,os,rfl⟩
      exact⟨rfl,Lib.below_grow _ _ (Nat.le_refl _) _ _⟩
    · rw[if_neg c2]at h;cases h
  · rw[if_neg c1]at h;cases h
def impl_FormatInt.f (a0:Int):Option (ByteArray):=(strconv_Itoa_43.f a0).bind fun t597=>(some t597)
set_option maxHeartbeats 40000000 in
set_option maxRecDepth 100000 in
theorem impl_FormatInt.calls (a0:Int) (r:ByteArray) (w:World) (h:impl_FormatInt.f a0=some r) (hTab:Ito.Tab w):
    Calls Tryd.prog 19 #[V I a0] w fun e w'=>e=.returned (.string r)∧Below w.heap.size w w':=by
  replace hTab:=C hTab
  have HB:=C (Below.refl w.heap.size w)
  have H:=h
  unfold impl_FormatInt.f at H
  clear h
  obtain⟨t1,A1,H⟩:=bnd H
  obtain rfl:=Option.some.inj H
  go_enter Tryd.func19,Tryd.ntmps19
  go_wp2_with (first|((with_reducible refine F (f:=43) rfl ?_);refine gl 43 (some 4) Tryd.func43 #[V I a0] ?_;(with_reducible refine(strconv_Itoa_43.calls a0 t1 _ A1.out (Ito.on hTab.out uB)).mono ?_);rintro e w1 ⟨rfl,hb⟩;refine⟨_,rfl,?_⟩;replace HB:=eB hb;clear hb))
  go_ret
  exact⟨rE,uB⟩
def impl_within.f (a0:Int) (a1:Int) (a2:Int):Option (Bool):=if a0 ≥ a1 then(some (decide (a0≤a2))) else(some false)
theorem impl_within.W1 {p:Prop} (h:p:=by
    go_enter Tryd.func67,Tryd.ntmps67
    go_wp2
    go_ret
    exact⟨by first|rfl|(simp;done)|(simp[*];done),by repeat(first|exact Drawn0.refl _|apply Drawn0.step)⟩):p:=h
set_option maxHeartbeats 40000000 in
set_option maxRecDepth 100000 in
theorem impl_within.calls (a0:Int) (a1:Int) (a2:Int) (r:Bool) (w:World) (h:impl_within.f a0 a1 a2=some r):
    Calls Tryd.prog 67 #[V I a0,V I a1,V I a2] w fun e w'=>e=.returned (O r)∧Drawn0 w w':=by
  have H:=h
  unfold impl_within.f at H
  clear h
  by_cases c1:a0 ≥ a1
  · rw[if_pos c1]at H
    have c1b0:decide (a1≤a0)=true:=decide_eq_true c1
    clear c1
    obtain rfl:=Option.some.inj H
    exact impl_within.W1
  · rw[if_neg c1]at H
    have c1b0:decide (a1≤a0)=false:=decide_eq_false c1
    clear c1
    obtain rfl:=Option.some.inj H
    exact impl_within.W1
def impl_JobOk.f (a0_0:Int) (a0_1:Int) (a0_2:Int) (a0_3:Bool) (a0_4:Int) (a0_5:Bool):Option (Bool):=(impl_within.f a0_0 1 9999).bind fun t599=>(if t599=true then((impl_within.f a0_1 1 64).bind fun t600=>(if t600=true then((impl_within.f a0_2 1 20).bind fun t601=>(if t601=true then((impl_within.f a0_4 0 9).bind fun t602=>(some t602)) else(some false))) else(some false))) else(some false))
theorem impl_JobOk.W1 {p:Prop} (h:p:=by
    go_enter Tryd.func65,Tryd.ntmps65
    go_wp2_with (first|((with_reducible refine J (N:=1) rfl ?_);refine Fix.be 1 #[V I a0_0,V I a0_1,V I a0_2,O a0_3,V I a0_4,O a0_5] 40 ?_;intro gb1 hg w1 BK1 hb;have GW1:D (w.heap.size≤gb1):=gE hg;have GE1:=GW1;replace HB:=eB hb;clear hb hg;have h_:=d6 BK1.out;(repeat(obtain⟨_,h_⟩:=h_)))|((with_reducible refine F (f:=67) rfl ?_);refine gl 67 (some 5) Tryd.func67 #[V I a0_0,V I 1,V I 9999] ?_;(with_reducible refine(impl_within.calls a0_0 1 9999 true _ A1.out).mono ?_);rintro e w' ⟨rfl,⟨nd,rfl⟩⟩;refine⟨_,rfl,?_⟩)|(go_at_call 67;(with_reducible refine(impl_within.calls a0_1 1 64 true _ A2.out).mono ?_);rintro e w' ⟨rfl,⟨nd,rfl⟩⟩)|(go_at_call 67;(with_reducible refine(impl_within.calls a0_2 1 20 true _ A3.out).mono ?_);rintro e w' ⟨rfl,⟨nd,rfl⟩⟩)|(go_at_call 67;(with_reducible refine(impl_within.calls a0_4 0 9 t4 _ A4.out).mono ?_);rintro e w' ⟨rfl,⟨nd,rfl⟩⟩)|(go_at_call 67;(with_reducible refine(impl_within.calls a0_1 1 64 false _ A2.out).mono ?_);rintro e w' ⟨rfl,⟨nd,rfl⟩⟩))
    go_ret
    exact⟨rE,uB⟩):p:=h
set_option maxHeartbeats 40000000 in
set_option maxRecDepth 100000 in
theorem impl_JobOk.calls (a0_0:Int) (a0_1:Int) (a0_2:Int) (a0_3:Bool) (a0_4:Int) (a0_5:Bool) (r:Bool) (w:World) (h:impl_JobOk.f a0_0 a0_1 a0_2 a0_3 a0_4 a0_5=some r):
    Calls Tryd.prog 65 #[.agg #[V I a0_0,V I a0_1,V I a0_2,O a0_3,V I a0_4,O a0_5]] w fun e w'=>e=.returned (O r)∧Below w.heap.size w w':=by
  have hu1:=Tryd.underlying40
  have HB:=C (Below.refl w.heap.size w)
  have H:=h
  unfold impl_JobOk.f at H
  clear h
  obtain⟨t1,A1,H⟩:=bnd H
  by_cases c1:t1=true
  · subst c1
    rw[if_pos rfl]at H
    obtain⟨t2,A2,H⟩:=bnd H
    by_cases c2:t2=true
    · subst c2
      rw[if_pos rfl]at H
      obtain⟨t3,A3,H⟩:=bnd H
      by_cases c3:t3=true
      · subst c3
        rw[if_pos rfl]at H
        obtain⟨t4,A4,H⟩:=bnd H
        obtain rfl:=Option.some.inj H
        exact impl_JobOk.W1
      · replace c3:=Bool.eq_false_iff.mpr c3
        subst c3
        rw[if_neg Bool.false_ne_true]at H
        obtain rfl:=Option.some.inj H
        go_enter Tryd.func65,Tryd.ntmps65
        go_wp2_with (first|((with_reducible refine J (N:=1) rfl ?_);refine Fix.be 1 #[V I a0_0,V I a0_1,V I a0_2,O a0_3,V I a0_4,O a0_5] 40 ?_;intro gb1 hg w1 BK1 hb;have GW1:D (w.heap.size≤gb1):=gE hg;have GE1:=GW1;replace HB:=eB hb;clear hb hg;obtain⟨hcz1_0,hcz1_1,hcz1_2,hcz1_3,hcz1_4,hcz1_5,hfz1_0,hfz1_1,hfz1_2,hfz1_3,hfz1_4,hfz1_5⟩:=d6 BK1.out)|((with_reducible refine F (f:=67) rfl ?_);refine gl 67 (some 5) Tryd.func67 #[V I a0_0,V I 1,V I 9999] ?_;(with_reducible refine(impl_within.calls a0_0 1 9999 true _ A1.out).mono ?_);rintro e w' ⟨rfl,⟨nd,rfl⟩⟩;refine⟨_,rfl,?_⟩)|(go_at_call 67;(with_reducible refine(impl_within.calls a0_1 1 64 true _ A2.out).mono ?_);rintro e w' ⟨rfl,⟨nd,rfl⟩⟩)|(go_at_call 67;(with_reducible refine(impl_within.calls a0_2 1 20 false _ A3.out).mono ?_);rintro e w' ⟨rfl,⟨nd,rfl⟩⟩))
        go_ret
        exact⟨rE,uB⟩
    · replace c2:=Bool.eq_false_iff.mpr c2
      subst c2
      rw[if_neg Bool.false_ne_true]at H
      obtain rfl:=Option.some.inj H
      exact impl_JobOk.W1
  · replace c1:=Bool.eq_false_iff.mpr c1
    subst c1
    rw[if_neg Bool.false_ne_true]at H
    obtain rfl:=Option.some.inj H
    go_enter Tryd.func65,Tryd.ntmps65
    go_wp2_with (first|((with_reducible refine J (N:=1) rfl ?_);refine Fix.be 1 #[V I a0_0,V I a0_1,V I a0_2,O a0_3,V I a0_4,O a0_5] 40 ?_;intro gb1 hg w1 BK1 hb;have GW1:D (w.heap.size≤gb1):=gE hg;have GE1:=GW1;replace HB:=eB hb;clear hb hg;obtain⟨hcz1_0,hcz1_1,hcz1_2,hcz1_3,hcz1_4,hcz1_5,hfz1_0,hfz1_1,hfz1_2,hfz1_3,hfz1_4,hfz1_5⟩:=d6 BK1.out)|((with_reducible refine F (f:=67) rfl ?_);refine gl 67 (some 5) Tryd.func67 #[V I a0_0,V I 1,V I 9999] ?_;(with_reducible refine(impl_within.calls a0_0 1 9999 false _ A1.out).mono ?_);rintro e w' ⟨rfl,⟨nd,rfl⟩⟩;refine⟨_,rfl,?_⟩))
    go_ret
    exact⟨rE,uB⟩
set_option maxHeartbeats 40000000 in
set_option maxRecDepth 100000 in
theorem impl_jobAt_1.calls (a0 a1 a2:Int) (a3:Bool) (a4:Int) (a5:Bool) (b:Int) (g:Nat) (w:World) (hg:w.cell? ⟨g,0,none⟩=some (V I b)):
    Calls Tryd.prog 115 #[.agg #[V I a0,V I a1,V I a2,O a3,V I a4,O a5],.pointer (some ⟨g,0,none⟩)] w fun e w'=>e=.returned (O (a0==b))∧Below w.heap.size w w':=by
  have hu1:=Tryd.underlying40
  have HG:=C hg
  clear hg
  have HB:=C (Below.refl w.heap.size w)
  go_enter Tryd.func115,Tryd.ntmps115
  go_wp2_with (first|((with_reducible refine J (N:=2) rfl ?_);refine box_event ?hg (N:=2) ?hd (cs:= #[V I a0,V I a1,V I a2,O a3,V I a4,O a5]) (t:=40) ?hr ?_;(case hd=>rfl);(case hg=>rfl);(case hr=>exact Fix.hr);intro gb hg w1 hbox hb;have n0_:=eB hb;have n1_:=C hbox;have n3_:=(hb.cell (World.block_lt_of_cell? w _ HG.out)).trans HG.out;clear HB;have HB:=n0_;have BK:=n1_;clear n0_ n1_;clear hb hbox hg;have h_:=d6 BK.out;(repeat(obtain⟨_,h_⟩:=h_))))
  go_ret
  exact⟨by first|rfl|(simp;done)|(simp[*];done),uB⟩
def jobIdx:List S40→Int→Int→Int
  | [],_,_=> -1
  |y::ys,b,i=>if y.f0=b then i else jobIdx ys b (i+1)
theorem jobIdx_drop (l:List S40) (b i:Int) (h0:0≤i) (h1:i<(l.length:Int)):jobIdx (l.drop i.toNat) b i=if(rd_T40 l i).f0=b then i else jobIdx (l.drop (i+1).toNat) b (i+1):=by
  have hlt:i.toNat<l.length:=by omega
  rw[List.drop_eq_getElem_cons hlt,show(i+1).toNat=i.toNat+1 by omega]
  show(if(l[i.toNat]).f0=b then _ else _)=_
  simp[rd_T40,List.getD,List.getElem?_eq_getElem hlt]
set_option maxHeartbeats 40000000 in
set_option maxRecDepth 100000 in
theorem IndexFunc.calls (A0:Option Addr) (c0:Nat) (l0:List (S40)) (b:Int) (g:Nat) (w:World) (hr0:Kd.C k40 w A0 l0.length l0) (hc0:l0.length≤c0) (hl:l0.length<4611686018427387904) (hg:w.cell? ⟨g,0,none⟩=some (V I b)):
    Calls Tryd.prog 114 #[L A0 l0.length c0,.func (.func 115) #[] #[.pointer (some ⟨g,0,none⟩)]] w fun e w'=>e=.returned (V I (jobIdx l0 b 0))∧Below w.heap.size w w':=by
  obtain⟨r,hr⟩:∃r,r=jobIdx l0 b 0:=⟨_,rfl⟩
  rw[←hr]
  have hu40:=Tryd.underlying40
  have HR0:=C hr0
  have HL:=C hl
  have HG:=C hg
  have HX:=C hr
  clear hg hr0 hr hc0 hl
  have HB:=C (Below.refl w.heap.size w)
  go_enter Tryd.func114,Tryd.ntmps114
  go_wp2
  go_loopg [8] (l0.length+1) (fun kq v8 w'=>∃(x8_1:Int),v8=V I x8_1∧D (0≤x8_1∧x8_1≤l0.length∧x8_1+kq=l0.length+1)∧D (jobIdx (l0.drop x8_1.toNat) b x8_1=r)∧D (Below w.heap.size w w'))
  case atStart=>exact⟨0,rS,⟨by omega⟩,⟨by simpa using HX.out.symm⟩,⟨uB⟩⟩
  case round=>
    obtain⟨x8_1,rfl,HI,HJ,HB⟩:=hrel
    cases gk with
    |zero=>exact absurd HI.out.2 (by omega)
    |succ k1=>
      by_cases c3:x8_1<(l0.length:Int)
      · have c4:=HI.out.1
        have H:=HJ.out
        rw[jobIdx_drop l0 b x8_1 c4 c3]at H
        clear HJ
        obtain⟨ad,ead,hx0,hx1,hx2,hx3,hx4,hx5⟩:=at_T40 HR0.out x8_1 c4 c3
        cases ead
        replace hx0:=hx HB hx0
        replace hx1:=hx HB hx1
        replace hx2:=hx HB hx2
        replace hx3:=hx HB hx3
        replace hx4:=hx HB hx4
        replace hx5:=hx HB hx5
        have hgw:=C ((HB.out.cell (World.block_lt_of_cell? w _ HG.out)).trans HG.out)
        have p1:=eq_true c4
        have q1:=eq_true c3
        have c3b0:decide (x8_1<(l0.length:Int))=true:=decide_eq_true c3
        have c4b0:decide (0≤x8_1)=true:=decide_eq_true c4
        have hw1:wrap64 (x8_1+1)=x8_1+1:=by have:=HL.out;unfold wrap64;omega
        have HW:=C hw1
        clear c3 c4 hw1
        by_cases c5:(rd_T40 l0 x8_1).f0=b
        · rw[if_pos c5]at H
          have c5b:((rd_T40 l0 x8_1).f0==b)=true:=beq_iff_eq.mpr c5
          have HH:=C H
          clear c5 H
          go_wp2_with (first|((with_reducible refine Ext.gate_tmp (t:=11) rfl ?_);refine Ext.goesC_ (t:=11) (f:=115) (some 16) rfl rfl Tryd.func115 (by kernel_rfl) rfl _ (.tmp 15) rfl rfl rfl ?_;refine(impl_jobAt_1.calls _ _ _ _ _ _ b g _ hgw.out).mono ?_;rintro e w9 ⟨rfl,hb⟩;refine⟨_,rfl,?_⟩;have n0_:=C (below_step HB.out hb);clear HB;have HB:=n0_;clear n0_ hb))
          go_ret
          exact⟨by rw[HH.out];rfl,HB.out⟩
        · rw[if_neg c5]at H
          have c5b:((rd_T40 l0 x8_1).f0==b)=false:=beq_eq_false_iff_ne.mpr c5
          clear c5
          have HJ:=C H
          clear H
          go_wp2_with (first|((with_reducible refine Ext.gate_tmp (t:=11) rfl ?_);refine Ext.goesC_ (t:=11) (f:=115) (some 16) rfl rfl Tryd.func115 (by kernel_rfl) rfl _ (.tmp 15) rfl rfl rfl ?_;refine(impl_jobAt_1.calls _ _ _ _ _ _ b g _ hgw.out).mono ?_;rintro e w9 ⟨rfl,hb⟩;refine⟨_,rfl,?_⟩;have n0_:=C (below_step HB.out hb);clear HB;have HB:=n0_;clear n0_ hb))
          go_roundg k1
          case measure=>omega
          case rel=>exact⟨x8_1+1,(by rw[HW.out]),⟨by have:=HI.out;have:=of_eq_true q1;omega⟩,HJ,HB⟩
      · have H:=HJ.out
        rw[show l0.drop x8_1.toNat= [] from List.drop_eq_nil_of_le (by have:=HI.out;omega)]at H
        have c3b0:decide (x8_1<(l0.length:Int))=false:=decide_eq_false c3
        have HH:=C H
        clear c3 H HJ
        go_wp2
        go_ret
        exact⟨by rw[←HH.out];rfl,HB.out⟩
def impl_jobAt.f (l0:List S40) (a1:Int):Option Int:=if l0.length<4611686018427387904 then some (jobIdx l0 a1 0) else none
set_option maxHeartbeats 40000000 in
set_option maxRecDepth 100000 in
theorem impl_jobAt.calls (A0:Option Addr) (c0:Nat) (l0:List (S40)) (a1:Int) (r:Int) (w:World) (hr0:Kd.C k40 w A0 l0.length l0) (hc0:l0.length≤c0) (h:impl_jobAt.f l0 a1=some r):
    Calls Tryd.prog 101 #[L A0 l0.length c0,V I a1] w fun e w'=>e=.returned (V I r)∧Below w.heap.size w w':=by
  unfold impl_jobAt.f at h
  by_cases hl:l0.length<4611686018427387904
  · rw[if_pos hl]at h
    obtain rfl:=Option.some.inj h
    have HR1:=C hr0
    have HC1:=C hc0
    have HL:=C hl
    clear hr0 hc0 hl h
    have HB:=C (Below.refl w.heap.size w)
    go_enter Tryd.func101,Tryd.ntmps101
    go_wp2_with (first|((with_reducible refine J (N:=3) rfl ?_);refine box_event ?hg (N:=3) ?hd (cs:= #[V I a1]) (t:=3) ?hr ?_;(case hd=>rfl);(case hg=>rfl);(case hr=>exact Fix.hr);intro gb hg w1 hbox hb;have BK:=C ((blk_cell hbox 0).trans rfl:w1.cell? ⟨gb,0,none⟩=some (V I a1));replace HB:=eB hb;clear hb hbox hg)|(go_at_call 114;refine(IndexFunc.calls _ _ l0 a1 gb _ (Kd.C_below HR1.out HB.out) HC1.out HL.out BK.out).mono ?_;rintro e w2 ⟨rfl,hb⟩;have n0_:=C (below_step HB.out hb);clear HB;have HB:=n0_;clear n0_ hb))
    go_ret
    exact⟨rfl,HB.out⟩
  · rw[if_neg hl]at h
    exact absurd h (by simp)
def impl_JobsOk.l0:Nat→List (S40)→List (S40)→Int→Int→Option (Bool)
  |0,_,_,_,_=>none
  |k+1,x0,x8,x9,x10=>if x10<x9 then(if 0≤x10 then(if x10<(x8.length:Int) then((impl_JobOk.f ((rd_T40 x8 x10).f0) ((rd_T40 x8 x10).f1) ((rd_T40 x8 x10).f2) ((rd_T40 x8 x10).f3) ((rd_T40 x8 x10).f4) ((rd_T40 x8 x10).f5)).bind fun t606=>(if t606=true then((impl_jobAt.f x0 ((rd_T40 x8 x10).f0)).bind fun t607=>(if t607=x10 then(impl_JobsOk.l0 k x0 x8 x9 (wrap64 (x10+1))) else(some false))) else(some false))) else(none)) else(none)) else(some true)
def impl_JobsOk.f (k:Nat) (l0:List (S40)):Option (Bool):=if(l0.length:Int) >12 then(some false) else(impl_JobsOk.l0 k l0 l0 (l0.length:Int) 0)
theorem impl_JobsOk.mono_l:∀k,(∀y0 y1 y2 y3,LeO (impl_JobsOk.l0 k y0 y1 y2 y3) (impl_JobsOk.l0 (k+1) y0 y1 y2 y3))
  |0=>fun _ _ _ _ r h=>by simp[impl_JobsOk.l0]at h
  |k+1=>by
    have ih0:=impl_JobsOk.mono_l k
    · intro y0 y1 y2 y3
      unfold impl_JobsOk.l0
      repeat' first|(with_reducible first|apply ih0|exact LeO.refl _|exact LeO.none _|refine LeO.ite ?_ ?_|refine LeO.bind ?_ (fun _=> ?_))|apply ih0|exact LeO.none _|refine LeO.ite ?_ ?_|refine LeO.bind ?_ (fun _=> ?_)
theorem impl_JobsOk.mono:∀a0 k,LeO (impl_JobsOk.f k a0) (impl_JobsOk.f (k+1) a0):=by
  intro a0 k
  have ih0:=impl_JobsOk.mono_l k
  unfold impl_JobsOk.f
  repeat' first|(with_reducible first|apply ih0|exact LeO.refl _|exact LeO.none _|refine LeO.ite ?_ ?_|refine LeO.bind ?_ (fun _=> ?_))|apply ih0|exact LeO.none _|refine LeO.ite ?_ ?_|refine LeO.bind ?_ (fun _=> ?_)
set_option maxHeartbeats 40000000 in
set_option maxRecDepth 100000 in
theorem impl_JobsOk.calls (k:Nat) (A0:Option Addr) (c0:Nat) (l0:List (S40)) (r:Bool) (w:World) (hr0:Kd.C k40 w A0 l0.length l0) (hc0:l0.length≤c0) (h:impl_JobsOk.f k l0=some r):
    Calls Tryd.prog 70 #[L A0 l0.length c0] w fun e w'=>e=.returned (O r)∧Below w.heap.size w w':=by
  have hu1:=Tryd.underlying40
  have HR1:=C hr0
  have HC1:=C hc0
  (try clear hr0);(try clear hc0)
  have HB:=C (Below.refl w.heap.size w)
  have H:=h
  unfold impl_JobsOk.f at H
  clear h
  by_cases c1:(l0.length:Int) >12
  · rw[if_pos c1]at H
    have c1b0:decide (12<(l0.length:Int))=true:=decide_eq_true c1
    have c1b1:decide (12<l0.length)=true:=decide_eq_true (by omega)
    clear c1
    obtain rfl:=Option.some.inj H
    go_enter Tryd.func70,Tryd.ntmps70
    go_wp2
    go_ret
    exact⟨rE,uB⟩
  · rw[if_neg c1]at H
    have c1b0:decide (12<(l0.length:Int))=false:=decide_eq_false c1
    have c1b1:decide (12<l0.length)=false:=decide_eq_false (by omega)
    clear c1
    have H':=C H
    clear H
    go_enter Tryd.func70,Tryd.ntmps70
    go_wp2
    go_loopg [10] k (fun kq v10 w'=>∃(x1_1:Int),v10=V I x1_1∧D (impl_JobsOk.l0 kq l0 l0 (l0.length:Int) x1_1=some r)∧D (kq≤k)∧D (Below w.heap.size w w'))
    case atStart=>exact⟨(0),rS,H',⟨Nat.le_refl _⟩,⟨uB⟩⟩
    case round=>
      clear H'
      obtain⟨x1_1,rfl,HA,HK1,HB⟩:=hrel
      cases gk with
      |zero=>exact absurd HA.out (by simp[impl_JobsOk.l0])
      |succ k1=>
        have H:=HA.out
        clear HA
        simp only[impl_JobsOk.l0]at H
        by_cases c2:x1_1<(l0.length:Int)
        · rw[if_pos c2]at H
          have c2b0:decide (x1_1<(l0.length:Int))=true:=decide_eq_true c2
          clear c2
          by_cases c3:0≤x1_1
          · rw[if_pos c3]at H
            have c3b0:decide (0≤x1_1)=true:=decide_eq_true c3
            clear c3
            by_cases c4:x1_1<(l0.length:Int)
            · rw[if_pos c4]at H
              have c4b0:decide (x1_1<(l0.length:Int))=true:=decide_eq_true c4
              clear c4
              obtain⟨t1,A1,H⟩:=bnd H
              by_cases c5:t1=true
              · subst c5
                rw[if_pos rfl]at H
                obtain⟨t2,A2,H⟩:=bnd H
                by_cases c6:t2=x1_1
                · rw[if_pos c6]at H
                  have c6b0:(t2==x1_1)=true:=beq_iff_eq.mpr c6
                  have c6b1:(t2 !=x1_1)=false:=bne_eq_false_iff_eq.mpr c6
                  clear c6
                  have H':=C H
                  clear H
                  have p1:0≤(x1_1:Int):=of_decide_eq_true (by first|(with_reducible assumption)|assumption)
                  have q1:x1_1<(l0.length:Int):=of_decide_eq_true (by first|(with_reducible assumption)|assumption)
                  obtain⟨ad1,e1,hx1_0,hx1_1,hx1_2,hx1_3,hx1_4,hx1_5⟩:=at_T40 HR1.out x1_1 p1 q1
                  cases e1
                  replace hx1_0:=hx HB hx1_0
                  replace hx1_1:=hx HB hx1_1
                  replace hx1_2:=hx HB hx1_2
                  replace hx1_3:=hx HB hx1_3
                  replace hx1_4:=hx HB hx1_4
                  replace hx1_5:=hx HB hx1_5
                  replace p1:=eq_true p1
                  replace q1:=eq_true q1
                  go_wp2_with (first|((with_reducible refine J (N:=4) rfl ?_);refine Fix.be 4 #[V I 0,V I 0,V I 0,O false,V I 0,O false] 40 ?_;intro gb1 hg w1 BK1 hb;have GW1:D (w.heap.size≤gb1):=gE hg;have GE1:=GW1;replace HB:=eB hb;clear hb hg;obtain⟨hcz1_0,hcz1_1,hcz1_2,hcz1_3,hcz1_4,hcz1_5,hfz1_0,hfz1_1,hfz1_2,hfz1_3,hfz1_4,hfz1_5⟩:=d6 BK1.out)|((with_reducible refine F (f:=65) rfl ?_);refine gl 65 (some 16) Tryd.func65 #[.agg #[V I ((rd_T40 l0 x1_1).f0),V I ((rd_T40 l0 x1_1).f1),V I ((rd_T40 l0 x1_1).f2),O ((rd_T40 l0 x1_1).f3),V I ((rd_T40 l0 x1_1).f4),O ((rd_T40 l0 x1_1).f5)]] ?_;(with_reducible refine(impl_JobOk.calls ((rd_T40 l0 x1_1).f0) ((rd_T40 l0 x1_1).f1) ((rd_T40 l0 x1_1).f2) ((rd_T40 l0 x1_1).f3) ((rd_T40 l0 x1_1).f4) ((rd_T40 l0 x1_1).f5) true _ A1.out).mono ?_);rintro e w2 ⟨rfl,hb⟩;refine⟨_,rfl,?_⟩;replace BK1:=C (blk_below (g:=gb1) (o:=.cells #[V I ((rd_T40 l0 x1_1).f0),V I ((rd_T40 l0 x1_1).f1),V I ((rd_T40 l0 x1_1).f2),O ((rd_T40 l0 x1_1).f3),V I ((rd_T40 l0 x1_1).f4),O ((rd_T40 l0 x1_1).f5)] 40 (0,0)) (bK BK1.out) hb);replace HB:=eB hb;clear hb;have h_:=d6 BK1.out;(repeat(obtain⟨_,h_⟩:=h_)))|(go_at_call 101;(with_reducible refine(impl_jobAt.calls _ _ l0 ((rd_T40 l0 x1_1).f0) t2 _ ?side1 ?side2 A2.out).mono ?_);(case side1=>exact uC (Kd.C_below HR1.out HB.out));(case side2=>exact HC1.out);rintro e w3 ⟨rfl,hb⟩;replace BK1:=eK BK1 hb;replace HB:=eB hb;clear hb))
                  go_roundg k1
                  case measure=>have:=HK1.out;omega
                  case rel=>exact⟨(wrap64 (x1_1+1)),rS,H',⟨by have:=HK1.out;omega⟩,⟨uB⟩⟩
                · rw[if_neg c6]at H
                  have c6b0:(t2==x1_1)=false:=beq_eq_false_iff_ne.mpr c6
                  have c6b1:(t2 !=x1_1)=true:=bne_iff_ne.mpr c6
                  obtain rfl:=Option.some.inj H
                  have p1:0≤(x1_1:Int):=of_decide_eq_true (by first|(with_reducible assumption)|assumption)
                  have q1:x1_1<(l0.length:Int):=of_decide_eq_true (by first|(with_reducible assumption)|assumption)
                  obtain⟨ad1,e1,hx1_0,hx1_1,hx1_2,hx1_3,hx1_4,hx1_5⟩:=at_T40 HR1.out x1_1 p1 q1
                  cases e1
                  replace hx1_0:=hx HB hx1_0
                  replace hx1_1:=hx HB hx1_1
                  replace hx1_2:=hx HB hx1_2
                  replace hx1_3:=hx HB hx1_3
                  replace hx1_4:=hx HB hx1_4
                  replace hx1_5:=hx HB hx1_5
                  replace p1:=eq_true p1
                  replace q1:=eq_true q1
                  go_wp2_with (first|((with_reducible refine J (N:=4) rfl ?_);refine Fix.be 4 #[V I 0,V I 0,V I 0,O false,V I 0,O false] 40 ?_;intro gb1 hg w1 BK1 hb;have GW1:D (w.heap.size≤gb1):=gE hg;have GE1:=GW1;replace HB:=eB hb;clear hb hg;obtain⟨hcz1_0,hcz1_1,hcz1_2,hcz1_3,hcz1_4,hcz1_5,hfz1_0,hfz1_1,hfz1_2,hfz1_3,hfz1_4,hfz1_5⟩:=d6 BK1.out)|((with_reducible refine F (f:=65) rfl ?_);refine gl 65 (some 16) Tryd.func65 #[.agg #[V I ((rd_T40 l0 x1_1).f0),V I ((rd_T40 l0 x1_1).f1),V I ((rd_T40 l0 x1_1).f2),O ((rd_T40 l0 x1_1).f3),V I ((rd_T40 l0 x1_1).f4),O ((rd_T40 l0 x1_1).f5)]] ?_;(with_reducible refine(impl_JobOk.calls ((rd_T40 l0 x1_1).f0) ((rd_T40 l0 x1_1).f1) ((rd_T40 l0 x1_1).f2) ((rd_T40 l0 x1_1).f3) ((rd_T40 l0 x1_1).f4) ((rd_T40 l0 x1_1).f5) true _ A1.out).mono ?_);rintro e w2 ⟨rfl,hb⟩;refine⟨_,rfl,?_⟩;replace BK1:=C (blk_below (g:=gb1) (o:=.cells #[V I ((rd_T40 l0 x1_1).f0),V I ((rd_T40 l0 x1_1).f1),V I ((rd_T40 l0 x1_1).f2),O ((rd_T40 l0 x1_1).f3),V I ((rd_T40 l0 x1_1).f4),O ((rd_T40 l0 x1_1).f5)] 40 (0,0)) (bK BK1.out) hb);replace HB:=eB hb;clear hb;have h_:=d6 BK1.out;(repeat(obtain⟨_,h_⟩:=h_)))|(go_at_call 101;(with_reducible refine(impl_jobAt.calls _ _ l0 ((rd_T40 l0 x1_1).f0) t2 _ ?side1 ?side2 A2.out).mono ?_);(case side1=>exact uC (Kd.C_below HR1.out HB.out));(case side2=>exact HC1.out);rintro e w3 ⟨rfl,hb⟩;replace BK1:=eK BK1 hb;replace HB:=eB hb;clear hb))
                  go_ret
                  exact⟨rE,uB⟩
              · replace c5:=Bool.eq_false_iff.mpr c5
                subst c5
                rw[if_neg Bool.false_ne_true]at H
                obtain rfl:=Option.some.inj H
                have p1:0≤(x1_1:Int):=of_decide_eq_true (by first|(with_reducible assumption)|assumption)
                have q1:x1_1<(l0.length:Int):=of_decide_eq_true (by first|(with_reducible assumption)|assumption)
                obtain⟨ad1,e1,hx1_0,hx1_1,hx1_2,hx1_3,hx1_4,hx1_5⟩:=at_T40 HR1.out x1_1 p1 q1
                cases e1
                replace hx1_0:=hx HB hx1_0
                replace hx1_1:=hx HB hx1_1
                replace hx1_2:=hx HB hx1_2
                replace hx1_3:=hx HB hx1_3
                replace hx1_4:=hx HB hx1_4
                replace hx1_5:=hx HB hx1_5
                replace p1:=eq_true p1
                replace q1:=eq_true q1
                go_wp2_with (first|((with_reducible refine J (N:=4) rfl ?_);refine Fix.be 4 #[V I 0,V I 0,V I 0,O false,V I 0,O false] 40 ?_;intro gb1 hg w1 BK1 hb;have GW1:D (w.heap.size≤gb1):=gE hg;have GE1:=GW1;replace HB:=eB hb;clear hb hg;have h_:=d6 BK1.out;(repeat(obtain⟨_,h_⟩:=h_)))|((with_reducible refine F (f:=65) rfl ?_);refine gl 65 (some 16) Tryd.func65 #[.agg #[V I ((rd_T40 l0 x1_1).f0),V I ((rd_T40 l0 x1_1).f1),V I ((rd_T40 l0 x1_1).f2),O ((rd_T40 l0 x1_1).f3),V I ((rd_T40 l0 x1_1).f4),O ((rd_T40 l0 x1_1).f5)]] ?_;(with_reducible refine(impl_JobOk.calls ((rd_T40 l0 x1_1).f0) ((rd_T40 l0 x1_1).f1) ((rd_T40 l0 x1_1).f2) ((rd_T40 l0 x1_1).f3) ((rd_T40 l0 x1_1).f4) ((rd_T40 l0 x1_1).f5) false _ A1.out).mono ?_);rintro e w2 ⟨rfl,hb⟩;refine⟨_,rfl,?_⟩;replace BK1:=C (blk_below (g:=gb1) (o:=.cells #[V I ((rd_T40 l0 x1_1).f0),V I ((rd_T40 l0 x1_1).f1),V I ((rd_T40 l0 x1_1).f2),O ((rd_T40 l0 x1_1).f3),V I ((rd_T40 l0 x1_1).f4),O ((rd_T40 l0 x1_1).f5)] 40 (0,0)) (bK BK1.out) hb);replace HB:=eB hb;clear hb))
                go_ret
                exact⟨rE,uB⟩
            · rw[if_neg c4]at H
              exact absurd H (by simp)
          · rw[if_neg c3]at H
            exact absurd H (by simp)
        · rw[if_neg c2]at H
          have c2b0:decide (x1_1<(l0.length:Int))=false:=decide_eq_false c2
          clear c2
          obtain rfl:=Option.some.inj H
          go_wp2
          go_ret
          exact⟨rE,uB⟩
set_option maxHeartbeats 40000000 in
set_option maxRecDepth 100000 in
theorem slices_Grow_int_int.ofnil (n:Int) (w:World) (h0:0≤n) (h1:n≤17592186044415):
    Calls Tryd.prog 116 #[L none 0 0,V I n] w fun e w'=>∃v:Value,e=.returned v∧Kd.R (Kd.int .i64) 3 w' w.heap.size (fun _=>True) v []∧Below w.heap.size w w':=by
  have c1:decide (n<0)=false:=decide_eq_false (by omega)
  by_cases hz:n=0
  · subst hz
    go_enter Tryd.func116,Tryd.ntmps116
    go_wp2
    go_ret
    exact⟨_,rfl,Kd.R_nil _ _ _ _ _,Below.refl _ _⟩
  · have c2:decide (0<n)=true:=decide_eq_true (by omega)
    have hn:=C h0
    have hn1:=C h1
    go_enter Tryd.func116,Tryd.ntmps116
    go_wp2_with ((with_reducible refine gate_builtin (b:=.append) (xs:= #[.tmp 20,.tmp 21]) rfl ?_);at_builtin;refine Kd.R_append_zeros (Kd.int .i64) (w0:=w) w.heap.size rfl (.tmp 20) (.tmp 21) 41 3 3 (V I 0) 8 rfl Tryd.underlying41 Tryd.underlying3 info3 rfl (by decide) (by omega) (L none 0 0) [] 0 n (fun _=>True) rfl rfl ?aZ (fun _ _=>trivial) (Kd.R_nil _ _ _ _ _) hn.out (Below.refl _ _) (Nat.le_refl _) ?aL ?_;(case aZ=>rfl);(case aL=>have:=hn1.out;simp;omega);intro v1 w1 hR hb hg hat;clear hg hat;obtain⟨A,c,rfl⟩:=Kd.R_slice hR;have HR:=C hR;have HB:=C hb;clear hR hb)
    go_ret
    exact⟨_,rfl,(Kd.R_take HR.out (m:=0) (Nat.zero_le _)),HB.out⟩
mutual
def slices_Concat_int_int.l0:Nat→List (List Int)→Int→List (List Int)→Int→Int→Option (List Int)
  |0,_,_,_,_,_=>none
  |k+1,x0,x3,x9,x10,x11=>if x11<x10 then(if 0≤x11 then(if x11<(x9.length:Int) then(if(wrap64 (x3+((rd_L4 x9 x11).length:Int)))<0 then(none) else(slices_Concat_int_int.l0 k x0 (wrap64 (x3+((rd_L4 x9 x11).length:Int))) x9 x10 (wrap64 (x11+1)))) else(none)) else(none)) else(if x3<0 then(none) else(if x3 >17592186044415 then(none) else(slices_Concat_int_int.l1 k ([]:List Int) x0 (x0.length:Int) 0)))
def slices_Concat_int_int.l1:Nat→List Int→List (List Int)→Int→Int→Option (List Int)
  |0,_,_,_,_=>none
  |k+1,x6,x25,x26,x27=>if x27<x26 then(if 0≤x27 then(if x27<(x25.length:Int) then(if x6.length+(rd_L4 x25 x27).length<17592186044416 then(slices_Concat_int_int.l1 k (x6++(rd_L4 x25 x27)) x25 x26 (wrap64 (x27+1))) else(none)) else(none)) else(none)) else(some x6)
end
def slices_Concat_int_int.f (k:Nat) (l0:List (List Int)):Option (List Int):=slices_Concat_int_int.l0 k l0 0 l0 (l0.length:Int) 0
theorem slices_Concat_int_int.mono_l:∀k,(∀y0 y1 y2 y3 y4,LeO (slices_Concat_int_int.l0 k y0 y1 y2 y3 y4) (slices_Concat_int_int.l0 (k+1) y0 y1 y2 y3 y4))∧(∀y0 y1 y2 y3,LeO (slices_Concat_int_int.l1 k y0 y1 y2 y3) (slices_Concat_int_int.l1 (k+1) y0 y1 y2 y3))
  |0=>⟨fun _ _ _ _ _ r h=>by simp[slices_Concat_int_int.l0]at h,fun _ _ _ _ r h=>by simp[slices_Concat_int_int.l1]at h⟩
  |k+1=>by
    obtain⟨ih0,ih1⟩:=slices_Concat_int_int.mono_l k
    refine⟨?_,?_⟩
    · intro y0 y1 y2 y3 y4
      unfold slices_Concat_int_int.l0
      repeat' first|(with_reducible first|apply ih0|apply ih1|exact LeO.refl _|exact LeO.none _|refine LeO.ite ?_ ?_|refine LeO.bind ?_ (fun _=> ?_))|apply ih0|apply ih1|exact LeO.none _|refine LeO.ite ?_ ?_|refine LeO.bind ?_ (fun _=> ?_)
    · intro y0 y1 y2 y3
      unfold slices_Concat_int_int.l1
      repeat' first|(with_reducible first|apply ih0|apply ih1|exact LeO.refl _|exact LeO.none _|refine LeO.ite ?_ ?_|refine LeO.bind ?_ (fun _=> ?_))|apply ih0|apply ih1|exact LeO.none _|refine LeO.ite ?_ ?_|refine LeO.bind ?_ (fun _=> ?_)
theorem slices_Concat_int_int.mono:∀a0 k,LeO (slices_Concat_int_int.f k a0) (slices_Concat_int_int.f (k+1) a0):=by
  intro a0 k
  obtain⟨ih0,ih1⟩:=slices_Concat_int_int.mono_l k
  unfold slices_Concat_int_int.f
  repeat' first|(with_reducible first|apply ih0|apply ih1|exact LeO.refl _|exact LeO.none _|refine LeO.ite ?_ ?_|refine LeO.bind ?_ (fun _=> ?_))|apply ih0|apply ih1|exact LeO.none _|refine LeO.ite ?_ ?_|refine LeO.bind ?_ (fun _=> ?_)
set_option maxHeartbeats 40000000 in
set_option maxRecDepth 100000 in
theorem slices_Concat_int_int.calls (k:Nat) (A0:Option Addr) (c0:Nat) (l0:List (List Int)) (r:List Int) (w:World) (hr0:Kd.C (Kd.slice 3 (Kd.int .i64)) w A0 l0.length l0) (hc0:l0.length≤c0) (h:slices_Concat_int_int.f k l0=some r):
    Calls Tryd.prog 102 #[L A0 l0.length c0] w fun e w'=>∃v0_:Value,e=.returned (v0_)∧Kd.R (Kd.int .i64) 3 w' w.heap.size (fun _=>True) v0_ r∧Below w.heap.size w w':=by
  have HR1:=C hr0
  have HC1:=C hc0
  (try clear hr0);(try clear hc0)
  have HB:=C (Below.refl w.heap.size w)
  have H:=h
  unfold slices_Concat_int_int.f at H
  clear h
  have H':=C H
  clear H
  go_enter Tryd.func102,Tryd.ntmps102
  go_wp2
  go_loopg [3,11] k (fun kq v3 v11 w'=>∃(x1_1:Int) (x2_1:Int),v3=V I x1_1∧v11=V I x2_1∧D (slices_Concat_int_int.l0 kq l0 x1_1 l0 (l0.length:Int) x2_1=some r)∧D (kq≤k)∧D (Below w.heap.size w w'))
  case atStart=>exact⟨(0),(0),rS,rS,H',⟨Nat.le_refl _⟩,⟨uB⟩⟩
  case round=>
    clear H'
    obtain⟨x1_1,x2_1,rfl,rfl,HA,HK1,HB⟩:=hrel
    cases gk with
    |zero=>exact absurd HA.out (by simp[slices_Concat_int_int.l0])
    |succ k1=>
      have H:=HA.out
      clear HA
      simp only[slices_Concat_int_int.l0]at H
      by_cases c1:x2_1<(l0.length:Int)
      · rw[if_pos c1]at H
        have c1b0:decide (x2_1<(l0.length:Int))=true:=decide_eq_true c1
        clear c1
        by_cases c2:0≤x2_1
        · rw[if_pos c2]at H
          have c2b0:decide (0≤x2_1)=true:=decide_eq_true c2
          clear c2
          by_cases c3:x2_1<(l0.length:Int)
          · rw[if_pos c3]at H
            have c3b0:decide (x2_1<(l0.length:Int))=true:=decide_eq_true c3
            clear c3
            by_cases c4:(wrap64 (x1_1+((rd_L4 l0 x2_1).length:Int)))<0
            · rw[if_pos c4]at H
              exact absurd H (by simp)
            · rw[if_neg c4]at H
              have c4b0:decide ((wrap64 (x1_1+((rd_L4 l0 x2_1).length:Int)))<0)=false:=decide_eq_false c4
              clear c4
              have H':=C H
              clear H
              have p1:0≤(x2_1:Int):=of_decide_eq_true (by first|(with_reducible assumption)|assumption)
              have q1:x2_1<(l0.length:Int):=of_decide_eq_true (by first|(with_reducible assumption)|assumption)
              obtain⟨ad1,A1_0,c5_0,e1,hx1_0,hl1_0,hi1_0⟩:=at_L4 HR1.out x2_1 p1 q1
              cases e1
              replace hx1_0:=hx HB hx1_0
              have HR2_0:=C hi1_0
              have HC2_0:=C hl1_0
              clear hi1_0 hl1_0
              replace p1:=eq_true p1
              replace q1:=eq_true q1
              go_wp2
              go_roundg k1
              case measure=>have:=HK1.out;omega
              case rel=>exact⟨(wrap64 (x1_1+((rd_L4 l0 x2_1).length:Int))),(wrap64 (x2_1+1)),rS,rS,H',⟨by have:=HK1.out;omega⟩,⟨uB⟩⟩
          · rw[if_neg c3]at H
            exact absurd H (by simp)
        · rw[if_neg c2]at H
          exact absurd H (by simp)
      · rw[if_neg c1]at H
        have c1b0:decide (x2_1<(l0.length:Int))=false:=decide_eq_false c1
        clear c1
        by_cases c2:x1_1<0
        · rw[if_pos c2]at H
          exact absurd H (by simp)
        · rw[if_neg c2]at H
          have c2b0:decide (x1_1<0)=false:=decide_eq_false c2
          clear c2
          by_cases c3:x1_1 >17592186044415
          · rw[if_pos c3]at H
            exact absurd H (by simp)
          · rw[if_neg c3]at H
            have c3b0:decide (17592186044415<x1_1)=false:=decide_eq_false c3
            clear c3
            have H':=C H
            clear H
            have G1:D (0≤x1_1):=⟨by have:=of_decide_eq_false (show decide (x1_1<0)=false by assumption);omega⟩
            have G2:D (x1_1≤17592186044415):=⟨by have:=of_decide_eq_false (show decide (x1_1 >17592186044415)=false by assumption);omega⟩
            go_wp2_with (go_at_call 116;(with_reducible refine(slices_Grow_int_int.ofnil x1_1 _ G1.out G2.out).mono ?_);rintro e w1 ⟨vg,rfl,hvg,hbg⟩;have HG:=C (Kd.R_lower hvg (below_size HB.out));have n1_:=C (below_step HB.out hbg);clear HB;have HB:=n1_;clear n1_ hvg hbg)
            go_loopg [6,27] k1 (fun kq v6 v27 w'=>∃(x3_2:List Int) (x4_2:Int),v27=V I x4_2∧D (slices_Concat_int_int.l1 kq x3_2 l0 (l0.length:Int) x4_2=some r)∧D (kq≤k1)∧D (Kd.R (Kd.int .i64) 3 w' w.heap.size (fun _=>True) v6 x3_2)∧D (Below w.heap.size w w'))
            case atStart=>exact⟨(([]:List Int)),(0),rS,H',⟨Nat.le_refl _⟩,⟨HG.out⟩,⟨uB⟩⟩
            case round=>
              clear H'
              obtain⟨x3_2,x4_2,rfl,HA,HK2,HO_1,HB⟩:=hrel
              cases gk with
              |zero=>exact absurd HA.out (by simp[slices_Concat_int_int.l1])
              |succ k2=>
                have H:=HA.out
                clear HA
                simp only[slices_Concat_int_int.l1]at H
                by_cases c4:x4_2<(l0.length:Int)
                · rw[if_pos c4]at H
                  have c4b0:decide (x4_2<(l0.length:Int))=true:=decide_eq_true c4
                  clear c4
                  by_cases c5:0≤x4_2
                  · rw[if_pos c5]at H
                    have c5b0:decide (0≤x4_2)=true:=decide_eq_true c5
                    clear c5
                    by_cases c6:x4_2<(l0.length:Int)
                    · rw[if_pos c6]at H
                      have c6b0:decide (x4_2<(l0.length:Int))=true:=decide_eq_true c6
                      clear c6
                      by_cases c7:x3_2.length+(rd_L4 l0 x4_2).length<17592186044416
                      · rw[if_pos c7]at H
                        have LMc1:=C c7
                        clear c7
                        obtain⟨y1,hy1⟩:∃y_:List Int,y_=(x3_2++(rd_L4 l0 x4_2)):=⟨_,rfl⟩
                        replace H:(slices_Concat_int_int.l1 k2 y1 l0 (l0.length:Int) (wrap64 (x4_2+1)))=some r:=by first|(rw[hy1];with_reducible exact H)|(have H1_:=(Option.bind_some _ _).symm.trans H;rw[hy1];with_reducible exact H1_)|(have H1_:=(Option.bind_some _ _).symm.trans H;with_reducible exact H1_)|with_reducible exact H|(rw[hy1];exact H)|exact H
                        have Ny1:=C hy1
                        clear hy1
                        have H':=C H
                        clear H
                        have p1:0≤(x4_2:Int):=of_decide_eq_true (by first|(with_reducible assumption)|assumption)
                        have q1:x4_2<(l0.length:Int):=of_decide_eq_true (by first|(with_reducible assumption)|assumption)
                        obtain⟨ad1,A1_0,c8_0,e1,hx1_0,hl1_0,hi1_0⟩:=at_L4 HR1.out x4_2 p1 q1
                        cases e1
                        replace hx1_0:=hx HB hx1_0
                        have HR2_0:=C hi1_0
                        have HC2_0:=C hl1_0
                        clear hi1_0 hl1_0
                        replace p1:=eq_true p1
                        replace q1:=eq_true q1
                        go_wp2_with (first|((with_reducible refine gate_builtin (b:=.append) (xs:= #[.tmp 31,.tmp 32]) rfl ?_);at_builtin;refine Kd.R_append_rows (Kd.int .i64) (w0:=w) w.heap.size rfl (.tmp 31) (.tmp 32) 41 3 (V I 0) 8 rfl Tryd.underlying41 info3 rfl (by decide) (by omega) u6 x3_2 (rd_L4 l0 x4_2) _ _ _ (fun _=>True) (fun _=>False) rfl rfl ?aO ?aR (fun _ _ h=>h) (fun _ h=>h.elim) ?aF ?aB ?aS ?aL ?_;(case aR=>exact uC (Kd.C_below HR2_0.out HB.out));(case aB=>exact uB);(case aF=>exact(fun _ _=>trivial));(case aO=>exact(uR HO_1.out));(case aS=>exact(below_size uB));(case aL=>have:=LMc1.out;omega);intro v1 w2 ho hb hg hat;rw[←Ny1.out]at ho;have HO1:=C (ho);replace HB:=C (hb);clear HO_1;clear ho hb hg hat))
                        go_roundg k2
                        case measure=>have:=HK1.out;have:=HK2.out;omega
                        case rel=>exact⟨(y1),(wrap64 (x4_2+1)),rS,H',⟨by have:=HK1.out;have:=HK2.out;omega⟩,⟨fR HO1.out⟩,⟨uB⟩⟩
                      · rw[if_neg c7]at H
                        exact absurd H (by simp)
                    · rw[if_neg c6]at H
                      exact absurd H (by simp)
                  · rw[if_neg c5]at H
                    exact absurd H (by simp)
                · rw[if_neg c4]at H
                  have c4b0:decide (x4_2<(l0.length:Int))=false:=decide_eq_false c4
                  clear c4
                  obtain rfl:=Option.some.inj H
                  go_wp2
                  go_ret
                  exact⟨_,rE,fR HO_1.out,uB⟩
end Go.Proofs.YtblceimapaenlaaDoor.PFnReports
