/- Calls do what plain Lean functions say (FnActTexts). No condition. -/
import Derived.Test.YtgdnlmfoghpeoaaDoorQFnActTexts0
import Derived.Test.YtgdnlmfoghpeoaaDoorQFnActTexts1
import Derived.Test.YtgdnlmfoghpeoaaDoorQFnActTexts3
namespace Go.Proofs.YtgdnlmfoghpeoaaDoor.PFnActTexts
open Go.RowKit Go.Proofs.YtgdnlmfoghpeoaaDoorW.PrintWords Go.Proofs.YtgdnlmfoghpeoaaDoorW.PrintLast Go.Proofs.YtgdnlmfoghpeoaaDoorW.PrintMore
open Tryd
open Fix (bK bnd cl14 cl6 d14 d4 d6 dB dD dK eB eK fR fS gE gl gs gy hh lR mo nG nL nf np nt nu oL oT ou pu px qm rE rS si tu uB uS uZ)
open Go.Value renaming int→V,slice→L,bool→O,agg→G
open Go.IntKind renaming i64→I
open Go.Proofs.YtgdnlmfoghpeoaaDoorW.PrintWords.Aside0 renaming mk→C
open Go.Proofs.YtgdnlmfoghpeoaaDoorW.PrintWords renaming Aside0→D
attribute [local go_sem] max2_int min2_int max_two min_two max_three min_three max_four min_four
attribute [local go_sem] Fix.isSome_setCell
set_option linter.unusedVariables false
set_option maxHeartbeats 40000000
set_option maxRecDepth 100000
set_option linter.unusedSimpArgs false
attribute [local go_sem high] eqA32
mutual
def spec_SidesFor.j0:Nat→Int→Int→List (List Int)→Bool→Option ((List (List Int)))
  |0,_,_,_,_=>none
  |k+1,x0,x1,x5,x31=>if x31=true then(some x5) else(spec_SidesFor.l0 k x0 x1 x5 1)
def spec_SidesFor.l0:Nat→Int→Int→List (List Int)→Int→Option ((List (List Int)))
  |0,_,_,_,_=>none
  |k+1,x0,x1,x5,x6=>if x6≤x0 then(if x1=0 then(none) else(if(Int.tmod x6 x1)=((1:Int) % x1) then(if x5.length<5864062014805 then((some (x5++ [(([]:List Int))]:List (List Int))).bind fun y256=>(if 0≤(wrap64 ((y256.length:Int) - 1)) then(if(wrap64 ((y256.length:Int) - 1))<(y256.length:Int) then(if(rd_L6 y256 (wrap64 ((y256.length:Int) - 1))).length<17592186044416 then(spec_SidesFor.l0 k x0 x1 (y256.set ((wrap64 ((y256.length:Int) - 1)):Int).toNat ((rd_L6 y256 (wrap64 ((y256.length:Int) - 1)))++ [x6])) (wrap64 (x6+1))) else(none)) else(none)) else(none))) else(none)) else(if 0≤(wrap64 ((x5.length:Int) - 1)) then(if(wrap64 ((x5.length:Int) - 1))<(x5.length:Int) then(if(rd_L6 x5 (wrap64 ((x5.length:Int) - 1))).length<17592186044416 then(spec_SidesFor.l0 k x0 x1 (x5.set ((wrap64 ((x5.length:Int) - 1)):Int).toNat ((rd_L6 x5 (wrap64 ((x5.length:Int) - 1)))++ [x6])) (wrap64 (x6+1))) else(none)) else(none)) else(none)))) else(some x5)
end
def spec_SidesFor.f (k:Nat) (a0:Int) (a1:Int):Option ((List (List Int))):=(some (([]:List (List Int)):List (List Int))).bind fun y249=>((spec_l01In.f a0 1 64).bind fun t252=>(if t252=true then(if a1=1 then(spec_SidesFor.j0 k a0 a1 y249 false) else(if a1=2 then(spec_SidesFor.j0 k a0 a1 y249 false) else(if a1=4 then(spec_SidesFor.j0 k a0 a1 y249 false) else(if a1=8 then(spec_SidesFor.j0 k a0 a1 y249 false) else(spec_SidesFor.j0 k a0 a1 y249 (a1 !=16)))))) else(spec_SidesFor.j0 k a0 a1 y249 true)))
theorem spec_SidesFor.mono_l:∀k,(∀y0 y1 y2 y3,LeO (spec_SidesFor.j0 k y0 y1 y2 y3) (spec_SidesFor.j0 (k+1) y0 y1 y2 y3))∧(∀y0 y1 y2 y3,LeO (spec_SidesFor.l0 k y0 y1 y2 y3) (spec_SidesFor.l0 (k+1) y0 y1 y2 y3))
 |0=>⟨fun _ _ _ _ r h=>by simp[spec_SidesFor.j0]at h,fun _ _ _ _ r h=>by simp[spec_SidesFor.l0]at h⟩
 |k+1=>by
  obtain⟨ih0,ih1⟩:=spec_SidesFor.mono_l k
  refine⟨?_,?_⟩
  ·intros
   unfold spec_SidesFor.j0
   exact mo
  ·intros
   unfold spec_SidesFor.l0
   exact mo
theorem spec_SidesFor.mono:∀a0 a1 k,LeO (spec_SidesFor.f k a0 a1) (spec_SidesFor.f (k+1) a0 a1):=by
 intro a0 a1 k
 obtain⟨ih0,ih1⟩:=spec_SidesFor.mono_l k
 unfold spec_SidesFor.f
 exact mo
theorem spec_SidesFor.W1 {p:Prop} (h:p:=by
    go_wp2_with (first|(go_at_call 12;(with_reducible refine(spec_l01In.calls a0 1 64 true _ A1.out).mono ?_);rintro e w' ⟨rfl,⟨nd,rfl⟩⟩;(try exact dD))|(go_at_call 12;(with_reducible refine(spec_l01In.calls a0 1 64 false _ A1.out).mono ?_);rintro e w' ⟨rfl,⟨nd,rfl⟩⟩;(try exact dD)))
    first
      | (repeat (go_quiet (first | (go_at_call 12; (with_reducible refine (spec_l01In.calls a0 1 64 true _ A1.out).mono ?_); rintro e w' ⟨rfl, ⟨nd, rfl⟩⟩; (try exact dD))); try go_wp2_with (first | (go_at_call 12; (with_reducible refine (spec_l01In.calls a0 1 64 true _ A1.out).mono ?_); rintro e w' ⟨rfl, ⟨nd, rfl⟩⟩; (try exact dD))))
         go_meet
         case rel=>exact⟨_,(false),rS,H',⟨oL⟩,⟨fS HO1.out⟩,⟨uB⟩⟩)
      | (repeat (go_quiet (first | (go_at_call 12; (with_reducible refine (spec_l01In.calls a0 1 64 true _ A1.out).mono ?_); rintro e w' ⟨rfl, ⟨nd, rfl⟩⟩; (try exact dD))); try go_wp2_with (first | (go_at_call 12; (with_reducible refine (spec_l01In.calls a0 1 64 true _ A1.out).mono ?_); rintro e w' ⟨rfl, ⟨nd, rfl⟩⟩; (try exact dD))))
         go_meet
         case rel=>exact⟨_,((a1 !=16)),rS,H',⟨oL⟩,⟨fS HO1.out⟩,⟨uB⟩⟩)
      | (repeat (go_quiet (first | (go_at_call 12; (with_reducible refine (spec_l01In.calls a0 1 64 false _ A1.out).mono ?_); rintro e w' ⟨rfl, ⟨nd, rfl⟩⟩; (try exact dD))); try go_wp2_with (first | (go_at_call 12; (with_reducible refine (spec_l01In.calls a0 1 64 false _ A1.out).mono ?_); rintro e w' ⟨rfl, ⟨nd, rfl⟩⟩; (try exact dD))))
         go_meet
         case rel=>exact⟨_,(true),rS,H',⟨oL⟩,⟨fS HO1.out⟩,⟨uB⟩⟩)):p:=h
theorem spec_SidesFor.W2 {p:Prop} (h:p:=by
 go_wp2
 repeat(go_quiet (fail);try go_wp2)
 go_ret
 exact⟨_,rE,fS HO_1.out,uB⟩):p:=h
theorem spec_SidesFor.calls (k:Nat) (a0:Int) (a1:Int) (r:List (List Int)) (w:World) (h:spec_SidesFor.f k a0 a1=some r):
 Calls prog 83 #[V I a0,V I a1] w fun e w'=>∃v0_:Value,e=.returned (v0_)∧Kd.S (Kd.slice 3 (Kd.int .i64)) 33 w' w.heap.size (fun _=>True) v0_ r∧Below w.heap.size w w':=by
 have HB:=C (Below.refl w.heap.size w)
 have H:=h
 unfold spec_SidesFor.f at H
 clear h
 obtain⟨y1,hy1⟩:∃y_:List (List Int),y_=(([]:List (List Int))):=⟨_,rfl⟩
 replace H:((spec_l01In.f a0 1 64).bind fun t1=>(if t1=true then(if a1=1 then(spec_SidesFor.j0 k a0 a1 y1 false) else(if a1=2 then(spec_SidesFor.j0 k a0 a1 y1 false) else(if a1=4 then(spec_SidesFor.j0 k a0 a1 y1 false) else(if a1=8 then(spec_SidesFor.j0 k a0 a1 y1 false) else(spec_SidesFor.j0 k a0 a1 y1 (a1 !=16)))))) else(spec_SidesFor.j0 k a0 a1 y1 true)))=some r:=gy hy1 H
 have Ny1:=C hy1
 clear hy1
 have HC1:=C H
 clear H
 go_enter func83,ntmps83
 go_upto_region 2 with(first|((with_reducible refine gate_dst (N:=8) rfl ?_);refine Kd.S_lit (Kd.slice 3 (Kd.int .i64)) _ 33 ?hg (N:=8) ?hd (xs:=([]:List (List Int))) (inner:= []) (ok:=fun _=>True) (okp:=fun _=>True) ?hr ?hp (fun _ hk=>hk) trivial (Below.refl _ _) (Nat.le_refl _) (by simp) ?_;(case hd=>rfl);(case hg=>rfl);(case hr=>exact Fix.hr);(case hp=>exact(Reps.none _ _));intro v1 w2 ho1 hb hg_ hnew_;clear hg_ hnew_;(first|rw[←Ny1.out]at ho1|(simp only[Int.reduceToNat]at ho1;rw[←Ny1.out]at ho1));have HO1:=C (Kd.S_lower ho1 (below_size uB));replace HB:=eB hb;clear hb ho1))
 repeat(go_quiet (fail);go_upto_region 2 with(first|((with_reducible refine gate_dst (N:=8) rfl ?_);refine Kd.S_lit (Kd.slice 3 (Kd.int .i64)) _ 33 ?hg (N:=8) ?hd (xs:=([]:List (List Int))) (inner:= []) (ok:=fun _=>True) (okp:=fun _=>True) ?hr ?hp (fun _ hk=>hk) trivial (Below.refl _ _) (Nat.le_refl _) (by simp) ?_;(case hd=>rfl);(case hg=>rfl);(case hr=>exact Fix.hr);(case hp=>exact(Reps.none _ _));intro v1 w2 ho1 hb hg_ hnew_;clear hg_ hnew_;(first|rw[←Ny1.out]at ho1|(simp only[Int.reduceToNat]at ho1;rw[←Ny1.out]at ho1));have HO1:=C (Kd.S_lower ho1 (below_size uB));replace HB:=eB hb;clear hb ho1)))
 (try simp only[Act.put,List.setIfInBounds_toArray,List.set_cons_zero,List.set_cons_succ])
 go_cut [31] (fun v31 wc=>∃(kq:Nat) (x1_2:Bool),v31=O x1_2∧D (spec_SidesFor.j0 kq a0 a1 y1 x1_2=some r)∧D (kq≤k)∧D (Kd.S (Kd.slice 3 (Kd.int .i64)) 33 wc w.heap.size (fun _=>True) v1 y1)∧D (Below w.heap.size w wc))
 case first=>
  have H:=HC1.out
  clear HC1
  obtain⟨t1,A1,H⟩:=bnd H
  by_cases c1:t1=true
  rotate_left
  ·obtain rfl:=nt c1
   replace H:=nf H
   have H':=C H
   clear H
   exact spec_SidesFor.W1
  subst c1
  rw[if_pos rfl]at H
  by_cases c2:a1=1
  ·rw[if_pos c2]at H
   have c2b0:(a1==1)=true:=beq_iff_eq.mpr c2
   have c2b1:(a1 !=1)=false:=bne_eq_false_iff_eq.mpr c2
   clear c2
   (first|rw[c2b0]|(simp only[i64_w,i32_w];rw[c2b0])|skip)
   have H':=C H
   clear H
   exact spec_SidesFor.W1
  rw[if_neg c2]at H
  have c2b0:(a1==1)=false:=beq_eq_false_iff_ne.mpr c2
  have c2b1:(a1 !=1)=true:=bne_iff_ne.mpr c2
  (first|rw[c2b0]|(simp only[i64_w,i32_w];rw[c2b0])|skip)
  by_cases c3:a1=2
  ·rw[if_pos c3]at H
   have c3b0:(a1==2)=true:=beq_iff_eq.mpr c3
   have c3b1:(a1 !=2)=false:=bne_eq_false_iff_eq.mpr c3
   clear c3
   have H':=C H
   clear H
   exact spec_SidesFor.W1
  rw[if_neg c3]at H
  have c3b0:(a1==2)=false:=beq_eq_false_iff_ne.mpr c3
  have c3b1:(a1 !=2)=true:=bne_iff_ne.mpr c3
  by_cases c4:a1=4
  ·rw[if_pos c4]at H
   have c4b0:(a1==4)=true:=beq_iff_eq.mpr c4
   have c4b1:(a1 !=4)=false:=bne_eq_false_iff_eq.mpr c4
   clear c4
   have H':=C H
   clear H
   exact spec_SidesFor.W1
  rw[if_neg c4]at H
  have c4b0:(a1==4)=false:=beq_eq_false_iff_ne.mpr c4
  have c4b1:(a1 !=4)=true:=bne_iff_ne.mpr c4
  by_cases c5:a1=8
  rotate_left
  ·rw[if_neg c5]at H
   have c5b0:(a1==8)=false:=beq_eq_false_iff_ne.mpr c5
   have c5b1:(a1 !=8)=true:=bne_iff_ne.mpr c5
   have H':=C H
   clear H
   exact spec_SidesFor.W1
  rw[if_pos c5]at H
  have c5b0:(a1==8)=true:=beq_iff_eq.mpr c5
  have c5b1:(a1 !=8)=false:=bne_eq_false_iff_eq.mpr c5
  clear c5
  have H':=C H
  clear H
  exact spec_SidesFor.W1
 case rest=>
  clear HC1
  obtain⟨kq,x1_2,rfl,HA,HJ1,HO_1,HB⟩:=hcut
  cases kq with
  |zero=>exact absurd HA.out (by simp[spec_SidesFor.j0])
  |succ kj2=>
   have H:=HA.out
   clear HA
   simp only[spec_SidesFor.j0]at H
   by_cases c1:x1_2=true
   ·subst c1
    rw[if_pos rfl]at H
    obtain rfl:=si H
    exact spec_SidesFor.W2
   obtain rfl:=nt c1
   replace H:=nf H
   have H':=C H
   clear H
   go_wp2
   repeat(go_quiet (fail);try go_wp2)
   go_loopg [5,6] kj2 (fun kq v5 v6 w'=>∃(x2_2:List (List Int)) (x3_2:Int),v6=V I x3_2∧D (spec_SidesFor.l0 kq a0 a1 x2_2 x3_2=some r)∧D (kq≤kj2)∧D (Kd.S (Kd.slice 3 (Kd.int .i64)) 33 w' w.heap.size (fun _=>True) v5 x2_2)∧D (Below w.heap.size w w'))
   case atStart=>exact⟨(y1),(1),rS,H',⟨Nat.le_refl _⟩,⟨fS HO_1.out⟩,⟨uB⟩⟩
   case round=>
    clear H'
    obtain⟨x2_2,x3_2,rfl,HA,HK1,HO_1,HB⟩:=hrel
    cases gk with
    |zero=>exact absurd HA.out (by simp[spec_SidesFor.l0])
    |succ k2=>
     have H:=HA.out
     clear HA
     simp only[spec_SidesFor.l0]at H
     by_cases c2:x3_2≤a0
     rotate_left
     ·rw[if_neg c2]at H
      have c2b0:decide (x3_2≤a0)=false:=decide_eq_false c2
      clear c2
      obtain rfl:=si H
      exact spec_SidesFor.W2
     rw[if_pos c2]at H
     have c2b0:decide (x3_2≤a0)=true:=decide_eq_true c2
     clear c2
     by_cases c3:a1=0
     ·rw[if_pos c3]at H
      exact absurd H (by simp)
     rw[if_neg c3]at H
     have c3b0:(a1==0)=false:=beq_eq_false_iff_ne.mpr c3
     have c3b1:(a1 !=0)=true:=bne_iff_ne.mpr c3
     by_cases c4:(Int.tmod x3_2 a1)=((1:Int) % a1)
     rotate_left
     ·rw[if_neg c4]at H
      have c4b0:((Int.tmod x3_2 a1)==((1:Int) % a1))=false:=beq_eq_false_iff_ne.mpr c4
      have c4b1:((Int.tmod x3_2 a1) !=((1:Int) % a1))=true:=bne_iff_ne.mpr c4
      obtain⟨ji1,hji1⟩:∃j_:Int,(wrap64 ((x2_2.length:Int) - 1))=j_:=⟨_,rfl⟩
      replace H:(if 0≤(ji1) then(if(ji1)<(x2_2.length:Int) then(if(rd_L6 x2_2 (ji1)).length<17592186044416 then(spec_SidesFor.l0 k2 a0 a1 (x2_2.set ((ji1):Int).toNat ((rd_L6 x2_2 (ji1))++ [x3_2])) (wrap64 (x3_2+1))) else(none)) else(none)) else(none))=some r:=by first|(rw[hji1]at H;exact H)|(simp only[hji1]at H ⊢;exact H)
      have hji1w:(IntKind.i64.wrap ((x2_2.length:Int) - 1))=ji1:=(i64_w _).trans hji1
      obtain⟨c5,H⟩:=np H
      replace c5:=decide_eq_true c5
      obtain⟨c6,H⟩:=np H
      replace c6:=decide_eq_true c6
      obtain⟨c7,H⟩:=np H
      have LMc1:=C c7
      clear c7
      obtain⟨y2,hy2⟩:∃y_:List Int,y_=((rd_L6 x2_2 (ji1))++ [x3_2]):=⟨_,rfl⟩
      replace H:(spec_SidesFor.l0 k2 a0 a1 (x2_2.set ((ji1):Int).toNat y2) (wrap64 (x3_2+1)))=some r:=gy hy2 H
      have Ny2:=C hy2
      clear hy2
      obtain⟨y3,hy3⟩:∃y_:List (List Int),y_=(x2_2.set ((ji1):Int).toNat y2):=⟨_,rfl⟩
      replace H:(spec_SidesFor.l0 k2 a0 a1 y3 (wrap64 (x3_2+1)))=some r:=gy hy3 H
      have Ny3:=C hy3
      clear hy3
      have H':=C H
      clear H
      obtain⟨Ao1,co1,eo1⟩:=Kd.S_slice HO_1.out
      subst eo1
      have p1:0≤((ji1):Int):=oT
      have q1:(ji1)<(x2_2.length:Int):=oT
      obtain⟨ad1,A1_0,c8_0,e1,hx1_0,hl1_0,hi1_0⟩:=at_L6 (Kd.S_reads' HO_1.out).2.2 (ji1) p1 q1
      cases e1
      obtain⟨ce1,hce1,hMe1,hcc1⟩:=Kd.S_get HO_1.out [] (ji1) p1 (by first|exact q1|exact oT|(have e_:=(Kd.S_reads' HO_1.out).1;omega))
      obtain⟨ve1_0,rfl,ge1_0⟩:=hMe1
      have hv1_0:=hcc1 0 _ rfl
      rw[Nat.add_zero,show((Kd.slice 3 (Kd.int .i64))).sz=1 from rfl,Nat.mul_one]at hv1_0
      replace hv1_0:=Option.some.inj (hv1_0.symm.trans hx1_0)
      rw[hv1_0]at ge1_0
      have HL1_0:=C (show Kd.R (Kd.int .i64) 3 _ _ _ _ (rd_L6 x2_2 (ji1)) from ge1_0)
      clear hv1_0 ge1_0
      have HX1_0:=C hx1_0
      (try clear hcc1);(try clear hce1)
      have HR1_0:=C hi1_0
      have HC2_0:=C hl1_0
      clear hi1_0 hl1_0
      replace p1:=eq_true p1
      replace q1:=eq_true q1
      obtain⟨go1,co2,eo2,gb1,gl1,cl1,HG1⟩:=Kd.S_form HO_1.out (by have h_:((ji1):Int)<((x2_2.length:Int):Int):=oT;have h1_:0≤((ji1):Int):=oT;omega)
      (first|cases eo2|(injection eo2 with ea_ en_ ec_;(first|subst ea_|(injection ea_ with ea_;subst ea_));subst ec_;clear en_))
      have GB1:=C gb1
      have GG1:=C HG1
      clear gb1 gl1 HG1
      (first|simp only[add_plain]at hx1_0|skip)
      obtain⟨oki1,ce2,hcl1,hM1,hcc2,_,_,hH1⟩:=Kd.S_elem HO_1.out [] ((ji1):Int) oT (by have h_:((ji1):Int)<((x2_2.length:Int):Int):=oT;first|exact h_|(have e_:=(Kd.S_reads' HO_1.out).1;omega)|simpa using h_)
      obtain⟨ve2_0,rfl,ge2_0⟩:=hM1
      have hv2:=hcc2 0 _ rfl
      have hX1:=HX1_0.out
      (try simp only[add_plain]at hX1)
      (try simp only[Nat.add_zero]at hv2)
      (try rw[show((Kd.slice 3 (Kd.int .i64))).sz=1 from rfl,Nat.mul_one]at hv2)
      replace hv2:=Option.some.inj (hv2.symm.trans hX1)
      subst hv2
      (try clear hX1);(try clear hcc2);(try clear hcl1)
      have UU1:=C (show Kd.R (Kd.int .i64) 3 _ w.heap.size oki1 (L A1_0 (rd_L6 x2_2 (ji1)).length c8_0) (rd_L6 x2_2 (ji1)) from ge2_0)
      have HH1:=C hH1
      have HN1:=C (Kd.S_reads' HO_1.out).1
      clear hH1 ge2_0
      go_wp2_with (first|((with_reducible refine gate_builtin (b:=.append) (xs:= #[.tmp 56,.tmp 58]) rfl ?_);at_builtin;refine Kd.R_append (Kd.int .i64) (w0:=w) w.heap.size rfl (.tmp 56) (.tmp 58) 33 3 (V I 0) 8 rfl underlying33 info3 rfl (by decide) (by omega) (L A1_0 (rd_L6 x2_2 (ji1)).length c8_0) (rd_L6 x2_2 (ji1)) x3_2 [V I x3_2] (fun k_=>oki1 k_∨((fun _=>True)) k_∧wr.heap.size≤k_) (fun _=>False) rfl rfl ?aP (fun _ hk=>hk.elim) ?aF ?aO ?aB ?aS ?aL ?_;(case aP=>exact rfl);(case aB=>exact uB);(case aF=>exact(fun k_ hk=>.inr ⟨trivial,hk⟩));(case aO=>exact(Kd.R_mono (fR UU1.out) (fun _ hk=>.inl hk)));(case aS=>exact(below_size uB));(case aL=>have:=LMc1.out;omega);intro v2 w3 ho hb hg hat;rw[←Ny2.out]at ho;have HO2:=C (ho);replace HB:=C (hb);replace HH1:=C (Kd.H_grown (Kd.H_widen (by repeat(first|exact HH1.out|refine Kd.H_alloc ?_ _|refine Kd.H_drewN ?_ _|refine Kd.H_drew ?_))) hg (fun k_ e_=>.inl (UU1.out.1 k_ e_)));clear HO_1;clear UU1;clear HL1_0;clear ho hb hg hat;have p2:0≤((ji1):Int):=oT;have q2:((ji1):Int)<((x2_2.length:Int):Int):=oT;replace p2:=eq_true p2;replace q2:=eq_true q2;obtain⟨Ao2,co3,rfl⟩:=Kd.R_slice HO2.out;obtain⟨_,_,hraw1,_,_,hcc3,_⟩:=Kd.H_raw HH1.out oT (by have h_:((ji1):Int)<((x2_2.length:Int):Int):=oT;first|exact h_|(have e_:=(HN1.out);omega)|simpa using h_);obtain⟨_,hfr1⟩:=Kd.H_at HH1.out oT (by have h_:((ji1):Int)<((x2_2.length:Int):Int):=oT;first|exact h_|(have e_:=(HN1.out);omega)|simpa using h_);have hx2_0:=hcc3 0 _ rfl;have hf1_0:=hfr1 0;(try simp only[Nat.add_zero]at hx2_0 hf1_0);(try rw[show((Kd.slice 3 (Kd.int .i64))).sz=1 from rfl,Nat.mul_one]at hx2_0);(try rw[show((Kd.slice 3 (Kd.int .i64))).sz=1 from rfl,Nat.mul_one]at hf1_0);have HP1:=Kd.S_seg0 HH1.out oT (by have h_:((ji1):Int)<((x2_2.length:Int):Int):=oT;first|exact h_|(have e_:=(HN1.out);omega)|simpa using h_) (seg:= [L Ao2 y2.length co3]) (j:=0) (show 1≤1 from by decide) (x':=y2) (Kd.M_row HO2.out) (fun _ hk=>hk);(try simp only[show((Kd.slice 3 (Kd.int .i64))).sz=1 from rfl,Nat.mul_one,Nat.add_zero]at HP1);(try clear hcc3);(try clear hfr1))|((with_reducible refine gate_store (t:=33) (p:=60) rfl ?_);(try(rw[drewN_self w3];generalize hq_:World.drewN w3 _=w3;have n0_:=C (Kd.S_at hq_ HO_1.out);have n1_:=C (below_at hq_ HB.out);clear hq_ HO_1 HB;have HO_1:=n0_;have HB:=n1_;clear n0_ n1_;(try(obtain⟨Ao2,co3,eo3⟩:=Kd.R_slice HO2.out));(try(subst eo3));(try(obtain⟨_,_,hraw1,_,_,hcc3,_⟩:=Kd.H_raw HH1.out oT (by have h_:((ji1):Int)<((x2_2.length:Int):Int):=oT;first|exact h_|(have e_:=(HN1.out);omega)|simpa using h_)));(try(obtain⟨_,hfr1⟩:=Kd.H_at HH1.out oT (by have h_:((ji1):Int)<((x2_2.length:Int):Int):=oT;first|exact h_|(have e_:=(HN1.out);omega)|simpa using h_)));(try(have hx2_0:=hcc3 0 _ rfl));(try(have hf1_0:=hfr1 0));(try(try simp only[Nat.add_zero]at hx2_0 hf1_0));(try(try rw[show((Kd.slice 3 (Kd.int .i64))).sz=1 from rfl,Nat.mul_one]at hx2_0));(try(try rw[show((Kd.slice 3 (Kd.int .i64))).sz=1 from rfl,Nat.mul_one]at hf1_0));(try(have HP1:=Kd.S_seg0 HH1.out oT (by have h_:((ji1):Int)<((x2_2.length:Int):Int):=oT;first|exact h_|(have e_:=(HN1.out);omega)|simpa using h_) (seg:= [L Ao2 y2.length co3]) (j:=0) (show 1≤1 from by decide) (x':=y2) (Kd.M_row HO2.out) (fun _ hk=>hk)));(try(try simp only[show((Kd.slice 3 (Kd.int .i64))).sz=1 from rfl,Nat.mul_one,Nat.add_zero]at HP1));(try(try clear hcc3);(try clear hfr1))));refine store_event (t:=33) (p:=60) (v:= ?vo_w1) (w1:=(w3.setCell ⟨go1,((ji1):Int).toNat,none⟩ (L Ao2 y2.length co3))) ?hg ?ho ?hn ?hr ?_;(case ho=>rfl);(case hg=>rfl);(case hn=>rfl);(case hr=>exact Fix.hr);intro w4 hw;have hg:w3.grownBy w4 (some go1):=(by rw[hw];exact HP1.2);have hp_:Kd.S (Kd.slice 3 (Kd.int .i64)) 33 w4 w.heap.size (fun _=>True) (L (some ⟨go1,0,none⟩) x2_2.length co1) y3:=(by rw[hw,Ny3.out];exact HP1.1);clear HP1;have HO_1:=C (hp_);replace HB:=C ((by rw[hw];exact below_set HB.out GB1.out:Below w.heap.size w w4));clear HO2;clear HH1;clear hg hw hp_ hraw1))
      repeat(go_quiet (fail);try go_wp2_with (first|((with_reducible refine gate_builtin (b:=.append) (xs:= #[.tmp 56,.tmp 58]) rfl ?_);at_builtin;refine Kd.R_append (Kd.int .i64) (w0:=w) w.heap.size rfl (.tmp 56) (.tmp 58) 33 3 (V I 0) 8 rfl underlying33 info3 rfl (by decide) (by omega) (L A1_0 (rd_L6 x2_2 (ji1)).length c8_0) (rd_L6 x2_2 (ji1)) x3_2 [V I x3_2] (fun k_=>oki1 k_∨((fun _=>True)) k_∧wr.heap.size≤k_) (fun _=>False) rfl rfl ?aP (fun _ hk=>hk.elim) ?aF ?aO ?aB ?aS ?aL ?_;(case aP=>exact rfl);(case aB=>exact uB);(case aF=>exact(fun k_ hk=>.inr ⟨trivial,hk⟩));(case aO=>exact(Kd.R_mono (fR UU1.out) (fun _ hk=>.inl hk)));(case aS=>exact(below_size uB));(case aL=>have:=LMc1.out;omega);intro v2 w3 ho hb hg hat;rw[←Ny2.out]at ho;have HO2:=C (ho);replace HB:=C (hb);replace HH1:=C (Kd.H_grown (Kd.H_widen (by repeat(first|exact HH1.out|refine Kd.H_alloc ?_ _|refine Kd.H_drewN ?_ _|refine Kd.H_drew ?_))) hg (fun k_ e_=>.inl (UU1.out.1 k_ e_)));clear HO_1;clear UU1;clear HL1_0;clear ho hb hg hat;have p2:0≤((ji1):Int):=oT;have q2:((ji1):Int)<((x2_2.length:Int):Int):=oT;replace p2:=eq_true p2;replace q2:=eq_true q2;obtain⟨Ao2,co3,rfl⟩:=Kd.R_slice HO2.out;obtain⟨_,_,hraw1,_,_,hcc3,_⟩:=Kd.H_raw HH1.out oT (by have h_:((ji1):Int)<((x2_2.length:Int):Int):=oT;first|exact h_|(have e_:=(HN1.out);omega)|simpa using h_);obtain⟨_,hfr1⟩:=Kd.H_at HH1.out oT (by have h_:((ji1):Int)<((x2_2.length:Int):Int):=oT;first|exact h_|(have e_:=(HN1.out);omega)|simpa using h_);have hx2_0:=hcc3 0 _ rfl;have hf1_0:=hfr1 0;(try simp only[Nat.add_zero]at hx2_0 hf1_0);(try rw[show((Kd.slice 3 (Kd.int .i64))).sz=1 from rfl,Nat.mul_one]at hx2_0);(try rw[show((Kd.slice 3 (Kd.int .i64))).sz=1 from rfl,Nat.mul_one]at hf1_0);have HP1:=Kd.S_seg0 HH1.out oT (by have h_:((ji1):Int)<((x2_2.length:Int):Int):=oT;first|exact h_|(have e_:=(HN1.out);omega)|simpa using h_) (seg:= [L Ao2 y2.length co3]) (j:=0) (show 1≤1 from by decide) (x':=y2) (Kd.M_row HO2.out) (fun _ hk=>hk);(try simp only[show((Kd.slice 3 (Kd.int .i64))).sz=1 from rfl,Nat.mul_one,Nat.add_zero]at HP1);(try clear hcc3);(try clear hfr1))|((with_reducible refine gate_store (t:=33) (p:=60) rfl ?_);(try(rw[drewN_self w3];generalize hq_:World.drewN w3 _=w3;have n0_:=C (Kd.S_at hq_ HO_1.out);have n1_:=C (below_at hq_ HB.out);clear hq_ HO_1 HB;have HO_1:=n0_;have HB:=n1_;clear n0_ n1_;(try(obtain⟨Ao2,co3,eo3⟩:=Kd.R_slice HO2.out));(try(subst eo3));(try(obtain⟨_,_,hraw1,_,_,hcc3,_⟩:=Kd.H_raw HH1.out oT (by have h_:((ji1):Int)<((x2_2.length:Int):Int):=oT;first|exact h_|(have e_:=(HN1.out);omega)|simpa using h_)));(try(obtain⟨_,hfr1⟩:=Kd.H_at HH1.out oT (by have h_:((ji1):Int)<((x2_2.length:Int):Int):=oT;first|exact h_|(have e_:=(HN1.out);omega)|simpa using h_)));(try(have hx2_0:=hcc3 0 _ rfl));(try(have hf1_0:=hfr1 0));(try(try simp only[Nat.add_zero]at hx2_0 hf1_0));(try(try rw[show((Kd.slice 3 (Kd.int .i64))).sz=1 from rfl,Nat.mul_one]at hx2_0));(try(try rw[show((Kd.slice 3 (Kd.int .i64))).sz=1 from rfl,Nat.mul_one]at hf1_0));(try(have HP1:=Kd.S_seg0 HH1.out oT (by have h_:((ji1):Int)<((x2_2.length:Int):Int):=oT;first|exact h_|(have e_:=(HN1.out);omega)|simpa using h_) (seg:= [L Ao2 y2.length co3]) (j:=0) (show 1≤1 from by decide) (x':=y2) (Kd.M_row HO2.out) (fun _ hk=>hk)));(try(try simp only[show((Kd.slice 3 (Kd.int .i64))).sz=1 from rfl,Nat.mul_one,Nat.add_zero]at HP1));(try(try clear hcc3);(try clear hfr1))));refine store_event (t:=33) (p:=60) (v:= ?vo_w1) (w1:=(w3.setCell ⟨go1,((ji1):Int).toNat,none⟩ (L Ao2 y2.length co3))) ?hg ?ho ?hn ?hr ?_;(case ho=>rfl);(case hg=>rfl);(case hn=>rfl);(case hr=>exact Fix.hr);intro w4 hw;have hg:w3.grownBy w4 (some go1):=(by rw[hw];exact HP1.2);have hp_:Kd.S (Kd.slice 3 (Kd.int .i64)) 33 w4 w.heap.size (fun _=>True) (L (some ⟨go1,0,none⟩) x2_2.length co1) y3:=(by rw[hw,Ny3.out];exact HP1.1);clear HP1;have HO_1:=C (hp_);replace HB:=C ((by rw[hw];exact below_set HB.out GB1.out:Below w.heap.size w w4));clear HO2;clear HH1;clear hg hw hp_ hraw1)))
      go_roundg k2
      case measure=>have:=HJ1.out;have:=HK1.out;omega
      case rel=>exact⟨(y3),(wrap64 (x3_2+1)),rS,H',⟨by have:=HJ1.out;have:=HK1.out;omega⟩,⟨fS HO_1.out⟩,⟨uB⟩⟩
     rw[if_pos c4]at H
     have c4b0:((Int.tmod x3_2 a1)==((1:Int) % a1))=true:=beq_iff_eq.mpr c4
     have c4b1:((Int.tmod x3_2 a1) !=((1:Int) % a1))=false:=bne_eq_false_iff_eq.mpr c4
     clear c4
     obtain⟨y2,hy2⟩:∃y_:List Int,y_=(([]:List Int)):=⟨_,rfl⟩
     replace H:(if x2_2.length<5864062014805 then((some (x2_2++ [y2]:List (List Int))).bind fun y3=>(if 0≤(wrap64 ((y3.length:Int) - 1)) then(if(wrap64 ((y3.length:Int) - 1))<(y3.length:Int) then(if(rd_L6 y3 (wrap64 ((y3.length:Int) - 1))).length<17592186044416 then(spec_SidesFor.l0 k2 a0 a1 (y3.set ((wrap64 ((y3.length:Int) - 1)):Int).toNat ((rd_L6 y3 (wrap64 ((y3.length:Int) - 1)))++ [x3_2])) (wrap64 (x3_2+1))) else(none)) else(none)) else(none))) else(none))=some r:=gy hy2 H
     have Ny2:=C hy2
     clear hy2
     obtain⟨c5,H⟩:=np H
     have LMc1:=C c5
     clear c5
     obtain⟨y3,hy3⟩:∃y_:List (List Int),y_=(x2_2++ [y2]):=⟨_,rfl⟩
     replace H:(if 0≤(wrap64 ((y3.length:Int) - 1)) then(if(wrap64 ((y3.length:Int) - 1))<(y3.length:Int) then(if(rd_L6 y3 (wrap64 ((y3.length:Int) - 1))).length<17592186044416 then(spec_SidesFor.l0 k2 a0 a1 (y3.set ((wrap64 ((y3.length:Int) - 1)):Int).toNat ((rd_L6 y3 (wrap64 ((y3.length:Int) - 1)))++ [x3_2])) (wrap64 (x3_2+1))) else(none)) else(none)) else(none))=some r:=gy hy3 H
     have Ny3:=C hy3
     clear hy3
     obtain⟨ji1,hji1⟩:∃j_:Int,(wrap64 ((y3.length:Int) - 1))=j_:=⟨_,rfl⟩
     replace H:(if 0≤(ji1) then(if(ji1)<(y3.length:Int) then(if(rd_L6 y3 (ji1)).length<17592186044416 then(spec_SidesFor.l0 k2 a0 a1 (y3.set ((ji1):Int).toNat ((rd_L6 y3 (ji1))++ [x3_2])) (wrap64 (x3_2+1))) else(none)) else(none)) else(none))=some r:=by first|(rw[hji1]at H;exact H)|(simp only[hji1]at H ⊢;exact H)
     have hji1w:(IntKind.i64.wrap ((y3.length:Int) - 1))=ji1:=(i64_w _).trans hji1
     obtain⟨c6,H⟩:=np H
     replace c6:=decide_eq_true c6
     obtain⟨c7,H⟩:=np H
     replace c7:=decide_eq_true c7
     obtain⟨c8,H⟩:=np H
     have LMc2:=C c8
     clear c8
     obtain⟨y4,hy4⟩:∃y_:List Int,y_=((rd_L6 y3 (ji1))++ [x3_2]):=⟨_,rfl⟩
     replace H:(spec_SidesFor.l0 k2 a0 a1 (y3.set ((ji1):Int).toNat y4) (wrap64 (x3_2+1)))=some r:=gy hy4 H
     have Ny4:=C hy4
     clear hy4
     obtain⟨y5,hy5⟩:∃y_:List (List Int),y_=(y3.set ((ji1):Int).toNat y4):=⟨_,rfl⟩
     replace H:(spec_SidesFor.l0 k2 a0 a1 y5 (wrap64 (x3_2+1)))=some r:=gy hy5 H
     have Ny5:=C hy5
     clear hy5
     have H':=C H
     clear H
     go_wp2_with (first|((with_reducible refine gate_dst (N:=45) rfl ?_);refine Kd.R_lit (Kd.int .i64) _ 3 ?hg (N:=45) ?hd (xs:=([]:List Int)) (inner:= []) (ok:=fun _=>True) (okp:=fun _=>True) ?hr ?hp (fun _ hk=>hk) trivial (Below.refl _ _) (Nat.le_refl _) (by simp) ?_;(case hd=>rfl);(case hg=>rfl);(case hr=>exact Fix.hr);(case hp=>exact(Reps.none _ _));intro v2 w3 ho2 hb hg_ hnew_;clear hg_ hnew_;(first|rw[←Ny2.out]at ho2|(simp only[Int.reduceToNat]at ho2;rw[←Ny2.out]at ho2));have HO2:=lR ho2;replace HO_1:=C (Kd.S_elder' (uS HO_1.out) (Kd.R_base ho2) hb);replace HB:=eB hb;clear hb ho2;obtain⟨Ao1,co1,rfl⟩:=Kd.R_slice HO2.out)|((with_reducible refine gate_builtin (b:=.append) (xs:= #[.tmp 44,.tmp 46]) rfl ?_);at_builtin;refine Kd.S_append (Kd.slice 3 (Kd.int .i64)) (w0:=w) w.heap.size rfl (.tmp 44) (.tmp 46) 121 33 (L none 0 0) 24 rfl underlying121 info33 rfl (by decide) (by omega) u5 x2_2 y2 [L Ao1 y2.length co1] (fun _=>True) (fun k_=>some k_=(L Ao1 y2.length co1:Value).ownBlock) rfl rfl ?aP (fun k_ hk_=>((Kd.R_mono (ok':=fun k_=>((fun _=>True)) k_∧qm k_ u5) (Kd.R_apart' (HO2.out) (Kd.S_typed HO_1.out) (by decide)) (fun k_ hk=>⟨trivial,hk.2⟩))).1 k_ hk_.symm) ?aF ?aO ?aB ?aS ?aL ?_;(case aP=>exact Kd.M_row (Kd.R_mono (Kd.R_tight rfl (Kd.R_mono (ok':=fun k_=>((fun _=>True)) k_∧qm k_ u5) (Kd.R_apart' (HO2.out) (Kd.S_typed HO_1.out) (by decide)) (fun k_ hk=>⟨trivial,hk.2⟩))) (fun _ h_=>h_)));(case aB=>exact uB);(case aF=>exact(fun _ _=>trivial));(case aO=>exact(Kd.S_mono (fS HO_1.out) (fun k_ hk=>⟨trivial,fun e_=>hk.2 e_⟩)));(case aS=>exact(below_size uB));(case aL=>have:=LMc1.out;omega);intro v3 w4 ho hb hg hat;rw[←Ny3.out]at ho;have HO3:=C (ho);replace HB:=C (hb);clear HO_1;clear HO2;clear ho hb hg hat;obtain⟨Ao2,co2,eo2⟩:=Kd.S_slice HO3.out;subst eo2;have p1:0≤((ji1):Int):=oT;have q1:(ji1)<(y3.length:Int):=oT;obtain⟨ad1,A1_0,c9_0,e1,hx1_0,hl1_0,hi1_0⟩:=at_L6 (Kd.S_reads' HO3.out).2.2 (ji1) p1 q1;cases e1;obtain⟨ce1,hce1,hMe1,hcc1⟩:=Kd.S_get HO3.out [] (ji1) p1 (by first|exact q1|exact oT|(have e_:=(Kd.S_reads' HO3.out).1;omega));obtain⟨ve1_0,rfl,ge1_0⟩:=hMe1;have hv1_0:=hcc1 0 _ rfl;rw[Nat.add_zero,show((Kd.slice 3 (Kd.int .i64))).sz=1 from rfl,Nat.mul_one]at hv1_0;replace hv1_0:=Option.some.inj (hv1_0.symm.trans hx1_0);rw[hv1_0]at ge1_0;have HL1_0:=C (show Kd.R (Kd.int .i64) 3 _ _ _ _ (rd_L6 y3 (ji1)) from ge1_0);clear hv1_0 ge1_0;have HX1_0:=C hx1_0;(try clear hcc1);(try clear hce1);have HR1_0:=C hi1_0;have HC2_0:=C hl1_0;clear hi1_0 hl1_0;replace p1:=eq_true p1;replace q1:=eq_true q1;obtain⟨go1,co3,eo3,gb1,gl1,cl1,HG1⟩:=Kd.S_form HO3.out (by have h_:((ji1):Int)<((y3.length:Int):Int):=oT;have h1_:0≤((ji1):Int):=oT;omega);(first|cases eo3|(injection eo3 with ea_ en_ ec_;(first|subst ea_|(injection ea_ with ea_;subst ea_));subst ec_;clear en_));have GB1:=C gb1;have GG1:=C HG1;clear gb1 gl1 HG1;(first|simp only[add_plain]at hx1_0|skip);obtain⟨oki1,ce2,hcl1,hM1,hcc2,_,_,hH1⟩:=Kd.S_elem HO3.out [] ((ji1):Int) oT (by have h_:((ji1):Int)<((y3.length:Int):Int):=oT;first|exact h_|(have e_:=(Kd.S_reads' HO3.out).1;omega)|simpa using h_);obtain⟨ve2_0,rfl,ge2_0⟩:=hM1;have hv2:=hcc2 0 _ rfl;have hX1:=HX1_0.out;(try simp only[add_plain]at hX1);(try simp only[Nat.add_zero]at hv2);(try rw[show((Kd.slice 3 (Kd.int .i64))).sz=1 from rfl,Nat.mul_one]at hv2);replace hv2:=Option.some.inj (hv2.symm.trans hX1);subst hv2;(try clear hX1);(try clear hcc2);(try clear hcl1);have UU1:=C (show Kd.R (Kd.int .i64) 3 _ w.heap.size oki1 (L A1_0 (rd_L6 y3 (ji1)).length c9_0) (rd_L6 y3 (ji1)) from ge2_0);have HH1:=C hH1;have HN1:=C (Kd.S_reads' HO3.out).1;clear hH1 ge2_0)|((with_reducible refine gate_builtin (b:=.append) (xs:= #[.tmp 56,.tmp 58]) rfl ?_);at_builtin;refine Kd.R_append (Kd.int .i64) (w0:=w) w.heap.size rfl (.tmp 56) (.tmp 58) 33 3 (V I 0) 8 rfl underlying33 info3 rfl (by decide) (by omega) (L A1_0 (rd_L6 y3 (ji1)).length c9_0) (rd_L6 y3 (ji1)) x3_2 [V I x3_2] (fun k_=>oki1 k_∨((fun _=>True)) k_∧w4.heap.size≤k_) (fun _=>False) rfl rfl ?aP (fun _ hk=>hk.elim) ?aF ?aO ?aB ?aS ?aL ?_;(case aP=>exact rfl);(case aB=>exact uB);(case aF=>exact(fun k_ hk=>.inr ⟨trivial,hk⟩));(case aO=>exact(Kd.R_mono (fR UU1.out) (fun _ hk=>.inl hk)));(case aS=>exact(below_size uB));(case aL=>have:=LMc2.out;omega);intro v4 w5 ho hb hg hat;rw[←Ny4.out]at ho;have HO4:=C (ho);replace HB:=C (hb);replace HH1:=C (Kd.H_grown (Kd.H_widen (by repeat(first|exact HH1.out|refine Kd.H_alloc ?_ _|refine Kd.H_drewN ?_ _|refine Kd.H_drew ?_))) hg (fun k_ e_=>.inl (UU1.out.1 k_ e_)));clear HO3;clear UU1;clear HL1_0;clear ho hb hg hat;have p2:0≤((ji1):Int):=oT;have q2:((ji1):Int)<((y3.length:Int):Int):=oT;replace p2:=eq_true p2;replace q2:=eq_true q2;obtain⟨Ao3,co4,rfl⟩:=Kd.R_slice HO4.out;obtain⟨_,_,hraw1,_,_,hcc3,_⟩:=Kd.H_raw HH1.out oT (by have h_:((ji1):Int)<((y3.length:Int):Int):=oT;first|exact h_|(have e_:=(HN1.out);omega)|simpa using h_);obtain⟨_,hfr1⟩:=Kd.H_at HH1.out oT (by have h_:((ji1):Int)<((y3.length:Int):Int):=oT;first|exact h_|(have e_:=(HN1.out);omega)|simpa using h_);have hx2_0:=hcc3 0 _ rfl;have hf1_0:=hfr1 0;(try simp only[Nat.add_zero]at hx2_0 hf1_0);(try rw[show((Kd.slice 3 (Kd.int .i64))).sz=1 from rfl,Nat.mul_one]at hx2_0);(try rw[show((Kd.slice 3 (Kd.int .i64))).sz=1 from rfl,Nat.mul_one]at hf1_0);have HP1:=Kd.S_seg0 HH1.out oT (by have h_:((ji1):Int)<((y3.length:Int):Int):=oT;first|exact h_|(have e_:=(HN1.out);omega)|simpa using h_) (seg:= [L Ao3 y4.length co4]) (j:=0) (show 1≤1 from by decide) (x':=y4) (Kd.M_row HO4.out) (fun _ hk=>hk);(try simp only[show((Kd.slice 3 (Kd.int .i64))).sz=1 from rfl,Nat.mul_one,Nat.add_zero]at HP1);(try clear hcc3);(try clear hfr1))|((with_reducible refine gate_store (t:=33) (p:=60) rfl ?_);(try(rw[drewN_self w5];generalize hq_:World.drewN w5 _=w5;have n0_:=C (Kd.S_at hq_ HO3.out);have n1_:=C (below_at hq_ HB.out);clear hq_ HO3 HB;have HO3:=n0_;have HB:=n1_;clear n0_ n1_;(try(obtain⟨Ao3,co4,eo4⟩:=Kd.R_slice HO4.out));(try(subst eo4));(try(obtain⟨_,_,hraw1,_,_,hcc3,_⟩:=Kd.H_raw HH1.out oT (by have h_:((ji1):Int)<((y3.length:Int):Int):=oT;first|exact h_|(have e_:=(HN1.out);omega)|simpa using h_)));(try(obtain⟨_,hfr1⟩:=Kd.H_at HH1.out oT (by have h_:((ji1):Int)<((y3.length:Int):Int):=oT;first|exact h_|(have e_:=(HN1.out);omega)|simpa using h_)));(try(have hx2_0:=hcc3 0 _ rfl));(try(have hf1_0:=hfr1 0));(try(try simp only[Nat.add_zero]at hx2_0 hf1_0));(try(try rw[show((Kd.slice 3 (Kd.int .i64))).sz=1 from rfl,Nat.mul_one]at hx2_0));(try(try rw[show((Kd.slice 3 (Kd.int .i64))).sz=1 from rfl,Nat.mul_one]at hf1_0));(try(have HP1:=Kd.S_seg0 HH1.out oT (by have h_:((ji1):Int)<((y3.length:Int):Int):=oT;first|exact h_|(have e_:=(HN1.out);omega)|simpa using h_) (seg:= [L Ao3 y4.length co4]) (j:=0) (show 1≤1 from by decide) (x':=y4) (Kd.M_row HO4.out) (fun _ hk=>hk)));(try(try simp only[show((Kd.slice 3 (Kd.int .i64))).sz=1 from rfl,Nat.mul_one,Nat.add_zero]at HP1));(try(try clear hcc3);(try clear hfr1))));refine store_event (t:=33) (p:=60) (v:= ?vo_w1) (w1:=(w5.setCell ⟨go1,((ji1):Int).toNat,none⟩ (L Ao3 y4.length co4))) ?hg ?ho ?hn ?hr ?_;(case ho=>rfl);(case hg=>rfl);(case hn=>rfl);(case hr=>exact Fix.hr);intro w6 hw;have hg:w5.grownBy w6 (some go1):=(by rw[hw];exact HP1.2);have hp_:Kd.S (Kd.slice 3 (Kd.int .i64)) 33 w6 w.heap.size (fun _=>True) (L (some ⟨go1,0,none⟩) y3.length co2) y5:=(by rw[hw,Ny5.out];exact HP1.1);clear HP1;have HO3:=C (hp_);replace HB:=C ((by rw[hw];exact below_set HB.out GB1.out:Below w.heap.size w w6));clear HO4;clear HH1;clear hg hw hp_ hraw1))
     repeat(go_quiet (fail);try go_wp2_with (first|((with_reducible refine gate_dst (N:=45) rfl ?_);refine Kd.R_lit (Kd.int .i64) _ 3 ?hg (N:=45) ?hd (xs:=([]:List Int)) (inner:= []) (ok:=fun _=>True) (okp:=fun _=>True) ?hr ?hp (fun _ hk=>hk) trivial (Below.refl _ _) (Nat.le_refl _) (by simp) ?_;(case hd=>rfl);(case hg=>rfl);(case hr=>exact Fix.hr);(case hp=>exact(Reps.none _ _));intro v2 w3 ho2 hb hg_ hnew_;clear hg_ hnew_;(first|rw[←Ny2.out]at ho2|(simp only[Int.reduceToNat]at ho2;rw[←Ny2.out]at ho2));have HO2:=lR ho2;replace HO_1:=C (Kd.S_elder' (uS HO_1.out) (Kd.R_base ho2) hb);replace HB:=eB hb;clear hb ho2;obtain⟨Ao1,co1,rfl⟩:=Kd.R_slice HO2.out)|((with_reducible refine gate_builtin (b:=.append) (xs:= #[.tmp 44,.tmp 46]) rfl ?_);at_builtin;refine Kd.S_append (Kd.slice 3 (Kd.int .i64)) (w0:=w) w.heap.size rfl (.tmp 44) (.tmp 46) 121 33 (L none 0 0) 24 rfl underlying121 info33 rfl (by decide) (by omega) u5 x2_2 y2 [L Ao1 y2.length co1] (fun _=>True) (fun k_=>some k_=(L Ao1 y2.length co1:Value).ownBlock) rfl rfl ?aP (fun k_ hk_=>((Kd.R_mono (ok':=fun k_=>((fun _=>True)) k_∧qm k_ u5) (Kd.R_apart' (HO2.out) (Kd.S_typed HO_1.out) (by decide)) (fun k_ hk=>⟨trivial,hk.2⟩))).1 k_ hk_.symm) ?aF ?aO ?aB ?aS ?aL ?_;(case aP=>exact Kd.M_row (Kd.R_mono (Kd.R_tight rfl (Kd.R_mono (ok':=fun k_=>((fun _=>True)) k_∧qm k_ u5) (Kd.R_apart' (HO2.out) (Kd.S_typed HO_1.out) (by decide)) (fun k_ hk=>⟨trivial,hk.2⟩))) (fun _ h_=>h_)));(case aB=>exact uB);(case aF=>exact(fun _ _=>trivial));(case aO=>exact(Kd.S_mono (fS HO_1.out) (fun k_ hk=>⟨trivial,fun e_=>hk.2 e_⟩)));(case aS=>exact(below_size uB));(case aL=>have:=LMc1.out;omega);intro v3 w4 ho hb hg hat;rw[←Ny3.out]at ho;have HO3:=C (ho);replace HB:=C (hb);clear HO_1;clear HO2;clear ho hb hg hat;obtain⟨Ao2,co2,eo2⟩:=Kd.S_slice HO3.out;subst eo2;have p1:0≤((ji1):Int):=oT;have q1:(ji1)<(y3.length:Int):=oT;obtain⟨ad1,A1_0,c9_0,e1,hx1_0,hl1_0,hi1_0⟩:=at_L6 (Kd.S_reads' HO3.out).2.2 (ji1) p1 q1;cases e1;obtain⟨ce1,hce1,hMe1,hcc1⟩:=Kd.S_get HO3.out [] (ji1) p1 (by first|exact q1|exact oT|(have e_:=(Kd.S_reads' HO3.out).1;omega));obtain⟨ve1_0,rfl,ge1_0⟩:=hMe1;have hv1_0:=hcc1 0 _ rfl;rw[Nat.add_zero,show((Kd.slice 3 (Kd.int .i64))).sz=1 from rfl,Nat.mul_one]at hv1_0;replace hv1_0:=Option.some.inj (hv1_0.symm.trans hx1_0);rw[hv1_0]at ge1_0;have HL1_0:=C (show Kd.R (Kd.int .i64) 3 _ _ _ _ (rd_L6 y3 (ji1)) from ge1_0);clear hv1_0 ge1_0;have HX1_0:=C hx1_0;(try clear hcc1);(try clear hce1);have HR1_0:=C hi1_0;have HC2_0:=C hl1_0;clear hi1_0 hl1_0;replace p1:=eq_true p1;replace q1:=eq_true q1;obtain⟨go1,co3,eo3,gb1,gl1,cl1,HG1⟩:=Kd.S_form HO3.out (by have h_:((ji1):Int)<((y3.length:Int):Int):=oT;have h1_:0≤((ji1):Int):=oT;omega);(first|cases eo3|(injection eo3 with ea_ en_ ec_;(first|subst ea_|(injection ea_ with ea_;subst ea_));subst ec_;clear en_));have GB1:=C gb1;have GG1:=C HG1;clear gb1 gl1 HG1;(first|simp only[add_plain]at hx1_0|skip);obtain⟨oki1,ce2,hcl1,hM1,hcc2,_,_,hH1⟩:=Kd.S_elem HO3.out [] ((ji1):Int) oT (by have h_:((ji1):Int)<((y3.length:Int):Int):=oT;first|exact h_|(have e_:=(Kd.S_reads' HO3.out).1;omega)|simpa using h_);obtain⟨ve2_0,rfl,ge2_0⟩:=hM1;have hv2:=hcc2 0 _ rfl;have hX1:=HX1_0.out;(try simp only[add_plain]at hX1);(try simp only[Nat.add_zero]at hv2);(try rw[show((Kd.slice 3 (Kd.int .i64))).sz=1 from rfl,Nat.mul_one]at hv2);replace hv2:=Option.some.inj (hv2.symm.trans hX1);subst hv2;(try clear hX1);(try clear hcc2);(try clear hcl1);have UU1:=C (show Kd.R (Kd.int .i64) 3 _ w.heap.size oki1 (L A1_0 (rd_L6 y3 (ji1)).length c9_0) (rd_L6 y3 (ji1)) from ge2_0);have HH1:=C hH1;have HN1:=C (Kd.S_reads' HO3.out).1;clear hH1 ge2_0)|((with_reducible refine gate_builtin (b:=.append) (xs:= #[.tmp 56,.tmp 58]) rfl ?_);at_builtin;refine Kd.R_append (Kd.int .i64) (w0:=w) w.heap.size rfl (.tmp 56) (.tmp 58) 33 3 (V I 0) 8 rfl underlying33 info3 rfl (by decide) (by omega) (L A1_0 (rd_L6 y3 (ji1)).length c9_0) (rd_L6 y3 (ji1)) x3_2 [V I x3_2] (fun k_=>oki1 k_∨((fun _=>True)) k_∧w4.heap.size≤k_) (fun _=>False) rfl rfl ?aP (fun _ hk=>hk.elim) ?aF ?aO ?aB ?aS ?aL ?_;(case aP=>exact rfl);(case aB=>exact uB);(case aF=>exact(fun k_ hk=>.inr ⟨trivial,hk⟩));(case aO=>exact(Kd.R_mono (fR UU1.out) (fun _ hk=>.inl hk)));(case aS=>exact(below_size uB));(case aL=>have:=LMc2.out;omega);intro v4 w5 ho hb hg hat;rw[←Ny4.out]at ho;have HO4:=C (ho);replace HB:=C (hb);replace HH1:=C (Kd.H_grown (Kd.H_widen (by repeat(first|exact HH1.out|refine Kd.H_alloc ?_ _|refine Kd.H_drewN ?_ _|refine Kd.H_drew ?_))) hg (fun k_ e_=>.inl (UU1.out.1 k_ e_)));clear HO3;clear UU1;clear HL1_0;clear ho hb hg hat;have p2:0≤((ji1):Int):=oT;have q2:((ji1):Int)<((y3.length:Int):Int):=oT;replace p2:=eq_true p2;replace q2:=eq_true q2;obtain⟨Ao3,co4,rfl⟩:=Kd.R_slice HO4.out;obtain⟨_,_,hraw1,_,_,hcc3,_⟩:=Kd.H_raw HH1.out oT (by have h_:((ji1):Int)<((y3.length:Int):Int):=oT;first|exact h_|(have e_:=(HN1.out);omega)|simpa using h_);obtain⟨_,hfr1⟩:=Kd.H_at HH1.out oT (by have h_:((ji1):Int)<((y3.length:Int):Int):=oT;first|exact h_|(have e_:=(HN1.out);omega)|simpa using h_);have hx2_0:=hcc3 0 _ rfl;have hf1_0:=hfr1 0;(try simp only[Nat.add_zero]at hx2_0 hf1_0);(try rw[show((Kd.slice 3 (Kd.int .i64))).sz=1 from rfl,Nat.mul_one]at hx2_0);(try rw[show((Kd.slice 3 (Kd.int .i64))).sz=1 from rfl,Nat.mul_one]at hf1_0);have HP1:=Kd.S_seg0 HH1.out oT (by have h_:((ji1):Int)<((y3.length:Int):Int):=oT;first|exact h_|(have e_:=(HN1.out);omega)|simpa using h_) (seg:= [L Ao3 y4.length co4]) (j:=0) (show 1≤1 from by decide) (x':=y4) (Kd.M_row HO4.out) (fun _ hk=>hk);(try simp only[show((Kd.slice 3 (Kd.int .i64))).sz=1 from rfl,Nat.mul_one,Nat.add_zero]at HP1);(try clear hcc3);(try clear hfr1))|((with_reducible refine gate_store (t:=33) (p:=60) rfl ?_);(try(rw[drewN_self w5];generalize hq_:World.drewN w5 _=w5;have n0_:=C (Kd.S_at hq_ HO3.out);have n1_:=C (below_at hq_ HB.out);clear hq_ HO3 HB;have HO3:=n0_;have HB:=n1_;clear n0_ n1_;(try(obtain⟨Ao3,co4,eo4⟩:=Kd.R_slice HO4.out));(try(subst eo4));(try(obtain⟨_,_,hraw1,_,_,hcc3,_⟩:=Kd.H_raw HH1.out oT (by have h_:((ji1):Int)<((y3.length:Int):Int):=oT;first|exact h_|(have e_:=(HN1.out);omega)|simpa using h_)));(try(obtain⟨_,hfr1⟩:=Kd.H_at HH1.out oT (by have h_:((ji1):Int)<((y3.length:Int):Int):=oT;first|exact h_|(have e_:=(HN1.out);omega)|simpa using h_)));(try(have hx2_0:=hcc3 0 _ rfl));(try(have hf1_0:=hfr1 0));(try(try simp only[Nat.add_zero]at hx2_0 hf1_0));(try(try rw[show((Kd.slice 3 (Kd.int .i64))).sz=1 from rfl,Nat.mul_one]at hx2_0));(try(try rw[show((Kd.slice 3 (Kd.int .i64))).sz=1 from rfl,Nat.mul_one]at hf1_0));(try(have HP1:=Kd.S_seg0 HH1.out oT (by have h_:((ji1):Int)<((y3.length:Int):Int):=oT;first|exact h_|(have e_:=(HN1.out);omega)|simpa using h_) (seg:= [L Ao3 y4.length co4]) (j:=0) (show 1≤1 from by decide) (x':=y4) (Kd.M_row HO4.out) (fun _ hk=>hk)));(try(try simp only[show((Kd.slice 3 (Kd.int .i64))).sz=1 from rfl,Nat.mul_one,Nat.add_zero]at HP1));(try(try clear hcc3);(try clear hfr1))));refine store_event (t:=33) (p:=60) (v:= ?vo_w1) (w1:=(w5.setCell ⟨go1,((ji1):Int).toNat,none⟩ (L Ao3 y4.length co4))) ?hg ?ho ?hn ?hr ?_;(case ho=>rfl);(case hg=>rfl);(case hn=>rfl);(case hr=>exact Fix.hr);intro w6 hw;have hg:w5.grownBy w6 (some go1):=(by rw[hw];exact HP1.2);have hp_:Kd.S (Kd.slice 3 (Kd.int .i64)) 33 w6 w.heap.size (fun _=>True) (L (some ⟨go1,0,none⟩) y3.length co2) y5:=(by rw[hw,Ny5.out];exact HP1.1);clear HP1;have HO3:=C (hp_);replace HB:=C ((by rw[hw];exact below_set HB.out GB1.out:Below w.heap.size w w6));clear HO4;clear HH1;clear hg hw hp_ hraw1)))
     go_roundg k2
     case measure=>have:=HJ1.out;have:=HK1.out;omega
     case rel=>exact⟨(y5),(wrap64 (x3_2+1)),rS,H',⟨by have:=HJ1.out;have:=HK1.out;omega⟩,⟨fS HO3.out⟩,⟨uB⟩⟩
def spec_SheetsFor.f (k:Nat) (a0:Int) (a1:Int) (a2:Bool):Option (Int):=(spec_SidesFor.f k a0 a1).bind fun t269=>(if a2=true then(some (wrap64 (Int.tdiv (wrap64 ((t269.length:Int)+1)) 2))) else(some (t269.length:Int)))
theorem spec_SheetsFor.mono:∀a0 a1 a2 k,LeO (spec_SheetsFor.f k a0 a1 a2) (spec_SheetsFor.f (k+1) a0 a1 a2):=by
 intro a0 a1 a2 k
 unfold spec_SheetsFor.f
 have i1:= @spec_SidesFor.mono;exact mo
theorem spec_SheetsFor.W1 {p:Prop} (h:p:=by
 go_enter func69,ntmps69
 go_wp2_with (first|((with_reducible refine gate_callee (f:=83) rfl ?_);refine gl 83 (some 10) func83 #[V I a0,V I a1] ?_;(with_reducible refine(spec_SidesFor.calls k a0 a1 t1 _ A1.out).mono ?_);rintro e w1 ⟨v1,rfl,ho1,hb⟩;refine⟨_,rfl,?_⟩;have HO1:=C (Kd.S_lower ho1 (below_size uB));replace HB:=eB hb;clear hb ho1;obtain⟨Ao1,co1,eo1⟩:=Kd.S_slice HO1.out;subst eo1))
 go_ret
 exact⟨rE,uB⟩):p:=h
theorem spec_SheetsFor.calls (k:Nat) (a0:Int) (a1:Int) (a2:Bool) (r:Int) (w:World) (h:spec_SheetsFor.f k a0 a1 a2=some r):
 Calls prog 69 #[V I a0,V I a1,O a2] w fun e w'=>e=.returned (V I r)∧Below w.heap.size w w':=by
 have HB:=C (Below.refl w.heap.size w)
 have H:=h
 unfold spec_SheetsFor.f at H
 clear h
 obtain⟨t1,A1,H⟩:=bnd H
 by_cases c1:a2=true
 ·subst c1
  rw[if_pos rfl]at H
  obtain rfl:=si H
  exact spec_SheetsFor.W1
 obtain rfl:=nt c1
 replace H:=nf H
 obtain rfl:=si H
 exact spec_SheetsFor.W1
def spec_JobSheets.f (k:Nat) (a0_0:Int) (a0_1:Int) (a0_2:Int) (a0_3:Bool) (a0_4:Int) (a0_5:Bool):Option (Int):=(spec_JobOk.f a0_0 a0_1 a0_2 a0_3 a0_4 a0_5).bind fun t273=>(if t273=true then((spec_SheetsFor.f k a0_1 1 a0_3).bind fun t274=>(some (wrap64 (a0_2 * t274)))) else(some 0))
def spec_JobSheets.T3:Bool×List (List Nat×List Nat):=(true,[([],[]),([0],[0]),([],[]),([2],[2]),([],[]),([4],[4]),([3,5],[3,5]),([1,6],[1,6]),([7,6,0,1,2,3,4,5,6,7],[7])])
def spec_JobSheets.B3:List Nat:= [0,1,0,4,0,16,60,127,255]
theorem spec_JobSheets.tab3:rtab .any (opsOf Tryd.f56 3)=spec_JobSheets.T3:=by kernel_rfl
theorem spec_JobSheets.bits3:waitsOk spec_JobSheets.T3.2 spec_JobSheets.B3=true:=by kernel_rfl
theorem spec_JobSheets.calls (k:Nat) (a0_0:Int) (a0_1:Int) (a0_2:Int) (a0_3:Bool) (a0_4:Int) (a0_5:Bool) (r:Int) (w:World) (h:spec_JobSheets.f k a0_0 a0_1 a0_2 a0_3 a0_4 a0_5=some r):
 Calls prog 56 #[G #[V I a0_0,V I a0_1,V I a0_2,O a0_3,V I a0_4,O a0_5]] w fun e w'=>e=.returned (V I r)∧Below w.heap.size w w':=by
 have hu1:=underlying32
 have HB:=C (Below.refl w.heap.size w)
 have H:=h
 unfold spec_JobSheets.f at H
 clear h
 obtain⟨t1,A1,H⟩:=bnd H
 by_cases c1:t1=true
 rotate_left
 ·obtain rfl:=nt c1
  replace H:=nf H
  obtain rfl:=si H
  go_enter func56,ntmps56
  go_wp2_with (first|((with_reducible refine gate_dst (N:=1) rfl ?_);refine Fix.be 1 #[V I a0_0,V I a0_1,V I a0_2,O a0_3,V I a0_4,O a0_5] 32 ?_;intro gb1 hg w1 BK1 hb;have GW1:=gE (w:=w) hg;have GE1:=GW1;replace HB:=eB hb;clear hb hg;obtain⟨_,_,_,_,_,_,_,_,_,_,_,_⟩:=d6 BK1.out)|((with_reducible refine gate_callee (f:=37) rfl ?_);refine gl 37 (some 4) func37 #[G #[V I a0_0,V I a0_1,V I a0_2,O a0_3,V I a0_4,O a0_5]] ?_;(with_reducible refine(spec_JobOk.calls a0_0 a0_1 a0_2 a0_3 a0_4 a0_5 false _ A1.out).mono ?_);rintro e w2 ⟨rfl,hb⟩;refine⟨_,rfl,?_⟩;replace BK1:=eK BK1 hb;replace HB:=eB hb;clear hb))
  go_ret
  exact⟨rE,uB⟩
 subst c1
 rw[if_pos rfl]at H
 obtain⟨t2,A2,H⟩:=bnd H
 obtain rfl:=si H
 go_enter func56,ntmps56
 try go_wp2_with (first|((with_reducible refine gate_dst (N:=1) rfl ?_);refine Fix.be 1 #[V I a0_0,V I a0_1,V I a0_2,O a0_3,V I a0_4,O a0_5] 32 ?_;intro gb1 hg w1 BK1 hb;have GW1:=gE (w:=w) hg;have GE1:=GW1;replace HB:=eB hb;clear hb hg;obtain⟨_,_,_,_,_,_,_,_,_,_,_,_⟩:=d6 BK1.out)|((with_reducible refine gate_callee (f:=37) rfl ?_);refine gl 37 (some 4) func37 #[G #[V I a0_0,V I a0_1,V I a0_2,O a0_3,V I a0_4,O a0_5]] ?_;(with_reducible refine(spec_JobOk.calls a0_0 a0_1 a0_2 a0_3 a0_4 a0_5 true _ A1.out).mono ?_);rintro e w2 ⟨rfl,hb⟩;refine⟨_,rfl,?_⟩;replace BK1:=eK BK1 hb;replace HB:=eB hb;clear hb))
 replace BK1:=dK BK1
 replace HB:=dB HB
 refine start_ (n:=9) (S:=fun w'=>cl6 w' gb1 (V I a0_0) (V I a0_1) (V I a0_2) (O a0_3) (V I a0_4) (O a0_5)) (ds:= []) #[false,false,false,false,false,false,false,false,false] (by kernel_rfl) rfl rfl hh (fun hHeld=> ?_);refine with_tabW spec_JobSheets.tab3 spec_JobSheets.bits3 (fun HT_ HW_=> ?_)
 generalize w2.drew=w3 at BK1 HB hHeld ⊢
 refine pu 0 (some 6) ?_
 refine pu 2 (some 8) ?_
 refine pu 4 (some 10) ?_
 refine tu 1 (some 7) hHeld ?_
 refine tu 3 (some 9) hHeld ?_
 refine tu 5 (some 11) hHeld ?_
 refine ou 6 (some 12) (fun K hK=> ?_)
 refine gs func69 #[V I a0_1,V I 1,O a0_3] ?_
 with_reducible refine(spec_SheetsFor.calls k a0_1 1 a0_3 t2 _ A2.out).mono ?_
 rintro e w4 ⟨rfl,hb⟩
 refine⟨_,rfl,?_⟩
 replace BK1:=eK BK1 hb
 replace HB:=eB hb
 (try clear hb)
 refine hK.out _ _ hh (fun hHeld=> ?_)
 clear hK K
 refine nu (N:=(some 12)) ?_
 refine pu 7 (some 13) ?_
 refine pu 8 (some 2) ?_
 refine done_ (done_of HT_.out (by kernel_rfl)) ?_
 try go_wp2
 go_ret
 exact⟨rE,uB⟩
def spec_MachineOk.j0:Nat→Bool→List (S32)→Int→Int→Int→Bool→Int→Bool→Int→Int→List Int→List Int→Int→Bool→Int→Option (Bool)
  |0,_,_,_,_,_,_,_,_,_,_,_,_,_,_,_=>none
  |k+1,x18,x276000,x276001,x276002,x276003,x276004,x276005,x276006,x276007,x276008,x276009,x276010,x276011,x276012,x276013=>if x18=true then(some false) else(if(x276001==0 && (x276002==0 && (x276003==0 && (!x276004 && (x276005==0 && (!x276006))))))=true then(some (x276007==0)) else((spec_JobOk.f x276001 x276002 x276003 x276004 x276005 x276006).bind fun t279=>(if t279=true then((spec_JobSheets.f k x276001 x276002 x276003 x276004 x276005 x276006).bind fun t280=>(if t280≤40 then((spec_JobSheets.f k x276001 x276002 x276003 x276004 x276005 x276006).bind fun t281=>(some (t281==x276007))) else(some false))) else(some false))))
def spec_MachineOk.f (k:Nat) (l0_0:List (S32)) (a0_1:Int) (a0_2:Int) (a0_3:Int) (a0_4:Bool) (a0_5:Int) (a0_6:Bool) (a0_7:Int) (a0_8:Int) (l0_9:List Int) (l0_10:List Int) (a0_11:Int) (a0_12:Bool) (a0_13:Int):Option (Bool):=(spec_JobsOk.f k l0_0).bind fun t276=>(if t276=true then((spec_LineOk.f k a0_7 a0_8 l0_9 l0_10 a0_11 a0_12).bind fun t277=>(if t277=true then((spec_l01In.f a0_13 0 100000).bind fun t278=>(spec_MachineOk.j0 k (!t278) l0_0 a0_1 a0_2 a0_3 a0_4 a0_5 a0_6 a0_7 a0_8 l0_9 l0_10 a0_11 a0_12 a0_13)) else(spec_MachineOk.j0 k true l0_0 a0_1 a0_2 a0_3 a0_4 a0_5 a0_6 a0_7 a0_8 l0_9 l0_10 a0_11 a0_12 a0_13))) else(spec_MachineOk.j0 k true l0_0 a0_1 a0_2 a0_3 a0_4 a0_5 a0_6 a0_7 a0_8 l0_9 l0_10 a0_11 a0_12 a0_13))
def spec_MachineOk.T5:Bool×List (List Nat×List Nat):=(true,[([],[]),([0],[0]),([1],[1]),([2,2],[2]),([3],[3]),([4,3],[3,4]),([5,3,3],[3,5]),([6,3],[3,6]),([3,7],[3,7]),([8,6],[8]),([9],[9]),([10,9],[9,10]),([11,9,9],[9,11]),([9],[9]),([13,9],[9,13]),([14,9],[9,14]),([12,15,9],[9,12,15]),([9,16],[9,16]),([17,12,0,1,2,3,4,5,6,7,8,9,10,11,12,13,14,15,16,17],[17])])
def spec_MachineOk.B5:List Nat:= [0,1,3,7,15,31,63,127,255,511,1023,2047,4095,1023,9215,25599,65535,131071,262143]
theorem spec_MachineOk.tab5:rtab .any (opsOf Tryd.f43 5)=spec_MachineOk.T5:=by kernel_rfl
theorem spec_MachineOk.bits5:waitsOk spec_MachineOk.T5.2 spec_MachineOk.B5=true:=by kernel_rfl
theorem spec_MachineOk.W1 {p:Prop} (h:p:=by
 go_wp2
 go_ret
 exact⟨rE,uB⟩):p:=h
theorem spec_MachineOk.calls (k:Nat) (A0_0:Option Addr) (c0_0:Nat) (l0_0:List (S32)) (a0_1:Int) (a0_2:Int) (a0_3:Int) (a0_4:Bool) (a0_5:Int) (a0_6:Bool) (a0_7:Int) (a0_8:Int) (A0_9:Option Addr) (c0_9:Nat) (l0_9:List Int) (A0_10:Option Addr) (c0_10:Nat) (l0_10:List Int) (a0_11:Int) (a0_12:Bool) (a0_13:Int) (r:Bool) (w:World) (hr0_0:Kd.C k32 w A0_0 l0_0.length l0_0) (hc0_0:l0_0.length≤c0_0) (hr0_9:Kd.C (Kd.int .i64) w A0_9 l0_9.length l0_9) (hc0_9:l0_9.length≤c0_9) (hr0_10:Kd.C (Kd.int .i64) w A0_10 l0_10.length l0_10) (hc0_10:l0_10.length≤c0_10) (h:spec_MachineOk.f k l0_0 a0_1 a0_2 a0_3 a0_4 a0_5 a0_6 a0_7 a0_8 l0_9 l0_10 a0_11 a0_12 a0_13=some r):
 Calls prog 43 #[G #[L A0_0 l0_0.length c0_0,V I a0_1,V I a0_2,V I a0_3,O a0_4,V I a0_5,O a0_6,V I a0_7,V I a0_8,L A0_9 l0_9.length c0_9,L A0_10 l0_10.length c0_10,V I a0_11,O a0_12,V I a0_13]] w fun e w'=>e=.returned (O r)∧Below w.heap.size w w':=by
 have hu1:=underlying37
 have hu2:=underlying35
 have hu3:=underlying32
 have HR1_0:=C hr0_0
 have HC1_0:=C hc0_0
 (try clear hr0_0);(try clear hc0_0)
 have HR1_9:=C hr0_9
 have HC1_9:=C hc0_9
 (try clear hr0_9);(try clear hc0_9)
 have HR1_10:=C hr0_10
 have HC1_10:=C hc0_10
 (try clear hr0_10);(try clear hc0_10)
 have HB:=C (Below.refl w.heap.size w)
 have H:=h
 unfold spec_MachineOk.f at H
 clear h
 have HC2:=C H
 clear H
 go_enter func43,ntmps43
 go_upto_region 1 with(first|((with_reducible refine gate_dst (N:=1) rfl ?_);refine Fix.be 1 #[L A0_0 l0_0.length c0_0,V I a0_1,V I a0_2,V I a0_3,O a0_4,V I a0_5,O a0_6,V I a0_7,V I a0_8,L A0_9 l0_9.length c0_9,L A0_10 l0_10.length c0_10,V I a0_11,O a0_12,V I a0_13] 37 ?_;intro gb1 hg w1 BK1 hb;have GW1:=gE (w:=w) hg;replace HB:=eB hb;clear hb hg))
 (try simp only[Act.put,List.setIfInBounds_toArray,List.set_cons_zero,List.set_cons_succ])
 go_cut [18] (fun v18 wc=>∃(kq:Nat) (x1_1:Bool),v18=O x1_1∧D (spec_MachineOk.j0 kq x1_1 l0_0 a0_1 a0_2 a0_3 a0_4 a0_5 a0_6 a0_7 a0_8 l0_9 l0_10 a0_11 a0_12 a0_13=some r)∧D (kq≤k)∧D (wc.heap[gb1]? =some (.cells #[(L A0_0 l0_0.length c0_0),V I a0_1,V I a0_2,V I a0_3,O a0_4,V I a0_5,O a0_6,V I a0_7,V I a0_8,(L A0_9 l0_9.length c0_9),(L A0_10 l0_10.length c0_10),V I a0_11,O a0_12,V I a0_13] 37 (0,0)))∧D (Below w.heap.size w wc))
 case first=>
  have H:=HC2.out
  clear HC2
  obtain⟨t1,A1,H⟩:=bnd H
  by_cases c1:t1=true
  rotate_left
  ·obtain rfl:=nt c1
   replace H:=nf H
   have H':=C H
   clear H
   have h_:=d14 BK1.out;(repeat(obtain⟨_,h_⟩:=h_))
   go_wp2_with (first|((with_reducible refine gate_callee (f:=54) rfl ?_);refine gl 54 (some 5) func54 #[L A0_0 l0_0.length c0_0] ?_;(with_reducible refine(spec_JobsOk.calls k _ _ l0_0 false _ ?side1 HC1_0.out A1.out).mono ?_);(case side1=>exact uZ HR1_0);rintro e w2 ⟨rfl,hb⟩;refine⟨_,rfl,?_⟩;replace BK1:=eK BK1 hb;replace HB:=eB hb;clear hb))
   go_meet
   case rel=>exact⟨_,(true),rS,H',⟨oL⟩,⟨bK BK1.out⟩,⟨uB⟩⟩
  subst c1
  rw[if_pos rfl]at H
  obtain⟨t2,A2,H⟩:=bnd H
  by_cases c2:t2=true
  rotate_left
  ·obtain rfl:=nt c2
   replace H:=nf H
   have H':=C H
   clear H
   have h_:=d14 BK1.out;(repeat(obtain⟨_,h_⟩:=h_))
   go_wp2_with (first|((with_reducible refine gate_callee (f:=54) rfl ?_);refine gl 54 (some 5) func54 #[L A0_0 l0_0.length c0_0] ?_;(with_reducible refine(spec_JobsOk.calls k _ _ l0_0 true _ ?side1 HC1_0.out A1.out).mono ?_);(case side1=>exact uZ HR1_0);rintro e w2 ⟨rfl,hb⟩;refine⟨_,rfl,?_⟩;replace BK1:=eK BK1 hb;replace HB:=eB hb;clear hb;have h_:=d14 BK1.out;(repeat(obtain⟨_,h_⟩:=h_)))|(go_at_call 55;(with_reducible refine(spec_LineOk.calls k a0_7 a0_8 _ _ l0_9 _ _ l0_10 a0_11 a0_12 false _ ?side1 HC1_9.out ?side3 HC1_10.out A2.out).mono ?_);(case side1=>exact uZ HR1_9);(case side3=>exact uZ HR1_10);rintro e w3 ⟨rfl,hb⟩;replace BK1:=eK BK1 hb;replace HB:=eB hb;clear hb))
   go_meet
   case rel=>exact⟨_,(true),rS,H',⟨oL⟩,⟨bK BK1.out⟩,⟨uB⟩⟩
  subst c2
  rw[if_pos rfl]at H
  obtain⟨t3,A3,H⟩:=bnd H
  have H':=C H
  clear H
  have h_:=d14 BK1.out;(repeat(obtain⟨_,h_⟩:=h_))
  go_wp2_with (first|((with_reducible refine gate_callee (f:=54) rfl ?_);refine gl 54 (some 5) func54 #[L A0_0 l0_0.length c0_0] ?_;(with_reducible refine(spec_JobsOk.calls k _ _ l0_0 true _ ?side1 HC1_0.out A1.out).mono ?_);(case side1=>exact uZ HR1_0);rintro e w2 ⟨rfl,hb⟩;refine⟨_,rfl,?_⟩;replace BK1:=eK BK1 hb;replace HB:=eB hb;clear hb;obtain⟨_,_,_,_,_,_,_,_,_,_,_,_,_,_,_,_,_,_,_,_,_,_,_,_,_,_,_,_⟩:=d14 BK1.out)|(go_at_call 55;(with_reducible refine(spec_LineOk.calls k a0_7 a0_8 _ _ l0_9 _ _ l0_10 a0_11 a0_12 true _ ?side1 HC1_9.out ?side3 HC1_10.out A2.out).mono ?_);(case side1=>exact uZ HR1_9);(case side3=>exact uZ HR1_10);rintro e w3 ⟨rfl,hb⟩;replace BK1:=eK BK1 hb;replace HB:=eB hb;clear hb;have h_:=d14 BK1.out;(repeat(obtain⟨_,h_⟩:=h_)))|(go_at_call 12;(with_reducible refine(spec_l01In.calls a0_13 0 100000 t3 _ A3.out).mono ?_);rintro e w' ⟨rfl,⟨nd,rfl⟩⟩))
  go_meet
  case rel=>exact⟨_,(!t3),rS,H',⟨oL⟩,⟨bK BK1.out⟩,⟨uB⟩⟩
 case rest=>
  clear HC2
  obtain⟨kq,x1_1,rfl,HA,HJ1,BK1,HB⟩:=hcut
  cases kq with
  |zero=>exact absurd HA.out (by simp[spec_MachineOk.j0])
  |succ kj1=>
   have H:=HA.out
   clear HA
   simp only[spec_MachineOk.j0]at H
   by_cases c1:x1_1=true
   ·subst c1
    rw[if_pos rfl]at H
    obtain rfl:=si H
    exact spec_MachineOk.W1
   obtain rfl:=nt c1
   replace H:=nf H
   by_cases c2:(a0_1==0 && (a0_2==0 && (a0_3==0 && (!a0_4 && (a0_5==0 && (!a0_6))))))=true
   ·rw[if_pos c2]at H
    have c2b0:(a0_1==0 && (a0_2==0 && (a0_3==0 && (!a0_4 && (a0_5==0 && (!a0_6))))))=true:=c2
    (try(have c2b1:decide (a0_1=0 && (a0_2==0 && (a0_3==0 && (!a0_4 && (a0_5==0 && (!a0_6))))))=true:=by simpa using c2))
    (try(have c2b2:(a0_1==0 && (a0_2==0 && (a0_3==0 && (!a0_4 && (a0_5==0 && (!a0_6))))))=true:=by simpa using c2))
    clear c2
    obtain rfl:=si H
    have h_:=d14 BK1.out;(repeat(obtain⟨_,h_⟩:=h_))
    exact spec_MachineOk.W1
   rw[if_neg c2]at H
   have c2b0:(a0_1==0 && (a0_2==0 && (a0_3==0 && (!a0_4 && (a0_5==0 && (!a0_6))))))=false:=by simpa using c2
   (try(have c2b1:decide (a0_1=0 && (a0_2==0 && (a0_3==0 && (!a0_4 && (a0_5==0 && (!a0_6))))))=false:=by simpa using c2))
   (try(have c2b2:(a0_1==0 && (a0_2==0 && (a0_3==0 && (!a0_4 && (a0_5==0 && (!a0_6))))))=false:=by simpa using c2))
   (try(have c2b3:¬(a0_1=0 && (a0_2==0 && (a0_3==0 && (!a0_4 && (a0_5==0 && (!a0_6)))))):=by simpa using c2))
   clear c2
   obtain⟨t1,A1,H⟩:=bnd H
   by_cases c3:t1=true
   rotate_left
   ·obtain rfl:=nt c3
    replace H:=nf H
    obtain rfl:=si H
    have h_:=d14 BK1.out;(repeat(obtain⟨_,h_⟩:=h_))
    try go_wp2
    replace BK1:=dK BK1
    replace HB:=dB HB
    refine start_ (n:=19) (S:=fun w'=>cl14 w' gb1 (L A0_0 l0_0.length c0_0) (V I a0_1) (V I a0_2) (V I a0_3) (O a0_4) (V I a0_5) (O a0_6) (V I a0_7) (V I a0_8) (L A0_9 l0_9.length c0_9) (L A0_10 l0_10.length c0_10) (V I a0_11) (O a0_12) (V I a0_13)) (ds:= []) #[false,false,false,false,false,false,false,false,false,false,false,false,false,false,false,false,false,false,false] (by kernel_rfl) rfl rfl hh (fun hHeld=> ?_);refine with_tabW spec_MachineOk.tab5 spec_MachineOk.bits5 (fun HT_ HW_=> ?_)
    generalize wc.drew=w2 at BK1 HB hHeld ⊢
    refine pu 0 (some 27) ?_
    refine tu 1 (some 28) hHeld ?_
    refine ou 2 (some 29) (fun K hK=> ?_)
    refine gs func37 #[G #[V I a0_1,V I a0_2,V I a0_3,O a0_4,V I a0_5,O a0_6]] ?_
    with_reducible refine(spec_JobOk.calls a0_1 a0_2 a0_3 a0_4 a0_5 a0_6 false _ A1.out).mono ?_
    rintro e w3 ⟨rfl,hb⟩
    refine⟨_,rfl,?_⟩
    replace BK1:=eK BK1 hb
    replace HB:=eB hb
    (try clear hb)
    refine hK.out _ _ hh (fun hHeld=> ?_)
    clear hK K
    refine nu (N:=(some 29)) ?_
    refine pu 3 (some 30) ?_
    refine px 4 (some 31) ?_
    refine px 5 (some 32) ?_
    refine px 6 (some 33) ?_
    refine px 7 (some 34) ?_
    refine pu 8 (some 35) ?_
    refine pu 9 (some 36) ?_
    refine px 10 (some 37) ?_
    refine px 11 (some 38) ?_
    refine px 12 (some 39) ?_
    refine px 13 (some 40) ?_
    refine px 14 (some 41) ?_
    refine px 15 (some 42) ?_
    refine px 16 (some 43) ?_
    refine pu 17 (some 44) ?_
    refine pu 18 (some 2) ?_
    refine done_ (done_of HT_.out (by kernel_rfl)) ?_
    try go_wp2
    go_ret
    exact⟨rE,uB⟩
   subst c3
   rw[if_pos rfl]at H
   obtain⟨t2,A2,H⟩:=bnd H
   by_cases c4:t2≤40
   rotate_left
   ·rw[if_neg c4]at H
    replace c4:=decide_eq_false c4
    obtain rfl:=si H
    have h_:=d14 BK1.out;(repeat(obtain⟨_,h_⟩:=h_))
    try go_wp2
    replace BK1:=dK BK1
    replace HB:=dB HB
    refine start_ (n:=19) (S:=fun w'=>cl14 w' gb1 (L A0_0 l0_0.length c0_0) (V I a0_1) (V I a0_2) (V I a0_3) (O a0_4) (V I a0_5) (O a0_6) (V I a0_7) (V I a0_8) (L A0_9 l0_9.length c0_9) (L A0_10 l0_10.length c0_10) (V I a0_11) (O a0_12) (V I a0_13)) (ds:= []) #[false,false,false,false,false,false,false,false,false,false,false,false,false,false,false,false,false,false,false] (by kernel_rfl) rfl rfl hh (fun hHeld=> ?_);refine with_tabW spec_MachineOk.tab5 spec_MachineOk.bits5 (fun HT_ HW_=> ?_)
    generalize wc.drew=w2 at BK1 HB hHeld ⊢
    refine pu 0 (some 27) ?_
    refine tu 1 (some 28) hHeld ?_
    refine ou 2 (some 29) (fun K hK=> ?_)
    refine gs func37 #[G #[V I a0_1,V I a0_2,V I a0_3,O a0_4,V I a0_5,O a0_6]] ?_
    with_reducible refine(spec_JobOk.calls a0_1 a0_2 a0_3 a0_4 a0_5 a0_6 true _ A1.out).mono ?_
    rintro e w3 ⟨rfl,hb⟩
    refine⟨_,rfl,?_⟩
    replace BK1:=eK BK1 hb
    replace HB:=eB hb
    (try clear hb)
    refine hK.out _ _ hh (fun hHeld=> ?_)
    clear hK K
    refine nu (N:=(some 29)) ?_
    refine pu 3 (some 30) ?_
    refine pu 4 (some 31) ?_
    refine tu 5 (some 32) hHeld ?_
    refine ou 6 (some 33) (fun K hK=> ?_)
    refine gs func56 #[G #[V I a0_1,V I a0_2,V I a0_3,O a0_4,V I a0_5,O a0_6]] ?_
    with_reducible refine(spec_JobSheets.calls kj1 a0_1 a0_2 a0_3 a0_4 a0_5 a0_6 t2 _ A2.out).mono ?_
    rintro e w4 ⟨rfl,hb⟩
    refine⟨_,rfl,?_⟩
    replace BK1:=eK BK1 hb
    replace HB:=eB hb
    (try clear hb)
    refine hK.out _ _ hh (fun hHeld=> ?_)
    clear hK K
    refine nu (N:=(some 33)) ?_
    refine pu 7 (some 34) ?_
    refine pu 8 (some 35) ?_
    refine pu 9 (some 36) ?_
    refine px 10 (some 37) ?_
    refine px 11 (some 38) ?_
    refine px 12 (some 39) ?_
    refine px 13 (some 40) ?_
    refine px 14 (some 41) ?_
    refine px 15 (some 42) ?_
    refine px 16 (some 43) ?_
    refine pu 17 (some 44) ?_
    refine pu 18 (some 2) ?_
    refine done_ (done_of HT_.out (by kernel_rfl)) ?_
    try go_wp2
    go_ret
    exact⟨rE,uB⟩
   rw[if_pos c4]at H
   replace c4:=decide_eq_true c4
   obtain⟨t3,A3,H⟩:=bnd H
   obtain rfl:=si H
   have h_:=d14 BK1.out;(repeat(obtain⟨_,h_⟩:=h_))
   try go_wp2
   replace BK1:=dK BK1
   replace HB:=dB HB
   refine start_ (n:=19) (S:=fun w'=>cl14 w' gb1 (L A0_0 l0_0.length c0_0) (V I a0_1) (V I a0_2) (V I a0_3) (O a0_4) (V I a0_5) (O a0_6) (V I a0_7) (V I a0_8) (L A0_9 l0_9.length c0_9) (L A0_10 l0_10.length c0_10) (V I a0_11) (O a0_12) (V I a0_13)) (ds:= []) #[false,false,false,false,false,false,false,false,false,false,false,false,false,false,false,false,false,false,false] (by kernel_rfl) rfl rfl hh (fun hHeld=> ?_);refine with_tabW spec_MachineOk.tab5 spec_MachineOk.bits5 (fun HT_ HW_=> ?_)
   generalize wc.drew=w2 at BK1 HB hHeld ⊢
   refine pu 0 (some 27) ?_
   refine tu 1 (some 28) hHeld ?_
   refine ou 2 (some 29) (fun K hK=> ?_)
   refine gs func37 #[G #[V I a0_1,V I a0_2,V I a0_3,O a0_4,V I a0_5,O a0_6]] ?_
   with_reducible refine(spec_JobOk.calls a0_1 a0_2 a0_3 a0_4 a0_5 a0_6 true _ A1.out).mono ?_
   rintro e w3 ⟨rfl,hb⟩
   refine⟨_,rfl,?_⟩
   replace BK1:=eK BK1 hb
   replace HB:=eB hb
   (try clear hb)
   refine hK.out _ _ hh (fun hHeld=> ?_)
   clear hK K
   refine nu (N:=(some 29)) ?_
   refine pu 3 (some 30) ?_
   refine pu 4 (some 31) ?_
   refine tu 5 (some 32) hHeld ?_
   refine ou 6 (some 33) (fun K hK=> ?_)
   refine gs func56 #[G #[V I a0_1,V I a0_2,V I a0_3,O a0_4,V I a0_5,O a0_6]] ?_
   with_reducible refine(spec_JobSheets.calls kj1 a0_1 a0_2 a0_3 a0_4 a0_5 a0_6 t2 _ A2.out).mono ?_
   rintro e w4 ⟨rfl,hb⟩
   refine⟨_,rfl,?_⟩
   replace BK1:=eK BK1 hb
   replace HB:=eB hb
   (try clear hb)
   refine hK.out _ _ hh (fun hHeld=> ?_)
   clear hK K
   refine nu (N:=(some 33)) ?_
   refine pu 7 (some 34) ?_
   refine pu 8 (some 35) ?_
   refine pu 9 (some 36) ?_
   refine pu 10 (some 37) ?_
   refine pu 13 (some 40) ?_
   refine pu 14 (some 41) ?_
   refine tu 11 (some 38) hHeld ?_
   refine tu 15 (some 42) hHeld ?_
   refine ou 12 (some 39) (fun K hK=> ?_)
   refine gs func56 #[G #[V I a0_1,V I a0_2,V I a0_3,O a0_4,V I a0_5,O a0_6]] ?_
   with_reducible refine(spec_JobSheets.calls kj1 a0_1 a0_2 a0_3 a0_4 a0_5 a0_6 t3 _ A3.out).mono ?_
   rintro e w5 ⟨rfl,hb⟩
   refine⟨_,rfl,?_⟩
   replace BK1:=eK BK1 hb
   replace HB:=eB hb
   (try clear hb)
   refine hK.out _ _ hh (fun hHeld=> ?_)
   clear hK K
   refine nu (N:=(some 39)) ?_
   refine pu 16 (some 43) ?_
   refine pu 17 (some 44) ?_
   refine pu 18 (some 2) ?_
   refine done_ (done_of HT_.out (by kernel_rfl)) ?_
   try go_wp2
   go_ret
   exact⟨rE,uB⟩
def spec_l39Job.f (a0_0:Int) (a0_1:Int) (a0_2:Int) (a0_3:Int):Option (Int×Int×Int×Bool×Int×Bool):=some (a0_1,a0_2,1,false,a0_3,(a0_3==9))
theorem spec_l39Job.calls (a0_0:Int) (a0_1:Int) (a0_2:Int) (a0_3:Int) (r1:Int) (r2:Int) (r3:Int) (r4:Bool) (r5:Int) (r6:Bool) (w:World) (h:spec_l39Job.f a0_0 a0_1 a0_2 a0_3=some (r1,r2,r3,r4,r5,r6)):
 Calls prog 38 #[G #[V I a0_0,V I a0_1,V I a0_2,V I a0_3]] w fun e w'=>e=.returned (G #[V I r1,V I r2,V I r3,O r4,V I r5,O r6])∧Below w.heap.size w w':=by
 have hu1:=underlying23
 have hu2:=underlying32
 have HB:=C (Below.refl w.heap.size w)
 have H:=h
 unfold spec_l39Job.f at H
 clear h
 simp only[Option.some.injEq,Prod.mk.injEq]at H
 obtain⟨rfl,rfl,rfl,rfl,rfl,rfl⟩:=H
 go_enter func38,ntmps38
 go_wp2_with (first|((with_reducible refine gate_dst (N:=1) rfl ?_);refine Fix.be 1 #[V I a0_0,V I a0_1,V I a0_2,V I a0_3] 23 ?_;intro gb1 hg w1 BK1 hb;have GW1:=gE (w:=w) hg;replace HB:=eB hb;clear hb hg)|((with_reducible refine gate_dst (N:=2) rfl ?_);refine Fix.be 2 #[V I 0,V I 0,V I 0,O false,V I 0,O false] 32 ?_;intro gb2 hg w2 BK2 hb;have GW2:=gE (w:=w) hg;have n0:=nL hg BK1;have n1:=nG hg BK1;replace BK1:=eK BK1 hb;replace HB:=eB hb;clear hb hg;have:=n0.out;have:=n1.out;obtain⟨_,_,_,_,_,_,_,_⟩:=d4 BK1.out;obtain⟨_,_,_,_,_,_,_,_,_,_,_,_⟩:=d6 BK2.out))
 refine bodyPost_ret (results_cell_row rfl _ _ gb2 32 #[V I a0_1,V I a0_2,V I 1,O false,V I a0_3,O (a0_3==9)] (0,0) _ rfl (bK BK2.out) underlying32 rfl (by kernel_rfl)) rfl ?_
 exact⟨rE,uB⟩
end Go.Proofs.YtgdnlmfoghpeoaaDoor.PFnActTexts
