/- Calls do what plain Lean functions say (FnExactParseAct). No condition. -/
import Derived.Test.YtgdnlmfoghpeoaaDoorQFnExactParseAct0
namespace Go.Proofs.YtgdnlmfoghpeoaaDoor.PFnExactParseAct
open Go.RowKit Go.Proofs.YtgdnlmfoghpeoaaDoorW.PrintWords Go.Proofs.YtgdnlmfoghpeoaaDoorW.PrintLast Go.Proofs.YtgdnlmfoghpeoaaDoorW.PrintMore
open Tryd
open Fix (bK bnd cl4 d4 d6 dB dK dR eB eK eR fR gE gl gs gy hh lR nG nL nf np nt nu oL oT ou pu rE rS si tu uB uR)
open Go.Value renaming int→V,bool→O
open Go.IntKind renaming i64→I
open Go.Proofs.YtgdnlmfoghpeoaaDoorW.PrintWords.Aside0 renaming mk→C
open Go.Proofs.YtgdnlmfoghpeoaaDoorW.PrintWords renaming Aside0→D,gate_callee→F,gate_dst→J
attribute [local go_sem] max2_int min2_int max_two min_two max_three min_three max_four min_four
attribute [local go_sem] Fix.isSome_setCell
set_option linter.unusedVariables false
set_option maxHeartbeats 40000000
set_option maxRecDepth 100000
set_option linter.unusedSimpArgs false
mutual
def spec_SplitFields.l0:Nat→ByteArray→List ByteArray→Int→Int→Option (List ByteArray×Bool)
  |0,_,_,_,_=>none
  |k+1,x0,x4,x5,x6=>if x6≤(x0.size:Int) then(if x6<(x0.size:Int) then(if 0≤x6 then(if(bt x0 x6)<32 then(spec_SplitFields.j1 k x0 x4 x5 x6 true) else(spec_SplitFields.j1 k x0 x4 x5 x6 (decide ((bt x0 x6) >126)))) else(none)) else(spec_SplitFields.j1 k x0 x4 x5 x6 false)) else(if(x4.length:Int) >24 then(some ((([]:List ByteArray)),false)) else(some (x4,true)))
def spec_SplitFields.j1:Nat→ByteArray→List ByteArray→Int→Int→Bool→Option (List ByteArray×Bool)
  |0,_,_,_,_,_=>none
  |k+1,x0,x4,x5,x6,x33=>if x33=true then(some ((([]:List ByteArray)),false)) else(if x6<(x0.size:Int) then(if 0≤x6 then(spec_SplitFields.j2 k x0 x4 x5 x6 ((bt x0 x6) !=32)) else(none)) else(spec_SplitFields.j2 k x0 x4 x5 x6 false))
def spec_SplitFields.j2:Nat→ByteArray→List ByteArray→Int→Int→Bool→Option (List ByteArray×Bool)
  |0,_,_,_,_,_=>none
  |k+1,x0,x4,x5,x6,x44=>if x44=true then(spec_SplitFields.l0 k x0 x4 x5 (wrap64 (x6+1))) else(if x5<x6 then(if 0≤x5 then(if x5≤x6 then(if x6≤(x0.size:Int) then(if x4.length<8796093022208 then(spec_SplitFields.l0 k x0 (x4++ [x0.extract (x5:Int).toNat (x6:Int).toNat]) (wrap64 (x6+1)) (wrap64 (x6+1))) else(none)) else(none)) else(none)) else(none)) else(spec_SplitFields.l0 k x0 x4 (wrap64 (x6+1)) (wrap64 (x6+1))))
end
def spec_SplitFields.f (k:Nat) (a0:ByteArray):Option (List ByteArray×Bool):=(some (([]:List ByteArray):List ByteArray)).bind fun y101=>(if(a0.size:Int) >600 then(some (y101,false)) else(spec_SplitFields.l0 k a0 y101 0 0))
theorem spec_SplitFields.W1 {p:Prop} (h:p:=by
 go_wp2
 go_meet
 first
  |(case rel=>exact⟨_,(true),rS,H',⟨by have:=HK1.out;first|omega|exact Nat.le_refl _⟩,⟨fR HO_1.out⟩,⟨uB⟩⟩)
  |(case rel=>exact⟨_,(decide ((bt a0 x3_1) >126)),rS,H',⟨by have:=HK1.out;first|omega|exact Nat.le_refl _⟩,⟨fR HO_1.out⟩,⟨uB⟩⟩)
  |(case rel=>exact⟨_,(false),rS,H',⟨by have:=HK1.out;first|omega|exact Nat.le_refl _⟩,⟨fR HO_1.out⟩,⟨uB⟩⟩)
  |(case rel=>exact⟨_,(((bt a0 x3_1) !=32)),rS,H',⟨by have:=HK1.out;have:=HJ1.out;first|omega|exact Nat.le_refl _⟩,⟨fR HO_1.out⟩,⟨uB⟩⟩)
  |(case rel=>exact⟨_,(false),rS,H',⟨by have:=HK1.out;have:=HJ1.out;first|omega|exact Nat.le_refl _⟩,⟨fR HO_1.out⟩,⟨uB⟩⟩)):p:=h
theorem spec_SplitFields.W2 {p:Prop} (h:p:=by
 go_wp2_with (first|((with_reducible refine J (N:=34) rfl ?_);refine Kd.R_lit Kd.string _ 9 ?hg (N:=34) ?hd (xs:=([]:List ByteArray)) (inner:= []) (ok:=fun _=>True) (okp:=fun _=>True) ?hr ?hp (fun _ hk=>hk) trivial (Below.refl _ _) (Nat.le_refl _) (by simp) ?_;(case hd=>rfl);(case hg=>rfl);(case hr=>exact Fix.hr);(case hp=>exact(Reps.none _ _));intro v2 w2 ho2 hb hg_ hnew_;clear hg_ hnew_;(first|rw[←Ny2.out]at ho2|(simp only[Int.reduceToNat]at ho2;rw[←Ny2.out]at ho2));have HO2:=C (Kd.R_lower (Kd.R_new' ho2 (Kd.R_lt (uR HO_1.out))) (below_size uB));replace HO_1:=C (Kd.R_elder' (uR HO_1.out) (Kd.R_base ho2) hb);replace HB:=eB hb;clear hb ho2)|((with_reducible refine J (N:=60) rfl ?_);refine Kd.R_lit Kd.string _ 9 ?hg (N:=60) ?hd (xs:=([]:List ByteArray)) (inner:= []) (ok:=fun _=>True) (okp:=fun _=>True) ?hr ?hp (fun _ hk=>hk) trivial (Below.refl _ _) (Nat.le_refl _) (by simp) ?_;(case hd=>rfl);(case hg=>rfl);(case hr=>exact Fix.hr);(case hp=>exact(Reps.none _ _));intro v2 w2 ho2 hb hg_ hnew_;clear hg_ hnew_;(first|rw[←Ny2.out]at ho2|(simp only[Int.reduceToNat]at ho2;rw[←Ny2.out]at ho2));have HO2:=C (Kd.R_lower (Kd.R_new' ho2 (Kd.R_lt (uR HO_1.out))) (below_size uB));replace HO_1:=C (Kd.R_elder' (uR HO_1.out) (Kd.R_base ho2) hb);replace HB:=eB hb;clear hb ho2))
 go_ret2
 exact⟨_,rE,Kd.R_mono (fR HO2.out) (fun _ hk=>trivial),uB⟩):p:=h
theorem spec_SplitFields.W3 {p:Prop} (h:p:=by
 go_wp2
 go_roundg kj16
 case measure=>have:=HK1.out;have:=HJ1.out;have:=HJ2.out;omega
 first
  |(case rel=>exact⟨(x1_1),(x2_1),(wrap64 (x3_1+1)),rS,rS,H',⟨by have:=HK1.out;have:=HJ1.out;have:=HJ2.out;omega⟩,⟨fR HO_1.out⟩,⟨uB⟩⟩)
  |(case rel=>exact⟨(x1_1),(wrap64 (x3_1+1)),(wrap64 (x3_1+1)),rS,rS,H',⟨by have:=HK1.out;have:=HJ1.out;have:=HJ2.out;omega⟩,⟨fR HO_1.out⟩,⟨uB⟩⟩)):p:=h
theorem spec_SplitFields.calls (k:Nat) (a0:ByteArray) (r1:List ByteArray) (r2:Bool) (w:World) (h:spec_SplitFields.f k a0=some (r1,r2)):
 Calls prog 11 #[.string a0] w fun e w'=>∃v0_:Value,e=.returned (.tuple #[v0_,O r2])∧Kd.R Kd.string 9 w' w.heap.size (fun _=>True) v0_ r1∧Below w.heap.size w w':=by
 have HB:=C (Below.refl w.heap.size w)
 have H:=h
 unfold spec_SplitFields.f at H
 clear h
 obtain⟨y1,hy1⟩:∃y_:List ByteArray,y_=(([]:List ByteArray)):=⟨_,rfl⟩
 replace H:(if(a0.size:Int) >600 then(some (y1,false)) else(spec_SplitFields.l0 k a0 y1 0 0))=some (r1,r2):=gy hy1 H
 have Ny1:=C hy1
 clear hy1
 by_cases c1:(a0.size:Int) >600
 ·rw[if_pos c1]at H
  have c1b0:decide (600<(a0.size:Int))=true:=decide_eq_true c1
  have c1b1:decide (600<a0.size)=true:=decide_eq_true (by omega)
  clear c1
  simp only[Option.some.injEq,Prod.mk.injEq]at H
  obtain⟨rfl,rfl⟩:=H
  go_enter func11,ntmps11
  go_wp2_with (first|((with_reducible refine J (N:=7) rfl ?_);refine Kd.R_lit Kd.string _ 9 ?hg (N:=7) ?hd (xs:=([]:List ByteArray)) (inner:= []) (ok:=fun _=>True) (okp:=fun _=>True) ?hr ?hp (fun _ hk=>hk) trivial (Below.refl _ _) (Nat.le_refl _) (by simp) ?_;(case hd=>rfl);(case hg=>rfl);(case hr=>exact Fix.hr);(case hp=>exact(Reps.none _ _));intro v1 w1 ho1 hb hg_ hnew_;clear hg_ hnew_;(first|rw[←Ny1.out]at ho1|(simp only[Int.reduceToNat]at ho1;rw[←Ny1.out]at ho1));have HO1:=lR ho1;replace HB:=eB hb;clear hb ho1))
  go_ret2
  exact⟨_,rE,fR HO1.out,uB⟩
 rw[if_neg c1]at H
 have c1b0:decide (600<(a0.size:Int))=false:=decide_eq_false c1
 have c1b1:decide (600<a0.size)=false:=decide_eq_false (by omega)
 clear c1
 have H':=C H
 clear H
 go_enter func11,ntmps11
 go_wp2_with (first|((with_reducible refine J (N:=7) rfl ?_);refine Kd.R_lit Kd.string _ 9 ?hg (N:=7) ?hd (xs:=([]:List ByteArray)) (inner:= []) (ok:=fun _=>True) (okp:=fun _=>True) ?hr ?hp (fun _ hk=>hk) trivial (Below.refl _ _) (Nat.le_refl _) (by simp) ?_;(case hd=>rfl);(case hg=>rfl);(case hr=>exact Fix.hr);(case hp=>exact(Reps.none _ _));intro v1 w1 ho1 hb hg_ hnew_;clear hg_ hnew_;(first|rw[←Ny1.out]at ho1|(simp only[Int.reduceToNat]at ho1;rw[←Ny1.out]at ho1));have HO1:=lR ho1;replace HB:=eB hb;clear hb ho1))
 go_loopg [4,5,6] k (fun kq v4 v5 v6 w'=>∃(x1_1:List ByteArray) (x2_1:Int) (x3_1:Int),v5=V I x2_1∧v6=V I x3_1∧D (spec_SplitFields.l0 kq a0 x1_1 x2_1 x3_1=some (r1,r2))∧D (kq≤k)∧D (Kd.R Kd.string 9 w' w.heap.size (fun _=>True) v4 x1_1)∧D (Below w.heap.size w w'))
 case atStart=>exact⟨(y1),(0),(0),rS,rS,H',⟨Nat.le_refl _⟩,⟨fR HO1.out⟩,⟨uB⟩⟩
 case round=>
  clear H'
  obtain⟨x1_1,x2_1,x3_1,rfl,rfl,HA,HK1,HO_1,HB⟩:=hrel
  cases gk with
  |zero=>exact absurd HA.out (by simp[spec_SplitFields.l0])
  |succ k1=>
   have H:=HA.out
   clear HA
   simp only[spec_SplitFields.l0]at H
   by_cases c2:x3_1≤(a0.size:Int)
   rotate_left
   ·rw[if_neg c2]at H
    replace c2:=decide_eq_false c2
    by_cases c3:(x1_1.length:Int) >24
    rotate_left
    ·rw[if_neg c3]at H
     have c3b0:decide (24<(x1_1.length:Int))=false:=decide_eq_false c3
     have c3b1:decide (24<x1_1.length)=false:=decide_eq_false (by omega)
     clear c3
     simp only[Option.some.injEq,Prod.mk.injEq]at H
     obtain⟨rfl,rfl⟩:=H
     obtain⟨Ao1,co1,eo1⟩:=Kd.R_slice HO_1.out
     subst eo1
     go_wp2
     go_ret2
     exact⟨_,rE,fR HO_1.out,uB⟩
    rw[if_pos c3]at H
    have c3b0:decide (24<(x1_1.length:Int))=true:=decide_eq_true c3
    have c3b1:decide (24<x1_1.length)=true:=decide_eq_true (by omega)
    clear c3
    obtain⟨y2,hy2⟩:∃y_:List ByteArray,y_=(([]:List ByteArray)):=⟨_,rfl⟩
    replace H:(some (y2,false))=some (r1,r2):=gy hy2 H
    have Ny2:=C hy2
    clear hy2
    simp only[Option.some.injEq,Prod.mk.injEq]at H
    obtain⟨rfl,rfl⟩:=H
    obtain⟨Ao1,co1,eo1⟩:=Kd.R_slice HO_1.out
    subst eo1
    exact spec_SplitFields.W2
   rw[if_pos c2]at H
   replace c2:=decide_eq_true c2
   have HC1:=C H
   clear H
   go_upto_region 8 with(fail)
   go_cut [33] (fun v33 wc=>∃(kq:Nat) (x4_7:Bool),v33=O x4_7∧D (spec_SplitFields.j1 kq a0 x1_1 x2_1 x3_1 x4_7=some (r1,r2))∧D (kq≤k1)∧D (Kd.R Kd.string 9 wc w.heap.size (fun _=>True) u4 x1_1)∧D (Below w.heap.size w wc))
   case first=>
    have H:=HC1.out
    clear HC1
    by_cases c3:x3_1<(a0.size:Int)
    rotate_left
    ·rw[if_neg c3]at H
     have c3b0:decide (x3_1<(a0.size:Int))=false:=decide_eq_false c3
     clear c3
     (first|rw[c3b0]|(simp only[i64_w,i32_w];rw[c3b0])|skip)
     have H':=C H
     clear H
     exact spec_SplitFields.W1
    rw[if_pos c3]at H
    have c3b0:decide (x3_1<(a0.size:Int))=true:=decide_eq_true c3
    clear c3
    (first|rw[c3b0]|(simp only[i64_w,i32_w];rw[c3b0])|skip)
    obtain⟨c4,H⟩:=np H
    have c4b0:decide (0≤x3_1)=true:=decide_eq_true c4
    clear c4
    by_cases c5:(bt a0 x3_1)<32
    ·rw[if_pos c5]at H
     replace c5:=decide_eq_true c5
     have H':=C H
     clear H
     have p1:0≤(x3_1:Int):=oT
     have q1:x3_1<(a0.size:Int):=oT
     have hx1:=bt_at a0 x3_1
     replace p1:=eq_true p1
     replace q1:=eq_true q1
     exact spec_SplitFields.W1
    rw[if_neg c5]at H
    replace c5:=decide_eq_false c5
    have H':=C H
    clear H
    have p1:0≤(x3_1:Int):=oT
    have q1:x3_1<(a0.size:Int):=oT
    have hx1:=bt_at a0 x3_1
    replace p1:=eq_true p1
    replace q1:=eq_true q1
    have p2:0≤(x3_1:Int):=oT
    have q2:x3_1<(a0.size:Int):=oT
    have hx2:=bt_at a0 x3_1
    replace p2:=eq_true p2
    replace q2:=eq_true q2
    exact spec_SplitFields.W1
   case rest=>
    clear HC1
    obtain⟨kq,x4_7,rfl,HA,HJ1,HO_1,HB⟩:=hcut
    cases kq with
    |zero=>exact absurd HA.out (by simp[spec_SplitFields.j1])
    |succ kj7=>
     have H:=HA.out
     clear HA
     simp only[spec_SplitFields.j1]at H
     by_cases c3:x4_7=true
     ·subst c3
      rw[if_pos rfl]at H
      obtain⟨y2,hy2⟩:∃y_:List ByteArray,y_=(([]:List ByteArray)):=⟨_,rfl⟩
      replace H:(some (y2,false))=some (r1,r2):=gy hy2 H
      have Ny2:=C hy2
      clear hy2
      simp only[Option.some.injEq,Prod.mk.injEq]at H
      obtain⟨rfl,rfl⟩:=H
      exact spec_SplitFields.W2
     obtain rfl:=nt c3
     replace H:=nf H
     have HC2:=C H
     clear H
     go_upto_region 10 with(fail)
     go_cut [44] (fun v44 wc=>∃(kq:Nat) (x5_16:Bool),v44=O x5_16∧D (spec_SplitFields.j2 kq a0 x1_1 x2_1 x3_1 x5_16=some (r1,r2))∧D (kq≤kj7)∧D (Kd.R Kd.string 9 wc w.heap.size (fun _=>True) u4 x1_1)∧D (Below w.heap.size w wc))
     case first=>
      have H:=HC2.out
      clear HC2
      by_cases c4:x3_1<(a0.size:Int)
      rotate_left
      ·rw[if_neg c4]at H
       have c4b0:decide (x3_1<(a0.size:Int))=false:=decide_eq_false c4
       clear c4
       (first|rw[c4b0]|(simp only[i64_w,i32_w];rw[c4b0])|skip)
       have H':=C H
       clear H
       exact spec_SplitFields.W1
      rw[if_pos c4]at H
      have c4b0:decide (x3_1<(a0.size:Int))=true:=decide_eq_true c4
      clear c4
      (first|rw[c4b0]|(simp only[i64_w,i32_w];rw[c4b0])|skip)
      obtain⟨c5,H⟩:=np H
      replace c5:=decide_eq_true c5
      have H':=C H
      clear H
      have p1:0≤(x3_1:Int):=oT
      have q1:x3_1<(a0.size:Int):=oT
      have hx1:=bt_at a0 x3_1
      replace p1:=eq_true p1
      replace q1:=eq_true q1
      exact spec_SplitFields.W1
     case rest=>
      clear HC2
      obtain⟨kq,x5_16,rfl,HA,HJ2,HO_1,HB⟩:=hcut
      cases kq with
      |zero=>exact absurd HA.out (by simp[spec_SplitFields.j2])
      |succ kj16=>
       have H:=HA.out
       clear HA
       simp only[spec_SplitFields.j2]at H
       by_cases c4:x5_16=true
       ·subst c4
        rw[if_pos rfl]at H
        have H':=C H
        clear H
        exact spec_SplitFields.W3
       obtain rfl:=nt c4
       replace H:=nf H
       by_cases c5:x2_1<x3_1
       rotate_left
       ·rw[if_neg c5]at H
        replace c5:=decide_eq_false c5
        have H':=C H
        clear H
        exact spec_SplitFields.W3
       rw[if_pos c5]at H
       replace c5:=decide_eq_true c5
       obtain⟨c6,H⟩:=np H
       have c6b0:=eq_true c6
       have c6b1:decide (0≤x2_1)=true:=decide_eq_true c6
       clear c6
       obtain⟨c7,H⟩:=np H
       have c7b0:=eq_true c7
       have c7b1:decide (x2_1≤x3_1)=true:=decide_eq_true c7
       clear c7
       obtain⟨c8,H⟩:=np H
       have c8b0:=eq_true c8
       have c8b1:decide (x3_1≤(a0.size:Int))=true:=decide_eq_true c8
       clear c8
       obtain⟨c9,H⟩:=np H
       have LMc1:=C c9
       clear c9
       obtain⟨y2,hy2⟩:∃y_:List ByteArray,y_=(x1_1++ [a0.extract (x2_1:Int).toNat (x3_1:Int).toNat]):=⟨_,rfl⟩
       replace H:(spec_SplitFields.l0 kj16 a0 y2 (wrap64 (x3_1+1)) (wrap64 (x3_1+1)))=some (r1,r2):=gy hy2 H
       have Ny2:=C hy2
       clear hy2
       have H':=C H
       clear H
       go_wp2_with (first|((with_reducible refine gate_builtin (b:=.append) (xs:= #[.tmp 48,.tmp 53]) rfl ?_);at_builtin;refine Kd.R_append Kd.string (w0:=w) w.heap.size rfl (.tmp 48) (.tmp 53) 43 9 (.string ⟨#[]⟩) 16 rfl underlying43 info9 rfl (by decide) (by omega) u4 x1_1 (a0.extract (x2_1:Int).toNat (x3_1:Int).toNat) [.string (a0.extract (x2_1:Int).toNat (x3_1:Int).toNat)] (fun _=>True) (fun _=>False) rfl rfl ?aP (fun _ hk=>hk.elim) ?aF ?aO ?aB ?aS ?aL ?_;(case aP=>exact rfl);(case aB=>exact uB);(case aF=>exact(fun _ _=>trivial));(case aO=>exact(uR HO_1.out));(case aS=>exact(below_size uB));(case aL=>have:=LMc1.out;omega);intro v2 w2 ho hb hg hat;rw[←Ny2.out]at ho;have HO2:=C (ho);replace HB:=C (hb);clear HO_1;clear ho hb hg hat))
       go_roundg kj16
       case measure=>have:=HK1.out;have:=HJ1.out;have:=HJ2.out;omega
       case rel=>exact⟨(y2),(wrap64 (x3_1+1)),(wrap64 (x3_1+1)),rS,rS,H',⟨by have:=HK1.out;have:=HJ1.out;have:=HJ2.out;omega⟩,⟨fR HO2.out⟩,⟨uB⟩⟩
def spec_l01In.f (a0:Int) (a1:Int) (a2:Int):Option (Bool):=if a0 ≥ a1 then(some (decide (a0≤a2))) else(some false)
theorem spec_l01In.W1 {p:Prop} (h:p:=by
 go_enter func12,ntmps12
 go_wp2
 go_ret
 exact⟨by first|rfl|(simp;done)|(simp[*];done),by repeat(first|exact Drawn0.refl _|apply Drawn0.step)⟩):p:=h
theorem spec_l01In.calls (a0:Int) (a1:Int) (a2:Int) (r:Bool) (w:World) (h:spec_l01In.f a0 a1 a2=some r):
 Calls prog 12 #[V I a0,V I a1,V I a2] w fun e w'=>e=.returned (O r)∧Drawn0 w w':=by
 have H:=h
 unfold spec_l01In.f at H
 clear h
 by_cases c1:a0 ≥ a1
 ·rw[if_pos c1]at H
  replace c1:=decide_eq_true c1
  obtain rfl:=si H
  exact spec_l01In.W1
 rw[if_neg c1]at H
 replace c1:=decide_eq_false c1
 obtain rfl:=si H
 exact spec_l01In.W1
def spec_l01Figure.f (a0:Int):Option (Int):=if a0<10 then(some ((wrap64 (48+a0)) % 256)) else(some ((wrap64 ((wrap64 (97+a0)) - 10)) % 256))
theorem spec_l01Figure.W1 {p:Prop} (h:p:=by
 go_enter func36,ntmps36
 go_wp2
 go_ret
 exact⟨by first|rfl|(simp;done)|(simp[*];done),by repeat(first|exact Drawn0.refl _|apply Drawn0.step)⟩):p:=h
theorem spec_l01Figure.calls (a0:Int) (r:Int) (w:World) (h:spec_l01Figure.f a0=some r):
 Calls prog 36 #[V I a0] w fun e w'=>e=.returned (.int .u8 r)∧Drawn0 w w':=by
 have H:=h
 unfold spec_l01Figure.f at H
 clear h
 by_cases c1:a0<10
 ·rw[if_pos c1]at H
  replace c1:=decide_eq_true c1
  obtain rfl:=si H
  exact spec_l01Figure.W1
 rw[if_neg c1]at H
 replace c1:=decide_eq_false c1
 obtain rfl:=si H
 exact spec_l01Figure.W1
def spec_FormatInt.l0:Nat→Int→Bool→ByteArray→Option (ByteArray)
  |0,_,_,_=>none
  |k+1,x0,x3,x4=>if x0=0 then(if x3=true then(if 1+x4.size≤9223372036854775807 then(some ((⟨#[45]⟩:ByteArray)++x4)) else(none)) else(some x4)) else(if(Int.tmod x0 10)<0 then((spec_l01Figure.f (wrap64 (-(Int.tmod x0 10)))).bind fun t113=>((some (([t113]:List Int):List Int)).bind fun y114=>(if(strOfNums y114).size+x4.size≤9223372036854775807 then(spec_FormatInt.l0 k (wrap64 (Int.tdiv x0 10)) x3 ((strOfNums y114)++x4)) else(none)))) else((spec_l01Figure.f (Int.tmod x0 10)).bind fun t117=>((some (([t117]:List Int):List Int)).bind fun y118=>(if(strOfNums y118).size+x4.size≤9223372036854775807 then(spec_FormatInt.l0 k (wrap64 (Int.tdiv x0 10)) x3 ((strOfNums y118)++x4)) else(none)))))
def spec_FormatInt.f (k:Nat) (a0:Int):Option (ByteArray):=if a0=0 then(some (⟨#[48]⟩:ByteArray)) else(spec_FormatInt.l0 k a0 (decide (a0<0)) (⟨#[]⟩:ByteArray))
theorem spec_FormatInt.W1 {p:Prop} (h:p:=by
    go_wp2
    first
      | (try (any_goals (exfalso; have h1_ := of_decide_eq_true c3b0; omega))
         go_ret
         exact⟨rE,uB⟩)
      | (try (any_goals (exfalso; have h1_ := of_decide_eq_false c3b0; omega))
         go_ret
         exact⟨rE,uB⟩)):p:=h
theorem spec_FormatInt.calls (k:Nat) (a0:Int) (r:ByteArray) (w:World) (h:spec_FormatInt.f k a0=some r):
 Calls prog 23 #[V I a0] w fun e w'=>e=.returned (.string r)∧Below w.heap.size w w':=by
 have HB:=C (Below.refl w.heap.size w)
 have H:=h
 unfold spec_FormatInt.f at H
 clear h
 by_cases c1:a0=0
 ·rw[if_pos c1]at H
  have c1b0:(a0==0)=true:=beq_iff_eq.mpr c1
  have c1b1:(a0 !=0)=false:=bne_eq_false_iff_eq.mpr c1
  clear c1
  obtain rfl:=si H
  go_enter func23,ntmps23
  go_wp2
  go_ret
  exact⟨rE,uB⟩
 rw[if_neg c1]at H
 have c1b0:(a0==0)=false:=beq_eq_false_iff_ne.mpr c1
 have c1b1:(a0 !=0)=true:=bne_iff_ne.mpr c1
 have H':=C H
 clear H
 go_enter func23,ntmps23
 go_wp2
 go_loopg [0,4] k (fun kq v0 v4 w'=>∃(x1_1:Int) (x2_1:ByteArray),v0=V I x1_1∧v4=.string x2_1∧D (spec_FormatInt.l0 kq x1_1 (decide (a0<0)) x2_1=some r)∧D (kq≤k)∧D (Below w.heap.size w w'))
 case atStart=>exact⟨(a0),((⟨#[]⟩:ByteArray)),rS,rS,H',⟨Nat.le_refl _⟩,⟨uB⟩⟩
 case round=>
  clear H'
  obtain⟨x1_1,x2_1,rfl,rfl,HA,HK1,HB⟩:=hrel
  cases gk with
  |zero=>exact absurd HA.out (by simp[spec_FormatInt.l0])
  |succ k1=>
   have H:=HA.out
   clear HA
   simp only[spec_FormatInt.l0]at H
   by_cases c2:x1_1=0
   ·rw[if_pos c2]at H
    have c2b0:(x1_1==0)=true:=beq_iff_eq.mpr c2
    have c2b1:(x1_1 !=0)=false:=bne_eq_false_iff_eq.mpr c2
    clear c2
    by_cases c3:(decide (a0<0))=true
    rotate_left
    ·rw[if_neg c3]at H
     have c3b0:(decide (a0<0))=false:=by simpa using c3
     clear c3
     obtain rfl:=si H
     exact spec_FormatInt.W1
    rw[if_pos c3]at H
    have c3b0:(decide (a0<0))=true:=c3
    clear c3
    obtain⟨c4,H⟩:=np H
    have c4b0:=eq_true c4
    have c4b1:decide (1+x2_1.size≤9223372036854775807)=true:=decide_eq_true c4
    try have c4b2:(9223372036854775807<1+x2_1.size)=False:=eq_false (Nat.not_lt.2 c4)
    try(have h1_:=c4;simp only[ByteArray.size_append,Ito.bsz,List.size_toArray,List.length_cons,List.length_nil]at h1_;have c4b3:=eq_false (Nat.not_lt.2 h1_);clear h1_)
    obtain rfl:=si H
    exact spec_FormatInt.W1
   rw[if_neg c2]at H
   have c2b0:(x1_1==0)=false:=beq_eq_false_iff_ne.mpr c2
   have c2b1:(x1_1 !=0)=true:=bne_iff_ne.mpr c2
   by_cases c3:(Int.tmod x1_1 10)<0
   rotate_left
   ·rw[if_neg c3]at H
    replace c3:=decide_eq_false c3
    obtain⟨t1,A1,H⟩:=bnd H
    obtain⟨y1,hy1⟩:∃y_:List Int,y_=(([t1]:List Int)):=⟨_,rfl⟩
    replace H:(if(strOfNums y1).size+x2_1.size≤9223372036854775807 then(spec_FormatInt.l0 k1 (wrap64 (Int.tdiv x1_1 10)) (decide (a0<0)) ((strOfNums y1)++x2_1)) else(none))=some r:=gy hy1 H
    have Ny1:=C hy1
    clear hy1
    obtain⟨c4,H⟩:=np H
    have c4b0:=eq_true c4
    have c4b1:decide ((strOfNums y1).size+x2_1.size≤9223372036854775807)=true:=decide_eq_true c4
    try have c4b2:(9223372036854775807<(strOfNums y1).size+x2_1.size)=False:=eq_false (Nat.not_lt.2 c4)
    try(have h1_:=c4;simp only[ByteArray.size_append,Ito.bsz,List.size_toArray,List.length_cons,List.length_nil]at h1_;have c4b3:=eq_false (Nat.not_lt.2 h1_);clear h1_)
    have H':=C H
    clear H
    go_wp2_with (first|((with_reducible refine F (f:=36) rfl ?_);refine gl 36 (some 19) func36 #[V I (Int.tmod x1_1 10)] ?_;(with_reducible refine(spec_l01Figure.calls (Int.tmod x1_1 10) t1 _ A1.out).mono ?_);rintro e w' ⟨rfl,⟨nd,rfl⟩⟩;refine⟨_,rfl,?_⟩)|((with_reducible refine J (N:=20) rfl ?_);refine Kd.R_lit (Kd.int .u8) _ 5 ?hg (N:=20) ?hd (xs:=([t1]:List Int)) (inner:= [.int .u8 t1]) (ok:=fun _=>True) (okp:=fun _=>True) ?hr ?hp (fun _ hk=>hk) trivial (Below.refl _ _) (Nat.le_refl _) (by simp) ?_;(case hd=>rfl);(case hg=>rfl);(case hr=>exact Fix.hr);(case hp=>exact(Reps.one (show Kd.M (Kd.int .u8) _ _ _ t1 [.int .u8 t1] from rfl) (Reps.none _ _)));intro v1 w1 ho1 hb hg_ hnew_;clear hg_ hnew_;(first|rw[←Ny1.out]at ho1|(simp only[Int.reduceToNat]at ho1;rw[←Ny1.out]at ho1));have HO1:=lR ho1;replace HB:=eB hb;clear hb ho1;have hcv1:=own_string (P:=prog) underlying28 underlying5 underlying9 (Kd.own_of_R HO1.out)))
    go_roundg k1
    case measure=>have:=HK1.out;omega
    case rel=>exact⟨(wrap64 (Int.tdiv x1_1 10)),((strOfNums y1)++x2_1),rS,rS,H',⟨by have:=HK1.out;omega⟩,⟨uB⟩⟩
   rw[if_pos c3]at H
   replace c3:=decide_eq_true c3
   obtain⟨t1,A1,H⟩:=bnd H
   obtain⟨y1,hy1⟩:∃y_:List Int,y_=(([t1]:List Int)):=⟨_,rfl⟩
   replace H:(if(strOfNums y1).size+x2_1.size≤9223372036854775807 then(spec_FormatInt.l0 k1 (wrap64 (Int.tdiv x1_1 10)) (decide (a0<0)) ((strOfNums y1)++x2_1)) else(none))=some r:=gy hy1 H
   have Ny1:=C hy1
   clear hy1
   obtain⟨c4,H⟩:=np H
   have c4b0:=eq_true c4
   have c4b1:decide ((strOfNums y1).size+x2_1.size≤9223372036854775807)=true:=decide_eq_true c4
   try have c4b2:(9223372036854775807<(strOfNums y1).size+x2_1.size)=False:=eq_false (Nat.not_lt.2 c4)
   try(have h1_:=c4;simp only[ByteArray.size_append,Ito.bsz,List.size_toArray,List.length_cons,List.length_nil]at h1_;have c4b3:=eq_false (Nat.not_lt.2 h1_);clear h1_)
   have H':=C H
   clear H
   go_wp2_with (first|((with_reducible refine F (f:=36) rfl ?_);refine gl 36 (some 19) func36 #[V I (wrap64 (-(Int.tmod x1_1 10)))] ?_;(with_reducible refine(spec_l01Figure.calls (wrap64 (-(Int.tmod x1_1 10))) t1 _ A1.out).mono ?_);rintro e w' ⟨rfl,⟨nd,rfl⟩⟩;refine⟨_,rfl,?_⟩)|((with_reducible refine J (N:=20) rfl ?_);refine Kd.R_lit (Kd.int .u8) _ 5 ?hg (N:=20) ?hd (xs:=([t1]:List Int)) (inner:= [.int .u8 t1]) (ok:=fun _=>True) (okp:=fun _=>True) ?hr ?hp (fun _ hk=>hk) trivial (Below.refl _ _) (Nat.le_refl _) (by simp) ?_;(case hd=>rfl);(case hg=>rfl);(case hr=>exact Fix.hr);(case hp=>exact(Reps.one (show Kd.M (Kd.int .u8) _ _ _ t1 [.int .u8 t1] from rfl) (Reps.none _ _)));intro v1 w1 ho1 hb hg_ hnew_;clear hg_ hnew_;(first|rw[←Ny1.out]at ho1|(simp only[Int.reduceToNat]at ho1;rw[←Ny1.out]at ho1));have HO1:=lR ho1;replace HB:=eB hb;clear hb ho1;have hcv1:=own_string (P:=prog) underlying28 underlying5 underlying9 (Kd.own_of_R HO1.out)))
   go_roundg k1
   case measure=>have:=HK1.out;omega
   case rel=>exact⟨(wrap64 (Int.tdiv x1_1 10)),((strOfNums y1)++x2_1),rS,rS,H',⟨by have:=HK1.out;omega⟩,⟨uB⟩⟩
def spec_ParseUint.l0:Nat→ByteArray→Int→Int→Option (Int×Bool)
  |0,_,_,_=>none
  |k+1,x0,x4,x5=>if x5<(x0.size:Int) then(if 0≤x5 then(if(bt x0 x5)<48 then(some (0,false)) else(if(bt x0 x5) >57 then(some (0,false)) else(spec_ParseUint.l0 k x0 (wrap64 ((wrap64 ((wrap64 (10 * x4))+(wrap64 (bt x0 x5)))) - 48)) (wrap64 (x5+1))))) else(none)) else(if x4 >1000000000 then(some (0,false)) else((spec_FormatInt.f k x4).bind fun t121=>(if t121.toList=x0.toList then(some (x4,true)) else(some (0,false)))))
def spec_ParseUint.f (k:Nat) (a0:ByteArray):Option (Int×Bool):=if(a0.size:Int) >10 then(some (0,false)) else(spec_ParseUint.l0 k a0 0 0)
theorem spec_ParseUint.W1 {p:Prop} (h:p:=by
 go_wp2
 go_ret2
 exact⟨rE,uB⟩):p:=h
theorem spec_ParseUint.W2 {p:Prop} (h:p:=by
 go_wp2_with (first|(go_at_call 23;(with_reducible refine(spec_FormatInt.calls k1 x1_1 t1 _ A1.out).mono ?_);rintro e w1 ⟨rfl,hb⟩;replace HB:=eB hb;clear hb))
 go_ret2
 exact⟨rE,uB⟩):p:=h
theorem spec_ParseUint.calls (k:Nat) (a0:ByteArray) (r1:Int) (r2:Bool) (w:World) (h:spec_ParseUint.f k a0=some (r1,r2)):
 Calls prog 13 #[.string a0] w fun e w'=>e=.returned (.tuple #[V I r1,O r2])∧Below w.heap.size w w':=by
 have HB:=C (Below.refl w.heap.size w)
 have H:=h
 unfold spec_ParseUint.f at H
 clear h
 by_cases c1:(a0.size:Int) >10
 ·rw[if_pos c1]at H
  have c1b0:decide (10<(a0.size:Int))=true:=decide_eq_true c1
  have c1b1:decide (10<a0.size)=true:=decide_eq_true (by omega)
  clear c1
  simp only[Option.some.injEq,Prod.mk.injEq]at H
  obtain⟨rfl,rfl⟩:=H
  go_enter func13,ntmps13
  go_wp2
  go_ret2
  exact⟨rE,uB⟩
 rw[if_neg c1]at H
 have c1b0:decide (10<(a0.size:Int))=false:=decide_eq_false c1
 have c1b1:decide (10<a0.size)=false:=decide_eq_false (by omega)
 clear c1
 have H':=C H
 clear H
 go_enter func13,ntmps13
 go_wp2
 go_loopg [4,5] k (fun kq v4 v5 w'=>∃(x1_1:Int) (x2_1:Int),v4=V I x1_1∧v5=V I x2_1∧D (spec_ParseUint.l0 kq a0 x1_1 x2_1=some (r1,r2))∧D (kq≤k)∧D (Below w.heap.size w w'))
 case atStart=>exact⟨(0),(0),rS,rS,H',⟨Nat.le_refl _⟩,⟨uB⟩⟩
 case round=>
  clear H'
  obtain⟨x1_1,x2_1,rfl,rfl,HA,HK1,HB⟩:=hrel
  cases gk with
  |zero=>exact absurd HA.out (by simp[spec_ParseUint.l0])
  |succ k1=>
   have H:=HA.out
   clear HA
   simp only[spec_ParseUint.l0]at H
   by_cases c2:x2_1<(a0.size:Int)
   rotate_left
   ·rw[if_neg c2]at H
    replace c2:=decide_eq_false c2
    by_cases c3:x1_1 >1000000000
    ·rw[if_pos c3]at H
     replace c3:=decide_eq_true c3
     simp only[Option.some.injEq,Prod.mk.injEq]at H
     obtain⟨rfl,rfl⟩:=H
     exact spec_ParseUint.W1
    rw[if_neg c3]at H
    replace c3:=decide_eq_false c3
    obtain⟨t1,A1,H⟩:=bnd H
    by_cases c4:t1.toList=a0.toList
    rotate_left
    ·rw[if_neg c4]at H
     have c4b0:(t1.toList==a0.toList)=false:=beq_eq_false_iff_ne.mpr c4
     have c4b1:(t1.toList !=a0.toList)=true:=bne_iff_ne.mpr c4
     simp only[Option.some.injEq,Prod.mk.injEq]at H
     obtain⟨rfl,rfl⟩:=H
     exact spec_ParseUint.W2
    rw[if_pos c4]at H
    have c4b0:(t1.toList==a0.toList)=true:=beq_iff_eq.mpr c4
    have c4b1:(t1.toList !=a0.toList)=false:=bne_eq_false_iff_eq.mpr c4
    clear c4
    simp only[Option.some.injEq,Prod.mk.injEq]at H
    obtain⟨rfl,rfl⟩:=H
    exact spec_ParseUint.W2
   rw[if_pos c2]at H
   replace c2:=decide_eq_true c2
   obtain⟨c3,H⟩:=np H
   replace c3:=decide_eq_true c3
   by_cases c4:(bt a0 x2_1)<48
   ·rw[if_pos c4]at H
    replace c4:=decide_eq_true c4
    simp only[Option.some.injEq,Prod.mk.injEq]at H
    obtain⟨rfl,rfl⟩:=H
    have p1:0≤(x2_1:Int):=oT
    have q1:x2_1<(a0.size:Int):=oT
    have hx1:=bt_at a0 x2_1
    replace p1:=eq_true p1
    replace q1:=eq_true q1
    exact spec_ParseUint.W1
   rw[if_neg c4]at H
   replace c4:=decide_eq_false c4
   by_cases c5:(bt a0 x2_1) >57
   ·rw[if_pos c5]at H
    replace c5:=decide_eq_true c5
    simp only[Option.some.injEq,Prod.mk.injEq]at H
    obtain⟨rfl,rfl⟩:=H
    have p1:0≤(x2_1:Int):=oT
    have q1:x2_1<(a0.size:Int):=oT
    have hx1:=bt_at a0 x2_1
    replace p1:=eq_true p1
    replace q1:=eq_true q1
    have p2:0≤(x2_1:Int):=oT
    have q2:x2_1<(a0.size:Int):=oT
    have hx2:=bt_at a0 x2_1
    replace p2:=eq_true p2
    replace q2:=eq_true q2
    exact spec_ParseUint.W1
   rw[if_neg c5]at H
   replace c5:=decide_eq_false c5
   have H':=C H
   clear H
   have p1:0≤(x2_1:Int):=oT
   have q1:x2_1<(a0.size:Int):=oT
   have hx1:=bt_at a0 x2_1
   replace p1:=eq_true p1
   replace q1:=eq_true q1
   have p2:0≤(x2_1:Int):=oT
   have q2:x2_1<(a0.size:Int):=oT
   have hx2:=bt_at a0 x2_1
   replace p2:=eq_true p2
   replace q2:=eq_true q2
   have p3:0≤(x2_1:Int):=oT
   have q3:x2_1<(a0.size:Int):=oT
   have hx3:=bt_at a0 x2_1
   replace p3:=eq_true p3
   replace q3:=eq_true q3
   go_wp2
   go_roundg k1
   case measure=>have:=HK1.out;omega
   case rel=>exact⟨(wrap64 ((wrap64 ((wrap64 (10 * x1_1))+(wrap64 (bt a0 x2_1)))) - 48)),(wrap64 (x2_1+1)),rS,rS,H',⟨by have:=HK1.out;omega⟩,⟨uB⟩⟩
def spec_JobOk.f (a0_0:Int) (a0_1:Int) (a0_2:Int) (a0_3:Bool) (a0_4:Int) (a0_5:Bool):Option (Bool):=(spec_l01In.f a0_0 1 9999).bind fun t123=>(if t123=true then((spec_l01In.f a0_1 1 64).bind fun t124=>(if t124=true then((spec_l01In.f a0_2 1 20).bind fun t125=>(if t125=true then((spec_l01In.f a0_4 0 9).bind fun t126=>(some t126)) else(some false))) else(some false))) else(some false))
theorem spec_JobOk.W1 {p:Prop} (h:p:=by
 go_enter func37,ntmps37
 go_wp2_with (first|((with_reducible refine J (N:=1) rfl ?_);refine Fix.be 1 #[V I a0_0,V I a0_1,V I a0_2,O a0_3,V I a0_4,O a0_5] 32 ?_;intro gb1 hg w1 BK1 hb;have GW1:=gE (w:=w) hg;replace HB:=eB hb;clear hb hg;obtain⟨_,_,_,_,_,_,_,_,_,_,_,_⟩:=d6 BK1.out)|((with_reducible refine F (f:=12) rfl ?_);refine gl 12 (some 5) func12 #[V I a0_0,V I 1,V I 9999] ?_;(with_reducible refine(spec_l01In.calls a0_0 1 9999 true _ A1.out).mono ?_);rintro e w' ⟨rfl,⟨nd,rfl⟩⟩;refine⟨_,rfl,?_⟩)|(go_at_call 12;(with_reducible refine(spec_l01In.calls a0_1 1 64 true _ A2.out).mono ?_);rintro e w' ⟨rfl,⟨nd,rfl⟩⟩)|(go_at_call 12;(with_reducible refine(spec_l01In.calls a0_2 1 20 true _ A3.out).mono ?_);rintro e w' ⟨rfl,⟨nd,rfl⟩⟩)|(go_at_call 12;(with_reducible refine(spec_l01In.calls a0_4 0 9 t4 _ A4.out).mono ?_);rintro e w' ⟨rfl,⟨nd,rfl⟩⟩)|(go_at_call 12;(with_reducible refine(spec_l01In.calls a0_2 1 20 false _ A3.out).mono ?_);rintro e w' ⟨rfl,⟨nd,rfl⟩⟩))
 go_ret
 exact⟨rE,uB⟩):p:=h
theorem spec_JobOk.calls (a0_0:Int) (a0_1:Int) (a0_2:Int) (a0_3:Bool) (a0_4:Int) (a0_5:Bool) (r:Bool) (w:World) (h:spec_JobOk.f a0_0 a0_1 a0_2 a0_3 a0_4 a0_5=some r):
 Calls prog 37 #[.agg #[V I a0_0,V I a0_1,V I a0_2,O a0_3,V I a0_4,O a0_5]] w fun e w'=>e=.returned (O r)∧Below w.heap.size w w':=by
 have hu1:=underlying32
 have HB:=C (Below.refl w.heap.size w)
 have H:=h
 unfold spec_JobOk.f at H
 clear h
 obtain⟨t1,A1,H⟩:=bnd H
 by_cases c1:t1=true
 rotate_left
 ·obtain rfl:=nt c1
  replace H:=nf H
  obtain rfl:=si H
  go_enter func37,ntmps37
  go_wp2_with (first|((with_reducible refine J (N:=1) rfl ?_);refine Fix.be 1 #[V I a0_0,V I a0_1,V I a0_2,O a0_3,V I a0_4,O a0_5] 32 ?_;intro gb1 hg w1 BK1 hb;have GW1:=gE (w:=w) hg;have GE1:=GW1;replace HB:=eB hb;clear hb hg;obtain⟨_,_,_,_,_,_,_,_,_,_,_,_⟩:=d6 BK1.out)|((with_reducible refine F (f:=12) rfl ?_);refine gl 12 (some 5) func12 #[V I a0_0,V I 1,V I 9999] ?_;(with_reducible refine(spec_l01In.calls a0_0 1 9999 false _ A1.out).mono ?_);rintro e w' ⟨rfl,⟨nd,rfl⟩⟩;refine⟨_,rfl,?_⟩))
  go_ret
  exact⟨rE,uB⟩
 subst c1
 rw[if_pos rfl]at H
 obtain⟨t2,A2,H⟩:=bnd H
 by_cases c2:t2=true
 ·subst c2
  rw[if_pos rfl]at H
  obtain⟨t3,A3,H⟩:=bnd H
  by_cases c3:t3=true
  rotate_left
  ·obtain rfl:=nt c3
   replace H:=nf H
   obtain rfl:=si H
   exact spec_JobOk.W1
  subst c3
  rw[if_pos rfl]at H
  obtain⟨t4,A4,H⟩:=bnd H
  obtain rfl:=si H
  exact spec_JobOk.W1
 obtain rfl:=nt c2
 replace H:=nf H
 obtain rfl:=si H
 go_enter func37,ntmps37
 go_wp2_with (first|((with_reducible refine J (N:=1) rfl ?_);refine Fix.be 1 #[V I a0_0,V I a0_1,V I a0_2,O a0_3,V I a0_4,O a0_5] 32 ?_;intro gb1 hg w1 BK1 hb;have GW1:=gE (w:=w) hg;have GE1:=GW1;replace HB:=eB hb;clear hb hg;obtain⟨_,_,_,_,_,_,_,_,_,_,_,_⟩:=d6 BK1.out)|((with_reducible refine F (f:=12) rfl ?_);refine gl 12 (some 5) func12 #[V I a0_0,V I 1,V I 9999] ?_;(with_reducible refine(spec_l01In.calls a0_0 1 9999 true _ A1.out).mono ?_);rintro e w' ⟨rfl,⟨nd,rfl⟩⟩;refine⟨_,rfl,?_⟩)|(go_at_call 12;(with_reducible refine(spec_l01In.calls a0_1 1 64 false _ A2.out).mono ?_);rintro e w' ⟨rfl,⟨nd,rfl⟩⟩))
 go_ret
 exact⟨rE,uB⟩
def spec_l39Job.f (a0_0:Int) (a0_1:Int) (a0_2:Int) (a0_3:Int):Option (Int×Int×Int×Bool×Int×Bool):=some (a0_1,a0_2,1,false,a0_3,(a0_3==9))
theorem spec_l39Job.calls (a0_0:Int) (a0_1:Int) (a0_2:Int) (a0_3:Int) (r1:Int) (r2:Int) (r3:Int) (r4:Bool) (r5:Int) (r6:Bool) (w:World) (h:spec_l39Job.f a0_0 a0_1 a0_2 a0_3=some (r1,r2,r3,r4,r5,r6)):
 Calls prog 38 #[.agg #[V I a0_0,V I a0_1,V I a0_2,V I a0_3]] w fun e w'=>e=.returned (.agg #[V I r1,V I r2,V I r3,O r4,V I r5,O r6])∧Below w.heap.size w w':=by
 have hu1:=underlying23
 have hu2:=underlying32
 have HB:=C (Below.refl w.heap.size w)
 have H:=h
 unfold spec_l39Job.f at H
 clear h
 simp only[Option.some.injEq,Prod.mk.injEq]at H
 obtain⟨rfl,rfl,rfl,rfl,rfl,rfl⟩:=H
 go_enter func38,ntmps38
 go_wp2_with (first|((with_reducible refine J (N:=1) rfl ?_);refine Fix.be 1 #[V I a0_0,V I a0_1,V I a0_2,V I a0_3] 23 ?_;intro gb1 hg w1 BK1 hb;have GW1:=gE (w:=w) hg;replace HB:=eB hb;clear hb hg)|((with_reducible refine J (N:=2) rfl ?_);refine Fix.be 2 #[V I 0,V I 0,V I 0,O false,V I 0,O false] 32 ?_;intro gb2 hg w2 BK2 hb;have GW2:=gE (w:=w) hg;have n0:=nL hg BK1;have n1:=nG hg BK1;replace BK1:=eK BK1 hb;replace HB:=eB hb;clear hb hg;have:=n0.out;have:=n1.out;obtain⟨_,_,_,_,_,_,_,_⟩:=d4 BK1.out;obtain⟨_,_,_,_,_,_,_,_,_,_,_,_⟩:=d6 BK2.out))
 refine bodyPost_ret (results_cell_row rfl _ _ gb2 32 #[V I a0_1,V I a0_2,V I 1,O false,V I a0_3,O (a0_3==9)] (0,0) _ rfl (bK BK2.out) underlying32 rfl (by kernel_rfl)) rfl ?_
 exact⟨rE,uB⟩
def spec_ActOk.j0:Nat→Int→Bool→Int→Int→Int→Int→Option (Bool)
  |0,_,_,_,_,_,_=>none
  |k+1,x4,x25,x130000,x130001,x130002,x130003=>if x25=true then(if x130001=0 then(if x130002=0 then(some (x130003==0)) else(some false)) else(some false)) else(if x4=5 then((spec_l01In.f x130001 1 9999).bind fun t138=>(if t138=true then(if x130002=0 then(some (x130003==0)) else(some false)) else(some false))) else(some false))
def spec_ActOk.f (k:Nat) (a0_0:Int) (a0_1:Int) (a0_2:Int) (a0_3:Int):Option (Bool):=if a0_0=1 then((spec_l39Job.f a0_0 a0_1 a0_2 a0_3).bind fun bt130=>((spec_JobOk.f bt130.1 bt130.2.1 bt130.2.2.1 bt130.2.2.2.1 bt130.2.2.2.2.1 bt130.2.2.2.2.2).bind fun t136=>(some t136))) else(if a0_0=3 then((spec_l01In.f a0_1 1 5).bind fun t137=>(if t137=true then(if a0_2=0 then(some (a0_3==0)) else(some false)) else(some false))) else(if a0_0=2 then(spec_ActOk.j0 k a0_0 (a0_0==2) a0_0 a0_1 a0_2 a0_3) else(spec_ActOk.j0 k a0_0 (a0_0==4) a0_0 a0_1 a0_2 a0_3)))
theorem spec_ActOk.W1 {p:Prop} (h:p:=by
 go_enter func24,ntmps24
 go_wp2_with (first|((with_reducible refine J (N:=1) rfl ?_);refine Fix.be 1 #[V I a0_0,V I a0_1,V I a0_2,V I a0_3] 23 ?_;intro gb1 hg w1 BK1 hb;have GW1:=gE (w:=w) hg;replace HB:=eB hb;clear hb hg;obtain⟨_,_,_,_,_,_,_,_⟩:=d4 BK1.out)|((with_reducible refine F (f:=38) rfl ?_);refine gl 38 (some 8) func38 #[.agg #[V I a0_0,V I a0_1,V I a0_2,V I a0_3]] ?_;(with_reducible refine(spec_l39Job.calls a0_0 a0_1 a0_2 a0_3 t1 t2 t3 t4 t5 t6 _ A1.out).mono ?_);rintro e w2 ⟨rfl,hb⟩;refine⟨_,rfl,?_⟩;replace BK1:=eK BK1 hb;replace HB:=eB hb;clear hb)|((with_reducible refine F (f:=37) rfl ?_);refine gl 37 (some 9) func37 #[.agg #[V I t1,V I t2,V I t3,O t4,V I t5,O t6]] ?_;(with_reducible refine(spec_JobOk.calls t1 t2 t3 t4 t5 t6 t7 _ A2.out).mono ?_);rintro e w3 ⟨rfl,hb⟩;refine⟨_,rfl,?_⟩;replace BK1:=eK BK1 hb;replace HB:=eB hb;clear hb)|((with_reducible refine F (f:=12) rfl ?_);refine gl 12 (some 14) func12 #[V I a0_1,V I 1,V I 5] ?_;(with_reducible refine(spec_l01In.calls a0_1 1 5 true _ A1.out).mono ?_);rintro e w' ⟨rfl,⟨nd,rfl⟩⟩;refine⟨_,rfl,?_⟩))
 go_ret
 exact⟨rE,uB⟩):p:=h
theorem spec_ActOk.W2 {p:Prop} (h:p:=by
 go_wp2
 go_meet
 first
  |(case rel=>exact⟨_,((a0_0==2)),rS,H',⟨oL⟩,⟨bK BK1.out⟩,⟨uB⟩⟩)
  |(case rel=>exact⟨_,((a0_0==4)),rS,H',⟨oL⟩,⟨bK BK1.out⟩,⟨uB⟩⟩)):p:=h
theorem spec_ActOk.W3 {p:Prop} (h:p:=by
 go_wp2
 go_ret
 exact⟨rE,uB⟩):p:=h
theorem spec_ActOk.W4 {p:Prop} (h:p:=by
 go_wp2_with (first|((with_reducible refine F (f:=12) rfl ?_);refine gl 12 (some 45) func12 #[V I a0_1,V I 1,V I 9999] ?_;(with_reducible refine(spec_l01In.calls a0_1 1 9999 true _ A1.out).mono ?_);rintro e w' ⟨rfl,⟨nd,rfl⟩⟩;refine⟨_,rfl,?_⟩))
 go_ret
 exact⟨rE,uB⟩):p:=h
theorem spec_ActOk.calls (k:Nat) (a0_0:Int) (a0_1:Int) (a0_2:Int) (a0_3:Int) (r:Bool) (w:World) (h:spec_ActOk.f k a0_0 a0_1 a0_2 a0_3=some r):
 Calls prog 24 #[.agg #[V I a0_0,V I a0_1,V I a0_2,V I a0_3]] w fun e w'=>e=.returned (O r)∧Below w.heap.size w w':=by
 have hu1:=underlying23
 have HB:=C (Below.refl w.heap.size w)
 have H:=h
 unfold spec_ActOk.f at H
 clear h
 by_cases c1:a0_0=1
 ·rw[if_pos c1]at H
  have c1b0:(a0_0==1)=true:=beq_iff_eq.mpr c1
  have c1b1:(a0_0 !=1)=false:=bne_eq_false_iff_eq.mpr c1
  clear c1
  obtain⟨⟨t1,t2,t3,t4,t5,t6⟩,A1,H⟩:=bnd H
  dsimp only at H
  obtain⟨t7,A2,H⟩:=bnd H
  obtain rfl:=si H
  exact spec_ActOk.W1
 rw[if_neg c1]at H
 have c1b0:(a0_0==1)=false:=beq_eq_false_iff_ne.mpr c1
 have c1b1:(a0_0 !=1)=true:=bne_iff_ne.mpr c1
 by_cases c2:a0_0=3
 ·rw[if_pos c2]at H
  have c2b0:(a0_0==3)=true:=beq_iff_eq.mpr c2
  have c2b1:(a0_0 !=3)=false:=bne_eq_false_iff_eq.mpr c2
  clear c2
  obtain⟨t1,A1,H⟩:=bnd H
  by_cases c3:t1=true
  ·subst c3
   rw[if_pos rfl]at H
   by_cases c4:a0_2=0
   rotate_left
   ·rw[if_neg c4]at H
    have c4b0:(a0_2==0)=false:=beq_eq_false_iff_ne.mpr c4
    have c4b1:(a0_2 !=0)=true:=bne_iff_ne.mpr c4
    obtain rfl:=si H
    exact spec_ActOk.W1
   rw[if_pos c4]at H
   have c4b0:(a0_2==0)=true:=beq_iff_eq.mpr c4
   have c4b1:(a0_2 !=0)=false:=bne_eq_false_iff_eq.mpr c4
   clear c4
   obtain rfl:=si H
   exact spec_ActOk.W1
  obtain rfl:=nt c3
  replace H:=nf H
  obtain rfl:=si H
  go_enter func24,ntmps24
  go_wp2_with (first|((with_reducible refine J (N:=1) rfl ?_);refine Fix.be 1 #[V I a0_0,V I a0_1,V I a0_2,V I a0_3] 23 ?_;intro gb1 hg w1 BK1 hb;have GW1:=gE (w:=w) hg;have GE1:=GW1;replace HB:=eB hb;clear hb hg;obtain⟨_,_,_,_,_,_,_,_⟩:=d4 BK1.out)|((with_reducible refine F (f:=12) rfl ?_);refine gl 12 (some 14) func12 #[V I a0_1,V I 1,V I 5] ?_;(with_reducible refine(spec_l01In.calls a0_1 1 5 false _ A1.out).mono ?_);rintro e w' ⟨rfl,⟨nd,rfl⟩⟩;refine⟨_,rfl,?_⟩))
  go_ret
  exact⟨rE,uB⟩
 rw[if_neg c2]at H
 have c2b0:(a0_0==3)=false:=beq_eq_false_iff_ne.mpr c2
 have c2b1:(a0_0 !=3)=true:=bne_iff_ne.mpr c2
 have HC1:=C H
 clear H
 go_enter func24,ntmps24
 go_upto_if 25 with(first|((with_reducible refine J (N:=1) rfl ?_);refine Fix.be 1 #[V I a0_0,V I a0_1,V I a0_2,V I a0_3] 23 ?_;intro gb1 hg w1 BK1 hb;have GW1:=gE (w:=w) hg;have GE1:=GW1;replace HB:=eB hb;clear hb hg;obtain⟨_,_,_,_,_,_,_,_⟩:=d4 BK1.out))
 (try simp only[Act.put,List.setIfInBounds_toArray,List.set_cons_zero,List.set_cons_succ])
 go_cut [25] (fun v25 wc=>∃(kq:Nat) (x1_18:Bool),v25=O x1_18∧D (spec_ActOk.j0 kq a0_0 x1_18 a0_0 a0_1 a0_2 a0_3=some r)∧D (kq≤k)∧D (wc.heap[gb1]? =some (.cells #[V I a0_0,V I a0_1,V I a0_2,V I a0_3] 23 (0,0)))∧D (Below w.heap.size w wc))
 case first=>
  have H:=HC1.out
  clear HC1
  by_cases c3:a0_0=2
  rotate_left
  ·rw[if_neg c3]at H
   have c3b0:(a0_0==2)=false:=beq_eq_false_iff_ne.mpr c3
   have c3b1:(a0_0 !=2)=true:=bne_iff_ne.mpr c3
   (first|rw[c3b0]|(simp only[i64_w,i32_w];rw[c3b0])|skip)
   have H':=C H
   clear H
   exact spec_ActOk.W2
  rw[if_pos c3]at H
  have c3b0:(a0_0==2)=true:=beq_iff_eq.mpr c3
  have c3b1:(a0_0 !=2)=false:=bne_eq_false_iff_eq.mpr c3
  clear c3
  (first|rw[c3b0]|(simp only[i64_w,i32_w];rw[c3b0])|skip)
  have H':=C H
  clear H
  exact spec_ActOk.W2
 case rest=>
  clear HC1
  obtain⟨kq,x1_18,rfl,HA,HJ1,BK1,HB⟩:=hcut
  cases kq with
  |zero=>exact absurd HA.out (by simp[spec_ActOk.j0])
  |succ kj18=>
   have H:=HA.out
   clear HA
   simp only[spec_ActOk.j0]at H
   by_cases c3:x1_18=true
   ·subst c3
    rw[if_pos rfl]at H
    by_cases c4:a0_1=0
    rotate_left
    ·rw[if_neg c4]at H
     have c4b0:(a0_1==0)=false:=beq_eq_false_iff_ne.mpr c4
     have c4b1:(a0_1 !=0)=true:=bne_iff_ne.mpr c4
     obtain rfl:=si H
     obtain⟨_,_,_,_,_,_,_,_⟩:=d4 BK1.out
     exact spec_ActOk.W3
    rw[if_pos c4]at H
    have c4b0:(a0_1==0)=true:=beq_iff_eq.mpr c4
    have c4b1:(a0_1 !=0)=false:=bne_eq_false_iff_eq.mpr c4
    clear c4
    by_cases c5:a0_2=0
    rotate_left
    ·rw[if_neg c5]at H
     have c5b0:(a0_2==0)=false:=beq_eq_false_iff_ne.mpr c5
     have c5b1:(a0_2 !=0)=true:=bne_iff_ne.mpr c5
     obtain rfl:=si H
     obtain⟨_,_,_,_,_,_,_,_⟩:=d4 BK1.out
     exact spec_ActOk.W3
    rw[if_pos c5]at H
    have c5b0:(a0_2==0)=true:=beq_iff_eq.mpr c5
    have c5b1:(a0_2 !=0)=false:=bne_eq_false_iff_eq.mpr c5
    clear c5
    obtain rfl:=si H
    obtain⟨_,_,_,_,_,_,_,_⟩:=d4 BK1.out
    exact spec_ActOk.W3
   obtain rfl:=nt c3
   replace H:=nf H
   by_cases c4:a0_0=5
   rotate_left
   ·rw[if_neg c4]at H
    have c4b0:(a0_0==5)=false:=beq_eq_false_iff_ne.mpr c4
    have c4b1:(a0_0 !=5)=true:=bne_iff_ne.mpr c4
    obtain rfl:=si H
    exact spec_ActOk.W3
   rw[if_pos c4]at H
   have c4b0:(a0_0==5)=true:=beq_iff_eq.mpr c4
   have c4b1:(a0_0 !=5)=false:=bne_eq_false_iff_eq.mpr c4
   clear c4
   obtain⟨t1,A1,H⟩:=bnd H
   by_cases c5:t1=true
   rotate_left
   ·obtain rfl:=nt c5
    replace H:=nf H
    obtain rfl:=si H
    obtain⟨_,_,_,_,_,_,_,_⟩:=d4 BK1.out
    go_wp2_with (first|((with_reducible refine F (f:=12) rfl ?_);refine gl 12 (some 45) func12 #[V I a0_1,V I 1,V I 9999] ?_;(with_reducible refine(spec_l01In.calls a0_1 1 9999 false _ A1.out).mono ?_);rintro e w' ⟨rfl,⟨nd,rfl⟩⟩;refine⟨_,rfl,?_⟩))
    go_ret
    exact⟨rE,uB⟩
   subst c5
   rw[if_pos rfl]at H
   by_cases c6:a0_2=0
   rotate_left
   ·rw[if_neg c6]at H
    have c6b0:(a0_2==0)=false:=beq_eq_false_iff_ne.mpr c6
    have c6b1:(a0_2 !=0)=true:=bne_iff_ne.mpr c6
    obtain rfl:=si H
    obtain⟨_,_,_,_,_,_,_,_⟩:=d4 BK1.out
    exact spec_ActOk.W4
   rw[if_pos c6]at H
   have c6b0:(a0_2==0)=true:=beq_iff_eq.mpr c6
   have c6b1:(a0_2 !=0)=false:=bne_eq_false_iff_eq.mpr c6
   clear c6
   obtain rfl:=si H
   obtain⟨_,_,_,_,_,_,_,_⟩:=d4 BK1.out
   exact spec_ActOk.W4
def spec_FormatAct.f (k:Nat) (a0_0:Int) (a0_1:Int) (a0_2:Int) (a0_3:Int):Option (ByteArray×Bool):=(spec_ActOk.f k a0_0 a0_1 a0_2 a0_3).bind fun t140=>(if t140=true then((some (([(⟨#[]⟩:ByteArray),(⟨#[97,100,100]⟩:ByteArray),(⟨#[116,97,107,101]⟩:ByteArray),(⟨#[108,105,110,101]⟩:ByteArray),(⟨#[102,105,110,105,115,104]⟩:ByteArray),(⟨#[114,101,108,101,97,115,101]⟩:ByteArray)]:List ByteArray):List ByteArray)).bind fun y141=>(if 0≤a0_0 then(if a0_0<(y141.length:Int) then(if a0_0=1 then(if(rdOf ByteArray.empty y141 a0_0).size+1≤9223372036854775807 then((spec_FormatInt.f k a0_1).bind fun t145=>(if((rdOf ByteArray.empty y141 a0_0)++(⟨#[32]⟩:ByteArray)).size+t145.size≤9223372036854775807 then(if(((rdOf ByteArray.empty y141 a0_0)++(⟨#[32]⟩:ByteArray))++t145).size+1≤9223372036854775807 then((spec_FormatInt.f k a0_2).bind fun t146=>(if((((rdOf ByteArray.empty y141 a0_0)++(⟨#[32]⟩:ByteArray))++t145)++(⟨#[32]⟩:ByteArray)).size+t146.size≤9223372036854775807 then(if(((((rdOf ByteArray.empty y141 a0_0)++(⟨#[32]⟩:ByteArray))++t145)++(⟨#[32]⟩:ByteArray))++t146).size+1≤9223372036854775807 then((spec_FormatInt.f k a0_3).bind fun t147=>(if((((((rdOf ByteArray.empty y141 a0_0)++(⟨#[32]⟩:ByteArray))++t145)++(⟨#[32]⟩:ByteArray))++t146)++(⟨#[32]⟩:ByteArray)).size+t147.size≤9223372036854775807 then(some (((((((rdOf ByteArray.empty y141 a0_0)++(⟨#[32]⟩:ByteArray))++t145)++(⟨#[32]⟩:ByteArray))++t146)++(⟨#[32]⟩:ByteArray))++t147,true)) else(none))) else(none)) else(none))) else(none)) else(none))) else(none)) else(if a0_0=3 then(if(rdOf ByteArray.empty y141 a0_0).size+1≤9223372036854775807 then((spec_FormatInt.f k a0_1).bind fun t148=>(if((rdOf ByteArray.empty y141 a0_0)++(⟨#[32]⟩:ByteArray)).size+t148.size≤9223372036854775807 then(some (((rdOf ByteArray.empty y141 a0_0)++(⟨#[32]⟩:ByteArray))++t148,true)) else(none))) else(none)) else(if a0_0=5 then(if(rdOf ByteArray.empty y141 a0_0).size+1≤9223372036854775807 then((spec_FormatInt.f k a0_1).bind fun t149=>(if((rdOf ByteArray.empty y141 a0_0)++(⟨#[32]⟩:ByteArray)).size+t149.size≤9223372036854775807 then(some (((rdOf ByteArray.empty y141 a0_0)++(⟨#[32]⟩:ByteArray))++t149,true)) else(none))) else(none)) else(some (rdOf ByteArray.empty y141 a0_0,true))))) else(none)) else(none))) else(some ((⟨#[]⟩:ByteArray),false)))
def spec_FormatAct.T5:Bool×List (List Nat×List Nat):=(true,[([],[]),([0],[0]),([],[]),([2],[2]),([3],[3]),([1,4],[1,4]),([5],[5]),([],[]),([7],[7]),([8,4],[8]),([6,9],[6,9]),([10],[10]),([],[]),([12],[12]),([13,9],[13]),([11,14],[11,14]),([15,14,0,1,2,3,4,5,6,7,8,9,10,11,12,13,14,15],[15]),([16,0,1,2,3,4,5,6,7,8,9,10,11,12,13,14,15,16],[])])
def spec_FormatAct.B5:List Nat:= [0,1,0,4,12,31,63,0,128,412,1023,2047,0,4096,13212,32767,65535,131071]
theorem spec_FormatAct.tab5:rtab .any (opsOf Tryd.f14 5)=spec_FormatAct.T5:=by kernel_rfl
theorem spec_FormatAct.bits5:waitsOk spec_FormatAct.T5.2 spec_FormatAct.B5=true:=by kernel_rfl
theorem spec_FormatAct.W1 {p:Prop} (h:p:=by
 go_enter func14,ntmps14
 go_wp2_with (first|((with_reducible refine J (N:=1) rfl ?_);refine Fix.be 1 #[V I a0_0,V I a0_1,V I a0_2,V I a0_3] 23 ?_;intro gb1 hg w1 BK1 hb;have GW1:=gE (w:=w) hg;replace HB:=eB hb;clear hb hg;obtain⟨_,_,_,_,_,_,_,_⟩:=d4 BK1.out)|((with_reducible refine F (f:=24) rfl ?_);refine gl 24 (some 6) func24 #[.agg #[V I a0_0,V I a0_1,V I a0_2,V I a0_3]] ?_;(with_reducible refine(spec_ActOk.calls k a0_0 a0_1 a0_2 a0_3 true _ A1.out).mono ?_);rintro e w2 ⟨rfl,hb⟩;refine⟨_,rfl,?_⟩;replace BK1:=eK BK1 hb;replace HB:=eB hb;clear hb)|((with_reducible refine J (N:=8) rfl ?_);refine Kd.R_lit Kd.string _ 9 ?hg (N:=8) ?hd (xs:=([(⟨#[]⟩:ByteArray),(⟨#[97,100,100]⟩:ByteArray),(⟨#[116,97,107,101]⟩:ByteArray),(⟨#[108,105,110,101]⟩:ByteArray),(⟨#[102,105,110,105,115,104]⟩:ByteArray),(⟨#[114,101,108,101,97,115,101]⟩:ByteArray)]:List ByteArray)) (inner:= [.string (⟨#[]⟩:ByteArray),.string (⟨#[97,100,100]⟩:ByteArray),.string (⟨#[116,97,107,101]⟩:ByteArray),.string (⟨#[108,105,110,101]⟩:ByteArray),.string (⟨#[102,105,110,105,115,104]⟩:ByteArray),.string (⟨#[114,101,108,101,97,115,101]⟩:ByteArray)]) (ok:=fun _=>True) (okp:=fun _=>True) ?hr ?hp (fun _ hk=>hk) trivial (Below.refl _ _) (Nat.le_refl _) (by simp) ?_;(case hd=>rfl);(case hg=>rfl);(case hr=>exact Fix.hr);(case hp=>exact(Reps.one (show Kd.M Kd.string _ _ _ (⟨#[]⟩:ByteArray) [.string (⟨#[]⟩:ByteArray)] from rfl) (Reps.one (show Kd.M Kd.string _ _ _ (⟨#[97,100,100]⟩:ByteArray) [.string (⟨#[97,100,100]⟩:ByteArray)] from rfl) (Reps.one (show Kd.M Kd.string _ _ _ (⟨#[116,97,107,101]⟩:ByteArray) [.string (⟨#[116,97,107,101]⟩:ByteArray)] from rfl) (Reps.one (show Kd.M Kd.string _ _ _ (⟨#[108,105,110,101]⟩:ByteArray) [.string (⟨#[108,105,110,101]⟩:ByteArray)] from rfl) (Reps.one (show Kd.M Kd.string _ _ _ (⟨#[102,105,110,105,115,104]⟩:ByteArray) [.string (⟨#[102,105,110,105,115,104]⟩:ByteArray)] from rfl) (Reps.one (show Kd.M Kd.string _ _ _ (⟨#[114,101,108,101,97,115,101]⟩:ByteArray) [.string (⟨#[114,101,108,101,97,115,101]⟩:ByteArray)] from rfl) (Reps.none _ _))))))));intro v1 w3 ho1 hb hg_ hnew_;clear hg_ hnew_;(first|rw[←Ny1.out]at ho1|(simp only[Int.reduceToNat]at ho1;rw[←Ny1.out]at ho1));have HO1:=lR ho1;replace BK1:=eK BK1 hb;replace HB:=eB hb;clear hb ho1;obtain⟨_,_,_,_,_,_,_,_⟩:=d4 BK1.out;obtain⟨Ao1,co1,rfl⟩:=Kd.R_slice HO1.out;have p1:0≤(a0_0:Int):=oT;have q1:a0_0<(y1.length:Int):=oT;obtain⟨ad1,e1,hx1_0⟩:=Kd.at_string (Kd.R_reads' HO1.out).2.2 a0_0 p1 q1;cases e1;replace p1:=eq_true p1;replace q1:=eq_true q1)|((with_reducible refine F (f:=23) rfl ?_);refine gl 23 (some 44) func23 #[V I a0_1] ?_;(with_reducible refine(spec_FormatInt.calls k a0_1 t5 _ A2.out).mono ?_);rintro e w4 ⟨rfl,hb⟩;refine⟨_,rfl,?_⟩;replace HO1:=eR HO1 hb;replace BK1:=eK BK1 hb;replace HB:=eB hb;clear hb))
 go_ret2
 exact⟨rE,uB⟩):p:=h
theorem spec_FormatAct.calls (k:Nat) (a0_0:Int) (a0_1:Int) (a0_2:Int) (a0_3:Int) (r1:ByteArray) (r2:Bool) (w:World) (h:spec_FormatAct.f k a0_0 a0_1 a0_2 a0_3=some (r1,r2)):
 Calls prog 14 #[.agg #[V I a0_0,V I a0_1,V I a0_2,V I a0_3]] w fun e w'=>e=.returned (.tuple #[.string r1,O r2])∧Below w.heap.size w w':=by
 have hu1:=underlying23
 have HB:=C (Below.refl w.heap.size w)
 have H:=h
 unfold spec_FormatAct.f at H
 clear h
 obtain⟨t1,A1,H⟩:=bnd H
 by_cases c1:t1=true
 rotate_left
 ·obtain rfl:=nt c1
  replace H:=nf H
  simp only[Option.some.injEq,Prod.mk.injEq]at H
  obtain⟨rfl,rfl⟩:=H
  go_enter func14,ntmps14
  go_wp2_with (first|((with_reducible refine J (N:=1) rfl ?_);refine Fix.be 1 #[V I a0_0,V I a0_1,V I a0_2,V I a0_3] 23 ?_;intro gb1 hg w1 BK1 hb;have GW1:=gE (w:=w) hg;have GE1:=GW1;replace HB:=eB hb;clear hb hg;obtain⟨_,_,_,_,_,_,_,_⟩:=d4 BK1.out)|((with_reducible refine F (f:=24) rfl ?_);refine gl 24 (some 6) func24 #[.agg #[V I a0_0,V I a0_1,V I a0_2,V I a0_3]] ?_;(with_reducible refine(spec_ActOk.calls k a0_0 a0_1 a0_2 a0_3 false _ A1.out).mono ?_);rintro e w2 ⟨rfl,hb⟩;refine⟨_,rfl,?_⟩;replace BK1:=eK BK1 hb;replace HB:=eB hb;clear hb))
  go_ret2
  exact⟨rE,uB⟩
 subst c1
 rw[if_pos rfl]at H
 obtain⟨y1,hy1⟩:∃y_:List ByteArray,y_=(([(⟨#[]⟩:ByteArray),(⟨#[97,100,100]⟩:ByteArray),(⟨#[116,97,107,101]⟩:ByteArray),(⟨#[108,105,110,101]⟩:ByteArray),(⟨#[102,105,110,105,115,104]⟩:ByteArray),(⟨#[114,101,108,101,97,115,101]⟩:ByteArray)]:List ByteArray)):=⟨_,rfl⟩
 replace H:(if 0≤a0_0 then(if a0_0<(y1.length:Int) then(if a0_0=1 then(if(rdOf ByteArray.empty y1 a0_0).size+1≤9223372036854775807 then((spec_FormatInt.f k a0_1).bind fun t2=>(if((rdOf ByteArray.empty y1 a0_0)++(⟨#[32]⟩:ByteArray)).size+t2.size≤9223372036854775807 then(if(((rdOf ByteArray.empty y1 a0_0)++(⟨#[32]⟩:ByteArray))++t2).size+1≤9223372036854775807 then((spec_FormatInt.f k a0_2).bind fun t3=>(if((((rdOf ByteArray.empty y1 a0_0)++(⟨#[32]⟩:ByteArray))++t2)++(⟨#[32]⟩:ByteArray)).size+t3.size≤9223372036854775807 then(if(((((rdOf ByteArray.empty y1 a0_0)++(⟨#[32]⟩:ByteArray))++t2)++(⟨#[32]⟩:ByteArray))++t3).size+1≤9223372036854775807 then((spec_FormatInt.f k a0_3).bind fun t4=>(if((((((rdOf ByteArray.empty y1 a0_0)++(⟨#[32]⟩:ByteArray))++t2)++(⟨#[32]⟩:ByteArray))++t3)++(⟨#[32]⟩:ByteArray)).size+t4.size≤9223372036854775807 then(some (((((((rdOf ByteArray.empty y1 a0_0)++(⟨#[32]⟩:ByteArray))++t2)++(⟨#[32]⟩:ByteArray))++t3)++(⟨#[32]⟩:ByteArray))++t4,true)) else(none))) else(none)) else(none))) else(none)) else(none))) else(none)) else(if a0_0=3 then(if(rdOf ByteArray.empty y1 a0_0).size+1≤9223372036854775807 then((spec_FormatInt.f k a0_1).bind fun t5=>(if((rdOf ByteArray.empty y1 a0_0)++(⟨#[32]⟩:ByteArray)).size+t5.size≤9223372036854775807 then(some (((rdOf ByteArray.empty y1 a0_0)++(⟨#[32]⟩:ByteArray))++t5,true)) else(none))) else(none)) else(if a0_0=5 then(if(rdOf ByteArray.empty y1 a0_0).size+1≤9223372036854775807 then((spec_FormatInt.f k a0_1).bind fun t6=>(if((rdOf ByteArray.empty y1 a0_0)++(⟨#[32]⟩:ByteArray)).size+t6.size≤9223372036854775807 then(some (((rdOf ByteArray.empty y1 a0_0)++(⟨#[32]⟩:ByteArray))++t6,true)) else(none))) else(none)) else(some (rdOf ByteArray.empty y1 a0_0,true))))) else(none)) else(none))=some (r1,r2):=gy hy1 H
 have Ny1:=C hy1
 clear hy1
 obtain⟨c2,H⟩:=np H
 replace c2:=decide_eq_true c2
 obtain⟨c3,H⟩:=np H
 replace c3:=decide_eq_true c3
 by_cases c4:a0_0=1
 rotate_left
 ·rw[if_neg c4]at H
  have c4b0:(a0_0==1)=false:=beq_eq_false_iff_ne.mpr c4
  have c4b1:(a0_0 !=1)=true:=bne_iff_ne.mpr c4
  by_cases c5:a0_0=3
  ·rw[if_pos c5]at H
   have c5b0:(a0_0==3)=true:=beq_iff_eq.mpr c5
   have c5b1:(a0_0 !=3)=false:=bne_eq_false_iff_eq.mpr c5
   clear c5
   obtain⟨c6,H⟩:=np H
   have c6b0:=eq_true c6
   have c6b1:decide ((rdOf ByteArray.empty y1 a0_0).size+1≤9223372036854775807)=true:=decide_eq_true c6
   try have c6b2:(9223372036854775807<(rdOf ByteArray.empty y1 a0_0).size+1)=False:=eq_false (Nat.not_lt.2 c6)
   try(have h1_:=c6;simp only[ByteArray.size_append,Ito.bsz,List.size_toArray,List.length_cons,List.length_nil]at h1_;have c6b3:=eq_false (Nat.not_lt.2 h1_);clear h1_)
   obtain⟨t5,A2,H⟩:=bnd H
   obtain⟨c7,H⟩:=np H
   have c7b0:=eq_true c7
   have c7b1:decide (((rdOf ByteArray.empty y1 a0_0)++(⟨#[32]⟩:ByteArray)).size+t5.size≤9223372036854775807)=true:=decide_eq_true c7
   try have c7b2:(9223372036854775807<((rdOf ByteArray.empty y1 a0_0)++(⟨#[32]⟩:ByteArray)).size+t5.size)=False:=eq_false (Nat.not_lt.2 c7)
   try(have h1_:=c7;simp only[ByteArray.size_append,Ito.bsz,List.size_toArray,List.length_cons,List.length_nil]at h1_;have c7b3:=eq_false (Nat.not_lt.2 h1_);clear h1_)
   simp only[Option.some.injEq,Prod.mk.injEq]at H
   obtain⟨rfl,rfl⟩:=H
   exact spec_FormatAct.W1
  rw[if_neg c5]at H
  have c5b0:(a0_0==3)=false:=beq_eq_false_iff_ne.mpr c5
  have c5b1:(a0_0 !=3)=true:=bne_iff_ne.mpr c5
  by_cases c6:a0_0=5
  rotate_left
  ·rw[if_neg c6]at H
   have c6b0:(a0_0==5)=false:=beq_eq_false_iff_ne.mpr c6
   have c6b1:(a0_0 !=5)=true:=bne_iff_ne.mpr c6
   simp only[Option.some.injEq,Prod.mk.injEq]at H
   obtain⟨rfl,rfl⟩:=H
   exact spec_FormatAct.W1
  rw[if_pos c6]at H
  have c6b0:(a0_0==5)=true:=beq_iff_eq.mpr c6
  have c6b1:(a0_0 !=5)=false:=bne_eq_false_iff_eq.mpr c6
  clear c6
  obtain⟨c7,H⟩:=np H
  have c7b0:=eq_true c7
  have c7b1:decide ((rdOf ByteArray.empty y1 a0_0).size+1≤9223372036854775807)=true:=decide_eq_true c7
  try have c7b2:(9223372036854775807<(rdOf ByteArray.empty y1 a0_0).size+1)=False:=eq_false (Nat.not_lt.2 c7)
  try(have h1_:=c7;simp only[ByteArray.size_append,Ito.bsz,List.size_toArray,List.length_cons,List.length_nil]at h1_;have c7b3:=eq_false (Nat.not_lt.2 h1_);clear h1_)
  obtain⟨t6,A2,H⟩:=bnd H
  obtain⟨c8,H⟩:=np H
  have c8b0:=eq_true c8
  have c8b1:decide (((rdOf ByteArray.empty y1 a0_0)++(⟨#[32]⟩:ByteArray)).size+t6.size≤9223372036854775807)=true:=decide_eq_true c8
  try have c8b2:(9223372036854775807<((rdOf ByteArray.empty y1 a0_0)++(⟨#[32]⟩:ByteArray)).size+t6.size)=False:=eq_false (Nat.not_lt.2 c8)
  try(have h1_:=c8;simp only[ByteArray.size_append,Ito.bsz,List.size_toArray,List.length_cons,List.length_nil]at h1_;have c8b3:=eq_false (Nat.not_lt.2 h1_);clear h1_)
  simp only[Option.some.injEq,Prod.mk.injEq]at H
  obtain⟨rfl,rfl⟩:=H
  go_enter func14,ntmps14
  go_wp2_with (first|((with_reducible refine J (N:=1) rfl ?_);refine Fix.be 1 #[V I a0_0,V I a0_1,V I a0_2,V I a0_3] 23 ?_;intro gb1 hg w1 BK1 hb;have GW1:=gE (w:=w) hg;have GE1:=GW1;replace HB:=eB hb;clear hb hg;obtain⟨_,_,_,_,_,_,_,_⟩:=d4 BK1.out)|((with_reducible refine F (f:=24) rfl ?_);refine gl 24 (some 6) func24 #[.agg #[V I a0_0,V I a0_1,V I a0_2,V I a0_3]] ?_;(with_reducible refine(spec_ActOk.calls k a0_0 a0_1 a0_2 a0_3 true _ A1.out).mono ?_);rintro e w2 ⟨rfl,hb⟩;refine⟨_,rfl,?_⟩;replace BK1:=eK BK1 hb;replace HB:=eB hb;clear hb)|((with_reducible refine J (N:=8) rfl ?_);refine Kd.R_lit Kd.string _ 9 ?hg (N:=8) ?hd (xs:=([(⟨#[]⟩:ByteArray),(⟨#[97,100,100]⟩:ByteArray),(⟨#[116,97,107,101]⟩:ByteArray),(⟨#[108,105,110,101]⟩:ByteArray),(⟨#[102,105,110,105,115,104]⟩:ByteArray),(⟨#[114,101,108,101,97,115,101]⟩:ByteArray)]:List ByteArray)) (inner:= [.string (⟨#[]⟩:ByteArray),.string (⟨#[97,100,100]⟩:ByteArray),.string (⟨#[116,97,107,101]⟩:ByteArray),.string (⟨#[108,105,110,101]⟩:ByteArray),.string (⟨#[102,105,110,105,115,104]⟩:ByteArray),.string (⟨#[114,101,108,101,97,115,101]⟩:ByteArray)]) (ok:=fun _=>True) (okp:=fun _=>True) ?hr ?hp (fun _ hk=>hk) trivial (Below.refl _ _) (Nat.le_refl _) (by simp) ?_;(case hd=>rfl);(case hg=>rfl);(case hr=>exact Fix.hr);(case hp=>exact(Reps.one (show Kd.M Kd.string _ _ _ (⟨#[]⟩:ByteArray) [.string (⟨#[]⟩:ByteArray)] from rfl) (Reps.one (show Kd.M Kd.string _ _ _ (⟨#[97,100,100]⟩:ByteArray) [.string (⟨#[97,100,100]⟩:ByteArray)] from rfl) (Reps.one (show Kd.M Kd.string _ _ _ (⟨#[116,97,107,101]⟩:ByteArray) [.string (⟨#[116,97,107,101]⟩:ByteArray)] from rfl) (Reps.one (show Kd.M Kd.string _ _ _ (⟨#[108,105,110,101]⟩:ByteArray) [.string (⟨#[108,105,110,101]⟩:ByteArray)] from rfl) (Reps.one (show Kd.M Kd.string _ _ _ (⟨#[102,105,110,105,115,104]⟩:ByteArray) [.string (⟨#[102,105,110,105,115,104]⟩:ByteArray)] from rfl) (Reps.one (show Kd.M Kd.string _ _ _ (⟨#[114,101,108,101,97,115,101]⟩:ByteArray) [.string (⟨#[114,101,108,101,97,115,101]⟩:ByteArray)] from rfl) (Reps.none _ _))))))));intro v1 w3 ho1 hb hg_ hnew_;clear hg_ hnew_;(first|rw[←Ny1.out]at ho1|(simp only[Int.reduceToNat]at ho1;rw[←Ny1.out]at ho1));have HO1:=lR ho1;replace BK1:=eK BK1 hb;replace HB:=eB hb;clear hb ho1;obtain⟨_,_,_,_,_,_,_,_⟩:=d4 BK1.out;obtain⟨Ao1,co1,rfl⟩:=Kd.R_slice HO1.out;have p1:0≤(a0_0:Int):=oT;have q1:a0_0<(y1.length:Int):=oT;obtain⟨ad1,e1,hx1_0⟩:=Kd.at_string (Kd.R_reads' HO1.out).2.2 a0_0 p1 q1;cases e1;replace p1:=eq_true p1;replace q1:=eq_true q1)|((with_reducible refine F (f:=23) rfl ?_);refine gl 23 (some 44) func23 #[V I a0_1] ?_;(with_reducible refine(spec_FormatInt.calls k a0_1 t6 _ A2.out).mono ?_);rintro e w4 ⟨rfl,hb⟩;refine⟨_,rfl,?_⟩;replace HO1:=eR HO1 hb;replace BK1:=eK BK1 hb;replace HB:=eB hb;clear hb))
  go_ret2
  exact⟨rE,uB⟩
 rw[if_pos c4]at H
 have c4b0:(a0_0==1)=true:=beq_iff_eq.mpr c4
 have c4b1:(a0_0 !=1)=false:=bne_eq_false_iff_eq.mpr c4
 clear c4
 obtain⟨c5,H⟩:=np H
 have c5b0:=eq_true c5
 have c5b1:decide ((rdOf ByteArray.empty y1 a0_0).size+1≤9223372036854775807)=true:=decide_eq_true c5
 try have c5b2:(9223372036854775807<(rdOf ByteArray.empty y1 a0_0).size+1)=False:=eq_false (Nat.not_lt.2 c5)
 try(have h1_:=c5;simp only[ByteArray.size_append,Ito.bsz,List.size_toArray,List.length_cons,List.length_nil]at h1_;have c5b3:=eq_false (Nat.not_lt.2 h1_);clear h1_)
 obtain⟨t2,A2,H⟩:=bnd H
 obtain⟨c6,H⟩:=np H
 have c6b0:=eq_true c6
 have c6b1:decide (((rdOf ByteArray.empty y1 a0_0)++(⟨#[32]⟩:ByteArray)).size+t2.size≤9223372036854775807)=true:=decide_eq_true c6
 try have c6b2:(9223372036854775807<((rdOf ByteArray.empty y1 a0_0)++(⟨#[32]⟩:ByteArray)).size+t2.size)=False:=eq_false (Nat.not_lt.2 c6)
 try(have h1_:=c6;simp only[ByteArray.size_append,Ito.bsz,List.size_toArray,List.length_cons,List.length_nil]at h1_;have c6b3:=eq_false (Nat.not_lt.2 h1_);clear h1_)
 obtain⟨c7,H⟩:=np H
 have c7b0:=eq_true c7
 have c7b1:decide ((((rdOf ByteArray.empty y1 a0_0)++(⟨#[32]⟩:ByteArray))++t2).size+1≤9223372036854775807)=true:=decide_eq_true c7
 try have c7b2:(9223372036854775807<(((rdOf ByteArray.empty y1 a0_0)++(⟨#[32]⟩:ByteArray))++t2).size+1)=False:=eq_false (Nat.not_lt.2 c7)
 try(have h1_:=c7;simp only[ByteArray.size_append,Ito.bsz,List.size_toArray,List.length_cons,List.length_nil]at h1_;have c7b3:=eq_false (Nat.not_lt.2 h1_);clear h1_)
 obtain⟨t3,A3,H⟩:=bnd H
 obtain⟨c8,H⟩:=np H
 have c8b0:=eq_true c8
 have c8b1:decide (((((rdOf ByteArray.empty y1 a0_0)++(⟨#[32]⟩:ByteArray))++t2)++(⟨#[32]⟩:ByteArray)).size+t3.size≤9223372036854775807)=true:=decide_eq_true c8
 try have c8b2:(9223372036854775807<((((rdOf ByteArray.empty y1 a0_0)++(⟨#[32]⟩:ByteArray))++t2)++(⟨#[32]⟩:ByteArray)).size+t3.size)=False:=eq_false (Nat.not_lt.2 c8)
 try(have h1_:=c8;simp only[ByteArray.size_append,Ito.bsz,List.size_toArray,List.length_cons,List.length_nil]at h1_;have c8b3:=eq_false (Nat.not_lt.2 h1_);clear h1_)
 obtain⟨c9,H⟩:=np H
 have c9b0:=eq_true c9
 have c9b1:decide ((((((rdOf ByteArray.empty y1 a0_0)++(⟨#[32]⟩:ByteArray))++t2)++(⟨#[32]⟩:ByteArray))++t3).size+1≤9223372036854775807)=true:=decide_eq_true c9
 try have c9b2:(9223372036854775807<(((((rdOf ByteArray.empty y1 a0_0)++(⟨#[32]⟩:ByteArray))++t2)++(⟨#[32]⟩:ByteArray))++t3).size+1)=False:=eq_false (Nat.not_lt.2 c9)
 try(have h1_:=c9;simp only[ByteArray.size_append,Ito.bsz,List.size_toArray,List.length_cons,List.length_nil]at h1_;have c9b3:=eq_false (Nat.not_lt.2 h1_);clear h1_)
 obtain⟨t4,A4,H⟩:=bnd H
 obtain⟨c10,H⟩:=np H
 have c10b0:=eq_true c10
 have c10b1:decide (((((((rdOf ByteArray.empty y1 a0_0)++(⟨#[32]⟩:ByteArray))++t2)++(⟨#[32]⟩:ByteArray))++t3)++(⟨#[32]⟩:ByteArray)).size+t4.size≤9223372036854775807)=true:=decide_eq_true c10
 try have c10b2:(9223372036854775807<((((((rdOf ByteArray.empty y1 a0_0)++(⟨#[32]⟩:ByteArray))++t2)++(⟨#[32]⟩:ByteArray))++t3)++(⟨#[32]⟩:ByteArray)).size+t4.size)=False:=eq_false (Nat.not_lt.2 c10)
 try(have h1_:=c10;simp only[ByteArray.size_append,Ito.bsz,List.size_toArray,List.length_cons,List.length_nil]at h1_;have c10b3:=eq_false (Nat.not_lt.2 h1_);clear h1_)
 simp only[Option.some.injEq,Prod.mk.injEq]at H
 obtain⟨rfl,rfl⟩:=H
 go_enter func14,ntmps14
 try go_wp2_with (first|((with_reducible refine J (N:=1) rfl ?_);refine Fix.be 1 #[V I a0_0,V I a0_1,V I a0_2,V I a0_3] 23 ?_;intro gb1 hg w1 BK1 hb;have GW1:=gE (w:=w) hg;have GE1:=GW1;replace HB:=eB hb;clear hb hg;obtain⟨_,_,_,_,_,_,_,_⟩:=d4 BK1.out)|((with_reducible refine F (f:=24) rfl ?_);refine gl 24 (some 6) func24 #[.agg #[V I a0_0,V I a0_1,V I a0_2,V I a0_3]] ?_;(with_reducible refine(spec_ActOk.calls k a0_0 a0_1 a0_2 a0_3 true _ A1.out).mono ?_);rintro e w2 ⟨rfl,hb⟩;refine⟨_,rfl,?_⟩;replace BK1:=eK BK1 hb;replace HB:=eB hb;clear hb)|((with_reducible refine J (N:=8) rfl ?_);refine Kd.R_lit Kd.string _ 9 ?hg (N:=8) ?hd (xs:=([(⟨#[]⟩:ByteArray),(⟨#[97,100,100]⟩:ByteArray),(⟨#[116,97,107,101]⟩:ByteArray),(⟨#[108,105,110,101]⟩:ByteArray),(⟨#[102,105,110,105,115,104]⟩:ByteArray),(⟨#[114,101,108,101,97,115,101]⟩:ByteArray)]:List ByteArray)) (inner:= [.string (⟨#[]⟩:ByteArray),.string (⟨#[97,100,100]⟩:ByteArray),.string (⟨#[116,97,107,101]⟩:ByteArray),.string (⟨#[108,105,110,101]⟩:ByteArray),.string (⟨#[102,105,110,105,115,104]⟩:ByteArray),.string (⟨#[114,101,108,101,97,115,101]⟩:ByteArray)]) (ok:=fun _=>True) (okp:=fun _=>True) ?hr ?hp (fun _ hk=>hk) trivial (Below.refl _ _) (Nat.le_refl _) (by simp) ?_;(case hd=>rfl);(case hg=>rfl);(case hr=>exact Fix.hr);(case hp=>exact(Reps.one (show Kd.M Kd.string _ _ _ (⟨#[]⟩:ByteArray) [.string (⟨#[]⟩:ByteArray)] from rfl) (Reps.one (show Kd.M Kd.string _ _ _ (⟨#[97,100,100]⟩:ByteArray) [.string (⟨#[97,100,100]⟩:ByteArray)] from rfl) (Reps.one (show Kd.M Kd.string _ _ _ (⟨#[116,97,107,101]⟩:ByteArray) [.string (⟨#[116,97,107,101]⟩:ByteArray)] from rfl) (Reps.one (show Kd.M Kd.string _ _ _ (⟨#[108,105,110,101]⟩:ByteArray) [.string (⟨#[108,105,110,101]⟩:ByteArray)] from rfl) (Reps.one (show Kd.M Kd.string _ _ _ (⟨#[102,105,110,105,115,104]⟩:ByteArray) [.string (⟨#[102,105,110,105,115,104]⟩:ByteArray)] from rfl) (Reps.one (show Kd.M Kd.string _ _ _ (⟨#[114,101,108,101,97,115,101]⟩:ByteArray) [.string (⟨#[114,101,108,101,97,115,101]⟩:ByteArray)] from rfl) (Reps.none _ _))))))));intro v1 w3 ho1 hb hg_ hnew_;clear hg_ hnew_;(first|rw[←Ny1.out]at ho1|(simp only[Int.reduceToNat]at ho1;rw[←Ny1.out]at ho1));have HO1:=lR ho1;replace BK1:=eK BK1 hb;replace HB:=eB hb;clear hb ho1;obtain⟨_,_,_,_,_,_,_,_⟩:=d4 BK1.out;obtain⟨Ao1,co1,rfl⟩:=Kd.R_slice HO1.out;have p1:0≤(a0_0:Int):=oT;have q1:a0_0<(y1.length:Int):=oT;obtain⟨ad1,e1,hx1_0⟩:=Kd.at_string (Kd.R_reads' HO1.out).2.2 a0_0 p1 q1;cases e1;replace p1:=eq_true p1;replace q1:=eq_true q1))
 replace HO1:=dR HO1
 replace BK1:=dK BK1
 replace HB:=dB HB
 refine start_ (n:=18) (S:=fun w'=>cl4 w' gb1 (V I a0_0) (V I a0_1) (V I a0_2) (V I a0_3)) (ds:= []) #[false,false,false,false,false,false,false,false,false,false,false,false,false,false,false,false,false,false] (by kernel_rfl) rfl rfl hh (fun hHeld=> ?_);refine with_tabW spec_FormatAct.tab5 spec_FormatAct.bits5 (fun HT_ HW_=> ?_)
 generalize w3.drew=w4 at HO1 BK1 HB hHeld ⊢
 refine pu 0 (some 16) ?_
 refine pu 1 (some 17) ?_
 refine pu 2 (some 18) ?_
 refine pu 7 (some 23) ?_
 refine pu 12 (some 28) ?_
 refine tu 3 (some 19) hHeld ?_
 refine tu 8 (some 24) hHeld ?_
 refine tu 13 (some 29) hHeld ?_
 refine ou 4 (some 20) (fun K hK=> ?_)
 refine gs func23 #[V I a0_1] ?_
 with_reducible refine(spec_FormatInt.calls k a0_1 t2 _ A2.out).mono ?_
 rintro e w5 ⟨rfl,hb⟩
 refine⟨_,rfl,?_⟩
 replace HO1:=eR HO1 hb
 replace BK1:=eK BK1 hb
 replace HB:=eB hb
 (try clear hb)
 refine hK.out _ _ hh (fun hHeld=> ?_)
 clear hK K
 refine nu (N:=(some 20)) ?_
 refine pu 5 (some 21) ?_
 refine pu 6 (some 22) ?_
 refine ou 9 (some 25) (fun K hK=> ?_)
 refine gs func23 #[V I a0_2] ?_
 with_reducible refine(spec_FormatInt.calls k a0_2 t3 _ A3.out).mono ?_
 rintro e w6 ⟨rfl,hb⟩
 refine⟨_,rfl,?_⟩
 replace HO1:=eR HO1 hb
 replace BK1:=eK BK1 hb
 replace HB:=eB hb
 (try clear hb)
 refine hK.out _ _ hh (fun hHeld=> ?_)
 clear hK K
 refine nu (N:=(some 25)) ?_
 refine pu 10 (some 26) ?_
 refine pu 11 (some 27) ?_
 refine ou 14 (some 30) (fun K hK=> ?_)
 refine gs func23 #[V I a0_3] ?_
 with_reducible refine(spec_FormatInt.calls k a0_3 t4 _ A4.out).mono ?_
 rintro e w7 ⟨rfl,hb⟩
 refine⟨_,rfl,?_⟩
 replace HO1:=eR HO1 hb
 replace BK1:=eK BK1 hb
 replace HB:=eB hb
 (try clear hb)
 refine hK.out _ _ hh (fun hHeld=> ?_)
 clear hK K
 refine nu (N:=(some 30)) ?_
 refine pu 15 (some 31) ?_
 refine pu 16 (some 2) ?_
 refine pu 17 (some 3) ?_
 refine done_ (done_of HT_.out (by kernel_rfl)) ?_
 try go_wp2
 go_ret2
 exact⟨rE,uB⟩
end Go.Proofs.YtgdnlmfoghpeoaaDoor.PFnExactParseAct
