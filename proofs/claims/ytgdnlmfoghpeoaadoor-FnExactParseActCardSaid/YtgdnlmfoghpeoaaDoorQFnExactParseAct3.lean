/- Calls do what plain Lean functions say (FnExactParseAct). No condition. -/
import Derived.Test.YtgdnlmfoghpeoaaDoorQFnExactParseAct0
import Derived.Test.YtgdnlmfoghpeoaaDoorQFnExactParseAct2
namespace Go.Proofs.YtgdnlmfoghpeoaaDoor.PFnExactParseAct
open Go.RowKit Go.Proofs.YtgdnlmfoghpeoaaDoorW.PrintWords Go.Proofs.YtgdnlmfoghpeoaaDoorW.PrintLast Go.Proofs.YtgdnlmfoghpeoaaDoorW.PrintMore
open Tryd
open Fix (bK bnd d4 eB eK eR fR gE gl gy lR nG nL nf np nt oL oT qm qn rE rN rS si uB uC uR wB wK)
open Go.Value renaming int→V
open Go.IntKind renaming i64→I
open Go.Proofs.YtgdnlmfoghpeoaaDoorW.PrintWords.Aside0 renaming mk→C
open Go.Proofs.YtgdnlmfoghpeoaaDoorW.PrintWords renaming Aside0→D,gate_callee→F
attribute [local go_sem] max2_int min2_int max_two min_two max_three min_three max_four min_four
attribute [local go_sem] Fix.isSome_setCell
set_option linter.unusedVariables false
set_option maxHeartbeats 40000000
set_option maxRecDepth 100000
set_option linter.unusedSimpArgs false
mutual
def impl_SplitFields.l0:Nat→ByteArray→Int→Option (List ByteArray×Bool)
  |0,_,_=>none
  |k+1,x0,x4=>if x4<(x0.size:Int) then(if 0≤x4 then(if(bt x0 x4)<32 then(some (([]:List ByteArray),false)) else(if(bt x0 x4) >126 then(some (([]:List ByteArray),false)) else(impl_SplitFields.l0 k x0 (wrap64 (x4+1))))) else(none)) else((strings_Split.f x0 (⟨#[32]⟩:ByteArray)).bind fun t208=>(impl_SplitFields.l1 k ([]:List ByteArray) t208 (t208.length:Int) 0))
def impl_SplitFields.l1:Nat→List ByteArray→List ByteArray→Int→Int→Option (List ByteArray×Bool)
  |0,_,_,_,_=>none
  |k+1,x5,x28,x29,x30=>if x30<x29 then(if 0≤x30 then(if x30<(x28.length:Int) then(if(rdOf ByteArray.empty x28 x30).toList=([]:List UInt8) then(impl_SplitFields.l1 k x5 x28 x29 (wrap64 (x30+1))) else(if x5.length<8796093022208 then(impl_SplitFields.l1 k (x5++ [rdOf ByteArray.empty x28 x30]) x28 x29 (wrap64 (x30+1))) else(none))) else(none)) else(none)) else(if(x5.length:Int) >24 then(some (([]:List ByteArray),false)) else(some (x5,true)))
end
def impl_SplitFields.f (k:Nat) (a0:ByteArray):Option (List ByteArray×Bool):=if(a0.size:Int) >600 then(some (([]:List ByteArray),false)) else(impl_SplitFields.l0 k a0 0)
theorem impl_SplitFields.W1 {p:Prop} (h:p:=by
 go_wp2
 go_ret2
 first
  |(exact⟨_,rE,rN,uB⟩)
  |(exact⟨_,rE,Kd.R_mono (fR HO_1.out) (fun _ hk=>trivial),uB⟩)):p:=h
theorem impl_SplitFields.calls (k:Nat) (a0:ByteArray) (r1:List ByteArray) (r2:Bool) (w:World) (h:impl_SplitFields.f k a0=some (r1,r2)) (hTab:Ito.Tab w):
 Calls prog 15 #[.string a0] w fun e w'=>∃v0_:Value,e=.returned (.tuple #[v0_,.bool r2])∧Kd.R Kd.string 9 w' w.heap.size (fun _=>True) v0_ r1∧Below w.heap.size w w':=by
 replace hTab:=C hTab
 have HB:=C (Below.refl w.heap.size w)
 have H:=h
 unfold impl_SplitFields.f at H
 clear h
 by_cases c1:(a0.size:Int) >600
 ·rw[if_pos c1]at H
  have c1b0:decide (600<(a0.size:Int))=true:=decide_eq_true c1
  have c1b1:decide (600<a0.size)=true:=decide_eq_true (by omega)
  clear c1
  simp only[Option.some.injEq,Prod.mk.injEq]at H
  obtain⟨rfl,rfl⟩:=H
  go_enter func15,ntmps15
  go_wp2
  go_ret2
  exact⟨_,rE,rN,uB⟩
 rw[if_neg c1]at H
 have c1b0:decide (600<(a0.size:Int))=false:=decide_eq_false c1
 have c1b1:decide (600<a0.size)=false:=decide_eq_false (by omega)
 clear c1
 have H':=C H
 clear H
 go_enter func15,ntmps15
 go_wp2
 go_loopg [4] k (fun kq v4 w'=>∃(x1_1:Int),v4=V I x1_1∧D (impl_SplitFields.l0 kq a0 x1_1=some (r1,r2))∧D (kq≤k)∧D (Below w.heap.size w w'))
 case atStart=>exact⟨(0),rS,H',⟨Nat.le_refl _⟩,⟨uB⟩⟩
 case round=>
  clear H'
  obtain⟨x1_1,rfl,HA,HK1,HB⟩:=hrel
  cases gk with
  |zero=>exact absurd HA.out (by simp[impl_SplitFields.l0])
  |succ k1=>
   have H:=HA.out
   clear HA
   simp only[impl_SplitFields.l0]at H
   by_cases c2:x1_1<(a0.size:Int)
   ·rw[if_pos c2]at H
    replace c2:=decide_eq_true c2
    obtain⟨c3,H⟩:=np H
    replace c3:=decide_eq_true c3
    by_cases c4:(bt a0 x1_1)<32
    ·rw[if_pos c4]at H
     replace c4:=decide_eq_true c4
     simp only[Option.some.injEq,Prod.mk.injEq]at H
     obtain⟨rfl,rfl⟩:=H
     have p1:0≤(x1_1:Int):=oT
     have q1:x1_1<(a0.size:Int):=oT
     have hx1:=bt_at a0 x1_1
     replace p1:=eq_true p1
     replace q1:=eq_true q1
     exact impl_SplitFields.W1
    rw[if_neg c4]at H
    replace c4:=decide_eq_false c4
    by_cases c5:(bt a0 x1_1) >126
    ·rw[if_pos c5]at H
     replace c5:=decide_eq_true c5
     simp only[Option.some.injEq,Prod.mk.injEq]at H
     obtain⟨rfl,rfl⟩:=H
     have p1:0≤(x1_1:Int):=oT
     have q1:x1_1<(a0.size:Int):=oT
     have hx1:=bt_at a0 x1_1
     replace p1:=eq_true p1
     replace q1:=eq_true q1
     have p2:0≤(x1_1:Int):=oT
     have q2:x1_1<(a0.size:Int):=oT
     have hx2:=bt_at a0 x1_1
     replace p2:=eq_true p2
     replace q2:=eq_true q2
     exact impl_SplitFields.W1
    rw[if_neg c5]at H
    replace c5:=decide_eq_false c5
    have H':=C H
    clear H
    have p1:0≤(x1_1:Int):=oT
    have q1:x1_1<(a0.size:Int):=oT
    have hx1:=bt_at a0 x1_1
    replace p1:=eq_true p1
    replace q1:=eq_true q1
    have p2:0≤(x1_1:Int):=oT
    have q2:x1_1<(a0.size:Int):=oT
    have hx2:=bt_at a0 x1_1
    replace p2:=eq_true p2
    replace q2:=eq_true q2
    go_wp2
    go_roundg k1
    case measure=>have:=HK1.out;omega
    case rel=>exact⟨(wrap64 (x1_1+1)),rS,H',⟨by have:=HK1.out;omega⟩,⟨uB⟩⟩
   rw[if_neg c2]at H
   replace c2:=decide_eq_false c2
   obtain⟨t1,A1,H⟩:=bnd H
   have H':=C H
   clear H
   go_wp2_with (first|((with_reducible refine F (f:=25) rfl ?_);refine gl 25 (some 28) func25 #[.string a0,.string (⟨#[32]⟩:ByteArray)] ?_;(with_reducible refine(strings_Split.calls a0 (⟨#[32]⟩:ByteArray) t1 _ A1.out (Ito.on hTab.out uB)).mono ?_);rintro e w1 ⟨v1,rfl,ho1,hb⟩;refine⟨_,rfl,?_⟩;have HO1:=lR ho1;replace HB:=eB hb;clear hb ho1;obtain⟨Ao1,co1,rfl⟩:=Kd.R_slice HO1.out))
   go_loopg [5,30] k1 (fun kq v5 v30 w'=>∃(x2_2:List ByteArray) (x3_2:Int),v30=V I x3_2∧D (impl_SplitFields.l1 kq x2_2 t1 (t1.length:Int) x3_2=some (r1,r2))∧D (kq≤k1)∧D (Kd.R Kd.string 9 w' w.heap.size (fun k_=>some k_≠Fix.o Ao1 t1.length co1) v5 x2_2)∧D (Kd.R Kd.string 9 w' w.heap.size (fun k_=>qm k_ v5) (.slice Ao1 t1.length co1) t1)∧D (Below w.heap.size w w'))
   case atStart=>exact⟨(([]:List ByteArray)),(0),rS,H',⟨Nat.le_refl _⟩,⟨rN⟩,⟨Kd.R_mono (fR HO1.out) (fun _ hk=>(by simp[Value.ownBlock]))⟩,⟨uB⟩⟩
   case round=>
    clear H'
    obtain⟨x2_2,x3_2,rfl,HA,HK2,HO_1,HO_2,HB⟩:=hrel
    cases gk with
    |zero=>exact absurd HA.out (by simp[impl_SplitFields.l1])
    |succ k2=>
     have H:=HA.out
     clear HA
     simp only[impl_SplitFields.l1]at H
     by_cases c3:x3_2<(t1.length:Int)
     rotate_left
     ·rw[if_neg c3]at H
      replace c3:=decide_eq_false c3
      by_cases c4:(x2_2.length:Int) >24
      ·rw[if_pos c4]at H
       have c4b0:decide (24<(x2_2.length:Int))=true:=decide_eq_true c4
       have c4b1:decide (24<x2_2.length)=true:=decide_eq_true (by omega)
       clear c4
       simp only[Option.some.injEq,Prod.mk.injEq]at H
       obtain⟨rfl,rfl⟩:=H
       obtain⟨Ao2,co2,eo2⟩:=Kd.R_slice HO_1.out
       subst eo2
       exact impl_SplitFields.W1
      rw[if_neg c4]at H
      have c4b0:decide (24<(x2_2.length:Int))=false:=decide_eq_false c4
      have c4b1:decide (24<x2_2.length)=false:=decide_eq_false (by omega)
      clear c4
      simp only[Option.some.injEq,Prod.mk.injEq]at H
      obtain⟨rfl,rfl⟩:=H
      obtain⟨Ao2,co2,eo2⟩:=Kd.R_slice HO_1.out
      subst eo2
      exact impl_SplitFields.W1
     rw[if_pos c3]at H
     replace c3:=decide_eq_true c3
     obtain⟨c4,H⟩:=np H
     replace c4:=decide_eq_true c4
     obtain⟨c5,H⟩:=np H
     replace c5:=decide_eq_true c5
     by_cases c6:(rdOf ByteArray.empty t1 x3_2).toList=([]:List UInt8)
     ·rw[if_pos c6]at H
      have c6b0:((rdOf ByteArray.empty t1 x3_2).toList==([]:List UInt8))=true:=beq_iff_eq.mpr c6
      have c6b1:((rdOf ByteArray.empty t1 x3_2).toList !=([]:List UInt8))=false:=bne_eq_false_iff_eq.mpr c6
      clear c6
      have H':=C H
      clear H
      have p1:0≤(x3_2:Int):=oT
      have q1:x3_2<(t1.length:Int):=oT
      obtain⟨ad1,e1,hx1_0⟩:=Kd.at_string (Kd.R_reads' HO_2.out).2.2 x3_2 p1 q1
      cases e1
      replace p1:=eq_true p1
      replace q1:=eq_true q1
      go_wp2
      go_roundg k2
      case measure=>have:=HK1.out;have:=HK2.out;omega
      case rel=>exact⟨(x2_2),(wrap64 (x3_2+1)),rS,H',⟨by have:=HK1.out;have:=HK2.out;omega⟩,⟨fR HO_1.out⟩,⟨fR HO_2.out⟩,⟨uB⟩⟩
     rw[if_neg c6]at H
     have c6b0:((rdOf ByteArray.empty t1 x3_2).toList==([]:List UInt8))=false:=beq_eq_false_iff_ne.mpr c6
     have c6b1:((rdOf ByteArray.empty t1 x3_2).toList !=([]:List UInt8))=true:=bne_iff_ne.mpr c6
     obtain⟨c7,H⟩:=np H
     have LMc1:=C c7
     clear c7
     obtain⟨y1,hy1⟩:∃y_:List ByteArray,y_=(x2_2++ [rdOf ByteArray.empty t1 x3_2]):=⟨_,rfl⟩
     replace H:(impl_SplitFields.l1 k2 y1 t1 (t1.length:Int) (wrap64 (x3_2+1)))=some (r1,r2):=gy hy1 H
     have Ny1:=C hy1
     clear hy1
     have H':=C H
     clear H
     have p1:0≤(x3_2:Int):=oT
     have q1:x3_2<(t1.length:Int):=oT
     obtain⟨ad1,e1,hx1_0⟩:=Kd.at_string (Kd.R_reads' HO_2.out).2.2 x3_2 p1 q1
     cases e1
     replace p1:=eq_true p1
     replace q1:=eq_true q1
     go_wp2_with (first|((with_reducible refine gate_builtin (b:=.append) (xs:= #[.tmp 36,.tmp 38]) rfl ?_);at_builtin;refine Kd.R_append Kd.string (w0:=w) w.heap.size rfl (.tmp 36) (.tmp 38) 43 9 (.string ⟨#[]⟩) 16 rfl underlying43 info9 rfl (by decide) (by omega) u5 x2_2 (rdOf ByteArray.empty t1 x3_2) [.string (rdOf ByteArray.empty t1 x3_2)] (fun k_=>qn k_ (some ad1) t1.length co1) (fun _=>False) rfl rfl ?aP (fun _ hk=>hk.elim) ?aF ?aO ?aB ?aS ?aL ?_;(case aP=>exact rfl);(case aB=>exact uB);(case aF=>exact(fun k_ hk=>Kd.fresh' (Kd.R_lt (uR HO_2.out)) k_ hk));(case aO=>exact(uR HO_1.out));(case aS=>exact(below_size uB));(case aL=>have:=LMc1.out;omega);intro v2 w2 ho hb hg hat;rw[←Ny1.out]at ho;have HO2:=C (ho);replace HO_2:=C (Kd.R_after (ok:=(fun _=>True)) (Kd.R_mono (fR HO_2.out) (fun _ hk=>⟨trivial,hk⟩)) hg hat);replace HB:=C (hb);clear HO_1;clear ho hb hg hat))
     go_roundg k2
     case measure=>have:=HK1.out;have:=HK2.out;omega
     case rel=>exact⟨(y1),(wrap64 (x3_2+1)),rS,H',⟨by have:=HK1.out;have:=HK2.out;omega⟩,⟨fR HO2.out⟩,⟨Kd.R_mono (fR HO_2.out) (fun _ hk=>hk.2)⟩,⟨uB⟩⟩
mutual
def impl_ParseUint.j0:Nat→ByteArray→Bool→Option (Int×Bool)
  |0,_,_=>none
  |k+1,x0,x13=>if x13=true then(some (0,false)) else(impl_ParseUint.l0 k x0 0 0)
def impl_ParseUint.l0:Nat→ByteArray→Int→Int→Option (Int×Bool)
  |0,_,_,_=>none
  |k+1,x0,x4,x5=>if x5<(x0.size:Int) then(if 0≤x5 then(if(bt x0 x5)<48 then(some (0,false)) else(if(bt x0 x5) >57 then(some (0,false)) else(impl_ParseUint.l0 k x0 (wrap64 ((wrap64 (x4 * 10))+(((bt x0 x5) - 48) % 256))) (wrap64 (x5+1))))) else(none)) else(if x4 >1000000000 then(some (0,false)) else((impl_FormatInt.f x4).bind fun t215=>(if t215.toList=x0.toList then(some (x4,true)) else(some (0,false)))))
end
def impl_ParseUint.f (k:Nat) (a0:ByteArray):Option (Int×Bool):=if(a0.size:Int)=0 then(impl_ParseUint.j0 k a0 true) else(impl_ParseUint.j0 k a0 (decide ((a0.size:Int) >10)))
theorem impl_ParseUint.W1 {p:Prop} (h:p:=by
 go_wp2
 go_meet
 first
  |(case rel=>exact⟨_,(true),rS,H',⟨oL⟩,⟨uB⟩⟩)
  |(case rel=>exact⟨_,(decide ((a0.size:Int) >10)),rS,H',⟨oL⟩,⟨uB⟩⟩)):p:=h
theorem impl_ParseUint.W2 {p:Prop} (h:p:=by
 go_wp2
 go_ret2
 exact⟨rE,uB⟩):p:=h
theorem impl_ParseUint.W3 {p:Prop} (h:p:=by
 go_wp2_with (first|(go_at_call 22;(with_reducible refine(impl_FormatInt.calls x2_2 t1 _ A1.out (Ito.on hTab.out uB)).mono ?_);rintro e w1 ⟨rfl,hb⟩;replace HB:=eB hb;clear hb))
 go_ret2
 exact⟨rE,uB⟩):p:=h
theorem impl_ParseUint.calls (k:Nat) (a0:ByteArray) (r1:Int) (r2:Bool) (w:World) (h:impl_ParseUint.f k a0=some (r1,r2)) (hTab:Ito.Tab w):
 Calls prog 16 #[.string a0] w fun e w'=>e=.returned (.tuple #[V I r1,.bool r2])∧Below w.heap.size w w':=by
 replace hTab:=C hTab
 have HB:=C (Below.refl w.heap.size w)
 have H:=h
 unfold impl_ParseUint.f at H
 clear h
 have HC1:=C H
 clear H
 go_enter func16,ntmps16
 go_upto_region 1 with(fail)
 go_cut [13] (fun v13 wc=>∃(kq:Nat) (x1_1:Bool),v13=.bool x1_1∧D (impl_ParseUint.j0 kq a0 x1_1=some (r1,r2))∧D (kq≤k)∧D (Below w.heap.size w wc))
 case first=>
  have H:=HC1.out
  clear HC1
  by_cases c1:(a0.size:Int)=0
  rotate_left
  ·rw[if_neg c1]at H
   have c1b0:((a0.size:Int)==0)=false:=beq_eq_false_iff_ne.mpr c1
   have c1b1:((a0.size:Int) !=0)=true:=bne_iff_ne.mpr c1
   (first|rw[c1b0]|(simp only[i64_w,i32_w];rw[c1b0])|skip)
   have H':=C H
   clear H
   exact impl_ParseUint.W1
  rw[if_pos c1]at H
  have c1b0:((a0.size:Int)==0)=true:=beq_iff_eq.mpr c1
  have c1b1:((a0.size:Int) !=0)=false:=bne_eq_false_iff_eq.mpr c1
  clear c1
  (first|rw[c1b0]|(simp only[i64_w,i32_w];rw[c1b0])|skip)
  have H':=C H
  clear H
  exact impl_ParseUint.W1
 case rest=>
  clear HC1
  obtain⟨kq,x1_1,rfl,HA,HJ1,HB⟩:=hcut
  cases kq with
  |zero=>exact absurd HA.out (by simp[impl_ParseUint.j0])
  |succ kj1=>
   have H:=HA.out
   clear HA
   simp only[impl_ParseUint.j0]at H
   by_cases c1:x1_1=true
   ·subst c1
    rw[if_pos rfl]at H
    simp only[Option.some.injEq,Prod.mk.injEq]at H
    obtain⟨rfl,rfl⟩:=H
    exact impl_ParseUint.W2
   obtain rfl:=nt c1
   replace H:=nf H
   have H':=C H
   clear H
   go_wp2
   go_loopg [4,5] kj1 (fun kq v4 v5 w'=>∃(x2_2:Int) (x3_2:Int),v4=V I x2_2∧v5=V I x3_2∧D (impl_ParseUint.l0 kq a0 x2_2 x3_2=some (r1,r2))∧D (kq≤kj1)∧D (Below w.heap.size w w'))
   case atStart=>exact⟨(0),(0),rS,rS,H',⟨Nat.le_refl _⟩,⟨uB⟩⟩
   case round=>
    clear H'
    obtain⟨x2_2,x3_2,rfl,rfl,HA,HK1,HB⟩:=hrel
    cases gk with
    |zero=>exact absurd HA.out (by simp[impl_ParseUint.l0])
    |succ k2=>
     have H:=HA.out
     clear HA
     simp only[impl_ParseUint.l0]at H
     by_cases c2:x3_2<(a0.size:Int)
     rotate_left
     ·rw[if_neg c2]at H
      replace c2:=decide_eq_false c2
      by_cases c3:x2_2 >1000000000
      ·rw[if_pos c3]at H
       replace c3:=decide_eq_true c3
       simp only[Option.some.injEq,Prod.mk.injEq]at H
       obtain⟨rfl,rfl⟩:=H
       exact impl_ParseUint.W2
      rw[if_neg c3]at H
      replace c3:=decide_eq_false c3
      obtain⟨t1,A1,H⟩:=bnd H
      by_cases c4:t1.toList=a0.toList
      rotate_left
      ·rw[if_neg c4]at H
       have c4b0:(t1.toList==a0.toList)=false:=beq_eq_false_iff_ne.mpr c4
       have c4b1:(t1.toList !=a0.toList)=true:=bne_iff_ne.mpr c4
       simp only[Option.some.injEq,Prod.mk.injEq]at H
       obtain⟨rfl,rfl⟩:=H
       exact impl_ParseUint.W3
      rw[if_pos c4]at H
      have c4b0:(t1.toList==a0.toList)=true:=beq_iff_eq.mpr c4
      have c4b1:(t1.toList !=a0.toList)=false:=bne_eq_false_iff_eq.mpr c4
      clear c4
      simp only[Option.some.injEq,Prod.mk.injEq]at H
      obtain⟨rfl,rfl⟩:=H
      exact impl_ParseUint.W3
     rw[if_pos c2]at H
     replace c2:=decide_eq_true c2
     obtain⟨c3,H⟩:=np H
     replace c3:=decide_eq_true c3
     by_cases c4:(bt a0 x3_2)<48
     ·rw[if_pos c4]at H
      replace c4:=decide_eq_true c4
      simp only[Option.some.injEq,Prod.mk.injEq]at H
      obtain⟨rfl,rfl⟩:=H
      have p1:0≤(x3_2:Int):=oT
      have q1:x3_2<(a0.size:Int):=oT
      have hx1:=bt_at a0 x3_2
      replace p1:=eq_true p1
      replace q1:=eq_true q1
      exact impl_ParseUint.W2
     rw[if_neg c4]at H
     replace c4:=decide_eq_false c4
     by_cases c5:(bt a0 x3_2) >57
     ·rw[if_pos c5]at H
      replace c5:=decide_eq_true c5
      simp only[Option.some.injEq,Prod.mk.injEq]at H
      obtain⟨rfl,rfl⟩:=H
      have p1:0≤(x3_2:Int):=oT
      have q1:x3_2<(a0.size:Int):=oT
      have hx1:=bt_at a0 x3_2
      replace p1:=eq_true p1
      replace q1:=eq_true q1
      have p2:0≤(x3_2:Int):=oT
      have q2:x3_2<(a0.size:Int):=oT
      have hx2:=bt_at a0 x3_2
      replace p2:=eq_true p2
      replace q2:=eq_true q2
      exact impl_ParseUint.W2
     rw[if_neg c5]at H
     replace c5:=decide_eq_false c5
     have H':=C H
     clear H
     have p1:0≤(x3_2:Int):=oT
     have q1:x3_2<(a0.size:Int):=oT
     have hx1:=bt_at a0 x3_2
     replace p1:=eq_true p1
     replace q1:=eq_true q1
     have p2:0≤(x3_2:Int):=oT
     have q2:x3_2<(a0.size:Int):=oT
     have hx2:=bt_at a0 x3_2
     replace p2:=eq_true p2
     replace q2:=eq_true q2
     have p3:0≤(x3_2:Int):=oT
     have q3:x3_2<(a0.size:Int):=oT
     have hx3:=bt_at a0 x3_2
     replace p3:=eq_true p3
     replace q3:=eq_true q3
     go_wp2
     go_roundg k2
     case measure=>have:=HJ1.out;have:=HK1.out;omega
     case rel=>exact⟨(wrap64 ((wrap64 (x2_2 * 10))+(((bt a0 x3_2) - 48) % 256))),(wrap64 (x3_2+1)),rS,rS,H',⟨by have:=HJ1.out;have:=HK1.out;omega⟩,⟨uB⟩⟩
theorem Bui_copyCheck (B b:Nat) (bs:List Value) (w:World) (h:Lib.IsBuilderF 62 5 B b bs w):
 Calls prog 40 #[.pointer (some ⟨b,0,none⟩)] w fun e w'=>e=.returned (.tuple #[])∧(Lib.BuilderAtF 62 5 B b (.pointer (some ⟨b,0,none⟩)) bs w'∧Below B w w'):=by
 obtain⟨j,hj,hjs⟩:=Option.map_eq_some_iff.1 (show(prog.info? 62).map (·.size)=some 2 by kernel_rfl)
 have hlies:liesAt prog prog.depth 62 (2 / prog.cellsOf 62) 0 62 1=true:=by kernel_rfl
 rcases h with h|h
 ·have h1:=h.cell0
  have hsh:=h.shape
  have hfz:=h.frozen0
  have hkeep:=h
  have hK:=C h
  clear hkeep h
  go_enter func40,ntmps40
  go_wp2
  rw[Lib.run_to_unsafe w ⟨b,0,none⟩ underlying60 underlying87 hj (by rw[hjs];decide) hsh (Nat.zero_lt_succ 1)]
  simp only[Result.andThen]
  rw[Oper.upon_value]
  go_wp2
  rw[run_callFunc_extern func50 (by kernel_rfl) (by kernel_rfl) (by kernel_rfl) (e:=Extern.AbiNoEscape.same) (by kernel_rfl)]
  rw[Lib.run_noEscape]
  simp only[Result.andThen]
  rw[Oper.upon_value]
  go_wp2
  rw[Lib.run_from_unsafe w ⟨b,0,none⟩ underlying87 underlying60 hj hsh hlies]
  simp only[Result.andThen]
  rw[Oper.upon_value]
  go_wp2
  go_end0
  exact⟨rfl,hK.out.used _,(Below.refl B w).setCell (p:=⟨b,0,none⟩) hK.out.1 _⟩
 ·have h1:=h.cell0
  have hK:=C h
  clear h
  go_enter func40,ntmps40
  go_wp2
  rw[Lib.run_neq_ptr_same w _ underlying60 hj]
  go_wp2
  go_end0
  exact⟨rfl,hK.out,Below.refl B _⟩
theorem Bui_WriteString (B b:Nat) (bs:List Value) (s:ByteArray) (w:World) (h:Lib.IsBuilderF 62 5 B b bs w) (hlen:bs.length+s.size≤140737488355328) (hBw:B≤w.heap.size):
 Calls prog 27 #[.pointer (some ⟨b,0,none⟩),.string s] w fun e w'=>e=.returned (.tuple #[V I s.size,.nilIface])∧(Lib.IsBuilderF 62 5 B b (bs++Lib.strCells s) w'∧Below B w w'):=by
 obtain⟨i0,hi,hz1,hz2,hz3⟩:=info_parts (show(prog.info? 5).map (fun i=>(i.zero,i.size,i.bytes))=some (some (.int .u8 0),1,1) by kernel_rfl)
 have hl:=C hlen
 clear hlen
 go_enter func27,ntmps27
 go_wp2_with (go_at_call 40;refine(Bui_copyCheck B b bs _ h).mono ?_)
 rintro e w2 ⟨rfl,h2,hb1⟩
 obtain⟨hB,v,hbk,hown,hne⟩:=h2
 have c5:w2.cell? ⟨b,0,none⟩=some (.pointer (some ⟨b,0,none⟩)):=by rw[Lib.cell_of_heap hbk];rfl
 have c6:w2.cell? ⟨b,1,none⟩=some v:=by rw[Lib.cell_of_heap hbk];rfl
 go_wp2_with (at_builtin;refine Lib.wpList_append_own_stringF _ rfl _ _ 28 9 rfl B 5 i0 underlying28 underlying9 hi hz1 hz2 hz3 _ _ _ rfl hown s rfl ?c7 ?c1 ?c2 ?_)
 case c7=>have:=hl.out;unfold maxLen;omega
 case c1=>have:=hl.out;omega
 case c2=>have:=hb1.size;omega
 intro v' w3 hown' hgrow _
 have hlt:b<w2.heap.size:=by
  rcases Nat.lt_or_ge b w2.heap.size with h'|h'
  ·exact h'
  ·simp[Array.getElem?_eq_none h']at hbk
 have hb2:w3.heap[b]? =some (.cells #[.pointer (some ⟨b,0,none⟩),v] 62 (0,0)):=by
  rw[hgrow.block b hlt (fun e=>hne e.symm)]
  exact hbk
 have d1:w3.cell? ⟨b,0,none⟩=some (.pointer (some ⟨b,0,none⟩)):=by rw[Lib.cell_of_heap hb2];rfl
 have d2:w3.cell? ⟨b,1,none⟩=some v:=by rw[Lib.cell_of_heap hb2];rfl
 have f1:w3.frozen? ⟨b,1,none⟩=false:=Lib.frozen_of_heap hb2 1
 obtain⟨ao,n',cap,rfl⟩:∃ao n' cap,v'=.slice ao n' cap:=by
  rcases hown'.2 with⟨hv,_⟩|⟨g,cap,cur,fz,hv,_⟩
  ·exact⟨_,_,_,hv⟩
  ·exact⟨_,_,_,hv⟩
 go_wp2
 go_ret2
 refine⟨rfl,Or.inr ?_,?_⟩
 ·exact Lib.BuilderAtF.put (T:=62) (e:=5) hB hb2 (bs':=bs++Lib.strCells s) (by simpa[Lib.strCells_length]using hown') (by decide)
 ·exact(hb1.grown hgrow (by have:=hb1.size;omega) (fun k hk=>(hown.lt k hk).1)).setCell (p:=⟨b,1,none⟩) hB _
theorem Bui_copyCheck_new (b:Nat) (w:World) (h0:w.cell? ⟨b,0,none⟩=some (.pointer none)) (hsh:w.shape? b=some (62,2)) (hfz:w.frozen? ⟨b,0,none⟩=false):
 Calls prog 40 #[.pointer (some ⟨b,0,none⟩)] w fun e w'=>e=.returned (.tuple #[])∧w'=w.setCell ⟨b,0,none⟩ (.pointer (some ⟨b,0,none⟩)):=by
 obtain⟨j,hj,hjs⟩:=Option.map_eq_some_iff.1 (show(prog.info? 62).map (·.size)=some 2 by kernel_rfl)
 have hlies:liesAt prog prog.depth 62 (2 / prog.cellsOf 62) 0 62 1=true:=by kernel_rfl
 go_enter func40,ntmps40
 go_wp2
 rw[Lib.run_to_unsafe w ⟨b,0,none⟩ underlying60 underlying87 hj (by rw[hjs];decide) hsh (Nat.zero_lt_succ 1)]
 simp only[Result.andThen]
 rw[Oper.upon_value]
 go_wp2
 rw[run_callFunc_extern func50 (by kernel_rfl) (by kernel_rfl) (by kernel_rfl) (e:=Extern.AbiNoEscape.same) (by kernel_rfl)]
 rw[Lib.run_noEscape]
 simp only[Result.andThen]
 rw[Oper.upon_value]
 go_wp2
 rw[Lib.run_from_unsafe w ⟨b,0,none⟩ underlying87 underlying60 hj hsh hlies]
 simp only[Result.andThen]
 rw[Oper.upon_value]
 go_wp2
 go_end0
 exact⟨rfl,rfl⟩
theorem Bui_Grow (B b n:Nat) (w:World) (hB:B≤b) (hbk:w.heap[b]? =some (.cells #[.pointer none,.slice none 0 0] 62 (0,0))) (hBw:B≤w.heap.size) (hn:n≤281474976710656):
 Calls prog 26 #[.pointer (some ⟨b,0,none⟩),V I n] w fun e w'=>e=.returned (.tuple #[])∧(Lib.BuilderAt 62 5 B b (.pointer (some ⟨b,0,none⟩)) [] w'∧Below B w w'):=by
 have hbk1:(w.setCell ⟨b,0,none⟩ (.pointer (some ⟨b,0,none⟩))).heap[b]? =some (.cells #[.pointer (some ⟨b,0,none⟩),.slice none 0 0] 62 (0,0)):=by
  simp[World.setCell,Array.getElem?_modify,hbk]
 have c1:(w.setCell ⟨b,0,none⟩ (.pointer (some ⟨b,0,none⟩))).cell? ⟨b,1,none⟩=some (.slice none 0 0):=by rw[Lib.cell_of_heap hbk1];rfl
 have hb1:Below B w (w.setCell ⟨b,0,none⟩ (.pointer (some ⟨b,0,none⟩))):=(Below.refl B w).setCell (p:=⟨b,0,none⟩) hB _
 have hG:Calls prog 41 #[.pointer (some ⟨b,0,none⟩),V I n] (w.setCell ⟨b,0,none⟩ (.pointer (some ⟨b,0,none⟩))).drew fun e w'=>e=.returned (.tuple #[])∧(Lib.BuilderAt 62 5 B b (.pointer (some ⟨b,0,none⟩)) [] w'∧Below B (w.setCell ⟨b,0,none⟩ (.pointer (some ⟨b,0,none⟩))).drew w'):=
  Any.Builder_grow_fresh Tryd.lays241 Bui.x241 B b n (w.setCell ⟨b,0,none⟩ (.pointer (some ⟨b,0,none⟩))).drew hB hbk1 (by simpa[World.setCell,World.drew,-World.drew_eq]using hBw) hn
 have HG:=C hG
 clear hG
 have hU:Lib.BuilderAt 62 5 B b (.pointer (some ⟨b,0,none⟩)) [] (w.setCell ⟨b,0,none⟩ (.pointer (some ⟨b,0,none⟩))):=⟨hB,.slice none 0 0,hbk1,World.ownsRow_nil _ _ _ _,by simp[Value.ownBlock]⟩
 have HU:=C hU
 have hcc:=C (Bui_copyCheck_new b w (by rw[Lib.cell_of_heap hbk];rfl) (by simp[World.shape?,hbk]) (Lib.frozen_of_heap hbk 0))
 clear hU hbk hbk1
 go_enter func26,ntmps26
 have c1':(w.setCell ⟨b,0,none⟩ (.pointer (some ⟨b,0,none⟩))).drew.cell? ⟨b,1,none⟩=some (.slice none 0 0):=c1
 go_wp2_with (go_at_call 40;refine hcc.out.mono ?_;rintro e w' ⟨rfl,rfl⟩)
 go_region
 all_goals go_wp2_with (go_at_call 41;refine HG.out.mono ?_;rintro e w' ⟨rfl,h1,h2⟩)
 all_goals first
  |(go_end0;exact⟨rfl,h1,hb1.drew.trans h2⟩)
  |(go_end0;exact⟨rfl,HU.out.drew,hb1.drew⟩)
theorem join_length_one (c:UInt8) (x:List UInt8) (r:List (List UInt8)):(Lib.join (x::r) [c]).length=r.length+Lib.lens (x::r):=by
 rw[Lib.join_length];simp
def strings_Join.f (l0:List ByteArray) (a1:ByteArray):Option (ByteArray):=if a1=⟨#[32]⟩ then(if l0.length≤1000000 then(if Lib.lens (l0.map (·.data.toList))≤1000000 then some ⟨(Lib.join (l0.map (·.data.toList)) [32]).toArray⟩ else none) else none) else none
theorem strings_Join.many (A0:Option Addr) (c0:Nat) (xs:List ByteArray) (w:World) (hr0:Kd.C Kd.string w A0 xs.length xs) (hc0:xs.length≤c0) (h2:2≤xs.length) (hN:xs.length≤1000000) (hL:Lib.lens (xs.map (·.data.toList))≤1000000):
 Calls prog 17 #[.slice A0 xs.length c0,.string ⟨#[32]⟩] w fun e w'=>e=.returned (.string ⟨(Lib.join (xs.map (·.data.toList)) [32]).toArray⟩)∧Below w.heap.size w w':=by
 obtain⟨⟨bk,o,ro⟩,rfl,hz⟩:=Kd.at_string hr0 0 (by omega) (by omega)
 obtain rfl:ro=none:=by cases ro with|none=>rfl|some _=>(simp only[World.cell?,Addr.add]at hz;split at hz<;>simp at hz)
 have hbk:bk<w.heap.size:=World.block_lt_of_cell? w _ hz
 have hcells:∀(j:Nat) x,xs[j]? =some x→w.cell? ⟨bk,o+j,none⟩=some (.string x):=by
  intro j x hj
  have hl:j<xs.length:=(List.getElem?_eq_some_iff.1 hj).1
  obtain⟨ad,ead,hx⟩:=Kd.at_string hr0 (j:Int) (by omega) (by omega)
  cases ead
  have e:rdOf ByteArray.empty xs (j:Int)=x:=by simp[rdOf,List.getD,hj]
  rw[e]at hx
  rcases j with _|j<;>simpa[Addr.add]using hx
 have HC:=C hcells
 have HC1:=C hc0
 clear hcells hr0 hz
 obtain⟨x0,r,hxs⟩:∃x0 r,xs=x0::r:=by
  cases xs with
  |nil=>simp at h2
  |cons a t=>exact⟨a,t,rfl⟩
 have hJ:(Lib.join (xs.map (·.data.toList)) [32]).length=(xs.length - 1)+Lib.lens (xs.map (·.data.toList)):=by
  rw[hxs]
  simp only[List.map_cons,join_length_one,List.length_map,List.length_cons,Nat.add_sub_cancel]
 have hrl:r.length=xs.length - 1:=by rw[hxs];simp
 obtain⟨M,hM⟩:∃M,M=xs.length - 1:=⟨_,rfl⟩
 have hcast:((xs.length:Int) - 1)=(M:Int):=by omega
 have hdv:(1:Int)<9223372036854775807 / ((xs.length:Int) - 1):=by
  rw[hcast]
  have:(2:Int)≤9223372036854775807 / (M:Int):=Int.le_ediv_of_mul_le (by omega) (by omega)
  omega
 have hdv':¬(9223372036854775807 / ((xs.length:Int) - 1)≤1):=by omega
 have hdv2:(1:Int)<9223372036854775807 / ((xs.length - 1:Nat):Int):=by
  rw[show((xs.length - 1:Nat):Int)=(xs.length:Int) - 1 by omega];exact hdv
 have hdv2':¬(9223372036854775807 / ((xs.length - 1:Nat):Int)≤1):=by omega
 have hprod:wrap64 ((1:Int) * ((xs.length:Int) - 1))=(M:Int):=by
  rw[hcast,Int.one_mul]
  exact IntWalk.wrap64_in _ ⟨by omega,by omega⟩
 have hne0:((xs.length:Int)==0)=false:=beq_eq_false_iff_ne.2 (by omega)
 have hne1:((xs.length:Int)==1)=false:=beq_eq_false_iff_ne.2 (by omega)
 have Hxs:=C hxs
 have HJ:=C hJ
 clear hxs hJ
 go_enter func17,ntmps17
 go_wp2_with fail
 all_goals (
  go_loop [5,41] (fun n i=>∃k:Nat,k≤xs.length∧i=V I k∧n=V I ((M+Lib.lens ((xs.map (·.data.toList)).take k):Nat):Int)) (fun _ i=>xs.length - (intOf i).toNat)
  case atStart=>exact⟨0,Nat.zero_le _,rfl,by first|(simp[Lib.lens];done)|(simp[Lib.lens];omega)⟩
  case round=>
   obtain⟨k,hk,rfl,rfl⟩:=hrel
   by_cases hkn:k<xs.length
   ·obtain⟨x,hx⟩:∃x,xs[k]? =some x:=⟨xs[k],List.getElem?_eq_getElem hkn⟩
    have hc:=HC.out k x hx
    have hstep:=Lib.lens_take_succ (xs.map (·.data.toList)) k x.data.toList (by simp[hx])
    have hbound:Lib.lens ((xs.map (·.data.toList)).take (k+1))≤Lib.lens (xs.map (·.data.toList)):=Lib.lens_take_le _ _
    rw[←Lib.size_eq]at hstep
    generalize hA1:Lib.lens ((xs.map (·.data.toList)).take (k+1))=A1 at hstep hbound
    generalize Lib.lens ((xs.map (·.data.toList)).take k)=A0 at hstep
    have HA1:=C hA1
    clear hA1
    go_wp2
    exact⟨⟨k+1,by omega,by go_num,by rw[HA1.out];refine congrArg _ ?_;omega⟩,by simp[intOf];omega⟩
   ·have hke:k=xs.length:=by omega
    subst hke
    have hall:(xs.map (·.data.toList)).take xs.length=xs.map (·.data.toList):=List.take_of_length_le (by simp)
    rw[hall]
    have hJ2:(Lib.join (xs.map (·.data.toList)) [32]).length=M+Lib.lens (xs.map (·.data.toList)):=by rw[hM];exact HJ.out
    generalize hT:Lib.lens (xs.map (·.data.toList))=T at hL hJ2
    clear hT hall
    have HJ2:=C hJ2
    clear hJ2
    go_wp2_with fail
    rw[show(((xs.length - 1:Nat):Int)+(T:Int))=((M+T:Nat):Int) by omega]
    refine(Bui_Grow w.heap.size w.heap.size (M+T) _ (Nat.le_refl _) (heap_alloc_new w _) (by simp) (by omega)).mono ?_
    rintro e w1 ⟨rfl,h1,hb1⟩
    have hb1':Below w.heap.size w w1:=((Below.refl w.heap.size w).alloc (Nat.le_refl _) _).trans hb1
    have hc0:w1.cell? ⟨bk,o,none⟩=some (.string x0):=by
     rw[hb1'.cell (p:=⟨bk,o,none⟩) hbk]
     exact HC.out 0 x0 (by rw[Hxs.out];rfl)
    have H1:=C (Or.inr (Lib.BuilderAtF.of h1):Lib.IsBuilderF 62 5 w.heap.size w.heap.size [] w1)
    have Hb1:=C hb1'
    have hBw1:w.heap.size≤w1.heap.size:=hb1'.size
    clear h1 hb1 hb1'
    have Hwhole:=C (show Lib.join (xs.map (·.data.toList)) [32]=x0.data.toList++Lib.joinTail [32] (r.map (·.data.toList)) by rw[Hxs.out,List.map_cons,Lib.join_cons])
    have HCle:=C (show ∀k,(x0.data.toList++Lib.joinTail [32] ((r.map (·.data.toList)).take k)).length≤2000000 from fun k=>by
     have h1:=HJ2.out
     rw[Hwhole.out,List.length_append]at h1
     have h2:=Lib.joinTail_take_le [32] (r.map (·.data.toList)) k
     rw[List.length_append]
     omega)
    go_wp2_with fail
    refine(Bui_WriteString w.heap.size w.heap.size [] x0 w1 H1.out (by have:=HCle.out 0;simp[Lib.joinTail]at this ⊢;omega) hBw1).mono ?_
    rintro e w2 ⟨rfl,h2',hb2⟩
    rw[show([]:List Value)++Lib.strCells x0=Lib.byteCells (x0.data.toList++Lib.joinTail [32] ((r.map (·.data.toList)).take 0)) by simp[Lib.joinTail,Lib.strCells_eq]]at h2'
    have H2:=C h2'
    have Hb2:=C (Hb1.out.trans hb2)
    clear h2' hb2
    go_wp2_with fail
    go_loopw [65] (fun i wr=>∃k:Nat,k≤r.length∧i=V I k∧D (Lib.IsBuilderF 62 5 w.heap.size w.heap.size (Lib.byteCells (x0.data.toList++Lib.joinTail [32] ((r.map (·.data.toList)).take k))) wr)∧D (Below w.heap.size w wr)) (fun i _=>r.length - (intOf i).toNat)
    case atStart=>exact⟨0,Nat.zero_le _,rfl,H2,Hb2⟩
    case round=>
     obtain⟨k,hk',rfl,HB,HW⟩:=hrel
     by_cases hkr:k<r.length
     ·obtain⟨y,hy⟩:∃y,r[k]? =some y:=⟨r[k],List.getElem?_eq_getElem hkr⟩
      have hcy:wr.cell? ⟨bk,o+1+k,none⟩=some (.string y):=by
       rw[HW.out.cell (p:=⟨bk,o+1+k,none⟩) hbk,show o+1+k=o+(k+1) by omega]
       exact HC.out (k+1) y (by rw[Hxs.out];simpa using hy)
      have hBw:w.heap.size≤wr.heap.size:=HW.out.size
      have hsep:(⟨#[32]⟩:ByteArray).data.toList= [32]:=rfl
      have Hn:=C (show Lib.byteCells (x0.data.toList++Lib.joinTail [32] ((r.map (·.data.toList)).take k))++Lib.strCells ⟨#[32]⟩++Lib.strCells y=Lib.byteCells (x0.data.toList++Lib.joinTail [32] ((r.map (·.data.toList)).take (k+1))) by
       rw[Lib.joinTail_take_succ [32] (r.map (·.data.toList)) k y.data.toList (by simp[hy]),Lib.strCells_eq,Lib.strCells_eq,hsep,←Lib.byteCells_append,←Lib.byteCells_append,List.append_assoc,List.append_assoc,List.append_assoc])
      have hl1:=HCle.out (k+1)
      rw[Lib.joinTail_take_succ [32] (r.map (·.data.toList)) k y.data.toList (by simp[hy])]at hl1
      simp only[List.length_append,←Lib.size_eq]at hl1
      have hl0:(Lib.byteCells (x0.data.toList++Lib.joinTail [32] ((r.map (·.data.toList)).take k))).length=x0.size+(Lib.joinTail [32] ((r.map (·.data.toList)).take k)).length:=by
       rw[Lib.byteCells_length,List.length_append,←Lib.size_eq]
      generalize (Lib.joinTail [32] ((r.map (·.data.toList)).take k)).length=J at hl0 hl1
      have hs1:(⟨#[32]⟩:ByteArray).size=1:=rfl
      simp only[List.length_cons,List.length_nil]at hl1
      clear hy
      go_wp2_with fail
      refine(Bui_WriteString w.heap.size w.heap.size _ ⟨#[32]⟩ wr HB.out (by rw[hl0,hs1];omega) hBw).mono ?_
      rintro e w3 ⟨rfl,h3,hb3⟩
      have hBw3:w.heap.size≤w3.heap.size:=Nat.le_trans hBw hb3.size
      have H3:=C h3
      have Hb3:=C hb3
      clear h3 hb3
      go_wp2_with fail
      refine(Bui_WriteString w.heap.size w.heap.size _ y w3 H3.out (by rw[List.length_append,hl0,Lib.strCells_length,hs1];omega) hBw3).mono ?_
      rintro e w4 ⟨rfl,h4,hb4⟩
      rw[Hn.out]at h4
      have H4:=C h4
      have Hb4:=C ((HW.out.trans Hb3.out).trans hb4)
      clear h4 hb4
      go_wp2
      exact⟨⟨k+1,by omega,by go_num,H4,Hb4⟩,by simp[intOf];omega⟩
     ·have hke:k=r.length:=by omega
      subst hke
      have hB':=HB.out
      rw[show(r.map (·.data.toList)).take r.length=r.map (·.data.toList) from List.take_of_length_le (by simp),←Hwhole.out]at hB'
      have hBw:w.heap.size≤wr.heap.size:=HW.out.size
      have HS:=C (show Calls prog 28 #[.pointer (some ⟨w.heap.size,0,none⟩)] wr fun e w'=>e=.returned (.string ⟨(Lib.join (xs.map (·.data.toList)) [32]).toArray⟩)∧(Lib.IsBuilderF 62 5 w.heap.size w.heap.size (Lib.byteCells (Lib.join (xs.map (·.data.toList)) [32])) w'∧Below w.heap.size wr w') from Any.Builder_String_any_f Tryd.lays169 Bui.x169 w.heap.size w.heap.size _ wr hB' hBw)
      clear hB'
      go_wp2_with fail
      refine HS.out.mono ?_
      rintro e w5 ⟨rfl,_,hb5⟩
      have Hb5:=C (HW.out.trans hb5)
      clear hb5
      go_wp2
      go_ret
      exact⟨rfl,Hb5.out⟩)
theorem strings_Join.W1 {p:Prop} (h:p:=by
 go_enter func17,ntmps17
 go_wp2
 go_ret
 first
  |(exact⟨rfl,Below.refl _ _⟩)
  |(exact⟨by simp[Lib.join_one],Below.refl _ _⟩)):p:=h
theorem strings_Join.calls (A0:Option Addr) (c0:Nat) (l0:List ByteArray) (a1:ByteArray) (r:ByteArray) (w:World) (hr0:Kd.C Kd.string w A0 l0.length l0) (hc0:l0.length≤c0) (h:strings_Join.f l0 a1=some r):
 Calls prog 17 #[.slice A0 l0.length c0,.string a1] w fun e w'=>e=.returned (.string r)∧Below w.heap.size w w':=by
 unfold strings_Join.f at h
 by_cases c1:a1=⟨#[32]⟩
 rotate_left
 ·rw[if_neg c1]at h;cases h
 rw[if_pos c1]at h
 by_cases c2:l0.length≤1000000
 rotate_left
 ·rw[if_neg c2]at h;cases h
 rw[if_pos c2]at h
 by_cases c3:Lib.lens (l0.map (·.data.toList))≤1000000
 rotate_left
 ·rw[if_neg c3]at h;cases h
 rw[if_pos c3]at h
 obtain rfl:=Option.some.inj h
 subst c1
 rcases l0 with _|⟨x,_|⟨y,t⟩⟩
 ·exact strings_Join.W1
 ·obtain⟨ad,rfl,hx⟩:=Kd.at_string hr0 0 (by simp) (by simp)
  have hx1:w.cell? ad=some (.string x):=by
   have e:(ad.add (0:Int).toNat)=ad:=by cases ad;rfl
   rw[e]at hx
   exact hx
  clear hx
  have hc:=C hc0
  clear hc0
  exact strings_Join.W1
 ·exact strings_Join.many A0 c0 _ w hr0 hc0 (by simp) c2 c3
theorem zero3 (w:World):(zeroValue 3).run prog w=.ok (V I 0) w:=by kernel_rfl
abbrev impl_ParseAct.KS:List Km.E:= [([114,101,108,101,97,115,101],5),([102,105,110,105,115,104],4),([108,105,110,101],3),([116,97,107,101],2),([97,100,100],1)]
def impl_ParseAct.l0 (k:Nat):List ByteArray→Nat→Int→Int→Int→Option (Option (Int×Int×Int))
  | [],_,a,b,c=>some (some (a,b,c))
  |f::fs,i,a,b,c=>(impl_ParseUint.f k f).bind fun p=>if p.2=true then impl_ParseAct.l0 k fs (i+1) (if i=0 then p.1 else a) (if i=1 then p.1 else b) (if i=2 then p.1 else c) else some none
def impl_ParseAct.f (k:Nat) (a0:ByteArray):Option (Int×Int×Int×Int×Bool):=
  (impl_SplitFields.f k a0).bind fun p=>if p.2=true then(match p.1 with
    | []=>some (0,0,0,0,false)
    |f0::rs=>if rs.length≤3 then(if f0.size≤9223372036854775807 then(impl_ParseAct.l0 k rs 0 0 0 0).bind fun q=>(match q with
      |none=>some (0,0,0,0,false)
      |some z=>(impl_FormatAct.f k (Km.look impl_ParseAct.KS f0.data.toList) z.1 z.2.1 z.2.2).bind fun t=>if t.2=true then(strings_Join.f (f0::rs) ⟨#[32]⟩).bind fun j=>(if t.1.toList=j.toList then some (Km.look impl_ParseAct.KS f0.data.toList,z.1,z.2.1,z.2.2,true) else some (0,0,0,0,false)) else some (0,0,0,0,false)) else none) else some (0,0,0,0,false))
  else some (0,0,0,0,false)
theorem impl_ParseAct.calls (k:Nat) (a0:ByteArray) (r1:Int) (r2:Int) (r3:Int) (r4:Int) (r5:Bool) (w:World) (h:impl_ParseAct.f k a0=some (r1,r2,r3,r4,r5)) (hTab:Ito.Tab w):
 Calls prog 6 #[.string a0] w fun e w'=>e=.returned (.tuple #[.agg #[V I r1,V I r2,V I r3,V I r4],.bool r5])∧Below w.heap.size w w':=by
 replace hTab:=C hTab
 have hu1:=underlying23
 have HB:=C (Below.refl w.heap.size w)
 have H:=h
 unfold impl_ParseAct.f at H
 clear h
 obtain⟨⟨t1,t2⟩,A1,H⟩:=bnd H
 dsimp only at H
 have HC1:=C H
 clear H
 have hmm:= @run_makeMap prog
 go_enter func6,ntmps6
 go_upto_region 2 with(first|((with_reducible refine gate_dst (N:=2) rfl ?_);(try(refine gate_guard (by rfl) ?_;dsimp only));refine Fix.be 2 #[V I 0,V I 0,V I 0,V I 0] 23 ?_;intro gb1 hg w1 BK1 hb;have GW1:=gE (w:=w) hg;replace HB:=eB hb;clear hb hg)|((with_reducible refine F (f:=15) rfl ?_);refine gl 15 (some 16) func15 #[.string a0] ?_;(with_reducible refine(impl_SplitFields.calls k a0 t1 t2 _ A1.out (Ito.on hTab.out (uB))).mono ?_);rintro e w2 ⟨v1,rfl,ho1,hb⟩;refine⟨_,rfl,?_⟩;have HO1:=lR ho1;replace BK1:=eK BK1 hb;replace HB:=eB hb;clear hb ho1))
 (try simp only[Act.put,List.setIfInBounds_toArray,List.set_cons_zero,List.set_cons_succ])
 obtain⟨Ao1,co1,eo1⟩:=Kd.R_slice HO1.out
 subst eo1
 have H:=HC1.out
 clear HC1
 cases t2 with
 |false=>
  rw[if_neg Bool.false_ne_true]at H
  simp only[Option.some.injEq,Prod.mk.injEq]at H
  obtain⟨rfl,rfl,rfl,rfl,rfl⟩:=H
  obtain⟨_,_,_,_,_,_,_,_⟩:=d4 BK1.out
  go_wp2
  refine bodyPost_ret (results_ct rfl _ _ gb1 23 #[V I 0,V I 0,V I 0,V I 0] (0,0) _ rfl (bK BK1.out) underlying23 rfl (by kernel_rfl)) rfl ?_
  exact⟨rE,uB⟩
 |true=>
  rw[if_pos rfl]at H
  rcases(show t1= []∨ ∃f1 rs,t1=f1::rs by cases t1 with|nil=>exact .inl rfl|cons x y=>exact .inr ⟨x,y,rfl⟩) with ht|⟨f1,rs,ht⟩
  ·subst ht
   dsimp only at H
   simp only[Option.some.injEq,Prod.mk.injEq]at H
   obtain⟨rfl,rfl,rfl,rfl,rfl⟩:=H
   obtain⟨_,_,_,_,_,_,_,_⟩:=d4 BK1.out
   go_wp2
   refine bodyPost_ret (results_ct rfl _ _ gb1 23 #[V I 0,V I 0,V I 0,V I 0] (0,0) _ rfl (bK BK1.out) underlying23 rfl (by kernel_rfl)) rfl ?_
   exact⟨rE,uB⟩
  ·rw[ht]at H
   dsimp only at H
   have c1:((t1.length:Int)==0)=false:=beq_eq_false_iff_ne.mpr (by rw[ht];simp only[List.length_cons];omega)
   have c0b:(t1.length==0)=false:=beq_eq_false_iff_ne.mpr (by rw[ht];simp only[List.length_cons];omega)
   have hrl:rs.length+1=t1.length:=by rw[ht];rfl
   have HT1:=C ht
   clear ht
   by_cases c2:rs.length≤3
   rotate_left
   ·rw[if_neg c2]at H
    have c2b0:decide (4<(t1.length:Int))=true:=decide_eq_true (by omega)
    have c2b1:decide (4<t1.length)=true:=decide_eq_true (by omega)
    simp only[Option.some.injEq,Prod.mk.injEq]at H
    obtain⟨rfl,rfl,rfl,rfl,rfl⟩:=H
    obtain⟨_,_,_,_,_,_,_,_⟩:=d4 BK1.out
    go_wp2
    refine bodyPost_ret (results_ct rfl _ _ gb1 23 #[V I 0,V I 0,V I 0,V I 0] (0,0) _ rfl (bK BK1.out) underlying23 rfl (by kernel_rfl)) rfl ?_
    exact⟨rE,uB⟩
   rw[if_pos c2]at H
   have c2b0:decide (4<(t1.length:Int))=false:=decide_eq_false (by omega)
   have c2b1:decide (4<t1.length)=false:=decide_eq_false (by omega)
   by_cases c3:f1.size≤9223372036854775807
   rotate_left
   ·rw[if_neg c3]at H;exact absurd H (by simp)
   rw[if_pos c3]at H
   have HS1:=C c3
   obtain⟨kd,hkd⟩:∃z:Int,Km.look impl_ParseAct.KS f1.data.toList=z:=⟨_,rfl⟩
   rw[hkd]at H
   have HKD:=C hkd
   clear hkd
   obtain⟨q,A2,H⟩:=bnd H
   have HC2:=C H
   clear H
   have q1:0<(t1.length:Int):=by omega
   obtain⟨ad1,e1,hx1_0⟩:=Kd.at_string (Kd.R_reads' HO1.out).2.2 0 (Int.le_refl 0) q1
   cases e1
   have e2:rdOf ByteArray.empty t1 0=f1:=by rw[HT1.out];rfl
   have qi1:(0<t1.length)=True:=eq_true (by omega)
   rw[show((0:Int)).toNat=0 from rfl,Addr.add_zero',e2]at hx1_0
   have HX1:=C hx1_0
   have HRL:=C hrl
   replace c2:=C c2
   replace q1:=eq_true q1
   clear hx1_0
   go_wp2_with (first|((with_reducible refine Km.gate ⟨#[97,100,100]⟩ rfl ?_);refine Km.put rfl rfl underlying49 underlying9 underlying3 (F:= []) rfl (World.ownsMap_made _ _ _ _) (by decide) ⟨#[97,100,100]⟩ 1 rfl rfl (by decide) (by decide) ?_;intro wm ho hg;have n0_:=C ho;have n1_:=C (pw_below_grown (below_alloc (Below.refl _ _) _) _ (below_size (below_alloc (Below.refl _ _) _)) hg (fun k_ hk_=>by cases hk_;exact Nat.le_refl _));clear ho hg;have HM:=n0_;have HN:=n1_;clear n0_ n1_)|((with_reducible refine Km.gate ⟨#[116,97,107,101]⟩ rfl ?_);refine Km.put rfl rfl underlying49 underlying9 underlying3 rfl HM.out (by decide) ⟨#[116,97,107,101]⟩ 2 rfl rfl (by decide) (by decide) ?_;intro wm ho hg;have n0_:=C ho;have n1_:=C (pw_below_grown HN.out _ (below_size HN.out) hg (fun k_ hk_=>by cases hk_;exact Nat.le_refl _));clear ho hg;clear HM HN;have HM:=n0_;have HN:=n1_;clear n0_ n1_)|((with_reducible refine Km.gate ⟨#[108,105,110,101]⟩ rfl ?_);refine Km.put rfl rfl underlying49 underlying9 underlying3 rfl HM.out (by decide) ⟨#[108,105,110,101]⟩ 3 rfl rfl (by decide) (by decide) ?_;intro wm ho hg;have n0_:=C ho;have n1_:=C (pw_below_grown HN.out _ (below_size HN.out) hg (fun k_ hk_=>by cases hk_;exact Nat.le_refl _));clear ho hg;clear HM HN;have HM:=n0_;have HN:=n1_;clear n0_ n1_)|((with_reducible refine Km.gate ⟨#[102,105,110,105,115,104]⟩ rfl ?_);refine Km.put rfl rfl underlying49 underlying9 underlying3 rfl HM.out (by decide) ⟨#[102,105,110,105,115,104]⟩ 4 rfl rfl (by decide) (by decide) ?_;intro wm ho hg;have n0_:=C ho;have n1_:=C (pw_below_grown HN.out _ (below_size HN.out) hg (fun k_ hk_=>by cases hk_;exact Nat.le_refl _));clear ho hg;clear HM HN;have HM:=n0_;have HN:=n1_;clear n0_ n1_)|((with_reducible refine Km.gate ⟨#[114,101,108,101,97,115,101]⟩ rfl ?_);refine Km.put rfl rfl underlying49 underlying9 underlying3 rfl HM.out (by decide) ⟨#[114,101,108,101,97,115,101]⟩ 5 rfl rfl (by decide) (by decide) ?_;intro wm ho hg;have n0_:=C ho;have n1_:=C (pw_below_grown HN.out _ (below_size HN.out) hg (fun k_ hk_=>by cases hk_;exact Nat.le_refl _));clear ho hg;clear HM HN;have HM:=n0_;have HN:=n1_;clear n0_ n1_;have hb:=HN.out;replace HO1:=eR HO1 hb;replace BK1:=eK BK1 hb;replace HB:=eB hb;have hx1_1:=pw_cell_below hb HX1.out;clear HN hb)|(at_lookup;(try(refine gate_guard (by rfl) ?_;dsimp only));refine Km.lookup rfl rfl underlying49 underlying9 underlying3 (zero3 _) rfl HM.out f1 rfl (by have:=HS1.out;unfold maxLen;omega) kd HKD.out ?_;clear HM)|((with_reducible refine gate_dst (N:=7) rfl ?_);refine Fix.be 7 #[V I 0,V I 0,V I 0,V I 0] 23 ?_;intro gb2 hg wb BK2 hb;have GW2:=gE (w:=w) hg;have NB1:=nL hg BK1;have NB2:=nG hg BK1;replace HO1:=eR HO1 hb;replace BK1:=eK BK1 hb;replace HB:=eB hb;clear hb hg;have:=NB1.out;have:=NB2.out;obtain⟨_,_,_,_,_,_,_,_⟩:=d4 BK2.out))
   all_goals (
    go_loopg [43] 4 (fun kq v43 w'=>∃(j:Nat) (x1 x2 x3:Int),v43=V I (j:Int)∧D (j≤rs.length)∧D (kq+j=4)∧D (impl_ParseAct.l0 k (rs.drop j) j x1 x2 x3=some q)∧D (Kd.R Kd.string 9 w' w.heap.size (fun _=>True) (.slice (some ad1) t1.length co1) t1)∧D (w'.heap[gb1]? =some (.cells #[V I 0,V I 0,V I 0,V I 0] 23 (0,0)))∧D (w'.heap[gb2]? =some (.cells #[V I kd,V I x1,V I x2,V I x3] 23 (0,0)))∧D (Below w.heap.size w w'))
    case atStart=>exact⟨0,0,0,0,rS,⟨Nat.zero_le _⟩,⟨rfl⟩,A2,⟨Kd.R_mono (fR (Kd.R_types HO1.out BK2.out (by decide))) (fun _ h_=>h_.1)⟩,⟨bK BK1.out⟩,⟨bK BK2.out⟩,⟨uB⟩⟩
    case round=>
     obtain⟨j,x1,x2,x3,rfl,HJ1,HJ2,HA,HO1,BK1,BK2,HB⟩:=hrel
     have hc1:=c2.out
     have hrl:=HRL.out
     have hj1:=HJ1.out
     by_cases cj:j<rs.length
     ·have hco:=(Kd.R_reads' HO1.out).2.1
      first
       |(exfalso;omega)
       |(
        have HA':=HA.out
        rw[List.drop_eq_getElem_cons cj]at HA'
        simp only[impl_ParseAct.l0]at HA'
        obtain⟨⟨p1,p2⟩,A3,H⟩:=bnd HA'
        dsimp only at H
        obtain⟨ad2,e3,hx2⟩:=Kd.at_string (Kd.R_reads' HO1.out).2.2 (j+1) (by omega) (by omega)
        cases e3
        rw[show((j:Int)+1).toNat=j+1 by omega,show rdOf ByteArray.empty t1 ((j:Int)+1)=rs[j] by rw[HT1.out];simp[rdOf,List.getD,show((j:Int)+1).toNat=j+1 by omega,List.getElem?_eq_getElem cj]]at hx2
        have hx3:wr.cell? ⟨ad1.block,ad1.off+1+j,none⟩=some (.string rs[j]):=by
         have h1:=hx2
         simp only[Addr.add,Nat.add_eq_zero_iff,Nat.one_ne_zero,and_false,if_false]at h1
         rw[Nat.add_assoc,Nat.add_comm 1 j]
         exact h1
        clear hx2
        have hlt:decide ((j:Int)<((t1.length - 1:Nat):Int))=true:=decide_eq_true (by omega)
        have hlt1:decide (j<t1.length - 1)=true:=decide_eq_true (by omega)
        obtain⟨y,hy⟩:∃y,y=rs[j]:=⟨_,rfl⟩
        rw[←hy]at hx3 A3
        clear hy
        cases p2 with
        |false=>
         rw[if_neg Bool.false_ne_true]at H
         obtain rfl:=si H
         have H:=HC2.out
         dsimp only at H
         simp only[Option.some.injEq,Prod.mk.injEq]at H
         obtain⟨rfl,rfl,rfl,rfl,rfl⟩:=H
         go_wp2_with (first|((with_reducible refine F (f:=16) rfl ?_);refine gl 16 (some 50) func16 #[.string y] ?_;(with_reducible refine(impl_ParseUint.calls k y p1 false _ A3.out (Ito.on hTab.out (uB))).mono ?_);rintro e w2 ⟨rfl,hb⟩;refine⟨_,rfl,?_⟩;replace HO1:=eR HO1 hb;replace BK1:=eK BK1 hb;replace BK2:=eK BK2 hb;replace HB:=eB hb;clear hb;obtain⟨_,_,_,_,_,_,_,_⟩:=d4 BK1.out))
         refine bodyPost_ret (results_ct rfl _ _ gb1 23 #[V I 0,V I 0,V I 0,V I 0] (0,0) _ rfl (bK BK1.out) underlying23 rfl (by kernel_rfl)) rfl ?_
         exact⟨rE,uB⟩
        |true=>
         rw[if_pos rfl]at H
         have HA1:=C H
         clear H HA HA'
         rcases(show j=0∨j=1∨j=2 by omega) with hj|hj|hj
         ·subst hj
          have hx4:wr.cell? ⟨ad1.block,ad1.off+1,none⟩=some (.string y):=hx3
          go_wp2_with (first|((with_reducible refine F (f:=16) rfl ?_);refine gl 16 (some 50) func16 #[.string y] ?_;(with_reducible refine(impl_ParseUint.calls k y p1 true _ A3.out (Ito.on hTab.out (uB))).mono ?_);rintro e w2 ⟨rfl,hb⟩;refine⟨_,rfl,?_⟩;replace HO1:=eR HO1 hb;replace BK1:=eK BK1 hb;replace BK2:=eK BK2 hb;replace HB:=eB hb;clear hb)|((with_reducible refine gate_dst (N:=59) rfl ?_);refine Km.lit (cs:= #[.pointer (some ⟨gb2,1,none⟩),.pointer (some ⟨gb2,2,none⟩),.pointer (some ⟨gb2,3,none⟩)]) (n:=3) (t:=50) rfl ?hr ?_;(case hr=>exact Fix.hr);intro gb3 hg w3 BK3 hb;replace HO1:=eR HO1 hb;replace BK1:=eK BK1 hb;replace BK2:=eK BK2 hb;replace HB:=eB hb;clear hb hg;have hp:=Fix.cellAt (i:=0) ⟨BK3⟩ rfl;obtain⟨_,_,_,_,_,_,_,_⟩:=d4 BK2.out))
          rcases gk with _|gk1
          ·exfalso;have:=HJ2.out;omega
          go_roundg gk1
          case measure=>omega
          case rel=>exact⟨1,p1,x2,x3,rS,⟨by omega⟩,⟨by have:=HJ2.out;omega⟩,HA1,⟨Kd.R_mono (fR (Kd.R_types HO1.out BK2.out (by decide))) (fun _ h_=>h_.1)⟩,⟨bK BK1.out⟩,⟨bK BK2.out⟩,⟨uB⟩⟩
         ·subst hj
          have hx4:wr.cell? ⟨ad1.block,ad1.off+2,none⟩=some (.string y):=hx3
          go_wp2_with (first|((with_reducible refine F (f:=16) rfl ?_);refine gl 16 (some 50) func16 #[.string y] ?_;(with_reducible refine(impl_ParseUint.calls k y p1 true _ A3.out (Ito.on hTab.out (uB))).mono ?_);rintro e w2 ⟨rfl,hb⟩;refine⟨_,rfl,?_⟩;replace HO1:=eR HO1 hb;replace BK1:=eK BK1 hb;replace BK2:=eK BK2 hb;replace HB:=eB hb;clear hb)|((with_reducible refine gate_dst (N:=59) rfl ?_);refine Km.lit (cs:= #[.pointer (some ⟨gb2,1,none⟩),.pointer (some ⟨gb2,2,none⟩),.pointer (some ⟨gb2,3,none⟩)]) (n:=3) (t:=50) rfl ?hr ?_;(case hr=>exact Fix.hr);intro gb3 hg w3 BK3 hb;replace HO1:=eR HO1 hb;replace BK1:=eK BK1 hb;replace BK2:=eK BK2 hb;replace HB:=eB hb;clear hb hg;have hp:=Fix.cellAt (i:=1) ⟨BK3⟩ rfl;obtain⟨_,_,_,_,_,_,_,_⟩:=d4 BK2.out))
          rcases gk with _|gk1
          ·exfalso;have:=HJ2.out;omega
          go_roundg gk1
          case measure=>omega
          case rel=>exact⟨2,x1,p1,x3,rS,⟨by omega⟩,⟨by have:=HJ2.out;omega⟩,HA1,⟨Kd.R_mono (fR (Kd.R_types HO1.out BK2.out (by decide))) (fun _ h_=>h_.1)⟩,⟨bK BK1.out⟩,⟨bK BK2.out⟩,⟨uB⟩⟩
         ·subst hj
          have hx4:wr.cell? ⟨ad1.block,ad1.off+3,none⟩=some (.string y):=hx3
          go_wp2_with (first|((with_reducible refine F (f:=16) rfl ?_);refine gl 16 (some 50) func16 #[.string y] ?_;(with_reducible refine(impl_ParseUint.calls k y p1 true _ A3.out (Ito.on hTab.out (uB))).mono ?_);rintro e w2 ⟨rfl,hb⟩;refine⟨_,rfl,?_⟩;replace HO1:=eR HO1 hb;replace BK1:=eK BK1 hb;replace BK2:=eK BK2 hb;replace HB:=eB hb;clear hb)|((with_reducible refine gate_dst (N:=59) rfl ?_);refine Km.lit (cs:= #[.pointer (some ⟨gb2,1,none⟩),.pointer (some ⟨gb2,2,none⟩),.pointer (some ⟨gb2,3,none⟩)]) (n:=3) (t:=50) rfl ?hr ?_;(case hr=>exact Fix.hr);intro gb3 hg w3 BK3 hb;replace HO1:=eR HO1 hb;replace BK1:=eK BK1 hb;replace BK2:=eK BK2 hb;replace HB:=eB hb;clear hb hg;have hp:=Fix.cellAt (i:=2) ⟨BK3⟩ rfl;obtain⟨_,_,_,_,_,_,_,_⟩:=d4 BK2.out))
          rcases gk with _|gk1
          ·exfalso;have:=HJ2.out;omega
          go_roundg gk1
          case measure=>omega
          case rel=>exact⟨3,x1,x2,p1,rS,⟨by omega⟩,⟨by have:=HJ2.out;omega⟩,HA1,⟨Kd.R_mono (fR (Kd.R_types HO1.out BK2.out (by decide))) (fun _ h_=>h_.1)⟩,⟨bK BK1.out⟩,⟨bK BK2.out⟩,⟨uB⟩⟩
       )
     ·have hjl:j=rs.length:=by omega
      have hA:=HA.out
      rw[hjl,List.drop_length]at hA
      simp only[impl_ParseAct.l0]at hA
      obtain rfl:=Option.some.inj hA
      clear hA HA
      have H:=HC2.out
      dsimp only at H
      obtain⟨⟨u1,u2⟩,A3,H⟩:=bnd H
      dsimp only at H
      have hlt:decide ((j:Int)<((t1.length - 1:Nat):Int))=false:=decide_eq_false (by omega)
      have hlt1:decide (j<t1.length - 1)=false:=decide_eq_false (by omega)
      cases u2 with
      |false=>
       rw[if_neg Bool.false_ne_true]at H
       simp only[Option.some.injEq,Prod.mk.injEq]at H
       obtain⟨rfl,rfl,rfl,rfl,rfl⟩:=H
       obtain⟨_,_,_,_,_,_,_,_⟩:=d4 BK2.out
       go_wp2_with (first|((with_reducible refine F (f:=10) rfl ?_);refine gl 10 (some 68) func10 #[.agg #[V I kd,V I x1,V I x2,V I x3]] ?_;(with_reducible refine(impl_FormatAct.calls k kd x1 x2 x3 u1 false _ A3.out (Ito.on hTab.out (uB))).mono ?_);rintro e w2 ⟨rfl,hb⟩;refine⟨_,rfl,?_⟩;replace HO1:=eR HO1 hb;replace BK1:=eK BK1 hb;replace BK2:=eK BK2 hb;replace HB:=eB hb;clear hb;obtain⟨_,_,_,_,_,_,_,_⟩:=d4 BK2.out;obtain⟨_,_,_,_,_,_,_,_⟩:=d4 BK1.out))
       refine bodyPost_ret (results_ct rfl _ _ gb1 23 #[V I 0,V I 0,V I 0,V I 0] (0,0) _ rfl (bK BK1.out) underlying23 rfl (by kernel_rfl)) rfl ?_
       exact⟨rE,uB⟩
      |true=>
       rw[if_pos rfl]at H
       obtain⟨u3,A4,H⟩:=bnd H
       rw[←HT1.out]at A4
       by_cases c4:u1.toList=u3.toList
       rotate_left
       ·rw[if_neg c4]at H
        simp only[Option.some.injEq,Prod.mk.injEq]at H
        obtain⟨rfl,rfl,rfl,rfl,rfl⟩:=H
        have c4b0:(u1.toList==u3.toList)=false:=beq_eq_false_iff_ne.mpr c4
        have c4b1:(u1.toList !=u3.toList)=true:=bne_iff_ne.mpr c4
        clear c4
        obtain⟨_,_,_,_,_,_,_,_⟩:=d4 BK2.out
        go_wp2_with (first|((with_reducible refine F (f:=10) rfl ?_);refine gl 10 (some 68) func10 #[.agg #[V I kd,V I x1,V I x2,V I x3]] ?_;(with_reducible refine(impl_FormatAct.calls k kd x1 x2 x3 u1 true _ A3.out (Ito.on hTab.out (uB))).mono ?_);rintro e w2 ⟨rfl,hb⟩;refine⟨_,rfl,?_⟩;replace HO1:=eR HO1 hb;replace BK1:=eK BK1 hb;replace BK2:=eK BK2 hb;replace HB:=eB hb;clear hb;obtain⟨_,_,_,_,_,_,_,_⟩:=d4 BK2.out;obtain⟨_,_,_,_,_,_,_,_⟩:=d4 BK1.out)|(go_at_call 17;(with_reducible refine(strings_Join.calls (some ad1) _ t1 ⟨#[32]⟩ u3 _ (uC (Kd.R_reads' HO1.out).2.2) (by have:=(Kd.R_reads' HO1.out).2.1;omega) A4.out).mono ?_);rintro e w3 ⟨rfl,hb⟩;replace BK1:=eK BK1 hb;replace BK2:=eK BK2 hb;replace HB:=eB hb;clear hb;obtain⟨_,_,_,_,_,_,_,_⟩:=d4 BK2.out;obtain⟨_,_,_,_,_,_,_,_⟩:=d4 BK1.out))
        refine bodyPost_ret (results_ct rfl _ _ gb1 23 #[V I 0,V I 0,V I 0,V I 0] (0,0) _ rfl (bK BK1.out) underlying23 rfl (by kernel_rfl)) rfl ?_
        exact⟨rE,uB⟩
       rw[if_pos c4]at H
       simp only[Option.some.injEq,Prod.mk.injEq]at H
       obtain⟨rfl,rfl,rfl,rfl,rfl⟩:=H
       have c4b0:(u1.toList==u3.toList)=true:=beq_iff_eq.mpr c4
       have c4b1:(u1.toList !=u3.toList)=false:=bne_eq_false_iff_eq.mpr c4
       clear c4
       obtain⟨_,_,_,_,_,_,_,_⟩:=d4 BK2.out
       go_wp2_with (first|((with_reducible refine F (f:=10) rfl ?_);refine gl 10 (some 68) func10 #[.agg #[V I kd,V I x1,V I x2,V I x3]] ?_;(with_reducible refine(impl_FormatAct.calls k kd x1 x2 x3 u1 true _ A3.out (Ito.on hTab.out (uB))).mono ?_);rintro e w2 ⟨rfl,hb⟩;refine⟨_,rfl,?_⟩;replace HO1:=eR HO1 hb;replace BK1:=eK BK1 hb;replace BK2:=eK BK2 hb;replace HB:=eB hb;clear hb;obtain⟨_,_,_,_,_,_,_,_⟩:=d4 BK2.out;obtain⟨_,_,_,_,_,_,_,_⟩:=d4 BK1.out)|(go_at_call 17;(with_reducible refine(strings_Join.calls (some ad1) _ t1 ⟨#[32]⟩ u3 _ (uC (Kd.R_reads' HO1.out).2.2) (by have:=(Kd.R_reads' HO1.out).2.1;omega) A4.out).mono ?_);rintro e w3 ⟨rfl,hb⟩;replace BK1:=eK BK1 hb;replace BK2:=eK BK2 hb;replace HB:=eB hb;clear hb;obtain⟨_,_,_,_,_,_,_,_⟩:=d4 BK2.out;obtain⟨_,_,_,_,_,_,_,_⟩:=d4 BK1.out))
       refine bodyPost_ret (results_ct rfl _ _ gb1 23 #[V I kd,V I x1,V I x2,V I x3] (0,0) _ rfl (bK BK1.out) underlying23 rfl (by kernel_rfl)) rfl ?_
       exact⟨rE,uB⟩
    )
def laws_eqAct.f (a0_0:Int) (a0_1:Int) (a0_2:Int) (a0_3:Int) (a1_0:Int) (a1_1:Int) (a1_2:Int) (a1_3:Int):Option (Bool):=if a0_0=a1_0 then(if a0_1=a1_1 then(if a0_2=a1_2 then(if a0_3=a1_3 then(some true) else(some false)) else(some false)) else(some false)) else(some false)
theorem laws_eqAct.W1 {p:Prop} (h:p:=by
 go_enter func7,ntmps7
 go_wp2_with (first|((with_reducible refine gate_dst (N:=2) rfl ?_);refine Fix.be 2 #[V I a0_0,V I a0_1,V I a0_2,V I a0_3] 23 ?_;intro gb1 hg w1 BK1 hb;have GW1:=gE (w:=w) hg;replace HB:=eB hb;clear hb hg)|((with_reducible refine gate_dst (N:=3) rfl ?_);refine Fix.be 3 #[V I a1_0,V I a1_1,V I a1_2,V I a1_3] 23 ?_;intro gb2 hg w2 BK2 hb;have GW2:=gE (w:=w) hg;have n0:=nL hg BK1;have n1:=nG hg BK1;replace BK1:=eK BK1 hb;replace HB:=eB hb;clear hb hg;have:=n0.out;have:=n1.out;obtain⟨_,_,_,_,_,_,_,_⟩:=d4 BK1.out;obtain⟨_,_,_,_,_,_,_,_⟩:=d4 BK2.out))
 go_ret
 exact⟨rE,uB⟩):p:=h
theorem laws_eqAct.W2 {p:Prop} (h:p:=by
 go_enter func7,ntmps7
 go_wp2_with (first|((with_reducible refine gate_dst (N:=2) rfl ?_);refine Fix.be 2 #[V I a0_0,V I a0_1,V I a0_2,V I a0_3] 23 ?_;intro gb1 hg w1 BK1 hb;have GW1:=gE (w:=w) hg;replace HB:=eB hb;clear hb hg)|((with_reducible refine gate_dst (N:=3) rfl ?_);refine Fix.be 3 #[V I a1_0,V I a1_1,V I a1_2,V I a1_3] 23 ?_;intro gb2 hg w2 BK2 hb;have GW2:=gE (w:=w) hg;have n0:=nL hg BK1;have n1:=nG hg BK1;replace BK1:=eK BK1 hb;replace HB:=eB hb;clear hb hg;have:=n0.out;have:=n1.out;obtain⟨_,_,_,_,_,_,_,_⟩:=d4 BK1.out;obtain⟨_,_,_,_,_,_,_,_⟩:=d4 BK2.out))
 go_ret
 exact⟨rE,uB⟩):p:=h
theorem laws_eqAct.calls (a0_0:Int) (a0_1:Int) (a0_2:Int) (a0_3:Int) (a1_0:Int) (a1_1:Int) (a1_2:Int) (a1_3:Int) (r:Bool) (w:World) (h:laws_eqAct.f a0_0 a0_1 a0_2 a0_3 a1_0 a1_1 a1_2 a1_3=some r):
 Calls prog 7 #[.agg #[V I a0_0,V I a0_1,V I a0_2,V I a0_3],.agg #[V I a1_0,V I a1_1,V I a1_2,V I a1_3]] w fun e w'=>e=.returned (.bool r)∧Below w.heap.size w w':=by
 have hu1:=underlying23
 have HB:=C (Below.refl w.heap.size w)
 have H:=h
 unfold laws_eqAct.f at H
 clear h
 by_cases c1:a0_0=a1_0
 rotate_left
 ·rw[if_neg c1]at H
  have c1b0:(a0_0==a1_0)=false:=beq_eq_false_iff_ne.mpr c1
  have c1b1:(a0_0 !=a1_0)=true:=bne_iff_ne.mpr c1
  obtain rfl:=si H
  exact laws_eqAct.W2
 rw[if_pos c1]at H
 have c1b0:(a0_0==a1_0)=true:=beq_iff_eq.mpr c1
 have c1b1:(a0_0 !=a1_0)=false:=bne_eq_false_iff_eq.mpr c1
 clear c1
 by_cases c2:a0_1=a1_1
 rotate_left
 ·rw[if_neg c2]at H
  have c2b0:(a0_1==a1_1)=false:=beq_eq_false_iff_ne.mpr c2
  have c2b1:(a0_1 !=a1_1)=true:=bne_iff_ne.mpr c2
  obtain rfl:=si H
  exact laws_eqAct.W2
 rw[if_pos c2]at H
 have c2b0:(a0_1==a1_1)=true:=beq_iff_eq.mpr c2
 have c2b1:(a0_1 !=a1_1)=false:=bne_eq_false_iff_eq.mpr c2
 clear c2
 by_cases c3:a0_2=a1_2
 rotate_left
 ·rw[if_neg c3]at H
  have c3b0:(a0_2==a1_2)=false:=beq_eq_false_iff_ne.mpr c3
  have c3b1:(a0_2 !=a1_2)=true:=bne_iff_ne.mpr c3
  obtain rfl:=si H
  exact laws_eqAct.W2
 rw[if_pos c3]at H
 have c3b0:(a0_2==a1_2)=true:=beq_iff_eq.mpr c3
 have c3b1:(a0_2 !=a1_2)=false:=bne_eq_false_iff_eq.mpr c3
 clear c3
 by_cases c4:a0_3=a1_3
 rotate_left
 ·rw[if_neg c4]at H
  have c4b0:(a0_3==a1_3)=false:=beq_eq_false_iff_ne.mpr c4
  have c4b1:(a0_3 !=a1_3)=true:=bne_iff_ne.mpr c4
  obtain rfl:=si H
  exact laws_eqAct.W1
 rw[if_pos c4]at H
 have c4b0:(a0_3==a1_3)=true:=beq_iff_eq.mpr c4
 have c4b1:(a0_3 !=a1_3)=false:=bne_eq_false_iff_eq.mpr c4
 clear c4
 obtain rfl:=si H
 exact laws_eqAct.W1
def laws_FnExactParseAct.f (k:Nat) (a0:ByteArray):Option (Bool):=if(a0.size:Int) >1048576 then(some true) else((spec_ParseAct.f k a0).bind fun bt224=>((impl_ParseAct.f k a0).bind fun bt230=>((laws_eqAct.f bt230.1 bt230.2.1 bt230.2.2.1 bt230.2.2.2.1 bt224.1 bt224.2.1 bt224.2.2.1 bt224.2.2.2.1).bind fun t236=>(if t236=true then(if(bt230.2.2.2.2 !=bt224.2.2.2.2)=true then(some false) else(some true)) else(some false)))))
theorem laws_FnExactParseAct.calls (k:Nat) (a0:ByteArray) (r:Bool) (w:World) (hT:r=true) (h:laws_FnExactParseAct.f k a0=some r) (hTab:Ito.Tab w):
 Calls prog 3 #[.string a0] w fun e w'=>e=.returned (.bool r)∧Below w.heap.size w w':=by
 replace hTab:=C hTab
 have hu1:=underlying23
 replace hT:=C hT
 have HB:=C (Below.refl w.heap.size w)
 have H:=h
 unfold laws_FnExactParseAct.f at H
 clear h
 by_cases c1:(a0.size:Int) >1048576
 ·rw[if_pos c1]at H
  have c1b0:decide (1048576<(a0.size:Int))=true:=decide_eq_true c1
  have c1b1:decide (1048576<a0.size)=true:=decide_eq_true (by omega)
  clear c1
  obtain rfl:=si H
  go_enter func3,ntmps3
  go_wp2
  go_ret
  exact⟨rE,uB⟩
 rw[if_neg c1]at H
 have c1b0:decide (1048576<(a0.size:Int))=false:=decide_eq_false c1
 have c1b1:decide (1048576<a0.size)=false:=decide_eq_false (by omega)
 clear c1
 obtain⟨⟨t1,t2,t3,t4,t5⟩,A1,H⟩:=bnd H
 dsimp only at H
 obtain⟨⟨t6,t7,t8,t9,t10⟩,A2,H⟩:=bnd H
 dsimp only at H
 obtain⟨t11,A3,H⟩:=bnd H
 by_cases c2:t11=true
 rotate_left
 ·obtain rfl:=nt c2
  replace H:=nf H
  exact absurd (hT.out ▸ H) (by simp)
 subst c2
 rw[if_pos rfl]at H
 by_cases c3:(t10 !=t5)=true
 ·rw[if_pos c3]at H
  have c3b0:(t10 !=t5)=true:=c3
  (try(have c3b1:decide (t10=t5)=false:=by simpa using c3))
  (try(have c3b2:(t10==t5)=false:=by simpa using c3))
  (try(have c3b3:¬(t10=t5):=by simpa using c3))
  clear c3
  exact absurd (hT.out ▸ H) (by simp)
 rw[if_neg c3]at H
 have c3b0:(t10 !=t5)=false:=by simpa using c3
 (try(have c3b1:decide (t10=t5)=true:=by simpa using c3))
 (try(have c3b2:(t10==t5)=true:=by simpa using c3))
 clear c3
 obtain rfl:=si H
 go_enter func3,ntmps3
 go_wp2_with (first|((with_reducible refine F (f:=5) rfl ?_);refine gl 5 (some 12) func5 #[.string a0] ?_;(with_reducible refine(spec_ParseAct.calls k a0 t1 t2 t3 t4 t5 _ A1.out).mono ?_);rintro e w2 ⟨rfl,hb⟩;refine⟨_,rfl,?_⟩;replace HB:=eB hb;clear hb)|((with_reducible refine gate_dst (N:=3) rfl ?_);refine Fix.be 3 #[V I 0,V I 0,V I 0,V I 0] 23 ?_;intro gb1 hg w3 BK1 hb;have GW1:=gE (w:=w) hg;replace HB:=eB hb;clear hb hg;obtain⟨_,_,_,_,_,_,_,_⟩:=d4 BK1.out)|((with_reducible refine gate_store (t:=23) (p:=3) rfl ?_);refine store_event (t:=23) (p:=3) (v:= ?vo_w1) (w1:=((((w3.setCell ⟨gb1,0,none⟩ (V I t1)).setCell ⟨gb1,1,none⟩ (V I t2)).setCell ⟨gb1,2,none⟩ (V I t3)).setCell ⟨gb1,3,none⟩ (V I t4))) ?hg ?ho ?hn ?hr ?_;(case ho=>rfl);(case hg=>rfl);(case hn=>rfl);(case hr=>exact Fix.hr);intro w4 hw;replace BK1:D (w4.heap[gb1]? =some (.cells #[V I t1,V I t2,V I t3,V I t4] 23 (0,0))):=⟨(by rw[hw];exact(bK BK1.out))⟩;replace HB:=wB hw;clear hw)|((with_reducible refine F (f:=6) rfl ?_);refine gl 6 (some 17) func6 #[.string a0] ?_;(with_reducible refine(impl_ParseAct.calls k a0 t6 t7 t8 t9 t10 _ A2.out (Ito.on hTab.out uB)).mono ?_);rintro e w5 ⟨rfl,hb⟩;refine⟨_,rfl,?_⟩;replace BK1:=eK BK1 hb;replace HB:=eB hb;clear hb)|((with_reducible refine gate_dst (N:=5) rfl ?_);refine Fix.be 5 #[V I 0,V I 0,V I 0,V I 0] 23 ?_;intro gb2 hg w6 BK2 hb;have GW2:=gE (w:=w) hg;have n0:=nL hg BK1;have n1:=nG hg BK1;replace BK1:=eK BK1 hb;replace HB:=eB hb;clear hb hg;have:=n1.out;have:=n0.out;obtain⟨_,_,_,_,_,_,_,_⟩:=d4 BK2.out)|((with_reducible refine gate_store (t:=23) (p:=5) rfl ?_);refine store_event (t:=23) (p:=5) (v:= ?vo_w2) (w1:=((((w6.setCell ⟨gb2,0,none⟩ (V I t6)).setCell ⟨gb2,1,none⟩ (V I t7)).setCell ⟨gb2,2,none⟩ (V I t8)).setCell ⟨gb2,3,none⟩ (V I t9))) ?hg ?ho ?hn ?hr ?_;(case ho=>rfl);(case hg=>rfl);(case hn=>rfl);(case hr=>exact Fix.hr);intro w7 hw;replace BK1:=wK hw BK1;replace BK2:D (w7.heap[gb2]? =some (.cells #[V I t6,V I t7,V I t8,V I t9] 23 (0,0))):=⟨(by rw[hw];exact(bK BK2.out))⟩;replace HB:=wB hw;clear hw;obtain⟨_,_,_,_,_,_,_,_⟩:=d4 BK2.out;obtain⟨_,_,_,_,_,_,_,_⟩:=d4 BK1.out)|((with_reducible refine F (f:=7) rfl ?_);refine gl 7 (some 22) func7 #[.agg #[V I t6,V I t7,V I t8,V I t9],.agg #[V I t1,V I t2,V I t3,V I t4]] ?_;(with_reducible refine(laws_eqAct.calls t6 t7 t8 t9 t1 t2 t3 t4 true _ A3.out).mono ?_);rintro e w8 ⟨rfl,hb⟩;refine⟨_,rfl,?_⟩;replace BK1:=eK BK1 hb;replace BK2:=eK BK2 hb;replace HB:=eB hb;clear hb))
 go_ret
 exact⟨rE,uB⟩
end Go.Proofs.YtgdnlmfoghpeoaaDoor.PFnExactParseAct
