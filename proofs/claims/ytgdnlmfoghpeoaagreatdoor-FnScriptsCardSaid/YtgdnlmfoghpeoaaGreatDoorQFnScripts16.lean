/- Calls do what plain Lean functions say (FnScripts). No condition. -/
import Derived.Test.YtgdnlmfoghpeoaaGreatDoorQFnScripts0
import Derived.Test.YtgdnlmfoghpeoaaGreatDoorQFnScripts2
import Derived.Test.YtgdnlmfoghpeoaaGreatDoorQFnScripts8
import Derived.Test.YtgdnlmfoghpeoaaGreatDoorQFnScripts9
import Derived.Test.YtgdnlmfoghpeoaaGreatDoorQFnScripts15
namespace Go.Proofs.YtgdnlmfoghpeoaaGreatDoor.PFnScripts
open Go.RowKit Go.Proofs.YtgdnlmfoghpeoaaGreatDoorW.PrintWords Go.Proofs.YtgdnlmfoghpeoaaGreatDoorW.PrintLast Go.Proofs.YtgdnlmfoghpeoaaGreatDoorW.PrintMore
open Tryz
open Fix (bK bnd d14 d4 eB eK eQ eR fQ fR gE gK gl gy lR nG nL nf np nt oT pj qm qn rE rN rS si uB uC uQ uR)
open Go.Value renaming int→V,slice→L,bool→O
open Go.IntKind renaming i64→I
open Go.Proofs.YtgdnlmfoghpeoaaGreatDoorW.PrintWords.Aside0 renaming mk→C
open Go.Proofs.YtgdnlmfoghpeoaaGreatDoorW.PrintWords renaming Aside0→D,gate_callee→F
open Go.Proofs.YtgdnlmfoghpeoaaGreatDoorW.PrintWords.Kd renaming R_mono→X,R_types→Y,R_slice→U
attribute [local go_sem] max2_int min2_int max_two min_two max_three min_three max_four min_four
attribute [local go_sem] Fix.isSome_setCell
set_option linter.unusedVariables false
set_option maxHeartbeats 40000000
set_option maxRecDepth 100000
set_option linter.unusedSimpArgs false
mutual
def impl_RunScript.l0:Nat→List (S55)→List ByteArray→Int→Int→Option (List ByteArray×Bool)
 |0,_,_,_,_=>none
 |k+1,x4,x20,x21,x22=>if x22<x21 then(if 0≤x22 then(if x22<(x20.length:Int) then((impl_SplitFields.f k (rdOf ByteArray.empty x20 x22)).bind fun bt995=>(if bt995.2=true then(impl_RunScript.j1 k x4 (rdOf ByteArray.empty x20 x22) x20 x21 x22 ((bt995.1.length:Int)==0)) else(impl_RunScript.j1 k x4 (rdOf ByteArray.empty x20 x22) x20 x21 x22 false))) else(none)) else(none)) else(if(x4.length:Int) >40 then(some (([]:List ByteArray),false)) else((impl_RunActs.f k ([]:List (S26)) 0 0 0 false 0 false 0 0 ([]:List Int) ([]:List Int) 0 false 0 x4).bind fun bt1008=>(impl_RunScript.l1 k ([]:List ByteArray) bt1008.2.2.2.2.2.2.2.2.2.2.2.2.2.2 (bt1008.2.2.2.2.2.2.2.2.2.2.2.2.2.2.length:Int) 0 bt1008.1 bt1008.2.1 bt1008.2.2.1 bt1008.2.2.2.1 bt1008.2.2.2.2.1 bt1008.2.2.2.2.2.1 bt1008.2.2.2.2.2.2.1 bt1008.2.2.2.2.2.2.2.1 bt1008.2.2.2.2.2.2.2.2.1 bt1008.2.2.2.2.2.2.2.2.2.1 bt1008.2.2.2.2.2.2.2.2.2.2.1 bt1008.2.2.2.2.2.2.2.2.2.2.2.1 bt1008.2.2.2.2.2.2.2.2.2.2.2.2.1 bt1008.2.2.2.2.2.2.2.2.2.2.2.2.2.1)))
def impl_RunScript.j1:Nat→List (S55)→ByteArray→List ByteArray→Int→Int→Bool→Option (List ByteArray×Bool)
 |0,_,_,_,_,_,_=>none
 |k+1,x4,x6,x20,x21,x22,x36=>if x36=true then(impl_RunScript.l0 k x4 x20 x21 (wrap64 (x22+1))) else((impl_ParseAct.f k x6).bind fun bt999=>(if bt999.2.2.2.2=true then(if x4.length<4398046511104 then(impl_RunScript.l0 k (x4++ [(⟨bt999.1,bt999.2.1,bt999.2.2.1,bt999.2.2.2.1⟩:S55)]) x20 x21 (wrap64 (x22+1))) else(none)) else(some (([]:List ByteArray),false))))
def impl_RunScript.l1:Nat→List ByteArray→List Int→Int→Int→List (S26)→Int→Int→Int→Bool→Int→Bool→Int→Int→List Int→List Int→Int→Bool→Int→Option (List ByteArray×Bool)
 |0,_,_,_,_,_,_,_,_,_,_,_,_,_,_,_,_,_,_=>none
 |k+1,x13,x58,x59,x60,x1032000,x1032001,x1032002,x1032003,x1032004,x1032005,x1032006,x1032007,x1032008,x1032009,x1032010,x1032011,x1032012,x1032013=>if x60<x59 then(if 0≤x60 then(if x60<(x58.length:Int) then((impl_FormatInt.f (rd x58 x60)).bind fun t1033=>(if x13.length<8796093022208 then(impl_RunScript.l1 k (x13++ [t1033]) x58 x59 (wrap64 (x60+1)) x1032000 x1032001 x1032002 x1032003 x1032004 x1032005 x1032006 x1032007 x1032008 x1032009 x1032010 x1032011 x1032012 x1032013) else(none))) else(none)) else(none)) else((impl_FormatMachine.f k x1032000 x1032001 x1032002 x1032003 x1032004 x1032005 x1032006 x1032007 x1032008 x1032009 x1032010 x1032011 x1032012 x1032013).bind fun t1037=>(if x13.length+t1037.length<8796093022208 then(some ((x13++t1037),true)) else(none)))
end
def impl_RunScript.f (k:Nat) (a0:ByteArray):Option (List ByteArray×Bool):=if(a0.size:Int) >20000 then(some (([]:List ByteArray),false)) else((strings_Split.f a0 (⟨#[10]⟩:ByteArray)).bind fun t991=>(impl_RunScript.l0 k ([]:List (S55)) t991 (t991.length:Int) 0))
theorem impl_RunScript.W1 {p:Prop} (h:p:=by
 go_wp2
 go_meet
 first
  |(case rel=>exact⟨_,(((t2.length:Int)==0)),rS,H',⟨by have:=HK1.out;first|omega|exact Nat.le_refl _⟩,⟨fR HO_1.out⟩,⟨X (fR HO_2.out) (fun _ hk=>trivial)⟩,⟨uB⟩⟩)
  |(case rel=>exact⟨_,(false),rS,H',⟨by have:=HK1.out;first|omega|exact Nat.le_refl _⟩,⟨fR HO_1.out⟩,⟨X (fR HO_2.out) (fun _ hk=>trivial)⟩,⟨uB⟩⟩)):p:=h
theorem impl_RunScript.W2 {p:Prop} (h:p:=by
 go_wp2_with (first|((with_reducible refine F (f:=25) rfl ?_);refine gl 25 (some 39) func25 #[.string (rdOf ByteArray.empty t1 x2_1)] ?_;(with_reducible refine(impl_ParseAct.calls kj9 (rdOf ByteArray.empty t1 x2_1) t4 t5 t6 t7 false _ A3.out (Ito.on hTab.out uB)).mono ?_);rintro e w3 ⟨rfl,hb⟩;refine⟨_,rfl,?_⟩;replace HO_1:=eR HO_1 hb;replace HO_2:=eR HO_2 hb;replace HB:=eB hb;clear hb)|((with_reducible refine gate_dst (N:=9) rfl ?_);(try(refine gate_guard (by rfl) ?_;dsimp only));refine Fix.be 9 #[V I 0,V I 0,V I 0,V I 0] 55 ?_;intro gb1 hg w4 BK1 hb;have GW1:=gE (w:=w) hg;replace HO_1:=C (Kd.R_below (Kd.R_elderB (uR HO_1.out) gb1 (Nat.le_of_eq hg.symm)) hb);replace HO_2:=eR HO_2 hb;replace HB:=eB hb;clear hb hg;obtain⟨_,_,_,_,_,_,_,_⟩:=d4 BK1.out)|((with_reducible refine F (f:=11) rfl ?_);refine gl 11 (some 72) func11 #[.agg #[L Ao3 t2.length co3,V I t3,V I t4,V I t5,O t6,V I t7,O t8,V I t9,V I t10,L Ao4 t11.length co4,L Ao5 t12.length co5,V I t13,O t14,V I t15]] ?_;(with_reducible refine(impl_FormatMachine.calls k2 _ _ t2 t3 t4 t5 t6 t7 t8 t9 t10 _ _ t11 _ _ t12 t13 t14 t15 t17 _ ?side1 ?side2 ?side3 ?side4 ?side5 ?side6 A3.out (Ito.on hTab.out uB)).mono ?_);(case side1=>exact uC (Kd.R_reads' HO_5.out).2.2);(case side2=>exact(Kd.R_reads' HO_5.out).2.1);(case side3=>exact uC (Kd.Q_reads' HO_6.out).2.2);(case side4=>exact(Kd.Q_reads' HO_6.out).2.1);(case side5=>exact uC (Kd.R_reads' HO_7.out).2.2);(case side6=>exact(Kd.R_reads' HO_7.out).2.1);rintro e w4 ⟨v7,rfl,ho1,hb⟩;refine⟨_,rfl,?_⟩;have HO6:=C (Kd.R_lower (Kd.R_new' ho1 (Kd.R_lt (uR HO_3.out))) (below_size uB));replace HO_3:=C (Kd.R_elder' (uR HO_3.out) (Kd.R_base ho1) hb);replace HO_4:=eR HO_4 hb;replace HO_5:=eR HO_5 hb;replace HO_6:=eQ HO_6 hb;replace HO_7:=eR HO_7 hb;replace BK1:=eK BK1 hb;replace HB:=eB hb;clear hb ho1;obtain⟨Ao7,co7,rfl⟩:=U HO6.out)|((with_reducible refine gate_builtin (b:=.append) (xs:= #[.tmp 70,.tmp 72]) rfl ?_);(try(refine gate_guard (by rfl) ?_;dsimp only));at_builtin;refine Kd.R_append_rows Kd.string (w0:=w) w.heap.size rfl (.tmp 70) (.tmp 72) 37 9 (.string ⟨#[]⟩) 16 rfl underlying37 info9 rfl (by decide) (by omega) u13 x3_2 t17 _ _ _ (fun k_=>qn k_ Ao7 t17.length co7) (fun _=>False) rfl rfl ?aO ?aR (fun _ _ h=>h) (fun _ h=>h.elim) ?aF ?aB ?aS ?aL ?_;(case aR=>exact uC (Kd.R_reads' HO6.out).2.2);(case aB=>exact uB);(case aF=>exact(fun k_ hk=>Kd.fresh' (Kd.R_lt (uR HO6.out)) k_ hk));(case aO=>exact(X (fR HO_3.out) (fun _ hk=>hk.2)));(case aS=>exact(below_size uB));(case aL=>have:=LMc1.out;omega);intro v8 w5 ho hb hg hat;rw[←Ny1.out]at ho;have HO7:=C (ho);replace HO_4:=C (Kd.R_over' (uR HO_4.out) (Kd.R_typed (uR HO_3.out)) (by decide) hg);replace HO_5:=C (Kd.R_over' (uR HO_5.out) (Kd.R_typed (uR HO_3.out)) (by decide) hg);replace HO_6:=C (Kd.Q_over' (uQ HO_6.out) (Kd.R_typed (uR HO_3.out)) (by decide) hg);replace HO_7:=C (Kd.R_over' (uR HO_7.out) (Kd.R_typed (uR HO_3.out)) (by decide) hg);replace BK1:=gK BK1 hg (Kd.R_ne HO_3.out BK1.out (by decide));replace HO6:=C (Kd.R_after (ok:=(fun _=>True)) (uR HO6.out) hg hat);replace HB:=C (hb);clear HO_3;clear ho hb hg hat))
 go_ret2
 first
  |(exact⟨_,rE,rN,uB⟩)
  |(exact⟨_,rE,X (fR HO7.out) (fun _ hk=>trivial),uB⟩)):p:=h
theorem impl_RunScript.calls (k:Nat) (a0:ByteArray) (r1:List ByteArray) (r2:Bool) (w:World) (h:impl_RunScript.f k a0=some (r1,r2)) (hTab:Ito.Tab w):
 Calls prog 8 #[.string a0] w fun e w'=>∃v0_:Value,e=.returned (.tuple #[v0_,O r2])∧Kd.R Kd.string 9 w' w.heap.size (fun _=>True) v0_ r1∧Below w.heap.size w w':=by
 replace hTab:=C hTab
 have hu1:=underlying55
 have hu2:=underlying31
 have HB:=C (Below.refl w.heap.size w)
 have H:=h
 unfold impl_RunScript.f at H
 clear h
 by_cases c1:(a0.size:Int) >20000
 ·rw[if_pos c1]at H
  have c1b0:decide (20000<(a0.size:Int))=true:=decide_eq_true c1
  have c1b1:decide (20000<a0.size)=true:=decide_eq_true (by omega)
  clear c1
  simp only[Option.some.injEq,Prod.mk.injEq]at H
  obtain⟨rfl,rfl⟩:=H
  go_enter func8,ntmps8
  go_wp2
  go_ret2
  exact⟨_,rE,rN,uB⟩
 rw[if_neg c1]at H
 have c1b0:decide (20000<(a0.size:Int))=false:=decide_eq_false c1
 have c1b1:decide (20000<a0.size)=false:=decide_eq_false (by omega)
 clear c1
 obtain⟨t1,A1,H⟩:=bnd H
 have H':=C H
 clear H
 go_enter func8,ntmps8
 go_wp2_with (first|((with_reducible refine F (f:=23) rfl ?_);refine gl 23 (some 20) func23 #[.string a0,.string (⟨#[10]⟩:ByteArray)] ?_;(with_reducible refine(strings_Split.calls a0 (⟨#[10]⟩:ByteArray) t1 _ A1.out (Ito.on hTab.out uB)).mono ?_);rintro e w1 ⟨v1,rfl,ho1,hb⟩;refine⟨_,rfl,?_⟩;have HO1:=lR ho1;replace HB:=eB hb;clear hb ho1;obtain⟨Ao1,co1,rfl⟩:=U HO1.out))
 go_loopg [4,22] k (fun kq v4 v22 w'=>∃(x1_1:List (S55)) (x2_1:Int),v22=V I x2_1∧D (impl_RunScript.l0 kq x1_1 t1 (t1.length:Int) x2_1=some (r1,r2))∧D (kq≤k)∧D (Kd.R k55 55 w' w.heap.size (fun _=>True) v4 x1_1)∧D (Kd.R Kd.string 9 w' w.heap.size (fun _=>True) (L Ao1 t1.length co1) t1)∧D (Below w.heap.size w w'))
 case atStart=>exact⟨(([]:List (S55))),(0),rS,H',⟨Nat.le_refl _⟩,⟨rN⟩,⟨fR HO1.out⟩,⟨uB⟩⟩
 case round=>
  clear H'
  obtain⟨x1_1,x2_1,rfl,HA,HK1,HO_1,HO_2,HB⟩:=hrel
  cases gk with
  |zero=>exact absurd HA.out (by simp[impl_RunScript.l0])
  |succ k1=>
   have H:=HA.out
   clear HA
   simp only[impl_RunScript.l0]at H
   by_cases c2:x2_1<(t1.length:Int)
   ·rw[if_pos c2]at H
    replace c2:=decide_eq_true c2
    obtain⟨c3,H⟩:=np H
    replace c3:=decide_eq_true c3
    obtain⟨c4,H⟩:=np H
    replace c4:=decide_eq_true c4
    obtain⟨⟨t2,t3⟩,A2,H⟩:=bnd H
    dsimp only at H
    have HC1:=C H
    clear H
    have p1:0≤(x2_1:Int):=oT
    have q1:x2_1<(t1.length:Int):=oT
    obtain⟨ad1,e1,hx1_0⟩:=Kd.at_string (Kd.R_reads' HO_2.out).2.2 x2_1 p1 q1
    cases e1
    replace p1:=eq_true p1
    replace q1:=eq_true q1
    go_upto_region 8 with(first|((with_reducible refine F (f:=24) rfl ?_);refine gl 24 (some 28) func24 #[.string (rdOf ByteArray.empty t1 x2_1)] ?_;(with_reducible refine(impl_SplitFields.calls k1 (rdOf ByteArray.empty t1 x2_1) t2 t3 _ A2.out (Ito.on hTab.out uB)).mono ?_);rintro e w2 ⟨v2,rfl,ho1,hb⟩;refine⟨_,rfl,?_⟩;have HO2:=C (Kd.R_lower (Kd.R_new' ho1 (Kd.R_lt (uR HO_2.out))) (below_size uB));replace HO_1:=eR HO_1 hb;replace HO_2:=C (Kd.R_elder' (uR HO_2.out) (Kd.R_base ho1) hb);replace HB:=eB hb;clear hb ho1))
    (try simp only[Act.put,List.setIfInBounds_toArray,List.set_cons_zero,List.set_cons_succ])
    go_cut [36] (fun v36 wc=>∃(kq:Nat) (x3_9:Bool),v36=O x3_9∧D (impl_RunScript.j1 kq x1_1 (rdOf ByteArray.empty t1 x2_1) t1 (t1.length:Int) x2_1 x3_9=some (r1,r2))∧D (kq≤k1)∧D (Kd.R k55 55 wc w.heap.size (fun _=>True) u4 x1_1)∧D (Kd.R Kd.string 9 wc w.heap.size (fun _=>True) (L (some ad1) t1.length co1) t1)∧D (Below w.heap.size w wc))
    case first=>
     have H:=HC1.out
     clear HC1
     by_cases c5:t3=true
     rotate_left
     ·obtain rfl:=nt c5
      replace H:=nf H
      have H':=C H
      clear H
      exact impl_RunScript.W1
     subst c5
     rw[if_pos rfl]at H
     have H':=C H
     clear H
     obtain⟨Ao2,co2,eo2⟩:=U HO2.out
     subst eo2
     exact impl_RunScript.W1
    case rest=>
     clear HC1
     obtain⟨kq,x3_9,rfl,HA,HJ1,HO_1,HO_2,HB⟩:=hcut
     cases kq with
     |zero=>exact absurd HA.out (by simp[impl_RunScript.j1])
     |succ kj9=>
      have H:=HA.out
      clear HA
      simp only[impl_RunScript.j1]at H
      by_cases c5:x3_9=true
      ·subst c5
       rw[if_pos rfl]at H
       have H':=C H
       clear H
       go_wp2
       go_roundg kj9
       case measure=>have:=HK1.out;have:=HJ1.out;omega
       case rel=>exact⟨(x1_1),(wrap64 (x2_1+1)),rS,H',⟨by have:=HK1.out;have:=HJ1.out;omega⟩,⟨fR HO_1.out⟩,⟨fR HO_2.out⟩,⟨uB⟩⟩
      obtain rfl:=nt c5
      replace H:=nf H
      obtain⟨⟨t4,t5,t6,t7,t8⟩,A3,H⟩:=bnd H
      dsimp only at H
      by_cases c6:t8=true
      rotate_left
      ·obtain rfl:=nt c6
       replace H:=nf H
       simp only[Option.some.injEq,Prod.mk.injEq]at H
       obtain⟨rfl,rfl⟩:=H
       exact impl_RunScript.W2
      subst c6
      rw[if_pos rfl]at H
      obtain⟨c7,H⟩:=np H
      have LMc1:=C c7
      clear c7
      obtain⟨y1,hy1⟩:∃y_:List (S55),y_=(x1_1++ [(⟨t4,t5,t6,t7⟩:S55)]):=⟨_,rfl⟩
      replace H:(impl_RunScript.l0 kj9 y1 t1 (t1.length:Int) (wrap64 (x2_1+1)))=some (r1,r2):=gy hy1 H
      have Ny1:=C hy1
      clear hy1
      have H':=C H
      clear H
      go_wp2_with (first|((with_reducible refine F (f:=25) rfl ?_);refine gl 25 (some 39) func25 #[.string (rdOf ByteArray.empty t1 x2_1)] ?_;(with_reducible refine(impl_ParseAct.calls kj9 (rdOf ByteArray.empty t1 x2_1) t4 t5 t6 t7 true _ A3.out (Ito.on hTab.out uB)).mono ?_);rintro e w3 ⟨rfl,hb⟩;refine⟨_,rfl,?_⟩;replace HO_1:=eR HO_1 hb;replace HO_2:=eR HO_2 hb;replace HB:=eB hb;clear hb)|((with_reducible refine gate_dst (N:=9) rfl ?_);(try(refine gate_guard (by rfl) ?_;dsimp only));refine Fix.be 9 #[V I 0,V I 0,V I 0,V I 0] 55 ?_;intro gb1 hg w4 BK1 hb;have GW1:=gE (w:=w) hg;have GE1:=GW1;replace HO_1:=C (Kd.R_below (Kd.R_elderB (uR HO_1.out) gb1 (Nat.le_of_eq hg.symm)) hb);replace HO_2:=eR HO_2 hb;replace HB:=eB hb;clear hb hg;obtain⟨_,_,_,_,_,_,_,_⟩:=d4 BK1.out)|((with_reducible refine gate_builtin (b:=.append) (xs:= #[.tmp 44,.tmp 46]) rfl ?_);(try(refine gate_guard (by rfl) ?_;dsimp only));at_builtin;refine Kd.R_append k55 (w0:=w) w.heap.size rfl (.tmp 44) (.tmp 46) 32 55 (.agg #[(V I 0),(V I 0),(V I 0),(V I 0)]) 32 rfl underlying32 info55 rfl (by decide) (by omega) u4 x1_1 (⟨t4,t5,t6,t7⟩:S55) [V I t4,V I t5,V I t6,V I t7] (fun k_=>k_≠gb1) (fun _=>False) rfl (by first|(go_simp;done)|(go_simp;rfl)) ?aP (fun _ hk=>hk.elim) ?aF ?aO ?aB ?aS ?aL ?_;(case aP=>exact k55_mkM _ _ _ (⟨t4,t5,t6,t7⟩:S55));(case aB=>exact uB);(case aF=>exact(fun k_ hk=>Kd.freshB (g:=gb1) (o:=.cells #[V I t4,V I t5,V I t6,V I t7] 55 (0,0)) (bK BK1.out) k_ hk));(case aO=>exact(X (fR (X HO_1.out (fun k_ hk=>(⟨hk,hk.2⟩:_∧k_≠gb1)))) (fun _ hk=>hk.1.2)));(case aS=>exact(below_size uB));(case aL=>have:=LMc1.out;omega);intro v3 w5 ho hb hg hat;rw[←Ny1.out]at ho;have HO3:=C (ho);replace HO_2:=C (Kd.R_over' (X (fR (Y HO_2.out BK1.out (by decide))) (fun _ h_=>h_.1)) (Kd.R_typed (X (fR (X HO_1.out (fun k_ hk=>(⟨hk,hk.2⟩:_∧k_≠gb1)))) (fun _ h_=>h_.1))) (by decide) hg);replace BK1:=C (blk_grown (g:=gb1) (o:=.cells #[V I t4,V I t5,V I t6,V I t7] 55 (0,0)) (bK BK1.out) hg (Kd.R_away HO_1.out (fun _ hk=>hk.2)));replace HB:=C (hb);clear HO_1;clear ho hb hg hat))
      go_roundg kj9
      case measure=>have:=HK1.out;have:=HJ1.out;omega
      case rel=>exact⟨(y1),(wrap64 (x2_1+1)),rS,H',⟨by have:=HK1.out;have:=HJ1.out;omega⟩,⟨X (fR HO3.out) (fun _ hk=>trivial)⟩,⟨fR HO_2.out⟩,⟨uB⟩⟩
   rw[if_neg c2]at H
   replace c2:=decide_eq_false c2
   by_cases c3:(x1_1.length:Int) >40
   ·rw[if_pos c3]at H
    have c3b0:decide (40<(x1_1.length:Int))=true:=decide_eq_true c3
    have c3b1:decide (40<x1_1.length)=true:=decide_eq_true (by omega)
    clear c3
    simp only[Option.some.injEq,Prod.mk.injEq]at H
    obtain⟨rfl,rfl⟩:=H
    obtain⟨Ao2,co2,eo2⟩:=U HO_1.out
    subst eo2
    go_wp2
    go_ret2
    exact⟨_,rE,rN,uB⟩
   rw[if_neg c3]at H
   have c3b0:decide (40<(x1_1.length:Int))=false:=decide_eq_false c3
   have c3b1:decide (40<x1_1.length)=false:=decide_eq_false (by omega)
   clear c3
   obtain⟨⟨t2,t3,t4,t5,t6,t7,t8,t9,t10,t11,t12,t13,t14,t15,t16⟩,A2,H⟩:=bnd H
   dsimp only at H
   have H':=C H
   clear H
   obtain⟨Ao2,co2,eo2⟩:=U HO_1.out
   subst eo2
   go_wp2_with (first|((with_reducible refine F (f:=9) rfl ?_);refine gl 9 (some 55) func9 #[.agg #[L none 0 0,V I 0,V I 0,V I 0,O false,V I 0,O false,V I 0,V I 0,L none 0 0,L none 0 0,V I 0,O false,V I 0],L Ao2 x1_1.length co2] ?_;(refine(impl_RunActs.calls k1 _ _ ([]:List (S26)) 0 0 0 false 0 false 0 0 _ _ ([]:List Int) _ _ ([]:List Int) 0 false 0 _ _ x1_1 t2 t3 t4 t5 t6 t7 t8 t9 t10 t11 t12 t13 t14 t15 t16 _ ?side1 ?side2 ?side3 ?side4 ?side5 ?side6 ?side7 ?side8 A2.out).mono ?_);(case side1=>exact Kd.C_nil _ _);(case side2=>exact Nat.le_refl _);(case side3=>exact Kd.C_nil _ _);(case side4=>exact Nat.le_refl _);(case side5=>exact Kd.C_nil _ _);(case side6=>exact Nat.le_refl _);(case side7=>exact uC (Kd.R_reads' HO_1.out).2.2);(case side8=>exact(Kd.R_reads' HO_1.out).2.1);rintro e w2 ⟨v2,v3,v5,v6,rfl,ho1,ho2,ho3,ho4,hb⟩;refine⟨_,rfl,?_⟩;have HO2:=lR ho1;have HO3:=C (Kd.Q_lower ho2 (below_size uB));have HO4:=lR ho3;have HO5:=lR ho4;replace HO_1:=eR HO_1 hb;replace HO_2:=eR HO_2 hb;replace HB:=eB hb;clear hb ho1 ho2 ho3 ho4)|((with_reducible refine gate_dst (N:=11) rfl ?_);(try(refine gate_guard (by rfl) ?_;dsimp only));refine Fix.be 11 #[L none 0 0,V I 0,V I 0,V I 0,O false,V I 0,O false,V I 0,V I 0,L none 0 0,L none 0 0,V I 0,O false,V I 0] 31 ?_;intro gb1 hg w3 BK1 hb;have GW1:=gE (w:=w) hg;have GE1:=GW1;replace HO_1:=eR HO_1 hb;replace HO_2:=eR HO_2 hb;replace HO2:=eR HO2 hb;replace HO3:=eQ HO3 hb;replace HO4:=eR HO4 hb;replace HO5:=eR HO5 hb;replace HB:=eB hb;clear hb hg;obtain⟨Ao3,co3,rfl⟩:=U HO2.out;have h_:=d14 BK1.out;(repeat(obtain⟨_,h_⟩:=h_));obtain⟨Ao4,co4,eo4,_⟩:=Kd.Q_slice HO3.out;subst eo4;obtain⟨Ao5,co5,rfl⟩:=U HO4.out;obtain⟨Ao6,co6,rfl⟩:=U HO5.out))
   go_loopg [13,60] k1 (fun kq v13 v60 w'=>∃(x3_2:List ByteArray) (x4_2:Int),v60=V I x4_2∧D (impl_RunScript.l1 kq x3_2 t16 (t16.length:Int) x4_2 t2 t3 t4 t5 t6 t7 t8 t9 t10 t11 t12 t13 t14 t15=some (r1,r2))∧D (kq≤k1)∧D (Kd.R Kd.string 9 w' w.heap.size (fun _=>True) v13 x3_2)∧D (Kd.R (Kd.int .i64) 3 w' w.heap.size (fun k_=>some k_≠Fix.o Ao4 t11.length co4∧some k_≠Fix.o Ao5 t12.length co5) (L Ao6 t16.length co6) t16)∧D (Kd.R k26 26 w' w.heap.size (fun _=>True) (L Ao3 t2.length co3) t2)∧D (Kd.Q (Kd.int .i64) 3 w' w.heap.size (fun k_=>some k_≠Fix.o Ao6 t16.length co6∧some k_≠Fix.o Ao5 t12.length co5) (L Ao4 t11.length co4) t11)∧D (Kd.R (Kd.int .i64) 3 w' w.heap.size (fun k_=>some k_≠Fix.o Ao6 t16.length co6∧some k_≠Fix.o Ao4 t11.length co4) (L Ao5 t12.length co5) t12)∧D (w'.heap[gb1]? =some (.cells #[(L Ao3 t2.length co3),V I t3,V I t4,V I t5,O t6,V I t7,O t8,V I t9,V I t10,(L Ao4 t11.length co4),(L Ao5 t12.length co5),V I t13,O t14,V I t15] 31 (0,0)))∧D (Below w.heap.size w w'))
   case atStart=>exact⟨(([]:List ByteArray)),(0),rS,H',⟨Nat.le_refl _⟩,⟨rN⟩,⟨X (fR (Y HO5.out BK1.out (by decide))) pj⟩,⟨X (fR (Y HO2.out BK1.out (by decide))) (fun _ hk=>trivial)⟩,⟨Kd.Q_mono (fQ (Kd.Q_types HO3.out BK1.out (by decide))) pj⟩,⟨X (fR (Y HO4.out BK1.out (by decide))) pj⟩,⟨bK BK1.out⟩,⟨uB⟩⟩
   case round=>
    clear H'
    obtain⟨x3_2,x4_2,rfl,HA,HK2,HO_3,HO_4,HO_5,HO_6,HO_7,BK1,HB⟩:=hrel
    cases gk with
    |zero=>exact absurd HA.out (by simp[impl_RunScript.l1])
    |succ k2=>
     have H:=HA.out
     clear HA
     simp only[impl_RunScript.l1]at H
     by_cases c4:x4_2<(t16.length:Int)
     rotate_left
     ·rw[if_neg c4]at H
      replace c4:=decide_eq_false c4
      obtain⟨t17,A3,H⟩:=bnd H
      obtain⟨c5,H⟩:=np H
      have LMc1:=C c5
      clear c5
      obtain⟨y1,hy1⟩:∃y_:List ByteArray,y_=(x3_2++t17):=⟨_,rfl⟩
      replace H:(some (y1,true))=some (r1,r2):=gy hy1 H
      have Ny1:=C hy1
      clear hy1
      simp only[Option.some.injEq,Prod.mk.injEq]at H
      obtain⟨rfl,rfl⟩:=H
      have h_:=d14 BK1.out;(repeat(obtain⟨_,h_⟩:=h_))
      exact impl_RunScript.W2
     rw[if_pos c4]at H
     replace c4:=decide_eq_true c4
     obtain⟨c5,H⟩:=np H
     replace c5:=decide_eq_true c5
     obtain⟨c6,H⟩:=np H
     replace c6:=decide_eq_true c6
     obtain⟨t17,A3,H⟩:=bnd H
     obtain⟨c7,H⟩:=np H
     have LMc1:=C c7
     clear c7
     obtain⟨y1,hy1⟩:∃y_:List ByteArray,y_=(x3_2++ [t17]):=⟨_,rfl⟩
     replace H:(impl_RunScript.l1 k2 y1 t16 (t16.length:Int) (wrap64 (x4_2+1)) t2 t3 t4 t5 t6 t7 t8 t9 t10 t11 t12 t13 t14 t15)=some (r1,r2):=gy hy1 H
     have Ny1:=C hy1
     clear hy1
     have H':=C H
     clear H
     have p1:0≤(x4_2:Int):=oT
     have q1:x4_2<(t16.length:Int):=oT
     obtain⟨ad1,e1,hx1_0⟩:=Kd.at_int (Kd.R_reads' HO_4.out).2.2 x4_2 p1 q1
     cases e1
     replace p1:=eq_true p1
     replace q1:=eq_true q1
     go_wp2_with (first|((with_reducible refine F (f:=10) rfl ?_);refine gl 10 (some 66) func10 #[V I (rd t16 x4_2)] ?_;(with_reducible refine(impl_FormatInt.calls (rd t16 x4_2) t17 _ A3.out (Ito.on hTab.out uB)).mono ?_);rintro e w4 ⟨rfl,hb⟩;refine⟨_,rfl,?_⟩;replace HO_3:=eR HO_3 hb;replace HO_4:=eR HO_4 hb;replace HO_5:=eR HO_5 hb;replace HO_6:=eQ HO_6 hb;replace HO_7:=eR HO_7 hb;replace BK1:=eK BK1 hb;replace HB:=eB hb;clear hb)|((with_reducible refine gate_builtin (b:=.append) (xs:= #[.tmp 64,.tmp 67]) rfl ?_);(try(refine gate_guard (by rfl) ?_;dsimp only));at_builtin;refine Kd.R_append Kd.string (w0:=w) w.heap.size rfl (.tmp 64) (.tmp 67) 37 9 (.string ⟨#[]⟩) 16 rfl underlying37 info9 rfl (by decide) (by omega) u13 x3_2 t17 [.string t17] (fun _=>True) (fun _=>False) rfl rfl ?aP (fun _ hk=>hk.elim) ?aF ?aO ?aB ?aS ?aL ?_;(case aP=>exact rfl);(case aB=>exact uB);(case aF=>exact(fun _ _=>trivial));(case aO=>exact(uR HO_3.out));(case aS=>exact(below_size uB));(case aL=>have:=LMc1.out;omega);intro v7 w5 ho hb hg hat;rw[←Ny1.out]at ho;have HO6:=C (ho);replace HO_4:=C (Kd.R_over' (uR HO_4.out) (Kd.R_typed (uR HO_3.out)) (by decide) hg);replace HO_5:=C (Kd.R_over' (uR HO_5.out) (Kd.R_typed (uR HO_3.out)) (by decide) hg);replace HO_6:=C (Kd.Q_over' (uQ HO_6.out) (Kd.R_typed (uR HO_3.out)) (by decide) hg);replace HO_7:=C (Kd.R_over' (uR HO_7.out) (Kd.R_typed (uR HO_3.out)) (by decide) hg);replace BK1:=gK BK1 hg (Kd.R_ne HO_3.out BK1.out (by decide));replace HB:=C (hb);clear HO_3;clear ho hb hg hat))
     go_roundg k2
     case measure=>have:=HK1.out;have:=HK2.out;omega
     case rel=>exact⟨(y1),(wrap64 (x4_2+1)),rS,H',⟨by have:=HK1.out;have:=HK2.out;omega⟩,⟨fR HO6.out⟩,⟨fR HO_4.out⟩,⟨fR HO_5.out⟩,⟨fQ HO_6.out⟩,⟨fR HO_7.out⟩,⟨bK BK1.out⟩,⟨uB⟩⟩
def laws_sameTexts.l0:Nat→List ByteArray→List ByteArray→Int→Option (Bool)
 |0,_,_,_=>none
 |k+1,x0,x1,x5=>if x5<(x0.length:Int) then(if 0≤x5 then(if x5<(x1.length:Int) then(if(rdOf ByteArray.empty x0 x5).toList=(rdOf ByteArray.empty x1 x5).toList then(laws_sameTexts.l0 k x0 x1 (wrap64 (x5+1))) else(some false)) else(none)) else(none)) else(some true)
def laws_sameTexts.f (k:Nat) (l0:List ByteArray) (l1:List ByteArray):Option (Bool):=if(l0.length:Int)=(l1.length:Int) then(laws_sameTexts.l0 k l0 l1 0) else(some false)
theorem laws_sameTexts.W1 {p:Prop} (h:p:=by
 go_wp2
 repeat(go_quiet (fail);try go_wp2)
 go_ret
 exact⟨by first|rfl|(simp;done)|(simp[*];done),by repeat(first|exact Drawn0.refl _|apply Drawn0.step)⟩):p:=h
theorem laws_sameTexts.calls (k:Nat) (A0:Option Addr) (c0:Nat) (l0:List ByteArray) (A1:Option Addr) (c1:Nat) (l1:List ByteArray) (r:Bool) (w:World) (hr0:Kd.C Kd.string w A0 l0.length l0) (hc0:l0.length≤c0) (hr1:Kd.C Kd.string w A1 l1.length l1) (hc1:l1.length≤c1) (h:laws_sameTexts.f k l0 l1=some r):
 Calls prog 12 #[L A0 l0.length c0,L A1 l1.length c1] w fun e w'=>e=.returned (O r)∧Drawn0 w w':=by
 have HR1:=C hr0
 have HC1:=C hc0
 (try clear hr0);(try clear hc0)
 have HR2:=C hr1
 have HC2:=C hc1
 (try clear hr1);(try clear hc1)
 have H:=h
 unfold laws_sameTexts.f at H
 clear h
 by_cases c1:(l0.length:Int)=(l1.length:Int)
 rotate_left
 ·rw[if_neg c1]at H
  have c1b0:((l0.length:Int)==(l1.length:Int))=false:=beq_eq_false_iff_ne.mpr c1
  have c1b1:((l0.length:Int) !=(l1.length:Int))=true:=bne_iff_ne.mpr c1
  have c1b2:(l0.length==l1.length)=false:=by first|simpa using c1|(simp at c1 ⊢;omega)
  obtain rfl:=si H
  go_enter func12,ntmps12
  go_wp2
  repeat(go_quiet (fail);try go_wp2)
  go_ret
  exact⟨by first|rfl|(simp;done)|(simp[*];done),by repeat(first|exact Drawn0.refl _|apply Drawn0.step)⟩
 rw[if_pos c1]at H
 have c1b0:((l0.length:Int)==(l1.length:Int))=true:=beq_iff_eq.mpr c1
 have c1b1:((l0.length:Int) !=(l1.length:Int))=false:=bne_eq_false_iff_eq.mpr c1
 have c1b2:(l0.length==l1.length)=true:=by first|simpa using c1|(simp at c1 ⊢;omega)
 clear c1
 have H':=C H
 clear H
 go_enter func12,ntmps12
 go_wp2
 repeat(go_quiet (fail);try go_wp2)
 go_loopg [5] k (fun kq v5 w'=>∃(x1_1:Int),v5=V I x1_1∧D (laws_sameTexts.l0 kq l0 l1 x1_1=some r)∧D (kq≤k)∧Drawn0 w w')
 case atStart=>exact⟨(0),rS,H',⟨Nat.le_refl _⟩,by repeat(first|exact Drawn0.refl _|apply Drawn0.step)⟩
 case round=>
  clear H'
  obtain⟨x1_1,rfl,HA,HK1,⟨m1,rfl⟩⟩:=hrel
  cases gk with
  |zero=>exact absurd HA.out (by simp[laws_sameTexts.l0])
  |succ k1=>
   have H:=HA.out
   clear HA
   simp only[laws_sameTexts.l0]at H
   by_cases c2:x1_1<(l0.length:Int)
   rotate_left
   ·rw[if_neg c2]at H
    replace c2:=decide_eq_false c2
    obtain rfl:=si H
    exact laws_sameTexts.W1
   rw[if_pos c2]at H
   replace c2:=decide_eq_true c2
   obtain⟨c3,H⟩:=np H
   replace c3:=decide_eq_true c3
   obtain⟨c4,H⟩:=np H
   replace c4:=decide_eq_true c4
   by_cases c5:(rdOf ByteArray.empty l0 x1_1).toList=(rdOf ByteArray.empty l1 x1_1).toList
   rotate_left
   ·rw[if_neg c5]at H
    have c5b0:((rdOf ByteArray.empty l0 x1_1).toList==(rdOf ByteArray.empty l1 x1_1).toList)=false:=beq_eq_false_iff_ne.mpr c5
    have c5b1:((rdOf ByteArray.empty l0 x1_1).toList !=(rdOf ByteArray.empty l1 x1_1).toList)=true:=bne_iff_ne.mpr c5
    obtain rfl:=si H
    have p1:0≤(x1_1:Int):=oT
    have q1:x1_1<(l0.length:Int):=oT
    obtain⟨ad1,e1,hx1_0⟩:=Kd.at_string HR1.out x1_1 p1 q1
    cases e1
    replace p1:=eq_true p1
    replace q1:=eq_true q1
    have p2:0≤(x1_1:Int):=oT
    have q2:x1_1<(l1.length:Int):=oT
    obtain⟨ad2,e2,hx2_0⟩:=Kd.at_string HR2.out x1_1 p2 q2
    cases e2
    replace p2:=eq_true p2
    replace q2:=eq_true q2
    exact laws_sameTexts.W1
   rw[if_pos c5]at H
   have c5b0:((rdOf ByteArray.empty l0 x1_1).toList==(rdOf ByteArray.empty l1 x1_1).toList)=true:=beq_iff_eq.mpr c5
   have c5b1:((rdOf ByteArray.empty l0 x1_1).toList !=(rdOf ByteArray.empty l1 x1_1).toList)=false:=bne_eq_false_iff_eq.mpr c5
   clear c5
   have H':=C H
   clear H
   have p1:0≤(x1_1:Int):=oT
   have q1:x1_1<(l0.length:Int):=oT
   obtain⟨ad1,e1,hx1_0⟩:=Kd.at_string HR1.out x1_1 p1 q1
   cases e1
   replace p1:=eq_true p1
   replace q1:=eq_true q1
   have p2:0≤(x1_1:Int):=oT
   have q2:x1_1<(l1.length:Int):=oT
   obtain⟨ad2,e2,hx2_0⟩:=Kd.at_string HR2.out x1_1 p2 q2
   cases e2
   replace p2:=eq_true p2
   replace q2:=eq_true q2
   go_wp2
   repeat(go_quiet (fail);try go_wp2)
   go_roundg k1
   case measure=>have:=HK1.out;omega
   case rel=>exact⟨(wrap64 (x1_1+1)),rS,H',⟨by have:=HK1.out;omega⟩,by repeat(first|exact Drawn0.refl _|apply Drawn0.step)⟩
def laws_FnScripts.l0:Nat→Bool→List ByteArray→Bool→List Int→List ByteArray→Int→List (S26)→Int→Int→Int→Bool→Int→Bool→Int→Int→List Int→List Int→Int→Bool→Int→Option (Bool)
 |0,_,_,_,_,_,_,_,_,_,_,_,_,_,_,_,_,_,_,_,_=>none
 |k+1,x6,x7,x8,x10,x11,x12,x1100000,x1100001,x1100002,x1100003,x1100004,x1100005,x1100006,x1100007,x1100008,x1100009,x1100010,x1100011,x1100012,x1100013=>if x12<(x10.length:Int) then(if 0≤x12 then((impl_FormatInt.f (rd x10 x12)).bind fun t1104=>(if x11.length<8796093022208 then(laws_FnScripts.l0 k x6 x7 x8 x10 (x11++ [t1104]) (wrap64 (x12+1)) x1100000 x1100001 x1100002 x1100003 x1100004 x1100005 x1100006 x1100007 x1100008 x1100009 x1100010 x1100011 x1100012 x1100013) else(none))) else(none)) else((impl_FormatMachine.f k x1100000 x1100001 x1100002 x1100003 x1100004 x1100005 x1100006 x1100007 x1100008 x1100009 x1100010 x1100011 x1100012 x1100013).bind fun t1108=>(if x11.length+t1108.length<8796093022208 then(if x6=true then(if x8=true then((laws_sameTexts.f k x7 (x11++t1108)).bind fun t1114=>(some t1114)) else(some false)) else(some false)) else(none)))
def laws_FnScripts.f (k:Nat) (l0:List Int):Option (Bool):=(laws_big.f l0).bind fun t1045=>(if t1045=true then(some true) else((spec_DrawActs.f k l0).bind fun bt1046=>((impl_ScriptText.f k bt1046.2.2.2.2.2.2.2.2.2.2.2.2.2.2).bind fun bt1070=>((impl_RunScript.f k bt1070.1).bind fun bt1072=>((impl_RunActs.f k ([]:List (S26)) 0 0 0 false 0 false 0 0 ([]:List Int) ([]:List Int) 0 false 0 bt1046.2.2.2.2.2.2.2.2.2.2.2.2.2.2).bind fun bt1076=>(laws_FnScripts.l0 k bt1070.2 bt1072.1 bt1072.2 bt1076.2.2.2.2.2.2.2.2.2.2.2.2.2.2 (([]:List ByteArray)) 0 bt1076.1 bt1076.2.1 bt1076.2.2.1 bt1076.2.2.2.1 bt1076.2.2.2.2.1 bt1076.2.2.2.2.2.1 bt1076.2.2.2.2.2.2.1 bt1076.2.2.2.2.2.2.2.1 bt1076.2.2.2.2.2.2.2.2.1 bt1076.2.2.2.2.2.2.2.2.2.1 bt1076.2.2.2.2.2.2.2.2.2.2.1 bt1076.2.2.2.2.2.2.2.2.2.2.2.1 bt1076.2.2.2.2.2.2.2.2.2.2.2.2.1 bt1076.2.2.2.2.2.2.2.2.2.2.2.2.2.1))))))
theorem laws_FnScripts.calls (k:Nat) (A0:Option Addr) (c0:Nat) (l0:List Int) (r:Bool) (w:World) (hr0:Kd.C (Kd.int .u8) w A0 l0.length l0) (hc0:l0.length≤c0) (hT:r=true) (h:laws_FnScripts.f k l0=some r) (hTab:Ito.Tab w):
 Calls prog 3 #[L A0 l0.length c0] w fun e w'=>e=.returned (O r)∧Below w.heap.size w w':=by
 replace hTab:=C hTab
 have hu1:=underlying31
 have HR1:=C hr0
 have HC1:=C hc0
 (try clear hr0);(try clear hc0)
 replace hT:=C hT
 have HB:=C (Below.refl w.heap.size w)
 have H:=h
 unfold laws_FnScripts.f at H
 clear h
 obtain⟨t1,A1,H⟩:=bnd H
 by_cases c1:t1=true
 ·subst c1
  rw[if_pos rfl]at H
  obtain rfl:=si H
  go_enter func3,ntmps3
  go_wp2_with (first|((with_reducible refine F (f:=5) rfl ?_);refine gl 5 (some 14) func5 #[L A0 l0.length c0] ?_;(with_reducible refine(laws_big.calls _ _ l0 true _ ?side1 HC1.out A1.out).mono ?_);(case side1=>exact uC HR1.out);rintro e w' ⟨rfl,⟨nd,rfl⟩⟩;refine⟨_,rfl,?_⟩))
  go_ret
  exact⟨rE,uB⟩
 obtain rfl:=nt c1
 replace H:=nf H
 obtain⟨⟨t2,t3,t4,t5,t6,t7,t8,t9,t10,t11,t12,t13,t14,t15,t16⟩,A2,H⟩:=bnd H
 dsimp only at H
 obtain⟨⟨t17,t18⟩,A3,H⟩:=bnd H
 dsimp only at H
 obtain⟨⟨t19,t20⟩,A4,H⟩:=bnd H
 dsimp only at H
 obtain⟨⟨t21,t22,t23,t24,t25,t26,t27,t28,t29,t30,t31,t32,t33,t34,t35⟩,A5,H⟩:=bnd H
 dsimp only at H
 obtain⟨y1,hy1⟩:∃y_:List ByteArray,y_=(([]:List ByteArray)):=⟨_,rfl⟩
 replace H:(laws_FnScripts.l0 k t18 t19 t20 t35 y1 0 t21 t22 t23 t24 t25 t26 t27 t28 t29 t30 t31 t32 t33 t34)=some r:=gy hy1 H
 have Ny1:=C hy1
 clear hy1
 have H':=C H
 clear H
 go_enter func3,ntmps3
 go_wp2_with (first|((with_reducible refine F (f:=5) rfl ?_);refine gl 5 (some 14) func5 #[L A0 l0.length c0] ?_;(with_reducible refine(laws_big.calls _ _ l0 false _ ?side1 HC1.out A1.out).mono ?_);(case side1=>exact uC HR1.out);rintro e w' ⟨rfl,⟨nd,rfl⟩⟩;refine⟨_,rfl,?_⟩)|((with_reducible refine F (f:=6) rfl ?_);refine gl 6 (some 17) func6 #[L A0 l0.length c0] ?_;(with_reducible refine(spec_DrawActs.calls k _ _ l0 t2 t3 t4 t5 t6 t7 t8 t9 t10 t11 t12 t13 t14 t15 t16 _ ?side1 HC1.out A2.out).mono ?_);(case side1=>exact uC HR1.out);rintro e w1 ⟨v1,v2,v3,v4,rfl,ho1,ho2,ho3,ho4,hb⟩;refine⟨_,rfl,?_⟩;have HO1:=lR ho1;have HO2:=C (Kd.Q_lower ho2 (below_size uB));have HO3:=lR ho3;have HO4:=lR ho4;replace HB:=eB hb;clear hb ho1 ho2 ho3 ho4)|((with_reducible refine gate_dst (N:=3) rfl ?_);refine Fix.be 3 #[L none 0 0,V I 0,V I 0,V I 0,O false,V I 0,O false,V I 0,V I 0,L none 0 0,L none 0 0,V I 0,O false,V I 0] 31 ?_;intro gb1 hg w2 BK1 hb;have GW1:=gE (w:=w) hg;replace HO1:=eR HO1 hb;replace HO2:=eQ HO2 hb;replace HO3:=eR HO3 hb;replace HO4:=eR HO4 hb;replace HB:=eB hb;clear hb hg;obtain⟨Ao1,co1,rfl⟩:=U HO1.out;have h_:=d14 BK1.out;(repeat(obtain⟨_,h_⟩:=h_));obtain⟨Ao2,co2,eo2,_⟩:=Kd.Q_slice HO2.out;subst eo2;obtain⟨Ao3,co3,rfl⟩:=U HO3.out;obtain⟨Ao4,co4,rfl⟩:=U HO4.out)|((with_reducible refine F (f:=7) rfl ?_);refine gl 7 (some 22) func7 #[L Ao4 t16.length co4] ?_;(with_reducible refine(impl_ScriptText.calls k _ _ t16 t17 t18 _ ?side1 ?side2 A3.out (Ito.on hTab.out uB)).mono ?_);(case side1=>refine(Kd.R_reads' (e:=55) (base:=w.heap.size) (ok:=fun k_=>True) (n:=t16.length) (c:=co4) ?_).2.2;exact(X (fR (Y HO4.out BK1.out (by decide))) (fun _ h_=>h_.1)));(case side2=>exact(Kd.R_reads' HO4.out).2.1);rintro e w3 ⟨rfl,hb⟩;refine⟨_,rfl,?_⟩;replace HO1:=C (Kd.R_below (X (fR (Y HO1.out BK1.out (by decide))) (fun _ h_=>h_.1)) hb);replace HO2:=C (Kd.Q_below (Kd.Q_mono (fQ (Kd.Q_types HO2.out BK1.out (by decide))) (fun _ h_=>h_.1)) hb);replace HO3:=C (Kd.R_below (X (fR (Y HO3.out BK1.out (by decide))) (fun _ h_=>h_.1)) hb);replace HO4:=C (Kd.R_below (X (fR (Y HO4.out BK1.out (by decide))) (fun _ h_=>h_.1)) hb);replace BK1:=C (blk_below (g:=gb1) (o:=.cells #[L Ao1 t2.length co1,V I t3,V I t4,V I t5,O t6,V I t7,O t8,V I t9,V I t10,L Ao2 t11.length co2,L Ao3 t12.length co3,V I t13,O t14,V I t15] 31 (0,0)) (bK BK1.out) hb);replace HB:=eB hb;clear hb)|((with_reducible refine F (f:=8) rfl ?_);refine gl 8 (some 27) func8 #[.string t17] ?_;(with_reducible refine(impl_RunScript.calls k t17 t19 t20 _ A4.out (Ito.on hTab.out uB)).mono ?_);rintro e w4 ⟨v5,rfl,ho1,hb⟩;refine⟨_,rfl,?_⟩;have HO5:=lR ho1;replace HO1:=eR HO1 hb;replace HO2:=eQ HO2 hb;replace HO3:=eR HO3 hb;replace HO4:=eR HO4 hb;replace BK1:=eK BK1 hb;replace HB:=eB hb;clear hb ho1)|((with_reducible refine F (f:=9) rfl ?_);refine gl 9 (some 33) func9 #[.agg #[L none 0 0,V I 0,V I 0,V I 0,O false,V I 0,O false,V I 0,V I 0,L none 0 0,L none 0 0,V I 0,O false,V I 0],L Ao4 t16.length co4] ?_;(refine(impl_RunActs.calls k _ _ ([]:List (S26)) 0 0 0 false 0 false 0 0 _ _ ([]:List Int) _ _ ([]:List Int) 0 false 0 _ _ t16 t21 t22 t23 t24 t25 t26 t27 t28 t29 t30 t31 t32 t33 t34 t35 _ ?side1 ?side2 ?side3 ?side4 ?side5 ?side6 ?side7 ?side8 A5.out).mono ?_);(case side1=>exact Kd.C_nil _ _);(case side2=>exact Nat.le_refl _);(case side3=>exact Kd.C_nil _ _);(case side4=>exact Nat.le_refl _);(case side5=>exact Kd.C_nil _ _);(case side6=>exact Nat.le_refl _);(case side7=>exact uC (Kd.R_reads' HO4.out).2.2);(case side8=>exact(Kd.R_reads' HO4.out).2.1);rintro e w5 ⟨v6,v7,v8,v9,rfl,ho1,ho2,ho3,ho4,hb⟩;refine⟨_,rfl,?_⟩;have HO6:=C (Kd.R_lower (Kd.R_new' ho1 (Kd.R_lt (uR HO1.out))) (below_size uB));have HO7:=C (Kd.Q_lower (Kd.Q_new' (Kd.Q_new' ho2 (Kd.Q_lt (uQ HO2.out))) (Kd.R_lt (uR HO3.out))) (below_size uB));have HO8:=C (Kd.R_lower (Kd.R_new' (Kd.R_new' ho3 (Kd.Q_lt (uQ HO2.out))) (Kd.R_lt (uR HO3.out))) (below_size uB));have HO9:=C (Kd.R_lower (Kd.R_new' (Kd.R_new' ho4 (Kd.Q_lt (uQ HO2.out))) (Kd.R_lt (uR HO3.out))) (below_size uB));replace HO1:=C (Kd.R_elder' (uR HO1.out) (Kd.R_base ho1) hb);replace HO2:=C (Kd.Q_mono (Kd.Q_told (Kd.Q_told (Kd.Q_told (Kd.Q_old (uQ HO2.out) hb) (Kd.Q_base ho2)) (Kd.R_base ho3)) (Kd.R_base ho4)) (fun _ h_=>h_.1));replace HO3:=C (X (Kd.R_told (Kd.R_told (Kd.R_told (Kd.R_old (uR HO3.out) hb) (Kd.Q_base ho2)) (Kd.R_base ho3)) (Kd.R_base ho4)) (fun _ h_=>h_.1));replace HO4:=eR HO4 hb;replace HO5:=eR HO5 hb;replace BK1:=eK BK1 hb;replace HB:=eB hb;clear hb ho1 ho2 ho3 ho4)|((with_reducible refine gate_dst (N:=9) rfl ?_);refine Fix.be 9 #[L none 0 0,V I 0,V I 0,V I 0,O false,V I 0,O false,V I 0,V I 0,L none 0 0,L none 0 0,V I 0,O false,V I 0] 31 ?_;intro gb2 hg w6 BK2 hb;have GW2:=gE (w:=w) hg;have n0:=nL hg BK1;have n1:=nG hg BK1;replace HO1:=eR HO1 hb;replace HO2:=eQ HO2 hb;replace HO3:=eR HO3 hb;replace HO4:=eR HO4 hb;replace HO5:=eR HO5 hb;replace HO6:=eR HO6 hb;replace HO7:=eQ HO7 hb;replace HO8:=eR HO8 hb;replace HO9:=eR HO9 hb;replace BK1:=eK BK1 hb;replace HB:=eB hb;clear hb hg;obtain⟨Ao5,co5,rfl⟩:=U HO6.out;have:=n1.out;have:=n0.out;have h_:=d14 BK2.out;(repeat(obtain⟨_,h_⟩:=h_));obtain⟨Ao6,co6,eo6,_⟩:=Kd.Q_slice HO7.out;subst eo6;obtain⟨Ao7,co7,rfl⟩:=U HO8.out)|((with_reducible refine gate_dst (N:=36) rfl ?_);refine Kd.R_lit Kd.string _ 9 ?hg (N:=36) ?hd (xs:=([]:List ByteArray)) (inner:= []) (ok:=fun _=>True) (okp:=fun _=>True) ?hr ?hp (fun _ hk=>hk) trivial (Below.refl _ _) (Nat.le_refl _) (by simp) ?_;(case hd=>rfl);(case hg=>rfl);(case hr=>exact Fix.hr);(case hp=>exact(Reps.none _ _));intro v10 w7 ho5 hb hg_ hnew_;clear hg_ hnew_;(first|rw[←Ny1.out]at ho5|(simp only[Int.reduceToNat]at ho5;rw[←Ny1.out]at ho5));have HO10:=C (Kd.R_lower (Kd.R_new' ho5 (Kd.R_lt (X (fR (Y HO5.out BK2.out (by decide))) (fun _ h_=>h_.1)))) (below_size uB));replace HO1:=C (Kd.R_below (X (fR (Y HO1.out BK2.out (by decide))) (fun _ h_=>h_.1)) hb);replace HO2:=C (Kd.Q_below (Kd.Q_mono (fQ (Kd.Q_types HO2.out BK2.out (by decide))) (fun _ h_=>h_.1)) hb);replace HO3:=C (Kd.R_below (X (fR (Y HO3.out BK2.out (by decide))) (fun _ h_=>h_.1)) hb);replace HO4:=C (Kd.R_below (X (fR (Y HO4.out BK2.out (by decide))) (fun _ h_=>h_.1)) hb);replace HO5:=C (Kd.R_elder' (X (fR (Y HO5.out BK2.out (by decide))) (fun _ h_=>h_.1)) (Kd.R_base ho5) hb);replace HO6:=C (Kd.R_below (X (fR (Y HO6.out BK2.out (by decide))) (fun _ h_=>h_.1)) hb);replace HO7:=C (Kd.Q_below (Kd.Q_mono (fQ (Kd.Q_types HO7.out BK2.out (by decide))) (fun _ h_=>h_.1)) hb);replace HO8:=C (Kd.R_below (X (fR (Y HO8.out BK2.out (by decide))) (fun _ h_=>h_.1)) hb);replace HO9:=C (Kd.R_below (X (fR (Y HO9.out BK2.out (by decide))) (fun _ h_=>h_.1)) hb);replace BK1:=eK BK1 hb;replace BK2:=C (blk_below (g:=gb2) (o:=.cells #[L Ao5 t21.length co5,V I t22,V I t23,V I t24,O t25,V I t26,O t27,V I t28,V I t29,L Ao6 t30.length co6,L Ao7 t31.length co7,V I t32,O t33,V I t34] 31 (0,0)) (bK BK2.out) hb);replace HB:=eB hb;clear hb ho5))
 go_loopg [11,12] k (fun kq v11 v12 w'=>∃(x1_1:List ByteArray) (x2_1:Int),v12=V I x2_1∧D (laws_FnScripts.l0 kq t18 t19 t20 t35 x1_1 x2_1 t21 t22 t23 t24 t25 t26 t27 t28 t29 t30 t31 t32 t33 t34=some r)∧D (kq≤k)∧D (Kd.R Kd.string 9 w' w.heap.size (fun k_=>qm k_ v11) v5 t19)∧D (Kd.R (Kd.int .i64) 3 w' w.heap.size (fun k_=>some k_≠Fix.o Ao2 t11.length co2∧some k_≠Fix.o Ao3 t12.length co3∧some k_≠Fix.o Ao6 t30.length co6∧some k_≠Fix.o Ao7 t31.length co7) v9 t35)∧D (Kd.R Kd.string 9 w' w.heap.size (fun k_=>qm k_ v5) v11 x1_1)∧D (Kd.R k26 26 w' w.heap.size (fun k_=>some k_≠Fix.o Ao5 t21.length co5) (L Ao1 t2.length co1) t2)∧D (Kd.Q (Kd.int .i64) 3 w' w.heap.size (fun k_=>qm k_ v9∧some k_≠Fix.o Ao3 t12.length co3∧some k_≠Fix.o Ao6 t30.length co6∧some k_≠Fix.o Ao7 t31.length co7) (L Ao2 t11.length co2) t11)∧D (Kd.R (Kd.int .i64) 3 w' w.heap.size (fun k_=>qm k_ v9∧some k_≠Fix.o Ao2 t11.length co2∧some k_≠Fix.o Ao6 t30.length co6∧some k_≠Fix.o Ao7 t31.length co7) (L Ao3 t12.length co3) t12)∧D (Kd.R k26 26 w' w.heap.size (fun k_=>some k_≠Fix.o Ao1 t2.length co1) (L Ao5 t21.length co5) t21)∧D (Kd.Q (Kd.int .i64) 3 w' w.heap.size (fun k_=>qm k_ v9∧some k_≠Fix.o Ao2 t11.length co2∧some k_≠Fix.o Ao3 t12.length co3∧some k_≠Fix.o Ao7 t31.length co7) (L Ao6 t30.length co6) t30)∧D (Kd.R (Kd.int .i64) 3 w' w.heap.size (fun k_=>qm k_ v9∧some k_≠Fix.o Ao2 t11.length co2∧some k_≠Fix.o Ao3 t12.length co3∧some k_≠Fix.o Ao6 t30.length co6) (L Ao7 t31.length co7) t31)∧D (w'.heap[gb1]? =some (.cells #[(L Ao1 t2.length co1),V I t3,V I t4,V I t5,O t6,V I t7,O t8,V I t9,V I t10,(L Ao2 t11.length co2),(L Ao3 t12.length co3),V I t13,O t14,V I t15] 31 (0,0)))∧D (w'.heap[gb2]? =some (.cells #[(L Ao5 t21.length co5),V I t22,V I t23,V I t24,O t25,V I t26,O t27,V I t28,V I t29,(L Ao6 t30.length co6),(L Ao7 t31.length co7),V I t32,O t33,V I t34] 31 (0,0)))∧D (Below w.heap.size w w'))
 case atStart=>exact⟨(y1),(0),rS,H',⟨Nat.le_refl _⟩,⟨X (fR HO5.out) (fun _ hk=>hk.2)⟩,⟨X (fR HO9.out) pj⟩,⟨X (fR HO10.out) (fun _ hk=>hk.2)⟩,⟨X (fR HO1.out) (fun _ hk=>hk.2)⟩,⟨Kd.Q_mono (fQ HO2.out) pj⟩,⟨X (fR HO3.out) pj⟩,⟨X (fR HO6.out) (fun _ hk=>hk.2)⟩,⟨Kd.Q_mono (fQ HO7.out) pj⟩,⟨X (fR HO8.out) pj⟩,⟨bK BK1.out⟩,⟨bK BK2.out⟩,⟨uB⟩⟩
 case round=>
  clear H'
  obtain⟨x1_1,x2_1,rfl,HA,HK1,HO_1,HO_2,HO_3,HO_4,HO_5,HO_6,HO_7,HO_8,HO_9,BK1,BK2,HB⟩:=hrel
  cases gk with
  |zero=>exact absurd HA.out (by simp[laws_FnScripts.l0])
  |succ k1=>
   have H:=HA.out
   clear HA
   simp only[laws_FnScripts.l0]at H
   by_cases c2:x2_1<(t35.length:Int)
   ·rw[if_pos c2]at H
    replace c2:=decide_eq_true c2
    obtain⟨c3,H⟩:=np H
    replace c3:=decide_eq_true c3
    obtain⟨t36,A6,H⟩:=bnd H
    obtain⟨c4,H⟩:=np H
    have LMc1:=C c4
    clear c4
    obtain⟨y2,hy2⟩:∃y_:List ByteArray,y_=(x1_1++ [t36]):=⟨_,rfl⟩
    replace H:(laws_FnScripts.l0 k1 t18 t19 t20 t35 y2 (wrap64 (x2_1+1)) t21 t22 t23 t24 t25 t26 t27 t28 t29 t30 t31 t32 t33 t34)=some r:=gy hy2 H
    have Ny2:=C hy2
    clear hy2
    have H':=C H
    clear H
    obtain⟨Ao8,co8,eo8⟩:=U HO_2.out
    subst eo8
    have p1:0≤(x2_1:Int):=oT
    have q1:x2_1<(t35.length:Int):=oT
    obtain⟨ad1,e1,hx1_0⟩:=Kd.at_int (Kd.R_reads' HO_2.out).2.2 x2_1 p1 q1
    cases e1
    replace p1:=eq_true p1
    replace q1:=eq_true q1
    go_wp2_with (first|((with_reducible refine F (f:=10) rfl ?_);refine gl 10 (some 48) func10 #[V I (rd t35 x2_1)] ?_;(with_reducible refine(impl_FormatInt.calls (rd t35 x2_1) t36 _ A6.out (Ito.on hTab.out uB)).mono ?_);rintro e w8 ⟨rfl,hb⟩;refine⟨_,rfl,?_⟩;replace HO_1:=eR HO_1 hb;replace HO_2:=eR HO_2 hb;replace HO_3:=eR HO_3 hb;replace HO_4:=eR HO_4 hb;replace HO_5:=eQ HO_5 hb;replace HO_6:=eR HO_6 hb;replace HO_7:=eR HO_7 hb;replace HO_8:=eQ HO_8 hb;replace HO_9:=eR HO_9 hb;replace BK1:=eK BK1 hb;replace BK2:=eK BK2 hb;replace HB:=eB hb;clear hb)|((with_reducible refine gate_builtin (b:=.append) (xs:= #[.tmp 43,.tmp 49]) rfl ?_);at_builtin;refine Kd.R_append Kd.string (w0:=w) w.heap.size rfl (.tmp 43) (.tmp 49) 37 9 (.string ⟨#[]⟩) 16 rfl underlying37 info9 rfl (by decide) (by omega) u11 x1_1 t36 [.string t36] (fun k_=>qm k_ v5) (fun _=>False) rfl rfl ?aP (fun _ hk=>hk.elim) ?aF ?aO ?aB ?aS ?aL ?_;(case aP=>exact rfl);(case aB=>exact uB);(case aF=>exact(fun k_ hk=>Kd.fresh' (Kd.R_lt (uR HO_1.out)) k_ hk));(case aO=>exact(uR HO_3.out));(case aS=>exact(below_size uB));(case aL=>have:=LMc1.out;omega);intro v13 w9 ho hb hg hat;rw[←Ny2.out]at ho;have HO11:=C (ho);replace HO_1:=C (Kd.R_after (ok:=(fun _=>True)) (X (fR HO_1.out) (fun _ hk=>⟨trivial,hk⟩)) hg hat);replace HO_2:=C (Kd.R_over' (uR HO_2.out) (Kd.R_typed (uR HO_3.out)) (by decide) hg);replace HO_4:=C (Kd.R_over' (uR HO_4.out) (Kd.R_typed (uR HO_3.out)) (by decide) hg);replace HO_5:=C (Kd.Q_over' (uQ HO_5.out) (Kd.R_typed (uR HO_3.out)) (by decide) hg);replace HO_6:=C (Kd.R_over' (uR HO_6.out) (Kd.R_typed (uR HO_3.out)) (by decide) hg);replace HO_7:=C (Kd.R_over' (uR HO_7.out) (Kd.R_typed (uR HO_3.out)) (by decide) hg);replace HO_8:=C (Kd.Q_over' (uQ HO_8.out) (Kd.R_typed (uR HO_3.out)) (by decide) hg);replace HO_9:=C (Kd.R_over' (uR HO_9.out) (Kd.R_typed (uR HO_3.out)) (by decide) hg);replace BK1:=gK BK1 hg (Kd.R_ne HO_3.out BK1.out (by decide));replace BK2:=gK BK2 hg (Kd.R_ne HO_3.out BK2.out (by decide));replace HB:=C (hb);clear HO_3;clear ho hb hg hat))
    go_roundg k1
    case measure=>have:=HK1.out;omega
    case rel=>exact⟨(y2),(wrap64 (x2_1+1)),rS,H',⟨by have:=HK1.out;omega⟩,⟨X (fR HO_1.out) (fun _ hk=>hk.2)⟩,⟨fR HO_2.out⟩,⟨fR HO11.out⟩,⟨fR HO_4.out⟩,⟨fQ HO_5.out⟩,⟨fR HO_6.out⟩,⟨fR HO_7.out⟩,⟨fQ HO_8.out⟩,⟨fR HO_9.out⟩,⟨bK BK1.out⟩,⟨bK BK2.out⟩,⟨uB⟩⟩
   rw[if_neg c2]at H
   replace c2:=decide_eq_false c2
   obtain⟨t36,A6,H⟩:=bnd H
   obtain⟨c3,H⟩:=np H
   have LMc1:=C c3
   clear c3
   obtain⟨y2,hy2⟩:∃y_:List ByteArray,y_=(x1_1++t36):=⟨_,rfl⟩
   replace H:(if t18=true then(if t20=true then((laws_sameTexts.f k1 t19 y2).bind fun t37=>(some t37)) else(some false)) else(some false))=some r:=gy hy2 H
   have Ny2:=C hy2
   clear hy2
   by_cases c4:t18=true
   rotate_left
   ·obtain rfl:=nt c4
    replace H:=nf H
    exact absurd (hT.out ▸ H) (by simp)
   subst c4
   rw[if_pos rfl]at H
   by_cases c5:t20=true
   rotate_left
   ·obtain rfl:=nt c5
    replace H:=nf H
    exact absurd (hT.out ▸ H) (by simp)
   subst c5
   rw[if_pos rfl]at H
   obtain⟨t37,A7,H⟩:=bnd H
   obtain rfl:=si H
   obtain⟨Ao8,co8,eo8⟩:=U HO_2.out
   subst eo8
   have:=n1.out
   have:=n0.out
   have h_:=d14 BK2.out;(repeat(obtain⟨_,h_⟩:=h_))
   go_wp2_with (first|((with_reducible refine F (f:=11) rfl ?_);refine gl 11 (some 53) func11 #[.agg #[L Ao5 t21.length co5,V I t22,V I t23,V I t24,O t25,V I t26,O t27,V I t28,V I t29,L Ao6 t30.length co6,L Ao7 t31.length co7,V I t32,O t33,V I t34]] ?_;(with_reducible refine(impl_FormatMachine.calls k1 _ _ t21 t22 t23 t24 t25 t26 t27 t28 t29 _ _ t30 _ _ t31 t32 t33 t34 t36 _ ?side1 ?side2 ?side3 ?side4 ?side5 ?side6 A6.out (Ito.on hTab.out uB)).mono ?_);(case side1=>exact uC (Kd.R_reads' HO_7.out).2.2);(case side2=>exact(Kd.R_reads' HO_7.out).2.1);(case side3=>exact uC (Kd.Q_reads' HO_8.out).2.2);(case side4=>exact(Kd.Q_reads' HO_8.out).2.1);(case side5=>exact uC (Kd.R_reads' HO_9.out).2.2);(case side6=>exact(Kd.R_reads' HO_9.out).2.1);rintro e w8 ⟨v13,rfl,ho1,hb⟩;refine⟨_,rfl,?_⟩;have HO11:=C (Kd.R_lower (Kd.R_new' (Kd.R_new' ho1 (Kd.R_lt (uR HO_1.out))) (Kd.R_lt (uR HO_3.out))) (below_size uB));replace HO_1:=C (Kd.R_elder' (uR HO_1.out) (Kd.R_base ho1) hb);replace HO_2:=eR HO_2 hb;replace HO_3:=C (Kd.R_elder' (uR HO_3.out) (Kd.R_base ho1) hb);replace HO_4:=eR HO_4 hb;replace HO_5:=eQ HO_5 hb;replace HO_6:=eR HO_6 hb;replace HO_7:=eR HO_7 hb;replace HO_8:=eQ HO_8 hb;replace HO_9:=eR HO_9 hb;replace BK1:=eK BK1 hb;replace BK2:=eK BK2 hb;replace HB:=eB hb;clear hb ho1;obtain⟨Ao9,co9,rfl⟩:=U HO11.out)|((with_reducible refine gate_builtin (b:=.append) (xs:= #[.tmp 51,.tmp 53]) rfl ?_);at_builtin;refine Kd.R_append_rows Kd.string (w0:=w) w.heap.size rfl (.tmp 51) (.tmp 53) 37 9 (.string ⟨#[]⟩) 16 rfl underlying37 info9 rfl (by decide) (by omega) u11 x1_1 t36 _ _ _ (fun k_=>qm k_ v5∧qn k_ Ao9 t36.length co9) (fun _=>False) rfl rfl ?aO ?aR (fun _ _ h=>h) (fun _ h=>h.elim) ?aF ?aB ?aS ?aL ?_;(case aR=>exact uC (Kd.R_reads' HO11.out).2.2);(case aB=>exact uB);(case aF=>exact(fun k_ hk=>⟨Kd.fresh' (Kd.R_lt (uR HO_1.out)) k_ hk,Kd.fresh' (Kd.R_lt (uR HO11.out)) k_ hk⟩));(case aO=>exact(uR HO_3.out));(case aS=>exact(below_size uB));(case aL=>have:=LMc1.out;omega);intro v14 w9 ho hb hg hat;rw[←Ny2.out]at ho;have HO12:=C (ho);replace HO_1:=C (Kd.R_after (ok:=(fun k_=>qn k_ Ao9 t36.length co9)) (X (fR HO_1.out) (fun _ hk=>⟨hk.2,hk.1⟩)) hg hat);replace HO_2:=C (Kd.R_over' (uR HO_2.out) (Kd.R_typed (uR HO_3.out)) (by decide) hg);replace HO_4:=C (Kd.R_over' (uR HO_4.out) (Kd.R_typed (uR HO_3.out)) (by decide) hg);replace HO_5:=C (Kd.Q_over' (uQ HO_5.out) (Kd.R_typed (uR HO_3.out)) (by decide) hg);replace HO_6:=C (Kd.R_over' (uR HO_6.out) (Kd.R_typed (uR HO_3.out)) (by decide) hg);replace HO_7:=C (Kd.R_over' (uR HO_7.out) (Kd.R_typed (uR HO_3.out)) (by decide) hg);replace HO_8:=C (Kd.Q_over' (uQ HO_8.out) (Kd.R_typed (uR HO_3.out)) (by decide) hg);replace HO_9:=C (Kd.R_over' (uR HO_9.out) (Kd.R_typed (uR HO_3.out)) (by decide) hg);replace BK1:=gK BK1 hg (Kd.R_ne HO_3.out BK1.out (by decide));replace BK2:=gK BK2 hg (Kd.R_ne HO_3.out BK2.out (by decide));replace HO11:=C (Kd.R_after (ok:=(fun k_=>qm k_ v5)) (X (fR HO11.out) (fun _ hk=>⟨hk.1.2,hk.2⟩)) hg hat);replace HB:=C (hb);clear HO_3;clear ho hb hg hat;obtain⟨Ao10,co10,rfl⟩:=U HO_1.out;obtain⟨Ao11,co11,rfl⟩:=U HO12.out)|(go_at_call 12;(with_reducible refine(laws_sameTexts.calls k1 _ _ t19 _ _ y2 t37 _ ?side1 ?side2 ?side3 ?side4 A7.out).mono ?_);(case side1=>exact uC (Kd.R_reads' HO_1.out).2.2);(case side2=>exact(Kd.R_reads' HO_1.out).2.1);(case side3=>exact uC (Kd.R_reads' HO12.out).2.2);(case side4=>exact(Kd.R_reads' HO12.out).2.1);rintro e w' ⟨rfl,⟨nd,rfl⟩⟩))
   go_ret
   exact⟨rE,uB⟩
end Go.Proofs.YtgdnlmfoghpeoaaGreatDoor.PFnScripts
