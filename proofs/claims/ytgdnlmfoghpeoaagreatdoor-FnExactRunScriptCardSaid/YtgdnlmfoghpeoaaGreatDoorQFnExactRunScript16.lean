/- Calls do what plain Lean functions say (FnExactRunScript). No condition. -/
import Derived.Test.YtgdnlmfoghpeoaaGreatDoorQFnExactRunScript0
import Derived.Test.YtgdnlmfoghpeoaaGreatDoorQFnExactRunScript8
import Derived.Test.YtgdnlmfoghpeoaaGreatDoorQFnExactRunScript9
import Derived.Test.YtgdnlmfoghpeoaaGreatDoorQFnExactRunScript15
namespace Go.Proofs.YtgdnlmfoghpeoaaGreatDoor.PFnExactRunScript
open Go.RowKit Go.Proofs.YtgdnlmfoghpeoaaGreatDoorW.PrintWords Go.Proofs.YtgdnlmfoghpeoaaGreatDoorW.PrintLast Go.Proofs.YtgdnlmfoghpeoaaGreatDoorW.PrintMore
open Tryz
open Fix (bK bnd d14 d4 dB eB eK eQ eR fQ fR gE gK gl gs gy hx lR nf np nt nu oL oT ou pu qm qn rE rS si uB uC uP uQ uR)
open Go.Value renaming int→V,slice→L,bool→O
open Go.IntKind renaming i64→I
open Go.Proofs.YtgdnlmfoghpeoaaGreatDoorW.PrintWords.Aside0 renaming mk→C
open Go.Proofs.YtgdnlmfoghpeoaaGreatDoorW.PrintWords renaming Aside0→D,gate_callee→F
open Go.Proofs.YtgdnlmfoghpeoaaGreatDoorW.PrintWords.Kd renaming R_mono→X,R_slice→U
attribute [local go_sem] max2_int min2_int max_two min_two max_three min_three max_four min_four
attribute [local go_sem] Fix.isSome_setCell
set_option linter.unusedVariables false
set_option maxHeartbeats 40000000
set_option maxRecDepth 100000
set_option linter.unusedSimpArgs false
mutual
def spec_RunScript.l0:Nat→ByteArray→List ByteArray→List (S55)→Int→Int→Option (List ByteArray×Bool)
 |0,_,_,_,_,_=>none
 |k+1,x0,x4,x5,x6,x7=>if x7≤(x0.size:Int) then(if x7<(x0.size:Int) then(if 0≤x7 then(spec_RunScript.j1 k x0 x4 x5 x6 x7 ((bt x0 x7) !=10)) else(none)) else(spec_RunScript.j1 k x0 x4 x5 x6 x7 false)) else(if(x5.length:Int) >40 then(some (x4,false)) else((spec_RunActs.f k ([]:List (S26)) 0 0 0 false 0 false 0 0 ([]:List Int) ([]:List Int) 0 false 0 x5).bind fun bt1010=>(spec_RunScript.l1 k bt1010.2.2.2.2.2.2.2.2.2.2.2.2.2.2 (([]:List ByteArray)) 0 bt1010.1 bt1010.2.1 bt1010.2.2.1 bt1010.2.2.2.1 bt1010.2.2.2.2.1 bt1010.2.2.2.2.2.1 bt1010.2.2.2.2.2.2.1 bt1010.2.2.2.2.2.2.2.1 bt1010.2.2.2.2.2.2.2.2.1 bt1010.2.2.2.2.2.2.2.2.2.1 bt1010.2.2.2.2.2.2.2.2.2.2.1 bt1010.2.2.2.2.2.2.2.2.2.2.2.1 bt1010.2.2.2.2.2.2.2.2.2.2.2.2.1 bt1010.2.2.2.2.2.2.2.2.2.2.2.2.2.1)))
def spec_RunScript.j1:Nat→ByteArray→List ByteArray→List (S55)→Int→Int→Bool→Option (List ByteArray×Bool)
 |0,_,_,_,_,_,_=>none
 |k+1,x0,x4,x5,x6,x7,x38=>if x38=true then(spec_RunScript.l0 k x0 x4 x5 x6 (wrap64 (x7+1))) else(if 0≤x6 then(if x6≤x7 then(if x7≤(x0.size:Int) then((spec_SplitFields.f k (x0.extract (x6:Int).toNat (x7:Int).toNat)).bind fun bt997=>(if bt997.2=true then(spec_RunScript.j2 k x0 x4 x5 (wrap64 (x7+1)) x7 (x0.extract (x6:Int).toNat (x7:Int).toNat) ((bt997.1.length:Int)==0)) else(spec_RunScript.j2 k x0 x4 x5 (wrap64 (x7+1)) x7 (x0.extract (x6:Int).toNat (x7:Int).toNat) false))) else(none)) else(none)) else(none))
def spec_RunScript.j2:Nat→ByteArray→List ByteArray→List (S55)→Int→Int→ByteArray→Bool→Option (List ByteArray×Bool)
 |0,_,_,_,_,_,_,_=>none
 |k+1,x0,x4,x5,x6,x7,x8,x55=>if x55=true then(spec_RunScript.l0 k x0 x4 x5 x6 (wrap64 (x7+1))) else((spec_ParseAct.f k x8).bind fun bt1001=>(if bt1001.2.2.2.2=true then(if x5.length<4398046511104 then(spec_RunScript.l0 k x0 x4 (x5++ [(⟨bt1001.1,bt1001.2.1,bt1001.2.2.1,bt1001.2.2.2.1⟩:S55)]) x6 (wrap64 (x7+1))) else(none)) else(some (x4,false))))
def spec_RunScript.l1:Nat→List Int→List ByteArray→Int→List (S26)→Int→Int→Int→Bool→Int→Bool→Int→Int→List Int→List Int→Int→Bool→Int→Option (List ByteArray×Bool)
 |0,_,_,_,_,_,_,_,_,_,_,_,_,_,_,_,_,_=>none
 |k+1,x14,x15,x16,x1034000,x1034001,x1034002,x1034003,x1034004,x1034005,x1034006,x1034007,x1034008,x1034009,x1034010,x1034011,x1034012,x1034013=>if x16<(x14.length:Int) then(if 0≤x16 then((spec_FormatInt.f k (rd x14 x16)).bind fun t1038=>(if x15.length<8796093022208 then(spec_RunScript.l1 k x14 (x15++ [t1038]) (wrap64 (x16+1)) x1034000 x1034001 x1034002 x1034003 x1034004 x1034005 x1034006 x1034007 x1034008 x1034009 x1034010 x1034011 x1034012 x1034013) else(none))) else(none)) else((spec_FormatMachine.f k x1034000 x1034001 x1034002 x1034003 x1034004 x1034005 x1034006 x1034007 x1034008 x1034009 x1034010 x1034011 x1034012 x1034013).bind fun t1042=>(if x15.length+t1042.length<8796093022208 then(some ((x15++t1042),true)) else(none)))
end
def spec_RunScript.f (k:Nat) (a0:ByteArray):Option (List ByteArray×Bool):=(some (([]:List ByteArray):List ByteArray)).bind fun y991=>(if(a0.size:Int) >20000 then(some (y991,false)) else(spec_RunScript.l0 k a0 y991 (([]:List (S55))) 0 0))
theorem spec_RunScript.W1 {p:Prop} (h:p:=by
 go_wp2
 go_meet
 first
  |(case rel=>exact⟨_,(((bt a0 x3_1) !=10)),rS,H',⟨by have:=HK1.out;first|omega|exact Nat.le_refl _⟩,⟨fR HO_1.out⟩,⟨fR HO_2.out⟩,⟨uB⟩⟩)
  |(case rel=>exact⟨_,(false),rS,H',⟨by have:=HK1.out;first|omega|exact Nat.le_refl _⟩,⟨fR HO_1.out⟩,⟨fR HO_2.out⟩,⟨uB⟩⟩)
  |(case rel=>exact⟨_,(((t1.length:Int)==0)),rS,H',⟨by have:=HK1.out;have:=HJ1.out;first|omega|exact Nat.le_refl _⟩,⟨X (fR HO_1.out) (fun _ hk=>trivial)⟩,⟨fR HO_2.out⟩,⟨uB⟩⟩)
  |(case rel=>exact⟨_,(false),rS,H',⟨by have:=HK1.out;have:=HJ1.out;first|omega|exact Nat.le_refl _⟩,⟨X (fR HO_1.out) (fun _ hk=>trivial)⟩,⟨fR HO_2.out⟩,⟨uB⟩⟩)):p:=h
theorem spec_RunScript.W2 {p:Prop} (h:p:=by
 go_wp2_with (first|((with_reducible refine F (f:=31) rfl ?_);refine gl 31 (some 58) func31 #[.string (a0.extract (x2_1:Int).toNat (x3_1:Int).toNat)] ?_;(with_reducible refine(spec_ParseAct.calls kj18 (a0.extract (x2_1:Int).toNat (x3_1:Int).toNat) t3 t4 t5 t6 false _ A2.out).mono ?_);rintro e w4 ⟨rfl,hb⟩;refine⟨_,rfl,?_⟩;replace HO_1:=eR HO_1 hb;replace HO_2:=eR HO_2 hb;replace HB:=eB hb;clear hb)|((with_reducible refine gate_dst (N:=11) rfl ?_);(try(refine gate_guard (by rfl) ?_;dsimp only));refine Fix.be 11 #[V I 0,V I 0,V I 0,V I 0] 55 ?_;intro gb1 hg w5 BK1 hb;have GW1:=gE (w:=w) hg;replace HO_1:=eR HO_1 hb;replace HO_2:=C (Kd.R_below (Kd.R_elderB (uR HO_2.out) gb1 (Nat.le_of_eq hg.symm)) hb);replace HB:=eB hb;clear hb hg;obtain⟨_,_,_,_,_,_,_,_⟩:=d4 BK1.out)|((with_reducible refine F (f:=34) rfl ?_);refine gl 34 (some 95) func34 #[.agg #[L Ao2 t1.length co2,V I t2,V I t3,V I t4,O t5,V I t6,O t7,V I t8,V I t9,L Ao3 t10.length co3,L Ao4 t11.length co4,V I t12,O t13,V I t14]] ?_;(with_reducible refine(spec_FormatMachine.calls k2 _ _ t1 t2 t3 t4 t5 t6 t7 t8 t9 _ _ t10 _ _ t11 t12 t13 t14 t16 _ ?side1 ?side2 ?side3 ?side4 ?side5 ?side6 A2.out).mono ?_);(case side1=>exact uC (Kd.R_reads' HO_5.out).2.2);(case side2=>exact(Kd.R_reads' HO_5.out).2.1);(case side3=>exact uC (Kd.Q_reads' HO_6.out).2.2);(case side4=>exact(Kd.Q_reads' HO_6.out).2.1);(case side5=>exact uC (Kd.R_reads' HO_7.out).2.2);(case side6=>exact(Kd.R_reads' HO_7.out).2.1);rintro e w6 ⟨v11,rfl,ho3,hb⟩;refine⟨_,rfl,?_⟩;have HO8:=C (Kd.R_lower (Kd.R_new' ho3 (Kd.R_lt (uR HO_4.out))) (below_size uB));replace HO_3:=eR HO_3 hb;replace HO_4:=C (Kd.R_elder' (uR HO_4.out) (Kd.R_base ho3) hb);replace HO_5:=eR HO_5 hb;replace HO_6:=eQ HO_6 hb;replace HO_7:=eR HO_7 hb;replace BK1:=eK BK1 hb;replace HB:=eB hb;clear hb ho3;obtain⟨Ao6,co6,rfl⟩:=U HO8.out)|((with_reducible refine gate_builtin (b:=.append) (xs:= #[.tmp 93,.tmp 95]) rfl ?_);(try(refine gate_guard (by rfl) ?_;dsimp only));at_builtin;refine Kd.R_append_rows Kd.string (w0:=w) w.heap.size rfl (.tmp 93) (.tmp 95) 37 9 (.string ⟨#[]⟩) 16 rfl underlying37 info9 rfl (by decide) (by omega) u15 x4_2 t16 _ _ _ (fun k_=>qn k_ Ao6 t16.length co6) (fun _=>False) rfl rfl ?aO ?aR (fun _ _ h=>h) (fun _ h=>h.elim) ?aF ?aB ?aS ?aL ?_;(case aR=>exact uC (Kd.R_reads' HO8.out).2.2);(case aB=>exact uB);(case aF=>exact(fun k_ hk=>Kd.fresh' (Kd.R_lt (uR HO8.out)) k_ hk));(case aO=>exact(X (fR HO_4.out) (fun _ hk=>hk.2)));(case aS=>exact(below_size uB));(case aL=>have:=LMc1.out;omega);intro v12 w7 ho hb hg hat;rw[←Ny4.out]at ho;have HO9:=C (ho);replace HO_3:=C (Kd.R_over' (uR HO_3.out) (Kd.R_typed (uR HO_4.out)) (by decide) hg);replace HO_5:=C (Kd.R_over' (uR HO_5.out) (Kd.R_typed (uR HO_4.out)) (by decide) hg);replace HO_6:=C (Kd.Q_over' (uQ HO_6.out) (Kd.R_typed (uR HO_4.out)) (by decide) hg);replace HO_7:=C (Kd.R_over' (uR HO_7.out) (Kd.R_typed (uR HO_4.out)) (by decide) hg);replace BK1:=gK BK1 hg (Kd.R_ne HO_4.out BK1.out (by decide));replace HO8:=C (Kd.R_after (ok:=(fun _=>True)) (uR HO8.out) hg hat);replace HB:=C (hb);clear HO_4;clear ho hb hg hat))
 go_ret2
 first
  |(exact⟨_,rE,X (fR (Kd.R_types HO_1.out BK1.out (by decide))) (fun _ hk=>trivial),uB⟩)
  |(exact⟨_,rE,X (fR HO9.out) (fun _ hk=>trivial),uB⟩)):p:=h
theorem spec_RunScript.calls (k:Nat) (a0:ByteArray) (r1:List ByteArray) (r2:Bool) (w:World) (h:spec_RunScript.f k a0=some (r1,r2)):
 Calls prog 13 #[.string a0] w fun e w'=>∃v0_:Value,e=.returned (.tuple #[v0_,O r2])∧Kd.R Kd.string 9 w' w.heap.size (fun _=>True) v0_ r1∧Below w.heap.size w w':=by
 have hu1:=underlying55
 have hu2:=underlying31
 have HB:=C (Below.refl w.heap.size w)
 have H:=h
 unfold spec_RunScript.f at H
 clear h
 obtain⟨y1,hy1⟩:∃y_:List ByteArray,y_=(([]:List ByteArray)):=⟨_,rfl⟩
 replace H:(if(a0.size:Int) >20000 then(some (y1,false)) else(spec_RunScript.l0 k a0 y1 (([]:List (S55))) 0 0))=some (r1,r2):=gy hy1 H
 have Ny1:=C hy1
 clear hy1
 by_cases c1:(a0.size:Int) >20000
 ·rw[if_pos c1]at H
  have c1b0:decide (20000<(a0.size:Int))=true:=decide_eq_true c1
  have c1b1:decide (20000<a0.size)=true:=decide_eq_true (by omega)
  clear c1
  simp only[Option.some.injEq,Prod.mk.injEq]at H
  obtain⟨rfl,rfl⟩:=H
  go_enter func13,ntmps13
  go_wp2_with (first|((with_reducible refine gate_dst (N:=17) rfl ?_);(try(refine gate_guard (by rfl) ?_;dsimp only));refine Kd.R_lit Kd.string _ 9 ?hg (N:=17) ?hd (xs:=([]:List ByteArray)) (inner:= []) (ok:=fun _=>True) (okp:=fun _=>True) ?hr ?hp (fun _ hk=>hk) trivial (Below.refl _ _) (Nat.le_refl _) (by simp) ?_;(case hd=>rfl);(case hg=>rfl);(case hr=>exact Fix.hr);(case hp=>exact(Reps.none _ _));intro v1 w1 ho1 hb hg_ hnew_;clear hg_ hnew_;(first|rw[←Ny1.out]at ho1|(simp only[Int.reduceToNat]at ho1;rw[←Ny1.out]at ho1));have HO1:=lR ho1;replace HB:=eB hb;clear hb ho1))
  go_ret2
  exact⟨_,rE,fR HO1.out,uB⟩
 rw[if_neg c1]at H
 have c1b0:decide (20000<(a0.size:Int))=false:=decide_eq_false c1
 have c1b1:decide (20000<a0.size)=false:=decide_eq_false (by omega)
 clear c1
 obtain⟨y2,hy2⟩:∃y_:List (S55),y_=(([]:List (S55))):=⟨_,rfl⟩
 replace H:(spec_RunScript.l0 k a0 y1 y2 0 0)=some (r1,r2):=gy hy2 H
 have Ny2:=C hy2
 clear hy2
 have H':=C H
 clear H
 go_enter func13,ntmps13
 go_wp2_with (first|((with_reducible refine gate_dst (N:=17) rfl ?_);(try(refine gate_guard (by rfl) ?_;dsimp only));refine Kd.R_lit Kd.string _ 9 ?hg (N:=17) ?hd (xs:=([]:List ByteArray)) (inner:= []) (ok:=fun _=>True) (okp:=fun _=>True) ?hr ?hp (fun _ hk=>hk) trivial (Below.refl _ _) (Nat.le_refl _) (by simp) ?_;(case hd=>rfl);(case hg=>rfl);(case hr=>exact Fix.hr);(case hp=>exact(Reps.none _ _));intro v1 w1 ho1 hb hg_ hnew_;clear hg_ hnew_;(first|rw[←Ny1.out]at ho1|(simp only[Int.reduceToNat]at ho1;rw[←Ny1.out]at ho1));have HO1:=lR ho1;replace HB:=eB hb;clear hb ho1)|((with_reducible refine gate_dst (N:=22) rfl ?_);(try(refine gate_guard (by rfl) ?_;dsimp only));refine Kd.R_lit k55 _ 55 ?hg (N:=22) ?hd (xs:=([]:List (S55))) (inner:= []) (ok:=fun _=>True) (okp:=fun _=>True) ?hr ?hp (fun _ hk=>hk) trivial (Below.refl _ _) (Nat.le_refl _) (by simp) ?_;(case hd=>rfl);(case hg=>rfl);(case hr=>exact Fix.hr);(case hp=>exact(Reps.none _ _));intro v2 w2 ho2 hb hg_ hnew_;clear hg_ hnew_;(first|rw[←Ny2.out]at ho2|(simp only[Int.reduceToNat]at ho2;rw[←Ny2.out]at ho2));have HO2:=lR ho2;replace HO1:=eR HO1 hb;replace HB:=eB hb;clear hb ho2))
 go_loopg [5,6,7] k (fun kq v5 v6 v7 w'=>∃(x1_1:List (S55)) (x2_1:Int) (x3_1:Int),v6=V I x2_1∧v7=V I x3_1∧D (spec_RunScript.l0 kq a0 y1 x1_1 x2_1 x3_1=some (r1,r2))∧D (kq≤k)∧D (Kd.R Kd.string 9 w' w.heap.size (fun _=>True) v1 y1)∧D (Kd.R k55 55 w' w.heap.size (fun _=>True) v5 x1_1)∧D (Below w.heap.size w w'))
 case atStart=>exact⟨(y2),(0),(0),rS,rS,H',⟨Nat.le_refl _⟩,⟨fR HO1.out⟩,⟨fR HO2.out⟩,⟨uB⟩⟩
 case round=>
  clear H'
  obtain⟨x1_1,x2_1,x3_1,rfl,rfl,HA,HK1,HO_1,HO_2,HB⟩:=hrel
  cases gk with
  |zero=>exact absurd HA.out (by simp[spec_RunScript.l0])
  |succ k1=>
   have H:=HA.out
   clear HA
   simp only[spec_RunScript.l0]at H
   by_cases c2:x3_1≤(a0.size:Int)
   ·rw[if_pos c2]at H
    replace c2:=decide_eq_true c2
    have HC1:=C H
    clear H
    go_upto_region 9 with(fail)
    go_cut [38] (fun v38 wc=>∃(kq:Nat) (x4_9:Bool),v38=O x4_9∧D (spec_RunScript.j1 kq a0 y1 x1_1 x2_1 x3_1 x4_9=some (r1,r2))∧D (kq≤k1)∧D (Kd.R Kd.string 9 wc w.heap.size (fun _=>True) v1 y1)∧D (Kd.R k55 55 wc w.heap.size (fun _=>True) u5 x1_1)∧D (Below w.heap.size w wc))
    case first=>
     have H:=HC1.out
     clear HC1
     by_cases c3:x3_1<(a0.size:Int)
     rotate_left
     ·rw[if_neg c3]at H
      have c3b0:decide (x3_1<(a0.size:Int))=false:=decide_eq_false c3
      clear c3
      (first|rw[c3b0]|(simp only[i64_w,i32_w];rw[c3b0])|skip)
      have H':=C H
      clear H
      exact spec_RunScript.W1
     rw[if_pos c3]at H
     have c3b0:decide (x3_1<(a0.size:Int))=true:=decide_eq_true c3
     clear c3
     (first|rw[c3b0]|(simp only[i64_w,i32_w];rw[c3b0])|skip)
     obtain⟨c4,H⟩:=np H
     have c4b0:decide (0≤x3_1)=true:=decide_eq_true c4
     clear c4
     have H':=C H
     clear H
     have p1:0≤(x3_1:Int):=oT
     have q1:x3_1<(a0.size:Int):=oT
     have hx1:=bt_at a0 x3_1
     replace p1:=eq_true p1
     replace q1:=eq_true q1
     exact spec_RunScript.W1
    case rest=>
     clear HC1
     obtain⟨kq,x4_9,rfl,HA,HJ1,HO_1,HO_2,HB⟩:=hcut
     cases kq with
     |zero=>exact absurd HA.out (by simp[spec_RunScript.j1])
     |succ kj9=>
      have H:=HA.out
      clear HA
      simp only[spec_RunScript.j1]at H
      by_cases c3:x4_9=true
      ·subst c3
       rw[if_pos rfl]at H
       have H':=C H
       clear H
       go_wp2
       go_roundg kj9
       case measure=>have:=HK1.out;have:=HJ1.out;omega
       case rel=>exact⟨(x1_1),(x2_1),(wrap64 (x3_1+1)),rS,rS,H',⟨by have:=HK1.out;have:=HJ1.out;omega⟩,⟨fR HO_1.out⟩,⟨fR HO_2.out⟩,⟨uB⟩⟩
      obtain rfl:=nt c3
      replace H:=nf H
      obtain⟨c4,H⟩:=np H
      have c4b0:=eq_true c4
      have c4b1:decide (0≤x2_1)=true:=decide_eq_true c4
      clear c4
      obtain⟨c5,H⟩:=np H
      have c5b0:=eq_true c5
      have c5b1:decide (x2_1≤x3_1)=true:=decide_eq_true c5
      clear c5
      obtain⟨c6,H⟩:=np H
      have c6b0:=eq_true c6
      have c6b1:decide (x3_1≤(a0.size:Int))=true:=decide_eq_true c6
      clear c6
      obtain⟨⟨t1,t2⟩,A1,H⟩:=bnd H
      dsimp only at H
      have HC2:=C H
      clear H
      go_upto_region 13 with(first|((with_reducible refine F (f:=30) rfl ?_);refine gl 30 (some 47) func30 #[.string (a0.extract (x2_1:Int).toNat (x3_1:Int).toNat)] ?_;(with_reducible refine(spec_SplitFields.calls kj9 (a0.extract (x2_1:Int).toNat (x3_1:Int).toNat) t1 t2 _ A1.out).mono ?_);rintro e w3 ⟨v3,rfl,ho3,hb⟩;refine⟨_,rfl,?_⟩;have HO3:=C (Kd.R_lower (Kd.R_new' ho3 (Kd.R_lt (uR HO_1.out))) (below_size uB));replace HO_1:=C (Kd.R_elder' (uR HO_1.out) (Kd.R_base ho3) hb);replace HO_2:=eR HO_2 hb;replace HB:=eB hb;clear hb ho3))
      (try simp only[Act.put,List.setIfInBounds_toArray,List.set_cons_zero,List.set_cons_succ])
      go_cut [55] (fun v55 wc=>∃(kq:Nat) (x5_18:Bool),v55=O x5_18∧D (spec_RunScript.j2 kq a0 y1 x1_1 (wrap64 (x3_1+1)) x3_1 (a0.extract (x2_1:Int).toNat (x3_1:Int).toNat) x5_18=some (r1,r2))∧D (kq≤kj9)∧D (Kd.R Kd.string 9 wc w.heap.size (fun _=>True) v1 y1)∧D (Kd.R k55 55 wc w.heap.size (fun _=>True) u5 x1_1)∧D (Below w.heap.size w wc))
      case first=>
       have H:=HC2.out
       clear HC2
       by_cases c7:t2=true
       rotate_left
       ·obtain rfl:=nt c7
        replace H:=nf H
        have H':=C H
        clear H
        exact spec_RunScript.W1
       subst c7
       rw[if_pos rfl]at H
       have H':=C H
       clear H
       obtain⟨Ao1,co1,eo1⟩:=U HO3.out
       subst eo1
       exact spec_RunScript.W1
      case rest=>
       clear HC2
       obtain⟨kq,x5_18,rfl,HA,HJ2,HO_1,HO_2,HB⟩:=hcut
       cases kq with
       |zero=>exact absurd HA.out (by simp[spec_RunScript.j2])
       |succ kj18=>
        have H:=HA.out
        clear HA
        simp only[spec_RunScript.j2]at H
        by_cases c7:x5_18=true
        ·subst c7
         rw[if_pos rfl]at H
         have H':=C H
         clear H
         go_wp2
         go_roundg kj18
         case measure=>have:=HK1.out;have:=HJ1.out;have:=HJ2.out;omega
         case rel=>exact⟨(x1_1),((wrap64 (x3_1+1))),(wrap64 (x3_1+1)),rS,rS,H',⟨by have:=HK1.out;have:=HJ1.out;have:=HJ2.out;omega⟩,⟨fR HO_1.out⟩,⟨fR HO_2.out⟩,⟨uB⟩⟩
        obtain rfl:=nt c7
        replace H:=nf H
        obtain⟨⟨t3,t4,t5,t6,t7⟩,A2,H⟩:=bnd H
        dsimp only at H
        by_cases c8:t7=true
        rotate_left
        ·obtain rfl:=nt c8
         replace H:=nf H
         simp only[Option.some.injEq,Prod.mk.injEq]at H
         obtain⟨rfl,rfl⟩:=H
         exact spec_RunScript.W2
        subst c8
        rw[if_pos rfl]at H
        obtain⟨c9,H⟩:=np H
        have LMc1:=C c9
        clear c9
        obtain⟨y3,hy3⟩:∃y_:List (S55),y_=(x1_1++ [(⟨t3,t4,t5,t6⟩:S55)]):=⟨_,rfl⟩
        replace H:(spec_RunScript.l0 kj18 a0 y1 y3 (wrap64 (x3_1+1)) (wrap64 (x3_1+1)))=some (r1,r2):=gy hy3 H
        have Ny3:=C hy3
        clear hy3
        have H':=C H
        clear H
        go_wp2_with (first|((with_reducible refine F (f:=31) rfl ?_);refine gl 31 (some 58) func31 #[.string (a0.extract (x2_1:Int).toNat (x3_1:Int).toNat)] ?_;(with_reducible refine(spec_ParseAct.calls kj18 (a0.extract (x2_1:Int).toNat (x3_1:Int).toNat) t3 t4 t5 t6 true _ A2.out).mono ?_);rintro e w4 ⟨rfl,hb⟩;refine⟨_,rfl,?_⟩;replace HO_1:=eR HO_1 hb;replace HO_2:=eR HO_2 hb;replace HB:=eB hb;clear hb)|((with_reducible refine gate_dst (N:=11) rfl ?_);(try(refine gate_guard (by rfl) ?_;dsimp only));refine Fix.be 11 #[V I 0,V I 0,V I 0,V I 0] 55 ?_;intro gb1 hg w5 BK1 hb;have GW1:=gE (w:=w) hg;have GE1:=GW1;replace HO_1:=eR HO_1 hb;replace HO_2:=C (Kd.R_below (Kd.R_elderB (uR HO_2.out) gb1 (Nat.le_of_eq hg.symm)) hb);replace HB:=eB hb;clear hb hg;obtain⟨_,_,_,_,_,_,_,_⟩:=d4 BK1.out)|((with_reducible refine gate_builtin (b:=.append) (xs:= #[.tmp 64,.tmp 66]) rfl ?_);(try(refine gate_guard (by rfl) ?_;dsimp only));at_builtin;refine Kd.R_append k55 (w0:=w) w.heap.size rfl (.tmp 64) (.tmp 66) 32 55 (.agg #[(V I 0),(V I 0),(V I 0),(V I 0)]) 32 rfl underlying32 info55 rfl (by decide) (by omega) u5 x1_1 (⟨t3,t4,t5,t6⟩:S55) [V I t3,V I t4,V I t5,V I t6] (fun k_=>k_≠gb1) (fun _=>False) rfl (by first|(go_simp;done)|(go_simp;rfl)) ?aP (fun _ hk=>hk.elim) ?aF ?aO ?aB ?aS ?aL ?_;(case aP=>exact k55_mkM _ _ _ (⟨t3,t4,t5,t6⟩:S55));(case aB=>exact uB);(case aF=>exact(fun k_ hk=>Kd.freshB (g:=gb1) (o:=.cells #[V I t3,V I t4,V I t5,V I t6] 55 (0,0)) (bK BK1.out) k_ hk));(case aO=>exact(X (fR (X HO_2.out (fun k_ hk=>(⟨hk,hk.2⟩:_∧k_≠gb1)))) (fun _ hk=>hk.1.2)));(case aS=>exact(below_size uB));(case aL=>have:=LMc1.out;omega);intro v4 w6 ho hb hg hat;rw[←Ny3.out]at ho;have HO4:=C (ho);replace HO_1:=C (Kd.R_over' (X (fR (Kd.R_types HO_1.out BK1.out (by decide))) (fun _ h_=>h_.1)) (Kd.R_typed (X (fR (X HO_2.out (fun k_ hk=>(⟨hk,hk.2⟩:_∧k_≠gb1)))) (fun _ h_=>h_.1))) (by decide) hg);replace BK1:=C (blk_grown (g:=gb1) (o:=.cells #[V I t3,V I t4,V I t5,V I t6] 55 (0,0)) (bK BK1.out) hg (Kd.R_away HO_2.out (fun _ hk=>hk.2)));replace HB:=C (hb);clear HO_2;clear ho hb hg hat))
        go_roundg kj18
        case measure=>have:=HK1.out;have:=HJ1.out;have:=HJ2.out;omega
        case rel=>exact⟨(y3),((wrap64 (x3_1+1))),(wrap64 (x3_1+1)),rS,rS,H',⟨by have:=HK1.out;have:=HJ1.out;have:=HJ2.out;omega⟩,⟨fR HO_1.out⟩,⟨X (fR HO4.out) (fun _ hk=>trivial)⟩,⟨uB⟩⟩
   rw[if_neg c2]at H
   replace c2:=decide_eq_false c2
   by_cases c3:(x1_1.length:Int) >40
   ·rw[if_pos c3]at H
    have c3b0:decide (40<(x1_1.length:Int))=true:=decide_eq_true c3
    have c3b1:decide (40<x1_1.length)=true:=decide_eq_true (by omega)
    clear c3
    simp only[Option.some.injEq,Prod.mk.injEq]at H
    obtain⟨rfl,rfl⟩:=H
    obtain⟨Ao1,co1,eo1⟩:=U HO_2.out
    subst eo1
    go_wp2
    go_ret2
    exact⟨_,rE,fR HO_1.out,uB⟩
   rw[if_neg c3]at H
   have c3b0:decide (40<(x1_1.length:Int))=false:=decide_eq_false c3
   have c3b1:decide (40<x1_1.length)=false:=decide_eq_false (by omega)
   clear c3
   obtain⟨⟨t1,t2,t3,t4,t5,t6,t7,t8,t9,t10,t11,t12,t13,t14,t15⟩,A1,H⟩:=bnd H
   dsimp only at H
   obtain⟨y3,hy3⟩:∃y_:List ByteArray,y_=(([]:List ByteArray)):=⟨_,rfl⟩
   replace H:(spec_RunScript.l1 k1 t15 y3 0 t1 t2 t3 t4 t5 t6 t7 t8 t9 t10 t11 t12 t13 t14)=some (r1,r2):=gy hy3 H
   have Ny3:=C hy3
   clear hy3
   have H':=C H
   clear H
   obtain⟨Ao1,co1,eo1⟩:=U HO_2.out
   subst eo1
   go_wp2_with (first|((with_reducible refine F (f:=32) rfl ?_);refine gl 32 (some 75) func32 #[.agg #[L none 0 0,V I 0,V I 0,V I 0,O false,V I 0,O false,V I 0,V I 0,L none 0 0,L none 0 0,V I 0,O false,V I 0],L Ao1 x1_1.length co1] ?_;(refine(spec_RunActs.calls k1 _ _ ([]:List (S26)) 0 0 0 false 0 false 0 0 _ _ ([]:List Int) _ _ ([]:List Int) 0 false 0 _ _ x1_1 t1 t2 t3 t4 t5 t6 t7 t8 t9 t10 t11 t12 t13 t14 t15 _ ?side1 ?side2 ?side3 ?side4 ?side5 ?side6 ?side7 ?side8 A1.out).mono ?_);(case side1=>exact Kd.C_nil _ _);(case side2=>exact Nat.le_refl _);(case side3=>exact Kd.C_nil _ _);(case side4=>exact Nat.le_refl _);(case side5=>exact Kd.C_nil _ _);(case side6=>exact Nat.le_refl _);(case side7=>exact uC (Kd.R_reads' HO_2.out).2.2);(case side8=>exact(Kd.R_reads' HO_2.out).2.1);rintro e w3 ⟨v3,v4,v8,v9,rfl,ho3,ho4,ho5,ho6,hb⟩;refine⟨_,rfl,?_⟩;have HO3:=lR ho3;have HO4:=C (Kd.Q_lower ho4 (below_size uB));have HO5:=lR ho5;have HO6:=lR ho6;replace HO_1:=eR HO_1 hb;replace HO_2:=eR HO_2 hb;replace HB:=eB hb;clear hb ho3 ho4 ho5 ho6)|((with_reducible refine gate_dst (N:=13) rfl ?_);(try(refine gate_guard (by rfl) ?_;dsimp only));refine Fix.be 13 #[L none 0 0,V I 0,V I 0,V I 0,O false,V I 0,O false,V I 0,V I 0,L none 0 0,L none 0 0,V I 0,O false,V I 0] 31 ?_;intro gb1 hg w4 BK1 hb;have GW1:=gE (w:=w) hg;have GE1:=GW1;replace HO_1:=eR HO_1 hb;replace HO_2:=eR HO_2 hb;replace HO3:=eR HO3 hb;replace HO4:=eQ HO4 hb;replace HO5:=eR HO5 hb;replace HO6:=eR HO6 hb;replace HB:=eB hb;clear hb hg;obtain⟨Ao2,co2,rfl⟩:=U HO3.out;have h_:=d14 BK1.out;(repeat(obtain⟨_,h_⟩:=h_));obtain⟨Ao3,co3,eo3,_⟩:=Kd.Q_slice HO4.out;subst eo3;obtain⟨Ao4,co4,rfl⟩:=U HO5.out)|((with_reducible refine gate_dst (N:=78) rfl ?_);(try(refine gate_guard (by rfl) ?_;dsimp only));refine Kd.R_lit Kd.string _ 9 ?hg (N:=78) ?hd (xs:=([]:List ByteArray)) (inner:= []) (ok:=fun _=>True) (okp:=fun _=>True) ?hr ?hp (fun _ hk=>hk) trivial (Below.refl _ _) (Nat.le_refl _) (by simp) ?_;(case hd=>rfl);(case hg=>rfl);(case hr=>exact Fix.hr);(case hp=>exact(Reps.none _ _));intro v10 w5 ho7 hb hg_ hnew_;clear hg_ hnew_;(first|rw[←Ny3.out]at ho7|(simp only[Int.reduceToNat]at ho7;rw[←Ny3.out]at ho7));have HO7:=C (Kd.R_lower (Kd.R_new' ho7 (Kd.R_lt (X (fR (Kd.R_types HO_1.out BK1.out (by decide))) (fun _ h_=>h_.1)))) (below_size uB));replace HO_1:=C (Kd.R_elder' (X (fR (Kd.R_types HO_1.out BK1.out (by decide))) (fun _ h_=>h_.1)) (Kd.R_base ho7) hb);replace HO_2:=C (Kd.R_below (X (fR (Kd.R_types HO_2.out BK1.out (by decide))) (fun _ h_=>h_.1)) hb);replace HO3:=C (Kd.R_below (X (fR (Kd.R_types HO3.out BK1.out (by decide))) (fun _ h_=>h_.1)) hb);replace HO4:=C (Kd.Q_below (Kd.Q_mono (fQ (Kd.Q_types HO4.out BK1.out (by decide))) (fun _ h_=>h_.1)) hb);replace HO5:=C (Kd.R_below (X (fR (Kd.R_types HO5.out BK1.out (by decide))) (fun _ h_=>h_.1)) hb);replace HO6:=C (Kd.R_below (X (fR (Kd.R_types HO6.out BK1.out (by decide))) (fun _ h_=>h_.1)) hb);replace BK1:=C (blk_below (g:=gb1) (o:=.cells #[L Ao2 t1.length co2,V I t2,V I t3,V I t4,O t5,V I t6,O t7,V I t8,V I t9,L Ao3 t10.length co3,L Ao4 t11.length co4,V I t12,O t13,V I t14] 31 (0,0)) (bK BK1.out) hb);replace HB:=eB hb;clear hb ho7))
   go_loopg [15,16] k1 (fun kq v15 v16 w'=>∃(x4_2:List ByteArray) (x5_2:Int),v16=V I x5_2∧D (spec_RunScript.l1 kq t15 x4_2 x5_2 t1 t2 t3 t4 t5 t6 t7 t8 t9 t10 t11 t12 t13 t14=some (r1,r2))∧D (kq≤k1)∧D (Kd.R (Kd.int .i64) 3 w' w.heap.size (fun k_=>some k_≠Fix.o Ao3 t10.length co3∧some k_≠Fix.o Ao4 t11.length co4) v9 t15)∧D (Kd.R Kd.string 9 w' w.heap.size (fun _=>True) v15 x4_2)∧D (Kd.R k26 26 w' w.heap.size (fun _=>True) (L Ao2 t1.length co2) t1)∧D (Kd.Q (Kd.int .i64) 3 w' w.heap.size (fun k_=>qm k_ v9∧some k_≠Fix.o Ao4 t11.length co4) (L Ao3 t10.length co3) t10)∧D (Kd.R (Kd.int .i64) 3 w' w.heap.size (fun k_=>qm k_ v9∧some k_≠Fix.o Ao3 t10.length co3) (L Ao4 t11.length co4) t11)∧D (w'.heap[gb1]? =some (.cells #[(L Ao2 t1.length co2),V I t2,V I t3,V I t4,O t5,V I t6,O t7,V I t8,V I t9,(L Ao3 t10.length co3),(L Ao4 t11.length co4),V I t12,O t13,V I t14] 31 (0,0)))∧D (Below w.heap.size w w'))
   case atStart=>exact⟨(y3),(0),rS,H',⟨Nat.le_refl _⟩,⟨fR HO6.out⟩,⟨X (fR HO7.out) (fun _ hk=>trivial)⟩,⟨fR HO3.out⟩,⟨Kd.Q_mono (fQ HO4.out) (fun _ hk=>⟨hk.2,hk.1⟩)⟩,⟨X (fR HO5.out) (fun _ hk=>⟨hk.2,hk.1⟩)⟩,⟨bK BK1.out⟩,⟨uB⟩⟩
   case round=>
    clear H'
    obtain⟨x4_2,x5_2,rfl,HA,HK2,HO_3,HO_4,HO_5,HO_6,HO_7,BK1,HB⟩:=hrel
    cases gk with
    |zero=>exact absurd HA.out (by simp[spec_RunScript.l1])
    |succ k2=>
     have H:=HA.out
     clear HA
     simp only[spec_RunScript.l1]at H
     by_cases c4:x5_2<(t15.length:Int)
     rotate_left
     ·rw[if_neg c4]at H
      have c4b0:decide (x5_2<(t15.length:Int))=false:=decide_eq_false c4
      clear c4
      obtain⟨t16,A2,H⟩:=bnd H
      obtain⟨c5,H⟩:=np H
      have LMc1:=C c5
      clear c5
      obtain⟨y4,hy4⟩:∃y_:List ByteArray,y_=(x4_2++t16):=⟨_,rfl⟩
      replace H:(some (y4,true))=some (r1,r2):=gy hy4 H
      have Ny4:=C hy4
      clear hy4
      simp only[Option.some.injEq,Prod.mk.injEq]at H
      obtain⟨rfl,rfl⟩:=H
      obtain⟨Ao5,co5,eo5⟩:=U HO_3.out
      subst eo5
      have h_:=d14 BK1.out;(repeat(obtain⟨_,h_⟩:=h_))
      exact spec_RunScript.W2
     rw[if_pos c4]at H
     have c4b0:decide (x5_2<(t15.length:Int))=true:=decide_eq_true c4
     clear c4
     obtain⟨c5,H⟩:=np H
     have c5b0:decide (0≤x5_2)=true:=decide_eq_true c5
     clear c5
     obtain⟨t16,A2,H⟩:=bnd H
     obtain⟨c6,H⟩:=np H
     have LMc1:=C c6
     clear c6
     obtain⟨y4,hy4⟩:∃y_:List ByteArray,y_=(x4_2++ [t16]):=⟨_,rfl⟩
     replace H:(spec_RunScript.l1 k2 t15 y4 (wrap64 (x5_2+1)) t1 t2 t3 t4 t5 t6 t7 t8 t9 t10 t11 t12 t13 t14)=some (r1,r2):=gy hy4 H
     have Ny4:=C hy4
     clear hy4
     have H':=C H
     clear H
     obtain⟨Ao5,co5,eo5⟩:=U HO_3.out
     subst eo5
     have p1:0≤(x5_2:Int):=oT
     have q1:x5_2<(t15.length:Int):=oT
     obtain⟨ad1,e1,hx1_0⟩:=Kd.at_int (Kd.R_reads' HO_3.out).2.2 x5_2 p1 q1
     cases e1
     replace p1:=eq_true p1
     replace q1:=eq_true q1
     go_wp2_with (first|((with_reducible refine F (f:=33) rfl ?_);refine gl 33 (some 90) func33 #[V I (rd t15 x5_2)] ?_;(with_reducible refine(spec_FormatInt.calls k2 (rd t15 x5_2) t16 _ A2.out).mono ?_);rintro e w6 ⟨rfl,hb⟩;refine⟨_,rfl,?_⟩;replace HO_3:=eR HO_3 hb;replace HO_4:=eR HO_4 hb;replace HO_5:=eR HO_5 hb;replace HO_6:=eQ HO_6 hb;replace HO_7:=eR HO_7 hb;replace BK1:=eK BK1 hb;replace HB:=eB hb;clear hb)|((with_reducible refine gate_builtin (b:=.append) (xs:= #[.tmp 85,.tmp 91]) rfl ?_);(try(refine gate_guard (by rfl) ?_;dsimp only));at_builtin;refine Kd.R_append Kd.string (w0:=w) w.heap.size rfl (.tmp 85) (.tmp 91) 37 9 (.string ⟨#[]⟩) 16 rfl underlying37 info9 rfl (by decide) (by omega) u15 x4_2 t16 [.string t16] (fun _=>True) (fun _=>False) rfl rfl ?aP (fun _ hk=>hk.elim) ?aF ?aO ?aB ?aS ?aL ?_;(case aP=>exact rfl);(case aB=>exact uB);(case aF=>exact(fun _ _=>trivial));(case aO=>exact(uR HO_4.out));(case aS=>exact(below_size uB));(case aL=>have:=LMc1.out;omega);intro v11 w7 ho hb hg hat;rw[←Ny4.out]at ho;have HO8:=C (ho);replace HO_3:=C (Kd.R_over' (uR HO_3.out) (Kd.R_typed (uR HO_4.out)) (by decide) hg);replace HO_5:=C (Kd.R_over' (uR HO_5.out) (Kd.R_typed (uR HO_4.out)) (by decide) hg);replace HO_6:=C (Kd.Q_over' (uQ HO_6.out) (Kd.R_typed (uR HO_4.out)) (by decide) hg);replace HO_7:=C (Kd.R_over' (uR HO_7.out) (Kd.R_typed (uR HO_4.out)) (by decide) hg);replace BK1:=gK BK1 hg (Kd.R_ne HO_4.out BK1.out (by decide));replace HB:=C (hb);clear HO_4;clear ho hb hg hat))
     go_roundg k2
     case measure=>have:=HK1.out;have:=HK2.out;omega
     case rel=>exact⟨(y4),(wrap64 (x5_2+1)),rS,H',⟨by have:=HK1.out;have:=HK2.out;omega⟩,⟨fR HO_3.out⟩,⟨fR HO8.out⟩,⟨fR HO_5.out⟩,⟨fQ HO_6.out⟩,⟨fR HO_7.out⟩,⟨bK BK1.out⟩,⟨uB⟩⟩
def laws_eqStringS.l0:Nat→List ByteArray→List ByteArray→Int→Option (Bool)
 |0,_,_,_=>none
 |k+1,x0,x1,x5=>if x5<(x0.length:Int) then(if 0≤x5 then(if x5<(x1.length:Int) then(if(rdOf ByteArray.empty x0 x5).toList=(rdOf ByteArray.empty x1 x5).toList then(laws_eqStringS.l0 k x0 x1 (wrap64 (x5+1))) else(some false)) else(none)) else(none)) else(some true)
def laws_eqStringS.f (k:Nat) (l0:List ByteArray) (l1:List ByteArray):Option (Bool):=if(l0.length:Int)=(l1.length:Int) then(laws_eqStringS.l0 k l0 l1 0) else(some false)
theorem laws_eqStringS.W1 {p:Prop} (h:p:=by
 go_wp2
 repeat(go_quiet (fail);try go_wp2)
 go_ret
 exact⟨by first|rfl|(simp;done)|(simp[*];done),by repeat(first|exact Drawn0.refl _|apply Drawn0.step)⟩):p:=h
theorem laws_eqStringS.calls (k:Nat) (A0:Option Addr) (c0:Nat) (l0:List ByteArray) (A1:Option Addr) (c1:Nat) (l1:List ByteArray) (r:Bool) (w:World) (hr0:Kd.C Kd.string w A0 l0.length l0) (hc0:l0.length≤c0) (hr1:Kd.C Kd.string w A1 l1.length l1) (hc1:l1.length≤c1) (h:laws_eqStringS.f k l0 l1=some r):
 Calls prog 14 #[L A0 l0.length c0,L A1 l1.length c1] w fun e w'=>e=.returned (O r)∧Drawn0 w w':=by
 have HR1:=C hr0
 have HC1:=C hc0
 (try clear hr0);(try clear hc0)
 have HR2:=C hr1
 have HC2:=C hc1
 (try clear hr1);(try clear hc1)
 have H:=h
 unfold laws_eqStringS.f at H
 clear h
 by_cases c1:(l0.length:Int)=(l1.length:Int)
 rotate_left
 ·rw[if_neg c1]at H
  have c1b0:((l0.length:Int)==(l1.length:Int))=false:=beq_eq_false_iff_ne.mpr c1
  have c1b1:((l0.length:Int) !=(l1.length:Int))=true:=bne_iff_ne.mpr c1
  have c1b2:(l0.length==l1.length)=false:=by first|simpa using c1|(simp at c1 ⊢;omega)
  obtain rfl:=si H
  go_enter func14,ntmps14
  go_wp2
  repeat(go_quiet (fail);try go_wp2)
  go_ret
  exact⟨by first|rfl|(simp;done)|(simp[*];done),by repeat(first|exact Drawn0.refl _|apply Drawn0.step)⟩
 rw[if_pos c1]at H
 have c1b0:((l0.length:Int)==(l1.length:Int))=true:=beq_iff_eq.mpr c1
 have c1b1:((l0.length:Int) !=(l1.length:Int))=false:=bne_eq_false_iff_eq.mpr c1
 have c1b2:(l0.length==l1.length)=true:=by first|simpa using c1|(simp at c1 ⊢;omega)
 clear c1
 have H':=C H
 clear H
 go_enter func14,ntmps14
 go_wp2
 repeat(go_quiet (fail);try go_wp2)
 go_loopg [5] k (fun kq v5 w'=>∃(x1_1:Int),v5=V I x1_1∧D (laws_eqStringS.l0 kq l0 l1 x1_1=some r)∧D (kq≤k)∧Drawn0 w w')
 case atStart=>exact⟨(0),rS,H',⟨Nat.le_refl _⟩,by repeat(first|exact Drawn0.refl _|apply Drawn0.step)⟩
 case round=>
  clear H'
  obtain⟨x1_1,rfl,HA,HK1,⟨m1,rfl⟩⟩:=hrel
  cases gk with
  |zero=>exact absurd HA.out (by simp[laws_eqStringS.l0])
  |succ k1=>
   have H:=HA.out
   clear HA
   simp only[laws_eqStringS.l0]at H
   by_cases c2:x1_1<(l0.length:Int)
   rotate_left
   ·rw[if_neg c2]at H
    replace c2:=decide_eq_false c2
    obtain rfl:=si H
    exact laws_eqStringS.W1
   rw[if_pos c2]at H
   replace c2:=decide_eq_true c2
   obtain⟨c3,H⟩:=np H
   replace c3:=decide_eq_true c3
   obtain⟨c4,H⟩:=np H
   replace c4:=decide_eq_true c4
   by_cases c5:(rdOf ByteArray.empty l0 x1_1).toList=(rdOf ByteArray.empty l1 x1_1).toList
   rotate_left
   ·rw[if_neg c5]at H
    have c5b0:((rdOf ByteArray.empty l0 x1_1).toList==(rdOf ByteArray.empty l1 x1_1).toList)=false:=beq_eq_false_iff_ne.mpr c5
    have c5b1:((rdOf ByteArray.empty l0 x1_1).toList !=(rdOf ByteArray.empty l1 x1_1).toList)=true:=bne_iff_ne.mpr c5
    obtain rfl:=si H
    have p1:0≤(x1_1:Int):=oT
    have q1:x1_1<(l0.length:Int):=oT
    obtain⟨ad1,e1,hx1_0⟩:=Kd.at_string HR1.out x1_1 p1 q1
    cases e1
    replace p1:=eq_true p1
    replace q1:=eq_true q1
    have p2:0≤(x1_1:Int):=oT
    have q2:x1_1<(l1.length:Int):=oT
    obtain⟨ad2,e2,hx2_0⟩:=Kd.at_string HR2.out x1_1 p2 q2
    cases e2
    replace p2:=eq_true p2
    replace q2:=eq_true q2
    exact laws_eqStringS.W1
   rw[if_pos c5]at H
   have c5b0:((rdOf ByteArray.empty l0 x1_1).toList==(rdOf ByteArray.empty l1 x1_1).toList)=true:=beq_iff_eq.mpr c5
   have c5b1:((rdOf ByteArray.empty l0 x1_1).toList !=(rdOf ByteArray.empty l1 x1_1).toList)=false:=bne_eq_false_iff_eq.mpr c5
   clear c5
   have H':=C H
   clear H
   have p1:0≤(x1_1:Int):=oT
   have q1:x1_1<(l0.length:Int):=oT
   obtain⟨ad1,e1,hx1_0⟩:=Kd.at_string HR1.out x1_1 p1 q1
   cases e1
   replace p1:=eq_true p1
   replace q1:=eq_true q1
   have p2:0≤(x1_1:Int):=oT
   have q2:x1_1<(l1.length:Int):=oT
   obtain⟨ad2,e2,hx2_0⟩:=Kd.at_string HR2.out x1_1 p2 q2
   cases e2
   replace p2:=eq_true p2
   replace q2:=eq_true q2
   go_wp2
   repeat(go_quiet (fail);try go_wp2)
   go_roundg k1
   case measure=>have:=HK1.out;omega
   case rel=>exact⟨(wrap64 (x1_1+1)),rS,H',⟨by have:=HK1.out;omega⟩,by repeat(first|exact Drawn0.refl _|apply Drawn0.step)⟩
def laws_markText.l0:Nat→Int→ByteArray→Option (ByteArray)
 |0,_,_=>none
 |k+1,x0,x3=>if x0 >0 then((some (([(wrap64 (48+(Int.tmod x0 10))) % 256]:List Int):List Int)).bind fun y1050=>(if(strOfNums y1050).size+x3.size≤9223372036854775807 then(laws_markText.l0 k (wrap64 (Int.tdiv x0 10)) ((strOfNums y1050)++x3)) else(none))) else(if 1+x3.size≤9223372036854775807 then(some ((⟨#[109]⟩:ByteArray)++x3)) else(none))
def laws_markText.f (k:Nat) (a0:Int):Option (ByteArray):=if a0≤0 then(some (⟨#[109,48]⟩:ByteArray)) else(laws_markText.l0 k a0 (⟨#[]⟩:ByteArray))
theorem laws_markText.calls (k:Nat) (a0:Int) (r:ByteArray) (w:World) (h:laws_markText.f k a0=some r):
 Calls prog 35 #[V I a0] w fun e w'=>e=.returned (.string r)∧Below w.heap.size w w':=by
 have HB:=C (Below.refl w.heap.size w)
 have H:=h
 unfold laws_markText.f at H
 clear h
 by_cases c1:a0≤0
 ·rw[if_pos c1]at H
  replace c1:=decide_eq_true c1
  obtain rfl:=si H
  go_enter func35,ntmps35
  go_wp2
  go_ret
  exact⟨rE,uB⟩
 rw[if_neg c1]at H
 replace c1:=decide_eq_false c1
 have H':=C H
 clear H
 go_enter func35,ntmps35
 go_wp2
 go_loopg [0,3] k (fun kq v0 v3 w'=>∃(x1_1:Int) (x2_1:ByteArray),v0=V I x1_1∧v3=.string x2_1∧D (laws_markText.l0 kq x1_1 x2_1=some r)∧D (kq≤k)∧D (Below w.heap.size w w'))
 case atStart=>exact⟨(a0),((⟨#[]⟩:ByteArray)),rS,rS,H',⟨Nat.le_refl _⟩,⟨uB⟩⟩
 case round=>
  clear H'
  obtain⟨x1_1,x2_1,rfl,rfl,HA,HK1,HB⟩:=hrel
  cases gk with
  |zero=>exact absurd HA.out (by simp[laws_markText.l0])
  |succ k1=>
   have H:=HA.out
   clear HA
   simp only[laws_markText.l0]at H
   by_cases c2:x1_1 >0
   rotate_left
   ·rw[if_neg c2]at H
    replace c2:=decide_eq_false c2
    obtain⟨c3,H⟩:=np H
    have c3b0:=eq_true c3
    have c3b1:decide (1+x2_1.size≤9223372036854775807)=true:=decide_eq_true c3
    try have c3b2:(9223372036854775807<1+x2_1.size)=False:=eq_false (Nat.not_lt.2 c3)
    try(have h1_:=c3;simp only[ByteArray.size_append,Ito.bsz,List.size_toArray,List.length_cons,List.length_nil]at h1_;have c3b3:=eq_false (Nat.not_lt.2 h1_);clear h1_)
    obtain rfl:=si H
    go_wp2
    go_ret
    exact⟨rE,uB⟩
   rw[if_pos c2]at H
   replace c2:=decide_eq_true c2
   obtain⟨y1,hy1⟩:∃y_:List Int,y_=(([(wrap64 (48+(Int.tmod x1_1 10))) % 256]:List Int)):=⟨_,rfl⟩
   replace H:(if(strOfNums y1).size+x2_1.size≤9223372036854775807 then(laws_markText.l0 k1 (wrap64 (Int.tdiv x1_1 10)) ((strOfNums y1)++x2_1)) else(none))=some r:=gy hy1 H
   have Ny1:=C hy1
   clear hy1
   obtain⟨c3,H⟩:=np H
   have c3b0:=eq_true c3
   have c3b1:decide ((strOfNums y1).size+x2_1.size≤9223372036854775807)=true:=decide_eq_true c3
   try have c3b2:(9223372036854775807<(strOfNums y1).size+x2_1.size)=False:=eq_false (Nat.not_lt.2 c3)
   try(have h1_:=c3;simp only[ByteArray.size_append,Ito.bsz,List.size_toArray,List.length_cons,List.length_nil]at h1_;have c3b3:=eq_false (Nat.not_lt.2 h1_);clear h1_)
   have H':=C H
   clear H
   go_wp2_with (first|((with_reducible refine gate_dst (N:=12) rfl ?_);refine Kd.R_lit (Kd.int .u8) _ 5 ?hg (N:=12) ?hd (xs:=([(wrap64 (48+(Int.tmod x1_1 10))) % 256]:List Int)) (inner:= [.int .u8 ((wrap64 (48+(Int.tmod x1_1 10))) % 256)]) (ok:=fun _=>True) (okp:=fun _=>True) ?hr ?hp (fun _ hk=>hk) trivial (Below.refl _ _) (Nat.le_refl _) (by simp) ?_;(case hd=>rfl);(case hg=>rfl);(case hr=>exact Fix.hr);(case hp=>exact(Reps.one (show Kd.M (Kd.int .u8) _ _ _ ((wrap64 (48+(Int.tmod x1_1 10))) % 256) [.int .u8 ((wrap64 (48+(Int.tmod x1_1 10))) % 256)] from rfl) (Reps.none _ _)));intro v1 w1 ho1 hb hg_ hnew_;clear hg_ hnew_;(first|rw[←Ny1.out]at ho1|(simp only[Int.reduceToNat]at ho1;rw[←Ny1.out]at ho1));have HO1:=lR ho1;replace HB:=eB hb;clear hb ho1;have hcv1:=own_string (P:=prog) underlying22 underlying5 underlying9 (Kd.own_of_R HO1.out)))
   go_roundg k1
   case measure=>have:=HK1.out;omega
   case rel=>exact⟨(wrap64 (Int.tdiv x1_1 10)),((strOfNums y1)++x2_1),rS,rS,H',⟨by have:=HK1.out;omega⟩,⟨uB⟩⟩
def laws_markStringS.l0:Nat→List ByteArray→Int→Int→Option (Int×List ByteArray)
 |0,_,_,_=>none
 |k+1,x0,x1,x5=>if x5<(x0.length:Int) then((laws_markText.f k x1).bind fun t1053=>(if 0≤x5 then(laws_markStringS.l0 k (x0.set (x5:Int).toNat t1053) (wrap64 (x1+1)) (wrap64 (x5+1))) else(none))) else(some (x1,x0))
def laws_markStringS.f (k:Nat) (l0:List ByteArray) (a1:Int):Option (Int×List ByteArray):=laws_markStringS.l0 k l0 a1 0
theorem laws_markStringS.calls (k:Nat) (P0_:Nat→Prop) (u9000_:Value) (l0:List ByteArray) (a1:Int) (r1:Int) (r2:List ByteArray) (w0 w:World) (hB:Below w0.heap.size w0 w) (ho0:Kd.Q Kd.string 9 w w0.heap.size P0_ u9000_ l0) (h:laws_markStringS.f k l0 a1=some (r1,r2)):
 Calls prog 15 #[u9000_,V I a1] w fun e w'=>e=.returned (V I r1)∧Kd.Q Kd.string 9 w' w0.heap.size (fun k_=>(P0_ k_∨w.heap.size≤k_)) u9000_ r2∧Below w0.heap.size w0 w'∧Kept w w' (fun k_=>P0_ k_):=by
 have HO1:=C (show Kd.Q Kd.string 9 w w0.heap.size (fun k_=>(P0_ k_∨w.heap.size≤k_)) u9000_ l0 from Kd.Q_mono ho0 (fun k_ hk=>(.inl hk)))
 have HK:=C (Kept.refl w (fun k_=>P0_ k_))
 have HW1:=C hB.size
 have HB:=C hB
 clear hB
 have H:=h
 unfold laws_markStringS.f at H
 clear h
 have H':=C H
 clear H
 go_enter func15,ntmps15
 go_wp2
 go_loopg [1,5] k (fun kq v1 v5 w'=>∃(x1_1:List ByteArray) (x2_1:Int) (x3_1:Int),v1=V I x2_1∧v5=V I x3_1∧D (laws_markStringS.l0 kq x1_1 x2_1 x3_1=some (r1,r2))∧D (kq≤k)∧D (Kd.Q Kd.string 9 w' w0.heap.size (fun k_=>(P0_ k_∨w.heap.size≤k_)) u9000_ x1_1)∧D (Kept w w' (fun k_=>P0_ k_))∧D (Below w0.heap.size w0 w'))
 case atStart=>exact⟨(l0),(a1),(0),rS,rS,H',⟨Nat.le_refl _⟩,⟨fQ HO1.out⟩,⟨uP⟩,⟨uB⟩⟩
 case round=>
  clear H'
  obtain⟨x1_1,x2_1,x3_1,rfl,rfl,HA,HK1,HO_1,HK,HB⟩:=hrel
  cases gk with
  |zero=>exact absurd HA.out (by simp[laws_markStringS.l0])
  |succ k1=>
   have H:=HA.out
   clear HA
   simp only[laws_markStringS.l0]at H
   by_cases c1:x3_1<(x1_1.length:Int)
   rotate_left
   ·rw[if_neg c1]at H
    replace c1:=decide_eq_false c1
    simp only[Option.some.injEq,Prod.mk.injEq]at H
    obtain⟨rfl,rfl⟩:=H
    obtain⟨Ao1,co1,eo1,_⟩:=Kd.Q_slice HO_1.out
    subst eo1
    go_wp2
    go_ret
    exact⟨rE,fQ HO_1.out,uB,uP⟩
   rw[if_pos c1]at H
   replace c1:=decide_eq_true c1
   obtain⟨t1,A1,H⟩:=bnd H
   obtain⟨c2,H⟩:=np H
   replace c2:=decide_eq_true c2
   obtain⟨y1,hy1⟩:∃y_:List ByteArray,y_=(x1_1.set (x3_1:Int).toNat t1):=⟨_,rfl⟩
   replace H:(laws_markStringS.l0 k1 y1 (wrap64 (x2_1+1)) (wrap64 (x3_1+1)))=some (r1,r2):=gy hy1 H
   have Ny1:=C hy1
   clear hy1
   have H':=C H
   clear H
   obtain⟨Ao1,co1,eo1,_⟩:=Kd.Q_slice HO_1.out
   subst eo1
   go_wp2_with (first|((with_reducible refine F (f:=35) rfl ?_);refine gl 35 (some 15) func35 #[V I x2_1] ?_;(with_reducible refine(laws_markText.calls k1 x2_1 t1 _ A1.out).mono ?_);rintro e w2 ⟨rfl,hb⟩;refine⟨_,rfl,?_⟩;replace HO_1:=eQ HO_1 hb;replace HK:=C (Kept.below (S:=(fun k_=>P0_ k_)) (show Kept w _ _ from uP) hb);replace HB:=eB hb;clear hb;have p1:0≤(x3_1:Int):=oT;have q1:(x3_1:Int)<((x1_1.length:Int):Int):=oT;obtain⟨go1,oo1,co2,eo2,gb1,gl1,cl1,HG1⟩:=Kd.Q_form HO_1.out (by omega);(first|cases eo2|(injection eo2 with ea_ en_ ec_;(first|subst ea_|(injection ea_ with ea_;subst ea_));subst ec_;clear en_));have GB1:=C gb1;have GG1:=C HG1;clear gb1 gl1 HG1;have HMgo1:=C (show(P0_ go1∨w.heap.size≤go1) from(HO_1.out.1 _ rfl));obtain⟨hx1_0,hf1_0⟩:=Kd.Q_cell (⟨#[]⟩:ByteArray) HO_1.out (x3_1:Int) p1 q1;replace p1:=eq_true p1;replace q1:=eq_true q1;obtain⟨hy2_,hz1_⟩:=Kd.Q_cell (⟨#[]⟩:ByteArray) HO_1.out (x3_1:Int) oT oT;have HP1:=Kd.Q_putg HO_1.out (x3_1:Int) oT (by have h_:(x3_1:Int)<((x1_1.length:Int):Int):=oT;first|exact h_|(have e_:=(Kd.Q_reads' HO_1.out).1;omega)|simpa using h_) t1)|((with_reducible refine gate_store (t:=9) (p:=16) rfl ?_);refine store_event (t:=9) (p:=16) (v:= ?vo_w1) (w1:=(w2.setCell ⟨go1,oo1+(x3_1:Int).toNat,none⟩ (.string t1))) ?hg ?ho ?hn ?hr ?_;(case ho=>rfl);(case hg=>rfl);(case hn=>rfl);(case hr=>exact Fix.hr);intro w3 hw;have hg:w2.grownBy w3 (some go1):=(by rw[hw];exact HP1.2);have hp_:Kd.Q Kd.string 9 w3 w0.heap.size (fun k_=>(P0_ k_∨w.heap.size≤k_)) (L (some ⟨go1,oo1,none⟩) x1_1.length co1) y1:=(by rw[hw,Ny1.out];exact HP1.1);clear HP1;replace HB:=C ((by rw[hw];exact below_set (HB.out) GB1.out:Below w0.heap.size w0 w3));replace HK:=C (Kept.of_grown (S:=(fun k_=>P0_ k_)) hg (show Kept w _ _ from uP) (fun k_ e_=>(HO_1.out.1 k_ e_)));replace HO_1:=C (hp_);clear hg hw hp_))
   go_roundg k1
   case measure=>have:=HK1.out;omega
   case rel=>exact⟨(y1),(wrap64 (x2_1+1)),(wrap64 (x3_1+1)),rS,rS,H',⟨by have:=HK1.out;omega⟩,⟨fQ HO_1.out⟩,⟨uP⟩,⟨uB⟩⟩
def laws_heldStringS.l0:Nat→List ByteArray→Int→Int→Option (Int)
 |0,_,_,_=>none
 |k+1,x0,x1,x5=>if x5<(x0.length:Int) then(if 0≤x5 then((laws_markText.f k x1).bind fun t1056=>(if(rdOf ByteArray.empty x0 x5).toList=t1056.toList then(laws_heldStringS.l0 k x0 (wrap64 (x1+1)) (wrap64 (x5+1))) else(some (-1)))) else(none)) else(some x1)
def laws_heldStringS.f (k:Nat) (l0:List ByteArray) (a1:Int):Option (Int):=laws_heldStringS.l0 k l0 a1 0
theorem laws_heldStringS.calls (k:Nat) (A0:Option Addr) (c0:Nat) (l0:List ByteArray) (a1:Int) (r:Int) (w:World) (hr0:Kd.C Kd.string w A0 l0.length l0) (hc0:l0.length≤c0) (h:laws_heldStringS.f k l0 a1=some r):
 Calls prog 16 #[L A0 l0.length c0,V I a1] w fun e w'=>e=.returned (V I r)∧Below w.heap.size w w':=by
 have HR1:=C hr0
 have HC1:=C hc0
 (try clear hr0);(try clear hc0)
 have HB:=C (Below.refl w.heap.size w)
 have H:=h
 unfold laws_heldStringS.f at H
 clear h
 have H':=C H
 clear H
 go_enter func16,ntmps16
 go_wp2
 go_loopg [1,5] k (fun kq v1 v5 w'=>∃(x1_1:Int) (x2_1:Int),v1=V I x1_1∧v5=V I x2_1∧D (laws_heldStringS.l0 kq l0 x1_1 x2_1=some r)∧D (kq≤k)∧D (Below w.heap.size w w'))
 case atStart=>exact⟨(a1),(0),rS,rS,H',⟨Nat.le_refl _⟩,⟨uB⟩⟩
 case round=>
  clear H'
  obtain⟨x1_1,x2_1,rfl,rfl,HA,HK1,HB⟩:=hrel
  cases gk with
  |zero=>exact absurd HA.out (by simp[laws_heldStringS.l0])
  |succ k1=>
   have H:=HA.out
   clear HA
   simp only[laws_heldStringS.l0]at H
   by_cases c1:x2_1<(l0.length:Int)
   rotate_left
   ·rw[if_neg c1]at H
    replace c1:=decide_eq_false c1
    obtain rfl:=si H
    go_wp2
    go_ret
    exact⟨rE,uB⟩
   rw[if_pos c1]at H
   replace c1:=decide_eq_true c1
   obtain⟨c2,H⟩:=np H
   replace c2:=decide_eq_true c2
   obtain⟨t1,A1,H⟩:=bnd H
   by_cases c3:(rdOf ByteArray.empty l0 x2_1).toList=t1.toList
   rotate_left
   ·rw[if_neg c3]at H
    have c3b0:((rdOf ByteArray.empty l0 x2_1).toList==t1.toList)=false:=beq_eq_false_iff_ne.mpr c3
    have c3b1:((rdOf ByteArray.empty l0 x2_1).toList !=t1.toList)=true:=bne_iff_ne.mpr c3
    obtain rfl:=si H
    try go_wp2
    replace HB:=dB HB
    have p1:0≤(x2_1:Int):=oT
    have q1:x2_1<(l0.length:Int):=oT
    obtain⟨ad1,e1,hx1_0⟩:=Kd.at_string HR1.out x2_1 p1 q1
    have hw1_0:=hx1_0
    cases e1
    replace hx1_0:=hx HB hx1_0
    replace p1:=eq_true p1
    replace q1:=eq_true q1
    refine start_ (n:=7) (S:=fun w'=>w'.cell? (ad1.add (x2_1).toNat)=some (.string (rdOf ByteArray.empty l0 x2_1))) (ds:= []) #[false,false,false,false,false,false,false] (by kernel_rfl) rfl rfl (((HB.out.cell (World.block_lt_of_cell? w _ hw1_0)).trans hw1_0)) (fun hHeld=> ?_)
    generalize wr.drew=w1 at HB hx1_0 hHeld ⊢
    refine pu 0 (some 12) ?_
    refine pu 1 (some 13) ?_
    refine pu 2 (some 14) ?_
    refine pu 4 (some 16) ?_
    refine take_ (i:=3) (N:=some 15) (v:= ?_) (a':= ?_) #[true,true,true,true,true,false,false] rfl rfl (by kernel_rfl) (fun _ _ _ h=>h) (Or.inl ⟨by rfl,?_⟩) hHeld ?_ ?_
    rotate_left
    ·intro w' s1
     go_simp
     with_reducible rfl
    rotate_left
    ·simp only[Act.put,List.setIfInBounds_toArray,List.set_cons_zero,List.set_cons_succ,i64_w,i32_w]
     rfl
    refine ou 5 (some 17) (fun K hK=> ?_)
    refine gs func35 #[V I x1_1] ?_
    with_reducible refine(laws_markText.calls k1 x1_1 t1 _ A1.out).mono ?_
    rintro e w2 ⟨rfl,hb⟩
    refine⟨_,rfl,?_⟩
    replace HB:=eB hb
    (try clear hb)
    refine hK.out _ _ (((HB.out.cell (World.block_lt_of_cell? w _ hw1_0)).trans hw1_0)) (fun hHeld=> ?_)
    clear hK K
    refine nu (N:=(some 17)) ?_
    refine pu 6 (some 18) ?_
    refine done_ (by kernel_rfl) ?_
    try go_wp2
    go_ret
    exact⟨rE,uB⟩
   rw[if_pos c3]at H
   have c3b0:((rdOf ByteArray.empty l0 x2_1).toList==t1.toList)=true:=beq_iff_eq.mpr c3
   have c3b1:((rdOf ByteArray.empty l0 x2_1).toList !=t1.toList)=false:=bne_eq_false_iff_eq.mpr c3
   clear c3
   have H':=C H
   clear H
   try go_wp2
   replace HB:=dB HB
   have p1:0≤(x2_1:Int):=oT
   have q1:x2_1<(l0.length:Int):=oT
   obtain⟨ad1,e1,hx1_0⟩:=Kd.at_string HR1.out x2_1 p1 q1
   have hw1_0:=hx1_0
   cases e1
   replace hx1_0:=hx HB hx1_0
   replace p1:=eq_true p1
   replace q1:=eq_true q1
   refine start_ (n:=7) (S:=fun w'=>w'.cell? (ad1.add (x2_1).toNat)=some (.string (rdOf ByteArray.empty l0 x2_1))) (ds:= []) #[false,false,false,false,false,false,false] (by kernel_rfl) rfl rfl (((HB.out.cell (World.block_lt_of_cell? w _ hw1_0)).trans hw1_0)) (fun hHeld=> ?_)
   generalize wr.drew=w1 at HB hx1_0 hHeld ⊢
   refine pu 0 (some 12) ?_
   refine pu 1 (some 13) ?_
   refine pu 2 (some 14) ?_
   refine pu 4 (some 16) ?_
   refine take_ (i:=3) (N:=some 15) (v:= ?_) (a':= ?_) #[true,true,true,true,true,false,false] rfl rfl (by kernel_rfl) (fun _ _ _ h=>h) (Or.inl ⟨by rfl,?_⟩) hHeld ?_ ?_
   rotate_left
   ·intro w' s1
    go_simp
    with_reducible rfl
   rotate_left
   ·simp only[Act.put,List.setIfInBounds_toArray,List.set_cons_zero,List.set_cons_succ,i64_w,i32_w]
    rfl
   refine ou 5 (some 17) (fun K hK=> ?_)
   refine gs func35 #[V I x1_1] ?_
   with_reducible refine(laws_markText.calls k1 x1_1 t1 _ A1.out).mono ?_
   rintro e w2 ⟨rfl,hb⟩
   refine⟨_,rfl,?_⟩
   replace HB:=eB hb
   (try clear hb)
   refine hK.out _ _ (((HB.out.cell (World.block_lt_of_cell? w _ hw1_0)).trans hw1_0)) (fun hHeld=> ?_)
   clear hK K
   refine nu (N:=(some 17)) ?_
   refine pu 6 (some 18) ?_
   refine done_ (by kernel_rfl) ?_
   try go_wp2
   go_roundg k1
   case measure=>have:=HK1.out;omega
   case rel=>exact⟨(wrap64 (x1_1+1)),(wrap64 (x2_1+1)),rS,rS,H',⟨by have:=HK1.out;omega⟩,⟨uB⟩⟩
mutual
def laws_FnExactRunScript.j0:Nat→ByteArray→List ByteArray→Bool→List ByteArray→Bool→Option (Bool)
 |0,_,_,_,_,_=>none
 |k+1,x0,x3,x4,x5,x32=>if x32=true then(some false) else((laws_markStringS.f k x5 1).bind fun bt1066=>((laws_heldStringS.f k bt1066.2 1).bind fun t1068=>(if t1068<0 then(some false) else(if t1068=bt1066.1 then((impl_RunScript.f k x0).bind fun bt1069=>((laws_eqStringS.f k bt1069.1 x3).bind fun t1073=>(if t1073=true then(laws_FnExactRunScript.j1 k bt1066.2 bt1066.1 (bt1069.2 !=x4)) else(laws_FnExactRunScript.j1 k bt1066.2 bt1066.1 true)))) else(some false)))))
def laws_FnExactRunScript.j1:Nat→List ByteArray→Int→Bool→Option (Bool)
 |0,_,_,_=>none
 |k+1,x5,x7,x57=>if x57=true then(some false) else((laws_heldStringS.f k x5 1).bind fun t1074=>(if t1074<0 then(some false) else(if t1074=x7 then(some true) else(some false))))
end
def laws_FnExactRunScript.f (k:Nat) (a0:ByteArray):Option (Bool):=if(a0.size:Int) >1048576 then(some true) else((spec_RunScript.f k a0).bind fun bt1057=>((impl_RunScript.f k a0).bind fun bt1061=>((laws_eqStringS.f k bt1061.1 bt1057.1).bind fun t1065=>(if t1065=true then(laws_FnExactRunScript.j0 k a0 bt1057.1 bt1057.2 bt1061.1 (bt1061.2 !=bt1057.2)) else(laws_FnExactRunScript.j0 k a0 bt1057.1 bt1057.2 bt1061.1 true)))))
theorem laws_FnExactRunScript.calls (k:Nat) (a0:ByteArray) (r:Bool) (w:World) (hT:r=true) (h:laws_FnExactRunScript.f k a0=some r) (hTab:Ito.Tab w):
 Calls prog 4 #[.string a0] w fun e w'=>e=.returned (O r)∧Below w.heap.size w w':=by
 replace hTab:=C hTab
 replace hT:=C hT
 have HB:=C (Below.refl w.heap.size w)
 have H:=h
 unfold laws_FnExactRunScript.f at H
 clear h
 by_cases c1:(a0.size:Int) >1048576
 ·rw[if_pos c1]at H
  have c1b0:decide (1048576<(a0.size:Int))=true:=decide_eq_true c1
  have c1b1:decide (1048576<a0.size)=true:=decide_eq_true (by omega)
  clear c1
  obtain rfl:=si H
  go_enter func4,ntmps4
  go_wp2
  go_ret
  exact⟨rE,uB⟩
 rw[if_neg c1]at H
 have c1b0:decide (1048576<(a0.size:Int))=false:=decide_eq_false c1
 have c1b1:decide (1048576<a0.size)=false:=decide_eq_false (by omega)
 clear c1
 obtain⟨⟨t1,t2⟩,A1,H⟩:=bnd H
 dsimp only at H
 obtain⟨⟨t3,t4⟩,A2,H⟩:=bnd H
 dsimp only at H
 have HC1:=C H
 clear H
 go_enter func4,ntmps4
 go_upto_region 5 with(first|((with_reducible refine F (f:=13) rfl ?_);refine gl 13 (some 16) func13 #[.string a0] ?_;(with_reducible refine(spec_RunScript.calls k a0 t1 t2 _ A1.out).mono ?_);rintro e w1 ⟨v1,rfl,ho1,hb⟩;refine⟨_,rfl,?_⟩;have HO1:=lR ho1;replace HB:=eB hb;clear hb ho1)|((with_reducible refine F (f:=8) rfl ?_);refine gl 8 (some 21) func8 #[.string a0] ?_;(with_reducible refine(impl_RunScript.calls k a0 t3 t4 _ A2.out (Ito.on hTab.out uB)).mono ?_);rintro e w2 ⟨v2,rfl,ho1,hb⟩;refine⟨_,rfl,?_⟩;have HO2:=C (Kd.R_lower (Kd.R_new' ho1 (Kd.R_lt (uR HO1.out))) (below_size uB));replace HO1:=C (Kd.R_elder' (uR HO1.out) (Kd.R_base ho1) hb);replace HB:=eB hb;clear hb ho1))
 (try simp only[Act.put,List.setIfInBounds_toArray,List.set_cons_zero,List.set_cons_succ])
 go_cut [32] (fun v32 wc=>∃(kq:Nat) (x1_4:Bool),v32=O x1_4∧D (laws_FnExactRunScript.j0 kq a0 t1 t2 t3 x1_4=some r)∧D (kq≤k)∧D (Kd.R Kd.string 9 wc w.heap.size (fun k_=>qm k_ v2) v1 t1)∧D (Kd.Q Kd.string 9 wc w.heap.size (fun k_=>qm k_ v1) v2 t3)∧D (Below w.heap.size w wc))
 case first=>
  have H:=HC1.out
  clear HC1
  obtain⟨t5,A3,H⟩:=bnd H
  by_cases c2:t5=true
  rotate_left
  ·obtain rfl:=nt c2
   replace H:=nf H
   rw[hT.out]at H
   exact absurd H (by cases k<;>simp[laws_FnExactRunScript.j0])
  subst c2
  rw[if_pos rfl]at H
  have H':=C H
  clear H
  obtain⟨Ao1,co1,eo1⟩:=U HO2.out
  subst eo1
  obtain⟨Ao2,co2,eo2⟩:=U HO1.out
  subst eo2
  go_wp2_with (first|((with_reducible refine F (f:=14) rfl ?_);refine gl 14 (some 26) func14 #[L Ao1 t3.length co1,L Ao2 t1.length co2] ?_;(with_reducible refine(laws_eqStringS.calls k _ _ t3 _ _ t1 true _ ?side1 ?side2 ?side3 ?side4 A3.out).mono ?_);(case side1=>exact uC (Kd.R_reads' HO2.out).2.2);(case side2=>exact(Kd.R_reads' HO2.out).2.1);(case side3=>exact uC (Kd.R_reads' HO1.out).2.2);(case side4=>exact(Kd.R_reads' HO1.out).2.1);rintro e w' ⟨rfl,⟨nd,rfl⟩⟩;refine⟨_,rfl,?_⟩))
  go_meet
  case rel=>exact⟨_,((t4 !=t2)),rS,H',⟨oL⟩,⟨X (fR HO1.out) (fun _ hk=>hk.2)⟩,⟨Kd.Q_of_R (X (fR HO2.out) (fun _ hk=>hk.2))⟩,⟨uB⟩⟩
 case rest=>
  clear HC1
  obtain⟨kq,x1_4,rfl,HA,HJ1,HO_1,HO_2,HB⟩:=hcut
  cases kq with
  |zero=>exact absurd HA.out (by simp[laws_FnExactRunScript.j0])
  |succ kj4=>
   have H:=HA.out
   clear HA
   simp only[laws_FnExactRunScript.j0]at H
   by_cases c2:x1_4=true
   ·subst c2
    rw[if_pos rfl]at H
    exact absurd (hT.out ▸ H) (by simp)
   obtain rfl:=nt c2
   replace H:=nf H
   obtain⟨⟨t5,t6⟩,A3,H⟩:=bnd H
   dsimp only at H
   obtain⟨t7,A4,H⟩:=bnd H
   by_cases c3:t7<0
   ·rw[if_pos c3]at H
    replace c3:=decide_eq_true c3
    exact absurd (hT.out ▸ H) (by simp)
   rw[if_neg c3]at H
   replace c3:=decide_eq_false c3
   by_cases c4:t7=t5
   rotate_left
   ·rw[if_neg c4]at H
    have c4b0:(t7==t5)=false:=beq_eq_false_iff_ne.mpr c4
    have c4b1:(t7 !=t5)=true:=bne_iff_ne.mpr c4
    exact absurd (hT.out ▸ H) (by simp)
   rw[if_pos c4]at H
   have c4b0:(t7==t5)=true:=beq_iff_eq.mpr c4
   have c4b1:(t7 !=t5)=false:=bne_eq_false_iff_eq.mpr c4
   clear c4
   obtain⟨⟨t8,t9⟩,A5,H⟩:=bnd H
   dsimp only at H
   have HC2:=C H
   clear H
   obtain⟨Ao1,co1,eo1,_⟩:=Kd.Q_slice HO_2.out
   subst eo1
   go_upto_region 16 with(first|((with_reducible refine F (f:=15) rfl ?_);refine gl 15 (some 35) func15 #[L Ao1 t3.length co1,V I 1] ?_;(with_reducible refine(laws_markStringS.calls kj4 (fun k_=>some k_=(L Ao1 t3.length co1:Value).ownBlock) (L Ao1 t3.length co1) t3 1 t5 t6 w _ ?side1 ?side2 A3.out).mono ?_);(case side1=>exact uB);(case side2=>exact Kd.Q_tight rfl HO_2.out);rintro e w3 ⟨rfl,hy1,hb,hkp⟩;refine⟨_,rfl,?_⟩;replace HO_1:=C (X (ok':=fun k_=>qn k_ Ao1 t3.length co1) (Kd.R_keptB (HO_1.out) hkp (fun k_ hk_ hs_=>(hk_) hs_)) (fun k_ hk_=>hk_.1));replace HO_2:=C (Ext.Q_reok rfl hy1 (fun k_ e_=>HO_2.out.1 k_ e_));replace HB:=C (hb);clear hb;(try clear hkp);(try clear hy1))|((with_reducible refine F (f:=16) rfl ?_);refine goesL_ (some 38) rfl rfl func16 (by kernel_rfl) rfl #[L Ao1 t6.length co1,V I 1] rfl (by(try simp only[List.map_toArray,List.map_cons,List.map_nil]);first|done|(rw[show t6.length=t3.length from(Kd.Q_reads' HO_2.out).1.symm]<;>rfl)|rfl|(simp only[List.length_drop,List.length_take];rfl)) ?_;(with_reducible refine(laws_heldStringS.calls kj4 _ _ t6 1 t7 _ ?side1 ?side2 A4.out).mono ?_);(case side1=>exact uC (Kd.Q_reads' HO_2.out).2.2);(case side2=>rw[show t6.length=t3.length from(Kd.Q_reads' HO_2.out).1.symm];exact(Kd.Q_reads' HO_2.out).2.1);rintro e w4 ⟨rfl,hb⟩;refine⟨_,rfl,?_⟩;replace HO_1:=eR HO_1 hb;replace HO_2:=eQ HO_2 hb;replace HB:=eB hb;clear hb)|((with_reducible refine F (f:=8) rfl ?_);refine gl 8 (some 46) func8 #[.string a0] ?_;(with_reducible refine(impl_RunScript.calls kj4 a0 t8 t9 _ A5.out (Ito.on hTab.out uB)).mono ?_);rintro e w5 ⟨v3,rfl,ho1,hb⟩;refine⟨_,rfl,?_⟩;have HO3:=C (Kd.R_lower (Kd.R_new' (Kd.R_new' ho1 (Kd.R_lt (uR HO_1.out))) (Kd.Q_lt (uQ HO_2.out))) (below_size uB));replace HO_1:=C (Kd.R_elder' (uR HO_1.out) (Kd.R_base ho1) hb);replace HO_2:=C (Kd.Q_elder' (uQ HO_2.out) (Kd.R_base ho1) hb);replace HB:=eB hb;clear hb ho1))
   (try simp only[Act.put,List.setIfInBounds_toArray,List.set_cons_zero,List.set_cons_succ])
   go_cut [57] (fun v57 wc=>∃(kq:Nat) (x2_19:Bool),v57=O x2_19∧D (laws_FnExactRunScript.j1 kq t6 t5 x2_19=some r)∧D (kq≤kj4)∧D (Kd.Q Kd.string 9 wc w.heap.size (fun _=>True) (L Ao1 t3.length co1) t6)∧D (Below w.heap.size w wc))
   case first=>
    have H:=HC2.out
    clear HC2
    obtain⟨t10,A6,H⟩:=bnd H
    by_cases c5:t10=true
    rotate_left
    ·obtain rfl:=nt c5
     replace H:=nf H
     rw[hT.out]at H
     exact absurd H (by cases kj4<;>simp[laws_FnExactRunScript.j1])
    subst c5
    rw[if_pos rfl]at H
    have H':=C H
    clear H
    obtain⟨Ao2,co2,eo2⟩:=U HO3.out
    subst eo2
    obtain⟨Ao3,co3,eo3⟩:=U HO_1.out
    subst eo3
    go_wp2_with (first|((with_reducible refine F (f:=14) rfl ?_);refine gl 14 (some 51) func14 #[L Ao2 t8.length co2,L Ao3 t1.length co3] ?_;(with_reducible refine(laws_eqStringS.calls kj4 _ _ t8 _ _ t1 true _ ?side1 ?side2 ?side3 ?side4 A6.out).mono ?_);(case side1=>exact uC (Kd.R_reads' HO3.out).2.2);(case side2=>exact(Kd.R_reads' HO3.out).2.1);(case side3=>exact uC (Kd.R_reads' HO_1.out).2.2);(case side4=>exact(Kd.R_reads' HO_1.out).2.1);rintro e w' ⟨rfl,⟨nd,rfl⟩⟩;refine⟨_,rfl,?_⟩))
    go_meet
    case rel=>exact⟨_,((t9 !=t2)),rS,H',⟨by have:=HJ1.out;first|omega|exact Nat.le_refl _⟩,⟨Kd.Q_mono (fQ HO_2.out) (fun _ hk=>trivial)⟩,⟨uB⟩⟩
   case rest=>
    clear HC2
    obtain⟨kq,x2_19,rfl,HA,HJ2,HO_2,HB⟩:=hcut
    have hl1_19:=(Kd.Q_reads' HO_2.out).1
    rw[hl1_19]at HO_2
    (try simp only[hl1_19])
    cases kq with
    |zero=>exact absurd HA.out (by simp[laws_FnExactRunScript.j1])
    |succ kj19=>
     have H:=HA.out
     clear HA
     simp only[laws_FnExactRunScript.j1]at H
     by_cases c5:x2_19=true
     ·subst c5
      rw[if_pos rfl]at H
      exact absurd (hT.out ▸ H) (by simp)
     obtain rfl:=nt c5
     replace H:=nf H
     obtain⟨t10,A6,H⟩:=bnd H
     by_cases c6:t10<0
     ·rw[if_pos c6]at H
      replace c6:=decide_eq_true c6
      exact absurd (hT.out ▸ H) (by simp)
     rw[if_neg c6]at H
     replace c6:=decide_eq_false c6
     by_cases c7:t10=t5
     rotate_left
     ·rw[if_neg c7]at H
      have c7b0:(t10==t5)=false:=beq_eq_false_iff_ne.mpr c7
      have c7b1:(t10 !=t5)=true:=bne_iff_ne.mpr c7
      exact absurd (hT.out ▸ H) (by simp)
     rw[if_pos c7]at H
     have c7b0:(t10==t5)=true:=beq_iff_eq.mpr c7
     have c7b1:(t10 !=t5)=false:=bne_eq_false_iff_eq.mpr c7
     clear c7
     obtain rfl:=si H
     go_wp2_with (first|((with_reducible refine F (f:=16) rfl ?_);refine gl 16 (some 60) func16 #[L Ao1 t6.length co1,V I 1] ?_;(with_reducible refine(laws_heldStringS.calls kj19 _ _ t6 1 t10 _ ?side1 ?side2 A6.out).mono ?_);(case side1=>exact uC (Kd.Q_reads' HO_2.out).2.2);(case side2=>exact(Kd.Q_reads' HO_2.out).2.1);rintro e w6 ⟨rfl,hb⟩;refine⟨_,rfl,?_⟩;replace HO_2:=eQ HO_2 hb;replace HB:=eB hb;clear hb))
     go_ret
     exact⟨rE,uB⟩
end Go.Proofs.YtgdnlmfoghpeoaaGreatDoor.PFnExactRunScript
