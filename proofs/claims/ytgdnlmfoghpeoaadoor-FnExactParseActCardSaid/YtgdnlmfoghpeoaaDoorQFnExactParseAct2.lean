/- Calls do what plain Lean functions say (FnExactParseAct). No condition. -/
import Derived.Test.YtgdnlmfoghpeoaaDoorQFnExactParseAct0
import Derived.Test.YtgdnlmfoghpeoaaDoorQFnExactParseAct1
namespace Go.Proofs.YtgdnlmfoghpeoaaDoor.PFnExactParseAct
open Go.RowKit Go.Proofs.YtgdnlmfoghpeoaaDoorW.PrintWords Go.Proofs.YtgdnlmfoghpeoaaDoorW.PrintLast Go.Proofs.YtgdnlmfoghpeoaaDoorW.PrintMore
open Tryd
open Fix (bK bnd cl4 d4 d6 dB dK dR eB eK eR fR gE gK gl gs gy hh lR nG nL nf np nt nu oL oT ou pu qn rE rS si tu uB uC uR)
open Go.Value renaming int→V,bool→O,agg→G
open Go.IntKind renaming i64→I
open Go.Proofs.YtgdnlmfoghpeoaaDoorW.PrintWords.Aside0 renaming mk→C
open Go.Proofs.YtgdnlmfoghpeoaaDoorW.PrintWords renaming Aside0→D,gate_callee→F,gate_dst→J
attribute [local go_sem] max2_int min2_int max_two min_two max_three min_three max_four min_four
attribute [local go_sem] Fix.isSome_setCell
set_option linter.unusedVariables false
set_option maxHeartbeats 40000000
set_option maxRecDepth 100000
set_option linter.unusedSimpArgs false
mutual
def spec_ParseAct.j0:Nat→List ByteArray→Bool→Option (Int×Int×Int×Int×Bool)
 |0,_,_=>none
 |k+1,x4,x27=>if x27=true then(some (0,0,0,0,false)) else(if 0<(x4.length:Int) then(spec_ParseAct.l0 k x4 (rdOf ByteArray.empty x4 0) (([]:List Int)) 1) else(none))
def spec_ParseAct.l0:Nat→List ByteArray→ByteArray→List Int→Int→Option (Int×Int×Int×Int×Bool)
 |0,_,_,_,_=>none
 |k+1,x4,x6,x7,x8=>if x8<(x4.length:Int) then(if x6.size+1≤9223372036854775807 then(if 0≤x8 then(if(x6++(⟨#[32]⟩:ByteArray)).size+(rdOf ByteArray.empty x4 x8).size≤9223372036854775807 then((spec_ParseUint.f k (rdOf ByteArray.empty x4 x8)).bind fun bt162=>(if x7.length<17592186044416 then(spec_ParseAct.l0 k x4 ((x6++(⟨#[32]⟩:ByteArray))++(rdOf ByteArray.empty x4 x8)) (x7++ [bt162.1]) (wrap64 (x8+1))) else(none))) else(none)) else(none)) else(none)) else((some (([0,0,0]:List Int):List Int)).bind fun y167=>(if x7.length+y167.length<17592186044416 then(spec_ParseAct.l1 k x6 (x7++y167) 1) else(none)))
def spec_ParseAct.l1:Nat→ByteArray→List Int→Int→Option (Int×Int×Int×Int×Bool)
 |0,_,_,_=>none
 |k+1,x6,x7,x11=>if x11≤5 then(if 0<(x7.length:Int) then(if 1<(x7.length:Int) then(if 2<(x7.length:Int) then((spec_FormatAct.f k x11 (rd x7 0) (rd x7 1) (rd x7 2)).bind fun bt177=>(if bt177.2=true then(if bt177.1.toList=x6.toList then(some (x11,rd x7 0,rd x7 1,rd x7 2,true)) else(spec_ParseAct.l1 k x6 x7 (wrap64 (x11+1)))) else(spec_ParseAct.l1 k x6 x7 (wrap64 (x11+1))))) else(none)) else(none)) else(none)) else(some (0,0,0,0,false))
end
def spec_ParseAct.f (k:Nat) (a0:ByteArray):Option (Int×Int×Int×Int×Bool):=(spec_SplitFields.f k a0).bind fun bt151=>(if bt151.2=true then((spec_l01In.f (bt151.1.length:Int) 1 4).bind fun t155=>(spec_ParseAct.j0 k bt151.1 (!t155))) else(spec_ParseAct.j0 k bt151.1 true))
def spec_ParseAct.T16:Bool×List (List Nat×List Nat):=(true,[([],[]),([],[]),([1],[1]),([2],[2]),([],[]),([4],[4]),([5],[5]),([],[]),([7],[7]),([8],[8]),([0,3,6,9],[0,3,6,9]),([],[]),([11,10,0,1,2,3,4,5,6,7,8,9,10,11],[10,11])])
def spec_ParseAct.B16:List Nat:= [0,0,2,6,0,16,48,0,128,384,1023,0,4095]
theorem spec_ParseAct.tab16:rtab .any (opsOf Tryd.f5 16)=spec_ParseAct.T16:=by kernel_rfl
theorem spec_ParseAct.bits16:waitsOk spec_ParseAct.T16.2 spec_ParseAct.B16=true:=by kernel_rfl
theorem spec_ParseAct.W1 {p:Prop} (h:p:=by
 go_wp2
 refine bodyPost_ret (results_ct rfl _ _ gb1 23 #[V I 0,V I 0,V I 0,V I 0] (0,0) _ rfl (bK BK1.out) underlying23 rfl (by kernel_rfl)) rfl ?_
 exact⟨rE,uB⟩):p:=h
theorem spec_ParseAct.calls (k:Nat) (a0:ByteArray) (r1:Int) (r2:Int) (r3:Int) (r4:Int) (r5:Bool) (w:World) (h:spec_ParseAct.f k a0=some (r1,r2,r3,r4,r5)):
 Calls prog 5 #[.string a0] w fun e w'=>e=.returned (.tuple #[G #[V I r1,V I r2,V I r3,V I r4],O r5])∧Below w.heap.size w w':=by
 have hu1:=underlying23
 have HB:=C (Below.refl w.heap.size w)
 have H:=h
 unfold spec_ParseAct.f at H
 clear h
 obtain⟨⟨t1,t2⟩,A1,H⟩:=bnd H
 dsimp only at H
 have HC1:=C H
 clear H
 go_enter func5,ntmps5
 go_upto_region 2 with(first|((with_reducible refine J (N:=2) rfl ?_);(try(refine gate_guard (by rfl) ?_;dsimp only));refine Fix.be 2 #[V I 0,V I 0,V I 0,V I 0] 23 ?_;intro gb1 hg w2 BK1 hb;have GW1:=gE (w:=w) hg;replace HB:=eB hb;clear hb hg)|((with_reducible refine F (f:=11) rfl ?_);refine gl 11 (some 17) func11 #[.string a0] ?_;(with_reducible refine(spec_SplitFields.calls k a0 t1 t2 _ A1.out).mono ?_);rintro e w3 ⟨v1,rfl,ho1,hb⟩;refine⟨_,rfl,?_⟩;have HO1:=lR ho1;replace BK1:=eK BK1 hb;replace HB:=eB hb;clear hb ho1))
 (try simp only[Act.put,List.setIfInBounds_toArray,List.set_cons_zero,List.set_cons_succ])
 go_cut [27] (fun v27 wc=>∃(kq:Nat) (x1_2:Bool),v27=O x1_2∧D (spec_ParseAct.j0 kq t1 x1_2=some (r1,r2,r3,r4,r5))∧D (kq≤k)∧D (Kd.R Kd.string 9 wc w.heap.size (fun _=>True) v1 t1)∧D (wc.heap[gb1]? =some (.cells #[V I 0,V I 0,V I 0,V I 0] 23 (0,0)))∧D (Below w.heap.size w wc))
 case first=>
  have H:=HC1.out
  clear HC1
  by_cases c1:t2=true
  rotate_left
  ·obtain rfl:=nt c1
   replace H:=nf H
   have H':=C H
   clear H
   go_wp2
   go_meet
   case rel=>exact⟨_,(true),rS,H',⟨oL⟩,⟨fR HO1.out⟩,⟨bK BK1.out⟩,⟨uB⟩⟩
  subst c1
  rw[if_pos rfl]at H
  obtain⟨t3,A2,H⟩:=bnd H
  have H':=C H
  clear H
  obtain⟨Ao1,co1,eo1⟩:=Kd.R_slice HO1.out
  subst eo1
  go_wp2_with (first|(go_at_call 12;(with_reducible refine(spec_l01In.calls (t1.length:Int) 1 4 t3 _ A2.out).mono ?_);rintro e w' ⟨rfl,⟨nd,rfl⟩⟩))
  go_meet
  case rel=>exact⟨_,(!t3),rS,H',⟨oL⟩,⟨fR HO1.out⟩,⟨bK BK1.out⟩,⟨uB⟩⟩
 case rest=>
  clear HC1
  obtain⟨kq,x1_2,rfl,HA,HJ1,HO_1,BK1,HB⟩:=hcut
  cases kq with
  |zero=>exact absurd HA.out (by simp[spec_ParseAct.j0])
  |succ kj2=>
   have H:=HA.out
   clear HA
   simp only[spec_ParseAct.j0]at H
   by_cases c1:x1_2=true
   ·subst c1
    rw[if_pos rfl]at H
    simp only[Option.some.injEq,Prod.mk.injEq]at H
    obtain⟨rfl,rfl,rfl,rfl,rfl⟩:=H
    obtain⟨_,_,_,_,_,_,_,_⟩:=d4 BK1.out
    exact spec_ParseAct.W1
   obtain rfl:=nt c1
   replace H:=nf H
   obtain⟨c2,H⟩:=np H
   have c2b0:decide (0<(t1.length:Int))=true:=decide_eq_true c2
   have c2b1:decide (0<t1.length)=true:=decide_eq_true (by omega)
   clear c2
   obtain⟨y1,hy1⟩:∃y_:List Int,y_=(([]:List Int)):=⟨_,rfl⟩
   replace H:(spec_ParseAct.l0 kj2 t1 (rdOf ByteArray.empty t1 0) y1 1)=some (r1,r2,r3,r4,r5):=gy hy1 H
   have Ny1:=C hy1
   clear hy1
   have H':=C H
   clear H
   obtain⟨Ao1,co1,eo1⟩:=Kd.R_slice HO_1.out
   subst eo1
   have p1:0≤(0:Int):=(by omega)
   have q1:0<(t1.length:Int):=oT
   obtain⟨ad1,e1,hx1_0⟩:=Kd.at_string (Kd.R_reads' HO_1.out).2.2 0 p1 q1
   cases e1
   have qi1:(0<t1.length)=True:=eq_true (by omega)
   (try rw[show((0:Int)).toNat=0 from rfl]at hx1_0)
   (try rw[Addr.add_zero']at hx1_0)
   replace p1:=eq_true p1
   replace q1:=eq_true q1
   go_wp2_with (first|((with_reducible refine J (N:=32) rfl ?_);(try(refine gate_guard (by rfl) ?_;dsimp only));refine Kd.R_lit (Kd.int .i64) _ 3 ?hg (N:=32) ?hd (xs:=([]:List Int)) (inner:= []) (ok:=fun _=>True) (okp:=fun _=>True) ?hr ?hp (fun _ hk=>hk) trivial (Below.refl _ _) (Nat.le_refl _) (by simp) ?_;(case hd=>rfl);(case hg=>rfl);(case hr=>exact Fix.hr);(case hp=>exact(Reps.none _ _));intro v2 w4 ho2 hb hg_ hnew_;clear hg_ hnew_;(first|rw[←Ny1.out]at ho2|(simp only[Int.reduceToNat]at ho2;rw[←Ny1.out]at ho2));have HO2:=lR ho2;replace HO_1:=eR HO_1 hb;replace BK1:=eK BK1 hb;replace HB:=eB hb;clear hb ho2))
   go_loopg [6,7,8] kj2 (fun kq v6 v7 v8 w'=>∃(x2_2:ByteArray) (x3_2:List Int) (x4_2:Int),v6=.string x2_2∧v8=V I x4_2∧D (spec_ParseAct.l0 kq t1 x2_2 x3_2 x4_2=some (r1,r2,r3,r4,r5))∧D (kq≤kj2)∧D (Kd.R Kd.string 9 w' w.heap.size (fun _=>True) (.slice (some ad1) t1.length co1) t1)∧D (Kd.R (Kd.int .i64) 3 w' w.heap.size (fun _=>True) v7 x3_2)∧D (w'.heap[gb1]? =some (.cells #[V I 0,V I 0,V I 0,V I 0] 23 (0,0)))∧D (Below w.heap.size w w'))
   case atStart=>exact⟨(rdOf ByteArray.empty t1 0),(y1),(1),rS,rS,H',⟨Nat.le_refl _⟩,⟨fR HO_1.out⟩,⟨fR HO2.out⟩,⟨bK BK1.out⟩,⟨uB⟩⟩
   case round=>
    clear H'
    obtain⟨x2_2,x3_2,x4_2,rfl,rfl,HA,HK1,HO_1,HO_2,BK1,HB⟩:=hrel
    cases gk with
    |zero=>exact absurd HA.out (by simp[spec_ParseAct.l0])
    |succ k2=>
     have H:=HA.out
     clear HA
     simp only[spec_ParseAct.l0]at H
     by_cases c3:x4_2<(t1.length:Int)
     ·rw[if_pos c3]at H
      replace c3:=decide_eq_true c3
      obtain⟨c4,H⟩:=np H
      have c4b0:=eq_true c4
      have c4b1:decide (x2_2.size+1≤9223372036854775807)=true:=decide_eq_true c4
      try have c4b2:(9223372036854775807<x2_2.size+1)=False:=eq_false (Nat.not_lt.2 c4)
      try(have h1_:=c4;simp only[ByteArray.size_append,Ito.bsz,List.size_toArray,List.length_cons,List.length_nil]at h1_;have c4b3:=eq_false (Nat.not_lt.2 h1_);clear h1_)
      obtain⟨c5,H⟩:=np H
      replace c5:=decide_eq_true c5
      obtain⟨c6,H⟩:=np H
      have c6b0:=eq_true c6
      have c6b1:decide ((x2_2++(⟨#[32]⟩:ByteArray)).size+(rdOf ByteArray.empty t1 x4_2).size≤9223372036854775807)=true:=decide_eq_true c6
      try have c6b2:(9223372036854775807<(x2_2++(⟨#[32]⟩:ByteArray)).size+(rdOf ByteArray.empty t1 x4_2).size)=False:=eq_false (Nat.not_lt.2 c6)
      try(have h1_:=c6;simp only[ByteArray.size_append,Ito.bsz,List.size_toArray,List.length_cons,List.length_nil]at h1_;have c6b3:=eq_false (Nat.not_lt.2 h1_);clear h1_)
      obtain⟨⟨t3,t4⟩,A2,H⟩:=bnd H
      dsimp only at H
      obtain⟨c7,H⟩:=np H
      have LMc1:=C c7
      clear c7
      obtain⟨y2,hy2⟩:∃y_:List Int,y_=(x3_2++ [t3]):=⟨_,rfl⟩
      replace H:(spec_ParseAct.l0 k2 t1 ((x2_2++(⟨#[32]⟩:ByteArray))++(rdOf ByteArray.empty t1 x4_2)) y2 (wrap64 (x4_2+1)))=some (r1,r2,r3,r4,r5):=gy hy2 H
      have Ny2:=C hy2
      clear hy2
      have H':=C H
      clear H
      have p2:0≤(x4_2:Int):=oT
      have q2:x4_2<(t1.length:Int):=oT
      obtain⟨ad2,e2,hx2_0⟩:=Kd.at_string (Kd.R_reads' HO_1.out).2.2 x4_2 p2 q2
      obtain rfl:ad1=ad2:=(by injection e2)
      replace p2:=eq_true p2
      replace q2:=eq_true q2
      have p3:0≤(x4_2:Int):=oT
      have q3:x4_2<(t1.length:Int):=oT
      obtain⟨ad3,e3,hx3_0⟩:=Kd.at_string (Kd.R_reads' HO_1.out).2.2 x4_2 p3 q3
      obtain rfl:ad1=ad3:=(by injection e3)
      replace p3:=eq_true p3
      replace q3:=eq_true q3
      go_wp2_with (first|((with_reducible refine F (f:=13) rfl ?_);refine gl 13 (some 51) func13 #[.string (rdOf ByteArray.empty t1 x4_2)] ?_;(with_reducible refine(spec_ParseUint.calls k2 (rdOf ByteArray.empty t1 x4_2) t3 t4 _ A2.out).mono ?_);rintro e w5 ⟨rfl,hb⟩;refine⟨_,rfl,?_⟩;replace HO_1:=eR HO_1 hb;replace HO_2:=eR HO_2 hb;replace BK1:=eK BK1 hb;replace HB:=eB hb;clear hb)|((with_reducible refine gate_builtin (b:=.append) (xs:= #[.tmp 54,.tmp 56]) rfl ?_);(try(refine gate_guard (by rfl) ?_;dsimp only));at_builtin;refine Kd.R_append (Kd.int .i64) (w0:=w) w.heap.size rfl (.tmp 54) (.tmp 56) 33 3 (V I 0) 8 rfl underlying33 info3 rfl (by decide) (by omega) u7 x3_2 t3 [V I t3] (fun _=>True) (fun _=>False) rfl rfl ?aP (fun _ hk=>hk.elim) ?aF ?aO ?aB ?aS ?aL ?_;(case aP=>exact rfl);(case aB=>exact uB);(case aF=>exact(fun _ _=>trivial));(case aO=>exact(uR HO_2.out));(case aS=>exact(below_size uB));(case aL=>have:=LMc1.out;omega);intro v3 w6 ho hb hg hat;rw[←Ny2.out]at ho;have HO3:=C (ho);replace HO_1:=C (Kd.R_over' (uR HO_1.out) (Kd.R_typed (uR HO_2.out)) (by decide) hg);replace BK1:=gK BK1 hg (Kd.R_ne HO_2.out BK1.out (by decide));replace HB:=C (hb);clear HO_2;clear ho hb hg hat))
      go_roundg k2
      case measure=>have:=HJ1.out;have:=HK1.out;omega
      case rel=>exact⟨((x2_2++(⟨#[32]⟩:ByteArray))++(rdOf ByteArray.empty t1 x4_2)),(y2),(wrap64 (x4_2+1)),rS,rS,H',⟨by have:=HJ1.out;have:=HK1.out;omega⟩,⟨fR HO_1.out⟩,⟨fR HO3.out⟩,⟨bK BK1.out⟩,⟨uB⟩⟩
     rw[if_neg c3]at H
     replace c3:=decide_eq_false c3
     obtain⟨y2,hy2⟩:∃y_:List Int,y_=(([0,0,0]:List Int)):=⟨_,rfl⟩
     replace H:(if x3_2.length+y2.length<17592186044416 then(spec_ParseAct.l1 k2 x2_2 (x3_2++y2) 1) else(none))=some (r1,r2,r3,r4,r5):=gy hy2 H
     have Ny2:=C hy2
     clear hy2
     obtain⟨c4,H⟩:=np H
     have LMc1:=C c4
     clear c4
     obtain⟨y3,hy3⟩:∃y_:List Int,y_=(x3_2++y2):=⟨_,rfl⟩
     replace H:(spec_ParseAct.l1 k2 x2_2 y3 1)=some (r1,r2,r3,r4,r5):=gy hy3 H
     have Ny3:=C hy3
     clear hy3
     have H':=C H
     clear H
     go_wp2_with (first|((with_reducible refine J (N:=59) rfl ?_);(try(refine gate_guard (by rfl) ?_;dsimp only));refine Kd.R_lit (Kd.int .i64) _ 3 ?hg (N:=59) ?hd (xs:=([0,0,0]:List Int)) (inner:= [V I 0,V I 0,V I 0]) (ok:=fun _=>True) (okp:=fun _=>True) ?hr ?hp (fun _ hk=>hk) trivial (Below.refl _ _) (Nat.le_refl _) (by simp) ?_;(case hd=>rfl);(case hg=>rfl);(case hr=>exact Fix.hr);(case hp=>exact(Reps.one (show Kd.M (Kd.int .i64) _ _ _ 0 [V I 0] from rfl) (Reps.one (show Kd.M (Kd.int .i64) _ _ _ 0 [V I 0] from rfl) (Reps.one (show Kd.M (Kd.int .i64) _ _ _ 0 [V I 0] from rfl) (Reps.none _ _)))));intro v3 w5 ho3 hb hg_ hnew_;clear hg_ hnew_;(first|rw[←Ny2.out]at ho3|(simp only[Int.reduceToNat]at ho3;rw[←Ny2.out]at ho3));have HO3:=C (Kd.R_lower (Kd.R_new' ho3 (Kd.R_lt (uR HO_2.out))) (below_size uB));replace HO_1:=eR HO_1 hb;replace HO_2:=C (Kd.R_elder' (uR HO_2.out) (Kd.R_base ho3) hb);replace BK1:=eK BK1 hb;replace HB:=eB hb;clear hb ho3;obtain⟨Ao2,co2,rfl⟩:=Kd.R_slice HO3.out)|((with_reducible refine gate_builtin (b:=.append) (xs:= #[.tmp 58,.tmp 59]) rfl ?_);(try(refine gate_guard (by rfl) ?_;dsimp only));at_builtin;refine Kd.R_append_rows (Kd.int .i64) (w0:=w) w.heap.size rfl (.tmp 58) (.tmp 59) 33 3 (V I 0) 8 rfl underlying33 info3 rfl (by decide) (by omega) u7 x3_2 y2 _ _ _ (fun k_=>qn k_ Ao2 y2.length co2) (fun _=>False) rfl rfl ?aO ?aR (fun _ _ h=>h) (fun _ h=>h.elim) ?aF ?aB ?aS ?aL ?_;(case aR=>exact uC (Kd.R_reads' HO3.out).2.2);(case aB=>exact uB);(case aF=>exact(fun k_ hk=>Kd.fresh' (Kd.R_lt (uR HO3.out)) k_ hk));(case aO=>exact(Kd.R_mono (fR HO_2.out) (fun _ hk=>hk.2)));(case aS=>exact(below_size uB));(case aL=>have:=LMc1.out;omega);intro v4 w6 ho hb hg hat;rw[←Ny3.out]at ho;have HO4:=C (ho);replace HO_1:=C (Kd.R_over' (uR HO_1.out) (Kd.R_typed (uR HO_2.out)) (by decide) hg);replace BK1:=gK BK1 hg (Kd.R_ne HO_2.out BK1.out (by decide));replace HO3:=C (Kd.R_after (ok:=(fun _=>True)) (uR HO3.out) hg hat);replace HB:=C (hb);clear HO_2;clear ho hb hg hat))
     go_loopg [11] k2 (fun kq v11 w'=>∃(x5_3:Int) (x6_3:Int) (x7_3:Int) (x8_3:Int) (x9_3:Int),v11=V I x5_3∧D (spec_ParseAct.l1 kq x2_2 y3 x5_3=some (r1,r2,r3,r4,r5))∧D (kq≤k2)∧D (Kd.R (Kd.int .i64) 3 w' w.heap.size (fun _=>True) v4 y3)∧D (w'.heap[gb1]? =some (.cells #[V I x6_3,V I x7_3,V I x8_3,V I x9_3] 23 (0,0)))∧D (Below w.heap.size w w'))
     case atStart=>exact⟨(1),(0),(0),(0),(0),rS,H',⟨Nat.le_refl _⟩,⟨Kd.R_mono (fR HO4.out) (fun _ hk=>trivial)⟩,⟨bK BK1.out⟩,⟨uB⟩⟩
     case round=>
      clear H'
      obtain⟨x5_3,x6_3,x7_3,x8_3,x9_3,rfl,HA,HK2,HO_2,BK1,HB⟩:=hrel
      cases gk with
      |zero=>exact absurd HA.out (by simp[spec_ParseAct.l1])
      |succ k3=>
       have H:=HA.out
       clear HA
       simp only[spec_ParseAct.l1]at H
       by_cases c5:x5_3≤5
       rotate_left
       ·rw[if_neg c5]at H
        replace c5:=decide_eq_false c5
        simp only[Option.some.injEq,Prod.mk.injEq]at H
        obtain⟨rfl,rfl,rfl,rfl,rfl⟩:=H
        obtain⟨_,_,_,_,_,_,_,_⟩:=d4 BK1.out
        exact spec_ParseAct.W1
       rw[if_pos c5]at H
       replace c5:=decide_eq_true c5
       obtain⟨c6,H⟩:=np H
       have c6b0:decide (0<(y3.length:Int))=true:=decide_eq_true c6
       have c6b1:decide (0<y3.length)=true:=decide_eq_true (by omega)
       clear c6
       obtain⟨c7,H⟩:=np H
       have c7b0:decide (1<(y3.length:Int))=true:=decide_eq_true c7
       have c7b1:decide (1<y3.length)=true:=decide_eq_true (by omega)
       clear c7
       obtain⟨c8,H⟩:=np H
       have c8b0:decide (2<(y3.length:Int))=true:=decide_eq_true c8
       have c8b1:decide (2<y3.length)=true:=decide_eq_true (by omega)
       clear c8
       obtain⟨⟨t3,t4⟩,A2,H⟩:=bnd H
       dsimp only at H
       by_cases c9:t4=true
       rotate_left
       ·obtain rfl:=nt c9
        replace H:=nf H
        have H':=C H
        clear H
        try go_wp2
        replace HO_2:=dR HO_2
        replace BK1:=dK BK1
        replace HB:=dB HB
        obtain⟨Ao3,co3,eo3⟩:=Kd.R_slice HO_2.out
        (first|subst eo3|(injection eo3 with f1_ f2_ f3_;have f4_:=f1_.symm;have f5_:=f3_.symm;clear f1_ f2_ f3_;subst f4_;subst f5_))
        have p2:0≤(0:Int):=(by omega)
        have q2:0<(y3.length:Int):=oT
        obtain⟨ad2,e2,hx2_0⟩:=Kd.at_int (Kd.R_reads' HO_2.out).2.2 0 p2 q2
        cases e2
        have qi2:(0<y3.length)=True:=eq_true (by omega)
        (try rw[show((0:Int)).toNat=0 from rfl]at hx2_0)
        (try rw[Addr.add_zero']at hx2_0)
        replace p2:=eq_true p2
        replace q2:=eq_true q2
        have p3:0≤(1:Int):=(by omega)
        have q3:1<(y3.length:Int):=oT
        obtain⟨ad3,e3,hx3_0⟩:=Kd.at_int (Kd.R_reads' HO_2.out).2.2 1 p3 q3
        obtain rfl:ad2=ad3:=(by injection e3)
        (try simp only[show(1:Int).toNat=1 from rfl,Nat.reduceMul,Nat.reduceEqDiff,Go.Addr.add,↓reduceIte]at hx3_0)
        have qi3:(1<y3.length)=True:=eq_true (by omega)
        (try rw[show((1:Int)).toNat=1 from rfl]at hx3_0)
        replace p3:=eq_true p3
        replace q3:=eq_true q3
        have p4:0≤(2:Int):=(by omega)
        have q4:2<(y3.length:Int):=oT
        obtain⟨ad4,e4,hx4_0⟩:=Kd.at_int (Kd.R_reads' HO_2.out).2.2 2 p4 q4
        obtain rfl:ad2=ad4:=(by injection e4)
        (try simp only[show(2:Int).toNat=2 from rfl,Nat.reduceMul,Nat.reduceEqDiff,Go.Addr.add,↓reduceIte]at hx4_0)
        have qi4:(2<y3.length)=True:=eq_true (by omega)
        (try rw[show((2:Int)).toNat=2 from rfl]at hx4_0)
        replace p4:=eq_true p4
        replace q4:=eq_true q4
        refine start_ (n:=13) (S:=fun w'=>w'.cell? ad2=some (V I (rd y3 0))∧w'.cell? ⟨ad2.block,ad2.off+1,none⟩=some (V I (rd y3 1))∧w'.cell? ⟨ad2.block,ad2.off+2,none⟩=some (V I (rd y3 2))) (ds:= []) #[false,false,false,false,false,false,false,false,false,false,false,false,false] (by kernel_rfl) rfl rfl ⟨hx2_0,hx3_0,hx4_0⟩ (fun hHeld=> ?_);refine with_tabW spec_ParseAct.tab16 spec_ParseAct.bits16 (fun HT_ HW_=> ?_)
        generalize wr.drew=w7 at HO_2 BK1 HB hx2_0 hx3_0 hx4_0 hHeld ⊢
        refine pu 0 (some 65) ?_
        refine pu 1 (some 66) ?_
        refine pu 2 (some 67) ?_
        refine pu 4 (some 69) ?_
        refine pu 5 (some 70) ?_
        refine pu 7 (some 72) ?_
        refine pu 8 (some 73) ?_
        refine tu 3 (some 68) hHeld ?_
        refine tu 6 (some 71) hHeld ?_
        refine tu 9 (some 74) hHeld ?_
        refine pu 10 (some 75) ?_
        refine ou 11 (some 12) (fun K hK=> ?_)
        refine box_step ?hg (N:=12) ?hd (cs:= #[V I 0,V I 0,V I 0,V I 0]) (t:=23) ?hr ?_;(case hd=>rfl);(case hg=>rfl);(case hr=>exact Fix.hr)
        intro gb2 hg w8 hbox hb
        have HS1_:=(hb.cell (World.block_lt_of_cell? _ _ (hHeld.1))).trans (hHeld.1)
        have HS2_:=(hb.cell (World.block_lt_of_cell? _ _ (hHeld.2.1))).trans (hHeld.2.1)
        have HS3_:=(hb.cell (World.block_lt_of_cell? _ _ (hHeld.2.2))).trans (hHeld.2.2)
        have BK2:=C hbox
        have GW2:=gE (w:=w) hg
        have GE2:=gE (w:=w) hg
        have n0:=nL hg BK1
        have n1:=nG hg BK1
        replace HO_2:=eR HO_2 hb
        replace BK1:=eK BK1 hb
        replace HB:=eB hb
        clear hb hbox hg
        refine hK.out _ _ ⟨HS1_,HS2_,HS3_⟩ (fun hHeld=> ?_)
        clear hK K
        refine nu (N:=(some 12)) ?_
        refine ou 12 (none) (fun K hK=> ?_)
        obtain⟨hs1,hs2,hs3,hs4,hfs1,hfs2,hfs3,hfs4⟩:=d4 BK2.out
        have hns1_0:=n0.out
        have hms1_0:=n1.out
        refine skip_ (w1:= ?_) (by rfl) rfl ?_ ?_
        rotate_left
        ·go_simp
         rfl
        have hbn_:=Kd.own_blk (Kd.R_ne HO_2.out BK2.out (by decide))
        refine hK.out _ _ ⟨(by repeat(first|with_reducible exact hHeld.1|refine(cell_far (p:=⟨gb2,_,none⟩) (by exact hbn_) _).trans ?_)),(by repeat(first|with_reducible exact hHeld.2.1|refine(cell_far (p:=⟨gb2,_,none⟩) (by exact hbn_) _).trans ?_)),(by repeat(first|with_reducible exact hHeld.2.2|refine(cell_far (p:=⟨gb2,_,none⟩) (by exact hbn_) _).trans ?_))⟩ (fun hHeld=> ?_)
        clear hK K
        refine done_ (done_of HT_.out (by kernel_rfl)) ?_
        have:=n1.out
        have:=n0.out
        obtain⟨_,_,_,_,_,_,_,_⟩:=d4 BK2.out
        try go_wp2_with (first|((with_reducible refine F (f:=14) rfl ?_);refine gl 14 (some 78) func14 #[G #[V I x5_3,V I (rd y3 0),V I (rd y3 1),V I (rd y3 2)]] ?_;(with_reducible refine(spec_FormatAct.calls k3 x5_3 (rd y3 0) (rd y3 1) (rd y3 2) t3 false _ A2.out).mono ?_);rintro e w9 ⟨rfl,hb⟩;refine⟨_,rfl,?_⟩;replace HO_2:=C (Kd.R_below (Kd.R_mono (fR (Kd.R_types HO_2.out BK2.out (by decide))) (fun _ h_=>h_.1)) hb);replace BK1:=eK BK1 hb;replace BK2:=C (blk_below (g:=gb2) (o:=.cells #[V I x5_3,V I (rd y3 0),V I (rd y3 1),V I (rd y3 2)] 23 (0,0)) (bK BK2.out) hb);replace HB:=eB hb;clear hb))
        go_roundg k3
        case measure=>have:=HJ1.out;have:=HK1.out;have:=HK2.out;omega
        case rel=>exact⟨(wrap64 (x5_3+1)),(x6_3),(x7_3),(x8_3),(x9_3),rS,H',⟨by have:=HJ1.out;have:=HK1.out;have:=HK2.out;omega⟩,⟨fR HO_2.out⟩,⟨bK BK1.out⟩,⟨uB⟩⟩
       subst c9
       rw[if_pos rfl]at H
       by_cases c10:t3.toList=x2_2.toList
       rotate_left
       ·rw[if_neg c10]at H
        have c10b0:(t3.toList==x2_2.toList)=false:=beq_eq_false_iff_ne.mpr c10
        have c10b1:(t3.toList !=x2_2.toList)=true:=bne_iff_ne.mpr c10
        have H':=C H
        clear H
        try go_wp2
        replace HO_2:=dR HO_2
        replace BK1:=dK BK1
        replace HB:=dB HB
        obtain⟨Ao3,co3,eo3⟩:=Kd.R_slice HO_2.out
        (first|subst eo3|(injection eo3 with f1_ f2_ f3_;have f4_:=f1_.symm;have f5_:=f3_.symm;clear f1_ f2_ f3_;subst f4_;subst f5_))
        have p2:0≤(0:Int):=(by omega)
        have q2:0<(y3.length:Int):=oT
        obtain⟨ad2,e2,hx2_0⟩:=Kd.at_int (Kd.R_reads' HO_2.out).2.2 0 p2 q2
        cases e2
        have qi2:(0<y3.length)=True:=eq_true (by omega)
        (try rw[show((0:Int)).toNat=0 from rfl]at hx2_0)
        (try rw[Addr.add_zero']at hx2_0)
        replace p2:=eq_true p2
        replace q2:=eq_true q2
        have p3:0≤(1:Int):=(by omega)
        have q3:1<(y3.length:Int):=oT
        obtain⟨ad3,e3,hx3_0⟩:=Kd.at_int (Kd.R_reads' HO_2.out).2.2 1 p3 q3
        obtain rfl:ad2=ad3:=(by injection e3)
        (try simp only[show(1:Int).toNat=1 from rfl,Nat.reduceMul,Nat.reduceEqDiff,Go.Addr.add,↓reduceIte]at hx3_0)
        have qi3:(1<y3.length)=True:=eq_true (by omega)
        (try rw[show((1:Int)).toNat=1 from rfl]at hx3_0)
        replace p3:=eq_true p3
        replace q3:=eq_true q3
        have p4:0≤(2:Int):=(by omega)
        have q4:2<(y3.length:Int):=oT
        obtain⟨ad4,e4,hx4_0⟩:=Kd.at_int (Kd.R_reads' HO_2.out).2.2 2 p4 q4
        obtain rfl:ad2=ad4:=(by injection e4)
        (try simp only[show(2:Int).toNat=2 from rfl,Nat.reduceMul,Nat.reduceEqDiff,Go.Addr.add,↓reduceIte]at hx4_0)
        have qi4:(2<y3.length)=True:=eq_true (by omega)
        (try rw[show((2:Int)).toNat=2 from rfl]at hx4_0)
        replace p4:=eq_true p4
        replace q4:=eq_true q4
        refine start_ (n:=13) (S:=fun w'=>w'.cell? ad2=some (V I (rd y3 0))∧w'.cell? ⟨ad2.block,ad2.off+1,none⟩=some (V I (rd y3 1))∧w'.cell? ⟨ad2.block,ad2.off+2,none⟩=some (V I (rd y3 2))) (ds:= []) #[false,false,false,false,false,false,false,false,false,false,false,false,false] (by kernel_rfl) rfl rfl ⟨hx2_0,hx3_0,hx4_0⟩ (fun hHeld=> ?_);refine with_tabW spec_ParseAct.tab16 spec_ParseAct.bits16 (fun HT_ HW_=> ?_)
        generalize wr.drew=w7 at HO_2 BK1 HB hx2_0 hx3_0 hx4_0 hHeld ⊢
        refine pu 0 (some 65) ?_
        refine pu 1 (some 66) ?_
        refine pu 2 (some 67) ?_
        refine pu 4 (some 69) ?_
        refine pu 5 (some 70) ?_
        refine pu 7 (some 72) ?_
        refine pu 8 (some 73) ?_
        refine tu 3 (some 68) hHeld ?_
        refine tu 6 (some 71) hHeld ?_
        refine tu 9 (some 74) hHeld ?_
        refine pu 10 (some 75) ?_
        refine ou 11 (some 12) (fun K hK=> ?_)
        refine box_step ?hg (N:=12) ?hd (cs:= #[V I 0,V I 0,V I 0,V I 0]) (t:=23) ?hr ?_;(case hd=>rfl);(case hg=>rfl);(case hr=>exact Fix.hr)
        intro gb2 hg w8 hbox hb
        have HS1_:=(hb.cell (World.block_lt_of_cell? _ _ (hHeld.1))).trans (hHeld.1)
        have HS2_:=(hb.cell (World.block_lt_of_cell? _ _ (hHeld.2.1))).trans (hHeld.2.1)
        have HS3_:=(hb.cell (World.block_lt_of_cell? _ _ (hHeld.2.2))).trans (hHeld.2.2)
        have BK2:=C hbox
        have GW2:=gE (w:=w) hg
        have GE2:=gE (w:=w) hg
        have n0:=nL hg BK1
        have n1:=nG hg BK1
        replace HO_2:=eR HO_2 hb
        replace BK1:=eK BK1 hb
        replace HB:=eB hb
        clear hb hbox hg
        refine hK.out _ _ ⟨HS1_,HS2_,HS3_⟩ (fun hHeld=> ?_)
        clear hK K
        refine nu (N:=(some 12)) ?_
        refine ou 12 (none) (fun K hK=> ?_)
        obtain⟨hs1,hs2,hs3,hs4,hfs1,hfs2,hfs3,hfs4⟩:=d4 BK2.out
        have hns1_0:=n0.out
        have hms1_0:=n1.out
        refine skip_ (w1:= ?_) (by rfl) rfl ?_ ?_
        rotate_left
        ·go_simp
         rfl
        have hbn_:=Kd.own_blk (Kd.R_ne HO_2.out BK2.out (by decide))
        refine hK.out _ _ ⟨(by repeat(first|with_reducible exact hHeld.1|refine(cell_far (p:=⟨gb2,_,none⟩) (by exact hbn_) _).trans ?_)),(by repeat(first|with_reducible exact hHeld.2.1|refine(cell_far (p:=⟨gb2,_,none⟩) (by exact hbn_) _).trans ?_)),(by repeat(first|with_reducible exact hHeld.2.2|refine(cell_far (p:=⟨gb2,_,none⟩) (by exact hbn_) _).trans ?_))⟩ (fun hHeld=> ?_)
        clear hK K
        refine done_ (done_of HT_.out (by kernel_rfl)) ?_
        have:=n1.out
        have:=n0.out
        obtain⟨_,_,_,_,_,_,_,_⟩:=d4 BK2.out
        try go_wp2_with (first|((with_reducible refine F (f:=14) rfl ?_);refine gl 14 (some 78) func14 #[G #[V I x5_3,V I (rd y3 0),V I (rd y3 1),V I (rd y3 2)]] ?_;(with_reducible refine(spec_FormatAct.calls k3 x5_3 (rd y3 0) (rd y3 1) (rd y3 2) t3 true _ A2.out).mono ?_);rintro e w9 ⟨rfl,hb⟩;refine⟨_,rfl,?_⟩;replace HO_2:=C (Kd.R_below (Kd.R_mono (fR (Kd.R_types HO_2.out BK2.out (by decide))) (fun _ h_=>h_.1)) hb);replace BK1:=eK BK1 hb;replace BK2:=C (blk_below (g:=gb2) (o:=.cells #[V I x5_3,V I (rd y3 0),V I (rd y3 1),V I (rd y3 2)] 23 (0,0)) (bK BK2.out) hb);replace HB:=eB hb;clear hb))
        go_roundg k3
        case measure=>have:=HJ1.out;have:=HK1.out;have:=HK2.out;omega
        case rel=>exact⟨(wrap64 (x5_3+1)),(x6_3),(x7_3),(x8_3),(x9_3),rS,H',⟨by have:=HJ1.out;have:=HK1.out;have:=HK2.out;omega⟩,⟨fR HO_2.out⟩,⟨bK BK1.out⟩,⟨uB⟩⟩
       rw[if_pos c10]at H
       have c10b0:(t3.toList==x2_2.toList)=true:=beq_iff_eq.mpr c10
       have c10b1:(t3.toList !=x2_2.toList)=false:=bne_eq_false_iff_eq.mpr c10
       clear c10
       simp only[Option.some.injEq,Prod.mk.injEq]at H
       obtain⟨rfl,rfl,rfl,rfl,rfl⟩:=H
       try go_wp2
       replace HO_2:=dR HO_2
       replace BK1:=dK BK1
       replace HB:=dB HB
       obtain⟨Ao3,co3,eo3⟩:=Kd.R_slice HO_2.out
       (first|subst eo3|(injection eo3 with f1_ f2_ f3_;have f4_:=f1_.symm;have f5_:=f3_.symm;clear f1_ f2_ f3_;subst f4_;subst f5_))
       have p2:0≤(0:Int):=(by omega)
       have q2:0<(y3.length:Int):=oT
       obtain⟨ad2,e2,hx2_0⟩:=Kd.at_int (Kd.R_reads' HO_2.out).2.2 0 p2 q2
       cases e2
       have qi2:(0<y3.length)=True:=eq_true (by omega)
       (try rw[show((0:Int)).toNat=0 from rfl]at hx2_0)
       (try rw[Addr.add_zero']at hx2_0)
       replace p2:=eq_true p2
       replace q2:=eq_true q2
       have p3:0≤(1:Int):=(by omega)
       have q3:1<(y3.length:Int):=oT
       obtain⟨ad3,e3,hx3_0⟩:=Kd.at_int (Kd.R_reads' HO_2.out).2.2 1 p3 q3
       obtain rfl:ad2=ad3:=(by injection e3)
       (try simp only[show(1:Int).toNat=1 from rfl,Nat.reduceMul,Nat.reduceEqDiff,Go.Addr.add,↓reduceIte]at hx3_0)
       have qi3:(1<y3.length)=True:=eq_true (by omega)
       (try rw[show((1:Int)).toNat=1 from rfl]at hx3_0)
       replace p3:=eq_true p3
       replace q3:=eq_true q3
       have p4:0≤(2:Int):=(by omega)
       have q4:2<(y3.length:Int):=oT
       obtain⟨ad4,e4,hx4_0⟩:=Kd.at_int (Kd.R_reads' HO_2.out).2.2 2 p4 q4
       obtain rfl:ad2=ad4:=(by injection e4)
       (try simp only[show(2:Int).toNat=2 from rfl,Nat.reduceMul,Nat.reduceEqDiff,Go.Addr.add,↓reduceIte]at hx4_0)
       have qi4:(2<y3.length)=True:=eq_true (by omega)
       (try rw[show((2:Int)).toNat=2 from rfl]at hx4_0)
       replace p4:=eq_true p4
       replace q4:=eq_true q4
       refine start_ (n:=13) (S:=fun w'=>w'.cell? ad2=some (V I (rd y3 0))∧w'.cell? ⟨ad2.block,ad2.off+1,none⟩=some (V I (rd y3 1))∧w'.cell? ⟨ad2.block,ad2.off+2,none⟩=some (V I (rd y3 2))) (ds:= []) #[false,false,false,false,false,false,false,false,false,false,false,false,false] (by kernel_rfl) rfl rfl ⟨hx2_0,hx3_0,hx4_0⟩ (fun hHeld=> ?_);refine with_tabW spec_ParseAct.tab16 spec_ParseAct.bits16 (fun HT_ HW_=> ?_)
       generalize wr.drew=w7 at HO_2 BK1 HB hx2_0 hx3_0 hx4_0 hHeld ⊢
       refine pu 0 (some 65) ?_
       refine pu 1 (some 66) ?_
       refine pu 2 (some 67) ?_
       refine pu 4 (some 69) ?_
       refine pu 5 (some 70) ?_
       refine pu 7 (some 72) ?_
       refine pu 8 (some 73) ?_
       refine tu 3 (some 68) hHeld ?_
       refine tu 6 (some 71) hHeld ?_
       refine tu 9 (some 74) hHeld ?_
       refine pu 10 (some 75) ?_
       refine ou 11 (some 12) (fun K hK=> ?_)
       refine box_step ?hg (N:=12) ?hd (cs:= #[V I 0,V I 0,V I 0,V I 0]) (t:=23) ?hr ?_;(case hd=>rfl);(case hg=>rfl);(case hr=>exact Fix.hr)
       intro gb2 hg w8 hbox hb
       have HS1_:=(hb.cell (World.block_lt_of_cell? _ _ (hHeld.1))).trans (hHeld.1)
       have HS2_:=(hb.cell (World.block_lt_of_cell? _ _ (hHeld.2.1))).trans (hHeld.2.1)
       have HS3_:=(hb.cell (World.block_lt_of_cell? _ _ (hHeld.2.2))).trans (hHeld.2.2)
       have BK2:=C hbox
       have GW2:=gE (w:=w) hg
       have GE2:=gE (w:=w) hg
       have n0:=nL hg BK1
       have n1:=nG hg BK1
       replace HO_2:=eR HO_2 hb
       replace BK1:=eK BK1 hb
       replace HB:=eB hb
       clear hb hbox hg
       refine hK.out _ _ ⟨HS1_,HS2_,HS3_⟩ (fun hHeld=> ?_)
       clear hK K
       refine nu (N:=(some 12)) ?_
       refine ou 12 (none) (fun K hK=> ?_)
       obtain⟨hs1,hs2,hs3,hs4,hfs1,hfs2,hfs3,hfs4⟩:=d4 BK2.out
       have hns1_0:=n0.out
       have hms1_0:=n1.out
       refine skip_ (w1:= ?_) (by rfl) rfl ?_ ?_
       rotate_left
       ·go_simp
        rfl
       have hbn_:=Kd.own_blk (Kd.R_ne HO_2.out BK2.out (by decide))
       refine hK.out _ _ ⟨(by repeat(first|with_reducible exact hHeld.1|refine(cell_far (p:=⟨gb2,_,none⟩) (by exact hbn_) _).trans ?_)),(by repeat(first|with_reducible exact hHeld.2.1|refine(cell_far (p:=⟨gb2,_,none⟩) (by exact hbn_) _).trans ?_)),(by repeat(first|with_reducible exact hHeld.2.2|refine(cell_far (p:=⟨gb2,_,none⟩) (by exact hbn_) _).trans ?_))⟩ (fun hHeld=> ?_)
       clear hK K
       refine done_ (done_of HT_.out (by kernel_rfl)) ?_
       have:=n1.out
       have:=n0.out
       obtain⟨_,_,_,_,_,_,_,_⟩:=d4 BK2.out
       try go_wp2_with (first|((with_reducible refine F (f:=14) rfl ?_);refine gl 14 (some 78) func14 #[G #[V I x5_3,V I (rd y3 0),V I (rd y3 1),V I (rd y3 2)]] ?_;(with_reducible refine(spec_FormatAct.calls k3 x5_3 (rd y3 0) (rd y3 1) (rd y3 2) t3 true _ A2.out).mono ?_);rintro e w9 ⟨rfl,hb⟩;refine⟨_,rfl,?_⟩;replace HO_2:=C (Kd.R_below (Kd.R_mono (fR (Kd.R_types HO_2.out BK2.out (by decide))) (fun _ h_=>h_.1)) hb);replace BK1:=eK BK1 hb;replace BK2:=C (blk_below (g:=gb2) (o:=.cells #[V I x5_3,V I (rd y3 0),V I (rd y3 1),V I (rd y3 2)] 23 (0,0)) (bK BK2.out) hb);replace HB:=eB hb;clear hb;obtain⟨_,_,_,_,_,_,_,_⟩:=d4 BK2.out;obtain⟨_,_,_,_,_,_,_,_⟩:=d4 BK1.out))
       refine bodyPost_ret (results_ct rfl _ _ gb1 23 #[V I x5_3,V I (rd y3 0),V I (rd y3 1),V I (rd y3 2)] (0,0) _ rfl (bK BK1.out) underlying23 rfl (by kernel_rfl)) rfl ?_
       exact⟨rE,uB⟩
def impl_within.f (a0:Int) (a1:Int) (a2:Int):Option (Bool):=if a0 ≥ a1 then(some (decide (a0≤a2))) else(some false)
theorem impl_within.W1 {p:Prop} (h:p:=by
 go_enter func34,ntmps34
 go_wp2
 go_ret
 exact⟨by first|rfl|(simp;done)|(simp[*];done),by repeat(first|exact Drawn0.refl _|apply Drawn0.step)⟩):p:=h
theorem impl_within.calls (a0:Int) (a1:Int) (a2:Int) (r:Bool) (w:World) (h:impl_within.f a0 a1 a2=some r):
 Calls prog 34 #[V I a0,V I a1,V I a2] w fun e w'=>e=.returned (O r)∧Drawn0 w w':=by
 have H:=h
 unfold impl_within.f at H
 clear h
 by_cases c1:a0 ≥ a1
 ·rw[if_pos c1]at H
  replace c1:=decide_eq_true c1
  obtain rfl:=si H
  exact impl_within.W1
 rw[if_neg c1]at H
 replace c1:=decide_eq_false c1
 obtain rfl:=si H
 exact impl_within.W1
def impl_JobOk.f (a0_0:Int) (a0_1:Int) (a0_2:Int) (a0_3:Bool) (a0_4:Int) (a0_5:Bool):Option (Bool):=(impl_within.f a0_0 1 9999).bind fun t180=>(if t180=true then((impl_within.f a0_1 1 64).bind fun t181=>(if t181=true then((impl_within.f a0_2 1 20).bind fun t182=>(if t182=true then((impl_within.f a0_4 0 9).bind fun t183=>(some t183)) else(some false))) else(some false))) else(some false))
theorem impl_JobOk.W1 {p:Prop} (h:p:=by
 go_enter func32,ntmps32
 go_wp2_with (first|((with_reducible refine J (N:=1) rfl ?_);refine Fix.be 1 #[V I a0_0,V I a0_1,V I a0_2,O a0_3,V I a0_4,O a0_5] 32 ?_;intro gb1 hg w1 BK1 hb;have GW1:=gE (w:=w) hg;replace HB:=eB hb;clear hb hg;obtain⟨_,_,_,_,_,_,_,_,_,_,_,_⟩:=d6 BK1.out)|((with_reducible refine F (f:=34) rfl ?_);refine gl 34 (some 5) func34 #[V I a0_0,V I 1,V I 9999] ?_;(with_reducible refine(impl_within.calls a0_0 1 9999 true _ A1.out).mono ?_);rintro e w' ⟨rfl,⟨nd,rfl⟩⟩;refine⟨_,rfl,?_⟩)|(go_at_call 34;(with_reducible refine(impl_within.calls a0_1 1 64 true _ A2.out).mono ?_);rintro e w' ⟨rfl,⟨nd,rfl⟩⟩)|(go_at_call 34;(with_reducible refine(impl_within.calls a0_2 1 20 true _ A3.out).mono ?_);rintro e w' ⟨rfl,⟨nd,rfl⟩⟩)|(go_at_call 34;(with_reducible refine(impl_within.calls a0_4 0 9 t4 _ A4.out).mono ?_);rintro e w' ⟨rfl,⟨nd,rfl⟩⟩)|(go_at_call 34;(with_reducible refine(impl_within.calls a0_1 1 64 false _ A2.out).mono ?_);rintro e w' ⟨rfl,⟨nd,rfl⟩⟩))
 go_ret
 exact⟨rE,uB⟩):p:=h
theorem impl_JobOk.calls (a0_0:Int) (a0_1:Int) (a0_2:Int) (a0_3:Bool) (a0_4:Int) (a0_5:Bool) (r:Bool) (w:World) (h:impl_JobOk.f a0_0 a0_1 a0_2 a0_3 a0_4 a0_5=some r):
 Calls prog 32 #[G #[V I a0_0,V I a0_1,V I a0_2,O a0_3,V I a0_4,O a0_5]] w fun e w'=>e=.returned (O r)∧Below w.heap.size w w':=by
 have hu1:=underlying32
 have HB:=C (Below.refl w.heap.size w)
 have H:=h
 unfold impl_JobOk.f at H
 clear h
 obtain⟨t1,A1,H⟩:=bnd H
 by_cases c1:t1=true
 rotate_left
 ·obtain rfl:=nt c1
  replace H:=nf H
  obtain rfl:=si H
  go_enter func32,ntmps32
  go_wp2_with (first|((with_reducible refine J (N:=1) rfl ?_);refine Fix.be 1 #[V I a0_0,V I a0_1,V I a0_2,O a0_3,V I a0_4,O a0_5] 32 ?_;intro gb1 hg w1 BK1 hb;have GW1:=gE (w:=w) hg;have GE1:=GW1;replace HB:=eB hb;clear hb hg;obtain⟨_,_,_,_,_,_,_,_,_,_,_,_⟩:=d6 BK1.out)|((with_reducible refine F (f:=34) rfl ?_);refine gl 34 (some 5) func34 #[V I a0_0,V I 1,V I 9999] ?_;(with_reducible refine(impl_within.calls a0_0 1 9999 false _ A1.out).mono ?_);rintro e w' ⟨rfl,⟨nd,rfl⟩⟩;refine⟨_,rfl,?_⟩))
  go_ret
  exact⟨rE,uB⟩
 subst c1
 rw[if_pos rfl]at H
 obtain⟨t2,A2,H⟩:=bnd H
 by_cases c2:t2=true
 rotate_left
 ·obtain rfl:=nt c2
  replace H:=nf H
  obtain rfl:=si H
  exact impl_JobOk.W1
 subst c2
 rw[if_pos rfl]at H
 obtain⟨t3,A3,H⟩:=bnd H
 by_cases c3:t3=true
 ·subst c3
  rw[if_pos rfl]at H
  obtain⟨t4,A4,H⟩:=bnd H
  obtain rfl:=si H
  exact impl_JobOk.W1
 obtain rfl:=nt c3
 replace H:=nf H
 obtain rfl:=si H
 go_enter func32,ntmps32
 go_wp2_with (first|((with_reducible refine J (N:=1) rfl ?_);refine Fix.be 1 #[V I a0_0,V I a0_1,V I a0_2,O a0_3,V I a0_4,O a0_5] 32 ?_;intro gb1 hg w1 BK1 hb;have GW1:=gE (w:=w) hg;have GE1:=GW1;replace HB:=eB hb;clear hb hg;obtain⟨_,_,_,_,_,_,_,_,_,_,_,_⟩:=d6 BK1.out)|((with_reducible refine F (f:=34) rfl ?_);refine gl 34 (some 5) func34 #[V I a0_0,V I 1,V I 9999] ?_;(with_reducible refine(impl_within.calls a0_0 1 9999 true _ A1.out).mono ?_);rintro e w' ⟨rfl,⟨nd,rfl⟩⟩;refine⟨_,rfl,?_⟩)|(go_at_call 34;(with_reducible refine(impl_within.calls a0_1 1 64 true _ A2.out).mono ?_);rintro e w' ⟨rfl,⟨nd,rfl⟩⟩)|(go_at_call 34;(with_reducible refine(impl_within.calls a0_2 1 20 false _ A3.out).mono ?_);rintro e w' ⟨rfl,⟨nd,rfl⟩⟩))
 go_ret
 exact⟨rE,uB⟩
def impl_jobOf.f (a0_0:Int) (a0_1:Int) (a0_2:Int) (a0_3:Int):Option (Int×Int×Int×Bool×Int×Bool):=some (a0_1,a0_2,1,false,a0_3,(a0_3==9))
theorem impl_jobOf.calls (a0_0:Int) (a0_1:Int) (a0_2:Int) (a0_3:Int) (r1:Int) (r2:Int) (r3:Int) (r4:Bool) (r5:Int) (r6:Bool) (w:World) (h:impl_jobOf.f a0_0 a0_1 a0_2 a0_3=some (r1,r2,r3,r4,r5,r6)):
 Calls prog 33 #[G #[V I a0_0,V I a0_1,V I a0_2,V I a0_3]] w fun e w'=>e=.returned (G #[V I r1,V I r2,V I r3,O r4,V I r5,O r6])∧Below w.heap.size w w':=by
 have hu1:=underlying23
 have hu2:=underlying32
 have HB:=C (Below.refl w.heap.size w)
 have H:=h
 unfold impl_jobOf.f at H
 clear h
 simp only[Option.some.injEq,Prod.mk.injEq]at H
 obtain⟨rfl,rfl,rfl,rfl,rfl,rfl⟩:=H
 go_enter func33,ntmps33
 go_wp2_with (first|((with_reducible refine J (N:=1) rfl ?_);refine Fix.be 1 #[V I a0_0,V I a0_1,V I a0_2,V I a0_3] 23 ?_;intro gb1 hg w1 BK1 hb;have GW1:=gE (w:=w) hg;replace HB:=eB hb;clear hb hg)|((with_reducible refine J (N:=2) rfl ?_);refine Fix.be 2 #[V I 0,V I 0,V I 0,O false,V I 0,O false] 32 ?_;intro gb2 hg w2 BK2 hb;have GW2:=gE (w:=w) hg;have n0:=nL hg BK1;have n1:=nG hg BK1;replace BK1:=eK BK1 hb;replace HB:=eB hb;clear hb hg;have:=n0.out;have:=n1.out;obtain⟨_,_,_,_,_,_,_,_⟩:=d4 BK1.out;obtain⟨_,_,_,_,_,_,_,_,_,_,_,_⟩:=d6 BK2.out))
 refine bodyPost_ret (results_cell_row rfl _ _ gb2 32 #[V I a0_1,V I a0_2,V I 1,O false,V I a0_3,O (a0_3==9)] (0,0) _ rfl (bK BK2.out) underlying32 rfl (by kernel_rfl)) rfl ?_
 exact⟨rE,uB⟩
def impl_ActOk.j0:Nat→Int→Bool→Int→Int→Int→Int→Option (Bool)
 |0,_,_,_,_,_,_=>none
 |k+1,x4,x10,x187000,x187001,x187002,x187003=>if x10=true then(if x187001=0 then(if x187002=0 then(some (x187003==0)) else(some false)) else(some false)) else(if x4=3 then((impl_within.f x187001 1 5).bind fun t194=>(if t194=true then(if x187002=0 then(some (x187003==0)) else(some false)) else(some false))) else(if x4=5 then((impl_within.f x187001 1 9999).bind fun t195=>(if t195=true then(if x187002=0 then(some (x187003==0)) else(some false)) else(some false))) else(some false)))
def impl_ActOk.f (k:Nat) (a0_0:Int) (a0_1:Int) (a0_2:Int) (a0_3:Int):Option (Bool):=if a0_0=1 then((impl_jobOf.f a0_0 a0_1 a0_2 a0_3).bind fun bt187=>((impl_JobOk.f bt187.1 bt187.2.1 bt187.2.2.1 bt187.2.2.2.1 bt187.2.2.2.2.1 bt187.2.2.2.2.2).bind fun t193=>(some t193))) else(if a0_0=2 then(impl_ActOk.j0 k a0_0 (a0_0==2) a0_0 a0_1 a0_2 a0_3) else(impl_ActOk.j0 k a0_0 (a0_0==4) a0_0 a0_1 a0_2 a0_3))
theorem impl_ActOk.W1 {p:Prop} (h:p:=by
 go_wp2
 go_meet
 first
  |(case rel=>exact⟨_,((a0_0==2)),rS,H',⟨oL⟩,⟨bK BK1.out⟩,⟨uB⟩⟩)
  |(case rel=>exact⟨_,((a0_0==4)),rS,H',⟨oL⟩,⟨bK BK1.out⟩,⟨uB⟩⟩)):p:=h
theorem impl_ActOk.W2 {p:Prop} (h:p:=by
 go_wp2
 go_ret
 exact⟨rE,uB⟩):p:=h
theorem impl_ActOk.W3 {p:Prop} (h:p:=by
 go_wp2_with (first|((with_reducible refine F (f:=34) rfl ?_);refine gl 34 (some 30) func34 #[V I a0_1,V I 1,V I 5] ?_;(with_reducible refine(impl_within.calls a0_1 1 5 true _ A1.out).mono ?_);rintro e w' ⟨rfl,⟨nd,rfl⟩⟩;refine⟨_,rfl,?_⟩))
 go_ret
 exact⟨rE,uB⟩):p:=h
theorem impl_ActOk.W4 {p:Prop} (h:p:=by
 go_wp2_with (first|((with_reducible refine F (f:=34) rfl ?_);refine gl 34 (some 45) func34 #[V I a0_1,V I 1,V I 9999] ?_;(with_reducible refine(impl_within.calls a0_1 1 9999 true _ A1.out).mono ?_);rintro e w' ⟨rfl,⟨nd,rfl⟩⟩;refine⟨_,rfl,?_⟩))
 go_ret
 exact⟨rE,uB⟩):p:=h
theorem impl_ActOk.calls (k:Nat) (a0_0:Int) (a0_1:Int) (a0_2:Int) (a0_3:Int) (r:Bool) (w:World) (h:impl_ActOk.f k a0_0 a0_1 a0_2 a0_3=some r):
 Calls prog 21 #[G #[V I a0_0,V I a0_1,V I a0_2,V I a0_3]] w fun e w'=>e=.returned (O r)∧Below w.heap.size w w':=by
 have hu1:=underlying23
 have HB:=C (Below.refl w.heap.size w)
 have H:=h
 unfold impl_ActOk.f at H
 clear h
 by_cases c1:a0_0=1
 ·rw[if_pos c1]at H
  have c1b0:(a0_0==1)=true:=beq_iff_eq.mpr c1
  have c1b1:(a0_0 !=1)=false:=bne_eq_false_iff_eq.mpr c1
  clear c1
  obtain⟨⟨t1,t2,t3,t4,t5,t6⟩,A1,H⟩:=bnd H
  dsimp only at H
  obtain⟨t7,A2,H⟩:=bnd H
  obtain rfl:=si H
  go_enter func21,ntmps21
  go_wp2_with (first|((with_reducible refine J (N:=1) rfl ?_);refine Fix.be 1 #[V I a0_0,V I a0_1,V I a0_2,V I a0_3] 23 ?_;intro gb1 hg w1 BK1 hb;have GW1:=gE (w:=w) hg;have GE1:=GW1;replace HB:=eB hb;clear hb hg;obtain⟨_,_,_,_,_,_,_,_⟩:=d4 BK1.out)|((with_reducible refine F (f:=33) rfl ?_);refine gl 33 (some 8) func33 #[G #[V I a0_0,V I a0_1,V I a0_2,V I a0_3]] ?_;(with_reducible refine(impl_jobOf.calls a0_0 a0_1 a0_2 a0_3 t1 t2 t3 t4 t5 t6 _ A1.out).mono ?_);rintro e w2 ⟨rfl,hb⟩;refine⟨_,rfl,?_⟩;replace BK1:=eK BK1 hb;replace HB:=eB hb;clear hb)|((with_reducible refine F (f:=32) rfl ?_);refine gl 32 (some 9) func32 #[G #[V I t1,V I t2,V I t3,O t4,V I t5,O t6]] ?_;(with_reducible refine(impl_JobOk.calls t1 t2 t3 t4 t5 t6 t7 _ A2.out).mono ?_);rintro e w3 ⟨rfl,hb⟩;refine⟨_,rfl,?_⟩;replace BK1:=eK BK1 hb;replace HB:=eB hb;clear hb))
  go_ret
  exact⟨rE,uB⟩
 rw[if_neg c1]at H
 have c1b0:(a0_0==1)=false:=beq_eq_false_iff_ne.mpr c1
 have c1b1:(a0_0 !=1)=true:=bne_iff_ne.mpr c1
 have HC1:=C H
 clear H
 go_enter func21,ntmps21
 go_upto_if 10 with(first|((with_reducible refine J (N:=1) rfl ?_);refine Fix.be 1 #[V I a0_0,V I a0_1,V I a0_2,V I a0_3] 23 ?_;intro gb1 hg w1 BK1 hb;have GW1:=gE (w:=w) hg;have GE1:=GW1;replace HB:=eB hb;clear hb hg;obtain⟨_,_,_,_,_,_,_,_⟩:=d4 BK1.out))
 (try simp only[Act.put,List.setIfInBounds_toArray,List.set_cons_zero,List.set_cons_succ])
 go_cut [10] (fun v10 wc=>∃(kq:Nat) (x1_8:Bool),v10=O x1_8∧D (impl_ActOk.j0 kq a0_0 x1_8 a0_0 a0_1 a0_2 a0_3=some r)∧D (kq≤k)∧D (wc.heap[gb1]? =some (.cells #[V I a0_0,V I a0_1,V I a0_2,V I a0_3] 23 (0,0)))∧D (Below w.heap.size w wc))
 case first=>
  have H:=HC1.out
  clear HC1
  by_cases c2:a0_0=2
  rotate_left
  ·rw[if_neg c2]at H
   have c2b0:(a0_0==2)=false:=beq_eq_false_iff_ne.mpr c2
   have c2b1:(a0_0 !=2)=true:=bne_iff_ne.mpr c2
   (first|rw[c2b0]|(simp only[i64_w,i32_w];rw[c2b0])|skip)
   have H':=C H
   clear H
   exact impl_ActOk.W1
  rw[if_pos c2]at H
  have c2b0:(a0_0==2)=true:=beq_iff_eq.mpr c2
  have c2b1:(a0_0 !=2)=false:=bne_eq_false_iff_eq.mpr c2
  clear c2
  (first|rw[c2b0]|(simp only[i64_w,i32_w];rw[c2b0])|skip)
  have H':=C H
  clear H
  exact impl_ActOk.W1
 case rest=>
  clear HC1
  obtain⟨kq,x1_8,rfl,HA,HJ1,BK1,HB⟩:=hcut
  cases kq with
  |zero=>exact absurd HA.out (by simp[impl_ActOk.j0])
  |succ kj8=>
   have H:=HA.out
   clear HA
   simp only[impl_ActOk.j0]at H
   by_cases c2:x1_8=true
   ·subst c2
    rw[if_pos rfl]at H
    by_cases c3:a0_1=0
    rotate_left
    ·rw[if_neg c3]at H
     have c3b0:(a0_1==0)=false:=beq_eq_false_iff_ne.mpr c3
     have c3b1:(a0_1 !=0)=true:=bne_iff_ne.mpr c3
     obtain rfl:=si H
     obtain⟨_,_,_,_,_,_,_,_⟩:=d4 BK1.out
     exact impl_ActOk.W2
    rw[if_pos c3]at H
    have c3b0:(a0_1==0)=true:=beq_iff_eq.mpr c3
    have c3b1:(a0_1 !=0)=false:=bne_eq_false_iff_eq.mpr c3
    clear c3
    by_cases c4:a0_2=0
    rotate_left
    ·rw[if_neg c4]at H
     have c4b0:(a0_2==0)=false:=beq_eq_false_iff_ne.mpr c4
     have c4b1:(a0_2 !=0)=true:=bne_iff_ne.mpr c4
     obtain rfl:=si H
     obtain⟨_,_,_,_,_,_,_,_⟩:=d4 BK1.out
     exact impl_ActOk.W2
    rw[if_pos c4]at H
    have c4b0:(a0_2==0)=true:=beq_iff_eq.mpr c4
    have c4b1:(a0_2 !=0)=false:=bne_eq_false_iff_eq.mpr c4
    clear c4
    obtain rfl:=si H
    obtain⟨_,_,_,_,_,_,_,_⟩:=d4 BK1.out
    exact impl_ActOk.W2
   obtain rfl:=nt c2
   replace H:=nf H
   by_cases c3:a0_0=3
   ·rw[if_pos c3]at H
    have c3b0:(a0_0==3)=true:=beq_iff_eq.mpr c3
    have c3b1:(a0_0 !=3)=false:=bne_eq_false_iff_eq.mpr c3
    clear c3
    obtain⟨t1,A1,H⟩:=bnd H
    by_cases c4:t1=true
    rotate_left
    ·obtain rfl:=nt c4
     replace H:=nf H
     obtain rfl:=si H
     obtain⟨_,_,_,_,_,_,_,_⟩:=d4 BK1.out
     go_wp2_with (first|((with_reducible refine F (f:=34) rfl ?_);refine gl 34 (some 30) func34 #[V I a0_1,V I 1,V I 5] ?_;(with_reducible refine(impl_within.calls a0_1 1 5 false _ A1.out).mono ?_);rintro e w' ⟨rfl,⟨nd,rfl⟩⟩;refine⟨_,rfl,?_⟩))
     go_ret
     exact⟨rE,uB⟩
    subst c4
    rw[if_pos rfl]at H
    by_cases c5:a0_2=0
    rotate_left
    ·rw[if_neg c5]at H
     have c5b0:(a0_2==0)=false:=beq_eq_false_iff_ne.mpr c5
     have c5b1:(a0_2 !=0)=true:=bne_iff_ne.mpr c5
     obtain rfl:=si H
     obtain⟨_,_,_,_,_,_,_,_⟩:=d4 BK1.out
     exact impl_ActOk.W3
    rw[if_pos c5]at H
    have c5b0:(a0_2==0)=true:=beq_iff_eq.mpr c5
    have c5b1:(a0_2 !=0)=false:=bne_eq_false_iff_eq.mpr c5
    clear c5
    obtain rfl:=si H
    obtain⟨_,_,_,_,_,_,_,_⟩:=d4 BK1.out
    exact impl_ActOk.W3
   rw[if_neg c3]at H
   have c3b0:(a0_0==3)=false:=beq_eq_false_iff_ne.mpr c3
   have c3b1:(a0_0 !=3)=true:=bne_iff_ne.mpr c3
   by_cases c4:a0_0=5
   rotate_left
   ·rw[if_neg c4]at H
    have c4b0:(a0_0==5)=false:=beq_eq_false_iff_ne.mpr c4
    have c4b1:(a0_0 !=5)=true:=bne_iff_ne.mpr c4
    obtain rfl:=si H
    exact impl_ActOk.W2
   rw[if_pos c4]at H
   have c4b0:(a0_0==5)=true:=beq_iff_eq.mpr c4
   have c4b1:(a0_0 !=5)=false:=bne_eq_false_iff_eq.mpr c4
   clear c4
   obtain⟨t1,A1,H⟩:=bnd H
   by_cases c5:t1=true
   rotate_left
   ·obtain rfl:=nt c5
    replace H:=nf H
    obtain rfl:=si H
    obtain⟨_,_,_,_,_,_,_,_⟩:=d4 BK1.out
    go_wp2_with (first|((with_reducible refine F (f:=34) rfl ?_);refine gl 34 (some 45) func34 #[V I a0_1,V I 1,V I 9999] ?_;(with_reducible refine(impl_within.calls a0_1 1 9999 false _ A1.out).mono ?_);rintro e w' ⟨rfl,⟨nd,rfl⟩⟩;refine⟨_,rfl,?_⟩))
    go_ret
    exact⟨rE,uB⟩
   subst c5
   rw[if_pos rfl]at H
   by_cases c6:a0_2=0
   rotate_left
   ·rw[if_neg c6]at H
    have c6b0:(a0_2==0)=false:=beq_eq_false_iff_ne.mpr c6
    have c6b1:(a0_2 !=0)=true:=bne_iff_ne.mpr c6
    obtain rfl:=si H
    obtain⟨_,_,_,_,_,_,_,_⟩:=d4 BK1.out
    exact impl_ActOk.W4
   rw[if_pos c6]at H
   have c6b0:(a0_2==0)=true:=beq_iff_eq.mpr c6
   have c6b1:(a0_2 !=0)=false:=bne_eq_false_iff_eq.mpr c6
   clear c6
   obtain rfl:=si H
   obtain⟨_,_,_,_,_,_,_,_⟩:=d4 BK1.out
   exact impl_ActOk.W4
def strconv_Itoa_35.f (a0:Int):Option ByteArray:=if -9223372036854775808≤a0 then(if a0≤9223372036854775807 then some ⟨(Lib.itoa a0).toArray⟩ else none) else none
theorem strconv_Itoa_35.calls (a0:Int) (r:ByteArray) (w:World) (h:strconv_Itoa_35.f a0=some r) (hTab:Ito.Tab w):
 Calls prog 35 #[V I a0] w fun e w'=>e=.returned (.string r)∧Below w.heap.size w w':=by
 unfold strconv_Itoa_35.f at h
 by_cases c1: -9223372036854775808≤a0
 rotate_left
 ·rw[if_neg c1]at h;cases h
 rw[if_pos c1]at h
 by_cases c2:a0≤9223372036854775807
 rotate_left
 ·rw[if_neg c2]at h;cases h
 rw[if_pos c2]at h
 obtain rfl:=Option.some.inj h
 refine(Any.strconv_Itoa Tryd.laysItoa a0 c1 c2 w hTab.1).mono ?_
 rintro e w' ⟨rfl,k,os,rfl⟩
 exact⟨rfl,Lib.below_grow _ _ (Nat.le_refl _) _ _⟩
def impl_FormatInt.f (a0:Int):Option (ByteArray):=(strconv_Itoa_35.f a0).bind fun t197=>(some t197)
theorem impl_FormatInt.calls (a0:Int) (r:ByteArray) (w:World) (h:impl_FormatInt.f a0=some r) (hTab:Ito.Tab w):
 Calls prog 22 #[V I a0] w fun e w'=>e=.returned (.string r)∧Below w.heap.size w w':=by
 replace hTab:=C hTab
 have HB:=C (Below.refl w.heap.size w)
 have H:=h
 unfold impl_FormatInt.f at H
 clear h
 obtain⟨t1,A1,H⟩:=bnd H
 obtain rfl:=si H
 go_enter func22,ntmps22
 go_wp2_with (first|((with_reducible refine F (f:=35) rfl ?_);refine gl 35 (some 4) func35 #[V I a0] ?_;(with_reducible refine(strconv_Itoa_35.calls a0 t1 _ A1.out (Ito.on hTab.out uB)).mono ?_);rintro e w1 ⟨rfl,hb⟩;refine⟨_,rfl,?_⟩;replace HB:=eB hb;clear hb))
 go_ret
 exact⟨rE,uB⟩
def impl_FormatAct.f (k:Nat) (a0_0:Int) (a0_1:Int) (a0_2:Int) (a0_3:Int):Option (ByteArray×Bool):=(impl_ActOk.f k a0_0 a0_1 a0_2 a0_3).bind fun t199=>(if t199=true then(if a0_0=1 then((impl_FormatInt.f a0_1).bind fun t200=>(if 4+t200.size≤9223372036854775807 then(if((⟨#[97,100,100,32]⟩:ByteArray)++t200).size+1≤9223372036854775807 then((impl_FormatInt.f a0_2).bind fun t201=>(if(((⟨#[97,100,100,32]⟩:ByteArray)++t200)++(⟨#[32]⟩:ByteArray)).size+t201.size≤9223372036854775807 then(if((((⟨#[97,100,100,32]⟩:ByteArray)++t200)++(⟨#[32]⟩:ByteArray))++t201).size+1≤9223372036854775807 then((impl_FormatInt.f a0_3).bind fun t202=>(if(((((⟨#[97,100,100,32]⟩:ByteArray)++t200)++(⟨#[32]⟩:ByteArray))++t201)++(⟨#[32]⟩:ByteArray)).size+t202.size≤9223372036854775807 then(some ((((((⟨#[97,100,100,32]⟩:ByteArray)++t200)++(⟨#[32]⟩:ByteArray))++t201)++(⟨#[32]⟩:ByteArray))++t202,true)) else(none))) else(none)) else(none))) else(none)) else(none))) else(if a0_0=2 then(some ((⟨#[116,97,107,101]⟩:ByteArray),true)) else(if a0_0=3 then((impl_FormatInt.f a0_1).bind fun t203=>(if 5+t203.size≤9223372036854775807 then(some ((⟨#[108,105,110,101,32]⟩:ByteArray)++t203,true)) else(none))) else(if a0_0=4 then(some ((⟨#[102,105,110,105,115,104]⟩:ByteArray),true)) else((impl_FormatInt.f a0_1).bind fun t204=>(if 8+t204.size≤9223372036854775807 then(some ((⟨#[114,101,108,101,97,115,101,32]⟩:ByteArray)++t204,true)) else(none))))))) else(some ((⟨#[]⟩:ByteArray),false)))
def impl_FormatAct.T5:Bool×List (List Nat×List Nat):=(true,[([],[]),([0],[0]),([1],[1]),([2],[2]),([3],[3]),([],[]),([5],[5]),([6,2],[6]),([4,7],[4,7]),([8],[8]),([],[]),([10],[10]),([11,7],[11]),([9,12],[9,12]),([13,12,0,1,2,3,4,5,6,7,8,9,10,11,12,13],[13]),([14,0,1,2,3,4,5,6,7,8,9,10,11,12,13,14],[])])
def impl_FormatAct.B5:List Nat:= [0,1,3,7,15,0,32,103,255,511,0,1024,3303,8191,16383,32767]
theorem impl_FormatAct.tab5:rtab .any (opsOf Tryd.f10 5)=impl_FormatAct.T5:=by kernel_rfl
theorem impl_FormatAct.bits5:waitsOk impl_FormatAct.T5.2 impl_FormatAct.B5=true:=by kernel_rfl
theorem impl_FormatAct.W1 {p:Prop} (h:p:=by
 go_enter func10,ntmps10
 go_wp2_with (first|((with_reducible refine J (N:=1) rfl ?_);refine Fix.be 1 #[V I a0_0,V I a0_1,V I a0_2,V I a0_3] 23 ?_;intro gb1 hg w1 BK1 hb;have GW1:=gE (w:=w) hg;replace HB:=eB hb;clear hb hg;obtain⟨_,_,_,_,_,_,_,_⟩:=d4 BK1.out)|((with_reducible refine F (f:=21) rfl ?_);refine gl 21 (some 5) func21 #[G #[V I a0_0,V I a0_1,V I a0_2,V I a0_3]] ?_;(with_reducible refine(impl_ActOk.calls k a0_0 a0_1 a0_2 a0_3 true _ A1.out).mono ?_);rintro e w2 ⟨rfl,hb⟩;refine⟨_,rfl,?_⟩;replace BK1:=eK BK1 hb;replace HB:=eB hb;clear hb;obtain⟨_,_,_,_,_,_,_,_⟩:=d4 BK1.out)|((with_reducible refine F (f:=22) rfl ?_);refine gl 22 (some 31) func22 #[V I a0_1] ?_;(with_reducible refine(impl_FormatInt.calls a0_1 t2 _ A2.out (Ito.on hTab.out uB)).mono ?_);rintro e w3 ⟨rfl,hb⟩;refine⟨_,rfl,?_⟩;replace BK1:=eK BK1 hb;replace HB:=eB hb;clear hb))
 go_ret2
 exact⟨rE,uB⟩):p:=h
theorem impl_FormatAct.W2 {p:Prop} (h:p:=by
 go_enter func10,ntmps10
 go_wp2_with (first|((with_reducible refine J (N:=1) rfl ?_);refine Fix.be 1 #[V I a0_0,V I a0_1,V I a0_2,V I a0_3] 23 ?_;intro gb1 hg w1 BK1 hb;have GW1:=gE (w:=w) hg;replace HB:=eB hb;clear hb hg;obtain⟨_,_,_,_,_,_,_,_⟩:=d4 BK1.out)|((with_reducible refine F (f:=21) rfl ?_);refine gl 21 (some 5) func21 #[G #[V I a0_0,V I a0_1,V I a0_2,V I a0_3]] ?_;(with_reducible refine(impl_ActOk.calls k a0_0 a0_1 a0_2 a0_3 true _ A1.out).mono ?_);rintro e w2 ⟨rfl,hb⟩;refine⟨_,rfl,?_⟩;replace BK1:=eK BK1 hb;replace HB:=eB hb;clear hb;obtain⟨_,_,_,_,_,_,_,_⟩:=d4 BK1.out)|((with_reducible refine F (f:=22) rfl ?_);refine gl 22 (some 37) func22 #[V I a0_1] ?_;(with_reducible refine(impl_FormatInt.calls a0_1 t2 _ A2.out (Ito.on hTab.out uB)).mono ?_);rintro e w3 ⟨rfl,hb⟩;refine⟨_,rfl,?_⟩;replace BK1:=eK BK1 hb;replace HB:=eB hb;clear hb))
 go_ret2
 exact⟨rE,uB⟩):p:=h
theorem impl_FormatAct.calls (k:Nat) (a0_0:Int) (a0_1:Int) (a0_2:Int) (a0_3:Int) (r1:ByteArray) (r2:Bool) (w:World) (h:impl_FormatAct.f k a0_0 a0_1 a0_2 a0_3=some (r1,r2)) (hTab:Ito.Tab w):
 Calls prog 10 #[G #[V I a0_0,V I a0_1,V I a0_2,V I a0_3]] w fun e w'=>e=.returned (.tuple #[.string r1,O r2])∧Below w.heap.size w w':=by
 replace hTab:=C hTab
 have hu1:=underlying23
 have HB:=C (Below.refl w.heap.size w)
 have H:=h
 unfold impl_FormatAct.f at H
 clear h
 obtain⟨t1,A1,H⟩:=bnd H
 by_cases c1:t1=true
 rotate_left
 ·obtain rfl:=nt c1
  replace H:=nf H
  simp only[Option.some.injEq,Prod.mk.injEq]at H
  obtain⟨rfl,rfl⟩:=H
  go_enter func10,ntmps10
  go_wp2_with (first|((with_reducible refine J (N:=1) rfl ?_);refine Fix.be 1 #[V I a0_0,V I a0_1,V I a0_2,V I a0_3] 23 ?_;intro gb1 hg w1 BK1 hb;have GW1:=gE (w:=w) hg;have GE1:=GW1;replace HB:=eB hb;clear hb hg;obtain⟨_,_,_,_,_,_,_,_⟩:=d4 BK1.out)|((with_reducible refine F (f:=21) rfl ?_);refine gl 21 (some 5) func21 #[G #[V I a0_0,V I a0_1,V I a0_2,V I a0_3]] ?_;(with_reducible refine(impl_ActOk.calls k a0_0 a0_1 a0_2 a0_3 false _ A1.out).mono ?_);rintro e w2 ⟨rfl,hb⟩;refine⟨_,rfl,?_⟩;replace BK1:=eK BK1 hb;replace HB:=eB hb;clear hb))
  go_ret2
  exact⟨rE,uB⟩
 subst c1
 rw[if_pos rfl]at H
 by_cases c2:a0_0=1
 rotate_left
 ·rw[if_neg c2]at H
  have c2b0:(a0_0==1)=false:=beq_eq_false_iff_ne.mpr c2
  have c2b1:(a0_0 !=1)=true:=bne_iff_ne.mpr c2
  by_cases c3:a0_0=2
  ·rw[if_pos c3]at H
   have c3b0:(a0_0==2)=true:=beq_iff_eq.mpr c3
   have c3b1:(a0_0 !=2)=false:=bne_eq_false_iff_eq.mpr c3
   clear c3
   simp only[Option.some.injEq,Prod.mk.injEq]at H
   obtain⟨rfl,rfl⟩:=H
   exact impl_FormatAct.W1
  rw[if_neg c3]at H
  have c3b0:(a0_0==2)=false:=beq_eq_false_iff_ne.mpr c3
  have c3b1:(a0_0 !=2)=true:=bne_iff_ne.mpr c3
  by_cases c4:a0_0=3
  ·rw[if_pos c4]at H
   have c4b0:(a0_0==3)=true:=beq_iff_eq.mpr c4
   have c4b1:(a0_0 !=3)=false:=bne_eq_false_iff_eq.mpr c4
   clear c4
   obtain⟨t2,A2,H⟩:=bnd H
   obtain⟨c5,H⟩:=np H
   have c5b0:=eq_true c5
   have c5b1:decide (5+t2.size≤9223372036854775807)=true:=decide_eq_true c5
   try have c5b2:(9223372036854775807<5+t2.size)=False:=eq_false (Nat.not_lt.2 c5)
   try(have h1_:=c5;simp only[ByteArray.size_append,Ito.bsz,List.size_toArray,List.length_cons,List.length_nil]at h1_;have c5b3:=eq_false (Nat.not_lt.2 h1_);clear h1_)
   simp only[Option.some.injEq,Prod.mk.injEq]at H
   obtain⟨rfl,rfl⟩:=H
   exact impl_FormatAct.W1
  rw[if_neg c4]at H
  have c4b0:(a0_0==3)=false:=beq_eq_false_iff_ne.mpr c4
  have c4b1:(a0_0 !=3)=true:=bne_iff_ne.mpr c4
  by_cases c5:a0_0=4
  ·rw[if_pos c5]at H
   have c5b0:(a0_0==4)=true:=beq_iff_eq.mpr c5
   have c5b1:(a0_0 !=4)=false:=bne_eq_false_iff_eq.mpr c5
   clear c5
   simp only[Option.some.injEq,Prod.mk.injEq]at H
   obtain⟨rfl,rfl⟩:=H
   exact impl_FormatAct.W2
  rw[if_neg c5]at H
  have c5b0:(a0_0==4)=false:=beq_eq_false_iff_ne.mpr c5
  have c5b1:(a0_0 !=4)=true:=bne_iff_ne.mpr c5
  obtain⟨t2,A2,H⟩:=bnd H
  obtain⟨c6,H⟩:=np H
  have c6b0:=eq_true c6
  have c6b1:decide (8+t2.size≤9223372036854775807)=true:=decide_eq_true c6
  try have c6b2:(9223372036854775807<8+t2.size)=False:=eq_false (Nat.not_lt.2 c6)
  try(have h1_:=c6;simp only[ByteArray.size_append,Ito.bsz,List.size_toArray,List.length_cons,List.length_nil]at h1_;have c6b3:=eq_false (Nat.not_lt.2 h1_);clear h1_)
  simp only[Option.some.injEq,Prod.mk.injEq]at H
  obtain⟨rfl,rfl⟩:=H
  exact impl_FormatAct.W2
 rw[if_pos c2]at H
 have c2b0:(a0_0==1)=true:=beq_iff_eq.mpr c2
 have c2b1:(a0_0 !=1)=false:=bne_eq_false_iff_eq.mpr c2
 clear c2
 obtain⟨t2,A2,H⟩:=bnd H
 obtain⟨c3,H⟩:=np H
 have c3b0:=eq_true c3
 have c3b1:decide (4+t2.size≤9223372036854775807)=true:=decide_eq_true c3
 try have c3b2:(9223372036854775807<4+t2.size)=False:=eq_false (Nat.not_lt.2 c3)
 try(have h1_:=c3;simp only[ByteArray.size_append,Ito.bsz,List.size_toArray,List.length_cons,List.length_nil]at h1_;have c3b3:=eq_false (Nat.not_lt.2 h1_);clear h1_)
 obtain⟨c4,H⟩:=np H
 have c4b0:=eq_true c4
 have c4b1:decide (((⟨#[97,100,100,32]⟩:ByteArray)++t2).size+1≤9223372036854775807)=true:=decide_eq_true c4
 try have c4b2:(9223372036854775807<((⟨#[97,100,100,32]⟩:ByteArray)++t2).size+1)=False:=eq_false (Nat.not_lt.2 c4)
 try(have h1_:=c4;simp only[ByteArray.size_append,Ito.bsz,List.size_toArray,List.length_cons,List.length_nil]at h1_;have c4b3:=eq_false (Nat.not_lt.2 h1_);clear h1_)
 obtain⟨t3,A3,H⟩:=bnd H
 obtain⟨c5,H⟩:=np H
 have c5b0:=eq_true c5
 have c5b1:decide ((((⟨#[97,100,100,32]⟩:ByteArray)++t2)++(⟨#[32]⟩:ByteArray)).size+t3.size≤9223372036854775807)=true:=decide_eq_true c5
 try have c5b2:(9223372036854775807<(((⟨#[97,100,100,32]⟩:ByteArray)++t2)++(⟨#[32]⟩:ByteArray)).size+t3.size)=False:=eq_false (Nat.not_lt.2 c5)
 try(have h1_:=c5;simp only[ByteArray.size_append,Ito.bsz,List.size_toArray,List.length_cons,List.length_nil]at h1_;have c5b3:=eq_false (Nat.not_lt.2 h1_);clear h1_)
 obtain⟨c6,H⟩:=np H
 have c6b0:=eq_true c6
 have c6b1:decide (((((⟨#[97,100,100,32]⟩:ByteArray)++t2)++(⟨#[32]⟩:ByteArray))++t3).size+1≤9223372036854775807)=true:=decide_eq_true c6
 try have c6b2:(9223372036854775807<((((⟨#[97,100,100,32]⟩:ByteArray)++t2)++(⟨#[32]⟩:ByteArray))++t3).size+1)=False:=eq_false (Nat.not_lt.2 c6)
 try(have h1_:=c6;simp only[ByteArray.size_append,Ito.bsz,List.size_toArray,List.length_cons,List.length_nil]at h1_;have c6b3:=eq_false (Nat.not_lt.2 h1_);clear h1_)
 obtain⟨t4,A4,H⟩:=bnd H
 obtain⟨c7,H⟩:=np H
 have c7b0:=eq_true c7
 have c7b1:decide ((((((⟨#[97,100,100,32]⟩:ByteArray)++t2)++(⟨#[32]⟩:ByteArray))++t3)++(⟨#[32]⟩:ByteArray)).size+t4.size≤9223372036854775807)=true:=decide_eq_true c7
 try have c7b2:(9223372036854775807<(((((⟨#[97,100,100,32]⟩:ByteArray)++t2)++(⟨#[32]⟩:ByteArray))++t3)++(⟨#[32]⟩:ByteArray)).size+t4.size)=False:=eq_false (Nat.not_lt.2 c7)
 try(have h1_:=c7;simp only[ByteArray.size_append,Ito.bsz,List.size_toArray,List.length_cons,List.length_nil]at h1_;have c7b3:=eq_false (Nat.not_lt.2 h1_);clear h1_)
 simp only[Option.some.injEq,Prod.mk.injEq]at H
 obtain⟨rfl,rfl⟩:=H
 go_enter func10,ntmps10
 try go_wp2_with (first|((with_reducible refine J (N:=1) rfl ?_);refine Fix.be 1 #[V I a0_0,V I a0_1,V I a0_2,V I a0_3] 23 ?_;intro gb1 hg w1 BK1 hb;have GW1:=gE (w:=w) hg;have GE1:=GW1;replace HB:=eB hb;clear hb hg;obtain⟨_,_,_,_,_,_,_,_⟩:=d4 BK1.out)|((with_reducible refine F (f:=21) rfl ?_);refine gl 21 (some 5) func21 #[G #[V I a0_0,V I a0_1,V I a0_2,V I a0_3]] ?_;(with_reducible refine(impl_ActOk.calls k a0_0 a0_1 a0_2 a0_3 true _ A1.out).mono ?_);rintro e w2 ⟨rfl,hb⟩;refine⟨_,rfl,?_⟩;replace BK1:=eK BK1 hb;replace HB:=eB hb;clear hb;obtain⟨_,_,_,_,_,_,_,_⟩:=d4 BK1.out))
 replace BK1:=dK BK1
 replace HB:=dB HB
 refine start_ (n:=16) (S:=fun w'=>cl4 w' gb1 (V I a0_0) (V I a0_1) (V I a0_2) (V I a0_3)) (ds:= []) #[false,false,false,false,false,false,false,false,false,false,false,false,false,false,false,false] (by kernel_rfl) rfl rfl hh (fun hHeld=> ?_);refine with_tabW impl_FormatAct.tab5 impl_FormatAct.bits5 (fun HT_ HW_=> ?_)
 generalize w2.drew=w3 at BK1 HB hHeld ⊢
 refine pu 0 (some 11) ?_
 refine pu 5 (some 16) ?_
 refine pu 10 (some 21) ?_
 refine tu 1 (some 12) hHeld ?_
 refine tu 6 (some 17) hHeld ?_
 refine tu 11 (some 22) hHeld ?_
 refine ou 2 (some 13) (fun K hK=> ?_)
 refine gs func22 #[V I a0_1] ?_
 with_reducible refine(impl_FormatInt.calls a0_1 t2 _ A2.out (Ito.on hTab.out uB)).mono ?_
 rintro e w4 ⟨rfl,hb⟩
 refine⟨_,rfl,?_⟩
 replace BK1:=eK BK1 hb
 replace HB:=eB hb
 (try clear hb)
 refine hK.out _ _ hh (fun hHeld=> ?_)
 clear hK K
 refine nu (N:=(some 13)) ?_
 refine pu 3 (some 14) ?_
 refine pu 4 (some 15) ?_
 refine ou 7 (some 18) (fun K hK=> ?_)
 refine gs func22 #[V I a0_2] ?_
 with_reducible refine(impl_FormatInt.calls a0_2 t3 _ A3.out (Ito.on hTab.out uB)).mono ?_
 rintro e w5 ⟨rfl,hb⟩
 refine⟨_,rfl,?_⟩
 replace BK1:=eK BK1 hb
 replace HB:=eB hb
 (try clear hb)
 refine hK.out _ _ hh (fun hHeld=> ?_)
 clear hK K
 refine nu (N:=(some 18)) ?_
 refine pu 8 (some 19) ?_
 refine pu 9 (some 20) ?_
 refine ou 12 (some 23) (fun K hK=> ?_)
 refine gs func22 #[V I a0_3] ?_
 with_reducible refine(impl_FormatInt.calls a0_3 t4 _ A4.out (Ito.on hTab.out uB)).mono ?_
 rintro e w6 ⟨rfl,hb⟩
 refine⟨_,rfl,?_⟩
 replace BK1:=eK BK1 hb
 replace HB:=eB hb
 (try clear hb)
 refine hK.out _ _ hh (fun hHeld=> ?_)
 clear hK K
 refine nu (N:=(some 23)) ?_
 refine pu 13 (some 24) ?_
 refine pu 14 (some 2) ?_
 refine pu 15 (some 3) ?_
 refine done_ (done_of HT_.out (by kernel_rfl)) ?_
 try go_wp2
 go_ret2
 exact⟨rE,uB⟩
def strings_Split.f (a0:ByteArray) (a1:ByteArray):Option (List ByteArray):=if a0.size<4294967281 then(if 1≤a1.size then some (Lib.splitB a1 0 (Lib.countB a0 a1) a0) else none) else none
theorem strings_Split.calls (a0:ByteArray) (a1:ByteArray) (r:List ByteArray) (w:World) (h:strings_Split.f a0 a1=some r) (hTab:Ito.Tab w):
 Calls prog 25 #[.string a0,.string a1] w fun e w'=>∃v0_:Value,e=.returned (v0_)∧Kd.R Kd.string 9 w' w.heap.size (fun _=>True) v0_ r∧Below w.heap.size w w':=by
 unfold strings_Split.f at h
 by_cases c1:a0.size<4294967281
 rotate_left
 ·rw[if_neg c1]at h;cases h
 rw[if_pos c1]at h
 by_cases c2:1≤a1.size
 rotate_left
 ·rw[if_neg c2]at h;cases h
 rw[if_pos c2]at h
 obtain rfl:=Option.some.inj h
 obtain⟨m,hm⟩:=hTab.2
 have hl:=Lib.splitB_all a1 c2 0 _ a0 rfl
 have hle:=Lib.countB_le a1 c2 a0.size a0 (Nat.le_refl _)
 refine(Any.strings_Split { Tryd.laysSplit with } Tryd.laysSplit.i9 a0 a1 m w c1 hm c2).mono ?_
 rintro e w' ⟨rfl,rfl⟩
 refine⟨_,rfl,?_,below_alloc (Below.refl _ _) _⟩
 rw[←hl]
 exact Kd.R_of_own (own_lit_of w w.heap.size 9 _ (Nat.le_refl _) (by rw[hl];omega)) (fun _ _=>trivial)
end Go.Proofs.YtgdnlmfoghpeoaaDoor.PFnExactParseAct
