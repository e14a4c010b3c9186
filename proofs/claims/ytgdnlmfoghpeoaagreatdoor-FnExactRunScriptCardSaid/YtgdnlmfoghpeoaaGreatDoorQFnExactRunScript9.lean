/- Calls do what plain Lean functions say (FnExactRunScript). No condition. -/
import Derived.Test.YtgdnlmfoghpeoaaGreatDoorQFnExactRunScript0
import Derived.Test.YtgdnlmfoghpeoaaGreatDoorQFnExactRunScript8
namespace Go.Proofs.YtgdnlmfoghpeoaaGreatDoor.PFnExactRunScript
open Go.RowKit Go.Proofs.YtgdnlmfoghpeoaaGreatDoorW.PrintWords Go.Proofs.YtgdnlmfoghpeoaaGreatDoorW.PrintLast Go.Proofs.YtgdnlmfoghpeoaaGreatDoorW.PrintMore
open Tryz
open Fix (bK bnd cf14 cl14 cl6 cs14 d14 d4 d6 dB dD dK dR eB eK eR fR fS gE gK gl gs gy hh hx lR mo nG nL nf np nt nu oL oT ou pu qm qn rE rS si tu uB uC uR uS uZ)
open Go.Value renaming int→V,slice→L,bool→O,agg→G
open Go.IntKind renaming i64→I
open Go.Proofs.YtgdnlmfoghpeoaaGreatDoorW.PrintWords.Aside0 renaming mk→C
open Go.Proofs.YtgdnlmfoghpeoaaGreatDoorW.PrintWords renaming Aside0→D,gate_dst→J
open Go.Proofs.YtgdnlmfoghpeoaaGreatDoorW.PrintWords.Kd renaming R_mono→X,R_types→Y,R_slice→U
attribute [local go_sem] max2_int min2_int max_two min_two max_three min_three max_four min_four
attribute [local go_sem] Fix.isSome_setCell
set_option linter.unusedVariables false
set_option maxHeartbeats 40000000
set_option maxRecDepth 100000
set_option linter.unusedSimpArgs false
mutual
def spec_ParseAct.j0:Nat→List ByteArray→Bool→Option (Int×Int×Int×Int×Bool)
  |0,_,_=>none
  |k+1,x4,x27=>if x27=true then(some (0,0,0,0,false)) else(if 0<(x4.length:Int) then(spec_ParseAct.l0 k x4 (rdOf ByteArray.empty x4 0) (([]:List Int)) 1) else(none))
def spec_ParseAct.l0:Nat→List ByteArray→ByteArray→List Int→Int→Option (Int×Int×Int×Int×Bool)
  |0,_,_,_,_=>none
  |k+1,x4,x6,x7,x8=>if x8<(x4.length:Int) then(if x6.size+1≤9223372036854775807 then(if 0≤x8 then(if(x6++(⟨#[32]⟩:ByteArray)).size+(rdOf ByteArray.empty x4 x8).size≤9223372036854775807 then((spec_ParseUint.f k (rdOf ByteArray.empty x4 x8)).bind fun bt599=>(if x7.length<17592186044416 then(spec_ParseAct.l0 k x4 ((x6++(⟨#[32]⟩:ByteArray))++(rdOf ByteArray.empty x4 x8)) (x7++ [bt599.1]) (wrap64 (x8+1))) else(none))) else(none)) else(none)) else(none)) else((some (([0,0,0]:List Int):List Int)).bind fun y604=>(if x7.length+y604.length<17592186044416 then(spec_ParseAct.l1 k x6 (x7++y604) 1) else(none)))
def spec_ParseAct.l1:Nat→ByteArray→List Int→Int→Option (Int×Int×Int×Int×Bool)
  |0,_,_,_=>none
  |k+1,x6,x7,x11=>if x11≤5 then(if 0<(x7.length:Int) then(if 1<(x7.length:Int) then(if 2<(x7.length:Int) then((spec_FormatAct.f k x11 (rd x7 0) (rd x7 1) (rd x7 2)).bind fun bt614=>(if bt614.2=true then(if bt614.1.toList=x6.toList then(some (x11,rd x7 0,rd x7 1,rd x7 2,true)) else(spec_ParseAct.l1 k x6 x7 (wrap64 (x11+1)))) else(spec_ParseAct.l1 k x6 x7 (wrap64 (x11+1))))) else(none)) else(none)) else(none)) else(some (0,0,0,0,false))
end
def spec_ParseAct.f (k:Nat) (a0:ByteArray):Option (Int×Int×Int×Int×Bool):=(spec_SplitFields.f k a0).bind fun bt588=>(if bt588.2=true then((spec_l01In.f (bt588.1.length:Int) 1 4).bind fun t592=>(spec_ParseAct.j0 k bt588.1 (!t592))) else(spec_ParseAct.j0 k bt588.1 true))
def spec_ParseAct.T16:Bool×List (List Nat×List Nat):=(true,[([],[]),([],[]),([1],[1]),([2],[2]),([],[]),([4],[4]),([5],[5]),([],[]),([7],[7]),([8],[8]),([0,3,6,9],[0,3,6,9]),([],[]),([11,10,0,1,2,3,4,5,6,7,8,9,10,11],[10,11])])
def spec_ParseAct.B16:List Nat:= [0,0,2,6,0,16,48,0,128,384,1023,0,4095]
theorem spec_ParseAct.tab16:rtab .any (opsOf Tryz.f31 16)=spec_ParseAct.T16:=by kernel_rfl
theorem spec_ParseAct.bits16:waitsOk spec_ParseAct.T16.2 spec_ParseAct.B16=true:=by kernel_rfl
theorem spec_ParseAct.W1 {p:Prop} (h:p:=by
 go_wp2
 refine bodyPost_ret (results_ct rfl _ _ gb1 55 #[V I 0,V I 0,V I 0,V I 0] (0,0) _ rfl (bK BK1.out) underlying55 rfl (by kernel_rfl)) rfl ?_
 exact⟨rE,uB⟩):p:=h
theorem spec_ParseAct.calls (k:Nat) (a0:ByteArray) (r1:Int) (r2:Int) (r3:Int) (r4:Int) (r5:Bool) (w:World) (h:spec_ParseAct.f k a0=some (r1,r2,r3,r4,r5)):
 Calls prog 31 #[.string a0] w fun e w'=>e=.returned (.tuple #[G #[V I r1,V I r2,V I r3,V I r4],O r5])∧Below w.heap.size w w':=by
 have hu1:=underlying55
 have HB:=C (Below.refl w.heap.size w)
 have H:=h
 unfold spec_ParseAct.f at H
 clear h
 obtain⟨⟨t1,t2⟩,A1,H⟩:=bnd H
 dsimp only at H
 have HC1:=C H
 clear H
 go_enter func31,ntmps31
 go_upto_region 2 with(first|((with_reducible refine J (N:=2) rfl ?_);(try(refine gate_guard (by rfl) ?_;dsimp only));refine Fix.be 2 #[V I 0,V I 0,V I 0,V I 0] 55 ?_;intro gb1 hg w2 BK1 hb;have GW1:=gE (w:=w) hg;replace HB:=eB hb;clear hb hg)|((with_reducible refine gate_callee (f:=30) rfl ?_);refine gl 30 (some 17) func30 #[.string a0] ?_;(with_reducible refine(spec_SplitFields.calls k a0 t1 t2 _ A1.out).mono ?_);rintro e w3 ⟨v1,rfl,ho1,hb⟩;refine⟨_,rfl,?_⟩;have HO1:=lR ho1;replace BK1:=eK BK1 hb;replace HB:=eB hb;clear hb ho1))
 (try simp only[Act.put,List.setIfInBounds_toArray,List.set_cons_zero,List.set_cons_succ])
 go_cut [27] (fun v27 wc=>∃(kq:Nat) (x1_2:Bool),v27=O x1_2∧D (spec_ParseAct.j0 kq t1 x1_2=some (r1,r2,r3,r4,r5))∧D (kq≤k)∧D (Kd.R Kd.string 9 wc w.heap.size (fun _=>True) v1 t1)∧D (wc.heap[gb1]? =some (.cells #[V I 0,V I 0,V I 0,V I 0] 55 (0,0)))∧D (Below w.heap.size w wc))
 case first=>
  have H:=HC1.out
  clear HC1
  by_cases c1:t2=true
  rotate_left
  ·obtain rfl:=nt c1
   replace H:=nf H
   have H':=C H
   clear H
   go_wp2
   go_meet
   case rel=>exact⟨_,(true),rS,H',⟨oL⟩,⟨fR HO1.out⟩,⟨bK BK1.out⟩,⟨uB⟩⟩
  subst c1
  rw[if_pos rfl]at H
  obtain⟨t3,A2,H⟩:=bnd H
  have H':=C H
  clear H
  obtain⟨Ao1,co1,eo1⟩:=U HO1.out
  subst eo1
  go_wp2_with (first|(go_at_call 60;(with_reducible refine(spec_l01In.calls (t1.length:Int) 1 4 t3 _ A2.out).mono ?_);rintro e w' ⟨rfl,⟨nd,rfl⟩⟩))
  go_meet
  case rel=>exact⟨_,(!t3),rS,H',⟨oL⟩,⟨fR HO1.out⟩,⟨bK BK1.out⟩,⟨uB⟩⟩
 case rest=>
  clear HC1
  obtain⟨kq,x1_2,rfl,HA,HJ1,HO_1,BK1,HB⟩:=hcut
  cases kq with
  |zero=>exact absurd HA.out (by simp[spec_ParseAct.j0])
  |succ kj2=>
   have H:=HA.out
   clear HA
   simp only[spec_ParseAct.j0]at H
   by_cases c1:x1_2=true
   ·subst c1
    rw[if_pos rfl]at H
    simp only[Option.some.injEq,Prod.mk.injEq]at H
    obtain⟨rfl,rfl,rfl,rfl,rfl⟩:=H
    obtain⟨_,_,_,_,_,_,_,_⟩:=d4 BK1.out
    exact spec_ParseAct.W1
   obtain rfl:=nt c1
   replace H:=nf H
   obtain⟨c2,H⟩:=np H
   have c2b0:decide (0<(t1.length:Int))=true:=decide_eq_true c2
   have c2b1:decide (0<t1.length)=true:=decide_eq_true (by omega)
   clear c2
   obtain⟨y1,hy1⟩:∃y_:List Int,y_=(([]:List Int)):=⟨_,rfl⟩
   replace H:(spec_ParseAct.l0 kj2 t1 (rdOf ByteArray.empty t1 0) y1 1)=some (r1,r2,r3,r4,r5):=gy hy1 H
   have Ny1:=C hy1
   clear hy1
   have H':=C H
   clear H
   obtain⟨Ao1,co1,eo1⟩:=U HO_1.out
   subst eo1
   have p1:0≤(0:Int):=(by omega)
   have q1:0<(t1.length:Int):=oT
   obtain⟨ad1,e1,hx1_0⟩:=Kd.at_string (Kd.R_reads' HO_1.out).2.2 0 p1 q1
   cases e1
   have qi1:(0<t1.length)=True:=eq_true (by omega)
   (try rw[show((0:Int)).toNat=0 from rfl]at hx1_0)
   (try rw[Addr.add_zero']at hx1_0)
   replace p1:=eq_true p1
   replace q1:=eq_true q1
   go_wp2_with (first|((with_reducible refine J (N:=32) rfl ?_);(try(refine gate_guard (by rfl) ?_;dsimp only));refine Kd.R_lit (Kd.int .i64) _ 3 ?hg (N:=32) ?hd (xs:=([]:List Int)) (inner:= []) (ok:=fun _=>True) (okp:=fun _=>True) ?hr ?hp (fun _ hk=>hk) trivial (Below.refl _ _) (Nat.le_refl _) (by simp) ?_;(case hd=>rfl);(case hg=>rfl);(case hr=>exact Fix.hr);(case hp=>exact(Reps.none _ _));intro v2 w4 ho2 hb hg_ hnew_;clear hg_ hnew_;(first|rw[←Ny1.out]at ho2|(simp only[Int.reduceToNat]at ho2;rw[←Ny1.out]at ho2));have HO2:=lR ho2;replace HO_1:=eR HO_1 hb;replace BK1:=eK BK1 hb;replace HB:=eB hb;clear hb ho2))
   go_loopg [6,7,8] kj2 (fun kq v6 v7 v8 w'=>∃(x2_2:ByteArray) (x3_2:List Int) (x4_2:Int),v6=.string x2_2∧v8=V I x4_2∧D (spec_ParseAct.l0 kq t1 x2_2 x3_2 x4_2=some (r1,r2,r3,r4,r5))∧D (kq≤kj2)∧D (Kd.R Kd.string 9 w' w.heap.size (fun _=>True) (L (some ad1) t1.length co1) t1)∧D (Kd.R (Kd.int .i64) 3 w' w.heap.size (fun _=>True) v7 x3_2)∧D (w'.heap[gb1]? =some (.cells #[V I 0,V I 0,V I 0,V I 0] 55 (0,0)))∧D (Below w.heap.size w w'))
   case atStart=>exact⟨(rdOf ByteArray.empty t1 0),(y1),(1),rS,rS,H',⟨Nat.le_refl _⟩,⟨fR HO_1.out⟩,⟨fR HO2.out⟩,⟨bK BK1.out⟩,⟨uB⟩⟩
   case round=>
    clear H'
    obtain⟨x2_2,x3_2,x4_2,rfl,rfl,HA,HK1,HO_1,HO_2,BK1,HB⟩:=hrel
    cases gk with
    |zero=>exact absurd HA.out (by simp[spec_ParseAct.l0])
    |succ k2=>
     have H:=HA.out
     clear HA
     simp only[spec_ParseAct.l0]at H
     by_cases c3:x4_2<(t1.length:Int)
     ·rw[if_pos c3]at H
      replace c3:=decide_eq_true c3
      obtain⟨c4,H⟩:=np H
      have c4b0:=eq_true c4
      have c4b1:decide (x2_2.size+1≤9223372036854775807)=true:=decide_eq_true c4
      try have c4b2:(9223372036854775807<x2_2.size+1)=False:=eq_false (Nat.not_lt.2 c4)
      try(have h1_:=c4;simp only[ByteArray.size_append,Ito.bsz,List.size_toArray,List.length_cons,List.length_nil]at h1_;have c4b3:=eq_false (Nat.not_lt.2 h1_);clear h1_)
      obtain⟨c5,H⟩:=np H
      replace c5:=decide_eq_true c5
      obtain⟨c6,H⟩:=np H
      have c6b0:=eq_true c6
      have c6b1:decide ((x2_2++(⟨#[32]⟩:ByteArray)).size+(rdOf ByteArray.empty t1 x4_2).size≤9223372036854775807)=true:=decide_eq_true c6
      try have c6b2:(9223372036854775807<(x2_2++(⟨#[32]⟩:ByteArray)).size+(rdOf ByteArray.empty t1 x4_2).size)=False:=eq_false (Nat.not_lt.2 c6)
      try(have h1_:=c6;simp only[ByteArray.size_append,Ito.bsz,List.size_toArray,List.length_cons,List.length_nil]at h1_;have c6b3:=eq_false (Nat.not_lt.2 h1_);clear h1_)
      obtain⟨⟨t3,t4⟩,A2,H⟩:=bnd H
      dsimp only at H
      obtain⟨c7,H⟩:=np H
      have LMc1:=C c7
      clear c7
      obtain⟨y2,hy2⟩:∃y_:List Int,y_=(x3_2++ [t3]):=⟨_,rfl⟩
      replace H:(spec_ParseAct.l0 k2 t1 ((x2_2++(⟨#[32]⟩:ByteArray))++(rdOf ByteArray.empty t1 x4_2)) y2 (wrap64 (x4_2+1)))=some (r1,r2,r3,r4,r5):=gy hy2 H
      have Ny2:=C hy2
      clear hy2
      have H':=C H
      clear H
      have p2:0≤(x4_2:Int):=oT
      have q2:x4_2<(t1.length:Int):=oT
      obtain⟨ad2,e2,hx2_0⟩:=Kd.at_string (Kd.R_reads' HO_1.out).2.2 x4_2 p2 q2
      obtain rfl:ad1=ad2:=(by injection e2)
      replace p2:=eq_true p2
      replace q2:=eq_true q2
      have p3:0≤(x4_2:Int):=oT
      have q3:x4_2<(t1.length:Int):=oT
      obtain⟨ad3,e3,hx3_0⟩:=Kd.at_string (Kd.R_reads' HO_1.out).2.2 x4_2 p3 q3
      obtain rfl:ad1=ad3:=(by injection e3)
      replace p3:=eq_true p3
      replace q3:=eq_true q3
      go_wp2_with (first|((with_reducible refine gate_callee (f:=61) rfl ?_);refine gl 61 (some 51) func61 #[.string (rdOf ByteArray.empty t1 x4_2)] ?_;(with_reducible refine(spec_ParseUint.calls k2 (rdOf ByteArray.empty t1 x4_2) t3 t4 _ A2.out).mono ?_);rintro e w5 ⟨rfl,hb⟩;refine⟨_,rfl,?_⟩;replace HO_1:=eR HO_1 hb;replace HO_2:=eR HO_2 hb;replace BK1:=eK BK1 hb;replace HB:=eB hb;clear hb)|((with_reducible refine gate_builtin (b:=.append) (xs:= #[.tmp 54,.tmp 56]) rfl ?_);(try(refine gate_guard (by rfl) ?_;dsimp only));at_builtin;refine Kd.R_append (Kd.int .i64) (w0:=w) w.heap.size rfl (.tmp 54) (.tmp 56) 27 3 (V I 0) 8 rfl underlying27 info3 rfl (by decide) (by omega) u7 x3_2 t3 [V I t3] (fun _=>True) (fun _=>False) rfl rfl ?aP (fun _ hk=>hk.elim) ?aF ?aO ?aB ?aS ?aL ?_;(case aP=>exact rfl);(case aB=>exact uB);(case aF=>exact(fun _ _=>trivial));(case aO=>exact(uR HO_2.out));(case aS=>exact(below_size uB));(case aL=>have:=LMc1.out;omega);intro v3 w6 ho hb hg hat;rw[←Ny2.out]at ho;have HO3:=C (ho);replace HO_1:=C (Kd.R_over' (uR HO_1.out) (Kd.R_typed (uR HO_2.out)) (by decide) hg);replace BK1:=gK BK1 hg (Kd.R_ne HO_2.out BK1.out (by decide));replace HB:=C (hb);clear HO_2;clear ho hb hg hat))
      go_roundg k2
      case measure=>have:=HJ1.out;have:=HK1.out;omega
      case rel=>exact⟨((x2_2++(⟨#[32]⟩:ByteArray))++(rdOf ByteArray.empty t1 x4_2)),(y2),(wrap64 (x4_2+1)),rS,rS,H',⟨by have:=HJ1.out;have:=HK1.out;omega⟩,⟨fR HO_1.out⟩,⟨fR HO3.out⟩,⟨bK BK1.out⟩,⟨uB⟩⟩
     rw[if_neg c3]at H
     replace c3:=decide_eq_false c3
     obtain⟨y2,hy2⟩:∃y_:List Int,y_=(([0,0,0]:List Int)):=⟨_,rfl⟩
     replace H:(if x3_2.length+y2.length<17592186044416 then(spec_ParseAct.l1 k2 x2_2 (x3_2++y2) 1) else(none))=some (r1,r2,r3,r4,r5):=gy hy2 H
     have Ny2:=C hy2
     clear hy2
     obtain⟨c4,H⟩:=np H
     have LMc1:=C c4
     clear c4
     obtain⟨y3,hy3⟩:∃y_:List Int,y_=(x3_2++y2):=⟨_,rfl⟩
     replace H:(spec_ParseAct.l1 k2 x2_2 y3 1)=some (r1,r2,r3,r4,r5):=gy hy3 H
     have Ny3:=C hy3
     clear hy3
     have H':=C H
     clear H
     go_wp2_with (first|((with_reducible refine J (N:=59) rfl ?_);(try(refine gate_guard (by rfl) ?_;dsimp only));refine Kd.R_lit (Kd.int .i64) _ 3 ?hg (N:=59) ?hd (xs:=([0,0,0]:List Int)) (inner:= [V I 0,V I 0,V I 0]) (ok:=fun _=>True) (okp:=fun _=>True) ?hr ?hp (fun _ hk=>hk) trivial (Below.refl _ _) (Nat.le_refl _) (by simp) ?_;(case hd=>rfl);(case hg=>rfl);(case hr=>exact Fix.hr);(case hp=>exact(Reps.one (show Kd.M (Kd.int .i64) _ _ _ 0 [V I 0] from rfl) (Reps.one (show Kd.M (Kd.int .i64) _ _ _ 0 [V I 0] from rfl) (Reps.one (show Kd.M (Kd.int .i64) _ _ _ 0 [V I 0] from rfl) (Reps.none _ _)))));intro v3 w5 ho3 hb hg_ hnew_;clear hg_ hnew_;(first|rw[←Ny2.out]at ho3|(simp only[Int.reduceToNat]at ho3;rw[←Ny2.out]at ho3));have HO3:=C (Kd.R_lower (Kd.R_new' ho3 (Kd.R_lt (uR HO_2.out))) (below_size uB));replace HO_1:=eR HO_1 hb;replace HO_2:=C (Kd.R_elder' (uR HO_2.out) (Kd.R_base ho3) hb);replace BK1:=eK BK1 hb;replace HB:=eB hb;clear hb ho3;obtain⟨Ao2,co2,rfl⟩:=U HO3.out)|((with_reducible refine gate_builtin (b:=.append) (xs:= #[.tmp 58,.tmp 59]) rfl ?_);(try(refine gate_guard (by rfl) ?_;dsimp only));at_builtin;refine Kd.R_append_rows (Kd.int .i64) (w0:=w) w.heap.size rfl (.tmp 58) (.tmp 59) 27 3 (V I 0) 8 rfl underlying27 info3 rfl (by decide) (by omega) u7 x3_2 y2 _ _ _ (fun k_=>qn k_ Ao2 y2.length co2) (fun _=>False) rfl rfl ?aO ?aR (fun _ _ h=>h) (fun _ h=>h.elim) ?aF ?aB ?aS ?aL ?_;(case aR=>exact uC (Kd.R_reads' HO3.out).2.2);(case aB=>exact uB);(case aF=>exact(fun k_ hk=>Kd.fresh' (Kd.R_lt (uR HO3.out)) k_ hk));(case aO=>exact(X (fR HO_2.out) (fun _ hk=>hk.2)));(case aS=>exact(below_size uB));(case aL=>have:=LMc1.out;omega);intro v4 w6 ho hb hg hat;rw[←Ny3.out]at ho;have HO4:=C (ho);replace HO_1:=C (Kd.R_over' (uR HO_1.out) (Kd.R_typed (uR HO_2.out)) (by decide) hg);replace BK1:=gK BK1 hg (Kd.R_ne HO_2.out BK1.out (by decide));replace HO3:=C (Kd.R_after (ok:=(fun _=>True)) (uR HO3.out) hg hat);replace HB:=C (hb);clear HO_2;clear ho hb hg hat))
     go_loopg [11] k2 (fun kq v11 w'=>∃(x5_3:Int) (x6_3:Int) (x7_3:Int) (x8_3:Int) (x9_3:Int),v11=V I x5_3∧D (spec_ParseAct.l1 kq x2_2 y3 x5_3=some (r1,r2,r3,r4,r5))∧D (kq≤k2)∧D (Kd.R (Kd.int .i64) 3 w' w.heap.size (fun _=>True) v4 y3)∧D (w'.heap[gb1]? =some (.cells #[V I x6_3,V I x7_3,V I x8_3,V I x9_3] 55 (0,0)))∧D (Below w.heap.size w w'))
     case atStart=>exact⟨(1),(0),(0),(0),(0),rS,H',⟨Nat.le_refl _⟩,⟨X (fR HO4.out) (fun _ hk=>trivial)⟩,⟨bK BK1.out⟩,⟨uB⟩⟩
     case round=>
      clear H'
      obtain⟨x5_3,x6_3,x7_3,x8_3,x9_3,rfl,HA,HK2,HO_2,BK1,HB⟩:=hrel
      cases gk with
      |zero=>exact absurd HA.out (by simp[spec_ParseAct.l1])
      |succ k3=>
       have H:=HA.out
       clear HA
       simp only[spec_ParseAct.l1]at H
       by_cases c5:x5_3≤5
       rotate_left
       ·rw[if_neg c5]at H
        replace c5:=decide_eq_false c5
        simp only[Option.some.injEq,Prod.mk.injEq]at H
        obtain⟨rfl,rfl,rfl,rfl,rfl⟩:=H
        obtain⟨_,_,_,_,_,_,_,_⟩:=d4 BK1.out
        exact spec_ParseAct.W1
       rw[if_pos c5]at H
       replace c5:=decide_eq_true c5
       obtain⟨c6,H⟩:=np H
       have c6b0:decide (0<(y3.length:Int))=true:=decide_eq_true c6
       have c6b1:decide (0<y3.length)=true:=decide_eq_true (by omega)
       clear c6
       obtain⟨c7,H⟩:=np H
       have c7b0:decide (1<(y3.length:Int))=true:=decide_eq_true c7
       have c7b1:decide (1<y3.length)=true:=decide_eq_true (by omega)
       clear c7
       obtain⟨c8,H⟩:=np H
       have c8b0:decide (2<(y3.length:Int))=true:=decide_eq_true c8
       have c8b1:decide (2<y3.length)=true:=decide_eq_true (by omega)
       clear c8
       obtain⟨⟨t3,t4⟩,A2,H⟩:=bnd H
       dsimp only at H
       by_cases c9:t4=true
       rotate_left
       ·obtain rfl:=nt c9
        replace H:=nf H
        have H':=C H
        clear H
        try go_wp2
        replace HO_2:=dR HO_2
        replace BK1:=dK BK1
        replace HB:=dB HB
        obtain⟨Ao3,co3,eo3⟩:=U HO_2.out
        (first|subst eo3|(injection eo3 with f1_ f2_ f3_;have f4_:=f1_.symm;have f5_:=f3_.symm;clear f1_ f2_ f3_;subst f4_;subst f5_))
        have p2:0≤(0:Int):=(by omega)
        have q2:0<(y3.length:Int):=oT
        obtain⟨ad2,e2,hx2_0⟩:=Kd.at_int (Kd.R_reads' HO_2.out).2.2 0 p2 q2
        cases e2
        have qi2:(0<y3.length)=True:=eq_true (by omega)
        (try rw[show((0:Int)).toNat=0 from rfl]at hx2_0)
        (try rw[Addr.add_zero']at hx2_0)
        replace p2:=eq_true p2
        replace q2:=eq_true q2
        have p3:0≤(1:Int):=(by omega)
        have q3:1<(y3.length:Int):=oT
        obtain⟨ad3,e3,hx3_0⟩:=Kd.at_int (Kd.R_reads' HO_2.out).2.2 1 p3 q3
        obtain rfl:ad2=ad3:=(by injection e3)
        (try simp only[show(1:Int).toNat=1 from rfl,Nat.reduceMul,Nat.reduceEqDiff,Go.Addr.add,↓reduceIte]at hx3_0)
        have qi3:(1<y3.length)=True:=eq_true (by omega)
        (try rw[show((1:Int)).toNat=1 from rfl]at hx3_0)
        replace p3:=eq_true p3
        replace q3:=eq_true q3
        have p4:0≤(2:Int):=(by omega)
        have q4:2<(y3.length:Int):=oT
        obtain⟨ad4,e4,hx4_0⟩:=Kd.at_int (Kd.R_reads' HO_2.out).2.2 2 p4 q4
        obtain rfl:ad2=ad4:=(by injection e4)
        (try simp only[show(2:Int).toNat=2 from rfl,Nat.reduceMul,Nat.reduceEqDiff,Go.Addr.add,↓reduceIte]at hx4_0)
        have qi4:(2<y3.length)=True:=eq_true (by omega)
        (try rw[show((2:Int)).toNat=2 from rfl]at hx4_0)
        replace p4:=eq_true p4
        replace q4:=eq_true q4
        refine start_ (n:=13) (S:=fun w'=>w'.cell? ad2=some (V I (rd y3 0))∧w'.cell? ⟨ad2.block,ad2.off+1,none⟩=some (V I (rd y3 1))∧w'.cell? ⟨ad2.block,ad2.off+2,none⟩=some (V I (rd y3 2))) (ds:= []) #[false,false,false,false,false,false,false,false,false,false,false,false,false] (by kernel_rfl) rfl rfl ⟨hx2_0,hx3_0,hx4_0⟩ (fun hHeld=> ?_);refine with_tabW spec_ParseAct.tab16 spec_ParseAct.bits16 (fun HT_ HW_=> ?_)
        generalize wr.drew=w7 at HO_2 BK1 HB hx2_0 hx3_0 hx4_0 hHeld ⊢
        refine pu 0 (some 65) ?_
        refine pu 1 (some 66) ?_
        refine pu 2 (some 67) ?_
        refine pu 4 (some 69) ?_
        refine pu 5 (some 70) ?_
        refine pu 7 (some 72) ?_
        refine pu 8 (some 73) ?_
        refine tu 3 (some 68) hHeld ?_
        refine tu 6 (some 71) hHeld ?_
        refine tu 9 (some 74) hHeld ?_
        refine pu 10 (some 75) ?_
        refine ou 11 (some 12) (fun K hK=> ?_)
        refine box_step ?hg (N:=12) ?hd (cs:= #[V I 0,V I 0,V I 0,V I 0]) (t:=55) ?hr ?_;(case hd=>rfl);(case hg=>rfl);(case hr=>exact Fix.hr)
        intro gb2 hg w8 hbox hb
        have HS1_:=(hb.cell (World.block_lt_of_cell? _ _ (hHeld.1))).trans (hHeld.1)
        have HS2_:=(hb.cell (World.block_lt_of_cell? _ _ (hHeld.2.1))).trans (hHeld.2.1)
        have HS3_:=(hb.cell (World.block_lt_of_cell? _ _ (hHeld.2.2))).trans (hHeld.2.2)
        have BK2:=C hbox
        have GW2:=gE (w:=w) hg
        have GE2:=gE (w:=w) hg
        have n0:=nL hg BK1
        have n1:=nG hg BK1
        replace HO_2:=eR HO_2 hb
        replace BK1:=eK BK1 hb
        replace HB:=eB hb
        clear hb hbox hg
        refine hK.out _ _ ⟨HS1_,HS2_,HS3_⟩ (fun hHeld=> ?_)
        clear hK K
        refine nu (N:=(some 12)) ?_
        refine ou 12 (none) (fun K hK=> ?_)
        obtain⟨hs1,hs2,hs3,hs4,hfs1,hfs2,hfs3,hfs4⟩:=d4 BK2.out
        have hns1_0:=n0.out
        have hms1_0:=n1.out
        refine skip_ (w1:= ?_) (by rfl) rfl ?_ ?_
        rotate_left
        ·go_simp
         rfl
        have hbn_:=Kd.own_blk (Kd.R_ne HO_2.out BK2.out (by decide))
        refine hK.out _ _ ⟨(by repeat(first|with_reducible exact hHeld.1|refine(cell_far (p:=⟨gb2,_,none⟩) (by exact hbn_) _).trans ?_)),(by repeat(first|with_reducible exact hHeld.2.1|refine(cell_far (p:=⟨gb2,_,none⟩) (by exact hbn_) _).trans ?_)),(by repeat(first|with_reducible exact hHeld.2.2|refine(cell_far (p:=⟨gb2,_,none⟩) (by exact hbn_) _).trans ?_))⟩ (fun hHeld=> ?_)
        clear hK K
        refine done_ (done_of HT_.out (by kernel_rfl)) ?_
        have:=n1.out
        have:=n0.out
        obtain⟨_,_,_,_,_,_,_,_⟩:=d4 BK2.out
        try go_wp2_with (first|((with_reducible refine gate_callee (f:=62) rfl ?_);refine gl 62 (some 78) func62 #[G #[V I x5_3,V I (rd y3 0),V I (rd y3 1),V I (rd y3 2)]] ?_;(with_reducible refine(spec_FormatAct.calls k3 x5_3 (rd y3 0) (rd y3 1) (rd y3 2) t3 false _ A2.out).mono ?_);rintro e w9 ⟨rfl,hb⟩;refine⟨_,rfl,?_⟩;replace HO_2:=C (Kd.R_below (X (fR (Y HO_2.out BK2.out (by decide))) (fun _ h_=>h_.1)) hb);replace BK1:=eK BK1 hb;replace BK2:=C (blk_below (g:=gb2) (o:=.cells #[V I x5_3,V I (rd y3 0),V I (rd y3 1),V I (rd y3 2)] 55 (0,0)) (bK BK2.out) hb);replace HB:=eB hb;clear hb))
        go_roundg k3
        case measure=>have:=HJ1.out;have:=HK1.out;have:=HK2.out;omega
        case rel=>exact⟨(wrap64 (x5_3+1)),(x6_3),(x7_3),(x8_3),(x9_3),rS,H',⟨by have:=HJ1.out;have:=HK1.out;have:=HK2.out;omega⟩,⟨fR HO_2.out⟩,⟨bK BK1.out⟩,⟨uB⟩⟩
       subst c9
       rw[if_pos rfl]at H
       by_cases c10:t3.toList=x2_2.toList
       rotate_left
       ·rw[if_neg c10]at H
        have c10b0:(t3.toList==x2_2.toList)=false:=beq_eq_false_iff_ne.mpr c10
        have c10b1:(t3.toList !=x2_2.toList)=true:=bne_iff_ne.mpr c10
        have H':=C H
        clear H
        try go_wp2
        replace HO_2:=dR HO_2
        replace BK1:=dK BK1
        replace HB:=dB HB
        obtain⟨Ao3,co3,eo3⟩:=U HO_2.out
        (first|subst eo3|(injection eo3 with f1_ f2_ f3_;have f4_:=f1_.symm;have f5_:=f3_.symm;clear f1_ f2_ f3_;subst f4_;subst f5_))
        have p2:0≤(0:Int):=(by omega)
        have q2:0<(y3.length:Int):=oT
        obtain⟨ad2,e2,hx2_0⟩:=Kd.at_int (Kd.R_reads' HO_2.out).2.2 0 p2 q2
        cases e2
        have qi2:(0<y3.length)=True:=eq_true (by omega)
        (try rw[show((0:Int)).toNat=0 from rfl]at hx2_0)
        (try rw[Addr.add_zero']at hx2_0)
        replace p2:=eq_true p2
        replace q2:=eq_true q2
        have p3:0≤(1:Int):=(by omega)
        have q3:1<(y3.length:Int):=oT
        obtain⟨ad3,e3,hx3_0⟩:=Kd.at_int (Kd.R_reads' HO_2.out).2.2 1 p3 q3
        obtain rfl:ad2=ad3:=(by injection e3)
        (try simp only[show(1:Int).toNat=1 from rfl,Nat.reduceMul,Nat.reduceEqDiff,Go.Addr.add,↓reduceIte]at hx3_0)
        have qi3:(1<y3.length)=True:=eq_true (by omega)
        (try rw[show((1:Int)).toNat=1 from rfl]at hx3_0)
        replace p3:=eq_true p3
        replace q3:=eq_true q3
        have p4:0≤(2:Int):=(by omega)
        have q4:2<(y3.length:Int):=oT
        obtain⟨ad4,e4,hx4_0⟩:=Kd.at_int (Kd.R_reads' HO_2.out).2.2 2 p4 q4
        obtain rfl:ad2=ad4:=(by injection e4)
        (try simp only[show(2:Int).toNat=2 from rfl,Nat.reduceMul,Nat.reduceEqDiff,Go.Addr.add,↓reduceIte]at hx4_0)
        have qi4:(2<y3.length)=True:=eq_true (by omega)
        (try rw[show((2:Int)).toNat=2 from rfl]at hx4_0)
        replace p4:=eq_true p4
        replace q4:=eq_true q4
        refine start_ (n:=13) (S:=fun w'=>w'.cell? ad2=some (V I (rd y3 0))∧w'.cell? ⟨ad2.block,ad2.off+1,none⟩=some (V I (rd y3 1))∧w'.cell? ⟨ad2.block,ad2.off+2,none⟩=some (V I (rd y3 2))) (ds:= []) #[false,false,false,false,false,false,false,false,false,false,false,false,false] (by kernel_rfl) rfl rfl ⟨hx2_0,hx3_0,hx4_0⟩ (fun hHeld=> ?_);refine with_tabW spec_ParseAct.tab16 spec_ParseAct.bits16 (fun HT_ HW_=> ?_)
        generalize wr.drew=w7 at HO_2 BK1 HB hx2_0 hx3_0 hx4_0 hHeld ⊢
        refine pu 0 (some 65) ?_
        refine pu 1 (some 66) ?_
        refine pu 2 (some 67) ?_
        refine pu 4 (some 69) ?_
        refine pu 5 (some 70) ?_
        refine pu 7 (some 72) ?_
        refine pu 8 (some 73) ?_
        refine tu 3 (some 68) hHeld ?_
        refine tu 6 (some 71) hHeld ?_
        refine tu 9 (some 74) hHeld ?_
        refine pu 10 (some 75) ?_
        refine ou 11 (some 12) (fun K hK=> ?_)
        refine box_step ?hg (N:=12) ?hd (cs:= #[V I 0,V I 0,V I 0,V I 0]) (t:=55) ?hr ?_;(case hd=>rfl);(case hg=>rfl);(case hr=>exact Fix.hr)
        intro gb2 hg w8 hbox hb
        have HS1_:=(hb.cell (World.block_lt_of_cell? _ _ (hHeld.1))).trans (hHeld.1)
        have HS2_:=(hb.cell (World.block_lt_of_cell? _ _ (hHeld.2.1))).trans (hHeld.2.1)
        have HS3_:=(hb.cell (World.block_lt_of_cell? _ _ (hHeld.2.2))).trans (hHeld.2.2)
        have BK2:=C hbox
        have GW2:=gE (w:=w) hg
        have GE2:=gE (w:=w) hg
        have n0:=nL hg BK1
        have n1:=nG hg BK1
        replace HO_2:=eR HO_2 hb
        replace BK1:=eK BK1 hb
        replace HB:=eB hb
        clear hb hbox hg
        refine hK.out _ _ ⟨HS1_,HS2_,HS3_⟩ (fun hHeld=> ?_)
        clear hK K
        refine nu (N:=(some 12)) ?_
        refine ou 12 (none) (fun K hK=> ?_)
        obtain⟨hs1,hs2,hs3,hs4,hfs1,hfs2,hfs3,hfs4⟩:=d4 BK2.out
        have hns1_0:=n0.out
        have hms1_0:=n1.out
        refine skip_ (w1:= ?_) (by rfl) rfl ?_ ?_
        rotate_left
        ·go_simp
         rfl
        have hbn_:=Kd.own_blk (Kd.R_ne HO_2.out BK2.out (by decide))
        refine hK.out _ _ ⟨(by repeat(first|with_reducible exact hHeld.1|refine(cell_far (p:=⟨gb2,_,none⟩) (by exact hbn_) _).trans ?_)),(by repeat(first|with_reducible exact hHeld.2.1|refine(cell_far (p:=⟨gb2,_,none⟩) (by exact hbn_) _).trans ?_)),(by repeat(first|with_reducible exact hHeld.2.2|refine(cell_far (p:=⟨gb2,_,none⟩) (by exact hbn_) _).trans ?_))⟩ (fun hHeld=> ?_)
        clear hK K
        refine done_ (done_of HT_.out (by kernel_rfl)) ?_
        have:=n1.out
        have:=n0.out
        obtain⟨_,_,_,_,_,_,_,_⟩:=d4 BK2.out
        try go_wp2_with (first|((with_reducible refine gate_callee (f:=62) rfl ?_);refine gl 62 (some 78) func62 #[G #[V I x5_3,V I (rd y3 0),V I (rd y3 1),V I (rd y3 2)]] ?_;(with_reducible refine(spec_FormatAct.calls k3 x5_3 (rd y3 0) (rd y3 1) (rd y3 2) t3 true _ A2.out).mono ?_);rintro e w9 ⟨rfl,hb⟩;refine⟨_,rfl,?_⟩;replace HO_2:=C (Kd.R_below (X (fR (Y HO_2.out BK2.out (by decide))) (fun _ h_=>h_.1)) hb);replace BK1:=eK BK1 hb;replace BK2:=C (blk_below (g:=gb2) (o:=.cells #[V I x5_3,V I (rd y3 0),V I (rd y3 1),V I (rd y3 2)] 55 (0,0)) (bK BK2.out) hb);replace HB:=eB hb;clear hb))
        go_roundg k3
        case measure=>have:=HJ1.out;have:=HK1.out;have:=HK2.out;omega
        case rel=>exact⟨(wrap64 (x5_3+1)),(x6_3),(x7_3),(x8_3),(x9_3),rS,H',⟨by have:=HJ1.out;have:=HK1.out;have:=HK2.out;omega⟩,⟨fR HO_2.out⟩,⟨bK BK1.out⟩,⟨uB⟩⟩
       rw[if_pos c10]at H
       have c10b0:(t3.toList==x2_2.toList)=true:=beq_iff_eq.mpr c10
       have c10b1:(t3.toList !=x2_2.toList)=false:=bne_eq_false_iff_eq.mpr c10
       clear c10
       simp only[Option.some.injEq,Prod.mk.injEq]at H
       obtain⟨rfl,rfl,rfl,rfl,rfl⟩:=H
       try go_wp2
       replace HO_2:=dR HO_2
       replace BK1:=dK BK1
       replace HB:=dB HB
       obtain⟨Ao3,co3,eo3⟩:=U HO_2.out
       (first|subst eo3|(injection eo3 with f1_ f2_ f3_;have f4_:=f1_.symm;have f5_:=f3_.symm;clear f1_ f2_ f3_;subst f4_;subst f5_))
       have p2:0≤(0:Int):=(by omega)
       have q2:0<(y3.length:Int):=oT
       obtain⟨ad2,e2,hx2_0⟩:=Kd.at_int (Kd.R_reads' HO_2.out).2.2 0 p2 q2
       cases e2
       have qi2:(0<y3.length)=True:=eq_true (by omega)
       (try rw[show((0:Int)).toNat=0 from rfl]at hx2_0)
       (try rw[Addr.add_zero']at hx2_0)
       replace p2:=eq_true p2
       replace q2:=eq_true q2
       have p3:0≤(1:Int):=(by omega)
       have q3:1<(y3.length:Int):=oT
       obtain⟨ad3,e3,hx3_0⟩:=Kd.at_int (Kd.R_reads' HO_2.out).2.2 1 p3 q3
       obtain rfl:ad2=ad3:=(by injection e3)
       (try simp only[show(1:Int).toNat=1 from rfl,Nat.reduceMul,Nat.reduceEqDiff,Go.Addr.add,↓reduceIte]at hx3_0)
       have qi3:(1<y3.length)=True:=eq_true (by omega)
       (try rw[show((1:Int)).toNat=1 from rfl]at hx3_0)
       replace p3:=eq_true p3
       replace q3:=eq_true q3
       have p4:0≤(2:Int):=(by omega)
       have q4:2<(y3.length:Int):=oT
       obtain⟨ad4,e4,hx4_0⟩:=Kd.at_int (Kd.R_reads' HO_2.out).2.2 2 p4 q4
       obtain rfl:ad2=ad4:=(by injection e4)
       (try simp only[show(2:Int).toNat=2 from rfl,Nat.reduceMul,Nat.reduceEqDiff,Go.Addr.add,↓reduceIte]at hx4_0)
       have qi4:(2<y3.length)=True:=eq_true (by omega)
       (try rw[show((2:Int)).toNat=2 from rfl]at hx4_0)
       replace p4:=eq_true p4
       replace q4:=eq_true q4
       refine start_ (n:=13) (S:=fun w'=>w'.cell? ad2=some (V I (rd y3 0))∧w'.cell? ⟨ad2.block,ad2.off+1,none⟩=some (V I (rd y3 1))∧w'.cell? ⟨ad2.block,ad2.off+2,none⟩=some (V I (rd y3 2))) (ds:= []) #[false,false,false,false,false,false,false,false,false,false,false,false,false] (by kernel_rfl) rfl rfl ⟨hx2_0,hx3_0,hx4_0⟩ (fun hHeld=> ?_);refine with_tabW spec_ParseAct.tab16 spec_ParseAct.bits16 (fun HT_ HW_=> ?_)
       generalize wr.drew=w7 at HO_2 BK1 HB hx2_0 hx3_0 hx4_0 hHeld ⊢
       refine pu 0 (some 65) ?_
       refine pu 1 (some 66) ?_
       refine pu 2 (some 67) ?_
       refine pu 4 (some 69) ?_
       refine pu 5 (some 70) ?_
       refine pu 7 (some 72) ?_
       refine pu 8 (some 73) ?_
       refine tu 3 (some 68) hHeld ?_
       refine tu 6 (some 71) hHeld ?_
       refine tu 9 (some 74) hHeld ?_
       refine pu 10 (some 75) ?_
       refine ou 11 (some 12) (fun K hK=> ?_)
       refine box_step ?hg (N:=12) ?hd (cs:= #[V I 0,V I 0,V I 0,V I 0]) (t:=55) ?hr ?_;(case hd=>rfl);(case hg=>rfl);(case hr=>exact Fix.hr)
       intro gb2 hg w8 hbox hb
       have HS1_:=(hb.cell (World.block_lt_of_cell? _ _ (hHeld.1))).trans (hHeld.1)
       have HS2_:=(hb.cell (World.block_lt_of_cell? _ _ (hHeld.2.1))).trans (hHeld.2.1)
       have HS3_:=(hb.cell (World.block_lt_of_cell? _ _ (hHeld.2.2))).trans (hHeld.2.2)
       have BK2:=C hbox
       have GW2:=gE (w:=w) hg
       have GE2:=gE (w:=w) hg
       have n0:=nL hg BK1
       have n1:=nG hg BK1
       replace HO_2:=eR HO_2 hb
       replace BK1:=eK BK1 hb
       replace HB:=eB hb
       clear hb hbox hg
       refine hK.out _ _ ⟨HS1_,HS2_,HS3_⟩ (fun hHeld=> ?_)
       clear hK K
       refine nu (N:=(some 12)) ?_
       refine ou 12 (none) (fun K hK=> ?_)
       obtain⟨hs1,hs2,hs3,hs4,hfs1,hfs2,hfs3,hfs4⟩:=d4 BK2.out
       have hns1_0:=n0.out
       have hms1_0:=n1.out
       refine skip_ (w1:= ?_) (by rfl) rfl ?_ ?_
       rotate_left
       ·go_simp
        rfl
       have hbn_:=Kd.own_blk (Kd.R_ne HO_2.out BK2.out (by decide))
       refine hK.out _ _ ⟨(by repeat(first|with_reducible exact hHeld.1|refine(cell_far (p:=⟨gb2,_,none⟩) (by exact hbn_) _).trans ?_)),(by repeat(first|with_reducible exact hHeld.2.1|refine(cell_far (p:=⟨gb2,_,none⟩) (by exact hbn_) _).trans ?_)),(by repeat(first|with_reducible exact hHeld.2.2|refine(cell_far (p:=⟨gb2,_,none⟩) (by exact hbn_) _).trans ?_))⟩ (fun hHeld=> ?_)
       clear hK K
       refine done_ (done_of HT_.out (by kernel_rfl)) ?_
       have:=n1.out
       have:=n0.out
       obtain⟨_,_,_,_,_,_,_,_⟩:=d4 BK2.out
       try go_wp2_with (first|((with_reducible refine gate_callee (f:=62) rfl ?_);refine gl 62 (some 78) func62 #[G #[V I x5_3,V I (rd y3 0),V I (rd y3 1),V I (rd y3 2)]] ?_;(with_reducible refine(spec_FormatAct.calls k3 x5_3 (rd y3 0) (rd y3 1) (rd y3 2) t3 true _ A2.out).mono ?_);rintro e w9 ⟨rfl,hb⟩;refine⟨_,rfl,?_⟩;replace HO_2:=C (Kd.R_below (X (fR (Y HO_2.out BK2.out (by decide))) (fun _ h_=>h_.1)) hb);replace BK1:=eK BK1 hb;replace BK2:=C (blk_below (g:=gb2) (o:=.cells #[V I x5_3,V I (rd y3 0),V I (rd y3 1),V I (rd y3 2)] 55 (0,0)) (bK BK2.out) hb);replace HB:=eB hb;clear hb;obtain⟨_,_,_,_,_,_,_,_⟩:=d4 BK2.out;obtain⟨_,_,_,_,_,_,_,_⟩:=d4 BK1.out))
       refine bodyPost_ret (results_ct rfl _ _ gb1 55 #[V I x5_3,V I (rd y3 0),V I (rd y3 1),V I (rd y3 2)] (0,0) _ rfl (bK BK1.out) underlying55 rfl (by kernel_rfl)) rfl ?_
       exact⟨rE,uB⟩
def spec_l29Copy.f (l0:List (S26)):Option ((List (S26))):=(some (([]:List (S26)):List (S26))).bind fun y616=>(if y616.length+l0.length<2932031007402 then(some (y616++l0)) else(none))
theorem spec_l29Copy.calls (A0:Option Addr) (c0:Nat) (l0:List (S26)) (r:List (S26)) (w:World) (hr0:Kd.C k26 w A0 l0.length l0) (hc0:l0.length≤c0) (h:spec_l29Copy.f l0=some r):
 Calls prog 81 #[L A0 l0.length c0] w fun e w'=>∃v0_:Value,e=.returned (v0_)∧Kd.R k26 26 w' w.heap.size (fun _=>True) v0_ r∧Below w.heap.size w w':=by
 have HR1:=C hr0
 have HC1:=C hc0
 (try clear hr0);(try clear hc0)
 have HB:=C (Below.refl w.heap.size w)
 have H:=h
 unfold spec_l29Copy.f at H
 clear h
 obtain⟨y1,hy1⟩:∃y_:List (S26),y_=(([]:List (S26))):=⟨_,rfl⟩
 replace H:(if y1.length+l0.length<2932031007402 then(some (y1++l0)) else(none))=some r:=gy hy1 H
 have Ny1:=C hy1
 clear hy1
 obtain⟨c1,H⟩:=np H
 have LMc1:=C c1
 clear c1
 obtain⟨y2,hy2⟩:∃y_:List (S26),y_=(y1++l0):=⟨_,rfl⟩
 replace H:(some y2)=some r:=gy hy2 H
 have Ny2:=C hy2
 clear hy2
 obtain rfl:=si H
 go_enter func81,ntmps81
 go_wp2_with (first|((with_reducible refine J (N:=3) rfl ?_);refine Kd.R_lit k26 _ 26 ?hg (N:=3) ?hd (xs:=([]:List (S26))) (inner:= []) (ok:=fun _=>True) (okp:=fun _=>True) ?hr ?hp (fun _ hk=>hk) trivial (Below.refl _ _) (Nat.le_refl _) (by simp) ?_;(case hd=>rfl);(case hg=>rfl);(case hr=>exact Fix.hr);(case hp=>exact(Reps.none _ _));intro v1 w1 ho1 hb hg_ hnew_;clear hg_ hnew_;(first|rw[←Ny1.out]at ho1|(simp only[Int.reduceToNat]at ho1;rw[←Ny1.out]at ho1));have HO1:=lR ho1;replace HB:=eB hb;clear hb ho1)|((with_reducible refine gate_builtin (b:=.append) (xs:= #[.tmp 3,.tmp 4]) rfl ?_);at_builtin;refine Kd.R_append_rows k26 (w0:=w) w.heap.size rfl (.tmp 3) (.tmp 4) 24 26 (G #[(V I 0),(V I 0),(V I 0),(O false),(V I 0),(O false)]) 48 rfl underlying24 info26 rfl (by decide) (by omega) v1 y1 l0 _ _ _ (fun _=>True) (fun _=>False) rfl rfl ?aO ?aR (fun _ _ h=>h) (fun _ h=>h.elim) ?aF ?aB ?aS ?aL ?_;(case aR=>exact uZ HR1);(case aB=>exact uB);(case aF=>exact(fun _ _=>trivial));(case aO=>exact(uR HO1.out));(case aS=>exact(below_size uB));(case aL=>have:=LMc1.out;omega);intro v2 w2 ho hb hg hat;rw[←Ny2.out]at ho;have HO2:=C (ho);replace HB:=C (hb);clear HO1;clear ho hb hg hat))
 go_ret
 exact⟨_,rE,fR HO2.out,uB⟩
def spec_l05Copy.f (l0:List Int):Option (List Int):=(some (([]:List Int):List Int)).bind fun y622=>(if y622.length+l0.length<17592186044416 then(some (y622++l0)) else(none))
theorem spec_l05Copy.calls (A0:Option Addr) (c0:Nat) (l0:List Int) (r:List Int) (w:World) (hr0:Kd.C (Kd.int .i64) w A0 l0.length l0) (hc0:l0.length≤c0) (h:spec_l05Copy.f l0=some r):
 Calls prog 107 #[L A0 l0.length c0] w fun e w'=>∃v0_:Value,e=.returned (v0_)∧Kd.R (Kd.int .i64) 3 w' w.heap.size (fun _=>True) v0_ r∧Below w.heap.size w w':=by
 have HR1:=C hr0
 have HC1:=C hc0
 (try clear hr0);(try clear hc0)
 have HB:=C (Below.refl w.heap.size w)
 have H:=h
 unfold spec_l05Copy.f at H
 clear h
 obtain⟨y1,hy1⟩:∃y_:List Int,y_=(([]:List Int)):=⟨_,rfl⟩
 replace H:(if y1.length+l0.length<17592186044416 then(some (y1++l0)) else(none))=some r:=gy hy1 H
 have Ny1:=C hy1
 clear hy1
 obtain⟨c1,H⟩:=np H
 have LMc1:=C c1
 clear c1
 obtain⟨y2,hy2⟩:∃y_:List Int,y_=(y1++l0):=⟨_,rfl⟩
 replace H:(some y2)=some r:=gy hy2 H
 have Ny2:=C hy2
 clear hy2
 obtain rfl:=si H
 go_enter func107,ntmps107
 go_wp2_with (first|((with_reducible refine J (N:=3) rfl ?_);refine Kd.R_lit (Kd.int .i64) _ 3 ?hg (N:=3) ?hd (xs:=([]:List Int)) (inner:= []) (ok:=fun _=>True) (okp:=fun _=>True) ?hr ?hp (fun _ hk=>hk) trivial (Below.refl _ _) (Nat.le_refl _) (by simp) ?_;(case hd=>rfl);(case hg=>rfl);(case hr=>exact Fix.hr);(case hp=>exact(Reps.none _ _));intro v1 w1 ho1 hb hg_ hnew_;clear hg_ hnew_;(first|rw[←Ny1.out]at ho1|(simp only[Int.reduceToNat]at ho1;rw[←Ny1.out]at ho1));have HO1:=lR ho1;replace HB:=eB hb;clear hb ho1)|((with_reducible refine gate_builtin (b:=.append) (xs:= #[.tmp 3,.tmp 4]) rfl ?_);at_builtin;refine Kd.R_append_rows (Kd.int .i64) (w0:=w) w.heap.size rfl (.tmp 3) (.tmp 4) 27 3 (V I 0) 8 rfl underlying27 info3 rfl (by decide) (by omega) v1 y1 l0 _ _ _ (fun _=>True) (fun _=>False) rfl rfl ?aO ?aR (fun _ _ h=>h) (fun _ h=>h.elim) ?aF ?aB ?aS ?aL ?_;(case aR=>exact uZ HR1);(case aB=>exact uB);(case aF=>exact(fun _ _=>trivial));(case aO=>exact(uR HO1.out));(case aS=>exact(below_size uB));(case aL=>have:=LMc1.out;omega);intro v2 w2 ho hb hg hat;rw[←Ny2.out]at ho;have HO2:=C (ho);replace HB:=C (hb);clear HO1;clear ho hb hg hat))
 go_ret
 exact⟨_,rE,fR HO2.out,uB⟩
def spec_l37Copy.f (a0_0:Int) (a0_1:Int) (l0_2:List Int) (l0_3:List Int) (a0_4:Int) (a0_5:Bool):Option (Int×Int×List Int×List Int×Int×Bool):=(spec_l05Copy.f l0_2).bind fun t631=>((spec_l05Copy.f l0_3).bind fun t634=>(some (a0_0,a0_1,t631,t634,a0_4,a0_5)))
theorem spec_l37Copy.calls (a0_0:Int) (a0_1:Int) (A0_2:Option Addr) (c0_2:Nat) (l0_2:List Int) (A0_3:Option Addr) (c0_3:Nat) (l0_3:List Int) (a0_4:Int) (a0_5:Bool) (r1:Int) (r2:Int) (r3:List Int) (r4:List Int) (r5:Int) (r6:Bool) (w:World) (hr0_2:Kd.C (Kd.int .i64) w A0_2 l0_2.length l0_2) (hc0_2:l0_2.length≤c0_2) (hr0_3:Kd.C (Kd.int .i64) w A0_3 l0_3.length l0_3) (hc0_3:l0_3.length≤c0_3) (h:spec_l37Copy.f a0_0 a0_1 l0_2 l0_3 a0_4 a0_5=some (r1,r2,r3,r4,r5,r6)):
 Calls prog 82 #[G #[V I a0_0,V I a0_1,L A0_2 l0_2.length c0_2,L A0_3 l0_3.length c0_3,V I a0_4,O a0_5]] w fun e w'=>∃v2_ v3_:Value,e=.returned (G #[V I r1,V I r2,v2_,v3_,V I r5,O r6])∧Kd.R (Kd.int .i64) 3 w' w.heap.size (fun k_=>qm k_ v3_) v2_ r3∧Kd.R (Kd.int .i64) 3 w' w.heap.size (fun k_=>qm k_ v2_) v3_ r4∧Below w.heap.size w w':=by
 have hu1:=underlying29
 have HR1_2:=C hr0_2
 have HC1_2:=C hc0_2
 (try clear hr0_2);(try clear hc0_2)
 have HR1_3:=C hr0_3
 have HC1_3:=C hc0_3
 (try clear hr0_3);(try clear hc0_3)
 have HB:=C (Below.refl w.heap.size w)
 have H:=h
 unfold spec_l37Copy.f at H
 clear h
 obtain⟨t1,A1,H⟩:=bnd H
 obtain⟨t2,A2,H⟩:=bnd H
 simp only[Option.some.injEq,Prod.mk.injEq]at H
 obtain⟨rfl,rfl,rfl,rfl,rfl,rfl⟩:=H
 go_enter func82,ntmps82
 go_wp2_with (first|((with_reducible refine J (N:=1) rfl ?_);refine Fix.be 1 #[V I a0_0,V I a0_1,L A0_2 l0_2.length c0_2,L A0_3 l0_3.length c0_3,V I a0_4,O a0_5] 29 ?_;intro gb1 hg w1 BK1 hb;have GW1:=gE (w:=w) hg;replace HB:=eB hb;clear hb hg)|((with_reducible refine J (N:=2) rfl ?_);refine Fix.be 2 #[V I 0,V I 0,L none 0 0,L none 0 0,V I 0,O false] 29 ?_;intro gb2 hg w2 BK2 hb;have GW2:=gE (w:=w) hg;have n0:=nL hg BK1;have n1:=nG hg BK1;replace BK1:=eK BK1 hb;replace HB:=eB hb;clear hb hg;have:=n0.out;have:=n1.out;obtain⟨_,_,_,_,_,_,_,_,_,_,_,_⟩:=d6 BK1.out)|((with_reducible refine J (N:=3) rfl ?_);refine Fix.be 3 #[V I 0,V I 0,L none 0 0,L none 0 0,V I 0,O false] 29 ?_;intro gb3 hg w3 BK3 hb;have GW3:=gE (w:=w) hg;have n2:=nL hg BK1;have n3:=nG hg BK1;have n4:=nL hg BK2;have n5:=nG hg BK2;replace BK1:=eK BK1 hb;replace BK2:=eK BK2 hb;replace HB:=eB hb;clear hb hg;have:=n3.out;have:=n2.out;have:=n5.out;have:=n4.out;obtain⟨_,_,_,_,_,_,_,_,_,_,_,_⟩:=d6 BK3.out;obtain⟨_,_,_,_,_,_,_,_,_,_,_,_⟩:=d6 BK1.out)|((with_reducible refine gate_callee (f:=107) rfl ?_);refine gl 107 (some 7) func107 #[L A0_2 l0_2.length c0_2] ?_;(with_reducible refine(spec_l05Copy.calls _ _ l0_2 t1 _ ?side1 HC1_2.out A1.out).mono ?_);(case side1=>exact Kd.C_below HR1_2.out uB);rintro e w4 ⟨v1,rfl,ho1,hb⟩;refine⟨_,rfl,?_⟩;have HO1:=lR ho1;replace BK1:=eK BK1 hb;replace BK2:=eK BK2 hb;replace BK3:=C (blk_below (g:=gb3) (o:=.cells #[V I a0_0,V I a0_1,L A0_2 l0_2.length c0_2,L A0_3 l0_3.length c0_3,V I a0_4,O a0_5] 29 (0,0)) (bK BK3.out) hb);replace HB:=eB hb;clear hb ho1;obtain⟨Ao1,co1,rfl⟩:=U HO1.out;obtain⟨_,_,_,_,_,_,_,_,_,_,_,_⟩:=d6 BK3.out;obtain⟨_,_,_,_,_,_,_,_,_,_,_,_⟩:=d6 BK1.out)|((with_reducible refine gate_callee (f:=107) rfl ?_);refine gl 107 (some 11) func107 #[L A0_3 l0_3.length c0_3] ?_;(with_reducible refine(spec_l05Copy.calls _ _ l0_3 t2 _ ?side1 HC1_3.out A2.out).mono ?_);(case side1=>exact Kd.C_below HR1_3.out uB);rintro e w5 ⟨v2,rfl,ho1,hb⟩;refine⟨_,rfl,?_⟩;have HO2:=C (Kd.R_lower (Kd.R_new' ho1 (Kd.R_lt (X (fR (Y HO1.out BK3.out (by decide))) (fun _ h_=>h_.1)))) (below_size uB));replace HO1:=C (Kd.R_elder' (X (fR (Y HO1.out BK3.out (by decide))) (fun _ h_=>h_.1)) (Kd.R_base ho1) hb);replace BK1:=eK BK1 hb;replace BK2:=eK BK2 hb;replace BK3:=C (blk_below (g:=gb3) (o:=.cells #[V I a0_0,V I a0_1,L Ao1 t1.length co1,L A0_3 l0_3.length c0_3,V I a0_4,O a0_5] 29 (0,0)) (bK BK3.out) hb);replace HB:=eB hb;clear hb ho1;obtain⟨Ao2,co2,rfl⟩:=U HO2.out;obtain⟨_,_,_,_,_,_,_,_,_,_,_,_⟩:=d6 BK3.out;obtain⟨_,_,_,_,_,_,_,_,_,_,_,_⟩:=d6 BK2.out))
 refine bodyPost_ret (results_cell_row rfl _ _ gb2 29 #[V I a0_0,V I a0_1,L Ao1 t1.length co1,L Ao2 t2.length co2,V I a0_4,O a0_5] (0,0) _ rfl (bK BK2.out) underlying29 rfl (by kernel_rfl)) rfl ?_
 exact⟨_,_,rE,X (fR (Y (Y HO1.out BK3.out (by decide)) BK2.out (by decide))) (fun _ hk=>hk.1.1.2),X (fR (Y (Y HO2.out BK3.out (by decide)) BK2.out (by decide))) (fun _ hk=>hk.1.1.2),uB⟩
def spec_l39Copy.f (l0_0:List (S26)) (a0_1:Int) (a0_2:Int) (a0_3:Int) (a0_4:Bool) (a0_5:Int) (a0_6:Bool) (a0_7:Int) (a0_8:Int) (l0_9:List Int) (l0_10:List Int) (a0_11:Int) (a0_12:Bool) (a0_13:Int):Option ((List (S26))×Int×Int×Int×Bool×Int×Bool×Int×Int×List Int×List Int×Int×Bool×Int):=(spec_l29Copy.f l0_0).bind fun t639=>((spec_l37Copy.f a0_7 a0_8 l0_9 l0_10 a0_11 a0_12).bind fun bt642=>(some (t639,a0_1,a0_2,a0_3,a0_4,a0_5,a0_6,bt642.1,bt642.2.1,bt642.2.2.1,bt642.2.2.2.1,bt642.2.2.2.2.1,bt642.2.2.2.2.2,a0_13)))
def spec_l39Copy.T1:Bool×List (List Nat×List Nat):=(true,[([],[]),([0],[0]),([1],[1]),([],[]),([3],[3]),([],[]),([5],[5]),([6,2],[6]),([],[]),([8],[8]),([2,4,7,9],[2,4,7,9]),([10,7,0,1,2,3,4,5,6,7,8,9,10],[10])])
def spec_l39Copy.B1:List Nat:= [0,1,3,0,8,0,32,103,0,256,1023,2047]
theorem spec_l39Copy.tab1:rtab .any (opsOf Tryz.f63 1)=spec_l39Copy.T1:=by kernel_rfl
theorem spec_l39Copy.bits1:waitsOk spec_l39Copy.T1.2 spec_l39Copy.B1=true:=by kernel_rfl
theorem spec_l39Copy.calls (A0_0:Option Addr) (c0_0:Nat) (l0_0:List (S26)) (a0_1:Int) (a0_2:Int) (a0_3:Int) (a0_4:Bool) (a0_5:Int) (a0_6:Bool) (a0_7:Int) (a0_8:Int) (A0_9:Option Addr) (c0_9:Nat) (l0_9:List Int) (A0_10:Option Addr) (c0_10:Nat) (l0_10:List Int) (a0_11:Int) (a0_12:Bool) (a0_13:Int) (r1:List (S26)) (r2:Int) (r3:Int) (r4:Int) (r5:Bool) (r6:Int) (r7:Bool) (r8:Int) (r9:Int) (r10:List Int) (r11:List Int) (r12:Int) (r13:Bool) (r14:Int) (w:World) (hr0_0:Kd.C k26 w A0_0 l0_0.length l0_0) (hc0_0:l0_0.length≤c0_0) (hr0_9:Kd.C (Kd.int .i64) w A0_9 l0_9.length l0_9) (hc0_9:l0_9.length≤c0_9) (hr0_10:Kd.C (Kd.int .i64) w A0_10 l0_10.length l0_10) (hc0_10:l0_10.length≤c0_10) (h:spec_l39Copy.f l0_0 a0_1 a0_2 a0_3 a0_4 a0_5 a0_6 a0_7 a0_8 l0_9 l0_10 a0_11 a0_12 a0_13=some (r1,r2,r3,r4,r5,r6,r7,r8,r9,r10,r11,r12,r13,r14)):
 Calls prog 63 #[G #[L A0_0 l0_0.length c0_0,V I a0_1,V I a0_2,V I a0_3,O a0_4,V I a0_5,O a0_6,V I a0_7,V I a0_8,L A0_9 l0_9.length c0_9,L A0_10 l0_10.length c0_10,V I a0_11,O a0_12,V I a0_13]] w fun e w'=>∃v0_ v9_ v10_:Value,e=.returned (G #[v0_,V I r2,V I r3,V I r4,O r5,V I r6,O r7,V I r8,V I r9,v9_,v10_,V I r12,O r13,V I r14])∧Kd.R k26 26 w' w.heap.size (fun _=>True) v0_ r1∧Kd.R (Kd.int .i64) 3 w' w.heap.size (fun k_=>qm k_ v10_) v9_ r10∧Kd.R (Kd.int .i64) 3 w' w.heap.size (fun k_=>qm k_ v9_) v10_ r11∧Below w.heap.size w w':=by
 have hu1:=underlying31
 have hu2:=underlying26
 have hu3:=underlying29
 have HR1_0:=C hr0_0
 have HC1_0:=C hc0_0
 (try clear hr0_0);(try clear hc0_0)
 have HR1_9:=C hr0_9
 have HC1_9:=C hc0_9
 (try clear hr0_9);(try clear hc0_9)
 have HR1_10:=C hr0_10
 have HC1_10:=C hc0_10
 (try clear hr0_10);(try clear hc0_10)
 have HB:=C (Below.refl w.heap.size w)
 have H:=h
 unfold spec_l39Copy.f at H
 clear h
 obtain⟨t1,A1,H⟩:=bnd H
 obtain⟨⟨t2,t3,t4,t5,t6,t7⟩,A2,H⟩:=bnd H
 dsimp only at H
 simp only[Option.some.injEq,Prod.mk.injEq]at H
 obtain⟨rfl,rfl,rfl,rfl,rfl,rfl,rfl,rfl,rfl,rfl,rfl,rfl,rfl,rfl⟩:=H
 go_enter func63,ntmps63
 try go_wp2_with (first|((with_reducible refine J (N:=1) rfl ?_);refine Fix.be 1 #[L A0_0 l0_0.length c0_0,V I a0_1,V I a0_2,V I a0_3,O a0_4,V I a0_5,O a0_6,V I a0_7,V I a0_8,L A0_9 l0_9.length c0_9,L A0_10 l0_10.length c0_10,V I a0_11,O a0_12,V I a0_13] 31 ?_;intro gb1 hg w2 BK1 hb;have GW1:=gE (w:=w) hg;replace HB:=eB hb;clear hb hg)|((with_reducible refine J (N:=2) rfl ?_);refine Fix.be 2 #[L none 0 0,V I 0,V I 0,V I 0,O false,V I 0,O false,V I 0,V I 0,L none 0 0,L none 0 0,V I 0,O false,V I 0] 31 ?_;intro gb2 hg w3 BK2 hb;have GW2:=gE (w:=w) hg;have n0:=nL hg BK1;have n1:=nG hg BK1;replace BK1:=eK BK1 hb;replace HB:=eB hb;clear hb hg))
 replace BK1:=dK BK1
 replace BK2:=dK BK2
 replace HB:=dB HB
 refine start_ (n:=12) (S:=fun w'=>cl14 w' gb1 (L A0_0 l0_0.length c0_0) (V I a0_1) (V I a0_2) (V I a0_3) (O a0_4) (V I a0_5) (O a0_6) (V I a0_7) (V I a0_8) (L A0_9 l0_9.length c0_9) (L A0_10 l0_10.length c0_10) (V I a0_11) (O a0_12) (V I a0_13)) (ds:= []) #[false,false,false,false,false,false,false,false,false,false,false,false] (by kernel_rfl) rfl rfl hh (fun hHeld=> ?_);refine with_tabW spec_l39Copy.tab1 spec_l39Copy.bits1 (fun HT_ HW_=> ?_)
 generalize w3.drew=w4 at BK1 BK2 HB hHeld ⊢
 refine pu 0 (some 3) ?_
 refine pu 3 (some 6) ?_
 refine pu 5 (some 8) ?_
 refine pu 8 (some 11) ?_
 refine tu 1 (some 4) hHeld ?_
 refine tu 4 (some 7) hHeld ?_
 refine tu 6 (some 9) hHeld ?_
 refine tu 9 (some 12) hHeld ?_
 refine ou 2 (some 5) (fun K hK=> ?_)
 refine gs func81 #[L A0_0 l0_0.length c0_0] ?_
 with_reducible refine(spec_l29Copy.calls _ _ l0_0 t1 _ ?side1 HC1_0.out A1.out).mono ?_
 (case side1=>exact uZ HR1_0)
 rintro e w5 ⟨v1,rfl,ho1,hb⟩
 refine⟨_,rfl,?_⟩
 have HO1:=lR ho1
 replace BK1:=eK BK1 hb
 replace BK2:=eK BK2 hb
 replace HB:=eB hb
 (try clear hb)
 refine hK.out _ _ hh (fun hHeld=> ?_)
 clear hK K
 refine nu (N:=(some 5)) ?_
 refine ou 7 (some 10) (fun K hK=> ?_)
 refine gs func82 #[G #[V I a0_7,V I a0_8,L A0_9 l0_9.length c0_9,L A0_10 l0_10.length c0_10,V I a0_11,O a0_12]] ?_
 with_reducible refine(spec_l37Copy.calls a0_7 a0_8 _ _ l0_9 _ _ l0_10 a0_11 a0_12 t2 t3 t4 t5 t6 t7 _ ?side1 HC1_9.out ?side3 HC1_10.out A2.out).mono ?_
 (case side1=>exact uZ HR1_9)
 (case side3=>exact uZ HR1_10)
 rintro e w6 ⟨v2,v3,rfl,ho1,ho2,hb⟩
 refine⟨_,rfl,?_⟩
 have HO2:=lR ho1
 have HO3:=lR ho2
 replace HO1:=eR HO1 hb
 replace BK1:=eK BK1 hb
 replace BK2:=eK BK2 hb
 replace HB:=eB hb
 (try clear hb)
 obtain⟨Ao1,co1,eo1⟩:=U HO3.out
 (first|subst eo1|(injection eo1 with f1_ f2_ f3_;have f4_:=f1_.symm;have f5_:=f3_.symm;clear f1_ f2_ f3_;subst f4_;subst f5_))
 obtain⟨Ao2,co2,eo2⟩:=U HO2.out
 (first|subst eo2|(injection eo2 with f1_ f2_ f3_;have f4_:=f1_.symm;have f5_:=f3_.symm;clear f1_ f2_ f3_;subst f4_;subst f5_))
 obtain⟨Ao3,co3,eo3⟩:=U HO1.out
 (first|subst eo3|(injection eo3 with f1_ f2_ f3_;have f4_:=f1_.symm;have f5_:=f3_.symm;clear f1_ f2_ f3_;subst f4_;subst f5_))
 refine hK.out _ _ hh (fun hHeld=> ?_)
 clear hK K
 refine nu (N:=(some 10)) ?_
 refine pu 10 (some 13) ?_
 refine ou 11 (none) (fun K hK=> ?_)
 obtain⟨hs1,hs2,hs3,hs4,hs5,hs6,hs7,hs8,hs9,hs10,hs11,hs12,hs13,hs14,hfs1,hfs2,hfs3,hfs4,hfs5,hfs6,hfs7,hfs8,hfs9,hfs10,hfs11,hfs12,hfs13,hfs14⟩:=d14 BK2.out
 have hns1_0:=n0.out
 have hms1_0:=n1.out
 refine skip_ (w1:= ?_) (by rfl) rfl ?_ ?_
 rotate_left
 ·go_simp
  rfl
 refine hK.out _ _ (cs14 (fun _ _=>cf14 n0.out) hHeld) (fun hHeld=> ?_)
 clear hK K
 refine done_ (done_of HT_.out (by kernel_rfl)) ?_
 try go_wp2
 refine bodyPost_ret (results_cell_row rfl _ _ gb2 31 #[L Ao3 t1.length co3,V I a0_1,V I a0_2,V I a0_3,O a0_4,V I a0_5,O a0_6,V I t2,V I t3,L Ao2 t4.length co2,L Ao1 t5.length co1,V I t6,O t7,V I a0_13] (0,0) _ rfl (bK BK2.out) underlying31 rfl (by kernel_rfl)) rfl ?_
 exact⟨_,_,_,rE,X (fR (Y HO1.out BK2.out (by decide))) (fun _ hk=>trivial),X (fR (Y HO2.out BK2.out (by decide))) (fun _ hk=>hk.1),X (fR (Y HO3.out BK2.out (by decide))) (fun _ hk=>hk.1),uB⟩
mutual
def spec_JobsOk.l0:Nat→List (S26)→Int→Option (Bool)
  |0,_,_=>none
  |k+1,x0,x3=>if x3<(x0.length:Int) then(if 0≤x3 then((spec_JobOk.f ((rd_T26 x0 x3).f0) ((rd_T26 x0 x3).f1) ((rd_T26 x0 x3).f2) ((rd_T26 x0 x3).f3) ((rd_T26 x0 x3).f4) ((rd_T26 x0 x3).f5)).bind fun t653=>(if t653=true then(spec_JobsOk.l1 k x0 x3 0) else(some false))) else(none)) else(some (decide ((x0.length:Int)≤12)))
def spec_JobsOk.l1:Nat→List (S26)→Int→Int→Option (Bool)
  |0,_,_,_=>none
  |k+1,x0,x3,x4=>if x4<x3 then(if 0≤x4 then(if x4<(x0.length:Int) then(if 0≤x3 then(if x3<(x0.length:Int) then(if((rd_T26 x0 x4).f0)=((rd_T26 x0 x3).f0) then(some false) else(spec_JobsOk.l1 k x0 x3 (wrap64 (x4+1)))) else(none)) else(none)) else(none)) else(none)) else(spec_JobsOk.l0 k x0 (wrap64 (x3+1)))
end
def spec_JobsOk.f (k:Nat) (l0:List (S26)):Option (Bool):=spec_JobsOk.l0 k l0 0
theorem spec_JobsOk.W1 {p:Prop} (h:p:=by
 go_wp2
 repeat(go_quiet (fail);try go_wp2)
 go_ret
 exact⟨rE,uB⟩):p:=h
theorem spec_JobsOk.W2 {p:Prop} (h:p:=by
 go_wp2
 repeat(go_quiet (fail);try go_wp2)
 go_roundg k2
 case measure=>have:=HK1.out;have:=HK2.out;omega
 first
  |(case rel=>exact⟨(wrap64 (x2_2+1)),rS,H',⟨by have:=HK1.out;have:=HK2.out;omega⟩,⟨uB⟩⟩)
  |(case rel=>exact⟨(wrap64 (x1_1+1)),rS,H',⟨by have:=HK1.out;have:=HK2.out;omega⟩,⟨uB⟩⟩)):p:=h
theorem spec_JobsOk.calls (k:Nat) (A0:Option Addr) (c0:Nat) (l0:List (S26)) (r:Bool) (w:World) (hr0:Kd.C k26 w A0 l0.length l0) (hc0:l0.length≤c0) (h:spec_JobsOk.f k l0=some r):
 Calls prog 83 #[L A0 l0.length c0] w fun e w'=>e=.returned (O r)∧Below w.heap.size w w':=by
 have hu1:=underlying26
 have HR1:=C hr0
 have HC1:=C hc0
 (try clear hr0);(try clear hc0)
 have HB:=C (Below.refl w.heap.size w)
 have H:=h
 unfold spec_JobsOk.f at H
 clear h
 have H':=C H
 clear H
 go_enter func83,ntmps83
 go_wp2
 repeat(go_quiet (fail);try go_wp2)
 go_loopg [3] k (fun kq v3 w'=>∃(x1_1:Int),v3=V I x1_1∧D (spec_JobsOk.l0 kq l0 x1_1=some r)∧D (kq≤k)∧D (Below w.heap.size w w'))
 case atStart=>exact⟨(0),rS,H',⟨Nat.le_refl _⟩,⟨uB⟩⟩
 case round=>
  clear H'
  obtain⟨x1_1,rfl,HA,HK1,HB⟩:=hrel
  cases gk with
  |zero=>exact absurd HA.out (by simp[spec_JobsOk.l0])
  |succ k1=>
   have H:=HA.out
   clear HA
   simp only[spec_JobsOk.l0]at H
   by_cases c1:x1_1<(l0.length:Int)
   rotate_left
   ·rw[if_neg c1]at H
    replace c1:=decide_eq_false c1
    obtain rfl:=si H
    exact spec_JobsOk.W1
   rw[if_pos c1]at H
   replace c1:=decide_eq_true c1
   obtain⟨c2,H⟩:=np H
   replace c2:=decide_eq_true c2
   obtain⟨t1,A1,H⟩:=bnd H
   by_cases c3:t1=true
   rotate_left
   ·obtain rfl:=nt c3
    replace H:=nf H
    obtain rfl:=si H
    have p1:0≤(x1_1:Int):=oT
    have q1:x1_1<(l0.length:Int):=oT
    obtain⟨ad1,e1,hx1_0,hx1_1,hx1_2,hx1_3,hx1_4,hx1_5⟩:=at_T26 (Kd.C_below HR1.out HB.out) x1_1 p1 q1
    cases e1
    replace p1:=eq_true p1
    replace q1:=eq_true q1
    go_wp2_with (first|(go_at_call 85;(with_reducible refine(spec_JobOk.calls ((rd_T26 l0 x1_1).f0) ((rd_T26 l0 x1_1).f1) ((rd_T26 l0 x1_1).f2) ((rd_T26 l0 x1_1).f3) ((rd_T26 l0 x1_1).f4) ((rd_T26 l0 x1_1).f5) false _ A1.out).mono ?_);rintro e w1 ⟨rfl,hb⟩;replace HB:=eB hb;clear hb))
    repeat(go_quiet (fail);try go_wp2_with (first|(go_at_call 85;(with_reducible refine(spec_JobOk.calls ((rd_T26 l0 x1_1).f0) ((rd_T26 l0 x1_1).f1) ((rd_T26 l0 x1_1).f2) ((rd_T26 l0 x1_1).f3) ((rd_T26 l0 x1_1).f4) ((rd_T26 l0 x1_1).f5) false _ A1.out).mono ?_);rintro e w1 ⟨rfl,hb⟩;replace HB:=eB hb;clear hb)))
    go_ret
    exact⟨rE,uB⟩
   subst c3
   rw[if_pos rfl]at H
   have H':=C H
   clear H
   have p1:0≤(x1_1:Int):=oT
   have q1:x1_1<(l0.length:Int):=oT
   obtain⟨ad1,e1,hx1_0,hx1_1,hx1_2,hx1_3,hx1_4,hx1_5⟩:=at_T26 (Kd.C_below HR1.out HB.out) x1_1 p1 q1
   cases e1
   replace p1:=eq_true p1
   replace q1:=eq_true q1
   go_wp2_with (first|(go_at_call 85;(with_reducible refine(spec_JobOk.calls ((rd_T26 l0 x1_1).f0) ((rd_T26 l0 x1_1).f1) ((rd_T26 l0 x1_1).f2) ((rd_T26 l0 x1_1).f3) ((rd_T26 l0 x1_1).f4) ((rd_T26 l0 x1_1).f5) true _ A1.out).mono ?_);rintro e w1 ⟨rfl,hb⟩;replace HB:=eB hb;clear hb))
   repeat(go_quiet (fail);try go_wp2_with (first|(go_at_call 85;(with_reducible refine(spec_JobOk.calls ((rd_T26 l0 x1_1).f0) ((rd_T26 l0 x1_1).f1) ((rd_T26 l0 x1_1).f2) ((rd_T26 l0 x1_1).f3) ((rd_T26 l0 x1_1).f4) ((rd_T26 l0 x1_1).f5) true _ A1.out).mono ?_);rintro e w1 ⟨rfl,hb⟩;replace HB:=eB hb;clear hb)))
   go_loopg [4] k1 (fun kq v4 w'=>∃(x2_2:Int),v4=V I x2_2∧D (spec_JobsOk.l1 kq l0 x1_1 x2_2=some r)∧D (kq≤k1)∧D (Below w.heap.size w w'))
   case atStart=>exact⟨(0),rS,H',⟨Nat.le_refl _⟩,⟨uB⟩⟩
   case round=>
    clear H'
    obtain⟨x2_2,rfl,HA,HK2,HB⟩:=hrel
    cases gk with
    |zero=>exact absurd HA.out (by simp[spec_JobsOk.l1])
    |succ k2=>
     have H:=HA.out
     clear HA
     simp only[spec_JobsOk.l1]at H
     by_cases c4:x2_2<x1_1
     rotate_left
     ·rw[if_neg c4]at H
      replace c4:=decide_eq_false c4
      have H':=C H
      clear H
      exact spec_JobsOk.W2
     rw[if_pos c4]at H
     replace c4:=decide_eq_true c4
     obtain⟨c5,H⟩:=np H
     replace c5:=decide_eq_true c5
     obtain⟨c6,H⟩:=np H
     replace c6:=decide_eq_true c6
     obtain⟨c7,H⟩:=np H
     replace c7:=decide_eq_true c7
     obtain⟨c8,H⟩:=np H
     replace c8:=decide_eq_true c8
     by_cases c9:((rd_T26 l0 x2_2).f0)=((rd_T26 l0 x1_1).f0)
     rotate_left
     ·rw[if_neg c9]at H
      have c9b0:(((rd_T26 l0 x2_2).f0)==((rd_T26 l0 x1_1).f0))=false:=beq_eq_false_iff_ne.mpr c9
      have c9b1:(((rd_T26 l0 x2_2).f0) !=((rd_T26 l0 x1_1).f0))=true:=bne_iff_ne.mpr c9
      have H':=C H
      clear H
      have p2:0≤(x2_2:Int):=oT
      have q2:x2_2<(l0.length:Int):=oT
      obtain⟨ad2,e2,hx2_0,hx2_1,hx2_2,hx2_3,hx2_4,hx2_5⟩:=at_T26 HR1.out x2_2 p2 q2
      obtain rfl:ad1=ad2:=(by injection e2)
      replace hx2_0:=hx HB hx2_0
      replace hx2_1:=hx HB hx2_1
      replace hx2_2:=hx HB hx2_2
      replace hx2_3:=hx HB hx2_3
      replace hx2_4:=hx HB hx2_4
      replace hx2_5:=hx HB hx2_5
      replace p2:=eq_true p2
      replace q2:=eq_true q2
      have p3:0≤(x1_1:Int):=oT
      have q3:x1_1<(l0.length:Int):=oT
      obtain⟨ad3,e3,hx3_0,hx3_1,hx3_2,hx3_3,hx3_4,hx3_5⟩:=at_T26 HR1.out x1_1 p3 q3
      obtain rfl:ad1=ad3:=(by injection e3)
      replace hx3_0:=hx HB hx3_0
      replace hx3_1:=hx HB hx3_1
      replace hx3_2:=hx HB hx3_2
      replace hx3_3:=hx HB hx3_3
      replace hx3_4:=hx HB hx3_4
      replace hx3_5:=hx HB hx3_5
      replace p3:=eq_true p3
      replace q3:=eq_true q3
      exact spec_JobsOk.W2
     rw[if_pos c9]at H
     have c9b0:(((rd_T26 l0 x2_2).f0)==((rd_T26 l0 x1_1).f0))=true:=beq_iff_eq.mpr c9
     have c9b1:(((rd_T26 l0 x2_2).f0) !=((rd_T26 l0 x1_1).f0))=false:=bne_eq_false_iff_eq.mpr c9
     clear c9
     obtain rfl:=si H
     have p2:0≤(x2_2:Int):=oT
     have q2:x2_2<(l0.length:Int):=oT
     obtain⟨ad2,e2,hx2_0,hx2_1,hx2_2,hx2_3,hx2_4,hx2_5⟩:=at_T26 HR1.out x2_2 p2 q2
     obtain rfl:ad1=ad2:=(by injection e2)
     replace hx2_0:=hx HB hx2_0
     replace hx2_1:=hx HB hx2_1
     replace hx2_2:=hx HB hx2_2
     replace hx2_3:=hx HB hx2_3
     replace hx2_4:=hx HB hx2_4
     replace hx2_5:=hx HB hx2_5
     replace p2:=eq_true p2
     replace q2:=eq_true q2
     have p3:0≤(x1_1:Int):=oT
     have q3:x1_1<(l0.length:Int):=oT
     obtain⟨ad3,e3,hx3_0,hx3_1,hx3_2,hx3_3,hx3_4,hx3_5⟩:=at_T26 HR1.out x1_1 p3 q3
     obtain rfl:ad1=ad3:=(by injection e3)
     replace hx3_0:=hx HB hx3_0
     replace hx3_1:=hx HB hx3_1
     replace hx3_2:=hx HB hx3_2
     replace hx3_3:=hx HB hx3_3
     replace hx3_4:=hx HB hx3_4
     replace hx3_5:=hx HB hx3_5
     replace p3:=eq_true p3
     replace q3:=eq_true q3
     exact spec_JobsOk.W1
mutual
def spec_LineOk.j0:Nat→Bool→Int→Int→List Int→List Int→Int→Bool→Option (Bool)
  |0,_,_,_,_,_,_,_=>none
  |k+1,x40,x657000,x657001,x657002,x657003,x657004,x657005=>if x40=true then(some false) else(spec_LineOk.l0 k 0 x657000 x657001 x657002 x657003 x657004 x657005)
def spec_LineOk.l0:Nat→Int→Int→Int→List Int→List Int→Int→Bool→Option (Bool)
  |0,_,_,_,_,_,_,_=>none
  |k+1,x3,x657000,x657001,x657002,x657003,x657004,x657005=>if x3<(x657003.length:Int) then(if 0≤x3 then(if(rd x657003 x3)=x3 then(spec_LineOk.l0 k (wrap64 (x3+1)) x657000 x657001 x657002 x657003 x657004 x657005) else(some false)) else(none)) else(spec_LineOk.l1 k 0 x657000 x657001 x657002 x657003 x657004 x657005)
def spec_LineOk.l1:Nat→Int→Int→Int→List Int→List Int→Int→Bool→Option (Bool)
  |0,_,_,_,_,_,_,_=>none
  |k+1,x4,x657000,x657001,x657002,x657003,x657004,x657005=>if x4<(x657002.length:Int) then(if 0≤x4 then(if(rd x657002 x4)=(wrap64 ((x657003.length:Int)+x4)) then(spec_LineOk.l1 k (wrap64 (x4+1)) x657000 x657001 x657002 x657003 x657004 x657005) else(some false)) else(none)) else(some true)
end
def spec_LineOk.f (k:Nat) (a0_0:Int) (a0_1:Int) (l0_2:List Int) (l0_3:List Int) (a0_4:Int) (a0_5:Bool):Option (Bool):=(spec_l01In.f a0_0 0 40).bind fun t657=>(if t657=true then((spec_l01In.f a0_1 0 a0_0).bind fun t658=>(if t658=true then(if(l0_2.length:Int) >5 then(spec_LineOk.j0 k true a0_0 a0_1 l0_2 l0_3 a0_4 a0_5) else((spec_l01In.f a0_4 0 100000).bind fun t659=>(if t659=true then(spec_LineOk.j0 k ((wrap64 ((l0_3.length:Int)+(l0_2.length:Int))) !=a0_1) a0_0 a0_1 l0_2 l0_3 a0_4 a0_5) else(spec_LineOk.j0 k true a0_0 a0_1 l0_2 l0_3 a0_4 a0_5)))) else(spec_LineOk.j0 k true a0_0 a0_1 l0_2 l0_3 a0_4 a0_5))) else(spec_LineOk.j0 k true a0_0 a0_1 l0_2 l0_3 a0_4 a0_5))
theorem spec_LineOk.W1 {p:Prop} (h:p:=by
    go_wp2_with (first|(go_at_call 60;(with_reducible refine(spec_l01In.calls a0_0 0 40 true _ A1.out).mono ?_);rintro e w' ⟨rfl,⟨nd,rfl⟩⟩;(try exact dD))|(go_at_call 60;(with_reducible refine(spec_l01In.calls a0_1 0 a0_0 true _ A2.out).mono ?_);rintro e w' ⟨rfl,⟨nd,rfl⟩⟩;(try exact dD))|(go_at_call 60;(with_reducible refine(spec_l01In.calls a0_4 0 100000 true _ A3.out).mono ?_);rintro e w' ⟨rfl,⟨nd,rfl⟩⟩;(try exact dD))|(go_at_call 60;(with_reducible refine(spec_l01In.calls a0_1 0 a0_0 false _ A2.out).mono ?_);rintro e w' ⟨rfl,⟨nd,rfl⟩⟩;(try exact dD))|(go_at_call 60;(with_reducible refine(spec_l01In.calls a0_0 0 40 false _ A1.out).mono ?_);rintro e w' ⟨rfl,⟨nd,rfl⟩⟩;(try exact dD)))
    first
      | (repeat (go_quiet (first | (go_at_call 60; (with_reducible refine (spec_l01In.calls a0_0 0 40 true _ A1.out).mono ?_); rintro e w' ⟨rfl, ⟨nd, rfl⟩⟩; (try exact dD)) | (go_at_call 60; (with_reducible refine (spec_l01In.calls a0_1 0 a0_0 true _ A2.out).mono ?_); rintro e w' ⟨rfl, ⟨nd, rfl⟩⟩; (try exact dD))); try go_wp2_with (first | (go_at_call 60; (with_reducible refine (spec_l01In.calls a0_0 0 40 true _ A1.out).mono ?_); rintro e w' ⟨rfl, ⟨nd, rfl⟩⟩; (try exact dD)) | (go_at_call 60; (with_reducible refine (spec_l01In.calls a0_1 0 a0_0 true _ A2.out).mono ?_); rintro e w' ⟨rfl, ⟨nd, rfl⟩⟩; (try exact dD))))
         go_meet
         case rel=>exact⟨_,(true),rS,H',⟨oL⟩,⟨bK BK1.out⟩,⟨uB⟩⟩)
      | (repeat (go_quiet (first | (go_at_call 60; (with_reducible refine (spec_l01In.calls a0_0 0 40 true _ A1.out).mono ?_); rintro e w' ⟨rfl, ⟨nd, rfl⟩⟩; (try exact dD)) | (go_at_call 60; (with_reducible refine (spec_l01In.calls a0_1 0 a0_0 true _ A2.out).mono ?_); rintro e w' ⟨rfl, ⟨nd, rfl⟩⟩; (try exact dD)) | (go_at_call 60; (with_reducible refine (spec_l01In.calls a0_4 0 100000 true _ A3.out).mono ?_); rintro e w' ⟨rfl, ⟨nd, rfl⟩⟩; (try exact dD))); try go_wp2_with (first | (go_at_call 60; (with_reducible refine (spec_l01In.calls a0_0 0 40 true _ A1.out).mono ?_); rintro e w' ⟨rfl, ⟨nd, rfl⟩⟩; (try exact dD)) | (go_at_call 60; (with_reducible refine (spec_l01In.calls a0_1 0 a0_0 true _ A2.out).mono ?_); rintro e w' ⟨rfl, ⟨nd, rfl⟩⟩; (try exact dD)) | (go_at_call 60; (with_reducible refine (spec_l01In.calls a0_4 0 100000 true _ A3.out).mono ?_); rintro e w' ⟨rfl, ⟨nd, rfl⟩⟩; (try exact dD))))
         go_meet
         case rel=>exact⟨_,(((wrap64 ((l0_3.length:Int)+(l0_2.length:Int))) !=a0_1)),rS,H',⟨oL⟩,⟨bK BK1.out⟩,⟨uB⟩⟩)
      | (repeat (go_quiet (first | (go_at_call 60; (with_reducible refine (spec_l01In.calls a0_0 0 40 true _ A1.out).mono ?_); rintro e w' ⟨rfl, ⟨nd, rfl⟩⟩; (try exact dD)) | (go_at_call 60; (with_reducible refine (spec_l01In.calls a0_1 0 a0_0 false _ A2.out).mono ?_); rintro e w' ⟨rfl, ⟨nd, rfl⟩⟩; (try exact dD))); try go_wp2_with (first | (go_at_call 60; (with_reducible refine (spec_l01In.calls a0_0 0 40 true _ A1.out).mono ?_); rintro e w' ⟨rfl, ⟨nd, rfl⟩⟩; (try exact dD)) | (go_at_call 60; (with_reducible refine (spec_l01In.calls a0_1 0 a0_0 false _ A2.out).mono ?_); rintro e w' ⟨rfl, ⟨nd, rfl⟩⟩; (try exact dD))))
         go_meet
         case rel=>exact⟨_,(true),rS,H',⟨oL⟩,⟨bK BK1.out⟩,⟨uB⟩⟩)
      | (repeat (go_quiet (first | (go_at_call 60; (with_reducible refine (spec_l01In.calls a0_0 0 40 false _ A1.out).mono ?_); rintro e w' ⟨rfl, ⟨nd, rfl⟩⟩; (try exact dD))); try go_wp2_with (first | (go_at_call 60; (with_reducible refine (spec_l01In.calls a0_0 0 40 false _ A1.out).mono ?_); rintro e w' ⟨rfl, ⟨nd, rfl⟩⟩; (try exact dD))))
         go_meet
         case rel=>exact⟨_,(true),rS,H',⟨oL⟩,⟨bK BK1.out⟩,⟨uB⟩⟩)):p:=h
theorem spec_LineOk.W2 {p:Prop} (h:p:=by
 go_wp2
 repeat(go_quiet (fail);try go_wp2)
 go_ret
 exact⟨rE,uB⟩):p:=h
theorem spec_LineOk.calls (k:Nat) (a0_0:Int) (a0_1:Int) (A0_2:Option Addr) (c0_2:Nat) (l0_2:List Int) (A0_3:Option Addr) (c0_3:Nat) (l0_3:List Int) (a0_4:Int) (a0_5:Bool) (r:Bool) (w:World) (hr0_2:Kd.C (Kd.int .i64) w A0_2 l0_2.length l0_2) (hc0_2:l0_2.length≤c0_2) (hr0_3:Kd.C (Kd.int .i64) w A0_3 l0_3.length l0_3) (hc0_3:l0_3.length≤c0_3) (h:spec_LineOk.f k a0_0 a0_1 l0_2 l0_3 a0_4 a0_5=some r):
 Calls prog 84 #[G #[V I a0_0,V I a0_1,L A0_2 l0_2.length c0_2,L A0_3 l0_3.length c0_3,V I a0_4,O a0_5]] w fun e w'=>e=.returned (O r)∧Below w.heap.size w w':=by
 have hu1:=underlying29
 have HR1_2:=C hr0_2
 have HC1_2:=C hc0_2
 (try clear hr0_2);(try clear hc0_2)
 have HR1_3:=C hr0_3
 have HC1_3:=C hc0_3
 (try clear hr0_3);(try clear hc0_3)
 have HB:=C (Below.refl w.heap.size w)
 have H:=h
 unfold spec_LineOk.f at H
 clear h
 have HC2:=C H
 clear H
 go_enter func84,ntmps84
 go_upto_region 1 with(first|((with_reducible refine J (N:=1) rfl ?_);(try(refine gate_guard (by rfl) ?_;dsimp only));refine Fix.be 1 #[V I a0_0,V I a0_1,L A0_2 l0_2.length c0_2,L A0_3 l0_3.length c0_3,V I a0_4,O a0_5] 29 ?_;intro gb1 hg w1 BK1 hb;have GW1:=gE (w:=w) hg;have GE1:=GW1;replace HB:=eB hb;clear hb hg))
 repeat(go_quiet (fail);go_upto_region 1 with(first|((with_reducible refine J (N:=1) rfl ?_);(try(refine gate_guard (by rfl) ?_;dsimp only));refine Fix.be 1 #[V I a0_0,V I a0_1,L A0_2 l0_2.length c0_2,L A0_3 l0_3.length c0_3,V I a0_4,O a0_5] 29 ?_;intro gb1 hg w1 BK1 hb;have GW1:=gE (w:=w) hg;have GE1:=GW1;replace HB:=eB hb;clear hb hg)))
 (try simp only[Act.put,List.setIfInBounds_toArray,List.set_cons_zero,List.set_cons_succ])
 go_cut [40] (fun v40 wc=>∃(kq:Nat) (x1_1:Bool),v40=O x1_1∧D (spec_LineOk.j0 kq x1_1 a0_0 a0_1 l0_2 l0_3 a0_4 a0_5=some r)∧D (kq≤k)∧D (wc.heap[gb1]? =some (.cells #[V I a0_0,V I a0_1,(L A0_2 l0_2.length c0_2),(L A0_3 l0_3.length c0_3),V I a0_4,O a0_5] 29 (0,0)))∧D (Below w.heap.size w wc))
 case first=>
  have H:=HC2.out
  clear HC2
  obtain⟨t1,A1,H⟩:=bnd H
  by_cases c1:t1=true
  rotate_left
  ·obtain rfl:=nt c1
   replace H:=nf H
   have H':=C H
   clear H
   obtain⟨_,_,_,_,_,_,_,_,_,_,_,_⟩:=d6 BK1.out
   exact spec_LineOk.W1
  subst c1
  rw[if_pos rfl]at H
  obtain⟨t2,A2,H⟩:=bnd H
  by_cases c2:t2=true
  rotate_left
  ·obtain rfl:=nt c2
   replace H:=nf H
   have H':=C H
   clear H
   obtain⟨_,_,_,_,_,_,_,_,_,_,_,_⟩:=d6 BK1.out
   exact spec_LineOk.W1
  subst c2
  rw[if_pos rfl]at H
  by_cases c3:(l0_2.length:Int) >5
  ·rw[if_pos c3]at H
   have c3b0:decide (5<(l0_2.length:Int))=true:=decide_eq_true c3
   have c3b1:decide (5<l0_2.length)=true:=decide_eq_true (by omega)
   clear c3
   (first|rw[c3b0]|(simp only[i64_w,i32_w];rw[c3b0])|skip)
   have H':=C H
   clear H
   obtain⟨_,_,_,_,_,_,_,_,_,_,_,_⟩:=d6 BK1.out
   exact spec_LineOk.W1
  rw[if_neg c3]at H
  have c3b0:decide (5<(l0_2.length:Int))=false:=decide_eq_false c3
  have c3b1:decide (5<l0_2.length)=false:=decide_eq_false (by omega)
  clear c3
  (first|rw[c3b0]|(simp only[i64_w,i32_w];rw[c3b0])|skip)
  obtain⟨t3,A3,H⟩:=bnd H
  by_cases c4:t3=true
  ·subst c4
   rw[if_pos rfl]at H
   have H':=C H
   clear H
   obtain⟨_,_,_,_,_,_,_,_,_,_,_,_⟩:=d6 BK1.out
   exact spec_LineOk.W1
  obtain rfl:=nt c4
  replace H:=nf H
  have H':=C H
  clear H
  obtain⟨_,_,_,_,_,_,_,_,_,_,_,_⟩:=d6 BK1.out
  go_wp2_with (first|(go_at_call 60;(with_reducible refine(spec_l01In.calls a0_0 0 40 true _ A1.out).mono ?_);rintro e w' ⟨rfl,⟨nd,rfl⟩⟩;(try exact dD))|(go_at_call 60;(with_reducible refine(spec_l01In.calls a0_1 0 a0_0 true _ A2.out).mono ?_);rintro e w' ⟨rfl,⟨nd,rfl⟩⟩;(try exact dD))|(go_at_call 60;(with_reducible refine(spec_l01In.calls a0_4 0 100000 false _ A3.out).mono ?_);rintro e w' ⟨rfl,⟨nd,rfl⟩⟩;(try exact dD)))
  repeat(go_quiet (first|(go_at_call 60;(with_reducible refine(spec_l01In.calls a0_0 0 40 true _ A1.out).mono ?_);rintro e w' ⟨rfl,⟨nd,rfl⟩⟩;(try exact dD))|(go_at_call 60;(with_reducible refine(spec_l01In.calls a0_1 0 a0_0 true _ A2.out).mono ?_);rintro e w' ⟨rfl,⟨nd,rfl⟩⟩;(try exact dD))|(go_at_call 60;(with_reducible refine(spec_l01In.calls a0_4 0 100000 false _ A3.out).mono ?_);rintro e w' ⟨rfl,⟨nd,rfl⟩⟩;(try exact dD)));try go_wp2_with (first|(go_at_call 60;(with_reducible refine(spec_l01In.calls a0_0 0 40 true _ A1.out).mono ?_);rintro e w' ⟨rfl,⟨nd,rfl⟩⟩;(try exact dD))|(go_at_call 60;(with_reducible refine(spec_l01In.calls a0_1 0 a0_0 true _ A2.out).mono ?_);rintro e w' ⟨rfl,⟨nd,rfl⟩⟩;(try exact dD))|(go_at_call 60;(with_reducible refine(spec_l01In.calls a0_4 0 100000 false _ A3.out).mono ?_);rintro e w' ⟨rfl,⟨nd,rfl⟩⟩;(try exact dD))))
  go_meet
  case rel=>exact⟨_,(true),rS,H',⟨oL⟩,⟨bK BK1.out⟩,⟨uB⟩⟩
 case rest=>
  clear HC2
  obtain⟨kq,x1_1,rfl,HA,HJ1,BK1,HB⟩:=hcut
  cases kq with
  |zero=>exact absurd HA.out (by simp[spec_LineOk.j0])
  |succ kj1=>
   have H:=HA.out
   clear HA
   simp only[spec_LineOk.j0]at H
   by_cases c1:x1_1=true
   ·subst c1
    rw[if_pos rfl]at H
    obtain rfl:=si H
    exact spec_LineOk.W2
   obtain rfl:=nt c1
   replace H:=nf H
   have H':=C H
   clear H
   go_wp2
   repeat(go_quiet (fail);try go_wp2)
   go_loopg [3] kj1 (fun kq v3 w'=>∃(x2_2:Int),v3=V I x2_2∧D (spec_LineOk.l0 kq x2_2 a0_0 a0_1 l0_2 l0_3 a0_4 a0_5=some r)∧D (kq≤kj1)∧D (w'.heap[gb1]? =some (.cells #[V I a0_0,V I a0_1,(L A0_2 l0_2.length c0_2),(L A0_3 l0_3.length c0_3),V I a0_4,O a0_5] 29 (0,0)))∧D (Below w.heap.size w w'))
   case atStart=>exact⟨(0),rS,H',⟨Nat.le_refl _⟩,⟨bK BK1.out⟩,⟨uB⟩⟩
   case round=>
    clear H'
    obtain⟨x2_2,rfl,HA,HK1,BK1,HB⟩:=hrel
    cases gk with
    |zero=>exact absurd HA.out (by simp[spec_LineOk.l0])
    |succ k2=>
     have H:=HA.out
     clear HA
     simp only[spec_LineOk.l0]at H
     by_cases c2:x2_2<(l0_3.length:Int)
     ·rw[if_pos c2]at H
      replace c2:=decide_eq_true c2
      obtain⟨c3,H⟩:=np H
      have c3b0:decide (0≤x2_2)=true:=decide_eq_true c3
      clear c3
      by_cases c4:(rd l0_3 x2_2)=x2_2
      rotate_left
      ·rw[if_neg c4]at H
       have c4b0:((rd l0_3 x2_2)==x2_2)=false:=beq_eq_false_iff_ne.mpr c4
       have c4b1:((rd l0_3 x2_2) !=x2_2)=true:=bne_iff_ne.mpr c4
       obtain rfl:=si H
       obtain⟨_,_,_,_,_,_,_,_,_,_,_,_⟩:=d6 BK1.out
       have p1:0≤(x2_2:Int):=oT
       have q1:x2_2<(l0_3.length:Int):=oT
       obtain⟨ad1,e1,hx1_0⟩:=Kd.at_int (Kd.C_below HR1_3.out HB.out) x2_2 p1 q1
       cases e1
       replace p1:=eq_true p1
       replace q1:=eq_true q1
       exact spec_LineOk.W2
      rw[if_pos c4]at H
      have c4b0:((rd l0_3 x2_2)==x2_2)=true:=beq_iff_eq.mpr c4
      have c4b1:((rd l0_3 x2_2) !=x2_2)=false:=bne_eq_false_iff_eq.mpr c4
      clear c4
      have H':=C H
      clear H
      obtain⟨_,_,_,_,_,_,_,_,_,_,_,_⟩:=d6 BK1.out
      have p1:0≤(x2_2:Int):=oT
      have q1:x2_2<(l0_3.length:Int):=oT
      obtain⟨ad1,e1,hx1_0⟩:=Kd.at_int (Kd.C_below HR1_3.out HB.out) x2_2 p1 q1
      cases e1
      replace p1:=eq_true p1
      replace q1:=eq_true q1
      go_wp2
      repeat(go_quiet (fail);try go_wp2)
      go_roundg k2
      case measure=>have:=HJ1.out;have:=HK1.out;omega
      case rel=>exact⟨(wrap64 (x2_2+1)),rS,H',⟨by have:=HJ1.out;have:=HK1.out;omega⟩,⟨bK BK1.out⟩,⟨uB⟩⟩
     rw[if_neg c2]at H
     replace c2:=decide_eq_false c2
     have H':=C H
     clear H
     obtain⟨_,_,_,_,_,_,_,_,_,_,_,_⟩:=d6 BK1.out
     go_wp2
     repeat(go_quiet (fail);try go_wp2)
     go_loopg [4] k2 (fun kq v4 w'=>∃(x3_3:Int),v4=V I x3_3∧D (spec_LineOk.l1 kq x3_3 a0_0 a0_1 l0_2 l0_3 a0_4 a0_5=some r)∧D (kq≤k2)∧D (w'.heap[gb1]? =some (.cells #[V I a0_0,V I a0_1,(L A0_2 l0_2.length c0_2),(L A0_3 l0_3.length c0_3),V I a0_4,O a0_5] 29 (0,0)))∧D (Below w.heap.size w w'))
     case atStart=>exact⟨(0),rS,H',⟨Nat.le_refl _⟩,⟨bK BK1.out⟩,⟨uB⟩⟩
     case round=>
      clear H'
      obtain⟨x3_3,rfl,HA,HK2,BK1,HB⟩:=hrel
      cases gk with
      |zero=>exact absurd HA.out (by simp[spec_LineOk.l1])
      |succ k3=>
       have H:=HA.out
       clear HA
       simp only[spec_LineOk.l1]at H
       by_cases c3:x3_3<(l0_2.length:Int)
       rotate_left
       ·rw[if_neg c3]at H
        have c3b0:decide (x3_3<(l0_2.length:Int))=false:=decide_eq_false c3
        clear c3
        obtain rfl:=si H
        obtain⟨_,_,_,_,_,_,_,_,_,_,_,_⟩:=d6 BK1.out
        exact spec_LineOk.W2
       rw[if_pos c3]at H
       have c3b0:decide (x3_3<(l0_2.length:Int))=true:=decide_eq_true c3
       clear c3
       obtain⟨c4,H⟩:=np H
       replace c4:=decide_eq_true c4
       by_cases c5:(rd l0_2 x3_3)=(wrap64 ((l0_3.length:Int)+x3_3))
       rotate_left
       ·rw[if_neg c5]at H
        have c5b0:((rd l0_2 x3_3)==(wrap64 ((l0_3.length:Int)+x3_3)))=false:=beq_eq_false_iff_ne.mpr c5
        have c5b1:((rd l0_2 x3_3) !=(wrap64 ((l0_3.length:Int)+x3_3)))=true:=bne_iff_ne.mpr c5
        obtain rfl:=si H
        obtain⟨_,_,_,_,_,_,_,_,_,_,_,_⟩:=d6 BK1.out
        have p1:0≤(x3_3:Int):=oT
        have q1:x3_3<(l0_2.length:Int):=oT
        obtain⟨ad1,e1,hx1_0⟩:=Kd.at_int (Kd.C_below HR1_2.out HB.out) x3_3 p1 q1
        cases e1
        replace p1:=eq_true p1
        replace q1:=eq_true q1
        exact spec_LineOk.W2
       rw[if_pos c5]at H
       have c5b0:((rd l0_2 x3_3)==(wrap64 ((l0_3.length:Int)+x3_3)))=true:=beq_iff_eq.mpr c5
       have c5b1:((rd l0_2 x3_3) !=(wrap64 ((l0_3.length:Int)+x3_3)))=false:=bne_eq_false_iff_eq.mpr c5
       clear c5
       have H':=C H
       clear H
       obtain⟨_,_,_,_,_,_,_,_,_,_,_,_⟩:=d6 BK1.out
       have p1:0≤(x3_3:Int):=oT
       have q1:x3_3<(l0_2.length:Int):=oT
       obtain⟨ad1,e1,hx1_0⟩:=Kd.at_int (Kd.C_below HR1_2.out HB.out) x3_3 p1 q1
       cases e1
       replace p1:=eq_true p1
       replace q1:=eq_true q1
       go_wp2
       repeat(go_quiet (fail);try go_wp2)
       go_roundg k3
       case measure=>have:=HJ1.out;have:=HK1.out;have:=HK2.out;omega
       case rel=>exact⟨(wrap64 (x3_3+1)),rS,H',⟨by have:=HJ1.out;have:=HK1.out;have:=HK2.out;omega⟩,⟨bK BK1.out⟩,⟨uB⟩⟩
mutual
def spec_SidesFor.j0:Nat→Int→Int→List (List Int)→Bool→Option ((List (List Int)))
  |0,_,_,_,_=>none
  |k+1,x0,x1,x5,x31=>if x31=true then(some x5) else(spec_SidesFor.l0 k x0 x1 x5 1)
def spec_SidesFor.l0:Nat→Int→Int→List (List Int)→Int→Option ((List (List Int)))
  |0,_,_,_,_=>none
  |k+1,x0,x1,x5,x6=>if x6≤x0 then(if x1=0 then(none) else(if(Int.tmod x6 x1)=((1:Int) % x1) then(if x5.length<5864062014805 then((some (x5++ [(([]:List Int))]:List (List Int))).bind fun y669=>(if 0≤(wrap64 ((y669.length:Int) - 1)) then(if(wrap64 ((y669.length:Int) - 1))<(y669.length:Int) then(if(rd_L3 y669 (wrap64 ((y669.length:Int) - 1))).length<17592186044416 then(spec_SidesFor.l0 k x0 x1 (y669.set ((wrap64 ((y669.length:Int) - 1)):Int).toNat ((rd_L3 y669 (wrap64 ((y669.length:Int) - 1)))++ [x6])) (wrap64 (x6+1))) else(none)) else(none)) else(none))) else(none)) else(if 0≤(wrap64 ((x5.length:Int) - 1)) then(if(wrap64 ((x5.length:Int) - 1))<(x5.length:Int) then(if(rd_L3 x5 (wrap64 ((x5.length:Int) - 1))).length<17592186044416 then(spec_SidesFor.l0 k x0 x1 (x5.set ((wrap64 ((x5.length:Int) - 1)):Int).toNat ((rd_L3 x5 (wrap64 ((x5.length:Int) - 1)))++ [x6])) (wrap64 (x6+1))) else(none)) else(none)) else(none)))) else(some x5)
end
def spec_SidesFor.f (k:Nat) (a0:Int) (a1:Int):Option ((List (List Int))):=(some (([]:List (List Int)):List (List Int))).bind fun y662=>((spec_l01In.f a0 1 64).bind fun t665=>(if t665=true then(if a1=1 then(spec_SidesFor.j0 k a0 a1 y662 false) else(if a1=2 then(spec_SidesFor.j0 k a0 a1 y662 false) else(if a1=4 then(spec_SidesFor.j0 k a0 a1 y662 false) else(if a1=8 then(spec_SidesFor.j0 k a0 a1 y662 false) else(spec_SidesFor.j0 k a0 a1 y662 (a1 !=16)))))) else(spec_SidesFor.j0 k a0 a1 y662 true)))
theorem spec_SidesFor.mono_l:∀k,(∀y0 y1 y2 y3,LeO (spec_SidesFor.j0 k y0 y1 y2 y3) (spec_SidesFor.j0 (k+1) y0 y1 y2 y3))∧(∀y0 y1 y2 y3,LeO (spec_SidesFor.l0 k y0 y1 y2 y3) (spec_SidesFor.l0 (k+1) y0 y1 y2 y3))
 |0=>⟨fun _ _ _ _ r h=>by simp[spec_SidesFor.j0]at h,fun _ _ _ _ r h=>by simp[spec_SidesFor.l0]at h⟩
 |k+1=>by
  obtain⟨ih0,ih1⟩:=spec_SidesFor.mono_l k
  refine⟨?_,?_⟩
  ·intros
   unfold spec_SidesFor.j0
   exact mo
  ·intros
   unfold spec_SidesFor.l0
   exact mo
theorem spec_SidesFor.mono:∀a0 a1 k,LeO (spec_SidesFor.f k a0 a1) (spec_SidesFor.f (k+1) a0 a1):=by
 intro a0 a1 k
 obtain⟨ih0,ih1⟩:=spec_SidesFor.mono_l k
 unfold spec_SidesFor.f
 exact mo
theorem spec_SidesFor.W1 {p:Prop} (h:p:=by
    go_wp2_with (first|(go_at_call 60;(with_reducible refine(spec_l01In.calls a0 1 64 true _ A1.out).mono ?_);rintro e w' ⟨rfl,⟨nd,rfl⟩⟩;(try exact dD))|(go_at_call 60;(with_reducible refine(spec_l01In.calls a0 1 64 false _ A1.out).mono ?_);rintro e w' ⟨rfl,⟨nd,rfl⟩⟩;(try exact dD)))
    first
      | (repeat (go_quiet (first | (go_at_call 60; (with_reducible refine (spec_l01In.calls a0 1 64 true _ A1.out).mono ?_); rintro e w' ⟨rfl, ⟨nd, rfl⟩⟩; (try exact dD))); try go_wp2_with (first | (go_at_call 60; (with_reducible refine (spec_l01In.calls a0 1 64 true _ A1.out).mono ?_); rintro e w' ⟨rfl, ⟨nd, rfl⟩⟩; (try exact dD))))
         go_meet
         case rel=>exact⟨_,(false),rS,H',⟨oL⟩,⟨fS HO1.out⟩,⟨uB⟩⟩)
      | (repeat (go_quiet (first | (go_at_call 60; (with_reducible refine (spec_l01In.calls a0 1 64 true _ A1.out).mono ?_); rintro e w' ⟨rfl, ⟨nd, rfl⟩⟩; (try exact dD))); try go_wp2_with (first | (go_at_call 60; (with_reducible refine (spec_l01In.calls a0 1 64 true _ A1.out).mono ?_); rintro e w' ⟨rfl, ⟨nd, rfl⟩⟩; (try exact dD))))
         go_meet
         case rel=>exact⟨_,((a1 !=16)),rS,H',⟨oL⟩,⟨fS HO1.out⟩,⟨uB⟩⟩)
      | (repeat (go_quiet (first | (go_at_call 60; (with_reducible refine (spec_l01In.calls a0 1 64 false _ A1.out).mono ?_); rintro e w' ⟨rfl, ⟨nd, rfl⟩⟩; (try exact dD))); try go_wp2_with (first | (go_at_call 60; (with_reducible refine (spec_l01In.calls a0 1 64 false _ A1.out).mono ?_); rintro e w' ⟨rfl, ⟨nd, rfl⟩⟩; (try exact dD))))
         go_meet
         case rel=>exact⟨_,(true),rS,H',⟨oL⟩,⟨fS HO1.out⟩,⟨uB⟩⟩)):p:=h
theorem spec_SidesFor.W2 {p:Prop} (h:p:=by
 go_wp2
 repeat(go_quiet (fail);try go_wp2)
 go_ret
 exact⟨_,rE,fS HO_1.out,uB⟩):p:=h
theorem spec_SidesFor.calls (k:Nat) (a0:Int) (a1:Int) (r:List (List Int)) (w:World) (h:spec_SidesFor.f k a0 a1=some r):
 Calls prog 124 #[V I a0,V I a1] w fun e w'=>∃v0_:Value,e=.returned (v0_)∧Kd.S (Kd.slice 3 (Kd.int .i64)) 27 w' w.heap.size (fun _=>True) v0_ r∧Below w.heap.size w w':=by
 have HB:=C (Below.refl w.heap.size w)
 have H:=h
 unfold spec_SidesFor.f at H
 clear h
 obtain⟨y1,hy1⟩:∃y_:List (List Int),y_=(([]:List (List Int))):=⟨_,rfl⟩
 replace H:((spec_l01In.f a0 1 64).bind fun t1=>(if t1=true then(if a1=1 then(spec_SidesFor.j0 k a0 a1 y1 false) else(if a1=2 then(spec_SidesFor.j0 k a0 a1 y1 false) else(if a1=4 then(spec_SidesFor.j0 k a0 a1 y1 false) else(if a1=8 then(spec_SidesFor.j0 k a0 a1 y1 false) else(spec_SidesFor.j0 k a0 a1 y1 (a1 !=16)))))) else(spec_SidesFor.j0 k a0 a1 y1 true)))=some r:=gy hy1 H
 have Ny1:=C hy1
 clear hy1
 have HC1:=C H
 clear H
 go_enter func124,ntmps124
 go_upto_region 2 with(first|((with_reducible refine J (N:=8) rfl ?_);refine Kd.S_lit (Kd.slice 3 (Kd.int .i64)) _ 27 ?hg (N:=8) ?hd (xs:=([]:List (List Int))) (inner:= []) (ok:=fun _=>True) (okp:=fun _=>True) ?hr ?hp (fun _ hk=>hk) trivial (Below.refl _ _) (Nat.le_refl _) (by simp) ?_;(case hd=>rfl);(case hg=>rfl);(case hr=>exact Fix.hr);(case hp=>exact(Reps.none _ _));intro v1 w2 ho1 hb hg_ hnew_;clear hg_ hnew_;(first|rw[←Ny1.out]at ho1|(simp only[Int.reduceToNat]at ho1;rw[←Ny1.out]at ho1));have HO1:=C (Kd.S_lower ho1 (below_size uB));replace HB:=eB hb;clear hb ho1))
 repeat(go_quiet (fail);go_upto_region 2 with(first|((with_reducible refine J (N:=8) rfl ?_);refine Kd.S_lit (Kd.slice 3 (Kd.int .i64)) _ 27 ?hg (N:=8) ?hd (xs:=([]:List (List Int))) (inner:= []) (ok:=fun _=>True) (okp:=fun _=>True) ?hr ?hp (fun _ hk=>hk) trivial (Below.refl _ _) (Nat.le_refl _) (by simp) ?_;(case hd=>rfl);(case hg=>rfl);(case hr=>exact Fix.hr);(case hp=>exact(Reps.none _ _));intro v1 w2 ho1 hb hg_ hnew_;clear hg_ hnew_;(first|rw[←Ny1.out]at ho1|(simp only[Int.reduceToNat]at ho1;rw[←Ny1.out]at ho1));have HO1:=C (Kd.S_lower ho1 (below_size uB));replace HB:=eB hb;clear hb ho1)))
 (try simp only[Act.put,List.setIfInBounds_toArray,List.set_cons_zero,List.set_cons_succ])
 go_cut [31] (fun v31 wc=>∃(kq:Nat) (x1_2:Bool),v31=O x1_2∧D (spec_SidesFor.j0 kq a0 a1 y1 x1_2=some r)∧D (kq≤k)∧D (Kd.S (Kd.slice 3 (Kd.int .i64)) 27 wc w.heap.size (fun _=>True) v1 y1)∧D (Below w.heap.size w wc))
 case first=>
  have H:=HC1.out
  clear HC1
  obtain⟨t1,A1,H⟩:=bnd H
  by_cases c1:t1=true
  rotate_left
  ·obtain rfl:=nt c1
   replace H:=nf H
   have H':=C H
   clear H
   exact spec_SidesFor.W1
  subst c1
  rw[if_pos rfl]at H
  by_cases c2:a1=1
  ·rw[if_pos c2]at H
   have c2b0:(a1==1)=true:=beq_iff_eq.mpr c2
   have c2b1:(a1 !=1)=false:=bne_eq_false_iff_eq.mpr c2
   clear c2
   (first|rw[c2b0]|(simp only[i64_w,i32_w];rw[c2b0])|skip)
   have H':=C H
   clear H
   exact spec_SidesFor.W1
  rw[if_neg c2]at H
  have c2b0:(a1==1)=false:=beq_eq_false_iff_ne.mpr c2
  have c2b1:(a1 !=1)=true:=bne_iff_ne.mpr c2
  (first|rw[c2b0]|(simp only[i64_w,i32_w];rw[c2b0])|skip)
  by_cases c3:a1=2
  ·rw[if_pos c3]at H
   have c3b0:(a1==2)=true:=beq_iff_eq.mpr c3
   have c3b1:(a1 !=2)=false:=bne_eq_false_iff_eq.mpr c3
   clear c3
   have H':=C H
   clear H
   exact spec_SidesFor.W1
  rw[if_neg c3]at H
  have c3b0:(a1==2)=false:=beq_eq_false_iff_ne.mpr c3
  have c3b1:(a1 !=2)=true:=bne_iff_ne.mpr c3
  by_cases c4:a1=4
  ·rw[if_pos c4]at H
   have c4b0:(a1==4)=true:=beq_iff_eq.mpr c4
   have c4b1:(a1 !=4)=false:=bne_eq_false_iff_eq.mpr c4
   clear c4
   have H':=C H
   clear H
   exact spec_SidesFor.W1
  rw[if_neg c4]at H
  have c4b0:(a1==4)=false:=beq_eq_false_iff_ne.mpr c4
  have c4b1:(a1 !=4)=true:=bne_iff_ne.mpr c4
  by_cases c5:a1=8
  rotate_left
  ·rw[if_neg c5]at H
   have c5b0:(a1==8)=false:=beq_eq_false_iff_ne.mpr c5
   have c5b1:(a1 !=8)=true:=bne_iff_ne.mpr c5
   have H':=C H
   clear H
   exact spec_SidesFor.W1
  rw[if_pos c5]at H
  have c5b0:(a1==8)=true:=beq_iff_eq.mpr c5
  have c5b1:(a1 !=8)=false:=bne_eq_false_iff_eq.mpr c5
  clear c5
  have H':=C H
  clear H
  exact spec_SidesFor.W1
 case rest=>
  clear HC1
  obtain⟨kq,x1_2,rfl,HA,HJ1,HO_1,HB⟩:=hcut
  cases kq with
  |zero=>exact absurd HA.out (by simp[spec_SidesFor.j0])
  |succ kj2=>
   have H:=HA.out
   clear HA
   simp only[spec_SidesFor.j0]at H
   by_cases c1:x1_2=true
   ·subst c1
    rw[if_pos rfl]at H
    obtain rfl:=si H
    exact spec_SidesFor.W2
   obtain rfl:=nt c1
   replace H:=nf H
   have H':=C H
   clear H
   go_wp2
   repeat(go_quiet (fail);try go_wp2)
   go_loopg [5,6] kj2 (fun kq v5 v6 w'=>∃(x2_2:List (List Int)) (x3_2:Int),v6=V I x3_2∧D (spec_SidesFor.l0 kq a0 a1 x2_2 x3_2=some r)∧D (kq≤kj2)∧D (Kd.S (Kd.slice 3 (Kd.int .i64)) 27 w' w.heap.size (fun _=>True) v5 x2_2)∧D (Below w.heap.size w w'))
   case atStart=>exact⟨(y1),(1),rS,H',⟨Nat.le_refl _⟩,⟨fS HO_1.out⟩,⟨uB⟩⟩
   case round=>
    clear H'
    obtain⟨x2_2,x3_2,rfl,HA,HK1,HO_1,HB⟩:=hrel
    cases gk with
    |zero=>exact absurd HA.out (by simp[spec_SidesFor.l0])
    |succ k2=>
     have H:=HA.out
     clear HA
     simp only[spec_SidesFor.l0]at H
     by_cases c2:x3_2≤a0
     rotate_left
     ·rw[if_neg c2]at H
      have c2b0:decide (x3_2≤a0)=false:=decide_eq_false c2
      clear c2
      obtain rfl:=si H
      exact spec_SidesFor.W2
     rw[if_pos c2]at H
     have c2b0:decide (x3_2≤a0)=true:=decide_eq_true c2
     clear c2
     by_cases c3:a1=0
     ·rw[if_pos c3]at H
      exact absurd H (by simp)
     rw[if_neg c3]at H
     have c3b0:(a1==0)=false:=beq_eq_false_iff_ne.mpr c3
     have c3b1:(a1 !=0)=true:=bne_iff_ne.mpr c3
     by_cases c4:(Int.tmod x3_2 a1)=((1:Int) % a1)
     rotate_left
     ·rw[if_neg c4]at H
      have c4b0:((Int.tmod x3_2 a1)==((1:Int) % a1))=false:=beq_eq_false_iff_ne.mpr c4
      have c4b1:((Int.tmod x3_2 a1) !=((1:Int) % a1))=true:=bne_iff_ne.mpr c4
      obtain⟨ji1,hji1⟩:∃j_:Int,(wrap64 ((x2_2.length:Int) - 1))=j_:=⟨_,rfl⟩
      replace H:(if 0≤(ji1) then(if(ji1)<(x2_2.length:Int) then(if(rd_L3 x2_2 (ji1)).length<17592186044416 then(spec_SidesFor.l0 k2 a0 a1 (x2_2.set ((ji1):Int).toNat ((rd_L3 x2_2 (ji1))++ [x3_2])) (wrap64 (x3_2+1))) else(none)) else(none)) else(none))=some r:=by first|(rw[hji1]at H;exact H)|(simp only[hji1]at H ⊢;exact H)
      have hji1w:(IntKind.i64.wrap ((x2_2.length:Int) - 1))=ji1:=(i64_w _).trans hji1
      obtain⟨c5,H⟩:=np H
      replace c5:=decide_eq_true c5
      obtain⟨c6,H⟩:=np H
      replace c6:=decide_eq_true c6
      obtain⟨c7,H⟩:=np H
      have LMc1:=C c7
      clear c7
      obtain⟨y2,hy2⟩:∃y_:List Int,y_=((rd_L3 x2_2 (ji1))++ [x3_2]):=⟨_,rfl⟩
      replace H:(spec_SidesFor.l0 k2 a0 a1 (x2_2.set ((ji1):Int).toNat y2) (wrap64 (x3_2+1)))=some r:=gy hy2 H
      have Ny2:=C hy2
      clear hy2
      obtain⟨y3,hy3⟩:∃y_:List (List Int),y_=(x2_2.set ((ji1):Int).toNat y2):=⟨_,rfl⟩
      replace H:(spec_SidesFor.l0 k2 a0 a1 y3 (wrap64 (x3_2+1)))=some r:=gy hy3 H
      have Ny3:=C hy3
      clear hy3
      have H':=C H
      clear H
      obtain⟨Ao1,co1,eo1⟩:=Kd.S_slice HO_1.out
      subst eo1
      have p1:0≤((ji1):Int):=oT
      have q1:(ji1)<(x2_2.length:Int):=oT
      obtain⟨ad1,A1_0,c8_0,e1,hx1_0,hl1_0,hi1_0⟩:=at_L3 (Kd.S_reads' HO_1.out).2.2 (ji1) p1 q1
      cases e1
      obtain⟨ce1,hce1,hMe1,hcc1⟩:=Kd.S_get HO_1.out [] (ji1) p1 (by first|exact q1|exact oT|(have e_:=(Kd.S_reads' HO_1.out).1;omega))
      obtain⟨ve1_0,rfl,ge1_0⟩:=hMe1
      have hv1_0:=hcc1 0 _ rfl
      rw[Nat.add_zero,show((Kd.slice 3 (Kd.int .i64))).sz=1 from rfl,Nat.mul_one]at hv1_0
      replace hv1_0:=Option.some.inj (hv1_0.symm.trans hx1_0)
      rw[hv1_0]at ge1_0
      have HL1_0:=C (show Kd.R (Kd.int .i64) 3 _ _ _ _ (rd_L3 x2_2 (ji1)) from ge1_0)
      clear hv1_0 ge1_0
      have HX1_0:=C hx1_0
      (try clear hcc1);(try clear hce1)
      have HR1_0:=C hi1_0
      have HC2_0:=C hl1_0
      clear hi1_0 hl1_0
      replace p1:=eq_true p1
      replace q1:=eq_true q1
      obtain⟨go1,co2,eo2,gb1,gl1,cl1,HG1⟩:=Kd.S_form HO_1.out (by have h_:((ji1):Int)<((x2_2.length:Int):Int):=oT;have h1_:0≤((ji1):Int):=oT;omega)
      (first|cases eo2|(injection eo2 with ea_ en_ ec_;(first|subst ea_|(injection ea_ with ea_;subst ea_));subst ec_;clear en_))
      have GB1:=C gb1
      have GG1:=C HG1
      clear gb1 gl1 HG1
      (first|simp only[add_plain]at hx1_0|skip)
      obtain⟨oki1,ce2,hcl1,hM1,hcc2,_,_,hH1⟩:=Kd.S_elem HO_1.out [] ((ji1):Int) oT (by have h_:((ji1):Int)<((x2_2.length:Int):Int):=oT;first|exact h_|(have e_:=(Kd.S_reads' HO_1.out).1;omega)|simpa using h_)
      obtain⟨ve2_0,rfl,ge2_0⟩:=hM1
      have hv2:=hcc2 0 _ rfl
      have hX1:=HX1_0.out
      (try simp only[add_plain]at hX1)
      (try simp only[Nat.add_zero]at hv2)
      (try rw[show((Kd.slice 3 (Kd.int .i64))).sz=1 from rfl,Nat.mul_one]at hv2)
      replace hv2:=Option.some.inj (hv2.symm.trans hX1)
      subst hv2
      (try clear hX1);(try clear hcc2);(try clear hcl1)
      have UU1:=C (show Kd.R (Kd.int .i64) 3 _ w.heap.size oki1 (L A1_0 (rd_L3 x2_2 (ji1)).length c8_0) (rd_L3 x2_2 (ji1)) from ge2_0)
      have HH1:=C hH1
      have HN1:=C (Kd.S_reads' HO_1.out).1
      clear hH1 ge2_0
      go_wp2_with (first|((with_reducible refine gate_builtin (b:=.append) (xs:= #[.tmp 56,.tmp 58]) rfl ?_);at_builtin;refine Kd.R_append (Kd.int .i64) (w0:=w) w.heap.size rfl (.tmp 56) (.tmp 58) 27 3 (V I 0) 8 rfl underlying27 info3 rfl (by decide) (by omega) (L A1_0 (rd_L3 x2_2 (ji1)).length c8_0) (rd_L3 x2_2 (ji1)) x3_2 [V I x3_2] (fun k_=>oki1 k_∨((fun _=>True)) k_∧wr.heap.size≤k_) (fun _=>False) rfl rfl ?aP (fun _ hk=>hk.elim) ?aF ?aO ?aB ?aS ?aL ?_;(case aP=>exact rfl);(case aB=>exact uB);(case aF=>exact(fun k_ hk=>.inr ⟨trivial,hk⟩));(case aO=>exact(X (fR UU1.out) (fun _ hk=>.inl hk)));(case aS=>exact(below_size uB));(case aL=>have:=LMc1.out;omega);intro v2 w3 ho hb hg hat;rw[←Ny2.out]at ho;have HO2:=C (ho);replace HB:=C (hb);replace HH1:=C (Kd.H_grown (Kd.H_widen (by repeat(first|exact HH1.out|refine Kd.H_alloc ?_ _|refine Kd.H_drewN ?_ _|refine Kd.H_drew ?_))) hg (fun k_ e_=>.inl (UU1.out.1 k_ e_)));clear HO_1;clear UU1;clear HL1_0;clear ho hb hg hat;have p2:0≤((ji1):Int):=oT;have q2:((ji1):Int)<((x2_2.length:Int):Int):=oT;replace p2:=eq_true p2;replace q2:=eq_true q2;obtain⟨Ao2,co3,rfl⟩:=U HO2.out;obtain⟨_,_,hraw1,_,_,hcc3,_⟩:=Kd.H_raw HH1.out oT (by have h_:((ji1):Int)<((x2_2.length:Int):Int):=oT;first|exact h_|(have e_:=(HN1.out);omega)|simpa using h_);obtain⟨_,hfr1⟩:=Kd.H_at HH1.out oT (by have h_:((ji1):Int)<((x2_2.length:Int):Int):=oT;first|exact h_|(have e_:=(HN1.out);omega)|simpa using h_);have hx2_0:=hcc3 0 _ rfl;have hf1_0:=hfr1 0;(try simp only[Nat.add_zero]at hx2_0 hf1_0);(try rw[show((Kd.slice 3 (Kd.int .i64))).sz=1 from rfl,Nat.mul_one]at hx2_0);(try rw[show((Kd.slice 3 (Kd.int .i64))).sz=1 from rfl,Nat.mul_one]at hf1_0);have HP1:=Kd.S_seg0 HH1.out oT (by have h_:((ji1):Int)<((x2_2.length:Int):Int):=oT;first|exact h_|(have e_:=(HN1.out);omega)|simpa using h_) (seg:= [L Ao2 y2.length co3]) (j:=0) (show 1≤1 from by decide) (x':=y2) (Kd.M_row HO2.out) (fun _ hk=>hk);(try simp only[show((Kd.slice 3 (Kd.int .i64))).sz=1 from rfl,Nat.mul_one,Nat.add_zero]at HP1);(try clear hcc3);(try clear hfr1))|((with_reducible refine gate_store (t:=27) (p:=60) rfl ?_);(try(rw[drewN_self w3];generalize hq_:World.drewN w3 _=w3;have n0_:=C (Kd.S_at hq_ HO_1.out);have n1_:=C (below_at hq_ HB.out);clear hq_ HO_1 HB;have HO_1:=n0_;have HB:=n1_;clear n0_ n1_;(try(obtain⟨Ao2,co3,eo3⟩:=U HO2.out));(try(subst eo3));(try(obtain⟨_,_,hraw1,_,_,hcc3,_⟩:=Kd.H_raw HH1.out oT (by have h_:((ji1):Int)<((x2_2.length:Int):Int):=oT;first|exact h_|(have e_:=(HN1.out);omega)|simpa using h_)));(try(obtain⟨_,hfr1⟩:=Kd.H_at HH1.out oT (by have h_:((ji1):Int)<((x2_2.length:Int):Int):=oT;first|exact h_|(have e_:=(HN1.out);omega)|simpa using h_)));(try(have hx2_0:=hcc3 0 _ rfl));(try(have hf1_0:=hfr1 0));(try(try simp only[Nat.add_zero]at hx2_0 hf1_0));(try(try rw[show((Kd.slice 3 (Kd.int .i64))).sz=1 from rfl,Nat.mul_one]at hx2_0));(try(try rw[show((Kd.slice 3 (Kd.int .i64))).sz=1 from rfl,Nat.mul_one]at hf1_0));(try(have HP1:=Kd.S_seg0 HH1.out oT (by have h_:((ji1):Int)<((x2_2.length:Int):Int):=oT;first|exact h_|(have e_:=(HN1.out);omega)|simpa using h_) (seg:= [L Ao2 y2.length co3]) (j:=0) (show 1≤1 from by decide) (x':=y2) (Kd.M_row HO2.out) (fun _ hk=>hk)));(try(try simp only[show((Kd.slice 3 (Kd.int .i64))).sz=1 from rfl,Nat.mul_one,Nat.add_zero]at HP1));(try(try clear hcc3);(try clear hfr1))));refine store_event (t:=27) (p:=60) (v:= ?vo_w1) (w1:=(w3.setCell ⟨go1,((ji1):Int).toNat,none⟩ (L Ao2 y2.length co3))) ?hg ?ho ?hn ?hr ?_;(case ho=>rfl);(case hg=>rfl);(case hn=>rfl);(case hr=>exact Fix.hr);intro w4 hw;have hg:w3.grownBy w4 (some go1):=(by rw[hw];exact HP1.2);have hp_:Kd.S (Kd.slice 3 (Kd.int .i64)) 27 w4 w.heap.size (fun _=>True) (L (some ⟨go1,0,none⟩) x2_2.length co1) y3:=(by rw[hw,Ny3.out];exact HP1.1);clear HP1;have HO_1:=C (hp_);replace HB:=C ((by rw[hw];exact below_set HB.out GB1.out:Below w.heap.size w w4));clear HO2;clear HH1;clear hg hw hp_ hraw1))
      repeat(go_quiet (fail);try go_wp2_with (first|((with_reducible refine gate_builtin (b:=.append) (xs:= #[.tmp 56,.tmp 58]) rfl ?_);at_builtin;refine Kd.R_append (Kd.int .i64) (w0:=w) w.heap.size rfl (.tmp 56) (.tmp 58) 27 3 (V I 0) 8 rfl underlying27 info3 rfl (by decide) (by omega) (L A1_0 (rd_L3 x2_2 (ji1)).length c8_0) (rd_L3 x2_2 (ji1)) x3_2 [V I x3_2] (fun k_=>oki1 k_∨((fun _=>True)) k_∧wr.heap.size≤k_) (fun _=>False) rfl rfl ?aP (fun _ hk=>hk.elim) ?aF ?aO ?aB ?aS ?aL ?_;(case aP=>exact rfl);(case aB=>exact uB);(case aF=>exact(fun k_ hk=>.inr ⟨trivial,hk⟩));(case aO=>exact(X (fR UU1.out) (fun _ hk=>.inl hk)));(case aS=>exact(below_size uB));(case aL=>have:=LMc1.out;omega);intro v2 w3 ho hb hg hat;rw[←Ny2.out]at ho;have HO2:=C (ho);replace HB:=C (hb);replace HH1:=C (Kd.H_grown (Kd.H_widen (by repeat(first|exact HH1.out|refine Kd.H_alloc ?_ _|refine Kd.H_drewN ?_ _|refine Kd.H_drew ?_))) hg (fun k_ e_=>.inl (UU1.out.1 k_ e_)));clear HO_1;clear UU1;clear HL1_0;clear ho hb hg hat;have p2:0≤((ji1):Int):=oT;have q2:((ji1):Int)<((x2_2.length:Int):Int):=oT;replace p2:=eq_true p2;replace q2:=eq_true q2;obtain⟨Ao2,co3,rfl⟩:=U HO2.out;obtain⟨_,_,hraw1,_,_,hcc3,_⟩:=Kd.H_raw HH1.out oT (by have h_:((ji1):Int)<((x2_2.length:Int):Int):=oT;first|exact h_|(have e_:=(HN1.out);omega)|simpa using h_);obtain⟨_,hfr1⟩:=Kd.H_at HH1.out oT (by have h_:((ji1):Int)<((x2_2.length:Int):Int):=oT;first|exact h_|(have e_:=(HN1.out);omega)|simpa using h_);have hx2_0:=hcc3 0 _ rfl;have hf1_0:=hfr1 0;(try simp only[Nat.add_zero]at hx2_0 hf1_0);(try rw[show((Kd.slice 3 (Kd.int .i64))).sz=1 from rfl,Nat.mul_one]at hx2_0);(try rw[show((Kd.slice 3 (Kd.int .i64))).sz=1 from rfl,Nat.mul_one]at hf1_0);have HP1:=Kd.S_seg0 HH1.out oT (by have h_:((ji1):Int)<((x2_2.length:Int):Int):=oT;first|exact h_|(have e_:=(HN1.out);omega)|simpa using h_) (seg:= [L Ao2 y2.length co3]) (j:=0) (show 1≤1 from by decide) (x':=y2) (Kd.M_row HO2.out) (fun _ hk=>hk);(try simp only[show((Kd.slice 3 (Kd.int .i64))).sz=1 from rfl,Nat.mul_one,Nat.add_zero]at HP1);(try clear hcc3);(try clear hfr1))|((with_reducible refine gate_store (t:=27) (p:=60) rfl ?_);(try(rw[drewN_self w3];generalize hq_:World.drewN w3 _=w3;have n0_:=C (Kd.S_at hq_ HO_1.out);have n1_:=C (below_at hq_ HB.out);clear hq_ HO_1 HB;have HO_1:=n0_;have HB:=n1_;clear n0_ n1_;(try(obtain⟨Ao2,co3,eo3⟩:=U HO2.out));(try(subst eo3));(try(obtain⟨_,_,hraw1,_,_,hcc3,_⟩:=Kd.H_raw HH1.out oT (by have h_:((ji1):Int)<((x2_2.length:Int):Int):=oT;first|exact h_|(have e_:=(HN1.out);omega)|simpa using h_)));(try(obtain⟨_,hfr1⟩:=Kd.H_at HH1.out oT (by have h_:((ji1):Int)<((x2_2.length:Int):Int):=oT;first|exact h_|(have e_:=(HN1.out);omega)|simpa using h_)));(try(have hx2_0:=hcc3 0 _ rfl));(try(have hf1_0:=hfr1 0));(try(try simp only[Nat.add_zero]at hx2_0 hf1_0));(try(try rw[show((Kd.slice 3 (Kd.int .i64))).sz=1 from rfl,Nat.mul_one]at hx2_0));(try(try rw[show((Kd.slice 3 (Kd.int .i64))).sz=1 from rfl,Nat.mul_one]at hf1_0));(try(have HP1:=Kd.S_seg0 HH1.out oT (by have h_:((ji1):Int)<((x2_2.length:Int):Int):=oT;first|exact h_|(have e_:=(HN1.out);omega)|simpa using h_) (seg:= [L Ao2 y2.length co3]) (j:=0) (show 1≤1 from by decide) (x':=y2) (Kd.M_row HO2.out) (fun _ hk=>hk)));(try(try simp only[show((Kd.slice 3 (Kd.int .i64))).sz=1 from rfl,Nat.mul_one,Nat.add_zero]at HP1));(try(try clear hcc3);(try clear hfr1))));refine store_event (t:=27) (p:=60) (v:= ?vo_w1) (w1:=(w3.setCell ⟨go1,((ji1):Int).toNat,none⟩ (L Ao2 y2.length co3))) ?hg ?ho ?hn ?hr ?_;(case ho=>rfl);(case hg=>rfl);(case hn=>rfl);(case hr=>exact Fix.hr);intro w4 hw;have hg:w3.grownBy w4 (some go1):=(by rw[hw];exact HP1.2);have hp_:Kd.S (Kd.slice 3 (Kd.int .i64)) 27 w4 w.heap.size (fun _=>True) (L (some ⟨go1,0,none⟩) x2_2.length co1) y3:=(by rw[hw,Ny3.out];exact HP1.1);clear HP1;have HO_1:=C (hp_);replace HB:=C ((by rw[hw];exact below_set HB.out GB1.out:Below w.heap.size w w4));clear HO2;clear HH1;clear hg hw hp_ hraw1)))
      go_roundg k2
      case measure=>have:=HJ1.out;have:=HK1.out;omega
      case rel=>exact⟨(y3),(wrap64 (x3_2+1)),rS,H',⟨by have:=HJ1.out;have:=HK1.out;omega⟩,⟨fS HO_1.out⟩,⟨uB⟩⟩
     rw[if_pos c4]at H
     have c4b0:((Int.tmod x3_2 a1)==((1:Int) % a1))=true:=beq_iff_eq.mpr c4
     have c4b1:((Int.tmod x3_2 a1) !=((1:Int) % a1))=false:=bne_eq_false_iff_eq.mpr c4
     clear c4
     obtain⟨y2,hy2⟩:∃y_:List Int,y_=(([]:List Int)):=⟨_,rfl⟩
     replace H:(if x2_2.length<5864062014805 then((some (x2_2++ [y2]:List (List Int))).bind fun y3=>(if 0≤(wrap64 ((y3.length:Int) - 1)) then(if(wrap64 ((y3.length:Int) - 1))<(y3.length:Int) then(if(rd_L3 y3 (wrap64 ((y3.length:Int) - 1))).length<17592186044416 then(spec_SidesFor.l0 k2 a0 a1 (y3.set ((wrap64 ((y3.length:Int) - 1)):Int).toNat ((rd_L3 y3 (wrap64 ((y3.length:Int) - 1)))++ [x3_2])) (wrap64 (x3_2+1))) else(none)) else(none)) else(none))) else(none))=some r:=gy hy2 H
     have Ny2:=C hy2
     clear hy2
     obtain⟨c5,H⟩:=np H
     have LMc1:=C c5
     clear c5
     obtain⟨y3,hy3⟩:∃y_:List (List Int),y_=(x2_2++ [y2]):=⟨_,rfl⟩
     replace H:(if 0≤(wrap64 ((y3.length:Int) - 1)) then(if(wrap64 ((y3.length:Int) - 1))<(y3.length:Int) then(if(rd_L3 y3 (wrap64 ((y3.length:Int) - 1))).length<17592186044416 then(spec_SidesFor.l0 k2 a0 a1 (y3.set ((wrap64 ((y3.length:Int) - 1)):Int).toNat ((rd_L3 y3 (wrap64 ((y3.length:Int) - 1)))++ [x3_2])) (wrap64 (x3_2+1))) else(none)) else(none)) else(none))=some r:=gy hy3 H
     have Ny3:=C hy3
     clear hy3
     obtain⟨ji1,hji1⟩:∃j_:Int,(wrap64 ((y3.length:Int) - 1))=j_:=⟨_,rfl⟩
     replace H:(if 0≤(ji1) then(if(ji1)<(y3.length:Int) then(if(rd_L3 y3 (ji1)).length<17592186044416 then(spec_SidesFor.l0 k2 a0 a1 (y3.set ((ji1):Int).toNat ((rd_L3 y3 (ji1))++ [x3_2])) (wrap64 (x3_2+1))) else(none)) else(none)) else(none))=some r:=by first|(rw[hji1]at H;exact H)|(simp only[hji1]at H ⊢;exact H)
     have hji1w:(IntKind.i64.wrap ((y3.length:Int) - 1))=ji1:=(i64_w _).trans hji1
     obtain⟨c6,H⟩:=np H
     replace c6:=decide_eq_true c6
     obtain⟨c7,H⟩:=np H
     replace c7:=decide_eq_true c7
     obtain⟨c8,H⟩:=np H
     have LMc2:=C c8
     clear c8
     obtain⟨y4,hy4⟩:∃y_:List Int,y_=((rd_L3 y3 (ji1))++ [x3_2]):=⟨_,rfl⟩
     replace H:(spec_SidesFor.l0 k2 a0 a1 (y3.set ((ji1):Int).toNat y4) (wrap64 (x3_2+1)))=some r:=gy hy4 H
     have Ny4:=C hy4
     clear hy4
     obtain⟨y5,hy5⟩:∃y_:List (List Int),y_=(y3.set ((ji1):Int).toNat y4):=⟨_,rfl⟩
     replace H:(spec_SidesFor.l0 k2 a0 a1 y5 (wrap64 (x3_2+1)))=some r:=gy hy5 H
     have Ny5:=C hy5
     clear hy5
     have H':=C H
     clear H
     go_wp2_with (first|((with_reducible refine J (N:=45) rfl ?_);refine Kd.R_lit (Kd.int .i64) _ 3 ?hg (N:=45) ?hd (xs:=([]:List Int)) (inner:= []) (ok:=fun _=>True) (okp:=fun _=>True) ?hr ?hp (fun _ hk=>hk) trivial (Below.refl _ _) (Nat.le_refl _) (by simp) ?_;(case hd=>rfl);(case hg=>rfl);(case hr=>exact Fix.hr);(case hp=>exact(Reps.none _ _));intro v2 w3 ho2 hb hg_ hnew_;clear hg_ hnew_;(first|rw[←Ny2.out]at ho2|(simp only[Int.reduceToNat]at ho2;rw[←Ny2.out]at ho2));have HO2:=lR ho2;replace HO_1:=C (Kd.S_elder' (uS HO_1.out) (Kd.R_base ho2) hb);replace HB:=eB hb;clear hb ho2;obtain⟨Ao1,co1,rfl⟩:=U HO2.out)|((with_reducible refine gate_builtin (b:=.append) (xs:= #[.tmp 44,.tmp 46]) rfl ?_);at_builtin;refine Kd.S_append (Kd.slice 3 (Kd.int .i64)) (w0:=w) w.heap.size rfl (.tmp 44) (.tmp 46) 120 27 (L none 0 0) 24 rfl underlying120 info27 rfl (by decide) (by omega) u5 x2_2 y2 [L Ao1 y2.length co1] (fun _=>True) (fun k_=>some k_=(L Ao1 y2.length co1:Value).ownBlock) rfl rfl ?aP (fun k_ hk_=>((X (ok':=fun k_=>((fun _=>True)) k_∧qm k_ u5) (Kd.R_apart' (HO2.out) (Kd.S_typed HO_1.out) (by decide)) (fun k_ hk=>⟨trivial,hk.2⟩))).1 k_ hk_.symm) ?aF ?aO ?aB ?aS ?aL ?_;(case aP=>exact Kd.M_row (X (Kd.R_tight rfl (X (ok':=fun k_=>((fun _=>True)) k_∧qm k_ u5) (Kd.R_apart' (HO2.out) (Kd.S_typed HO_1.out) (by decide)) (fun k_ hk=>⟨trivial,hk.2⟩))) (fun _ h_=>h_)));(case aB=>exact uB);(case aF=>exact(fun _ _=>trivial));(case aO=>exact(Kd.S_mono (fS HO_1.out) (fun k_ hk=>⟨trivial,fun e_=>hk.2 e_⟩)));(case aS=>exact(below_size uB));(case aL=>have:=LMc1.out;omega);intro v3 w4 ho hb hg hat;rw[←Ny3.out]at ho;have HO3:=C (ho);replace HB:=C (hb);clear HO_1;clear HO2;clear ho hb hg hat;obtain⟨Ao2,co2,eo2⟩:=Kd.S_slice HO3.out;subst eo2;have p1:0≤((ji1):Int):=oT;have q1:(ji1)<(y3.length:Int):=oT;obtain⟨ad1,A1_0,c9_0,e1,hx1_0,hl1_0,hi1_0⟩:=at_L3 (Kd.S_reads' HO3.out).2.2 (ji1) p1 q1;cases e1;obtain⟨ce1,hce1,hMe1,hcc1⟩:=Kd.S_get HO3.out [] (ji1) p1 (by first|exact q1|exact oT|(have e_:=(Kd.S_reads' HO3.out).1;omega));obtain⟨ve1_0,rfl,ge1_0⟩:=hMe1;have hv1_0:=hcc1 0 _ rfl;rw[Nat.add_zero,show((Kd.slice 3 (Kd.int .i64))).sz=1 from rfl,Nat.mul_one]at hv1_0;replace hv1_0:=Option.some.inj (hv1_0.symm.trans hx1_0);rw[hv1_0]at ge1_0;have HL1_0:=C (show Kd.R (Kd.int .i64) 3 _ _ _ _ (rd_L3 y3 (ji1)) from ge1_0);clear hv1_0 ge1_0;have HX1_0:=C hx1_0;(try clear hcc1);(try clear hce1);have HR1_0:=C hi1_0;have HC2_0:=C hl1_0;clear hi1_0 hl1_0;replace p1:=eq_true p1;replace q1:=eq_true q1;obtain⟨go1,co3,eo3,gb1,gl1,cl1,HG1⟩:=Kd.S_form HO3.out (by have h_:((ji1):Int)<((y3.length:Int):Int):=oT;have h1_:0≤((ji1):Int):=oT;omega);(first|cases eo3|(injection eo3 with ea_ en_ ec_;(first|subst ea_|(injection ea_ with ea_;subst ea_));subst ec_;clear en_));have GB1:=C gb1;have GG1:=C HG1;clear gb1 gl1 HG1;(first|simp only[add_plain]at hx1_0|skip);obtain⟨oki1,ce2,hcl1,hM1,hcc2,_,_,hH1⟩:=Kd.S_elem HO3.out [] ((ji1):Int) oT (by have h_:((ji1):Int)<((y3.length:Int):Int):=oT;first|exact h_|(have e_:=(Kd.S_reads' HO3.out).1;omega)|simpa using h_);obtain⟨ve2_0,rfl,ge2_0⟩:=hM1;have hv2:=hcc2 0 _ rfl;have hX1:=HX1_0.out;(try simp only[add_plain]at hX1);(try simp only[Nat.add_zero]at hv2);(try rw[show((Kd.slice 3 (Kd.int .i64))).sz=1 from rfl,Nat.mul_one]at hv2);replace hv2:=Option.some.inj (hv2.symm.trans hX1);subst hv2;(try clear hX1);(try clear hcc2);(try clear hcl1);have UU1:=C (show Kd.R (Kd.int .i64) 3 _ w.heap.size oki1 (L A1_0 (rd_L3 y3 (ji1)).length c9_0) (rd_L3 y3 (ji1)) from ge2_0);have HH1:=C hH1;have HN1:=C (Kd.S_reads' HO3.out).1;clear hH1 ge2_0)|((with_reducible refine gate_builtin (b:=.append) (xs:= #[.tmp 56,.tmp 58]) rfl ?_);at_builtin;refine Kd.R_append (Kd.int .i64) (w0:=w) w.heap.size rfl (.tmp 56) (.tmp 58) 27 3 (V I 0) 8 rfl underlying27 info3 rfl (by decide) (by omega) (L A1_0 (rd_L3 y3 (ji1)).length c9_0) (rd_L3 y3 (ji1)) x3_2 [V I x3_2] (fun k_=>oki1 k_∨((fun _=>True)) k_∧w4.heap.size≤k_) (fun _=>False) rfl rfl ?aP (fun _ hk=>hk.elim) ?aF ?aO ?aB ?aS ?aL ?_;(case aP=>exact rfl);(case aB=>exact uB);(case aF=>exact(fun k_ hk=>.inr ⟨trivial,hk⟩));(case aO=>exact(X (fR UU1.out) (fun _ hk=>.inl hk)));(case aS=>exact(below_size uB));(case aL=>have:=LMc2.out;omega);intro v4 w5 ho hb hg hat;rw[←Ny4.out]at ho;have HO4:=C (ho);replace HB:=C (hb);replace HH1:=C (Kd.H_grown (Kd.H_widen (by repeat(first|exact HH1.out|refine Kd.H_alloc ?_ _|refine Kd.H_drewN ?_ _|refine Kd.H_drew ?_))) hg (fun k_ e_=>.inl (UU1.out.1 k_ e_)));clear HO3;clear UU1;clear HL1_0;clear ho hb hg hat;have p2:0≤((ji1):Int):=oT;have q2:((ji1):Int)<((y3.length:Int):Int):=oT;replace p2:=eq_true p2;replace q2:=eq_true q2;obtain⟨Ao3,co4,rfl⟩:=U HO4.out;obtain⟨_,_,hraw1,_,_,hcc3,_⟩:=Kd.H_raw HH1.out oT (by have h_:((ji1):Int)<((y3.length:Int):Int):=oT;first|exact h_|(have e_:=(HN1.out);omega)|simpa using h_);obtain⟨_,hfr1⟩:=Kd.H_at HH1.out oT (by have h_:((ji1):Int)<((y3.length:Int):Int):=oT;first|exact h_|(have e_:=(HN1.out);omega)|simpa using h_);have hx2_0:=hcc3 0 _ rfl;have hf1_0:=hfr1 0;(try simp only[Nat.add_zero]at hx2_0 hf1_0);(try rw[show((Kd.slice 3 (Kd.int .i64))).sz=1 from rfl,Nat.mul_one]at hx2_0);(try rw[show((Kd.slice 3 (Kd.int .i64))).sz=1 from rfl,Nat.mul_one]at hf1_0);have HP1:=Kd.S_seg0 HH1.out oT (by have h_:((ji1):Int)<((y3.length:Int):Int):=oT;first|exact h_|(have e_:=(HN1.out);omega)|simpa using h_) (seg:= [L Ao3 y4.length co4]) (j:=0) (show 1≤1 from by decide) (x':=y4) (Kd.M_row HO4.out) (fun _ hk=>hk);(try simp only[show((Kd.slice 3 (Kd.int .i64))).sz=1 from rfl,Nat.mul_one,Nat.add_zero]at HP1);(try clear hcc3);(try clear hfr1))|((with_reducible refine gate_store (t:=27) (p:=60) rfl ?_);(try(rw[drewN_self w5];generalize hq_:World.drewN w5 _=w5;have n0_:=C (Kd.S_at hq_ HO3.out);have n1_:=C (below_at hq_ HB.out);clear hq_ HO3 HB;have HO3:=n0_;have HB:=n1_;clear n0_ n1_;(try(obtain⟨Ao3,co4,eo4⟩:=U HO4.out));(try(subst eo4));(try(obtain⟨_,_,hraw1,_,_,hcc3,_⟩:=Kd.H_raw HH1.out oT (by have h_:((ji1):Int)<((y3.length:Int):Int):=oT;first|exact h_|(have e_:=(HN1.out);omega)|simpa using h_)));(try(obtain⟨_,hfr1⟩:=Kd.H_at HH1.out oT (by have h_:((ji1):Int)<((y3.length:Int):Int):=oT;first|exact h_|(have e_:=(HN1.out);omega)|simpa using h_)));(try(have hx2_0:=hcc3 0 _ rfl));(try(have hf1_0:=hfr1 0));(try(try simp only[Nat.add_zero]at hx2_0 hf1_0));(try(try rw[show((Kd.slice 3 (Kd.int .i64))).sz=1 from rfl,Nat.mul_one]at hx2_0));(try(try rw[show((Kd.slice 3 (Kd.int .i64))).sz=1 from rfl,Nat.mul_one]at hf1_0));(try(have HP1:=Kd.S_seg0 HH1.out oT (by have h_:((ji1):Int)<((y3.length:Int):Int):=oT;first|exact h_|(have e_:=(HN1.out);omega)|simpa using h_) (seg:= [L Ao3 y4.length co4]) (j:=0) (show 1≤1 from by decide) (x':=y4) (Kd.M_row HO4.out) (fun _ hk=>hk)));(try(try simp only[show((Kd.slice 3 (Kd.int .i64))).sz=1 from rfl,Nat.mul_one,Nat.add_zero]at HP1));(try(try clear hcc3);(try clear hfr1))));refine store_event (t:=27) (p:=60) (v:= ?vo_w1) (w1:=(w5.setCell ⟨go1,((ji1):Int).toNat,none⟩ (L Ao3 y4.length co4))) ?hg ?ho ?hn ?hr ?_;(case ho=>rfl);(case hg=>rfl);(case hn=>rfl);(case hr=>exact Fix.hr);intro w6 hw;have hg:w5.grownBy w6 (some go1):=(by rw[hw];exact HP1.2);have hp_:Kd.S (Kd.slice 3 (Kd.int .i64)) 27 w6 w.heap.size (fun _=>True) (L (some ⟨go1,0,none⟩) y3.length co2) y5:=(by rw[hw,Ny5.out];exact HP1.1);clear HP1;have HO3:=C (hp_);replace HB:=C ((by rw[hw];exact below_set HB.out GB1.out:Below w.heap.size w w6));clear HO4;clear HH1;clear hg hw hp_ hraw1))
     repeat(go_quiet (fail);try go_wp2_with (first|((with_reducible refine J (N:=45) rfl ?_);refine Kd.R_lit (Kd.int .i64) _ 3 ?hg (N:=45) ?hd (xs:=([]:List Int)) (inner:= []) (ok:=fun _=>True) (okp:=fun _=>True) ?hr ?hp (fun _ hk=>hk) trivial (Below.refl _ _) (Nat.le_refl _) (by simp) ?_;(case hd=>rfl);(case hg=>rfl);(case hr=>exact Fix.hr);(case hp=>exact(Reps.none _ _));intro v2 w3 ho2 hb hg_ hnew_;clear hg_ hnew_;(first|rw[←Ny2.out]at ho2|(simp only[Int.reduceToNat]at ho2;rw[←Ny2.out]at ho2));have HO2:=lR ho2;replace HO_1:=C (Kd.S_elder' (uS HO_1.out) (Kd.R_base ho2) hb);replace HB:=eB hb;clear hb ho2;obtain⟨Ao1,co1,rfl⟩:=U HO2.out)|((with_reducible refine gate_builtin (b:=.append) (xs:= #[.tmp 44,.tmp 46]) rfl ?_);at_builtin;refine Kd.S_append (Kd.slice 3 (Kd.int .i64)) (w0:=w) w.heap.size rfl (.tmp 44) (.tmp 46) 120 27 (L none 0 0) 24 rfl underlying120 info27 rfl (by decide) (by omega) u5 x2_2 y2 [L Ao1 y2.length co1] (fun _=>True) (fun k_=>some k_=(L Ao1 y2.length co1:Value).ownBlock) rfl rfl ?aP (fun k_ hk_=>((X (ok':=fun k_=>((fun _=>True)) k_∧qm k_ u5) (Kd.R_apart' (HO2.out) (Kd.S_typed HO_1.out) (by decide)) (fun k_ hk=>⟨trivial,hk.2⟩))).1 k_ hk_.symm) ?aF ?aO ?aB ?aS ?aL ?_;(case aP=>exact Kd.M_row (X (Kd.R_tight rfl (X (ok':=fun k_=>((fun _=>True)) k_∧qm k_ u5) (Kd.R_apart' (HO2.out) (Kd.S_typed HO_1.out) (by decide)) (fun k_ hk=>⟨trivial,hk.2⟩))) (fun _ h_=>h_)));(case aB=>exact uB);(case aF=>exact(fun _ _=>trivial));(case aO=>exact(Kd.S_mono (fS HO_1.out) (fun k_ hk=>⟨trivial,fun e_=>hk.2 e_⟩)));(case aS=>exact(below_size uB));(case aL=>have:=LMc1.out;omega);intro v3 w4 ho hb hg hat;rw[←Ny3.out]at ho;have HO3:=C (ho);replace HB:=C (hb);clear HO_1;clear HO2;clear ho hb hg hat;obtain⟨Ao2,co2,eo2⟩:=Kd.S_slice HO3.out;subst eo2;have p1:0≤((ji1):Int):=oT;have q1:(ji1)<(y3.length:Int):=oT;obtain⟨ad1,A1_0,c9_0,e1,hx1_0,hl1_0,hi1_0⟩:=at_L3 (Kd.S_reads' HO3.out).2.2 (ji1) p1 q1;cases e1;obtain⟨ce1,hce1,hMe1,hcc1⟩:=Kd.S_get HO3.out [] (ji1) p1 (by first|exact q1|exact oT|(have e_:=(Kd.S_reads' HO3.out).1;omega));obtain⟨ve1_0,rfl,ge1_0⟩:=hMe1;have hv1_0:=hcc1 0 _ rfl;rw[Nat.add_zero,show((Kd.slice 3 (Kd.int .i64))).sz=1 from rfl,Nat.mul_one]at hv1_0;replace hv1_0:=Option.some.inj (hv1_0.symm.trans hx1_0);rw[hv1_0]at ge1_0;have HL1_0:=C (show Kd.R (Kd.int .i64) 3 _ _ _ _ (rd_L3 y3 (ji1)) from ge1_0);clear hv1_0 ge1_0;have HX1_0:=C hx1_0;(try clear hcc1);(try clear hce1);have HR1_0:=C hi1_0;have HC2_0:=C hl1_0;clear hi1_0 hl1_0;replace p1:=eq_true p1;replace q1:=eq_true q1;obtain⟨go1,co3,eo3,gb1,gl1,cl1,HG1⟩:=Kd.S_form HO3.out (by have h_:((ji1):Int)<((y3.length:Int):Int):=oT;have h1_:0≤((ji1):Int):=oT;omega);(first|cases eo3|(injection eo3 with ea_ en_ ec_;(first|subst ea_|(injection ea_ with ea_;subst ea_));subst ec_;clear en_));have GB1:=C gb1;have GG1:=C HG1;clear gb1 gl1 HG1;(first|simp only[add_plain]at hx1_0|skip);obtain⟨oki1,ce2,hcl1,hM1,hcc2,_,_,hH1⟩:=Kd.S_elem HO3.out [] ((ji1):Int) oT (by have h_:((ji1):Int)<((y3.length:Int):Int):=oT;first|exact h_|(have e_:=(Kd.S_reads' HO3.out).1;omega)|simpa using h_);obtain⟨ve2_0,rfl,ge2_0⟩:=hM1;have hv2:=hcc2 0 _ rfl;have hX1:=HX1_0.out;(try simp only[add_plain]at hX1);(try simp only[Nat.add_zero]at hv2);(try rw[show((Kd.slice 3 (Kd.int .i64))).sz=1 from rfl,Nat.mul_one]at hv2);replace hv2:=Option.some.inj (hv2.symm.trans hX1);subst hv2;(try clear hX1);(try clear hcc2);(try clear hcl1);have UU1:=C (show Kd.R (Kd.int .i64) 3 _ w.heap.size oki1 (L A1_0 (rd_L3 y3 (ji1)).length c9_0) (rd_L3 y3 (ji1)) from ge2_0);have HH1:=C hH1;have HN1:=C (Kd.S_reads' HO3.out).1;clear hH1 ge2_0)|((with_reducible refine gate_builtin (b:=.append) (xs:= #[.tmp 56,.tmp 58]) rfl ?_);at_builtin;refine Kd.R_append (Kd.int .i64) (w0:=w) w.heap.size rfl (.tmp 56) (.tmp 58) 27 3 (V I 0) 8 rfl underlying27 info3 rfl (by decide) (by omega) (L A1_0 (rd_L3 y3 (ji1)).length c9_0) (rd_L3 y3 (ji1)) x3_2 [V I x3_2] (fun k_=>oki1 k_∨((fun _=>True)) k_∧w4.heap.size≤k_) (fun _=>False) rfl rfl ?aP (fun _ hk=>hk.elim) ?aF ?aO ?aB ?aS ?aL ?_;(case aP=>exact rfl);(case aB=>exact uB);(case aF=>exact(fun k_ hk=>.inr ⟨trivial,hk⟩));(case aO=>exact(X (fR UU1.out) (fun _ hk=>.inl hk)));(case aS=>exact(below_size uB));(case aL=>have:=LMc2.out;omega);intro v4 w5 ho hb hg hat;rw[←Ny4.out]at ho;have HO4:=C (ho);replace HB:=C (hb);replace HH1:=C (Kd.H_grown (Kd.H_widen (by repeat(first|exact HH1.out|refine Kd.H_alloc ?_ _|refine Kd.H_drewN ?_ _|refine Kd.H_drew ?_))) hg (fun k_ e_=>.inl (UU1.out.1 k_ e_)));clear HO3;clear UU1;clear HL1_0;clear ho hb hg hat;have p2:0≤((ji1):Int):=oT;have q2:((ji1):Int)<((y3.length:Int):Int):=oT;replace p2:=eq_true p2;replace q2:=eq_true q2;obtain⟨Ao3,co4,rfl⟩:=U HO4.out;obtain⟨_,_,hraw1,_,_,hcc3,_⟩:=Kd.H_raw HH1.out oT (by have h_:((ji1):Int)<((y3.length:Int):Int):=oT;first|exact h_|(have e_:=(HN1.out);omega)|simpa using h_);obtain⟨_,hfr1⟩:=Kd.H_at HH1.out oT (by have h_:((ji1):Int)<((y3.length:Int):Int):=oT;first|exact h_|(have e_:=(HN1.out);omega)|simpa using h_);have hx2_0:=hcc3 0 _ rfl;have hf1_0:=hfr1 0;(try simp only[Nat.add_zero]at hx2_0 hf1_0);(try rw[show((Kd.slice 3 (Kd.int .i64))).sz=1 from rfl,Nat.mul_one]at hx2_0);(try rw[show((Kd.slice 3 (Kd.int .i64))).sz=1 from rfl,Nat.mul_one]at hf1_0);have HP1:=Kd.S_seg0 HH1.out oT (by have h_:((ji1):Int)<((y3.length:Int):Int):=oT;first|exact h_|(have e_:=(HN1.out);omega)|simpa using h_) (seg:= [L Ao3 y4.length co4]) (j:=0) (show 1≤1 from by decide) (x':=y4) (Kd.M_row HO4.out) (fun _ hk=>hk);(try simp only[show((Kd.slice 3 (Kd.int .i64))).sz=1 from rfl,Nat.mul_one,Nat.add_zero]at HP1);(try clear hcc3);(try clear hfr1))|((with_reducible refine gate_store (t:=27) (p:=60) rfl ?_);(try(rw[drewN_self w5];generalize hq_:World.drewN w5 _=w5;have n0_:=C (Kd.S_at hq_ HO3.out);have n1_:=C (below_at hq_ HB.out);clear hq_ HO3 HB;have HO3:=n0_;have HB:=n1_;clear n0_ n1_;(try(obtain⟨Ao3,co4,eo4⟩:=U HO4.out));(try(subst eo4));(try(obtain⟨_,_,hraw1,_,_,hcc3,_⟩:=Kd.H_raw HH1.out oT (by have h_:((ji1):Int)<((y3.length:Int):Int):=oT;first|exact h_|(have e_:=(HN1.out);omega)|simpa using h_)));(try(obtain⟨_,hfr1⟩:=Kd.H_at HH1.out oT (by have h_:((ji1):Int)<((y3.length:Int):Int):=oT;first|exact h_|(have e_:=(HN1.out);omega)|simpa using h_)));(try(have hx2_0:=hcc3 0 _ rfl));(try(have hf1_0:=hfr1 0));(try(try simp only[Nat.add_zero]at hx2_0 hf1_0));(try(try rw[show((Kd.slice 3 (Kd.int .i64))).sz=1 from rfl,Nat.mul_one]at hx2_0));(try(try rw[show((Kd.slice 3 (Kd.int .i64))).sz=1 from rfl,Nat.mul_one]at hf1_0));(try(have HP1:=Kd.S_seg0 HH1.out oT (by have h_:((ji1):Int)<((y3.length:Int):Int):=oT;first|exact h_|(have e_:=(HN1.out);omega)|simpa using h_) (seg:= [L Ao3 y4.length co4]) (j:=0) (show 1≤1 from by decide) (x':=y4) (Kd.M_row HO4.out) (fun _ hk=>hk)));(try(try simp only[show((Kd.slice 3 (Kd.int .i64))).sz=1 from rfl,Nat.mul_one,Nat.add_zero]at HP1));(try(try clear hcc3);(try clear hfr1))));refine store_event (t:=27) (p:=60) (v:= ?vo_w1) (w1:=(w5.setCell ⟨go1,((ji1):Int).toNat,none⟩ (L Ao3 y4.length co4))) ?hg ?ho ?hn ?hr ?_;(case ho=>rfl);(case hg=>rfl);(case hn=>rfl);(case hr=>exact Fix.hr);intro w6 hw;have hg:w5.grownBy w6 (some go1):=(by rw[hw];exact HP1.2);have hp_:Kd.S (Kd.slice 3 (Kd.int .i64)) 27 w6 w.heap.size (fun _=>True) (L (some ⟨go1,0,none⟩) y3.length co2) y5:=(by rw[hw,Ny5.out];exact HP1.1);clear HP1;have HO3:=C (hp_);replace HB:=C ((by rw[hw];exact below_set HB.out GB1.out:Below w.heap.size w w6));clear HO4;clear HH1;clear hg hw hp_ hraw1)))
     go_roundg k2
     case measure=>have:=HJ1.out;have:=HK1.out;omega
     case rel=>exact⟨(y5),(wrap64 (x3_2+1)),rS,H',⟨by have:=HJ1.out;have:=HK1.out;omega⟩,⟨fS HO3.out⟩,⟨uB⟩⟩
def spec_SheetsFor.f (k:Nat) (a0:Int) (a1:Int) (a2:Bool):Option (Int):=(spec_SidesFor.f k a0 a1).bind fun t682=>(if a2=true then(some (wrap64 (Int.tdiv (wrap64 ((t682.length:Int)+1)) 2))) else(some (t682.length:Int)))
theorem spec_SheetsFor.mono:∀a0 a1 a2 k,LeO (spec_SheetsFor.f k a0 a1 a2) (spec_SheetsFor.f (k+1) a0 a1 a2):=by
 intro a0 a1 a2 k
 unfold spec_SheetsFor.f
 have i1:= @spec_SidesFor.mono;exact mo
theorem spec_SheetsFor.W1 {p:Prop} (h:p:=by
 go_enter func108,ntmps108
 go_wp2_with (first|((with_reducible refine gate_callee (f:=124) rfl ?_);refine gl 124 (some 10) func124 #[V I a0,V I a1] ?_;(with_reducible refine(spec_SidesFor.calls k a0 a1 t1 _ A1.out).mono ?_);rintro e w1 ⟨v1,rfl,ho1,hb⟩;refine⟨_,rfl,?_⟩;have HO1:=C (Kd.S_lower ho1 (below_size uB));replace HB:=eB hb;clear hb ho1;obtain⟨Ao1,co1,eo1⟩:=Kd.S_slice HO1.out;subst eo1))
 go_ret
 exact⟨rE,uB⟩):p:=h
theorem spec_SheetsFor.calls (k:Nat) (a0:Int) (a1:Int) (a2:Bool) (r:Int) (w:World) (h:spec_SheetsFor.f k a0 a1 a2=some r):
 Calls prog 108 #[V I a0,V I a1,O a2] w fun e w'=>e=.returned (V I r)∧Below w.heap.size w w':=by
 have HB:=C (Below.refl w.heap.size w)
 have H:=h
 unfold spec_SheetsFor.f at H
 clear h
 obtain⟨t1,A1,H⟩:=bnd H
 by_cases c1:a2=true
 ·subst c1
  rw[if_pos rfl]at H
  obtain rfl:=si H
  exact spec_SheetsFor.W1
 obtain rfl:=nt c1
 replace H:=nf H
 obtain rfl:=si H
 exact spec_SheetsFor.W1
def spec_JobSheets.f (k:Nat) (a0_0:Int) (a0_1:Int) (a0_2:Int) (a0_3:Bool) (a0_4:Int) (a0_5:Bool):Option (Int):=(spec_JobOk.f a0_0 a0_1 a0_2 a0_3 a0_4 a0_5).bind fun t686=>(if t686=true then((spec_SheetsFor.f k a0_1 1 a0_3).bind fun t687=>(some (wrap64 (a0_2 * t687)))) else(some 0))
def spec_JobSheets.T3:Bool×List (List Nat×List Nat):=(true,[([],[]),([0],[0]),([],[]),([2],[2]),([],[]),([4],[4]),([3,5],[3,5]),([1,6],[1,6]),([7,6,0,1,2,3,4,5,6,7],[7])])
def spec_JobSheets.B3:List Nat:= [0,1,0,4,0,16,60,127,255]
theorem spec_JobSheets.tab3:rtab .any (opsOf Tryz.f86 3)=spec_JobSheets.T3:=by kernel_rfl
theorem spec_JobSheets.bits3:waitsOk spec_JobSheets.T3.2 spec_JobSheets.B3=true:=by kernel_rfl
theorem spec_JobSheets.calls (k:Nat) (a0_0:Int) (a0_1:Int) (a0_2:Int) (a0_3:Bool) (a0_4:Int) (a0_5:Bool) (r:Int) (w:World) (h:spec_JobSheets.f k a0_0 a0_1 a0_2 a0_3 a0_4 a0_5=some r):
 Calls prog 86 #[G #[V I a0_0,V I a0_1,V I a0_2,O a0_3,V I a0_4,O a0_5]] w fun e w'=>e=.returned (V I r)∧Below w.heap.size w w':=by
 have hu1:=underlying26
 have HB:=C (Below.refl w.heap.size w)
 have H:=h
 unfold spec_JobSheets.f at H
 clear h
 obtain⟨t1,A1,H⟩:=bnd H
 by_cases c1:t1=true
 rotate_left
 ·obtain rfl:=nt c1
  replace H:=nf H
  obtain rfl:=si H
  go_enter func86,ntmps86
  go_wp2_with (first|((with_reducible refine J (N:=1) rfl ?_);refine Fix.be 1 #[V I a0_0,V I a0_1,V I a0_2,O a0_3,V I a0_4,O a0_5] 26 ?_;intro gb1 hg w1 BK1 hb;have GW1:=gE (w:=w) hg;have GE1:=GW1;replace HB:=eB hb;clear hb hg;obtain⟨_,_,_,_,_,_,_,_,_,_,_,_⟩:=d6 BK1.out)|((with_reducible refine gate_callee (f:=85) rfl ?_);refine gl 85 (some 4) func85 #[G #[V I a0_0,V I a0_1,V I a0_2,O a0_3,V I a0_4,O a0_5]] ?_;(with_reducible refine(spec_JobOk.calls a0_0 a0_1 a0_2 a0_3 a0_4 a0_5 false _ A1.out).mono ?_);rintro e w2 ⟨rfl,hb⟩;refine⟨_,rfl,?_⟩;replace BK1:=eK BK1 hb;replace HB:=eB hb;clear hb))
  go_ret
  exact⟨rE,uB⟩
 subst c1
 rw[if_pos rfl]at H
 obtain⟨t2,A2,H⟩:=bnd H
 obtain rfl:=si H
 go_enter func86,ntmps86
 try go_wp2_with (first|((with_reducible refine J (N:=1) rfl ?_);refine Fix.be 1 #[V I a0_0,V I a0_1,V I a0_2,O a0_3,V I a0_4,O a0_5] 26 ?_;intro gb1 hg w1 BK1 hb;have GW1:=gE (w:=w) hg;have GE1:=GW1;replace HB:=eB hb;clear hb hg;obtain⟨_,_,_,_,_,_,_,_,_,_,_,_⟩:=d6 BK1.out)|((with_reducible refine gate_callee (f:=85) rfl ?_);refine gl 85 (some 4) func85 #[G #[V I a0_0,V I a0_1,V I a0_2,O a0_3,V I a0_4,O a0_5]] ?_;(with_reducible refine(spec_JobOk.calls a0_0 a0_1 a0_2 a0_3 a0_4 a0_5 true _ A1.out).mono ?_);rintro e w2 ⟨rfl,hb⟩;refine⟨_,rfl,?_⟩;replace BK1:=eK BK1 hb;replace HB:=eB hb;clear hb))
 replace BK1:=dK BK1
 replace HB:=dB HB
 refine start_ (n:=9) (S:=fun w'=>cl6 w' gb1 (V I a0_0) (V I a0_1) (V I a0_2) (O a0_3) (V I a0_4) (O a0_5)) (ds:= []) #[false,false,false,false,false,false,false,false,false] (by kernel_rfl) rfl rfl hh (fun hHeld=> ?_);refine with_tabW spec_JobSheets.tab3 spec_JobSheets.bits3 (fun HT_ HW_=> ?_)
 generalize w2.drew=w3 at BK1 HB hHeld ⊢
 refine pu 0 (some 6) ?_
 refine pu 2 (some 8) ?_
 refine pu 4 (some 10) ?_
 refine tu 1 (some 7) hHeld ?_
 refine tu 3 (some 9) hHeld ?_
 refine tu 5 (some 11) hHeld ?_
 refine ou 6 (some 12) (fun K hK=> ?_)
 refine gs func108 #[V I a0_1,V I 1,O a0_3] ?_
 with_reducible refine(spec_SheetsFor.calls k a0_1 1 a0_3 t2 _ A2.out).mono ?_
 rintro e w4 ⟨rfl,hb⟩
 refine⟨_,rfl,?_⟩
 replace BK1:=eK BK1 hb
 replace HB:=eB hb
 (try clear hb)
 refine hK.out _ _ hh (fun hHeld=> ?_)
 clear hK K
 refine nu (N:=(some 12)) ?_
 refine pu 7 (some 13) ?_
 refine pu 8 (some 2) ?_
 refine done_ (done_of HT_.out (by kernel_rfl)) ?_
 try go_wp2
 go_ret
 exact⟨rE,uB⟩
end Go.Proofs.YtgdnlmfoghpeoaaGreatDoor.PFnExactRunScript
