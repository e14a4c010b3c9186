/- Calls do what plain Lean functions say (FnActParts). No condition. -/
import Derived.Test.YtblceimapaenlaaDoorQFnActParts0
import Derived.Test.YtblceimapaenlaaDoorQFnActParts2
import Derived.Test.YtblceimapaenlaaDoorQFnActParts8
import Derived.Test.YtblceimapaenlaaDoorQFnActParts9
import Derived.Test.YtblceimapaenlaaDoorQFnActParts10
import Derived.Test.YtblceimapaenlaaDoorQFnActParts15
namespace Go.Proofs.YtblceimapaenlaaDoor.PFnActParts
open Go.RowKit Go.Proofs.YtblceimapaenlaaDoorW.PrintWords Go.Proofs.YtblceimapaenlaaDoorW.PrintLast Go.Proofs.YtblceimapaenlaaDoorW.PrintMore
open Fix (bK bnd cf14 cl14 cr14 cs14 d14 dB dK dQ dR eB eK eQ eR fQ fR gE gK gl gs gy hh lR nG nL np nu ou pu qm qn rE tQ tR tu uB uC uK uQ uR wB wK wR)
open Go.Value renaming int→V,slice→L,bool→O,agg→G
open Go.IntKind renaming i64→I
open Go.Proofs.YtblceimapaenlaaDoorW.PrintWords.Aside0 renaming mk→C
open Go.Proofs.YtblceimapaenlaaDoorW.PrintWords renaming Aside0→D
open Go.Proofs.YtblceimapaenlaaDoorW.PrintWords.Kd renaming R_mono→X,R_types→Y,R_slice→U
attribute [local go_sem] max2_int min2_int max_two min_two max_three min_three max_four min_four
attribute [local go_sem] Fix.isSome_setCell
set_option linter.unusedVariables false
set_option maxHeartbeats 40000000
set_option maxRecDepth 100000
set_option linter.unusedSimpArgs false
def laws_FnActParts.f (k:Nat) (l0:List Int):Option (Bool):=(laws_big.f l0).bind fun t974=>(if t974=true then(some true) else((spec_DrawActs.f k l0).bind fun bt975=>((spec_DrawPlaces.f k l0).bind fun t999=>(if 0<(t999.length:Int) then(if(wrap64 ((bt975.2.2.2.2.2.2.2.2.2.2.2.2.2.2.length:Int)+1))=0 then(none) else((impl_RunActs.f k bt975.1 bt975.2.1 bt975.2.2.1 bt975.2.2.2.1 bt975.2.2.2.2.1 bt975.2.2.2.2.2.1 bt975.2.2.2.2.2.2.1 bt975.2.2.2.2.2.2.2.1 bt975.2.2.2.2.2.2.2.2.1 bt975.2.2.2.2.2.2.2.2.2.1 bt975.2.2.2.2.2.2.2.2.2.2.1 bt975.2.2.2.2.2.2.2.2.2.2.2.1 bt975.2.2.2.2.2.2.2.2.2.2.2.2.1 bt975.2.2.2.2.2.2.2.2.2.2.2.2.2.1 bt975.2.2.2.2.2.2.2.2.2.2.2.2.2.2).bind fun bt1003=>(if 0≤(Int.tmod (rd t999 0) (wrap64 ((bt975.2.2.2.2.2.2.2.2.2.2.2.2.2.2.length:Int)+1))) then(if(Int.tmod (rd t999 0) (wrap64 ((bt975.2.2.2.2.2.2.2.2.2.2.2.2.2.2.length:Int)+1)))≤(bt975.2.2.2.2.2.2.2.2.2.2.2.2.2.2.length:Int) then((impl_RunActs.f k bt975.1 bt975.2.1 bt975.2.2.1 bt975.2.2.2.1 bt975.2.2.2.2.1 bt975.2.2.2.2.2.1 bt975.2.2.2.2.2.2.1 bt975.2.2.2.2.2.2.2.1 bt975.2.2.2.2.2.2.2.2.1 bt975.2.2.2.2.2.2.2.2.2.1 bt975.2.2.2.2.2.2.2.2.2.2.1 bt975.2.2.2.2.2.2.2.2.2.2.2.1 bt975.2.2.2.2.2.2.2.2.2.2.2.2.1 bt975.2.2.2.2.2.2.2.2.2.2.2.2.2.1 (bt975.2.2.2.2.2.2.2.2.2.2.2.2.2.2.take ((Int.tmod (rd t999 0) (wrap64 ((bt975.2.2.2.2.2.2.2.2.2.2.2.2.2.2.length:Int)+1))):Int).toNat)).bind fun bt1031=>((impl_RunActs.f k bt1031.1 bt1031.2.1 bt1031.2.2.1 bt1031.2.2.2.1 bt1031.2.2.2.2.1 bt1031.2.2.2.2.2.1 bt1031.2.2.2.2.2.2.1 bt1031.2.2.2.2.2.2.2.1 bt1031.2.2.2.2.2.2.2.2.1 bt1031.2.2.2.2.2.2.2.2.2.1 bt1031.2.2.2.2.2.2.2.2.2.2.1 bt1031.2.2.2.2.2.2.2.2.2.2.2.1 bt1031.2.2.2.2.2.2.2.2.2.2.2.2.1 bt1031.2.2.2.2.2.2.2.2.2.2.2.2.2.1 (bt975.2.2.2.2.2.2.2.2.2.2.2.2.2.2.drop ((Int.tmod (rd t999 0) (wrap64 ((bt975.2.2.2.2.2.2.2.2.2.2.2.2.2.2.length:Int)+1))):Int).toNat)).bind fun bt1059=>((spec_RunActs.f k bt975.1 bt975.2.1 bt975.2.2.1 bt975.2.2.2.1 bt975.2.2.2.2.1 bt975.2.2.2.2.2.1 bt975.2.2.2.2.2.2.1 bt975.2.2.2.2.2.2.2.1 bt975.2.2.2.2.2.2.2.2.1 bt975.2.2.2.2.2.2.2.2.2.1 bt975.2.2.2.2.2.2.2.2.2.2.1 bt975.2.2.2.2.2.2.2.2.2.2.2.1 bt975.2.2.2.2.2.2.2.2.2.2.2.2.1 bt975.2.2.2.2.2.2.2.2.2.2.2.2.2.1 bt975.2.2.2.2.2.2.2.2.2.2.2.2.2.2).bind fun bt1083=>(if(bt1003.2.2.2.2.2.2.2.2.2.2.2.2.2.2.length:Int)=(bt1083.2.2.2.2.2.2.2.2.2.2.2.2.2.2.length:Int) then((impl_FormatMachine.f k bt1003.1 bt1003.2.1 bt1003.2.2.1 bt1003.2.2.2.1 bt1003.2.2.2.2.1 bt1003.2.2.2.2.2.1 bt1003.2.2.2.2.2.2.1 bt1003.2.2.2.2.2.2.2.1 bt1003.2.2.2.2.2.2.2.2.1 bt1003.2.2.2.2.2.2.2.2.2.1 bt1003.2.2.2.2.2.2.2.2.2.2.1 bt1003.2.2.2.2.2.2.2.2.2.2.2.1 bt1003.2.2.2.2.2.2.2.2.2.2.2.2.1 bt1003.2.2.2.2.2.2.2.2.2.2.2.2.2.1).bind fun t1107=>((impl_FormatMachine.f k bt1059.1 bt1059.2.1 bt1059.2.2.1 bt1059.2.2.2.1 bt1059.2.2.2.2.1 bt1059.2.2.2.2.2.1 bt1059.2.2.2.2.2.2.1 bt1059.2.2.2.2.2.2.2.1 bt1059.2.2.2.2.2.2.2.2.1 bt1059.2.2.2.2.2.2.2.2.2.1 bt1059.2.2.2.2.2.2.2.2.2.2.1 bt1059.2.2.2.2.2.2.2.2.2.2.2.1 bt1059.2.2.2.2.2.2.2.2.2.2.2.2.1 bt1059.2.2.2.2.2.2.2.2.2.2.2.2.2.1).bind fun t1110=>((laws_sameTexts.f k t1107 t1110).bind fun t1113=>(if t1113=true then((some (([]:List Int):List Int)).bind fun y1114=>(if y1114.length+bt1031.2.2.2.2.2.2.2.2.2.2.2.2.2.2.length<17592186044416 then((some (y1114++bt1031.2.2.2.2.2.2.2.2.2.2.2.2.2.2:List Int)).bind fun y1117=>(if y1117.length+bt1059.2.2.2.2.2.2.2.2.2.2.2.2.2.2.length<17592186044416 then((laws_sameInts.f k bt1003.2.2.2.2.2.2.2.2.2.2.2.2.2.2 (y1117++bt1059.2.2.2.2.2.2.2.2.2.2.2.2.2.2)).bind fun t1123=>(some t1123)) else(none))) else(none))) else(some false))))) else(some false))))) else(none)) else(none)))) else(none)))))
theorem laws_FnActParts.mono:∀a0 k,LeO (laws_FnActParts.f k a0) (laws_FnActParts.f (k+1) a0):=by
 intro a0 k
 unfold laws_FnActParts.f
 repeat' first|(with_reducible first|apply impl_FormatMachine.mono|apply impl_RunActs.mono|apply laws_sameInts.mono|apply laws_sameTexts.mono|apply spec_DrawActs.mono|apply spec_DrawPlaces.mono|apply spec_RunActs.mono|exact LeO.refl _|exact LeO.none _|refine LeO.ite ?_ ?_|refine LeO.bind ?_ (fun _=> ?_))|exact LeO.none _|refine LeO.ite ?_ ?_|refine LeO.bind ?_ (fun _=> ?_)
def laws_FnActParts.T7:Bool×List (List Nat×List Nat):=(true,[([],[]),([],[]),([],[]),([1,2],[1,2]),([0,3],[0,3]),([4],[4]),([5],[5]),([5],[5]),([],[]),([8,6,4,0,1,2,3,4,5,6,8],[6,8]),([7,9,0,1,2,3,4,5,6,7,8,9],[7])])
def laws_FnActParts.B7:List Nat:= [0,0,0,6,15,31,63,63,0,383,1023]
theorem laws_FnActParts.tab7:rtab .any (opsOf Tryd.f7 7)=laws_FnActParts.T7:=by kernel_rfl
theorem laws_FnActParts.bits7:waitsOk laws_FnActParts.T7.2 laws_FnActParts.B7=true:=by kernel_rfl
def laws_FnActParts.T8:Bool×List (List Nat×List Nat):=(true,[([],[]),([],[]),([],[]),([1,2],[1,2]),([0,3],[0,3]),([4],[4]),([5],[5]),([5],[5]),([],[]),([8,6,4,0,1,2,3,4,5,6,8],[6,8]),([7,9,0,1,2,3,4,5,6,7,8,9],[7])])
def laws_FnActParts.B8:List Nat:= [0,0,0,6,15,31,63,63,0,383,1023]
theorem laws_FnActParts.tab8:rtab .any (opsOf Tryd.f7 8)=laws_FnActParts.T8:=by kernel_rfl
theorem laws_FnActParts.bits8:waitsOk laws_FnActParts.T8.2 laws_FnActParts.B8=true:=by kernel_rfl
def laws_FnActParts.T10:Bool×List (List Nat×List Nat):=(true,[([],[]),([0],[0]),([],[]),([2],[2]),([1,3],[1,3]),([4],[4]),([5],[5]),([6,5,5],[5,6]),([5],[5]),([8,7,5],[5,8]),([7,9,9,5],[5,7,9]),([5,10],[5,10]),([11,10],[11]),([12],[12]),([12],[12]),([12],[12]),([14,15,12,12],[12,14,15]),([12],[12]),([16,17,16,12],[12,16,17]),([13,18,18,12],[12,13,18]),([12,19],[12,19]),([20,19,0,1,2,3,4,5,6,7,8,9,10,11,12,13,14,15,16,17,18,19,20],[20])])
def laws_FnActParts.B10:List Nat:= [0,1,0,4,15,31,63,127,63,511,1023,2047,4095,8191,8191,8191,57343,8191,253951,524287,1048575,2097151]
theorem laws_FnActParts.tab10:rtab .any (opsOf Tryd.f7 10)=laws_FnActParts.T10:=by kernel_rfl
theorem laws_FnActParts.bits10:waitsOk laws_FnActParts.T10.2 laws_FnActParts.B10=true:=by kernel_rfl
theorem laws_FnActParts.calls (k:Nat) (A0:Option Addr) (c0:Nat) (l0:List Int) (r:Bool) (w:World) (hr0:Kd.C (Kd.int .u8) w A0 l0.length l0) (hc0:l0.length≤c0) (hT:r=true) (h:laws_FnActParts.f k l0=some r) (hTab:Ito.Tab w):
 Calls Tryd.prog 7 #[L A0 l0.length c0] w fun e w'=>e=.returned (O r)∧Below w.heap.size w w':=by
 replace hTab:=C hTab
 have hu1:=Tryd.underlying45
 have HR1:=C hr0
 have HC1:=C hc0
 (try clear hr0);(try clear hc0)
 replace hT:=C hT
 have HB:=C (Below.refl w.heap.size w)
 have H:=h
 unfold laws_FnActParts.f at H
 clear h
 obtain⟨t1,A2,H⟩:=bnd H
 by_cases c2:t1=true
 ·subst c2
  rw[if_pos rfl]at H
  obtain rfl:=Option.some.inj H
  go_enter Tryd.func7,Tryd.ntmps7
  go_wp2_with (first|((with_reducible refine gate_callee (f:=16) rfl ?_);refine gl 16 (some 16) Tryd.func16 #[L A0 l0.length c0] ?_;(with_reducible refine(laws_big.calls _ _ l0 true _ ?side1 ?side2 A2.out).mono ?_);(case side1=>exact uC HR1.out);(case side2=>exact HC1.out);rintro e w' ⟨rfl,⟨nd,rfl⟩⟩;refine⟨_,rfl,?_⟩))
  go_ret
  exact⟨rE,uB⟩
 replace c2:=Bool.eq_false_iff.mpr c2
 subst c2
 rw[if_neg Bool.false_ne_true]at H
 obtain⟨⟨t2,t3,t4,t5,t6,t7,t8,t9,t10,t11,t12,t13,t14,t15,t16⟩,A3,H⟩:=bnd H
 dsimp only at H
 obtain⟨t17,A4,H⟩:=bnd H
 obtain⟨c3,H⟩:=np H
 have c3b0:decide (0<(t17.length:Int))=true:=decide_eq_true c3
 have c3b1:decide (0<t17.length)=true:=decide_eq_true (by omega)
 clear c3
 by_cases c4:(wrap64 ((t16.length:Int)+1))=0
 ·rw[if_pos c4]at H
  exact absurd H (by simp)
 rw[if_neg c4]at H
 have c4b0:((wrap64 ((t16.length:Int)+1))==0)=false:=beq_eq_false_iff_ne.mpr c4
 have c4b1:((wrap64 ((t16.length:Int)+1)) !=0)=true:=bne_iff_ne.mpr c4
 obtain⟨⟨t18,t19,t20,t21,t22,t23,t24,t25,t26,t27,t28,t29,t30,t31,t32⟩,A5,H⟩:=bnd H
 dsimp only at H
 obtain⟨ji1,hji1⟩:∃j_:Int,(Int.tmod (rd t17 0) (wrap64 ((t16.length:Int)+1)))=j_:=⟨_,rfl⟩
 replace H:(if 0≤(ji1) then(if(ji1)≤(t16.length:Int) then((impl_RunActs.f k t2 t3 t4 t5 t6 t7 t8 t9 t10 t11 t12 t13 t14 t15 (t16.take ((ji1):Int).toNat)).bind fun bt1031=>((impl_RunActs.f k bt1031.1 bt1031.2.1 bt1031.2.2.1 bt1031.2.2.2.1 bt1031.2.2.2.2.1 bt1031.2.2.2.2.2.1 bt1031.2.2.2.2.2.2.1 bt1031.2.2.2.2.2.2.2.1 bt1031.2.2.2.2.2.2.2.2.1 bt1031.2.2.2.2.2.2.2.2.2.1 bt1031.2.2.2.2.2.2.2.2.2.2.1 bt1031.2.2.2.2.2.2.2.2.2.2.2.1 bt1031.2.2.2.2.2.2.2.2.2.2.2.2.1 bt1031.2.2.2.2.2.2.2.2.2.2.2.2.2.1 (t16.drop ((ji1):Int).toNat)).bind fun bt1059=>((spec_RunActs.f k t2 t3 t4 t5 t6 t7 t8 t9 t10 t11 t12 t13 t14 t15 t16).bind fun bt1083=>(if(t32.length:Int)=(bt1083.2.2.2.2.2.2.2.2.2.2.2.2.2.2.length:Int) then((impl_FormatMachine.f k t18 t19 t20 t21 t22 t23 t24 t25 t26 t27 t28 t29 t30 t31).bind fun t33=>((impl_FormatMachine.f k bt1059.1 bt1059.2.1 bt1059.2.2.1 bt1059.2.2.2.1 bt1059.2.2.2.2.1 bt1059.2.2.2.2.2.1 bt1059.2.2.2.2.2.2.1 bt1059.2.2.2.2.2.2.2.1 bt1059.2.2.2.2.2.2.2.2.1 bt1059.2.2.2.2.2.2.2.2.2.1 bt1059.2.2.2.2.2.2.2.2.2.2.1 bt1059.2.2.2.2.2.2.2.2.2.2.2.1 bt1059.2.2.2.2.2.2.2.2.2.2.2.2.1 bt1059.2.2.2.2.2.2.2.2.2.2.2.2.2.1).bind fun t34=>((laws_sameTexts.f k t33 t34).bind fun t35=>(if t35=true then((some (([]:List Int):List Int)).bind fun y1=>(if y1.length+bt1031.2.2.2.2.2.2.2.2.2.2.2.2.2.2.length<17592186044416 then((some (y1++bt1031.2.2.2.2.2.2.2.2.2.2.2.2.2.2:List Int)).bind fun y2=>(if y2.length+bt1059.2.2.2.2.2.2.2.2.2.2.2.2.2.2.length<17592186044416 then((laws_sameInts.f k t32 (y2++bt1059.2.2.2.2.2.2.2.2.2.2.2.2.2.2)).bind fun t36=>(some t36)) else(none))) else(none))) else(some false))))) else(some false))))) else(none)) else(none))=some r:=by first|(rw[hji1]at H;exact H)|(simp only[hji1]at H ⊢;exact H)
 (try rw[hji1]at A2)
 (try rw[hji1]at A3)
 (try rw[hji1]at A4)
 (try rw[hji1]at A5)
 obtain⟨c5,H⟩:=np H
 have c5b0:=eq_true c5
 have c5b1:decide (0≤(ji1))=true:=decide_eq_true c5
 clear c5
 obtain⟨c6,H⟩:=np H
 have c6b0:=eq_true c6
 have c6b1:decide ((ji1)≤(t16.length:Int))=true:=decide_eq_true c6
 clear c6
 obtain⟨y3,hy1⟩:∃y_:List (S26),y_=(t16.take ((ji1):Int).toNat):=⟨_,rfl⟩
 replace H:((impl_RunActs.f k t2 t3 t4 t5 t6 t7 t8 t9 t10 t11 t12 t13 t14 t15 y3).bind fun bt1031=>((impl_RunActs.f k bt1031.1 bt1031.2.1 bt1031.2.2.1 bt1031.2.2.2.1 bt1031.2.2.2.2.1 bt1031.2.2.2.2.2.1 bt1031.2.2.2.2.2.2.1 bt1031.2.2.2.2.2.2.2.1 bt1031.2.2.2.2.2.2.2.2.1 bt1031.2.2.2.2.2.2.2.2.2.1 bt1031.2.2.2.2.2.2.2.2.2.2.1 bt1031.2.2.2.2.2.2.2.2.2.2.2.1 bt1031.2.2.2.2.2.2.2.2.2.2.2.2.1 bt1031.2.2.2.2.2.2.2.2.2.2.2.2.2.1 (t16.drop ((ji1):Int).toNat)).bind fun bt1059=>((spec_RunActs.f k t2 t3 t4 t5 t6 t7 t8 t9 t10 t11 t12 t13 t14 t15 t16).bind fun bt1083=>(if(t32.length:Int)=(bt1083.2.2.2.2.2.2.2.2.2.2.2.2.2.2.length:Int) then((impl_FormatMachine.f k t18 t19 t20 t21 t22 t23 t24 t25 t26 t27 t28 t29 t30 t31).bind fun t33=>((impl_FormatMachine.f k bt1059.1 bt1059.2.1 bt1059.2.2.1 bt1059.2.2.2.1 bt1059.2.2.2.2.1 bt1059.2.2.2.2.2.1 bt1059.2.2.2.2.2.2.1 bt1059.2.2.2.2.2.2.2.1 bt1059.2.2.2.2.2.2.2.2.1 bt1059.2.2.2.2.2.2.2.2.2.1 bt1059.2.2.2.2.2.2.2.2.2.2.1 bt1059.2.2.2.2.2.2.2.2.2.2.2.1 bt1059.2.2.2.2.2.2.2.2.2.2.2.2.1 bt1059.2.2.2.2.2.2.2.2.2.2.2.2.2.1).bind fun t34=>((laws_sameTexts.f k t33 t34).bind fun t35=>(if t35=true then((some (([]:List Int):List Int)).bind fun y1=>(if y1.length+bt1031.2.2.2.2.2.2.2.2.2.2.2.2.2.2.length<17592186044416 then((some (y1++bt1031.2.2.2.2.2.2.2.2.2.2.2.2.2.2:List Int)).bind fun y2=>(if y2.length+bt1059.2.2.2.2.2.2.2.2.2.2.2.2.2.2.length<17592186044416 then((laws_sameInts.f k t32 (y2++bt1059.2.2.2.2.2.2.2.2.2.2.2.2.2.2)).bind fun t36=>(some t36)) else(none))) else(none))) else(some false))))) else(some false)))))=some r:=gy hy1 H
 have Ny1:=C hy1
 clear hy1
 obtain⟨⟨t37,t38,t39,t40,t41,t42,t43,t44,t45,t46,t47,t48,t49,t50,t51⟩,A6,H⟩:=bnd H
 dsimp only at H
 have c7b0:=eq_true (of_decide_eq_true (by first|(with_reducible assumption)|assumption):0≤(ji1))
 have c8b0:=eq_true (of_decide_eq_true (by first|(with_reducible assumption)|assumption):(ji1)≤(t16.length:Int))
 obtain⟨y4,hy2⟩:∃y_:List (S26),y_=(t16.drop ((ji1):Int).toNat):=⟨_,rfl⟩
 replace H:((impl_RunActs.f k t37 t38 t39 t40 t41 t42 t43 t44 t45 t46 t47 t48 t49 t50 y4).bind fun bt1059=>((spec_RunActs.f k t2 t3 t4 t5 t6 t7 t8 t9 t10 t11 t12 t13 t14 t15 t16).bind fun bt1083=>(if(t32.length:Int)=(bt1083.2.2.2.2.2.2.2.2.2.2.2.2.2.2.length:Int) then((impl_FormatMachine.f k t18 t19 t20 t21 t22 t23 t24 t25 t26 t27 t28 t29 t30 t31).bind fun t33=>((impl_FormatMachine.f k bt1059.1 bt1059.2.1 bt1059.2.2.1 bt1059.2.2.2.1 bt1059.2.2.2.2.1 bt1059.2.2.2.2.2.1 bt1059.2.2.2.2.2.2.1 bt1059.2.2.2.2.2.2.2.1 bt1059.2.2.2.2.2.2.2.2.1 bt1059.2.2.2.2.2.2.2.2.2.1 bt1059.2.2.2.2.2.2.2.2.2.2.1 bt1059.2.2.2.2.2.2.2.2.2.2.2.1 bt1059.2.2.2.2.2.2.2.2.2.2.2.2.1 bt1059.2.2.2.2.2.2.2.2.2.2.2.2.2.1).bind fun t34=>((laws_sameTexts.f k t33 t34).bind fun t35=>(if t35=true then((some (([]:List Int):List Int)).bind fun y1=>(if y1.length+t51.length<17592186044416 then((some (y1++t51:List Int)).bind fun y2=>(if y2.length+bt1059.2.2.2.2.2.2.2.2.2.2.2.2.2.2.length<17592186044416 then((laws_sameInts.f k t32 (y2++bt1059.2.2.2.2.2.2.2.2.2.2.2.2.2.2)).bind fun t36=>(some t36)) else(none))) else(none))) else(some false))))) else(some false))))=some r:=gy hy2 H
 have Ny2:=C hy2
 clear hy2
 obtain⟨⟨t52,t53,t54,t55,t56,t57,t58,t59,t60,t61,t62,t63,t64,t65,t66⟩,A7,H⟩:=bnd H
 dsimp only at H
 obtain⟨⟨t67,t68,t69,t70,t71,t72,t73,t74,t75,t76,t77,t78,t79,t80,t81⟩,A8,H⟩:=bnd H
 dsimp only at H
 by_cases c9:(t32.length:Int)=(t81.length:Int)
 rotate_left
 ·rw[if_neg c9]at H
  have c9b0:((t32.length:Int)==(t81.length:Int))=false:=beq_eq_false_iff_ne.mpr c9
  have c9b1:((t32.length:Int) !=(t81.length:Int))=true:=bne_iff_ne.mpr c9
  have c9b2:(t32.length==t81.length)=false:=by first|simpa using c9|(simp at c9 ⊢;omega)
  exact absurd (hT.out ▸ H) (by simp)
 rw[if_pos c9]at H
 have c9b0:((t32.length:Int)==(t81.length:Int))=true:=beq_iff_eq.mpr c9
 have c9b1:((t32.length:Int) !=(t81.length:Int))=false:=bne_eq_false_iff_eq.mpr c9
 have c9b2:(t32.length==t81.length)=true:=by first|simpa using c9|(simp at c9 ⊢;omega)
 clear c9
 obtain⟨t33,A9,H⟩:=bnd H
 obtain⟨t34,A10,H⟩:=bnd H
 obtain⟨t35,A11,H⟩:=bnd H
 by_cases c10:t35=true
 rotate_left
 ·replace c10:=Bool.eq_false_iff.mpr c10
  subst c10
  rw[if_neg Bool.false_ne_true]at H
  exact absurd (hT.out ▸ H) (by simp)
 subst c10
 rw[if_pos rfl]at H
 obtain⟨y1,hy3⟩:∃y_:List Int,y_=(([]:List Int)):=⟨_,rfl⟩
 replace H:(if y1.length+t51.length<17592186044416 then((some (y1++t51:List Int)).bind fun y2=>(if y2.length+t66.length<17592186044416 then((laws_sameInts.f k t32 (y2++t66)).bind fun t36=>(some t36)) else(none))) else(none))=some r:=gy hy3 H
 have Ny3:=C hy3
 clear hy3
 obtain⟨c11,H⟩:=np H
 have LMc1:=C c11
 clear c11
 obtain⟨y2,hy4⟩:∃y_:List Int,y_=(y1++t51):=⟨_,rfl⟩
 replace H:(if y2.length+t66.length<17592186044416 then((laws_sameInts.f k t32 (y2++t66)).bind fun t36=>(some t36)) else(none))=some r:=gy hy4 H
 have Ny4:=C hy4
 clear hy4
 obtain⟨c12,H⟩:=np H
 have LMc2:=C c12
 clear c12
 obtain⟨y5,hy5⟩:∃y_:List Int,y_=(y2++t66):=⟨_,rfl⟩
 replace H:((laws_sameInts.f k t32 y5).bind fun t36=>(some t36))=some r:=gy hy5 H
 have Ny5:=C hy5
 clear hy5
 obtain⟨t36,A12,H⟩:=bnd H
 obtain rfl:=Option.some.inj H
 go_enter Tryd.func7,Tryd.ntmps7
 try go_wp2_with (first|((with_reducible refine gate_callee (f:=16) rfl ?_);refine gl 16 (some 16) Tryd.func16 #[L A0 l0.length c0] ?_;(with_reducible refine(laws_big.calls _ _ l0 false _ ?side1 ?side2 A2.out).mono ?_);(case side1=>exact uC HR1.out);(case side2=>exact HC1.out);rintro e w' ⟨rfl,⟨nd,rfl⟩⟩;refine⟨_,rfl,?_⟩)|((with_reducible refine gate_callee (f:=17) rfl ?_);refine gl 17 (some 19) Tryd.func17 #[L A0 l0.length c0] ?_;(with_reducible refine(spec_DrawActs.calls k _ _ l0 t2 t3 t4 t5 t6 t7 t8 t9 t10 t11 t12 t13 t14 t15 t16 _ ?side1 ?side2 A3.out).mono ?_);(case side1=>exact uC HR1.out);(case side2=>exact HC1.out);rintro e w2 ⟨v1,v2,v3,v4,rfl,ho1,ho2,ho3,ho4,hb⟩;refine⟨_,rfl,?_⟩;have HO1:=lR ho1;have HO2:=C (Kd.Q_lower ho2 (below_size uB));have HO3:=lR ho3;have HO4:=lR ho4;replace HB:=eB hb;clear hb ho1 ho2 ho3 ho4)|((with_reducible refine gate_dst (N:=3) rfl ?_);(try(refine gate_guard (by rfl) ?_;dsimp only));refine Fix.be 3 #[L none 0 0,V I 0,V I 0,V I 0,O false,V I 0,O false,V I 0,V I 0,L none 0 0,L none 0 0,V I 0,O false,V I 0] 45 ?_;intro gb1 hg w3 BK1 hb;have GW1:D (w.heap.size≤gb1):=gE hg;have GE1:=GW1;replace HO1:=eR HO1 hb;replace HO2:=eQ HO2 hb;replace HO3:=eR HO3 hb;replace HO4:=eR HO4 hb;replace HB:=eB hb;clear hb hg;obtain⟨Ao1,co1,eo1⟩:=U HO1.out;subst eo1;have h_:=d14 BK1.out;(repeat(obtain⟨_,h_⟩:=h_));obtain⟨Ao2,co2,eo2,_⟩:=Kd.Q_slice HO2.out;subst eo2;obtain⟨Ao3,co3,eo3⟩:=U HO3.out;subst eo3)|((with_reducible refine gate_callee (f:=28) rfl ?_);refine gl 28 (some 23) Tryd.func28 #[L A0 l0.length c0] ?_;(with_reducible refine(spec_DrawPlaces.calls k _ _ l0 t17 _ ?side1 ?side2 A4.out).mono ?_);(case side1=>exact Kd.C_below HR1.out uB);(case side2=>exact HC1.out);rintro e w4 ⟨v5,rfl,ho1,hb⟩;refine⟨_,rfl,?_⟩;have HO5:=C (Kd.R_lower (Kd.R_new' (Kd.R_new' ho1 (Kd.Q_lt (Kd.Q_mono (fQ (Kd.Q_types HO2.out BK1.out (by decide))) (fun _ h_=>h_.1)))) (Kd.R_lt (X (fR (Y HO3.out BK1.out (by decide))) (fun _ h_=>h_.1)))) (below_size uB));replace HO1:=C (Kd.R_below (X (fR (Y HO1.out BK1.out (by decide))) (fun _ h_=>h_.1)) hb);replace HO2:=C (Kd.Q_elder' (Kd.Q_mono (fQ (Kd.Q_types HO2.out BK1.out (by decide))) (fun _ h_=>h_.1)) (Kd.R_base ho1) hb);replace HO3:=C (Kd.R_elder' (X (fR (Y HO3.out BK1.out (by decide))) (fun _ h_=>h_.1)) (Kd.R_base ho1) hb);replace HO4:=C (Kd.R_below (X (fR (Y HO4.out BK1.out (by decide))) (fun _ h_=>h_.1)) hb);replace BK1:=C (blk_below (g:=gb1) (o:=.cells #[L Ao1 t2.length co1,V I t3,V I t4,V I t5,O t6,V I t7,O t8,V I t9,V I t10,L Ao2 t11.length co2,L Ao3 t12.length co3,V I t13,O t14,V I t15] 45 (0,0)) (bK BK1.out) hb);replace HB:=eB hb;clear hb ho1;obtain⟨Ao4,co4,eo4⟩:=U HO5.out;subst eo4;have p1:0≤(0:Int):=(by omega);have q1:0<(t17.length:Int):=of_decide_eq_true (by first|(with_reducible assumption)|assumption);obtain⟨ad1,e1,hx1_0⟩:=Kd.at_int (Kd.R_reads' HO5.out).2.2 0 p1 q1;cases e1;have qi1:(0<t17.length)=True:=eq_true (by omega);(try rw[show((0:Int)).toNat=0 from rfl]at hx1_0);(try rw[Addr.add_zero']at hx1_0);replace p1:=eq_true p1;replace q1:=eq_true q1;obtain⟨Ao5,co5,eo5⟩:=U HO4.out;subst eo5;have h_:=d14 BK1.out;(repeat(obtain⟨_,h_⟩:=h_)))|((with_reducible refine gate_callee (f:=29) rfl ?_);refine gl 29 (some 34) Tryd.func29 #[G #[L Ao1 t2.length co1,V I t3,V I t4,V I t5,O t6,V I t7,O t8,V I t9,V I t10,L Ao2 t11.length co2,L Ao3 t12.length co3,V I t13,O t14,V I t15],L Ao5 t16.length co5] ?_;(with_reducible refine(impl_RunActs.calls k _ _ t2 t3 t4 t5 t6 t7 t8 t9 t10 _ _ t11 _ _ t12 t13 t14 t15 _ _ t16 t18 t19 t20 t21 t22 t23 t24 t25 t26 t27 t28 t29 t30 t31 t32 _ ?side1 ?side2 ?side3 ?side4 ?side5 ?side6 ?side7 ?side8 A5.out).mono ?_);(case side1=>exact uC (Kd.R_reads' HO1.out).2.2);(case side2=>exact(Kd.R_reads' HO1.out).2.1);(case side3=>exact uC (Kd.Q_reads' HO2.out).2.2);(case side4=>exact(Kd.Q_reads' HO2.out).2.1);(case side5=>exact uC (Kd.R_reads' HO3.out).2.2);(case side6=>exact(Kd.R_reads' HO3.out).2.1);(case side7=>exact uC (Kd.R_reads' HO4.out).2.2);(case side8=>exact(Kd.R_reads' HO4.out).2.1);rintro e w5 ⟨v6,v7,v8,v9,rfl,ho1,ho2,ho3,ho4,hb⟩;refine⟨_,rfl,?_⟩;have HO6:=C (Kd.R_lower (Kd.R_new' ho1 (Kd.R_lt (uR HO1.out))) (below_size uB));have HO7:=C (Kd.Q_lower (Kd.Q_new' (Kd.Q_new' (Kd.Q_new' ho2 (Kd.Q_lt (uQ HO2.out))) (Kd.R_lt (uR HO3.out))) (Kd.R_lt (uR HO5.out))) (below_size uB));have HO8:=C (Kd.R_lower (Kd.R_new' (Kd.R_new' (Kd.R_new' ho3 (Kd.Q_lt (uQ HO2.out))) (Kd.R_lt (uR HO3.out))) (Kd.R_lt (uR HO5.out))) (below_size uB));have HO9:=C (Kd.R_lower (Kd.R_new' (Kd.R_new' (Kd.R_new' ho4 (Kd.Q_lt (uQ HO2.out))) (Kd.R_lt (uR HO3.out))) (Kd.R_lt (uR HO5.out))) (below_size uB));replace HO1:=C (Kd.R_elder' (uR HO1.out) (Kd.R_base ho1) hb);replace HO2:=C (Kd.Q_mono (Kd.Q_told (Kd.Q_told (Kd.Q_told (Kd.Q_old (uQ HO2.out) hb) (Kd.Q_base ho2)) (Kd.R_base ho3)) (Kd.R_base ho4)) (fun _ h_=>h_.1));replace HO3:=C (X (Kd.R_told (Kd.R_told (Kd.R_told (Kd.R_old (uR HO3.out) hb) (Kd.Q_base ho2)) (Kd.R_base ho3)) (Kd.R_base ho4)) (fun _ h_=>h_.1));replace HO4:=eR HO4 hb;replace HO5:=C (X (Kd.R_told (Kd.R_told (Kd.R_told (Kd.R_old (uR HO5.out) hb) (Kd.Q_base ho2)) (Kd.R_base ho3)) (Kd.R_base ho4)) (fun _ h_=>h_.1));replace BK1:=eK BK1 hb;replace HB:=eB hb;clear hb ho1 ho2 ho3 ho4)|((with_reducible refine gate_dst (N:=7) rfl ?_);(try(refine gate_guard (by rfl) ?_;dsimp only));refine Fix.be 7 #[L none 0 0,V I 0,V I 0,V I 0,O false,V I 0,O false,V I 0,V I 0,L none 0 0,L none 0 0,V I 0,O false,V I 0] 45 ?_;intro gb2 hg w6 BK2 hb;have GW2:D (w.heap.size≤gb2):=gE hg;have GE2:=GW2;have NB1_1026:=nL hg BK1;have NB2_998:=nG hg BK1;replace HO1:=eR HO1 hb;replace HO2:=eQ HO2 hb;replace HO3:=eR HO3 hb;replace HO4:=eR HO4 hb;replace HO5:=eR HO5 hb;replace HO6:=eR HO6 hb;replace HO7:=eQ HO7 hb;replace HO8:=eR HO8 hb;replace HO9:=eR HO9 hb;replace BK1:=eK BK1 hb;replace HB:=eB hb;clear hb hg;obtain⟨Ao6,co6,eo6⟩:=U HO6.out;subst eo6;have hnb1:=NB2_998.out;have hnc1:=NB1_1026.out;have h_:=d14 BK2.out;(repeat(obtain⟨_,h_⟩:=h_));obtain⟨Ao7,co7,eo7,_⟩:=Kd.Q_slice HO7.out;subst eo7;obtain⟨Ao8,co8,eo8⟩:=U HO8.out;subst eo8))
 obtain⟨w7,hw⟩:∃w_,w_=(((((((((((((w6.setCell ⟨gb2,0,none⟩ (L Ao6 t18.length co6)).setCell ⟨gb2,1,none⟩ (V I t19)).setCell ⟨gb2,2,none⟩ (V I t20)).setCell ⟨gb2,3,none⟩ (V I t21)).setCell ⟨gb2,4,none⟩ (O t22)).setCell ⟨gb2,5,none⟩ (V I t23)).setCell ⟨gb2,6,none⟩ (O t24)).setCell ⟨gb2,7,none⟩ (V I t25)).setCell ⟨gb2,8,none⟩ (V I t26)).setCell ⟨gb2,9,none⟩ (L Ao7 t27.length co7)).setCell ⟨gb2,10,none⟩ (L Ao8 t28.length co8)).setCell ⟨gb2,11,none⟩ (V I t29)).setCell ⟨gb2,12,none⟩ (O t30)).setCell ⟨gb2,13,none⟩ (V I t31):=⟨_,rfl⟩
 (try rw[←hw])
 replace HO1:D (Kd.R _ _ _ _ (fun k_=>qn k_ Ao6 t18.length co6) _ _):=tR hw (Y HO1.out BK2.out (by decide)) (fun _ hk=>hk.1.2)
 replace HO2:D (Kd.Q _ _ _ _ (fun k_=>qn k_ Ao3 t12.length co3∧qn k_ (some ad1) t17.length co4∧qn k_ Ao7 t27.length co7∧qn k_ Ao8 t28.length co8∧qm k_ v9) _ _):=tQ hw (Kd.Q_types HO2.out BK2.out (by decide)) (fun _ hk=>⟨hk.1.1.1.1.1,⟨hk.1.1.1.1.2,⟨hk.1.1.1.2,⟨hk.1.1.2,hk.1.2⟩⟩⟩⟩)
 replace HO3:D (Kd.R _ _ _ _ (fun k_=>qn k_ Ao2 t11.length co2∧qn k_ (some ad1) t17.length co4∧qn k_ Ao7 t27.length co7∧qn k_ Ao8 t28.length co8∧qm k_ v9) _ _):=tR hw (Y HO3.out BK2.out (by decide)) (fun _ hk=>⟨hk.1.1.1.1.1,⟨hk.1.1.1.1.2,⟨hk.1.1.1.2,⟨hk.1.1.2,hk.1.2⟩⟩⟩⟩)
 replace HO4:D (Kd.R _ _ _ _ (fun _=>True) _ _):=tR hw (Y HO4.out BK2.out (by decide)) (fun _ hk=>trivial)
 replace HO5:D (Kd.R _ _ _ _ (fun k_=>qn k_ Ao2 t11.length co2∧qn k_ Ao3 t12.length co3∧qn k_ Ao7 t27.length co7∧qn k_ Ao8 t28.length co8∧qm k_ v9) _ _):=tR hw (Y HO5.out BK2.out (by decide)) (fun _ hk=>⟨hk.1.1.1.1.1.2,⟨hk.1.1.1.1.2,⟨hk.1.1.1.2,⟨hk.1.1.2,hk.1.2⟩⟩⟩⟩)
 replace HO6:D (Kd.R _ _ _ _ (fun k_=>qn k_ Ao1 t2.length co1) _ _):=tR hw (Y HO6.out BK2.out (by decide)) (fun _ hk=>hk.1.2)
 replace HO7:D (Kd.Q _ _ _ _ (fun k_=>qn k_ Ao2 t11.length co2∧qn k_ Ao3 t12.length co3∧qn k_ (some ad1) t17.length co4∧qn k_ Ao8 t28.length co8∧qm k_ v9) _ _):=tQ hw (Kd.Q_types HO7.out BK2.out (by decide)) (fun _ hk=>⟨hk.1.1.1.2,⟨hk.1.1.2,⟨hk.1.2,⟨hk.1.1.1.1.1,hk.1.1.1.1.2⟩⟩⟩⟩)
 replace HO8:D (Kd.R _ _ _ _ (fun k_=>qn k_ Ao2 t11.length co2∧qn k_ Ao3 t12.length co3∧qn k_ (some ad1) t17.length co4∧qn k_ Ao7 t27.length co7∧qm k_ v9) _ _):=tR hw (Y HO8.out BK2.out (by decide)) (fun _ hk=>⟨hk.1.1.1.2,⟨hk.1.1.2,⟨hk.1.2,⟨hk.1.1.1.1.1,hk.1.1.1.1.2⟩⟩⟩⟩)
 replace HO9:D (Kd.R _ _ _ _ (fun k_=>qn k_ Ao2 t11.length co2∧qn k_ Ao3 t12.length co3∧qn k_ (some ad1) t17.length co4∧qn k_ Ao7 t27.length co7∧qn k_ Ao8 t28.length co8) _ _):=tR hw (Y HO9.out BK2.out (by decide)) (fun _ hk=>⟨hk.1.1.1.2,⟨hk.1.1.2,⟨hk.1.2,⟨hk.1.1.1.1.1,hk.1.1.1.1.2⟩⟩⟩⟩)
 replace BK1:=wK hw BK1
 replace BK2:D (w7.heap[gb2]? =some (.cells #[L Ao6 t18.length co6,V I t19,V I t20,V I t21,O t22,V I t23,O t24,V I t25,V I t26,L Ao7 t27.length co7,L Ao8 t28.length co8,V I t29,O t30,V I t31] 45 (0,0))):=⟨(by rw[hw];exact(bK BK2.out))⟩
 replace HB:=wB hw
 clear hw
 replace HO1:=dR HO1
 replace HO2:=dQ HO2
 replace HO3:=dR HO3
 replace HO4:=dR HO4
 replace HO5:=dR HO5
 replace HO6:=dR HO6
 replace HO7:=dQ HO7
 replace HO8:=dR HO8
 replace HO9:=dR HO9
 replace BK1:=dK BK1
 replace BK2:=dK BK2
 replace HB:=dB HB
 have q2:((ji1):Int)≤((t16.length:Int):Int):=of_decide_eq_true (by first|(with_reducible assumption)|assumption)
 obtain⟨i044,hi1,_,hsz1,_⟩:=info_parts info26
 have hroom1:t16.length≤co5:=(Kd.R_reads' HO4.out).2.1
 have hC1:Kd.C k26 _ Ao5 t16.length t16:=(Kd.R_reads' HO4.out).2.2
 have hcut1:=cut_to (P:=Tryd.prog) 32 26 .i64 Tryd.underlying32 hi1 Ao5 t16.length co5 (ji1) (of_decide_eq_true (by first|(with_reducible assumption)|assumption)) q2 hroom1
 have hr1:=Kd.C_take (m:=((ji1):Int).toNat) hC1 (by omega)
 have hy6:y3.length=((ji1):Int).toNat:=(by rw[Ny1.out,List.length_take];omega)
 rw[←Ny1.out]at hr1
 rw[←hy6]at hcut1
 have HR2:=C hr1
 have HC2:=C (show y3.length≤co5 from by omega)
 clear hr1 hC1 hroom1 hi1 hsz1
 have KY1:=C hy6
 (try clear hy6)
 have KL1:=C (show((ji1):Int).toNat≤t16.length from by omega)
 replace q2:=eq_true q2
 refine start_ (n:=11) (S:=fun w'=>cl14 w' gb1 (L Ao1 t2.length co1) (V I t3) (V I t4) (V I t5) (O t6) (V I t7) (O t8) (V I t9) (V I t10) (L Ao2 t11.length co2) (L Ao3 t12.length co3) (V I t13) (O t14) (V I t15)) (ds:= []) #[false,false,false,false,false,false,false,false,false,false,false] (by kernel_rfl) rfl rfl hh (fun hHeld=> ?_);refine with_tabW laws_FnActParts.tab7 laws_FnActParts.bits7 (fun HT_ HW_=> ?_)
 generalize w7.drew=w8 at HO1 HO2 HO3 HO4 HO5 HO6 HO7 HO8 HO9 BK1 BK2 HB HR2 hHeld ⊢
 refine pu 1 (some 39) ?_
 refine pu 2 (some 40) ?_
 refine pu 3 (some 41) ?_
 refine tu 0 (some 38) hHeld ?_
 refine join_ (σ:=Value×Value×Value×Value×Nat) 2 #[true,true,true,true,true,true,true,true,true,false,false] (fun s_=> [(42,.tuple #[G #[s_.1,V I t38,V I t39,V I t40,O t41,V I t42,O t43,V I t44,V I t45,s_.2.1,s_.2.2.1,V I t48,O t49,V I t50],s_.2.2.2.1]),(9,.pointer (some ⟨s_.2.2.2.2,0,none⟩)),(37,.tuple #[G #[s_.1,V I t38,V I t39,V I t40,O t41,V I t42,O t43,V I t44,V I t45,s_.2.1,s_.2.2.1,V I t48,O t49,V I t50],s_.2.2.2.1]),(43,G #[s_.1,V I t38,V I t39,V I t40,O t41,V I t42,O t43,V I t44,V I t45,s_.2.1,s_.2.2.1,V I t48,O t49,V I t50]),(44,s_.2.2.2.1)]) (fun s_ w'=>(cl14 w' gb1 (L Ao1 t2.length co1) (V I t3) (V I t4) (V I t5) (O t6) (V I t7) (O t8) (V I t9) (V I t10) (L Ao2 t11.length co2) (L Ao3 t12.length co3) (V I t13) (O t14) (V I t15))∧(Kd.R (Kd.int .i64) 3 w' w.heap.size (fun k_=>qn k_ Ao7 t27.length co7∧qn k_ Ao8 t28.length co8∧qm k_ v9∧some k_≠(s_.2.1:Value).ownBlock∧some k_≠(s_.2.2.1:Value).ownBlock∧some k_≠(s_.2.2.2.1:Value).ownBlock∧qn k_ Ao2 t11.length co2∧qn k_ Ao3 t12.length co3) (L (some ad1) t17.length co4) t17)∧(Kd.R k40 40 w' w.heap.size (fun k_=>some k_≠(s_.1:Value).ownBlock∧qn k_ Ao1 t2.length co1) (L Ao6 t18.length co6) t18)∧(Kd.Q (Kd.int .i64) 3 w' w.heap.size (fun k_=>qn k_ (some ad1) t17.length co4∧qn k_ Ao8 t28.length co8∧qm k_ v9∧some k_≠(s_.2.1:Value).ownBlock∧some k_≠(s_.2.2.1:Value).ownBlock∧some k_≠(s_.2.2.2.1:Value).ownBlock∧qn k_ Ao2 t11.length co2∧qn k_ Ao3 t12.length co3) (L Ao7 t27.length co7) t27)∧(Kd.R (Kd.int .i64) 3 w' w.heap.size (fun k_=>qn k_ (some ad1) t17.length co4∧qn k_ Ao7 t27.length co7∧qm k_ v9∧some k_≠(s_.2.1:Value).ownBlock∧some k_≠(s_.2.2.1:Value).ownBlock∧some k_≠(s_.2.2.2.1:Value).ownBlock∧qn k_ Ao2 t11.length co2∧qn k_ Ao3 t12.length co3) (L Ao8 t28.length co8) t28)∧(Kd.R (Kd.int .i64) 3 w' w.heap.size (fun k_=>qn k_ (some ad1) t17.length co4∧qn k_ Ao7 t27.length co7∧qn k_ Ao8 t28.length co8∧some k_≠(s_.2.1:Value).ownBlock∧some k_≠(s_.2.2.1:Value).ownBlock∧some k_≠(s_.2.2.2.1:Value).ownBlock∧qn k_ Ao2 t11.length co2∧qn k_ Ao3 t12.length co3) v9 t32)∧(Kd.R k40 40 w' w.heap.size (fun k_=>qn k_ Ao6 t18.length co6∧qn k_ Ao1 t2.length co1) s_.1 t37)∧(Kd.Q (Kd.int .i64) 3 w' w.heap.size (fun k_=>qn k_ (some ad1) t17.length co4∧qn k_ Ao7 t27.length co7∧qn k_ Ao8 t28.length co8∧qm k_ v9∧some k_≠(s_.2.2.1:Value).ownBlock∧some k_≠(s_.2.2.2.1:Value).ownBlock∧qn k_ Ao2 t11.length co2∧qn k_ Ao3 t12.length co3) s_.2.1 t46)∧(Kd.R (Kd.int .i64) 3 w' w.heap.size (fun k_=>qn k_ (some ad1) t17.length co4∧qn k_ Ao7 t27.length co7∧qn k_ Ao8 t28.length co8∧qm k_ v9∧some k_≠(s_.2.1:Value).ownBlock∧some k_≠(s_.2.2.2.1:Value).ownBlock∧qn k_ Ao2 t11.length co2∧qn k_ Ao3 t12.length co3) s_.2.2.1 t47)∧(Kd.R (Kd.int .i64) 3 w' w.heap.size (fun k_=>qn k_ (some ad1) t17.length co4∧qn k_ Ao7 t27.length co7∧qn k_ Ao8 t28.length co8∧qm k_ v9∧some k_≠(s_.2.1:Value).ownBlock∧some k_≠(s_.2.2.1:Value).ownBlock∧qn k_ Ao2 t11.length co2∧qn k_ Ao3 t12.length co3) s_.2.2.2.1 t51)∧(Kd.R k40 40 w' w.heap.size (fun k_=>qn k_ Ao6 t18.length co6∧some k_≠(s_.1:Value).ownBlock) (L Ao1 t2.length co1) t2)∧(Kd.Q (Kd.int .i64) 3 w' w.heap.size (fun k_=>qn k_ (some ad1) t17.length co4∧qn k_ Ao7 t27.length co7∧qn k_ Ao8 t28.length co8∧qm k_ v9∧some k_≠(s_.2.1:Value).ownBlock∧some k_≠(s_.2.2.1:Value).ownBlock∧some k_≠(s_.2.2.2.1:Value).ownBlock∧qn k_ Ao3 t12.length co3) (L Ao2 t11.length co2) t11)∧(Kd.R (Kd.int .i64) 3 w' w.heap.size (fun k_=>qn k_ (some ad1) t17.length co4∧qn k_ Ao7 t27.length co7∧qn k_ Ao8 t28.length co8∧qm k_ v9∧some k_≠(s_.2.1:Value).ownBlock∧some k_≠(s_.2.2.1:Value).ownBlock∧some k_≠(s_.2.2.2.1:Value).ownBlock∧qn k_ Ao2 t11.length co2) (L Ao3 t12.length co3) t12)∧(Kd.R k26 26 w' w.heap.size (fun _=>True) (L Ao5 t16.length co5) t16)∧(w'.heap[gb2]? =some (.cells #[L Ao6 t18.length co6,V I t19,V I t20,V I t21,O t22,V I t23,O t24,V I t25,V I t26,L Ao7 t27.length co7,L Ao8 t28.length co8,V I t29,O t30,V I t31] 45 (0,0)))∧(w'.heap[s_.2.2.2.2]? =some (.cells #[L none 0 0,V I 0,V I 0,V I 0,O false,V I 0,O false,V I 0,V I 0,L none 0 0,L none 0 0,V I 0,O false,V I 0] 45 (0,0)))∧(w'.heap[gb1]? =some (.cells #[L Ao1 t2.length co1,V I t3,V I t4,V I t5,O t6,V I t7,O t8,V I t9,V I t10,L Ao2 t11.length co2,L Ao3 t12.length co3,V I t13,O t14,V I t15] 45 (0,0)))∧(w.heap.size≤s_.2.2.2.2)∧(w.heap.size≤s_.2.2.2.2)∧(gb2≠s_.2.2.2.2)∧(s_.2.2.2.2≠gb2)∧(gb1≠s_.2.2.2.2)∧(s_.2.2.2.2≠gb1)∧(Below w.heap.size w w')) ?_ ?_
 rotate_left
 ·intro hCont
  refine two_ (i:=4) (j:=8) (Ni:=some 42) (Nj:=some 9) #[true,true,true,true,true,false,false,false,false,false,false] #[true,true,true,true,false,false,false,false,true,false,false] rfl rfl rfl rfl (two_of HT_.out (by kernel_rfl)) (by decide) (by decide) (fun K hK=> ?_) (fun K hK=> ?_)
  ·skip
   refine gs Tryd.func29 #[G #[L Ao1 t2.length co1,V I t3,V I t4,V I t5,O t6,V I t7,O t8,V I t9,V I t10,L Ao2 t11.length co2,L Ao3 t12.length co3,V I t13,O t14,V I t15],L Ao5 y3.length co5] ?_
   with_reducible refine(impl_RunActs.calls k _ _ t2 t3 t4 t5 t6 t7 t8 t9 t10 _ _ t11 _ _ t12 t13 t14 t15 _ _ y3 t37 t38 t39 t40 t41 t42 t43 t44 t45 t46 t47 t48 t49 t50 t51 _ ?side1 ?side2 ?side3 ?side4 ?side5 ?side6 ?side7 ?side8 A6.out).mono ?_
   (case side1=>exact uC (Kd.R_reads' HO1.out).2.2)
   (case side2=>exact(Kd.R_reads' HO1.out).2.1)
   (case side3=>exact uC (Kd.Q_reads' HO2.out).2.2)
   (case side4=>exact(Kd.Q_reads' HO2.out).2.1)
   (case side5=>exact uC (Kd.R_reads' HO3.out).2.2)
   (case side6=>exact(Kd.R_reads' HO3.out).2.1)
   (case side7=>repeat(first|exact(by repeat(first|(with_reducible exact HR2.out)|(with_reducible refine Kd.C_alloc ?_ _)|(with_reducible refine Kd.C_drewN ?_ _)|(with_reducible refine Kd.C_drew ?_)|exact HR2.out))|(with_reducible refine Kd.C_alloc ?_ _)|(with_reducible refine Kd.C_drewN ?_ _)|(with_reducible refine Kd.C_drew ?_)))
   (case side8=>exact HC2.out)
   rintro e w9 ⟨v10,v11,v12,v13,rfl,ho1,ho2,ho3,ho4,hb⟩
   refine⟨_,rfl,?_⟩
   have HO10:=C (Kd.R_lower (Kd.R_new' (Kd.R_new' ho1 (Kd.R_lt (uR HO1.out))) (Kd.R_lt (uR HO6.out))) (below_size uB))
   have HO11:=C (Kd.Q_lower (Kd.Q_new' (Kd.Q_new' (Kd.Q_new' (Kd.Q_new' (Kd.Q_new' (Kd.Q_new' ho2 (Kd.Q_lt (uQ HO2.out))) (Kd.R_lt (uR HO3.out))) (Kd.R_lt (uR HO5.out))) (Kd.Q_lt (uQ HO7.out))) (Kd.R_lt (uR HO8.out))) (Kd.R_lt (uR HO9.out))) (below_size uB))
   have HO12:=C (Kd.R_lower (Kd.R_new' (Kd.R_new' (Kd.R_new' (Kd.R_new' (Kd.R_new' (Kd.R_new' ho3 (Kd.Q_lt (uQ HO2.out))) (Kd.R_lt (uR HO3.out))) (Kd.R_lt (uR HO5.out))) (Kd.Q_lt (uQ HO7.out))) (Kd.R_lt (uR HO8.out))) (Kd.R_lt (uR HO9.out))) (below_size uB))
   have HO13:=C (Kd.R_lower (Kd.R_new' (Kd.R_new' (Kd.R_new' (Kd.R_new' (Kd.R_new' (Kd.R_new' ho4 (Kd.Q_lt (uQ HO2.out))) (Kd.R_lt (uR HO3.out))) (Kd.R_lt (uR HO5.out))) (Kd.Q_lt (uQ HO7.out))) (Kd.R_lt (uR HO8.out))) (Kd.R_lt (uR HO9.out))) (below_size uB))
   replace HO1:=C (Kd.R_elder' (uR HO1.out) (Kd.R_base ho1) hb)
   replace HO2:=C (Kd.Q_mono (Kd.Q_told (Kd.Q_told (Kd.Q_told (Kd.Q_old (uQ HO2.out) hb) (Kd.Q_base ho2)) (Kd.R_base ho3)) (Kd.R_base ho4)) (fun _ h_=>h_.1))
   replace HO3:=C (X (Kd.R_told (Kd.R_told (Kd.R_told (Kd.R_old (uR HO3.out) hb) (Kd.Q_base ho2)) (Kd.R_base ho3)) (Kd.R_base ho4)) (fun _ h_=>h_.1))
   replace HO4:=eR HO4 hb
   replace HO5:=C (X (Kd.R_told (Kd.R_told (Kd.R_told (Kd.R_old (uR HO5.out) hb) (Kd.Q_base ho2)) (Kd.R_base ho3)) (Kd.R_base ho4)) (fun _ h_=>h_.1))
   replace HO6:=C (Kd.R_elder' (uR HO6.out) (Kd.R_base ho1) hb)
   replace HO7:=C (Kd.Q_mono (Kd.Q_told (Kd.Q_told (Kd.Q_told (Kd.Q_old (uQ HO7.out) hb) (Kd.Q_base ho2)) (Kd.R_base ho3)) (Kd.R_base ho4)) (fun _ h_=>h_.1))
   replace HO8:=C (X (Kd.R_told (Kd.R_told (Kd.R_told (Kd.R_old (uR HO8.out) hb) (Kd.Q_base ho2)) (Kd.R_base ho3)) (Kd.R_base ho4)) (fun _ h_=>h_.1))
   replace HO9:=C (X (Kd.R_told (Kd.R_told (Kd.R_told (Kd.R_old (uR HO9.out) hb) (Kd.Q_base ho2)) (Kd.R_base ho3)) (Kd.R_base ho4)) (fun _ h_=>h_.1))
   replace BK1:=eK BK1 hb
   replace BK2:=eK BK2 hb
   replace HR2:=C (Kd.C_below (by repeat(first|(with_reducible exact HR2.out)|(with_reducible refine Kd.C_alloc ?_ _)|(with_reducible refine Kd.C_drewN ?_ _)|(with_reducible refine Kd.C_drew ?_)|exact HR2.out)) hb)
   replace HB:=eB hb
   (try clear hb)
   refine hK.out _ _ hh (fun hHeld=> ?_)
   clear hK K
   refine nu (N:=(some 42)) ?_
   refine pu 5 (some 37) ?_
   refine pu 6 (some 43) ?_
   refine pu 7 (some 44) ?_
   refine ou 8 (some 9) (fun K hK=> ?_)
   refine box_step ?hg (N:=9) ?hd (cs:= #[L none 0 0,V I 0,V I 0,V I 0,O false,V I 0,O false,V I 0,V I 0,L none 0 0,L none 0 0,V I 0,O false,V I 0]) (t:=45) ?hr ?_;(case hd=>rfl);(case hg=>rfl);(case hr=>exact Fix.hr)
   intro gb3 hg w10 hbox hb
   have BK3:=C hbox
   have GW3:D (w.heap.size≤gb3):=gE hg
   have GE3:D (w.heap.size≤gb3):=gE hg
   have NB1_1054:=nL hg BK1
   have NB3_998:=nG hg BK1
   have NB2_1054:=nL hg BK2
   have NB3_1026:=nG hg BK2
   replace HO1:=eR HO1 hb
   replace HO2:=eQ HO2 hb
   replace HO3:=eR HO3 hb
   replace HO4:=eR HO4 hb
   replace HO5:=eR HO5 hb
   replace HO6:=eR HO6 hb
   replace HO7:=eQ HO7 hb
   replace HO8:=eR HO8 hb
   replace HO9:=eR HO9 hb
   replace HO10:=eR HO10 hb
   replace HO11:=eQ HO11 hb
   replace HO12:=eR HO12 hb
   replace HO13:=eR HO13 hb
   replace BK1:=eK BK1 hb
   replace BK2:=eK BK2 hb
   replace HR2:=C (Kd.C_below (by repeat(first|(with_reducible exact HR2.out)|(with_reducible refine Kd.C_alloc ?_ _)|(with_reducible refine Kd.C_drewN ?_ _)|(with_reducible refine Kd.C_drew ?_)|exact HR2.out)) hb)
   replace HB:=eB hb
   clear hb hbox hg
   refine hK.out _ _ hh (fun hHeld=> ?_)
   clear hK K
   refine nu (N:=(some 9)) ?_
   exact norm_ (by simp only[putAll,Act.put,List.setIfInBounds_toArray,List.set_cons_zero,List.set_cons_succ]) (hCont (v10,v11,v12,v13,gb3) _ ⟨hHeld,(X (fR HO5.out) (fun _ hk=>⟨hk.1.1.1.2.2.1,⟨hk.1.1.1.2.2.2.1,⟨hk.1.1.1.2.2.2.2,⟨hk.1.1.2,⟨hk.1.2,⟨hk.2,⟨hk.1.1.1.1,hk.1.1.1.2.1⟩⟩⟩⟩⟩⟩⟩)),(X (fR HO6.out) (fun _ hk=>⟨hk.2,hk.1⟩)),(Kd.Q_mono (fQ HO7.out) (fun _ hk=>⟨hk.1.1.1.2.2.1,⟨hk.1.1.1.2.2.2.1,⟨hk.1.1.1.2.2.2.2,⟨hk.1.1.2,⟨hk.1.2,⟨hk.2,⟨hk.1.1.1.1,hk.1.1.1.2.1⟩⟩⟩⟩⟩⟩⟩)),(X (fR HO8.out) (fun _ hk=>⟨hk.1.1.1.2.2.1,⟨hk.1.1.1.2.2.2.1,⟨hk.1.1.1.2.2.2.2,⟨hk.1.1.2,⟨hk.1.2,⟨hk.2,⟨hk.1.1.1.1,hk.1.1.1.2.1⟩⟩⟩⟩⟩⟩⟩)),(X (fR HO9.out) (fun _ hk=>⟨hk.1.1.1.2.2.1,⟨hk.1.1.1.2.2.2.1,⟨hk.1.1.1.2.2.2.2,⟨hk.1.1.2,⟨hk.1.2,⟨hk.2,⟨hk.1.1.1.1,hk.1.1.1.2.1⟩⟩⟩⟩⟩⟩⟩)),(X (fR HO10.out) (fun _ hk=>⟨hk.2,hk.1.2⟩)),(Kd.Q_mono (fQ HO11.out) (fun _ hk=>⟨hk.1.1.1.2,⟨hk.1.1.2,⟨hk.1.2,⟨hk.2,⟨hk.1.1.1.1.1.1.1,⟨hk.1.1.1.1.1.1.2,⟨hk.1.1.1.1.1.2,hk.1.1.1.1.2⟩⟩⟩⟩⟩⟩⟩)),(X (fR HO12.out) (fun _ hk=>⟨hk.1.1.1.2,⟨hk.1.1.2,⟨hk.1.2,⟨hk.2,⟨hk.1.1.1.1.1.1.1,⟨hk.1.1.1.1.1.1.2,⟨hk.1.1.1.1.1.2,hk.1.1.1.1.2⟩⟩⟩⟩⟩⟩⟩)),(X (fR HO13.out) (fun _ hk=>⟨hk.1.1.1.2,⟨hk.1.1.2,⟨hk.1.2,⟨hk.2,⟨hk.1.1.1.1.1.1.1,⟨hk.1.1.1.1.1.1.2,⟨hk.1.1.1.1.1.2,hk.1.1.1.1.2⟩⟩⟩⟩⟩⟩⟩)),(uR HO1.out),(Kd.Q_mono (fQ HO2.out) (fun _ hk=>⟨hk.1.1.1.2.1,⟨hk.1.1.1.2.2.1,⟨hk.1.1.1.2.2.2.1,⟨hk.1.1.1.2.2.2.2,⟨hk.1.1.2,⟨hk.1.2,⟨hk.2,hk.1.1.1.1⟩⟩⟩⟩⟩⟩⟩)),(X (fR HO3.out) (fun _ hk=>⟨hk.1.1.1.2.1,⟨hk.1.1.1.2.2.1,⟨hk.1.1.1.2.2.2.1,⟨hk.1.1.1.2.2.2.2,⟨hk.1.1.2,⟨hk.1.2,⟨hk.2,hk.1.1.1.1⟩⟩⟩⟩⟩⟩⟩)),(uR HO4.out),(uK BK2.out),(uK BK3.out),(uK BK1.out),GW3.out,GE3.out,NB2_1054.out,NB3_1026.out,NB1_1054.out,NB3_998.out,uB⟩)
  ·skip
   refine box_step ?hg (N:=9) ?hd (cs:= #[L none 0 0,V I 0,V I 0,V I 0,O false,V I 0,O false,V I 0,V I 0,L none 0 0,L none 0 0,V I 0,O false,V I 0]) (t:=45) ?hr ?_;(case hd=>rfl);(case hg=>rfl);(case hr=>exact Fix.hr)
   intro gb3 hg w9 hbox hb
   have BK3:=C hbox
   have GW3:D (w.heap.size≤gb3):=gE hg
   have GE3:D (w.heap.size≤gb3):=gE hg
   have NB1_1054:=nL hg BK1
   have NB3_998:=nG hg BK1
   have NB2_1054:=nL hg BK2
   have NB3_1026:=nG hg BK2
   replace HO1:=eR HO1 hb
   replace HO2:=eQ HO2 hb
   replace HO3:=eR HO3 hb
   replace HO4:=eR HO4 hb
   replace HO5:=eR HO5 hb
   replace HO6:=eR HO6 hb
   replace HO7:=eQ HO7 hb
   replace HO8:=eR HO8 hb
   replace HO9:=eR HO9 hb
   replace BK1:=eK BK1 hb
   replace BK2:=eK BK2 hb
   replace HR2:=C (Kd.C_below (by repeat(first|(with_reducible exact HR2.out)|(with_reducible refine Kd.C_alloc ?_ _)|(with_reducible refine Kd.C_drewN ?_ _)|(with_reducible refine Kd.C_drew ?_)|exact HR2.out)) hb)
   replace HB:=eB hb
   clear hb hbox hg
   refine hK.out _ _ hh (fun hHeld=> ?_)
   clear hK K
   refine nu (N:=(some 9)) ?_
   refine ou 4 (some 42) (fun K hK=> ?_)
   refine gs Tryd.func29 #[G #[L Ao1 t2.length co1,V I t3,V I t4,V I t5,O t6,V I t7,O t8,V I t9,V I t10,L Ao2 t11.length co2,L Ao3 t12.length co3,V I t13,O t14,V I t15],L Ao5 y3.length co5] ?_
   with_reducible refine(impl_RunActs.calls k _ _ t2 t3 t4 t5 t6 t7 t8 t9 t10 _ _ t11 _ _ t12 t13 t14 t15 _ _ y3 t37 t38 t39 t40 t41 t42 t43 t44 t45 t46 t47 t48 t49 t50 t51 _ ?side1 ?side2 ?side3 ?side4 ?side5 ?side6 ?side7 ?side8 A6.out).mono ?_
   (case side1=>exact uC (Kd.R_reads' HO1.out).2.2)
   (case side2=>exact(Kd.R_reads' HO1.out).2.1)
   (case side3=>exact uC (Kd.Q_reads' HO2.out).2.2)
   (case side4=>exact(Kd.Q_reads' HO2.out).2.1)
   (case side5=>exact uC (Kd.R_reads' HO3.out).2.2)
   (case side6=>exact(Kd.R_reads' HO3.out).2.1)
   (case side7=>repeat(first|exact(by repeat(first|(with_reducible exact HR2.out)|(with_reducible refine Kd.C_alloc ?_ _)|(with_reducible refine Kd.C_drewN ?_ _)|(with_reducible refine Kd.C_drew ?_)|exact HR2.out))|(with_reducible refine Kd.C_alloc ?_ _)|(with_reducible refine Kd.C_drewN ?_ _)|(with_reducible refine Kd.C_drew ?_)))
   (case side8=>exact HC2.out)
   rintro e w10 ⟨v10,v11,v12,v13,rfl,ho1,ho2,ho3,ho4,hb⟩
   refine⟨_,rfl,?_⟩
   have HO10:=C (Kd.R_lower (Kd.R_new' (Kd.R_new' ho1 (Kd.R_lt (uR HO1.out))) (Kd.R_lt (uR HO6.out))) (below_size uB))
   have HO11:=C (Kd.Q_lower (Kd.Q_new' (Kd.Q_new' (Kd.Q_new' (Kd.Q_new' (Kd.Q_new' (Kd.Q_new' ho2 (Kd.Q_lt (uQ HO2.out))) (Kd.R_lt (uR HO3.out))) (Kd.R_lt (uR HO5.out))) (Kd.Q_lt (uQ HO7.out))) (Kd.R_lt (uR HO8.out))) (Kd.R_lt (uR HO9.out))) (below_size uB))
   have HO12:=C (Kd.R_lower (Kd.R_new' (Kd.R_new' (Kd.R_new' (Kd.R_new' (Kd.R_new' (Kd.R_new' ho3 (Kd.Q_lt (uQ HO2.out))) (Kd.R_lt (uR HO3.out))) (Kd.R_lt (uR HO5.out))) (Kd.Q_lt (uQ HO7.out))) (Kd.R_lt (uR HO8.out))) (Kd.R_lt (uR HO9.out))) (below_size uB))
   have HO13:=C (Kd.R_lower (Kd.R_new' (Kd.R_new' (Kd.R_new' (Kd.R_new' (Kd.R_new' (Kd.R_new' ho4 (Kd.Q_lt (uQ HO2.out))) (Kd.R_lt (uR HO3.out))) (Kd.R_lt (uR HO5.out))) (Kd.Q_lt (uQ HO7.out))) (Kd.R_lt (uR HO8.out))) (Kd.R_lt (uR HO9.out))) (below_size uB))
   replace HO1:=C (Kd.R_elder' (uR HO1.out) (Kd.R_base ho1) hb)
   replace HO2:=C (Kd.Q_mono (Kd.Q_told (Kd.Q_told (Kd.Q_told (Kd.Q_old (uQ HO2.out) hb) (Kd.Q_base ho2)) (Kd.R_base ho3)) (Kd.R_base ho4)) (fun _ h_=>h_.1))
   replace HO3:=C (X (Kd.R_told (Kd.R_told (Kd.R_told (Kd.R_old (uR HO3.out) hb) (Kd.Q_base ho2)) (Kd.R_base ho3)) (Kd.R_base ho4)) (fun _ h_=>h_.1))
   replace HO4:=eR HO4 hb
   replace HO5:=C (X (Kd.R_told (Kd.R_told (Kd.R_told (Kd.R_old (uR HO5.out) hb) (Kd.Q_base ho2)) (Kd.R_base ho3)) (Kd.R_base ho4)) (fun _ h_=>h_.1))
   replace HO6:=C (Kd.R_elder' (uR HO6.out) (Kd.R_base ho1) hb)
   replace HO7:=C (Kd.Q_mono (Kd.Q_told (Kd.Q_told (Kd.Q_told (Kd.Q_old (uQ HO7.out) hb) (Kd.Q_base ho2)) (Kd.R_base ho3)) (Kd.R_base ho4)) (fun _ h_=>h_.1))
   replace HO8:=C (X (Kd.R_told (Kd.R_told (Kd.R_told (Kd.R_old (uR HO8.out) hb) (Kd.Q_base ho2)) (Kd.R_base ho3)) (Kd.R_base ho4)) (fun _ h_=>h_.1))
   replace HO9:=C (X (Kd.R_told (Kd.R_told (Kd.R_told (Kd.R_old (uR HO9.out) hb) (Kd.Q_base ho2)) (Kd.R_base ho3)) (Kd.R_base ho4)) (fun _ h_=>h_.1))
   replace BK1:=eK BK1 hb
   replace BK2:=eK BK2 hb
   replace HR2:=C (Kd.C_below (by repeat(first|(with_reducible exact HR2.out)|(with_reducible refine Kd.C_alloc ?_ _)|(with_reducible refine Kd.C_drewN ?_ _)|(with_reducible refine Kd.C_drew ?_)|exact HR2.out)) hb)
   replace BK3:=eK BK3 hb
   replace HB:=eB hb
   (try clear hb)
   refine hK.out _ _ hh (fun hHeld=> ?_)
   clear hK K
   refine nu (N:=(some 42)) ?_
   refine pu 5 (some 37) ?_
   refine pu 6 (some 43) ?_
   refine pu 7 (some 44) ?_
   exact norm_ (by simp only[putAll,Act.put,List.setIfInBounds_toArray,List.set_cons_zero,List.set_cons_succ]) (hCont (v10,v11,v12,v13,gb3) _ ⟨hHeld,(X (fR HO5.out) (fun _ hk=>⟨hk.1.1.1.2.2.1,⟨hk.1.1.1.2.2.2.1,⟨hk.1.1.1.2.2.2.2,⟨hk.1.1.2,⟨hk.1.2,⟨hk.2,⟨hk.1.1.1.1,hk.1.1.1.2.1⟩⟩⟩⟩⟩⟩⟩)),(X (fR HO6.out) (fun _ hk=>⟨hk.2,hk.1⟩)),(Kd.Q_mono (fQ HO7.out) (fun _ hk=>⟨hk.1.1.1.2.2.1,⟨hk.1.1.1.2.2.2.1,⟨hk.1.1.1.2.2.2.2,⟨hk.1.1.2,⟨hk.1.2,⟨hk.2,⟨hk.1.1.1.1,hk.1.1.1.2.1⟩⟩⟩⟩⟩⟩⟩)),(X (fR HO8.out) (fun _ hk=>⟨hk.1.1.1.2.2.1,⟨hk.1.1.1.2.2.2.1,⟨hk.1.1.1.2.2.2.2,⟨hk.1.1.2,⟨hk.1.2,⟨hk.2,⟨hk.1.1.1.1,hk.1.1.1.2.1⟩⟩⟩⟩⟩⟩⟩)),(X (fR HO9.out) (fun _ hk=>⟨hk.1.1.1.2.2.1,⟨hk.1.1.1.2.2.2.1,⟨hk.1.1.1.2.2.2.2,⟨hk.1.1.2,⟨hk.1.2,⟨hk.2,⟨hk.1.1.1.1,hk.1.1.1.2.1⟩⟩⟩⟩⟩⟩⟩)),(X (fR HO10.out) (fun _ hk=>⟨hk.2,hk.1.2⟩)),(Kd.Q_mono (fQ HO11.out) (fun _ hk=>⟨hk.1.1.1.2,⟨hk.1.1.2,⟨hk.1.2,⟨hk.2,⟨hk.1.1.1.1.1.1.1,⟨hk.1.1.1.1.1.1.2,⟨hk.1.1.1.1.1.2,hk.1.1.1.1.2⟩⟩⟩⟩⟩⟩⟩)),(X (fR HO12.out) (fun _ hk=>⟨hk.1.1.1.2,⟨hk.1.1.2,⟨hk.1.2,⟨hk.2,⟨hk.1.1.1.1.1.1.1,⟨hk.1.1.1.1.1.1.2,⟨hk.1.1.1.1.1.2,hk.1.1.1.1.2⟩⟩⟩⟩⟩⟩⟩)),(X (fR HO13.out) (fun _ hk=>⟨hk.1.1.1.2,⟨hk.1.1.2,⟨hk.1.2,⟨hk.2,⟨hk.1.1.1.1.1.1.1,⟨hk.1.1.1.1.1.1.2,⟨hk.1.1.1.1.1.2,hk.1.1.1.1.2⟩⟩⟩⟩⟩⟩⟩)),(uR HO1.out),(Kd.Q_mono (fQ HO2.out) (fun _ hk=>⟨hk.1.1.1.2.1,⟨hk.1.1.1.2.2.1,⟨hk.1.1.1.2.2.2.1,⟨hk.1.1.1.2.2.2.2,⟨hk.1.1.2,⟨hk.1.2,⟨hk.2,hk.1.1.1.1⟩⟩⟩⟩⟩⟩⟩)),(X (fR HO3.out) (fun _ hk=>⟨hk.1.1.1.2.1,⟨hk.1.1.1.2.2.1,⟨hk.1.1.1.2.2.2.1,⟨hk.1.1.1.2.2.2.2,⟨hk.1.1.2,⟨hk.1.2,⟨hk.2,hk.1.1.1.1⟩⟩⟩⟩⟩⟩⟩)),(uR HO4.out),(uK BK2.out),(uK BK3.out),(uK BK1.out),GW3.out,GE3.out,NB2_1054.out,NB3_1026.out,NB1_1054.out,NB3_998.out,uB⟩)
 rintro⟨v10,v11,v12,v13,gb3⟩ w9 ⟨hS_,h1_,h2_,h3_,h4_,h5_,h6_,h7_,h8_,h9_,h10_,h11_,h12_,h13_,h14_,h15_,h16_,h17_,h18_,h19_,h20_,h21_,h22_,h23_⟩
 have n0_:D (Kd.R (Kd.int .i64) 3 w9 w.heap.size (fun k_=>qn k_ Ao7 t27.length co7∧qn k_ Ao8 t28.length co8∧qm k_ v9∧qm k_ v11∧qm k_ v12∧qm k_ v13∧qn k_ Ao2 t11.length co2∧qn k_ Ao3 t12.length co3) (L (some ad1) t17.length co4) t17):=⟨h1_⟩
 have n1_:D (Kd.R k40 40 w9 w.heap.size (fun k_=>qm k_ v10∧qn k_ Ao1 t2.length co1) (L Ao6 t18.length co6) t18):=⟨h2_⟩
 have n2_:D (Kd.Q (Kd.int .i64) 3 w9 w.heap.size (fun k_=>qn k_ (some ad1) t17.length co4∧qn k_ Ao8 t28.length co8∧qm k_ v9∧qm k_ v11∧qm k_ v12∧qm k_ v13∧qn k_ Ao2 t11.length co2∧qn k_ Ao3 t12.length co3) (L Ao7 t27.length co7) t27):=⟨h3_⟩
 have n3_:D (Kd.R (Kd.int .i64) 3 w9 w.heap.size (fun k_=>qn k_ (some ad1) t17.length co4∧qn k_ Ao7 t27.length co7∧qm k_ v9∧qm k_ v11∧qm k_ v12∧qm k_ v13∧qn k_ Ao2 t11.length co2∧qn k_ Ao3 t12.length co3) (L Ao8 t28.length co8) t28):=⟨h4_⟩
 have n4_:D (Kd.R (Kd.int .i64) 3 w9 w.heap.size (fun k_=>qn k_ (some ad1) t17.length co4∧qn k_ Ao7 t27.length co7∧qn k_ Ao8 t28.length co8∧qm k_ v11∧qm k_ v12∧qm k_ v13∧qn k_ Ao2 t11.length co2∧qn k_ Ao3 t12.length co3) v9 t32):=⟨h5_⟩
 have n5_:D (Kd.R k40 40 w9 w.heap.size (fun k_=>qn k_ Ao6 t18.length co6∧qn k_ Ao1 t2.length co1) v10 t37):=⟨h6_⟩
 have n6_:D (Kd.Q (Kd.int .i64) 3 w9 w.heap.size (fun k_=>qn k_ (some ad1) t17.length co4∧qn k_ Ao7 t27.length co7∧qn k_ Ao8 t28.length co8∧qm k_ v9∧qm k_ v12∧qm k_ v13∧qn k_ Ao2 t11.length co2∧qn k_ Ao3 t12.length co3) v11 t46):=⟨h7_⟩
 have n7_:D (Kd.R (Kd.int .i64) 3 w9 w.heap.size (fun k_=>qn k_ (some ad1) t17.length co4∧qn k_ Ao7 t27.length co7∧qn k_ Ao8 t28.length co8∧qm k_ v9∧qm k_ v11∧qm k_ v13∧qn k_ Ao2 t11.length co2∧qn k_ Ao3 t12.length co3) v12 t47):=⟨h8_⟩
 have n8_:D (Kd.R (Kd.int .i64) 3 w9 w.heap.size (fun k_=>qn k_ (some ad1) t17.length co4∧qn k_ Ao7 t27.length co7∧qn k_ Ao8 t28.length co8∧qm k_ v9∧qm k_ v11∧qm k_ v12∧qn k_ Ao2 t11.length co2∧qn k_ Ao3 t12.length co3) v13 t51):=⟨h9_⟩
 have n9_:D (Kd.R k40 40 w9 w.heap.size (fun k_=>qn k_ Ao6 t18.length co6∧qm k_ v10) (L Ao1 t2.length co1) t2):=⟨h10_⟩
 have n10_:D (Kd.Q (Kd.int .i64) 3 w9 w.heap.size (fun k_=>qn k_ (some ad1) t17.length co4∧qn k_ Ao7 t27.length co7∧qn k_ Ao8 t28.length co8∧qm k_ v9∧qm k_ v11∧qm k_ v12∧qm k_ v13∧qn k_ Ao3 t12.length co3) (L Ao2 t11.length co2) t11):=⟨h11_⟩
 have n11_:D (Kd.R (Kd.int .i64) 3 w9 w.heap.size (fun k_=>qn k_ (some ad1) t17.length co4∧qn k_ Ao7 t27.length co7∧qn k_ Ao8 t28.length co8∧qm k_ v9∧qm k_ v11∧qm k_ v12∧qm k_ v13∧qn k_ Ao2 t11.length co2) (L Ao3 t12.length co3) t12):=⟨h12_⟩
 have n12_:D (Kd.R k26 26 w9 w.heap.size (fun _=>True) (L Ao5 t16.length co5) t16):=⟨h13_⟩
 have n13_:D (w9.heap[gb2]? =some (.cells #[L Ao6 t18.length co6,V I t19,V I t20,V I t21,O t22,V I t23,O t24,V I t25,V I t26,L Ao7 t27.length co7,L Ao8 t28.length co8,V I t29,O t30,V I t31] 45 (0,0))):=⟨h14_⟩
 have n14_:D (w9.heap[gb3]? =some (.cells #[L none 0 0,V I 0,V I 0,V I 0,O false,V I 0,O false,V I 0,V I 0,L none 0 0,L none 0 0,V I 0,O false,V I 0] 45 (0,0))):=⟨h15_⟩
 have n15_:D (w9.heap[gb1]? =some (.cells #[L Ao1 t2.length co1,V I t3,V I t4,V I t5,O t6,V I t7,O t8,V I t9,V I t10,L Ao2 t11.length co2,L Ao3 t12.length co3,V I t13,O t14,V I t15] 45 (0,0))):=⟨h16_⟩
 have n16_:D (w.heap.size≤gb3):=⟨h17_⟩
 have n17_:D (w.heap.size≤gb3):=⟨h18_⟩
 have n18_:D (gb2≠gb3):=⟨h19_⟩
 have n19_:D (gb3≠gb2):=⟨h20_⟩
 have n20_:D (gb1≠gb3):=⟨h21_⟩
 have n21_:D (gb3≠gb1):=⟨h22_⟩
 have n22_:D (Below w.heap.size w w9):=⟨h23_⟩
 clear HO1
 clear HO2
 clear HO3
 clear HO4
 clear HO5
 clear HO6
 clear HO7
 clear HO8
 clear HO9
 clear BK1
 clear BK2
 clear HB
 clear h1_ h2_ h3_ h4_ h5_ h6_ h7_ h8_ h9_ h10_ h11_ h12_ h13_ h14_ h15_ h16_ h17_ h18_ h19_ h20_ h21_ h22_ h23_
 have HO5:=n0_
 have HO6:=n1_
 have HO7:=n2_
 have HO8:=n3_
 have HO9:=n4_
 have HO10:=n5_
 have HO11:=n6_
 have HO12:=n7_
 have HO13:=n8_
 have HO1:=n9_
 have HO2:=n10_
 have HO3:=n11_
 have HO4:=n12_
 have BK2:=n13_
 have BK3:=n14_
 have BK1:=n15_
 have GW3:=n16_
 have GE3:=n17_
 have NB2_1054:=n18_
 have NB3_1026:=n19_
 have NB1_1054:=n20_
 have NB3_998:=n21_
 have HB:=n22_
 clear n0_ n1_ n2_ n3_ n4_ n5_ n6_ n7_ n8_ n9_ n10_ n11_ n12_ n13_ n14_ n15_ n16_ n17_ n18_ n19_ n20_ n21_ n22_
 have hHeld:w9.cell? ⟨gb1,0,none⟩=some (L Ao1 t2.length co1)∧w9.cell? ⟨gb1,1,none⟩=some (V I t3)∧w9.cell? ⟨gb1,2,none⟩=some (V I t4)∧w9.cell? ⟨gb1,3,none⟩=some (V I t5)∧w9.cell? ⟨gb1,4,none⟩=some (O t6)∧w9.cell? ⟨gb1,5,none⟩=some (V I t7)∧w9.cell? ⟨gb1,6,none⟩=some (O t8)∧w9.cell? ⟨gb1,7,none⟩=some (V I t9)∧w9.cell? ⟨gb1,8,none⟩=some (V I t10)∧w9.cell? ⟨gb1,9,none⟩=some (L Ao2 t11.length co2)∧w9.cell? ⟨gb1,10,none⟩=some (L Ao3 t12.length co3)∧w9.cell? ⟨gb1,11,none⟩=some (V I t13)∧w9.cell? ⟨gb1,12,none⟩=some (O t14)∧w9.cell? ⟨gb1,13,none⟩=some (V I t15):=hS_
 obtain⟨Ao9,co9,eo9⟩:=U HO10.out
 (first|subst eo9|(injection eo9 with f1_ f2_ f3_;have f4_:=f1_.symm;have f5_:=f3_.symm;clear f1_ f2_ f3_;subst f4_;subst f5_))
 obtain⟨Ao10,co10,eo10,_⟩:=Kd.Q_slice HO11.out
 (first|subst eo10|(injection eo10 with f1_ f2_ f3_;have f4_:=f1_.symm;have f5_:=f3_.symm;clear f1_ f2_ f3_;subst f4_;subst f5_))
 obtain⟨Ao11,co11,eo11⟩:=U HO12.out
 (first|subst eo11|(injection eo11 with f1_ f2_ f3_;have f4_:=f1_.symm;have f5_:=f3_.symm;clear f1_ f2_ f3_;subst f4_;subst f5_))
 refine norm_ (a':= ?_) ?_ ?_
 rotate_left
 ·simp only[putAll,Act.put,List.setIfInBounds_toArray,List.set_cons_zero,List.set_cons_succ]
  rfl
 refine ou 9 (none) (fun K hK=> ?_)
 obtain⟨hs1,hs2,hs3,hs4,hs5,hs6,hs7,hs8,hs9,hs10,hs11,hs12,hs13,hs14,hfs1,hfs2,hfs3,hfs4,hfs5,hfs6,hfs7,hfs8,hfs9,hfs10,hfs11,hfs12,hfs13,hfs14⟩:=d14 BK3.out
 have hns1_0:=NB1_1054.out
 have hns1_1:=NB2_1054.out
 have hms1_0:=NB3_998.out
 have hms1_1:=NB3_1026.out
 refine skip_ (w1:= ?_) (by rfl) rfl ?_ ?_
 rotate_left
 ·go_simp
  rfl
 refine hK.out _ _ (cs14 (fun _ _=>cf14 NB1_1054.out) hHeld) (fun hHeld=> ?_)
 clear hK K
 refine pu 10 (some 10) ?_
 refine done_ (done_of HT_.out (by kernel_rfl)) ?_
 try go_wp2
 obtain⟨w10,hw⟩:∃w_,w_=(((((((((((((w9.setCell ⟨gb3,0,none⟩ (L Ao9 t37.length co9)).setCell ⟨gb3,1,none⟩ (V I t38)).setCell ⟨gb3,2,none⟩ (V I t39)).setCell ⟨gb3,3,none⟩ (V I t40)).setCell ⟨gb3,4,none⟩ (O t41)).setCell ⟨gb3,5,none⟩ (V I t42)).setCell ⟨gb3,6,none⟩ (O t43)).setCell ⟨gb3,7,none⟩ (V I t44)).setCell ⟨gb3,8,none⟩ (V I t45)).setCell ⟨gb3,9,none⟩ (L Ao10 t46.length co10)).setCell ⟨gb3,10,none⟩ (L Ao11 t47.length co11)).setCell ⟨gb3,11,none⟩ (V I t48)).setCell ⟨gb3,12,none⟩ (O t49)).setCell ⟨gb3,13,none⟩ (V I t50):=⟨_,rfl⟩
 (try rw[←hw])
 replace HO1:=wR hw (Y HO1.out BK3.out (by decide))
 replace HO2:D (Kd.Q _ _ _ _ (fun k_=>qn k_ Ao3 t12.length co3∧qn k_ (some ad1) t17.length co4∧qn k_ Ao7 t27.length co7∧qn k_ Ao8 t28.length co8∧qm k_ v9∧qn k_ Ao10 t46.length co10∧qn k_ Ao11 t47.length co11∧qm k_ v13) _ _):=tQ hw (Kd.Q_types HO2.out BK3.out (by decide)) (fun _ hk=>⟨hk.1.2.2.2.2.2.2.2,⟨hk.1.1,⟨hk.1.2.1,⟨hk.1.2.2.1,⟨hk.1.2.2.2.1,⟨hk.1.2.2.2.2.1,⟨hk.1.2.2.2.2.2.1,hk.1.2.2.2.2.2.2.1⟩⟩⟩⟩⟩⟩⟩)
 replace HO3:D (Kd.R _ _ _ _ (fun k_=>qn k_ Ao2 t11.length co2∧qn k_ (some ad1) t17.length co4∧qn k_ Ao7 t27.length co7∧qn k_ Ao8 t28.length co8∧qm k_ v9∧qn k_ Ao10 t46.length co10∧qn k_ Ao11 t47.length co11∧qm k_ v13) _ _):=tR hw (Y HO3.out BK3.out (by decide)) (fun _ hk=>⟨hk.1.2.2.2.2.2.2.2,⟨hk.1.1,⟨hk.1.2.1,⟨hk.1.2.2.1,⟨hk.1.2.2.2.1,⟨hk.1.2.2.2.2.1,⟨hk.1.2.2.2.2.2.1,hk.1.2.2.2.2.2.2.1⟩⟩⟩⟩⟩⟩⟩)
 replace HO4:D (Kd.R _ _ _ _ (fun _=>True) _ _):=tR hw (Y HO4.out BK3.out (by decide)) (fun _ hk=>trivial)
 replace HO5:D (Kd.R _ _ _ _ (fun k_=>qn k_ Ao2 t11.length co2∧qn k_ Ao3 t12.length co3∧qn k_ Ao7 t27.length co7∧qn k_ Ao8 t28.length co8∧qm k_ v9∧qn k_ Ao10 t46.length co10∧qn k_ Ao11 t47.length co11∧qm k_ v13) _ _):=tR hw (Y HO5.out BK3.out (by decide)) (fun _ hk=>⟨hk.1.2.2.2.2.2.2.1,⟨hk.1.2.2.2.2.2.2.2,⟨hk.1.1,⟨hk.1.2.1,⟨hk.1.2.2.1,⟨hk.1.2.2.2.1,⟨hk.1.2.2.2.2.1,hk.1.2.2.2.2.2.1⟩⟩⟩⟩⟩⟩⟩)
 replace HO6:D (Kd.R _ _ _ _ (fun k_=>qn k_ Ao1 t2.length co1∧qn k_ Ao9 t37.length co9) _ _):=tR hw (Y HO6.out BK3.out (by decide)) (fun _ hk=>⟨hk.1.2,hk.1.1⟩)
 replace HO7:D (Kd.Q _ _ _ _ (fun k_=>qn k_ Ao2 t11.length co2∧qn k_ Ao3 t12.length co3∧qn k_ (some ad1) t17.length co4∧qn k_ Ao8 t28.length co8∧qm k_ v9∧qn k_ Ao10 t46.length co10∧qn k_ Ao11 t47.length co11∧qm k_ v13) _ _):=tQ hw (Kd.Q_types HO7.out BK3.out (by decide)) (fun _ hk=>⟨hk.1.2.2.2.2.2.2.1,⟨hk.1.2.2.2.2.2.2.2,⟨hk.1.1,⟨hk.1.2.1,⟨hk.1.2.2.1,⟨hk.1.2.2.2.1,⟨hk.1.2.2.2.2.1,hk.1.2.2.2.2.2.1⟩⟩⟩⟩⟩⟩⟩)
 replace HO8:D (Kd.R _ _ _ _ (fun k_=>qn k_ Ao2 t11.length co2∧qn k_ Ao3 t12.length co3∧qn k_ (some ad1) t17.length co4∧qn k_ Ao7 t27.length co7∧qm k_ v9∧qn k_ Ao10 t46.length co10∧qn k_ Ao11 t47.length co11∧qm k_ v13) _ _):=tR hw (Y HO8.out BK3.out (by decide)) (fun _ hk=>⟨hk.1.2.2.2.2.2.2.1,⟨hk.1.2.2.2.2.2.2.2,⟨hk.1.1,⟨hk.1.2.1,⟨hk.1.2.2.1,⟨hk.1.2.2.2.1,⟨hk.1.2.2.2.2.1,hk.1.2.2.2.2.2.1⟩⟩⟩⟩⟩⟩⟩)
 replace HO9:D (Kd.R _ _ _ _ (fun k_=>qn k_ Ao2 t11.length co2∧qn k_ Ao3 t12.length co3∧qn k_ (some ad1) t17.length co4∧qn k_ Ao7 t27.length co7∧qn k_ Ao8 t28.length co8∧qn k_ Ao10 t46.length co10∧qn k_ Ao11 t47.length co11∧qm k_ v13) _ _):=tR hw (Y HO9.out BK3.out (by decide)) (fun _ hk=>⟨hk.1.2.2.2.2.2.2.1,⟨hk.1.2.2.2.2.2.2.2,⟨hk.1.1,⟨hk.1.2.1,⟨hk.1.2.2.1,⟨hk.1.2.2.2.1,⟨hk.1.2.2.2.2.1,hk.1.2.2.2.2.2.1⟩⟩⟩⟩⟩⟩⟩)
 replace HO10:D (Kd.R _ _ _ _ (fun k_=>qn k_ Ao1 t2.length co1∧qn k_ Ao6 t18.length co6) _ _):=tR hw (Y HO10.out BK3.out (by decide)) (fun _ hk=>⟨hk.1.2,hk.1.1⟩)
 replace HO11:D (Kd.Q _ _ _ _ (fun k_=>qn k_ Ao2 t11.length co2∧qn k_ Ao3 t12.length co3∧qn k_ (some ad1) t17.length co4∧qn k_ Ao7 t27.length co7∧qn k_ Ao8 t28.length co8∧qm k_ v9∧qn k_ Ao11 t47.length co11∧qm k_ v13) _ _):=tQ hw (Kd.Q_types HO11.out BK3.out (by decide)) (fun _ hk=>⟨hk.1.2.2.2.2.2.2.1,⟨hk.1.2.2.2.2.2.2.2,⟨hk.1.1,⟨hk.1.2.1,⟨hk.1.2.2.1,⟨hk.1.2.2.2.1,⟨hk.1.2.2.2.2.1,hk.1.2.2.2.2.2.1⟩⟩⟩⟩⟩⟩⟩)
 replace HO12:D (Kd.R _ _ _ _ (fun k_=>qn k_ Ao2 t11.length co2∧qn k_ Ao3 t12.length co3∧qn k_ (some ad1) t17.length co4∧qn k_ Ao7 t27.length co7∧qn k_ Ao8 t28.length co8∧qm k_ v9∧qn k_ Ao10 t46.length co10∧qm k_ v13) _ _):=tR hw (Y HO12.out BK3.out (by decide)) (fun _ hk=>⟨hk.1.2.2.2.2.2.2.1,⟨hk.1.2.2.2.2.2.2.2,⟨hk.1.1,⟨hk.1.2.1,⟨hk.1.2.2.1,⟨hk.1.2.2.2.1,⟨hk.1.2.2.2.2.1,hk.1.2.2.2.2.2.1⟩⟩⟩⟩⟩⟩⟩)
 replace HO13:D (Kd.R _ _ _ _ (fun k_=>qn k_ Ao2 t11.length co2∧qn k_ Ao3 t12.length co3∧qn k_ (some ad1) t17.length co4∧qn k_ Ao7 t27.length co7∧qn k_ Ao8 t28.length co8∧qm k_ v9∧qn k_ Ao10 t46.length co10∧qn k_ Ao11 t47.length co11) _ _):=tR hw (Y HO13.out BK3.out (by decide)) (fun _ hk=>⟨hk.1.2.2.2.2.2.2.1,⟨hk.1.2.2.2.2.2.2.2,⟨hk.1.1,⟨hk.1.2.1,⟨hk.1.2.2.1,⟨hk.1.2.2.2.1,⟨hk.1.2.2.2.2.1,hk.1.2.2.2.2.2.1⟩⟩⟩⟩⟩⟩⟩)
 replace BK1:=wK hw BK1
 replace BK2:=wK hw BK2
 replace BK3:D (w10.heap[gb3]? =some (.cells #[L Ao9 t37.length co9,V I t38,V I t39,V I t40,O t41,V I t42,O t43,V I t44,V I t45,L Ao10 t46.length co10,L Ao11 t47.length co11,V I t48,O t49,V I t50] 45 (0,0))):=⟨(by rw[hw];exact(bK BK3.out))⟩
 replace HB:=wB hw
 clear hw
 replace HO1:=dR HO1
 replace HO2:=dQ HO2
 replace HO3:=dR HO3
 replace HO4:=dR HO4
 replace HO5:=dR HO5
 replace HO6:=dR HO6
 replace HO7:=dQ HO7
 replace HO8:=dR HO8
 replace HO9:=dR HO9
 replace HO10:=dR HO10
 replace HO11:=dQ HO11
 replace HO12:=dR HO12
 replace HO13:=dR HO13
 replace BK1:=dK BK1
 replace BK2:=dK BK2
 replace BK3:=dK BK3
 replace HB:=dB HB
 have q3:((ji1):Int)≤((t16.length:Int):Int):=of_decide_eq_true (by first|(with_reducible assumption)|assumption)
 obtain⟨i067,hi2,_,hsz2,_⟩:=info_parts info26
 have hroom2:t16.length≤co5:=(Kd.R_reads' HO4.out).2.1
 have hC2:Kd.C k26 _ Ao5 t16.length t16:=(Kd.R_reads' HO4.out).2.2
 have q4:(0:Int)≤((ji1):Int):=of_decide_eq_true (by first|(with_reducible assumption)|assumption)
 have hcut2:=cut_from (P:=Tryd.prog) 32 26 .i64 Tryd.underlying32 hi2 4 hsz2 Ao5 t16.length co5 (ji1) q4 q3
 have hr2:=Kd.C_drop (m:=((ji1):Int).toNat) (c:=co5) hC2 (by omega) hroom2
 obtain⟨A13,hA1⟩:∃A1,A1=(if co5=((ji1):Int).toNat then Ao5 else(Ao5:Option Addr).map (·.add (((ji1):Int).toNat * 4))):=⟨_,rfl⟩
 obtain⟨c13,hc1⟩:∃c1,c1=co5 - ((ji1):Int).toNat:=⟨_,rfl⟩
 have hy7:y4.length=t16.length - ((ji1):Int).toNat:=(by rw[Ny2.out,List.length_drop]<;>omega)
 rw[show(t16).drop ((ji1):Int).toNat=y4 from Ny2.out.symm]at hr2
 replace hr2:Kd.C k26 _ A13 y4.length y4:=(by rw[hA1];exact hr2)
 rw[←hy7,←hA1,←hc1]at hcut2
 have HR3:=C hr2
 have HC3:=C (show y4.length≤c13 from by rw[hy7,hc1];exact Nat.sub_le_sub_right hroom2 _)
 clear hr2 hC2 hroom2 hi2 hsz2 hc1
 have KY2:=C hy7
 have KA1:=C hA1
 (try clear hy7);(try clear hA1)
 have KL2:=C (show((ji1):Int).toNat≤t16.length from by omega)
 replace q3:=eq_true q3
 refine start_ (n:=11) (S:=fun w'=>cl14 w' gb3 (L Ao9 t37.length co9) (V I t38) (V I t39) (V I t40) (O t41) (V I t42) (O t43) (V I t44) (V I t45) (L Ao10 t46.length co10) (L Ao11 t47.length co11) (V I t48) (O t49) (V I t50)) (ds:= []) #[false,false,false,false,false,false,false,false,false,false,false] (by kernel_rfl) rfl rfl hh (fun hHeld=> ?_);refine with_tabW laws_FnActParts.tab8 laws_FnActParts.bits8 (fun HT_ HW_=> ?_)
 generalize w10.drew=w11 at HO1 HO2 HO3 HO4 HO5 HO6 HO7 HO8 HO9 HO10 HO11 HO12 HO13 BK1 BK2 BK3 HB HR3 hHeld ⊢
 refine pu 1 (some 47) ?_
 refine pu 2 (some 48) ?_
 refine pu 3 (some 49) ?_
 refine tu 0 (some 46) hHeld ?_
 refine join_ (σ:=Value×Value×Value×Value×Nat) 2 #[true,true,true,true,true,true,true,true,true,false,false] (fun s_=> [(50,.tuple #[G #[s_.1,V I t53,V I t54,V I t55,O t56,V I t57,O t58,V I t59,V I t60,s_.2.1,s_.2.2.1,V I t63,O t64,V I t65],s_.2.2.2.1]),(11,.pointer (some ⟨s_.2.2.2.2,0,none⟩)),(45,.tuple #[G #[s_.1,V I t53,V I t54,V I t55,O t56,V I t57,O t58,V I t59,V I t60,s_.2.1,s_.2.2.1,V I t63,O t64,V I t65],s_.2.2.2.1]),(51,G #[s_.1,V I t53,V I t54,V I t55,O t56,V I t57,O t58,V I t59,V I t60,s_.2.1,s_.2.2.1,V I t63,O t64,V I t65]),(52,s_.2.2.2.1)]) (fun s_ w'=>(cl14 w' gb3 (L Ao9 t37.length co9) (V I t38) (V I t39) (V I t40) (O t41) (V I t42) (O t43) (V I t44) (V I t45) (L Ao10 t46.length co10) (L Ao11 t47.length co11) (V I t48) (O t49) (V I t50))∧(Kd.R (Kd.int .i64) 3 w' w.heap.size (fun k_=>qn k_ Ao7 t27.length co7∧qn k_ Ao8 t28.length co8∧qm k_ v9∧qn k_ Ao10 t46.length co10∧qn k_ Ao11 t47.length co11∧qm k_ v13∧some k_≠(s_.2.1:Value).ownBlock∧some k_≠(s_.2.2.1:Value).ownBlock∧some k_≠(s_.2.2.2.1:Value).ownBlock∧qn k_ Ao2 t11.length co2∧qn k_ Ao3 t12.length co3) (L (some ad1) t17.length co4) t17)∧(Kd.R k40 40 w' w.heap.size (fun k_=>qn k_ Ao9 t37.length co9∧some k_≠(s_.1:Value).ownBlock∧qn k_ Ao1 t2.length co1) (L Ao6 t18.length co6) t18)∧(Kd.Q (Kd.int .i64) 3 w' w.heap.size (fun k_=>qn k_ (some ad1) t17.length co4∧qn k_ Ao8 t28.length co8∧qm k_ v9∧qn k_ Ao10 t46.length co10∧qn k_ Ao11 t47.length co11∧qm k_ v13∧some k_≠(s_.2.1:Value).ownBlock∧some k_≠(s_.2.2.1:Value).ownBlock∧some k_≠(s_.2.2.2.1:Value).ownBlock∧qn k_ Ao2 t11.length co2∧qn k_ Ao3 t12.length co3) (L Ao7 t27.length co7) t27)∧(Kd.R (Kd.int .i64) 3 w' w.heap.size (fun k_=>qn k_ (some ad1) t17.length co4∧qn k_ Ao7 t27.length co7∧qm k_ v9∧qn k_ Ao10 t46.length co10∧qn k_ Ao11 t47.length co11∧qm k_ v13∧some k_≠(s_.2.1:Value).ownBlock∧some k_≠(s_.2.2.1:Value).ownBlock∧some k_≠(s_.2.2.2.1:Value).ownBlock∧qn k_ Ao2 t11.length co2∧qn k_ Ao3 t12.length co3) (L Ao8 t28.length co8) t28)∧(Kd.R (Kd.int .i64) 3 w' w.heap.size (fun k_=>qn k_ (some ad1) t17.length co4∧qn k_ Ao7 t27.length co7∧qn k_ Ao8 t28.length co8∧qn k_ Ao10 t46.length co10∧qn k_ Ao11 t47.length co11∧qm k_ v13∧some k_≠(s_.2.1:Value).ownBlock∧some k_≠(s_.2.2.1:Value).ownBlock∧some k_≠(s_.2.2.2.1:Value).ownBlock∧qn k_ Ao2 t11.length co2∧qn k_ Ao3 t12.length co3) v9 t32)∧(Kd.R k40 40 w' w.heap.size (fun k_=>qn k_ Ao6 t18.length co6∧some k_≠(s_.1:Value).ownBlock∧qn k_ Ao1 t2.length co1) (L Ao9 t37.length co9) t37)∧(Kd.Q (Kd.int .i64) 3 w' w.heap.size (fun k_=>qn k_ (some ad1) t17.length co4∧qn k_ Ao7 t27.length co7∧qn k_ Ao8 t28.length co8∧qm k_ v9∧qn k_ Ao11 t47.length co11∧qm k_ v13∧some k_≠(s_.2.1:Value).ownBlock∧some k_≠(s_.2.2.1:Value).ownBlock∧some k_≠(s_.2.2.2.1:Value).ownBlock∧qn k_ Ao2 t11.length co2∧qn k_ Ao3 t12.length co3) (L Ao10 t46.length co10) t46)∧(Kd.R (Kd.int .i64) 3 w' w.heap.size (fun k_=>qn k_ (some ad1) t17.length co4∧qn k_ Ao7 t27.length co7∧qn k_ Ao8 t28.length co8∧qm k_ v9∧qn k_ Ao10 t46.length co10∧qm k_ v13∧some k_≠(s_.2.1:Value).ownBlock∧some k_≠(s_.2.2.1:Value).ownBlock∧some k_≠(s_.2.2.2.1:Value).ownBlock∧qn k_ Ao2 t11.length co2∧qn k_ Ao3 t12.length co3) (L Ao11 t47.length co11) t47)∧(Kd.R (Kd.int .i64) 3 w' w.heap.size (fun k_=>qn k_ (some ad1) t17.length co4∧qn k_ Ao7 t27.length co7∧qn k_ Ao8 t28.length co8∧qm k_ v9∧qn k_ Ao10 t46.length co10∧qn k_ Ao11 t47.length co11∧some k_≠(s_.2.1:Value).ownBlock∧some k_≠(s_.2.2.1:Value).ownBlock∧some k_≠(s_.2.2.2.1:Value).ownBlock∧qn k_ Ao2 t11.length co2∧qn k_ Ao3 t12.length co3) v13 t51)∧(Kd.R k40 40 w' w.heap.size (fun k_=>qn k_ Ao6 t18.length co6∧qn k_ Ao9 t37.length co9∧qn k_ Ao1 t2.length co1) s_.1 t52)∧(Kd.Q (Kd.int .i64) 3 w' w.heap.size (fun k_=>qn k_ (some ad1) t17.length co4∧qn k_ Ao7 t27.length co7∧qn k_ Ao8 t28.length co8∧qm k_ v9∧qn k_ Ao10 t46.length co10∧qn k_ Ao11 t47.length co11∧qm k_ v13∧some k_≠(s_.2.2.1:Value).ownBlock∧some k_≠(s_.2.2.2.1:Value).ownBlock∧qn k_ Ao2 t11.length co2∧qn k_ Ao3 t12.length co3) s_.2.1 t61)∧(Kd.R (Kd.int .i64) 3 w' w.heap.size (fun k_=>qn k_ (some ad1) t17.length co4∧qn k_ Ao7 t27.length co7∧qn k_ Ao8 t28.length co8∧qm k_ v9∧qn k_ Ao10 t46.length co10∧qn k_ Ao11 t47.length co11∧qm k_ v13∧some k_≠(s_.2.1:Value).ownBlock∧some k_≠(s_.2.2.2.1:Value).ownBlock∧qn k_ Ao2 t11.length co2∧qn k_ Ao3 t12.length co3) s_.2.2.1 t62)∧(Kd.R (Kd.int .i64) 3 w' w.heap.size (fun k_=>qn k_ (some ad1) t17.length co4∧qn k_ Ao7 t27.length co7∧qn k_ Ao8 t28.length co8∧qm k_ v9∧qn k_ Ao10 t46.length co10∧qn k_ Ao11 t47.length co11∧qm k_ v13∧some k_≠(s_.2.1:Value).ownBlock∧some k_≠(s_.2.2.1:Value).ownBlock∧qn k_ Ao2 t11.length co2∧qn k_ Ao3 t12.length co3) s_.2.2.2.1 t66)∧(Kd.R k40 40 w' w.heap.size (fun k_=>qn k_ Ao6 t18.length co6∧qn k_ Ao9 t37.length co9∧some k_≠(s_.1:Value).ownBlock) (L Ao1 t2.length co1) t2)∧(Kd.Q (Kd.int .i64) 3 w' w.heap.size (fun k_=>qn k_ (some ad1) t17.length co4∧qn k_ Ao7 t27.length co7∧qn k_ Ao8 t28.length co8∧qm k_ v9∧qn k_ Ao10 t46.length co10∧qn k_ Ao11 t47.length co11∧qm k_ v13∧some k_≠(s_.2.1:Value).ownBlock∧some k_≠(s_.2.2.1:Value).ownBlock∧some k_≠(s_.2.2.2.1:Value).ownBlock∧qn k_ Ao3 t12.length co3) (L Ao2 t11.length co2) t11)∧(Kd.R (Kd.int .i64) 3 w' w.heap.size (fun k_=>qn k_ (some ad1) t17.length co4∧qn k_ Ao7 t27.length co7∧qn k_ Ao8 t28.length co8∧qm k_ v9∧qn k_ Ao10 t46.length co10∧qn k_ Ao11 t47.length co11∧qm k_ v13∧some k_≠(s_.2.1:Value).ownBlock∧some k_≠(s_.2.2.1:Value).ownBlock∧some k_≠(s_.2.2.2.1:Value).ownBlock∧qn k_ Ao2 t11.length co2) (L Ao3 t12.length co3) t12)∧(Kd.R k26 26 w' w.heap.size (fun _=>True) (L Ao5 t16.length co5) t16)∧(w'.heap[gb2]? =some (.cells #[L Ao6 t18.length co6,V I t19,V I t20,V I t21,O t22,V I t23,O t24,V I t25,V I t26,L Ao7 t27.length co7,L Ao8 t28.length co8,V I t29,O t30,V I t31] 45 (0,0)))∧(w'.heap[gb3]? =some (.cells #[L Ao9 t37.length co9,V I t38,V I t39,V I t40,O t41,V I t42,O t43,V I t44,V I t45,L Ao10 t46.length co10,L Ao11 t47.length co11,V I t48,O t49,V I t50] 45 (0,0)))∧(w'.heap[s_.2.2.2.2]? =some (.cells #[L none 0 0,V I 0,V I 0,V I 0,O false,V I 0,O false,V I 0,V I 0,L none 0 0,L none 0 0,V I 0,O false,V I 0] 45 (0,0)))∧(w'.heap[gb1]? =some (.cells #[L Ao1 t2.length co1,V I t3,V I t4,V I t5,O t6,V I t7,O t8,V I t9,V I t10,L Ao2 t11.length co2,L Ao3 t12.length co3,V I t13,O t14,V I t15] 45 (0,0)))∧(w.heap.size≤s_.2.2.2.2)∧(w.heap.size≤s_.2.2.2.2)∧(gb2≠s_.2.2.2.2)∧(s_.2.2.2.2≠gb2)∧(gb3≠s_.2.2.2.2)∧(s_.2.2.2.2≠gb3)∧(gb1≠s_.2.2.2.2)∧(s_.2.2.2.2≠gb1)∧(Below w.heap.size w w')) ?_ ?_
 rotate_left
 ·intro hCont
  refine two_ (i:=4) (j:=8) (Ni:=some 50) (Nj:=some 11) #[true,true,true,true,true,false,false,false,false,false,false] #[true,true,true,true,false,false,false,false,true,false,false] rfl rfl rfl rfl (two_of HT_.out (by kernel_rfl)) (by decide) (by decide) (fun K hK=> ?_) (fun K hK=> ?_)
  ·skip
   refine gs Tryd.func29 #[G #[L Ao9 t37.length co9,V I t38,V I t39,V I t40,O t41,V I t42,O t43,V I t44,V I t45,L Ao10 t46.length co10,L Ao11 t47.length co11,V I t48,O t49,V I t50],L A13 y4.length c13] ?_
   with_reducible refine(impl_RunActs.calls k _ _ t37 t38 t39 t40 t41 t42 t43 t44 t45 _ _ t46 _ _ t47 t48 t49 t50 _ _ y4 t52 t53 t54 t55 t56 t57 t58 t59 t60 t61 t62 t63 t64 t65 t66 _ ?side1 ?side2 ?side3 ?side4 ?side5 ?side6 ?side7 ?side8 A7.out).mono ?_
   (case side1=>exact uC (Kd.R_reads' HO10.out).2.2)
   (case side2=>exact(Kd.R_reads' HO10.out).2.1)
   (case side3=>exact uC (Kd.Q_reads' HO11.out).2.2)
   (case side4=>exact(Kd.Q_reads' HO11.out).2.1)
   (case side5=>exact uC (Kd.R_reads' HO12.out).2.2)
   (case side6=>exact(Kd.R_reads' HO12.out).2.1)
   (case side7=>repeat(first|exact(by repeat(first|(with_reducible exact HR3.out)|(with_reducible refine Kd.C_alloc ?_ _)|(with_reducible refine Kd.C_drewN ?_ _)|(with_reducible refine Kd.C_drew ?_)|exact HR3.out))|(with_reducible refine Kd.C_alloc ?_ _)|(with_reducible refine Kd.C_drewN ?_ _)|(with_reducible refine Kd.C_drew ?_)))
   (case side8=>exact HC3.out)
   rintro e w12 ⟨v14,v15,v16,v17,rfl,ho1,ho2,ho3,ho4,hb⟩
   refine⟨_,rfl,?_⟩
   have HO14:=C (Kd.R_lower (Kd.R_new' (Kd.R_new' (Kd.R_new' ho1 (Kd.R_lt (uR HO1.out))) (Kd.R_lt (uR HO6.out))) (Kd.R_lt (uR HO10.out))) (below_size uB))
   have HO15:=C (Kd.Q_lower (Kd.Q_new' (Kd.Q_new' (Kd.Q_new' (Kd.Q_new' (Kd.Q_new' (Kd.Q_new' (Kd.Q_new' (Kd.Q_new' (Kd.Q_new' ho2 (Kd.Q_lt (uQ HO2.out))) (Kd.R_lt (uR HO3.out))) (Kd.R_lt (uR HO5.out))) (Kd.Q_lt (uQ HO7.out))) (Kd.R_lt (uR HO8.out))) (Kd.R_lt (uR HO9.out))) (Kd.Q_lt (uQ HO11.out))) (Kd.R_lt (uR HO12.out))) (Kd.R_lt (uR HO13.out))) (below_size uB))
   have HO16:=C (Kd.R_lower (Kd.R_new' (Kd.R_new' (Kd.R_new' (Kd.R_new' (Kd.R_new' (Kd.R_new' (Kd.R_new' (Kd.R_new' (Kd.R_new' ho3 (Kd.Q_lt (uQ HO2.out))) (Kd.R_lt (uR HO3.out))) (Kd.R_lt (uR HO5.out))) (Kd.Q_lt (uQ HO7.out))) (Kd.R_lt (uR HO8.out))) (Kd.R_lt (uR HO9.out))) (Kd.Q_lt (uQ HO11.out))) (Kd.R_lt (uR HO12.out))) (Kd.R_lt (uR HO13.out))) (below_size uB))
   have HO17:=C (Kd.R_lower (Kd.R_new' (Kd.R_new' (Kd.R_new' (Kd.R_new' (Kd.R_new' (Kd.R_new' (Kd.R_new' (Kd.R_new' (Kd.R_new' ho4 (Kd.Q_lt (uQ HO2.out))) (Kd.R_lt (uR HO3.out))) (Kd.R_lt (uR HO5.out))) (Kd.Q_lt (uQ HO7.out))) (Kd.R_lt (uR HO8.out))) (Kd.R_lt (uR HO9.out))) (Kd.Q_lt (uQ HO11.out))) (Kd.R_lt (uR HO12.out))) (Kd.R_lt (uR HO13.out))) (below_size uB))
   replace HO1:=C (Kd.R_elder' (uR HO1.out) (Kd.R_base ho1) hb)
   replace HO2:=C (Kd.Q_mono (Kd.Q_told (Kd.Q_told (Kd.Q_told (Kd.Q_old (uQ HO2.out) hb) (Kd.Q_base ho2)) (Kd.R_base ho3)) (Kd.R_base ho4)) (fun _ h_=>h_.1))
   replace HO3:=C (X (Kd.R_told (Kd.R_told (Kd.R_told (Kd.R_old (uR HO3.out) hb) (Kd.Q_base ho2)) (Kd.R_base ho3)) (Kd.R_base ho4)) (fun _ h_=>h_.1))
   replace HO4:=eR HO4 hb
   replace HO5:=C (X (Kd.R_told (Kd.R_told (Kd.R_told (Kd.R_old (uR HO5.out) hb) (Kd.Q_base ho2)) (Kd.R_base ho3)) (Kd.R_base ho4)) (fun _ h_=>h_.1))
   replace HO6:=C (Kd.R_elder' (uR HO6.out) (Kd.R_base ho1) hb)
   replace HO7:=C (Kd.Q_mono (Kd.Q_told (Kd.Q_told (Kd.Q_told (Kd.Q_old (uQ HO7.out) hb) (Kd.Q_base ho2)) (Kd.R_base ho3)) (Kd.R_base ho4)) (fun _ h_=>h_.1))
   replace HO8:=C (X (Kd.R_told (Kd.R_told (Kd.R_told (Kd.R_old (uR HO8.out) hb) (Kd.Q_base ho2)) (Kd.R_base ho3)) (Kd.R_base ho4)) (fun _ h_=>h_.1))
   replace HO9:=C (X (Kd.R_told (Kd.R_told (Kd.R_told (Kd.R_old (uR HO9.out) hb) (Kd.Q_base ho2)) (Kd.R_base ho3)) (Kd.R_base ho4)) (fun _ h_=>h_.1))
   replace HO10:=C (Kd.R_elder' (uR HO10.out) (Kd.R_base ho1) hb)
   replace HO11:=C (Kd.Q_mono (Kd.Q_told (Kd.Q_told (Kd.Q_told (Kd.Q_old (uQ HO11.out) hb) (Kd.Q_base ho2)) (Kd.R_base ho3)) (Kd.R_base ho4)) (fun _ h_=>h_.1))
   replace HO12:=C (X (Kd.R_told (Kd.R_told (Kd.R_told (Kd.R_old (uR HO12.out) hb) (Kd.Q_base ho2)) (Kd.R_base ho3)) (Kd.R_base ho4)) (fun _ h_=>h_.1))
   replace HO13:=C (X (Kd.R_told (Kd.R_told (Kd.R_told (Kd.R_old (uR HO13.out) hb) (Kd.Q_base ho2)) (Kd.R_base ho3)) (Kd.R_base ho4)) (fun _ h_=>h_.1))
   replace BK1:=eK BK1 hb
   replace BK2:=eK BK2 hb
   replace BK3:=eK BK3 hb
   replace HR3:=C (Kd.C_below (by repeat(first|(with_reducible exact HR3.out)|(with_reducible refine Kd.C_alloc ?_ _)|(with_reducible refine Kd.C_drewN ?_ _)|(with_reducible refine Kd.C_drew ?_)|exact HR3.out)) hb)
   replace HB:=eB hb
   (try clear hb)
   refine hK.out _ _ hh (fun hHeld=> ?_)
   clear hK K
   refine nu (N:=(some 50)) ?_
   refine pu 5 (some 45) ?_
   refine pu 6 (some 51) ?_
   refine pu 7 (some 52) ?_
   refine ou 8 (some 11) (fun K hK=> ?_)
   refine box_step ?hg (N:=11) ?hd (cs:= #[L none 0 0,V I 0,V I 0,V I 0,O false,V I 0,O false,V I 0,V I 0,L none 0 0,L none 0 0,V I 0,O false,V I 0]) (t:=45) ?hr ?_;(case hd=>rfl);(case hg=>rfl);(case hr=>exact Fix.hr)
   intro gb4 hg w13 hbox hb
   have BK4:=C hbox
   have GW4:D (w.heap.size≤gb4):=gE hg
   have GE4:D (w.heap.size≤gb4):=gE hg
   have NB1_1082:=nL hg BK1
   have NB4_998:=nG hg BK1
   have NB2_1082:=nL hg BK2
   have NB4_1026:=nG hg BK2
   have NB3_1082:=nL hg BK3
   have NB4_1054:=nG hg BK3
   replace HO1:=eR HO1 hb
   replace HO2:=eQ HO2 hb
   replace HO3:=eR HO3 hb
   replace HO4:=eR HO4 hb
   replace HO5:=eR HO5 hb
   replace HO6:=eR HO6 hb
   replace HO7:=eQ HO7 hb
   replace HO8:=eR HO8 hb
   replace HO9:=eR HO9 hb
   replace HO10:=eR HO10 hb
   replace HO11:=eQ HO11 hb
   replace HO12:=eR HO12 hb
   replace HO13:=eR HO13 hb
   replace HO14:=eR HO14 hb
   replace HO15:=eQ HO15 hb
   replace HO16:=eR HO16 hb
   replace HO17:=eR HO17 hb
   replace BK1:=eK BK1 hb
   replace BK2:=eK BK2 hb
   replace BK3:=eK BK3 hb
   replace HR3:=C (Kd.C_below (by repeat(first|(with_reducible exact HR3.out)|(with_reducible refine Kd.C_alloc ?_ _)|(with_reducible refine Kd.C_drewN ?_ _)|(with_reducible refine Kd.C_drew ?_)|exact HR3.out)) hb)
   replace HB:=eB hb
   clear hb hbox hg
   refine hK.out _ _ hh (fun hHeld=> ?_)
   clear hK K
   refine nu (N:=(some 11)) ?_
   exact norm_ (by simp only[putAll,Act.put,List.setIfInBounds_toArray,List.set_cons_zero,List.set_cons_succ]) (hCont (v14,v15,v16,v17,gb4) _ ⟨hHeld,(X (fR HO5.out) (fun _ hk=>⟨hk.1.1.1.2.2.1,⟨hk.1.1.1.2.2.2.1,⟨hk.1.1.1.2.2.2.2.1,⟨hk.1.1.1.2.2.2.2.2.1,⟨hk.1.1.1.2.2.2.2.2.2.1,⟨hk.1.1.1.2.2.2.2.2.2.2,⟨hk.1.1.2,⟨hk.1.2,⟨hk.2,⟨hk.1.1.1.1,hk.1.1.1.2.1⟩⟩⟩⟩⟩⟩⟩⟩⟩⟩)),(X (fR HO6.out) (fun _ hk=>⟨hk.1.2,⟨hk.2,hk.1.1⟩⟩)),(Kd.Q_mono (fQ HO7.out) (fun _ hk=>⟨hk.1.1.1.2.2.1,⟨hk.1.1.1.2.2.2.1,⟨hk.1.1.1.2.2.2.2.1,⟨hk.1.1.1.2.2.2.2.2.1,⟨hk.1.1.1.2.2.2.2.2.2.1,⟨hk.1.1.1.2.2.2.2.2.2.2,⟨hk.1.1.2,⟨hk.1.2,⟨hk.2,⟨hk.1.1.1.1,hk.1.1.1.2.1⟩⟩⟩⟩⟩⟩⟩⟩⟩⟩)),(X (fR HO8.out) (fun _ hk=>⟨hk.1.1.1.2.2.1,⟨hk.1.1.1.2.2.2.1,⟨hk.1.1.1.2.2.2.2.1,⟨hk.1.1.1.2.2.2.2.2.1,⟨hk.1.1.1.2.2.2.2.2.2.1,⟨hk.1.1.1.2.2.2.2.2.2.2,⟨hk.1.1.2,⟨hk.1.2,⟨hk.2,⟨hk.1.1.1.1,hk.1.1.1.2.1⟩⟩⟩⟩⟩⟩⟩⟩⟩⟩)),(X (fR HO9.out) (fun _ hk=>⟨hk.1.1.1.2.2.1,⟨hk.1.1.1.2.2.2.1,⟨hk.1.1.1.2.2.2.2.1,⟨hk.1.1.1.2.2.2.2.2.1,⟨hk.1.1.1.2.2.2.2.2.2.1,⟨hk.1.1.1.2.2.2.2.2.2.2,⟨hk.1.1.2,⟨hk.1.2,⟨hk.2,⟨hk.1.1.1.1,hk.1.1.1.2.1⟩⟩⟩⟩⟩⟩⟩⟩⟩⟩)),(X (fR HO10.out) (fun _ hk=>⟨hk.1.2,⟨hk.2,hk.1.1⟩⟩)),(Kd.Q_mono (fQ HO11.out) (fun _ hk=>⟨hk.1.1.1.2.2.1,⟨hk.1.1.1.2.2.2.1,⟨hk.1.1.1.2.2.2.2.1,⟨hk.1.1.1.2.2.2.2.2.1,⟨hk.1.1.1.2.2.2.2.2.2.1,⟨hk.1.1.1.2.2.2.2.2.2.2,⟨hk.1.1.2,⟨hk.1.2,⟨hk.2,⟨hk.1.1.1.1,hk.1.1.1.2.1⟩⟩⟩⟩⟩⟩⟩⟩⟩⟩)),(X (fR HO12.out) (fun _ hk=>⟨hk.1.1.1.2.2.1,⟨hk.1.1.1.2.2.2.1,⟨hk.1.1.1.2.2.2.2.1,⟨hk.1.1.1.2.2.2.2.2.1,⟨hk.1.1.1.2.2.2.2.2.2.1,⟨hk.1.1.1.2.2.2.2.2.2.2,⟨hk.1.1.2,⟨hk.1.2,⟨hk.2,⟨hk.1.1.1.1,hk.1.1.1.2.1⟩⟩⟩⟩⟩⟩⟩⟩⟩⟩)),(X (fR HO13.out) (fun _ hk=>⟨hk.1.1.1.2.2.1,⟨hk.1.1.1.2.2.2.1,⟨hk.1.1.1.2.2.2.2.1,⟨hk.1.1.1.2.2.2.2.2.1,⟨hk.1.1.1.2.2.2.2.2.2.1,⟨hk.1.1.1.2.2.2.2.2.2.2,⟨hk.1.1.2,⟨hk.1.2,⟨hk.2,⟨hk.1.1.1.1,hk.1.1.1.2.1⟩⟩⟩⟩⟩⟩⟩⟩⟩⟩)),(X (fR HO14.out) (fun _ hk=>⟨hk.1.2,⟨hk.2,hk.1.1.2⟩⟩)),(Kd.Q_mono (fQ HO15.out) (fun _ hk=>⟨hk.1.1.1.1.1.1.2,⟨hk.1.1.1.1.1.2,⟨hk.1.1.1.1.2,⟨hk.1.1.1.2,⟨hk.1.1.2,⟨hk.1.2,⟨hk.2,⟨hk.1.1.1.1.1.1.1.1.1.1,⟨hk.1.1.1.1.1.1.1.1.1.2,⟨hk.1.1.1.1.1.1.1.1.2,hk.1.1.1.1.1.1.1.2⟩⟩⟩⟩⟩⟩⟩⟩⟩⟩)),(X (fR HO16.out) (fun _ hk=>⟨hk.1.1.1.1.1.1.2,⟨hk.1.1.1.1.1.2,⟨hk.1.1.1.1.2,⟨hk.1.1.1.2,⟨hk.1.1.2,⟨hk.1.2,⟨hk.2,⟨hk.1.1.1.1.1.1.1.1.1.1,⟨hk.1.1.1.1.1.1.1.1.1.2,⟨hk.1.1.1.1.1.1.1.1.2,hk.1.1.1.1.1.1.1.2⟩⟩⟩⟩⟩⟩⟩⟩⟩⟩)),(X (fR HO17.out) (fun _ hk=>⟨hk.1.1.1.1.1.1.2,⟨hk.1.1.1.1.1.2,⟨hk.1.1.1.1.2,⟨hk.1.1.1.2,⟨hk.1.1.2,⟨hk.1.2,⟨hk.2,⟨hk.1.1.1.1.1.1.1.1.1.1,⟨hk.1.1.1.1.1.1.1.1.1.2,⟨hk.1.1.1.1.1.1.1.1.2,hk.1.1.1.1.1.1.1.2⟩⟩⟩⟩⟩⟩⟩⟩⟩⟩)),(X (fR HO1.out) (fun _ hk=>⟨hk.1.1,⟨hk.1.2,hk.2⟩⟩)),(Kd.Q_mono (fQ HO2.out) (fun _ hk=>⟨hk.1.1.1.2.1,⟨hk.1.1.1.2.2.1,⟨hk.1.1.1.2.2.2.1,⟨hk.1.1.1.2.2.2.2.1,⟨hk.1.1.1.2.2.2.2.2.1,⟨hk.1.1.1.2.2.2.2.2.2.1,⟨hk.1.1.1.2.2.2.2.2.2.2,⟨hk.1.1.2,⟨hk.1.2,⟨hk.2,hk.1.1.1.1⟩⟩⟩⟩⟩⟩⟩⟩⟩⟩)),(X (fR HO3.out) (fun _ hk=>⟨hk.1.1.1.2.1,⟨hk.1.1.1.2.2.1,⟨hk.1.1.1.2.2.2.1,⟨hk.1.1.1.2.2.2.2.1,⟨hk.1.1.1.2.2.2.2.2.1,⟨hk.1.1.1.2.2.2.2.2.2.1,⟨hk.1.1.1.2.2.2.2.2.2.2,⟨hk.1.1.2,⟨hk.1.2,⟨hk.2,hk.1.1.1.1⟩⟩⟩⟩⟩⟩⟩⟩⟩⟩)),(uR HO4.out),(uK BK2.out),(uK BK3.out),(uK BK4.out),(uK BK1.out),GW4.out,GE4.out,NB2_1082.out,NB4_1026.out,NB3_1082.out,NB4_1054.out,NB1_1082.out,NB4_998.out,uB⟩)
  ·skip
   refine box_step ?hg (N:=11) ?hd (cs:= #[L none 0 0,V I 0,V I 0,V I 0,O false,V I 0,O false,V I 0,V I 0,L none 0 0,L none 0 0,V I 0,O false,V I 0]) (t:=45) ?hr ?_;(case hd=>rfl);(case hg=>rfl);(case hr=>exact Fix.hr)
   intro gb4 hg w12 hbox hb
   have BK4:=C hbox
   have GW4:D (w.heap.size≤gb4):=gE hg
   have GE4:D (w.heap.size≤gb4):=gE hg
   have NB1_1082:=nL hg BK1
   have NB4_998:=nG hg BK1
   have NB2_1082:=nL hg BK2
   have NB4_1026:=nG hg BK2
   have NB3_1082:=nL hg BK3
   have NB4_1054:=nG hg BK3
   replace HO1:=eR HO1 hb
   replace HO2:=eQ HO2 hb
   replace HO3:=eR HO3 hb
   replace HO4:=eR HO4 hb
   replace HO5:=eR HO5 hb
   replace HO6:=eR HO6 hb
   replace HO7:=eQ HO7 hb
   replace HO8:=eR HO8 hb
   replace HO9:=eR HO9 hb
   replace HO10:=eR HO10 hb
   replace HO11:=eQ HO11 hb
   replace HO12:=eR HO12 hb
   replace HO13:=eR HO13 hb
   replace BK1:=eK BK1 hb
   replace BK2:=eK BK2 hb
   replace BK3:=eK BK3 hb
   replace HR3:=C (Kd.C_below (by repeat(first|(with_reducible exact HR3.out)|(with_reducible refine Kd.C_alloc ?_ _)|(with_reducible refine Kd.C_drewN ?_ _)|(with_reducible refine Kd.C_drew ?_)|exact HR3.out)) hb)
   replace HB:=eB hb
   clear hb hbox hg
   refine hK.out _ _ hh (fun hHeld=> ?_)
   clear hK K
   refine nu (N:=(some 11)) ?_
   refine ou 4 (some 50) (fun K hK=> ?_)
   refine gs Tryd.func29 #[G #[L Ao9 t37.length co9,V I t38,V I t39,V I t40,O t41,V I t42,O t43,V I t44,V I t45,L Ao10 t46.length co10,L Ao11 t47.length co11,V I t48,O t49,V I t50],L A13 y4.length c13] ?_
   with_reducible refine(impl_RunActs.calls k _ _ t37 t38 t39 t40 t41 t42 t43 t44 t45 _ _ t46 _ _ t47 t48 t49 t50 _ _ y4 t52 t53 t54 t55 t56 t57 t58 t59 t60 t61 t62 t63 t64 t65 t66 _ ?side1 ?side2 ?side3 ?side4 ?side5 ?side6 ?side7 ?side8 A7.out).mono ?_
   (case side1=>exact uC (Kd.R_reads' HO10.out).2.2)
   (case side2=>exact(Kd.R_reads' HO10.out).2.1)
   (case side3=>exact uC (Kd.Q_reads' HO11.out).2.2)
   (case side4=>exact(Kd.Q_reads' HO11.out).2.1)
   (case side5=>exact uC (Kd.R_reads' HO12.out).2.2)
   (case side6=>exact(Kd.R_reads' HO12.out).2.1)
   (case side7=>repeat(first|exact(by repeat(first|(with_reducible exact HR3.out)|(with_reducible refine Kd.C_alloc ?_ _)|(with_reducible refine Kd.C_drewN ?_ _)|(with_reducible refine Kd.C_drew ?_)|exact HR3.out))|(with_reducible refine Kd.C_alloc ?_ _)|(with_reducible refine Kd.C_drewN ?_ _)|(with_reducible refine Kd.C_drew ?_)))
   (case side8=>exact HC3.out)
   rintro e w13 ⟨v14,v15,v16,v17,rfl,ho1,ho2,ho3,ho4,hb⟩
   refine⟨_,rfl,?_⟩
   have HO14:=C (Kd.R_lower (Kd.R_new' (Kd.R_new' (Kd.R_new' ho1 (Kd.R_lt (uR HO1.out))) (Kd.R_lt (uR HO6.out))) (Kd.R_lt (uR HO10.out))) (below_size uB))
   have HO15:=C (Kd.Q_lower (Kd.Q_new' (Kd.Q_new' (Kd.Q_new' (Kd.Q_new' (Kd.Q_new' (Kd.Q_new' (Kd.Q_new' (Kd.Q_new' (Kd.Q_new' ho2 (Kd.Q_lt (uQ HO2.out))) (Kd.R_lt (uR HO3.out))) (Kd.R_lt (uR HO5.out))) (Kd.Q_lt (uQ HO7.out))) (Kd.R_lt (uR HO8.out))) (Kd.R_lt (uR HO9.out))) (Kd.Q_lt (uQ HO11.out))) (Kd.R_lt (uR HO12.out))) (Kd.R_lt (uR HO13.out))) (below_size uB))
   have HO16:=C (Kd.R_lower (Kd.R_new' (Kd.R_new' (Kd.R_new' (Kd.R_new' (Kd.R_new' (Kd.R_new' (Kd.R_new' (Kd.R_new' (Kd.R_new' ho3 (Kd.Q_lt (uQ HO2.out))) (Kd.R_lt (uR HO3.out))) (Kd.R_lt (uR HO5.out))) (Kd.Q_lt (uQ HO7.out))) (Kd.R_lt (uR HO8.out))) (Kd.R_lt (uR HO9.out))) (Kd.Q_lt (uQ HO11.out))) (Kd.R_lt (uR HO12.out))) (Kd.R_lt (uR HO13.out))) (below_size uB))
   have HO17:=C (Kd.R_lower (Kd.R_new' (Kd.R_new' (Kd.R_new' (Kd.R_new' (Kd.R_new' (Kd.R_new' (Kd.R_new' (Kd.R_new' (Kd.R_new' ho4 (Kd.Q_lt (uQ HO2.out))) (Kd.R_lt (uR HO3.out))) (Kd.R_lt (uR HO5.out))) (Kd.Q_lt (uQ HO7.out))) (Kd.R_lt (uR HO8.out))) (Kd.R_lt (uR HO9.out))) (Kd.Q_lt (uQ HO11.out))) (Kd.R_lt (uR HO12.out))) (Kd.R_lt (uR HO13.out))) (below_size uB))
   replace HO1:=C (Kd.R_elder' (uR HO1.out) (Kd.R_base ho1) hb)
   replace HO2:=C (Kd.Q_mono (Kd.Q_told (Kd.Q_told (Kd.Q_told (Kd.Q_old (uQ HO2.out) hb) (Kd.Q_base ho2)) (Kd.R_base ho3)) (Kd.R_base ho4)) (fun _ h_=>h_.1))
   replace HO3:=C (X (Kd.R_told (Kd.R_told (Kd.R_told (Kd.R_old (uR HO3.out) hb) (Kd.Q_base ho2)) (Kd.R_base ho3)) (Kd.R_base ho4)) (fun _ h_=>h_.1))
   replace HO4:=eR HO4 hb
   replace HO5:=C (X (Kd.R_told (Kd.R_told (Kd.R_told (Kd.R_old (uR HO5.out) hb) (Kd.Q_base ho2)) (Kd.R_base ho3)) (Kd.R_base ho4)) (fun _ h_=>h_.1))
   replace HO6:=C (Kd.R_elder' (uR HO6.out) (Kd.R_base ho1) hb)
   replace HO7:=C (Kd.Q_mono (Kd.Q_told (Kd.Q_told (Kd.Q_told (Kd.Q_old (uQ HO7.out) hb) (Kd.Q_base ho2)) (Kd.R_base ho3)) (Kd.R_base ho4)) (fun _ h_=>h_.1))
   replace HO8:=C (X (Kd.R_told (Kd.R_told (Kd.R_told (Kd.R_old (uR HO8.out) hb) (Kd.Q_base ho2)) (Kd.R_base ho3)) (Kd.R_base ho4)) (fun _ h_=>h_.1))
   replace HO9:=C (X (Kd.R_told (Kd.R_told (Kd.R_told (Kd.R_old (uR HO9.out) hb) (Kd.Q_base ho2)) (Kd.R_base ho3)) (Kd.R_base ho4)) (fun _ h_=>h_.1))
   replace HO10:=C (Kd.R_elder' (uR HO10.out) (Kd.R_base ho1) hb)
   replace HO11:=C (Kd.Q_mono (Kd.Q_told (Kd.Q_told (Kd.Q_told (Kd.Q_old (uQ HO11.out) hb) (Kd.Q_base ho2)) (Kd.R_base ho3)) (Kd.R_base ho4)) (fun _ h_=>h_.1))
   replace HO12:=C (X (Kd.R_told (Kd.R_told (Kd.R_told (Kd.R_old (uR HO12.out) hb) (Kd.Q_base ho2)) (Kd.R_base ho3)) (Kd.R_base ho4)) (fun _ h_=>h_.1))
   replace HO13:=C (X (Kd.R_told (Kd.R_told (Kd.R_told (Kd.R_old (uR HO13.out) hb) (Kd.Q_base ho2)) (Kd.R_base ho3)) (Kd.R_base ho4)) (fun _ h_=>h_.1))
   replace BK1:=eK BK1 hb
   replace BK2:=eK BK2 hb
   replace BK3:=eK BK3 hb
   replace HR3:=C (Kd.C_below (by repeat(first|(with_reducible exact HR3.out)|(with_reducible refine Kd.C_alloc ?_ _)|(with_reducible refine Kd.C_drewN ?_ _)|(with_reducible refine Kd.C_drew ?_)|exact HR3.out)) hb)
   replace BK4:=eK BK4 hb
   replace HB:=eB hb
   (try clear hb)
   refine hK.out _ _ hh (fun hHeld=> ?_)
   clear hK K
   refine nu (N:=(some 50)) ?_
   refine pu 5 (some 45) ?_
   refine pu 6 (some 51) ?_
   refine pu 7 (some 52) ?_
   exact norm_ (by simp only[putAll,Act.put,List.setIfInBounds_toArray,List.set_cons_zero,List.set_cons_succ]) (hCont (v14,v15,v16,v17,gb4) _ ⟨hHeld,(X (fR HO5.out) (fun _ hk=>⟨hk.1.1.1.2.2.1,⟨hk.1.1.1.2.2.2.1,⟨hk.1.1.1.2.2.2.2.1,⟨hk.1.1.1.2.2.2.2.2.1,⟨hk.1.1.1.2.2.2.2.2.2.1,⟨hk.1.1.1.2.2.2.2.2.2.2,⟨hk.1.1.2,⟨hk.1.2,⟨hk.2,⟨hk.1.1.1.1,hk.1.1.1.2.1⟩⟩⟩⟩⟩⟩⟩⟩⟩⟩)),(X (fR HO6.out) (fun _ hk=>⟨hk.1.2,⟨hk.2,hk.1.1⟩⟩)),(Kd.Q_mono (fQ HO7.out) (fun _ hk=>⟨hk.1.1.1.2.2.1,⟨hk.1.1.1.2.2.2.1,⟨hk.1.1.1.2.2.2.2.1,⟨hk.1.1.1.2.2.2.2.2.1,⟨hk.1.1.1.2.2.2.2.2.2.1,⟨hk.1.1.1.2.2.2.2.2.2.2,⟨hk.1.1.2,⟨hk.1.2,⟨hk.2,⟨hk.1.1.1.1,hk.1.1.1.2.1⟩⟩⟩⟩⟩⟩⟩⟩⟩⟩)),(X (fR HO8.out) (fun _ hk=>⟨hk.1.1.1.2.2.1,⟨hk.1.1.1.2.2.2.1,⟨hk.1.1.1.2.2.2.2.1,⟨hk.1.1.1.2.2.2.2.2.1,⟨hk.1.1.1.2.2.2.2.2.2.1,⟨hk.1.1.1.2.2.2.2.2.2.2,⟨hk.1.1.2,⟨hk.1.2,⟨hk.2,⟨hk.1.1.1.1,hk.1.1.1.2.1⟩⟩⟩⟩⟩⟩⟩⟩⟩⟩)),(X (fR HO9.out) (fun _ hk=>⟨hk.1.1.1.2.2.1,⟨hk.1.1.1.2.2.2.1,⟨hk.1.1.1.2.2.2.2.1,⟨hk.1.1.1.2.2.2.2.2.1,⟨hk.1.1.1.2.2.2.2.2.2.1,⟨hk.1.1.1.2.2.2.2.2.2.2,⟨hk.1.1.2,⟨hk.1.2,⟨hk.2,⟨hk.1.1.1.1,hk.1.1.1.2.1⟩⟩⟩⟩⟩⟩⟩⟩⟩⟩)),(X (fR HO10.out) (fun _ hk=>⟨hk.1.2,⟨hk.2,hk.1.1⟩⟩)),(Kd.Q_mono (fQ HO11.out) (fun _ hk=>⟨hk.1.1.1.2.2.1,⟨hk.1.1.1.2.2.2.1,⟨hk.1.1.1.2.2.2.2.1,⟨hk.1.1.1.2.2.2.2.2.1,⟨hk.1.1.1.2.2.2.2.2.2.1,⟨hk.1.1.1.2.2.2.2.2.2.2,⟨hk.1.1.2,⟨hk.1.2,⟨hk.2,⟨hk.1.1.1.1,hk.1.1.1.2.1⟩⟩⟩⟩⟩⟩⟩⟩⟩⟩)),(X (fR HO12.out) (fun _ hk=>⟨hk.1.1.1.2.2.1,⟨hk.1.1.1.2.2.2.1,⟨hk.1.1.1.2.2.2.2.1,⟨hk.1.1.1.2.2.2.2.2.1,⟨hk.1.1.1.2.2.2.2.2.2.1,⟨hk.1.1.1.2.2.2.2.2.2.2,⟨hk.1.1.2,⟨hk.1.2,⟨hk.2,⟨hk.1.1.1.1,hk.1.1.1.2.1⟩⟩⟩⟩⟩⟩⟩⟩⟩⟩)),(X (fR HO13.out) (fun _ hk=>⟨hk.1.1.1.2.2.1,⟨hk.1.1.1.2.2.2.1,⟨hk.1.1.1.2.2.2.2.1,⟨hk.1.1.1.2.2.2.2.2.1,⟨hk.1.1.1.2.2.2.2.2.2.1,⟨hk.1.1.1.2.2.2.2.2.2.2,⟨hk.1.1.2,⟨hk.1.2,⟨hk.2,⟨hk.1.1.1.1,hk.1.1.1.2.1⟩⟩⟩⟩⟩⟩⟩⟩⟩⟩)),(X (fR HO14.out) (fun _ hk=>⟨hk.1.2,⟨hk.2,hk.1.1.2⟩⟩)),(Kd.Q_mono (fQ HO15.out) (fun _ hk=>⟨hk.1.1.1.1.1.1.2,⟨hk.1.1.1.1.1.2,⟨hk.1.1.1.1.2,⟨hk.1.1.1.2,⟨hk.1.1.2,⟨hk.1.2,⟨hk.2,⟨hk.1.1.1.1.1.1.1.1.1.1,⟨hk.1.1.1.1.1.1.1.1.1.2,⟨hk.1.1.1.1.1.1.1.1.2,hk.1.1.1.1.1.1.1.2⟩⟩⟩⟩⟩⟩⟩⟩⟩⟩)),(X (fR HO16.out) (fun _ hk=>⟨hk.1.1.1.1.1.1.2,⟨hk.1.1.1.1.1.2,⟨hk.1.1.1.1.2,⟨hk.1.1.1.2,⟨hk.1.1.2,⟨hk.1.2,⟨hk.2,⟨hk.1.1.1.1.1.1.1.1.1.1,⟨hk.1.1.1.1.1.1.1.1.1.2,⟨hk.1.1.1.1.1.1.1.1.2,hk.1.1.1.1.1.1.1.2⟩⟩⟩⟩⟩⟩⟩⟩⟩⟩)),(X (fR HO17.out) (fun _ hk=>⟨hk.1.1.1.1.1.1.2,⟨hk.1.1.1.1.1.2,⟨hk.1.1.1.1.2,⟨hk.1.1.1.2,⟨hk.1.1.2,⟨hk.1.2,⟨hk.2,⟨hk.1.1.1.1.1.1.1.1.1.1,⟨hk.1.1.1.1.1.1.1.1.1.2,⟨hk.1.1.1.1.1.1.1.1.2,hk.1.1.1.1.1.1.1.2⟩⟩⟩⟩⟩⟩⟩⟩⟩⟩)),(X (fR HO1.out) (fun _ hk=>⟨hk.1.1,⟨hk.1.2,hk.2⟩⟩)),(Kd.Q_mono (fQ HO2.out) (fun _ hk=>⟨hk.1.1.1.2.1,⟨hk.1.1.1.2.2.1,⟨hk.1.1.1.2.2.2.1,⟨hk.1.1.1.2.2.2.2.1,⟨hk.1.1.1.2.2.2.2.2.1,⟨hk.1.1.1.2.2.2.2.2.2.1,⟨hk.1.1.1.2.2.2.2.2.2.2,⟨hk.1.1.2,⟨hk.1.2,⟨hk.2,hk.1.1.1.1⟩⟩⟩⟩⟩⟩⟩⟩⟩⟩)),(X (fR HO3.out) (fun _ hk=>⟨hk.1.1.1.2.1,⟨hk.1.1.1.2.2.1,⟨hk.1.1.1.2.2.2.1,⟨hk.1.1.1.2.2.2.2.1,⟨hk.1.1.1.2.2.2.2.2.1,⟨hk.1.1.1.2.2.2.2.2.2.1,⟨hk.1.1.1.2.2.2.2.2.2.2,⟨hk.1.1.2,⟨hk.1.2,⟨hk.2,hk.1.1.1.1⟩⟩⟩⟩⟩⟩⟩⟩⟩⟩)),(uR HO4.out),(uK BK2.out),(uK BK3.out),(uK BK4.out),(uK BK1.out),GW4.out,GE4.out,NB2_1082.out,NB4_1026.out,NB3_1082.out,NB4_1054.out,NB1_1082.out,NB4_998.out,uB⟩)
 rintro⟨v14,v15,v16,v17,gb4⟩ w12 ⟨hS_,h1_,h2_,h3_,h4_,h5_,h6_,h7_,h8_,h9_,h10_,h11_,h12_,h13_,h14_,h15_,h16_,h17_,h18_,h19_,h20_,h21_,h22_,h23_,h24_,h25_,h26_,h27_,h28_,h29_,h30_⟩
 have n0_:D (Kd.R (Kd.int .i64) 3 w12 w.heap.size (fun k_=>qn k_ Ao7 t27.length co7∧qn k_ Ao8 t28.length co8∧qm k_ v9∧qn k_ Ao10 t46.length co10∧qn k_ Ao11 t47.length co11∧qm k_ v13∧qm k_ v15∧qm k_ v16∧qm k_ v17∧qn k_ Ao2 t11.length co2∧qn k_ Ao3 t12.length co3) (L (some ad1) t17.length co4) t17):=⟨h1_⟩
 have n1_:D (Kd.R k40 40 w12 w.heap.size (fun k_=>qn k_ Ao9 t37.length co9∧qm k_ v14∧qn k_ Ao1 t2.length co1) (L Ao6 t18.length co6) t18):=⟨h2_⟩
 have n2_:D (Kd.Q (Kd.int .i64) 3 w12 w.heap.size (fun k_=>qn k_ (some ad1) t17.length co4∧qn k_ Ao8 t28.length co8∧qm k_ v9∧qn k_ Ao10 t46.length co10∧qn k_ Ao11 t47.length co11∧qm k_ v13∧qm k_ v15∧qm k_ v16∧qm k_ v17∧qn k_ Ao2 t11.length co2∧qn k_ Ao3 t12.length co3) (L Ao7 t27.length co7) t27):=⟨h3_⟩
 have n3_:D (Kd.R (Kd.int .i64) 3 w12 w.heap.size (fun k_=>qn k_ (some ad1) t17.length co4∧qn k_ Ao7 t27.length co7∧qm k_ v9∧qn k_ Ao10 t46.length co10∧qn k_ Ao11 t47.length co11∧qm k_ v13∧qm k_ v15∧qm k_ v16∧qm k_ v17∧qn k_ Ao2 t11.length co2∧qn k_ Ao3 t12.length co3) (L Ao8 t28.length co8) t28):=⟨h4_⟩
 have n4_:D (Kd.R (Kd.int .i64) 3 w12 w.heap.size (fun k_=>qn k_ (some ad1) t17.length co4∧qn k_ Ao7 t27.length co7∧qn k_ Ao8 t28.length co8∧qn k_ Ao10 t46.length co10∧qn k_ Ao11 t47.length co11∧qm k_ v13∧qm k_ v15∧qm k_ v16∧qm k_ v17∧qn k_ Ao2 t11.length co2∧qn k_ Ao3 t12.length co3) v9 t32):=⟨h5_⟩
 have n5_:D (Kd.R k40 40 w12 w.heap.size (fun k_=>qn k_ Ao6 t18.length co6∧qm k_ v14∧qn k_ Ao1 t2.length co1) (L Ao9 t37.length co9) t37):=⟨h6_⟩
 have n6_:D (Kd.Q (Kd.int .i64) 3 w12 w.heap.size (fun k_=>qn k_ (some ad1) t17.length co4∧qn k_ Ao7 t27.length co7∧qn k_ Ao8 t28.length co8∧qm k_ v9∧qn k_ Ao11 t47.length co11∧qm k_ v13∧qm k_ v15∧qm k_ v16∧qm k_ v17∧qn k_ Ao2 t11.length co2∧qn k_ Ao3 t12.length co3) (L Ao10 t46.length co10) t46):=⟨h7_⟩
 have n7_:D (Kd.R (Kd.int .i64) 3 w12 w.heap.size (fun k_=>qn k_ (some ad1) t17.length co4∧qn k_ Ao7 t27.length co7∧qn k_ Ao8 t28.length co8∧qm k_ v9∧qn k_ Ao10 t46.length co10∧qm k_ v13∧qm k_ v15∧qm k_ v16∧qm k_ v17∧qn k_ Ao2 t11.length co2∧qn k_ Ao3 t12.length co3) (L Ao11 t47.length co11) t47):=⟨h8_⟩
 have n8_:D (Kd.R (Kd.int .i64) 3 w12 w.heap.size (fun k_=>qn k_ (some ad1) t17.length co4∧qn k_ Ao7 t27.length co7∧qn k_ Ao8 t28.length co8∧qm k_ v9∧qn k_ Ao10 t46.length co10∧qn k_ Ao11 t47.length co11∧qm k_ v15∧qm k_ v16∧qm k_ v17∧qn k_ Ao2 t11.length co2∧qn k_ Ao3 t12.length co3) v13 t51):=⟨h9_⟩
 have n9_:D (Kd.R k40 40 w12 w.heap.size (fun k_=>qn k_ Ao6 t18.length co6∧qn k_ Ao9 t37.length co9∧qn k_ Ao1 t2.length co1) v14 t52):=⟨h10_⟩
 have n10_:D (Kd.Q (Kd.int .i64) 3 w12 w.heap.size (fun k_=>qn k_ (some ad1) t17.length co4∧qn k_ Ao7 t27.length co7∧qn k_ Ao8 t28.length co8∧qm k_ v9∧qn k_ Ao10 t46.length co10∧qn k_ Ao11 t47.length co11∧qm k_ v13∧qm k_ v16∧qm k_ v17∧qn k_ Ao2 t11.length co2∧qn k_ Ao3 t12.length co3) v15 t61):=⟨h11_⟩
 have n11_:D (Kd.R (Kd.int .i64) 3 w12 w.heap.size (fun k_=>qn k_ (some ad1) t17.length co4∧qn k_ Ao7 t27.length co7∧qn k_ Ao8 t28.length co8∧qm k_ v9∧qn k_ Ao10 t46.length co10∧qn k_ Ao11 t47.length co11∧qm k_ v13∧qm k_ v15∧qm k_ v17∧qn k_ Ao2 t11.length co2∧qn k_ Ao3 t12.length co3) v16 t62):=⟨h12_⟩
 have n12_:D (Kd.R (Kd.int .i64) 3 w12 w.heap.size (fun k_=>qn k_ (some ad1) t17.length co4∧qn k_ Ao7 t27.length co7∧qn k_ Ao8 t28.length co8∧qm k_ v9∧qn k_ Ao10 t46.length co10∧qn k_ Ao11 t47.length co11∧qm k_ v13∧qm k_ v15∧qm k_ v16∧qn k_ Ao2 t11.length co2∧qn k_ Ao3 t12.length co3) v17 t66):=⟨h13_⟩
 have n13_:D (Kd.R k40 40 w12 w.heap.size (fun k_=>qn k_ Ao6 t18.length co6∧qn k_ Ao9 t37.length co9∧qm k_ v14) (L Ao1 t2.length co1) t2):=⟨h14_⟩
 have n14_:D (Kd.Q (Kd.int .i64) 3 w12 w.heap.size (fun k_=>qn k_ (some ad1) t17.length co4∧qn k_ Ao7 t27.length co7∧qn k_ Ao8 t28.length co8∧qm k_ v9∧qn k_ Ao10 t46.length co10∧qn k_ Ao11 t47.length co11∧qm k_ v13∧qm k_ v15∧qm k_ v16∧qm k_ v17∧qn k_ Ao3 t12.length co3) (L Ao2 t11.length co2) t11):=⟨h15_⟩
 have n15_:D (Kd.R (Kd.int .i64) 3 w12 w.heap.size (fun k_=>qn k_ (some ad1) t17.length co4∧qn k_ Ao7 t27.length co7∧qn k_ Ao8 t28.length co8∧qm k_ v9∧qn k_ Ao10 t46.length co10∧qn k_ Ao11 t47.length co11∧qm k_ v13∧qm k_ v15∧qm k_ v16∧qm k_ v17∧qn k_ Ao2 t11.length co2) (L Ao3 t12.length co3) t12):=⟨h16_⟩
 have n16_:D (Kd.R k26 26 w12 w.heap.size (fun _=>True) (L Ao5 t16.length co5) t16):=⟨h17_⟩
 have n17_:D (w12.heap[gb2]? =some (.cells #[L Ao6 t18.length co6,V I t19,V I t20,V I t21,O t22,V I t23,O t24,V I t25,V I t26,L Ao7 t27.length co7,L Ao8 t28.length co8,V I t29,O t30,V I t31] 45 (0,0))):=⟨h18_⟩
 have n18_:D (w12.heap[gb3]? =some (.cells #[L Ao9 t37.length co9,V I t38,V I t39,V I t40,O t41,V I t42,O t43,V I t44,V I t45,L Ao10 t46.length co10,L Ao11 t47.length co11,V I t48,O t49,V I t50] 45 (0,0))):=⟨h19_⟩
 have n19_:D (w12.heap[gb4]? =some (.cells #[L none 0 0,V I 0,V I 0,V I 0,O false,V I 0,O false,V I 0,V I 0,L none 0 0,L none 0 0,V I 0,O false,V I 0] 45 (0,0))):=⟨h20_⟩
 have n20_:D (w12.heap[gb1]? =some (.cells #[L Ao1 t2.length co1,V I t3,V I t4,V I t5,O t6,V I t7,O t8,V I t9,V I t10,L Ao2 t11.length co2,L Ao3 t12.length co3,V I t13,O t14,V I t15] 45 (0,0))):=⟨h21_⟩
 have n21_:D (w.heap.size≤gb4):=⟨h22_⟩
 have n22_:D (w.heap.size≤gb4):=⟨h23_⟩
 have n23_:D (gb2≠gb4):=⟨h24_⟩
 have n24_:D (gb4≠gb2):=⟨h25_⟩
 have n25_:D (gb3≠gb4):=⟨h26_⟩
 have n26_:D (gb4≠gb3):=⟨h27_⟩
 have n27_:D (gb1≠gb4):=⟨h28_⟩
 have n28_:D (gb4≠gb1):=⟨h29_⟩
 have n29_:D (Below w.heap.size w w12):=⟨h30_⟩
 clear HO1
 clear HO2
 clear HO3
 clear HO4
 clear HO5
 clear HO6
 clear HO7
 clear HO8
 clear HO9
 clear HO10
 clear HO11
 clear HO12
 clear HO13
 clear BK1
 clear BK2
 clear BK3
 clear HB
 clear h1_ h2_ h3_ h4_ h5_ h6_ h7_ h8_ h9_ h10_ h11_ h12_ h13_ h14_ h15_ h16_ h17_ h18_ h19_ h20_ h21_ h22_ h23_ h24_ h25_ h26_ h27_ h28_ h29_ h30_
 have HO5:=n0_
 have HO6:=n1_
 have HO7:=n2_
 have HO8:=n3_
 have HO9:=n4_
 have HO10:=n5_
 have HO11:=n6_
 have HO12:=n7_
 have HO13:=n8_
 have HO14:=n9_
 have HO15:=n10_
 have HO16:=n11_
 have HO17:=n12_
 have HO1:=n13_
 have HO2:=n14_
 have HO3:=n15_
 have HO4:=n16_
 have BK2:=n17_
 have BK3:=n18_
 have BK4:=n19_
 have BK1:=n20_
 have GW4:=n21_
 have GE4:=n22_
 have NB2_1082:=n23_
 have NB4_1026:=n24_
 have NB3_1082:=n25_
 have NB4_1054:=n26_
 have NB1_1082:=n27_
 have NB4_998:=n28_
 have HB:=n29_
 clear n0_ n1_ n2_ n3_ n4_ n5_ n6_ n7_ n8_ n9_ n10_ n11_ n12_ n13_ n14_ n15_ n16_ n17_ n18_ n19_ n20_ n21_ n22_ n23_ n24_ n25_ n26_ n27_ n28_ n29_
 have hHeld:w12.cell? ⟨gb3,0,none⟩=some (L Ao9 t37.length co9)∧w12.cell? ⟨gb3,1,none⟩=some (V I t38)∧w12.cell? ⟨gb3,2,none⟩=some (V I t39)∧w12.cell? ⟨gb3,3,none⟩=some (V I t40)∧w12.cell? ⟨gb3,4,none⟩=some (O t41)∧w12.cell? ⟨gb3,5,none⟩=some (V I t42)∧w12.cell? ⟨gb3,6,none⟩=some (O t43)∧w12.cell? ⟨gb3,7,none⟩=some (V I t44)∧w12.cell? ⟨gb3,8,none⟩=some (V I t45)∧w12.cell? ⟨gb3,9,none⟩=some (L Ao10 t46.length co10)∧w12.cell? ⟨gb3,10,none⟩=some (L Ao11 t47.length co11)∧w12.cell? ⟨gb3,11,none⟩=some (V I t48)∧w12.cell? ⟨gb3,12,none⟩=some (O t49)∧w12.cell? ⟨gb3,13,none⟩=some (V I t50):=hS_
 obtain⟨Ao12,co12,eo12⟩:=U HO14.out
 (first|subst eo12|(injection eo12 with f1_ f2_ f3_;have f4_:=f1_.symm;have f5_:=f3_.symm;clear f1_ f2_ f3_;subst f4_;subst f5_))
 obtain⟨Ao13,co13,eo13,_⟩:=Kd.Q_slice HO15.out
 (first|subst eo13|(injection eo13 with f1_ f2_ f3_;have f4_:=f1_.symm;have f5_:=f3_.symm;clear f1_ f2_ f3_;subst f4_;subst f5_))
 obtain⟨Ao14,co14,eo14⟩:=U HO16.out
 (first|subst eo14|(injection eo14 with f1_ f2_ f3_;have f4_:=f1_.symm;have f5_:=f3_.symm;clear f1_ f2_ f3_;subst f4_;subst f5_))
 refine norm_ (a':= ?_) ?_ ?_
 rotate_left
 ·simp only[putAll,Act.put,List.setIfInBounds_toArray,List.set_cons_zero,List.set_cons_succ]
  rfl
 refine ou 9 (none) (fun K hK=> ?_)
 obtain⟨hs15,hs16,hs17,hs18,hs19,hs20,hs21,hs22,hs23,hs24,hs25,hs26,hs27,hs28,hfs15,hfs16,hfs17,hfs18,hfs19,hfs20,hfs21,hfs22,hfs23,hfs24,hfs25,hfs26,hfs27,hfs28⟩:=d14 BK4.out
 have hns2_0:=NB1_1082.out
 have hns2_1:=NB2_1082.out
 have hns2_2:=NB3_1082.out
 have hms2_0:=NB4_998.out
 have hms2_1:=NB4_1026.out
 have hms2_2:=NB4_1054.out
 refine skip_ (w1:= ?_) (by rfl) rfl ?_ ?_
 rotate_left
 ·go_simp
  rfl
 refine hK.out _ _ (cs14 (fun _ _=>cf14 NB3_1082.out) hHeld) (fun hHeld=> ?_)
 clear hK K
 refine pu 10 (some 12) ?_
 refine done_ (done_of HT_.out (by kernel_rfl)) ?_
 obtain⟨w13,hw⟩:∃w_,w_=(((((((((((((w12.setCell ⟨gb4,0,none⟩ (L Ao12 t52.length co12)).setCell ⟨gb4,1,none⟩ (V I t53)).setCell ⟨gb4,2,none⟩ (V I t54)).setCell ⟨gb4,3,none⟩ (V I t55)).setCell ⟨gb4,4,none⟩ (O t56)).setCell ⟨gb4,5,none⟩ (V I t57)).setCell ⟨gb4,6,none⟩ (O t58)).setCell ⟨gb4,7,none⟩ (V I t59)).setCell ⟨gb4,8,none⟩ (V I t60)).setCell ⟨gb4,9,none⟩ (L Ao13 t61.length co13)).setCell ⟨gb4,10,none⟩ (L Ao14 t62.length co14)).setCell ⟨gb4,11,none⟩ (V I t63)).setCell ⟨gb4,12,none⟩ (O t64)).setCell ⟨gb4,13,none⟩ (V I t65):=⟨_,rfl⟩
 (try rw[←hw])
 replace HO1:=wR hw (Y HO1.out BK4.out (by decide))
 replace HO2:D (Kd.Q _ _ _ _ (fun k_=>qn k_ Ao3 t12.length co3∧qn k_ (some ad1) t17.length co4∧qn k_ Ao7 t27.length co7∧qn k_ Ao8 t28.length co8∧qm k_ v9∧qn k_ Ao10 t46.length co10∧qn k_ Ao11 t47.length co11∧qm k_ v13∧qn k_ Ao13 t61.length co13∧qn k_ Ao14 t62.length co14∧qm k_ v17) _ _):=tQ hw (Kd.Q_types HO2.out BK4.out (by decide)) (fun _ hk=>⟨hk.1.2.2.2.2.2.2.2.2.2.2,⟨hk.1.1,⟨hk.1.2.1,⟨hk.1.2.2.1,⟨hk.1.2.2.2.1,⟨hk.1.2.2.2.2.1,⟨hk.1.2.2.2.2.2.1,⟨hk.1.2.2.2.2.2.2.1,⟨hk.1.2.2.2.2.2.2.2.1,⟨hk.1.2.2.2.2.2.2.2.2.1,hk.1.2.2.2.2.2.2.2.2.2.1⟩⟩⟩⟩⟩⟩⟩⟩⟩⟩)
 replace HO3:D (Kd.R _ _ _ _ (fun k_=>qn k_ Ao2 t11.length co2∧qn k_ (some ad1) t17.length co4∧qn k_ Ao7 t27.length co7∧qn k_ Ao8 t28.length co8∧qm k_ v9∧qn k_ Ao10 t46.length co10∧qn k_ Ao11 t47.length co11∧qm k_ v13∧qn k_ Ao13 t61.length co13∧qn k_ Ao14 t62.length co14∧qm k_ v17) _ _):=tR hw (Y HO3.out BK4.out (by decide)) (fun _ hk=>⟨hk.1.2.2.2.2.2.2.2.2.2.2,⟨hk.1.1,⟨hk.1.2.1,⟨hk.1.2.2.1,⟨hk.1.2.2.2.1,⟨hk.1.2.2.2.2.1,⟨hk.1.2.2.2.2.2.1,⟨hk.1.2.2.2.2.2.2.1,⟨hk.1.2.2.2.2.2.2.2.1,⟨hk.1.2.2.2.2.2.2.2.2.1,hk.1.2.2.2.2.2.2.2.2.2.1⟩⟩⟩⟩⟩⟩⟩⟩⟩⟩)
 replace HO4:D (Kd.R _ _ _ _ (fun _=>True) _ _):=tR hw (Y HO4.out BK4.out (by decide)) (fun _ hk=>trivial)
 replace HO5:D (Kd.R _ _ _ _ (fun k_=>qn k_ Ao2 t11.length co2∧qn k_ Ao3 t12.length co3∧qn k_ Ao7 t27.length co7∧qn k_ Ao8 t28.length co8∧qm k_ v9∧qn k_ Ao10 t46.length co10∧qn k_ Ao11 t47.length co11∧qm k_ v13∧qn k_ Ao13 t61.length co13∧qn k_ Ao14 t62.length co14∧qm k_ v17) _ _):=tR hw (Y HO5.out BK4.out (by decide)) (fun _ hk=>⟨hk.1.2.2.2.2.2.2.2.2.2.1,⟨hk.1.2.2.2.2.2.2.2.2.2.2,⟨hk.1.1,⟨hk.1.2.1,⟨hk.1.2.2.1,⟨hk.1.2.2.2.1,⟨hk.1.2.2.2.2.1,⟨hk.1.2.2.2.2.2.1,⟨hk.1.2.2.2.2.2.2.1,⟨hk.1.2.2.2.2.2.2.2.1,hk.1.2.2.2.2.2.2.2.2.1⟩⟩⟩⟩⟩⟩⟩⟩⟩⟩)
 replace HO6:D (Kd.R _ _ _ _ (fun k_=>qn k_ Ao1 t2.length co1∧qn k_ Ao9 t37.length co9∧qn k_ Ao12 t52.length co12) _ _):=tR hw (Y HO6.out BK4.out (by decide)) (fun _ hk=>⟨hk.1.2.2,⟨hk.1.1,hk.1.2.1⟩⟩)
 replace HO7:D (Kd.Q _ _ _ _ (fun k_=>qn k_ Ao2 t11.length co2∧qn k_ Ao3 t12.length co3∧qn k_ (some ad1) t17.length co4∧qn k_ Ao8 t28.length co8∧qm k_ v9∧qn k_ Ao10 t46.length co10∧qn k_ Ao11 t47.length co11∧qm k_ v13∧qn k_ Ao13 t61.length co13∧qn k_ Ao14 t62.length co14∧qm k_ v17) _ _):=tQ hw (Kd.Q_types HO7.out BK4.out (by decide)) (fun _ hk=>⟨hk.1.2.2.2.2.2.2.2.2.2.1,⟨hk.1.2.2.2.2.2.2.2.2.2.2,⟨hk.1.1,⟨hk.1.2.1,⟨hk.1.2.2.1,⟨hk.1.2.2.2.1,⟨hk.1.2.2.2.2.1,⟨hk.1.2.2.2.2.2.1,⟨hk.1.2.2.2.2.2.2.1,⟨hk.1.2.2.2.2.2.2.2.1,hk.1.2.2.2.2.2.2.2.2.1⟩⟩⟩⟩⟩⟩⟩⟩⟩⟩)
 replace HO8:D (Kd.R _ _ _ _ (fun k_=>qn k_ Ao2 t11.length co2∧qn k_ Ao3 t12.length co3∧qn k_ (some ad1) t17.length co4∧qn k_ Ao7 t27.length co7∧qm k_ v9∧qn k_ Ao10 t46.length co10∧qn k_ Ao11 t47.length co11∧qm k_ v13∧qn k_ Ao13 t61.length co13∧qn k_ Ao14 t62.length co14∧qm k_ v17) _ _):=tR hw (Y HO8.out BK4.out (by decide)) (fun _ hk=>⟨hk.1.2.2.2.2.2.2.2.2.2.1,⟨hk.1.2.2.2.2.2.2.2.2.2.2,⟨hk.1.1,⟨hk.1.2.1,⟨hk.1.2.2.1,⟨hk.1.2.2.2.1,⟨hk.1.2.2.2.2.1,⟨hk.1.2.2.2.2.2.1,⟨hk.1.2.2.2.2.2.2.1,⟨hk.1.2.2.2.2.2.2.2.1,hk.1.2.2.2.2.2.2.2.2.1⟩⟩⟩⟩⟩⟩⟩⟩⟩⟩)
 replace HO9:D (Kd.R _ _ _ _ (fun k_=>qn k_ Ao2 t11.length co2∧qn k_ Ao3 t12.length co3∧qn k_ (some ad1) t17.length co4∧qn k_ Ao7 t27.length co7∧qn k_ Ao8 t28.length co8∧qn k_ Ao10 t46.length co10∧qn k_ Ao11 t47.length co11∧qm k_ v13∧qn k_ Ao13 t61.length co13∧qn k_ Ao14 t62.length co14∧qm k_ v17) _ _):=tR hw (Y HO9.out BK4.out (by decide)) (fun _ hk=>⟨hk.1.2.2.2.2.2.2.2.2.2.1,⟨hk.1.2.2.2.2.2.2.2.2.2.2,⟨hk.1.1,⟨hk.1.2.1,⟨hk.1.2.2.1,⟨hk.1.2.2.2.1,⟨hk.1.2.2.2.2.1,⟨hk.1.2.2.2.2.2.1,⟨hk.1.2.2.2.2.2.2.1,⟨hk.1.2.2.2.2.2.2.2.1,hk.1.2.2.2.2.2.2.2.2.1⟩⟩⟩⟩⟩⟩⟩⟩⟩⟩)
 replace HO10:D (Kd.R _ _ _ _ (fun k_=>qn k_ Ao1 t2.length co1∧qn k_ Ao6 t18.length co6∧qn k_ Ao12 t52.length co12) _ _):=tR hw (Y HO10.out BK4.out (by decide)) (fun _ hk=>⟨hk.1.2.2,⟨hk.1.1,hk.1.2.1⟩⟩)
 replace HO11:D (Kd.Q _ _ _ _ (fun k_=>qn k_ Ao2 t11.length co2∧qn k_ Ao3 t12.length co3∧qn k_ (some ad1) t17.length co4∧qn k_ Ao7 t27.length co7∧qn k_ Ao8 t28.length co8∧qm k_ v9∧qn k_ Ao11 t47.length co11∧qm k_ v13∧qn k_ Ao13 t61.length co13∧qn k_ Ao14 t62.length co14∧qm k_ v17) _ _):=tQ hw (Kd.Q_types HO11.out BK4.out (by decide)) (fun _ hk=>⟨hk.1.2.2.2.2.2.2.2.2.2.1,⟨hk.1.2.2.2.2.2.2.2.2.2.2,⟨hk.1.1,⟨hk.1.2.1,⟨hk.1.2.2.1,⟨hk.1.2.2.2.1,⟨hk.1.2.2.2.2.1,⟨hk.1.2.2.2.2.2.1,⟨hk.1.2.2.2.2.2.2.1,⟨hk.1.2.2.2.2.2.2.2.1,hk.1.2.2.2.2.2.2.2.2.1⟩⟩⟩⟩⟩⟩⟩⟩⟩⟩)
 replace HO12:D (Kd.R _ _ _ _ (fun k_=>qn k_ Ao2 t11.length co2∧qn k_ Ao3 t12.length co3∧qn k_ (some ad1) t17.length co4∧qn k_ Ao7 t27.length co7∧qn k_ Ao8 t28.length co8∧qm k_ v9∧qn k_ Ao10 t46.length co10∧qm k_ v13∧qn k_ Ao13 t61.length co13∧qn k_ Ao14 t62.length co14∧qm k_ v17) _ _):=tR hw (Y HO12.out BK4.out (by decide)) (fun _ hk=>⟨hk.1.2.2.2.2.2.2.2.2.2.1,⟨hk.1.2.2.2.2.2.2.2.2.2.2,⟨hk.1.1,⟨hk.1.2.1,⟨hk.1.2.2.1,⟨hk.1.2.2.2.1,⟨hk.1.2.2.2.2.1,⟨hk.1.2.2.2.2.2.1,⟨hk.1.2.2.2.2.2.2.1,⟨hk.1.2.2.2.2.2.2.2.1,hk.1.2.2.2.2.2.2.2.2.1⟩⟩⟩⟩⟩⟩⟩⟩⟩⟩)
 replace HO13:D (Kd.R _ _ _ _ (fun k_=>qn k_ Ao2 t11.length co2∧qn k_ Ao3 t12.length co3∧qn k_ (some ad1) t17.length co4∧qn k_ Ao7 t27.length co7∧qn k_ Ao8 t28.length co8∧qm k_ v9∧qn k_ Ao10 t46.length co10∧qn k_ Ao11 t47.length co11∧qn k_ Ao13 t61.length co13∧qn k_ Ao14 t62.length co14∧qm k_ v17) _ _):=tR hw (Y HO13.out BK4.out (by decide)) (fun _ hk=>⟨hk.1.2.2.2.2.2.2.2.2.2.1,⟨hk.1.2.2.2.2.2.2.2.2.2.2,⟨hk.1.1,⟨hk.1.2.1,⟨hk.1.2.2.1,⟨hk.1.2.2.2.1,⟨hk.1.2.2.2.2.1,⟨hk.1.2.2.2.2.2.1,⟨hk.1.2.2.2.2.2.2.1,⟨hk.1.2.2.2.2.2.2.2.1,hk.1.2.2.2.2.2.2.2.2.1⟩⟩⟩⟩⟩⟩⟩⟩⟩⟩)
 replace HO14:D (Kd.R _ _ _ _ (fun k_=>qn k_ Ao1 t2.length co1∧qn k_ Ao6 t18.length co6∧qn k_ Ao9 t37.length co9) _ _):=tR hw (Y HO14.out BK4.out (by decide)) (fun _ hk=>⟨hk.1.2.2,⟨hk.1.1,hk.1.2.1⟩⟩)
 replace HO15:D (Kd.Q _ _ _ _ (fun k_=>qn k_ Ao2 t11.length co2∧qn k_ Ao3 t12.length co3∧qn k_ (some ad1) t17.length co4∧qn k_ Ao7 t27.length co7∧qn k_ Ao8 t28.length co8∧qm k_ v9∧qn k_ Ao10 t46.length co10∧qn k_ Ao11 t47.length co11∧qm k_ v13∧qn k_ Ao14 t62.length co14∧qm k_ v17) _ _):=tQ hw (Kd.Q_types HO15.out BK4.out (by decide)) (fun _ hk=>⟨hk.1.2.2.2.2.2.2.2.2.2.1,⟨hk.1.2.2.2.2.2.2.2.2.2.2,⟨hk.1.1,⟨hk.1.2.1,⟨hk.1.2.2.1,⟨hk.1.2.2.2.1,⟨hk.1.2.2.2.2.1,⟨hk.1.2.2.2.2.2.1,⟨hk.1.2.2.2.2.2.2.1,⟨hk.1.2.2.2.2.2.2.2.1,hk.1.2.2.2.2.2.2.2.2.1⟩⟩⟩⟩⟩⟩⟩⟩⟩⟩)
 replace HO16:D (Kd.R _ _ _ _ (fun k_=>qn k_ Ao2 t11.length co2∧qn k_ Ao3 t12.length co3∧qn k_ (some ad1) t17.length co4∧qn k_ Ao7 t27.length co7∧qn k_ Ao8 t28.length co8∧qm k_ v9∧qn k_ Ao10 t46.length co10∧qn k_ Ao11 t47.length co11∧qm k_ v13∧qn k_ Ao13 t61.length co13∧qm k_ v17) _ _):=tR hw (Y HO16.out BK4.out (by decide)) (fun _ hk=>⟨hk.1.2.2.2.2.2.2.2.2.2.1,⟨hk.1.2.2.2.2.2.2.2.2.2.2,⟨hk.1.1,⟨hk.1.2.1,⟨hk.1.2.2.1,⟨hk.1.2.2.2.1,⟨hk.1.2.2.2.2.1,⟨hk.1.2.2.2.2.2.1,⟨hk.1.2.2.2.2.2.2.1,⟨hk.1.2.2.2.2.2.2.2.1,hk.1.2.2.2.2.2.2.2.2.1⟩⟩⟩⟩⟩⟩⟩⟩⟩⟩)
 replace HO17:D (Kd.R _ _ _ _ (fun k_=>qn k_ Ao2 t11.length co2∧qn k_ Ao3 t12.length co3∧qn k_ (some ad1) t17.length co4∧qn k_ Ao7 t27.length co7∧qn k_ Ao8 t28.length co8∧qm k_ v9∧qn k_ Ao10 t46.length co10∧qn k_ Ao11 t47.length co11∧qm k_ v13∧qn k_ Ao13 t61.length co13∧qn k_ Ao14 t62.length co14) _ _):=tR hw (Y HO17.out BK4.out (by decide)) (fun _ hk=>⟨hk.1.2.2.2.2.2.2.2.2.2.1,⟨hk.1.2.2.2.2.2.2.2.2.2.2,⟨hk.1.1,⟨hk.1.2.1,⟨hk.1.2.2.1,⟨hk.1.2.2.2.1,⟨hk.1.2.2.2.2.1,⟨hk.1.2.2.2.2.2.1,⟨hk.1.2.2.2.2.2.2.1,⟨hk.1.2.2.2.2.2.2.2.1,hk.1.2.2.2.2.2.2.2.2.1⟩⟩⟩⟩⟩⟩⟩⟩⟩⟩)
 replace BK1:=wK hw BK1
 replace BK2:=wK hw BK2
 replace BK3:=wK hw BK3
 replace BK4:D (w13.heap[gb4]? =some (.cells #[L Ao12 t52.length co12,V I t53,V I t54,V I t55,O t56,V I t57,O t58,V I t59,V I t60,L Ao13 t61.length co13,L Ao14 t62.length co14,V I t63,O t64,V I t65] 45 (0,0))):=⟨(by rw[hw];exact(bK BK4.out))⟩
 replace HB:=wB hw
 clear hw
 have hnb2:=NB1_1054.out
 have hnc2:=NB3_998.out
 have hnb3:=NB1_1082.out
 have hnc3:=NB4_998.out
 have h_:=d14 BK1.out;(repeat(obtain⟨_,h_⟩:=h_))
 try go_wp2_with (first|((with_reducible refine gate_callee (f:=30) rfl ?_);refine gl 30 (some 56) Tryd.func30 #[G #[L Ao1 t2.length co1,V I t3,V I t4,V I t5,O t6,V I t7,O t8,V I t9,V I t10,L Ao2 t11.length co2,L Ao3 t12.length co3,V I t13,O t14,V I t15],L Ao5 t16.length co5] ?_;(with_reducible refine(spec_RunActs.calls k _ _ t2 t3 t4 t5 t6 t7 t8 t9 t10 _ _ t11 _ _ t12 t13 t14 t15 _ _ t16 t67 t68 t69 t70 t71 t72 t73 t74 t75 t76 t77 t78 t79 t80 t81 _ ?side1 ?side2 ?side3 ?side4 ?side5 ?side6 ?side7 ?side8 A8.out).mono ?_);(case side1=>exact uC (Kd.R_reads' HO1.out).2.2);(case side2=>exact(Kd.R_reads' HO1.out).2.1);(case side3=>exact uC (Kd.Q_reads' HO2.out).2.2);(case side4=>exact(Kd.Q_reads' HO2.out).2.1);(case side5=>exact uC (Kd.R_reads' HO3.out).2.2);(case side6=>exact(Kd.R_reads' HO3.out).2.1);(case side7=>exact uC (Kd.R_reads' HO4.out).2.2);(case side8=>exact(Kd.R_reads' HO4.out).2.1);rintro e w14 ⟨v18,v19,v20,v21,rfl,ho1,ho2,ho3,ho4,hb⟩;refine⟨_,rfl,?_⟩;have HO18:=C (Kd.R_lower (Kd.R_new' (Kd.R_new' (Kd.R_new' (Kd.R_new' ho1 (Kd.R_lt (uR HO1.out))) (Kd.R_lt (uR HO6.out))) (Kd.R_lt (uR HO10.out))) (Kd.R_lt (uR HO14.out))) (below_size uB));have HO19:=C (Kd.Q_lower (Kd.Q_new' (Kd.Q_new' (Kd.Q_new' (Kd.Q_new' (Kd.Q_new' (Kd.Q_new' (Kd.Q_new' (Kd.Q_new' (Kd.Q_new' (Kd.Q_new' (Kd.Q_new' (Kd.Q_new' ho2 (Kd.Q_lt (uQ HO2.out))) (Kd.R_lt (uR HO3.out))) (Kd.R_lt (uR HO5.out))) (Kd.Q_lt (uQ HO7.out))) (Kd.R_lt (uR HO8.out))) (Kd.R_lt (uR HO9.out))) (Kd.Q_lt (uQ HO11.out))) (Kd.R_lt (uR HO12.out))) (Kd.R_lt (uR HO13.out))) (Kd.Q_lt (uQ HO15.out))) (Kd.R_lt (uR HO16.out))) (Kd.R_lt (uR HO17.out))) (below_size uB));have HO20:=C (Kd.R_lower (Kd.R_new' (Kd.R_new' (Kd.R_new' (Kd.R_new' (Kd.R_new' (Kd.R_new' (Kd.R_new' (Kd.R_new' (Kd.R_new' (Kd.R_new' (Kd.R_new' (Kd.R_new' ho3 (Kd.Q_lt (uQ HO2.out))) (Kd.R_lt (uR HO3.out))) (Kd.R_lt (uR HO5.out))) (Kd.Q_lt (uQ HO7.out))) (Kd.R_lt (uR HO8.out))) (Kd.R_lt (uR HO9.out))) (Kd.Q_lt (uQ HO11.out))) (Kd.R_lt (uR HO12.out))) (Kd.R_lt (uR HO13.out))) (Kd.Q_lt (uQ HO15.out))) (Kd.R_lt (uR HO16.out))) (Kd.R_lt (uR HO17.out))) (below_size uB));have HO21:=C (Kd.R_lower (Kd.R_new' (Kd.R_new' (Kd.R_new' (Kd.R_new' (Kd.R_new' (Kd.R_new' (Kd.R_new' (Kd.R_new' (Kd.R_new' (Kd.R_new' (Kd.R_new' (Kd.R_new' ho4 (Kd.Q_lt (uQ HO2.out))) (Kd.R_lt (uR HO3.out))) (Kd.R_lt (uR HO5.out))) (Kd.Q_lt (uQ HO7.out))) (Kd.R_lt (uR HO8.out))) (Kd.R_lt (uR HO9.out))) (Kd.Q_lt (uQ HO11.out))) (Kd.R_lt (uR HO12.out))) (Kd.R_lt (uR HO13.out))) (Kd.Q_lt (uQ HO15.out))) (Kd.R_lt (uR HO16.out))) (Kd.R_lt (uR HO17.out))) (below_size uB));replace HO1:=C (Kd.R_elder' (uR HO1.out) (Kd.R_base ho1) hb);replace HO2:=C (Kd.Q_mono (Kd.Q_told (Kd.Q_told (Kd.Q_told (Kd.Q_old (uQ HO2.out) hb) (Kd.Q_base ho2)) (Kd.R_base ho3)) (Kd.R_base ho4)) (fun _ h_=>h_.1));replace HO3:=C (X (Kd.R_told (Kd.R_told (Kd.R_told (Kd.R_old (uR HO3.out) hb) (Kd.Q_base ho2)) (Kd.R_base ho3)) (Kd.R_base ho4)) (fun _ h_=>h_.1));replace HO4:=eR HO4 hb;replace HO5:=C (X (Kd.R_told (Kd.R_told (Kd.R_told (Kd.R_old (uR HO5.out) hb) (Kd.Q_base ho2)) (Kd.R_base ho3)) (Kd.R_base ho4)) (fun _ h_=>h_.1));replace HO6:=C (Kd.R_elder' (uR HO6.out) (Kd.R_base ho1) hb);replace HO7:=C (Kd.Q_mono (Kd.Q_told (Kd.Q_told (Kd.Q_told (Kd.Q_old (uQ HO7.out) hb) (Kd.Q_base ho2)) (Kd.R_base ho3)) (Kd.R_base ho4)) (fun _ h_=>h_.1));replace HO8:=C (X (Kd.R_told (Kd.R_told (Kd.R_told (Kd.R_old (uR HO8.out) hb) (Kd.Q_base ho2)) (Kd.R_base ho3)) (Kd.R_base ho4)) (fun _ h_=>h_.1));replace HO9:=C (X (Kd.R_told (Kd.R_told (Kd.R_told (Kd.R_old (uR HO9.out) hb) (Kd.Q_base ho2)) (Kd.R_base ho3)) (Kd.R_base ho4)) (fun _ h_=>h_.1));replace HO10:=C (Kd.R_elder' (uR HO10.out) (Kd.R_base ho1) hb);replace HO11:=C (Kd.Q_mono (Kd.Q_told (Kd.Q_told (Kd.Q_told (Kd.Q_old (uQ HO11.out) hb) (Kd.Q_base ho2)) (Kd.R_base ho3)) (Kd.R_base ho4)) (fun _ h_=>h_.1));replace HO12:=C (X (Kd.R_told (Kd.R_told (Kd.R_told (Kd.R_old (uR HO12.out) hb) (Kd.Q_base ho2)) (Kd.R_base ho3)) (Kd.R_base ho4)) (fun _ h_=>h_.1));replace HO13:=C (X (Kd.R_told (Kd.R_told (Kd.R_told (Kd.R_old (uR HO13.out) hb) (Kd.Q_base ho2)) (Kd.R_base ho3)) (Kd.R_base ho4)) (fun _ h_=>h_.1));replace HO14:=C (Kd.R_elder' (uR HO14.out) (Kd.R_base ho1) hb);replace HO15:=C (Kd.Q_mono (Kd.Q_told (Kd.Q_told (Kd.Q_told (Kd.Q_old (uQ HO15.out) hb) (Kd.Q_base ho2)) (Kd.R_base ho3)) (Kd.R_base ho4)) (fun _ h_=>h_.1));replace HO16:=C (X (Kd.R_told (Kd.R_told (Kd.R_told (Kd.R_old (uR HO16.out) hb) (Kd.Q_base ho2)) (Kd.R_base ho3)) (Kd.R_base ho4)) (fun _ h_=>h_.1));replace HO17:=C (X (Kd.R_told (Kd.R_told (Kd.R_told (Kd.R_old (uR HO17.out) hb) (Kd.Q_base ho2)) (Kd.R_base ho3)) (Kd.R_base ho4)) (fun _ h_=>h_.1));replace BK1:=eK BK1 hb;replace BK2:=eK BK2 hb;replace BK3:=eK BK3 hb;replace BK4:=eK BK4 hb;replace HB:=eB hb;clear hb ho1 ho2 ho3 ho4)|((with_reducible refine gate_dst (N:=13) rfl ?_);(try(refine gate_guard (by rfl) ?_;dsimp only));refine Fix.be 13 #[L none 0 0,V I 0,V I 0,V I 0,O false,V I 0,O false,V I 0,V I 0,L none 0 0,L none 0 0,V I 0,O false,V I 0] 45 ?_;intro gb5 hg w15 BK5 hb;have GW5:D (w.heap.size≤gb5):=gE hg;have GE5:=GW5;have NB1_1106:=nL hg BK1;have NB5_998:=nG hg BK1;have NB2_1106:=nL hg BK2;have NB5_1026:=nG hg BK2;have NB3_1106:=nL hg BK3;have NB5_1054:=nG hg BK3;have NB4_1106:=nL hg BK4;have NB5_1082:=nG hg BK4;replace HO1:=eR HO1 hb;replace HO2:=eQ HO2 hb;replace HO3:=eR HO3 hb;replace HO4:=eR HO4 hb;replace HO5:=eR HO5 hb;replace HO6:=eR HO6 hb;replace HO7:=eQ HO7 hb;replace HO8:=eR HO8 hb;replace HO9:=eR HO9 hb;replace HO10:=eR HO10 hb;replace HO11:=eQ HO11 hb;replace HO12:=eR HO12 hb;replace HO13:=eR HO13 hb;replace HO14:=eR HO14 hb;replace HO15:=eQ HO15 hb;replace HO16:=eR HO16 hb;replace HO17:=eR HO17 hb;replace HO18:=eR HO18 hb;replace HO19:=eQ HO19 hb;replace HO20:=eR HO20 hb;replace HO21:=eR HO21 hb;replace BK1:=eK BK1 hb;replace BK2:=eK BK2 hb;replace BK3:=eK BK3 hb;replace BK4:=eK BK4 hb;replace HB:=eB hb;clear hb hg;obtain⟨Ao15,co15,eo15⟩:=U HO18.out;subst eo15;have hnb4:=NB5_998.out;have hnc4:=NB1_1106.out;have hnb5:=NB5_1026.out;have hnc5:=NB2_1106.out;have hnb6:=NB5_1054.out;have hnc6:=NB3_1106.out;have hnb7:=NB5_1082.out;have hnc7:=NB4_1106.out;have h_:=d14 BK5.out;(repeat(obtain⟨_,h_⟩:=h_));obtain⟨Ao16,co16,eo16,_⟩:=Kd.Q_slice HO19.out;subst eo16;obtain⟨Ao17,co17,eo17⟩:=U HO20.out;subst eo17))
 obtain⟨w16,hw⟩:∃w_,w_=(((((((((((((w15.setCell ⟨gb5,0,none⟩ (L Ao15 t67.length co15)).setCell ⟨gb5,1,none⟩ (V I t68)).setCell ⟨gb5,2,none⟩ (V I t69)).setCell ⟨gb5,3,none⟩ (V I t70)).setCell ⟨gb5,4,none⟩ (O t71)).setCell ⟨gb5,5,none⟩ (V I t72)).setCell ⟨gb5,6,none⟩ (O t73)).setCell ⟨gb5,7,none⟩ (V I t74)).setCell ⟨gb5,8,none⟩ (V I t75)).setCell ⟨gb5,9,none⟩ (L Ao16 t76.length co16)).setCell ⟨gb5,10,none⟩ (L Ao17 t77.length co17)).setCell ⟨gb5,11,none⟩ (V I t78)).setCell ⟨gb5,12,none⟩ (O t79)).setCell ⟨gb5,13,none⟩ (V I t80):=⟨_,rfl⟩
 (try rw[←hw])
 replace HO1:D (Kd.R _ _ _ _ (fun k_=>qn k_ Ao6 t18.length co6∧qn k_ Ao9 t37.length co9∧qn k_ Ao12 t52.length co12∧qn k_ Ao15 t67.length co15) _ _):=tR hw (Y HO1.out BK5.out (by decide)) (fun _ hk=>⟨hk.1.1.1,⟨hk.1.1.2.1,⟨hk.1.1.2.2,hk.1.2⟩⟩⟩)
 replace HO2:D (Kd.Q _ _ _ _ (fun k_=>qn k_ Ao3 t12.length co3∧qn k_ (some ad1) t17.length co4∧qn k_ Ao7 t27.length co7∧qn k_ Ao8 t28.length co8∧qm k_ v9∧qn k_ Ao10 t46.length co10∧qn k_ Ao11 t47.length co11∧qm k_ v13∧qn k_ Ao13 t61.length co13∧qn k_ Ao14 t62.length co14∧qm k_ v17∧qn k_ Ao16 t76.length co16∧qn k_ Ao17 t77.length co17∧qm k_ v21) _ _):=tQ hw (Kd.Q_types HO2.out BK5.out (by decide)) (fun _ hk=>⟨hk.1.1.1.1.1,⟨hk.1.1.1.1.2.1,⟨hk.1.1.1.1.2.2.1,⟨hk.1.1.1.1.2.2.2.1,⟨hk.1.1.1.1.2.2.2.2.1,⟨hk.1.1.1.1.2.2.2.2.2.1,⟨hk.1.1.1.1.2.2.2.2.2.2.1,⟨hk.1.1.1.1.2.2.2.2.2.2.2.1,⟨hk.1.1.1.1.2.2.2.2.2.2.2.2.1,⟨hk.1.1.1.1.2.2.2.2.2.2.2.2.2.1,⟨hk.1.1.1.1.2.2.2.2.2.2.2.2.2.2,⟨hk.1.1.1.2,⟨hk.1.1.2,hk.1.2⟩⟩⟩⟩⟩⟩⟩⟩⟩⟩⟩⟩⟩)
 replace HO3:D (Kd.R _ _ _ _ (fun k_=>qn k_ Ao2 t11.length co2∧qn k_ (some ad1) t17.length co4∧qn k_ Ao7 t27.length co7∧qn k_ Ao8 t28.length co8∧qm k_ v9∧qn k_ Ao10 t46.length co10∧qn k_ Ao11 t47.length co11∧qm k_ v13∧qn k_ Ao13 t61.length co13∧qn k_ Ao14 t62.length co14∧qm k_ v17∧qn k_ Ao16 t76.length co16∧qn k_ Ao17 t77.length co17∧qm k_ v21) _ _):=tR hw (Y HO3.out BK5.out (by decide)) (fun _ hk=>⟨hk.1.1.1.1.1,⟨hk.1.1.1.1.2.1,⟨hk.1.1.1.1.2.2.1,⟨hk.1.1.1.1.2.2.2.1,⟨hk.1.1.1.1.2.2.2.2.1,⟨hk.1.1.1.1.2.2.2.2.2.1,⟨hk.1.1.1.1.2.2.2.2.2.2.1,⟨hk.1.1.1.1.2.2.2.2.2.2.2.1,⟨hk.1.1.1.1.2.2.2.2.2.2.2.2.1,⟨hk.1.1.1.1.2.2.2.2.2.2.2.2.2.1,⟨hk.1.1.1.1.2.2.2.2.2.2.2.2.2.2,⟨hk.1.1.1.2,⟨hk.1.1.2,hk.1.2⟩⟩⟩⟩⟩⟩⟩⟩⟩⟩⟩⟩⟩)
 replace HO4:D (Kd.R _ _ _ _ (fun _=>True) _ _):=tR hw (Y HO4.out BK5.out (by decide)) (fun _ hk=>trivial)
 replace HO5:D (Kd.R _ _ _ _ (fun k_=>qn k_ Ao2 t11.length co2∧qn k_ Ao3 t12.length co3∧qn k_ Ao7 t27.length co7∧qn k_ Ao8 t28.length co8∧qm k_ v9∧qn k_ Ao10 t46.length co10∧qn k_ Ao11 t47.length co11∧qm k_ v13∧qn k_ Ao13 t61.length co13∧qn k_ Ao14 t62.length co14∧qm k_ v17∧qn k_ Ao16 t76.length co16∧qn k_ Ao17 t77.length co17∧qm k_ v21) _ _):=tR hw (Y HO5.out BK5.out (by decide)) (fun _ hk=>⟨hk.1.1.1.1.1,⟨hk.1.1.1.1.2.1,⟨hk.1.1.1.1.2.2.1,⟨hk.1.1.1.1.2.2.2.1,⟨hk.1.1.1.1.2.2.2.2.1,⟨hk.1.1.1.1.2.2.2.2.2.1,⟨hk.1.1.1.1.2.2.2.2.2.2.1,⟨hk.1.1.1.1.2.2.2.2.2.2.2.1,⟨hk.1.1.1.1.2.2.2.2.2.2.2.2.1,⟨hk.1.1.1.1.2.2.2.2.2.2.2.2.2.1,⟨hk.1.1.1.1.2.2.2.2.2.2.2.2.2.2,⟨hk.1.1.1.2,⟨hk.1.1.2,hk.1.2⟩⟩⟩⟩⟩⟩⟩⟩⟩⟩⟩⟩⟩)
 replace HO6:D (Kd.R _ _ _ _ (fun k_=>qn k_ Ao1 t2.length co1∧qn k_ Ao9 t37.length co9∧qn k_ Ao12 t52.length co12∧qn k_ Ao15 t67.length co15) _ _):=tR hw (Y HO6.out BK5.out (by decide)) (fun _ hk=>⟨hk.1.1.1,⟨hk.1.1.2.1,⟨hk.1.1.2.2,hk.1.2⟩⟩⟩)
 replace HO7:D (Kd.Q _ _ _ _ (fun k_=>qn k_ Ao2 t11.length co2∧qn k_ Ao3 t12.length co3∧qn k_ (some ad1) t17.length co4∧qn k_ Ao8 t28.length co8∧qm k_ v9∧qn k_ Ao10 t46.length co10∧qn k_ Ao11 t47.length co11∧qm k_ v13∧qn k_ Ao13 t61.length co13∧qn k_ Ao14 t62.length co14∧qm k_ v17∧qn k_ Ao16 t76.length co16∧qn k_ Ao17 t77.length co17∧qm k_ v21) _ _):=tQ hw (Kd.Q_types HO7.out BK5.out (by decide)) (fun _ hk=>⟨hk.1.1.1.1.1,⟨hk.1.1.1.1.2.1,⟨hk.1.1.1.1.2.2.1,⟨hk.1.1.1.1.2.2.2.1,⟨hk.1.1.1.1.2.2.2.2.1,⟨hk.1.1.1.1.2.2.2.2.2.1,⟨hk.1.1.1.1.2.2.2.2.2.2.1,⟨hk.1.1.1.1.2.2.2.2.2.2.2.1,⟨hk.1.1.1.1.2.2.2.2.2.2.2.2.1,⟨hk.1.1.1.1.2.2.2.2.2.2.2.2.2.1,⟨hk.1.1.1.1.2.2.2.2.2.2.2.2.2.2,⟨hk.1.1.1.2,⟨hk.1.1.2,hk.1.2⟩⟩⟩⟩⟩⟩⟩⟩⟩⟩⟩⟩⟩)
 replace HO8:D (Kd.R _ _ _ _ (fun k_=>qn k_ Ao2 t11.length co2∧qn k_ Ao3 t12.length co3∧qn k_ (some ad1) t17.length co4∧qn k_ Ao7 t27.length co7∧qm k_ v9∧qn k_ Ao10 t46.length co10∧qn k_ Ao11 t47.length co11∧qm k_ v13∧qn k_ Ao13 t61.length co13∧qn k_ Ao14 t62.length co14∧qm k_ v17∧qn k_ Ao16 t76.length co16∧qn k_ Ao17 t77.length co17∧qm k_ v21) _ _):=tR hw (Y HO8.out BK5.out (by decide)) (fun _ hk=>⟨hk.1.1.1.1.1,⟨hk.1.1.1.1.2.1,⟨hk.1.1.1.1.2.2.1,⟨hk.1.1.1.1.2.2.2.1,⟨hk.1.1.1.1.2.2.2.2.1,⟨hk.1.1.1.1.2.2.2.2.2.1,⟨hk.1.1.1.1.2.2.2.2.2.2.1,⟨hk.1.1.1.1.2.2.2.2.2.2.2.1,⟨hk.1.1.1.1.2.2.2.2.2.2.2.2.1,⟨hk.1.1.1.1.2.2.2.2.2.2.2.2.2.1,⟨hk.1.1.1.1.2.2.2.2.2.2.2.2.2.2,⟨hk.1.1.1.2,⟨hk.1.1.2,hk.1.2⟩⟩⟩⟩⟩⟩⟩⟩⟩⟩⟩⟩⟩)
 replace HO9:D (Kd.R _ _ _ _ (fun k_=>qn k_ Ao2 t11.length co2∧qn k_ Ao3 t12.length co3∧qn k_ (some ad1) t17.length co4∧qn k_ Ao7 t27.length co7∧qn k_ Ao8 t28.length co8∧qn k_ Ao10 t46.length co10∧qn k_ Ao11 t47.length co11∧qm k_ v13∧qn k_ Ao13 t61.length co13∧qn k_ Ao14 t62.length co14∧qm k_ v17∧qn k_ Ao16 t76.length co16∧qn k_ Ao17 t77.length co17∧qm k_ v21) _ _):=tR hw (Y HO9.out BK5.out (by decide)) (fun _ hk=>⟨hk.1.1.1.1.1,⟨hk.1.1.1.1.2.1,⟨hk.1.1.1.1.2.2.1,⟨hk.1.1.1.1.2.2.2.1,⟨hk.1.1.1.1.2.2.2.2.1,⟨hk.1.1.1.1.2.2.2.2.2.1,⟨hk.1.1.1.1.2.2.2.2.2.2.1,⟨hk.1.1.1.1.2.2.2.2.2.2.2.1,⟨hk.1.1.1.1.2.2.2.2.2.2.2.2.1,⟨hk.1.1.1.1.2.2.2.2.2.2.2.2.2.1,⟨hk.1.1.1.1.2.2.2.2.2.2.2.2.2.2,⟨hk.1.1.1.2,⟨hk.1.1.2,hk.1.2⟩⟩⟩⟩⟩⟩⟩⟩⟩⟩⟩⟩⟩)
 replace HO10:D (Kd.R _ _ _ _ (fun k_=>qn k_ Ao1 t2.length co1∧qn k_ Ao6 t18.length co6∧qn k_ Ao12 t52.length co12∧qn k_ Ao15 t67.length co15) _ _):=tR hw (Y HO10.out BK5.out (by decide)) (fun _ hk=>⟨hk.1.1.1,⟨hk.1.1.2.1,⟨hk.1.1.2.2,hk.1.2⟩⟩⟩)
 replace HO11:D (Kd.Q _ _ _ _ (fun k_=>qn k_ Ao2 t11.length co2∧qn k_ Ao3 t12.length co3∧qn k_ (some ad1) t17.length co4∧qn k_ Ao7 t27.length co7∧qn k_ Ao8 t28.length co8∧qm k_ v9∧qn k_ Ao11 t47.length co11∧qm k_ v13∧qn k_ Ao13 t61.length co13∧qn k_ Ao14 t62.length co14∧qm k_ v17∧qn k_ Ao16 t76.length co16∧qn k_ Ao17 t77.length co17∧qm k_ v21) _ _):=tQ hw (Kd.Q_types HO11.out BK5.out (by decide)) (fun _ hk=>⟨hk.1.1.1.1.1,⟨hk.1.1.1.1.2.1,⟨hk.1.1.1.1.2.2.1,⟨hk.1.1.1.1.2.2.2.1,⟨hk.1.1.1.1.2.2.2.2.1,⟨hk.1.1.1.1.2.2.2.2.2.1,⟨hk.1.1.1.1.2.2.2.2.2.2.1,⟨hk.1.1.1.1.2.2.2.2.2.2.2.1,⟨hk.1.1.1.1.2.2.2.2.2.2.2.2.1,⟨hk.1.1.1.1.2.2.2.2.2.2.2.2.2.1,⟨hk.1.1.1.1.2.2.2.2.2.2.2.2.2.2,⟨hk.1.1.1.2,⟨hk.1.1.2,hk.1.2⟩⟩⟩⟩⟩⟩⟩⟩⟩⟩⟩⟩⟩)
 replace HO12:D (Kd.R _ _ _ _ (fun k_=>qn k_ Ao2 t11.length co2∧qn k_ Ao3 t12.length co3∧qn k_ (some ad1) t17.length co4∧qn k_ Ao7 t27.length co7∧qn k_ Ao8 t28.length co8∧qm k_ v9∧qn k_ Ao10 t46.length co10∧qm k_ v13∧qn k_ Ao13 t61.length co13∧qn k_ Ao14 t62.length co14∧qm k_ v17∧qn k_ Ao16 t76.length co16∧qn k_ Ao17 t77.length co17∧qm k_ v21) _ _):=tR hw (Y HO12.out BK5.out (by decide)) (fun _ hk=>⟨hk.1.1.1.1.1,⟨hk.1.1.1.1.2.1,⟨hk.1.1.1.1.2.2.1,⟨hk.1.1.1.1.2.2.2.1,⟨hk.1.1.1.1.2.2.2.2.1,⟨hk.1.1.1.1.2.2.2.2.2.1,⟨hk.1.1.1.1.2.2.2.2.2.2.1,⟨hk.1.1.1.1.2.2.2.2.2.2.2.1,⟨hk.1.1.1.1.2.2.2.2.2.2.2.2.1,⟨hk.1.1.1.1.2.2.2.2.2.2.2.2.2.1,⟨hk.1.1.1.1.2.2.2.2.2.2.2.2.2.2,⟨hk.1.1.1.2,⟨hk.1.1.2,hk.1.2⟩⟩⟩⟩⟩⟩⟩⟩⟩⟩⟩⟩⟩)
 replace HO13:D (Kd.R _ _ _ _ (fun k_=>qn k_ Ao2 t11.length co2∧qn k_ Ao3 t12.length co3∧qn k_ (some ad1) t17.length co4∧qn k_ Ao7 t27.length co7∧qn k_ Ao8 t28.length co8∧qm k_ v9∧qn k_ Ao10 t46.length co10∧qn k_ Ao11 t47.length co11∧qn k_ Ao13 t61.length co13∧qn k_ Ao14 t62.length co14∧qm k_ v17∧qn k_ Ao16 t76.length co16∧qn k_ Ao17 t77.length co17∧qm k_ v21) _ _):=tR hw (Y HO13.out BK5.out (by decide)) (fun _ hk=>⟨hk.1.1.1.1.1,⟨hk.1.1.1.1.2.1,⟨hk.1.1.1.1.2.2.1,⟨hk.1.1.1.1.2.2.2.1,⟨hk.1.1.1.1.2.2.2.2.1,⟨hk.1.1.1.1.2.2.2.2.2.1,⟨hk.1.1.1.1.2.2.2.2.2.2.1,⟨hk.1.1.1.1.2.2.2.2.2.2.2.1,⟨hk.1.1.1.1.2.2.2.2.2.2.2.2.1,⟨hk.1.1.1.1.2.2.2.2.2.2.2.2.2.1,⟨hk.1.1.1.1.2.2.2.2.2.2.2.2.2.2,⟨hk.1.1.1.2,⟨hk.1.1.2,hk.1.2⟩⟩⟩⟩⟩⟩⟩⟩⟩⟩⟩⟩⟩)
 replace HO14:D (Kd.R _ _ _ _ (fun k_=>qn k_ Ao1 t2.length co1∧qn k_ Ao6 t18.length co6∧qn k_ Ao9 t37.length co9∧qn k_ Ao15 t67.length co15) _ _):=tR hw (Y HO14.out BK5.out (by decide)) (fun _ hk=>⟨hk.1.1.1,⟨hk.1.1.2.1,⟨hk.1.1.2.2,hk.1.2⟩⟩⟩)
 replace HO15:D (Kd.Q _ _ _ _ (fun k_=>qn k_ Ao2 t11.length co2∧qn k_ Ao3 t12.length co3∧qn k_ (some ad1) t17.length co4∧qn k_ Ao7 t27.length co7∧qn k_ Ao8 t28.length co8∧qm k_ v9∧qn k_ Ao10 t46.length co10∧qn k_ Ao11 t47.length co11∧qm k_ v13∧qn k_ Ao14 t62.length co14∧qm k_ v17∧qn k_ Ao16 t76.length co16∧qn k_ Ao17 t77.length co17∧qm k_ v21) _ _):=tQ hw (Kd.Q_types HO15.out BK5.out (by decide)) (fun _ hk=>⟨hk.1.1.1.1.1,⟨hk.1.1.1.1.2.1,⟨hk.1.1.1.1.2.2.1,⟨hk.1.1.1.1.2.2.2.1,⟨hk.1.1.1.1.2.2.2.2.1,⟨hk.1.1.1.1.2.2.2.2.2.1,⟨hk.1.1.1.1.2.2.2.2.2.2.1,⟨hk.1.1.1.1.2.2.2.2.2.2.2.1,⟨hk.1.1.1.1.2.2.2.2.2.2.2.2.1,⟨hk.1.1.1.1.2.2.2.2.2.2.2.2.2.1,⟨hk.1.1.1.1.2.2.2.2.2.2.2.2.2.2,⟨hk.1.1.1.2,⟨hk.1.1.2,hk.1.2⟩⟩⟩⟩⟩⟩⟩⟩⟩⟩⟩⟩⟩)
 replace HO16:D (Kd.R _ _ _ _ (fun k_=>qn k_ Ao2 t11.length co2∧qn k_ Ao3 t12.length co3∧qn k_ (some ad1) t17.length co4∧qn k_ Ao7 t27.length co7∧qn k_ Ao8 t28.length co8∧qm k_ v9∧qn k_ Ao10 t46.length co10∧qn k_ Ao11 t47.length co11∧qm k_ v13∧qn k_ Ao13 t61.length co13∧qm k_ v17∧qn k_ Ao16 t76.length co16∧qn k_ Ao17 t77.length co17∧qm k_ v21) _ _):=tR hw (Y HO16.out BK5.out (by decide)) (fun _ hk=>⟨hk.1.1.1.1.1,⟨hk.1.1.1.1.2.1,⟨hk.1.1.1.1.2.2.1,⟨hk.1.1.1.1.2.2.2.1,⟨hk.1.1.1.1.2.2.2.2.1,⟨hk.1.1.1.1.2.2.2.2.2.1,⟨hk.1.1.1.1.2.2.2.2.2.2.1,⟨hk.1.1.1.1.2.2.2.2.2.2.2.1,⟨hk.1.1.1.1.2.2.2.2.2.2.2.2.1,⟨hk.1.1.1.1.2.2.2.2.2.2.2.2.2.1,⟨hk.1.1.1.1.2.2.2.2.2.2.2.2.2.2,⟨hk.1.1.1.2,⟨hk.1.1.2,hk.1.2⟩⟩⟩⟩⟩⟩⟩⟩⟩⟩⟩⟩⟩)
 replace HO17:D (Kd.R _ _ _ _ (fun k_=>qn k_ Ao2 t11.length co2∧qn k_ Ao3 t12.length co3∧qn k_ (some ad1) t17.length co4∧qn k_ Ao7 t27.length co7∧qn k_ Ao8 t28.length co8∧qm k_ v9∧qn k_ Ao10 t46.length co10∧qn k_ Ao11 t47.length co11∧qm k_ v13∧qn k_ Ao13 t61.length co13∧qn k_ Ao14 t62.length co14∧qn k_ Ao16 t76.length co16∧qn k_ Ao17 t77.length co17∧qm k_ v21) _ _):=tR hw (Y HO17.out BK5.out (by decide)) (fun _ hk=>⟨hk.1.1.1.1.1,⟨hk.1.1.1.1.2.1,⟨hk.1.1.1.1.2.2.1,⟨hk.1.1.1.1.2.2.2.1,⟨hk.1.1.1.1.2.2.2.2.1,⟨hk.1.1.1.1.2.2.2.2.2.1,⟨hk.1.1.1.1.2.2.2.2.2.2.1,⟨hk.1.1.1.1.2.2.2.2.2.2.2.1,⟨hk.1.1.1.1.2.2.2.2.2.2.2.2.1,⟨hk.1.1.1.1.2.2.2.2.2.2.2.2.2.1,⟨hk.1.1.1.1.2.2.2.2.2.2.2.2.2.2,⟨hk.1.1.1.2,⟨hk.1.1.2,hk.1.2⟩⟩⟩⟩⟩⟩⟩⟩⟩⟩⟩⟩⟩)
 replace HO18:D (Kd.R _ _ _ _ (fun k_=>qn k_ Ao1 t2.length co1∧qn k_ Ao6 t18.length co6∧qn k_ Ao9 t37.length co9∧qn k_ Ao12 t52.length co12) _ _):=tR hw (Y HO18.out BK5.out (by decide)) (fun _ hk=>⟨hk.1.1.1.1.2,⟨hk.1.1.1.2,⟨hk.1.1.2,hk.1.2⟩⟩⟩)
 replace HO19:D (Kd.Q _ _ _ _ (fun k_=>qn k_ Ao2 t11.length co2∧qn k_ Ao3 t12.length co3∧qn k_ (some ad1) t17.length co4∧qn k_ Ao7 t27.length co7∧qn k_ Ao8 t28.length co8∧qm k_ v9∧qn k_ Ao10 t46.length co10∧qn k_ Ao11 t47.length co11∧qm k_ v13∧qn k_ Ao13 t61.length co13∧qn k_ Ao14 t62.length co14∧qm k_ v17∧qn k_ Ao17 t77.length co17∧qm k_ v21) _ _):=tQ hw (Kd.Q_types HO19.out BK5.out (by decide)) (fun _ hk=>⟨hk.1.1.1.1.1.1.1.1.1.1.1.1.2,⟨hk.1.1.1.1.1.1.1.1.1.1.1.2,⟨hk.1.1.1.1.1.1.1.1.1.1.2,⟨hk.1.1.1.1.1.1.1.1.1.2,⟨hk.1.1.1.1.1.1.1.1.2,⟨hk.1.1.1.1.1.1.1.2,⟨hk.1.1.1.1.1.1.2,⟨hk.1.1.1.1.1.2,⟨hk.1.1.1.1.2,⟨hk.1.1.1.2,⟨hk.1.1.2,⟨hk.1.2,⟨hk.1.1.1.1.1.1.1.1.1.1.1.1.1.1,hk.1.1.1.1.1.1.1.1.1.1.1.1.1.2⟩⟩⟩⟩⟩⟩⟩⟩⟩⟩⟩⟩⟩)
 replace HO20:D (Kd.R _ _ _ _ (fun k_=>qn k_ Ao2 t11.length co2∧qn k_ Ao3 t12.length co3∧qn k_ (some ad1) t17.length co4∧qn k_ Ao7 t27.length co7∧qn k_ Ao8 t28.length co8∧qm k_ v9∧qn k_ Ao10 t46.length co10∧qn k_ Ao11 t47.length co11∧qm k_ v13∧qn k_ Ao13 t61.length co13∧qn k_ Ao14 t62.length co14∧qm k_ v17∧qn k_ Ao16 t76.length co16∧qm k_ v21) _ _):=tR hw (Y HO20.out BK5.out (by decide)) (fun _ hk=>⟨hk.1.1.1.1.1.1.1.1.1.1.1.1.2,⟨hk.1.1.1.1.1.1.1.1.1.1.1.2,⟨hk.1.1.1.1.1.1.1.1.1.1.2,⟨hk.1.1.1.1.1.1.1.1.1.2,⟨hk.1.1.1.1.1.1.1.1.2,⟨hk.1.1.1.1.1.1.1.2,⟨hk.1.1.1.1.1.1.2,⟨hk.1.1.1.1.1.2,⟨hk.1.1.1.1.2,⟨hk.1.1.1.2,⟨hk.1.1.2,⟨hk.1.2,⟨hk.1.1.1.1.1.1.1.1.1.1.1.1.1.1,hk.1.1.1.1.1.1.1.1.1.1.1.1.1.2⟩⟩⟩⟩⟩⟩⟩⟩⟩⟩⟩⟩⟩)
 replace HO21:D (Kd.R _ _ _ _ (fun k_=>qn k_ Ao2 t11.length co2∧qn k_ Ao3 t12.length co3∧qn k_ (some ad1) t17.length co4∧qn k_ Ao7 t27.length co7∧qn k_ Ao8 t28.length co8∧qm k_ v9∧qn k_ Ao10 t46.length co10∧qn k_ Ao11 t47.length co11∧qm k_ v13∧qn k_ Ao13 t61.length co13∧qn k_ Ao14 t62.length co14∧qm k_ v17∧qn k_ Ao16 t76.length co16∧qn k_ Ao17 t77.length co17) _ _):=tR hw (Y HO21.out BK5.out (by decide)) (fun _ hk=>⟨hk.1.1.1.1.1.1.1.1.1.1.1.1.2,⟨hk.1.1.1.1.1.1.1.1.1.1.1.2,⟨hk.1.1.1.1.1.1.1.1.1.1.2,⟨hk.1.1.1.1.1.1.1.1.1.2,⟨hk.1.1.1.1.1.1.1.1.2,⟨hk.1.1.1.1.1.1.1.2,⟨hk.1.1.1.1.1.1.2,⟨hk.1.1.1.1.1.2,⟨hk.1.1.1.1.2,⟨hk.1.1.1.2,⟨hk.1.1.2,⟨hk.1.2,⟨hk.1.1.1.1.1.1.1.1.1.1.1.1.1.1,hk.1.1.1.1.1.1.1.1.1.1.1.1.1.2⟩⟩⟩⟩⟩⟩⟩⟩⟩⟩⟩⟩⟩)
 replace BK1:=wK hw BK1
 replace BK2:=wK hw BK2
 replace BK3:=wK hw BK3
 replace BK4:=wK hw BK4
 replace BK5:D (w16.heap[gb5]? =some (.cells #[L Ao15 t67.length co15,V I t68,V I t69,V I t70,O t71,V I t72,O t73,V I t74,V I t75,L Ao16 t76.length co16,L Ao17 t77.length co17,V I t78,O t79,V I t80] 45 (0,0))):=⟨(by rw[hw];exact(bK BK5.out))⟩
 replace HB:=wB hw
 clear hw
 replace HO1:=dR HO1
 replace HO2:=dQ HO2
 replace HO3:=dR HO3
 replace HO4:=dR HO4
 replace HO5:=dR HO5
 replace HO6:=dR HO6
 replace HO7:=dQ HO7
 replace HO8:=dR HO8
 replace HO9:=dR HO9
 replace HO10:=dR HO10
 replace HO11:=dQ HO11
 replace HO12:=dR HO12
 replace HO13:=dR HO13
 replace HO14:=dR HO14
 replace HO15:=dQ HO15
 replace HO16:=dR HO16
 replace HO17:=dR HO17
 replace HO18:=dR HO18
 replace HO19:=dQ HO19
 replace HO20:=dR HO20
 replace HO21:=dR HO21
 replace BK1:=dK BK1
 replace BK2:=dK BK2
 replace BK3:=dK BK3
 replace BK4:=dK BK4
 replace BK5:=dK BK5
 replace HB:=dB HB
 obtain⟨Ao18,co18,eo18⟩:=U HO9.out
 (first|subst eo18|(injection eo18 with f1_ f2_ f3_;have f4_:=f1_.symm;have f5_:=f3_.symm;clear f1_ f2_ f3_;subst f4_;subst f5_))
 obtain⟨Ao19,co19,eo19⟩:=U HO21.out
 (first|subst eo19|(injection eo19 with f1_ f2_ f3_;have f4_:=f1_.symm;have f5_:=f3_.symm;clear f1_ f2_ f3_;subst f4_;subst f5_))
 refine start_ (n:=22) (S:=fun w'=>cr14 w' gb2 (L Ao6 t18.length co6) (V I t19) (V I t20) (V I t21) (O t22) (V I t23) (O t24) (V I t25) (V I t26) (L Ao7 t27.length co7) (L Ao8 t28.length co8) (V I t29) (O t30) (V I t31) (cl14 w' gb4 (L Ao12 t52.length co12) (V I t53) (V I t54) (V I t55) (O t56) (V I t57) (O t58) (V I t59) (V I t60) (L Ao13 t61.length co13) (L Ao14 t62.length co14) (V I t63) (O t64) (V I t65))) (ds:= []) #[false,false,false,false,false,false,false,false,false,false,false,false,false,false,false,false,false,false,false,false,false,false] (by kernel_rfl) rfl rfl hh (fun hHeld=> ?_);refine with_tabW laws_FnActParts.tab10 laws_FnActParts.bits10 (fun HT_ HW_=> ?_)
 generalize w16.drew=w17 at HO1 HO2 HO3 HO4 HO5 HO6 HO7 HO8 HO9 HO10 HO11 HO12 HO13 HO14 HO15 HO16 HO17 HO18 HO19 HO20 HO21 BK1 BK2 BK3 BK4 BK5 HB hHeld ⊢
 refine pu 0 (some 59) ?_
 refine pu 1 (some 60) ?_
 refine pu 2 (some 61) ?_
 refine pu 3 (some 62) ?_
 refine pu 4 (some 63) ?_
 refine pu 5 (some 64) ?_
 refine tu 6 (some 65) hHeld ?_
 refine tu 8 (some 67) hHeld ?_
 refine ou 7 (some 66) (fun K hK=> ?_)
 refine gs Tryd.func18 #[G #[L Ao6 t18.length co6,V I t19,V I t20,V I t21,O t22,V I t23,O t24,V I t25,V I t26,L Ao7 t27.length co7,L Ao8 t28.length co8,V I t29,O t30,V I t31]] ?_
 with_reducible refine(impl_FormatMachine.calls k _ _ t18 t19 t20 t21 t22 t23 t24 t25 t26 _ _ t27 _ _ t28 t29 t30 t31 t33 _ ?side1 ?side2 ?side3 ?side4 ?side5 ?side6 A9.out (Ito.on hTab.out uB)).mono ?_
 (case side1=>exact uC (Kd.R_reads' HO6.out).2.2)
 (case side2=>exact(Kd.R_reads' HO6.out).2.1)
 (case side3=>exact uC (Kd.Q_reads' HO7.out).2.2)
 (case side4=>exact(Kd.Q_reads' HO7.out).2.1)
 (case side5=>exact uC (Kd.R_reads' HO8.out).2.2)
 (case side6=>exact(Kd.R_reads' HO8.out).2.1)
 rintro e w18 ⟨v22,rfl,ho1,hb⟩
 refine⟨_,rfl,?_⟩
 have HO22:=lR ho1
 replace HO1:=eR HO1 hb
 replace HO2:=eQ HO2 hb
 replace HO3:=eR HO3 hb
 replace HO4:=eR HO4 hb
 replace HO5:=eR HO5 hb
 replace HO6:=eR HO6 hb
 replace HO7:=eQ HO7 hb
 replace HO8:=eR HO8 hb
 replace HO9:=eR HO9 hb
 replace HO10:=eR HO10 hb
 replace HO11:=eQ HO11 hb
 replace HO12:=eR HO12 hb
 replace HO13:=eR HO13 hb
 replace HO14:=eR HO14 hb
 replace HO15:=eQ HO15 hb
 replace HO16:=eR HO16 hb
 replace HO17:=eR HO17 hb
 replace HO18:=eR HO18 hb
 replace HO19:=eQ HO19 hb
 replace HO20:=eR HO20 hb
 replace HO21:=eR HO21 hb
 replace BK1:=eK BK1 hb
 replace BK2:=eK BK2 hb
 replace BK3:=eK BK3 hb
 replace BK4:=eK BK4 hb
 replace BK5:=eK BK5 hb
 replace HB:=eB hb
 (try clear hb)
 refine hK.out _ _ hh (fun hHeld=> ?_)
 clear hK K
 refine nu (N:=(some 66)) ?_
 refine ou 9 (some 68) (fun K hK=> ?_)
 refine gs Tryd.func18 #[G #[L Ao12 t52.length co12,V I t53,V I t54,V I t55,O t56,V I t57,O t58,V I t59,V I t60,L Ao13 t61.length co13,L Ao14 t62.length co14,V I t63,O t64,V I t65]] ?_
 with_reducible refine(impl_FormatMachine.calls k _ _ t52 t53 t54 t55 t56 t57 t58 t59 t60 _ _ t61 _ _ t62 t63 t64 t65 t34 _ ?side1 ?side2 ?side3 ?side4 ?side5 ?side6 A10.out (Ito.on hTab.out uB)).mono ?_
 (case side1=>exact uC (Kd.R_reads' HO14.out).2.2)
 (case side2=>exact(Kd.R_reads' HO14.out).2.1)
 (case side3=>exact uC (Kd.Q_reads' HO15.out).2.2)
 (case side4=>exact(Kd.Q_reads' HO15.out).2.1)
 (case side5=>exact uC (Kd.R_reads' HO16.out).2.2)
 (case side6=>exact(Kd.R_reads' HO16.out).2.1)
 rintro e w19 ⟨v23,rfl,ho1,hb⟩
 refine⟨_,rfl,?_⟩
 have HO23:=C (Kd.R_lower (Kd.R_new' ho1 (Kd.R_lt (uR HO22.out))) (below_size uB))
 replace HO1:=eR HO1 hb
 replace HO2:=eQ HO2 hb
 replace HO3:=eR HO3 hb
 replace HO4:=eR HO4 hb
 replace HO5:=eR HO5 hb
 replace HO6:=eR HO6 hb
 replace HO7:=eQ HO7 hb
 replace HO8:=eR HO8 hb
 replace HO9:=eR HO9 hb
 replace HO10:=eR HO10 hb
 replace HO11:=eQ HO11 hb
 replace HO12:=eR HO12 hb
 replace HO13:=eR HO13 hb
 replace HO14:=eR HO14 hb
 replace HO15:=eQ HO15 hb
 replace HO16:=eR HO16 hb
 replace HO17:=eR HO17 hb
 replace HO18:=eR HO18 hb
 replace HO19:=eQ HO19 hb
 replace HO20:=eR HO20 hb
 replace HO21:=eR HO21 hb
 replace HO22:=C (Kd.R_elder' (uR HO22.out) (Kd.R_base ho1) hb)
 replace BK1:=eK BK1 hb
 replace BK2:=eK BK2 hb
 replace BK3:=eK BK3 hb
 replace BK4:=eK BK4 hb
 replace BK5:=eK BK5 hb
 replace HB:=eB hb
 (try clear hb)
 obtain⟨Ao20,co20,eo20⟩:=U HO22.out
 (first|subst eo20|(injection eo20 with f1_ f2_ f3_;have f4_:=f1_.symm;have f5_:=f3_.symm;clear f1_ f2_ f3_;subst f4_;subst f5_))
 obtain⟨Ao21,co21,eo21⟩:=U HO23.out
 (first|subst eo21|(injection eo21 with f1_ f2_ f3_;have f4_:=f1_.symm;have f5_:=f3_.symm;clear f1_ f2_ f3_;subst f4_;subst f5_))
 refine hK.out _ _ hh (fun hHeld=> ?_)
 clear hK K
 refine nu (N:=(some 68)) ?_
 refine ou 10 (some 69) (fun K hK=> ?_)
 refine gs Tryd.func31 #[L Ao20 t33.length co20,L Ao21 t34.length co21] ?_
 with_reducible refine(laws_sameTexts.calls k _ _ t33 _ _ t34 true _ ?side1 ?side2 ?side3 ?side4 A11.out).mono ?_
 (case side1=>exact uC (Kd.R_reads' HO22.out).2.2)
 (case side2=>exact(Kd.R_reads' HO22.out).2.1)
 (case side3=>exact uC (Kd.R_reads' HO23.out).2.2)
 (case side4=>exact(Kd.R_reads' HO23.out).2.1)
 rintro e w' ⟨rfl,⟨nd,rfl⟩⟩
 refine⟨_,rfl,?_⟩
 refine hK.out _ _ hh (fun hHeld=> ?_)
 clear hK K
 refine nu (N:=(some 69)) ?_
 refine pu 11 (some 70) ?_
 refine pu 12 (some 71) ?_
 refine pu 13 (some 72) ?_
 refine pu 15 (some 74) ?_
 refine pu 17 (some 76) ?_
 refine ou 14 (some 73) (fun K hK=> ?_)
 refine Kd.R_lit_step (Kd.int .i64) _ 3 ?hg (N:=73) ?hd (xs:=([]:List Int)) (inner:= []) (ok:=fun _=>True) (okp:=fun _=>True) ?hr ?hp (fun _ hk=>hk) trivial (Below.refl _ _) (Nat.le_refl _) (by simp) ?_;(case hd=>rfl);(case hg=>rfl);(case hr=>exact Fix.hr);(case hp=>exact(Reps.none _ _))
 intro v24 w20 ho5 hb hg_ hnew_
 clear hg_ hnew_
 (first|rw[←Ny3.out]at ho5|(simp only[Int.reduceToNat]at ho5;rw[←Ny3.out]at ho5))
 have HO24:=C (Kd.R_lower (Kd.R_new' (Kd.R_new' (Kd.R_new' (Kd.R_new' (Kd.R_new' (Kd.R_new' (Kd.R_new' (Kd.R_new' (Kd.R_new' (Kd.R_new' (Kd.R_new' (Kd.R_new' (Kd.R_new' (Kd.R_new' (Kd.R_new' ho5 (Kd.Q_lt (uQ HO2.out))) (Kd.R_lt (uR HO3.out))) (Kd.R_lt (uR HO5.out))) (Kd.Q_lt (uQ HO7.out))) (Kd.R_lt (uR HO8.out))) (Kd.R_lt (uR HO9.out))) (Kd.Q_lt (uQ HO11.out))) (Kd.R_lt (uR HO12.out))) (Kd.R_lt (uR HO13.out))) (Kd.Q_lt (uQ HO15.out))) (Kd.R_lt (uR HO16.out))) (Kd.R_lt (uR HO17.out))) (Kd.Q_lt (uQ HO19.out))) (Kd.R_lt (uR HO20.out))) (Kd.R_lt (uR HO21.out))) (below_size uB))
 replace HO1:=eR HO1 hb
 replace HO2:=C (Kd.Q_elder' (uQ HO2.out) (Kd.R_base ho5) hb)
 replace HO3:=C (Kd.R_elder' (uR HO3.out) (Kd.R_base ho5) hb)
 replace HO4:=eR HO4 hb
 replace HO5:=C (Kd.R_elder' (uR HO5.out) (Kd.R_base ho5) hb)
 replace HO6:=eR HO6 hb
 replace HO7:=C (Kd.Q_elder' (uQ HO7.out) (Kd.R_base ho5) hb)
 replace HO8:=C (Kd.R_elder' (uR HO8.out) (Kd.R_base ho5) hb)
 replace HO9:=C (Kd.R_elder' (uR HO9.out) (Kd.R_base ho5) hb)
 replace HO10:=eR HO10 hb
 replace HO11:=C (Kd.Q_elder' (uQ HO11.out) (Kd.R_base ho5) hb)
 replace HO12:=C (Kd.R_elder' (uR HO12.out) (Kd.R_base ho5) hb)
 replace HO13:=C (Kd.R_elder' (uR HO13.out) (Kd.R_base ho5) hb)
 replace HO14:=eR HO14 hb
 replace HO15:=C (Kd.Q_elder' (uQ HO15.out) (Kd.R_base ho5) hb)
 replace HO16:=C (Kd.R_elder' (uR HO16.out) (Kd.R_base ho5) hb)
 replace HO17:=C (Kd.R_elder' (uR HO17.out) (Kd.R_base ho5) hb)
 replace HO18:=eR HO18 hb
 replace HO19:=C (Kd.Q_elder' (uQ HO19.out) (Kd.R_base ho5) hb)
 replace HO20:=C (Kd.R_elder' (uR HO20.out) (Kd.R_base ho5) hb)
 replace HO21:=C (Kd.R_elder' (uR HO21.out) (Kd.R_base ho5) hb)
 replace HO22:=eR HO22 hb
 replace HO23:=eR HO23 hb
 replace BK1:=eK BK1 hb
 replace BK2:=eK BK2 hb
 replace BK3:=eK BK3 hb
 replace BK4:=eK BK4 hb
 replace BK5:=eK BK5 hb
 replace HB:=eB hb
 clear hb ho5
 obtain⟨Ao22,co22,eo22⟩:=U HO13.out
 (first|subst eo22|(injection eo22 with f1_ f2_ f3_;have f4_:=f1_.symm;have f5_:=f3_.symm;clear f1_ f2_ f3_;subst f4_;subst f5_))
 refine hK.out _ _ hh (fun hHeld=> ?_)
 clear hK K
 refine nu (N:=(some 73)) ?_
 refine ou 16 (some 75) (fun K hK=> ?_)
 refine Kd.R_append_rows_step (Kd.int .i64) (w0:=w) w.heap.size (by rfl) (.tmp 73) (.tmp 74) 41 3 (V I 0) 8 rfl Tryd.underlying41 info3 rfl (by decide) (by omega) v24 y1 t51 _ _ _ (fun k_=>qn k_ Ao2 t11.length co2∧qn k_ Ao3 t12.length co3∧qn k_ (some ad1) t17.length co4∧qn k_ Ao7 t27.length co7∧qn k_ Ao8 t28.length co8∧qn k_ Ao18 t32.length co18∧qn k_ Ao10 t46.length co10∧qn k_ Ao11 t47.length co11∧qn k_ Ao22 t51.length co22∧qn k_ Ao13 t61.length co13∧qn k_ Ao14 t62.length co14∧qm k_ v17∧qn k_ Ao16 t76.length co16∧qn k_ Ao17 t77.length co17∧qn k_ Ao19 t81.length co19) (fun _=>False) rfl rfl ?aO ?aR (fun _ _ h=>h) (fun _ h=>h.elim) ?aF ?aB ?aS ?aL ?_
 (case aR=>exact uC (Kd.R_reads' HO13.out).2.2)
 (case aB=>exact uB)
 (case aF=>exact(fun k_ hk=>⟨Kd.fresh' (Kd.Q_lt (uQ HO2.out)) k_ hk,Kd.fresh' (Kd.R_lt (uR HO3.out)) k_ hk,Kd.fresh' (Kd.R_lt (uR HO5.out)) k_ hk,Kd.fresh' (Kd.Q_lt (uQ HO7.out)) k_ hk,Kd.fresh' (Kd.R_lt (uR HO8.out)) k_ hk,Kd.fresh' (Kd.R_lt (uR HO9.out)) k_ hk,Kd.fresh' (Kd.Q_lt (uQ HO11.out)) k_ hk,Kd.fresh' (Kd.R_lt (uR HO12.out)) k_ hk,Kd.fresh' (Kd.R_lt (uR HO13.out)) k_ hk,Kd.fresh' (Kd.Q_lt (uQ HO15.out)) k_ hk,Kd.fresh' (Kd.R_lt (uR HO16.out)) k_ hk,Kd.fresh' (Kd.R_lt (uR HO17.out)) k_ hk,Kd.fresh' (Kd.Q_lt (uQ HO19.out)) k_ hk,Kd.fresh' (Kd.R_lt (uR HO20.out)) k_ hk,Kd.fresh' (Kd.R_lt (uR HO21.out)) k_ hk⟩))
 (case aO=>exact(X (fR HO24.out) (fun _ hk=>⟨hk.1.1.1.1.1.1.1.1.1.1.1.1.1.1.2,⟨hk.1.1.1.1.1.1.1.1.1.1.1.1.1.2,⟨hk.1.1.1.1.1.1.1.1.1.1.1.1.2,⟨hk.1.1.1.1.1.1.1.1.1.1.1.2,⟨hk.1.1.1.1.1.1.1.1.1.1.2,⟨hk.1.1.1.1.1.1.1.1.1.2,⟨hk.1.1.1.1.1.1.1.1.2,⟨hk.1.1.1.1.1.1.1.2,⟨hk.1.1.1.1.1.1.2,⟨hk.1.1.1.1.1.2,⟨hk.1.1.1.1.2,⟨hk.1.1.1.2,⟨hk.1.1.2,⟨hk.1.2,hk.2⟩⟩⟩⟩⟩⟩⟩⟩⟩⟩⟩⟩⟩⟩)))
 (case aS=>exact(below_size uB))
 (case aL=>have:=LMc1.out;omega)
 intro v25 w21 ho hb hg hat
 rw[←Ny4.out]at ho
 have HO25:=C (ho)
 replace HO1:=C (Kd.R_over' (uR HO1.out) (Kd.R_typed (uR HO24.out)) (by decide) hg)
 replace HO2:=C (Kd.Q_after (ok:=(fun k_=>qn k_ Ao3 t12.length co3∧qn k_ (some ad1) t17.length co4∧qn k_ Ao7 t27.length co7∧qn k_ Ao8 t28.length co8∧qn k_ Ao18 t32.length co18∧qn k_ Ao10 t46.length co10∧qn k_ Ao11 t47.length co11∧qn k_ Ao22 t51.length co22∧qn k_ Ao13 t61.length co13∧qn k_ Ao14 t62.length co14∧qm k_ v17∧qn k_ Ao16 t76.length co16∧qn k_ Ao17 t77.length co17∧qn k_ Ao19 t81.length co19)) (uQ HO2.out) hg hat)
 replace HO3:=C (Kd.R_after (ok:=(fun k_=>qn k_ Ao2 t11.length co2∧qn k_ (some ad1) t17.length co4∧qn k_ Ao7 t27.length co7∧qn k_ Ao8 t28.length co8∧qn k_ Ao18 t32.length co18∧qn k_ Ao10 t46.length co10∧qn k_ Ao11 t47.length co11∧qn k_ Ao22 t51.length co22∧qn k_ Ao13 t61.length co13∧qn k_ Ao14 t62.length co14∧qm k_ v17∧qn k_ Ao16 t76.length co16∧qn k_ Ao17 t77.length co17∧qn k_ Ao19 t81.length co19)) (uR HO3.out) hg hat)
 replace HO4:=C (Kd.R_over' (uR HO4.out) (Kd.R_typed (uR HO24.out)) (by decide) hg)
 replace BK1:=gK BK1 hg (Kd.R_ne HO24.out BK1.out (by decide))
 replace HO5:=C (Kd.R_after (ok:=(fun k_=>qn k_ Ao2 t11.length co2∧qn k_ Ao3 t12.length co3∧qn k_ Ao7 t27.length co7∧qn k_ Ao8 t28.length co8∧qn k_ Ao18 t32.length co18∧qn k_ Ao10 t46.length co10∧qn k_ Ao11 t47.length co11∧qn k_ Ao22 t51.length co22∧qn k_ Ao13 t61.length co13∧qn k_ Ao14 t62.length co14∧qm k_ v17∧qn k_ Ao16 t76.length co16∧qn k_ Ao17 t77.length co17∧qn k_ Ao19 t81.length co19)) (uR HO5.out) hg hat)
 replace HO6:=C (Kd.R_over' (uR HO6.out) (Kd.R_typed (uR HO24.out)) (by decide) hg)
 replace HO7:=C (Kd.Q_after (ok:=(fun k_=>qn k_ Ao2 t11.length co2∧qn k_ Ao3 t12.length co3∧qn k_ (some ad1) t17.length co4∧qn k_ Ao8 t28.length co8∧qn k_ Ao18 t32.length co18∧qn k_ Ao10 t46.length co10∧qn k_ Ao11 t47.length co11∧qn k_ Ao22 t51.length co22∧qn k_ Ao13 t61.length co13∧qn k_ Ao14 t62.length co14∧qm k_ v17∧qn k_ Ao16 t76.length co16∧qn k_ Ao17 t77.length co17∧qn k_ Ao19 t81.length co19)) (uQ HO7.out) hg hat)
 replace HO8:=C (Kd.R_after (ok:=(fun k_=>qn k_ Ao2 t11.length co2∧qn k_ Ao3 t12.length co3∧qn k_ (some ad1) t17.length co4∧qn k_ Ao7 t27.length co7∧qn k_ Ao18 t32.length co18∧qn k_ Ao10 t46.length co10∧qn k_ Ao11 t47.length co11∧qn k_ Ao22 t51.length co22∧qn k_ Ao13 t61.length co13∧qn k_ Ao14 t62.length co14∧qm k_ v17∧qn k_ Ao16 t76.length co16∧qn k_ Ao17 t77.length co17∧qn k_ Ao19 t81.length co19)) (uR HO8.out) hg hat)
 replace HO9:=C (Kd.R_after (ok:=(fun k_=>qn k_ Ao2 t11.length co2∧qn k_ Ao3 t12.length co3∧qn k_ (some ad1) t17.length co4∧qn k_ Ao7 t27.length co7∧qn k_ Ao8 t28.length co8∧qn k_ Ao10 t46.length co10∧qn k_ Ao11 t47.length co11∧qn k_ Ao22 t51.length co22∧qn k_ Ao13 t61.length co13∧qn k_ Ao14 t62.length co14∧qm k_ v17∧qn k_ Ao16 t76.length co16∧qn k_ Ao17 t77.length co17∧qn k_ Ao19 t81.length co19)) (uR HO9.out) hg hat)
 replace BK2:=gK BK2 hg (Kd.R_ne HO24.out BK2.out (by decide))
 replace HO10:=C (Kd.R_over' (uR HO10.out) (Kd.R_typed (uR HO24.out)) (by decide) hg)
 replace HO11:=C (Kd.Q_after (ok:=(fun k_=>qn k_ Ao2 t11.length co2∧qn k_ Ao3 t12.length co3∧qn k_ (some ad1) t17.length co4∧qn k_ Ao7 t27.length co7∧qn k_ Ao8 t28.length co8∧qn k_ Ao18 t32.length co18∧qn k_ Ao11 t47.length co11∧qn k_ Ao22 t51.length co22∧qn k_ Ao13 t61.length co13∧qn k_ Ao14 t62.length co14∧qm k_ v17∧qn k_ Ao16 t76.length co16∧qn k_ Ao17 t77.length co17∧qn k_ Ao19 t81.length co19)) (uQ HO11.out) hg hat)
 replace HO12:=C (Kd.R_after (ok:=(fun k_=>qn k_ Ao2 t11.length co2∧qn k_ Ao3 t12.length co3∧qn k_ (some ad1) t17.length co4∧qn k_ Ao7 t27.length co7∧qn k_ Ao8 t28.length co8∧qn k_ Ao18 t32.length co18∧qn k_ Ao10 t46.length co10∧qn k_ Ao22 t51.length co22∧qn k_ Ao13 t61.length co13∧qn k_ Ao14 t62.length co14∧qm k_ v17∧qn k_ Ao16 t76.length co16∧qn k_ Ao17 t77.length co17∧qn k_ Ao19 t81.length co19)) (uR HO12.out) hg hat)
 replace HO13:=C (Kd.R_after (ok:=(fun k_=>qn k_ Ao2 t11.length co2∧qn k_ Ao3 t12.length co3∧qn k_ (some ad1) t17.length co4∧qn k_ Ao7 t27.length co7∧qn k_ Ao8 t28.length co8∧qn k_ Ao18 t32.length co18∧qn k_ Ao10 t46.length co10∧qn k_ Ao11 t47.length co11∧qn k_ Ao13 t61.length co13∧qn k_ Ao14 t62.length co14∧qm k_ v17∧qn k_ Ao16 t76.length co16∧qn k_ Ao17 t77.length co17∧qn k_ Ao19 t81.length co19)) (uR HO13.out) hg hat)
 replace BK3:=gK BK3 hg (Kd.R_ne HO24.out BK3.out (by decide))
 replace HO14:=C (Kd.R_over' (uR HO14.out) (Kd.R_typed (uR HO24.out)) (by decide) hg)
 replace HO15:=C (Kd.Q_after (ok:=(fun k_=>qn k_ Ao2 t11.length co2∧qn k_ Ao3 t12.length co3∧qn k_ (some ad1) t17.length co4∧qn k_ Ao7 t27.length co7∧qn k_ Ao8 t28.length co8∧qn k_ Ao18 t32.length co18∧qn k_ Ao10 t46.length co10∧qn k_ Ao11 t47.length co11∧qn k_ Ao22 t51.length co22∧qn k_ Ao14 t62.length co14∧qm k_ v17∧qn k_ Ao16 t76.length co16∧qn k_ Ao17 t77.length co17∧qn k_ Ao19 t81.length co19)) (uQ HO15.out) hg hat)
 replace HO16:=C (Kd.R_after (ok:=(fun k_=>qn k_ Ao2 t11.length co2∧qn k_ Ao3 t12.length co3∧qn k_ (some ad1) t17.length co4∧qn k_ Ao7 t27.length co7∧qn k_ Ao8 t28.length co8∧qn k_ Ao18 t32.length co18∧qn k_ Ao10 t46.length co10∧qn k_ Ao11 t47.length co11∧qn k_ Ao22 t51.length co22∧qn k_ Ao13 t61.length co13∧qm k_ v17∧qn k_ Ao16 t76.length co16∧qn k_ Ao17 t77.length co17∧qn k_ Ao19 t81.length co19)) (uR HO16.out) hg hat)
 replace HO17:=C (Kd.R_after (ok:=(fun k_=>qn k_ Ao2 t11.length co2∧qn k_ Ao3 t12.length co3∧qn k_ (some ad1) t17.length co4∧qn k_ Ao7 t27.length co7∧qn k_ Ao8 t28.length co8∧qn k_ Ao18 t32.length co18∧qn k_ Ao10 t46.length co10∧qn k_ Ao11 t47.length co11∧qn k_ Ao22 t51.length co22∧qn k_ Ao13 t61.length co13∧qn k_ Ao14 t62.length co14∧qn k_ Ao16 t76.length co16∧qn k_ Ao17 t77.length co17∧qn k_ Ao19 t81.length co19)) (uR HO17.out) hg hat)
 replace BK4:=gK BK4 hg (Kd.R_ne HO24.out BK4.out (by decide))
 replace HO18:=C (Kd.R_over' (uR HO18.out) (Kd.R_typed (uR HO24.out)) (by decide) hg)
 replace HO19:=C (Kd.Q_after (ok:=(fun k_=>qn k_ Ao2 t11.length co2∧qn k_ Ao3 t12.length co3∧qn k_ (some ad1) t17.length co4∧qn k_ Ao7 t27.length co7∧qn k_ Ao8 t28.length co8∧qn k_ Ao18 t32.length co18∧qn k_ Ao10 t46.length co10∧qn k_ Ao11 t47.length co11∧qn k_ Ao22 t51.length co22∧qn k_ Ao13 t61.length co13∧qn k_ Ao14 t62.length co14∧qm k_ v17∧qn k_ Ao17 t77.length co17∧qn k_ Ao19 t81.length co19)) (uQ HO19.out) hg hat)
 replace HO20:=C (Kd.R_after (ok:=(fun k_=>qn k_ Ao2 t11.length co2∧qn k_ Ao3 t12.length co3∧qn k_ (some ad1) t17.length co4∧qn k_ Ao7 t27.length co7∧qn k_ Ao8 t28.length co8∧qn k_ Ao18 t32.length co18∧qn k_ Ao10 t46.length co10∧qn k_ Ao11 t47.length co11∧qn k_ Ao22 t51.length co22∧qn k_ Ao13 t61.length co13∧qn k_ Ao14 t62.length co14∧qm k_ v17∧qn k_ Ao16 t76.length co16∧qn k_ Ao19 t81.length co19)) (uR HO20.out) hg hat)
 replace HO21:=C (Kd.R_after (ok:=(fun k_=>qn k_ Ao2 t11.length co2∧qn k_ Ao3 t12.length co3∧qn k_ (some ad1) t17.length co4∧qn k_ Ao7 t27.length co7∧qn k_ Ao8 t28.length co8∧qn k_ Ao18 t32.length co18∧qn k_ Ao10 t46.length co10∧qn k_ Ao11 t47.length co11∧qn k_ Ao22 t51.length co22∧qn k_ Ao13 t61.length co13∧qn k_ Ao14 t62.length co14∧qm k_ v17∧qn k_ Ao16 t76.length co16∧qn k_ Ao17 t77.length co17)) (uR HO21.out) hg hat)
 replace BK5:=gK BK5 hg (Kd.R_ne HO24.out BK5.out (by decide))
 replace HO22:=C (Kd.R_over' (uR HO22.out) (Kd.R_typed (uR HO24.out)) (by decide) hg)
 replace HO23:=C (Kd.R_over' (uR HO23.out) (Kd.R_typed (uR HO24.out)) (by decide) hg)
 replace HB:=C (hb)
 clear HO24
 clear ho hb hg hat
 obtain⟨Ao23,co23,eo23⟩:=U HO17.out
 (first|subst eo23|(injection eo23 with f1_ f2_ f3_;have f4_:=f1_.symm;have f5_:=f3_.symm;clear f1_ f2_ f3_;subst f4_;subst f5_))
 refine hK.out _ _ hh (fun hHeld=> ?_)
 clear hK K
 refine nu (N:=(some 75)) ?_
 refine ou 18 (some 77) (fun K hK=> ?_)
 refine Kd.R_append_rows_step (Kd.int .i64) (w0:=w) w.heap.size (by rfl) (.tmp 75) (.tmp 76) 41 3 (V I 0) 8 rfl Tryd.underlying41 info3 rfl (by decide) (by omega) v25 y2 t66 _ _ _ (fun k_=>qn k_ Ao2 t11.length co2∧qn k_ Ao3 t12.length co3∧qn k_ (some ad1) t17.length co4∧qn k_ Ao7 t27.length co7∧qn k_ Ao8 t28.length co8∧qn k_ Ao18 t32.length co18∧qn k_ Ao10 t46.length co10∧qn k_ Ao11 t47.length co11∧qn k_ Ao22 t51.length co22∧qn k_ Ao13 t61.length co13∧qn k_ Ao14 t62.length co14∧qn k_ Ao23 t66.length co23∧qn k_ Ao16 t76.length co16∧qn k_ Ao17 t77.length co17∧qn k_ Ao19 t81.length co19) (fun _=>False) rfl rfl ?aO ?aR (fun _ _ h=>h) (fun _ h=>h.elim) ?aF ?aB ?aS ?aL ?_
 (case aR=>exact uC (Kd.R_reads' HO17.out).2.2)
 (case aB=>exact uB)
 (case aF=>exact(fun k_ hk=>⟨Kd.fresh' (Kd.Q_lt (uQ HO2.out)) k_ hk,Kd.fresh' (Kd.R_lt (uR HO3.out)) k_ hk,Kd.fresh' (Kd.R_lt (uR HO5.out)) k_ hk,Kd.fresh' (Kd.Q_lt (uQ HO7.out)) k_ hk,Kd.fresh' (Kd.R_lt (uR HO8.out)) k_ hk,Kd.fresh' (Kd.R_lt (uR HO9.out)) k_ hk,Kd.fresh' (Kd.Q_lt (uQ HO11.out)) k_ hk,Kd.fresh' (Kd.R_lt (uR HO12.out)) k_ hk,Kd.fresh' (Kd.R_lt (uR HO13.out)) k_ hk,Kd.fresh' (Kd.Q_lt (uQ HO15.out)) k_ hk,Kd.fresh' (Kd.R_lt (uR HO16.out)) k_ hk,Kd.fresh' (Kd.R_lt (uR HO17.out)) k_ hk,Kd.fresh' (Kd.Q_lt (uQ HO19.out)) k_ hk,Kd.fresh' (Kd.R_lt (uR HO20.out)) k_ hk,Kd.fresh' (Kd.R_lt (uR HO21.out)) k_ hk⟩))
 (case aO=>exact(uR HO25.out))
 (case aS=>exact(below_size uB))
 (case aL=>have:=LMc2.out;omega)
 intro v26 w22 ho hb hg hat
 rw[←Ny5.out]at ho
 have HO26:=C (ho)
 replace HO1:=C (Kd.R_over' (uR HO1.out) (Kd.R_typed (uR HO25.out)) (by decide) hg)
 replace HO2:=C (Kd.Q_after (ok:=(fun k_=>qn k_ Ao3 t12.length co3∧qn k_ (some ad1) t17.length co4∧qn k_ Ao7 t27.length co7∧qn k_ Ao8 t28.length co8∧qn k_ Ao18 t32.length co18∧qn k_ Ao10 t46.length co10∧qn k_ Ao11 t47.length co11∧qn k_ Ao22 t51.length co22∧qn k_ Ao13 t61.length co13∧qn k_ Ao14 t62.length co14∧qn k_ Ao23 t66.length co23∧qn k_ Ao16 t76.length co16∧qn k_ Ao17 t77.length co17∧qn k_ Ao19 t81.length co19)) (uQ HO2.out) hg hat)
 replace HO3:=C (Kd.R_after (ok:=(fun k_=>qn k_ Ao2 t11.length co2∧qn k_ (some ad1) t17.length co4∧qn k_ Ao7 t27.length co7∧qn k_ Ao8 t28.length co8∧qn k_ Ao18 t32.length co18∧qn k_ Ao10 t46.length co10∧qn k_ Ao11 t47.length co11∧qn k_ Ao22 t51.length co22∧qn k_ Ao13 t61.length co13∧qn k_ Ao14 t62.length co14∧qn k_ Ao23 t66.length co23∧qn k_ Ao16 t76.length co16∧qn k_ Ao17 t77.length co17∧qn k_ Ao19 t81.length co19)) (uR HO3.out) hg hat)
 replace HO4:=C (Kd.R_over' (uR HO4.out) (Kd.R_typed (uR HO25.out)) (by decide) hg)
 replace BK1:=gK BK1 hg (Kd.R_ne HO25.out BK1.out (by decide))
 replace HO5:=C (Kd.R_after (ok:=(fun k_=>qn k_ Ao2 t11.length co2∧qn k_ Ao3 t12.length co3∧qn k_ Ao7 t27.length co7∧qn k_ Ao8 t28.length co8∧qn k_ Ao18 t32.length co18∧qn k_ Ao10 t46.length co10∧qn k_ Ao11 t47.length co11∧qn k_ Ao22 t51.length co22∧qn k_ Ao13 t61.length co13∧qn k_ Ao14 t62.length co14∧qn k_ Ao23 t66.length co23∧qn k_ Ao16 t76.length co16∧qn k_ Ao17 t77.length co17∧qn k_ Ao19 t81.length co19)) (uR HO5.out) hg hat)
 replace HO6:=C (Kd.R_over' (uR HO6.out) (Kd.R_typed (uR HO25.out)) (by decide) hg)
 replace HO7:=C (Kd.Q_after (ok:=(fun k_=>qn k_ Ao2 t11.length co2∧qn k_ Ao3 t12.length co3∧qn k_ (some ad1) t17.length co4∧qn k_ Ao8 t28.length co8∧qn k_ Ao18 t32.length co18∧qn k_ Ao10 t46.length co10∧qn k_ Ao11 t47.length co11∧qn k_ Ao22 t51.length co22∧qn k_ Ao13 t61.length co13∧qn k_ Ao14 t62.length co14∧qn k_ Ao23 t66.length co23∧qn k_ Ao16 t76.length co16∧qn k_ Ao17 t77.length co17∧qn k_ Ao19 t81.length co19)) (uQ HO7.out) hg hat)
 replace HO8:=C (Kd.R_after (ok:=(fun k_=>qn k_ Ao2 t11.length co2∧qn k_ Ao3 t12.length co3∧qn k_ (some ad1) t17.length co4∧qn k_ Ao7 t27.length co7∧qn k_ Ao18 t32.length co18∧qn k_ Ao10 t46.length co10∧qn k_ Ao11 t47.length co11∧qn k_ Ao22 t51.length co22∧qn k_ Ao13 t61.length co13∧qn k_ Ao14 t62.length co14∧qn k_ Ao23 t66.length co23∧qn k_ Ao16 t76.length co16∧qn k_ Ao17 t77.length co17∧qn k_ Ao19 t81.length co19)) (uR HO8.out) hg hat)
 replace HO9:=C (Kd.R_after (ok:=(fun k_=>qn k_ Ao2 t11.length co2∧qn k_ Ao3 t12.length co3∧qn k_ (some ad1) t17.length co4∧qn k_ Ao7 t27.length co7∧qn k_ Ao8 t28.length co8∧qn k_ Ao10 t46.length co10∧qn k_ Ao11 t47.length co11∧qn k_ Ao22 t51.length co22∧qn k_ Ao13 t61.length co13∧qn k_ Ao14 t62.length co14∧qn k_ Ao23 t66.length co23∧qn k_ Ao16 t76.length co16∧qn k_ Ao17 t77.length co17∧qn k_ Ao19 t81.length co19)) (uR HO9.out) hg hat)
 replace BK2:=gK BK2 hg (Kd.R_ne HO25.out BK2.out (by decide))
 replace HO10:=C (Kd.R_over' (uR HO10.out) (Kd.R_typed (uR HO25.out)) (by decide) hg)
 replace HO11:=C (Kd.Q_after (ok:=(fun k_=>qn k_ Ao2 t11.length co2∧qn k_ Ao3 t12.length co3∧qn k_ (some ad1) t17.length co4∧qn k_ Ao7 t27.length co7∧qn k_ Ao8 t28.length co8∧qn k_ Ao18 t32.length co18∧qn k_ Ao11 t47.length co11∧qn k_ Ao22 t51.length co22∧qn k_ Ao13 t61.length co13∧qn k_ Ao14 t62.length co14∧qn k_ Ao23 t66.length co23∧qn k_ Ao16 t76.length co16∧qn k_ Ao17 t77.length co17∧qn k_ Ao19 t81.length co19)) (uQ HO11.out) hg hat)
 replace HO12:=C (Kd.R_after (ok:=(fun k_=>qn k_ Ao2 t11.length co2∧qn k_ Ao3 t12.length co3∧qn k_ (some ad1) t17.length co4∧qn k_ Ao7 t27.length co7∧qn k_ Ao8 t28.length co8∧qn k_ Ao18 t32.length co18∧qn k_ Ao10 t46.length co10∧qn k_ Ao22 t51.length co22∧qn k_ Ao13 t61.length co13∧qn k_ Ao14 t62.length co14∧qn k_ Ao23 t66.length co23∧qn k_ Ao16 t76.length co16∧qn k_ Ao17 t77.length co17∧qn k_ Ao19 t81.length co19)) (uR HO12.out) hg hat)
 replace HO13:=C (Kd.R_after (ok:=(fun k_=>qn k_ Ao2 t11.length co2∧qn k_ Ao3 t12.length co3∧qn k_ (some ad1) t17.length co4∧qn k_ Ao7 t27.length co7∧qn k_ Ao8 t28.length co8∧qn k_ Ao18 t32.length co18∧qn k_ Ao10 t46.length co10∧qn k_ Ao11 t47.length co11∧qn k_ Ao13 t61.length co13∧qn k_ Ao14 t62.length co14∧qn k_ Ao23 t66.length co23∧qn k_ Ao16 t76.length co16∧qn k_ Ao17 t77.length co17∧qn k_ Ao19 t81.length co19)) (uR HO13.out) hg hat)
 replace BK3:=gK BK3 hg (Kd.R_ne HO25.out BK3.out (by decide))
 replace HO14:=C (Kd.R_over' (uR HO14.out) (Kd.R_typed (uR HO25.out)) (by decide) hg)
 replace HO15:=C (Kd.Q_after (ok:=(fun k_=>qn k_ Ao2 t11.length co2∧qn k_ Ao3 t12.length co3∧qn k_ (some ad1) t17.length co4∧qn k_ Ao7 t27.length co7∧qn k_ Ao8 t28.length co8∧qn k_ Ao18 t32.length co18∧qn k_ Ao10 t46.length co10∧qn k_ Ao11 t47.length co11∧qn k_ Ao22 t51.length co22∧qn k_ Ao14 t62.length co14∧qn k_ Ao23 t66.length co23∧qn k_ Ao16 t76.length co16∧qn k_ Ao17 t77.length co17∧qn k_ Ao19 t81.length co19)) (uQ HO15.out) hg hat)
 replace HO16:=C (Kd.R_after (ok:=(fun k_=>qn k_ Ao2 t11.length co2∧qn k_ Ao3 t12.length co3∧qn k_ (some ad1) t17.length co4∧qn k_ Ao7 t27.length co7∧qn k_ Ao8 t28.length co8∧qn k_ Ao18 t32.length co18∧qn k_ Ao10 t46.length co10∧qn k_ Ao11 t47.length co11∧qn k_ Ao22 t51.length co22∧qn k_ Ao13 t61.length co13∧qn k_ Ao23 t66.length co23∧qn k_ Ao16 t76.length co16∧qn k_ Ao17 t77.length co17∧qn k_ Ao19 t81.length co19)) (uR HO16.out) hg hat)
 replace HO17:=C (Kd.R_after (ok:=(fun k_=>qn k_ Ao2 t11.length co2∧qn k_ Ao3 t12.length co3∧qn k_ (some ad1) t17.length co4∧qn k_ Ao7 t27.length co7∧qn k_ Ao8 t28.length co8∧qn k_ Ao18 t32.length co18∧qn k_ Ao10 t46.length co10∧qn k_ Ao11 t47.length co11∧qn k_ Ao22 t51.length co22∧qn k_ Ao13 t61.length co13∧qn k_ Ao14 t62.length co14∧qn k_ Ao16 t76.length co16∧qn k_ Ao17 t77.length co17∧qn k_ Ao19 t81.length co19)) (uR HO17.out) hg hat)
 replace BK4:=gK BK4 hg (Kd.R_ne HO25.out BK4.out (by decide))
 replace HO18:=C (Kd.R_over' (uR HO18.out) (Kd.R_typed (uR HO25.out)) (by decide) hg)
 replace HO19:=C (Kd.Q_after (ok:=(fun k_=>qn k_ Ao2 t11.length co2∧qn k_ Ao3 t12.length co3∧qn k_ (some ad1) t17.length co4∧qn k_ Ao7 t27.length co7∧qn k_ Ao8 t28.length co8∧qn k_ Ao18 t32.length co18∧qn k_ Ao10 t46.length co10∧qn k_ Ao11 t47.length co11∧qn k_ Ao22 t51.length co22∧qn k_ Ao13 t61.length co13∧qn k_ Ao14 t62.length co14∧qn k_ Ao23 t66.length co23∧qn k_ Ao17 t77.length co17∧qn k_ Ao19 t81.length co19)) (uQ HO19.out) hg hat)
 replace HO20:=C (Kd.R_after (ok:=(fun k_=>qn k_ Ao2 t11.length co2∧qn k_ Ao3 t12.length co3∧qn k_ (some ad1) t17.length co4∧qn k_ Ao7 t27.length co7∧qn k_ Ao8 t28.length co8∧qn k_ Ao18 t32.length co18∧qn k_ Ao10 t46.length co10∧qn k_ Ao11 t47.length co11∧qn k_ Ao22 t51.length co22∧qn k_ Ao13 t61.length co13∧qn k_ Ao14 t62.length co14∧qn k_ Ao23 t66.length co23∧qn k_ Ao16 t76.length co16∧qn k_ Ao19 t81.length co19)) (uR HO20.out) hg hat)
 replace HO21:=C (Kd.R_after (ok:=(fun k_=>qn k_ Ao2 t11.length co2∧qn k_ Ao3 t12.length co3∧qn k_ (some ad1) t17.length co4∧qn k_ Ao7 t27.length co7∧qn k_ Ao8 t28.length co8∧qn k_ Ao18 t32.length co18∧qn k_ Ao10 t46.length co10∧qn k_ Ao11 t47.length co11∧qn k_ Ao22 t51.length co22∧qn k_ Ao13 t61.length co13∧qn k_ Ao14 t62.length co14∧qn k_ Ao23 t66.length co23∧qn k_ Ao16 t76.length co16∧qn k_ Ao17 t77.length co17)) (uR HO21.out) hg hat)
 replace BK5:=gK BK5 hg (Kd.R_ne HO25.out BK5.out (by decide))
 replace HO22:=C (Kd.R_over' (uR HO22.out) (Kd.R_typed (uR HO25.out)) (by decide) hg)
 replace HO23:=C (Kd.R_over' (uR HO23.out) (Kd.R_typed (uR HO25.out)) (by decide) hg)
 replace HB:=C (hb)
 clear HO25
 clear ho hb hg hat
 obtain⟨Ao24,co24,eo24⟩:=U HO26.out
 (first|subst eo24|(injection eo24 with f1_ f2_ f3_;have f4_:=f1_.symm;have f5_:=f3_.symm;clear f1_ f2_ f3_;subst f4_;subst f5_))
 refine hK.out _ _ hh (fun hHeld=> ?_)
 clear hK K
 refine nu (N:=(some 77)) ?_
 refine ou 19 (some 78) (fun K hK=> ?_)
 refine gs Tryd.func32 #[L Ao18 t32.length co18,L Ao24 y5.length co24] ?_
 with_reducible refine(laws_sameInts.calls k _ _ t32 _ _ y5 t36 _ ?side1 ?side2 ?side3 ?side4 A12.out).mono ?_
 (case side1=>exact uC (Kd.R_reads' HO9.out).2.2)
 (case side2=>exact(Kd.R_reads' HO9.out).2.1)
 (case side3=>exact uC (Kd.R_reads' HO26.out).2.2)
 (case side4=>exact(Kd.R_reads' HO26.out).2.1)
 rintro e w' ⟨rfl,⟨nd,rfl⟩⟩
 refine⟨_,rfl,?_⟩
 refine hK.out _ _ hh (fun hHeld=> ?_)
 clear hK K
 refine nu (N:=(some 78)) ?_
 refine pu 20 (some 79) ?_
 refine pu 21 (some 2) ?_
 refine done_ (done_of HT_.out (by kernel_rfl)) ?_
 try go_wp2
 go_ret
 exact⟨by first|rfl|(simp[errW_none,errW_some]<;>rfl)|(simp only[←hji1];first|rfl|(simp[errW_none,errW_some]<;>rfl))|(simp[*,errW_none,errW_some]<;>rfl),uB⟩
end Go.Proofs.YtblceimapaenlaaDoor.PFnActParts
