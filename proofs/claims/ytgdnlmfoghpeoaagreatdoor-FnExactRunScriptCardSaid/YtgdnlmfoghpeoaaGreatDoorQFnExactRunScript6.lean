/- Calls do what plain Lean functions say (FnExactRunScript). No condition. -/
import Derived.Test.YtgdnlmfoghpeoaaGreatDoorQFnExactRunScript0
import Derived.Test.YtgdnlmfoghpeoaaGreatDoorQFnExactRunScript2
import Derived.Test.YtgdnlmfoghpeoaaGreatDoorQFnExactRunScript3
import Derived.Test.YtgdnlmfoghpeoaaGreatDoorQFnExactRunScript4
import Derived.Test.YtgdnlmfoghpeoaaGreatDoorQFnExactRunScript5
namespace Go.Proofs.YtgdnlmfoghpeoaaGreatDoor.PFnExactRunScript
open Go.RowKit Go.Proofs.YtgdnlmfoghpeoaaGreatDoorW.PrintWords Go.Proofs.YtgdnlmfoghpeoaaGreatDoorW.PrintLast Go.Proofs.YtgdnlmfoghpeoaaGreatDoorW.PrintMore
open Tryz
open Fix (bK bnd cf1 cf14 cf6 cl14 cl4 cl6 cr14 cs14 cs6 d14 d4 d6 dB dK dQ dR eB eK eR fQ fR gE gl gs hh lR nG nL nf nt nu oL ou pj pu qm qn rE rS tQ tR tu uB uR uZ wB wK wR)
open Go.Value renaming int→V,slice→L,bool→O,agg→G
open Go.IntKind renaming i64→I
open Go.Proofs.YtgdnlmfoghpeoaaGreatDoorW.PrintWords.Aside0 renaming mk→C
open Go.Proofs.YtgdnlmfoghpeoaaGreatDoorW.PrintWords renaming Aside0→D,gate_callee→F
open Go.Proofs.YtgdnlmfoghpeoaaGreatDoorW.PrintWords.Kd renaming R_mono→X,R_types→Y,C_below→Z,R_below→T,R_slice→U
attribute [local go_sem] max2_int min2_int max_two min_two max_three min_three max_four min_four
attribute [local go_sem] Fix.isSome_setCell
set_option linter.unusedVariables false
set_option maxHeartbeats 40000000
set_option maxRecDepth 100000
set_option linter.unusedSimpArgs false
mutual
def impl_DoAct.j0:Nat→Bool→List (S26)→Int→Int→Int→Bool→Int→Bool→Int→Int→List Int→List Int→Int→Bool→Int→Int→Int→Int→Int→List (S26)→Int→Int→Int→Bool→Int→Bool→Int→Int→List Int→List Int→Int→Bool→Int→Option ((List (S26))×Int×Int×Int×Bool×Int×Bool×Int×Int×List Int×List Int×Int×Bool×Int×Int)
 |0,_,_,_,_,_,_,_,_,_,_,_,_,_,_,_,_,_,_,_,_,_,_,_,_,_,_,_,_,_,_,_,_,_=>none
 |k+1,x20,x311000,x311001,x311002,x311003,x311004,x311005,x311006,x311007,x311008,x311009,x311010,x311011,x311012,x311013,x312000,x312001,x312002,x312003,x334000,x334001,x334002,x334003,x334004,x334005,x334006,x334007,x334008,x334009,x334010,x334011,x334012,x334013=>if x20=true then(some (x334000,x334001,x334002,x334003,x334004,x334005,x334006,x334007,x334008,x334009,x334010,x334011,x334012,x334013,(-1))) else(if x312000=1 then((impl_jobOf.f x312000 x312001 x312002 x312003).bind fun bt336=>((impl_AddJob.f k x311000 bt336.1 bt336.2.1 bt336.2.2.1 bt336.2.2.2.1 bt336.2.2.2.2.1 bt336.2.2.2.2.2).bind fun bt342=>((impl_bit.f bt342.2).bind fun t346=>(some (bt342.1,x334001,x334002,x334003,x334004,x334005,x334006,x334007,x334008,x334009,x334010,x334011,x334012,x334013,t346))))) else(if x312000=2 then((impl_TakeJob.f k x311000).bind fun bt347=>((impl_IsDone.f k x311007 x311008 x311009 x311010 x311011 x311012).bind fun t358=>(if t358=true then(if bt347.2.2.2.2.2.2.2=true then((impl_JobSheets.f k bt347.2.1 bt347.2.2.1 bt347.2.2.2.1 bt347.2.2.2.2.1 bt347.2.2.2.2.2.1 bt347.2.2.2.2.2.2.1).bind fun t359=>(impl_DoAct.j1 k bt347.1 (decide (t359 >40)) x311000 x311001 x311002 x311003 x311004 x311005 x311006 x311007 x311008 x311009 x311010 x311011 x311012 x311013 x334000 x334001 x334002 x334003 x334004 x334005 x334006 x334007 x334008 x334009 x334010 x334011 x334012 x334013 bt347.2.1 bt347.2.2.1 bt347.2.2.2.1 bt347.2.2.2.2.1 bt347.2.2.2.2.2.1 bt347.2.2.2.2.2.2.1)) else(impl_DoAct.j1 k bt347.1 true x311000 x311001 x311002 x311003 x311004 x311005 x311006 x311007 x311008 x311009 x311010 x311011 x311012 x311013 x334000 x334001 x334002 x334003 x334004 x334005 x334006 x334007 x334008 x334009 x334010 x334011 x334012 x334013 bt347.2.1 bt347.2.2.1 bt347.2.2.2.1 bt347.2.2.2.2.1 bt347.2.2.2.2.2.1 bt347.2.2.2.2.2.2.1)) else(impl_DoAct.j1 k bt347.1 true x311000 x311001 x311002 x311003 x311004 x311005 x311006 x311007 x311008 x311009 x311010 x311011 x311012 x311013 x334000 x334001 x334002 x334003 x334004 x334005 x334006 x334007 x334008 x334009 x334010 x334011 x334012 x334013 bt347.2.1 bt347.2.2.1 bt347.2.2.2.1 bt347.2.2.2.2.1 bt347.2.2.2.2.2.1 bt347.2.2.2.2.2.2.1)))) else(if x312000=3 then((impl_LineStep.f k x311007 x311008 x311009 x311010 x311011 x311012 x312001).bind fun bt372=>((impl_bit.f bt372.2.2.2.2.2.2).bind fun t383=>(some (x334000,x334001,x334002,x334003,x334004,x334005,x334006,bt372.1,bt372.2.1,bt372.2.2.1,bt372.2.2.2.1,bt372.2.2.2.2.1,bt372.2.2.2.2.2.1,x334013,t383)))) else(if x312000=4 then((impl_FinishLine.f k x311007 x311008 x311009 x311010 x311011 x311012).bind fun bt384=>(some (x334000,x334001,x334002,x334003,x334004,x334005,x334006,bt384.1,bt384.2.1,bt384.2.2.1,bt384.2.2.2.1,bt384.2.2.2.2.1,bt384.2.2.2.2.2,x334013,(bt384.2.2.2.1.length:Int)))) else((impl_ReleaseJob.f k x311000 x312001).bind fun bt394=>((impl_bit.f bt394.2).bind fun t398=>(some (bt394.1,x334001,x334002,x334003,x334004,x334005,x334006,x334007,x334008,x334009,x334010,x334011,x334012,x334013,t398))))))))
def impl_DoAct.j1:Nat→List (S26)→Bool→List (S26)→Int→Int→Int→Bool→Int→Bool→Int→Int→List Int→List Int→Int→Bool→Int→List (S26)→Int→Int→Int→Bool→Int→Bool→Int→Int→List Int→List Int→Int→Bool→Int→Int→Int→Int→Bool→Int→Bool→Option ((List (S26))×Int×Int×Int×Bool×Int×Bool×Int×Int×List Int×List Int×Int×Bool×Int×Int)
 |0,_,_,_,_,_,_,_,_,_,_,_,_,_,_,_,_,_,_,_,_,_,_,_,_,_,_,_,_,_,_,_,_,_,_,_,_=>none
 |k+1,x8,x59,x311000,x311001,x311002,x311003,x311004,x311005,x311006,x311007,x311008,x311009,x311010,x311011,x311012,x311013,x334000,x334001,x334002,x334003,x334004,x334005,x334006,x334007,x334008,x334009,x334010,x334011,x334012,x334013,x358000,x358001,x358002,x358003,x358004,x358005=>if x59=true then(some (x334000,x334001,x334002,x334003,x334004,x334005,x334006,x334007,x334008,x334009,x334010,x334011,x334012,x334013,0)) else((impl_JobSheets.f k x358000 x358001 x358002 x358003 x358004 x358005).bind fun t360=>((impl_NewLine.f t360).bind fun bt361=>(some (x8,x358000,x358001,x358002,x358003,x358004,x358005,bt361.1,bt361.2.1,bt361.2.2.1,bt361.2.2.2.1,bt361.2.2.2.2.1,bt361.2.2.2.2.2.1,mn 100000 (wrap64 (x311013+(x311010.length:Int))),x358000))))
end
def impl_DoAct.f (k:Nat) (l0_0:List (S26)) (a0_1:Int) (a0_2:Int) (a0_3:Int) (a0_4:Bool) (a0_5:Int) (a0_6:Bool) (a0_7:Int) (a0_8:Int) (l0_9:List Int) (l0_10:List Int) (a0_11:Int) (a0_12:Bool) (a0_13:Int) (a1_0:Int) (a1_1:Int) (a1_2:Int) (a1_3:Int):Option ((List (S26))×Int×Int×Int×Bool×Int×Bool×Int×Int×List Int×List Int×Int×Bool×Int×Int):=(impl_copyMachine.f l0_0 a0_1 a0_2 a0_3 a0_4 a0_5 a0_6 a0_7 a0_8 l0_9 l0_10 a0_11 a0_12 a0_13).bind fun bt313=>((impl_MachineOk.f k l0_0 a0_1 a0_2 a0_3 a0_4 a0_5 a0_6 a0_7 a0_8 l0_9 l0_10 a0_11 a0_12 a0_13).bind fun t334=>(if t334=true then((impl_ActOk.f k a1_0 a1_1 a1_2 a1_3).bind fun t335=>(impl_DoAct.j0 k (!t335) l0_0 a0_1 a0_2 a0_3 a0_4 a0_5 a0_6 a0_7 a0_8 l0_9 l0_10 a0_11 a0_12 a0_13 a1_0 a1_1 a1_2 a1_3 bt313.1 bt313.2.1 bt313.2.2.1 bt313.2.2.2.1 bt313.2.2.2.2.1 bt313.2.2.2.2.2.1 bt313.2.2.2.2.2.2.1 bt313.2.2.2.2.2.2.2.1 bt313.2.2.2.2.2.2.2.2.1 bt313.2.2.2.2.2.2.2.2.2.1 bt313.2.2.2.2.2.2.2.2.2.2.1 bt313.2.2.2.2.2.2.2.2.2.2.2.1 bt313.2.2.2.2.2.2.2.2.2.2.2.2.1 bt313.2.2.2.2.2.2.2.2.2.2.2.2.2)) else(impl_DoAct.j0 k true l0_0 a0_1 a0_2 a0_3 a0_4 a0_5 a0_6 a0_7 a0_8 l0_9 l0_10 a0_11 a0_12 a0_13 a1_0 a1_1 a1_2 a1_3 bt313.1 bt313.2.1 bt313.2.2.1 bt313.2.2.2.1 bt313.2.2.2.2.1 bt313.2.2.2.2.2.1 bt313.2.2.2.2.2.2.1 bt313.2.2.2.2.2.2.2.1 bt313.2.2.2.2.2.2.2.2.1 bt313.2.2.2.2.2.2.2.2.2.1 bt313.2.2.2.2.2.2.2.2.2.2.1 bt313.2.2.2.2.2.2.2.2.2.2.2.1 bt313.2.2.2.2.2.2.2.2.2.2.2.2.1 bt313.2.2.2.2.2.2.2.2.2.2.2.2.2)))
def impl_DoAct.T7:Bool×List (List Nat×List Nat):=(true,[([],[]),([0],[0]),([],[]),([2],[2]),([1,3,3],[1,3]),([4],[4]),([5],[5]),([5],[5]),([0,1,2,3,4,5,6],[]),([8,6,4,0,1,2,3,4,5,6],[6,8]),([7,9,0,1,2,3,4,5,6,7,8,9],[7])])
def impl_DoAct.B7:List Nat:= [0,1,0,4,15,31,63,63,127,383,1023]
theorem impl_DoAct.tab7:rtab .any (opsOf Tryz.f28 7)=impl_DoAct.T7:=by kernel_rfl
theorem impl_DoAct.bits7:waitsOk impl_DoAct.T7.2 impl_DoAct.B7=true:=by kernel_rfl
theorem impl_DoAct.W1 {p:Prop} (h:p:=by
 go_wp2_with (first|((with_reducible refine F (f:=27) rfl ?_);refine gl 27 (some 14) func27 #[G #[L A0_0 l0_0.length c0_0,V I a0_1,V I a0_2,V I a0_3,O a0_4,V I a0_5,O a0_6,V I a0_7,V I a0_8,L A0_9 l0_9.length c0_9,L A0_10 l0_10.length c0_10,V I a0_11,O a0_12,V I a0_13]] ?_;(with_reducible refine(impl_MachineOk.calls k _ _ l0_0 a0_1 a0_2 a0_3 a0_4 a0_5 a0_6 a0_7 a0_8 _ _ l0_9 _ _ l0_10 a0_11 a0_12 a0_13 true _ ?side1 HC1_0.out ?side3 HC1_9.out ?side5 HC1_10.out A2.out).mono ?_);(case side1=>exact Z HR1_0.out uB);(case side3=>exact Z HR1_9.out uB);(case side5=>exact Z HR1_10.out uB);rintro e w7 ⟨rfl,hb⟩;refine⟨_,rfl,?_⟩;replace HO1:=C (T (X (fR (Y HO1.out BK4.out (by decide))) (fun _ h_=>h_.1)) hb);replace HO2:=C (T (X (fR (Y HO2.out BK4.out (by decide))) (fun _ h_=>h_.1)) hb);replace HO3:=C (T (X (fR (Y HO3.out BK4.out (by decide))) (fun _ h_=>h_.1)) hb);replace BK1:=eK BK1 hb;replace BK2:=eK BK2 hb;replace BK3:=eK BK3 hb;replace BK4:=C (blk_below (g:=gb4) (o:=.cells #[L Ao1 t1.length co1,V I t2,V I t3,V I t4,O t5,V I t6,O t7,V I t8,V I t9,L Ao2 t10.length co2,L Ao3 t11.length co3,V I t12,O t13,V I t14] 31 (0,0)) (bK BK4.out) hb);replace HB:=eB hb;clear hb;have:=n0.out;have:=n1.out;have:=n2.out;have:=n3.out;obtain⟨_,_,_,_,_,_,_,_⟩:=d4 BK2.out)|(go_at_call 38;(with_reducible refine(impl_ActOk.calls k a1_0 a1_1 a1_2 a1_3 t16 _ A3.out).mono ?_);rintro e w8 ⟨rfl,hb⟩;replace HO1:=eR HO1 hb;replace HO2:=eR HO2 hb;replace HO3:=eR HO3 hb;replace BK1:=eK BK1 hb;replace BK2:=eK BK2 hb;replace BK3:=eK BK3 hb;replace BK4:=eK BK4 hb;replace HB:=eB hb;clear hb)|((with_reducible refine F (f:=54) rfl ?_);refine gl 54 (some 49) func54 #[G #[V I a0_7,V I a0_8,L A0_9 l0_9.length c0_9,L A0_10 l0_10.length c0_10,V I a0_11,O a0_12]] ?_;(with_reducible refine(impl_IsDone.calls kj3 a0_7 a0_8 _ _ l0_9 _ _ l0_10 a0_11 a0_12 true _ ?side1 HC1_9.out ?side3 HC1_10.out A3.out).mono ?_);(case side1=>exact Z HR1_9.out uB);(case side3=>exact Z HR1_10.out uB);rintro e w9 ⟨rfl,hb⟩;refine⟨_,rfl,?_⟩;replace HO_1:=C (T (X (fR (X HO_1.out (fun k_ hk=>(⟨hk,hk.2⟩:_∧k_≠gb5)))) (fun _ h_=>h_.1)) hb);replace HO_2:=C (T (X (fR (Y HO_2.out BK5.out (by decide))) (fun _ h_=>h_.1)) hb);replace HO_3:=C (T (X (fR (Y HO_3.out BK5.out (by decide))) (fun _ h_=>h_.1)) hb);replace HO4:=C (T (X (fR (X HO4.out (fun k_ hk=>(⟨hk,hk.2⟩:_∧k_≠gb5)))) (fun _ h_=>h_.1)) hb);replace BK1:=eK BK1 hb;replace BK2:=eK BK2 hb;replace BK3:=eK BK3 hb;replace BK4:=eK BK4 hb;replace BK5:=C (blk_below (g:=gb5) (o:=.cells #[V I t16,V I t17,V I t18,O t19,V I t20,O t21] 26 (0,0)) (bK BK5.out) hb);replace HB:=eB hb;clear hb;have:=n4.out;have:=n5.out;have:=n6.out;have:=n7.out;have:=n8.out;have:=n9.out;obtain⟨_,_,_,_,_,_,_,_,_,_,_,_⟩:=d6 BK5.out)|(go_at_call 49;(with_reducible refine(impl_JobSheets.calls kj3 t16 t17 t18 t19 t20 t21 t24 _ A4.out).mono ?_);rintro e w10 ⟨rfl,hb⟩;replace HO_1:=eR HO_1 hb;replace HO_2:=eR HO_2 hb;replace HO_3:=eR HO_3 hb;replace HO4:=eR HO4 hb;replace BK1:=eK BK1 hb;replace BK2:=eK BK2 hb;replace BK3:=eK BK3 hb;replace BK4:=eK BK4 hb;replace BK5:=eK BK5 hb;replace HB:=eB hb;clear hb))
 go_meet
 first
  |(case rel=>exact⟨_,(!t16),rS,H',⟨oL⟩,⟨fR HO1.out⟩,⟨fR HO2.out⟩,⟨fR HO3.out⟩,⟨bK BK1.out⟩,⟨bK BK2.out⟩,⟨bK BK3.out⟩,⟨bK BK4.out⟩,⟨uB⟩⟩)
  |(case rel=>exact⟨_,(decide (t24 >40)),rS,H',⟨by have:=HJ1.out;first|omega|exact Nat.le_refl _⟩,⟨X (fR HO4.out) (fun _ hk=>⟨hk.1.2,hk.2⟩)⟩,⟨X (fR HO_1.out) (fun _ hk=>⟨hk.1.2,hk.2⟩)⟩,⟨fR HO_2.out⟩,⟨fR HO_3.out⟩,⟨bK BK1.out⟩,⟨bK BK2.out⟩,⟨bK BK3.out⟩,⟨bK BK4.out⟩,⟨bK BK5.out⟩,⟨uB⟩⟩)):p:=h
theorem impl_DoAct.W2 {p:Prop} (h:p:=by
 go_wp2_with (first|((with_reducible refine F (f:=27) rfl ?_);refine gl 27 (some 14) func27 #[G #[L A0_0 l0_0.length c0_0,V I a0_1,V I a0_2,V I a0_3,O a0_4,V I a0_5,O a0_6,V I a0_7,V I a0_8,L A0_9 l0_9.length c0_9,L A0_10 l0_10.length c0_10,V I a0_11,O a0_12,V I a0_13]] ?_;(with_reducible refine(impl_MachineOk.calls k _ _ l0_0 a0_1 a0_2 a0_3 a0_4 a0_5 a0_6 a0_7 a0_8 _ _ l0_9 _ _ l0_10 a0_11 a0_12 a0_13 false _ ?side1 HC1_0.out ?side3 HC1_9.out ?side5 HC1_10.out A2.out).mono ?_);(case side1=>exact Z HR1_0.out uB);(case side3=>exact Z HR1_9.out uB);(case side5=>exact Z HR1_10.out uB);rintro e w7 ⟨rfl,hb⟩;refine⟨_,rfl,?_⟩;replace HO1:=C (T (X (fR (Y HO1.out BK4.out (by decide))) (fun _ h_=>h_.1)) hb);replace HO2:=C (T (X (fR (Y HO2.out BK4.out (by decide))) (fun _ h_=>h_.1)) hb);replace HO3:=C (T (X (fR (Y HO3.out BK4.out (by decide))) (fun _ h_=>h_.1)) hb);replace BK1:=eK BK1 hb;replace BK2:=eK BK2 hb;replace BK3:=eK BK3 hb;replace BK4:=C (blk_below (g:=gb4) (o:=.cells #[L Ao1 t1.length co1,V I t2,V I t3,V I t4,O t5,V I t6,O t7,V I t8,V I t9,L Ao2 t10.length co2,L Ao3 t11.length co3,V I t12,O t13,V I t14] 31 (0,0)) (bK BK4.out) hb);replace HB:=eB hb;clear hb)|((with_reducible refine F (f:=54) rfl ?_);refine gl 54 (some 49) func54 #[G #[V I a0_7,V I a0_8,L A0_9 l0_9.length c0_9,L A0_10 l0_10.length c0_10,V I a0_11,O a0_12]] ?_;(with_reducible refine(impl_IsDone.calls kj3 a0_7 a0_8 _ _ l0_9 _ _ l0_10 a0_11 a0_12 true _ ?side1 HC1_9.out ?side3 HC1_10.out A3.out).mono ?_);(case side1=>exact Z HR1_9.out uB);(case side3=>exact Z HR1_10.out uB);rintro e w9 ⟨rfl,hb⟩;refine⟨_,rfl,?_⟩;replace HO_1:=C (T (X (fR (X HO_1.out (fun k_ hk=>(⟨hk,hk.2⟩:_∧k_≠gb5)))) (fun _ h_=>h_.1)) hb);replace HO_2:=C (T (X (fR (Y HO_2.out BK5.out (by decide))) (fun _ h_=>h_.1)) hb);replace HO_3:=C (T (X (fR (Y HO_3.out BK5.out (by decide))) (fun _ h_=>h_.1)) hb);replace HO4:=C (T (X (fR (X HO4.out (fun k_ hk=>(⟨hk,hk.2⟩:_∧k_≠gb5)))) (fun _ h_=>h_.1)) hb);replace BK1:=eK BK1 hb;replace BK2:=eK BK2 hb;replace BK3:=eK BK3 hb;replace BK4:=eK BK4 hb;replace BK5:=C (blk_below (g:=gb5) (o:=.cells #[V I t16,V I t17,V I t18,O t19,V I t20,O t21] 26 (0,0)) (bK BK5.out) hb);replace HB:=eB hb;clear hb))
 go_meet
 first
  |(case rel=>exact⟨_,(true),rS,H',⟨oL⟩,⟨fR HO1.out⟩,⟨fR HO2.out⟩,⟨fR HO3.out⟩,⟨bK BK1.out⟩,⟨bK BK2.out⟩,⟨bK BK3.out⟩,⟨bK BK4.out⟩,⟨uB⟩⟩)
  |(case rel=>exact⟨_,(true),rS,H',⟨by have:=HJ1.out;first|omega|exact Nat.le_refl _⟩,⟨X (fR HO4.out) (fun _ hk=>⟨hk.1.2,hk.2⟩)⟩,⟨X (fR HO_1.out) (fun _ hk=>⟨hk.1.2,hk.2⟩)⟩,⟨fR HO_2.out⟩,⟨fR HO_3.out⟩,⟨bK BK1.out⟩,⟨bK BK2.out⟩,⟨bK BK3.out⟩,⟨bK BK4.out⟩,⟨bK BK5.out⟩,⟨uB⟩⟩)):p:=h
theorem impl_DoAct.W3 {p:Prop} (h:p:=by
 go_wp2
 refine bodyPost_ret (results_ct rfl _ _ gb3 31 #[L Ao1 t1.length co1,V I t2,V I t3,V I t4,O t5,V I t6,O t7,V I t8,V I t9,L Ao2 t10.length co2,L Ao3 t11.length co3,V I t12,O t13,V I t14] (0,0) _ rfl (bK BK3.out) underlying31 rfl (by kernel_rfl)) rfl ?_
 exact⟨_,_,_,rE,X (fR (Y HO_1.out BK3.out (by decide))) (fun _ hk=>trivial),Kd.Q_of_R (X (fR (Y HO_2.out BK3.out (by decide))) (fun _ hk=>hk.1)),X (fR (Y HO_3.out BK3.out (by decide))) (fun _ hk=>hk.1),uB⟩):p:=h
theorem impl_DoAct.callsA (k:Nat) (A0_0:Option Addr) (c0_0:Nat) (l0_0:List (S26)) (a0_1:Int) (a0_2:Int) (a0_3:Int) (a0_4:Bool) (a0_5:Int) (a0_6:Bool) (a0_7:Int) (a0_8:Int) (A0_9:Option Addr) (c0_9:Nat) (l0_9:List Int) (A0_10:Option Addr) (c0_10:Nat) (l0_10:List Int) (a0_11:Int) (a0_12:Bool) (a0_13:Int) (a1_0:Int) (a1_1:Int) (a1_2:Int) (a1_3:Int) (r1:List (S26)) (r2:Int) (r3:Int) (r4:Int) (r5:Bool) (r6:Int) (r7:Bool) (r8:Int) (r9:Int) (r10:List Int) (r11:List Int) (r12:Int) (r13:Bool) (r14:Int) (r15:Int) (w:World) (hr0_0:Kd.C k26 w A0_0 l0_0.length l0_0) (hc0_0:l0_0.length≤c0_0) (hr0_9:Kd.C (Kd.int .i64) w A0_9 l0_9.length l0_9) (hc0_9:l0_9.length≤c0_9) (hr0_10:Kd.C (Kd.int .i64) w A0_10 l0_10.length l0_10) (hc0_10:l0_10.length≤c0_10) (h:impl_DoAct.f k l0_0 a0_1 a0_2 a0_3 a0_4 a0_5 a0_6 a0_7 a0_8 l0_9 l0_10 a0_11 a0_12 a0_13 a1_0 a1_1 a1_2 a1_3=some (r1,r2,r3,r4,r5,r6,r7,r8,r9,r10,r11,r12,r13,r14,r15)) (hA:D (a1_0=2)):
 Calls prog 28 #[G #[L A0_0 l0_0.length c0_0,V I a0_1,V I a0_2,V I a0_3,O a0_4,V I a0_5,O a0_6,V I a0_7,V I a0_8,L A0_9 l0_9.length c0_9,L A0_10 l0_10.length c0_10,V I a0_11,O a0_12,V I a0_13],G #[V I a1_0,V I a1_1,V I a1_2,V I a1_3]] w fun e w'=>∃v0_ v9_ v10_:Value,e=.returned (.tuple #[G #[v0_,V I r2,V I r3,V I r4,O r5,V I r6,O r7,V I r8,V I r9,v9_,v10_,V I r12,O r13,V I r14],V I r15])∧Kd.R k26 26 w' w.heap.size (fun _=>True) v0_ r1∧Kd.Q (Kd.int .i64) 3 w' w.heap.size (fun k_=>qm k_ v10_) v9_ r10∧Kd.R (Kd.int .i64) 3 w' w.heap.size (fun k_=>qm k_ v9_) v10_ r11∧Below w.heap.size w w':=by
 have hu1:=underlying31
 have hu2:=underlying55
 have hu3:=underlying26
 have hu4:=underlying29
 have HR1_0:=C hr0_0
 have HC1_0:=C hc0_0
 (try clear hr0_0);(try clear hc0_0)
 have HR1_9:=C hr0_9
 have HC1_9:=C hc0_9
 (try clear hr0_9);(try clear hc0_9)
 have HR1_10:=C hr0_10
 have HC1_10:=C hc0_10
 (try clear hr0_10);(try clear hc0_10)
 have HB:=C (Below.refl w.heap.size w)
 have H:=h
 unfold impl_DoAct.f at H
 clear h
 obtain⟨⟨t1,t2,t3,t4,t5,t6,t7,t8,t9,t10,t11,t12,t13,t14⟩,A1,H⟩:=bnd H
 dsimp only at H
 have HC2:=C H
 clear H
 go_enter func28,ntmps28
 go_upto_region 2 with(first|((with_reducible refine gate_dst (N:=2) rfl ?_);refine Fix.be 2 #[L A0_0 l0_0.length c0_0,V I a0_1,V I a0_2,V I a0_3,O a0_4,V I a0_5,O a0_6,V I a0_7,V I a0_8,L A0_9 l0_9.length c0_9,L A0_10 l0_10.length c0_10,V I a0_11,O a0_12,V I a0_13] 31 ?_;intro gb1 hg w2 BK1 hb;have GW1:=gE (w:=w) hg;replace HB:=eB hb;clear hb hg)|((with_reducible refine gate_dst (N:=3) rfl ?_);refine Fix.be 3 #[V I a1_0,V I a1_1,V I a1_2,V I a1_3] 55 ?_;intro gb2 hg w3 BK2 hb;have GW2:=gE (w:=w) hg;have n0:=nL hg BK1;have n1:=nG hg BK1;replace BK1:=eK BK1 hb;replace HB:=eB hb;clear hb hg)|((with_reducible refine gate_dst (N:=4) rfl ?_);refine Fix.be 4 #[L none 0 0,V I 0,V I 0,V I 0,O false,V I 0,O false,V I 0,V I 0,L none 0 0,L none 0 0,V I 0,O false,V I 0] 31 ?_;intro gb3 hg w4 BK3 hb;have GW3:=gE (w:=w) hg;have n2:=nL hg BK1;have n3:=nG hg BK1;have n4:=nL hg BK2;have n5:=nG hg BK2;replace BK1:=eK BK1 hb;replace BK2:=eK BK2 hb;replace HB:=eB hb;clear hb hg;have:=n0.out;have:=n1.out;have:=n2.out;have:=n3.out;have h_:=d14 BK1.out;(repeat(obtain⟨_,h_⟩:=h_)))|((with_reducible refine F (f:=26) rfl ?_);refine gl 26 (some 12) func26 #[G #[L A0_0 l0_0.length c0_0,V I a0_1,V I a0_2,V I a0_3,O a0_4,V I a0_5,O a0_6,V I a0_7,V I a0_8,L A0_9 l0_9.length c0_9,L A0_10 l0_10.length c0_10,V I a0_11,O a0_12,V I a0_13]] ?_;(with_reducible refine(impl_copyMachine.calls _ _ l0_0 a0_1 a0_2 a0_3 a0_4 a0_5 a0_6 a0_7 a0_8 _ _ l0_9 _ _ l0_10 a0_11 a0_12 a0_13 t1 t2 t3 t4 t5 t6 t7 t8 t9 t10 t11 t12 t13 t14 _ ?side1 HC1_0.out ?side3 HC1_9.out ?side5 HC1_10.out A1.out).mono ?_);(case side1=>exact uZ HR1_0);(case side3=>exact uZ HR1_9);(case side5=>exact uZ HR1_10);rintro e w5 ⟨v1,v2,v3,rfl,ho1,ho2,ho3,hb⟩;refine⟨_,rfl,?_⟩;have HO1:=lR ho1;have HO2:=lR ho2;have HO3:=lR ho3;replace BK1:=eK BK1 hb;replace BK2:=eK BK2 hb;replace BK3:=eK BK3 hb;replace HB:=eB hb;clear hb ho1 ho2 ho3)|((with_reducible refine gate_dst (N:=6) rfl ?_);refine Fix.be 6 #[L none 0 0,V I 0,V I 0,V I 0,O false,V I 0,O false,V I 0,V I 0,L none 0 0,L none 0 0,V I 0,O false,V I 0] 31 ?_;intro gb4 hg w6 BK4 hb;have GW4:=gE (w:=w) hg;have n6:=nL hg BK1;have n7:=nG hg BK1;have n8:=nL hg BK2;have n9:=nG hg BK2;have n10:=nL hg BK3;have n11:=nG hg BK3;replace HO1:=eR HO1 hb;replace HO2:=eR HO2 hb;replace HO3:=eR HO3 hb;replace BK1:=eK BK1 hb;replace BK2:=eK BK2 hb;replace BK3:=eK BK3 hb;replace HB:=eB hb;clear hb hg;obtain⟨Ao1,co1,rfl⟩:=U HO1.out;have:=n7.out;have:=n6.out;have:=n9.out;have:=n8.out;have:=n11.out;have:=n10.out;have h_:=d14 BK4.out;(repeat(obtain⟨_,h_⟩:=h_));obtain⟨Ao2,co2,rfl⟩:=U HO2.out;obtain⟨Ao3,co3,rfl⟩:=U HO3.out))
 (try simp only[Act.put,List.setIfInBounds_toArray,List.set_cons_zero,List.set_cons_succ])
 go_cut [20] (fun v20 wc=>∃(kq:Nat) (x1_3:Bool),v20=O x1_3∧D (impl_DoAct.j0 kq x1_3 l0_0 a0_1 a0_2 a0_3 a0_4 a0_5 a0_6 a0_7 a0_8 l0_9 l0_10 a0_11 a0_12 a0_13 a1_0 a1_1 a1_2 a1_3 t1 t2 t3 t4 t5 t6 t7 t8 t9 t10 t11 t12 t13 t14=some (r1,r2,r3,r4,r5,r6,r7,r8,r9,r10,r11,r12,r13,r14,r15))∧D (kq≤k)∧D (Kd.R k26 26 wc w.heap.size (fun _=>True) (L Ao1 t1.length co1) t1)∧D (Kd.R (Kd.int .i64) 3 wc w.heap.size (fun k_=>some k_≠Fix.o Ao3 t11.length co3) (L Ao2 t10.length co2) t10)∧D (Kd.R (Kd.int .i64) 3 wc w.heap.size (fun k_=>some k_≠Fix.o Ao2 t10.length co2) (L Ao3 t11.length co3) t11)∧D (wc.heap[gb1]? =some (.cells #[(L A0_0 l0_0.length c0_0),V I a0_1,V I a0_2,V I a0_3,O a0_4,V I a0_5,O a0_6,V I a0_7,V I a0_8,(L A0_9 l0_9.length c0_9),(L A0_10 l0_10.length c0_10),V I a0_11,O a0_12,V I a0_13] 31 (0,0)))∧D (wc.heap[gb2]? =some (.cells #[V I a1_0,V I a1_1,V I a1_2,V I a1_3] 55 (0,0)))∧D (wc.heap[gb3]? =some (.cells #[(L none 0 0),V I 0,V I 0,V I 0,O false,V I 0,O false,V I 0,V I 0,(L none 0 0),(L none 0 0),V I 0,O false,V I 0] 31 (0,0)))∧D (wc.heap[gb4]? =some (.cells #[(L Ao1 t1.length co1),V I t2,V I t3,V I t4,O t5,V I t6,O t7,V I t8,V I t9,(L Ao2 t10.length co2),(L Ao3 t11.length co3),V I t12,O t13,V I t14] 31 (0,0)))∧D (Below w.heap.size w wc))
 case first=>
  have H:=HC2.out
  clear HC2
  obtain⟨t15,A2,H⟩:=bnd H
  by_cases c1:t15=true
  rotate_left
  ·obtain rfl:=nt c1
   replace H:=nf H
   have H':=C H
   clear H
   have:=n0.out
   have:=n1.out
   have:=n2.out
   have:=n3.out
   have:=n6.out
   have:=n7.out
   have h_:=d14 BK1.out;(repeat(obtain⟨_,h_⟩:=h_))
   exact impl_DoAct.W2
  subst c1
  rw[if_pos rfl]at H
  obtain⟨t16,A3,H⟩:=bnd H
  have H':=C H
  clear H
  have:=n0.out
  have:=n1.out
  have:=n2.out
  have:=n3.out
  have:=n6.out
  have:=n7.out
  have h_:=d14 BK1.out;(repeat(obtain⟨_,h_⟩:=h_))
  exact impl_DoAct.W1
 case rest=>
  clear HC2
  obtain⟨kq,x1_3,rfl,HA,HJ1,HO_1,HO_2,HO_3,BK1,BK2,BK3,BK4,HB⟩:=hcut
  cases kq with
  |zero=>exact absurd HA.out (by simp[impl_DoAct.j0])
  |succ kj3=>
   have H:=HA.out
   clear HA
   simp only[impl_DoAct.j0]at H
   by_cases c1:x1_3=true
   ·subst c1
    rw[if_pos rfl]at H
    simp only[Option.some.injEq,Prod.mk.injEq]at H
    obtain⟨rfl,rfl,rfl,rfl,rfl,rfl,rfl,rfl,rfl,rfl,rfl,rfl,rfl,rfl,rfl⟩:=H
    have:=n7.out
    have:=n6.out
    have:=n9.out
    have:=n8.out
    have:=n11.out
    have:=n10.out
    have h_:=d14 BK4.out;(repeat(obtain⟨_,h_⟩:=h_))
    have:=n3.out
    have:=n2.out
    have:=n5.out
    have:=n4.out
    have h_:=d14 BK3.out;(repeat(obtain⟨_,h_⟩:=h_))
    exact impl_DoAct.W3
   obtain rfl:=nt c1
   replace H:=nf H
   by_cases c2:a1_0=1
   ·exact absurd (hA.out.symm.trans c2) (by decide)
   rw[if_neg c2]at H
   have c2b0:(a1_0==1)=false:=beq_eq_false_iff_ne.mpr c2
   have c2b1:(a1_0 !=1)=true:=bne_iff_ne.mpr c2
   by_cases c3:a1_0=2
   rotate_left
   ·exact absurd hA.out c3
   rw[if_pos c3]at H
   have c3b0:(a1_0==2)=true:=beq_iff_eq.mpr c3
   have c3b1:(a1_0 !=2)=false:=bne_eq_false_iff_eq.mpr c3
   clear c3
   obtain⟨⟨t15,t16,t17,t18,t19,t20,t21,t22⟩,A2,H⟩:=bnd H
   dsimp only at H
   have HC3:=C H
   clear H
   have:=n1.out
   have:=n0.out
   have:=n4.out
   have:=n5.out
   have:=n8.out
   have:=n9.out
   obtain⟨_,_,_,_,_,_,_,_⟩:=d4 BK2.out
   have:=n2.out
   have:=n3.out
   have:=n6.out
   have:=n7.out
   have h_:=d14 BK1.out;(repeat(obtain⟨_,h_⟩:=h_))
   go_upto_region 11 with(first|((with_reducible refine F (f:=53) rfl ?_);refine gl 53 (some 43) func53 #[L A0_0 l0_0.length c0_0] ?_;(with_reducible refine(impl_TakeJob.calls kj3 _ _ l0_0 t15 t16 t17 t18 t19 t20 t21 t22 _ ?side1 HC1_0.out A2.out).mono ?_);(case side1=>exact uZ HR1_0);rintro e w7 ⟨v4,rfl,ho1,hb⟩;refine⟨_,rfl,?_⟩;have HO4:=C (Kd.R_lower (Kd.R_new' ho1 (Kd.R_lt (uR HO_1.out))) (below_size uB));replace HO_1:=C (Kd.R_elder' (uR HO_1.out) (Kd.R_base ho1) hb);replace HO_2:=eR HO_2 hb;replace HO_3:=eR HO_3 hb;replace BK1:=eK BK1 hb;replace BK2:=eK BK2 hb;replace BK3:=eK BK3 hb;replace BK4:=eK BK4 hb;replace HB:=eB hb;clear hb ho1)|((with_reducible refine gate_dst (N:=9) rfl ?_);refine Fix.be 9 #[V I 0,V I 0,V I 0,O false,V I 0,O false] 26 ?_;intro gb5 hg w8 BK5 hb;have GW5:=gE (w:=w) hg;have n12:=nL hg BK1;have n13:=nG hg BK1;have n14:=nL hg BK2;have n15:=nG hg BK2;have n16:=nL hg BK3;have n17:=nG hg BK3;have n18:=nL hg BK4;have n19:=nG hg BK4;replace HO_1:=C (T (Kd.R_elderB (uR HO_1.out) gb5 (Nat.le_of_eq hg.symm)) hb);replace HO_2:=eR HO_2 hb;replace HO_3:=eR HO_3 hb;replace HO4:=C (T (Kd.R_elderB (uR HO4.out) gb5 (Nat.le_of_eq hg.symm)) hb);replace BK1:=eK BK1 hb;replace BK2:=eK BK2 hb;replace BK3:=eK BK3 hb;replace BK4:=eK BK4 hb;replace HB:=eB hb;clear hb hg;have:=n13.out;have:=n12.out;have:=n15.out;have:=n14.out;have:=n17.out;have:=n16.out;have:=n19.out;have:=n18.out;obtain⟨_,_,_,_,_,_,_,_,_,_,_,_⟩:=d6 BK5.out))
   (try simp only[Act.put,List.setIfInBounds_toArray,List.set_cons_zero,List.set_cons_succ])
   go_cut [59] (fun v59 wc=>∃(kq:Nat) (x2_75:Bool),v59=O x2_75∧D (impl_DoAct.j1 kq t15 x2_75 l0_0 a0_1 a0_2 a0_3 a0_4 a0_5 a0_6 a0_7 a0_8 l0_9 l0_10 a0_11 a0_12 a0_13 t1 t2 t3 t4 t5 t6 t7 t8 t9 t10 t11 t12 t13 t14 t16 t17 t18 t19 t20 t21=some (r1,r2,r3,r4,r5,r6,r7,r8,r9,r10,r11,r12,r13,r14,r15))∧D (kq≤kj3)∧D (Kd.R k26 26 wc w.heap.size (fun k_=>some k_≠Fix.o Ao1 t1.length co1∧k_≠gb5) v4 t15)∧D (Kd.R k26 26 wc w.heap.size (fun k_=>qm k_ v4∧k_≠gb5) (L Ao1 t1.length co1) t1)∧D (Kd.R (Kd.int .i64) 3 wc w.heap.size (fun k_=>some k_≠Fix.o Ao3 t11.length co3) (L Ao2 t10.length co2) t10)∧D (Kd.R (Kd.int .i64) 3 wc w.heap.size (fun k_=>some k_≠Fix.o Ao2 t10.length co2) (L Ao3 t11.length co3) t11)∧D (wc.heap[gb1]? =some (.cells #[(L A0_0 l0_0.length c0_0),V I a0_1,V I a0_2,V I a0_3,O a0_4,V I a0_5,O a0_6,V I a0_7,V I a0_8,(L A0_9 l0_9.length c0_9),(L A0_10 l0_10.length c0_10),V I a0_11,O a0_12,V I a0_13] 31 (0,0)))∧D (wc.heap[gb2]? =some (.cells #[V I a1_0,V I a1_1,V I a1_2,V I a1_3] 55 (0,0)))∧D (wc.heap[gb3]? =some (.cells #[(L none 0 0),V I 0,V I 0,V I 0,O false,V I 0,O false,V I 0,V I 0,(L none 0 0),(L none 0 0),V I 0,O false,V I 0] 31 (0,0)))∧D (wc.heap[gb4]? =some (.cells #[(L Ao1 t1.length co1),V I t2,V I t3,V I t4,O t5,V I t6,O t7,V I t8,V I t9,(L Ao2 t10.length co2),(L Ao3 t11.length co3),V I t12,O t13,V I t14] 31 (0,0)))∧D (wc.heap[gb5]? =some (.cells #[V I t16,V I t17,V I t18,O t19,V I t20,O t21] 26 (0,0)))∧D (Below w.heap.size w wc))
   case first=>
    have H:=HC3.out
    clear HC3
    obtain⟨t23,A3,H⟩:=bnd H
    by_cases c4:t23=true
    ·subst c4
     rw[if_pos rfl]at H
     by_cases c5:t22=true
     rotate_left
     ·obtain rfl:=nt c5
      replace H:=nf H
      have H':=C H
      clear H
      have:=n0.out
      have:=n1.out
      have:=n2.out
      have:=n3.out
      have:=n6.out
      have:=n7.out
      have:=n12.out
      have:=n13.out
      have h_:=d14 BK1.out;(repeat(obtain⟨_,h_⟩:=h_))
      exact impl_DoAct.W2
     subst c5
     rw[if_pos rfl]at H
     obtain⟨t24,A4,H⟩:=bnd H
     have H':=C H
     clear H
     have:=n0.out
     have:=n1.out
     have:=n2.out
     have:=n3.out
     have:=n6.out
     have:=n7.out
     have:=n12.out
     have:=n13.out
     have h_:=d14 BK1.out;(repeat(obtain⟨_,h_⟩:=h_))
     exact impl_DoAct.W1
    obtain rfl:=nt c4
    replace H:=nf H
    have H':=C H
    clear H
    have:=n0.out
    have:=n1.out
    have:=n2.out
    have:=n3.out
    have:=n6.out
    have:=n7.out
    have:=n12.out
    have:=n13.out
    have h_:=d14 BK1.out;(repeat(obtain⟨_,h_⟩:=h_))
    go_wp2_with (first|((with_reducible refine F (f:=54) rfl ?_);refine gl 54 (some 49) func54 #[G #[V I a0_7,V I a0_8,L A0_9 l0_9.length c0_9,L A0_10 l0_10.length c0_10,V I a0_11,O a0_12]] ?_;(with_reducible refine(impl_IsDone.calls kj3 a0_7 a0_8 _ _ l0_9 _ _ l0_10 a0_11 a0_12 false _ ?side1 HC1_9.out ?side3 HC1_10.out A3.out).mono ?_);(case side1=>exact Z HR1_9.out uB);(case side3=>exact Z HR1_10.out uB);rintro e w9 ⟨rfl,hb⟩;refine⟨_,rfl,?_⟩;replace HO_1:=C (T (X (fR (X HO_1.out (fun k_ hk=>(⟨hk,hk.2⟩:_∧k_≠gb5)))) (fun _ h_=>h_.1)) hb);replace HO_2:=C (T (X (fR (Y HO_2.out BK5.out (by decide))) (fun _ h_=>h_.1)) hb);replace HO_3:=C (T (X (fR (Y HO_3.out BK5.out (by decide))) (fun _ h_=>h_.1)) hb);replace HO4:=C (T (X (fR (X HO4.out (fun k_ hk=>(⟨hk,hk.2⟩:_∧k_≠gb5)))) (fun _ h_=>h_.1)) hb);replace BK1:=eK BK1 hb;replace BK2:=eK BK2 hb;replace BK3:=eK BK3 hb;replace BK4:=eK BK4 hb;replace BK5:=C (blk_below (g:=gb5) (o:=.cells #[V I t16,V I t17,V I t18,O t19,V I t20,O t21] 26 (0,0)) (bK BK5.out) hb);replace HB:=eB hb;clear hb))
    go_meet
    case rel=>exact⟨_,(true),rS,H',⟨by have:=HJ1.out;first|omega|exact Nat.le_refl _⟩,⟨X (fR HO4.out) (fun _ hk=>⟨hk.1.2,hk.2⟩)⟩,⟨X (fR HO_1.out) (fun _ hk=>⟨hk.1.2,hk.2⟩)⟩,⟨fR HO_2.out⟩,⟨fR HO_3.out⟩,⟨bK BK1.out⟩,⟨bK BK2.out⟩,⟨bK BK3.out⟩,⟨bK BK4.out⟩,⟨bK BK5.out⟩,⟨uB⟩⟩
   case rest=>
    clear HC3
    obtain⟨kq,x2_75,rfl,HA,HJ2,HO_4,HO_1,HO_2,HO_3,BK1,BK2,BK3,BK4,BK5,HB⟩:=hcut
    cases kq with
    |zero=>exact absurd HA.out (by simp[impl_DoAct.j1])
    |succ kj75=>
     have H:=HA.out
     clear HA
     simp only[impl_DoAct.j1]at H
     by_cases c4:x2_75=true
     ·subst c4
      rw[if_pos rfl]at H
      simp only[Option.some.injEq,Prod.mk.injEq]at H
      obtain⟨rfl,rfl,rfl,rfl,rfl,rfl,rfl,rfl,rfl,rfl,rfl,rfl,rfl,rfl,rfl⟩:=H
      have:=n7.out
      have:=n6.out
      have:=n9.out
      have:=n8.out
      have:=n11.out
      have:=n10.out
      have:=n18.out
      have:=n19.out
      have h_:=d14 BK4.out;(repeat(obtain⟨_,h_⟩:=h_))
      have:=n3.out
      have:=n2.out
      have:=n5.out
      have:=n4.out
      have:=n16.out
      have:=n17.out
      have h_:=d14 BK3.out;(repeat(obtain⟨_,h_⟩:=h_))
      exact impl_DoAct.W3
     obtain rfl:=nt c4
     replace H:=nf H
     obtain⟨ji1,hji1⟩:∃j_:Int,(mn 100000 (wrap64 (a0_13+(l0_10.length:Int))))=j_:=⟨_,rfl⟩
     replace H:((impl_JobSheets.f kj75 t16 t17 t18 t19 t20 t21).bind fun t23=>((impl_NewLine.f t23).bind fun bt361=>(some (t15,t16,t17,t18,t19,t20,t21,bt361.1,bt361.2.1,bt361.2.2.1,bt361.2.2.2.1,bt361.2.2.2.2.1,bt361.2.2.2.2.2.1,ji1,t16))))=some (r1,r2,r3,r4,r5,r6,r7,r8,r9,r10,r11,r12,r13,r14,r15):=by first|(rw[hji1]at H;exact H)|(simp only[hji1]at H ⊢;exact H)
     have hji1_:(if(wrap64 (a0_13+(l0_10.length:Int)))<100000 then(wrap64 (a0_13+(l0_10.length:Int))) else 100000)=ji1:=hji1
     obtain⟨t23,A3,H⟩:=bnd H
     obtain⟨⟨t24,t25,t26,t27,t28,t29,t30⟩,A4,H⟩:=bnd H
     dsimp only at H
     simp only[Option.some.injEq,Prod.mk.injEq]at H
     obtain⟨rfl,rfl,rfl,rfl,rfl,rfl,rfl,rfl,rfl,rfl,rfl,rfl,rfl,rfl,rfl⟩:=H
     have:=n0.out
     have:=n1.out
     have:=n2.out
     have:=n3.out
     have:=n6.out
     have:=n7.out
     have:=n12.out
     have:=n13.out
     have h_:=d14 BK1.out;(repeat(obtain⟨_,h_⟩:=h_))
     have:=n9.out
     have:=n8.out
     have:=n11.out
     have:=n10.out
     have:=n18.out
     have:=n19.out
     have h_:=d14 BK4.out;(repeat(obtain⟨_,h_⟩:=h_))
     try go_wp2
     obtain⟨w9,hw⟩:∃w_,w_=wc.setCell ⟨gb4,13,none⟩ (V I ji1):=⟨_,rfl⟩
     (try rw[←hw])
     replace HO_4:=wR hw (Y HO_4.out BK4.out (by decide))
     replace HO_1:=wR hw (Y HO_1.out BK4.out (by decide))
     replace HO_2:=wR hw (Y HO_2.out BK4.out (by decide))
     replace HO_3:=wR hw (Y HO_3.out BK4.out (by decide))
     replace BK1:=wK hw BK1
     replace BK2:=wK hw BK2
     replace BK3:=wK hw BK3
     replace BK4:D (w9.heap[gb4]? =some (.cells #[L Ao1 t1.length co1,V I t2,V I t3,V I t4,O t5,V I t6,O t7,V I t8,V I t9,L Ao2 t10.length co2,L Ao3 t11.length co3,V I t12,O t13,V I ji1] 31 (0,0))):=⟨(by rw[hw];exact(bK BK4.out))⟩
     replace BK5:=wK hw BK5
     replace HB:=wB hw
     clear hw
     replace HO_4:=dR HO_4
     replace HO_1:=dR HO_1
     replace HO_2:=dR HO_2
     replace HO_3:=dR HO_3
     replace BK1:=dK BK1
     replace BK2:=dK BK2
     replace BK3:=dK BK3
     replace BK4:=dK BK4
     replace BK5:=dK BK5
     replace HB:=dB HB
     obtain⟨Ao4,co4,eo4⟩:=U HO_4.out
     (first|subst eo4|(injection eo4 with f1_ f2_ f3_;have f4_:=f1_.symm;have f5_:=f3_.symm;clear f1_ f2_ f3_;subst f4_;subst f5_))
     refine start_ (n:=6) (S:=fun w'=>cl6 w' gb5 (V I t16) (V I t17) (V I t18) (O t19) (V I t20) (O t21)) (ds:= []) #[false,false,false,false,false,false] (by kernel_rfl) rfl rfl hh (fun hHeld=> ?_)
     generalize w9.drew=w10 at HO_4 HO_1 HO_2 HO_3 BK1 BK2 BK3 BK4 BK5 HB hHeld ⊢
     refine pu 0 (some 70) ?_
     refine pu 2 (some 72) ?_
     refine tu 1 (some 71) hHeld ?_
     refine ou 3 (none) (fun K hK=> ?_)
     have hs1:w10.cell? ⟨gb4,0,none⟩=some (L Ao1 t1.length co1):=(blk_cell BK4.out 0).trans rfl
     have hfs1:=blk_frozen BK4.out 0
     have hns1_0:=n6.out
     have hns1_1:=n8.out
     have hns1_2:=n10.out
     have hns1_4:=n19.out
     have hms1_0:=n7.out
     have hms1_1:=n9.out
     have hms1_2:=n11.out
     have hms1_4:=n18.out
     refine skip_ (w1:= ?_) (by rfl) rfl ?_ ?_
     rotate_left
     ·go_simp
      rfl
     refine hK.out _ _ (cs6 (fun _ _=>cf1 n19.out) hHeld) (fun hHeld=> ?_)
     clear hK K
     refine pu 4 (some 73) ?_
     refine ou 5 (none) (fun K hK=> ?_)
     have hs2:w10.cell? ⟨gb4,1,none⟩=some (V I t2):=(blk_cell BK4.out 1).trans rfl
     have hfs2:=blk_frozen BK4.out 1
     have hns2_0:=n6.out
     have hns2_1:=n8.out
     have hns2_2:=n10.out
     have hns2_4:=n19.out
     have hms2_0:=n7.out
     have hms2_1:=n9.out
     have hms2_2:=n11.out
     have hms2_4:=n18.out
     have hs3:w10.cell? ⟨gb4,2,none⟩=some (V I t3):=(blk_cell BK4.out 2).trans rfl
     have hfs3:=blk_frozen BK4.out 2
     have hns3_0:=n6.out
     have hns3_1:=n8.out
     have hns3_2:=n10.out
     have hns3_4:=n19.out
     have hms3_0:=n7.out
     have hms3_1:=n9.out
     have hms3_2:=n11.out
     have hms3_4:=n18.out
     have hs4:w10.cell? ⟨gb4,3,none⟩=some (V I t4):=(blk_cell BK4.out 3).trans rfl
     have hfs4:=blk_frozen BK4.out 3
     have hns4_0:=n6.out
     have hns4_1:=n8.out
     have hns4_2:=n10.out
     have hns4_4:=n19.out
     have hms4_0:=n7.out
     have hms4_1:=n9.out
     have hms4_2:=n11.out
     have hms4_4:=n18.out
     have hs5:w10.cell? ⟨gb4,4,none⟩=some (O t5):=(blk_cell BK4.out 4).trans rfl
     have hfs5:=blk_frozen BK4.out 4
     have hns5_0:=n6.out
     have hns5_1:=n8.out
     have hns5_2:=n10.out
     have hns5_4:=n19.out
     have hms5_0:=n7.out
     have hms5_1:=n9.out
     have hms5_2:=n11.out
     have hms5_4:=n18.out
     have hs6:w10.cell? ⟨gb4,5,none⟩=some (V I t6):=(blk_cell BK4.out 5).trans rfl
     have hfs6:=blk_frozen BK4.out 5
     have hns6_0:=n6.out
     have hns6_1:=n8.out
     have hns6_2:=n10.out
     have hns6_4:=n19.out
     have hms6_0:=n7.out
     have hms6_1:=n9.out
     have hms6_2:=n11.out
     have hms6_4:=n18.out
     have hs7:w10.cell? ⟨gb4,6,none⟩=some (O t7):=(blk_cell BK4.out 6).trans rfl
     have hfs7:=blk_frozen BK4.out 6
     have hns7_0:=n6.out
     have hns7_1:=n8.out
     have hns7_2:=n10.out
     have hns7_4:=n19.out
     have hms7_0:=n7.out
     have hms7_1:=n9.out
     have hms7_2:=n11.out
     have hms7_4:=n18.out
     refine skip_ (w1:= ?_) (by rfl) rfl ?_ ?_
     rotate_left
     ·go_simp
      rfl
     refine hK.out _ _ (cs6 (fun _ _=>cf6 n19.out) hHeld) (fun hHeld=> ?_)
     clear hK K
     refine done_ (by kernel_rfl) ?_
     have:=n15.out
     have:=n14.out
     have:=n17.out
     have:=n16.out
     obtain⟨_,_,_,_,_,_,_,_,_,_,_,_⟩:=d6 BK5.out
     try go_wp2_with (first|((with_reducible refine F (f:=49) rfl ?_);refine gl 49 (some 76) func49 #[G #[V I t16,V I t17,V I t18,O t19,V I t20,O t21]] ?_;(with_reducible refine(impl_JobSheets.calls kj75 t16 t17 t18 t19 t20 t21 t23 _ A3.out).mono ?_);rintro e w11 ⟨rfl,hb⟩;refine⟨_,rfl,?_⟩;replace HO_4:=C (T (X (fR (Y HO_4.out BK4.out (by decide))) (fun _ h_=>h_.1)) hb);replace HO_1:=C (T (X (fR (Y HO_1.out BK4.out (by decide))) (fun _ h_=>h_.1)) hb);replace HO_2:=C (T (X (fR (Y HO_2.out BK4.out (by decide))) (fun _ h_=>h_.1)) hb);replace HO_3:=C (T (X (fR (Y HO_3.out BK4.out (by decide))) (fun _ h_=>h_.1)) hb);replace BK1:=eK BK1 hb;replace BK2:=eK BK2 hb;replace BK3:=eK BK3 hb;replace BK4:=C (blk_below (g:=gb4) (o:=.cells #[L Ao4 t15.length co4,V I t16,V I t17,V I t18,O t19,V I t20,O t21,V I t8,V I t9,L Ao2 t10.length co2,L Ao3 t11.length co3,V I t12,O t13,V I ji1] 31 (0,0)) (bK BK4.out) hb);replace BK5:=eK BK5 hb;replace HB:=eB hb;clear hb)|((with_reducible refine F (f:=55) rfl ?_);refine gl 55 (some 77) func55 #[V I t23] ?_;(with_reducible refine(impl_NewLine.calls t23 t24 t25 t26 t27 t28 t29 t30 _ A4.out).mono ?_);rintro e w12 ⟨v5,v6,rfl,ho1,ho2,hb⟩;refine⟨_,rfl,?_⟩;have HO5:=C (Kd.R_lower (Kd.R_new' (Kd.R_new' ho1 (Kd.R_lt (uR HO_2.out))) (Kd.R_lt (uR HO_3.out))) (below_size uB));have HO6:=C (Kd.R_lower (Kd.R_new' (Kd.R_new' ho2 (Kd.R_lt (uR HO_2.out))) (Kd.R_lt (uR HO_3.out))) (below_size uB));replace HO_4:=eR HO_4 hb;replace HO_1:=eR HO_1 hb;replace HO_2:=C (X (Kd.R_told (Kd.R_told (Kd.R_old (uR HO_2.out) hb) (Kd.R_base ho1)) (Kd.R_base ho2)) (fun _ h_=>h_.1));replace HO_3:=C (X (Kd.R_told (Kd.R_told (Kd.R_old (uR HO_3.out) hb) (Kd.R_base ho1)) (Kd.R_base ho2)) (fun _ h_=>h_.1));replace BK1:=eK BK1 hb;replace BK2:=eK BK2 hb;replace BK3:=eK BK3 hb;replace BK4:=eK BK4 hb;replace BK5:=eK BK5 hb;replace HB:=eB hb;clear hb ho1 ho2;have h_:=d14 BK4.out;(repeat(obtain⟨_,h_⟩:=h_));obtain⟨Ao5,co5,rfl⟩:=U HO5.out;obtain⟨Ao6,co6,rfl⟩:=U HO6.out))
     obtain⟨w13,hw⟩:∃w_,w_=(((((w12.setCell ⟨gb4,7,none⟩ (V I t24)).setCell ⟨gb4,8,none⟩ (V I t25)).setCell ⟨gb4,9,none⟩ (L Ao5 t26.length co5)).setCell ⟨gb4,10,none⟩ (L Ao6 t27.length co6)).setCell ⟨gb4,11,none⟩ (V I t28)).setCell ⟨gb4,12,none⟩ (O t29):=⟨_,rfl⟩
     (try rw[←hw])
     replace HO_4:=wR hw (Y HO_4.out BK4.out (by decide))
     replace HO_1:=wR hw (Y HO_1.out BK4.out (by decide))
     replace HO_2:D (Kd.R _ _ _ _ (fun k_=>qn k_ Ao3 t11.length co3∧qn k_ Ao5 t26.length co5∧qn k_ Ao6 t27.length co6) _ _):=tR hw (Y HO_2.out BK4.out (by decide)) pj
     replace HO_3:D (Kd.R _ _ _ _ (fun k_=>qn k_ Ao2 t10.length co2∧qn k_ Ao5 t26.length co5∧qn k_ Ao6 t27.length co6) _ _):=tR hw (Y HO_3.out BK4.out (by decide)) pj
     replace HO5:D (Kd.R _ _ _ _ (fun k_=>qn k_ Ao2 t10.length co2∧qn k_ Ao3 t11.length co3∧qn k_ Ao6 t27.length co6) _ _):=tR hw (Y HO5.out BK4.out (by decide)) pj
     replace HO6:D (Kd.R _ _ _ _ (fun k_=>qn k_ Ao2 t10.length co2∧qn k_ Ao3 t11.length co3∧qn k_ Ao5 t26.length co5) _ _):=tR hw (Y HO6.out BK4.out (by decide)) pj
     replace BK1:=wK hw BK1
     replace BK2:=wK hw BK2
     replace BK3:=wK hw BK3
     replace BK4:D (w13.heap[gb4]? =some (.cells #[L Ao4 t15.length co4,V I t16,V I t17,V I t18,O t19,V I t20,O t21,V I t24,V I t25,L Ao5 t26.length co5,L Ao6 t27.length co6,V I t28,O t29,V I ji1] 31 (0,0))):=⟨(by rw[hw];exact(bK BK4.out))⟩
     replace BK5:=wK hw BK5
     replace HB:=wB hw
     clear hw
     replace HO_4:=dR HO_4
     replace HO_1:=dR HO_1
     replace HO_2:=dR HO_2
     replace HO_3:=dR HO_3
     replace HO5:=dR HO5
     replace HO6:=dR HO6
     replace BK1:=dK BK1
     replace BK2:=dK BK2
     replace BK3:=dK BK3
     replace BK4:=dK BK4
     replace BK5:=dK BK5
     replace HB:=dB HB
     refine start_ (n:=5) (S:=fun w'=>cr14 w' gb4 (L Ao4 t15.length co4) (V I t16) (V I t17) (V I t18) (O t19) (V I t20) (O t21) (V I t24) (V I t25) (L Ao5 t26.length co5) (L Ao6 t27.length co6) (V I t28) (O t29) (V I ji1) (cl6 w' gb5 (V I t16) (V I t17) (V I t18) (O t19) (V I t20) (O t21))) (ds:= []) #[false,false,false,false,false] (by kernel_rfl) rfl rfl hh (fun hHeld=> ?_)
     generalize w13.drew=w14 at HO_4 HO_1 HO_2 HO_3 HO5 HO6 BK1 BK2 BK3 BK4 BK5 HB hHeld ⊢
     refine pu 1 (some 82) ?_
     refine tu 0 (some 81) hHeld ?_
     refine tu 2 (some 83) hHeld ?_
     refine ou 3 (none) (fun K hK=> ?_)
     obtain⟨hs8,hs9,hs10,hs11,hs12,hs13,hs14,hs15,hs16,hs17,hs18,hs19,hs20,hs21,hfs8,hfs9,hfs10,hfs11,hfs12,hfs13,hfs14,hfs15,hfs16,hfs17,hfs18,hfs19,hfs20,hfs21⟩:=d14 BK3.out
     have hns8_0:=n2.out
     have hns8_1:=n4.out
     have hns8_3:=n11.out
     have hns8_4:=n17.out
     have hms8_0:=n3.out
     have hms8_1:=n5.out
     have hms8_3:=n10.out
     have hms8_4:=n16.out
     refine skip_ (w1:= ?_) (by rfl) rfl ?_ ?_
     rotate_left
     ·go_simp
      rfl
     refine hK.out _ _ ⟨(cf14 n11.out (hHeld.1)),(cf14 n11.out (hHeld.2.1)),(cf14 n11.out (hHeld.2.2.1)),(cf14 n11.out (hHeld.2.2.2.1)),(cf14 n11.out (hHeld.2.2.2.2.1)),(cf14 n11.out (hHeld.2.2.2.2.2.1)),(cf14 n11.out (hHeld.2.2.2.2.2.2.1)),(cf14 n11.out (hHeld.2.2.2.2.2.2.2.1)),(cf14 n11.out (hHeld.2.2.2.2.2.2.2.2.1)),(cf14 n11.out (hHeld.2.2.2.2.2.2.2.2.2.1)),(cf14 n11.out (hHeld.2.2.2.2.2.2.2.2.2.2.1)),(cf14 n11.out (hHeld.2.2.2.2.2.2.2.2.2.2.2.1)),(cf14 n11.out (hHeld.2.2.2.2.2.2.2.2.2.2.2.2.1)),(cf14 n11.out (hHeld.2.2.2.2.2.2.2.2.2.2.2.2.2.1)),(cf14 n17.out (hHeld.2.2.2.2.2.2.2.2.2.2.2.2.2.2.1)),(cf14 n17.out (hHeld.2.2.2.2.2.2.2.2.2.2.2.2.2.2.2.1)),(cf14 n17.out (hHeld.2.2.2.2.2.2.2.2.2.2.2.2.2.2.2.2.1)),(cf14 n17.out (hHeld.2.2.2.2.2.2.2.2.2.2.2.2.2.2.2.2.2.1)),(cf14 n17.out (hHeld.2.2.2.2.2.2.2.2.2.2.2.2.2.2.2.2.2.2.1)),(cf14 n17.out (hHeld.2.2.2.2.2.2.2.2.2.2.2.2.2.2.2.2.2.2.2))⟩ (fun hHeld=> ?_)
     clear hK K
     refine pu 4 (some 5) ?_
     refine done_ (by kernel_rfl) ?_
     try go_wp2
     refine bodyPost_ret (results_ct rfl _ _ gb3 31 #[L Ao4 t15.length co4,V I t16,V I t17,V I t18,O t19,V I t20,O t21,V I t24,V I t25,L Ao5 t26.length co5,L Ao6 t27.length co6,V I t28,O t29,V I ji1] (0,0) _ rfl (bK BK3.out) underlying31 rfl (by kernel_rfl)) rfl ?_
     exact⟨_,_,_,by first|rfl|(simp[errW_none,errW_some]<;>rfl)|(simp only[←hji1];first|rfl|(simp[errW_none,errW_some]<;>rfl))|(simp[*,errW_none,errW_some]<;>rfl),X (fR (Y HO_4.out BK3.out (by decide))) (fun _ hk=>trivial),Kd.Q_of_R (X (fR (Y HO5.out BK3.out (by decide))) (fun _ hk=>hk.1.2.2)),X (fR (Y HO6.out BK3.out (by decide))) (fun _ hk=>hk.1.2.2),uB⟩
end Go.Proofs.YtgdnlmfoghpeoaaGreatDoor.PFnExactRunScript
