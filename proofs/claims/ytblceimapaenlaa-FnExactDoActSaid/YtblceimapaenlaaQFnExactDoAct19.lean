/- Calls do what plain Lean functions say (FnExactDoAct). No condition. -/
import Derived.Test.YtblceimapaenlaaQFnExactDoAct0
import Derived.Test.YtblceimapaenlaaQFnExactDoAct2
import Derived.Test.YtblceimapaenlaaQFnExactDoAct3
import Derived.Test.YtblceimapaenlaaQFnExactDoAct10
import Derived.Test.YtblceimapaenlaaQFnExactDoAct11
import Derived.Test.YtblceimapaenlaaQFnExactDoAct17b
import Derived.Test.YtblceimapaenlaaQFnExactDoAct18
namespace Go.Proofs.Ytblceimapaenlaa.PFnExactDoAct
open Go.RowKit Go.Proofs.YtblceimapaenlaaW.PrintWords Go.Proofs.YtblceimapaenlaaW.PrintLast Go.Proofs.YtblceimapaenlaaW.PrintMore
open Try
open Fix (bK bnd cf14 cl14 cl4 cr14 d14 dB dK dQ dR eB eK eQ eR fQ fR gE gl gs hh lR nG nL nf nt nu oL ou pu qm qn rE rS si tQ tR tu uB uC uK uQ uR uZ wB wK wR)
open Go.Value renaming int→V,slice→L,bool→O,agg→G
open Go.IntKind renaming i64→I
open Go.Proofs.YtblceimapaenlaaW.PrintWords.Aside0 renaming mk→C
open Go.Proofs.YtblceimapaenlaaW.PrintWords renaming Aside0→D
open Go.Proofs.YtblceimapaenlaaW.PrintWords.Kd renaming R_mono→X,R_types→Y,R_below→T,R_slice→U
attribute [local go_sem] max2_int min2_int max_two min_two max_three min_three max_four min_four
attribute [local go_sem] Fix.isSome_setCell
set_option linter.unusedVariables false
set_option maxHeartbeats 40000000
set_option maxRecDepth 100000
set_option linter.unusedSimpArgs false
mutual
def laws_FnExactDoAct.j0:Nat→Int→Int→Bool→List (S24)→Int→Int→Int→Bool→Int→Bool→Int→Int→List Int→List Int→Int→Bool→Int→Int→Int→Int→Int→List (S33)→Int→Int→Int→Bool→Int→Bool→Int→Int→List Int→List Int→Int→Bool→Int→List (S33)→Int→Int→Int→Bool→Int→Bool→Int→Int→List Int→List Int→Int→Bool→Int→List (S33)→Int→Int→Int→Bool→Int→Bool→Int→Int→List Int→List Int→Int→Bool→Int→Option (Bool)
 |0,_,_,_,_,_,_,_,_,_,_,_,_,_,_,_,_,_,_,_,_,_,_,_,_,_,_,_,_,_,_,_,_,_,_,_,_,_,_,_,_,_,_,_,_,_,_,_,_,_,_,_,_,_,_,_,_,_,_,_,_,_,_,_=>none
 |k+1,x7,x10,x46,x832000,x832001,x832002,x832003,x832004,x832005,x832006,x832007,x832008,x832009,x832010,x832011,x832012,x832013,x833000,x833001,x833002,x833003,x880000,x880001,x880002,x880003,x880004,x880005,x880006,x880007,x880008,x880009,x880010,x880011,x880012,x880013,x901000,x901001,x901002,x901003,x901004,x901005,x901006,x901007,x901008,x901009,x901010,x901011,x901012,x901013,x927000,x927001,x927002,x927003,x927004,x927005,x927006,x927007,x927008,x927009,x927010,x927011,x927012,x927013=>if x46=true then(some false) else((laws_toMachine.f k x832000 x832001 x832002 x832003 x832004 x832005 x832006 x832007 x832008 x832009 x832010 x832011 x832012 x832013).bind fun bt928=>((laws_eqMachine.f k x901000 x901001 x901002 x901003 x901004 x901005 x901006 x901007 x901008 x901009 x901010 x901011 x901012 x901013 bt928.1 bt928.2.1 bt928.2.2.1 bt928.2.2.2.1 bt928.2.2.2.2.1 bt928.2.2.2.2.2.1 bt928.2.2.2.2.2.2.1 bt928.2.2.2.2.2.2.2.1 bt928.2.2.2.2.2.2.2.2.1 bt928.2.2.2.2.2.2.2.2.2.1 bt928.2.2.2.2.2.2.2.2.2.2.1 bt928.2.2.2.2.2.2.2.2.2.2.2.1 bt928.2.2.2.2.2.2.2.2.2.2.2.2.1 bt928.2.2.2.2.2.2.2.2.2.2.2.2.2).bind fun t948=>(if t948=true then((laws_markMachine.f k x901000 x901001 x901002 x901003 x901004 x901005 x901006 x901007 x901008 x901009 x901010 x901011 x901012 x901013 1).bind fun bt949=>(if bt949.1<0 then(laws_FnExactDoAct.j1 k x7 true x832000 x832001 x832002 x832003 x832004 x832005 x832006 x832007 x832008 x832009 x832010 x832011 x832012 x832013 x833000 x833001 x833002 x833003 x880000 x880001 x880002 x880003 x880004 x880005 x880006 x880007 x880008 x880009 x880010 x880011 x880012 x880013 x927000 x927001 x927002 x927003 x927004 x927005 x927006 x927007 x927008 x927009 x927010 x927011 x927012 x927013) else((laws_eqMachine.f k x927000 x927001 x927002 x927003 x927004 x927005 x927006 x927007 x927008 x927009 x927010 x927011 x927012 x927013 x880000 x880001 x880002 x880003 x880004 x880005 x880006 x880007 x880008 x880009 x880010 x880011 x880012 x880013).bind fun t953=>(if t953=true then(laws_FnExactDoAct.j1 k x7 (x10 !=x7) x832000 x832001 x832002 x832003 x832004 x832005 x832006 x832007 x832008 x832009 x832010 x832011 x832012 x832013 x833000 x833001 x833002 x833003 x880000 x880001 x880002 x880003 x880004 x880005 x880006 x880007 x880008 x880009 x880010 x880011 x880012 x880013 x927000 x927001 x927002 x927003 x927004 x927005 x927006 x927007 x927008 x927009 x927010 x927011 x927012 x927013) else(laws_FnExactDoAct.j1 k x7 true x832000 x832001 x832002 x832003 x832004 x832005 x832006 x832007 x832008 x832009 x832010 x832011 x832012 x832013 x833000 x833001 x833002 x833003 x880000 x880001 x880002 x880003 x880004 x880005 x880006 x880007 x880008 x880009 x880010 x880011 x880012 x880013 x927000 x927001 x927002 x927003 x927004 x927005 x927006 x927007 x927008 x927009 x927010 x927011 x927012 x927013))))) else(some false))))
def laws_FnExactDoAct.j1:Nat→Int→Bool→List (S24)→Int→Int→Int→Bool→Int→Bool→Int→Int→List Int→List Int→Int→Bool→Int→Int→Int→Int→Int→List (S33)→Int→Int→Int→Bool→Int→Bool→Int→Int→List Int→List Int→Int→Bool→Int→List (S33)→Int→Int→Int→Bool→Int→Bool→Int→Int→List Int→List Int→Int→Bool→Int→Option (Bool)
 |0,_,_,_,_,_,_,_,_,_,_,_,_,_,_,_,_,_,_,_,_,_,_,_,_,_,_,_,_,_,_,_,_,_,_,_,_,_,_,_,_,_,_,_,_,_,_,_,_=>none
 |k+1,x7,x67,x832000,x832001,x832002,x832003,x832004,x832005,x832006,x832007,x832008,x832009,x832010,x832011,x832012,x832013,x833000,x833001,x833002,x833003,x880000,x880001,x880002,x880003,x880004,x880005,x880006,x880007,x880008,x880009,x880010,x880011,x880012,x880013,x927000,x927001,x927002,x927003,x927004,x927005,x927006,x927007,x927008,x927009,x927010,x927011,x927012,x927013=>if x67=true then(some false) else((laws_markMachine.f k x927000 x927001 x927002 x927003 x927004 x927005 x927006 x927007 x927008 x927009 x927010 x927011 x927012 x927013 1).bind fun bt954=>((laws_heldMachine.f k bt954.2.1 x927001 x927002 x927003 x927004 x927005 x927006 x927007 x927008 bt954.2.2.1 bt954.2.2.2 x927011 x927012 x927013 1).bind fun t958=>(if t958<0 then(some false) else(if t958=bt954.1 then((laws_toMachine.f k x832000 x832001 x832002 x832003 x832004 x832005 x832006 x832007 x832008 x832009 x832010 x832011 x832012 x832013).bind fun bt959=>((laws_toAct.f x833000 x833001 x833002 x833003).bind fun bt979=>((impl_DoAct.f k bt959.1 bt959.2.1 bt959.2.2.1 bt959.2.2.2.1 bt959.2.2.2.2.1 bt959.2.2.2.2.2.1 bt959.2.2.2.2.2.2.1 bt959.2.2.2.2.2.2.2.1 bt959.2.2.2.2.2.2.2.2.1 bt959.2.2.2.2.2.2.2.2.2.1 bt959.2.2.2.2.2.2.2.2.2.2.1 bt959.2.2.2.2.2.2.2.2.2.2.2.1 bt959.2.2.2.2.2.2.2.2.2.2.2.2.1 bt959.2.2.2.2.2.2.2.2.2.2.2.2.2 bt979.1 bt979.2.1 bt979.2.2.1 bt979.2.2.2).bind fun bt983=>((laws_eqMachine.f k bt983.1 bt983.2.1 bt983.2.2.1 bt983.2.2.2.1 bt983.2.2.2.2.1 bt983.2.2.2.2.2.1 bt983.2.2.2.2.2.2.1 bt983.2.2.2.2.2.2.2.1 bt983.2.2.2.2.2.2.2.2.1 bt983.2.2.2.2.2.2.2.2.2.1 bt983.2.2.2.2.2.2.2.2.2.2.1 bt983.2.2.2.2.2.2.2.2.2.2.2.1 bt983.2.2.2.2.2.2.2.2.2.2.2.2.1 bt983.2.2.2.2.2.2.2.2.2.2.2.2.2.1 x880000 x880001 x880002 x880003 x880004 x880005 x880006 x880007 x880008 x880009 x880010 x880011 x880012 x880013).bind fun t1005=>(if t1005=true then(laws_FnExactDoAct.j2 k bt954.1 (bt983.2.2.2.2.2.2.2.2.2.2.2.2.2.2 !=x7) bt954.2.1 x927001 x927002 x927003 x927004 x927005 x927006 x927007 x927008 bt954.2.2.1 bt954.2.2.2 x927011 x927012 x927013) else(laws_FnExactDoAct.j2 k bt954.1 true bt954.2.1 x927001 x927002 x927003 x927004 x927005 x927006 x927007 x927008 bt954.2.2.1 bt954.2.2.2 x927011 x927012 x927013)))))) else(some false)))))
def laws_FnExactDoAct.j2:Nat→Int→Bool→List (S33)→Int→Int→Int→Bool→Int→Bool→Int→Int→List Int→List Int→Int→Bool→Int→Option (Bool)
 |0,_,_,_,_,_,_,_,_,_,_,_,_,_,_,_,_=>none
 |k+1,x12,x95,x927000,x927001,x927002,x927003,x927004,x927005,x927006,x927007,x927008,x927009,x927010,x927011,x927012,x927013=>if x95=true then(some false) else((laws_heldMachine.f k x927000 x927001 x927002 x927003 x927004 x927005 x927006 x927007 x927008 x927009 x927010 x927011 x927012 x927013 1).bind fun t1006=>(if t1006<0 then(some false) else(if t1006=x12 then(some true) else(some false))))
end
def laws_FnExactDoAct.f (k:Nat) (l0_0:List (S24)) (a0_1:Int) (a0_2:Int) (a0_3:Int) (a0_4:Bool) (a0_5:Int) (a0_6:Bool) (a0_7:Int) (a0_8:Int) (l0_9:List Int) (l0_10:List Int) (a0_11:Int) (a0_12:Bool) (a0_13:Int) (a1_0:Int) (a1_1:Int) (a1_2:Int) (a1_3:Int):Option (Bool):=(laws_szMachine.f l0_0 a0_1 a0_2 a0_3 a0_4 a0_5 a0_6 a0_7 a0_8 l0_9 l0_10 a0_11 a0_12 a0_13 1048576).bind fun t833=>(if t833<0 then(some true) else((laws_toMachine.f k l0_0 a0_1 a0_2 a0_3 a0_4 a0_5 a0_6 a0_7 a0_8 l0_9 l0_10 a0_11 a0_12 a0_13).bind fun bt834=>((laws_toAct.f a1_0 a1_1 a1_2 a1_3).bind fun bt854=>((spec_DoAct.f k bt834.1 bt834.2.1 bt834.2.2.1 bt834.2.2.2.1 bt834.2.2.2.2.1 bt834.2.2.2.2.2.1 bt834.2.2.2.2.2.2.1 bt834.2.2.2.2.2.2.2.1 bt834.2.2.2.2.2.2.2.2.1 bt834.2.2.2.2.2.2.2.2.2.1 bt834.2.2.2.2.2.2.2.2.2.2.1 bt834.2.2.2.2.2.2.2.2.2.2.2.1 bt834.2.2.2.2.2.2.2.2.2.2.2.2.1 bt834.2.2.2.2.2.2.2.2.2.2.2.2.2 bt854.1 bt854.2.1 bt854.2.2.1 bt854.2.2.2).bind fun bt858=>((laws_toMachine.f k l0_0 a0_1 a0_2 a0_3 a0_4 a0_5 a0_6 a0_7 a0_8 l0_9 l0_10 a0_11 a0_12 a0_13).bind fun bt880=>((laws_toAct.f a1_0 a1_1 a1_2 a1_3).bind fun bt901=>((impl_DoAct.f k bt880.1 bt880.2.1 bt880.2.2.1 bt880.2.2.2.1 bt880.2.2.2.2.1 bt880.2.2.2.2.2.1 bt880.2.2.2.2.2.2.1 bt880.2.2.2.2.2.2.2.1 bt880.2.2.2.2.2.2.2.2.1 bt880.2.2.2.2.2.2.2.2.2.1 bt880.2.2.2.2.2.2.2.2.2.2.1 bt880.2.2.2.2.2.2.2.2.2.2.2.1 bt880.2.2.2.2.2.2.2.2.2.2.2.2.1 bt880.2.2.2.2.2.2.2.2.2.2.2.2.2 bt901.1 bt901.2.1 bt901.2.2.1 bt901.2.2.2).bind fun bt905=>((laws_eqMachine.f k bt905.1 bt905.2.1 bt905.2.2.1 bt905.2.2.2.1 bt905.2.2.2.2.1 bt905.2.2.2.2.2.1 bt905.2.2.2.2.2.2.1 bt905.2.2.2.2.2.2.2.1 bt905.2.2.2.2.2.2.2.2.1 bt905.2.2.2.2.2.2.2.2.2.1 bt905.2.2.2.2.2.2.2.2.2.2.1 bt905.2.2.2.2.2.2.2.2.2.2.2.1 bt905.2.2.2.2.2.2.2.2.2.2.2.2.1 bt905.2.2.2.2.2.2.2.2.2.2.2.2.2.1 bt858.1 bt858.2.1 bt858.2.2.1 bt858.2.2.2.1 bt858.2.2.2.2.1 bt858.2.2.2.2.2.1 bt858.2.2.2.2.2.2.1 bt858.2.2.2.2.2.2.2.1 bt858.2.2.2.2.2.2.2.2.1 bt858.2.2.2.2.2.2.2.2.2.1 bt858.2.2.2.2.2.2.2.2.2.2.1 bt858.2.2.2.2.2.2.2.2.2.2.2.1 bt858.2.2.2.2.2.2.2.2.2.2.2.2.1 bt858.2.2.2.2.2.2.2.2.2.2.2.2.2.1).bind fun t927=>(if t927=true then(laws_FnExactDoAct.j0 k bt858.2.2.2.2.2.2.2.2.2.2.2.2.2.2 bt905.2.2.2.2.2.2.2.2.2.2.2.2.2.2 (bt905.2.2.2.2.2.2.2.2.2.2.2.2.2.2 !=bt858.2.2.2.2.2.2.2.2.2.2.2.2.2.2) l0_0 a0_1 a0_2 a0_3 a0_4 a0_5 a0_6 a0_7 a0_8 l0_9 l0_10 a0_11 a0_12 a0_13 a1_0 a1_1 a1_2 a1_3 bt858.1 bt858.2.1 bt858.2.2.1 bt858.2.2.2.1 bt858.2.2.2.2.1 bt858.2.2.2.2.2.1 bt858.2.2.2.2.2.2.1 bt858.2.2.2.2.2.2.2.1 bt858.2.2.2.2.2.2.2.2.1 bt858.2.2.2.2.2.2.2.2.2.1 bt858.2.2.2.2.2.2.2.2.2.2.1 bt858.2.2.2.2.2.2.2.2.2.2.2.1 bt858.2.2.2.2.2.2.2.2.2.2.2.2.1 bt858.2.2.2.2.2.2.2.2.2.2.2.2.2.1 bt880.1 bt880.2.1 bt880.2.2.1 bt880.2.2.2.1 bt880.2.2.2.2.1 bt880.2.2.2.2.2.1 bt880.2.2.2.2.2.2.1 bt880.2.2.2.2.2.2.2.1 bt880.2.2.2.2.2.2.2.2.1 bt880.2.2.2.2.2.2.2.2.2.1 bt880.2.2.2.2.2.2.2.2.2.2.1 bt880.2.2.2.2.2.2.2.2.2.2.2.1 bt880.2.2.2.2.2.2.2.2.2.2.2.2.1 bt880.2.2.2.2.2.2.2.2.2.2.2.2.2 bt905.1 bt905.2.1 bt905.2.2.1 bt905.2.2.2.1 bt905.2.2.2.2.1 bt905.2.2.2.2.2.1 bt905.2.2.2.2.2.2.1 bt905.2.2.2.2.2.2.2.1 bt905.2.2.2.2.2.2.2.2.1 bt905.2.2.2.2.2.2.2.2.2.1 bt905.2.2.2.2.2.2.2.2.2.2.1 bt905.2.2.2.2.2.2.2.2.2.2.2.1 bt905.2.2.2.2.2.2.2.2.2.2.2.2.1 bt905.2.2.2.2.2.2.2.2.2.2.2.2.2.1) else(laws_FnExactDoAct.j0 k bt858.2.2.2.2.2.2.2.2.2.2.2.2.2.2 bt905.2.2.2.2.2.2.2.2.2.2.2.2.2.2 true l0_0 a0_1 a0_2 a0_3 a0_4 a0_5 a0_6 a0_7 a0_8 l0_9 l0_10 a0_11 a0_12 a0_13 a1_0 a1_1 a1_2 a1_3 bt858.1 bt858.2.1 bt858.2.2.1 bt858.2.2.2.1 bt858.2.2.2.2.1 bt858.2.2.2.2.2.1 bt858.2.2.2.2.2.2.1 bt858.2.2.2.2.2.2.2.1 bt858.2.2.2.2.2.2.2.2.1 bt858.2.2.2.2.2.2.2.2.2.1 bt858.2.2.2.2.2.2.2.2.2.2.1 bt858.2.2.2.2.2.2.2.2.2.2.2.1 bt858.2.2.2.2.2.2.2.2.2.2.2.2.1 bt858.2.2.2.2.2.2.2.2.2.2.2.2.2.1 bt880.1 bt880.2.1 bt880.2.2.1 bt880.2.2.2.1 bt880.2.2.2.2.1 bt880.2.2.2.2.2.1 bt880.2.2.2.2.2.2.1 bt880.2.2.2.2.2.2.2.1 bt880.2.2.2.2.2.2.2.2.1 bt880.2.2.2.2.2.2.2.2.2.1 bt880.2.2.2.2.2.2.2.2.2.2.1 bt880.2.2.2.2.2.2.2.2.2.2.2.1 bt880.2.2.2.2.2.2.2.2.2.2.2.2.1 bt880.2.2.2.2.2.2.2.2.2.2.2.2.2 bt905.1 bt905.2.1 bt905.2.2.1 bt905.2.2.2.1 bt905.2.2.2.2.1 bt905.2.2.2.2.2.1 bt905.2.2.2.2.2.2.1 bt905.2.2.2.2.2.2.2.1 bt905.2.2.2.2.2.2.2.2.1 bt905.2.2.2.2.2.2.2.2.2.1 bt905.2.2.2.2.2.2.2.2.2.2.1 bt905.2.2.2.2.2.2.2.2.2.2.2.1 bt905.2.2.2.2.2.2.2.2.2.2.2.2.1 bt905.2.2.2.2.2.2.2.2.2.2.2.2.2.1))))))))))
def laws_FnExactDoAct.T5:Bool×List (List Nat×List Nat):=(true,[([],[]),([0],[0]),([],[]),([2,1],[2]),([1,3,3],[1,3]),([4],[4]),([5],[5]),([5],[5]),([],[]),([8,6,4,0,1,2,3,4,5,6,8],[6,8]),([7,9,0,1,2,3,4,5,6,7,8,9],[7])])
def laws_FnExactDoAct.B5:List Nat:= [0,1,0,7,15,31,63,63,0,383,1023]
theorem laws_FnExactDoAct.tab5:rtab .any (opsOf Try.f6 5)=laws_FnExactDoAct.T5:=by kernel_rfl
theorem laws_FnExactDoAct.bits5:waitsOk laws_FnExactDoAct.T5.2 laws_FnExactDoAct.B5=true:=by kernel_rfl
def laws_FnExactDoAct.T7:Bool×List (List Nat×List Nat):=(true,[([],[]),([],[]),([1],[1]),([0,2,2],[0,2]),([3],[3]),([4],[4]),([4],[4]),([],[]),([7,5,3,0,1,2,3,4,5,7],[5,7]),([6,8,0,1,2,3,4,5,6,7,8],[6])])
def laws_FnExactDoAct.B7:List Nat:= [0,0,2,7,15,31,31,0,191,511]
theorem laws_FnExactDoAct.tab7:rtab .any (opsOf Try.f6 7)=laws_FnExactDoAct.T7:=by kernel_rfl
theorem laws_FnExactDoAct.bits7:waitsOk laws_FnExactDoAct.T7.2 laws_FnExactDoAct.B7=true:=by kernel_rfl
def laws_FnExactDoAct.T24:Bool×List (List Nat×List Nat):=(true,[([],[]),([0],[0]),([],[]),([2,1],[2]),([1,3,3],[1,3]),([4],[4]),([5],[5]),([5],[5]),([],[]),([8,6,4,0,1,2,3,4,5,6,8],[6,8]),([7,9,0,1,2,3,4,5,6,7,8,9],[7])])
def laws_FnExactDoAct.B24:List Nat:= [0,1,0,7,15,31,63,63,0,383,1023]
theorem laws_FnExactDoAct.tab24:rtab .any (opsOf Try.f6 24)=laws_FnExactDoAct.T24:=by kernel_rfl
theorem laws_FnExactDoAct.bits24:waitsOk laws_FnExactDoAct.T24.2 laws_FnExactDoAct.B24=true:=by kernel_rfl
def laws_FnExactDoAct.cR : Nat → Code → Code
  | 0, c => c
  | n + 1, .seq _ b => laws_FnExactDoAct.cR n b
  | _, c => c
def laws_FnExactDoAct.cL : Code → Code
  | .seq a _ => a
  | c => c
def laws_FnExactDoAct.cS : Code → Code
  | .seq _ b => b
  | c => c
theorem laws_FnExactDoAct.B1 {k : Nat} {A0_0 : Option Addr} {c0_0 : Nat} {l0_0 : List S24} {a0_1 : Int} {a0_2 : Int} {a0_3 : Int} {a0_4 : Bool} {a0_5 : Int} {a0_6 : Bool} {a0_7 : Int} {a0_8 : Int} {A0_9 : Option Addr} {c0_9 : Nat} {l0_9 : List Int} {A0_10 : Option Addr} {c0_10 : Nat} {l0_10 : List Int} {a0_11 : Int} {a0_12 : Bool} {a0_13 : Int} {a1_0 : Int} {a1_1 : Int} {a1_2 : Int} {a1_3 : Int} {r : Bool} {w : World} (HR1_0 : Aside0 (k24.C w A0_0 l0_0.length l0_0)) (HC1_0 : Aside0 (l0_0.length ≤ c0_0)) (HR1_9 : Aside0 ((Kd.int IntKind.i64).C w A0_9 l0_9.length l0_9)) (HC1_9 : Aside0 (l0_9.length ≤ c0_9)) (HR1_10 : Aside0 ((Kd.int IntKind.i64).C w A0_10 l0_10.length l0_10)) (HC1_10 : Aside0 (l0_10.length ≤ c0_10)) (hT : Aside0 (r = true)) {t1 : Int} {t20 : List S33} {t21 : Int} {t22 : Int} {t23 : Int} {t24 : Bool} {t25 : Int} {t26 : Bool} {t27 : Int} {t28 : Int} {t29 : List Int} {t30 : List Int} {t31 : Int} {t32 : Bool} {t33 : Int} {t34 : Int} {t35 : List S33} {t36 : Int} {t37 : Int} {t38 : Int} {t39 : Bool} {t40 : Int} {t41 : Bool} {t42 : Int} {t43 : Int} {t44 : List Int} {t45 : List Int} {t46 : Int} {t47 : Bool} {t48 : Int} {t53 : List S33} {t54 : Int} {t55 : Int} {t56 : Int} {t57 : Bool} {t58 : Int} {t59 : Bool} {t60 : Int} {t61 : Int} {t62 : List Int} {t63 : List Int} {t64 : Int} {t65 : Bool} {t66 : Int} {t67 : Int} {gb1 : Nat} (GW1 : Aside0 (w.heap.size ≤ gb1)) (GE1 : Aside0 (w.heap.size ≤ gb1)) {gb2 : Nat} (GW2 : Aside0 (w.heap.size ≤ gb2)) (GE2 : Aside0 (w.heap.size ≤ gb2)) (n0 : Aside0 (gb1 ≠ gb2)) (n1 : Aside0 (gb2 ≠ gb1)) {gb3 : Nat} (GW3 : Aside0 (w.heap.size ≤ gb3)) (GE3 : Aside0 (w.heap.size ≤ gb3)) (n2 : Aside0 (gb1 ≠ gb3)) (n3 : Aside0 (gb3 ≠ gb1)) (n4 : Aside0 (gb2 ≠ gb3)) (n5 : Aside0 (gb3 ≠ gb2)) {Ao1 : Option Addr} {co1 : Nat} {Ao2 : Option Addr} {co2 : Nat} {Ao3 : Option Addr} {co3 : Nat} {gb4 : Nat} (GW4 : Aside0 (w.heap.size ≤ gb4)) (n6 : Aside0 (gb1 ≠ gb4)) (n7 : Aside0 (gb4 ≠ gb1)) (n8 : Aside0 (gb2 ≠ gb4)) (n9 : Aside0 (gb4 ≠ gb2)) (n10 : Aside0 (gb3 ≠ gb4)) (n11 : Aside0 (gb4 ≠ gb3)) {Ao4 : Option Addr} {co4 : Nat} {Ao5 : Option Addr} {co5 : Nat} {Ao6 : Option Addr} {co6 : Nat} {gb5 : Nat} (GW5 : Aside0 (w.heap.size ≤ gb5)) (GE5 : Aside0 (w.heap.size ≤ gb5)) (n12 : Aside0 (gb1 ≠ gb5)) (n13 : Aside0 (gb5 ≠ gb1)) (n14 : Aside0 (gb2 ≠ gb5)) (n15 : Aside0 (gb5 ≠ gb2)) (n16 : Aside0 (gb3 ≠ gb5)) (n17 : Aside0 (gb5 ≠ gb3)) (n18 : Aside0 (gb4 ≠ gb5)) (n19 : Aside0 (gb5 ≠ gb4)) {Ao7 : Option Addr} {co7 : Nat} {Ao8 : Option Addr} {co8 : Nat} {Ao9 : Option Addr} {co9 : Nat} {kj15 : Nat} (HJ1 : Aside0 (kj15 + 1 ≤ k)) {t83 : Int} {t84 : List S33} {t85 : List Int} {t86 : List Int} {KZ1 : Act → World → Prop} {KZ0 : Act → World → Prop} {wc : World} {u16 : Value} {u17 : Value} {u18 : Value} {u19 : Value} {u20 : Value} {u21 : Value} {u22 : Value} {u23 : Value} {u24 : Value} {u25 : Value} {u26 : Value} {u27 : Value} {u28 : Value} {u29 : Value} {u30 : Value} {u31 : Value} {u32 : Value} {u33 : Value} {u34 : Value} {u35 : Value} {u36 : Value} {u37 : Value} {u38 : Value} {u39 : Value} {u40 : Value} {u41 : Value} {u42 : Value} {u43 : Value} {u44 : Value} {u45 : Value} {u46 : Value} {u47 : Value} {u48 : Value} {u49 : Value} {u50 : Value} {u51 : Value} {u52 : Value} {u53 : Value} {u54 : Value} {u55 : Value} {u56 : Value} {u57 : Value} {u58 : Value} {u59 : Value} {u60 : Value} {u61 : Value} {u62 : Value} {u63 : Value} {u64 : Value} {u65 : Value} {u66 : Value} {u67 : Value} {u68 : Value} {u69 : Value} {u70 : Value} {u71 : Value} {u72 : Value} {u73 : Value} {u74 : Value} {u75 : Value} {u76 : Value} {u77 : Value} {u78 : Value} {u79 : Value} {u80 : Value} {u81 : Value} {u82 : Value} {u83 : Value} {u84 : Value} {u85 : Value} {u86 : Value} {u87 : Value} {u88 : Value} {u89 : Value} {u90 : Value} {u91 : Value} {u92 : Value} {u93 : Value} {u94 : Value} {u95 : Value} {u96 : Value} {u97 : Value} {u98 : Value} {u99 : Value} {u100 : Value} {u101 : Value} {u102 : Value} {u103 : Value} (hcut : ∃ kq x2_109, u67 = Value.bool x2_109 ∧ Aside0 (j1 kq t34 x2_109 l0_0 a0_1 a0_2 a0_3 a0_4 a0_5 a0_6 a0_7 a0_8 l0_9 l0_10 a0_11 a0_12 a0_13 a1_0 a1_1 a1_2 a1_3 t20 t21 t22 t23 t24 t25 t26 t27 t28 t29 t30 t31 t32 t33 t53 t54 t55 t56 t57 t58 t59 t60 t61 t62 t63 t64 t65 t66 = some r) ∧ Aside0 (kq ≤ kj15) ∧ Aside0 (k33.R 33 wc w.heap.size (fun k_ => some k_ ≠ Fix.o Ao4 t35.length co4 ∧ some k_ ≠ Fix.o Ao7 t53.length co7) (Value.slice Ao1 t20.length co1) t20) ∧ Aside0 ((Kd.int IntKind.i64).Q 3 wc w.heap.size (fun k_ => some k_ ≠ Fix.o Ao3 t30.length co3 ∧ some k_ ≠ Fix.o Ao5 t44.length co5 ∧ some k_ ≠ Fix.o Ao6 t45.length co6 ∧ some k_ ≠ Fix.o Ao8 t62.length co8 ∧ some k_ ≠ Fix.o Ao9 t63.length co9) (Value.slice Ao2 t29.length co2) t29) ∧ Aside0 ((Kd.int IntKind.i64).R 3 wc w.heap.size (fun k_ => some k_ ≠ Fix.o Ao2 t29.length co2 ∧ some k_ ≠ Fix.o Ao5 t44.length co5 ∧ some k_ ≠ Fix.o Ao6 t45.length co6 ∧ some k_ ≠ Fix.o Ao8 t62.length co8 ∧ some k_ ≠ Fix.o Ao9 t63.length co9) (Value.slice Ao3 t30.length co3) t30) ∧ Aside0 (k33.Q 33 wc w.heap.size (fun k_ => some k_ ≠ Fix.o Ao1 t20.length co1 ∧ some k_ ≠ Fix.o Ao7 t53.length co7) (Value.slice Ao4 t35.length co4) t84) ∧ Aside0 ((Kd.int IntKind.i64).Q 3 wc w.heap.size (fun k_ => some k_ ≠ Fix.o Ao2 t29.length co2 ∧ some k_ ≠ Fix.o Ao3 t30.length co3 ∧ some k_ ≠ Fix.o Ao6 t45.length co6 ∧ some k_ ≠ Fix.o Ao8 t62.length co8 ∧ some k_ ≠ Fix.o Ao9 t63.length co9) (Value.slice Ao5 t44.length co5) t85) ∧ Aside0 ((Kd.int IntKind.i64).Q 3 wc w.heap.size (fun k_ => some k_ ≠ Fix.o Ao2 t29.length co2 ∧ some k_ ≠ Fix.o Ao3 t30.length co3 ∧ some k_ ≠ Fix.o Ao5 t44.length co5 ∧ some k_ ≠ Fix.o Ao8 t62.length co8 ∧ some k_ ≠ Fix.o Ao9 t63.length co9) (Value.slice Ao6 t45.length co6) t86) ∧ Aside0 (k33.Q 33 wc w.heap.size (fun k_ => some k_ ≠ Fix.o Ao1 t20.length co1 ∧ some k_ ≠ Fix.o Ao4 t35.length co4) (Value.slice Ao7 t53.length co7) t53) ∧ Aside0 ((Kd.int IntKind.i64).Q 3 wc w.heap.size (fun k_ => some k_ ≠ Fix.o Ao2 t29.length co2 ∧ some k_ ≠ Fix.o Ao3 t30.length co3 ∧ some k_ ≠ Fix.o Ao5 t44.length co5 ∧ some k_ ≠ Fix.o Ao6 t45.length co6 ∧ some k_ ≠ Fix.o Ao9 t63.length co9) (Value.slice Ao8 t62.length co8) t62) ∧ Aside0 ((Kd.int IntKind.i64).Q 3 wc w.heap.size (fun k_ => some k_ ≠ Fix.o Ao2 t29.length co2 ∧ some k_ ≠ Fix.o Ao3 t30.length co3 ∧ some k_ ≠ Fix.o Ao5 t44.length co5 ∧ some k_ ≠ Fix.o Ao6 t45.length co6 ∧ some k_ ≠ Fix.o Ao8 t62.length co8) (Value.slice Ao9 t63.length co9) t63) ∧ Aside0 (wc.heap[gb1]? = some (Obj.cells #[Value.slice A0_0 l0_0.length c0_0, Value.int IntKind.i64 a0_1, Value.int IntKind.i64 a0_2, Value.int IntKind.i64 a0_3, Value.bool a0_4, Value.int IntKind.i64 a0_5, Value.bool a0_6, Value.int IntKind.i64 a0_7, Value.int IntKind.i64 a0_8, Value.slice A0_9 l0_9.length c0_9, Value.slice A0_10 l0_10.length c0_10, Value.int IntKind.i64 a0_11, Value.bool a0_12, Value.int IntKind.i64 a0_13] 29)) ∧ Aside0 (wc.heap[gb2]? = some (Obj.cells #[Value.int IntKind.i64 a1_0, Value.int IntKind.i64 a1_1, Value.int IntKind.i64 a1_2, Value.int IntKind.i64 a1_3] 50)) ∧ Aside0 (wc.heap[gb3]? = some (Obj.cells #[Value.slice Ao1 t20.length co1, Value.int IntKind.i64 t21, Value.int IntKind.i64 t22, Value.int IntKind.i64 t23, Value.bool t24, Value.int IntKind.i64 t25, Value.bool t26, Value.int IntKind.i64 t27, Value.int IntKind.i64 t28, Value.slice Ao2 t29.length co2, Value.slice Ao3 t30.length co3, Value.int IntKind.i64 t31, Value.bool t32, Value.int IntKind.i64 t33] 36)) ∧ Aside0 (wc.heap[gb4]? = some (Obj.cells #[Value.slice Ao4 t35.length co4, Value.int IntKind.i64 t36, Value.int IntKind.i64 t37, Value.int IntKind.i64 t38, Value.bool t39, Value.int IntKind.i64 t40, Value.bool t41, Value.int IntKind.i64 t42, Value.int IntKind.i64 t43, Value.slice Ao5 t44.length co5, Value.slice Ao6 t45.length co6, Value.int IntKind.i64 t46, Value.bool t47, Value.int IntKind.i64 t48] 36)) ∧ Aside0 (wc.heap[gb5]? = some (Obj.cells #[Value.slice Ao7 t53.length co7, Value.int IntKind.i64 t54, Value.int IntKind.i64 t55, Value.int IntKind.i64 t56, Value.bool t57, Value.int IntKind.i64 t58, Value.bool t59, Value.int IntKind.i64 t60, Value.int IntKind.i64 t61, Value.slice Ao8 t62.length co8, Value.slice Ao9 t63.length co9, Value.int IntKind.i64 t64, Value.bool t65, Value.int IntKind.i64 t66] 36)) ∧ Aside0 (Below w.heap.size w wc)) :
 let QZ : Exit → Act → World → Prop := bodyPost prog f6 fun e w' => e = Ending.returned (Value.bool r) ∧ Below w.heap.size w w'
 ∀ (aZ0 : ∀ (a : Act) (w : World), Code.wp prog (laws_FnExactDoAct.cS (laws_FnExactDoAct.cL (laws_FnExactDoAct.cR 11 ((Go.Proofs.Try.f6.body).getD Code.skip)))) (Exit.then KZ1 QZ) a w → KZ0 a w) (aZ1 : ∀ (a : Act) (w : World), Code.wp prog (laws_FnExactDoAct.cR 12 ((Go.Proofs.Try.f6.body).getD Code.skip)) QZ a w → KZ1 a w), KZ0 { tmps := #[Value.agg #[Value.slice A0_0 l0_0.length c0_0, Value.int IntKind.i64 a0_1, Value.int IntKind.i64 a0_2, Value.int IntKind.i64 a0_3, Value.bool a0_4, Value.int IntKind.i64 a0_5, Value.bool a0_6, Value.int IntKind.i64 a0_7, Value.int IntKind.i64 a0_8, Value.slice A0_9 l0_9.length c0_9, Value.slice A0_10 l0_10.length c0_10, Value.int IntKind.i64 a0_11, Value.bool a0_12, Value.int IntKind.i64 a0_13], Value.agg #[Value.int IntKind.i64 a1_0, Value.int IntKind.i64 a1_1, Value.int IntKind.i64 a1_2, Value.int IntKind.i64 a1_3], Value.pointer (some { block := gb1, off := 0 }), Value.pointer (some { block := gb2, off := 0 }), Value.bool false, Value.int IntKind.i64 t1, Value.pointer (some { block := gb3, off := 0 }), Value.int IntKind.i64 t34, Value.pointer (some { block := gb4, off := 0 }), Value.pointer (some { block := gb5, off := 0 }), Value.int IntKind.i64 t67, Value.int IntKind.i64 t83, undef, undef, undef, undef, u16, u17, u18, u19, u20, u21, u22, u23, u24, u25, u26, u27, u28, u29, u30, u31, u32, u33, u34, u35, u36, u37, u38, u39, u40, u41, u42, u43, u44, u45, u46, u47, u48, u49, u50, u51, u52, u53, u54, u55, u56, u57, u58, u59, u60, u61, u62, u63, u64, u65, u66, u67, u68, u69, u70, u71, u72, u73, u74, u75, u76, u77, u78, u79, u80, u81, u82, u83, u84, u85, u86, u87, u88, u89, u90, u91, u92, u93, u94, u95, u96, u97, u98, u99, u100, u101, u102, u103], defers := [] } wc :=by
 intro QZ aZ0 aZ1
 dsimp only [laws_FnExactDoAct.cR, laws_FnExactDoAct.cL, laws_FnExactDoAct.cS, Go.Proofs.Try.f6, Option.getD] at aZ0 aZ1
 obtain⟨kq,x2_109,rfl,HA,HJ2,HO_1,HO_2,HO_3,HO_4,HO_5,HO_6,HO_7,HO_8,HO_9,BK1,BK2,BK3,BK4,BK5,HB⟩:=hcut
 have hl1_109:=(Kd.Q_reads' HO_4.out).1
 rw[hl1_109]at HO_4
 (try simp only[hl1_109])
 (try simp only[hl1_109]at BK1)
 (try simp only[hl1_109]at BK2)
 (try simp only[hl1_109]at BK3)
 (try simp only[hl1_109]at BK4)
 (try simp only[hl1_109]at BK5)
 (try simp only[hl1_109]at HO_1)
 (try simp only[hl1_109]at HO_2)
 (try simp only[hl1_109]at HO_3)
 (try simp only[hl1_109]at HO_5)
 (try simp only[hl1_109]at HO_6)
 (try simp only[hl1_109]at HO_7)
 (try simp only[hl1_109]at HO_8)
 (try simp only[hl1_109]at HO_9)
 have hl2_109:=(Kd.Q_reads' HO_5.out).1
 rw[hl2_109]at HO_5
 (try simp only[hl2_109])
 (try simp only[hl2_109]at BK1)
 (try simp only[hl2_109]at BK2)
 (try simp only[hl2_109]at BK3)
 (try simp only[hl2_109]at BK4)
 (try simp only[hl2_109]at BK5)
 (try simp only[hl2_109]at HO_1)
 (try simp only[hl2_109]at HO_2)
 (try simp only[hl2_109]at HO_3)
 (try simp only[hl2_109]at HO_4)
 (try simp only[hl2_109]at HO_6)
 (try simp only[hl2_109]at HO_7)
 (try simp only[hl2_109]at HO_8)
 (try simp only[hl2_109]at HO_9)
 have hl3_109:=(Kd.Q_reads' HO_6.out).1
 rw[hl3_109]at HO_6
 (try simp only[hl3_109])
 (try simp only[hl3_109]at BK1)
 (try simp only[hl3_109]at BK2)
 (try simp only[hl3_109]at BK3)
 (try simp only[hl3_109]at BK4)
 (try simp only[hl3_109]at BK5)
 (try simp only[hl3_109]at HO_1)
 (try simp only[hl3_109]at HO_2)
 (try simp only[hl3_109]at HO_3)
 (try simp only[hl3_109]at HO_4)
 (try simp only[hl3_109]at HO_5)
 (try simp only[hl3_109]at HO_7)
 (try simp only[hl3_109]at HO_8)
 (try simp only[hl3_109]at HO_9)
 cases kq with
 |zero=>exact absurd HA.out (by simp[laws_FnExactDoAct.j1])
 |succ kj109=>
  have H:=HA.out
  clear HA
  simp only[laws_FnExactDoAct.j1]at H
  by_cases c4:x2_109=true
  ·subst c4
   rw[if_pos rfl]at H
   exact absurd (hT.out ▸ H) (by simp)
  obtain rfl:=nt c4
  replace H:=nf H
  obtain⟨⟨t87,t88,t89,t90⟩,A11,H⟩:=bnd H
  dsimp only at H
  obtain⟨t91,A12,H⟩:=bnd H
  by_cases c5:t91<0
  ·rw[if_pos c5]at H
   replace c5:=decide_eq_true c5
   exact absurd (hT.out ▸ H) (by simp)
  rw[if_neg c5]at H
  replace c5:=decide_eq_false c5
  by_cases c6:t91=t87
  rotate_left
  ·rw[if_neg c6]at H
   have c6b0:(t91==t87)=false:=beq_eq_false_iff_ne.mpr c6
   have c6b1:(t91 !=t87)=true:=bne_iff_ne.mpr c6
   exact absurd (hT.out ▸ H) (by simp)
  rw[if_pos c6]at H
  have c6b0:(t91==t87)=true:=beq_iff_eq.mpr c6
  have c6b1:(t91 !=t87)=false:=bne_eq_false_iff_eq.mpr c6
  clear c6
  obtain⟨⟨t92,t93,t94,t95,t96,t97,t98,t99,t100,t101,t102,t103,t104,t105⟩,A13,H⟩:=bnd H
  dsimp only at H
  obtain⟨⟨t106,t107,t108,t109⟩,A14,H⟩:=bnd H
  dsimp only at H
  obtain⟨⟨t110,t111,t112,t113,t114,t115,t116,t117,t118,t119,t120,t121,t122,t123,t124⟩,A15,H⟩:=bnd H
  dsimp only at H
  have HC4:=C H
  clear H
  have:=n13.out
  have:=n12.out
  have:=n15.out
  have:=n14.out
  have:=n17.out
  have:=n16.out
  have:=n19.out
  have:=n18.out
  have h_:=d14 BK5.out;(repeat(obtain⟨_,h_⟩:=h_))
  try go_wp2_with (first|((with_reducible refine gate_callee (f:=22) rfl ?_);refine gl 22 (some 70) func22 #[G #[L Ao7 t53.length co7,V I t54,V I t55,V I t56,O t57,V I t58,O t59,V I t60,V I t61,L Ao8 t62.length co8,L Ao9 t63.length co9,V I t64,O t65,V I t66],V I 1] ?_;(with_reducible refine(laws_markMachine.calls kj109 (fun k_=>some k_=(L Ao7 t53.length co7:Value).ownBlock) (L Ao7 t53.length co7) t53 t54 t55 t56 t57 t58 t59 t60 t61 (fun k_=>some k_=(L Ao8 t62.length co8:Value).ownBlock) (L Ao8 t62.length co8) t62 (fun k_=>some k_=(L Ao9 t63.length co9:Value).ownBlock) (L Ao9 t63.length co9) t63 t64 t65 t66 1 t87 t88 t89 t90 w _ ?side1 ?side2 ?side3 ?side4 ?side5 ?side6 A11.out).mono ?_);(case side1=>exact uB);(case side2=>exact Kd.Q_tight rfl HO_7.out);(case side3=>exact Kd.Q_tight rfl HO_8.out);(case side4=>exact fun k_ e_=>(HO_8.out.1 k_ e_.symm).2.2.2.2);(case side5=>exact Kd.Q_tight rfl HO_9.out);(case side6=>exact fun k_ e_=>(HO_9.out.1 k_ e_.symm).2.2.2.2);rintro e w17 ⟨rfl,hy1,hy2,hy3,hb,hkp⟩;refine⟨_,rfl,?_⟩;replace HO_1:=C (X (ok':=fun k_=>qn k_ Ao4 t84.length co4∧qn k_ Ao7 t53.length co7) (Kd.R_keptB ((Kd.R_apart' (Kd.R_apart' HO_1.out (Kd.Q_typed HO_8.out) (by decide)) (Kd.Q_typed HO_9.out) (by decide))) hkp (fun k_ hk_ hs_=>Or.elim hs_ (fun e_=>(hk_.1.1.2) e_) (fun e_=>Or.elim e_ (fun e_=>(hk_.1.2) e_) (fun e_=>(hk_.2) e_)))) (fun k_ hk_=>⟨hk_.1.1.1.1,hk_.1.1.1.2⟩));replace HO_2:=C (Kd.Q_mono (ok':=fun k_=>qn k_ Ao3 t30.length co3∧qn k_ Ao5 t85.length co5∧qn k_ Ao6 t86.length co6∧qn k_ Ao8 t62.length co8∧qn k_ Ao9 t63.length co9) (Kd.Q_keptB ((Kd.Q_apart' HO_2.out (Kd.Q_typed HO_7.out) (by decide))) hkp (fun k_ hk_ hs_=>Or.elim hs_ (fun e_=>(hk_.2) e_) (fun e_=>Or.elim e_ (fun e_=>(hk_.1.2.2.2.1) e_) (fun e_=>(hk_.1.2.2.2.2) e_)))) (fun k_ hk_=>⟨hk_.1.1.1,hk_.1.1.2.1,hk_.1.1.2.2.1,hk_.1.1.2.2.2.1,hk_.1.1.2.2.2.2⟩));replace HO_3:=C (X (ok':=fun k_=>qn k_ Ao2 t29.length co2∧qn k_ Ao5 t85.length co5∧qn k_ Ao6 t86.length co6∧qn k_ Ao8 t62.length co8∧qn k_ Ao9 t63.length co9) (Kd.R_keptB ((Kd.R_apart' HO_3.out (Kd.Q_typed HO_7.out) (by decide))) hkp (fun k_ hk_ hs_=>Or.elim hs_ (fun e_=>(hk_.2) e_) (fun e_=>Or.elim e_ (fun e_=>(hk_.1.2.2.2.1) e_) (fun e_=>(hk_.1.2.2.2.2) e_)))) (fun k_ hk_=>⟨hk_.1.1.1,hk_.1.1.2.1,hk_.1.1.2.2.1,hk_.1.1.2.2.2.1,hk_.1.1.2.2.2.2⟩));replace HO_4:=C (Kd.Q_mono (ok':=fun k_=>qn k_ Ao1 t20.length co1∧qn k_ Ao7 t53.length co7) (Kd.Q_keptB ((Kd.Q_apart' (Kd.Q_apart' HO_4.out (Kd.Q_typed HO_8.out) (by decide)) (Kd.Q_typed HO_9.out) (by decide))) hkp (fun k_ hk_ hs_=>Or.elim hs_ (fun e_=>(hk_.1.1.2) e_) (fun e_=>Or.elim e_ (fun e_=>(hk_.1.2) e_) (fun e_=>(hk_.2) e_)))) (fun k_ hk_=>⟨hk_.1.1.1.1,hk_.1.1.1.2⟩));replace HO_5:=C (Kd.Q_mono (ok':=fun k_=>qn k_ Ao2 t29.length co2∧qn k_ Ao3 t30.length co3∧qn k_ Ao6 t86.length co6∧qn k_ Ao8 t62.length co8∧qn k_ Ao9 t63.length co9) (Kd.Q_keptB ((Kd.Q_apart' HO_5.out (Kd.Q_typed HO_7.out) (by decide))) hkp (fun k_ hk_ hs_=>Or.elim hs_ (fun e_=>(hk_.2) e_) (fun e_=>Or.elim e_ (fun e_=>(hk_.1.2.2.2.1) e_) (fun e_=>(hk_.1.2.2.2.2) e_)))) (fun k_ hk_=>⟨hk_.1.1.1,hk_.1.1.2.1,hk_.1.1.2.2.1,hk_.1.1.2.2.2.1,hk_.1.1.2.2.2.2⟩));replace HO_6:=C (Kd.Q_mono (ok':=fun k_=>qn k_ Ao2 t29.length co2∧qn k_ Ao3 t30.length co3∧qn k_ Ao5 t85.length co5∧qn k_ Ao8 t62.length co8∧qn k_ Ao9 t63.length co9) (Kd.Q_keptB ((Kd.Q_apart' HO_6.out (Kd.Q_typed HO_7.out) (by decide))) hkp (fun k_ hk_ hs_=>Or.elim hs_ (fun e_=>(hk_.2) e_) (fun e_=>Or.elim e_ (fun e_=>(hk_.1.2.2.2.1) e_) (fun e_=>(hk_.1.2.2.2.2) e_)))) (fun k_ hk_=>⟨hk_.1.1.1,hk_.1.1.2.1,hk_.1.1.2.2.1,hk_.1.1.2.2.2.1,hk_.1.1.2.2.2.2⟩));replace BK1:=C (blk_kept (uK BK1.out) hkp (fun hs_=>Or.elim hs_ (fun e_=>(fun e_=>(Kd.Q_ne HO_7.out BK1.out (by decide)) e_) e_) (fun e_=>Or.elim e_ (fun e_=>(fun e_=>(Kd.Q_ne HO_8.out BK1.out (by decide)) e_) e_) (fun e_=>(fun e_=>(Kd.Q_ne HO_9.out BK1.out (by decide)) e_) e_))));replace BK2:=C (blk_kept (uK BK2.out) hkp (fun hs_=>Or.elim hs_ (fun e_=>(fun e_=>(Kd.Q_ne HO_7.out BK2.out (by decide)) e_) e_) (fun e_=>Or.elim e_ (fun e_=>(fun e_=>(Kd.Q_ne HO_8.out BK2.out (by decide)) e_) e_) (fun e_=>(fun e_=>(Kd.Q_ne HO_9.out BK2.out (by decide)) e_) e_))));replace BK3:=C (blk_kept (uK BK3.out) hkp (fun hs_=>Or.elim hs_ (fun e_=>(fun e_=>(Kd.Q_ne HO_7.out BK3.out (by decide)) e_) e_) (fun e_=>Or.elim e_ (fun e_=>(fun e_=>(Kd.Q_ne HO_8.out BK3.out (by decide)) e_) e_) (fun e_=>(fun e_=>(Kd.Q_ne HO_9.out BK3.out (by decide)) e_) e_))));replace BK4:=C (blk_kept (uK BK4.out) hkp (fun hs_=>Or.elim hs_ (fun e_=>(fun e_=>(Kd.Q_ne HO_7.out BK4.out (by decide)) e_) e_) (fun e_=>Or.elim e_ (fun e_=>(fun e_=>(Kd.Q_ne HO_8.out BK4.out (by decide)) e_) e_) (fun e_=>(fun e_=>(Kd.Q_ne HO_9.out BK4.out (by decide)) e_) e_))));replace BK5:=C (blk_kept (uK BK5.out) hkp (fun hs_=>Or.elim hs_ (fun e_=>(fun e_=>(Kd.Q_ne HO_7.out BK5.out (by decide)) e_) e_) (fun e_=>Or.elim e_ (fun e_=>(fun e_=>(Kd.Q_ne HO_8.out BK5.out (by decide)) e_) e_) (fun e_=>(fun e_=>(Kd.Q_ne HO_9.out BK5.out (by decide)) e_) e_))));replace HO_7:=C (Ext.Q_reok rfl hy1 (fun k_ e_=>HO_7.out.1 k_ e_));replace HO_8:=C (Ext.Q_reok rfl hy2 (fun k_ e_=>HO_8.out.1 k_ e_));replace HO_9:=C (Ext.Q_reok rfl hy3 (fun k_ e_=>HO_9.out.1 k_ e_));replace HB:=C (hb);clear hb;(try clear hkp);(try clear hy1);(try clear hy2);(try clear hy3);have h_:=d14 BK5.out;(repeat(obtain⟨_,h_⟩:=h_)))|((with_reducible refine gate_callee (f:=23) rfl ?_);refine goesL_ (some 73) rfl rfl func23 (by kernel_rfl) rfl #[G #[L Ao7 t88.length co7,V I t54,V I t55,V I t56,O t57,V I t58,O t59,V I t60,V I t61,L Ao8 t89.length co8,L Ao9 t90.length co9,V I t64,O t65,V I t66],V I 1] rfl (by(try simp only[List.map_toArray,List.map_cons,List.map_nil]);first|done|(rw[show t88.length=t53.length from(Kd.Q_reads' HO_7.out).1.symm,show t89.length=t62.length from(Kd.Q_reads' HO_8.out).1.symm,show t90.length=t63.length from(Kd.Q_reads' HO_9.out).1.symm]<;>rfl)|rfl|(simp only[List.length_drop,List.length_take];rfl)) ?_;(with_reducible refine(laws_heldMachine.calls kj109 _ _ t88 t54 t55 t56 t57 t58 t59 t60 t61 _ _ t89 _ _ t90 t64 t65 t66 1 t91 _ ?side1 ?side2 ?side3 ?side4 ?side5 ?side6 A12.out).mono ?_);(case side1=>exact uC (Kd.Q_reads' HO_7.out).2.2);(case side2=>rw[show t88.length=t53.length from(Kd.Q_reads' HO_7.out).1.symm];exact(Kd.Q_reads' HO_7.out).2.1);(case side3=>exact uC (Kd.Q_reads' HO_8.out).2.2);(case side4=>rw[show t89.length=t62.length from(Kd.Q_reads' HO_8.out).1.symm];exact(Kd.Q_reads' HO_8.out).2.1);(case side5=>exact uC (Kd.Q_reads' HO_9.out).2.2);(case side6=>rw[show t90.length=t63.length from(Kd.Q_reads' HO_9.out).1.symm];exact(Kd.Q_reads' HO_9.out).2.1);rintro e w18 ⟨rfl,hb⟩;refine⟨_,rfl,?_⟩;replace HO_1:=eR HO_1 hb;replace HO_2:=eQ HO_2 hb;replace HO_3:=eR HO_3 hb;replace HO_4:=eQ HO_4 hb;replace HO_5:=eQ HO_5 hb;replace HO_6:=eQ HO_6 hb;replace HO_7:=eQ HO_7 hb;replace HO_8:=eQ HO_8 hb;replace HO_9:=eQ HO_9 hb;replace BK1:=eK BK1 hb;replace BK2:=eK BK2 hb;replace BK3:=eK BK3 hb;replace BK4:=eK BK4 hb;replace BK5:=eK BK5 hb;replace HB:=eB hb;clear hb))
  replace HO_1:=dR HO_1
  replace HO_2:=dQ HO_2
  replace HO_3:=dR HO_3
  replace HO_4:=dQ HO_4
  replace HO_5:=dQ HO_5
  replace HO_6:=dQ HO_6
  replace HO_7:=dQ HO_7
  replace HO_8:=dQ HO_8
  replace HO_9:=dQ HO_9
  replace BK1:=dK BK1
  replace BK2:=dK BK2
  replace BK3:=dK BK3
  replace BK4:=dK BK4
  replace BK5:=dK BK5
  replace HB:=dB HB
  refine start_ (n:=11) (S:=fun w'=>cr14 w' gb1 (L A0_0 l0_0.length c0_0) (V I a0_1) (V I a0_2) (V I a0_3) (O a0_4) (V I a0_5) (O a0_6) (V I a0_7) (V I a0_8) (L A0_9 l0_9.length c0_9) (L A0_10 l0_10.length c0_10) (V I a0_11) (O a0_12) (V I a0_13) (cl4 w' gb2 (V I a1_0) (V I a1_1) (V I a1_2) (V I a1_3))) (ds:= []) #[false,false,false,false,false,false,false,false,false,false,false] (by kernel_rfl) rfl rfl hh (fun hHeld=> ?_);refine with_tabW laws_FnExactDoAct.tab24 laws_FnExactDoAct.bits24 (fun HT_ HW_=> ?_)
  generalize w18.drew=w19 at HO_1 HO_2 HO_3 HO_4 HO_5 HO_6 HO_7 HO_8 HO_9 BK1 BK2 BK3 BK4 BK5 HB hHeld ⊢
  refine tu 0 (some 80) hHeld ?_
  refine tu 2 (some 82) hHeld ?_
  refine join_ (σ:=Value×Value×Value×Value×Value×Value×Nat) 2 #[true,true,true,true,true,true,true,true,true,false,false] (fun s_=> [(81,G #[s_.1,V I t93,V I t94,V I t95,O t96,V I t97,O t98,V I t99,V I t100,s_.2.1,s_.2.2.1,V I t103,O t104,V I t105]),(83,G #[V I t106,V I t107,V I t108,V I t109]),(84,.tuple #[G #[s_.2.2.2.1,V I t111,V I t112,V I t113,O t114,V I t115,O t116,V I t117,V I t118,s_.2.2.2.2.1,s_.2.2.2.2.2.1,V I t121,O t122,V I t123],V I t124]),(14,.pointer (some ⟨s_.2.2.2.2.2.2,0,none⟩)),(79,.tuple #[G #[s_.2.2.2.1,V I t111,V I t112,V I t113,O t114,V I t115,O t116,V I t117,V I t118,s_.2.2.2.2.1,s_.2.2.2.2.2.1,V I t121,O t122,V I t123],V I t124]),(85,G #[s_.2.2.2.1,V I t111,V I t112,V I t113,O t114,V I t115,O t116,V I t117,V I t118,s_.2.2.2.2.1,s_.2.2.2.2.2.1,V I t121,O t122,V I t123]),(86,V I t124)]) (fun s_ w'=>(cr14 w' gb1 (L A0_0 l0_0.length c0_0) (V I a0_1) (V I a0_2) (V I a0_3) (O a0_4) (V I a0_5) (O a0_6) (V I a0_7) (V I a0_8) (L A0_9 l0_9.length c0_9) (L A0_10 l0_10.length c0_10) (V I a0_11) (O a0_12) (V I a0_13) (cl4 w' gb2 (V I a1_0) (V I a1_1) (V I a1_2) (V I a1_3)))∧(Kd.R k33 33 w' w.heap.size (fun k_=>some k_≠(s_.2.2.2.1:Value).ownBlock∧qn k_ Ao1 t20.length co1∧qn k_ Ao4 t84.length co4∧qn k_ Ao7 t53.length co7) s_.1 t92)∧(Kd.R (Kd.int .i64) 3 w' w.heap.size (fun k_=>some k_≠(s_.2.2.1:Value).ownBlock∧some k_≠(s_.2.2.2.2.1:Value).ownBlock∧some k_≠(s_.2.2.2.2.2.1:Value).ownBlock∧qn k_ Ao2 t29.length co2∧qn k_ Ao3 t30.length co3∧qn k_ Ao5 t85.length co5∧qn k_ Ao6 t86.length co6∧qn k_ Ao8 t62.length co8∧qn k_ Ao9 t63.length co9) s_.2.1 t101)∧(Kd.R (Kd.int .i64) 3 w' w.heap.size (fun k_=>some k_≠(s_.2.1:Value).ownBlock∧some k_≠(s_.2.2.2.2.1:Value).ownBlock∧some k_≠(s_.2.2.2.2.2.1:Value).ownBlock∧qn k_ Ao2 t29.length co2∧qn k_ Ao3 t30.length co3∧qn k_ Ao5 t85.length co5∧qn k_ Ao6 t86.length co6∧qn k_ Ao8 t62.length co8∧qn k_ Ao9 t63.length co9) s_.2.2.1 t102)∧(Kd.R k33 33 w' w.heap.size (fun k_=>some k_≠(s_.1:Value).ownBlock∧qn k_ Ao1 t20.length co1∧qn k_ Ao4 t84.length co4∧qn k_ Ao7 t53.length co7) s_.2.2.2.1 t110)∧(Kd.Q (Kd.int .i64) 3 w' w.heap.size (fun k_=>some k_≠(s_.2.1:Value).ownBlock∧some k_≠(s_.2.2.1:Value).ownBlock∧some k_≠(s_.2.2.2.2.2.1:Value).ownBlock∧qn k_ Ao2 t29.length co2∧qn k_ Ao3 t30.length co3∧qn k_ Ao5 t85.length co5∧qn k_ Ao6 t86.length co6∧qn k_ Ao8 t62.length co8∧qn k_ Ao9 t63.length co9) s_.2.2.2.2.1 t119)∧(Kd.R (Kd.int .i64) 3 w' w.heap.size (fun k_=>some k_≠(s_.2.1:Value).ownBlock∧some k_≠(s_.2.2.1:Value).ownBlock∧some k_≠(s_.2.2.2.2.1:Value).ownBlock∧qn k_ Ao2 t29.length co2∧qn k_ Ao3 t30.length co3∧qn k_ Ao5 t85.length co5∧qn k_ Ao6 t86.length co6∧qn k_ Ao8 t62.length co8∧qn k_ Ao9 t63.length co9) s_.2.2.2.2.2.1 t120)∧(Kd.R k33 33 w' w.heap.size (fun k_=>some k_≠(s_.1:Value).ownBlock∧some k_≠(s_.2.2.2.1:Value).ownBlock∧qn k_ Ao4 t84.length co4∧qn k_ Ao7 t53.length co7) (L Ao1 t20.length co1) t20)∧(Kd.Q (Kd.int .i64) 3 w' w.heap.size (fun k_=>some k_≠(s_.2.1:Value).ownBlock∧some k_≠(s_.2.2.1:Value).ownBlock∧some k_≠(s_.2.2.2.2.1:Value).ownBlock∧some k_≠(s_.2.2.2.2.2.1:Value).ownBlock∧qn k_ Ao3 t30.length co3∧qn k_ Ao5 t85.length co5∧qn k_ Ao6 t86.length co6∧qn k_ Ao8 t62.length co8∧qn k_ Ao9 t63.length co9) (L Ao2 t29.length co2) t29)∧(Kd.R (Kd.int .i64) 3 w' w.heap.size (fun k_=>some k_≠(s_.2.1:Value).ownBlock∧some k_≠(s_.2.2.1:Value).ownBlock∧some k_≠(s_.2.2.2.2.1:Value).ownBlock∧some k_≠(s_.2.2.2.2.2.1:Value).ownBlock∧qn k_ Ao2 t29.length co2∧qn k_ Ao5 t85.length co5∧qn k_ Ao6 t86.length co6∧qn k_ Ao8 t62.length co8∧qn k_ Ao9 t63.length co9) (L Ao3 t30.length co3) t30)∧(Kd.Q k33 33 w' w.heap.size (fun k_=>some k_≠(s_.1:Value).ownBlock∧some k_≠(s_.2.2.2.1:Value).ownBlock∧qn k_ Ao1 t20.length co1∧qn k_ Ao7 t53.length co7) (L Ao4 t84.length co4) t84)∧(Kd.Q (Kd.int .i64) 3 w' w.heap.size (fun k_=>some k_≠(s_.2.1:Value).ownBlock∧some k_≠(s_.2.2.1:Value).ownBlock∧some k_≠(s_.2.2.2.2.1:Value).ownBlock∧some k_≠(s_.2.2.2.2.2.1:Value).ownBlock∧qn k_ Ao2 t29.length co2∧qn k_ Ao3 t30.length co3∧qn k_ Ao6 t86.length co6∧qn k_ Ao8 t62.length co8∧qn k_ Ao9 t63.length co9) (L Ao5 t85.length co5) t85)∧(Kd.Q (Kd.int .i64) 3 w' w.heap.size (fun k_=>some k_≠(s_.2.1:Value).ownBlock∧some k_≠(s_.2.2.1:Value).ownBlock∧some k_≠(s_.2.2.2.2.1:Value).ownBlock∧some k_≠(s_.2.2.2.2.2.1:Value).ownBlock∧qn k_ Ao2 t29.length co2∧qn k_ Ao3 t30.length co3∧qn k_ Ao5 t85.length co5∧qn k_ Ao8 t62.length co8∧qn k_ Ao9 t63.length co9) (L Ao6 t86.length co6) t86)∧(Kd.Q k33 33 w' w.heap.size (fun k_=>some k_≠(s_.1:Value).ownBlock∧some k_≠(s_.2.2.2.1:Value).ownBlock∧qn k_ Ao1 t20.length co1∧qn k_ Ao4 t84.length co4) (L Ao7 t53.length co7) t88)∧(Kd.Q (Kd.int .i64) 3 w' w.heap.size (fun k_=>some k_≠(s_.2.1:Value).ownBlock∧some k_≠(s_.2.2.1:Value).ownBlock∧some k_≠(s_.2.2.2.2.1:Value).ownBlock∧some k_≠(s_.2.2.2.2.2.1:Value).ownBlock∧qn k_ Ao2 t29.length co2∧qn k_ Ao3 t30.length co3∧qn k_ Ao5 t85.length co5∧qn k_ Ao6 t86.length co6∧qn k_ Ao9 t63.length co9) (L Ao8 t62.length co8) t89)∧(Kd.Q (Kd.int .i64) 3 w' w.heap.size (fun k_=>some k_≠(s_.2.1:Value).ownBlock∧some k_≠(s_.2.2.1:Value).ownBlock∧some k_≠(s_.2.2.2.2.1:Value).ownBlock∧some k_≠(s_.2.2.2.2.2.1:Value).ownBlock∧qn k_ Ao2 t29.length co2∧qn k_ Ao3 t30.length co3∧qn k_ Ao5 t85.length co5∧qn k_ Ao6 t86.length co6∧qn k_ Ao8 t62.length co8) (L Ao9 t63.length co9) t90)∧(w'.heap[s_.2.2.2.2.2.2]? =some (.cells #[L none 0 0,V I 0,V I 0,V I 0,O false,V I 0,O false,V I 0,V I 0,L none 0 0,L none 0 0,V I 0,O false,V I 0] 36 (0,0)))∧(w'.heap[gb1]? =some (.cells #[L A0_0 l0_0.length c0_0,V I a0_1,V I a0_2,V I a0_3,O a0_4,V I a0_5,O a0_6,V I a0_7,V I a0_8,L A0_9 l0_9.length c0_9,L A0_10 l0_10.length c0_10,V I a0_11,O a0_12,V I a0_13] 29 (0,0)))∧(w'.heap[gb2]? =some (.cells #[V I a1_0,V I a1_1,V I a1_2,V I a1_3] 50 (0,0)))∧(w'.heap[gb3]? =some (.cells #[L Ao1 t20.length co1,V I t21,V I t22,V I t23,O t24,V I t25,O t26,V I t27,V I t28,L Ao2 t29.length co2,L Ao3 t30.length co3,V I t31,O t32,V I t33] 36 (0,0)))∧(w'.heap[gb4]? =some (.cells #[L Ao4 t84.length co4,V I t36,V I t37,V I t38,O t39,V I t40,O t41,V I t42,V I t43,L Ao5 t85.length co5,L Ao6 t86.length co6,V I t46,O t47,V I t48] 36 (0,0)))∧(w'.heap[gb5]? =some (.cells #[L Ao7 t53.length co7,V I t54,V I t55,V I t56,O t57,V I t58,O t59,V I t60,V I t61,L Ao8 t62.length co8,L Ao9 t63.length co9,V I t64,O t65,V I t66] 36 (0,0)))∧(w.heap.size≤s_.2.2.2.2.2.2)∧(w.heap.size≤s_.2.2.2.2.2.2)∧(gb1≠s_.2.2.2.2.2.2)∧(s_.2.2.2.2.2.2≠gb1)∧(gb2≠s_.2.2.2.2.2.2)∧(s_.2.2.2.2.2.2≠gb2)∧(gb3≠s_.2.2.2.2.2.2)∧(s_.2.2.2.2.2.2≠gb3)∧(gb4≠s_.2.2.2.2.2.2)∧(s_.2.2.2.2.2.2≠gb4)∧(gb5≠s_.2.2.2.2.2.2)∧(s_.2.2.2.2.2.2≠gb5)∧(Below w.heap.size w w')) ?_ ?_
  rotate_left
  ·intro hCont
   refine two_ (i:=1) (j:=8) (Ni:=some 81) (Nj:=some 14) #[true,true,true,false,false,false,false,false,false,false,false] #[true,false,true,false,false,false,false,false,true,false,false] rfl rfl rfl rfl (two_of HT_.out (by kernel_rfl)) (by decide) (by decide) (fun K hK=> ?_) (fun K hK=> ?_)
   ·skip
    refine gs func11 #[G #[L A0_0 l0_0.length c0_0,V I a0_1,V I a0_2,V I a0_3,O a0_4,V I a0_5,O a0_6,V I a0_7,V I a0_8,L A0_9 l0_9.length c0_9,L A0_10 l0_10.length c0_10,V I a0_11,O a0_12,V I a0_13]] ?_
    with_reducible refine(laws_toMachine.calls kj109 _ _ l0_0 a0_1 a0_2 a0_3 a0_4 a0_5 a0_6 a0_7 a0_8 _ _ l0_9 _ _ l0_10 a0_11 a0_12 a0_13 t92 t93 t94 t95 t96 t97 t98 t99 t100 t101 t102 t103 t104 t105 _ ?side1 HC1_0.out ?side3 HC1_9.out ?side5 HC1_10.out A13.out).mono ?_
    (case side1=>exact uZ HR1_0)
    (case side3=>exact uZ HR1_9)
    (case side5=>exact uZ HR1_10)
    rintro e w20 ⟨v16,v17,v18,rfl,ho1,ho2,ho3,hb⟩
    refine⟨_,rfl,?_⟩
    have HO16:=C (Kd.R_lower (Kd.R_new' (Kd.R_new' (Kd.R_new' ho1 (Kd.R_lt (uR HO_1.out))) (Kd.Q_lt (uQ HO_4.out))) (Kd.Q_lt (uQ HO_7.out))) (below_size uB))
    have HO17:=C (Kd.R_lower (Kd.R_new' (Kd.R_new' (Kd.R_new' (Kd.R_new' (Kd.R_new' (Kd.R_new' ho2 (Kd.Q_lt (uQ HO_2.out))) (Kd.R_lt (uR HO_3.out))) (Kd.Q_lt (uQ HO_5.out))) (Kd.Q_lt (uQ HO_6.out))) (Kd.Q_lt (uQ HO_8.out))) (Kd.Q_lt (uQ HO_9.out))) (below_size uB))
    have HO18:=C (Kd.R_lower (Kd.R_new' (Kd.R_new' (Kd.R_new' (Kd.R_new' (Kd.R_new' (Kd.R_new' ho3 (Kd.Q_lt (uQ HO_2.out))) (Kd.R_lt (uR HO_3.out))) (Kd.Q_lt (uQ HO_5.out))) (Kd.Q_lt (uQ HO_6.out))) (Kd.Q_lt (uQ HO_8.out))) (Kd.Q_lt (uQ HO_9.out))) (below_size uB))
    replace HO_1:=C (Kd.R_elder' (uR HO_1.out) (Kd.R_base ho1) hb)
    replace HO_2:=C (Kd.Q_mono (Kd.Q_told (Kd.Q_told (Kd.Q_old (uQ HO_2.out) hb) (Kd.R_base ho2)) (Kd.R_base ho3)) (fun _ h_=>h_.1))
    replace HO_3:=C (X (Kd.R_told (Kd.R_told (Kd.R_old (uR HO_3.out) hb) (Kd.R_base ho2)) (Kd.R_base ho3)) (fun _ h_=>h_.1))
    replace HO_4:=C (Kd.Q_elder' (uQ HO_4.out) (Kd.R_base ho1) hb)
    replace HO_5:=C (Kd.Q_mono (Kd.Q_told (Kd.Q_told (Kd.Q_old (uQ HO_5.out) hb) (Kd.R_base ho2)) (Kd.R_base ho3)) (fun _ h_=>h_.1))
    replace HO_6:=C (Kd.Q_mono (Kd.Q_told (Kd.Q_told (Kd.Q_old (uQ HO_6.out) hb) (Kd.R_base ho2)) (Kd.R_base ho3)) (fun _ h_=>h_.1))
    replace HO_7:=C (Kd.Q_elder' (uQ HO_7.out) (Kd.R_base ho1) hb)
    replace HO_8:=C (Kd.Q_mono (Kd.Q_told (Kd.Q_told (Kd.Q_old (uQ HO_8.out) hb) (Kd.R_base ho2)) (Kd.R_base ho3)) (fun _ h_=>h_.1))
    replace HO_9:=C (Kd.Q_mono (Kd.Q_told (Kd.Q_told (Kd.Q_old (uQ HO_9.out) hb) (Kd.R_base ho2)) (Kd.R_base ho3)) (fun _ h_=>h_.1))
    replace BK1:=eK BK1 hb
    replace BK2:=eK BK2 hb
    replace BK3:=eK BK3 hb
    replace BK4:=eK BK4 hb
    replace BK5:=eK BK5 hb
    replace HB:=eB hb
    (try clear hb)
    refine hK.out _ _ hh (fun hHeld=> ?_)
    clear hK K
    refine nu (N:=(some 81)) ?_
    refine two_ (i:=3) (j:=8) (Ni:=some 83) (Nj:=some 14) #[true,true,true,true,false,false,false,false,false,false,false] #[true,true,true,false,false,false,false,false,true,false,false] rfl rfl rfl rfl (two_of HT_.out (by kernel_rfl)) (by decide) (by decide) (fun K hK=> ?_) (fun K hK=> ?_)
    ·skip
     refine gs func20 #[G #[V I a1_0,V I a1_1,V I a1_2,V I a1_3]] ?_
     with_reducible refine(laws_toAct.calls a1_0 a1_1 a1_2 a1_3 t106 t107 t108 t109 _ A14.out).mono ?_
     rintro e w21 ⟨rfl,hb⟩
     refine⟨_,rfl,?_⟩
     replace HO_1:=eR HO_1 hb
     replace HO_2:=eQ HO_2 hb
     replace HO_3:=eR HO_3 hb
     replace HO_4:=eQ HO_4 hb
     replace HO_5:=eQ HO_5 hb
     replace HO_6:=eQ HO_6 hb
     replace HO_7:=eQ HO_7 hb
     replace HO_8:=eQ HO_8 hb
     replace HO_9:=eQ HO_9 hb
     replace HO16:=eR HO16 hb
     replace HO17:=eR HO17 hb
     replace HO18:=eR HO18 hb
     replace BK1:=eK BK1 hb
     replace BK2:=eK BK2 hb
     replace BK3:=eK BK3 hb
     replace BK4:=eK BK4 hb
     replace BK5:=eK BK5 hb
     replace HB:=eB hb
     (try clear hb)
     obtain⟨Ao13,co13,eo13⟩:=U HO16.out
     (first|subst eo13|(injection eo13 with f1_ f2_ f3_;have f4_:=f1_.symm;have f5_:=f3_.symm;clear f1_ f2_ f3_;subst f4_;subst f5_))
     obtain⟨Ao14,co14,eo14⟩:=U HO17.out
     (first|subst eo14|(injection eo14 with f1_ f2_ f3_;have f4_:=f1_.symm;have f5_:=f3_.symm;clear f1_ f2_ f3_;subst f4_;subst f5_))
     obtain⟨Ao15,co15,eo15⟩:=U HO18.out
     (first|subst eo15|(injection eo15 with f1_ f2_ f3_;have f4_:=f1_.symm;have f5_:=f3_.symm;clear f1_ f2_ f3_;subst f4_;subst f5_))
     refine hK.out _ _ hh (fun hHeld=> ?_)
     clear hK K
     refine nu (N:=(some 83)) ?_
     refine two_ (i:=4) (j:=8) (Ni:=some 84) (Nj:=some 14) #[true,true,true,true,true,false,false,false,false,false,false] #[true,true,true,true,false,false,false,false,true,false,false] rfl rfl rfl rfl (two_of HT_.out (by kernel_rfl)) (by decide) (by decide) (fun K hK=> ?_) (fun K hK=> ?_)
     ·skip
      refine gs func21 #[G #[L Ao13 t92.length co13,V I t93,V I t94,V I t95,O t96,V I t97,O t98,V I t99,V I t100,L Ao14 t101.length co14,L Ao15 t102.length co15,V I t103,O t104,V I t105],G #[V I t106,V I t107,V I t108,V I t109]] ?_
      with_reducible refine(impl_DoAct.calls kj109 _ _ t92 t93 t94 t95 t96 t97 t98 t99 t100 _ _ t101 _ _ t102 t103 t104 t105 t106 t107 t108 t109 t110 t111 t112 t113 t114 t115 t116 t117 t118 t119 t120 t121 t122 t123 t124 _ ?side1 ?side2 ?side3 ?side4 ?side5 ?side6 A15.out).mono ?_
      (case side1=>exact uC (Kd.R_reads' HO16.out).2.2)
      (case side2=>exact(Kd.R_reads' HO16.out).2.1)
      (case side3=>exact uC (Kd.R_reads' HO17.out).2.2)
      (case side4=>exact(Kd.R_reads' HO17.out).2.1)
      (case side5=>exact uC (Kd.R_reads' HO18.out).2.2)
      (case side6=>exact(Kd.R_reads' HO18.out).2.1)
      rintro e w22 ⟨v19,v20,v21,rfl,ho1,ho2,ho3,hb⟩
      refine⟨_,rfl,?_⟩
      have HO19:=C (Kd.R_lower (Kd.R_new' (Kd.R_new' (Kd.R_new' (Kd.R_new' ho1 (Kd.R_lt (uR HO_1.out))) (Kd.Q_lt (uQ HO_4.out))) (Kd.Q_lt (uQ HO_7.out))) (Kd.R_lt (uR HO16.out))) (below_size uB))
      have HO20:=C (Kd.Q_lower (Kd.Q_new' (Kd.Q_new' (Kd.Q_new' (Kd.Q_new' (Kd.Q_new' (Kd.Q_new' (Kd.Q_new' (Kd.Q_new' ho2 (Kd.Q_lt (uQ HO_2.out))) (Kd.R_lt (uR HO_3.out))) (Kd.Q_lt (uQ HO_5.out))) (Kd.Q_lt (uQ HO_6.out))) (Kd.Q_lt (uQ HO_8.out))) (Kd.Q_lt (uQ HO_9.out))) (Kd.R_lt (uR HO17.out))) (Kd.R_lt (uR HO18.out))) (below_size uB))
      have HO21:=C (Kd.R_lower (Kd.R_new' (Kd.R_new' (Kd.R_new' (Kd.R_new' (Kd.R_new' (Kd.R_new' (Kd.R_new' (Kd.R_new' ho3 (Kd.Q_lt (uQ HO_2.out))) (Kd.R_lt (uR HO_3.out))) (Kd.Q_lt (uQ HO_5.out))) (Kd.Q_lt (uQ HO_6.out))) (Kd.Q_lt (uQ HO_8.out))) (Kd.Q_lt (uQ HO_9.out))) (Kd.R_lt (uR HO17.out))) (Kd.R_lt (uR HO18.out))) (below_size uB))
      replace HO_1:=C (Kd.R_elder' (uR HO_1.out) (Kd.R_base ho1) hb)
      replace HO_2:=C (Kd.Q_mono (Kd.Q_told (Kd.Q_told (Kd.Q_old (uQ HO_2.out) hb) (Kd.Q_base ho2)) (Kd.R_base ho3)) (fun _ h_=>h_.1))
      replace HO_3:=C (X (Kd.R_told (Kd.R_told (Kd.R_old (uR HO_3.out) hb) (Kd.Q_base ho2)) (Kd.R_base ho3)) (fun _ h_=>h_.1))
      replace HO_4:=C (Kd.Q_elder' (uQ HO_4.out) (Kd.R_base ho1) hb)
      replace HO_5:=C (Kd.Q_mono (Kd.Q_told (Kd.Q_told (Kd.Q_old (uQ HO_5.out) hb) (Kd.Q_base ho2)) (Kd.R_base ho3)) (fun _ h_=>h_.1))
      replace HO_6:=C (Kd.Q_mono (Kd.Q_told (Kd.Q_told (Kd.Q_old (uQ HO_6.out) hb) (Kd.Q_base ho2)) (Kd.R_base ho3)) (fun _ h_=>h_.1))
      replace HO_7:=C (Kd.Q_elder' (uQ HO_7.out) (Kd.R_base ho1) hb)
      replace HO_8:=C (Kd.Q_mono (Kd.Q_told (Kd.Q_told (Kd.Q_old (uQ HO_8.out) hb) (Kd.Q_base ho2)) (Kd.R_base ho3)) (fun _ h_=>h_.1))
      replace HO_9:=C (Kd.Q_mono (Kd.Q_told (Kd.Q_told (Kd.Q_old (uQ HO_9.out) hb) (Kd.Q_base ho2)) (Kd.R_base ho3)) (fun _ h_=>h_.1))
      replace HO16:=C (Kd.R_elder' (uR HO16.out) (Kd.R_base ho1) hb)
      replace HO17:=C (X (Kd.R_told (Kd.R_told (Kd.R_old (uR HO17.out) hb) (Kd.Q_base ho2)) (Kd.R_base ho3)) (fun _ h_=>h_.1))
      replace HO18:=C (X (Kd.R_told (Kd.R_told (Kd.R_old (uR HO18.out) hb) (Kd.Q_base ho2)) (Kd.R_base ho3)) (fun _ h_=>h_.1))
      replace BK1:=eK BK1 hb
      replace BK2:=eK BK2 hb
      replace BK3:=eK BK3 hb
      replace BK4:=eK BK4 hb
      replace BK5:=eK BK5 hb
      replace HB:=eB hb
      (try clear hb)
      refine hK.out _ _ hh (fun hHeld=> ?_)
      clear hK K
      refine nu (N:=(some 84)) ?_
      refine pu 5 (some 79) ?_
      refine pu 6 (some 85) ?_
      refine pu 7 (some 86) ?_
      refine ou 8 (some 14) (fun K hK=> ?_)
      refine box_step ?hg (N:=14) ?hd (cs:= #[L none 0 0,V I 0,V I 0,V I 0,O false,V I 0,O false,V I 0,V I 0,L none 0 0,L none 0 0,V I 0,O false,V I 0]) (t:=36) ?hr ?_;(case hd=>rfl);(case hg=>rfl);(case hr=>exact Fix.hr)
      intro gb6 hg w23 hbox hb
      have BK6:=C hbox
      have GW6:=gE (w:=w) hg
      have GE6:=gE (w:=w) hg
      have n20:=nL hg BK1
      have n21:=nG hg BK1
      have n22:=nL hg BK2
      have n23:=nG hg BK2
      have n24:=nL hg BK3
      have n25:=nG hg BK3
      have n26:=nL hg BK4
      have n27:=nG hg BK4
      have n28:=nL hg BK5
      have n29:=nG hg BK5
      replace HO_1:=eR HO_1 hb
      replace HO_2:=eQ HO_2 hb
      replace HO_3:=eR HO_3 hb
      replace HO_4:=eQ HO_4 hb
      replace HO_5:=eQ HO_5 hb
      replace HO_6:=eQ HO_6 hb
      replace HO_7:=eQ HO_7 hb
      replace HO_8:=eQ HO_8 hb
      replace HO_9:=eQ HO_9 hb
      replace HO16:=eR HO16 hb
      replace HO17:=eR HO17 hb
      replace HO18:=eR HO18 hb
      replace HO19:=eR HO19 hb
      replace HO20:=eQ HO20 hb
      replace HO21:=eR HO21 hb
      replace BK1:=eK BK1 hb
      replace BK2:=eK BK2 hb
      replace BK3:=eK BK3 hb
      replace BK4:=eK BK4 hb
      replace BK5:=eK BK5 hb
      replace HB:=eB hb
      clear hb hbox hg
      refine hK.out _ _ hh (fun hHeld=> ?_)
      clear hK K
      refine nu (N:=(some 14)) ?_
      exact norm_ (by simp only[putAll,Act.put,List.setIfInBounds_toArray,List.set_cons_zero,List.set_cons_succ]) (hCont (L Ao13 t92.length co13,L Ao14 t101.length co14,L Ao15 t102.length co15,v19,v20,v21,gb6) _ ⟨hHeld,(X (fR HO16.out) (fun _ hk=>⟨hk.2,⟨hk.1.1.1.2,⟨hk.1.1.2,hk.1.2⟩⟩⟩)),(X (fR HO17.out) (fun _ hk=>⟨hk.1.1.1.1.1.1.1.1,⟨hk.1.2,⟨hk.2,⟨hk.1.1.1.1.1.1.1.2,⟨hk.1.1.1.1.1.1.2,⟨hk.1.1.1.1.1.2,⟨hk.1.1.1.1.2,⟨hk.1.1.1.2,hk.1.1.2⟩⟩⟩⟩⟩⟩⟩⟩)),(X (fR HO18.out) (fun _ hk=>⟨hk.1.1.1.1.1.1.1.1,⟨hk.1.2,⟨hk.2,⟨hk.1.1.1.1.1.1.1.2,⟨hk.1.1.1.1.1.1.2,⟨hk.1.1.1.1.1.2,⟨hk.1.1.1.1.2,⟨hk.1.1.1.2,hk.1.1.2⟩⟩⟩⟩⟩⟩⟩⟩)),(X (fR HO19.out) (fun _ hk=>⟨hk.2,⟨hk.1.1.1.2,⟨hk.1.1.2,hk.1.2⟩⟩⟩)),(Kd.Q_mono (fQ HO20.out) (fun _ hk=>⟨hk.1.2,⟨hk.2,⟨hk.1.1.1.1.1.1.1.1,⟨hk.1.1.1.1.1.1.1.2,⟨hk.1.1.1.1.1.1.2,⟨hk.1.1.1.1.1.2,⟨hk.1.1.1.1.2,⟨hk.1.1.1.2,hk.1.1.2⟩⟩⟩⟩⟩⟩⟩⟩)),(X (fR HO21.out) (fun _ hk=>⟨hk.1.2,⟨hk.2,⟨hk.1.1.1.1.1.1.1.1,⟨hk.1.1.1.1.1.1.1.2,⟨hk.1.1.1.1.1.1.2,⟨hk.1.1.1.1.1.2,⟨hk.1.1.1.1.2,⟨hk.1.1.1.2,hk.1.1.2⟩⟩⟩⟩⟩⟩⟩⟩)),(X (fR HO_1.out) (fun _ hk=>⟨hk.1.2,⟨hk.2,⟨hk.1.1.1,hk.1.1.2⟩⟩⟩)),(Kd.Q_mono (fQ HO_2.out) (fun _ hk=>⟨hk.1.1.1.2,⟨hk.1.1.2,⟨hk.1.2,⟨hk.2,⟨hk.1.1.1.1.1,⟨hk.1.1.1.1.2.1,⟨hk.1.1.1.1.2.2.1,⟨hk.1.1.1.1.2.2.2.1,hk.1.1.1.1.2.2.2.2⟩⟩⟩⟩⟩⟩⟩⟩)),(X (fR HO_3.out) (fun _ hk=>⟨hk.1.1.1.2,⟨hk.1.1.2,⟨hk.1.2,⟨hk.2,⟨hk.1.1.1.1.1,⟨hk.1.1.1.1.2.1,⟨hk.1.1.1.1.2.2.1,⟨hk.1.1.1.1.2.2.2.1,hk.1.1.1.1.2.2.2.2⟩⟩⟩⟩⟩⟩⟩⟩)),(Kd.Q_mono (fQ HO_4.out) (fun _ hk=>⟨hk.1.2,⟨hk.2,⟨hk.1.1.1,hk.1.1.2⟩⟩⟩)),(Kd.Q_mono (fQ HO_5.out) (fun _ hk=>⟨hk.1.1.1.2,⟨hk.1.1.2,⟨hk.1.2,⟨hk.2,⟨hk.1.1.1.1.1,⟨hk.1.1.1.1.2.1,⟨hk.1.1.1.1.2.2.1,⟨hk.1.1.1.1.2.2.2.1,hk.1.1.1.1.2.2.2.2⟩⟩⟩⟩⟩⟩⟩⟩)),(Kd.Q_mono (fQ HO_6.out) (fun _ hk=>⟨hk.1.1.1.2,⟨hk.1.1.2,⟨hk.1.2,⟨hk.2,⟨hk.1.1.1.1.1,⟨hk.1.1.1.1.2.1,⟨hk.1.1.1.1.2.2.1,⟨hk.1.1.1.1.2.2.2.1,hk.1.1.1.1.2.2.2.2⟩⟩⟩⟩⟩⟩⟩⟩)),(Kd.Q_mono (fQ HO_7.out) (fun _ hk=>⟨hk.1.2,⟨hk.2,⟨hk.1.1.1,hk.1.1.2⟩⟩⟩)),(Kd.Q_mono (fQ HO_8.out) (fun _ hk=>⟨hk.1.1.1.2,⟨hk.1.1.2,⟨hk.1.2,⟨hk.2,⟨hk.1.1.1.1.1,⟨hk.1.1.1.1.2.1,⟨hk.1.1.1.1.2.2.1,⟨hk.1.1.1.1.2.2.2.1,hk.1.1.1.1.2.2.2.2⟩⟩⟩⟩⟩⟩⟩⟩)),(Kd.Q_mono (fQ HO_9.out) (fun _ hk=>⟨hk.1.1.1.2,⟨hk.1.1.2,⟨hk.1.2,⟨hk.2,⟨hk.1.1.1.1.1,⟨hk.1.1.1.1.2.1,⟨hk.1.1.1.1.2.2.1,⟨hk.1.1.1.1.2.2.2.1,hk.1.1.1.1.2.2.2.2⟩⟩⟩⟩⟩⟩⟩⟩)),(uK BK6.out),(uK BK1.out),(uK BK2.out),(uK BK3.out),(uK BK4.out),(uK BK5.out),GW6.out,GE6.out,n20.out,n21.out,n22.out,n23.out,n24.out,n25.out,n26.out,n27.out,n28.out,n29.out,uB⟩)
     ·skip
      refine box_step ?hg (N:=14) ?hd (cs:= #[L none 0 0,V I 0,V I 0,V I 0,O false,V I 0,O false,V I 0,V I 0,L none 0 0,L none 0 0,V I 0,O false,V I 0]) (t:=36) ?hr ?_;(case hd=>rfl);(case hg=>rfl);(case hr=>exact Fix.hr)
      intro gb6 hg w22 hbox hb
      have BK6:=C hbox
      have GW6:=gE (w:=w) hg
      have GE6:=gE (w:=w) hg
      have n20:=nL hg BK1
      have n21:=nG hg BK1
      have n22:=nL hg BK2
      have n23:=nG hg BK2
      have n24:=nL hg BK3
      have n25:=nG hg BK3
      have n26:=nL hg BK4
      have n27:=nG hg BK4
      have n28:=nL hg BK5
      have n29:=nG hg BK5
      replace HO_1:=eR HO_1 hb
      replace HO_2:=eQ HO_2 hb
      replace HO_3:=eR HO_3 hb
      replace HO_4:=eQ HO_4 hb
      replace HO_5:=eQ HO_5 hb
      replace HO_6:=eQ HO_6 hb
      replace HO_7:=eQ HO_7 hb
      replace HO_8:=eQ HO_8 hb
      replace HO_9:=eQ HO_9 hb
      replace HO16:=eR HO16 hb
      replace HO17:=eR HO17 hb
      replace HO18:=eR HO18 hb
      replace BK1:=eK BK1 hb
      replace BK2:=eK BK2 hb
      replace BK3:=eK BK3 hb
      replace BK4:=eK BK4 hb
      replace BK5:=eK BK5 hb
      replace HB:=eB hb
      clear hb hbox hg
      obtain⟨Ao14,co14,eo14⟩:=U HO16.out
      (first|subst eo14|(injection eo14 with f1_ f2_ f3_;have f4_:=f1_.symm;have f5_:=f3_.symm;clear f1_ f2_ f3_;subst f4_;subst f5_))
      obtain⟨Ao15,co15,eo15⟩:=U HO17.out
      (first|subst eo15|(injection eo15 with f1_ f2_ f3_;have f4_:=f1_.symm;have f5_:=f3_.symm;clear f1_ f2_ f3_;subst f4_;subst f5_))
      obtain⟨Ao16,co16,eo16⟩:=U HO18.out
      (first|subst eo16|(injection eo16 with f1_ f2_ f3_;have f4_:=f1_.symm;have f5_:=f3_.symm;clear f1_ f2_ f3_;subst f4_;subst f5_))
      refine hK.out _ _ hh (fun hHeld=> ?_)
      clear hK K
      refine nu (N:=(some 14)) ?_
      refine ou 4 (some 84) (fun K hK=> ?_)
      refine gs func21 #[G #[L Ao14 t92.length co14,V I t93,V I t94,V I t95,O t96,V I t97,O t98,V I t99,V I t100,L Ao15 t101.length co15,L Ao16 t102.length co16,V I t103,O t104,V I t105],G #[V I t106,V I t107,V I t108,V I t109]] ?_
      with_reducible refine(impl_DoAct.calls kj109 _ _ t92 t93 t94 t95 t96 t97 t98 t99 t100 _ _ t101 _ _ t102 t103 t104 t105 t106 t107 t108 t109 t110 t111 t112 t113 t114 t115 t116 t117 t118 t119 t120 t121 t122 t123 t124 _ ?side1 ?side2 ?side3 ?side4 ?side5 ?side6 A15.out).mono ?_
      (case side1=>exact uC (Kd.R_reads' HO16.out).2.2)
      (case side2=>exact(Kd.R_reads' HO16.out).2.1)
      (case side3=>exact uC (Kd.R_reads' HO17.out).2.2)
      (case side4=>exact(Kd.R_reads' HO17.out).2.1)
      (case side5=>exact uC (Kd.R_reads' HO18.out).2.2)
      (case side6=>exact(Kd.R_reads' HO18.out).2.1)
      rintro e w23 ⟨v19,v20,v21,rfl,ho1,ho2,ho3,hb⟩
      refine⟨_,rfl,?_⟩
      have HO19:=C (Kd.R_lower (Kd.R_new' (Kd.R_new' (Kd.R_new' (Kd.R_new' ho1 (Kd.R_lt (uR HO_1.out))) (Kd.Q_lt (uQ HO_4.out))) (Kd.Q_lt (uQ HO_7.out))) (Kd.R_lt (uR HO16.out))) (below_size uB))
      have HO20:=C (Kd.Q_lower (Kd.Q_new' (Kd.Q_new' (Kd.Q_new' (Kd.Q_new' (Kd.Q_new' (Kd.Q_new' (Kd.Q_new' (Kd.Q_new' ho2 (Kd.Q_lt (uQ HO_2.out))) (Kd.R_lt (uR HO_3.out))) (Kd.Q_lt (uQ HO_5.out))) (Kd.Q_lt (uQ HO_6.out))) (Kd.Q_lt (uQ HO_8.out))) (Kd.Q_lt (uQ HO_9.out))) (Kd.R_lt (uR HO17.out))) (Kd.R_lt (uR HO18.out))) (below_size uB))
      have HO21:=C (Kd.R_lower (Kd.R_new' (Kd.R_new' (Kd.R_new' (Kd.R_new' (Kd.R_new' (Kd.R_new' (Kd.R_new' (Kd.R_new' ho3 (Kd.Q_lt (uQ HO_2.out))) (Kd.R_lt (uR HO_3.out))) (Kd.Q_lt (uQ HO_5.out))) (Kd.Q_lt (uQ HO_6.out))) (Kd.Q_lt (uQ HO_8.out))) (Kd.Q_lt (uQ HO_9.out))) (Kd.R_lt (uR HO17.out))) (Kd.R_lt (uR HO18.out))) (below_size uB))
      replace HO_1:=C (Kd.R_elder' (uR HO_1.out) (Kd.R_base ho1) hb)
      replace HO_2:=C (Kd.Q_mono (Kd.Q_told (Kd.Q_told (Kd.Q_old (uQ HO_2.out) hb) (Kd.Q_base ho2)) (Kd.R_base ho3)) (fun _ h_=>h_.1))
      replace HO_3:=C (X (Kd.R_told (Kd.R_told (Kd.R_old (uR HO_3.out) hb) (Kd.Q_base ho2)) (Kd.R_base ho3)) (fun _ h_=>h_.1))
      replace HO_4:=C (Kd.Q_elder' (uQ HO_4.out) (Kd.R_base ho1) hb)
      replace HO_5:=C (Kd.Q_mono (Kd.Q_told (Kd.Q_told (Kd.Q_old (uQ HO_5.out) hb) (Kd.Q_base ho2)) (Kd.R_base ho3)) (fun _ h_=>h_.1))
      replace HO_6:=C (Kd.Q_mono (Kd.Q_told (Kd.Q_told (Kd.Q_old (uQ HO_6.out) hb) (Kd.Q_base ho2)) (Kd.R_base ho3)) (fun _ h_=>h_.1))
      replace HO_7:=C (Kd.Q_elder' (uQ HO_7.out) (Kd.R_base ho1) hb)
      replace HO_8:=C (Kd.Q_mono (Kd.Q_told (Kd.Q_told (Kd.Q_old (uQ HO_8.out) hb) (Kd.Q_base ho2)) (Kd.R_base ho3)) (fun _ h_=>h_.1))
      replace HO_9:=C (Kd.Q_mono (Kd.Q_told (Kd.Q_told (Kd.Q_old (uQ HO_9.out) hb) (Kd.Q_base ho2)) (Kd.R_base ho3)) (fun _ h_=>h_.1))
      replace HO16:=C (Kd.R_elder' (uR HO16.out) (Kd.R_base ho1) hb)
      replace HO17:=C (X (Kd.R_told (Kd.R_told (Kd.R_old (uR HO17.out) hb) (Kd.Q_base ho2)) (Kd.R_base ho3)) (fun _ h_=>h_.1))
      replace HO18:=C (X (Kd.R_told (Kd.R_told (Kd.R_old (uR HO18.out) hb) (Kd.Q_base ho2)) (Kd.R_base ho3)) (fun _ h_=>h_.1))
      replace BK1:=eK BK1 hb
      replace BK2:=eK BK2 hb
      replace BK3:=eK BK3 hb
      replace BK4:=eK BK4 hb
      replace BK5:=eK BK5 hb
      replace BK6:=eK BK6 hb
      replace HB:=eB hb
      (try clear hb)
      refine hK.out _ _ hh (fun hHeld=> ?_)
      clear hK K
      refine nu (N:=(some 84)) ?_
      refine pu 5 (some 79) ?_
      refine pu 6 (some 85) ?_
      refine pu 7 (some 86) ?_
      exact norm_ (by simp only[putAll,Act.put,List.setIfInBounds_toArray,List.set_cons_zero,List.set_cons_succ]) (hCont (L Ao14 t92.length co14,L Ao15 t101.length co15,L Ao16 t102.length co16,v19,v20,v21,gb6) _ ⟨hHeld,(X (fR HO16.out) (fun _ hk=>⟨hk.2,⟨hk.1.1.1.2,⟨hk.1.1.2,hk.1.2⟩⟩⟩)),(X (fR HO17.out) (fun _ hk=>⟨hk.1.1.1.1.1.1.1.1,⟨hk.1.2,⟨hk.2,⟨hk.1.1.1.1.1.1.1.2,⟨hk.1.1.1.1.1.1.2,⟨hk.1.1.1.1.1.2,⟨hk.1.1.1.1.2,⟨hk.1.1.1.2,hk.1.1.2⟩⟩⟩⟩⟩⟩⟩⟩)),(X (fR HO18.out) (fun _ hk=>⟨hk.1.1.1.1.1.1.1.1,⟨hk.1.2,⟨hk.2,⟨hk.1.1.1.1.1.1.1.2,⟨hk.1.1.1.1.1.1.2,⟨hk.1.1.1.1.1.2,⟨hk.1.1.1.1.2,⟨hk.1.1.1.2,hk.1.1.2⟩⟩⟩⟩⟩⟩⟩⟩)),(X (fR HO19.out) (fun _ hk=>⟨hk.2,⟨hk.1.1.1.2,⟨hk.1.1.2,hk.1.2⟩⟩⟩)),(Kd.Q_mono (fQ HO20.out) (fun _ hk=>⟨hk.1.2,⟨hk.2,⟨hk.1.1.1.1.1.1.1.1,⟨hk.1.1.1.1.1.1.1.2,⟨hk.1.1.1.1.1.1.2,⟨hk.1.1.1.1.1.2,⟨hk.1.1.1.1.2,⟨hk.1.1.1.2,hk.1.1.2⟩⟩⟩⟩⟩⟩⟩⟩)),(X (fR HO21.out) (fun _ hk=>⟨hk.1.2,⟨hk.2,⟨hk.1.1.1.1.1.1.1.1,⟨hk.1.1.1.1.1.1.1.2,⟨hk.1.1.1.1.1.1.2,⟨hk.1.1.1.1.1.2,⟨hk.1.1.1.1.2,⟨hk.1.1.1.2,hk.1.1.2⟩⟩⟩⟩⟩⟩⟩⟩)),(X (fR HO_1.out) (fun _ hk=>⟨hk.1.2,⟨hk.2,⟨hk.1.1.1,hk.1.1.2⟩⟩⟩)),(Kd.Q_mono (fQ HO_2.out) (fun _ hk=>⟨hk.1.1.1.2,⟨hk.1.1.2,⟨hk.1.2,⟨hk.2,⟨hk.1.1.1.1.1,⟨hk.1.1.1.1.2.1,⟨hk.1.1.1.1.2.2.1,⟨hk.1.1.1.1.2.2.2.1,hk.1.1.1.1.2.2.2.2⟩⟩⟩⟩⟩⟩⟩⟩)),(X (fR HO_3.out) (fun _ hk=>⟨hk.1.1.1.2,⟨hk.1.1.2,⟨hk.1.2,⟨hk.2,⟨hk.1.1.1.1.1,⟨hk.1.1.1.1.2.1,⟨hk.1.1.1.1.2.2.1,⟨hk.1.1.1.1.2.2.2.1,hk.1.1.1.1.2.2.2.2⟩⟩⟩⟩⟩⟩⟩⟩)),(Kd.Q_mono (fQ HO_4.out) (fun _ hk=>⟨hk.1.2,⟨hk.2,⟨hk.1.1.1,hk.1.1.2⟩⟩⟩)),(Kd.Q_mono (fQ HO_5.out) (fun _ hk=>⟨hk.1.1.1.2,⟨hk.1.1.2,⟨hk.1.2,⟨hk.2,⟨hk.1.1.1.1.1,⟨hk.1.1.1.1.2.1,⟨hk.1.1.1.1.2.2.1,⟨hk.1.1.1.1.2.2.2.1,hk.1.1.1.1.2.2.2.2⟩⟩⟩⟩⟩⟩⟩⟩)),(Kd.Q_mono (fQ HO_6.out) (fun _ hk=>⟨hk.1.1.1.2,⟨hk.1.1.2,⟨hk.1.2,⟨hk.2,⟨hk.1.1.1.1.1,⟨hk.1.1.1.1.2.1,⟨hk.1.1.1.1.2.2.1,⟨hk.1.1.1.1.2.2.2.1,hk.1.1.1.1.2.2.2.2⟩⟩⟩⟩⟩⟩⟩⟩)),(Kd.Q_mono (fQ HO_7.out) (fun _ hk=>⟨hk.1.2,⟨hk.2,⟨hk.1.1.1,hk.1.1.2⟩⟩⟩)),(Kd.Q_mono (fQ HO_8.out) (fun _ hk=>⟨hk.1.1.1.2,⟨hk.1.1.2,⟨hk.1.2,⟨hk.2,⟨hk.1.1.1.1.1,⟨hk.1.1.1.1.2.1,⟨hk.1.1.1.1.2.2.1,⟨hk.1.1.1.1.2.2.2.1,hk.1.1.1.1.2.2.2.2⟩⟩⟩⟩⟩⟩⟩⟩)),(Kd.Q_mono (fQ HO_9.out) (fun _ hk=>⟨hk.1.1.1.2,⟨hk.1.1.2,⟨hk.1.2,⟨hk.2,⟨hk.1.1.1.1.1,⟨hk.1.1.1.1.2.1,⟨hk.1.1.1.1.2.2.1,⟨hk.1.1.1.1.2.2.2.1,hk.1.1.1.1.2.2.2.2⟩⟩⟩⟩⟩⟩⟩⟩)),(uK BK6.out),(uK BK1.out),(uK BK2.out),(uK BK3.out),(uK BK4.out),(uK BK5.out),GW6.out,GE6.out,n20.out,n21.out,n22.out,n23.out,n24.out,n25.out,n26.out,n27.out,n28.out,n29.out,uB⟩)
    ·skip
     refine box_step ?hg (N:=14) ?hd (cs:= #[L none 0 0,V I 0,V I 0,V I 0,O false,V I 0,O false,V I 0,V I 0,L none 0 0,L none 0 0,V I 0,O false,V I 0]) (t:=36) ?hr ?_;(case hd=>rfl);(case hg=>rfl);(case hr=>exact Fix.hr)
     intro gb6 hg w21 hbox hb
     have BK6:=C hbox
     have GW6:=gE (w:=w) hg
     have GE6:=gE (w:=w) hg
     have n20:=nL hg BK1
     have n21:=nG hg BK1
     have n22:=nL hg BK2
     have n23:=nG hg BK2
     have n24:=nL hg BK3
     have n25:=nG hg BK3
     have n26:=nL hg BK4
     have n27:=nG hg BK4
     have n28:=nL hg BK5
     have n29:=nG hg BK5
     replace HO_1:=eR HO_1 hb
     replace HO_2:=eQ HO_2 hb
     replace HO_3:=eR HO_3 hb
     replace HO_4:=eQ HO_4 hb
     replace HO_5:=eQ HO_5 hb
     replace HO_6:=eQ HO_6 hb
     replace HO_7:=eQ HO_7 hb
     replace HO_8:=eQ HO_8 hb
     replace HO_9:=eQ HO_9 hb
     replace HO16:=eR HO16 hb
     replace HO17:=eR HO17 hb
     replace HO18:=eR HO18 hb
     replace BK1:=eK BK1 hb
     replace BK2:=eK BK2 hb
     replace BK3:=eK BK3 hb
     replace BK4:=eK BK4 hb
     replace BK5:=eK BK5 hb
     replace HB:=eB hb
     clear hb hbox hg
     refine hK.out _ _ hh (fun hHeld=> ?_)
     clear hK K
     refine nu (N:=(some 14)) ?_
     refine ou 3 (some 83) (fun K hK=> ?_)
     refine gs func20 #[G #[V I a1_0,V I a1_1,V I a1_2,V I a1_3]] ?_
     with_reducible refine(laws_toAct.calls a1_0 a1_1 a1_2 a1_3 t106 t107 t108 t109 _ A14.out).mono ?_
     rintro e w22 ⟨rfl,hb⟩
     refine⟨_,rfl,?_⟩
     replace HO_1:=eR HO_1 hb
     replace HO_2:=eQ HO_2 hb
     replace HO_3:=eR HO_3 hb
     replace HO_4:=eQ HO_4 hb
     replace HO_5:=eQ HO_5 hb
     replace HO_6:=eQ HO_6 hb
     replace HO_7:=eQ HO_7 hb
     replace HO_8:=eQ HO_8 hb
     replace HO_9:=eQ HO_9 hb
     replace HO16:=eR HO16 hb
     replace HO17:=eR HO17 hb
     replace HO18:=eR HO18 hb
     replace BK1:=eK BK1 hb
     replace BK2:=eK BK2 hb
     replace BK3:=eK BK3 hb
     replace BK4:=eK BK4 hb
     replace BK5:=eK BK5 hb
     replace BK6:=eK BK6 hb
     replace HB:=eB hb
     (try clear hb)
     obtain⟨Ao13,co13,eo13⟩:=U HO16.out
     (first|subst eo13|(injection eo13 with f1_ f2_ f3_;have f4_:=f1_.symm;have f5_:=f3_.symm;clear f1_ f2_ f3_;subst f4_;subst f5_))
     obtain⟨Ao14,co14,eo14⟩:=U HO17.out
     (first|subst eo14|(injection eo14 with f1_ f2_ f3_;have f4_:=f1_.symm;have f5_:=f3_.symm;clear f1_ f2_ f3_;subst f4_;subst f5_))
     obtain⟨Ao15,co15,eo15⟩:=U HO18.out
     (first|subst eo15|(injection eo15 with f1_ f2_ f3_;have f4_:=f1_.symm;have f5_:=f3_.symm;clear f1_ f2_ f3_;subst f4_;subst f5_))
     refine hK.out _ _ hh (fun hHeld=> ?_)
     clear hK K
     refine nu (N:=(some 83)) ?_
     refine ou 4 (some 84) (fun K hK=> ?_)
     refine gs func21 #[G #[L Ao13 t92.length co13,V I t93,V I t94,V I t95,O t96,V I t97,O t98,V I t99,V I t100,L Ao14 t101.length co14,L Ao15 t102.length co15,V I t103,O t104,V I t105],G #[V I t106,V I t107,V I t108,V I t109]] ?_
     with_reducible refine(impl_DoAct.calls kj109 _ _ t92 t93 t94 t95 t96 t97 t98 t99 t100 _ _ t101 _ _ t102 t103 t104 t105 t106 t107 t108 t109 t110 t111 t112 t113 t114 t115 t116 t117 t118 t119 t120 t121 t122 t123 t124 _ ?side1 ?side2 ?side3 ?side4 ?side5 ?side6 A15.out).mono ?_
     (case side1=>exact uC (Kd.R_reads' HO16.out).2.2)
     (case side2=>exact(Kd.R_reads' HO16.out).2.1)
     (case side3=>exact uC (Kd.R_reads' HO17.out).2.2)
     (case side4=>exact(Kd.R_reads' HO17.out).2.1)
     (case side5=>exact uC (Kd.R_reads' HO18.out).2.2)
     (case side6=>exact(Kd.R_reads' HO18.out).2.1)
     rintro e w23 ⟨v19,v20,v21,rfl,ho1,ho2,ho3,hb⟩
     refine⟨_,rfl,?_⟩
     have HO19:=C (Kd.R_lower (Kd.R_new' (Kd.R_new' (Kd.R_new' (Kd.R_new' ho1 (Kd.R_lt (uR HO_1.out))) (Kd.Q_lt (uQ HO_4.out))) (Kd.Q_lt (uQ HO_7.out))) (Kd.R_lt (uR HO16.out))) (below_size uB))
     have HO20:=C (Kd.Q_lower (Kd.Q_new' (Kd.Q_new' (Kd.Q_new' (Kd.Q_new' (Kd.Q_new' (Kd.Q_new' (Kd.Q_new' (Kd.Q_new' ho2 (Kd.Q_lt (uQ HO_2.out))) (Kd.R_lt (uR HO_3.out))) (Kd.Q_lt (uQ HO_5.out))) (Kd.Q_lt (uQ HO_6.out))) (Kd.Q_lt (uQ HO_8.out))) (Kd.Q_lt (uQ HO_9.out))) (Kd.R_lt (uR HO17.out))) (Kd.R_lt (uR HO18.out))) (below_size uB))
     have HO21:=C (Kd.R_lower (Kd.R_new' (Kd.R_new' (Kd.R_new' (Kd.R_new' (Kd.R_new' (Kd.R_new' (Kd.R_new' (Kd.R_new' ho3 (Kd.Q_lt (uQ HO_2.out))) (Kd.R_lt (uR HO_3.out))) (Kd.Q_lt (uQ HO_5.out))) (Kd.Q_lt (uQ HO_6.out))) (Kd.Q_lt (uQ HO_8.out))) (Kd.Q_lt (uQ HO_9.out))) (Kd.R_lt (uR HO17.out))) (Kd.R_lt (uR HO18.out))) (below_size uB))
     replace HO_1:=C (Kd.R_elder' (uR HO_1.out) (Kd.R_base ho1) hb)
     replace HO_2:=C (Kd.Q_mono (Kd.Q_told (Kd.Q_told (Kd.Q_old (uQ HO_2.out) hb) (Kd.Q_base ho2)) (Kd.R_base ho3)) (fun _ h_=>h_.1))
     replace HO_3:=C (X (Kd.R_told (Kd.R_told (Kd.R_old (uR HO_3.out) hb) (Kd.Q_base ho2)) (Kd.R_base ho3)) (fun _ h_=>h_.1))
     replace HO_4:=C (Kd.Q_elder' (uQ HO_4.out) (Kd.R_base ho1) hb)
     replace HO_5:=C (Kd.Q_mono (Kd.Q_told (Kd.Q_told (Kd.Q_old (uQ HO_5.out) hb) (Kd.Q_base ho2)) (Kd.R_base ho3)) (fun _ h_=>h_.1))
     replace HO_6:=C (Kd.Q_mono (Kd.Q_told (Kd.Q_told (Kd.Q_old (uQ HO_6.out) hb) (Kd.Q_base ho2)) (Kd.R_base ho3)) (fun _ h_=>h_.1))
     replace HO_7:=C (Kd.Q_elder' (uQ HO_7.out) (Kd.R_base ho1) hb)
     replace HO_8:=C (Kd.Q_mono (Kd.Q_told (Kd.Q_told (Kd.Q_old (uQ HO_8.out) hb) (Kd.Q_base ho2)) (Kd.R_base ho3)) (fun _ h_=>h_.1))
     replace HO_9:=C (Kd.Q_mono (Kd.Q_told (Kd.Q_told (Kd.Q_old (uQ HO_9.out) hb) (Kd.Q_base ho2)) (Kd.R_base ho3)) (fun _ h_=>h_.1))
     replace HO16:=C (Kd.R_elder' (uR HO16.out) (Kd.R_base ho1) hb)
     replace HO17:=C (X (Kd.R_told (Kd.R_told (Kd.R_old (uR HO17.out) hb) (Kd.Q_base ho2)) (Kd.R_base ho3)) (fun _ h_=>h_.1))
     replace HO18:=C (X (Kd.R_told (Kd.R_told (Kd.R_old (uR HO18.out) hb) (Kd.Q_base ho2)) (Kd.R_base ho3)) (fun _ h_=>h_.1))
     replace BK1:=eK BK1 hb
     replace BK2:=eK BK2 hb
     replace BK3:=eK BK3 hb
     replace BK4:=eK BK4 hb
     replace BK5:=eK BK5 hb
     replace BK6:=eK BK6 hb
     replace HB:=eB hb
     (try clear hb)
     refine hK.out _ _ hh (fun hHeld=> ?_)
     clear hK K
     refine nu (N:=(some 84)) ?_
     refine pu 5 (some 79) ?_
     refine pu 6 (some 85) ?_
     refine pu 7 (some 86) ?_
     exact norm_ (by simp only[putAll,Act.put,List.setIfInBounds_toArray,List.set_cons_zero,List.set_cons_succ]) (hCont (L Ao13 t92.length co13,L Ao14 t101.length co14,L Ao15 t102.length co15,v19,v20,v21,gb6) _ ⟨hHeld,(X (fR HO16.out) (fun _ hk=>⟨hk.2,⟨hk.1.1.1.2,⟨hk.1.1.2,hk.1.2⟩⟩⟩)),(X (fR HO17.out) (fun _ hk=>⟨hk.1.1.1.1.1.1.1.1,⟨hk.1.2,⟨hk.2,⟨hk.1.1.1.1.1.1.1.2,⟨hk.1.1.1.1.1.1.2,⟨hk.1.1.1.1.1.2,⟨hk.1.1.1.1.2,⟨hk.1.1.1.2,hk.1.1.2⟩⟩⟩⟩⟩⟩⟩⟩)),(X (fR HO18.out) (fun _ hk=>⟨hk.1.1.1.1.1.1.1.1,⟨hk.1.2,⟨hk.2,⟨hk.1.1.1.1.1.1.1.2,⟨hk.1.1.1.1.1.1.2,⟨hk.1.1.1.1.1.2,⟨hk.1.1.1.1.2,⟨hk.1.1.1.2,hk.1.1.2⟩⟩⟩⟩⟩⟩⟩⟩)),(X (fR HO19.out) (fun _ hk=>⟨hk.2,⟨hk.1.1.1.2,⟨hk.1.1.2,hk.1.2⟩⟩⟩)),(Kd.Q_mono (fQ HO20.out) (fun _ hk=>⟨hk.1.2,⟨hk.2,⟨hk.1.1.1.1.1.1.1.1,⟨hk.1.1.1.1.1.1.1.2,⟨hk.1.1.1.1.1.1.2,⟨hk.1.1.1.1.1.2,⟨hk.1.1.1.1.2,⟨hk.1.1.1.2,hk.1.1.2⟩⟩⟩⟩⟩⟩⟩⟩)),(X (fR HO21.out) (fun _ hk=>⟨hk.1.2,⟨hk.2,⟨hk.1.1.1.1.1.1.1.1,⟨hk.1.1.1.1.1.1.1.2,⟨hk.1.1.1.1.1.1.2,⟨hk.1.1.1.1.1.2,⟨hk.1.1.1.1.2,⟨hk.1.1.1.2,hk.1.1.2⟩⟩⟩⟩⟩⟩⟩⟩)),(X (fR HO_1.out) (fun _ hk=>⟨hk.1.2,⟨hk.2,⟨hk.1.1.1,hk.1.1.2⟩⟩⟩)),(Kd.Q_mono (fQ HO_2.out) (fun _ hk=>⟨hk.1.1.1.2,⟨hk.1.1.2,⟨hk.1.2,⟨hk.2,⟨hk.1.1.1.1.1,⟨hk.1.1.1.1.2.1,⟨hk.1.1.1.1.2.2.1,⟨hk.1.1.1.1.2.2.2.1,hk.1.1.1.1.2.2.2.2⟩⟩⟩⟩⟩⟩⟩⟩)),(X (fR HO_3.out) (fun _ hk=>⟨hk.1.1.1.2,⟨hk.1.1.2,⟨hk.1.2,⟨hk.2,⟨hk.1.1.1.1.1,⟨hk.1.1.1.1.2.1,⟨hk.1.1.1.1.2.2.1,⟨hk.1.1.1.1.2.2.2.1,hk.1.1.1.1.2.2.2.2⟩⟩⟩⟩⟩⟩⟩⟩)),(Kd.Q_mono (fQ HO_4.out) (fun _ hk=>⟨hk.1.2,⟨hk.2,⟨hk.1.1.1,hk.1.1.2⟩⟩⟩)),(Kd.Q_mono (fQ HO_5.out) (fun _ hk=>⟨hk.1.1.1.2,⟨hk.1.1.2,⟨hk.1.2,⟨hk.2,⟨hk.1.1.1.1.1,⟨hk.1.1.1.1.2.1,⟨hk.1.1.1.1.2.2.1,⟨hk.1.1.1.1.2.2.2.1,hk.1.1.1.1.2.2.2.2⟩⟩⟩⟩⟩⟩⟩⟩)),(Kd.Q_mono (fQ HO_6.out) (fun _ hk=>⟨hk.1.1.1.2,⟨hk.1.1.2,⟨hk.1.2,⟨hk.2,⟨hk.1.1.1.1.1,⟨hk.1.1.1.1.2.1,⟨hk.1.1.1.1.2.2.1,⟨hk.1.1.1.1.2.2.2.1,hk.1.1.1.1.2.2.2.2⟩⟩⟩⟩⟩⟩⟩⟩)),(Kd.Q_mono (fQ HO_7.out) (fun _ hk=>⟨hk.1.2,⟨hk.2,⟨hk.1.1.1,hk.1.1.2⟩⟩⟩)),(Kd.Q_mono (fQ HO_8.out) (fun _ hk=>⟨hk.1.1.1.2,⟨hk.1.1.2,⟨hk.1.2,⟨hk.2,⟨hk.1.1.1.1.1,⟨hk.1.1.1.1.2.1,⟨hk.1.1.1.1.2.2.1,⟨hk.1.1.1.1.2.2.2.1,hk.1.1.1.1.2.2.2.2⟩⟩⟩⟩⟩⟩⟩⟩)),(Kd.Q_mono (fQ HO_9.out) (fun _ hk=>⟨hk.1.1.1.2,⟨hk.1.1.2,⟨hk.1.2,⟨hk.2,⟨hk.1.1.1.1.1,⟨hk.1.1.1.1.2.1,⟨hk.1.1.1.1.2.2.1,⟨hk.1.1.1.1.2.2.2.1,hk.1.1.1.1.2.2.2.2⟩⟩⟩⟩⟩⟩⟩⟩)),(uK BK6.out),(uK BK1.out),(uK BK2.out),(uK BK3.out),(uK BK4.out),(uK BK5.out),GW6.out,GE6.out,n20.out,n21.out,n22.out,n23.out,n24.out,n25.out,n26.out,n27.out,n28.out,n29.out,uB⟩)
   ·skip
    refine box_step ?hg (N:=14) ?hd (cs:= #[L none 0 0,V I 0,V I 0,V I 0,O false,V I 0,O false,V I 0,V I 0,L none 0 0,L none 0 0,V I 0,O false,V I 0]) (t:=36) ?hr ?_;(case hd=>rfl);(case hg=>rfl);(case hr=>exact Fix.hr)
    intro gb6 hg w20 hbox hb
    have BK6:=C hbox
    have GW6:=gE (w:=w) hg
    have GE6:=gE (w:=w) hg
    have n20:=nL hg BK1
    have n21:=nG hg BK1
    have n22:=nL hg BK2
    have n23:=nG hg BK2
    have n24:=nL hg BK3
    have n25:=nG hg BK3
    have n26:=nL hg BK4
    have n27:=nG hg BK4
    have n28:=nL hg BK5
    have n29:=nG hg BK5
    replace HO_1:=eR HO_1 hb
    replace HO_2:=eQ HO_2 hb
    replace HO_3:=eR HO_3 hb
    replace HO_4:=eQ HO_4 hb
    replace HO_5:=eQ HO_5 hb
    replace HO_6:=eQ HO_6 hb
    replace HO_7:=eQ HO_7 hb
    replace HO_8:=eQ HO_8 hb
    replace HO_9:=eQ HO_9 hb
    replace BK1:=eK BK1 hb
    replace BK2:=eK BK2 hb
    replace BK3:=eK BK3 hb
    replace BK4:=eK BK4 hb
    replace BK5:=eK BK5 hb
    replace HB:=eB hb
    clear hb hbox hg
    refine hK.out _ _ hh (fun hHeld=> ?_)
    clear hK K
    refine nu (N:=(some 14)) ?_
    refine ou 1 (some 81) (fun K hK=> ?_)
    refine gs func11 #[G #[L A0_0 l0_0.length c0_0,V I a0_1,V I a0_2,V I a0_3,O a0_4,V I a0_5,O a0_6,V I a0_7,V I a0_8,L A0_9 l0_9.length c0_9,L A0_10 l0_10.length c0_10,V I a0_11,O a0_12,V I a0_13]] ?_
    with_reducible refine(laws_toMachine.calls kj109 _ _ l0_0 a0_1 a0_2 a0_3 a0_4 a0_5 a0_6 a0_7 a0_8 _ _ l0_9 _ _ l0_10 a0_11 a0_12 a0_13 t92 t93 t94 t95 t96 t97 t98 t99 t100 t101 t102 t103 t104 t105 _ ?side1 HC1_0.out ?side3 HC1_9.out ?side5 HC1_10.out A13.out).mono ?_
    (case side1=>exact uZ HR1_0)
    (case side3=>exact uZ HR1_9)
    (case side5=>exact uZ HR1_10)
    rintro e w21 ⟨v16,v17,v18,rfl,ho1,ho2,ho3,hb⟩
    refine⟨_,rfl,?_⟩
    have HO16:=C (Kd.R_lower (Kd.R_new' (Kd.R_new' (Kd.R_new' ho1 (Kd.R_lt (uR HO_1.out))) (Kd.Q_lt (uQ HO_4.out))) (Kd.Q_lt (uQ HO_7.out))) (below_size uB))
    have HO17:=C (Kd.R_lower (Kd.R_new' (Kd.R_new' (Kd.R_new' (Kd.R_new' (Kd.R_new' (Kd.R_new' ho2 (Kd.Q_lt (uQ HO_2.out))) (Kd.R_lt (uR HO_3.out))) (Kd.Q_lt (uQ HO_5.out))) (Kd.Q_lt (uQ HO_6.out))) (Kd.Q_lt (uQ HO_8.out))) (Kd.Q_lt (uQ HO_9.out))) (below_size uB))
    have HO18:=C (Kd.R_lower (Kd.R_new' (Kd.R_new' (Kd.R_new' (Kd.R_new' (Kd.R_new' (Kd.R_new' ho3 (Kd.Q_lt (uQ HO_2.out))) (Kd.R_lt (uR HO_3.out))) (Kd.Q_lt (uQ HO_5.out))) (Kd.Q_lt (uQ HO_6.out))) (Kd.Q_lt (uQ HO_8.out))) (Kd.Q_lt (uQ HO_9.out))) (below_size uB))
    replace HO_1:=C (Kd.R_elder' (uR HO_1.out) (Kd.R_base ho1) hb)
    replace HO_2:=C (Kd.Q_mono (Kd.Q_told (Kd.Q_told (Kd.Q_old (uQ HO_2.out) hb) (Kd.R_base ho2)) (Kd.R_base ho3)) (fun _ h_=>h_.1))
    replace HO_3:=C (X (Kd.R_told (Kd.R_told (Kd.R_old (uR HO_3.out) hb) (Kd.R_base ho2)) (Kd.R_base ho3)) (fun _ h_=>h_.1))
    replace HO_4:=C (Kd.Q_elder' (uQ HO_4.out) (Kd.R_base ho1) hb)
    replace HO_5:=C (Kd.Q_mono (Kd.Q_told (Kd.Q_told (Kd.Q_old (uQ HO_5.out) hb) (Kd.R_base ho2)) (Kd.R_base ho3)) (fun _ h_=>h_.1))
    replace HO_6:=C (Kd.Q_mono (Kd.Q_told (Kd.Q_told (Kd.Q_old (uQ HO_6.out) hb) (Kd.R_base ho2)) (Kd.R_base ho3)) (fun _ h_=>h_.1))
    replace HO_7:=C (Kd.Q_elder' (uQ HO_7.out) (Kd.R_base ho1) hb)
    replace HO_8:=C (Kd.Q_mono (Kd.Q_told (Kd.Q_told (Kd.Q_old (uQ HO_8.out) hb) (Kd.R_base ho2)) (Kd.R_base ho3)) (fun _ h_=>h_.1))
    replace HO_9:=C (Kd.Q_mono (Kd.Q_told (Kd.Q_told (Kd.Q_old (uQ HO_9.out) hb) (Kd.R_base ho2)) (Kd.R_base ho3)) (fun _ h_=>h_.1))
    replace BK1:=eK BK1 hb
    replace BK2:=eK BK2 hb
    replace BK3:=eK BK3 hb
    replace BK4:=eK BK4 hb
    replace BK5:=eK BK5 hb
    replace BK6:=eK BK6 hb
    replace HB:=eB hb
    (try clear hb)
    refine hK.out _ _ hh (fun hHeld=> ?_)
    clear hK K
    refine nu (N:=(some 81)) ?_
    refine ou 3 (some 83) (fun K hK=> ?_)
    refine gs func20 #[G #[V I a1_0,V I a1_1,V I a1_2,V I a1_3]] ?_
    with_reducible refine(laws_toAct.calls a1_0 a1_1 a1_2 a1_3 t106 t107 t108 t109 _ A14.out).mono ?_
    rintro e w22 ⟨rfl,hb⟩
    refine⟨_,rfl,?_⟩
    replace HO_1:=eR HO_1 hb
    replace HO_2:=eQ HO_2 hb
    replace HO_3:=eR HO_3 hb
    replace HO_4:=eQ HO_4 hb
    replace HO_5:=eQ HO_5 hb
    replace HO_6:=eQ HO_6 hb
    replace HO_7:=eQ HO_7 hb
    replace HO_8:=eQ HO_8 hb
    replace HO_9:=eQ HO_9 hb
    replace HO16:=eR HO16 hb
    replace HO17:=eR HO17 hb
    replace HO18:=eR HO18 hb
    replace BK1:=eK BK1 hb
    replace BK2:=eK BK2 hb
    replace BK3:=eK BK3 hb
    replace BK4:=eK BK4 hb
    replace BK5:=eK BK5 hb
    replace BK6:=eK BK6 hb
    replace HB:=eB hb
    (try clear hb)
    obtain⟨Ao13,co13,eo13⟩:=U HO16.out
    (first|subst eo13|(injection eo13 with f1_ f2_ f3_;have f4_:=f1_.symm;have f5_:=f3_.symm;clear f1_ f2_ f3_;subst f4_;subst f5_))
    obtain⟨Ao14,co14,eo14⟩:=U HO17.out
    (first|subst eo14|(injection eo14 with f1_ f2_ f3_;have f4_:=f1_.symm;have f5_:=f3_.symm;clear f1_ f2_ f3_;subst f4_;subst f5_))
    obtain⟨Ao15,co15,eo15⟩:=U HO18.out
    (first|subst eo15|(injection eo15 with f1_ f2_ f3_;have f4_:=f1_.symm;have f5_:=f3_.symm;clear f1_ f2_ f3_;subst f4_;subst f5_))
    refine hK.out _ _ hh (fun hHeld=> ?_)
    clear hK K
    refine nu (N:=(some 83)) ?_
    refine ou 4 (some 84) (fun K hK=> ?_)
    refine gs func21 #[G #[L Ao13 t92.length co13,V I t93,V I t94,V I t95,O t96,V I t97,O t98,V I t99,V I t100,L Ao14 t101.length co14,L Ao15 t102.length co15,V I t103,O t104,V I t105],G #[V I t106,V I t107,V I t108,V I t109]] ?_
    with_reducible refine(impl_DoAct.calls kj109 _ _ t92 t93 t94 t95 t96 t97 t98 t99 t100 _ _ t101 _ _ t102 t103 t104 t105 t106 t107 t108 t109 t110 t111 t112 t113 t114 t115 t116 t117 t118 t119 t120 t121 t122 t123 t124 _ ?side1 ?side2 ?side3 ?side4 ?side5 ?side6 A15.out).mono ?_
    (case side1=>exact uC (Kd.R_reads' HO16.out).2.2)
    (case side2=>exact(Kd.R_reads' HO16.out).2.1)
    (case side3=>exact uC (Kd.R_reads' HO17.out).2.2)
    (case side4=>exact(Kd.R_reads' HO17.out).2.1)
    (case side5=>exact uC (Kd.R_reads' HO18.out).2.2)
    (case side6=>exact(Kd.R_reads' HO18.out).2.1)
    rintro e w23 ⟨v19,v20,v21,rfl,ho1,ho2,ho3,hb⟩
    refine⟨_,rfl,?_⟩
    have HO19:=C (Kd.R_lower (Kd.R_new' (Kd.R_new' (Kd.R_new' (Kd.R_new' ho1 (Kd.R_lt (uR HO_1.out))) (Kd.Q_lt (uQ HO_4.out))) (Kd.Q_lt (uQ HO_7.out))) (Kd.R_lt (uR HO16.out))) (below_size uB))
    have HO20:=C (Kd.Q_lower (Kd.Q_new' (Kd.Q_new' (Kd.Q_new' (Kd.Q_new' (Kd.Q_new' (Kd.Q_new' (Kd.Q_new' (Kd.Q_new' ho2 (Kd.Q_lt (uQ HO_2.out))) (Kd.R_lt (uR HO_3.out))) (Kd.Q_lt (uQ HO_5.out))) (Kd.Q_lt (uQ HO_6.out))) (Kd.Q_lt (uQ HO_8.out))) (Kd.Q_lt (uQ HO_9.out))) (Kd.R_lt (uR HO17.out))) (Kd.R_lt (uR HO18.out))) (below_size uB))
    have HO21:=C (Kd.R_lower (Kd.R_new' (Kd.R_new' (Kd.R_new' (Kd.R_new' (Kd.R_new' (Kd.R_new' (Kd.R_new' (Kd.R_new' ho3 (Kd.Q_lt (uQ HO_2.out))) (Kd.R_lt (uR HO_3.out))) (Kd.Q_lt (uQ HO_5.out))) (Kd.Q_lt (uQ HO_6.out))) (Kd.Q_lt (uQ HO_8.out))) (Kd.Q_lt (uQ HO_9.out))) (Kd.R_lt (uR HO17.out))) (Kd.R_lt (uR HO18.out))) (below_size uB))
    replace HO_1:=C (Kd.R_elder' (uR HO_1.out) (Kd.R_base ho1) hb)
    replace HO_2:=C (Kd.Q_mono (Kd.Q_told (Kd.Q_told (Kd.Q_old (uQ HO_2.out) hb) (Kd.Q_base ho2)) (Kd.R_base ho3)) (fun _ h_=>h_.1))
    replace HO_3:=C (X (Kd.R_told (Kd.R_told (Kd.R_old (uR HO_3.out) hb) (Kd.Q_base ho2)) (Kd.R_base ho3)) (fun _ h_=>h_.1))
    replace HO_4:=C (Kd.Q_elder' (uQ HO_4.out) (Kd.R_base ho1) hb)
    replace HO_5:=C (Kd.Q_mono (Kd.Q_told (Kd.Q_told (Kd.Q_old (uQ HO_5.out) hb) (Kd.Q_base ho2)) (Kd.R_base ho3)) (fun _ h_=>h_.1))
    replace HO_6:=C (Kd.Q_mono (Kd.Q_told (Kd.Q_told (Kd.Q_old (uQ HO_6.out) hb) (Kd.Q_base ho2)) (Kd.R_base ho3)) (fun _ h_=>h_.1))
    replace HO_7:=C (Kd.Q_elder' (uQ HO_7.out) (Kd.R_base ho1) hb)
    replace HO_8:=C (Kd.Q_mono (Kd.Q_told (Kd.Q_told (Kd.Q_old (uQ HO_8.out) hb) (Kd.Q_base ho2)) (Kd.R_base ho3)) (fun _ h_=>h_.1))
    replace HO_9:=C (Kd.Q_mono (Kd.Q_told (Kd.Q_told (Kd.Q_old (uQ HO_9.out) hb) (Kd.Q_base ho2)) (Kd.R_base ho3)) (fun _ h_=>h_.1))
    replace HO16:=C (Kd.R_elder' (uR HO16.out) (Kd.R_base ho1) hb)
    replace HO17:=C (X (Kd.R_told (Kd.R_told (Kd.R_old (uR HO17.out) hb) (Kd.Q_base ho2)) (Kd.R_base ho3)) (fun _ h_=>h_.1))
    replace HO18:=C (X (Kd.R_told (Kd.R_told (Kd.R_old (uR HO18.out) hb) (Kd.Q_base ho2)) (Kd.R_base ho3)) (fun _ h_=>h_.1))
    replace BK1:=eK BK1 hb
    replace BK2:=eK BK2 hb
    replace BK3:=eK BK3 hb
    replace BK4:=eK BK4 hb
    replace BK5:=eK BK5 hb
    replace BK6:=eK BK6 hb
    replace HB:=eB hb
    (try clear hb)
    refine hK.out _ _ hh (fun hHeld=> ?_)
    clear hK K
    refine nu (N:=(some 84)) ?_
    refine pu 5 (some 79) ?_
    refine pu 6 (some 85) ?_
    refine pu 7 (some 86) ?_
    exact norm_ (by simp only[putAll,Act.put,List.setIfInBounds_toArray,List.set_cons_zero,List.set_cons_succ]) (hCont (L Ao13 t92.length co13,L Ao14 t101.length co14,L Ao15 t102.length co15,v19,v20,v21,gb6) _ ⟨hHeld,(X (fR HO16.out) (fun _ hk=>⟨hk.2,⟨hk.1.1.1.2,⟨hk.1.1.2,hk.1.2⟩⟩⟩)),(X (fR HO17.out) (fun _ hk=>⟨hk.1.1.1.1.1.1.1.1,⟨hk.1.2,⟨hk.2,⟨hk.1.1.1.1.1.1.1.2,⟨hk.1.1.1.1.1.1.2,⟨hk.1.1.1.1.1.2,⟨hk.1.1.1.1.2,⟨hk.1.1.1.2,hk.1.1.2⟩⟩⟩⟩⟩⟩⟩⟩)),(X (fR HO18.out) (fun _ hk=>⟨hk.1.1.1.1.1.1.1.1,⟨hk.1.2,⟨hk.2,⟨hk.1.1.1.1.1.1.1.2,⟨hk.1.1.1.1.1.1.2,⟨hk.1.1.1.1.1.2,⟨hk.1.1.1.1.2,⟨hk.1.1.1.2,hk.1.1.2⟩⟩⟩⟩⟩⟩⟩⟩)),(X (fR HO19.out) (fun _ hk=>⟨hk.2,⟨hk.1.1.1.2,⟨hk.1.1.2,hk.1.2⟩⟩⟩)),(Kd.Q_mono (fQ HO20.out) (fun _ hk=>⟨hk.1.2,⟨hk.2,⟨hk.1.1.1.1.1.1.1.1,⟨hk.1.1.1.1.1.1.1.2,⟨hk.1.1.1.1.1.1.2,⟨hk.1.1.1.1.1.2,⟨hk.1.1.1.1.2,⟨hk.1.1.1.2,hk.1.1.2⟩⟩⟩⟩⟩⟩⟩⟩)),(X (fR HO21.out) (fun _ hk=>⟨hk.1.2,⟨hk.2,⟨hk.1.1.1.1.1.1.1.1,⟨hk.1.1.1.1.1.1.1.2,⟨hk.1.1.1.1.1.1.2,⟨hk.1.1.1.1.1.2,⟨hk.1.1.1.1.2,⟨hk.1.1.1.2,hk.1.1.2⟩⟩⟩⟩⟩⟩⟩⟩)),(X (fR HO_1.out) (fun _ hk=>⟨hk.1.2,⟨hk.2,⟨hk.1.1.1,hk.1.1.2⟩⟩⟩)),(Kd.Q_mono (fQ HO_2.out) (fun _ hk=>⟨hk.1.1.1.2,⟨hk.1.1.2,⟨hk.1.2,⟨hk.2,⟨hk.1.1.1.1.1,⟨hk.1.1.1.1.2.1,⟨hk.1.1.1.1.2.2.1,⟨hk.1.1.1.1.2.2.2.1,hk.1.1.1.1.2.2.2.2⟩⟩⟩⟩⟩⟩⟩⟩)),(X (fR HO_3.out) (fun _ hk=>⟨hk.1.1.1.2,⟨hk.1.1.2,⟨hk.1.2,⟨hk.2,⟨hk.1.1.1.1.1,⟨hk.1.1.1.1.2.1,⟨hk.1.1.1.1.2.2.1,⟨hk.1.1.1.1.2.2.2.1,hk.1.1.1.1.2.2.2.2⟩⟩⟩⟩⟩⟩⟩⟩)),(Kd.Q_mono (fQ HO_4.out) (fun _ hk=>⟨hk.1.2,⟨hk.2,⟨hk.1.1.1,hk.1.1.2⟩⟩⟩)),(Kd.Q_mono (fQ HO_5.out) (fun _ hk=>⟨hk.1.1.1.2,⟨hk.1.1.2,⟨hk.1.2,⟨hk.2,⟨hk.1.1.1.1.1,⟨hk.1.1.1.1.2.1,⟨hk.1.1.1.1.2.2.1,⟨hk.1.1.1.1.2.2.2.1,hk.1.1.1.1.2.2.2.2⟩⟩⟩⟩⟩⟩⟩⟩)),(Kd.Q_mono (fQ HO_6.out) (fun _ hk=>⟨hk.1.1.1.2,⟨hk.1.1.2,⟨hk.1.2,⟨hk.2,⟨hk.1.1.1.1.1,⟨hk.1.1.1.1.2.1,⟨hk.1.1.1.1.2.2.1,⟨hk.1.1.1.1.2.2.2.1,hk.1.1.1.1.2.2.2.2⟩⟩⟩⟩⟩⟩⟩⟩)),(Kd.Q_mono (fQ HO_7.out) (fun _ hk=>⟨hk.1.2,⟨hk.2,⟨hk.1.1.1,hk.1.1.2⟩⟩⟩)),(Kd.Q_mono (fQ HO_8.out) (fun _ hk=>⟨hk.1.1.1.2,⟨hk.1.1.2,⟨hk.1.2,⟨hk.2,⟨hk.1.1.1.1.1,⟨hk.1.1.1.1.2.1,⟨hk.1.1.1.1.2.2.1,⟨hk.1.1.1.1.2.2.2.1,hk.1.1.1.1.2.2.2.2⟩⟩⟩⟩⟩⟩⟩⟩)),(Kd.Q_mono (fQ HO_9.out) (fun _ hk=>⟨hk.1.1.1.2,⟨hk.1.1.2,⟨hk.1.2,⟨hk.2,⟨hk.1.1.1.1.1,⟨hk.1.1.1.1.2.1,⟨hk.1.1.1.1.2.2.1,⟨hk.1.1.1.1.2.2.2.1,hk.1.1.1.1.2.2.2.2⟩⟩⟩⟩⟩⟩⟩⟩)),(uK BK6.out),(uK BK1.out),(uK BK2.out),(uK BK3.out),(uK BK4.out),(uK BK5.out),GW6.out,GE6.out,n20.out,n21.out,n22.out,n23.out,n24.out,n25.out,n26.out,n27.out,n28.out,n29.out,uB⟩)
  rintro⟨v16,v17,v18,v19,v20,v21,gb6⟩ w20 ⟨hS_,h1_,h2_,h3_,h4_,h5_,h6_,h7_,h8_,h9_,h10_,h11_,h12_,h13_,h14_,h15_,h16_,h17_,h18_,h19_,h20_,h21_,h22_,h23_,h24_,h25_,h26_,h27_,h28_,h29_,h30_,h31_,h32_,h33_,h34_⟩
  have n0_:D (Kd.R k33 33 w20 w.heap.size (fun k_=>qm k_ v19∧qn k_ Ao1 t20.length co1∧qn k_ Ao4 t84.length co4∧qn k_ Ao7 t53.length co7) v16 t92):=⟨h1_⟩
  have n1_:D (Kd.R (Kd.int .i64) 3 w20 w.heap.size (fun k_=>qm k_ v18∧qm k_ v20∧qm k_ v21∧qn k_ Ao2 t29.length co2∧qn k_ Ao3 t30.length co3∧qn k_ Ao5 t85.length co5∧qn k_ Ao6 t86.length co6∧qn k_ Ao8 t62.length co8∧qn k_ Ao9 t63.length co9) v17 t101):=⟨h2_⟩
  have n2_:D (Kd.R (Kd.int .i64) 3 w20 w.heap.size (fun k_=>qm k_ v17∧qm k_ v20∧qm k_ v21∧qn k_ Ao2 t29.length co2∧qn k_ Ao3 t30.length co3∧qn k_ Ao5 t85.length co5∧qn k_ Ao6 t86.length co6∧qn k_ Ao8 t62.length co8∧qn k_ Ao9 t63.length co9) v18 t102):=⟨h3_⟩
  have n3_:D (Kd.R k33 33 w20 w.heap.size (fun k_=>qm k_ v16∧qn k_ Ao1 t20.length co1∧qn k_ Ao4 t84.length co4∧qn k_ Ao7 t53.length co7) v19 t110):=⟨h4_⟩
  have n4_:D (Kd.Q (Kd.int .i64) 3 w20 w.heap.size (fun k_=>qm k_ v17∧qm k_ v18∧qm k_ v21∧qn k_ Ao2 t29.length co2∧qn k_ Ao3 t30.length co3∧qn k_ Ao5 t85.length co5∧qn k_ Ao6 t86.length co6∧qn k_ Ao8 t62.length co8∧qn k_ Ao9 t63.length co9) v20 t119):=⟨h5_⟩
  have n5_:D (Kd.R (Kd.int .i64) 3 w20 w.heap.size (fun k_=>qm k_ v17∧qm k_ v18∧qm k_ v20∧qn k_ Ao2 t29.length co2∧qn k_ Ao3 t30.length co3∧qn k_ Ao5 t85.length co5∧qn k_ Ao6 t86.length co6∧qn k_ Ao8 t62.length co8∧qn k_ Ao9 t63.length co9) v21 t120):=⟨h6_⟩
  have n6_:D (Kd.R k33 33 w20 w.heap.size (fun k_=>qm k_ v16∧qm k_ v19∧qn k_ Ao4 t84.length co4∧qn k_ Ao7 t53.length co7) (L Ao1 t20.length co1) t20):=⟨h7_⟩
  have n7_:D (Kd.Q (Kd.int .i64) 3 w20 w.heap.size (fun k_=>qm k_ v17∧qm k_ v18∧qm k_ v20∧qm k_ v21∧qn k_ Ao3 t30.length co3∧qn k_ Ao5 t85.length co5∧qn k_ Ao6 t86.length co6∧qn k_ Ao8 t62.length co8∧qn k_ Ao9 t63.length co9) (L Ao2 t29.length co2) t29):=⟨h8_⟩
  have n8_:D (Kd.R (Kd.int .i64) 3 w20 w.heap.size (fun k_=>qm k_ v17∧qm k_ v18∧qm k_ v20∧qm k_ v21∧qn k_ Ao2 t29.length co2∧qn k_ Ao5 t85.length co5∧qn k_ Ao6 t86.length co6∧qn k_ Ao8 t62.length co8∧qn k_ Ao9 t63.length co9) (L Ao3 t30.length co3) t30):=⟨h9_⟩
  have n9_:D (Kd.Q k33 33 w20 w.heap.size (fun k_=>qm k_ v16∧qm k_ v19∧qn k_ Ao1 t20.length co1∧qn k_ Ao7 t53.length co7) (L Ao4 t84.length co4) t84):=⟨h10_⟩
  have n10_:D (Kd.Q (Kd.int .i64) 3 w20 w.heap.size (fun k_=>qm k_ v17∧qm k_ v18∧qm k_ v20∧qm k_ v21∧qn k_ Ao2 t29.length co2∧qn k_ Ao3 t30.length co3∧qn k_ Ao6 t86.length co6∧qn k_ Ao8 t62.length co8∧qn k_ Ao9 t63.length co9) (L Ao5 t85.length co5) t85):=⟨h11_⟩
  have n11_:D (Kd.Q (Kd.int .i64) 3 w20 w.heap.size (fun k_=>qm k_ v17∧qm k_ v18∧qm k_ v20∧qm k_ v21∧qn k_ Ao2 t29.length co2∧qn k_ Ao3 t30.length co3∧qn k_ Ao5 t85.length co5∧qn k_ Ao8 t62.length co8∧qn k_ Ao9 t63.length co9) (L Ao6 t86.length co6) t86):=⟨h12_⟩
  have n12_:D (Kd.Q k33 33 w20 w.heap.size (fun k_=>qm k_ v16∧qm k_ v19∧qn k_ Ao1 t20.length co1∧qn k_ Ao4 t84.length co4) (L Ao7 t53.length co7) t88):=⟨h13_⟩
  have n13_:D (Kd.Q (Kd.int .i64) 3 w20 w.heap.size (fun k_=>qm k_ v17∧qm k_ v18∧qm k_ v20∧qm k_ v21∧qn k_ Ao2 t29.length co2∧qn k_ Ao3 t30.length co3∧qn k_ Ao5 t85.length co5∧qn k_ Ao6 t86.length co6∧qn k_ Ao9 t63.length co9) (L Ao8 t62.length co8) t89):=⟨h14_⟩
  have n14_:D (Kd.Q (Kd.int .i64) 3 w20 w.heap.size (fun k_=>qm k_ v17∧qm k_ v18∧qm k_ v20∧qm k_ v21∧qn k_ Ao2 t29.length co2∧qn k_ Ao3 t30.length co3∧qn k_ Ao5 t85.length co5∧qn k_ Ao6 t86.length co6∧qn k_ Ao8 t62.length co8) (L Ao9 t63.length co9) t90):=⟨h15_⟩
  have n15_:D (w20.heap[gb6]? =some (.cells #[L none 0 0,V I 0,V I 0,V I 0,O false,V I 0,O false,V I 0,V I 0,L none 0 0,L none 0 0,V I 0,O false,V I 0] 36 (0,0))):=⟨h16_⟩
  have n16_:D (w20.heap[gb1]? =some (.cells #[L A0_0 l0_0.length c0_0,V I a0_1,V I a0_2,V I a0_3,O a0_4,V I a0_5,O a0_6,V I a0_7,V I a0_8,L A0_9 l0_9.length c0_9,L A0_10 l0_10.length c0_10,V I a0_11,O a0_12,V I a0_13] 29 (0,0))):=⟨h17_⟩
  have n17_:D (w20.heap[gb2]? =some (.cells #[V I a1_0,V I a1_1,V I a1_2,V I a1_3] 50 (0,0))):=⟨h18_⟩
  have n18_:D (w20.heap[gb3]? =some (.cells #[L Ao1 t20.length co1,V I t21,V I t22,V I t23,O t24,V I t25,O t26,V I t27,V I t28,L Ao2 t29.length co2,L Ao3 t30.length co3,V I t31,O t32,V I t33] 36 (0,0))):=⟨h19_⟩
  have n19_:D (w20.heap[gb4]? =some (.cells #[L Ao4 t84.length co4,V I t36,V I t37,V I t38,O t39,V I t40,O t41,V I t42,V I t43,L Ao5 t85.length co5,L Ao6 t86.length co6,V I t46,O t47,V I t48] 36 (0,0))):=⟨h20_⟩
  have n20_:D (w20.heap[gb5]? =some (.cells #[L Ao7 t53.length co7,V I t54,V I t55,V I t56,O t57,V I t58,O t59,V I t60,V I t61,L Ao8 t62.length co8,L Ao9 t63.length co9,V I t64,O t65,V I t66] 36 (0,0))):=⟨h21_⟩
  have n21_:D (w.heap.size≤gb6):=⟨h22_⟩
  have n22_:D (w.heap.size≤gb6):=⟨h23_⟩
  have n23_:D (gb1≠gb6):=⟨h24_⟩
  have n24_:D (gb6≠gb1):=⟨h25_⟩
  have n25_:D (gb2≠gb6):=⟨h26_⟩
  have n26_:D (gb6≠gb2):=⟨h27_⟩
  have n27_:D (gb3≠gb6):=⟨h28_⟩
  have n28_:D (gb6≠gb3):=⟨h29_⟩
  have n29_:D (gb4≠gb6):=⟨h30_⟩
  have n30_:D (gb6≠gb4):=⟨h31_⟩
  have n31_:D (gb5≠gb6):=⟨h32_⟩
  have n32_:D (gb6≠gb5):=⟨h33_⟩
  have n33_:D (Below w.heap.size w w20):=⟨h34_⟩
  clear HO_1
  clear HO_2
  clear HO_3
  clear HO_4
  clear HO_5
  clear HO_6
  clear HO_7
  clear HO_8
  clear HO_9
  clear BK1
  clear BK2
  clear BK3
  clear BK4
  clear BK5
  clear HB
  clear h1_ h2_ h3_ h4_ h5_ h6_ h7_ h8_ h9_ h10_ h11_ h12_ h13_ h14_ h15_ h16_ h17_ h18_ h19_ h20_ h21_ h22_ h23_ h24_ h25_ h26_ h27_ h28_ h29_ h30_ h31_ h32_ h33_ h34_
  have HO16:=n0_
  have HO17:=n1_
  have HO18:=n2_
  have HO19:=n3_
  have HO20:=n4_
  have HO21:=n5_
  have HO_1:=n6_
  have HO_2:=n7_
  have HO_3:=n8_
  have HO_4:=n9_
  have HO_5:=n10_
  have HO_6:=n11_
  have HO_7:=n12_
  have HO_8:=n13_
  have HO_9:=n14_
  have BK6:=n15_
  have BK1:=n16_
  have BK2:=n17_
  have BK3:=n18_
  have BK4:=n19_
  have BK5:=n20_
  have GW6:=n21_
  have GE6:=n22_
  have n20:=n23_
  have n21:=n24_
  have n22:=n25_
  have n23:=n26_
  have n24:=n27_
  have n25:=n28_
  have n26:=n29_
  have n27:=n30_
  have n28:=n31_
  have n29:=n32_
  have HB:=n33_
  clear n0_ n1_ n2_ n3_ n4_ n5_ n6_ n7_ n8_ n9_ n10_ n11_ n12_ n13_ n14_ n15_ n16_ n17_ n18_ n19_ n20_ n21_ n22_ n23_ n24_ n25_ n26_ n27_ n28_ n29_ n30_ n31_ n32_ n33_
  have hHeld:w20.cell? ⟨gb1,0,none⟩=some (L A0_0 l0_0.length c0_0)∧w20.cell? ⟨gb1,1,none⟩=some (V I a0_1)∧w20.cell? ⟨gb1,2,none⟩=some (V I a0_2)∧w20.cell? ⟨gb1,3,none⟩=some (V I a0_3)∧w20.cell? ⟨gb1,4,none⟩=some (O a0_4)∧w20.cell? ⟨gb1,5,none⟩=some (V I a0_5)∧w20.cell? ⟨gb1,6,none⟩=some (O a0_6)∧w20.cell? ⟨gb1,7,none⟩=some (V I a0_7)∧w20.cell? ⟨gb1,8,none⟩=some (V I a0_8)∧w20.cell? ⟨gb1,9,none⟩=some (L A0_9 l0_9.length c0_9)∧w20.cell? ⟨gb1,10,none⟩=some (L A0_10 l0_10.length c0_10)∧w20.cell? ⟨gb1,11,none⟩=some (V I a0_11)∧w20.cell? ⟨gb1,12,none⟩=some (O a0_12)∧w20.cell? ⟨gb1,13,none⟩=some (V I a0_13)∧w20.cell? ⟨gb2,0,none⟩=some (V I a1_0)∧w20.cell? ⟨gb2,1,none⟩=some (V I a1_1)∧w20.cell? ⟨gb2,2,none⟩=some (V I a1_2)∧w20.cell? ⟨gb2,3,none⟩=some (V I a1_3):=hS_
  obtain⟨Ao13,co13,eo13⟩:=U HO19.out
  (first|subst eo13|(injection eo13 with f1_ f2_ f3_;have f4_:=f1_.symm;have f5_:=f3_.symm;clear f1_ f2_ f3_;subst f4_;subst f5_))
  obtain⟨Ao14,co14,eo14,_⟩:=Kd.Q_slice HO20.out
  (first|subst eo14|(injection eo14 with f1_ f2_ f3_;have f4_:=f1_.symm;have f5_:=f3_.symm;clear f1_ f2_ f3_;subst f4_;subst f5_))
  obtain⟨Ao15,co15,eo15⟩:=U HO21.out
  (first|subst eo15|(injection eo15 with f1_ f2_ f3_;have f4_:=f1_.symm;have f5_:=f3_.symm;clear f1_ f2_ f3_;subst f4_;subst f5_))
  refine norm_ (a':= ?_) ?_ ?_
  rotate_left
  ·simp only[putAll,Act.put,List.setIfInBounds_toArray,List.set_cons_zero,List.set_cons_succ]
   rfl
  refine ou 9 (none) (fun K hK=> ?_)
  obtain⟨hs29,hs30,hs31,hs32,hs33,hs34,hs35,hs36,hs37,hs38,hs39,hs40,hs41,hs42,hfs29,hfs30,hfs31,hfs32,hfs33,hfs34,hfs35,hfs36,hfs37,hfs38,hfs39,hfs40,hfs41,hfs42⟩:=d14 BK6.out
  have hns3_0:=n20.out
  have hns3_1:=n22.out
  have hns3_2:=n24.out
  have hns3_3:=n26.out
  have hns3_4:=n28.out
  have hms3_0:=n21.out
  have hms3_1:=n23.out
  have hms3_2:=n25.out
  have hms3_3:=n27.out
  have hms3_4:=n29.out
  refine skip_ (w1:= ?_) (by rfl) rfl ?_ ?_
  rotate_left
  ·go_simp
   rfl
  refine hK.out _ _ ⟨(cf14 n20.out (hHeld.1)),(cf14 n20.out (hHeld.2.1)),(cf14 n20.out (hHeld.2.2.1)),(cf14 n20.out (hHeld.2.2.2.1)),(cf14 n20.out (hHeld.2.2.2.2.1)),(cf14 n20.out (hHeld.2.2.2.2.2.1)),(cf14 n20.out (hHeld.2.2.2.2.2.2.1)),(cf14 n20.out (hHeld.2.2.2.2.2.2.2.1)),(cf14 n20.out (hHeld.2.2.2.2.2.2.2.2.1)),(cf14 n20.out (hHeld.2.2.2.2.2.2.2.2.2.1)),(cf14 n20.out (hHeld.2.2.2.2.2.2.2.2.2.2.1)),(cf14 n20.out (hHeld.2.2.2.2.2.2.2.2.2.2.2.1)),(cf14 n20.out (hHeld.2.2.2.2.2.2.2.2.2.2.2.2.1)),(cf14 n20.out (hHeld.2.2.2.2.2.2.2.2.2.2.2.2.2.1)),(cf14 n22.out (hHeld.2.2.2.2.2.2.2.2.2.2.2.2.2.2.1)),(cf14 n22.out (hHeld.2.2.2.2.2.2.2.2.2.2.2.2.2.2.2.1)),(cf14 n22.out (hHeld.2.2.2.2.2.2.2.2.2.2.2.2.2.2.2.2.1)),(cf14 n22.out (hHeld.2.2.2.2.2.2.2.2.2.2.2.2.2.2.2.2.2))⟩ (fun hHeld=> ?_)
  clear hK K
  refine pu 10 (some 15) ?_
  refine done_ (done_of HT_.out (by kernel_rfl)) ?_
  go_upto_region 25 with(fail)
  go_cut [95] (fun v95 wc=>∃(kq:Nat) (x3_153:Bool),v95=O x3_153∧D (laws_FnExactDoAct.j2 kq t87 x3_153 t88 t54 t55 t56 t57 t58 t59 t60 t61 t89 t90 t64 t65 t66=some r)∧D (kq≤kj109)∧D (Kd.R k33 33 wc w.heap.size (fun k_=>some k_≠Fix.o Ao4 t84.length co4∧some k_≠Fix.o Ao7 t53.length co7∧some k_≠Fix.o Ao13 t110.length co13) (L Ao1 t20.length co1) t20)∧D (Kd.Q (Kd.int .i64) 3 wc w.heap.size (fun k_=>some k_≠Fix.o Ao3 t30.length co3∧some k_≠Fix.o Ao5 t85.length co5∧some k_≠Fix.o Ao6 t86.length co6∧some k_≠Fix.o Ao8 t62.length co8∧some k_≠Fix.o Ao9 t63.length co9∧some k_≠Fix.o Ao14 t119.length co14∧some k_≠Fix.o Ao15 t120.length co15) (L Ao2 t29.length co2) t29)∧D (Kd.R (Kd.int .i64) 3 wc w.heap.size (fun k_=>some k_≠Fix.o Ao2 t29.length co2∧some k_≠Fix.o Ao5 t85.length co5∧some k_≠Fix.o Ao6 t86.length co6∧some k_≠Fix.o Ao8 t62.length co8∧some k_≠Fix.o Ao9 t63.length co9∧some k_≠Fix.o Ao14 t119.length co14∧some k_≠Fix.o Ao15 t120.length co15) (L Ao3 t30.length co3) t30)∧D (Kd.Q k33 33 wc w.heap.size (fun k_=>some k_≠Fix.o Ao1 t20.length co1∧some k_≠Fix.o Ao7 t53.length co7∧some k_≠Fix.o Ao13 t110.length co13) (L Ao4 t84.length co4) t84)∧D (Kd.Q (Kd.int .i64) 3 wc w.heap.size (fun k_=>some k_≠Fix.o Ao2 t29.length co2∧some k_≠Fix.o Ao3 t30.length co3∧some k_≠Fix.o Ao6 t86.length co6∧some k_≠Fix.o Ao8 t62.length co8∧some k_≠Fix.o Ao9 t63.length co9∧some k_≠Fix.o Ao14 t119.length co14∧some k_≠Fix.o Ao15 t120.length co15) (L Ao5 t85.length co5) t85)∧D (Kd.Q (Kd.int .i64) 3 wc w.heap.size (fun k_=>some k_≠Fix.o Ao2 t29.length co2∧some k_≠Fix.o Ao3 t30.length co3∧some k_≠Fix.o Ao5 t85.length co5∧some k_≠Fix.o Ao8 t62.length co8∧some k_≠Fix.o Ao9 t63.length co9∧some k_≠Fix.o Ao14 t119.length co14∧some k_≠Fix.o Ao15 t120.length co15) (L Ao6 t86.length co6) t86)∧D (Kd.Q k33 33 wc w.heap.size (fun k_=>some k_≠Fix.o Ao1 t20.length co1∧some k_≠Fix.o Ao4 t84.length co4∧some k_≠Fix.o Ao13 t110.length co13) (L Ao7 t53.length co7) t88)∧D (Kd.Q (Kd.int .i64) 3 wc w.heap.size (fun k_=>some k_≠Fix.o Ao2 t29.length co2∧some k_≠Fix.o Ao3 t30.length co3∧some k_≠Fix.o Ao5 t85.length co5∧some k_≠Fix.o Ao6 t86.length co6∧some k_≠Fix.o Ao9 t63.length co9∧some k_≠Fix.o Ao14 t119.length co14∧some k_≠Fix.o Ao15 t120.length co15) (L Ao8 t62.length co8) t89)∧D (Kd.Q (Kd.int .i64) 3 wc w.heap.size (fun k_=>some k_≠Fix.o Ao2 t29.length co2∧some k_≠Fix.o Ao3 t30.length co3∧some k_≠Fix.o Ao5 t85.length co5∧some k_≠Fix.o Ao6 t86.length co6∧some k_≠Fix.o Ao8 t62.length co8∧some k_≠Fix.o Ao14 t119.length co14∧some k_≠Fix.o Ao15 t120.length co15) (L Ao9 t63.length co9) t90)∧D (Kd.R k33 33 wc w.heap.size (fun k_=>some k_≠Fix.o Ao1 t20.length co1∧some k_≠Fix.o Ao4 t84.length co4∧some k_≠Fix.o Ao7 t53.length co7) (L Ao13 t110.length co13) t110)∧D (Kd.Q (Kd.int .i64) 3 wc w.heap.size (fun k_=>some k_≠Fix.o Ao2 t29.length co2∧some k_≠Fix.o Ao3 t30.length co3∧some k_≠Fix.o Ao5 t85.length co5∧some k_≠Fix.o Ao6 t86.length co6∧some k_≠Fix.o Ao8 t62.length co8∧some k_≠Fix.o Ao9 t63.length co9∧some k_≠Fix.o Ao15 t120.length co15) (L Ao14 t119.length co14) t119)∧D (Kd.R (Kd.int .i64) 3 wc w.heap.size (fun k_=>some k_≠Fix.o Ao2 t29.length co2∧some k_≠Fix.o Ao3 t30.length co3∧some k_≠Fix.o Ao5 t85.length co5∧some k_≠Fix.o Ao6 t86.length co6∧some k_≠Fix.o Ao8 t62.length co8∧some k_≠Fix.o Ao9 t63.length co9∧some k_≠Fix.o Ao14 t119.length co14) (L Ao15 t120.length co15) t120)∧D (wc.heap[gb1]? =some (.cells #[(L A0_0 l0_0.length c0_0),V I a0_1,V I a0_2,V I a0_3,O a0_4,V I a0_5,O a0_6,V I a0_7,V I a0_8,(L A0_9 l0_9.length c0_9),(L A0_10 l0_10.length c0_10),V I a0_11,O a0_12,V I a0_13] 29 (0,0)))∧D (wc.heap[gb2]? =some (.cells #[V I a1_0,V I a1_1,V I a1_2,V I a1_3] 50 (0,0)))∧D (wc.heap[gb3]? =some (.cells #[(L Ao1 t20.length co1),V I t21,V I t22,V I t23,O t24,V I t25,O t26,V I t27,V I t28,(L Ao2 t29.length co2),(L Ao3 t30.length co3),V I t31,O t32,V I t33] 36 (0,0)))∧D (wc.heap[gb4]? =some (.cells #[(L Ao4 t84.length co4),V I t36,V I t37,V I t38,O t39,V I t40,O t41,V I t42,V I t43,(L Ao5 t85.length co5),(L Ao6 t86.length co6),V I t46,O t47,V I t48] 36 (0,0)))∧D (wc.heap[gb5]? =some (.cells #[(L Ao7 t53.length co7),V I t54,V I t55,V I t56,O t57,V I t58,O t59,V I t60,V I t61,(L Ao8 t62.length co8),(L Ao9 t63.length co9),V I t64,O t65,V I t66] 36 (0,0)))∧D (wc.heap[gb6]? =some (.cells #[(L Ao13 t110.length co13),V I t111,V I t112,V I t113,O t114,V I t115,O t116,V I t117,V I t118,(L Ao14 t119.length co14),(L Ao15 t120.length co15),V I t121,O t122,V I t123] 36 (0,0)))∧D (Below w.heap.size w wc))
  case first=>
   have H:=HC4.out
   clear HC4
   obtain⟨t125,A16,H⟩:=bnd H
   by_cases c7:t125=true
   rotate_left
   ·obtain rfl:=nt c7
    replace H:=nf H
    rw[hT.out]at H
    exact absurd H (by cases kj109<;>simp[laws_FnExactDoAct.j2])
   subst c7
   rw[if_pos rfl]at H
   have H':=C H
   clear H
   have:=n21.out
   have:=n20.out
   have:=n23.out
   have:=n22.out
   have:=n25.out
   have:=n24.out
   have:=n27.out
   have:=n26.out
   have:=n29.out
   have:=n28.out
   have h_:=d14 BK6.out;(repeat(obtain⟨_,h_⟩:=h_))
   have:=n3.out
   have:=n2.out
   have:=n5.out
   have:=n4.out
   have:=n10.out
   have:=n11.out
   have:=n16.out
   have:=n17.out
   have h_:=d14 BK3.out;(repeat(obtain⟨_,h_⟩:=h_))
   go_wp2_with (first|((with_reducible refine gate_callee (f:=13) rfl ?_);refine gl 13 (some 89) func13 #[G #[L Ao13 t110.length co13,V I t111,V I t112,V I t113,O t114,V I t115,O t116,V I t117,V I t118,L Ao14 t119.length co14,L Ao15 t120.length co15,V I t121,O t122,V I t123],G #[L Ao1 t20.length co1,V I t21,V I t22,V I t23,O t24,V I t25,O t26,V I t27,V I t28,L Ao2 t29.length co2,L Ao3 t30.length co3,V I t31,O t32,V I t33]] ?_;(with_reducible refine(laws_eqMachine.calls kj109 _ _ t110 t111 t112 t113 t114 t115 t116 t117 t118 _ _ t119 _ _ t120 t121 t122 t123 _ _ t20 t21 t22 t23 t24 t25 t26 t27 t28 _ _ t29 _ _ t30 t31 t32 t33 true _ ?side1 ?side2 ?side3 ?side4 ?side5 ?side6 ?side7 ?side8 ?side9 ?side10 ?side11 ?side12 A16.out).mono ?_);(case side1=>refine(Kd.R_reads' (e:=33) (base:=w.heap.size) (ok:=fun k_=>(qm k_ v16∧(qn k_ Ao1 t20.length co1∧(qn k_ Ao4 t84.length co4∧qn k_ Ao7 t53.length co7)))) (n:=t110.length) (c:=co13) ?_).2.2;exact(X (fR (Y HO19.out BK6.out (by decide))) (fun _ h_=>h_.1)));(case side2=>exact(Kd.R_reads' HO19.out).2.1);(case side3=>refine(Kd.Q_reads' (e:=3) (base:=w.heap.size) (ok:=fun k_=>(qm k_ v17∧(qm k_ v18∧(qn k_ Ao15 t120.length co15∧(qn k_ Ao2 t29.length co2∧(qn k_ Ao3 t30.length co3∧(qn k_ Ao5 t85.length co5∧(qn k_ Ao6 t86.length co6∧(qn k_ Ao8 t62.length co8∧qn k_ Ao9 t63.length co9))))))))) (n:=t119.length) (c:=co14) ?_).2.2;exact(Kd.Q_mono (fQ (Kd.Q_types HO20.out BK6.out (by decide))) (fun _ h_=>h_.1)));(case side4=>exact(Kd.Q_reads' HO20.out).2.1);(case side5=>refine(Kd.R_reads' (e:=3) (base:=w.heap.size) (ok:=fun k_=>(qm k_ v17∧(qm k_ v18∧(qn k_ Ao14 t119.length co14∧(qn k_ Ao2 t29.length co2∧(qn k_ Ao3 t30.length co3∧(qn k_ Ao5 t85.length co5∧(qn k_ Ao6 t86.length co6∧(qn k_ Ao8 t62.length co8∧qn k_ Ao9 t63.length co9))))))))) (n:=t120.length) (c:=co15) ?_).2.2;exact(X (fR (Y HO21.out BK6.out (by decide))) (fun _ h_=>h_.1)));(case side6=>exact(Kd.R_reads' HO21.out).2.1);(case side7=>refine(Kd.R_reads' (e:=33) (base:=w.heap.size) (ok:=fun k_=>(qm k_ v16∧(qn k_ Ao13 t110.length co13∧(qn k_ Ao4 t84.length co4∧qn k_ Ao7 t53.length co7)))) (n:=t20.length) (c:=co1) ?_).2.2;exact(X (fR (Y HO_1.out BK6.out (by decide))) (fun _ h_=>h_.1)));(case side8=>exact(Kd.R_reads' HO_1.out).2.1);(case side9=>refine(Kd.Q_reads' (e:=3) (base:=w.heap.size) (ok:=fun k_=>(qm k_ v17∧(qm k_ v18∧(qn k_ Ao14 t119.length co14∧(qn k_ Ao15 t120.length co15∧(qn k_ Ao3 t30.length co3∧(qn k_ Ao5 t85.length co5∧(qn k_ Ao6 t86.length co6∧(qn k_ Ao8 t62.length co8∧qn k_ Ao9 t63.length co9))))))))) (n:=t29.length) (c:=co2) ?_).2.2;exact(Kd.Q_mono (fQ (Kd.Q_types HO_2.out BK6.out (by decide))) (fun _ h_=>h_.1)));(case side10=>exact(Kd.Q_reads' HO_2.out).2.1);(case side11=>refine(Kd.R_reads' (e:=3) (base:=w.heap.size) (ok:=fun k_=>(qm k_ v17∧(qm k_ v18∧(qn k_ Ao14 t119.length co14∧(qn k_ Ao15 t120.length co15∧(qn k_ Ao2 t29.length co2∧(qn k_ Ao5 t85.length co5∧(qn k_ Ao6 t86.length co6∧(qn k_ Ao8 t62.length co8∧qn k_ Ao9 t63.length co9))))))))) (n:=t30.length) (c:=co3) ?_).2.2;exact(X (fR (Y HO_3.out BK6.out (by decide))) (fun _ h_=>h_.1)));(case side12=>exact(Kd.R_reads' HO_3.out).2.1);rintro e w21 ⟨rfl,hb⟩;refine⟨_,rfl,?_⟩;replace HO_1:=C (T (X (fR (Y HO_1.out BK6.out (by decide))) (fun _ h_=>h_.1)) hb);replace HO_2:=C (Kd.Q_below (Kd.Q_mono (fQ (Kd.Q_types HO_2.out BK6.out (by decide))) (fun _ h_=>h_.1)) hb);replace HO_3:=C (T (X (fR (Y HO_3.out BK6.out (by decide))) (fun _ h_=>h_.1)) hb);replace HO_4:=C (Kd.Q_below (Kd.Q_mono (fQ (Kd.Q_types HO_4.out BK6.out (by decide))) (fun _ h_=>h_.1)) hb);replace HO_5:=C (Kd.Q_below (Kd.Q_mono (fQ (Kd.Q_types HO_5.out BK6.out (by decide))) (fun _ h_=>h_.1)) hb);replace HO_6:=C (Kd.Q_below (Kd.Q_mono (fQ (Kd.Q_types HO_6.out BK6.out (by decide))) (fun _ h_=>h_.1)) hb);replace HO_7:=C (Kd.Q_below (Kd.Q_mono (fQ (Kd.Q_types HO_7.out BK6.out (by decide))) (fun _ h_=>h_.1)) hb);replace HO_8:=C (Kd.Q_below (Kd.Q_mono (fQ (Kd.Q_types HO_8.out BK6.out (by decide))) (fun _ h_=>h_.1)) hb);replace HO_9:=C (Kd.Q_below (Kd.Q_mono (fQ (Kd.Q_types HO_9.out BK6.out (by decide))) (fun _ h_=>h_.1)) hb);replace HO16:=C (T (X (fR (Y HO16.out BK6.out (by decide))) (fun _ h_=>h_.1)) hb);replace HO17:=C (T (X (fR (Y HO17.out BK6.out (by decide))) (fun _ h_=>h_.1)) hb);replace HO18:=C (T (X (fR (Y HO18.out BK6.out (by decide))) (fun _ h_=>h_.1)) hb);replace HO19:=C (T (X (fR (Y HO19.out BK6.out (by decide))) (fun _ h_=>h_.1)) hb);replace HO20:=C (Kd.Q_below (Kd.Q_mono (fQ (Kd.Q_types HO20.out BK6.out (by decide))) (fun _ h_=>h_.1)) hb);replace HO21:=C (T (X (fR (Y HO21.out BK6.out (by decide))) (fun _ h_=>h_.1)) hb);replace BK1:=eK BK1 hb;replace BK2:=eK BK2 hb;replace BK3:=eK BK3 hb;replace BK4:=eK BK4 hb;replace BK5:=eK BK5 hb;replace BK6:=C (blk_below (g:=gb6) (o:=.cells #[L Ao13 t110.length co13,V I t111,V I t112,V I t113,O t114,V I t115,O t116,V I t117,V I t118,L Ao14 t119.length co14,L Ao15 t120.length co15,V I t121,O t122,V I t123] 36 (0,0)) (bK BK6.out) hb);replace HB:=eB hb;clear hb))
   go_meet
   case rel=>exact⟨_,((t124 !=t34)),rS,H',⟨by have:=HJ1.out;have:=HJ2.out;first|omega|exact Nat.le_refl _⟩,⟨by(try simp only[hl1_109]);(try simp only[hl2_109]);(try simp only[hl3_109]);(with_reducible repeat(first|apply Kd.R_alloc|apply Kd.R_drewN|apply Kd.R_drew));exact X HO_1.out (fun _ hk=>⟨hk.2.2.1,⟨hk.2.2.2,hk.2.1⟩⟩)⟩,⟨by(try simp only[hl1_109]);(try simp only[hl2_109]);(try simp only[hl3_109]);(with_reducible repeat(first|apply Kd.Q_alloc|apply Kd.Q_drewN|apply Kd.Q_drew));exact Kd.Q_mono HO_2.out (fun _ hk=>⟨hk.2.2.2.2.1,⟨hk.2.2.2.2.2.1,⟨hk.2.2.2.2.2.2.1,⟨hk.2.2.2.2.2.2.2.1,⟨hk.2.2.2.2.2.2.2.2,⟨hk.2.2.1,hk.2.2.2.1⟩⟩⟩⟩⟩⟩)⟩,⟨by(try simp only[hl1_109]);(try simp only[hl2_109]);(try simp only[hl3_109]);(with_reducible repeat(first|apply Kd.R_alloc|apply Kd.R_drewN|apply Kd.R_drew));exact X HO_3.out (fun _ hk=>⟨hk.2.2.2.2.1,⟨hk.2.2.2.2.2.1,⟨hk.2.2.2.2.2.2.1,⟨hk.2.2.2.2.2.2.2.1,⟨hk.2.2.2.2.2.2.2.2,⟨hk.2.2.1,hk.2.2.2.1⟩⟩⟩⟩⟩⟩)⟩,⟨by(try simp only[hl1_109]);(try simp only[hl2_109]);(try simp only[hl3_109]);(with_reducible repeat(first|apply Kd.Q_alloc|apply Kd.Q_drewN|apply Kd.Q_drew));exact Kd.Q_mono HO_4.out (fun _ hk=>⟨hk.2.2.1,⟨hk.2.2.2,hk.2.1⟩⟩)⟩,⟨by(try simp only[hl1_109]);(try simp only[hl2_109]);(try simp only[hl3_109]);(with_reducible repeat(first|apply Kd.Q_alloc|apply Kd.Q_drewN|apply Kd.Q_drew));exact Kd.Q_mono HO_5.out (fun _ hk=>⟨hk.2.2.2.2.1,⟨hk.2.2.2.2.2.1,⟨hk.2.2.2.2.2.2.1,⟨hk.2.2.2.2.2.2.2.1,⟨hk.2.2.2.2.2.2.2.2,⟨hk.2.2.1,hk.2.2.2.1⟩⟩⟩⟩⟩⟩)⟩,⟨by(try simp only[hl1_109]);(try simp only[hl2_109]);(try simp only[hl3_109]);(with_reducible repeat(first|apply Kd.Q_alloc|apply Kd.Q_drewN|apply Kd.Q_drew));exact Kd.Q_mono HO_6.out (fun _ hk=>⟨hk.2.2.2.2.1,⟨hk.2.2.2.2.2.1,⟨hk.2.2.2.2.2.2.1,⟨hk.2.2.2.2.2.2.2.1,⟨hk.2.2.2.2.2.2.2.2,⟨hk.2.2.1,hk.2.2.2.1⟩⟩⟩⟩⟩⟩)⟩,⟨by(try simp only[hl1_109]);(try simp only[hl2_109]);(try simp only[hl3_109]);(with_reducible repeat(first|apply Kd.Q_alloc|apply Kd.Q_drewN|apply Kd.Q_drew));exact Kd.Q_mono HO_7.out (fun _ hk=>⟨hk.2.2.1,⟨hk.2.2.2,hk.2.1⟩⟩)⟩,⟨by(try simp only[hl1_109]);(try simp only[hl2_109]);(try simp only[hl3_109]);(with_reducible repeat(first|apply Kd.Q_alloc|apply Kd.Q_drewN|apply Kd.Q_drew));exact Kd.Q_mono HO_8.out (fun _ hk=>⟨hk.2.2.2.2.1,⟨hk.2.2.2.2.2.1,⟨hk.2.2.2.2.2.2.1,⟨hk.2.2.2.2.2.2.2.1,⟨hk.2.2.2.2.2.2.2.2,⟨hk.2.2.1,hk.2.2.2.1⟩⟩⟩⟩⟩⟩)⟩,⟨by(try simp only[hl1_109]);(try simp only[hl2_109]);(try simp only[hl3_109]);(with_reducible repeat(first|apply Kd.Q_alloc|apply Kd.Q_drewN|apply Kd.Q_drew));exact Kd.Q_mono HO_9.out (fun _ hk=>⟨hk.2.2.2.2.1,⟨hk.2.2.2.2.2.1,⟨hk.2.2.2.2.2.2.1,⟨hk.2.2.2.2.2.2.2.1,⟨hk.2.2.2.2.2.2.2.2,⟨hk.2.2.1,hk.2.2.2.1⟩⟩⟩⟩⟩⟩)⟩,⟨by(try simp only[hl1_109]);(try simp only[hl2_109]);(try simp only[hl3_109]);(with_reducible repeat(first|apply Kd.R_alloc|apply Kd.R_drewN|apply Kd.R_drew));exact X HO19.out (fun _ hk=>⟨hk.2.1,⟨hk.2.2.1,hk.2.2.2⟩⟩)⟩,⟨by(try simp only[hl1_109]);(try simp only[hl2_109]);(try simp only[hl3_109]);(with_reducible repeat(first|apply Kd.Q_alloc|apply Kd.Q_drewN|apply Kd.Q_drew));exact Kd.Q_mono HO20.out (fun _ hk=>⟨hk.2.2.2.1,⟨hk.2.2.2.2.1,⟨hk.2.2.2.2.2.1,⟨hk.2.2.2.2.2.2.1,⟨hk.2.2.2.2.2.2.2.1,⟨hk.2.2.2.2.2.2.2.2,hk.2.2.1⟩⟩⟩⟩⟩⟩)⟩,⟨by(try simp only[hl1_109]);(try simp only[hl2_109]);(try simp only[hl3_109]);(with_reducible repeat(first|apply Kd.R_alloc|apply Kd.R_drewN|apply Kd.R_drew));exact X HO21.out (fun _ hk=>⟨hk.2.2.2.1,⟨hk.2.2.2.2.1,⟨hk.2.2.2.2.2.1,⟨hk.2.2.2.2.2.2.1,⟨hk.2.2.2.2.2.2.2.1,⟨hk.2.2.2.2.2.2.2.2,hk.2.2.1⟩⟩⟩⟩⟩⟩)⟩,⟨by(try simp only[hl1_109]);(try simp only[hl2_109]);(try simp only[hl3_109]);exact bK BK1.out⟩,⟨by(try simp only[hl1_109]);(try simp only[hl2_109]);(try simp only[hl3_109]);exact bK BK2.out⟩,⟨by(try simp only[hl1_109]);(try simp only[hl2_109]);(try simp only[hl3_109]);exact bK BK3.out⟩,⟨by(try simp only[hl1_109]);(try simp only[hl2_109]);(try simp only[hl3_109]);exact bK BK4.out⟩,⟨by(try simp only[hl1_109]);(try simp only[hl2_109]);(try simp only[hl3_109]);exact bK BK5.out⟩,⟨by(try simp only[hl1_109]);(try simp only[hl2_109]);(try simp only[hl3_109]);exact bK BK6.out⟩,⟨uB⟩⟩
  case rest=>
   clear HC4
   obtain⟨kq,x3_153,rfl,HA,HJ3,HO_1,HO_2,HO_3,HO_4,HO_5,HO_6,HO_7,HO_8,HO_9,HO_10,HO_11,HO_12,BK1,BK2,BK3,BK4,BK5,BK6,HB⟩:=hcut
   have hl4_153:=(Kd.Q_reads' HO_7.out).1
   rw[hl4_153]at HO_7
   (try simp only[hl4_153])
   (try simp only[hl4_153]at BK1)
   (try simp only[hl4_153]at BK2)
   (try simp only[hl4_153]at BK3)
   (try simp only[hl4_153]at BK4)
   (try simp only[hl4_153]at BK5)
   (try simp only[hl4_153]at BK6)
   (try simp only[hl4_153]at HO_1)
   (try simp only[hl4_153]at HO_2)
   (try simp only[hl4_153]at HO_3)
   (try simp only[hl4_153]at HO_4)
   (try simp only[hl4_153]at HO_5)
   (try simp only[hl4_153]at HO_6)
   (try simp only[hl4_153]at HO_8)
   (try simp only[hl4_153]at HO_9)
   (try simp only[hl4_153]at HO_10)
   (try simp only[hl4_153]at HO_11)
   (try simp only[hl4_153]at HO_12)
   have hl5_153:=(Kd.Q_reads' HO_8.out).1
   rw[hl5_153]at HO_8
   (try simp only[hl5_153])
   (try simp only[hl5_153]at BK1)
   (try simp only[hl5_153]at BK2)
   (try simp only[hl5_153]at BK3)
   (try simp only[hl5_153]at BK4)
   (try simp only[hl5_153]at BK5)
   (try simp only[hl5_153]at BK6)
   (try simp only[hl5_153]at HO_1)
   (try simp only[hl5_153]at HO_2)
   (try simp only[hl5_153]at HO_3)
   (try simp only[hl5_153]at HO_4)
   (try simp only[hl5_153]at HO_5)
   (try simp only[hl5_153]at HO_6)
   (try simp only[hl5_153]at HO_7)
   (try simp only[hl5_153]at HO_9)
   (try simp only[hl5_153]at HO_10)
   (try simp only[hl5_153]at HO_11)
   (try simp only[hl5_153]at HO_12)
   have hl6_153:=(Kd.Q_reads' HO_9.out).1
   rw[hl6_153]at HO_9
   (try simp only[hl6_153])
   (try simp only[hl6_153]at BK1)
   (try simp only[hl6_153]at BK2)
   (try simp only[hl6_153]at BK3)
   (try simp only[hl6_153]at BK4)
   (try simp only[hl6_153]at BK5)
   (try simp only[hl6_153]at BK6)
   (try simp only[hl6_153]at HO_1)
   (try simp only[hl6_153]at HO_2)
   (try simp only[hl6_153]at HO_3)
   (try simp only[hl6_153]at HO_4)
   (try simp only[hl6_153]at HO_5)
   (try simp only[hl6_153]at HO_6)
   (try simp only[hl6_153]at HO_7)
   (try simp only[hl6_153]at HO_8)
   (try simp only[hl6_153]at HO_10)
   (try simp only[hl6_153]at HO_11)
   (try simp only[hl6_153]at HO_12)
   cases kq with
   |zero=>exact absurd HA.out (by simp[laws_FnExactDoAct.j2])
   |succ kj153=>
    have H:=HA.out
    clear HA
    simp only[laws_FnExactDoAct.j2]at H
    by_cases c7:x3_153=true
    ·subst c7
     rw[if_pos rfl]at H
     exact absurd (hT.out ▸ H) (by simp)
    obtain rfl:=nt c7
    replace H:=nf H
    obtain⟨t125,A16,H⟩:=bnd H
    by_cases c8:t125<0
    ·rw[if_pos c8]at H
     replace c8:=decide_eq_true c8
     exact absurd (hT.out ▸ H) (by simp)
    rw[if_neg c8]at H
    replace c8:=decide_eq_false c8
    by_cases c9:t125=t87
    rotate_left
    ·rw[if_neg c9]at H
     have c9b0:(t125==t87)=false:=beq_eq_false_iff_ne.mpr c9
     have c9b1:(t125 !=t87)=true:=bne_iff_ne.mpr c9
     exact absurd (hT.out ▸ H) (by simp)
    rw[if_pos c9]at H
    have c9b0:(t125==t87)=true:=beq_iff_eq.mpr c9
    have c9b1:(t125 !=t87)=false:=bne_eq_false_iff_eq.mpr c9
    clear c9
    obtain rfl:=si H
    have:=n13.out
    have:=n12.out
    have:=n15.out
    have:=n14.out
    have:=n17.out
    have:=n16.out
    have:=n19.out
    have:=n18.out
    have:=n28.out
    have:=n29.out
    have h_:=d14 BK5.out;(repeat(obtain⟨_,h_⟩:=h_))
    go_wp2_with (first|((with_reducible refine gate_callee (f:=23) rfl ?_);refine gl 23 (some 98) func23 #[G #[L Ao7 t88.length co7,V I t54,V I t55,V I t56,O t57,V I t58,O t59,V I t60,V I t61,L Ao8 t89.length co8,L Ao9 t90.length co9,V I t64,O t65,V I t66],V I 1] ?_;(with_reducible refine(laws_heldMachine.calls kj153 _ _ t88 t54 t55 t56 t57 t58 t59 t60 t61 _ _ t89 _ _ t90 t64 t65 t66 1 t125 _ ?side1 ?side2 ?side3 ?side4 ?side5 ?side6 A16.out).mono ?_);(case side1=>exact uC (Kd.Q_reads' HO_7.out).2.2);(case side2=>exact(Kd.Q_reads' HO_7.out).2.1);(case side3=>exact uC (Kd.Q_reads' HO_8.out).2.2);(case side4=>exact(Kd.Q_reads' HO_8.out).2.1);(case side5=>exact uC (Kd.Q_reads' HO_9.out).2.2);(case side6=>exact(Kd.Q_reads' HO_9.out).2.1);rintro e w21 ⟨rfl,hb⟩;refine⟨_,rfl,?_⟩;replace HO_1:=eR HO_1 hb;replace HO_2:=eQ HO_2 hb;replace HO_3:=eR HO_3 hb;replace HO_4:=eQ HO_4 hb;replace HO_5:=eQ HO_5 hb;replace HO_6:=eQ HO_6 hb;replace HO_7:=eQ HO_7 hb;replace HO_8:=eQ HO_8 hb;replace HO_9:=eQ HO_9 hb;replace HO_10:=eR HO_10 hb;replace HO_11:=eQ HO_11 hb;replace HO_12:=eR HO_12 hb;replace BK1:=eK BK1 hb;replace BK2:=eK BK2 hb;replace BK3:=eK BK3 hb;replace BK4:=eK BK4 hb;replace BK5:=eK BK5 hb;replace BK6:=eK BK6 hb;replace HB:=eB hb;clear hb))
    go_ret
    exact⟨rE,uB⟩
theorem laws_FnExactDoAct.B0 {k : Nat} {A0_0 : Option Addr} {c0_0 : Nat} {l0_0 : List S24} {a0_1 : Int} {a0_2 : Int} {a0_3 : Int} {a0_4 : Bool} {a0_5 : Int} {a0_6 : Bool} {a0_7 : Int} {a0_8 : Int} {A0_9 : Option Addr} {c0_9 : Nat} {l0_9 : List Int} {A0_10 : Option Addr} {c0_10 : Nat} {l0_10 : List Int} {a0_11 : Int} {a0_12 : Bool} {a0_13 : Int} {a1_0 : Int} {a1_1 : Int} {a1_2 : Int} {a1_3 : Int} {r : Bool} {w : World} (HR1_0 : Aside0 (k24.C w A0_0 l0_0.length l0_0)) (HC1_0 : Aside0 (l0_0.length ≤ c0_0)) (HR1_9 : Aside0 ((Kd.int IntKind.i64).C w A0_9 l0_9.length l0_9)) (HC1_9 : Aside0 (l0_9.length ≤ c0_9)) (HR1_10 : Aside0 ((Kd.int IntKind.i64).C w A0_10 l0_10.length l0_10)) (HC1_10 : Aside0 (l0_10.length ≤ c0_10)) (hT : Aside0 (r = true)) {t1 : Int} {t20 : List S33} {t21 : Int} {t22 : Int} {t23 : Int} {t24 : Bool} {t25 : Int} {t26 : Bool} {t27 : Int} {t28 : Int} {t29 : List Int} {t30 : List Int} {t31 : Int} {t32 : Bool} {t33 : Int} {t34 : Int} {t35 : List S33} {t36 : Int} {t37 : Int} {t38 : Int} {t39 : Bool} {t40 : Int} {t41 : Bool} {t42 : Int} {t43 : Int} {t44 : List Int} {t45 : List Int} {t46 : Int} {t47 : Bool} {t48 : Int} {t53 : List S33} {t54 : Int} {t55 : Int} {t56 : Int} {t57 : Bool} {t58 : Int} {t59 : Bool} {t60 : Int} {t61 : Int} {t62 : List Int} {t63 : List Int} {t64 : Int} {t65 : Bool} {t66 : Int} {t67 : Int} {gb1 : Nat} (GW1 : Aside0 (w.heap.size ≤ gb1)) (GE1 : Aside0 (w.heap.size ≤ gb1)) {gb2 : Nat} (GW2 : Aside0 (w.heap.size ≤ gb2)) (GE2 : Aside0 (w.heap.size ≤ gb2)) (n0 : Aside0 (gb1 ≠ gb2)) (n1 : Aside0 (gb2 ≠ gb1)) {gb3 : Nat} (GW3 : Aside0 (w.heap.size ≤ gb3)) (GE3 : Aside0 (w.heap.size ≤ gb3)) (n2 : Aside0 (gb1 ≠ gb3)) (n3 : Aside0 (gb3 ≠ gb1)) (n4 : Aside0 (gb2 ≠ gb3)) (n5 : Aside0 (gb3 ≠ gb2)) {Ao1 : Option Addr} {co1 : Nat} {Ao2 : Option Addr} {co2 : Nat} {Ao3 : Option Addr} {co3 : Nat} {gb4 : Nat} (GW4 : Aside0 (w.heap.size ≤ gb4)) (n6 : Aside0 (gb1 ≠ gb4)) (n7 : Aside0 (gb4 ≠ gb1)) (n8 : Aside0 (gb2 ≠ gb4)) (n9 : Aside0 (gb4 ≠ gb2)) (n10 : Aside0 (gb3 ≠ gb4)) (n11 : Aside0 (gb4 ≠ gb3)) {Ao4 : Option Addr} {co4 : Nat} {Ao5 : Option Addr} {co5 : Nat} {Ao6 : Option Addr} {co6 : Nat} {gb5 : Nat} (GW5 : Aside0 (w.heap.size ≤ gb5)) (GE5 : Aside0 (w.heap.size ≤ gb5)) (n12 : Aside0 (gb1 ≠ gb5)) (n13 : Aside0 (gb5 ≠ gb1)) (n14 : Aside0 (gb2 ≠ gb5)) (n15 : Aside0 (gb5 ≠ gb2)) (n16 : Aside0 (gb3 ≠ gb5)) (n17 : Aside0 (gb5 ≠ gb3)) (n18 : Aside0 (gb4 ≠ gb5)) (n19 : Aside0 (gb5 ≠ gb4)) {Ao7 : Option Addr} {co7 : Nat} {Ao8 : Option Addr} {co8 : Nat} {Ao9 : Option Addr} {co9 : Nat} {KZ1 : Act → World → Prop} {KZ0 : Act → World → Prop} {wc : World} {u16 : Value} {u17 : Value} {u18 : Value} {u19 : Value} {u20 : Value} {u21 : Value} {u22 : Value} {u23 : Value} {u24 : Value} {u25 : Value} {u26 : Value} {u27 : Value} {u28 : Value} {u29 : Value} {u30 : Value} {u31 : Value} {u32 : Value} {u33 : Value} {u34 : Value} {u35 : Value} {u36 : Value} {u37 : Value} {u38 : Value} {u39 : Value} {u40 : Value} {u41 : Value} {u42 : Value} {u43 : Value} {u44 : Value} {u45 : Value} {u46 : Value} {u47 : Value} {u48 : Value} {u49 : Value} {u50 : Value} {u51 : Value} {u52 : Value} {u53 : Value} {u54 : Value} {u55 : Value} {u56 : Value} {u57 : Value} {u58 : Value} {u59 : Value} {u60 : Value} {u61 : Value} {u62 : Value} {u63 : Value} {u64 : Value} {u65 : Value} {u66 : Value} {u67 : Value} {u68 : Value} {u69 : Value} {u70 : Value} {u71 : Value} {u72 : Value} {u73 : Value} {u74 : Value} {u75 : Value} {u76 : Value} {u77 : Value} {u78 : Value} {u79 : Value} {u80 : Value} {u81 : Value} {u82 : Value} {u83 : Value} {u84 : Value} {u85 : Value} {u86 : Value} {u87 : Value} {u88 : Value} {u89 : Value} {u90 : Value} {u91 : Value} {u92 : Value} {u93 : Value} {u94 : Value} {u95 : Value} {u96 : Value} {u97 : Value} {u98 : Value} {u99 : Value} {u100 : Value} {u101 : Value} {u102 : Value} {u103 : Value} (hcut : ∃ kq x1_15, u46 = Value.bool x1_15 ∧ Aside0 (j0 kq t34 t67 x1_15 l0_0 a0_1 a0_2 a0_3 a0_4 a0_5 a0_6 a0_7 a0_8 l0_9 l0_10 a0_11 a0_12 a0_13 a1_0 a1_1 a1_2 a1_3 t20 t21 t22 t23 t24 t25 t26 t27 t28 t29 t30 t31 t32 t33 t35 t36 t37 t38 t39 t40 t41 t42 t43 t44 t45 t46 t47 t48 t53 t54 t55 t56 t57 t58 t59 t60 t61 t62 t63 t64 t65 t66 = some r) ∧ Aside0 (kq ≤ k) ∧ Aside0 (k33.R 33 wc w.heap.size (fun k_ => some k_ ≠ Fix.o Ao4 t35.length co4 ∧ some k_ ≠ Fix.o Ao7 t53.length co7) (Value.slice Ao1 t20.length co1) t20) ∧ Aside0 ((Kd.int IntKind.i64).Q 3 wc w.heap.size (fun k_ => some k_ ≠ Fix.o Ao3 t30.length co3 ∧ some k_ ≠ Fix.o Ao5 t44.length co5 ∧ some k_ ≠ Fix.o Ao6 t45.length co6 ∧ some k_ ≠ Fix.o Ao8 t62.length co8 ∧ some k_ ≠ Fix.o Ao9 t63.length co9) (Value.slice Ao2 t29.length co2) t29) ∧ Aside0 ((Kd.int IntKind.i64).R 3 wc w.heap.size (fun k_ => some k_ ≠ Fix.o Ao2 t29.length co2 ∧ some k_ ≠ Fix.o Ao5 t44.length co5 ∧ some k_ ≠ Fix.o Ao6 t45.length co6 ∧ some k_ ≠ Fix.o Ao8 t62.length co8 ∧ some k_ ≠ Fix.o Ao9 t63.length co9) (Value.slice Ao3 t30.length co3) t30) ∧ Aside0 (k33.Q 33 wc w.heap.size (fun k_ => some k_ ≠ Fix.o Ao1 t20.length co1 ∧ some k_ ≠ Fix.o Ao7 t53.length co7) (Value.slice Ao4 t35.length co4) t35) ∧ Aside0 ((Kd.int IntKind.i64).Q 3 wc w.heap.size (fun k_ => some k_ ≠ Fix.o Ao2 t29.length co2 ∧ some k_ ≠ Fix.o Ao3 t30.length co3 ∧ some k_ ≠ Fix.o Ao6 t45.length co6 ∧ some k_ ≠ Fix.o Ao8 t62.length co8 ∧ some k_ ≠ Fix.o Ao9 t63.length co9) (Value.slice Ao5 t44.length co5) t44) ∧ Aside0 ((Kd.int IntKind.i64).Q 3 wc w.heap.size (fun k_ => some k_ ≠ Fix.o Ao2 t29.length co2 ∧ some k_ ≠ Fix.o Ao3 t30.length co3 ∧ some k_ ≠ Fix.o Ao5 t44.length co5 ∧ some k_ ≠ Fix.o Ao8 t62.length co8 ∧ some k_ ≠ Fix.o Ao9 t63.length co9) (Value.slice Ao6 t45.length co6) t45) ∧ Aside0 (k33.Q 33 wc w.heap.size (fun k_ => some k_ ≠ Fix.o Ao1 t20.length co1 ∧ some k_ ≠ Fix.o Ao4 t35.length co4) (Value.slice Ao7 t53.length co7) t53) ∧ Aside0 ((Kd.int IntKind.i64).Q 3 wc w.heap.size (fun k_ => some k_ ≠ Fix.o Ao2 t29.length co2 ∧ some k_ ≠ Fix.o Ao3 t30.length co3 ∧ some k_ ≠ Fix.o Ao5 t44.length co5 ∧ some k_ ≠ Fix.o Ao6 t45.length co6 ∧ some k_ ≠ Fix.o Ao9 t63.length co9) (Value.slice Ao8 t62.length co8) t62) ∧ Aside0 ((Kd.int IntKind.i64).Q 3 wc w.heap.size (fun k_ => some k_ ≠ Fix.o Ao2 t29.length co2 ∧ some k_ ≠ Fix.o Ao3 t30.length co3 ∧ some k_ ≠ Fix.o Ao5 t44.length co5 ∧ some k_ ≠ Fix.o Ao6 t45.length co6 ∧ some k_ ≠ Fix.o Ao8 t62.length co8) (Value.slice Ao9 t63.length co9) t63) ∧ Aside0 (wc.heap[gb1]? = some (Obj.cells #[Value.slice A0_0 l0_0.length c0_0, Value.int IntKind.i64 a0_1, Value.int IntKind.i64 a0_2, Value.int IntKind.i64 a0_3, Value.bool a0_4, Value.int IntKind.i64 a0_5, Value.bool a0_6, Value.int IntKind.i64 a0_7, Value.int IntKind.i64 a0_8, Value.slice A0_9 l0_9.length c0_9, Value.slice A0_10 l0_10.length c0_10, Value.int IntKind.i64 a0_11, Value.bool a0_12, Value.int IntKind.i64 a0_13] 29)) ∧ Aside0 (wc.heap[gb2]? = some (Obj.cells #[Value.int IntKind.i64 a1_0, Value.int IntKind.i64 a1_1, Value.int IntKind.i64 a1_2, Value.int IntKind.i64 a1_3] 50)) ∧ Aside0 (wc.heap[gb3]? = some (Obj.cells #[Value.slice Ao1 t20.length co1, Value.int IntKind.i64 t21, Value.int IntKind.i64 t22, Value.int IntKind.i64 t23, Value.bool t24, Value.int IntKind.i64 t25, Value.bool t26, Value.int IntKind.i64 t27, Value.int IntKind.i64 t28, Value.slice Ao2 t29.length co2, Value.slice Ao3 t30.length co3, Value.int IntKind.i64 t31, Value.bool t32, Value.int IntKind.i64 t33] 36)) ∧ Aside0 (wc.heap[gb4]? = some (Obj.cells #[Value.slice Ao4 t35.length co4, Value.int IntKind.i64 t36, Value.int IntKind.i64 t37, Value.int IntKind.i64 t38, Value.bool t39, Value.int IntKind.i64 t40, Value.bool t41, Value.int IntKind.i64 t42, Value.int IntKind.i64 t43, Value.slice Ao5 t44.length co5, Value.slice Ao6 t45.length co6, Value.int IntKind.i64 t46, Value.bool t47, Value.int IntKind.i64 t48] 36)) ∧ Aside0 (wc.heap[gb5]? = some (Obj.cells #[Value.slice Ao7 t53.length co7, Value.int IntKind.i64 t54, Value.int IntKind.i64 t55, Value.int IntKind.i64 t56, Value.bool t57, Value.int IntKind.i64 t58, Value.bool t59, Value.int IntKind.i64 t60, Value.int IntKind.i64 t61, Value.slice Ao8 t62.length co8, Value.slice Ao9 t63.length co9, Value.int IntKind.i64 t64, Value.bool t65, Value.int IntKind.i64 t66] 36)) ∧ Aside0 (Below w.heap.size w wc)) :
 let QZ : Exit → Act → World → Prop := bodyPost prog f6 fun e w' => e = Ending.returned (Value.bool r) ∧ Below w.heap.size w w'
 ∀ (aZ0 : ∀ (a : Act) (w : World), Code.wp prog (laws_FnExactDoAct.cS (laws_FnExactDoAct.cL (laws_FnExactDoAct.cR 7 ((Go.Proofs.Try.f6.body).getD Code.skip)))) (Exit.then KZ1 QZ) a w → KZ0 a w) (aZ1 : ∀ (a : Act) (w : World), Code.wp prog (laws_FnExactDoAct.cR 8 ((Go.Proofs.Try.f6.body).getD Code.skip)) QZ a w → KZ1 a w), KZ0 { tmps := #[Value.agg #[Value.slice A0_0 l0_0.length c0_0, Value.int IntKind.i64 a0_1, Value.int IntKind.i64 a0_2, Value.int IntKind.i64 a0_3, Value.bool a0_4, Value.int IntKind.i64 a0_5, Value.bool a0_6, Value.int IntKind.i64 a0_7, Value.int IntKind.i64 a0_8, Value.slice A0_9 l0_9.length c0_9, Value.slice A0_10 l0_10.length c0_10, Value.int IntKind.i64 a0_11, Value.bool a0_12, Value.int IntKind.i64 a0_13], Value.agg #[Value.int IntKind.i64 a1_0, Value.int IntKind.i64 a1_1, Value.int IntKind.i64 a1_2, Value.int IntKind.i64 a1_3], Value.pointer (some { block := gb1, off := 0 }), Value.pointer (some { block := gb2, off := 0 }), Value.bool false, Value.int IntKind.i64 t1, Value.pointer (some { block := gb3, off := 0 }), Value.int IntKind.i64 t34, Value.pointer (some { block := gb4, off := 0 }), Value.pointer (some { block := gb5, off := 0 }), Value.int IntKind.i64 t67, undef, undef, undef, undef, undef, u16, u17, u18, u19, u20, u21, u22, u23, u24, u25, u26, u27, u28, u29, u30, u31, u32, u33, u34, u35, u36, u37, u38, u39, u40, u41, u42, u43, u44, u45, u46, u47, u48, u49, u50, u51, u52, u53, u54, u55, u56, u57, u58, u59, u60, u61, u62, u63, u64, u65, u66, u67, u68, u69, u70, u71, u72, u73, u74, u75, u76, u77, u78, u79, u80, u81, u82, u83, u84, u85, u86, u87, u88, u89, u90, u91, u92, u93, u94, u95, u96, u97, u98, u99, u100, u101, u102, u103], defers := [] } wc :=by
 intro QZ aZ0 aZ1
 dsimp only [laws_FnExactDoAct.cR, laws_FnExactDoAct.cL, laws_FnExactDoAct.cS, Go.Proofs.Try.f6, Option.getD] at aZ0 aZ1
 obtain⟨kq,x1_15,rfl,HA,HJ1,HO_1,HO_2,HO_3,HO_4,HO_5,HO_6,HO_7,HO_8,HO_9,BK1,BK2,BK3,BK4,BK5,HB⟩:=hcut
 cases kq with
 |zero=>exact absurd HA.out (by simp[laws_FnExactDoAct.j0])
 |succ kj15=>
  have H:=HA.out
  clear HA
  simp only[laws_FnExactDoAct.j0]at H
  by_cases c2:x1_15=true
  ·subst c2
   rw[if_pos rfl]at H
   exact absurd (hT.out ▸ H) (by simp)
  obtain rfl:=nt c2
  replace H:=nf H
  obtain⟨⟨t68,t69,t70,t71,t72,t73,t74,t75,t76,t77,t78,t79,t80,t81⟩,A8,H⟩:=bnd H
  dsimp only at H
  obtain⟨t82,A9,H⟩:=bnd H
  by_cases c3:t82=true
  rotate_left
  ·obtain rfl:=nt c3
   replace H:=nf H
   exact absurd (hT.out ▸ H) (by simp)
  subst c3
  rw[if_pos rfl]at H
  obtain⟨⟨t83,t84,t85,t86⟩,A10,H⟩:=bnd H
  dsimp only at H
  have HC3:=C H
  clear H
  try go_wp2
  replace HO_1:=dR HO_1
  replace HO_2:=dQ HO_2
  replace HO_3:=dR HO_3
  replace HO_4:=dQ HO_4
  replace HO_5:=dQ HO_5
  replace HO_6:=dQ HO_6
  replace HO_7:=dQ HO_7
  replace HO_8:=dQ HO_8
  replace HO_9:=dQ HO_9
  replace BK1:=dK BK1
  replace BK2:=dK BK2
  replace BK3:=dK BK3
  replace BK4:=dK BK4
  replace BK5:=dK BK5
  replace HB:=dB HB
  refine start_ (n:=5) (S:=fun w'=>cr14 w' gb4 (L Ao4 t35.length co4) (V I t36) (V I t37) (V I t38) (O t39) (V I t40) (O t41) (V I t42) (V I t43) (L Ao5 t44.length co5) (L Ao6 t45.length co6) (V I t46) (O t47) (V I t48) (cl14 w' gb1 (L A0_0 l0_0.length c0_0) (V I a0_1) (V I a0_2) (V I a0_3) (O a0_4) (V I a0_5) (O a0_6) (V I a0_7) (V I a0_8) (L A0_9 l0_9.length c0_9) (L A0_10 l0_10.length c0_10) (V I a0_11) (O a0_12) (V I a0_13))) (ds:= []) #[false,false,false,false,false] (by kernel_rfl) rfl rfl hh (fun hHeld=> ?_)
  generalize wc.drew=w13 at HO_1 HO_2 HO_3 HO_4 HO_5 HO_6 HO_7 HO_8 HO_9 BK1 BK2 BK3 BK4 BK5 HB hHeld ⊢
  refine tu 0 (some 47) hHeld ?_
  refine tu 1 (some 48) hHeld ?_
  refine ou 2 (some 49) (fun K hK=> ?_)
  refine gs func11 #[G #[L A0_0 l0_0.length c0_0,V I a0_1,V I a0_2,V I a0_3,O a0_4,V I a0_5,O a0_6,V I a0_7,V I a0_8,L A0_9 l0_9.length c0_9,L A0_10 l0_10.length c0_10,V I a0_11,O a0_12,V I a0_13]] ?_
  with_reducible refine(laws_toMachine.calls kj15 _ _ l0_0 a0_1 a0_2 a0_3 a0_4 a0_5 a0_6 a0_7 a0_8 _ _ l0_9 _ _ l0_10 a0_11 a0_12 a0_13 t68 t69 t70 t71 t72 t73 t74 t75 t76 t77 t78 t79 t80 t81 _ ?side1 HC1_0.out ?side3 HC1_9.out ?side5 HC1_10.out A8.out).mono ?_
  (case side1=>exact uZ HR1_0)
  (case side3=>exact uZ HR1_9)
  (case side5=>exact uZ HR1_10)
  rintro e w14 ⟨v13,v14,v15,rfl,ho1,ho2,ho3,hb⟩
  refine⟨_,rfl,?_⟩
  have HO13:=C (Kd.R_lower (Kd.R_new' (Kd.R_new' (Kd.R_new' ho1 (Kd.R_lt (uR HO_1.out))) (Kd.Q_lt (uQ HO_4.out))) (Kd.Q_lt (uQ HO_7.out))) (below_size uB))
  have HO14:=C (Kd.R_lower (Kd.R_new' (Kd.R_new' (Kd.R_new' (Kd.R_new' (Kd.R_new' (Kd.R_new' ho2 (Kd.Q_lt (uQ HO_2.out))) (Kd.R_lt (uR HO_3.out))) (Kd.Q_lt (uQ HO_5.out))) (Kd.Q_lt (uQ HO_6.out))) (Kd.Q_lt (uQ HO_8.out))) (Kd.Q_lt (uQ HO_9.out))) (below_size uB))
  have HO15:=C (Kd.R_lower (Kd.R_new' (Kd.R_new' (Kd.R_new' (Kd.R_new' (Kd.R_new' (Kd.R_new' ho3 (Kd.Q_lt (uQ HO_2.out))) (Kd.R_lt (uR HO_3.out))) (Kd.Q_lt (uQ HO_5.out))) (Kd.Q_lt (uQ HO_6.out))) (Kd.Q_lt (uQ HO_8.out))) (Kd.Q_lt (uQ HO_9.out))) (below_size uB))
  replace HO_1:=C (Kd.R_elder' (uR HO_1.out) (Kd.R_base ho1) hb)
  replace HO_2:=C (Kd.Q_mono (Kd.Q_told (Kd.Q_told (Kd.Q_old (uQ HO_2.out) hb) (Kd.R_base ho2)) (Kd.R_base ho3)) (fun _ h_=>h_.1))
  replace HO_3:=C (X (Kd.R_told (Kd.R_told (Kd.R_old (uR HO_3.out) hb) (Kd.R_base ho2)) (Kd.R_base ho3)) (fun _ h_=>h_.1))
  replace HO_4:=C (Kd.Q_elder' (uQ HO_4.out) (Kd.R_base ho1) hb)
  replace HO_5:=C (Kd.Q_mono (Kd.Q_told (Kd.Q_told (Kd.Q_old (uQ HO_5.out) hb) (Kd.R_base ho2)) (Kd.R_base ho3)) (fun _ h_=>h_.1))
  replace HO_6:=C (Kd.Q_mono (Kd.Q_told (Kd.Q_told (Kd.Q_old (uQ HO_6.out) hb) (Kd.R_base ho2)) (Kd.R_base ho3)) (fun _ h_=>h_.1))
  replace HO_7:=C (Kd.Q_elder' (uQ HO_7.out) (Kd.R_base ho1) hb)
  replace HO_8:=C (Kd.Q_mono (Kd.Q_told (Kd.Q_told (Kd.Q_old (uQ HO_8.out) hb) (Kd.R_base ho2)) (Kd.R_base ho3)) (fun _ h_=>h_.1))
  replace HO_9:=C (Kd.Q_mono (Kd.Q_told (Kd.Q_told (Kd.Q_old (uQ HO_9.out) hb) (Kd.R_base ho2)) (Kd.R_base ho3)) (fun _ h_=>h_.1))
  replace BK1:=eK BK1 hb
  replace BK2:=eK BK2 hb
  replace BK3:=eK BK3 hb
  replace BK4:=eK BK4 hb
  replace BK5:=eK BK5 hb
  replace HB:=eB hb
  (try clear hb)
  obtain⟨Ao10,co10,eo10⟩:=U HO13.out
  (first|subst eo10|(injection eo10 with f1_ f2_ f3_;have f4_:=f1_.symm;have f5_:=f3_.symm;clear f1_ f2_ f3_;subst f4_;subst f5_))
  obtain⟨Ao11,co11,eo11⟩:=U HO14.out
  (first|subst eo11|(injection eo11 with f1_ f2_ f3_;have f4_:=f1_.symm;have f5_:=f3_.symm;clear f1_ f2_ f3_;subst f4_;subst f5_))
  obtain⟨Ao12,co12,eo12⟩:=U HO15.out
  (first|subst eo12|(injection eo12 with f1_ f2_ f3_;have f4_:=f1_.symm;have f5_:=f3_.symm;clear f1_ f2_ f3_;subst f4_;subst f5_))
  refine hK.out _ _ hh (fun hHeld=> ?_)
  clear hK K
  refine nu (N:=(some 49)) ?_
  refine ou 3 (some 50) (fun K hK=> ?_)
  refine gs func13 #[G #[L Ao4 t35.length co4,V I t36,V I t37,V I t38,O t39,V I t40,O t41,V I t42,V I t43,L Ao5 t44.length co5,L Ao6 t45.length co6,V I t46,O t47,V I t48],G #[L Ao10 t68.length co10,V I t69,V I t70,V I t71,O t72,V I t73,O t74,V I t75,V I t76,L Ao11 t77.length co11,L Ao12 t78.length co12,V I t79,O t80,V I t81]] ?_
  with_reducible refine(laws_eqMachine.calls kj15 _ _ t35 t36 t37 t38 t39 t40 t41 t42 t43 _ _ t44 _ _ t45 t46 t47 t48 _ _ t68 t69 t70 t71 t72 t73 t74 t75 t76 _ _ t77 _ _ t78 t79 t80 t81 true _ ?side1 ?side2 ?side3 ?side4 ?side5 ?side6 ?side7 ?side8 ?side9 ?side10 ?side11 ?side12 A9.out).mono ?_
  (case side1=>exact uC (Kd.Q_reads' HO_4.out).2.2)
  (case side2=>exact(Kd.Q_reads' HO_4.out).2.1)
  (case side3=>exact uC (Kd.Q_reads' HO_5.out).2.2)
  (case side4=>exact(Kd.Q_reads' HO_5.out).2.1)
  (case side5=>exact uC (Kd.Q_reads' HO_6.out).2.2)
  (case side6=>exact(Kd.Q_reads' HO_6.out).2.1)
  (case side7=>exact uC (Kd.R_reads' HO13.out).2.2)
  (case side8=>exact(Kd.R_reads' HO13.out).2.1)
  (case side9=>exact uC (Kd.R_reads' HO14.out).2.2)
  (case side10=>exact(Kd.R_reads' HO14.out).2.1)
  (case side11=>exact uC (Kd.R_reads' HO15.out).2.2)
  (case side12=>exact(Kd.R_reads' HO15.out).2.1)
  rintro e w15 ⟨rfl,hb⟩
  refine⟨_,rfl,?_⟩
  replace HO_1:=eR HO_1 hb
  replace HO_2:=eQ HO_2 hb
  replace HO_3:=eR HO_3 hb
  replace HO_4:=eQ HO_4 hb
  replace HO_5:=eQ HO_5 hb
  replace HO_6:=eQ HO_6 hb
  replace HO_7:=eQ HO_7 hb
  replace HO_8:=eQ HO_8 hb
  replace HO_9:=eQ HO_9 hb
  replace HO13:=eR HO13 hb
  replace HO14:=eR HO14 hb
  replace HO15:=eR HO15 hb
  replace BK1:=eK BK1 hb
  replace BK2:=eK BK2 hb
  replace BK3:=eK BK3 hb
  replace BK4:=eK BK4 hb
  replace BK5:=eK BK5 hb
  replace HB:=eB hb
  (try clear hb)
  refine hK.out _ _ hh (fun hHeld=> ?_)
  clear hK K
  refine nu (N:=(some 50)) ?_
  refine pu 4 (some 51) ?_
  refine done_ (by kernel_rfl) ?_
  have:=n7.out
  have:=n6.out
  have:=n9.out
  have:=n8.out
  have:=n11.out
  have:=n10.out
  have:=n18.out
  have:=n19.out
  have h_:=d14 BK4.out;(repeat(obtain⟨_,h_⟩:=h_))
  go_upto_region 14 with(first|((with_reducible refine gate_callee (f:=22) rfl ?_);refine gl 22 (some 54) func22 #[G #[L Ao4 t35.length co4,V I t36,V I t37,V I t38,O t39,V I t40,O t41,V I t42,V I t43,L Ao5 t44.length co5,L Ao6 t45.length co6,V I t46,O t47,V I t48],V I 1] ?_;(with_reducible refine(laws_markMachine.calls kj15 (fun k_=>some k_=(L Ao4 t35.length co4:Value).ownBlock) (L Ao4 t35.length co4) t35 t36 t37 t38 t39 t40 t41 t42 t43 (fun k_=>some k_=(L Ao5 t44.length co5:Value).ownBlock) (L Ao5 t44.length co5) t44 (fun k_=>some k_=(L Ao6 t45.length co6:Value).ownBlock) (L Ao6 t45.length co6) t45 t46 t47 t48 1 t83 t84 t85 t86 w _ ?side1 ?side2 ?side3 ?side4 ?side5 ?side6 A10.out).mono ?_);(case side1=>exact uB);(case side2=>exact Kd.Q_tight rfl HO_4.out);(case side3=>exact Kd.Q_tight rfl HO_5.out);(case side4=>exact fun k_ e_=>(HO_5.out.1 k_ e_.symm).1.1.2.2.1);(case side5=>exact Kd.Q_tight rfl HO_6.out);(case side6=>exact fun k_ e_=>(HO_6.out.1 k_ e_.symm).1.1.2.2.1);rintro e w16 ⟨rfl,hy1,hy2,hy3,hb,hkp⟩;refine⟨_,rfl,?_⟩;replace HO_1:=C (X (ok':=fun k_=>qn k_ Ao4 t35.length co4∧qn k_ Ao7 t53.length co7∧qn k_ Ao10 t68.length co10) (Kd.R_keptB ((Kd.R_apart' (Kd.R_apart' HO_1.out (Kd.Q_typed HO_5.out) (by decide)) (Kd.Q_typed HO_6.out) (by decide))) hkp (fun k_ hk_ hs_=>Or.elim hs_ (fun e_=>(hk_.1.1.1.1) e_) (fun e_=>Or.elim e_ (fun e_=>(hk_.1.2) e_) (fun e_=>(hk_.2) e_)))) (fun k_ hk_=>⟨hk_.1.1.1.1.1,hk_.1.1.1.1.2,hk_.1.1.1.2⟩));replace HO_2:=C (Kd.Q_mono (ok':=fun k_=>qn k_ Ao3 t30.length co3∧qn k_ Ao5 t44.length co5∧qn k_ Ao6 t45.length co6∧qn k_ Ao8 t62.length co8∧qn k_ Ao9 t63.length co9∧qn k_ Ao11 t77.length co11∧qn k_ Ao12 t78.length co12) (Kd.Q_keptB ((Kd.Q_apart' HO_2.out (Kd.Q_typed HO_4.out) (by decide))) hkp (fun k_ hk_ hs_=>Or.elim hs_ (fun e_=>(hk_.2) e_) (fun e_=>Or.elim e_ (fun e_=>(hk_.1.1.1.2.1) e_) (fun e_=>(hk_.1.1.1.2.2.1) e_)))) (fun k_ hk_=>⟨hk_.1.1.1.1.1,hk_.1.1.1.1.2.1,hk_.1.1.1.1.2.2.1,hk_.1.1.1.1.2.2.2.1,hk_.1.1.1.1.2.2.2.2,hk_.1.1.1.2,hk_.1.1.2⟩));replace HO_3:=C (X (ok':=fun k_=>qn k_ Ao2 t29.length co2∧qn k_ Ao5 t44.length co5∧qn k_ Ao6 t45.length co6∧qn k_ Ao8 t62.length co8∧qn k_ Ao9 t63.length co9∧qn k_ Ao11 t77.length co11∧qn k_ Ao12 t78.length co12) (Kd.R_keptB ((Kd.R_apart' HO_3.out (Kd.Q_typed HO_4.out) (by decide))) hkp (fun k_ hk_ hs_=>Or.elim hs_ (fun e_=>(hk_.2) e_) (fun e_=>Or.elim e_ (fun e_=>(hk_.1.1.1.2.1) e_) (fun e_=>(hk_.1.1.1.2.2.1) e_)))) (fun k_ hk_=>⟨hk_.1.1.1.1.1,hk_.1.1.1.1.2.1,hk_.1.1.1.1.2.2.1,hk_.1.1.1.1.2.2.2.1,hk_.1.1.1.1.2.2.2.2,hk_.1.1.1.2,hk_.1.1.2⟩));replace HO_7:=C (Kd.Q_mono (ok':=fun k_=>qn k_ Ao1 t20.length co1∧qn k_ Ao4 t35.length co4∧qn k_ Ao10 t68.length co10) (Kd.Q_keptB ((Kd.Q_apart' (Kd.Q_apart' HO_7.out (Kd.Q_typed HO_5.out) (by decide)) (Kd.Q_typed HO_6.out) (by decide))) hkp (fun k_ hk_ hs_=>Or.elim hs_ (fun e_=>(hk_.1.1.1.2) e_) (fun e_=>Or.elim e_ (fun e_=>(hk_.1.2) e_) (fun e_=>(hk_.2) e_)))) (fun k_ hk_=>⟨hk_.1.1.1.1.1,hk_.1.1.1.1.2,hk_.1.1.1.2⟩));replace HO_8:=C (Kd.Q_mono (ok':=fun k_=>qn k_ Ao2 t29.length co2∧qn k_ Ao3 t30.length co3∧qn k_ Ao5 t44.length co5∧qn k_ Ao6 t45.length co6∧qn k_ Ao9 t63.length co9∧qn k_ Ao11 t77.length co11∧qn k_ Ao12 t78.length co12) (Kd.Q_keptB ((Kd.Q_apart' HO_8.out (Kd.Q_typed HO_4.out) (by decide))) hkp (fun k_ hk_ hs_=>Or.elim hs_ (fun e_=>(hk_.2) e_) (fun e_=>Or.elim e_ (fun e_=>(hk_.1.1.1.2.2.1) e_) (fun e_=>(hk_.1.1.1.2.2.2.1) e_)))) (fun k_ hk_=>⟨hk_.1.1.1.1.1,hk_.1.1.1.1.2.1,hk_.1.1.1.1.2.2.1,hk_.1.1.1.1.2.2.2.1,hk_.1.1.1.1.2.2.2.2,hk_.1.1.1.2,hk_.1.1.2⟩));replace HO_9:=C (Kd.Q_mono (ok':=fun k_=>qn k_ Ao2 t29.length co2∧qn k_ Ao3 t30.length co3∧qn k_ Ao5 t44.length co5∧qn k_ Ao6 t45.length co6∧qn k_ Ao8 t62.length co8∧qn k_ Ao11 t77.length co11∧qn k_ Ao12 t78.length co12) (Kd.Q_keptB ((Kd.Q_apart' HO_9.out (Kd.Q_typed HO_4.out) (by decide))) hkp (fun k_ hk_ hs_=>Or.elim hs_ (fun e_=>(hk_.2) e_) (fun e_=>Or.elim e_ (fun e_=>(hk_.1.1.1.2.2.1) e_) (fun e_=>(hk_.1.1.1.2.2.2.1) e_)))) (fun k_ hk_=>⟨hk_.1.1.1.1.1,hk_.1.1.1.1.2.1,hk_.1.1.1.1.2.2.1,hk_.1.1.1.1.2.2.2.1,hk_.1.1.1.1.2.2.2.2,hk_.1.1.1.2,hk_.1.1.2⟩));replace BK1:=C (blk_kept (uK BK1.out) hkp (fun hs_=>Or.elim hs_ (fun e_=>(fun e_=>(Kd.Q_ne HO_4.out BK1.out (by decide)) e_) e_) (fun e_=>Or.elim e_ (fun e_=>(fun e_=>(Kd.Q_ne HO_5.out BK1.out (by decide)) e_) e_) (fun e_=>(fun e_=>(Kd.Q_ne HO_6.out BK1.out (by decide)) e_) e_))));replace BK2:=C (blk_kept (uK BK2.out) hkp (fun hs_=>Or.elim hs_ (fun e_=>(fun e_=>(Kd.Q_ne HO_4.out BK2.out (by decide)) e_) e_) (fun e_=>Or.elim e_ (fun e_=>(fun e_=>(Kd.Q_ne HO_5.out BK2.out (by decide)) e_) e_) (fun e_=>(fun e_=>(Kd.Q_ne HO_6.out BK2.out (by decide)) e_) e_))));replace BK3:=C (blk_kept (uK BK3.out) hkp (fun hs_=>Or.elim hs_ (fun e_=>(fun e_=>(Kd.Q_ne HO_4.out BK3.out (by decide)) e_) e_) (fun e_=>Or.elim e_ (fun e_=>(fun e_=>(Kd.Q_ne HO_5.out BK3.out (by decide)) e_) e_) (fun e_=>(fun e_=>(Kd.Q_ne HO_6.out BK3.out (by decide)) e_) e_))));replace BK4:=C (blk_kept (uK BK4.out) hkp (fun hs_=>Or.elim hs_ (fun e_=>(fun e_=>(Kd.Q_ne HO_4.out BK4.out (by decide)) e_) e_) (fun e_=>Or.elim e_ (fun e_=>(fun e_=>(Kd.Q_ne HO_5.out BK4.out (by decide)) e_) e_) (fun e_=>(fun e_=>(Kd.Q_ne HO_6.out BK4.out (by decide)) e_) e_))));replace BK5:=C (blk_kept (uK BK5.out) hkp (fun hs_=>Or.elim hs_ (fun e_=>(fun e_=>(Kd.Q_ne HO_4.out BK5.out (by decide)) e_) e_) (fun e_=>Or.elim e_ (fun e_=>(fun e_=>(Kd.Q_ne HO_5.out BK5.out (by decide)) e_) e_) (fun e_=>(fun e_=>(Kd.Q_ne HO_6.out BK5.out (by decide)) e_) e_))));replace HO13:=C (X (ok':=fun k_=>qn k_ Ao1 t20.length co1∧qn k_ Ao4 t35.length co4∧qn k_ Ao7 t53.length co7) (Kd.R_keptB ((Kd.R_apart' (Kd.R_apart' HO13.out (Kd.Q_typed HO_5.out) (by decide)) (Kd.Q_typed HO_6.out) (by decide))) hkp (fun k_ hk_ hs_=>Or.elim hs_ (fun e_=>(hk_.1.1.1.2) e_) (fun e_=>Or.elim e_ (fun e_=>(hk_.1.2) e_) (fun e_=>(hk_.2) e_)))) (fun k_ hk_=>⟨hk_.1.1.1.1.1.2,hk_.1.1.1.1.2,hk_.1.1.1.2⟩));replace HO_5:=C (Ext.Q_reok rfl hy2 (fun k_ e_=>HO_5.out.1 k_ e_));replace HO_6:=C (Ext.Q_reok rfl hy3 (fun k_ e_=>HO_6.out.1 k_ e_));replace HO14:=C (X (ok':=fun k_=>qn k_ Ao2 t29.length co2∧qn k_ Ao3 t30.length co3∧qn k_ Ao5 t44.length co5∧qn k_ Ao6 t45.length co6∧qn k_ Ao8 t62.length co8∧qn k_ Ao9 t63.length co9∧qn k_ Ao12 t78.length co12) (Kd.R_keptB ((Kd.R_apart' HO14.out (Kd.Q_typed HO_4.out) (by decide))) hkp (fun k_ hk_ hs_=>Or.elim hs_ (fun e_=>(hk_.2) e_) (fun e_=>Or.elim e_ (fun e_=>(hk_.1.1.1.1.2) e_) (fun e_=>(hk_.1.1.1.2) e_)))) (fun k_ hk_=>⟨hk_.1.1.1.1.1.1.1.2,hk_.1.1.1.1.1.1.2,hk_.1.1.1.1.1.2,hk_.1.1.1.1.2,hk_.1.1.1.2,hk_.1.1.2,hk_.1.1.1.1.1.1.1.1⟩));replace HO15:=C (X (ok':=fun k_=>qn k_ Ao2 t29.length co2∧qn k_ Ao3 t30.length co3∧qn k_ Ao5 t44.length co5∧qn k_ Ao6 t45.length co6∧qn k_ Ao8 t62.length co8∧qn k_ Ao9 t63.length co9∧qn k_ Ao11 t77.length co11) (Kd.R_keptB ((Kd.R_apart' HO15.out (Kd.Q_typed HO_4.out) (by decide))) hkp (fun k_ hk_ hs_=>Or.elim hs_ (fun e_=>(hk_.2) e_) (fun e_=>Or.elim e_ (fun e_=>(hk_.1.1.1.1.2) e_) (fun e_=>(hk_.1.1.1.2) e_)))) (fun k_ hk_=>⟨hk_.1.1.1.1.1.1.1.2,hk_.1.1.1.1.1.1.2,hk_.1.1.1.1.1.2,hk_.1.1.1.1.2,hk_.1.1.1.2,hk_.1.1.2,hk_.1.1.1.1.1.1.1.1⟩));replace HO_4:=C (Ext.Q_reok rfl hy1 (fun k_ e_=>HO_4.out.1 k_ e_));replace HB:=C (hb);clear hb;(try clear hkp);(try clear hy1);(try clear hy2);(try clear hy3)))
  (try simp only[Act.put,List.setIfInBounds_toArray,List.set_cons_zero,List.set_cons_succ])
  go_cut [67] (fun v67 wc=>∃(kq:Nat) (x2_109:Bool),v67=O x2_109∧D (laws_FnExactDoAct.j1 kq t34 x2_109 l0_0 a0_1 a0_2 a0_3 a0_4 a0_5 a0_6 a0_7 a0_8 l0_9 l0_10 a0_11 a0_12 a0_13 a1_0 a1_1 a1_2 a1_3 t20 t21 t22 t23 t24 t25 t26 t27 t28 t29 t30 t31 t32 t33 t53 t54 t55 t56 t57 t58 t59 t60 t61 t62 t63 t64 t65 t66=some r)∧D (kq≤kj15)∧D (Kd.R k33 33 wc w.heap.size (fun k_=>some k_≠Fix.o Ao4 t35.length co4∧some k_≠Fix.o Ao7 t53.length co7) (L Ao1 t20.length co1) t20)∧D (Kd.Q (Kd.int .i64) 3 wc w.heap.size (fun k_=>some k_≠Fix.o Ao3 t30.length co3∧some k_≠Fix.o Ao5 t44.length co5∧some k_≠Fix.o Ao6 t45.length co6∧some k_≠Fix.o Ao8 t62.length co8∧some k_≠Fix.o Ao9 t63.length co9) (L Ao2 t29.length co2) t29)∧D (Kd.R (Kd.int .i64) 3 wc w.heap.size (fun k_=>some k_≠Fix.o Ao2 t29.length co2∧some k_≠Fix.o Ao5 t44.length co5∧some k_≠Fix.o Ao6 t45.length co6∧some k_≠Fix.o Ao8 t62.length co8∧some k_≠Fix.o Ao9 t63.length co9) (L Ao3 t30.length co3) t30)∧D (Kd.Q k33 33 wc w.heap.size (fun k_=>some k_≠Fix.o Ao1 t20.length co1∧some k_≠Fix.o Ao7 t53.length co7) (L Ao4 t35.length co4) t84)∧D (Kd.Q (Kd.int .i64) 3 wc w.heap.size (fun k_=>some k_≠Fix.o Ao2 t29.length co2∧some k_≠Fix.o Ao3 t30.length co3∧some k_≠Fix.o Ao6 t45.length co6∧some k_≠Fix.o Ao8 t62.length co8∧some k_≠Fix.o Ao9 t63.length co9) (L Ao5 t44.length co5) t85)∧D (Kd.Q (Kd.int .i64) 3 wc w.heap.size (fun k_=>some k_≠Fix.o Ao2 t29.length co2∧some k_≠Fix.o Ao3 t30.length co3∧some k_≠Fix.o Ao5 t44.length co5∧some k_≠Fix.o Ao8 t62.length co8∧some k_≠Fix.o Ao9 t63.length co9) (L Ao6 t45.length co6) t86)∧D (Kd.Q k33 33 wc w.heap.size (fun k_=>some k_≠Fix.o Ao1 t20.length co1∧some k_≠Fix.o Ao4 t35.length co4) (L Ao7 t53.length co7) t53)∧D (Kd.Q (Kd.int .i64) 3 wc w.heap.size (fun k_=>some k_≠Fix.o Ao2 t29.length co2∧some k_≠Fix.o Ao3 t30.length co3∧some k_≠Fix.o Ao5 t44.length co5∧some k_≠Fix.o Ao6 t45.length co6∧some k_≠Fix.o Ao9 t63.length co9) (L Ao8 t62.length co8) t62)∧D (Kd.Q (Kd.int .i64) 3 wc w.heap.size (fun k_=>some k_≠Fix.o Ao2 t29.length co2∧some k_≠Fix.o Ao3 t30.length co3∧some k_≠Fix.o Ao5 t44.length co5∧some k_≠Fix.o Ao6 t45.length co6∧some k_≠Fix.o Ao8 t62.length co8) (L Ao9 t63.length co9) t63)∧D (wc.heap[gb1]? =some (.cells #[(L A0_0 l0_0.length c0_0),V I a0_1,V I a0_2,V I a0_3,O a0_4,V I a0_5,O a0_6,V I a0_7,V I a0_8,(L A0_9 l0_9.length c0_9),(L A0_10 l0_10.length c0_10),V I a0_11,O a0_12,V I a0_13] 29 (0,0)))∧D (wc.heap[gb2]? =some (.cells #[V I a1_0,V I a1_1,V I a1_2,V I a1_3] 50 (0,0)))∧D (wc.heap[gb3]? =some (.cells #[(L Ao1 t20.length co1),V I t21,V I t22,V I t23,O t24,V I t25,O t26,V I t27,V I t28,(L Ao2 t29.length co2),(L Ao3 t30.length co3),V I t31,O t32,V I t33] 36 (0,0)))∧D (wc.heap[gb4]? =some (.cells #[(L Ao4 t35.length co4),V I t36,V I t37,V I t38,O t39,V I t40,O t41,V I t42,V I t43,(L Ao5 t44.length co5),(L Ao6 t45.length co6),V I t46,O t47,V I t48] 36 (0,0)))∧D (wc.heap[gb5]? =some (.cells #[(L Ao7 t53.length co7),V I t54,V I t55,V I t56,O t57,V I t58,O t59,V I t60,V I t61,(L Ao8 t62.length co8),(L Ao9 t63.length co9),V I t64,O t65,V I t66] 36 (0,0)))∧D (Below w.heap.size w wc))
  case first=>
   have H:=HC3.out
   clear HC3
   by_cases c4:t83<0
   ·rw[if_pos c4]at H
    have c4b0:decide (t83<0)=true:=decide_eq_true c4
    clear c4
    (first|rw[c4b0]|(simp only[i64_w,i32_w];rw[c4b0])|skip)
    rw[hT.out]at H
    exact absurd H (by cases kj15<;>simp[laws_FnExactDoAct.j1])
   rw[if_neg c4]at H
   have c4b0:decide (t83<0)=false:=decide_eq_false c4
   clear c4
   (first|rw[c4b0]|(simp only[i64_w,i32_w];rw[c4b0])|skip)
   obtain⟨t87,A11,H⟩:=bnd H
   by_cases c5:t87=true
   rotate_left
   ·obtain rfl:=nt c5
    replace H:=nf H
    rw[hT.out]at H
    exact absurd H (by cases kj15<;>simp[laws_FnExactDoAct.j1])
   subst c5
   rw[if_pos rfl]at H
   have H':=C H
   clear H
   have:=n13.out
   have:=n12.out
   have:=n15.out
   have:=n14.out
   have:=n17.out
   have:=n16.out
   have:=n19.out
   have:=n18.out
   have h_:=d14 BK5.out;(repeat(obtain⟨_,h_⟩:=h_))
   have:=n3.out
   have:=n2.out
   have:=n5.out
   have:=n4.out
   have:=n10.out
   have:=n11.out
   have h_:=d14 BK3.out;(repeat(obtain⟨_,h_⟩:=h_))
   go_wp2_with (first|(go_at_call 13;(with_reducible refine(laws_eqMachine.calls kj15 _ _ t53 t54 t55 t56 t57 t58 t59 t60 t61 _ _ t62 _ _ t63 t64 t65 t66 _ _ t20 t21 t22 t23 t24 t25 t26 t27 t28 _ _ t29 _ _ t30 t31 t32 t33 true _ ?side1 ?side2 ?side3 ?side4 ?side5 ?side6 ?side7 ?side8 ?side9 ?side10 ?side11 ?side12 A11.out).mono ?_);(case side1=>exact uC (Kd.Q_reads' HO_7.out).2.2);(case side2=>exact(Kd.Q_reads' HO_7.out).2.1);(case side3=>exact uC (Kd.Q_reads' HO_8.out).2.2);(case side4=>exact(Kd.Q_reads' HO_8.out).2.1);(case side5=>exact uC (Kd.Q_reads' HO_9.out).2.2);(case side6=>exact(Kd.Q_reads' HO_9.out).2.1);(case side7=>exact uC (Kd.R_reads' HO_1.out).2.2);(case side8=>exact(Kd.R_reads' HO_1.out).2.1);(case side9=>exact uC (Kd.Q_reads' HO_2.out).2.2);(case side10=>exact(Kd.Q_reads' HO_2.out).2.1);(case side11=>exact uC (Kd.R_reads' HO_3.out).2.2);(case side12=>exact(Kd.R_reads' HO_3.out).2.1);rintro e w17 ⟨rfl,hb⟩;replace HO_1:=eR HO_1 hb;replace HO_2:=eQ HO_2 hb;replace HO_3:=eR HO_3 hb;replace HO_4:=eQ HO_4 hb;replace HO_5:=eQ HO_5 hb;replace HO_6:=eQ HO_6 hb;replace HO_7:=eQ HO_7 hb;replace HO_8:=eQ HO_8 hb;replace HO_9:=eQ HO_9 hb;replace HO13:=eR HO13 hb;replace HO14:=eR HO14 hb;replace HO15:=eR HO15 hb;replace BK1:=eK BK1 hb;replace BK2:=eK BK2 hb;replace BK3:=eK BK3 hb;replace BK4:=eK BK4 hb;replace BK5:=eK BK5 hb;replace HB:=eB hb;clear hb))
   go_meet
   case rel=>exact⟨_,((t67 !=t34)),rS,H',⟨by have:=HJ1.out;first|omega|exact Nat.le_refl _⟩,⟨X (fR HO_1.out) (fun _ hk=>⟨hk.1,hk.2.1⟩)⟩,⟨Kd.Q_mono (fQ HO_2.out) (fun _ hk=>⟨hk.1,⟨hk.2.1,⟨hk.2.2.1,⟨hk.2.2.2.1,hk.2.2.2.2.1⟩⟩⟩⟩)⟩,⟨X (fR HO_3.out) (fun _ hk=>⟨hk.1,⟨hk.2.1,⟨hk.2.2.1,⟨hk.2.2.2.1,hk.2.2.2.2.1⟩⟩⟩⟩)⟩,⟨Kd.Q_mono (fQ HO_4.out) (fun _ hk=>⟨hk.1.1,hk.1.2⟩)⟩,⟨Kd.Q_mono (fQ HO_5.out) (fun _ hk=>⟨hk.1.1.1,⟨hk.1.1.2.1,⟨hk.1.1.2.2.1,⟨hk.1.1.2.2.2.1,hk.1.1.2.2.2.2⟩⟩⟩⟩)⟩,⟨Kd.Q_mono (fQ HO_6.out) (fun _ hk=>⟨hk.1.1.1,⟨hk.1.1.2.1,⟨hk.1.1.2.2.1,⟨hk.1.1.2.2.2.1,hk.1.1.2.2.2.2⟩⟩⟩⟩)⟩,⟨Kd.Q_mono (fQ HO_7.out) (fun _ hk=>⟨hk.1,hk.2.1⟩)⟩,⟨Kd.Q_mono (fQ HO_8.out) (fun _ hk=>⟨hk.1,⟨hk.2.1,⟨hk.2.2.1,⟨hk.2.2.2.1,hk.2.2.2.2.1⟩⟩⟩⟩)⟩,⟨Kd.Q_mono (fQ HO_9.out) (fun _ hk=>⟨hk.1,⟨hk.2.1,⟨hk.2.2.1,⟨hk.2.2.2.1,hk.2.2.2.2.1⟩⟩⟩⟩)⟩,⟨bK BK1.out⟩,⟨bK BK2.out⟩,⟨bK BK3.out⟩,⟨bK BK4.out⟩,⟨bK BK5.out⟩,⟨uB⟩⟩
  case rest=>
   exact laws_FnExactDoAct.B1 HR1_0 HC1_0 HR1_9 HC1_9 HR1_10 HC1_10 hT GW1 GE1 GW2 GE2 n0 n1 GW3 GE3 n2 n3 n4 n5 GW4 n6 n7 n8 n9 n10 n11 GW5 GE5 n12 n13 n14 n15 n16 n17 n18 n19 HJ1 hcut (by assumption) (by assumption)
theorem laws_FnExactDoAct.calls (k:Nat) (A0_0:Option Addr) (c0_0:Nat) (l0_0:List (S24)) (a0_1:Int) (a0_2:Int) (a0_3:Int) (a0_4:Bool) (a0_5:Int) (a0_6:Bool) (a0_7:Int) (a0_8:Int) (A0_9:Option Addr) (c0_9:Nat) (l0_9:List Int) (A0_10:Option Addr) (c0_10:Nat) (l0_10:List Int) (a0_11:Int) (a0_12:Bool) (a0_13:Int) (a1_0:Int) (a1_1:Int) (a1_2:Int) (a1_3:Int) (r:Bool) (w:World) (hr0_0:Kd.C k24 w A0_0 l0_0.length l0_0) (hc0_0:l0_0.length≤c0_0) (hr0_9:Kd.C (Kd.int .i64) w A0_9 l0_9.length l0_9) (hc0_9:l0_9.length≤c0_9) (hr0_10:Kd.C (Kd.int .i64) w A0_10 l0_10.length l0_10) (hc0_10:l0_10.length≤c0_10) (hT:r=true) (h:laws_FnExactDoAct.f k l0_0 a0_1 a0_2 a0_3 a0_4 a0_5 a0_6 a0_7 a0_8 l0_9 l0_10 a0_11 a0_12 a0_13 a1_0 a1_1 a1_2 a1_3=some r):
 Calls prog 6 #[G #[L A0_0 l0_0.length c0_0,V I a0_1,V I a0_2,V I a0_3,O a0_4,V I a0_5,O a0_6,V I a0_7,V I a0_8,L A0_9 l0_9.length c0_9,L A0_10 l0_10.length c0_10,V I a0_11,O a0_12,V I a0_13],G #[V I a1_0,V I a1_1,V I a1_2,V I a1_3]] w fun e w'=>e=.returned (O r)∧Below w.heap.size w w':=by
 have hu1:=underlying29
 have hu2:=underlying50
 have hu3:=underlying36
 have HR1_0:=C hr0_0
 have HC1_0:=C hc0_0
 (try clear hr0_0);(try clear hc0_0)
 have HR1_9:=C hr0_9
 have HC1_9:=C hc0_9
 (try clear hr0_9);(try clear hc0_9)
 have HR1_10:=C hr0_10
 have HC1_10:=C hc0_10
 (try clear hr0_10);(try clear hc0_10)
 replace hT:=C hT
 have HB:=C (Below.refl w.heap.size w)
 have H:=h
 unfold laws_FnExactDoAct.f at H
 clear h
 obtain⟨t1,A1,H⟩:=bnd H
 by_cases c1:t1<0
 ·rw[if_pos c1]at H
  replace c1:=decide_eq_true c1
  obtain rfl:=si H
  go_enter func6,ntmps6
  go_wp2_with (first|((with_reducible refine gate_dst (N:=2) rfl ?_);refine Fix.be 2 #[L A0_0 l0_0.length c0_0,V I a0_1,V I a0_2,V I a0_3,O a0_4,V I a0_5,O a0_6,V I a0_7,V I a0_8,L A0_9 l0_9.length c0_9,L A0_10 l0_10.length c0_10,V I a0_11,O a0_12,V I a0_13] 29 ?_;intro gb1 hg w2 BK1 hb;have GW1:=gE (w:=w) hg;have GE1:=GW1;replace HB:=eB hb;clear hb hg)|((with_reducible refine gate_dst (N:=3) rfl ?_);refine Fix.be 3 #[V I a1_0,V I a1_1,V I a1_2,V I a1_3] 50 ?_;intro gb2 hg w3 BK2 hb;have GW2:=gE (w:=w) hg;have GE2:=GW2;have n0:=nL hg BK1;have n1:=nG hg BK1;replace BK1:=eK BK1 hb;replace HB:=eB hb;clear hb hg;have:=n0.out;have:=n1.out;have h_:=d14 BK1.out;(repeat(obtain⟨_,h_⟩:=h_)))|((with_reducible refine gate_callee (f:=9) rfl ?_);refine gl 9 (some 18) func9 #[G #[L A0_0 l0_0.length c0_0,V I a0_1,V I a0_2,V I a0_3,O a0_4,V I a0_5,O a0_6,V I a0_7,V I a0_8,L A0_9 l0_9.length c0_9,L A0_10 l0_10.length c0_10,V I a0_11,O a0_12,V I a0_13],V I 1048576] ?_;(with_reducible refine(laws_szMachine.calls _ _ l0_0 a0_1 a0_2 a0_3 a0_4 a0_5 a0_6 a0_7 a0_8 _ _ l0_9 _ _ l0_10 a0_11 a0_12 a0_13 1048576 t1 _ ?side1 HC1_0.out ?side3 HC1_9.out ?side5 HC1_10.out A1.out).mono ?_);(case side1=>exact uZ HR1_0);(case side3=>exact uZ HR1_9);(case side5=>exact uZ HR1_10);rintro e w4 ⟨rfl,hb⟩;refine⟨_,rfl,?_⟩;replace BK1:=eK BK1 hb;replace BK2:=eK BK2 hb;replace HB:=eB hb;clear hb))
  go_ret
  exact⟨rE,uB⟩
 rw[if_neg c1]at H
 replace c1:=decide_eq_false c1
 obtain⟨⟨t2,t3,t4,t5,t6,t7,t8,t9,t10,t11,t12,t13,t14,t15⟩,A2,H⟩:=bnd H
 dsimp only at H
 obtain⟨⟨t16,t17,t18,t19⟩,A3,H⟩:=bnd H
 dsimp only at H
 obtain⟨⟨t20,t21,t22,t23,t24,t25,t26,t27,t28,t29,t30,t31,t32,t33,t34⟩,A4,H⟩:=bnd H
 dsimp only at H
 obtain⟨⟨t35,t36,t37,t38,t39,t40,t41,t42,t43,t44,t45,t46,t47,t48⟩,A5,H⟩:=bnd H
 dsimp only at H
 obtain⟨⟨t49,t50,t51,t52⟩,A6,H⟩:=bnd H
 dsimp only at H
 obtain⟨⟨t53,t54,t55,t56,t57,t58,t59,t60,t61,t62,t63,t64,t65,t66,t67⟩,A7,H⟩:=bnd H
 dsimp only at H
 have HC2:=C H
 clear H
 go_enter func6,ntmps6
 try go_wp2_with (first|((with_reducible refine gate_dst (N:=2) rfl ?_);refine Fix.be 2 #[L A0_0 l0_0.length c0_0,V I a0_1,V I a0_2,V I a0_3,O a0_4,V I a0_5,O a0_6,V I a0_7,V I a0_8,L A0_9 l0_9.length c0_9,L A0_10 l0_10.length c0_10,V I a0_11,O a0_12,V I a0_13] 29 ?_;intro gb1 hg w2 BK1 hb;have GW1:=gE (w:=w) hg;have GE1:=GW1;replace HB:=eB hb;clear hb hg)|((with_reducible refine gate_dst (N:=3) rfl ?_);refine Fix.be 3 #[V I a1_0,V I a1_1,V I a1_2,V I a1_3] 50 ?_;intro gb2 hg w3 BK2 hb;have GW2:=gE (w:=w) hg;have GE2:=GW2;have n0:=nL hg BK1;have n1:=nG hg BK1;replace BK1:=eK BK1 hb;replace HB:=eB hb;clear hb hg;have:=n0.out;have:=n1.out;have h_:=d14 BK1.out;(repeat(obtain⟨_,h_⟩:=h_)))|((with_reducible refine gate_callee (f:=9) rfl ?_);refine gl 9 (some 18) func9 #[G #[L A0_0 l0_0.length c0_0,V I a0_1,V I a0_2,V I a0_3,O a0_4,V I a0_5,O a0_6,V I a0_7,V I a0_8,L A0_9 l0_9.length c0_9,L A0_10 l0_10.length c0_10,V I a0_11,O a0_12,V I a0_13],V I 1048576] ?_;(with_reducible refine(laws_szMachine.calls _ _ l0_0 a0_1 a0_2 a0_3 a0_4 a0_5 a0_6 a0_7 a0_8 _ _ l0_9 _ _ l0_10 a0_11 a0_12 a0_13 1048576 t1 _ ?side1 HC1_0.out ?side3 HC1_9.out ?side5 HC1_10.out A1.out).mono ?_);(case side1=>exact uZ HR1_0);(case side3=>exact uZ HR1_9);(case side5=>exact uZ HR1_10);rintro e w4 ⟨rfl,hb⟩;refine⟨_,rfl,?_⟩;replace BK1:=eK BK1 hb;replace BK2:=eK BK2 hb;replace HB:=eB hb;clear hb))
 replace BK1:=dK BK1
 replace BK2:=dK BK2
 replace HB:=dB HB
 refine start_ (n:=11) (S:=fun w'=>cr14 w' gb1 (L A0_0 l0_0.length c0_0) (V I a0_1) (V I a0_2) (V I a0_3) (O a0_4) (V I a0_5) (O a0_6) (V I a0_7) (V I a0_8) (L A0_9 l0_9.length c0_9) (L A0_10 l0_10.length c0_10) (V I a0_11) (O a0_12) (V I a0_13) (cl4 w' gb2 (V I a1_0) (V I a1_1) (V I a1_2) (V I a1_3))) (ds:= []) #[false,false,false,false,false,false,false,false,false,false,false] (by kernel_rfl) rfl rfl hh (fun hHeld=> ?_);refine with_tabW laws_FnExactDoAct.tab5 laws_FnExactDoAct.bits5 (fun HT_ HW_=> ?_)
 generalize w4.drew=w5 at BK1 BK2 HB hHeld ⊢
 refine tu 0 (some 22) hHeld ?_
 refine tu 2 (some 24) hHeld ?_
 refine join_ (σ:=Value×Value×Value×Value×Value×Value×Nat) 2 #[true,true,true,true,true,true,true,true,true,false,false] (fun s_=> [(23,G #[s_.1,V I t3,V I t4,V I t5,O t6,V I t7,O t8,V I t9,V I t10,s_.2.1,s_.2.2.1,V I t13,O t14,V I t15]),(25,G #[V I t16,V I t17,V I t18,V I t19]),(26,.tuple #[G #[s_.2.2.2.1,V I t21,V I t22,V I t23,O t24,V I t25,O t26,V I t27,V I t28,s_.2.2.2.2.1,s_.2.2.2.2.2.1,V I t31,O t32,V I t33],V I t34]),(6,.pointer (some ⟨s_.2.2.2.2.2.2,0,none⟩)),(21,.tuple #[G #[s_.2.2.2.1,V I t21,V I t22,V I t23,O t24,V I t25,O t26,V I t27,V I t28,s_.2.2.2.2.1,s_.2.2.2.2.2.1,V I t31,O t32,V I t33],V I t34]),(27,G #[s_.2.2.2.1,V I t21,V I t22,V I t23,O t24,V I t25,O t26,V I t27,V I t28,s_.2.2.2.2.1,s_.2.2.2.2.2.1,V I t31,O t32,V I t33]),(28,V I t34)]) (fun s_ w'=>(cr14 w' gb1 (L A0_0 l0_0.length c0_0) (V I a0_1) (V I a0_2) (V I a0_3) (O a0_4) (V I a0_5) (O a0_6) (V I a0_7) (V I a0_8) (L A0_9 l0_9.length c0_9) (L A0_10 l0_10.length c0_10) (V I a0_11) (O a0_12) (V I a0_13) (cl4 w' gb2 (V I a1_0) (V I a1_1) (V I a1_2) (V I a1_3)))∧(Kd.R k33 33 w' w.heap.size (fun k_=>some k_≠(s_.2.2.2.1:Value).ownBlock) s_.1 t2)∧(Kd.R (Kd.int .i64) 3 w' w.heap.size (fun k_=>some k_≠(s_.2.2.1:Value).ownBlock∧some k_≠(s_.2.2.2.2.1:Value).ownBlock∧some k_≠(s_.2.2.2.2.2.1:Value).ownBlock) s_.2.1 t11)∧(Kd.R (Kd.int .i64) 3 w' w.heap.size (fun k_=>some k_≠(s_.2.1:Value).ownBlock∧some k_≠(s_.2.2.2.2.1:Value).ownBlock∧some k_≠(s_.2.2.2.2.2.1:Value).ownBlock) s_.2.2.1 t12)∧(Kd.R k33 33 w' w.heap.size (fun k_=>some k_≠(s_.1:Value).ownBlock) s_.2.2.2.1 t20)∧(Kd.Q (Kd.int .i64) 3 w' w.heap.size (fun k_=>some k_≠(s_.2.1:Value).ownBlock∧some k_≠(s_.2.2.1:Value).ownBlock∧some k_≠(s_.2.2.2.2.2.1:Value).ownBlock) s_.2.2.2.2.1 t29)∧(Kd.R (Kd.int .i64) 3 w' w.heap.size (fun k_=>some k_≠(s_.2.1:Value).ownBlock∧some k_≠(s_.2.2.1:Value).ownBlock∧some k_≠(s_.2.2.2.2.1:Value).ownBlock) s_.2.2.2.2.2.1 t30)∧(w'.heap[gb1]? =some (.cells #[L A0_0 l0_0.length c0_0,V I a0_1,V I a0_2,V I a0_3,O a0_4,V I a0_5,O a0_6,V I a0_7,V I a0_8,L A0_9 l0_9.length c0_9,L A0_10 l0_10.length c0_10,V I a0_11,O a0_12,V I a0_13] 29 (0,0)))∧(w'.heap[gb2]? =some (.cells #[V I a1_0,V I a1_1,V I a1_2,V I a1_3] 50 (0,0)))∧(w'.heap[s_.2.2.2.2.2.2]? =some (.cells #[L none 0 0,V I 0,V I 0,V I 0,O false,V I 0,O false,V I 0,V I 0,L none 0 0,L none 0 0,V I 0,O false,V I 0] 36 (0,0)))∧(w.heap.size≤s_.2.2.2.2.2.2)∧(w.heap.size≤s_.2.2.2.2.2.2)∧(gb1≠s_.2.2.2.2.2.2)∧(s_.2.2.2.2.2.2≠gb1)∧(gb2≠s_.2.2.2.2.2.2)∧(s_.2.2.2.2.2.2≠gb2)∧(Below w.heap.size w w')) ?_ ?_
 rotate_left
 ·intro hCont
  refine two_ (i:=1) (j:=8) (Ni:=some 23) (Nj:=some 6) #[true,true,true,false,false,false,false,false,false,false,false] #[true,false,true,false,false,false,false,false,true,false,false] rfl rfl rfl rfl (two_of HT_.out (by kernel_rfl)) (by decide) (by decide) (fun K hK=> ?_) (fun K hK=> ?_)
  ·skip
   refine gs func11 #[G #[L A0_0 l0_0.length c0_0,V I a0_1,V I a0_2,V I a0_3,O a0_4,V I a0_5,O a0_6,V I a0_7,V I a0_8,L A0_9 l0_9.length c0_9,L A0_10 l0_10.length c0_10,V I a0_11,O a0_12,V I a0_13]] ?_
   with_reducible refine(laws_toMachine.calls k _ _ l0_0 a0_1 a0_2 a0_3 a0_4 a0_5 a0_6 a0_7 a0_8 _ _ l0_9 _ _ l0_10 a0_11 a0_12 a0_13 t2 t3 t4 t5 t6 t7 t8 t9 t10 t11 t12 t13 t14 t15 _ ?side1 HC1_0.out ?side3 HC1_9.out ?side5 HC1_10.out A2.out).mono ?_
   (case side1=>exact uZ HR1_0)
   (case side3=>exact uZ HR1_9)
   (case side5=>exact uZ HR1_10)
   rintro e w6 ⟨v1,v2,v3,rfl,ho1,ho2,ho3,hb⟩
   refine⟨_,rfl,?_⟩
   have HO1:=lR ho1
   have HO2:=lR ho2
   have HO3:=lR ho3
   replace BK1:=eK BK1 hb
   replace BK2:=eK BK2 hb
   replace HB:=eB hb
   (try clear hb)
   refine hK.out _ _ hh (fun hHeld=> ?_)
   clear hK K
   refine nu (N:=(some 23)) ?_
   refine two_ (i:=3) (j:=8) (Ni:=some 25) (Nj:=some 6) #[true,true,true,true,false,false,false,false,false,false,false] #[true,true,true,false,false,false,false,false,true,false,false] rfl rfl rfl rfl (two_of HT_.out (by kernel_rfl)) (by decide) (by decide) (fun K hK=> ?_) (fun K hK=> ?_)
   ·skip
    refine gs func20 #[G #[V I a1_0,V I a1_1,V I a1_2,V I a1_3]] ?_
    with_reducible refine(laws_toAct.calls a1_0 a1_1 a1_2 a1_3 t16 t17 t18 t19 _ A3.out).mono ?_
    rintro e w7 ⟨rfl,hb⟩
    refine⟨_,rfl,?_⟩
    replace HO1:=eR HO1 hb
    replace HO2:=eR HO2 hb
    replace HO3:=eR HO3 hb
    replace BK1:=eK BK1 hb
    replace BK2:=eK BK2 hb
    replace HB:=eB hb
    (try clear hb)
    obtain⟨Ao1,co1,eo1⟩:=U HO1.out
    (first|subst eo1|(injection eo1 with f1_ f2_ f3_;have f4_:=f1_.symm;have f5_:=f3_.symm;clear f1_ f2_ f3_;subst f4_;subst f5_))
    obtain⟨Ao2,co2,eo2⟩:=U HO2.out
    (first|subst eo2|(injection eo2 with f1_ f2_ f3_;have f4_:=f1_.symm;have f5_:=f3_.symm;clear f1_ f2_ f3_;subst f4_;subst f5_))
    obtain⟨Ao3,co3,eo3⟩:=U HO3.out
    (first|subst eo3|(injection eo3 with f1_ f2_ f3_;have f4_:=f1_.symm;have f5_:=f3_.symm;clear f1_ f2_ f3_;subst f4_;subst f5_))
    refine hK.out _ _ hh (fun hHeld=> ?_)
    clear hK K
    refine nu (N:=(some 25)) ?_
    refine two_ (i:=4) (j:=8) (Ni:=some 26) (Nj:=some 6) #[true,true,true,true,true,false,false,false,false,false,false] #[true,true,true,true,false,false,false,false,true,false,false] rfl rfl rfl rfl (two_of HT_.out (by kernel_rfl)) (by decide) (by decide) (fun K hK=> ?_) (fun K hK=> ?_)
    ·skip
     refine gs func19 #[G #[L Ao1 t2.length co1,V I t3,V I t4,V I t5,O t6,V I t7,O t8,V I t9,V I t10,L Ao2 t11.length co2,L Ao3 t12.length co3,V I t13,O t14,V I t15],G #[V I t16,V I t17,V I t18,V I t19]] ?_
     with_reducible refine(spec_DoAct.calls k _ _ t2 t3 t4 t5 t6 t7 t8 t9 t10 _ _ t11 _ _ t12 t13 t14 t15 t16 t17 t18 t19 t20 t21 t22 t23 t24 t25 t26 t27 t28 t29 t30 t31 t32 t33 t34 _ ?side1 ?side2 ?side3 ?side4 ?side5 ?side6 A4.out).mono ?_
     (case side1=>exact uC (Kd.R_reads' HO1.out).2.2)
     (case side2=>exact(Kd.R_reads' HO1.out).2.1)
     (case side3=>exact uC (Kd.R_reads' HO2.out).2.2)
     (case side4=>exact(Kd.R_reads' HO2.out).2.1)
     (case side5=>exact uC (Kd.R_reads' HO3.out).2.2)
     (case side6=>exact(Kd.R_reads' HO3.out).2.1)
     rintro e w8 ⟨v4,v5,v6,rfl,ho1,ho2,ho3,hb⟩
     refine⟨_,rfl,?_⟩
     have HO4:=C (Kd.R_lower (Kd.R_new' ho1 (Kd.R_lt (uR HO1.out))) (below_size uB))
     have HO5:=C (Kd.Q_lower (Kd.Q_new' (Kd.Q_new' ho2 (Kd.R_lt (uR HO2.out))) (Kd.R_lt (uR HO3.out))) (below_size uB))
     have HO6:=C (Kd.R_lower (Kd.R_new' (Kd.R_new' ho3 (Kd.R_lt (uR HO2.out))) (Kd.R_lt (uR HO3.out))) (below_size uB))
     replace HO1:=C (Kd.R_elder' (uR HO1.out) (Kd.R_base ho1) hb)
     replace HO2:=C (X (Kd.R_told (Kd.R_told (Kd.R_old (uR HO2.out) hb) (Kd.Q_base ho2)) (Kd.R_base ho3)) (fun _ h_=>h_.1))
     replace HO3:=C (X (Kd.R_told (Kd.R_told (Kd.R_old (uR HO3.out) hb) (Kd.Q_base ho2)) (Kd.R_base ho3)) (fun _ h_=>h_.1))
     replace BK1:=eK BK1 hb
     replace BK2:=eK BK2 hb
     replace HB:=eB hb
     (try clear hb)
     refine hK.out _ _ hh (fun hHeld=> ?_)
     clear hK K
     refine nu (N:=(some 26)) ?_
     refine pu 5 (some 21) ?_
     refine pu 6 (some 27) ?_
     refine pu 7 (some 28) ?_
     refine ou 8 (some 6) (fun K hK=> ?_)
     refine box_step ?hg (N:=6) ?hd (cs:= #[L none 0 0,V I 0,V I 0,V I 0,O false,V I 0,O false,V I 0,V I 0,L none 0 0,L none 0 0,V I 0,O false,V I 0]) (t:=36) ?hr ?_;(case hd=>rfl);(case hg=>rfl);(case hr=>exact Fix.hr)
     intro gb3 hg w9 hbox hb
     have BK3:=C hbox
     have GW3:=gE (w:=w) hg
     have GE3:=gE (w:=w) hg
     have n2:=nL hg BK1
     have n3:=nG hg BK1
     have n4:=nL hg BK2
     have n5:=nG hg BK2
     replace HO1:=eR HO1 hb
     replace HO2:=eR HO2 hb
     replace HO3:=eR HO3 hb
     replace HO4:=eR HO4 hb
     replace HO5:=eQ HO5 hb
     replace HO6:=eR HO6 hb
     replace BK1:=eK BK1 hb
     replace BK2:=eK BK2 hb
     replace HB:=eB hb
     clear hb hbox hg
     refine hK.out _ _ hh (fun hHeld=> ?_)
     clear hK K
     refine nu (N:=(some 6)) ?_
     exact norm_ (by simp only[putAll,Act.put,List.setIfInBounds_toArray,List.set_cons_zero,List.set_cons_succ]) (hCont (L Ao1 t2.length co1,L Ao2 t11.length co2,L Ao3 t12.length co3,v4,v5,v6,gb3) _ ⟨hHeld,(X (fR HO1.out) (fun _ hk=>hk.2)),(X (fR HO2.out) (fun _ hk=>⟨hk.1.1,⟨hk.1.2,hk.2⟩⟩)),(X (fR HO3.out) (fun _ hk=>⟨hk.1.1,⟨hk.1.2,hk.2⟩⟩)),(X (fR HO4.out) (fun _ hk=>hk.2)),(Kd.Q_mono (fQ HO5.out) (fun _ hk=>⟨hk.1.2,⟨hk.2,hk.1.1⟩⟩)),(X (fR HO6.out) (fun _ hk=>⟨hk.1.2,⟨hk.2,hk.1.1⟩⟩)),(uK BK1.out),(uK BK2.out),(uK BK3.out),GW3.out,GE3.out,n2.out,n3.out,n4.out,n5.out,uB⟩)
    ·skip
     refine box_step ?hg (N:=6) ?hd (cs:= #[L none 0 0,V I 0,V I 0,V I 0,O false,V I 0,O false,V I 0,V I 0,L none 0 0,L none 0 0,V I 0,O false,V I 0]) (t:=36) ?hr ?_;(case hd=>rfl);(case hg=>rfl);(case hr=>exact Fix.hr)
     intro gb3 hg w8 hbox hb
     have BK3:=C hbox
     have GW3:=gE (w:=w) hg
     have GE3:=gE (w:=w) hg
     have n2:=nL hg BK1
     have n3:=nG hg BK1
     have n4:=nL hg BK2
     have n5:=nG hg BK2
     replace HO1:=eR HO1 hb
     replace HO2:=eR HO2 hb
     replace HO3:=eR HO3 hb
     replace BK1:=eK BK1 hb
     replace BK2:=eK BK2 hb
     replace HB:=eB hb
     clear hb hbox hg
     obtain⟨Ao2,co2,eo2⟩:=U HO1.out
     (first|subst eo2|(injection eo2 with f1_ f2_ f3_;have f4_:=f1_.symm;have f5_:=f3_.symm;clear f1_ f2_ f3_;subst f4_;subst f5_))
     obtain⟨Ao3,co3,eo3⟩:=U HO2.out
     (first|subst eo3|(injection eo3 with f1_ f2_ f3_;have f4_:=f1_.symm;have f5_:=f3_.symm;clear f1_ f2_ f3_;subst f4_;subst f5_))
     obtain⟨Ao4,co4,eo4⟩:=U HO3.out
     (first|subst eo4|(injection eo4 with f1_ f2_ f3_;have f4_:=f1_.symm;have f5_:=f3_.symm;clear f1_ f2_ f3_;subst f4_;subst f5_))
     refine hK.out _ _ hh (fun hHeld=> ?_)
     clear hK K
     refine nu (N:=(some 6)) ?_
     refine ou 4 (some 26) (fun K hK=> ?_)
     refine gs func19 #[G #[L Ao2 t2.length co2,V I t3,V I t4,V I t5,O t6,V I t7,O t8,V I t9,V I t10,L Ao3 t11.length co3,L Ao4 t12.length co4,V I t13,O t14,V I t15],G #[V I t16,V I t17,V I t18,V I t19]] ?_
     with_reducible refine(spec_DoAct.calls k _ _ t2 t3 t4 t5 t6 t7 t8 t9 t10 _ _ t11 _ _ t12 t13 t14 t15 t16 t17 t18 t19 t20 t21 t22 t23 t24 t25 t26 t27 t28 t29 t30 t31 t32 t33 t34 _ ?side1 ?side2 ?side3 ?side4 ?side5 ?side6 A4.out).mono ?_
     (case side1=>exact uC (Kd.R_reads' HO1.out).2.2)
     (case side2=>exact(Kd.R_reads' HO1.out).2.1)
     (case side3=>exact uC (Kd.R_reads' HO2.out).2.2)
     (case side4=>exact(Kd.R_reads' HO2.out).2.1)
     (case side5=>exact uC (Kd.R_reads' HO3.out).2.2)
     (case side6=>exact(Kd.R_reads' HO3.out).2.1)
     rintro e w9 ⟨v4,v5,v6,rfl,ho1,ho2,ho3,hb⟩
     refine⟨_,rfl,?_⟩
     have HO4:=C (Kd.R_lower (Kd.R_new' ho1 (Kd.R_lt (uR HO1.out))) (below_size uB))
     have HO5:=C (Kd.Q_lower (Kd.Q_new' (Kd.Q_new' ho2 (Kd.R_lt (uR HO2.out))) (Kd.R_lt (uR HO3.out))) (below_size uB))
     have HO6:=C (Kd.R_lower (Kd.R_new' (Kd.R_new' ho3 (Kd.R_lt (uR HO2.out))) (Kd.R_lt (uR HO3.out))) (below_size uB))
     replace HO1:=C (Kd.R_elder' (uR HO1.out) (Kd.R_base ho1) hb)
     replace HO2:=C (X (Kd.R_told (Kd.R_told (Kd.R_old (uR HO2.out) hb) (Kd.Q_base ho2)) (Kd.R_base ho3)) (fun _ h_=>h_.1))
     replace HO3:=C (X (Kd.R_told (Kd.R_told (Kd.R_old (uR HO3.out) hb) (Kd.Q_base ho2)) (Kd.R_base ho3)) (fun _ h_=>h_.1))
     replace BK1:=eK BK1 hb
     replace BK2:=eK BK2 hb
     replace BK3:=eK BK3 hb
     replace HB:=eB hb
     (try clear hb)
     refine hK.out _ _ hh (fun hHeld=> ?_)
     clear hK K
     refine nu (N:=(some 26)) ?_
     refine pu 5 (some 21) ?_
     refine pu 6 (some 27) ?_
     refine pu 7 (some 28) ?_
     exact norm_ (by simp only[putAll,Act.put,List.setIfInBounds_toArray,List.set_cons_zero,List.set_cons_succ]) (hCont (L Ao2 t2.length co2,L Ao3 t11.length co3,L Ao4 t12.length co4,v4,v5,v6,gb3) _ ⟨hHeld,(X (fR HO1.out) (fun _ hk=>hk.2)),(X (fR HO2.out) (fun _ hk=>⟨hk.1.1,⟨hk.1.2,hk.2⟩⟩)),(X (fR HO3.out) (fun _ hk=>⟨hk.1.1,⟨hk.1.2,hk.2⟩⟩)),(X (fR HO4.out) (fun _ hk=>hk.2)),(Kd.Q_mono (fQ HO5.out) (fun _ hk=>⟨hk.1.2,⟨hk.2,hk.1.1⟩⟩)),(X (fR HO6.out) (fun _ hk=>⟨hk.1.2,⟨hk.2,hk.1.1⟩⟩)),(uK BK1.out),(uK BK2.out),(uK BK3.out),GW3.out,GE3.out,n2.out,n3.out,n4.out,n5.out,uB⟩)
   ·skip
    refine box_step ?hg (N:=6) ?hd (cs:= #[L none 0 0,V I 0,V I 0,V I 0,O false,V I 0,O false,V I 0,V I 0,L none 0 0,L none 0 0,V I 0,O false,V I 0]) (t:=36) ?hr ?_;(case hd=>rfl);(case hg=>rfl);(case hr=>exact Fix.hr)
    intro gb3 hg w7 hbox hb
    have BK3:=C hbox
    have GW3:=gE (w:=w) hg
    have GE3:=gE (w:=w) hg
    have n2:=nL hg BK1
    have n3:=nG hg BK1
    have n4:=nL hg BK2
    have n5:=nG hg BK2
    replace HO1:=eR HO1 hb
    replace HO2:=eR HO2 hb
    replace HO3:=eR HO3 hb
    replace BK1:=eK BK1 hb
    replace BK2:=eK BK2 hb
    replace HB:=eB hb
    clear hb hbox hg
    refine hK.out _ _ hh (fun hHeld=> ?_)
    clear hK K
    refine nu (N:=(some 6)) ?_
    refine ou 3 (some 25) (fun K hK=> ?_)
    refine gs func20 #[G #[V I a1_0,V I a1_1,V I a1_2,V I a1_3]] ?_
    with_reducible refine(laws_toAct.calls a1_0 a1_1 a1_2 a1_3 t16 t17 t18 t19 _ A3.out).mono ?_
    rintro e w8 ⟨rfl,hb⟩
    refine⟨_,rfl,?_⟩
    replace HO1:=eR HO1 hb
    replace HO2:=eR HO2 hb
    replace HO3:=eR HO3 hb
    replace BK1:=eK BK1 hb
    replace BK2:=eK BK2 hb
    replace BK3:=eK BK3 hb
    replace HB:=eB hb
    (try clear hb)
    obtain⟨Ao1,co1,eo1⟩:=U HO1.out
    (first|subst eo1|(injection eo1 with f1_ f2_ f3_;have f4_:=f1_.symm;have f5_:=f3_.symm;clear f1_ f2_ f3_;subst f4_;subst f5_))
    obtain⟨Ao2,co2,eo2⟩:=U HO2.out
    (first|subst eo2|(injection eo2 with f1_ f2_ f3_;have f4_:=f1_.symm;have f5_:=f3_.symm;clear f1_ f2_ f3_;subst f4_;subst f5_))
    obtain⟨Ao3,co3,eo3⟩:=U HO3.out
    (first|subst eo3|(injection eo3 with f1_ f2_ f3_;have f4_:=f1_.symm;have f5_:=f3_.symm;clear f1_ f2_ f3_;subst f4_;subst f5_))
    refine hK.out _ _ hh (fun hHeld=> ?_)
    clear hK K
    refine nu (N:=(some 25)) ?_
    refine ou 4 (some 26) (fun K hK=> ?_)
    refine gs func19 #[G #[L Ao1 t2.length co1,V I t3,V I t4,V I t5,O t6,V I t7,O t8,V I t9,V I t10,L Ao2 t11.length co2,L Ao3 t12.length co3,V I t13,O t14,V I t15],G #[V I t16,V I t17,V I t18,V I t19]] ?_
    with_reducible refine(spec_DoAct.calls k _ _ t2 t3 t4 t5 t6 t7 t8 t9 t10 _ _ t11 _ _ t12 t13 t14 t15 t16 t17 t18 t19 t20 t21 t22 t23 t24 t25 t26 t27 t28 t29 t30 t31 t32 t33 t34 _ ?side1 ?side2 ?side3 ?side4 ?side5 ?side6 A4.out).mono ?_
    (case side1=>exact uC (Kd.R_reads' HO1.out).2.2)
    (case side2=>exact(Kd.R_reads' HO1.out).2.1)
    (case side3=>exact uC (Kd.R_reads' HO2.out).2.2)
    (case side4=>exact(Kd.R_reads' HO2.out).2.1)
    (case side5=>exact uC (Kd.R_reads' HO3.out).2.2)
    (case side6=>exact(Kd.R_reads' HO3.out).2.1)
    rintro e w9 ⟨v4,v5,v6,rfl,ho1,ho2,ho3,hb⟩
    refine⟨_,rfl,?_⟩
    have HO4:=C (Kd.R_lower (Kd.R_new' ho1 (Kd.R_lt (uR HO1.out))) (below_size uB))
    have HO5:=C (Kd.Q_lower (Kd.Q_new' (Kd.Q_new' ho2 (Kd.R_lt (uR HO2.out))) (Kd.R_lt (uR HO3.out))) (below_size uB))
    have HO6:=C (Kd.R_lower (Kd.R_new' (Kd.R_new' ho3 (Kd.R_lt (uR HO2.out))) (Kd.R_lt (uR HO3.out))) (below_size uB))
    replace HO1:=C (Kd.R_elder' (uR HO1.out) (Kd.R_base ho1) hb)
    replace HO2:=C (X (Kd.R_told (Kd.R_told (Kd.R_old (uR HO2.out) hb) (Kd.Q_base ho2)) (Kd.R_base ho3)) (fun _ h_=>h_.1))
    replace HO3:=C (X (Kd.R_told (Kd.R_told (Kd.R_old (uR HO3.out) hb) (Kd.Q_base ho2)) (Kd.R_base ho3)) (fun _ h_=>h_.1))
    replace BK1:=eK BK1 hb
    replace BK2:=eK BK2 hb
    replace BK3:=eK BK3 hb
    replace HB:=eB hb
    (try clear hb)
    refine hK.out _ _ hh (fun hHeld=> ?_)
    clear hK K
    refine nu (N:=(some 26)) ?_
    refine pu 5 (some 21) ?_
    refine pu 6 (some 27) ?_
    refine pu 7 (some 28) ?_
    exact norm_ (by simp only[putAll,Act.put,List.setIfInBounds_toArray,List.set_cons_zero,List.set_cons_succ]) (hCont (L Ao1 t2.length co1,L Ao2 t11.length co2,L Ao3 t12.length co3,v4,v5,v6,gb3) _ ⟨hHeld,(X (fR HO1.out) (fun _ hk=>hk.2)),(X (fR HO2.out) (fun _ hk=>⟨hk.1.1,⟨hk.1.2,hk.2⟩⟩)),(X (fR HO3.out) (fun _ hk=>⟨hk.1.1,⟨hk.1.2,hk.2⟩⟩)),(X (fR HO4.out) (fun _ hk=>hk.2)),(Kd.Q_mono (fQ HO5.out) (fun _ hk=>⟨hk.1.2,⟨hk.2,hk.1.1⟩⟩)),(X (fR HO6.out) (fun _ hk=>⟨hk.1.2,⟨hk.2,hk.1.1⟩⟩)),(uK BK1.out),(uK BK2.out),(uK BK3.out),GW3.out,GE3.out,n2.out,n3.out,n4.out,n5.out,uB⟩)
  ·skip
   refine box_step ?hg (N:=6) ?hd (cs:= #[L none 0 0,V I 0,V I 0,V I 0,O false,V I 0,O false,V I 0,V I 0,L none 0 0,L none 0 0,V I 0,O false,V I 0]) (t:=36) ?hr ?_;(case hd=>rfl);(case hg=>rfl);(case hr=>exact Fix.hr)
   intro gb3 hg w6 hbox hb
   have BK3:=C hbox
   have GW3:=gE (w:=w) hg
   have GE3:=gE (w:=w) hg
   have n2:=nL hg BK1
   have n3:=nG hg BK1
   have n4:=nL hg BK2
   have n5:=nG hg BK2
   replace BK1:=eK BK1 hb
   replace BK2:=eK BK2 hb
   replace HB:=eB hb
   clear hb hbox hg
   refine hK.out _ _ hh (fun hHeld=> ?_)
   clear hK K
   refine nu (N:=(some 6)) ?_
   refine ou 1 (some 23) (fun K hK=> ?_)
   refine gs func11 #[G #[L A0_0 l0_0.length c0_0,V I a0_1,V I a0_2,V I a0_3,O a0_4,V I a0_5,O a0_6,V I a0_7,V I a0_8,L A0_9 l0_9.length c0_9,L A0_10 l0_10.length c0_10,V I a0_11,O a0_12,V I a0_13]] ?_
   with_reducible refine(laws_toMachine.calls k _ _ l0_0 a0_1 a0_2 a0_3 a0_4 a0_5 a0_6 a0_7 a0_8 _ _ l0_9 _ _ l0_10 a0_11 a0_12 a0_13 t2 t3 t4 t5 t6 t7 t8 t9 t10 t11 t12 t13 t14 t15 _ ?side1 HC1_0.out ?side3 HC1_9.out ?side5 HC1_10.out A2.out).mono ?_
   (case side1=>exact uZ HR1_0)
   (case side3=>exact uZ HR1_9)
   (case side5=>exact uZ HR1_10)
   rintro e w7 ⟨v1,v2,v3,rfl,ho1,ho2,ho3,hb⟩
   refine⟨_,rfl,?_⟩
   have HO1:=lR ho1
   have HO2:=lR ho2
   have HO3:=lR ho3
   replace BK1:=eK BK1 hb
   replace BK2:=eK BK2 hb
   replace BK3:=eK BK3 hb
   replace HB:=eB hb
   (try clear hb)
   refine hK.out _ _ hh (fun hHeld=> ?_)
   clear hK K
   refine nu (N:=(some 23)) ?_
   refine ou 3 (some 25) (fun K hK=> ?_)
   refine gs func20 #[G #[V I a1_0,V I a1_1,V I a1_2,V I a1_3]] ?_
   with_reducible refine(laws_toAct.calls a1_0 a1_1 a1_2 a1_3 t16 t17 t18 t19 _ A3.out).mono ?_
   rintro e w8 ⟨rfl,hb⟩
   refine⟨_,rfl,?_⟩
   replace HO1:=eR HO1 hb
   replace HO2:=eR HO2 hb
   replace HO3:=eR HO3 hb
   replace BK1:=eK BK1 hb
   replace BK2:=eK BK2 hb
   replace BK3:=eK BK3 hb
   replace HB:=eB hb
   (try clear hb)
   obtain⟨Ao1,co1,eo1⟩:=U HO1.out
   (first|subst eo1|(injection eo1 with f1_ f2_ f3_;have f4_:=f1_.symm;have f5_:=f3_.symm;clear f1_ f2_ f3_;subst f4_;subst f5_))
   obtain⟨Ao2,co2,eo2⟩:=U HO2.out
   (first|subst eo2|(injection eo2 with f1_ f2_ f3_;have f4_:=f1_.symm;have f5_:=f3_.symm;clear f1_ f2_ f3_;subst f4_;subst f5_))
   obtain⟨Ao3,co3,eo3⟩:=U HO3.out
   (first|subst eo3|(injection eo3 with f1_ f2_ f3_;have f4_:=f1_.symm;have f5_:=f3_.symm;clear f1_ f2_ f3_;subst f4_;subst f5_))
   refine hK.out _ _ hh (fun hHeld=> ?_)
   clear hK K
   refine nu (N:=(some 25)) ?_
   refine ou 4 (some 26) (fun K hK=> ?_)
   refine gs func19 #[G #[L Ao1 t2.length co1,V I t3,V I t4,V I t5,O t6,V I t7,O t8,V I t9,V I t10,L Ao2 t11.length co2,L Ao3 t12.length co3,V I t13,O t14,V I t15],G #[V I t16,V I t17,V I t18,V I t19]] ?_
   with_reducible refine(spec_DoAct.calls k _ _ t2 t3 t4 t5 t6 t7 t8 t9 t10 _ _ t11 _ _ t12 t13 t14 t15 t16 t17 t18 t19 t20 t21 t22 t23 t24 t25 t26 t27 t28 t29 t30 t31 t32 t33 t34 _ ?side1 ?side2 ?side3 ?side4 ?side5 ?side6 A4.out).mono ?_
   (case side1=>exact uC (Kd.R_reads' HO1.out).2.2)
   (case side2=>exact(Kd.R_reads' HO1.out).2.1)
   (case side3=>exact uC (Kd.R_reads' HO2.out).2.2)
   (case side4=>exact(Kd.R_reads' HO2.out).2.1)
   (case side5=>exact uC (Kd.R_reads' HO3.out).2.2)
   (case side6=>exact(Kd.R_reads' HO3.out).2.1)
   rintro e w9 ⟨v4,v5,v6,rfl,ho1,ho2,ho3,hb⟩
   refine⟨_,rfl,?_⟩
   have HO4:=C (Kd.R_lower (Kd.R_new' ho1 (Kd.R_lt (uR HO1.out))) (below_size uB))
   have HO5:=C (Kd.Q_lower (Kd.Q_new' (Kd.Q_new' ho2 (Kd.R_lt (uR HO2.out))) (Kd.R_lt (uR HO3.out))) (below_size uB))
   have HO6:=C (Kd.R_lower (Kd.R_new' (Kd.R_new' ho3 (Kd.R_lt (uR HO2.out))) (Kd.R_lt (uR HO3.out))) (below_size uB))
   replace HO1:=C (Kd.R_elder' (uR HO1.out) (Kd.R_base ho1) hb)
   replace HO2:=C (X (Kd.R_told (Kd.R_told (Kd.R_old (uR HO2.out) hb) (Kd.Q_base ho2)) (Kd.R_base ho3)) (fun _ h_=>h_.1))
   replace HO3:=C (X (Kd.R_told (Kd.R_told (Kd.R_old (uR HO3.out) hb) (Kd.Q_base ho2)) (Kd.R_base ho3)) (fun _ h_=>h_.1))
   replace BK1:=eK BK1 hb
   replace BK2:=eK BK2 hb
   replace BK3:=eK BK3 hb
   replace HB:=eB hb
   (try clear hb)
   refine hK.out _ _ hh (fun hHeld=> ?_)
   clear hK K
   refine nu (N:=(some 26)) ?_
   refine pu 5 (some 21) ?_
   refine pu 6 (some 27) ?_
   refine pu 7 (some 28) ?_
   exact norm_ (by simp only[putAll,Act.put,List.setIfInBounds_toArray,List.set_cons_zero,List.set_cons_succ]) (hCont (L Ao1 t2.length co1,L Ao2 t11.length co2,L Ao3 t12.length co3,v4,v5,v6,gb3) _ ⟨hHeld,(X (fR HO1.out) (fun _ hk=>hk.2)),(X (fR HO2.out) (fun _ hk=>⟨hk.1.1,⟨hk.1.2,hk.2⟩⟩)),(X (fR HO3.out) (fun _ hk=>⟨hk.1.1,⟨hk.1.2,hk.2⟩⟩)),(X (fR HO4.out) (fun _ hk=>hk.2)),(Kd.Q_mono (fQ HO5.out) (fun _ hk=>⟨hk.1.2,⟨hk.2,hk.1.1⟩⟩)),(X (fR HO6.out) (fun _ hk=>⟨hk.1.2,⟨hk.2,hk.1.1⟩⟩)),(uK BK1.out),(uK BK2.out),(uK BK3.out),GW3.out,GE3.out,n2.out,n3.out,n4.out,n5.out,uB⟩)
 rintro⟨v1,v2,v3,v4,v5,v6,gb3⟩ w6 ⟨hS_,h1_,h2_,h3_,h4_,h5_,h6_,h7_,h8_,h9_,h10_,h11_,h12_,h13_,h14_,h15_,h16_⟩
 have n0_:D (Kd.R k33 33 w6 w.heap.size (fun k_=>qm k_ v4) v1 t2):=⟨h1_⟩
 have n1_:D (Kd.R (Kd.int .i64) 3 w6 w.heap.size (fun k_=>qm k_ v3∧qm k_ v5∧qm k_ v6) v2 t11):=⟨h2_⟩
 have n2_:D (Kd.R (Kd.int .i64) 3 w6 w.heap.size (fun k_=>qm k_ v2∧qm k_ v5∧qm k_ v6) v3 t12):=⟨h3_⟩
 have n3_:D (Kd.R k33 33 w6 w.heap.size (fun k_=>qm k_ v1) v4 t20):=⟨h4_⟩
 have n4_:D (Kd.Q (Kd.int .i64) 3 w6 w.heap.size (fun k_=>qm k_ v2∧qm k_ v3∧qm k_ v6) v5 t29):=⟨h5_⟩
 have n5_:D (Kd.R (Kd.int .i64) 3 w6 w.heap.size (fun k_=>qm k_ v2∧qm k_ v3∧qm k_ v5) v6 t30):=⟨h6_⟩
 have n6_:D (w6.heap[gb1]? =some (.cells #[L A0_0 l0_0.length c0_0,V I a0_1,V I a0_2,V I a0_3,O a0_4,V I a0_5,O a0_6,V I a0_7,V I a0_8,L A0_9 l0_9.length c0_9,L A0_10 l0_10.length c0_10,V I a0_11,O a0_12,V I a0_13] 29 (0,0))):=⟨h7_⟩
 have n7_:D (w6.heap[gb2]? =some (.cells #[V I a1_0,V I a1_1,V I a1_2,V I a1_3] 50 (0,0))):=⟨h8_⟩
 have n8_:D (w6.heap[gb3]? =some (.cells #[L none 0 0,V I 0,V I 0,V I 0,O false,V I 0,O false,V I 0,V I 0,L none 0 0,L none 0 0,V I 0,O false,V I 0] 36 (0,0))):=⟨h9_⟩
 have n9_:D (w.heap.size≤gb3):=⟨h10_⟩
 have n10_:D (w.heap.size≤gb3):=⟨h11_⟩
 have n11_:D (gb1≠gb3):=⟨h12_⟩
 have n12_:D (gb3≠gb1):=⟨h13_⟩
 have n13_:D (gb2≠gb3):=⟨h14_⟩
 have n14_:D (gb3≠gb2):=⟨h15_⟩
 have n15_:D (Below w.heap.size w w6):=⟨h16_⟩
 clear BK1
 clear BK2
 clear HB
 clear h1_ h2_ h3_ h4_ h5_ h6_ h7_ h8_ h9_ h10_ h11_ h12_ h13_ h14_ h15_ h16_
 have HO1:=n0_
 have HO2:=n1_
 have HO3:=n2_
 have HO4:=n3_
 have HO5:=n4_
 have HO6:=n5_
 have BK1:=n6_
 have BK2:=n7_
 have BK3:=n8_
 have GW3:=n9_
 have GE3:=n10_
 have n2:=n11_
 have n3:=n12_
 have n4:=n13_
 have n5:=n14_
 have HB:=n15_
 clear n0_ n1_ n2_ n3_ n4_ n5_ n6_ n7_ n8_ n9_ n10_ n11_ n12_ n13_ n14_ n15_
 have hHeld:w6.cell? ⟨gb1,0,none⟩=some (L A0_0 l0_0.length c0_0)∧w6.cell? ⟨gb1,1,none⟩=some (V I a0_1)∧w6.cell? ⟨gb1,2,none⟩=some (V I a0_2)∧w6.cell? ⟨gb1,3,none⟩=some (V I a0_3)∧w6.cell? ⟨gb1,4,none⟩=some (O a0_4)∧w6.cell? ⟨gb1,5,none⟩=some (V I a0_5)∧w6.cell? ⟨gb1,6,none⟩=some (O a0_6)∧w6.cell? ⟨gb1,7,none⟩=some (V I a0_7)∧w6.cell? ⟨gb1,8,none⟩=some (V I a0_8)∧w6.cell? ⟨gb1,9,none⟩=some (L A0_9 l0_9.length c0_9)∧w6.cell? ⟨gb1,10,none⟩=some (L A0_10 l0_10.length c0_10)∧w6.cell? ⟨gb1,11,none⟩=some (V I a0_11)∧w6.cell? ⟨gb1,12,none⟩=some (O a0_12)∧w6.cell? ⟨gb1,13,none⟩=some (V I a0_13)∧w6.cell? ⟨gb2,0,none⟩=some (V I a1_0)∧w6.cell? ⟨gb2,1,none⟩=some (V I a1_1)∧w6.cell? ⟨gb2,2,none⟩=some (V I a1_2)∧w6.cell? ⟨gb2,3,none⟩=some (V I a1_3):=hS_
 obtain⟨Ao1,co1,eo1⟩:=U HO4.out
 (first|subst eo1|(injection eo1 with f1_ f2_ f3_;have f4_:=f1_.symm;have f5_:=f3_.symm;clear f1_ f2_ f3_;subst f4_;subst f5_))
 obtain⟨Ao2,co2,eo2,_⟩:=Kd.Q_slice HO5.out
 (first|subst eo2|(injection eo2 with f1_ f2_ f3_;have f4_:=f1_.symm;have f5_:=f3_.symm;clear f1_ f2_ f3_;subst f4_;subst f5_))
 obtain⟨Ao3,co3,eo3⟩:=U HO6.out
 (first|subst eo3|(injection eo3 with f1_ f2_ f3_;have f4_:=f1_.symm;have f5_:=f3_.symm;clear f1_ f2_ f3_;subst f4_;subst f5_))
 refine norm_ (a':= ?_) ?_ ?_
 rotate_left
 ·simp only[putAll,Act.put,List.setIfInBounds_toArray,List.set_cons_zero,List.set_cons_succ]
  rfl
 refine ou 9 (none) (fun K hK=> ?_)
 obtain⟨hs1,hs2,hs3,hs4,hs5,hs6,hs7,hs8,hs9,hs10,hs11,hs12,hs13,hs14,hfs1,hfs2,hfs3,hfs4,hfs5,hfs6,hfs7,hfs8,hfs9,hfs10,hfs11,hfs12,hfs13,hfs14⟩:=d14 BK3.out
 have hns1_0:=n2.out
 have hns1_1:=n4.out
 have hms1_0:=n3.out
 have hms1_1:=n5.out
 refine skip_ (w1:= ?_) (by rfl) rfl ?_ ?_
 rotate_left
 ·go_simp
  rfl
 refine hK.out _ _ ⟨(cf14 n2.out (hHeld.1)),(cf14 n2.out (hHeld.2.1)),(cf14 n2.out (hHeld.2.2.1)),(cf14 n2.out (hHeld.2.2.2.1)),(cf14 n2.out (hHeld.2.2.2.2.1)),(cf14 n2.out (hHeld.2.2.2.2.2.1)),(cf14 n2.out (hHeld.2.2.2.2.2.2.1)),(cf14 n2.out (hHeld.2.2.2.2.2.2.2.1)),(cf14 n2.out (hHeld.2.2.2.2.2.2.2.2.1)),(cf14 n2.out (hHeld.2.2.2.2.2.2.2.2.2.1)),(cf14 n2.out (hHeld.2.2.2.2.2.2.2.2.2.2.1)),(cf14 n2.out (hHeld.2.2.2.2.2.2.2.2.2.2.2.1)),(cf14 n2.out (hHeld.2.2.2.2.2.2.2.2.2.2.2.2.1)),(cf14 n2.out (hHeld.2.2.2.2.2.2.2.2.2.2.2.2.2.1)),(cf14 n4.out (hHeld.2.2.2.2.2.2.2.2.2.2.2.2.2.2.1)),(cf14 n4.out (hHeld.2.2.2.2.2.2.2.2.2.2.2.2.2.2.2.1)),(cf14 n4.out (hHeld.2.2.2.2.2.2.2.2.2.2.2.2.2.2.2.2.1)),(cf14 n4.out (hHeld.2.2.2.2.2.2.2.2.2.2.2.2.2.2.2.2.2))⟩ (fun hHeld=> ?_)
 clear hK K
 refine pu 10 (some 7) ?_
 refine done_ (done_of HT_.out (by kernel_rfl)) ?_
 obtain⟨w7,hw⟩:∃w_,w_=(((((((((((((w6.setCell ⟨gb3,0,none⟩ (L Ao1 t20.length co1)).setCell ⟨gb3,1,none⟩ (V I t21)).setCell ⟨gb3,2,none⟩ (V I t22)).setCell ⟨gb3,3,none⟩ (V I t23)).setCell ⟨gb3,4,none⟩ (O t24)).setCell ⟨gb3,5,none⟩ (V I t25)).setCell ⟨gb3,6,none⟩ (O t26)).setCell ⟨gb3,7,none⟩ (V I t27)).setCell ⟨gb3,8,none⟩ (V I t28)).setCell ⟨gb3,9,none⟩ (L Ao2 t29.length co2)).setCell ⟨gb3,10,none⟩ (L Ao3 t30.length co3)).setCell ⟨gb3,11,none⟩ (V I t31)).setCell ⟨gb3,12,none⟩ (O t32)).setCell ⟨gb3,13,none⟩ (V I t33):=⟨_,rfl⟩
 (try rw[←hw])
 replace HO1:=wR hw (Y HO1.out BK3.out (by decide))
 replace HO2:=wR hw (Y HO2.out BK3.out (by decide))
 replace HO3:=wR hw (Y HO3.out BK3.out (by decide))
 replace HO4:=wR hw (Y HO4.out BK3.out (by decide))
 replace HO5:D (Kd.Q _ _ _ _ (fun k_=>qm k_ v2∧qm k_ v3∧qn k_ Ao3 t30.length co3) _ _):=tQ hw (Kd.Q_types HO5.out BK3.out (by decide)) (fun _ hk=>⟨hk.1.1,⟨hk.1.2.1,hk.1.2.2⟩⟩)
 replace HO6:=wR hw (Y HO6.out BK3.out (by decide))
 replace BK1:=wK hw BK1
 replace BK2:=wK hw BK2
 replace BK3:D (w7.heap[gb3]? =some (.cells #[L Ao1 t20.length co1,V I t21,V I t22,V I t23,O t24,V I t25,O t26,V I t27,V I t28,L Ao2 t29.length co2,L Ao3 t30.length co3,V I t31,O t32,V I t33] 36 (0,0))):=⟨(by rw[hw];exact(bK BK3.out))⟩
 replace HB:=wB hw
 clear hw
 have:=n2.out
 have:=n3.out
 have h_:=d14 BK1.out;(repeat(obtain⟨_,h_⟩:=h_))
 try go_wp2_with (first|((with_reducible refine gate_callee (f:=11) rfl ?_);refine gl 11 (some 30) func11 #[G #[L A0_0 l0_0.length c0_0,V I a0_1,V I a0_2,V I a0_3,O a0_4,V I a0_5,O a0_6,V I a0_7,V I a0_8,L A0_9 l0_9.length c0_9,L A0_10 l0_10.length c0_10,V I a0_11,O a0_12,V I a0_13]] ?_;(with_reducible refine(laws_toMachine.calls k _ _ l0_0 a0_1 a0_2 a0_3 a0_4 a0_5 a0_6 a0_7 a0_8 _ _ l0_9 _ _ l0_10 a0_11 a0_12 a0_13 t35 t36 t37 t38 t39 t40 t41 t42 t43 t44 t45 t46 t47 t48 _ ?side1 HC1_0.out ?side3 HC1_9.out ?side5 HC1_10.out A5.out).mono ?_);(case side1=>exact uZ HR1_0);(case side3=>exact uZ HR1_9);(case side5=>exact uZ HR1_10);rintro e w8 ⟨v7,v8,v9,rfl,ho1,ho2,ho3,hb⟩;refine⟨_,rfl,?_⟩;have HO7:=C (Kd.R_lower (Kd.R_new' (Kd.R_new' ho1 (Kd.R_lt (uR HO1.out))) (Kd.R_lt (uR HO4.out))) (below_size uB));have HO8:=C (Kd.R_lower (Kd.R_new' (Kd.R_new' (Kd.R_new' (Kd.R_new' ho2 (Kd.R_lt (uR HO2.out))) (Kd.R_lt (uR HO3.out))) (Kd.Q_lt (uQ HO5.out))) (Kd.R_lt (uR HO6.out))) (below_size uB));have HO9:=C (Kd.R_lower (Kd.R_new' (Kd.R_new' (Kd.R_new' (Kd.R_new' ho3 (Kd.R_lt (uR HO2.out))) (Kd.R_lt (uR HO3.out))) (Kd.Q_lt (uQ HO5.out))) (Kd.R_lt (uR HO6.out))) (below_size uB));replace HO1:=C (Kd.R_elder' (uR HO1.out) (Kd.R_base ho1) hb);replace HO2:=C (X (Kd.R_told (Kd.R_told (Kd.R_old (uR HO2.out) hb) (Kd.R_base ho2)) (Kd.R_base ho3)) (fun _ h_=>h_.1));replace HO3:=C (X (Kd.R_told (Kd.R_told (Kd.R_old (uR HO3.out) hb) (Kd.R_base ho2)) (Kd.R_base ho3)) (fun _ h_=>h_.1));replace HO4:=C (Kd.R_elder' (uR HO4.out) (Kd.R_base ho1) hb);replace HO5:=C (Kd.Q_mono (Kd.Q_told (Kd.Q_told (Kd.Q_old (uQ HO5.out) hb) (Kd.R_base ho2)) (Kd.R_base ho3)) (fun _ h_=>h_.1));replace HO6:=C (X (Kd.R_told (Kd.R_told (Kd.R_old (uR HO6.out) hb) (Kd.R_base ho2)) (Kd.R_base ho3)) (fun _ h_=>h_.1));replace BK1:=eK BK1 hb;replace BK2:=eK BK2 hb;replace BK3:=eK BK3 hb;replace HB:=eB hb;clear hb ho1 ho2 ho3)|((with_reducible refine gate_dst (N:=8) rfl ?_);refine Fix.be 8 #[L none 0 0,V I 0,V I 0,V I 0,O false,V I 0,O false,V I 0,V I 0,L none 0 0,L none 0 0,V I 0,O false,V I 0] 36 ?_;intro gb4 hg w9 BK4 hb;have GW4:=gE (w:=w) hg;have n6:=nL hg BK1;have n7:=nG hg BK1;have n8:=nL hg BK2;have n9:=nG hg BK2;have n10:=nL hg BK3;have n11:=nG hg BK3;replace HO1:=eR HO1 hb;replace HO2:=eR HO2 hb;replace HO3:=eR HO3 hb;replace HO4:=eR HO4 hb;replace HO5:=eQ HO5 hb;replace HO6:=eR HO6 hb;replace HO7:=eR HO7 hb;replace HO8:=eR HO8 hb;replace HO9:=eR HO9 hb;replace BK1:=eK BK1 hb;replace BK2:=eK BK2 hb;replace BK3:=eK BK3 hb;replace HB:=eB hb;clear hb hg;obtain⟨Ao4,co4,rfl⟩:=U HO7.out;have:=n7.out;have:=n6.out;have:=n9.out;have:=n8.out;have:=n11.out;have:=n10.out;have h_:=d14 BK4.out;(repeat(obtain⟨_,h_⟩:=h_));obtain⟨Ao5,co5,rfl⟩:=U HO8.out;obtain⟨Ao6,co6,rfl⟩:=U HO9.out))
 obtain⟨w10,hw⟩:∃w_,w_=(((((((((((((w9.setCell ⟨gb4,0,none⟩ (L Ao4 t35.length co4)).setCell ⟨gb4,1,none⟩ (V I t36)).setCell ⟨gb4,2,none⟩ (V I t37)).setCell ⟨gb4,3,none⟩ (V I t38)).setCell ⟨gb4,4,none⟩ (O t39)).setCell ⟨gb4,5,none⟩ (V I t40)).setCell ⟨gb4,6,none⟩ (O t41)).setCell ⟨gb4,7,none⟩ (V I t42)).setCell ⟨gb4,8,none⟩ (V I t43)).setCell ⟨gb4,9,none⟩ (L Ao5 t44.length co5)).setCell ⟨gb4,10,none⟩ (L Ao6 t45.length co6)).setCell ⟨gb4,11,none⟩ (V I t46)).setCell ⟨gb4,12,none⟩ (O t47)).setCell ⟨gb4,13,none⟩ (V I t48):=⟨_,rfl⟩
 (try rw[←hw])
 replace HO1:=wR hw (Y HO1.out BK4.out (by decide))
 replace HO2:D (Kd.R _ _ _ _ (fun k_=>qm k_ v3∧qn k_ Ao2 t29.length co2∧qn k_ Ao3 t30.length co3∧qn k_ Ao5 t44.length co5∧qn k_ Ao6 t45.length co6) _ _):=tR hw (Y HO2.out BK4.out (by decide)) (fun _ hk=>⟨hk.1.1.1.1,⟨hk.1.1.1.2.1,⟨hk.1.1.1.2.2,⟨hk.1.1.2,hk.1.2⟩⟩⟩⟩)
 replace HO3:D (Kd.R _ _ _ _ (fun k_=>qm k_ v2∧qn k_ Ao2 t29.length co2∧qn k_ Ao3 t30.length co3∧qn k_ Ao5 t44.length co5∧qn k_ Ao6 t45.length co6) _ _):=tR hw (Y HO3.out BK4.out (by decide)) (fun _ hk=>⟨hk.1.1.1.1,⟨hk.1.1.1.2.1,⟨hk.1.1.1.2.2,⟨hk.1.1.2,hk.1.2⟩⟩⟩⟩)
 replace HO4:=wR hw (Y HO4.out BK4.out (by decide))
 replace HO5:D (Kd.Q _ _ _ _ (fun k_=>qm k_ v2∧qm k_ v3∧qn k_ Ao3 t30.length co3∧qn k_ Ao5 t44.length co5∧qn k_ Ao6 t45.length co6) _ _):=tQ hw (Kd.Q_types HO5.out BK4.out (by decide)) (fun _ hk=>⟨hk.1.1.1.1,⟨hk.1.1.1.2.1,⟨hk.1.1.1.2.2,⟨hk.1.1.2,hk.1.2⟩⟩⟩⟩)
 replace HO6:D (Kd.R _ _ _ _ (fun k_=>qm k_ v2∧qm k_ v3∧qn k_ Ao2 t29.length co2∧qn k_ Ao5 t44.length co5∧qn k_ Ao6 t45.length co6) _ _):=tR hw (Y HO6.out BK4.out (by decide)) (fun _ hk=>⟨hk.1.1.1.1,⟨hk.1.1.1.2.1,⟨hk.1.1.1.2.2,⟨hk.1.1.2,hk.1.2⟩⟩⟩⟩)
 replace HO7:D (Kd.R _ _ _ _ (fun k_=>qm k_ v1∧qn k_ Ao1 t20.length co1) _ _):=tR hw (Y HO7.out BK4.out (by decide)) (fun _ hk=>⟨hk.1.1.2,hk.1.2⟩)
 replace HO8:D (Kd.R _ _ _ _ (fun k_=>qm k_ v2∧qm k_ v3∧qn k_ Ao2 t29.length co2∧qn k_ Ao3 t30.length co3∧qn k_ Ao6 t45.length co6) _ _):=tR hw (Y HO8.out BK4.out (by decide)) (fun _ hk=>⟨hk.1.1.1.1.2,⟨hk.1.1.1.2,⟨hk.1.1.2,⟨hk.1.2,hk.1.1.1.1.1⟩⟩⟩⟩)
 replace HO9:D (Kd.R _ _ _ _ (fun k_=>qm k_ v2∧qm k_ v3∧qn k_ Ao2 t29.length co2∧qn k_ Ao3 t30.length co3∧qn k_ Ao5 t44.length co5) _ _):=tR hw (Y HO9.out BK4.out (by decide)) (fun _ hk=>⟨hk.1.1.1.1.2,⟨hk.1.1.1.2,⟨hk.1.1.2,⟨hk.1.2,hk.1.1.1.1.1⟩⟩⟩⟩)
 replace BK1:=wK hw BK1
 replace BK2:=wK hw BK2
 replace BK3:=wK hw BK3
 replace BK4:D (w10.heap[gb4]? =some (.cells #[L Ao4 t35.length co4,V I t36,V I t37,V I t38,O t39,V I t40,O t41,V I t42,V I t43,L Ao5 t44.length co5,L Ao6 t45.length co6,V I t46,O t47,V I t48] 36 (0,0))):=⟨(by rw[hw];exact(bK BK4.out))⟩
 replace HB:=wB hw
 clear hw
 replace HO1:=dR HO1
 replace HO2:=dR HO2
 replace HO3:=dR HO3
 replace HO4:=dR HO4
 replace HO5:=dQ HO5
 replace HO6:=dR HO6
 replace HO7:=dR HO7
 replace HO8:=dR HO8
 replace HO9:=dR HO9
 replace BK1:=dK BK1
 replace BK2:=dK BK2
 replace BK3:=dK BK3
 replace BK4:=dK BK4
 replace HB:=dB HB
 refine start_ (n:=10) (S:=fun w'=>cr14 w' gb4 (L Ao4 t35.length co4) (V I t36) (V I t37) (V I t38) (O t39) (V I t40) (O t41) (V I t42) (V I t43) (L Ao5 t44.length co5) (L Ao6 t45.length co6) (V I t46) (O t47) (V I t48) (cl4 w' gb2 (V I a1_0) (V I a1_1) (V I a1_2) (V I a1_3))) (ds:= []) #[false,false,false,false,false,false,false,false,false,false] (by kernel_rfl) rfl rfl hh (fun hHeld=> ?_);refine with_tabW laws_FnExactDoAct.tab7 laws_FnExactDoAct.bits7 (fun HT_ HW_=> ?_)
 generalize w10.drew=w11 at HO1 HO2 HO3 HO4 HO5 HO6 HO7 HO8 HO9 BK1 BK2 BK3 BK4 HB hHeld ⊢
 refine tu 0 (some 32) hHeld ?_
 refine tu 1 (some 33) hHeld ?_
 refine join_ (σ:=Value×Value×Value×Nat) 2 #[true,true,true,true,true,true,true,true,false,false] (fun s_=> [(34,G #[V I t49,V I t50,V I t51,V I t52]),(35,.tuple #[G #[s_.1,V I t54,V I t55,V I t56,O t57,V I t58,O t59,V I t60,V I t61,s_.2.1,s_.2.2.1,V I t64,O t65,V I t66],V I t67]),(9,.pointer (some ⟨s_.2.2.2,0,none⟩)),(31,.tuple #[G #[s_.1,V I t54,V I t55,V I t56,O t57,V I t58,O t59,V I t60,V I t61,s_.2.1,s_.2.2.1,V I t64,O t65,V I t66],V I t67]),(36,G #[s_.1,V I t54,V I t55,V I t56,O t57,V I t58,O t59,V I t60,V I t61,s_.2.1,s_.2.2.1,V I t64,O t65,V I t66]),(37,V I t67)]) (fun s_ w'=>(cr14 w' gb4 (L Ao4 t35.length co4) (V I t36) (V I t37) (V I t38) (O t39) (V I t40) (O t41) (V I t42) (V I t43) (L Ao5 t44.length co5) (L Ao6 t45.length co6) (V I t46) (O t47) (V I t48) (cl4 w' gb2 (V I a1_0) (V I a1_1) (V I a1_2) (V I a1_3)))∧(Kd.R k33 33 w' w.heap.size (fun k_=>qn k_ Ao1 t20.length co1∧qn k_ Ao4 t35.length co4∧some k_≠(s_.1:Value).ownBlock) v1 t2)∧(Kd.R (Kd.int .i64) 3 w' w.heap.size (fun k_=>qm k_ v3∧qn k_ Ao2 t29.length co2∧qn k_ Ao3 t30.length co3∧qn k_ Ao5 t44.length co5∧qn k_ Ao6 t45.length co6∧some k_≠(s_.2.1:Value).ownBlock∧some k_≠(s_.2.2.1:Value).ownBlock) v2 t11)∧(Kd.R (Kd.int .i64) 3 w' w.heap.size (fun k_=>qm k_ v2∧qn k_ Ao2 t29.length co2∧qn k_ Ao3 t30.length co3∧qn k_ Ao5 t44.length co5∧qn k_ Ao6 t45.length co6∧some k_≠(s_.2.1:Value).ownBlock∧some k_≠(s_.2.2.1:Value).ownBlock) v3 t12)∧(Kd.R k33 33 w' w.heap.size (fun k_=>qm k_ v1∧qn k_ Ao4 t35.length co4∧some k_≠(s_.1:Value).ownBlock) (L Ao1 t20.length co1) t20)∧(Kd.Q (Kd.int .i64) 3 w' w.heap.size (fun k_=>qm k_ v2∧qm k_ v3∧qn k_ Ao3 t30.length co3∧qn k_ Ao5 t44.length co5∧qn k_ Ao6 t45.length co6∧some k_≠(s_.2.1:Value).ownBlock∧some k_≠(s_.2.2.1:Value).ownBlock) (L Ao2 t29.length co2) t29)∧(Kd.R (Kd.int .i64) 3 w' w.heap.size (fun k_=>qm k_ v2∧qm k_ v3∧qn k_ Ao2 t29.length co2∧qn k_ Ao5 t44.length co5∧qn k_ Ao6 t45.length co6∧some k_≠(s_.2.1:Value).ownBlock∧some k_≠(s_.2.2.1:Value).ownBlock) (L Ao3 t30.length co3) t30)∧(Kd.R k33 33 w' w.heap.size (fun k_=>qm k_ v1∧qn k_ Ao1 t20.length co1∧some k_≠(s_.1:Value).ownBlock) (L Ao4 t35.length co4) t35)∧(Kd.R (Kd.int .i64) 3 w' w.heap.size (fun k_=>qm k_ v2∧qm k_ v3∧qn k_ Ao2 t29.length co2∧qn k_ Ao3 t30.length co3∧qn k_ Ao6 t45.length co6∧some k_≠(s_.2.1:Value).ownBlock∧some k_≠(s_.2.2.1:Value).ownBlock) (L Ao5 t44.length co5) t44)∧(Kd.R (Kd.int .i64) 3 w' w.heap.size (fun k_=>qm k_ v2∧qm k_ v3∧qn k_ Ao2 t29.length co2∧qn k_ Ao3 t30.length co3∧qn k_ Ao5 t44.length co5∧some k_≠(s_.2.1:Value).ownBlock∧some k_≠(s_.2.2.1:Value).ownBlock) (L Ao6 t45.length co6) t45)∧(Kd.R k33 33 w' w.heap.size (fun k_=>qm k_ v1∧qn k_ Ao1 t20.length co1∧qn k_ Ao4 t35.length co4) s_.1 t53)∧(Kd.Q (Kd.int .i64) 3 w' w.heap.size (fun k_=>qm k_ v2∧qm k_ v3∧qn k_ Ao2 t29.length co2∧qn k_ Ao3 t30.length co3∧qn k_ Ao5 t44.length co5∧qn k_ Ao6 t45.length co6∧some k_≠(s_.2.2.1:Value).ownBlock) s_.2.1 t62)∧(Kd.R (Kd.int .i64) 3 w' w.heap.size (fun k_=>qm k_ v2∧qm k_ v3∧qn k_ Ao2 t29.length co2∧qn k_ Ao3 t30.length co3∧qn k_ Ao5 t44.length co5∧qn k_ Ao6 t45.length co6∧some k_≠(s_.2.1:Value).ownBlock) s_.2.2.1 t63)∧(w'.heap[gb1]? =some (.cells #[L A0_0 l0_0.length c0_0,V I a0_1,V I a0_2,V I a0_3,O a0_4,V I a0_5,O a0_6,V I a0_7,V I a0_8,L A0_9 l0_9.length c0_9,L A0_10 l0_10.length c0_10,V I a0_11,O a0_12,V I a0_13] 29 (0,0)))∧(w'.heap[gb2]? =some (.cells #[V I a1_0,V I a1_1,V I a1_2,V I a1_3] 50 (0,0)))∧(w'.heap[gb3]? =some (.cells #[L Ao1 t20.length co1,V I t21,V I t22,V I t23,O t24,V I t25,O t26,V I t27,V I t28,L Ao2 t29.length co2,L Ao3 t30.length co3,V I t31,O t32,V I t33] 36 (0,0)))∧(w'.heap[gb4]? =some (.cells #[L Ao4 t35.length co4,V I t36,V I t37,V I t38,O t39,V I t40,O t41,V I t42,V I t43,L Ao5 t44.length co5,L Ao6 t45.length co6,V I t46,O t47,V I t48] 36 (0,0)))∧(w'.heap[s_.2.2.2]? =some (.cells #[L none 0 0,V I 0,V I 0,V I 0,O false,V I 0,O false,V I 0,V I 0,L none 0 0,L none 0 0,V I 0,O false,V I 0] 36 (0,0)))∧(w.heap.size≤s_.2.2.2)∧(w.heap.size≤s_.2.2.2)∧(gb1≠s_.2.2.2)∧(s_.2.2.2≠gb1)∧(gb2≠s_.2.2.2)∧(s_.2.2.2≠gb2)∧(gb3≠s_.2.2.2)∧(s_.2.2.2≠gb3)∧(gb4≠s_.2.2.2)∧(s_.2.2.2≠gb4)∧(Below w.heap.size w w')) ?_ ?_
 rotate_left
 ·intro hCont
  refine two_ (i:=2) (j:=7) (Ni:=some 34) (Nj:=some 9) #[true,true,true,false,false,false,false,false,false,false] #[true,true,false,false,false,false,false,true,false,false] rfl rfl rfl rfl (two_of HT_.out (by kernel_rfl)) (by decide) (by decide) (fun K hK=> ?_) (fun K hK=> ?_)
  ·skip
   refine gs func20 #[G #[V I a1_0,V I a1_1,V I a1_2,V I a1_3]] ?_
   with_reducible refine(laws_toAct.calls a1_0 a1_1 a1_2 a1_3 t49 t50 t51 t52 _ A6.out).mono ?_
   rintro e w12 ⟨rfl,hb⟩
   refine⟨_,rfl,?_⟩
   replace HO1:=eR HO1 hb
   replace HO2:=eR HO2 hb
   replace HO3:=eR HO3 hb
   replace HO4:=eR HO4 hb
   replace HO5:=eQ HO5 hb
   replace HO6:=eR HO6 hb
   replace HO7:=eR HO7 hb
   replace HO8:=eR HO8 hb
   replace HO9:=eR HO9 hb
   replace BK1:=eK BK1 hb
   replace BK2:=eK BK2 hb
   replace BK3:=eK BK3 hb
   replace BK4:=eK BK4 hb
   replace HB:=eB hb
   (try clear hb)
   refine hK.out _ _ hh (fun hHeld=> ?_)
   clear hK K
   refine nu (N:=(some 34)) ?_
   refine two_ (i:=3) (j:=7) (Ni:=some 35) (Nj:=some 9) #[true,true,true,true,false,false,false,false,false,false] #[true,true,true,false,false,false,false,true,false,false] rfl rfl rfl rfl (two_of HT_.out (by kernel_rfl)) (by decide) (by decide) (fun K hK=> ?_) (fun K hK=> ?_)
   ·skip
    refine gs func21 #[G #[L Ao4 t35.length co4,V I t36,V I t37,V I t38,O t39,V I t40,O t41,V I t42,V I t43,L Ao5 t44.length co5,L Ao6 t45.length co6,V I t46,O t47,V I t48],G #[V I t49,V I t50,V I t51,V I t52]] ?_
    with_reducible refine(impl_DoAct.calls k _ _ t35 t36 t37 t38 t39 t40 t41 t42 t43 _ _ t44 _ _ t45 t46 t47 t48 t49 t50 t51 t52 t53 t54 t55 t56 t57 t58 t59 t60 t61 t62 t63 t64 t65 t66 t67 _ ?side1 ?side2 ?side3 ?side4 ?side5 ?side6 A7.out).mono ?_
    (case side1=>exact uC (Kd.R_reads' HO7.out).2.2)
    (case side2=>exact(Kd.R_reads' HO7.out).2.1)
    (case side3=>exact uC (Kd.R_reads' HO8.out).2.2)
    (case side4=>exact(Kd.R_reads' HO8.out).2.1)
    (case side5=>exact uC (Kd.R_reads' HO9.out).2.2)
    (case side6=>exact(Kd.R_reads' HO9.out).2.1)
    rintro e w13 ⟨v10,v11,v12,rfl,ho1,ho2,ho3,hb⟩
    refine⟨_,rfl,?_⟩
    have HO10:=C (Kd.R_lower (Kd.R_new' (Kd.R_new' (Kd.R_new' ho1 (Kd.R_lt (uR HO1.out))) (Kd.R_lt (uR HO4.out))) (Kd.R_lt (uR HO7.out))) (below_size uB))
    have HO11:=C (Kd.Q_lower (Kd.Q_new' (Kd.Q_new' (Kd.Q_new' (Kd.Q_new' (Kd.Q_new' (Kd.Q_new' ho2 (Kd.R_lt (uR HO2.out))) (Kd.R_lt (uR HO3.out))) (Kd.Q_lt (uQ HO5.out))) (Kd.R_lt (uR HO6.out))) (Kd.R_lt (uR HO8.out))) (Kd.R_lt (uR HO9.out))) (below_size uB))
    have HO12:=C (Kd.R_lower (Kd.R_new' (Kd.R_new' (Kd.R_new' (Kd.R_new' (Kd.R_new' (Kd.R_new' ho3 (Kd.R_lt (uR HO2.out))) (Kd.R_lt (uR HO3.out))) (Kd.Q_lt (uQ HO5.out))) (Kd.R_lt (uR HO6.out))) (Kd.R_lt (uR HO8.out))) (Kd.R_lt (uR HO9.out))) (below_size uB))
    replace HO1:=C (Kd.R_elder' (uR HO1.out) (Kd.R_base ho1) hb)
    replace HO2:=C (X (Kd.R_told (Kd.R_told (Kd.R_old (uR HO2.out) hb) (Kd.Q_base ho2)) (Kd.R_base ho3)) (fun _ h_=>h_.1))
    replace HO3:=C (X (Kd.R_told (Kd.R_told (Kd.R_old (uR HO3.out) hb) (Kd.Q_base ho2)) (Kd.R_base ho3)) (fun _ h_=>h_.1))
    replace HO4:=C (Kd.R_elder' (uR HO4.out) (Kd.R_base ho1) hb)
    replace HO5:=C (Kd.Q_mono (Kd.Q_told (Kd.Q_told (Kd.Q_old (uQ HO5.out) hb) (Kd.Q_base ho2)) (Kd.R_base ho3)) (fun _ h_=>h_.1))
    replace HO6:=C (X (Kd.R_told (Kd.R_told (Kd.R_old (uR HO6.out) hb) (Kd.Q_base ho2)) (Kd.R_base ho3)) (fun _ h_=>h_.1))
    replace HO7:=C (Kd.R_elder' (uR HO7.out) (Kd.R_base ho1) hb)
    replace HO8:=C (X (Kd.R_told (Kd.R_told (Kd.R_old (uR HO8.out) hb) (Kd.Q_base ho2)) (Kd.R_base ho3)) (fun _ h_=>h_.1))
    replace HO9:=C (X (Kd.R_told (Kd.R_told (Kd.R_old (uR HO9.out) hb) (Kd.Q_base ho2)) (Kd.R_base ho3)) (fun _ h_=>h_.1))
    replace BK1:=eK BK1 hb
    replace BK2:=eK BK2 hb
    replace BK3:=eK BK3 hb
    replace BK4:=eK BK4 hb
    replace HB:=eB hb
    (try clear hb)
    refine hK.out _ _ hh (fun hHeld=> ?_)
    clear hK K
    refine nu (N:=(some 35)) ?_
    refine pu 4 (some 31) ?_
    refine pu 5 (some 36) ?_
    refine pu 6 (some 37) ?_
    refine ou 7 (some 9) (fun K hK=> ?_)
    refine box_step ?hg (N:=9) ?hd (cs:= #[L none 0 0,V I 0,V I 0,V I 0,O false,V I 0,O false,V I 0,V I 0,L none 0 0,L none 0 0,V I 0,O false,V I 0]) (t:=36) ?hr ?_;(case hd=>rfl);(case hg=>rfl);(case hr=>exact Fix.hr)
    intro gb5 hg w14 hbox hb
    have BK5:=C hbox
    have GW5:=gE (w:=w) hg
    have GE5:=gE (w:=w) hg
    have n12:=nL hg BK1
    have n13:=nG hg BK1
    have n14:=nL hg BK2
    have n15:=nG hg BK2
    have n16:=nL hg BK3
    have n17:=nG hg BK3
    have n18:=nL hg BK4
    have n19:=nG hg BK4
    replace HO1:=eR HO1 hb
    replace HO2:=eR HO2 hb
    replace HO3:=eR HO3 hb
    replace HO4:=eR HO4 hb
    replace HO5:=eQ HO5 hb
    replace HO6:=eR HO6 hb
    replace HO7:=eR HO7 hb
    replace HO8:=eR HO8 hb
    replace HO9:=eR HO9 hb
    replace HO10:=eR HO10 hb
    replace HO11:=eQ HO11 hb
    replace HO12:=eR HO12 hb
    replace BK1:=eK BK1 hb
    replace BK2:=eK BK2 hb
    replace BK3:=eK BK3 hb
    replace BK4:=eK BK4 hb
    replace HB:=eB hb
    clear hb hbox hg
    refine hK.out _ _ hh (fun hHeld=> ?_)
    clear hK K
    refine nu (N:=(some 9)) ?_
    exact norm_ (by simp only[putAll,Act.put,List.setIfInBounds_toArray,List.set_cons_zero,List.set_cons_succ]) (hCont (v10,v11,v12,gb5) _ ⟨hHeld,(X (fR HO1.out) (fun _ hk=>⟨hk.1.1,⟨hk.1.2,hk.2⟩⟩)),(X (fR HO2.out) (fun _ hk=>⟨hk.1.1.1,⟨hk.1.1.2.1,⟨hk.1.1.2.2.1,⟨hk.1.1.2.2.2.1,⟨hk.1.1.2.2.2.2,⟨hk.1.2,hk.2⟩⟩⟩⟩⟩⟩)),(X (fR HO3.out) (fun _ hk=>⟨hk.1.1.1,⟨hk.1.1.2.1,⟨hk.1.1.2.2.1,⟨hk.1.1.2.2.2.1,⟨hk.1.1.2.2.2.2,⟨hk.1.2,hk.2⟩⟩⟩⟩⟩⟩)),(X (fR HO4.out) (fun _ hk=>⟨hk.1.1,⟨hk.1.2,hk.2⟩⟩)),(Kd.Q_mono (fQ HO5.out) (fun _ hk=>⟨hk.1.1.1,⟨hk.1.1.2.1,⟨hk.1.1.2.2.1,⟨hk.1.1.2.2.2.1,⟨hk.1.1.2.2.2.2,⟨hk.1.2,hk.2⟩⟩⟩⟩⟩⟩)),(X (fR HO6.out) (fun _ hk=>⟨hk.1.1.1,⟨hk.1.1.2.1,⟨hk.1.1.2.2.1,⟨hk.1.1.2.2.2.1,⟨hk.1.1.2.2.2.2,⟨hk.1.2,hk.2⟩⟩⟩⟩⟩⟩)),(X (fR HO7.out) (fun _ hk=>⟨hk.1.1,⟨hk.1.2,hk.2⟩⟩)),(X (fR HO8.out) (fun _ hk=>⟨hk.1.1.1,⟨hk.1.1.2.1,⟨hk.1.1.2.2.1,⟨hk.1.1.2.2.2.1,⟨hk.1.1.2.2.2.2,⟨hk.1.2,hk.2⟩⟩⟩⟩⟩⟩)),(X (fR HO9.out) (fun _ hk=>⟨hk.1.1.1,⟨hk.1.1.2.1,⟨hk.1.1.2.2.1,⟨hk.1.1.2.2.2.1,⟨hk.1.1.2.2.2.2,⟨hk.1.2,hk.2⟩⟩⟩⟩⟩⟩)),(X (fR HO10.out) (fun _ hk=>⟨hk.1.1.2,⟨hk.1.2,hk.2⟩⟩)),(Kd.Q_mono (fQ HO11.out) (fun _ hk=>⟨hk.1.1.1.1.1.2,⟨hk.1.1.1.1.2,⟨hk.1.1.1.2,⟨hk.1.1.2,⟨hk.1.2,⟨hk.2,hk.1.1.1.1.1.1⟩⟩⟩⟩⟩⟩)),(X (fR HO12.out) (fun _ hk=>⟨hk.1.1.1.1.1.2,⟨hk.1.1.1.1.2,⟨hk.1.1.1.2,⟨hk.1.1.2,⟨hk.1.2,⟨hk.2,hk.1.1.1.1.1.1⟩⟩⟩⟩⟩⟩)),(uK BK1.out),(uK BK2.out),(uK BK3.out),(uK BK4.out),(uK BK5.out),GW5.out,GE5.out,n12.out,n13.out,n14.out,n15.out,n16.out,n17.out,n18.out,n19.out,uB⟩)
   ·skip
    refine box_step ?hg (N:=9) ?hd (cs:= #[L none 0 0,V I 0,V I 0,V I 0,O false,V I 0,O false,V I 0,V I 0,L none 0 0,L none 0 0,V I 0,O false,V I 0]) (t:=36) ?hr ?_;(case hd=>rfl);(case hg=>rfl);(case hr=>exact Fix.hr)
    intro gb5 hg w13 hbox hb
    have BK5:=C hbox
    have GW5:=gE (w:=w) hg
    have GE5:=gE (w:=w) hg
    have n12:=nL hg BK1
    have n13:=nG hg BK1
    have n14:=nL hg BK2
    have n15:=nG hg BK2
    have n16:=nL hg BK3
    have n17:=nG hg BK3
    have n18:=nL hg BK4
    have n19:=nG hg BK4
    replace HO1:=eR HO1 hb
    replace HO2:=eR HO2 hb
    replace HO3:=eR HO3 hb
    replace HO4:=eR HO4 hb
    replace HO5:=eQ HO5 hb
    replace HO6:=eR HO6 hb
    replace HO7:=eR HO7 hb
    replace HO8:=eR HO8 hb
    replace HO9:=eR HO9 hb
    replace BK1:=eK BK1 hb
    replace BK2:=eK BK2 hb
    replace BK3:=eK BK3 hb
    replace BK4:=eK BK4 hb
    replace HB:=eB hb
    clear hb hbox hg
    refine hK.out _ _ hh (fun hHeld=> ?_)
    clear hK K
    refine nu (N:=(some 9)) ?_
    refine ou 3 (some 35) (fun K hK=> ?_)
    refine gs func21 #[G #[L Ao4 t35.length co4,V I t36,V I t37,V I t38,O t39,V I t40,O t41,V I t42,V I t43,L Ao5 t44.length co5,L Ao6 t45.length co6,V I t46,O t47,V I t48],G #[V I t49,V I t50,V I t51,V I t52]] ?_
    with_reducible refine(impl_DoAct.calls k _ _ t35 t36 t37 t38 t39 t40 t41 t42 t43 _ _ t44 _ _ t45 t46 t47 t48 t49 t50 t51 t52 t53 t54 t55 t56 t57 t58 t59 t60 t61 t62 t63 t64 t65 t66 t67 _ ?side1 ?side2 ?side3 ?side4 ?side5 ?side6 A7.out).mono ?_
    (case side1=>exact uC (Kd.R_reads' HO7.out).2.2)
    (case side2=>exact(Kd.R_reads' HO7.out).2.1)
    (case side3=>exact uC (Kd.R_reads' HO8.out).2.2)
    (case side4=>exact(Kd.R_reads' HO8.out).2.1)
    (case side5=>exact uC (Kd.R_reads' HO9.out).2.2)
    (case side6=>exact(Kd.R_reads' HO9.out).2.1)
    rintro e w14 ⟨v10,v11,v12,rfl,ho1,ho2,ho3,hb⟩
    refine⟨_,rfl,?_⟩
    have HO10:=C (Kd.R_lower (Kd.R_new' (Kd.R_new' (Kd.R_new' ho1 (Kd.R_lt (uR HO1.out))) (Kd.R_lt (uR HO4.out))) (Kd.R_lt (uR HO7.out))) (below_size uB))
    have HO11:=C (Kd.Q_lower (Kd.Q_new' (Kd.Q_new' (Kd.Q_new' (Kd.Q_new' (Kd.Q_new' (Kd.Q_new' ho2 (Kd.R_lt (uR HO2.out))) (Kd.R_lt (uR HO3.out))) (Kd.Q_lt (uQ HO5.out))) (Kd.R_lt (uR HO6.out))) (Kd.R_lt (uR HO8.out))) (Kd.R_lt (uR HO9.out))) (below_size uB))
    have HO12:=C (Kd.R_lower (Kd.R_new' (Kd.R_new' (Kd.R_new' (Kd.R_new' (Kd.R_new' (Kd.R_new' ho3 (Kd.R_lt (uR HO2.out))) (Kd.R_lt (uR HO3.out))) (Kd.Q_lt (uQ HO5.out))) (Kd.R_lt (uR HO6.out))) (Kd.R_lt (uR HO8.out))) (Kd.R_lt (uR HO9.out))) (below_size uB))
    replace HO1:=C (Kd.R_elder' (uR HO1.out) (Kd.R_base ho1) hb)
    replace HO2:=C (X (Kd.R_told (Kd.R_told (Kd.R_old (uR HO2.out) hb) (Kd.Q_base ho2)) (Kd.R_base ho3)) (fun _ h_=>h_.1))
    replace HO3:=C (X (Kd.R_told (Kd.R_told (Kd.R_old (uR HO3.out) hb) (Kd.Q_base ho2)) (Kd.R_base ho3)) (fun _ h_=>h_.1))
    replace HO4:=C (Kd.R_elder' (uR HO4.out) (Kd.R_base ho1) hb)
    replace HO5:=C (Kd.Q_mono (Kd.Q_told (Kd.Q_told (Kd.Q_old (uQ HO5.out) hb) (Kd.Q_base ho2)) (Kd.R_base ho3)) (fun _ h_=>h_.1))
    replace HO6:=C (X (Kd.R_told (Kd.R_told (Kd.R_old (uR HO6.out) hb) (Kd.Q_base ho2)) (Kd.R_base ho3)) (fun _ h_=>h_.1))
    replace HO7:=C (Kd.R_elder' (uR HO7.out) (Kd.R_base ho1) hb)
    replace HO8:=C (X (Kd.R_told (Kd.R_told (Kd.R_old (uR HO8.out) hb) (Kd.Q_base ho2)) (Kd.R_base ho3)) (fun _ h_=>h_.1))
    replace HO9:=C (X (Kd.R_told (Kd.R_told (Kd.R_old (uR HO9.out) hb) (Kd.Q_base ho2)) (Kd.R_base ho3)) (fun _ h_=>h_.1))
    replace BK1:=eK BK1 hb
    replace BK2:=eK BK2 hb
    replace BK3:=eK BK3 hb
    replace BK4:=eK BK4 hb
    replace BK5:=eK BK5 hb
    replace HB:=eB hb
    (try clear hb)
    refine hK.out _ _ hh (fun hHeld=> ?_)
    clear hK K
    refine nu (N:=(some 35)) ?_
    refine pu 4 (some 31) ?_
    refine pu 5 (some 36) ?_
    refine pu 6 (some 37) ?_
    exact norm_ (by simp only[putAll,Act.put,List.setIfInBounds_toArray,List.set_cons_zero,List.set_cons_succ]) (hCont (v10,v11,v12,gb5) _ ⟨hHeld,(X (fR HO1.out) (fun _ hk=>⟨hk.1.1,⟨hk.1.2,hk.2⟩⟩)),(X (fR HO2.out) (fun _ hk=>⟨hk.1.1.1,⟨hk.1.1.2.1,⟨hk.1.1.2.2.1,⟨hk.1.1.2.2.2.1,⟨hk.1.1.2.2.2.2,⟨hk.1.2,hk.2⟩⟩⟩⟩⟩⟩)),(X (fR HO3.out) (fun _ hk=>⟨hk.1.1.1,⟨hk.1.1.2.1,⟨hk.1.1.2.2.1,⟨hk.1.1.2.2.2.1,⟨hk.1.1.2.2.2.2,⟨hk.1.2,hk.2⟩⟩⟩⟩⟩⟩)),(X (fR HO4.out) (fun _ hk=>⟨hk.1.1,⟨hk.1.2,hk.2⟩⟩)),(Kd.Q_mono (fQ HO5.out) (fun _ hk=>⟨hk.1.1.1,⟨hk.1.1.2.1,⟨hk.1.1.2.2.1,⟨hk.1.1.2.2.2.1,⟨hk.1.1.2.2.2.2,⟨hk.1.2,hk.2⟩⟩⟩⟩⟩⟩)),(X (fR HO6.out) (fun _ hk=>⟨hk.1.1.1,⟨hk.1.1.2.1,⟨hk.1.1.2.2.1,⟨hk.1.1.2.2.2.1,⟨hk.1.1.2.2.2.2,⟨hk.1.2,hk.2⟩⟩⟩⟩⟩⟩)),(X (fR HO7.out) (fun _ hk=>⟨hk.1.1,⟨hk.1.2,hk.2⟩⟩)),(X (fR HO8.out) (fun _ hk=>⟨hk.1.1.1,⟨hk.1.1.2.1,⟨hk.1.1.2.2.1,⟨hk.1.1.2.2.2.1,⟨hk.1.1.2.2.2.2,⟨hk.1.2,hk.2⟩⟩⟩⟩⟩⟩)),(X (fR HO9.out) (fun _ hk=>⟨hk.1.1.1,⟨hk.1.1.2.1,⟨hk.1.1.2.2.1,⟨hk.1.1.2.2.2.1,⟨hk.1.1.2.2.2.2,⟨hk.1.2,hk.2⟩⟩⟩⟩⟩⟩)),(X (fR HO10.out) (fun _ hk=>⟨hk.1.1.2,⟨hk.1.2,hk.2⟩⟩)),(Kd.Q_mono (fQ HO11.out) (fun _ hk=>⟨hk.1.1.1.1.1.2,⟨hk.1.1.1.1.2,⟨hk.1.1.1.2,⟨hk.1.1.2,⟨hk.1.2,⟨hk.2,hk.1.1.1.1.1.1⟩⟩⟩⟩⟩⟩)),(X (fR HO12.out) (fun _ hk=>⟨hk.1.1.1.1.1.2,⟨hk.1.1.1.1.2,⟨hk.1.1.1.2,⟨hk.1.1.2,⟨hk.1.2,⟨hk.2,hk.1.1.1.1.1.1⟩⟩⟩⟩⟩⟩)),(uK BK1.out),(uK BK2.out),(uK BK3.out),(uK BK4.out),(uK BK5.out),GW5.out,GE5.out,n12.out,n13.out,n14.out,n15.out,n16.out,n17.out,n18.out,n19.out,uB⟩)
  ·skip
   refine box_step ?hg (N:=9) ?hd (cs:= #[L none 0 0,V I 0,V I 0,V I 0,O false,V I 0,O false,V I 0,V I 0,L none 0 0,L none 0 0,V I 0,O false,V I 0]) (t:=36) ?hr ?_;(case hd=>rfl);(case hg=>rfl);(case hr=>exact Fix.hr)
   intro gb5 hg w12 hbox hb
   have BK5:=C hbox
   have GW5:=gE (w:=w) hg
   have GE5:=gE (w:=w) hg
   have n12:=nL hg BK1
   have n13:=nG hg BK1
   have n14:=nL hg BK2
   have n15:=nG hg BK2
   have n16:=nL hg BK3
   have n17:=nG hg BK3
   have n18:=nL hg BK4
   have n19:=nG hg BK4
   replace HO1:=eR HO1 hb
   replace HO2:=eR HO2 hb
   replace HO3:=eR HO3 hb
   replace HO4:=eR HO4 hb
   replace HO5:=eQ HO5 hb
   replace HO6:=eR HO6 hb
   replace HO7:=eR HO7 hb
   replace HO8:=eR HO8 hb
   replace HO9:=eR HO9 hb
   replace BK1:=eK BK1 hb
   replace BK2:=eK BK2 hb
   replace BK3:=eK BK3 hb
   replace BK4:=eK BK4 hb
   replace HB:=eB hb
   clear hb hbox hg
   refine hK.out _ _ hh (fun hHeld=> ?_)
   clear hK K
   refine nu (N:=(some 9)) ?_
   refine ou 2 (some 34) (fun K hK=> ?_)
   refine gs func20 #[G #[V I a1_0,V I a1_1,V I a1_2,V I a1_3]] ?_
   with_reducible refine(laws_toAct.calls a1_0 a1_1 a1_2 a1_3 t49 t50 t51 t52 _ A6.out).mono ?_
   rintro e w13 ⟨rfl,hb⟩
   refine⟨_,rfl,?_⟩
   replace HO1:=eR HO1 hb
   replace HO2:=eR HO2 hb
   replace HO3:=eR HO3 hb
   replace HO4:=eR HO4 hb
   replace HO5:=eQ HO5 hb
   replace HO6:=eR HO6 hb
   replace HO7:=eR HO7 hb
   replace HO8:=eR HO8 hb
   replace HO9:=eR HO9 hb
   replace BK1:=eK BK1 hb
   replace BK2:=eK BK2 hb
   replace BK3:=eK BK3 hb
   replace BK4:=eK BK4 hb
   replace BK5:=eK BK5 hb
   replace HB:=eB hb
   (try clear hb)
   refine hK.out _ _ hh (fun hHeld=> ?_)
   clear hK K
   refine nu (N:=(some 34)) ?_
   refine ou 3 (some 35) (fun K hK=> ?_)
   refine gs func21 #[G #[L Ao4 t35.length co4,V I t36,V I t37,V I t38,O t39,V I t40,O t41,V I t42,V I t43,L Ao5 t44.length co5,L Ao6 t45.length co6,V I t46,O t47,V I t48],G #[V I t49,V I t50,V I t51,V I t52]] ?_
   with_reducible refine(impl_DoAct.calls k _ _ t35 t36 t37 t38 t39 t40 t41 t42 t43 _ _ t44 _ _ t45 t46 t47 t48 t49 t50 t51 t52 t53 t54 t55 t56 t57 t58 t59 t60 t61 t62 t63 t64 t65 t66 t67 _ ?side1 ?side2 ?side3 ?side4 ?side5 ?side6 A7.out).mono ?_
   (case side1=>exact uC (Kd.R_reads' HO7.out).2.2)
   (case side2=>exact(Kd.R_reads' HO7.out).2.1)
   (case side3=>exact uC (Kd.R_reads' HO8.out).2.2)
   (case side4=>exact(Kd.R_reads' HO8.out).2.1)
   (case side5=>exact uC (Kd.R_reads' HO9.out).2.2)
   (case side6=>exact(Kd.R_reads' HO9.out).2.1)
   rintro e w14 ⟨v10,v11,v12,rfl,ho1,ho2,ho3,hb⟩
   refine⟨_,rfl,?_⟩
   have HO10:=C (Kd.R_lower (Kd.R_new' (Kd.R_new' (Kd.R_new' ho1 (Kd.R_lt (uR HO1.out))) (Kd.R_lt (uR HO4.out))) (Kd.R_lt (uR HO7.out))) (below_size uB))
   have HO11:=C (Kd.Q_lower (Kd.Q_new' (Kd.Q_new' (Kd.Q_new' (Kd.Q_new' (Kd.Q_new' (Kd.Q_new' ho2 (Kd.R_lt (uR HO2.out))) (Kd.R_lt (uR HO3.out))) (Kd.Q_lt (uQ HO5.out))) (Kd.R_lt (uR HO6.out))) (Kd.R_lt (uR HO8.out))) (Kd.R_lt (uR HO9.out))) (below_size uB))
   have HO12:=C (Kd.R_lower (Kd.R_new' (Kd.R_new' (Kd.R_new' (Kd.R_new' (Kd.R_new' (Kd.R_new' ho3 (Kd.R_lt (uR HO2.out))) (Kd.R_lt (uR HO3.out))) (Kd.Q_lt (uQ HO5.out))) (Kd.R_lt (uR HO6.out))) (Kd.R_lt (uR HO8.out))) (Kd.R_lt (uR HO9.out))) (below_size uB))
   replace HO1:=C (Kd.R_elder' (uR HO1.out) (Kd.R_base ho1) hb)
   replace HO2:=C (X (Kd.R_told (Kd.R_told (Kd.R_old (uR HO2.out) hb) (Kd.Q_base ho2)) (Kd.R_base ho3)) (fun _ h_=>h_.1))
   replace HO3:=C (X (Kd.R_told (Kd.R_told (Kd.R_old (uR HO3.out) hb) (Kd.Q_base ho2)) (Kd.R_base ho3)) (fun _ h_=>h_.1))
   replace HO4:=C (Kd.R_elder' (uR HO4.out) (Kd.R_base ho1) hb)
   replace HO5:=C (Kd.Q_mono (Kd.Q_told (Kd.Q_told (Kd.Q_old (uQ HO5.out) hb) (Kd.Q_base ho2)) (Kd.R_base ho3)) (fun _ h_=>h_.1))
   replace HO6:=C (X (Kd.R_told (Kd.R_told (Kd.R_old (uR HO6.out) hb) (Kd.Q_base ho2)) (Kd.R_base ho3)) (fun _ h_=>h_.1))
   replace HO7:=C (Kd.R_elder' (uR HO7.out) (Kd.R_base ho1) hb)
   replace HO8:=C (X (Kd.R_told (Kd.R_told (Kd.R_old (uR HO8.out) hb) (Kd.Q_base ho2)) (Kd.R_base ho3)) (fun _ h_=>h_.1))
   replace HO9:=C (X (Kd.R_told (Kd.R_told (Kd.R_old (uR HO9.out) hb) (Kd.Q_base ho2)) (Kd.R_base ho3)) (fun _ h_=>h_.1))
   replace BK1:=eK BK1 hb
   replace BK2:=eK BK2 hb
   replace BK3:=eK BK3 hb
   replace BK4:=eK BK4 hb
   replace BK5:=eK BK5 hb
   replace HB:=eB hb
   (try clear hb)
   refine hK.out _ _ hh (fun hHeld=> ?_)
   clear hK K
   refine nu (N:=(some 35)) ?_
   refine pu 4 (some 31) ?_
   refine pu 5 (some 36) ?_
   refine pu 6 (some 37) ?_
   exact norm_ (by simp only[putAll,Act.put,List.setIfInBounds_toArray,List.set_cons_zero,List.set_cons_succ]) (hCont (v10,v11,v12,gb5) _ ⟨hHeld,(X (fR HO1.out) (fun _ hk=>⟨hk.1.1,⟨hk.1.2,hk.2⟩⟩)),(X (fR HO2.out) (fun _ hk=>⟨hk.1.1.1,⟨hk.1.1.2.1,⟨hk.1.1.2.2.1,⟨hk.1.1.2.2.2.1,⟨hk.1.1.2.2.2.2,⟨hk.1.2,hk.2⟩⟩⟩⟩⟩⟩)),(X (fR HO3.out) (fun _ hk=>⟨hk.1.1.1,⟨hk.1.1.2.1,⟨hk.1.1.2.2.1,⟨hk.1.1.2.2.2.1,⟨hk.1.1.2.2.2.2,⟨hk.1.2,hk.2⟩⟩⟩⟩⟩⟩)),(X (fR HO4.out) (fun _ hk=>⟨hk.1.1,⟨hk.1.2,hk.2⟩⟩)),(Kd.Q_mono (fQ HO5.out) (fun _ hk=>⟨hk.1.1.1,⟨hk.1.1.2.1,⟨hk.1.1.2.2.1,⟨hk.1.1.2.2.2.1,⟨hk.1.1.2.2.2.2,⟨hk.1.2,hk.2⟩⟩⟩⟩⟩⟩)),(X (fR HO6.out) (fun _ hk=>⟨hk.1.1.1,⟨hk.1.1.2.1,⟨hk.1.1.2.2.1,⟨hk.1.1.2.2.2.1,⟨hk.1.1.2.2.2.2,⟨hk.1.2,hk.2⟩⟩⟩⟩⟩⟩)),(X (fR HO7.out) (fun _ hk=>⟨hk.1.1,⟨hk.1.2,hk.2⟩⟩)),(X (fR HO8.out) (fun _ hk=>⟨hk.1.1.1,⟨hk.1.1.2.1,⟨hk.1.1.2.2.1,⟨hk.1.1.2.2.2.1,⟨hk.1.1.2.2.2.2,⟨hk.1.2,hk.2⟩⟩⟩⟩⟩⟩)),(X (fR HO9.out) (fun _ hk=>⟨hk.1.1.1,⟨hk.1.1.2.1,⟨hk.1.1.2.2.1,⟨hk.1.1.2.2.2.1,⟨hk.1.1.2.2.2.2,⟨hk.1.2,hk.2⟩⟩⟩⟩⟩⟩)),(X (fR HO10.out) (fun _ hk=>⟨hk.1.1.2,⟨hk.1.2,hk.2⟩⟩)),(Kd.Q_mono (fQ HO11.out) (fun _ hk=>⟨hk.1.1.1.1.1.2,⟨hk.1.1.1.1.2,⟨hk.1.1.1.2,⟨hk.1.1.2,⟨hk.1.2,⟨hk.2,hk.1.1.1.1.1.1⟩⟩⟩⟩⟩⟩)),(X (fR HO12.out) (fun _ hk=>⟨hk.1.1.1.1.1.2,⟨hk.1.1.1.1.2,⟨hk.1.1.1.2,⟨hk.1.1.2,⟨hk.1.2,⟨hk.2,hk.1.1.1.1.1.1⟩⟩⟩⟩⟩⟩)),(uK BK1.out),(uK BK2.out),(uK BK3.out),(uK BK4.out),(uK BK5.out),GW5.out,GE5.out,n12.out,n13.out,n14.out,n15.out,n16.out,n17.out,n18.out,n19.out,uB⟩)
 rintro⟨v10,v11,v12,gb5⟩ w12 ⟨hS_,h1_,h2_,h3_,h4_,h5_,h6_,h7_,h8_,h9_,h10_,h11_,h12_,h13_,h14_,h15_,h16_,h17_,h18_,h19_,h20_,h21_,h22_,h23_,h24_,h25_,h26_,h27_,h28_⟩
 have n0_:D (Kd.R k33 33 w12 w.heap.size (fun k_=>qn k_ Ao1 t20.length co1∧qn k_ Ao4 t35.length co4∧qm k_ v10) v1 t2):=⟨h1_⟩
 have n1_:D (Kd.R (Kd.int .i64) 3 w12 w.heap.size (fun k_=>qm k_ v3∧qn k_ Ao2 t29.length co2∧qn k_ Ao3 t30.length co3∧qn k_ Ao5 t44.length co5∧qn k_ Ao6 t45.length co6∧qm k_ v11∧qm k_ v12) v2 t11):=⟨h2_⟩
 have n2_:D (Kd.R (Kd.int .i64) 3 w12 w.heap.size (fun k_=>qm k_ v2∧qn k_ Ao2 t29.length co2∧qn k_ Ao3 t30.length co3∧qn k_ Ao5 t44.length co5∧qn k_ Ao6 t45.length co6∧qm k_ v11∧qm k_ v12) v3 t12):=⟨h3_⟩
 have n3_:D (Kd.R k33 33 w12 w.heap.size (fun k_=>qm k_ v1∧qn k_ Ao4 t35.length co4∧qm k_ v10) (L Ao1 t20.length co1) t20):=⟨h4_⟩
 have n4_:D (Kd.Q (Kd.int .i64) 3 w12 w.heap.size (fun k_=>qm k_ v2∧qm k_ v3∧qn k_ Ao3 t30.length co3∧qn k_ Ao5 t44.length co5∧qn k_ Ao6 t45.length co6∧qm k_ v11∧qm k_ v12) (L Ao2 t29.length co2) t29):=⟨h5_⟩
 have n5_:D (Kd.R (Kd.int .i64) 3 w12 w.heap.size (fun k_=>qm k_ v2∧qm k_ v3∧qn k_ Ao2 t29.length co2∧qn k_ Ao5 t44.length co5∧qn k_ Ao6 t45.length co6∧qm k_ v11∧qm k_ v12) (L Ao3 t30.length co3) t30):=⟨h6_⟩
 have n6_:D (Kd.R k33 33 w12 w.heap.size (fun k_=>qm k_ v1∧qn k_ Ao1 t20.length co1∧qm k_ v10) (L Ao4 t35.length co4) t35):=⟨h7_⟩
 have n7_:D (Kd.R (Kd.int .i64) 3 w12 w.heap.size (fun k_=>qm k_ v2∧qm k_ v3∧qn k_ Ao2 t29.length co2∧qn k_ Ao3 t30.length co3∧qn k_ Ao6 t45.length co6∧qm k_ v11∧qm k_ v12) (L Ao5 t44.length co5) t44):=⟨h8_⟩
 have n8_:D (Kd.R (Kd.int .i64) 3 w12 w.heap.size (fun k_=>qm k_ v2∧qm k_ v3∧qn k_ Ao2 t29.length co2∧qn k_ Ao3 t30.length co3∧qn k_ Ao5 t44.length co5∧qm k_ v11∧qm k_ v12) (L Ao6 t45.length co6) t45):=⟨h9_⟩
 have n9_:D (Kd.R k33 33 w12 w.heap.size (fun k_=>qm k_ v1∧qn k_ Ao1 t20.length co1∧qn k_ Ao4 t35.length co4) v10 t53):=⟨h10_⟩
 have n10_:D (Kd.Q (Kd.int .i64) 3 w12 w.heap.size (fun k_=>qm k_ v2∧qm k_ v3∧qn k_ Ao2 t29.length co2∧qn k_ Ao3 t30.length co3∧qn k_ Ao5 t44.length co5∧qn k_ Ao6 t45.length co6∧qm k_ v12) v11 t62):=⟨h11_⟩
 have n11_:D (Kd.R (Kd.int .i64) 3 w12 w.heap.size (fun k_=>qm k_ v2∧qm k_ v3∧qn k_ Ao2 t29.length co2∧qn k_ Ao3 t30.length co3∧qn k_ Ao5 t44.length co5∧qn k_ Ao6 t45.length co6∧qm k_ v11) v12 t63):=⟨h12_⟩
 have n12_:D (w12.heap[gb1]? =some (.cells #[L A0_0 l0_0.length c0_0,V I a0_1,V I a0_2,V I a0_3,O a0_4,V I a0_5,O a0_6,V I a0_7,V I a0_8,L A0_9 l0_9.length c0_9,L A0_10 l0_10.length c0_10,V I a0_11,O a0_12,V I a0_13] 29 (0,0))):=⟨h13_⟩
 have n13_:D (w12.heap[gb2]? =some (.cells #[V I a1_0,V I a1_1,V I a1_2,V I a1_3] 50 (0,0))):=⟨h14_⟩
 have n14_:D (w12.heap[gb3]? =some (.cells #[L Ao1 t20.length co1,V I t21,V I t22,V I t23,O t24,V I t25,O t26,V I t27,V I t28,L Ao2 t29.length co2,L Ao3 t30.length co3,V I t31,O t32,V I t33] 36 (0,0))):=⟨h15_⟩
 have n15_:D (w12.heap[gb4]? =some (.cells #[L Ao4 t35.length co4,V I t36,V I t37,V I t38,O t39,V I t40,O t41,V I t42,V I t43,L Ao5 t44.length co5,L Ao6 t45.length co6,V I t46,O t47,V I t48] 36 (0,0))):=⟨h16_⟩
 have n16_:D (w12.heap[gb5]? =some (.cells #[L none 0 0,V I 0,V I 0,V I 0,O false,V I 0,O false,V I 0,V I 0,L none 0 0,L none 0 0,V I 0,O false,V I 0] 36 (0,0))):=⟨h17_⟩
 have n17_:D (w.heap.size≤gb5):=⟨h18_⟩
 have n18_:D (w.heap.size≤gb5):=⟨h19_⟩
 have n19_:D (gb1≠gb5):=⟨h20_⟩
 have n20_:D (gb5≠gb1):=⟨h21_⟩
 have n21_:D (gb2≠gb5):=⟨h22_⟩
 have n22_:D (gb5≠gb2):=⟨h23_⟩
 have n23_:D (gb3≠gb5):=⟨h24_⟩
 have n24_:D (gb5≠gb3):=⟨h25_⟩
 have n25_:D (gb4≠gb5):=⟨h26_⟩
 have n26_:D (gb5≠gb4):=⟨h27_⟩
 have n27_:D (Below w.heap.size w w12):=⟨h28_⟩
 clear HO1
 clear HO2
 clear HO3
 clear HO4
 clear HO5
 clear HO6
 clear HO7
 clear HO8
 clear HO9
 clear BK1
 clear BK2
 clear BK3
 clear BK4
 clear HB
 clear h1_ h2_ h3_ h4_ h5_ h6_ h7_ h8_ h9_ h10_ h11_ h12_ h13_ h14_ h15_ h16_ h17_ h18_ h19_ h20_ h21_ h22_ h23_ h24_ h25_ h26_ h27_ h28_
 have HO1:=n0_
 have HO2:=n1_
 have HO3:=n2_
 have HO4:=n3_
 have HO5:=n4_
 have HO6:=n5_
 have HO7:=n6_
 have HO8:=n7_
 have HO9:=n8_
 have HO10:=n9_
 have HO11:=n10_
 have HO12:=n11_
 have BK1:=n12_
 have BK2:=n13_
 have BK3:=n14_
 have BK4:=n15_
 have BK5:=n16_
 have GW5:=n17_
 have GE5:=n18_
 have n12:=n19_
 have n13:=n20_
 have n14:=n21_
 have n15:=n22_
 have n16:=n23_
 have n17:=n24_
 have n18:=n25_
 have n19:=n26_
 have HB:=n27_
 clear n0_ n1_ n2_ n3_ n4_ n5_ n6_ n7_ n8_ n9_ n10_ n11_ n12_ n13_ n14_ n15_ n16_ n17_ n18_ n19_ n20_ n21_ n22_ n23_ n24_ n25_ n26_ n27_
 have hHeld:w12.cell? ⟨gb4,0,none⟩=some (L Ao4 t35.length co4)∧w12.cell? ⟨gb4,1,none⟩=some (V I t36)∧w12.cell? ⟨gb4,2,none⟩=some (V I t37)∧w12.cell? ⟨gb4,3,none⟩=some (V I t38)∧w12.cell? ⟨gb4,4,none⟩=some (O t39)∧w12.cell? ⟨gb4,5,none⟩=some (V I t40)∧w12.cell? ⟨gb4,6,none⟩=some (O t41)∧w12.cell? ⟨gb4,7,none⟩=some (V I t42)∧w12.cell? ⟨gb4,8,none⟩=some (V I t43)∧w12.cell? ⟨gb4,9,none⟩=some (L Ao5 t44.length co5)∧w12.cell? ⟨gb4,10,none⟩=some (L Ao6 t45.length co6)∧w12.cell? ⟨gb4,11,none⟩=some (V I t46)∧w12.cell? ⟨gb4,12,none⟩=some (O t47)∧w12.cell? ⟨gb4,13,none⟩=some (V I t48)∧w12.cell? ⟨gb2,0,none⟩=some (V I a1_0)∧w12.cell? ⟨gb2,1,none⟩=some (V I a1_1)∧w12.cell? ⟨gb2,2,none⟩=some (V I a1_2)∧w12.cell? ⟨gb2,3,none⟩=some (V I a1_3):=hS_
 obtain⟨Ao7,co7,eo7⟩:=U HO10.out
 (first|subst eo7|(injection eo7 with f1_ f2_ f3_;have f4_:=f1_.symm;have f5_:=f3_.symm;clear f1_ f2_ f3_;subst f4_;subst f5_))
 obtain⟨Ao8,co8,eo8,_⟩:=Kd.Q_slice HO11.out
 (first|subst eo8|(injection eo8 with f1_ f2_ f3_;have f4_:=f1_.symm;have f5_:=f3_.symm;clear f1_ f2_ f3_;subst f4_;subst f5_))
 obtain⟨Ao9,co9,eo9⟩:=U HO12.out
 (first|subst eo9|(injection eo9 with f1_ f2_ f3_;have f4_:=f1_.symm;have f5_:=f3_.symm;clear f1_ f2_ f3_;subst f4_;subst f5_))
 refine norm_ (a':= ?_) ?_ ?_
 rotate_left
 ·simp only[putAll,Act.put,List.setIfInBounds_toArray,List.set_cons_zero,List.set_cons_succ]
  rfl
 refine ou 8 (none) (fun K hK=> ?_)
 obtain⟨hs15,hs16,hs17,hs18,hs19,hs20,hs21,hs22,hs23,hs24,hs25,hs26,hs27,hs28,hfs15,hfs16,hfs17,hfs18,hfs19,hfs20,hfs21,hfs22,hfs23,hfs24,hfs25,hfs26,hfs27,hfs28⟩:=d14 BK5.out
 have hns2_0:=n12.out
 have hns2_1:=n14.out
 have hns2_2:=n16.out
 have hns2_3:=n18.out
 have hms2_0:=n13.out
 have hms2_1:=n15.out
 have hms2_2:=n17.out
 have hms2_3:=n19.out
 refine skip_ (w1:= ?_) (by rfl) rfl ?_ ?_
 rotate_left
 ·go_simp
  rfl
 refine hK.out _ _ ⟨(cf14 n18.out (hHeld.1)),(cf14 n18.out (hHeld.2.1)),(cf14 n18.out (hHeld.2.2.1)),(cf14 n18.out (hHeld.2.2.2.1)),(cf14 n18.out (hHeld.2.2.2.2.1)),(cf14 n18.out (hHeld.2.2.2.2.2.1)),(cf14 n18.out (hHeld.2.2.2.2.2.2.1)),(cf14 n18.out (hHeld.2.2.2.2.2.2.2.1)),(cf14 n18.out (hHeld.2.2.2.2.2.2.2.2.1)),(cf14 n18.out (hHeld.2.2.2.2.2.2.2.2.2.1)),(cf14 n18.out (hHeld.2.2.2.2.2.2.2.2.2.2.1)),(cf14 n18.out (hHeld.2.2.2.2.2.2.2.2.2.2.2.1)),(cf14 n18.out (hHeld.2.2.2.2.2.2.2.2.2.2.2.2.1)),(cf14 n18.out (hHeld.2.2.2.2.2.2.2.2.2.2.2.2.2.1)),(cf14 n14.out (hHeld.2.2.2.2.2.2.2.2.2.2.2.2.2.2.1)),(cf14 n14.out (hHeld.2.2.2.2.2.2.2.2.2.2.2.2.2.2.2.1)),(cf14 n14.out (hHeld.2.2.2.2.2.2.2.2.2.2.2.2.2.2.2.2.1)),(cf14 n14.out (hHeld.2.2.2.2.2.2.2.2.2.2.2.2.2.2.2.2.2))⟩ (fun hHeld=> ?_)
 clear hK K
 refine pu 9 (some 10) ?_
 refine done_ (done_of HT_.out (by kernel_rfl)) ?_
 go_upto_region 8 with(fail)
 go_cut [46] (fun v46 wc=>∃(kq:Nat) (x1_15:Bool),v46=O x1_15∧D (laws_FnExactDoAct.j0 kq t34 t67 x1_15 l0_0 a0_1 a0_2 a0_3 a0_4 a0_5 a0_6 a0_7 a0_8 l0_9 l0_10 a0_11 a0_12 a0_13 a1_0 a1_1 a1_2 a1_3 t20 t21 t22 t23 t24 t25 t26 t27 t28 t29 t30 t31 t32 t33 t35 t36 t37 t38 t39 t40 t41 t42 t43 t44 t45 t46 t47 t48 t53 t54 t55 t56 t57 t58 t59 t60 t61 t62 t63 t64 t65 t66=some r)∧D (kq≤k)∧D (Kd.R k33 33 wc w.heap.size (fun k_=>some k_≠Fix.o Ao4 t35.length co4∧some k_≠Fix.o Ao7 t53.length co7) (L Ao1 t20.length co1) t20)∧D (Kd.Q (Kd.int .i64) 3 wc w.heap.size (fun k_=>some k_≠Fix.o Ao3 t30.length co3∧some k_≠Fix.o Ao5 t44.length co5∧some k_≠Fix.o Ao6 t45.length co6∧some k_≠Fix.o Ao8 t62.length co8∧some k_≠Fix.o Ao9 t63.length co9) (L Ao2 t29.length co2) t29)∧D (Kd.R (Kd.int .i64) 3 wc w.heap.size (fun k_=>some k_≠Fix.o Ao2 t29.length co2∧some k_≠Fix.o Ao5 t44.length co5∧some k_≠Fix.o Ao6 t45.length co6∧some k_≠Fix.o Ao8 t62.length co8∧some k_≠Fix.o Ao9 t63.length co9) (L Ao3 t30.length co3) t30)∧D (Kd.Q k33 33 wc w.heap.size (fun k_=>some k_≠Fix.o Ao1 t20.length co1∧some k_≠Fix.o Ao7 t53.length co7) (L Ao4 t35.length co4) t35)∧D (Kd.Q (Kd.int .i64) 3 wc w.heap.size (fun k_=>some k_≠Fix.o Ao2 t29.length co2∧some k_≠Fix.o Ao3 t30.length co3∧some k_≠Fix.o Ao6 t45.length co6∧some k_≠Fix.o Ao8 t62.length co8∧some k_≠Fix.o Ao9 t63.length co9) (L Ao5 t44.length co5) t44)∧D (Kd.Q (Kd.int .i64) 3 wc w.heap.size (fun k_=>some k_≠Fix.o Ao2 t29.length co2∧some k_≠Fix.o Ao3 t30.length co3∧some k_≠Fix.o Ao5 t44.length co5∧some k_≠Fix.o Ao8 t62.length co8∧some k_≠Fix.o Ao9 t63.length co9) (L Ao6 t45.length co6) t45)∧D (Kd.Q k33 33 wc w.heap.size (fun k_=>some k_≠Fix.o Ao1 t20.length co1∧some k_≠Fix.o Ao4 t35.length co4) (L Ao7 t53.length co7) t53)∧D (Kd.Q (Kd.int .i64) 3 wc w.heap.size (fun k_=>some k_≠Fix.o Ao2 t29.length co2∧some k_≠Fix.o Ao3 t30.length co3∧some k_≠Fix.o Ao5 t44.length co5∧some k_≠Fix.o Ao6 t45.length co6∧some k_≠Fix.o Ao9 t63.length co9) (L Ao8 t62.length co8) t62)∧D (Kd.Q (Kd.int .i64) 3 wc w.heap.size (fun k_=>some k_≠Fix.o Ao2 t29.length co2∧some k_≠Fix.o Ao3 t30.length co3∧some k_≠Fix.o Ao5 t44.length co5∧some k_≠Fix.o Ao6 t45.length co6∧some k_≠Fix.o Ao8 t62.length co8) (L Ao9 t63.length co9) t63)∧D (wc.heap[gb1]? =some (.cells #[(L A0_0 l0_0.length c0_0),V I a0_1,V I a0_2,V I a0_3,O a0_4,V I a0_5,O a0_6,V I a0_7,V I a0_8,(L A0_9 l0_9.length c0_9),(L A0_10 l0_10.length c0_10),V I a0_11,O a0_12,V I a0_13] 29 (0,0)))∧D (wc.heap[gb2]? =some (.cells #[V I a1_0,V I a1_1,V I a1_2,V I a1_3] 50 (0,0)))∧D (wc.heap[gb3]? =some (.cells #[(L Ao1 t20.length co1),V I t21,V I t22,V I t23,O t24,V I t25,O t26,V I t27,V I t28,(L Ao2 t29.length co2),(L Ao3 t30.length co3),V I t31,O t32,V I t33] 36 (0,0)))∧D (wc.heap[gb4]? =some (.cells #[(L Ao4 t35.length co4),V I t36,V I t37,V I t38,O t39,V I t40,O t41,V I t42,V I t43,(L Ao5 t44.length co5),(L Ao6 t45.length co6),V I t46,O t47,V I t48] 36 (0,0)))∧D (wc.heap[gb5]? =some (.cells #[(L Ao7 t53.length co7),V I t54,V I t55,V I t56,O t57,V I t58,O t59,V I t60,V I t61,(L Ao8 t62.length co8),(L Ao9 t63.length co9),V I t64,O t65,V I t66] 36 (0,0)))∧D (Below w.heap.size w wc))
 case first=>
  have H:=HC2.out
  clear HC2
  obtain⟨t68,A8,H⟩:=bnd H
  by_cases c2:t68=true
  rotate_left
  ·obtain rfl:=nt c2
   replace H:=nf H
   rw[hT.out]at H
   exact absurd H (by cases k<;>simp[laws_FnExactDoAct.j0])
  subst c2
  rw[if_pos rfl]at H
  have H':=C H
  clear H
  have:=n13.out
  have:=n12.out
  have:=n15.out
  have:=n14.out
  have:=n17.out
  have:=n16.out
  have:=n19.out
  have:=n18.out
  have h_:=d14 BK5.out;(repeat(obtain⟨_,h_⟩:=h_))
  have:=n3.out
  have:=n2.out
  have:=n5.out
  have:=n4.out
  have:=n10.out
  have:=n11.out
  have h_:=d14 BK3.out;(repeat(obtain⟨_,h_⟩:=h_))
  go_wp2_with (first|((with_reducible refine gate_callee (f:=13) rfl ?_);refine gl 13 (some 40) func13 #[G #[L Ao7 t53.length co7,V I t54,V I t55,V I t56,O t57,V I t58,O t59,V I t60,V I t61,L Ao8 t62.length co8,L Ao9 t63.length co9,V I t64,O t65,V I t66],G #[L Ao1 t20.length co1,V I t21,V I t22,V I t23,O t24,V I t25,O t26,V I t27,V I t28,L Ao2 t29.length co2,L Ao3 t30.length co3,V I t31,O t32,V I t33]] ?_;(with_reducible refine(laws_eqMachine.calls k _ _ t53 t54 t55 t56 t57 t58 t59 t60 t61 _ _ t62 _ _ t63 t64 t65 t66 _ _ t20 t21 t22 t23 t24 t25 t26 t27 t28 _ _ t29 _ _ t30 t31 t32 t33 true _ ?side1 ?side2 ?side3 ?side4 ?side5 ?side6 ?side7 ?side8 ?side9 ?side10 ?side11 ?side12 A8.out).mono ?_);(case side1=>refine(Kd.R_reads' (e:=33) (base:=w.heap.size) (ok:=fun k_=>(qm k_ v1∧(qn k_ Ao1 t20.length co1∧qn k_ Ao4 t35.length co4))) (n:=t53.length) (c:=co7) ?_).2.2;exact(X (fR (Y HO10.out BK5.out (by decide))) (fun _ h_=>h_.1)));(case side2=>exact(Kd.R_reads' HO10.out).2.1);(case side3=>refine(Kd.Q_reads' (e:=3) (base:=w.heap.size) (ok:=fun k_=>(qm k_ v2∧(qm k_ v3∧(qn k_ Ao2 t29.length co2∧(qn k_ Ao3 t30.length co3∧(qn k_ Ao5 t44.length co5∧(qn k_ Ao6 t45.length co6∧qn k_ Ao9 t63.length co9))))))) (n:=t62.length) (c:=co8) ?_).2.2;exact(Kd.Q_mono (fQ (Kd.Q_types HO11.out BK5.out (by decide))) (fun _ h_=>h_.1)));(case side4=>exact(Kd.Q_reads' HO11.out).2.1);(case side5=>refine(Kd.R_reads' (e:=3) (base:=w.heap.size) (ok:=fun k_=>(qm k_ v2∧(qm k_ v3∧(qn k_ Ao2 t29.length co2∧(qn k_ Ao3 t30.length co3∧(qn k_ Ao5 t44.length co5∧(qn k_ Ao6 t45.length co6∧qn k_ Ao8 t62.length co8))))))) (n:=t63.length) (c:=co9) ?_).2.2;exact(X (fR (Y HO12.out BK5.out (by decide))) (fun _ h_=>h_.1)));(case side6=>exact(Kd.R_reads' HO12.out).2.1);(case side7=>refine(Kd.R_reads' (e:=33) (base:=w.heap.size) (ok:=fun k_=>(qm k_ v1∧(qn k_ Ao4 t35.length co4∧qn k_ Ao7 t53.length co7))) (n:=t20.length) (c:=co1) ?_).2.2;exact(X (fR (Y HO4.out BK5.out (by decide))) (fun _ h_=>h_.1)));(case side8=>exact(Kd.R_reads' HO4.out).2.1);(case side9=>refine(Kd.Q_reads' (e:=3) (base:=w.heap.size) (ok:=fun k_=>(qm k_ v2∧(qm k_ v3∧(qn k_ Ao3 t30.length co3∧(qn k_ Ao5 t44.length co5∧(qn k_ Ao6 t45.length co6∧(qn k_ Ao8 t62.length co8∧qn k_ Ao9 t63.length co9))))))) (n:=t29.length) (c:=co2) ?_).2.2;exact(Kd.Q_mono (fQ (Kd.Q_types HO5.out BK5.out (by decide))) (fun _ h_=>h_.1)));(case side10=>exact(Kd.Q_reads' HO5.out).2.1);(case side11=>refine(Kd.R_reads' (e:=3) (base:=w.heap.size) (ok:=fun k_=>(qm k_ v2∧(qm k_ v3∧(qn k_ Ao2 t29.length co2∧(qn k_ Ao5 t44.length co5∧(qn k_ Ao6 t45.length co6∧(qn k_ Ao8 t62.length co8∧qn k_ Ao9 t63.length co9))))))) (n:=t30.length) (c:=co3) ?_).2.2;exact(X (fR (Y HO6.out BK5.out (by decide))) (fun _ h_=>h_.1)));(case side12=>exact(Kd.R_reads' HO6.out).2.1);rintro e w13 ⟨rfl,hb⟩;refine⟨_,rfl,?_⟩;replace HO1:=C (T (X (fR (Y HO1.out BK5.out (by decide))) (fun _ h_=>h_.1)) hb);replace HO2:=C (T (X (fR (Y HO2.out BK5.out (by decide))) (fun _ h_=>h_.1)) hb);replace HO3:=C (T (X (fR (Y HO3.out BK5.out (by decide))) (fun _ h_=>h_.1)) hb);replace HO4:=C (T (X (fR (Y HO4.out BK5.out (by decide))) (fun _ h_=>h_.1)) hb);replace HO5:=C (Kd.Q_below (Kd.Q_mono (fQ (Kd.Q_types HO5.out BK5.out (by decide))) (fun _ h_=>h_.1)) hb);replace HO6:=C (T (X (fR (Y HO6.out BK5.out (by decide))) (fun _ h_=>h_.1)) hb);replace HO7:=C (T (X (fR (Y HO7.out BK5.out (by decide))) (fun _ h_=>h_.1)) hb);replace HO8:=C (T (X (fR (Y HO8.out BK5.out (by decide))) (fun _ h_=>h_.1)) hb);replace HO9:=C (T (X (fR (Y HO9.out BK5.out (by decide))) (fun _ h_=>h_.1)) hb);replace HO10:=C (T (X (fR (Y HO10.out BK5.out (by decide))) (fun _ h_=>h_.1)) hb);replace HO11:=C (Kd.Q_below (Kd.Q_mono (fQ (Kd.Q_types HO11.out BK5.out (by decide))) (fun _ h_=>h_.1)) hb);replace HO12:=C (T (X (fR (Y HO12.out BK5.out (by decide))) (fun _ h_=>h_.1)) hb);replace BK1:=eK BK1 hb;replace BK2:=eK BK2 hb;replace BK3:=eK BK3 hb;replace BK4:=eK BK4 hb;replace BK5:=C (blk_below (g:=gb5) (o:=.cells #[L Ao7 t53.length co7,V I t54,V I t55,V I t56,O t57,V I t58,O t59,V I t60,V I t61,L Ao8 t62.length co8,L Ao9 t63.length co9,V I t64,O t65,V I t66] 36 (0,0)) (bK BK5.out) hb);replace HB:=eB hb;clear hb))
  go_meet
  case rel=>exact⟨_,((t67 !=t34)),rS,H',⟨oL⟩,⟨X (fR HO4.out) (fun _ hk=>⟨hk.2.1,hk.2.2⟩)⟩,⟨Kd.Q_mono (fQ HO5.out) (fun _ hk=>⟨hk.2.2.1,⟨hk.2.2.2.1,⟨hk.2.2.2.2.1,⟨hk.2.2.2.2.2.1,hk.2.2.2.2.2.2⟩⟩⟩⟩)⟩,⟨X (fR HO6.out) (fun _ hk=>⟨hk.2.2.1,⟨hk.2.2.2.1,⟨hk.2.2.2.2.1,⟨hk.2.2.2.2.2.1,hk.2.2.2.2.2.2⟩⟩⟩⟩)⟩,⟨Kd.Q_of_R (X (fR HO7.out) (fun _ hk=>⟨hk.2.1,hk.2.2⟩))⟩,⟨Kd.Q_of_R (X (fR HO8.out) (fun _ hk=>⟨hk.2.2.1,⟨hk.2.2.2.1,⟨hk.2.2.2.2.1,⟨hk.2.2.2.2.2.1,hk.2.2.2.2.2.2⟩⟩⟩⟩))⟩,⟨Kd.Q_of_R (X (fR HO9.out) (fun _ hk=>⟨hk.2.2.1,⟨hk.2.2.2.1,⟨hk.2.2.2.2.1,⟨hk.2.2.2.2.2.1,hk.2.2.2.2.2.2⟩⟩⟩⟩))⟩,⟨Kd.Q_of_R (X (fR HO10.out) (fun _ hk=>⟨hk.2.1,hk.2.2⟩))⟩,⟨Kd.Q_mono (fQ HO11.out) (fun _ hk=>⟨hk.2.2.1,⟨hk.2.2.2.1,⟨hk.2.2.2.2.1,⟨hk.2.2.2.2.2.1,hk.2.2.2.2.2.2⟩⟩⟩⟩)⟩,⟨Kd.Q_of_R (X (fR HO12.out) (fun _ hk=>⟨hk.2.2.1,⟨hk.2.2.2.1,⟨hk.2.2.2.2.1,⟨hk.2.2.2.2.2.1,hk.2.2.2.2.2.2⟩⟩⟩⟩))⟩,⟨bK BK1.out⟩,⟨bK BK2.out⟩,⟨bK BK3.out⟩,⟨bK BK4.out⟩,⟨bK BK5.out⟩,⟨uB⟩⟩
 case rest=>
  exact laws_FnExactDoAct.B0 HR1_0 HC1_0 HR1_9 HC1_9 HR1_10 HC1_10 hT GW1 GE1 GW2 GE2 n0 n1 GW3 GE3 n2 n3 n4 n5 GW4 n6 n7 n8 n9 n10 n11 GW5 GE5 n12 n13 n14 n15 n16 n17 n18 n19 hcut (by assumption) (by assumption)
end Go.Proofs.Ytblceimapaenlaa.PFnExactDoAct
