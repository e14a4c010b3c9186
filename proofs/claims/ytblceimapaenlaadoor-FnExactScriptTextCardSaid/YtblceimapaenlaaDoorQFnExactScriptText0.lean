/- FnExactScriptText: the functions that the law reaches, each as a plain Lean function, and that a call does what it says. Made by a program of this work (wip/mp.py) out of the kit's print. No condition. -/
import Derived.Test.YtblceimapaenlaaDoorProg
import Derived.Below
import Derived.Deep.Draws
import Derived.Deep.AppendLies
import Derived.Maps.AppendAt
import Derived.OwnWalk
import Derived.Laws.BytesArg
import Derived.Laws.MakeOwn
import Derived.Laws.OwnMore
import Derived.Deep.OwnRows
import Derived.Tactics
import Derived.Lib.ConvBytes
import Derived.Laws.Slices
import Derived.WalkKit
import Derived.KernelRfl
import Derived.RowKit3
import Derived.Deep.LoopGhost
import Derived.Deep.QuietTactic
import Derived.BigQuiet
import Derived.WideLaws
import Derived.Deep.DeepCutAuto
import Derived.Deep.CutBlock
import Derived.Deep.RegionHeld3
import Derived.Laws.Rows
import Derived.Lib.AppendStr
import Derived.ArgAppend
import Derived.Laws.IdiomCopy
import Derived.OrdersHeld
import Derived.Laws.BitsLemmas
import Derived.RowKit
import Derived.Test.YtblceimapaenlaaDoorWWords
import Derived.Test.YtblceimapaenlaaDoorWLast
import Derived.Test.YtblceimapaenlaaDoorWTab
import Derived.Test.YtblceimapaenlaaDoorWFour
import Derived.Test.YtblceimapaenlaaDoorWQPut
import Derived.Test.YtblceimapaenlaaDoorWApart
import Derived.Test.YtblceimapaenlaaDoorWArr
import Derived.Test.YtblceimapaenlaaDoorWZeros
import Derived.Test.YtblceimapaenlaaDoorWFoot
import Derived.Test.YtblceimapaenlaaDoorWKept
import Derived.Test.YtblceimapaenlaaDoorWShare
import Derived.Test.YtblceimapaenlaaDoorWN
import Derived.Test.YtblceimapaenlaaDoorWFootNe
import Derived.Test.YtblceimapaenlaaDoorWAt
import Derived.Test.YtblceimapaenlaaDoorWEqStruct
import Derived.Test.YtblceimapaenlaaDoorWRepsOne
import Derived.Test.YtblceimapaenlaaDoorWInv
import Derived.Test.YtblceimapaenlaaDoorWInvWords
import Derived.Test.YtblceimapaenlaaDoorWGuard
import Derived.Test.YtblceimapaenlaaDoorWNEv
import Derived.Test.YtblceimapaenlaaDoorWMore
import Derived.Test.YtblceimapaenlaaDoorFix
import Derived.Test.YtblceimapaenlaaDoorSq
import Derived.Test.YtblceimapaenlaaDoorSq2
import Derived.Test.YtblceimapaenlaaDoorExt
import Derived.Test.YtblceimapaenlaaDoorDel
import Derived.Test.YtblceimapaenlaaDoorRep
import Derived.Test.YtblceimapaenlaaDoorHand
import Derived.Test.YtblceimapaenlaaDoorIto
import Derived.Test.YtblceimapaenlaaDoorBui
namespace Go.Proofs.YtblceimapaenlaaDoor.PFnExactScriptText
open Go.RowKit Go.Proofs.YtblceimapaenlaaDoorW.PrintWords Go.Proofs.YtblceimapaenlaaDoorW.PrintLast Go.Proofs.YtblceimapaenlaaDoorW.PrintMore
open Go.Value renaming int→V
open Go.IntKind renaming i64→I
attribute [local go_sem] max2_int min2_int max_two min_two max_three min_three max_four min_four
attribute [local go_sem] Fix.isSome_setCell
set_option linter.unusedVariables false
set_option linter.unusedSimpArgs false
def errW:Option Int→Value
 |none=>.nilIface
 |some c=>.iface 0 (V I c)
theorem errW_none:errW none=.nilIface:=rfl
theorem errW_some (c:Int):errW (some c)=.iface 0 (V I c):=rfl
theorem info5:(Tryd.prog.info? 5).map (fun i=>(i.zero,i.size,i.bytes))=some (some (.int .u8 0),1,1):=by kernel_rfl
theorem info9:(Tryd.prog.info? 9).map (fun i=>(i.zero,i.size,i.bytes))=some (some (.string ⟨#[]⟩),1,16):=by kernel_rfl
theorem info26:(Tryd.prog.info? 26).map (fun i=>(i.zero,i.size,i.bytes))=some (some (.agg #[(V I 0),(V I 0),(V I 0),(V I 0)]),4,32):=by kernel_rfl
structure S23 where
 f0:Int
 f1:Int
 f2:Int
 f3:Int
def z23:S23:=⟨(0:Int),(0:Int),(0:Int),(0:Int)⟩
def k23:Kd S23:=Kd.iso (Kd.pair (Kd.int .i64) (Kd.pair (Kd.int .i64) (Kd.pair (Kd.int .i64) (Kd.int .i64)))) (fun x:S23=>(x.f0,x.f1,x.f2,x.f3))
theorem k23_open {w:World} {x:S23} {cs:List Value} (h:k23.K w x cs):cs= [V I x.f0,V I x.f1,V I x.f2,V I x.f3]:=by
 obtain⟨_,_,rfl,rfl,⟨_,_,rfl,rfl,⟨_,_,rfl,rfl,rfl⟩⟩⟩:=h
 exact rfl
theorem k23_openM {w:World} {base:Nat} {ok:Nat→Prop} {x:S23} {cs:List Value} (h:k23.M w base ok x cs):cs= [V I x.f0,V I x.f1,V I x.f2,V I x.f3]:=by
 obtain⟨_,_,rfl,rfl,⟨_,_,rfl,rfl,⟨_,_,rfl,rfl,rfl⟩⟩⟩:=h
 exact rfl
theorem k23_mk (w:World) (x:S23):k23.K w x [V I x.f0,V I x.f1,V I x.f2,V I x.f3]:=⟨[V I x.f0],[V I x.f1,V I x.f2,V I x.f3],rfl,rfl,⟨[V I x.f1],[V I x.f2,V I x.f3],rfl,rfl,⟨[V I x.f2],[V I x.f3],rfl,rfl,rfl⟩⟩⟩
theorem k23_mkM (w:World) (base:Nat) (ok:Nat→Prop) (x:S23):k23.M w base ok x [V I x.f0,V I x.f1,V I x.f2,V I x.f3]:=⟨[V I x.f0],[V I x.f1,V I x.f2,V I x.f3],rfl,rfl,⟨[V I x.f1],[V I x.f2,V I x.f3],rfl,rfl,⟨[V I x.f2],[V I x.f3],rfl,rfl,rfl⟩⟩⟩
def rd_T23 (xs:List S23) (i:Int):S23:=xs.getD i.toNat z23
theorem at_T23 {w:World} {A:Option Addr} {n:Nat} {xs:List S23} (h:Kd.C k23 w A n xs) (i:Int) (h0:0≤i) (h1:i<n):∃ad ,A=some ad∧w.cell? (ad.add (i.toNat * 4))=some (V I (rd_T23 xs i).f0)∧w.cell? ⟨(ad.add (i.toNat * 4)).block,(ad.add (i.toNat * 4)).off+1,none⟩=some (V I (rd_T23 xs i).f1)∧w.cell? ⟨(ad.add (i.toNat * 4)).block,(ad.add (i.toNat * 4)).off+2,none⟩=some (V I (rd_T23 xs i).f2)∧w.cell? ⟨(ad.add (i.toNat * 4)).block,(ad.add (i.toNat * 4)).off+3,none⟩=some (V I (rd_T23 xs i).f3):=by
 obtain⟨ad,c,e,_,hK,hc0⟩:=Kd.C_get h z23 i h0 h1
 have hc:∀j u,c[j]? =some u→w.cell? (ad.add (i.toNat * 4+j))=some u:=hc0
 obtain rfl:=k23_open hK
 exact⟨ad,e,hc 0 _ rfl,by rw[←add_field _ _ 1 (by omega)];exact hc 1 _ rfl,by rw[←add_field _ _ 2 (by omega)];exact hc 2 _ rfl,by rw[←add_field _ _ 3 (by omega)];exact hc 3 _ rfl⟩
structure S26 where
 f0:Int
 f1:Int
 f2:Int
 f3:Int
def z26:S26:=⟨(0:Int),(0:Int),(0:Int),(0:Int)⟩
def k26:Kd S26:=Kd.iso (Kd.pair (Kd.int .i64) (Kd.pair (Kd.int .i64) (Kd.pair (Kd.int .i64) (Kd.int .i64)))) (fun x:S26=>(x.f0,x.f1,x.f2,x.f3))
theorem k26_open {w:World} {x:S26} {cs:List Value} (h:k26.K w x cs):cs= [V I x.f0,V I x.f1,V I x.f2,V I x.f3]:=by
 obtain⟨_,_,rfl,rfl,⟨_,_,rfl,rfl,⟨_,_,rfl,rfl,rfl⟩⟩⟩:=h
 exact rfl
theorem k26_openM {w:World} {base:Nat} {ok:Nat→Prop} {x:S26} {cs:List Value} (h:k26.M w base ok x cs):cs= [V I x.f0,V I x.f1,V I x.f2,V I x.f3]:=by
 obtain⟨_,_,rfl,rfl,⟨_,_,rfl,rfl,⟨_,_,rfl,rfl,rfl⟩⟩⟩:=h
 exact rfl
theorem k26_mk (w:World) (x:S26):k26.K w x [V I x.f0,V I x.f1,V I x.f2,V I x.f3]:=⟨[V I x.f0],[V I x.f1,V I x.f2,V I x.f3],rfl,rfl,⟨[V I x.f1],[V I x.f2,V I x.f3],rfl,rfl,⟨[V I x.f2],[V I x.f3],rfl,rfl,rfl⟩⟩⟩
theorem k26_mkM (w:World) (base:Nat) (ok:Nat→Prop) (x:S26):k26.M w base ok x [V I x.f0,V I x.f1,V I x.f2,V I x.f3]:=⟨[V I x.f0],[V I x.f1,V I x.f2,V I x.f3],rfl,rfl,⟨[V I x.f1],[V I x.f2,V I x.f3],rfl,rfl,⟨[V I x.f2],[V I x.f3],rfl,rfl,rfl⟩⟩⟩
def rd_T26 (xs:List S26) (i:Int):S26:=xs.getD i.toNat z26
theorem at_T26 {w:World} {A:Option Addr} {n:Nat} {xs:List S26} (h:Kd.C k26 w A n xs) (i:Int) (h0:0≤i) (h1:i<n):∃ad ,A=some ad∧w.cell? (ad.add (i.toNat * 4))=some (V I (rd_T26 xs i).f0)∧w.cell? ⟨(ad.add (i.toNat * 4)).block,(ad.add (i.toNat * 4)).off+1,none⟩=some (V I (rd_T26 xs i).f1)∧w.cell? ⟨(ad.add (i.toNat * 4)).block,(ad.add (i.toNat * 4)).off+2,none⟩=some (V I (rd_T26 xs i).f2)∧w.cell? ⟨(ad.add (i.toNat * 4)).block,(ad.add (i.toNat * 4)).off+3,none⟩=some (V I (rd_T26 xs i).f3):=by
 obtain⟨ad,c,e,_,hK,hc0⟩:=Kd.C_get h z26 i h0 h1
 have hc:∀j u,c[j]? =some u→w.cell? (ad.add (i.toNat * 4+j))=some u:=hc0
 obtain rfl:=k26_open hK
 exact⟨ad,e,hc 0 _ rfl,by rw[←add_field _ _ 1 (by omega)];exact hc 1 _ rfl,by rw[←add_field _ _ 2 (by omega)];exact hc 2 _ rfl,by rw[←add_field _ _ 3 (by omega)];exact hc 3 _ rfl⟩
end Go.Proofs.YtblceimapaenlaaDoor.PFnExactScriptText
