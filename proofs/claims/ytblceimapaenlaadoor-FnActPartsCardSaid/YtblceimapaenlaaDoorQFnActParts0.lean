/- Calls do what plain Lean functions say (FnActParts). No condition. -/
import Derived.Test.YtblceimapaenlaaDoorProg
import Derived.Below
import Derived.Deep.Draws
import Derived.Deep.AppendLies
import Derived.Maps.AppendAt
import Derived.OwnWalk
import Derived.Laws.BytesArg
import Derived.Laws.MakeOwn
import Derived.Laws.OwnMore
import Derived.Deep.OwnRows
import Derived.Tactics
import Derived.Lib.ConvBytes
import Derived.Laws.Slices
import Derived.WalkKit
import Derived.KernelRfl
import Derived.RowKit3
import Derived.Deep.LoopGhost
import Derived.Deep.QuietTactic
import Derived.BigQuiet
import Derived.WideLaws
import Derived.Deep.DeepCutAuto
import Derived.Deep.CutBlock
import Derived.Deep.RegionHeld3
import Derived.Laws.Rows
import Derived.Lib.AppendStr
import Derived.ArgAppend
import Derived.Laws.IdiomCopy
import Derived.OrdersHeld
import Derived.Laws.BitsLemmas
import Derived.RowKit
import Derived.Test.YtblceimapaenlaaDoorWWords
import Derived.Test.YtblceimapaenlaaDoorWLast
import Derived.Test.YtblceimapaenlaaDoorWTab
import Derived.Test.YtblceimapaenlaaDoorWFour
import Derived.Test.YtblceimapaenlaaDoorWQPut
import Derived.Test.YtblceimapaenlaaDoorWApart
import Derived.Test.YtblceimapaenlaaDoorWArr
import Derived.Test.YtblceimapaenlaaDoorWZeros
import Derived.Test.YtblceimapaenlaaDoorWFoot
import Derived.Test.YtblceimapaenlaaDoorWKept
import Derived.Test.YtblceimapaenlaaDoorWShare
import Derived.Test.YtblceimapaenlaaDoorWN
import Derived.Test.YtblceimapaenlaaDoorWFootNe
import Derived.Test.YtblceimapaenlaaDoorWAt
import Derived.Test.YtblceimapaenlaaDoorWEqStruct
import Derived.Test.YtblceimapaenlaaDoorWRepsOne
import Derived.Test.YtblceimapaenlaaDoorWInv
import Derived.Test.YtblceimapaenlaaDoorWInvWords
import Derived.Test.YtblceimapaenlaaDoorWGuard
import Derived.Test.YtblceimapaenlaaDoorWNEv
import Derived.Test.YtblceimapaenlaaDoorWMore
import Derived.Test.YtblceimapaenlaaDoorFix
import Derived.Test.YtblceimapaenlaaDoorSq
import Derived.Test.YtblceimapaenlaaDoorSq2
import Derived.Test.YtblceimapaenlaaDoorExt
import Derived.Test.YtblceimapaenlaaDoorDel
import Derived.Test.YtblceimapaenlaaDoorRep
import Derived.Test.YtblceimapaenlaaDoorHand
import Derived.Test.YtblceimapaenlaaDoorIto
namespace Go.Proofs.YtblceimapaenlaaDoor.PFnActParts
open Go.RowKit Go.Proofs.YtblceimapaenlaaDoorW.PrintWords Go.Proofs.YtblceimapaenlaaDoorW.PrintLast Go.Proofs.YtblceimapaenlaaDoorW.PrintMore
open Go.Value renaming int→V,bool→O
open Go.IntKind renaming i64→I
attribute [local go_sem] max2_int min2_int max_two min_two max_three min_three max_four min_four
attribute [local go_sem] Fix.isSome_setCell
set_option linter.unusedVariables false
set_option linter.unusedSimpArgs false
def errW:Option Int→Value
 |none=>.nilIface
 |some c=>.iface 0 (V I c)
theorem errW_none:errW none=.nilIface:=rfl
theorem errW_some (c:Int):errW (some c)=.iface 0 (V I c):=rfl
theorem info3:(Tryd.prog.info? 3).map (fun i=>(i.zero,i.size,i.bytes))=some (some (V I 0),1,8):=by kernel_rfl
theorem info9:(Tryd.prog.info? 9).map (fun i=>(i.zero,i.size,i.bytes))=some (some (.string ⟨#[]⟩),1,16):=by kernel_rfl
theorem info26:(Tryd.prog.info? 26).map (fun i=>(i.zero,i.size,i.bytes))=some (some (.agg #[(V I 0),(V I 0),(V I 0),(V I 0)]),4,32):=by kernel_rfl
theorem info40:(Tryd.prog.info? 40).map (fun i=>(i.zero,i.size,i.bytes))=some (some (.agg #[(V I 0),(V I 0),(V I 0),(O false),(V I 0),(O false)]),6,48):=by kernel_rfl
theorem info41:(Tryd.prog.info? 41).map (fun i=>(i.zero,i.size,i.bytes))=some (some (.slice none 0 0),1,24):=by kernel_rfl
structure S40 where
 f0:Int
 f1:Int
 f2:Int
 f3:Bool
 f4:Int
 f5:Bool
def z40:S40:=⟨(0:Int),(0:Int),(0:Int),false,(0:Int),false⟩
def k40:Kd S40:=Kd.iso (Kd.pair (Kd.int .i64) (Kd.pair (Kd.int .i64) (Kd.pair (Kd.int .i64) (Kd.pair Kd.bool (Kd.pair (Kd.int .i64) Kd.bool))))) (fun x:S40=>(x.f0,x.f1,x.f2,x.f3,x.f4,x.f5))
theorem k40_heap:Kd.Heap k40:=Kd.heap_iso _ (Kd.heap_pair (Kd.heap_int .i64) (Kd.heap_pair (Kd.heap_int .i64) (Kd.heap_pair (Kd.heap_int .i64) (Kd.heap_pair Kd.heap_bool (Kd.heap_pair (Kd.heap_int .i64) Kd.heap_bool)))))
theorem k40_open {w:World} {x:S40} {cs:List Value} (h:k40.K w x cs):cs= [V I x.f0,V I x.f1,V I x.f2,O x.f3,V I x.f4,O x.f5]:=by
 obtain⟨_,_,rfl,rfl,⟨_,_,rfl,rfl,⟨_,_,rfl,rfl,⟨_,_,rfl,rfl,⟨_,_,rfl,rfl,rfl⟩⟩⟩⟩⟩:=h
 exact rfl
theorem k40_openM {w:World} {base:Nat} {ok:Nat→Prop} {x:S40} {cs:List Value} (h:k40.M w base ok x cs):cs= [V I x.f0,V I x.f1,V I x.f2,O x.f3,V I x.f4,O x.f5]:=by
 obtain⟨_,_,rfl,rfl,⟨_,_,rfl,rfl,⟨_,_,rfl,rfl,⟨_,_,rfl,rfl,⟨_,_,rfl,rfl,rfl⟩⟩⟩⟩⟩:=h
 exact rfl
theorem k40_mk (w:World) (x:S40):k40.K w x [V I x.f0,V I x.f1,V I x.f2,O x.f3,V I x.f4,O x.f5]:=⟨[V I x.f0],[V I x.f1,V I x.f2,O x.f3,V I x.f4,O x.f5],rfl,rfl,⟨[V I x.f1],[V I x.f2,O x.f3,V I x.f4,O x.f5],rfl,rfl,⟨[V I x.f2],[O x.f3,V I x.f4,O x.f5],rfl,rfl,⟨[O x.f3],[V I x.f4,O x.f5],rfl,rfl,⟨[V I x.f4],[O x.f5],rfl,rfl,rfl⟩⟩⟩⟩⟩
theorem k40_mkM (w:World) (base:Nat) (ok:Nat→Prop) (x:S40):k40.M w base ok x [V I x.f0,V I x.f1,V I x.f2,O x.f3,V I x.f4,O x.f5]:=⟨[V I x.f0],[V I x.f1,V I x.f2,O x.f3,V I x.f4,O x.f5],rfl,rfl,⟨[V I x.f1],[V I x.f2,O x.f3,V I x.f4,O x.f5],rfl,rfl,⟨[V I x.f2],[O x.f3,V I x.f4,O x.f5],rfl,rfl,⟨[O x.f3],[V I x.f4,O x.f5],rfl,rfl,⟨[V I x.f4],[O x.f5],rfl,rfl,rfl⟩⟩⟩⟩⟩
theorem k40_mkF (W:World) (ok:Nat→Prop) (x:S40):Kd.FK k40 W ok x [V I x.f0,V I x.f1,V I x.f2,O x.f3,V I x.f4,O x.f5]:=fun W2 _=>k40_mk W2 x
def rd_T40 (xs:List S40) (i:Int):S40:=xs.getD i.toNat z40
theorem at_T40 {w:World} {A:Option Addr} {n:Nat} {xs:List S40} (h:Kd.C k40 w A n xs) (i:Int) (h0:0≤i) (h1:i<n):∃ad ,A=some ad∧w.cell? (ad.add (i.toNat * 6))=some (V I (rd_T40 xs i).f0)∧w.cell? ⟨(ad.add (i.toNat * 6)).block,(ad.add (i.toNat * 6)).off+1,none⟩=some (V I (rd_T40 xs i).f1)∧w.cell? ⟨(ad.add (i.toNat * 6)).block,(ad.add (i.toNat * 6)).off+2,none⟩=some (V I (rd_T40 xs i).f2)∧w.cell? ⟨(ad.add (i.toNat * 6)).block,(ad.add (i.toNat * 6)).off+3,none⟩=some (O (rd_T40 xs i).f3)∧w.cell? ⟨(ad.add (i.toNat * 6)).block,(ad.add (i.toNat * 6)).off+4,none⟩=some (V I (rd_T40 xs i).f4)∧w.cell? ⟨(ad.add (i.toNat * 6)).block,(ad.add (i.toNat * 6)).off+5,none⟩=some (O (rd_T40 xs i).f5):=by
 obtain⟨ad,c,e,_,hK,hc0⟩:=Kd.C_get h z40 i h0 h1
 have hc:∀j u,c[j]? =some u→w.cell? (ad.add (i.toNat * 6+j))=some u:=hc0
 obtain rfl:=k40_open hK
 exact⟨ad,e,hc 0 _ rfl,by rw[←add_field _ _ 1 (by omega)];exact hc 1 _ rfl,by rw[←add_field _ _ 2 (by omega)];exact hc 2 _ rfl,by rw[←add_field _ _ 3 (by omega)];exact hc 3 _ rfl,by rw[←add_field _ _ 4 (by omega)];exact hc 4 _ rfl,by rw[←add_field _ _ 5 (by omega)];exact hc 5 _ rfl⟩
def rd_L4 (xs:List (List Int)) (i:Int):(List Int):=xs.getD i.toNat ([]:List Int)
theorem at_L4 {w:World} {A:Option Addr} {n:Nat} {xs:List (List Int)} (h:Kd.C (Kd.slice 3 (Kd.int .i64)) w A n xs) (i:Int) (h0:0≤i) (h1:i<n):∃ad A0 c0,A=some ad∧w.cell? (ad.add i.toNat)=some (.slice A0 (rd_L4 xs i).length c0)∧(rd_L4 xs i).length≤c0∧(Kd.int .i64).C w A0 (rd_L4 xs i).length (rd_L4 xs i):=by
 obtain⟨ad,c,e,_,hK,hc0⟩:=Kd.C_get h ([]:List Int) i h0 h1
 have hc:∀j u,c[j]? =some u→w.cell? (ad.add (i.toNat * 1+j))=some u:=hc0
 obtain⟨A0,c0,rfl,l0,g0⟩:=hK
 exact⟨ad,A0,c0,e,by have hq:=hc 0 _ rfl;rwa [Nat.mul_one,Nat.add_zero]at hq,l0,g0⟩
structure S26 where
 f0:Int
 f1:Int
 f2:Int
 f3:Int
def z26:S26:=⟨(0:Int),(0:Int),(0:Int),(0:Int)⟩
def k26:Kd S26:=Kd.iso (Kd.pair (Kd.int .i64) (Kd.pair (Kd.int .i64) (Kd.pair (Kd.int .i64) (Kd.int .i64)))) (fun x:S26=>(x.f0,x.f1,x.f2,x.f3))
theorem k26_heap:Kd.Heap k26:=Kd.heap_iso _ (Kd.heap_pair (Kd.heap_int .i64) (Kd.heap_pair (Kd.heap_int .i64) (Kd.heap_pair (Kd.heap_int .i64) (Kd.heap_int .i64))))
theorem k26_open {w:World} {x:S26} {cs:List Value} (h:k26.K w x cs):cs= [V I x.f0,V I x.f1,V I x.f2,V I x.f3]:=by
 obtain⟨_,_,rfl,rfl,⟨_,_,rfl,rfl,⟨_,_,rfl,rfl,rfl⟩⟩⟩:=h
 exact rfl
theorem k26_openM {w:World} {base:Nat} {ok:Nat→Prop} {x:S26} {cs:List Value} (h:k26.M w base ok x cs):cs= [V I x.f0,V I x.f1,V I x.f2,V I x.f3]:=by
 obtain⟨_,_,rfl,rfl,⟨_,_,rfl,rfl,⟨_,_,rfl,rfl,rfl⟩⟩⟩:=h
 exact rfl
theorem k26_mk (w:World) (x:S26):k26.K w x [V I x.f0,V I x.f1,V I x.f2,V I x.f3]:=⟨[V I x.f0],[V I x.f1,V I x.f2,V I x.f3],rfl,rfl,⟨[V I x.f1],[V I x.f2,V I x.f3],rfl,rfl,⟨[V I x.f2],[V I x.f3],rfl,rfl,rfl⟩⟩⟩
theorem k26_mkM (w:World) (base:Nat) (ok:Nat→Prop) (x:S26):k26.M w base ok x [V I x.f0,V I x.f1,V I x.f2,V I x.f3]:=⟨[V I x.f0],[V I x.f1,V I x.f2,V I x.f3],rfl,rfl,⟨[V I x.f1],[V I x.f2,V I x.f3],rfl,rfl,⟨[V I x.f2],[V I x.f3],rfl,rfl,rfl⟩⟩⟩
theorem k26_mkF (W:World) (ok:Nat→Prop) (x:S26):Kd.FK k26 W ok x [V I x.f0,V I x.f1,V I x.f2,V I x.f3]:=fun W2 _=>k26_mk W2 x
def rd_T26 (xs:List S26) (i:Int):S26:=xs.getD i.toNat z26
theorem at_T26 {w:World} {A:Option Addr} {n:Nat} {xs:List S26} (h:Kd.C k26 w A n xs) (i:Int) (h0:0≤i) (h1:i<n):∃ad ,A=some ad∧w.cell? (ad.add (i.toNat * 4))=some (V I (rd_T26 xs i).f0)∧w.cell? ⟨(ad.add (i.toNat * 4)).block,(ad.add (i.toNat * 4)).off+1,none⟩=some (V I (rd_T26 xs i).f1)∧w.cell? ⟨(ad.add (i.toNat * 4)).block,(ad.add (i.toNat * 4)).off+2,none⟩=some (V I (rd_T26 xs i).f2)∧w.cell? ⟨(ad.add (i.toNat * 4)).block,(ad.add (i.toNat * 4)).off+3,none⟩=some (V I (rd_T26 xs i).f3):=by
 obtain⟨ad,c,e,_,hK,hc0⟩:=Kd.C_get h z26 i h0 h1
 have hc:∀j u,c[j]? =some u→w.cell? (ad.add (i.toNat * 4+j))=some u:=hc0
 obtain rfl:=k26_open hK
 exact⟨ad,e,hc 0 _ rfl,by rw[←add_field _ _ 1 (by omega)];exact hc 1 _ rfl,by rw[←add_field _ _ 2 (by omega)];exact hc 2 _ rfl,by rw[←add_field _ _ 3 (by omega)];exact hc 3 _ rfl⟩
end Go.Proofs.YtblceimapaenlaaDoor.PFnActParts
