/- Calls do what plain Lean functions say (FnActTexts). No condition. -/
import Derived.Test.YtgdnlmfoghpeoaaDoorProg
import Derived.Below
import Derived.Deep.Draws
import Derived.Deep.AppendLies
import Derived.Maps.AppendAt
import Derived.OwnWalk
import Derived.Laws.BytesArg
import Derived.Laws.MakeOwn
import Derived.Laws.OwnMore
import Derived.Deep.OwnRows
import Derived.Tactics
import Derived.Lib.ConvBytes
import Derived.Laws.Slices
import Derived.WalkKit
import Derived.KernelRfl
import Derived.RowKit3
import Derived.Deep.LoopGhost
import Derived.Deep.QuietTactic
import Derived.BigQuiet
import Derived.WideLaws
import Derived.Deep.DeepCutAuto
import Derived.Deep.CutBlock
import Derived.Deep.RegionHeld3
import Derived.Laws.Rows
import Derived.Lib.AppendStr
import Derived.ArgAppend
import Derived.Laws.IdiomCopy
import Derived.OrdersHeld
import Derived.Laws.BitsLemmas
import Derived.RowKit
import Derived.Test.YtgdnlmfoghpeoaaDoorWWords
import Derived.Test.YtgdnlmfoghpeoaaDoorWLast
import Derived.Test.YtgdnlmfoghpeoaaDoorWTab
import Derived.Test.YtgdnlmfoghpeoaaDoorWFour
import Derived.Test.YtgdnlmfoghpeoaaDoorWQPut
import Derived.Test.YtgdnlmfoghpeoaaDoorWApart
import Derived.Test.YtgdnlmfoghpeoaaDoorWArr
import Derived.Test.YtgdnlmfoghpeoaaDoorWZeros
import Derived.Test.YtgdnlmfoghpeoaaDoorWFoot
import Derived.Test.YtgdnlmfoghpeoaaDoorWKept
import Derived.Test.YtgdnlmfoghpeoaaDoorWShare
import Derived.Test.YtgdnlmfoghpeoaaDoorWN
import Derived.Test.YtgdnlmfoghpeoaaDoorWFootNe
import Derived.Test.YtgdnlmfoghpeoaaDoorWAt
import Derived.Test.YtgdnlmfoghpeoaaDoorWEqStruct
import Derived.Test.YtgdnlmfoghpeoaaDoorWRepsOne
import Derived.Test.YtgdnlmfoghpeoaaDoorWInv
import Derived.Test.YtgdnlmfoghpeoaaDoorWInvWords
import Derived.Test.YtgdnlmfoghpeoaaDoorWGuard
import Derived.Test.YtgdnlmfoghpeoaaDoorWNEv
import Derived.Test.YtgdnlmfoghpeoaaDoorWMore
import Derived.Test.YtgdnlmfoghpeoaaDoorFix
import Derived.Test.YtgdnlmfoghpeoaaDoorSq
import Derived.Test.YtgdnlmfoghpeoaaDoorSq2
import Derived.Test.YtgdnlmfoghpeoaaDoorExt
import Derived.Test.YtgdnlmfoghpeoaaDoorDel
import Derived.Test.YtgdnlmfoghpeoaaDoorRep
import Derived.Test.YtgdnlmfoghpeoaaDoorHand
import Derived.Test.YtgdnlmfoghpeoaaDoorIto
import Derived.Test.YtgdnlmfoghpeoaaDoorBui
import Derived.Test.YtgdnlmfoghpeoaaDoorJn
namespace Go.Proofs.YtgdnlmfoghpeoaaDoor.PFnActTexts
open Go.RowKit Go.Proofs.YtgdnlmfoghpeoaaDoorW.PrintWords Go.Proofs.YtgdnlmfoghpeoaaDoorW.PrintLast Go.Proofs.YtgdnlmfoghpeoaaDoorW.PrintMore
open Go.Value renaming int→V,bool→O
open Go.IntKind renaming i64→I
attribute [local go_sem] max2_int min2_int max_two min_two max_three min_three max_four min_four
attribute [local go_sem] Fix.isSome_setCell
set_option linter.unusedVariables false
set_option linter.unusedSimpArgs false
def errW:Option Int→Value
 |none=>.nilIface
 |some c=>.iface 0 (V I c)
theorem errW_none:errW none=.nilIface:=rfl
theorem errW_some (c:Int):errW (some c)=.iface 0 (V I c):=rfl
theorem info3:(Tryd.prog.info? 3).map (fun i=>(i.zero,i.size,i.bytes))=some (some (V I 0),1,8):=by kernel_rfl
theorem info9:(Tryd.prog.info? 9).map (fun i=>(i.zero,i.size,i.bytes))=some (some (.string ⟨#[]⟩),1,16):=by kernel_rfl
theorem info23:(Tryd.prog.info? 23).map (fun i=>(i.zero,i.size,i.bytes))=some (some (.agg #[(V I 0),(V I 0),(V I 0),(V I 0)]),4,32):=by kernel_rfl
theorem info32:(Tryd.prog.info? 32).map (fun i=>(i.zero,i.size,i.bytes))=some (some (.agg #[(V I 0),(V I 0),(V I 0),(O false),(V I 0),(O false)]),6,48):=by kernel_rfl
theorem info33:(Tryd.prog.info? 33).map (fun i=>(i.zero,i.size,i.bytes))=some (some (.slice none 0 0),1,24):=by kernel_rfl
structure S23 where
 f0:Int
 f1:Int
 f2:Int
 f3:Int
def z23:S23:=⟨(0:Int),(0:Int),(0:Int),(0:Int)⟩
def k23:Kd S23:=Kd.iso (Kd.pair (Kd.int .i64) (Kd.pair (Kd.int .i64) (Kd.pair (Kd.int .i64) (Kd.int .i64)))) (fun x:S23=>(x.f0,x.f1,x.f2,x.f3))
theorem k23_open {w:World} {x:S23} {cs:List Value} (h:k23.K w x cs):cs= [V I x.f0,V I x.f1,V I x.f2,V I x.f3]:=by
 obtain⟨_,_,rfl,rfl,⟨_,_,rfl,rfl,⟨_,_,rfl,rfl,rfl⟩⟩⟩:=h
 exact rfl
theorem k23_openM {w:World} {base:Nat} {ok:Nat→Prop} {x:S23} {cs:List Value} (h:k23.M w base ok x cs):cs= [V I x.f0,V I x.f1,V I x.f2,V I x.f3]:=by
 obtain⟨_,_,rfl,rfl,⟨_,_,rfl,rfl,⟨_,_,rfl,rfl,rfl⟩⟩⟩:=h
 exact rfl
theorem k23_mk (w:World) (x:S23):k23.K w x [V I x.f0,V I x.f1,V I x.f2,V I x.f3]:=⟨[V I x.f0],[V I x.f1,V I x.f2,V I x.f3],rfl,rfl,⟨[V I x.f1],[V I x.f2,V I x.f3],rfl,rfl,⟨[V I x.f2],[V I x.f3],rfl,rfl,rfl⟩⟩⟩
theorem k23_mkM (w:World) (base:Nat) (ok:Nat→Prop) (x:S23):k23.M w base ok x [V I x.f0,V I x.f1,V I x.f2,V I x.f3]:=⟨[V I x.f0],[V I x.f1,V I x.f2,V I x.f3],rfl,rfl,⟨[V I x.f1],[V I x.f2,V I x.f3],rfl,rfl,⟨[V I x.f2],[V I x.f3],rfl,rfl,rfl⟩⟩⟩
def rd_T23 (xs:List S23) (i:Int):S23:=xs.getD i.toNat z23
theorem at_T23 {w:World} {A:Option Addr} {n:Nat} {xs:List S23} (h:Kd.C k23 w A n xs) (i:Int) (h0:0≤i) (h1:i<n):∃ad ,A=some ad∧w.cell? (ad.add (i.toNat * 4))=some (V I (rd_T23 xs i).f0)∧w.cell? ⟨(ad.add (i.toNat * 4)).block,(ad.add (i.toNat * 4)).off+1,none⟩=some (V I (rd_T23 xs i).f1)∧w.cell? ⟨(ad.add (i.toNat * 4)).block,(ad.add (i.toNat * 4)).off+2,none⟩=some (V I (rd_T23 xs i).f2)∧w.cell? ⟨(ad.add (i.toNat * 4)).block,(ad.add (i.toNat * 4)).off+3,none⟩=some (V I (rd_T23 xs i).f3):=by
 obtain⟨ad,c,e,_,hK,hc0⟩:=Kd.C_get h z23 i h0 h1
 have hc:∀j u,c[j]? =some u→w.cell? (ad.add (i.toNat * 4+j))=some u:=hc0
 obtain rfl:=k23_open hK
 exact⟨ad,e,hc 0 _ rfl,by rw[←add_field _ _ 1 (by omega)];exact hc 1 _ rfl,by rw[←add_field _ _ 2 (by omega)];exact hc 2 _ rfl,by rw[←add_field _ _ 3 (by omega)];exact hc 3 _ rfl⟩
structure S32 where
 f0:Int
 f1:Int
 f2:Int
 f3:Bool
 f4:Int
 f5:Bool
def z32:S32:=⟨(0:Int),(0:Int),(0:Int),false,(0:Int),false⟩
def k32:Kd S32:=Kd.iso (Kd.pair (Kd.int .i64) (Kd.pair (Kd.int .i64) (Kd.pair (Kd.int .i64) (Kd.pair Kd.bool (Kd.pair (Kd.int .i64) Kd.bool))))) (fun x:S32=>(x.f0,x.f1,x.f2,x.f3,x.f4,x.f5))
theorem k32_open {w:World} {x:S32} {cs:List Value} (h:k32.K w x cs):cs= [V I x.f0,V I x.f1,V I x.f2,O x.f3,V I x.f4,O x.f5]:=by
 obtain⟨_,_,rfl,rfl,⟨_,_,rfl,rfl,⟨_,_,rfl,rfl,⟨_,_,rfl,rfl,⟨_,_,rfl,rfl,rfl⟩⟩⟩⟩⟩:=h
 exact rfl
theorem k32_openM {w:World} {base:Nat} {ok:Nat→Prop} {x:S32} {cs:List Value} (h:k32.M w base ok x cs):cs= [V I x.f0,V I x.f1,V I x.f2,O x.f3,V I x.f4,O x.f5]:=by
 obtain⟨_,_,rfl,rfl,⟨_,_,rfl,rfl,⟨_,_,rfl,rfl,⟨_,_,rfl,rfl,⟨_,_,rfl,rfl,rfl⟩⟩⟩⟩⟩:=h
 exact rfl
theorem k32_mk (w:World) (x:S32):k32.K w x [V I x.f0,V I x.f1,V I x.f2,O x.f3,V I x.f4,O x.f5]:=⟨[V I x.f0],[V I x.f1,V I x.f2,O x.f3,V I x.f4,O x.f5],rfl,rfl,⟨[V I x.f1],[V I x.f2,O x.f3,V I x.f4,O x.f5],rfl,rfl,⟨[V I x.f2],[O x.f3,V I x.f4,O x.f5],rfl,rfl,⟨[O x.f3],[V I x.f4,O x.f5],rfl,rfl,⟨[V I x.f4],[O x.f5],rfl,rfl,rfl⟩⟩⟩⟩⟩
theorem k32_mkM (w:World) (base:Nat) (ok:Nat→Prop) (x:S32):k32.M w base ok x [V I x.f0,V I x.f1,V I x.f2,O x.f3,V I x.f4,O x.f5]:=⟨[V I x.f0],[V I x.f1,V I x.f2,O x.f3,V I x.f4,O x.f5],rfl,rfl,⟨[V I x.f1],[V I x.f2,O x.f3,V I x.f4,O x.f5],rfl,rfl,⟨[V I x.f2],[O x.f3,V I x.f4,O x.f5],rfl,rfl,⟨[O x.f3],[V I x.f4,O x.f5],rfl,rfl,⟨[V I x.f4],[O x.f5],rfl,rfl,rfl⟩⟩⟩⟩⟩
def rd_T32 (xs:List S32) (i:Int):S32:=xs.getD i.toNat z32
theorem at_T32 {w:World} {A:Option Addr} {n:Nat} {xs:List S32} (h:Kd.C k32 w A n xs) (i:Int) (h0:0≤i) (h1:i<n):∃ad ,A=some ad∧w.cell? (ad.add (i.toNat * 6))=some (V I (rd_T32 xs i).f0)∧w.cell? ⟨(ad.add (i.toNat * 6)).block,(ad.add (i.toNat * 6)).off+1,none⟩=some (V I (rd_T32 xs i).f1)∧w.cell? ⟨(ad.add (i.toNat * 6)).block,(ad.add (i.toNat * 6)).off+2,none⟩=some (V I (rd_T32 xs i).f2)∧w.cell? ⟨(ad.add (i.toNat * 6)).block,(ad.add (i.toNat * 6)).off+3,none⟩=some (O (rd_T32 xs i).f3)∧w.cell? ⟨(ad.add (i.toNat * 6)).block,(ad.add (i.toNat * 6)).off+4,none⟩=some (V I (rd_T32 xs i).f4)∧w.cell? ⟨(ad.add (i.toNat * 6)).block,(ad.add (i.toNat * 6)).off+5,none⟩=some (O (rd_T32 xs i).f5):=by
 obtain⟨ad,c,e,_,hK,hc0⟩:=Kd.C_get h z32 i h0 h1
 have hc:∀j u,c[j]? =some u→w.cell? (ad.add (i.toNat * 6+j))=some u:=hc0
 obtain rfl:=k32_open hK
 exact⟨ad,e,hc 0 _ rfl,by rw[←add_field _ _ 1 (by omega)];exact hc 1 _ rfl,by rw[←add_field _ _ 2 (by omega)];exact hc 2 _ rfl,by rw[←add_field _ _ 3 (by omega)];exact hc 3 _ rfl,by rw[←add_field _ _ 4 (by omega)];exact hc 4 _ rfl,by rw[←add_field _ _ 5 (by omega)];exact hc 5 _ rfl⟩
def rd_L6 (xs:List (List Int)) (i:Int):(List Int):=xs.getD i.toNat ([]:List Int)
theorem at_L6 {w:World} {A:Option Addr} {n:Nat} {xs:List (List Int)} (h:Kd.C (Kd.slice 3 (Kd.int .i64)) w A n xs) (i:Int) (h0:0≤i) (h1:i<n):∃ad A0 c0,A=some ad∧w.cell? (ad.add i.toNat)=some (.slice A0 (rd_L6 xs i).length c0)∧(rd_L6 xs i).length≤c0∧(Kd.int .i64).C w A0 (rd_L6 xs i).length (rd_L6 xs i):=by
 obtain⟨ad,c,e,_,hK,hc0⟩:=Kd.C_get h ([]:List Int) i h0 h1
 have hc:∀j u,c[j]? =some u→w.cell? (ad.add (i.toNat * 1+j))=some u:=hc0
 obtain⟨A0,c0,rfl,l0,g0⟩:=hK
 exact⟨ad,A0,c0,e,by have hq:=hc 0 _ rfl;rwa [Nat.mul_one,Nat.add_zero]at hq,l0,g0⟩
end Go.Proofs.YtgdnlmfoghpeoaaDoor.PFnActTexts
