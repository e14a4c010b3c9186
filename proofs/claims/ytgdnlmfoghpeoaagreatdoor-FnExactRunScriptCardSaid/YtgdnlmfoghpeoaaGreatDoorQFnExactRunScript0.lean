/- Calls do what plain Lean functions say (FnExactRunScript). No condition. -/
import Derived.Test.YtgdnlmfoghpeoaaGreatDoorProg
import Derived.Below
import Derived.Deep.Draws
import Derived.Deep.AppendLies
import Derived.Maps.AppendAt
import Derived.OwnWalk
import Derived.Laws.BytesArg
import Derived.Laws.MakeOwn
import Derived.Laws.OwnMore
import Derived.Deep.OwnRows
import Derived.Tactics
import Derived.Lib.ConvBytes
import Derived.Laws.Slices
import Derived.WalkKit
import Derived.KernelRfl
import Derived.RowKit3
import Derived.Deep.LoopGhost
import Derived.Deep.QuietTactic
import Derived.BigQuiet
import Derived.WideLaws
import Derived.Deep.DeepCutAuto
import Derived.Deep.CutBlock
import Derived.Deep.RegionHeld3
import Derived.Laws.Rows
import Derived.Lib.AppendStr
import Derived.ArgAppend
import Derived.Laws.IdiomCopy
import Derived.OrdersHeld
import Derived.Laws.BitsLemmas
import Derived.RowKit
import Derived.Test.YtgdnlmfoghpeoaaGreatDoorWWords
import Derived.Test.YtgdnlmfoghpeoaaGreatDoorWLast
import Derived.Test.YtgdnlmfoghpeoaaGreatDoorWTab
import Derived.Test.YtgdnlmfoghpeoaaGreatDoorWFour
import Derived.Test.YtgdnlmfoghpeoaaGreatDoorWQPut
import Derived.Test.YtgdnlmfoghpeoaaGreatDoorWApart
import Derived.Test.YtgdnlmfoghpeoaaGreatDoorWArr
import Derived.Test.YtgdnlmfoghpeoaaGreatDoorWZeros
import Derived.Test.YtgdnlmfoghpeoaaGreatDoorWFoot
import Derived.Test.YtgdnlmfoghpeoaaGreatDoorWKept
import Derived.Test.YtgdnlmfoghpeoaaGreatDoorWShare
import Derived.Test.YtgdnlmfoghpeoaaGreatDoorWN
import Derived.Test.YtgdnlmfoghpeoaaGreatDoorWFootNe
import Derived.Test.YtgdnlmfoghpeoaaGreatDoorWAt
import Derived.Test.YtgdnlmfoghpeoaaGreatDoorWEqStruct
import Derived.Test.YtgdnlmfoghpeoaaGreatDoorWRepsOne
import Derived.Test.YtgdnlmfoghpeoaaGreatDoorWInv
import Derived.Test.YtgdnlmfoghpeoaaGreatDoorWInvWords
import Derived.Test.YtgdnlmfoghpeoaaGreatDoorWGuard
import Derived.Test.YtgdnlmfoghpeoaaGreatDoorWNEv
import Derived.Test.YtgdnlmfoghpeoaaGreatDoorWMore
import Derived.Test.YtgdnlmfoghpeoaaGreatDoorFix
import Derived.Test.YtgdnlmfoghpeoaaGreatDoorSq
import Derived.Test.YtgdnlmfoghpeoaaGreatDoorSq2
import Derived.Test.YtgdnlmfoghpeoaaGreatDoorExt
import Derived.Test.YtgdnlmfoghpeoaaGreatDoorDel
import Derived.Test.YtgdnlmfoghpeoaaGreatDoorRep
import Derived.Test.YtgdnlmfoghpeoaaGreatDoorHand
import Derived.Test.YtgdnlmfoghpeoaaGreatDoorIto
import Derived.Test.YtgdnlmfoghpeoaaGreatDoorBui
import Derived.Test.YtgdnlmfoghpeoaaGreatDoorJn
namespace Go.Proofs.YtgdnlmfoghpeoaaGreatDoor.PFnExactRunScript
open Go.RowKit Go.Proofs.YtgdnlmfoghpeoaaGreatDoorW.PrintWords Go.Proofs.YtgdnlmfoghpeoaaGreatDoorW.PrintLast Go.Proofs.YtgdnlmfoghpeoaaGreatDoorW.PrintMore
open Go.Value renaming int→V,bool→O
open Go.IntKind renaming i64→I
attribute [local go_sem] max2_int min2_int max_two min_two max_three min_three max_four min_four
attribute [local go_sem] Fix.isSome_setCell
set_option linter.unusedVariables false
set_option linter.unusedSimpArgs false
def errW:Option Int→Value
 |none=>.nilIface
 |some c=>.iface 0 (V I c)
theorem errW_none:errW none=.nilIface:=rfl
theorem errW_some (c:Int):errW (some c)=.iface 0 (V I c):=rfl
theorem info3:(Tryz.prog.info? 3).map (fun i=>(i.zero,i.size,i.bytes))=some (some (V I 0),1,8):=by kernel_rfl
theorem info5:(Tryz.prog.info? 5).map (fun i=>(i.zero,i.size,i.bytes))=some (some (.int .u8 0),1,1):=by kernel_rfl
theorem info9:(Tryz.prog.info? 9).map (fun i=>(i.zero,i.size,i.bytes))=some (some (.string ⟨#[]⟩),1,16):=by kernel_rfl
theorem info26:(Tryz.prog.info? 26).map (fun i=>(i.zero,i.size,i.bytes))=some (some (.agg #[(V I 0),(V I 0),(V I 0),(O false),(V I 0),(O false)]),6,48):=by kernel_rfl
theorem info27:(Tryz.prog.info? 27).map (fun i=>(i.zero,i.size,i.bytes))=some (some (.slice none 0 0),1,24):=by kernel_rfl
theorem info55:(Tryz.prog.info? 55).map (fun i=>(i.zero,i.size,i.bytes))=some (some (.agg #[(V I 0),(V I 0),(V I 0),(V I 0)]),4,32):=by kernel_rfl
structure S26 where
 f0:Int
 f1:Int
 f2:Int
 f3:Bool
 f4:Int
 f5:Bool
def z26:S26:=⟨(0:Int),(0:Int),(0:Int),false,(0:Int),false⟩
def k26:Kd S26:=Kd.iso (Kd.pair (Kd.int .i64) (Kd.pair (Kd.int .i64) (Kd.pair (Kd.int .i64) (Kd.pair Kd.bool (Kd.pair (Kd.int .i64) Kd.bool))))) (fun x:S26=>(x.f0,x.f1,x.f2,x.f3,x.f4,x.f5))
theorem k26_heap:Kd.Heap k26:=Kd.heap_iso _ (Kd.heap_pair (Kd.heap_int .i64) (Kd.heap_pair (Kd.heap_int .i64) (Kd.heap_pair (Kd.heap_int .i64) (Kd.heap_pair Kd.heap_bool (Kd.heap_pair (Kd.heap_int .i64) Kd.heap_bool)))))
theorem k26_open {w:World} {x:S26} {cs:List Value} (h:k26.K w x cs):cs= [V I x.f0,V I x.f1,V I x.f2,O x.f3,V I x.f4,O x.f5]:=by
 obtain⟨_,_,rfl,rfl,⟨_,_,rfl,rfl,⟨_,_,rfl,rfl,⟨_,_,rfl,rfl,⟨_,_,rfl,rfl,rfl⟩⟩⟩⟩⟩:=h
 exact rfl
theorem k26_openM {w:World} {base:Nat} {ok:Nat→Prop} {x:S26} {cs:List Value} (h:k26.M w base ok x cs):cs= [V I x.f0,V I x.f1,V I x.f2,O x.f3,V I x.f4,O x.f5]:=by
 obtain⟨_,_,rfl,rfl,⟨_,_,rfl,rfl,⟨_,_,rfl,rfl,⟨_,_,rfl,rfl,⟨_,_,rfl,rfl,rfl⟩⟩⟩⟩⟩:=h
 exact rfl
theorem k26_mk (w:World) (x:S26):k26.K w x [V I x.f0,V I x.f1,V I x.f2,O x.f3,V I x.f4,O x.f5]:=⟨[V I x.f0],[V I x.f1,V I x.f2,O x.f3,V I x.f4,O x.f5],rfl,rfl,⟨[V I x.f1],[V I x.f2,O x.f3,V I x.f4,O x.f5],rfl,rfl,⟨[V I x.f2],[O x.f3,V I x.f4,O x.f5],rfl,rfl,⟨[O x.f3],[V I x.f4,O x.f5],rfl,rfl,⟨[V I x.f4],[O x.f5],rfl,rfl,rfl⟩⟩⟩⟩⟩
theorem k26_mkM (w:World) (base:Nat) (ok:Nat→Prop) (x:S26):k26.M w base ok x [V I x.f0,V I x.f1,V I x.f2,O x.f3,V I x.f4,O x.f5]:=⟨[V I x.f0],[V I x.f1,V I x.f2,O x.f3,V I x.f4,O x.f5],rfl,rfl,⟨[V I x.f1],[V I x.f2,O x.f3,V I x.f4,O x.f5],rfl,rfl,⟨[V I x.f2],[O x.f3,V I x.f4,O x.f5],rfl,rfl,⟨[O x.f3],[V I x.f4,O x.f5],rfl,rfl,⟨[V I x.f4],[O x.f5],rfl,rfl,rfl⟩⟩⟩⟩⟩
theorem k26_mkF (W:World) (ok:Nat→Prop) (x:S26):Kd.FK k26 W ok x [V I x.f0,V I x.f1,V I x.f2,O x.f3,V I x.f4,O x.f5]:=fun W2 _=>k26_mk W2 x
def rd_T26 (xs:List S26) (i:Int):S26:=xs.getD i.toNat z26
theorem at_T26 {w:World} {A:Option Addr} {n:Nat} {xs:List S26} (h:Kd.C k26 w A n xs) (i:Int) (h0:0≤i) (h1:i<n):∃ad ,A=some ad∧w.cell? (ad.add (i.toNat * 6))=some (V I (rd_T26 xs i).f0)∧w.cell? ⟨(ad.add (i.toNat * 6)).block,(ad.add (i.toNat * 6)).off+1,none⟩=some (V I (rd_T26 xs i).f1)∧w.cell? ⟨(ad.add (i.toNat * 6)).block,(ad.add (i.toNat * 6)).off+2,none⟩=some (V I (rd_T26 xs i).f2)∧w.cell? ⟨(ad.add (i.toNat * 6)).block,(ad.add (i.toNat * 6)).off+3,none⟩=some (O (rd_T26 xs i).f3)∧w.cell? ⟨(ad.add (i.toNat * 6)).block,(ad.add (i.toNat * 6)).off+4,none⟩=some (V I (rd_T26 xs i).f4)∧w.cell? ⟨(ad.add (i.toNat * 6)).block,(ad.add (i.toNat * 6)).off+5,none⟩=some (O (rd_T26 xs i).f5):=by
 obtain⟨ad,c,e,_,hK,hc0⟩:=Kd.C_get h z26 i h0 h1
 have hc:∀j u,c[j]? =some u→w.cell? (ad.add (i.toNat * 6+j))=some u:=hc0
 obtain rfl:=k26_open hK
 exact⟨ad,e,hc 0 _ rfl,by rw[←add_field _ _ 1 (by omega)];exact hc 1 _ rfl,by rw[←add_field _ _ 2 (by omega)];exact hc 2 _ rfl,by rw[←add_field _ _ 3 (by omega)];exact hc 3 _ rfl,by rw[←add_field _ _ 4 (by omega)];exact hc 4 _ rfl,by rw[←add_field _ _ 5 (by omega)];exact hc 5 _ rfl⟩
def rd_L3 (xs:List (List Int)) (i:Int):(List Int):=xs.getD i.toNat ([]:List Int)
theorem at_L3 {w:World} {A:Option Addr} {n:Nat} {xs:List (List Int)} (h:Kd.C (Kd.slice 3 (Kd.int .i64)) w A n xs) (i:Int) (h0:0≤i) (h1:i<n):∃ad A0 c0,A=some ad∧w.cell? (ad.add i.toNat)=some (.slice A0 (rd_L3 xs i).length c0)∧(rd_L3 xs i).length≤c0∧(Kd.int .i64).C w A0 (rd_L3 xs i).length (rd_L3 xs i):=by
 obtain⟨ad,c,e,_,hK,hc0⟩:=Kd.C_get h ([]:List Int) i h0 h1
 have hc:∀j u,c[j]? =some u→w.cell? (ad.add (i.toNat * 1+j))=some u:=hc0
 obtain⟨A0,c0,rfl,l0,g0⟩:=hK
 exact⟨ad,A0,c0,e,by have hq:=hc 0 _ rfl;rwa [Nat.mul_one,Nat.add_zero]at hq,l0,g0⟩
structure S55 where
 f0:Int
 f1:Int
 f2:Int
 f3:Int
def z55:S55:=⟨(0:Int),(0:Int),(0:Int),(0:Int)⟩
def k55:Kd S55:=Kd.iso (Kd.pair (Kd.int .i64) (Kd.pair (Kd.int .i64) (Kd.pair (Kd.int .i64) (Kd.int .i64)))) (fun x:S55=>(x.f0,x.f1,x.f2,x.f3))
theorem k55_heap:Kd.Heap k55:=Kd.heap_iso _ (Kd.heap_pair (Kd.heap_int .i64) (Kd.heap_pair (Kd.heap_int .i64) (Kd.heap_pair (Kd.heap_int .i64) (Kd.heap_int .i64))))
theorem k55_open {w:World} {x:S55} {cs:List Value} (h:k55.K w x cs):cs= [V I x.f0,V I x.f1,V I x.f2,V I x.f3]:=by
 obtain⟨_,_,rfl,rfl,⟨_,_,rfl,rfl,⟨_,_,rfl,rfl,rfl⟩⟩⟩:=h
 exact rfl
theorem k55_openM {w:World} {base:Nat} {ok:Nat→Prop} {x:S55} {cs:List Value} (h:k55.M w base ok x cs):cs= [V I x.f0,V I x.f1,V I x.f2,V I x.f3]:=by
 obtain⟨_,_,rfl,rfl,⟨_,_,rfl,rfl,⟨_,_,rfl,rfl,rfl⟩⟩⟩:=h
 exact rfl
theorem k55_mk (w:World) (x:S55):k55.K w x [V I x.f0,V I x.f1,V I x.f2,V I x.f3]:=⟨[V I x.f0],[V I x.f1,V I x.f2,V I x.f3],rfl,rfl,⟨[V I x.f1],[V I x.f2,V I x.f3],rfl,rfl,⟨[V I x.f2],[V I x.f3],rfl,rfl,rfl⟩⟩⟩
theorem k55_mkM (w:World) (base:Nat) (ok:Nat→Prop) (x:S55):k55.M w base ok x [V I x.f0,V I x.f1,V I x.f2,V I x.f3]:=⟨[V I x.f0],[V I x.f1,V I x.f2,V I x.f3],rfl,rfl,⟨[V I x.f1],[V I x.f2,V I x.f3],rfl,rfl,⟨[V I x.f2],[V I x.f3],rfl,rfl,rfl⟩⟩⟩
theorem k55_mkF (W:World) (ok:Nat→Prop) (x:S55):Kd.FK k55 W ok x [V I x.f0,V I x.f1,V I x.f2,V I x.f3]:=fun W2 _=>k55_mk W2 x
def rd_T55 (xs:List S55) (i:Int):S55:=xs.getD i.toNat z55
theorem at_T55 {w:World} {A:Option Addr} {n:Nat} {xs:List S55} (h:Kd.C k55 w A n xs) (i:Int) (h0:0≤i) (h1:i<n):∃ad ,A=some ad∧w.cell? (ad.add (i.toNat * 4))=some (V I (rd_T55 xs i).f0)∧w.cell? ⟨(ad.add (i.toNat * 4)).block,(ad.add (i.toNat * 4)).off+1,none⟩=some (V I (rd_T55 xs i).f1)∧w.cell? ⟨(ad.add (i.toNat * 4)).block,(ad.add (i.toNat * 4)).off+2,none⟩=some (V I (rd_T55 xs i).f2)∧w.cell? ⟨(ad.add (i.toNat * 4)).block,(ad.add (i.toNat * 4)).off+3,none⟩=some (V I (rd_T55 xs i).f3):=by
 obtain⟨ad,c,e,_,hK,hc0⟩:=Kd.C_get h z55 i h0 h1
 have hc:∀j u,c[j]? =some u→w.cell? (ad.add (i.toNat * 4+j))=some u:=hc0
 obtain rfl:=k55_open hK
 exact⟨ad,e,hc 0 _ rfl,by rw[←add_field _ _ 1 (by omega)];exact hc 1 _ rfl,by rw[←add_field _ _ 2 (by omega)];exact hc 2 _ rfl,by rw[←add_field _ _ 3 (by omega)];exact hc 3 _ rfl⟩
end Go.Proofs.YtgdnlmfoghpeoaaGreatDoor.PFnExactRunScript
namespace Go.Proofs.YtgdnlmfoghpeoaaGreatDoor.PFnExactRunScript
open Go.RowKit Go.Proofs.YtgdnlmfoghpeoaaGreatDoorW.PrintWords Go.Proofs.YtgdnlmfoghpeoaaGreatDoorW.PrintLast Go.Proofs.YtgdnlmfoghpeoaaGreatDoorW.PrintMore
attribute [local go_sem] max2_int min2_int max_two min_two max_three min_three max_four min_four
attribute [local go_sem] Fix.isSome_setCell
set_option linter.unusedVariables false
set_option linter.unusedSimpArgs false
theorem eqA26 (d:Nat) (w:World) (x0 y0:Int) (x1 y1:Int) (x2 y2:Int) (x3 y3:Bool) (x4 y4:Int) (x5 y5:Bool):
 (Op.equalIn (d+2) 26 (.agg #[.int .i64 x0,.int .i64 x1,.int .i64 x2,.bool x3,.int .i64 x4,.bool x5]) (.agg #[.int .i64 y0,.int .i64 y1,.int .i64 y2,.bool y3,.int .i64 y4,.bool y5])).run Tryz.prog w=.ok (x0==y0 && (x1==y1 && (x2==y2 && (x3==y3 && (x4==y4 && (x5==y5)))))) w:=by
 refine eqA_of Tryz.underlying26 (by kernel_rfl) ?_
 refine eqf_cons (by rfl) (by go_simp;rfl) (by go_simp;rfl) (by go_simp) ?_
 refine eqf_cons (by rfl) (by go_simp;rfl) (by go_simp;rfl) (by go_simp) ?_
 refine eqf_cons (by rfl) (by go_simp;rfl) (by go_simp;rfl) (by go_simp) ?_
 refine eqf_cons (by rfl) (by go_simp;rfl) (by go_simp;rfl) (by go_simp) ?_
 refine eqf_cons (by rfl) (by go_simp;rfl) (by go_simp;rfl) (by go_simp) ?_
 exact eqf_last (by rfl) (by go_simp;rfl) (by go_simp;rfl) (by go_simp)
end Go.Proofs.YtgdnlmfoghpeoaaGreatDoor.PFnExactRunScript
