/- Calls do what plain Lean functions say (FnExactRunActs). No condition. -/
import Derived.Test.YtblceimapaenlaaProg
import Derived.Below
import Derived.Deep.Draws
import Derived.Deep.AppendLies
import Derived.Maps.AppendAt
import Derived.OwnWalk
import Derived.Laws.BytesArg
import Derived.Laws.MakeOwn
import Derived.Laws.OwnMore
import Derived.Deep.OwnRows
import Derived.Tactics
import Derived.Lib.ConvBytes
import Derived.Laws.Slices
import Derived.WalkKit
import Derived.KernelRfl
import Derived.RowKit3
import Derived.Deep.LoopGhost
import Derived.Deep.QuietTactic
import Derived.BigQuiet
import Derived.WideLaws
import Derived.Deep.DeepCutAuto
import Derived.Deep.CutBlock
import Derived.Deep.RegionHeld3
import Derived.Laws.Rows
import Derived.Lib.AppendStr
import Derived.ArgAppend
import Derived.Laws.IdiomCopy
import Derived.OrdersHeld
import Derived.Laws.BitsLemmas
import Derived.RowKit
import Derived.Test.YtblceimapaenlaaWWords
import Derived.Test.YtblceimapaenlaaWLast
import Derived.Test.YtblceimapaenlaaWTab
import Derived.Test.YtblceimapaenlaaWFour
import Derived.Test.YtblceimapaenlaaWQPut
import Derived.Test.YtblceimapaenlaaWApart
import Derived.Test.YtblceimapaenlaaWArr
import Derived.Test.YtblceimapaenlaaWZeros
import Derived.Test.YtblceimapaenlaaWFoot
import Derived.Test.YtblceimapaenlaaWKept
import Derived.Test.YtblceimapaenlaaWShare
import Derived.Test.YtblceimapaenlaaWN
import Derived.Test.YtblceimapaenlaaWFootNe
import Derived.Test.YtblceimapaenlaaWAt
import Derived.Test.YtblceimapaenlaaWEqStruct
import Derived.Test.YtblceimapaenlaaWRepsOne
import Derived.Test.YtblceimapaenlaaWInv
import Derived.Test.YtblceimapaenlaaWInvWords
import Derived.Test.YtblceimapaenlaaWGuard
import Derived.Test.YtblceimapaenlaaWNEv
import Derived.Test.YtblceimapaenlaaWMore
import Derived.Test.YtblceimapaenlaaFix
import Derived.Test.YtblceimapaenlaaSq
import Derived.Test.YtblceimapaenlaaSq2
import Derived.Test.YtblceimapaenlaaExt
import Derived.Test.YtblceimapaenlaaDel
import Derived.Test.YtblceimapaenlaaRep
import Derived.Test.YtblceimapaenlaaHand
namespace Go.Proofs.Ytblceimapaenlaa.PFnExactRunActs
open Go.RowKit Go.Proofs.YtblceimapaenlaaW.PrintWords Go.Proofs.YtblceimapaenlaaW.PrintLast Go.Proofs.YtblceimapaenlaaW.PrintMore
open Go.Value renaming int→V,bool→O
open Go.IntKind renaming i64→I
attribute [local go_sem] max2_int min2_int max_two min_two max_three min_three max_four min_four
attribute [local go_sem] Fix.isSome_setCell
set_option linter.unusedVariables false
set_option linter.unusedSimpArgs false
def errW:Option Int→Value
 |none=>.nilIface
 |some c=>.iface 0 (V I c)
theorem errW_none:errW none=.nilIface:=rfl
theorem errW_some (c:Int):errW (some c)=.iface 0 (V I c):=rfl
theorem info3:(Try.prog.info? 3).map (fun i=>(i.zero,i.size,i.bytes))=some (some (V I 0),1,8):=by kernel_rfl
theorem info25:(Try.prog.info? 25).map (fun i=>(i.zero,i.size,i.bytes))=some (some (.slice none 0 0),1,24):=by kernel_rfl
theorem info33:(Try.prog.info? 33).map (fun i=>(i.zero,i.size,i.bytes))=some (some (.agg #[(V I 0),(V I 0),(V I 0),(O false),(V I 0),(O false)]),6,48):=by kernel_rfl
theorem info53:(Try.prog.info? 53).map (fun i=>(i.zero,i.size,i.bytes))=some (some (.agg #[(V I 0),(V I 0),(V I 0),(V I 0)]),4,32):=by kernel_rfl
structure S24 where
 f0:Int
 f1:Int
 f2:Int
 f3:Bool
 f4:Int
 f5:Bool
def z24:S24:=⟨(0:Int),(0:Int),(0:Int),false,(0:Int),false⟩
def k24:Kd S24:=Kd.iso (Kd.pair (Kd.int .i64) (Kd.pair (Kd.int .i64) (Kd.pair (Kd.int .i64) (Kd.pair Kd.bool (Kd.pair (Kd.int .i64) Kd.bool))))) (fun x:S24=>(x.f0,x.f1,x.f2,x.f3,x.f4,x.f5))
theorem k24_heap:Kd.Heap k24:=Kd.heap_iso _ (Kd.heap_pair (Kd.heap_int .i64) (Kd.heap_pair (Kd.heap_int .i64) (Kd.heap_pair (Kd.heap_int .i64) (Kd.heap_pair Kd.heap_bool (Kd.heap_pair (Kd.heap_int .i64) Kd.heap_bool)))))
theorem k24_open {w:World} {x:S24} {cs:List Value} (h:k24.K w x cs):cs= [V I x.f0,V I x.f1,V I x.f2,O x.f3,V I x.f4,O x.f5]:=by
 obtain⟨_,_,rfl,rfl,⟨_,_,rfl,rfl,⟨_,_,rfl,rfl,⟨_,_,rfl,rfl,⟨_,_,rfl,rfl,rfl⟩⟩⟩⟩⟩:=h
 exact rfl
theorem k24_openM {w:World} {base:Nat} {ok:Nat→Prop} {x:S24} {cs:List Value} (h:k24.M w base ok x cs):cs= [V I x.f0,V I x.f1,V I x.f2,O x.f3,V I x.f4,O x.f5]:=by
 obtain⟨_,_,rfl,rfl,⟨_,_,rfl,rfl,⟨_,_,rfl,rfl,⟨_,_,rfl,rfl,⟨_,_,rfl,rfl,rfl⟩⟩⟩⟩⟩:=h
 exact rfl
theorem k24_mk (w:World) (x:S24):k24.K w x [V I x.f0,V I x.f1,V I x.f2,O x.f3,V I x.f4,O x.f5]:=⟨[V I x.f0],[V I x.f1,V I x.f2,O x.f3,V I x.f4,O x.f5],rfl,rfl,⟨[V I x.f1],[V I x.f2,O x.f3,V I x.f4,O x.f5],rfl,rfl,⟨[V I x.f2],[O x.f3,V I x.f4,O x.f5],rfl,rfl,⟨[O x.f3],[V I x.f4,O x.f5],rfl,rfl,⟨[V I x.f4],[O x.f5],rfl,rfl,rfl⟩⟩⟩⟩⟩
theorem k24_mkM (w:World) (base:Nat) (ok:Nat→Prop) (x:S24):k24.M w base ok x [V I x.f0,V I x.f1,V I x.f2,O x.f3,V I x.f4,O x.f5]:=⟨[V I x.f0],[V I x.f1,V I x.f2,O x.f3,V I x.f4,O x.f5],rfl,rfl,⟨[V I x.f1],[V I x.f2,O x.f3,V I x.f4,O x.f5],rfl,rfl,⟨[V I x.f2],[O x.f3,V I x.f4,O x.f5],rfl,rfl,⟨[O x.f3],[V I x.f4,O x.f5],rfl,rfl,⟨[V I x.f4],[O x.f5],rfl,rfl,rfl⟩⟩⟩⟩⟩
theorem k24_mkF (W:World) (ok:Nat→Prop) (x:S24):Kd.FK k24 W ok x [V I x.f0,V I x.f1,V I x.f2,O x.f3,V I x.f4,O x.f5]:=fun W2 _=>k24_mk W2 x
def rd_T24 (xs:List S24) (i:Int):S24:=xs.getD i.toNat z24
theorem at_T24 {w:World} {A:Option Addr} {n:Nat} {xs:List S24} (h:Kd.C k24 w A n xs) (i:Int) (h0:0≤i) (h1:i<n):∃ad ,A=some ad∧w.cell? (ad.add (i.toNat * 6))=some (V I (rd_T24 xs i).f0)∧w.cell? ⟨(ad.add (i.toNat * 6)).block,(ad.add (i.toNat * 6)).off+1,none⟩=some (V I (rd_T24 xs i).f1)∧w.cell? ⟨(ad.add (i.toNat * 6)).block,(ad.add (i.toNat * 6)).off+2,none⟩=some (V I (rd_T24 xs i).f2)∧w.cell? ⟨(ad.add (i.toNat * 6)).block,(ad.add (i.toNat * 6)).off+3,none⟩=some (O (rd_T24 xs i).f3)∧w.cell? ⟨(ad.add (i.toNat * 6)).block,(ad.add (i.toNat * 6)).off+4,none⟩=some (V I (rd_T24 xs i).f4)∧w.cell? ⟨(ad.add (i.toNat * 6)).block,(ad.add (i.toNat * 6)).off+5,none⟩=some (O (rd_T24 xs i).f5):=by
 obtain⟨ad,c,e,_,hK,hc0⟩:=Kd.C_get h z24 i h0 h1
 have hc:∀j u,c[j]? =some u→w.cell? (ad.add (i.toNat * 6+j))=some u:=hc0
 obtain rfl:=k24_open hK
 exact⟨ad,e,hc 0 _ rfl,by rw[←add_field _ _ 1 (by omega)];exact hc 1 _ rfl,by rw[←add_field _ _ 2 (by omega)];exact hc 2 _ rfl,by rw[←add_field _ _ 3 (by omega)];exact hc 3 _ rfl,by rw[←add_field _ _ 4 (by omega)];exact hc 4 _ rfl,by rw[←add_field _ _ 5 (by omega)];exact hc 5 _ rfl⟩
structure S33 where
 f0:Int
 f1:Int
 f2:Int
 f3:Bool
 f4:Int
 f5:Bool
def z33:S33:=⟨(0:Int),(0:Int),(0:Int),false,(0:Int),false⟩
def k33:Kd S33:=Kd.iso (Kd.pair (Kd.int .i64) (Kd.pair (Kd.int .i64) (Kd.pair (Kd.int .i64) (Kd.pair Kd.bool (Kd.pair (Kd.int .i64) Kd.bool))))) (fun x:S33=>(x.f0,x.f1,x.f2,x.f3,x.f4,x.f5))
theorem k33_heap:Kd.Heap k33:=Kd.heap_iso _ (Kd.heap_pair (Kd.heap_int .i64) (Kd.heap_pair (Kd.heap_int .i64) (Kd.heap_pair (Kd.heap_int .i64) (Kd.heap_pair Kd.heap_bool (Kd.heap_pair (Kd.heap_int .i64) Kd.heap_bool)))))
theorem k33_open {w:World} {x:S33} {cs:List Value} (h:k33.K w x cs):cs= [V I x.f0,V I x.f1,V I x.f2,O x.f3,V I x.f4,O x.f5]:=by
 obtain⟨_,_,rfl,rfl,⟨_,_,rfl,rfl,⟨_,_,rfl,rfl,⟨_,_,rfl,rfl,⟨_,_,rfl,rfl,rfl⟩⟩⟩⟩⟩:=h
 exact rfl
theorem k33_openM {w:World} {base:Nat} {ok:Nat→Prop} {x:S33} {cs:List Value} (h:k33.M w base ok x cs):cs= [V I x.f0,V I x.f1,V I x.f2,O x.f3,V I x.f4,O x.f5]:=by
 obtain⟨_,_,rfl,rfl,⟨_,_,rfl,rfl,⟨_,_,rfl,rfl,⟨_,_,rfl,rfl,⟨_,_,rfl,rfl,rfl⟩⟩⟩⟩⟩:=h
 exact rfl
theorem k33_mk (w:World) (x:S33):k33.K w x [V I x.f0,V I x.f1,V I x.f2,O x.f3,V I x.f4,O x.f5]:=⟨[V I x.f0],[V I x.f1,V I x.f2,O x.f3,V I x.f4,O x.f5],rfl,rfl,⟨[V I x.f1],[V I x.f2,O x.f3,V I x.f4,O x.f5],rfl,rfl,⟨[V I x.f2],[O x.f3,V I x.f4,O x.f5],rfl,rfl,⟨[O x.f3],[V I x.f4,O x.f5],rfl,rfl,⟨[V I x.f4],[O x.f5],rfl,rfl,rfl⟩⟩⟩⟩⟩
theorem k33_mkM (w:World) (base:Nat) (ok:Nat→Prop) (x:S33):k33.M w base ok x [V I x.f0,V I x.f1,V I x.f2,O x.f3,V I x.f4,O x.f5]:=⟨[V I x.f0],[V I x.f1,V I x.f2,O x.f3,V I x.f4,O x.f5],rfl,rfl,⟨[V I x.f1],[V I x.f2,O x.f3,V I x.f4,O x.f5],rfl,rfl,⟨[V I x.f2],[O x.f3,V I x.f4,O x.f5],rfl,rfl,⟨[O x.f3],[V I x.f4,O x.f5],rfl,rfl,⟨[V I x.f4],[O x.f5],rfl,rfl,rfl⟩⟩⟩⟩⟩
theorem k33_mkF (W:World) (ok:Nat→Prop) (x:S33):Kd.FK k33 W ok x [V I x.f0,V I x.f1,V I x.f2,O x.f3,V I x.f4,O x.f5]:=fun W2 _=>k33_mk W2 x
def rd_T33 (xs:List S33) (i:Int):S33:=xs.getD i.toNat z33
theorem at_T33 {w:World} {A:Option Addr} {n:Nat} {xs:List S33} (h:Kd.C k33 w A n xs) (i:Int) (h0:0≤i) (h1:i<n):∃ad ,A=some ad∧w.cell? (ad.add (i.toNat * 6))=some (V I (rd_T33 xs i).f0)∧w.cell? ⟨(ad.add (i.toNat * 6)).block,(ad.add (i.toNat * 6)).off+1,none⟩=some (V I (rd_T33 xs i).f1)∧w.cell? ⟨(ad.add (i.toNat * 6)).block,(ad.add (i.toNat * 6)).off+2,none⟩=some (V I (rd_T33 xs i).f2)∧w.cell? ⟨(ad.add (i.toNat * 6)).block,(ad.add (i.toNat * 6)).off+3,none⟩=some (O (rd_T33 xs i).f3)∧w.cell? ⟨(ad.add (i.toNat * 6)).block,(ad.add (i.toNat * 6)).off+4,none⟩=some (V I (rd_T33 xs i).f4)∧w.cell? ⟨(ad.add (i.toNat * 6)).block,(ad.add (i.toNat * 6)).off+5,none⟩=some (O (rd_T33 xs i).f5):=by
 obtain⟨ad,c,e,_,hK,hc0⟩:=Kd.C_get h z33 i h0 h1
 have hc:∀j u,c[j]? =some u→w.cell? (ad.add (i.toNat * 6+j))=some u:=hc0
 obtain rfl:=k33_open hK
 exact⟨ad,e,hc 0 _ rfl,by rw[←add_field _ _ 1 (by omega)];exact hc 1 _ rfl,by rw[←add_field _ _ 2 (by omega)];exact hc 2 _ rfl,by rw[←add_field _ _ 3 (by omega)];exact hc 3 _ rfl,by rw[←add_field _ _ 4 (by omega)];exact hc 4 _ rfl,by rw[←add_field _ _ 5 (by omega)];exact hc 5 _ rfl⟩
def rd_L4 (xs:List (List Int)) (i:Int):(List Int):=xs.getD i.toNat ([]:List Int)
theorem at_L4 {w:World} {A:Option Addr} {n:Nat} {xs:List (List Int)} (h:Kd.C (Kd.slice 3 (Kd.int .i64)) w A n xs) (i:Int) (h0:0≤i) (h1:i<n):∃ad A0 c0,A=some ad∧w.cell? (ad.add i.toNat)=some (.slice A0 (rd_L4 xs i).length c0)∧(rd_L4 xs i).length≤c0∧(Kd.int .i64).C w A0 (rd_L4 xs i).length (rd_L4 xs i):=by
 obtain⟨ad,c,e,_,hK,hc0⟩:=Kd.C_get h ([]:List Int) i h0 h1
 have hc:∀j u,c[j]? =some u→w.cell? (ad.add (i.toNat * 1+j))=some u:=hc0
 obtain⟨A0,c0,rfl,l0,g0⟩:=hK
 exact⟨ad,A0,c0,e,by have hq:=hc 0 _ rfl;rwa [Nat.mul_one,Nat.add_zero]at hq,l0,g0⟩
structure S53 where
 f0:Int
 f1:Int
 f2:Int
 f3:Int
def z53:S53:=⟨(0:Int),(0:Int),(0:Int),(0:Int)⟩
def k53:Kd S53:=Kd.iso (Kd.pair (Kd.int .i64) (Kd.pair (Kd.int .i64) (Kd.pair (Kd.int .i64) (Kd.int .i64)))) (fun x:S53=>(x.f0,x.f1,x.f2,x.f3))
theorem k53_heap:Kd.Heap k53:=Kd.heap_iso _ (Kd.heap_pair (Kd.heap_int .i64) (Kd.heap_pair (Kd.heap_int .i64) (Kd.heap_pair (Kd.heap_int .i64) (Kd.heap_int .i64))))
theorem k53_open {w:World} {x:S53} {cs:List Value} (h:k53.K w x cs):cs= [V I x.f0,V I x.f1,V I x.f2,V I x.f3]:=by
 obtain⟨_,_,rfl,rfl,⟨_,_,rfl,rfl,⟨_,_,rfl,rfl,rfl⟩⟩⟩:=h
 exact rfl
theorem k53_openM {w:World} {base:Nat} {ok:Nat→Prop} {x:S53} {cs:List Value} (h:k53.M w base ok x cs):cs= [V I x.f0,V I x.f1,V I x.f2,V I x.f3]:=by
 obtain⟨_,_,rfl,rfl,⟨_,_,rfl,rfl,⟨_,_,rfl,rfl,rfl⟩⟩⟩:=h
 exact rfl
theorem k53_mk (w:World) (x:S53):k53.K w x [V I x.f0,V I x.f1,V I x.f2,V I x.f3]:=⟨[V I x.f0],[V I x.f1,V I x.f2,V I x.f3],rfl,rfl,⟨[V I x.f1],[V I x.f2,V I x.f3],rfl,rfl,⟨[V I x.f2],[V I x.f3],rfl,rfl,rfl⟩⟩⟩
theorem k53_mkM (w:World) (base:Nat) (ok:Nat→Prop) (x:S53):k53.M w base ok x [V I x.f0,V I x.f1,V I x.f2,V I x.f3]:=⟨[V I x.f0],[V I x.f1,V I x.f2,V I x.f3],rfl,rfl,⟨[V I x.f1],[V I x.f2,V I x.f3],rfl,rfl,⟨[V I x.f2],[V I x.f3],rfl,rfl,rfl⟩⟩⟩
theorem k53_mkF (W:World) (ok:Nat→Prop) (x:S53):Kd.FK k53 W ok x [V I x.f0,V I x.f1,V I x.f2,V I x.f3]:=fun W2 _=>k53_mk W2 x
def rd_T53 (xs:List S53) (i:Int):S53:=xs.getD i.toNat z53
theorem at_T53 {w:World} {A:Option Addr} {n:Nat} {xs:List S53} (h:Kd.C k53 w A n xs) (i:Int) (h0:0≤i) (h1:i<n):∃ad ,A=some ad∧w.cell? (ad.add (i.toNat * 4))=some (V I (rd_T53 xs i).f0)∧w.cell? ⟨(ad.add (i.toNat * 4)).block,(ad.add (i.toNat * 4)).off+1,none⟩=some (V I (rd_T53 xs i).f1)∧w.cell? ⟨(ad.add (i.toNat * 4)).block,(ad.add (i.toNat * 4)).off+2,none⟩=some (V I (rd_T53 xs i).f2)∧w.cell? ⟨(ad.add (i.toNat * 4)).block,(ad.add (i.toNat * 4)).off+3,none⟩=some (V I (rd_T53 xs i).f3):=by
 obtain⟨ad,c,e,_,hK,hc0⟩:=Kd.C_get h z53 i h0 h1
 have hc:∀j u,c[j]? =some u→w.cell? (ad.add (i.toNat * 4+j))=some u:=hc0
 obtain rfl:=k53_open hK
 exact⟨ad,e,hc 0 _ rfl,by rw[←add_field _ _ 1 (by omega)];exact hc 1 _ rfl,by rw[←add_field _ _ 2 (by omega)];exact hc 2 _ rfl,by rw[←add_field _ _ 3 (by omega)];exact hc 3 _ rfl⟩
structure S50 where
 f0:Int
 f1:Int
 f2:Int
 f3:Int
def z50:S50:=⟨(0:Int),(0:Int),(0:Int),(0:Int)⟩
def k50:Kd S50:=Kd.iso (Kd.pair (Kd.int .i64) (Kd.pair (Kd.int .i64) (Kd.pair (Kd.int .i64) (Kd.int .i64)))) (fun x:S50=>(x.f0,x.f1,x.f2,x.f3))
theorem k50_heap:Kd.Heap k50:=Kd.heap_iso _ (Kd.heap_pair (Kd.heap_int .i64) (Kd.heap_pair (Kd.heap_int .i64) (Kd.heap_pair (Kd.heap_int .i64) (Kd.heap_int .i64))))
theorem k50_open {w:World} {x:S50} {cs:List Value} (h:k50.K w x cs):cs= [V I x.f0,V I x.f1,V I x.f2,V I x.f3]:=by
 obtain⟨_,_,rfl,rfl,⟨_,_,rfl,rfl,⟨_,_,rfl,rfl,rfl⟩⟩⟩:=h
 exact rfl
theorem k50_openM {w:World} {base:Nat} {ok:Nat→Prop} {x:S50} {cs:List Value} (h:k50.M w base ok x cs):cs= [V I x.f0,V I x.f1,V I x.f2,V I x.f3]:=by
 obtain⟨_,_,rfl,rfl,⟨_,_,rfl,rfl,⟨_,_,rfl,rfl,rfl⟩⟩⟩:=h
 exact rfl
theorem k50_mk (w:World) (x:S50):k50.K w x [V I x.f0,V I x.f1,V I x.f2,V I x.f3]:=⟨[V I x.f0],[V I x.f1,V I x.f2,V I x.f3],rfl,rfl,⟨[V I x.f1],[V I x.f2,V I x.f3],rfl,rfl,⟨[V I x.f2],[V I x.f3],rfl,rfl,rfl⟩⟩⟩
theorem k50_mkM (w:World) (base:Nat) (ok:Nat→Prop) (x:S50):k50.M w base ok x [V I x.f0,V I x.f1,V I x.f2,V I x.f3]:=⟨[V I x.f0],[V I x.f1,V I x.f2,V I x.f3],rfl,rfl,⟨[V I x.f1],[V I x.f2,V I x.f3],rfl,rfl,⟨[V I x.f2],[V I x.f3],rfl,rfl,rfl⟩⟩⟩
theorem k50_mkF (W:World) (ok:Nat→Prop) (x:S50):Kd.FK k50 W ok x [V I x.f0,V I x.f1,V I x.f2,V I x.f3]:=fun W2 _=>k50_mk W2 x
def rd_T50 (xs:List S50) (i:Int):S50:=xs.getD i.toNat z50
theorem at_T50 {w:World} {A:Option Addr} {n:Nat} {xs:List S50} (h:Kd.C k50 w A n xs) (i:Int) (h0:0≤i) (h1:i<n):∃ad ,A=some ad∧w.cell? (ad.add (i.toNat * 4))=some (V I (rd_T50 xs i).f0)∧w.cell? ⟨(ad.add (i.toNat * 4)).block,(ad.add (i.toNat * 4)).off+1,none⟩=some (V I (rd_T50 xs i).f1)∧w.cell? ⟨(ad.add (i.toNat * 4)).block,(ad.add (i.toNat * 4)).off+2,none⟩=some (V I (rd_T50 xs i).f2)∧w.cell? ⟨(ad.add (i.toNat * 4)).block,(ad.add (i.toNat * 4)).off+3,none⟩=some (V I (rd_T50 xs i).f3):=by
 obtain⟨ad,c,e,_,hK,hc0⟩:=Kd.C_get h z50 i h0 h1
 have hc:∀j u,c[j]? =some u→w.cell? (ad.add (i.toNat * 4+j))=some u:=hc0
 obtain rfl:=k50_open hK
 exact⟨ad,e,hc 0 _ rfl,by rw[←add_field _ _ 1 (by omega)];exact hc 1 _ rfl,by rw[←add_field _ _ 2 (by omega)];exact hc 2 _ rfl,by rw[←add_field _ _ 3 (by omega)];exact hc 3 _ rfl⟩
end Go.Proofs.Ytblceimapaenlaa.PFnExactRunActs
