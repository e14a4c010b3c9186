/- Calls do what plain Lean functions say (FnPrinted). No condition. -/
import Derived.Test.YtaceidiookkocaaProg
import Derived.Below
import Derived.Deep.Draws
import Derived.Deep.AppendLies
import Derived.Maps.AppendAt
import Derived.OwnWalk
import Derived.Laws.BytesArg
import Derived.Laws.MakeOwn
import Derived.Laws.OwnMore
import Derived.Deep.OwnRows
import Derived.Tactics
import Derived.Lib.ConvBytes
import Derived.Laws.Slices
import Derived.WalkKit
import Derived.KernelRfl
import Derived.RowKit3
import Derived.Deep.LoopGhost
import Derived.Deep.QuietTactic
import Derived.BigQuiet
import Derived.WideLaws
import Derived.Deep.DeepCutAuto
import Derived.Deep.CutBlock
import Derived.Deep.RegionHeld3
import Derived.Laws.Rows
import Derived.Lib.AppendStr
import Derived.ArgAppend
import Derived.Laws.IdiomCopy
import Derived.OrdersHeld
import Derived.Laws.BitsLemmas
import Derived.RowKit
import Derived.Test.YtaceidiookkocaaWWords
import Derived.Test.YtaceidiookkocaaWLast
import Derived.Test.YtaceidiookkocaaWTab
import Derived.Test.YtaceidiookkocaaWFour
import Derived.Test.YtaceidiookkocaaWQPut
import Derived.Test.YtaceidiookkocaaWApart
import Derived.Test.YtaceidiookkocaaWArr
import Derived.Test.YtaceidiookkocaaWZeros
import Derived.Test.YtaceidiookkocaaWFoot
import Derived.Test.YtaceidiookkocaaWKept
import Derived.Test.YtaceidiookkocaaWShare
import Derived.Test.YtaceidiookkocaaWN
import Derived.Test.YtaceidiookkocaaWFootNe
import Derived.Test.YtaceidiookkocaaWAt
import Derived.Test.YtaceidiookkocaaWEqStruct
import Derived.Test.YtaceidiookkocaaWRepsOne
import Derived.Test.YtaceidiookkocaaWInv
import Derived.Test.YtaceidiookkocaaWInvWords
import Derived.Test.YtaceidiookkocaaWGuard
import Derived.Test.YtaceidiookkocaaWNEv
import Derived.Test.YtaceidiookkocaaWMore
import Derived.Test.YtaceidiookkocaaFix
import Derived.Test.YtaceidiookkocaaSq
import Derived.Test.YtaceidiookkocaaSq2
import Derived.Test.YtaceidiookkocaaExt
import Derived.Test.YtaceidiookkocaaDel
import Derived.Test.YtaceidiookkocaaRep
import Derived.Test.YtaceidiookkocaaHand
import Derived.Test.YtaceidiookkocaaPt
namespace Go.Proofs.Ytaceidiookkocaa.PFnPrinted
open Go.RowKit Go.Proofs.YtaceidiookkocaaW.PrintWords Go.Proofs.YtaceidiookkocaaW.PrintLast Go.Proofs.YtaceidiookkocaaW.PrintMore
open Go.Value renaming int→V,slice→L
open Go.IntKind renaming i64→I
attribute [local go_sem] max2_int min2_int max_two min_two max_three min_three max_four min_four
attribute [local go_sem] Fix.isSome_setCell
set_option linter.unusedVariables false
set_option linter.unusedSimpArgs false
def errW:Option Int→Value
 |none=>.nilIface
 |some c=>.iface 0 (V I c)
theorem errW_none:errW none=.nilIface:=rfl
theorem errW_some (c:Int):errW (some c)=.iface 0 (V I c):=rfl
theorem info3:(Try.prog.info? 3).map (fun i=>(i.zero,i.size,i.bytes))=some (some (V I 0),1,8):=by kernel_rfl
theorem info39:(Try.prog.info? 39).map (fun i=>(i.zero,i.size,i.bytes))=some (some (L none 0 0),1,24):=by kernel_rfl
theorem info77:(Try.prog.info? 77).map (fun i=>(i.zero,i.size,i.bytes))=some (some (.agg #[(L none 0 0),(V I 0),(V I 0),(V I 0),(V I 0),(V I 0)]),6,64):=by kernel_rfl
theorem info107:(Try.prog.info? 107).map (fun i=>(i.zero,i.size,i.bytes))=some (some (.agg #[(.bool false),(L none 0 0)]),2,32):=by kernel_rfl
theorem info114:(Try.prog.info? 114).map (fun i=>(i.zero,i.size,i.bytes))=some (some (.agg #[(V I 0),(V I 0)]),2,16):=by kernel_rfl
theorem info126:(Try.prog.info? 126).map (fun i=>(i.zero,i.size,i.bytes))=some (some (.agg #[(V I 0),(V I 0)]),2,16):=by kernel_rfl
theorem info136:(Try.prog.info? 136).map (fun i=>(i.zero,i.size,i.bytes))=some (some (.agg #[(V I 0),(V I 0)]),2,16):=by kernel_rfl
structure S126 where
 f0:Int
 f1:Int
def z126:S126:=⟨(0:Int),(0:Int)⟩
def k126:Kd S126:=Kd.iso (Kd.pair (Kd.int .i64) (Kd.int .i64)) (fun x:S126=>(x.f0,x.f1))
theorem k126_open {w:World} {x:S126} {cs:List Value} (h:k126.K w x cs):cs= [V I x.f0,V I x.f1]:=by
 obtain⟨_,_,rfl,rfl,rfl⟩:=h
 exact rfl
theorem k126_openM {w:World} {base:Nat} {ok:Nat→Prop} {x:S126} {cs:List Value} (h:k126.M w base ok x cs):cs= [V I x.f0,V I x.f1]:=by
 obtain⟨_,_,rfl,rfl,rfl⟩:=h
 exact rfl
theorem k126_mk (w:World) (x:S126):k126.K w x [V I x.f0,V I x.f1]:=⟨[V I x.f0],[V I x.f1],rfl,rfl,rfl⟩
theorem k126_mkM (w:World) (base:Nat) (ok:Nat→Prop) (x:S126):k126.M w base ok x [V I x.f0,V I x.f1]:=⟨[V I x.f0],[V I x.f1],rfl,rfl,rfl⟩
theorem k126_mkF (W:World) (ok:Nat→Prop) (x:S126):Kd.FK k126 W ok x [V I x.f0,V I x.f1]:=fun W2 _=>k126_mk W2 x
def rd_T126 (xs:List S126) (i:Int):S126:=xs.getD i.toNat z126
theorem at_T126 {w:World} {A:Option Addr} {n:Nat} {xs:List S126} (h:Kd.C k126 w A n xs) (i:Int) (h0:0≤i) (h1:i<n):∃ad ,A=some ad∧w.cell? (ad.add (i.toNat * 2))=some (V I (rd_T126 xs i).f0)∧w.cell? ⟨(ad.add (i.toNat * 2)).block,(ad.add (i.toNat * 2)).off+1,none⟩=some (V I (rd_T126 xs i).f1):=by
 obtain⟨ad,c,e,_,hK,hc0⟩:=Kd.C_get h z126 i h0 h1
 have hc:∀j u,c[j]? =some u→w.cell? (ad.add (i.toNat * 2+j))=some u:=hc0
 obtain rfl:=k126_open hK
 exact⟨ad,e,hc 0 _ rfl,by rw[←add_field _ _ 1 (by omega)];exact hc 1 _ rfl⟩
def rd_L3 (xs:List (List S126)) (i:Int):(List S126):=xs.getD i.toNat ([]:List S126)
theorem at_L3 {w:World} {A:Option Addr} {n:Nat} {xs:List (List S126)} (h:Kd.C (Kd.slice 126 k126) w A n xs) (i:Int) (h0:0≤i) (h1:i<n):∃ad A0 c0,A=some ad∧w.cell? (ad.add i.toNat)=some (L A0 (rd_L3 xs i).length c0)∧(rd_L3 xs i).length≤c0∧k126.C w A0 (rd_L3 xs i).length (rd_L3 xs i):=by
 obtain⟨ad,c,e,_,hK,hc0⟩:=Kd.C_get h ([]:List S126) i h0 h1
 have hc:∀j u,c[j]? =some u→w.cell? (ad.add (i.toNat * 1+j))=some u:=hc0
 obtain⟨A0,c0,rfl,l0,g0⟩:=hK
 exact⟨ad,A0,c0,e,by have hq:=hc 0 _ rfl;rwa [Nat.mul_one,Nat.add_zero]at hq,l0,g0⟩
structure S75 where
 f0:Int
 f1:Int
 f2:Int
 f3:Int
def z75:S75:=⟨(0:Int),(0:Int),(0:Int),(0:Int)⟩
def k75:Kd S75:=Kd.iso (Kd.pair (Kd.int .i64) (Kd.pair (Kd.int .i64) (Kd.pair (Kd.int .i64) (Kd.int .i64)))) (fun x:S75=>(x.f0,x.f1,x.f2,x.f3))
theorem k75_open {w:World} {x:S75} {cs:List Value} (h:k75.K w x cs):cs= [V I x.f0,V I x.f1,V I x.f2,V I x.f3]:=by
 obtain⟨_,_,rfl,rfl,⟨_,_,rfl,rfl,⟨_,_,rfl,rfl,rfl⟩⟩⟩:=h
 exact rfl
theorem k75_openM {w:World} {base:Nat} {ok:Nat→Prop} {x:S75} {cs:List Value} (h:k75.M w base ok x cs):cs= [V I x.f0,V I x.f1,V I x.f2,V I x.f3]:=by
 obtain⟨_,_,rfl,rfl,⟨_,_,rfl,rfl,⟨_,_,rfl,rfl,rfl⟩⟩⟩:=h
 exact rfl
theorem k75_mk (w:World) (x:S75):k75.K w x [V I x.f0,V I x.f1,V I x.f2,V I x.f3]:=⟨[V I x.f0],[V I x.f1,V I x.f2,V I x.f3],rfl,rfl,⟨[V I x.f1],[V I x.f2,V I x.f3],rfl,rfl,⟨[V I x.f2],[V I x.f3],rfl,rfl,rfl⟩⟩⟩
theorem k75_mkM (w:World) (base:Nat) (ok:Nat→Prop) (x:S75):k75.M w base ok x [V I x.f0,V I x.f1,V I x.f2,V I x.f3]:=⟨[V I x.f0],[V I x.f1,V I x.f2,V I x.f3],rfl,rfl,⟨[V I x.f1],[V I x.f2,V I x.f3],rfl,rfl,⟨[V I x.f2],[V I x.f3],rfl,rfl,rfl⟩⟩⟩
theorem k75_mkF (W:World) (ok:Nat→Prop) (x:S75):Kd.FK k75 W ok x [V I x.f0,V I x.f1,V I x.f2,V I x.f3]:=fun W2 _=>k75_mk W2 x
def rd_T75 (xs:List S75) (i:Int):S75:=xs.getD i.toNat z75
theorem at_T75 {w:World} {A:Option Addr} {n:Nat} {xs:List S75} (h:Kd.C k75 w A n xs) (i:Int) (h0:0≤i) (h1:i<n):∃ad ,A=some ad∧w.cell? (ad.add (i.toNat * 4))=some (V I (rd_T75 xs i).f0)∧w.cell? ⟨(ad.add (i.toNat * 4)).block,(ad.add (i.toNat * 4)).off+1,none⟩=some (V I (rd_T75 xs i).f1)∧w.cell? ⟨(ad.add (i.toNat * 4)).block,(ad.add (i.toNat * 4)).off+2,none⟩=some (V I (rd_T75 xs i).f2)∧w.cell? ⟨(ad.add (i.toNat * 4)).block,(ad.add (i.toNat * 4)).off+3,none⟩=some (V I (rd_T75 xs i).f3):=by
 obtain⟨ad,c,e,_,hK,hc0⟩:=Kd.C_get h z75 i h0 h1
 have hc:∀j u,c[j]? =some u→w.cell? (ad.add (i.toNat * 4+j))=some u:=hc0
 obtain rfl:=k75_open hK
 exact⟨ad,e,hc 0 _ rfl,by rw[←add_field _ _ 1 (by omega)];exact hc 1 _ rfl,by rw[←add_field _ _ 2 (by omega)];exact hc 2 _ rfl,by rw[←add_field _ _ 3 (by omega)];exact hc 3 _ rfl⟩
structure S77 where
 f0:(List S126)
 f1:Int
 f2:S75
def z77:S77:=⟨([]:List S126),(0:Int),z75⟩
def k77:Kd S77:=Kd.iso (Kd.pair (Kd.slice 126 k126) (Kd.pair (Kd.int .i64) k75)) (fun x:S77=>(x.f0,x.f1,x.f2))
theorem k77_open {w:World} {x:S77} {cs:List Value} (h:k77.K w x cs):∃A0 c0,cs= [L A0 x.f0.length c0,V I x.f1,V I x.f2.f0,V I x.f2.f1,V I x.f2.f2,V I x.f2.f3]∧x.f0.length≤c0∧k126.C w A0 x.f0.length x.f0:=by
 obtain⟨_,_,rfl,⟨A0,c0,rfl,l0,g0⟩,⟨_,_,rfl,rfl,s2⟩⟩:=h
 obtain rfl:=k75_open s2
 exact⟨A0,c0,rfl,l0,g0⟩
theorem k77_openM {w:World} {base:Nat} {ok:Nat→Prop} {x:S77} {cs:List Value} (h:k77.M w base ok x cs):∃v0,cs= [v0,V I x.f1,V I x.f2.f0,V I x.f2.f1,V I x.f2.f2,V I x.f2.f3]∧k126.R 126 w base ok v0 x.f0:=by
 obtain⟨_,_,rfl,⟨v0,rfl,g0⟩,⟨_,_,rfl,rfl,s2⟩⟩:=h
 obtain rfl:=k75_openM s2
 exact⟨v0,rfl,g0⟩
theorem k77_mk (w:World) (x:S77) {A0:Option Addr} {c0:Nat} (l0:x.f0.length≤c0) (g0:k126.C w A0 x.f0.length x.f0):k77.K w x [L A0 x.f0.length c0,V I x.f1,V I x.f2.f0,V I x.f2.f1,V I x.f2.f2,V I x.f2.f3]:=⟨[L A0 x.f0.length c0],[V I x.f1,V I x.f2.f0,V I x.f2.f1,V I x.f2.f2,V I x.f2.f3],rfl,⟨A0,c0,rfl,l0,g0⟩,⟨[V I x.f1],[V I x.f2.f0,V I x.f2.f1,V I x.f2.f2,V I x.f2.f3],rfl,rfl,(k75_mk w x.f2 )⟩⟩
theorem k77_mkM (w:World) (base:Nat) (ok:Nat→Prop) (x:S77) {v0:Value} (g0:k126.R 126 w base ok v0 x.f0):k77.M w base ok x [v0,V I x.f1,V I x.f2.f0,V I x.f2.f1,V I x.f2.f2,V I x.f2.f3]:=⟨[v0],[V I x.f1,V I x.f2.f0,V I x.f2.f1,V I x.f2.f2,V I x.f2.f3],rfl,⟨v0,rfl,g0⟩,⟨[V I x.f1],[V I x.f2.f0,V I x.f2.f1,V I x.f2.f2,V I x.f2.f3],rfl,rfl,(k75_mkM w base ok x.f2 )⟩⟩
theorem k77_openF {W:World} {ok:Nat→Prop} {x:S77} {cs:List Value} (h:Kd.FK k77 W ok x cs):∃A0 c0,cs= [L A0 x.f0.length c0,V I x.f1,V I x.f2.f0,V I x.f2.f1,V I x.f2.f2,V I x.f2.f3]∧x.f0.length≤c0∧Kd.F k126 W ok A0 x.f0.length x.f0:=by
 obtain⟨A0,c0,rfl,l0,_⟩:=k77_open (Kd.FK_now h)
 exact⟨A0,c0,rfl,l0,(fun W' hW=>by obtain⟨A0_,c0_,he,l0_,g0_⟩:=k77_open (h W' hW);injection (Option.some.inj (show some (Value.slice A0 x.f0.length c0)=some (Value.slice A0_ x.f0.length c0_) from congrArg (fun l=>l[0]?) he)) with ha_ _ _;rw[ha_];exact g0_)⟩
theorem k77_mkF (W:World) (ok:Nat→Prop) (x:S77) {A0:Option Addr} {c0:Nat} (l0:x.f0.length≤c0) (g0:Kd.F k126 W ok A0 x.f0.length x.f0):Kd.FK k77 W ok x [L A0 x.f0.length c0,V I x.f1,V I x.f2.f0,V I x.f2.f1,V I x.f2.f2,V I x.f2.f3]:=fun W2 hW=>k77_mk W2 x l0 (g0 W2 hW)
def rd_T77 (xs:List S77) (i:Int):S77:=xs.getD i.toNat z77
theorem at_T77 {w:World} {A:Option Addr} {n:Nat} {xs:List S77} (h:Kd.C k77 w A n xs) (i:Int) (h0:0≤i) (h1:i<n):∃ad A0 c0,A=some ad∧w.cell? (ad.add (i.toNat * 6))=some (L A0 (rd_T77 xs i).f0.length c0)∧w.cell? ⟨(ad.add (i.toNat * 6)).block,(ad.add (i.toNat * 6)).off+1,none⟩=some (V I (rd_T77 xs i).f1)∧w.cell? ⟨(ad.add (i.toNat * 6)).block,(ad.add (i.toNat * 6)).off+2,none⟩=some (V I (rd_T77 xs i).f2.f0)∧w.cell? ⟨(ad.add (i.toNat * 6)).block,(ad.add (i.toNat * 6)).off+3,none⟩=some (V I (rd_T77 xs i).f2.f1)∧w.cell? ⟨(ad.add (i.toNat * 6)).block,(ad.add (i.toNat * 6)).off+4,none⟩=some (V I (rd_T77 xs i).f2.f2)∧w.cell? ⟨(ad.add (i.toNat * 6)).block,(ad.add (i.toNat * 6)).off+5,none⟩=some (V I (rd_T77 xs i).f2.f3)∧(rd_T77 xs i).f0.length≤c0∧k126.C w A0 (rd_T77 xs i).f0.length (rd_T77 xs i).f0:=by
 obtain⟨ad,c,e,_,hK,hc0⟩:=Kd.C_get h z77 i h0 h1
 have hc:∀j u,c[j]? =some u→w.cell? (ad.add (i.toNat * 6+j))=some u:=hc0
 obtain⟨A0,c0,rfl,l0,g0⟩:=k77_open hK
 exact⟨ad,A0,c0,e,hc 0 _ rfl,by rw[←add_field _ _ 1 (by omega)];exact hc 1 _ rfl,by rw[←add_field _ _ 2 (by omega)];exact hc 2 _ rfl,by rw[←add_field _ _ 3 (by omega)];exact hc 3 _ rfl,by rw[←add_field _ _ 4 (by omega)];exact hc 4 _ rfl,by rw[←add_field _ _ 5 (by omega)];exact hc 5 _ rfl,l0,g0⟩
def rd_L6 (xs:List (List Int)) (i:Int):(List Int):=xs.getD i.toNat ([]:List Int)
theorem at_L6 {w:World} {A:Option Addr} {n:Nat} {xs:List (List Int)} (h:Kd.C (Kd.slice 3 (Kd.int .i64)) w A n xs) (i:Int) (h0:0≤i) (h1:i<n):∃ad A0 c0,A=some ad∧w.cell? (ad.add i.toNat)=some (L A0 (rd_L6 xs i).length c0)∧(rd_L6 xs i).length≤c0∧(Kd.int .i64).C w A0 (rd_L6 xs i).length (rd_L6 xs i):=by
 obtain⟨ad,c,e,_,hK,hc0⟩:=Kd.C_get h ([]:List Int) i h0 h1
 have hc:∀j u,c[j]? =some u→w.cell? (ad.add (i.toNat * 1+j))=some u:=hc0
 obtain⟨A0,c0,rfl,l0,g0⟩:=hK
 exact⟨ad,A0,c0,e,by have hq:=hc 0 _ rfl;rwa [Nat.mul_one,Nat.add_zero]at hq,l0,g0⟩
structure S114 where
 f0:Int
 f1:Int
def z114:S114:=⟨(0:Int),(0:Int)⟩
def k114:Kd S114:=Kd.iso (Kd.pair (Kd.int .i64) (Kd.int .i64)) (fun x:S114=>(x.f0,x.f1))
theorem k114_open {w:World} {x:S114} {cs:List Value} (h:k114.K w x cs):cs= [V I x.f0,V I x.f1]:=by
 obtain⟨_,_,rfl,rfl,rfl⟩:=h
 exact rfl
theorem k114_openM {w:World} {base:Nat} {ok:Nat→Prop} {x:S114} {cs:List Value} (h:k114.M w base ok x cs):cs= [V I x.f0,V I x.f1]:=by
 obtain⟨_,_,rfl,rfl,rfl⟩:=h
 exact rfl
theorem k114_mk (w:World) (x:S114):k114.K w x [V I x.f0,V I x.f1]:=⟨[V I x.f0],[V I x.f1],rfl,rfl,rfl⟩
theorem k114_mkM (w:World) (base:Nat) (ok:Nat→Prop) (x:S114):k114.M w base ok x [V I x.f0,V I x.f1]:=⟨[V I x.f0],[V I x.f1],rfl,rfl,rfl⟩
theorem k114_mkF (W:World) (ok:Nat→Prop) (x:S114):Kd.FK k114 W ok x [V I x.f0,V I x.f1]:=fun W2 _=>k114_mk W2 x
def rd_T114 (xs:List S114) (i:Int):S114:=xs.getD i.toNat z114
theorem at_T114 {w:World} {A:Option Addr} {n:Nat} {xs:List S114} (h:Kd.C k114 w A n xs) (i:Int) (h0:0≤i) (h1:i<n):∃ad ,A=some ad∧w.cell? (ad.add (i.toNat * 2))=some (V I (rd_T114 xs i).f0)∧w.cell? ⟨(ad.add (i.toNat * 2)).block,(ad.add (i.toNat * 2)).off+1,none⟩=some (V I (rd_T114 xs i).f1):=by
 obtain⟨ad,c,e,_,hK,hc0⟩:=Kd.C_get h z114 i h0 h1
 have hc:∀j u,c[j]? =some u→w.cell? (ad.add (i.toNat * 2+j))=some u:=hc0
 obtain rfl:=k114_open hK
 exact⟨ad,e,hc 0 _ rfl,by rw[←add_field _ _ 1 (by omega)];exact hc 1 _ rfl⟩
structure S136 where
 f0:Int
 f1:Int
def z136:S136:=⟨(0:Int),(0:Int)⟩
def k136:Kd S136:=Kd.iso (Kd.pair (Kd.int .i64) (Kd.int .i64)) (fun x:S136=>(x.f0,x.f1))
theorem k136_open {w:World} {x:S136} {cs:List Value} (h:k136.K w x cs):cs= [V I x.f0,V I x.f1]:=by
 obtain⟨_,_,rfl,rfl,rfl⟩:=h
 exact rfl
theorem k136_openM {w:World} {base:Nat} {ok:Nat→Prop} {x:S136} {cs:List Value} (h:k136.M w base ok x cs):cs= [V I x.f0,V I x.f1]:=by
 obtain⟨_,_,rfl,rfl,rfl⟩:=h
 exact rfl
theorem k136_mk (w:World) (x:S136):k136.K w x [V I x.f0,V I x.f1]:=⟨[V I x.f0],[V I x.f1],rfl,rfl,rfl⟩
theorem k136_mkM (w:World) (base:Nat) (ok:Nat→Prop) (x:S136):k136.M w base ok x [V I x.f0,V I x.f1]:=⟨[V I x.f0],[V I x.f1],rfl,rfl,rfl⟩
theorem k136_mkF (W:World) (ok:Nat→Prop) (x:S136):Kd.FK k136 W ok x [V I x.f0,V I x.f1]:=fun W2 _=>k136_mk W2 x
def rd_T136 (xs:List S136) (i:Int):S136:=xs.getD i.toNat z136
theorem at_T136 {w:World} {A:Option Addr} {n:Nat} {xs:List S136} (h:Kd.C k136 w A n xs) (i:Int) (h0:0≤i) (h1:i<n):∃ad ,A=some ad∧w.cell? (ad.add (i.toNat * 2))=some (V I (rd_T136 xs i).f0)∧w.cell? ⟨(ad.add (i.toNat * 2)).block,(ad.add (i.toNat * 2)).off+1,none⟩=some (V I (rd_T136 xs i).f1):=by
 obtain⟨ad,c,e,_,hK,hc0⟩:=Kd.C_get h z136 i h0 h1
 have hc:∀j u,c[j]? =some u→w.cell? (ad.add (i.toNat * 2+j))=some u:=hc0
 obtain rfl:=k136_open hK
 exact⟨ad,e,hc 0 _ rfl,by rw[←add_field _ _ 1 (by omega)];exact hc 1 _ rfl⟩
structure S107 where
 f0:Bool
 f1:(List Int)
def z107:S107:=⟨false,([]:List Int)⟩
def k107:Kd S107:=Kd.iso (Kd.pair Kd.bool (Kd.slice 3 (Kd.int .i64))) (fun x:S107=>(x.f0,x.f1))
theorem k107_open {w:World} {x:S107} {cs:List Value} (h:k107.K w x cs):∃A1 c1,cs= [.bool x.f0,L A1 x.f1.length c1]∧x.f1.length≤c1∧(Kd.int .i64).C w A1 x.f1.length x.f1:=by
 obtain⟨_,_,rfl,rfl,⟨A1,c1,rfl,l1,g1⟩⟩:=h
 exact⟨A1,c1,rfl,l1,g1⟩
theorem k107_openM {w:World} {base:Nat} {ok:Nat→Prop} {x:S107} {cs:List Value} (h:k107.M w base ok x cs):∃v1,cs= [.bool x.f0,v1]∧(Kd.int .i64).R 3 w base ok v1 x.f1:=by
 obtain⟨_,_,rfl,rfl,⟨v1,rfl,g1⟩⟩:=h
 exact⟨v1,rfl,g1⟩
theorem k107_mk (w:World) (x:S107) {A1:Option Addr} {c1:Nat} (l1:x.f1.length≤c1) (g1:(Kd.int .i64).C w A1 x.f1.length x.f1):k107.K w x [.bool x.f0,L A1 x.f1.length c1]:=⟨[.bool x.f0],[L A1 x.f1.length c1],rfl,rfl,⟨A1,c1,rfl,l1,g1⟩⟩
theorem k107_mkM (w:World) (base:Nat) (ok:Nat→Prop) (x:S107) {v1:Value} (g1:(Kd.int .i64).R 3 w base ok v1 x.f1):k107.M w base ok x [.bool x.f0,v1]:=⟨[.bool x.f0],[v1],rfl,rfl,⟨v1,rfl,g1⟩⟩
theorem k107_openF {W:World} {ok:Nat→Prop} {x:S107} {cs:List Value} (h:Kd.FK k107 W ok x cs):∃A1 c1,cs= [.bool x.f0,L A1 x.f1.length c1]∧x.f1.length≤c1∧Kd.F (Kd.int .i64) W ok A1 x.f1.length x.f1:=by
 obtain⟨A1,c1,rfl,l1,_⟩:=k107_open (Kd.FK_now h)
 exact⟨A1,c1,rfl,l1,(fun W' hW=>by obtain⟨A1_,c1_,he,l1_,g1_⟩:=k107_open (h W' hW);injection (Option.some.inj (show some (Value.slice A1 x.f1.length c1)=some (Value.slice A1_ x.f1.length c1_) from congrArg (fun l=>l[1]?) he)) with ha_ _ _;rw[ha_];exact g1_)⟩
theorem k107_mkF (W:World) (ok:Nat→Prop) (x:S107) {A1:Option Addr} {c1:Nat} (l1:x.f1.length≤c1) (g1:Kd.F (Kd.int .i64) W ok A1 x.f1.length x.f1):Kd.FK k107 W ok x [.bool x.f0,L A1 x.f1.length c1]:=fun W2 hW=>k107_mk W2 x l1 (g1 W2 hW)
def rd_T107 (xs:List S107) (i:Int):S107:=xs.getD i.toNat z107
theorem at_T107 {w:World} {A:Option Addr} {n:Nat} {xs:List S107} (h:Kd.C k107 w A n xs) (i:Int) (h0:0≤i) (h1:i<n):∃ad A1 c1,A=some ad∧w.cell? (ad.add (i.toNat * 2))=some (.bool (rd_T107 xs i).f0)∧w.cell? ⟨(ad.add (i.toNat * 2)).block,(ad.add (i.toNat * 2)).off+1,none⟩=some (L A1 (rd_T107 xs i).f1.length c1)∧(rd_T107 xs i).f1.length≤c1∧(Kd.int .i64).C w A1 (rd_T107 xs i).f1.length (rd_T107 xs i).f1:=by
 obtain⟨ad,c,e,_,hK,hc0⟩:=Kd.C_get h z107 i h0 h1
 have hc:∀j u,c[j]? =some u→w.cell? (ad.add (i.toNat * 2+j))=some u:=hc0
 obtain⟨A1,c1,rfl,l1,g1⟩:=k107_open hK
 exact⟨ad,A1,c1,e,hc 0 _ rfl,by rw[←add_field _ _ 1 (by omega)];exact hc 1 _ rfl,l1,g1⟩
end Go.Proofs.Ytaceidiookkocaa.PFnPrinted
