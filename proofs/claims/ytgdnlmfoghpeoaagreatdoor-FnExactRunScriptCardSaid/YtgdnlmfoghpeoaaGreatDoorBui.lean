/- strings.Builder by the shelf's contracts, and that a builder stays one while all that came ahead stands. No condition. -/
import Derived.Shelf.Strings.BuilderF
import Derived.Shelf.Lay
import Derived.Ground.NamesProg
import Derived.Test.YtgdnlmfoghpeoaaGreatDoorProg
import Derived.Below
import Derived.Test.YtgdnlmfoghpeoaaGreatDoorWWords
namespace Go.Proofs
open Go.Shelf Go.RowKit Go.Proofs.YtgdnlmfoghpeoaaGreatDoorW.PrintWords
shelf_lay Lays.n169 Nm 169 at Tryz as Tryz.lays169
theorem YtgdnlmfoghpeoaaGreatDoor.Bui.x169:Builder.Extra Tryz.prog Tryz.lays169_ren where
 sizeBuilder:=by kernel_rfl
 liesBuilder:=by kernel_rfl
 t5:=Tryz.underlying5
 a5:=Tryz.isAgg5
 z5:=Tryz.sizeOf5
 v5:=Tryz.zeroValue5
 infoByte:=by kernel_rfl
 cellsByte:=by kernel_rfl
 sizeByte:=by kernel_rfl
 neB5:=by decide
namespace YtgdnlmfoghpeoaaGreatDoor.Bui
theorem at_below {T e:TypeId} {B b:Nat} {p:Value} {bs:List Value} {w w':World} (h:Lib.BuilderAtF T e B b p bs w) (hb:Below w.heap.size w w'):Lib.BuilderAtF T e B b p bs w':=by
 have hlt:=h.lt
 obtain⟨hB,v,hbk,hown,hne⟩:=h
 exact⟨hB,v,(hb.block b hlt).trans hbk,hown.kept (row:=none) ⟨hb.os,hb.tape,hb.output,hb.size,fun k hk _=>hb.block k hk⟩ (by cases v.ownBlock<;>simp),hne⟩
theorem below {T e:TypeId} {B b:Nat} {bs:List Value} {w w':World} (h:Lib.IsBuilderF T e B b bs w) (hb:Below w.heap.size w w'):Lib.IsBuilderF T e B b bs w':=
 h.elim (fun h=>Or.inl (at_below h hb)) (fun h=>Or.inr (at_below h hb))
def BuF (T e:TypeId) (B b:Nat) (xs:List Int) (w:World):Prop:=∃l:List UInt8,xs=l.map (fun u=>(u.toNat:Int))∧Lib.IsBuilderF T e B b (Lib.byteCells l) w
theorem fresh {T e:TypeId} (w:World):BuF T e w.heap.size w.heap.size [] (w.alloc (.cells #[.pointer none,.slice none 0 0] T)):=⟨[],rfl,Lib.IsBuilderF.of (Lib.fresh_isBuilder T e w)⟩
theorem len {xs:List Int} {l:List UInt8} {n:Nat} (h:xs=l.map (fun u=>(u.toNat:Int))) (hn:xs.length+n<140737488355328):(Lib.byteCells l).length+n≤140737488355328:=by
 subst h
 rw[Lib.byteCells_length]
 simp at hn
 omega
theorem put {T e:TypeId} {B b:Nat} {xs:List Int} {l:List UInt8} {s:ByteArray} {w:World} (h:xs=l.map (fun u=>(u.toNat:Int))) (k:Lib.IsBuilderF T e B b (Lib.byteCells l++Lib.strCells s) w):BuF T e B b (xs++bytesOf s) w:=by
 refine⟨l++s.data.toList,?_,?_⟩
 ·subst h
  simp[bytesOf]
 ·have:Lib.byteCells (l++s.data.toList)=Lib.byteCells l++Lib.strCells s:=by simp[Lib.byteCells,Lib.strCells]
  rw[this]
  exact k
theorem str {xs:List Int} {l:List UInt8} (h:xs=l.map (fun u=>(u.toNat:Int))):strOfNums xs=⟨l.toArray⟩:=by
 subst h
 have e:((fun n:Int=>UInt8.ofNat n.toNat) ∘ fun u:UInt8=>(u.toNat:Int))=id:=by funext u;simp
 unfold strOfNums
 rw[List.map_map,e,List.map_id]
end YtgdnlmfoghpeoaaGreatDoor.Bui
end Go.Proofs
