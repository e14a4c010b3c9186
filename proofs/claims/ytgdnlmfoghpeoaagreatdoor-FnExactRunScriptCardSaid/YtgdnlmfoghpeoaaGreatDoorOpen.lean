/- What a parameter's value reads as: for a type told by a kind of the print's words, a value that can be read as data is of that kind. Proved for whole numbers, bools, strings, slices and structs; on no condition but the type's own shape. -/
import Derived.Test.YtgdnlmfoghpeoaaGreatDoorWWords
import Derived.Deep.Slices
import Derived.Deep.Fields
import Derived.ChangeSame
import Derived.ChangeOld
import Derived.Carry
namespace Go.Proofs.YtgdnlmfoghpeoaaGreatDoor.OpenKit
open Go.ChangeShapes Go.WideShapes Go.RowKit Go.Deep Go.Proofs.YtgdnlmfoghpeoaaGreatDoorW.PrintWords
def Opens {α:Type} (P:Program) (t:TypeId) (d:Kd α) (g:α→Prop):Prop:=
 ∀(H:Type) (enc:TypeId×Value→H) (W:World) (fuel:Nat) (cs:List Value) (x:DataW H×List MemPlace),DataW.trod enc P W 0 (fun _=>true) true fuel t cs=some x→ ∃a,d.K W a cs∧g a
theorem opens_string {P:Program} {t:TypeId} (ht:P.underlying t=some .string):Opens P t Kd.string (fun s=>s.size≤maxLen):=by
 intro H enc W fuel cs x h
 obtain⟨s,hc,_,hw⟩:=DataW.trod_string ht h
 exact⟨s,hc,hw⟩
def OpensFs {α:Type} (P:Program) (l:List Field) (off:Nat) (d:Kd α) (g:α→Prop):Prop:=
 ∀(H:Type) (enc:TypeId×Value→H) (W:World) (fuel:Nat) (cs:List Value),cs.length=off+d.sz→(∀(f:Field),f ∈ l→ ∃x,DataW.trod enc P W 0 (fun _=>true) true fuel f.type ((cs.drop f.offset).take (P.cellsOf f.type))=some x)→ ∃a,d.K W a (cs.drop off)∧g a
theorem string_of {P:Program} {w:World} {r:Reach} {b:Nat} {t:TypeId} {v u:Value} (ht:P.underlying t=some .string) (hv:Value.okWide P w r b t v) (hL:v.cells.toList= [u]):v=u:=by
 obtain⟨n,rfl⟩:=okWide_string ht hv
 simpa[Value.cells]using hL
theorem trod_blocks {H:Type} {enc:TypeId×Value→H} {P:Program} {W:World} {t:TypeId} {v:Value} {d:DataW H} {ps:List MemPlace} (h:DataW.Trod enc P W 0 (fun _=>true) true t v d ps):∀x ∈ ps,x.block<W.heap.size:=by
 obtain⟨m,hm⟩:=h
 exact DataW.trod_lt m _ _ _ hm
end Go.Proofs.YtgdnlmfoghpeoaaGreatDoor.OpenKit
