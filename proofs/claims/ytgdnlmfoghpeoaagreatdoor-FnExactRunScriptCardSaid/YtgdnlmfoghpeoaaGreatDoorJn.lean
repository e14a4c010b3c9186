/- strings.Builder's grow by the shelf's contract. No condition. -/
import Derived.Shelf.Strings.Builder2
import Derived.Lib.Join
import Derived.Maps.OwnSet
import Derived.Test.YtgdnlmfoghpeoaaGreatDoorWMore
import Derived.RowKit
import Derived.Test.YtgdnlmfoghpeoaaGreatDoorBui
namespace Go.Proofs
open Go.Shelf Go.RowKit
shelf_lay Lays.n241 Nm 241 at Tryz as Tryz.lays241
theorem YtgdnlmfoghpeoaaGreatDoor.Bui.x241:Builder.Extra Tryz.prog Tryz.lays241_ren where
 sizeBuilder:=by kernel_rfl
 liesBuilder:=by kernel_rfl
 t5:=Tryz.underlying5
 a5:=Tryz.isAgg5
 z5:=Tryz.sizeOf5
 v5:=Tryz.zeroValue5
 infoByte:=by kernel_rfl
 cellsByte:=by kernel_rfl
 sizeByte:=by kernel_rfl
 neB5:=by decide
namespace YtgdnlmfoghpeoaaGreatDoor.Km
open Go Go.Maps Go.Proofs.YtgdnlmfoghpeoaaGreatDoorW.PrintWords
abbrev E:=List UInt8×Int
def look:List E→List UInt8→Int
 | [],_=>0
 |(y,v)::r,x=>if x=y then v else look r x
def dmap:List E→DataW Unit
 | []=>.map []
 |(y,v)::r=>(dmap r).put (.string y) (.lit (.int .i64 v))
theorem dmap_map:∀F:List E,IsMap (dmap F)
 | []=>isMap_empty
 |_::r=>(dmap_map r).put _ _
theorem keyLit (x:List UInt8):WideAt.IsKeyLit (.string x):=trivial
theorem dmap_at (x:List UInt8):∀F:List E,(dmap F).atKey (.string x) (.lit (.int .i64 0))=.lit (.int .i64 (look F x))
 | []=>rfl
 |(y,v)::r=>by
  by_cases h:x=y
  ·subst h
   rw[dmap,atKey_put_same (dmap_map r) (keyLit x)]
   simp[look]
  ·rw[dmap,atKey_put_other (by simp[h]),dmap_at x r]
   simp[look,h]
theorem keyOf_str {P:Program} {k:TypeId} (hk:P.underlying k=some .string) (s:ByteArray) (hs:s.size≤maxLen):keyOf P k (.string s)=some (.string s.data.toList):=by
 simp[keyOf,hk,mapKey,hs]
section
variable {P:Program} {ops:Array Oper} {o:Oper} {rest:List Oper} {Q:Exit→Act→World→Prop} {a:Act} {w:World}
theorem gate {t:TypeId} {m v:Operand} (s:ByteArray) (_hop:o.op=Op.insert t m (.const (.string s)) v) (h:wpList P ops Q (o::rest) a w):wpList P ops Q (o::rest) a w:=h
theorem put {t:TypeId} {m x v:Operand} (hg:o.guard=none) (hop:o.op=Op.insert t m x v) (ht:P.underlying t=some (.map 9 3)) (h9:P.underlying 9=some .string) (h3:P.underlying 3=some (.int .i64))
  {b n:Nat} {F:List E} (hm:a.eval m=.map (some b)) (hS:w.ownsMap P 9 (plainElem P 3) b n (dmap F)) (hn:n<1000000) (s:ByteArray) (z:Int) (hx:a.eval x=.string s) (hv:a.eval v=.int .i64 z) (hs:s.size≤100) (hz:(Lit.int .i64 z).wf=true)
  (h:∀w',w'.ownsMap P 9 (plainElem P 3) b (n+1) (dmap ((s.data.toList,z)::F))→w.grownBy w' (some b)→wpList P ops Q rest (a.put o.dst undef) w'):wpList P ops Q (o::rest) a w:=by
 refine wpList_plain hg fun K' hK'=> ?_
 obtain⟨w',hrun,r1,r2⟩:=hS.update (string_keyed h9) ht (by unfold maxLen;omega) (keyOf_str h9 s (by unfold maxLen;omega)) (plainElem_int h3 hz)
 unfold Oper.wp
 simp[execOp,hop,hm,hx,hv,hrun,Result.andThen]
 exact hK' _ _ (h w' r1 r2)
theorem lookup {t:TypeId} {m x:Operand} (hg:o.guard=none) (hop:o.op=Op.lookup t m x false) (ht:P.underlying t=some (.map 9 3)) (h9:P.underlying 9=some .string) (h3:P.underlying 3=some (.int .i64))
  (hz:(zeroValue 3).run P w=.ok (.int .i64 0) w) {b n:Nat} {F:List E} (hm:a.eval m=.map (some b)) (hS:w.ownsMap P 9 (plainElem P 3) b n (dmap F)) (s:ByteArray) (hx:a.eval x=.string s) (hs:s.size≤maxLen) (r:Int) (hr:look F s.data.toList=r)
  (h:wpList P ops Q rest (a.put o.dst (.int .i64 r)) w):wpList P ops Q (o::rest) a w:=by
 refine wpList_plain hg fun K' hK'=> ?_
 obtain⟨c,hrun,hat,_⟩:=hS.lookup_int (string_keyed h9) ht h3 hz (keyOf_str h9 s hs)
 rw[dmap_at,hr]at hat
 obtain rfl:r=c:=by injection hat with e1;injection e1
 unfold Oper.wp
 simp[execOp,hop,hm,hx,hrun,Result.andThen]
 exact hK' _ _ h
theorem lit {W:World} {cs:Array Value} {n:Nat} {t:TypeId} (hgd:o.guard=none) (hrun:(execOp a.eval o).run P W=.ok (.value (.slice (some ⟨W.heap.size,0,none⟩) n n)) (W.alloc (.cells cs t (0,0))))
  (h:∀g,g=W.heap.size→ ∀w1,w1.heap[g]? =some (.cells cs t (0,0))→Below W.heap.size W w1→wpList P ops Q rest (a.put o.dst (.slice (some ⟨g,0,none⟩) n n)) w1):wpList P ops Q (o::rest) a W:=
 Kd.event_run hgd hrun (h _ rfl _ (blk_new W _) (below_alloc (Below.refl _ _) _))
end
end YtgdnlmfoghpeoaaGreatDoor.Km
end Go.Proofs
