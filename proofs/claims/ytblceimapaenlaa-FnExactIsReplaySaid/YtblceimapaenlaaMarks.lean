/- Rows marked and held, whatever their elements: element j bears what 'mk' makes of a + w * j. Plain Lean. -/
import Derived.Test.YtblceimapaenlaaLoops
namespace Go.Proofs.Ytblceimapaenlaa.Loops
open Go.RowKit Go.Proofs.YtblceimapaenlaaW.PrintWords Go.Proofs.YtblceimapaenlaaW.PrintMore
def marks {α:Type} (mk:Int→α) (w a:Int) (n:Nat):List α:=(List.range n).map fun (j:Nat)=>mk (a+w * (j:Int))
theorem map_loop {α β:Type} {G:Nat→Int→List β→Option (List β)} (l:List α) (da:α) (z:β) (f:α→β)
  (hs:∀k (i:Nat) (o:List β),i<l.length→o.length=l.length→G (k+1) (i:Int) o=G k ((i+1:Nat):Int) (o.set i (f (l.getD i da))))
  (hf:∀k (o:List β),G (k+1) (l.length:Int) o=some o):Ev (fun k=>G k 0 (List.replicate l.length z)) (l.map f):=by
 have key:=up_loop (G:=G) (r:=l.map f) (fun i=>(l.map f).take i++List.replicate (l.length - i) z) l.length (fun k i hi=>by
  have hlen:((l.map f).take i++List.replicate (l.length - i) z).length=l.length:=by simp;omega
  rw[hs k i _ hi hlen]
  congr 1
  have hm:i<(l.map f).length:=by simpa using hi
  rw[take_one_more (l.map f) (f da) i hm]
  have:l.length - i=(l.length - (i+1))+1:=by omega
  rw[this,List.replicate_succ]
  rw[List.set_append_right _ _ (by simp;omega),List.length_take,Nat.min_eq_left (by omega),Nat.sub_self]
  have e:(l.map f).getD i (f da)=f (l.getD i da):=by simp[List.getD,hi]
  rw[e]
  simp) (Ev.one (fun k=>by
   rw[hf]
   have:(l.map f).take l.length=l.map f:=by rw[List.take_of_length_le (by simp)]
   rw[this,Nat.sub_self];simp))
 simpa using key
end Go.Proofs.Ytblceimapaenlaa.Loops
