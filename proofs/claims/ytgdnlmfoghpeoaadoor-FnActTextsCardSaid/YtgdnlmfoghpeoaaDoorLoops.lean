/- Loops told once: a loop that counts up from a number, its state told for each count; rows copied, rows compared. Plain Lean. -/
import Derived.Test.YtgdnlmfoghpeoaaDoorWWords
import Derived.Test.YtgdnlmfoghpeoaaDoorWMore
namespace Go.Proofs.YtgdnlmfoghpeoaaDoor.Loops
open Go.RowKit Go.Proofs.YtgdnlmfoghpeoaaDoorW.PrintWords Go.Proofs.YtgdnlmfoghpeoaaDoorW.PrintMore
theorem wrap_in {x:Int} (h0: -9223372036854775808≤x) (h1:x≤9223372036854775807):wrap64 x=x:=by unfold wrap64;omega
theorem wrap_succ {i n:Nat} (h:i<n) (hn:n≤9223372036854775807):wrap64 ((i:Int)+1)=((i+1:Nat):Int):=by unfold wrap64;omega
theorem rdOf_nat {α:Type} (d:α) (l:List α) (i:Nat):rdOf d l (i:Int)=l.getD i d:=by simp[rdOf]
theorem rd_nat (l:List Int) (i:Nat):rd l (i:Int)=l.getD i 0:=by simp[rd]
theorem Ev.eq {α:Type} {g:Nat→Option α} {r s:α} (h:Ev g r) (e:r=s):Ev g s:=e ▸ h
theorem Ev.const {α:Type} {x:Option α} {r:α} (h:x=some r):Ev (fun _=>x) r:=⟨0,fun _ _=>h⟩
theorem Ev.one {α:Type} {g:Nat→Option α} {r:α} (h:∀k,g (k+1)=some r):Ev g r:=Ev.step h (Ev.now r)
theorem drop_cons_getD {α:Type} (l:List α) (d:α) (i:Nat) (h:i<l.length):l.drop i=l.getD i d::l.drop (i+1):=by
 rw[List.drop_eq_getElem_cons h]
 simp[List.getD,List.getElem?_eq_getElem h]
def iota (a:Int) (n:Nat):List Int:=(List.range n).map fun (j:Nat)=>a+(j:Int)
theorem iota_len (a:Int) (n:Nat):(iota a n).length=n:=by simp[iota]
theorem iota_get (a:Int) (n i:Nat) (h:i<n):(iota a n).getD i 0=a+i:=by simp[iota,List.getD,h]
theorem iota_succ (a:Int) (n:Nat):iota a (n+1)=iota a n++ [a+n]:=by simp[iota,List.range_succ]
end Go.Proofs.YtgdnlmfoghpeoaaDoor.Loops
