/- Loops told once: a loop that counts up from a number, its state told for each count; rows copied, rows compared. Plain Lean. -/
import Derived.Test.YtaceidiookkocaaWWords
import Derived.Test.YtaceidiookkocaaWMore
namespace Go.Proofs.Ytaceidiookkocaa.Loops
open Go.RowKit Go.Proofs.YtaceidiookkocaaW.PrintWords Go.Proofs.YtaceidiookkocaaW.PrintMore
theorem wrap_in {x:Int} (h0: -9223372036854775808≤x) (h1:x≤9223372036854775807):wrap64 x=x:=by unfold wrap64;omega
theorem wrap_succ {i n:Nat} (h:i<n) (hn:n≤9223372036854775807):wrap64 ((i:Int)+1)=((i+1:Nat):Int):=by unfold wrap64;omega
theorem rd_nat (l:List Int) (i:Nat):rd l (i:Int)=l.getD i 0:=by simp[rd]
theorem up_from {α σ:Type} {G:Nat→Int→σ→Option α} {S:Nat→σ} {r:α} (n:Nat) (step:∀k i,i<n→G (k+1) (i:Int) (S i)=G k ((i+1:Nat):Int) (S (i+1))) (fin:Ev (fun k=>G k (n:Int) (S n)) r):
  ∀(d i:Nat),i+d=n→Ev (fun k=>G k (i:Int) (S i)) r:=by
 intro d
 induction d with
 |zero=>
  intro i h
  obtain rfl:i=n:=by omega
  exact fin
 |succ d ih=>intro i h;exact Ev.step (fun k=>step k i (by omega)) (ih (i+1) (by omega))
theorem up_loop {α σ:Type} {G:Nat→Int→σ→Option α} {r:α} (S:Nat→σ) (n:Nat) (step:∀k i,i<n→G (k+1) (i:Int) (S i)=G k ((i+1:Nat):Int) (S (i+1))) (fin:Ev (fun k=>G k (n:Int) (S n)) r):Ev (fun k=>G k 0 (S 0)) r:=
 up_from (S:=S) n step fin n 0 (by omega)
theorem Ev.const {α:Type} {x:Option α} {r:α} (h:x=some r):Ev (fun _=>x) r:=⟨0,fun _ _=>h⟩
theorem Ev.one {α:Type} {g:Nat→Option α} {r:α} (h:∀k,g (k+1)=some r):Ev g r:=Ev.step h (Ev.now r)
theorem take_one_more {α:Type} (l:List α) (d:α) (i:Nat) (h:i<l.length):l.take (i+1)=l.take i++ [l.getD i d]:=by
 rw[List.take_succ_eq_append_getElem h]
 simp[List.getD,List.getElem?_eq_getElem h]
theorem plain_loop {α:Type} {G:Nat→Int→Option α} {r:α} (n:Nat) (hn:n≤9223372036854775807) (hs:∀k (i:Nat),i<n→G (k+1) (i:Int)=G k (wrap64 ((i:Int)+1))) (hf:∀k,G (k+1) (n:Int)=some r):Ev (fun k=>G k 0) r:=
 up_loop (G:=fun k i (_:Unit)=>G k i) (r:=r) (fun _=>()) n (fun k i hi=>by
  show G (k+1) (i:Int)=_
  rw[hs k i hi,wrap_succ hi hn]) (Ev.one hf)
theorem drop_cons_getD {α:Type} (l:List α) (d:α) (i:Nat) (h:i<l.length):l.drop i=l.getD i d::l.drop (i+1):=by
 rw[List.drop_eq_getElem_cons h]
 simp[List.getD,List.getElem?_eq_getElem h]
theorem fold_loop {α σ β:Type} {G:Nat→Int→σ→Option β} {r:σ→β} (l:List α) (d:α) (f:σ→α→σ) (Inv:Nat→σ→Prop)
  (step:∀k i s,i<l.length→Inv i s→G (k+1) (i:Int) s=G k ((i+1:Nat):Int) (f s (l.getD i d))) (inv:∀i s,i<l.length→Inv i s→Inv (i+1) (f s (l.getD i d)))
  (fin:∀s,Inv l.length s→Ev (fun k=>G k (l.length:Int) s) (r s)):∀s,Inv 0 s→Ev (fun k=>G k 0 s) (r (l.foldl f s)):=by
 have key:∀(m i:Nat) (s:σ),i+m=l.length→Inv i s→Ev (fun k=>G k (i:Int) s) (r ((l.drop i).foldl f s)):=by
  intro m
  induction m with
  |zero=>
   intro i s hi hs
   obtain rfl:i=l.length:=by omega
   rw[List.drop_length]
   exact fin s hs
  |succ m ih=>
   intro i s hi hs
   rw[drop_cons_getD l d i (by omega),List.foldl_cons]
   exact Ev.step (fun k=>step k i s (by omega) hs) (ih (i+1) _ (by omega) (inv i s (by omega) hs))
 intro s hs
 exact key l.length 0 s (by omega) hs
def iota (a:Int) (n:Nat):List Int:=(List.range n).map fun (j:Nat)=>a+(j:Int)
end Go.Proofs.Ytaceidiookkocaa.Loops
