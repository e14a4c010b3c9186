/- Loops told once: a loop that counts up from a number, its state told for each count; rows copied, rows compared. Plain Lean. -/
import Derived.Test.YtgdnlmfoghpeoaaGreatDoorWWords
import Derived.Test.YtgdnlmfoghpeoaaGreatDoorWMore
namespace Go.Proofs.YtgdnlmfoghpeoaaGreatDoor.Loops
open Go.RowKit Go.Proofs.YtgdnlmfoghpeoaaGreatDoorW.PrintWords Go.Proofs.YtgdnlmfoghpeoaaGreatDoorW.PrintMore
theorem wrap_in {x:Int} (h0: -9223372036854775808≤x) (h1:x≤9223372036854775807):wrap64 x=x:=by unfold wrap64;omega
theorem wrap_succ {i n:Nat} (h:i<n) (hn:n≤9223372036854775807):wrap64 ((i:Int)+1)=((i+1:Nat):Int):=by unfold wrap64;omega
theorem rdOf_nat {α:Type} (d:α) (l:List α) (i:Nat):rdOf d l (i:Int)=l.getD i d:=by simp[rdOf]
theorem rd_nat (l:List Int) (i:Nat):rd l (i:Int)=l.getD i 0:=by simp[rd]
theorem up_from {α σ:Type} {G:Nat→Int→σ→Option α} {S:Nat→σ} {r:α} (n:Nat) (step:∀k i,i<n→G (k+1) (i:Int) (S i)=G k ((i+1:Nat):Int) (S (i+1))) (fin:Ev (fun k=>G k (n:Int) (S n)) r):
  ∀(d i:Nat),i+d=n→Ev (fun k=>G k (i:Int) (S i)) r:=by
 intro d
 induction d with
 |zero=>
  intro i h
  obtain rfl:i=n:=by omega
  exact fin
 |succ d ih=>intro i h;exact Ev.step (fun k=>step k i (by omega)) (ih (i+1) (by omega))
theorem up_loop {α σ:Type} {G:Nat→Int→σ→Option α} {r:α} (S:Nat→σ) (n:Nat) (step:∀k i,i<n→G (k+1) (i:Int) (S i)=G k ((i+1:Nat):Int) (S (i+1))) (fin:Ev (fun k=>G k (n:Int) (S n)) r):Ev (fun k=>G k 0 (S 0)) r:=
 up_from (S:=S) n step fin n 0 (by omega)
theorem Ev.eq {α:Type} {g:Nat→Option α} {r s:α} (h:Ev g r) (e:r=s):Ev g s:=e ▸ h
theorem Ev.const {α:Type} {x:Option α} {r:α} (h:x=some r):Ev (fun _=>x) r:=⟨0,fun _ _=>h⟩
theorem Ev.one {α:Type} {g:Nat→Option α} {r:α} (h:∀k,g (k+1)=some r):Ev g r:=Ev.step h (Ev.now r)
theorem take_set_one {α:Type} (l:List α) (i:Nat) (v:α) (h:i<l.length):(l.set i v).take (i+1)=l.take i++ [v]:=by
 rw[List.take_succ_eq_append_getElem (by simpa using h),List.getElem_set_self,List.take_set_of_le (Nat.le_refl _)]
theorem plain_loop {α:Type} {G:Nat→Int→Option α} {r:α} (n:Nat) (hn:n≤9223372036854775807) (hs:∀k (i:Nat),i<n→G (k+1) (i:Int)=G k (wrap64 ((i:Int)+1))) (hf:∀k,G (k+1) (n:Int)=some r):Ev (fun k=>G k 0) r:=
 up_loop (G:=fun k i (_:Unit)=>G k i) (r:=r) (fun _=>()) n (fun k i hi=>by
  show G (k+1) (i:Int)=_
  rw[hs k i hi,wrap_succ hi hn]) (Ev.one hf)
theorem drop_cons_getD {α:Type} (l:List α) (d:α) (i:Nat) (h:i<l.length):l.drop i=l.getD i d::l.drop (i+1):=by
 rw[List.drop_eq_getElem_cons h]
 simp[List.getD,List.getElem?_eq_getElem h]
def iota (a:Int) (n:Nat):List Int:=(List.range n).map fun (j:Nat)=>a+(j:Int)
theorem iota_len (a:Int) (n:Nat):(iota a n).length=n:=by simp[iota]
theorem iota_get (a:Int) (n i:Nat) (h:i<n):(iota a n).getD i 0=a+i:=by simp[iota,List.getD,h]
theorem iota_succ (a:Int) (n:Nat):iota a (n+1)=iota a n++ [a+n]:=by simp[iota,List.range_succ]
end Go.Proofs.YtgdnlmfoghpeoaaGreatDoor.Loops
