/- Loops whose rounds call a part that ends in its own time; loops within loops. Plain Lean. -/
import Derived.Test.YtgdnlmfoghpeoaaGreatDoorMarks
import Derived.Test.YtgdnlmfoghpeoaaGreatDoorOpen
namespace Go.Proofs.YtgdnlmfoghpeoaaGreatDoor.Loops
open Go.RowKit Go.Proofs.YtgdnlmfoghpeoaaGreatDoorW.PrintWords Go.Proofs.YtgdnlmfoghpeoaaGreatDoorW.PrintMore
theorem Ev.succ {α:Type} {g:Nat→Option α} {r:α} (h:Ev (fun k=>g (k+1)) r):Ev g r:=Ev.step (fun _=>rfl) h
theorem getD_mem {α:Type} (l:List α) (d:α) (i:Nat) (h:i<l.length):l.getD i d ∈ l:=by
 simp[List.getD,List.getElem?_eq_getElem h]
theorem back_from {β σ:Type} {G:Nat→Int→σ→Option β} (R:Nat→σ→β) (n:Nat)
  (step:∀(i:Nat) s,i<n→(∀s',Ev (fun k=>G k ((i+1:Nat):Int) s') (R (i+1) s'))→Ev (fun k=>G k (i:Int) s) (R i s)) (fin:∀s,Ev (fun k=>G k (n:Int) s) (R n s)):
  ∀(m i:Nat),i+m=n→ ∀s,Ev (fun k=>G k (i:Int) s) (R i s):=by
 intro m
 induction m with
 |zero=>
  intro i h s
  obtain rfl:i=n:=by omega
  exact fin s
 |succ m ih=>intro i h s;exact step i s (by omega) (ih (i+1) (by omega))
theorem back_loop {β σ:Type} {G:Nat→Int→σ→Option β} (R:Nat→σ→β) (n:Nat)
  (step:∀(i:Nat) s,i<n→(∀s',Ev (fun k=>G k ((i+1:Nat):Int) s') (R (i+1) s'))→Ev (fun k=>G k (i:Int) s) (R i s)) (fin:∀s,Ev (fun k=>G k (n:Int) s) (R n s)) (s:σ):Ev (fun k=>G k 0 s) (R 0 s):=
 back_from R n step fin n 0 (by omega) s
end Go.Proofs.YtgdnlmfoghpeoaaGreatDoor.Loops
