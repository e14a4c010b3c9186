/- Loops whose rounds call a part that ends in its own time; loops within loops. Plain Lean. -/
import Derived.Test.YtaceidiookkocaaMarks
import Derived.Test.YtaceidiookkocaaOpen
namespace Go.Proofs.Ytaceidiookkocaa.Loops
open Go.RowKit Go.Proofs.YtaceidiookkocaaW.PrintWords Go.Proofs.YtaceidiookkocaaW.PrintMore
theorem Ev.succ {α:Type} {g:Nat→Option α} {r:α} (h:Ev (fun k=>g (k+1)) r):Ev g r:=Ev.step (fun _=>rfl) h
theorem getD_mem {α:Type} (l:List α) (d:α) (i:Nat) (h:i<l.length):l.getD i d ∈ l:=by
 simp[List.getD,List.getElem?_eq_getElem h]
theorem back_from {β σ:Type} {G:Nat→Int→σ→Option β} (R:Nat→σ→β) (n:Nat)
  (step:∀(i:Nat) s,i<n→(∀s',Ev (fun k=>G k ((i+1:Nat):Int) s') (R (i+1) s'))→Ev (fun k=>G k (i:Int) s) (R i s)) (fin:∀s,Ev (fun k=>G k (n:Int) s) (R n s)):
  ∀(m i:Nat),i+m=n→ ∀s,Ev (fun k=>G k (i:Int) s) (R i s):=by
 intro m
 induction m with
 |zero=>
  intro i h s
  obtain rfl:i=n:=by omega
  exact fin s
 |succ m ih=>intro i h s;exact step i s (by omega) (ih (i+1) (by omega))
theorem back_loop {β σ:Type} {G:Nat→Int→σ→Option β} (R:Nat→σ→β) (n:Nat)
  (step:∀(i:Nat) s,i<n→(∀s',Ev (fun k=>G k ((i+1:Nat):Int) s') (R (i+1) s'))→Ev (fun k=>G k (i:Int) s) (R i s)) (fin:∀s,Ev (fun k=>G k (n:Int) s) (R n s)) (s:σ):Ev (fun k=>G k 0 s) (R 0 s):=
 back_from R n step fin n 0 (by omega) s
theorem all_loop {α:Type} {G:Nat→Int→Option Bool} {r:Bool} (l:List α) (d:α) (p:α→Bool) (B:α→Nat→Option Bool) (hl:l.length≤9223372036854775807) (hb:∀x ∈ l,Ev (B x) (p x))
  (hG:∀k (i:Nat),i<l.length→G (k+1) (i:Int)=(B (l.getD i d) k).bind fun t=>if t=true then G k (wrap64 ((i:Int)+1)) else some false)
  (fin:Ev (fun k=>G k (l.length:Int)) r):Ev (fun k=>G k 0) (l.all p && r):=by
 have key:=back_loop (G:=fun k i (_:Unit)=>G k i) (fun i _=>(l.drop i).all p && r) l.length (fun i _ hi ih=>by
  refine Ev.step (fun k=>hG k i hi) (Ev.bind (hb _ (getD_mem l d i hi)) ?_)
  rw[drop_cons_getD l d i hi,List.all_cons]
  rcases Bool.eq_false_or_eq_true (p (l.getD i d)) with h|h
  ·simp only[h,if_true,Bool.true_and,wrap_succ hi hl]
   exact ih ()
  ·simp only[h,Bool.false_eq_true,if_false,Bool.false_and]
   exact Ev.now _) (fun _=>by simpa using fin) ()
 simpa using key
theorem zip_get {α β:Type} (l:List α) (m:List β) (d:α) (e:β) (i:Nat) (h:i<l.length) (h2:i<m.length):(l.zip m).getD i (d,e)=(l.getD i d,m.getD i e):=by
 have hz:i<(l.zip m).length:=by simp;omega
 simp[List.getD,List.getElem?_eq_getElem h,List.getElem?_eq_getElem h2,List.getElem?_eq_getElem hz]
theorem pairs_loop {α β:Type} {G:Nat→Int→Option Bool} {r:Bool} (l:List α) (m:List β) (d:α) (e:β) (p:α→β→Bool) (B:α→β→Nat→Option Bool) (hl:l.length≤9223372036854775807) (hlm:l.length=m.length) (hb:∀x ∈ l,∀y ∈ m,Ev (B x y) (p x y))
  (hG:∀k (i:Nat),i<l.length→G (k+1) (i:Int)=(B (l.getD i d) (m.getD i e) k).bind fun t=>if t=true then G k (wrap64 ((i:Int)+1)) else some false)
  (fin:Ev (fun k=>G k (l.length:Int)) r):Ev (fun k=>G k 0) ((l.zip m).all (fun q=>p q.1 q.2) && r):=by
 have hz:(l.zip m).length=l.length:=by simp;omega
 exact all_loop (l.zip m) (d,e) _ (fun q k=>B q.1 q.2 k) (by omega) (fun q hq=>hb _ (List.of_mem_zip hq).1 _ (List.of_mem_zip hq).2) (fun k i hi=>by
  rw[zip_get l m d e i (by omega) (by omega)]
  exact hG k i (by omega)) (by rw[hz];exact fin)
end Go.Proofs.Ytaceidiookkocaa.Loops
