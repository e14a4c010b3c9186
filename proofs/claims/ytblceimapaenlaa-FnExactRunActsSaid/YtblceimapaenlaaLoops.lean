/- Loops told once: a loop that counts up from a number, its state told for each count; rows copied, rows compared. Plain Lean. -/
import Derived.Test.YtblceimapaenlaaWWords
import Derived.Test.YtblceimapaenlaaWMore
namespace Go.Proofs.Ytblceimapaenlaa.Loops
open Go.RowKit Go.Proofs.YtblceimapaenlaaW.PrintWords Go.Proofs.YtblceimapaenlaaW.PrintMore
theorem wrap_in {x:Int} (h0: -9223372036854775808≤x) (h1:x≤9223372036854775807):wrap64 x=x:=by unfold wrap64;omega
theorem wrap_succ {i n:Nat} (h:i<n) (hn:n≤9223372036854775807):wrap64 ((i:Int)+1)=((i+1:Nat):Int):=by unfold wrap64;omega
theorem rd_nat (l:List Int) (i:Nat):rd l (i:Int)=l.getD i 0:=by simp[rd]
theorem up_from {α σ:Type} {G:Nat→Int→σ→Option α} {S:Nat→σ} {r:α} (n:Nat) (step:∀k i,i<n→G (k+1) (i:Int) (S i)=G k ((i+1:Nat):Int) (S (i+1))) (fin:Ev (fun k=>G k (n:Int) (S n)) r):
  ∀(d i:Nat),i+d=n→Ev (fun k=>G k (i:Int) (S i)) r:=by
 intro d
 induction d with
 |zero=>
  intro i h
  obtain rfl:i=n:=by omega
  exact fin
 |succ d ih=>intro i h;exact Ev.step (fun k=>step k i (by omega)) (ih (i+1) (by omega))
theorem up_loop {α σ:Type} {G:Nat→Int→σ→Option α} {r:α} (S:Nat→σ) (n:Nat) (step:∀k i,i<n→G (k+1) (i:Int) (S i)=G k ((i+1:Nat):Int) (S (i+1))) (fin:Ev (fun k=>G k (n:Int) (S n)) r):Ev (fun k=>G k 0 (S 0)) r:=
 up_from (S:=S) n step fin n 0 (by omega)
theorem Ev.eq {α:Type} {g:Nat→Option α} {r s:α} (h:Ev g r) (e:r=s):Ev g s:=e ▸ h
theorem Ev.one {α:Type} {g:Nat→Option α} {r:α} (h:∀k,g (k+1)=some r):Ev g r:=Ev.step h (Ev.now r)
theorem take_one_more {α:Type} (l:List α) (d:α) (i:Nat) (h:i<l.length):l.take (i+1)=l.take i++ [l.getD i d]:=by
 rw[List.take_succ_eq_append_getElem h]
 simp[List.getD,List.getElem?_eq_getElem h]
theorem copy_loop {α:Type} {G:Nat→Int→List α→Option (List α)} (l:List α) (d:α) (hl:l.length≤9223372036854775807)
  (hG:∀k i (o:List α),G (k+1) i o=if i<(l.length:Int) then(if 0≤i then(if i<(o.length:Int) then G k (wrap64 (i+1)) (o.set (i:Int).toNat (l.getD i.toNat d)) else none) else none) else some o):
  Ev (fun k=>G k 0 (List.replicate l.length d)) l:=by
 have key:=up_loop (G:=G) (r:=l) (fun i=>l.take i++List.replicate (l.length - i) d) l.length (fun k i hi=>by
  rw[hG,if_pos (by omega),if_pos (by omega),if_pos (by simp;omega),wrap_succ hi hl]
  congr 1
  rw[Int.toNat_natCast,take_one_more l d i hi]
  have:l.length - i=(l.length - (i+1))+1:=by omega
  rw[this,List.replicate_succ]
  rw[List.set_append_right _ _ (by simp;omega),List.length_take,Nat.min_eq_left (by omega),Nat.sub_self]
  simp) (Ev.one (fun k=>by rw[hG,if_neg (by omega)];simp))
 simpa using key
theorem plain_loop {α:Type} {G:Nat→Int→Option α} {r:α} (n:Nat) (hn:n≤9223372036854775807) (hs:∀k (i:Nat),i<n→G (k+1) (i:Int)=G k (wrap64 ((i:Int)+1))) (hf:∀k,G (k+1) (n:Int)=some r):Ev (fun k=>G k 0) r:=
 up_loop (G:=fun k i (_:Unit)=>G k i) (r:=r) (fun _=>()) n (fun k i hi=>by
  show G (k+1) (i:Int)=_
  rw[hs k i hi,wrap_succ hi hn]) (Ev.one hf)
theorem drop_cons_getD {α:Type} (l:List α) (d:α) (i:Nat) (h:i<l.length):l.drop i=l.getD i d::l.drop (i+1):=by
 rw[List.drop_eq_getElem_cons h]
 simp[List.getD,List.getElem?_eq_getElem h]
def iota (a:Int) (n:Nat):List Int:=(List.range n).map fun (j:Nat)=>a+(j:Int)
theorem iota_len (a:Int) (n:Nat):(iota a n).length=n:=by simp[iota]
theorem iota_get (a:Int) (n i:Nat) (h:i<n):(iota a n).getD i 0=a+i:=by simp[iota,List.getD,h]
theorem iota_succ (a:Int) (n:Nat):iota a (n+1)=iota a n++ [a+n]:=by simp[iota,List.range_succ]
theorem mark_loop {G:Nat→List Int→Int→Int→Option (Int×List Int)} (l:List Int) (a:Int) (hl:l.length≤2305843009213693952) (ha0:0≤a) (ha:a≤2305843009213693952)
  (hG:∀k x m i,G (k+1) x m i=if i<(x.length:Int) then(if 0≤i then G k (x.set (i:Int).toNat m) (wrap64 (m+1)) (wrap64 (i+1)) else none) else some (m,x)):Ev (fun k=>G k l a 0) (a+l.length,iota a l.length):=by
 have key:=up_loop (G:=fun k i (s:List Int×Int)=>G k s.1 s.2 i) (r:=(a+l.length,iota a l.length)) (fun i=>(iota a i++l.drop i,a+i)) l.length (fun k i hi=>by
  have hlen:(iota a i++l.drop i).length=l.length:=by rw[List.length_append,iota_len,List.length_drop];omega
  show G (k+1) (iota a i++l.drop i) (a+i) (i:Int)=_
  rw[hG,hlen,if_pos (by omega),if_pos (by omega),wrap_succ hi (by omega),wrap_in (x:=a+i+1) (by omega) (by omega),Int.toNat_natCast]
  have e:(iota a i++l.drop i).set i (a+i)=iota a (i+1)++l.drop (i+1):=by
   rw[List.set_append_right _ _ (by rw[iota_len];omega),iota_len,Nat.sub_self,drop_cons_getD l 0 i hi,List.set_cons_zero,iota_succ,List.append_assoc]
   rfl
  rw[e]
  show G k _ (a+i+1) _=G k _ (a+((i+1:Nat):Int)) _
  rw[show a+((i+1:Nat):Int)=a+i+1 by omega]) (Ev.one (fun k=>by
  show G (k+1) (iota a l.length++l.drop l.length) (a+l.length) (l.length:Int)=_
  rw[List.drop_length,List.append_nil,hG,iota_len,if_neg (by omega)]))
 have e0:iota a 0++l.drop 0=l:=by simp[iota]
 have e1:a+((0:Nat):Int)=a:=by omega
 simp only[e0,e1]at key
 exact key
theorem held_loop {G:Nat→List Int→Int→Int→Option Int} (a:Int) (n:Nat) (hn:n≤2305843009213693952) (ha0:0≤a) (ha:a≤2305843009213693952)
  (hG:∀k x m i,G (k+1) x m i=if i<(x.length:Int) then(if 0≤i then(if(rd x i)=m then G k x (wrap64 (m+1)) (wrap64 (i+1)) else some (-1)) else none) else some m):Ev (fun k=>G k (iota a n) a 0) (a+n):=by
 have key:=up_loop (G:=fun k i (s:Int)=>G k (iota a n) s i) (r:=a+n) (fun i=>a+i) n (fun k i hi=>by
  show G (k+1) (iota a n) (a+i) (i:Int)=_
  rw[hG,iota_len,if_pos (by omega),if_pos (by omega),rd_nat,iota_get a n i hi,if_pos rfl,wrap_succ hi (by omega),wrap_in (x:=a+i+1) (by omega) (by omega)]
  show G k _ (a+i+1) _=G k _ (a+((i+1:Nat):Int)) _
  rw[show a+((i+1:Nat):Int)=a+i+1 by omega]) (Ev.one (fun k=>by
  show G (k+1) (iota a n) (a+n) (n:Int)=_
  rw[hG,iota_len,if_neg (by omega)]))
 have e1:a+((0:Nat):Int)=a:=by omega
 simp only[e1]at key
 exact key
end Go.Proofs.Ytblceimapaenlaa.Loops
