/- Rows marked and held, whatever their elements: element j bears what 'mk' makes of a + w * j. Plain Lean. -/
import Derived.Test.YtblceimapaenlaaLoops
namespace Go.Proofs.Ytblceimapaenlaa.Loops
open Go.RowKit Go.Proofs.YtblceimapaenlaaW.PrintWords Go.Proofs.YtblceimapaenlaaW.PrintMore
def marks {α:Type} (mk:Int→α) (w a:Int) (n:Nat):List α:=(List.range n).map fun (j:Nat)=>mk (a+w * (j:Int))
theorem marks_len {α:Type} (mk:Int→α) (w a:Int) (n:Nat):(marks mk w a n).length=n:=by simp[marks]
theorem marks_get {α:Type} (mk:Int→α) (d:α) (w a:Int) (n i:Nat) (h:i<n):(marks mk w a n).getD i d=mk (a+w * i):=by simp[marks,List.getD,h]
theorem marks_succ {α:Type} (mk:Int→α) (w a:Int) (n:Nat):marks mk w a (n+1)=marks mk w a n++ [mk (a+w * n)]:=by simp[marks,List.range_succ]
theorem step_w (a w:Int) (i:Nat):a+w * (i:Int)+w=a+w * ((i+1:Nat):Int):=by
 have e:((i+1:Nat):Int)=(i:Int)+1:=by omega
 rw[e,Int.mul_add,Int.mul_one];omega
theorem le_w {a w:Int} (hw:0≤w) {i n:Nat} (h:i≤n):a+w * (i:Int)≤a+w * (n:Int):=by
 have:=Int.mul_le_mul_of_nonneg_left (show(i:Int)≤(n:Int) by omega) hw
 omega
theorem mark_gen {α:Type} {G:Nat→List α→Int→Int→Option (Int×List α)} (mk:Int→α) (d:α) (w:Int) (hw:0≤w) (l:List α) (a:Int) (ha:0≤a) (hB:a+w * (l.length:Int)≤4611686018427387904)
  (hs:∀k (x:List α) (m:Int) (i:Nat),i<x.length→x.length=l.length→0≤m→m+w≤4611686018427387904→G (k+1) x m (i:Int)=G k (x.set i (mk m)) (m+w) ((i+1:Nat):Int))
  (hf:∀k (x:List α) (m:Int),x.length=l.length→G (k+1) x m (l.length:Int)=some (m,x)):Ev (fun k=>G k l a 0) (a+w * (l.length:Int),marks mk w a l.length):=by
 have key:=up_loop (G:=fun k i (s:List α×Int)=>G k s.1 s.2 i) (r:=(a+w * (l.length:Int),marks mk w a l.length)) (fun i=>(marks mk w a i++l.drop i,a+w * (i:Int))) l.length (fun k i hi=>by
  have hlen:(marks mk w a i++l.drop i).length=l.length:=by rw[List.length_append,marks_len,List.length_drop];omega
  have h1:=le_w (a:=a) hw (show 0≤i by omega)
  have h2:=le_w (a:=a) hw (show i+1≤l.length by omega)
  have h3:=step_w a w i
  show G (k+1) (marks mk w a i++l.drop i) (a+w * (i:Int)) (i:Int)=_
  rw[hs k _ _ i (by omega) hlen (by omega) (by omega)]
  have e:(marks mk w a i++l.drop i).set i (mk (a+w * (i:Int)))=marks mk w a (i+1)++l.drop (i+1):=by
   rw[List.set_append_right _ _ (by rw[marks_len];omega),marks_len,Nat.sub_self,drop_cons_getD l d i hi,List.set_cons_zero,marks_succ,List.append_assoc]
   rfl
  rw[e,h3]) (Ev.one (fun k=>by
  show G (k+1) (marks mk w a l.length++l.drop l.length) (a+w * (l.length:Int)) (l.length:Int)=_
  rw[List.drop_length,List.append_nil,hf _ _ _ (marks_len _ _ _ _)]))
 have e0:marks mk w a 0++l.drop 0=l:=by simp[marks]
 have e1:a+w * ((0:Nat):Int)=a:=by simp
 simp only[e0,e1]at key
 exact key
theorem held_gen {α:Type} {G:Nat→List α→Int→Int→Option Int} (mk:Int→α) (d:α) (w:Int) (hw:0≤w) (n:Nat) (a:Int) (ha:0≤a) (hB:a+w * (n:Int)≤4611686018427387904)
  (hs:∀k (x:List α) (m:Int) (i:Nat),i<x.length→x.length=n→x.getD i d=mk m→0≤m→m+w≤4611686018427387904→G (k+1) x m (i:Int)=G k x (m+w) ((i+1:Nat):Int))
  (hf:∀k (x:List α) (m:Int),x.length=n→G (k+1) x m (n:Int)=some m):Ev (fun k=>G k (marks mk w a n) a 0) (a+w * (n:Int)):=by
 have key:=up_loop (G:=fun k i (s:Int)=>G k (marks mk w a n) s i) (r:=a+w * (n:Int)) (fun i=>a+w * (i:Int)) n (fun k i hi=>by
  have h1:=le_w (a:=a) hw (show 0≤i by omega)
  have h2:=le_w (a:=a) hw (show i+1≤n by omega)
  have h3:=step_w a w i
  show G (k+1) (marks mk w a n) (a+w * (i:Int)) (i:Int)=_
  rw[hs k _ _ i (by rw[marks_len];exact hi) (marks_len _ _ _ _) (marks_get mk d w a n i hi) (by omega) (by omega),h3]) (Ev.one (fun k=>by
  show G (k+1) (marks mk w a n) (a+w * (n:Int)) (n:Int)=_
  rw[hf _ _ _ (marks_len _ _ _ _)]))
 have e1:a+w * ((0:Nat):Int)=a:=by simp
 simp only[e1]at key
 exact key
theorem map_loop {α β:Type} {G:Nat→Int→List β→Option (List β)} (l:List α) (da:α) (z:β) (f:α→β)
  (hs:∀k (i:Nat) (o:List β),i<l.length→o.length=l.length→G (k+1) (i:Int) o=G k ((i+1:Nat):Int) (o.set i (f (l.getD i da))))
  (hf:∀k (o:List β),G (k+1) (l.length:Int) o=some o):Ev (fun k=>G k 0 (List.replicate l.length z)) (l.map f):=by
 have key:=up_loop (G:=G) (r:=l.map f) (fun i=>(l.map f).take i++List.replicate (l.length - i) z) l.length (fun k i hi=>by
  have hlen:((l.map f).take i++List.replicate (l.length - i) z).length=l.length:=by simp;omega
  rw[hs k i _ hi hlen]
  congr 1
  have hm:i<(l.map f).length:=by simpa using hi
  rw[take_one_more (l.map f) (f da) i hm]
  have:l.length - i=(l.length - (i+1))+1:=by omega
  rw[this,List.replicate_succ]
  rw[List.set_append_right _ _ (by simp;omega),List.length_take,Nat.min_eq_left (by omega),Nat.sub_self]
  have e:(l.map f).getD i (f da)=f (l.getD i da):=by simp[List.getD,hi]
  rw[e]
  simp) (Ev.one (fun k=>by
   rw[hf]
   have:(l.map f).take l.length=l.map f:=by rw[List.take_of_length_le (by simp)]
   rw[this,Nat.sub_self];simp))
 simpa using key
end Go.Proofs.Ytblceimapaenlaa.Loops
