/- What a parameter's value reads as: for a type told by a kind of the print's words, a value that can be read as data is of that kind. Proved for whole numbers, bools, strings, slices and structs; on no condition but the type's own shape. -/
import Derived.Test.YtaceidiookkocaaWWords
import Derived.Deep.Slices
import Derived.Deep.Fields
import Derived.ChangeSame
import Derived.ChangeOld
import Derived.Carry
namespace Go.Proofs.Ytaceidiookkocaa.OpenKit
open Go.ChangeShapes Go.WideShapes Go.RowKit Go.Deep Go.Proofs.YtaceidiookkocaaW.PrintWords
def Opens {α:Type} (P:Program) (t:TypeId) (d:Kd α) (g:α→Prop):Prop:=
 ∀(H:Type) (enc:TypeId×Value→H) (W:World) (fuel:Nat) (cs:List Value) (x:DataW H×List MemPlace),DataW.trod enc P W 0 (fun _=>true) true fuel t cs=some x→ ∃a,d.K W a cs∧g a
theorem opens_int {P:Program} {t:TypeId} {k:IntKind} (ht:P.underlying t=some (.int k)):Opens P t (Kd.int k) (fun n=>(Lit.int k n).wf=true):=by
 intro H enc W fuel cs x h
 obtain⟨n,hc,_,hw⟩:=DataW.trod_int ht h
 exact⟨n,hc,hw⟩
theorem opens_slice {α:Type} {P:Program} {t e:TypeId} {d:Kd α} {g:α→Prop} (ht:P.underlying t=some (.slice e)) (hsz:P.cellsOf e=d.sz) (ho:Opens P e d g):Opens P t (Kd.slice e d) (fun l=>l.length≤maxLen∧ ∀x ∈ l,g x):=by
 intro H enc W fuel cs x h
 rcases open_slice ht h with⟨rfl,_⟩|⟨a,len,cap,m,n,D,Pl,rfl,_,hl,hm,hmm,_,hi⟩
 ·exact⟨[],⟨none,0,rfl,Nat.le_refl _,rfl,by simp,fun hp=>absurd hp (by simp)⟩,by simp,by simp⟩
 ·simp only[if_true]at hmm
  subst hmm
  by_cases h0:len=0
  ·subst h0
   exact⟨[],⟨some a,m,rfl,by simp,rfl,by simp,fun hp=>absurd hp (by simp)⟩,by simp,by simp⟩
  have key:∀i,i<len→ ∃y cs',W.cells? 0 (a.add (i * P.cellsOf e)) (P.cellsOf e)=some cs'∧d.K W y cs'∧g y:=by
   intro i hi2
   obtain⟨cs',h1,h2⟩:=hi i (by omega)
   obtain⟨y,hy,hg⟩:=ho H enc W n cs' _ h2
   exact⟨y,cs',h1,hy,hg⟩
  obtain⟨y0,_⟩:=key 0 (by omega)
  haveI:Inhabited α:=⟨y0⟩
  obtain⟨Y,hY⟩:=choose_lt (n:=len) (p:=fun i y=>∃cs',W.cells? 0 (a.add (i * P.cellsOf e)) (P.cellsOf e)=some cs'∧d.K W y cs'∧g y) key
  have hlen:((List.range len).map Y).length=len:=by simp
  refine⟨(List.range len).map Y,⟨some a,m,by rw[hlen],by rw[hlen];exact hl,rfl,?_,fun _=>⟨a,rfl,?_⟩⟩,by rw[hlen];omega,?_⟩
  ·rw[hlen];unfold maxLen at hm;omega
  ·intro j p hj
   rw[List.getElem?_map]at hj
   obtain⟨j',hj',rfl⟩:=Option.map_eq_some_iff.1 hj
   obtain⟨hlt,rfl⟩:=List.getElem?_eq_some_iff.1 hj'
   simp only[List.length_range]at hlt
   obtain⟨cs',h1,h2,_⟩:=hY j hlt
   obtain⟨_,hcl,hat⟩:=World.cells?_some h1
   simp only[List.getElem_range]
   refine⟨cs',d.K_len h2,h2,fun i u hu=> ?_⟩
   have hil:i<cs'.length:=(List.getElem?_eq_some_iff.1 hu).1
   have:=hat i (by omega)
   rw[hu,hsz,Go.Deep.add_add]at this
   exact this
  ·intro z hz
   obtain⟨i,hi2,rfl⟩:=List.mem_map.1 hz
   obtain⟨_,_,_,hg⟩:=hY i (by simpa using hi2)
   exact hg
def OpensFs {α:Type} (P:Program) (l:List Field) (off:Nat) (d:Kd α) (g:α→Prop):Prop:=
 ∀(H:Type) (enc:TypeId×Value→H) (W:World) (fuel:Nat) (cs:List Value),cs.length=off+d.sz→(∀(f:Field),f ∈ l→ ∃x,DataW.trod enc P W 0 (fun _=>true) true fuel f.type ((cs.drop f.offset).take (P.cellsOf f.type))=some x)→ ∃a,d.K W a (cs.drop off)∧g a
theorem slice_of {P:Program} {w:World} {r:Reach} {b:Nat} {t e:TypeId} {v u:Value} (ht:P.underlying t=some (.slice e)) (hv:Value.okWide P w r b t v) (hL:v.cells.toList= [u]):v=u:=by
 obtain⟨a,n,c,rfl⟩:=okWide_slice ht hv
 simpa[Value.cells]using hL
theorem trod_blocks {H:Type} {enc:TypeId×Value→H} {P:Program} {W:World} {t:TypeId} {v:Value} {d:DataW H} {ps:List MemPlace} (h:DataW.Trod enc P W 0 (fun _=>true) true t v d ps):∀x ∈ ps,x.block<W.heap.size:=by
 obtain⟨m,hm⟩:=h
 exact DataW.trod_lt m _ _ _ hm
end Go.Proofs.Ytaceidiookkocaa.OpenKit
