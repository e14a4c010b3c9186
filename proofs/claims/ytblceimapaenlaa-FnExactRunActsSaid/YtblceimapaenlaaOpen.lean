/- What a parameter's value reads as: for a type told by a kind of the print's words, a value that can be read as data is of that kind. Proved for whole numbers, bools, strings, slices and structs; on no condition but the type's own shape. -/
import Derived.Test.YtblceimapaenlaaWWords
import Derived.Deep.Slices
import Derived.Deep.Fields
import Derived.ChangeSame
import Derived.ChangeOld
import Derived.Carry
namespace Go.Proofs.Ytblceimapaenlaa.OpenKit
open Go.ChangeShapes Go.WideShapes Go.RowKit Go.Deep Go.Proofs.YtblceimapaenlaaW.PrintWords
def Opens {α:Type} (P:Program) (t:TypeId) (d:Kd α) (g:α→Prop):Prop:=
 ∀(H:Type) (enc:TypeId×Value→H) (W:World) (fuel:Nat) (cs:List Value) (x:DataW H×List MemPlace),DataW.trod enc P W 0 (fun _=>true) true fuel t cs=some x→ ∃a,d.K W a cs∧g a
theorem opens_int {P:Program} {t:TypeId} {k:IntKind} (ht:P.underlying t=some (.int k)):Opens P t (Kd.int k) (fun n=>(Lit.int k n).wf=true):=by
 intro H enc W fuel cs x h
 obtain⟨n,hc,_,hw⟩:=DataW.trod_int ht h
 exact⟨n,hc,hw⟩
theorem trod_bool_ {H:Type} {enc:TypeId×Value→H} {P:Program} {w:World} {base:Nat} {spare:Nat→Bool} {held:Bool} {fuel:Nat} {t:TypeId} {cs:List Value} {x:DataW H×List MemPlace} (ht:P.underlying t=some .bool) (h:DataW.trod enc P w base spare held fuel t cs=some x):∃b,cs= [.bool b]:=by
 cases fuel with
 |zero=>simp[DataW.trod]at h
 |succ n=>
  unfold DataW.trod at h
  rw[ht]at h
  split at h<;>simp_all
theorem opens_bool {P:Program} {t:TypeId} (ht:P.underlying t=some .bool):Opens P t Kd.bool (fun _=>True):=by
 intro H enc W fuel cs x h
 obtain⟨b,hc⟩:=trod_bool_ ht h
 exact⟨b,hc,trivial⟩
theorem opens_slice {α:Type} {P:Program} {t e:TypeId} {d:Kd α} {g:α→Prop} (ht:P.underlying t=some (.slice e)) (hsz:P.cellsOf e=d.sz) (ho:Opens P e d g):Opens P t (Kd.slice e d) (fun l=>l.length≤maxLen∧ ∀x ∈ l,g x):=by
 intro H enc W fuel cs x h
 rcases open_slice ht h with⟨rfl,_⟩|⟨a,len,cap,m,n,D,Pl,rfl,_,hl,hm,hmm,_,hi⟩
 ·exact⟨[],⟨none,0,rfl,Nat.le_refl _,rfl,by simp,fun hp=>absurd hp (by simp)⟩,by simp,by simp⟩
 ·simp only[if_true]at hmm
  subst hmm
  by_cases h0:len=0
  ·subst h0
   exact⟨[],⟨some a,m,rfl,by simp,rfl,by simp,fun hp=>absurd hp (by simp)⟩,by simp,by simp⟩
  have key:∀i,i<len→ ∃y cs',W.cells? 0 (a.add (i * P.cellsOf e)) (P.cellsOf e)=some cs'∧d.K W y cs'∧g y:=by
   intro i hi2
   obtain⟨cs',h1,h2⟩:=hi i (by omega)
   obtain⟨y,hy,hg⟩:=ho H enc W n cs' _ h2
   exact⟨y,cs',h1,hy,hg⟩
  obtain⟨y0,_⟩:=key 0 (by omega)
  haveI:Inhabited α:=⟨y0⟩
  obtain⟨Y,hY⟩:=choose_lt (n:=len) (p:=fun i y=>∃cs',W.cells? 0 (a.add (i * P.cellsOf e)) (P.cellsOf e)=some cs'∧d.K W y cs'∧g y) key
  have hlen:((List.range len).map Y).length=len:=by simp
  refine⟨(List.range len).map Y,⟨some a,m,by rw[hlen],by rw[hlen];exact hl,rfl,?_,fun _=>⟨a,rfl,?_⟩⟩,by rw[hlen];omega,?_⟩
  ·rw[hlen];unfold maxLen at hm;omega
  ·intro j p hj
   rw[List.getElem?_map]at hj
   obtain⟨j',hj',rfl⟩:=Option.map_eq_some_iff.1 hj
   obtain⟨hlt,rfl⟩:=List.getElem?_eq_some_iff.1 hj'
   simp only[List.length_range]at hlt
   obtain⟨cs',h1,h2,_⟩:=hY j hlt
   obtain⟨_,hcl,hat⟩:=World.cells?_some h1
   simp only[List.getElem_range]
   refine⟨cs',d.K_len h2,h2,fun i u hu=> ?_⟩
   have hil:i<cs'.length:=(List.getElem?_eq_some_iff.1 hu).1
   have:=hat i (by omega)
   rw[hu,hsz,Go.Deep.add_add]at this
   exact this
  ·intro z hz
   obtain⟨i,hi2,rfl⟩:=List.mem_map.1 hz
   obtain⟨_,_,_,hg⟩:=hY i (by simpa using hi2)
   exact hg
def OpensFs {α:Type} (P:Program) (l:List Field) (off:Nat) (d:Kd α) (g:α→Prop):Prop:=
 ∀(H:Type) (enc:TypeId×Value→H) (W:World) (fuel:Nat) (cs:List Value),cs.length=off+d.sz→(∀(f:Field),f ∈ l→ ∃x,DataW.trod enc P W 0 (fun _=>true) true fuel f.type ((cs.drop f.offset).take (P.cellsOf f.type))=some x)→ ∃a,d.K W a (cs.drop off)∧g a
theorem fs_one {α:Type} {P:Program} {f:Field} {off:Nat} {d:Kd α} {g:α→Prop} (hoff:f.offset=off) (hsz:P.cellsOf f.type=d.sz) (ho:Opens P f.type d g):OpensFs P [f] off d g:=by
 intro H enc W fuel cs hl hf
 obtain⟨x,hx⟩:=hf f (by simp)
 rw[hoff,hsz,List.take_of_length_le (by rw[List.length_drop];omega)]at hx
 exact ho H enc W fuel _ _ hx
theorem fs_cons {α β:Type} {P:Program} {f:Field} {l:List Field} {off:Nat} {d:Kd α} {d2:Kd β} {g:α→Prop} {g2:β→Prop} (hoff:f.offset=off) (hsz:P.cellsOf f.type=d.sz) (ho:Opens P f.type d g) (hr:OpensFs P l (off+d.sz) d2 g2):
  OpensFs P (f::l) off (Kd.pair d d2) (fun x=>g x.1∧g2 x.2):=by
 intro H enc W fuel cs hl hf
 obtain⟨x,hx⟩:=hf f (by simp)
 rw[hoff,hsz]at hx
 obtain⟨a,ha,hga⟩:=ho H enc W fuel _ _ hx
 obtain⟨b,hb,hgb⟩:=hr H enc W fuel cs (by rw[hl];show off+(d.sz+d2.sz)=off+d.sz+d2.sz;omega) (fun f' hf'=>hf f' (by simp[hf']))
 refine⟨(a,b),⟨_,_,?_,ha,hb⟩,hga,hgb⟩
 rw[←List.drop_drop,List.take_append_drop]
theorem opens_struct {α β:Type} {P:Program} {t:TypeId} {l:List Field} {d:Kd α} {g:α→Prop} (p:β→α) (q:α→β) (hqp:∀x,p (q x)=x) (ht:P.underlying t=some (.struct l.toArray)) (hsz:P.cellsOf t=d.sz) (hf:OpensFs P l 0 d g):
  Opens P t (Kd.iso d p) (fun x=>g (p x)):=by
 intro H enc W fuel cs x h
 obtain⟨xs,n,rfl,_,hl,hxl,hx⟩:=DataW.trod_struct ht h
 obtain⟨a,ha,hg⟩:=hf H enc W n cs (by omega) (fun f hfm=>by
  obtain⟨i,hi,he⟩:=List.getElem_of_mem hfm
  have hh:=hx i f (by rw[←he];simp[hi])
  have hlt:i<xs.length:=by rw[hxl];simpa using hi
  rw[List.getElem?_eq_getElem hlt]at hh
  exact⟨_,hh⟩)
 refine⟨q a,?_,?_⟩
 ·show d.K W (p (q a)) cs
  rw[hqp]
  simpa using ha
 ·show g (p (q a))
  rw[hqp]
  exact hg
theorem agg_of {P:Program} {w:World} {r:Reach} {b:Nat} {t:TypeId} {v:Value} {fs:Array Field} {L:List Value} (ht:P.underlying t=some (.struct fs)) (hv:Value.okWide P w r b t v) (hL:v.cells.toList=L):v=.agg L.toArray:=by
 obtain⟨cs,rfl,_⟩:=okWide_struct ht hv
 have:cs.toList=L:=by simpa[Value.cells]using hL
 rw[←this]
theorem slice_of {P:Program} {w:World} {r:Reach} {b:Nat} {t e:TypeId} {v u:Value} (ht:P.underlying t=some (.slice e)) (hv:Value.okWide P w r b t v) (hL:v.cells.toList= [u]):v=u:=by
 obtain⟨a,n,c,rfl⟩:=okWide_slice ht hv
 simpa[Value.cells]using hL
theorem trod_blocks {H:Type} {enc:TypeId×Value→H} {P:Program} {W:World} {t:TypeId} {v:Value} {d:DataW H} {ps:List MemPlace} (h:DataW.Trod enc P W 0 (fun _=>true) true t v d ps):∀x ∈ ps,x.block<W.heap.size:=by
 obtain⟨m,hm⟩:=h
 exact DataW.trod_lt m _ _ _ hm
end Go.Proofs.Ytblceimapaenlaa.OpenKit
