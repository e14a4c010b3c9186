/- An element taken out of a row of one's own by 'slices.Delete': what is written beyond a row's end leaves the row; what clear does. -/
import Derived.Test.YtgdnlmfoghpeoaaGreatDoorWWords
import Derived.Test.YtgdnlmfoghpeoaaGreatDoorWLast
import Derived.Test.YtgdnlmfoghpeoaaGreatDoorWMore
import Derived.Test.YtgdnlmfoghpeoaaGreatDoorWApart
import Derived.Lib.BufferOwn
import Derived.Lib.BufferWrite
import Derived.Laws.IdiomCopy
namespace Go.Proofs.YtgdnlmfoghpeoaaGreatDoor.Del
open Go.RowKit Go.Proofs.YtgdnlmfoghpeoaaGreatDoorW.PrintWords Go.Proofs.YtgdnlmfoghpeoaaGreatDoorW.PrintLast Go.Proofs.YtgdnlmfoghpeoaaGreatDoorW.PrintMore
section
variable {α:Type} {d:Kd α} {e base g n c:Nat} {ok:Nat→Prop} {w:World} {xs:List α}
theorem tail_set (h:Kd.R d e w base ok (.slice (some ⟨g,0,none⟩) n c) xs) (j:Nat) (hj:n * d.sz≤j) (u:Value):Kd.R d e (w.setCell ⟨g,j,none⟩ u) base ok (.slice (some ⟨g,0,none⟩) n c) xs:=by
 have hn:=(Kd.R_reads' h).1
 obtain⟨h0,inner,ho,hr⟩:=h
 refine⟨h0,inner,?_,hr.imp_ (fun _ _ hp=>Kd.M_far (p:=⟨g,j,none⟩) hp (fun k hk he=>hk.2 (by rw[he];rfl)) u)⟩
 obtain⟨h1,h2⟩:=ho
 refine⟨h1,?_⟩
 rcases h2 with⟨hv,_⟩|⟨g',cap,cur,hv,hb,hh,hl,hm,hs,ht⟩
 ·cases hv
 ·injection hv with ha hn' hc'
  injection ha with ha
  injection ha with ha
  subst ha;subst hc'
  refine .inr ⟨g,c,cur.setIfInBounds j u,by rw[←hn'],hb,blk_put hh j u rfl,hl,hm,by simpa using hs,?_⟩
  rw[Array.toList_setIfInBounds,List.take_set_of_le (by rw[←hn];exact hj)]
  exact ht
theorem tail_sets (h:Kd.R d e w base ok (.slice (some ⟨g,0,none⟩) n c) xs):∀(vs:List Value) (j:Nat),n * d.sz≤j→Kd.R d e (w.setCells g j vs) base ok (.slice (some ⟨g,0,none⟩) n c) xs:=by
 intro vs
 induction vs generalizing w with
 |nil=>intro j _;exact h
 |cons v vs ih=>intro j hj;exact ih (tail_set h j hj v) (j+1) (by omega)
theorem grown_sets {a:World} (h:a.grownBy w (some g)):∀(vs:List Value) (j:Nat),a.grownBy (w.setCells g j vs) (some g):=by
 intro vs
 induction vs generalizing w with
 |nil=>intro j;exact h
 |cons v vs ih=>intro j;exact ih (Go.Lib.grownBy_setB h j v) (j+1)
theorem room (h:Kd.R d e w base ok (.slice (some ⟨g,0,none⟩) n c) xs) (j:Nat) (hj:j<c * d.sz):(w.cell? ⟨g,j,none⟩).isSome=true∧w.frozen? ⟨g,j,none⟩=false:=by
 obtain⟨h0,inner,ho,hr⟩:=h
 rcases ho.2 with⟨hv,_⟩|⟨g',cap,cur,hv,hb,hh,hl,hm,hs,ht⟩
 ·cases hv
 ·injection hv with ha hn' hc'
  injection ha with ha
  injection ha with ha
  subst ha;subst hc'
  rw[blk_cell hh,blk_frozen hh]
  exact⟨by rw[Array.getElem?_eq_getElem (by omega)];rfl,rfl⟩
end
section
variable {P:Program}
theorem run_clear_one (w:World) (t e ty:TypeId) (z:Value) (ht:P.underlying t=some (.slice e)) (hv:∀w,(zeroValue e).run P w=.ok z w) (b o c:Nat) (zs:List Value) (hz:(Builtin.zeroCells z.cells 1).toList=zs)
  (hc:∀j,j<zs.length→(w.cell? ⟨b,o+j,none⟩).isSome=true) (hf:∀j,j<zs.length→w.frozen? ⟨b,o+j,none⟩=false) (h1:∀v ∈ zs,v.oneCell'=true):
  (Builtin.clear_ #[t] ty #[.slice (some ⟨b,o,none⟩) 1 c]).run P w=.ok (.tuple #[]) (w.setCells b o zs):=by
 have hst:=run_storeCells_cells (P:=P) b o zs 0 w (by simpa using hc) (by simpa using hf) h1
 simp only[Nat.add_zero]at hst
 simp[Builtin.clear_,run_underlying ht,hv,hz,hst]
theorem cut_top (t e:TypeId) {i:TypeInfo} (ht:P.underlying t=some (.slice e)) (hi:P.info? e=some i) (A:Option Addr) (n c:Nat) (lo hi':Int) (h0:0≤lo) (h1:lo≤hi') (h2:hi'≤n) (hc:n≤c):
  ∀W:World,(Instr.slice t (.slice A n c) (some (.int .i64 lo)) (some (.int .i64 hi')) (some (.int .i64 (n:Int)))).run P W=.ok (.slice (if n=lo.toNat then A else A.map (·.add (lo.toNat * i.size))) (hi'.toNat - lo.toNat) (n - lo.toNat)) W:=by
 intro W
 have hel:P.elem t=e:=by simp[Program.elem,ht]
 have hu:P.underlying t=some (.slice (P.elem t)):=by rw[hel];exact ht
 rw[run_slice_lhm W t A n c hu .i64 .i64 .i64 lo hi' n h0 h1 h2 (by omega),hel]
 simp[sizeOf,typeInfo,hi,sliced,Result.andThen]
theorem cut_tail (t e:TypeId) {i:TypeInfo} (ht:P.underlying t=some (.slice e)) (hi:P.info? e=some i) (size:Nat) (hsz:i.size=size) (g n l c:Nat) (h1:n≤l) (h2:l≤c) (h3:n<c):
  ∀W:World,(Instr.slice t (.slice (some ⟨g,0,none⟩) n c) (some (.int .i64 (n:Int))) (some (.int .i64 (l:Int))) none).run P W=.ok (.slice (some ⟨g,n * size,none⟩) (l - n) (c - n)) W:=by
 intro W
 have hel:P.elem t=e:=by simp[Program.elem,ht]
 have hu:P.underlying t=some (.slice (P.elem t)):=by rw[hel];exact ht
 rw[run_slice_lh W t _ n c hu .i64 .i64 n l (by omega) (by omega) (by omega),hel]
 have hne:¬c=n:=by omega
 have e1:((l:Int).toNat)=l:=Int.toNat_natCast l
 have e2:((n:Int).toNat)=n:=Int.toNat_natCast n
 rw[e1,e2]
 simp[sizeOf,typeInfo,hi,hsz,sliced,Result.andThen,hne,Addr.add]
 intro h;exact h.symm
end
end Go.Proofs.YtgdnlmfoghpeoaaGreatDoor.Del
