/- An element taken out of a row of one's own by 'slices.Delete': what is written beyond a row's end leaves the row; what clear does. -/
import Derived.Test.YtaceidiookkocaaWWords
import Derived.Test.YtaceidiookkocaaWLast
import Derived.Test.YtaceidiookkocaaWMore
import Derived.Test.YtaceidiookkocaaWApart
import Derived.Lib.BufferOwn
import Derived.Lib.BufferWrite
import Derived.Laws.IdiomCopy
namespace Go.Proofs.Ytaceidiookkocaa.Del
open Go.RowKit Go.Proofs.YtaceidiookkocaaW.PrintWords Go.Proofs.YtaceidiookkocaaW.PrintLast Go.Proofs.YtaceidiookkocaaW.PrintMore
section
variable {α:Type} {d:Kd α} {e base g n c:Nat} {ok:Nat→Prop} {w:World} {xs:List α}
theorem room (h:Kd.R d e w base ok (.slice (some ⟨g,0,none⟩) n c) xs) (j:Nat) (hj:j<c * d.sz):(w.cell? ⟨g,j,none⟩).isSome=true∧w.frozen? ⟨g,j,none⟩=false:=by
 obtain⟨h0,inner,ho,hr⟩:=h
 rcases ho.2 with⟨hv,_⟩|⟨g',cap,cur,hv,hb,hh,hl,hm,hs,ht⟩
 ·cases hv
 ·injection hv with ha hn' hc'
  injection ha with ha
  injection ha with ha
  subst ha;subst hc'
  rw[blk_cell hh,blk_frozen hh]
  exact⟨by rw[Array.getElem?_eq_getElem (by omega)];rfl,rfl⟩
end
section
variable {P:Program}
end
end Go.Proofs.Ytaceidiookkocaa.Del
