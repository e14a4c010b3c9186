/- What a call that writes rows of two types leaves as it was. No condition. -/
import Derived.Test.YtaceidiookkocaaWWords
import Derived.Test.YtaceidiookkocaaWApart
import Derived.Test.YtaceidiookkocaaWKept
import Derived.Test.YtaceidiookkocaaWMore
namespace Go.Proofs.Ytaceidiookkocaa.Pt
open Go.RowKit Go.Proofs.YtaceidiookkocaaW.PrintWords Go.Proofs.YtaceidiookkocaaW.PrintLast Go.Proofs.YtaceidiookkocaaW.PrintMore
def Ty (b n m:Nat) (W:World) (k:Nat):Prop:=b≤k∧ ∃(cells:Array Value) (q:Nat),(q=n∨q=m)∧W.heap[k]? =some (.cells cells q (0,0))
section
variable {α:Type} {d:Kd α} {e base b n m:Nat} {ok:Nat→Prop} {W w1:World} {v:Value} {xs:List α}
theorem not_ty {k t:Nat} {cs:Array Value} (h:W.heap[k]? =some (.cells cs t (0,0))) (ht:t≠n∧t≠m):¬Ty b n m W k:=by
 rintro⟨_,c2,q2,h2,h3⟩
 rw[h]at h3
 injection h3 with h3
 injection h3 with _ h3
 subst h3
 exact h2.elim ht.1 ht.2
theorem own (h:Kd.S d e W base ok v xs) (hE:∀q,q ∈ e::d.E→q=n∨q=m):Kd.S d e W base (Ty base n m W) v xs:=
 Kd.S_mono (Kd.S_bound h) (fun k hk=>⟨hk.2.1,by
  obtain⟨_,_,_,q,hq,cells,hc⟩:=hk
  exact⟨cells,q,hE q hq,hc⟩⟩)
theorem S_past (h:Kd.S d e W base ok v xs) (hk:Kept W w1 (Ty b n m W)) (hE:∀q,q ∈ e::d.E→q≠n∧q≠m):Kd.S d e w1 base ok v xs:=
 Kd.S_mono (Kd.S_kept (Kd.S_bound h) hk (fun k hk2=>by
  obtain⟨_,_,_,q,hq,cells,hc⟩:=hk2
  exact not_ty hc (hE q hq))) (fun _ h=>h.1)
theorem R_past (h:Kd.R d e W base ok v xs) (hk:Kept W w1 (Ty b n m W)) (hE:∀q,q ∈ e::d.E→q≠n∧q≠m):Kd.R d e w1 base ok v xs:=
 Kd.R_mono (Kd.R_kept (Kd.R_bound h) hk (fun k hk2=>by
  obtain⟨_,_,_,q,hq,cells,hc⟩:=hk2
  exact not_ty hc (hE q hq))) (fun _ h=>h.1)
theorem blk {g t:Nat} {cs:Array Value} (h:W.heap[g]? =some (.cells cs t (0,0))) (hk:Kept W w1 (Ty b n m W)) (ht:t≠n∧t≠m):w1.heap[g]? =some (.cells cs t (0,0)):=
 blk_kept h hk (not_ty h ht)
theorem C_own {A:Option Addr} {c l:Nat} (h:Kd.R d e W base ok (.slice A l c) xs) (hE:∀q,q ∈ e::d.E→q≠n∧q≠m):∀W',Kept W W' (fun k_=>Ty b n m W k_)→Kd.C d W' A l xs:=
 Kd.C_kept_own (Kd.R_bound h) (fun k hk2=>by
  obtain⟨_,_,_,q,hq,cells,hc⟩:=hk2
  exact not_ty hc (hE q hq))
end
end Go.Proofs.Ytaceidiookkocaa.Pt
