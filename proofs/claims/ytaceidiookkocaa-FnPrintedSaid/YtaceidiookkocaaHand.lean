/- What a call has made lies from the old end of memory on; what is written lies elsewhere than what is kept: rows by ranges of blocks. For walks written by hand. -/
import Derived.Test.YtaceidiookkocaaWWords
import Derived.Test.YtaceidiookkocaaWLast
import Derived.Test.YtaceidiookkocaaWMore
import Derived.Test.YtaceidiookkocaaWApart
import Derived.Test.YtaceidiookkocaaWKept
namespace Go.Proofs.Ytaceidiookkocaa.Hand
open Go.RowKit Go.Proofs.YtaceidiookkocaaW.PrintWords Go.Proofs.YtaceidiookkocaaW.PrintLast Go.Proofs.YtaceidiookkocaaW.PrintMore
section
variable {α:Type} {d:Kd α} {e base base' n:Nat} {ok:Nat→Prop} {w w1 w2 W:World} {v:Value} {xs:List α} {P:Nat→Prop}
def In (n m:Nat) (k:Nat):Prop:=n≤k∧k<m
theorem S_past (h:Kd.S d e w base ok v xs) (hk:Kept w w1 P) (hne:∀k,ok k→ ¬P k):Kd.S d e w1 base ok v xs:=Kd.S_mono (Kd.S_keptB h hk hne) (fun _ h=>h.1)
theorem R_past (h:Kd.R d e w base ok v xs) (hk:Kept w w1 P) (hne:∀k,ok k→ ¬P k):Kd.R d e w1 base ok v xs:=Kd.R_mono (Kd.R_keptB h hk hne) (fun _ h=>h.1)
theorem apart {a b c d':Nat} (h:b≤c):∀k,In a b k→ ¬In c d' k:=fun _ h1 h2=>by have:=h1.2;have:=h2.1;omega
end
end Go.Proofs.Ytaceidiookkocaa.Hand
