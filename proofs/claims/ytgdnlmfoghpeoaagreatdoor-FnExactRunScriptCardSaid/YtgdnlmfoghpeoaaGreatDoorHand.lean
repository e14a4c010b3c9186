/- What a call has made lies from the old end of memory on; what is written lies elsewhere than what is kept: rows by ranges of blocks. For walks written by hand. -/
import Derived.Test.YtgdnlmfoghpeoaaGreatDoorWWords
import Derived.Test.YtgdnlmfoghpeoaaGreatDoorWLast
import Derived.Test.YtgdnlmfoghpeoaaGreatDoorWMore
import Derived.Test.YtgdnlmfoghpeoaaGreatDoorWApart
import Derived.Test.YtgdnlmfoghpeoaaGreatDoorWKept
namespace Go.Proofs.YtgdnlmfoghpeoaaGreatDoor.Hand
open Go.RowKit Go.Proofs.YtgdnlmfoghpeoaaGreatDoorW.PrintWords Go.Proofs.YtgdnlmfoghpeoaaGreatDoorW.PrintLast Go.Proofs.YtgdnlmfoghpeoaaGreatDoorW.PrintMore
section
variable {α:Type} {d:Kd α} {e base base' n:Nat} {ok:Nat→Prop} {w w1 w2 W:World} {v:Value} {xs:List α} {P:Nat→Prop}
def In (n m:Nat) (k:Nat):Prop:=n≤k∧k<m
theorem apart {a b c d':Nat} (h:b≤c):∀k,In a b k→ ¬In c d' k:=fun _ h1 h2=>by have:=h1.2;have:=h2.1;omega
end
end Go.Proofs.YtgdnlmfoghpeoaaGreatDoor.Hand
