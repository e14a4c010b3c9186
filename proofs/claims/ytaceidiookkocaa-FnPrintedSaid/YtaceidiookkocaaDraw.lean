/- A byte out of a mask: between 0 and 255, whatever is masked. -/
import Derived.Test.YtaceidiookkocaaWWords
import Derived.Laws.BitsLemmas
namespace Go.Proofs.Ytaceidiookkocaa.Draw
open Go.RowKit
theorem and255 (x:Int):0≤Go.bits .and .i64 x 255∧Go.bits .and .i64 x 255≤255:=by
 have h:(BitVec.ofInt 64 x &&& BitVec.ofInt 64 255).toNat≤255:=by
  rw[BitVec.toNat_and]
  exact Nat.le_trans Nat.and_le_right (by decide)
 have e:Go.bits .and .i64 x 255=IntKind.i64.wrap ((BitVec.ofInt 64 x &&& BitVec.ofInt 64 255).toNat:Int):=rfl
 rw[e,IntKind.wrap_i64]
 omega
end Go.Proofs.Ytaceidiookkocaa.Draw
