/- Small facts that the contracts given by hand use: a row that is read at nil is empty. -/
import Derived.Test.YtaceidiookkocaaWWords
import Derived.Lib.LazyBuf
namespace Go.Proofs.Ytaceidiookkocaa.Ext
open Go.RowKit Go.Proofs.YtaceidiookkocaaW.PrintWords
theorem nil_of_C {α : Type} {d : Kd α} {w : World} {n : Nat} {xs : List α} (h : Kd.C d w none n xs) : xs = [] := by
  rcases Nat.eq_zero_or_pos n with h0 | h0
  · exact List.eq_nil_of_length_eq_zero (h.1.trans h0)
  · obtain ⟨ad, he, _⟩ := h.2.2 h0
    cases he
end Go.Proofs.Ytaceidiookkocaa.Ext
