import Derived.Test.YtinpcalgdiigiaaQDivilsPDx1
import Derived.Test.YtinpcalgdiigiaaQDivilsMh
import Derived.Test.YtinpcalgdiigiaaQDivilsMi
import Derived.Test.YtinpcalgdiigiaaQDivilsMj
/- Products of intervals: lemmas on the printed functions. -/
namespace Go.Proofs.Ytinpcalgdiigiaa.PD
open Go.RowKit Go.Proofs.YtinpcalgdiigiaaW.PrintWords Go.Proofs.YtinpcalgdiigiaaW.PrintLast Go.Proofs.YtinpcalgdiigiaaW.PrintMore
theorem mk_good (n : Int) (k : Nat) : G ((mk n k).1, (mk n k).2.1) := by
  unfold G mk
  by_cases h : n = 0
  · rw [if_pos h]; decide
  · rw [if_neg h]; unfold fin
    by_cases g : good (redN k n).1 ((redN k n).2 : Int) = true
    · rw [if_pos g]; exact g
    · rw [if_neg g]; decide
/-- The least and the greatest of four. -/
def lo4 (p q r s : Int × Int) : Int × Int := mn2 (mn2 (mn2 p q) r) s
def hi4 (p q r s : Int × Int) : Int × Int := mx2 (mx2 (mx2 p q) r) s
def pp (r : Int × Int × Bool) : Int × Int := (r.1, r.2.1)
end Go.Proofs.Ytinpcalgdiigiaa.PD
