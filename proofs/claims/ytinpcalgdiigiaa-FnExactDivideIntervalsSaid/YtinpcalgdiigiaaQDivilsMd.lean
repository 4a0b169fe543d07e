import Derived.Test.YtinpcalgdiigiaaQDivilsPDx1
import Derived.Test.YtinpcalgdiigiaaQDivilsMc
/- Products of dyadic numbers: lemmas on the printed functions. -/
namespace Go.Proofs.Ytinpcalgdiigiaa.PD
open Go.RowKit Go.Proofs.YtinpcalgdiigiaaW.PrintWords Go.Proofs.YtinpcalgdiigiaaW.PrintLast Go.Proofs.YtinpcalgdiigiaaW.PrintMore
theorem abs_eq {a : Int} (ha : Small a) : spec_l1Abs.f a = some (if a < 0 then -a else a) := by
  obtain ⟨a1, a2⟩ := ha
  unfold spec_l1Abs.f spec_l1Most.f
  rw [w64 (by omega) (by omega)]
  by_cases h : a < 0
  · rw [if_neg (by omega), if_pos h]; rfl
  · rw [if_neg h]
    by_cases h2 : a > -a
    · rw [if_pos h2]; rfl
    · rw [if_neg h2]; simp only [Option.bind_some]; congr 1; omega
end Go.Proofs.Ytinpcalgdiigiaa.PD
