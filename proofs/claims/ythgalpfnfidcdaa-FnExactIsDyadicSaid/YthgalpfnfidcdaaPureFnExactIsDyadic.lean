/- FnExactIsDyadic, told over numbers alone: the law's printed function answers true. -/
import Derived.Test.YthgalpfnfidcdaaPDx1
import Derived.Test.YthgalpfnfidcdaaMa
namespace Go.Proofs.Ythgalpfnfidcdaa.Pure
open Go.RowKit Go.Proofs.Ythgalpfnfidcdaa.PD Go.Proofs.YthgalpfnfidcdaaW.PrintWords Go.Proofs.YthgalpfnfidcdaaW.PrintLast Go.Proofs.YthgalpfnfidcdaaW.PrintMore
theorem FnExactIsDyadic (a0_0 a0_1 : Int) (_w0_0 : (Lit.int .i64 a0_0).wf = true) (_w0_1 : (Lit.int .i64 a0_1).wf = true) : laws_FnExactIsDyadic.f a0_0 a0_1 = some true := by
  unfold laws_FnExactIsDyadic.f laws_toDyadic.f; simp only [Option.bind_some]
  unfold spec_IsDyadic.f impl_IsDyadic.f
  rw [dyGood_eq, isDyadic_eq]; simp only [Option.bind_some]
  rw [if_neg (by simp)]
end Go.Proofs.Ythgalpfnfidcdaa.Pure
