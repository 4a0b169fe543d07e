import Derived.Test.YthanmlojikidbaaQPolylsMa
/- Boxes: what the law lays and looks at, and when a box is valid: plain lemmas on the printed functions. -/
namespace Go.Proofs.Ythanmlojikidbaa.PD
open Go.RowKit Go.Proofs.YthanmlojikidbaaW.PrintWords Go.Proofs.YthanmlojikidbaaW.PrintLast Go.Proofs.YthanmlojikidbaaW.PrintMore
/-- As Option.bind_some, but no rfl lemma: the kernel is not asked to unfold the callee. -/
theorem bs' {α β : Type} (a : α) (f : α → Option β) : (some a).bind f = f a := id (Option.bind_some a f)
end Go.Proofs.Ythanmlojikidbaa.PD
