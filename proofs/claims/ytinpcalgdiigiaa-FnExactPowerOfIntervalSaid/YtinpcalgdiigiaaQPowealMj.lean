import Derived.Test.YtinpcalgdiigiaaQPowealPDx1
import Derived.Test.YtinpcalgdiigiaaQPowealMg
import Derived.Test.YtinpcalgdiigiaaQPowealMd
/- What the reckoner keeps: lemmas on the printed functions. -/
namespace Go.Proofs.Ytinpcalgdiigiaa.PD
open Go.RowKit Go.Proofs.YtinpcalgdiigiaaW.PrintWords Go.Proofs.YtinpcalgdiigiaaW.PrintLast Go.Proofs.YtinpcalgdiigiaaW.PrintMore
/-- A result, if all before it were valid. -/
def kp (s : Bool) (r : Int × Int × Bool) : Int × Int × Bool := if s = true ∧ r.2.2 = true then r else (0, 0, false)
/-- The interval between two ends, if both are told. -/
def both (r t : Int × Int × Bool) : Int × Int × Int × Int × Bool := if r.2.2 = true ∧ t.2.2 = true then (r.1, r.2.1, t.1, t.2.1, true) else (0, 0, 0, 0, false)
theorem keep_eq (s : Bool) (r : Int × Int × Bool) : impl_reckoner_keep.f s r.1 r.2.1 r.2.2 = some (kp s r) := by
  obtain ⟨a, b, c⟩ := r
  unfold impl_reckoner_keep.f kp
  cases s <;> cases c <;> rfl
theorem result_eq (s : Bool) (a b c d : Int) : impl_reckoner_result.f s a b c d = some (if s = true then (a, b, c, d, true, true) else (0, 0, 0, 0, false, false)) := by
  unfold impl_reckoner_result.f
  cases s <;> rfl
theorem product_ev (s : Bool) {a b : Int} {ka kb : Nat} (ha : Small a) (hb : Small b) (hka : ka ≤ 24) (hkb : kb ≤ 24) :
    Ev (fun K => impl_reckoner_product.f K s a (ka : Int) b (kb : Int)) (kp s (mk (a * b) (ka + kb))) := by
  obtain ⟨K0, h0⟩ := productOf_ev ha hb hka hkb
  dsimp only at h0
  refine ⟨K0, fun K hK => ?_⟩
  dsimp only; unfold impl_reckoner_product.f
  rw [h0 K hK]; simp only [bs]
  rw [keep_eq]; simp only [bs]
end Go.Proofs.Ytinpcalgdiigiaa.PD
