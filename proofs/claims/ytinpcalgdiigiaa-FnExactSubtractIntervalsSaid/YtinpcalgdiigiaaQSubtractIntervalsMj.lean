import Derived.Test.YtinpcalgdiigiaaQSubtractIntervalsPDx1
import Derived.Test.YtinpcalgdiigiaaQSubtractIntervalsMg
import Derived.Test.YtinpcalgdiigiaaQSubtractIntervalsMc
/- What the reckoner keeps: lemmas on the printed functions. -/
namespace Go.Proofs.Ytinpcalgdiigiaa.PD
open Go.RowKit Go.Proofs.YtinpcalgdiigiaaW.PrintWords Go.Proofs.YtinpcalgdiigiaaW.PrintLast Go.Proofs.YtinpcalgdiigiaaW.PrintMore
/-- A result, if all before it were valid. -/
def kp (s : Bool) (r : Int × Int × Bool) : Int × Int × Bool := if s = true ∧ r.2.2 = true then r else (0, 0, false)
/-- The interval between two ends, if both are told. -/
def both (r t : Int × Int × Bool) : Int × Int × Int × Int × Bool := if r.2.2 = true ∧ t.2.2 = true then (r.1, r.2.1, t.1, t.2.1, true) else (0, 0, 0, 0, false)
theorem ivBoth_eq (r t : Int × Int × Bool) : spec_ivBoth.f r.1 r.2.1 r.2.2 t.1 t.2.1 t.2.2 = some (both r t) := by
  obtain ⟨a, b, c⟩ := r
  obtain ⟨d, e, f⟩ := t
  unfold spec_ivBoth.f both
  cases c <;> cases f <;> rfl
theorem keep_eq (s : Bool) (r : Int × Int × Bool) : impl_reckoner_keep.f s r.1 r.2.1 r.2.2 = some (kp s r) := by
  obtain ⟨a, b, c⟩ := r
  unfold impl_reckoner_keep.f kp
  cases s <;> cases c <;> rfl
theorem result_eq (s : Bool) (a b c d : Int) : impl_reckoner_result.f s a b c d = some (if s = true then (a, b, c, d, true, true) else (0, 0, 0, 0, false, false)) := by
  unfold impl_reckoner_result.f
  cases s <;> rfl
theorem sum_ev (s : Bool) {a b : Int} {ka kb : Nat} (ha : Small a) (hb : Small b) (hka : ka ≤ 24) (hkb : kb ≤ 24) :
    Ev (fun K => impl_reckoner_sum.f K s a (ka : Int) b (kb : Int)) (kp s (mk (over a ka kb + over b kb ka) (max ka kb))) := by
  obtain ⟨K0, h0⟩ := sumOf_ev ha hb hka hkb
  dsimp only at h0
  refine ⟨K0, fun K hK => ?_⟩
  dsimp only; unfold impl_reckoner_sum.f
  rw [h0 K hK]; simp only [bs]
  rw [keep_eq]; simp only [bs]
theorem both_kp (r t : Int × Int × Bool) : some ((if (kp (kp true r).2.2 t).2.2 = true then ((kp true r).1, (kp true r).2.1, (kp (kp true r).2.2 t).1, (kp (kp true r).2.2 t).2.1, true, true) else (0, 0, 0, 0, false, false)).1,
    (if (kp (kp true r).2.2 t).2.2 = true then ((kp true r).1, (kp true r).2.1, (kp (kp true r).2.2 t).1, (kp (kp true r).2.2 t).2.1, true, true) else (0, 0, 0, 0, false, false)).2.1,
    (if (kp (kp true r).2.2 t).2.2 = true then ((kp true r).1, (kp true r).2.1, (kp (kp true r).2.2 t).1, (kp (kp true r).2.2 t).2.1, true, true) else (0, 0, 0, 0, false, false)).2.2.1,
    (if (kp (kp true r).2.2 t).2.2 = true then ((kp true r).1, (kp true r).2.1, (kp (kp true r).2.2 t).1, (kp (kp true r).2.2 t).2.1, true, true) else (0, 0, 0, 0, false, false)).2.2.2.1,
    (if (kp (kp true r).2.2 t).2.2 = true then ((kp true r).1, (kp true r).2.1, (kp (kp true r).2.2 t).1, (kp (kp true r).2.2 t).2.1, true, true) else (0, 0, 0, 0, false, false)).2.2.2.2.1) = some (both r t) := by
  obtain ⟨a, b, c⟩ := r
  obtain ⟨d, e, f⟩ := t
  cases c <;> cases f <;> rfl
end Go.Proofs.Ytinpcalgdiigiaa.PD
