import Derived.Test.YtinpcalgdiigiaaQPowealPDx1
import Derived.Test.YtinpcalgdiigiaaQPowealMh
import Derived.Test.YtinpcalgdiigiaaQPowealMi
import Derived.Test.YtinpcalgdiigiaaQPowealMj
/- Products of intervals: lemmas on the printed functions. -/
namespace Go.Proofs.Ytinpcalgdiigiaa.PD
open Go.RowKit Go.Proofs.YtinpcalgdiigiaaW.PrintWords Go.Proofs.YtinpcalgdiigiaaW.PrintLast Go.Proofs.YtinpcalgdiigiaaW.PrintMore
theorem mk_good (n : Int) (k : Nat) : G ((mk n k).1, (mk n k).2.1) := by
  unfold G mk
  by_cases h : n = 0
  · rw [if_pos h]; decide
  · rw [if_neg h]; unfold fin
    by_cases g : good (redN k n).1 ((redN k n).2 : Int) = true
    · rw [if_pos g]; exact g
    · rw [if_neg g]; decide
theorem kp_good {s : Bool} {r : Int × Int × Bool} (h : G (r.1, r.2.1)) : G ((kp s r).1, (kp s r).2.1) := by
  unfold kp
  by_cases c : s = true ∧ r.2.2 = true
  · rw [if_pos c]; exact h
  · rw [if_neg c]; unfold G; decide
/-- A product. -/
def pz (a j b k : Int) : Int × Int × Bool := mk (a * b) (j.toNat + k.toNat)
theorem pz_good (a j b k : Int) : G ((pz a j b k).1, (pz a j b k).2.1) := mk_good _ _
theorem spec_mul {a j b k : Int} (ha : good a j = true) (hb : good b k = true) : Ev (fun K => spec_dyMul.f K a j b k) (pz a j b k) := by
  obtain ⟨ka, rfl, hka⟩ := good_k ha
  obtain ⟨kb, rfl, hkb⟩ := good_k hb
  exact dyMul_ev (good_small ha) (good_small hb) hka hkb
theorem impl_mul (s : Bool) {a j b k : Int} (ha : good a j = true) (hb : good b k = true) : Ev (fun K => impl_reckoner_product.f K s a j b k) (kp s (pz a j b k)) := by
  obtain ⟨ka, rfl, hka⟩ := good_k ha
  obtain ⟨kb, rfl, hkb⟩ := good_k hb
  exact product_ev s (good_small ha) (good_small hb) hka hkb
def pp (r : Int × Int × Bool) : Int × Int := (r.1, r.2.1)
end Go.Proofs.Ytinpcalgdiigiaa.PD
