import Derived.Test.YtinpcalgdiigiaaQPowealPDx1
import Derived.Test.YtinpcalgdiigiaaQPowealMg
/- Intervals rounded outward: lemmas on the printed functions. -/
namespace Go.Proofs.Ytinpcalgdiigiaa.PD
open Go.RowKit Go.Proofs.YtinpcalgdiigiaaW.PrintWords Go.Proofs.YtinpcalgdiigiaaW.PrintLast Go.Proofs.YtinpcalgdiigiaaW.PrintMore
/-- A number rounded down. -/
def rd (a j : Int) (p : Nat) : Int × Int := rnd a j.toNat p
/-- An interval rounded outward. -/
def rndI (a j b k : Int) (p : Nat) : Int × Int × Int × Int := ((rd a j p).1, (rd a j p).2, -(rd (-b) k p).1, (rd (-b) k p).2)
theorem rd_small {a j : Int} (ha : good a j = true) {p : Nat} : Small (rd a j p).1 := rnd_small (good_small ha)
theorem spec_round {a j : Int} (ha : good a j = true) {p : Nat} (hp : p ≤ 24) : Ev (fun K => spec_dyRound.f K a j (p : Int)) (rd a j p) := by
  obtain ⟨ka, rfl, hka⟩ := good_k ha
  exact dyRound_ev (good_small ha) hka hp
theorem impl_round {a j : Int} (ha : good a j = true) {p : Nat} (hp : p ≤ 24) : Ev (fun K => impl_roundDown.f K a j (p : Int)) (rd a j p) := by
  obtain ⟨ka, rfl, hka⟩ := good_k ha
  exact roundDown_ev (good_small ha) hka hp
theorem ivRound_ev {a j b k : Int} (ha : good a j = true) (hb : good b k = true) {p : Nat} (hp : p ≤ 24) : Ev (fun K => spec_ivRound.f K a j b k (p : Int)) (rndI a j b k p) := by
  obtain ⟨K0, h0⟩ := spec_round ha hp
  obtain ⟨K1, h1⟩ := spec_round (good_neg hb) hp
  dsimp only at h0 h1
  refine ⟨K0 + K1, fun K hK => ?_⟩
  dsimp only; unfold spec_ivRound.f spec_ivUp.f
  rw [h0 K (by omega), dyMinus_eq (good_small hb)]; simp only [bs]
  rw [h1 K (by omega)]; simp only [bs]
  rw [dyMinus_eq (rd_small (good_neg hb))]; rfl
theorem roundOut_ev {a j b k : Int} (ha : good a j = true) (hb : good b k = true) {p : Nat} (hp : p ≤ 24) : Ev (fun K => impl_roundOut.f K a j b k (p : Int)) (rndI a j b k p) := by
  obtain ⟨K0, h0⟩ := impl_round ha hp
  obtain ⟨K1, h1⟩ := impl_round (good_neg hb) hp
  dsimp only at h0 h1
  refine ⟨K0 + K1, fun K hK => ?_⟩
  dsimp only; unfold impl_roundOut.f
  rw [h0 K (by omega), minus_eq (good_small hb)]; simp only [bs]
  rw [h1 K (by omega)]; simp only [bs]
  rw [minus_eq (rd_small (good_neg hb))]; rfl
end Go.Proofs.Ytinpcalgdiigiaa.PD
