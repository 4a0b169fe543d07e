import Derived.Test.YtgaoniapddpaaaaQCornOfPDx1
import Derived.Test.YtgaoniapddpaaaaQCornOfMs
/- What a law writes over a box and over a list of dyadic numbers, and reads again: plain lemmas on the printed functions. -/
namespace Go.Proofs.Ytgaoniapddpaaaa.PD
open Go.RowKit Go.Proofs.YtgaoniapddpaaaaW.PrintWords Go.Proofs.YtgaoniapddpaaaaW.PrintLast Go.Proofs.YtgaoniapddpaaaaW.PrintMore
theorem markInt_l0 : ∀ (d i : Nat) (v : Int) (x : List Int), i + d = x.length → x.length ≤ 1000000 → 0 ≤ v → v + d ≤ 100000000 → ∃ y : List Int, ∀ K, d < K → laws_markIntS.l0 K x v (i : Int) = some (v + (d : Int), y) := by
  intro d
  induction d with
  | zero =>
    intro i v x hi hx h0 hv
    refine ⟨x, fun K hK => ?_⟩
    obtain ⟨K, rfl⟩ : ∃ j, K = j + 1 := ⟨K - 1, by omega⟩
    simp only [laws_markIntS.l0]
    rw [if_neg (by omega)]
    simp
  | succ d ih =>
    intro i v x hi hx h0 hv
    obtain ⟨y, h⟩ := ih (i + 1) (v + 1) (x.set i v) (by rw [List.length_set]; omega) (by rw [List.length_set]; omega) (by omega) (by omega)
    refine ⟨y, fun K hK => ?_⟩
    obtain ⟨K, rfl⟩ : ∃ j, K = j + 1 := ⟨K - 1, by omega⟩
    simp only [laws_markIntS.l0]
    rw [if_pos (by omega), if_pos (by omega), Int.toNat_natCast, w64 (x := v + 1) (by omega) (by omega), w64 (by omega) (by omega), show (i : Int) + 1 = ((i + 1 : Nat) : Int) by omega, h K (by omega)]
    rw [show v + 1 + (d : Int) = v + ((d + 1 : Nat) : Int) by omega]
theorem markBox_ev (k : Int) {L H : List Int} (hL : L.length ≤ 1000000) (hH : H.length ≤ 1000000) : ∃ r : Int × List Int × List Int, 0 ≤ r.1 ∧ Ev (fun K => laws_markBox.f K k L H 101) r := by
  obtain ⟨y, h1⟩ := markInt_l0 L.length 0 101 L (by omega) hL (by omega) (by omega)
  obtain ⟨z, h2⟩ := markInt_l0 H.length 0 (101 + (L.length : Int)) H (by omega) hH (by omega) (by omega)
  refine ⟨(101 + (L.length : Int) + (H.length : Int), y, z), (by show 0 ≤ 101 + (L.length : Int) + (H.length : Int); omega), L.length + H.length + 1, fun K hK => ?_⟩
  dsimp only; unfold laws_markBox.f laws_markIntS.f
  rw [show (0 : Int) = ((0 : Nat) : Int) from rfl, h1 K (by omega)]; simp only [bs']
  rw [h2 K (by omega)]; simp only [bs']
theorem rdD_at {l : List S37} {i : Nat} : rd_T37 l (i : Int) = l.getD i z37 := by unfold rd_T37; rw [Int.toNat_natCast]
theorem eqDS_ev {l : List S37} (hl : l.length ≤ 1000000) : Ev (fun K => laws_eqDyadicS.f K l l) true := by
  have key : ∀ (d i K : Nat), i + d = l.length → d < K → laws_eqDyadicS.l0 K l l (i : Int) = some true := by
    intro d
    induction d with
    | zero =>
      intro i K hi hK
      obtain ⟨K, rfl⟩ : ∃ j, K = j + 1 := ⟨K - 1, by omega⟩
      simp only [laws_eqDyadicS.l0]
      rw [if_neg (by omega)]
    | succ d ih =>
      intro i K hi hK
      obtain ⟨K, rfl⟩ : ∃ j, K = j + 1 := ⟨K - 1, by omega⟩
      simp only [laws_eqDyadicS.l0]
      rw [if_pos (by omega), if_pos (by omega), if_pos (by omega), eqDy_self]; simp only [bs', if_true]
      rw [w64 (by omega) (by omega), show (i : Int) + 1 = ((i + 1 : Nat) : Int) by omega]
      exact ih (i + 1) K (by omega) (by omega)
  refine ⟨l.length + 1, fun K hK => ?_⟩
  dsimp only; unfold laws_eqDyadicS.f
  rw [if_pos rfl]
  exact key l.length 0 _ (by omega) (by omega)
theorem rdD_set {x : List S37} {i : Nat} (h : i < x.length) (a : S37) : rd_T37 (x.set i a) (i : Int) = a := by
  rw [rdD_at, List.getD_eq_getElem?_getD, List.getElem?_set_self h]; rfl
end Go.Proofs.Ytgaoniapddpaaaa.PD
