import Derived.Test.YtgaoniapddpaaaaQBoxOOfPDx1
import Derived.Test.YtgaoniapddpaaaaQBoxOOfMu
/- FnExactBoxOf, told over numbers and lists alone: the law's printed function answers true. -/
namespace Go.Proofs.Ytgaoniapddpaaaa.Pure
open Go.RowKit Go.Proofs.Ytgaoniapddpaaaa.PD Go.Proofs.YtgaoniapddpaaaaW.PrintWords Go.Proofs.YtgaoniapddpaaaaW.PrintLast Go.Proofs.YtgaoniapddpaaaaW.PrintMore
theorem intactIS_self (l : List Int) : laws_intactIntS.f l l = some true := by unfold laws_intactIntS.f; rw [if_pos rfl]
def resB (a : Int) (L H : List Int) : Int × List Int × List Int × Bool := if 0 ≤ a ∧ a ≤ 20 ∧ ¬ (L ++ H).any impl_BoxOf.p = true then boxR a.toNat L H else (0, [], [], false)
theorem implBoxOf_ev {a : Int} {L H : List Int} (hL : L.length ≤ 1000000) (hH : H.length ≤ 1000000) (rL : Rng L) (rH : Rng H) : Ev (fun K => impl_BoxOf.f K a L H) (resB a L H) := by
  by_cases ha : 0 ≤ a ∧ a ≤ 20
  · obtain ⟨r, ⟨K1, e1⟩, hr⟩ := ix_ev_B (l := L ++ H) (by rw [List.length_append]; omega)
    obtain ⟨n, rfl⟩ := Int.eq_ofNat_of_zero_le ha.1
    obtain ⟨K2, e2⟩ := boxOf_ev (k := n) (by omega) hL hH rL rH
    dsimp only at e1 e2
    refine ⟨K1 + K2, fun K hK => ?_⟩
    dsimp only; unfold impl_BoxOf.f resB
    rw [inside_eq, decide_eq_true ha]; simp only [bs']
    rw [if_pos trivial, if_pos (by omega), e1 _ (by omega)]; simp only [bs']
    by_cases hp : (L ++ H).any impl_BoxOf.p = true
    · rw [if_pos (hr.2 hp), if_neg (fun h => h.2.2 hp)]
    · rw [if_neg (fun h => hp (hr.1 h)), if_pos ⟨ha.1, ha.2, hp⟩, Int.toNat_natCast]
      exact e2 _ (by omega)
  · refine ⟨0, fun K hK => ?_⟩
    dsimp only; unfold impl_BoxOf.f resB
    rw [inside_eq, decide_eq_false ha]; simp only [bs']
    rw [if_neg (by decide), if_neg (fun h => ha ⟨h.1, h.2.1⟩)]
theorem specBoxOf_ev {a : Int} {L H : List Int} (hL : L.length ≤ 1000000) (hH : H.length ≤ 1000000) (rL : Rng L) (rH : Rng H) : Ev (fun K => spec_BoxOf.f K a L H) (resB a L H) := by
  by_cases ha : 0 ≤ a ∧ a ≤ 20
  · obtain ⟨n, rfl⟩ := Int.eq_ofNat_of_zero_le ha.1
    obtain ⟨K1, e1⟩ := l1All_ev hL
    obtain ⟨K2, e2⟩ := l1All_ev hH
    dsimp only at e1 e2
    by_cases hl : 1 ≤ L.length ∧ L.length ≤ 3 ∧ H.length = L.length
    · obtain ⟨K3, e3⟩ := bxMake_ev (k := n) (by omega) hL hl.2.2 rL rH
      dsimp only at e3
      refine ⟨K1 + K2 + K3, fun K hK => ?_⟩
      dsimp only; unfold spec_BoxOf.f resB
      rw [l1In_eq, decide_eq_true ha]; simp only [bs']
      rw [if_pos trivial, if_pos (by omega), l1In_eq, decide_eq_true (show (1 : Int) ≤ (L.length : Int) ∧ (L.length : Int) ≤ 3 by omega)]; simp only [bs']
      rw [if_pos trivial, e1 _ (by omega)]; simp only [bs']
      rw [List.any_append, Int.toNat_natCast]
      by_cases h1 : L.any impl_BoxOf.p = true
      · rw [h1, if_neg (by decide), if_neg (by simp)]
      · rw [Bool.eq_false_iff.mpr h1, Bool.not_false, if_pos rfl, e2 _ (by omega), Bool.false_or]; simp only [bs']
        by_cases h2 : H.any impl_BoxOf.p = true
        · rw [h2, if_neg (by decide), if_neg (by simp)]
        · rw [Bool.eq_false_iff.mpr h2, Bool.not_false, if_pos rfl, if_pos ⟨ha.1, ha.2, by decide⟩, e3 _ (by omega)]; simp only [bs']
    · refine ⟨0, fun K hK => ?_⟩
      have hR : resB (n : Int) L H = (0, [], [], false) := by
        unfold resB
        rw [Int.toNat_natCast, boxR_not hl]
        split <;> rfl
      rw [hR]
      dsimp only; unfold spec_BoxOf.f
      rw [l1In_eq, decide_eq_true ha]; simp only [bs']
      rw [if_pos trivial]
      by_cases h1 : (L.length : Int) = (H.length : Int)
      · rw [if_pos h1, l1In_eq, decide_eq_false (show ¬ ((1 : Int) ≤ (L.length : Int) ∧ (L.length : Int) ≤ 3) by omega)]; simp only [bs']
        rw [if_neg (by decide)]
      · rw [if_neg h1]
  · refine ⟨0, fun K hK => ?_⟩
    dsimp only; unfold spec_BoxOf.f resB
    rw [l1In_eq, decide_eq_false ha]; simp only [bs']
    rw [if_neg (by decide), if_neg (fun h => ha ⟨h.1, h.2.1⟩)]
theorem resB_len (a : Int) (L H : List Int) : (resB a L H).2.1.length ≤ 3 ∧ (resB a L H).2.2.1.length ≤ 3 := by
  unfold resB
  split
  · exact boxR_len _ _ _
  · exact ⟨by simp, by simp⟩
theorem FnExactBoxOf (a0 : Int) (l1 l2 : List Int) (_w0 : (Lit.int .i64 a0).wf = true) (w1 : l1.length ≤ maxLen ∧ ∀ y ∈ l1, (Lit.int .i64 y).wf = true) (w2 : l2.length ≤ maxLen ∧ ∀ y ∈ l2, (Lit.int .i64 y).wf = true) (z1 : l1.length * 8 ≤ 140737488351232) (z2 : l2.length * 8 ≤ 140737488351232) : ∃ k, laws_FnExactBoxOf.f k a0 l1 l2 = some true := by
  have r1 : Rng l1 := fun x hx => wf_i64 (w1.2 x hx)
  have r2 : Rng l2 := fun x hx => wf_i64 (w2.2 x hx)
  by_cases hs : (l1.length : Int) + (l2.length : Int) > 1000000
  · refine ⟨0, ?_⟩
    unfold laws_FnExactBoxOf.f
    rw [if_pos (by rw [w64 (by omega) (by omega)]; exact hs)]
  · have h1 : l1.length ≤ 1000000 := by omega
    have h2 : l2.length ≤ 1000000 := by omega
    obtain ⟨K0, e0⟩ := toIntS_ev h1 false
    obtain ⟨K1, e1⟩ := toIntS_ev h2 false
    obtain ⟨K2, e2⟩ := toIntS_ev h1 true
    obtain ⟨K3, e3⟩ := toIntS_ev h2 true
    obtain ⟨K4, e4⟩ := implBoxOf_ev (a := a0) h1 h2 r1 r2
    obtain ⟨K5, e5⟩ := specBoxOf_ev (a := a0) h1 h2 r1 r2
    obtain ⟨K6, e6⟩ := markV_ev h1 (v := 101) (by omega) (by omega)
    obtain ⟨K7, e7⟩ := markV_ev h2 (v := 101 + (l1.length : Int)) (by omega) (by omega)
    obtain ⟨g1, g2⟩ := resB_len a0 l1 l2
    generalize hR : resB a0 l1 l2 = R at e4 e5 g1 g2
    obtain ⟨q0, q1, q2, q3⟩ := R
    dsimp only at g1 g2
    obtain ⟨K8, e8⟩ := eqBox_ev q0 (L := q1) (H := q2) (by omega) (by omega)
    obtain ⟨K9, e9⟩ := markBoxV_ev q0 (L := q1) (H := q2) (by omega) (by omega) (v := 101) (by omega) (by omega)
    obtain ⟨K10, e10⟩ := heldBoxV_ev q0 (n := q1.length) (m := q2.length) (by omega) (by omega) (v := 101) (by omega) (by omega)
    dsimp only at e0 e1 e2 e3 e4 e5 e6 e7 e8 e9 e10
    refine ⟨K0 + K1 + K2 + K3 + K4 + K5 + K6 + K7 + K8 + K9 + K10, ?_⟩
    unfold laws_FnExactBoxOf.f
    rw [if_neg (by rw [w64 (by omega) (by omega)]; exact hs), e0 _ (by omega)]; simp only [bs']
    rw [e1 _ (by omega)]; simp only [bs']
    rw [e5 _ (by omega)]; simp only [bs']
    rw [e4 _ (by omega)]; simp only [bs']
    rw [e8 _ (by omega)]; simp only [bs', if_true]
    rw [if_neg (by simp), intactIS_self]; simp only [bs', if_true]
    rw [intactIS_self]; simp only [bs', if_true]
    rw [e6 _ (by omega)]; simp only [bs']
    rw [e7 _ (by omega)]; simp only [bs']
    rw [if_neg (by omega)]
    rw [e9 _ (by omega)]; simp only [bs']
    rw [e10 _ (by omega)]; simp only [bs', if_true]
    rw [if_neg (by omega), e2 _ (by omega)]; simp only [bs']
    rw [e3 _ (by omega)]; simp only [bs']
    rw [e4 _ (by omega)]; simp only [bs']
    rw [e8 _ (by omega)]; simp only [bs', if_true]
    rw [if_neg (by simp), if_neg (by omega)]
end Go.Proofs.Ytgaoniapddpaaaa.Pure
