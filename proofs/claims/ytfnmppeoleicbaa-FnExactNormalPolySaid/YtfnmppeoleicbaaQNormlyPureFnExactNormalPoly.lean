import Derived.Test.YtfnmppeoleicbaaQNormlyPDx1
import Derived.Test.YtfnmppeoleicbaaQNormlyMz
/- FnExactNormalPoly, told over numbers and lists alone: the law's printed function answers true. -/
namespace Go.Proofs.Ytfnmppeoleicbaa.Pure
open Go.RowKit Go.Proofs.Ytfnmppeoleicbaa.PD Go.Proofs.YtfnmppeoleicbaaW.PrintWords Go.Proofs.YtfnmppeoleicbaaW.PrintLast Go.Proofs.YtfnmppeoleicbaaW.PrintMore
open Go.Proofs.YtfnmppeoleicbaaCol (Lt Eqk put sums ahd)
theorem mem_getD {l : List S55} {t : S55} (h : t ∈ l) : ∃ i, i < l.length ∧ l.getD i z55 = t := by
  obtain ⟨i, hi, e⟩ := List.getElem_of_mem h
  exact ⟨i, hi, by rw [List.getD_eq_getElem?_getD, List.getElem?_eq_getElem hi]; exact e⟩
def okN (t : S55) : Bool := decide (-1000 ≤ t.f0 ∧ t.f0 ≤ 1000 ∧ 0 ≤ t.f1 ∧ t.f1 ≤ 4 ∧ 0 ≤ t.f2 ∧ t.f2 ≤ 4 ∧ 0 ≤ t.f3 ∧ t.f3 ≤ 4 ∧ t.f1 + t.f2 + t.f3 ≤ 4)
def runN (l : List S55) (r : List S55 × Bool) : Nat → Nat → List S55 × Bool
  | 0, _ => r
  | n + 1, i => if okN (l.getD i z55) = true then runN l r n (i + 1) else ([], false)
theorem runN_len (l : List S55) (r : List S55 × Bool) (hr : r.1.length ≤ 20) : ∀ n i, (runN l r n i).1.length ≤ 20
  | 0, _ => hr
  | n + 1, i => by unfold runN; split; exact runN_len l r hr n (i + 1); simp
theorem normal_l0 {l : List S55} (hl : l.length ≤ 40) (KS : Nat) (r : List S55 × Bool) (hfin : (∀ i, i < l.length → okN (l.getD i z55) = true) → ∀ K, KS ≤ K → spec_poSum.f K l = some r ∧ (impl_collect.f l).bind (fun t => impl_polyResult.f K t) = some r) :
    ∀ (n i K : Nat), i + n = l.length → (∀ j, j < i → okN (l.getD j z55) = true) → n + 1 + KS ≤ K → spec_NormalPoly.l0 K l l (l.length : Int) (i : Int) = some (runN l r n i) ∧ impl_NormalPoly.l0 K l l (l.length : Int) (i : Int) = some (runN l r n i)
  | 0, i, K, h, ha, hK => by
    obtain ⟨K, rfl⟩ : ∃ j, K = j + 1 := ⟨K - 1, by omega⟩
    obtain ⟨f1, f2⟩ := hfin (fun j hj => ha j (by omega)) K (by omega)
    constructor
    · simp only [spec_NormalPoly.l0]
      rw [if_neg (by omega), f1, bs']; rfl
    · simp only [impl_NormalPoly.l0]
      rw [if_neg (by omega)]
      cases hc : impl_collect.f l with
      | none => rw [hc] at f2; cases f2
      | some s =>
        rw [hc, bs'] at f2
        rw [bs', f2, bs']; rfl
  | n + 1, i, K, h, ha, hK => by
    obtain ⟨K, rfl⟩ : ∃ j, K = j + 1 := ⟨K - 1, by omega⟩
    have hw : wrap64 ((i : Int) + 1) = ((i + 1 : Nat) : Int) := by rw [w64 (by omega) (by omega)]; omega
    have ih := fun (hk : okN (l.getD i z55) = true) => normal_l0 hl KS r hfin n (i + 1) K (by omega) (fun j hj => if e : j = i then by rw [e]; exact hk else ha j (by omega)) (by omega)
    by_cases ho : okN (l.getD i z55) = true
    · have ho' := of_decide_eq_true ho
      obtain ⟨i1, i2⟩ := ih ho
      have er : runN l r (n + 1) i = runN l r n (i + 1) := by conv => lhs; unfold runN; rw [if_pos ho]
      rw [er]
      constructor
      · simp only [spec_NormalPoly.l0]
        rw [if_pos (by omega), if_pos (by omega), if_pos (by omega), rdT_at, poTerm_eq, bs', if_pos (decide_eq_true ho'), hw]; exact i1
      · simp only [impl_NormalPoly.l0]
        rw [if_pos (by omega), if_pos (by omega), if_pos (by omega), rdT_at, inside_eq, bs', if_pos (decide_eq_true ⟨ho'.1, ho'.2.1⟩), hasDegree_eq, bs', if_pos (decide_eq_true ho'.2.2), hw]; exact i2
    · have er : runN l r (n + 1) i = ([], false) := by unfold runN; rw [if_neg ho]
      have hn : ¬ _ := fun h => ho (decide_eq_true h)
      rw [er]
      constructor
      · simp only [spec_NormalPoly.l0]
        rw [if_pos (by omega), if_pos (by omega), if_pos (by omega), rdT_at, poTerm_eq, bs', if_neg (fun h => hn (of_decide_eq_true h))]
      · simp only [impl_NormalPoly.l0]
        rw [if_pos (by omega), if_pos (by omega), if_pos (by omega), rdT_at, inside_eq, bs']
        by_cases h1 : -1000 ≤ (l.getD i z55).f0 ∧ (l.getD i z55).f0 ≤ 1000
        · rw [if_pos (decide_eq_true h1), hasDegree_eq, bs', if_neg (fun h => hn ⟨h1.1, h1.2, of_decide_eq_true h⟩)]
        · rw [if_neg (fun h => h1 (of_decide_eq_true h))]
theorem both {l : List S55} (_ : l.length ≤ 1000000) : ∃ r : List S55 × Bool, r.1.length ≤ 20 ∧ ∃ n, ∀ K, n ≤ K → spec_NormalPoly.f K l = some r ∧ impl_NormalPoly.f K l = some r := by
  by_cases hl : l.length ≤ 40
  · obtain ⟨K1, k1⟩ := poSum_run
    obtain ⟨K2, k2⟩ := result_run
    refine ⟨runN l (resT l) l.length 0, runN_len l _ (resT_len l) _ _, l.length + 2 + (K1 + K2), fun K hK => ?_⟩
    have h := normal_l0 hl (K1 + K2) (resT l) (fun ha K hK => by
      have hok : ∀ t ∈ l, okN t = true := fun t ht => by obtain ⟨i, hi, e⟩ := mem_getD ht; rw [← e]; exact ha i hi
      refine ⟨k1 l (by omega) (fun t ht => ?_) K (by omega), ?_⟩
      · have := of_decide_eq_true (hok t ht)
        unfold smT; omega
      · rw [collect_run (by omega) (fun t ht => ?_), bs']
        · exact k2 l (by omega) K (by omega)
        · have := of_decide_eq_true (hok t ht)
          exact w64 (by omega) (by omega)) l.length 0 K (Nat.zero_add _) (fun j hj => absurd hj (Nat.not_lt_zero j)) (by omega)
    unfold spec_NormalPoly.f impl_NormalPoly.f
    rw [if_neg (by omega), if_neg (by omega)]
    exact h
  · refine ⟨([], false), by simp, 0, fun K hK => ?_⟩
    unfold spec_NormalPoly.f impl_NormalPoly.f
    rw [if_pos (by omega), if_pos (by omega)]
    exact ⟨rfl, rfl⟩
theorem FnExactNormalPoly (l0 : List S57) (w0 : l0.length ≤ maxLen ∧ ∀ y ∈ l0, ((Lit.int .i64 y.f0).wf = true ∧ ((Lit.int .i64 y.f1).wf = true ∧ ((Lit.int .i64 y.f2).wf = true ∧ (Lit.int .i64 y.f3).wf = true)))) : ∃ k, laws_FnExactNormalPoly.f k l0 = some true := by
  have m1 : l0.length ≤ 9223372036854775807 := w0.1
  obtain ⟨t, ht, hc⟩ := szTermS_eq m1
  rcases hc with hc | ⟨h0, h1⟩
  · refine ⟨0, ?_⟩
    unfold laws_FnExactNormalPoly.f
    rw [ht]; simp only [bs']
    rw [if_pos hc]
  · obtain ⟨K0, e0⟩ := toTermS_ev h1 false
    obtain ⟨K1, e1⟩ := toTermS_ev h1 true
    have h2 : (l0.map cvT).length ≤ 1000000 := by rw [List.length_map]; exact h1
    obtain ⟨K4, e4⟩ := markTermS_ev h2
    dsimp only at e0 e1 e4
    obtain ⟨r, hr, n, hn⟩ := both h2
    obtain ⟨K5, e5⟩ := eqTermS_ev (l := r.1) (by omega)
    obtain ⟨K6, e6⟩ := markTermS_ev (l := r.1) (by omega)
    obtain ⟨K7, e7⟩ := heldTermS_ev (n := r.1.length) (by omega)
    dsimp only at e5 e6 e7
    obtain ⟨s2, s3⟩ := hn (K0 + K1 + K4 + K5 + K6 + K7 + n) (by omega)
    refine ⟨K0 + K1 + K4 + K5 + K6 + K7 + n, ?_⟩
    unfold laws_FnExactNormalPoly.f
    rw [ht]; simp only [bs']
    rw [if_neg (by omega), e0 _ (by omega)]; simp only [bs']
    rw [s2]; simp only [bs']
    rw [s3]; simp only [bs']
    rw [e5 _ (by omega)]; simp only [bs', if_true]
    rw [if_neg (by simp), intactTermS_self]; simp only [bs', if_true]
    rw [e4 _ (by omega)]; simp only [bs']
    rw [if_neg (by omega)]
    rw [e6 _ (by omega)]; simp only [bs']
    rw [e7 _ (by omega)]; simp only [bs', if_true]
    rw [if_neg (by omega), e1 _ (by omega)]; simp only [bs']
    rw [s3]; simp only [bs']
    rw [e5 _ (by omega)]; simp only [bs', if_true]
    rw [if_neg (by simp), if_neg (by omega)]
end Go.Proofs.Ytfnmppeoleicbaa.Pure
