import Derived.Test.YthanmlojikidbaaGreatQUnknnsPDx0
import Derived.Test.YthanmlojikidbaaGreatQUnknnsMq
/- Polynomials: what the law lays and looks at, and when a polynomial is valid: plain lemmas on the printed functions. -/
namespace Go.Proofs.YthanmlojikidbaaGreat.PD
open Go.RowKit Go.Proofs.YthanmlojikidbaaGreatW.PrintWords Go.Proofs.YthanmlojikidbaaGreatW.PrintLast Go.Proofs.YthanmlojikidbaaGreatW.PrintMore
theorem rdT_at {l : List S62} {i : Nat} : rd_T62 l (i : Int) = l.getD i z62 := by unfold rd_T62; rw [Int.toNat_natCast]
def okT (t : S62) : Bool := decide (-1000 ≤ t.f0 ∧ t.f0 ≤ 1000 ∧ t.f0 ≠ 0 ∧ 0 ≤ t.f1 ∧ t.f1 ≤ 4 ∧ 0 ≤ t.f2 ∧ t.f2 ≤ 4 ∧ 0 ≤ t.f3 ∧ t.f3 ≤ 4 ∧ t.f1 + t.f2 + t.f3 ≤ 4)
theorem okT_iff {t : S62} : okT t = true ↔ -1000 ≤ t.f0 ∧ t.f0 ≤ 1000 ∧ t.f0 ≠ 0 ∧ 0 ≤ t.f1 ∧ t.f1 ≤ 4 ∧ 0 ≤ t.f2 ∧ t.f2 ≤ 4 ∧ 0 ≤ t.f3 ∧ t.f3 ≤ 4 ∧ t.f1 + t.f2 + t.f3 ≤ 4 := by unfold okT; rw [decide_eq_true_iff]
def ltT (a b : S62) : Bool := decide (a.f1 < b.f1 ∨ (a.f1 = b.f1 ∧ (a.f2 < b.f2 ∨ (a.f2 = b.f2 ∧ a.f3 < b.f3))))
theorem ltT_iff {a b : S62} : ltT a b = true ↔ (a.f1 < b.f1 ∨ (a.f1 = b.f1 ∧ (a.f2 < b.f2 ∨ (a.f2 = b.f2 ∧ a.f3 < b.f3)))) := by unfold ltT; rw [decide_eq_true_iff]
theorem poTerm_eq (c x y z : Int) : spec_poTerm.f c x y z = some (decide (-1000 ≤ c ∧ c ≤ 1000 ∧ 0 ≤ x ∧ x ≤ 4 ∧ 0 ≤ y ∧ y ≤ 4 ∧ 0 ≤ z ∧ z ≤ 4 ∧ x + y + z ≤ 4)) := by
  unfold spec_poTerm.f
  rw [l1In_eq]; simp only [bs', decide_eq_true_eq]
  by_cases h1 : -1000 ≤ c ∧ c ≤ 1000
  · rw [if_pos h1, l1In_eq]; simp only [bs', decide_eq_true_eq]
    by_cases h2 : 0 ≤ x ∧ x ≤ 4
    · rw [if_pos h2, l1In_eq]; simp only [bs', decide_eq_true_eq]
      by_cases h3 : 0 ≤ y ∧ y ≤ 4
      · rw [if_pos h3, l1In_eq]; simp only [bs', decide_eq_true_eq]
        by_cases h4 : 0 ≤ z ∧ z ≤ 4
        · rw [if_pos h4, w64 (x := x + y) (by omega) (by omega), w64 (by omega) (by omega)]
          congr 1
          exact decide_eq_decide.2 ⟨fun h => by omega, fun h => by omega⟩
        · rw [if_neg h4, decide_eq_false (by omega)]
      · rw [if_neg h3, decide_eq_false (by omega)]
    · rw [if_neg h2, decide_eq_false (by omega)]
  · rw [if_neg h1, decide_eq_false (by omega)]
theorem hasDegree_eq (c x y z : Int) : impl_hasDegree.f c x y z = some (decide (0 ≤ x ∧ x ≤ 4 ∧ 0 ≤ y ∧ y ≤ 4 ∧ 0 ≤ z ∧ z ≤ 4 ∧ x + y + z ≤ 4)) := by
  unfold impl_hasDegree.f impl_Term_degree.f
  rw [inside_eq]; simp only [bs', decide_eq_true_eq]
  by_cases h2 : 0 ≤ x ∧ x ≤ 4
  · rw [if_pos h2, inside_eq]; simp only [bs', decide_eq_true_eq]
    by_cases h3 : 0 ≤ y ∧ y ≤ 4
    · rw [if_pos h3, inside_eq]; simp only [bs', decide_eq_true_eq]
      by_cases h4 : 0 ≤ z ∧ z ≤ 4
      · rw [if_pos h4, w64 (x := x + y) (by omega) (by omega), w64 (by omega) (by omega)]
        congr 1
        exact decide_eq_decide.2 ⟨fun h => by omega, fun h => by omega⟩
      · rw [if_neg h4, decide_eq_false (by omega)]
    · rw [if_neg h3, decide_eq_false (by omega)]
  · rw [if_neg h2, decide_eq_false (by omega)]
theorem l1Sign_sp (a : Int) : ∃ s, spec_l1Sign.f a = some s ∧ (s ≥ 0 ↔ a ≥ 0) := by
  unfold spec_l1Sign.f
  by_cases h : a > 0
  · rw [if_pos h]; exact ⟨_, rfl, by omega⟩
  · rw [if_neg h]
    by_cases h2 : a < 0
    · rw [if_pos h2]; exact ⟨_, rfl, by omega⟩
    · rw [if_neg h2]; exact ⟨_, rfl, by omega⟩
theorem poOrder_eq {a b : S62} (ha : okT a = true) (hb : okT b = true) : ∃ s, spec_poOrder.f a.f0 a.f1 a.f2 a.f3 b.f0 b.f1 b.f2 b.f3 = some s ∧ (s ≥ 0 ↔ ¬ ltT a b = true) := by
  have ha := okT_iff.1 ha
  have hb := okT_iff.1 hb
  rw [ltT_iff]
  unfold spec_poOrder.f
  by_cases h1 : a.f1 = b.f1
  · rw [if_pos h1]
    by_cases h2 : a.f2 = b.f2
    · rw [if_pos h2, w64 (by omega) (by omega)]
      obtain ⟨s, hs, hh⟩ := l1Sign_sp (a.f3 - b.f3)
      rw [hs]; simp only [bs']
      exact ⟨s, rfl, by omega⟩
    · rw [if_neg h2, w64 (by omega) (by omega)]
      obtain ⟨s, hs, hh⟩ := l1Sign_sp (a.f2 - b.f2)
      rw [hs]; simp only [bs']
      exact ⟨s, rfl, by omega⟩
  · rw [if_neg h1, w64 (by omega) (by omega)]
    obtain ⟨s, hs, hh⟩ := l1Sign_sp (a.f1 - b.f1)
    rw [hs]; simp only [bs']
    exact ⟨s, rfl, by omega⟩
theorem cmp_eq (a b : Int) : cmp_Compare_int.f a b = some (if a < b then -1 else if a > b then 1 else 0) := by
  unfold cmp_Compare_int.f cmp_isNaN_int.f
  simp only [bs', bne_self_eq_false]
  rw [if_neg (by decide), if_neg (by decide)]
  by_cases h : a < b
  · rw [if_pos h, if_pos h]
  · rw [if_neg h, if_neg h]
    by_cases h2 : a > b
    · rw [if_pos h2, if_pos h2]
    · rw [if_neg h2, if_neg h2]
theorem or_eq (a b c : Int) (K : Nat) : cmp_Or_int.f (K + 4) [a, b, c] = some (if a = 0 then (if b = 0 then c else b) else a) := by
  unfold cmp_Or_int.f
  have w0 : wrap64 (0 + 1) = 1 := w64 (by omega) (by omega)
  have w1 : wrap64 (1 + 1) = 2 := w64 (by omega) (by omega)
  have w2 : wrap64 (2 + 1) = 3 := w64 (by omega) (by omega)
  have r0 : rd [a, b, c] 0 = a := rfl
  have r1 : rd [a, b, c] 1 = b := rfl
  have r2 : rd [a, b, c] 2 = c := rfl
  have hl : (([a, b, c] : List Int).length : Int) = 3 := rfl
  rw [hl]
  by_cases h1 : a = 0
  · by_cases h2 : b = 0
    · by_cases h3 : c = 0
      · simp only [cmp_Or_int.l0, hl, w0, w1, w2, r0, r1, r2]
        rw [if_pos h1, if_pos h2]
        simp [h1, h2, h3]
      · simp only [cmp_Or_int.l0, hl, w0, w1, w2, r0, r1, r2]
        simp [h1, h2, h3]
    · simp only [cmp_Or_int.l0, hl, w0, w1, w2, r0, r1, r2]
      simp [h1, h2]
  · simp only [cmp_Or_int.l0, hl, w0, w1, w2, r0, r1, r2]
    simp [h1]
theorem compareTerms_eq (a b : S62) (K : Nat) (hK : 4 ≤ K) : ∃ s, impl_compareTerms.f K a.f0 a.f1 a.f2 a.f3 b.f0 b.f1 b.f2 b.f3 = some s ∧ (s ≥ 0 ↔ ¬ ltT a b = true) := by
  obtain ⟨K, rfl⟩ : ∃ j, K = j + 4 := ⟨K - 4, by omega⟩
  rw [ltT_iff]
  unfold impl_compareTerms.f
  rw [cmp_eq]; simp only [bs']
  rw [cmp_eq]; simp only [bs']
  rw [cmp_eq]; simp only [bs']
  rw [or_eq]; simp only [bs']
  refine ⟨_, rfl, ?_⟩
  repeat' split
  all_goals omega
/-- The terms from i on, d of them. -/
def polRun (l : List S62) : Nat → Nat → Bool
  | 0, _ => decide (l.length ≤ 20)
  | d + 1, i => if okT (l.getD i z62) = true then (if i = 0 ∨ ltT (l.getD (i - 1) z62) (l.getD i z62) = true then polRun l d (i + 1) else false) else false
theorem good_l0 {l : List S62} (hl : l.length ≤ 1000000) : ∀ (d i K : Nat), i + d = l.length → (i = 0 ∨ okT (l.getD (i - 1) z62) = true) → d + 6 < K →
    spec_poGood.l0 K l l (l.length : Int) (i : Int) = some (polRun l d i) ∧ impl_isPoly.l0 K l l (l.length : Int) (i : Int) = some (polRun l d i) := by
  intro d
  induction d with
  | zero =>
    intro i K hi _ hK
    obtain ⟨K, rfl⟩ : ∃ j, K = j + 1 := ⟨K - 1, by omega⟩
    have e : decide ((l.length : Int) ≤ 20) = polRun l 0 i := by unfold polRun; exact decide_eq_decide.2 ⟨fun h => by omega, fun h => by omega⟩
    constructor
    · simp only [spec_poGood.l0]; rw [if_neg (by omega), e]
    · simp only [impl_isPoly.l0]; rw [if_neg (by omega), e]
  | succ d ih =>
    intro i K hi hp hK
    obtain ⟨K, rfl⟩ : ∃ j, K = j + 1 := ⟨K - 1, by omega⟩
    have hw : wrap64 ((i : Int) + 1) = ((i + 1 : Nat) : Int) := by rw [w64 (by omega) (by omega)]; omega
    have ih' := fun h => ih (i + 1) K (by omega) (.inr h) (by omega)
    rw [Nat.add_sub_cancel] at ih'
    by_cases ho : okT (l.getD i z62) = true
    · have ho' := okT_iff.1 ho
      obtain ⟨i1, i2⟩ := ih' ho
      have e1 : polRun l (d + 1) i = if i = 0 ∨ ltT (l.getD (i - 1) z62) (l.getD i z62) = true then polRun l d (i + 1) else false := by conv => lhs; unfold polRun; rw [if_pos ho]
      rw [e1]
      constructor
      · simp only [spec_poGood.l0]
        rw [if_pos (by omega), if_pos (by omega), if_pos (by omega), rdT_at, poTerm_eq, decide_eq_true (by omega)]; simp only [bs', if_true]
        rw [if_neg (by omega), hw]
        by_cases h0 : i = 0
        · rw [if_neg (by omega), if_pos (.inl h0)]; exact i1
        · rcases hp with hp | hp
          · exact absurd hp h0
          · rw [if_pos (by omega), w64 (by omega) (by omega), if_pos (by omega), if_pos (by omega), show (i : Int) - 1 = ((i - 1 : Nat) : Int) by omega, rdT_at]
            obtain ⟨s, hs, hh⟩ := poOrder_eq hp ho
            rw [hs]; simp only [bs']
            by_cases h3 : ltT (l.getD (i - 1) z62) (l.getD i z62) = true
            · rw [if_neg (fun e => hh.1 e h3), if_pos (.inr h3)]; exact i1
            · rw [if_pos (hh.2 h3), if_neg (fun e => e.elim h0 h3)]
      · simp only [impl_isPoly.l0]
        rw [if_pos (by omega), if_pos (by omega), if_pos (by omega), rdT_at, if_neg (by omega), inside_eq, decide_eq_true (by omega)]; simp only [bs', if_true]
        rw [hasDegree_eq, decide_eq_true (by omega)]; simp only [bs', if_true]
        rw [hw]
        by_cases h0 : i = 0
        · rw [if_neg (by omega), if_pos (.inl h0)]; exact i2
        · rw [if_pos (by omega), w64 (by omega) (by omega), if_pos (by omega), if_pos (by omega), show (i : Int) - 1 = ((i - 1 : Nat) : Int) by omega, rdT_at]
          obtain ⟨s, hs, hh⟩ := compareTerms_eq (l.getD (i - 1) z62) (l.getD i z62) K (by omega)
          rw [hs]; simp only [bs']
          by_cases h3 : ltT (l.getD (i - 1) z62) (l.getD i z62) = true
          · rw [if_neg (fun e => hh.1 e h3), if_pos (.inr h3)]; exact i2
          · rw [if_pos (hh.2 h3), if_neg (fun e => e.elim h0 h3)]
    · have e1 : polRun l (d + 1) i = false := by unfold polRun; rw [if_neg ho]
      rw [e1]
      have hn := mt okT_iff.2 ho
      constructor
      · simp only [spec_poGood.l0]
        rw [if_pos (by omega), if_pos (by omega), if_pos (by omega), rdT_at, poTerm_eq]; simp only [bs', decide_eq_true_eq]
        split
        · rw [if_pos (by omega)]
        · rfl
      · simp only [impl_isPoly.l0]
        rw [if_pos (by omega), if_pos (by omega), if_pos (by omega), rdT_at]
        by_cases h0 : (l.getD i z62).f0 = 0
        · rw [if_pos h0]
        · rw [if_neg h0, inside_eq]; simp only [bs', decide_eq_true_eq]
          by_cases h1 : -1000 ≤ (l.getD i z62).f0 ∧ (l.getD i z62).f0 ≤ 1000
          · rw [if_pos h1, hasDegree_eq]; simp only [bs', decide_eq_true_eq]
            rw [if_neg (by omega)]
          · rw [if_neg h1]
def goodT (l : List S62) : Bool := polRun l l.length 0
theorem poGood_ev {l : List S62} (hl : l.length ≤ 1000000) : Ev (fun K => spec_poGood.f K l) (goodT l) :=
  ⟨l.length + 7, fun K hK => by dsimp only; unfold spec_poGood.f; exact (good_l0 hl l.length 0 K (by omega) (.inl rfl) (by omega)).1⟩
theorem isPoly_ev {l : List S62} (hl : l.length ≤ 1000000) : Ev (fun K => impl_isPoly.f K l) (goodT l) :=
  ⟨l.length + 7, fun K hK => by dsimp only; unfold impl_isPoly.f; exact (good_l0 hl l.length 0 K (by omega) (.inl rfl) (by omega)).2⟩
theorem polRun_ok {l : List S62} : ∀ (d i : Nat), i + d = l.length → polRun l d i = true → l.length ≤ 20 ∧ (∀ j, i ≤ j → j < l.length → okT (l.getD j z62) = true) ∧ (∀ j, i ≤ j → 0 < j → j < l.length → ltT (l.getD (j - 1) z62) (l.getD j z62) = true) := by
  intro d
  induction d with
  | zero => intro i hi h; unfold polRun at h; exact ⟨of_decide_eq_true h, fun j h1 h2 => by omega, fun j h1 _ h2 => by omega⟩
  | succ d ih =>
    intro i hi h
    unfold polRun at h
    by_cases ho : okT (l.getD i z62) = true
    · rw [if_pos ho] at h
      by_cases h3 : i = 0 ∨ ltT (l.getD (i - 1) z62) (l.getD i z62) = true
      · rw [if_pos h3] at h
        obtain ⟨a, b, c⟩ := ih (i + 1) (by omega) h
        refine ⟨a, fun j h1 h2 => ?_, fun j h1 h0 h2 => ?_⟩
        · by_cases e : j = i
          · subst e; exact ho
          · exact b j (by omega) h2
        · by_cases e : j = i
          · subst e
            rcases h3 with h3 | h3
            · omega
            · exact h3
          · exact c j (by omega) h0 h2
      · rw [if_neg h3] at h; cases h
    · rw [if_neg ho] at h; cases h
/-- A valid polynomial. -/
theorem goodT_ok {l : List S62} (h : goodT l = true) : l.length ≤ 20 ∧ (∀ j, j < l.length → okT (l.getD j z62) = true) ∧ (∀ j, 0 < j → j < l.length → ltT (l.getD (j - 1) z62) (l.getD j z62) = true) := by
  obtain ⟨a, b, c⟩ := polRun_ok l.length 0 (by omega) h
  exact ⟨a, fun j hj => b j (by omega) hj, fun j h0 hj => c j (by omega) h0 hj⟩
/-! the degree -/
theorem most_eq (a b : Int) : spec_l1Most.f a b = some (mx a b) := by
  unfold spec_l1Most.f mx
  by_cases h : a > b
  · rw [if_pos h, if_neg (by omega)]
  · rw [if_neg h]
    by_cases h2 : a < b
    · rw [if_pos h2]
    · rw [if_neg h2]; congr 1; omega
end Go.Proofs.YthanmlojikidbaaGreat.PD
