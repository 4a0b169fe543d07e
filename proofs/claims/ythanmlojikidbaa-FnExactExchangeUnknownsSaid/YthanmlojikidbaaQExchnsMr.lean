import Derived.Test.YthanmlojikidbaaQExchnsPDx1
import Derived.Test.YthanmlojikidbaaQExchnsMq
/- Polynomials: what the law lays and looks at, and when a polynomial is valid: plain lemmas on the printed functions. -/
namespace Go.Proofs.Ythanmlojikidbaa.PD
open Go.RowKit Go.Proofs.YthanmlojikidbaaW.PrintWords Go.Proofs.YthanmlojikidbaaW.PrintLast Go.Proofs.YthanmlojikidbaaW.PrintMore
theorem rdT_at {l : List S51} {i : Nat} : rd_T51 l (i : Int) = l.getD i z51 := by unfold rd_T51; rw [Int.toNat_natCast]
theorem rdL_at {l : List S53} {i : Nat} : rd_T53 l (i : Int) = l.getD i z53 := by unfold rd_T53; rw [Int.toNat_natCast]
def cvT (t : S53) : S51 := ⟨t.f0, t.f1, t.f2, t.f3⟩
theorem toTerm_eq (a b c d : Int) : laws_toTerm.f a b c d = some (a, b, c, d) := rfl
theorem toTermS_l1 {l : List S53} {x : List S51} (hx : x.length ≤ 35184372088832) (hl : l.length ≤ x.length) : ∀ (d i K : Nat) (y : List S51), i + d = x.length → l.length ≤ i → y.length = x.length → y.take l.length = l.map cvT → d < K → laws_toTermS.l1 K l y (i : Int) = some (l.map cvT) := by
  intro d
  induction d with
  | zero =>
    intro i K y hi hli hy ht hK
    obtain ⟨K, rfl⟩ : ∃ j, K = j + 1 := ⟨K - 1, by omega⟩
    simp only [laws_toTermS.l1]
    rw [if_neg (by omega), if_pos (by omega), if_pos (by omega), Int.toNat_natCast, ht]
  | succ d ih =>
    intro i K y hi hli hy ht hK
    obtain ⟨K, rfl⟩ : ∃ j, K = j + 1 := ⟨K - 1, by omega⟩
    simp only [laws_toTermS.l1, laws_fillerTerm.f]
    rw [if_pos (by omega)]; simp only [bs']
    rw [if_pos (by omega), w64 (by omega) (by omega), show (i : Int) + 1 = ((i + 1 : Nat) : Int) by omega, Int.toNat_natCast]
    refine ih (i + 1) K _ (by omega) (by omega) (by rw [List.length_set]; omega) ?_ (by omega)
    rw [List.take_set_of_le (by omega), ht]
theorem toTermS_l0 {l : List S53} (hl : l.length ≤ 1000000) : ∀ (d i K : Nat) (x : List S51), i + d = l.length → x.length = l.length + room l.length → x.take i = (l.map cvT).take i → d + room l.length + 1 < K → laws_toTermS.l0 K l x (i : Int) = some (l.map cvT) := by
  have hr := room_le l.length
  intro d
  induction d with
  | zero =>
    intro i K x hi hx ht hK
    obtain ⟨K, rfl⟩ : ∃ j, K = j + 1 := ⟨K - 1, by omega⟩
    simp only [laws_toTermS.l0]
    rw [if_neg (by omega)]
    have hil : i = l.length := by omega
    subst hil
    refine toTermS_l1 (by omega) (by omega) (room l.length) l.length K x (by omega) (by omega) rfl ?_ (by omega)
    rw [ht, show l.length = (l.map cvT).length by rw [List.length_map], List.take_length]
  | succ d ih =>
    intro i K x hi hx ht hK
    obtain ⟨K, rfl⟩ : ∃ j, K = j + 1 := ⟨K - 1, by omega⟩
    have hil : i < l.length := by omega
    simp only [laws_toTermS.l0, toTerm_eq]
    rw [if_pos (by omega), if_pos (by omega)]; simp only [bs']
    rw [if_pos (by omega), w64 (by omega) (by omega), show (i : Int) + 1 = ((i + 1 : Nat) : Int) by omega, Int.toNat_natCast, rdL_at]
    refine ih (i + 1) K _ (by omega) (by rw [List.length_set]; omega) ?_ (by omega)
    rw [List.take_succ_eq_append_getElem (by rw [List.length_set]; omega), List.take_succ_eq_append_getElem (by rw [List.length_map]; exact hil), List.take_set_of_le (Nat.le_refl _), ht]
    simp [List.getD_eq_getElem?_getD, List.getElem?_eq_getElem hil, cvT]
theorem toTermS_ev {l : List S53} (hl : l.length ≤ 1000000) (b : Bool) : Ev (fun K => laws_toTermS.f K l b) (l.map cvT) := by
  have hr := room_le l.length
  refine ⟨l.length + room l.length + 4, fun K hK => ?_⟩
  obtain ⟨K, rfl⟩ : ∃ j, K = j + 1 := ⟨K - 1, by omega⟩
  have j0 : ∀ z : Bool, (z = true → l = []) → laws_toTermS.j0 (K + 1) l z = some (l.map cvT) := by
    intro z hz
    simp only [laws_toTermS.j0]
    by_cases h : z = true
    · rw [if_pos h, hz h]; rfl
    · rw [if_neg h, room_at]; simp only [bs']
      rw [w64 (by omega) (by omega), if_pos (by omega), if_pos (by omega)]
      exact toTermS_l0 hl l.length 0 K _ (by omega) (by rw [List.length_replicate]; omega) (by simp) (by omega)
  dsimp only; unfold laws_toTermS.f
  by_cases hb : b = true
  · rw [if_pos hb]
    refine j0 _ (fun h => ?_)
    have : l.length = 0 := by have := beq_iff_eq.1 h; omega
    exact List.length_eq_zero_iff.1 this
  · rw [if_neg hb]
    exact j0 false (fun h => by cases h)
theorem intactTermS_self (l : List S51) : laws_intactTermS.f l l = some true := by
  unfold laws_intactTermS.f
  rw [if_pos rfl]
theorem eqTermS_ev {l : List S51} (hl : l.length ≤ 1000000) : Ev (fun K => laws_eqTermS.f K l l) true := by
  have key : ∀ (d i K : Nat), i + d = l.length → d < K → laws_eqTermS.l0 K l l (i : Int) = some true := by
    intro d
    induction d with
    | zero =>
      intro i K hi hK
      obtain ⟨K, rfl⟩ : ∃ j, K = j + 1 := ⟨K - 1, by omega⟩
      simp only [laws_eqTermS.l0]
      rw [if_neg (by omega)]
    | succ d ih =>
      intro i K hi hK
      obtain ⟨K, rfl⟩ : ∃ j, K = j + 1 := ⟨K - 1, by omega⟩
      simp only [laws_eqTermS.l0]
      have he : ∀ x : S51, laws_eqTerm.f x.f0 x.f1 x.f2 x.f3 x.f0 x.f1 x.f2 x.f3 = some true := fun x => by unfold laws_eqTerm.f; simp
      rw [if_pos (by omega), if_pos (by omega), if_pos (by omega), he]; simp only [bs', if_true]
      rw [w64 (by omega) (by omega), show (i : Int) + 1 = ((i + 1 : Nat) : Int) by omega]
      exact ih (i + 1) K (by omega) (by omega)
  refine ⟨l.length + 1, fun K hK => ?_⟩
  dsimp only; unfold laws_eqTermS.f
  rw [if_pos rfl]
  exact key l.length 0 _ (by omega) (by omega)
/-! what the law writes over a list, and reads again -/
def mkT (n : Nat) : List S51 := (List.range n).map fun (i : Nat) => ⟨101 + 4 * (i : Int), 101 + 4 * (i : Int) + 1, 101 + 4 * (i : Int) + 2, 101 + 4 * (i : Int) + 3⟩
theorem mkT_len (n : Nat) : (mkT n).length = n := by unfold mkT; rw [List.length_map, List.length_range]
theorem mkT_get {n i : Nat} (h : i < n) : (mkT n)[i]? = some ⟨101 + 4 * (i : Int), 101 + 4 * (i : Int) + 1, 101 + 4 * (i : Int) + 2, 101 + 4 * (i : Int) + 3⟩ := by
  unfold mkT
  rw [List.getElem?_map, List.getElem?_range h]; rfl
theorem rdT_set {x : List S51} {i : Nat} (h : i < x.length) (a : S51) : rd_T51 (x.set i a) (i : Int) = a := by
  rw [rdT_at, List.getD_eq_getElem?_getD, List.getElem?_set_self h]; rfl
theorem markTermS_ev {l : List S51} (hl : l.length ≤ 1000000) : Ev (fun K => laws_markTermS.f K l 101) (101 + 4 * (l.length : Int), mkT l.length) := by
  have key : ∀ (d i K : Nat) (x : List S51), i + d = l.length → x.length = l.length → x.take i = (mkT l.length).take i → d < K → laws_markTermS.l0 K x (101 + 4 * (i : Int)) (i : Int) = some (101 + 4 * (l.length : Int), mkT l.length) := by
    intro d
    induction d with
    | zero =>
      intro i K x hi hx ht hK
      obtain ⟨K, rfl⟩ : ∃ j, K = j + 1 := ⟨K - 1, by omega⟩
      simp only [laws_markTermS.l0]
      have hil : i = l.length := by omega
      subst hil
      rw [if_neg (by omega)]
      have h1 : x.take l.length = x := List.take_of_length_le (by omega)
      have h2 : (mkT l.length).take l.length = mkT l.length := List.take_of_length_le (by rw [mkT_len]; omega)
      rw [h1, h2] at ht
      rw [ht]
    | succ d ih =>
      intro i K x hi hx ht hK
      obtain ⟨K, rfl⟩ : ∃ j, K = j + 1 := ⟨K - 1, by omega⟩
      have hil : i < l.length := by omega
      simp only [laws_markTermS.l0]
      rw [if_pos (by omega), if_pos (by omega)]; simp only [bs', Int.toNat_natCast]
      rw [rdT_set (by omega)]
      simp only [List.set_set]
      rw [rdT_set (by omega)]
      dsimp only
      rw [rdT_set (by omega)]
      dsimp only
      rw [w64 (x := 101 + 4 * (i : Int) + 1) (by omega) (by omega), w64 (x := 101 + 4 * (i : Int) + 1 + 1) (by omega) (by omega), w64 (x := 101 + 4 * (i : Int) + 1 + 1 + 1) (by omega) (by omega), w64 (x := 101 + 4 * (i : Int) + 1 + 1 + 1 + 1) (by omega) (by omega), w64 (x := (i : Int) + 1) (by omega) (by omega)]
      rw [show (101 + 4 * (i : Int) + 1 + 1 + 1 + 1) = 101 + 4 * ((i + 1 : Nat) : Int) by omega, show (i : Int) + 1 = ((i + 1 : Nat) : Int) by omega]
      refine ih (i + 1) K _ (by omega) (by rw [List.length_set]; omega) ?_ (by omega)
      rw [List.take_add_one, List.take_add_one, List.take_set_of_le (Nat.le_refl _), ht, mkT_get hil, List.getElem?_set_self (by omega)]
      rw [show 101 + 4 * (i : Int) + 1 + 1 = 101 + 4 * (i : Int) + 2 by omega, show 101 + 4 * (i : Int) + 2 + 1 = 101 + 4 * (i : Int) + 3 by omega]
  refine ⟨l.length + 1, fun K hK => ?_⟩
  dsimp only; unfold laws_markTermS.f
  exact key l.length 0 K l (by omega) rfl (by simp) (by omega)
theorem heldTermS_ev {n : Nat} (hn : n ≤ 1000000) : Ev (fun K => laws_heldTermS.f K (mkT n) 101) (101 + 4 * (n : Int)) := by
  have hl := mkT_len n
  have key : ∀ (d i K : Nat), i + d = n → d < K → laws_heldTermS.l0 K (mkT n) (101 + 4 * (i : Int)) (i : Int) = some (101 + 4 * (n : Int)) := by
    intro d
    induction d with
    | zero =>
      intro i K hi hK
      obtain ⟨K, rfl⟩ : ∃ j, K = j + 1 := ⟨K - 1, by omega⟩
      simp only [laws_heldTermS.l0]
      have hil : i = n := by omega
      subst hil
      rw [if_neg (by omega)]
    | succ d ih =>
      intro i K hi hK
      obtain ⟨K, rfl⟩ : ∃ j, K = j + 1 := ⟨K - 1, by omega⟩
      have hil : i < n := by omega
      simp only [laws_heldTermS.l0]
      rw [if_pos (by omega), if_pos (by omega), rdT_at, List.getD_eq_getElem?_getD, mkT_get hil]; simp only [Option.getD_some, if_true]
      rw [w64 (x := 101 + 4 * (i : Int) + 1) (by omega) (by omega), w64 (x := 101 + 4 * (i : Int) + 1 + 1) (by omega) (by omega), w64 (x := 101 + 4 * (i : Int) + 1 + 1 + 1) (by omega) (by omega), w64 (x := 101 + 4 * (i : Int) + 1 + 1 + 1 + 1) (by omega) (by omega), w64 (x := (i : Int) + 1) (by omega) (by omega)]
      rw [if_pos rfl, if_pos (by omega), if_pos (by omega)]
      rw [show (101 + 4 * (i : Int) + 1 + 1 + 1 + 1) = 101 + 4 * ((i + 1 : Nat) : Int) by omega, show (i : Int) + 1 = ((i + 1 : Nat) : Int) by omega]
      exact ih (i + 1) K (by omega) (by omega)
  refine ⟨n + 1, fun K hK => ?_⟩
  dsimp only; unfold laws_heldTermS.f
  exact key n 0 K (by omega) (by omega)
/-! when a polynomial is valid -/
def okT (t : S51) : Bool := decide (-1000 ≤ t.f0 ∧ t.f0 ≤ 1000 ∧ t.f0 ≠ 0 ∧ 0 ≤ t.f1 ∧ t.f1 ≤ 4 ∧ 0 ≤ t.f2 ∧ t.f2 ≤ 4 ∧ 0 ≤ t.f3 ∧ t.f3 ≤ 4 ∧ t.f1 + t.f2 + t.f3 ≤ 4)
theorem okT_iff {t : S51} : okT t = true ↔ -1000 ≤ t.f0 ∧ t.f0 ≤ 1000 ∧ t.f0 ≠ 0 ∧ 0 ≤ t.f1 ∧ t.f1 ≤ 4 ∧ 0 ≤ t.f2 ∧ t.f2 ≤ 4 ∧ 0 ≤ t.f3 ∧ t.f3 ≤ 4 ∧ t.f1 + t.f2 + t.f3 ≤ 4 := by unfold okT; rw [decide_eq_true_iff]
def ltT (a b : S51) : Bool := decide (a.f1 < b.f1 ∨ (a.f1 = b.f1 ∧ (a.f2 < b.f2 ∨ (a.f2 = b.f2 ∧ a.f3 < b.f3))))
theorem ltT_iff {a b : S51} : ltT a b = true ↔ (a.f1 < b.f1 ∨ (a.f1 = b.f1 ∧ (a.f2 < b.f2 ∨ (a.f2 = b.f2 ∧ a.f3 < b.f3)))) := by unfold ltT; rw [decide_eq_true_iff]
theorem poTerm_eq (c x y z : Int) : spec_poTerm.f c x y z = some (decide (-1000 ≤ c ∧ c ≤ 1000 ∧ 0 ≤ x ∧ x ≤ 4 ∧ 0 ≤ y ∧ y ≤ 4 ∧ 0 ≤ z ∧ z ≤ 4 ∧ x + y + z ≤ 4)) := by
  unfold spec_poTerm.f
  rw [l1In_eq]; simp only [bs', decide_eq_true_eq]
  by_cases h1 : -1000 ≤ c ∧ c ≤ 1000
  · rw [if_pos h1, l1In_eq]; simp only [bs', decide_eq_true_eq]
    by_cases h2 : 0 ≤ x ∧ x ≤ 4
    · rw [if_pos h2, l1In_eq]; simp only [bs', decide_eq_true_eq]
      by_cases h3 : 0 ≤ y ∧ y ≤ 4
      · rw [if_pos h3, l1In_eq]; simp only [bs', decide_eq_true_eq]
        by_cases h4 : 0 ≤ z ∧ z ≤ 4
        · rw [if_pos h4, w64 (x := x + y) (by omega) (by omega), w64 (by omega) (by omega)]
          congr 1
          exact decide_eq_decide.2 ⟨fun h => by omega, fun h => by omega⟩
        · rw [if_neg h4, decide_eq_false (by omega)]
      · rw [if_neg h3, decide_eq_false (by omega)]
    · rw [if_neg h2, decide_eq_false (by omega)]
  · rw [if_neg h1, decide_eq_false (by omega)]
theorem hasDegree_eq (c x y z : Int) : impl_hasDegree.f c x y z = some (decide (0 ≤ x ∧ x ≤ 4 ∧ 0 ≤ y ∧ y ≤ 4 ∧ 0 ≤ z ∧ z ≤ 4 ∧ x + y + z ≤ 4)) := by
  unfold impl_hasDegree.f impl_Term_degree.f
  rw [inside_eq]; simp only [bs', decide_eq_true_eq]
  by_cases h2 : 0 ≤ x ∧ x ≤ 4
  · rw [if_pos h2, inside_eq]; simp only [bs', decide_eq_true_eq]
    by_cases h3 : 0 ≤ y ∧ y ≤ 4
    · rw [if_pos h3, inside_eq]; simp only [bs', decide_eq_true_eq]
      by_cases h4 : 0 ≤ z ∧ z ≤ 4
      · rw [if_pos h4, w64 (x := x + y) (by omega) (by omega), w64 (by omega) (by omega)]
        congr 1
        exact decide_eq_decide.2 ⟨fun h => by omega, fun h => by omega⟩
      · rw [if_neg h4, decide_eq_false (by omega)]
    · rw [if_neg h3, decide_eq_false (by omega)]
  · rw [if_neg h2, decide_eq_false (by omega)]
theorem l1Sign_sp (a : Int) : ∃ s, spec_l1Sign.f a = some s ∧ (s ≥ 0 ↔ a ≥ 0) := by
  unfold spec_l1Sign.f
  by_cases h : a > 0
  · rw [if_pos h]; exact ⟨_, rfl, by omega⟩
  · rw [if_neg h]
    by_cases h2 : a < 0
    · rw [if_pos h2]; exact ⟨_, rfl, by omega⟩
    · rw [if_neg h2]; exact ⟨_, rfl, by omega⟩
theorem poOrder_eq {a b : S51} (ha : okT a = true) (hb : okT b = true) : ∃ s, spec_poOrder.f a.f0 a.f1 a.f2 a.f3 b.f0 b.f1 b.f2 b.f3 = some s ∧ (s ≥ 0 ↔ ¬ ltT a b = true) := by
  have ha := okT_iff.1 ha
  have hb := okT_iff.1 hb
  rw [ltT_iff]
  unfold spec_poOrder.f
  by_cases h1 : a.f1 = b.f1
  · rw [if_pos h1]
    by_cases h2 : a.f2 = b.f2
    · rw [if_pos h2, w64 (by omega) (by omega)]
      obtain ⟨s, hs, hh⟩ := l1Sign_sp (a.f3 - b.f3)
      rw [hs]; simp only [bs']
      exact ⟨s, rfl, by omega⟩
    · rw [if_neg h2, w64 (by omega) (by omega)]
      obtain ⟨s, hs, hh⟩ := l1Sign_sp (a.f2 - b.f2)
      rw [hs]; simp only [bs']
      exact ⟨s, rfl, by omega⟩
  · rw [if_neg h1, w64 (by omega) (by omega)]
    obtain ⟨s, hs, hh⟩ := l1Sign_sp (a.f1 - b.f1)
    rw [hs]; simp only [bs']
    exact ⟨s, rfl, by omega⟩
theorem cmp_eq (a b : Int) : cmp_Compare_int.f a b = some (if a < b then -1 else if a > b then 1 else 0) := by
  unfold cmp_Compare_int.f cmp_isNaN_int.f
  simp only [bs', bne_self_eq_false]
  rw [if_neg (by decide), if_neg (by decide)]
  by_cases h : a < b
  · rw [if_pos h, if_pos h]
  · rw [if_neg h, if_neg h]
    by_cases h2 : a > b
    · rw [if_pos h2, if_pos h2]
    · rw [if_neg h2, if_neg h2]
theorem or_eq (a b c : Int) (K : Nat) : cmp_Or_int.f (K + 4) [a, b, c] = some (if a = 0 then (if b = 0 then c else b) else a) := by
  unfold cmp_Or_int.f
  have w0 : wrap64 (0 + 1) = 1 := w64 (by omega) (by omega)
  have w1 : wrap64 (1 + 1) = 2 := w64 (by omega) (by omega)
  have w2 : wrap64 (2 + 1) = 3 := w64 (by omega) (by omega)
  have r0 : rd [a, b, c] 0 = a := rfl
  have r1 : rd [a, b, c] 1 = b := rfl
  have r2 : rd [a, b, c] 2 = c := rfl
  have hl : (([a, b, c] : List Int).length : Int) = 3 := rfl
  rw [hl]
  by_cases h1 : a = 0
  · by_cases h2 : b = 0
    · by_cases h3 : c = 0
      · simp only [cmp_Or_int.l0, hl, w0, w1, w2, r0, r1, r2]
        rw [if_pos h1, if_pos h2]
        simp [h1, h2, h3]
      · simp only [cmp_Or_int.l0, hl, w0, w1, w2, r0, r1, r2]
        simp [h1, h2, h3]
    · simp only [cmp_Or_int.l0, hl, w0, w1, w2, r0, r1, r2]
      simp [h1, h2]
  · simp only [cmp_Or_int.l0, hl, w0, w1, w2, r0, r1, r2]
    simp [h1]
theorem compareTerms_eq (a b : S51) (K : Nat) (hK : 4 ≤ K) : ∃ s, impl_compareTerms.f K a.f0 a.f1 a.f2 a.f3 b.f0 b.f1 b.f2 b.f3 = some s ∧ (s ≥ 0 ↔ ¬ ltT a b = true) := by
  obtain ⟨K, rfl⟩ : ∃ j, K = j + 4 := ⟨K - 4, by omega⟩
  rw [ltT_iff]
  unfold impl_compareTerms.f
  rw [cmp_eq]; simp only [bs']
  rw [cmp_eq]; simp only [bs']
  rw [cmp_eq]; simp only [bs']
  rw [or_eq]; simp only [bs']
  refine ⟨_, rfl, ?_⟩
  repeat' split
  all_goals omega
/-- The terms from i on, d of them. -/
def polRun (l : List S51) : Nat → Nat → Bool
  | 0, _ => decide (l.length ≤ 20)
  | d + 1, i => if okT (l.getD i z51) = true then (if i = 0 ∨ ltT (l.getD (i - 1) z51) (l.getD i z51) = true then polRun l d (i + 1) else false) else false
theorem good_l0 {l : List S51} (hl : l.length ≤ 1000000) : ∀ (d i K : Nat), i + d = l.length → (i = 0 ∨ okT (l.getD (i - 1) z51) = true) → d + 6 < K →
    spec_poGood.l0 K l l (l.length : Int) (i : Int) = some (polRun l d i) ∧ impl_isPoly.l0 K l l (l.length : Int) (i : Int) = some (polRun l d i) := by
  intro d
  induction d with
  | zero =>
    intro i K hi _ hK
    obtain ⟨K, rfl⟩ : ∃ j, K = j + 1 := ⟨K - 1, by omega⟩
    have e : decide ((l.length : Int) ≤ 20) = polRun l 0 i := by unfold polRun; exact decide_eq_decide.2 ⟨fun h => by omega, fun h => by omega⟩
    constructor
    · simp only [spec_poGood.l0]; rw [if_neg (by omega), e]
    · simp only [impl_isPoly.l0]; rw [if_neg (by omega), e]
  | succ d ih =>
    intro i K hi hp hK
    obtain ⟨K, rfl⟩ : ∃ j, K = j + 1 := ⟨K - 1, by omega⟩
    have hw : wrap64 ((i : Int) + 1) = ((i + 1 : Nat) : Int) := by rw [w64 (by omega) (by omega)]; omega
    have ih' := fun h => ih (i + 1) K (by omega) (.inr h) (by omega)
    rw [Nat.add_sub_cancel] at ih'
    by_cases ho : okT (l.getD i z51) = true
    · have ho' := okT_iff.1 ho
      obtain ⟨i1, i2⟩ := ih' ho
      have e1 : polRun l (d + 1) i = if i = 0 ∨ ltT (l.getD (i - 1) z51) (l.getD i z51) = true then polRun l d (i + 1) else false := by conv => lhs; unfold polRun; rw [if_pos ho]
      rw [e1]
      constructor
      · simp only [spec_poGood.l0]
        rw [if_pos (by omega), if_pos (by omega), if_pos (by omega), rdT_at, poTerm_eq, decide_eq_true (by omega)]; simp only [bs', if_true]
        rw [if_neg (by omega), hw]
        by_cases h0 : i = 0
        · rw [if_neg (by omega), if_pos (.inl h0)]; exact i1
        · rcases hp with hp | hp
          · exact absurd hp h0
          · rw [if_pos (by omega), w64 (by omega) (by omega), if_pos (by omega), if_pos (by omega), show (i : Int) - 1 = ((i - 1 : Nat) : Int) by omega, rdT_at]
            obtain ⟨s, hs, hh⟩ := poOrder_eq hp ho
            rw [hs]; simp only [bs']
            by_cases h3 : ltT (l.getD (i - 1) z51) (l.getD i z51) = true
            · rw [if_neg (fun e => hh.1 e h3), if_pos (.inr h3)]; exact i1
            · rw [if_pos (hh.2 h3), if_neg (fun e => e.elim h0 h3)]
      · simp only [impl_isPoly.l0]
        rw [if_pos (by omega), if_pos (by omega), if_pos (by omega), rdT_at, if_neg (by omega), inside_eq, decide_eq_true (by omega)]; simp only [bs', if_true]
        rw [hasDegree_eq, decide_eq_true (by omega)]; simp only [bs', if_true]
        rw [hw]
        by_cases h0 : i = 0
        · rw [if_neg (by omega), if_pos (.inl h0)]; exact i2
        · rw [if_pos (by omega), w64 (by omega) (by omega), if_pos (by omega), if_pos (by omega), show (i : Int) - 1 = ((i - 1 : Nat) : Int) by omega, rdT_at]
          obtain ⟨s, hs, hh⟩ := compareTerms_eq (l.getD (i - 1) z51) (l.getD i z51) K (by omega)
          rw [hs]; simp only [bs']
          by_cases h3 : ltT (l.getD (i - 1) z51) (l.getD i z51) = true
          · rw [if_neg (fun e => hh.1 e h3), if_pos (.inr h3)]; exact i2
          · rw [if_pos (hh.2 h3), if_neg (fun e => e.elim h0 h3)]
    · have e1 : polRun l (d + 1) i = false := by unfold polRun; rw [if_neg ho]
      rw [e1]
      have hn := mt okT_iff.2 ho
      constructor
      · simp only [spec_poGood.l0]
        rw [if_pos (by omega), if_pos (by omega), if_pos (by omega), rdT_at, poTerm_eq]; simp only [bs', decide_eq_true_eq]
        split
        · rw [if_pos (by omega)]
        · rfl
      · simp only [impl_isPoly.l0]
        rw [if_pos (by omega), if_pos (by omega), if_pos (by omega), rdT_at]
        by_cases h0 : (l.getD i z51).f0 = 0
        · rw [if_pos h0]
        · rw [if_neg h0, inside_eq]; simp only [bs', decide_eq_true_eq]
          by_cases h1 : -1000 ≤ (l.getD i z51).f0 ∧ (l.getD i z51).f0 ≤ 1000
          · rw [if_pos h1, hasDegree_eq]; simp only [bs', decide_eq_true_eq]
            rw [if_neg (by omega)]
          · rw [if_neg h1]
def goodT (l : List S51) : Bool := polRun l l.length 0
theorem poGood_ev {l : List S51} (hl : l.length ≤ 1000000) : Ev (fun K => spec_poGood.f K l) (goodT l) :=
  ⟨l.length + 7, fun K hK => by dsimp only; unfold spec_poGood.f; exact (good_l0 hl l.length 0 K (by omega) (.inl rfl) (by omega)).1⟩
theorem isPoly_ev {l : List S51} (hl : l.length ≤ 1000000) : Ev (fun K => impl_isPoly.f K l) (goodT l) :=
  ⟨l.length + 7, fun K hK => by dsimp only; unfold impl_isPoly.f; exact (good_l0 hl l.length 0 K (by omega) (.inl rfl) (by omega)).2⟩
theorem polRun_ok {l : List S51} : ∀ (d i : Nat), i + d = l.length → polRun l d i = true → l.length ≤ 20 ∧ (∀ j, i ≤ j → j < l.length → okT (l.getD j z51) = true) ∧ (∀ j, i ≤ j → 0 < j → j < l.length → ltT (l.getD (j - 1) z51) (l.getD j z51) = true) := by
  intro d
  induction d with
  | zero => intro i hi h; unfold polRun at h; exact ⟨of_decide_eq_true h, fun j h1 h2 => by omega, fun j h1 _ h2 => by omega⟩
  | succ d ih =>
    intro i hi h
    unfold polRun at h
    by_cases ho : okT (l.getD i z51) = true
    · rw [if_pos ho] at h
      by_cases h3 : i = 0 ∨ ltT (l.getD (i - 1) z51) (l.getD i z51) = true
      · rw [if_pos h3] at h
        obtain ⟨a, b, c⟩ := ih (i + 1) (by omega) h
        refine ⟨a, fun j h1 h2 => ?_, fun j h1 h0 h2 => ?_⟩
        · by_cases e : j = i
          · subst e; exact ho
          · exact b j (by omega) h2
        · by_cases e : j = i
          · subst e
            rcases h3 with h3 | h3
            · omega
            · exact h3
          · exact c j (by omega) h0 h2
      · rw [if_neg h3] at h; cases h
    · rw [if_neg ho] at h; cases h
/-- A valid polynomial. -/
theorem goodT_ok {l : List S51} (h : goodT l = true) : l.length ≤ 20 ∧ (∀ j, j < l.length → okT (l.getD j z51) = true) ∧ (∀ j, 0 < j → j < l.length → ltT (l.getD (j - 1) z51) (l.getD j z51) = true) := by
  obtain ⟨a, b, c⟩ := polRun_ok l.length 0 (by omega) h
  exact ⟨a, fun j hj => b j (by omega) hj, fun j h0 hj => c j (by omega) h0 hj⟩
/-! the degree -/
end Go.Proofs.Ythanmlojikidbaa.PD
