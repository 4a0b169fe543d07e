import Derived.Test.YthanmlojikidbaaGreatQUnknnsPDx0
import Derived.Test.YthanmlojikidbaaGreatQUnknnsMr
import Derived.Test.YthanmlojikidbaaGreatQUnknnsCol
/- Sums of terms: the reference's way (term by term into its place) and the program's (sorted, added, zeros struck) come to the same list: plain lemmas on the printed functions. -/
namespace Go.Proofs.YthanmlojikidbaaGreat.PD
open Go.RowKit Go.Proofs.YthanmlojikidbaaGreatW.PrintWords Go.Proofs.YthanmlojikidbaaGreatW.PrintLast Go.Proofs.YthanmlojikidbaaGreatW.PrintMore
open Go.Proofs.YthanmlojikidbaaGreatCol (Lt Eqk put sums ahd)
/-- Exponents that are small: differences of two do not leave 64 bits. -/
def smT (t : S62) : Prop := 0 ≤ t.f1 ∧ t.f1 ≤ 1000 ∧ 0 ≤ t.f2 ∧ t.f2 ≤ 1000 ∧ 0 ≤ t.f3 ∧ t.f3 ≤ 1000
theorem l1Sign_sg (a : Int) : ∃ s, spec_l1Sign.f a = some s ∧ (s < 0 ↔ a < 0) ∧ (s = 0 ↔ a = 0) := by
  unfold spec_l1Sign.f
  by_cases h : a > 0
  · rw [if_pos h]; exact ⟨_, rfl, by omega, by omega⟩
  · rw [if_neg h]
    by_cases h2 : a < 0
    · rw [if_pos h2]; exact ⟨_, rfl, by omega, by omega⟩
    · rw [if_neg h2]; exact ⟨_, rfl, by omega, by omega⟩
theorem poOrder_sg {a b : S62} (ha : smT a) (hb : smT b) : ∃ s, spec_poOrder.f a.f0 a.f1 a.f2 a.f3 b.f0 b.f1 b.f2 b.f3 = some s ∧ (s < 0 ↔ Lt impl_collect.ops a b) ∧ (s = 0 ↔ Eqk impl_collect.ops a b) := by
  obtain ⟨a1, a2, a3, a4, a5, a6⟩ := ha
  obtain ⟨b1, b2, b3, b4, b5, b6⟩ := hb
  unfold spec_poOrder.f Lt Eqk impl_collect.ops
  simp only []
  by_cases h1 : a.f1 = b.f1
  · rw [if_pos h1]
    by_cases h2 : a.f2 = b.f2
    · rw [if_pos h2, w64 (by omega) (by omega)]
      obtain ⟨s, e, h3, h4⟩ := l1Sign_sg (a.f3 - b.f3)
      rw [e]; simp only [bs']
      exact ⟨s, rfl, by omega, by omega⟩
    · rw [if_neg h2, w64 (by omega) (by omega)]
      obtain ⟨s, e, h3, h4⟩ := l1Sign_sg (a.f2 - b.f2)
      rw [e]; simp only [bs']
      exact ⟨s, rfl, by omega, by omega⟩
  · rw [if_neg h1, w64 (by omega) (by omega)]
    obtain ⟨s, e, h3, h4⟩ := l1Sign_sg (a.f1 - b.f1)
    rw [e]; simp only [bs']
    exact ⟨s, rfl, by omega, by omega⟩
theorem put_nil {p : List S62} {t : S62} (h : p.drop (ahd impl_collect.ops t p) = []) : put impl_collect.ops p t = p.take (ahd impl_collect.ops t p) ++ (if t.f0 ≠ 0 then [t] else []) := by
  unfold put; rw [h]; rfl
theorem put_cons {p : List S62} {t u : S62} {r : List S62} (h : p.drop (ahd impl_collect.ops t p) = u :: r) : put impl_collect.ops p t = if Eqk impl_collect.ops u t then p.take (ahd impl_collect.ops t p) ++ ((if wrap64 (t.f0 + u.f0) ≠ 0 then [(⟨wrap64 (t.f0 + u.f0), t.f1, t.f2, t.f3⟩ : S62)] else []) ++ r) else p.take (ahd impl_collect.ops t p) ++ ((if t.f0 ≠ 0 then [t] else []) ++ u :: r) := by
  unfold put; rw [h]; rfl
theorem put_j1 {p : List S62} {t : S62} (hp : ∀ u ∈ p, smT u) (ht : smT t) (hl : p.length ≤ 1000) (K : Nat) (hK : 2 ≤ K) : spec_poPut.j1 K p ((ahd impl_collect.ops t p : Nat) : Int) t.f0 t.f1 t.f2 t.f3 = some (put impl_collect.ops p t) := by
  have ha := Go.Proofs.YthanmlojikidbaaGreatCol.ahd_le (o := impl_collect.ops) t p
  obtain ⟨K, rfl⟩ : ∃ j, K = j + 1 := ⟨K - 1, by omega⟩
  obtain ⟨K, rfl⟩ : ∃ j, K = j + 1 := ⟨K - 1, by omega⟩
  have hp0 := put_nil (p := p) (t := t)
  have hp1 := fun u r => put_cons (p := p) (t := t) (u := u) (r := r)
  generalize put impl_collect.ops p t = X at hp0 hp1 ⊢
  generalize ahd impl_collect.ops t p = a at ha hp0 hp1 ⊢
  have htk : (p.take a).length ≤ 1000 := by rw [List.length_take]; omega
  have hdk : (p.drop a).length ≤ 1000 := by rw [List.length_drop]; omega
  have htn : (((a : Nat) : Int)).toNat = a := Int.toNat_natCast a
  have plain : ∀ y : List S62, y.length ≤ 1000 → spec_poPut.j2 (K + 1) p (a : Int) y false t.f0 t.f1 t.f2 t.f3 = some (p.take a ++ ((if t.f0 ≠ 0 then [t] else []) ++ y)) := by
    intro y hy
    simp only [spec_poPut.j2, bs']
    rw [if_neg (by decide), if_pos (by omega), if_pos (by omega), htn, List.nil_append, if_pos (by simp only [List.length_nil]; omega)]
    by_cases c : t.f0 = 0
    · rw [if_pos c, if_pos (by omega), if_neg (fun h => h c), List.nil_append]
    · rw [if_neg c, if_pos (by omega), if_pos (by rw [List.length_append, List.length_singleton]; omega), if_pos c, List.append_assoc]
  simp only [spec_poPut.j1, bs']
  rw [if_pos (by omega), if_pos (by omega), htn]
  by_cases hlt : a < p.length
  · have hd : p.drop a = p.getD a z62 :: p.drop (a + 1) := by rw [List.drop_eq_getElem_cons hlt]; simp [List.getD_eq_getElem?_getD, hlt]
    have hm : p.getD a z62 ∈ p := by rw [List.getD_eq_getElem?_getD, List.getElem?_eq_getElem hlt]; exact List.getElem_mem hlt
    obtain ⟨s, e, _, h4⟩ := poOrder_sg (hp _ hm) ht
    rw [if_pos (by omega), rdT_at, e, bs', hp1 _ _ hd, hd]
    by_cases k : Eqk impl_collect.ops (p.getD a z62) t
    · rw [if_pos k, show (s == 0) = true from beq_iff_eq.2 (h4.2 k)]
      have hw : wrap64 ((a : Int) + 1) = ((a + 1 : Nat) : Int) := by rw [w64 (by omega) (by omega)]; omega
      have hdl : (p.drop (a + 1)).length ≤ 1000 := by rw [List.length_drop]; omega
      simp only [spec_poPut.j2, bs']
      rw [if_pos trivial, if_pos (by omega), if_pos (by omega), hw, if_pos (by omega), if_pos (by omega), Int.toNat_natCast, if_pos (by omega), Int.toNat_natCast, List.nil_append, if_pos (by simp only [List.length_nil]; omega), rdT_at]
      by_cases c : wrap64 (t.f0 + (p.getD a z62).f0) = 0
      · rw [if_pos c, if_pos (by omega), if_neg (fun h => h c), List.nil_append]
      · rw [if_neg c, if_pos (by omega), if_pos (by rw [List.length_append, List.length_singleton]; omega), if_pos c, List.append_assoc]
    · rw [if_neg k, show (s == 0) = false from beq_eq_false_iff_ne.2 (fun h => k (h4.1 h))]
      rw [hd] at hdk
      exact plain _ hdk
  · have hd : p.drop a = [] := List.drop_of_length_le (by omega)
    rw [if_neg (by omega), hp0 hd, hd]
    have := plain [] (by simp)
    rw [List.append_nil] at this
    exact this
theorem put_l0 {p : List S62} {t : S62} (hp : ∀ u ∈ p, smT u) (ht : smT t) (hl : p.length ≤ 1000) : ∀ (n i K : Nat), i + n = p.length → n + 3 ≤ K → ∃ K', 2 ≤ K' ∧ spec_poPut.l0 K p (i : Int) t.f0 t.f1 t.f2 t.f3 = spec_poPut.j1 K' p ((i + ahd impl_collect.ops t (p.drop i) : Nat) : Int) t.f0 t.f1 t.f2 t.f3
  | 0, i, K, h, hK => by
    obtain ⟨K, rfl⟩ : ∃ j, K = j + 1 := ⟨K - 1, by omega⟩
    refine ⟨K, by omega, ?_⟩
    simp only [spec_poPut.l0]
    rw [if_neg (by omega), List.drop_of_length_le (by omega)]; rfl
  | n + 1, i, K, h, hK => by
    obtain ⟨K, rfl⟩ : ∃ j, K = j + 1 := ⟨K - 1, by omega⟩
    have hlt : i < p.length := by omega
    have hd : p.drop i = p.getD i z62 :: p.drop (i + 1) := by rw [List.drop_eq_getElem_cons hlt]; simp [List.getD_eq_getElem?_getD, hlt]
    have hm : p.getD i z62 ∈ p := by rw [List.getD_eq_getElem?_getD, List.getElem?_eq_getElem hlt]; exact List.getElem_mem hlt
    obtain ⟨s, e, h3, _⟩ := poOrder_sg (hp _ hm) ht
    have hw : wrap64 ((i : Int) + 1) = ((i + 1 : Nat) : Int) := by rw [w64 (by omega) (by omega)]; omega
    simp only [spec_poPut.l0]
    rw [if_pos (by omega), if_pos (by omega), rdT_at, e, hd]; simp only [bs', hw]
    by_cases k : Lt impl_collect.ops (p.getD i z62) t
    · obtain ⟨K', h1, h2⟩ := put_l0 hp ht hl n (i + 1) K (by omega) (by omega)
      refine ⟨K', h1, ?_⟩
      rw [if_pos (h3.2 k), h2]
      congr 2
      show _ = i + (if Lt impl_collect.ops (p.getD i z62) t then ahd impl_collect.ops t (p.drop (i + 1)) + 1 else 0)
      rw [if_pos k]; omega
    · refine ⟨K, by omega, ?_⟩
      rw [if_neg (fun h => k (h3.1 h))]
      congr 2
      show _ = i + (if Lt impl_collect.ops (p.getD i z62) t then ahd impl_collect.ops t (p.drop (i + 1)) + 1 else 0)
      rw [if_neg k]; omega
theorem poPut_run {p : List S62} {t : S62} (hp : ∀ u ∈ p, smT u) (ht : smT t) (hl : p.length ≤ 1000) (K : Nat) (hK : p.length + 3 ≤ K) : spec_poPut.f K p t.f0 t.f1 t.f2 t.f3 = some (put impl_collect.ops p t) := by
  obtain ⟨K', h1, h2⟩ := put_l0 hp ht hl p.length 0 K (Nat.zero_add _) hK
  unfold spec_poPut.f
  rw [show (0 : Int) = ((0 : Nat) : Int) from rfl, h2, Nat.zero_add, List.drop_zero]
  exact put_j1 hp ht hl K' h1
theorem put_mem {p : List S62} {t u : S62} (h : u ∈ put impl_collect.ops p t) : ∃ v, (v ∈ p ∨ v = t) ∧ u.f1 = v.f1 ∧ u.f2 = v.f2 ∧ u.f3 = v.f3 := by
  have tk : ∀ v, v ∈ p.take (ahd impl_collect.ops t p) → v ∈ p := fun v hv => List.mem_of_mem_take hv
  have dk : ∀ v, v ∈ p.drop (ahd impl_collect.ops t p) → v ∈ p := fun v hv => List.mem_of_mem_drop hv
  cases hd : p.drop (ahd impl_collect.ops t p) with
  | nil =>
    rw [put_nil hd] at h
    rcases List.mem_append.1 h with h | h
    · exact ⟨u, Or.inl (tk u h), rfl, rfl, rfl⟩
    · split at h
      · rw [List.mem_singleton.1 h]; exact ⟨t, Or.inr rfl, rfl, rfl, rfl⟩
      · cases h
  | cons v r =>
    rw [put_cons hd] at h
    rw [hd] at dk
    split at h
    · rcases List.mem_append.1 h with h | h
      · exact ⟨u, Or.inl (tk u h), rfl, rfl, rfl⟩
      · rcases List.mem_append.1 h with h | h
        · split at h
          · rw [List.mem_singleton.1 h]; exact ⟨t, Or.inr rfl, rfl, rfl, rfl⟩
          · cases h
        · exact ⟨u, Or.inl (dk u (List.mem_cons_of_mem _ h)), rfl, rfl, rfl⟩
    · rcases List.mem_append.1 h with h | h
      · exact ⟨u, Or.inl (tk u h), rfl, rfl, rfl⟩
      · rcases List.mem_append.1 h with h | h
        · split at h
          · rw [List.mem_singleton.1 h]; exact ⟨t, Or.inr rfl, rfl, rfl, rfl⟩
          · cases h
        · exact ⟨u, Or.inl (dk u h), rfl, rfl, rfl⟩
theorem put_len (p : List S62) (t : S62) : (put impl_collect.ops p t).length ≤ p.length + 1 := by
  have e0 := congrArg List.length (List.take_append_drop (ahd impl_collect.ops t p) p)
  rw [List.length_append] at e0
  cases hd : p.drop (ahd impl_collect.ops t p) with
  | nil =>
    rw [put_nil hd]
    rw [hd, List.length_nil] at e0
    generalize List.take (ahd impl_collect.ops t p) p = A at e0 ⊢
    rw [List.length_append]
    split <;> simp only [List.length_singleton, List.length_nil] <;> omega
  | cons v r =>
    rw [put_cons hd]
    rw [hd, List.length_cons] at e0
    generalize List.take (ahd impl_collect.ops t p) p = A at e0 ⊢
    split
    · rw [List.length_append, List.length_append]
      split <;> simp only [List.length_singleton, List.length_nil] <;> omega
    · rw [List.length_append, List.length_append, List.length_cons]
      split <;> simp only [List.length_singleton, List.length_nil] <;> omega
theorem smT_put {p : List S62} {t : S62} (hp : ∀ u ∈ p, smT u) (ht : smT t) : ∀ u ∈ put impl_collect.ops p t, smT u := by
  intro u hu
  obtain ⟨v, hv, e1, e2, e3⟩ := put_mem hu
  have h : smT v := by rcases hv with hv | hv; exact hp v hv; rw [hv]; exact ht
  unfold smT at *
  rw [e1, e2, e3]; exact h
theorem sums_len (l : List S62) : ∀ p : List S62, (l.foldl (put impl_collect.ops) p).length ≤ p.length + l.length := by
  induction l with
  | nil => intro p; exact Nat.le_refl _
  | cons t l ih =>
    intro p
    have h1 := ih (put impl_collect.ops p t)
    have h2 := put_len p t
    rw [List.foldl_cons, List.length_cons]; omega
/-- What both sides hand back of a list of terms. -/
def resT (l : List S62) : List S62 × Bool := if goodT (sums impl_collect.ops l) = true then (sums impl_collect.ops l, true) else ([], false)
theorem resT_len (l : List S62) : (resT l).1.length ≤ 20 := by
  unfold resT
  split
  · rename_i h; exact (goodT_ok h).1
  · simp
theorem poSum_l0 {l : List S62} (hl : l.length ≤ 500) (hs : ∀ t ∈ l, smT t) (KG : Nat) (hG : ∀ x : List S62, x.length ≤ 500 → ∀ K, KG ≤ K → spec_poGood.f K x = some (goodT x)) : ∀ (n i K : Nat) (x : List S62), i + n = l.length → x.length ≤ i → (∀ u ∈ x, smT u) → n + 510 + KG ≤ K →
    spec_poSum.l0 K x l (l.length : Int) (i : Int) = some (if goodT ((l.drop i).foldl (put impl_collect.ops) x) = true then ((l.drop i).foldl (put impl_collect.ops) x, true) else ([], false))
  | 0, i, K, x, h, hx, _, hK => by
    obtain ⟨K, rfl⟩ : ∃ j, K = j + 1 := ⟨K - 1, by omega⟩
    simp only [spec_poSum.l0]
    rw [if_neg (by omega), List.drop_of_length_le (by omega), hG x (by omega) K (by omega), bs', List.foldl_nil]
    split <;> rfl
  | n + 1, i, K, x, h, hx, hxs, hK => by
    obtain ⟨K, rfl⟩ : ∃ j, K = j + 1 := ⟨K - 1, by omega⟩
    have hlt : i < l.length := by omega
    have hd : l.drop i = l.getD i z62 :: l.drop (i + 1) := by rw [List.drop_eq_getElem_cons hlt]; simp [List.getD_eq_getElem?_getD, hlt]
    have hm : l.getD i z62 ∈ l := by rw [List.getD_eq_getElem?_getD, List.getElem?_eq_getElem hlt]; exact List.getElem_mem hlt
    have hw : wrap64 ((i : Int) + 1) = ((i + 1 : Nat) : Int) := by rw [w64 (by omega) (by omega)]; omega
    have hlen := put_len x (l.getD i z62)
    simp only [spec_poSum.l0]
    rw [if_pos (by omega), if_pos (by omega), if_pos (by omega), rdT_at, poPut_run hxs (hs _ hm) (by omega) K (by omega), bs', hw, hd, List.foldl_cons]
    exact poSum_l0 hl hs KG hG n (i + 1) K _ (by omega) (by omega) (smT_put hxs (hs _ hm)) (by omega)
theorem good_all : ∃ KG, ∀ x : List S62, x.length ≤ 500 → ∀ K, KG ≤ K → spec_poGood.f K x = some (goodT x) ∧ impl_isPoly.f K x = some (goodT x) := by
  refine ⟨510, fun x hx K hK => ?_⟩
  have h := good_l0 (l := x) (by omega) x.length 0 K (by omega) (Or.inl rfl) (by omega)
  exact h
theorem poSum_run : ∃ KS, ∀ l : List S62, l.length ≤ 500 → (∀ t ∈ l, smT t) → ∀ K, KS ≤ K → spec_poSum.f K l = some (resT l) := by
  obtain ⟨KG, hG⟩ := good_all
  refine ⟨1020 + KG, fun l hl hs K hK => ?_⟩
  have h := poSum_l0 hl hs KG (fun x hx K hK => (hG x hx K hK).1) l.length 0 K [] (Nat.zero_add _) (Nat.le_refl _) (fun u hu => by cases hu) (by omega)
  rw [List.drop_zero] at h
  exact h
theorem collect_run {l : List S62} (hl : l.length ≤ 1000000) (hr : ∀ t ∈ l, wrap64 t.f0 = t.f0) : impl_collect.f l = some (sums impl_collect.ops l) := by
  unfold impl_collect.f
  rw [if_pos]
  unfold impl_collect.ok
  rw [Bool.and_eq_true]
  exact ⟨decide_eq_true hl, List.all_eq_true.2 (fun t ht => decide_eq_true (hr t ht))⟩
theorem result_run : ∃ KS, ∀ l : List S62, l.length ≤ 500 → ∀ K, KS ≤ K → impl_polyResult.f K (sums impl_collect.ops l) = some (resT l) := by
  obtain ⟨KG, hG⟩ := good_all
  refine ⟨KG, fun l hl K hK => ?_⟩
  have h := sums_len l []
  rw [List.length_nil, Nat.zero_add] at h
  unfold impl_polyResult.f resT
  rw [(hG (sums impl_collect.ops l) (by unfold sums; omega) K hK).2, bs']
  split <;> rfl
end Go.Proofs.YthanmlojikidbaaGreat.PD
