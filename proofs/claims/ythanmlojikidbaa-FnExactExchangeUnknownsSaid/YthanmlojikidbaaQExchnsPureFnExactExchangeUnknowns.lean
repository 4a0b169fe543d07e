import Derived.Test.YthanmlojikidbaaQExchnsPDx1
import Derived.Test.YthanmlojikidbaaQExchnsMz
/- FnExactExchangeUnknowns, told over numbers and lists alone: the law's printed function answers true. -/
namespace Go.Proofs.Ythanmlojikidbaa.Pure
open Go.RowKit Go.Proofs.Ythanmlojikidbaa.PD Go.Proofs.YthanmlojikidbaaW.PrintWords Go.Proofs.YthanmlojikidbaaW.PrintLast Go.Proofs.YthanmlojikidbaaW.PrintMore
open Go.Proofs.YthanmlojikidbaaCol (Lt Eqk put sums ahd cs Nf)
abbrev pt := impl_ExchangeUnknowns.pt
abbrev tm := impl_ExchangeUnknowns.tm
abbrev perm := impl_ExchangeUnknowns.perm
abbrev le2 (x y : Int) : Bool := decide (x ≤ y)
theorem getD_mem {l : List S51} {i : Nat} (h : i < l.length) : l.getD i z51 ∈ l := by rw [List.getD_eq_getElem?_getD, List.getElem?_eq_getElem h]; exact List.getElem_mem h
theorem mem_getD {l : List S51} {t : S51} (h : t ∈ l) : ∃ i, i < l.length ∧ l.getD i z51 = t := by
  obtain ⟨i, hi, e⟩ := List.getElem_of_mem h
  exact ⟨i, hi, by rw [List.getD_eq_getElem?_getD, List.getElem?_eq_getElem hi]; exact e⟩
/-! ### a list that is an order of 0, 1, 2 -/
theorem perm_iff (o : List Int) : perm o ↔ o.Perm [0, 1, 2] := by
  constructor
  · intro h
    rcases h with rfl | rfl | rfl | rfl | rfl | rfl <;> decide
  · intro h
    have hl := h.length_eq
    match o, hl with
    | [a, b, c], _ =>
      have ha : a = 0 ∨ a = 1 ∨ a = 2 := by have := h.mem_iff (a := a); simpa using this
      have hb : b = 0 ∨ b = 1 ∨ b = 2 := by have := h.mem_iff (a := b); simpa using this
      have hc : c = 0 ∨ c = 1 ∨ c = 2 := by have := h.mem_iff (a := c); simpa using this
      rcases ha with rfl | rfl | rfl <;> rcases hb with rfl | rfl | rfl <;> rcases hc with rfl | rfl | rfl <;> first | (unfold perm impl_ExchangeUnknowns.perm; decide) | (exfalso; revert h; decide)
theorem sort_iff (o : List Int) : o.mergeSort le2 = [0, 1, 2] ↔ perm o := by
  rw [perm_iff]
  have hp : (o.mergeSort le2).Perm o := List.mergeSort_perm o le2
  constructor
  · intro h
    rw [h] at hp
    exact hp.symm
  · intro h
    refine (hp.trans h).eq_of_pairwise (le := fun a b => a ≤ b) (fun a b _ _ h1 h2 => by omega) ?_ (by decide)
    exact (List.pairwise_mergeSort (le := le2) (fun a b c h1 h2 => by simp only [le2, decide_eq_true_eq] at *; omega) (fun a b => by simp only [le2, Bool.or_eq_true, decide_eq_true_eq]; omega) o).imp (fun h => by simpa [le2] using h)
theorem equal_ev {a b : List Int} (ha : a.length ≤ 1000000) : Ev (fun K => slices_Equal_int_int.f K a b) (decide (a = b)) := by
  by_cases hl : a.length = b.length
  · have key : ∀ (d i K : Nat), i + d = a.length → d < K → slices_Equal_int_int.l0 K a b (a.length : Int) (i : Int) = some (decide (a.drop i = b.drop i)) := by
      intro d
      induction d with
      | zero =>
        intro i K hi hK
        obtain ⟨K, rfl⟩ : ∃ j, K = j + 1 := ⟨K - 1, by omega⟩
        simp only [slices_Equal_int_int.l0]
        rw [if_neg (by omega), List.drop_of_length_le (by omega), List.drop_of_length_le (by omega)]; rfl
      | succ d ih =>
        intro i K hi hK
        obtain ⟨K, rfl⟩ : ∃ j, K = j + 1 := ⟨K - 1, by omega⟩
        have h1 : i < a.length := by omega
        have h2 : i < b.length := by omega
        simp only [slices_Equal_int_int.l0]
        rw [if_pos (by omega), if_pos (by omega), if_pos (by omega), if_pos (by omega), rd_at, rd_at, List.drop_eq_getElem_cons h1, List.drop_eq_getElem_cons h2]
        have e1 : a.getD i 0 = a[i] := by rw [List.getD_eq_getElem?_getD, List.getElem?_eq_getElem h1]; rfl
        have e2 : b.getD i 0 = b[i] := by rw [List.getD_eq_getElem?_getD, List.getElem?_eq_getElem h2]; rfl
        rw [e1, e2]
        by_cases c : a[i] = b[i]
        · rw [if_pos c, w64 (by omega) (by omega), show (i : Int) + 1 = ((i + 1 : Nat) : Int) by omega, ih (i + 1) K (by omega) (by omega)]
          congr 1
          rw [decide_eq_decide, c, List.cons.injEq]
          exact ⟨fun h => ⟨rfl, h⟩, fun h => h.2⟩
        · rw [if_neg c, decide_eq_false (fun h => c (List.cons.inj h).1)]
    refine ⟨a.length + 1, fun K hK => ?_⟩
    dsimp only; unfold slices_Equal_int_int.f
    have := key a.length 0 K (by omega) (by omega)
    rw [List.drop_zero, List.drop_zero] at this
    rw [if_pos (by omega)]
    exact this
  · refine ⟨0, fun K _ => ?_⟩
    dsimp only; unfold slices_Equal_int_int.f
    rw [if_neg (by omega), decide_eq_false (fun h => hl (by rw [h]))]
theorem all_run {l : List Int} (hl : l.length ≤ 1000000) : Ev (fun K => spec_l1All.f K l 0 2) (l.all (fun x => decide (0 ≤ x ∧ x ≤ 2))) := by
  have key : ∀ (d i K : Nat), i + d = l.length → d < K → spec_l1All.l0 K 0 2 l (l.length : Int) (i : Int) = some ((l.drop i).all (fun x => decide (0 ≤ x ∧ x ≤ 2))) := by
    intro d
    induction d with
    | zero =>
      intro i K hi hK
      obtain ⟨K, rfl⟩ : ∃ j, K = j + 1 := ⟨K - 1, by omega⟩
      simp only [spec_l1All.l0]
      rw [if_neg (by omega), List.drop_of_length_le (by omega)]; rfl
    | succ d ih =>
      intro i K hi hK
      obtain ⟨K, rfl⟩ : ∃ j, K = j + 1 := ⟨K - 1, by omega⟩
      have hil : i < l.length := by omega
      have he : l.getD i 0 = l[i] := by rw [List.getD_eq_getElem?_getD, List.getElem?_eq_getElem hil]; rfl
      simp only [spec_l1All.l0]
      rw [if_pos (by omega), if_pos (by omega), if_pos (by omega), rd_at, he, l1In_eq]; simp only [bs']
      rw [List.drop_eq_getElem_cons hil, List.all_cons]
      by_cases h1 : 0 ≤ l[i] ∧ l[i] ≤ 2
      · rw [decide_eq_true h1, if_pos rfl, w64 (by omega) (by omega), show (i : Int) + 1 = ((i + 1 : Nat) : Int) by omega, ih (i + 1) K (by omega) (by omega)]; rfl
      · rw [decide_eq_false h1, if_neg (by decide)]; rfl
  refine ⟨l.length + 1, fun K hK => ?_⟩
  dsimp only; unfold spec_l1All.f
  have := key l.length 0 K (by omega) (by omega)
  rw [List.drop_zero] at this
  exact this
theorem has_run {l : List Int} (v : Int) (hl : l.length ≤ 1000000) : Ev (fun K => spec_l1Has.f K l v) (l.any (fun x => decide (x = v))) := by
  have key : ∀ (d i K : Nat), i + d = l.length → d < K → spec_l1Has.l0 K v l (l.length : Int) (i : Int) = some ((l.drop i).any (fun x => decide (x = v))) := by
    intro d
    induction d with
    | zero =>
      intro i K hi hK
      obtain ⟨K, rfl⟩ : ∃ j, K = j + 1 := ⟨K - 1, by omega⟩
      simp only [spec_l1Has.l0]
      rw [if_neg (by omega), List.drop_of_length_le (by omega)]; rfl
    | succ d ih =>
      intro i K hi hK
      obtain ⟨K, rfl⟩ : ∃ j, K = j + 1 := ⟨K - 1, by omega⟩
      have hil : i < l.length := by omega
      have he : l.getD i 0 = l[i] := by rw [List.getD_eq_getElem?_getD, List.getElem?_eq_getElem hil]; rfl
      simp only [spec_l1Has.l0]
      rw [if_pos (by omega), if_pos (by omega), if_pos (by omega), rd_at, he]
      rw [List.drop_eq_getElem_cons hil, List.any_cons]
      by_cases h1 : l[i] = v
      · rw [if_pos h1, decide_eq_true h1]; rfl
      · rw [if_neg h1, decide_eq_false h1, w64 (by omega) (by omega), show (i : Int) + 1 = ((i + 1 : Nat) : Int) by omega, ih (i + 1) K (by omega) (by omega)]; rfl
  refine ⟨l.length + 1, fun K hK => ?_⟩
  dsimp only; unfold spec_l1Has.f
  have := key l.length 0 K (by omega) (by omega)
  rw [List.drop_zero] at this
  exact this
theorem perm_spec (o : List Int) : perm o ↔ (o.length : Int) = 3 ∧ o.all (fun x => decide (0 ≤ x ∧ x ≤ 2)) = true ∧ o.any (fun x => decide (x = 0)) = true ∧ o.any (fun x => decide (x = 1)) = true ∧ o.any (fun x => decide (x = 2)) = true := by
  constructor
  · intro h
    rcases h with rfl | rfl | rfl | rfl | rfl | rfl <;> decide
  · rintro ⟨hl, h1, h2, h3, h4⟩
    have hl : o.length = 3 := by omega
    match o, hl with
    | [a, b, c], _ =>
      simp only [List.all_cons, List.all_nil, Bool.and_true, Bool.and_eq_true, decide_eq_true_eq] at h1
      obtain ⟨⟨a1, a2⟩, ⟨b1, b2⟩, c1, c2⟩ := h1
      have ha : a = 0 ∨ a = 1 ∨ a = 2 := by omega
      have hb : b = 0 ∨ b = 1 ∨ b = 2 := by omega
      have hc : c = 0 ∨ c = 1 ∨ c = 2 := by omega
      rcases ha with rfl | rfl | rfl <;> rcases hb with rfl | rfl | rfl <;> rcases hc with rfl | rfl | rfl <;> first | (unfold perm impl_ExchangeUnknowns.perm; decide) | (exfalso; revert h2 h3 h4; decide)
/-! ### the exchanged terms -/
def ex (o : List Int) (l : List S51) : List S51 := l.map (fun t => tm t o)
theorem tm_ok {t : S51} {o : List Int} (ho : perm o) (ht : okT t = true) : okT (tm t o) = true := by
  have h := okT_iff.1 ht
  rw [okT_iff]
  unfold tm impl_ExchangeUnknowns.tm
  rcases ho with rfl | rfl | rfl | rfl | rfl | rfl <;> simp [impl_ExchangeUnknowns.pt, rd] <;> omega
theorem tm_inj {a b : S51} {o : List Int} (ho : perm o) (h : Eqk impl_collect.ops (tm a o) (tm b o)) : Eqk impl_collect.ops a b := by
  unfold Eqk impl_collect.ops tm impl_ExchangeUnknowns.tm at h
  unfold Eqk impl_collect.ops
  simp only [] at h ⊢
  rcases ho with rfl | rfl | rfl | rfl | rfl | rfl <;> simp [impl_ExchangeUnknowns.pt, rd] at h <;> omega
theorem ok_sm {t : S51} (h : okT t = true) : smT t ∧ wrap64 t.f0 = t.f0 := by
  have h := okT_iff.1 h
  unfold smT
  exact ⟨by omega, w64 (by omega) (by omega)⟩
theorem good_lt {l : List S51} (h : goodT l = true) : l.Pairwise (Lt impl_collect.ops) := by
  obtain ⟨_, _, hlt⟩ := goodT_ok h
  have key : ∀ (d i : Nat), i + d + 1 < l.length → Lt impl_collect.ops (l.getD i z51) (l.getD (i + d + 1) z51) := by
    intro d
    induction d with
    | zero =>
      intro i hi
      have := ltT_iff.1 (hlt (i + 1) (by omega) (by omega))
      rw [Nat.add_sub_cancel] at this
      exact this
    | succ d ih =>
      intro i hi
      have h1 := ih i (by omega)
      have h2 := ltT_iff.1 (hlt (i + d + 2) (by omega) (by omega))
      rw [show i + d + 2 - 1 = i + d + 1 by omega] at h2
      exact h1.trans h2
  rw [List.pairwise_iff_getElem]
  intro i j hi hj hij
  have := key (j - i - 1) i (by omega)
  rw [show i + (j - i - 1) + 1 = j by omega, List.getD_eq_getElem?_getD, List.getD_eq_getElem?_getD, List.getElem?_eq_getElem hi, List.getElem?_eq_getElem hj] at this
  exact this
theorem ne_unique {l : List S51} (h : l.Pairwise (fun a b => ¬ Eqk impl_collect.ops a b)) {t : S51} (ht : t ∈ l) : cs impl_collect.ops l t = t.f0 := by
  induction l with
  | nil => cases ht
  | cons u l ih =>
    obtain ⟨h1, h2⟩ := List.pairwise_cons.1 h
    rw [Go.Proofs.YthanmlojikidbaaCol.cs_cons]
    rcases List.mem_cons.1 ht with rfl | ht
    · rw [if_pos (Go.Proofs.YthanmlojikidbaaCol.eqk_refl t), Go.Proofs.YthanmlojikidbaaCol.cs_none (fun v hv k => h1 v hv k.symm)]; show t.f0 + 0 = t.f0; omega
    · rw [if_neg (h1 t ht), ih h2 ht]; omega
theorem good_of {l : List S51} (h1 : l.length ≤ 20) (h2 : ∀ t ∈ l, okT t = true) (h3 : l.Pairwise (Lt impl_collect.ops)) : goodT l = true := by
  have key : ∀ (d i : Nat), i + d = l.length → polRun l d i = true := by
    intro d
    induction d with
    | zero => intro i _; unfold polRun; exact decide_eq_true h1
    | succ d ih =>
      intro i hi
      have hil : i < l.length := by omega
      unfold polRun
      rw [if_pos (h2 _ (getD_mem hil)), if_pos, ih (i + 1) (by omega)]
      by_cases e : i = 0
      · exact .inl e
      · right
        have := (List.pairwise_iff_getElem.1 h3) (i - 1) i (by omega) hil (by omega)
        rw [ltT_iff, List.getD_eq_getElem?_getD, List.getD_eq_getElem?_getD, List.getElem?_eq_getElem hil, List.getElem?_eq_getElem (by omega : i - 1 < l.length)]
        exact this
  exact key l.length 0 (by omega)
theorem ex_good {l : List S51} {o : List Int} (ho : perm o) (h : goodT l = true) : goodT (sums impl_collect.ops (ex o l)) = true := by
  obtain ⟨hl, hok, _⟩ := goodT_ok h
  have hlt := good_lt h
  have hex : ∀ t ∈ ex o l, okT t = true := by
    intro t ht
    obtain ⟨u, hu, e⟩ := List.mem_map.1 ht
    obtain ⟨i, hi, ei⟩ := mem_getD hu
    rw [← e]
    exact tm_ok ho (ei ▸ hok i hi)
  have hr : ∀ t ∈ ex o l, wrap64 (impl_collect.ops.c t) = impl_collect.ops.c t := fun t ht => (ok_sm (hex t ht)).2
  obtain ⟨hnf, hcs⟩ := Go.Proofs.YthanmlojikidbaaCol.sums_nf (o := impl_collect.ops) hr
  have hne : (ex o l).Pairwise (fun a b => ¬ Eqk impl_collect.ops a b) := by
    unfold ex
    exact List.Pairwise.map _ (fun a b hab he => hab.not_eq (tm_inj ho he)) hlt
  refine good_of ?_ (fun t ht => ?_) hnf.lt
  · have := sums_len (ex o l) []
    unfold sums
    unfold ex at this ⊢
    rw [List.length_map, List.length_nil] at this
    omega
  · have h1 := hcs t
    rw [Go.Proofs.YthanmlojikidbaaCol.pairwise_unique hnf.lt ht, hnf.rg t ht] at h1
    obtain ⟨u, hu, k⟩ := Go.Proofs.YthanmlojikidbaaCol.mem_of_cs (o := impl_collect.ops) (l := ex o l) (s := t) (fun e => by rw [e, Go.Proofs.YthanmlojikidbaaCol.wrap_zero] at h1; exact hnf.nz t ht h1)
    rw [← Go.Proofs.YthanmlojikidbaaCol.cs_eqk (ex o l) k, ne_unique hne hu] at h1
    have e : wrap64 u.f0 = u.f0 := hr u hu
    rw [e] at h1
    have : t = u := impl_collect.ops.ext t u h1 k.1.symm k.2.1.symm k.2.2.symm
    rw [this]
    exact hex u hu
theorem sp_l1 (t : S51) {o : List Int} (ho : perm o) (x l : List S51) (n i : Int) (K : Nat) : spec_poExchange.l1 (K + 4) o x l n i o (o.length : Int) 0 t.f0 t.f1 t.f2 t.f3 t.f0 0 0 0 = (spec_poPut.f K x (tm t o).f0 (tm t o).f1 (tm t o).f2 (tm t o).f3).bind fun y => spec_poExchange.l0 K o y l n (wrap64 (i + 1)) := by
  have w1 : wrap64 1 = 1 := w64 (by omega) (by omega)
  have w2 : wrap64 2 = 2 := w64 (by omega) (by omega)
  have w3 : wrap64 3 = 3 := w64 (by omega) (by omega)
  have hlen : (o.length : Int) = 3 := by rcases ho with rfl | rfl | rfl | rfl | rfl | rfl <;> rfl
  rw [hlen]
  rw [show K + 4 = (K + 3) + 1 from rfl, spec_poExchange.l1, if_pos (by omega), if_pos (by omega), if_pos (by omega)]
  unfold spec_poPower.f
  rw [if_pos rfl]; simp only [bs']
  rw [show K + 3 = (K + 2) + 1 from rfl]
  unfold tm impl_ExchangeUnknowns.tm
  rcases ho with rfl | rfl | rfl | rfl | rfl | rfl <;> simp [spec_poExchange.l1, spec_poPower.f, spec_poWith.f, impl_ExchangeUnknowns.pt, rd, w1, w2, w3]
theorem ex_l0 {l : List S51} {o : List Int} (ho : perm o) (hl : l.length ≤ 20) (hs : ∀ t ∈ l, okT t = true) : ∀ (d i K : Nat) (x : List S51), i + d = l.length → x.length ≤ i → (∀ u ∈ x, smT u) → d + 100 ≤ K →
    spec_poExchange.l0 (K + d * 5) o x l (l.length : Int) (i : Int) = some ((ex o (l.drop i)).foldl (put impl_collect.ops) x)
  | 0, i, K, x, h, _, _, hK => by
    obtain ⟨K, rfl⟩ : ∃ j, K = j + 1 := ⟨K - 1, by omega⟩
    rw [show K + 1 + 0 * 5 = K + 1 by omega, spec_poExchange.l0, if_neg (by omega), List.drop_of_length_le (by omega)]; rfl
  | d + 1, i, K, x, h, hx, hxs, hK => by
    have hi : i < l.length := by omega
    have hd : l.drop i = l.getD i z51 :: l.drop (i + 1) := by rw [List.drop_eq_getElem_cons hi]; simp [List.getD_eq_getElem?_getD, hi]
    have hw : wrap64 ((i : Int) + 1) = ((i + 1 : Nat) : Int) := by rw [w64 (by omega) (by omega)]; omega
    have hsm := (ok_sm (tm_ok ho (hs _ (getD_mem hi)))).1
    have e1 : ex o (l.getD i z51 :: l.drop (i + 1)) = tm (l.getD i z51) o :: ex o (l.drop (i + 1)) := rfl
    have hlen := put_len x (tm (l.getD i z51) o)
    rw [show K + (d + 1) * 5 = (K + d * 5 + 4) + 1 by omega, spec_poExchange.l0, if_pos (by omega), if_pos (by omega), if_pos (by omega), rdT_at, sp_l1 _ ho, poPut_run hxs hsm (by omega) _ (by omega), bs', hw, hd, e1, List.foldl_cons]
    exact ex_l0 ho hl hs d (i + 1) K _ (by omega) (by omega) (smT_put hxs hsm) (by omega)
theorem im_l0 {l : List S51} {o : List Int} (hl : l.length ≤ 20) : ∀ (d i K : Nat) (x : List S51), i + d = l.length → x.length ≤ i →
    impl_ExchangeUnknowns.l0 (K + d + 1) l o x (i : Int) = ((impl_collect.f (x ++ ex o (l.drop i))).bind fun t => impl_polyResult.f K t)
  | 0, i, K, x, h, _ => by
    rw [show K + 0 + 1 = K + 1 by omega, impl_ExchangeUnknowns.l0, if_neg (by omega), List.drop_of_length_le (by omega)]; simp [ex]
  | d + 1, i, K, x, h, hx => by
    have hi : i < l.length := by omega
    have hd : l.drop i = l.getD i z51 :: l.drop (i + 1) := by rw [List.drop_eq_getElem_cons hi]; simp [List.getD_eq_getElem?_getD, hi]
    have hw : wrap64 ((i : Int) + 1) = ((i + 1 : Nat) : Int) := by rw [w64 (by omega) (by omega)]; omega
    have e1 : ex o (l.getD i z51 :: l.drop (i + 1)) = tm (l.getD i z51) o :: ex o (l.drop (i + 1)) := rfl
    rw [show K + (d + 1) + 1 = (K + d + 1) + 1 by omega, impl_ExchangeUnknowns.l0, if_pos (by omega), if_pos (by omega), if_pos (by omega), rdT_at, hw, im_l0 hl d (i + 1) K _ (by omega) (by rw [List.length_append]; simp only [List.length_cons, List.length_nil]; omega), hd, e1, List.append_assoc]; rfl
theorem both {l : List S51} (h2 : l.length ≤ 1000000) {o : List Int} (h3 : o.length ≤ 1000000) : ∃ r : List S51 × Bool, r.1.length ≤ 20 ∧ ∃ n, ∀ K, n ≤ K → spec_ExchangeUnknowns.f K l o = some r ∧ impl_ExchangeUnknowns.f K l o = some r := by
  obtain ⟨K2, e2⟩ := poGood_ev h2
  obtain ⟨K3, e3⟩ := isPoly_ev h2
  obtain ⟨K4, e4⟩ := all_run h3
  obtain ⟨K5, e5⟩ := has_run 0 h3
  obtain ⟨K6, e6⟩ := has_run 1 h3
  obtain ⟨K7, e7⟩ := has_run 2 h3
  obtain ⟨K8, e8⟩ := equal_ev (a := o.mergeSort le2) (b := [0, 1, 2]) (by rw [List.length_mergeSort]; exact h3)
  obtain ⟨K9, k9⟩ := result_run
  dsimp only at e2 e3 e4 e5 e6 e7 e8
  by_cases g : goodT l = true
  · by_cases b : perm o
    · have hl := (goodT_ok g).1
      have hs : ∀ t ∈ l, okT t = true := by
        intro t ht
        obtain ⟨i, hi, ei⟩ := mem_getD ht
        exact ei ▸ (goodT_ok g).2.1 i hi
      have gg := ex_good b g
      have er : resT (ex o l) = (sums impl_collect.ops (ex o l), true) := by unfold resT; rw [if_pos gg]
      have lG : (ex o l).length ≤ 500 := by unfold ex; rw [List.length_map]; omega
      have ok : ∀ t ∈ ex o l, wrap64 t.f0 = t.f0 := by
        intro t ht
        obtain ⟨u, hu, e⟩ := List.mem_map.1 ht
        rw [← e]
        exact (ok_sm (hs u hu)).2
      obtain ⟨p1, p2, p3, p4, p5⟩ := (perm_spec o).1 b
      refine ⟨resT (ex o l), resT_len _, K2 + K3 + K4 + K5 + K6 + K7 + K8 + K9 + 400, fun K hK => ?_⟩
      constructor
      · unfold spec_ExchangeUnknowns.f
        rw [e2 _ (by omega), g]; simp only [bs', if_true]
        rw [if_pos p1, e4 _ (by omega), p2]; simp only [bs', if_true]
        rw [e5 _ (by omega), p3]; simp only [bs', if_true]
        rw [e6 _ (by omega), p4]; simp only [bs', if_true]
        rw [e7 _ (by omega), p5]; simp only [bs', if_true]
        unfold spec_poExchange.f
        have := ex_l0 b hl hs l.length 0 (K - l.length * 5) [] (by omega) (by simp) (by simp) (by omega)
        rw [show K - l.length * 5 + l.length * 5 = K by omega, List.drop_zero] at this
        rw [show (0 : Int) = ((0 : Nat) : Int) from rfl, this]; simp only [bs']
        rw [er]; rfl
      · unfold impl_ExchangeUnknowns.f
        rw [e3 _ (by omega), g]; simp only [bs', if_true]
        rw [if_pos (by omega), e8 _ (by omega), decide_eq_true ((sort_iff o).2 b)]; simp only [bs', if_true]
        have := im_l0 (o := o) hl l.length 0 (K - l.length - 1) [] (by omega) (by simp)
        rw [show K - l.length - 1 + l.length + 1 = K by omega, List.drop_zero, List.nil_append] at this
        rw [if_pos b, show (0 : Int) = ((0 : Nat) : Int) from rfl, this, collect_run (by omega) ok]; simp only [bs']
        rw [k9 _ lG _ (by omega)]
    · refine ⟨([], false), by simp, K2 + K3 + K4 + K5 + K6 + K7 + K8 + 1, fun K hK => ?_⟩
      constructor
      · unfold spec_ExchangeUnknowns.f
        rw [e2 _ (by omega), g]; simp only [bs', if_true]
        by_cases p1 : (o.length : Int) = 3
        · rw [if_pos p1, e4 _ (by omega)]; simp only [bs']
          by_cases p2 : o.all (fun x => decide (0 ≤ x ∧ x ≤ 2)) = true
          · rw [if_pos p2, e5 _ (by omega)]; simp only [bs']
            by_cases p3 : o.any (fun x => decide (x = 0)) = true
            · rw [if_pos p3, e6 _ (by omega)]; simp only [bs']
              by_cases p4 : o.any (fun x => decide (x = 1)) = true
              · rw [if_pos p4, e7 _ (by omega)]; simp only [bs']
                by_cases p5 : o.any (fun x => decide (x = 2)) = true
                · exact absurd ((perm_spec o).2 ⟨p1, p2, p3, p4, p5⟩) b
                · rw [if_neg p5]
              · rw [if_neg p4]
            · rw [if_neg p3]
          · rw [if_neg p2]
        · rw [if_neg p1]
      · unfold impl_ExchangeUnknowns.f
        rw [e3 _ (by omega), g]; simp only [bs', if_true]
        rw [if_pos (by omega), e8 _ (by omega), decide_eq_false (fun h => b ((sort_iff o).1 h))]; simp only [bs']
        rw [if_neg (by decide)]
  · refine ⟨([], false), by simp, K2 + K3 + 1, fun K hK => ?_⟩
    constructor
    · unfold spec_ExchangeUnknowns.f
      rw [e2 _ (by omega)]; simp only [bs']
      rw [if_neg g]
    · unfold impl_ExchangeUnknowns.f
      rw [e3 _ (by omega)]; simp only [bs']
      rw [if_neg g]
theorem markInt_l0 : ∀ (d i : Nat) (v : Int) (x : List Int), i + d = x.length → x.length ≤ 1000000 → 0 ≤ v → v + d ≤ 100000000 → ∃ y : List Int, ∀ K, d < K → laws_markIntS.l0 K x v (i : Int) = some (v + (d : Int), y) := by
  intro d
  induction d with
  | zero =>
    intro i v x hi hx h0 hv
    refine ⟨x, fun K hK => ?_⟩
    obtain ⟨K, rfl⟩ : ∃ j, K = j + 1 := ⟨K - 1, by omega⟩
    simp only [laws_markIntS.l0]
    rw [if_neg (by omega)]
    simp
  | succ d ih =>
    intro i v x hi hx h0 hv
    obtain ⟨y, h⟩ := ih (i + 1) (v + 1) (x.set i v) (by rw [List.length_set]; omega) (by rw [List.length_set]; omega) (by omega) (by omega)
    refine ⟨y, fun K hK => ?_⟩
    obtain ⟨K, rfl⟩ : ∃ j, K = j + 1 := ⟨K - 1, by omega⟩
    simp only [laws_markIntS.l0]
    rw [if_pos (by omega), if_pos (by omega), Int.toNat_natCast, w64 (x := v + 1) (by omega) (by omega), w64 (by omega) (by omega), show (i : Int) + 1 = ((i + 1 : Nat) : Int) by omega, h K (by omega)]
    rw [show v + 1 + (d : Int) = v + ((d + 1 : Nat) : Int) by omega]
theorem FnExactExchangeUnknowns (l0 : List S53) (l1 : List Int) (_w0 : l0.length ≤ maxLen ∧ ∀ y ∈ l0, ((Lit.int .i64 y.f0).wf = true ∧ ((Lit.int .i64 y.f1).wf = true ∧ ((Lit.int .i64 y.f2).wf = true ∧ (Lit.int .i64 y.f3).wf = true)))) (_w1 : l1.length ≤ maxLen ∧ ∀ y ∈ l1, (Lit.int .i64 y).wf = true) (z0 : l0.length * 32 ≤ 140737488351232) (z1 : l1.length * 8 ≤ 140737488351232) : ∃ k, laws_FnExactExchangeUnknowns.f k l0 l1 = some true := by
  have hw : wrap64 (1000000 - (l1.length : Int)) = 1000000 - (l1.length : Int) := w64 (by omega) (by omega)
  have hw2 : wrap64 (1000000 - (l1.length : Int) - (l0.length : Int)) = 1000000 - (l1.length : Int) - (l0.length : Int) := w64 (by omega) (by omega)
  by_cases hc : 1000000 - (l1.length : Int) - (l0.length : Int) < 0
  · refine ⟨0, ?_⟩
    unfold laws_FnExactExchangeUnknowns.f laws_szTermS.f
    rw [hw, hw2, if_pos hc]; simp only [bs']
    rw [if_pos (by omega)]
  · have h1 : l0.length ≤ 1000000 := by omega
    have h3 : l1.length ≤ 1000000 := by omega
    obtain ⟨K0, e0⟩ := toTermS_ev h1 false
    obtain ⟨K1, e1⟩ := toTermS_ev h1 true
    obtain ⟨K8, e8⟩ := toIntS_ev h3 false
    obtain ⟨K9, e9⟩ := toIntS_ev h3 true
    have h2 : (l0.map cvT).length ≤ 1000000 := by rw [List.length_map]; exact h1
    obtain ⟨K4, e4⟩ := markTermS_ev h2
    dsimp only at e0 e1 e4 e8 e9
    obtain ⟨r, hr, n, hn⟩ := both h2 h3
    obtain ⟨K5, e5⟩ := eqTermS_ev (l := r.1) (by omega)
    obtain ⟨K6, e6⟩ := markTermS_ev (l := r.1) (by omega)
    obtain ⟨K7, e7⟩ := heldTermS_ev (n := r.1.length) (by omega)
    obtain ⟨ym, hm⟩ := markInt_l0 l1.length 0 (101 + 4 * ((l0.map cvT).length : Int)) l1 (by omega) h3 (by omega) (by omega)
    dsimp only at e5 e6 e7
    obtain ⟨s2, s3⟩ := hn (K0 + K1 + K4 + K5 + K6 + K7 + K8 + K9 + l1.length + n + 1) (by omega)
    refine ⟨K0 + K1 + K4 + K5 + K6 + K7 + K8 + K9 + l1.length + n + 1, ?_⟩
    have hm' := hm (K0 + K1 + K4 + K5 + K6 + K7 + K8 + K9 + l1.length + n + 1) (by omega)
    unfold laws_FnExactExchangeUnknowns.f laws_szTermS.f
    rw [hw, hw2, if_neg hc]; simp only [bs']
    rw [if_neg (by omega), e0 _ (by omega)]; simp only [bs']
    rw [e8 _ (by omega)]; simp only [bs']
    rw [s2]; simp only [bs']
    rw [s3]; simp only [bs']
    rw [e5 _ (by omega)]; simp only [bs', if_true]
    rw [if_neg (by simp), intactTermS_self]; simp only [bs', if_true]
    unfold laws_intactIntS.f
    rw [if_pos rfl]; simp only [bs', if_true]
    rw [e4 _ (by omega)]; simp only [bs']
    unfold laws_markIntS.f
    rw [show (0 : Int) = ((0 : Nat) : Int) from rfl, hm']; simp only [bs']
    rw [if_neg (by omega)]
    rw [e6 _ (by omega)]; simp only [bs']
    rw [e7 _ (by omega)]; simp only [bs', if_true]
    rw [if_neg (by omega), e1 _ (by omega)]; simp only [bs']
    rw [e9 _ (by omega)]; simp only [bs']
    rw [s3]; simp only [bs']
    rw [e5 _ (by omega)]; simp only [bs', if_true]
    rw [if_neg (by simp), if_neg (by omega)]
end Go.Proofs.Ythanmlojikidbaa.Pure
