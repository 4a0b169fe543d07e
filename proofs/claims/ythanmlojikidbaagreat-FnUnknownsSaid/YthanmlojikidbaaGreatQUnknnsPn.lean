import Derived.Test.YthanmlojikidbaaGreatQUnknnsPDx0
import Derived.Test.YthanmlojikidbaaGreatQUnknnsMz
/- What ExchangeUnknowns, PutInteger, DegreeIn, UnknownsOf and DegreeOf answer, on both sides, told outright: plain lemmas on the printed functions. -/
namespace Go.Proofs.YthanmlojikidbaaGreat.Pure
open Go.RowKit Go.Proofs.YthanmlojikidbaaGreat.PD Go.Proofs.YthanmlojikidbaaGreatW.PrintWords Go.Proofs.YthanmlojikidbaaGreatW.PrintLast Go.Proofs.YthanmlojikidbaaGreatW.PrintMore
open Go.Proofs.YthanmlojikidbaaGreatCol (Lt Eqk put sums ahd cs Nf)
abbrev pt := impl_ExchangeUnknowns.pt
abbrev tm := impl_ExchangeUnknowns.tm
abbrev perm := impl_ExchangeUnknowns.perm
abbrev le2 (x y : Int) : Bool := decide (x ≤ y)
theorem getD_mem {l : List S62} {i : Nat} (h : i < l.length) : l.getD i z62 ∈ l := by rw [List.getD_eq_getElem?_getD, List.getElem?_eq_getElem h]; exact List.getElem_mem h
theorem mem_getD {l : List S62} {t : S62} (h : t ∈ l) : ∃ i, i < l.length ∧ l.getD i z62 = t := by
  obtain ⟨i, hi, e⟩ := List.getElem_of_mem h
  exact ⟨i, hi, by rw [List.getD_eq_getElem?_getD, List.getElem?_eq_getElem hi]; exact e⟩
theorem perm_iff (o : List Int) : perm o ↔ o.Perm [0, 1, 2] := by
  constructor
  · intro h
    rcases h with rfl | rfl | rfl | rfl | rfl | rfl <;> decide
  · intro h
    have hl := h.length_eq
    match o, hl with
    | [a, b, c], _ =>
      have ha : a = 0 ∨ a = 1 ∨ a = 2 := by have := h.mem_iff (a := a); simpa using this
      have hb : b = 0 ∨ b = 1 ∨ b = 2 := by have := h.mem_iff (a := b); simpa using this
      have hc : c = 0 ∨ c = 1 ∨ c = 2 := by have := h.mem_iff (a := c); simpa using this
      rcases ha with rfl | rfl | rfl <;> rcases hb with rfl | rfl | rfl <;> rcases hc with rfl | rfl | rfl <;> first | (unfold perm impl_ExchangeUnknowns.perm; decide) | (exfalso; revert h; decide)
theorem sort_iff (o : List Int) : o.mergeSort le2 = [0, 1, 2] ↔ perm o := by
  rw [perm_iff]
  have hp : (o.mergeSort le2).Perm o := List.mergeSort_perm o le2
  constructor
  · intro h
    rw [h] at hp
    exact hp.symm
  · intro h
    refine (hp.trans h).eq_of_pairwise (le := fun a b => a ≤ b) (fun a b _ _ h1 h2 => by omega) ?_ (by decide)
    exact (List.pairwise_mergeSort (le := le2) (fun a b c h1 h2 => by simp only [le2, decide_eq_true_eq] at *; omega) (fun a b => by simp only [le2, Bool.or_eq_true, decide_eq_true_eq]; omega) o).imp (fun h => by simpa [le2] using h)
theorem equal_ev {a b : List Int} (ha : a.length ≤ 1000000) : Ev (fun K => slices_Equal_int_int.f K a b) (decide (a = b)) := by
  by_cases hl : a.length = b.length
  · have key : ∀ (d i K : Nat), i + d = a.length → d < K → slices_Equal_int_int.l0 K a b (a.length : Int) (i : Int) = some (decide (a.drop i = b.drop i)) := by
      intro d
      induction d with
      | zero =>
        intro i K hi hK
        obtain ⟨K, rfl⟩ : ∃ j, K = j + 1 := ⟨K - 1, by omega⟩
        simp only [slices_Equal_int_int.l0]
        rw [if_neg (by omega), List.drop_of_length_le (by omega), List.drop_of_length_le (by omega)]; rfl
      | succ d ih =>
        intro i K hi hK
        obtain ⟨K, rfl⟩ : ∃ j, K = j + 1 := ⟨K - 1, by omega⟩
        have h1 : i < a.length := by omega
        have h2 : i < b.length := by omega
        simp only [slices_Equal_int_int.l0]
        rw [if_pos (by omega), if_pos (by omega), if_pos (by omega), if_pos (by omega), rd_at, rd_at, List.drop_eq_getElem_cons h1, List.drop_eq_getElem_cons h2]
        have e1 : a.getD i 0 = a[i] := by rw [List.getD_eq_getElem?_getD, List.getElem?_eq_getElem h1]; rfl
        have e2 : b.getD i 0 = b[i] := by rw [List.getD_eq_getElem?_getD, List.getElem?_eq_getElem h2]; rfl
        rw [e1, e2]
        by_cases c : a[i] = b[i]
        · rw [if_pos c, w64 (by omega) (by omega), show (i : Int) + 1 = ((i + 1 : Nat) : Int) by omega, ih (i + 1) K (by omega) (by omega)]
          congr 1
          rw [decide_eq_decide, c, List.cons.injEq]
          exact ⟨fun h => ⟨rfl, h⟩, fun h => h.2⟩
        · rw [if_neg c, decide_eq_false (fun h => c (List.cons.inj h).1)]
    refine ⟨a.length + 1, fun K hK => ?_⟩
    dsimp only; unfold slices_Equal_int_int.f
    have := key a.length 0 K (by omega) (by omega)
    rw [List.drop_zero, List.drop_zero] at this
    rw [if_pos (by omega)]
    exact this
  · refine ⟨0, fun K _ => ?_⟩
    dsimp only; unfold slices_Equal_int_int.f
    rw [if_neg (by omega), decide_eq_false (fun h => hl (by rw [h]))]
theorem all_run {l : List Int} (hl : l.length ≤ 1000000) : Ev (fun K => spec_l1All.f K l 0 2) (l.all (fun x => decide (0 ≤ x ∧ x ≤ 2))) := by
  have key : ∀ (d i K : Nat), i + d = l.length → d < K → spec_l1All.l0 K 0 2 l (l.length : Int) (i : Int) = some ((l.drop i).all (fun x => decide (0 ≤ x ∧ x ≤ 2))) := by
    intro d
    induction d with
    | zero =>
      intro i K hi hK
      obtain ⟨K, rfl⟩ : ∃ j, K = j + 1 := ⟨K - 1, by omega⟩
      simp only [spec_l1All.l0]
      rw [if_neg (by omega), List.drop_of_length_le (by omega)]; rfl
    | succ d ih =>
      intro i K hi hK
      obtain ⟨K, rfl⟩ : ∃ j, K = j + 1 := ⟨K - 1, by omega⟩
      have hil : i < l.length := by omega
      have he : l.getD i 0 = l[i] := by rw [List.getD_eq_getElem?_getD, List.getElem?_eq_getElem hil]; rfl
      simp only [spec_l1All.l0]
      rw [if_pos (by omega), if_pos (by omega), if_pos (by omega), rd_at, he, l1In_eq]; simp only [bs']
      rw [List.drop_eq_getElem_cons hil, List.all_cons]
      by_cases h1 : 0 ≤ l[i] ∧ l[i] ≤ 2
      · rw [decide_eq_true h1, if_pos rfl, w64 (by omega) (by omega), show (i : Int) + 1 = ((i + 1 : Nat) : Int) by omega, ih (i + 1) K (by omega) (by omega)]; rfl
      · rw [decide_eq_false h1, if_neg (by decide)]; rfl
  refine ⟨l.length + 1, fun K hK => ?_⟩
  dsimp only; unfold spec_l1All.f
  have := key l.length 0 K (by omega) (by omega)
  rw [List.drop_zero] at this
  exact this
theorem has_run {l : List Int} (v : Int) (hl : l.length ≤ 1000000) : Ev (fun K => spec_l1Has.f K l v) (l.any (fun x => decide (x = v))) := by
  have key : ∀ (d i K : Nat), i + d = l.length → d < K → spec_l1Has.l0 K v l (l.length : Int) (i : Int) = some ((l.drop i).any (fun x => decide (x = v))) := by
    intro d
    induction d with
    | zero =>
      intro i K hi hK
      obtain ⟨K, rfl⟩ : ∃ j, K = j + 1 := ⟨K - 1, by omega⟩
      simp only [spec_l1Has.l0]
      rw [if_neg (by omega), List.drop_of_length_le (by omega)]; rfl
    | succ d ih =>
      intro i K hi hK
      obtain ⟨K, rfl⟩ : ∃ j, K = j + 1 := ⟨K - 1, by omega⟩
      have hil : i < l.length := by omega
      have he : l.getD i 0 = l[i] := by rw [List.getD_eq_getElem?_getD, List.getElem?_eq_getElem hil]; rfl
      simp only [spec_l1Has.l0]
      rw [if_pos (by omega), if_pos (by omega), if_pos (by omega), rd_at, he]
      rw [List.drop_eq_getElem_cons hil, List.any_cons]
      by_cases h1 : l[i] = v
      · rw [if_pos h1, decide_eq_true h1]; rfl
      · rw [if_neg h1, decide_eq_false h1, w64 (by omega) (by omega), show (i : Int) + 1 = ((i + 1 : Nat) : Int) by omega, ih (i + 1) K (by omega) (by omega)]; rfl
  refine ⟨l.length + 1, fun K hK => ?_⟩
  dsimp only; unfold spec_l1Has.f
  have := key l.length 0 K (by omega) (by omega)
  rw [List.drop_zero] at this
  exact this
theorem perm_spec (o : List Int) : perm o ↔ (o.length : Int) = 3 ∧ o.all (fun x => decide (0 ≤ x ∧ x ≤ 2)) = true ∧ o.any (fun x => decide (x = 0)) = true ∧ o.any (fun x => decide (x = 1)) = true ∧ o.any (fun x => decide (x = 2)) = true := by
  constructor
  · intro h
    rcases h with rfl | rfl | rfl | rfl | rfl | rfl <;> decide
  · rintro ⟨hl, h1, h2, h3, h4⟩
    have hl : o.length = 3 := by omega
    match o, hl with
    | [a, b, c], _ =>
      simp only [List.all_cons, List.all_nil, Bool.and_true, Bool.and_eq_true, decide_eq_true_eq] at h1
      obtain ⟨⟨a1, a2⟩, ⟨b1, b2⟩, c1, c2⟩ := h1
      have ha : a = 0 ∨ a = 1 ∨ a = 2 := by omega
      have hb : b = 0 ∨ b = 1 ∨ b = 2 := by omega
      have hc : c = 0 ∨ c = 1 ∨ c = 2 := by omega
      rcases ha with rfl | rfl | rfl <;> rcases hb with rfl | rfl | rfl <;> rcases hc with rfl | rfl | rfl <;> first | (unfold perm impl_ExchangeUnknowns.perm; decide) | (exfalso; revert h2 h3 h4; decide)
def ex (o : List Int) (l : List S62) : List S62 := l.map (fun t => tm t o)
theorem tm_ok {t : S62} {o : List Int} (ho : perm o) (ht : okT t = true) : okT (tm t o) = true := by
  have h := okT_iff.1 ht
  rw [okT_iff]
  unfold tm impl_ExchangeUnknowns.tm
  rcases ho with rfl | rfl | rfl | rfl | rfl | rfl <;> simp [impl_ExchangeUnknowns.pt, rd] <;> omega
theorem tm_inj {a b : S62} {o : List Int} (ho : perm o) (h : Eqk impl_collect.ops (tm a o) (tm b o)) : Eqk impl_collect.ops a b := by
  unfold Eqk impl_collect.ops tm impl_ExchangeUnknowns.tm at h
  unfold Eqk impl_collect.ops
  simp only [] at h ⊢
  rcases ho with rfl | rfl | rfl | rfl | rfl | rfl <;> simp [impl_ExchangeUnknowns.pt, rd] at h <;> omega
theorem ok_sm {t : S62} (h : okT t = true) : smT t ∧ wrap64 t.f0 = t.f0 := by
  have h := okT_iff.1 h
  unfold smT
  exact ⟨by omega, w64 (by omega) (by omega)⟩
theorem good_lt {l : List S62} (h : goodT l = true) : l.Pairwise (Lt impl_collect.ops) := by
  obtain ⟨_, _, hlt⟩ := goodT_ok h
  have key : ∀ (d i : Nat), i + d + 1 < l.length → Lt impl_collect.ops (l.getD i z62) (l.getD (i + d + 1) z62) := by
    intro d
    induction d with
    | zero =>
      intro i hi
      have := ltT_iff.1 (hlt (i + 1) (by omega) (by omega))
      rw [Nat.add_sub_cancel] at this
      exact this
    | succ d ih =>
      intro i hi
      have h1 := ih i (by omega)
      have h2 := ltT_iff.1 (hlt (i + d + 2) (by omega) (by omega))
      rw [show i + d + 2 - 1 = i + d + 1 by omega] at h2
      exact h1.trans h2
  rw [List.pairwise_iff_getElem]
  intro i j hi hj hij
  have := key (j - i - 1) i (by omega)
  rw [show i + (j - i - 1) + 1 = j by omega, List.getD_eq_getElem?_getD, List.getD_eq_getElem?_getD, List.getElem?_eq_getElem hi, List.getElem?_eq_getElem hj] at this
  exact this
theorem ne_unique {l : List S62} (h : l.Pairwise (fun a b => ¬ Eqk impl_collect.ops a b)) {t : S62} (ht : t ∈ l) : cs impl_collect.ops l t = t.f0 := by
  induction l with
  | nil => cases ht
  | cons u l ih =>
    obtain ⟨h1, h2⟩ := List.pairwise_cons.1 h
    rw [Go.Proofs.YthanmlojikidbaaGreatCol.cs_cons]
    rcases List.mem_cons.1 ht with rfl | ht
    · rw [if_pos (Go.Proofs.YthanmlojikidbaaGreatCol.eqk_refl t), Go.Proofs.YthanmlojikidbaaGreatCol.cs_none (fun v hv k => h1 v hv k.symm)]; show t.f0 + 0 = t.f0; omega
    · rw [if_neg (h1 t ht), ih h2 ht]; omega
theorem good_of {l : List S62} (h1 : l.length ≤ 20) (h2 : ∀ t ∈ l, okT t = true) (h3 : l.Pairwise (Lt impl_collect.ops)) : goodT l = true := by
  have key : ∀ (d i : Nat), i + d = l.length → polRun l d i = true := by
    intro d
    induction d with
    | zero => intro i _; unfold polRun; exact decide_eq_true h1
    | succ d ih =>
      intro i hi
      have hil : i < l.length := by omega
      unfold polRun
      rw [if_pos (h2 _ (getD_mem hil)), if_pos, ih (i + 1) (by omega)]
      by_cases e : i = 0
      · exact .inl e
      · right
        have := (List.pairwise_iff_getElem.1 h3) (i - 1) i (by omega) hil (by omega)
        rw [ltT_iff, List.getD_eq_getElem?_getD, List.getD_eq_getElem?_getD, List.getElem?_eq_getElem hil, List.getElem?_eq_getElem (by omega : i - 1 < l.length)]
        exact this
  exact key l.length 0 (by omega)
theorem ex_good {l : List S62} {o : List Int} (ho : perm o) (h : goodT l = true) : goodT (sums impl_collect.ops (ex o l)) = true := by
  obtain ⟨hl, hok, _⟩ := goodT_ok h
  have hlt := good_lt h
  have hex : ∀ t ∈ ex o l, okT t = true := by
    intro t ht
    obtain ⟨u, hu, e⟩ := List.mem_map.1 ht
    obtain ⟨i, hi, ei⟩ := mem_getD hu
    rw [← e]
    exact tm_ok ho (ei ▸ hok i hi)
  have hr : ∀ t ∈ ex o l, wrap64 (impl_collect.ops.c t) = impl_collect.ops.c t := fun t ht => (ok_sm (hex t ht)).2
  obtain ⟨hnf, hcs⟩ := Go.Proofs.YthanmlojikidbaaGreatCol.sums_nf (o := impl_collect.ops) hr
  have hne : (ex o l).Pairwise (fun a b => ¬ Eqk impl_collect.ops a b) := by
    unfold ex
    exact List.Pairwise.map _ (fun a b hab he => hab.not_eq (tm_inj ho he)) hlt
  refine good_of ?_ (fun t ht => ?_) hnf.lt
  · have := sums_len (ex o l) []
    unfold sums
    unfold ex at this ⊢
    rw [List.length_map, List.length_nil] at this
    omega
  · have h1 := hcs t
    rw [Go.Proofs.YthanmlojikidbaaGreatCol.pairwise_unique hnf.lt ht, hnf.rg t ht] at h1
    obtain ⟨u, hu, k⟩ := Go.Proofs.YthanmlojikidbaaGreatCol.mem_of_cs (o := impl_collect.ops) (l := ex o l) (s := t) (fun e => by rw [e, Go.Proofs.YthanmlojikidbaaGreatCol.wrap_zero] at h1; exact hnf.nz t ht h1)
    rw [← Go.Proofs.YthanmlojikidbaaGreatCol.cs_eqk (ex o l) k, ne_unique hne hu] at h1
    have e : wrap64 u.f0 = u.f0 := hr u hu
    rw [e] at h1
    have : t = u := impl_collect.ops.ext t u h1 k.1.symm k.2.1.symm k.2.2.symm
    rw [this]
    exact hex u hu
theorem xs_l1 (t : S62) {o : List Int} (ho : perm o) (x l : List S62) (n i : Int) (K : Nat) : spec_poExchange.l1 (K + 4) o x l n i o (o.length : Int) 0 t.f0 t.f1 t.f2 t.f3 t.f0 0 0 0 = (spec_poPut.f K x (tm t o).f0 (tm t o).f1 (tm t o).f2 (tm t o).f3).bind fun y => spec_poExchange.l0 K o y l n (wrap64 (i + 1)) := by
  have w1 : wrap64 1 = 1 := w64 (by omega) (by omega)
  have w2 : wrap64 2 = 2 := w64 (by omega) (by omega)
  have w3 : wrap64 3 = 3 := w64 (by omega) (by omega)
  have hlen : (o.length : Int) = 3 := by rcases ho with rfl | rfl | rfl | rfl | rfl | rfl <;> rfl
  rw [hlen]
  rw [show K + 4 = (K + 3) + 1 from rfl, spec_poExchange.l1, if_pos (by omega), if_pos (by omega), if_pos (by omega)]
  unfold spec_poPower.f
  rw [if_pos rfl]; simp only [bs']
  rw [show K + 3 = (K + 2) + 1 from rfl]
  unfold tm impl_ExchangeUnknowns.tm
  rcases ho with rfl | rfl | rfl | rfl | rfl | rfl <;> simp [spec_poExchange.l1, spec_poPower.f, spec_poWith.f, impl_ExchangeUnknowns.pt, rd, w1, w2, w3]
theorem ex_l0 {l : List S62} {o : List Int} (ho : perm o) (hl : l.length ≤ 20) (hs : ∀ t ∈ l, okT t = true) : ∀ (d i K : Nat) (x : List S62), i + d = l.length → x.length ≤ i → (∀ u ∈ x, smT u) → d + 100 ≤ K →
    spec_poExchange.l0 (K + d * 5) o x l (l.length : Int) (i : Int) = some ((ex o (l.drop i)).foldl (put impl_collect.ops) x)
  | 0, i, K, x, h, _, _, hK => by
    obtain ⟨K, rfl⟩ : ∃ j, K = j + 1 := ⟨K - 1, by omega⟩
    rw [show K + 1 + 0 * 5 = K + 1 by omega, spec_poExchange.l0, if_neg (by omega), List.drop_of_length_le (by omega)]; rfl
  | d + 1, i, K, x, h, hx, hxs, hK => by
    have hi : i < l.length := by omega
    have hd : l.drop i = l.getD i z62 :: l.drop (i + 1) := by rw [List.drop_eq_getElem_cons hi]; simp [List.getD_eq_getElem?_getD, hi]
    have hw : wrap64 ((i : Int) + 1) = ((i + 1 : Nat) : Int) := by rw [w64 (by omega) (by omega)]; omega
    have hsm := (ok_sm (tm_ok ho (hs _ (getD_mem hi)))).1
    have e1 : ex o (l.getD i z62 :: l.drop (i + 1)) = tm (l.getD i z62) o :: ex o (l.drop (i + 1)) := rfl
    have hlen := put_len x (tm (l.getD i z62) o)
    rw [show K + (d + 1) * 5 = (K + d * 5 + 4) + 1 by omega, spec_poExchange.l0, if_pos (by omega), if_pos (by omega), if_pos (by omega), rdT_at, xs_l1 _ ho, poPut_run hxs hsm (by omega) _ (by omega), bs', hw, hd, e1, List.foldl_cons]
    exact ex_l0 ho hl hs d (i + 1) K _ (by omega) (by omega) (smT_put hxs hsm) (by omega)
theorem xi_l0 {l : List S62} {o : List Int} (hl : l.length ≤ 20) : ∀ (d i K : Nat) (x : List S62), i + d = l.length → x.length ≤ i →
    impl_ExchangeUnknowns.l0 (K + d + 1) l o x (i : Int) = ((impl_collect.f (x ++ ex o (l.drop i))).bind fun t => impl_polyResult.f K t)
  | 0, i, K, x, h, _ => by
    rw [show K + 0 + 1 = K + 1 by omega, impl_ExchangeUnknowns.l0, if_neg (by omega), List.drop_of_length_le (by omega)]; simp [ex]
  | d + 1, i, K, x, h, hx => by
    have hi : i < l.length := by omega
    have hd : l.drop i = l.getD i z62 :: l.drop (i + 1) := by rw [List.drop_eq_getElem_cons hi]; simp [List.getD_eq_getElem?_getD, hi]
    have hw : wrap64 ((i : Int) + 1) = ((i + 1 : Nat) : Int) := by rw [w64 (by omega) (by omega)]; omega
    have e1 : ex o (l.getD i z62 :: l.drop (i + 1)) = tm (l.getD i z62) o :: ex o (l.drop (i + 1)) := rfl
    rw [show K + (d + 1) + 1 = (K + d + 1) + 1 by omega, impl_ExchangeUnknowns.l0, if_pos (by omega), if_pos (by omega), if_pos (by omega), rdT_at, hw, xi_l0 hl d (i + 1) K _ (by omega) (by rw [List.length_append]; simp only [List.length_cons, List.length_nil]; omega), hd, e1, List.append_assoc]; rfl
def exR (l : List S62) (o : List Int) : List S62 × Bool := if goodT l = true ∧ perm o then resT (ex o l) else ([], false)
theorem ex_ev {l : List S62} (h2 : l.length ≤ 1000000) {o : List Int} (h3 : o.length ≤ 1000000) : ∃ n, ∀ K, n ≤ K → spec_ExchangeUnknowns.f K l o = some (exR l o) ∧ impl_ExchangeUnknowns.f K l o = some (exR l o) := by
  obtain ⟨K2, e2⟩ := poGood_ev h2
  obtain ⟨K3, e3⟩ := isPoly_ev h2
  obtain ⟨K4, e4⟩ := all_run h3
  obtain ⟨K5, e5⟩ := has_run 0 h3
  obtain ⟨K6, e6⟩ := has_run 1 h3
  obtain ⟨K7, e7⟩ := has_run 2 h3
  obtain ⟨K8, e8⟩ := equal_ev (a := o.mergeSort le2) (b := [0, 1, 2]) (by rw [List.length_mergeSort]; exact h3)
  obtain ⟨K9, k9⟩ := result_run
  dsimp only at e2 e3 e4 e5 e6 e7 e8
  by_cases g : goodT l = true
  · by_cases b : perm o
    · have hl := (goodT_ok g).1
      have hs : ∀ t ∈ l, okT t = true := by
        intro t ht
        obtain ⟨i, hi, ei⟩ := mem_getD ht
        exact ei ▸ (goodT_ok g).2.1 i hi
      have gg := ex_good b g
      have er : resT (ex o l) = (sums impl_collect.ops (ex o l), true) := by unfold resT; rw [if_pos gg]
      have lG : (ex o l).length ≤ 500 := by unfold ex; rw [List.length_map]; omega
      have ok : ∀ t ∈ ex o l, wrap64 t.f0 = t.f0 := by
        intro t ht
        obtain ⟨u, hu, e⟩ := List.mem_map.1 ht
        rw [← e]
        exact (ok_sm (hs u hu)).2
      obtain ⟨p1, p2, p3, p4, p5⟩ := (perm_spec o).1 b
      rw [show exR l o = resT (ex o l) from if_pos ⟨g, b⟩]
      refine ⟨K2 + K3 + K4 + K5 + K6 + K7 + K8 + K9 + 400, fun K hK => ?_⟩
      constructor
      · unfold spec_ExchangeUnknowns.f
        rw [e2 _ (by omega), g]; simp only [bs', if_true]
        rw [if_pos p1, e4 _ (by omega), p2]; simp only [bs', if_true]
        rw [e5 _ (by omega), p3]; simp only [bs', if_true]
        rw [e6 _ (by omega), p4]; simp only [bs', if_true]
        rw [e7 _ (by omega), p5]; simp only [bs', if_true]
        unfold spec_poExchange.f
        have := ex_l0 b hl hs l.length 0 (K - l.length * 5) [] (by omega) (by simp) (by simp) (by omega)
        rw [show K - l.length * 5 + l.length * 5 = K by omega, List.drop_zero] at this
        rw [show (0 : Int) = ((0 : Nat) : Int) from rfl, this]; simp only [bs']
        rw [er]; rfl
      · unfold impl_ExchangeUnknowns.f
        rw [e3 _ (by omega), g]; simp only [bs', if_true]
        rw [if_pos (by omega), e8 _ (by omega), decide_eq_true ((sort_iff o).2 b)]; simp only [bs', if_true]
        have := xi_l0 (o := o) hl l.length 0 (K - l.length - 1) [] (by omega) (by simp)
        rw [show K - l.length - 1 + l.length + 1 = K by omega, List.drop_zero, List.nil_append] at this
        rw [if_pos b, show (0 : Int) = ((0 : Nat) : Int) from rfl, this, collect_run (by omega) ok]; simp only [bs']
        rw [k9 _ lG _ (by omega)]
    · rw [show exR l o = ([], false) from if_neg (fun h => b h.2)]
      refine ⟨K2 + K3 + K4 + K5 + K6 + K7 + K8 + 1, fun K hK => ?_⟩
      constructor
      · unfold spec_ExchangeUnknowns.f
        rw [e2 _ (by omega), g]; simp only [bs', if_true]
        by_cases p1 : (o.length : Int) = 3
        · rw [if_pos p1, e4 _ (by omega)]; simp only [bs']
          by_cases p2 : o.all (fun x => decide (0 ≤ x ∧ x ≤ 2)) = true
          · rw [if_pos p2, e5 _ (by omega)]; simp only [bs']
            by_cases p3 : o.any (fun x => decide (x = 0)) = true
            · rw [if_pos p3, e6 _ (by omega)]; simp only [bs']
              by_cases p4 : o.any (fun x => decide (x = 1)) = true
              · rw [if_pos p4, e7 _ (by omega)]; simp only [bs']
                by_cases p5 : o.any (fun x => decide (x = 2)) = true
                · exact absurd ((perm_spec o).2 ⟨p1, p2, p3, p4, p5⟩) b
                · rw [if_neg p5]
              · rw [if_neg p4]
            · rw [if_neg p3]
          · rw [if_neg p2]
        · rw [if_neg p1]
      · unfold impl_ExchangeUnknowns.f
        rw [e3 _ (by omega), g]; simp only [bs', if_true]
        rw [if_pos (by omega), e8 _ (by omega), decide_eq_false (fun h => b ((sort_iff o).1 h))]; simp only [bs']
        rw [if_neg (by decide)]
  · rw [show exR l o = ([], false) from if_neg (fun h => g h.1)]
    refine ⟨K2 + K3 + 1, fun K hK => ?_⟩
    constructor
    · unfold spec_ExchangeUnknowns.f
      rw [e2 _ (by omega)]; simp only [bs']
      rw [if_neg g]
    · unfold impl_ExchangeUnknowns.f
      rw [e3 _ (by omega)]; simp only [bs']
      rw [if_neg g]
def smD (t : S62) : Prop := -1000 ≤ t.f0 ∧ t.f0 ≤ 1000 ∧ 0 ≤ t.f1 ∧ t.f1 ≤ 4 ∧ 0 ≤ t.f2 ∧ t.f2 ≤ 4 ∧ 0 ≤ t.f3 ∧ t.f3 ≤ 4
theorem smD_good {l : List S62} (h : goodT l = true) : ∀ t ∈ l, smD t := by
  intro t ht
  obtain ⟨i, hi, e⟩ := mem_getD ht
  have := okT_iff.1 ((goodT_ok h).2.1 i hi)
  rw [e] at this
  unfold smD; omega
theorem three {a : Int} (ha : 0 ≤ a ∧ a ≤ 2) : a = 0 ∨ a = 1 ∨ a = 2 := by omega
theorem pow_eq (t : S62) (a : Int) : spec_poPower.f t.f0 t.f1 t.f2 t.f3 a = some (impl_PutInteger.pw t a) := by
  unfold spec_poPower.f impl_PutInteger.pw
  split
  · rfl
  · split <;> rfl
theorem pw_rng {t : S62} (a : Int) (ht : smD t) : ∃ m : Nat, m ≤ 4 ∧ impl_PutInteger.pw t a = (m : Int) := by
  obtain ⟨_, _, a1, a2, a3, a4, a5, a6⟩ := ht
  have h : 0 ≤ impl_PutInteger.pw t a ∧ impl_PutInteger.pw t a ≤ 4 := by
    unfold impl_PutInteger.pw; split
    · exact ⟨a1, a2⟩
    · split
      · exact ⟨a3, a4⟩
      · exact ⟨a5, a6⟩
  exact ⟨(impl_PutInteger.pw t a).toNat, by omega, by omega⟩
theorem with_eq (t : S62) (a c : Int) : ∃ b, spec_poWith.f c t.f1 t.f2 t.f3 a 0 = some b ∧ (⟨b.1, b.2.1, b.2.2.1, b.2.2.2⟩ : S62) = impl_PutInteger.tm t a c := by
  unfold spec_poWith.f impl_PutInteger.tm
  by_cases h : a = 0
  · rw [if_pos h, if_pos h]; exact ⟨_, rfl, rfl⟩
  · rw [if_neg h, if_neg h]
    by_cases h' : a = 1
    · rw [if_pos h', if_pos h']; exact ⟨_, rfl, rfl⟩
    · rw [if_neg h', if_neg h']; exact ⟨_, rfl, rfl⟩
def pc (n : Int) : Nat → Int → Int
  | 0, c => c
  | m + 1, c => pc n m (wrap64 (c * n))
theorem pc_w (n : Int) : ∀ (m : Nat) (c : Int), wrap64 c = c → wrap64 (pc n m c) = pc n m c
  | 0, _, h => h
  | m + 1, _, _ => pc_w n m _ (Go.Proofs.YthanmlojikidbaaGreatCol.wrap_wrap _)
def pG (a n : Int) (l : List S62) : List S62 := l.map (fun t => impl_PutInteger.tm t a (pc n (impl_PutInteger.pw t a).toNat t.f0))
theorem ps_l1 {l : List S62} {a n : Int} (t : S62) (i : Int) (x : List S62) (hx : x.length < 4398046511104) : ∀ (m K : Nat) (c : Int), m ≤ 4 → spec_PutInteger.l1 (K + m + 1) a n x (m : Int) l (l.length : Int) i c t.f1 t.f2 t.f3 = spec_PutInteger.l0 K a n (x ++ [impl_PutInteger.tm t a (pc n m c)]) l (l.length : Int) (wrap64 (i + 1))
  | 0, K, c, _ => by
    obtain ⟨b, hb, eb⟩ := with_eq t a c
    simp only [spec_PutInteger.l1]
    rw [if_neg (by omega), hb, bs', if_pos hx, eb]; rfl
  | m + 1, K, c, hm => by
    have h := ps_l1 t i x hx (l := l) (a := a) (n := n) m K (wrap64 (c * n)) (by omega)
    rw [show K + (m + 1) + 1 = (K + m + 1) + 1 by omega]
    rw [spec_PutInteger.l1, if_pos (by omega), w64 (x := ((m + 1 : Nat) : Int) - 1) (by omega) (by omega), show ((m + 1 : Nat) : Int) - 1 = (m : Int) by omega, h]; rfl
theorem pi_l1 {l : List S62} {a n : Int} (e i : Int) (he : 0 ≤ e ∧ e ≤ 4) (x : List S62) (hx : x.length < 4398046511104) : ∀ (m K : Nat) (c j : Int), 0 ≤ j → j + (m : Int) = e → impl_PutInteger.l1 (K + m + 1) l a n x i c e j = impl_PutInteger.l0 K l a n (x ++ [impl_PutInteger.tm (rd_T62 l i) a (pc n m c)]) (wrap64 (i + 1))
  | 0, K, c, j, h0, hj => by
    simp only [impl_PutInteger.l1]
    rw [if_neg (by omega), if_pos hx]; rfl
  | m + 1, K, c, j, h0, hj => by
    have h := pi_l1 e i he x hx (l := l) (a := a) (n := n) m K (wrap64 (c * n)) (j + 1) (by omega) (by omega)
    rw [show K + (m + 1) + 1 = (K + m + 1) + 1 by omega]
    rw [impl_PutInteger.l1, if_pos (by omega), w64 (x := j + 1) (by omega) (by omega), h]; rfl
theorem put_l0' {l : List S62} {a n : Int} (hl : l.length ≤ 20) (hs : ∀ t ∈ l, smD t) : ∀ (d i K : Nat) (x : List S62), i + d = l.length → x.length ≤ i → d * 6 < K →
    ∃ K', K ≤ K' + d * 6 + 1 ∧ spec_PutInteger.l0 K a n x l (l.length : Int) (i : Int) = ((spec_poSum.f K' (x ++ pG a n (l.drop i))).bind fun b => some (b.1, b.2)) ∧ impl_PutInteger.l0 K l a n x (i : Int) = ((impl_collect.f (x ++ pG a n (l.drop i))).bind fun t => impl_polyResult.f K' t)
  | 0, i, K, x, h, _, hK => by
    obtain ⟨K, rfl⟩ : ∃ j, K = j + 1 := ⟨K - 1, by omega⟩
    refine ⟨K, by omega, ?_, ?_⟩
    · rw [spec_PutInteger.l0, if_neg (by omega), List.drop_of_length_le (by omega)]; simp [pG]
    · rw [impl_PutInteger.l0, if_neg (by omega), List.drop_of_length_le (by omega)]; simp [pG]
  | d + 1, i, K, x, h, hx, hK => by
    have hi : i < l.length := by omega
    have hd : l.drop i = l.getD i z62 :: l.drop (i + 1) := by rw [List.drop_eq_getElem_cons hi]; simp [List.getD_eq_getElem?_getD, hi]
    obtain ⟨m, hm, em⟩ := pw_rng a (hs _ (getD_mem hi))
    obtain ⟨K, rfl⟩ : ∃ j, K = (j + m + 1) + 1 := ⟨K - m - 2, by omega⟩
    have hw : wrap64 ((i : Int) + 1) = ((i + 1 : Nat) : Int) := by rw [w64 (by omega) (by omega)]; omega
    have ey : x ++ pG a n (l.drop i) = (x ++ [impl_PutInteger.tm (l.getD i z62) a (pc n m (l.getD i z62).f0)]) ++ pG a n (l.drop (i + 1)) := by
      have e1 : pG a n (l.getD i z62 :: l.drop (i + 1)) = impl_PutInteger.tm (l.getD i z62) a (pc n (impl_PutInteger.pw (l.getD i z62) a).toNat (l.getD i z62).f0) :: pG a n (l.drop (i + 1)) := rfl
      rw [hd, e1, em, Int.toNat_natCast, List.append_assoc]; rfl
    obtain ⟨K', e, b1, b2⟩ := put_l0' hl hs d (i + 1) K (x ++ [impl_PutInteger.tm (l.getD i z62) a (pc n m (l.getD i z62).f0)]) (by omega) (by rw [List.length_append]; simp only [List.length_cons, List.length_nil]; omega) (by omega)
    refine ⟨K', by omega, ?_, ?_⟩
    · rw [spec_PutInteger.l0, if_pos (by omega), if_pos (by omega), if_pos (by omega), rdT_at, pow_eq, bs', em, ps_l1 _ _ _ (by omega) m K _ hm, hw, ey, b1]
    · rw [impl_PutInteger.l0, if_pos (by omega), if_pos (by omega), rdT_at, em, pi_l1 (m : Int) (i : Int) (by omega) x (by omega) m K _ 0 (by omega) (by omega), rdT_at, hw, ey, b2]
theorem pG_ok {a n : Int} {l : List S62} (ha : 0 ≤ a ∧ a ≤ 2) (hs : ∀ t ∈ l, smD t) : ∀ u ∈ pG a n l, smT u ∧ wrap64 u.f0 = u.f0 := by
  intro u h
  unfold pG at h
  obtain ⟨t, ht, e⟩ := List.mem_map.1 h
  obtain ⟨c1, c2, a1, a2, a3, a4, a5, a6⟩ := hs t ht
  have hc := pc_w n (impl_PutInteger.pw t a).toNat t.f0 (w64 (by omega) (by omega))
  rw [← e]
  generalize pc n (impl_PutInteger.pw t a).toNat t.f0 = c at hc
  rcases three ha with rfl | rfl | rfl <;> simp only [impl_PutInteger.tm, if_true, Int.reduceEq, if_false, smT] <;> exact ⟨by omega, hc⟩
theorem pU (a : Int) : spec_poUnknown.f a = some (decide (0 ≤ a ∧ a ≤ 2)) := by unfold spec_poUnknown.f; rw [l1In_eq, bs']
theorem iU (a : Int) : impl_isUnknown.f a = some (decide (0 ≤ a ∧ a ≤ 2)) := by unfold impl_isUnknown.f; rw [inside_eq, bs']
def putR (l : List S62) (a1 a2 : Int) : List S62 × Bool := if goodT l = true ∧ (0 ≤ a1 ∧ a1 ≤ 2) ∧ (-100 ≤ a2 ∧ a2 ≤ 100) then resT (pG a1 a2 l) else ([], false)
theorem put_ev {l : List S62} (h2 : l.length ≤ 1000000) (a1 a2 : Int) : ∃ n, ∀ K, n ≤ K → spec_PutInteger.f K l a1 a2 = some (putR l a1 a2) ∧ impl_PutInteger.f K l a1 a2 = some (putR l a1 a2) := by
  obtain ⟨K2, e2⟩ := poGood_ev h2
  obtain ⟨K3, e3⟩ := isPoly_ev h2
  obtain ⟨K6, k6⟩ := poSum_run
  obtain ⟨K7, k7⟩ := result_run
  dsimp only at e2 e3
  by_cases g : goodT l = true
  · by_cases b : 0 ≤ a1 ∧ a1 ≤ 2
    · by_cases b' : -100 ≤ a2 ∧ a2 ≤ 100
      · have hl := (goodT_ok g).1
        have hs := smD_good g
        have lG : (pG a1 a2 l).length ≤ 500 := by unfold pG; rw [List.length_map]; omega
        have ok := pG_ok (n := a2) b hs
        rw [show putR l a1 a2 = resT (pG a1 a2 l) from if_pos ⟨g, b, b'⟩]
        refine ⟨K2 + K3 + K6 + K7 + 200, fun K hK => ?_⟩
        obtain ⟨K, rfl⟩ : ∃ j, K = j + 1 := ⟨K - 1, by omega⟩
        obtain ⟨K', eK, s1, _⟩ := put_l0' (a := a1) (n := a2) hl hs l.length 0 K [] (by omega) (Nat.le_refl _) (by omega)
        obtain ⟨K'', eK', _, s2⟩ := put_l0' (a := a1) (n := a2) hl hs l.length 0 (K + 1) [] (by omega) (Nat.le_refl _) (by omega)
        rw [List.drop_zero, List.nil_append] at s1 s2
        constructor
        · unfold spec_PutInteger.f
          rw [e2 _ (by omega), g]; simp only [bs', if_true]
          rw [pU, bs', decide_eq_true b, if_pos rfl, l1In_eq, bs', decide_eq_true b']
          rw [spec_PutInteger.j0, if_neg (by decide), show (0 : Int) = ((0 : Nat) : Int) from rfl, s1, k6 _ lG (fun t ht => (ok t ht).1) _ (by omega)]; simp only [bs']
        · unfold impl_PutInteger.f
          rw [e3 _ (by omega), g]; simp only [bs', if_true]
          rw [iU, bs', decide_eq_true b, if_pos rfl, inside_eq, bs', decide_eq_true b', if_pos rfl, if_pos b.1, if_pos b.2, show (0 : Int) = ((0 : Nat) : Int) from rfl, s2, collect_run (by omega) (fun t ht => (ok t ht).2)]; simp only [bs']
          rw [k7 _ lG _ (by omega)]
      · rw [show putR l a1 a2 = ([], false) from if_neg (fun h => b' h.2.2)]
        refine ⟨K2 + K3 + 1, fun K hK => ?_⟩
        obtain ⟨K, rfl⟩ : ∃ j, K = j + 1 := ⟨K - 1, by omega⟩
        constructor
        · unfold spec_PutInteger.f
          rw [e2 _ (by omega), g]; simp only [bs', if_true]
          rw [pU, bs', decide_eq_true b, if_pos rfl, l1In_eq, bs', decide_eq_false b', spec_PutInteger.j0, if_pos (by decide)]
        · unfold impl_PutInteger.f
          rw [e3 _ (by omega), g]; simp only [bs', if_true]
          rw [iU, bs', decide_eq_true b, if_pos rfl, inside_eq, bs', decide_eq_false b', if_neg (by decide)]
    · rw [show putR l a1 a2 = ([], false) from if_neg (fun h => b h.2.1)]
      refine ⟨K2 + K3 + 1, fun K hK => ?_⟩
      obtain ⟨K, rfl⟩ : ∃ j, K = j + 1 := ⟨K - 1, by omega⟩
      constructor
      · unfold spec_PutInteger.f
        rw [e2 _ (by omega), g]; simp only [bs', if_true]
        rw [pU, bs', decide_eq_false b, if_neg (by decide), spec_PutInteger.j0, if_pos rfl]
      · unfold impl_PutInteger.f
        rw [e3 _ (by omega), g]; simp only [bs', if_true]
        rw [iU, bs', decide_eq_false b, if_neg (by decide)]
  · rw [show putR l a1 a2 = ([], false) from if_neg (fun h => g h.1)]
    refine ⟨K2 + K3 + 1, fun K hK => ?_⟩
    obtain ⟨K, rfl⟩ : ∃ j, K = j + 1 := ⟨K - 1, by omega⟩
    constructor
    · unfold spec_PutInteger.f
      rw [e2 _ (by omega)]; simp only [bs']
      rw [if_neg g, spec_PutInteger.j0, if_pos rfl]
    · unfold impl_PutInteger.f
      rw [e3 _ (by omega)]; simp only [bs']
      rw [if_neg g]
theorem powD_eq (t : S62) (k : Int) : spec_poPower.f t.f0 t.f1 t.f2 t.f3 k = some (impl_DegreeIn.pw t k) := by
  unfold spec_poPower.f impl_DegreeIn.pw
  by_cases h : k = 0
  · rw [if_pos h, if_pos h]
  · rw [if_neg h, if_neg h]
    by_cases h2 : k = 1
    · rw [if_pos h2, if_pos h2]
    · rw [if_neg h2, if_neg h2]
theorem degree_pos {l : List S62} (hl : l.length ≤ 1000000) (a : Int) : ∀ (d i : Nat) (m : Int), i + d = l.length → ∃ r : Int, (r > 0 ↔ (m > 0 ∨ ∃ j, i ≤ j ∧ j < l.length ∧ impl_DegreeIn.pw (l.getD j z62) a > 0)) ∧ ∀ K, d < K → spec_poDegreeIn.l0 K a m l (l.length : Int) (i : Int) = some r := by
  intro d
  induction d with
  | zero =>
    intro i m hi
    refine ⟨m, ⟨fun h => .inl h, fun h => h.elim id (fun ⟨j, h1, h2, _⟩ => by omega)⟩, fun K hK => ?_⟩
    obtain ⟨K, rfl⟩ : ∃ j, K = j + 1 := ⟨K - 1, by omega⟩
    simp only [spec_poDegreeIn.l0]; rw [if_neg (by omega)]
  | succ d ih =>
    intro i m hi
    have hw : wrap64 ((i : Int) + 1) = ((i + 1 : Nat) : Int) := by rw [w64 (by omega) (by omega)]; omega
    obtain ⟨r, h1, h2⟩ := ih (i + 1) (mx m (impl_DegreeIn.pw (l.getD i z62) a)) (by omega)
    refine ⟨r, h1.trans ?_, fun K hK => ?_⟩
    · have hm : mx m (impl_DegreeIn.pw (l.getD i z62) a) > 0 ↔ (m > 0 ∨ impl_DegreeIn.pw (l.getD i z62) a > 0) := by
        unfold mx
        split <;> omega
      rw [hm]
      constructor
      · rintro ((h | h) | ⟨j, j1, j2, j3⟩)
        · exact .inl h
        · exact .inr ⟨i, by omega, by omega, h⟩
        · exact .inr ⟨j, by omega, j2, j3⟩
      · rintro (h | ⟨j, j1, j2, j3⟩)
        · exact .inl (.inl h)
        · by_cases e : j = i
          · subst e; exact .inl (.inr j3)
          · exact .inr ⟨j, by omega, j2, j3⟩
    · obtain ⟨K, rfl⟩ : ∃ j, K = j + 1 := ⟨K - 1, by omega⟩
      simp only [spec_poDegreeIn.l0]
      rw [if_pos (by omega), if_pos (by omega), if_pos (by omega), powD_eq, rdT_at]; simp only [bs']
      rw [most_eq]; simp only [bs']
      rw [hw]; exact h2 K (by omega)
theorem index_pos {l : List S62} (hl : l.length ≤ 1000000) (a : Int) : ∀ (d i : Nat), i + d = l.length → ∃ r : Int, (r ≥ 0 ↔ ∃ j, i ≤ j ∧ j < l.length ∧ impl_DegreeIn.pw (l.getD j z62) a > 0) ∧ ∀ K, d < K → impl_UnknownsOf.ix K l a (i : Int) = some r := by
  intro d
  induction d with
  | zero =>
    intro i hi
    refine ⟨-1, ⟨fun h => by omega, fun ⟨j, h1, h2, _⟩ => by omega⟩, fun K hK => ?_⟩
    obtain ⟨K, rfl⟩ : ∃ j, K = j + 1 := ⟨K - 1, by omega⟩
    simp only [impl_UnknownsOf.ix]; rw [if_neg (by omega)]
  | succ d ih =>
    intro i hi
    have hw : wrap64 ((i : Int) + 1) = ((i + 1 : Nat) : Int) := by rw [w64 (by omega) (by omega)]; omega
    by_cases c : impl_DegreeIn.pw (l.getD i z62) a > 0
    · refine ⟨(i : Int), ⟨fun _ => ⟨i, by omega, by omega, c⟩, fun _ => by omega⟩, fun K hK => ?_⟩
      obtain ⟨K, rfl⟩ : ∃ j, K = j + 1 := ⟨K - 1, by omega⟩
      simp only [impl_UnknownsOf.ix]
      rw [if_pos (by omega), if_pos (by omega), rdT_at, if_pos c]
    · obtain ⟨r, h1, h2⟩ := ih (i + 1) (by omega)
      refine ⟨r, h1.trans ⟨fun ⟨j, j1, j2, j3⟩ => ⟨j, by omega, j2, j3⟩, fun ⟨j, j1, j2, j3⟩ => ?_⟩, fun K hK => ?_⟩
      · by_cases e : j = i
        · subst e; exact absurd j3 c
        · exact ⟨j, by omega, j2, j3⟩
      · obtain ⟨K, rfl⟩ : ∃ j, K = j + 1 := ⟨K - 1, by omega⟩
        simp only [impl_UnknownsOf.ix]
        rw [if_pos (by omega), if_pos (by omega), rdT_at, if_neg c, hw]
        exact h2 K (by omega)
theorem good_mem {l : List S62} (h : goodT l = true) : ∀ t ∈ l, okT t = true := by
  intro t ht
  obtain ⟨i, hi, e⟩ := mem_getD ht
  exact e ▸ (goodT_ok h).2.1 i hi
/-! ### exchanged terms -/
theorem ex_ne {l : List S62} {o : List Int} (ho : perm o) (h : goodT l = true) : (ex o l).Pairwise (fun a b => ¬ Eqk impl_collect.ops a b) := List.Pairwise.map _ (fun _ _ hab he => hab.not_eq (tm_inj ho he)) (good_lt h)
theorem ex_ok {l : List S62} {o : List Int} (ho : perm o) (h : goodT l = true) : ∀ t ∈ ex o l, okT t = true := by
  intro t ht
  obtain ⟨u, hu, e⟩ := List.mem_map.1 ht
  rw [← e]
  exact tm_ok ho (good_mem h u hu)
/-- Where no two terms have the same exponents, a sum holds the terms themselves. -/
theorem mem_sums {l : List S62} (hne : l.Pairwise (fun a b => ¬ Eqk impl_collect.ops a b)) (hok : ∀ t ∈ l, okT t = true) (t : S62) : t ∈ sums impl_collect.ops l ↔ t ∈ l := by
  have hr : ∀ t ∈ l, wrap64 (impl_collect.ops.c t) = impl_collect.ops.c t := fun t ht => (ok_sm (hok t ht)).2
  obtain ⟨hnf, hcs⟩ := Go.Proofs.YthanmlojikidbaaGreatCol.sums_nf (o := impl_collect.ops) hr
  constructor
  · intro ht
    have h1 := hcs t
    rw [Go.Proofs.YthanmlojikidbaaGreatCol.pairwise_unique hnf.lt ht, hnf.rg t ht] at h1
    obtain ⟨u, hu, k⟩ := Go.Proofs.YthanmlojikidbaaGreatCol.mem_of_cs (o := impl_collect.ops) (l := l) (s := t) (fun e => by rw [e, Go.Proofs.YthanmlojikidbaaGreatCol.wrap_zero] at h1; exact hnf.nz t ht h1)
    rw [← Go.Proofs.YthanmlojikidbaaGreatCol.cs_eqk l k, ne_unique hne hu] at h1
    have e : wrap64 u.f0 = u.f0 := hr u hu
    rw [e] at h1
    have : t = u := impl_collect.ops.ext t u h1 k.1.symm k.2.1.symm k.2.2.symm
    rw [this]
    exact hu
  · intro ht
    have h1 := hcs t
    rw [ne_unique hne ht, show wrap64 t.f0 = t.f0 from hr t ht] at h1
    have hz : t.f0 ≠ 0 := (okT_iff.1 (hok t ht)).2.2.1
    obtain ⟨u, hu, k⟩ := Go.Proofs.YthanmlojikidbaaGreatCol.mem_of_cs (o := impl_collect.ops) (l := sums impl_collect.ops l) (s := t) (fun e => by rw [e, Go.Proofs.YthanmlojikidbaaGreatCol.wrap_zero] at h1; exact hz h1.symm)
    rw [← Go.Proofs.YthanmlojikidbaaGreatCol.cs_eqk (sums impl_collect.ops l) k, Go.Proofs.YthanmlojikidbaaGreatCol.pairwise_unique hnf.lt hu, hnf.rg u hu] at h1
    have : u = t := impl_collect.ops.ext u t h1 k.1 k.2.1 k.2.2
    rw [← this]
    exact hu
theorem mem_ex {l : List S62} {o : List Int} (ho : perm o) (h : goodT l = true) (t : S62) : t ∈ sums impl_collect.ops (ex o l) ↔ ∃ u ∈ l, tm u o = t := by
  rw [mem_sums (ex_ne ho h) (ex_ok ho h)]
  exact List.mem_map
/-- Exchanged back. -/
theorem ex_back {l : List S62} {o o' : List Int} (ho : perm o) (ho' : perm o') (hb : ∀ t : S62, tm (tm t o) o' = t) (h : goodT l = true) : sums impl_collect.ops (ex o' (sums impl_collect.ops (ex o l))) = l := by
  have g2 := ex_good ho h
  refine Go.Proofs.YthanmlojikidbaaGreatCol.eq_of_mem (good_lt (ex_good ho' g2)) (good_lt h) (fun t => ?_)
  rw [mem_ex ho' g2]
  constructor
  · rintro ⟨u, hu, e⟩
    obtain ⟨v, hv, e2⟩ := (mem_ex ho h u).1 hu
    rw [← e, ← e2, hb]
    exact hv
  · intro ht
    exact ⟨tm t o, (mem_ex ho h _).2 ⟨t, ht, rfl⟩, hb t⟩
theorem resT_true {l : List S62} (h : (resT l).2 = true) : resT l = (sums impl_collect.ops l, true) ∧ goodT (sums impl_collect.ops l) = true := by
  unfold resT at h ⊢
  by_cases c : goodT (sums impl_collect.ops l) = true
  · exact ⟨if_pos c, c⟩
  · rw [if_neg c] at h; cases h
theorem exR_true {l : List S62} {o : List Int} (h : (exR l o).2 = true) : goodT l = true ∧ perm o ∧ exR l o = (sums impl_collect.ops (ex o l), true) := by
  unfold exR at h ⊢
  by_cases c : goodT l = true ∧ perm o
  · rw [if_pos c] at h ⊢
    exact ⟨c.1, c.2, (resT_true h).1⟩
  · rw [if_neg c] at h; cases h
theorem exR_good {l : List S62} {o : List Int} (h : goodT l = true) (ho : perm o) : exR l o = (sums impl_collect.ops (ex o l), true) := by
  unfold exR resT
  rw [if_pos ⟨h, ho⟩, if_pos (ex_good ho h)]
theorem putR_true {l : List S62} {a n : Int} (h : (putR l a n).2 = true) : goodT l = true ∧ (0 ≤ a ∧ a ≤ 2) ∧ putR l a n = (sums impl_collect.ops (pG a n l), true) ∧ goodT (sums impl_collect.ops (pG a n l)) = true := by
  unfold putR at h ⊢
  by_cases c : goodT l = true ∧ (0 ≤ a ∧ a ≤ 2) ∧ (-100 ≤ n ∧ n ≤ 100)
  · rw [if_pos c] at h ⊢
    exact ⟨c.1, c.2.1, (resT_true h).1, (resT_true h).2⟩
  · rw [if_neg c] at h; cases h
theorem r_len {l : List S62} {P : Prop} [Decidable P] : (if P then resT l else ([], false)).1.length ≤ 20 := by split; exact resT_len _; simp
/-- What is put in for an unknown takes it away. -/
theorem put_free {l : List S62} {a n : Int} (ha : 0 ≤ a ∧ a ≤ 2) (h : goodT l = true) : ∀ t ∈ sums impl_collect.ops (pG a n l), impl_DegreeIn.pw t a = 0 := by
  intro t ht
  obtain ⟨hnf, hcs⟩ := Go.Proofs.YthanmlojikidbaaGreatCol.sums_nf (o := impl_collect.ops) (l := pG a n l) (fun u hu => (pG_ok ha (smD_good h) u hu).2)
  have h1 := hcs t
  rw [Go.Proofs.YthanmlojikidbaaGreatCol.pairwise_unique hnf.lt ht, hnf.rg t ht] at h1
  obtain ⟨u, hu, k⟩ := Go.Proofs.YthanmlojikidbaaGreatCol.mem_of_cs (o := impl_collect.ops) (l := pG a n l) (s := t) (fun e => by rw [e, Go.Proofs.YthanmlojikidbaaGreatCol.wrap_zero] at h1; exact hnf.nz t ht h1)
  obtain ⟨v, _, e⟩ := List.mem_map.1 hu
  unfold Eqk impl_collect.ops at k
  simp only [] at k
  rw [← e] at k
  clear h1 e hu
  rcases three ha with rfl | rfl | rfl <;> simp only [impl_PutInteger.tm, impl_DegreeIn.pw, if_true, Int.reduceEq, if_false] at k ⊢ <;> omega
/-! ### the degree -/
def dT (t : S62) : Int := wrap64 (wrap64 (t.f1 + t.f2) + t.f3)
def dg (l : List S62) (m : Int) : Int := l.foldl (fun m t => mx m (dT t)) m
def dn (a : Int) (l : List S62) (m : Int) : Int := l.foldl (fun m t => mx m (impl_DegreeIn.pw t a)) m
theorem mx_le {a b x : Int} : mx a b ≤ x ↔ a ≤ x ∧ b ≤ x := by unfold mx; split <;> omega
theorem dg_le (x : Int) : ∀ (l : List S62) (m : Int), dg l m ≤ x ↔ m ≤ x ∧ ∀ t ∈ l, dT t ≤ x
  | [], m => ⟨fun h => ⟨h, fun t ht => by cases ht⟩, fun h => h.1⟩
  | t :: l, m => by
    refine (dg_le x l (mx m (dT t))).trans ?_
    rw [mx_le]
    constructor
    · rintro ⟨⟨h1, h2⟩, h3⟩
      refine ⟨h1, fun u hu => ?_⟩
      rcases List.mem_cons.1 hu with rfl | hu
      · exact h2
      · exact h3 u hu
    · rintro ⟨h1, h2⟩
      exact ⟨⟨h1, h2 t List.mem_cons_self⟩, fun u hu => h2 u (List.mem_cons_of_mem _ hu)⟩
theorem dn_le {a x : Int} : ∀ {l : List S62} {m : Int}, m ≤ x → (∀ t ∈ l, impl_DegreeIn.pw t a ≤ x) → dn a l m ≤ x
  | [], _, h, _ => h
  | t :: l, m, h, h2 => by
    show dn a l (mx m (impl_DegreeIn.pw t a)) ≤ x
    exact dn_le (mx_le.2 ⟨h, h2 t List.mem_cons_self⟩) (fun u hu => h2 u (List.mem_cons_of_mem _ hu))
theorem dT_ok {t : S62} (h : okT t = true) : dT t = t.f1 + t.f2 + t.f3 := by
  have h := okT_iff.1 h
  unfold dT
  rw [w64 (x := t.f1 + t.f2) (by omega) (by omega), w64 (by omega) (by omega)]
theorem dT_tm {t : S62} {o : List Int} (ho : perm o) (h : okT t = true) : dT (tm t o) = dT t := by
  rw [dT_ok h, dT_ok (tm_ok ho h)]
  unfold tm impl_ExchangeUnknowns.tm
  rcases ho with rfl | rfl | rfl | rfl | rfl | rfl <;> simp [impl_ExchangeUnknowns.pt, rd] <;> omega
theorem dg_ex {l : List S62} {o : List Int} (ho : perm o) (h : goodT l = true) : dg (sums impl_collect.ops (ex o l)) (-1) = dg l (-1) := by
  have key : ∀ x, dg (sums impl_collect.ops (ex o l)) (-1) ≤ x ↔ dg l (-1) ≤ x := fun x => by
    rw [dg_le, dg_le]
    constructor
    · rintro ⟨h1, h2⟩
      refine ⟨h1, fun t ht => ?_⟩
      have := h2 (tm t o) ((mem_ex ho h _).2 ⟨t, ht, rfl⟩)
      rwa [dT_tm ho (good_mem h t ht)] at this
    · rintro ⟨h1, h2⟩
      refine ⟨h1, fun t ht => ?_⟩
      obtain ⟨u, hu, e⟩ := (mem_ex ho h t).1 ht
      rw [← e, dT_tm ho (good_mem h u hu)]
      exact h2 u hu
  exact Int.le_antisymm ((key _).2 (Int.le_refl _)) ((key _).1 (Int.le_refl _))
theorem dg_rng {l : List S62} (h : goodT l = true) : -1 ≤ dg l (-1) ∧ dg l (-1) ≤ 4 ∧ (dg l (-1) = -1 ↔ l.length = 0) := by
  have ht := fun t (ht : t ∈ l) => dT_ok (good_mem h t ht)
  have hr := fun t (ht : t ∈ l) => okT_iff.1 (good_mem h t ht)
  have h1 := ((dg_le _ l (-1)).1 (Int.le_refl _)).1
  refine ⟨h1, (dg_le 4 l (-1)).2 ⟨by omega, fun t hm => ?_⟩, fun e => ?_, fun e => ?_⟩
  · have := ht t hm; have := hr t hm; omega
  · match l, ((dg_le (-1) l (-1)).1 (by omega)).2 with
    | [], _ => rfl
    | t :: l, h2 => have := h2 t List.mem_cons_self; have := ht t List.mem_cons_self; have := hr t List.mem_cons_self; omega
  · rw [List.length_eq_zero_iff.1 e]; rfl
theorem drop_at {l : List S62} {i : Nat} (hi : i < l.length) : l.drop i = l.getD i z62 :: l.drop (i + 1) := by rw [List.drop_eq_getElem_cons hi]; simp [List.getD_eq_getElem?_getD, hi]
theorem dg_l0 {l : List S62} (hl : l.length ≤ 1000000) : ∀ (d i K : Nat) (m : Int), i + d = l.length → d < K → spec_poDegree.l0 K m l (l.length : Int) (i : Int) = some (dg (l.drop i) m) ∧ impl_degreeOf.l0 K m l (l.length : Int) (i : Int) = some (dg (l.drop i) m) := by
  intro d
  induction d with
  | zero =>
    intro i K m hi hK
    obtain ⟨K, rfl⟩ : ∃ j, K = j + 1 := ⟨K - 1, by omega⟩
    rw [List.drop_of_length_le (by omega)]
    constructor
    · simp only [spec_poDegree.l0]; rw [if_neg (by omega)]; rfl
    · simp only [impl_degreeOf.l0]; rw [if_neg (by omega)]; rfl
  | succ d ih =>
    intro i K m hi hK
    obtain ⟨K, rfl⟩ : ∃ j, K = j + 1 := ⟨K - 1, by omega⟩
    have hw : wrap64 ((i : Int) + 1) = ((i + 1 : Nat) : Int) := by rw [w64 (by omega) (by omega)]; omega
    have hil : i < l.length := by omega
    obtain ⟨h1, h2⟩ := ih (i + 1) K (mx m (dT (l.getD i z62))) (by omega) (by omega)
    rw [drop_at hil]
    constructor
    · simp only [spec_poDegree.l0]
      rw [if_pos (by omega), if_pos (by omega), if_pos (by omega), most_eq]; simp only [bs']
      rw [hw, rdT_at]; exact h1
    · simp only [impl_degreeOf.l0, impl_Term_degree.f]
      rw [if_pos (by omega), if_pos (by omega), if_pos (by omega)]; simp only [bs']
      rw [hw, rdT_at]; exact h2
def ofR (l : List S62) : Int × Bool := if goodT l = true then (dg l (-1), true) else (0, false)
theorem of_ev {l : List S62} (h2 : l.length ≤ 1000000) : ∃ n, ∀ K, n ≤ K → spec_DegreeOf.f K l = some (ofR l) ∧ impl_DegreeOf.f K l = some (ofR l) := by
  obtain ⟨K2, e2⟩ := poGood_ev h2
  obtain ⟨K3, e3⟩ := isPoly_ev h2
  dsimp only at e2 e3
  refine ⟨K2 + K3 + l.length + 1, fun K hK => ?_⟩
  by_cases g : goodT l = true
  · obtain ⟨h3, h4⟩ := dg_l0 h2 l.length 0 K (-1) (by omega) (by omega)
    rw [List.drop_zero] at h3 h4
    rw [show ofR l = (dg l (-1), true) from if_pos g]
    constructor
    · unfold spec_DegreeOf.f spec_poDegree.f
      rw [e2 _ (by omega), g]; simp only [bs', if_true]
      rw [show (0 : Int) = ((0 : Nat) : Int) from rfl, h3]; simp only [bs']
    · unfold impl_DegreeOf.f impl_degreeOf.f
      rw [e3 _ (by omega), g]; simp only [bs', if_true]
      rw [show (0 : Int) = ((0 : Nat) : Int) from rfl, h4]; simp only [bs']
  · rw [show ofR l = (0, false) from if_neg g]
    constructor
    · unfold spec_DegreeOf.f
      rw [e2 _ (by omega)]; simp only [bs']
      rw [if_neg g]
    · unfold impl_DegreeOf.f
      rw [e3 _ (by omega)]; simp only [bs']
      rw [if_neg g]
theorem dn_l0 {l : List S62} (hl : l.length ≤ 1000000) (a : Int) : ∀ (d i K : Nat) (m : Int), i + d = l.length → d < K → spec_poDegreeIn.l0 K a m l (l.length : Int) (i : Int) = some (dn a (l.drop i) m) ∧ impl_DegreeIn.l0 K l a m (i : Int) = some (dn a (l.drop i) m, true) := by
  intro d
  induction d with
  | zero =>
    intro i K m hi hK
    obtain ⟨K, rfl⟩ : ∃ j, K = j + 1 := ⟨K - 1, by omega⟩
    rw [List.drop_of_length_le (by omega)]
    constructor
    · simp only [spec_poDegreeIn.l0]; rw [if_neg (by omega)]; rfl
    · simp only [impl_DegreeIn.l0]; rw [if_neg (by omega)]; rfl
  | succ d ih =>
    intro i K m hi hK
    obtain ⟨K, rfl⟩ : ∃ j, K = j + 1 := ⟨K - 1, by omega⟩
    have hw : wrap64 ((i : Int) + 1) = ((i + 1 : Nat) : Int) := by rw [w64 (by omega) (by omega)]; omega
    have hil : i < l.length := by omega
    obtain ⟨h1, h2⟩ := ih (i + 1) K (mx m (impl_DegreeIn.pw (l.getD i z62) a)) (by omega) (by omega)
    rw [drop_at hil]
    constructor
    · simp only [spec_poDegreeIn.l0]
      rw [if_pos (by omega), if_pos (by omega), if_pos (by omega), powD_eq, rdT_at]; simp only [bs']
      rw [most_eq]; simp only [bs']
      rw [hw]; exact h1
    · simp only [impl_DegreeIn.l0]
      rw [if_pos (by omega), if_pos (by omega), hw, rdT_at]; exact h2
def inR (l : List S62) (a : Int) : Int × Bool := if goodT l = true ∧ (0 ≤ a ∧ a ≤ 2) then (dn a l (-1), true) else (0, false)
theorem in_ev {l : List S62} (h2 : l.length ≤ 1000000) (a1 : Int) : ∃ n, ∀ K, n ≤ K → spec_DegreeIn.f K l a1 = some (inR l a1) ∧ impl_DegreeIn.f K l a1 = some (inR l a1) := by
  obtain ⟨K2, e2⟩ := poGood_ev h2
  obtain ⟨K3, e3⟩ := isPoly_ev h2
  dsimp only at e2 e3
  refine ⟨K2 + K3 + l.length + 1, fun K hK => ?_⟩
  by_cases g : goodT l = true
  · by_cases hu : 0 ≤ a1 ∧ a1 ≤ 2
    · obtain ⟨h3, h4⟩ := dn_l0 h2 a1 l.length 0 K (-1) (by omega) (by omega)
      rw [List.drop_zero] at h3 h4
      rw [show inR l a1 = (dn a1 l (-1), true) from if_pos ⟨g, hu⟩]
      constructor
      · unfold spec_DegreeIn.f spec_poDegreeIn.f spec_poUnknown.f
        rw [e2 _ (by omega), g]; simp only [bs', if_true]
        rw [l1In_eq, decide_eq_true hu]; simp only [bs', if_true]
        rw [show (0 : Int) = ((0 : Nat) : Int) from rfl, h3]; simp only [bs']
      · unfold impl_DegreeIn.f impl_isUnknown.f
        rw [e3 _ (by omega), g]; simp only [bs', if_true]
        rw [inside_eq, decide_eq_true hu]; simp only [bs', if_true]
        rw [if_pos hu.1, if_pos hu.2, show (0 : Int) = ((0 : Nat) : Int) from rfl, h4]
    · rw [show inR l a1 = (0, false) from if_neg (fun h => hu h.2)]
      constructor
      · unfold spec_DegreeIn.f spec_poUnknown.f
        rw [e2 _ (by omega), g]; simp only [bs', if_true]
        rw [l1In_eq, decide_eq_false hu]; simp only [bs']
        rw [if_neg (by decide)]
      · unfold impl_DegreeIn.f impl_isUnknown.f
        rw [e3 _ (by omega), g]; simp only [bs', if_true]
        rw [inside_eq, decide_eq_false hu]; simp only [bs']
        rw [if_neg (by decide)]
  · rw [show inR l a1 = (0, false) from if_neg (fun h => g h.1)]
    constructor
    · unfold spec_DegreeIn.f
      rw [e2 _ (by omega)]; simp only [bs']
      rw [if_neg g]
    · unfold impl_DegreeIn.f
      rw [e3 _ (by omega)]; simp only [bs']
      rw [if_neg g]
/-! ### the unknowns -/
theorem unk_l0 {l : List S62} (hl : l.length ≤ 1000000) : ∀ (d i : Nat) (xs : List Int), i + d = 3 → xs.length ≤ i → (∀ x ∈ xs, ∃ t ∈ l, impl_DegreeIn.pw t x > 0) → ∃ r : List Int, r.length ≤ 3 ∧ (∀ x ∈ r, ∃ t ∈ l, impl_DegreeIn.pw t x > 0) ∧ ∀ K, l.length + d < K → spec_UnknownsOf.l0 K l xs (i : Int) = some (r, true) ∧ impl_UnknownsOf.l0 K l xs (i : Int) = some (r, true) := by
  intro d
  induction d with
  | zero =>
    intro i xs hi hx hm
    refine ⟨xs, by omega, hm, fun K hK => ?_⟩
    obtain ⟨K, rfl⟩ : ∃ j, K = j + 1 := ⟨K - 1, by omega⟩
    constructor
    · simp only [spec_UnknownsOf.l0]; rw [if_neg (by omega)]
    · simp only [impl_UnknownsOf.l0]; rw [if_neg (by omega)]
  | succ d ih =>
    intro i xs hi hx hm
    have hw : wrap64 ((i : Int) + 1) = ((i + 1 : Nat) : Int) := by rw [w64 (by omega) (by omega)]; omega
    obtain ⟨p, p1, p2⟩ := degree_pos hl (i : Int) l.length 0 (-1) (by omega)
    obtain ⟨q, q1, q2⟩ := index_pos hl (i : Int) l.length 0 (by omega)
    have hpq : p > 0 ↔ q ≥ 0 := by
      rw [p1, q1]
      exact ⟨fun h => h.elim (fun h => by omega) id, fun h => .inr h⟩
    by_cases c : q ≥ 0
    · obtain ⟨j, _, j2, j3⟩ := q1.1 c
      obtain ⟨r, hr, hm', h⟩ := ih (i + 1) (xs ++ [(i : Int)]) (by omega) (by rw [List.length_append]; simp; omega) (fun x hx => by
        rcases List.mem_append.1 hx with hx | hx
        · exact hm x hx
        · rw [List.mem_singleton.1 hx]; exact ⟨_, getD_mem j2, j3⟩)
      refine ⟨r, hr, hm', fun K hK => ?_⟩
      obtain ⟨K, rfl⟩ : ∃ j, K = j + 1 := ⟨K - 1, by omega⟩
      obtain ⟨h1, h2⟩ := h K (by omega)
      constructor
      · simp only [spec_UnknownsOf.l0, spec_poDegreeIn.f]
        rw [if_pos (by omega), show spec_poDegreeIn.l0 K (i : Int) (-1) l (l.length : Int) 0 = some p from p2 K (by omega)]; simp only [bs']
        rw [if_pos (hpq.2 c), if_pos (by omega), hw]; exact h1
      · simp only [impl_UnknownsOf.l0]
        rw [if_pos (by omega), if_pos (by omega), show impl_UnknownsOf.ix K l (i : Int) 0 = some q from q2 K (by omega)]; simp only [bs']
        rw [if_pos c, if_pos (by omega), hw]; exact h2
    · obtain ⟨r, hr, hm', h⟩ := ih (i + 1) xs (by omega) (by omega) hm
      refine ⟨r, hr, hm', fun K hK => ?_⟩
      obtain ⟨K, rfl⟩ : ∃ j, K = j + 1 := ⟨K - 1, by omega⟩
      obtain ⟨h1, h2⟩ := h K (by omega)
      constructor
      · simp only [spec_UnknownsOf.l0, spec_poDegreeIn.f]
        rw [if_pos (by omega), show spec_poDegreeIn.l0 K (i : Int) (-1) l (l.length : Int) 0 = some p from p2 K (by omega)]; simp only [bs']
        rw [if_neg (fun e => c (hpq.1 e)), hw]; exact h1
      · simp only [impl_UnknownsOf.l0]
        rw [if_pos (by omega), if_pos (by omega), show impl_UnknownsOf.ix K l (i : Int) 0 = some q from q2 K (by omega)]; simp only [bs']
        rw [if_neg c, hw]; exact h2
theorem unk_ev {l : List S62} (h2 : l.length ≤ 1000000) (g : goodT l = true) : ∃ us : List Int, us.length ≤ 3 ∧ (∀ x ∈ us, ∃ t ∈ l, impl_DegreeIn.pw t x > 0) ∧ ∃ n, ∀ K, n ≤ K → spec_UnknownsOf.f K l = some (us, true) ∧ impl_UnknownsOf.f K l = some (us, true) := by
  obtain ⟨K2, e2⟩ := poGood_ev h2
  obtain ⟨K3, e3⟩ := isPoly_ev h2
  dsimp only at e2 e3
  obtain ⟨r, hr, hm, hn⟩ := unk_l0 h2 3 0 [] (by omega) (by simp) (fun x hx => by cases hx)
  refine ⟨r, hr, hm, l.length + 4 + K2 + K3, fun K hK => ⟨?_, ?_⟩⟩
  · unfold spec_UnknownsOf.f
    rw [e2 _ (by omega), g]; simp only [bs', if_true]
    exact (hn K (by omega)).1
  · unfold impl_UnknownsOf.f
    rw [e3 _ (by omega), g]; simp only [bs', if_true]
    exact (hn K (by omega)).2
end Go.Proofs.YthanmlojikidbaaGreat.Pure
