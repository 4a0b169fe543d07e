import Derived.Laws.Bits64b
import Derived.Test.YthanmlojikidbaaGreatQUnknnsPDx0
import Derived.Test.YthanmlojikidbaaGreatQUnknnsPn
/- The draws answer at every list of bytes: what they hand back is short; a drawn term is small. Plain lemmas on the printed functions. -/
namespace Go.Proofs.YthanmlojikidbaaGreat.Pure
open Go.RowKit Go.Proofs.YthanmlojikidbaaGreat.PD Go.Proofs.YthanmlojikidbaaGreatW.PrintWords Go.Proofs.YthanmlojikidbaaGreatW.PrintLast Go.Proofs.YthanmlojikidbaaGreatW.PrintMore
open Go.Proofs.YthanmlojikidbaaGreatCol (Lt Eqk put sums ahd cs Nf)
theorem sm_goodA {l : List S62} (h : goodT l = true) : ∀ t ∈ l, smT t ∧ wrap64 t.f0 = t.f0 := fun t ht => ok_sm (good_mem h t ht)
theorem goodT_nil : goodT ([] : List S62) = true := by unfold goodT polRun; decide
/-- What answers once answers at every greater bound. -/
theorem up {α : Type} {g : Nat → Option α} (hm : ∀ k, LeO (g k) (g (k + 1))) {k : Nat} {r : α} (h : g k = some r) : ∀ K, k ≤ K → g K = some r := by
  intro K hK
  obtain ⟨d, rfl⟩ := Nat.exists_eq_add_of_le hK
  clear hK
  induction d with
  | zero => exact h
  | succ d ih => exact hm (k + d) r ih
def Bytes (l : List Int) : Prop := (∀ y ∈ l, 0 ≤ y ∧ y ≤ 255) ∧ l.length ≤ 9223372036854775807
def St (n : Nat) (s : Int) : Prop := 0 ≤ s ∧ s ≤ n
theorem u64_rng (x : Int) : 0 ≤ IntKind.u64.wrap x ∧ IntKind.u64.wrap x < 18446744073709551616 := by
  have e : IntKind.u64.wrap x = x % 18446744073709551616 := by
    unfold IntKind.wrap
    rfl
  rw [e]; omega
theorem byte_of (x : Int) (h : 0 ≤ x ∧ x < 18446744073709551616) : 0 ≤ Go.bits .and .u64 (x / 1099511627776) 255 ∧ Go.bits .and .u64 (x / 1099511627776) 255 ≤ 255 := by
  obtain ⟨n, hn⟩ : ∃ n : Nat, x / 1099511627776 = (n : Int) := ⟨(x / 1099511627776).toNat, by omega⟩
  have h1 : n < 18446744073709551616 := by omega
  have h2 := Go.bits_and_u64_nat n 255 h1 (by omega)
  rw [hn, show (255 : Int) = ((255 : Nat) : Int) from rfl, h2]
  have h3 : n &&& 255 ≤ 255 := Nat.and_le_right
  omega
theorem next_run {l : List Int} (hl : Bytes l) {n : Nat} {a : Int} (h : St n a) (hn : n ≤ 1000000) (s : Int) : ∃ r a' s', spec_l1Cur_next.f l a s = some (r, a', s') ∧ 0 ≤ r ∧ r ≤ 255 ∧ St (n + 1) a' := by
  obtain ⟨h0, h1⟩ := h
  have hw : wrap64 (a + 1) = a + 1 := w64 (by omega) (by omega)
  have hs : St (n + 1) (a + 1) := ⟨by omega, by omega⟩
  unfold spec_l1Cur_next.f
  rw [hw]
  by_cases c : a < (l.length : Int)
  · have hr : 0 ≤ rd l a ∧ rd l a ≤ 255 := by
      unfold rd
      have hi : a.toNat < l.length := by omega
      have : l.getD a.toNat 0 ∈ l := by rw [List.getD_eq_getElem?_getD, List.getElem?_eq_getElem hi]; exact List.getElem_mem hi
      exact hl.1 _ this
    rw [if_pos c, if_pos h0, if_pos (by omega), w64 (x := rd l a) (by omega) (by omega)]
    exact ⟨_, _, _, rfl, hr.1, hr.2, hs⟩
  · rw [if_neg c]
    by_cases c2 : a + 1 ≤ (l.length : Int)
    · rw [if_pos c2]
      exact ⟨_, _, _, rfl, by omega, by omega, hs⟩
    · rw [if_neg c2]
      have hb := byte_of _ (u64_rng (IntKind.u64.wrap (IntKind.u64.wrap (s * 6364136223846793005)) + 1442695040888963407))
      refine ⟨_, _, _, rfl, ?_, ?_, hs⟩
      · rw [w64 (by omega) (by omega)]; exact hb.1
      · rw [w64 (by omega) (by omega)]; exact hb.2
theorem pick_run {l : List Int} (hl : Bytes l) {n : Nat} {a : Int} (h : St n a) (hn : n ≤ 1000000) (s : Int) {m : Int} (hm : m ≤ 200) : ∃ r a' s', spec_l1Cur_pick.f l a s m = some (r, a', s') ∧ 0 ≤ r ∧ (r < m ∨ r = 0) ∧ St (n + 1) a' := by
  unfold spec_l1Cur_pick.f
  by_cases c : m ≤ 1
  · rw [if_pos c]
    exact ⟨_, _, _, rfl, by omega, .inr rfl, h.1, by have := h.2; omega⟩
  · rw [if_neg c]
    obtain ⟨r, a', s', e, r0, r1, hs⟩ := next_run hl h hn s
    rw [e]; simp only [bs']
    rw [if_neg (by omega), if_neg (by omega)]
    refine ⟨_, _, _, rfl, Int.tmod_nonneg _ r0, .inl ?_, hs⟩
    rw [Int.tmod_eq_emod_of_nonneg r0]
    exact Int.emod_lt_of_pos _ (by omega)
theorem one_run {l : List Int} (hl : Bytes l) {n : Nat} {a : Int} (h : St n a) (hn : n ≤ 1000000) (s : Int) {m : Int} (hm : m ≤ 200) : ∃ r a' s', spec_l1Cur_one.f l a s m = some (r, a', s') ∧ St (n + 1) a' := by
  obtain ⟨r, a', s', e, _, _, hs⟩ := pick_run hl h hn s hm
  unfold spec_l1Cur_one.f
  rw [e]; simp only [bs']
  exact ⟨_, _, _, rfl, hs⟩
theorem among_run {l : List Int} (hl : Bytes l) {n : Nat} {a : Int} (h : St n a) (hn : n ≤ 1000000) (s : Int) (xs : List Int) (h1 : 0 < xs.length) (h2 : xs.length ≤ 200) : ∃ r a' s', spec_l1Cur_among.f l a s xs = some (r, a', s') ∧ r ∈ xs ∧ St (n + 1) a' := by
  obtain ⟨r, a', s', e, r0, r1, hs⟩ := pick_run hl h hn s (m := (xs.length : Int)) (by omega)
  unfold spec_l1Cur_among.f
  rw [e]; simp only [bs']
  have hi : r < (xs.length : Int) := by omega
  rw [if_pos r0, if_pos hi]
  refine ⟨_, _, _, rfl, ?_, hs⟩
  unfold rd
  have hj : r.toNat < xs.length := by omega
  rw [List.getD_eq_getElem?_getD, List.getElem?_eq_getElem hj]; exact List.getElem_mem hj
theorem unknownOf_run {l : List Int} (hl : Bytes l) {n : Nat} {a : Int} (h : St n a) (hn : n ≤ 9000) (s : Int) : ∃ r a' s', spec_l1Cur_unknownOf.f l a s = some (r, a', s') ∧ St (n + 2) a' := by
  obtain ⟨r, a1, s1, e, _, h1⟩ := among_run hl h (by omega) s [(-1), 3, 4611686018427387904] (by simp) (by simp)
  obtain ⟨r2, a2, s2, e2, _, h2⟩ := among_run hl h1 (by omega) s1 [0, 1, 2, 0, 1, 2, 0, 1, r] (by simp) (by simp)
  unfold spec_l1Cur_unknownOf.f
  rw [e]; simp only [bs']
  rw [e2]; simp only [bs']
  exact ⟨_, _, _, rfl, h2⟩
/-! ### a term -/
def Tm (c x y z : Int) : Prop := -1000 ≤ c ∧ c ≤ 1000 ∧ 0 ≤ x ∧ 0 ≤ y ∧ 0 ≤ z ∧ x + y + z ≤ 4
theorem with_run {c x y z left e k : Int} (h : -1000 ≤ c ∧ c ≤ 1000 ∧ 0 ≤ x ∧ 0 ≤ y ∧ 0 ≤ z ∧ x + y + z + left ≤ 4) (he : 0 ≤ e ∧ e ≤ left) : ∃ c' x' y' z', spec_poWith.f c x y z k e = some (c', x', y', z') ∧ (-1000 ≤ c' ∧ c' ≤ 1000 ∧ 0 ≤ x' ∧ 0 ≤ y' ∧ 0 ≤ z' ∧ x' + y' + z' + (left - e) ≤ 4) := by
  unfold spec_poWith.f
  by_cases c1 : k = 0
  · rw [if_pos c1]; exact ⟨_, _, _, _, rfl, by omega⟩
  · rw [if_neg c1]
    by_cases c2 : k = 1
    · rw [if_pos c2]; exact ⟨_, _, _, _, rfl, by omega⟩
    · rw [if_neg c2]; exact ⟨_, _, _, _, rfl, by omega⟩
theorem term_l0 {l : List Int} (hl : Bytes l) (m : Int) (hm : m ≤ 4) : ∀ (d n : Nat) (k left a s c x y z : Int), 0 ≤ k → m - k ≤ d → n + d * 2 ≤ 10000 → St n a → 0 ≤ left → left ≤ 4 → (-1000 ≤ c ∧ c ≤ 1000 ∧ 0 ≤ x ∧ 0 ≤ y ∧ 0 ≤ z ∧ x + y + z + left ≤ 4) →
    ∃ c' x' y' z' a' s', spec_l1Cur_term.l0 (d + 1) m left k l a s c x y z = some (c', x', y', z', a', s') ∧ Tm c' x' y' z' ∧ St (n + d * 2 + 2) a' := by
  intro d
  induction d with
  | zero =>
    intro n k left a s c x y z hk hd hn ha h0 h4 ht
    rw [show 0 + 1 = 0 + 1 from rfl, spec_l1Cur_term.l0, if_neg (by omega)]
    obtain ⟨b, a1, s1, e1, h1⟩ := one_run hl ha (by omega) s (m := 24) (by omega)
    rw [e1]; simp only [bs']
    by_cases hb : b = true
    · rw [if_pos hb]
      obtain ⟨r, a2, s2, e2, hr, h2⟩ := among_run hl h1 (by omega) s1 [1000, (-1000)] (by simp) (by simp)
      rw [e2]; simp only [bs']
      have : r = 1000 ∨ r = -1000 := by simpa using hr
      exact ⟨_, _, _, _, _, _, rfl, by unfold Tm; omega, h2⟩
    · rw [if_neg hb]
      exact ⟨_, _, _, _, _, _, rfl, by unfold Tm; omega, h1.1, by have := h1.2; omega⟩
  | succ d ih =>
    intro n k left a s c x y z hk hd hn ha h0 h4 ht
    by_cases ck : k < m
    · rw [spec_l1Cur_term.l0, if_pos ck, w64 (x := left + 1) (by omega) (by omega), w64 (x := k + 1) (by omega) (by omega)]
      obtain ⟨r, a1, s1, e1, r0, r1, h1⟩ := pick_run hl ha (by omega) s (m := left + 1) (by omega)
      rw [e1]; simp only [bs']
      obtain ⟨e, a2, s2, e2, he, h2⟩ := among_run hl h1 (by omega) s1 [0, 0, 1, 1, 2, r] (by simp) (by simp)
      rw [e2]; simp only [bs']
      have he0 : 0 ≤ e := by
        have : e = 0 ∨ e = 1 ∨ e = 2 ∨ e = r := by simpa [or_assoc] using he
        omega
      by_cases cg : e > left
      · rw [if_pos cg]
        obtain ⟨c', x', y', z', ew, hw⟩ := with_run (k := k) ht ⟨h0, Int.le_refl left⟩
        rw [ew]; simp only [bs']
        obtain ⟨c1, x1, y1, z1, a3, s3, ei, hi, hs⟩ := ih (n + 2) (k + 1) 0 a2 s2 c' x' y' z' (by omega) (by omega) (by omega) h2 (by omega) (by omega) (by omega)
        exact ⟨_, _, _, _, _, _, ei, hi, hs.1, by have := hs.2; omega⟩
      · rw [if_neg cg]
        obtain ⟨c', x', y', z', ew, hw⟩ := with_run (k := k) ht ⟨he0, (by omega : e ≤ left)⟩
        rw [ew]; simp only [bs']
        rw [w64 (x := left - e) (by omega) (by omega)]
        obtain ⟨c1, x1, y1, z1, a3, s3, ei, hi, hs⟩ := ih (n + 2) (k + 1) (left - e) a2 s2 c' x' y' z' (by omega) (by omega) (by omega) h2 (by omega) (by omega) hw
        exact ⟨_, _, _, _, _, _, ei, hi, hs.1, by have := hs.2; omega⟩
    · have h3 := (spec_l1Cur_term.mono_l (d + 1)) m left k l a s c x y z
      obtain ⟨c1, x1, y1, z1, a3, s3, ei, hi, hs⟩ := ih n k left a s c x y z hk (by omega) (by omega) ha h0 h4 ht
      exact ⟨_, _, _, _, _, _, h3 _ ei, hi, hs.1, by have := hs.2; omega⟩
theorem term_run {l : List Int} (hl : Bytes l) {n : Nat} {a : Int} (h : St n a) (hn : n ≤ 9000) (s : Int) {m : Int} (hm : m ≤ 4) : ∃ c x y z a' s', (∀ K, 5 ≤ K → spec_l1Cur_term.f K l a s m = some (c, x, y, z, a', s')) ∧ Tm c x y z ∧ St (n + 12) a' := by
  obtain ⟨r, a1, s1, e1, r0, r1, h1⟩ := pick_run hl h (by omega) s (m := 41) (by omega)
  have hw : wrap64 (r - 20) = r - 20 := w64 (by omega) (by omega)
  obtain ⟨c, a2, s2, e2, hc, h2⟩ := among_run hl h1 (by omega) s1 [1, (-1), 2, (-3), 4, wrap64 (r - 20)] (by simp) (by simp)
  have hcr : -1000 ≤ c ∧ c ≤ 1000 := by
    rw [hw] at hc
    have : c = 1 ∨ c = -1 ∨ c = 2 ∨ c = -3 ∨ c = 4 ∨ c = r - 20 := by simpa using hc
    omega
  obtain ⟨c', x', y', z', a', s', e3, ht, hs⟩ := term_l0 hl m hm 4 (n + 2) 0 4 a2 s2 c 0 0 0 (by omega) (by omega) (by omega) h2 (by omega) (by omega) (by omega)
  refine ⟨c', x', y', z', a', s', fun K hK => ?_, ht, hs.1, by have := hs.2; omega⟩
  unfold spec_l1Cur_term.f
  rw [e1]; simp only [bs']
  rw [e2]; simp only [bs']
  exact up (g := fun k => spec_l1Cur_term.l0 k m 4 0 l a2 s2 c 0 0 0) (fun k => spec_l1Cur_term.mono_l k _ _ _ _ _ _ _ _ _ _) e3 K (by omega)
/-! ### a polynomial -/
theorem tm_sm {c x y z : Int} (h : Tm c x y z) : smT (⟨c, x, y, z⟩ : S62) := by unfold Tm at h; unfold smT; simp only []; omega
theorem poAdd_run : ∃ KA, ∀ (p q : List S62), p.length ≤ 200 → q.length ≤ 200 → (∀ t ∈ p, smT t) → (∀ t ∈ q, smT t) → ∀ K, KA ≤ K → spec_poAdd.f K p q = some (resT (p ++ q)) := by
  obtain ⟨KS, hS⟩ := poSum_run
  refine ⟨KS, fun p q hp hq sp sq K hK => ?_⟩
  unfold spec_poAdd.f
  simp only [bs', List.nil_append, List.length_nil, Nat.zero_add]
  rw [if_pos (by omega), if_pos (by omega), hS (p ++ q) (by rw [List.length_append]; omega) (fun t ht => (List.mem_append.1 ht).elim (sp t) (sq t)) K hK]; simp only [bs']
theorem resT_good (l : List S62) (h : (resT l).2 = true) : goodT (resT l).1 = true := by
  unfold resT at h ⊢
  split
  · assumption
  · rename_i hn; rw [if_neg hn] at h; cases h
theorem good_sm {l : List S62} (h : goodT l = true) : ∀ t ∈ l, smT t := fun t ht => (sm_goodA h t ht).1
theorem poly_l0 {l : List Int} (hl : Bytes l) {m : Int} (hm : m ≤ 4) (KA : Nat) (hA : ∀ (p q : List S62), p.length ≤ 200 → q.length ≤ 200 → (∀ t ∈ p, smT t) → (∀ t ∈ q, smT t) → ∀ K, KA ≤ K → spec_poAdd.f K p q = some (resT (p ++ q))) (many : Int) :
    ∀ (d n : Nat) (k a s : Int) (x : List S62), 0 ≤ k → k ≤ 100 → many ≤ 50 → many - k ≤ d → n + d * 12 ≤ 5000 → St n a → goodT x = true → ∃ x' a' s', (∀ K, KA + 10 + d ≤ K → spec_l1Cur_poly.l0 K m x many k l a s = some (x', a', s')) ∧ goodT x' = true ∧ St (n + d * 12 + 1) a' := by
  intro d
  induction d with
  | zero =>
    intro n k a s x hk hk2 hmany hd hn ha hg
    obtain ⟨b, a1, s1, e1, h1⟩ := one_run hl ha (by omega) s (m := 24) (by omega)
    by_cases hb : b = true
    · refine ⟨[], a1, s1, fun K hK => ?_, goodT_nil, h1⟩
      obtain ⟨K, rfl⟩ : ∃ j, K = j + 1 := ⟨K - 1, by omega⟩
      rw [spec_l1Cur_poly.l0, if_neg (by omega), e1]; simp only [bs']
      rw [if_pos hb]
    · refine ⟨x, a1, s1, fun K hK => ?_, hg, h1⟩
      obtain ⟨K, rfl⟩ : ∃ j, K = j + 1 := ⟨K - 1, by omega⟩
      rw [spec_l1Cur_poly.l0, if_neg (by omega), e1]; simp only [bs']
      rw [if_neg hb]
  | succ d ih =>
    intro n k a s x hk hk2 hmany hd hn ha hg
    by_cases ck : k < many
    · obtain ⟨c, tx, ty, tz, a1, s1, e1, ht, h1⟩ := term_run hl ha (by omega) s hm
      have hx := (goodT_ok hg).1
      have hadd := hA x [(⟨c, tx, ty, tz⟩ : S62)] (by omega) (by simp) (good_sm hg) (fun t ht' => by rw [List.mem_singleton.1 ht']; exact tm_sm ht)
      by_cases hb : (resT (x ++ [(⟨c, tx, ty, tz⟩ : S62)])).2 = true
      · obtain ⟨x', a', s', ei, hi, hs⟩ := ih (n + 12) (k + 1) a1 s1 (resT (x ++ [(⟨c, tx, ty, tz⟩ : S62)])).1 (by omega) (by omega) hmany (by omega) (by omega) h1 (resT_good _ hb)
        refine ⟨x', a', s', fun K hK => ?_, hi, hs.1, by have := hs.2; omega⟩
        obtain ⟨K, rfl⟩ : ∃ j, K = j + 1 := ⟨K - 1, by omega⟩
        rw [spec_l1Cur_poly.l0, if_pos ck, e1 K (by omega)]; simp only [bs']
        rw [hadd K (by omega)]; simp only [bs']
        rw [if_pos hb, w64 (by omega) (by omega)]
        exact ei K (by omega)
      · obtain ⟨x', a', s', ei, hi, hs⟩ := ih (n + 12) (k + 1) a1 s1 x (by omega) (by omega) hmany (by omega) (by omega) h1 hg
        refine ⟨x', a', s', fun K hK => ?_, hi, hs.1, by have := hs.2; omega⟩
        obtain ⟨K, rfl⟩ : ∃ j, K = j + 1 := ⟨K - 1, by omega⟩
        rw [spec_l1Cur_poly.l0, if_pos ck, e1 K (by omega)]; simp only [bs']
        rw [hadd K (by omega)]; simp only [bs']
        rw [if_neg hb, w64 (by omega) (by omega)]
        exact ei K (by omega)
    · obtain ⟨x', a', s', ei, hi, hs⟩ := ih n k a s x hk hk2 hmany (by omega) (by omega) ha hg
      exact ⟨x', a', s', fun K hK => ei K (by omega), hi, hs.1, by have := hs.2; omega⟩
theorem poly_run {l : List Int} (hl : Bytes l) {n : Nat} {a : Int} (h : St n a) (hn : n ≤ 4000) (s : Int) {m : Int} (hm : m ≤ 4) : ∃ p a' s', (∃ k, ∀ K, k ≤ K → spec_l1Cur_poly.f K l a s m = some (p, a', s')) ∧ goodT p = true ∧ St (n + 400) a' := by
  obtain ⟨KA, hA⟩ := poAdd_run
  obtain ⟨r, a1, s1, e1, r0, r1, h1⟩ := pick_run hl h (by omega) s (m := 4) (by omega)
  obtain ⟨b, a2, s2, e2, h2⟩ := one_run hl h1 (by omega) s1 (m := 20) (by omega)
  have hw : wrap64 (1 + r) = 1 + r := w64 (by omega) (by omega)
  by_cases hb : b = true
  · obtain ⟨p, a', s', e3, hp, hs⟩ := poly_l0 hl hm KA hA 24 30 (n + 2) 0 a2 s2 [] (by omega) (by omega) (by omega) (by omega) (by omega) h2 goodT_nil
    refine ⟨p, a', s', ⟨KA + 50, fun K hK => ?_⟩, hp, hs.1, by have := hs.2; omega⟩
    unfold spec_l1Cur_poly.f
    rw [e1]; simp only [bs']
    rw [e2]; simp only [bs']
    obtain ⟨K, rfl⟩ : ∃ j, K = j + 1 := ⟨K - 1, by omega⟩
    rw [if_pos hb, spec_l1Cur_poly.j0]
    exact e3 K (by omega)
  · obtain ⟨p, a', s', e3, hp, hs⟩ := poly_l0 hl hm KA hA (1 + r) 30 (n + 2) 0 a2 s2 [] (by omega) (by omega) (by omega) (by omega) (by omega) h2 goodT_nil
    refine ⟨p, a', s', ⟨KA + 50, fun K hK => ?_⟩, hp, hs.1, by have := hs.2; omega⟩
    unfold spec_l1Cur_poly.f
    rw [e1]; simp only [bs']
    rw [e2]; simp only [bs']
    obtain ⟨K, rfl⟩ : ∃ j, K = j + 1 := ⟨K - 1, by omega⟩
    rw [if_neg hb, hw, spec_l1Cur_poly.j0]
    exact e3 K (by omega)
/-! ### any list of terms -/
theorem any_loops {l : List Int} (hl : Bytes l) : ∀ (m : Nat),
    (∀ (n : Nat) (x : List S62) (i a s : Int), 0 ≤ i → i ≤ 5 → (4 - i) * 50 + 101 ≤ m → n + m ≤ 5000 → St n a → x.length ≤ 21 → ∃ x' a' s', spec_l1Cur_anyPoly.l0 (m + 1) x i l a s = some (x', a', s') ∧ x'.length ≤ 21 ∧ St (n + m) a') ∧
    (∀ (n : Nat) (x : List S62) (i j a s : Int), 0 ≤ i → i ≤ 4 → 0 ≤ j → j ≤ 5 → (4 - i) * 50 + (4 - j) * 8 + 67 ≤ m → n + m ≤ 5000 → St n a → x.length ≤ 21 → ∃ x' a' s', spec_l1Cur_anyPoly.l1 (m + 1) x i j l a s = some (x', a', s') ∧ x'.length ≤ 21 ∧ St (n + m) a') ∧
    (∀ (n : Nat) (x : List S62) (i j k a s : Int), 0 ≤ i → i ≤ 4 → 0 ≤ j → j ≤ 4 → 0 ≤ k → k ≤ 5 → (4 - i) * 50 + (4 - j) * 8 + (5 - k) + 61 ≤ m → n + m ≤ 5000 → St n a → x.length ≤ 21 → ∃ x' a' s', spec_l1Cur_anyPoly.l2 (m + 1) x i j k l a s = some (x', a', s') ∧ x'.length ≤ 21 ∧ St (n + m) a') := by
  intro m
  induction m with
  | zero => exact ⟨fun n x i a s h1 h2 h3 => by omega, fun n x i j a s h1 h2 h3 h4 h5 => by omega, fun n x i j k a s h1 h2 h3 h4 h5 h6 h7 => by omega⟩
  | succ m ih =>
    obtain ⟨ih0, ih1, ih2⟩ := ih
    refine ⟨?_, ?_, ?_⟩
    · intro n x i a s h1 h2 h3 hn ha hx
      rw [spec_l1Cur_anyPoly.l0]
      by_cases c : i ≤ 4
      · rw [if_pos c]
        obtain ⟨x', a', s', e, h, hs⟩ := ih1 n x i 0 a s h1 c (by omega) (by omega) (by omega) (by omega) ha hx
        exact ⟨x', a', s', e, h, hs.1, by have := hs.2; omega⟩
      · rw [if_neg c]
        exact ⟨_, _, _, rfl, hx, ha.1, by have := ha.2; omega⟩
    · intro n x i j a s h1 h2 h3 h4 h5 hn ha hx
      rw [spec_l1Cur_anyPoly.l1, w64 (x := i + j) (by omega) (by omega)]
      by_cases c : i + j ≤ 4
      · rw [if_pos c]
        obtain ⟨x', a', s', e, h, hs⟩ := ih2 n x i j 0 a s h1 h2 h3 (by omega) (by omega) (by omega) (by omega) (by omega) ha hx
        exact ⟨x', a', s', e, h, hs.1, by have := hs.2; omega⟩
      · rw [if_neg c, w64 (x := i + 1) (by omega) (by omega)]
        obtain ⟨x', a', s', e, h, hs⟩ := ih0 n x (i + 1) a s (by omega) (by omega) (by omega) (by omega) ha hx
        exact ⟨x', a', s', e, h, hs.1, by have := hs.2; omega⟩
    · intro n x i j k a s h1 h2 h3 h4 h5 h6 h7 hn ha hx
      rw [spec_l1Cur_anyPoly.l2, w64 (x := i + j) (by omega) (by omega), w64 (x := i + j + k) (by omega) (by omega), w64 (x := j + 1) (by omega) (by omega), w64 (x := k + 1) (by omega) (by omega)]
      by_cases c : i + j + k ≤ 4
      · rw [if_pos c]
        obtain ⟨r, a1, s1, e1, r0, r1, hs1⟩ := pick_run hl ha (by omega) s (m := 2) (by omega)
        rw [e1]; simp only [bs']
        rw [w64 (x := 20 + r) (by omega) (by omega)]
        by_cases c2 : (x.length : Int) < 20 + r
        · rw [if_pos c2, if_pos (by omega)]
          obtain ⟨x', a', s', e, h, hs⟩ := ih2 (n + 1) (x ++ [(⟨1, i, j, k⟩ : S62)]) i j (k + 1) a1 s1 h1 h2 h3 h4 (by omega) (by omega) (by omega) (by omega) hs1 (by rw [List.length_append]; simp only [List.length_singleton]; omega)
          exact ⟨x', a', s', e, h, hs.1, by have := hs.2; omega⟩
        · rw [if_neg c2]
          obtain ⟨x', a', s', e, h, hs⟩ := ih1 (n + 1) x i (j + 1) a1 s1 h1 h2 (by omega) (by omega) (by omega) (by omega) hs1 hx
          exact ⟨x', a', s', e, h, hs.1, by have := hs.2; omega⟩
      · rw [if_neg c]
        obtain ⟨x', a', s', e, h, hs⟩ := ih1 n x i (j + 1) a s h1 h2 (by omega) (by omega) (by omega) (by omega) ha hx
        exact ⟨x', a', s', e, h, hs.1, by have := hs.2; omega⟩
theorem anyPoly_run {l : List Int} (hl : Bytes l) {n : Nat} {a : Int} (h : St n a) (hn : n ≤ 1500) (s : Int) {m : Int} (hm : m ≤ 4) : ∃ p a' s', (∃ k, ∀ K, k ≤ K → spec_l1Cur_anyPoly.f K l a s m = some (p, a', s')) ∧ p.length ≤ 50 ∧ St (n + 1000) a' := by
  obtain ⟨p, a1, s1, ⟨k1, e1⟩, hp, h1⟩ := poly_run hl h (by omega) s hm
  have hlen := (goodT_ok hp).1
  obtain ⟨r, a2, s2, e2, _, _, h2⟩ := pick_run hl h1 (by omega) s1 (m := 40) (by omega)
  have st : ∀ {q : Nat} {b : Int}, St q b → q ≤ n + 1000 → St (n + 1000) b := fun hq hle => ⟨hq.1, by have := hq.2; omega⟩
  by_cases c0 : r = 0
  · obtain ⟨c, a3, s3, e3, _, h3⟩ := among_run hl h2 (by omega) s2 [0, 1, 1001, (-1001)] (by simp) (by simp)
    refine ⟨p ++ [(⟨c, 4, 0, 0⟩ : S62)], a3, s3, ⟨k1, fun K hK => ?_⟩, ?_, st h3 (by omega)⟩
    · unfold spec_l1Cur_anyPoly.f
      rw [e1 K hK]; simp only [bs']
      rw [e2]; simp only [bs']
      rw [if_pos c0, e3]; simp only [bs']
      rw [if_pos (by omega)]
    · rw [List.length_append]; simp only [List.length_singleton]; omega
  · by_cases c1 : r = 1
    · obtain ⟨c, a3, s3, e3, _, h3⟩ := among_run hl h2 (by omega) s2 [5, (-1), 4611686018427387904] (by simp) (by simp)
      obtain ⟨c', a4, s4, e4, _, h4⟩ := among_run hl h3 (by omega) s3 [0, (-1), 4611686018427387904] (by simp) (by simp)
      refine ⟨p ++ [(⟨1, c, c', 0⟩ : S62)], a4, s4, ⟨k1, fun K hK => ?_⟩, ?_, st h4 (by omega)⟩
      · unfold spec_l1Cur_anyPoly.f
        rw [e1 K hK]; simp only [bs']
        rw [e2]; simp only [bs']
        rw [if_neg c0, if_pos c1, e3]; simp only [bs']
        rw [e4]; simp only [bs']
        rw [if_pos (by omega)]
      · rw [List.length_append]; simp only [List.length_singleton]; omega
    · by_cases c2 : r = 2
      · refine ⟨p ++ p, a2, s2, ⟨k1, fun K hK => ?_⟩, ?_, st h2 (by omega)⟩
        · unfold spec_l1Cur_anyPoly.f
          rw [e1 K hK]; simp only [bs']
          rw [e2]; simp only [bs']
          rw [if_neg c0, if_neg c1, if_pos c2, if_pos (by omega)]
        · rw [List.length_append]; omega
      · by_cases c3 : r = 3
        · obtain ⟨x', a', s', e3, hx, h3⟩ := (any_loops hl 400).1 (n + 401) [] 0 a2 s2 (by omega) (by omega) (by omega) (by omega) h2 (by simp)
          refine ⟨x', a', s', ⟨k1 + 500, fun K hK => ?_⟩, by omega, st h3 (by omega)⟩
          unfold spec_l1Cur_anyPoly.f
          rw [e1 K (by omega)]; simp only [bs']
          rw [e2]; simp only [bs']
          rw [if_neg c0, if_neg c1, if_neg c2, if_pos c3]
          exact up (g := fun k => spec_l1Cur_anyPoly.l0 k [] 0 l a2 s2) (fun k => (spec_l1Cur_anyPoly.mono_l k).1 _ _ _ _ _) e3 K (by omega)
        · refine ⟨p, a2, s2, ⟨k1, fun K hK => ?_⟩, ?_, st h2 (by omega)⟩
          · unfold spec_l1Cur_anyPoly.f
            rw [e1 K hK]; simp only [bs']
            rw [e2]; simp only [bs']
            rw [if_neg c0, if_neg c1, if_neg c2, if_neg c3]
          · omega
/-! ### systems -/
theorem system_l0 {l : List Int} (hl : Bytes l) {m : Int} (hm : m ≤ 4) : ∀ (d n : Nat) (x : List (List S62)) (a s : Int), m - (x.length : Int) ≤ d → n + d * 400 ≤ 4400 → St n a → (x.length : Int) ≤ m → (∀ y ∈ x, y.length ≤ 50) → ∃ x' a' s', (∃ k, ∀ K, k ≤ K → spec_l1Cur_system.l0 K m x l a s = some (x', a', s')) ∧ (x'.length : Int) = m ∧ (∀ y ∈ x', y.length ≤ 50) ∧ St (n + d * 400) a' := by
  intro d
  induction d with
  | zero =>
    intro n x a s hd hn ha hx hy
    refine ⟨x, a, s, ⟨1, fun K hK => ?_⟩, by omega, hy, ha.1, by have := ha.2; omega⟩
    obtain ⟨K, rfl⟩ : ∃ j, K = j + 1 := ⟨K - 1, by omega⟩
    rw [spec_l1Cur_system.l0, if_neg (by omega)]
  | succ d ih =>
    intro n x a s hd hn ha hx hy
    by_cases c : (x.length : Int) < m
    · obtain ⟨p, a1, s1, ⟨k1, e1⟩, hp, h1⟩ := poly_run hl ha (by omega) s (m := m) (by omega)
      have hpl := (goodT_ok hp).1
      obtain ⟨x', a', s', ⟨k2, e2⟩, i1, i2, hs⟩ := ih (n + 400) (x ++ [p]) a1 s1 (by rw [List.length_append]; simp only [List.length_singleton]; omega) (by omega) h1 (by rw [List.length_append]; simp only [List.length_singleton]; omega) (fun y hm => by
        rcases List.mem_append.1 hm with hm | hm
        · exact hy y hm
        · rw [List.mem_singleton.1 hm]; omega)
      refine ⟨x', a', s', ⟨k1 + k2 + 1, fun K hK => ?_⟩, i1, i2, hs.1, by have := hs.2; omega⟩
      obtain ⟨K, rfl⟩ : ∃ j, K = j + 1 := ⟨K - 1, by omega⟩
      rw [spec_l1Cur_system.l0, if_pos c, e1 K (by omega)]; simp only [bs']
      rw [if_pos (by omega)]
      exact e2 K (by omega)
    · refine ⟨x, a, s, ⟨1, fun K hK => ?_⟩, by omega, hy, ha.1, by have := ha.2; omega⟩
      obtain ⟨K, rfl⟩ : ∃ j, K = j + 1 := ⟨K - 1, by omega⟩
      rw [spec_l1Cur_system.l0, if_neg c]
theorem drawSys {l : List Int} (hl : Bytes l) : ∃ s : List (List S62), (∃ k, ∀ K, k ≤ K → spec_DrawIsSystem.f K l = some s) ∧ s.length ≤ 4 ∧ ∀ y ∈ s, y.length ≤ 50 := by
  obtain ⟨m, a1, s1, e1, hm, h1⟩ := among_run hl (n := 0) (a := 0) ⟨by omega, by omega⟩ (by omega) 0 [1, 2, 2, 2, 3] (by simp) (by simp)
  have hm3 : 1 ≤ m ∧ m ≤ 3 := by
    have : m = 1 ∨ m = 2 ∨ m = 3 := by simpa using hm
    omega
  obtain ⟨x, a2, s2, ⟨k2, e2⟩, x1, x2, h2⟩ := system_l0 hl (m := m) (by omega) 3 1 [] a1 s1 (by simp only [List.length_nil]; omega) (by omega) h1 (by simp only [List.length_nil]; omega) (fun y hy => by cases hy)
  obtain ⟨r, a3, s3, e3, r0, r1, h3⟩ := pick_run hl h2 (by omega) s2 (m := 30) (by omega)
  by_cases c0 : r = 0
  · obtain ⟨i, a4, s4, e4, i0, i1, h4⟩ := pick_run hl h3 (by omega) s3 (m := m) (by omega)
    obtain ⟨p, a5, s5, ⟨k5, e5⟩, hp, h5⟩ := anyPoly_run hl h4 (by omega) s4 (m := 3) (by omega)
    refine ⟨x.set i.toNat p, ⟨k2 + k5, fun K hK => ?_⟩, by rw [List.length_set]; omega, fun y hy => ?_⟩
    · unfold spec_DrawIsSystem.f spec_l1Cur_anySystem.f spec_l1Cur_system.f
      rw [e1]; simp only [bs']
      rw [e2 K (by omega)]; simp only [bs']
      rw [e3]; simp only [bs']
      rw [if_pos c0, e4]; simp only [bs']
      rw [e5 K (by omega)]; simp only [bs']
      rw [if_pos i0, if_pos (by omega)]; simp only [bs']
    · rcases List.mem_or_eq_of_mem_set hy with hy | hy
      · exact x2 y hy
      · rw [hy]; exact hp
  · by_cases c1 : r = 1
    · refine ⟨[], ⟨k2, fun K hK => ?_⟩, by simp, fun y hy => by cases hy⟩
      unfold spec_DrawIsSystem.f spec_l1Cur_anySystem.f spec_l1Cur_system.f
      rw [e1]; simp only [bs']
      rw [e2 K (by omega)]; simp only [bs']
      rw [e3]; simp only [bs']
      rw [if_neg c0, if_pos c1]; simp only [bs']
    · by_cases c2 : r = 2
      · obtain ⟨x', a4, s4, ⟨k4, e4⟩, y1, y2, h4⟩ := system_l0 hl (m := 4) (by omega) 4 (1 + 3 * 400 + 1) [] a3 s3 (by simp only [List.length_nil]; omega) (by omega) h3 (by simp only [List.length_nil]; omega) (fun y hy => by cases hy)
        refine ⟨x', ⟨k2 + k4, fun K hK => ?_⟩, by omega, y2⟩
        unfold spec_DrawIsSystem.f spec_l1Cur_anySystem.f spec_l1Cur_system.f
        rw [e1]; simp only [bs']
        rw [e2 K (by omega)]; simp only [bs']
        rw [e3]; simp only [bs']
        rw [if_neg c0, if_neg c1, if_pos c2, e4 K (by omega)]; simp only [bs']
      · refine ⟨x, ⟨k2, fun K hK => ?_⟩, by omega, x2⟩
        unfold spec_DrawIsSystem.f spec_l1Cur_anySystem.f spec_l1Cur_system.f
        rw [e1]; simp only [bs']
        rw [e2 K (by omega)]; simp only [bs']
        rw [e3]; simp only [bs']
        rw [if_neg c0, if_neg c1, if_neg c2]; simp only [bs']
/-! ### the other draws -/
theorem st0 : St 0 0 := ⟨by omega, by omega⟩
theorem drawOf {l : List Int} (hl : Bytes l) : ∃ p : List S62, (∃ k, ∀ K, k ≤ K → spec_DrawDegreeOf.f K l = some p) ∧ p.length ≤ 50 := by
  obtain ⟨r, a1, s1, e1, r0, r1, h1⟩ := pick_run hl st0 (by omega) 0 (m := 3) (by omega)
  have hw : wrap64 (1 + r) = 1 + r := w64 (by omega) (by omega)
  obtain ⟨p, a2, s2, ⟨k2, e2⟩, hp, h2⟩ := anyPoly_run hl h1 (by omega) s1 (m := 1 + r) (by omega)
  refine ⟨p, ⟨k2, fun K hK => ?_⟩, hp⟩
  unfold spec_DrawDegreeOf.f spec_DrawIsPoly.f
  rw [e1]; simp only [bs']
  rw [hw, e2 K (by omega)]; simp only [bs']
theorem drawIn {l : List Int} (hl : Bytes l) : ∃ (p : List S62) (u : Int), (∃ k, ∀ K, k ≤ K → spec_DrawDegreeIn.f K l = some (p, u)) ∧ p.length ≤ 50 := by
  obtain ⟨r, a1, s1, e1, r0, r1, h1⟩ := pick_run hl st0 (by omega) 0 (m := 3) (by omega)
  have hw : wrap64 (1 + r) = 1 + r := w64 (by omega) (by omega)
  obtain ⟨p, a2, s2, ⟨k2, e2⟩, hp, h2⟩ := anyPoly_run hl h1 (by omega) s1 (m := 1 + r) (by omega)
  obtain ⟨u, a3, s3, e3, h3⟩ := unknownOf_run hl (n := 1001) (a := a2) ⟨h2.1, by have := h2.2; omega⟩ (by omega) s2
  refine ⟨p, u, ⟨k2, fun K hK => ?_⟩, hp⟩
  unfold spec_DrawDegreeIn.f spec_DrawDerivePoly.f
  rw [e1]; simp only [bs']
  rw [hw, e2 K (by omega)]; simp only [bs']
  rw [e3]; simp only [bs']
theorem drawPut {l : List Int} (hl : Bytes l) : ∃ (p : List S62) (u n : Int), (∃ k, ∀ K, k ≤ K → spec_DrawPutInteger.f K l = some (p, u, n)) ∧ p.length ≤ 50 := by
  obtain ⟨r, a1, s1, e1, r0, r1, h1⟩ := pick_run hl st0 (by omega) 0 (m := 3) (by omega)
  have hw : wrap64 (1 + r) = 1 + r := w64 (by omega) (by omega)
  obtain ⟨p, a2, s2, ⟨k2, e2⟩, hp, h2⟩ := anyPoly_run hl h1 (by omega) s1 (m := 1 + r) (by omega)
  obtain ⟨u, a3, s3, e3, h3⟩ := unknownOf_run hl (n := 1001) (a := a2) ⟨h2.1, by have := h2.2; omega⟩ (by omega) s2
  obtain ⟨c, a4, s4, e4, _, h4⟩ := among_run hl h3 (by omega) s3 [101, (-101)] (by simp) (by simp)
  obtain ⟨n, a5, s5, e5, _, h5⟩ := among_run hl h4 (by omega) s4 [0, 1, (-1), 2, 3, (-5), 100, (-100), c] (by simp) (by simp)
  refine ⟨p, u, n, ⟨k2, fun K hK => ?_⟩, hp⟩
  unfold spec_DrawPutInteger.f
  rw [e1]; simp only [bs']
  rw [hw, e2 K (by omega)]; simp only [bs']
  rw [e3]; simp only [bs']
  rw [e4]; simp only [bs']
  rw [e5]; simp only [bs']
theorem drawEx {l : List Int} (hl : Bytes l) : ∃ (p : List S62) (o : List Int), (∃ k, ∀ K, k ≤ K → spec_DrawExchangeUnknowns.f K l = some (p, o)) ∧ p.length ≤ 50 ∧ o.length ≤ 3 := by
  obtain ⟨r, a1, s1, e1, r0, r1, h1⟩ := pick_run hl st0 (by omega) 0 (m := 3) (by omega)
  have hw : wrap64 (1 + r) = 1 + r := w64 (by omega) (by omega)
  obtain ⟨p, a2, s2, ⟨k2, e2⟩, hp, h2⟩ := anyPoly_run hl h1 (by omega) s1 (m := 1 + r) (by omega)
  obtain ⟨b, a3, s3, e3, h3⟩ := one_run hl h2 (by omega) s2 (m := 16) (by omega)
  by_cases hb : b = true
  · obtain ⟨i, a4, s4, e4, i0, i1, h4⟩ := pick_run hl h3 (by omega) s3 (m := 4) (by omega)
    refine ⟨p, spec_DrawExchangeUnknowns.sel4 i, ⟨k2, fun K hK => ?_⟩, hp, ?_⟩
    · unfold spec_DrawExchangeUnknowns.f
      rw [e1]; simp only [bs']
      rw [hw, e2 K (by omega)]; simp only [bs']
      rw [e3]; simp only [bs']
      rw [if_pos hb, e4]; simp only [bs']
      rw [if_pos (by omega)]
    · unfold spec_DrawExchangeUnknowns.sel4
      repeat' split
      all_goals decide
  · obtain ⟨i, a4, s4, e4, i0, i1, h4⟩ := pick_run hl h3 (by omega) s3 (m := 6) (by omega)
    refine ⟨p, spec_DrawExchangeUnknowns.sel6 i, ⟨k2, fun K hK => ?_⟩, hp, ?_⟩
    · unfold spec_DrawExchangeUnknowns.f
      rw [e1]; simp only [bs']
      rw [hw, e2 K (by omega)]; simp only [bs']
      rw [e3]; simp only [bs']
      rw [if_neg hb, e4]; simp only [bs']
      rw [if_pos (by omega)]
    · unfold spec_DrawExchangeUnknowns.sel6
      repeat' split
      all_goals decide
end Go.Proofs.YthanmlojikidbaaGreat.Pure
