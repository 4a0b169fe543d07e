import Derived.Sort.LotA
/- The plain half of slices.SortStableFunc: ranges exchanged, two neighbours rotated, two sorted neighbours merged (SymMerge), blocks merged: what comes out is a sorted permutation.
   Conditions: the comparison is a strict weak order; all places lie inside the array. -/
namespace Go.Proofs.YthanmlojikidbaaGreatSta
open Go.Sort
variable {α : Type} [Inhabited α] {lt : α → α → Bool}
/-! ### exchanging two ranges -/
def swr (d : Array α) (a b : Nat) : Nat → Array α
  | 0 => d
  | n + 1 => swp (swr d a b n) (a + n) (b + n)
theorem swr_size (d : Array α) (a b : Nat) : ∀ n, (swr d a b n).size = d.size
  | 0 => rfl
  | n + 1 => by rw [swr, swp_size, swr_size]
theorem swr_get (d : Array α) (a b : Nat) : ∀ n, a + n ≤ b → b + n ≤ d.size → ∀ k, (swr d a b n)[k]! = if a ≤ k ∧ k < a + n then d[k - a + b]! else if b ≤ k ∧ k < b + n then d[k - b + a]! else d[k]!
  | 0, _, _, k => by
    rw [if_neg (by omega), if_neg (by omega)]; rfl
  | n + 1, h1, h2, k => by
    have ih := swr_get d a b n (by omega) (by omega)
    rw [swr, swp_get _ (by rw [swr_size]; omega) (by rw [swr_size]; omega)]
    by_cases e1 : k = b + n
    · subst e1
      rw [if_pos rfl, ih, if_neg (by omega), if_neg (by omega), if_neg (by omega), if_pos (by omega), show b + n - b + a = a + n by omega]
    · rw [if_neg e1]
      by_cases e2 : k = a + n
      · subst e2
        rw [if_pos rfl, ih, if_neg (by omega), if_neg (by omega), if_pos (by omega), show a + n - a + b = b + n by omega]
      · rw [if_neg e2, ih]
        by_cases c1 : a ≤ k ∧ k < a + n
        · rw [if_pos c1, if_pos (by omega)]
        · rw [if_neg c1, if_neg (show ¬ (a ≤ k ∧ k < a + (n + 1)) by omega)]
          by_cases c2 : b ≤ k ∧ k < b + n
          · rw [if_pos c2, if_pos (by omega)]
          · rw [if_neg c2, if_neg (by omega)]
theorem swr_perm (d : Array α) (a b lo hi : Nat) (h0 : lo ≤ a) (hh : hi ≤ d.size) : ∀ n, a + n ≤ b → b + n ≤ hi → PermIn lo hi d (swr d a b n)
  | 0, _, _ => permIn_refl _ _ _
  | n + 1, h1, h2 => permIn_trans _ _ _ _ _ (swr_perm d a b lo hi h0 hh n (by omega) (by omega)) (swp_permIn _ _ _ _ _ (by omega) (by omega) (by omega) (by omega) (by rw [swr_size]; exact hh))
/-! ### rotating two neighbours -/
structure Rot (d : Array α) (a m b : Nat) (d' : Array α) : Prop where
  perm : PermIn a b d d'
  lo : ∀ t, t < b - m → d'[a + t]! = d[m + t]!
  hi : ∀ t, t < m - a → d'[a + (b - m) + t]! = d[a + t]!
theorem Rot.eqv (d : Array α) (m i : Nat) (hi : i ≤ m) (hb : m + i ≤ d.size) : Rot d (m - i) m (m + i) (swr d (m - i) m i) := by
  have g := swr_get d (m - i) m i (by omega) (by omega)
  refine ⟨swr_perm d _ _ _ _ (Nat.le_refl _) hb i (by omega) (Nat.le_refl _), fun t ht => ?_, fun t ht => ?_⟩
  · rw [g, if_pos (by omega), show m - i + t - (m - i) + m = m + t by omega]
  · rw [g, if_neg (by omega), if_pos (by omega), show m - i + (m + i - m) + t - m + (m - i) = m - i + t by omega]
theorem Rot.gt {d d' : Array α} {m i j : Nat} (hi : i ≤ m) (hb : m + j ≤ d.size) (hij : j < i) (h : Rot (swr d (m - i) m j) (m - (i - j)) m (m + j) d') : Rot d (m - i) m (m + j) d' := by
  have g := swr_get d (m - i) m j (by omega) (by omega)
  have hp := swr_perm d (m - i) m (m - i) (m + j) (Nat.le_refl _) hb j (by omega) (Nat.le_refl _)
  refine ⟨permIn_trans _ _ _ _ _ hp (permIn_mono _ _ _ _ _ _ (show m - i ≤ m - (i - j) by omega) (Nat.le_refl _) (by rw [swr_size]; exact hb) h.perm), fun t ht => ?_, fun t ht => ?_⟩
  · rw [h.perm.2.1 _ (Or.inl (by omega)), g, if_pos (by omega), show m - i + t - (m - i) + m = m + t by omega]
  · by_cases c : t < j
    · have := h.lo t (by omega)
      rw [show m - i + (m + j - m) + t = m - (i - j) + t by omega, this, g, if_neg (by omega), if_pos (by omega), show m + t - m + (m - i) = m - i + t by omega]
    · have := h.hi (t - j) (by omega)
      rw [show m - i + (m + j - m) + t = m - (i - j) + (m + j - m) + (t - j) by omega, this, g, if_neg (by omega), if_neg (by omega), show m - (i - j) + (t - j) = m - i + t by omega]
theorem Rot.less {d d' : Array α} {m i j : Nat} (hi : i ≤ m) (hb : m + j ≤ d.size) (hij : i < j) (h : Rot (swr d (m - i) (m + j - i) i) (m - i) m (m + (j - i)) d') : Rot d (m - i) m (m + j) d' := by
  have g := swr_get d (m - i) (m + j - i) i (by omega) (by omega)
  have hp := swr_perm d (m - i) (m + j - i) (m - i) (m + j) (Nat.le_refl _) hb i (by omega) (by omega)
  refine ⟨permIn_trans _ _ _ _ _ hp (permIn_mono _ _ _ _ _ _ (Nat.le_refl _) (show m + (j - i) ≤ m + j by omega) (by rw [swr_size]; exact hb) h.perm), fun t ht => ?_, fun t ht => ?_⟩
  · by_cases c : t < j - i
    · have := h.lo t (by omega)
      rw [this, g, if_neg (by omega), if_neg (by omega)]
    · have := h.hi (t - (j - i)) (by omega)
      rw [show m - i + t = m - i + (m + (j - i) - m) + (t - (j - i)) by omega, this, g, if_pos (by omega), show m - i + (t - (j - i)) - (m - i) + (m + j - i) = m + t by omega]
  · rw [h.perm.2.1 _ (Or.inr (by omega)), g, if_neg (by omega), if_pos (by omega), show m - i + (m + j - m) + t - (m + j - i) + (m - i) = m - i + t by omega]
theorem Rot.none (d : Array α) (a m b : Nat) (h : a = m ∨ m = b) (hab : a ≤ m) (hmb : m ≤ b) : Rot d a m b d := by
  refine ⟨permIn_refl _ _ _, fun t ht => ?_, fun t ht => ?_⟩
  · rcases h with rfl | rfl
    · rfl
    · omega
  · rcases h with rfl | rfl
    · omega
    · rw [show a + (m - m) + t = a + t by omega]
/-! ### merging -/
theorem sorted_empty (d : Array α) {a b : Nat} (h : b ≤ a + 1) : SortedIn lt a b d := fun i j h1 h2 h3 => by omega
theorem sorted_le (hS : SWO lt) {d : Array α} {a b : Nat} (h : SortedIn lt a b d) (i j : Nat) (h1 : a ≤ i) (h2 : i ≤ j) (h3 : j < b) : lt d[j]! d[i]! = false := by
  by_cases e : i = j
  · subst e; exact hS.irrefl _
  · exact h i j h1 (by omega) h3
/-- What the search of symMerge has found. -/
structure SFound (lt : α → α → Bool) (d : Array α) (a m b start : Nat) : Prop where
  left : a ≤ start
  leM : start ≤ m
  leMid : start ≤ (a + b) / 2
  leEnd : (a + b) / 2 + m - start ≤ b
  ge : start = (if (a + b) / 2 < m then (a + b) / 2 + m - b else a) ∨ lt d[(a + b) / 2 + m - 1 - (start - 1)]! d[start - 1]! = false ∧ a < start ∧ (a + b) / 2 + m - b < start
  lt : start = (if (a + b) / 2 < m then (a + b) / 2 else m) ∨ lt d[(a + b) / 2 + m - 1 - start]! d[start]! = true
theorem found_of {d : Array α} {a m b start : Nat} (ham : a < m) (hmb : m < b)
    (h0 : (if (a + b) / 2 < m then (a + b) / 2 + m - b else a) ≤ start) (h1 : start ≤ (if (a + b) / 2 < m then (a + b) / 2 else m))
    (hg : start = (if (a + b) / 2 < m then (a + b) / 2 + m - b else a) ∨ lt d[(a + b) / 2 + m - 1 - (start - 1)]! d[start - 1]! = false)
    (hl : start = (if (a + b) / 2 < m then (a + b) / 2 else m) ∨ lt d[(a + b) / 2 + m - 1 - start]! d[start]! = true) : SFound lt d a m b start := by
  refine ⟨?_, ?_, ?_, ?_, ?_, hl⟩
  · split at h0 <;> omega
  · split at h1 <;> omega
  · split at h1 <;> omega
  · split at h0 <;> omega
  · rcases hg with hg | hg
    · exact Or.inl hg
    · by_cases e : start = (if (a + b) / 2 < m then (a + b) / 2 + m - b else a)
      · exact Or.inl e
      · exact Or.inr ⟨hg, by split at h0 <;> split at e <;> omega, by split at h0 <;> split at e <;> omega⟩
theorem merge_cross {d d1 : Array α} {a m b s : Nat} (ham : a < m) (hmb : m < b) (hl : SortedIn lt a m d) (hr : SortedIn lt m b d) (F : SFound lt d a m b s) (hR : Rot d s m ((a + b) / 2 + m - s) d1) (hS : SWO lt) (x y : Nat) (hx : a ≤ x) (hx' : x < (a + b) / 2) (hy : (a + b) / 2 ≤ y) (hy' : y < b) : lt d1[y]! d1[x]! = false := by
  have h1 := F.left; have h2 := F.leM; have h3 := F.leMid; have h4 := F.leEnd
  -- where y comes from
  have Y : (∃ p, s ≤ p ∧ p < m ∧ d1[y]! = d[p]!) ∨ ((a + b) / 2 + m - s ≤ y ∧ d1[y]! = d[y]!) := by
    by_cases c : y < (a + b) / 2 + m - s
    · have := hR.hi (y - (a + b) / 2) (by omega)
      rw [show s + ((a + b) / 2 + m - s - m) + (y - (a + b) / 2) = y by omega] at this
      exact Or.inl ⟨s + (y - (a + b) / 2), by omega, by omega, this⟩
    · exact Or.inr ⟨by omega, hR.perm.2.1 _ (Or.inr (by omega))⟩
  have X : (∃ p, m ≤ p ∧ p < (a + b) / 2 + m - s ∧ d1[x]! = d[p]!) ∨ (x < s ∧ d1[x]! = d[x]!) := by
    by_cases c : s ≤ x
    · have := hR.lo (x - s) (by omega)
      rw [show s + (x - s) = x by omega] at this
      exact Or.inl ⟨m + (x - s), by omega, by omega, this⟩
    · exact Or.inr ⟨by omega, hR.perm.2.1 _ (Or.inl (by omega))⟩
  rcases Y with ⟨p, p1, p2, ep⟩ | ⟨y1, ey⟩
  · rcases X with ⟨q, q1, q2, eq⟩ | ⟨x1, ex⟩
    · rw [ep, eq]
      -- an element of the right part against one of the left part
      have hk : lt d[(a + b) / 2 + m - 1 - s]! d[s]! = true := by
        rcases F.lt with h | h
        · split at h <;> omega
        · exact h
      have e1 := hS.asymmA hk
      have e2 : lt d[p]! d[s]! = false := sorted_le hS hl s p h1 p1 p2
      have e3 : lt d[(a + b) / 2 + m - 1 - s]! d[q]! = false := sorted_le hS hr q _ q1 (by omega) (by omega)
      -- d[q] ≤ d[end-1] < d[s] ≤ d[p]
      exact hS.ntrans _ _ _ e2 (hS.ntrans _ _ _ e1 e3)
    · rw [ep, ex]; exact sorted_le hS hl x p hx (by omega) p2
  · rcases X with ⟨q, q1, q2, eq⟩ | ⟨x1, ex⟩
    · rw [ey, eq]; exact sorted_le hS hr q y q1 (by omega) hy'
    · rw [ey, ex]
      rcases F.ge with h | ⟨h, g1, g2⟩
      · split at h <;> omega
      · rw [show (a + b) / 2 + m - 1 - (s - 1) = (a + b) / 2 + m - s by omega] at h
        have e1 : lt d[y]! d[(a + b) / 2 + m - s]! = false := sorted_le hS hr _ y (by omega) y1 hy'
        have e2 : lt d[s - 1]! d[x]! = false := sorted_le hS hl x (s - 1) hx (by omega) (by omega)
        exact hS.ntrans _ _ _ e1 (hS.ntrans _ _ _ h e2)
theorem merge_l1 {d d1 : Array α} {a m b s : Nat} (hl : SortedIn lt a m d) (F : SFound lt d a m b s) (hR : Rot d s m ((a + b) / 2 + m - s) d1) : SortedIn lt a s d1 := fun i j h1 h2 h3 => by
  have := F.leM
  rw [hR.perm.2.1 _ (Or.inl h3), hR.perm.2.1 _ (Or.inl (show i < s by omega))]
  exact hl i j h1 h2 (by omega)
theorem merge_l2 {d d1 : Array α} {a m b s : Nat} (hr : SortedIn lt m b d) (F : SFound lt d a m b s) (hR : Rot d s m ((a + b) / 2 + m - s) d1) : SortedIn lt s ((a + b) / 2) d1 := fun i j h1 h2 h3 => by
  have := F.leM; have := F.leEnd; have := F.leMid
  have ei := hR.lo (i - s) (by omega)
  have ej := hR.lo (j - s) (by omega)
  rw [show s + (i - s) = i by omega] at ei
  rw [show s + (j - s) = j by omega] at ej
  rw [ei, ej]
  exact hr _ _ (by omega) (by omega) (by omega)
theorem merge_r1 {d d1 : Array α} {a m b s : Nat} (ham : a < m) (hl : SortedIn lt a m d) (F : SFound lt d a m b s) (hR : Rot d s m ((a + b) / 2 + m - s) d1) : SortedIn lt ((a + b) / 2) ((a + b) / 2 + m - s) d1 := fun i j h1 h2 h3 => by
  have := F.leM; have := F.leEnd; have := F.leMid; have := F.left
  have ei := hR.hi (i - (a + b) / 2) (by omega)
  have ej := hR.hi (j - (a + b) / 2) (by omega)
  rw [show s + ((a + b) / 2 + m - s - m) + (i - (a + b) / 2) = i by omega] at ei
  rw [show s + ((a + b) / 2 + m - s - m) + (j - (a + b) / 2) = j by omega] at ej
  rw [ei, ej]
  exact hl _ _ (by omega) (by omega) (by omega)
theorem merge_r2 {d d1 : Array α} {a m b s : Nat} (hr : SortedIn lt m b d) (F : SFound lt d a m b s) (hR : Rot d s m ((a + b) / 2 + m - s) d1) : SortedIn lt ((a + b) / 2 + m - s) b d1 := fun i j h1 h2 h3 => by
  have := F.leM; have := F.leEnd; have := F.leMid
  rw [hR.perm.2.1 _ (Or.inr (show _ ≤ j by omega)), hR.perm.2.1 _ (Or.inr h1)]
  exact hr i j (by omega) h2 h3
theorem merge_perm {d d1 : Array α} {a m b s : Nat} (F : SFound lt d a m b s) (hR : Rot d s m ((a + b) / 2 + m - s) d1) (hb : b ≤ d.size) : PermIn a b d d1 := permIn_mono _ _ _ _ _ _ F.left F.leEnd hb hR.perm
theorem merge_join {d d1 : Array α} {a m b s : Nat} (ham : a < m) (hmb : m < b) (hl : SortedIn lt a m d) (hr : SortedIn lt m b d) (F : SFound lt d a m b s) (hR : Rot d s m ((a + b) / 2 + m - s) d1) (hS : SWO lt) (hb : b ≤ d.size) {d2 d3 : Array α} (p2 : PermIn a ((a + b) / 2) d1 d2) (s2 : SortedIn lt a ((a + b) / 2) d2) (p3 : PermIn ((a + b) / 2) b d2 d3) (s3 : SortedIn lt ((a + b) / 2) b d3) :
    PermIn a b d d3 ∧ SortedIn lt a b d3 := by
  have hm : PermIn a b d d1 := merge_perm F hR hb
  have z1 : d1.size = d.size := hm.1
  have z2 : d2.size = d.size := p2.1.trans z1
  have cross := merge_cross ham hmb hl hr F hR hS
  refine ⟨permIn_trans _ _ _ _ _ hm (permIn_trans _ _ _ _ _ (permIn_mono _ _ _ _ _ _ (Nat.le_refl _) (show (a + b) / 2 ≤ b by omega) (by omega) p2) (permIn_mono _ _ _ _ _ _ (show a ≤ (a + b) / 2 by omega) (Nat.le_refl _) (by omega) p3)), ?_⟩
  intro i j h1 h2 h3
  by_cases cj : j < (a + b) / 2
  · rw [p3.2.1 _ (Or.inl cj), p3.2.1 _ (Or.inl (show i < (a + b) / 2 by omega))]
    exact s2 i j h1 h2 cj
  · by_cases ci : (a + b) / 2 ≤ i
    · exact s3 i j ci h2 h3
    · rw [p3.2.1 _ (Or.inl (show i < (a + b) / 2 by omega))]
      refine permIn_all d2 d3 _ _ (fun y => lt y d2[i]! = false) (by omega) p3 ?_ j (by omega) h3
      intro y y1 y2
      rw [p2.2.1 _ (Or.inr y1)]
      refine permIn_all d1 d2 _ _ (fun x => lt d1[y]! x = false) (by omega) p2 ?_ i h1 (by omega)
      intro x x1 x2
      exact cross x y x1 x2 y1 y2
/-! ### one element put into its place -/
/-- data[a] moved up to behind k - a others. -/
structure Up (d : Array α) (a b k : Nat) (dk : Array α) : Prop where
  perm : PermIn a b d dk
  low : ∀ t, a ≤ t → t < k → dk[t]! = d[t + 1]!
  at_ : dk[k]! = d[a]!
  rest : ∀ t, k < t → dk[t]! = d[t]!
theorem Up.start (d : Array α) (a b : Nat) : Up d a b a d := ⟨permIn_refl _ _ _, fun t h1 h2 => by omega, rfl, fun _ _ => rfl⟩
theorem Up.step {d dk : Array α} {a b k : Nat} (h : Up d a b k dk) (hak : a ≤ k) (hk : k + 1 < b) (hb : b ≤ d.size) : Up d a b (k + 1) (swp dk k (k + 1)) := by
  have hz : dk.size = d.size := h.perm.1
  have g := swp_get dk (show k < dk.size by omega) (show k + 1 < dk.size by omega)
  refine ⟨permIn_trans _ _ _ _ _ h.perm (swp_permIn _ _ _ _ _ hak (by omega) (by omega) hk (by omega)), fun t h1 h2 => ?_, ?_, fun t h1 => ?_⟩
  · by_cases e : t = k
    · subst e; rw [g, if_neg (by omega), if_pos rfl]; exact h.rest _ (by omega)
    · rw [g, if_neg (by omega), if_neg e]; exact h.low t h1 (by omega)
  · rw [g, if_pos rfl]; exact h.at_
  · rw [g, if_neg (by omega), if_neg (by omega)]; exact h.rest t (by omega)
theorem Up.done (hS : SWO lt) {d dk : Array α} {a b i : Nat} (hi0 : a + 1 ≤ i) (hib : i ≤ b) (h : Up d a b (i - 1) dk) (hs : SortedIn lt (a + 1) b d)
    (hl : i = a + 1 ∨ lt d[i - 1]! d[a]! = true) (hr : i = b ∨ lt d[i]! d[a]! = false) : PermIn a b d dk ∧ SortedIn lt a b dk := by
  refine ⟨h.perm, fun p q h1 h2 h3 => ?_⟩
  by_cases cq : q < i - 1
  · rw [h.low q (by omega) cq, h.low p h1 (by omega)]
    exact hs _ _ (by omega) (by omega) (by omega)
  · by_cases eq : q = i - 1
    · subst eq
      rw [h.at_, h.low p h1 h2]
      rcases hl with hl | hl
      · omega
      · have e1 := hS.asymmA hl
        have e2 : lt d[i - 1]! d[p + 1]! = false := sorted_le hS hs (p + 1) (i - 1) (by omega) (by omega) (by omega)
        exact hS.ntrans _ _ _ e1 e2
    · rw [h.rest q (by omega)]
      have hr' : lt d[i]! d[a]! = false := by
        rcases hr with hr | hr
        · omega
        · exact hr
      by_cases cp : p < i - 1
      · rw [h.low p h1 cp]; exact hs _ _ (by omega) (by omega) h3
      · by_cases ep : p = i - 1
        · subst ep
          rw [h.at_]
          exact hS.ntrans _ _ _ (sorted_le hS hs i q (by omega) (by omega) h3) hr'
        · rw [h.rest p (by omega)]; exact hs _ _ (by omega) h2 h3
/-- data[m] moved down to k. -/
structure Dn (d : Array α) (a m k : Nat) (dk : Array α) : Prop where
  perm : PermIn a (m + 1) d dk
  high : ∀ t, k < t → t ≤ m → dk[t]! = d[t - 1]!
  at_ : dk[k]! = d[m]!
  rest : ∀ t, t < k → dk[t]! = d[t]!
theorem Dn.start (d : Array α) (a m : Nat) : Dn d a m m d := ⟨permIn_refl _ _ _, fun t h1 h2 => by omega, rfl, fun _ _ => rfl⟩
theorem Dn.step {d dk : Array α} {a m k : Nat} (h : Dn d a m (k + 1) dk) (hak : a ≤ k) (hk : k + 1 ≤ m) (hb : m < d.size) : Dn d a m k (swp dk (k + 1) k) := by
  have hz : dk.size = d.size := h.perm.1
  have g := swp_get dk (show k + 1 < dk.size by omega) (show k < dk.size by omega)
  refine ⟨permIn_trans _ _ _ _ _ h.perm (swp_permIn _ _ _ _ _ (by omega) (by omega) hak (by omega) (by omega)), fun t h1 h2 => ?_, ?_, fun t h1 => ?_⟩
  · by_cases e : t = k + 1
    · subst e; rw [g, if_neg (by omega), if_pos rfl]; exact h.rest _ (by omega)
    · rw [g, if_neg (by omega), if_neg e]; exact h.high t (by omega) h2
  · rw [g, if_pos rfl]; exact h.at_
  · rw [g, if_neg (by omega), if_neg (by omega)]; exact h.rest t (by omega)
theorem Dn.done (hS : SWO lt) {d dk : Array α} {a m i : Nat} (hi0 : a ≤ i) (him : i ≤ m) (h : Dn d a m i dk) (hs : SortedIn lt a m d)
    (hl : i = a ∨ lt d[m]! d[i - 1]! = false) (hr : i = m ∨ lt d[m]! d[i]! = true) : PermIn a (m + 1) d dk ∧ SortedIn lt a (m + 1) dk := by
  refine ⟨h.perm, fun p q h1 h2 h3 => ?_⟩
  by_cases cp : i < p
  · rw [h.high q (by omega) (by omega), h.high p cp (by omega)]
    exact hs _ _ (by omega) (by omega) (by omega)
  · by_cases ep : p = i
    · subst ep
      rw [h.at_, h.high q h2 (by omega)]
      rcases hr with hr | hr
      · omega
      · have e1 := hS.asymmA hr
        have e2 : lt d[q - 1]! d[p]! = false := sorted_le hS hs p (q - 1) (by omega) (by omega) (by omega)
        exact hS.ntrans _ _ _ e2 e1
    · rw [h.rest p (by omega)]
      by_cases cq : q < i
      · rw [h.rest q cq]; exact hs _ _ h1 h2 (by omega)
      · by_cases eq : q = i
        · subst eq
          rw [h.at_]
          rcases hl with hl | hl
          · omega
          · exact hS.ntrans _ _ _ hl (sorted_le hS hs p (q - 1) h1 (by omega) (by omega))
        · rw [h.high q (by omega) (by omega)]
          exact hs _ _ h1 (by omega) (by omega)
/-! ### blocks -/
/-- All blocks of bs places that begin below hi are sorted. -/
def Blks (lt : α → α → Bool) (bs n hi : Nat) (d : Array α) : Prop := ∀ s, bs ∣ s → s < hi → SortedIn lt s (min (s + bs) n) d
/-- Below a, blocks of twice the size; from a on, of the size itself. -/
def Half (lt : α → α → Bool) (bs n a : Nat) (d : Array α) : Prop := Blks lt (2 * bs) n a d ∧ ∀ s, bs ∣ s → a ≤ s → s < n → SortedIn lt s (min (s + bs) n) d
theorem dvd_next {bs s a : Nat} (h1 : bs ∣ s) (h2 : bs ∣ a) (h : s < a) : s + bs ≤ a := by
  obtain ⟨x, rfl⟩ := h1
  obtain ⟨y, rfl⟩ := h2
  have hxy : x < y := Nat.lt_of_mul_lt_mul_left h
  calc bs * x + bs = bs * (x + 1) := by rw [Nat.mul_add, Nat.mul_one]
    _ ≤ bs * y := Nat.mul_le_mul_left _ hxy
theorem sorted_perm_out {a b s t : Nat} {d d' : Array α} (h : SortedIn lt s t d) (hp : PermIn a b d d') (ho : t ≤ a ∨ b ≤ s) : SortedIn lt s t d' := fun i j h1 h2 h3 => by
  rw [hp.2.1 i (by omega), hp.2.1 j (by omega)]
  exact h i j h1 h2 h3
theorem Blks.snoc {bs n a : Nat} {d d' : Array α} (h : Blks lt bs n a d) (ha : bs ∣ a) (hp : PermIn a (min (a + bs) n) d d') (hs : SortedIn lt a (min (a + bs) n) d') : Blks lt bs n (a + bs) d' := fun s h1 h2 => by
  rcases Nat.lt_trichotomy s a with c | c | c
  · have := dvd_next h1 ha c
    exact sorted_perm_out (h s h1 c) hp (Or.inl (by omega))
  · subst c; exact hs
  · have := dvd_next ha h1 c
    omega
theorem Half.start {bs n : Nat} {d : Array α} (h : Blks lt bs n n d) : Half lt bs n 0 d := ⟨fun s _ h => by omega, fun s h1 _ h3 => h s h1 h3⟩
theorem Half.step {bs n a : Nat} {d d' : Array α} (h : Half lt bs n a d) (ha : 2 * bs ∣ a) (hp : PermIn a (min (a + 2 * bs) n) d d') (hs : SortedIn lt a (min (a + 2 * bs) n) d') : Half lt bs n (a + 2 * bs) d' := by
  refine ⟨h.1.snoc ha hp hs, fun s h1 h2 h3 => ?_⟩
  exact sorted_perm_out (h.2 s h1 (by omega) h3) hp (Or.inr (by omega))
theorem Half.last {bs n a : Nat} {d : Array α} (h : Half lt bs n a d) (ha : 2 * bs ∣ a) (hn : n ≤ a + bs) (h0 : 0 < bs) : Blks lt (2 * bs) n n d := fun s h1 h2 => by
  by_cases c : s < a
  · exact h.1 s h1 c
  · by_cases e : s = a
    · subst e
      have := h.2 s (Nat.dvd_trans (Nat.dvd_mul_left bs 2) ha) (Nat.le_refl _) h2
      rw [show min (s + 2 * bs) n = n by omega]
      rwa [show min (s + bs) n = n by omega] at this
    · have := dvd_next ha h1 (by omega)
      omega
theorem Half.all {bs n a : Nat} {d : Array α} (h : Half lt bs n a d) (hn : n ≤ a) : Blks lt (2 * bs) n n d := fun s h1 h2 => h.1 s h1 (by omega)
theorem Blks.done {bs n : Nat} {d : Array α} (h : Blks lt bs n n d) (hn : n ≤ bs) : SortedIn lt 0 n d := by
  by_cases e : n = 0
  · subst e; exact sorted_empty d (by omega)
  · have := h 0 (Nat.dvd_zero _) (by omega)
    rwa [Nat.zero_add, show min bs n = n by omega] at this
end Go.Proofs.YthanmlojikidbaaGreatSta
