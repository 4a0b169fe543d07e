import Derived.Test.YtemjjknnelngcaaDoorQSystxtPDx1
import Derived.Test.YtemjjknnelngcaaDoorQSystxtMr
/- Systems: what the law lays and looks at, and when a list of polynomials is a system: plain lemmas on the printed functions. -/
namespace Go.Proofs.YtemjjknnelngcaaDoor.PD
open Go.RowKit Go.Proofs.YtemjjknnelngcaaDoorW.PrintWords Go.Proofs.YtemjjknnelngcaaDoorW.PrintLast Go.Proofs.YtemjjknnelngcaaDoorW.PrintMore
theorem ev_all {α β : Type} {l : List α} {f : α → Nat → Option β} {g : α → β} (h : ∀ y ∈ l, Ev (f y) (g y)) : ∃ C, ∀ y ∈ l, ∀ K, C ≤ K → f y K = some (g y) := by
  induction l with
  | nil => exact ⟨0, fun y hy => by cases hy⟩
  | cons a l ih =>
    obtain ⟨C, hC⟩ := ih (fun y hy => h y (List.mem_cons_of_mem _ hy))
    obtain ⟨D, hD⟩ := h a (List.mem_cons_self ..)
    refine ⟨C + D, fun y hy K hK => ?_⟩
    rcases List.mem_cons.1 hy with rfl | hy
    · exact hD K (by omega)
    · exact hC y hy K (by omega)
theorem getD_mem {α : Type} {l : List α} {z : α} {i : Nat} (h : i < l.length) : l.getD i z ∈ l := by
  rw [List.getD_eq_getElem?_getD, List.getElem?_eq_getElem h]; exact List.getElem_mem h
theorem rdSS_at {l : List (List S46)} {i : Nat} : laws_toTermSS.rd l (i : Int) = l.getD i [] := by unfold laws_toTermSS.rd; rw [Int.toNat_natCast]
theorem toTermSS_l1 {l : List (List S46)} {x : List (List S38)} (hx : x.length ≤ 35184372088832) (hl : l.length ≤ x.length) : ∀ (d i K : Nat) (y : List (List S38)), i + d = x.length → l.length ≤ i → y.length = x.length → y.take l.length = l.map (·.map cvT) → d < K → laws_toTermSS.l1 K l y (i : Int) = some (l.map (·.map cvT)) := by
  intro d
  induction d with
  | zero =>
    intro i K y hi hli hy ht hK
    obtain ⟨K, rfl⟩ : ∃ j, K = j + 1 := ⟨K - 1, by omega⟩
    simp only [laws_toTermSS.l1]
    rw [if_neg (by omega), if_pos (by omega), if_pos (by omega), Int.toNat_natCast, ht]
  | succ d ih =>
    intro i K y hi hli hy ht hK
    obtain ⟨K, rfl⟩ : ∃ j, K = j + 1 := ⟨K - 1, by omega⟩
    simp only [laws_toTermSS.l1, laws_fillerTerm.f]
    rw [if_pos (by omega)]; simp only [bs']
    rw [if_pos (by omega), w64 (by omega) (by omega), show (i : Int) + 1 = ((i + 1 : Nat) : Int) by omega, Int.toNat_natCast]
    refine ih (i + 1) K _ (by omega) (by omega) (by rw [List.length_set]; omega) ?_ (by omega)
    rw [List.take_set_of_le (by omega), ht]
theorem toTermSS_l0 {l : List (List S46)} {b : Bool} {C : Nat} (hl : l.length ≤ 1000000) (hC : ∀ y ∈ l, ∀ K, C ≤ K → laws_toTermS.f K y b = some (y.map cvT)) : ∀ (d i K : Nat) (x : List (List S38)), i + d = l.length → x.length = l.length + room l.length → x.take i = (l.map (·.map cvT)).take i → d + room l.length + 1 + C < K → laws_toTermSS.l0 K l b x (i : Int) = some (l.map (·.map cvT)) := by
  have hr := room_le l.length
  intro d
  induction d with
  | zero =>
    intro i K x hi hx ht hK
    obtain ⟨K, rfl⟩ : ∃ j, K = j + 1 := ⟨K - 1, by omega⟩
    simp only [laws_toTermSS.l0]
    rw [if_neg (by omega)]
    have hil : i = l.length := by omega
    subst hil
    refine toTermSS_l1 (by omega) (by omega) (room l.length) l.length K x (by omega) (by omega) rfl ?_ (by omega)
    rw [ht, show l.length = (l.map (·.map cvT)).length by rw [List.length_map], List.take_length]
  | succ d ih =>
    intro i K x hi hx ht hK
    obtain ⟨K, rfl⟩ : ∃ j, K = j + 1 := ⟨K - 1, by omega⟩
    have hil : i < l.length := by omega
    simp only [laws_toTermSS.l0]
    rw [if_pos (by omega), if_pos (by omega), rdSS_at, hC _ (getD_mem hil) K (by omega)]; simp only [bs']
    rw [if_pos (by omega), w64 (by omega) (by omega), show (i : Int) + 1 = ((i + 1 : Nat) : Int) by omega, Int.toNat_natCast]
    refine ih (i + 1) K _ (by omega) (by rw [List.length_set]; omega) ?_ (by omega)
    rw [List.take_succ_eq_append_getElem (by rw [List.length_set]; omega), List.take_succ_eq_append_getElem (by rw [List.length_map]; exact hil), List.take_set_of_le (Nat.le_refl _), ht]
    simp [List.getD_eq_getElem?_getD, List.getElem?_eq_getElem hil]
theorem toTermSS_ev {l : List (List S46)} (hl : l.length ≤ 1000000) (hy : ∀ y ∈ l, y.length ≤ 1000000) (b : Bool) : Ev (fun K => laws_toTermSS.f K l b) (l.map (·.map cvT)) := by
  have hr := room_le l.length
  obtain ⟨C, hC⟩ := ev_all (l := l) (f := fun y K => laws_toTermS.f K y b) (g := fun y => y.map cvT) (fun y h => toTermS_ev (hy y h) b)
  refine ⟨l.length + room l.length + 4 + C, fun K hK => ?_⟩
  obtain ⟨K, rfl⟩ : ∃ j, K = j + 1 := ⟨K - 1, by omega⟩
  have j0 : ∀ z : Bool, (z = true → l = []) → laws_toTermSS.j0 (K + 1) l b z = some (l.map (·.map cvT)) := by
    intro z hz
    simp only [laws_toTermSS.j0]
    by_cases h : z = true
    · rw [if_pos h, hz h]; rfl
    · rw [if_neg h, room_at]; simp only [bs']
      rw [w64 (by omega) (by omega), if_pos (by omega), if_pos (by omega)]
      exact toTermSS_l0 hl hC l.length 0 K _ (by omega) (by rw [List.length_replicate]; omega) (by simp) (by omega)
  dsimp only; unfold laws_toTermSS.f
  by_cases hb : b = true
  · rw [if_pos hb]
    refine j0 _ (fun h => ?_)
    have : l.length = 0 := by have := beq_iff_eq.1 h; omega
    exact List.length_eq_zero_iff.1 this
  · rw [if_neg hb]
    exact j0 false (fun h => by cases h)
/-- The law's bound: it answers at once, or all lists are short. -/
theorem szTermS_n {l : List S46} (hl : l.length ≤ 9223372036854775807) {n : Int} (h0 : 0 ≤ n) (h1 : n ≤ 1000000) : laws_szTermS.f l n = some (if (l.length : Int) ≤ n then n - l.length else -1) := by
  unfold laws_szTermS.f
  rw [w64 (by omega) (by omega)]
  by_cases h : (l.length : Int) ≤ n
  · rw [if_neg (by omega), if_pos h]
  · rw [if_pos (by omega), if_neg h]
theorem szTermSS_l0 {l : List (List S46)} (hl : l.length ≤ 1000000) (hy : ∀ y ∈ l, y.length ≤ 9223372036854775807) : ∀ (d i K : Nat) (n : Int), i + d = l.length → 0 ≤ n → n ≤ 1000000 → d < K → ∃ t, laws_szTermSS.l0 K l n (i : Int) = some t ∧ (t < 0 ∨ (0 ≤ t ∧ ∀ j, i ≤ j → j < l.length → (l.getD j []).length ≤ 1000000)) := by
  intro d
  induction d with
  | zero =>
    intro i K n hi h0 h1 hK
    obtain ⟨K, rfl⟩ : ∃ j, K = j + 1 := ⟨K - 1, by omega⟩
    simp only [laws_szTermSS.l0]
    rw [if_neg (by omega)]
    exact ⟨n, rfl, .inr ⟨h0, fun j h2 h3 => by omega⟩⟩
  | succ d ih =>
    intro i K n hi h0 h1 hK
    obtain ⟨K, rfl⟩ : ∃ j, K = j + 1 := ⟨K - 1, by omega⟩
    have hil : i < l.length := by omega
    have hm := getD_mem (z := []) hil
    simp only [laws_szTermSS.l0]
    have e : rd_L2 l (i : Int) = l.getD i [] := by unfold rd_L2; rw [Int.toNat_natCast]
    rw [if_pos (by omega), if_pos (by omega), e, szTermS_n (hy _ hm) h0 h1]; simp only [bs']
    by_cases h : ((l.getD i []).length : Int) ≤ n
    · rw [if_pos h, if_neg (by omega), w64 (by omega) (by omega), show (i : Int) + 1 = ((i + 1 : Nat) : Int) by omega]
      obtain ⟨t, ht, hc⟩ := ih (i + 1) K (n - (l.getD i []).length) (by omega) (by omega) (by omega) (by omega)
      refine ⟨t, ht, ?_⟩
      rcases hc with hc | ⟨hc, hd⟩
      · exact .inl hc
      · refine .inr ⟨hc, fun j h2 h3 => ?_⟩
        by_cases e : j = i
        · subst e; omega
        · exact hd j (by omega) h3
    · rw [if_neg h, if_pos (by omega)]
      exact ⟨-1, rfl, .inl (by omega)⟩
theorem szTermSS_eq {l : List (List S46)} (hl : l.length ≤ 9223372036854775807) (hy : ∀ y ∈ l, y.length ≤ 9223372036854775807) (K : Nat) (hK : 1000001 < K) : ∃ t, laws_szTermSS.f K l 1000000 = some t ∧ (t < 0 ∨ (0 ≤ t ∧ l.length ≤ 1000000 ∧ ∀ y ∈ l, y.length ≤ 1000000)) := by
  unfold laws_szTermSS.f
  rw [w64 (by omega) (by omega)]
  by_cases h : (l.length : Int) ≤ 1000000
  · rw [if_neg (by omega)]
    obtain ⟨t, ht, hc⟩ := szTermSS_l0 (by omega) hy l.length 0 K (1000000 - l.length) (by omega) (by omega) (by omega) (by omega)
    refine ⟨t, ht, ?_⟩
    rcases hc with hc | ⟨hc, hd⟩
    · exact .inl hc
    · refine .inr ⟨hc, by omega, fun y hm => ?_⟩
      obtain ⟨j, hj, e⟩ := List.getElem_of_mem hm
      have := hd j (by omega) hj
      rw [List.getD_eq_getElem?_getD, List.getElem?_eq_getElem hj, Option.getD_some, e] at this
      exact this
  · rw [if_pos (by omega)]; exact ⟨_, rfl, .inl (by omega)⟩
theorem intactTermSS_self (l : List (List S38)) : laws_intactTermSS.f l l = some true := by
  unfold laws_intactTermSS.f
  rw [if_pos rfl]
/-! when polynomials are a system -/
def ndT (n : Nat) (t : S38) : Bool := decide (∀ j : Nat, j < 3 → n ≤ j → impl_needsAtMost.pw t (j : Int) ≤ 0)
theorem ndT_iff {n : Nat} {t : S38} : ndT n t = true ↔ ∀ j : Nat, j < 3 → n ≤ j → impl_needsAtMost.pw t (j : Int) ≤ 0 := by unfold ndT; rw [decide_eq_true_iff]
def nd (n : Nat) (l : List S38) : Bool := l.all (ndT n)
theorem needs_l1 {l : List S38} (n i : Nat) {b : Bool} {C : Nat} (hC : ∀ K, C ≤ K → impl_needsAtMost.l0 K l (n : Int) (wrap64 ((i : Int) + 1)) = some b) : ∀ (d j K : Nat), j + d = 3 → d + C < K → impl_needsAtMost.l1 K l (n : Int) (i : Int) (j : Int) = some (decide (∀ q : Nat, q < 3 → j ≤ q → n ≤ q → impl_needsAtMost.pw (l.getD i z38) (q : Int) ≤ 0) && b) := by
  intro d
  induction d with
  | zero =>
    intro j K hj hK
    obtain ⟨K, rfl⟩ : ∃ j, K = j + 1 := ⟨K - 1, by omega⟩
    simp only [impl_needsAtMost.l1]
    rw [if_neg (by omega), hC K (by omega), decide_eq_true (fun q h1 h2 h3 => by omega), Bool.true_and]
  | succ d ih =>
    intro j K hj hK
    obtain ⟨K, rfl⟩ : ∃ j, K = j + 1 := ⟨K - 1, by omega⟩
    simp only [impl_needsAtMost.l1]
    rw [if_pos (by omega), if_pos (by omega), w64 (x := (j : Int) + 1) (by omega) (by omega), show (j : Int) + 1 = ((j + 1 : Nat) : Int) by omega, ih (j + 1) K (by omega) (by omega), rdT_at]
    by_cases h1 : n ≤ j
    · rw [if_pos (by omega)]
      by_cases h2 : impl_needsAtMost.pw (l.getD i z38) (j : Int) > 0
      · rw [if_pos h2, decide_eq_false (fun h => absurd (h j (by omega) (Nat.le_refl _) h1) (by omega)), Bool.false_and]
      · rw [if_neg h2]
        congr 2
        exact decide_eq_decide.2 ⟨fun h q h3 h4 h5 => by
          by_cases e : q = j
          · subst e; omega
          · exact h q h3 (by omega) h5, fun h q h3 h4 h5 => h q h3 (by omega) h5⟩
    · rw [if_neg (by omega)]
      congr 2
      exact decide_eq_decide.2 ⟨fun h q h3 h4 h5 => h q h3 (by omega) h5, fun h q h3 h4 h5 => h q h3 (by omega) h5⟩
theorem needs_l0 {l : List S38} (hl : l.length ≤ 1000000) (n : Nat) : ∀ (d i : Nat), i + d = l.length → Ev (fun K => impl_needsAtMost.l0 K l (n : Int) (i : Int)) (nd n (l.drop i)) := by
  intro d
  induction d with
  | zero =>
    intro i hi
    refine ⟨1, fun K hK => ?_⟩
    obtain ⟨K, rfl⟩ : ∃ j, K = j + 1 := ⟨K - 1, by omega⟩
    simp only [impl_needsAtMost.l0]
    rw [if_neg (by omega), List.drop_eq_nil_of_le (by omega)]; rfl
  | succ d ih =>
    intro i hi
    obtain ⟨C, hC⟩ := ih (i + 1) (by omega)
    dsimp only at hC
    refine ⟨C + 6, fun K hK => ?_⟩
    obtain ⟨K, rfl⟩ : ∃ j, K = j + 1 := ⟨K - 1, by omega⟩
    have hil : i < l.length := by omega
    simp only [impl_needsAtMost.l0]
    rw [if_pos (by omega), if_pos (by omega)]
    have hw : wrap64 ((i : Int) + 1) = ((i + 1 : Nat) : Int) := by rw [w64 (by omega) (by omega)]; omega
    have := needs_l1 (l := l) n i (b := nd n (l.drop (i + 1))) (C := C) (fun K h => by rw [hw]; exact hC K h) 3 0 K (by omega) (by omega)
    rw [show ((0 : Nat) : Int) = 0 from rfl] at this
    rw [this, List.drop_eq_getElem_cons hil]
    congr 1
    show _ = (ndT n l[i] && nd n (l.drop (i + 1)))
    congr 1
    unfold ndT
    have e : l.getD i z38 = l[i] := by rw [List.getD_eq_getElem?_getD, List.getElem?_eq_getElem hil]; rfl
    rw [e]
    exact decide_eq_decide.2 ⟨fun h q h1 h2 => h q h1 (by omega) h2, fun h q h1 _ h2 => h q h1 h2⟩
theorem needs_ev {l : List S38} (hl : l.length ≤ 1000000) (n : Nat) : Ev (fun K => impl_needsAtMost.f K l (n : Int)) (nd n l) := by
  have := needs_l0 hl n l.length 0 (by omega)
  exact this
theorem power_eq (t : S38) (k : Nat) : spec_poPower.f t.f0 t.f1 t.f2 t.f3 (k : Int) = some (impl_needsAtMost.pw t (k : Int)) := by
  unfold spec_poPower.f impl_needsAtMost.pw
  split
  · rfl
  · split <;> rfl
theorem mostS_eq (a b : Int) : spec_l1Most.f a b = some (if a > b then a else b) := by
  unfold spec_l1Most.f
  split <;> rfl
theorem degIn_l0 {l : List S38} (hl : l.length ≤ 1000000) (k : Nat) : ∀ (d i K : Nat) (m : Int), i + d = l.length → d < K → ∃ r, spec_poDegreeIn.l0 K (k : Int) m l (l.length : Int) (i : Int) = some r ∧ (r > 0 ↔ m > 0 ∨ ∃ t ∈ l.drop i, impl_needsAtMost.pw t (k : Int) > 0) := by
  intro d
  induction d with
  | zero =>
    intro i K m hi hK
    obtain ⟨K, rfl⟩ : ∃ j, K = j + 1 := ⟨K - 1, by omega⟩
    simp only [spec_poDegreeIn.l0]
    rw [if_neg (by omega), List.drop_eq_nil_of_le (by omega)]
    refine ⟨m, rfl, .inl, fun h => ?_⟩
    rcases h with h | ⟨t, ht, _⟩
    · exact h
    · cases ht
  | succ d ih =>
    intro i K m hi hK
    obtain ⟨K, rfl⟩ : ∃ j, K = j + 1 := ⟨K - 1, by omega⟩
    have hil : i < l.length := by omega
    simp only [spec_poDegreeIn.l0]
    rw [if_pos (by omega), if_pos (by omega), if_pos (by omega), rdT_at, power_eq]; simp only [bs']
    rw [mostS_eq]; simp only [bs']
    rw [w64 (by omega) (by omega), show (i : Int) + 1 = ((i + 1 : Nat) : Int) by omega]
    obtain ⟨r, hr, hc⟩ := ih (i + 1) K (if m > impl_needsAtMost.pw (l.getD i z38) (k : Int) then m else impl_needsAtMost.pw (l.getD i z38) (k : Int)) (by omega) (by omega)
    refine ⟨r, hr, hc.trans ?_⟩
    have e : l.getD i z38 = l[i] := by rw [List.getD_eq_getElem?_getD, List.getElem?_eq_getElem hil]; rfl
    rw [List.drop_eq_getElem_cons hil, e]
    constructor
    · rintro (h | ⟨t, ht, h⟩)
      · split at h
        · exact .inl h
        · exact .inr ⟨_, List.mem_cons_self .., h⟩
      · exact .inr ⟨t, List.mem_cons_of_mem _ ht, h⟩
    · rintro (h | ⟨t, ht, h⟩)
      · refine .inl ?_; split <;> omega
      · rcases List.mem_cons.1 ht with rfl | ht
        · refine .inl ?_; split <;> omega
        · exact .inr ⟨t, ht, h⟩
theorem nd_iff {n : Nat} {l : List S38} : nd n l = true ↔ ∀ j : Nat, n ≤ j → j < 3 → ∀ t ∈ l, ¬ impl_needsAtMost.pw t (j : Int) > 0 := by
  unfold nd
  rw [List.all_eq_true]
  constructor
  · intro h j h1 h2 t ht; have := ndT_iff.1 (h t ht) j h2 h1; omega
  · intro h t ht; exact ndT_iff.2 fun j h1 h2 => by have := h j h2 h1 t ht; omega
theorem sys_l1 {l : List (List S38)} {p : List S38} (hp : p.length ≤ 1000000) {x7 x8 : Int} {b : Bool} {C : Nat} (hC : ∀ K, C ≤ K → spec_poSystem.l0 K l l x7 (wrap64 (x8 + 1)) = some b) : ∀ (d n K : Nat), (n + d = 3 ∨ (d = 0 ∧ 3 ≤ n)) → n < 4611686018427387904 → d + C + p.length + 1 < K → spec_poSystem.l1 K l p (n : Int) l x7 x8 = some (nd n p && b) := by
  intro d
  induction d with
  | zero =>
    intro n K hn hb hK
    obtain ⟨K, rfl⟩ : ∃ j, K = j + 1 := ⟨K - 1, by omega⟩
    simp only [spec_poSystem.l1]
    rw [if_neg (by omega), hC K (by omega), nd_iff.2 (fun j h1 h2 => by omega), Bool.true_and]
  | succ d ih =>
    intro n K hn hb hK
    obtain ⟨K, rfl⟩ : ∃ j, K = j + 1 := ⟨K - 1, by omega⟩
    have ihv := ih (n + 1) K (by omega) (by omega) (by omega)
    have hw := w64 (x := (n : Int) + 1) (by omega) (by omega)
    have hn3 : (n : Int) < 3 := by omega
    obtain ⟨r, hr, hc⟩ := degIn_l0 hp n p.length 0 K (-1) (by omega) (by omega)
    simp only [spec_poSystem.l1]
    unfold spec_poDegreeIn.f
    rw [show ((0 : Nat) : Int) = 0 from rfl] at hr
    rw [if_pos hn3, hr]; simp only [bs']
    rw [hw, show (n : Int) + 1 = ((n + 1 : Nat) : Int) from rfl, ihv]
    rw [List.drop_zero] at hc
    by_cases h : r > 0
    · rw [if_pos h]
      have : nd n p = false := by
        rw [Bool.eq_false_iff]; intro h2
        rcases hc.1 h with h3 | ⟨t, ht, h3⟩
        · omega
        · exact nd_iff.1 h2 n (Nat.le_refl _) (by omega) t ht h3
      rw [this, Bool.false_and]
    · rw [if_neg h]
      congr 2
      rw [Bool.eq_iff_iff, nd_iff, nd_iff]
      constructor
      · intro h2 j h3 h4 t ht h5
        by_cases e : j = n
        · subst e; exact h (hc.2 (.inr ⟨t, ht, h5⟩))
        · exact h2 j (by omega) h4 t ht h5
      · intro h2 j h3 h4; exact h2 j (by omega) h4
/-- The rows from i on, d of them. -/
def sysRun (l : List (List S38)) : Nat → Nat → Bool
  | 0, _ => decide (1 ≤ l.length ∧ l.length ≤ 3)
  | d + 1, i => if goodT (l.getD i []) = true then (nd l.length (l.getD i []) && sysRun l d (i + 1)) else false
theorem sys_l0 {l : List (List S38)} (hl : l.length ≤ 1000000) (hy : ∀ y ∈ l, y.length ≤ 1000000) : ∀ (d i : Nat), i + d = l.length → Ev (fun K => spec_poSystem.l0 K l l (l.length : Int) (i : Int)) (sysRun l d i) ∧ Ev (fun K => impl_isSystem.l0 K l l (l.length : Int) (i : Int)) (sysRun l d i) := by
  intro d
  induction d with
  | zero =>
    intro i hi
    have e : decide ((1 : Int) ≤ (l.length : Int) ∧ (l.length : Int) ≤ 3) = sysRun l 0 i := by unfold sysRun; exact decide_eq_decide.2 ⟨fun h => by omega, fun h => by omega⟩
    constructor
    · refine ⟨1, fun K hK => ?_⟩
      obtain ⟨K, rfl⟩ : ∃ j, K = j + 1 := ⟨K - 1, by omega⟩
      simp only [spec_poSystem.l0]
      rw [if_neg (by omega), l1In_eq]; simp only [bs']; rw [e]
    · refine ⟨1, fun K hK => ?_⟩
      obtain ⟨K, rfl⟩ : ∃ j, K = j + 1 := ⟨K - 1, by omega⟩
      simp only [impl_isSystem.l0]
      rw [if_neg (by omega), inside_eq]; simp only [bs']; rw [e]
  | succ d ih =>
    intro i hi
    have hil : i < l.length := by omega
    have hm := hy _ (getD_mem (z := []) hil)
    obtain ⟨⟨C, hC⟩, ⟨D, hD⟩⟩ := ih (i + 1) (by omega)
    obtain ⟨G, hG⟩ := poGood_ev hm
    obtain ⟨H, hH⟩ := isPoly_ev hm
    obtain ⟨N, hN⟩ := needs_ev hm l.length
    dsimp only at hC hD hG hH hN
    have hw : wrap64 ((i : Int) + 1) = ((i + 1 : Nat) : Int) := by rw [w64 (by omega) (by omega)]; omega
    have er : rd_L4 l (i : Int) = l.getD i [] := by unfold rd_L4; rw [Int.toNat_natCast]
    have e1 : sysRun l (d + 1) i = if goodT (l.getD i []) = true then (nd l.length (l.getD i []) && sysRun l d (i + 1)) else false := rfl
    rw [e1]
    constructor
    · refine ⟨C + G + 1000010, fun K hK => ?_⟩
      obtain ⟨K, rfl⟩ : ∃ j, K = j + 1 := ⟨K - 1, by omega⟩
      simp only [spec_poSystem.l0]
      rw [if_pos (by omega), if_pos (by omega), if_pos (by omega), er, hG K (by omega)]; simp only [bs']
      by_cases hg : goodT (l.getD i []) = true
      · rw [if_pos hg, if_pos hg]
        exact sys_l1 (l := l) (p := l.getD i []) hm (C := C) (fun K h => by rw [hw]; exact hC K h) (3 - l.length) l.length K (by omega) (by omega) (by omega)
      · rw [if_neg hg, if_neg hg]
    · refine ⟨D + H + N + 10, fun K hK => ?_⟩
      obtain ⟨K, rfl⟩ : ∃ j, K = j + 1 := ⟨K - 1, by omega⟩
      simp only [impl_isSystem.l0]
      rw [if_pos (by omega), if_pos (by omega), if_pos (by omega), er, hH K (by omega)]; simp only [bs']
      by_cases hg : goodT (l.getD i []) = true
      · rw [if_pos hg, if_pos hg, hN K (by omega)]; simp only [bs']
        by_cases hn : nd l.length (l.getD i []) = true
        · rw [if_pos hn, hn, Bool.true_and, hw]; exact hD K (by omega)
        · rw [if_neg hn, Bool.eq_false_iff.2 hn, Bool.false_and]
      · rw [if_neg hg, if_neg hg]
def sysB (l : List (List S38)) : Bool := sysRun l l.length 0
theorem poSystem_ev {l : List (List S38)} (hl : l.length ≤ 1000000) (hy : ∀ y ∈ l, y.length ≤ 1000000) : Ev (fun K => spec_poSystem.f K l) (sysB l) := (sys_l0 hl hy l.length 0 (by omega)).1
theorem isSystem_ev {l : List (List S38)} (hl : l.length ≤ 1000000) (hy : ∀ y ∈ l, y.length ≤ 1000000) : Ev (fun K => impl_isSystem.f K l) (sysB l) := (sys_l0 hl hy l.length 0 (by omega)).2
theorem sysRun_ok {l : List (List S38)} : ∀ (d i : Nat), i + d = l.length → sysRun l d i = true → l.length ≤ 3 ∧ ∀ j, i ≤ j → j < l.length → goodT (l.getD j []) = true := by
  intro d
  induction d with
  | zero => intro i hi h; unfold sysRun at h; exact ⟨(of_decide_eq_true h).2, fun j h1 h2 => by omega⟩
  | succ d ih =>
    intro i hi h
    unfold sysRun at h
    by_cases hg : goodT (l.getD i []) = true
    · rw [if_pos hg] at h
      obtain ⟨h1, h2⟩ := ih (i + 1) (by omega) (Bool.and_eq_true_iff.1 h).2
      refine ⟨h1, fun j h3 h4 => ?_⟩
      by_cases e : j = i
      · subst e; exact hg
      · exact h2 j (by omega) h4
    · rw [if_neg hg] at h; cases h
end Go.Proofs.YtemjjknnelngcaaDoor.PD
