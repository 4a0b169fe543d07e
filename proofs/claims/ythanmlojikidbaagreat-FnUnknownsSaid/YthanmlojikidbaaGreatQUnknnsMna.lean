import Derived.Test.YthanmlojikidbaaGreatQUnknnsPDx0
import Derived.Test.YthanmlojikidbaaGreatQUnknnsMr
/- Systems: what the law lays and looks at, and when a list of polynomials is a system: plain lemmas on the printed functions. -/
namespace Go.Proofs.YthanmlojikidbaaGreat.PD
open Go.RowKit Go.Proofs.YthanmlojikidbaaGreatW.PrintWords Go.Proofs.YthanmlojikidbaaGreatW.PrintLast Go.Proofs.YthanmlojikidbaaGreatW.PrintMore
theorem getD_mem {α : Type} {l : List α} {z : α} {i : Nat} (h : i < l.length) : l.getD i z ∈ l := by
  rw [List.getD_eq_getElem?_getD, List.getElem?_eq_getElem h]; exact List.getElem_mem h
def ndT (n : Nat) (t : S62) : Bool := decide (∀ j : Nat, j < 3 → n ≤ j → impl_needsAtMost.pw t (j : Int) ≤ 0)
theorem ndT_iff {n : Nat} {t : S62} : ndT n t = true ↔ ∀ j : Nat, j < 3 → n ≤ j → impl_needsAtMost.pw t (j : Int) ≤ 0 := by unfold ndT; rw [decide_eq_true_iff]
def nd (n : Nat) (l : List S62) : Bool := l.all (ndT n)
theorem needs_l1 {l : List S62} (n i : Nat) {b : Bool} {C : Nat} (hC : ∀ K, C ≤ K → impl_needsAtMost.l0 K l (n : Int) (wrap64 ((i : Int) + 1)) = some b) : ∀ (d j K : Nat), j + d = 3 → d + C < K → impl_needsAtMost.l1 K l (n : Int) (i : Int) (j : Int) = some (decide (∀ q : Nat, q < 3 → j ≤ q → n ≤ q → impl_needsAtMost.pw (l.getD i z62) (q : Int) ≤ 0) && b) := by
  intro d
  induction d with
  | zero =>
    intro j K hj hK
    obtain ⟨K, rfl⟩ : ∃ j, K = j + 1 := ⟨K - 1, by omega⟩
    simp only [impl_needsAtMost.l1]
    rw [if_neg (by omega), hC K (by omega), decide_eq_true (fun q h1 h2 h3 => by omega), Bool.true_and]
  | succ d ih =>
    intro j K hj hK
    obtain ⟨K, rfl⟩ : ∃ j, K = j + 1 := ⟨K - 1, by omega⟩
    simp only [impl_needsAtMost.l1]
    rw [if_pos (by omega), if_pos (by omega), w64 (x := (j : Int) + 1) (by omega) (by omega), show (j : Int) + 1 = ((j + 1 : Nat) : Int) by omega, ih (j + 1) K (by omega) (by omega), rdT_at]
    by_cases h1 : n ≤ j
    · rw [if_pos (by omega)]
      by_cases h2 : impl_needsAtMost.pw (l.getD i z62) (j : Int) > 0
      · rw [if_pos h2, decide_eq_false (fun h => absurd (h j (by omega) (Nat.le_refl _) h1) (by omega)), Bool.false_and]
      · rw [if_neg h2]
        congr 2
        exact decide_eq_decide.2 ⟨fun h q h3 h4 h5 => by
          by_cases e : q = j
          · subst e; omega
          · exact h q h3 (by omega) h5, fun h q h3 h4 h5 => h q h3 (by omega) h5⟩
    · rw [if_neg (by omega)]
      congr 2
      exact decide_eq_decide.2 ⟨fun h q h3 h4 h5 => h q h3 (by omega) h5, fun h q h3 h4 h5 => h q h3 (by omega) h5⟩
theorem needs_l0 {l : List S62} (hl : l.length ≤ 1000000) (n : Nat) : ∀ (d i : Nat), i + d = l.length → Ev (fun K => impl_needsAtMost.l0 K l (n : Int) (i : Int)) (nd n (l.drop i)) := by
  intro d
  induction d with
  | zero =>
    intro i hi
    refine ⟨1, fun K hK => ?_⟩
    obtain ⟨K, rfl⟩ : ∃ j, K = j + 1 := ⟨K - 1, by omega⟩
    simp only [impl_needsAtMost.l0]
    rw [if_neg (by omega), List.drop_eq_nil_of_le (by omega)]; rfl
  | succ d ih =>
    intro i hi
    obtain ⟨C, hC⟩ := ih (i + 1) (by omega)
    dsimp only at hC
    refine ⟨C + 6, fun K hK => ?_⟩
    obtain ⟨K, rfl⟩ : ∃ j, K = j + 1 := ⟨K - 1, by omega⟩
    have hil : i < l.length := by omega
    simp only [impl_needsAtMost.l0]
    rw [if_pos (by omega), if_pos (by omega)]
    have hw : wrap64 ((i : Int) + 1) = ((i + 1 : Nat) : Int) := by rw [w64 (by omega) (by omega)]; omega
    have := needs_l1 (l := l) n i (b := nd n (l.drop (i + 1))) (C := C) (fun K h => by rw [hw]; exact hC K h) 3 0 K (by omega) (by omega)
    rw [show ((0 : Nat) : Int) = 0 from rfl] at this
    rw [this, List.drop_eq_getElem_cons hil]
    congr 1
    show _ = (ndT n l[i] && nd n (l.drop (i + 1)))
    congr 1
    unfold ndT
    have e : l.getD i z62 = l[i] := by rw [List.getD_eq_getElem?_getD, List.getElem?_eq_getElem hil]; rfl
    rw [e]
    exact decide_eq_decide.2 ⟨fun h q h1 h2 => h q h1 (by omega) h2, fun h q h1 _ h2 => h q h1 h2⟩
theorem needs_ev {l : List S62} (hl : l.length ≤ 1000000) (n : Nat) : Ev (fun K => impl_needsAtMost.f K l (n : Int)) (nd n l) := by
  have := needs_l0 hl n l.length 0 (by omega)
  exact this
theorem power_eq (t : S62) (k : Nat) : spec_poPower.f t.f0 t.f1 t.f2 t.f3 (k : Int) = some (impl_needsAtMost.pw t (k : Int)) := by
  unfold spec_poPower.f impl_needsAtMost.pw
  split
  · rfl
  · split <;> rfl
theorem mostS_eq (a b : Int) : spec_l1Most.f a b = some (if a > b then a else b) := by
  unfold spec_l1Most.f
  split <;> rfl
theorem degIn_l0 {l : List S62} (hl : l.length ≤ 1000000) (k : Nat) : ∀ (d i K : Nat) (m : Int), i + d = l.length → d < K → ∃ r, spec_poDegreeIn.l0 K (k : Int) m l (l.length : Int) (i : Int) = some r ∧ (r > 0 ↔ m > 0 ∨ ∃ t ∈ l.drop i, impl_needsAtMost.pw t (k : Int) > 0) := by
  intro d
  induction d with
  | zero =>
    intro i K m hi hK
    obtain ⟨K, rfl⟩ : ∃ j, K = j + 1 := ⟨K - 1, by omega⟩
    simp only [spec_poDegreeIn.l0]
    rw [if_neg (by omega), List.drop_eq_nil_of_le (by omega)]
    refine ⟨m, rfl, .inl, fun h => ?_⟩
    rcases h with h | ⟨t, ht, _⟩
    · exact h
    · cases ht
  | succ d ih =>
    intro i K m hi hK
    obtain ⟨K, rfl⟩ : ∃ j, K = j + 1 := ⟨K - 1, by omega⟩
    have hil : i < l.length := by omega
    simp only [spec_poDegreeIn.l0]
    rw [if_pos (by omega), if_pos (by omega), if_pos (by omega), rdT_at, power_eq]; simp only [bs']
    rw [mostS_eq]; simp only [bs']
    rw [w64 (by omega) (by omega), show (i : Int) + 1 = ((i + 1 : Nat) : Int) by omega]
    obtain ⟨r, hr, hc⟩ := ih (i + 1) K (if m > impl_needsAtMost.pw (l.getD i z62) (k : Int) then m else impl_needsAtMost.pw (l.getD i z62) (k : Int)) (by omega) (by omega)
    refine ⟨r, hr, hc.trans ?_⟩
    have e : l.getD i z62 = l[i] := by rw [List.getD_eq_getElem?_getD, List.getElem?_eq_getElem hil]; rfl
    rw [List.drop_eq_getElem_cons hil, e]
    constructor
    · rintro (h | ⟨t, ht, h⟩)
      · split at h
        · exact .inl h
        · exact .inr ⟨_, List.mem_cons_self .., h⟩
      · exact .inr ⟨t, List.mem_cons_of_mem _ ht, h⟩
    · rintro (h | ⟨t, ht, h⟩)
      · refine .inl ?_; split <;> omega
      · rcases List.mem_cons.1 ht with rfl | ht
        · refine .inl ?_; split <;> omega
        · exact .inr ⟨t, ht, h⟩
theorem nd_iff {n : Nat} {l : List S62} : nd n l = true ↔ ∀ j : Nat, n ≤ j → j < 3 → ∀ t ∈ l, ¬ impl_needsAtMost.pw t (j : Int) > 0 := by
  unfold nd
  rw [List.all_eq_true]
  constructor
  · intro h j h1 h2 t ht; have := ndT_iff.1 (h t ht) j h2 h1; omega
  · intro h t ht; exact ndT_iff.2 fun j h1 h2 => by have := h j h2 h1 t ht; omega
theorem sys_l1 {l : List (List S62)} {p : List S62} (hp : p.length ≤ 1000000) {x7 x8 : Int} {b : Bool} {C : Nat} (hC : ∀ K, C ≤ K → spec_poSystem.l0 K l l x7 (wrap64 (x8 + 1)) = some b) : ∀ (d n K : Nat), (n + d = 3 ∨ (d = 0 ∧ 3 ≤ n)) → n < 4611686018427387904 → d + C + p.length + 1 < K → spec_poSystem.l1 K l p (n : Int) l x7 x8 = some (nd n p && b) := by
  intro d
  induction d with
  | zero =>
    intro n K hn hb hK
    obtain ⟨K, rfl⟩ : ∃ j, K = j + 1 := ⟨K - 1, by omega⟩
    simp only [spec_poSystem.l1]
    rw [if_neg (by omega), hC K (by omega), nd_iff.2 (fun j h1 h2 => by omega), Bool.true_and]
  | succ d ih =>
    intro n K hn hb hK
    obtain ⟨K, rfl⟩ : ∃ j, K = j + 1 := ⟨K - 1, by omega⟩
    have ihv := ih (n + 1) K (by omega) (by omega) (by omega)
    have hw := w64 (x := (n : Int) + 1) (by omega) (by omega)
    have hn3 : (n : Int) < 3 := by omega
    obtain ⟨r, hr, hc⟩ := degIn_l0 hp n p.length 0 K (-1) (by omega) (by omega)
    simp only [spec_poSystem.l1]
    unfold spec_poDegreeIn.f
    rw [show ((0 : Nat) : Int) = 0 from rfl] at hr
    rw [if_pos hn3, hr]; simp only [bs']
    rw [hw, show (n : Int) + 1 = ((n + 1 : Nat) : Int) from rfl, ihv]
    rw [List.drop_zero] at hc
    by_cases h : r > 0
    · rw [if_pos h]
      have : nd n p = false := by
        rw [Bool.eq_false_iff]; intro h2
        rcases hc.1 h with h3 | ⟨t, ht, h3⟩
        · omega
        · exact nd_iff.1 h2 n (Nat.le_refl _) (by omega) t ht h3
      rw [this, Bool.false_and]
    · rw [if_neg h]
      congr 2
      rw [Bool.eq_iff_iff, nd_iff, nd_iff]
      constructor
      · intro h2 j h3 h4 t ht h5
        by_cases e : j = n
        · subst e; exact h (hc.2 (.inr ⟨t, ht, h5⟩))
        · exact h2 j (by omega) h4 t ht h5
      · intro h2 j h3 h4; exact h2 j (by omega) h4
/-- The rows from i on, d of them. -/
def sysRun (l : List (List S62)) : Nat → Nat → Bool
  | 0, _ => decide (1 ≤ l.length ∧ l.length ≤ 3)
  | d + 1, i => if goodT (l.getD i []) = true then (nd l.length (l.getD i []) && sysRun l d (i + 1)) else false
theorem sys_l0 {l : List (List S62)} (hl : l.length ≤ 1000000) (hy : ∀ y ∈ l, y.length ≤ 1000000) : ∀ (d i : Nat), i + d = l.length → Ev (fun K => spec_poSystem.l0 K l l (l.length : Int) (i : Int)) (sysRun l d i) ∧ Ev (fun K => impl_isSystem.l0 K l l (l.length : Int) (i : Int)) (sysRun l d i) := by
  intro d
  induction d with
  | zero =>
    intro i hi
    have e : decide ((1 : Int) ≤ (l.length : Int) ∧ (l.length : Int) ≤ 3) = sysRun l 0 i := by unfold sysRun; exact decide_eq_decide.2 ⟨fun h => by omega, fun h => by omega⟩
    constructor
    · refine ⟨1, fun K hK => ?_⟩
      obtain ⟨K, rfl⟩ : ∃ j, K = j + 1 := ⟨K - 1, by omega⟩
      simp only [spec_poSystem.l0]
      rw [if_neg (by omega), l1In_eq]; simp only [bs']; rw [e]
    · refine ⟨1, fun K hK => ?_⟩
      obtain ⟨K, rfl⟩ : ∃ j, K = j + 1 := ⟨K - 1, by omega⟩
      simp only [impl_isSystem.l0]
      rw [if_neg (by omega), inside_eq]; simp only [bs']; rw [e]
  | succ d ih =>
    intro i hi
    have hil : i < l.length := by omega
    have hm := hy _ (getD_mem (z := []) hil)
    obtain ⟨⟨C, hC⟩, ⟨D, hD⟩⟩ := ih (i + 1) (by omega)
    obtain ⟨G, hG⟩ := poGood_ev hm
    obtain ⟨H, hH⟩ := isPoly_ev hm
    obtain ⟨N, hN⟩ := needs_ev hm l.length
    dsimp only at hC hD hG hH hN
    have hw : wrap64 ((i : Int) + 1) = ((i + 1 : Nat) : Int) := by rw [w64 (by omega) (by omega)]; omega
    have er : rd_L4 l (i : Int) = l.getD i [] := by unfold rd_L4; rw [Int.toNat_natCast]
    have e1 : sysRun l (d + 1) i = if goodT (l.getD i []) = true then (nd l.length (l.getD i []) && sysRun l d (i + 1)) else false := rfl
    rw [e1]
    constructor
    · refine ⟨C + G + 1000010, fun K hK => ?_⟩
      obtain ⟨K, rfl⟩ : ∃ j, K = j + 1 := ⟨K - 1, by omega⟩
      simp only [spec_poSystem.l0]
      rw [if_pos (by omega), if_pos (by omega), if_pos (by omega), er, hG K (by omega)]; simp only [bs']
      by_cases hg : goodT (l.getD i []) = true
      · rw [if_pos hg, if_pos hg]
        exact sys_l1 (l := l) (p := l.getD i []) hm (C := C) (fun K h => by rw [hw]; exact hC K h) (3 - l.length) l.length K (by omega) (by omega) (by omega)
      · rw [if_neg hg, if_neg hg]
    · refine ⟨D + H + N + 10, fun K hK => ?_⟩
      obtain ⟨K, rfl⟩ : ∃ j, K = j + 1 := ⟨K - 1, by omega⟩
      simp only [impl_isSystem.l0]
      rw [if_pos (by omega), if_pos (by omega), if_pos (by omega), er, hH K (by omega)]; simp only [bs']
      by_cases hg : goodT (l.getD i []) = true
      · rw [if_pos hg, if_pos hg, hN K (by omega)]; simp only [bs']
        by_cases hn : nd l.length (l.getD i []) = true
        · rw [if_pos hn, hn, Bool.true_and, hw]; exact hD K (by omega)
        · rw [if_neg hn, Bool.eq_false_iff.2 hn, Bool.false_and]
      · rw [if_neg hg, if_neg hg]
def sysB (l : List (List S62)) : Bool := sysRun l l.length 0
theorem poSystem_ev {l : List (List S62)} (hl : l.length ≤ 1000000) (hy : ∀ y ∈ l, y.length ≤ 1000000) : Ev (fun K => spec_poSystem.f K l) (sysB l) := (sys_l0 hl hy l.length 0 (by omega)).1
theorem isSystem_ev {l : List (List S62)} (hl : l.length ≤ 1000000) (hy : ∀ y ∈ l, y.length ≤ 1000000) : Ev (fun K => impl_isSystem.f K l) (sysB l) := (sys_l0 hl hy l.length 0 (by omega)).2
end Go.Proofs.YthanmlojikidbaaGreat.PD
