import Derived.Test.YtgaoniapddpaaaaQCornOfPDx1
/- Numbers in Go's own arithmetic, and the reference's way to bring n / 2^k into its form: plain lemmas on the printed functions. -/
namespace Go.Proofs.Ytgaoniapddpaaaa.PD
open Go.RowKit Go.Proofs.YtgaoniapddpaaaaW.PrintWords Go.Proofs.YtgaoniapddpaaaaW.PrintLast Go.Proofs.YtgaoniapddpaaaaW.PrintMore
theorem w64 {x : Int} (h1 : -9223372036854775808 ≤ x) (h2 : x ≤ 9223372036854775807) : wrap64 x = x := by unfold wrap64; omega
theorem u64w (n : Int) : IntKind.u64.wrap n = n % 18446744073709551616 := by simp [IntKind.wrap, IntKind.bits, IntKind.signed]
theorem u64s {n : Int} (h0 : 0 ≤ n) (h1 : n < 18446744073709551616) : IntKind.u64.wrap n = n := by rw [u64w]; omega
theorem tdiv_two {n : Int} (h : n % 2 = 0) : Int.tdiv n 2 = n / 2 := by
  have : (2 : Int) ∣ n := Int.dvd_of_emod_eq_zero h
  rw [Int.tdiv_eq_ediv]; simp [this]
theorem tmod_two {n : Int} : Int.tmod n 2 = 0 ↔ n % 2 = 0 :=
  ⟨fun h => Int.emod_eq_zero_of_dvd (Int.dvd_of_tmod_eq_zero h), fun h => Int.tmod_eq_zero_of_dvd (Int.dvd_of_emod_eq_zero h)⟩
/-- A quotient rounded down, by a number above 0: its bounds. -/
theorem ediv_between {a b : Int} (hb : 0 < b) : (0 ≤ a → 0 ≤ a / b ∧ a / b ≤ a) ∧ (a < 0 → a ≤ a / b ∧ a / b < 0) := by
  refine ⟨fun h => ⟨Int.ediv_nonneg h (by omega), Int.ediv_le_self _ h⟩, fun h => ⟨?_, Int.ediv_neg_of_neg_of_pos h hb⟩⟩
  apply Int.le_ediv_of_mul_le hb
  have h1 : (-a) * 1 ≤ (-a) * b := Int.mul_le_mul_of_nonneg_left (by omega) (by omega)
  rw [Int.mul_one, Int.neg_mul] at h1
  omega
theorem l1In_eq (a lo hi : Int) : spec_l1In.f a lo hi = some (decide (lo ≤ a ∧ a ≤ hi)) := by
  unfold spec_l1In.f
  by_cases h : lo ≤ a
  · rw [if_pos h]; simp [h]
  · rw [if_neg h]; simp [h]
theorem inside_eq (a lo hi : Int) : impl_inside.f a lo hi = some (decide (lo ≤ a ∧ a ≤ hi)) := by
  unfold impl_inside.f
  by_cases h : lo ≤ a
  · rw [if_pos h]; simp [h]
  · rw [if_neg h]; simp [h]
/-- A valid dyadic number. -/
def good (n k : Int) : Bool := decide (0 ≤ k ∧ k ≤ 24 ∧ -1099511627776 ≤ n ∧ n ≤ 1099511627776 ∧ (k = 0 ∨ n % 2 ≠ 0))
theorem good_iff {n k : Int} : good n k = true ↔ 0 ≤ k ∧ k ≤ 24 ∧ -1099511627776 ≤ n ∧ n ≤ 1099511627776 ∧ (k = 0 ∨ n % 2 ≠ 0) := by
  unfold good; rw [decide_eq_true_iff]
theorem good_last (n k : Int) (h1 : 0 ≤ k ∧ k ≤ 24) (h2 : -1099511627776 ≤ n ∧ n ≤ 1099511627776) : (if k = 0 then (some true) else (some ((Int.tmod n 2) != 0))) = some (good n k) := by
  by_cases hk : k = 0
  · rw [if_pos hk]
    have : good n k = true := good_iff.2 ⟨h1.1, h1.2, h2.1, h2.2, .inl hk⟩
    rw [this]
  · rw [if_neg hk]
    congr 1
    by_cases hn : n % 2 = 0
    · rw [tmod_two.2 hn]
      have : good n k = false := by
        rw [Bool.eq_false_iff]; intro h
        have := (good_iff.1 h).2.2.2.2
        omega
      rw [this]; rfl
    · have h3 : Int.tmod n 2 ≠ 0 := fun h => hn (tmod_two.1 h)
      have : good n k = true := good_iff.2 ⟨h1.1, h1.2, h2.1, h2.2, .inr hn⟩
      rw [this]; simpa using h3
theorem dyGood_eq (n k : Int) : spec_dyGood.f n k = some (good n k) := by
  unfold spec_dyGood.f
  rw [l1In_eq]; simp only [Option.bind_some]
  by_cases h1 : 0 ≤ k ∧ k ≤ 24
  · rw [if_pos (by simpa using h1), l1In_eq]; simp only [Option.bind_some]
    by_cases h2 : -1099511627776 ≤ n ∧ n ≤ 1099511627776
    · rw [if_pos (by simpa using h2)]
      exact good_last n k h1 h2
    · rw [if_neg (by simpa using h2)]
      have : good n k = false := by
        rw [Bool.eq_false_iff]; intro h
        have := good_iff.1 h; omega
      rw [this]
  · rw [if_neg (by simpa using h1)]
    have : good n k = false := by
      rw [Bool.eq_false_iff]; intro h
      have := good_iff.1 h; omega
    rw [this]
/-- n / 2^k in its form. -/
def redN : Nat → Int → Int × Nat
  | 0, n => (n, 0)
  | k + 1, n => if n % 2 = 0 then redN k (n / 2) else (n, k + 1)
def fin (n : Int) (k : Nat) : Int × Int × Bool := if good (redN k n).1 ((redN k n).2 : Int) = true then ((redN k n).1, ((redN k n).2 : Int), true) else (0, 0, false)
def mk (n : Int) (k : Nat) : Int × Int × Bool := if n = 0 then (0, 0, true) else fin n k
theorem redN_odd {n : Int} (h : n % 2 ≠ 0) : ∀ k, redN k n = (n, k)
  | 0 => rfl
  | k + 1 => by unfold redN; rw [if_neg h]
theorem fin_odd {n : Int} {k : Nat} (h : n % 2 ≠ 0) : fin n k = if good n k = true then (n, (k : Int), true) else (0, 0, false) := by
  unfold fin; rw [redN_odd h]
theorem fin_zero (n : Int) : fin n 0 = if good n 0 = true then (n, 0, true) else (0, 0, false) := rfl
theorem dyMake_l0 : ∀ (k : Nat) (n : Int), k < 4611686018427387904 → -9223372036854775808 ≤ n → n ≤ 9223372036854775807 → Ev (fun K => spec_dyMake.l0 K n (k : Int)) (fin n k) := by
  intro k
  induction k with
  | zero =>
    intro n _ h1 h2
    refine ⟨1, fun K hK => ?_⟩
    obtain ⟨K, rfl⟩ : ∃ m, K = m + 1 := ⟨K - 1, by omega⟩
    simp only [spec_dyMake.l0]
    rw [if_neg (by omega), dyGood_eq, fin_zero]; simp only [Option.bind_some]
    show (if good n 0 = true then _ else _) = _
    split <;> rfl
  | succ k ih =>
    intro n hk h1 h2
    by_cases hn : n % 2 = 0
    · obtain ⟨K0, h0⟩ := ih (n / 2) (by omega) (by omega) (by omega)
      dsimp only at h0
      refine ⟨K0 + 1, fun K hK => ?_⟩
      obtain ⟨K, rfl⟩ : ∃ m, K = m + 1 := ⟨K - 1, by omega⟩
      simp only [spec_dyMake.l0]
      rw [if_pos (by omega), if_pos (tmod_two.2 hn), tdiv_two hn, w64 (by omega) (by omega), w64 (by omega) (by omega), show ((k + 1 : Nat) : Int) - 1 = (k : Int) by omega, h0 K (by omega)]
      unfold fin
      have : redN (k + 1) n = redN k (n / 2) := by
        show (if n % 2 = 0 then _ else _) = _
        rw [if_pos hn]
      rw [this]
    · refine ⟨1, fun K hK => ?_⟩
      obtain ⟨K, rfl⟩ : ∃ m, K = m + 1 := ⟨K - 1, by omega⟩
      simp only [spec_dyMake.l0]
      rw [if_pos (by omega), if_neg (fun h => hn (tmod_two.1 h)), dyGood_eq, fin_odd hn]; simp only [Option.bind_some]
      split <;> rfl
theorem dyMake_ev (n : Int) (k : Nat) (hk : k < 4611686018427387904) (h1 : -9223372036854775808 ≤ n) (h2 : n ≤ 9223372036854775807) : Ev (fun K => spec_dyMake.f K n (k : Int)) (mk n k) := by
  have key : ∀ (b : Bool), (b = true → n = 0) → (n = 0 → b = true ∨ k = 0) → Ev (fun K => spec_dyMake.j0 K n (k : Int) b) (mk n k) := by
    intro b hb hb2
    obtain ⟨K0, h0⟩ := dyMake_l0 k n hk h1 h2
    obtain ⟨K1, h01⟩ := dyMake_l0 0 n (by omega) h1 h2
    dsimp only at h0 h01
    refine ⟨K0 + K1 + 2, fun K hK => ?_⟩
    obtain ⟨K, rfl⟩ : ∃ m, K = m + 1 + 1 := ⟨K - 2, by omega⟩
    simp only [spec_dyMake.j0]
    cases b with
    | true =>
      rw [if_pos rfl]
      simp only [spec_dyMake.j1]
      have := h01 K (by omega)
      rw [show ((0 : Nat) : Int) = 0 from rfl] at this
      rw [this]
      have hn := hb rfl
      subst hn
      rfl
    | false =>
      rw [if_neg (by simp)]
      simp only [spec_dyMake.j1]
      rw [h0 K (by omega)]
      by_cases hn : n = 0
      · have : k = 0 := by
          rcases hb2 hn with h | h
          · cases h
          · exact h
        subst this; subst hn
        rfl
      · unfold mk; rw [if_neg hn]
  by_cases hn : n = 0
  · refine Ev.congr (f := fun K => spec_dyMake.j0 K n (k : Int) (decide ((k : Int) > 0))) (fun K => by unfold spec_dyMake.f; rw [if_pos hn]) (key _ (fun _ => hn) (fun _ => ?_))
    by_cases h : k = 0
    · exact .inr h
    · left; simp; omega
  · exact Ev.congr (f := fun K => spec_dyMake.j0 K n (k : Int) false) (fun K => by unfold spec_dyMake.f; rw [if_neg hn]) (key _ (fun h => by cases h) (fun h => absurd h hn))
theorem shl_one (k : Nat) (h : k ≤ 62) : shl .i64 1 (k : Int) = 2 ^ k := by
  have hp : (2 : Int) ^ k ≤ 2 ^ 62 := by
    have := Nat.pow_le_pow_right (show 0 < 2 by decide) h
    exact_mod_cast this
  have hp0 : (0 : Int) < 2 ^ k := by
    have := Nat.two_pow_pos k
    exact_mod_cast this
  unfold shl
  rw [Int.toNat_natCast, Nat.min_eq_left (by show k ≤ 64; omega), Int.one_mul, i64_w, w64 (by omega) (by
    have : (2 : Int) ^ 62 = 4611686018427387904 := by decide
    omega)]
theorem dyPower_eq (k : Nat) (h : k ≤ 62) : spec_dyPower.f (k : Int) = some (2 ^ k) := by
  unfold spec_dyPower.f
  rw [u64s (by omega) (by omega), if_pos (by omega), shl_one k h]
end Go.Proofs.Ytgaoniapddpaaaa.PD
