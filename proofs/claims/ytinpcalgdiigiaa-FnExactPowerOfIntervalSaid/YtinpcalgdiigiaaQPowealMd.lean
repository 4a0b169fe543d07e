import Derived.Test.YtinpcalgdiigiaaQPowealPDx1
import Derived.Test.YtinpcalgdiigiaaQPowealMc
/- Products of dyadic numbers: lemmas on the printed functions. -/
namespace Go.Proofs.Ytinpcalgdiigiaa.PD
open Go.RowKit Go.Proofs.YtinpcalgdiigiaaW.PrintWords Go.Proofs.YtinpcalgdiigiaaW.PrintLast Go.Proofs.YtinpcalgdiigiaaW.PrintMore
theorem productOf_ev {a b : Int} {ka kb : Nat} (ha : Small a) (hb : Small b) (hka : ka ≤ 24) (hkb : kb ≤ 24) :
    Ev (fun K => impl_productOf.f K a (ka : Int) b (kb : Int)) (mk (a * b) (ka + kb)) := by
  obtain ⟨a1, a2⟩ := ha
  obtain ⟨b1, b2⟩ := hb
  obtain ⟨n, h, l, e, W, v⟩ := timesWide_ev (a := a) (b := b) (by omega) (by omega) (by omega) (by omega)
  obtain ⟨K0, h0⟩ := fit_ev (n := n) W (k := ka + kb) (by omega)
  dsimp only at h0
  refine ⟨K0, fun K hK => ?_⟩
  dsimp only; unfold impl_productOf.f
  rw [e]; simp only [Option.bind_some]
  rw [w64 (by omega) (by omega), show (ka : Int) + (kb : Int) = ((ka + kb : Nat) : Int) by omega, h0 K hK, v]; rfl
theorem abs_eq {a : Int} (ha : Small a) : spec_l1Abs.f a = some (if a < 0 then -a else a) := by
  obtain ⟨a1, a2⟩ := ha
  unfold spec_l1Abs.f spec_l1Most.f
  rw [w64 (by omega) (by omega)]
  by_cases h : a < 0
  · rw [if_neg (by omega), if_pos h]; rfl
  · rw [if_neg h]
    by_cases h2 : a > -a
    · rw [if_pos h2]; rfl
    · rw [if_neg h2]; simp only [Option.bind_some]; congr 1; omega
theorem mul_odd {a b : Int} (ha : a % 2 ≠ 0) (hb : b % 2 ≠ 0) : (a * b) % 2 ≠ 0 := by
  rw [Int.mul_emod, show a % 2 = 1 by omega, show b % 2 = 1 by omega]; decide
theorem dyMul_j4 {a b : Int} {k : Nat} (aK bK : Int) (ha : Small a) (hb : Small b) (hb0 : b ≠ 0) (hk : k < 1000) (hodd : k = 0 ∨ (a % 2 ≠ 0 ∧ b % 2 ≠ 0)) :
    Ev (fun K => spec_dyMul.j4 K (k : Int) a aK b bK) (mk (a * b) k) := by
  have ea := abs_eq ha
  have eb := abs_eq hb
  obtain ⟨a1, a2⟩ := ha
  obtain ⟨b1, b2⟩ := hb
  have hB : 0 < (if b < 0 then -b else b) := by split <;> omega
  have hd : Int.tdiv (1099511627776 : Int) (if b < 0 then -b else b) = 1099511627776 / (if b < 0 then -b else b) := Int.tdiv_eq_ediv_of_nonneg (by decide)
  have hbt := (ediv_between (a := 1099511627776) hB).1 (by decide)
  have hlt : 1099511627776 / (if b < 0 then -b else b) < (if a < 0 then -a else a) ↔ 1099511627776 < (if a < 0 then -a else a) * (if b < 0 then -b else b) := Int.ediv_lt_iff_lt_mul hB
  have hab : (if a < 0 then -a else a) * (if b < 0 then -b else b) = if a * b < 0 then -(a * b) else a * b := by
    by_cases h1 : a < 0 <;> by_cases h2 : b < 0
    · have := Int.mul_nonneg_of_nonpos_of_nonpos (show a ≤ 0 by omega) (show b ≤ 0 by omega)
      simp only [h1, h2, if_true, Int.neg_mul, Int.mul_neg, Int.neg_neg]; rw [if_neg (by omega)]
    · have := Int.mul_neg_of_neg_of_pos h1 (show 0 < b by omega)
      simp only [h1, h2, if_true, if_false, Int.neg_mul]; rw [if_pos this]
    · rcases Int.lt_or_le 0 a with h3 | h3
      · have := Int.mul_neg_of_pos_of_neg h3 h2
        simp only [h1, h2, if_true, if_false, Int.mul_neg]; rw [if_pos this]
      · have : a = 0 := by omega
        subst this; simp
    · have := Int.mul_nonneg (show 0 ≤ a by omega) (show 0 ≤ b by omega)
      simp only [h1, h2, if_false]; rw [if_neg (by omega)]
  rw [hab] at hlt
  generalize (if b < 0 then -b else b) = B at *
  generalize (if a < 0 then -a else a) = A at *
  have body : ∀ K, spec_dyMul.j4 (K + 1) (k : Int) a aK b bK = if 1099511627776 / B < A then some (0, 0, false) else (spec_dyMake.f K (wrap64 (a * b)) (k : Int)).bind fun bt => some (bt.1, bt.2.1, bt.2.2) := by
    intro K
    simp only [spec_dyMul.j4]
    rw [ea]; simp only [Option.bind_some]
    rw [eb]; simp only [Option.bind_some]
    rw [if_neg (by omega), hd, w64 (by omega) (by omega)]
  by_cases hc : 1099511627776 / B < A
  · refine ⟨1, fun K hK => ?_⟩
    obtain ⟨K, rfl⟩ : ∃ m, K = m + 1 := ⟨K - 1, by omega⟩
    dsimp only; rw [body, if_pos hc, mk_far]
    · rcases hodd with h | h
      · exact .inr h
      · exact .inl (mul_odd h.1 h.2)
    · have := hlt.1 hc
      split at this <;> omega
  · have hs : ¬ 1099511627776 < (if a * b < 0 then -(a * b) else a * b) := fun h => hc (hlt.2 h)
    have hs2 : -1099511627776 ≤ a * b ∧ a * b ≤ 1099511627776 := by split at hs <;> omega
    obtain ⟨K0, h0⟩ := dyMake_ev (a * b) k (by omega) (by omega) (by omega)
    dsimp only at h0
    refine ⟨K0 + 1, fun K hK => ?_⟩
    obtain ⟨K, rfl⟩ : ∃ m, K = m + 1 := ⟨K - 1, by omega⟩
    dsimp only; rw [body, if_neg hc, w64 (by omega) (by omega), h0 K (by omega)]; rfl
theorem mul_half {a b : Int} (h : b % 2 = 0) (k : Nat) : mk (a * b) (k + 1) = mk (a * (b / 2)) k := by
  obtain ⟨c, rfl⟩ : ∃ c, b = 2 * c := ⟨b / 2, by omega⟩
  rw [show 2 * c / 2 = c by omega, Int.mul_left_comm, mk_two]
theorem dyMul_l1 (aK bK a : Int) (ha : Small a) : ∀ (k : Nat) (b : Int), Small b → b ≠ 0 → k < 1000 → (k = 0 ∨ a % 2 ≠ 0) → Ev (fun K => spec_dyMul.l1 K (k : Int) a aK b bK) (mk (a * b) k) := by
  intro k
  induction k with
  | zero =>
    intro b hb hb0 _ _
    obtain ⟨K0, h0⟩ := dyMul_j4 aK bK ha hb hb0 (k := 0) (by omega) (.inl rfl)
    dsimp only at h0
    refine ⟨K0 + 1, fun K hK => ?_⟩
    obtain ⟨K, rfl⟩ : ∃ m, K = m + 1 := ⟨K - 1, by omega⟩
    simp only [spec_dyMul.l1]
    rw [if_neg (by omega), h0 K (by omega)]
  | succ k ih =>
    intro b hb hb0 hk hodd
    by_cases hn : b % 2 = 0
    · obtain ⟨K0, h0⟩ := ih (b / 2) ⟨by have := hb.1; omega, by have := hb.2; omega⟩ (by omega) (by omega) (by omega)
      dsimp only at h0
      refine ⟨K0 + 1, fun K hK => ?_⟩
      obtain ⟨K, rfl⟩ : ∃ m, K = m + 1 := ⟨K - 1, by omega⟩
      simp only [spec_dyMul.l1]
      rw [if_pos (by omega), if_pos (tmod_two.2 hn), tdiv_two hn, w64 (by omega) (by omega), w64 (by have := hb.1; omega) (by have := hb.2; omega), show ((k + 1 : Nat) : Int) - 1 = (k : Int) by omega, h0 K (by omega), mul_half hn]
    · obtain ⟨K0, h0⟩ := dyMul_j4 aK bK ha hb hb0 (k := k + 1) (by omega) (.inr ⟨by omega, hn⟩)
      dsimp only at h0
      refine ⟨K0 + 1, fun K hK => ?_⟩
      obtain ⟨K, rfl⟩ : ∃ m, K = m + 1 := ⟨K - 1, by omega⟩
      simp only [spec_dyMul.l1]
      rw [if_pos (by omega), if_neg (fun h => hn (tmod_two.1 h)), h0 K (by omega)]
theorem dyMul_l0 (aK bK b : Int) (hb : Small b) (hb0 : b ≠ 0) : ∀ (k : Nat) (a : Int), Small a → k < 1000 → Ev (fun K => spec_dyMul.l0 K (k : Int) a aK b bK) (mk (a * b) k) := by
  have j2 : ∀ (k : Nat) (a : Int), Small a → k < 1000 → (k = 0 ∨ a % 2 ≠ 0) → Ev (fun K => spec_dyMul.j2 K (k : Int) a aK b bK) (mk (a * b) k) := by
    intro k a ha hk hodd
    obtain ⟨K0, h0⟩ := dyMul_l1 aK bK a ha k b hb hb0 hk hodd
    dsimp only at h0
    refine ⟨K0 + 1, fun K hK => ?_⟩
    obtain ⟨K, rfl⟩ : ∃ m, K = m + 1 := ⟨K - 1, by omega⟩
    simp only [spec_dyMul.j2]
    exact h0 K (by omega)
  intro k
  induction k with
  | zero =>
    intro a ha _
    obtain ⟨K0, h0⟩ := j2 0 a ha (by omega) (.inl rfl)
    dsimp only at h0
    refine ⟨K0 + 1, fun K hK => ?_⟩
    obtain ⟨K, rfl⟩ : ∃ m, K = m + 1 := ⟨K - 1, by omega⟩
    simp only [spec_dyMul.l0]
    rw [if_neg (by omega), h0 K (by omega)]
  | succ k ih =>
    intro a ha hk
    by_cases hn : a % 2 = 0
    · obtain ⟨K0, h0⟩ := ih (a / 2) ⟨by have := ha.1; omega, by have := ha.2; omega⟩ (by omega)
      dsimp only at h0
      refine ⟨K0 + 1, fun K hK => ?_⟩
      obtain ⟨K, rfl⟩ : ∃ m, K = m + 1 := ⟨K - 1, by omega⟩
      simp only [spec_dyMul.l0]
      rw [if_pos (by omega), if_pos (tmod_two.2 hn), tdiv_two hn, w64 (by omega) (by omega), w64 (by have := ha.1; omega) (by have := ha.2; omega), show ((k + 1 : Nat) : Int) - 1 = (k : Int) by omega, h0 K (by omega), Int.mul_comm a b, mul_half hn, Int.mul_comm]
    · obtain ⟨K0, h0⟩ := j2 (k + 1) a ha (by omega) (.inr hn)
      dsimp only at h0
      refine ⟨K0 + 1, fun K hK => ?_⟩
      obtain ⟨K, rfl⟩ : ∃ m, K = m + 1 := ⟨K - 1, by omega⟩
      simp only [spec_dyMul.l0]
      rw [if_pos (by omega), if_neg (fun h => hn (tmod_two.1 h)), h0 K (by omega)]
theorem dyMul_ev {a b : Int} {ka kb : Nat} (ha : Small a) (hb : Small b) (hka : ka ≤ 24) (hkb : kb ≤ 24) :
    Ev (fun K => spec_dyMul.f K a (ka : Int) b (kb : Int)) (mk (a * b) (ka + kb)) := by
  have key : ∀ z : Bool, (z = true ↔ (a = 0 ∨ b = 0)) → Ev (fun K => spec_dyMul.j0 K z a (ka : Int) b (kb : Int)) (mk (a * b) (ka + kb)) := by
    intro z hz
    by_cases h : z = true
    · refine ⟨1, fun K hK => ?_⟩
      obtain ⟨K, rfl⟩ : ∃ m, K = m + 1 := ⟨K - 1, by omega⟩
      simp only [spec_dyMul.j0]
      rw [if_pos h]
      have : a * b = 0 := by rcases hz.1 h with rfl | rfl <;> simp
      unfold mk; rw [if_pos this]
    · have hb0 : b ≠ 0 := fun e => h (hz.2 (.inr e))
      obtain ⟨K0, h0⟩ := dyMul_l0 (ka : Int) (kb : Int) b hb hb0 (ka + kb) a ha (by omega)
      dsimp only at h0
      refine ⟨K0 + 1, fun K hK => ?_⟩
      obtain ⟨K, rfl⟩ : ∃ m, K = m + 1 := ⟨K - 1, by omega⟩
      simp only [spec_dyMul.j0]
      rw [if_neg h, w64 (by omega) (by omega), show (ka : Int) + (kb : Int) = ((ka + kb : Nat) : Int) by omega, h0 K (by omega)]
  by_cases h : a = 0
  · exact Ev.congr (f := fun K => spec_dyMul.j0 K true a (ka : Int) b (kb : Int)) (fun K => by unfold spec_dyMul.f; rw [if_pos h]) (key _ ⟨fun _ => .inl h, fun _ => rfl⟩)
  · refine Ev.congr (f := fun K => spec_dyMul.j0 K (b == 0) a (ka : Int) b (kb : Int)) (fun K => by unfold spec_dyMul.f; rw [if_neg h]) (key _ ?_)
    rw [beq_iff_eq]
    exact ⟨fun e => .inr e, fun e => e.resolve_left h⟩
end Go.Proofs.Ytinpcalgdiigiaa.PD
