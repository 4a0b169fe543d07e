/- Square roots rounded down: the program's search and the reference's search come to one number: lemmas on the printed functions. -/
import Derived.Test.YthgalpfnfidcdaaPDx1
import Derived.Test.YthgalpfnfidcdaaMc
namespace Go.Proofs.Ythgalpfnfidcdaa.PD
open Go.RowKit Go.Proofs.YthgalpfnfidcdaaW.PrintWords Go.Proofs.YthgalpfnfidcdaaW.PrintLast Go.Proofs.YthgalpfnfidcdaaW.PrintMore
/-- As Option.bind_some, but no rfl lemma: the kernel is not asked to unfold the callee. -/
theorem bs {α β : Type} (a : α) (f : α → Option β) : (some a).bind f = f a := id (Option.bind_some a f)
/-- n 4^p / 2^k, rounded down. -/
def sq (n : Int) (k p : Nat) : Int := n * 2 ^ (2 * p) / 2 ^ k
/-- The root of S, rounded down. -/
def IsRoot (S m : Int) : Prop := 0 ≤ m ∧ m * m ≤ S ∧ S < (m + 1) * (m + 1)
theorem mul_mono {a b : Int} (ha : 0 ≤ a) (h : a ≤ b) : a * a ≤ b * b := Int.mul_le_mul h h ha (by omega)
theorem root_one {S m n : Int} (h1 : IsRoot S m) (h2 : IsRoot S n) : m = n := by
  obtain ⟨a0, a1, a2⟩ := h1
  obtain ⟨b0, b1, b2⟩ := h2
  rcases Int.lt_trichotomy m n with h | h | h
  · have := mul_mono (show 0 ≤ m + 1 by omega) (show m + 1 ≤ n by omega); omega
  · exact h
  · have := mul_mono (show 0 ≤ n + 1 by omega) (show n + 1 ≤ m by omega); omega
theorem sq_bound {n : Int} (hn : Small n) (h0 : 0 ≤ n) {k p : Nat} (hp : p ≤ 24) : 0 ≤ sq n k p ∧ sq n k p ≤ 309485009821345068724781056 := by
  obtain ⟨_, h2⟩ := hn
  have hk := pow_pos k
  have hq := pow_pos (2 * p)
  have hq2 : (2 : Int) ^ (2 * p) ≤ 281474976710656 := pow_le (b := 48) (by omega)
  have hm0 : 0 ≤ n * 2 ^ (2 * p) := Int.mul_nonneg h0 (by omega)
  have hm1 : n * 2 ^ (2 * p) ≤ 1099511627776 * 281474976710656 := Int.mul_le_mul h2 hq2 (by omega) (by decide)
  have hb := (ediv_between (a := n * 2 ^ (2 * p)) hk).1 hm0
  unfold sq; omega
theorem squareIn_ev {n : Int} (hn : Small n) (h0 : 0 ≤ n) {k p : Nat} (hk : k ≤ 24) (hp : p ≤ 24) {m : Int} (hm0 : 0 ≤ m) (hm1 : m ≤ 35184372088832) :
    Ev (fun K => spec_dySquareIn.f K m (p : Int) n (k : Int)) (decide (m * m ≤ sq n k p)) := by
  have hsm := hn
  obtain ⟨h1, h2⟩ := hn
  have hc := pow_pos p
  have hkp := pow_pos k
  have hc2 : (2 : Int) ^ p ≤ 16777216 := pow_le hp
  have hk2 : (2 : Int) ^ k ≤ 16777216 := pow_le hk
  have hT : (2 : Int) ^ (2 * p) = 2 ^ p * 2 ^ p := by rw [← Int.pow_add]; congr 1; omega
  -- the whole part and the rest
  have hw := Int.mul_ediv_add_emod n (2 ^ k)
  have hr0 : 0 ≤ n % 2 ^ k := Int.emod_nonneg _ (by omega)
  have hr1 : n % 2 ^ k < 2 ^ k := Int.emod_lt_of_pos _ hkp
  have hwb := (ediv_between (a := n) hkp).1 h0
  have hpq : (2 : Int) ^ k * 2 ^ (24 - k) = 16777216 := by rw [← Int.pow_add, show k + (24 - k) = 24 by omega]; rfl
  have hq := pow_pos (24 - k)
  have hrest1 : n % 2 ^ k * 2 ^ (24 - k) < 16777216 := by rw [← hpq]; exact Int.mul_lt_mul_of_pos_right hr1 hq
  have hrest0 : 0 ≤ n % 2 ^ k * 2 ^ (24 - k) := Int.mul_nonneg hr0 (by omega)
  have hS : sq n k p = n / 2 ^ k * 2 ^ (2 * p) + n % 2 ^ k * 2 ^ (24 - k) * 2 ^ (2 * p) / 16777216 := by
    unfold sq
    have e1 : n * 2 ^ (2 * p) = n % 2 ^ k * 2 ^ (2 * p) + n / 2 ^ k * 2 ^ (2 * p) * 2 ^ k := by
      have : n * 2 ^ (2 * p) = (2 ^ k * (n / 2 ^ k) + n % 2 ^ k) * 2 ^ (2 * p) := by rw [hw]
      rw [this, Int.add_mul, Int.add_comm, Int.mul_comm ((2 : Int) ^ k), Int.mul_right_comm]
    rw [e1, Int.add_mul_ediv_right _ _ (by omega), Int.add_comm]
    congr 1
    rw [Int.mul_right_comm, ← hpq, Int.mul_ediv_mul_of_pos_left _ _ hq]
  obtain ⟨x, ok, ⟨K0, hK0⟩, t, f⟩ := dyAt_ev (n := n % 2 ^ k) (ka := k) (k := 24) ⟨by omega, by omega⟩ hk (by omega)
  have hx : x = n % 2 ^ k * 2 ^ (24 - k) := by
    cases ok with
    | false => have := (f rfl).2.1; omega
    | true => exact (t rfl).1
  replace hK0 : ∀ K, K0 ≤ K → spec_dyAt.f K (n % 2 ^ k) (k : Int) 24 = some (x, ok) := hK0
  -- m = P c + q
  have hmq := Int.mul_ediv_add_emod m (2 ^ p)
  have hq0 : 0 ≤ m % 2 ^ p := Int.emod_nonneg _ (by omega)
  have hq1 : m % 2 ^ p < 2 ^ p := Int.emod_lt_of_pos _ hc
  have hPb := (ediv_between (a := m) hc).1 hm0
  rw [Int.mul_comm] at hw hmq
  generalize hW : n / 2 ^ k = w at *
  generalize hR : n % 2 ^ k * 2 ^ (24 - k) = r at *
  generalize hra : n % 2 ^ k = ra at *
  generalize hP : m / 2 ^ p = P at *
  generalize hQ : m % 2 ^ p = q at *
  have hTp : (0 : Int) < 2 ^ (2 * p) := pow_pos _
  have hT2 : (2 : Int) ^ (2 * p) ≤ 281474976710656 := pow_le (b := 48) (by omega)
  have hF0 : 0 ≤ r * 2 ^ (2 * p) / 16777216 := Int.ediv_nonneg (Int.mul_nonneg hrest0 (by omega)) (by decide)
  have hF1 : r * 2 ^ (2 * p) / 16777216 < 2 ^ (2 * p) := by
    apply Int.ediv_lt_of_lt_mul (by decide)
    rw [Int.mul_comm]
    exact Int.mul_lt_mul_of_pos_left hrest1 hTp
  have td : Int.tdiv m (2 ^ p) = P := by rw [Int.tdiv_eq_ediv_of_nonneg hm0, hP]
  have tm : Int.tmod m (2 ^ p) = q := by rw [Int.tmod_eq_emod_of_nonneg hm0, hQ]
  have hbody : ∀ K, K0 ≤ K → spec_dySquareIn.f K m (p : Int) n (k : Int) = some (decide (m * m ≤ sq n k p)) := by
    intro K hK
    unfold spec_dySquareIn.f
    rw [dyPower_eq p (by omega)]; simp only [bs]
    rw [if_neg (by omega), if_neg (by omega), td, tm, w64 (x := P) (by omega) (by omega)]
    by_cases c1 : P > 1048576
    · rw [if_pos c1]
      congr 1; symm; rw [decide_eq_false_iff_not, Int.not_le, hS]
      have e1 : (w + 1) * 2 ^ (2 * p) ≤ P * P * 2 ^ (2 * p) := by
        apply Int.mul_le_mul_of_nonneg_right _ (by omega)
        have := mul_mono (show (0 : Int) ≤ 1048577 by decide) (show 1048577 ≤ P by omega)
        omega
      have e2 : P * P * 2 ^ (2 * p) ≤ m * m := by
        have : P * 2 ^ p * (P * 2 ^ p) ≤ m * m := mul_mono (Int.mul_nonneg hPb.1 (by omega)) (by omega)
        rw [hT]
        have e3 : P * P * (2 ^ p * 2 ^ p) = P * 2 ^ p * (P * 2 ^ p) := by grind
        rw [e3]; exact this
      rw [Int.add_mul, Int.one_mul] at e1
      omega
    · rw [if_neg c1, floor_eq hsm hk, hW]; simp only [bs]
      rw [dyPower_eq k (by omega)]; simp only [bs]
      have era : wrap64 (n - wrap64 (w * 2 ^ k)) = ra := by rw [w64 (x := w * 2 ^ k) (by omega) (by omega), w64 (by omega) (by omega)]; omega
      rw [era, hK0 K hK]; simp only [bs]
      have hA0 : 0 ≤ 2 * P * q := Int.mul_nonneg (by omega) hq0
      have hA1 : 2 * P * q ≤ 2097152 * 16777216 := Int.mul_le_mul (by omega) (by omega) hq0 (by decide)
      have hPP0 : 0 ≤ P * P := Int.mul_nonneg hPb.1 hPb.1
      have hPP1 : P * P ≤ 1048576 * 1048576 := Int.mul_le_mul (by omega) (by omega) hPb.1 (by decide)
      have hqq0 : 0 ≤ q * q := Int.mul_nonneg hq0 hq0
      have hqq1 : q * q ≤ (2 ^ p - 1) * (2 ^ p - 1) := Int.mul_le_mul (by omega) (by omega) hq0 (by omega)
      have hmm : m * m = P * P * 2 ^ (2 * p) + 2 * P * q * 2 ^ p + q * q := by rw [hT, ← hmq]; grind
      have hAd := Int.mul_ediv_add_emod (2 * P * q) (2 ^ p)
      have ho0 : 0 ≤ 2 * P * q % 2 ^ p := Int.emod_nonneg _ (by omega)
      have ho1 : 2 * P * q % 2 ^ p < 2 ^ p := Int.emod_lt_of_pos _ hc
      have hDb := (ediv_between (a := 2 * P * q) hc).1 hA0
      have dA : Int.tdiv (2 * P * q) (2 ^ p) = 2 * P * q / 2 ^ p := Int.tdiv_eq_ediv_of_nonneg hA0
      have mA : Int.tmod (2 * P * q) (2 ^ p) = 2 * P * q % 2 ^ p := Int.tmod_eq_emod_of_nonneg hA0
      rw [if_neg (by omega), w64 (x := 2 * P) (by omega) (by omega), w64 (x := 2 * P * q) (by omega) (by omega), dA, mA, w64 (x := P * P) (by omega) (by omega)]
      generalize hD : 2 * P * q / 2 ^ p = D at *
      generalize hO : 2 * P * q % 2 ^ p = o at *
      have hAT : 2 * P * q * 2 ^ p = D * 2 ^ (2 * p) + o * 2 ^ p := by
        rw [hT, ← hAd]; grind
      rw [w64 (x := w - P * P) (by omega) (by omega), w64 (x := D) (by omega) (by omega), w64 (x := w - P * P - D) (by omega) (by omega), w64 (x := 2 * (p : Int)) (by omega) (by omega)]
      have hoc0 : 0 ≤ o * 2 ^ p := Int.mul_nonneg ho0 (by omega)
      have hoc1 : o * 2 ^ p ≤ (2 ^ p - 1) * 2 ^ p := Int.mul_le_mul_of_nonneg_right (by omega) (by omega)
      have hsum : o * 2 ^ p + q * q < 2 * 2 ^ (2 * p) := by
        have e1 : (2 ^ p - 1 : Int) * 2 ^ p = 2 ^ (2 * p) - 2 ^ p := by rw [hT]; grind
        have e2 : (2 ^ p - 1 : Int) * (2 ^ p - 1) = 2 ^ (2 * p) - 2 ^ p - 2 ^ p + 1 := by rw [hT]; grind
        omega
      have hiff : m * m ≤ sq n k p ↔ o * 2 ^ p + q * q ≤ (w - P * P - D) * 2 ^ (2 * p) + r * 2 ^ (2 * p) / 16777216 := by
        have e1 : (w - P * P - D) * 2 ^ (2 * p) = w * 2 ^ (2 * p) - P * P * 2 ^ (2 * p) - D * 2 ^ (2 * p) := by rw [Int.sub_mul, Int.sub_mul]
        rw [hmm, hS, hAT, e1]; omega
      generalize hL : w - P * P - D = L at *
      by_cases c2 : L < 0
      · rw [if_pos c2]
        congr 1; symm; rw [decide_eq_false_iff_not, hiff]
        have : L * 2 ^ (2 * p) ≤ -1 * 2 ^ (2 * p) := Int.mul_le_mul_of_nonneg_right (by omega) (by omega)
        omega
      · rw [if_neg c2]
        by_cases c3 : L > 4
        · rw [if_pos c3]
          congr 1; symm; rw [decide_eq_true_iff, hiff]
          have : 5 * 2 ^ (2 * p) ≤ L * 2 ^ (2 * p) := Int.mul_le_mul_of_nonneg_right (by omega) (by omega)
          omega
        · rw [if_neg c3, if_neg (by omega), show 2 * (p : Int) = ((2 * p : Nat) : Int) by omega, dyPower_eq (2 * p) (by omega)]; simp only [bs]
          have hLT0 : 0 ≤ L * 2 ^ (2 * p) := Int.mul_nonneg (by omega) (by omega)
          have hLT1 : L * 2 ^ (2 * p) ≤ 4 * 2 ^ (2 * p) := Int.mul_le_mul_of_nonneg_right (by omega) (by omega)
          have e2 : (2 ^ p - 1 : Int) * (2 ^ p - 1) = 2 ^ (2 * p) - 2 ^ p - 2 ^ p + 1 := by rw [hT]; grind
          rw [w64 (x := o * 2 ^ p) (by omega) (by omega), w64 (x := q * q) (by omega) (by omega), w64 (x := o * 2 ^ p + q * q) (by omega) (by omega), w64 (x := L * 2 ^ (2 * p)) (by omega) (by omega), hx]
          by_cases c4 : ((2 * p : Nat) : Int) ≥ 24
          · have e24 : (2 : Int) ^ (2 * p) = 2 ^ (2 * p - 24) * 16777216 := by
              have : (16777216 : Int) = 2 ^ 24 := rfl
              rw [this, ← Int.pow_add]; congr 1; omega
            have hpp := pow_pos (2 * p - 24)
            have hpp2 : (2 : Int) ^ (2 * p - 24) ≤ 16777216 := pow_le (b := 24) (by omega)
            have eF : r * 2 ^ (2 * p) / 16777216 = r * 2 ^ (2 * p - 24) := by
              rw [e24, ← Int.mul_assoc, Int.mul_ediv_cancel _ (by decide)]
            have hrp0 : 0 ≤ r * 2 ^ (2 * p - 24) := Int.mul_nonneg hrest0 (by omega)
            have hrp1 : r * 2 ^ (2 * p - 24) ≤ 16777216 * 16777216 := Int.mul_le_mul (by omega) hpp2 (by omega) (by decide)
            rw [if_pos c4, w64 (x := ((2 * p : Nat) : Int) - 24) (by omega) (by omega), show ((2 * p : Nat) : Int) - 24 = ((2 * p - 24 : Nat) : Int) by omega, dyPower_eq _ (by omega)]; simp only [bs]
            rw [w64 (x := r * 2 ^ (2 * p - 24)) (by omega) (by omega), w64 (by omega) (by omega)]
            congr 1; rw [decide_eq_decide, hiff, eF]
          · have hpp := pow_pos (24 - 2 * p)
            have hpq2 : (2 : Int) ^ (24 - 2 * p) * 2 ^ (2 * p) = 16777216 := by rw [← Int.pow_add, show 24 - 2 * p + 2 * p = 24 by omega]; rfl
            have eF : r * 2 ^ (2 * p) / 16777216 = r / 2 ^ (24 - 2 * p) := by
              rw [← hpq2, Int.mul_ediv_mul_of_pos_left _ _ hTp]
            have hrb := (ediv_between (a := r) hpp).1 hrest0
            rw [if_neg c4, w64 (x := 24 - ((2 * p : Nat) : Int)) (by omega) (by omega), show 24 - ((2 * p : Nat) : Int) = ((24 - 2 * p : Nat) : Int) by omega, dyPower_eq _ (by omega)]; simp only [bs]
            rw [if_neg (by omega), Int.tdiv_eq_ediv_of_nonneg hrest0, w64 (x := r / 2 ^ (24 - 2 * p)) (by omega) (by omega), w64 (by omega) (by omega)]
            congr 1; rw [decide_eq_decide, hiff, eF]
  exact ⟨K0, hbody⟩
theorem dyRoot_l0 {n : Int} (hn : Small n) (h0 : 0 ≤ n) {k p : Nat} (hk : k ≤ 24) (hp : p ≤ 24) : ∀ (d : Nat) (lo hi : Int), hi - lo ≤ d → 0 ≤ lo → lo < hi → hi ≤ 35184372088832 → lo * lo ≤ sq n k p → sq n k p < hi * hi →
    ∃ m, Ev (fun K => spec_dyRoot.l0 K (p : Int) lo hi n (k : Int)) (mk m p) ∧ IsRoot (sq n k p) m := by
  intro d
  induction d with
  | zero => intro lo hi h1 _ h2 _ _ _; omega
  | succ d ih =>
    intro lo hi hd l0 lh h45 hl hh
    by_cases c : hi - lo > 1
    · have hmid : wrap64 (Int.tdiv (wrap64 (lo + hi)) 2) = (lo + hi) / 2 := by
        rw [w64 (x := lo + hi) (by omega) (by omega), Int.tdiv_eq_ediv_of_nonneg (by omega), w64 (by omega) (by omega)]
      obtain ⟨K0, hK0⟩ := squareIn_ev hn h0 hk hp (m := (lo + hi) / 2) (by omega) (by omega)
      dsimp only at hK0
      have step : ∀ K, K0 ≤ K → spec_dyRoot.l0 (K + 1) (p : Int) lo hi n (k : Int) = if (lo + hi) / 2 * ((lo + hi) / 2) ≤ sq n k p then spec_dyRoot.l0 K (p : Int) ((lo + hi) / 2) hi n (k : Int) else spec_dyRoot.l0 K (p : Int) lo ((lo + hi) / 2) n (k : Int) := by
        intro K hK
        simp only [spec_dyRoot.l0]
        rw [w64 (x := hi - lo) (by omega) (by omega), if_pos c, hmid, hK0 K hK]; simp only [bs, decide_eq_true_eq]
      by_cases cs : (lo + hi) / 2 * ((lo + hi) / 2) ≤ sq n k p
      · obtain ⟨m, ⟨K1, hK1⟩, hm⟩ := ih ((lo + hi) / 2) hi (by omega) (by omega) (by omega) h45 cs hh
        dsimp only at hK1
        refine ⟨m, ⟨K0 + K1 + 1, fun K hK => ?_⟩, hm⟩
        obtain ⟨K, rfl⟩ : ∃ j, K = j + 1 := ⟨K - 1, by omega⟩
        dsimp only; rw [step K (by omega), if_pos cs, hK1 K (by omega)]
      · obtain ⟨m, ⟨K1, hK1⟩, hm⟩ := ih lo ((lo + hi) / 2) (by omega) l0 (by omega) (by omega) hl (by omega)
        dsimp only at hK1
        refine ⟨m, ⟨K0 + K1 + 1, fun K hK => ?_⟩, hm⟩
        obtain ⟨K, rfl⟩ : ∃ j, K = j + 1 := ⟨K - 1, by omega⟩
        dsimp only; rw [step K (by omega), if_neg cs, hK1 K (by omega)]
    · obtain ⟨K1, hK1⟩ := dyMake_ev lo p (by omega) (by omega) (by omega)
      dsimp only at hK1
      refine ⟨lo, ⟨K1 + 1, fun K hK => ?_⟩, l0, hl, ?_⟩
      · obtain ⟨K, rfl⟩ : ∃ j, K = j + 1 := ⟨K - 1, by omega⟩
        simp only [spec_dyRoot.l0]
        rw [w64 (x := hi - lo) (by omega) (by omega), if_neg c, hK1 K (by omega)]; rfl
      · have : hi = lo + 1 := by omega
        rw [← this]; exact hh
theorem dyRoot_ev {n : Int} (hn : Small n) (h0 : 0 ≤ n) {k p : Nat} (hk : k ≤ 24) (hp : p ≤ 24) : ∃ m, Ev (fun K => spec_dyRoot.f K n (k : Int) (p : Int)) (mk m p) ∧ IsRoot (sq n k p) m := by
  obtain ⟨b0, b1⟩ := sq_bound hn h0 (k := k) hp
  obtain ⟨m, ⟨K0, hK0⟩, hm⟩ := dyRoot_l0 hn h0 hk hp 35184372088832 0 35184372088832 (by omega) (by omega) (by omega) (by omega) (by omega) (by omega)
  dsimp only at hK0
  refine ⟨m, ⟨K0, fun K hK => ?_⟩, hm⟩
  dsimp only; unfold spec_dyRoot.f
  have p45 : spec_dyPower.f 45 = some 35184372088832 := dyPower_eq 45 (by decide)
  rw [p45]; simp only [bs]
  rw [hK0 K hK]
theorem root_l0 {S : Int} {h l : Int} (W : Wide h l) (hnum : num h l = S) {p : Nat} (hp : p ≤ 24) : ∀ (d : Nat) (lo hi : Int), hi - lo < d → 0 ≤ lo → lo ≤ hi → hi ≤ 35184372088832 → lo * lo ≤ S → S < (hi + 1) * (hi + 1) →
    ∃ m, Ev (fun K => impl_RootDown.l0 K (p : Int) lo hi false h l) (mk m p) ∧ IsRoot S m := by
  intro d
  induction d with
  | zero => intro lo hi h1 _ h2 _ _ _; omega
  | succ d ih =>
    intro lo hi hd l0 lh h45 hl hh
    by_cases c : lo < hi
    · have hmid : wrap64 (Int.tdiv (wrap64 ((wrap64 (lo + hi)) + 1)) 2) = (lo + hi + 1) / 2 := by
        rw [w64 (x := lo + hi) (by omega) (by omega), w64 (x := lo + hi + 1) (by omega) (by omega), Int.tdiv_eq_ediv_of_nonneg (by omega), w64 (by omega) (by omega)]
      obtain ⟨nn, hh', ll', et, W', hv⟩ := timesWide_ev (a := (lo + hi + 1) / 2) (b := (lo + hi + 1) / 2) (by omega) (by omega) (by omega) (by omega)
      obtain ⟨K0, hK0⟩ := compareWide_ev (n0 := nn) (n1 := false) W' W
      dsimp only at hK0
      rw [hv, sg_false, hnum] at hK0
      have step : ∀ K, K0 ≤ K → impl_RootDown.l0 (K + 1) (p : Int) lo hi false h l = if (lo + hi + 1) / 2 * ((lo + hi + 1) / 2) ≤ S then impl_RootDown.l0 K (p : Int) ((lo + hi + 1) / 2) hi false h l else impl_RootDown.l0 K (p : Int) lo ((lo + hi + 1) / 2 - 1) false h l := by
        intro K hK
        simp only [impl_RootDown.l0]
        rw [if_pos c, hmid, et]; simp only [bs]
        rw [hK0 K hK]; simp only [bs]
        rw [w64 (x := (lo + hi + 1) / 2 - 1) (by omega) (by omega)]
        unfold cmpI
        by_cases cs : (lo + hi + 1) / 2 * ((lo + hi + 1) / 2) ≤ S
        · rw [if_pos cs, if_pos (by split <;> first | decide | (rw [if_neg (by omega)]; decide))]
        · rw [if_neg cs, if_neg (by rw [if_neg (by omega), if_pos (by omega)]; decide)]
      by_cases cs : (lo + hi + 1) / 2 * ((lo + hi + 1) / 2) ≤ S
      · obtain ⟨m, ⟨K1, hK1⟩, hm⟩ := ih ((lo + hi + 1) / 2) hi (by omega) (by omega) (by omega) h45 cs hh
        dsimp only at hK1
        refine ⟨m, ⟨K0 + K1 + 1, fun K hK => ?_⟩, hm⟩
        obtain ⟨K, rfl⟩ : ∃ j, K = j + 1 := ⟨K - 1, by omega⟩
        dsimp only; rw [step K (by omega), if_pos cs, hK1 K (by omega)]
      · obtain ⟨m, ⟨K1, hK1⟩, hm⟩ := ih lo ((lo + hi + 1) / 2 - 1) (by omega) l0 (by omega) (by omega) hl (by rw [show (lo + hi + 1) / 2 - 1 + 1 = (lo + hi + 1) / 2 by omega]; omega)
        dsimp only at hK1
        refine ⟨m, ⟨K0 + K1 + 1, fun K hK => ?_⟩, hm⟩
        obtain ⟨K, rfl⟩ : ∃ j, K = j + 1 := ⟨K - 1, by omega⟩
        dsimp only; rw [step K (by omega), if_neg cs, hK1 K (by omega)]
    · have : hi = lo := by omega
      subst this
      obtain ⟨l', e, pl0, pl1, pl2, pl3⟩ := wideOf_ev (n := hi) (by omega) (by omega)
      have hn0 : num 0 l' = l' := by unfold num; omega
      obtain ⟨K1, hK1⟩ := fit_ev (n := decide (hi < 0)) (h := 0) (l := l') ⟨by omega, by omega, by omega, by omega⟩ (k := p) (by omega)
      dsimp only at hK1
      rw [hn0, pl2] at hK1
      refine ⟨hi, ⟨K1 + 1, fun K hK => ?_⟩, l0, hl, hh⟩
      obtain ⟨K, rfl⟩ : ∃ j, K = j + 1 := ⟨K - 1, by omega⟩
      simp only [impl_RootDown.l0]
      rw [if_neg c, e]; simp only [bs]
      rw [hK1 K (by omega)]; rfl
theorem root_ev {n : Int} (hn : Small n) (h0 : 0 ≤ n) {k p : Nat} (hk : k ≤ 24) (hp : p ≤ 24) : ∃ m, Ev (fun K => impl_RootDown.j0 K (p : Int) false n (k : Int)) (mk m p) ∧ IsRoot (sq n k p) m := by
  obtain ⟨b0, b1⟩ := sq_bound hn h0 (k := k) hp
  obtain ⟨l', e, pl0, pl1, pl2, pl3⟩ := wideOf_ev (n := n) (by have := hn.1; omega) (by have := hn.2; omega)
  have hneg : decide (n < 0) = false := by simpa using h0
  rw [hneg] at e pl2
  rw [sg_false] at pl2
  subst pl2
  have hn0 : num 0 l' = l' := by unfold num; omega
  obtain ⟨s1, s2⟩ := hn
  have hp2 : (2 : Int) ^ (2 * (p : Int) - (k : Int)).toNat ≤ 281474976710656 := pow_le (b := 48) (by omega)
  have hp0 := pow_pos (2 * (p : Int) - (k : Int)).toNat
  have hm1 : l' * 2 ^ (2 * (p : Int) - (k : Int)).toNat ≤ 1099511627776 * 281474976710656 := Int.mul_le_mul s2 hp2 (by omega) (by decide)
  obtain ⟨h, l, e2, W, hv⟩ := shift_any (n := false) (h := 0) (l := l') ⟨by omega, by omega, by omega, by omega⟩ (s := 2 * (p : Int) - (k : Int)) (by omega) (by omega) (by rw [hn0]; omega)
  rw [hn0] at hv
  have hS : num h l = sq l' k p := by
    rw [hv]; unfold sq
    by_cases c : k ≤ 2 * p
    · have e1 : (2 : Int) ^ (2 * p) = 2 ^ (2 * (p : Int) - (k : Int)).toNat * 2 ^ k := by rw [← Int.pow_add]; congr 1; omega
      rw [e1, show (-(2 * (p : Int) - (k : Int))).toNat = 0 by omega, Int.pow_zero, Int.ediv_one, ← Int.mul_assoc, Int.mul_ediv_cancel _ (by have := pow_pos k; omega)]
    · have e1 : (2 : Int) ^ k = 2 ^ (-(2 * (p : Int) - (k : Int))).toNat * 2 ^ (2 * p) := by rw [← Int.pow_add]; congr 1; omega
      rw [e1, show (2 * (p : Int) - (k : Int)).toNat = 0 by omega, Int.pow_zero, Int.mul_one, Int.mul_ediv_mul_of_pos_left _ _ (pow_pos _)]
  obtain ⟨m, ⟨K0, hK0⟩, hm⟩ := root_l0 (S := sq l' k p) W hS hp 35184372088833 0 35184372088832 (by omega) (by omega) (by omega) (by omega) (by omega) (by omega)
  dsimp only at hK0
  refine ⟨m, ⟨K0 + 1, fun K hK => ?_⟩, hm⟩
  obtain ⟨K, rfl⟩ : ∃ j, K = j + 1 := ⟨K - 1, by omega⟩
  simp only [impl_RootDown.j0]
  rw [if_neg (by decide), e]; simp only [bs]
  rw [w64 (x := 2 * (p : Int)) (by omega) (by omega), w64 (by omega) (by omega), e2]; simp only [bs]
  rw [hK0 K (by omega)]
end Go.Proofs.Ythgalpfnfidcdaa.PD
