import Derived.Test.YtgaoniapddpaaaaQHullesPDx1
import Derived.Test.YtgaoniapddpaaaaQHullesMu
import Derived.Test.YtgaoniapddpaaaaQHullesMs
/- Two boxes' rows over one power of two, and boxes made of them: plain lemmas on the printed functions. -/
namespace Go.Proofs.Ytgaoniapddpaaaa.PD
open Go.RowKit Go.Proofs.YtgaoniapddpaaaaW.PrintWords Go.Proofs.YtgaoniapddpaaaaW.PrintLast Go.Proofs.YtgaoniapddpaaaaW.PrintMore
theorem szBox_eq2 {k : Int} {L H : List Int} {n : Int} (n0 : 0 ≤ n) (n1 : n ≤ 1000000) (hL : L.length ≤ 9223372036854775807) (hH : H.length ≤ 9223372036854775807) : ∃ t, laws_szBox.f k L H n = some t ∧ (t < 0 ∨ (0 ≤ t ∧ t ≤ 1000000 ∧ L.length ≤ 1000000 ∧ H.length ≤ 1000000)) := by
  unfold laws_szBox.f
  rw [szInt_eq hL n0 n1]; simp only [bs']
  by_cases h : (L.length : Int) ≤ n
  · rw [if_pos h, if_neg (by omega), szInt_eq hH (by omega) (by omega)]; simp only [bs']
    by_cases h2 : (H.length : Int) ≤ n - L.length
    · rw [if_pos h2, if_neg (by omega)]
      exact ⟨_, rfl, .inr ⟨by omega, by omega, by omega, by omega⟩⟩
    · rw [if_neg h2, if_pos (by omega)]
      exact ⟨_, rfl, .inl (by omega)⟩
  · rw [if_neg h, if_pos (by omega)]
    exact ⟨_, rfl, .inl (by omega)⟩
def tms (p : Int) (x : Int) : Int := x * p
theorem pow_le8 {d : Nat} (h : d ≤ 8) : (1 : Int) ≤ 2 ^ d ∧ (2 : Int) ^ d ≤ 256 := by
  have := pow8 (k := (d : Int)) (by omega) (by omega)
  rw [Int.toNat_natCast] at this; exact this
theorem mul_bound {x p : Int} (hx : -2048 ≤ x ∧ x ≤ 2048) (hp : 1 ≤ p ∧ p ≤ 256) : -524288 ≤ x * p ∧ x * p ≤ 524288 := by
  have h1 : x * p ≤ 2048 * p := Int.mul_le_mul_of_nonneg_right hx.2 (by omega)
  have h2 : -2048 * p ≤ x * p := Int.mul_le_mul_of_nonneg_right hx.1 (by omega)
  omega
theorem scaled_ev {l : List Int} (hl : l.length ≤ 3) (hb : ∀ j, j < l.length → -2048 ≤ l.getD j 0 ∧ l.getD j 0 ≤ 2048) {d : Nat} (hd : d ≤ 8) : Ev (fun K => impl_scaled.f K l (d : Int)) (l.map (tms (2 ^ d))) := by
  have hp := pow_le8 hd
  have key : ∀ (e i K : Nat), i + e = l.length → e < K → impl_scaled.l0 K (d : Int) ((l.take i).map (tms (2 ^ d))) l (l.length : Int) (i : Int) = some (l.map (tms (2 ^ d))) := by
    intro e
    induction e with
    | zero =>
      intro i K hi hK
      obtain ⟨K, rfl⟩ : ∃ j, K = j + 1 := ⟨K - 1, by omega⟩
      simp only [impl_scaled.l0]
      rw [if_neg (by omega), List.take_of_length_le (by omega)]
    | succ e ih =>
      intro i K hi hK
      obtain ⟨K, rfl⟩ : ∃ j, K = j + 1 := ⟨K - 1, by omega⟩
      have hil : i < l.length := by omega
      have hx := mul_bound (hb i hil) hp
      have ih' := ih (i + 1) K (by omega) (by omega)
      rw [List.take_succ_eq_append_getElem hil, List.map_append, List.map_singleton] at ih'
      have he : l[i] = l.getD i 0 := by rw [List.getD_eq_getElem?_getD, List.getElem?_eq_getElem hil]; rfl
      rw [he] at ih'
      have hs : shl .i64 (l.getD i 0) (d : Int) = tms (2 ^ d) (l.getD i 0) := by
        unfold shl tms
        rw [Int.toNat_natCast, Nat.min_eq_left (by show d ≤ 64; omega), i64_w, w64 (by omega) (by omega)]
      simp only [impl_scaled.l0]
      rw [if_pos (by omega), if_pos (by omega), if_pos (by omega), if_pos (by omega), if_pos (by rw [List.length_map, List.length_take]; omega), rd_at, hs, w64 (by omega) (by omega), show (i : Int) + 1 = ((i + 1 : Nat) : Int) by omega]
      exact ih'
  refine ⟨l.length + 1, fun K hK => ?_⟩
  dsimp only; unfold impl_scaled.f
  exact key l.length 0 K (by omega) (by omega)
theorem bxAt_ev {k : Int} {L H : List Int} (G : BoxOk k L H) : Ev (fun K => spec_bxAt.f K k L H) (L.map (tms (2 ^ (8 - k.toNat))), H.map (tms (2 ^ (8 - k.toNat)))) := by
  have l3 := G.l3
  have hh := G.hl
  have k0 := G.k0
  have k8 := G.k8
  have hp := pow_le8 (show 8 - k.toNat ≤ 8 by omega)
  have key : ∀ (e i K : Nat), i + e = L.length → e < K → spec_bxAt.l0 K ((L.take i).map (tms (2 ^ (8 - k.toNat)))) ((H.take i).map (tms (2 ^ (8 - k.toNat)))) (2 ^ (8 - k.toNat)) L (L.length : Int) (i : Int) k L H = some (L.map (tms (2 ^ (8 - k.toNat))), H.map (tms (2 ^ (8 - k.toNat)))) := by
    intro e
    induction e with
    | zero =>
      intro i K hi hK
      obtain ⟨K, rfl⟩ : ∃ j, K = j + 1 := ⟨K - 1, by omega⟩
      simp only [spec_bxAt.l0]
      rw [if_neg (by omega), List.take_of_length_le (by omega), List.take_of_length_le (by omega)]
    | succ e ih =>
      intro i K hi hK
      obtain ⟨K, rfl⟩ : ∃ j, K = j + 1 := ⟨K - 1, by omega⟩
      have hil : i < L.length := by omega
      have hih : i < H.length := by omega
      have hs := okS_small k0 k8 (G.side i (by omega))
      have hx := mul_bound (show -2048 ≤ L.getD i 0 ∧ L.getD i 0 ≤ 2048 by omega) hp
      have hy := mul_bound (show -2048 ≤ H.getD i 0 ∧ H.getD i 0 ≤ 2048 by omega) hp
      have ih' := ih (i + 1) K (by omega) (by omega)
      rw [List.take_succ_eq_append_getElem hil, List.take_succ_eq_append_getElem hih, List.map_append, List.map_singleton, List.map_append, List.map_singleton] at ih'
      have he : L[i] = L.getD i 0 := by rw [List.getD_eq_getElem?_getD, List.getElem?_eq_getElem hil]; rfl
      have hf : H[i] = H.getD i 0 := by rw [List.getD_eq_getElem?_getD, List.getElem?_eq_getElem hih]; rfl
      rw [he, hf] at ih'
      simp only [spec_bxAt.l0]
      rw [if_pos (by omega), if_pos (by omega), if_pos (by omega), if_pos (by rw [List.length_map, List.length_take]; omega), if_pos (by omega), if_pos (by rw [List.length_map, List.length_take]; omega), rd_at, rd_at, w64 (x := L.getD i 0 * 2 ^ (8 - k.toNat)) (by omega) (by omega), w64 (x := H.getD i 0 * 2 ^ (8 - k.toNat)) (by omega) (by omega), w64 (by omega) (by omega), show (i : Int) + 1 = ((i + 1 : Nat) : Int) by omega]
      exact ih'
  refine ⟨L.length + 1, fun K hK => ?_⟩
  dsimp only; unfold spec_bxAt.f
  rw [w64 (by omega) (by omega), show (8 : Int) - k = ((8 - k.toNat : Nat) : Int) by omega, dyPower_eq _ (by omega)]; simp only [bs']
  exact key L.length 0 K (by omega) (by omega)
theorem lt_scaled {a b p : Int} (hp : 1 ≤ p) : a * p < b * p ↔ a < b :=
  ⟨fun h => Int.lt_of_mul_lt_mul_right h (by omega), fun h => Int.mul_lt_mul_of_pos_right h (by omega)⟩
theorem map_split (l : List Int) {a b c : Nat} (h : c = a + b) : l.map (tms (2 ^ c)) = (l.map (tms (2 ^ a))).map (tms (2 ^ b)) := by
  rw [List.map_map]
  congr 1
  funext x
  show x * 2 ^ c = x * 2 ^ a * 2 ^ b
  rw [h, Int.pow_add, Int.mul_assoc]
theorem tms_rng {L : List Int} (hb : ∀ j, j < L.length → -2048 ≤ L.getD j 0 ∧ L.getD j 0 ≤ 2048) {d : Nat} (hd : d ≤ 8) : Rng (L.map (tms (2 ^ d))) := by
  intro x hx
  obtain ⟨y, hy, rfl⟩ := List.mem_map.1 hx
  obtain ⟨j, hj, he⟩ := List.mem_iff_getElem.1 hy
  have h := hb j hj
  rw [List.getD_eq_getElem?_getD, List.getElem?_eq_getElem hj] at h
  have h2 : -2048 ≤ y ∧ y ≤ 2048 := by rw [← he]; exact h
  have := mul_bound h2 (pow_le8 hd)
  unfold tms; omega
/-- The first i of z, then what is left of l. -/
def prt (z l : List Int) (i : Nat) : List Int := z.take i ++ l.drop i
theorem prt_len {z l : List Int} (h : z.length = l.length) (i : Nat) : (prt z l i).length = l.length := by unfold prt; rw [List.length_append, List.length_take, List.length_drop]; omega
theorem prt_zero (z l : List Int) : prt z l 0 = l := by simp [prt]
theorem prt_all {z l : List Int} (h : z.length = l.length) {i : Nat} (hi : l.length ≤ i) : prt z l i = z := by unfold prt; rw [List.take_of_length_le (by omega), List.drop_of_length_le hi, List.append_nil]
theorem prt_get {z l : List Int} (h : z.length = l.length) {i : Nat} (hi : i < l.length) : (prt z l i).getD i 0 = l.getD i 0 := by
  unfold prt
  rw [List.getD_eq_getElem?_getD, List.getElem?_append_right (by rw [List.length_take]; omega), List.length_take, Nat.min_eq_left (by omega), Nat.sub_self, List.getElem?_drop, Nat.add_zero, ← List.getD_eq_getElem?_getD]
theorem prt_set {z l : List Int} (h : z.length = l.length) {i : Nat} (hi : i < l.length) : (prt z l i).set i (z.getD i 0) = prt z l (i + 1) := by
  unfold prt
  have hz : i < z.length := by omega
  rw [List.set_append_right _ _ (by rw [List.length_take]; omega), List.length_take, Nat.min_eq_left (by omega), Nat.sub_self, List.drop_eq_getElem_cons hi, List.set_cons_zero, List.take_succ_eq_append_getElem hz, List.append_assoc]
  rw [List.getD_eq_getElem?_getD, List.getElem?_eq_getElem hz]; rfl
theorem zip_len (f : Int → Int → Int) {l m : List Int} (h : m.length = l.length) : (List.zipWith f l m).length = l.length := by rw [List.length_zipWith]; omega
theorem zip_get (f : Int → Int → Int) {l m : List Int} (h : m.length = l.length) {i : Nat} (hi : i < l.length) : (List.zipWith f l m).getD i 0 = f (l.getD i 0) (m.getD i 0) := by
  have hm : i < m.length := by omega
  rw [List.getD_eq_getElem?_getD, List.getD_eq_getElem?_getD, List.getD_eq_getElem?_getD, List.getElem?_zipWith, List.getElem?_eq_getElem hi, List.getElem?_eq_getElem hm]; rfl
theorem zip_rng {f : Int → Int → Int} (hf : ∀ a b, f a b = a ∨ f a b = b) {l m : List Int} (hl : Rng l) (hm : Rng m) : Rng (List.zipWith f l m) := by
  intro x hx
  obtain ⟨j, hj, he⟩ := List.mem_iff_getElem.1 hx
  rw [List.getElem_zipWith] at he
  rw [List.length_zipWith] at hj
  rcases hf l[j] m[j] with h | h
  · rw [h] at he; rw [← he]; exact hl _ (List.getElem_mem _)
  · rw [h] at he; rw [← he]; exact hm _ (List.getElem_mem _)
theorem mn_or (a b : Int) : mn a b = a ∨ mn a b = b := by unfold mn; split <;> simp
theorem mx_or (a b : Int) : mx a b = a ∨ mx a b = b := by unfold mx; split <;> simp
theorem mn_tms {s : Int} (hs : 1 ≤ s) (a b : Int) : mn (tms s a) (tms s b) = tms s (mn a b) := by
  unfold mn tms
  by_cases h : b < a
  · rw [if_pos h, if_pos ((lt_scaled hs).2 h)]
  · rw [if_neg h, if_neg (fun q => h ((lt_scaled hs).1 q))]
theorem mx_tms {s : Int} (hs : 1 ≤ s) (a b : Int) : mx (tms s a) (tms s b) = tms s (mx a b) := by
  unfold mx tms
  by_cases h : a < b
  · rw [if_pos h, if_pos ((lt_scaled hs).2 h)]
  · rw [if_neg h, if_neg (fun q => h ((lt_scaled hs).1 q))]
theorem zip_tms {f : Int → Int → Int} {s : Int} (hf : ∀ a b, f (tms s a) (tms s b) = tms s (f a b)) : ∀ l m : List Int, List.zipWith f (l.map (tms s)) (m.map (tms s)) = (List.zipWith f l m).map (tms s)
  | [], _ => rfl
  | _ :: _, [] => rfl
  | a :: l, b :: m => by
    simp only [List.map_cons, List.zipWith_cons_cons]
    rw [hf, zip_tms hf l m]
theorem l1Least_eq (a b : Int) : spec_l1Least.f a b = some (mn a b) := by
  unfold spec_l1Least.f mn
  by_cases h : a < b
  · rw [if_pos h, if_neg (by omega)]
  · rw [if_neg h]
    by_cases h2 : b < a
    · rw [if_pos h2]
    · rw [if_neg h2, show a = b by omega]
theorem l1Most_eq (a b : Int) : spec_l1Most.f a b = some (mx a b) := by
  unfold spec_l1Most.f mx
  by_cases h : a > b
  · rw [if_pos h, if_neg (by omega)]
  · rw [if_neg h]
    by_cases h2 : a < b
    · rw [if_pos h2]
    · rw [if_neg h2, show a = b by omega]
theorem pow_even (d : Nat) : (2 : Int) ^ (d + 1) = 2 * 2 ^ d := by rw [Int.pow_succ, Int.mul_comm]
theorem tms_even (d : Nat) (l : List Int) : (l.map (tms (2 ^ (d + 1)))).any impl_boxOf.p = false := by
  rw [List.any_eq_false]
  intro x hx
  obtain ⟨y, _, rfl⟩ := List.mem_map.1 hx
  rw [← p_iff]
  unfold tms
  rw [pow_even, show y * (2 * 2 ^ d) = 2 * (y * 2 ^ d) by rw [Int.mul_left_comm]]
  exact Int.mul_tmod_right _ _
theorem tms_half (d : Nat) (l : List Int) : (l.map (tms (2 ^ (d + 1)))).map half = l.map (tms (2 ^ d)) := by
  rw [List.map_map]
  congr 1
  funext x
  show Int.tdiv (x * 2 ^ (d + 1)) 2 = x * 2 ^ d
  rw [pow_even, show x * (2 * 2 ^ d) = 2 * (x * 2 ^ d) by rw [Int.mul_left_comm]]
  exact Int.mul_tdiv_cancel_left _ (by decide)
theorem boxR_scale (L H : List Int) (m : Nat) : ∀ d : Nat, boxR (m + d) (L.map (tms (2 ^ d))) (H.map (tms (2 ^ d))) = boxR m L H
  | 0 => by
    have h : ∀ l : List Int, l.map (tms (2 ^ 0)) = l := fun l => by
      have : tms (2 ^ 0) = id := by funext x; show x * 1 = x; omega
      rw [this, List.map_id]
    rw [h, h, Nat.add_zero]
  | d + 1 => by
    rw [show m + (d + 1) = (m + d) + 1 by omega, boxR_even (by rw [List.any_append, tms_even, tms_even]; decide), tms_half, tms_half]
    exact boxR_scale L H m d
end Go.Proofs.Ytgaoniapddpaaaa.PD
