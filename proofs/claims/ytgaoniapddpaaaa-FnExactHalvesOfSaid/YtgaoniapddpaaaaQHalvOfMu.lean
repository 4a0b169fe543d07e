import Derived.Test.YtgaoniapddpaaaaQHalvOfPDx1
import Derived.Test.YtgaoniapddpaaaaQHalvOfMq
/- What boxOf makes of two rows, and what a law writes over a box's rows and reads again: plain lemmas on the printed functions. -/
namespace Go.Proofs.Ytgaoniapddpaaaa.PD
open Go.RowKit Go.Proofs.YtgaoniapddpaaaaW.PrintWords Go.Proofs.YtgaoniapddpaaaaW.PrintLast Go.Proofs.YtgaoniapddpaaaaW.PrintMore
theorem eqIS_ev {l : List Int} (hl : l.length ≤ 1000000) : Ev (fun K => laws_eqIntS.f K l l) true := by
  have key : ∀ (d i K : Nat), i + d = l.length → d < K → laws_eqIntS.l0 K l l (i : Int) = some true := by
    intro d
    induction d with
    | zero =>
      intro i K hi hK
      obtain ⟨K, rfl⟩ : ∃ j, K = j + 1 := ⟨K - 1, by omega⟩
      simp only [laws_eqIntS.l0]
      rw [if_neg (by omega)]
    | succ d ih =>
      intro i K hi hK
      obtain ⟨K, rfl⟩ : ∃ j, K = j + 1 := ⟨K - 1, by omega⟩
      simp only [laws_eqIntS.l0]
      rw [if_pos (by omega), if_pos (by omega), if_pos (by omega), if_pos trivial]
      rw [w64 (by omega) (by omega), show (i : Int) + 1 = ((i + 1 : Nat) : Int) by omega]
      exact ih (i + 1) K (by omega) (by omega)
  refine ⟨l.length + 1, fun K hK => ?_⟩
  dsimp only; unfold laws_eqIntS.f
  rw [if_pos rfl]
  exact key l.length 0 _ (by omega) (by omega)
/-- The numbers from v on. -/
def mkV (v : Int) (n : Nat) : List Int := (List.range n).map fun (i : Nat) => v + (i : Int)
theorem mkV_len (v : Int) (n : Nat) : (mkV v n).length = n := by unfold mkV; rw [List.length_map, List.length_range]
theorem mkV_get {v : Int} {n i : Nat} (h : i < n) : (mkV v n)[i]? = some (v + (i : Int)) := by
  unfold mkV
  rw [List.getElem?_map, List.getElem?_range h]; rfl
theorem markV_ev {l : List Int} (hl : l.length ≤ 1000000) {v : Int} (v0 : 0 ≤ v) (v1 : v ≤ 100000000) : Ev (fun K => laws_markIntS.f K l v) (v + (l.length : Int), mkV v l.length) := by
  have key : ∀ (d i K : Nat) (x : List Int), i + d = l.length → x.length = l.length → x.take i = (mkV v l.length).take i → d < K → laws_markIntS.l0 K x (v + (i : Int)) (i : Int) = some (v + (l.length : Int), mkV v l.length) := by
    intro d
    induction d with
    | zero =>
      intro i K x hi hx ht hK
      obtain ⟨K, rfl⟩ : ∃ j, K = j + 1 := ⟨K - 1, by omega⟩
      simp only [laws_markIntS.l0]
      have hil : i = l.length := by omega
      subst hil
      rw [if_neg (by omega)]
      rw [List.take_of_length_le (by omega), List.take_of_length_le (by rw [mkV_len]; omega)] at ht
      rw [ht]
    | succ d ih =>
      intro i K x hi hx ht hK
      obtain ⟨K, rfl⟩ : ∃ j, K = j + 1 := ⟨K - 1, by omega⟩
      have hil : i < l.length := by omega
      simp only [laws_markIntS.l0]
      rw [if_pos (by omega), if_pos (by omega), Int.toNat_natCast]
      rw [w64 (x := v + (i : Int) + 1) (by omega) (by omega), w64 (x := (i : Int) + 1) (by omega) (by omega)]
      rw [show v + (i : Int) + 1 = v + ((i + 1 : Nat) : Int) by omega, show (i : Int) + 1 = ((i + 1 : Nat) : Int) by omega]
      refine ih (i + 1) K _ (by omega) (by rw [List.length_set]; omega) ?_ (by omega)
      rw [List.take_add_one, List.take_add_one, List.take_set_of_le (Nat.le_refl _), ht, mkV_get hil, List.getElem?_set_self (by omega)]
  refine ⟨l.length + 1, fun K hK => ?_⟩
  dsimp only; unfold laws_markIntS.f
  have := key l.length 0 K l (by omega) rfl (by simp) (by omega)
  rw [show v + ((0 : Nat) : Int) = v by omega] at this
  exact this
theorem heldV_ev {n : Nat} (hn : n ≤ 1000000) {v : Int} (v0 : 0 ≤ v) (v1 : v ≤ 100000000) : Ev (fun K => laws_heldIntS.f K (mkV v n) v) (v + (n : Int)) := by
  have hl := mkV_len v n
  have key : ∀ (d i K : Nat), i + d = n → d < K → laws_heldIntS.l0 K (mkV v n) (v + (i : Int)) (i : Int) = some (v + (n : Int)) := by
    intro d
    induction d with
    | zero =>
      intro i K hi hK
      obtain ⟨K, rfl⟩ : ∃ j, K = j + 1 := ⟨K - 1, by omega⟩
      simp only [laws_heldIntS.l0]
      have hil : i = n := by omega
      subst hil
      rw [if_neg (by omega)]
    | succ d ih =>
      intro i K hi hK
      obtain ⟨K, rfl⟩ : ∃ j, K = j + 1 := ⟨K - 1, by omega⟩
      have hil : i < n := by omega
      have hr : rd (mkV v n) (i : Int) = v + (i : Int) := by
        unfold rd
        rw [Int.toNat_natCast, List.getD_eq_getElem?_getD, mkV_get hil]; rfl
      simp only [laws_heldIntS.l0]
      rw [if_pos (by omega), if_pos (by omega), hr, if_pos rfl]
      rw [w64 (x := v + (i : Int) + 1) (by omega) (by omega), w64 (x := (i : Int) + 1) (by omega) (by omega)]
      rw [show v + (i : Int) + 1 = v + ((i + 1 : Nat) : Int) by omega, show (i : Int) + 1 = ((i + 1 : Nat) : Int) by omega]
      exact ih (i + 1) K (by omega) (by omega)
  refine ⟨n + 1, fun K hK => ?_⟩
  dsimp only; unfold laws_heldIntS.f
  have := key n 0 K (by omega) (by omega)
  rw [show v + ((0 : Nat) : Int) = v by omega] at this
  exact this
theorem eqBox_ev (k : Int) {L H : List Int} (hL : L.length ≤ 1000000) (hH : H.length ≤ 1000000) : Ev (fun K => laws_eqBox.f K k L H k L H) true := by
  obtain ⟨K1, e1⟩ := eqIS_ev hL
  obtain ⟨K2, e2⟩ := eqIS_ev hH
  dsimp only at e1 e2
  refine ⟨K1 + K2, fun K hK => ?_⟩
  dsimp only; unfold laws_eqBox.f
  rw [if_pos rfl, e1 _ (by omega)]; simp only [bs', if_true]
  rw [e2 _ (by omega)]; simp only [bs', if_true]
theorem markBoxV_ev (k : Int) {L H : List Int} (hL : L.length ≤ 1000000) (hH : H.length ≤ 1000000) {v : Int} (v0 : 0 ≤ v) (v1 : v ≤ 10000000) : Ev (fun K => laws_markBox.f K k L H v) (v + (L.length : Int) + (H.length : Int), mkV v L.length, mkV (v + (L.length : Int)) H.length) := by
  obtain ⟨K1, e1⟩ := markV_ev hL v0 (by omega)
  obtain ⟨K2, e2⟩ := markV_ev hH (v := v + (L.length : Int)) (by omega) (by omega)
  dsimp only at e1 e2
  refine ⟨K1 + K2, fun K hK => ?_⟩
  dsimp only; unfold laws_markBox.f
  rw [e1 _ (by omega)]; simp only [bs']
  rw [e2 _ (by omega)]; simp only [bs']
/-- The first place of those from i on. -/
def fnd (p : Int → Bool) (l : List Int) : Nat → Nat → Int
  | 0, _ => -1
  | d + 1, i => if p (l.getD i 0) = true then (i : Int) else fnd p l d (i + 1)
theorem fnd_any (p : Int → Bool) (l : List Int) : ∀ (d i : Nat), i + d = l.length → (fnd p l d i ≥ 0 ↔ (l.drop i).any p = true) := by
  intro d
  induction d with
  | zero =>
    intro i hi
    rw [List.drop_of_length_le (by omega)]
    simp [fnd]
  | succ d ih =>
    intro i hi
    have hil : i < l.length := by omega
    have he : l.getD i 0 = l[i] := by rw [List.getD_eq_getElem?_getD, List.getElem?_eq_getElem hil]; rfl
    rw [List.drop_eq_getElem_cons hil, List.any_cons]
    unfold fnd
    by_cases hp : p (l.getD i 0) = true
    · rw [if_pos hp]
      rw [he] at hp
      rw [hp]; simp
    · rw [if_neg hp, ih (i + 1) (by omega)]
      rw [he] at hp
      rw [Bool.eq_false_iff.mpr hp, Bool.false_or]
theorem fnd_ix_b {l : List Int} (hl : l.length ≤ 4000000) : ∀ (d i K : Nat), i + d = l.length → d < K → impl_boxOf.ix K l (i : Int) = some (fnd impl_boxOf.p l d i) := by
  intro d
  induction d with
  | zero =>
    intro i K hi hK
    obtain ⟨K, rfl⟩ : ∃ j, K = j + 1 := ⟨K - 1, by omega⟩
    simp only [impl_boxOf.ix, fnd]
    rw [if_neg (by omega)]
  | succ d ih =>
    intro i K hi hK
    obtain ⟨K, rfl⟩ : ∃ j, K = j + 1 := ⟨K - 1, by omega⟩
    simp only [impl_boxOf.ix, fnd]
    rw [if_pos (by omega), if_pos (by omega), rd_at]
    by_cases hp : impl_boxOf.p (l.getD i 0) = true
    · rw [if_pos hp, if_pos hp]
    · rw [if_neg hp, if_neg hp, w64 (by omega) (by omega), show (i : Int) + 1 = ((i + 1 : Nat) : Int) by omega]
      exact ih (i + 1) K (by omega) (by omega)
theorem ix_ev_b {l : List Int} (hl : l.length ≤ 4000000) : ∃ r, Ev (fun K => impl_boxOf.ix K l 0) r ∧ (r ≥ 0 ↔ l.any impl_boxOf.p = true) := by
  refine ⟨fnd impl_boxOf.p l l.length 0, ⟨l.length + 1, fun K hK => ?_⟩, ?_⟩
  · exact fnd_ix_b hl l.length 0 K (by omega) (by omega)
  · have := fnd_any impl_boxOf.p l l.length 0 (by omega)
    rw [List.drop_zero] at this
    exact this
def half (x : Int) : Int := Int.tdiv x 2
def Rng (l : List Int) : Prop := ∀ x ∈ l, -9223372036854775808 ≤ x ∧ x ≤ 9223372036854775807
theorem half_rng {x : Int} (h : -9223372036854775808 ≤ x ∧ x ≤ 9223372036854775807) : -9223372036854775808 ≤ half x ∧ half x ≤ 9223372036854775807 := by
  unfold half
  rcases Int.lt_or_le x 0 with h0 | h0
  · have e : Int.tdiv x 2 = -(Int.tdiv (-x) 2) := by rw [Int.neg_tdiv]; omega
    rw [e, Int.tdiv_eq_ediv_of_nonneg (by omega)]; omega
  · rw [Int.tdiv_eq_ediv_of_nonneg h0]; omega
theorem Rng.half {l : List Int} (h : Rng l) : Rng (l.map half) := by
  intro x hx
  obtain ⟨y, hy, rfl⟩ := List.mem_map.1 hx
  exact half_rng (h y hy)
theorem Rng.at_ {l : List Int} (h : Rng l) {i : Nat} (hi : i < l.length) : -9223372036854775808 ≤ l.getD i 0 ∧ l.getD i 0 ≤ 9223372036854775807 := by
  rw [List.getD_eq_getElem?_getD, List.getElem?_eq_getElem hi]
  exact h _ (List.getElem_mem hi)
/-- A list halved up to i. -/
def part (l : List Int) (i : Nat) : List Int := (l.take i).map half ++ l.drop i
theorem part_len (l : List Int) (i : Nat) : (part l i).length = l.length := by unfold part; rw [List.length_append, List.length_map, List.length_take, List.length_drop]; omega
theorem part_zero (l : List Int) : part l 0 = l := by simp [part]
theorem part_all {l : List Int} {i : Nat} (h : l.length ≤ i) : part l i = l.map half := by unfold part; rw [List.take_of_length_le h, List.drop_of_length_le h, List.append_nil]
theorem part_get {l : List Int} {i : Nat} (h : i < l.length) : (part l i).getD i 0 = l.getD i 0 := by
  unfold part
  rw [List.getD_eq_getElem?_getD, List.getElem?_append_right (by rw [List.length_map, List.length_take]; omega), List.length_map, List.length_take, Nat.min_eq_left (by omega), Nat.sub_self, List.getElem?_drop, Nat.add_zero, ← List.getD_eq_getElem?_getD]
theorem part_set {l : List Int} {i : Nat} (h : i < l.length) : (part l i).set i (half (l.getD i 0)) = part l (i + 1) := by
  unfold part
  rw [List.set_append_right _ _ (by rw [List.length_map, List.length_take]; omega), List.length_map, List.length_take, Nat.min_eq_left (by omega), Nat.sub_self, List.drop_eq_getElem_cons h, List.set_cons_zero, List.take_succ_eq_append_getElem h, List.map_append, List.append_assoc]
  rw [List.getD_eq_getElem?_getD, List.getElem?_eq_getElem h]; rfl
theorem hv_ev {l : List Int} (hl : l.length ≤ 1000000) (hr : Rng l) : Ev (fun K => impl_boxOf.hv K (l.length : Int) l 0) (l.map half) := by
  have key : ∀ (d i K : Nat), i + d = l.length → d < K → impl_boxOf.hv K (l.length : Int) (part l i) (i : Int) = some (l.map half) := by
    intro d
    induction d with
    | zero =>
      intro i K hi hK
      obtain ⟨K, rfl⟩ : ∃ j, K = j + 1 := ⟨K - 1, by omega⟩
      simp only [impl_boxOf.hv]
      rw [if_neg (by omega), part_all (by omega)]
    | succ d ih =>
      intro i K hi hK
      obtain ⟨K, rfl⟩ : ∃ j, K = j + 1 := ⟨K - 1, by omega⟩
      have hil : i < l.length := by omega
      have hb := half_rng (hr.at_ hil)
      simp only [impl_boxOf.hv]
      rw [if_pos (by omega), if_pos (by omega), if_pos (by rw [part_len]; omega), rd_at, part_get hil, Int.toNat_natCast]
      rw [w64 (x := Int.tdiv (l.getD i 0) 2) hb.1 hb.2, w64 (x := (i : Int) + 1) (by omega) (by omega), show (i : Int) + 1 = ((i + 1 : Nat) : Int) by omega]
      have hs := part_set hil
      unfold half at hs
      rw [hs]
      exact ih (i + 1) K (by omega) (by omega)
  refine ⟨l.length + 1, fun K hK => ?_⟩
  have := key l.length 0 K (by omega) (by omega)
  rw [part_zero] at this
  exact this
def mkB : Nat → List Int → List Int → Nat × List Int × List Int
  | 0, L, H => (0, L, H)
  | k + 1, L, H => if (L ++ H).any impl_boxOf.p = true then (k + 1, L, H) else mkB k (L.map half) (H.map half)
/-- The box with the least K, if it is one. -/
def boxR (k : Nat) (L H : List Int) : Int × List Int × List Int × Bool := if goodB ((mkB k L H).1 : Int) (mkB k L H).2.1 (mkB k L H).2.2 = true then (((mkB k L H).1 : Int), (mkB k L H).2.1, (mkB k L H).2.2, true) else (0, [], [], false)
theorem boxR_len (k : Nat) (L H : List Int) : (boxR k L H).2.1.length ≤ 3 ∧ (boxR k L H).2.2.1.length ≤ 3 := by
  unfold boxR
  split
  · next h =>
    have G := goodB_ok h
    have l3 := G.l3
    have hl := G.hl
    exact ⟨l3, by show (mkB k L H).2.2.length ≤ 3; omega⟩
  · exact ⟨by simp, by simp⟩
theorem boxR_odd {k : Nat} {L H : List Int} (h : k = 0 ∨ (L ++ H).any impl_boxOf.p = true) : boxR k L H = if goodB (k : Int) L H = true then ((k : Int), L, H, true) else (0, [], [], false) := by
  have e : mkB k L H = (k, L, H) := by
    cases k with
    | zero => rfl
    | succ k =>
      unfold mkB
      rcases h with h | h
      · omega
      · rw [if_pos h]
  unfold boxR
  rw [e]
theorem boxR_even {k : Nat} {L H : List Int} (h : ¬ (L ++ H).any impl_boxOf.p = true) : boxR (k + 1) L H = boxR k (L.map half) (H.map half) := by
  have e : mkB (k + 1) L H = mkB k (L.map half) (H.map half) := by
    show (if (L ++ H).any impl_boxOf.p = true then (k + 1, L, H) else mkB k (L.map half) (H.map half)) = _
    rw [if_neg h]
  unfold boxR
  rw [e]
theorem fin_ev (k : Nat) (L H : List Int) (hL : L.length ≤ 1000000) : Ev (fun K => impl_boxOf.fin K (k : Int) L H) (if goodB (k : Int) L H = true then ((k : Int), L, H, true) else (0, [], [], false)) := by
  obtain ⟨K1, e1⟩ := (bxGood_ev (k : Int) L H (by omega)).2
  dsimp only at e1
  refine ⟨K1, fun K hK => ?_⟩
  dsimp only; unfold impl_boxOf.fin
  rw [e1 _ hK]; simp only [bs']
  split <;> rfl
theorem boxOf_l0 : ∀ (k : Nat) (L H : List Int), k ≤ 1000000 → L.length ≤ 1000000 → H.length ≤ 1000000 → Rng L → Rng H → Ev (fun K => impl_boxOf.l0 K (k : Int) L H) (boxR k L H) := by
  intro k
  induction k with
  | zero =>
    intro L H hk hL hH rL rH
    obtain ⟨K1, e1⟩ := fin_ev 0 L H hL
    dsimp only at e1
    refine ⟨K1 + 1, fun K hK => ?_⟩
    obtain ⟨K, rfl⟩ : ∃ j, K = j + 1 := ⟨K - 1, by omega⟩
    simp only [impl_boxOf.l0]
    rw [if_neg (by omega), boxR_odd (.inl rfl)]
    exact e1 K (by omega)
  | succ k ih =>
    intro L H hk hL hH rL rH
    obtain ⟨r, ⟨K1, e1⟩, hr⟩ := ix_ev_b (l := L ++ H) (by rw [List.length_append]; omega)
    dsimp only at e1
    by_cases hp : (L ++ H).any impl_boxOf.p = true
    · obtain ⟨K2, e2⟩ := fin_ev (k + 1) L H hL
      dsimp only at e2
      refine ⟨K1 + K2 + 1, fun K hK => ?_⟩
      obtain ⟨K, rfl⟩ : ∃ j, K = j + 1 := ⟨K - 1, by omega⟩
      simp only [impl_boxOf.l0]
      rw [if_pos (by omega), if_pos (by omega), e1 K (by omega)]; simp only [bs']
      rw [if_pos (hr.2 hp), boxR_odd (.inr hp)]
      exact e2 K (by omega)
    · obtain ⟨K2, e2⟩ := hv_ev hL rL
      obtain ⟨K3, e3⟩ := hv_ev hH rH
      obtain ⟨K4, e4⟩ := ih (L.map half) (H.map half) (by omega) (by rw [List.length_map]; exact hL) (by rw [List.length_map]; exact hH) rL.half rH.half
      dsimp only at e2 e3 e4
      refine ⟨K1 + K2 + K3 + K4 + 1, fun K hK => ?_⟩
      obtain ⟨K, rfl⟩ : ∃ j, K = j + 1 := ⟨K - 1, by omega⟩
      simp only [impl_boxOf.l0]
      rw [if_pos (by omega), if_pos (by omega), e1 K (by omega)]; simp only [bs']
      rw [if_neg (fun h => hp (hr.1 h)), e2 K (by omega)]; simp only [bs']
      rw [e3 K (by omega)]; simp only [bs']
      rw [boxR_even hp, w64 (by omega) (by omega), show ((k + 1 : Nat) : Int) - 1 = (k : Int) by omega]
      exact e4 K (by omega)
theorem boxOf_ev {k : Nat} {L H : List Int} (hk : k ≤ 1000000) (hL : L.length ≤ 1000000) (hH : H.length ≤ 1000000) (rL : Rng L) (rH : Rng H) : Ev (fun K => impl_boxOf.f K (k : Int) L H) (boxR k L H) := by
  obtain ⟨K1, e1⟩ := boxOf_l0 k L H hk hL hH rL rH
  dsimp only at e1
  refine ⟨K1, fun K hK => ?_⟩
  dsimp only; unfold impl_boxOf.f
  rw [if_pos (by omega)]
  exact e1 K hK
theorem p_iff (x : Int) : (Int.tmod x 2 = 0) ↔ ¬ impl_boxOf.p x = true := by unfold impl_boxOf.p; simp
theorem bxEven_ev (k : Int) {L H : List Int} (hL : L.length ≤ 1000000) (hH : H.length = L.length) : Ev (fun K => spec_bxEven.f K k L H) (!(L ++ H).any impl_boxOf.p) := by
  have key : ∀ (d i K : Nat), i + d = L.length → d < K → spec_bxEven.l0 K L (L.length : Int) (i : Int) k L H = some (!((L.drop i).any impl_boxOf.p || (H.drop i).any impl_boxOf.p)) := by
    intro d
    induction d with
    | zero =>
      intro i K hi hK
      obtain ⟨K, rfl⟩ : ∃ j, K = j + 1 := ⟨K - 1, by omega⟩
      simp only [spec_bxEven.l0]
      rw [if_neg (by omega), List.drop_of_length_le (by omega), List.drop_of_length_le (by omega)]; rfl
    | succ d ih =>
      intro i K hi hK
      obtain ⟨K, rfl⟩ : ∃ j, K = j + 1 := ⟨K - 1, by omega⟩
      have hil : i < L.length := by omega
      have hih : i < H.length := by omega
      have heL : L.getD i 0 = L[i] := by rw [List.getD_eq_getElem?_getD, List.getElem?_eq_getElem hil]; rfl
      have heH : H.getD i 0 = H[i] := by rw [List.getD_eq_getElem?_getD, List.getElem?_eq_getElem hih]; rfl
      simp only [spec_bxEven.l0]
      rw [if_pos (by omega), if_pos (by omega), if_pos (by omega), rd_at, rd_at, heL, heH, List.drop_eq_getElem_cons hil, List.drop_eq_getElem_cons hih, List.any_cons, List.any_cons]
      by_cases h1 : impl_boxOf.p L[i] = true
      · rw [if_neg (fun h => (p_iff _).1 h h1), h1]; rfl
      · rw [if_pos ((p_iff _).2 h1), if_pos (by omega), Bool.eq_false_iff.mpr h1, Bool.false_or]
        by_cases h2 : impl_boxOf.p H[i] = true
        · rw [if_neg (fun h => (p_iff _).1 h h2), h2, Bool.true_or, Bool.or_true]; rfl
        · rw [if_pos ((p_iff _).2 h2), Bool.eq_false_iff.mpr h2, Bool.false_or, w64 (by omega) (by omega), show (i : Int) + 1 = ((i + 1 : Nat) : Int) by omega]
          exact ih (i + 1) K (by omega) (by omega)
  refine ⟨L.length + 1, fun K hK => ?_⟩
  dsimp only; unfold spec_bxEven.f
  have := key L.length 0 K (by omega) (by omega)
  rw [List.drop_zero, List.drop_zero] at this
  rw [List.any_append]
  exact this
theorem bxMake_l1 {L H : List Int} (hL : L.length ≤ 1000000) (hH : H.length = L.length) (rL : Rng L) (rH : Rng H) (k : Int) {r : Int × List Int × List Int × Bool} {K1 : Nat} (e1 : ∀ K, K1 ≤ K → spec_bxMake.l0 K k (L.map half) (H.map half) = some r) : ∀ (d i K : Nat), i + d = L.length → d + K1 < K → spec_bxMake.l1 K (L.length : Int) (i : Int) k (part L i) (part H i) = some r := by
  intro d
  induction d with
  | zero =>
    intro i K hi hK
    obtain ⟨K, rfl⟩ : ∃ j, K = j + 1 := ⟨K - 1, by omega⟩
    simp only [spec_bxMake.l1]
    rw [if_neg (by omega), part_all (by omega), part_all (by omega)]
    exact e1 K (by omega)
  | succ d ih =>
    intro i K hi hK
    obtain ⟨K, rfl⟩ : ∃ j, K = j + 1 := ⟨K - 1, by omega⟩
    have hil : i < L.length := by omega
    have hih : i < H.length := by omega
    have hb := half_rng (rL.at_ hil)
    have hc := half_rng (rH.at_ hih)
    simp only [spec_bxMake.l1]
    rw [if_pos (by omega), if_pos (by omega), if_pos (by rw [part_len]; omega), if_pos (by rw [part_len]; omega), rd_at, rd_at, part_get hil, part_get hih, Int.toNat_natCast]
    rw [w64 (x := Int.tdiv (L.getD i 0) 2) hb.1 hb.2, w64 (x := Int.tdiv (H.getD i 0) 2) hc.1 hc.2, w64 (x := (i : Int) + 1) (by omega) (by omega), show (i : Int) + 1 = ((i + 1 : Nat) : Int) by omega]
    have hs := part_set hil
    have ht := part_set hih
    unfold half at hs ht
    rw [hs, ht]
    exact ih (i + 1) K (by omega) (by omega)
theorem bxMake_l0 : ∀ (k : Nat) (L H : List Int), k ≤ 1000000 → L.length ≤ 1000000 → H.length = L.length → Rng L → Rng H → Ev (fun K => spec_bxMake.l0 K (k : Int) L H) (boxR k L H) := by
  have fin : ∀ (k : Nat) (L H : List Int), L.length ≤ 1000000 → Ev (fun K => spec_bxMake.j1 K false (k : Int) L H) (if goodB (k : Int) L H = true then ((k : Int), L, H, true) else (0, [], [], false)) := by
    intro k L H hL
    obtain ⟨K1, e1⟩ := (bxGood_ev (k : Int) L H (by omega)).1
    dsimp only at e1
    refine ⟨K1 + 1, fun K hK => ?_⟩
    obtain ⟨K, rfl⟩ : ∃ j, K = j + 1 := ⟨K - 1, by omega⟩
    simp only [spec_bxMake.j1]
    rw [if_neg (by decide), e1 _ (by omega)]; simp only [bs']
    split <;> rfl
  intro k
  induction k with
  | zero =>
    intro L H hk hL hH rL rH
    obtain ⟨K1, e1⟩ := fin 0 L H hL
    dsimp only at e1
    refine ⟨K1 + 1, fun K hK => ?_⟩
    obtain ⟨K, rfl⟩ : ∃ j, K = j + 1 := ⟨K - 1, by omega⟩
    simp only [spec_bxMake.l0]
    rw [if_neg (by omega), boxR_odd (.inl rfl)]
    exact e1 K (by omega)
  | succ k ih =>
    intro L H hk hL hH rL rH
    obtain ⟨K1, e1⟩ := bxEven_ev ((k + 1 : Nat) : Int) hL hH
    dsimp only at e1
    by_cases hp : (L ++ H).any impl_boxOf.p = true
    · obtain ⟨K2, e2⟩ := fin (k + 1) L H hL
      dsimp only at e2
      refine ⟨K1 + K2 + 1, fun K hK => ?_⟩
      obtain ⟨K, rfl⟩ : ∃ j, K = j + 1 := ⟨K - 1, by omega⟩
      simp only [spec_bxMake.l0]
      rw [if_pos (by omega), e1 K (by omega)]; simp only [bs']
      rw [hp, boxR_odd (.inr hp)]
      exact e2 K (by omega)
    · obtain ⟨K2, e2⟩ := ih (L.map half) (H.map half) (by omega) (by rw [List.length_map]; exact hL) (by rw [List.length_map, List.length_map]; exact hH) rL.half rH.half
      dsimp only at e2
      refine ⟨K1 + K2 + L.length + 4, fun K hK => ?_⟩
      obtain ⟨K, rfl⟩ : ∃ j, K = j + 1 := ⟨K - 1, by omega⟩
      simp only [spec_bxMake.l0]
      rw [if_pos (by omega), e1 K (by omega)]; simp only [bs']
      rw [Bool.eq_false_iff.mpr hp]
      obtain ⟨K, rfl⟩ : ∃ j, K = j + 1 := ⟨K - 1, by omega⟩
      simp only [spec_bxMake.j1, Bool.not_false]
      rw [if_pos trivial, boxR_even hp, w64 (by omega) (by omega), show ((k + 1 : Nat) : Int) - 1 = (k : Int) by omega]
      have := bxMake_l1 hL hH rL rH (k : Int) e2 L.length 0 K (by omega) (by omega)
      rw [part_zero, part_zero] at this
      exact this
theorem l1Own_eq {l : List Int} (h : l.length ≤ 1000000) : spec_l1Own.f l = some l := by
  unfold spec_l1Own.f
  simp only [bs']
  rw [if_pos (by simp; omega)]; rfl
theorem bxMake_ev {k : Nat} {L H : List Int} (hk : k ≤ 1000000) (hL : L.length ≤ 1000000) (hH : H.length = L.length) (rL : Rng L) (rH : Rng H) : Ev (fun K => spec_bxMake.f K (k : Int) L H) (boxR k L H) := by
  obtain ⟨K1, e1⟩ := bxMake_l0 k L H hk hL hH rL rH
  dsimp only at e1
  refine ⟨K1, fun K hK => ?_⟩
  dsimp only; unfold spec_bxMake.f
  rw [l1Own_eq hL, bs', l1Own_eq (by omega), bs']
  exact e1 K hK
end Go.Proofs.Ytgaoniapddpaaaa.PD
