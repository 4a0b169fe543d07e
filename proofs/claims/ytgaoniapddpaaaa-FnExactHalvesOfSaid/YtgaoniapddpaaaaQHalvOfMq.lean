import Derived.Test.YtgaoniapddpaaaaQHalvOfPDx1
import Derived.Test.YtgaoniapddpaaaaQHalvOfMa
/- Boxes: what the law lays and looks at, and when a box is valid: plain lemmas on the printed functions. -/
namespace Go.Proofs.Ytgaoniapddpaaaa.PD
open Go.RowKit Go.Proofs.YtgaoniapddpaaaaW.PrintWords Go.Proofs.YtgaoniapddpaaaaW.PrintLast Go.Proofs.YtgaoniapddpaaaaW.PrintMore
/-- As Option.bind_some, but no rfl lemma: the kernel is not asked to unfold the callee. -/
theorem bs' {α β : Type} (a : α) (f : α → Option β) : (some a).bind f = f a := id (Option.bind_some a f)
theorem room_le (n : Nat) : room n ≤ n + 1 := by unfold room; split <;> (try split) <;> omega
theorem room_at (n : Nat) : laws_roomBehind.f (n : Int) = some (room n : Int) := by
  unfold laws_roomBehind.f room
  rw [Int.tmod_eq_emod_of_nonneg (by omega), Int.tmod_eq_emod_of_nonneg (by omega)]
  by_cases h : n % 6 = 5
  · rw [if_pos (by omega), if_pos h]; rfl
  · rw [if_neg (by omega), if_neg h]
    by_cases h2 : n % 3 = 0
    · rw [if_pos (by omega), if_pos h2]; rfl
    · rw [if_neg (by omega), if_neg h2]
theorem rd_at {l : List Int} {i : Nat} : rd l (i : Int) = l.getD i 0 := by unfold rd; rw [Int.toNat_natCast]
theorem toIntS_l1 {l x : List Int} (hx : x.length ≤ 35184372088832) (hl : l.length ≤ x.length) : ∀ (d i K : Nat) (y : List Int), i + d = x.length → l.length ≤ i → y.length = x.length → y.take l.length = l → d < K → laws_toIntS.l1 K l y (i : Int) = some l := by
  intro d
  induction d with
  | zero =>
    intro i K y hi hli hy ht hK
    obtain ⟨K, rfl⟩ : ∃ j, K = j + 1 := ⟨K - 1, by omega⟩
    simp only [laws_toIntS.l1]
    rw [if_neg (by omega), if_pos (by omega), if_pos (by omega), Int.toNat_natCast, ht]
  | succ d ih =>
    intro i K y hi hli hy ht hK
    obtain ⟨K, rfl⟩ : ∃ j, K = j + 1 := ⟨K - 1, by omega⟩
    simp only [laws_toIntS.l1]
    rw [if_pos (by omega), if_pos (by omega), w64 (by omega) (by omega), show (i : Int) + 1 = ((i + 1 : Nat) : Int) by omega, Int.toNat_natCast]
    refine ih (i + 1) K _ (by omega) (by omega) (by rw [List.length_set]; omega) ?_ (by omega)
    rw [List.take_set_of_le (by omega), ht]
theorem toIntS_l0 {l : List Int} (hl : l.length ≤ 1000000) : ∀ (d i K : Nat) (x : List Int), i + d = l.length → x.length = l.length + room l.length → x.take i = l.take i → d + room l.length + 1 < K → laws_toIntS.l0 K l x (i : Int) = some l := by
  have hr := room_le l.length
  intro d
  induction d with
  | zero =>
    intro i K x hi hx ht hK
    obtain ⟨K, rfl⟩ : ∃ j, K = j + 1 := ⟨K - 1, by omega⟩
    simp only [laws_toIntS.l0]
    rw [if_neg (by omega)]
    have hil : i = l.length := by omega
    subst hil
    exact toIntS_l1 (by omega) (by omega) (room l.length) l.length K x (by omega) (by omega) rfl (by rw [ht, List.take_length]) (by omega)
  | succ d ih =>
    intro i K x hi hx ht hK
    obtain ⟨K, rfl⟩ : ∃ j, K = j + 1 := ⟨K - 1, by omega⟩
    have hil : i < l.length := by omega
    simp only [laws_toIntS.l0]
    rw [if_pos (by omega), if_pos (by omega), if_pos (by omega), w64 (by omega) (by omega), show (i : Int) + 1 = ((i + 1 : Nat) : Int) by omega, Int.toNat_natCast, rd_at]
    refine ih (i + 1) K _ (by omega) (by rw [List.length_set]; omega) ?_ (by omega)
    rw [List.take_succ_eq_append_getElem (by rw [List.length_set]; omega), List.take_succ_eq_append_getElem hil, List.take_set_of_le (Nat.le_refl _), ht]
    simp [List.getD_eq_getElem?_getD, List.getElem?_eq_getElem hil]
theorem toIntS_ev {l : List Int} (hl : l.length ≤ 1000000) (b : Bool) : Ev (fun K => laws_toIntS.f K l b) l := by
  have hr := room_le l.length
  refine ⟨l.length + room l.length + 4, fun K hK => ?_⟩
  obtain ⟨K, rfl⟩ : ∃ j, K = j + 1 := ⟨K - 1, by omega⟩
  have j0 : ∀ z : Bool, (z = true → l = []) → laws_toIntS.j0 (K + 1) l z = some l := by
    intro z hz
    simp only [laws_toIntS.j0]
    by_cases h : z = true
    · rw [if_pos h, hz h]
    · rw [if_neg h, room_at]; simp only [bs']
      rw [w64 (by omega) (by omega), if_pos (by omega), if_pos (by omega)]
      exact toIntS_l0 hl l.length 0 K _ (by omega) (by rw [List.length_replicate]; omega) (by simp) (by omega)
  dsimp only; unfold laws_toIntS.f
  by_cases hb : b = true
  · rw [if_pos hb]
    refine j0 _ (fun h => ?_)
    have : l.length = 0 := by have := beq_iff_eq.1 h; omega
    exact List.length_eq_zero_iff.1 this
  · rw [if_neg hb]
    exact j0 false (fun h => by cases h)
theorem toBox_ev {k : Int} {L H : List Int} (hL : L.length ≤ 1000000) (hH : H.length ≤ 1000000) (b : Bool) : Ev (fun K => laws_toBox.f K k L H b) (k, L, H) := by
  obtain ⟨K0, h0⟩ := toIntS_ev hL b
  obtain ⟨K1, h1⟩ := toIntS_ev hH b
  dsimp only at h0 h1
  refine ⟨K0 + K1, fun K hK => ?_⟩
  dsimp only; unfold laws_toBox.f
  rw [h0 K (by omega)]; simp only [bs']
  rw [h1 K (by omega)]; simp only [bs']
theorem szInt_eq {l : List Int} (hl : l.length ≤ 9223372036854775807) {n : Int} (h0 : 0 ≤ n) (h1 : n ≤ 1000000) : laws_szIntS.f l n = some (if (l.length : Int) ≤ n then n - l.length else -1) := by
  unfold laws_szIntS.f
  rw [w64 (by omega) (by omega)]
  by_cases h : (l.length : Int) ≤ n
  · rw [if_neg (by omega), if_pos h]
  · rw [if_pos (by omega), if_neg h]
/-- The law's bound: it answers at once, or both lists are short. -/
theorem szBox_eq {k : Int} {L H : List Int} (hL : L.length ≤ 9223372036854775807) (hH : H.length ≤ 9223372036854775807) : ∃ t, laws_szBox.f k L H 1000000 = some t ∧ (t < 0 ∨ (0 ≤ t ∧ L.length ≤ 1000000 ∧ H.length ≤ 1000000)) := by
  unfold laws_szBox.f
  rw [szInt_eq hL (by omega) (by omega)]; simp only [bs']
  by_cases h : (L.length : Int) ≤ 1000000
  · rw [if_pos h, if_neg (by omega), szInt_eq hH (by omega) (by omega)]; simp only [bs']
    by_cases h2 : (H.length : Int) ≤ 1000000 - L.length
    · rw [if_pos h2, if_neg (by omega)]
      exact ⟨_, rfl, .inr ⟨by omega, by omega, by omega⟩⟩
    · rw [if_neg h2, if_pos (by omega)]
      exact ⟨_, rfl, .inl (by omega)⟩
  · rw [if_neg h, if_pos (by omega)]
    exact ⟨_, rfl, .inl (by omega)⟩
theorem intactBox_self (k : Int) (L H : List Int) : laws_intactBox.f k L H k L H = some true := by
  unfold laws_intactBox.f laws_intactIntS.f
  rw [if_pos rfl, if_pos rfl]; simp
/-! when a box is valid -/
/-- One side. -/
def okS (m x y : Int) : Bool := decide (-m ≤ x ∧ x ≤ m ∧ -m ≤ y ∧ y ≤ m ∧ x < y)
def odS (x y : Int) : Bool := decide (x % 2 ≠ 0) || decide (y % 2 ≠ 0)
/-- The sides from i on, d of them. -/
def bxRun (m : Int) (L H : List Int) : Nat → Nat → Bool → Bool
  | 0, _, o => o
  | d + 1, i, o => if okS m (L.getD i 0) (H.getD i 0) = true then bxRun m L H d (i + 1) (o || odS (L.getD i 0) (H.getD i 0)) else false
theorem od_eq {α : Type} (x4 : Bool) (x y : Int) (F : Bool → α) : (if x4 = true then F true else (if (Int.tmod x 2) = 0 then F ((Int.tmod y 2) != 0) else F true)) = F (x4 || odS x y) := by
  have hy : ((Int.tmod y 2) != 0) = decide (y % 2 ≠ 0) := by
    rw [Bool.eq_iff_iff, bne_iff_ne, decide_eq_true_iff, Ne, tmod_two]
  unfold odS
  cases x4
  · rw [if_neg (by decide)]
    by_cases h : x % 2 = 0
    · rw [if_pos (tmod_two.2 h), hy, decide_eq_false (show ¬ x % 2 ≠ 0 by omega)]; rfl
    · rw [if_neg (fun e => h (tmod_two.1 e)), decide_eq_true h]; rfl
  · rw [if_pos rfl]; rfl
theorem bxGood_l0 {m : Int} (hm0 : 0 ≤ m) (hm : m ≤ 1000000) (k : Int) {L H : List Int} (hL : L.length ≤ 3) (hH : H.length = L.length) : ∀ (d i K : Nat) (o : Bool), i + d = L.length → d < K →
    spec_bxGood.l0 K m o L (L.length : Int) (i : Int) k L H = some (bxRun m L H d i o) ∧ impl_isBox.l0 K m o L (L.length : Int) (i : Int) k L H = some (bxRun m L H d i o, k) := by
  intro d
  induction d with
  | zero =>
    intro i K o hi hK
    obtain ⟨K, rfl⟩ : ∃ j, K = j + 1 := ⟨K - 1, by omega⟩
    constructor
    · simp only [spec_bxGood.l0]; rw [if_neg (by omega)]; rfl
    · simp only [impl_isBox.l0]; rw [if_neg (by omega)]; rfl
  | succ d ih =>
    intro i K o hi hK
    obtain ⟨K, rfl⟩ : ∃ j, K = j + 1 := ⟨K - 1, by omega⟩
    have hw : wrap64 ((i : Int) + 1) = ((i + 1 : Nat) : Int) := by rw [w64 (by omega) (by omega)]; omega
    have hm' : wrap64 (-m) = -m := w64 (by omega) (by omega)
    have hok := fun (x y : Int) (hx : -m ≤ x ∧ x ≤ m) => (show decide (x + 1 ≤ y ∧ y ≤ m) = okS m x y by unfold okS; exact decide_eq_decide.2 ⟨fun h => by omega, fun h => by omega⟩)
    constructor
    · simp only [spec_bxGood.l0]
      rw [if_pos (by omega), if_pos (by omega), if_pos (by omega), if_pos (by omega), rd_at, rd_at, l1In_eq, l1In_eq, hm', hw]; simp only [bs', decide_eq_true_eq]
      unfold bxRun
      by_cases h1 : -m ≤ L.getD i 0 ∧ L.getD i 0 ≤ m
      · by_cases h2 : -m ≤ H.getD i 0 ∧ H.getD i 0 ≤ m
        · by_cases h3 : L.getD i 0 ≥ H.getD i 0
          · have hk : ¬ okS m (L.getD i 0) (H.getD i 0) = true := by unfold okS; rw [decide_eq_true_iff]; omega
            rw [if_pos h1, if_pos h2, if_pos h3, if_neg hk]
          · have hk : okS m (L.getD i 0) (H.getD i 0) = true := by unfold okS; rw [decide_eq_true_iff]; omega
            rw [if_pos h1, if_pos h2, if_neg h3, if_pos hk]
            exact (od_eq o (L.getD i 0) (H.getD i 0) (fun z => spec_bxGood.l0 K m z L (L.length : Int) ((i + 1 : Nat) : Int) k L H)).trans (ih (i + 1) K _ (by omega) (by omega)).1
        · have hk : ¬ okS m (L.getD i 0) (H.getD i 0) = true := by unfold okS; rw [decide_eq_true_iff]; omega
          rw [if_pos h1, if_neg h2, if_neg hk]
      · have hk : ¬ okS m (L.getD i 0) (H.getD i 0) = true := by unfold okS; rw [decide_eq_true_iff]; omega
        rw [if_neg h1, if_neg hk]
    · simp only [impl_isBox.l0]
      rw [if_pos (by omega), if_pos (by omega), if_pos (by omega), rd_at, rd_at, inside_eq, hm', hw]; simp only [bs', decide_eq_true_eq]
      unfold bxRun
      by_cases h1 : -m ≤ L.getD i 0 ∧ L.getD i 0 ≤ m
      · rw [if_pos h1, if_pos (by omega), inside_eq, w64 (x := L.getD i 0 + 1) (by omega) (by omega), hok _ _ h1]; simp only [bs']
        by_cases h2 : okS m (L.getD i 0) (H.getD i 0) = true
        · rw [if_pos h2, if_pos h2]
          exact (od_eq o (L.getD i 0) (H.getD i 0) (fun z => impl_isBox.l0 K m z L (L.length : Int) ((i + 1 : Nat) : Int) k L H)).trans (ih (i + 1) K _ (by omega) (by omega)).2
        · rw [if_neg h2, if_neg h2]
      · have hk : ¬ okS m (L.getD i 0) (H.getD i 0) = true := by unfold okS; rw [decide_eq_true_iff]; omega
        rw [if_neg h1, if_neg hk]
theorem bxRun_ok {m : Int} {L H : List Int} : ∀ (d i : Nat) (o : Bool), bxRun m L H d i o = true → (∀ j, i ≤ j → j < i + d → okS m (L.getD j 0) (H.getD j 0) = true) ∧ (o = true ∨ ∃ j, i ≤ j ∧ j < i + d ∧ odS (L.getD j 0) (H.getD j 0) = true) := by
  intro d
  induction d with
  | zero => intro i o h; exact ⟨fun j h1 h2 => by omega, .inl h⟩
  | succ d ih =>
    intro i o h
    unfold bxRun at h
    by_cases h1 : okS m (L.getD i 0) (H.getD i 0) = true
    · rw [if_pos h1] at h
      obtain ⟨h2, h3⟩ := ih (i + 1) _ h
      refine ⟨fun j hj hj2 => ?_, ?_⟩
      · by_cases e : j = i
        · subst e; exact h1
        · exact h2 j (by omega) (by omega)
      · rcases h3 with h3 | ⟨j, j1, j2, j3⟩
        · rcases Bool.or_eq_true_iff.1 h3 with h4 | h4
          · exact .inl h4
          · exact .inr ⟨i, by omega, by omega, h4⟩
        · exact .inr ⟨j, by omega, by omega, j3⟩
    · rw [if_neg h1] at h; cases h
/-- A valid box. -/
structure BoxOk (k : Int) (L H : List Int) : Prop where
  k0 : 0 ≤ k
  k8 : k ≤ 8
  l1 : 1 ≤ L.length
  l3 : L.length ≤ 3
  hl : H.length = L.length
  side : ∀ j, j < L.length → okS (8 * 2 ^ k.toNat) (L.getD j 0) (H.getD j 0) = true
  odd : k = 0 ∨ ∃ j, j < L.length ∧ odS (L.getD j 0) (H.getD j 0) = true
def goodB (k : Int) (L H : List Int) : Bool := decide (0 ≤ k ∧ k ≤ 8 ∧ 1 ≤ L.length ∧ L.length ≤ 3 ∧ H.length = L.length) && bxRun (8 * 2 ^ k.toNat) L H L.length 0 (decide (k = 0))
theorem goodB_ok {k : Int} {L H : List Int} (h : goodB k L H = true) : BoxOk k L H := by
  obtain ⟨h1, h2⟩ := Bool.and_eq_true_iff.1 h
  obtain ⟨a, b, c, d, e⟩ := of_decide_eq_true h1
  obtain ⟨h3, h4⟩ := bxRun_ok _ _ _ h2
  refine ⟨a, b, c, d, e, fun j hj => h3 j (by omega) (by omega), ?_⟩
  rcases h4 with h4 | ⟨j, j1, j2, j3⟩
  · exact .inl (of_decide_eq_true h4)
  · exact .inr ⟨j, by omega, j3⟩
theorem pow8 {k : Int} (h0 : 0 ≤ k) (h8 : k ≤ 8) : (1 : Int) ≤ 2 ^ k.toNat ∧ (2 : Int) ^ k.toNat ≤ 256 := by
  have := Nat.pow_le_pow_right (show 0 < 2 by decide) (show k.toNat ≤ 8 by omega)
  have h1 := Nat.two_pow_pos k.toNat
  have e : (2 : Int) ^ k.toNat = ((2 ^ k.toNat : Nat) : Int) := by simp
  rw [e]
  generalize 2 ^ k.toNat = q at *
  have h2 : q ≤ 256 := this
  omega
theorem beq_zero_decide (k : Int) : (k == 0) = decide (k = 0) := by rw [Bool.eq_iff_iff, beq_iff_eq, decide_eq_true_iff]
theorem bxGood_ev (k : Int) (L H : List Int) (hL : L.length ≤ 9223372036854775807) : Ev (fun K => spec_bxGood.f K k L H) (goodB k L H) ∧ Ev (fun K => impl_isBox.f K k L H) (goodB k L H, k) := by
  by_cases h : 0 ≤ k ∧ k ≤ 8 ∧ 1 ≤ L.length ∧ L.length ≤ 3 ∧ H.length = L.length
  · obtain ⟨a, b, c, d, e⟩ := h
    obtain ⟨p1, p2⟩ := pow8 a b
    have hr := fun K (hK : 10 ≤ K) => bxGood_l0 (m := 8 * 2 ^ k.toNat) (by omega) (by omega) k d e L.length 0 K (decide (k = 0)) (by omega) (by omega)
    have hg : goodB k L H = bxRun (8 * 2 ^ k.toNat) L H L.length 0 (decide (k = 0)) := by
      unfold goodB; rw [decide_eq_true ⟨a, b, c, d, e⟩, Bool.true_and]
    obtain ⟨n, rfl⟩ := Int.eq_ofNat_of_zero_le a
    constructor
    · refine ⟨12, fun K hK => ?_⟩
      obtain ⟨K, rfl⟩ : ∃ j, K = j + 1 := ⟨K - 1, by omega⟩
      dsimp only; unfold spec_bxGood.f
      rw [l1In_eq, decide_eq_true ⟨a, b⟩]; simp only [bs', if_true]
      rw [l1In_eq, decide_eq_true (show (1 : Int) ≤ (L.length : Int) ∧ (L.length : Int) ≤ 3 by omega)]; simp only [bs', if_true]
      rw [show ((H.length : Int) != (L.length : Int)) = false by rw [e]; simp]
      simp only [spec_bxGood.j0]
      rw [if_neg (by decide), dyPower_eq n (by omega)]; simp only [bs']
      rw [Int.toNat_natCast] at p1 p2 hr hg
      rw [w64 (by omega) (by omega), beq_zero_decide, hg]
      exact (hr K (by omega)).1
    · refine ⟨12, fun K hK => ?_⟩
      obtain ⟨K, rfl⟩ : ∃ j, K = j + 1 := ⟨K - 1, by omega⟩
      dsimp only; unfold impl_isBox.f
      rw [inside_eq, decide_eq_true ⟨a, b⟩]; simp only [bs', if_true]
      rw [inside_eq, decide_eq_true (show (1 : Int) ≤ (L.length : Int) ∧ (L.length : Int) ≤ 3 by omega)]; simp only [bs', if_true]
      rw [show ((H.length : Int) != (L.length : Int)) = false by rw [e]; simp]
      simp only [impl_isBox.j0]
      rw [Int.toNat_natCast] at p1 p2 hr hg
      have hs : shl .i64 8 (n : Int) = 8 * 2 ^ n := by
        unfold shl
        rw [Int.toNat_natCast, Nat.min_eq_left (by show n ≤ 64; omega), i64_w, w64 (by omega) (by omega)]
      rw [if_neg (by decide), if_pos (by omega), hs, beq_zero_decide, hg]
      exact (hr K (by omega)).2
  · have hg : goodB k L H = false := by unfold goodB; rw [decide_eq_false h, Bool.false_and]
    rw [hg]
    constructor
    · refine ⟨1, fun K hK => ?_⟩
      obtain ⟨K, rfl⟩ : ∃ j, K = j + 1 := ⟨K - 1, by omega⟩
      have j0 : ∀ z : Bool, z = true → spec_bxGood.j0 (K + 1) z k L H = some false := fun z hz => by simp only [spec_bxGood.j0]; rw [if_pos hz]
      dsimp only; unfold spec_bxGood.f
      rw [l1In_eq]; simp only [bs', decide_eq_true_eq]
      by_cases h1 : 0 ≤ k ∧ k ≤ 8
      · rw [if_pos h1, l1In_eq]; simp only [bs', decide_eq_true_eq]
        by_cases h2 : (1 : Int) ≤ (L.length : Int) ∧ (L.length : Int) ≤ 3
        · rw [if_pos h2]
          refine j0 _ ?_
          rw [bne_iff_ne]; omega
        · rw [if_neg h2]; exact j0 _ rfl
      · rw [if_neg h1]; exact j0 _ rfl
    · refine ⟨1, fun K hK => ?_⟩
      obtain ⟨K, rfl⟩ : ∃ j, K = j + 1 := ⟨K - 1, by omega⟩
      have j0 : ∀ z : Bool, z = true → impl_isBox.j0 (K + 1) z k L H = some (false, k) := fun z hz => by simp only [impl_isBox.j0]; rw [if_pos hz]
      dsimp only; unfold impl_isBox.f
      rw [inside_eq]; simp only [bs', decide_eq_true_eq]
      by_cases h1 : 0 ≤ k ∧ k ≤ 8
      · rw [if_pos h1, inside_eq]; simp only [bs', decide_eq_true_eq]
        by_cases h2 : (1 : Int) ≤ (L.length : Int) ∧ (L.length : Int) ≤ 3
        · rw [if_pos h2]
          refine j0 _ ?_
          rw [bne_iff_ne]; omega
        · rw [if_neg h2]; exact j0 _ rfl
      · rw [if_neg h1]; exact j0 _ rfl
end Go.Proofs.Ytgaoniapddpaaaa.PD
